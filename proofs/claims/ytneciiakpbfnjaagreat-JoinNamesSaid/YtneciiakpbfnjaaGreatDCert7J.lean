/- Printed by decomp.py: that the program computes the functions. -/
import Derived.Test.YtneciiakpbfnjaaGreatDCert0J
import Derived.Test.YtneciiakpbfnjaaGreatDCert2J
import Derived.Test.YtneciiakpbfnjaaGreatDCert5J
import Derived.Test.YtneciiakpbfnjaaGreatDCert6J
set_option linter.all false
set_option linter.unusedVariables false
namespace Go.Av.Tryz
open Go.Proofs Go.D
set_option maxRecDepth 10000
set_option maxHeartbeats 4000000

theorem task_Check_L4_ok {Q : AExit → St → Mu → Prop} {μ : Mu} (y4_o0 : GTask) (y4_179 : (List GEntry)) (hl : List.length y4_179 ≤ 140737488355328) : ∀ (xs : List GEntry) (k : Nat) (hx : y4_179.drop k = xs) (y4_11 : Bool) (o : task_Check_L4_o) (h : task_Check_L4 y4_o0 y4_179 xs k y4_11 = some o)
  (C0 : ∀ (z4_0_11 : Bool), o = task_Check_L4_o.x0 z4_0_11 → SemK Tryz.prog 202 0 Q (.exit (.exit 8)) [] ⟨fr [(11, (aB z4_0_11))], hp ([]), 0⟩ μ),
  SemK Tryz.prog 202 0 Q (.loop (loopB 4 (bodyOf Tryz.f34))) [] ⟨fr [(1, (AV.ptr 0 0 0)), (11, (aB y4_11)), (179, (AV.list false (List.map enc_GEntry y4_179))), (180, (aI .i64 (List.length y4_179 : Int))), (181, (aI .i64 (k : Int)))], hp ([(0, { es := [(enc_GTask false y4_o0)], esz := 9 })]), 1⟩ μ := by
 intro xs
 induction xs with
 | nil =>
  intro k hx y4_11 o h C0
  have hk := drop_nil hx
  have hc : decide ((k : Int) < (List.length y4_179 : Int)) = false := decide_eq_false (by omega)
  rw [task_Check_L4] at h
  refine SemK.round ?_
  obtain rfl := Option.some.inj h
  refine runT tmD [.br false] ?_
  exact wkT [] (C0 _  rfl)
 | cons x xs ih =>
  intro k hx y4_11 o h C0
  obtain ⟨hk, hg, hx1⟩ := drop_cons hx
  have hc : decide ((k : Int) < (List.length y4_179 : Int)) = true := decide_eq_true (by omega)
  rw [task_Check_L4] at h
  refine SemK.round ?_
  refine bindE h ?_
  clear h; intro j183_11 h186 h
  refine runT tmD [.br true, .el (enc_GEntry x), .stop 30] ?_
  refine SemK.join (s' := ⟨fr [(1, (AV.ptr 0 0 0)), (11, (aB j183_11)), (179, (AV.list false (List.map enc_GEntry y4_179))), (180, (aI .i64 (List.length y4_179 : Int))), (181, (aI .i64 (k : Int)))], hp ([(0, { es := [(enc_GTask false y4_o0)], esz := 9 })]), 1⟩) ?_ (fun J => SemK.cut ?_)
  ·
   refine runT tmD [] ?_
   exact wkT [] (ih (k + 1) hx1 _ o h C0)
  ·
   clear h
   have h := h186
   refine brE h ?_ ?_
   ·clear h; intro h184 h
    refine brE h ?_ ?_
    ·clear h; intro h185 h
     obtain rfl := Option.some.inj h
     refine runT tmD [.go true, .go true, .go true, .go true, .go true, .go false, .go false, .go false, .go false, .go false, .go true] ?_
     exact wkT [] (SemK.glue J)
    ·clear h; intro h185 h
     obtain rfl := Option.some.inj h
     refine runT tmD [.go true, .go true, .go true, .go true, .go true, .go true, .go true, .ix 1, .go true, .go true, .go true, .go true] ?_
     exact wkT [] (SemK.glue J)
   ·clear h; intro h184 h
    obtain rfl := Option.some.inj h
    refine runT tmD [.go false, .go false, .go false, .go false, .go false, .go false, .go false, .go false, .go false, .go false, .go false] ?_
    exact wkT [] (SemK.glue J)

theorem task_Check_ok (a0 : GTask) (r : Int) (h : task_Check a0 = some r) : Pure Tryz.prog 34 [(enc_GTask false a0)] (aI .i64 r) := by
 refine Pure.sym tyTab_ok fn34 (nt := 202) rfl rfl ?_ (allCons (free_GTask false _ _).1 allNil)
 unfold task_Check at h
 refine bindE h ?_
 clear h; intro v1 h2 h
 refine bindE h ?_
 clear h; intro j17_10 h32 h
 refine run_to tmD 4000 [.pure [(aI .u8 a0.Op.Kind)] (AV.tup [(aI .i64 v1.1), (aI .i64 v1.2.1), (aB v1.2.2.1), (aB v1.2.2.2.1), (aB v1.2.2.2.2.1), (aB v1.2.2.2.2.2)]), .stop 3] rfl (by repeat' first | refine And.intro ?_ ?_ | exact (PureCall.none (task_limits_ok _ _ h2) (Cvs.cons .sc Cvs.nil)) | exact oblA) ?_
 refine SemK.join (s' := ⟨fr [(1, (AV.ptr 0 0 0)), (9, (aB (bif (bif (bif (decide (a0.Turn ≥ (0 : Int))) then (decide (a0.Turn < (20 : Int))) else false) then (decide (a0.Op.N ≥ (0 : Int))) else false) then (decide (a0.Op.N < (4 : Int))) else false))), (10, (aB j17_10))], hp ([(0, { es := [(enc_GTask false a0)], esz := 9 })]), 1⟩) ?_ (fun J => SemK.cut ?_)
 ·
  refine bindE h ?_
  clear h; intro j40_120 h48 h
  refine runT tmD [.stop 4] ?_
  refine SemK.join (s' := ⟨fr [(1, (AV.ptr 0 0 0)), (120, (aB j40_120))], hp ([(0, { es := [(enc_GTask false a0)], esz := 9 })]), 1⟩) ?_ (fun J => SemK.cut ?_)
  ·
   refine brE h ?_ ?_
   ·clear h; intro h49 h
    obtain rfl := Option.some.inj h
    refine runT tmD [.br true] ?_
    refine fin_ret rfl ?_
    exact .sc
   ·clear h; intro h49 h
    refine bindE h ?_
    clear h; intro u50 h51 h
    have qh51 := lenOk_le h51
    refine bindE h ?_
    clear h; intro o77 h78 h
    refine runT tmD [.br false, .el (aI .i64 (List.length a0.Marks : Int))] ?_
    refine wkT [] (SemK.cut (task_Check_L0_ok a0 a0.Marks qh51 a0.Marks 0 (by simp) _ _ h78 ?_))
    ·intro z0_0_11 eo77; subst eo77
     refine SemK.glue ?_
     try dsimp only at h
     refine bindE h ?_
     clear h; intro u79 h80 h
     have qh80 := lenOk_le h80
     refine bindE h ?_
     clear h; intro o106 h107 h
     refine runT tmD [.el (aI .i64 (List.length a0.Events : Int))] ?_
     refine wkT [] (SemK.cut (task_Check_L1_ok a0 a0.Events qh80 a0.Events 0 (by simp) _ _ h107 ?_))
     ·intro z1_0_11 eo106; subst eo106
      refine SemK.glue ?_
      try dsimp only at h
      refine bindE h ?_
      clear h; intro u108 h109 h
      have qh109 := lenOk_le h109
      refine bindE h ?_
      clear h; intro o135 h136 h
      refine runT tmD [.el (aI .i64 (List.length a0.Rows : Int))] ?_
      refine wkT [] (SemK.cut (task_Check_L2_ok a0 a0.Rows qh109 a0.Rows 0 (by simp) _ _ h136 ?_))
      ·intro z2_0_11 eo135; subst eo135
       refine SemK.glue ?_
       try dsimp only at h
       refine bindE h ?_
       clear h; intro u137 h138 h
       have qh138 := lenOk_le h138
       refine bindE h ?_
       clear h; intro o164 h165 h
       refine runT tmD [.el (aI .i64 (List.length a0.Late : Int))] ?_
       refine wkT [] (SemK.cut (task_Check_L3_ok a0 a0.Late qh138 a0.Late 0 (by simp) _ _ h165 ?_))
       ·intro z3_0_11 eo164; subst eo164
        refine SemK.glue ?_
        try dsimp only at h
        refine bindE h ?_
        clear h; intro u166 h167 h
        have qh167 := lenOk_le h167
        refine bindE h ?_
        clear h; intro o187 h188 h
        refine runT tmD [.el (aI .i64 (List.length a0.Store : Int))] ?_
        refine wkT [] (SemK.cut (task_Check_L4_ok a0 a0.Store qh167 a0.Store 0 (by simp) _ _ h188 ?_))
        ·intro z4_0_11 eo187; subst eo187
         refine SemK.glue ?_
         try dsimp only at h
         refine brE h ?_ ?_
         ·clear h; intro h189 h
          obtain rfl := Option.some.inj h
          refine runT tmD [.br true] ?_
          refine fin_ret rfl ?_
          exact .sc
         ·clear h; intro h189 h
          obtain rfl := Option.some.inj h
          refine runT tmD [.br false] ?_
          refine fin_ret rfl ?_
          exact .sc
  ·
   clear h
   have h := h48
   refine brE h ?_ ?_
   ·clear h; intro h41 h
    obtain rfl := Option.some.inj h
    refine run_to tmD 4000 [.go false, .go false, .go false, .go false, .go false, .go false, .go false, .go false, .go false, .go false] rfl (by repeat' first | refine And.intro ?_ ?_ | exact ((bif_t h41 rfl)) | exact (bnot_of (bif_t h41 rfl)) | exact (absN (bif_t h41 rfl)) | exact ((bif_t (bif_t h41 rfl) rfl)) | exact (bnot_of (bif_t (bif_t h41 rfl) rfl)) | exact (absN (bif_t (bif_t h41 rfl) rfl)) | exact oblA) ?_
    exact wkT [] (SemK.glue J)
   ·clear h; intro h41 h
    refine brE h ?_ ?_
    ·clear h; intro h42 h
     obtain rfl := Option.some.inj h
     refine run_to tmD 4000 [.go true, .go true, .go false, .go false, .go false, .go false, .go false, .go false, .go false, .go false] rfl (by repeat' first | refine And.intro ?_ ?_ | exact ((bif_f h41 h42)) | exact (bnot_of (bif_f h41 h42)) | exact (absN (bif_f h41 h42)) | exact ((bif_t (bif_f h41 h42) rfl)) | exact (bnot_of (bif_t (bif_f h41 h42) rfl)) | exact (absN (bif_t (bif_f h41 h42) rfl)) | exact oblA) ?_
     exact wkT [] (SemK.glue J)
    ·clear h; intro h42 h
     refine bindE h ?_
     clear h; intro v43 h44 h
     refine brE h ?_ ?_
     ·clear h; intro h45 h
      obtain rfl := Option.some.inj h
      refine run_to tmD 4000 [.go true, .go true, .go true, .go true, .go true, .pure [(AV.list false (List.map enc_GSend a0.Pending))] (aB v43), .go true, .go false, .go false, .go false, .go false] rfl (by repeat' first | refine And.intro ?_ ?_ | exact ((bif_f h41 h42)) | exact (bnot_of (bif_f h41 h42)) | exact (PureCall.none (task_sends_ok _ _ h44) (Cvs.cons (cv_list (flat_map flat_GSend a0.Pending)) Cvs.nil)) | exact (absT (bif_f h41 h42)) | exact ((bif_f (bif_f h41 h42) h45)) | exact (bnot_of (bif_f (bif_f h41 h42) h45)) | exact (absN (bif_f (bif_f h41 h42) h45)) | exact oblA) ?_
      exact wkT [] (SemK.glue J)
     ·clear h; intro h45 h
      refine bindE h ?_
      clear h; intro v46 h47 h
      obtain rfl := Option.some.inj h
      refine run_to tmD 4000 [.go true, .go true, .go true, .go true, .go true, .pure [(AV.list false (List.map enc_GSend a0.Pending))] (aB v43), .go true, .go true, .go true, .go true, .pure [(AV.list false (List.map enc_GEntry a0.Store))] (aI .i64 v46), .go true] rfl (by repeat' first | refine And.intro ?_ ?_ | exact ((bif_f h41 h42)) | exact (bnot_of (bif_f h41 h42)) | exact (PureCall.none (task_sends_ok _ _ h44) (Cvs.cons (cv_list (flat_map flat_GSend a0.Pending)) Cvs.nil)) | exact (absT (bif_f h41 h42)) | exact ((bif_f (bif_f h41 h42) h45)) | exact (bnot_of (bif_f (bif_f h41 h42) h45)) | exact (PureCall.none (store_Check_ok _ _ h47) (Cvs.cons (cv_list (flat_map flat_GEntry a0.Store)) Cvs.nil)) | exact (absT (bif_f (bif_f h41 h42) h45)) | exact oblA) ?_
      exact wkT [] (SemK.glue J)
 ·
  clear h
  have h := h32
  refine brE h ?_ ?_
  ·clear h; intro h18 h
   refine brE h ?_ ?_
   ·clear h; intro h19 h
    refine brE h ?_ ?_
    ·clear h; intro h20 h
     refine bindE h ?_
     clear h; intro v21 h22 h
     refine brE h ?_ ?_
     ·clear h; intro h23 h
      refine bindE h ?_
      clear h; intro v24 h25 h
      refine brE h ?_ ?_
      ·clear h; intro h26 h
       refine bindE h ?_
       clear h; intro v27 h28 h
       refine brE h ?_ ?_
       ·clear h; intro h29 h
        refine bindE h ?_
        clear h; intro v30 h31 h
        obtain rfl := Option.some.inj h
        refine run_to tmD 4000 [.el (aI .i64 (List.length a0.Pending : Int)), .go true, .go true, .go true, .el (aI .i64 (List.length a0.Marks : Int)), .go true, .go true, .go true, .go true, .go true, .el (aI .i64 (List.length a0.Marks : Int)), .go true, .go true, .go true, .go true, .go true, .el (aI .i64 (List.length a0.Store : Int)), .go true, .go true, .pure [(aB v1.2.2.1), (aI .i64 4000)] (aI .i64 v21), .go true, .go true, .go true, .go true, .el (aI .i64 (List.length a0.Events : Int)), .go true, .go true, .pure [(aB v1.2.2.2.1), (aI .i64 60)] (aI .i64 v24), .go true, .go true, .go true, .go true, .el (aI .i64 (List.length a0.Rows : Int)), .go true, .go true, .pure [(aB v1.2.2.2.2.1), (aI .i64 4000)] (aI .i64 v27), .go true, .go true, .go true, .go true, .el (aI .i64 (List.length a0.Late : Int)), .go true, .go true, .pure [(aB v1.2.2.2.2.2), (aI .i64 4000)] (aI .i64 v30), .go true] rfl (by repeat' first | refine And.intro ?_ ?_ | exact (PureCall.none (task_limits_ok _ _ h2) (Cvs.cons .sc Cvs.nil)) | exact ((bif_t h18 h19)) | exact (bnot_of (bif_t h18 h19)) | exact (absN (bif_t h18 h19)) | exact ((bif_t (bif_t h18 h19) h20)) | exact (bnot_of (bif_t (bif_t h18 h19) h20)) | exact (PureCall.none (task_room_ok _ _ _ h22) (Cvs.cons .sc (Cvs.cons .sc Cvs.nil))) | exact (absN (bif_t (bif_t h18 h19) h20)) | exact ((bif_t (bif_t (bif_t h18 h19) h20) h23)) | exact (bnot_of (bif_t (bif_t (bif_t h18 h19) h20) h23)) | exact (PureCall.none (task_room_ok _ _ _ h25) (Cvs.cons .sc (Cvs.cons .sc Cvs.nil))) | exact (absN (bif_t (bif_t (bif_t h18 h19) h20) h23)) | exact ((bif_t (bif_t (bif_t (bif_t h18 h19) h20) h23) h26)) | exact (bnot_of (bif_t (bif_t (bif_t (bif_t h18 h19) h20) h23) h26)) | exact (PureCall.none (task_room_ok _ _ _ h28) (Cvs.cons .sc (Cvs.cons .sc Cvs.nil))) | exact (absN (bif_t (bif_t (bif_t (bif_t h18 h19) h20) h23) h26)) | exact ((bif_t (bif_t (bif_t (bif_t (bif_t h18 h19) h20) h23) h26) h29)) | exact (bnot_of (bif_t (bif_t (bif_t (bif_t (bif_t h18 h19) h20) h23) h26) h29)) | exact (PureCall.none (task_room_ok _ _ _ h31) (Cvs.cons .sc (Cvs.cons .sc Cvs.nil))) | exact (absN (bif_t (bif_t (bif_t (bif_t (bif_t h18 h19) h20) h23) h26) h29)) | exact oblA) ?_
        exact wkT [] (SemK.glue J)
       ·clear h; intro h29 h
        obtain rfl := Option.some.inj h
        refine run_to tmD 4000 [.el (aI .i64 (List.length a0.Pending : Int)), .go true, .go true, .go true, .el (aI .i64 (List.length a0.Marks : Int)), .go true, .go true, .go true, .go true, .go true, .el (aI .i64 (List.length a0.Marks : Int)), .go true, .go true, .go true, .go true, .go true, .el (aI .i64 (List.length a0.Store : Int)), .go true, .go true, .pure [(aB v1.2.2.1), (aI .i64 4000)] (aI .i64 v21), .go true, .go true, .go true, .go true, .el (aI .i64 (List.length a0.Events : Int)), .go true, .go true, .pure [(aB v1.2.2.2.1), (aI .i64 60)] (aI .i64 v24), .go true, .go true, .go true, .go true, .el (aI .i64 (List.length a0.Rows : Int)), .go true, .go true, .pure [(aB v1.2.2.2.2.1), (aI .i64 4000)] (aI .i64 v27), .go true, .go false, .go false, .go false, .go false, .go false, .go false, .go false] rfl (by repeat' first | refine And.intro ?_ ?_ | exact (PureCall.none (task_limits_ok _ _ h2) (Cvs.cons .sc Cvs.nil)) | exact ((bif_t h18 h19)) | exact (bnot_of (bif_t h18 h19)) | exact (absN (bif_t h18 h19)) | exact ((bif_t (bif_t h18 h19) h20)) | exact (bnot_of (bif_t (bif_t h18 h19) h20)) | exact (PureCall.none (task_room_ok _ _ _ h22) (Cvs.cons .sc (Cvs.cons .sc Cvs.nil))) | exact (absN (bif_t (bif_t h18 h19) h20)) | exact ((bif_t (bif_t (bif_t h18 h19) h20) h23)) | exact (bnot_of (bif_t (bif_t (bif_t h18 h19) h20) h23)) | exact (PureCall.none (task_room_ok _ _ _ h25) (Cvs.cons .sc (Cvs.cons .sc Cvs.nil))) | exact (absN (bif_t (bif_t (bif_t h18 h19) h20) h23)) | exact ((bif_t (bif_t (bif_t (bif_t h18 h19) h20) h23) h26)) | exact (bnot_of (bif_t (bif_t (bif_t (bif_t h18 h19) h20) h23) h26)) | exact (PureCall.none (task_room_ok _ _ _ h28) (Cvs.cons .sc (Cvs.cons .sc Cvs.nil))) | exact (absN (bif_t (bif_t (bif_t (bif_t h18 h19) h20) h23) h26)) | exact ((bif_t (bif_t (bif_t (bif_t (bif_t h18 h19) h20) h23) h26) h29)) | exact (bnot_of (bif_t (bif_t (bif_t (bif_t (bif_t h18 h19) h20) h23) h26) h29)) | exact oblA) ?_
        exact wkT [] (SemK.glue J)
      ·clear h; intro h26 h
       obtain rfl := Option.some.inj h
       refine run_to tmD 4000 [.el (aI .i64 (List.length a0.Pending : Int)), .go true, .go true, .go true, .el (aI .i64 (List.length a0.Marks : Int)), .go true, .go true, .go true, .go true, .go true, .el (aI .i64 (List.length a0.Marks : Int)), .go true, .go true, .go true, .go true, .go true, .el (aI .i64 (List.length a0.Store : Int)), .go true, .go true, .pure [(aB v1.2.2.1), (aI .i64 4000)] (aI .i64 v21), .go true, .go true, .go true, .go true, .el (aI .i64 (List.length a0.Events : Int)), .go true, .go true, .pure [(aB v1.2.2.2.1), (aI .i64 60)] (aI .i64 v24), .go true, .go false, .go false, .go false, .go false, .go false, .go false, .go false, .go false, .go false, .go false, .go false, .go false, .go false, .go false] rfl (by repeat' first | refine And.intro ?_ ?_ | exact (PureCall.none (task_limits_ok _ _ h2) (Cvs.cons .sc Cvs.nil)) | exact ((bif_t h18 h19)) | exact (bnot_of (bif_t h18 h19)) | exact (absN (bif_t h18 h19)) | exact ((bif_t (bif_t h18 h19) h20)) | exact (bnot_of (bif_t (bif_t h18 h19) h20)) | exact (PureCall.none (task_room_ok _ _ _ h22) (Cvs.cons .sc (Cvs.cons .sc Cvs.nil))) | exact (absN (bif_t (bif_t h18 h19) h20)) | exact ((bif_t (bif_t (bif_t h18 h19) h20) h23)) | exact (bnot_of (bif_t (bif_t (bif_t h18 h19) h20) h23)) | exact (PureCall.none (task_room_ok _ _ _ h25) (Cvs.cons .sc (Cvs.cons .sc Cvs.nil))) | exact (absN (bif_t (bif_t (bif_t h18 h19) h20) h23)) | exact ((bif_t (bif_t (bif_t (bif_t h18 h19) h20) h23) h26)) | exact (bnot_of (bif_t (bif_t (bif_t (bif_t h18 h19) h20) h23) h26)) | exact oblA) ?_
       exact wkT [] (SemK.glue J)
     ·clear h; intro h23 h
      obtain rfl := Option.some.inj h
      refine run_to tmD 4000 [.el (aI .i64 (List.length a0.Pending : Int)), .go true, .go true, .go true, .el (aI .i64 (List.length a0.Marks : Int)), .go true, .go true, .go true, .go true, .go true, .el (aI .i64 (List.length a0.Marks : Int)), .go true, .go true, .go true, .go true, .go true, .el (aI .i64 (List.length a0.Store : Int)), .go true, .go true, .pure [(aB v1.2.2.1), (aI .i64 4000)] (aI .i64 v21), .go true, .go false, .go false, .go false, .go false, .go false, .go false, .go false, .go false, .go false, .go false, .go false, .go false, .go false, .go false, .go false, .go false, .go false, .go false, .go false, .go false, .go false] rfl (by repeat' first | refine And.intro ?_ ?_ | exact (PureCall.none (task_limits_ok _ _ h2) (Cvs.cons .sc Cvs.nil)) | exact ((bif_t h18 h19)) | exact (bnot_of (bif_t h18 h19)) | exact (absN (bif_t h18 h19)) | exact ((bif_t (bif_t h18 h19) h20)) | exact (bnot_of (bif_t (bif_t h18 h19) h20)) | exact (PureCall.none (task_room_ok _ _ _ h22) (Cvs.cons .sc (Cvs.cons .sc Cvs.nil))) | exact (absN (bif_t (bif_t h18 h19) h20)) | exact ((bif_t (bif_t (bif_t h18 h19) h20) h23)) | exact (bnot_of (bif_t (bif_t (bif_t h18 h19) h20) h23)) | exact oblA) ?_
      exact wkT [] (SemK.glue J)
    ·clear h; intro h20 h
     obtain rfl := Option.some.inj h
     refine run_to tmD 4000 [.el (aI .i64 (List.length a0.Pending : Int)), .go true, .go true, .go true, .el (aI .i64 (List.length a0.Marks : Int)), .go true, .go true, .go true, .go true, .go true, .el (aI .i64 (List.length a0.Marks : Int)), .go true, .go true, .go false, .go false, .go false, .go false, .go false, .go false, .go false, .go false, .go false, .go false, .go false, .go false, .go false, .go false, .go false, .go false, .go false, .go false, .go false, .go false, .go false, .go false, .go false, .go false, .go false, .go false, .go false, .go false] rfl (by repeat' first | refine And.intro ?_ ?_ | exact (PureCall.none (task_limits_ok _ _ h2) (Cvs.cons .sc Cvs.nil)) | exact ((bif_t h18 h19)) | exact (bnot_of (bif_t h18 h19)) | exact (absN (bif_t h18 h19)) | exact ((bif_t (bif_t h18 h19) h20)) | exact (bnot_of (bif_t (bif_t h18 h19) h20)) | exact oblA) ?_
     exact wkT [] (SemK.glue J)
   ·clear h; intro h19 h
    obtain rfl := Option.some.inj h
    refine run_to tmD 4000 [.el (aI .i64 (List.length a0.Pending : Int)), .go true, .go true, .go true, .el (aI .i64 (List.length a0.Marks : Int)), .go true, .go true, .go false, .go false, .go false, .go false, .go false, .go false, .go false, .go false, .go false, .go false, .go false, .go false, .go false, .go false, .go false, .go false, .go false, .go false, .go false, .go false, .go false, .go false, .go false, .go false, .go false, .go false, .go false, .go false, .go false, .go false, .go false, .go false, .go false, .go false] rfl (by repeat' first | refine And.intro ?_ ?_ | exact (PureCall.none (task_limits_ok _ _ h2) (Cvs.cons .sc Cvs.nil)) | exact ((bif_t h18 h19)) | exact (bnot_of (bif_t h18 h19)) | exact oblA) ?_
    exact wkT [] (SemK.glue J)
  ·clear h; intro h18 h
   obtain rfl := Option.some.inj h
   refine run_to tmD 4000 [.el (aI .i64 (List.length a0.Pending : Int)), .go false, .go false, .go false, .go false, .go false, .go false, .go false, .go false, .go false, .go false, .go false, .go false, .go false, .go false, .go false, .go false, .go false, .go false, .go false, .go false, .go false, .go false, .go false, .go false, .go false, .go false, .go false, .go false, .go false, .go false, .go false, .go false, .go false, .go false, .go false, .go false, .go false, .go false, .go false, .go false] rfl (by repeat' first | refine And.intro ?_ ?_ | exact (PureCall.none (task_limits_ok _ _ h2) (Cvs.cons .sc Cvs.nil)) | exact oblA) ?_
   exact wkT [] (SemK.glue J)

theorem accums_Of_ok (a0 : Int) (r : GAccum) (h : accums_Of a0 = some r) : Pure Tryz.prog 52 [(aI .i64 a0)] (enc_GAccum r) := by
 refine Pure.sym tyTab_ok fn52 (nt := 7) rfl rfl ?_ (allCons .sc allNil)
 unfold accums_Of at h
 obtain rfl := Option.some.inj h
 refine runT tmD [] ?_
 refine fin_ret rfl ?_
 exact (cvf_GAccum (x := (GAccum.mk 1 a0 a0 a0)))

theorem tumble_check_ok (a0 : Int) (a1 : Int) (r : Int) (h : tumble_check a0 a1 = some r) : Pure Tryz.prog 147 [(aI .i64 a0), (aI .i64 a1)] (aI .i64 r) := by
 refine Pure.sym tyTab_ok fn147 (nt := 17) rfl rfl ?_ (allCons .sc (allCons .sc allNil))
 unfold tumble_check at h
 refine brE h ?_ ?_
 ·clear h; intro h1 h
  obtain rfl := Option.some.inj h
  refine runT tmD [.br true] ?_
  refine fin_ret rfl ?_
  exact .sc
 ·clear h; intro h1 h
  refine brE h ?_ ?_
  ·clear h; intro h2 h
   obtain rfl := Option.some.inj h
   refine runT tmD [.br false, .br true] ?_
   refine fin_ret rfl ?_
   exact .sc
  ·clear h; intro h2 h
   obtain rfl := Option.some.inj h
   refine runT tmD [.br false, .br false] ?_
   refine fin_ret rfl ?_
   exact .sc

theorem tumble_Number_ok (a0 : Int) (a1 : Int) (r : Int × Int) (h : tumble_Number a0 a1 = some r) : Pure Tryz.prog 125 [(aI .i64 a0), (aI .i64 a1)] (AV.tup [(aI .i64 r.1), (aI .i64 r.2)]) := by
 refine Pure.sym tyTab_ok fn125 (nt := 24) rfl rfl ?_ (allCons .sc (allCons .sc allNil))
 unfold tumble_Number at h
 refine bindE h ?_
 clear h; intro v1 h2 h
 refine brE h ?_ ?_
 ·clear h; intro h3 h
  obtain rfl := Option.some.inj h
  refine run_to tmD 4000 [.pure [(aI .i64 a0), (aI .i64 a1)] (aI .i64 v1), .br true] rfl (by repeat' first | refine And.intro ?_ ?_ | exact (PureCall.none (tumble_check_ok _ _ _ h2) (Cvs.cons .sc (Cvs.cons .sc Cvs.nil))) | exact oblA) ?_
  refine fin_ret rfl ?_
  exact (cv_tup (Cvs.cons .sc (Cvs.cons .sc Cvs.nil)))
 ·clear h; intro h3 h
  refine bindE h ?_
  clear h; intro u4 h5 h
  refine bindE h ?_
  clear h; intro j7_7 h9 h
  refine run_to tmD 4000 [.pure [(aI .i64 a0), (aI .i64 a1)] (aI .i64 v1), .br false, .wrap] rfl (by repeat' first | refine And.intro ?_ ?_ | exact (PureCall.none (tumble_check_ok _ _ _ h2) (Cvs.cons .sc (Cvs.cons .sc Cvs.nil))) | exact oblA) ?_
  refine SemK.join (s' := ⟨fr [(7, (aI .i64 j7_7))], hp ([]), 0⟩) ?_ (fun J => SemK.cut ?_)
  ·
   obtain rfl := Option.some.inj h
   refine runT tmD [] ?_
   refine fin_ret rfl ?_
   exact (cv_tup (Cvs.cons .sc (Cvs.cons .sc Cvs.nil)))
  ·
   clear h
   have h := h9
   refine brE h ?_ ?_
   ·clear h; intro h8 h
    obtain rfl := Option.some.inj h
    refine run_to tmD 4000 [.br true, .wrap] rfl (by repeat' first | refine And.intro ?_ ?_ | exact (PureCall.none (tumble_check_ok _ _ _ h2) (Cvs.cons .sc (Cvs.cons .sc Cvs.nil))) | exact oblA) ?_
    exact wkT [] (SemK.glue J)
   ·clear h; intro h8 h
    obtain rfl := Option.some.inj h
    refine run_to tmD 4000 [.br false] rfl (by repeat' first | refine And.intro ?_ ?_ | exact (PureCall.none (tumble_check_ok _ _ _ h2) (Cvs.cons .sc (Cvs.cons .sc Cvs.nil))) | exact oblA) ?_
    exact wkT [] (SemK.glue J)

theorem tumble_Of_ok (a0 : Int) (a1 : Int) (r : GSpan × Int) (h : tumble_Of a0 a1 = some r) : Pure Tryz.prog 92 [(aI .i64 a0), (aI .i64 a1)] (AV.tup [(enc_GSpan r.1), (aI .i64 r.2)]) := by
 refine Pure.sym tyTab_ok fn92 (nt := 26) rfl rfl ?_ (allCons .sc (allCons .sc allNil))
 unfold tumble_Of at h
 refine bindE h ?_
 clear h; intro v1 h2 h
 refine brE h ?_ ?_
 ·clear h; intro h3 h
  obtain rfl := Option.some.inj h
  refine run_to tmD 4000 [.pure [(aI .i64 a0), (aI .i64 a1)] (AV.tup [(aI .i64 v1.1), (aI .i64 v1.2)]), .br true] rfl (by repeat' first | refine And.intro ?_ ?_ | exact (PureCall.none (tumble_Number_ok _ _ _ h2) (Cvs.cons .sc (Cvs.cons .sc Cvs.nil))) | exact oblA) ?_
  refine fin_ret rfl ?_
  exact (cv_tup (Cvs.cons (cvf_GSpan (x := (GSpan.mk 0 0))) (Cvs.cons .sc Cvs.nil)))
 ·clear h; intro h3 h
  obtain rfl := Option.some.inj h
  refine run_to tmD 4000 [.pure [(aI .i64 a0), (aI .i64 a1)] (AV.tup [(aI .i64 v1.1), (aI .i64 v1.2)]), .br false, .wrap, .wrap, .wrap] rfl (by repeat' first | refine And.intro ?_ ?_ | exact (PureCall.none (tumble_Number_ok _ _ _ h2) (Cvs.cons .sc (Cvs.cons .sc Cvs.nil))) | exact oblA) ?_
  refine fin_ret rfl ?_
  exact (cv_tup (Cvs.cons (cvf_GSpan (x := (GSpan.mk (IntKind.i64.wrap (v1.1 * a1)) (IntKind.i64.wrap ((IntKind.i64.wrap (v1.1 + 1)) * a1))))) (Cvs.cons .sc Cvs.nil)))

theorem slide_Of_ok (a0 : GWindow) (a1 : Int) (r : (List GSpan) × Int) (h : slide_Of a0 a1 = some r) : Pure Tryz.prog 56 [(enc_GWindow a0), (aI .i64 a1)] (AV.tup [(AV.list true (List.map enc_GSpan r.1)), (aI .i64 r.2)]) := by
 refine Pure.sym tyTab_ok fn56 (nt := 40) rfl rfl ?_ (allCons (free_GWindow _ _).1 (allCons .sc allNil))
 unfold slide_Of at h
 refine bindE h ?_
 clear h; intro v1 h2 h
 refine brE h ?_ ?_
 ·clear h; intro h3 h
  obtain rfl := Option.some.inj h
  refine run_to tmD 4000 [.pure [(enc_GWindow a0)] (aI .i64 v1), .br true] rfl (by repeat' first | refine And.intro ?_ ?_ | exact (PureCall.none (clauses_Window_ok _ _ h2) (Cvs.cons (cvf_GWindow (x := a0)) Cvs.nil)) | exact oblA) ?_
  refine fin_ret rfl ?_
  exact (cv_tup (Cvs.cons (cv_nils (es := List.map enc_GSpan ([] : List GSpan)) (by simp [*])) (Cvs.cons .sc Cvs.nil)))
 ·clear h; intro h3 h
  refine brE h ?_ ?_
  ·clear h; intro h4 h
   refine bindE h ?_
   clear h; intro v5 h6 h
   refine brE h ?_ ?_
   ·clear h; intro h7 h
    obtain rfl := Option.some.inj h
    refine run_to tmD 4000 [.pure [(enc_GWindow a0)] (aI .i64 v1), .br false, .br true, .pure [(aI .i64 a1), (aI .i64 a0.Size)] (AV.tup [(enc_GSpan v5.1), (aI .i64 v5.2)]), .br true] rfl (by repeat' first | refine And.intro ?_ ?_ | exact (PureCall.none (clauses_Window_ok _ _ h2) (Cvs.cons (cvf_GWindow (x := a0)) Cvs.nil)) | exact (PureCall.none (tumble_Of_ok _ _ _ h6) (Cvs.cons .sc (Cvs.cons .sc Cvs.nil))) | exact oblA) ?_
    refine fin_ret rfl ?_
    exact (cv_tup (Cvs.cons (cv_nils (es := List.map enc_GSpan ([] : List GSpan)) (by simp [*])) (Cvs.cons .sc Cvs.nil)))
   ·clear h; intro h7 h
    obtain rfl := Option.some.inj h
    refine run_to tmD 4000 [.pure [(enc_GWindow a0)] (aI .i64 v1), .br false, .br true, .pure [(aI .i64 a1), (aI .i64 a0.Size)] (AV.tup [(enc_GSpan v5.1), (aI .i64 v5.2)]), .br false] rfl (by repeat' first | refine And.intro ?_ ?_ | exact (PureCall.none (clauses_Window_ok _ _ h2) (Cvs.cons (cvf_GWindow (x := a0)) Cvs.nil)) | exact (PureCall.none (tumble_Of_ok _ _ _ h6) (Cvs.cons .sc (Cvs.cons .sc Cvs.nil))) | exact oblA) ?_
    refine fin_ret rfl ?_
    exact (cv_tup (Cvs.cons (cv_ref (es := List.map enc_GSpan [v5.1]) rfl (by first | rfl | (simp; done) | (simp; rfl) | (simp [h3, h4, h7]; done) | (simp [h3, h4, h7]; rfl) | (simp [h3, h4, h7, List.map_take, List.map_drop]; done) | (simp [h3, h4, h7, List.map_take, List.map_drop]; rfl)) (by first | rfl | (simp; done) | (simp; omega) | (simp [h3, h4, h7]; done) | (simp [h3, h4, h7]; omega)) (flat_map flat_GSpan [v5.1])) (Cvs.cons .sc Cvs.nil)))
  ·clear h; intro h4 h
   refine brE h ?_ ?_
   ·clear h; intro h8 h
    cases h
   ·clear h; intro h8 h
    obtain rfl := Option.some.inj h
    refine run_to tmD 4000 [.pure [(enc_GWindow a0)] (aI .i64 v1), .br false, .br false, .br false] rfl (by repeat' first | refine And.intro ?_ ?_ | exact (PureCall.none (clauses_Window_ok _ _ h2) (Cvs.cons (cvf_GWindow (x := a0)) Cvs.nil)) | exact oblA) ?_
    refine fin_ret rfl ?_
    exact (cv_tup (Cvs.cons (cv_nils (es := List.map enc_GSpan ([] : List GSpan)) (by simp [*])) (Cvs.cons .sc Cvs.nil)))

theorem slices_BinarySearchFunc_Entry_Entry_Entry_L0_ok {Q : AExit → St → Mu → Prop} {μ : Mu} (y0_0 : (List GEntry)) (y0_o0 : GEntry) (y0_8 : Int) : ∀ (n : Nat) (y0_9 : Int) (y0_10 : Int) (o : slices_BinarySearchFunc_Entry_Entry_Entry_L0_o) (h : slices_BinarySearchFunc_Entry_Entry_Entry_L0 y0_0 y0_o0 y0_8 n y0_9 y0_10 = some o)
  (C0 : ∀ (z0_0_9 : Int), o = slices_BinarySearchFunc_Entry_Entry_Entry_L0_o.x0 z0_0_9 → SemK Tryz.prog 49 0 Q (.exit (.exit 0)) [] ⟨fr [(0, (AV.list false (List.map enc_GEntry y0_0))), (2, (AV.fn 83 [])), (4, (AV.ptr 0 0 0)), (8, (aI .i64 y0_8)), (9, (aI .i64 z0_0_9))], hp ([(0, { es := [(enc_GEntry y0_o0)], esz := 11 })]), 1⟩ μ),
  SemK Tryz.prog 49 0 Q (.loop (loopB 0 (bodyOf Tryz.f94))) [] ⟨fr [(0, (AV.list false (List.map enc_GEntry y0_0))), (2, (AV.fn 83 [])), (4, (AV.ptr 0 0 0)), (8, (aI .i64 y0_8)), (9, (aI .i64 y0_9)), (10, (aI .i64 y0_10))], hp ([(0, { es := [(enc_GEntry y0_o0)], esz := 11 })]), 1⟩ μ := by
 intro n
 induction n with
 | zero => intro y0_9 y0_10 o h C0; cases h
 | succ n ih =>
  intro y0_9 y0_10 o h C0
  rw [slices_BinarySearchFunc_Entry_Entry_Entry_L0] at h
  refine SemK.round ?_
  refine brE h ?_ ?_
  ·clear h; intro h14 h
   refine bindE h ?_
   clear h; intro e15 h16 h
   try have qh16 := getI_lt h16
   refine bindE h ?_
   clear h; intro v17 h18 h
   refine brE h ?_ ?_
   ·clear h; intro h19 h
    refine run_to tmD 4000 [.br true, .wrap, .wrap, .wrap, .el (enc_GEntry e15), .pure [(enc_GEntry e15), (enc_GEntry y0_o0)] (aI .i64 v17), .br true, .wrap] rfl (by repeat' first | refine And.intro ?_ ?_ | exact (PureCall.none (store_order_ok _ _ _ h18) (Cvs.cons (cvf_GEntry (x := e15)) (Cvs.cons (cvf_GEntry (x := y0_o0)) Cvs.nil))) | exact oblA) ?_
    exact wkT [] (ih  _ _ o h C0)
   ·clear h; intro h19 h
    refine run_to tmD 4000 [.br true, .wrap, .wrap, .wrap, .el (enc_GEntry e15), .pure [(enc_GEntry e15), (enc_GEntry y0_o0)] (aI .i64 v17), .br false] rfl (by repeat' first | refine And.intro ?_ ?_ | exact (PureCall.none (store_order_ok _ _ _ h18) (Cvs.cons (cvf_GEntry (x := e15)) (Cvs.cons (cvf_GEntry (x := y0_o0)) Cvs.nil))) | exact oblA) ?_
    exact wkT [] (ih  _ _ o h C0)
  ·clear h; intro h14 h
   obtain rfl := Option.some.inj h
   refine runT tmD [.br false] ?_
   exact wkT [] (C0 _  rfl)

theorem slices_BinarySearchFunc_Entry_Entry_Entry_store_order_ok (a0 : (List GEntry)) (a1 : GEntry) (r : Int × Bool) (h : slices_BinarySearchFunc_Entry_Entry_Entry_store_order a0 a1 = some r) : Pure Tryz.prog 94 [(AV.list false (List.map enc_GEntry a0)), (enc_GEntry a1), (AV.fn 83 [])] (AV.tup [(aI .i64 r.1), (aB r.2)]) := by
 refine Pure.sym tyTab_ok fn94 (nt := 49) rfl rfl ?_ (allCons .list (allCons (free_GEntry _ _).1 (allCons okFn0 allNil)))
 unfold slices_BinarySearchFunc_Entry_Entry_Entry_store_order at h
 refine bindE h ?_
 clear h; intro o20 h21 h
 refine runT tmD [.el (aI .i64 (List.length a0 : Int))] ?_
 refine wkT [] (SemK.cut (slices_BinarySearchFunc_Entry_Entry_Entry_L0_ok a0 a1 (List.length a0 : Int) _ _ _ _ h21 ?_))
 ·intro z0_0_9 eo20; subst eo20
  refine SemK.glue ?_
  try dsimp only at h
  refine bindE h ?_
  clear h; intro j27_7 h33 h
  refine runT tmD [.stop 8] ?_
  refine SemK.join (s' := ⟨fr [(6, (aI .i64 z0_0_9)), (7, (aB j27_7))], hp ([]), 0⟩) ?_ (fun J => SemK.cut ?_)
  ·
   obtain rfl := Option.some.inj h
   refine runT tmD [] ?_
   refine fin_ret rfl ?_
   exact (cv_tup (Cvs.cons .sc (Cvs.cons .sc Cvs.nil)))
  ·
   clear h
   have h := h33
   refine brE h ?_ ?_
   ·clear h; intro h28 h
    refine bindE h ?_
    clear h; intro e29 h30 h
    try have qh30 := getI_lt h30
    refine bindE h ?_
    clear h; intro v31 h32 h
    obtain rfl := Option.some.inj h
    refine run_to tmD 4000 [.go true, .go true, .go true, .go true, .el (enc_GEntry e29), .go true, .go true, .go true, .pure [(enc_GEntry e29), (enc_GEntry a1)] (aI .i64 v31), .go true] rfl (by repeat' first | refine And.intro ?_ ?_ | exact (PureCall.none (store_order_ok _ _ _ h32) (Cvs.cons (cvf_GEntry (x := e29)) (Cvs.cons (cvf_GEntry (x := a1)) Cvs.nil))) | exact oblA) ?_
    exact wkT [] (SemK.glue J)
   ·clear h; intro h28 h
    obtain rfl := Option.some.inj h
    refine runT tmD [.go false, .go false, .go false, .go false, .go false, .go false, .go false, .go false, .go false] ?_
    exact wkT [] (SemK.glue J)
end Go.Av.Tryz
