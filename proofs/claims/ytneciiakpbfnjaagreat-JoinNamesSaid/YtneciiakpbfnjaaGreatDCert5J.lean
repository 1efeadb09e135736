/- Printed by decomp.py: that the program computes the functions. -/
import Derived.Test.YtneciiakpbfnjaaGreatDCert0J
import Derived.Test.YtneciiakpbfnjaaGreatDCert2J
import Derived.Test.YtneciiakpbfnjaaGreatDCert4J
set_option linter.all false
set_option linter.unusedVariables false
namespace Go.Av.Tryz
open Go.Proofs Go.D
set_option maxRecDepth 10000
set_option maxHeartbeats 4000000

theorem kinds_told_ok (a0 : (List GNode)) (r : (List Bool) × Int) (h : kinds_told a0 = some r) : Pure Tryz.prog 176 [(AV.list false (List.map enc_GNode a0))] (AV.tup [(AV.list true (List.map aB r.1)), (aI .i64 r.2)]) := by
 refine Pure.sym tyTab_ok fn176 (nt := 88) rfl rfl ?_ (allCons .list allNil)
 unfold kinds_told at h
 refine bindE h ?_
 clear h; intro u1 h2 h
 have qh2 := lenOk_le h2
 refine bindE h ?_
 clear h; intro o3784 h3785 h
 refine runT tmD [.el (aI .i64 (List.length a0 : Int))] ?_
 refine wkT [] (SemK.cut (kinds_told_L0_ok a0 qh2 a0 0 (by simp) _ (nbT (by first | rfl | simp [*])) _ h3785 ?_ ?_))
 ·intro z0_0_o1 nb_z0_0_o1 eo3784; subst eo3784
  refine SemK.glue ?_
  try dsimp only at h
  rcases nb_z0_0_o1 with ⟨_ | _, hn_z0_0_o1⟩
  ·
   obtain rfl := Option.some.inj h
   refine runT tmD [.el (aI .i64 (List.length a0 : Int))] ?_
   refine fin_ret rfl ?_
   exact (cv_tup (Cvs.cons (cv_ref (es := List.map aB z0_0_o1) rfl (by first | rfl | (simp; done) | (simp; rfl) | (simp []; done) | (simp []; rfl) | (simp [List.map_take, List.map_drop]; done) | (simp [List.map_take, List.map_drop]; rfl)) (by first | rfl | (simp; done) | (simp; omega) | (simp []; done) | (simp []; omega)) (flat_map (fun _ => flatSc) z0_0_o1)) (Cvs.cons (cv_scE (by first | rfl | (simp [*]; done))) Cvs.nil)))
  ·
   obtain rfl := hn_z0_0_o1 rfl
   obtain rfl := Option.some.inj h
   refine runT tmD [.el (aI .i64 (List.length a0 : Int))] ?_
   refine fin_ret rfl ?_
   exact (cv_tup (Cvs.cons (cv_nils (by simp)) (Cvs.cons (cv_scE (by first | rfl | (simp [*]; done))) Cvs.nil)))
 ·intro z0_1_o0 z0_1_3 nb_z0_1_o0 eo3784; subst eo3784
  refine SemK.glue ?_
  try dsimp only at h
  rcases nb_z0_1_o0 with ⟨_ | _, hn_z0_1_o0⟩
  ·
   obtain rfl := Option.some.inj h
   refine runT tmD [] ?_
   refine fin_ret rfl ?_
   exact (cv_tup (Cvs.cons (cv_ref (es := List.map aB z0_1_o0) rfl (by first | rfl | (simp; done) | (simp; rfl) | (simp []; done) | (simp []; rfl) | (simp [List.map_take, List.map_drop]; done) | (simp [List.map_take, List.map_drop]; rfl)) (by first | rfl | (simp; done) | (simp; omega) | (simp []; done) | (simp []; omega)) (flat_map (fun _ => flatSc) z0_1_o0)) (Cvs.cons .sc Cvs.nil)))
  ·
   obtain rfl := hn_z0_1_o0 rfl
   obtain rfl := Option.some.inj h
   refine runT tmD [] ?_
   refine fin_ret rfl ?_
   exact (cv_tup (Cvs.cons (cv_nils (by simp)) (Cvs.cons .sc Cvs.nil)))

theorem kinds_Of_ok (a0 : (List GNode)) (r : Bool × Int × Int) (h : kinds_Of a0 = some r) : Pure Tryz.prog 158 [(AV.list false (List.map enc_GNode a0))] (AV.tup [(aB r.1), (aI .i64 r.2.1), (aI .i64 r.2.2)]) := by
 refine Pure.sym tyTab_ok fn158 (nt := 30) rfl rfl ?_ (allCons .list allNil)
 unfold kinds_Of at h
 refine bindE h ?_
 clear h; intro v1 h2 h
 refine brE h ?_ ?_
 ·clear h; intro h3 h
  obtain rfl := Option.some.inj h
  refine run_to tmD 4000 [.pure [(AV.list false (List.map enc_GNode a0))] (aI .i64 v1), .br true] rfl (by repeat' first | refine And.intro ?_ ?_ | exact (PureCall.none (nodes_Check_ok _ _ h2) (Cvs.cons (cv_list (flat_map flat_GNode a0)) Cvs.nil)) | exact oblA) ?_
  refine fin_ret rfl ?_
  exact (cv_tup (Cvs.cons .sc (Cvs.cons .sc (Cvs.cons .sc Cvs.nil))))
 ·clear h; intro h3 h
  refine bindE h ?_
  clear h; intro v4 h5 h
  refine run_to tmD 4000 [.pure [(AV.list false (List.map enc_GNode a0))] (aI .i64 v1), .br false, .pure [(AV.list false (List.map enc_GNode a0))] (AV.tup [(AV.list true (List.map aB v4.1)), (aI .i64 v4.2)]), .el (aI .i64 (List.length a0 : Int))] rfl (by repeat' first | refine And.intro ?_ ?_ | exact (PureCall.none (nodes_Check_ok _ _ h2) (Cvs.cons (cv_list (flat_map flat_GNode a0)) Cvs.nil)) | exact (PureCall.none (kinds_told_ok _ _ h5) (Cvs.cons (cv_list (flat_map flat_GNode a0)) Cvs.nil)) | exact oblA) ?_
  refine brE h ?_ ?_
  ·clear h; intro h6 h
   obtain rfl := Option.some.inj h
   refine runT tmD [.br true] ?_
   refine fin_ret rfl ?_
   exact (cv_tup (Cvs.cons .sc (Cvs.cons .sc (Cvs.cons .sc Cvs.nil))))
  ·clear h; intro h6 h
   refine bindE h ?_
   clear h; intro e7 h8 h
   try have qh8 := getI_lt h8
   obtain rfl := Option.some.inj h
   refine runT tmD [.br false, .wrap, .el (aB e7), .wrap] ?_
   refine fin_ret rfl ?_
   exact (cv_tup (Cvs.cons .sc (Cvs.cons .sc (Cvs.cons .sc Cvs.nil))))

theorem kinds_want_ok (a0 : (List GNode)) (a1 : Bool) (r : Int × Int) (h : kinds_want a0 a1 = some r) : Pure Tryz.prog 133 [(AV.list false (List.map enc_GNode a0)), (aB a1)] (AV.tup [(aI .i64 r.1), (aI .i64 r.2)]) := by
 refine Pure.sym tyTab_ok fn133 (nt := 24) rfl rfl ?_ (allCons .list (allCons .sc allNil))
 unfold kinds_want at h
 refine bindE h ?_
 clear h; intro v1 h2 h
 refine bindE h ?_
 clear h; intro j4_8 h6 h
 refine run_to tmD 4000 [.pure [(AV.list false (List.map enc_GNode a0))] (AV.tup [(aB v1.1), (aI .i64 v1.2.1), (aI .i64 v1.2.2)])] rfl (by repeat' first | refine And.intro ?_ ?_ | exact (PureCall.none (kinds_Of_ok _ _ h2) (Cvs.cons (cv_list (flat_map flat_GNode a0)) Cvs.nil)) | exact oblA) ?_
 refine SemK.join (s' := ⟨fr [(7, (aI .i64 v1.2.1)), (8, (aI .i64 j4_8))], hp ([]), 0⟩) ?_ (fun J => SemK.cut ?_)
 ·
  obtain rfl := Option.some.inj h
  refine runT tmD [] ?_
  refine fin_ret rfl ?_
  exact (cv_tup (Cvs.cons .sc (Cvs.cons .sc Cvs.nil)))
 ·
  clear h
  have h := h6
  refine brE h ?_ ?_
  ·clear h; intro h5 h
   obtain rfl := Option.some.inj h
   refine run_to tmD 4000 [.br true] rfl (by repeat' first | refine And.intro ?_ ?_ | exact (PureCall.none (kinds_Of_ok _ _ h2) (Cvs.cons (cv_list (flat_map flat_GNode a0)) Cvs.nil)) | exact oblA) ?_
   exact wkT [] (SemK.glue J)
  ·clear h; intro h5 h
   obtain rfl := Option.some.inj h
   refine run_to tmD 4000 [.br false] rfl (by repeat' first | refine And.intro ?_ ?_ | exact (PureCall.none (kinds_Of_ok _ _ h2) (Cvs.cons (cv_list (flat_map flat_GNode a0)) Cvs.nil)) | exact oblA) ?_
   exact wkT [] (SemK.glue J)

theorem kinds_Truth_ok (a0 : (List GNode)) (r : Int × Int) (h : kinds_Truth a0 = some r) : Pure Tryz.prog 103 [(AV.list false (List.map enc_GNode a0))] (AV.tup [(aI .i64 r.1), (aI .i64 r.2)]) := by
 refine Pure.sym tyTab_ok fn103 (nt := 8) rfl rfl ?_ (allCons .list allNil)
 unfold kinds_Truth at h
 refine bindE h ?_
 clear h; intro v1 h2 h
 obtain rfl := Option.some.inj h
 refine run_to tmD 4000 [.pure [(AV.list false (List.map enc_GNode a0)), (aB true)] (AV.tup [(aI .i64 v1.1), (aI .i64 v1.2)])] rfl (by repeat' first | refine And.intro ?_ ?_ | exact (PureCall.none (kinds_want_ok _ _ _ h2) (Cvs.cons (cv_list (flat_map flat_GNode a0)) (Cvs.cons .sc Cvs.nil))) | exact oblA) ?_
 refine fin_ret rfl ?_
 exact (cv_tup (Cvs.cons .sc (Cvs.cons .sc Cvs.nil)))

theorem kinds_Number_ok (a0 : (List GNode)) (r : Int × Int) (h : kinds_Number a0 = some r) : Pure Tryz.prog 102 [(AV.list false (List.map enc_GNode a0))] (AV.tup [(aI .i64 r.1), (aI .i64 r.2)]) := by
 refine Pure.sym tyTab_ok fn102 (nt := 8) rfl rfl ?_ (allCons .list allNil)
 unfold kinds_Number at h
 refine bindE h ?_
 clear h; intro v1 h2 h
 obtain rfl := Option.some.inj h
 refine run_to tmD 4000 [.pure [(AV.list false (List.map enc_GNode a0)), (aB false)] (AV.tup [(aI .i64 v1.1), (aI .i64 v1.2)])] rfl (by repeat' first | refine And.intro ?_ ?_ | exact (PureCall.none (kinds_want_ok _ _ _ h2) (Cvs.cons (cv_list (flat_map flat_GNode a0)) (Cvs.cons .sc Cvs.nil))) | exact oblA) ?_
 refine fin_ret rfl ?_
 exact (cv_tup (Cvs.cons .sc (Cvs.cons .sc Cvs.nil)))

theorem checks_Check_ok (a0 : GQuery) (r : Int × Int) (h : checks_Check a0 = some r) : Pure Tryz.prog 60 [(enc_GQuery false a0)] (AV.tup [(aI .i64 r.1), (aI .i64 r.2)]) := by
 refine Pure.sym tyTab_ok fn60 (nt := 20) rfl rfl ?_ (allCons (free_GQuery false _ _).1 allNil)
 unfold checks_Check at h
 refine bindE h ?_
 clear h; intro v1 h2 h
 refine brE h ?_ ?_
 ·clear h; intro h3 h
  obtain rfl := Option.some.inj h
  refine run_to tmD 4000 [.pure [(enc_GQuery false a0)] (aI .i64 v1), .br true] rfl (by repeat' first | refine And.intro ?_ ?_ | exact (PureCall.none (clauses_Check_ok _ _ h2) (Cvs.cons (cv_agg (Cvs.cons .sc (Cvs.cons (cv_list (flat_map flat_GNode a0.Arg)) (Cvs.cons (cv_list (flat_map (fun _ => flatSc) a0.Sources)) (Cvs.cons .sc (Cvs.cons (cv_list (flat_map flat_GNode a0.Where)) (Cvs.cons .sc (Cvs.cons .sc (Cvs.cons .sc (Cvs.cons .sc (Cvs.cons .sc Cvs.nil))))))))))) Cvs.nil)) | exact oblA) ?_
  refine fin_ret rfl ?_
  exact (cv_tup (Cvs.cons .sc (Cvs.cons .sc Cvs.nil)))
 ·clear h; intro h3 h
  refine bindE h ?_
  clear h; intro w22 h41 h
  obtain ⟨j22_17_0, j22_17_1⟩ := w22
  try dsimp only at h
  refine run_to tmD 4000 [.pure [(enc_GQuery false a0)] (aI .i64 v1), .br false] rfl (by repeat' first | refine And.intro ?_ ?_ | exact (PureCall.none (clauses_Check_ok _ _ h2) (Cvs.cons (cv_agg (Cvs.cons .sc (Cvs.cons (cv_list (flat_map flat_GNode a0.Arg)) (Cvs.cons (cv_list (flat_map (fun _ => flatSc) a0.Sources)) (Cvs.cons .sc (Cvs.cons (cv_list (flat_map flat_GNode a0.Where)) (Cvs.cons .sc (Cvs.cons .sc (Cvs.cons .sc (Cvs.cons .sc (Cvs.cons .sc Cvs.nil))))))))))) Cvs.nil)) | exact oblA) ?_
  refine SemK.joinOp (s' := ⟨fr [(17, (AV.tup [(aI .i64 j22_17_0), (aI .i64 j22_17_1)]))], hp ([]), 0⟩) ?_ (fun J => ?_)
  ·
   obtain rfl := Option.some.inj h
   refine runT tmD [] ?_
   refine fin_ret rfl ?_
   exact (cv_tup (Cvs.cons .sc (Cvs.cons .sc Cvs.nil)))
  ·
   clear h
   have h := h41
   refine SemK.inline tyTab_ok fn101 rfl rfl rfl rfl rfl trivial trivial rfl rfl ?_
   refine runT tmD [] ?_
   refine SemK.round ?_
   refine brE h ?_ ?_
   ·clear h; intro h23 h
    refine runT tmD [.br true, .el (AV.agg [(AV.list false (List.map enc_GNode a0.Arg)), (AV.fn 102 [])]), .el (aI .i64 (List.length a0.Arg : Int)), .br true] ?_
    refine SemK.round ?_
    refine brE h ?_ ?_
    ·clear h; intro h24 h
     refine runT tmD [.br true, .el (AV.agg [(AV.list false (List.map enc_GNode a0.Where)), (AV.fn 103 [])]), .el (aI .i64 (List.length a0.Where : Int)), .br true] ?_
     refine SemK.round ?_
     simp only [Option.some.injEq, Prod.mk.injEq] at h
     obtain ⟨rfl, rfl⟩ := h
     refine runT tmD [.br false] ?_
     refine SemK.back (by intro id h; cases h) rfl ?_
     exact wkT [] (J)
    ·clear h; intro h24 h
     refine bindE h ?_
     clear h; intro v25 h26 h
     refine run_to tmD 4000 [.br true, .el (AV.agg [(AV.list false (List.map enc_GNode a0.Where)), (AV.fn 103 [])]), .el (aI .i64 (List.length a0.Where : Int)), .br false, .pure [(AV.list false (List.map enc_GNode a0.Where))] (AV.tup [(aI .i64 v25.1), (aI .i64 v25.2)])] rfl (by repeat' first | refine And.intro ?_ ?_ | exact (PureCall.none (kinds_Truth_ok _ _ h26) (Cvs.cons (cv_list (flat_map flat_GNode a0.Where)) Cvs.nil)) | exact oblA) ?_
     refine brE h ?_ ?_
     ·clear h; intro h27 h
      refine bindE h ?_
      clear h; intro e28 h29 h
      try have qh29 := getI_lt h29
      simp only [Option.some.injEq, Prod.mk.injEq] at h
      obtain ⟨rfl, rfl⟩ := h
      refine runT tmD [.br true, .el (enc_GNode e28)] ?_
      refine SemK.back (by intro id h; cases h) rfl ?_
      exact wkT [] (J)
     ·clear h; intro h27 h
      refine runT tmD [.br false] ?_
      refine SemK.round ?_
      simp only [Option.some.injEq, Prod.mk.injEq] at h
      obtain ⟨rfl, rfl⟩ := h
      refine runT tmD [.br false] ?_
      refine SemK.back (by intro id h; cases h) rfl ?_
      exact wkT [] (J)
   ·clear h; intro h23 h
    refine bindE h ?_
    clear h; intro v30 h31 h
    refine run_to tmD 4000 [.br true, .el (AV.agg [(AV.list false (List.map enc_GNode a0.Arg)), (AV.fn 102 [])]), .el (aI .i64 (List.length a0.Arg : Int)), .br false, .pure [(AV.list false (List.map enc_GNode a0.Arg))] (AV.tup [(aI .i64 v30.1), (aI .i64 v30.2)])] rfl (by repeat' first | refine And.intro ?_ ?_ | exact (PureCall.none (kinds_Number_ok _ _ h31) (Cvs.cons (cv_list (flat_map flat_GNode a0.Arg)) Cvs.nil)) | exact oblA) ?_
    refine brE h ?_ ?_
    ·clear h; intro h32 h
     refine bindE h ?_
     clear h; intro e33 h34 h
     try have qh34 := getI_lt h34
     simp only [Option.some.injEq, Prod.mk.injEq] at h
     obtain ⟨rfl, rfl⟩ := h
     refine runT tmD [.br true, .el (enc_GNode e33)] ?_
     refine SemK.back (by intro id h; cases h) rfl ?_
     exact wkT [] (J)
    ·clear h; intro h32 h
     refine runT tmD [.br false] ?_
     refine SemK.round ?_
     refine brE h ?_ ?_
     ·clear h; intro h35 h
      refine runT tmD [.br true, .el (AV.agg [(AV.list false (List.map enc_GNode a0.Where)), (AV.fn 103 [])]), .el (aI .i64 (List.length a0.Where : Int)), .br true] ?_
      refine SemK.round ?_
      simp only [Option.some.injEq, Prod.mk.injEq] at h
      obtain ⟨rfl, rfl⟩ := h
      refine runT tmD [.br false] ?_
      refine SemK.back (by intro id h; cases h) rfl ?_
      exact wkT [] (J)
     ·clear h; intro h35 h
      refine bindE h ?_
      clear h; intro v36 h37 h
      refine run_to tmD 4000 [.br true, .el (AV.agg [(AV.list false (List.map enc_GNode a0.Where)), (AV.fn 103 [])]), .el (aI .i64 (List.length a0.Where : Int)), .br false, .pure [(AV.list false (List.map enc_GNode a0.Where))] (AV.tup [(aI .i64 v36.1), (aI .i64 v36.2)])] rfl (by repeat' first | refine And.intro ?_ ?_ | exact (PureCall.none (kinds_Truth_ok _ _ h37) (Cvs.cons (cv_list (flat_map flat_GNode a0.Where)) Cvs.nil)) | exact oblA) ?_
      refine brE h ?_ ?_
      ·clear h; intro h38 h
       refine bindE h ?_
       clear h; intro e39 h40 h
       try have qh40 := getI_lt h40
       simp only [Option.some.injEq, Prod.mk.injEq] at h
       obtain ⟨rfl, rfl⟩ := h
       refine runT tmD [.br true, .el (enc_GNode e39)] ?_
       refine SemK.back (by intro id h; cases h) rfl ?_
       exact wkT [] (J)
      ·clear h; intro h38 h
       refine runT tmD [.br false] ?_
       refine SemK.round ?_
       simp only [Option.some.injEq, Prod.mk.injEq] at h
       obtain ⟨rfl, rfl⟩ := h
       refine runT tmD [.br false] ?_
       refine SemK.back (by intro id h; cases h) rfl ?_
       exact wkT [] (J)

theorem join_accepted_ok (a0 : GQuery) (r : Bool) (h : join_accepted a0 = some r) : Pure Tryz.prog 33 [(enc_GQuery false a0)] (aB r) := by
 refine Pure.sym tyTab_ok fn33 (nt := 16) rfl rfl ?_ (allCons (free_GQuery false _ _).1 allNil)
 unfold join_accepted at h
 refine bindE h ?_
 clear h; intro v1 h2 h
 obtain rfl := Option.some.inj h
 refine run_to tmD 4000 [.pure [(enc_GQuery false a0)] (AV.tup [(aI .i64 v1.1), (aI .i64 v1.2)])] rfl (by repeat' first | refine And.intro ?_ ?_ | exact (PureCall.none (checks_Check_ok _ _ h2) (Cvs.cons (cv_agg (Cvs.cons .sc (Cvs.cons (cv_list (flat_map flat_GNode a0.Arg)) (Cvs.cons (cv_list (flat_map (fun _ => flatSc) a0.Sources)) (Cvs.cons .sc (Cvs.cons (cv_list (flat_map flat_GNode a0.Where)) (Cvs.cons .sc (Cvs.cons .sc (Cvs.cons .sc (Cvs.cons .sc (Cvs.cons .sc Cvs.nil))))))))))) Cvs.nil)) | exact oblA) ?_
 refine fin_ret rfl ?_
 exact .sc

theorem task_limits_ok (a0 : Int) (r : Int × Int × Bool × Bool × Bool × Bool) (h : task_limits a0 = some r) : Pure Tryz.prog 61 [(aI .u8 a0)] (AV.tup [(aI .i64 r.1), (aI .i64 r.2.1), (aB r.2.2.1), (aB r.2.2.2.1), (aB r.2.2.2.2.1), (aB r.2.2.2.2.2)]) := by
 refine Pure.sym tyTab_ok fn61 (nt := 23) rfl rfl ?_ (allCons .sc allNil)
 unfold task_limits at h
 refine bindE h ?_
 clear h; intro w8 h16 h
 obtain ⟨j8_2, j8_3, j8_4, j8_5, j8_6, j8_7⟩ := w8
 try dsimp only at h
 refine runT tmD [] ?_
 refine SemK.join (s' := ⟨fr [(2, (aI .i64 j8_2)), (3, (aI .i64 j8_3)), (4, (aB j8_4)), (5, (aB j8_5)), (6, (aB j8_6)), (7, (aB j8_7))], hp ([]), 0⟩) ?_ (fun J => SemK.cut ?_)
 ·
  obtain rfl := Option.some.inj h
  refine runT tmD [] ?_
  refine fin_ret rfl ?_
  exact (cv_tup (Cvs.cons .sc (Cvs.cons .sc (Cvs.cons .sc (Cvs.cons .sc (Cvs.cons .sc (Cvs.cons .sc Cvs.nil)))))))
 ·
  clear h
  have h := h16
  refine brE h ?_ ?_
  ·clear h; intro h9 h
   simp only [Option.some.injEq, Prod.mk.injEq] at h
   obtain ⟨rfl, rfl, rfl, rfl, rfl, rfl⟩ := h
   refine runT tmD [.br true] ?_
   exact wkT [] (SemK.glue J)
  ·clear h; intro h9 h
   refine brE h ?_ ?_
   ·clear h; intro h10 h
    obtain rfl : a0 = 2 := eq_of_beq h10
    simp only [Option.some.injEq, Prod.mk.injEq] at h
    obtain ⟨rfl, rfl, rfl, rfl, rfl, rfl⟩ := h
    refine runT tmD [.br false, .br true] ?_
    exact wkT [] (SemK.glue J)
   ·clear h; intro h10 h
    refine brE h ?_ ?_
    ·clear h; intro h11 h
     simp only [Option.some.injEq, Prod.mk.injEq] at h
     obtain ⟨rfl, rfl, rfl, rfl, rfl, rfl⟩ := h
     refine runT tmD [.br false, .br false, .br true] ?_
     exact wkT [] (SemK.glue J)
    ·clear h; intro h11 h
     refine brE h ?_ ?_
     ·clear h; intro h12 h
      simp only [Option.some.injEq, Prod.mk.injEq] at h
      obtain ⟨rfl, rfl, rfl, rfl, rfl, rfl⟩ := h
      refine runT tmD [.br false, .br false, .br false, .br true] ?_
      exact wkT [] (SemK.glue J)
     ·clear h; intro h12 h
      refine brE h ?_ ?_
      ·clear h; intro h13 h
       simp only [Option.some.injEq, Prod.mk.injEq] at h
       obtain ⟨rfl, rfl, rfl, rfl, rfl, rfl⟩ := h
       refine runT tmD [.br false, .br false, .br false, .br false, .br true] ?_
       exact wkT [] (SemK.glue J)
      ·clear h; intro h13 h
       refine brE h ?_ ?_
       ·clear h; intro h14 h
        simp only [Option.some.injEq, Prod.mk.injEq] at h
        obtain ⟨rfl, rfl, rfl, rfl, rfl, rfl⟩ := h
        refine runT tmD [.br false, .br false, .br false, .br false, .br false, .br true] ?_
        exact wkT [] (SemK.glue J)
       ·clear h; intro h14 h
        refine brE h ?_ ?_
        ·clear h; intro h15 h
         simp only [Option.some.injEq, Prod.mk.injEq] at h
         obtain ⟨rfl, rfl, rfl, rfl, rfl, rfl⟩ := h
         refine runT tmD [.br false, .br false, .br false, .br false, .br false, .br false, .br true] ?_
         exact wkT [] (SemK.glue J)
        ·clear h; intro h15 h
         simp only [Option.some.injEq, Prod.mk.injEq] at h
         obtain ⟨rfl, rfl, rfl, rfl, rfl, rfl⟩ := h
         refine runT tmD [.br false, .br false, .br false, .br false, .br false, .br false, .br false] ?_
         exact wkT [] (SemK.glue J)

theorem task_room_ok (a0 : Bool) (a1 : Int) (r : Int) (h : task_room a0 a1 = some r) : Pure Tryz.prog 62 [(aB a0), (aI .i64 a1)] (aI .i64 r) := by
 refine Pure.sym tyTab_ok fn62 (nt := 7) rfl rfl ?_ (allCons .sc (allCons .sc allNil))
 unfold task_room at h
 refine brE h ?_ ?_
 ·clear h; intro h1 h
  obtain rfl := Option.some.inj h
  refine runT tmD [.br true] ?_
  refine fin_ret rfl ?_
  exact .sc
 ·clear h; intro h1 h
  obtain rfl := Option.some.inj h
  refine runT tmD [.br false] ?_
  refine fin_ret rfl ?_
  exact .sc

theorem message_isTime_ok (a0 : Int) (r : Bool) (h : message_isTime a0 = some r) : Pure Tryz.prog 66 [(aI .i64 a0)] (aB r) := by
 refine Pure.sym tyTab_ok fn66 (nt := 9) rfl rfl ?_ (allCons .sc allNil)
 unfold message_isTime at h
 obtain rfl := Option.some.inj h
 refine runT tmD [] ?_
 refine fin_ret rfl ?_
 exact .sc

theorem message_isMark_ok (a0 : Int) (r : Bool) (h : message_isMark a0 = some r) : Pure Tryz.prog 67 [(aI .i64 a0)] (aB r) := by
 refine Pure.sym tyTab_ok fn67 (nt := 9) rfl rfl ?_ (allCons .sc allNil)
 unfold message_isMark at h
 refine bindE h ?_
 clear h; intro v1 h2 h
 obtain rfl := Option.some.inj h
 refine run_to tmD 4000 [.pure [(aI .i64 a0)] (aB v1)] rfl (by repeat' first | refine And.intro ?_ ?_ | exact (PureCall.none (message_isTime_ok _ _ h2) (Cvs.cons .sc Cvs.nil)) | exact oblA) ?_
 refine fin_ret rfl ?_
 exact .sc

theorem message_Check_ok (a0 : GMessage) (r : Int) (h : message_Check a0 = some r) : Pure Tryz.prog 35 [(enc_GMessage a0)] (aI .i64 r) := by
 refine Pure.sym tyTab_ok fn35 (nt := 59) rfl rfl ?_ (allCons (free_GMessage _ _).1 allNil)
 unfold message_Check at h
 refine bindE h ?_
 clear h; intro j2_11 h4 h
 refine runT tmD [] ?_
 refine SemK.join (s' := ⟨fr [(1, (AV.ptr 0 0 0)), (3, (aB false)), (4, (AV.ptr 1 0 0)), (10, (aI .u8 a0.Kind)), (11, (aB j2_11))], hp ([(0, { es := [(enc_GMessage a0)], esz := 10 }), (1, { es := [(enc_GMessage (GMessage.mk a0.Kind (GRecord.mk 0 0 0) 0 (GRow.mk 0 (GSpan.mk 0 0) (V2.mk 0 0))))], esz := 10 })]), 2⟩) ?_ (fun J => SemK.cut ?_)
 ·
  refine bindE h ?_
  clear h; intro w12 h20 h
  obtain ⟨j12_3, j12_o1⟩ := w12
  try dsimp only at h
  refine runT tmD [] ?_
  refine SemK.join (s' := ⟨fr [(1, (AV.ptr 0 0 0)), (3, (aB j12_3)), (4, (AV.ptr 1 0 0))], hp ([(0, { es := [(enc_GMessage a0)], esz := 10 }), (1, { es := [(enc_GMessage j12_o1)], esz := 10 })]), 2⟩) ?_ (fun J => SemK.cut ?_)
  ·
   refine brE h ?_ ?_
   ·clear h; intro h21 h
    obtain rfl := Option.some.inj h
    refine runT tmD [.br true] ?_
    refine fin_ret rfl ?_
    exact .sc
   ·clear h; intro h21 h
    obtain rfl := Option.some.inj h
    refine runT tmD [.br false] ?_
    refine fin_ret rfl ?_
    exact .sc
  ·
   clear h
   have h := h20
   refine brE h ?_ ?_
   ·clear h; intro h13 h
    refine bindE h ?_
    clear h; intro v14 h15 h
    simp only [Option.some.injEq, Prod.mk.injEq] at h
    obtain ⟨rfl, rfl⟩ := h
    refine run_to tmD 4000 [.br true, .pure [(aI .i64 a0.Record.Time)] (aB v14)] rfl (by repeat' first | refine And.intro ?_ ?_ | exact (PureCall.none (message_isTime_ok _ _ h15) (Cvs.cons .sc Cvs.nil)) | exact oblA) ?_
    exact wkT [] (SemK.glue J)
   ·clear h; intro h13 h
    refine brE h ?_ ?_
    ·clear h; intro h16 h
     refine bindE h ?_
     clear h; intro v17 h18 h
     simp only [Option.some.injEq, Prod.mk.injEq] at h
     obtain ⟨rfl, rfl⟩ := h
     refine run_to tmD 4000 [.br false, .br true, .pure [(aI .i64 a0.Time)] (aB v17)] rfl (by repeat' first | refine And.intro ?_ ?_ | exact (PureCall.none (message_isMark_ok _ _ h18) (Cvs.cons .sc Cvs.nil)) | exact oblA) ?_
     exact wkT [] (SemK.glue J)
    ·clear h; intro h16 h
     refine brE h ?_ ?_
     ·clear h; intro h19 h
      simp only [Option.some.injEq, Prod.mk.injEq] at h
      obtain ⟨rfl, rfl⟩ := h
      refine runT tmD [.br false, .br false, .br true] ?_
      exact wkT [] (SemK.glue J)
     ·clear h; intro h19 h
      simp only [Option.some.injEq, Prod.mk.injEq] at h
      obtain ⟨rfl, rfl⟩ := h
      refine runT tmD [.br false, .br false, .br false] ?_
      exact wkT [] (SemK.glue J)
 ·
  clear h
  have h := h4
  refine brE h ?_ ?_
  ·clear h; intro h3 h
   obtain rfl := Option.some.inj h
   refine runT tmD [.br true] ?_
   exact wkT [] (SemK.glue J)
  ·clear h; intro h3 h
   obtain rfl := Option.some.inj h
   refine runT tmD [.br false] ?_
   exact wkT [] (SemK.glue J)

theorem task_sends_L0_ok {Q : AExit → St → Mu → Prop} {μ : Mu} (y0_5 : (List GSend)) (hl : List.length y0_5 ≤ 140737488355328) : ∀ (xs : List GSend) (k : Nat) (hx : y0_5.drop k = xs) (o : task_sends_L0_o) (h : task_sends_L0 y0_5 xs k  = some o)
  (C0 : o = task_sends_L0_o.x0 → SemK Tryz.prog 26 0 Q (.exit (.exit 0)) [] ⟨fr [], hp ([]), 0⟩ μ)
  (C1 : o = task_sends_L0_o.x1 → SemK Tryz.prog 26 0 Q (.exit .ret) [] ⟨fr [(2, (aB false))], hp ([]), 0⟩ μ),
  SemK Tryz.prog 26 0 Q (.loop (loopB 0 (bodyOf Tryz.f63))) [] ⟨fr [(5, (AV.list false (List.map enc_GSend y0_5))), (6, (aI .i64 (List.length y0_5 : Int))), (7, (aI .i64 (k : Int)))], hp ([]), 0⟩ μ := by
 intro xs
 induction xs with
 | nil =>
  intro k hx  o h C0 C1
  have hk := drop_nil hx
  have hc : decide ((k : Int) < (List.length y0_5 : Int)) = false := decide_eq_false (by omega)
  rw [task_sends_L0] at h
  refine SemK.round ?_
  obtain rfl := Option.some.inj h
  refine runT tmD [.br false] ?_
  exact wkT [] (C0  rfl)
 | cons x xs ih =>
  intro k hx  o h C0 C1
  obtain ⟨hk, hg, hx1⟩ := drop_cons hx
  have hc : decide ((k : Int) < (List.length y0_5 : Int)) = true := decide_eq_true (by omega)
  rw [task_sends_L0] at h
  refine SemK.round ?_
  refine bindE h ?_
  clear h; intro j30_24 h35 h
  refine runT tmD [.br true, .el (enc_GSend x), .stop 4] ?_
  refine SemK.join (s' := ⟨fr [(5, (AV.list false (List.map enc_GSend y0_5))), (6, (aI .i64 (List.length y0_5 : Int))), (7, (aI .i64 (k : Int))), (24, (aB j30_24))], hp ([]), 0⟩) ?_ (fun J => SemK.cut ?_)
  ·
   refine brE h ?_ ?_
   ·clear h; intro h36 h
    obtain rfl := Option.some.inj h
    refine runT tmD [.br true] ?_
    exact wkT [] (C1  rfl)
   ·clear h; intro h36 h
    refine runT tmD [.br false] ?_
    exact wkT [] (ih (k + 1) hx1  o h C0 C1)
  ·
   clear h
   have h := h35
   refine brE h ?_ ?_
   ·clear h; intro h31 h
    obtain rfl := Option.some.inj h
    refine run_to tmD 4000 [.go false, .go false, .go false, .go false, .go false, .go false, .go false] rfl (by repeat' first | refine And.intro ?_ ?_ | exact ((bif_t h31 rfl)) | exact (bnot_of (bif_t h31 rfl)) | exact (absN (bif_t h31 rfl)) | exact oblA) ?_
    exact wkT [] (SemK.glue J)
   ·clear h; intro h31 h
    refine brE h ?_ ?_
    ·clear h; intro h32 h
     obtain rfl := Option.some.inj h
     refine run_to tmD 4000 [.go true, .go true, .go true, .go false, .go false, .go false, .go false] rfl (by repeat' first | refine And.intro ?_ ?_ | exact ((bif_f h31 h32)) | exact (bnot_of (bif_f h31 h32)) | exact (absN (bif_f h31 h32)) | exact oblA) ?_
     exact wkT [] (SemK.glue J)
    ·clear h; intro h32 h
     refine bindE h ?_
     clear h; intro v33 h34 h
     obtain rfl := Option.some.inj h
     refine run_to tmD 4000 [.go true, .go true, .go true, .go true, .go true, .go true, .pure [(enc_GMessage x.Message)] (aI .i64 v33), .go true] rfl (by repeat' first | refine And.intro ?_ ?_ | exact ((bif_f h31 h32)) | exact (bnot_of (bif_f h31 h32)) | exact (PureCall.none (message_Check_ok _ _ h34) (Cvs.cons (cvf_GMessage (x := x.Message)) Cvs.nil)) | exact (absT (bif_f h31 h32)) | exact oblA) ?_
     exact wkT [] (SemK.glue J)

theorem task_sends_ok (a0 : (List GSend)) (r : Bool) (h : task_sends a0 = some r) : Pure Tryz.prog 63 [(AV.list false (List.map enc_GSend a0))] (aB r) := by
 refine Pure.sym tyTab_ok fn63 (nt := 26) rfl rfl ?_ (allCons .list allNil)
 unfold task_sends at h
 refine bindE h ?_
 clear h; intro u1 h2 h
 have qh2 := lenOk_le h2
 refine bindE h ?_
 clear h; intro o37 h38 h
 refine runT tmD [.el (aI .i64 (List.length a0 : Int))] ?_
 refine wkT [] (SemK.cut (task_sends_L0_ok a0 qh2 a0 0 (by simp) _ h38 ?_ ?_))
 ·intro eo37; subst eo37
  refine SemK.glue ?_
  try dsimp only at h
  obtain rfl := Option.some.inj h
  refine runT tmD [] ?_
  refine fin_ret rfl ?_
  exact .sc
 ·intro eo37; subst eo37
  refine SemK.glue ?_
  try dsimp only at h
  obtain rfl := Option.some.inj h
  refine runT tmD [] ?_
  refine fin_ret rfl ?_
  exact .sc

theorem accums_Check_ok (a0 : GAccum) (r : Int) (h : accums_Check a0 = some r) : Pure Tryz.prog 109 [(enc_GAccum a0)] (aI .i64 r) := by
 refine Pure.sym tyTab_ok fn109 (nt := 43) rfl rfl ?_ (allCons (free_GAccum _ _).1 allNil)
 unfold accums_Check at h
 refine bindE h ?_
 clear h; intro j4_3 h8 h
 refine runT tmD [] ?_
 refine SemK.join (s' := ⟨fr [(3, (aB j4_3))], hp ([]), 0⟩) ?_ (fun J => SemK.cut ?_)
 ·
  refine brE h ?_ ?_
  ·clear h; intro h9 h
   obtain rfl := Option.some.inj h
   refine runT tmD [.br true] ?_
   refine fin_ret rfl ?_
   exact .sc
  ·clear h; intro h9 h
   obtain rfl := Option.some.inj h
   refine runT tmD [.br false] ?_
   refine fin_ret rfl ?_
   exact .sc
 ·
  clear h
  have h := h8
  refine brE h ?_ ?_
  ·clear h; intro h5 h
   obtain rfl := Option.some.inj h
   refine runT tmD [.br true] ?_
   exact wkT [] (SemK.glue J)
  ·clear h; intro h5 h
   refine brE h ?_ ?_
   ·clear h; intro h6 h
    obtain rfl := Option.some.inj h
    refine runT tmD [.br false, .br true] ?_
    exact wkT [] (SemK.glue J)
   ·clear h; intro h6 h
    refine brE h ?_ ?_
    ·clear h; intro h7 h
     obtain rfl := Option.some.inj h
     refine runT tmD [.br false, .br false, .br true] ?_
     exact wkT [] (SemK.glue J)
    ·clear h; intro h7 h
     obtain rfl := Option.some.inj h
     refine runT tmD [.br false, .br false, .br false] ?_
     exact wkT [] (SemK.glue J)
end Go.Av.Tryz
