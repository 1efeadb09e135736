/- Printed by decomp.py: that the program computes the functions. -/
import Derived.Test.YtfdfgobnpnoomaaGreatDCert4Z
set_option linter.all false
set_option linter.unusedVariables false
namespace Go.Av.Tryz
open Go.Proofs Go.D
set_option maxRecDepth 10000
set_option maxHeartbeats 4000000

theorem kinds_told_ok (a0 : (List GNode)) (r : (List Bool) × Int) (h : kinds_told a0 = some r) : Pure Tryz.prog 156 [(AV.list false (List.map enc_GNode a0))] (AV.tup [(AV.list true (List.map aB r.1)), (aI .i64 r.2)]) := by
 refine Pure.sym tyTab_ok fn156 (nt := 88) rfl rfl ?_ (allCons .list allNil)
 unfold kinds_told at h
 refine bindE h ?_
 clear h; intro u1 h2 h
 have qh2 := lenOk_le h2
 refine bindE h ?_
 clear h; intro o3784 h3785 h
 refine runT tmD [.el (aI .i64 (List.length a0 : Int))] ?_
 refine wkT [] (SemK.cut (kinds_told_L0_ok a0 qh2 a0 0 (by simp) _ (nbT (by first | rfl | simp [*])) _ h3785 ?_ ?_))
 ·intro z0_0_o1 nb_z0_0_o1 eo3784; subst eo3784
  refine SemK.glue ?_
  try dsimp only at h
  rcases nb_z0_0_o1 with ⟨_ | _, hn_z0_0_o1⟩
  ·
   obtain rfl := Option.some.inj h
   refine runT tmD [.el (aI .i64 (List.length a0 : Int))] ?_
   refine fin_ret rfl ?_
   exact (cv_tup (Cvs.cons (cv_ref (es := List.map aB z0_0_o1) rfl (by first | rfl | (simp; done) | (simp; rfl) | (simp []; done) | (simp []; rfl) | (simp [List.map_take, List.map_drop]; done) | (simp [List.map_take, List.map_drop]; rfl)) (by first | rfl | (simp; done) | (simp; omega) | (simp []; done) | (simp []; omega)) (flat_map (fun _ => flatSc) z0_0_o1)) (Cvs.cons (cv_scE (by first | rfl | (simp [*]; done))) Cvs.nil)))
  ·
   obtain rfl := hn_z0_0_o1 rfl
   obtain rfl := Option.some.inj h
   refine runT tmD [.el (aI .i64 (List.length a0 : Int))] ?_
   refine fin_ret rfl ?_
   exact (cv_tup (Cvs.cons (cv_nils (by simp)) (Cvs.cons (cv_scE (by first | rfl | (simp [*]; done))) Cvs.nil)))
 ·intro z0_1_o0 z0_1_3 nb_z0_1_o0 eo3784; subst eo3784
  refine SemK.glue ?_
  try dsimp only at h
  rcases nb_z0_1_o0 with ⟨_ | _, hn_z0_1_o0⟩
  ·
   obtain rfl := Option.some.inj h
   refine runT tmD [] ?_
   refine fin_ret rfl ?_
   exact (cv_tup (Cvs.cons (cv_ref (es := List.map aB z0_1_o0) rfl (by first | rfl | (simp; done) | (simp; rfl) | (simp []; done) | (simp []; rfl) | (simp [List.map_take, List.map_drop]; done) | (simp [List.map_take, List.map_drop]; rfl)) (by first | rfl | (simp; done) | (simp; omega) | (simp []; done) | (simp []; omega)) (flat_map (fun _ => flatSc) z0_1_o0)) (Cvs.cons .sc Cvs.nil)))
  ·
   obtain rfl := hn_z0_1_o0 rfl
   obtain rfl := Option.some.inj h
   refine runT tmD [] ?_
   refine fin_ret rfl ?_
   exact (cv_tup (Cvs.cons (cv_nils (by simp)) (Cvs.cons .sc Cvs.nil)))

theorem kinds_Of_ok (a0 : (List GNode)) (r : Bool × Int × Int) (h : kinds_Of a0 = some r) : Pure Tryz.prog 130 [(AV.list false (List.map enc_GNode a0))] (AV.tup [(aB r.1), (aI .i64 r.2.1), (aI .i64 r.2.2)]) := by
 refine Pure.sym tyTab_ok fn130 (nt := 30) rfl rfl ?_ (allCons .list allNil)
 unfold kinds_Of at h
 refine bindE h ?_
 clear h; intro v1 h2 h
 refine brE h ?_ ?_
 ·clear h; intro h3 h
  obtain rfl := Option.some.inj h
  refine run_to tmD 4000 [.pure [(AV.list false (List.map enc_GNode a0))] (aI .i64 v1), .br true] rfl (by repeat' first | refine And.intro ?_ ?_ | exact (PureCall.none (nodes_Check_ok _ _ h2) (Cvs.cons (cv_list (flat_map flat_GNode a0)) Cvs.nil)) | exact oblA) ?_
  refine fin_ret rfl ?_
  exact (cv_tup (Cvs.cons .sc (Cvs.cons .sc (Cvs.cons .sc Cvs.nil))))
 ·clear h; intro h3 h
  refine bindE h ?_
  clear h; intro v4 h5 h
  refine run_to tmD 4000 [.pure [(AV.list false (List.map enc_GNode a0))] (aI .i64 v1), .br false, .pure [(AV.list false (List.map enc_GNode a0))] (AV.tup [(AV.list true (List.map aB v4.1)), (aI .i64 v4.2)]), .el (aI .i64 (List.length a0 : Int))] rfl (by repeat' first | refine And.intro ?_ ?_ | exact (PureCall.none (nodes_Check_ok _ _ h2) (Cvs.cons (cv_list (flat_map flat_GNode a0)) Cvs.nil)) | exact (PureCall.none (kinds_told_ok _ _ h5) (Cvs.cons (cv_list (flat_map flat_GNode a0)) Cvs.nil)) | exact oblA) ?_
  refine brE h ?_ ?_
  ·clear h; intro h6 h
   obtain rfl := Option.some.inj h
   refine runT tmD [.br true] ?_
   refine fin_ret rfl ?_
   exact (cv_tup (Cvs.cons .sc (Cvs.cons .sc (Cvs.cons .sc Cvs.nil))))
  ·clear h; intro h6 h
   refine bindE h ?_
   clear h; intro e7 h8 h
   try have qh8 := getI_lt h8
   obtain rfl := Option.some.inj h
   refine runT tmD [.br false, .wrap, .el (aB e7), .wrap] ?_
   refine fin_ret rfl ?_
   exact (cv_tup (Cvs.cons .sc (Cvs.cons .sc (Cvs.cons .sc Cvs.nil))))

theorem kinds_want_ok (a0 : (List GNode)) (a1 : Bool) (r : Int × Int) (h : kinds_want a0 a1 = some r) : Pure Tryz.prog 108 [(AV.list false (List.map enc_GNode a0)), (aB a1)] (AV.tup [(aI .i64 r.1), (aI .i64 r.2)]) := by
 refine Pure.sym tyTab_ok fn108 (nt := 24) rfl rfl ?_ (allCons .list (allCons .sc allNil))
 unfold kinds_want at h
 refine bindE h ?_
 clear h; intro v1 h2 h
 refine bindE h ?_
 clear h; intro j4_8 h6 h
 refine run_to tmD 4000 [.pure [(AV.list false (List.map enc_GNode a0))] (AV.tup [(aB v1.1), (aI .i64 v1.2.1), (aI .i64 v1.2.2)])] rfl (by repeat' first | refine And.intro ?_ ?_ | exact (PureCall.none (kinds_Of_ok _ _ h2) (Cvs.cons (cv_list (flat_map flat_GNode a0)) Cvs.nil)) | exact oblA) ?_
 refine SemK.join (s' := ⟨fr [(7, (aI .i64 v1.2.1)), (8, (aI .i64 j4_8))], hp ([]), 0⟩) ?_ (fun J => SemK.cut ?_)
 ·
  obtain rfl := Option.some.inj h
  refine runT tmD [] ?_
  refine fin_ret rfl ?_
  exact (cv_tup (Cvs.cons .sc (Cvs.cons .sc Cvs.nil)))
 ·
  clear h
  have h := h6
  refine brE h ?_ ?_
  ·clear h; intro h5 h
   obtain rfl := Option.some.inj h
   refine run_to tmD 4000 [.br true] rfl (by repeat' first | refine And.intro ?_ ?_ | exact (PureCall.none (kinds_Of_ok _ _ h2) (Cvs.cons (cv_list (flat_map flat_GNode a0)) Cvs.nil)) | exact oblA) ?_
   exact wkT [] (SemK.glue J)
  ·clear h; intro h5 h
   obtain rfl := Option.some.inj h
   refine run_to tmD 4000 [.br false] rfl (by repeat' first | refine And.intro ?_ ?_ | exact (PureCall.none (kinds_Of_ok _ _ h2) (Cvs.cons (cv_list (flat_map flat_GNode a0)) Cvs.nil)) | exact oblA) ?_
   exact wkT [] (SemK.glue J)

theorem kinds_Truth_ok (a0 : (List GNode)) (r : Int × Int) (h : kinds_Truth a0 = some r) : Pure Tryz.prog 76 [(AV.list false (List.map enc_GNode a0))] (AV.tup [(aI .i64 r.1), (aI .i64 r.2)]) := by
 refine Pure.sym tyTab_ok fn76 (nt := 8) rfl rfl ?_ (allCons .list allNil)
 unfold kinds_Truth at h
 refine bindE h ?_
 clear h; intro v1 h2 h
 obtain rfl := Option.some.inj h
 refine run_to tmD 4000 [.pure [(AV.list false (List.map enc_GNode a0)), (aB true)] (AV.tup [(aI .i64 v1.1), (aI .i64 v1.2)])] rfl (by repeat' first | refine And.intro ?_ ?_ | exact (PureCall.none (kinds_want_ok _ _ _ h2) (Cvs.cons (cv_list (flat_map flat_GNode a0)) (Cvs.cons .sc Cvs.nil))) | exact oblA) ?_
 refine fin_ret rfl ?_
 exact (cv_tup (Cvs.cons .sc (Cvs.cons .sc Cvs.nil)))

theorem kinds_Number_ok (a0 : (List GNode)) (r : Int × Int) (h : kinds_Number a0 = some r) : Pure Tryz.prog 75 [(AV.list false (List.map enc_GNode a0))] (AV.tup [(aI .i64 r.1), (aI .i64 r.2)]) := by
 refine Pure.sym tyTab_ok fn75 (nt := 8) rfl rfl ?_ (allCons .list allNil)
 unfold kinds_Number at h
 refine bindE h ?_
 clear h; intro v1 h2 h
 obtain rfl := Option.some.inj h
 refine run_to tmD 4000 [.pure [(AV.list false (List.map enc_GNode a0)), (aB false)] (AV.tup [(aI .i64 v1.1), (aI .i64 v1.2)])] rfl (by repeat' first | refine And.intro ?_ ?_ | exact (PureCall.none (kinds_want_ok _ _ _ h2) (Cvs.cons (cv_list (flat_map flat_GNode a0)) (Cvs.cons .sc Cvs.nil))) | exact oblA) ?_
 refine fin_ret rfl ?_
 exact (cv_tup (Cvs.cons .sc (Cvs.cons .sc Cvs.nil)))

theorem checks_Check_ok (a0 : GQuery) (r : Int × Int) (h : checks_Check a0 = some r) : Pure Tryz.prog 48 [(enc_GQuery false a0)] (AV.tup [(aI .i64 r.1), (aI .i64 r.2)]) := by
 refine Pure.sym tyTab_ok fn48 (nt := 20) rfl rfl ?_ (allCons (free_GQuery false _ _).1 allNil)
 unfold checks_Check at h
 refine bindE h ?_
 clear h; intro v1 h2 h
 refine brE h ?_ ?_
 ·clear h; intro h3 h
  obtain rfl := Option.some.inj h
  refine run_to tmD 4000 [.pure [(enc_GQuery false a0)] (aI .i64 v1), .br true] rfl (by repeat' first | refine And.intro ?_ ?_ | exact (PureCall.none (clauses_Check_ok _ _ h2) (Cvs.cons (cv_agg (Cvs.cons .sc (Cvs.cons (cv_list (flat_map flat_GNode a0.Arg)) (Cvs.cons (cv_list (flat_map (fun _ => flatSc) a0.Sources)) (Cvs.cons .sc (Cvs.cons (cv_list (flat_map flat_GNode a0.Where)) (Cvs.cons .sc (Cvs.cons .sc (Cvs.cons .sc (Cvs.cons .sc (Cvs.cons .sc Cvs.nil))))))))))) Cvs.nil)) | exact oblA) ?_
  refine fin_ret rfl ?_
  exact (cv_tup (Cvs.cons .sc (Cvs.cons .sc Cvs.nil)))
 ·clear h; intro h3 h
  refine bindE h ?_
  clear h; intro w22 h41 h
  obtain ⟨j22_17_0, j22_17_1⟩ := w22
  try dsimp only at h
  refine run_to tmD 4000 [.pure [(enc_GQuery false a0)] (aI .i64 v1), .br false] rfl (by repeat' first | refine And.intro ?_ ?_ | exact (PureCall.none (clauses_Check_ok _ _ h2) (Cvs.cons (cv_agg (Cvs.cons .sc (Cvs.cons (cv_list (flat_map flat_GNode a0.Arg)) (Cvs.cons (cv_list (flat_map (fun _ => flatSc) a0.Sources)) (Cvs.cons .sc (Cvs.cons (cv_list (flat_map flat_GNode a0.Where)) (Cvs.cons .sc (Cvs.cons .sc (Cvs.cons .sc (Cvs.cons .sc (Cvs.cons .sc Cvs.nil))))))))))) Cvs.nil)) | exact oblA) ?_
  refine SemK.joinOp (s' := ⟨fr [(17, (AV.tup [(aI .i64 j22_17_0), (aI .i64 j22_17_1)]))], hp ([]), 0⟩) ?_ (fun J => ?_)
  ·
   obtain rfl := Option.some.inj h
   refine runT tmD [] ?_
   refine fin_ret rfl ?_
   exact (cv_tup (Cvs.cons .sc (Cvs.cons .sc Cvs.nil)))
  ·
   clear h
   have h := h41
   refine SemK.inline tyTab_ok fn74 rfl rfl rfl rfl rfl trivial trivial rfl rfl ?_
   refine runT tmD [] ?_
   refine SemK.round ?_
   refine brE h ?_ ?_
   ·clear h; intro h23 h
    refine runT tmD [.br true, .el (AV.agg [(AV.list false (List.map enc_GNode a0.Arg)), (AV.fn 75 [])]), .el (aI .i64 (List.length a0.Arg : Int)), .br true] ?_
    refine SemK.round ?_
    refine brE h ?_ ?_
    ·clear h; intro h24 h
     refine runT tmD [.br true, .el (AV.agg [(AV.list false (List.map enc_GNode a0.Where)), (AV.fn 76 [])]), .el (aI .i64 (List.length a0.Where : Int)), .br true] ?_
     refine SemK.round ?_
     cases h
     refine runT tmD [.br false] ?_
     refine SemK.back (by intro id h; cases h) rfl ?_
     exact wkT [] (J)
    ·clear h; intro h24 h
     refine bindE h ?_
     clear h; intro v25 h26 h
     refine run_to tmD 4000 [.br true, .el (AV.agg [(AV.list false (List.map enc_GNode a0.Where)), (AV.fn 76 [])]), .el (aI .i64 (List.length a0.Where : Int)), .br false, .pure [(AV.list false (List.map enc_GNode a0.Where))] (AV.tup [(aI .i64 v25.1), (aI .i64 v25.2)])] rfl (by repeat' first | refine And.intro ?_ ?_ | exact (PureCall.none (kinds_Truth_ok _ _ h26) (Cvs.cons (cv_list (flat_map flat_GNode a0.Where)) Cvs.nil)) | exact oblA) ?_
     refine brE h ?_ ?_
     ·clear h; intro h27 h
      refine bindE h ?_
      clear h; intro e28 h29 h
      try have qh29 := getI_lt h29
      cases h
      refine runT tmD [.br true, .el (enc_GNode e28)] ?_
      refine SemK.back (by intro id h; cases h) rfl ?_
      exact wkT [] (J)
     ·clear h; intro h27 h
      refine runT tmD [.br false] ?_
      refine SemK.round ?_
      cases h
      refine runT tmD [.br false] ?_
      refine SemK.back (by intro id h; cases h) rfl ?_
      exact wkT [] (J)
   ·clear h; intro h23 h
    refine bindE h ?_
    clear h; intro v30 h31 h
    refine run_to tmD 4000 [.br true, .el (AV.agg [(AV.list false (List.map enc_GNode a0.Arg)), (AV.fn 75 [])]), .el (aI .i64 (List.length a0.Arg : Int)), .br false, .pure [(AV.list false (List.map enc_GNode a0.Arg))] (AV.tup [(aI .i64 v30.1), (aI .i64 v30.2)])] rfl (by repeat' first | refine And.intro ?_ ?_ | exact (PureCall.none (kinds_Number_ok _ _ h31) (Cvs.cons (cv_list (flat_map flat_GNode a0.Arg)) Cvs.nil)) | exact oblA) ?_
    refine brE h ?_ ?_
    ·clear h; intro h32 h
     refine bindE h ?_
     clear h; intro e33 h34 h
     try have qh34 := getI_lt h34
     cases h
     refine runT tmD [.br true, .el (enc_GNode e33)] ?_
     refine SemK.back (by intro id h; cases h) rfl ?_
     exact wkT [] (J)
    ·clear h; intro h32 h
     refine runT tmD [.br false] ?_
     refine SemK.round ?_
     refine brE h ?_ ?_
     ·clear h; intro h35 h
      refine runT tmD [.br true, .el (AV.agg [(AV.list false (List.map enc_GNode a0.Where)), (AV.fn 76 [])]), .el (aI .i64 (List.length a0.Where : Int)), .br true] ?_
      refine SemK.round ?_
      cases h
      refine runT tmD [.br false] ?_
      refine SemK.back (by intro id h; cases h) rfl ?_
      exact wkT [] (J)
     ·clear h; intro h35 h
      refine bindE h ?_
      clear h; intro v36 h37 h
      refine run_to tmD 4000 [.br true, .el (AV.agg [(AV.list false (List.map enc_GNode a0.Where)), (AV.fn 76 [])]), .el (aI .i64 (List.length a0.Where : Int)), .br false, .pure [(AV.list false (List.map enc_GNode a0.Where))] (AV.tup [(aI .i64 v36.1), (aI .i64 v36.2)])] rfl (by repeat' first | refine And.intro ?_ ?_ | exact (PureCall.none (kinds_Truth_ok _ _ h37) (Cvs.cons (cv_list (flat_map flat_GNode a0.Where)) Cvs.nil)) | exact oblA) ?_
      refine brE h ?_ ?_
      ·clear h; intro h38 h
       refine bindE h ?_
       clear h; intro e39 h40 h
       try have qh40 := getI_lt h40
       cases h
       refine runT tmD [.br true, .el (enc_GNode e39)] ?_
       refine SemK.back (by intro id h; cases h) rfl ?_
       exact wkT [] (J)
      ·clear h; intro h38 h
       refine runT tmD [.br false] ?_
       refine SemK.round ?_
       cases h
       refine runT tmD [.br false] ?_
       refine SemK.back (by intro id h; cases h) rfl ?_
       exact wkT [] (J)

theorem late_time_ok (a0 : Int) (r : Bool) (h : late_time a0 = some r) : Pure Tryz.prog 104 [(aI .i64 a0)] (aB r) := by
 refine Pure.sym tyTab_ok fn104 (nt := 9) rfl rfl ?_ (allCons .sc allNil)
 unfold late_time at h
 obtain rfl := Option.some.inj h
 refine runT tmD [] ?_
 refine fin_ret rfl ?_
 exact .sc

theorem late_Check_L0_ok {Q : AExit → St → Mu → Prop} {μ : Mu} (y0_10 : (List GEvent)) (hl : List.length y0_10 ≤ 140737488355328) : ∀ (xs : List GEvent) (k : Nat) (hx : y0_10.drop k = xs) (o : late_Check_L0_o) (h : late_Check_L0 y0_10 xs k  = some o)
  (C0 : o = late_Check_L0_o.x0 → SemK Tryz.prog 55 0 Q (.exit (.exit 0)) [] ⟨fr [], hp ([]), 0⟩ μ)
  (C1 : o = late_Check_L0_o.x1 → SemK Tryz.prog 55 0 Q (.exit .ret) [] ⟨fr [(2, (aI .i64 8))], hp ([]), 0⟩ μ),
  SemK Tryz.prog 55 0 Q (.loop (loopB 0 (bodyOf Tryz.f70))) [] ⟨fr [(10, (AV.list false (List.map enc_GEvent y0_10))), (11, (aI .i64 (List.length y0_10 : Int))), (12, (aI .i64 (k : Int)))], hp ([]), 0⟩ μ := by
 intro xs
 induction xs with
 | nil =>
  intro k hx  o h C0 C1
  have hk := drop_nil hx
  have hc : decide ((k : Int) < (List.length y0_10 : Int)) = false := decide_eq_false (by omega)
  rw [late_Check_L0] at h
  refine SemK.round ?_
  obtain rfl := Option.some.inj h
  refine runT tmD [.br false] ?_
  exact wkT [] (C0  rfl)
 | cons x xs ih =>
  intro k hx  o h C0 C1
  obtain ⟨hk, hg, hx1⟩ := drop_cons hx
  have hc : decide ((k : Int) < (List.length y0_10 : Int)) = true := decide_eq_true (by omega)
  rw [late_Check_L0] at h
  refine SemK.round ?_
  refine bindE h ?_
  clear h; intro j47_5 h52 h
  refine runT tmD [.br true, .el (enc_GEvent x), .stop 6] ?_
  refine SemK.join (s' := ⟨fr [(4, (AV.ptr 0 0 0)), (5, (aB j47_5)), (10, (AV.list false (List.map enc_GEvent y0_10))), (11, (aI .i64 (List.length y0_10 : Int))), (12, (aI .i64 (k : Int)))], hp ([(0, { es := [(enc_GEvent x)], esz := 5 })]), 1⟩) ?_ (fun J => SemK.cut ?_)
  ·
   refine bindE h ?_
   clear h; intro j56_6 h60 h
   refine runT tmD [.stop 7] ?_
   refine SemK.join (s' := ⟨fr [(4, (AV.ptr 0 0 0)), (5, (aB j47_5)), (6, (aB j56_6)), (10, (AV.list false (List.map enc_GEvent y0_10))), (11, (aI .i64 (List.length y0_10 : Int))), (12, (aI .i64 (k : Int)))], hp ([(0, { es := [(enc_GEvent x)], esz := 5 })]), 1⟩) ?_ (fun J => SemK.cut ?_)
   ·
    refine brE h ?_ ?_
    ·clear h; intro h61 h
     obtain rfl := Option.some.inj h
     refine runT tmD [.br true] ?_
     exact wkT [] (C1  rfl)
    ·clear h; intro h61 h
     refine runT tmD [.br false] ?_
     exact wkT [] (ih (k + 1) hx1  o h C0 C1)
   ·
    clear h
    have h := h60
    refine brE h ?_ ?_
    ·clear h; intro h57 h
     refine bindE h ?_
     clear h; intro v58 h59 h
     obtain rfl := Option.some.inj h
     refine run_to tmD 4000 [.go true, .go true, .go true, .go true, .pure [(aI .i64 x.Record.Time)] (aB v58)] rfl (by repeat' first | refine And.intro ?_ ?_ | exact (PureCall.none (late_time_ok _ _ h59) (Cvs.cons .sc Cvs.nil)) | exact oblA) ?_
     exact wkT [] (SemK.glue J)
    ·clear h; intro h57 h
     obtain rfl := Option.some.inj h
     refine runT tmD [.go false, .go false, .go false, .go false] ?_
     exact wkT [] (SemK.glue J)
  ·
   clear h
   have h := h52
   refine brE h ?_ ?_
   ·clear h; intro h48 h
    refine bindE h ?_
    clear h; intro v49 h50 h
    refine brE h ?_ ?_
    ·clear h; intro h51 h
     obtain rfl := Option.some.inj h
     refine run_to tmD 4000 [.go true, .go true, .go true, .pure [(aI .i64 x.Time)] (aB v49), .go true, .go false, .go false, .go false, .go true] rfl (by repeat' first | refine And.intro ?_ ?_ | exact (PureCall.none (late_time_ok _ _ h50) (Cvs.cons .sc Cvs.nil)) | exact oblA) ?_
     exact wkT [] (SemK.glue J)
    ·clear h; intro h51 h
     obtain rfl := Option.some.inj h
     refine run_to tmD 4000 [.go true, .go true, .go true, .pure [(aI .i64 x.Time)] (aB v49), .go true, .go true, .go true, .go true, .go true] rfl (by repeat' first | refine And.intro ?_ ?_ | exact (PureCall.none (late_time_ok _ _ h50) (Cvs.cons .sc Cvs.nil)) | exact oblA) ?_
     exact wkT [] (SemK.glue J)
   ·clear h; intro h48 h
    obtain rfl := Option.some.inj h
    refine runT tmD [.go false, .go false, .go false, .go false, .go false, .go false, .go false, .go false] ?_
    exact wkT [] (SemK.glue J)

theorem late_Check_ok (a0 : (List GEvent)) (r : Int) (h : late_Check a0 = some r) : Pure Tryz.prog 70 [(AV.list false (List.map enc_GEvent a0))] (aI .i64 r) := by
 refine Pure.sym tyTab_ok fn70 (nt := 55) rfl rfl ?_ (allCons .list allNil)
 unfold late_Check at h
 refine brE h ?_ ?_
 ·clear h; intro h1 h
  obtain rfl := Option.some.inj h
  refine runT tmD [.el (aI .i64 (List.length a0 : Int)), .br true] ?_
  refine fin_ret rfl ?_
  exact .sc
 ·clear h; intro h1 h
  refine bindE h ?_
  clear h; intro u2 h3 h
  have qh3 := lenOk_le h3
  refine bindE h ?_
  clear h; intro o62 h63 h
  refine runT tmD [.el (aI .i64 (List.length a0 : Int)), .br false, .el (aI .i64 (List.length a0 : Int))] ?_
  refine wkT [] (SemK.cut (late_Check_L0_ok a0 qh3 a0 0 (by simp) _ h63 ?_ ?_))
  ·intro eo62; subst eo62
   refine SemK.glue ?_
   try dsimp only at h
   obtain rfl := Option.some.inj h
   refine runT tmD [] ?_
   refine fin_ret rfl ?_
   exact .sc
  ·intro eo62; subst eo62
   refine SemK.glue ?_
   try dsimp only at h
   obtain rfl := Option.some.inj h
   refine runT tmD [] ?_
   refine fin_ret rfl ?_
   exact .sc

theorem meaning_events_L0_ok {Q : AExit → St → Mu → Prop} {μ : Mu} (y0_6 : (List (List GEvent))) (hl : List.length y0_6 ≤ 140737488355328) : ∀ (xs : List (List GEvent)) (k : Nat) (hx : y0_6.drop k = xs) (o : meaning_events_L0_o) (h : meaning_events_L0 y0_6 xs k  = some o)
  (C0 : o = meaning_events_L0_o.x0 → SemK Tryz.prog 18 0 Q (.exit (.exit 0)) [] ⟨fr [], hp ([]), 0⟩ μ)
  (C1 : ∀ (z0_1_2 : Int), o = meaning_events_L0_o.x1 z0_1_2 → SemK Tryz.prog 18 0 Q (.exit .ret) [] ⟨fr [(2, (aI .i64 z0_1_2))], hp ([]), 0⟩ μ),
  SemK Tryz.prog 18 0 Q (.loop (loopB 0 (bodyOf Tryz.f44))) [] ⟨fr [(6, (AV.list false (List.map (encl false enc_GEvent) y0_6))), (7, (aI .i64 (List.length y0_6 : Int))), (8, (aI .i64 (k : Int)))], hp ([]), 0⟩ μ := by
 intro xs
 induction xs with
 | nil =>
  intro k hx  o h C0 C1
  have hk := drop_nil hx
  have hc : decide ((k : Int) < (List.length y0_6 : Int)) = false := decide_eq_false (by omega)
  rw [meaning_events_L0] at h
  refine SemK.round ?_
  obtain rfl := Option.some.inj h
  refine runT tmD [.br false] ?_
  exact wkT [] (C0  rfl)
 | cons x xs ih =>
  intro k hx  o h C0 C1
  obtain ⟨hk, hg, hx1⟩ := drop_cons hx
  have hc : decide ((k : Int) < (List.length y0_6 : Int)) = true := decide_eq_true (by omega)
  rw [meaning_events_L0] at h
  refine SemK.round ?_
  refine bindE h ?_
  clear h; intro v10 h11 h
  refine brE h ?_ ?_
  ·clear h; intro h12 h
   obtain rfl := Option.some.inj h
   refine run_to tmD 4000 [.br true, .el (encl false enc_GEvent x), .pure [(AV.list false (List.map enc_GEvent x))] (aI .i64 v10), .br true] rfl (by repeat' first | refine And.intro ?_ ?_ | exact (PureCall.none (late_Check_ok _ _ h11) (Cvs.cons (cv_list (flat_map flat_GEvent x)) Cvs.nil)) | exact oblA) ?_
   exact wkT [] (C1 _  rfl)
  ·clear h; intro h12 h
   refine run_to tmD 4000 [.br true, .el (encl false enc_GEvent x), .pure [(AV.list false (List.map enc_GEvent x))] (aI .i64 v10), .br false] rfl (by repeat' first | refine And.intro ?_ ?_ | exact (PureCall.none (late_Check_ok _ _ h11) (Cvs.cons (cv_list (flat_map flat_GEvent x)) Cvs.nil)) | exact oblA) ?_
   exact wkT [] (ih (k + 1) hx1  o h C0 C1)

theorem meaning_events_ok (a0 : (List (List GEvent))) (r : Int) (h : meaning_events a0 = some r) : Pure Tryz.prog 44 [(AV.list false (List.map (encl false enc_GEvent) a0))] (aI .i64 r) := by
 refine Pure.sym tyTab_ok fn44 (nt := 18) rfl rfl ?_ (allCons .list allNil)
 unfold meaning_events at h
 refine bindE h ?_
 clear h; intro u1 h2 h
 have qh2 := lenOk_le h2
 refine bindE h ?_
 clear h; intro o13 h14 h
 refine runT tmD [.el (aI .i64 (List.length a0 : Int))] ?_
 refine wkT [] (SemK.cut (meaning_events_L0_ok a0 qh2 a0 0 (by simp) _ h14 ?_ ?_))
 ·intro eo13; subst eo13
  refine SemK.glue ?_
  try dsimp only at h
  obtain rfl := Option.some.inj h
  refine runT tmD [] ?_
  refine fin_ret rfl ?_
  exact .sc
 ·intro z0_1_2 eo13; subst eo13
  refine SemK.glue ?_
  try dsimp only at h
  obtain rfl := Option.some.inj h
  refine runT tmD [] ?_
  refine fin_ret rfl ?_
  exact .sc
end Go.Av.Tryz
