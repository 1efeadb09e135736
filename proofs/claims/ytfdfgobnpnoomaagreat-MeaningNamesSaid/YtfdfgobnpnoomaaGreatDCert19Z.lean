/- Printed by decomp.py: that the program computes the functions. -/
import Derived.Test.YtfdfgobnpnoomaaGreatDCert18Z
set_option linter.all false
set_option linter.unusedVariables false
namespace Go.Av.Tryz
open Go.Proofs Go.D
set_option maxRecDepth 10000
set_option maxHeartbeats 4000000

theorem ref08_Sources_L0_ok {Q : AExit → St → Mu → Prop} {μ : Mu} (y0_0 : (List Int)) (hl : List.length y0_0 ≤ 140737488355328) : ∀ (xs : List Int) (k : Nat) (hx : y0_0.drop k = xs) (o : ref08_Sources_L0_o) (h : ref08_Sources_L0 y0_0 xs k  = some o)
  (C0 : o = ref08_Sources_L0_o.x0 → SemK Tryz.prog 60 0 Q (.exit (.exit 0)) [] ⟨fr [(0, (AV.list false (List.map (aI .i64) y0_0)))], hp ([]), 0⟩ μ)
  (C1 : o = ref08_Sources_L0_o.x1 → SemK Tryz.prog 60 0 Q (.exit .ret) [] ⟨fr [(4, (aI .i64 8))], hp ([]), 0⟩ μ),
  SemK Tryz.prog 60 0 Q (.loop (loopB 0 (bodyOf Tryz.f93))) [] ⟨fr [(0, (AV.list false (List.map (aI .i64) y0_0))), (5, (aI .i64 (k : Int)))], hp ([]), 0⟩ μ := by
 intro xs
 induction xs with
 | nil =>
  intro k hx  o h C0 C1
  have hk := drop_nil hx
  have hc : decide ((k : Int) < (List.length y0_0 : Int)) = false := decide_eq_false (by omega)
  rw [ref08_Sources_L0] at h
  refine SemK.round ?_
  obtain rfl := Option.some.inj h
  refine runT tmD [.el (aI .i64 (List.length y0_0 : Int)), .br false] ?_
  exact wkT [] (C0  rfl)
 | cons x xs ih =>
  intro k hx  o h C0 C1
  obtain ⟨hk, hg, hx1⟩ := drop_cons hx
  have hc : decide ((k : Int) < (List.length y0_0 : Int)) = true := decide_eq_true (by omega)
  rw [ref08_Sources_L0] at h
  refine SemK.round ?_
  refine bindE h ?_
  clear h; intro j23_39 h25 h
  refine runT tmD [.el (aI .i64 (List.length y0_0 : Int)), .br true, .stop 8] ?_
  refine SemK.join (s' := ⟨fr [(0, (AV.list false (List.map (aI .i64) y0_0))), (5, (aI .i64 (k : Int))), (39, (aB j23_39))], hp ([]), 0⟩) ?_ (fun J => SemK.cut ?_)
  ·
   refine brE h ?_ ?_
   ·clear h; intro h26 h
    obtain rfl := Option.some.inj h
    refine runT tmD [.br true] ?_
    exact wkT [] (C1  rfl)
   ·clear h; intro h26 h
    refine runT tmD [.br false] ?_
    exact wkT [] (ih (k + 1) hx1  o h C0 C1)
  ·
   clear h
   have h := h25
   refine brE h ?_ ?_
   ·clear h; intro h24 h
    obtain rfl := Option.some.inj h
    refine runT tmD [.el (aI .i64 x), .go false, .go false, .go false, .go false, .go false] ?_
    exact wkT [] (SemK.glue J)
   ·clear h; intro h24 h
    obtain rfl := Option.some.inj h
    refine runT tmD [.el (aI .i64 x), .go true, .go true, .go true, .el (aI .i64 x), .go true, .go true] ?_
    exact wkT [] (SemK.glue J)

theorem ref08_Sources_L2_ok {Q : AExit → St → Mu → Prop} {μ : Mu} (y2_0 : (List Int)) (y2_6 : Int) : ∀ (n : Nat) (y2_7 : Int) (o : ref08_Sources_L2_o) (h : ref08_Sources_L2 y2_0 y2_6 n y2_7 = some o)
  (C0 : o = ref08_Sources_L2_o.x0 → SemK Tryz.prog 60 0 Q (.exit .ret) [] ⟨fr [(4, (aI .i64 43))], hp ([]), 0⟩ μ)
  (C1 : o = ref08_Sources_L2_o.x1 → SemK Tryz.prog 60 0 Q (.exit (.exit 4)) [] ⟨fr [(0, (AV.list false (List.map (aI .i64) y2_0))), (6, (aI .i64 y2_6))], hp ([]), 0⟩ μ),
  SemK Tryz.prog 60 0 Q (.loop (loopB 2 (bodyOf Tryz.f93))) [] ⟨fr [(0, (AV.list false (List.map (aI .i64) y2_0))), (6, (aI .i64 y2_6)), (7, (aI .i64 y2_7))], hp ([]), 0⟩ μ := by
 intro n
 induction n with
 | zero => intro y2_7 o h C0 C1; cases h
 | succ n ih =>
  intro y2_7 o h C0 C1
  rw [ref08_Sources_L2] at h
  refine SemK.round ?_
  refine brE h ?_ ?_
  ·clear h; intro h85 h
   refine bindE h ?_
   clear h; intro e86 h87 h
   try have qh87 := getI_lt h87
   refine bindE h ?_
   clear h; intro e88 h89 h
   try have qh89 := getI_lt h89
   refine brE h ?_ ?_
   ·clear h; intro h90 h
    obtain rfl := Option.some.inj h
    refine runT tmD [.br true, .el (aI .i64 e86), .el (aI .i64 e88), .br true] ?_
    exact wkT [] (C0  rfl)
   ·clear h; intro h90 h
    refine runT tmD [.br true, .el (aI .i64 e86), .el (aI .i64 e88), .br false, .wrap] ?_
    exact wkT [] (ih  _ o h C0 C1)
  ·clear h; intro h85 h
   obtain rfl := Option.some.inj h
   refine runT tmD [.br false] ?_
   exact wkT [] (C1  rfl)

theorem ref08_Sources_L1_ok {Q : AExit → St → Mu → Prop} {μ : Mu} (y1_0 : (List Int)) (hl : List.length y1_0 ≤ 140737488355328) : ∀ (xs : List Int) (k : Nat) (hx : y1_0.drop k = xs) (o : ref08_Sources_L1_o) (h : ref08_Sources_L1 y1_0 xs k  = some o)
  (C0 : o = ref08_Sources_L1_o.x0 → SemK Tryz.prog 60 0 Q (.exit (.exit 2)) [] ⟨fr [], hp ([]), 0⟩ μ)
  (C1 : o = ref08_Sources_L1_o.x1 → SemK Tryz.prog 60 0 Q (.exit .ret) [] ⟨fr [(4, (aI .i64 43))], hp ([]), 0⟩ μ),
  SemK Tryz.prog 60 0 Q (.loop (loopB 1 (bodyOf Tryz.f93))) [] ⟨fr [(0, (AV.list false (List.map (aI .i64) y1_0))), (6, (aI .i64 (k : Int)))], hp ([]), 0⟩ μ := by
 intro xs
 induction xs with
 | nil =>
  intro k hx  o h C0 C1
  have hk := drop_nil hx
  have hc : decide ((k : Int) < (List.length y1_0 : Int)) = false := decide_eq_false (by omega)
  rw [ref08_Sources_L1] at h
  refine SemK.round ?_
  obtain rfl := Option.some.inj h
  refine runT tmD [.el (aI .i64 (List.length y1_0 : Int)), .br false] ?_
  exact wkT [] (C0  rfl)
 | cons x xs ih =>
  intro k hx  o h C0 C1
  obtain ⟨hk, hg, hx1⟩ := drop_cons hx
  have hc : decide ((k : Int) < (List.length y1_0 : Int)) = true := decide_eq_true (by omega)
  rw [ref08_Sources_L1] at h
  refine SemK.round ?_
  refine bindE h ?_
  clear h; intro o91 h92 h
  refine runT tmD [.el (aI .i64 (List.length y1_0 : Int)), .br true] ?_
  refine wkT [] (SemK.cut (ref08_Sources_L2_ok y1_0 (k : Int) _ _ _ h92 ?_ ?_))
  ·intro eo91; subst eo91
   refine SemK.glue ?_
   try dsimp only at h
   obtain rfl := Option.some.inj h
   refine runT tmD [] ?_
   exact wkT [] (C1  rfl)
  ·intro eo91; subst eo91
   refine SemK.glue ?_
   try dsimp only at h
   refine runT tmD [] ?_
   exact wkT [] (ih (k + 1) hx1  o h C0 C1)

theorem ref08_Sources_ok (a0 : (List Int)) (a1 : Bool) (r : Int) (h : ref08_Sources a0 a1 = some r) : Pure Tryz.prog 93 [(AV.list false (List.map (aI .i64) a0)), (aB a1)] (aI .i64 r) := by
 refine Pure.sym tyTab_ok fn93 (nt := 60) rfl rfl ?_ (allCons .list (allCons .sc allNil))
 unfold ref08_Sources at h
 refine brE h ?_ ?_
 ·clear h; intro h1 h
  obtain rfl := Option.some.inj h
  refine runT tmD [.el (aI .i64 (List.length a0 : Int)), .br true] ?_
  refine fin_ret rfl ?_
  exact .sc
 ·clear h; intro h1 h
  refine bindE h ?_
  clear h; intro j4_21 h7 h
  refine runT tmD [.el (aI .i64 (List.length a0 : Int)), .br false, .stop 3] ?_
  refine SemK.join (s' := ⟨fr [(0, (AV.list false (List.map (aI .i64) a0))), (21, (aB j4_21))], hp ([]), 0⟩) ?_ (fun J => SemK.cut ?_)
  ·
   refine brE h ?_ ?_
   ·clear h; intro h8 h
    obtain rfl := Option.some.inj h
    refine runT tmD [.br true] ?_
    refine fin_ret rfl ?_
    exact .sc
   ·clear h; intro h8 h
    refine bindE h ?_
    clear h; intro u9 h10 h
    have qh10 := lenOk_le h10
    refine bindE h ?_
    clear h; intro o27 h28 h
    refine runT tmD [.br false] ?_
    refine wkT [] (SemK.cut (ref08_Sources_L0_ok a0 qh10 a0 0 (by simp) _ h28 ?_ ?_))
    ·intro eo27; subst eo27
     refine SemK.glue ?_
     try dsimp only at h
     refine bindE h ?_
     clear h; intro o93 h94 h
     refine runT tmD [] ?_
     refine wkT [] (SemK.cut (ref08_Sources_L1_ok a0 qh10 a0 0 (by simp) _ h94 ?_ ?_))
     ·intro eo93; subst eo93
      refine SemK.glue ?_
      try dsimp only at h
      obtain rfl := Option.some.inj h
      refine runT tmD [] ?_
      refine fin_ret rfl ?_
      exact .sc
     ·intro eo93; subst eo93
      refine SemK.glue ?_
      try dsimp only at h
      obtain rfl := Option.some.inj h
      refine runT tmD [] ?_
      refine fin_ret rfl ?_
      exact .sc
    ·intro eo27; subst eo27
     refine SemK.glue ?_
     try dsimp only at h
     obtain rfl := Option.some.inj h
     refine runT tmD [] ?_
     refine fin_ret rfl ?_
     exact .sc
  ·
   clear h
   have h := h7
   refine brE h ?_ ?_
   ·clear h; intro h5 h
    obtain rfl := Option.some.inj h
    refine runT tmD [.el (aI .i64 (List.length a0 : Int)), .go false, .go false, .go false, .go false, .go false, .go false] ?_
    exact wkT [] (SemK.glue J)
   ·clear h; intro h5 h
    refine brE h ?_ ?_
    ·clear h; intro h6 h
     obtain rfl := Option.some.inj h
     refine runT tmD [.el (aI .i64 (List.length a0 : Int)), .go true, .go true, .go true, .go true, .el (aI .i64 (List.length a0 : Int)), .go true, .go true] ?_
     exact wkT [] (SemK.glue J)
    ·clear h; intro h6 h
     obtain rfl := Option.some.inj h
     refine runT tmD [.el (aI .i64 (List.length a0 : Int)), .go true, .go true, .go false, .go false, .go false, .go true] ?_
     exact wkT [] (SemK.glue J)

theorem ref08_Fits_ok (a0 : GWindow) (r : Bool) (h : ref08_Fits a0 = some r) : Pure Tryz.prog 94 [(enc_GWindow a0)] (aB r) := by
 refine Pure.sym tyTab_ok fn94 (nt := 45) rfl rfl ?_ (allCons (free_GWindow _ _).1 allNil)
 unfold ref08_Fits at h
 refine brE h ?_ ?_
 ·clear h; intro h1 h
  obtain rfl := Option.some.inj h
  refine runT tmD [.br true] ?_
  refine fin_ret rfl ?_
  exact .sc
 ·clear h; intro h1 h
  refine brE h ?_ ?_
  ·clear h; intro h2 h
   obtain rfl := Option.some.inj h
   refine runT tmD [.br false, .br true, .wrap] ?_
   refine fin_ret rfl ?_
   exact .sc
  ·clear h; intro h2 h
   obtain rfl := Option.some.inj h
   refine runT tmD [.br false, .br false] ?_
   refine fin_ret rfl ?_
   exact .sc

theorem ref08_Check_ok (a0 : GQuery) (r : Int) (h : ref08_Check a0 = some r) : Pure Tryz.prog 56 [(enc_GQuery false a0)] (aI .i64 r) := by
 refine Pure.sym tyTab_ok fn56 (nt := 80) rfl rfl ?_ (allCons (free_GQuery false _ _).1 allNil)
 unfold ref08_Check at h
 refine brE h ?_ ?_
 ·clear h; intro h1 h
  obtain rfl := Option.some.inj h
  refine runT tmD [.br true] ?_
  refine fin_ret rfl ?_
  exact .sc
 ·clear h; intro h1 h
  refine bindE h ?_
  clear h; intro j3_29 h5 h
  refine runT tmD [.br false, .stop 3] ?_
  refine SemK.join (s' := ⟨fr [(1, (AV.ptr 0 0 0)), (29, (aB j3_29))], hp ([(0, { es := [(enc_GQuery false a0)], esz := 10 })]), 1⟩) ?_ (fun J => SemK.cut ?_)
  ·
   refine brE h ?_ ?_
   ·clear h; intro h6 h
    obtain rfl := Option.some.inj h
    refine runT tmD [.br true] ?_
    refine fin_ret rfl ?_
    exact .sc
   ·clear h; intro h6 h
    refine bindE h ?_
    clear h; intro j10_38 h14 h
    refine runT tmD [.br false, .stop 5] ?_
    refine SemK.join (s' := ⟨fr [(1, (AV.ptr 0 0 0)), (38, (aB j10_38))], hp ([(0, { es := [(enc_GQuery false a0)], esz := 10 })]), 1⟩) ?_ (fun J => SemK.cut ?_)
    ·
     refine brE h ?_ ?_
     ·clear h; intro h15 h
      refine bindE h ?_
      clear h; intro v16 h17 h
      obtain rfl := Option.some.inj h
      refine run_to tmD 4000 [.br true, .pure [(AV.list false (List.map enc_GNode a0.Arg))] (aI .i64 v16)] rfl (by repeat' first | refine And.intro ?_ ?_ | exact (PureCall.none (ref04_Check_ok _ _ h17) (Cvs.cons (cv_list (flat_map flat_GNode a0.Arg)) Cvs.nil)) | exact oblA) ?_
      refine fin_ret rfl ?_
      exact .sc
     ·clear h; intro h15 h
      refine bindE h ?_
      clear h; intro j21_51 h25 h
      refine runT tmD [.br false, .stop 7] ?_
      refine SemK.join (s' := ⟨fr [(1, (AV.ptr 0 0 0)), (51, (aB j21_51))], hp ([(0, { es := [(enc_GQuery false a0)], esz := 10 })]), 1⟩) ?_ (fun J => SemK.cut ?_)
      ·
       refine brE h ?_ ?_
       ·clear h; intro h26 h
        refine bindE h ?_
        clear h; intro v27 h28 h
        obtain rfl := Option.some.inj h
        refine run_to tmD 4000 [.br true, .pure [(AV.list false (List.map enc_GNode a0.Where))] (aI .i64 v27)] rfl (by repeat' first | refine And.intro ?_ ?_ | exact (PureCall.none (ref04_Check_ok _ _ h28) (Cvs.cons (cv_list (flat_map flat_GNode a0.Where)) Cvs.nil)) | exact oblA) ?_
        refine fin_ret rfl ?_
        exact .sc
       ·clear h; intro h26 h
        refine bindE h ?_
        clear h; intro v29 h30 h
        refine brE h ?_ ?_
        ·clear h; intro h31 h
         obtain rfl := Option.some.inj h
         refine run_to tmD 4000 [.br false, .pure [(AV.list false (List.map (aI .i64) a0.Sources)), (aB a0.Join)] (aI .i64 v29), .br true, .pure [(AV.list false (List.map (aI .i64) a0.Sources)), (aB a0.Join)] (aI .i64 v29)] rfl (by repeat' first | refine And.intro ?_ ?_ | exact (PureCall.none (ref08_Sources_ok _ _ _ h30) (Cvs.cons (cv_list (flat_map (fun _ => flatSc) a0.Sources)) (Cvs.cons .sc Cvs.nil))) | exact oblA) ?_
         refine fin_ret rfl ?_
         exact .sc
        ·clear h; intro h31 h
         refine bindE h ?_
         clear h; intro v32 h33 h
         refine brE h ?_ ?_
         ·clear h; intro h34 h
          obtain rfl := Option.some.inj h
          refine run_to tmD 4000 [.br false, .pure [(AV.list false (List.map (aI .i64) a0.Sources)), (aB a0.Join)] (aI .i64 v29), .br false, .pure [(enc_GWindow a0.Window)] (aB v32), .br true] rfl (by repeat' first | refine And.intro ?_ ?_ | exact (PureCall.none (ref08_Sources_ok _ _ _ h30) (Cvs.cons (cv_list (flat_map (fun _ => flatSc) a0.Sources)) (Cvs.cons .sc Cvs.nil))) | exact (PureCall.none (ref08_Fits_ok _ _ h33) (Cvs.cons (cvf_GWindow (x := a0.Window)) Cvs.nil)) | exact oblA) ?_
          refine fin_ret rfl ?_
          exact .sc
         ·clear h; intro h34 h
          obtain rfl := Option.some.inj h
          refine run_to tmD 4000 [.br false, .pure [(AV.list false (List.map (aI .i64) a0.Sources)), (aB a0.Join)] (aI .i64 v29), .br false, .pure [(enc_GWindow a0.Window)] (aB v32), .br false] rfl (by repeat' first | refine And.intro ?_ ?_ | exact (PureCall.none (ref08_Sources_ok _ _ _ h30) (Cvs.cons (cv_list (flat_map (fun _ => flatSc) a0.Sources)) (Cvs.cons .sc Cvs.nil))) | exact (PureCall.none (ref08_Fits_ok _ _ h33) (Cvs.cons (cvf_GWindow (x := a0.Window)) Cvs.nil)) | exact oblA) ?_
          refine fin_ret rfl ?_
          exact .sc
      ·
       clear h
       have h := h25
       refine brE h ?_ ?_
       ·clear h; intro h22 h
        refine bindE h ?_
        clear h; intro v23 h24 h
        obtain rfl := Option.some.inj h
        refine run_to tmD 4000 [.el (aI .i64 (List.length a0.Where : Int)), .go true, .go true, .go true, .pure [(AV.list false (List.map enc_GNode a0.Where))] (aI .i64 v23), .go true] rfl (by repeat' first | refine And.intro ?_ ?_ | exact (PureCall.none (ref04_Check_ok _ _ h24) (Cvs.cons (cv_list (flat_map flat_GNode a0.Where)) Cvs.nil)) | exact oblA) ?_
        exact wkT [] (SemK.glue J)
       ·clear h; intro h22 h
        obtain rfl := Option.some.inj h
        refine runT tmD [.el (aI .i64 (List.length a0.Where : Int)), .go false, .go false, .go false, .go false] ?_
        exact wkT [] (SemK.glue J)
    ·
     clear h
     have h := h14
     refine brE h ?_ ?_
     ·clear h; intro h11 h
      refine bindE h ?_
      clear h; intro v12 h13 h
      obtain rfl := Option.some.inj h
      refine run_to tmD 4000 [.go true, .go true, .go true, .pure [(AV.list false (List.map enc_GNode a0.Arg))] (aI .i64 v12), .go true] rfl (by repeat' first | refine And.intro ?_ ?_ | exact (PureCall.none (ref04_Check_ok _ _ h13) (Cvs.cons (cv_list (flat_map flat_GNode a0.Arg)) Cvs.nil)) | exact oblA) ?_
      exact wkT [] (SemK.glue J)
     ·clear h; intro h11 h
      obtain rfl := Option.some.inj h
      refine runT tmD [.go false, .go false, .go false, .go false] ?_
      exact wkT [] (SemK.glue J)
  ·
   clear h
   have h := h5
   refine brE h ?_ ?_
   ·clear h; intro h4 h
    obtain rfl := Option.some.inj h
    refine runT tmD [.go true, .go true, .go true, .el (aI .i64 (List.length a0.Arg : Int)), .go true] ?_
    exact wkT [] (SemK.glue J)
   ·clear h; intro h4 h
    obtain rfl := Option.some.inj h
    refine runT tmD [.go false, .go false, .go false, .go false] ?_
    exact wkT [] (SemK.glue J)

theorem ref06_Gives_ok (a0 : Int) (r : Bool) (h : ref06_Gives a0 = some r) : Pure Tryz.prog 155 [(aI .u8 a0)] (aB r) := by
 refine Pure.sym tyTab_ok fn155 (nt := 9) rfl rfl ?_ (allCons .sc allNil)
 unfold ref06_Gives at h
 obtain rfl := Option.some.inj h
 refine runT tmD [] ?_
 refine fin_ret rfl ?_
 exact .sc

theorem ref06_fits_ok (a0 : (List GNode)) (a1 : Int) (r : Bool) (h : ref06_fits a0 a1 = some r) : Pure Tryz.prog 188 [(AV.list false (List.map enc_GNode a0)), (aI .i64 a1)] (aB r) := by
 refine Pure.sym tyTab_ok fn188 (nt := 67) rfl rfl ?_ (allCons .list (allCons .sc allNil))
 unfold ref06_fits at h
 refine bindE h ?_
 clear h; intro e1 h2 h
 try have qh2 := getI_lt h2
 refine bindE h ?_
 clear h; intro e3 h4 h
 try have qh4 := getI_lt h4
 refine bindE h ?_
 clear h; intro v5 h6 h
 refine bindE h ?_
 clear h; intro e7 h8 h
 try have qh8 := getI_lt h8
 refine bindE h ?_
 clear h; intro v9 h10 h
 refine brE h ?_ ?_
 ·clear h; intro h11 h
  obtain rfl := Option.some.inj h
  refine run_to tmD 4000 [.el (enc_GNode e1), .el (enc_GNode e3), .pure [(aI .u8 e3.Kind)] (aB v5), .el (enc_GNode e7), .pure [(aI .u8 e7.Kind)] (aB v9), .br true] rfl (by repeat' first | refine And.intro ?_ ?_ | exact (PureCall.none (ref06_Gives_ok _ _ h6) (Cvs.cons .sc Cvs.nil)) | exact (PureCall.none (ref06_Gives_ok _ _ h10) (Cvs.cons .sc Cvs.nil)) | exact oblA) ?_
  refine fin_ret rfl ?_
  exact .sc
 ·clear h; intro h11 h
  refine brE h ?_ ?_
  ·clear h; intro h12 h
   obtain rfl := Option.some.inj h
   refine run_to tmD 4000 [.el (enc_GNode e1), .el (enc_GNode e3), .pure [(aI .u8 e3.Kind)] (aB v5), .el (enc_GNode e7), .pure [(aI .u8 e7.Kind)] (aB v9), .br false, .br true] rfl (by repeat' first | refine And.intro ?_ ?_ | exact (PureCall.none (ref06_Gives_ok _ _ h6) (Cvs.cons .sc Cvs.nil)) | exact (PureCall.none (ref06_Gives_ok _ _ h10) (Cvs.cons .sc Cvs.nil)) | exact oblA) ?_
   refine fin_ret rfl ?_
   exact .sc
  ·clear h; intro h12 h
   refine brE h ?_ ?_
   ·clear h; intro h13 h
    obtain rfl := Option.some.inj h
    refine run_to tmD 4000 [.el (enc_GNode e1), .el (enc_GNode e3), .pure [(aI .u8 e3.Kind)] (aB v5), .el (enc_GNode e7), .pure [(aI .u8 e7.Kind)] (aB v9), .br false, .br false, .br true] rfl (by repeat' first | refine And.intro ?_ ?_ | exact (PureCall.none (ref06_Gives_ok _ _ h6) (Cvs.cons .sc Cvs.nil)) | exact (PureCall.none (ref06_Gives_ok _ _ h10) (Cvs.cons .sc Cvs.nil)) | exact oblA) ?_
    refine fin_ret rfl ?_
    exact .sc
   ·clear h; intro h13 h
    refine run_to tmD 4000 [.el (enc_GNode e1), .el (enc_GNode e3), .pure [(aI .u8 e3.Kind)] (aB v5), .el (enc_GNode e7), .pure [(aI .u8 e7.Kind)] (aB v9), .br false, .br false, .br false] rfl (by repeat' first | refine And.intro ?_ ?_ | exact (PureCall.none (ref06_Gives_ok _ _ h6) (Cvs.cons .sc Cvs.nil)) | exact (PureCall.none (ref06_Gives_ok _ _ h10) (Cvs.cons .sc Cvs.nil)) | exact oblA) ?_
    refine brE h ?_ ?_
    ·clear h; intro h14 h
     obtain rfl := Option.some.inj h
     refine runT tmD [.br true] ?_
     refine fin_ret rfl ?_
     exact .sc
    ·clear h; intro h14 h
     refine brE h ?_ ?_
     ·clear h; intro h15 h
      obtain rfl := Option.some.inj h
      refine runT tmD [.br false, .br true] ?_
      refine fin_ret rfl ?_
      exact .sc
     ·clear h; intro h15 h
      obtain rfl := Option.some.inj h
      refine runT tmD [.br false, .br false] ?_
      refine fin_ret rfl ?_
      exact .sc

theorem ref06_Wrong_L0_ok {Q : AExit → St → Mu → Prop} {μ : Mu} (y0_0 : (List GNode)) (hl : List.length y0_0 ≤ 140737488355328) : ∀ (xs : List GNode) (k : Nat) (hx : y0_0.drop k = xs) (o : ref06_Wrong_L0_o) (h : ref06_Wrong_L0 y0_0 xs k  = some o)
  (C0 : o = ref06_Wrong_L0_o.x0 → SemK Tryz.prog 17 0 Q (.exit (.exit 0)) [] ⟨fr [(0, (AV.list false (List.map enc_GNode y0_0)))], hp ([]), 0⟩ μ)
  (C1 : ∀ (z0_1_2 : Int), o = ref06_Wrong_L0_o.x1 z0_1_2 → SemK Tryz.prog 17 0 Q (.exit .ret) [] ⟨fr [(2, (aI .i64 z0_1_2))], hp ([]), 0⟩ μ),
  SemK Tryz.prog 17 0 Q (.loop (loopB 0 (bodyOf Tryz.f154))) [] ⟨fr [(0, (AV.list false (List.map enc_GNode y0_0))), (3, (aI .i64 (k : Int)))], hp ([]), 0⟩ μ := by
 intro xs
 induction xs with
 | nil =>
  intro k hx  o h C0 C1
  have hk := drop_nil hx
  have hc : decide ((k : Int) < (List.length y0_0 : Int)) = false := decide_eq_false (by omega)
  rw [ref06_Wrong_L0] at h
  refine SemK.round ?_
  obtain rfl := Option.some.inj h
  refine runT tmD [.el (aI .i64 (List.length y0_0 : Int)), .br false] ?_
  exact wkT [] (C0  rfl)
 | cons x xs ih =>
  intro k hx  o h C0 C1
  obtain ⟨hk, hg, hx1⟩ := drop_cons hx
  have hc : decide ((k : Int) < (List.length y0_0 : Int)) = true := decide_eq_true (by omega)
  rw [ref06_Wrong_L0] at h
  refine SemK.round ?_
  refine bindE h ?_
  clear h; intro v10 h11 h
  refine brE h ?_ ?_
  ·clear h; intro h12 h
   obtain rfl := Option.some.inj h
   refine run_to tmD 4000 [.el (aI .i64 (List.length y0_0 : Int)), .br true, .pure [(AV.list false (List.map enc_GNode y0_0)), (aI .i64 (k : Int))] (aB v10), .br true] rfl (by repeat' first | refine And.intro ?_ ?_ | exact (PureCall.none (ref06_fits_ok _ _ _ h11) (Cvs.cons (cv_list (flat_map flat_GNode y0_0)) (Cvs.cons .sc Cvs.nil))) | exact oblA) ?_
   exact wkT [] (C1 _  rfl)
  ·clear h; intro h12 h
   refine run_to tmD 4000 [.el (aI .i64 (List.length y0_0 : Int)), .br true, .pure [(AV.list false (List.map enc_GNode y0_0)), (aI .i64 (k : Int))] (aB v10), .br false] rfl (by repeat' first | refine And.intro ?_ ?_ | exact (PureCall.none (ref06_fits_ok _ _ _ h11) (Cvs.cons (cv_list (flat_map flat_GNode y0_0)) (Cvs.cons .sc Cvs.nil))) | exact oblA) ?_
   exact wkT [] (ih (k + 1) hx1  o h C0 C1)

theorem ref06_Wrong_ok (a0 : (List GNode)) (r : Int) (h : ref06_Wrong a0 = some r) : Pure Tryz.prog 154 [(AV.list false (List.map enc_GNode a0))] (aI .i64 r) := by
 refine Pure.sym tyTab_ok fn154 (nt := 17) rfl rfl ?_ (allCons .list allNil)
 unfold ref06_Wrong at h
 refine bindE h ?_
 clear h; intro u1 h2 h
 have qh2 := lenOk_le h2
 refine bindE h ?_
 clear h; intro o13 h14 h
 refine runT tmD [] ?_
 refine wkT [] (SemK.cut (ref06_Wrong_L0_ok a0 qh2 a0 0 (by simp) _ h14 ?_ ?_))
 ·intro eo13; subst eo13
  refine SemK.glue ?_
  try dsimp only at h
  obtain rfl := Option.some.inj h
  refine runT tmD [.el (aI .i64 (List.length a0 : Int))] ?_
  refine fin_ret rfl ?_
  exact (cv_scE (by first | rfl | (simp [*]; done)))
 ·intro z0_1_2 eo13; subst eo13
  refine SemK.glue ?_
  try dsimp only at h
  obtain rfl := Option.some.inj h
  refine runT tmD [] ?_
  refine fin_ret rfl ?_
  exact .sc

theorem ref06_Of_ok (a0 : (List GNode)) (r : Bool × Int × Int) (h : ref06_Of a0 = some r) : Pure Tryz.prog 129 [(AV.list false (List.map enc_GNode a0))] (AV.tup [(aB r.1), (aI .i64 r.2.1), (aI .i64 r.2.2)]) := by
 refine Pure.sym tyTab_ok fn129 (nt := 29) rfl rfl ?_ (allCons .list allNil)
 unfold ref06_Of at h
 refine bindE h ?_
 clear h; intro v1 h2 h
 refine brE h ?_ ?_
 ·clear h; intro h3 h
  obtain rfl := Option.some.inj h
  refine run_to tmD 4000 [.pure [(AV.list false (List.map enc_GNode a0))] (aI .i64 v1), .br true, .pure [(AV.list false (List.map enc_GNode a0))] (aI .i64 v1)] rfl (by repeat' first | refine And.intro ?_ ?_ | exact (PureCall.none (ref04_Check_ok _ _ h2) (Cvs.cons (cv_list (flat_map flat_GNode a0)) Cvs.nil)) | exact oblA) ?_
  refine fin_ret rfl ?_
  exact (cv_tup (Cvs.cons .sc (Cvs.cons .sc (Cvs.cons .sc Cvs.nil))))
 ·clear h; intro h3 h
  refine bindE h ?_
  clear h; intro v4 h5 h
  refine run_to tmD 4000 [.pure [(AV.list false (List.map enc_GNode a0))] (aI .i64 v1), .br false, .pure [(AV.list false (List.map enc_GNode a0))] (aI .i64 v4), .el (aI .i64 (List.length a0 : Int))] rfl (by repeat' first | refine And.intro ?_ ?_ | exact (PureCall.none (ref04_Check_ok _ _ h2) (Cvs.cons (cv_list (flat_map flat_GNode a0)) Cvs.nil)) | exact (PureCall.none (ref06_Wrong_ok _ _ h5) (Cvs.cons (cv_list (flat_map flat_GNode a0)) Cvs.nil)) | exact oblA) ?_
  refine brE h ?_ ?_
  ·clear h; intro h6 h
   obtain rfl := Option.some.inj h
   refine runT tmD [.br true] ?_
   refine fin_ret rfl ?_
   exact (cv_tup (Cvs.cons .sc (Cvs.cons .sc (Cvs.cons .sc Cvs.nil))))
  ·clear h; intro h6 h
   refine bindE h ?_
   clear h; intro e7 h8 h
   try have qh8 := getI_lt h8
   refine bindE h ?_
   clear h; intro v9 h10 h
   obtain rfl := Option.some.inj h
   refine run_to tmD 4000 [.br false, .el (aI .i64 (List.length a0 : Int)), .wrap, .el (enc_GNode e7), .pure [(aI .u8 e7.Kind)] (aB v9), .el (aI .i64 (List.length a0 : Int)), .wrap] rfl (by repeat' first | refine And.intro ?_ ?_ | exact (PureCall.none (ref06_Gives_ok _ _ h10) (Cvs.cons .sc Cvs.nil)) | exact oblA) ?_
   refine fin_ret rfl ?_
   exact (cv_tup (Cvs.cons .sc (Cvs.cons (cv_scE (by first | rfl | (simp [*]; done))) (Cvs.cons .sc Cvs.nil))))

theorem ref06_Want_ok (a0 : (List GNode)) (a1 : Bool) (r : Int × Int) (h : ref06_Want a0 a1 = some r) : Pure Tryz.prog 95 [(AV.list false (List.map enc_GNode a0)), (aB a1)] (AV.tup [(aI .i64 r.1), (aI .i64 r.2)]) := by
 refine Pure.sym tyTab_ok fn95 (nt := 25) rfl rfl ?_ (allCons .list (allCons .sc allNil))
 unfold ref06_Want at h
 refine bindE h ?_
 clear h; intro v1 h2 h
 refine brE h ?_ ?_
 ·clear h; intro h3 h
  obtain rfl := Option.some.inj h
  refine run_to tmD 4000 [.pure [(AV.list false (List.map enc_GNode a0))] (AV.tup [(aB v1.1), (aI .i64 v1.2.1), (aI .i64 v1.2.2)]), .br true] rfl (by repeat' first | refine And.intro ?_ ?_ | exact (PureCall.none (ref06_Of_ok _ _ h2) (Cvs.cons (cv_list (flat_map flat_GNode a0)) Cvs.nil)) | exact oblA) ?_
  refine fin_ret rfl ?_
  exact (cv_tup (Cvs.cons .sc (Cvs.cons .sc Cvs.nil)))
 ·clear h; intro h3 h
  obtain rfl := Option.some.inj h
  refine run_to tmD 4000 [.pure [(AV.list false (List.map enc_GNode a0))] (AV.tup [(aB v1.1), (aI .i64 v1.2.1), (aI .i64 v1.2.2)]), .br false] rfl (by repeat' first | refine And.intro ?_ ?_ | exact (PureCall.none (ref06_Of_ok _ _ h2) (Cvs.cons (cv_list (flat_map flat_GNode a0)) Cvs.nil)) | exact oblA) ?_
  refine fin_ret rfl ?_
  exact (cv_tup (Cvs.cons .sc (Cvs.cons .sc Cvs.nil)))

theorem ref10_Right_ok (a0 : GQuery) (r : Int × Int) (h : ref10_Right a0 = some r) : Pure Tryz.prog 57 [(enc_GQuery false a0)] (AV.tup [(aI .i64 r.1), (aI .i64 r.2)]) := by
 refine Pure.sym tyTab_ok fn57 (nt := 46) rfl rfl ?_ (allCons (free_GQuery false _ _).1 allNil)
 unfold ref10_Right at h
 refine brE h ?_ ?_
 ·clear h; intro h1 h
  refine bindE h ?_
  clear h; intro v2 h3 h
  refine run_to tmD 4000 [.el (aI .i64 (List.length a0.Arg : Int)), .br true, .pure [(AV.list false (List.map enc_GNode a0.Arg)), (aB false)] (AV.tup [(aI .i64 v2.1), (aI .i64 v2.2)])] rfl (by repeat' first | refine And.intro ?_ ?_ | exact (PureCall.none (ref06_Want_ok _ _ _ h3) (Cvs.cons (cv_list (flat_map flat_GNode a0.Arg)) (Cvs.cons .sc Cvs.nil))) | exact oblA) ?_
  refine brE h ?_ ?_
  ·clear h; intro h4 h
   refine bindE h ?_
   clear h; intro e5 h6 h
   try have qh6 := getI_lt h6
   obtain rfl := Option.some.inj h
   refine runT tmD [.br true, .el (enc_GNode e5)] ?_
   refine fin_ret rfl ?_
   exact (cv_tup (Cvs.cons .sc (Cvs.cons .sc Cvs.nil)))
  ·clear h; intro h4 h
   refine brE h ?_ ?_
   ·clear h; intro h7 h
    refine bindE h ?_
    clear h; intro v8 h9 h
    refine run_to tmD 4000 [.br false, .el (aI .i64 (List.length a0.Where : Int)), .br true, .pure [(AV.list false (List.map enc_GNode a0.Where)), (aB true)] (AV.tup [(aI .i64 v8.1), (aI .i64 v8.2)])] rfl (by repeat' first | refine And.intro ?_ ?_ | exact (PureCall.none (ref06_Want_ok _ _ _ h9) (Cvs.cons (cv_list (flat_map flat_GNode a0.Where)) (Cvs.cons .sc Cvs.nil))) | exact oblA) ?_
    refine brE h ?_ ?_
    ·clear h; intro h10 h
     refine bindE h ?_
     clear h; intro e11 h12 h
     try have qh12 := getI_lt h12
     obtain rfl := Option.some.inj h
     refine runT tmD [.br true, .el (enc_GNode e11)] ?_
     refine fin_ret rfl ?_
     exact (cv_tup (Cvs.cons .sc (Cvs.cons .sc Cvs.nil)))
    ·clear h; intro h10 h
     obtain rfl := Option.some.inj h
     refine runT tmD [.br false] ?_
     refine fin_ret rfl ?_
     exact (cv_tup (Cvs.cons .sc (Cvs.cons .sc Cvs.nil)))
   ·clear h; intro h7 h
    obtain rfl := Option.some.inj h
    refine runT tmD [.br false, .el (aI .i64 (List.length a0.Where : Int)), .br false] ?_
    refine fin_ret rfl ?_
    exact (cv_tup (Cvs.cons .sc (Cvs.cons .sc Cvs.nil)))
 ·clear h; intro h1 h
  refine brE h ?_ ?_
  ·clear h; intro h13 h
   refine bindE h ?_
   clear h; intro v14 h15 h
   refine run_to tmD 4000 [.el (aI .i64 (List.length a0.Arg : Int)), .br false, .el (aI .i64 (List.length a0.Where : Int)), .br true, .pure [(AV.list false (List.map enc_GNode a0.Where)), (aB true)] (AV.tup [(aI .i64 v14.1), (aI .i64 v14.2)])] rfl (by repeat' first | refine And.intro ?_ ?_ | exact (PureCall.none (ref06_Want_ok _ _ _ h15) (Cvs.cons (cv_list (flat_map flat_GNode a0.Where)) (Cvs.cons .sc Cvs.nil))) | exact oblA) ?_
   refine brE h ?_ ?_
   ·clear h; intro h16 h
    refine bindE h ?_
    clear h; intro e17 h18 h
    try have qh18 := getI_lt h18
    obtain rfl := Option.some.inj h
    refine runT tmD [.br true, .el (enc_GNode e17)] ?_
    refine fin_ret rfl ?_
    exact (cv_tup (Cvs.cons .sc (Cvs.cons .sc Cvs.nil)))
   ·clear h; intro h16 h
    obtain rfl := Option.some.inj h
    refine runT tmD [.br false] ?_
    refine fin_ret rfl ?_
    exact (cv_tup (Cvs.cons .sc (Cvs.cons .sc Cvs.nil)))
  ·clear h; intro h13 h
   obtain rfl := Option.some.inj h
   refine runT tmD [.el (aI .i64 (List.length a0.Arg : Int)), .br false, .el (aI .i64 (List.length a0.Where : Int)), .br false] ?_
   refine fin_ret rfl ?_
   exact (cv_tup (Cvs.cons .sc (Cvs.cons .sc Cvs.nil)))
end Go.Av.Tryz
