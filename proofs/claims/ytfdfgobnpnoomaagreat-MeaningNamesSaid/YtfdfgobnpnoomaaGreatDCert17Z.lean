/- Printed by decomp.py: that the program computes the functions. -/
import Derived.Test.YtfdfgobnpnoomaaGreatDCert16Z
set_option linter.all false
set_option linter.unusedVariables false
namespace Go.Av.Tryz
open Go.Proofs Go.D
set_option maxRecDepth 10000
set_option maxHeartbeats 4000000

theorem late_Mark_ok (a0 : (List GEvent)) (r : Int × Int) (h : late_Mark a0 = some r) : Pure Tryz.prog 45 [(AV.list false (List.map enc_GEvent a0))] (AV.tup [(aI .i64 r.1), (aI .i64 r.2)]) := by
 refine Pure.sym tyTab_ok fn45 (nt := 27) rfl rfl ?_ (allCons .list allNil)
 unfold late_Mark at h
 refine bindE h ?_
 clear h; intro v1 h2 h
 refine brE h ?_ ?_
 ·clear h; intro h3 h
  obtain rfl := Option.some.inj h
  refine run_to tmD 4000 [.pure [(AV.list false (List.map enc_GEvent a0))] (aI .i64 v1), .br true] rfl (by repeat' first | refine And.intro ?_ ?_ | exact (PureCall.none (late_Check_ok _ _ h2) (Cvs.cons (cv_list (flat_map flat_GEvent a0)) Cvs.nil)) | exact oblA) ?_
  refine fin_ret rfl ?_
  exact (cv_tup (Cvs.cons .sc (Cvs.cons .sc Cvs.nil)))
 ·clear h; intro h3 h
  refine run_to tmD 4000 [.pure [(AV.list false (List.map enc_GEvent a0))] (aI .i64 v1), .br false] rfl (by repeat' first | refine And.intro ?_ ?_ | exact (PureCall.none (late_Check_ok _ _ h2) (Cvs.cons (cv_list (flat_map flat_GEvent a0)) Cvs.nil)) | exact oblA) ?_
  refine SemK.inline tyTab_ok fn71 rfl rfl rfl rfl rfl trivial trivial rfl rfl ?_
  refine runT tmD [] ?_
  refine SemK.back (by intro id h; cases h) rfl ?_
  refine bindE h ?_
  clear h; intro u4 h5 h
  have qh5 := lenOk_le h5
  refine bindE h ?_
  clear h; intro o31 h32 h
  refine runT tmD [.el (aI .i64 (List.length a0 : Int))] ?_
  refine wkT [] (SemK.cut (late_Mark_L0_ok a0 qh5 a0 0 (by simp) _ _ h32 ?_))
  ·intro z0_0_o0 eo31; subst eo31
   refine SemK.glue ?_
   try dsimp only at h
   refine runT tmD [] ?_
   refine SemK.inline tyTab_ok fn105 rfl rfl rfl rfl rfl trivial trivial rfl rfl ?_
   refine runT tmD [.br false] ?_
   refine SemK.back (by intro id h; cases h) rfl ?_
   obtain rfl := Option.some.inj h
   refine runT tmD [] ?_
   refine fin_ret rfl ?_
   exact (cv_tup (Cvs.cons .sc (Cvs.cons .sc Cvs.nil)))

theorem meaning_Least_L0_ok {Q : AExit → St → Mu → Prop} {μ : Mu} (y0_23 : (List (List GEvent))) (hl : List.length y0_23 ≤ 140737488355328) : ∀ (xs : List (List GEvent)) (k : Nat) (hx : y0_23.drop k = xs) (y0_5 : Int) (o : meaning_Least_L0_o) (h : meaning_Least_L0 y0_23 xs k y0_5 = some o)
  (C0 : ∀ (z0_0_5 : Int), o = meaning_Least_L0_o.x0 z0_0_5 → SemK Tryz.prog 42 0 Q (.exit (.exit 0)) [] ⟨fr [(5, (aI .i64 z0_0_5))], hp ([]), 0⟩ μ)
  (C1 : ∀ (z0_1_3 : Int), o = meaning_Least_L0_o.x1 z0_1_3 → SemK Tryz.prog 42 0 Q (.exit .ret) [] ⟨fr [(2, (aI .i64 0)), (3, (aI .i64 z0_1_3))], hp ([]), 0⟩ μ),
  SemK Tryz.prog 42 0 Q (.loop (loopB 0 (bodyOf Tryz.f17))) [] ⟨fr [(5, (aI .i64 y0_5)), (23, (AV.list false (List.map (encl false enc_GEvent) y0_23))), (24, (aI .i64 (List.length y0_23 : Int))), (25, (aI .i64 (k : Int)))], hp ([]), 0⟩ μ := by
 intro xs
 induction xs with
 | nil =>
  intro k hx y0_5 o h C0 C1
  have hk := drop_nil hx
  have hc : decide ((k : Int) < (List.length y0_23 : Int)) = false := decide_eq_false (by omega)
  rw [meaning_Least_L0] at h
  refine SemK.round ?_
  obtain rfl := Option.some.inj h
  refine runT tmD [.br false] ?_
  exact wkT [] (C0 _  rfl)
 | cons x xs ih =>
  intro k hx y0_5 o h C0 C1
  obtain ⟨hk, hg, hx1⟩ := drop_cons hx
  have hc : decide ((k : Int) < (List.length y0_23 : Int)) = true := decide_eq_true (by omega)
  rw [meaning_Least_L0] at h
  refine SemK.round ?_
  refine bindE h ?_
  clear h; intro v18 h19 h
  refine brE h ?_ ?_
  ·clear h; intro h20 h
   obtain rfl := Option.some.inj h
   refine run_to tmD 4000 [.br true, .el (encl false enc_GEvent x), .pure [(AV.list false (List.map enc_GEvent x))] (AV.tup [(aI .i64 v18.1), (aI .i64 v18.2)]), .br true] rfl (by repeat' first | refine And.intro ?_ ?_ | exact (PureCall.none (late_Mark_ok _ _ h19) (Cvs.cons (cv_list (flat_map flat_GEvent x)) Cvs.nil)) | exact oblA) ?_
   exact wkT [] (C1 _  rfl)
  ·clear h; intro h20 h
   refine run_to tmD 4000 [.br true, .el (encl false enc_GEvent x), .pure [(AV.list false (List.map enc_GEvent x))] (AV.tup [(aI .i64 v18.1), (aI .i64 v18.2)]), .br false] rfl (by repeat' first | refine And.intro ?_ ?_ | exact (PureCall.none (late_Mark_ok _ _ h19) (Cvs.cons (cv_list (flat_map flat_GEvent x)) Cvs.nil)) | exact oblA) ?_
   exact wkT [] (ih (k + 1) hx1 _ o h C0 C1)

theorem meaning_Least_ok (a0 : (List (List GEvent))) (r : Int × Int) (h : meaning_Least a0 = some r) : Pure Tryz.prog 17 [(AV.list false (List.map (encl false enc_GEvent) a0))] (AV.tup [(aI .i64 r.1), (aI .i64 r.2)]) := by
 refine Pure.sym tyTab_ok fn17 (nt := 42) rfl rfl ?_ (allCons .list allNil)
 unfold meaning_Least at h
 refine bindE h ?_
 clear h; intro j2_17 h4 h
 refine runT tmD [.stop 1] ?_
 refine SemK.join (s' := ⟨fr [(0, (AV.list false (List.map (encl false enc_GEvent) a0))), (17, (aB j2_17))], hp ([]), 0⟩) ?_ (fun J => SemK.cut ?_)
 ·
  refine brE h ?_ ?_
  ·clear h; intro h5 h
   obtain rfl := Option.some.inj h
   refine runT tmD [.br true] ?_
   refine fin_ret rfl ?_
   exact (cv_tup (Cvs.cons .sc (Cvs.cons .sc Cvs.nil)))
  ·clear h; intro h5 h
   refine bindE h ?_
   clear h; intro v6 h7 h
   refine brE h ?_ ?_
   ·clear h; intro h8 h
    obtain rfl := Option.some.inj h
    refine run_to tmD 4000 [.br false, .pure [(AV.list false (List.map (encl false enc_GEvent) a0))] (aI .i64 v6), .br true] rfl (by repeat' first | refine And.intro ?_ ?_ | exact (PureCall.none (meaning_events_ok _ _ h7) (Cvs.cons (cv_lmap (fun _ => rfl) (fun x => cv_cells (cv_list (flat_map flat_GEvent _))) a0) Cvs.nil)) | exact oblA) ?_
    refine fin_ret rfl ?_
    exact (cv_tup (Cvs.cons .sc (Cvs.cons .sc Cvs.nil)))
   ·clear h; intro h8 h
    refine bindE h ?_
    clear h; intro u9 h10 h
    have qh10 := lenOk_le h10
    refine bindE h ?_
    clear h; intro o21 h22 h
    refine run_to tmD 4000 [.br false, .pure [(AV.list false (List.map (encl false enc_GEvent) a0))] (aI .i64 v6), .br false, .el (aI .i64 (List.length a0 : Int))] rfl (by repeat' first | refine And.intro ?_ ?_ | exact (PureCall.none (meaning_events_ok _ _ h7) (Cvs.cons (cv_lmap (fun _ => rfl) (fun x => cv_cells (cv_list (flat_map flat_GEvent _))) a0) Cvs.nil)) | exact oblA) ?_
    refine wkT [] (SemK.cut (meaning_Least_L0_ok a0 qh10 a0 0 (by simp) _ _ h22 ?_ ?_))
    ·intro z0_0_5 eo21; subst eo21
     refine SemK.glue ?_
     try dsimp only at h
     obtain rfl := Option.some.inj h
     refine runT tmD [] ?_
     refine fin_ret rfl ?_
     exact (cv_tup (Cvs.cons .sc (Cvs.cons .sc Cvs.nil)))
    ·intro z0_1_3 eo21; subst eo21
     refine SemK.glue ?_
     try dsimp only at h
     obtain rfl := Option.some.inj h
     refine runT tmD [] ?_
     refine fin_ret rfl ?_
     exact (cv_tup (Cvs.cons .sc (Cvs.cons .sc Cvs.nil)))
 ·
  clear h
  have h := h4
  refine brE h ?_ ?_
  ·clear h; intro h3 h
   obtain rfl := Option.some.inj h
   refine runT tmD [.el (aI .i64 (List.length a0 : Int)), .go false, .go false, .go false] ?_
   exact wkT [] (SemK.glue J)
  ·clear h; intro h3 h
   obtain rfl := Option.some.inj h
   refine runT tmD [.el (aI .i64 (List.length a0 : Int)), .go true, .go true, .el (aI .i64 (List.length a0 : Int)), .go true] ?_
   exact wkT [] (SemK.glue J)

theorem meaning_Emitted_L0_ok {Q : AExit → St → Mu → Prop} {μ : Mu} (y0_8 : (List GRecord)) (y0_10 : Int) (y0_32 : (List GRow)) (hl : List.length y0_32 ≤ 140737488355328) : ∀ (xs : List GRow) (k : Nat) (hx : y0_32.drop k = xs) (y0_o0 : (List GRow)) (nb_y0_o0 : Nb y0_o0) (o : meaning_Emitted_L0_o) (h : meaning_Emitted_L0 y0_8 y0_10 y0_32 xs k y0_o0 = some o)
  (C0 : ∀ (z0_0_o0 : (List GRow)) (nb_z0_0_o0 : Nb z0_0_o0), o = meaning_Emitted_L0_o.x0 z0_0_o0 → SemK Tryz.prog 50 0 Q (.exit (.exit 0)) [] ⟨fr [(8, (AV.list true (List.map enc_GRecord y0_8))), (11, (slE nb_z0_0_o0.1 0 (List.map enc_GRow z0_0_o0)))], hp ([] ++ opE nb_z0_0_o0.1 0 5 (List.map enc_GRow z0_0_o0)), 1⟩ μ),
  SemK Tryz.prog 50 0 Q (.loop (loopB 0 (bodyOf Tryz.f21))) [] ⟨fr [(8, (AV.list true (List.map enc_GRecord y0_8))), (10, (aI .i64 y0_10)), (11, (slE nb_y0_o0.1 0 (List.map enc_GRow y0_o0))), (32, (AV.list true (List.map enc_GRow y0_32))), (33, (aI .i64 (List.length y0_32 : Int))), (34, (aI .i64 (k : Int)))], hp ([] ++ opE nb_y0_o0.1 0 5 (List.map enc_GRow y0_o0)), 1⟩ μ := by
 intro xs
 induction xs with
 | nil =>
  intro k hx y0_o0 nb_y0_o0 o h C0
  have hk := drop_nil hx
  have hc : decide ((k : Int) < (List.length y0_32 : Int)) = false := decide_eq_false (by omega)
  rw [meaning_Emitted_L0] at h
  rcases nb_y0_o0 with ⟨_ | _, hn_y0_o0⟩
  ·
   refine SemK.round ?_
   obtain rfl := Option.some.inj h
   refine runT tmD [.br false] ?_
   exact wkT [] (C0 _  nbF rfl)
  ·
   obtain rfl := hn_y0_o0 rfl
   refine SemK.round ?_
   obtain rfl := Option.some.inj h
   refine runT tmD [.br false] ?_
   exact wkT [] (C0 _  (nbT (by first | rfl | simp [*])) rfl)
 | cons x xs ih =>
  intro k hx y0_o0 nb_y0_o0 o h C0
  obtain ⟨hk, hg, hx1⟩ := drop_cons hx
  have hc : decide ((k : Int) < (List.length y0_32 : Int)) = true := decide_eq_true (by omega)
  rw [meaning_Emitted_L0] at h
  rcases nb_y0_o0 with ⟨_ | _, hn_y0_o0⟩
  ·
   refine SemK.round ?_
   refine bindE h ?_
   clear h; intro j45_o0 h49 h
   refine runT tmD [.br true, .el (enc_GRow x)] ?_
   refine SemK.joinF (fun (q : Nb j45_o0) => ⟨fr [(8, (AV.list true (List.map enc_GRecord y0_8))), (10, (aI .i64 y0_10)), (11, (slE q.1 0 (List.map enc_GRow j45_o0))), (32, (AV.list true (List.map enc_GRow y0_32))), (33, (aI .i64 (List.length y0_32 : Int))), (34, (aI .i64 (k : Int)))], hp ([] ++ opE q.1 0 5 (List.map enc_GRow j45_o0)), 1⟩) ?_ (fun J => SemK.cut ?_)
   ·
    rintro nb_j45_o0
    rcases nb_j45_o0 with ⟨_ | _, hn_j45_o0⟩
    ·
     refine runT tmD [] ?_
     exact wkT [] (ih (k + 1) hx1 _ nbF o h C0)
    ·
     obtain rfl := hn_j45_o0 rfl
     refine runT tmD [] ?_
     exact wkT [] (ih (k + 1) hx1 _ (nbT (by first | rfl | simp [*])) o h C0)
   ·
    clear h
    have h := h49
    refine brE h ?_ ?_
    ·clear h; intro h46 h
     refine bindE h ?_
     clear h; intro u47 h48 h
     obtain rfl := Option.some.inj h
     refine run_to tmD 4000 [.br true, .no] rfl (by repeat' first | refine And.intro ?_ ?_ | (refine capLe h48 rfl ?_; first | (simp; done) | (simp; omega) | (simp [hc, h46]; done) | (simp [hc, h46]; omega)) | (refine capMax h48 (by decide) ?_; first | (simp; done) | (simp; omega) | (simp [hc, h46]; done) | (simp [hc, h46]; omega)) | exact oblA) ?_
     exact wkT [(0, 3)] (SemK.glue (J nbF))
    ·clear h; intro h46 h
     obtain rfl := Option.some.inj h
     refine runT tmD [.br false] ?_
     exact wkT [] (SemK.glue (J nbF))
  ·
   obtain rfl := hn_y0_o0 rfl
   refine SemK.round ?_
   refine bindE h ?_
   clear h; intro j53_o0 h57 h
   refine runT tmD [.br true, .el (enc_GRow x)] ?_
   refine SemK.joinF (fun (q : Nb j53_o0) => ⟨fr [(8, (AV.list true (List.map enc_GRecord y0_8))), (10, (aI .i64 y0_10)), (11, (slE q.1 0 (List.map enc_GRow j53_o0))), (32, (AV.list true (List.map enc_GRow y0_32))), (33, (aI .i64 (List.length y0_32 : Int))), (34, (aI .i64 (k : Int)))], hp ([] ++ opE q.1 0 5 (List.map enc_GRow j53_o0)), 1⟩) ?_ (fun J => SemK.cut ?_)
   ·
    rintro nb_j53_o0
    rcases nb_j53_o0 with ⟨_ | _, hn_j53_o0⟩
    ·
     refine runT tmD [] ?_
     exact wkT [] (ih (k + 1) hx1 _ nbF o h C0)
    ·
     obtain rfl := hn_j53_o0 rfl
     refine runT tmD [] ?_
     exact wkT [] (ih (k + 1) hx1 _ (nbT (by first | rfl | simp [*])) o h C0)
   ·
    clear h
    have h := h57
    refine brE h ?_ ?_
    ·clear h; intro h54 h
     refine bindE h ?_
     clear h; intro u55 h56 h
     obtain rfl := Option.some.inj h
     refine run_to tmD 4000 [.br true, .no] rfl (by repeat' first | refine And.intro ?_ ?_ | (refine capLe h56 rfl ?_; first | (simp; done) | (simp; omega) | (simp [hc, h54]; done) | (simp [hc, h54]; omega)) | (refine capMax h56 (by decide) ?_; first | (simp; done) | (simp; omega) | (simp [hc, h54]; done) | (simp [hc, h54]; omega)) | exact oblA) ?_
     exact wkT [(0, 3)] (SemK.glue (J nbF))
    ·clear h; intro h54 h
     obtain rfl := Option.some.inj h
     refine runT tmD [.br false] ?_
     exact wkT [] (SemK.glue (J (nbT (by first | rfl | simp [*]))))

theorem meaning_Emitted_ok (a0 : GQuery) (a1 : (List (List GEvent))) (r : (List GRow) × (List GRecord) × Int) (h : meaning_Emitted a0 a1 = some r) : Pure Tryz.prog 21 [(enc_GQuery false a0), (AV.list false (List.map (encl false enc_GEvent) a1))] (AV.tup [(AV.list true (List.map enc_GRow r.1)), (AV.list true (List.map enc_GRecord r.2.1)), (aI .i64 r.2.2)]) := by
 refine Pure.sym tyTab_ok fn21 (nt := 50) rfl rfl ?_ (allCons (free_GQuery false _ _).1 (allCons .list allNil))
 unfold meaning_Emitted at h
 refine bindE h ?_
 clear h; intro v1 h2 h
 refine run_to tmD 4000 [.pure [(enc_GQuery false a0), (AV.list false (List.map (encl false enc_GEvent) a1))] (AV.tup [(AV.list true (List.map enc_GRow v1.1)), (AV.list true (List.map enc_GRecord v1.2.1)), (aI .i64 v1.2.2)])] rfl (by repeat' first | refine And.intro ?_ ?_ | exact (PureCall.none (meaning_All_ok _ _ _ h2) (Cvs.cons (cv_agg (Cvs.cons .sc (Cvs.cons (cv_list (flat_map flat_GNode a0.Arg)) (Cvs.cons (cv_list (flat_map (fun _ => flatSc) a0.Sources)) (Cvs.cons .sc (Cvs.cons (cv_list (flat_map flat_GNode a0.Where)) (Cvs.cons .sc (Cvs.cons .sc (Cvs.cons .sc (Cvs.cons .sc (Cvs.cons .sc Cvs.nil))))))))))) (Cvs.cons (cv_lmap (fun _ => rfl) (fun x => cv_cells (cv_list (flat_map flat_GEvent _))) a1) Cvs.nil))) | exact oblA) ?_
 refine brE h ?_ ?_
 ·clear h; intro h3 h
  obtain rfl := Option.some.inj h
  refine runT tmD [.br true] ?_
  refine fin_ret rfl ?_
  exact (cv_tup (Cvs.cons (cv_nils (es := List.map enc_GRow ([] : List GRow)) (by simp [*])) (Cvs.cons (cv_nils (es := List.map enc_GRecord ([] : List GRecord)) (by simp [*])) (Cvs.cons .sc Cvs.nil))))
 ·clear h; intro h3 h
  refine bindE h ?_
  clear h; intro v4 h5 h
  refine brE h ?_ ?_
  ·clear h; intro h6 h
   obtain rfl := Option.some.inj h
   refine run_to tmD 4000 [.br false, .pure [(AV.list false (List.map (encl false enc_GEvent) a1))] (AV.tup [(aI .i64 v4.1), (aI .i64 v4.2)]), .br true] rfl (by repeat' first | refine And.intro ?_ ?_ | exact (PureCall.none (meaning_Least_ok _ _ h5) (Cvs.cons (cv_lmap (fun _ => rfl) (fun x => cv_cells (cv_list (flat_map flat_GEvent _))) a1) Cvs.nil)) | exact oblA) ?_
   refine fin_ret rfl ?_
   exact (cv_tup (Cvs.cons (cv_nils (es := List.map enc_GRow ([] : List GRow)) (by simp [*])) (Cvs.cons (cv_nils (es := List.map enc_GRecord ([] : List GRecord)) (by simp [*])) (Cvs.cons .sc Cvs.nil))))
  ·clear h; intro h6 h
   refine bindE h ?_
   clear h; intro u7 h8 h
   have qh8 := lenOk_le h8
   refine bindE h ?_
   clear h; intro o58 h59 h
   refine run_to tmD 4000 [.br false, .pure [(AV.list false (List.map (encl false enc_GEvent) a1))] (AV.tup [(aI .i64 v4.1), (aI .i64 v4.2)]), .br false, .el (aI .i64 (List.length v1.1 : Int))] rfl (by repeat' first | refine And.intro ?_ ?_ | exact (PureCall.none (meaning_Least_ok _ _ h5) (Cvs.cons (cv_lmap (fun _ => rfl) (fun x => cv_cells (cv_list (flat_map flat_GEvent _))) a1) Cvs.nil)) | exact oblA) ?_
   refine wkT [] (SemK.cut (meaning_Emitted_L0_ok v1.2.1 v4.1 v1.1 qh8 v1.1 0 (by simp) _ (nbT (by first | rfl | simp [*])) _ h59 ?_))
   ·intro z0_0_o0 nb_z0_0_o0 eo58; subst eo58
    refine SemK.glue ?_
    try dsimp only at h
    rcases nb_z0_0_o0 with ⟨_ | _, hn_z0_0_o0⟩
    ·
     obtain rfl := Option.some.inj h
     refine runT tmD [] ?_
     refine fin_ret rfl ?_
     exact (cv_tup (Cvs.cons (cv_ref (es := List.map enc_GRow z0_0_o0) rfl (by first | rfl | (simp; done) | (simp; rfl) | (simp [h3, h6]; done) | (simp [h3, h6]; rfl) | (simp [h3, h6, List.map_take, List.map_drop]; done) | (simp [h3, h6, List.map_take, List.map_drop]; rfl)) (by first | rfl | (simp; done) | (simp; omega) | (simp [h3, h6]; done) | (simp [h3, h6]; omega)) (flat_map flat_GRow z0_0_o0)) (Cvs.cons (.listS rfl) (Cvs.cons .sc Cvs.nil))))
    ·
     obtain rfl := hn_z0_0_o0 rfl
     obtain rfl := Option.some.inj h
     refine runT tmD [] ?_
     refine fin_ret rfl ?_
     exact (cv_tup (Cvs.cons (cv_nils (es := List.map enc_GRow ([] : List GRow)) (by simp [*])) (Cvs.cons (.listS rfl) (Cvs.cons .sc Cvs.nil))))

theorem ref04_Count_ok (a0 : Int) (r : Int) (h : ref04_Count a0 = some r) : Pure Tryz.prog 152 [(aI .u8 a0)] (aI .i64 r) := by
 refine Pure.sym tyTab_ok fn152 (nt := 7) rfl rfl ?_ (allCons .sc allNil)
 unfold ref04_Count at h
 refine brE h ?_ ?_
 ·clear h; intro h1 h
  obtain rfl := Option.some.inj h
  refine runT tmD [.br true] ?_
  refine fin_ret rfl ?_
  exact .sc
 ·clear h; intro h1 h
  refine brE h ?_ ?_
  ·clear h; intro h2 h
   obtain rfl := Option.some.inj h
   refine runT tmD [.br false, .br true] ?_
   refine fin_ret rfl ?_
   exact .sc
  ·clear h; intro h2 h
   obtain rfl := Option.some.inj h
   refine runT tmD [.br false, .br false] ?_
   refine fin_ret rfl ?_
   exact .sc

theorem ref04_right_ok (a0 : GNode) (a1 : Int) (a2 : Int) (r : Bool) (h : ref04_right a0 a1 a2 = some r) : Pure Tryz.prog 153 [(enc_GNode a0), (aI .i64 a1), (aI .i64 a2)] (aB r) := by
 refine Pure.sym tyTab_ok fn153 (nt := 52) rfl rfl ?_ (allCons (free_GNode _ _).1 (allCons .sc (allCons .sc allNil)))
 unfold ref04_right at h
 obtain rfl := Option.some.inj h
 refine runT tmD [] ?_
 refine fin_ret rfl ?_
 exact .sc
end Go.Av.Tryz
