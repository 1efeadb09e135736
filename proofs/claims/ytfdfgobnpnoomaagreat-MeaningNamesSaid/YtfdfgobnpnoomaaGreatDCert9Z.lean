/- Printed by decomp.py: that the program computes the functions. -/
import Derived.Test.YtfdfgobnpnoomaaGreatDCert8Z
set_option linter.all false
set_option linter.unusedVariables false
namespace Go.Av.Tryz
open Go.Proofs Go.D
set_option maxRecDepth 10000
set_option maxHeartbeats 4000000

theorem accums_Join_ok (a0 : GAccum) (a1 : GAccum) (r : GAccum × Int) (h : accums_Join a0 a1 = some r) : Pure Tryz.prog 142 [(enc_GAccum a0), (enc_GAccum a1)] (AV.tup [(enc_GAccum r.1), (aI .i64 r.2)]) := by
 refine Pure.sym tyTab_ok fn142 (nt := 53) rfl rfl ?_ (allCons (free_GAccum _ _).1 (allCons (free_GAccum _ _).1 allNil))
 unfold accums_Join at h
 refine bindE h ?_
 clear h; intro j6_13 h12 h
 refine runT tmD [.stop 1] ?_
 refine SemK.join (s' := ⟨fr [(2, (AV.ptr 0 0 0)), (3, (AV.ptr 1 0 0)), (4, (AV.ptr 2 0 0)), (13, (aB j6_13))], hp ([(0, { es := [(enc_GAccum a0)], esz := 4 }), (1, { es := [(enc_GAccum a1)], esz := 4 }), (2, { es := [(enc_GAccum (GAccum.mk 0 0 0 0))], esz := 4 })]), 3⟩) ?_ (fun J => SemK.cut ?_)
 ·
  refine brE h ?_ ?_
  ·clear h; intro h13 h
   obtain rfl := Option.some.inj h
   refine runT tmD [.br true] ?_
   refine fin_ret rfl ?_
   exact (cv_tup (Cvs.cons (cvf_GAccum (x := (GAccum.mk 0 0 0 0))) (Cvs.cons .sc Cvs.nil)))
  ·clear h; intro h13 h
   refine brE h ?_ ?_
   ·clear h; intro h14 h
    obtain rfl := Option.some.inj h
    refine runT tmD [.br false, .wrap, .br true] ?_
    refine fin_ret rfl ?_
    exact (cv_tup (Cvs.cons (cvf_GAccum (x := (GAccum.mk 0 0 0 0))) (Cvs.cons .sc Cvs.nil)))
   ·clear h; intro h14 h
    refine brE h ?_ ?_
    ·clear h; intro h15 h
     obtain rfl := Option.some.inj h
     refine runT tmD [.br false, .wrap, .br false, .br true] ?_
     refine fin_ret rfl ?_
     exact (cv_tup (Cvs.cons (cvf_GAccum (x := a1)) (Cvs.cons .sc Cvs.nil)))
    ·clear h; intro h15 h
     refine brE h ?_ ?_
     ·clear h; intro h16 h
      obtain rfl := Option.some.inj h
      refine runT tmD [.br false, .wrap, .br false, .br false, .br true] ?_
      refine fin_ret rfl ?_
      exact (cv_tup (Cvs.cons (cvf_GAccum (x := a0)) (Cvs.cons .sc Cvs.nil)))
     ·clear h; intro h16 h
      obtain rfl := Option.some.inj h
      refine runT tmD [.br false, .wrap, .br false, .br false, .br false, .wrap, .wrap] ?_
      refine fin_ret rfl ?_
      exact (cv_tup (Cvs.cons (cvf_GAccum (x := (GAccum.mk (IntKind.i64.wrap (a0.Count + a1.Count)) (IntKind.i64.wrap (a0.Sum + a1.Sum)) (if a1.Min < a0.Min then a1.Min else a0.Min) (if a1.Max > a0.Max then a1.Max else a0.Max)))) (Cvs.cons .sc Cvs.nil)))
 ·
  clear h
  have h := h12
  refine bindE h ?_
  clear h; intro v7 h8 h
  refine brE h ?_ ?_
  ·clear h; intro h9 h
   obtain rfl := Option.some.inj h
   refine run_to tmD 4000 [.pure [(enc_GAccum a0)] (aI .i64 v7), .go false, .go false, .go false] rfl (by repeat' first | refine And.intro ?_ ?_ | exact (PureCall.none (accums_Check_ok _ _ h8) (Cvs.cons (cvf_GAccum (x := a0)) Cvs.nil)) | exact oblA) ?_
   exact wkT [] (SemK.glue J)
  ·clear h; intro h9 h
   refine bindE h ?_
   clear h; intro v10 h11 h
   obtain rfl := Option.some.inj h
   refine run_to tmD 4000 [.pure [(enc_GAccum a0)] (aI .i64 v7), .go true, .go true, .pure [(enc_GAccum a1)] (aI .i64 v10), .go true] rfl (by repeat' first | refine And.intro ?_ ?_ | exact (PureCall.none (accums_Check_ok _ _ h8) (Cvs.cons (cvf_GAccum (x := a0)) Cvs.nil)) | exact (PureCall.none (accums_Check_ok _ _ h11) (Cvs.cons (cvf_GAccum (x := a1)) Cvs.nil)) | exact oblA) ?_
   exact wkT [] (SemK.glue J)

theorem tumble_check_ok (a0 : Int) (a1 : Int) (r : Int) (h : tumble_check a0 a1 = some r) : Pure Tryz.prog 178 [(aI .i64 a0), (aI .i64 a1)] (aI .i64 r) := by
 refine Pure.sym tyTab_ok fn178 (nt := 17) rfl rfl ?_ (allCons .sc (allCons .sc allNil))
 unfold tumble_check at h
 refine brE h ?_ ?_
 ·clear h; intro h1 h
  obtain rfl := Option.some.inj h
  refine runT tmD [.br true] ?_
  refine fin_ret rfl ?_
  exact .sc
 ·clear h; intro h1 h
  refine brE h ?_ ?_
  ·clear h; intro h2 h
   obtain rfl := Option.some.inj h
   refine runT tmD [.br false, .br true] ?_
   refine fin_ret rfl ?_
   exact .sc
  ·clear h; intro h2 h
   obtain rfl := Option.some.inj h
   refine runT tmD [.br false, .br false] ?_
   refine fin_ret rfl ?_
   exact .sc

theorem tumble_Number_ok (a0 : Int) (a1 : Int) (r : Int × Int) (h : tumble_Number a0 a1 = some r) : Pure Tryz.prog 143 [(aI .i64 a0), (aI .i64 a1)] (AV.tup [(aI .i64 r.1), (aI .i64 r.2)]) := by
 refine Pure.sym tyTab_ok fn143 (nt := 24) rfl rfl ?_ (allCons .sc (allCons .sc allNil))
 unfold tumble_Number at h
 refine bindE h ?_
 clear h; intro v1 h2 h
 refine brE h ?_ ?_
 ·clear h; intro h3 h
  obtain rfl := Option.some.inj h
  refine run_to tmD 4000 [.pure [(aI .i64 a0), (aI .i64 a1)] (aI .i64 v1), .br true] rfl (by repeat' first | refine And.intro ?_ ?_ | exact (PureCall.none (tumble_check_ok _ _ _ h2) (Cvs.cons .sc (Cvs.cons .sc Cvs.nil))) | exact oblA) ?_
  refine fin_ret rfl ?_
  exact (cv_tup (Cvs.cons .sc (Cvs.cons .sc Cvs.nil)))
 ·clear h; intro h3 h
  refine bindE h ?_
  clear h; intro u4 h5 h
  refine bindE h ?_
  clear h; intro j7_7 h9 h
  refine run_to tmD 4000 [.pure [(aI .i64 a0), (aI .i64 a1)] (aI .i64 v1), .br false, .wrap] rfl (by repeat' first | refine And.intro ?_ ?_ | exact (PureCall.none (tumble_check_ok _ _ _ h2) (Cvs.cons .sc (Cvs.cons .sc Cvs.nil))) | exact oblA) ?_
  refine SemK.join (s' := ⟨fr [(7, (aI .i64 j7_7))], hp ([]), 0⟩) ?_ (fun J => SemK.cut ?_)
  ·
   obtain rfl := Option.some.inj h
   refine runT tmD [] ?_
   refine fin_ret rfl ?_
   exact (cv_tup (Cvs.cons .sc (Cvs.cons .sc Cvs.nil)))
  ·
   clear h
   have h := h9
   refine brE h ?_ ?_
   ·clear h; intro h8 h
    obtain rfl := Option.some.inj h
    refine run_to tmD 4000 [.br true, .wrap] rfl (by repeat' first | refine And.intro ?_ ?_ | exact (PureCall.none (tumble_check_ok _ _ _ h2) (Cvs.cons .sc (Cvs.cons .sc Cvs.nil))) | exact oblA) ?_
    exact wkT [] (SemK.glue J)
   ·clear h; intro h8 h
    obtain rfl := Option.some.inj h
    refine run_to tmD 4000 [.br false] rfl (by repeat' first | refine And.intro ?_ ?_ | exact (PureCall.none (tumble_check_ok _ _ _ h2) (Cvs.cons .sc (Cvs.cons .sc Cvs.nil))) | exact oblA) ?_
    exact wkT [] (SemK.glue J)

theorem tumble_Of_ok (a0 : Int) (a1 : Int) (r : GSpan × Int) (h : tumble_Of a0 a1 = some r) : Pure Tryz.prog 117 [(aI .i64 a0), (aI .i64 a1)] (AV.tup [(enc_GSpan r.1), (aI .i64 r.2)]) := by
 refine Pure.sym tyTab_ok fn117 (nt := 26) rfl rfl ?_ (allCons .sc (allCons .sc allNil))
 unfold tumble_Of at h
 refine bindE h ?_
 clear h; intro v1 h2 h
 refine brE h ?_ ?_
 ·clear h; intro h3 h
  obtain rfl := Option.some.inj h
  refine run_to tmD 4000 [.pure [(aI .i64 a0), (aI .i64 a1)] (AV.tup [(aI .i64 v1.1), (aI .i64 v1.2)]), .br true] rfl (by repeat' first | refine And.intro ?_ ?_ | exact (PureCall.none (tumble_Number_ok _ _ _ h2) (Cvs.cons .sc (Cvs.cons .sc Cvs.nil))) | exact oblA) ?_
  refine fin_ret rfl ?_
  exact (cv_tup (Cvs.cons (cvf_GSpan (x := (GSpan.mk 0 0))) (Cvs.cons .sc Cvs.nil)))
 ·clear h; intro h3 h
  obtain rfl := Option.some.inj h
  refine run_to tmD 4000 [.pure [(aI .i64 a0), (aI .i64 a1)] (AV.tup [(aI .i64 v1.1), (aI .i64 v1.2)]), .br false, .wrap, .wrap, .wrap] rfl (by repeat' first | refine And.intro ?_ ?_ | exact (PureCall.none (tumble_Number_ok _ _ _ h2) (Cvs.cons .sc (Cvs.cons .sc Cvs.nil))) | exact oblA) ?_
  refine fin_ret rfl ?_
  exact (cv_tup (Cvs.cons (cvf_GSpan (x := (GSpan.mk (IntKind.i64.wrap (v1.1 * a1)) (IntKind.i64.wrap ((IntKind.i64.wrap (v1.1 + 1)) * a1))))) (Cvs.cons .sc Cvs.nil)))

theorem slide_Of_ok (a0 : GWindow) (a1 : Int) (r : (List GSpan) × Int) (h : slide_Of a0 a1 = some r) : Pure Tryz.prog 83 [(enc_GWindow a0), (aI .i64 a1)] (AV.tup [(AV.list true (List.map enc_GSpan r.1)), (aI .i64 r.2)]) := by
 refine Pure.sym tyTab_ok fn83 (nt := 40) rfl rfl ?_ (allCons (free_GWindow _ _).1 (allCons .sc allNil))
 unfold slide_Of at h
 refine bindE h ?_
 clear h; intro v1 h2 h
 refine brE h ?_ ?_
 ·clear h; intro h3 h
  obtain rfl := Option.some.inj h
  refine run_to tmD 4000 [.pure [(enc_GWindow a0)] (aI .i64 v1), .br true] rfl (by repeat' first | refine And.intro ?_ ?_ | exact (PureCall.none (clauses_Window_ok _ _ h2) (Cvs.cons (cvf_GWindow (x := a0)) Cvs.nil)) | exact oblA) ?_
  refine fin_ret rfl ?_
  exact (cv_tup (Cvs.cons (cv_nils (es := List.map enc_GSpan ([] : List GSpan)) (by simp [*])) (Cvs.cons .sc Cvs.nil)))
 ·clear h; intro h3 h
  refine brE h ?_ ?_
  ·clear h; intro h4 h
   refine bindE h ?_
   clear h; intro v5 h6 h
   refine brE h ?_ ?_
   ·clear h; intro h7 h
    obtain rfl := Option.some.inj h
    refine run_to tmD 4000 [.pure [(enc_GWindow a0)] (aI .i64 v1), .br false, .br true, .pure [(aI .i64 a1), (aI .i64 a0.Size)] (AV.tup [(enc_GSpan v5.1), (aI .i64 v5.2)]), .br true] rfl (by repeat' first | refine And.intro ?_ ?_ | exact (PureCall.none (clauses_Window_ok _ _ h2) (Cvs.cons (cvf_GWindow (x := a0)) Cvs.nil)) | exact (PureCall.none (tumble_Of_ok _ _ _ h6) (Cvs.cons .sc (Cvs.cons .sc Cvs.nil))) | exact oblA) ?_
    refine fin_ret rfl ?_
    exact (cv_tup (Cvs.cons (cv_nils (es := List.map enc_GSpan ([] : List GSpan)) (by simp [*])) (Cvs.cons .sc Cvs.nil)))
   ·clear h; intro h7 h
    obtain rfl := Option.some.inj h
    refine run_to tmD 4000 [.pure [(enc_GWindow a0)] (aI .i64 v1), .br false, .br true, .pure [(aI .i64 a1), (aI .i64 a0.Size)] (AV.tup [(enc_GSpan v5.1), (aI .i64 v5.2)]), .br false] rfl (by repeat' first | refine And.intro ?_ ?_ | exact (PureCall.none (clauses_Window_ok _ _ h2) (Cvs.cons (cvf_GWindow (x := a0)) Cvs.nil)) | exact (PureCall.none (tumble_Of_ok _ _ _ h6) (Cvs.cons .sc (Cvs.cons .sc Cvs.nil))) | exact oblA) ?_
    refine fin_ret rfl ?_
    exact (cv_tup (Cvs.cons (cv_ref (es := List.map enc_GSpan [v5.1]) rfl (by first | rfl | (simp; done) | (simp; rfl) | (simp [h3, h4, h7]; done) | (simp [h3, h4, h7]; rfl) | (simp [h3, h4, h7, List.map_take, List.map_drop]; done) | (simp [h3, h4, h7, List.map_take, List.map_drop]; rfl)) (by first | rfl | (simp; done) | (simp; omega) | (simp [h3, h4, h7]; done) | (simp [h3, h4, h7]; omega)) (flat_map flat_GSpan [v5.1])) (Cvs.cons .sc Cvs.nil)))
  ·clear h; intro h4 h
   refine brE h ?_ ?_
   ·clear h; intro h8 h
    cases h
   ·clear h; intro h8 h
    obtain rfl := Option.some.inj h
    refine run_to tmD 4000 [.pure [(enc_GWindow a0)] (aI .i64 v1), .br false, .br false, .br false] rfl (by repeat' first | refine And.intro ?_ ?_ | exact (PureCall.none (clauses_Window_ok _ _ h2) (Cvs.cons (cvf_GWindow (x := a0)) Cvs.nil)) | exact oblA) ?_
    refine fin_ret rfl ?_
    exact (cv_tup (Cvs.cons (cv_nils (es := List.map enc_GSpan ([] : List GSpan)) (by simp [*])) (Cvs.cons .sc Cvs.nil)))

theorem store_Add_store_meet_slices_IndexFunc_Entry_Entry_L0_ok {Q : AExit → St → Mu → Prop} {μ : Mu} (y0_o25 : (List GEntry)) (y0_o26 : GEntry) (nb_y0_o25 : Nb y0_o25) (hl : List.length y0_o25 ≤ 140737488355328) : ∀ (xs : List GEntry) (k : Nat) (hx : y0_o25.drop k = xs) (o : store_Add_store_meet_slices_IndexFunc_Entry_Entry_L0_o) (h : store_Add_store_meet_slices_IndexFunc_Entry_Entry_L0 y0_o25 y0_o26 xs k  = some o)
  (C0 : o = store_Add_store_meet_slices_IndexFunc_Entry_Entry_L0_o.x0 → SemK Tryz.prog 19 27 Q (.exit (.exit 0)) [] ⟨fr [], hp ([(26, { es := [(enc_GEntry y0_o26)], esz := 11 })] ++ opE nb_y0_o25.1 25 11 (List.map enc_GEntry y0_o25)), 27⟩ μ)
  (C1 : ∀ (z0_1_4 : Int), o = store_Add_store_meet_slices_IndexFunc_Entry_Entry_L0_o.x1 z0_1_4 → SemK Tryz.prog 19 27 Q (.exit .ret) [] ⟨fr [(4, (aI .i64 z0_1_4))], hp ([(26, { es := [(enc_GEntry y0_o26)], esz := 11 })] ++ opE nb_y0_o25.1 25 11 (List.map enc_GEntry y0_o25)), 27⟩ μ),
  SemK Tryz.prog 19 27 Q (.loop (loopB 0 (bodyOf Tryz.f113))) [] ⟨fr [(0, (slE nb_y0_o25.1 25 (List.map enc_GEntry y0_o25))), (1, (AV.fn 114 [(AV.ptr 26 0 0)])), (7, (aI .i64 (List.length y0_o25 : Int))), (8, (aI .i64 (k : Int)))], hp ([(26, { es := [(enc_GEntry y0_o26)], esz := 11 })] ++ opE nb_y0_o25.1 25 11 (List.map enc_GEntry y0_o25)), 27⟩ μ := by
 intro xs
 induction xs with
 | nil =>
  intro k hx  o h C0 C1
  have hk := drop_nil hx
  have hc : decide ((k : Int) < (List.length y0_o25 : Int)) = false := decide_eq_false (by omega)
  rw [store_Add_store_meet_slices_IndexFunc_Entry_Entry_L0] at h
  rcases nb_y0_o25 with ⟨_ | _, hn_y0_o25⟩
  ·
   refine SemK.round ?_
   obtain rfl := Option.some.inj h
   refine runT tmD [.br false] ?_
   exact wkT [] (C0  rfl)
  ·
   obtain rfl := hn_y0_o25 rfl
   refine SemK.round ?_
   obtain rfl := Option.some.inj h
   refine runT tmD [.br false] ?_
   exact wkT [] (C0  rfl)
 | cons x xs ih =>
  intro k hx  o h C0 C1
  obtain ⟨hk, hg, hx1⟩ := drop_cons hx
  have hc : decide ((k : Int) < (List.length y0_o25 : Int)) = true := decide_eq_true (by omega)
  rw [store_Add_store_meet_slices_IndexFunc_Entry_Entry_L0] at h
  rcases nb_y0_o25 with ⟨_ | _, hn_y0_o25⟩
  ·
   refine SemK.round ?_
   refine runT tmD [.br true, .el (enc_GEntry x), .ld (enc_GEntry x)] ?_
   refine SemK.inline tyTab_ok fn114 rfl rfl rfl rfl rfl trivial trivial rfl rfl ?_
   refine runT tmD [] ?_
   refine SemK.back (by intro id h; cases h) rfl ?_
   refine brE h ?_ ?_
   ·clear h; intro h1337 h
    obtain rfl := Option.some.inj h
    refine runT tmD [.br true] ?_
    exact wkT [] (C1 _  rfl)
   ·clear h; intro h1337 h
    refine runT tmD [.br false] ?_
    exact wkT [] (ih (k + 1) hx1  o h C0 C1)
  ·
   obtain rfl := hn_y0_o25 rfl
   refine SemK.round ?_
   exact absurd hk (by simp)
end Go.Av.Tryz
