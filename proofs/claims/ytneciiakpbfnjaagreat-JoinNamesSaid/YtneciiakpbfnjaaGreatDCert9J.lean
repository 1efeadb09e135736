/- Printed by decomp.py: that the program computes the functions. -/
import Derived.Test.YtneciiakpbfnjaaGreatDCert0J
import Derived.Test.YtneciiakpbfnjaaGreatDCert2J
import Derived.Test.YtneciiakpbfnjaaGreatDCert6J
import Derived.Test.YtneciiakpbfnjaaGreatDCert7J
import Derived.Test.YtneciiakpbfnjaaGreatDCert8J
set_option linter.all false
set_option linter.unusedVariables false
namespace Go.Av.Tryz
open Go.Proofs Go.D
set_option maxRecDepth 10000
set_option maxHeartbeats 4000000

theorem store_Add_ok (a0 : (List GEntry)) (a1 : GWindow) (a2 : GRecord) (a3 : Int) (r : (List GEntry) × Int) (h : store_Add a0 a1 a2 a3 = some r) : Pure Tryz.prog 29 [(AV.list false (List.map enc_GEntry a0)), (enc_GWindow a1), (enc_GRecord a2), (aI .i64 a3)] (AV.tup [(AV.list true (List.map enc_GEntry r.1)), (aI .i64 r.2)]) := by
 refine Pure.sym tyTab_ok fn29 (nt := 112) rfl rfl ?_ (allCons .list (allCons (free_GWindow _ _).1 (allCons (free_GRecord _ _).1 (allCons .sc allNil))))
 unfold store_Add at h
 refine bindE h ?_
 clear h; intro v1 h2 h
 refine brE h ?_ ?_
 ·clear h; intro h3 h
  obtain rfl := Option.some.inj h
  refine run_to tmD 4000 [.pure [(AV.list false (List.map enc_GEntry a0))] (aI .i64 v1), .br true] rfl (by repeat' first | refine And.intro ?_ ?_ | exact (PureCall.none (store_Check_ok _ _ h2) (Cvs.cons (cv_list (flat_map flat_GEntry a0)) Cvs.nil)) | exact oblA) ?_
  refine fin_ret rfl ?_
  exact (cv_tup (Cvs.cons (cv_nils (es := List.map enc_GEntry ([] : List GEntry)) (by simp [*])) (Cvs.cons .sc Cvs.nil)))
 ·clear h; intro h3 h
  refine bindE h ?_
  clear h; intro v4 h5 h
  refine brE h ?_ ?_
  ·clear h; intro h6 h
   obtain rfl := Option.some.inj h
   refine run_to tmD 4000 [.pure [(AV.list false (List.map enc_GEntry a0))] (aI .i64 v1), .br false, .pure [(enc_GWindow a1)] (aI .i64 v4), .br true] rfl (by repeat' first | refine And.intro ?_ ?_ | exact (PureCall.none (store_Check_ok _ _ h2) (Cvs.cons (cv_list (flat_map flat_GEntry a0)) Cvs.nil)) | exact (PureCall.none (clauses_Window_ok _ _ h5) (Cvs.cons (cvf_GWindow (x := a1)) Cvs.nil)) | exact oblA) ?_
   refine fin_ret rfl ?_
   exact (cv_tup (Cvs.cons (cv_nils (es := List.map enc_GEntry ([] : List GEntry)) (by simp [*])) (Cvs.cons .sc Cvs.nil)))
  ·clear h; intro h6 h
   refine brE h ?_ ?_
   ·clear h; intro h7 h
    obtain rfl := Option.some.inj h
    refine run_to tmD 4000 [.pure [(AV.list false (List.map enc_GEntry a0))] (aI .i64 v1), .br false, .pure [(enc_GWindow a1)] (aI .i64 v4), .br false, .br true] rfl (by repeat' first | refine And.intro ?_ ?_ | exact (PureCall.none (store_Check_ok _ _ h2) (Cvs.cons (cv_list (flat_map flat_GEntry a0)) Cvs.nil)) | exact (PureCall.none (clauses_Window_ok _ _ h5) (Cvs.cons (cvf_GWindow (x := a1)) Cvs.nil)) | exact oblA) ?_
    refine fin_ret rfl ?_
    exact (cv_tup (Cvs.cons (cv_nils (es := List.map enc_GEntry ([] : List GEntry)) (by simp [*])) (Cvs.cons .sc Cvs.nil)))
   ·clear h; intro h7 h
    refine brE h ?_ ?_
    ·clear h; intro h8 h
     obtain rfl := Option.some.inj h
     refine run_to tmD 4000 [.pure [(AV.list false (List.map enc_GEntry a0))] (aI .i64 v1), .br false, .pure [(enc_GWindow a1)] (aI .i64 v4), .br false, .br false, .br true] rfl (by repeat' first | refine And.intro ?_ ?_ | exact (PureCall.none (store_Check_ok _ _ h2) (Cvs.cons (cv_list (flat_map flat_GEntry a0)) Cvs.nil)) | exact (PureCall.none (clauses_Window_ok _ _ h5) (Cvs.cons (cvf_GWindow (x := a1)) Cvs.nil)) | exact oblA) ?_
     refine fin_ret rfl ?_
     exact (cv_tup (Cvs.cons (cv_nils (es := List.map enc_GEntry ([] : List GEntry)) (by simp [*])) (Cvs.cons .sc Cvs.nil)))
    ·clear h; intro h8 h
     refine bindE h ?_
     clear h; intro j13_o2 h18 h
     refine run_to tmD 4000 [.pure [(AV.list false (List.map enc_GEntry a0))] (aI .i64 v1), .br false, .pure [(enc_GWindow a1)] (aI .i64 v4), .br false, .br false, .br false, .stop 12] rfl (by repeat' first | refine And.intro ?_ ?_ | exact (PureCall.none (store_Check_ok _ _ h2) (Cvs.cons (cv_list (flat_map flat_GEntry a0)) Cvs.nil)) | exact (PureCall.none (clauses_Window_ok _ _ h5) (Cvs.cons (cvf_GWindow (x := a1)) Cvs.nil)) | exact oblA) ?_
     refine SemK.join (s' := ⟨fr [(0, (AV.list false (List.map enc_GEntry a0))), (5, (AV.ptr 0 0 0)), (6, (AV.ptr 1 0 0)), (12, (AV.ptr 2 0 0))], hp ([(0, { es := [(enc_GWindow a1)], esz := 3 }), (1, { es := [(enc_GRecord a2)], esz := 3 }), (2, { es := [(enc_GEntry j13_o2)], esz := 11 })]), 3⟩) ?_ (fun J => SemK.cut ?_)
     ·
      refine bindE h ?_
      clear h; intro j24_o3 h30 h
      refine runT tmD [] ?_
      refine SemK.joinOpF (fun (q : Nb j24_o3) => ⟨fr [(5, (AV.ptr 0 0 0)), (6, (AV.ptr 1 0 0)), (12, (AV.ptr 2 0 0)), (52, (slE q.1 3 (List.map enc_GEntry j24_o3)))], hp ([(0, { es := [(enc_GWindow a1)], esz := 3 }), (1, { es := [(enc_GRecord a2)], esz := 3 }), (2, { es := [(enc_GEntry j13_o2)], esz := 11 })] ++ opE q.1 3 11 (List.map enc_GEntry j24_o3)), 4⟩) ?_ (fun J => ?_)
      ·
       rintro nb_j24_o3
       rcases nb_j24_o3 with ⟨_ | _, hn_j24_o3⟩
       ·
        refine brE h ?_ ?_
        ·clear h; intro h31 h
         cases h
        ·clear h; intro h31 h
         refine bindE h ?_
         clear h; intro v32 h33 h
         refine brE h ?_ ?_
         ·clear h; intro h34 h
          obtain rfl := Option.some.inj h
          refine run_to tmD 4000 [.br false, .pure [(enc_GWindow a1), (aI .i64 a2.Time)] (AV.tup [(AV.list true (List.map enc_GSpan v32.1)), (aI .i64 v32.2)]), .br true] rfl (by repeat' first | refine And.intro ?_ ?_ | exact (PureCall.none (slide_Of_ok _ _ _ h33) (Cvs.cons (cvf_GWindow (x := a1)) (Cvs.cons .sc Cvs.nil))) | exact oblA) ?_
          refine fin_ret rfl ?_
          exact (cv_tup (Cvs.cons (cv_nils (es := List.map enc_GEntry ([] : List GEntry)) (by simp [*])) (Cvs.cons .sc Cvs.nil)))
         ·clear h; intro h34 h
          refine bindE h ?_
          clear h; intro u35 h36 h
          have qh36 := lenOk_le h36
          refine bindE h ?_
          clear h; intro o458 h459 h
          refine run_to tmD 4000 [.br false, .pure [(enc_GWindow a1), (aI .i64 a2.Time)] (AV.tup [(AV.list true (List.map enc_GSpan v32.1)), (aI .i64 v32.2)]), .br false, .el (aI .i64 (List.length v32.1 : Int))] rfl (by repeat' first | refine And.intro ?_ ?_ | exact (PureCall.none (slide_Of_ok _ _ _ h33) (Cvs.cons (cvf_GWindow (x := a1)) (Cvs.cons .sc Cvs.nil))) | exact oblA) ?_
          refine wkT [(0, 2), (1, 3)] (SemK.cut (store_Add_L0_ok v32.1 qh36 v32.1 0 (by simp) _ _ nbF _ h459 ?_ ?_))
          ·intro z0_0_o0 nb_z0_0_o0 eo458; subst eo458
           refine SemK.glue ?_
           try dsimp only at h
           rcases nb_z0_0_o0 with ⟨_ | _, hn_z0_0_o0⟩
           ·
            refine brE h ?_ ?_
            ·clear h; intro h460 h
             obtain rfl := Option.some.inj h
             refine runT tmD [.el (aI .i64 (List.length z0_0_o0 : Int)), .br true] ?_
             refine fin_ret rfl ?_
             exact (cv_tup (Cvs.cons (cv_nils (es := List.map enc_GEntry ([] : List GEntry)) (by simp [*])) (Cvs.cons .sc Cvs.nil)))
            ·clear h; intro h460 h
             obtain rfl := Option.some.inj h
             refine runT tmD [.el (aI .i64 (List.length z0_0_o0 : Int)), .br false] ?_
             refine fin_ret rfl ?_
             exact (cv_tup (Cvs.cons (cv_ref (es := List.map enc_GEntry z0_0_o0) rfl (by first | rfl | (simp; done) | (simp; rfl) | (simp [h3, h6, h7, h8, h31, h34, h460]; done) | (simp [h3, h6, h7, h8, h31, h34, h460]; rfl) | (simp [h3, h6, h7, h8, h31, h34, h460, List.map_take, List.map_drop]; done) | (simp [h3, h6, h7, h8, h31, h34, h460, List.map_take, List.map_drop]; rfl)) (by first | rfl | (simp; done) | (simp; omega) | (simp [h3, h6, h7, h8, h31, h34, h460]; done) | (simp [h3, h6, h7, h8, h31, h34, h460]; omega)) (flat_map flat_GEntry z0_0_o0)) (Cvs.cons .sc Cvs.nil)))
           ·
            obtain rfl := hn_z0_0_o0 rfl
            refine brE h ?_ ?_
            ·clear h; intro h461 h
             obtain rfl := Option.some.inj h
             refine runT tmD [.el (aI .i64 (List.length ([] : List GEntry) : Int)), .br true] ?_
             refine fin_ret rfl ?_
             exact (cv_tup (Cvs.cons (cv_nils (es := List.map enc_GEntry ([] : List GEntry)) (by simp [*])) (Cvs.cons .sc Cvs.nil)))
            ·clear h; intro h461 h
             obtain rfl := Option.some.inj h
             refine runT tmD [.el (aI .i64 (List.length ([] : List GEntry) : Int)), .br false] ?_
             refine fin_ret rfl ?_
             exact (cv_tup (Cvs.cons (cv_nils (es := List.map enc_GEntry ([] : List GEntry)) (by simp [*])) (Cvs.cons .sc Cvs.nil)))
          ·intro z0_1_o0 z0_1_9 nb_z0_1_o0 eo458; subst eo458
           refine SemK.glue ?_
           try dsimp only at h
           rcases nb_z0_1_o0 with ⟨_ | _, hn_z0_1_o0⟩
           ·
            obtain rfl := Option.some.inj h
            refine runT tmD [] ?_
            refine fin_ret rfl ?_
            exact (cv_tup (Cvs.cons (cv_ref (es := List.map enc_GEntry z0_1_o0) rfl (by first | rfl | (simp; done) | (simp; rfl) | (simp [h3, h6, h7, h8, h31, h34]; done) | (simp [h3, h6, h7, h8, h31, h34]; rfl) | (simp [h3, h6, h7, h8, h31, h34, List.map_take, List.map_drop]; done) | (simp [h3, h6, h7, h8, h31, h34, List.map_take, List.map_drop]; rfl)) (by first | rfl | (simp; done) | (simp; omega) | (simp [h3, h6, h7, h8, h31, h34]; done) | (simp [h3, h6, h7, h8, h31, h34]; omega)) (flat_map flat_GEntry z0_1_o0)) (Cvs.cons .sc Cvs.nil)))
           ·
            obtain rfl := hn_z0_1_o0 rfl
            obtain rfl := Option.some.inj h
            refine runT tmD [] ?_
            refine fin_ret rfl ?_
            exact (cv_tup (Cvs.cons (cv_nils (es := List.map enc_GEntry ([] : List GEntry)) (by simp [*])) (Cvs.cons .sc Cvs.nil)))
       ·
        obtain rfl := hn_j24_o3 rfl
        refine brE h ?_ ?_
        ·clear h; intro h462 h
         cases h
        ·clear h; intro h462 h
         refine bindE h ?_
         clear h; intro v463 h464 h
         refine brE h ?_ ?_
         ·clear h; intro h465 h
          obtain rfl := Option.some.inj h
          refine run_to tmD 4000 [.br false, .pure [(enc_GWindow a1), (aI .i64 a2.Time)] (AV.tup [(AV.list true (List.map enc_GSpan v463.1)), (aI .i64 v463.2)]), .br true] rfl (by repeat' first | refine And.intro ?_ ?_ | exact (PureCall.none (slide_Of_ok _ _ _ h464) (Cvs.cons (cvf_GWindow (x := a1)) (Cvs.cons .sc Cvs.nil))) | exact oblA) ?_
          refine fin_ret rfl ?_
          exact (cv_tup (Cvs.cons (cv_nils (es := List.map enc_GEntry ([] : List GEntry)) (by simp [*])) (Cvs.cons .sc Cvs.nil)))
         ·clear h; intro h465 h
          refine bindE h ?_
          clear h; intro u466 h467 h
          have qh467 := lenOk_le h467
          refine bindE h ?_
          clear h; intro o749 h750 h
          refine run_to tmD 4000 [.br false, .pure [(enc_GWindow a1), (aI .i64 a2.Time)] (AV.tup [(AV.list true (List.map enc_GSpan v463.1)), (aI .i64 v463.2)]), .br false, .el (aI .i64 (List.length v463.1 : Int))] rfl (by repeat' first | refine And.intro ?_ ?_ | exact (PureCall.none (slide_Of_ok _ _ _ h464) (Cvs.cons (cvf_GWindow (x := a1)) (Cvs.cons .sc Cvs.nil))) | exact oblA) ?_
          refine wkT [(0, 2)] (SemK.cut (store_Add_L0_ok v463.1 qh467 v463.1 0 (by simp) _ _ (nbT (by first | rfl | simp [*])) _ h750 ?_ ?_))
          ·intro z0_0_o0 nb_z0_0_o0 eo749; subst eo749
           refine SemK.glue ?_
           try dsimp only at h
           rcases nb_z0_0_o0 with ⟨_ | _, hn_z0_0_o0⟩
           ·
            refine brE h ?_ ?_
            ·clear h; intro h751 h
             obtain rfl := Option.some.inj h
             refine runT tmD [.el (aI .i64 (List.length z0_0_o0 : Int)), .br true] ?_
             refine fin_ret rfl ?_
             exact (cv_tup (Cvs.cons (cv_nils (es := List.map enc_GEntry ([] : List GEntry)) (by simp [*])) (Cvs.cons .sc Cvs.nil)))
            ·clear h; intro h751 h
             obtain rfl := Option.some.inj h
             refine runT tmD [.el (aI .i64 (List.length z0_0_o0 : Int)), .br false] ?_
             refine fin_ret rfl ?_
             exact (cv_tup (Cvs.cons (cv_ref (es := List.map enc_GEntry z0_0_o0) rfl (by first | rfl | (simp; done) | (simp; rfl) | (simp [h3, h6, h7, h8, h462, h465, h751]; done) | (simp [h3, h6, h7, h8, h462, h465, h751]; rfl) | (simp [h3, h6, h7, h8, h462, h465, h751, List.map_take, List.map_drop]; done) | (simp [h3, h6, h7, h8, h462, h465, h751, List.map_take, List.map_drop]; rfl)) (by first | rfl | (simp; done) | (simp; omega) | (simp [h3, h6, h7, h8, h462, h465, h751]; done) | (simp [h3, h6, h7, h8, h462, h465, h751]; omega)) (flat_map flat_GEntry z0_0_o0)) (Cvs.cons .sc Cvs.nil)))
           ·
            obtain rfl := hn_z0_0_o0 rfl
            refine brE h ?_ ?_
            ·clear h; intro h752 h
             obtain rfl := Option.some.inj h
             refine runT tmD [.el (aI .i64 (List.length ([] : List GEntry) : Int)), .br true] ?_
             refine fin_ret rfl ?_
             exact (cv_tup (Cvs.cons (cv_nils (es := List.map enc_GEntry ([] : List GEntry)) (by simp [*])) (Cvs.cons .sc Cvs.nil)))
            ·clear h; intro h752 h
             obtain rfl := Option.some.inj h
             refine runT tmD [.el (aI .i64 (List.length ([] : List GEntry) : Int)), .br false] ?_
             refine fin_ret rfl ?_
             exact (cv_tup (Cvs.cons (cv_nils (es := List.map enc_GEntry ([] : List GEntry)) (by simp [*])) (Cvs.cons .sc Cvs.nil)))
          ·intro z0_1_o0 z0_1_9 nb_z0_1_o0 eo749; subst eo749
           refine SemK.glue ?_
           try dsimp only at h
           rcases nb_z0_1_o0 with ⟨_ | _, hn_z0_1_o0⟩
           ·
            obtain rfl := Option.some.inj h
            refine runT tmD [] ?_
            refine fin_ret rfl ?_
            exact (cv_tup (Cvs.cons (cv_ref (es := List.map enc_GEntry z0_1_o0) rfl (by first | rfl | (simp; done) | (simp; rfl) | (simp [h3, h6, h7, h8, h462, h465]; done) | (simp [h3, h6, h7, h8, h462, h465]; rfl) | (simp [h3, h6, h7, h8, h462, h465, List.map_take, List.map_drop]; done) | (simp [h3, h6, h7, h8, h462, h465, List.map_take, List.map_drop]; rfl)) (by first | rfl | (simp; done) | (simp; omega) | (simp [h3, h6, h7, h8, h462, h465]; done) | (simp [h3, h6, h7, h8, h462, h465]; omega)) (flat_map flat_GEntry z0_1_o0)) (Cvs.cons .sc Cvs.nil)))
           ·
            obtain rfl := hn_z0_1_o0 rfl
            obtain rfl := Option.some.inj h
            refine runT tmD [] ?_
            refine fin_ret rfl ?_
            exact (cv_tup (Cvs.cons (cv_nils (es := List.map enc_GEntry ([] : List GEntry)) (by simp [*])) (Cvs.cons .sc Cvs.nil)))
      ·
       clear h
       have h := h30
       refine SemK.inline tyTab_ok fn53 rfl rfl rfl rfl rfl trivial trivial rfl rfl ?_
       refine brE h ?_ ?_
       ·clear h; intro q h
        have h25 : a0 = [] := List.isEmpty_iff.1 q
        refine runT tmD [] ?_
        refine SemK.eqNil tyTab_ok (may := true) rfl rfl rfl rfl rfl rfl trivial (by simp [nilMay, *]) fun b26 qb26 => ?_
        cases b26
        ·
         obtain rfl := Option.some.inj h
         refine runT tmD [.br false, .ne false] ?_
         refine SemK.back (by intro id h; cases h) rfl ?_
         exact wkT [] ((J (nbT (by first | rfl | simp [*]))))
        ·
         obtain rfl := Option.some.inj h
         refine runT tmD [.br true] ?_
         refine SemK.back (by intro id h; cases h) rfl ?_
         exact wkT [] ((J (nbT (by first | rfl | simp [*]))))
       ·clear h; intro q h
        have h25 : ¬ (a0 = []) := (fun e => by rw [e] at q; cases q)
        refine runT tmD [] ?_
        refine SemK.eqNil tyTab_ok (may := false) rfl rfl rfl rfl rfl rfl trivial (by simp [nilMay, *]) fun b27 qb27 => ?_
        obtain rfl := qb27 rfl
        refine bindE h ?_
        clear h; intro u28 h29 h
        obtain rfl := Option.some.inj h
        refine run_to tmD 4000 [.br false, .via (AV.list true (List.map enc_GEntry a0))] rfl (by repeat' first | refine And.intro ?_ ?_ | (refine capLe h29 rfl ?_; first | (simp; done) | (simp; omega) | (simp [h3, h6, h7, h8, h25]; done) | (simp [h3, h6, h7, h8, h25]; omega)) | (refine capMax h29 (by decide) ?_; first | (simp; done) | (simp; omega) | (simp [h3, h6, h7, h8, h25]; done) | (simp [h3, h6, h7, h8, h25]; omega)) | exact oblA) ?_
        refine SemK.back (by intro id h; cases h) rfl ?_
        exact wkT [(3, 4)] ((J nbF))
     ·
      clear h
      have h := h18
      refine bindE h ?_
      clear h; intro v14 h15 h
      refine brE h ?_ ?_
      ·clear h; intro h16 h
       obtain rfl := Option.some.inj h
       refine run_to tmD 4000 [.pure [(aI .i64 a2.Value)] (enc_GAccum v14), .ix 0] rfl (by repeat' first | refine And.intro ?_ ?_ | exact (PureCall.none (store_Check_ok _ _ h2) (Cvs.cons (cv_list (flat_map flat_GEntry a0)) Cvs.nil)) | exact (PureCall.none (clauses_Window_ok _ _ h5) (Cvs.cons (cvf_GWindow (x := a1)) Cvs.nil)) | exact (PureCall.none (accums_Of_ok _ _ h15) (Cvs.cons .sc Cvs.nil)) | exact ((eq_of_beq h16)) | exact oblA) ?_
       exact wkT [] (SemK.glue J)
      ·clear h; intro h16 h
       refine brE h ?_ ?_
       ·clear h; intro h17 h
        obtain rfl := Option.some.inj h
        refine run_to tmD 4000 [.pure [(aI .i64 a2.Value)] (enc_GAccum v14), .ix 1] rfl (by repeat' first | refine And.intro ?_ ?_ | exact (PureCall.none (store_Check_ok _ _ h2) (Cvs.cons (cv_list (flat_map flat_GEntry a0)) Cvs.nil)) | exact (PureCall.none (clauses_Window_ok _ _ h5) (Cvs.cons (cvf_GWindow (x := a1)) Cvs.nil)) | exact (PureCall.none (accums_Of_ok _ _ h15) (Cvs.cons .sc Cvs.nil)) | exact ((eq_of_beq h17)) | exact oblA) ?_
        exact wkT [] (SemK.glue J)
       ·clear h; intro h17 h
        cases h

theorem slices_Clone_Send_Send_ok (a0 : (List GSend)) (r : (List GSend)) (h : slices_Clone_Send_Send a0 = some r) : Pure Tryz.prog 105 [(AV.list false (List.map enc_GSend a0))] (AV.list true (List.map enc_GSend r)) := by
 refine Pure.sym tyTab_ok fn105 (nt := 8) rfl rfl ?_ (allCons .list allNil)
 unfold slices_Clone_Send_Send at h
 refine brE h ?_ ?_
 ·clear h; intro q h
  have h1 : a0 = [] := List.isEmpty_iff.1 q
  refine runT tmD [] ?_
  refine SemK.eqNil tyTab_ok (may := true) rfl rfl rfl rfl rfl rfl trivial (by simp [nilMay, *]) fun b2 qb2 => ?_
  cases b2
  ·
   obtain rfl := Option.some.inj h
   refine runT tmD [.br false, .ne false] ?_
   refine fin_ret rfl ?_
   exact (cv_nils (es := List.map enc_GSend a0) (by simp [*]))
  ·
   obtain rfl := Option.some.inj h
   refine runT tmD [.br true] ?_
   refine fin_ret rfl ?_
   exact (cv_nils (es := List.map enc_GSend a0) (by simp [*]))
 ·clear h; intro q h
  have h1 : ¬ (a0 = []) := (fun e => by rw [e] at q; cases q)
  refine runT tmD [] ?_
  refine SemK.eqNil tyTab_ok (may := false) rfl rfl rfl rfl rfl rfl trivial (by simp [nilMay, *]) fun b3 qb3 => ?_
  obtain rfl := qb3 rfl
  refine bindE h ?_
  clear h; intro u4 h5 h
  obtain rfl := Option.some.inj h
  refine run_to tmD 4000 [.br false, .via (AV.list true (List.map enc_GSend a0))] rfl (by repeat' first | refine And.intro ?_ ?_ | (refine capLe h5 rfl ?_; first | (simp; done) | (simp; omega) | (simp [h1]; done) | (simp [h1]; omega)) | (refine capMax h5 (by decide) ?_; first | (simp; done) | (simp; omega) | (simp [h1]; done) | (simp [h1]; omega)) | exact oblA) ?_
  refine fin_ret rfl ?_
  exact (cv_ref (es := List.map enc_GSend a0) rfl (by first | rfl | (simp; done) | (simp; rfl) | (simp [h1]; done) | (simp [h1]; rfl) | (simp [h1, List.map_take, List.map_drop]; done) | (simp [h1, List.map_take, List.map_drop]; rfl)) (by first | rfl | (simp; done) | (simp; omega) | (simp [h1]; done) | (simp [h1]; omega)) (flat_map flat_GSend a0))
theorem slices_Clone_Send_Send_nil (a0 : List GSend) (h1 : a0 = []) : Pure Tryz.prog 105 [(AV.list false (List.map enc_GSend a0))] AV.nils := by
 refine Pure.sym tyTab_ok fn105 (nt := 8) rfl rfl ?_ (allCons .list allNil)
 refine runT tmD [] ?_
 refine SemK.eqNil tyTab_ok (may := true) rfl rfl rfl rfl rfl rfl trivial (by simp [nilMay, *]) fun b2 qb2 => ?_
 cases b2
 ·
  refine runT tmD [.br false, .ne false] ?_
  refine fin_ret rfl ?_
  exact .nils0
 ·
  refine runT tmD [.br true] ?_
  refine fin_ret rfl ?_
  exact .nils0

theorem slices_Clone_int64_int64_ok (a0 : (List Int)) (r : (List Int)) (h : slices_Clone_int64_int64 a0 = some r) : Pure Tryz.prog 70 [(AV.list false (List.map (aI .i64) a0))] (AV.list true (List.map (aI .i64) r)) := by
 refine Pure.sym tyTab_ok fn70 (nt := 8) rfl rfl ?_ (allCons .list allNil)
 unfold slices_Clone_int64_int64 at h
 refine brE h ?_ ?_
 ·clear h; intro q h
  have h1 : a0 = [] := List.isEmpty_iff.1 q
  refine runT tmD [] ?_
  refine SemK.eqNil tyTab_ok (may := true) rfl rfl rfl rfl rfl rfl trivial (by simp [nilMay, *]) fun b2 qb2 => ?_
  cases b2
  ·
   obtain rfl := Option.some.inj h
   refine runT tmD [.br false, .ne false] ?_
   refine fin_ret rfl ?_
   exact (cv_nils (es := List.map (aI .i64) a0) (by simp [*]))
  ·
   obtain rfl := Option.some.inj h
   refine runT tmD [.br true] ?_
   refine fin_ret rfl ?_
   exact (cv_nils (es := List.map (aI .i64) a0) (by simp [*]))
 ·clear h; intro q h
  have h1 : ¬ (a0 = []) := (fun e => by rw [e] at q; cases q)
  refine runT tmD [] ?_
  refine SemK.eqNil tyTab_ok (may := false) rfl rfl rfl rfl rfl rfl trivial (by simp [nilMay, *]) fun b3 qb3 => ?_
  obtain rfl := qb3 rfl
  refine bindE h ?_
  clear h; intro u4 h5 h
  obtain rfl := Option.some.inj h
  refine run_to tmD 4000 [.br false, .via (AV.list true (List.map (aI .i64) a0))] rfl (by repeat' first | refine And.intro ?_ ?_ | (refine capLe h5 rfl ?_; first | (simp; done) | (simp; omega) | (simp [h1]; done) | (simp [h1]; omega)) | (refine capMax h5 (by decide) ?_; first | (simp; done) | (simp; omega) | (simp [h1]; done) | (simp [h1]; omega)) | exact oblA) ?_
  refine fin_ret rfl ?_
  exact (cv_ref (es := List.map (aI .i64) a0) rfl (by first | rfl | (simp; done) | (simp; rfl) | (simp [h1]; done) | (simp [h1]; rfl) | (simp [h1, List.map_take, List.map_drop]; done) | (simp [h1, List.map_take, List.map_drop]; rfl)) (by first | rfl | (simp; done) | (simp; omega) | (simp [h1]; done) | (simp [h1]; omega)) (flat_map (fun _ => flatSc) a0))

theorem slices_Clone_Entry_Entry_ok (a0 : (List GEntry)) (r : (List GEntry)) (h : slices_Clone_Entry_Entry a0 = some r) : Pure Tryz.prog 53 [(AV.list false (List.map enc_GEntry a0))] (AV.list true (List.map enc_GEntry r)) := by
 refine Pure.sym tyTab_ok fn53 (nt := 8) rfl rfl ?_ (allCons .list allNil)
 unfold slices_Clone_Entry_Entry at h
 refine brE h ?_ ?_
 ·clear h; intro q h
  have h1 : a0 = [] := List.isEmpty_iff.1 q
  refine runT tmD [] ?_
  refine SemK.eqNil tyTab_ok (may := true) rfl rfl rfl rfl rfl rfl trivial (by simp [nilMay, *]) fun b2 qb2 => ?_
  cases b2
  ·
   obtain rfl := Option.some.inj h
   refine runT tmD [.br false, .ne false] ?_
   refine fin_ret rfl ?_
   exact (cv_nils (es := List.map enc_GEntry a0) (by simp [*]))
  ·
   obtain rfl := Option.some.inj h
   refine runT tmD [.br true] ?_
   refine fin_ret rfl ?_
   exact (cv_nils (es := List.map enc_GEntry a0) (by simp [*]))
 ·clear h; intro q h
  have h1 : ¬ (a0 = []) := (fun e => by rw [e] at q; cases q)
  refine runT tmD [] ?_
  refine SemK.eqNil tyTab_ok (may := false) rfl rfl rfl rfl rfl rfl trivial (by simp [nilMay, *]) fun b3 qb3 => ?_
  obtain rfl := qb3 rfl
  refine bindE h ?_
  clear h; intro u4 h5 h
  obtain rfl := Option.some.inj h
  refine run_to tmD 4000 [.br false, .via (AV.list true (List.map enc_GEntry a0))] rfl (by repeat' first | refine And.intro ?_ ?_ | (refine capLe h5 rfl ?_; first | (simp; done) | (simp; omega) | (simp [h1]; done) | (simp [h1]; omega)) | (refine capMax h5 (by decide) ?_; first | (simp; done) | (simp; omega) | (simp [h1]; done) | (simp [h1]; omega)) | exact oblA) ?_
  refine fin_ret rfl ?_
  exact (cv_ref (es := List.map enc_GEntry a0) rfl (by first | rfl | (simp; done) | (simp; rfl) | (simp [h1]; done) | (simp [h1]; rfl) | (simp [h1, List.map_take, List.map_drop]; done) | (simp [h1, List.map_take, List.map_drop]; rfl)) (by first | rfl | (simp; done) | (simp; omega) | (simp [h1]; done) | (simp [h1]; omega)) (flat_map flat_GEntry a0))

theorem slices_Clone_Event_Event_ok (a0 : (List GEvent)) (r : (List GEvent)) (h : slices_Clone_Event_Event a0 = some r) : Pure Tryz.prog 106 [(AV.list false (List.map enc_GEvent a0))] (AV.list true (List.map enc_GEvent r)) := by
 refine Pure.sym tyTab_ok fn106 (nt := 8) rfl rfl ?_ (allCons .list allNil)
 unfold slices_Clone_Event_Event at h
 refine brE h ?_ ?_
 ·clear h; intro q h
  have h1 : a0 = [] := List.isEmpty_iff.1 q
  refine runT tmD [] ?_
  refine SemK.eqNil tyTab_ok (may := true) rfl rfl rfl rfl rfl rfl trivial (by simp [nilMay, *]) fun b2 qb2 => ?_
  cases b2
  ·
   obtain rfl := Option.some.inj h
   refine runT tmD [.br false, .ne false] ?_
   refine fin_ret rfl ?_
   exact (cv_nils (es := List.map enc_GEvent a0) (by simp [*]))
  ·
   obtain rfl := Option.some.inj h
   refine runT tmD [.br true] ?_
   refine fin_ret rfl ?_
   exact (cv_nils (es := List.map enc_GEvent a0) (by simp [*]))
 ·clear h; intro q h
  have h1 : ¬ (a0 = []) := (fun e => by rw [e] at q; cases q)
  refine runT tmD [] ?_
  refine SemK.eqNil tyTab_ok (may := false) rfl rfl rfl rfl rfl rfl trivial (by simp [nilMay, *]) fun b3 qb3 => ?_
  obtain rfl := qb3 rfl
  refine bindE h ?_
  clear h; intro u4 h5 h
  obtain rfl := Option.some.inj h
  refine run_to tmD 4000 [.br false, .via (AV.list true (List.map enc_GEvent a0))] rfl (by repeat' first | refine And.intro ?_ ?_ | (refine capLe h5 rfl ?_; first | (simp; done) | (simp; omega) | (simp [h1]; done) | (simp [h1]; omega)) | (refine capMax h5 (by decide) ?_; first | (simp; done) | (simp; omega) | (simp [h1]; done) | (simp [h1]; omega)) | exact oblA) ?_
  refine fin_ret rfl ?_
  exact (cv_ref (es := List.map enc_GEvent a0) rfl (by first | rfl | (simp; done) | (simp; rfl) | (simp [h1]; done) | (simp [h1]; rfl) | (simp [h1, List.map_take, List.map_drop]; done) | (simp [h1, List.map_take, List.map_drop]; rfl)) (by first | rfl | (simp; done) | (simp; omega) | (simp [h1]; done) | (simp [h1]; omega)) (flat_map flat_GEvent a0))

theorem slices_Clone_Row_Row_ok (a0 : (List GRow)) (r : (List GRow)) (h : slices_Clone_Row_Row a0 = some r) : Pure Tryz.prog 107 [(AV.list false (List.map enc_GRow a0))] (AV.list true (List.map enc_GRow r)) := by
 refine Pure.sym tyTab_ok fn107 (nt := 8) rfl rfl ?_ (allCons .list allNil)
 unfold slices_Clone_Row_Row at h
 refine brE h ?_ ?_
 ·clear h; intro q h
  have h1 : a0 = [] := List.isEmpty_iff.1 q
  refine runT tmD [] ?_
  refine SemK.eqNil tyTab_ok (may := true) rfl rfl rfl rfl rfl rfl trivial (by simp [nilMay, *]) fun b2 qb2 => ?_
  cases b2
  ·
   obtain rfl := Option.some.inj h
   refine runT tmD [.br false, .ne false] ?_
   refine fin_ret rfl ?_
   exact (cv_nils (es := List.map enc_GRow a0) (by simp [*]))
  ·
   obtain rfl := Option.some.inj h
   refine runT tmD [.br true] ?_
   refine fin_ret rfl ?_
   exact (cv_nils (es := List.map enc_GRow a0) (by simp [*]))
 ·clear h; intro q h
  have h1 : ¬ (a0 = []) := (fun e => by rw [e] at q; cases q)
  refine runT tmD [] ?_
  refine SemK.eqNil tyTab_ok (may := false) rfl rfl rfl rfl rfl rfl trivial (by simp [nilMay, *]) fun b3 qb3 => ?_
  obtain rfl := qb3 rfl
  refine bindE h ?_
  clear h; intro u4 h5 h
  obtain rfl := Option.some.inj h
  refine run_to tmD 4000 [.br false, .via (AV.list true (List.map enc_GRow a0))] rfl (by repeat' first | refine And.intro ?_ ?_ | (refine capLe h5 rfl ?_; first | (simp; done) | (simp; omega) | (simp [h1]; done) | (simp [h1]; omega)) | (refine capMax h5 (by decide) ?_; first | (simp; done) | (simp; omega) | (simp [h1]; done) | (simp [h1]; omega)) | exact oblA) ?_
  refine fin_ret rfl ?_
  exact (cv_ref (es := List.map enc_GRow a0) rfl (by first | rfl | (simp; done) | (simp; rfl) | (simp [h1]; done) | (simp [h1]; rfl) | (simp [h1, List.map_take, List.map_drop]; done) | (simp [h1, List.map_take, List.map_drop]; rfl)) (by first | rfl | (simp; done) | (simp; omega) | (simp [h1]; done) | (simp [h1]; omega)) (flat_map flat_GRow a0))

theorem slices_Clone_Record_Record_ok (a0 : (List GRecord)) (r : (List GRecord)) (h : slices_Clone_Record_Record a0 = some r) : Pure Tryz.prog 108 [(AV.list false (List.map enc_GRecord a0))] (AV.list true (List.map enc_GRecord r)) := by
 refine Pure.sym tyTab_ok fn108 (nt := 8) rfl rfl ?_ (allCons .list allNil)
 unfold slices_Clone_Record_Record at h
 refine brE h ?_ ?_
 ·clear h; intro q h
  have h1 : a0 = [] := List.isEmpty_iff.1 q
  refine runT tmD [] ?_
  refine SemK.eqNil tyTab_ok (may := true) rfl rfl rfl rfl rfl rfl trivial (by simp [nilMay, *]) fun b2 qb2 => ?_
  cases b2
  ·
   obtain rfl := Option.some.inj h
   refine runT tmD [.br false, .ne false] ?_
   refine fin_ret rfl ?_
   exact (cv_nils (es := List.map enc_GRecord a0) (by simp [*]))
  ·
   obtain rfl := Option.some.inj h
   refine runT tmD [.br true] ?_
   refine fin_ret rfl ?_
   exact (cv_nils (es := List.map enc_GRecord a0) (by simp [*]))
 ·clear h; intro q h
  have h1 : ¬ (a0 = []) := (fun e => by rw [e] at q; cases q)
  refine runT tmD [] ?_
  refine SemK.eqNil tyTab_ok (may := false) rfl rfl rfl rfl rfl rfl trivial (by simp [nilMay, *]) fun b3 qb3 => ?_
  obtain rfl := qb3 rfl
  refine bindE h ?_
  clear h; intro u4 h5 h
  obtain rfl := Option.some.inj h
  refine run_to tmD 4000 [.br false, .via (AV.list true (List.map enc_GRecord a0))] rfl (by repeat' first | refine And.intro ?_ ?_ | (refine capLe h5 rfl ?_; first | (simp; done) | (simp; omega) | (simp [h1]; done) | (simp [h1]; omega)) | (refine capMax h5 (by decide) ?_; first | (simp; done) | (simp; omega) | (simp [h1]; done) | (simp [h1]; omega)) | exact oblA) ?_
  refine fin_ret rfl ?_
  exact (cv_ref (es := List.map enc_GRecord a0) rfl (by first | rfl | (simp; done) | (simp; rfl) | (simp [h1]; done) | (simp [h1]; rfl) | (simp [h1, List.map_take, List.map_drop]; done) | (simp [h1, List.map_take, List.map_drop]; rfl)) (by first | rfl | (simp; done) | (simp; omega) | (simp [h1]; done) | (simp [h1]; omega)) (flat_map flat_GRecord a0))
end Go.Av.Tryz
