/- Printed by decomp.py: that the program computes the functions. -/
import Derived.Test.YtfdfgobnpnoomaaGreatDCert11Z
set_option linter.all false
set_option linter.unusedVariables false
namespace Go.Av.Tryz
open Go.Proofs Go.D
set_option maxRecDepth 10000
set_option maxHeartbeats 4000000

theorem store_Add_ok (a0 : (List GEntry)) (a1 : GWindow) (a2 : GRecord) (a3 : Int) (r : (List GEntry) × Int) (h : store_Add a0 a1 a2 a3 = some r) : Pure Tryz.prog 51 [(AV.list false (List.map enc_GEntry a0)), (enc_GWindow a1), (enc_GRecord a2), (aI .i64 a3)] (AV.tup [(AV.list true (List.map enc_GEntry r.1)), (aI .i64 r.2)]) := by
 refine Pure.sym tyTab_ok fn51 (nt := 112) rfl rfl ?_ (allCons .list (allCons (free_GWindow _ _).1 (allCons (free_GRecord _ _).1 (allCons .sc allNil))))
 unfold store_Add at h
 refine bindE h ?_
 clear h; intro v1 h2 h
 refine brE h ?_ ?_
 ·clear h; intro h3 h
  obtain rfl := Option.some.inj h
  refine run_to tmD 4000 [.pure [(AV.list false (List.map enc_GEntry a0))] (aI .i64 v1), .br true] rfl (by repeat' first | refine And.intro ?_ ?_ | exact (PureCall.none (store_Check_ok _ _ h2) (Cvs.cons (cv_list (flat_map flat_GEntry a0)) Cvs.nil)) | exact oblA) ?_
  refine fin_ret rfl ?_
  exact (cv_tup (Cvs.cons (cv_nils (es := List.map enc_GEntry ([] : List GEntry)) (by simp [*])) (Cvs.cons .sc Cvs.nil)))
 ·clear h; intro h3 h
  refine bindE h ?_
  clear h; intro v4 h5 h
  refine brE h ?_ ?_
  ·clear h; intro h6 h
   obtain rfl := Option.some.inj h
   refine run_to tmD 4000 [.pure [(AV.list false (List.map enc_GEntry a0))] (aI .i64 v1), .br false, .pure [(enc_GWindow a1)] (aI .i64 v4), .br true] rfl (by repeat' first | refine And.intro ?_ ?_ | exact (PureCall.none (store_Check_ok _ _ h2) (Cvs.cons (cv_list (flat_map flat_GEntry a0)) Cvs.nil)) | exact (PureCall.none (clauses_Window_ok _ _ h5) (Cvs.cons (cvf_GWindow (x := a1)) Cvs.nil)) | exact oblA) ?_
   refine fin_ret rfl ?_
   exact (cv_tup (Cvs.cons (cv_nils (es := List.map enc_GEntry ([] : List GEntry)) (by simp [*])) (Cvs.cons .sc Cvs.nil)))
  ·clear h; intro h6 h
   refine brE h ?_ ?_
   ·clear h; intro h7 h
    obtain rfl := Option.some.inj h
    refine run_to tmD 4000 [.pure [(AV.list false (List.map enc_GEntry a0))] (aI .i64 v1), .br false, .pure [(enc_GWindow a1)] (aI .i64 v4), .br false, .br true] rfl (by repeat' first | refine And.intro ?_ ?_ | exact (PureCall.none (store_Check_ok _ _ h2) (Cvs.cons (cv_list (flat_map flat_GEntry a0)) Cvs.nil)) | exact (PureCall.none (clauses_Window_ok _ _ h5) (Cvs.cons (cvf_GWindow (x := a1)) Cvs.nil)) | exact oblA) ?_
    refine fin_ret rfl ?_
    exact (cv_tup (Cvs.cons (cv_nils (es := List.map enc_GEntry ([] : List GEntry)) (by simp [*])) (Cvs.cons .sc Cvs.nil)))
   ·clear h; intro h7 h
    refine brE h ?_ ?_
    ·clear h; intro h8 h
     obtain rfl := Option.some.inj h
     refine run_to tmD 4000 [.pure [(AV.list false (List.map enc_GEntry a0))] (aI .i64 v1), .br false, .pure [(enc_GWindow a1)] (aI .i64 v4), .br false, .br false, .br true] rfl (by repeat' first | refine And.intro ?_ ?_ | exact (PureCall.none (store_Check_ok _ _ h2) (Cvs.cons (cv_list (flat_map flat_GEntry a0)) Cvs.nil)) | exact (PureCall.none (clauses_Window_ok _ _ h5) (Cvs.cons (cvf_GWindow (x := a1)) Cvs.nil)) | exact oblA) ?_
     refine fin_ret rfl ?_
     exact (cv_tup (Cvs.cons (cv_nils (es := List.map enc_GEntry ([] : List GEntry)) (by simp [*])) (Cvs.cons .sc Cvs.nil)))
    ·clear h; intro h8 h
     refine bindE h ?_
     clear h; intro j13_o2 h18 h
     refine run_to tmD 4000 [.pure [(AV.list false (List.map enc_GEntry a0))] (aI .i64 v1), .br false, .pure [(enc_GWindow a1)] (aI .i64 v4), .br false, .br false, .br false, .stop 12] rfl (by repeat' first | refine And.intro ?_ ?_ | exact (PureCall.none (store_Check_ok _ _ h2) (Cvs.cons (cv_list (flat_map flat_GEntry a0)) Cvs.nil)) | exact (PureCall.none (clauses_Window_ok _ _ h5) (Cvs.cons (cvf_GWindow (x := a1)) Cvs.nil)) | exact oblA) ?_
     refine SemK.join (s' := ⟨fr [(0, (AV.list false (List.map enc_GEntry a0))), (5, (AV.ptr 0 0 0)), (6, (AV.ptr 1 0 0)), (12, (AV.ptr 2 0 0))], hp ([(0, { es := [(enc_GWindow a1)], esz := 3 }), (1, { es := [(enc_GRecord a2)], esz := 3 }), (2, { es := [(enc_GEntry j13_o2)], esz := 11 })]), 3⟩) ?_ (fun J => SemK.cut ?_)
     ·
      refine bindE h ?_
      clear h; intro j24_o3 h30 h
      refine runT tmD [] ?_
      refine SemK.joinOpF (fun (q : Nb j24_o3) => ⟨fr [(5, (AV.ptr 0 0 0)), (6, (AV.ptr 1 0 0)), (12, (AV.ptr 2 0 0)), (52, (slE q.1 3 (List.map enc_GEntry j24_o3)))], hp ([(0, { es := [(enc_GWindow a1)], esz := 3 }), (1, { es := [(enc_GRecord a2)], esz := 3 }), (2, { es := [(enc_GEntry j13_o2)], esz := 11 })] ++ opE q.1 3 11 (List.map enc_GEntry j24_o3)), 4⟩) ?_ (fun J => ?_)
      ·
       rintro nb_j24_o3
       rcases nb_j24_o3 with ⟨_ | _, hn_j24_o3⟩
       ·
        refine brE h ?_ ?_
        ·clear h; intro h31 h
         refine runT tmD [.br true] ?_
         refine SemK.inline tyTab_ok fn81 rfl rfl rfl rfl rfl trivial trivial rfl rfl ?_
         refine bindE h ?_
         clear h; intro v51 h52 h
         refine brE h ?_ ?_
         ·clear h; intro h53 h
          refine run_to tmD 4000 [.pure [(aI .i64 0), (aI .i64 a1.Size)] (aI .i64 v51), .br true] rfl (by repeat' first | refine And.intro ?_ ?_ | exact (PureCall.none (session_check_ok _ _ _ h52) (Cvs.cons .sc (Cvs.cons .sc Cvs.nil))) | exact oblA) ?_
          refine SemK.back (by intro id h; cases h) rfl ?_
          obtain rfl := Option.some.inj h
          refine runT tmD [.br true] ?_
          refine fin_ret rfl ?_
          exact (cv_tup (Cvs.cons (cv_nils (es := List.map enc_GEntry ([] : List GEntry)) (by simp [*])) (Cvs.cons .sc Cvs.nil)))
         ·clear h; intro h53 h
          refine run_to tmD 4000 [.pure [(aI .i64 0), (aI .i64 a1.Size)] (aI .i64 v51), .br false, .br false] rfl (by repeat' first | refine And.intro ?_ ?_ | exact (PureCall.none (session_check_ok _ _ _ h52) (Cvs.cons .sc (Cvs.cons .sc Cvs.nil))) | exact oblA) ?_
          refine SemK.round ?_
          refine bindE h ?_
          clear h; intro v54 h55 h
          refine brE h ?_ ?_
          ·clear h; intro h56 h
           refine run_to tmD 4000 [.br true, .el ((aI .i64 a2.Time)), .pure [(aI .i64 a2.Time), (aI .i64 a1.Size)] (aI .i64 v54), .br true] rfl (by repeat' first | refine And.intro ?_ ?_ | exact (PureCall.none (session_check_ok _ _ _ h55) (Cvs.cons .sc (Cvs.cons .sc Cvs.nil))) | exact oblA) ?_
           refine SemK.back (by intro id h; cases h) rfl ?_
           obtain rfl := Option.some.inj h
           refine runT tmD [.br true] ?_
           refine fin_ret rfl ?_
           exact (cv_tup (Cvs.cons (cv_nils (es := List.map enc_GEntry ([] : List GEntry)) (by simp [*])) (Cvs.cons .sc Cvs.nil)))
          ·clear h; intro h56 h
           refine run_to tmD 4000 [.br true, .el ((aI .i64 a2.Time)), .pure [(aI .i64 a2.Time), (aI .i64 a1.Size)] (aI .i64 v54), .br false, .wrap, .no] rfl (by repeat' first | refine And.intro ?_ ?_ | exact (PureCall.none (session_check_ok _ _ _ h55) (Cvs.cons .sc (Cvs.cons .sc Cvs.nil))) | exact oblA) ?_
           refine SemK.round ?_
           refine runT tmD [.br false] ?_
           refine SemK.inline tyTab_ok fn112 rfl rfl rfl rfl rfl trivial trivial rfl rfl ?_
           refine runT tmD [] ?_
           refine SemK.inline tyTab_ok fn139 rfl rfl rfl rfl rfl trivial trivial rfl rfl ?_
           refine runT tmD [] ?_
           refine SemK.eqNil tyTab_ok (may := false) rfl rfl rfl rfl rfl rfl trivial rfl fun b64 qb64 => ?_
           obtain rfl := qb64 rfl
           refine runT tmD [.br false, .no] ?_
           refine SemK.back (by intro id h; cases h) rfl ?_
           refine runT tmD [] ?_
           refine SemK.inline tyTab_ok fn140 rfl rfl rfl rfl rfl trivial trivial rfl rfl ?_
           refine bindE h ?_
           clear h; intro v67 h68 h
           refine run_to tmD 4000 [.wrap, .pure [(aI .u64 1)] (aI .i64 v67)] rfl (by repeat' first | refine And.intro ?_ ?_ | exact (PureCall.none (math_bits_Len_ok _ _ h68) (Cvs.cons .sc Cvs.nil)) | exact oblA) ?_
           refine SemK.inline tyTab_ok fn177 rfl rfl rfl rfl rfl trivial trivial rfl rfl ?_
           refine runT tmD [] ?_
           refine SemK.round ?_
           refine runT tmD [.br true] ?_
           refine SemK.inline tyTab_ok fn200 rfl rfl rfl rfl rfl trivial trivial rfl rfl ?_
           refine runT tmD [] ?_
           refine SemK.round ?_
           refine runT tmD [.br false] ?_
           refine SemK.back (by intro id h; cases h) rfl ?_
           refine runT tmD [] ?_
           refine SemK.back (by intro id h; cases h) rfl ?_
           refine runT tmD [] ?_
           refine SemK.back (by intro id h; cases h) rfl ?_
           refine runT tmD [] ?_
           refine SemK.round ?_
           refine runT tmD [.br true, .el (AV.agg [(aI .i64 a2.Time), (aI .i64 (IntKind.i64.wrap (a2.Time + a1.Size)))]), .go false, .go false, .go false, .go false, .go false, .go false, .go false, .go false, .go false, .go false, .br false, .no] ?_
           refine SemK.round ?_
           refine runT tmD [.br false] ?_
           refine SemK.back (by intro id h; cases h) rfl ?_
           refine runT tmD [] ?_
           refine SemK.back (by intro id h; cases h) rfl ?_
           refine bindE h ?_
           clear h; intro w807 h1546 h
           obtain ⟨j807_o0, j807_75_1⟩ := w807
           try dsimp only at h
           refine runT tmD [.br false, .el (AV.agg [(aI .i64 a2.Time), (aI .i64 (IntKind.i64.wrap (a2.Time + a1.Size)))])] ?_
           refine SemK.joinOpF (fun (q : Nb j807_o0) => ⟨fr [(75, (AV.tup [(slE q.1 0 (List.map enc_GEntry j807_o0)), (aI .i64 j807_75_1)]))], hp ([] ++ opE q.1 0 11 (List.map enc_GEntry j807_o0)), 1⟩) ?_ (fun J => ?_)
           ·
            rintro nb_j807_o0
            rcases nb_j807_o0 with ⟨_ | _, hn_j807_o0⟩
            ·
             refine brE h ?_ ?_
             ·clear h; intro h1547 h
              obtain rfl := Option.some.inj h
              refine runT tmD [.br true] ?_
              refine fin_ret rfl ?_
              exact (cv_tup (Cvs.cons (cv_nils (es := List.map enc_GEntry ([] : List GEntry)) (by simp [*])) (Cvs.cons .sc Cvs.nil)))
             ·clear h; intro h1547 h
              refine brE h ?_ ?_
              ·clear h; intro h1548 h
               obtain rfl := Option.some.inj h
               refine runT tmD [.br false, .el (aI .i64 (List.length j807_o0 : Int)), .br true] ?_
               refine fin_ret rfl ?_
               exact (cv_tup (Cvs.cons (cv_nils (es := List.map enc_GEntry ([] : List GEntry)) (by simp [*])) (Cvs.cons .sc Cvs.nil)))
              ·clear h; intro h1548 h
               obtain rfl := Option.some.inj h
               refine runT tmD [.br false, .el (aI .i64 (List.length j807_o0 : Int)), .br false] ?_
               refine fin_ret rfl ?_
               exact (cv_tup (Cvs.cons (cv_ref (es := List.map enc_GEntry j807_o0) rfl (by first | rfl | (simp; done) | (simp; rfl) | (simp [h3, h6, h7, h8, h31, h53, h56, h1547, h1548]; done) | (simp [h3, h6, h7, h8, h31, h53, h56, h1547, h1548]; rfl) | (simp [h3, h6, h7, h8, h31, h53, h56, h1547, h1548, List.map_take, List.map_drop]; done) | (simp [h3, h6, h7, h8, h31, h53, h56, h1547, h1548, List.map_take, List.map_drop]; rfl)) (by first | rfl | (simp; done) | (simp; omega) | (simp [h3, h6, h7, h8, h31, h53, h56, h1547, h1548]; done) | (simp [h3, h6, h7, h8, h31, h53, h56, h1547, h1548]; omega)) (flat_map flat_GEntry j807_o0)) (Cvs.cons .sc Cvs.nil)))
            ·
             obtain rfl := hn_j807_o0 rfl
             refine brE h ?_ ?_
             ·clear h; intro h1549 h
              obtain rfl := Option.some.inj h
              refine runT tmD [.br true] ?_
              refine fin_ret rfl ?_
              exact (cv_tup (Cvs.cons (cv_nils (es := List.map enc_GEntry ([] : List GEntry)) (by simp [*])) (Cvs.cons .sc Cvs.nil)))
             ·clear h; intro h1549 h
              refine brE h ?_ ?_
              ·clear h; intro h1550 h
               obtain rfl := Option.some.inj h
               refine runT tmD [.br false, .el (aI .i64 (List.length ([] : List GEntry) : Int)), .br true] ?_
               refine fin_ret rfl ?_
               exact (cv_tup (Cvs.cons (cv_nils (es := List.map enc_GEntry ([] : List GEntry)) (by simp [*])) (Cvs.cons .sc Cvs.nil)))
              ·clear h; intro h1550 h
               obtain rfl := Option.some.inj h
               refine runT tmD [.br false, .el (aI .i64 (List.length ([] : List GEntry) : Int)), .br false] ?_
               refine fin_ret rfl ?_
               exact (cv_tup (Cvs.cons (cv_nils (es := List.map enc_GEntry ([] : List GEntry)) (by simp [*])) (Cvs.cons .sc Cvs.nil)))
           ·
            clear h
            have h := h1546
            refine SemK.inline tyTab_ok fn82 rfl rfl rfl rfl rfl trivial trivial rfl rfl ?_
            refine bindE h ?_
            clear h; intro o1544 h1545 h
            refine runT tmD [] ?_
            refine wkT [(25, 3), (26, 25)] (SemK.cut (store_Add_store_meet_L0_ok _ _ _ nbF _ h1545 ?_))
            ·intro z0_0_o25 z0_0_5 nb_z0_0_o25 eo1544; subst eo1544
             refine SemK.glue ?_
             try dsimp only at h
             rcases nb_z0_0_o25 with ⟨_ | _, hn_z0_0_o25⟩
             ·
              cases h
              refine runT tmD [] ?_
              refine SemK.back (by intro id h; cases h) rfl ?_
              exact wkT [(0, 25)] ((J nbF))
             ·
              obtain rfl := hn_z0_0_o25 rfl
              cases h
              refine runT tmD [] ?_
              refine SemK.back (by intro id h; cases h) rfl ?_
              exact wkT [] ((J (nbT (by first | rfl | simp [*]))))
        ·clear h; intro h31 h
         refine bindE h ?_
         clear h; intro v1551 h1552 h
         refine brE h ?_ ?_
         ·clear h; intro h1553 h
          obtain rfl := Option.some.inj h
          refine run_to tmD 4000 [.br false, .pure [(enc_GWindow a1), (aI .i64 a2.Time)] (AV.tup [(AV.list true (List.map enc_GSpan v1551.1)), (aI .i64 v1551.2)]), .br true] rfl (by repeat' first | refine And.intro ?_ ?_ | exact (PureCall.none (slide_Of_ok _ _ _ h1552) (Cvs.cons (cvf_GWindow (x := a1)) (Cvs.cons .sc Cvs.nil))) | exact oblA) ?_
          refine fin_ret rfl ?_
          exact (cv_tup (Cvs.cons (cv_nils (es := List.map enc_GEntry ([] : List GEntry)) (by simp [*])) (Cvs.cons .sc Cvs.nil)))
         ·clear h; intro h1553 h
          refine bindE h ?_
          clear h; intro u1554 h1555 h
          have qh1555 := lenOk_le h1555
          refine bindE h ?_
          clear h; intro o1977 h1978 h
          refine run_to tmD 4000 [.br false, .pure [(enc_GWindow a1), (aI .i64 a2.Time)] (AV.tup [(AV.list true (List.map enc_GSpan v1551.1)), (aI .i64 v1551.2)]), .br false, .el (aI .i64 (List.length v1551.1 : Int))] rfl (by repeat' first | refine And.intro ?_ ?_ | exact (PureCall.none (slide_Of_ok _ _ _ h1552) (Cvs.cons (cvf_GWindow (x := a1)) (Cvs.cons .sc Cvs.nil))) | exact oblA) ?_
          refine wkT [(0, 2), (1, 3)] (SemK.cut (store_Add_L0_ok v1551.1 qh1555 v1551.1 0 (by simp) _ _ nbF _ h1978 ?_ ?_))
          ·intro z0_0_o0 nb_z0_0_o0 eo1977; subst eo1977
           refine SemK.glue ?_
           try dsimp only at h
           rcases nb_z0_0_o0 with ⟨_ | _, hn_z0_0_o0⟩
           ·
            refine brE h ?_ ?_
            ·clear h; intro h1979 h
             obtain rfl := Option.some.inj h
             refine runT tmD [.el (aI .i64 (List.length z0_0_o0 : Int)), .br true] ?_
             refine fin_ret rfl ?_
             exact (cv_tup (Cvs.cons (cv_nils (es := List.map enc_GEntry ([] : List GEntry)) (by simp [*])) (Cvs.cons .sc Cvs.nil)))
            ·clear h; intro h1979 h
             obtain rfl := Option.some.inj h
             refine runT tmD [.el (aI .i64 (List.length z0_0_o0 : Int)), .br false] ?_
             refine fin_ret rfl ?_
             exact (cv_tup (Cvs.cons (cv_ref (es := List.map enc_GEntry z0_0_o0) rfl (by first | rfl | (simp; done) | (simp; rfl) | (simp [h3, h6, h7, h8, h31, h1553, h1979]; done) | (simp [h3, h6, h7, h8, h31, h1553, h1979]; rfl) | (simp [h3, h6, h7, h8, h31, h1553, h1979, List.map_take, List.map_drop]; done) | (simp [h3, h6, h7, h8, h31, h1553, h1979, List.map_take, List.map_drop]; rfl)) (by first | rfl | (simp; done) | (simp; omega) | (simp [h3, h6, h7, h8, h31, h1553, h1979]; done) | (simp [h3, h6, h7, h8, h31, h1553, h1979]; omega)) (flat_map flat_GEntry z0_0_o0)) (Cvs.cons .sc Cvs.nil)))
           ·
            obtain rfl := hn_z0_0_o0 rfl
            refine brE h ?_ ?_
            ·clear h; intro h1980 h
             obtain rfl := Option.some.inj h
             refine runT tmD [.el (aI .i64 (List.length ([] : List GEntry) : Int)), .br true] ?_
             refine fin_ret rfl ?_
             exact (cv_tup (Cvs.cons (cv_nils (es := List.map enc_GEntry ([] : List GEntry)) (by simp [*])) (Cvs.cons .sc Cvs.nil)))
            ·clear h; intro h1980 h
             obtain rfl := Option.some.inj h
             refine runT tmD [.el (aI .i64 (List.length ([] : List GEntry) : Int)), .br false] ?_
             refine fin_ret rfl ?_
             exact (cv_tup (Cvs.cons (cv_nils (es := List.map enc_GEntry ([] : List GEntry)) (by simp [*])) (Cvs.cons .sc Cvs.nil)))
          ·intro z0_1_o0 z0_1_9 nb_z0_1_o0 eo1977; subst eo1977
           refine SemK.glue ?_
           try dsimp only at h
           rcases nb_z0_1_o0 with ⟨_ | _, hn_z0_1_o0⟩
           ·
            obtain rfl := Option.some.inj h
            refine runT tmD [] ?_
            refine fin_ret rfl ?_
            exact (cv_tup (Cvs.cons (cv_ref (es := List.map enc_GEntry z0_1_o0) rfl (by first | rfl | (simp; done) | (simp; rfl) | (simp [h3, h6, h7, h8, h31, h1553]; done) | (simp [h3, h6, h7, h8, h31, h1553]; rfl) | (simp [h3, h6, h7, h8, h31, h1553, List.map_take, List.map_drop]; done) | (simp [h3, h6, h7, h8, h31, h1553, List.map_take, List.map_drop]; rfl)) (by first | rfl | (simp; done) | (simp; omega) | (simp [h3, h6, h7, h8, h31, h1553]; done) | (simp [h3, h6, h7, h8, h31, h1553]; omega)) (flat_map flat_GEntry z0_1_o0)) (Cvs.cons .sc Cvs.nil)))
           ·
            obtain rfl := hn_z0_1_o0 rfl
            obtain rfl := Option.some.inj h
            refine runT tmD [] ?_
            refine fin_ret rfl ?_
            exact (cv_tup (Cvs.cons (cv_nils (es := List.map enc_GEntry ([] : List GEntry)) (by simp [*])) (Cvs.cons .sc Cvs.nil)))
       ·
        obtain rfl := hn_j24_o3 rfl
        refine brE h ?_ ?_
        ·clear h; intro h1981 h
         refine runT tmD [.br true] ?_
         refine SemK.inline tyTab_ok fn81 rfl rfl rfl rfl rfl trivial trivial rfl rfl ?_
         refine bindE h ?_
         clear h; intro v2000 h2001 h
         refine brE h ?_ ?_
         ·clear h; intro h2002 h
          refine run_to tmD 4000 [.pure [(aI .i64 0), (aI .i64 a1.Size)] (aI .i64 v2000), .br true] rfl (by repeat' first | refine And.intro ?_ ?_ | exact (PureCall.none (session_check_ok _ _ _ h2001) (Cvs.cons .sc (Cvs.cons .sc Cvs.nil))) | exact oblA) ?_
          refine SemK.back (by intro id h; cases h) rfl ?_
          obtain rfl := Option.some.inj h
          refine runT tmD [.br true] ?_
          refine fin_ret rfl ?_
          exact (cv_tup (Cvs.cons (cv_nils (es := List.map enc_GEntry ([] : List GEntry)) (by simp [*])) (Cvs.cons .sc Cvs.nil)))
         ·clear h; intro h2002 h
          refine run_to tmD 4000 [.pure [(aI .i64 0), (aI .i64 a1.Size)] (aI .i64 v2000), .br false, .br false] rfl (by repeat' first | refine And.intro ?_ ?_ | exact (PureCall.none (session_check_ok _ _ _ h2001) (Cvs.cons .sc (Cvs.cons .sc Cvs.nil))) | exact oblA) ?_
          refine SemK.round ?_
          refine bindE h ?_
          clear h; intro v2003 h2004 h
          refine brE h ?_ ?_
          ·clear h; intro h2005 h
           refine run_to tmD 4000 [.br true, .el ((aI .i64 a2.Time)), .pure [(aI .i64 a2.Time), (aI .i64 a1.Size)] (aI .i64 v2003), .br true] rfl (by repeat' first | refine And.intro ?_ ?_ | exact (PureCall.none (session_check_ok _ _ _ h2004) (Cvs.cons .sc (Cvs.cons .sc Cvs.nil))) | exact oblA) ?_
           refine SemK.back (by intro id h; cases h) rfl ?_
           obtain rfl := Option.some.inj h
           refine runT tmD [.br true] ?_
           refine fin_ret rfl ?_
           exact (cv_tup (Cvs.cons (cv_nils (es := List.map enc_GEntry ([] : List GEntry)) (by simp [*])) (Cvs.cons .sc Cvs.nil)))
          ·clear h; intro h2005 h
           refine run_to tmD 4000 [.br true, .el ((aI .i64 a2.Time)), .pure [(aI .i64 a2.Time), (aI .i64 a1.Size)] (aI .i64 v2003), .br false, .wrap, .no] rfl (by repeat' first | refine And.intro ?_ ?_ | exact (PureCall.none (session_check_ok _ _ _ h2004) (Cvs.cons .sc (Cvs.cons .sc Cvs.nil))) | exact oblA) ?_
           refine SemK.round ?_
           refine runT tmD [.br false] ?_
           refine SemK.inline tyTab_ok fn112 rfl rfl rfl rfl rfl trivial trivial rfl rfl ?_
           refine runT tmD [] ?_
           refine SemK.inline tyTab_ok fn139 rfl rfl rfl rfl rfl trivial trivial rfl rfl ?_
           refine runT tmD [] ?_
           refine SemK.eqNil tyTab_ok (may := false) rfl rfl rfl rfl rfl rfl trivial rfl fun b2013 qb2013 => ?_
           obtain rfl := qb2013 rfl
           refine runT tmD [.br false, .no] ?_
           refine SemK.back (by intro id h; cases h) rfl ?_
           refine runT tmD [] ?_
           refine SemK.inline tyTab_ok fn140 rfl rfl rfl rfl rfl trivial trivial rfl rfl ?_
           refine bindE h ?_
           clear h; intro v2016 h2017 h
           refine run_to tmD 4000 [.wrap, .pure [(aI .u64 1)] (aI .i64 v2016)] rfl (by repeat' first | refine And.intro ?_ ?_ | exact (PureCall.none (math_bits_Len_ok _ _ h2017) (Cvs.cons .sc Cvs.nil)) | exact oblA) ?_
           refine SemK.inline tyTab_ok fn177 rfl rfl rfl rfl rfl trivial trivial rfl rfl ?_
           refine runT tmD [] ?_
           refine SemK.round ?_
           refine runT tmD [.br true] ?_
           refine SemK.inline tyTab_ok fn200 rfl rfl rfl rfl rfl trivial trivial rfl rfl ?_
           refine runT tmD [] ?_
           refine SemK.round ?_
           refine runT tmD [.br false] ?_
           refine SemK.back (by intro id h; cases h) rfl ?_
           refine runT tmD [] ?_
           refine SemK.back (by intro id h; cases h) rfl ?_
           refine runT tmD [] ?_
           refine SemK.back (by intro id h; cases h) rfl ?_
           refine runT tmD [] ?_
           refine SemK.round ?_
           refine runT tmD [.br true, .el (AV.agg [(aI .i64 a2.Time), (aI .i64 (IntKind.i64.wrap (a2.Time + a1.Size)))]), .go false, .go false, .go false, .go false, .go false, .go false, .go false, .go false, .go false, .go false, .br false, .no] ?_
           refine SemK.round ?_
           refine runT tmD [.br false] ?_
           refine SemK.back (by intro id h; cases h) rfl ?_
           refine runT tmD [] ?_
           refine SemK.back (by intro id h; cases h) rfl ?_
           refine bindE h ?_
           clear h; intro w2499 h2981 h
           obtain ⟨j2499_o0, j2499_75_1⟩ := w2499
           try dsimp only at h
           refine runT tmD [.br false, .el (AV.agg [(aI .i64 a2.Time), (aI .i64 (IntKind.i64.wrap (a2.Time + a1.Size)))])] ?_
           refine SemK.joinOpF (fun (q : Nb j2499_o0) => ⟨fr [(75, (AV.tup [(slE q.1 0 (List.map enc_GEntry j2499_o0)), (aI .i64 j2499_75_1)]))], hp ([] ++ opE q.1 0 11 (List.map enc_GEntry j2499_o0)), 1⟩) ?_ (fun J => ?_)
           ·
            rintro nb_j2499_o0
            rcases nb_j2499_o0 with ⟨_ | _, hn_j2499_o0⟩
            ·
             refine brE h ?_ ?_
             ·clear h; intro h2982 h
              obtain rfl := Option.some.inj h
              refine runT tmD [.br true] ?_
              refine fin_ret rfl ?_
              exact (cv_tup (Cvs.cons (cv_nils (es := List.map enc_GEntry ([] : List GEntry)) (by simp [*])) (Cvs.cons .sc Cvs.nil)))
             ·clear h; intro h2982 h
              refine brE h ?_ ?_
              ·clear h; intro h2983 h
               obtain rfl := Option.some.inj h
               refine runT tmD [.br false, .el (aI .i64 (List.length j2499_o0 : Int)), .br true] ?_
               refine fin_ret rfl ?_
               exact (cv_tup (Cvs.cons (cv_nils (es := List.map enc_GEntry ([] : List GEntry)) (by simp [*])) (Cvs.cons .sc Cvs.nil)))
              ·clear h; intro h2983 h
               obtain rfl := Option.some.inj h
               refine runT tmD [.br false, .el (aI .i64 (List.length j2499_o0 : Int)), .br false] ?_
               refine fin_ret rfl ?_
               exact (cv_tup (Cvs.cons (cv_ref (es := List.map enc_GEntry j2499_o0) rfl (by first | rfl | (simp; done) | (simp; rfl) | (simp [h3, h6, h7, h8, h1981, h2002, h2005, h2982, h2983]; done) | (simp [h3, h6, h7, h8, h1981, h2002, h2005, h2982, h2983]; rfl) | (simp [h3, h6, h7, h8, h1981, h2002, h2005, h2982, h2983, List.map_take, List.map_drop]; done) | (simp [h3, h6, h7, h8, h1981, h2002, h2005, h2982, h2983, List.map_take, List.map_drop]; rfl)) (by first | rfl | (simp; done) | (simp; omega) | (simp [h3, h6, h7, h8, h1981, h2002, h2005, h2982, h2983]; done) | (simp [h3, h6, h7, h8, h1981, h2002, h2005, h2982, h2983]; omega)) (flat_map flat_GEntry j2499_o0)) (Cvs.cons .sc Cvs.nil)))
            ·
             obtain rfl := hn_j2499_o0 rfl
             refine brE h ?_ ?_
             ·clear h; intro h2984 h
              obtain rfl := Option.some.inj h
              refine runT tmD [.br true] ?_
              refine fin_ret rfl ?_
              exact (cv_tup (Cvs.cons (cv_nils (es := List.map enc_GEntry ([] : List GEntry)) (by simp [*])) (Cvs.cons .sc Cvs.nil)))
             ·clear h; intro h2984 h
              refine brE h ?_ ?_
              ·clear h; intro h2985 h
               obtain rfl := Option.some.inj h
               refine runT tmD [.br false, .el (aI .i64 (List.length ([] : List GEntry) : Int)), .br true] ?_
               refine fin_ret rfl ?_
               exact (cv_tup (Cvs.cons (cv_nils (es := List.map enc_GEntry ([] : List GEntry)) (by simp [*])) (Cvs.cons .sc Cvs.nil)))
              ·clear h; intro h2985 h
               obtain rfl := Option.some.inj h
               refine runT tmD [.br false, .el (aI .i64 (List.length ([] : List GEntry) : Int)), .br false] ?_
               refine fin_ret rfl ?_
               exact (cv_tup (Cvs.cons (cv_nils (es := List.map enc_GEntry ([] : List GEntry)) (by simp [*])) (Cvs.cons .sc Cvs.nil)))
           ·
            clear h
            have h := h2981
            refine SemK.inline tyTab_ok fn82 rfl rfl rfl rfl rfl trivial trivial rfl rfl ?_
            refine bindE h ?_
            clear h; intro o2979 h2980 h
            refine runT tmD [] ?_
            refine wkT [(26, 25)] (SemK.cut (store_Add_store_meet_L0_ok _ _ _ (nbT (by first | rfl | simp [*])) _ h2980 ?_))
            ·intro z0_0_o25 z0_0_5 nb_z0_0_o25 eo2979; subst eo2979
             refine SemK.glue ?_
             try dsimp only at h
             rcases nb_z0_0_o25 with ⟨_ | _, hn_z0_0_o25⟩
             ·
              cases h
              refine runT tmD [] ?_
              refine SemK.back (by intro id h; cases h) rfl ?_
              exact wkT [(0, 25)] ((J nbF))
             ·
              obtain rfl := hn_z0_0_o25 rfl
              cases h
              refine runT tmD [] ?_
              refine SemK.back (by intro id h; cases h) rfl ?_
              exact wkT [] ((J (nbT (by first | rfl | simp [*]))))
        ·clear h; intro h1981 h
         refine bindE h ?_
         clear h; intro v2986 h2987 h
         refine brE h ?_ ?_
         ·clear h; intro h2988 h
          obtain rfl := Option.some.inj h
          refine run_to tmD 4000 [.br false, .pure [(enc_GWindow a1), (aI .i64 a2.Time)] (AV.tup [(AV.list true (List.map enc_GSpan v2986.1)), (aI .i64 v2986.2)]), .br true] rfl (by repeat' first | refine And.intro ?_ ?_ | exact (PureCall.none (slide_Of_ok _ _ _ h2987) (Cvs.cons (cvf_GWindow (x := a1)) (Cvs.cons .sc Cvs.nil))) | exact oblA) ?_
          refine fin_ret rfl ?_
          exact (cv_tup (Cvs.cons (cv_nils (es := List.map enc_GEntry ([] : List GEntry)) (by simp [*])) (Cvs.cons .sc Cvs.nil)))
         ·clear h; intro h2988 h
          refine bindE h ?_
          clear h; intro u2989 h2990 h
          have qh2990 := lenOk_le h2990
          refine bindE h ?_
          clear h; intro o3272 h3273 h
          refine run_to tmD 4000 [.br false, .pure [(enc_GWindow a1), (aI .i64 a2.Time)] (AV.tup [(AV.list true (List.map enc_GSpan v2986.1)), (aI .i64 v2986.2)]), .br false, .el (aI .i64 (List.length v2986.1 : Int))] rfl (by repeat' first | refine And.intro ?_ ?_ | exact (PureCall.none (slide_Of_ok _ _ _ h2987) (Cvs.cons (cvf_GWindow (x := a1)) (Cvs.cons .sc Cvs.nil))) | exact oblA) ?_
          refine wkT [(0, 2)] (SemK.cut (store_Add_L0_ok v2986.1 qh2990 v2986.1 0 (by simp) _ _ (nbT (by first | rfl | simp [*])) _ h3273 ?_ ?_))
          ·intro z0_0_o0 nb_z0_0_o0 eo3272; subst eo3272
           refine SemK.glue ?_
           try dsimp only at h
           rcases nb_z0_0_o0 with ⟨_ | _, hn_z0_0_o0⟩
           ·
            refine brE h ?_ ?_
            ·clear h; intro h3274 h
             obtain rfl := Option.some.inj h
             refine runT tmD [.el (aI .i64 (List.length z0_0_o0 : Int)), .br true] ?_
             refine fin_ret rfl ?_
             exact (cv_tup (Cvs.cons (cv_nils (es := List.map enc_GEntry ([] : List GEntry)) (by simp [*])) (Cvs.cons .sc Cvs.nil)))
            ·clear h; intro h3274 h
             obtain rfl := Option.some.inj h
             refine runT tmD [.el (aI .i64 (List.length z0_0_o0 : Int)), .br false] ?_
             refine fin_ret rfl ?_
             exact (cv_tup (Cvs.cons (cv_ref (es := List.map enc_GEntry z0_0_o0) rfl (by first | rfl | (simp; done) | (simp; rfl) | (simp [h3, h6, h7, h8, h1981, h2988, h3274]; done) | (simp [h3, h6, h7, h8, h1981, h2988, h3274]; rfl) | (simp [h3, h6, h7, h8, h1981, h2988, h3274, List.map_take, List.map_drop]; done) | (simp [h3, h6, h7, h8, h1981, h2988, h3274, List.map_take, List.map_drop]; rfl)) (by first | rfl | (simp; done) | (simp; omega) | (simp [h3, h6, h7, h8, h1981, h2988, h3274]; done) | (simp [h3, h6, h7, h8, h1981, h2988, h3274]; omega)) (flat_map flat_GEntry z0_0_o0)) (Cvs.cons .sc Cvs.nil)))
           ·
            obtain rfl := hn_z0_0_o0 rfl
            refine brE h ?_ ?_
            ·clear h; intro h3275 h
             obtain rfl := Option.some.inj h
             refine runT tmD [.el (aI .i64 (List.length ([] : List GEntry) : Int)), .br true] ?_
             refine fin_ret rfl ?_
             exact (cv_tup (Cvs.cons (cv_nils (es := List.map enc_GEntry ([] : List GEntry)) (by simp [*])) (Cvs.cons .sc Cvs.nil)))
            ·clear h; intro h3275 h
             obtain rfl := Option.some.inj h
             refine runT tmD [.el (aI .i64 (List.length ([] : List GEntry) : Int)), .br false] ?_
             refine fin_ret rfl ?_
             exact (cv_tup (Cvs.cons (cv_nils (es := List.map enc_GEntry ([] : List GEntry)) (by simp [*])) (Cvs.cons .sc Cvs.nil)))
          ·intro z0_1_o0 z0_1_9 nb_z0_1_o0 eo3272; subst eo3272
           refine SemK.glue ?_
           try dsimp only at h
           rcases nb_z0_1_o0 with ⟨_ | _, hn_z0_1_o0⟩
           ·
            obtain rfl := Option.some.inj h
            refine runT tmD [] ?_
            refine fin_ret rfl ?_
            exact (cv_tup (Cvs.cons (cv_ref (es := List.map enc_GEntry z0_1_o0) rfl (by first | rfl | (simp; done) | (simp; rfl) | (simp [h3, h6, h7, h8, h1981, h2988]; done) | (simp [h3, h6, h7, h8, h1981, h2988]; rfl) | (simp [h3, h6, h7, h8, h1981, h2988, List.map_take, List.map_drop]; done) | (simp [h3, h6, h7, h8, h1981, h2988, List.map_take, List.map_drop]; rfl)) (by first | rfl | (simp; done) | (simp; omega) | (simp [h3, h6, h7, h8, h1981, h2988]; done) | (simp [h3, h6, h7, h8, h1981, h2988]; omega)) (flat_map flat_GEntry z0_1_o0)) (Cvs.cons .sc Cvs.nil)))
           ·
            obtain rfl := hn_z0_1_o0 rfl
            obtain rfl := Option.some.inj h
            refine runT tmD [] ?_
            refine fin_ret rfl ?_
            exact (cv_tup (Cvs.cons (cv_nils (es := List.map enc_GEntry ([] : List GEntry)) (by simp [*])) (Cvs.cons .sc Cvs.nil)))
      ·
       clear h
       have h := h30
       refine SemK.inline tyTab_ok fn80 rfl rfl rfl rfl rfl trivial trivial rfl rfl ?_
       refine brE h ?_ ?_
       ·clear h; intro q h
        have h25 : a0 = [] := List.isEmpty_iff.1 q
        refine runT tmD [] ?_
        refine SemK.eqNil tyTab_ok (may := true) rfl rfl rfl rfl rfl rfl trivial (by simp [nilMay, *]) fun b26 qb26 => ?_
        cases b26
        ·
         obtain rfl := Option.some.inj h
         refine runT tmD [.br false, .ne false] ?_
         refine SemK.back (by intro id h; cases h) rfl ?_
         exact wkT [] ((J (nbT (by first | rfl | simp [*]))))
        ·
         obtain rfl := Option.some.inj h
         refine runT tmD [.br true] ?_
         refine SemK.back (by intro id h; cases h) rfl ?_
         exact wkT [] ((J (nbT (by first | rfl | simp [*]))))
       ·clear h; intro q h
        have h25 : ¬ (a0 = []) := (fun e => by rw [e] at q; cases q)
        refine runT tmD [] ?_
        refine SemK.eqNil tyTab_ok (may := false) rfl rfl rfl rfl rfl rfl trivial (by simp [nilMay, *]) fun b27 qb27 => ?_
        obtain rfl := qb27 rfl
        refine bindE h ?_
        clear h; intro u28 h29 h
        obtain rfl := Option.some.inj h
        refine run_to tmD 4000 [.br false, .via (AV.list true (List.map enc_GEntry a0))] rfl (by repeat' first | refine And.intro ?_ ?_ | (refine capLe h29 rfl ?_; first | (simp; done) | (simp; omega) | (simp [h3, h6, h7, h8, h25]; done) | (simp [h3, h6, h7, h8, h25]; omega)) | (refine capMax h29 (by decide) ?_; first | (simp; done) | (simp; omega) | (simp [h3, h6, h7, h8, h25]; done) | (simp [h3, h6, h7, h8, h25]; omega)) | exact oblA) ?_
        refine SemK.back (by intro id h; cases h) rfl ?_
        exact wkT [(3, 4)] ((J nbF))
     ·
      clear h
      have h := h18
      refine bindE h ?_
      clear h; intro v14 h15 h
      refine brE h ?_ ?_
      ·clear h; intro h16 h
       obtain rfl := Option.some.inj h
       refine run_to tmD 4000 [.pure [(aI .i64 a2.Value)] (enc_GAccum v14), .ix 0] rfl (by repeat' first | refine And.intro ?_ ?_ | exact (PureCall.none (store_Check_ok _ _ h2) (Cvs.cons (cv_list (flat_map flat_GEntry a0)) Cvs.nil)) | exact (PureCall.none (clauses_Window_ok _ _ h5) (Cvs.cons (cvf_GWindow (x := a1)) Cvs.nil)) | exact (PureCall.none (accums_Of_ok _ _ h15) (Cvs.cons .sc Cvs.nil)) | exact ((eq_of_beq h16)) | exact oblA) ?_
       exact wkT [] (SemK.glue J)
      ·clear h; intro h16 h
       refine brE h ?_ ?_
       ·clear h; intro h17 h
        obtain rfl := Option.some.inj h
        refine run_to tmD 4000 [.pure [(aI .i64 a2.Value)] (enc_GAccum v14), .ix 1] rfl (by repeat' first | refine And.intro ?_ ?_ | exact (PureCall.none (store_Check_ok _ _ h2) (Cvs.cons (cv_list (flat_map flat_GEntry a0)) Cvs.nil)) | exact (PureCall.none (clauses_Window_ok _ _ h5) (Cvs.cons (cvf_GWindow (x := a1)) Cvs.nil)) | exact (PureCall.none (accums_Of_ok _ _ h15) (Cvs.cons .sc Cvs.nil)) | exact ((eq_of_beq h17)) | exact oblA) ?_
        exact wkT [] (SemK.glue J)
       ·clear h; intro h17 h
        cases h
end Go.Av.Tryz
