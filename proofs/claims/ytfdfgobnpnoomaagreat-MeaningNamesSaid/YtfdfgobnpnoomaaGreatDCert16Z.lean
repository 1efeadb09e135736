/- Printed by decomp.py: that the program computes the functions. -/
import Derived.Test.YtfdfgobnpnoomaaGreatDCert15Z
set_option linter.all false
set_option linter.unusedVariables false
namespace Go.Av.Tryz
open Go.Proofs Go.D
set_option maxRecDepth 10000
set_option maxHeartbeats 4000000

theorem meaning_All_ok (a0 : GQuery) (a1 : (List (List GEvent))) (r : (List GRow) × (List GRecord) × Int) (h : meaning_All a0 a1 = some r) : Pure Tryz.prog 19 [(enc_GQuery false a0), (AV.list false (List.map (encl false enc_GEvent) a1))] (AV.tup [(AV.list true (List.map enc_GRow r.1)), (AV.list true (List.map enc_GRecord r.2.1)), (aI .i64 r.2.2)]) := by
 refine Pure.sym tyTab_ok fn19 (nt := 119) rfl rfl ?_ (allCons (free_GQuery false _ _).1 (allCons .list allNil))
 unfold meaning_All at h
 refine bindE h ?_
 clear h; intro v1 h2 h
 refine brE h ?_ ?_
 ·clear h; intro h3 h
  obtain rfl := Option.some.inj h
  refine run_to tmD 4000 [.pure [(enc_GQuery false a0)] (AV.tup [(aI .i64 v1.1), (aI .i64 v1.2)]), .br true] rfl (by repeat' first | refine And.intro ?_ ?_ | exact (PureCall.none (checks_Check_ok _ _ h2) (Cvs.cons (cv_agg (Cvs.cons .sc (Cvs.cons (cv_list (flat_map flat_GNode a0.Arg)) (Cvs.cons (cv_list (flat_map (fun _ => flatSc) a0.Sources)) (Cvs.cons .sc (Cvs.cons (cv_list (flat_map flat_GNode a0.Where)) (Cvs.cons .sc (Cvs.cons .sc (Cvs.cons .sc (Cvs.cons .sc (Cvs.cons .sc Cvs.nil))))))))))) Cvs.nil)) | exact oblA) ?_
  refine fin_ret rfl ?_
  exact (cv_tup (Cvs.cons (cv_nils (es := List.map enc_GRow ([] : List GRow)) (by simp [*])) (Cvs.cons (cv_nils (es := List.map enc_GRecord ([] : List GRecord)) (by simp [*])) (Cvs.cons .sc Cvs.nil))))
 ·clear h; intro h3 h
  refine run_to tmD 4000 [.pure [(enc_GQuery false a0)] (AV.tup [(aI .i64 v1.1), (aI .i64 v1.2)]), .br false, .el (aI .i64 (List.length a1 : Int)), .el (aI .i64 (List.length a0.Sources : Int))] rfl (by repeat' first | refine And.intro ?_ ?_ | exact (PureCall.none (checks_Check_ok _ _ h2) (Cvs.cons (cv_agg (Cvs.cons .sc (Cvs.cons (cv_list (flat_map flat_GNode a0.Arg)) (Cvs.cons (cv_list (flat_map (fun _ => flatSc) a0.Sources)) (Cvs.cons .sc (Cvs.cons (cv_list (flat_map flat_GNode a0.Where)) (Cvs.cons .sc (Cvs.cons .sc (Cvs.cons .sc (Cvs.cons .sc (Cvs.cons .sc Cvs.nil))))))))))) Cvs.nil)) | exact oblA) ?_
  refine brE h ?_ ?_
  ·clear h; intro h4 h
   obtain rfl := Option.some.inj h
   refine runT tmD [.br true] ?_
   refine fin_ret rfl ?_
   exact (cv_tup (Cvs.cons (cv_nils (es := List.map enc_GRow ([] : List GRow)) (by simp [*])) (Cvs.cons (cv_nils (es := List.map enc_GRecord ([] : List GRecord)) (by simp [*])) (Cvs.cons .sc Cvs.nil))))
  ·clear h; intro h4 h
   refine bindE h ?_
   clear h; intro v5 h6 h
   refine brE h ?_ ?_
   ·clear h; intro h7 h
    obtain rfl := Option.some.inj h
    refine run_to tmD 4000 [.br false, .pure [(AV.list false (List.map (encl false enc_GEvent) a1))] (aI .i64 v5), .br true] rfl (by repeat' first | refine And.intro ?_ ?_ | exact (PureCall.none (meaning_events_ok _ _ h6) (Cvs.cons (cv_lmap (fun _ => rfl) (fun x => cv_cells (cv_list (flat_map flat_GEvent _))) a1) Cvs.nil)) | exact oblA) ?_
    refine fin_ret rfl ?_
    exact (cv_tup (Cvs.cons (cv_nils (es := List.map enc_GRow ([] : List GRow)) (by simp [*])) (Cvs.cons (cv_nils (es := List.map enc_GRecord ([] : List GRecord)) (by simp [*])) (Cvs.cons .sc Cvs.nil))))
   ·clear h; intro h7 h
    refine run_to tmD 4000 [.br false, .pure [(AV.list false (List.map (encl false enc_GEvent) a1))] (aI .i64 v5), .br false, .el (aI .i64 (List.length a1 : Int))] rfl (by repeat' first | refine And.intro ?_ ?_ | exact (PureCall.none (meaning_events_ok _ _ h6) (Cvs.cons (cv_lmap (fun _ => rfl) (fun x => cv_cells (cv_list (flat_map flat_GEvent _))) a1) Cvs.nil)) | exact oblA) ?_
    refine SemK.nilsList 10 true rfl ?_
    refine bindE h ?_
    clear h; intro u8 h9 h
    have qh9 := lenOk_le h9
    refine bindE h ?_
    clear h; intro o647 h648 h
    refine runT tmD [] ?_
    refine wkT [] (SemK.cut (meaning_All_L0_ok a0 a1 qh9 a1 0 (by simp) _ _ (nbT (by first | rfl | simp [*])) _ h648 ?_ ?_))
    ·intro z0_0_10 z0_0_o1 nb_z0_0_o1 eo647; subst eo647
     refine SemK.glue ?_
     try dsimp only at h
     rcases nb_z0_0_o1 with ⟨_ | _, hn_z0_0_o1⟩
     ·
      refine bindE h ?_
      clear h; intro u649 h650 h
      have qh650 := lenOk_le h650
      refine bindE h ?_
      clear h; intro o772 h773 h
      refine runT tmD [.el (aI .i64 (List.length z0_0_10 : Int))] ?_
      refine wkT [] (SemK.cut (meaning_All_L2_ok a0 z0_0_o1 z0_0_10 nbF qh650 z0_0_10 0 (by simp) _ (nbT (by first | rfl | simp [*])) _ h773 ?_))
      ·intro z2_0_o1 z2_0_o2 nb_z2_0_o1 nb_z2_0_o2 eo772; subst eo772
       refine SemK.glue ?_
       try dsimp only at h
       rcases nb_z2_0_o1 with ⟨_ | _, hn_z2_0_o1⟩
       ·
        rcases nb_z2_0_o2 with ⟨_ | _, hn_z2_0_o2⟩
        ·
         refine bindE h ?_
         clear h; intro j775_o0 h777 h
         refine runT tmD [] ?_
         refine SemK.joinF (fun (q : Nb j775_o0) => ⟨fr [(11, (slE q.1 0 (List.map enc_GRecord j775_o0))), (22, (AV.ref 1 0 (List.length z2_0_o2)))], hp ([(1, { es := List.map enc_GRow z2_0_o2, esz := 5 })] ++ opE q.1 0 3 (List.map enc_GRecord j775_o0)), 2⟩) ?_ (fun J => SemK.cut ?_)
         ·
          rintro nb_j775_o0
          rcases nb_j775_o0 with ⟨_ | _, hn_j775_o0⟩
          ·
           obtain rfl := Option.some.inj h
           refine runT tmD [] ?_
           refine fin_ret rfl ?_
           exact (cv_tup (Cvs.cons (cv_ref (es := List.map enc_GRow z2_0_o2) rfl (by first | rfl | (simp; done) | (simp; rfl) | (simp [h3, h4, h7]; done) | (simp [h3, h4, h7]; rfl) | (simp [h3, h4, h7, List.map_take, List.map_drop]; done) | (simp [h3, h4, h7, List.map_take, List.map_drop]; rfl)) (by first | rfl | (simp; done) | (simp; omega) | (simp [h3, h4, h7]; done) | (simp [h3, h4, h7]; omega)) (flat_map flat_GRow z2_0_o2)) (Cvs.cons (cv_ref (es := List.map enc_GRecord j775_o0) rfl (by first | rfl | (simp; done) | (simp; rfl) | (simp [h3, h4, h7]; done) | (simp [h3, h4, h7]; rfl) | (simp [h3, h4, h7, List.map_take, List.map_drop]; done) | (simp [h3, h4, h7, List.map_take, List.map_drop]; rfl)) (by first | rfl | (simp; done) | (simp; omega) | (simp [h3, h4, h7]; done) | (simp [h3, h4, h7]; omega)) (flat_map flat_GRecord j775_o0)) (Cvs.cons .sc Cvs.nil))))
          ·
           obtain rfl := hn_j775_o0 rfl
           obtain rfl := Option.some.inj h
           refine runT tmD [] ?_
           refine fin_ret rfl ?_
           exact (cv_tup (Cvs.cons (cv_ref (es := List.map enc_GRow z2_0_o2) rfl (by first | rfl | (simp; done) | (simp; rfl) | (simp [h3, h4, h7]; done) | (simp [h3, h4, h7]; rfl) | (simp [h3, h4, h7, List.map_take, List.map_drop]; done) | (simp [h3, h4, h7, List.map_take, List.map_drop]; rfl)) (by first | rfl | (simp; done) | (simp; omega) | (simp [h3, h4, h7]; done) | (simp [h3, h4, h7]; omega)) (flat_map flat_GRow z2_0_o2)) (Cvs.cons (cv_nils (es := List.map enc_GRecord ([] : List GRecord)) (by simp [*])) (Cvs.cons .sc Cvs.nil))))
         ·
          clear h
          have h := h777
          refine brE h ?_ ?_
          ·clear h; intro h776 h
           obtain rfl := Option.some.inj h
           refine runT tmD [.br true] ?_
           exact wkT [(1, 2)] (SemK.glue (J (nbT (by first | rfl | simp [*]))))
          ·clear h; intro h776 h
           obtain rfl := Option.some.inj h
           refine runT tmD [.br false] ?_
           exact wkT [(0, 1), (1, 2)] (SemK.glue (J nbF))
        ·
         obtain rfl := hn_z2_0_o2 rfl
         refine bindE h ?_
         clear h; intro j779_o0 h781 h
         refine runT tmD [] ?_
         refine SemK.joinF (fun (q : Nb j779_o0) => ⟨fr [(11, (slE q.1 0 (List.map enc_GRecord j779_o0))), (22, AV.nils)], hp ([] ++ opE q.1 0 3 (List.map enc_GRecord j779_o0)), 2⟩) ?_ (fun J => SemK.cut ?_)
         ·
          rintro nb_j779_o0
          rcases nb_j779_o0 with ⟨_ | _, hn_j779_o0⟩
          ·
           obtain rfl := Option.some.inj h
           refine runT tmD [] ?_
           refine fin_ret rfl ?_
           exact (cv_tup (Cvs.cons (cv_nils (es := List.map enc_GRow ([] : List GRow)) (by simp [*])) (Cvs.cons (cv_ref (es := List.map enc_GRecord j779_o0) rfl (by first | rfl | (simp; done) | (simp; rfl) | (simp [h3, h4, h7]; done) | (simp [h3, h4, h7]; rfl) | (simp [h3, h4, h7, List.map_take, List.map_drop]; done) | (simp [h3, h4, h7, List.map_take, List.map_drop]; rfl)) (by first | rfl | (simp; done) | (simp; omega) | (simp [h3, h4, h7]; done) | (simp [h3, h4, h7]; omega)) (flat_map flat_GRecord j779_o0)) (Cvs.cons .sc Cvs.nil))))
          ·
           obtain rfl := hn_j779_o0 rfl
           obtain rfl := Option.some.inj h
           refine runT tmD [] ?_
           refine fin_ret rfl ?_
           exact (cv_tup (Cvs.cons (cv_nils (es := List.map enc_GRow ([] : List GRow)) (by simp [*])) (Cvs.cons (cv_nils (es := List.map enc_GRecord ([] : List GRecord)) (by simp [*])) (Cvs.cons .sc Cvs.nil))))
         ·
          clear h
          have h := h781
          refine brE h ?_ ?_
          ·clear h; intro h780 h
           obtain rfl := Option.some.inj h
           refine runT tmD [.br true] ?_
           exact wkT [] (SemK.glue (J (nbT (by first | rfl | simp [*]))))
          ·clear h; intro h780 h
           obtain rfl := Option.some.inj h
           refine runT tmD [.br false] ?_
           exact wkT [(0, 1)] (SemK.glue (J nbF))
       ·
        obtain rfl := hn_z2_0_o1 rfl
        rcases nb_z2_0_o2 with ⟨_ | _, hn_z2_0_o2⟩
        ·
         refine bindE h ?_
         clear h; intro j783_o0 h785 h
         refine runT tmD [] ?_
         refine SemK.joinF (fun (q : Nb j783_o0) => ⟨fr [(11, (slE q.1 0 (List.map enc_GRecord j783_o0))), (22, (AV.ref 1 0 (List.length z2_0_o2)))], hp ([(1, { es := List.map enc_GRow z2_0_o2, esz := 5 })] ++ opE q.1 0 3 (List.map enc_GRecord j783_o0)), 2⟩) ?_ (fun J => SemK.cut ?_)
         ·
          rintro nb_j783_o0
          rcases nb_j783_o0 with ⟨_ | _, hn_j783_o0⟩
          ·
           obtain rfl := Option.some.inj h
           refine runT tmD [] ?_
           refine fin_ret rfl ?_
           exact (cv_tup (Cvs.cons (cv_ref (es := List.map enc_GRow z2_0_o2) rfl (by first | rfl | (simp; done) | (simp; rfl) | (simp [h3, h4, h7]; done) | (simp [h3, h4, h7]; rfl) | (simp [h3, h4, h7, List.map_take, List.map_drop]; done) | (simp [h3, h4, h7, List.map_take, List.map_drop]; rfl)) (by first | rfl | (simp; done) | (simp; omega) | (simp [h3, h4, h7]; done) | (simp [h3, h4, h7]; omega)) (flat_map flat_GRow z2_0_o2)) (Cvs.cons (cv_ref (es := List.map enc_GRecord j783_o0) rfl (by first | rfl | (simp; done) | (simp; rfl) | (simp [h3, h4, h7]; done) | (simp [h3, h4, h7]; rfl) | (simp [h3, h4, h7, List.map_take, List.map_drop]; done) | (simp [h3, h4, h7, List.map_take, List.map_drop]; rfl)) (by first | rfl | (simp; done) | (simp; omega) | (simp [h3, h4, h7]; done) | (simp [h3, h4, h7]; omega)) (flat_map flat_GRecord j783_o0)) (Cvs.cons .sc Cvs.nil))))
          ·
           obtain rfl := hn_j783_o0 rfl
           obtain rfl := Option.some.inj h
           refine runT tmD [] ?_
           refine fin_ret rfl ?_
           exact (cv_tup (Cvs.cons (cv_ref (es := List.map enc_GRow z2_0_o2) rfl (by first | rfl | (simp; done) | (simp; rfl) | (simp [h3, h4, h7]; done) | (simp [h3, h4, h7]; rfl) | (simp [h3, h4, h7, List.map_take, List.map_drop]; done) | (simp [h3, h4, h7, List.map_take, List.map_drop]; rfl)) (by first | rfl | (simp; done) | (simp; omega) | (simp [h3, h4, h7]; done) | (simp [h3, h4, h7]; omega)) (flat_map flat_GRow z2_0_o2)) (Cvs.cons (cv_nils (es := List.map enc_GRecord ([] : List GRecord)) (by simp [*])) (Cvs.cons .sc Cvs.nil))))
         ·
          clear h
          have h := h785
          refine brE h ?_ ?_
          ·clear h; intro h784 h
           obtain rfl := Option.some.inj h
           refine runT tmD [.br true] ?_
           exact wkT [(1, 2)] (SemK.glue (J (nbT (by first | rfl | simp [*]))))
          ·clear h; intro h784 h
           obtain rfl := Option.some.inj h
           refine runT tmD [.br false] ?_
           exact wkT [(1, 2)] (SemK.glue (J (nbT (by first | rfl | simp [*]))))
        ·
         obtain rfl := hn_z2_0_o2 rfl
         refine bindE h ?_
         clear h; intro j787_o0 h789 h
         refine runT tmD [] ?_
         refine SemK.joinF (fun (q : Nb j787_o0) => ⟨fr [(11, (slE q.1 0 (List.map enc_GRecord j787_o0))), (22, AV.nils)], hp ([] ++ opE q.1 0 3 (List.map enc_GRecord j787_o0)), 2⟩) ?_ (fun J => SemK.cut ?_)
         ·
          rintro nb_j787_o0
          rcases nb_j787_o0 with ⟨_ | _, hn_j787_o0⟩
          ·
           obtain rfl := Option.some.inj h
           refine runT tmD [] ?_
           refine fin_ret rfl ?_
           exact (cv_tup (Cvs.cons (cv_nils (es := List.map enc_GRow ([] : List GRow)) (by simp [*])) (Cvs.cons (cv_ref (es := List.map enc_GRecord j787_o0) rfl (by first | rfl | (simp; done) | (simp; rfl) | (simp [h3, h4, h7]; done) | (simp [h3, h4, h7]; rfl) | (simp [h3, h4, h7, List.map_take, List.map_drop]; done) | (simp [h3, h4, h7, List.map_take, List.map_drop]; rfl)) (by first | rfl | (simp; done) | (simp; omega) | (simp [h3, h4, h7]; done) | (simp [h3, h4, h7]; omega)) (flat_map flat_GRecord j787_o0)) (Cvs.cons .sc Cvs.nil))))
          ·
           obtain rfl := hn_j787_o0 rfl
           obtain rfl := Option.some.inj h
           refine runT tmD [] ?_
           refine fin_ret rfl ?_
           exact (cv_tup (Cvs.cons (cv_nils (es := List.map enc_GRow ([] : List GRow)) (by simp [*])) (Cvs.cons (cv_nils (es := List.map enc_GRecord ([] : List GRecord)) (by simp [*])) (Cvs.cons .sc Cvs.nil))))
         ·
          clear h
          have h := h789
          refine brE h ?_ ?_
          ·clear h; intro h788 h
           obtain rfl := Option.some.inj h
           refine runT tmD [.br true] ?_
           exact wkT [] (SemK.glue (J (nbT (by first | rfl | simp [*]))))
          ·clear h; intro h788 h
           obtain rfl := Option.some.inj h
           refine runT tmD [.br false] ?_
           exact wkT [] (SemK.glue (J (nbT (by first | rfl | simp [*]))))
     ·
      obtain rfl := hn_z0_0_o1 rfl
      refine bindE h ?_
      clear h; intro u790 h791 h
      have qh791 := lenOk_le h791
      refine bindE h ?_
      clear h; intro o873 h874 h
      refine runT tmD [.el (aI .i64 (List.length z0_0_10 : Int))] ?_
      refine wkT [] (SemK.cut (meaning_All_L2_ok a0 ([] : List GRecord) z0_0_10 (nbT (by first | rfl | simp [*])) qh791 z0_0_10 0 (by simp) _ (nbT (by first | rfl | simp [*])) _ h874 ?_))
      ·intro z2_0_o1 z2_0_o2 nb_z2_0_o1 nb_z2_0_o2 eo873; subst eo873
       refine SemK.glue ?_
       try dsimp only at h
       rcases nb_z2_0_o1 with ⟨_ | _, hn_z2_0_o1⟩
       ·
        rcases nb_z2_0_o2 with ⟨_ | _, hn_z2_0_o2⟩
        ·
         refine bindE h ?_
         clear h; intro j876_o0 h878 h
         refine runT tmD [] ?_
         refine SemK.joinF (fun (q : Nb j876_o0) => ⟨fr [(11, (slE q.1 0 (List.map enc_GRecord j876_o0))), (22, (AV.ref 1 0 (List.length z2_0_o2)))], hp ([(1, { es := List.map enc_GRow z2_0_o2, esz := 5 })] ++ opE q.1 0 3 (List.map enc_GRecord j876_o0)), 2⟩) ?_ (fun J => SemK.cut ?_)
         ·
          rintro nb_j876_o0
          rcases nb_j876_o0 with ⟨_ | _, hn_j876_o0⟩
          ·
           obtain rfl := Option.some.inj h
           refine runT tmD [] ?_
           refine fin_ret rfl ?_
           exact (cv_tup (Cvs.cons (cv_ref (es := List.map enc_GRow z2_0_o2) rfl (by first | rfl | (simp; done) | (simp; rfl) | (simp [h3, h4, h7]; done) | (simp [h3, h4, h7]; rfl) | (simp [h3, h4, h7, List.map_take, List.map_drop]; done) | (simp [h3, h4, h7, List.map_take, List.map_drop]; rfl)) (by first | rfl | (simp; done) | (simp; omega) | (simp [h3, h4, h7]; done) | (simp [h3, h4, h7]; omega)) (flat_map flat_GRow z2_0_o2)) (Cvs.cons (cv_ref (es := List.map enc_GRecord j876_o0) rfl (by first | rfl | (simp; done) | (simp; rfl) | (simp [h3, h4, h7]; done) | (simp [h3, h4, h7]; rfl) | (simp [h3, h4, h7, List.map_take, List.map_drop]; done) | (simp [h3, h4, h7, List.map_take, List.map_drop]; rfl)) (by first | rfl | (simp; done) | (simp; omega) | (simp [h3, h4, h7]; done) | (simp [h3, h4, h7]; omega)) (flat_map flat_GRecord j876_o0)) (Cvs.cons .sc Cvs.nil))))
          ·
           obtain rfl := hn_j876_o0 rfl
           obtain rfl := Option.some.inj h
           refine runT tmD [] ?_
           refine fin_ret rfl ?_
           exact (cv_tup (Cvs.cons (cv_ref (es := List.map enc_GRow z2_0_o2) rfl (by first | rfl | (simp; done) | (simp; rfl) | (simp [h3, h4, h7]; done) | (simp [h3, h4, h7]; rfl) | (simp [h3, h4, h7, List.map_take, List.map_drop]; done) | (simp [h3, h4, h7, List.map_take, List.map_drop]; rfl)) (by first | rfl | (simp; done) | (simp; omega) | (simp [h3, h4, h7]; done) | (simp [h3, h4, h7]; omega)) (flat_map flat_GRow z2_0_o2)) (Cvs.cons (cv_nils (es := List.map enc_GRecord ([] : List GRecord)) (by simp [*])) (Cvs.cons .sc Cvs.nil))))
         ·
          clear h
          have h := h878
          refine brE h ?_ ?_
          ·clear h; intro h877 h
           obtain rfl := Option.some.inj h
           refine runT tmD [.br true] ?_
           exact wkT [(1, 2)] (SemK.glue (J (nbT (by first | rfl | simp [*]))))
          ·clear h; intro h877 h
           obtain rfl := Option.some.inj h
           refine runT tmD [.br false] ?_
           exact wkT [(0, 1), (1, 2)] (SemK.glue (J nbF))
        ·
         obtain rfl := hn_z2_0_o2 rfl
         refine bindE h ?_
         clear h; intro j880_o0 h882 h
         refine runT tmD [] ?_
         refine SemK.joinF (fun (q : Nb j880_o0) => ⟨fr [(11, (slE q.1 0 (List.map enc_GRecord j880_o0))), (22, AV.nils)], hp ([] ++ opE q.1 0 3 (List.map enc_GRecord j880_o0)), 2⟩) ?_ (fun J => SemK.cut ?_)
         ·
          rintro nb_j880_o0
          rcases nb_j880_o0 with ⟨_ | _, hn_j880_o0⟩
          ·
           obtain rfl := Option.some.inj h
           refine runT tmD [] ?_
           refine fin_ret rfl ?_
           exact (cv_tup (Cvs.cons (cv_nils (es := List.map enc_GRow ([] : List GRow)) (by simp [*])) (Cvs.cons (cv_ref (es := List.map enc_GRecord j880_o0) rfl (by first | rfl | (simp; done) | (simp; rfl) | (simp [h3, h4, h7]; done) | (simp [h3, h4, h7]; rfl) | (simp [h3, h4, h7, List.map_take, List.map_drop]; done) | (simp [h3, h4, h7, List.map_take, List.map_drop]; rfl)) (by first | rfl | (simp; done) | (simp; omega) | (simp [h3, h4, h7]; done) | (simp [h3, h4, h7]; omega)) (flat_map flat_GRecord j880_o0)) (Cvs.cons .sc Cvs.nil))))
          ·
           obtain rfl := hn_j880_o0 rfl
           obtain rfl := Option.some.inj h
           refine runT tmD [] ?_
           refine fin_ret rfl ?_
           exact (cv_tup (Cvs.cons (cv_nils (es := List.map enc_GRow ([] : List GRow)) (by simp [*])) (Cvs.cons (cv_nils (es := List.map enc_GRecord ([] : List GRecord)) (by simp [*])) (Cvs.cons .sc Cvs.nil))))
         ·
          clear h
          have h := h882
          refine brE h ?_ ?_
          ·clear h; intro h881 h
           obtain rfl := Option.some.inj h
           refine runT tmD [.br true] ?_
           exact wkT [] (SemK.glue (J (nbT (by first | rfl | simp [*]))))
          ·clear h; intro h881 h
           obtain rfl := Option.some.inj h
           refine runT tmD [.br false] ?_
           exact wkT [(0, 1)] (SemK.glue (J nbF))
       ·
        obtain rfl := hn_z2_0_o1 rfl
        rcases nb_z2_0_o2 with ⟨_ | _, hn_z2_0_o2⟩
        ·
         refine bindE h ?_
         clear h; intro j884_o0 h886 h
         refine runT tmD [] ?_
         refine SemK.joinF (fun (q : Nb j884_o0) => ⟨fr [(11, (slE q.1 0 (List.map enc_GRecord j884_o0))), (22, (AV.ref 1 0 (List.length z2_0_o2)))], hp ([(1, { es := List.map enc_GRow z2_0_o2, esz := 5 })] ++ opE q.1 0 3 (List.map enc_GRecord j884_o0)), 2⟩) ?_ (fun J => SemK.cut ?_)
         ·
          rintro nb_j884_o0
          rcases nb_j884_o0 with ⟨_ | _, hn_j884_o0⟩
          ·
           obtain rfl := Option.some.inj h
           refine runT tmD [] ?_
           refine fin_ret rfl ?_
           exact (cv_tup (Cvs.cons (cv_ref (es := List.map enc_GRow z2_0_o2) rfl (by first | rfl | (simp; done) | (simp; rfl) | (simp [h3, h4, h7]; done) | (simp [h3, h4, h7]; rfl) | (simp [h3, h4, h7, List.map_take, List.map_drop]; done) | (simp [h3, h4, h7, List.map_take, List.map_drop]; rfl)) (by first | rfl | (simp; done) | (simp; omega) | (simp [h3, h4, h7]; done) | (simp [h3, h4, h7]; omega)) (flat_map flat_GRow z2_0_o2)) (Cvs.cons (cv_ref (es := List.map enc_GRecord j884_o0) rfl (by first | rfl | (simp; done) | (simp; rfl) | (simp [h3, h4, h7]; done) | (simp [h3, h4, h7]; rfl) | (simp [h3, h4, h7, List.map_take, List.map_drop]; done) | (simp [h3, h4, h7, List.map_take, List.map_drop]; rfl)) (by first | rfl | (simp; done) | (simp; omega) | (simp [h3, h4, h7]; done) | (simp [h3, h4, h7]; omega)) (flat_map flat_GRecord j884_o0)) (Cvs.cons .sc Cvs.nil))))
          ·
           obtain rfl := hn_j884_o0 rfl
           obtain rfl := Option.some.inj h
           refine runT tmD [] ?_
           refine fin_ret rfl ?_
           exact (cv_tup (Cvs.cons (cv_ref (es := List.map enc_GRow z2_0_o2) rfl (by first | rfl | (simp; done) | (simp; rfl) | (simp [h3, h4, h7]; done) | (simp [h3, h4, h7]; rfl) | (simp [h3, h4, h7, List.map_take, List.map_drop]; done) | (simp [h3, h4, h7, List.map_take, List.map_drop]; rfl)) (by first | rfl | (simp; done) | (simp; omega) | (simp [h3, h4, h7]; done) | (simp [h3, h4, h7]; omega)) (flat_map flat_GRow z2_0_o2)) (Cvs.cons (cv_nils (es := List.map enc_GRecord ([] : List GRecord)) (by simp [*])) (Cvs.cons .sc Cvs.nil))))
         ·
          clear h
          have h := h886
          refine brE h ?_ ?_
          ·clear h; intro h885 h
           obtain rfl := Option.some.inj h
           refine runT tmD [.br true] ?_
           exact wkT [(1, 2)] (SemK.glue (J (nbT (by first | rfl | simp [*]))))
          ·clear h; intro h885 h
           obtain rfl := Option.some.inj h
           refine runT tmD [.br false] ?_
           exact wkT [(1, 2)] (SemK.glue (J (nbT (by first | rfl | simp [*]))))
        ·
         obtain rfl := hn_z2_0_o2 rfl
         refine bindE h ?_
         clear h; intro j888_o0 h890 h
         refine runT tmD [] ?_
         refine SemK.joinF (fun (q : Nb j888_o0) => ⟨fr [(11, (slE q.1 0 (List.map enc_GRecord j888_o0))), (22, AV.nils)], hp ([] ++ opE q.1 0 3 (List.map enc_GRecord j888_o0)), 2⟩) ?_ (fun J => SemK.cut ?_)
         ·
          rintro nb_j888_o0
          rcases nb_j888_o0 with ⟨_ | _, hn_j888_o0⟩
          ·
           obtain rfl := Option.some.inj h
           refine runT tmD [] ?_
           refine fin_ret rfl ?_
           exact (cv_tup (Cvs.cons (cv_nils (es := List.map enc_GRow ([] : List GRow)) (by simp [*])) (Cvs.cons (cv_ref (es := List.map enc_GRecord j888_o0) rfl (by first | rfl | (simp; done) | (simp; rfl) | (simp [h3, h4, h7]; done) | (simp [h3, h4, h7]; rfl) | (simp [h3, h4, h7, List.map_take, List.map_drop]; done) | (simp [h3, h4, h7, List.map_take, List.map_drop]; rfl)) (by first | rfl | (simp; done) | (simp; omega) | (simp [h3, h4, h7]; done) | (simp [h3, h4, h7]; omega)) (flat_map flat_GRecord j888_o0)) (Cvs.cons .sc Cvs.nil))))
          ·
           obtain rfl := hn_j888_o0 rfl
           obtain rfl := Option.some.inj h
           refine runT tmD [] ?_
           refine fin_ret rfl ?_
           exact (cv_tup (Cvs.cons (cv_nils (es := List.map enc_GRow ([] : List GRow)) (by simp [*])) (Cvs.cons (cv_nils (es := List.map enc_GRecord ([] : List GRecord)) (by simp [*])) (Cvs.cons .sc Cvs.nil))))
         ·
          clear h
          have h := h890
          refine brE h ?_ ?_
          ·clear h; intro h889 h
           obtain rfl := Option.some.inj h
           refine runT tmD [.br true] ?_
           exact wkT [] (SemK.glue (J (nbT (by first | rfl | simp [*]))))
          ·clear h; intro h889 h
           obtain rfl := Option.some.inj h
           refine runT tmD [.br false] ?_
           exact wkT [] (SemK.glue (J (nbT (by first | rfl | simp [*]))))
    ·intro z0_1_o0 z0_1_o1 z0_1_6 nb_z0_1_o0 nb_z0_1_o1 eo647; subst eo647
     refine SemK.glue ?_
     try dsimp only at h
     rcases nb_z0_1_o0 with ⟨_ | _, hn_z0_1_o0⟩
     ·
      rcases nb_z0_1_o1 with ⟨_ | _, hn_z0_1_o1⟩
      ·
       obtain rfl := Option.some.inj h
       refine runT tmD [] ?_
       refine fin_ret rfl ?_
       exact (cv_tup (Cvs.cons (cv_ref (es := List.map enc_GRow z0_1_o0) rfl (by first | rfl | (simp; done) | (simp; rfl) | (simp [h3, h4, h7]; done) | (simp [h3, h4, h7]; rfl) | (simp [h3, h4, h7, List.map_take, List.map_drop]; done) | (simp [h3, h4, h7, List.map_take, List.map_drop]; rfl)) (by first | rfl | (simp; done) | (simp; omega) | (simp [h3, h4, h7]; done) | (simp [h3, h4, h7]; omega)) (flat_map flat_GRow z0_1_o0)) (Cvs.cons (cv_ref (es := List.map enc_GRecord z0_1_o1) rfl (by first | rfl | (simp; done) | (simp; rfl) | (simp [h3, h4, h7]; done) | (simp [h3, h4, h7]; rfl) | (simp [h3, h4, h7, List.map_take, List.map_drop]; done) | (simp [h3, h4, h7, List.map_take, List.map_drop]; rfl)) (by first | rfl | (simp; done) | (simp; omega) | (simp [h3, h4, h7]; done) | (simp [h3, h4, h7]; omega)) (flat_map flat_GRecord z0_1_o1)) (Cvs.cons .sc Cvs.nil))))
      ·
       obtain rfl := hn_z0_1_o1 rfl
       obtain rfl := Option.some.inj h
       refine runT tmD [] ?_
       refine fin_ret rfl ?_
       exact (cv_tup (Cvs.cons (cv_ref (es := List.map enc_GRow z0_1_o0) rfl (by first | rfl | (simp; done) | (simp; rfl) | (simp [h3, h4, h7]; done) | (simp [h3, h4, h7]; rfl) | (simp [h3, h4, h7, List.map_take, List.map_drop]; done) | (simp [h3, h4, h7, List.map_take, List.map_drop]; rfl)) (by first | rfl | (simp; done) | (simp; omega) | (simp [h3, h4, h7]; done) | (simp [h3, h4, h7]; omega)) (flat_map flat_GRow z0_1_o0)) (Cvs.cons (cv_nils (es := List.map enc_GRecord ([] : List GRecord)) (by simp [*])) (Cvs.cons .sc Cvs.nil))))
     ·
      obtain rfl := hn_z0_1_o0 rfl
      rcases nb_z0_1_o1 with ⟨_ | _, hn_z0_1_o1⟩
      ·
       obtain rfl := Option.some.inj h
       refine runT tmD [] ?_
       refine fin_ret rfl ?_
       exact (cv_tup (Cvs.cons (cv_nils (es := List.map enc_GRow ([] : List GRow)) (by simp [*])) (Cvs.cons (cv_ref (es := List.map enc_GRecord z0_1_o1) rfl (by first | rfl | (simp; done) | (simp; rfl) | (simp [h3, h4, h7]; done) | (simp [h3, h4, h7]; rfl) | (simp [h3, h4, h7, List.map_take, List.map_drop]; done) | (simp [h3, h4, h7, List.map_take, List.map_drop]; rfl)) (by first | rfl | (simp; done) | (simp; omega) | (simp [h3, h4, h7]; done) | (simp [h3, h4, h7]; omega)) (flat_map flat_GRecord z0_1_o1)) (Cvs.cons .sc Cvs.nil))))
      ·
       obtain rfl := hn_z0_1_o1 rfl
       obtain rfl := Option.some.inj h
       refine runT tmD [] ?_
       refine fin_ret rfl ?_
       exact (cv_tup (Cvs.cons (cv_nils (es := List.map enc_GRow ([] : List GRow)) (by simp [*])) (Cvs.cons (cv_nils (es := List.map enc_GRecord ([] : List GRecord)) (by simp [*])) (Cvs.cons .sc Cvs.nil))))

theorem late_Mark_L0_ok {Q : AExit → St → Mu → Prop} {μ : Mu} (y0_14 : (List GEvent)) (hl : List.length y0_14 ≤ 140737488355328) : ∀ (xs : List GEvent) (k : Nat) (hx : y0_14.drop k = xs) (y0_o0 : Int) (o : late_Mark_L0_o) (h : late_Mark_L0 y0_14 xs k y0_o0 = some o)
  (C0 : ∀ (z0_0_o0 : Int), o = late_Mark_L0_o.x0 z0_0_o0 → SemK Tryz.prog 27 0 Q (.exit (.exit 0)) [] ⟨fr [(5, (AV.fn 105 [(AV.ptr 0 0 0)]))], hp ([(0, { es := [(aI .i64 z0_0_o0)], esz := 1 })]), 1⟩ μ),
  SemK Tryz.prog 27 0 Q (.loop (loopB 0 (bodyOf Tryz.f45))) [] ⟨fr [(5, (AV.fn 105 [(AV.ptr 0 0 0)])), (14, (AV.list false (List.map enc_GEvent y0_14))), (15, (aI .i64 (List.length y0_14 : Int))), (16, (aI .i64 (k : Int)))], hp ([(0, { es := [(aI .i64 y0_o0)], esz := 1 })]), 1⟩ μ := by
 intro xs
 induction xs with
 | nil =>
  intro k hx y0_o0 o h C0
  have hk := drop_nil hx
  have hc : decide ((k : Int) < (List.length y0_14 : Int)) = false := decide_eq_false (by omega)
  rw [late_Mark_L0] at h
  refine SemK.round ?_
  obtain rfl := Option.some.inj h
  refine runT tmD [.br false] ?_
  exact wkT [] (C0 _  rfl)
 | cons x xs ih =>
  intro k hx y0_o0 o h C0
  obtain ⟨hk, hg, hx1⟩ := drop_cons hx
  have hc : decide ((k : Int) < (List.length y0_14 : Int)) = true := decide_eq_true (by omega)
  rw [late_Mark_L0] at h
  refine SemK.round ?_
  refine runT tmD [.br true, .el (enc_GEvent x)] ?_
  refine SemK.inline tyTab_ok fn105 rfl rfl rfl rfl rfl trivial trivial rfl rfl ?_
  refine bindE h ?_
  clear h; intro j28_o0 h30 h
  refine runT tmD [] ?_
  refine SemK.join (s' := ⟨fr [(4, (aI .i64 y0_o0))], hp ([(0, { es := [(aI .i64 j28_o0)], esz := 1 })]), 2⟩) ?_ (fun J => SemK.cut ?_)
  ·
   refine runT tmD [] ?_
   refine SemK.back (by intro id h; cases h) rfl ?_
   refine runT tmD [] ?_
   exact wkT [] (ih (k + 1) hx1 _ o h C0)
  ·
   clear h
   have h := h30
   refine brE h ?_ ?_
   ·clear h; intro h29 h
    obtain rfl := Option.some.inj h
    refine runT tmD [.br true] ?_
    exact wkT [] (SemK.glue J)
   ·clear h; intro h29 h
    obtain rfl := Option.some.inj h
    refine runT tmD [.br false] ?_
    exact wkT [] (SemK.glue J)
end Go.Av.Tryz
