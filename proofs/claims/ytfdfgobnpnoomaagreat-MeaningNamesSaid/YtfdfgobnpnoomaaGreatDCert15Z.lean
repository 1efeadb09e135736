/- Printed by decomp.py: that the program computes the functions. -/
import Derived.Test.YtfdfgobnpnoomaaGreatDCert14Z
set_option linter.all false
set_option linter.unusedVariables false
namespace Go.Av.Tryz
open Go.Proofs Go.D
set_option maxRecDepth 10000
set_option maxHeartbeats 4000000

theorem meaning_All_L2_ok {Q : AExit → St → Mu → Prop} {μ : Mu} (y2_o0 : GQuery) (y2_o1 : (List GRecord)) (y2_96 : (List GEntry)) (nb_y2_o1 : Nb y2_o1) (hl : List.length y2_96 ≤ 140737488355328) : ∀ (xs : List GEntry) (k : Nat) (hx : y2_96.drop k = xs) (y2_o2 : (List GRow)) (nb_y2_o2 : Nb y2_o2) (o : meaning_All_L2_o) (h : meaning_All_L2 y2_o0 y2_o1 y2_96 xs k y2_o2 = some o)
  (C0 : ∀ (z2_0_o1 : (List GRecord)) (z2_0_o2 : (List GRow)) (nb_z2_0_o1 : Nb z2_0_o1) (nb_z2_0_o2 : Nb z2_0_o2), o = meaning_All_L2_o.x0 z2_0_o1 z2_0_o2 → SemK Tryz.prog 119 0 Q (.exit (.exit 4)) [] ⟨fr [(2, (AV.ptr 0 0 0)), (11, (slE nb_z2_0_o1.1 1 (List.map enc_GRecord z2_0_o1))), (22, (slE nb_z2_0_o2.1 2 (List.map enc_GRow z2_0_o2)))], hp ([(0, { es := [(enc_GQuery false y2_o0)], esz := 10 })] ++ opE nb_z2_0_o1.1 1 3 (List.map enc_GRecord z2_0_o1) ++ opE nb_z2_0_o2.1 2 5 (List.map enc_GRow z2_0_o2)), 3⟩ μ),
  SemK Tryz.prog 119 0 Q (.loop (loopB 2 (bodyOf Tryz.f19))) [] ⟨fr [(2, (AV.ptr 0 0 0)), (11, (slE nb_y2_o1.1 1 (List.map enc_GRecord y2_o1))), (22, (slE nb_y2_o2.1 2 (List.map enc_GRow y2_o2))), (96, (AV.list true (List.map enc_GEntry y2_96))), (97, (aI .i64 (List.length y2_96 : Int))), (98, (aI .i64 (k : Int)))], hp ([(0, { es := [(enc_GQuery false y2_o0)], esz := 10 })] ++ opE nb_y2_o1.1 1 3 (List.map enc_GRecord y2_o1) ++ opE nb_y2_o2.1 2 5 (List.map enc_GRow y2_o2)), 3⟩ μ := by
 intro xs
 induction xs with
 | nil =>
  intro k hx y2_o2 nb_y2_o2 o h C0
  have hk := drop_nil hx
  have hc : decide ((k : Int) < (List.length y2_96 : Int)) = false := decide_eq_false (by omega)
  rw [meaning_All_L2] at h
  rcases nb_y2_o1 with ⟨_ | _, hn_y2_o1⟩
  ·
   rcases nb_y2_o2 with ⟨_ | _, hn_y2_o2⟩
   ·
    refine SemK.round ?_
    obtain rfl := Option.some.inj h
    refine runT tmD [.br false] ?_
    exact wkT [] (C0 _ _  nbF nbF rfl)
   ·
    obtain rfl := hn_y2_o2 rfl
    refine SemK.round ?_
    obtain rfl := Option.some.inj h
    refine runT tmD [.br false] ?_
    exact wkT [] (C0 _ _  nbF (nbT (by first | rfl | simp [*])) rfl)
  ·
   obtain rfl := hn_y2_o1 rfl
   rcases nb_y2_o2 with ⟨_ | _, hn_y2_o2⟩
   ·
    refine SemK.round ?_
    obtain rfl := Option.some.inj h
    refine runT tmD [.br false] ?_
    exact wkT [] (C0 _ _  (nbT (by first | rfl | simp [*])) nbF rfl)
   ·
    obtain rfl := hn_y2_o2 rfl
    refine SemK.round ?_
    obtain rfl := Option.some.inj h
    refine runT tmD [.br false] ?_
    exact wkT [] (C0 _ _  (nbT (by first | rfl | simp [*])) (nbT (by first | rfl | simp [*])) rfl)
 | cons x xs ih =>
  intro k hx y2_o2 nb_y2_o2 o h C0
  obtain ⟨hk, hg, hx1⟩ := drop_cons hx
  have hc : decide ((k : Int) < (List.length y2_96 : Int)) = true := decide_eq_true (by omega)
  rw [meaning_All_L2] at h
  rcases nb_y2_o1 with ⟨_ | _, hn_y2_o1⟩
  ·
   rcases nb_y2_o2 with ⟨_ | _, hn_y2_o2⟩
   ·
    refine SemK.round ?_
    refine bindE h ?_
    clear h; intro v732 h733 h
    refine bindE h ?_
    clear h; intro j737_o2 h741 h
    refine run_to tmD 4000 [.br true, .el (enc_GEntry x), .pure [(enc_GQuery false y2_o0), (enc_GEntry x)] (AV.tup [(enc_GRow v732.1), (aB v732.2)])] rfl (by repeat' first | refine And.intro ?_ ?_ | exact (PureCall.none (meaning_row_ok _ _ _ h733) (Cvs.cons (cv_agg (Cvs.cons .sc (Cvs.cons (cv_list (flat_map flat_GNode y2_o0.Arg)) (Cvs.cons (cv_list (flat_map (fun _ => flatSc) y2_o0.Sources)) (Cvs.cons .sc (Cvs.cons (cv_list (flat_map flat_GNode y2_o0.Where)) (Cvs.cons .sc (Cvs.cons .sc (Cvs.cons .sc (Cvs.cons .sc (Cvs.cons .sc Cvs.nil))))))))))) (Cvs.cons (cvf_GEntry (x := x)) Cvs.nil))) | exact oblA) ?_
    refine SemK.joinF (fun (q : Nb j737_o2) => ⟨fr [(2, (AV.ptr 0 0 0)), (11, (AV.ref 1 0 (List.length y2_o1))), (22, (slE q.1 2 (List.map enc_GRow j737_o2))), (96, (AV.list true (List.map enc_GEntry y2_96))), (97, (aI .i64 (List.length y2_96 : Int))), (98, (aI .i64 (k : Int)))], hp ([(0, { es := [(enc_GQuery false y2_o0)], esz := 10 }), (1, { es := List.map enc_GRecord y2_o1, esz := 3 })] ++ opE q.1 2 5 (List.map enc_GRow j737_o2)), 3⟩) ?_ (fun J => SemK.cut ?_)
    ·
     rintro nb_j737_o2
     rcases nb_j737_o2 with ⟨_ | _, hn_j737_o2⟩
     ·
      refine runT tmD [] ?_
      exact wkT [] (ih (k + 1) hx1 _ nbF o h C0)
     ·
      obtain rfl := hn_j737_o2 rfl
      refine runT tmD [] ?_
      exact wkT [] (ih (k + 1) hx1 _ (nbT (by first | rfl | simp [*])) o h C0)
    ·
     clear h
     have h := h741
     refine brE h ?_ ?_
     ·clear h; intro h738 h
      refine bindE h ?_
      clear h; intro u739 h740 h
      obtain rfl := Option.some.inj h
      refine run_to tmD 4000 [.br true, .no] rfl (by repeat' first | refine And.intro ?_ ?_ | exact (PureCall.none (meaning_row_ok _ _ _ h733) (Cvs.cons (cv_agg (Cvs.cons .sc (Cvs.cons (cv_list (flat_map flat_GNode y2_o0.Arg)) (Cvs.cons (cv_list (flat_map (fun _ => flatSc) y2_o0.Sources)) (Cvs.cons .sc (Cvs.cons (cv_list (flat_map flat_GNode y2_o0.Where)) (Cvs.cons .sc (Cvs.cons .sc (Cvs.cons .sc (Cvs.cons .sc (Cvs.cons .sc Cvs.nil))))))))))) (Cvs.cons (cvf_GEntry (x := x)) Cvs.nil))) | (refine capLe h740 rfl ?_; first | (simp; done) | (simp; omega) | (simp [hc, h738]; done) | (simp [hc, h738]; omega)) | (refine capMax h740 (by decide) ?_; first | (simp; done) | (simp; omega) | (simp [hc, h738]; done) | (simp [hc, h738]; omega)) | exact oblA) ?_
      exact wkT [(2, 6)] (SemK.glue (J nbF))
     ·clear h; intro h738 h
      obtain rfl := Option.some.inj h
      refine run_to tmD 4000 [.br false] rfl (by repeat' first | refine And.intro ?_ ?_ | exact (PureCall.none (meaning_row_ok _ _ _ h733) (Cvs.cons (cv_agg (Cvs.cons .sc (Cvs.cons (cv_list (flat_map flat_GNode y2_o0.Arg)) (Cvs.cons (cv_list (flat_map (fun _ => flatSc) y2_o0.Sources)) (Cvs.cons .sc (Cvs.cons (cv_list (flat_map flat_GNode y2_o0.Where)) (Cvs.cons .sc (Cvs.cons .sc (Cvs.cons .sc (Cvs.cons .sc (Cvs.cons .sc Cvs.nil))))))))))) (Cvs.cons (cvf_GEntry (x := x)) Cvs.nil))) | exact oblA) ?_
      exact wkT [] (SemK.glue (J nbF))
   ·
    obtain rfl := hn_y2_o2 rfl
    refine SemK.round ?_
    refine bindE h ?_
    clear h; intro v742 h743 h
    refine bindE h ?_
    clear h; intro j747_o2 h751 h
    refine run_to tmD 4000 [.br true, .el (enc_GEntry x), .pure [(enc_GQuery false y2_o0), (enc_GEntry x)] (AV.tup [(enc_GRow v742.1), (aB v742.2)])] rfl (by repeat' first | refine And.intro ?_ ?_ | exact (PureCall.none (meaning_row_ok _ _ _ h743) (Cvs.cons (cv_agg (Cvs.cons .sc (Cvs.cons (cv_list (flat_map flat_GNode y2_o0.Arg)) (Cvs.cons (cv_list (flat_map (fun _ => flatSc) y2_o0.Sources)) (Cvs.cons .sc (Cvs.cons (cv_list (flat_map flat_GNode y2_o0.Where)) (Cvs.cons .sc (Cvs.cons .sc (Cvs.cons .sc (Cvs.cons .sc (Cvs.cons .sc Cvs.nil))))))))))) (Cvs.cons (cvf_GEntry (x := x)) Cvs.nil))) | exact oblA) ?_
    refine SemK.joinF (fun (q : Nb j747_o2) => ⟨fr [(2, (AV.ptr 0 0 0)), (11, (AV.ref 1 0 (List.length y2_o1))), (22, (slE q.1 2 (List.map enc_GRow j747_o2))), (96, (AV.list true (List.map enc_GEntry y2_96))), (97, (aI .i64 (List.length y2_96 : Int))), (98, (aI .i64 (k : Int)))], hp ([(0, { es := [(enc_GQuery false y2_o0)], esz := 10 }), (1, { es := List.map enc_GRecord y2_o1, esz := 3 })] ++ opE q.1 2 5 (List.map enc_GRow j747_o2)), 3⟩) ?_ (fun J => SemK.cut ?_)
    ·
     rintro nb_j747_o2
     rcases nb_j747_o2 with ⟨_ | _, hn_j747_o2⟩
     ·
      refine runT tmD [] ?_
      exact wkT [] (ih (k + 1) hx1 _ nbF o h C0)
     ·
      obtain rfl := hn_j747_o2 rfl
      refine runT tmD [] ?_
      exact wkT [] (ih (k + 1) hx1 _ (nbT (by first | rfl | simp [*])) o h C0)
    ·
     clear h
     have h := h751
     refine brE h ?_ ?_
     ·clear h; intro h748 h
      refine bindE h ?_
      clear h; intro u749 h750 h
      obtain rfl := Option.some.inj h
      refine run_to tmD 4000 [.br true, .no] rfl (by repeat' first | refine And.intro ?_ ?_ | exact (PureCall.none (meaning_row_ok _ _ _ h743) (Cvs.cons (cv_agg (Cvs.cons .sc (Cvs.cons (cv_list (flat_map flat_GNode y2_o0.Arg)) (Cvs.cons (cv_list (flat_map (fun _ => flatSc) y2_o0.Sources)) (Cvs.cons .sc (Cvs.cons (cv_list (flat_map flat_GNode y2_o0.Where)) (Cvs.cons .sc (Cvs.cons .sc (Cvs.cons .sc (Cvs.cons .sc (Cvs.cons .sc Cvs.nil))))))))))) (Cvs.cons (cvf_GEntry (x := x)) Cvs.nil))) | (refine capLe h750 rfl ?_; first | (simp; done) | (simp; omega) | (simp [hc, h748]; done) | (simp [hc, h748]; omega)) | (refine capMax h750 (by decide) ?_; first | (simp; done) | (simp; omega) | (simp [hc, h748]; done) | (simp [hc, h748]; omega)) | exact oblA) ?_
      exact wkT [(2, 6)] (SemK.glue (J nbF))
     ·clear h; intro h748 h
      obtain rfl := Option.some.inj h
      refine run_to tmD 4000 [.br false] rfl (by repeat' first | refine And.intro ?_ ?_ | exact (PureCall.none (meaning_row_ok _ _ _ h743) (Cvs.cons (cv_agg (Cvs.cons .sc (Cvs.cons (cv_list (flat_map flat_GNode y2_o0.Arg)) (Cvs.cons (cv_list (flat_map (fun _ => flatSc) y2_o0.Sources)) (Cvs.cons .sc (Cvs.cons (cv_list (flat_map flat_GNode y2_o0.Where)) (Cvs.cons .sc (Cvs.cons .sc (Cvs.cons .sc (Cvs.cons .sc (Cvs.cons .sc Cvs.nil))))))))))) (Cvs.cons (cvf_GEntry (x := x)) Cvs.nil))) | exact oblA) ?_
      exact wkT [] (SemK.glue (J (nbT (by first | rfl | simp [*]))))
  ·
   obtain rfl := hn_y2_o1 rfl
   rcases nb_y2_o2 with ⟨_ | _, hn_y2_o2⟩
   ·
    refine SemK.round ?_
    refine bindE h ?_
    clear h; intro v752 h753 h
    refine bindE h ?_
    clear h; intro j757_o2 h761 h
    refine run_to tmD 4000 [.br true, .el (enc_GEntry x), .pure [(enc_GQuery false y2_o0), (enc_GEntry x)] (AV.tup [(enc_GRow v752.1), (aB v752.2)])] rfl (by repeat' first | refine And.intro ?_ ?_ | exact (PureCall.none (meaning_row_ok _ _ _ h753) (Cvs.cons (cv_agg (Cvs.cons .sc (Cvs.cons (cv_list (flat_map flat_GNode y2_o0.Arg)) (Cvs.cons (cv_list (flat_map (fun _ => flatSc) y2_o0.Sources)) (Cvs.cons .sc (Cvs.cons (cv_list (flat_map flat_GNode y2_o0.Where)) (Cvs.cons .sc (Cvs.cons .sc (Cvs.cons .sc (Cvs.cons .sc (Cvs.cons .sc Cvs.nil))))))))))) (Cvs.cons (cvf_GEntry (x := x)) Cvs.nil))) | exact oblA) ?_
    refine SemK.joinF (fun (q : Nb j757_o2) => ⟨fr [(2, (AV.ptr 0 0 0)), (11, AV.nils), (22, (slE q.1 2 (List.map enc_GRow j757_o2))), (96, (AV.list true (List.map enc_GEntry y2_96))), (97, (aI .i64 (List.length y2_96 : Int))), (98, (aI .i64 (k : Int)))], hp ([(0, { es := [(enc_GQuery false y2_o0)], esz := 10 })] ++ opE q.1 2 5 (List.map enc_GRow j757_o2)), 3⟩) ?_ (fun J => SemK.cut ?_)
    ·
     rintro nb_j757_o2
     rcases nb_j757_o2 with ⟨_ | _, hn_j757_o2⟩
     ·
      refine runT tmD [] ?_
      exact wkT [] (ih (k + 1) hx1 _ nbF o h C0)
     ·
      obtain rfl := hn_j757_o2 rfl
      refine runT tmD [] ?_
      exact wkT [] (ih (k + 1) hx1 _ (nbT (by first | rfl | simp [*])) o h C0)
    ·
     clear h
     have h := h761
     refine brE h ?_ ?_
     ·clear h; intro h758 h
      refine bindE h ?_
      clear h; intro u759 h760 h
      obtain rfl := Option.some.inj h
      refine run_to tmD 4000 [.br true, .no] rfl (by repeat' first | refine And.intro ?_ ?_ | exact (PureCall.none (meaning_row_ok _ _ _ h753) (Cvs.cons (cv_agg (Cvs.cons .sc (Cvs.cons (cv_list (flat_map flat_GNode y2_o0.Arg)) (Cvs.cons (cv_list (flat_map (fun _ => flatSc) y2_o0.Sources)) (Cvs.cons .sc (Cvs.cons (cv_list (flat_map flat_GNode y2_o0.Where)) (Cvs.cons .sc (Cvs.cons .sc (Cvs.cons .sc (Cvs.cons .sc (Cvs.cons .sc Cvs.nil))))))))))) (Cvs.cons (cvf_GEntry (x := x)) Cvs.nil))) | (refine capLe h760 rfl ?_; first | (simp; done) | (simp; omega) | (simp [hc, h758]; done) | (simp [hc, h758]; omega)) | (refine capMax h760 (by decide) ?_; first | (simp; done) | (simp; omega) | (simp [hc, h758]; done) | (simp [hc, h758]; omega)) | exact oblA) ?_
      exact wkT [(2, 6)] (SemK.glue (J nbF))
     ·clear h; intro h758 h
      obtain rfl := Option.some.inj h
      refine run_to tmD 4000 [.br false] rfl (by repeat' first | refine And.intro ?_ ?_ | exact (PureCall.none (meaning_row_ok _ _ _ h753) (Cvs.cons (cv_agg (Cvs.cons .sc (Cvs.cons (cv_list (flat_map flat_GNode y2_o0.Arg)) (Cvs.cons (cv_list (flat_map (fun _ => flatSc) y2_o0.Sources)) (Cvs.cons .sc (Cvs.cons (cv_list (flat_map flat_GNode y2_o0.Where)) (Cvs.cons .sc (Cvs.cons .sc (Cvs.cons .sc (Cvs.cons .sc (Cvs.cons .sc Cvs.nil))))))))))) (Cvs.cons (cvf_GEntry (x := x)) Cvs.nil))) | exact oblA) ?_
      exact wkT [] (SemK.glue (J nbF))
   ·
    obtain rfl := hn_y2_o2 rfl
    refine SemK.round ?_
    refine bindE h ?_
    clear h; intro v762 h763 h
    refine bindE h ?_
    clear h; intro j767_o2 h771 h
    refine run_to tmD 4000 [.br true, .el (enc_GEntry x), .pure [(enc_GQuery false y2_o0), (enc_GEntry x)] (AV.tup [(enc_GRow v762.1), (aB v762.2)])] rfl (by repeat' first | refine And.intro ?_ ?_ | exact (PureCall.none (meaning_row_ok _ _ _ h763) (Cvs.cons (cv_agg (Cvs.cons .sc (Cvs.cons (cv_list (flat_map flat_GNode y2_o0.Arg)) (Cvs.cons (cv_list (flat_map (fun _ => flatSc) y2_o0.Sources)) (Cvs.cons .sc (Cvs.cons (cv_list (flat_map flat_GNode y2_o0.Where)) (Cvs.cons .sc (Cvs.cons .sc (Cvs.cons .sc (Cvs.cons .sc (Cvs.cons .sc Cvs.nil))))))))))) (Cvs.cons (cvf_GEntry (x := x)) Cvs.nil))) | exact oblA) ?_
    refine SemK.joinF (fun (q : Nb j767_o2) => ⟨fr [(2, (AV.ptr 0 0 0)), (11, AV.nils), (22, (slE q.1 2 (List.map enc_GRow j767_o2))), (96, (AV.list true (List.map enc_GEntry y2_96))), (97, (aI .i64 (List.length y2_96 : Int))), (98, (aI .i64 (k : Int)))], hp ([(0, { es := [(enc_GQuery false y2_o0)], esz := 10 })] ++ opE q.1 2 5 (List.map enc_GRow j767_o2)), 3⟩) ?_ (fun J => SemK.cut ?_)
    ·
     rintro nb_j767_o2
     rcases nb_j767_o2 with ⟨_ | _, hn_j767_o2⟩
     ·
      refine runT tmD [] ?_
      exact wkT [] (ih (k + 1) hx1 _ nbF o h C0)
     ·
      obtain rfl := hn_j767_o2 rfl
      refine runT tmD [] ?_
      exact wkT [] (ih (k + 1) hx1 _ (nbT (by first | rfl | simp [*])) o h C0)
    ·
     clear h
     have h := h771
     refine brE h ?_ ?_
     ·clear h; intro h768 h
      refine bindE h ?_
      clear h; intro u769 h770 h
      obtain rfl := Option.some.inj h
      refine run_to tmD 4000 [.br true, .no] rfl (by repeat' first | refine And.intro ?_ ?_ | exact (PureCall.none (meaning_row_ok _ _ _ h763) (Cvs.cons (cv_agg (Cvs.cons .sc (Cvs.cons (cv_list (flat_map flat_GNode y2_o0.Arg)) (Cvs.cons (cv_list (flat_map (fun _ => flatSc) y2_o0.Sources)) (Cvs.cons .sc (Cvs.cons (cv_list (flat_map flat_GNode y2_o0.Where)) (Cvs.cons .sc (Cvs.cons .sc (Cvs.cons .sc (Cvs.cons .sc (Cvs.cons .sc Cvs.nil))))))))))) (Cvs.cons (cvf_GEntry (x := x)) Cvs.nil))) | (refine capLe h770 rfl ?_; first | (simp; done) | (simp; omega) | (simp [hc, h768]; done) | (simp [hc, h768]; omega)) | (refine capMax h770 (by decide) ?_; first | (simp; done) | (simp; omega) | (simp [hc, h768]; done) | (simp [hc, h768]; omega)) | exact oblA) ?_
      exact wkT [(2, 6)] (SemK.glue (J nbF))
     ·clear h; intro h768 h
      obtain rfl := Option.some.inj h
      refine run_to tmD 4000 [.br false] rfl (by repeat' first | refine And.intro ?_ ?_ | exact (PureCall.none (meaning_row_ok _ _ _ h763) (Cvs.cons (cv_agg (Cvs.cons .sc (Cvs.cons (cv_list (flat_map flat_GNode y2_o0.Arg)) (Cvs.cons (cv_list (flat_map (fun _ => flatSc) y2_o0.Sources)) (Cvs.cons .sc (Cvs.cons (cv_list (flat_map flat_GNode y2_o0.Where)) (Cvs.cons .sc (Cvs.cons .sc (Cvs.cons .sc (Cvs.cons .sc (Cvs.cons .sc Cvs.nil))))))))))) (Cvs.cons (cvf_GEntry (x := x)) Cvs.nil))) | exact oblA) ?_
      exact wkT [] (SemK.glue (J (nbT (by first | rfl | simp [*]))))
end Go.Av.Tryz
