/- Printed by decomp.py: that the program computes the functions. -/
import Derived.Test.YtneciiakpbfnjaaGreatDCert0J
import Derived.Test.YtneciiakpbfnjaaGreatDCert11J
set_option linter.all false
set_option linter.unusedVariables false
namespace Go.Av.Tryz
open Go.Proofs Go.D
set_option maxRecDepth 10000
set_option maxHeartbeats 4000000

theorem join_Take_L0_ok {Q : AExit → St → Mu → Prop} {μ : Mu} (y0_o0 : GQuery) (y0_o1 : GTask) (y0_o2 : GTask) (y0_128 : (List GEntry)) (hl : List.length y0_128 ≤ 140737488355328) : ∀ (xs : List GEntry) (k : Nat) (hx : y0_128.drop k = xs) (y0_o3 : (List GSend)) (nb_y0_o3 : Nb y0_o3) (o : join_Take_L0_o) (h : join_Take_L0 y0_o0 y0_o1 y0_o2 y0_128 xs k y0_o3 = some o)
  (C0 : ∀ (z0_0_o2 : (List GSend)) (nb_z0_0_o2 : Nb z0_0_o2), o = join_Take_L0_o.x0 z0_0_o2 → SemK Tryz.prog 153 0 Q (.exit (.exit 1)) [] ⟨fr [(5, (AV.ptr 0 0 0)), (8, (AV.ptr 1 0 0)), (21, (slE nb_z0_0_o2.1 2 (List.map enc_GSend z0_0_o2)))], hp ([(0, { es := [(enc_GTask false y0_o1)], esz := 9 }), (1, { es := [(enc_GTask true y0_o2)], esz := 9 })] ++ opE nb_z0_0_o2.1 2 11 (List.map enc_GSend z0_0_o2)), 3⟩ μ),
  SemK Tryz.prog 153 0 Q (.loop (loopB 0 (bodyOf Tryz.f18))) [] ⟨fr [(4, (AV.ptr 0 0 0)), (5, (AV.ptr 1 0 0)), (8, (AV.ptr 2 0 0)), (21, (slE nb_y0_o3.1 3 (List.map enc_GSend y0_o3))), (128, (AV.list true (List.map enc_GEntry y0_128))), (129, (aI .i64 (List.length y0_128 : Int))), (130, (aI .i64 (k : Int)))], hp ([(0, { es := [(enc_GQuery false y0_o0)], esz := 10 }), (1, { es := [(enc_GTask false y0_o1)], esz := 9 }), (2, { es := [(enc_GTask true y0_o2)], esz := 9 })] ++ opE nb_y0_o3.1 3 11 (List.map enc_GSend y0_o3)), 4⟩ μ := by
 intro xs
 induction xs with
 | nil =>
  intro k hx y0_o3 nb_y0_o3 o h C0
  have hk := drop_nil hx
  have hc : decide ((k : Int) < (List.length y0_128 : Int)) = false := decide_eq_false (by omega)
  rw [join_Take_L0] at h
  rcases nb_y0_o3 with ⟨_ | _, hn_y0_o3⟩
  ·
   refine SemK.round ?_
   obtain rfl := Option.some.inj h
   refine runT tmD [.br false] ?_
   exact wkT [(0, 1), (1, 2), (2, 3)] (C0 _  nbF rfl)
  ·
   obtain rfl := hn_y0_o3 rfl
   refine SemK.round ?_
   obtain rfl := Option.some.inj h
   refine runT tmD [.br false] ?_
   exact wkT [(0, 1), (1, 2)] (C0 _  (nbT (by first | rfl | simp [*])) rfl)
 | cons x xs ih =>
  intro k hx y0_o3 nb_y0_o3 o h C0
  obtain ⟨hk, hg, hx1⟩ := drop_cons hx
  have hc : decide ((k : Int) < (List.length y0_128 : Int)) = true := decide_eq_true (by omega)
  rw [join_Take_L0] at h
  rcases nb_y0_o3 with ⟨_ | _, hn_y0_o3⟩
  ·
   refine SemK.round ?_
   refine bindE h ?_
   clear h; intro v70 h71 h
   refine bindE h ?_
   clear h; intro j75_o3 h79 h
   refine run_to tmD 4000 [.br true, .el (enc_GEntry x), .pure [(enc_GQuery false y0_o0), (enc_GEntry x)] (AV.tup [(enc_GRow v70.1), (aB v70.2)])] rfl (by repeat' first | refine And.intro ?_ ?_ | exact (PureCall.none (join_row_ok _ _ _ h71) (Cvs.cons (cv_agg (Cvs.cons .sc (Cvs.cons (cv_list (flat_map flat_GNode y0_o0.Arg)) (Cvs.cons (cv_list (flat_map (fun _ => flatSc) y0_o0.Sources)) (Cvs.cons .sc (Cvs.cons (cv_list (flat_map flat_GNode y0_o0.Where)) (Cvs.cons .sc (Cvs.cons .sc (Cvs.cons .sc (Cvs.cons .sc (Cvs.cons .sc Cvs.nil))))))))))) (Cvs.cons (cvf_GEntry (x := x)) Cvs.nil))) | exact oblA) ?_
   refine SemK.joinF (fun (q : Nb j75_o3) => ⟨fr [(4, (AV.ptr 0 0 0)), (5, (AV.ptr 1 0 0)), (8, (AV.ptr 2 0 0)), (21, (slE q.1 3 (List.map enc_GSend j75_o3))), (128, (AV.list true (List.map enc_GEntry y0_128))), (129, (aI .i64 (List.length y0_128 : Int))), (130, (aI .i64 (k : Int)))], hp ([(0, { es := [(enc_GQuery false y0_o0)], esz := 10 }), (1, { es := [(enc_GTask false y0_o1)], esz := 9 }), (2, { es := [(enc_GTask true y0_o2)], esz := 9 })] ++ opE q.1 3 11 (List.map enc_GSend j75_o3)), 4⟩) ?_ (fun J => SemK.cut ?_)
   ·
    rintro nb_j75_o3
    rcases nb_j75_o3 with ⟨_ | _, hn_j75_o3⟩
    ·
     refine runT tmD [] ?_
     exact wkT [] (ih (k + 1) hx1 _ nbF o h C0)
    ·
     obtain rfl := hn_j75_o3 rfl
     refine runT tmD [] ?_
     exact wkT [] (ih (k + 1) hx1 _ (nbT (by first | rfl | simp [*])) o h C0)
   ·
    clear h
    have h := h79
    refine brE h ?_ ?_
    ·clear h; intro h76 h
     refine bindE h ?_
     clear h; intro u77 h78 h
     obtain rfl := Option.some.inj h
     refine run_to tmD 4000 [.br true, .no] rfl (by repeat' first | refine And.intro ?_ ?_ | exact (PureCall.none (join_row_ok _ _ _ h71) (Cvs.cons (cv_agg (Cvs.cons .sc (Cvs.cons (cv_list (flat_map flat_GNode y0_o0.Arg)) (Cvs.cons (cv_list (flat_map (fun _ => flatSc) y0_o0.Sources)) (Cvs.cons .sc (Cvs.cons (cv_list (flat_map flat_GNode y0_o0.Where)) (Cvs.cons .sc (Cvs.cons .sc (Cvs.cons .sc (Cvs.cons .sc (Cvs.cons .sc Cvs.nil))))))))))) (Cvs.cons (cvf_GEntry (x := x)) Cvs.nil))) | (refine capLe h78 rfl ?_; first | (simp; done) | (simp; omega) | (simp [hc, h76]; done) | (simp [hc, h76]; omega)) | (refine capMax h78 (by decide) ?_; first | (simp; done) | (simp; omega) | (simp [hc, h76]; done) | (simp [hc, h76]; omega)) | exact oblA) ?_
     exact wkT [(3, 7)] (SemK.glue (J nbF))
    ·clear h; intro h76 h
     obtain rfl := Option.some.inj h
     refine run_to tmD 4000 [.br false] rfl (by repeat' first | refine And.intro ?_ ?_ | exact (PureCall.none (join_row_ok _ _ _ h71) (Cvs.cons (cv_agg (Cvs.cons .sc (Cvs.cons (cv_list (flat_map flat_GNode y0_o0.Arg)) (Cvs.cons (cv_list (flat_map (fun _ => flatSc) y0_o0.Sources)) (Cvs.cons .sc (Cvs.cons (cv_list (flat_map flat_GNode y0_o0.Where)) (Cvs.cons .sc (Cvs.cons .sc (Cvs.cons .sc (Cvs.cons .sc (Cvs.cons .sc Cvs.nil))))))))))) (Cvs.cons (cvf_GEntry (x := x)) Cvs.nil))) | exact oblA) ?_
     exact wkT [] (SemK.glue (J nbF))
  ·
   obtain rfl := hn_y0_o3 rfl
   refine SemK.round ?_
   refine bindE h ?_
   clear h; intro v80 h81 h
   refine bindE h ?_
   clear h; intro j85_o3 h89 h
   refine run_to tmD 4000 [.br true, .el (enc_GEntry x), .pure [(enc_GQuery false y0_o0), (enc_GEntry x)] (AV.tup [(enc_GRow v80.1), (aB v80.2)])] rfl (by repeat' first | refine And.intro ?_ ?_ | exact (PureCall.none (join_row_ok _ _ _ h81) (Cvs.cons (cv_agg (Cvs.cons .sc (Cvs.cons (cv_list (flat_map flat_GNode y0_o0.Arg)) (Cvs.cons (cv_list (flat_map (fun _ => flatSc) y0_o0.Sources)) (Cvs.cons .sc (Cvs.cons (cv_list (flat_map flat_GNode y0_o0.Where)) (Cvs.cons .sc (Cvs.cons .sc (Cvs.cons .sc (Cvs.cons .sc (Cvs.cons .sc Cvs.nil))))))))))) (Cvs.cons (cvf_GEntry (x := x)) Cvs.nil))) | exact oblA) ?_
   refine SemK.joinF (fun (q : Nb j85_o3) => ⟨fr [(4, (AV.ptr 0 0 0)), (5, (AV.ptr 1 0 0)), (8, (AV.ptr 2 0 0)), (21, (slE q.1 3 (List.map enc_GSend j85_o3))), (128, (AV.list true (List.map enc_GEntry y0_128))), (129, (aI .i64 (List.length y0_128 : Int))), (130, (aI .i64 (k : Int)))], hp ([(0, { es := [(enc_GQuery false y0_o0)], esz := 10 }), (1, { es := [(enc_GTask false y0_o1)], esz := 9 }), (2, { es := [(enc_GTask true y0_o2)], esz := 9 })] ++ opE q.1 3 11 (List.map enc_GSend j85_o3)), 4⟩) ?_ (fun J => SemK.cut ?_)
   ·
    rintro nb_j85_o3
    rcases nb_j85_o3 with ⟨_ | _, hn_j85_o3⟩
    ·
     refine runT tmD [] ?_
     exact wkT [] (ih (k + 1) hx1 _ nbF o h C0)
    ·
     obtain rfl := hn_j85_o3 rfl
     refine runT tmD [] ?_
     exact wkT [] (ih (k + 1) hx1 _ (nbT (by first | rfl | simp [*])) o h C0)
   ·
    clear h
    have h := h89
    refine brE h ?_ ?_
    ·clear h; intro h86 h
     refine bindE h ?_
     clear h; intro u87 h88 h
     obtain rfl := Option.some.inj h
     refine run_to tmD 4000 [.br true, .no] rfl (by repeat' first | refine And.intro ?_ ?_ | exact (PureCall.none (join_row_ok _ _ _ h81) (Cvs.cons (cv_agg (Cvs.cons .sc (Cvs.cons (cv_list (flat_map flat_GNode y0_o0.Arg)) (Cvs.cons (cv_list (flat_map (fun _ => flatSc) y0_o0.Sources)) (Cvs.cons .sc (Cvs.cons (cv_list (flat_map flat_GNode y0_o0.Where)) (Cvs.cons .sc (Cvs.cons .sc (Cvs.cons .sc (Cvs.cons .sc (Cvs.cons .sc Cvs.nil))))))))))) (Cvs.cons (cvf_GEntry (x := x)) Cvs.nil))) | (refine capLe h88 rfl ?_; first | (simp; done) | (simp; omega) | (simp [hc, h86]; done) | (simp [hc, h86]; omega)) | (refine capMax h88 (by decide) ?_; first | (simp; done) | (simp; omega) | (simp [hc, h86]; done) | (simp [hc, h86]; omega)) | exact oblA) ?_
     exact wkT [(3, 7)] (SemK.glue (J nbF))
    ·clear h; intro h86 h
     obtain rfl := Option.some.inj h
     refine run_to tmD 4000 [.br false] rfl (by repeat' first | refine And.intro ?_ ?_ | exact (PureCall.none (join_row_ok _ _ _ h81) (Cvs.cons (cv_agg (Cvs.cons .sc (Cvs.cons (cv_list (flat_map flat_GNode y0_o0.Arg)) (Cvs.cons (cv_list (flat_map (fun _ => flatSc) y0_o0.Sources)) (Cvs.cons .sc (Cvs.cons (cv_list (flat_map flat_GNode y0_o0.Where)) (Cvs.cons .sc (Cvs.cons .sc (Cvs.cons .sc (Cvs.cons .sc (Cvs.cons .sc Cvs.nil))))))))))) (Cvs.cons (cvf_GEntry (x := x)) Cvs.nil))) | exact oblA) ?_
     exact wkT [] (SemK.glue (J (nbT (by first | rfl | simp [*]))))
end Go.Av.Tryz
