/- Printed by decomp.py: that the program computes the functions. -/
import Derived.Test.YtfdfgobnpnoomaaGreatDCert19Z
set_option linter.all false
set_option linter.unusedVariables false
namespace Go.Av.Tryz
open Go.Proofs Go.D
set_option maxRecDepth 10000
set_option maxHeartbeats 4000000

theorem ref10_Check_ok (a0 : GQuery) (r : Int × Int) (h : ref10_Check a0 = some r) : Pure Tryz.prog 28 [(enc_GQuery false a0)] (AV.tup [(aI .i64 r.1), (aI .i64 r.2)]) := by
 refine Pure.sym tyTab_ok fn28 (nt := 13) rfl rfl ?_ (allCons (free_GQuery false _ _).1 allNil)
 unfold ref10_Check at h
 refine bindE h ?_
 clear h; intro v1 h2 h
 refine brE h ?_ ?_
 ·clear h; intro h3 h
  obtain rfl := Option.some.inj h
  refine run_to tmD 4000 [.pure [(enc_GQuery false a0)] (aI .i64 v1), .br true, .pure [(enc_GQuery false a0)] (aI .i64 v1)] rfl (by repeat' first | refine And.intro ?_ ?_ | exact (PureCall.none (ref08_Check_ok _ _ h2) (Cvs.cons (cv_agg (Cvs.cons .sc (Cvs.cons (cv_list (flat_map flat_GNode a0.Arg)) (Cvs.cons (cv_list (flat_map (fun _ => flatSc) a0.Sources)) (Cvs.cons .sc (Cvs.cons (cv_list (flat_map flat_GNode a0.Where)) (Cvs.cons .sc (Cvs.cons .sc (Cvs.cons .sc (Cvs.cons .sc (Cvs.cons .sc Cvs.nil))))))))))) Cvs.nil)) | exact oblA) ?_
  refine fin_ret rfl ?_
  exact (cv_tup (Cvs.cons .sc (Cvs.cons .sc Cvs.nil)))
 ·clear h; intro h3 h
  refine bindE h ?_
  clear h; intro v4 h5 h
  obtain rfl := Option.some.inj h
  refine run_to tmD 4000 [.pure [(enc_GQuery false a0)] (aI .i64 v1), .br false, .pure [(enc_GQuery false a0)] (AV.tup [(aI .i64 v4.1), (aI .i64 v4.2)])] rfl (by repeat' first | refine And.intro ?_ ?_ | exact (PureCall.none (ref08_Check_ok _ _ h2) (Cvs.cons (cv_agg (Cvs.cons .sc (Cvs.cons (cv_list (flat_map flat_GNode a0.Arg)) (Cvs.cons (cv_list (flat_map (fun _ => flatSc) a0.Sources)) (Cvs.cons .sc (Cvs.cons (cv_list (flat_map flat_GNode a0.Where)) (Cvs.cons .sc (Cvs.cons .sc (Cvs.cons .sc (Cvs.cons .sc (Cvs.cons .sc Cvs.nil))))))))))) Cvs.nil)) | exact (PureCall.none (ref10_Right_ok _ _ h5) (Cvs.cons (cv_agg (Cvs.cons .sc (Cvs.cons (cv_list (flat_map flat_GNode a0.Arg)) (Cvs.cons (cv_list (flat_map (fun _ => flatSc) a0.Sources)) (Cvs.cons .sc (Cvs.cons (cv_list (flat_map flat_GNode a0.Where)) (Cvs.cons .sc (Cvs.cons .sc (Cvs.cons .sc (Cvs.cons .sc (Cvs.cons .sc Cvs.nil))))))))))) Cvs.nil)) | exact oblA) ?_
  refine fin_ret rfl ?_
  exact (cv_tup (Cvs.cons .sc (Cvs.cons .sc Cvs.nil)))

theorem law21_row_ok (a0 : Int) (a1 : Int) (a2 : Int) (r : GRow) (h : law21_row a0 a1 a2 = some r) : Pure Tryz.prog 30 [(aI .i64 a0), (aI .i64 a1), (aI .i64 a2)] (enc_GRow r) := by
 refine Pure.sym tyTab_ok fn30 (nt := 13) rfl rfl ?_ (allCons .sc (allCons .sc (allCons .sc allNil)))
 unfold law21_row at h
 obtain rfl := Option.some.inj h
 refine runT tmD [] ?_
 refine fin_ret rfl ?_
 exact (cvf_GRow (x := (GRow.mk 0 (GSpan.mk a0 a1) (V2.mk a2 0))))

theorem ref21_Same_L0_ok {Q : AExit → St → Mu → Prop} {μ : Mu} (y0_0 : (List GRow)) (y0_1 : (List GRow)) (hl : List.length y0_0 ≤ 140737488355328) : ∀ (xs : List GRow) (k : Nat) (hx : y0_0.drop k = xs) (o : ref21_Same_L0_o) (h : ref21_Same_L0 y0_0 y0_1 xs k  = some o)
  (C0 : o = ref21_Same_L0_o.x0 → SemK Tryz.prog 26 0 Q (.exit (.exit 0)) [] ⟨fr [], hp ([]), 0⟩ μ)
  (C1 : o = ref21_Same_L0_o.x1 → SemK Tryz.prog 26 0 Q (.exit .ret) [] ⟨fr [(4, (aB false))], hp ([]), 0⟩ μ),
  SemK Tryz.prog 26 0 Q (.loop (loopB 0 (bodyOf Tryz.f23))) [] ⟨fr [(0, (AV.list false (List.map enc_GRow y0_0))), (1, (AV.list false (List.map enc_GRow y0_1))), (5, (aI .i64 (k : Int)))], hp ([]), 0⟩ μ := by
 intro xs
 induction xs with
 | nil =>
  intro k hx  o h C0 C1
  have hk := drop_nil hx
  have hc : decide ((k : Int) < (List.length y0_0 : Int)) = false := decide_eq_false (by omega)
  rw [ref21_Same_L0] at h
  refine SemK.round ?_
  obtain rfl := Option.some.inj h
  refine runT tmD [.el (aI .i64 (List.length y0_0 : Int)), .br false] ?_
  exact wkT [] (C0  rfl)
 | cons x xs ih =>
  intro k hx  o h C0 C1
  obtain ⟨hk, hg, hx1⟩ := drop_cons hx
  have hc : decide ((k : Int) < (List.length y0_0 : Int)) = true := decide_eq_true (by omega)
  rw [ref21_Same_L0] at h
  refine SemK.round ?_
  refine bindE h ?_
  clear h; intro e11 h12 h
  try have qh12 := getI_lt h12
  refine brE h ?_ ?_
  ·clear h; intro h13 h
   obtain rfl := Option.some.inj h
   refine runT tmD [.el (aI .i64 (List.length y0_0 : Int)), .br true, .el (enc_GRow x), .el (enc_GRow e11), .br true] ?_
   exact wkT [] (C1  rfl)
  ·clear h; intro h13 h
   refine runT tmD [.el (aI .i64 (List.length y0_0 : Int)), .br true, .el (enc_GRow x), .el (enc_GRow e11), .br false] ?_
   exact wkT [] (ih (k + 1) hx1  o h C0 C1)

theorem ref21_Same_ok (a0 : (List GRow)) (a1 : (List GRow)) (r : Bool) (h : ref21_Same a0 a1 = some r) : Pure Tryz.prog 23 [(AV.list false (List.map enc_GRow a0)), (AV.list false (List.map enc_GRow a1))] (aB r) := by
 refine Pure.sym tyTab_ok fn23 (nt := 26) rfl rfl ?_ (allCons .list (allCons .list allNil))
 unfold ref21_Same at h
 refine brE h ?_ ?_
 ·clear h; intro h1 h
  obtain rfl := Option.some.inj h
  refine runT tmD [.el (aI .i64 (List.length a0 : Int)), .el (aI .i64 (List.length a1 : Int)), .br true] ?_
  refine fin_ret rfl ?_
  exact .sc
 ·clear h; intro h1 h
  refine bindE h ?_
  clear h; intro u2 h3 h
  have qh3 := lenOk_le h3
  refine bindE h ?_
  clear h; intro o14 h15 h
  refine runT tmD [.el (aI .i64 (List.length a0 : Int)), .el (aI .i64 (List.length a1 : Int)), .br false] ?_
  refine wkT [] (SemK.cut (ref21_Same_L0_ok a0 a1 qh3 a0 0 (by simp) _ h15 ?_ ?_))
  ·intro eo14; subst eo14
   refine SemK.glue ?_
   try dsimp only at h
   obtain rfl := Option.some.inj h
   refine runT tmD [] ?_
   refine fin_ret rfl ?_
   exact .sc
  ·intro eo14; subst eo14
   refine SemK.glue ?_
   try dsimp only at h
   obtain rfl := Option.some.inj h
   refine runT tmD [] ?_
   refine fin_ret rfl ?_
   exact .sc

def CvE (m : Bool) (H : Heap) (e e' : AV) : Prop := e.cells.length = e'.cells.length ∧ ∀ (k : Nat) a b, e.cells[k]? = some a → e'.cells[k]? = some b → Cv m H a b
def CvL (m : Bool) (H : Heap) (l l' : List AV) : Prop := l.length = l'.length ∧ ∀ (i : Nat) e e', l[i]? = some e → l'[i]? = some e' → CvE m H e e'
theorem CvL.nil {m : Bool} {H : Heap} : CvL m H [] [] := ⟨rfl, fun i e e' h => by simp at h⟩
theorem CvL.cons {m : Bool} {H : Heap} {e e' : AV} {l l' : List AV} (h : CvE m H e e') (t : CvL m H l l') : CvL m H (e :: l) (e' :: l') := by
 refine ⟨by simp [t.1], fun i a b ha hb => ?_⟩
 cases i with
 | zero => simp at ha hb; subst ha; subst hb; exact h
 | succ i => simp at ha hb; exact t.2 i a b ha hb
theorem cvE_one {m : Bool} {H : Heap} {e e' : AV} (h : Cv m H e e') (h1 : e.cells = [e]) (h2 : e'.cells = [e']) : CvE m H e e' := by
 refine ⟨by rw [h1, h2]; rfl, fun k a b ha hb => ?_⟩
 rw [h1] at ha; rw [h2] at hb
 cases k with
 | zero => simp at ha hb; subst ha; subst hb; exact h
 | succ k => simp at ha
theorem cvE_agg {m : Bool} {H : Heap} {cs cs' : List AV} (h : Cvs m H cs cs') : CvE m H (.agg cs) (.agg cs') := ⟨h.len, h.rel⟩
theorem cv_refs {m : Bool} {H : Heap} {o n : Nat} {x : Obj} {es : List AV} (hH : H o = some x) (h : CvL m H x.es es) (hn : n = es.length) : Cv m H (.ref o 0 n) (.list m es) := by
 subst hn
 refine .ref hH (by rw [h.1]; omega) rfl (fun i e e' he he' => ?_) (fun i e e' k a b he he' ha hb => ?_)
 ·rw [Nat.zero_add] at he; exact (h.2 i e e' he he').1
 ·rw [Nat.zero_add] at he; exact (h.2 i e e' he he').2 k a b ha hb
theorem law21_alive_ok (r : Bool) (h : law21_alive = some r) : Pure Tryz.prog 29 [] (aB r) := by
 refine Pure.sym tyTab_ok fn29 (nt := 59) rfl rfl ?_ allNil
 unfold law21_alive at h
 refine bindE h ?_
 clear h; intro v1 h2 h
 refine bindE h ?_
 clear h; intro v3 h4 h
 refine bindE h ?_
 clear h; intro v5 h6 h
 refine bindE h ?_
 clear h; intro v7 h8 h
 refine bindE h ?_
 clear h; intro v9 h10 h
 refine bindE h ?_
 clear h; intro v11 h12 h
 refine bindE h ?_
 clear h; intro v13 h14 h
 refine bindE h ?_
 clear h; intro j32_0 h50 h
 refine run_to tmD 4000 [.pure [(aI .i64 1), (aI .i64 3), (aI .i64 5)] (enc_GEvent v1), .pure [(aI .i64 10)] (enc_GEvent v3), .pure [(aI .i64 1), (aI .i64 12), (aI .i64 7)] (enc_GEvent v5), .pure [(aI .i64 1), (aI .i64 9), (aI .i64 1)] (enc_GEvent v7), .pure [] (enc_GQuery true v9), .pure [(enc_GQuery false v9), (AV.list false (List.map (encl false enc_GEvent) [[v1, v3, v5, v7]]))] (AV.tup [(AV.list true (List.map enc_GRow v11.1)), (AV.list true (List.map enc_GRecord v11.2.1)), (aI .i64 v11.2.2)]), .pure [] (enc_GQuery true v9), .pure [(enc_GQuery false v9), (AV.list false (List.map (encl false enc_GEvent) [[v1, v3, v5, v7]]))] (AV.tup [(AV.list true (List.map enc_GRow v13.1)), (AV.list true (List.map enc_GRecord v13.2.1)), (aI .i64 v13.2.2)]), .stop 4] rfl (by repeat' first | refine And.intro ?_ ?_ | exact (PureCall.none (law21_at_ok _ _ _ _ h2) (Cvs.cons .sc (Cvs.cons .sc (Cvs.cons .sc Cvs.nil)))) | exact (PureCall.none (law21_mark_ok _ _ h4) (Cvs.cons .sc Cvs.nil)) | exact (PureCall.none (law21_at_ok _ _ _ _ h6) (Cvs.cons .sc (Cvs.cons .sc (Cvs.cons .sc Cvs.nil)))) | exact (PureCall.none (law21_at_ok _ _ _ _ h8) (Cvs.cons .sc (Cvs.cons .sc (Cvs.cons .sc Cvs.nil)))) | exact (PureCall.none (law21_sum_ok _ h10) Cvs.nil) | exact (PureCall.lent (meaning_All_ok _ _ _ h12) (Cvs.cons (cva_GQuery (o := true) (x := v9)) (Cvs.cons (cv_refs rfl (CvL.cons (cvE_one (cv_ref (es := List.map enc_GEvent [v1, v3, v5, v7]) rfl (by first | rfl | (simp; done) | (simp; rfl) | (simp []; done) | (simp []; rfl) | (simp [List.map_take, List.map_drop]; done) | (simp [List.map_take, List.map_drop]; rfl)) (by first | rfl | (simp; done) | (simp; omega) | (simp []; done) | (simp []; omega)) (flat_map flat_GEvent [v1, v3, v5, v7])) rfl rfl) CvL.nil) rfl) Cvs.nil)) (ownTup (allCons (ownO_list (flat_map flat_GRow _)) (allCons (ownO_list (flat_map flat_GRecord _)) (allCons .sc allNil))))) | exact (PureCall.lent (meaning_Emitted_ok _ _ _ h14) (Cvs.cons (cva_GQuery (o := true) (x := v9)) (Cvs.cons (cv_refs rfl (CvL.cons (cvE_one (cv_ref (es := List.map enc_GEvent [v1, v3, v5, v7]) rfl (by first | rfl | (simp; done) | (simp; rfl) | (simp []; done) | (simp []; rfl) | (simp [List.map_take, List.map_drop]; done) | (simp [List.map_take, List.map_drop]; rfl)) (by first | rfl | (simp; done) | (simp; omega) | (simp []; done) | (simp []; omega)) (flat_map flat_GEvent [v1, v3, v5, v7])) rfl rfl) CvL.nil) rfl) Cvs.nil)) (ownTup (allCons (ownO_list (flat_map flat_GRow _)) (allCons (ownO_list (flat_map flat_GRecord _)) (allCons .sc allNil))))) | exact oblA) ?_
 refine SemK.join (s' := ⟨fr [(0, (aB j32_0))], hp ([]), 0⟩) ?_ (fun J => SemK.cut ?_)
 ·
  obtain rfl := Option.some.inj h
  refine runT tmD [] ?_
  refine fin_ret rfl ?_
  exact .sc
 ·
  clear h
  have h := h50
  refine brE h ?_ ?_
  ·clear h; intro h33 h
   refine bindE h ?_
   clear h; intro v34 h35 h
   refine bindE h ?_
   clear h; intro v36 h37 h
   refine bindE h ?_
   clear h; intro v38 h39 h
   refine run_to tmD 4000 [.go true, .go true, .pure [(aI .i64 0), (aI .i64 10), (aI .i64 5)] (enc_GRow v34), .go true, .pure [(aI .i64 10), (aI .i64 20), (aI .i64 7)] (enc_GRow v36), .go true, .go true, .pure [(AV.list false (List.map enc_GRow v11.1)), (AV.list false (List.map enc_GRow [v34, v36]))] (aB v38), .stop 0] rfl (by repeat' first | refine And.intro ?_ ?_ | exact (PureCall.none (law21_at_ok _ _ _ _ h2) (Cvs.cons .sc (Cvs.cons .sc (Cvs.cons .sc Cvs.nil)))) | exact (PureCall.none (law21_mark_ok _ _ h4) (Cvs.cons .sc Cvs.nil)) | exact (PureCall.none (law21_at_ok _ _ _ _ h6) (Cvs.cons .sc (Cvs.cons .sc (Cvs.cons .sc Cvs.nil)))) | exact (PureCall.none (law21_at_ok _ _ _ _ h8) (Cvs.cons .sc (Cvs.cons .sc (Cvs.cons .sc Cvs.nil)))) | exact (PureCall.none (law21_sum_ok _ h10) Cvs.nil) | exact (PureCall.lent (meaning_All_ok _ _ _ h12) (Cvs.cons (cva_GQuery (o := true) (x := v9)) (Cvs.cons (cv_refs rfl (CvL.cons (cvE_one (cv_ref (es := List.map enc_GEvent [v1, v3, v5, v7]) rfl (by first | rfl | (simp; done) | (simp; rfl) | (simp []; done) | (simp []; rfl) | (simp [List.map_take, List.map_drop]; done) | (simp [List.map_take, List.map_drop]; rfl)) (by first | rfl | (simp; done) | (simp; omega) | (simp []; done) | (simp []; omega)) (flat_map flat_GEvent [v1, v3, v5, v7])) rfl rfl) CvL.nil) rfl) Cvs.nil)) (ownTup (allCons (ownO_list (flat_map flat_GRow _)) (allCons (ownO_list (flat_map flat_GRecord _)) (allCons .sc allNil))))) | exact (PureCall.lent (meaning_Emitted_ok _ _ _ h14) (Cvs.cons (cva_GQuery (o := true) (x := v9)) (Cvs.cons (cv_refs rfl (CvL.cons (cvE_one (cv_ref (es := List.map enc_GEvent [v1, v3, v5, v7]) rfl (by first | rfl | (simp; done) | (simp; rfl) | (simp []; done) | (simp []; rfl) | (simp [List.map_take, List.map_drop]; done) | (simp [List.map_take, List.map_drop]; rfl)) (by first | rfl | (simp; done) | (simp; omega) | (simp []; done) | (simp []; omega)) (flat_map flat_GEvent [v1, v3, v5, v7])) rfl rfl) CvL.nil) rfl) Cvs.nil)) (ownTup (allCons (ownO_list (flat_map flat_GRow _)) (allCons (ownO_list (flat_map flat_GRecord _)) (allCons .sc allNil))))) | exact (PureCall.none (law21_row_ok _ _ _ _ h35) (Cvs.cons .sc (Cvs.cons .sc (Cvs.cons .sc Cvs.nil)))) | exact (PureCall.none (law21_row_ok _ _ _ _ h37) (Cvs.cons .sc (Cvs.cons .sc (Cvs.cons .sc Cvs.nil)))) | exact (PureCall.lent (ref21_Same_ok _ _ _ h39) (Cvs.cons (cv_list (flat_map flat_GRow v11.1)) (Cvs.cons (cv_ref (es := List.map enc_GRow [v34, v36]) rfl (by first | rfl | (simp; done) | (simp; rfl) | (simp [h33]; done) | (simp [h33]; rfl) | (simp [h33, List.map_take, List.map_drop]; done) | (simp [h33, List.map_take, List.map_drop]; rfl)) (by first | rfl | (simp; done) | (simp; omega) | (simp [h33]; done) | (simp [h33]; omega)) (flat_map flat_GRow [v34, v36])) Cvs.nil)) .sc) | exact oblA) ?_
   refine brE h ?_ ?_
   ·clear h; intro h40 h
    refine brE h ?_ ?_
    ·clear h; intro h41 h
     refine bindE h ?_
     clear h; intro e42 h43 h
     try have qh43 := getI_lt h43
     refine brE h ?_ ?_
     ·clear h; intro h44 h
      refine run_to tmD 4000 [.go true, .go true, .el (aI .i64 (List.length v11.2.1 : Int)), .go true, .go true, .go true, .el (enc_GRecord e42), .go true, .go true, .go true, .go true, .go true, .stop 0] rfl (by repeat' first | refine And.intro ?_ ?_ | exact ((bif_t h33 h40)) | exact (bnot_of (bif_t h33 h40)) | exact (absN (bif_t h33 h40)) | exact ((bif_t (bif_t h33 h40) h41)) | exact (bnot_of (bif_t (bif_t h33 h40) h41)) | exact (absN (bif_t (bif_t h33 h40) h41)) | exact ((bif_t (bif_t (bif_t h33 h40) h41) h44)) | exact (bnot_of (bif_t (bif_t (bif_t h33 h40) h41) h44)) | exact (absN (bif_t (bif_t (bif_t h33 h40) h41) h44)) | exact oblA) ?_
      refine brE h ?_ ?_
      ·clear h; intro h45 h
       refine bindE h ?_
       clear h; intro m46 h47 h
       obtain ⟨qah47, qbh47, qch47, qh47⟩ := sliceI_ok h47
       have qlh47 := sliceI_len h47
       refine bindE h ?_
       clear h; intro v48 h49 h
       obtain rfl := Option.some.inj h
       refine run_to tmD 4000 [.go true, .go true, .go true, .via (AV.list true (List.map enc_GRow m46)), .go true, .pure [(AV.list false (List.map enc_GRow v13.1)), (AV.list false (List.map enc_GRow m46))] (aB v48)] rfl (by repeat' first | refine And.intro ?_ ?_ | exact ((bif_t (bif_t (bif_t (bif_t h33 h40) h41) h44) h45)) | exact (bnot_of (bif_t (bif_t (bif_t (bif_t h33 h40) h41) h44) h45)) | (simp at qah47 qbh47 qch47 ⊢; omega) | (rw [qh47]; simp [List.map_take, List.map_drop]; done) | exact (PureCall.none (ref21_Same_ok _ _ _ h49) (Cvs.cons (cv_list (flat_map flat_GRow v13.1)) (Cvs.cons (cv_list (flat_map flat_GRow m46)) Cvs.nil))) | exact (absN (bif_t (bif_t (bif_t (bif_t h33 h40) h41) h44) h45)) | exact oblA) ?_
       exact wkT [] (SemK.glue J)
      ·clear h; intro h45 h
       obtain rfl := Option.some.inj h
       refine run_to tmD 4000 [.go false, .go false, .go false, .go false] rfl (by repeat' first | refine And.intro ?_ ?_ | exact ((bif_t (bif_t (bif_t (bif_t h33 h40) h41) h44) h45)) | exact (bnot_of (bif_t (bif_t (bif_t (bif_t h33 h40) h41) h44) h45)) | exact (absT (bif_t (bif_t (bif_t (bif_t h33 h40) h41) h44) h45)) | exact oblA) ?_
       exact wkT [] (SemK.glue J)
     ·clear h; intro h44 h
      obtain rfl := Option.some.inj h
      refine run_to tmD 4000 [.go true, .go true, .el (aI .i64 (List.length v11.2.1 : Int)), .go true, .go true, .go true, .el (enc_GRecord e42), .go true, .go true, .go true, .go false, .go false, .go false, .go false, .go false, .go false] rfl (by repeat' first | refine And.intro ?_ ?_ | exact ((bif_t h33 h40)) | exact (bnot_of (bif_t h33 h40)) | exact (absN (bif_t h33 h40)) | exact ((bif_t (bif_t h33 h40) h41)) | exact (bnot_of (bif_t (bif_t h33 h40) h41)) | exact (absN (bif_t (bif_t h33 h40) h41)) | exact ((bif_t (bif_t (bif_t h33 h40) h41) h44)) | exact (bnot_of (bif_t (bif_t (bif_t h33 h40) h41) h44)) | exact (absT (bif_t (bif_t (bif_t h33 h40) h41) h44)) | exact ((bif_f (bif_t (bif_t (bif_t h33 h40) h41) h44) rfl)) | exact (bnot_of (bif_f (bif_t (bif_t (bif_t h33 h40) h41) h44) rfl)) | exact (absT (bif_f (bif_t (bif_t (bif_t h33 h40) h41) h44) rfl)) | exact oblA) ?_
      exact wkT [] (SemK.glue J)
    ·clear h; intro h41 h
     obtain rfl := Option.some.inj h
     refine run_to tmD 4000 [.go true, .go true, .el (aI .i64 (List.length v11.2.1 : Int)), .go true, .go false, .go false, .go false, .go false, .go false, .go false, .go false, .go false, .go false, .go false, .go false] rfl (by repeat' first | refine And.intro ?_ ?_ | exact ((bif_t h33 h40)) | exact (bnot_of (bif_t h33 h40)) | exact (absN (bif_t h33 h40)) | exact ((bif_t (bif_t h33 h40) h41)) | exact (bnot_of (bif_t (bif_t h33 h40) h41)) | exact (absT (bif_t (bif_t h33 h40) h41)) | exact ((bif_f (bif_t (bif_t h33 h40) h41) rfl)) | exact (bnot_of (bif_f (bif_t (bif_t h33 h40) h41) rfl)) | exact (absT (bif_f (bif_t (bif_t h33 h40) h41) rfl)) | exact ((bif_f (bif_f (bif_t (bif_t h33 h40) h41) rfl) rfl)) | exact (bnot_of (bif_f (bif_f (bif_t (bif_t h33 h40) h41) rfl) rfl)) | exact (absT (bif_f (bif_f (bif_t (bif_t h33 h40) h41) rfl) rfl)) | exact oblA) ?_
     exact wkT [] (SemK.glue J)
   ·clear h; intro h40 h
    obtain rfl := Option.some.inj h
    refine run_to tmD 4000 [.go false, .go false, .go false, .go false, .go false, .go false, .go false, .go false, .go false, .go false, .go false, .go false, .go false, .go false] rfl (by repeat' first | refine And.intro ?_ ?_ | exact ((bif_t h33 h40)) | exact (bnot_of (bif_t h33 h40)) | exact (absT (bif_t h33 h40)) | exact ((bif_f (bif_t h33 h40) rfl)) | exact (bnot_of (bif_f (bif_t h33 h40) rfl)) | exact (absT (bif_f (bif_t h33 h40) rfl)) | exact ((bif_f (bif_f (bif_t h33 h40) rfl) rfl)) | exact (bnot_of (bif_f (bif_f (bif_t h33 h40) rfl) rfl)) | exact (absT (bif_f (bif_f (bif_t h33 h40) rfl) rfl)) | exact ((bif_f (bif_f (bif_f (bif_t h33 h40) rfl) rfl) rfl)) | exact (bnot_of (bif_f (bif_f (bif_f (bif_t h33 h40) rfl) rfl) rfl)) | exact (absT (bif_f (bif_f (bif_f (bif_t h33 h40) rfl) rfl) rfl)) | exact oblA) ?_
    exact wkT [] (SemK.glue J)
  ·clear h; intro h33 h
   obtain rfl := Option.some.inj h
   refine run_to tmD 4000 [.go false, .go false, .go false, .go false, .go false, .go false, .go false, .go false, .go false, .go false, .go false, .go false, .go false, .go false, .go false, .go false, .go false, .go false, .go false] rfl (by repeat' first | refine And.intro ?_ ?_ | exact (PureCall.none (law21_at_ok _ _ _ _ h2) (Cvs.cons .sc (Cvs.cons .sc (Cvs.cons .sc Cvs.nil)))) | exact (PureCall.none (law21_mark_ok _ _ h4) (Cvs.cons .sc Cvs.nil)) | exact (PureCall.none (law21_at_ok _ _ _ _ h6) (Cvs.cons .sc (Cvs.cons .sc (Cvs.cons .sc Cvs.nil)))) | exact (PureCall.none (law21_at_ok _ _ _ _ h8) (Cvs.cons .sc (Cvs.cons .sc (Cvs.cons .sc Cvs.nil)))) | exact (PureCall.none (law21_sum_ok _ h10) Cvs.nil) | exact (PureCall.lent (meaning_All_ok _ _ _ h12) (Cvs.cons (cva_GQuery (o := true) (x := v9)) (Cvs.cons (cv_refs rfl (CvL.cons (cvE_one (cv_ref (es := List.map enc_GEvent [v1, v3, v5, v7]) rfl (by first | rfl | (simp; done) | (simp; rfl) | (simp []; done) | (simp []; rfl) | (simp [List.map_take, List.map_drop]; done) | (simp [List.map_take, List.map_drop]; rfl)) (by first | rfl | (simp; done) | (simp; omega) | (simp []; done) | (simp []; omega)) (flat_map flat_GEvent [v1, v3, v5, v7])) rfl rfl) CvL.nil) rfl) Cvs.nil)) (ownTup (allCons (ownO_list (flat_map flat_GRow _)) (allCons (ownO_list (flat_map flat_GRecord _)) (allCons .sc allNil))))) | exact (PureCall.lent (meaning_Emitted_ok _ _ _ h14) (Cvs.cons (cva_GQuery (o := true) (x := v9)) (Cvs.cons (cv_refs rfl (CvL.cons (cvE_one (cv_ref (es := List.map enc_GEvent [v1, v3, v5, v7]) rfl (by first | rfl | (simp; done) | (simp; rfl) | (simp []; done) | (simp []; rfl) | (simp [List.map_take, List.map_drop]; done) | (simp [List.map_take, List.map_drop]; rfl)) (by first | rfl | (simp; done) | (simp; omega) | (simp []; done) | (simp []; omega)) (flat_map flat_GEvent [v1, v3, v5, v7])) rfl rfl) CvL.nil) rfl) Cvs.nil)) (ownTup (allCons (ownO_list (flat_map flat_GRow _)) (allCons (ownO_list (flat_map flat_GRecord _)) (allCons .sc allNil))))) | exact ((bif_f h33 rfl)) | exact (bnot_of (bif_f h33 rfl)) | exact (absT (bif_f h33 rfl)) | exact ((bif_f (bif_f h33 rfl) rfl)) | exact (bnot_of (bif_f (bif_f h33 rfl) rfl)) | exact (absT (bif_f (bif_f h33 rfl) rfl)) | exact ((bif_f (bif_f (bif_f h33 rfl) rfl) rfl)) | exact (bnot_of (bif_f (bif_f (bif_f h33 rfl) rfl) rfl)) | exact (absT (bif_f (bif_f (bif_f h33 rfl) rfl) rfl)) | exact ((bif_f (bif_f (bif_f (bif_f h33 rfl) rfl) rfl) rfl)) | exact (bnot_of (bif_f (bif_f (bif_f (bif_f h33 rfl) rfl) rfl) rfl)) | exact (absT (bif_f (bif_f (bif_f (bif_f h33 rfl) rfl) rfl) rfl)) | exact oblA) ?_
   exact wkT [] (SemK.glue J)
end Go.Av.Tryz
