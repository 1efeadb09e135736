/- Printed by decomp.py: that the program computes the functions. -/
import Derived.Test.YtneciiakpbfnjaaGreatDCert0J
import Derived.Test.YtneciiakpbfnjaaGreatDCert13J
set_option linter.all false
set_option linter.unusedVariables false
namespace Go.Av.Tryz
open Go.Proofs Go.D
set_option maxRecDepth 10000
set_option maxHeartbeats 4000000

theorem law33_takes_L1_ok {Q : AExit → St → Mu → Prop} {μ : Mu} (y1_1 : (List Int)) (y1_2 : (List GMessage)) (y1_o0 : GQuery) (y1_o1 : GTask) (y1_o2 : GTask) (y1_12 : Int) (y1_o4 : GTask) : ∀ (n : Nat) (y1_o3 : (List GRow)) (y1_15 : Int) (nb_y1_o3 : Nb y1_o3) (o : law33_takes_L1_o) (h : law33_takes_L1 y1_1 y1_2 y1_o0 y1_o1 y1_o2 y1_12 y1_o4 n y1_o3 y1_15 = some o)
  (C0 : ∀ (z1_0_o3 : (List GRow)) (nb_z1_0_o3 : Nb z1_0_o3), o = law33_takes_L1_o.x0 z1_0_o3 → SemK Tryz.prog 67 0 Q (.exit (.exit 2)) [] ⟨fr [(1, (AV.list false (List.map (aI .i64) y1_1))), (2, (AV.list false (List.map enc_GMessage y1_2))), (3, (AV.ptr 0 0 0)), (6, (AV.ptr 1 0 0)), (9, (AV.ptr 2 0 0)), (11, (slE nb_z1_0_o3.1 3 (List.map enc_GRow z1_0_o3))), (12, (aI .i64 y1_12)), (13, (AV.ptr 4 0 0))], hp ([(0, { es := [(enc_GQuery false y1_o0)], esz := 10 }), (1, { es := [(enc_GTask true y1_o1)], esz := 9 }), (2, { es := [(enc_GTask true y1_o2)], esz := 9 }), (4, { es := [(enc_GTask true y1_o4)], esz := 9 })] ++ opE nb_z1_0_o3.1 3 5 (List.map enc_GRow z1_0_o3)), 5⟩ μ),
  SemK Tryz.prog 67 0 Q (.loop (loopB 1 (bodyOf Tryz.f14))) [] ⟨fr [(1, (AV.list false (List.map (aI .i64) y1_1))), (2, (AV.list false (List.map enc_GMessage y1_2))), (3, (AV.ptr 0 0 0)), (6, (AV.ptr 1 0 0)), (9, (AV.ptr 2 0 0)), (11, (slE nb_y1_o3.1 3 (List.map enc_GRow y1_o3))), (12, (aI .i64 y1_12)), (13, (AV.ptr 4 0 0)), (15, (aI .i64 y1_15))], hp ([(0, { es := [(enc_GQuery false y1_o0)], esz := 10 }), (1, { es := [(enc_GTask true y1_o1)], esz := 9 }), (2, { es := [(enc_GTask true y1_o2)], esz := 9 }), (4, { es := [(enc_GTask true y1_o4)], esz := 9 })] ++ opE nb_y1_o3.1 3 5 (List.map enc_GRow y1_o3)), 5⟩ μ := by
 intro n
 induction n with
 | zero => intro y1_o3 y1_15 nb_y1_o3 o h C0; cases h
 | succ n ih =>
  intro y1_o3 y1_15 nb_y1_o3 o h C0
  rw [law33_takes_L1] at h
  rcases nb_y1_o3 with ⟨_ | _, hn_y1_o3⟩
  ·
   refine SemK.round ?_
   refine brE h ?_ ?_
   ·clear h; intro h165 h
    refine bindE h ?_
    clear h; intro e166 h167 h
    try have qh167 := getI_lt h167
    refine bindE h ?_
    clear h; intro u168 h169 h
    refine run_to tmD 4000 [.el (aI .i64 (List.length y1_o4.Pending : Int)), .br true, .el (enc_GSend e166), .no, .wrap] rfl (by repeat' first | refine And.intro ?_ ?_ | (refine capLe h169 rfl ?_; first | (simp; done) | (simp; omega) | (simp [h165]; done) | (simp [h165]; omega)) | (refine capMax h169 (by decide) ?_; first | (simp; done) | (simp; omega) | (simp [h165]; done) | (simp [h165]; omega)) | exact oblA) ?_
    exact wkT [(3, 6)] (ih  _ _ nbF o h C0)
   ·clear h; intro h165 h
    obtain rfl := Option.some.inj h
    refine runT tmD [.el (aI .i64 (List.length y1_o4.Pending : Int)), .br false] ?_
    exact wkT [] (C0 _  nbF rfl)
  ·
   obtain rfl := hn_y1_o3 rfl
   refine SemK.round ?_
   refine brE h ?_ ?_
   ·clear h; intro h170 h
    refine bindE h ?_
    clear h; intro e171 h172 h
    try have qh172 := getI_lt h172
    refine bindE h ?_
    clear h; intro u173 h174 h
    refine run_to tmD 4000 [.el (aI .i64 (List.length y1_o4.Pending : Int)), .br true, .el (enc_GSend e171), .no, .wrap] rfl (by repeat' first | refine And.intro ?_ ?_ | (refine capLe h174 rfl ?_; first | (simp; done) | (simp; omega) | (simp [h170]; done) | (simp [h170]; omega)) | (refine capMax h174 (by decide) ?_; first | (simp; done) | (simp; omega) | (simp [h170]; done) | (simp [h170]; omega)) | exact oblA) ?_
    exact wkT [(3, 6)] (ih  _ _ nbF o h C0)
   ·clear h; intro h170 h
    obtain rfl := Option.some.inj h
    refine runT tmD [.el (aI .i64 (List.length y1_o4.Pending : Int)), .br false] ?_
    exact wkT [] (C0 _  (nbT (by first | rfl | simp [*])) rfl)

theorem law33_takes_L0_ok {Q : AExit → St → Mu → Prop} {μ : Mu} (y0_1 : (List Int)) (y0_2 : (List GMessage)) (y0_o0 : GQuery) (y0_o1 : GTask) (hl : List.length y0_2 ≤ 140737488355328) : ∀ (xs : List GMessage) (k : Nat) (hx : y0_2.drop k = xs) (y0_o2 : GTask) (y0_o3 : (List GRow)) (nb_y0_o3 : Nb y0_o3) (o : law33_takes_L0_o) (h : law33_takes_L0 y0_1 y0_2 y0_o0 y0_o1 xs k y0_o2 y0_o3 = some o)
  (C0 : ∀ (z0_0_o1 : GTask) (z0_0_o2 : (List GRow)) (nb_z0_0_o2 : Nb z0_0_o2), o = law33_takes_L0_o.x0 z0_0_o1 z0_0_o2 → SemK Tryz.prog 67 0 Q (.exit (.exit 0)) [] ⟨fr [(6, (AV.ptr 0 0 0)), (9, (AV.ptr 1 0 0)), (11, (slE nb_z0_0_o2.1 2 (List.map enc_GRow z0_0_o2)))], hp ([(0, { es := [(enc_GTask true y0_o1)], esz := 9 }), (1, { es := [(enc_GTask true z0_0_o1)], esz := 9 })] ++ opE nb_z0_0_o2.1 2 5 (List.map enc_GRow z0_0_o2)), 3⟩ μ)
  (C1 : ∀ (z0_1_o1 : (List GRow)) (nb_z0_1_o1 : Nb z0_1_o1), o = law33_takes_L0_o.x1 z0_1_o1 → SemK Tryz.prog 67 0 Q (.exit .ret) [] ⟨fr [(6, (AV.ptr 0 0 0)), (7, (slE nb_z0_1_o1.1 1 (List.map enc_GRow z0_1_o1))), (8, (aB false))], hp ([(0, { es := [(enc_GTask true (GTask.mk (GOp.mk 0 0) 0 ([] : List GSend) ([] : List Int) ([] : List GEntry) ([] : List GEvent) ([] : List GRow) ([] : List GRecord)))], esz := 9 })] ++ opE nb_z0_1_o1.1 1 5 (List.map enc_GRow z0_1_o1)), 2⟩ μ),
  SemK Tryz.prog 67 0 Q (.loop (loopB 0 (bodyOf Tryz.f14))) [] ⟨fr [(1, (AV.list false (List.map (aI .i64) y0_1))), (2, (AV.list false (List.map enc_GMessage y0_2))), (3, (AV.ptr 0 0 0)), (6, (AV.ptr 1 0 0)), (9, (AV.ptr 2 0 0)), (11, (slE nb_y0_o3.1 3 (List.map enc_GRow y0_o3))), (12, (aI .i64 (k : Int)))], hp ([(0, { es := [(enc_GQuery false y0_o0)], esz := 10 }), (1, { es := [(enc_GTask true y0_o1)], esz := 9 }), (2, { es := [(enc_GTask true y0_o2)], esz := 9 })] ++ opE nb_y0_o3.1 3 5 (List.map enc_GRow y0_o3)), 4⟩ μ := by
 intro xs
 induction xs with
 | nil =>
  intro k hx y0_o2 y0_o3 nb_y0_o3 o h C0 C1
  have hk := drop_nil hx
  have hc : decide ((k : Int) < (List.length y0_2 : Int)) = false := decide_eq_false (by omega)
  rw [law33_takes_L0] at h
  rcases nb_y0_o3 with ⟨_ | _, hn_y0_o3⟩
  ·
   refine SemK.round ?_
   obtain rfl := Option.some.inj h
   refine runT tmD [.el (aI .i64 (List.length y0_2 : Int)), .br false] ?_
   exact wkT [(0, 1), (1, 2), (2, 3)] (C0 _ _  nbF rfl)
  ·
   obtain rfl := hn_y0_o3 rfl
   refine SemK.round ?_
   obtain rfl := Option.some.inj h
   refine runT tmD [.el (aI .i64 (List.length y0_2 : Int)), .br false] ?_
   exact wkT [(0, 1), (1, 2)] (C0 _ _  (nbT (by first | rfl | simp [*])) rfl)
 | cons x xs ih =>
  intro k hx y0_o2 y0_o3 nb_y0_o3 o h C0 C1
  obtain ⟨hk, hg, hx1⟩ := drop_cons hx
  have hc : decide ((k : Int) < (List.length y0_2 : Int)) = true := decide_eq_true (by omega)
  rw [law33_takes_L0] at h
  rcases nb_y0_o3 with ⟨_ | _, hn_y0_o3⟩
  ·
   refine SemK.round ?_
   refine bindE h ?_
   clear h; intro e139 h140 h
   try have qh140 := getI_lt h140
   refine bindE h ?_
   clear h; intro v141 h142 h
   refine run_to tmD 4000 [.el (aI .i64 (List.length y0_2 : Int)), .br true, .el (aI .i64 e139), .el (enc_GMessage x), .pure [(enc_GQuery false y0_o0), (enc_GTask false y0_o2), (aI .i64 e139), (enc_GMessage x)] (AV.tup [(enc_GTask true v141.1), (aI .i64 v141.2)])] rfl (by repeat' first | refine And.intro ?_ ?_ | exact (PureCall.none (join_Take_ok _ _ _ _ _ h142) (Cvs.cons (cv_agg (Cvs.cons .sc (Cvs.cons (cv_list (flat_map flat_GNode y0_o0.Arg)) (Cvs.cons (cv_list (flat_map (fun _ => flatSc) y0_o0.Sources)) (Cvs.cons .sc (Cvs.cons (cv_list (flat_map flat_GNode y0_o0.Where)) (Cvs.cons .sc (Cvs.cons .sc (Cvs.cons .sc (Cvs.cons .sc (Cvs.cons .sc Cvs.nil))))))))))) (Cvs.cons (cv_agg (Cvs.cons .sc (Cvs.cons .sc (Cvs.cons .sc (Cvs.cons (cv_list (flat_map flat_GSend y0_o2.Pending)) (Cvs.cons (cv_list (flat_map (fun _ => flatSc) y0_o2.Marks)) (Cvs.cons (cv_list (flat_map flat_GEntry y0_o2.Store)) (Cvs.cons (cv_list (flat_map flat_GEvent y0_o2.Events)) (Cvs.cons (cv_list (flat_map flat_GRow y0_o2.Rows)) (Cvs.cons (cv_list (flat_map flat_GRecord y0_o2.Late)) Cvs.nil)))))))))) (Cvs.cons .sc (Cvs.cons (cvf_GMessage (x := x)) Cvs.nil))))) | exact oblA) ?_
   refine brE h ?_ ?_
   ·clear h; intro h143 h
    obtain rfl := Option.some.inj h
    refine runT tmD [.br true] ?_
    refine SemK.denil 1 [AV.agg [(aI .u8 0), (aI .i64 0), (aI .i64 0), (AV.list true (List.map enc_GSend ([] : List GSend))), (AV.list true (List.map (aI .i64) ([] : List Int))), (AV.list true (List.map enc_GEntry ([] : List GEntry))), (AV.list true (List.map enc_GEvent ([] : List GEvent))), (AV.list true (List.map enc_GRow ([] : List GRow))), (AV.list true (List.map enc_GRecord ([] : List GRecord)))]] rfl rfl ?_
    exact wkT [(0, 1)] (C1 _  (nbT (by first | rfl | simp [*])) rfl)
   ·clear h; intro h143 h
    refine bindE h ?_
    clear h; intro o175 h176 h
    refine runT tmD [.br false] ?_
    refine wkT [(4, 18)] (SemK.cut (law33_takes_L1_ok y0_1 y0_2 y0_o0 y0_o1 y0_o2 (k : Int) v141.1 _ _ _ nbF _ h176 ?_))
    ·intro z1_0_o3 nb_z1_0_o3 eo175; subst eo175
     refine SemK.glue ?_
     try dsimp only at h
     rcases nb_z1_0_o3 with ⟨_ | _, hn_z1_0_o3⟩
     ·
      refine runT tmD [] ?_
      refine SemK.denil 2 [AV.agg [(aI .u8 v141.1.Op.Kind), (aI .i64 v141.1.Op.N), (aI .i64 v141.1.Turn), (AV.list true (List.map enc_GSend ([] : List GSend))), (AV.list true (List.map (aI .i64) v141.1.Marks)), (AV.list true (List.map enc_GEntry v141.1.Store)), (AV.list true (List.map enc_GEvent v141.1.Events)), (AV.list true (List.map enc_GRow v141.1.Rows)), (AV.list true (List.map enc_GRecord v141.1.Late))]] rfl rfl ?_
      refine SemK.denil 4 [AV.agg [(aI .u8 v141.1.Op.Kind), (aI .i64 v141.1.Op.N), (aI .i64 v141.1.Turn), (AV.list true (List.map enc_GSend ([] : List GSend))), (AV.list true (List.map (aI .i64) v141.1.Marks)), (AV.list true (List.map enc_GEntry v141.1.Store)), (AV.list true (List.map enc_GEvent v141.1.Events)), (AV.list true (List.map enc_GRow v141.1.Rows)), (AV.list true (List.map enc_GRecord v141.1.Late))]] rfl rfl ?_
      exact wkT [] (ih (k + 1) hx1 _ _ nbF o h C0 C1)
     ·
      obtain rfl := hn_z1_0_o3 rfl
      refine runT tmD [] ?_
      refine SemK.denil 2 [AV.agg [(aI .u8 v141.1.Op.Kind), (aI .i64 v141.1.Op.N), (aI .i64 v141.1.Turn), (AV.list true (List.map enc_GSend ([] : List GSend))), (AV.list true (List.map (aI .i64) v141.1.Marks)), (AV.list true (List.map enc_GEntry v141.1.Store)), (AV.list true (List.map enc_GEvent v141.1.Events)), (AV.list true (List.map enc_GRow v141.1.Rows)), (AV.list true (List.map enc_GRecord v141.1.Late))]] rfl rfl ?_
      refine SemK.denil 4 [AV.agg [(aI .u8 v141.1.Op.Kind), (aI .i64 v141.1.Op.N), (aI .i64 v141.1.Turn), (AV.list true (List.map enc_GSend ([] : List GSend))), (AV.list true (List.map (aI .i64) v141.1.Marks)), (AV.list true (List.map enc_GEntry v141.1.Store)), (AV.list true (List.map enc_GEvent v141.1.Events)), (AV.list true (List.map enc_GRow v141.1.Rows)), (AV.list true (List.map enc_GRecord v141.1.Late))]] rfl rfl ?_
      exact wkT [] (ih (k + 1) hx1 _ _ (nbT (by first | rfl | simp [*])) o h C0 C1)
  ·
   obtain rfl := hn_y0_o3 rfl
   refine SemK.round ?_
   refine bindE h ?_
   clear h; intro e177 h178 h
   try have qh178 := getI_lt h178
   refine bindE h ?_
   clear h; intro v179 h180 h
   refine run_to tmD 4000 [.el (aI .i64 (List.length y0_2 : Int)), .br true, .el (aI .i64 e177), .el (enc_GMessage x), .pure [(enc_GQuery false y0_o0), (enc_GTask false y0_o2), (aI .i64 e177), (enc_GMessage x)] (AV.tup [(enc_GTask true v179.1), (aI .i64 v179.2)])] rfl (by repeat' first | refine And.intro ?_ ?_ | exact (PureCall.none (join_Take_ok _ _ _ _ _ h180) (Cvs.cons (cv_agg (Cvs.cons .sc (Cvs.cons (cv_list (flat_map flat_GNode y0_o0.Arg)) (Cvs.cons (cv_list (flat_map (fun _ => flatSc) y0_o0.Sources)) (Cvs.cons .sc (Cvs.cons (cv_list (flat_map flat_GNode y0_o0.Where)) (Cvs.cons .sc (Cvs.cons .sc (Cvs.cons .sc (Cvs.cons .sc (Cvs.cons .sc Cvs.nil))))))))))) (Cvs.cons (cv_agg (Cvs.cons .sc (Cvs.cons .sc (Cvs.cons .sc (Cvs.cons (cv_list (flat_map flat_GSend y0_o2.Pending)) (Cvs.cons (cv_list (flat_map (fun _ => flatSc) y0_o2.Marks)) (Cvs.cons (cv_list (flat_map flat_GEntry y0_o2.Store)) (Cvs.cons (cv_list (flat_map flat_GEvent y0_o2.Events)) (Cvs.cons (cv_list (flat_map flat_GRow y0_o2.Rows)) (Cvs.cons (cv_list (flat_map flat_GRecord y0_o2.Late)) Cvs.nil)))))))))) (Cvs.cons .sc (Cvs.cons (cvf_GMessage (x := x)) Cvs.nil))))) | exact oblA) ?_
   refine brE h ?_ ?_
   ·clear h; intro h181 h
    obtain rfl := Option.some.inj h
    refine runT tmD [.br true] ?_
    refine SemK.denil 1 [AV.agg [(aI .u8 0), (aI .i64 0), (aI .i64 0), (AV.list true (List.map enc_GSend ([] : List GSend))), (AV.list true (List.map (aI .i64) ([] : List Int))), (AV.list true (List.map enc_GEntry ([] : List GEntry))), (AV.list true (List.map enc_GEvent ([] : List GEvent))), (AV.list true (List.map enc_GRow ([] : List GRow))), (AV.list true (List.map enc_GRecord ([] : List GRecord)))]] rfl rfl ?_
    exact wkT [(0, 1)] (C1 _  (nbT (by first | rfl | simp [*])) rfl)
   ·clear h; intro h181 h
    refine bindE h ?_
    clear h; intro o203 h204 h
    refine runT tmD [.br false] ?_
    refine wkT [(4, 18)] (SemK.cut (law33_takes_L1_ok y0_1 y0_2 y0_o0 y0_o1 y0_o2 (k : Int) v179.1 _ _ _ (nbT (by first | rfl | simp [*])) _ h204 ?_))
    ·intro z1_0_o3 nb_z1_0_o3 eo203; subst eo203
     refine SemK.glue ?_
     try dsimp only at h
     rcases nb_z1_0_o3 with ⟨_ | _, hn_z1_0_o3⟩
     ·
      refine runT tmD [] ?_
      refine SemK.denil 2 [AV.agg [(aI .u8 v179.1.Op.Kind), (aI .i64 v179.1.Op.N), (aI .i64 v179.1.Turn), (AV.list true (List.map enc_GSend ([] : List GSend))), (AV.list true (List.map (aI .i64) v179.1.Marks)), (AV.list true (List.map enc_GEntry v179.1.Store)), (AV.list true (List.map enc_GEvent v179.1.Events)), (AV.list true (List.map enc_GRow v179.1.Rows)), (AV.list true (List.map enc_GRecord v179.1.Late))]] rfl rfl ?_
      refine SemK.denil 4 [AV.agg [(aI .u8 v179.1.Op.Kind), (aI .i64 v179.1.Op.N), (aI .i64 v179.1.Turn), (AV.list true (List.map enc_GSend ([] : List GSend))), (AV.list true (List.map (aI .i64) v179.1.Marks)), (AV.list true (List.map enc_GEntry v179.1.Store)), (AV.list true (List.map enc_GEvent v179.1.Events)), (AV.list true (List.map enc_GRow v179.1.Rows)), (AV.list true (List.map enc_GRecord v179.1.Late))]] rfl rfl ?_
      exact wkT [] (ih (k + 1) hx1 _ _ nbF o h C0 C1)
     ·
      obtain rfl := hn_z1_0_o3 rfl
      refine runT tmD [] ?_
      refine SemK.denil 2 [AV.agg [(aI .u8 v179.1.Op.Kind), (aI .i64 v179.1.Op.N), (aI .i64 v179.1.Turn), (AV.list true (List.map enc_GSend ([] : List GSend))), (AV.list true (List.map (aI .i64) v179.1.Marks)), (AV.list true (List.map enc_GEntry v179.1.Store)), (AV.list true (List.map enc_GEvent v179.1.Events)), (AV.list true (List.map enc_GRow v179.1.Rows)), (AV.list true (List.map enc_GRecord v179.1.Late))]] rfl rfl ?_
      refine SemK.denil 4 [AV.agg [(aI .u8 v179.1.Op.Kind), (aI .i64 v179.1.Op.N), (aI .i64 v179.1.Turn), (AV.list true (List.map enc_GSend ([] : List GSend))), (AV.list true (List.map (aI .i64) v179.1.Marks)), (AV.list true (List.map enc_GEntry v179.1.Store)), (AV.list true (List.map enc_GEvent v179.1.Events)), (AV.list true (List.map enc_GRow v179.1.Rows)), (AV.list true (List.map enc_GRecord v179.1.Late))]] rfl rfl ?_
      exact wkT [] (ih (k + 1) hx1 _ _ (nbT (by first | rfl | simp [*])) o h C0 C1)

theorem law33_takes_ok (a0 : GQuery) (a1 : (List Int)) (a2 : (List GMessage)) (r : GTask × (List GRow) × Bool) (h : law33_takes a0 a1 a2 = some r) : Pure Tryz.prog 14 [(enc_GQuery false a0), (AV.list false (List.map (aI .i64) a1)), (AV.list false (List.map enc_GMessage a2))] (AV.tup [(enc_GTask true r.1), (AV.list true (List.map enc_GRow r.2.1)), (aB r.2.2)]) := by
 refine Pure.sym tyTab_ok fn14 (nt := 67) rfl rfl ?_ (allCons (free_GQuery false _ _).1 (allCons .list (allCons .list allNil)))
 unfold law33_takes at h
 refine bindE h ?_
 clear h; intro v1 h2 h
 refine brE h ?_ ?_
 ·clear h; intro h3 h
  obtain rfl := Option.some.inj h
  refine run_to tmD 4000 [.pure [(aI .i64 0)] (AV.tup [(enc_GTask true v1.1), (aI .i64 v1.2)]), .br true] rfl (by repeat' first | refine And.intro ?_ ?_ | exact (PureCall.none (join_New_ok _ _ h2) (Cvs.cons .sc Cvs.nil)) | exact oblA) ?_
  refine fin_ret rfl ?_
  exact (cv_tup (Cvs.cons (cv_agg (Cvs.cons .sc (Cvs.cons .sc (Cvs.cons .sc (Cvs.cons (cv_nils (es := List.map enc_GSend ((GTask.mk (GOp.mk 0 0) 0 ([] : List GSend) ([] : List Int) ([] : List GEntry) ([] : List GEvent) ([] : List GRow) ([] : List GRecord)).Pending)) (by simp [*])) (Cvs.cons (cv_nils (es := List.map (aI .i64) ((GTask.mk (GOp.mk 0 0) 0 ([] : List GSend) ([] : List Int) ([] : List GEntry) ([] : List GEvent) ([] : List GRow) ([] : List GRecord)).Marks)) (by simp [*])) (Cvs.cons (cv_nils (es := List.map enc_GEntry ((GTask.mk (GOp.mk 0 0) 0 ([] : List GSend) ([] : List Int) ([] : List GEntry) ([] : List GEvent) ([] : List GRow) ([] : List GRecord)).Store)) (by simp [*])) (Cvs.cons (cv_nils (es := List.map enc_GEvent ((GTask.mk (GOp.mk 0 0) 0 ([] : List GSend) ([] : List Int) ([] : List GEntry) ([] : List GEvent) ([] : List GRow) ([] : List GRecord)).Events)) (by simp [*])) (Cvs.cons (cv_nils (es := List.map enc_GRow ((GTask.mk (GOp.mk 0 0) 0 ([] : List GSend) ([] : List Int) ([] : List GEntry) ([] : List GEvent) ([] : List GRow) ([] : List GRecord)).Rows)) (by simp [*])) (Cvs.cons (cv_nils (es := List.map enc_GRecord ((GTask.mk (GOp.mk 0 0) 0 ([] : List GSend) ([] : List Int) ([] : List GEntry) ([] : List GEvent) ([] : List GRow) ([] : List GRecord)).Late)) (by simp [*])) Cvs.nil)))))))))) (Cvs.cons (cv_nils (es := List.map enc_GRow ([] : List GRow)) (by simp [*])) (Cvs.cons .sc Cvs.nil))))
 ·clear h; intro h3 h
  refine bindE h ?_
  clear h; intro u4 h5 h
  have qh5 := lenOk_le h5
  refine run_to tmD 4000 [.pure [(aI .i64 0)] (AV.tup [(enc_GTask true v1.1), (aI .i64 v1.2)]), .br false] rfl (by repeat' first | refine And.intro ?_ ?_ | exact (PureCall.none (join_New_ok _ _ h2) (Cvs.cons .sc Cvs.nil)) | exact oblA) ?_
  refine SemK.denil 1 [AV.agg [(aI .u8 0), (aI .i64 0), (aI .i64 0), (AV.list true (List.map enc_GSend ([] : List GSend))), (AV.list true (List.map (aI .i64) ([] : List Int))), (AV.list true (List.map enc_GEntry ([] : List GEntry))), (AV.list true (List.map enc_GEvent ([] : List GEvent))), (AV.list true (List.map enc_GRow ([] : List GRow))), (AV.list true (List.map enc_GRecord ([] : List GRecord)))]] rfl rfl ?_
  refine bindE h ?_
  clear h; intro o205 h206 h
  refine runT tmD [] ?_
  refine wkT [] (SemK.cut (law33_takes_L0_ok a1 a2 a0 (GTask.mk (GOp.mk 0 0) 0 ([] : List GSend) ([] : List Int) ([] : List GEntry) ([] : List GEvent) ([] : List GRow) ([] : List GRecord)) qh5 a2 0 (by simp) _ _ (nbT (by first | rfl | simp [*])) _ h206 ?_ ?_))
  ·intro z0_0_o1 z0_0_o2 nb_z0_0_o2 eo205; subst eo205
   refine SemK.glue ?_
   try dsimp only at h
   rcases nb_z0_0_o2 with ⟨_ | _, hn_z0_0_o2⟩
   ·
    obtain rfl := Option.some.inj h
    refine runT tmD [] ?_
    refine fin_ret rfl ?_
    exact (cv_tup (Cvs.cons (cv_agg (Cvs.cons .sc (Cvs.cons .sc (Cvs.cons .sc (Cvs.cons (.listS rfl) (Cvs.cons (.listS rfl) (Cvs.cons (.listS rfl) (Cvs.cons (.listS rfl) (Cvs.cons (.listS rfl) (Cvs.cons (.listS rfl) Cvs.nil)))))))))) (Cvs.cons (cv_ref (es := List.map enc_GRow z0_0_o2) rfl (by first | rfl | (simp; done) | (simp; rfl) | (simp [h3]; done) | (simp [h3]; rfl) | (simp [h3, List.map_take, List.map_drop]; done) | (simp [h3, List.map_take, List.map_drop]; rfl)) (by first | rfl | (simp; done) | (simp; omega) | (simp [h3]; done) | (simp [h3]; omega)) (flat_map flat_GRow z0_0_o2)) (Cvs.cons .sc Cvs.nil))))
   ·
    obtain rfl := hn_z0_0_o2 rfl
    obtain rfl := Option.some.inj h
    refine runT tmD [] ?_
    refine fin_ret rfl ?_
    exact (cv_tup (Cvs.cons (cv_agg (Cvs.cons .sc (Cvs.cons .sc (Cvs.cons .sc (Cvs.cons (.listS rfl) (Cvs.cons (.listS rfl) (Cvs.cons (.listS rfl) (Cvs.cons (.listS rfl) (Cvs.cons (.listS rfl) (Cvs.cons (.listS rfl) Cvs.nil)))))))))) (Cvs.cons (cv_nils (es := List.map enc_GRow ([] : List GRow)) (by simp [*])) (Cvs.cons .sc Cvs.nil))))
  ·intro z0_1_o1 nb_z0_1_o1 eo205; subst eo205
   refine SemK.glue ?_
   try dsimp only at h
   rcases nb_z0_1_o1 with ⟨_ | _, hn_z0_1_o1⟩
   ·
    obtain rfl := Option.some.inj h
    refine runT tmD [] ?_
    refine fin_ret rfl ?_
    exact (cv_tup (Cvs.cons (cv_agg (Cvs.cons .sc (Cvs.cons .sc (Cvs.cons .sc (Cvs.cons (.listS rfl) (Cvs.cons (.listS rfl) (Cvs.cons (.listS rfl) (Cvs.cons (.listS rfl) (Cvs.cons (.listS rfl) (Cvs.cons (.listS rfl) Cvs.nil)))))))))) (Cvs.cons (cv_ref (es := List.map enc_GRow z0_1_o1) rfl (by first | rfl | (simp; done) | (simp; rfl) | (simp [h3]; done) | (simp [h3]; rfl) | (simp [h3, List.map_take, List.map_drop]; done) | (simp [h3, List.map_take, List.map_drop]; rfl)) (by first | rfl | (simp; done) | (simp; omega) | (simp [h3]; done) | (simp [h3]; omega)) (flat_map flat_GRow z0_1_o1)) (Cvs.cons .sc Cvs.nil))))
   ·
    obtain rfl := hn_z0_1_o1 rfl
    obtain rfl := Option.some.inj h
    refine runT tmD [] ?_
    refine fin_ret rfl ?_
    exact (cv_tup (Cvs.cons (cv_agg (Cvs.cons .sc (Cvs.cons .sc (Cvs.cons .sc (Cvs.cons (.listS rfl) (Cvs.cons (.listS rfl) (Cvs.cons (.listS rfl) (Cvs.cons (.listS rfl) (Cvs.cons (.listS rfl) (Cvs.cons (.listS rfl) Cvs.nil)))))))))) (Cvs.cons (cv_nils (es := List.map enc_GRow ([] : List GRow)) (by simp [*])) (Cvs.cons .sc Cvs.nil))))

theorem law33_same_L0_ok {Q : AExit → St → Mu → Prop} {μ : Mu} (y0_0 : (List GRow)) (y0_1 : (List GRow)) (hl : List.length y0_0 ≤ 140737488355328) : ∀ (xs : List GRow) (k : Nat) (hx : y0_0.drop k = xs) (o : law33_same_L0_o) (h : law33_same_L0 y0_0 y0_1 xs k  = some o)
  (C0 : o = law33_same_L0_o.x0 → SemK Tryz.prog 26 0 Q (.exit (.exit 0)) [] ⟨fr [], hp ([]), 0⟩ μ)
  (C1 : o = law33_same_L0_o.x1 → SemK Tryz.prog 26 0 Q (.exit .ret) [] ⟨fr [(4, (aB false))], hp ([]), 0⟩ μ),
  SemK Tryz.prog 26 0 Q (.loop (loopB 0 (bodyOf Tryz.f15))) [] ⟨fr [(0, (AV.list false (List.map enc_GRow y0_0))), (1, (AV.list false (List.map enc_GRow y0_1))), (5, (aI .i64 (k : Int)))], hp ([]), 0⟩ μ := by
 intro xs
 induction xs with
 | nil =>
  intro k hx  o h C0 C1
  have hk := drop_nil hx
  have hc : decide ((k : Int) < (List.length y0_0 : Int)) = false := decide_eq_false (by omega)
  rw [law33_same_L0] at h
  refine SemK.round ?_
  obtain rfl := Option.some.inj h
  refine runT tmD [.el (aI .i64 (List.length y0_0 : Int)), .br false] ?_
  exact wkT [] (C0  rfl)
 | cons x xs ih =>
  intro k hx  o h C0 C1
  obtain ⟨hk, hg, hx1⟩ := drop_cons hx
  have hc : decide ((k : Int) < (List.length y0_0 : Int)) = true := decide_eq_true (by omega)
  rw [law33_same_L0] at h
  refine SemK.round ?_
  refine bindE h ?_
  clear h; intro e11 h12 h
  try have qh12 := getI_lt h12
  refine brE h ?_ ?_
  ·clear h; intro h13 h
   obtain rfl := Option.some.inj h
   refine runT tmD [.el (aI .i64 (List.length y0_0 : Int)), .br true, .el (enc_GRow x), .el (enc_GRow e11), .br true] ?_
   exact wkT [] (C1  rfl)
  ·clear h; intro h13 h
   refine runT tmD [.el (aI .i64 (List.length y0_0 : Int)), .br true, .el (enc_GRow x), .el (enc_GRow e11), .br false] ?_
   exact wkT [] (ih (k + 1) hx1  o h C0 C1)

theorem law33_same_ok (a0 : (List GRow)) (a1 : (List GRow)) (r : Bool) (h : law33_same a0 a1 = some r) : Pure Tryz.prog 15 [(AV.list false (List.map enc_GRow a0)), (AV.list false (List.map enc_GRow a1))] (aB r) := by
 refine Pure.sym tyTab_ok fn15 (nt := 26) rfl rfl ?_ (allCons .list (allCons .list allNil))
 unfold law33_same at h
 refine brE h ?_ ?_
 ·clear h; intro h1 h
  obtain rfl := Option.some.inj h
  refine runT tmD [.el (aI .i64 (List.length a0 : Int)), .el (aI .i64 (List.length a1 : Int)), .br true] ?_
  refine fin_ret rfl ?_
  exact .sc
 ·clear h; intro h1 h
  refine bindE h ?_
  clear h; intro u2 h3 h
  have qh3 := lenOk_le h3
  refine bindE h ?_
  clear h; intro o14 h15 h
  refine runT tmD [.el (aI .i64 (List.length a0 : Int)), .el (aI .i64 (List.length a1 : Int)), .br false] ?_
  refine wkT [] (SemK.cut (law33_same_L0_ok a0 a1 qh3 a0 0 (by simp) _ h15 ?_ ?_))
  ·intro eo14; subst eo14
   refine SemK.glue ?_
   try dsimp only at h
   obtain rfl := Option.some.inj h
   refine runT tmD [] ?_
   refine fin_ret rfl ?_
   exact .sc
  ·intro eo14; subst eo14
   refine SemK.glue ?_
   try dsimp only at h
   obtain rfl := Option.some.inj h
   refine runT tmD [] ?_
   refine fin_ret rfl ?_
   exact .sc

theorem law33_alive_ok (r : Bool) (h : law33_alive = some r) : Pure Tryz.prog 8 [] (aB r) := by
 refine Pure.sym tyTab_ok fn8 (nt := 29) rfl rfl ?_ allNil
 unfold law33_alive at h
 refine bindE h ?_
 clear h; intro v1 h2 h
 refine bindE h ?_
 clear h; intro v3 h4 h
 refine bindE h ?_
 clear h; intro v5 h6 h
 refine bindE h ?_
 clear h; intro v7 h8 h
 refine bindE h ?_
 clear h; intro v9 h10 h
 refine bindE h ?_
 clear h; intro j17_0 h24 h
 refine run_to tmD 4000 [.pure [] (enc_GQuery true v1), .pure [(aI .i64 0), (aI .i64 1), (aI .i64 4)] (enc_GMessage v3), .pure [(aI .i64 0), (aI .i64 1), (aI .i64 6)] (enc_GMessage v5), .pure [(aI .i64 10)] (enc_GMessage v7), .pure [(aI .i64 10)] (enc_GMessage v7), .pure [(enc_GQuery false v1), (AV.list false (List.map (aI .i64) [0, 1, 0, 1])), (AV.list false (List.map enc_GMessage [v3, v5, v7, v7]))] (AV.tup [(enc_GTask true v9.1), (AV.list true (List.map enc_GRow v9.2.1)), (aB v9.2.2)]), .stop 2] rfl (by repeat' first | refine And.intro ?_ ?_ | exact (PureCall.none (law33_sums_ok _ h2) Cvs.nil) | exact (PureCall.none (law33_rec_ok _ _ _ _ h4) (Cvs.cons .sc (Cvs.cons .sc (Cvs.cons .sc Cvs.nil)))) | exact (PureCall.none (law33_rec_ok _ _ _ _ h6) (Cvs.cons .sc (Cvs.cons .sc (Cvs.cons .sc Cvs.nil)))) | exact (PureCall.none (law33_mark_ok _ _ h8) (Cvs.cons .sc Cvs.nil)) | exact (PureCall.lent (law33_takes_ok _ _ _ _ h10) (Cvs.cons (cva_GQuery (o := true) (x := v1)) (Cvs.cons (cv_ref (es := List.map (aI .i64) [0, 1, 0, 1]) rfl (by first | rfl | (simp; done) | (simp; rfl) | (simp []; done) | (simp []; rfl) | (simp [List.map_take, List.map_drop]; done) | (simp [List.map_take, List.map_drop]; rfl)) (by first | rfl | (simp; done) | (simp; omega) | (simp []; done) | (simp []; omega)) (flat_map (fun _ => flatSc) [0, 1, 0, 1])) (Cvs.cons (cv_ref (es := List.map enc_GMessage [v3, v5, v7, v7]) rfl (by first | rfl | (simp; done) | (simp; rfl) | (simp []; done) | (simp []; rfl) | (simp [List.map_take, List.map_drop]; done) | (simp [List.map_take, List.map_drop]; rfl)) (by first | rfl | (simp; done) | (simp; omega) | (simp []; done) | (simp []; omega)) (flat_map flat_GMessage [v3, v5, v7, v7])) Cvs.nil))) (ownTup (allCons (.agg (allCons .sc (allCons .sc (allCons .sc (allCons (ownO_list (flat_map flat_GSend _)) (allCons (ownO_list (flat_map (fun _ => flatSc) _)) (allCons (ownO_list (flat_map flat_GEntry _)) (allCons (ownO_list (flat_map flat_GEvent _)) (allCons (ownO_list (flat_map flat_GRow _)) (allCons (ownO_list (flat_map flat_GRecord _)) allNil)))))))))) (allCons (ownO_list (flat_map flat_GRow _)) (allCons .sc allNil))))) | exact oblA) ?_
 refine SemK.join (s' := ⟨fr [(0, (aB j17_0))], hp ([]), 0⟩) ?_ (fun J => SemK.cut ?_)
 ·
  obtain rfl := Option.some.inj h
  refine runT tmD [] ?_
  refine fin_ret rfl ?_
  exact .sc
 ·
  clear h
  have h := h24
  refine brE h ?_ ?_
  ·clear h; intro h18 h
   refine bindE h ?_
   clear h; intro v19 h20 h
   refine bindE h ?_
   clear h; intro v21 h22 h
   refine run_to tmD 4000 [.go true, .go true, .pure [(aI .i64 0), (aI .i64 0), (aI .i64 4), (aI .i64 6)] (enc_GRow v19), .go true, .go true, .pure [(AV.list false (List.map enc_GRow v9.2.1)), (AV.list false (List.map enc_GRow [v19]))] (aB v21), .stop 999999] rfl (by repeat' first | refine And.intro ?_ ?_ | exact (PureCall.none (law33_sums_ok _ h2) Cvs.nil) | exact (PureCall.none (law33_rec_ok _ _ _ _ h4) (Cvs.cons .sc (Cvs.cons .sc (Cvs.cons .sc Cvs.nil)))) | exact (PureCall.none (law33_rec_ok _ _ _ _ h6) (Cvs.cons .sc (Cvs.cons .sc (Cvs.cons .sc Cvs.nil)))) | exact (PureCall.none (law33_mark_ok _ _ h8) (Cvs.cons .sc Cvs.nil)) | exact (PureCall.lent (law33_takes_ok _ _ _ _ h10) (Cvs.cons (cva_GQuery (o := true) (x := v1)) (Cvs.cons (cv_ref (es := List.map (aI .i64) [0, 1, 0, 1]) rfl (by first | rfl | (simp; done) | (simp; rfl) | (simp []; done) | (simp []; rfl) | (simp [List.map_take, List.map_drop]; done) | (simp [List.map_take, List.map_drop]; rfl)) (by first | rfl | (simp; done) | (simp; omega) | (simp []; done) | (simp []; omega)) (flat_map (fun _ => flatSc) [0, 1, 0, 1])) (Cvs.cons (cv_ref (es := List.map enc_GMessage [v3, v5, v7, v7]) rfl (by first | rfl | (simp; done) | (simp; rfl) | (simp []; done) | (simp []; rfl) | (simp [List.map_take, List.map_drop]; done) | (simp [List.map_take, List.map_drop]; rfl)) (by first | rfl | (simp; done) | (simp; omega) | (simp []; done) | (simp []; omega)) (flat_map flat_GMessage [v3, v5, v7, v7])) Cvs.nil))) (ownTup (allCons (.agg (allCons .sc (allCons .sc (allCons .sc (allCons (ownO_list (flat_map flat_GSend _)) (allCons (ownO_list (flat_map (fun _ => flatSc) _)) (allCons (ownO_list (flat_map flat_GEntry _)) (allCons (ownO_list (flat_map flat_GEvent _)) (allCons (ownO_list (flat_map flat_GRow _)) (allCons (ownO_list (flat_map flat_GRecord _)) allNil)))))))))) (allCons (ownO_list (flat_map flat_GRow _)) (allCons .sc allNil))))) | exact (PureCall.none (law33_row_ok _ _ _ _ _ h20) (Cvs.cons .sc (Cvs.cons .sc (Cvs.cons .sc (Cvs.cons .sc Cvs.nil))))) | exact (PureCall.lent (law33_same_ok _ _ _ h22) (Cvs.cons (cv_list (flat_map flat_GRow v9.2.1)) (Cvs.cons (cv_ref (es := List.map enc_GRow [v19]) rfl (by first | rfl | (simp; done) | (simp; rfl) | (simp [h18]; done) | (simp [h18]; rfl) | (simp [h18, List.map_take, List.map_drop]; done) | (simp [h18, List.map_take, List.map_drop]; rfl)) (by first | rfl | (simp; done) | (simp; omega) | (simp [h18]; done) | (simp [h18]; omega)) (flat_map flat_GRow [v19])) Cvs.nil)) .sc) | exact oblA) ?_
   refine brE h ?_ ?_
   ·clear h; intro h23 h
    obtain rfl := Option.some.inj h
    refine run_to tmD 4000 [.go true, .go true, .go true, .el (aI .i64 (List.length v9.1.Store : Int)), .go true] rfl (by repeat' first | refine And.intro ?_ ?_ | exact ((bif_t h18 h23)) | exact (bnot_of (bif_t h18 h23)) | exact (absN (bif_t h18 h23)) | exact oblA) ?_
    exact wkT [] (SemK.glue J)
   ·clear h; intro h23 h
    obtain rfl := Option.some.inj h
    refine run_to tmD 4000 [.go false, .go false, .go false, .go false] rfl (by repeat' first | refine And.intro ?_ ?_ | exact ((bif_t h18 h23)) | exact (bnot_of (bif_t h18 h23)) | exact (absT (bif_t h18 h23)) | exact oblA) ?_
    exact wkT [] (SemK.glue J)
  ·clear h; intro h18 h
   obtain rfl := Option.some.inj h
   refine run_to tmD 4000 [.go false, .go false, .go false, .go false, .go false, .go false, .go false, .go false] rfl (by repeat' first | refine And.intro ?_ ?_ | exact (PureCall.none (law33_sums_ok _ h2) Cvs.nil) | exact (PureCall.none (law33_rec_ok _ _ _ _ h4) (Cvs.cons .sc (Cvs.cons .sc (Cvs.cons .sc Cvs.nil)))) | exact (PureCall.none (law33_rec_ok _ _ _ _ h6) (Cvs.cons .sc (Cvs.cons .sc (Cvs.cons .sc Cvs.nil)))) | exact (PureCall.none (law33_mark_ok _ _ h8) (Cvs.cons .sc Cvs.nil)) | exact (PureCall.lent (law33_takes_ok _ _ _ _ h10) (Cvs.cons (cva_GQuery (o := true) (x := v1)) (Cvs.cons (cv_ref (es := List.map (aI .i64) [0, 1, 0, 1]) rfl (by first | rfl | (simp; done) | (simp; rfl) | (simp []; done) | (simp []; rfl) | (simp [List.map_take, List.map_drop]; done) | (simp [List.map_take, List.map_drop]; rfl)) (by first | rfl | (simp; done) | (simp; omega) | (simp []; done) | (simp []; omega)) (flat_map (fun _ => flatSc) [0, 1, 0, 1])) (Cvs.cons (cv_ref (es := List.map enc_GMessage [v3, v5, v7, v7]) rfl (by first | rfl | (simp; done) | (simp; rfl) | (simp []; done) | (simp []; rfl) | (simp [List.map_take, List.map_drop]; done) | (simp [List.map_take, List.map_drop]; rfl)) (by first | rfl | (simp; done) | (simp; omega) | (simp []; done) | (simp []; omega)) (flat_map flat_GMessage [v3, v5, v7, v7])) Cvs.nil))) (ownTup (allCons (.agg (allCons .sc (allCons .sc (allCons .sc (allCons (ownO_list (flat_map flat_GSend _)) (allCons (ownO_list (flat_map (fun _ => flatSc) _)) (allCons (ownO_list (flat_map flat_GEntry _)) (allCons (ownO_list (flat_map flat_GEvent _)) (allCons (ownO_list (flat_map flat_GRow _)) (allCons (ownO_list (flat_map flat_GRecord _)) allNil)))))))))) (allCons (ownO_list (flat_map flat_GRow _)) (allCons .sc allNil))))) | exact ((bif_f h18 rfl)) | exact (bnot_of (bif_f h18 rfl)) | exact (absT (bif_f h18 rfl)) | exact oblA) ?_
   exact wkT [] (SemK.glue J)
end Go.Av.Tryz
