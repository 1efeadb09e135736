/- Printed by decomp.py: that the program computes the functions. -/
import Derived.Test.YtfdfgobnpnoomaaGreatDCert6Z
set_option linter.all false
set_option linter.unusedVariables false
namespace Go.Av.Tryz
open Go.Proofs Go.D
set_option maxRecDepth 10000
set_option maxHeartbeats 4000000

theorem ints_Do_ok (a0 : Int) (a1 : Int) (a2 : Int) (r : Int × Int) (h : ints_Do a0 a1 a2 = some r) : Pure Tryz.prog 97 [(aI .u8 a0), (aI .i64 a1), (aI .i64 a2)] (AV.tup [(aI .i64 r.1), (aI .i64 r.2)]) := by
 refine Pure.sym tyTab_ok fn97 (nt := 97) rfl rfl ?_ (allCons .sc (allCons .sc (allCons .sc allNil)))
 unfold ints_Do at h
 refine brE h ?_ ?_
 ·clear h; intro h1 h
  obtain rfl := Option.some.inj h
  refine runT tmD [.br true, .wrap] ?_
  refine fin_ret rfl ?_
  exact (cv_tup (Cvs.cons .sc (Cvs.cons .sc Cvs.nil)))
 ·clear h; intro h1 h
  refine brE h ?_ ?_
  ·clear h; intro h2 h
   refine bindE h ?_
   clear h; intro v3 h4 h
   obtain rfl := Option.some.inj h
   refine run_to tmD 4000 [.br false, .br true, .pure [(aB (a1 == (0 : Int)))] (aI .i64 v3)] rfl (by repeat' first | refine And.intro ?_ ?_ | exact (PureCall.none (ints_truth_ok _ _ h4) (Cvs.cons .sc Cvs.nil)) | exact oblA) ?_
   refine fin_ret rfl ?_
   exact (cv_tup (Cvs.cons .sc (Cvs.cons .sc Cvs.nil)))
  ·clear h; intro h2 h
   refine brE h ?_ ?_
   ·clear h; intro h5 h
    obtain rfl := Option.some.inj h
    refine runT tmD [.br false, .br false, .br true, .wrap] ?_
    refine fin_ret rfl ?_
    exact (cv_tup (Cvs.cons .sc (Cvs.cons .sc Cvs.nil)))
   ·clear h; intro h5 h
    refine brE h ?_ ?_
    ·clear h; intro h6 h
     obtain rfl := Option.some.inj h
     refine runT tmD [.br false, .br false, .br false, .br true, .wrap] ?_
     refine fin_ret rfl ?_
     exact (cv_tup (Cvs.cons .sc (Cvs.cons .sc Cvs.nil)))
    ·clear h; intro h6 h
     refine brE h ?_ ?_
     ·clear h; intro h7 h
      obtain rfl := Option.some.inj h
      refine runT tmD [.br false, .br false, .br false, .br false, .br true, .wrap] ?_
      refine fin_ret rfl ?_
      exact (cv_tup (Cvs.cons .sc (Cvs.cons .sc Cvs.nil)))
     ·clear h; intro h7 h
      refine brE h ?_ ?_
      ·clear h; intro h8 h
       refine bindE h ?_
       clear h; intro u9 h10 h
       obtain rfl := Option.some.inj h
       refine runT tmD [.br false, .br false, .br false, .br false, .br false, .br true, .wrap] ?_
       refine fin_ret rfl ?_
       exact (cv_tup (Cvs.cons .sc (Cvs.cons .sc Cvs.nil)))
      ·clear h; intro h8 h
       refine brE h ?_ ?_
       ·clear h; intro h11 h
        refine bindE h ?_
        clear h; intro u12 h13 h
        obtain rfl := Option.some.inj h
        refine runT tmD [.br false, .br false, .br false, .br false, .br false, .br false, .br true] ?_
        refine fin_ret rfl ?_
        exact (cv_tup (Cvs.cons .sc (Cvs.cons .sc Cvs.nil)))
       ·clear h; intro h11 h
        refine brE h ?_ ?_
        ·clear h; intro h14 h
         refine bindE h ?_
         clear h; intro v15 h16 h
         obtain rfl := Option.some.inj h
         refine run_to tmD 4000 [.br false, .br false, .br false, .br false, .br false, .br false, .br false, .br true, .pure [(aB (decide (a1 < a2)))] (aI .i64 v15)] rfl (by repeat' first | refine And.intro ?_ ?_ | exact (PureCall.none (ints_truth_ok _ _ h16) (Cvs.cons .sc Cvs.nil)) | exact oblA) ?_
         refine fin_ret rfl ?_
         exact (cv_tup (Cvs.cons .sc (Cvs.cons .sc Cvs.nil)))
        ·clear h; intro h14 h
         refine brE h ?_ ?_
         ·clear h; intro h17 h
          refine bindE h ?_
          clear h; intro v18 h19 h
          obtain rfl := Option.some.inj h
          refine run_to tmD 4000 [.br false, .br false, .br false, .br false, .br false, .br false, .br false, .br false, .br true, .pure [(aB (decide (a1 ≤ a2)))] (aI .i64 v18)] rfl (by repeat' first | refine And.intro ?_ ?_ | exact (PureCall.none (ints_truth_ok _ _ h19) (Cvs.cons .sc Cvs.nil)) | exact oblA) ?_
          refine fin_ret rfl ?_
          exact (cv_tup (Cvs.cons .sc (Cvs.cons .sc Cvs.nil)))
         ·clear h; intro h17 h
          refine brE h ?_ ?_
          ·clear h; intro h20 h
           refine bindE h ?_
           clear h; intro v21 h22 h
           obtain rfl := Option.some.inj h
           refine run_to tmD 4000 [.br false, .br false, .br false, .br false, .br false, .br false, .br false, .br false, .br false, .br true, .pure [(aB (decide (a1 > a2)))] (aI .i64 v21)] rfl (by repeat' first | refine And.intro ?_ ?_ | exact (PureCall.none (ints_truth_ok _ _ h22) (Cvs.cons .sc Cvs.nil)) | exact oblA) ?_
           refine fin_ret rfl ?_
           exact (cv_tup (Cvs.cons .sc (Cvs.cons .sc Cvs.nil)))
          ·clear h; intro h20 h
           refine brE h ?_ ?_
           ·clear h; intro h23 h
            refine bindE h ?_
            clear h; intro v24 h25 h
            obtain rfl := Option.some.inj h
            refine run_to tmD 4000 [.br false, .br false, .br false, .br false, .br false, .br false, .br false, .br false, .br false, .br false, .br true, .pure [(aB (decide (a1 ≥ a2)))] (aI .i64 v24)] rfl (by repeat' first | refine And.intro ?_ ?_ | exact (PureCall.none (ints_truth_ok _ _ h25) (Cvs.cons .sc Cvs.nil)) | exact oblA) ?_
            refine fin_ret rfl ?_
            exact (cv_tup (Cvs.cons .sc (Cvs.cons .sc Cvs.nil)))
           ·clear h; intro h23 h
            refine brE h ?_ ?_
            ·clear h; intro h26 h
             refine bindE h ?_
             clear h; intro v27 h28 h
             obtain rfl := Option.some.inj h
             refine run_to tmD 4000 [.br false, .br false, .br false, .br false, .br false, .br false, .br false, .br false, .br false, .br false, .br false, .br true, .pure [(aB (a1 == a2))] (aI .i64 v27)] rfl (by repeat' first | refine And.intro ?_ ?_ | exact (PureCall.none (ints_truth_ok _ _ h28) (Cvs.cons .sc Cvs.nil)) | exact oblA) ?_
             refine fin_ret rfl ?_
             exact (cv_tup (Cvs.cons .sc (Cvs.cons .sc Cvs.nil)))
            ·clear h; intro h26 h
             refine brE h ?_ ?_
             ·clear h; intro h29 h
              refine bindE h ?_
              clear h; intro v30 h31 h
              obtain rfl := Option.some.inj h
              refine run_to tmD 4000 [.br false, .br false, .br false, .br false, .br false, .br false, .br false, .br false, .br false, .br false, .br false, .br false, .br true, .pure [(aB (a1 != a2))] (aI .i64 v30)] rfl (by repeat' first | refine And.intro ?_ ?_ | exact (PureCall.none (ints_truth_ok _ _ h31) (Cvs.cons .sc Cvs.nil)) | exact oblA) ?_
              refine fin_ret rfl ?_
              exact (cv_tup (Cvs.cons .sc (Cvs.cons .sc Cvs.nil)))
             ·clear h; intro h29 h
              refine brE h ?_ ?_
              ·clear h; intro h32 h
               refine bindE h ?_
               clear h; intro v33 h34 h
               obtain rfl := Option.some.inj h
               refine run_to tmD 4000 [.br false, .br false, .br false, .br false, .br false, .br false, .br false, .br false, .br false, .br false, .br false, .br false, .br false, .br true, .pure [(aB (bif (a1 != (0 : Int)) then (a2 != (0 : Int)) else false))] (aI .i64 v33)] rfl (by repeat' first | refine And.intro ?_ ?_ | exact (PureCall.none (ints_truth_ok _ _ h34) (Cvs.cons .sc Cvs.nil)) | exact oblA) ?_
               refine fin_ret rfl ?_
               exact (cv_tup (Cvs.cons .sc (Cvs.cons .sc Cvs.nil)))
              ·clear h; intro h32 h
               refine runT tmD [.br false, .br false, .br false, .br false, .br false, .br false, .br false, .br false, .br false, .br false, .br false, .br false, .br false, .br false] ?_
               refine brE h ?_ ?_
               ·clear h; intro h35 h
                refine bindE h ?_
                clear h; intro v36 h37 h
                obtain rfl := Option.some.inj h
                refine run_to tmD 4000 [.br true, .pure [(aB ((bits .or IntKind.i64 a1 a2) != (0 : Int)))] (aI .i64 v36)] rfl (by repeat' first | refine And.intro ?_ ?_ | exact (PureCall.none (ints_truth_ok _ _ h37) (Cvs.cons .sc Cvs.nil)) | exact oblA) ?_
                refine fin_ret rfl ?_
                exact (cv_tup (Cvs.cons .sc (Cvs.cons .sc Cvs.nil)))
               ·clear h; intro h35 h
                obtain rfl := Option.some.inj h
                refine runT tmD [.br false] ?_
                refine fin_ret rfl ?_
                exact (cv_tup (Cvs.cons .sc (Cvs.cons .sc Cvs.nil)))

theorem evals_All_L0_ok {Q : AExit → St → Mu → Prop} {μ : Mu} (y0_o0 : (V5 Int)) (y0_28 : (List GNode)) (hl : List.length y0_28 ≤ 140737488355328) : ∀ (xs : List GNode) (k : Nat) (hx : y0_28.drop k = xs) (y0_o1 : (List Int)) (nb_y0_o1 : Nb y0_o1) (o : evals_All_L0_o) (h : evals_All_L0 y0_o0 y0_28 xs k y0_o1 = some o)
  (C0 : ∀ (z0_0_o0 : (List Int)) (nb_z0_0_o0 : Nb z0_0_o0), o = evals_All_L0_o.x0 z0_0_o0 → SemK Tryz.prog 80 0 Q (.exit (.exit 0)) [] ⟨fr [(8, (slE nb_z0_0_o0.1 0 (List.map (aI .i64) z0_0_o0)))], hp ([] ++ opE nb_z0_0_o0.1 0 1 (List.map (aI .i64) z0_0_o0)), 1⟩ μ)
  (C1 : ∀ (z0_1_o0 : (List Int)) (z0_1_5 : Int) (nb_z0_1_o0 : Nb z0_1_o0), o = evals_All_L0_o.x1 z0_1_o0 z0_1_5 → SemK Tryz.prog 80 0 Q (.exit .ret) [] ⟨fr [(4, (slE nb_z0_1_o0.1 0 (List.map (aI .i64) z0_1_o0))), (5, (aI .i64 z0_1_5))], hp ([] ++ opE nb_z0_1_o0.1 0 1 (List.map (aI .i64) z0_1_o0)), 1⟩ μ),
  SemK Tryz.prog 80 0 Q (.loop (loopB 0 (bodyOf Tryz.f59))) [] ⟨fr [(7, (AV.ptr 0 0 0)), (8, (slE nb_y0_o1.1 1 (List.map (aI .i64) y0_o1))), (28, (AV.list false (List.map enc_GNode y0_28))), (29, (aI .i64 (List.length y0_28 : Int))), (30, (aI .i64 (k : Int)))], hp ([(0, { es := [(encv_V5i64 y0_o0)], esz := 5 })] ++ opE nb_y0_o1.1 1 1 (List.map (aI .i64) y0_o1)), 2⟩ μ := by
 intro xs
 induction xs with
 | nil =>
  intro k hx y0_o1 nb_y0_o1 o h C0 C1
  have hk := drop_nil hx
  have hc : decide ((k : Int) < (List.length y0_28 : Int)) = false := decide_eq_false (by omega)
  rw [evals_All_L0] at h
  rcases nb_y0_o1 with ⟨_ | _, hn_y0_o1⟩
  ·
   refine SemK.round ?_
   obtain rfl := Option.some.inj h
   refine runT tmD [.br false] ?_
   exact wkT [(0, 1)] (C0 _  nbF rfl)
  ·
   obtain rfl := hn_y0_o1 rfl
   refine SemK.round ?_
   obtain rfl := Option.some.inj h
   refine runT tmD [.br false] ?_
   exact wkT [] (C0 _  (nbT (by first | rfl | simp [*])) rfl)
 | cons x xs ih =>
  intro k hx y0_o1 nb_y0_o1 o h C0 C1
  obtain ⟨hk, hg, hx1⟩ := drop_cons hx
  have hc : decide ((k : Int) < (List.length y0_28 : Int)) = true := decide_eq_true (by omega)
  rw [evals_All_L0] at h
  rcases nb_y0_o1 with ⟨_ | _, hn_y0_o1⟩
  ·
   refine SemK.round ?_
   refine brE h ?_ ?_
   ·clear h; intro h150 h
    refine bindE h ?_
    clear h; intro e151 h152 h
    try have qh152 := getI_lt h152
    refine run_to tmD 4000 [.br true, .el (enc_GNode x), .br true, .el (aI .i64 e151), .ld (aI .i64 e151)] rfl (by repeat' first | refine And.intro ?_ ?_ | exact (List.getElem?_set_self (by have hq := getI_nat h152; simp; omega)).trans rfl | exact oblA) ?_
    exact wkT [] (ih (k + 1) hx1 _ nbF o h C0 C1)
   ·clear h; intro h150 h
    refine brE h ?_ ?_
    ·clear h; intro h153 h
     refine bindE h ?_
     clear h; intro j166_o1 h179 h
     refine runT tmD [.br true, .el (enc_GNode x), .br false, .br true, .stop 16] ?_
     refine SemK.joinF (fun (q : Nb j166_o1) => ⟨fr [(7, (AV.ptr 0 0 0)), (8, (slE q.1 1 (List.map (aI .i64) j166_o1))), (28, (AV.list false (List.map enc_GNode y0_28))), (29, (aI .i64 (List.length y0_28 : Int))), (30, (aI .i64 (k : Int)))], hp ([(0, { es := [(encv_V5i64 y0_o0)], esz := 5 })] ++ opE q.1 1 1 (List.map (aI .i64) j166_o1)), 2⟩) ?_ (fun J => SemK.cut ?_)
     ·
      rintro nb_j166_o1
      rcases nb_j166_o1 with ⟨_ | _, hn_j166_o1⟩
      ·
       refine runT tmD [] ?_
       exact wkT [] (ih (k + 1) hx1 _ nbF o h C0 C1)
      ·
       obtain rfl := hn_j166_o1 rfl
       refine runT tmD [] ?_
       exact wkT [] (ih (k + 1) hx1 _ (nbT (by first | rfl | simp [*])) o h C0 C1)
     ·
      clear h
      have h := h179
      refine brE h ?_ ?_
      ·clear h; intro h167 h
       refine bindE h ?_
       clear h; intro e168 h169 h
       try have qh169 := getI_lt h169
       obtain rfl := Option.some.inj h
       refine run_to tmD 4000 [.ix 0, .el (aI .i64 e168), .ld (aI .i64 e168)] rfl (by repeat' first | refine And.intro ?_ ?_ | exact ((eq_of_beq h167)) | exact (List.getElem?_set_self (by have hq := getI_nat h169; simp; omega)).trans rfl | exact oblA) ?_
       exact wkT [] (SemK.glue (J nbF))
      ·clear h; intro h167 h
       refine brE h ?_ ?_
       ·clear h; intro h170 h
        refine bindE h ?_
        clear h; intro e171 h172 h
        try have qh172 := getI_lt h172
        obtain rfl := Option.some.inj h
        refine run_to tmD 4000 [.ix 2, .el (aI .i64 e171), .ld (aI .i64 e171)] rfl (by repeat' first | refine And.intro ?_ ?_ | exact ((eq_of_beq h170)) | exact (List.getElem?_set_self (by have hq := getI_nat h172; simp; omega)).trans rfl | exact oblA) ?_
        exact wkT [] (SemK.glue (J nbF))
       ·clear h; intro h170 h
        refine brE h ?_ ?_
        ·clear h; intro h173 h
         refine bindE h ?_
         clear h; intro e174 h175 h
         try have qh175 := getI_lt h175
         obtain rfl := Option.some.inj h
         refine run_to tmD 4000 [.ix 3, .el (aI .i64 e174), .ld (aI .i64 e174)] rfl (by repeat' first | refine And.intro ?_ ?_ | exact ((eq_of_beq h173)) | exact (List.getElem?_set_self (by have hq := getI_nat h175; simp; omega)).trans rfl | exact oblA) ?_
         exact wkT [] (SemK.glue (J nbF))
        ·clear h; intro h173 h
         refine brE h ?_ ?_
         ·clear h; intro h176 h
          refine bindE h ?_
          clear h; intro e177 h178 h
          try have qh178 := getI_lt h178
          obtain rfl := Option.some.inj h
          refine run_to tmD 4000 [.ix 4, .el (aI .i64 e177), .ld (aI .i64 e177)] rfl (by repeat' first | refine And.intro ?_ ?_ | exact ((eq_of_beq h176)) | exact (List.getElem?_set_self (by have hq := getI_nat h178; simp; omega)).trans rfl | exact oblA) ?_
          exact wkT [] (SemK.glue (J nbF))
         ·clear h; intro h176 h
          cases h
    ·clear h; intro h153 h
     refine bindE h ?_
     clear h; intro e180 h181 h
     try have qh181 := getI_lt h181
     refine bindE h ?_
     clear h; intro e182 h183 h
     try have qh183 := getI_lt h183
     refine bindE h ?_
     clear h; intro v184 h185 h
     refine run_to tmD 4000 [.br true, .el (enc_GNode x), .br false, .br false, .el (aI .i64 e180), .ld (aI .i64 e180), .el (aI .i64 e182), .ld (aI .i64 e182), .pure [(aI .u8 x.Kind), (aI .i64 e180), (aI .i64 e182)] (AV.tup [(aI .i64 v184.1), (aI .i64 v184.2)])] rfl (by repeat' first | refine And.intro ?_ ?_ | exact (PureCall.none (ints_Do_ok _ _ _ _ h185) (Cvs.cons .sc (Cvs.cons .sc (Cvs.cons .sc Cvs.nil)))) | exact oblA) ?_
     refine brE h ?_ ?_
     ·clear h; intro h186 h
      obtain rfl := Option.some.inj h
      refine runT tmD [.br true] ?_
      exact wkT [] (C1 _ _  (nbT (by first | rfl | simp [*])) rfl)
     ·clear h; intro h186 h
      refine bindE h ?_
      clear h; intro e187 h188 h
      try have qh188 := getI_lt h188
      refine run_to tmD 4000 [.br false, .el (aI .i64 e187), .ld (aI .i64 e187)] rfl (by repeat' first | refine And.intro ?_ ?_ | exact (List.getElem?_set_self (by have hq := getI_nat h188; simp; omega)).trans rfl | exact oblA) ?_
      exact wkT [] (ih (k + 1) hx1 _ nbF o h C0 C1)
  ·
   obtain rfl := hn_y0_o1 rfl
   refine SemK.round ?_
   refine brE h ?_ ?_
   ·clear h; intro h189 h
    refine bindE h ?_
    clear h; intro e190 h191 h
    try have qh191 := getI_lt h191
    exact absurd (h191) (by simp [getI])
   ·clear h; intro h189 h
    refine brE h ?_ ?_
    ·clear h; intro h192 h
     refine bindE h ?_
     clear h; intro _ h205 h
     clear h; have h := h205
     refine brE h ?_ ?_
     ·clear h; intro h206 h
      refine bindE h ?_
      clear h; intro e207 h208 h
      try have qh208 := getI_lt h208
      exact absurd (h208) (by simp [getI])
     ·clear h; intro h206 h
      refine brE h ?_ ?_
      ·clear h; intro h209 h
       refine bindE h ?_
       clear h; intro e210 h211 h
       try have qh211 := getI_lt h211
       exact absurd (h211) (by simp [getI])
      ·clear h; intro h209 h
       refine brE h ?_ ?_
       ·clear h; intro h212 h
        refine bindE h ?_
        clear h; intro e213 h214 h
        try have qh214 := getI_lt h214
        exact absurd (h214) (by simp [getI])
       ·clear h; intro h212 h
        refine brE h ?_ ?_
        ·clear h; intro h215 h
         refine bindE h ?_
         clear h; intro e216 h217 h
         try have qh217 := getI_lt h217
         exact absurd (h217) (by simp [getI])
        ·clear h; intro h215 h
         cases h
    ·clear h; intro h192 h
     refine bindE h ?_
     clear h; intro e218 h219 h
     try have qh219 := getI_lt h219
     exact absurd (h219) (by simp [getI])

theorem evals_All_L0_2_ok {Q : AExit → St → Mu → Prop} {μ : Mu} (y0_o0 : (V5 Int)) (y0_28 : (List GNode)) (hl : List.length y0_28 ≤ 140737488355328) : ∀ (xs : List GNode) (k : Nat) (hx : y0_28.drop k = xs) (y0_o1 : (List Int)) (o : evals_All_L0_2_o) (h : evals_All_L0_2 y0_o0 y0_28 xs k y0_o1 = some o)
  (C0 : ∀ (z0_0_o0 : (List Int)), o = evals_All_L0_2_o.x0 z0_0_o0 → SemK Tryz.prog 80 0 Q (.exit (.exit 0)) [] ⟨fr [(8, (AV.ref 0 0 (List.length z0_0_o0)))], hp ([(0, { es := List.map (aI .i64) z0_0_o0, esz := 1 })]), 1⟩ μ)
  (C1 : ∀ (z0_1_o0 : (List Int)) (z0_1_5 : Int) (nb_z0_1_o0 : Nb z0_1_o0), o = evals_All_L0_2_o.x1 z0_1_o0 z0_1_5 → SemK Tryz.prog 80 0 Q (.exit .ret) [] ⟨fr [(4, (slE nb_z0_1_o0.1 0 (List.map (aI .i64) z0_1_o0))), (5, (aI .i64 z0_1_5))], hp ([] ++ opE nb_z0_1_o0.1 0 1 (List.map (aI .i64) z0_1_o0)), 1⟩ μ),
  SemK Tryz.prog 80 0 Q (.loop (loopB 0 (bodyOf Tryz.f59))) [] ⟨fr [(7, (AV.ptr 0 0 0)), (8, (AV.ref 1 0 (List.length y0_o1))), (28, (AV.list false (List.map enc_GNode y0_28))), (29, (aI .i64 (List.length y0_28 : Int))), (30, (aI .i64 (k : Int)))], hp ([(0, { es := [(encv_V5i64 y0_o0)], esz := 5 }), (1, { es := List.map (aI .i64) y0_o1, esz := 1 })]), 2⟩ μ := by
 intro xs
 induction xs with
 | nil =>
  intro k hx y0_o1 o h C0 C1
  have hk := drop_nil hx
  have hc : decide ((k : Int) < (List.length y0_28 : Int)) = false := decide_eq_false (by omega)
  rw [evals_All_L0_2] at h
  refine SemK.round ?_
  obtain rfl := Option.some.inj h
  refine runT tmD [.br false] ?_
  exact wkT [(0, 1)] (C0 _  rfl)
 | cons x xs ih =>
  intro k hx y0_o1 o h C0 C1
  obtain ⟨hk, hg, hx1⟩ := drop_cons hx
  have hc : decide ((k : Int) < (List.length y0_28 : Int)) = true := decide_eq_true (by omega)
  rw [evals_All_L0_2] at h
  refine SemK.round ?_
  refine brE h ?_ ?_
  ·clear h; intro h303 h
   refine bindE h ?_
   clear h; intro e304 h305 h
   try have qh305 := getI_lt h305
   refine run_to tmD 4000 [.br true, .el (enc_GNode x), .br true, .el (aI .i64 e304), .ld (aI .i64 e304)] rfl (by repeat' first | refine And.intro ?_ ?_ | exact (List.getElem?_set_self (by have hq := getI_nat h305; simp; omega)).trans rfl | exact oblA) ?_
   exact wkT [] (ih (k + 1) hx1 _ o h C0 C1)
  ·clear h; intro h303 h
   refine brE h ?_ ?_
   ·clear h; intro h306 h
    refine bindE h ?_
    clear h; intro j319_o1 h332 h
    refine runT tmD [.br true, .el (enc_GNode x), .br false, .br true, .stop 16] ?_
    refine SemK.join (s' := ⟨fr [(7, (AV.ptr 0 0 0)), (8, (AV.ref 1 0 (List.length j319_o1))), (28, (AV.list false (List.map enc_GNode y0_28))), (29, (aI .i64 (List.length y0_28 : Int))), (30, (aI .i64 (k : Int)))], hp ([(0, { es := [(encv_V5i64 y0_o0)], esz := 5 }), (1, { es := List.map (aI .i64) j319_o1, esz := 1 })]), 2⟩) ?_ (fun J => SemK.cut ?_)
    ·
     refine runT tmD [] ?_
     exact wkT [] (ih (k + 1) hx1 _ o h C0 C1)
    ·
     clear h
     have h := h332
     refine brE h ?_ ?_
     ·clear h; intro h320 h
      refine bindE h ?_
      clear h; intro e321 h322 h
      try have qh322 := getI_lt h322
      obtain rfl := Option.some.inj h
      refine run_to tmD 4000 [.ix 0, .el (aI .i64 e321), .ld (aI .i64 e321)] rfl (by repeat' first | refine And.intro ?_ ?_ | exact ((eq_of_beq h320)) | exact (List.getElem?_set_self (by have hq := getI_nat h322; simp; omega)).trans rfl | exact oblA) ?_
      exact wkT [] (SemK.glue J)
     ·clear h; intro h320 h
      refine brE h ?_ ?_
      ·clear h; intro h323 h
       refine bindE h ?_
       clear h; intro e324 h325 h
       try have qh325 := getI_lt h325
       obtain rfl := Option.some.inj h
       refine run_to tmD 4000 [.ix 2, .el (aI .i64 e324), .ld (aI .i64 e324)] rfl (by repeat' first | refine And.intro ?_ ?_ | exact ((eq_of_beq h323)) | exact (List.getElem?_set_self (by have hq := getI_nat h325; simp; omega)).trans rfl | exact oblA) ?_
       exact wkT [] (SemK.glue J)
      ·clear h; intro h323 h
       refine brE h ?_ ?_
       ·clear h; intro h326 h
        refine bindE h ?_
        clear h; intro e327 h328 h
        try have qh328 := getI_lt h328
        obtain rfl := Option.some.inj h
        refine run_to tmD 4000 [.ix 3, .el (aI .i64 e327), .ld (aI .i64 e327)] rfl (by repeat' first | refine And.intro ?_ ?_ | exact ((eq_of_beq h326)) | exact (List.getElem?_set_self (by have hq := getI_nat h328; simp; omega)).trans rfl | exact oblA) ?_
        exact wkT [] (SemK.glue J)
       ·clear h; intro h326 h
        refine brE h ?_ ?_
        ·clear h; intro h329 h
         refine bindE h ?_
         clear h; intro e330 h331 h
         try have qh331 := getI_lt h331
         obtain rfl := Option.some.inj h
         refine run_to tmD 4000 [.ix 4, .el (aI .i64 e330), .ld (aI .i64 e330)] rfl (by repeat' first | refine And.intro ?_ ?_ | exact ((eq_of_beq h329)) | exact (List.getElem?_set_self (by have hq := getI_nat h331; simp; omega)).trans rfl | exact oblA) ?_
         exact wkT [] (SemK.glue J)
        ·clear h; intro h329 h
         cases h
   ·clear h; intro h306 h
    refine bindE h ?_
    clear h; intro e333 h334 h
    try have qh334 := getI_lt h334
    refine bindE h ?_
    clear h; intro e335 h336 h
    try have qh336 := getI_lt h336
    refine bindE h ?_
    clear h; intro v337 h338 h
    refine run_to tmD 4000 [.br true, .el (enc_GNode x), .br false, .br false, .el (aI .i64 e333), .ld (aI .i64 e333), .el (aI .i64 e335), .ld (aI .i64 e335), .pure [(aI .u8 x.Kind), (aI .i64 e333), (aI .i64 e335)] (AV.tup [(aI .i64 v337.1), (aI .i64 v337.2)])] rfl (by repeat' first | refine And.intro ?_ ?_ | exact (PureCall.none (ints_Do_ok _ _ _ _ h338) (Cvs.cons .sc (Cvs.cons .sc (Cvs.cons .sc Cvs.nil)))) | exact oblA) ?_
    refine brE h ?_ ?_
    ·clear h; intro h339 h
     obtain rfl := Option.some.inj h
     refine runT tmD [.br true] ?_
     exact wkT [] (C1 _ _  (nbT (by first | rfl | simp [*])) rfl)
    ·clear h; intro h339 h
     refine bindE h ?_
     clear h; intro e340 h341 h
     try have qh341 := getI_lt h341
     refine run_to tmD 4000 [.br false, .el (aI .i64 e340), .ld (aI .i64 e340)] rfl (by repeat' first | refine And.intro ?_ ?_ | exact (List.getElem?_set_self (by have hq := getI_nat h341; simp; omega)).trans rfl | exact oblA) ?_
     exact wkT [] (ih (k + 1) hx1 _ o h C0 C1)

theorem evals_All_ok (a0 : (List GNode)) (a1 : GRecord) (r : (List Int) × Int) (h : evals_All a0 a1 = some r) : Pure Tryz.prog 59 [(AV.list false (List.map enc_GNode a0)), (enc_GRecord a1)] (AV.tup [(AV.list true (List.map (aI .i64) r.1)), (aI .i64 r.2)]) := by
 refine Pure.sym tyTab_ok fn59 (nt := 80) rfl rfl ?_ (allCons .list (allCons (free_GRecord _ _).1 allNil))
 unfold evals_All at h
 refine bindE h ?_
 clear h; intro v1 h2 h
 refine brE h ?_ ?_
 ·clear h; intro h3 h
  obtain rfl := Option.some.inj h
  refine run_to tmD 4000 [.pure [(AV.list false (List.map enc_GNode a0))] (aI .i64 v1), .br true] rfl (by repeat' first | refine And.intro ?_ ?_ | exact (PureCall.none (evals_check_ok _ _ h2) (Cvs.cons (cv_list (flat_map flat_GNode a0)) Cvs.nil)) | exact oblA) ?_
  refine fin_ret rfl ?_
  exact (cv_tup (Cvs.cons (cv_nils (es := List.map (aI .i64) ([] : List Int)) (by simp [*])) (Cvs.cons .sc Cvs.nil)))
 ·clear h; intro h3 h
  refine bindE h ?_
  clear h; intro u4 h5 h
  have qh5 := mkOk_le h5
  refine brE h ?_ ?_
  ·clear h; intro q h
   have h6 : (List.length a0 : Int) = 0 := by simpa using q
   refine bindE h ?_
   clear h; intro u7 h8 h
   have qh8 := lenOk_le h8
   refine bindE h ?_
   clear h; intro o220 h221 h
   refine run_to tmD 4000 [.pure [(AV.list false (List.map enc_GNode a0))] (aI .i64 v1), .br false, .el (aI .i64 (List.length a0 : Int)), .ne false, .el (aI .i64 (List.length a0 : Int))] rfl (by repeat' first | refine And.intro ?_ ?_ | exact (PureCall.none (evals_check_ok _ _ h2) (Cvs.cons (cv_list (flat_map flat_GNode a0)) Cvs.nil)) | exact (Int.le_trans qh5.2.2 (by decide)) | exact (by omega) | exact oblA) ?_
   refine wkT [(0, 1)] (SemK.cut (evals_All_L0_ok (V5.mk 0 0 a1.Key a1.Time a1.Value) a0 qh8 a0 0 (by simp) _ (nbT (by first | rfl | simp [*])) _ h221 ?_ ?_))
   ·intro z0_0_o0 nb_z0_0_o0 eo220; subst eo220
    refine SemK.glue ?_
    try dsimp only at h
    rcases nb_z0_0_o0 with ⟨_ | _, hn_z0_0_o0⟩
    ·
     obtain rfl := Option.some.inj h
     refine runT tmD [] ?_
     refine fin_ret rfl ?_
     exact (cv_tup (Cvs.cons (cv_ref (es := List.map (aI .i64) z0_0_o0) rfl (by first | rfl | (simp; done) | (simp; rfl) | (simp [h3, h6]; done) | (simp [h3, h6]; rfl) | (simp [h3, h6, List.map_take, List.map_drop]; done) | (simp [h3, h6, List.map_take, List.map_drop]; rfl)) (by first | rfl | (simp; done) | (simp; omega) | (simp [h3, h6]; done) | (simp [h3, h6]; omega)) (flat_map (fun _ => flatSc) z0_0_o0)) (Cvs.cons .sc Cvs.nil)))
    ·
     obtain rfl := hn_z0_0_o0 rfl
     obtain rfl := Option.some.inj h
     refine runT tmD [] ?_
     refine fin_ret rfl ?_
     exact (cv_tup (Cvs.cons (cv_nils (es := List.map (aI .i64) ([] : List Int)) (by simp [*])) (Cvs.cons .sc Cvs.nil)))
   ·intro z0_1_o0 z0_1_5 nb_z0_1_o0 eo220; subst eo220
    refine SemK.glue ?_
    try dsimp only at h
    rcases nb_z0_1_o0 with ⟨_ | _, hn_z0_1_o0⟩
    ·
     obtain rfl := Option.some.inj h
     refine runT tmD [] ?_
     refine fin_ret rfl ?_
     exact (cv_tup (Cvs.cons (cv_ref (es := List.map (aI .i64) z0_1_o0) rfl (by first | rfl | (simp; done) | (simp; rfl) | (simp [h3, h6]; done) | (simp [h3, h6]; rfl) | (simp [h3, h6, List.map_take, List.map_drop]; done) | (simp [h3, h6, List.map_take, List.map_drop]; rfl)) (by first | rfl | (simp; done) | (simp; omega) | (simp [h3, h6]; done) | (simp [h3, h6]; omega)) (flat_map (fun _ => flatSc) z0_1_o0)) (Cvs.cons .sc Cvs.nil)))
    ·
     obtain rfl := hn_z0_1_o0 rfl
     obtain rfl := Option.some.inj h
     refine runT tmD [] ?_
     refine fin_ret rfl ?_
     exact (cv_tup (Cvs.cons (cv_nils (es := List.map (aI .i64) ([] : List Int)) (by simp [*])) (Cvs.cons .sc Cvs.nil)))
  ·clear h; intro q h
   have h6 : ¬ ((List.length a0 : Int) = 0) := by simpa using q
   refine bindE h ?_
   clear h; intro u222 h223 h
   have qh223 := lenOk_le h223
   refine bindE h ?_
   clear h; intro o342 h343 h
   refine run_to tmD 4000 [.pure [(AV.list false (List.map enc_GNode a0))] (aI .i64 v1), .br false, .el (aI .i64 (List.length a0 : Int)), .el (aI .i64 (List.length a0 : Int))] rfl (by repeat' first | refine And.intro ?_ ?_ | exact (PureCall.none (evals_check_ok _ _ h2) (Cvs.cons (cv_list (flat_map flat_GNode a0)) Cvs.nil)) | exact (Int.le_trans qh5.2.2 (by decide)) | exact (by omega) | exact oblA) ?_
   refine wkT [(0, 1), (1, 2)] (SemK.cut (evals_All_L0_2_ok (V5.mk 0 0 a1.Key a1.Time a1.Value) a0 qh223 a0 0 (by simp) _ _ h343 ?_ ?_))
   ·intro z0_0_o0 eo342; subst eo342
    refine SemK.glue ?_
    try dsimp only at h
    obtain rfl := Option.some.inj h
    refine runT tmD [] ?_
    refine fin_ret rfl ?_
    exact (cv_tup (Cvs.cons (cv_ref (es := List.map (aI .i64) z0_0_o0) rfl (by first | rfl | (simp; done) | (simp; rfl) | (simp [h3, h6]; done) | (simp [h3, h6]; rfl) | (simp [h3, h6, List.map_take, List.map_drop]; done) | (simp [h3, h6, List.map_take, List.map_drop]; rfl)) (by first | rfl | (simp; done) | (simp; omega) | (simp [h3, h6]; done) | (simp [h3, h6]; omega)) (flat_map (fun _ => flatSc) z0_0_o0)) (Cvs.cons .sc Cvs.nil)))
   ·intro z0_1_o0 z0_1_5 nb_z0_1_o0 eo342; subst eo342
    refine SemK.glue ?_
    try dsimp only at h
    rcases nb_z0_1_o0 with ⟨_ | _, hn_z0_1_o0⟩
    ·
     obtain rfl := Option.some.inj h
     refine runT tmD [] ?_
     refine fin_ret rfl ?_
     exact (cv_tup (Cvs.cons (cv_ref (es := List.map (aI .i64) z0_1_o0) rfl (by first | rfl | (simp; done) | (simp; rfl) | (simp [h3, h6]; done) | (simp [h3, h6]; rfl) | (simp [h3, h6, List.map_take, List.map_drop]; done) | (simp [h3, h6, List.map_take, List.map_drop]; rfl)) (by first | rfl | (simp; done) | (simp; omega) | (simp [h3, h6]; done) | (simp [h3, h6]; omega)) (flat_map (fun _ => flatSc) z0_1_o0)) (Cvs.cons .sc Cvs.nil)))
    ·
     obtain rfl := hn_z0_1_o0 rfl
     obtain rfl := Option.some.inj h
     refine runT tmD [] ?_
     refine fin_ret rfl ?_
     exact (cv_tup (Cvs.cons (cv_nils (es := List.map (aI .i64) ([] : List Int)) (by simp [*])) (Cvs.cons .sc Cvs.nil)))

theorem evals_Of_ok (a0 : (List GNode)) (a1 : GRecord) (r : Int × Int) (h : evals_Of a0 a1 = some r) : Pure Tryz.prog 35 [(AV.list false (List.map enc_GNode a0)), (enc_GRecord a1)] (AV.tup [(aI .i64 r.1), (aI .i64 r.2)]) := by
 refine Pure.sym tyTab_ok fn35 (nt := 23) rfl rfl ?_ (allCons .list (allCons (free_GRecord _ _).1 allNil))
 unfold evals_Of at h
 refine bindE h ?_
 clear h; intro v1 h2 h
 refine brE h ?_ ?_
 ·clear h; intro h3 h
  obtain rfl := Option.some.inj h
  refine run_to tmD 4000 [.pure [(AV.list false (List.map enc_GNode a0)), (enc_GRecord a1)] (AV.tup [(AV.list true (List.map (aI .i64) v1.1)), (aI .i64 v1.2)]), .br true] rfl (by repeat' first | refine And.intro ?_ ?_ | exact (PureCall.none (evals_All_ok _ _ _ h2) (Cvs.cons (cv_list (flat_map flat_GNode a0)) (Cvs.cons (cvf_GRecord (x := a1)) Cvs.nil))) | exact oblA) ?_
  refine fin_ret rfl ?_
  exact (cv_tup (Cvs.cons .sc (Cvs.cons .sc Cvs.nil)))
 ·clear h; intro h3 h
  refine bindE h ?_
  clear h; intro e4 h5 h
  try have qh5 := getI_lt h5
  obtain rfl := Option.some.inj h
  refine run_to tmD 4000 [.pure [(AV.list false (List.map enc_GNode a0)), (enc_GRecord a1)] (AV.tup [(AV.list true (List.map (aI .i64) v1.1)), (aI .i64 v1.2)]), .br false, .el (aI .i64 (List.length v1.1 : Int)), .wrap, .el (aI .i64 e4)] rfl (by repeat' first | refine And.intro ?_ ?_ | exact (PureCall.none (evals_All_ok _ _ _ h2) (Cvs.cons (cv_list (flat_map flat_GNode a0)) (Cvs.cons (cvf_GRecord (x := a1)) Cvs.nil))) | exact oblA) ?_
  refine fin_ret rfl ?_
  exact (cv_tup (Cvs.cons .sc (Cvs.cons .sc Cvs.nil)))
end Go.Av.Tryz
