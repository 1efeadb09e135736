/- Printed by decomp.py: that the program computes the functions. -/
import Derived.Test.YtfdfgobnpnoomaaGreatDCert17Z
set_option linter.all false
set_option linter.unusedVariables false
namespace Go.Av.Tryz
open Go.Proofs Go.D
set_option maxRecDepth 10000
set_option maxHeartbeats 4000000

theorem ref04_Sizes_L0_ok {Q : AExit → St → Mu → Prop} {μ : Mu} (y0_0 : (List GNode)) (hl : List.length y0_0 ≤ 140737488355328) : ∀ (xs : List GNode) (k : Nat) (hx : y0_0.drop k = xs) (y0_o0 : (List Int)) (y0_o1 : (List Int)) (nb_y0_o0 : Nb y0_o0) (nb_y0_o1 : Nb y0_o1) (o : ref04_Sizes_L0_o) (h : ref04_Sizes_L0 y0_0 xs k y0_o0 y0_o1 = some o)
  (C0 : ∀ (z0_0_o0 : (List Int)) (z0_0_o1 : (List Int)) (nb_z0_0_o0 : Nb z0_0_o0) (nb_z0_0_o1 : Nb z0_0_o1), o = ref04_Sizes_L0_o.x0 z0_0_o0 z0_0_o1 → SemK Tryz.prog 102 0 Q (.exit (.exit 0)) [] ⟨fr [(0, (AV.list false (List.map enc_GNode y0_0))), (5, (slE nb_z0_0_o0.1 0 (List.map (aI .i64) z0_0_o0))), (6, (slE nb_z0_0_o1.1 1 (List.map (aI .i64) z0_0_o1)))], hp ([] ++ opE nb_z0_0_o0.1 0 1 (List.map (aI .i64) z0_0_o0) ++ opE nb_z0_0_o1.1 1 1 (List.map (aI .i64) z0_0_o1)), 2⟩ μ)
  (C1 : ∀ (z0_1_o0 : (List Int)) (z0_1_o1 : (List Int)) (nb_z0_1_o0 : Nb z0_1_o0) (nb_z0_1_o1 : Nb z0_1_o1), o = ref04_Sizes_L0_o.x1 z0_1_o0 z0_1_o1 → SemK Tryz.prog 102 0 Q (.exit .ret) [] ⟨fr [(2, (slE nb_z0_1_o0.1 0 (List.map (aI .i64) z0_1_o0))), (3, (slE nb_z0_1_o1.1 1 (List.map (aI .i64) z0_1_o1))), (4, (aB false))], hp ([] ++ opE nb_z0_1_o0.1 0 1 (List.map (aI .i64) z0_1_o0) ++ opE nb_z0_1_o1.1 1 1 (List.map (aI .i64) z0_1_o1)), 2⟩ μ),
  SemK Tryz.prog 102 0 Q (.loop (loopB 0 (bodyOf Tryz.f128))) [] ⟨fr [(0, (AV.list false (List.map enc_GNode y0_0))), (5, (slE nb_y0_o0.1 0 (List.map (aI .i64) y0_o0))), (6, (slE nb_y0_o1.1 1 (List.map (aI .i64) y0_o1))), (7, (aI .i64 (k : Int)))], hp ([] ++ opE nb_y0_o0.1 0 1 (List.map (aI .i64) y0_o0) ++ opE nb_y0_o1.1 1 1 (List.map (aI .i64) y0_o1)), 2⟩ μ := by
 intro xs
 induction xs with
 | nil =>
  intro k hx y0_o0 y0_o1 nb_y0_o0 nb_y0_o1 o h C0 C1
  have hk := drop_nil hx
  have hc : decide ((k : Int) < (List.length y0_0 : Int)) = false := decide_eq_false (by omega)
  rw [ref04_Sizes_L0] at h
  rcases nb_y0_o0 with ⟨_ | _, hn_y0_o0⟩
  ·
   rcases nb_y0_o1 with ⟨_ | _, hn_y0_o1⟩
   ·
    refine SemK.round ?_
    obtain rfl := Option.some.inj h
    refine runT tmD [.el (aI .i64 (List.length y0_0 : Int)), .br false] ?_
    exact wkT [] (C0 _ _  nbF nbF rfl)
   ·
    obtain rfl := hn_y0_o1 rfl
    refine SemK.round ?_
    obtain rfl := Option.some.inj h
    refine runT tmD [.el (aI .i64 (List.length y0_0 : Int)), .br false] ?_
    exact wkT [] (C0 _ _  nbF (nbT (by first | rfl | simp [*])) rfl)
  ·
   obtain rfl := hn_y0_o0 rfl
   rcases nb_y0_o1 with ⟨_ | _, hn_y0_o1⟩
   ·
    refine SemK.round ?_
    obtain rfl := Option.some.inj h
    refine runT tmD [.el (aI .i64 (List.length y0_0 : Int)), .br false] ?_
    exact wkT [] (C0 _ _  (nbT (by first | rfl | simp [*])) nbF rfl)
   ·
    obtain rfl := hn_y0_o1 rfl
    refine SemK.round ?_
    obtain rfl := Option.some.inj h
    refine runT tmD [.el (aI .i64 (List.length y0_0 : Int)), .br false] ?_
    exact wkT [] (C0 _ _  (nbT (by first | rfl | simp [*])) (nbT (by first | rfl | simp [*])) rfl)
 | cons x xs ih =>
  intro k hx y0_o0 y0_o1 nb_y0_o0 nb_y0_o1 o h C0 C1
  obtain ⟨hk, hg, hx1⟩ := drop_cons hx
  have hc : decide ((k : Int) < (List.length y0_0 : Int)) = true := decide_eq_true (by omega)
  rw [ref04_Sizes_L0] at h
  rcases nb_y0_o0 with ⟨_ | _, hn_y0_o0⟩
  ·
   rcases nb_y0_o1 with ⟨_ | _, hn_y0_o1⟩
   ·
    refine SemK.round ?_
    refine bindE h ?_
    clear h; intro v156 h157 h
    refine brE h ?_ ?_
    ·clear h; intro h158 h
     refine brE h ?_ ?_
     ·clear h; intro h159 h
      obtain rfl := Option.some.inj h
      refine run_to tmD 4000 [.el (aI .i64 (List.length y0_0 : Int)), .br true, .el (enc_GNode x), .pure [(aI .u8 x.Kind)] (aI .i64 v156), .br true, .wrap, .br true] rfl (by repeat' first | refine And.intro ?_ ?_ | exact (PureCall.none (ref04_Count_ok _ _ h157) (Cvs.cons .sc Cvs.nil)) | exact oblA) ?_
      exact wkT [] (C1 _ _  (nbT (by first | rfl | simp [*])) (nbT (by first | rfl | simp [*])) rfl)
     ·clear h; intro h159 h
      refine bindE h ?_
      clear h; intro e160 h161 h
      try have qh161 := getI_lt h161
      refine bindE h ?_
      clear h; intro e162 h163 h
      try have qh163 := getI_lt h163
      refine run_to tmD 4000 [.el (aI .i64 (List.length y0_0 : Int)), .br true, .el (enc_GNode x), .pure [(aI .u8 x.Kind)] (aI .i64 v156), .br true, .wrap, .br false, .el (aI .i64 e160), .ld (aI .i64 e160), .wrap, .el (aI .i64 e160), .ld (aI .i64 e160), .wrap, .el (aI .i64 e162), .ld (aI .i64 e162), .wrap] rfl (by repeat' first | refine And.intro ?_ ?_ | exact (PureCall.none (ref04_Count_ok _ _ h157) (Cvs.cons .sc Cvs.nil)) | exact oblA) ?_
      refine brE h ?_ ?_
      ·clear h; intro h164 h
       refine brE h ?_ ?_
       ·clear h; intro h165 h
        obtain rfl := Option.some.inj h
        refine runT tmD [.br true, .br true] ?_
        exact wkT [] (C1 _ _  (nbT (by first | rfl | simp [*])) (nbT (by first | rfl | simp [*])) rfl)
       ·clear h; intro h165 h
        refine bindE h ?_
        clear h; intro e166 h167 h
        try have qh167 := getI_lt h167
        refine bindE h ?_
        clear h; intro e168 h169 h
        try have qh169 := getI_lt h169
        refine bindE h ?_
        clear h; intro v170 h171 h
        refine run_to tmD 4000 [.br true, .br false, .el (aI .i64 e166), .ld (aI .i64 e166), .wrap, .el (aI .i64 e168), .ld (aI .i64 e168), .wrap, .el (enc_GNode x), .pure [(enc_GNode x), (aI .i64 (IntKind.i64.wrap ((IntKind.i64.wrap ((k : Int) - 1)) - e160))), (aI .i64 (IntKind.i64.wrap ((k : Int) - 1)))] (aB v170)] rfl (by repeat' first | refine And.intro ?_ ?_ | exact (PureCall.none (ref04_right_ok _ _ _ _ h171) (Cvs.cons (cvf_GNode (x := x)) (Cvs.cons .sc (Cvs.cons .sc Cvs.nil)))) | exact oblA) ?_
        refine brE h ?_ ?_
        ·clear h; intro h172 h
         obtain rfl := Option.some.inj h
         refine runT tmD [.br true] ?_
         exact wkT [] (C1 _ _  (nbT (by first | rfl | simp [*])) (nbT (by first | rfl | simp [*])) rfl)
        ·clear h; intro h172 h
         refine bindE h ?_
         clear h; intro u173 h174 h
         refine bindE h ?_
         clear h; intro u175 h176 h
         refine run_to tmD 4000 [.br false, .no, .no] rfl (by repeat' first | refine And.intro ?_ ?_ | (refine capLe h174 rfl ?_; first | (simp; done) | (simp; omega) | (simp [hc, h158, h159, h164, h165, h172]; done) | (simp [hc, h158, h159, h164, h165, h172]; omega)) | (refine capMax h174 (by decide) ?_; first | (simp; done) | (simp; omega) | (simp [hc, h158, h159, h164, h165, h172]; done) | (simp [hc, h158, h159, h164, h165, h172]; omega)) | (refine capLe h176 rfl ?_; first | (simp; done) | (simp; omega) | (simp [hc, h158, h159, h164, h165, h172]; done) | (simp [hc, h158, h159, h164, h165, h172]; omega)) | (refine capMax h176 (by decide) ?_; first | (simp; done) | (simp; omega) | (simp [hc, h158, h159, h164, h165, h172]; done) | (simp [hc, h158, h159, h164, h165, h172]; omega)) | exact oblA) ?_
         exact wkT [(0, 3), (1, 5)] (ih (k + 1) hx1 _ _ nbF nbF o h C0 C1)
      ·clear h; intro h164 h
       refine bindE h ?_
       clear h; intro v177 h178 h
       refine brE h ?_ ?_
       ·clear h; intro h179 h
        obtain rfl := Option.some.inj h
        refine run_to tmD 4000 [.br false, .el (enc_GNode x), .pure [(enc_GNode x), (aI .i64 (IntKind.i64.wrap ((k : Int) - 1))), (aI .i64 0)] (aB v177), .br true] rfl (by repeat' first | refine And.intro ?_ ?_ | exact (PureCall.none (ref04_right_ok _ _ _ _ h178) (Cvs.cons (cvf_GNode (x := x)) (Cvs.cons .sc (Cvs.cons .sc Cvs.nil)))) | exact oblA) ?_
        exact wkT [] (C1 _ _  (nbT (by first | rfl | simp [*])) (nbT (by first | rfl | simp [*])) rfl)
       ·clear h; intro h179 h
        refine bindE h ?_
        clear h; intro u180 h181 h
        refine bindE h ?_
        clear h; intro u182 h183 h
        refine run_to tmD 4000 [.br false, .el (enc_GNode x), .pure [(enc_GNode x), (aI .i64 (IntKind.i64.wrap ((k : Int) - 1))), (aI .i64 0)] (aB v177), .br false, .no, .no] rfl (by repeat' first | refine And.intro ?_ ?_ | exact (PureCall.none (ref04_right_ok _ _ _ _ h178) (Cvs.cons (cvf_GNode (x := x)) (Cvs.cons .sc (Cvs.cons .sc Cvs.nil)))) | (refine capLe h181 rfl ?_; first | (simp; done) | (simp; omega) | (simp [hc, h158, h159, h164, h179]; done) | (simp [hc, h158, h159, h164, h179]; omega)) | (refine capMax h181 (by decide) ?_; first | (simp; done) | (simp; omega) | (simp [hc, h158, h159, h164, h179]; done) | (simp [hc, h158, h159, h164, h179]; omega)) | (refine capLe h183 rfl ?_; first | (simp; done) | (simp; omega) | (simp [hc, h158, h159, h164, h179]; done) | (simp [hc, h158, h159, h164, h179]; omega)) | (refine capMax h183 (by decide) ?_; first | (simp; done) | (simp; omega) | (simp [hc, h158, h159, h164, h179]; done) | (simp [hc, h158, h159, h164, h179]; omega)) | exact oblA) ?_
        exact wkT [(0, 3), (1, 5)] (ih (k + 1) hx1 _ _ nbF nbF o h C0 C1)
    ·clear h; intro h158 h
     refine bindE h ?_
     clear h; intro v184 h185 h
     refine run_to tmD 4000 [.el (aI .i64 (List.length y0_0 : Int)), .br true, .el (enc_GNode x), .pure [(aI .u8 x.Kind)] (aI .i64 v156), .br false, .el (enc_GNode x), .pure [(enc_GNode x), (aI .i64 0), (aI .i64 0)] (aB v184)] rfl (by repeat' first | refine And.intro ?_ ?_ | exact (PureCall.none (ref04_Count_ok _ _ h157) (Cvs.cons .sc Cvs.nil)) | exact (PureCall.none (ref04_right_ok _ _ _ _ h185) (Cvs.cons (cvf_GNode (x := x)) (Cvs.cons .sc (Cvs.cons .sc Cvs.nil)))) | exact oblA) ?_
     refine brE h ?_ ?_
     ·clear h; intro h186 h
      obtain rfl := Option.some.inj h
      refine runT tmD [.br true] ?_
      exact wkT [] (C1 _ _  (nbT (by first | rfl | simp [*])) (nbT (by first | rfl | simp [*])) rfl)
     ·clear h; intro h186 h
      refine bindE h ?_
      clear h; intro u187 h188 h
      refine bindE h ?_
      clear h; intro u189 h190 h
      refine run_to tmD 4000 [.br false, .no, .no] rfl (by repeat' first | refine And.intro ?_ ?_ | (refine capLe h188 rfl ?_; first | (simp; done) | (simp; omega) | (simp [hc, h158, h186]; done) | (simp [hc, h158, h186]; omega)) | (refine capMax h188 (by decide) ?_; first | (simp; done) | (simp; omega) | (simp [hc, h158, h186]; done) | (simp [hc, h158, h186]; omega)) | (refine capLe h190 rfl ?_; first | (simp; done) | (simp; omega) | (simp [hc, h158, h186]; done) | (simp [hc, h158, h186]; omega)) | (refine capMax h190 (by decide) ?_; first | (simp; done) | (simp; omega) | (simp [hc, h158, h186]; done) | (simp [hc, h158, h186]; omega)) | exact oblA) ?_
      exact wkT [(0, 3), (1, 5)] (ih (k + 1) hx1 _ _ nbF nbF o h C0 C1)
   ·
    obtain rfl := hn_y0_o1 rfl
    refine SemK.round ?_
    refine bindE h ?_
    clear h; intro v191 h192 h
    refine brE h ?_ ?_
    ·clear h; intro h193 h
     refine brE h ?_ ?_
     ·clear h; intro h194 h
      obtain rfl := Option.some.inj h
      refine run_to tmD 4000 [.el (aI .i64 (List.length y0_0 : Int)), .br true, .el (enc_GNode x), .pure [(aI .u8 x.Kind)] (aI .i64 v191), .br true, .wrap, .br true] rfl (by repeat' first | refine And.intro ?_ ?_ | exact (PureCall.none (ref04_Count_ok _ _ h192) (Cvs.cons .sc Cvs.nil)) | exact oblA) ?_
      exact wkT [] (C1 _ _  (nbT (by first | rfl | simp [*])) (nbT (by first | rfl | simp [*])) rfl)
     ·clear h; intro h194 h
      refine bindE h ?_
      clear h; intro e195 h196 h
      try have qh196 := getI_lt h196
      refine bindE h ?_
      clear h; intro e197 h198 h
      try have qh198 := getI_lt h198
      exact absurd (h198) (by simp [getI])
    ·clear h; intro h193 h
     refine bindE h ?_
     clear h; intro v199 h200 h
     refine run_to tmD 4000 [.el (aI .i64 (List.length y0_0 : Int)), .br true, .el (enc_GNode x), .pure [(aI .u8 x.Kind)] (aI .i64 v191), .br false, .el (enc_GNode x), .pure [(enc_GNode x), (aI .i64 0), (aI .i64 0)] (aB v199)] rfl (by repeat' first | refine And.intro ?_ ?_ | exact (PureCall.none (ref04_Count_ok _ _ h192) (Cvs.cons .sc Cvs.nil)) | exact (PureCall.none (ref04_right_ok _ _ _ _ h200) (Cvs.cons (cvf_GNode (x := x)) (Cvs.cons .sc (Cvs.cons .sc Cvs.nil)))) | exact oblA) ?_
     refine brE h ?_ ?_
     ·clear h; intro h201 h
      obtain rfl := Option.some.inj h
      refine runT tmD [.br true] ?_
      exact wkT [] (C1 _ _  (nbT (by first | rfl | simp [*])) (nbT (by first | rfl | simp [*])) rfl)
     ·clear h; intro h201 h
      refine bindE h ?_
      clear h; intro u202 h203 h
      refine bindE h ?_
      clear h; intro u204 h205 h
      refine run_to tmD 4000 [.br false, .no, .no] rfl (by repeat' first | refine And.intro ?_ ?_ | (refine capLe h203 rfl ?_; first | (simp; done) | (simp; omega) | (simp [hc, h193, h201]; done) | (simp [hc, h193, h201]; omega)) | (refine capMax h203 (by decide) ?_; first | (simp; done) | (simp; omega) | (simp [hc, h193, h201]; done) | (simp [hc, h193, h201]; omega)) | (refine capLe h205 rfl ?_; first | (simp; done) | (simp; omega) | (simp [hc, h193, h201]; done) | (simp [hc, h193, h201]; omega)) | (refine capMax h205 (by decide) ?_; first | (simp; done) | (simp; omega) | (simp [hc, h193, h201]; done) | (simp [hc, h193, h201]; omega)) | exact oblA) ?_
      exact wkT [(0, 3), (1, 5)] (ih (k + 1) hx1 _ _ nbF nbF o h C0 C1)
  ·
   obtain rfl := hn_y0_o0 rfl
   rcases nb_y0_o1 with ⟨_ | _, hn_y0_o1⟩
   ·
    refine SemK.round ?_
    refine bindE h ?_
    clear h; intro v206 h207 h
    refine brE h ?_ ?_
    ·clear h; intro h208 h
     refine brE h ?_ ?_
     ·clear h; intro h209 h
      obtain rfl := Option.some.inj h
      refine run_to tmD 4000 [.el (aI .i64 (List.length y0_0 : Int)), .br true, .el (enc_GNode x), .pure [(aI .u8 x.Kind)] (aI .i64 v206), .br true, .wrap, .br true] rfl (by repeat' first | refine And.intro ?_ ?_ | exact (PureCall.none (ref04_Count_ok _ _ h207) (Cvs.cons .sc Cvs.nil)) | exact oblA) ?_
      exact wkT [] (C1 _ _  (nbT (by first | rfl | simp [*])) (nbT (by first | rfl | simp [*])) rfl)
     ·clear h; intro h209 h
      refine bindE h ?_
      clear h; intro e210 h211 h
      try have qh211 := getI_lt h211
      exact absurd (h211) (by simp [getI])
    ·clear h; intro h208 h
     refine bindE h ?_
     clear h; intro v212 h213 h
     refine run_to tmD 4000 [.el (aI .i64 (List.length y0_0 : Int)), .br true, .el (enc_GNode x), .pure [(aI .u8 x.Kind)] (aI .i64 v206), .br false, .el (enc_GNode x), .pure [(enc_GNode x), (aI .i64 0), (aI .i64 0)] (aB v212)] rfl (by repeat' first | refine And.intro ?_ ?_ | exact (PureCall.none (ref04_Count_ok _ _ h207) (Cvs.cons .sc Cvs.nil)) | exact (PureCall.none (ref04_right_ok _ _ _ _ h213) (Cvs.cons (cvf_GNode (x := x)) (Cvs.cons .sc (Cvs.cons .sc Cvs.nil)))) | exact oblA) ?_
     refine brE h ?_ ?_
     ·clear h; intro h214 h
      obtain rfl := Option.some.inj h
      refine runT tmD [.br true] ?_
      exact wkT [] (C1 _ _  (nbT (by first | rfl | simp [*])) (nbT (by first | rfl | simp [*])) rfl)
     ·clear h; intro h214 h
      refine bindE h ?_
      clear h; intro u215 h216 h
      refine bindE h ?_
      clear h; intro u217 h218 h
      refine run_to tmD 4000 [.br false, .no, .no] rfl (by repeat' first | refine And.intro ?_ ?_ | (refine capLe h216 rfl ?_; first | (simp; done) | (simp; omega) | (simp [hc, h208, h214]; done) | (simp [hc, h208, h214]; omega)) | (refine capMax h216 (by decide) ?_; first | (simp; done) | (simp; omega) | (simp [hc, h208, h214]; done) | (simp [hc, h208, h214]; omega)) | (refine capLe h218 rfl ?_; first | (simp; done) | (simp; omega) | (simp [hc, h208, h214]; done) | (simp [hc, h208, h214]; omega)) | (refine capMax h218 (by decide) ?_; first | (simp; done) | (simp; omega) | (simp [hc, h208, h214]; done) | (simp [hc, h208, h214]; omega)) | exact oblA) ?_
      exact wkT [(0, 3), (1, 5)] (ih (k + 1) hx1 _ _ nbF nbF o h C0 C1)
   ·
    obtain rfl := hn_y0_o1 rfl
    refine SemK.round ?_
    refine bindE h ?_
    clear h; intro v219 h220 h
    refine brE h ?_ ?_
    ·clear h; intro h221 h
     refine brE h ?_ ?_
     ·clear h; intro h222 h
      obtain rfl := Option.some.inj h
      refine run_to tmD 4000 [.el (aI .i64 (List.length y0_0 : Int)), .br true, .el (enc_GNode x), .pure [(aI .u8 x.Kind)] (aI .i64 v219), .br true, .wrap, .br true] rfl (by repeat' first | refine And.intro ?_ ?_ | exact (PureCall.none (ref04_Count_ok _ _ h220) (Cvs.cons .sc Cvs.nil)) | exact oblA) ?_
      exact wkT [] (C1 _ _  (nbT (by first | rfl | simp [*])) (nbT (by first | rfl | simp [*])) rfl)
     ·clear h; intro h222 h
      refine bindE h ?_
      clear h; intro e223 h224 h
      try have qh224 := getI_lt h224
      exact absurd (h224) (by simp [getI])
    ·clear h; intro h221 h
     refine bindE h ?_
     clear h; intro v225 h226 h
     refine run_to tmD 4000 [.el (aI .i64 (List.length y0_0 : Int)), .br true, .el (enc_GNode x), .pure [(aI .u8 x.Kind)] (aI .i64 v219), .br false, .el (enc_GNode x), .pure [(enc_GNode x), (aI .i64 0), (aI .i64 0)] (aB v225)] rfl (by repeat' first | refine And.intro ?_ ?_ | exact (PureCall.none (ref04_Count_ok _ _ h220) (Cvs.cons .sc Cvs.nil)) | exact (PureCall.none (ref04_right_ok _ _ _ _ h226) (Cvs.cons (cvf_GNode (x := x)) (Cvs.cons .sc (Cvs.cons .sc Cvs.nil)))) | exact oblA) ?_
     refine brE h ?_ ?_
     ·clear h; intro h227 h
      obtain rfl := Option.some.inj h
      refine runT tmD [.br true] ?_
      exact wkT [] (C1 _ _  (nbT (by first | rfl | simp [*])) (nbT (by first | rfl | simp [*])) rfl)
     ·clear h; intro h227 h
      refine bindE h ?_
      clear h; intro u228 h229 h
      refine bindE h ?_
      clear h; intro u230 h231 h
      refine run_to tmD 4000 [.br false, .no, .no] rfl (by repeat' first | refine And.intro ?_ ?_ | (refine capLe h229 rfl ?_; first | (simp; done) | (simp; omega) | (simp [hc, h221, h227]; done) | (simp [hc, h221, h227]; omega)) | (refine capMax h229 (by decide) ?_; first | (simp; done) | (simp; omega) | (simp [hc, h221, h227]; done) | (simp [hc, h221, h227]; omega)) | (refine capLe h231 rfl ?_; first | (simp; done) | (simp; omega) | (simp [hc, h221, h227]; done) | (simp [hc, h221, h227]; omega)) | (refine capMax h231 (by decide) ?_; first | (simp; done) | (simp; omega) | (simp [hc, h221, h227]; done) | (simp [hc, h221, h227]; omega)) | exact oblA) ?_
      exact wkT [(0, 3), (1, 5)] (ih (k + 1) hx1 _ _ nbF nbF o h C0 C1)

theorem ref04_Sizes_ok (a0 : (List GNode)) (r : (List Int) × (List Int) × Bool) (h : ref04_Sizes a0 = some r) : Pure Tryz.prog 128 [(AV.list false (List.map enc_GNode a0))] (AV.tup [(AV.list true (List.map (aI .i64) r.1)), (AV.list true (List.map (aI .i64) r.2.1)), (aB r.2.2)]) := by
 refine Pure.sym tyTab_ok fn128 (nt := 102) rfl rfl ?_ (allCons .list allNil)
 unfold ref04_Sizes at h
 refine bindE h ?_
 clear h; intro u1 h2 h
 have qh2 := lenOk_le h2
 refine bindE h ?_
 clear h; intro o232 h233 h
 refine runT tmD [] ?_
 refine wkT [] (SemK.cut (ref04_Sizes_L0_ok a0 qh2 a0 0 (by simp) _ _ (nbT (by first | rfl | simp [*])) (nbT (by first | rfl | simp [*])) _ h233 ?_ ?_))
 ·intro z0_0_o0 z0_0_o1 nb_z0_0_o0 nb_z0_0_o1 eo232; subst eo232
  refine SemK.glue ?_
  try dsimp only at h
  rcases nb_z0_0_o0 with ⟨_ | _, hn_z0_0_o0⟩
  ·
   rcases nb_z0_0_o1 with ⟨_ | _, hn_z0_0_o1⟩
   ·
    refine bindE h ?_
    clear h; intro j237_4 h241 h
    refine runT tmD [.stop 25] ?_
    refine SemK.join (s' := ⟨fr [(2, (AV.ref 0 0 (List.length z0_0_o0))), (3, (AV.ref 1 0 (List.length z0_0_o1))), (4, (aB j237_4))], hp ([(0, { es := List.map (aI .i64) z0_0_o0, esz := 1 }), (1, { es := List.map (aI .i64) z0_0_o1, esz := 1 })]), 2⟩) ?_ (fun J => SemK.cut ?_)
    ·
     obtain rfl := Option.some.inj h
     refine runT tmD [] ?_
     refine fin_ret rfl ?_
     exact (cv_tup (Cvs.cons (cv_ref (es := List.map (aI .i64) z0_0_o0) rfl (by first | rfl | (simp; done) | (simp; rfl) | (simp []; done) | (simp []; rfl) | (simp [List.map_take, List.map_drop]; done) | (simp [List.map_take, List.map_drop]; rfl)) (by first | rfl | (simp; done) | (simp; omega) | (simp []; done) | (simp []; omega)) (flat_map (fun _ => flatSc) z0_0_o0)) (Cvs.cons (cv_ref (es := List.map (aI .i64) z0_0_o1) rfl (by first | rfl | (simp; done) | (simp; rfl) | (simp []; done) | (simp []; rfl) | (simp [List.map_take, List.map_drop]; done) | (simp [List.map_take, List.map_drop]; rfl)) (by first | rfl | (simp; done) | (simp; omega) | (simp []; done) | (simp []; omega)) (flat_map (fun _ => flatSc) z0_0_o1)) (Cvs.cons .sc Cvs.nil))))
    ·
     clear h
     have h := h241
     refine brE h ?_ ?_
     ·clear h; intro h238 h
      refine bindE h ?_
      clear h; intro e239 h240 h
      try have qh240 := getI_lt h240
      obtain rfl := Option.some.inj h
      refine runT tmD [.el (aI .i64 (List.length a0 : Int)), .go true, .go true, .go true, .el (aI .i64 (List.length a0 : Int)), .go true, .wrap, .go true, .el (aI .i64 e239), .go true, .ld (aI .i64 e239), .go true, .go true, .el (aI .i64 (List.length a0 : Int)), .go true] ?_
      exact wkT [] (SemK.glue J)
     ·clear h; intro h238 h
      obtain rfl := Option.some.inj h
      refine runT tmD [.el (aI .i64 (List.length a0 : Int)), .go false, .go false, .go false, .go false, .go false, .go false, .go false, .go false, .go false, .go false] ?_
      exact wkT [] (SemK.glue J)
   ·
    obtain rfl := hn_z0_0_o1 rfl
    refine bindE h ?_
    clear h; intro j245_4 h249 h
    refine runT tmD [.stop 25] ?_
    refine SemK.join (s' := ⟨fr [(2, (AV.ref 0 0 (List.length z0_0_o0))), (3, AV.nils), (4, (aB j245_4))], hp ([(0, { es := List.map (aI .i64) z0_0_o0, esz := 1 })]), 2⟩) ?_ (fun J => SemK.cut ?_)
    ·
     obtain rfl := Option.some.inj h
     refine runT tmD [] ?_
     refine fin_ret rfl ?_
     exact (cv_tup (Cvs.cons (cv_ref (es := List.map (aI .i64) z0_0_o0) rfl (by first | rfl | (simp; done) | (simp; rfl) | (simp []; done) | (simp []; rfl) | (simp [List.map_take, List.map_drop]; done) | (simp [List.map_take, List.map_drop]; rfl)) (by first | rfl | (simp; done) | (simp; omega) | (simp []; done) | (simp []; omega)) (flat_map (fun _ => flatSc) z0_0_o0)) (Cvs.cons (cv_nils (by simp)) (Cvs.cons .sc Cvs.nil))))
    ·
     clear h
     have h := h249
     refine brE h ?_ ?_
     ·clear h; intro h246 h
      refine bindE h ?_
      clear h; intro e247 h248 h
      try have qh248 := getI_lt h248
      obtain rfl := Option.some.inj h
      refine runT tmD [.el (aI .i64 (List.length a0 : Int)), .go true, .go true, .go true, .el (aI .i64 (List.length a0 : Int)), .go true, .wrap, .go true, .el (aI .i64 e247), .go true, .ld (aI .i64 e247), .go true, .go true, .el (aI .i64 (List.length a0 : Int)), .go true] ?_
      exact wkT [] (SemK.glue J)
     ·clear h; intro h246 h
      obtain rfl := Option.some.inj h
      refine runT tmD [.el (aI .i64 (List.length a0 : Int)), .go false, .go false, .go false, .go false, .go false, .go false, .go false, .go false, .go false, .go false] ?_
      exact wkT [] (SemK.glue J)
  ·
   obtain rfl := hn_z0_0_o0 rfl
   rcases nb_z0_0_o1 with ⟨_ | _, hn_z0_0_o1⟩
   ·
    refine bindE h ?_
    clear h; intro j253_4 h257 h
    refine runT tmD [.stop 25] ?_
    refine SemK.join (s' := ⟨fr [(2, AV.nils), (3, (AV.ref 1 0 (List.length z0_0_o1))), (4, (aB j253_4))], hp ([(1, { es := List.map (aI .i64) z0_0_o1, esz := 1 })]), 2⟩) ?_ (fun J => SemK.cut ?_)
    ·
     obtain rfl := Option.some.inj h
     refine runT tmD [] ?_
     refine fin_ret rfl ?_
     exact (cv_tup (Cvs.cons (cv_nils (by simp)) (Cvs.cons (cv_ref (es := List.map (aI .i64) z0_0_o1) rfl (by first | rfl | (simp; done) | (simp; rfl) | (simp []; done) | (simp []; rfl) | (simp [List.map_take, List.map_drop]; done) | (simp [List.map_take, List.map_drop]; rfl)) (by first | rfl | (simp; done) | (simp; omega) | (simp []; done) | (simp []; omega)) (flat_map (fun _ => flatSc) z0_0_o1)) (Cvs.cons .sc Cvs.nil))))
    ·
     clear h
     have h := h257
     refine brE h ?_ ?_
     ·clear h; intro h254 h
      refine bindE h ?_
      clear h; intro e255 h256 h
      try have qh256 := getI_lt h256
      exact absurd (h256) (by simp [getI])
     ·clear h; intro h254 h
      obtain rfl := Option.some.inj h
      refine runT tmD [.el (aI .i64 (List.length a0 : Int)), .go false, .go false, .go false, .go false, .go false, .go false, .go false, .go false, .go false, .go false] ?_
      exact wkT [] (SemK.glue J)
   ·
    obtain rfl := hn_z0_0_o1 rfl
    refine bindE h ?_
    clear h; intro j261_4 h265 h
    refine runT tmD [.stop 25] ?_
    refine SemK.join (s' := ⟨fr [(2, AV.nils), (3, AV.nils), (4, (aB j261_4))], hp ([]), 2⟩) ?_ (fun J => SemK.cut ?_)
    ·
     obtain rfl := Option.some.inj h
     refine runT tmD [] ?_
     refine fin_ret rfl ?_
     exact (cv_tup (Cvs.cons (cv_nils (by simp)) (Cvs.cons (cv_nils (by simp)) (Cvs.cons .sc Cvs.nil))))
    ·
     clear h
     have h := h265
     refine brE h ?_ ?_
     ·clear h; intro h262 h
      refine bindE h ?_
      clear h; intro e263 h264 h
      try have qh264 := getI_lt h264
      exact absurd (h264) (by simp [getI])
     ·clear h; intro h262 h
      obtain rfl := Option.some.inj h
      refine runT tmD [.el (aI .i64 (List.length a0 : Int)), .go false, .go false, .go false, .go false, .go false, .go false, .go false, .go false, .go false, .go false] ?_
      exact wkT [] (SemK.glue J)
 ·intro z0_1_o0 z0_1_o1 nb_z0_1_o0 nb_z0_1_o1 eo232; subst eo232
  refine SemK.glue ?_
  try dsimp only at h
  rcases nb_z0_1_o0 with ⟨_ | _, hn_z0_1_o0⟩
  ·
   rcases nb_z0_1_o1 with ⟨_ | _, hn_z0_1_o1⟩
   ·
    obtain rfl := Option.some.inj h
    refine runT tmD [] ?_
    refine fin_ret rfl ?_
    exact (cv_tup (Cvs.cons (cv_ref (es := List.map (aI .i64) z0_1_o0) rfl (by first | rfl | (simp; done) | (simp; rfl) | (simp []; done) | (simp []; rfl) | (simp [List.map_take, List.map_drop]; done) | (simp [List.map_take, List.map_drop]; rfl)) (by first | rfl | (simp; done) | (simp; omega) | (simp []; done) | (simp []; omega)) (flat_map (fun _ => flatSc) z0_1_o0)) (Cvs.cons (cv_ref (es := List.map (aI .i64) z0_1_o1) rfl (by first | rfl | (simp; done) | (simp; rfl) | (simp []; done) | (simp []; rfl) | (simp [List.map_take, List.map_drop]; done) | (simp [List.map_take, List.map_drop]; rfl)) (by first | rfl | (simp; done) | (simp; omega) | (simp []; done) | (simp []; omega)) (flat_map (fun _ => flatSc) z0_1_o1)) (Cvs.cons .sc Cvs.nil))))
   ·
    obtain rfl := hn_z0_1_o1 rfl
    obtain rfl := Option.some.inj h
    refine runT tmD [] ?_
    refine fin_ret rfl ?_
    exact (cv_tup (Cvs.cons (cv_ref (es := List.map (aI .i64) z0_1_o0) rfl (by first | rfl | (simp; done) | (simp; rfl) | (simp []; done) | (simp []; rfl) | (simp [List.map_take, List.map_drop]; done) | (simp [List.map_take, List.map_drop]; rfl)) (by first | rfl | (simp; done) | (simp; omega) | (simp []; done) | (simp []; omega)) (flat_map (fun _ => flatSc) z0_1_o0)) (Cvs.cons (cv_nils (by simp)) (Cvs.cons .sc Cvs.nil))))
  ·
   obtain rfl := hn_z0_1_o0 rfl
   rcases nb_z0_1_o1 with ⟨_ | _, hn_z0_1_o1⟩
   ·
    obtain rfl := Option.some.inj h
    refine runT tmD [] ?_
    refine fin_ret rfl ?_
    exact (cv_tup (Cvs.cons (cv_nils (by simp)) (Cvs.cons (cv_ref (es := List.map (aI .i64) z0_1_o1) rfl (by first | rfl | (simp; done) | (simp; rfl) | (simp []; done) | (simp []; rfl) | (simp [List.map_take, List.map_drop]; done) | (simp [List.map_take, List.map_drop]; rfl)) (by first | rfl | (simp; done) | (simp; omega) | (simp []; done) | (simp []; omega)) (flat_map (fun _ => flatSc) z0_1_o1)) (Cvs.cons .sc Cvs.nil))))
   ·
    obtain rfl := hn_z0_1_o1 rfl
    obtain rfl := Option.some.inj h
    refine runT tmD [] ?_
    refine fin_ret rfl ?_
    exact (cv_tup (Cvs.cons (cv_nils (by simp)) (Cvs.cons (cv_nils (by simp)) (Cvs.cons .sc Cvs.nil))))

theorem ref04_Check_ok (a0 : (List GNode)) (r : Int) (h : ref04_Check a0 = some r) : Pure Tryz.prog 92 [(AV.list false (List.map enc_GNode a0))] (aI .i64 r) := by
 refine Pure.sym tyTab_ok fn92 (nt := 24) rfl rfl ?_ (allCons .list allNil)
 unfold ref04_Check at h
 refine brE h ?_ ?_
 ·clear h; intro h1 h
  obtain rfl := Option.some.inj h
  refine runT tmD [.el (aI .i64 (List.length a0 : Int)), .br true] ?_
  refine fin_ret rfl ?_
  exact .sc
 ·clear h; intro h1 h
  refine bindE h ?_
  clear h; intro v2 h3 h
  refine run_to tmD 4000 [.el (aI .i64 (List.length a0 : Int)), .br false, .pure [(AV.list false (List.map enc_GNode a0))] (AV.tup [(AV.list true (List.map (aI .i64) v2.1)), (AV.list true (List.map (aI .i64) v2.2.1)), (aB v2.2.2)])] rfl (by repeat' first | refine And.intro ?_ ?_ | exact (PureCall.none (ref04_Sizes_ok _ _ h3) (Cvs.cons (cv_list (flat_map flat_GNode a0)) Cvs.nil)) | exact oblA) ?_
  refine brE h ?_ ?_
  ·clear h; intro h4 h
   obtain rfl := Option.some.inj h
   refine runT tmD [.br true] ?_
   refine fin_ret rfl ?_
   exact .sc
  ·clear h; intro h4 h
   refine bindE h ?_
   clear h; intro e5 h6 h
   try have qh6 := getI_lt h6
   refine brE h ?_ ?_
   ·clear h; intro h7 h
    obtain rfl := Option.some.inj h
    refine runT tmD [.br false, .el (aI .i64 (List.length a0 : Int)), .wrap, .el (aI .i64 e5), .br true] ?_
    refine fin_ret rfl ?_
    exact .sc
   ·clear h; intro h7 h
    obtain rfl := Option.some.inj h
    refine runT tmD [.br false, .el (aI .i64 (List.length a0 : Int)), .wrap, .el (aI .i64 e5), .br false] ?_
    refine fin_ret rfl ?_
    exact .sc
end Go.Av.Tryz
