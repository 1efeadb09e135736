/- Printed by decomp.py: that the program computes the functions. -/
import Derived.Test.YtfdfgobnpnoomaaGreatDCert18Z
set_option linter.all false

namespace Go.Av.Tryz
open Go.Proofs Go.D
set_option maxRecDepth 10000
set_option maxHeartbeats 40000000
theorem Xgh {Q : X0d -> St -> Mu -> Prop} {μ : Mu} (X14 : (List X00)) (hl : X14.length <= 140737488355328) : ∀ (xs : List X00) (k : Nat) (hx : X14.drop k = xs) (Xm : (List Int)) (Xk : (List Int)) (X1l : Nb Xm) (X02 : Nb Xk) (o : X57) (h : X1x X14 xs k Xm Xk = some o)
  (C0 : ∀ (Xq : (List Int)) (X0m : (List Int)) (X0i : Nb Xq) (X0z : Nb X0m), o = X57.x0 Xq X0m -> Xa Tryz.prog 102 0 Q (.exit (.exit 0)) [] ⟨fr [(0, (Lf (X14.map X1))), (5, (slE X0i.1 0 (List.map (aI .i64) Xq))), (6, (slE X0z.1 1 (List.map (aI .i64) X0m)))], hp ([] ++ opE X0i.1 0 1 (List.map (aI .i64) Xq) ++ opE X0z.1 1 1 (List.map (aI .i64) X0m)), 2⟩ μ)
  (C1 : ∀ (X06 : (List Int)) (X3f : (List Int)) (X0h : Nb X06) (X4u : Nb X3f), o = X57.x1 X06 X3f -> Xa Tryz.prog 102 0 Q (.exit .ret) [] ⟨fr [(2, (slE X0h.1 0 (List.map (aI .i64) X06))), (3, (slE X4u.1 1 (List.map (aI .i64) X3f))), (4, (aB false))], hp ([] ++ opE X0h.1 0 1 (List.map (aI .i64) X06) ++ opE X4u.1 1 1 (List.map (aI .i64) X3f)), 2⟩ μ),
  Xa Tryz.prog 102 0 Q (.loop (X5o 0 (Xt Tryz.f128))) [] ⟨fr [(0, (Lf (X14.map X1))), (5, (slE X1l.1 0 (List.map (aI .i64) Xm))), (6, (slE X02.1 1 (List.map (aI .i64) Xk))), (7, (aI .i64 (k : Int)))], hp ([] ++ opE X1l.1 0 1 (List.map (aI .i64) Xm) ++ opE X02.1 1 1 (List.map (aI .i64) Xk)), 2⟩ μ := by
 intro xs
 induction xs with
 | nil =>
  intro k hx Xm Xk X1l X02 o h C0 C1
  have hk := X1u hx
  have hc : decide ((k : Int) < (X14.length : Int)) = false := Yf (by omega)
  rw [X1x] at h
  rcases X1l with ⟨_ | _, X49⟩
  ·
   rcases X02 with ⟨_ | _, X0n⟩
   ·
    refine Xa.round ?_
    obtain rfl := oj h
    refine Xe tmD [.el (aI .i64 (X14.length : Int)), Bf] ?_
    exact wkT [] (C0 _ _  nbF nbF rfl)
   obtain rfl := X0n rfl
   refine Xa.round ?_
   obtain rfl := oj h
   refine Xe tmD [.el (aI .i64 (X14.length : Int)), Bf] ?_
   exact wkT [] (C0 _ _  nbF (nbT (by first | rfl | simp [*])) rfl)
  ·
   obtain rfl := X49 rfl
   rcases X02 with ⟨_ | _, X0n⟩
   ·
    refine Xa.round ?_
    obtain rfl := oj h
    refine Xe tmD [.el (aI .i64 (X14.length : Int)), Bf] ?_
    exact wkT [] (C0 _ _  (nbT (by first | rfl | simp [*])) nbF rfl)
   ·
    obtain rfl := X0n rfl
    refine Xa.round ?_
    obtain rfl := oj h
    refine Xe tmD [.el (aI .i64 (X14.length : Int)), Bf] ?_
    exact wkT [] (C0 _ _  (nbT (by first | rfl | simp [*])) (nbT (by first | rfl | simp [*])) rfl)
 | cons x xs ih =>
  intro k hx Xm Xk X1l X02 o h C0 C1
  obtain ⟨hk, hg, hx1⟩ := X16 hx
  have hc : decide ((k : Int) < (X14.length : Int)) = true := Yt (by omega)
  rw [X1x] at h
  rcases X1l with ⟨_ | _, X49⟩
  ·
   rcases X02 with ⟨_ | _, X0n⟩
   ·
    refine Xa.round ?_
    refine X9 h ?_
    clear h; intro v156 h157 h
    refine brE h ?_ ?_
    ·clear h; intro h158 h
     refine brE h ?_ ?_
     ·clear h; intro h159 h
      obtain rfl := oj h
      refine rn tmD [.el (aI .i64 (X14.length : Int)), Bt, .el (X1 x), .pure [(aI .u8 x.Kind)] (aI .i64 v156), Bt, .wrap, Bt] rfl (by repeat' first|apply Ya|exact (pn (X38 _ _ h157) (cc .sc cn))|exact Xv) ?_
      exact wkT [] (C1 _ _  (nbT (by first | rfl | simp [*])) (nbT (by first | rfl | simp [*])) rfl)
     clear h; intro h159 h
     refine X9 h ?_
     clear h; intro e160 h161 h
     try have qh161 := Xz h161
     refine X9 h ?_
     clear h; intro e162 h163 h
     try have qh163 := Xz h163
     refine rn tmD [.el (aI .i64 (X14.length : Int)), Bt, .el (X1 x), .pure [(aI .u8 x.Kind)] (aI .i64 v156), Bt, .wrap, Bf, .el (aI .i64 e160), .ld (aI .i64 e160), .wrap, .el (aI .i64 e160), .ld (aI .i64 e160), .wrap, .el (aI .i64 e162), .ld (aI .i64 e162), .wrap] rfl (by repeat' first|apply Ya|exact (pn (X38 _ _ h157) (cc .sc cn))|exact Xv) ?_
     refine brE h ?_ ?_
     ·clear h; intro h164 h
      refine brE h ?_ ?_
      ·clear h; intro h165 h
       obtain rfl := oj h
       refine Xe tmD [Bt, Bt] ?_
       exact wkT [] (C1 _ _  (nbT (by first | rfl | simp [*])) (nbT (by first | rfl | simp [*])) rfl)
      clear h; intro h165 h
      refine X9 h ?_
      clear h; intro e166 h167 h
      try have qh167 := Xz h167
      refine X9 h ?_
      clear h; intro e168 h169 h
      try have qh169 := Xz h169
      refine X9 h ?_
      clear h; intro v170 h171 h
      refine rn tmD [Bt, Bf, .el (aI .i64 e166), .ld (aI .i64 e166), .wrap, .el (aI .i64 e168), .ld (aI .i64 e168), .wrap, .el (X1 x), .pure [(X1 x), (aI .i64 (IntKind.i64.wrap ((IntKind.i64.wrap ((k : Int) - 1)) - e160))), (aI .i64 (IntKind.i64.wrap ((k : Int) - 1)))] (aB v170)] rfl (by repeat' first|apply Ya|exact (pn (X4l _ _ _ _ h171) (cc (Xae (x := x)) (cc .sc (cc .sc cn))))|exact Xv) ?_
      refine brE h ?_ ?_
      ·clear h; intro h172 h
       obtain rfl := oj h
       refine Xe tmD [Bt] ?_
       exact wkT [] (C1 _ _  (nbT (by first | rfl | simp [*])) (nbT (by first | rfl | simp [*])) rfl)
      clear h; intro h172 h
      refine X9 h ?_
      clear h; intro u173 h174 h
      refine X9 h ?_
      clear h; intro u175 h176 h
      refine rn tmD [Bf, .no, .no] rfl (by repeat' first | refine Ya ?_ ?_ | (refine X0w h174 rfl ?_; first | (simp; done) | (simp; omega) | (simp [hc, h158, h159, h164, h165, h172]; done) | (simp [hc, h158, h159, h164, h165, h172]; omega)) | (refine X0a h174 (by decide) ?_; first | (simp; done) | (simp; omega) | (simp [hc, h158, h159, h164, h165, h172]; done) | (simp [hc, h158, h159, h164, h165, h172]; omega)) | (refine X0w h176 rfl ?_; first | (simp; done) | (simp; omega) | (simp [hc, h158, h159, h164, h165, h172]; done) | (simp [hc, h158, h159, h164, h165, h172]; omega)) | (refine X0a h176 (by decide) ?_; first | (simp; done) | (simp; omega) | (simp [hc, h158, h159, h164, h165, h172]; done) | (simp [hc, h158, h159, h164, h165, h172]; omega))|exact Xv) ?_
      exact wkT [(0, 3), (1, 5)] (ih (k + 1) hx1 _ _ nbF nbF o h C0 C1)
     clear h; intro h164 h
     refine X9 h ?_
     clear h; intro v177 h178 h
     refine brE h ?_ ?_
     ·clear h; intro h179 h
      obtain rfl := oj h
      refine rn tmD [Bf, .el (X1 x), .pure [(X1 x), (aI .i64 (IntKind.i64.wrap ((k : Int) - 1))), (aI .i64 0)] (aB v177), Bt] rfl (by repeat' first|apply Ya|exact (pn (X4l _ _ _ _ h178) (cc (Xae (x := x)) (cc .sc (cc .sc cn))))|exact Xv) ?_
      exact wkT [] (C1 _ _  (nbT (by first | rfl | simp [*])) (nbT (by first | rfl | simp [*])) rfl)
     clear h; intro h179 h
     refine X9 h ?_
     clear h; intro u180 h181 h
     refine X9 h ?_
     clear h; intro u182 h183 h
     refine rn tmD [Bf, .el (X1 x), .pure [(X1 x), (aI .i64 (IntKind.i64.wrap ((k : Int) - 1))), (aI .i64 0)] (aB v177), Bf, .no, .no] rfl (by repeat' first|apply Ya|exact (pn (X4l _ _ _ _ h178) (cc (Xae (x := x)) (cc .sc (cc .sc cn)))) | (refine X0w h181 rfl ?_; first | (simp; done) | (simp; omega) | (simp [hc, h158, h159, h164, h179]; done) | (simp [hc, h158, h159, h164, h179]; omega)) | (refine X0a h181 (by decide) ?_; first | (simp; done) | (simp; omega) | (simp [hc, h158, h159, h164, h179]; done) | (simp [hc, h158, h159, h164, h179]; omega)) | (refine X0w h183 rfl ?_; first | (simp; done) | (simp; omega) | (simp [hc, h158, h159, h164, h179]; done) | (simp [hc, h158, h159, h164, h179]; omega)) | (refine X0a h183 (by decide) ?_; first | (simp; done) | (simp; omega) | (simp [hc, h158, h159, h164, h179]; done) | (simp [hc, h158, h159, h164, h179]; omega))|exact Xv) ?_
     exact wkT [(0, 3), (1, 5)] (ih (k + 1) hx1 _ _ nbF nbF o h C0 C1)
    clear h; intro h158 h
    refine X9 h ?_
    clear h; intro v184 h185 h
    refine rn tmD [.el (aI .i64 (X14.length : Int)), Bt, .el (X1 x), .pure [(aI .u8 x.Kind)] (aI .i64 v156), Bf, .el (X1 x), .pure [(X1 x), (aI .i64 0), (aI .i64 0)] (aB v184)] rfl (by repeat' first|apply Ya|exact (pn (X38 _ _ h157) (cc .sc cn))|exact (pn (X4l _ _ _ _ h185) (cc (Xae (x := x)) (cc .sc (cc .sc cn))))|exact Xv) ?_
    refine brE h ?_ ?_
    ·clear h; intro h186 h
     obtain rfl := oj h
     refine Xe tmD [Bt] ?_
     exact wkT [] (C1 _ _  (nbT (by first | rfl | simp [*])) (nbT (by first | rfl | simp [*])) rfl)
    clear h; intro h186 h
    refine X9 h ?_
    clear h; intro u187 h188 h
    refine X9 h ?_
    clear h; intro u189 h190 h
    refine rn tmD [Bf, .no, .no] rfl (by repeat' first | refine Ya ?_ ?_ | (refine X0w h188 rfl ?_; first | (simp; done) | (simp; omega) | (simp [hc, h158, h186]; done) | (simp [hc, h158, h186]; omega)) | (refine X0a h188 (by decide) ?_; first | (simp; done) | (simp; omega) | (simp [hc, h158, h186]; done) | (simp [hc, h158, h186]; omega)) | (refine X0w h190 rfl ?_; first | (simp; done) | (simp; omega) | (simp [hc, h158, h186]; done) | (simp [hc, h158, h186]; omega)) | (refine X0a h190 (by decide) ?_; first | (simp; done) | (simp; omega) | (simp [hc, h158, h186]; done) | (simp [hc, h158, h186]; omega))|exact Xv) ?_
    exact wkT [(0, 3), (1, 5)] (ih (k + 1) hx1 _ _ nbF nbF o h C0 C1)
   obtain rfl := X0n rfl
   refine Xa.round ?_
   refine X9 h ?_
   clear h; intro v191 h192 h
   refine brE h ?_ ?_
   ·clear h; intro h193 h
    refine brE h ?_ ?_
    ·clear h; intro h194 h
     obtain rfl := oj h
     refine rn tmD [.el (aI .i64 (X14.length : Int)), Bt, .el (X1 x), .pure [(aI .u8 x.Kind)] (aI .i64 v191), Bt, .wrap, Bt] rfl (by repeat' first|apply Ya|exact (pn (X38 _ _ h192) (cc .sc cn))|exact Xv) ?_
     exact wkT [] (C1 _ _  (nbT (by first | rfl | simp [*])) (nbT (by first | rfl | simp [*])) rfl)
    clear h; intro h194 h
    refine X9 h ?_
    clear h; intro e195 h196 h
    try have qh196 := Xz h196
    refine X9 h ?_
    clear h; intro e197 h198 h
    try have qh198 := Xz h198
    exact absurd (h198) (by simp [X2o])
   clear h; intro h193 h
   refine X9 h ?_
   clear h; intro v199 h200 h
   refine rn tmD [.el (aI .i64 (X14.length : Int)), Bt, .el (X1 x), .pure [(aI .u8 x.Kind)] (aI .i64 v191), Bf, .el (X1 x), .pure [(X1 x), (aI .i64 0), (aI .i64 0)] (aB v199)] rfl (by repeat' first|apply Ya|exact (pn (X38 _ _ h192) (cc .sc cn))|exact (pn (X4l _ _ _ _ h200) (cc (Xae (x := x)) (cc .sc (cc .sc cn))))|exact Xv) ?_
   refine brE h ?_ ?_
   ·clear h; intro h201 h
    obtain rfl := oj h
    refine Xe tmD [Bt] ?_
    exact wkT [] (C1 _ _  (nbT (by first | rfl | simp [*])) (nbT (by first | rfl | simp [*])) rfl)
   clear h; intro h201 h
   refine X9 h ?_
   clear h; intro u202 h203 h
   refine X9 h ?_
   clear h; intro u204 h205 h
   refine rn tmD [Bf, .no, .no] rfl (by repeat' first | refine Ya ?_ ?_ | (refine X0w h203 rfl ?_; first | (simp; done) | (simp; omega) | (simp [hc, h193, h201]; done) | (simp [hc, h193, h201]; omega)) | (refine X0a h203 (by decide) ?_; first | (simp; done) | (simp; omega) | (simp [hc, h193, h201]; done) | (simp [hc, h193, h201]; omega)) | (refine X0w h205 rfl ?_; first | (simp; done) | (simp; omega) | (simp [hc, h193, h201]; done) | (simp [hc, h193, h201]; omega)) | (refine X0a h205 (by decide) ?_; first | (simp; done) | (simp; omega) | (simp [hc, h193, h201]; done) | (simp [hc, h193, h201]; omega))|exact Xv) ?_
   exact wkT [(0, 3), (1, 5)] (ih (k + 1) hx1 _ _ nbF nbF o h C0 C1)
  obtain rfl := X49 rfl
  rcases X02 with ⟨_ | _, X0n⟩
  ·
   refine Xa.round ?_
   refine X9 h ?_
   clear h; intro v206 h207 h
   refine brE h ?_ ?_
   ·clear h; intro h208 h
    refine brE h ?_ ?_
    ·clear h; intro h209 h
     obtain rfl := oj h
     refine rn tmD [.el (aI .i64 (X14.length : Int)), Bt, .el (X1 x), .pure [(aI .u8 x.Kind)] (aI .i64 v206), Bt, .wrap, Bt] rfl (by repeat' first|apply Ya|exact (pn (X38 _ _ h207) (cc .sc cn))|exact Xv) ?_
     exact wkT [] (C1 _ _  (nbT (by first | rfl | simp [*])) (nbT (by first | rfl | simp [*])) rfl)
    clear h; intro h209 h
    refine X9 h ?_
    clear h; intro e210 h211 h
    try have qh211 := Xz h211
    exact absurd (h211) (by simp [X2o])
   clear h; intro h208 h
   refine X9 h ?_
   clear h; intro v212 h213 h
   refine rn tmD [.el (aI .i64 (X14.length : Int)), Bt, .el (X1 x), .pure [(aI .u8 x.Kind)] (aI .i64 v206), Bf, .el (X1 x), .pure [(X1 x), (aI .i64 0), (aI .i64 0)] (aB v212)] rfl (by repeat' first|apply Ya|exact (pn (X38 _ _ h207) (cc .sc cn))|exact (pn (X4l _ _ _ _ h213) (cc (Xae (x := x)) (cc .sc (cc .sc cn))))|exact Xv) ?_
   refine brE h ?_ ?_
   ·clear h; intro h214 h
    obtain rfl := oj h
    refine Xe tmD [Bt] ?_
    exact wkT [] (C1 _ _  (nbT (by first | rfl | simp [*])) (nbT (by first | rfl | simp [*])) rfl)
   clear h; intro h214 h
   refine X9 h ?_
   clear h; intro u215 h216 h
   refine X9 h ?_
   clear h; intro u217 h218 h
   refine rn tmD [Bf, .no, .no] rfl (by repeat' first | refine Ya ?_ ?_ | (refine X0w h216 rfl ?_; first | (simp; done) | (simp; omega) | (simp [hc, h208, h214]; done) | (simp [hc, h208, h214]; omega)) | (refine X0a h216 (by decide) ?_; first | (simp; done) | (simp; omega) | (simp [hc, h208, h214]; done) | (simp [hc, h208, h214]; omega)) | (refine X0w h218 rfl ?_; first | (simp; done) | (simp; omega) | (simp [hc, h208, h214]; done) | (simp [hc, h208, h214]; omega)) | (refine X0a h218 (by decide) ?_; first | (simp; done) | (simp; omega) | (simp [hc, h208, h214]; done) | (simp [hc, h208, h214]; omega))|exact Xv) ?_
   exact wkT [(0, 3), (1, 5)] (ih (k + 1) hx1 _ _ nbF nbF o h C0 C1)
  obtain rfl := X0n rfl
  refine Xa.round ?_
  refine X9 h ?_
  clear h; intro v219 h220 h
  refine brE h ?_ ?_
  ·clear h; intro h221 h
   refine brE h ?_ ?_
   ·clear h; intro h222 h
    obtain rfl := oj h
    refine rn tmD [.el (aI .i64 (X14.length : Int)), Bt, .el (X1 x), .pure [(aI .u8 x.Kind)] (aI .i64 v219), Bt, .wrap, Bt] rfl (by repeat' first|apply Ya|exact (pn (X38 _ _ h220) (cc .sc cn))|exact Xv) ?_
    exact wkT [] (C1 _ _  (nbT (by first | rfl | simp [*])) (nbT (by first | rfl | simp [*])) rfl)
   clear h; intro h222 h
   refine X9 h ?_
   clear h; intro e223 h224 h
   try have qh224 := Xz h224
   exact absurd (h224) (by simp [X2o])
  clear h; intro h221 h
  refine X9 h ?_
  clear h; intro v225 h226 h
  refine rn tmD [.el (aI .i64 (X14.length : Int)), Bt, .el (X1 x), .pure [(aI .u8 x.Kind)] (aI .i64 v219), Bf, .el (X1 x), .pure [(X1 x), (aI .i64 0), (aI .i64 0)] (aB v225)] rfl (by repeat' first|apply Ya|exact (pn (X38 _ _ h220) (cc .sc cn))|exact (pn (X4l _ _ _ _ h226) (cc (Xae (x := x)) (cc .sc (cc .sc cn))))|exact Xv) ?_
  refine brE h ?_ ?_
  ·clear h; intro h227 h
   obtain rfl := oj h
   refine Xe tmD [Bt] ?_
   exact wkT [] (C1 _ _  (nbT (by first | rfl | simp [*])) (nbT (by first | rfl | simp [*])) rfl)
  clear h; intro h227 h
  refine X9 h ?_
  clear h; intro u228 h229 h
  refine X9 h ?_
  clear h; intro u230 h231 h
  refine rn tmD [Bf, .no, .no] rfl (by repeat' first | refine Ya ?_ ?_ | (refine X0w h229 rfl ?_; first | (simp; done) | (simp; omega) | (simp [hc, h221, h227]; done) | (simp [hc, h221, h227]; omega)) | (refine X0a h229 (by decide) ?_; first | (simp; done) | (simp; omega) | (simp [hc, h221, h227]; done) | (simp [hc, h221, h227]; omega)) | (refine X0w h231 rfl ?_; first | (simp; done) | (simp; omega) | (simp [hc, h221, h227]; done) | (simp [hc, h221, h227]; omega)) | (refine X0a h231 (by decide) ?_; first | (simp; done) | (simp; omega) | (simp [hc, h221, h227]; done) | (simp [hc, h221, h227]; omega))|exact Xv) ?_
  exact wkT [(0, 3), (1, 5)] (ih (k + 1) hx1 _ _ nbF nbF o h C0 C1)
theorem Xkq (a0 : (List X00)) (r : (List Int) × (List Int) × Bool) (h : Xc8 a0 = some r) : X19 Tryz.prog 128 [(Lf (a0.map X1))] (AV.tup [(AV.list true (List.map (aI .i64) r.1)), (AV.list true (List.map (aI .i64) r.2.1)), (aB r.2.2)]) := by
 refine X19.sym Xg X04q (nt := 102) rfl rfl ?_ (Xf .list X08)
 unfold Xc8 at h
 refine X9 h ?_
 clear h; intro u1 h2 h
 have qh2 := X11 h2
 refine X9 h ?_
 clear h; intro o232 h233 h
 refine Xe tmD [] ?_
 refine wkT [] (Xa.cut (Xgh a0 qh2 a0 0 (by simp) _ _ (nbT (by first | rfl | simp [*])) (nbT (by first | rfl | simp [*])) _ h233 ?_ ?_))
 ·intro Xq X0m X0i X0z eo232; subst eo232
  refine Xa.glue ?_
  try dsimp only at h
  rcases X0i with ⟨_ | _, X35⟩
  ·
   rcases X0z with ⟨_ | _, X34⟩
   ·
    refine X9 h ?_
    clear h; intro Xvp h241 h
    refine Xe tmD [.stop 25] ?_
    refine Xa.join (s' := ⟨fr [(2, (AV.ref 0 0 (Xq.length))), (3, (AV.ref 1 0 (X0m.length))), (4, (aB Xvp))], hp ([(0, Ob (List.map (aI .i64) Xq) 1), (1, Ob (List.map (aI .i64) X0m) 1)]), 2⟩) ?_ (fun J => Xa.cut ?_)
    ·
     obtain rfl := oj h
     refine Xe tmD [] ?_
     exact X6 rfl (Xl (cc (X0o (es := List.map (aI .i64) Xq) rfl (by first | rfl | (simp; done) | (simp; rfl) | (simp []; done) | (simp []; rfl) | (simp [Ym, Yd]; done) | (simp [Ym, Yd]; rfl)) (by first | rfl | (simp; done) | (simp; omega) | (simp []; done) | (simp []; omega)) (X0 (fun _ => X0e) Xq)) (cc (X0o (es := List.map (aI .i64) X0m) rfl (by first | rfl | (simp; done) | (simp; rfl) | (simp []; done) | (simp []; rfl) | (simp [Ym, Yd]; done) | (simp [Ym, Yd]; rfl)) (by first | rfl | (simp; done) | (simp; omega) | (simp []; done) | (simp []; omega)) (X0 (fun _ => X0e) X0m)) (cc .sc cn))))
    clear h
    have h := h241
    refine brE h ?_ ?_
    ·clear h; intro h238 h
     refine X9 h ?_
     clear h; intro e239 h240 h
     try have qh240 := Xz h240
     obtain rfl := oj h
     refine Xe tmD [.el (aI .i64 (a0.length : Int)), .go true, .go true, .go true, .el (aI .i64 (a0.length : Int)), .go true, .wrap, .go true, .el (aI .i64 e239), .go true, .ld (aI .i64 e239), .go true, .go true, .el (aI .i64 (a0.length : Int)), .go true] ?_
     exact wkT [] (Xa.glue J)
    clear h; intro h238 h
    obtain rfl := oj h
    refine Xe tmD [.el (aI .i64 (a0.length : Int)), .go false, .go false, .go false, .go false, .go false, .go false, .go false, .go false, .go false, .go false] ?_
    exact wkT [] (Xa.glue J)
   obtain rfl := X34 rfl
   refine X9 h ?_
   clear h; intro X02r h249 h
   refine Xe tmD [.stop 25] ?_
   refine Xa.join (s' := ⟨fr [(2, (AV.ref 0 0 (Xq.length))), (3, AV.nils), (4, (aB X02r))], hp ([(0, Ob (List.map (aI .i64) Xq) 1)]), 2⟩) ?_ (fun J => Xa.cut ?_)
   ·
    obtain rfl := oj h
    refine Xe tmD [] ?_
    exact X6 rfl (Xl (cc (X0o (es := List.map (aI .i64) Xq) rfl (by first | rfl | (simp; done) | (simp; rfl) | (simp []; done) | (simp []; rfl) | (simp [Ym, Yd]; done) | (simp [Ym, Yd]; rfl)) (by first | rfl | (simp; done) | (simp; omega) | (simp []; done) | (simp []; omega)) (X0 (fun _ => X0e) Xq)) (cc (X2l (by simp)) (cc .sc cn))))
   clear h
   have h := h249
   refine brE h ?_ ?_
   ·clear h; intro h246 h
    refine X9 h ?_
    clear h; intro e247 h248 h
    try have qh248 := Xz h248
    obtain rfl := oj h
    refine Xe tmD [.el (aI .i64 (a0.length : Int)), .go true, .go true, .go true, .el (aI .i64 (a0.length : Int)), .go true, .wrap, .go true, .el (aI .i64 e247), .go true, .ld (aI .i64 e247), .go true, .go true, .el (aI .i64 (a0.length : Int)), .go true] ?_
    exact wkT [] (Xa.glue J)
   clear h; intro h246 h
   obtain rfl := oj h
   refine Xe tmD [.el (aI .i64 (a0.length : Int)), .go false, .go false, .go false, .go false, .go false, .go false, .go false, .go false, .go false, .go false] ?_
   exact wkT [] (Xa.glue J)
  obtain rfl := X35 rfl
  rcases X0z with ⟨_ | _, X34⟩
  ·
   refine X9 h ?_
   clear h; intro X02q h257 h
   refine Xe tmD [.stop 25] ?_
   refine Xa.join (s' := ⟨fr [(2, AV.nils), (3, (AV.ref 1 0 (X0m.length))), (4, (aB X02q))], hp ([(1, Ob (List.map (aI .i64) X0m) 1)]), 2⟩) ?_ (fun J => Xa.cut ?_)
   ·
    obtain rfl := oj h
    refine Xe tmD [] ?_
    exact X6 rfl (Xl (cc (X2l (by simp)) (cc (X0o (es := List.map (aI .i64) X0m) rfl (by first | rfl | (simp; done) | (simp; rfl) | (simp []; done) | (simp []; rfl) | (simp [Ym, Yd]; done) | (simp [Ym, Yd]; rfl)) (by first | rfl | (simp; done) | (simp; omega) | (simp []; done) | (simp []; omega)) (X0 (fun _ => X0e) X0m)) (cc .sc cn))))
   clear h
   have h := h257
   refine brE h ?_ ?_
   ·clear h; intro h254 h
    refine X9 h ?_
    clear h; intro e255 h256 h
    try have qh256 := Xz h256
    exact absurd (h256) (by simp [X2o])
   clear h; intro h254 h
   obtain rfl := oj h
   refine Xe tmD [.el (aI .i64 (a0.length : Int)), .go false, .go false, .go false, .go false, .go false, .go false, .go false, .go false, .go false, .go false] ?_
   exact wkT [] (Xa.glue J)
  obtain rfl := X34 rfl
  refine X9 h ?_
  clear h; intro X02p h265 h
  refine Xe tmD [.stop 25] ?_
  refine Xa.join (s' := ⟨fr [(2, AV.nils), (3, AV.nils), (4, (aB X02p))], hp ([]), 2⟩) ?_ (fun J => Xa.cut ?_)
  ·
   obtain rfl := oj h
   refine Xe tmD [] ?_
   exact X6 rfl (Xl (cc (X2l (by simp)) (cc (X2l (by simp)) (cc .sc cn))))
  clear h
  have h := h265
  refine brE h ?_ ?_
  ·clear h; intro h262 h
   refine X9 h ?_
   clear h; intro e263 h264 h
   try have qh264 := Xz h264
   exact absurd (h264) (by simp [X2o])
  clear h; intro h262 h
  obtain rfl := oj h
  refine Xe tmD [.el (aI .i64 (a0.length : Int)), .go false, .go false, .go false, .go false, .go false, .go false, .go false, .go false, .go false, .go false] ?_
  exact wkT [] (Xa.glue J)
 intro X06 X3f X0h X4u eo232; subst eo232
 refine Xa.glue ?_
 try dsimp only at h
 rcases X0h with ⟨_ | _, X33⟩
 ·
  rcases X4u with ⟨_ | _, X8j⟩
  ·
   obtain rfl := oj h
   refine Xe tmD [] ?_
   exact X6 rfl (Xl (cc (X0o (es := List.map (aI .i64) X06) rfl (by first | rfl | (simp; done) | (simp; rfl) | (simp []; done) | (simp []; rfl) | (simp [Ym, Yd]; done) | (simp [Ym, Yd]; rfl)) (by first | rfl | (simp; done) | (simp; omega) | (simp []; done) | (simp []; omega)) (X0 (fun _ => X0e) X06)) (cc (X0o (es := List.map (aI .i64) X3f) rfl (by first | rfl | (simp; done) | (simp; rfl) | (simp []; done) | (simp []; rfl) | (simp [Ym, Yd]; done) | (simp [Ym, Yd]; rfl)) (by first | rfl | (simp; done) | (simp; omega) | (simp []; done) | (simp []; omega)) (X0 (fun _ => X0e) X3f)) (cc .sc cn))))
  obtain rfl := X8j rfl
  obtain rfl := oj h
  refine Xe tmD [] ?_
  exact X6 rfl (Xl (cc (X0o (es := List.map (aI .i64) X06) rfl (by first | rfl | (simp; done) | (simp; rfl) | (simp []; done) | (simp []; rfl) | (simp [Ym, Yd]; done) | (simp [Ym, Yd]; rfl)) (by first | rfl | (simp; done) | (simp; omega) | (simp []; done) | (simp []; omega)) (X0 (fun _ => X0e) X06)) (cc (X2l (by simp)) (cc .sc cn))))
 obtain rfl := X33 rfl
 rcases X4u with ⟨_ | _, X8j⟩
 ·
  obtain rfl := oj h
  refine Xe tmD [] ?_
  exact X6 rfl (Xl (cc (X2l (by simp)) (cc (X0o (es := List.map (aI .i64) X3f) rfl (by first | rfl | (simp; done) | (simp; rfl) | (simp []; done) | (simp []; rfl) | (simp [Ym, Yd]; done) | (simp [Ym, Yd]; rfl)) (by first | rfl | (simp; done) | (simp; omega) | (simp []; done) | (simp []; omega)) (X0 (fun _ => X0e) X3f)) (cc .sc cn))))
 obtain rfl := X8j rfl
 obtain rfl := oj h
 refine Xe tmD [] ?_
 exact X6 rfl (Xl (cc (X2l (by simp)) (cc (X2l (by simp)) (cc .sc cn))))
theorem X5a (a0 : (List X00)) (r : Int) (h : X50 a0 = some r) : X19 Tryz.prog 92 [(Lf (a0.map X1))] (aI .i64 r) := by
 refine X19.sym Xg fn92 (nt := 24) rfl rfl ?_ (Xf .list X08)
 unfold X50 at h
 refine brE h ?_ ?_
 ·clear h; intro h1 h
  obtain rfl := oj h
  refine Xe tmD [.el (aI .i64 (a0.length : Int)), Bt] ?_
  exact X6 rfl .sc
 clear h; intro h1 h
 refine X9 h ?_
 clear h; intro v2 h3 h
 refine rn tmD [.el (aI .i64 (a0.length : Int)), Bf, .pure [(Lf (a0.map X1))] (AV.tup [(AV.list true (List.map (aI .i64) v2.1)), (AV.list true (List.map (aI .i64) v2.2.1)), (aB v2.2.2)])] rfl (by repeat' first|apply Ya|exact (pn (Xkq _ _ h3) (cc (X8 (X0 X7 a0)) cn))|exact Xv) ?_
 refine brE h ?_ ?_
 ·clear h; intro h4 h
  obtain rfl := oj h
  refine Xe tmD [Bt] ?_
  exact X6 rfl .sc
 clear h; intro h4 h
 refine X9 h ?_
 clear h; intro e5 h6 h
 try have qh6 := Xz h6
 refine brE h ?_ ?_
 ·clear h; intro h7 h
  obtain rfl := oj h
  refine Xe tmD [Bf, .el (aI .i64 (a0.length : Int)), .wrap, .el (aI .i64 e5), Bt] ?_
  exact X6 rfl .sc
 clear h; intro h7 h
 obtain rfl := oj h
 refine Xe tmD [Bf, .el (aI .i64 (a0.length : Int)), .wrap, .el (aI .i64 e5), Bf] ?_
 exact X6 rfl .sc
end Go.Av.Tryz