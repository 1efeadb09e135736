/- Printed by decomp.py: that the program computes the functions. -/
import Derived.Test.YtfdfgobnpnoomaaGreatDCert6Z
set_option linter.all false

namespace Go.Av.Tryz
open Go.Proofs Go.D
set_option maxRecDepth 10000
set_option maxHeartbeats 40000000
theorem Xe9 (a0 : Int) (a1 : Int) (a2 : Int) (r : Int × Int) (h : Xgq a0 a1 a2 = some r) : X19 Tryz.prog 97 [(aI .u8 a0), (aI .i64 a1), (aI .i64 a2)] (AV.tup [(aI .i64 r.1), (aI .i64 r.2)]) := by
 refine X19.sym Xg fn97 (nt := 97) rfl rfl ?_ (Xf .sc (Xf .sc (Xf .sc X08)))
 unfold Xgq at h
 refine brE h ?_ ?_
 ·clear h; intro h1 h
  obtain rfl := oj h
  refine Xe tmD [Bt, .wrap] ?_
  exact X6 rfl (Xl (cc .sc (cc .sc cn)))
 clear h; intro h1 h
 refine brE h ?_ ?_
 ·clear h; intro h2 h
  refine X9 h ?_
  clear h; intro v3 h4 h
  obtain rfl := oj h
  refine rn tmD [Bf, Bt, .pure [(aB (a1 == (0 : Int)))] (aI .i64 v3)] rfl (by repeat' first|apply Ya|exact (pn (X3m _ _ h4) (cc .sc cn))|exact Xv) ?_
  exact X6 rfl (Xl (cc .sc (cc .sc cn)))
 clear h; intro h2 h
 refine brE h ?_ ?_
 ·clear h; intro h5 h
  obtain rfl := oj h
  refine Xe tmD [Bf, Bf, Bt, .wrap] ?_
  exact X6 rfl (Xl (cc .sc (cc .sc cn)))
 clear h; intro h5 h
 refine brE h ?_ ?_
 ·clear h; intro h6 h
  obtain rfl := oj h
  refine Xe tmD [Bf, Bf, Bf, Bt, .wrap] ?_
  exact X6 rfl (Xl (cc .sc (cc .sc cn)))
 clear h; intro h6 h
 refine brE h ?_ ?_
 ·clear h; intro h7 h
  obtain rfl := oj h
  refine Xe tmD [Bf, Bf, Bf, Bf, Bt, .wrap] ?_
  exact X6 rfl (Xl (cc .sc (cc .sc cn)))
 clear h; intro h7 h
 refine brE h ?_ ?_
 ·clear h; intro h8 h
  refine X9 h ?_
  clear h; intro u9 h10 h
  obtain rfl := oj h
  refine Xe tmD [Bf, Bf, Bf, Bf, Bf, Bt, .wrap] ?_
  exact X6 rfl (Xl (cc .sc (cc .sc cn)))
 clear h; intro h8 h
 refine brE h ?_ ?_
 ·clear h; intro h11 h
  refine X9 h ?_
  clear h; intro u12 h13 h
  obtain rfl := oj h
  refine Xe tmD [Bf, Bf, Bf, Bf, Bf, Bf, Bt] ?_
  exact X6 rfl (Xl (cc .sc (cc .sc cn)))
 clear h; intro h11 h
 refine brE h ?_ ?_
 ·clear h; intro h14 h
  refine X9 h ?_
  clear h; intro v15 h16 h
  obtain rfl := oj h
  refine rn tmD [Bf, Bf, Bf, Bf, Bf, Bf, Bf, Bt, .pure [(aB (decide (a1 < a2)))] (aI .i64 v15)] rfl (by repeat' first|apply Ya|exact (pn (X3m _ _ h16) (cc .sc cn))|exact Xv) ?_
  exact X6 rfl (Xl (cc .sc (cc .sc cn)))
 clear h; intro h14 h
 refine brE h ?_ ?_
 ·clear h; intro h17 h
  refine X9 h ?_
  clear h; intro v18 h19 h
  obtain rfl := oj h
  refine rn tmD [Bf, Bf, Bf, Bf, Bf, Bf, Bf, Bf, Bt, .pure [(aB (decide (a1 <= a2)))] (aI .i64 v18)] rfl (by repeat' first|apply Ya|exact (pn (X3m _ _ h19) (cc .sc cn))|exact Xv) ?_
  exact X6 rfl (Xl (cc .sc (cc .sc cn)))
 clear h; intro h17 h
 refine brE h ?_ ?_
 ·clear h; intro h20 h
  refine X9 h ?_
  clear h; intro v21 h22 h
  obtain rfl := oj h
  refine rn tmD [Bf, Bf, Bf, Bf, Bf, Bf, Bf, Bf, Bf, Bt, .pure [(aB (decide (a1 > a2)))] (aI .i64 v21)] rfl (by repeat' first|apply Ya|exact (pn (X3m _ _ h22) (cc .sc cn))|exact Xv) ?_
  exact X6 rfl (Xl (cc .sc (cc .sc cn)))
 clear h; intro h20 h
 refine brE h ?_ ?_
 ·clear h; intro h23 h
  refine X9 h ?_
  clear h; intro v24 h25 h
  obtain rfl := oj h
  refine rn tmD [Bf, Bf, Bf, Bf, Bf, Bf, Bf, Bf, Bf, Bf, Bt, .pure [(aB (decide (a1 >= a2)))] (aI .i64 v24)] rfl (by repeat' first|apply Ya|exact (pn (X3m _ _ h25) (cc .sc cn))|exact Xv) ?_
  exact X6 rfl (Xl (cc .sc (cc .sc cn)))
 clear h; intro h23 h
 refine brE h ?_ ?_
 ·clear h; intro h26 h
  refine X9 h ?_
  clear h; intro v27 h28 h
  obtain rfl := oj h
  refine rn tmD [Bf, Bf, Bf, Bf, Bf, Bf, Bf, Bf, Bf, Bf, Bf, Bt, .pure [(aB (a1 == a2))] (aI .i64 v27)] rfl (by repeat' first|apply Ya|exact (pn (X3m _ _ h28) (cc .sc cn))|exact Xv) ?_
  exact X6 rfl (Xl (cc .sc (cc .sc cn)))
 clear h; intro h26 h
 refine brE h ?_ ?_
 ·clear h; intro h29 h
  refine X9 h ?_
  clear h; intro v30 h31 h
  obtain rfl := oj h
  refine rn tmD [Bf, Bf, Bf, Bf, Bf, Bf, Bf, Bf, Bf, Bf, Bf, Bf, Bt, .pure [(aB (a1 != a2))] (aI .i64 v30)] rfl (by repeat' first|apply Ya|exact (pn (X3m _ _ h31) (cc .sc cn))|exact Xv) ?_
  exact X6 rfl (Xl (cc .sc (cc .sc cn)))
 clear h; intro h29 h
 refine brE h ?_ ?_
 ·clear h; intro h32 h
  refine X9 h ?_
  clear h; intro v33 h34 h
  obtain rfl := oj h
  refine rn tmD [Bf, Bf, Bf, Bf, Bf, Bf, Bf, Bf, Bf, Bf, Bf, Bf, Bf, Bt, .pure [(aB (bif (a1 != (0 : Int)) then (a2 != (0 : Int)) else false))] (aI .i64 v33)] rfl (by repeat' first|apply Ya|exact (pn (X3m _ _ h34) (cc .sc cn))|exact Xv) ?_
  exact X6 rfl (Xl (cc .sc (cc .sc cn)))
 clear h; intro h32 h
 refine Xe tmD [Bf, Bf, Bf, Bf, Bf, Bf, Bf, Bf, Bf, Bf, Bf, Bf, Bf, Bf] ?_
 refine brE h ?_ ?_
 ·clear h; intro h35 h
  refine X9 h ?_
  clear h; intro v36 h37 h
  obtain rfl := oj h
  refine rn tmD [Bt, .pure [(aB ((bits .or IntKind.i64 a1 a2) != (0 : Int)))] (aI .i64 v36)] rfl (by repeat' first|apply Ya|exact (pn (X3m _ _ h37) (cc .sc cn))|exact Xv) ?_
  exact X6 rfl (Xl (cc .sc (cc .sc cn)))
 clear h; intro h35 h
 obtain rfl := oj h
 refine Xe tmD [Bf] ?_
 exact X6 rfl (Xl (cc .sc (cc .sc cn)))
theorem Xjw {Q : X0d -> St -> Mu -> Prop} {μ : Mu} (Xm : (V5 Int)) (X82 : (List X00)) (hl : X82.length <= 140737488355328) : ∀ (xs : List X00) (k : Nat) (hx : X82.drop k = xs) (Xk : (List Int)) (X02 : Nb Xk) (o : X8r) (h : X62 Xm X82 xs k Xk = some o)
  (C0 : ∀ (Xq : (List Int)) (X0i : Nb Xq), o = X8r.x0 Xq -> Xa Tryz.prog 80 0 Q (.exit (.exit 0)) [] ⟨fr [(8, (slE X0i.1 0 (List.map (aI .i64) Xq)))], hp ([] ++ opE X0i.1 0 1 (List.map (aI .i64) Xq)), 1⟩ μ)
  (C1 : ∀ (X06 : (List Int)) (Xbg : Int) (X0h : Nb X06), o = X8r.x1 X06 Xbg -> Xa Tryz.prog 80 0 Q (.exit .ret) [] ⟨fr [(4, (slE X0h.1 0 (List.map (aI .i64) X06))), (5, (aI .i64 Xbg))], hp ([] ++ opE X0h.1 0 1 (List.map (aI .i64) X06)), 1⟩ μ),
  Xa Tryz.prog 80 0 Q (.loop (X5o 0 (Xt Tryz.f59))) [] ⟨fr [(7, (AV.ptr 0 0 0)), (8, (slE X02.1 1 (List.map (aI .i64) Xk))), (28, (Lf (X82.map X1))), (29, (aI .i64 (X82.length : Int))), (30, (aI .i64 (k : Int)))], hp ([(0, Ob [(X9j Xm)] 5)] ++ opE X02.1 1 1 (List.map (aI .i64) Xk)), 2⟩ μ := by
 intro xs
 induction xs with
 | nil =>
  intro k hx Xk X02 o h C0 C1
  have hk := X1u hx
  have hc : decide ((k : Int) < (X82.length : Int)) = false := Yf (by omega)
  rw [X62] at h
  rcases X02 with ⟨_ | _, X0n⟩
  ·
   refine Xa.round ?_
   obtain rfl := oj h
   refine Xe tmD [Bf] ?_
   exact wkT [(0, 1)] (C0 _  nbF rfl)
  ·
   obtain rfl := X0n rfl
   refine Xa.round ?_
   obtain rfl := oj h
   refine Xe tmD [Bf] ?_
   exact wkT [] (C0 _  (nbT (by first | rfl | simp [*])) rfl)
 | cons x xs ih =>
  intro k hx Xk X02 o h C0 C1
  obtain ⟨hk, hg, hx1⟩ := X16 hx
  have hc : decide ((k : Int) < (X82.length : Int)) = true := Yt (by omega)
  rw [X62] at h
  rcases X02 with ⟨_ | _, X0n⟩
  ·
   refine Xa.round ?_
   refine brE h ?_ ?_
   ·clear h; intro h150 h
    refine X9 h ?_
    clear h; intro e151 h152 h
    try have qh152 := Xz h152
    refine rn tmD [Bt, .el (X1 x), Bt, .el (aI .i64 e151), .ld (aI .i64 e151)] rfl (by repeat' first|apply Ya|exact (List.getElem?_set_self (by have hq := X2w h152; simp; omega)).trans rfl|exact Xv) ?_
    exact wkT [] (ih (k + 1) hx1 _ nbF o h C0 C1)
   clear h; intro h150 h
   refine brE h ?_ ?_
   ·clear h; intro h153 h
    refine X9 h ?_
    clear h; intro Xjp h179 h
    refine Xe tmD [Bt, .el (X1 x), Bf, Bt, .stop 16] ?_
    refine Xa.joinF (fun (q : Nb Xjp) => ⟨fr [(7, (AV.ptr 0 0 0)), (8, (slE q.1 1 (List.map (aI .i64) Xjp))), (28, (Lf (X82.map X1))), (29, (aI .i64 (X82.length : Int))), (30, (aI .i64 (k : Int)))], hp ([(0, Ob [(X9j Xm)] 5)] ++ opE q.1 1 1 (List.map (aI .i64) Xjp)), 2⟩) ?_ (fun J => Xa.cut ?_)
    ·
     rintro Xsv
     rcases Xsv with ⟨_ | _, Xtl⟩
     ·
      refine Xe tmD [] ?_
      exact wkT [] (ih (k + 1) hx1 _ nbF o h C0 C1)
     obtain rfl := Xtl rfl
     refine Xe tmD [] ?_
     exact wkT [] (ih (k + 1) hx1 _ (nbT (by first | rfl | simp [*])) o h C0 C1)
    clear h
    have h := h179
    refine brE h ?_ ?_
    ·clear h; intro h167 h
     refine X9 h ?_
     clear h; intro e168 h169 h
     try have qh169 := Xz h169
     obtain rfl := oj h
     refine rn tmD [.ix 0, .el (aI .i64 e168), .ld (aI .i64 e168)] rfl (by repeat' first|apply Ya|exact ((eq_of_beq h167))|exact (List.getElem?_set_self (by have hq := X2w h169; simp; omega)).trans rfl|exact Xv) ?_
     exact wkT [] (Xa.glue (J nbF))
    clear h; intro h167 h
    refine brE h ?_ ?_
    ·clear h; intro h170 h
     refine X9 h ?_
     clear h; intro e171 h172 h
     try have qh172 := Xz h172
     obtain rfl := oj h
     refine rn tmD [.ix 2, .el (aI .i64 e171), .ld (aI .i64 e171)] rfl (by repeat' first|apply Ya|exact ((eq_of_beq h170))|exact (List.getElem?_set_self (by have hq := X2w h172; simp; omega)).trans rfl|exact Xv) ?_
     exact wkT [] (Xa.glue (J nbF))
    clear h; intro h170 h
    refine brE h ?_ ?_
    ·clear h; intro h173 h
     refine X9 h ?_
     clear h; intro e174 h175 h
     try have qh175 := Xz h175
     obtain rfl := oj h
     refine rn tmD [.ix 3, .el (aI .i64 e174), .ld (aI .i64 e174)] rfl (by repeat' first|apply Ya|exact ((eq_of_beq h173))|exact (List.getElem?_set_self (by have hq := X2w h175; simp; omega)).trans rfl|exact Xv) ?_
     exact wkT [] (Xa.glue (J nbF))
    clear h; intro h173 h
    refine brE h ?_ ?_
    ·clear h; intro h176 h
     refine X9 h ?_
     clear h; intro e177 h178 h
     try have qh178 := Xz h178
     obtain rfl := oj h
     refine rn tmD [.ix 4, .el (aI .i64 e177), .ld (aI .i64 e177)] rfl (by repeat' first|apply Ya|exact ((eq_of_beq h176))|exact (List.getElem?_set_self (by have hq := X2w h178; simp; omega)).trans rfl|exact Xv) ?_
     exact wkT [] (Xa.glue (J nbF))
    clear h; intro h176 h
    cases h
   clear h; intro h153 h
   refine X9 h ?_
   clear h; intro e180 h181 h
   try have qh181 := Xz h181
   refine X9 h ?_
   clear h; intro e182 h183 h
   try have qh183 := Xz h183
   refine X9 h ?_
   clear h; intro v184 h185 h
   refine rn tmD [Bt, .el (X1 x), Bf, Bf, .el (aI .i64 e180), .ld (aI .i64 e180), .el (aI .i64 e182), .ld (aI .i64 e182), .pure [(aI .u8 x.Kind), (aI .i64 e180), (aI .i64 e182)] (AV.tup [(aI .i64 v184.1), (aI .i64 v184.2)])] rfl (by repeat' first|apply Ya|exact (pn (Xe9 _ _ _ _ h185) (cc .sc (cc .sc (cc .sc cn))))|exact Xv) ?_
   refine brE h ?_ ?_
   ·clear h; intro h186 h
    obtain rfl := oj h
    refine Xe tmD [Bt] ?_
    exact wkT [] (C1 _ _  (nbT (by first | rfl | simp [*])) rfl)
   clear h; intro h186 h
   refine X9 h ?_
   clear h; intro e187 h188 h
   try have qh188 := Xz h188
   refine rn tmD [Bf, .el (aI .i64 e187), .ld (aI .i64 e187)] rfl (by repeat' first|apply Ya|exact (List.getElem?_set_self (by have hq := X2w h188; simp; omega)).trans rfl|exact Xv) ?_
   exact wkT [] (ih (k + 1) hx1 _ nbF o h C0 C1)
  obtain rfl := X0n rfl
  refine Xa.round ?_
  refine brE h ?_ ?_
  ·clear h; intro h189 h
   refine X9 h ?_
   clear h; intro e190 h191 h
   try have qh191 := Xz h191
   exact absurd (h191) (by simp [X2o])
  clear h; intro h189 h
  refine brE h ?_ ?_
  ·clear h; intro h192 h
   refine X9 h ?_
   clear h; intro _ h205 h
   clear h; have h := h205
   refine brE h ?_ ?_
   ·clear h; intro h206 h
    refine X9 h ?_
    clear h; intro e207 h208 h
    try have qh208 := Xz h208
    exact absurd (h208) (by simp [X2o])
   clear h; intro h206 h
   refine brE h ?_ ?_
   ·clear h; intro h209 h
    refine X9 h ?_
    clear h; intro e210 h211 h
    try have qh211 := Xz h211
    exact absurd (h211) (by simp [X2o])
   clear h; intro h209 h
   refine brE h ?_ ?_
   ·clear h; intro h212 h
    refine X9 h ?_
    clear h; intro e213 h214 h
    try have qh214 := Xz h214
    exact absurd (h214) (by simp [X2o])
   clear h; intro h212 h
   refine brE h ?_ ?_
   ·clear h; intro h215 h
    refine X9 h ?_
    clear h; intro e216 h217 h
    try have qh217 := Xz h217
    exact absurd (h217) (by simp [X2o])
   clear h; intro h215 h
   cases h
  clear h; intro h192 h
  refine X9 h ?_
  clear h; intro e218 h219 h
  try have qh219 := Xz h219
  exact absurd (h219) (by simp [X2o])
theorem Xh0 {Q : X0d -> St -> Mu -> Prop} {μ : Mu} (Xm : (V5 Int)) (X82 : (List X00)) (hl : X82.length <= 140737488355328) : ∀ (xs : List X00) (k : Nat) (hx : X82.drop k = xs) (Xk : (List Int)) (o : X6s) (h : X2p Xm X82 xs k Xk = some o)
  (C0 : ∀ (Xq : (List Int)), o = X6s.x0 Xq -> Xa Tryz.prog 80 0 Q (.exit (.exit 0)) [] ⟨fr [(8, (AV.ref 0 0 (Xq.length)))], hp ([(0, Ob (List.map (aI .i64) Xq) 1)]), 1⟩ μ)
  (C1 : ∀ (X06 : (List Int)) (Xbg : Int) (X0h : Nb X06), o = X6s.x1 X06 Xbg -> Xa Tryz.prog 80 0 Q (.exit .ret) [] ⟨fr [(4, (slE X0h.1 0 (List.map (aI .i64) X06))), (5, (aI .i64 Xbg))], hp ([] ++ opE X0h.1 0 1 (List.map (aI .i64) X06)), 1⟩ μ),
  Xa Tryz.prog 80 0 Q (.loop (X5o 0 (Xt Tryz.f59))) [] ⟨fr [(7, (AV.ptr 0 0 0)), (8, (AV.ref 1 0 (Xk.length))), (28, (Lf (X82.map X1))), (29, (aI .i64 (X82.length : Int))), (30, (aI .i64 (k : Int)))], hp ([(0, Ob [(X9j Xm)] 5), (1, Ob (List.map (aI .i64) Xk) 1)]), 2⟩ μ := by
 intro xs
 induction xs with
 | nil =>
  intro k hx Xk o h C0 C1
  have hk := X1u hx
  have hc : decide ((k : Int) < (X82.length : Int)) = false := Yf (by omega)
  rw [X2p] at h
  refine Xa.round ?_
  obtain rfl := oj h
  refine Xe tmD [Bf] ?_
  exact wkT [(0, 1)] (C0 _  rfl)
 | cons x xs ih =>
  intro k hx Xk o h C0 C1
  obtain ⟨hk, hg, hx1⟩ := X16 hx
  have hc : decide ((k : Int) < (X82.length : Int)) = true := Yt (by omega)
  rw [X2p] at h
  refine Xa.round ?_
  refine brE h ?_ ?_
  ·clear h; intro h303 h
   refine X9 h ?_
   clear h; intro e304 h305 h
   try have qh305 := Xz h305
   refine rn tmD [Bt, .el (X1 x), Bt, .el (aI .i64 e304), .ld (aI .i64 e304)] rfl (by repeat' first|apply Ya|exact (List.getElem?_set_self (by have hq := X2w h305; simp; omega)).trans rfl|exact Xv) ?_
   exact wkT [] (ih (k + 1) hx1 _ o h C0 C1)
  clear h; intro h303 h
  refine brE h ?_ ?_
  ·clear h; intro h306 h
   refine X9 h ?_
   clear h; intro Xml h332 h
   refine Xe tmD [Bt, .el (X1 x), Bf, Bt, .stop 16] ?_
   refine Xa.join (s' := ⟨fr [(7, (AV.ptr 0 0 0)), (8, (AV.ref 1 0 (Xml.length))), (28, (Lf (X82.map X1))), (29, (aI .i64 (X82.length : Int))), (30, (aI .i64 (k : Int)))], hp ([(0, Ob [(X9j Xm)] 5), (1, Ob (List.map (aI .i64) Xml) 1)]), 2⟩) ?_ (fun J => Xa.cut ?_)
   ·
    refine Xe tmD [] ?_
    exact wkT [] (ih (k + 1) hx1 _ o h C0 C1)
   clear h
   have h := h332
   refine brE h ?_ ?_
   ·clear h; intro h320 h
    refine X9 h ?_
    clear h; intro e321 h322 h
    try have qh322 := Xz h322
    obtain rfl := oj h
    refine rn tmD [.ix 0, .el (aI .i64 e321), .ld (aI .i64 e321)] rfl (by repeat' first|apply Ya|exact ((eq_of_beq h320))|exact (List.getElem?_set_self (by have hq := X2w h322; simp; omega)).trans rfl|exact Xv) ?_
    exact wkT [] (Xa.glue J)
   clear h; intro h320 h
   refine brE h ?_ ?_
   ·clear h; intro h323 h
    refine X9 h ?_
    clear h; intro e324 h325 h
    try have qh325 := Xz h325
    obtain rfl := oj h
    refine rn tmD [.ix 2, .el (aI .i64 e324), .ld (aI .i64 e324)] rfl (by repeat' first|apply Ya|exact ((eq_of_beq h323))|exact (List.getElem?_set_self (by have hq := X2w h325; simp; omega)).trans rfl|exact Xv) ?_
    exact wkT [] (Xa.glue J)
   clear h; intro h323 h
   refine brE h ?_ ?_
   ·clear h; intro h326 h
    refine X9 h ?_
    clear h; intro e327 h328 h
    try have qh328 := Xz h328
    obtain rfl := oj h
    refine rn tmD [.ix 3, .el (aI .i64 e327), .ld (aI .i64 e327)] rfl (by repeat' first|apply Ya|exact ((eq_of_beq h326))|exact (List.getElem?_set_self (by have hq := X2w h328; simp; omega)).trans rfl|exact Xv) ?_
    exact wkT [] (Xa.glue J)
   clear h; intro h326 h
   refine brE h ?_ ?_
   ·clear h; intro h329 h
    refine X9 h ?_
    clear h; intro e330 h331 h
    try have qh331 := Xz h331
    obtain rfl := oj h
    refine rn tmD [.ix 4, .el (aI .i64 e330), .ld (aI .i64 e330)] rfl (by repeat' first|apply Ya|exact ((eq_of_beq h329))|exact (List.getElem?_set_self (by have hq := X2w h331; simp; omega)).trans rfl|exact Xv) ?_
    exact wkT [] (Xa.glue J)
   clear h; intro h329 h
   cases h
  clear h; intro h306 h
  refine X9 h ?_
  clear h; intro e333 h334 h
  try have qh334 := Xz h334
  refine X9 h ?_
  clear h; intro e335 h336 h
  try have qh336 := Xz h336
  refine X9 h ?_
  clear h; intro v337 h338 h
  refine rn tmD [Bt, .el (X1 x), Bf, Bf, .el (aI .i64 e333), .ld (aI .i64 e333), .el (aI .i64 e335), .ld (aI .i64 e335), .pure [(aI .u8 x.Kind), (aI .i64 e333), (aI .i64 e335)] (AV.tup [(aI .i64 v337.1), (aI .i64 v337.2)])] rfl (by repeat' first|apply Ya|exact (pn (Xe9 _ _ _ _ h338) (cc .sc (cc .sc (cc .sc cn))))|exact Xv) ?_
  refine brE h ?_ ?_
  ·clear h; intro h339 h
   obtain rfl := oj h
   refine Xe tmD [Bt] ?_
   exact wkT [] (C1 _ _  (nbT (by first | rfl | simp [*])) rfl)
  clear h; intro h339 h
  refine X9 h ?_
  clear h; intro e340 h341 h
  try have qh341 := Xz h341
  refine rn tmD [Bf, .el (aI .i64 e340), .ld (aI .i64 e340)] rfl (by repeat' first|apply Ya|exact (List.getElem?_set_self (by have hq := X2w h341; simp; omega)).trans rfl|exact Xv) ?_
  exact wkT [] (ih (k + 1) hx1 _ o h C0 C1)
theorem Xhp (a0 : (List X00)) (a1 : Xj) (r : (List Int) × Int) (h : Xg1 a0 a1 = some r) : X19 Tryz.prog 59 [(Lf (a0.map X1)), (X3 a1)] (AV.tup [(AV.list true (List.map (aI .i64) r.1)), (aI .i64 r.2)]) := by
 refine X19.sym Xg fn59 (nt := 80) rfl rfl ?_ (Xf .list (Xf (X4y _ _).1 X08))
 unfold Xg1 at h
 refine X9 h ?_
 clear h; intro v1 h2 h
 refine brE h ?_ ?_
 ·clear h; intro h3 h
  obtain rfl := oj h
  refine rn tmD [.pure [(Lf (a0.map X1))] (aI .i64 v1), Bt] rfl (by repeat' first|apply Ya|exact (pn (Xbb _ _ h2) (cc (X8 (X0 X7 a0)) cn))|exact Xv) ?_
  exact X6 rfl (Xl (cc (Zn (aI .i64)) (cc .sc cn)))
 clear h; intro h3 h
 refine X9 h ?_
 clear h; intro u4 h5 h
 have qh5 := X00d h5
 refine brE h ?_ ?_
 ·clear h; intro q h
  have h6 : (a0.length : Int) = 0 := by simpa using q
  refine X9 h ?_
  clear h; intro u7 h8 h
  have qh8 := X11 h8
  refine X9 h ?_
  clear h; intro o220 h221 h
  refine rn tmD [.pure [(Lf (a0.map X1))] (aI .i64 v1), Bf, .el (aI .i64 (a0.length : Int)), .ne false, .el (aI .i64 (a0.length : Int))] rfl (by repeat' first|apply Ya|exact (pn (Xbb _ _ h2) (cc (X8 (X0 X7 a0)) cn))|exact (Int.le_trans qh5.2.2 (by decide))|exact (by omega)|exact Xv) ?_
  refine wkT [(0, 1)] (Xa.cut (Xjw (V5.mk 0 0 a1.Key a1.Time a1.Value) a0 qh8 a0 0 (by simp) _ (nbT (by first | rfl | simp [*])) _ h221 ?_ ?_))
  ·intro Xq X0i eo220; subst eo220
   refine Xa.glue ?_
   try dsimp only at h
   rcases X0i with ⟨_ | _, X35⟩
   ·
    obtain rfl := oj h
    refine Xe tmD [] ?_
    exact X6 rfl (Xl (cc (X0o (es := List.map (aI .i64) Xq) rfl (by first | rfl | (simp; done) | (simp; rfl) | (simp [h3, h6]; done) | (simp [h3, h6]; rfl) | (simp [h3, h6, Ym, Yd]; done) | (simp [h3, h6, Ym, Yd]; rfl)) (by first | rfl | (simp; done) | (simp; omega) | (simp [h3, h6]; done) | (simp [h3, h6]; omega)) (X0 (fun _ => X0e) Xq)) (cc .sc cn)))
   obtain rfl := X35 rfl
   obtain rfl := oj h
   refine Xe tmD [] ?_
   exact X6 rfl (Xl (cc (Zn (aI .i64)) (cc .sc cn)))
  intro X06 Xbg X0h eo220; subst eo220
  refine Xa.glue ?_
  try dsimp only at h
  rcases X0h with ⟨_ | _, X33⟩
  ·
   obtain rfl := oj h
   refine Xe tmD [] ?_
   exact X6 rfl (Xl (cc (X0o (es := List.map (aI .i64) X06) rfl (by first | rfl | (simp; done) | (simp; rfl) | (simp [h3, h6]; done) | (simp [h3, h6]; rfl) | (simp [h3, h6, Ym, Yd]; done) | (simp [h3, h6, Ym, Yd]; rfl)) (by first | rfl | (simp; done) | (simp; omega) | (simp [h3, h6]; done) | (simp [h3, h6]; omega)) (X0 (fun _ => X0e) X06)) (cc .sc cn)))
  obtain rfl := X33 rfl
  obtain rfl := oj h
  refine Xe tmD [] ?_
  exact X6 rfl (Xl (cc (Zn (aI .i64)) (cc .sc cn)))
 clear h; intro q h
 have h6 : ¬ ((a0.length : Int) = 0) := by simpa using q
 refine X9 h ?_
 clear h; intro u222 h223 h
 have qh223 := X11 h223
 refine X9 h ?_
 clear h; intro o342 h343 h
 refine rn tmD [.pure [(Lf (a0.map X1))] (aI .i64 v1), Bf, .el (aI .i64 (a0.length : Int)), .el (aI .i64 (a0.length : Int))] rfl (by repeat' first|apply Ya|exact (pn (Xbb _ _ h2) (cc (X8 (X0 X7 a0)) cn))|exact (Int.le_trans qh5.2.2 (by decide))|exact (by omega)|exact Xv) ?_
 refine wkT [(0, 1), (1, 2)] (Xa.cut (Xh0 (V5.mk 0 0 a1.Key a1.Time a1.Value) a0 qh223 a0 0 (by simp) _ _ h343 ?_ ?_))
 ·intro Xq eo342; subst eo342
  refine Xa.glue ?_
  try dsimp only at h
  obtain rfl := oj h
  refine Xe tmD [] ?_
  exact X6 rfl (Xl (cc (X0o (es := List.map (aI .i64) Xq) rfl (by first | rfl | (simp; done) | (simp; rfl) | (simp [h3, h6]; done) | (simp [h3, h6]; rfl) | (simp [h3, h6, Ym, Yd]; done) | (simp [h3, h6, Ym, Yd]; rfl)) (by first | rfl | (simp; done) | (simp; omega) | (simp [h3, h6]; done) | (simp [h3, h6]; omega)) (X0 (fun _ => X0e) Xq)) (cc .sc cn)))
 intro X06 Xbg X0h eo342; subst eo342
 refine Xa.glue ?_
 try dsimp only at h
 rcases X0h with ⟨_ | _, X33⟩
 ·
  obtain rfl := oj h
  refine Xe tmD [] ?_
  exact X6 rfl (Xl (cc (X0o (es := List.map (aI .i64) X06) rfl (by first | rfl | (simp; done) | (simp; rfl) | (simp [h3, h6]; done) | (simp [h3, h6]; rfl) | (simp [h3, h6, Ym, Yd]; done) | (simp [h3, h6, Ym, Yd]; rfl)) (by first | rfl | (simp; done) | (simp; omega) | (simp [h3, h6]; done) | (simp [h3, h6]; omega)) (X0 (fun _ => X0e) X06)) (cc .sc cn)))
 obtain rfl := X33 rfl
 obtain rfl := oj h
 refine Xe tmD [] ?_
 exact X6 rfl (Xl (cc (Zn (aI .i64)) (cc .sc cn)))
theorem X4n (a0 : (List X00)) (a1 : Xj) (r : Int × Int) (h : X68 a0 a1 = some r) : X19 Tryz.prog 35 [(Lf (a0.map X1)), (X3 a1)] (AV.tup [(aI .i64 r.1), (aI .i64 r.2)]) := by
 refine X19.sym Xg fn35 (nt := 23) rfl rfl ?_ (Xf .list (Xf (X4y _ _).1 X08))
 unfold X68 at h
 refine X9 h ?_
 clear h; intro v1 h2 h
 refine brE h ?_ ?_
 ·clear h; intro h3 h
  obtain rfl := oj h
  refine rn tmD [.pure [(Lf (a0.map X1)), (X3 a1)] (AV.tup [(AV.list true (List.map (aI .i64) v1.1)), (aI .i64 v1.2)]), Bt] rfl (by repeat' first|apply Ya|exact (pn (Xhp _ _ _ h2) (cc (X8 (X0 X7 a0)) (cc (X1b (x := a1)) cn)))|exact Xv) ?_
  exact X6 rfl (Xl (cc .sc (cc .sc cn)))
 clear h; intro h3 h
 refine X9 h ?_
 clear h; intro e4 h5 h
 try have qh5 := Xz h5
 obtain rfl := oj h
 refine rn tmD [.pure [(Lf (a0.map X1)), (X3 a1)] (AV.tup [(AV.list true (List.map (aI .i64) v1.1)), (aI .i64 v1.2)]), Bf, .el (aI .i64 (v1.1.length : Int)), .wrap, .el (aI .i64 e4)] rfl (by repeat' first|apply Ya|exact (pn (Xhp _ _ _ h2) (cc (X8 (X0 X7 a0)) (cc (X1b (x := a1)) cn)))|exact Xv) ?_
 exact X6 rfl (Xl (cc .sc (cc .sc cn)))
end Go.Av.Tryz