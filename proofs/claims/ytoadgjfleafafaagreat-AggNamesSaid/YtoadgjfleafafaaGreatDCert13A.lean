/- Printed by decomp.py: that the program computes the functions. -/
import Derived.Test.YtoadgjfleafafaaGreatDCert12A
set_option linter.all false

namespace Go.Av.Tryz
open Go.Proofs Go.D
set_option maxRecDepth 10000
set_option maxHeartbeats 40000000
theorem Xc7 (a0 : X2n) (a1 : X9) (r : X0j × Int) (h : Xc8 a0 a1 = some r) : X16 Tryz.prog 9 [(X02 false a0), (X2 a1)] (AV.tup [(Xk r.1), (aI .i64 r.2)]) := by
 refine X16.sym Xe fn9 (nt := 41) rfl rfl ?_ (X6 (X23 false _ _).1 (X6 (X3m _ _).1 X08))
 unfold Xc8 at h
 refine X3 h ?_
 clear h; intro Xnw h14 h
 refine Xm tmD [.stop 1] ?_
 refine Xa.join (s' := ⟨fr [(2, (AV.ptr 0 0 0)), (3, (AV.ptr 1 0 0)), (4, (AV.ptr 2 0 0)), (23, (aB Xnw))], hp ([(0, Ob [(X02 false a0)] 10), (1, Ob [(X2 a1)] 11), (2, Ob [(Xk (X0j.mk 0 (X14.mk 0 0) (V2.mk 0 0)))] 5)]), 3⟩) ?_ (fun J => Xa.cut ?_)
 ·
  refine brE h ?_ ?_
  ·clear h; intro h15 h
   obtain rfl := oj h
   refine Xm tmD [Bt] ?_
   exact X8 rfl (X04 (cc (Xgc (x := (X0j.mk 0 (X14.mk 0 0) (V2.mk 0 0)))) (cc .sc cn)))
  clear h; intro h15 h
  refine X3 h ?_
  clear h; intro v16 h17 h
  obtain rfl := oj h
  refine rn tmD [Bf, .ix 0, .pure [(aI .u8 a0.Agg), (X0g a1.Values.e0)] (AV.tup [(aI .i64 v16.1), (aI .i64 v16.2)])] rfl (by repeat' first|apply Ya|exact (pn (X7n _ _ _ h17) (cc .sc (cc (X0q (x := a1.Values.e0)) cn)))|exact X00) ?_
  exact X8 rfl (X04 (cc (Xgc (x := (X0j.mk a1.Key a1.Span (V2.mk v16.1 0)))) (cc .sc cn)))
 clear h
 have h := h14
 refine X3 h ?_
 clear h; intro v8 h9 h
 refine brE h ?_ ?_
 ·clear h; intro h10 h
  obtain rfl := oj h
  refine rn tmD [.pure [(X02 false a0)] (aB v8), .go false, .go false, .go false, .go false, .go false, .go false, .go false, .go false, .go false] rfl (by repeat' first|apply Ya|exact (pn (X24 _ _ h9) (cc (X0i (cc .sc (cc (X4 (X0 Xh a0.Arg)) (cc (X4 (X0 (fun _ => X06) a0.Sources)) (cc .sc (cc (X4 (X0 Xh a0.Where)) (cc .sc (cc .sc (cc .sc (cc .sc (cc .sc cn))))))))))) cn))|exact ((Xy h10 rfl))|exact (X0o (Xy h10 rfl))|exact (Xaa (Xy h10 rfl))|exact X00) ?_
  exact wkT [] (Xa.glue J)
 clear h; intro h10 h
 refine X3 h ?_
 clear h; intro v11 h12 h
 refine brE h ?_ ?_
 ·clear h; intro h13 h
  obtain rfl := oj h
  refine rn tmD [.pure [(X02 false a0)] (aB v8), .go true, .go true, .go true, .pure [(Lf (List.map X2 [a1]))] (aI .i64 v11), .go true, .go false, .go false, .go false, .go false, .go false] rfl (by repeat' first|apply Ya|exact (pn (X24 _ _ h9) (cc (X0i (cc .sc (cc (X4 (X0 Xh a0.Arg)) (cc (X4 (X0 (fun _ => X06) a0.Sources)) (cc .sc (cc (X4 (X0 Xh a0.Where)) (cc .sc (cc .sc (cc .sc (cc .sc (cc .sc cn))))))))))) cn))|exact (X22.lent (X1k _ _ h12) (cc (X1b (es := List.map X2 [a1]) rfl (by first | rfl | (simp; done) | (simp; rfl) | (simp [h10]; done) | (simp [h10]; rfl) | (simp [h10, Ym, Yd]; done) | (simp [h10, Ym, Yd]; rfl)) (by first | rfl | (simp; done) | (simp; omega) | (simp [h10]; done) | (simp [h10]; omega)) (X0 Xl [a1])) cn) .sc)|exact ((X1s h10 h13))|exact (X0o (X1s h10 h13))|exact (Xaa (X1s h10 h13))|exact X00) ?_
  exact wkT [] (Xa.glue J)
 clear h; intro h13 h
 obtain rfl := oj h
 refine rn tmD [.pure [(X02 false a0)] (aB v8), .go true, .go true, .go true, .pure [(Lf (List.map X2 [a1]))] (aI .i64 v11), .go true, .go true, .go true, .ix 1, .go true, .go true, .go true] rfl (by repeat' first|apply Ya|exact (pn (X24 _ _ h9) (cc (X0i (cc .sc (cc (X4 (X0 Xh a0.Arg)) (cc (X4 (X0 (fun _ => X06) a0.Sources)) (cc .sc (cc (X4 (X0 Xh a0.Where)) (cc .sc (cc .sc (cc .sc (cc .sc (cc .sc cn))))))))))) cn))|exact (X22.lent (X1k _ _ h12) (cc (X1b (es := List.map X2 [a1]) rfl (by first | rfl | (simp; done) | (simp; rfl) | (simp [h10]; done) | (simp [h10]; rfl) | (simp [h10, Ym, Yd]; done) | (simp [h10, Ym, Yd]; rfl)) (by first | rfl | (simp; done) | (simp; omega) | (simp [h10]; done) | (simp [h10]; omega)) (X0 Xl [a1])) cn) .sc)|exact ((X1s h10 h13))|exact (X0o (X1s h10 h13))|exact (Xiy (X1s h10 h13))|exact X00) ?_
 exact wkT [] (Xa.glue J)
theorem X3y (a0 : Int) (a1 : Int) (a2 : Int) (r : X0j) (h : X6l a0 a1 a2 = some r) : X16 Tryz.prog 10 [(aI .i64 a0), (aI .i64 a1), (aI .i64 a2)] (Xk r) := by
 refine X16.sym Xe Xt7 (nt := 15) rfl rfl ?_ (X6 .sc (X6 .sc (X6 .sc X08)))
 unfold X6l at h
 obtain rfl := oj h
 refine Xm tmD [.wrap] ?_
 exact X8 rfl (Xgc (x := (X0j.mk a0 (X14.mk a1 (IntKind.i64.wrap (a1 + 10))) (V2.mk a2 0))))
theorem X2u (a0 : Int) (a1 : Int) (a2 : Int) (r : Xt) (h : Xj a0 a1 a2 = some r) : X16 Tryz.prog 12 [(aI .i64 a0), (aI .i64 a1), (aI .i64 a2)] (Xc r) := by
 refine X16.sym Xe Xt5 (nt := 12) rfl rfl ?_ (X6 .sc (X6 .sc (X6 .sc X08)))
 unfold Xj at h
 obtain rfl := oj h
 refine Xm tmD [] ?_
 exact X8 rfl (X0h (x := (Xt.mk 1 (Xb.mk a0 a1 a2) 0 (X0j.mk 0 (X14.mk 0 0) (V2.mk 0 0)))))
theorem X8b {Q : X0d -> St -> Mu -> Prop} {μ : Mu} (Xp9 : (List Int)) (Xp8 : (List Xt)) (Xcn : X2n) (Xk5 : Xn) (Xk4 : Xn) (Xk6 : Int) (Xdf : Xn) : ∀ (n : Nat) (Xeg : (List X0j)) (Xgh : Int) (Xb3 : Nb Xeg) (o : X6p) (h : X6g Xp9 Xp8 Xcn Xk5 Xk4 Xk6 Xdf n Xeg Xgh = some o)
  (C0 : ∀ (X8k : (List X0j)) (X73 : Nb X8k), o = X6p.x0 X8k -> Xa Tryz.prog 70 0 Q (.exit (.exit 2)) [] ⟨fr [(2, (Lf (List.map (aI .i64) Xp9))), (3, (Lf (Xp8.map Xc))), (4, (AV.ptr 0 0 0)), (8, (AV.ptr 1 0 0)), (11, (AV.ptr 2 0 0)), (13, (slE X73.1 3 (X8k.map Xk))), (14, (aI .i64 Xk6)), (15, (AV.ptr 4 0 0))], hp ([(0, Ob [(X02 false Xcn)] 10), (1, Ob [(Xg true Xk5)] 9), (2, Ob [(Xg true Xk4)] 9), (4, Ob [(Xg true Xdf)] 9)] ++ opE X73.1 3 5 (X8k.map Xk)), 5⟩ μ),
  Xa Tryz.prog 70 0 Q (.loop (X7i 1 (X01 Tryz.f11))) [] ⟨fr [(2, (Lf (List.map (aI .i64) Xp9))), (3, (Lf (Xp8.map Xc))), (4, (AV.ptr 0 0 0)), (8, (AV.ptr 1 0 0)), (11, (AV.ptr 2 0 0)), (13, (slE Xb3.1 3 (Xeg.map Xk))), (14, (aI .i64 Xk6)), (15, (AV.ptr 4 0 0)), (17, (aI .i64 Xgh))], hp ([(0, Ob [(X02 false Xcn)] 10), (1, Ob [(Xg true Xk5)] 9), (2, Ob [(Xg true Xk4)] 9), (4, Ob [(Xg true Xdf)] 9)] ++ opE Xb3.1 3 5 (Xeg.map Xk)), 5⟩ μ := by
 intro n
 induction n with
 | zero => intro Xeg Xgh Xb3 o h C0; cases h
 | succ n ih =>
  intro Xeg Xgh Xb3 o h C0
  rw [X6g] at h
  rcases Xb3 with ⟨_ | _, Xme⟩
  ·
   refine Xa.round ?_
   refine brE h ?_ ?_
   ·clear h; intro h165 h
    refine X3 h ?_
    clear h; intro e166 h167 h
    try have qh167 := X18 h167
    refine X3 h ?_
    clear h; intro u168 h169 h
    refine rn tmD [.el (aI .i64 (Xdf.Pending.length : Int)), Bt, .el (Xp e166), .no, .wrap] rfl (by repeat' first | refine Ya ?_ ?_ | (refine X2p h169 rfl ?_; first | (simp; done) | (simp; omega) | (simp [h165]; done) | (simp [h165]; omega)) | (refine X1e h169 (by decide) ?_; first | (simp; done) | (simp; omega) | (simp [h165]; done) | (simp [h165]; omega))|exact X00) ?_
    exact wkT [(3, 6)] (ih  _ _ nbF o h C0)
   clear h; intro h165 h
   obtain rfl := oj h
   refine Xm tmD [.el (aI .i64 (Xdf.Pending.length : Int)), Bf] ?_
   exact wkT [] (C0 _  nbF rfl)
  obtain rfl := Xme rfl
  refine Xa.round ?_
  refine brE h ?_ ?_
  ·clear h; intro h170 h
   refine X3 h ?_
   clear h; intro e171 h172 h
   try have qh172 := X18 h172
   refine X3 h ?_
   clear h; intro u173 h174 h
   refine rn tmD [.el (aI .i64 (Xdf.Pending.length : Int)), Bt, .el (Xp e171), .no, .wrap] rfl (by repeat' first | refine Ya ?_ ?_ | (refine X2p h174 rfl ?_; first | (simp; done) | (simp; omega) | (simp [h170]; done) | (simp [h170]; omega)) | (refine X1e h174 (by decide) ?_; first | (simp; done) | (simp; omega) | (simp [h170]; done) | (simp [h170]; omega))|exact X00) ?_
   exact wkT [(3, 6)] (ih  _ _ nbF o h C0)
  clear h; intro h170 h
  obtain rfl := oj h
  refine Xm tmD [.el (aI .i64 (Xdf.Pending.length : Int)), Bf] ?_
  exact wkT [] (C0 _  (nbT (by first | rfl | simp [*])) rfl)
theorem Xbt {Q : X0d -> St -> Mu -> Prop} {μ : Mu} (Xmt : (List Int)) (Xd6 : (List Xt)) (X09 : X2n) (X05 : Xn) (hl : Xd6.length <= 140737488355328) : ∀ (xs : List Xt) (k : Nat) (hx : Xd6.drop k = xs) (X4h : Xn) (X57 : (List X0j)) (Xa4 : Nb X57) (o : X4u) (h : X4o Xmt Xd6 X09 X05 xs k X4h X57 = some o)
  (C0 : ∀ (X12 : Xn) (X80 : (List X0j)) (Xa2 : Nb X80), o = X4u.x0 X12 X80 -> Xa Tryz.prog 70 0 Q (.exit (.exit 0)) [] ⟨fr [(8, (AV.ptr 0 0 0)), (11, (AV.ptr 1 0 0)), (13, (slE Xa2.1 2 (X80.map Xk)))], hp ([(0, Ob [(Xg true X05)] 9), (1, Ob [(Xg true X12)] 9)] ++ opE Xa2.1 2 5 (X80.map Xk)), 3⟩ μ)
  (C1 : ∀ (X7z : (List X0j)) (Xa0 : Nb X7z), o = X4u.x1 X7z -> Xa Tryz.prog 70 0 Q (.exit .ret) [] ⟨fr [(8, (AV.ptr 0 0 0)), (9, (slE Xa0.1 1 (X7z.map Xk))), (10, (aB false))], hp ([(0, Ob [(Xg true (Xn.mk (GOp.mk 0 0) 0 ([] : List Xz) ([] : List Int) ([] : List X9) ([] : List Xq) ([] : List X0j) ([] : List Xb)))] 9)] ++ opE Xa0.1 1 5 (X7z.map Xk)), 2⟩ μ),
  Xa Tryz.prog 70 0 Q (.loop (X7i 0 (X01 Tryz.f11))) [] ⟨fr [(2, (Lf (List.map (aI .i64) Xmt))), (3, (Lf (Xd6.map Xc))), (4, (AV.ptr 0 0 0)), (8, (AV.ptr 1 0 0)), (11, (AV.ptr 2 0 0)), (13, (slE Xa4.1 3 (X57.map Xk))), (14, (aI .i64 (k : Int)))], hp ([(0, Ob [(X02 false X09)] 10), (1, Ob [(Xg true X05)] 9), (2, Ob [(Xg true X4h)] 9)] ++ opE Xa4.1 3 5 (X57.map Xk)), 4⟩ μ := by
 intro xs
 induction xs with
 | nil =>
  intro k hx X4h X57 Xa4 o h C0 C1
  have hk := X2m hx
  have hc : decide ((k : Int) < (Xd6.length : Int)) = false := Yf (by omega)
  rw [X4o] at h
  rcases Xa4 with ⟨_ | _, Xg3⟩
  ·
   refine Xa.round ?_
   obtain rfl := oj h
   refine Xm tmD [.el (aI .i64 (Xd6.length : Int)), Bf] ?_
   exact wkT [(0, 1), (1, 2), (2, 3)] (C0 _ _  nbF rfl)
  ·
   obtain rfl := Xg3 rfl
   refine Xa.round ?_
   obtain rfl := oj h
   refine Xm tmD [.el (aI .i64 (Xd6.length : Int)), Bf] ?_
   exact wkT [(0, 1), (1, 2)] (C0 _ _  (nbT (by first | rfl | simp [*])) rfl)
 | cons x xs ih =>
  intro k hx X4h X57 Xa4 o h C0 C1
  obtain ⟨hk, hg, hx1⟩ := X20 hx
  have hc : decide ((k : Int) < (Xd6.length : Int)) = true := Yt (by omega)
  rw [X4o] at h
  rcases Xa4 with ⟨_ | _, Xg3⟩
  ·
   refine Xa.round ?_
   refine X3 h ?_
   clear h; intro e139 h140 h
   try have qh140 := X18 h140
   refine X3 h ?_
   clear h; intro v141 h142 h
   refine rn tmD [.el (aI .i64 (Xd6.length : Int)), Bt, .el (aI .i64 e139), .el (Xc x), .pure [(X02 false X09), (Xg false X4h), (aI .i64 e139), (Xc x)] (AV.tup [(Xg true v141.1), (aI .i64 v141.2)])] rfl (by repeat' first|apply Ya|exact (pn (X3e _ _ _ _ _ h142) (cc (X0i (cc .sc (cc (X4 (X0 Xh X09.Arg)) (cc (X4 (X0 (fun _ => X06) X09.Sources)) (cc .sc (cc (X4 (X0 Xh X09.Where)) (cc .sc (cc .sc (cc .sc (cc .sc (cc .sc cn))))))))))) (cc (X0i (cc .sc (cc .sc (cc .sc (cc (X4 (X0 X0b X4h.Pending)) (cc (X4 (X0 (fun _ => X06) X4h.Marks)) (cc (X4 (X0 Xl X4h.Store)) (cc (X4 (X0 X0a X4h.Events)) (cc (X4 (X0 X07 X4h.Rows)) (cc (X4 (X0 X03 X4h.Late)) cn)))))))))) (cc .sc (cc (X0h (x := x)) cn)))))|exact X00) ?_
   refine brE h ?_ ?_
   ·clear h; intro h143 h
    obtain rfl := oj h
    refine Xm tmD [Bt] ?_
    refine Xa.denil 1 [AV.agg [(aI .u8 0), (aI .i64 0), (aI .i64 0), (AV.list true (List.map Xp ([] : List Xz))), (AV.list true (List.map (aI .i64) ([] : List Int))), (AV.list true (List.map X2 ([] : List X9))), (AV.list true (List.map Xv ([] : List Xq))), (AV.list true (List.map Xk ([] : List X0j))), (AV.list true (List.map Xs ([] : List Xb)))]] rfl rfl ?_
    exact wkT [(0, 1)] (C1 _  (nbT (by first | rfl | simp [*])) rfl)
   clear h; intro h143 h
   refine X3 h ?_
   clear h; intro o175 h176 h
   refine Xm tmD [Bf] ?_
   refine wkT [(4, 18)] (Xa.cut (X8b Xmt Xd6 X09 X05 X4h (k : Int) v141.1 _ _ _ nbF _ h176 ?_))
   intro X8k X73 eo175; subst eo175
   refine Xa.glue ?_
   try dsimp only at h
   rcases X73 with ⟨_ | _, Xbx⟩
   ·
    refine Xm tmD [] ?_
    refine Xa.denil 2 [AV.agg [(aI .u8 v141.1.Op.Kind), (aI .i64 v141.1.Op.N), (aI .i64 v141.1.Turn), (AV.list true (List.map Xp ([] : List Xz))), (AV.list true (List.map (aI .i64) v141.1.Marks)), (AV.list true (v141.1.Store.map X2)), (AV.list true (v141.1.Events.map Xv)), (AV.list true (v141.1.Rows.map Xk)), (AV.list true (v141.1.Late.map Xs))]] rfl rfl ?_
    refine Xa.denil 4 [AV.agg [(aI .u8 v141.1.Op.Kind), (aI .i64 v141.1.Op.N), (aI .i64 v141.1.Turn), (AV.list true (List.map Xp ([] : List Xz))), (AV.list true (List.map (aI .i64) v141.1.Marks)), (AV.list true (v141.1.Store.map X2)), (AV.list true (v141.1.Events.map Xv)), (AV.list true (v141.1.Rows.map Xk)), (AV.list true (v141.1.Late.map Xs))]] rfl rfl ?_
    exact wkT [] (ih (k + 1) hx1 _ _ nbF o h C0 C1)
   obtain rfl := Xbx rfl
   refine Xm tmD [] ?_
   refine Xa.denil 2 [AV.agg [(aI .u8 v141.1.Op.Kind), (aI .i64 v141.1.Op.N), (aI .i64 v141.1.Turn), (AV.list true (List.map Xp ([] : List Xz))), (AV.list true (List.map (aI .i64) v141.1.Marks)), (AV.list true (v141.1.Store.map X2)), (AV.list true (v141.1.Events.map Xv)), (AV.list true (v141.1.Rows.map Xk)), (AV.list true (v141.1.Late.map Xs))]] rfl rfl ?_
   refine Xa.denil 4 [AV.agg [(aI .u8 v141.1.Op.Kind), (aI .i64 v141.1.Op.N), (aI .i64 v141.1.Turn), (AV.list true (List.map Xp ([] : List Xz))), (AV.list true (List.map (aI .i64) v141.1.Marks)), (AV.list true (v141.1.Store.map X2)), (AV.list true (v141.1.Events.map Xv)), (AV.list true (v141.1.Rows.map Xk)), (AV.list true (v141.1.Late.map Xs))]] rfl rfl ?_
   exact wkT [] (ih (k + 1) hx1 _ _ (nbT (by first | rfl | simp [*])) o h C0 C1)
  obtain rfl := Xg3 rfl
  refine Xa.round ?_
  refine X3 h ?_
  clear h; intro e177 h178 h
  try have qh178 := X18 h178
  refine X3 h ?_
  clear h; intro v179 h180 h
  refine rn tmD [.el (aI .i64 (Xd6.length : Int)), Bt, .el (aI .i64 e177), .el (Xc x), .pure [(X02 false X09), (Xg false X4h), (aI .i64 e177), (Xc x)] (AV.tup [(Xg true v179.1), (aI .i64 v179.2)])] rfl (by repeat' first|apply Ya|exact (pn (X3e _ _ _ _ _ h180) (cc (X0i (cc .sc (cc (X4 (X0 Xh X09.Arg)) (cc (X4 (X0 (fun _ => X06) X09.Sources)) (cc .sc (cc (X4 (X0 Xh X09.Where)) (cc .sc (cc .sc (cc .sc (cc .sc (cc .sc cn))))))))))) (cc (X0i (cc .sc (cc .sc (cc .sc (cc (X4 (X0 X0b X4h.Pending)) (cc (X4 (X0 (fun _ => X06) X4h.Marks)) (cc (X4 (X0 Xl X4h.Store)) (cc (X4 (X0 X0a X4h.Events)) (cc (X4 (X0 X07 X4h.Rows)) (cc (X4 (X0 X03 X4h.Late)) cn)))))))))) (cc .sc (cc (X0h (x := x)) cn)))))|exact X00) ?_
  refine brE h ?_ ?_
  ·clear h; intro h181 h
   obtain rfl := oj h
   refine Xm tmD [Bt] ?_
   refine Xa.denil 1 [AV.agg [(aI .u8 0), (aI .i64 0), (aI .i64 0), (AV.list true (List.map Xp ([] : List Xz))), (AV.list true (List.map (aI .i64) ([] : List Int))), (AV.list true (List.map X2 ([] : List X9))), (AV.list true (List.map Xv ([] : List Xq))), (AV.list true (List.map Xk ([] : List X0j))), (AV.list true (List.map Xs ([] : List Xb)))]] rfl rfl ?_
   exact wkT [(0, 1)] (C1 _  (nbT (by first | rfl | simp [*])) rfl)
  clear h; intro h181 h
  refine X3 h ?_
  clear h; intro o203 h204 h
  refine Xm tmD [Bf] ?_
  refine wkT [(4, 18)] (Xa.cut (X8b Xmt Xd6 X09 X05 X4h (k : Int) v179.1 _ _ _ (nbT (by first | rfl | simp [*])) _ h204 ?_))
  intro X8k X73 eo203; subst eo203
  refine Xa.glue ?_
  try dsimp only at h
  rcases X73 with ⟨_ | _, Xbx⟩
  ·
   refine Xm tmD [] ?_
   refine Xa.denil 2 [AV.agg [(aI .u8 v179.1.Op.Kind), (aI .i64 v179.1.Op.N), (aI .i64 v179.1.Turn), (AV.list true (List.map Xp ([] : List Xz))), (AV.list true (List.map (aI .i64) v179.1.Marks)), (AV.list true (v179.1.Store.map X2)), (AV.list true (v179.1.Events.map Xv)), (AV.list true (v179.1.Rows.map Xk)), (AV.list true (v179.1.Late.map Xs))]] rfl rfl ?_
   refine Xa.denil 4 [AV.agg [(aI .u8 v179.1.Op.Kind), (aI .i64 v179.1.Op.N), (aI .i64 v179.1.Turn), (AV.list true (List.map Xp ([] : List Xz))), (AV.list true (List.map (aI .i64) v179.1.Marks)), (AV.list true (v179.1.Store.map X2)), (AV.list true (v179.1.Events.map Xv)), (AV.list true (v179.1.Rows.map Xk)), (AV.list true (v179.1.Late.map Xs))]] rfl rfl ?_
   exact wkT [] (ih (k + 1) hx1 _ _ nbF o h C0 C1)
  obtain rfl := Xbx rfl
  refine Xm tmD [] ?_
  refine Xa.denil 2 [AV.agg [(aI .u8 v179.1.Op.Kind), (aI .i64 v179.1.Op.N), (aI .i64 v179.1.Turn), (AV.list true (List.map Xp ([] : List Xz))), (AV.list true (List.map (aI .i64) v179.1.Marks)), (AV.list true (v179.1.Store.map X2)), (AV.list true (v179.1.Events.map Xv)), (AV.list true (v179.1.Rows.map Xk)), (AV.list true (v179.1.Late.map Xs))]] rfl rfl ?_
  refine Xa.denil 4 [AV.agg [(aI .u8 v179.1.Op.Kind), (aI .i64 v179.1.Op.N), (aI .i64 v179.1.Turn), (AV.list true (List.map Xp ([] : List Xz))), (AV.list true (List.map (aI .i64) v179.1.Marks)), (AV.list true (v179.1.Store.map X2)), (AV.list true (v179.1.Events.map Xv)), (AV.list true (v179.1.Rows.map Xk)), (AV.list true (v179.1.Late.map Xs))]] rfl rfl ?_
  exact wkT [] (ih (k + 1) hx1 _ _ (nbT (by first | rfl | simp [*])) o h C0 C1)
theorem X3s (a0 : X2n) (a1 : Int) (a2 : (List Int)) (a3 : (List Xt)) (r : Xn × (List X0j) × Bool) (h : Xi a0 a1 a2 a3 = some r) : X16 Tryz.prog 11 [(X02 false a0), (aI .i64 a1), (Lf (List.map (aI .i64) a2)), (Lf (a3.map Xc))] (AV.tup [(Xg true r.1), (AV.list true (r.2.1.map Xk)), (aB r.2.2)]) := by
 refine X16.sym Xe Xt6 (nt := 70) rfl rfl ?_ (X6 (X23 false _ _).1 (X6 .sc (X6 .list (X6 .list X08))))
 unfold Xi at h
 refine X3 h ?_
 clear h; intro v1 h2 h
 refine brE h ?_ ?_
 ·clear h; intro h3 h
  obtain rfl := oj h
  refine rn tmD [.pure [(aI .i64 0), (aI .i64 a1)] (AV.tup [(Xg true v1.1), (aI .i64 v1.2)]), Bt] rfl (by repeat' first|apply Ya|exact (pn (X6b _ _ _ h2) (cc .sc (cc .sc cn)))|exact X00) ?_
  exact X8 rfl (X04 (cc (X0i (cc .sc (cc .sc (cc .sc (cc (Xu (es := List.map Xp ((Xn.mk (GOp.mk 0 0) 0 ([] : List Xz) ([] : List Int) ([] : List X9) ([] : List Xq) ([] : List X0j) ([] : List Xb)).Pending)) (by simp [*])) (cc (Xu (es := List.map (aI .i64) ((Xn.mk (GOp.mk 0 0) 0 ([] : List Xz) ([] : List Int) ([] : List X9) ([] : List Xq) ([] : List X0j) ([] : List Xb)).Marks)) (by simp [*])) (cc (Xu (es := List.map X2 ((Xn.mk (GOp.mk 0 0) 0 ([] : List Xz) ([] : List Int) ([] : List X9) ([] : List Xq) ([] : List X0j) ([] : List Xb)).Store)) (by simp [*])) (cc (Xu (es := List.map Xv ((Xn.mk (GOp.mk 0 0) 0 ([] : List Xz) ([] : List Int) ([] : List X9) ([] : List Xq) ([] : List X0j) ([] : List Xb)).Events)) (by simp [*])) (cc (Xu (es := List.map Xk ((Xn.mk (GOp.mk 0 0) 0 ([] : List Xz) ([] : List Int) ([] : List X9) ([] : List Xq) ([] : List X0j) ([] : List Xb)).Rows)) (by simp [*])) (cc (Xu (es := List.map Xs ((Xn.mk (GOp.mk 0 0) 0 ([] : List Xz) ([] : List Int) ([] : List X9) ([] : List Xq) ([] : List X0j) ([] : List Xb)).Late)) (by simp [*])) cn)))))))))) (cc (Zn Xk) (cc .sc cn))))
 clear h; intro h3 h
 refine X3 h ?_
 clear h; intro u4 h5 h
 have qh5 := X1w h5
 refine rn tmD [.pure [(aI .i64 0), (aI .i64 a1)] (AV.tup [(Xg true v1.1), (aI .i64 v1.2)]), Bf] rfl (by repeat' first|apply Ya|exact (pn (X6b _ _ _ h2) (cc .sc (cc .sc cn)))|exact X00) ?_
 refine Xa.denil 1 [AV.agg [(aI .u8 0), (aI .i64 0), (aI .i64 0), (AV.list true (List.map Xp ([] : List Xz))), (AV.list true (List.map (aI .i64) ([] : List Int))), (AV.list true (List.map X2 ([] : List X9))), (AV.list true (List.map Xv ([] : List Xq))), (AV.list true (List.map Xk ([] : List X0j))), (AV.list true (List.map Xs ([] : List Xb)))]] rfl rfl ?_
 refine X3 h ?_
 clear h; intro o205 h206 h
 refine Xm tmD [] ?_
 refine wkT [] (Xa.cut (Xbt a2 a3 a0 (Xn.mk (GOp.mk 0 0) 0 ([] : List Xz) ([] : List Int) ([] : List X9) ([] : List Xq) ([] : List X0j) ([] : List Xb)) qh5 a3 0 (by simp) _ _ (nbT (by first | rfl | simp [*])) _ h206 ?_ ?_))
 ·intro X12 X80 Xa2 eo205; subst eo205
  refine Xa.glue ?_
  try dsimp only at h
  rcases Xa2 with ⟨_ | _, Xjl⟩
  ·
   obtain rfl := oj h
   refine Xm tmD [] ?_
   exact X8 rfl (X04 (cc (X0i (cc .sc (cc .sc (cc .sc (cc (.listS rfl) (cc (.listS rfl) (cc (.listS rfl) (cc (.listS rfl) (cc (.listS rfl) (cc (.listS rfl) cn)))))))))) (cc (X1b (es := X80.map Xk) rfl (by first | rfl | (simp; done) | (simp; rfl) | (simp [h3]; done) | (simp [h3]; rfl) | (simp [h3, Ym, Yd]; done) | (simp [h3, Ym, Yd]; rfl)) (by first | rfl | (simp; done) | (simp; omega) | (simp [h3]; done) | (simp [h3]; omega)) (X0 X07 X80)) (cc .sc cn))))
  obtain rfl := Xjl rfl
  obtain rfl := oj h
  refine Xm tmD [] ?_
  exact X8 rfl (X04 (cc (X0i (cc .sc (cc .sc (cc .sc (cc (.listS rfl) (cc (.listS rfl) (cc (.listS rfl) (cc (.listS rfl) (cc (.listS rfl) (cc (.listS rfl) cn)))))))))) (cc (Zn Xk) (cc .sc cn))))
 intro X7z Xa0 eo205; subst eo205
 refine Xa.glue ?_
 try dsimp only at h
 rcases Xa0 with ⟨_ | _, Xjj⟩
 ·
  obtain rfl := oj h
  refine Xm tmD [] ?_
  exact X8 rfl (X04 (cc (X0i (cc .sc (cc .sc (cc .sc (cc (.listS rfl) (cc (.listS rfl) (cc (.listS rfl) (cc (.listS rfl) (cc (.listS rfl) (cc (.listS rfl) cn)))))))))) (cc (X1b (es := X7z.map Xk) rfl (by first | rfl | (simp; done) | (simp; rfl) | (simp [h3]; done) | (simp [h3]; rfl) | (simp [h3, Ym, Yd]; done) | (simp [h3, Ym, Yd]; rfl)) (by first | rfl | (simp; done) | (simp; omega) | (simp [h3]; done) | (simp [h3]; omega)) (X0 X07 X7z)) (cc .sc cn))))
 obtain rfl := Xjj rfl
 obtain rfl := oj h
 refine Xm tmD [] ?_
 exact X8 rfl (X04 (cc (X0i (cc .sc (cc .sc (cc .sc (cc (.listS rfl) (cc (.listS rfl) (cc (.listS rfl) (cc (.listS rfl) (cc (.listS rfl) (cc (.listS rfl) cn)))))))))) (cc (Zn Xk) (cc .sc cn))))
theorem Xd0 {Q : X0d -> St -> Mu -> Prop} {μ : Mu} (X2i : (List X0j)) (Xhg : (List X0j)) (hl : X2i.length <= 140737488355328) : ∀ (xs : List X0j) (k : Nat) (hx : X2i.drop k = xs) (o : X5l) (h : X5m X2i Xhg xs k  = some o)
  (C0 : o = X5l.x0 -> Xa Tryz.prog 26 0 Q (.exit (.exit 0)) [] ⟨fr [], hp ([]), 0⟩ μ)
  (C1 : o = X5l.x1 -> Xa Tryz.prog 26 0 Q (.exit .ret) [] ⟨fr [(4, (aB false))], hp ([]), 0⟩ μ),
  Xa Tryz.prog 26 0 Q (.loop (X7i 0 (X01 Tryz.f14))) [] ⟨fr [(0, (Lf (X2i.map Xk))), (1, (Lf (Xhg.map Xk))), (5, (aI .i64 (k : Int)))], hp ([]), 0⟩ μ := by
 intro xs
 induction xs with
 | nil =>
  intro k hx  o h C0 C1
  have hk := X2m hx
  have hc : decide ((k : Int) < (X2i.length : Int)) = false := Yf (by omega)
  rw [X5m] at h
  refine Xa.round ?_
  obtain rfl := oj h
  refine Xm tmD [.el (aI .i64 (X2i.length : Int)), Bf] ?_
  exact wkT [] (C0  rfl)
 | cons x xs ih =>
  intro k hx  o h C0 C1
  obtain ⟨hk, hg, hx1⟩ := X20 hx
  have hc : decide ((k : Int) < (X2i.length : Int)) = true := Yt (by omega)
  rw [X5m] at h
  refine Xa.round ?_
  refine X3 h ?_
  clear h; intro e11 h12 h
  try have qh12 := X18 h12
  refine brE h ?_ ?_
  ·clear h; intro h13 h
   obtain rfl := oj h
   refine Xm tmD [.el (aI .i64 (X2i.length : Int)), Bt, .el (Xk x), .el (Xk e11), Bt] ?_
   exact wkT [] (C1  rfl)
  clear h; intro h13 h
  refine Xm tmD [.el (aI .i64 (X2i.length : Int)), Bt, .el (Xk x), .el (Xk e11), Bf] ?_
  exact wkT [] (ih (k + 1) hx1  o h C0 C1)
theorem X8v (a0 : (List X0j)) (a1 : (List X0j)) (r : Bool) (h : X74 a0 a1 = some r) : X16 Tryz.prog 14 [(Lf (a0.map Xk)), (Lf (a1.map Xk))] (aB r) := by
 refine X16.sym Xe Xt3 (nt := 26) rfl rfl ?_ (X6 .list (X6 .list X08))
 unfold X74 at h
 refine brE h ?_ ?_
 ·clear h; intro h1 h
  obtain rfl := oj h
  refine Xm tmD [.el (aI .i64 (a0.length : Int)), .el (aI .i64 (a1.length : Int)), Bt] ?_
  exact X8 rfl .sc
 clear h; intro h1 h
 refine X3 h ?_
 clear h; intro u2 h3 h
 have qh3 := X1w h3
 refine X3 h ?_
 clear h; intro o14 h15 h
 refine Xm tmD [.el (aI .i64 (a0.length : Int)), .el (aI .i64 (a1.length : Int)), Bf] ?_
 refine wkT [] (Xa.cut (Xd0 a0 a1 qh3 a0 0 (by simp) _ h15 ?_ ?_))
 ·intro eo14; subst eo14
  refine Xa.glue ?_
  try dsimp only at h
  obtain rfl := oj h
  refine Xm tmD [] ?_
  exact X8 rfl .sc
 intro eo14; subst eo14
 refine Xa.glue ?_
 try dsimp only at h
 obtain rfl := oj h
 refine Xm tmD [] ?_
 exact X8 rfl .sc
end Go.Av.Tryz