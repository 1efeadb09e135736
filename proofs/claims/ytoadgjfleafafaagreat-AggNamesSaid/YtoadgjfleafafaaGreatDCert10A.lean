/- Printed by decomp.py: that the program computes the functions. -/
import Derived.Test.YtoadgjfleafafaaGreatDCert9A
set_option linter.all false

namespace Go.Av.Tryz
open Go.Proofs Go.D
set_option maxRecDepth 10000
set_option maxHeartbeats 40000000
theorem X7r (a0 : Xn) (a1 : (List Xz)) (r : Xn × Int) (h : X9g a0 a1 = some r) : X16 Tryz.prog 20 [(Xg false a0), (Lf (a1.map Xp))] (AV.tup [(Xg true r.1), (aI .i64 r.2)]) := by
 refine X16.sym Xe Xsx (nt := 33) rfl rfl ?_ (X6 (X32 false _ _).1 (X6 .list X08))
 unfold X9g at h
 refine X3 h ?_
 clear h; intro v1 h2 h
 refine brE h ?_ ?_
 ·clear h; intro h3 h
  obtain rfl := oj h
  refine rn tmD [.pure [(Xg false a0)] (aI .i64 v1), Bt] rfl (by repeat' first|apply Ya|exact (pn (X35 _ _ h2) (cc (X0i (cc .sc (cc .sc (cc .sc (cc (X4 (X0 X0b a0.Pending)) (cc (X4 (X0 (fun _ => X06) a0.Marks)) (cc (X4 (X0 Xl a0.Store)) (cc (X4 (X0 X0a a0.Events)) (cc (X4 (X0 X07 a0.Rows)) (cc (X4 (X0 X03 a0.Late)) cn)))))))))) cn))|exact X00) ?_
  exact X8 rfl (X04 (cc (X0i (cc .sc (cc .sc (cc .sc (cc (Xu (es := List.map Xp ((Xn.mk (GOp.mk 0 0) 0 ([] : List Xz) ([] : List Int) ([] : List X9) ([] : List Xq) ([] : List X0j) ([] : List Xb)).Pending)) (by simp [*])) (cc (Xu (es := List.map (aI .i64) ((Xn.mk (GOp.mk 0 0) 0 ([] : List Xz) ([] : List Int) ([] : List X9) ([] : List Xq) ([] : List X0j) ([] : List Xb)).Marks)) (by simp [*])) (cc (Xu (es := List.map X2 ((Xn.mk (GOp.mk 0 0) 0 ([] : List Xz) ([] : List Int) ([] : List X9) ([] : List Xq) ([] : List X0j) ([] : List Xb)).Store)) (by simp [*])) (cc (Xu (es := List.map Xv ((Xn.mk (GOp.mk 0 0) 0 ([] : List Xz) ([] : List Int) ([] : List X9) ([] : List Xq) ([] : List X0j) ([] : List Xb)).Events)) (by simp [*])) (cc (Xu (es := List.map Xk ((Xn.mk (GOp.mk 0 0) 0 ([] : List Xz) ([] : List Int) ([] : List X9) ([] : List Xq) ([] : List X0j) ([] : List Xb)).Rows)) (by simp [*])) (cc (Xu (es := List.map Xs ((Xn.mk (GOp.mk 0 0) 0 ([] : List Xz) ([] : List Int) ([] : List X9) ([] : List Xq) ([] : List X0j) ([] : List Xb)).Late)) (by simp [*])) cn)))))))))) (cc .sc cn)))
 clear h; intro h3 h
 refine X3 h ?_
 clear h; intro v4 h5 h
 refine brE h ?_ ?_
 ·clear h; intro h6 h
  obtain rfl := oj h
  refine rn tmD [.pure [(Xg false a0)] (aI .i64 v1), Bf, .pure [(Lf (a1.map Xp))] (aB v4), Bt] rfl (by repeat' first|apply Ya|exact (pn (X35 _ _ h2) (cc (X0i (cc .sc (cc .sc (cc .sc (cc (X4 (X0 X0b a0.Pending)) (cc (X4 (X0 (fun _ => X06) a0.Marks)) (cc (X4 (X0 Xl a0.Store)) (cc (X4 (X0 X0a a0.Events)) (cc (X4 (X0 X07 a0.Rows)) (cc (X4 (X0 X03 a0.Late)) cn)))))))))) cn))|exact (pn (X6w _ _ h5) (cc (X4 (X0 X0b a1)) cn))|exact X00) ?_
  exact X8 rfl (X04 (cc (X0i (cc .sc (cc .sc (cc .sc (cc (Xu (es := List.map Xp ((Xn.mk (GOp.mk 0 0) 0 ([] : List Xz) ([] : List Int) ([] : List X9) ([] : List Xq) ([] : List X0j) ([] : List Xb)).Pending)) (by simp [*])) (cc (Xu (es := List.map (aI .i64) ((Xn.mk (GOp.mk 0 0) 0 ([] : List Xz) ([] : List Int) ([] : List X9) ([] : List Xq) ([] : List X0j) ([] : List Xb)).Marks)) (by simp [*])) (cc (Xu (es := List.map X2 ((Xn.mk (GOp.mk 0 0) 0 ([] : List Xz) ([] : List Int) ([] : List X9) ([] : List Xq) ([] : List X0j) ([] : List Xb)).Store)) (by simp [*])) (cc (Xu (es := List.map Xv ((Xn.mk (GOp.mk 0 0) 0 ([] : List Xz) ([] : List Int) ([] : List X9) ([] : List Xq) ([] : List X0j) ([] : List Xb)).Events)) (by simp [*])) (cc (Xu (es := List.map Xk ((Xn.mk (GOp.mk 0 0) 0 ([] : List Xz) ([] : List Int) ([] : List X9) ([] : List Xq) ([] : List X0j) ([] : List Xb)).Rows)) (by simp [*])) (cc (Xu (es := List.map Xs ((Xn.mk (GOp.mk 0 0) 0 ([] : List Xz) ([] : List Int) ([] : List X9) ([] : List Xq) ([] : List X0j) ([] : List Xb)).Late)) (by simp [*])) cn)))))))))) (cc .sc cn)))
 clear h; intro h6 h
 refine rn tmD [.pure [(Xg false a0)] (aI .i64 v1), Bf, .pure [(Lf (a1.map Xp))] (aB v4), Bf, .el (aI .i64 (a1.length : Int)), .el (aI .i64 (a0.Pending.length : Int)), .wrap] rfl (by repeat' first|apply Ya|exact (pn (X35 _ _ h2) (cc (X0i (cc .sc (cc .sc (cc .sc (cc (X4 (X0 X0b a0.Pending)) (cc (X4 (X0 (fun _ => X06) a0.Marks)) (cc (X4 (X0 Xl a0.Store)) (cc (X4 (X0 X0a a0.Events)) (cc (X4 (X0 X07 a0.Rows)) (cc (X4 (X0 X03 a0.Late)) cn)))))))))) cn))|exact (pn (X6w _ _ h5) (cc (X4 (X0 X0b a1)) cn))|exact X00) ?_
 refine brE h ?_ ?_
 ·clear h; intro h7 h
  obtain rfl := oj h
  refine Xm tmD [Bt] ?_
  exact X8 rfl (X04 (cc (X0i (cc .sc (cc .sc (cc .sc (cc (Xu (es := List.map Xp ((Xn.mk (GOp.mk 0 0) 0 ([] : List Xz) ([] : List Int) ([] : List X9) ([] : List Xq) ([] : List X0j) ([] : List Xb)).Pending)) (by simp [*])) (cc (Xu (es := List.map (aI .i64) ((Xn.mk (GOp.mk 0 0) 0 ([] : List Xz) ([] : List Int) ([] : List X9) ([] : List Xq) ([] : List X0j) ([] : List Xb)).Marks)) (by simp [*])) (cc (Xu (es := List.map X2 ((Xn.mk (GOp.mk 0 0) 0 ([] : List Xz) ([] : List Int) ([] : List X9) ([] : List Xq) ([] : List X0j) ([] : List Xb)).Store)) (by simp [*])) (cc (Xu (es := List.map Xv ((Xn.mk (GOp.mk 0 0) 0 ([] : List Xz) ([] : List Int) ([] : List X9) ([] : List Xq) ([] : List X0j) ([] : List Xb)).Events)) (by simp [*])) (cc (Xu (es := List.map Xk ((Xn.mk (GOp.mk 0 0) 0 ([] : List Xz) ([] : List Int) ([] : List X9) ([] : List Xq) ([] : List X0j) ([] : List Xb)).Rows)) (by simp [*])) (cc (Xu (es := List.map Xs ((Xn.mk (GOp.mk 0 0) 0 ([] : List Xz) ([] : List Int) ([] : List X9) ([] : List Xq) ([] : List X0j) ([] : List Xb)).Late)) (by simp [*])) cn)))))))))) (cc .sc cn)))
 clear h; intro h7 h
 refine Xm tmD [Bf] ?_
 refine Xa.inline Xe Xsf rfl rfl rfl rfl rfl trivial trivial rfl rfl ?_
 refine brE h ?_ ?_
 ·clear h; intro q h
  have h32 : a0.Pending = [] := List.isEmpty_iff.1 q
  refine X3 h ?_
  clear h; intro v33 h34 h
  refine X3 h ?_
  clear h; intro v35 h36 h
  refine X3 h ?_
  clear h; intro v37 h38 h
  refine X3 h ?_
  clear h; intro v39 h40 h
  refine X3 h ?_
  clear h; intro v41 h42 h
  refine rn tmD [.pure [(Lf (a0.Pending.map Xp))] AV.nils, .pure [(Lf (List.map (aI .i64) a0.Marks))] (AV.list true (List.map (aI .i64) v33)), .pure [(Lf (a0.Store.map X2))] (AV.list true (v35.map X2)), .pure [(Lf (a0.Events.map Xv))] (AV.list true (v37.map Xv)), .pure [(Lf (a0.Rows.map Xk))] (AV.list true (v39.map Xk)), .pure [(Lf (a0.Late.map Xs))] (AV.list true (v41.map Xs))] rfl (by repeat' first|apply Ya|exact (pn (X7p _ (by simp [*])) (cc (X4 (X0 X0b a0.Pending)) cn))|exact (pn (X3v _ _ h34) (cc (X4 (X0 (fun _ => X06) a0.Marks)) cn))|exact (pn (X3x _ _ h36) (cc (X4 (X0 Xl a0.Store)) cn))|exact (pn (X3w _ _ h38) (cc (X4 (X0 X0a a0.Events)) cn))|exact (pn (X5i _ _ h40) (cc (X4 (X0 X07 a0.Rows)) cn))|exact (pn (X3n _ _ h42) (cc (X4 (X0 X03 a0.Late)) cn))|exact X00) ?_
  refine Xa.back (by intro id h; cases h) rfl ?_
  refine brE h ?_ ?_
  ·clear h; intro q h
   have h43 : a1 = [] := List.isEmpty_iff.1 q
   obtain rfl := oj h
   refine Xm tmD [.ne false] ?_
   exact X8 rfl (X04 (cc (X0i (cc .sc (cc .sc (cc .sc (cc (Xu (es := List.map Xp ((Xn.mk a0.Op a0.Turn a1 v33 v35 v37 v39 v41).Pending)) (by simp [*])) (cc (.listS rfl) (cc (.listS rfl) (cc (.listS rfl) (cc (.listS rfl) (cc (.listS rfl) cn)))))))))) (cc .sc cn)))
  clear h; intro q h
  have h43 : ¬ (a1 = []) := (fun e => by rw [e] at q; cases q)
  refine X3 h ?_
  clear h; intro u44 h45 h
  obtain rfl := oj h
  refine rn tmD [.via (AV.list true (a1.map Xp))] rfl (by repeat' first | refine Ya ?_ ?_ | (refine X2p h45 rfl ?_; first | (simp; done) | (simp; omega) | (simp [h3, h6, h7, h32, h43]; done) | (simp [h3, h6, h7, h32, h43]; omega)) | (refine X1e h45 (by decide) ?_; first | (simp; done) | (simp; omega) | (simp [h3, h6, h7, h32, h43]; done) | (simp [h3, h6, h7, h32, h43]; omega))|exact X00) ?_
  exact X8 rfl (X04 (cc (X0i (cc .sc (cc .sc (cc .sc (cc (X1b (es := List.map Xp ((Xn.mk a0.Op a0.Turn a1 v33 v35 v37 v39 v41).Pending)) rfl (by first | rfl | (simp; done) | (simp; rfl) | (simp [h3, h6, h7, h32, h43]; done) | (simp [h3, h6, h7, h32, h43]; rfl) | (simp [h3, h6, h7, h32, h43, Ym, Yd]; done) | (simp [h3, h6, h7, h32, h43, Ym, Yd]; rfl)) (by first | rfl | (simp; done) | (simp; omega) | (simp [h3, h6, h7, h32, h43]; done) | (simp [h3, h6, h7, h32, h43]; omega)) (X0 X0b ((Xn.mk a0.Op a0.Turn a1 v33 v35 v37 v39 v41).Pending))) (cc (.listS rfl) (cc (.listS rfl) (cc (.listS rfl) (cc (.listS rfl) (cc (.listS rfl) cn)))))))))) (cc .sc cn)))
 clear h; intro q h
 have h32 : ¬ (a0.Pending = []) := (fun e => by rw [e] at q; cases q)
 refine X3 h ?_
 clear h; intro v46 h47 h
 refine X3 h ?_
 clear h; intro v48 h49 h
 refine X3 h ?_
 clear h; intro v50 h51 h
 refine X3 h ?_
 clear h; intro v52 h53 h
 refine X3 h ?_
 clear h; intro v54 h55 h
 refine X3 h ?_
 clear h; intro v56 h57 h
 refine rn tmD [.pure [(Lf (a0.Pending.map Xp))] (AV.list true (v46.map Xp)), .pure [(Lf (List.map (aI .i64) a0.Marks))] (AV.list true (List.map (aI .i64) v48)), .pure [(Lf (a0.Store.map X2))] (AV.list true (v50.map X2)), .pure [(Lf (a0.Events.map Xv))] (AV.list true (v52.map Xv)), .pure [(Lf (a0.Rows.map Xk))] (AV.list true (v54.map Xk)), .pure [(Lf (a0.Late.map Xs))] (AV.list true (v56.map Xs))] rfl (by repeat' first|apply Ya|exact (pn (X83 _ _ h47) (cc (X4 (X0 X0b a0.Pending)) cn))|exact (pn (X3v _ _ h49) (cc (X4 (X0 (fun _ => X06) a0.Marks)) cn))|exact (pn (X3x _ _ h51) (cc (X4 (X0 Xl a0.Store)) cn))|exact (pn (X3w _ _ h53) (cc (X4 (X0 X0a a0.Events)) cn))|exact (pn (X5i _ _ h55) (cc (X4 (X0 X07 a0.Rows)) cn))|exact (pn (X3n _ _ h57) (cc (X4 (X0 X03 a0.Late)) cn))|exact X00) ?_
 refine Xa.back (by intro id h; cases h) rfl ?_
 refine brE h ?_ ?_
 ·clear h; intro q h
  have h58 : a1 = [] := List.isEmpty_iff.1 q
  obtain rfl := oj h
  refine Xm tmD [.ne false] ?_
  exact X8 rfl (X04 (cc (X0i (cc .sc (cc .sc (cc .sc (cc (.listS rfl) (cc (.listS rfl) (cc (.listS rfl) (cc (.listS rfl) (cc (.listS rfl) (cc (.listS rfl) cn)))))))))) (cc .sc cn)))
 clear h; intro q h
 have h58 : ¬ (a1 = []) := (fun e => by rw [e] at q; cases q)
 refine X3 h ?_
 clear h; intro u59 h60 h
 cases h
theorem X9m (a0 : Int) (r : Bool) (h : X7s a0 = some r) : X16 Tryz.prog 45 [(aI .i64 a0)] (aB r) := by
 refine X16.sym Xe Xse (nt := 7) rfl rfl ?_ (X6 .sc X08)
 unfold X7s at h
 refine X3 h ?_
 clear h; intro v1 h2 h
 obtain rfl := oj h
 refine rn tmD [.pure [(Xc (Xt.mk 2 (Xb.mk 0 0 0) a0 (X0j.mk 0 (X14.mk 0 0) (V2.mk 0 0))))] (aI .i64 v1)] rfl (by repeat' first|apply Ya|exact (pn (X1v _ _ h2) (cc (X0h (x := (Xt.mk 2 (Xb.mk 0 0 0) a0 (X0j.mk 0 (X14.mk 0 0) (V2.mk 0 0))))) cn))|exact X00) ?_
 exact X8 rfl .sc
theorem Xbr {Q : X0d -> St -> Mu -> Prop} {μ : Mu} (Xdi : (List Int)) (hl : Xdi.length <= 140737488355328) : ∀ (xs : List Int) (k : Nat) (hx : Xdi.drop k = xs) (o : X4t) (h : X4n Xdi xs k  = some o)
  (C0 : o = X4t.x0 -> Xa Tryz.prog 27 0 Q (.exit (.exit 0)) [] ⟨fr [], hp ([]), 0⟩ μ)
  (C1 : o = X4t.x1 -> Xa Tryz.prog 27 0 Q (.exit .ret) [] ⟨fr [(2, (aI .i64 8))], hp ([]), 0⟩ μ),
  Xa Tryz.prog 27 0 Q (.loop (X7i 0 (X01 Tryz.f48))) [] ⟨fr [(13, (Lf (List.map (aI .i64) Xdi))), (14, (aI .i64 (Xdi.length : Int))), (15, (aI .i64 (k : Int)))], hp ([]), 0⟩ μ := by
 intro xs
 induction xs with
 | nil =>
  intro k hx  o h C0 C1
  have hk := X2m hx
  have hc : decide ((k : Int) < (Xdi.length : Int)) = false := Yf (by omega)
  rw [X4n] at h
  refine Xa.round ?_
  obtain rfl := oj h
  refine Xm tmD [Bf] ?_
  exact wkT [] (C0  rfl)
 | cons x xs ih =>
  intro k hx  o h C0 C1
  obtain ⟨hk, hg, hx1⟩ := X20 hx
  have hc : decide ((k : Int) < (Xdi.length : Int)) = true := Yt (by omega)
  rw [X4n] at h
  refine Xa.round ?_
  refine X3 h ?_
  clear h; intro Xkz h34 h
  refine Xm tmD [Bt, .el (aI .i64 x), .stop 6] ?_
  refine Xa.join (s' := ⟨fr [(13, (Lf (List.map (aI .i64) Xdi))), (14, (aI .i64 (Xdi.length : Int))), (15, (aI .i64 (k : Int))), (25, (aB Xkz))], hp ([]), 0⟩) ?_ (fun J => Xa.cut ?_)
  ·
   refine brE h ?_ ?_
   ·clear h; intro h35 h
    obtain rfl := oj h
    refine Xm tmD [Bt] ?_
    exact wkT [] (C1  rfl)
   clear h; intro h35 h
   refine Xm tmD [Bf] ?_
   exact wkT [] (ih (k + 1) hx1  o h C0 C1)
  clear h
  have h := h34
  refine brE h ?_ ?_
  ·clear h; intro h31 h
   refine X3 h ?_
   clear h; intro v32 h33 h
   obtain rfl := oj h
   refine rn tmD [.go true, .go true, .pure [(aI .i64 x)] (aB v32), .go true] rfl (by repeat' first|apply Ya|exact (pn (X9m _ _ h33) (cc .sc cn))|exact X00) ?_
   exact wkT [] (Xa.glue J)
  clear h; intro h31 h
  obtain rfl := oj h
  refine Xm tmD [.go false, .go false, .go false] ?_
  exact wkT [] (Xa.glue J)
theorem Xag (a0 : (List Int)) (r : Int) (h : Xar a0 = some r) : X16 Tryz.prog 48 [(Lf (List.map (aI .i64) a0))] (aI .i64 r) := by
 refine X16.sym Xe Xsc (nt := 27) rfl rfl ?_ (X6 .list X08)
 unfold Xar at h
 refine X3 h ?_
 clear h; intro Xoa h4 h
 refine Xm tmD [.stop 1] ?_
 refine Xa.join (s' := ⟨fr [(0, (Lf (List.map (aI .i64) a0))), (12, (aB Xoa))], hp ([]), 0⟩) ?_ (fun J => Xa.cut ?_)
 ·
  refine brE h ?_ ?_
  ·clear h; intro h5 h
   obtain rfl := oj h
   refine Xm tmD [Bt] ?_
   exact X8 rfl .sc
  clear h; intro h5 h
  refine X3 h ?_
  clear h; intro u6 h7 h
  have qh7 := X1w h7
  refine X3 h ?_
  clear h; intro o36 h37 h
  refine Xm tmD [Bf, .el (aI .i64 (a0.length : Int))] ?_
  refine wkT [] (Xa.cut (Xbr a0 qh7 a0 0 (by simp) _ h37 ?_ ?_))
  ·intro eo36; subst eo36
   refine Xa.glue ?_
   try dsimp only at h
   obtain rfl := oj h
   refine Xm tmD [] ?_
   exact X8 rfl .sc
  intro eo36; subst eo36
  refine Xa.glue ?_
  try dsimp only at h
  obtain rfl := oj h
  refine Xm tmD [] ?_
  exact X8 rfl .sc
 clear h
 have h := h4
 refine brE h ?_ ?_
 ·clear h; intro h3 h
  obtain rfl := oj h
  refine Xm tmD [.el (aI .i64 (a0.length : Int)), .go false, .go false, .go false] ?_
  exact wkT [] (Xa.glue J)
 clear h; intro h3 h
 obtain rfl := oj h
 refine Xm tmD [.el (aI .i64 (a0.length : Int)), .go true, .go true, .el (aI .i64 (a0.length : Int)), .go true] ?_
 exact wkT [] (Xa.glue J)
theorem X6x {Q : X0d -> St -> Mu -> Prop} {μ : Mu} (X2i : (List Int)) : ∀ (n : Nat) (Xd6 : Int) (Xms : Int) (o : X2y) (h : X2c X2i n Xd6 Xms = some o)
  (C0 : ∀ (Xf1 : Int), o = X2y.x0 Xf1 -> Xa Tryz.prog 25 0 Q (.exit (.exit 0)) [] ⟨fr [(3, (aI .i64 Xf1))], hp ([]), 0⟩ μ),
  Xa Tryz.prog 25 0 Q (.loop (X7i 0 (X01 Tryz.f47))) [] ⟨fr [(0, (Lf (List.map (aI .i64) X2i))), (3, (aI .i64 Xd6)), (4, (aI .i64 Xms))], hp ([]), 0⟩ μ := by
 intro n
 induction n with
 | zero => intro Xd6 Xms o h C0; cases h
 | succ n ih =>
  intro Xd6 Xms o h C0
  rw [X2c] at h
  refine Xa.round ?_
  refine brE h ?_ ?_
  ·clear h; intro h12 h
   refine X3 h ?_
   clear h; intro e13 h14 h
   try have qh14 := X18 h14
   refine Xm tmD [.el (aI .i64 (X2i.length : Int)), Bt, .el (aI .i64 e13), .wrap] ?_
   exact wkT [] (ih  _ _ o h C0)
  clear h; intro h12 h
  obtain rfl := oj h
  refine Xm tmD [.el (aI .i64 (X2i.length : Int)), Bf] ?_
  exact wkT [] (C0 _  rfl)
theorem X4j (a0 : (List Int)) (r : Int) (h : X31 a0 = some r) : X16 Tryz.prog 47 [(Lf (List.map (aI .i64) a0))] (aI .i64 r) := by
 refine X16.sym Xe Xsd (nt := 25) rfl rfl ?_ (X6 .list X08)
 unfold X31 at h
 refine brE h ?_ ?_
 ·clear h; intro h2 h
  cases h
 clear h; intro h2 h
 refine X3 h ?_
 clear h; intro e3 h4 h
 try have qh4 := X18 h4
 refine X3 h ?_
 clear h; intro o15 h16 h
 refine Xm tmD [.el (aI .i64 (a0.length : Int)), Bf, .el (aI .i64 e3)] ?_
 refine wkT [] (Xa.cut (X6x a0 _ _ _ _ h16 ?_))
 intro Xf1 eo15; subst eo15
 refine Xa.glue ?_
 try dsimp only at h
 obtain rfl := oj h
 refine Xm tmD [] ?_
 exact X8 rfl .sc
theorem X3r (a0 : (List Int)) (r : Int × Int) (h : X8u a0 = some r) : X16 Tryz.prog 22 [(Lf (List.map (aI .i64) a0))] (AV.tup [(aI .i64 r.1), (aI .i64 r.2)]) := by
 refine X16.sym Xe Xsv (nt := 12) rfl rfl ?_ (X6 .list X08)
 unfold X8u at h
 refine X3 h ?_
 clear h; intro v1 h2 h
 refine brE h ?_ ?_
 ·clear h; intro h3 h
  obtain rfl := oj h
  refine rn tmD [.pure [(Lf (List.map (aI .i64) a0))] (aI .i64 v1), Bt] rfl (by repeat' first|apply Ya|exact (pn (Xag _ _ h2) (cc (X4 (X0 (fun _ => X06) a0)) cn))|exact X00) ?_
  exact X8 rfl (X04 (cc .sc (cc .sc cn)))
 clear h; intro h3 h
 refine X3 h ?_
 clear h; intro v4 h5 h
 obtain rfl := oj h
 refine rn tmD [.pure [(Lf (List.map (aI .i64) a0))] (aI .i64 v1), Bf, .pure [(Lf (List.map (aI .i64) a0))] (aI .i64 v4)] rfl (by repeat' first|apply Ya|exact (pn (Xag _ _ h2) (cc (X4 (X0 (fun _ => X06) a0)) cn))|exact (pn (X4j _ _ h5) (cc (X4 (X0 (fun _ => X06) a0)) cn))|exact X00) ?_
 exact X8 rfl (X04 (cc .sc (cc .sc cn)))
theorem Xeq (a0 : (List Int)) (a1 : Int) (a2 : Int) (r : (List Int) × Bool × Int) (h : Xaq a0 a1 a2 = some r) : X16 Tryz.prog 21 [(Lf (List.map (aI .i64) a0)), (aI .i64 a1), (aI .i64 a2)] (AV.tup [(AV.list true (List.map (aI .i64) r.1)), (aB r.2.1), (aI .i64 r.2.2)]) := by
 refine X16.sym Xe Xsw (nt := 47) rfl rfl ?_ (X6 .list (X6 .sc (X6 .sc X08)))
 unfold Xaq at h
 refine X3 h ?_
 clear h; intro v1 h2 h
 refine brE h ?_ ?_
 ·clear h; intro h3 h
  obtain rfl := oj h
  refine rn tmD [.pure [(Lf (List.map (aI .i64) a0))] (AV.tup [(aI .i64 v1.1), (aI .i64 v1.2)]), Bt] rfl (by repeat' first|apply Ya|exact (pn (X3r _ _ h2) (cc (X4 (X0 (fun _ => X06) a0)) cn))|exact X00) ?_
  exact X8 rfl (X04 (cc (Zn (aI .i64)) (cc .sc (cc .sc cn))))
 clear h; intro h3 h
 refine X3 h ?_
 clear h; intro Xnv h13 h
 refine rn tmD [.pure [(Lf (List.map (aI .i64) a0))] (AV.tup [(aI .i64 v1.1), (aI .i64 v1.2)]), Bf, .stop 4] rfl (by repeat' first|apply Ya|exact (pn (X3r _ _ h2) (cc (X4 (X0 (fun _ => X06) a0)) cn))|exact X00) ?_
 refine Xa.join (s' := ⟨fr [(0, (Lf (List.map (aI .i64) a0))), (1, (aI .i64 a1)), (2, (aI .i64 a2)), (9, (aI .i64 v1.1)), (30, (aB Xnv))], hp ([]), 0⟩) ?_ (fun J => Xa.cut ?_)
 ·
  refine brE h ?_ ?_
  ·clear h; intro h14 h
   obtain rfl := oj h
   refine Xm tmD [Bt] ?_
   exact X8 rfl (X04 (cc (Zn (aI .i64)) (cc .sc (cc .sc cn))))
  clear h; intro h14 h
  refine X3 h ?_
  clear h; intro X96 h26 h
  refine Xm tmD [Bf] ?_
  refine Xa.joinOpF (fun (q : Nb X96) => ⟨fr [(1, (aI .i64 a1)), (2, (aI .i64 a2)), (9, (aI .i64 v1.1)), (32, (slE q.1 0 (List.map (aI .i64) X96)))], hp ([] ++ opE q.1 0 1 (List.map (aI .i64) X96)), 1⟩) ?_ (fun J => ?_)
  ·
   rintro Xks
   rcases Xks with ⟨_ | _, Xl5⟩
   ·
    refine X3 h ?_
    clear h; intro e27 h28 h
    try have qh28 := X18 h28
    refine X3 h ?_
    clear h; intro v29 h30 h
    obtain rfl := oj h
    refine rn tmD [.el (aI .i64 e27), .ld (aI .i64 e27), .el (aI .i64 e27), .ld (aI .i64 e27), .pure [(Lf (List.map (aI .i64) (List.set X96 (Int.toNat a1) (if a2 > e27 then a2 else e27))))] (aI .i64 v29)] rfl (by repeat' first|apply Ya|exact (List.getElem?_set_self (by have hq := Xa7 h28; simp; omega)).trans rfl|exact (X22.lent (X4j _ _ h30) (cc (X1b (es := List.map (aI .i64) (List.set X96 (Int.toNat a1) (if a2 > e27 then a2 else e27))) rfl (by first | rfl | (simp; done) | (simp; rfl) | (simp [h3, h14]; done) | (simp [h3, h14]; rfl) | (simp [h3, h14, Ym, Yd]; done) | (simp [h3, h14, Ym, Yd]; rfl)) (by first | rfl | (simp; done) | (simp; omega) | (simp [h3, h14]; done) | (simp [h3, h14]; omega)) (X0 (fun _ => X06) (List.set X96 (Int.toNat a1) (if a2 > e27 then a2 else e27)))) cn) .sc)|exact X00) ?_
    exact X8 rfl (X04 (cc (X1b (es := List.map (aI .i64) (List.set X96 (Int.toNat a1) (if a2 > e27 then a2 else e27))) rfl (by first | rfl | (simp; done) | (simp; rfl) | (simp [h3, h14]; done) | (simp [h3, h14]; rfl) | (simp [h3, h14, Ym, Yd]; done) | (simp [h3, h14, Ym, Yd]; rfl)) (by first | rfl | (simp; done) | (simp; omega) | (simp [h3, h14]; done) | (simp [h3, h14]; omega)) (X0 (fun _ => X06) (List.set X96 (Int.toNat a1) (if a2 > e27 then a2 else e27)))) (cc .sc (cc .sc cn))))
   obtain rfl := Xl5 rfl
   refine X3 h ?_
   clear h; intro e31 h32 h
   try have qh32 := X18 h32
   exact absurd (h32) (by simp [X98])
  clear h
  have h := h26
  refine Xa.inline Xe Xr0 rfl rfl rfl rfl rfl trivial trivial rfl rfl ?_
  refine brE h ?_ ?_
  ·clear h; intro q h
   have h21 : a0 = [] := List.isEmpty_iff.1 q
   refine Xm tmD [] ?_
   refine Xa.eqNil Xe (may := true) rfl rfl rfl rfl rfl rfl trivial (by simp [X4k, *]) fun b22 qb22 => ?_
   cases b22
   ·
    obtain rfl := oj h
    refine Xm tmD [Bf, .ne false] ?_
    refine Xa.back (by intro id h; cases h) rfl ?_
    exact wkT [] ((J (nbT (by first | rfl | simp [*]))))
   obtain rfl := oj h
   refine Xm tmD [Bt] ?_
   refine Xa.back (by intro id h; cases h) rfl ?_
   exact wkT [] ((J (nbT (by first | rfl | simp [*]))))
  clear h; intro q h
  have h21 : ¬ (a0 = []) := (fun e => by rw [e] at q; cases q)
  refine Xm tmD [] ?_
  refine Xa.eqNil Xe (may := false) rfl rfl rfl rfl rfl rfl trivial (by simp [X4k, *]) fun b23 qb23 => ?_
  obtain rfl := qb23 rfl
  refine X3 h ?_
  clear h; intro u24 h25 h
  obtain rfl := oj h
  refine rn tmD [Bf, .via (AV.list true (List.map (aI .i64) a0))] rfl (by repeat' first | refine Ya ?_ ?_ | (refine X2p h25 rfl ?_; first | (simp; done) | (simp; omega) | (simp [h3, h14, h21]; done) | (simp [h3, h14, h21]; omega)) | (refine X1e h25 (by decide) ?_; first | (simp; done) | (simp; omega) | (simp [h3, h14, h21]; done) | (simp [h3, h14, h21]; omega))|exact X00) ?_
  refine Xa.back (by intro id h; cases h) rfl ?_
  exact wkT [(0, 1)] ((J nbF))
 clear h
 have h := h13
 refine brE h ?_ ?_
 ·clear h; intro h9 h
  obtain rfl := oj h
  refine rn tmD [.go false, .go false, .go false, .go false, .go false, .go false, .go false] rfl (by repeat' first|apply Ya|exact (pn (X3r _ _ h2) (cc (X4 (X0 (fun _ => X06) a0)) cn))|exact ((Xy h9 rfl))|exact (X0o (Xy h9 rfl))|exact (Xaa (Xy h9 rfl))|exact X00) ?_
  exact wkT [] (Xa.glue J)
 clear h; intro h9 h
 refine brE h ?_ ?_
 ·clear h; intro h10 h
  obtain rfl := oj h
  refine rn tmD [.go true, .go true, .go true, .el (aI .i64 (a0.length : Int)), .go true, .go false, .go false, .go false] rfl (by repeat' first|apply Ya|exact (pn (X3r _ _ h2) (cc (X4 (X0 (fun _ => X06) a0)) cn))|exact ((X1s h9 h10))|exact (X0o (X1s h9 h10))|exact (Xaa (X1s h9 h10))|exact X00) ?_
  exact wkT [] (Xa.glue J)
 clear h; intro h10 h
 refine X3 h ?_
 clear h; intro v11 h12 h
 obtain rfl := oj h
 refine rn tmD [.go true, .go true, .go true, .el (aI .i64 (a0.length : Int)), .go true, .go true, .go true, .pure [(aI .i64 a2)] (aB v11), .go true] rfl (by repeat' first|apply Ya|exact (pn (X3r _ _ h2) (cc (X4 (X0 (fun _ => X06) a0)) cn))|exact ((X1s h9 h10))|exact (X0o (X1s h9 h10))|exact (pn (X9m _ _ h12) (cc .sc cn))|exact (Xiy (X1s h9 h10))|exact X00) ?_
 exact wkT [] (Xa.glue J)
end Go.Av.Tryz