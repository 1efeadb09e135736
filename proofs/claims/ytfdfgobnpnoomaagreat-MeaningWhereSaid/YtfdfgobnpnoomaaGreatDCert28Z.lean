/- Printed by decomp.py: that the program computes the functions. -/
import Derived.Test.YtfdfgobnpnoomaaGreatDCert7Z
set_option linter.all false

namespace Go.Av.Tryz
open Go.Proofs Go.D
set_option maxRecDepth 10000
set_option maxHeartbeats 40000000
theorem Xm7 (a0 : Xp) (r : Xp) (h : Xbm a0 = some r) : X19 Tryz.prog 32 [(Xh false a0)] (Xh true r) := by
 refine X19.sym Xg fn32 (nt := 19) rfl rfl ?_ (Xf (X1a false _ _).1 X08)
 unfold Xbm at h
 refine brE h ?_ ?_
 ·clear h; intro q h
  have h1 : a0.Arg = [] := List.isEmpty_iff.1 q
  refine brE h ?_ ?_
  ·clear h; intro q h
   have h2 : a0.Where = [] := List.isEmpty_iff.1 q
   refine brE h ?_ ?_
   ·clear h; intro q h
    have h3 : a0.Sources = [] := List.isEmpty_iff.1 q
    obtain rfl := oj h
    refine Xe tmD [.ne false, .ne false, .ne false] ?_
    exact X6 rfl (X0v (cc .sc (cc (X2l (es := a0.Arg.map X1) (by simp [*])) (cc (X2l (es := List.map (aI .i64) a0.Sources) (by simp [*])) (cc .sc (cc (X2l (es := a0.Where.map X1) (by simp [*])) (cc .sc (cc .sc (cc .sc (cc .sc (cc .sc cn)))))))))))
   clear h; intro q h
   have h3 : ¬ (a0.Sources = []) := (fun e => by rw [e] at q; cases q)
   refine X9 h ?_
   clear h; intro u4 h5 h
   obtain rfl := oj h
   refine rn tmD [.ne false, .ne false, .via (AV.list true (List.map (aI .i64) a0.Sources))] rfl (by repeat' first | refine Ya ?_ ?_ | (refine X0w h5 rfl ?_; first | (simp; done) | (simp; omega) | (simp [h1, h2, h3]; done) | (simp [h1, h2, h3]; omega)) | (refine X0a h5 (by decide) ?_; first | (simp; done) | (simp; omega) | (simp [h1, h2, h3]; done) | (simp [h1, h2, h3]; omega))|exact Xv) ?_
   exact X6 rfl (X0v (cc .sc (cc (X2l (es := a0.Arg.map X1) (by simp [*])) (cc (X0o (es := List.map (aI .i64) a0.Sources) rfl (by first | rfl | (simp; done) | (simp; rfl) | (simp [h1, h2, h3]; done) | (simp [h1, h2, h3]; rfl) | (simp [h1, h2, h3, Ym, Yd]; done) | (simp [h1, h2, h3, Ym, Yd]; rfl)) (by first | rfl | (simp; done) | (simp; omega) | (simp [h1, h2, h3]; done) | (simp [h1, h2, h3]; omega)) (X0 (fun _ => X0e) a0.Sources)) (cc .sc (cc (X2l (es := a0.Where.map X1) (by simp [*])) (cc .sc (cc .sc (cc .sc (cc .sc (cc .sc cn)))))))))))
  clear h; intro q h
  have h2 : ¬ (a0.Where = []) := (fun e => by rw [e] at q; cases q)
  refine X9 h ?_
  clear h; intro u6 h7 h
  refine brE h ?_ ?_
  ·clear h; intro q h
   have h8 : a0.Sources = [] := List.isEmpty_iff.1 q
   obtain rfl := oj h
   refine rn tmD [.ne false, .via (AV.list true (a0.Where.map X1)), .ne false] rfl (by repeat' first | refine Ya ?_ ?_ | (refine X0w h7 rfl ?_; first | (simp; done) | (simp; omega) | (simp [h1, h2, h8]; done) | (simp [h1, h2, h8]; omega)) | (refine X0a h7 (by decide) ?_; first | (simp; done) | (simp; omega) | (simp [h1, h2, h8]; done) | (simp [h1, h2, h8]; omega))|exact Xv) ?_
   exact X6 rfl (X0v (cc .sc (cc (X2l (es := a0.Arg.map X1) (by simp [*])) (cc (X2l (es := List.map (aI .i64) a0.Sources) (by simp [*])) (cc .sc (cc (X0o (es := a0.Where.map X1) rfl (by first | rfl | (simp; done) | (simp; rfl) | (simp [h1, h2, h8]; done) | (simp [h1, h2, h8]; rfl) | (simp [h1, h2, h8, Ym, Yd]; done) | (simp [h1, h2, h8, Ym, Yd]; rfl)) (by first | rfl | (simp; done) | (simp; omega) | (simp [h1, h2, h8]; done) | (simp [h1, h2, h8]; omega)) (X0 X7 a0.Where)) (cc .sc (cc .sc (cc .sc (cc .sc (cc .sc cn)))))))))))
  clear h; intro q h
  have h8 : ¬ (a0.Sources = []) := (fun e => by rw [e] at q; cases q)
  refine X9 h ?_
  clear h; intro u9 h10 h
  obtain rfl := oj h
  refine rn tmD [.ne false, .via (AV.list true (a0.Where.map X1)), .via (AV.list true (List.map (aI .i64) a0.Sources))] rfl (by repeat' first | refine Ya ?_ ?_ | (refine X0w h7 rfl ?_; first | (simp; done) | (simp; omega) | (simp [h1, h2, h8]; done) | (simp [h1, h2, h8]; omega)) | (refine X0a h7 (by decide) ?_; first | (simp; done) | (simp; omega) | (simp [h1, h2, h8]; done) | (simp [h1, h2, h8]; omega)) | (refine X0w h10 rfl ?_; first | (simp; done) | (simp; omega) | (simp [h1, h2, h8]; done) | (simp [h1, h2, h8]; omega)) | (refine X0a h10 (by decide) ?_; first | (simp; done) | (simp; omega) | (simp [h1, h2, h8]; done) | (simp [h1, h2, h8]; omega))|exact Xv) ?_
  exact X6 rfl (X0v (cc .sc (cc (X2l (es := a0.Arg.map X1) (by simp [*])) (cc (X0o (es := List.map (aI .i64) a0.Sources) rfl (by first | rfl | (simp; done) | (simp; rfl) | (simp [h1, h2, h8]; done) | (simp [h1, h2, h8]; rfl) | (simp [h1, h2, h8, Ym, Yd]; done) | (simp [h1, h2, h8, Ym, Yd]; rfl)) (by first | rfl | (simp; done) | (simp; omega) | (simp [h1, h2, h8]; done) | (simp [h1, h2, h8]; omega)) (X0 (fun _ => X0e) a0.Sources)) (cc .sc (cc (X0o (es := a0.Where.map X1) rfl (by first | rfl | (simp; done) | (simp; rfl) | (simp [h1, h2, h8]; done) | (simp [h1, h2, h8]; rfl) | (simp [h1, h2, h8, Ym, Yd]; done) | (simp [h1, h2, h8, Ym, Yd]; rfl)) (by first | rfl | (simp; done) | (simp; omega) | (simp [h1, h2, h8]; done) | (simp [h1, h2, h8]; omega)) (X0 X7 a0.Where)) (cc .sc (cc .sc (cc .sc (cc .sc (cc .sc cn)))))))))))
 clear h; intro q h
 have h1 : ¬ (a0.Arg = []) := (fun e => by rw [e] at q; cases q)
 refine X9 h ?_
 clear h; intro u11 h12 h
 refine brE h ?_ ?_
 ·clear h; intro q h
  have h13 : a0.Where = [] := List.isEmpty_iff.1 q
  refine brE h ?_ ?_
  ·clear h; intro q h
   have h14 : a0.Sources = [] := List.isEmpty_iff.1 q
   obtain rfl := oj h
   refine rn tmD [.via (AV.list true (a0.Arg.map X1)), .ne false, .ne false] rfl (by repeat' first | refine Ya ?_ ?_ | (refine X0w h12 rfl ?_; first | (simp; done) | (simp; omega) | (simp [h1, h13, h14]; done) | (simp [h1, h13, h14]; omega)) | (refine X0a h12 (by decide) ?_; first | (simp; done) | (simp; omega) | (simp [h1, h13, h14]; done) | (simp [h1, h13, h14]; omega))|exact Xv) ?_
   exact X6 rfl (X0v (cc .sc (cc (X0o (es := a0.Arg.map X1) rfl (by first | rfl | (simp; done) | (simp; rfl) | (simp [h1, h13, h14]; done) | (simp [h1, h13, h14]; rfl) | (simp [h1, h13, h14, Ym, Yd]; done) | (simp [h1, h13, h14, Ym, Yd]; rfl)) (by first | rfl | (simp; done) | (simp; omega) | (simp [h1, h13, h14]; done) | (simp [h1, h13, h14]; omega)) (X0 X7 a0.Arg)) (cc (X2l (es := List.map (aI .i64) a0.Sources) (by simp [*])) (cc .sc (cc (X2l (es := a0.Where.map X1) (by simp [*])) (cc .sc (cc .sc (cc .sc (cc .sc (cc .sc cn)))))))))))
  clear h; intro q h
  have h14 : ¬ (a0.Sources = []) := (fun e => by rw [e] at q; cases q)
  refine X9 h ?_
  clear h; intro u15 h16 h
  obtain rfl := oj h
  refine rn tmD [.via (AV.list true (a0.Arg.map X1)), .ne false, .via (AV.list true (List.map (aI .i64) a0.Sources))] rfl (by repeat' first | refine Ya ?_ ?_ | (refine X0w h12 rfl ?_; first | (simp; done) | (simp; omega) | (simp [h1, h13, h14]; done) | (simp [h1, h13, h14]; omega)) | (refine X0a h12 (by decide) ?_; first | (simp; done) | (simp; omega) | (simp [h1, h13, h14]; done) | (simp [h1, h13, h14]; omega)) | (refine X0w h16 rfl ?_; first | (simp; done) | (simp; omega) | (simp [h1, h13, h14]; done) | (simp [h1, h13, h14]; omega)) | (refine X0a h16 (by decide) ?_; first | (simp; done) | (simp; omega) | (simp [h1, h13, h14]; done) | (simp [h1, h13, h14]; omega))|exact Xv) ?_
  exact X6 rfl (X0v (cc .sc (cc (X0o (es := a0.Arg.map X1) rfl (by first | rfl | (simp; done) | (simp; rfl) | (simp [h1, h13, h14]; done) | (simp [h1, h13, h14]; rfl) | (simp [h1, h13, h14, Ym, Yd]; done) | (simp [h1, h13, h14, Ym, Yd]; rfl)) (by first | rfl | (simp; done) | (simp; omega) | (simp [h1, h13, h14]; done) | (simp [h1, h13, h14]; omega)) (X0 X7 a0.Arg)) (cc (X0o (es := List.map (aI .i64) a0.Sources) rfl (by first | rfl | (simp; done) | (simp; rfl) | (simp [h1, h13, h14]; done) | (simp [h1, h13, h14]; rfl) | (simp [h1, h13, h14, Ym, Yd]; done) | (simp [h1, h13, h14, Ym, Yd]; rfl)) (by first | rfl | (simp; done) | (simp; omega) | (simp [h1, h13, h14]; done) | (simp [h1, h13, h14]; omega)) (X0 (fun _ => X0e) a0.Sources)) (cc .sc (cc (X2l (es := a0.Where.map X1) (by simp [*])) (cc .sc (cc .sc (cc .sc (cc .sc (cc .sc cn)))))))))))
 clear h; intro q h
 have h13 : ¬ (a0.Where = []) := (fun e => by rw [e] at q; cases q)
 refine X9 h ?_
 clear h; intro u17 h18 h
 refine brE h ?_ ?_
 ·clear h; intro q h
  have h19 : a0.Sources = [] := List.isEmpty_iff.1 q
  obtain rfl := oj h
  refine rn tmD [.via (AV.list true (a0.Arg.map X1)), .via (AV.list true (a0.Where.map X1)), .ne false] rfl (by repeat' first | refine Ya ?_ ?_ | (refine X0w h12 rfl ?_; first | (simp; done) | (simp; omega) | (simp [h1, h13, h19]; done) | (simp [h1, h13, h19]; omega)) | (refine X0a h12 (by decide) ?_; first | (simp; done) | (simp; omega) | (simp [h1, h13, h19]; done) | (simp [h1, h13, h19]; omega)) | (refine X0w h18 rfl ?_; first | (simp; done) | (simp; omega) | (simp [h1, h13, h19]; done) | (simp [h1, h13, h19]; omega)) | (refine X0a h18 (by decide) ?_; first | (simp; done) | (simp; omega) | (simp [h1, h13, h19]; done) | (simp [h1, h13, h19]; omega))|exact Xv) ?_
  exact X6 rfl (X0v (cc .sc (cc (X0o (es := a0.Arg.map X1) rfl (by first | rfl | (simp; done) | (simp; rfl) | (simp [h1, h13, h19]; done) | (simp [h1, h13, h19]; rfl) | (simp [h1, h13, h19, Ym, Yd]; done) | (simp [h1, h13, h19, Ym, Yd]; rfl)) (by first | rfl | (simp; done) | (simp; omega) | (simp [h1, h13, h19]; done) | (simp [h1, h13, h19]; omega)) (X0 X7 a0.Arg)) (cc (X2l (es := List.map (aI .i64) a0.Sources) (by simp [*])) (cc .sc (cc (X0o (es := a0.Where.map X1) rfl (by first | rfl | (simp; done) | (simp; rfl) | (simp [h1, h13, h19]; done) | (simp [h1, h13, h19]; rfl) | (simp [h1, h13, h19, Ym, Yd]; done) | (simp [h1, h13, h19, Ym, Yd]; rfl)) (by first | rfl | (simp; done) | (simp; omega) | (simp [h1, h13, h19]; done) | (simp [h1, h13, h19]; omega)) (X0 X7 a0.Where)) (cc .sc (cc .sc (cc .sc (cc .sc (cc .sc cn)))))))))))
 clear h; intro q h
 have h19 : ¬ (a0.Sources = []) := (fun e => by rw [e] at q; cases q)
 refine X9 h ?_
 clear h; intro u20 h21 h
 obtain rfl := oj h
 refine rn tmD [.via (AV.list true (a0.Arg.map X1)), .via (AV.list true (a0.Where.map X1)), .via (AV.list true (List.map (aI .i64) a0.Sources))] rfl (by repeat' first | refine Ya ?_ ?_ | (refine X0w h12 rfl ?_; first | (simp; done) | (simp; omega) | (simp [h1, h13, h19]; done) | (simp [h1, h13, h19]; omega)) | (refine X0a h12 (by decide) ?_; first | (simp; done) | (simp; omega) | (simp [h1, h13, h19]; done) | (simp [h1, h13, h19]; omega)) | (refine X0w h18 rfl ?_; first | (simp; done) | (simp; omega) | (simp [h1, h13, h19]; done) | (simp [h1, h13, h19]; omega)) | (refine X0a h18 (by decide) ?_; first | (simp; done) | (simp; omega) | (simp [h1, h13, h19]; done) | (simp [h1, h13, h19]; omega)) | (refine X0w h21 rfl ?_; first | (simp; done) | (simp; omega) | (simp [h1, h13, h19]; done) | (simp [h1, h13, h19]; omega)) | (refine X0a h21 (by decide) ?_; first | (simp; done) | (simp; omega) | (simp [h1, h13, h19]; done) | (simp [h1, h13, h19]; omega))|exact Xv) ?_
 exact X6 rfl (X0v (cc .sc (cc (X0o (es := a0.Arg.map X1) rfl (by first | rfl | (simp; done) | (simp; rfl) | (simp [h1, h13, h19]; done) | (simp [h1, h13, h19]; rfl) | (simp [h1, h13, h19, Ym, Yd]; done) | (simp [h1, h13, h19, Ym, Yd]; rfl)) (by first | rfl | (simp; done) | (simp; omega) | (simp [h1, h13, h19]; done) | (simp [h1, h13, h19]; omega)) (X0 X7 a0.Arg)) (cc (X0o (es := List.map (aI .i64) a0.Sources) rfl (by first | rfl | (simp; done) | (simp; rfl) | (simp [h1, h13, h19]; done) | (simp [h1, h13, h19]; rfl) | (simp [h1, h13, h19, Ym, Yd]; done) | (simp [h1, h13, h19, Ym, Yd]; rfl)) (by first | rfl | (simp; done) | (simp; omega) | (simp [h1, h13, h19]; done) | (simp [h1, h13, h19]; omega)) (X0 (fun _ => X0e) a0.Sources)) (cc .sc (cc (X0o (es := a0.Where.map X1) rfl (by first | rfl | (simp; done) | (simp; rfl) | (simp [h1, h13, h19]; done) | (simp [h1, h13, h19]; rfl) | (simp [h1, h13, h19, Ym, Yd]; done) | (simp [h1, h13, h19, Ym, Yd]; rfl)) (by first | rfl | (simp; done) | (simp; omega) | (simp [h1, h13, h19]; done) | (simp [h1, h13, h19]; omega)) (X0 X7 a0.Where)) (cc .sc (cc .sc (cc .sc (cc .sc (cc .sc cn)))))))))))
theorem X76 {Q : X0d -> St -> Mu -> Prop} {μ : Mu} (Xzf : (List (List Xi))) (X2q : Xp) (y1_5 : Bool) (Xd7 : Xp) (Xnl : (List (List Xi))) (Xze : Int) (Xmd : Nb Xnl) : ∀ (n : Nat) (Xim : (List Xi)) (X8z : Int) (Xe4 : Nb Xim) (o : X53) (h : X1q Xzf X2q y1_5 Xd7 Xnl Xze n Xim X8z = some o)
  (C0 : ∀ (X8y : (List (List Xi))) (X41 : (List Xi)) (X9h : Nb X8y) (X74 : Nb X41), o = X53.x0 X8y X41 -> Xa Tryz.prog 126 0 Q (.exit (.exit 2)) [] ⟨fr [(1, (Lf (List.map (X3e false X4) Xzf))), (2, (AV.ptr 0 0 0)), (5, (aB y1_5)), (6, (AV.ptr 1 0 0)), (7, (slE X9h.1 2 (List.map (X3e true X4) X8y))), (8, (aI .i64 Xze)), (9, (slE X74.1 3 (X41.map X4)))], hp ([(0, Ob [(Xh false X2q)] 10), (1, Ob [(Xh true Xd7)] 10)] ++ opE X9h.1 2 1 (List.map (X3e true X4) X8y) ++ opE X74.1 3 5 (X41.map X4)), 4⟩ μ),
  Xa Tryz.prog 126 0 Q (.loop (X5o 1 (Xt Tryz.f9))) [] ⟨fr [(1, (Lf (List.map (X3e false X4) Xzf))), (2, (AV.ptr 0 0 0)), (5, (aB y1_5)), (6, (AV.ptr 1 0 0)), (7, (slE Xmd.1 2 (List.map (X3e true X4) Xnl))), (8, (aI .i64 Xze)), (9, (slE Xe4.1 3 (Xim.map X4))), (10, (aI .i64 X8z))], hp ([(0, Ob [(Xh false X2q)] 10), (1, Ob [(Xh true Xd7)] 10)] ++ opE Xmd.1 2 1 (List.map (X3e true X4) Xnl) ++ opE Xe4.1 3 5 (Xim.map X4)), 4⟩ μ := by
 intro n
 induction n with
 | zero => intro Xim X8z Xe4 o h C0; cases h
 | succ n ih =>
  intro Xim X8z Xe4 o h C0
  rw [X1q] at h
  rcases Xmd with ⟨_ | _, Xy6⟩
  ·
   rcases Xe4 with ⟨_ | _, Xn0⟩
   ·
    refine Xa.round ?_
    refine X9 h ?_
    clear h; intro e544 h545 h
    try have qh545 := Xz h545
    refine brE h ?_ ?_
    ·clear h; intro h546 h
     refine X9 h ?_
     clear h; intro e547 h548 h
     try have qh548 := Xz h548
     refine X9 h ?_
     clear h; intro v549 h550 h
     refine rn tmD [.el (X3e false X4 e544), .el (aI .i64 (e544.length : Int)), Bt, .el (X3e false X4 e544), .el (X4 e547), .pure [(Lf (X2q.Where.map X1)), (X3 e547.Record)] (AV.tup [(aI .i64 v549.1), (aI .i64 v549.2)]), .el (X3e false X4 e544), .el (X4 e547)] rfl (by repeat' first|apply Ya|exact (pn (X4n _ _ _ h550) (cc (X8 (X0 X7 X2q.Where)) (cc (X1b (x := e547.Record)) cn)))|exact Xv) ?_
     refine brE h ?_ ?_
     ·clear h; intro h551 h
      refine Xe tmD [Bt, .wrap] ?_
      exact wkT [] (ih  _ _ nbF o h C0)
     clear h; intro h551 h
     refine X9 h ?_
     clear h; intro u552 h553 h
     refine rn tmD [Bf, .el (X3e false X4 e544), .el (X4 e547), .no, .wrap] rfl (by repeat' first | refine Ya ?_ ?_ | (refine X0w h553 rfl ?_; first | (simp; done) | (simp; omega) | (simp [h546, h551]; done) | (simp [h546, h551]; omega)) | (refine X0a h553 (by decide) ?_; first | (simp; done) | (simp; omega) | (simp [h546, h551]; done) | (simp [h546, h551]; omega))|exact Xv) ?_
     exact wkT [(3, 21)] (ih  _ _ nbF o h C0)
    clear h; intro h546 h
    obtain rfl := oj h
    refine Xe tmD [.el (X3e false X4 e544), .el (aI .i64 (e544.length : Int)), Bf] ?_
    exact wkT [] (C0 _ _  nbF nbF rfl)
   obtain rfl := Xn0 rfl
   refine Xa.round ?_
   refine X9 h ?_
   clear h; intro e554 h555 h
   try have qh555 := Xz h555
   refine brE h ?_ ?_
   ·clear h; intro h556 h
    refine X9 h ?_
    clear h; intro e557 h558 h
    try have qh558 := Xz h558
    refine X9 h ?_
    clear h; intro v559 h560 h
    refine rn tmD [.el (X3e false X4 e554), .el (aI .i64 (e554.length : Int)), Bt, .el (X3e false X4 e554), .el (X4 e557), .pure [(Lf (X2q.Where.map X1)), (X3 e557.Record)] (AV.tup [(aI .i64 v559.1), (aI .i64 v559.2)]), .el (X3e false X4 e554), .el (X4 e557)] rfl (by repeat' first|apply Ya|exact (pn (X4n _ _ _ h560) (cc (X8 (X0 X7 X2q.Where)) (cc (X1b (x := e557.Record)) cn)))|exact Xv) ?_
    refine brE h ?_ ?_
    ·clear h; intro h561 h
     refine Xe tmD [Bt, .wrap] ?_
     exact wkT [] (ih  _ _ (nbT (by first | rfl | simp [*])) o h C0)
    clear h; intro h561 h
    refine X9 h ?_
    clear h; intro u562 h563 h
    refine rn tmD [Bf, .el (X3e false X4 e554), .el (X4 e557), .no, .wrap] rfl (by repeat' first | refine Ya ?_ ?_ | (refine X0w h563 rfl ?_; first | (simp; done) | (simp; omega) | (simp [h556, h561]; done) | (simp [h556, h561]; omega)) | (refine X0a h563 (by decide) ?_; first | (simp; done) | (simp; omega) | (simp [h556, h561]; done) | (simp [h556, h561]; omega))|exact Xv) ?_
    exact wkT [(3, 21)] (ih  _ _ nbF o h C0)
   clear h; intro h556 h
   obtain rfl := oj h
   refine Xe tmD [.el (X3e false X4 e554), .el (aI .i64 (e554.length : Int)), Bf] ?_
   exact wkT [] (C0 _ _  nbF (nbT (by first | rfl | simp [*])) rfl)
  obtain rfl := Xy6 rfl
  rcases Xe4 with ⟨_ | _, Xn0⟩
  ·
   refine Xa.round ?_
   refine X9 h ?_
   clear h; intro e564 h565 h
   try have qh565 := Xz h565
   refine brE h ?_ ?_
   ·clear h; intro h566 h
    refine X9 h ?_
    clear h; intro e567 h568 h
    try have qh568 := Xz h568
    refine X9 h ?_
    clear h; intro v569 h570 h
    refine rn tmD [.el (X3e false X4 e564), .el (aI .i64 (e564.length : Int)), Bt, .el (X3e false X4 e564), .el (X4 e567), .pure [(Lf (X2q.Where.map X1)), (X3 e567.Record)] (AV.tup [(aI .i64 v569.1), (aI .i64 v569.2)]), .el (X3e false X4 e564), .el (X4 e567)] rfl (by repeat' first|apply Ya|exact (pn (X4n _ _ _ h570) (cc (X8 (X0 X7 X2q.Where)) (cc (X1b (x := e567.Record)) cn)))|exact Xv) ?_
    refine brE h ?_ ?_
    ·clear h; intro h571 h
     refine Xe tmD [Bt, .wrap] ?_
     exact wkT [] (ih  _ _ nbF o h C0)
    clear h; intro h571 h
    refine X9 h ?_
    clear h; intro u572 h573 h
    refine rn tmD [Bf, .el (X3e false X4 e564), .el (X4 e567), .no, .wrap] rfl (by repeat' first | refine Ya ?_ ?_ | (refine X0w h573 rfl ?_; first | (simp; done) | (simp; omega) | (simp [h566, h571]; done) | (simp [h566, h571]; omega)) | (refine X0a h573 (by decide) ?_; first | (simp; done) | (simp; omega) | (simp [h566, h571]; done) | (simp [h566, h571]; omega))|exact Xv) ?_
    exact wkT [(3, 21)] (ih  _ _ nbF o h C0)
   clear h; intro h566 h
   obtain rfl := oj h
   refine Xe tmD [.el (X3e false X4 e564), .el (aI .i64 (e564.length : Int)), Bf] ?_
   exact wkT [] (C0 _ _  (nbT (by first | rfl | simp [*])) nbF rfl)
  obtain rfl := Xn0 rfl
  refine Xa.round ?_
  refine X9 h ?_
  clear h; intro e574 h575 h
  try have qh575 := Xz h575
  refine brE h ?_ ?_
  ·clear h; intro h576 h
   refine X9 h ?_
   clear h; intro e577 h578 h
   try have qh578 := Xz h578
   refine X9 h ?_
   clear h; intro v579 h580 h
   refine rn tmD [.el (X3e false X4 e574), .el (aI .i64 (e574.length : Int)), Bt, .el (X3e false X4 e574), .el (X4 e577), .pure [(Lf (X2q.Where.map X1)), (X3 e577.Record)] (AV.tup [(aI .i64 v579.1), (aI .i64 v579.2)]), .el (X3e false X4 e574), .el (X4 e577)] rfl (by repeat' first|apply Ya|exact (pn (X4n _ _ _ h580) (cc (X8 (X0 X7 X2q.Where)) (cc (X1b (x := e577.Record)) cn)))|exact Xv) ?_
   refine brE h ?_ ?_
   ·clear h; intro h581 h
    refine Xe tmD [Bt, .wrap] ?_
    exact wkT [] (ih  _ _ (nbT (by first | rfl | simp [*])) o h C0)
   clear h; intro h581 h
   refine X9 h ?_
   clear h; intro u582 h583 h
   refine rn tmD [Bf, .el (X3e false X4 e574), .el (X4 e577), .no, .wrap] rfl (by repeat' first | refine Ya ?_ ?_ | (refine X0w h583 rfl ?_; first | (simp; done) | (simp; omega) | (simp [h576, h581]; done) | (simp [h576, h581]; omega)) | (refine X0a h583 (by decide) ?_; first | (simp; done) | (simp; omega) | (simp [h576, h581]; done) | (simp [h576, h581]; omega))|exact Xv) ?_
   exact wkT [(3, 21)] (ih  _ _ nbF o h C0)
  clear h; intro h576 h
  obtain rfl := oj h
  refine Xe tmD [.el (X3e false X4 e574), .el (aI .i64 (e574.length : Int)), Bf] ?_
  exact wkT [] (C0 _ _  (nbT (by first | rfl | simp [*])) (nbT (by first | rfl | simp [*])) rfl)
end Go.Av.Tryz