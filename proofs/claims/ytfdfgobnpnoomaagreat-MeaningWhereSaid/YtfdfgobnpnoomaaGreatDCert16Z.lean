/- Printed by decomp.py: that the program computes the functions. -/
import Derived.Test.YtfdfgobnpnoomaaGreatDCert14Z
import Derived.Test.YtfdfgobnpnoomaaGreatDCert15Z
set_option linter.all false

namespace Go.Av.Tryz
open Go.Proofs Go.D
set_option maxRecDepth 10000
set_option maxHeartbeats 40000000
theorem X8p (a0 : Xp) (a1 : (List (List Xi))) (r : (List X5g) × (List Xj) × Int) (h : X6x a0 a1 = some r) : X19 Tryz.prog 19 [(Xh false a0), (Lf (List.map (X3e false X4) a1))] (AV.tup [(AV.list true (r.1.map Xn)), (AV.list true (r.2.1.map X3)), (aI .i64 r.2.2)]) := by
 refine X19.sym Xg fn19 (nt := 119) rfl rfl ?_ (Xf (X1a false _ _).1 (Xf .list X08))
 unfold X6x at h
 refine X9 h ?_
 clear h; intro v1 h2 h
 refine brE h ?_ ?_
 ·clear h; intro h3 h
  obtain rfl := oj h
  refine rn tmD [.pure [(Xh false a0)] (AV.tup [(aI .i64 v1.1), (aI .i64 v1.2)]), Bt] rfl (by repeat' first|apply Ya|exact (pn (Xdu _ _ h2) (cc (X0v (cc .sc (cc (X8 (X0 X7 a0.Arg)) (cc (X8 (X0 (fun _ => X0e) a0.Sources)) (cc .sc (cc (X8 (X0 X7 a0.Where)) (cc .sc (cc .sc (cc .sc (cc .sc (cc .sc cn))))))))))) cn))|exact Xv) ?_
  exact X6 rfl (Xl (cc (Zn Xn) (cc (Zn X3) (cc .sc cn))))
 clear h; intro h3 h
 refine rn tmD [.pure [(Xh false a0)] (AV.tup [(aI .i64 v1.1), (aI .i64 v1.2)]), Bf, .el (aI .i64 (a1.length : Int)), .el (aI .i64 (a0.Sources.length : Int))] rfl (by repeat' first|apply Ya|exact (pn (Xdu _ _ h2) (cc (X0v (cc .sc (cc (X8 (X0 X7 a0.Arg)) (cc (X8 (X0 (fun _ => X0e) a0.Sources)) (cc .sc (cc (X8 (X0 X7 a0.Where)) (cc .sc (cc .sc (cc .sc (cc .sc (cc .sc cn))))))))))) cn))|exact Xv) ?_
 refine brE h ?_ ?_
 ·clear h; intro h4 h
  obtain rfl := oj h
  refine Xe tmD [Bt] ?_
  exact X6 rfl (Xl (cc (Zn Xn) (cc (Zn X3) (cc .sc cn))))
 clear h; intro h4 h
 refine X9 h ?_
 clear h; intro v5 h6 h
 refine brE h ?_ ?_
 ·clear h; intro h7 h
  obtain rfl := oj h
  refine rn tmD [Bf, .pure [(Lf (List.map (X3e false X4) a1))] (aI .i64 v5), Bt] rfl (by repeat' first|apply Ya|exact (pn (X65 _ _ h6) (cc (X3z (fun _ => rfl) (fun x => X1w (X8 (X0 Xx _))) a1) cn))|exact Xv) ?_
  exact X6 rfl (Xl (cc (Zn Xn) (cc (Zn X3) (cc .sc cn))))
 clear h; intro h7 h
 refine rn tmD [Bf, .pure [(Lf (List.map (X3e false X4) a1))] (aI .i64 v5), Bf, .el (aI .i64 (a1.length : Int))] rfl (by repeat' first|apply Ya|exact (pn (X65 _ _ h6) (cc (X3z (fun _ => rfl) (fun x => X1w (X8 (X0 Xx _))) a1) cn))|exact Xv) ?_
 refine Xa.nilsList 10 true rfl ?_
 refine X9 h ?_
 clear h; intro u8 h9 h
 have qh9 := X11 h9
 refine X9 h ?_
 clear h; intro o647 h648 h
 refine Xe tmD [] ?_
 refine wkT [] (Xa.cut (Xgm a0 a1 qh9 a1 0 (by simp) _ _ (nbT (by first | rfl | simp [*])) _ h648 ?_ ?_))
 ·intro X7b X0m X0z eo647; subst eo647
  refine Xa.glue ?_
  try dsimp only at h
  rcases X0z with ⟨_ | _, X34⟩
  ·
   refine X9 h ?_
   clear h; intro u649 h650 h
   have qh650 := X11 h650
   refine X9 h ?_
   clear h; intro o772 h773 h
   refine Xe tmD [.el (aI .i64 (X7b.length : Int))] ?_
   refine wkT [] (Xa.cut (Xbq a0 X0m X7b nbF qh650 X7b 0 (by simp) _ (nbT (by first | rfl | simp [*])) _ h773 ?_))
   intro Xaz X20 X9g X73 eo772; subst eo772
   refine Xa.glue ?_
   try dsimp only at h
   rcases X9g with ⟨_ | _, Xgr⟩
   ·
    rcases X73 with ⟨_ | _, X8f⟩
    ·
     refine X9 h ?_
     clear h; intro Xf6 h777 h
     refine Xe tmD [] ?_
     refine Xa.joinF (fun (q : Nb Xf6) => ⟨fr [(11, (slE q.1 0 (Xf6.map X3))), (22, (AV.ref 1 0 (X20.length)))], hp ([(1, Ob (X20.map Xn) 5)] ++ opE q.1 0 3 (Xf6.map X3)), 2⟩) ?_ (fun J => Xa.cut ?_)
     ·
      rintro Xsm
      rcases Xsm with ⟨_ | _, Xtc⟩
      ·
       obtain rfl := oj h
       refine Xe tmD [] ?_
       exact X6 rfl (Xl (cc (X0o (es := X20.map Xn) rfl (by first | rfl | (simp; done) | (simp; rfl) | (simp [h3, h4, h7]; done) | (simp [h3, h4, h7]; rfl) | (simp [h3, h4, h7, Ym, Yd]; done) | (simp [h3, h4, h7, Ym, Yd]; rfl)) (by first | rfl | (simp; done) | (simp; omega) | (simp [h3, h4, h7]; done) | (simp [h3, h4, h7]; omega)) (X0 X0y X20)) (cc (X0o (es := Xf6.map X3) rfl (by first | rfl | (simp; done) | (simp; rfl) | (simp [h3, h4, h7]; done) | (simp [h3, h4, h7]; rfl) | (simp [h3, h4, h7, Ym, Yd]; done) | (simp [h3, h4, h7, Ym, Yd]; rfl)) (by first | rfl | (simp; done) | (simp; omega) | (simp [h3, h4, h7]; done) | (simp [h3, h4, h7]; omega)) (X0 X0k Xf6)) (cc .sc cn))))
      obtain rfl := Xtc rfl
      obtain rfl := oj h
      refine Xe tmD [] ?_
      exact X6 rfl (Xl (cc (X0o (es := X20.map Xn) rfl (by first | rfl | (simp; done) | (simp; rfl) | (simp [h3, h4, h7]; done) | (simp [h3, h4, h7]; rfl) | (simp [h3, h4, h7, Ym, Yd]; done) | (simp [h3, h4, h7, Ym, Yd]; rfl)) (by first | rfl | (simp; done) | (simp; omega) | (simp [h3, h4, h7]; done) | (simp [h3, h4, h7]; omega)) (X0 X0y X20)) (cc (Zn X3) (cc .sc cn))))
     clear h
     have h := h777
     refine brE h ?_ ?_
     ·clear h; intro h776 h
      obtain rfl := oj h
      refine Xe tmD [Bt] ?_
      exact wkT [(1, 2)] (Xa.glue (J (nbT (by first | rfl | simp [*]))))
     clear h; intro h776 h
     obtain rfl := oj h
     refine Xe tmD [Bf] ?_
     exact wkT [(0, 1), (1, 2)] (Xa.glue (J nbF))
    obtain rfl := X8f rfl
    refine X9 h ?_
    clear h; intro Xjl h781 h
    refine Xe tmD [] ?_
    refine Xa.joinF (fun (q : Nb Xjl) => ⟨fr [(11, (slE q.1 0 (Xjl.map X3))), (22, AV.nils)], hp ([] ++ opE q.1 0 3 (Xjl.map X3)), 2⟩) ?_ (fun J => Xa.cut ?_)
    ·
     rintro Xsl
     rcases Xsl with ⟨_ | _, Xtb⟩
     ·
      obtain rfl := oj h
      refine Xe tmD [] ?_
      exact X6 rfl (Xl (cc (Zn Xn) (cc (X0o (es := Xjl.map X3) rfl (by first | rfl | (simp; done) | (simp; rfl) | (simp [h3, h4, h7]; done) | (simp [h3, h4, h7]; rfl) | (simp [h3, h4, h7, Ym, Yd]; done) | (simp [h3, h4, h7, Ym, Yd]; rfl)) (by first | rfl | (simp; done) | (simp; omega) | (simp [h3, h4, h7]; done) | (simp [h3, h4, h7]; omega)) (X0 X0k Xjl)) (cc .sc cn))))
     obtain rfl := Xtb rfl
     obtain rfl := oj h
     refine Xe tmD [] ?_
     exact X6 rfl (Xl (cc (Zn Xn) (cc (Zn X3) (cc .sc cn))))
    clear h
    have h := h781
    refine brE h ?_ ?_
    ·clear h; intro h780 h
     obtain rfl := oj h
     refine Xe tmD [Bt] ?_
     exact wkT [] (Xa.glue (J (nbT (by first | rfl | simp [*]))))
    clear h; intro h780 h
    obtain rfl := oj h
    refine Xe tmD [Bf] ?_
    exact wkT [(0, 1)] (Xa.glue (J nbF))
   obtain rfl := Xgr rfl
   rcases X73 with ⟨_ | _, X8f⟩
   ·
    refine X9 h ?_
    clear h; intro Xjk h785 h
    refine Xe tmD [] ?_
    refine Xa.joinF (fun (q : Nb Xjk) => ⟨fr [(11, (slE q.1 0 (Xjk.map X3))), (22, (AV.ref 1 0 (X20.length)))], hp ([(1, Ob (X20.map Xn) 5)] ++ opE q.1 0 3 (Xjk.map X3)), 2⟩) ?_ (fun J => Xa.cut ?_)
    ·
     rintro Xsk
     rcases Xsk with ⟨_ | _, Xta⟩
     ·
      obtain rfl := oj h
      refine Xe tmD [] ?_
      exact X6 rfl (Xl (cc (X0o (es := X20.map Xn) rfl (by first | rfl | (simp; done) | (simp; rfl) | (simp [h3, h4, h7]; done) | (simp [h3, h4, h7]; rfl) | (simp [h3, h4, h7, Ym, Yd]; done) | (simp [h3, h4, h7, Ym, Yd]; rfl)) (by first | rfl | (simp; done) | (simp; omega) | (simp [h3, h4, h7]; done) | (simp [h3, h4, h7]; omega)) (X0 X0y X20)) (cc (X0o (es := Xjk.map X3) rfl (by first | rfl | (simp; done) | (simp; rfl) | (simp [h3, h4, h7]; done) | (simp [h3, h4, h7]; rfl) | (simp [h3, h4, h7, Ym, Yd]; done) | (simp [h3, h4, h7, Ym, Yd]; rfl)) (by first | rfl | (simp; done) | (simp; omega) | (simp [h3, h4, h7]; done) | (simp [h3, h4, h7]; omega)) (X0 X0k Xjk)) (cc .sc cn))))
     obtain rfl := Xta rfl
     obtain rfl := oj h
     refine Xe tmD [] ?_
     exact X6 rfl (Xl (cc (X0o (es := X20.map Xn) rfl (by first | rfl | (simp; done) | (simp; rfl) | (simp [h3, h4, h7]; done) | (simp [h3, h4, h7]; rfl) | (simp [h3, h4, h7, Ym, Yd]; done) | (simp [h3, h4, h7, Ym, Yd]; rfl)) (by first | rfl | (simp; done) | (simp; omega) | (simp [h3, h4, h7]; done) | (simp [h3, h4, h7]; omega)) (X0 X0y X20)) (cc (Zn X3) (cc .sc cn))))
    clear h
    have h := h785
    refine brE h ?_ ?_
    ·clear h; intro h784 h
     obtain rfl := oj h
     refine Xe tmD [Bt] ?_
     exact wkT [(1, 2)] (Xa.glue (J (nbT (by first | rfl | simp [*]))))
    clear h; intro h784 h
    obtain rfl := oj h
    refine Xe tmD [Bf] ?_
    exact wkT [(1, 2)] (Xa.glue (J (nbT (by first | rfl | simp [*]))))
   obtain rfl := X8f rfl
   refine X9 h ?_
   clear h; intro Xjj h789 h
   refine Xe tmD [] ?_
   refine Xa.joinF (fun (q : Nb Xjj) => ⟨fr [(11, (slE q.1 0 (Xjj.map X3))), (22, AV.nils)], hp ([] ++ opE q.1 0 3 (Xjj.map X3)), 2⟩) ?_ (fun J => Xa.cut ?_)
   ·
    rintro Xsj
    rcases Xsj with ⟨_ | _, Xt9⟩
    ·
     obtain rfl := oj h
     refine Xe tmD [] ?_
     exact X6 rfl (Xl (cc (Zn Xn) (cc (X0o (es := Xjj.map X3) rfl (by first | rfl | (simp; done) | (simp; rfl) | (simp [h3, h4, h7]; done) | (simp [h3, h4, h7]; rfl) | (simp [h3, h4, h7, Ym, Yd]; done) | (simp [h3, h4, h7, Ym, Yd]; rfl)) (by first | rfl | (simp; done) | (simp; omega) | (simp [h3, h4, h7]; done) | (simp [h3, h4, h7]; omega)) (X0 X0k Xjj)) (cc .sc cn))))
    obtain rfl := Xt9 rfl
    obtain rfl := oj h
    refine Xe tmD [] ?_
    exact X6 rfl (Xl (cc (Zn Xn) (cc (Zn X3) (cc .sc cn))))
   clear h
   have h := h789
   refine brE h ?_ ?_
   ·clear h; intro h788 h
    obtain rfl := oj h
    refine Xe tmD [Bt] ?_
    exact wkT [] (Xa.glue (J (nbT (by first | rfl | simp [*]))))
   clear h; intro h788 h
   obtain rfl := oj h
   refine Xe tmD [Bf] ?_
   exact wkT [] (Xa.glue (J (nbT (by first | rfl | simp [*]))))
  obtain rfl := X34 rfl
  refine X9 h ?_
  clear h; intro u790 h791 h
  have qh791 := X11 h791
  refine X9 h ?_
  clear h; intro o873 h874 h
  refine Xe tmD [.el (aI .i64 (X7b.length : Int))] ?_
  refine wkT [] (Xa.cut (Xbq a0 ([] : List Xj) X7b (nbT (by first | rfl | simp [*])) qh791 X7b 0 (by simp) _ (nbT (by first | rfl | simp [*])) _ h874 ?_))
  intro Xaz X20 X9g X73 eo873; subst eo873
  refine Xa.glue ?_
  try dsimp only at h
  rcases X9g with ⟨_ | _, Xgr⟩
  ·
   rcases X73 with ⟨_ | _, X8f⟩
   ·
    refine X9 h ?_
    clear h; intro Xji h878 h
    refine Xe tmD [] ?_
    refine Xa.joinF (fun (q : Nb Xji) => ⟨fr [(11, (slE q.1 0 (Xji.map X3))), (22, (AV.ref 1 0 (X20.length)))], hp ([(1, Ob (X20.map Xn) 5)] ++ opE q.1 0 3 (Xji.map X3)), 2⟩) ?_ (fun J => Xa.cut ?_)
    ·
     rintro Xsh
     rcases Xsh with ⟨_ | _, Xt7⟩
     ·
      obtain rfl := oj h
      refine Xe tmD [] ?_
      exact X6 rfl (Xl (cc (X0o (es := X20.map Xn) rfl (by first | rfl | (simp; done) | (simp; rfl) | (simp [h3, h4, h7]; done) | (simp [h3, h4, h7]; rfl) | (simp [h3, h4, h7, Ym, Yd]; done) | (simp [h3, h4, h7, Ym, Yd]; rfl)) (by first | rfl | (simp; done) | (simp; omega) | (simp [h3, h4, h7]; done) | (simp [h3, h4, h7]; omega)) (X0 X0y X20)) (cc (X0o (es := Xji.map X3) rfl (by first | rfl | (simp; done) | (simp; rfl) | (simp [h3, h4, h7]; done) | (simp [h3, h4, h7]; rfl) | (simp [h3, h4, h7, Ym, Yd]; done) | (simp [h3, h4, h7, Ym, Yd]; rfl)) (by first | rfl | (simp; done) | (simp; omega) | (simp [h3, h4, h7]; done) | (simp [h3, h4, h7]; omega)) (X0 X0k Xji)) (cc .sc cn))))
     obtain rfl := Xt7 rfl
     obtain rfl := oj h
     refine Xe tmD [] ?_
     exact X6 rfl (Xl (cc (X0o (es := X20.map Xn) rfl (by first | rfl | (simp; done) | (simp; rfl) | (simp [h3, h4, h7]; done) | (simp [h3, h4, h7]; rfl) | (simp [h3, h4, h7, Ym, Yd]; done) | (simp [h3, h4, h7, Ym, Yd]; rfl)) (by first | rfl | (simp; done) | (simp; omega) | (simp [h3, h4, h7]; done) | (simp [h3, h4, h7]; omega)) (X0 X0y X20)) (cc (Zn X3) (cc .sc cn))))
    clear h
    have h := h878
    refine brE h ?_ ?_
    ·clear h; intro h877 h
     obtain rfl := oj h
     refine Xe tmD [Bt] ?_
     exact wkT [(1, 2)] (Xa.glue (J (nbT (by first | rfl | simp [*]))))
    clear h; intro h877 h
    obtain rfl := oj h
    refine Xe tmD [Bf] ?_
    exact wkT [(0, 1), (1, 2)] (Xa.glue (J nbF))
   obtain rfl := X8f rfl
   refine X9 h ?_
   clear h; intro Xjh h882 h
   refine Xe tmD [] ?_
   refine Xa.joinF (fun (q : Nb Xjh) => ⟨fr [(11, (slE q.1 0 (Xjh.map X3))), (22, AV.nils)], hp ([] ++ opE q.1 0 3 (Xjh.map X3)), 2⟩) ?_ (fun J => Xa.cut ?_)
   ·
    rintro Xsg
    rcases Xsg with ⟨_ | _, Xt6⟩
    ·
     obtain rfl := oj h
     refine Xe tmD [] ?_
     exact X6 rfl (Xl (cc (Zn Xn) (cc (X0o (es := Xjh.map X3) rfl (by first | rfl | (simp; done) | (simp; rfl) | (simp [h3, h4, h7]; done) | (simp [h3, h4, h7]; rfl) | (simp [h3, h4, h7, Ym, Yd]; done) | (simp [h3, h4, h7, Ym, Yd]; rfl)) (by first | rfl | (simp; done) | (simp; omega) | (simp [h3, h4, h7]; done) | (simp [h3, h4, h7]; omega)) (X0 X0k Xjh)) (cc .sc cn))))
    obtain rfl := Xt6 rfl
    obtain rfl := oj h
    refine Xe tmD [] ?_
    exact X6 rfl (Xl (cc (Zn Xn) (cc (Zn X3) (cc .sc cn))))
   clear h
   have h := h882
   refine brE h ?_ ?_
   ·clear h; intro h881 h
    obtain rfl := oj h
    refine Xe tmD [Bt] ?_
    exact wkT [] (Xa.glue (J (nbT (by first | rfl | simp [*]))))
   clear h; intro h881 h
   obtain rfl := oj h
   refine Xe tmD [Bf] ?_
   exact wkT [(0, 1)] (Xa.glue (J nbF))
  obtain rfl := Xgr rfl
  rcases X73 with ⟨_ | _, X8f⟩
  ·
   refine X9 h ?_
   clear h; intro Xjg h886 h
   refine Xe tmD [] ?_
   refine Xa.joinF (fun (q : Nb Xjg) => ⟨fr [(11, (slE q.1 0 (Xjg.map X3))), (22, (AV.ref 1 0 (X20.length)))], hp ([(1, Ob (X20.map Xn) 5)] ++ opE q.1 0 3 (Xjg.map X3)), 2⟩) ?_ (fun J => Xa.cut ?_)
   ·
    rintro Xsf
    rcases Xsf with ⟨_ | _, Xt5⟩
    ·
     obtain rfl := oj h
     refine Xe tmD [] ?_
     exact X6 rfl (Xl (cc (X0o (es := X20.map Xn) rfl (by first | rfl | (simp; done) | (simp; rfl) | (simp [h3, h4, h7]; done) | (simp [h3, h4, h7]; rfl) | (simp [h3, h4, h7, Ym, Yd]; done) | (simp [h3, h4, h7, Ym, Yd]; rfl)) (by first | rfl | (simp; done) | (simp; omega) | (simp [h3, h4, h7]; done) | (simp [h3, h4, h7]; omega)) (X0 X0y X20)) (cc (X0o (es := Xjg.map X3) rfl (by first | rfl | (simp; done) | (simp; rfl) | (simp [h3, h4, h7]; done) | (simp [h3, h4, h7]; rfl) | (simp [h3, h4, h7, Ym, Yd]; done) | (simp [h3, h4, h7, Ym, Yd]; rfl)) (by first | rfl | (simp; done) | (simp; omega) | (simp [h3, h4, h7]; done) | (simp [h3, h4, h7]; omega)) (X0 X0k Xjg)) (cc .sc cn))))
    obtain rfl := Xt5 rfl
    obtain rfl := oj h
    refine Xe tmD [] ?_
    exact X6 rfl (Xl (cc (X0o (es := X20.map Xn) rfl (by first | rfl | (simp; done) | (simp; rfl) | (simp [h3, h4, h7]; done) | (simp [h3, h4, h7]; rfl) | (simp [h3, h4, h7, Ym, Yd]; done) | (simp [h3, h4, h7, Ym, Yd]; rfl)) (by first | rfl | (simp; done) | (simp; omega) | (simp [h3, h4, h7]; done) | (simp [h3, h4, h7]; omega)) (X0 X0y X20)) (cc (Zn X3) (cc .sc cn))))
   clear h
   have h := h886
   refine brE h ?_ ?_
   ·clear h; intro h885 h
    obtain rfl := oj h
    refine Xe tmD [Bt] ?_
    exact wkT [(1, 2)] (Xa.glue (J (nbT (by first | rfl | simp [*]))))
   clear h; intro h885 h
   obtain rfl := oj h
   refine Xe tmD [Bf] ?_
   exact wkT [(1, 2)] (Xa.glue (J (nbT (by first | rfl | simp [*]))))
  obtain rfl := X8f rfl
  refine X9 h ?_
  clear h; intro Xjf h890 h
  refine Xe tmD [] ?_
  refine Xa.joinF (fun (q : Nb Xjf) => ⟨fr [(11, (slE q.1 0 (Xjf.map X3))), (22, AV.nils)], hp ([] ++ opE q.1 0 3 (Xjf.map X3)), 2⟩) ?_ (fun J => Xa.cut ?_)
  ·
   rintro Xse
   rcases Xse with ⟨_ | _, Xt4⟩
   ·
    obtain rfl := oj h
    refine Xe tmD [] ?_
    exact X6 rfl (Xl (cc (Zn Xn) (cc (X0o (es := Xjf.map X3) rfl (by first | rfl | (simp; done) | (simp; rfl) | (simp [h3, h4, h7]; done) | (simp [h3, h4, h7]; rfl) | (simp [h3, h4, h7, Ym, Yd]; done) | (simp [h3, h4, h7, Ym, Yd]; rfl)) (by first | rfl | (simp; done) | (simp; omega) | (simp [h3, h4, h7]; done) | (simp [h3, h4, h7]; omega)) (X0 X0k Xjf)) (cc .sc cn))))
   obtain rfl := Xt4 rfl
   obtain rfl := oj h
   refine Xe tmD [] ?_
   exact X6 rfl (Xl (cc (Zn Xn) (cc (Zn X3) (cc .sc cn))))
  clear h
  have h := h890
  refine brE h ?_ ?_
  ·clear h; intro h889 h
   obtain rfl := oj h
   refine Xe tmD [Bt] ?_
   exact wkT [] (Xa.glue (J (nbT (by first | rfl | simp [*]))))
  clear h; intro h889 h
  obtain rfl := oj h
  refine Xe tmD [Bf] ?_
  exact wkT [] (Xa.glue (J (nbT (by first | rfl | simp [*]))))
 intro X06 X3f Xl3 X0h X4u eo647; subst eo647
 refine Xa.glue ?_
 try dsimp only at h
 rcases X0h with ⟨_ | _, X33⟩
 ·
  rcases X4u with ⟨_ | _, X8j⟩
  ·
   obtain rfl := oj h
   refine Xe tmD [] ?_
   exact X6 rfl (Xl (cc (X0o (es := X06.map Xn) rfl (by first | rfl | (simp; done) | (simp; rfl) | (simp [h3, h4, h7]; done) | (simp [h3, h4, h7]; rfl) | (simp [h3, h4, h7, Ym, Yd]; done) | (simp [h3, h4, h7, Ym, Yd]; rfl)) (by first | rfl | (simp; done) | (simp; omega) | (simp [h3, h4, h7]; done) | (simp [h3, h4, h7]; omega)) (X0 X0y X06)) (cc (X0o (es := X3f.map X3) rfl (by first | rfl | (simp; done) | (simp; rfl) | (simp [h3, h4, h7]; done) | (simp [h3, h4, h7]; rfl) | (simp [h3, h4, h7, Ym, Yd]; done) | (simp [h3, h4, h7, Ym, Yd]; rfl)) (by first | rfl | (simp; done) | (simp; omega) | (simp [h3, h4, h7]; done) | (simp [h3, h4, h7]; omega)) (X0 X0k X3f)) (cc .sc cn))))
  obtain rfl := X8j rfl
  obtain rfl := oj h
  refine Xe tmD [] ?_
  exact X6 rfl (Xl (cc (X0o (es := X06.map Xn) rfl (by first | rfl | (simp; done) | (simp; rfl) | (simp [h3, h4, h7]; done) | (simp [h3, h4, h7]; rfl) | (simp [h3, h4, h7, Ym, Yd]; done) | (simp [h3, h4, h7, Ym, Yd]; rfl)) (by first | rfl | (simp; done) | (simp; omega) | (simp [h3, h4, h7]; done) | (simp [h3, h4, h7]; omega)) (X0 X0y X06)) (cc (Zn X3) (cc .sc cn))))
 obtain rfl := X33 rfl
 rcases X4u with ⟨_ | _, X8j⟩
 ·
  obtain rfl := oj h
  refine Xe tmD [] ?_
  exact X6 rfl (Xl (cc (Zn Xn) (cc (X0o (es := X3f.map X3) rfl (by first | rfl | (simp; done) | (simp; rfl) | (simp [h3, h4, h7]; done) | (simp [h3, h4, h7]; rfl) | (simp [h3, h4, h7, Ym, Yd]; done) | (simp [h3, h4, h7, Ym, Yd]; rfl)) (by first | rfl | (simp; done) | (simp; omega) | (simp [h3, h4, h7]; done) | (simp [h3, h4, h7]; omega)) (X0 X0k X3f)) (cc .sc cn))))
 obtain rfl := X8j rfl
 obtain rfl := oj h
 refine Xe tmD [] ?_
 exact X6 rfl (Xl (cc (Zn Xn) (cc (Zn X3) (cc .sc cn))))
theorem Xjb {Q : X0d -> St -> Mu -> Prop} {μ : Mu} (Xlx : (List Xi)) (hl : Xlx.length <= 140737488355328) : ∀ (xs : List Xi) (k : Nat) (hx : Xlx.drop k = xs) (Xm : Int) (o : Xba) (h : X5x Xlx xs k Xm = some o)
  (C0 : ∀ (Xq : Int), o = Xba.x0 Xq -> Xa Tryz.prog 27 0 Q (.exit (.exit 0)) [] ⟨fr [(5, (AV.fn 105 [(AV.ptr 0 0 0)]))], hp ([(0, Ob [(aI .i64 Xq)] 1)]), 1⟩ μ),
  Xa Tryz.prog 27 0 Q (.loop (X5o 0 (Xt Tryz.f45))) [] ⟨fr [(5, (AV.fn 105 [(AV.ptr 0 0 0)])), (14, (Lf (Xlx.map X4))), (15, (aI .i64 (Xlx.length : Int))), (16, (aI .i64 (k : Int)))], hp ([(0, Ob [(aI .i64 Xm)] 1)]), 1⟩ μ := by
 intro xs
 induction xs with
 | nil =>
  intro k hx Xm o h C0
  have hk := X1u hx
  have hc : decide ((k : Int) < (Xlx.length : Int)) = false := Yf (by omega)
  rw [X5x] at h
  refine Xa.round ?_
  obtain rfl := oj h
  refine Xe tmD [Bf] ?_
  exact wkT [] (C0 _  rfl)
 | cons x xs ih =>
  intro k hx Xm o h C0
  obtain ⟨hk, hg, hx1⟩ := X16 hx
  have hc : decide ((k : Int) < (Xlx.length : Int)) = true := Yt (by omega)
  rw [X5x] at h
  refine Xa.round ?_
  refine Xe tmD [Bt, .el (X4 x)] ?_
  refine Xa.inline Xg Xtq rfl rfl rfl rfl rfl trivial trivial rfl rfl ?_
  refine X9 h ?_
  clear h; intro Xvl h30 h
  refine Xe tmD [] ?_
  refine Xa.join (s' := ⟨fr [(4, (aI .i64 Xm))], hp ([(0, Ob [(aI .i64 Xvl)] 1)]), 2⟩) ?_ (fun J => Xa.cut ?_)
  ·
   refine Xe tmD [] ?_
   refine Xa.back (by intro id h; cases h) rfl ?_
   refine Xe tmD [] ?_
   exact wkT [] (ih (k + 1) hx1 _ o h C0)
  clear h
  have h := h30
  refine brE h ?_ ?_
  ·clear h; intro h29 h
   obtain rfl := oj h
   refine Xe tmD [Bt] ?_
   exact wkT [] (Xa.glue J)
  clear h; intro h29 h
  obtain rfl := oj h
  refine Xe tmD [Bf] ?_
  exact wkT [] (Xa.glue J)
end Go.Av.Tryz