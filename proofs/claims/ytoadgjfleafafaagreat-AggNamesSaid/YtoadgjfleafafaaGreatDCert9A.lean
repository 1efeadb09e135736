/- Printed by decomp.py: that the program computes the functions. -/
import Derived.Test.YtoadgjfleafafaaGreatDCert8A
set_option linter.all false

namespace Go.Av.Tryz
open Go.Proofs Go.D
set_option maxRecDepth 10000
set_option maxHeartbeats 40000000
theorem Xgq (a0 : (List X9)) (a1 : X48) (a2 : Xb) (a3 : Int) (r : (List X9) × Int) (h : Xdp a0 a1 a2 a3 = some r) : X16 Tryz.prog 19 [(Lf (a0.map X2)), (X0k a1), (Xs a2), (aI .i64 a3)] (AV.tup [(AV.list true (r.1.map X2)), (aI .i64 r.2)]) := by
 refine X16.sym Xe Xsy (nt := 112) rfl rfl ?_ (X6 .list (X6 (X3z _ _).1 (X6 (X6m _ _).1 (X6 .sc X08))))
 unfold Xdp at h
 refine X3 h ?_
 clear h; intro v1 h2 h
 refine brE h ?_ ?_
 ·clear h; intro h3 h
  obtain rfl := oj h
  refine rn tmD [.pure [(Lf (a0.map X2))] (aI .i64 v1), Bt] rfl (by repeat' first|apply Ya|exact (pn (X1k _ _ h2) (cc (X4 (X0 Xl a0)) cn))|exact X00) ?_
  exact X8 rfl (X04 (cc (Zn X2) (cc .sc cn)))
 clear h; intro h3 h
 refine X3 h ?_
 clear h; intro v4 h5 h
 refine brE h ?_ ?_
 ·clear h; intro h6 h
  obtain rfl := oj h
  refine rn tmD [.pure [(Lf (a0.map X2))] (aI .i64 v1), Bf, .pure [(X0k a1)] (aI .i64 v4), Bt] rfl (by repeat' first|apply Ya|exact (pn (X1k _ _ h2) (cc (X4 (X0 Xl a0)) cn))|exact (pn (X0n _ _ h5) (cc (X19 (x := a1)) cn))|exact X00) ?_
  exact X8 rfl (X04 (cc (Zn X2) (cc .sc cn)))
 clear h; intro h6 h
 refine brE h ?_ ?_
 ·clear h; intro h7 h
  obtain rfl := oj h
  refine rn tmD [.pure [(Lf (a0.map X2))] (aI .i64 v1), Bf, .pure [(X0k a1)] (aI .i64 v4), Bf, Bt] rfl (by repeat' first|apply Ya|exact (pn (X1k _ _ h2) (cc (X4 (X0 Xl a0)) cn))|exact (pn (X0n _ _ h5) (cc (X19 (x := a1)) cn))|exact X00) ?_
  exact X8 rfl (X04 (cc (Zn X2) (cc .sc cn)))
 clear h; intro h7 h
 refine brE h ?_ ?_
 ·clear h; intro h8 h
  obtain rfl := oj h
  refine rn tmD [.pure [(Lf (a0.map X2))] (aI .i64 v1), Bf, .pure [(X0k a1)] (aI .i64 v4), Bf, Bf, Bt] rfl (by repeat' first|apply Ya|exact (pn (X1k _ _ h2) (cc (X4 (X0 Xl a0)) cn))|exact (pn (X0n _ _ h5) (cc (X19 (x := a1)) cn))|exact X00) ?_
  exact X8 rfl (X04 (cc (Zn X2) (cc .sc cn)))
 clear h; intro h8 h
 refine X3 h ?_
 clear h; intro Xio h18 h
 refine rn tmD [.pure [(Lf (a0.map X2))] (aI .i64 v1), Bf, .pure [(X0k a1)] (aI .i64 v4), Bf, Bf, Bf, .stop 12] rfl (by repeat' first|apply Ya|exact (pn (X1k _ _ h2) (cc (X4 (X0 Xl a0)) cn))|exact (pn (X0n _ _ h5) (cc (X19 (x := a1)) cn))|exact X00) ?_
 refine Xa.join (s' := ⟨fr [(0, (Lf (a0.map X2))), (5, (AV.ptr 0 0 0)), (6, (AV.ptr 1 0 0)), (12, (AV.ptr 2 0 0))], hp ([(0, Ob [(X0k a1)] 3), (1, Ob [(Xs a2)] 3), (2, Ob [(X2 Xio)] 11)]), 3⟩) ?_ (fun J => Xa.cut ?_)
 ·
  refine X3 h ?_
  clear h; intro Xh0 h30 h
  refine Xm tmD [] ?_
  refine Xa.joinOpF (fun (q : Nb Xh0) => ⟨fr [(5, (AV.ptr 0 0 0)), (6, (AV.ptr 1 0 0)), (12, (AV.ptr 2 0 0)), (52, (slE q.1 3 (Xh0.map X2)))], hp ([(0, Ob [(X0k a1)] 3), (1, Ob [(Xs a2)] 3), (2, Ob [(X2 Xio)] 11)] ++ opE q.1 3 11 (Xh0.map X2)), 4⟩) ?_ (fun J => ?_)
  ·
   rintro Xkr
   rcases Xkr with ⟨_ | _, Xl4⟩
   ·
    refine brE h ?_ ?_
    ·clear h; intro h31 h
     cases h
    clear h; intro h31 h
    refine X3 h ?_
    clear h; intro v32 h33 h
    refine brE h ?_ ?_
    ·clear h; intro h34 h
     obtain rfl := oj h
     refine rn tmD [Bf, .pure [(X0k a1), (aI .i64 a2.Time)] (AV.tup [(AV.list true (v32.1.map X1z)), (aI .i64 v32.2)]), Bt] rfl (by repeat' first|apply Ya|exact (pn (X8m _ _ _ h33) (cc (X19 (x := a1)) (cc .sc cn)))|exact X00) ?_
     exact X8 rfl (X04 (cc (Zn X2) (cc .sc cn)))
    clear h; intro h34 h
    refine X3 h ?_
    clear h; intro u35 h36 h
    have qh36 := X1w h36
    refine X3 h ?_
    clear h; intro o458 h459 h
    refine rn tmD [Bf, .pure [(X0k a1), (aI .i64 a2.Time)] (AV.tup [(AV.list true (v32.1.map X1z)), (aI .i64 v32.2)]), Bf, .el (aI .i64 (v32.1.length : Int))] rfl (by repeat' first|apply Ya|exact (pn (X8m _ _ _ h33) (cc (X19 (x := a1)) (cc .sc cn)))|exact X00) ?_
    refine wkT [(0, 2), (1, 3)] (Xa.cut (X9h v32.1 qh36 v32.1 0 (by simp) _ _ nbF _ h459 ?_ ?_))
    ·intro X0u X27 eo458; subst eo458
     refine Xa.glue ?_
     try dsimp only at h
     rcases X27 with ⟨_ | _, X67⟩
     ·
      refine brE h ?_ ?_
      ·clear h; intro h460 h
       obtain rfl := oj h
       refine Xm tmD [.el (aI .i64 (X0u.length : Int)), Bt] ?_
       exact X8 rfl (X04 (cc (Zn X2) (cc .sc cn)))
      clear h; intro h460 h
      obtain rfl := oj h
      refine Xm tmD [.el (aI .i64 (X0u.length : Int)), Bf] ?_
      exact X8 rfl (X04 (cc (X1b (es := X0u.map X2) rfl (by first | rfl | (simp; done) | (simp; rfl) | (simp [h3, h6, h7, h8, h31, h34, h460]; done) | (simp [h3, h6, h7, h8, h31, h34, h460]; rfl) | (simp [h3, h6, h7, h8, h31, h34, h460, Ym, Yd]; done) | (simp [h3, h6, h7, h8, h31, h34, h460, Ym, Yd]; rfl)) (by first | rfl | (simp; done) | (simp; omega) | (simp [h3, h6, h7, h8, h31, h34, h460]; done) | (simp [h3, h6, h7, h8, h31, h34, h460]; omega)) (X0 Xl X0u)) (cc .sc cn)))
     obtain rfl := X67 rfl
     refine brE h ?_ ?_
     ·clear h; intro h461 h
      obtain rfl := oj h
      refine Xm tmD [.el (aI .i64 (List.length ([] : List X9) : Int)), Bt] ?_
      exact X8 rfl (X04 (cc (Zn X2) (cc .sc cn)))
     clear h; intro h461 h
     obtain rfl := oj h
     refine Xm tmD [.el (aI .i64 (List.length ([] : List X9) : Int)), Bf] ?_
     exact X8 rfl (X04 (cc (Zn X2) (cc .sc cn)))
    intro X1i Xdd X25 eo458; subst eo458
    refine Xa.glue ?_
    try dsimp only at h
    rcases X25 with ⟨_ | _, X66⟩
    ·
     obtain rfl := oj h
     refine Xm tmD [] ?_
     exact X8 rfl (X04 (cc (X1b (es := X1i.map X2) rfl (by first | rfl | (simp; done) | (simp; rfl) | (simp [h3, h6, h7, h8, h31, h34]; done) | (simp [h3, h6, h7, h8, h31, h34]; rfl) | (simp [h3, h6, h7, h8, h31, h34, Ym, Yd]; done) | (simp [h3, h6, h7, h8, h31, h34, Ym, Yd]; rfl)) (by first | rfl | (simp; done) | (simp; omega) | (simp [h3, h6, h7, h8, h31, h34]; done) | (simp [h3, h6, h7, h8, h31, h34]; omega)) (X0 Xl X1i)) (cc .sc cn)))
    obtain rfl := X66 rfl
    obtain rfl := oj h
    refine Xm tmD [] ?_
    exact X8 rfl (X04 (cc (Zn X2) (cc .sc cn)))
   obtain rfl := Xl4 rfl
   refine brE h ?_ ?_
   ·clear h; intro h462 h
    cases h
   clear h; intro h462 h
   refine X3 h ?_
   clear h; intro v463 h464 h
   refine brE h ?_ ?_
   ·clear h; intro h465 h
    obtain rfl := oj h
    refine rn tmD [Bf, .pure [(X0k a1), (aI .i64 a2.Time)] (AV.tup [(AV.list true (v463.1.map X1z)), (aI .i64 v463.2)]), Bt] rfl (by repeat' first|apply Ya|exact (pn (X8m _ _ _ h464) (cc (X19 (x := a1)) (cc .sc cn)))|exact X00) ?_
    exact X8 rfl (X04 (cc (Zn X2) (cc .sc cn)))
   clear h; intro h465 h
   refine X3 h ?_
   clear h; intro u466 h467 h
   have qh467 := X1w h467
   refine X3 h ?_
   clear h; intro o749 h750 h
   refine rn tmD [Bf, .pure [(X0k a1), (aI .i64 a2.Time)] (AV.tup [(AV.list true (v463.1.map X1z)), (aI .i64 v463.2)]), Bf, .el (aI .i64 (v463.1.length : Int))] rfl (by repeat' first|apply Ya|exact (pn (X8m _ _ _ h464) (cc (X19 (x := a1)) (cc .sc cn)))|exact X00) ?_
   refine wkT [(0, 2)] (Xa.cut (X9h v463.1 qh467 v463.1 0 (by simp) _ _ (nbT (by first | rfl | simp [*])) _ h750 ?_ ?_))
   ·intro X0u X27 eo749; subst eo749
    refine Xa.glue ?_
    try dsimp only at h
    rcases X27 with ⟨_ | _, X67⟩
    ·
     refine brE h ?_ ?_
     ·clear h; intro h751 h
      obtain rfl := oj h
      refine Xm tmD [.el (aI .i64 (X0u.length : Int)), Bt] ?_
      exact X8 rfl (X04 (cc (Zn X2) (cc .sc cn)))
     clear h; intro h751 h
     obtain rfl := oj h
     refine Xm tmD [.el (aI .i64 (X0u.length : Int)), Bf] ?_
     exact X8 rfl (X04 (cc (X1b (es := X0u.map X2) rfl (by first | rfl | (simp; done) | (simp; rfl) | (simp [h3, h6, h7, h8, h462, h465, h751]; done) | (simp [h3, h6, h7, h8, h462, h465, h751]; rfl) | (simp [h3, h6, h7, h8, h462, h465, h751, Ym, Yd]; done) | (simp [h3, h6, h7, h8, h462, h465, h751, Ym, Yd]; rfl)) (by first | rfl | (simp; done) | (simp; omega) | (simp [h3, h6, h7, h8, h462, h465, h751]; done) | (simp [h3, h6, h7, h8, h462, h465, h751]; omega)) (X0 Xl X0u)) (cc .sc cn)))
    obtain rfl := X67 rfl
    refine brE h ?_ ?_
    ·clear h; intro h752 h
     obtain rfl := oj h
     refine Xm tmD [.el (aI .i64 (List.length ([] : List X9) : Int)), Bt] ?_
     exact X8 rfl (X04 (cc (Zn X2) (cc .sc cn)))
    clear h; intro h752 h
    obtain rfl := oj h
    refine Xm tmD [.el (aI .i64 (List.length ([] : List X9) : Int)), Bf] ?_
    exact X8 rfl (X04 (cc (Zn X2) (cc .sc cn)))
   intro X1i Xdd X25 eo749; subst eo749
   refine Xa.glue ?_
   try dsimp only at h
   rcases X25 with ⟨_ | _, X66⟩
   ·
    obtain rfl := oj h
    refine Xm tmD [] ?_
    exact X8 rfl (X04 (cc (X1b (es := X1i.map X2) rfl (by first | rfl | (simp; done) | (simp; rfl) | (simp [h3, h6, h7, h8, h462, h465]; done) | (simp [h3, h6, h7, h8, h462, h465]; rfl) | (simp [h3, h6, h7, h8, h462, h465, Ym, Yd]; done) | (simp [h3, h6, h7, h8, h462, h465, Ym, Yd]; rfl)) (by first | rfl | (simp; done) | (simp; omega) | (simp [h3, h6, h7, h8, h462, h465]; done) | (simp [h3, h6, h7, h8, h462, h465]; omega)) (X0 Xl X1i)) (cc .sc cn)))
   obtain rfl := X66 rfl
   obtain rfl := oj h
   refine Xm tmD [] ?_
   exact X8 rfl (X04 (cc (Zn X2) (cc .sc cn)))
  clear h
  have h := h30
  refine Xa.inline Xe Xr2 rfl rfl rfl rfl rfl trivial trivial rfl rfl ?_
  refine brE h ?_ ?_
  ·clear h; intro q h
   have h25 : a0 = [] := List.isEmpty_iff.1 q
   refine Xm tmD [] ?_
   refine Xa.eqNil Xe (may := true) rfl rfl rfl rfl rfl rfl trivial (by simp [X4k, *]) fun b26 qb26 => ?_
   cases b26
   ·
    obtain rfl := oj h
    refine Xm tmD [Bf, .ne false] ?_
    refine Xa.back (by intro id h; cases h) rfl ?_
    exact wkT [] ((J (nbT (by first | rfl | simp [*]))))
   obtain rfl := oj h
   refine Xm tmD [Bt] ?_
   refine Xa.back (by intro id h; cases h) rfl ?_
   exact wkT [] ((J (nbT (by first | rfl | simp [*]))))
  clear h; intro q h
  have h25 : ¬ (a0 = []) := (fun e => by rw [e] at q; cases q)
  refine Xm tmD [] ?_
  refine Xa.eqNil Xe (may := false) rfl rfl rfl rfl rfl rfl trivial (by simp [X4k, *]) fun b27 qb27 => ?_
  obtain rfl := qb27 rfl
  refine X3 h ?_
  clear h; intro u28 h29 h
  obtain rfl := oj h
  refine rn tmD [Bf, .via (AV.list true (a0.map X2))] rfl (by repeat' first | refine Ya ?_ ?_ | (refine X2p h29 rfl ?_; first | (simp; done) | (simp; omega) | (simp [h3, h6, h7, h8, h25]; done) | (simp [h3, h6, h7, h8, h25]; omega)) | (refine X1e h29 (by decide) ?_; first | (simp; done) | (simp; omega) | (simp [h3, h6, h7, h8, h25]; done) | (simp [h3, h6, h7, h8, h25]; omega))|exact X00) ?_
  refine Xa.back (by intro id h; cases h) rfl ?_
  exact wkT [(3, 4)] ((J nbF))
 clear h
 have h := h18
 refine X3 h ?_
 clear h; intro v14 h15 h
 refine brE h ?_ ?_
 ·clear h; intro h16 h
  obtain rfl := oj h
  refine rn tmD [.pure [(aI .i64 a2.Value)] (X0g v14), .ix 0] rfl (by repeat' first|apply Ya|exact (pn (X1k _ _ h2) (cc (X4 (X0 Xl a0)) cn))|exact (pn (X0n _ _ h5) (cc (X19 (x := a1)) cn))|exact (pn (Xcl _ _ h15) (cc .sc cn))|exact ((eq_of_beq h16))|exact X00) ?_
  exact wkT [] (Xa.glue J)
 clear h; intro h16 h
 refine brE h ?_ ?_
 ·clear h; intro h17 h
  obtain rfl := oj h
  refine rn tmD [.pure [(aI .i64 a2.Value)] (X0g v14), .ix 1] rfl (by repeat' first|apply Ya|exact (pn (X1k _ _ h2) (cc (X4 (X0 Xl a0)) cn))|exact (pn (X0n _ _ h5) (cc (X19 (x := a1)) cn))|exact (pn (Xcl _ _ h15) (cc .sc cn))|exact ((eq_of_beq h17))|exact X00) ?_
  exact wkT [] (Xa.glue J)
 clear h; intro h17 h
 cases h
theorem X83 (a0 : (List Xz)) (r : (List Xz)) (h : X3u a0 = some r) : X16 Tryz.prog 69 [(Lf (a0.map Xp))] (AV.list true (r.map Xp)) := by
 refine X16.sym Xe Xqz (nt := 8) rfl rfl ?_ (X6 .list X08)
 unfold X3u at h
 refine brE h ?_ ?_
 ·clear h; intro q h
  have h1 : a0 = [] := List.isEmpty_iff.1 q
  refine Xm tmD [] ?_
  refine Xa.eqNil Xe (may := true) rfl rfl rfl rfl rfl rfl trivial (by simp [X4k, *]) fun b2 qb2 => ?_
  cases b2
  ·
   obtain rfl := oj h
   refine Xm tmD [Bf, .ne false] ?_
   exact X8 rfl (Xu (es := a0.map Xp) (by simp [*]))
  obtain rfl := oj h
  refine Xm tmD [Bt] ?_
  exact X8 rfl (Xu (es := a0.map Xp) (by simp [*]))
 clear h; intro q h
 have h1 : ¬ (a0 = []) := (fun e => by rw [e] at q; cases q)
 refine Xm tmD [] ?_
 refine Xa.eqNil Xe (may := false) rfl rfl rfl rfl rfl rfl trivial (by simp [X4k, *]) fun b3 qb3 => ?_
 obtain rfl := qb3 rfl
 refine X3 h ?_
 clear h; intro u4 h5 h
 obtain rfl := oj h
 refine rn tmD [Bf, .via (AV.list true (a0.map Xp))] rfl (by repeat' first | refine Ya ?_ ?_ | (refine X2p h5 rfl ?_; first | (simp; done) | (simp; omega) | (simp [h1]; done) | (simp [h1]; omega)) | (refine X1e h5 (by decide) ?_; first | (simp; done) | (simp; omega) | (simp [h1]; done) | (simp [h1]; omega))|exact X00) ?_
 exact X8 rfl (X1b (es := a0.map Xp) rfl (by first | rfl | (simp; done) | (simp; rfl) | (simp [h1]; done) | (simp [h1]; rfl) | (simp [h1, Ym, Yd]; done) | (simp [h1, Ym, Yd]; rfl)) (by first | rfl | (simp; done) | (simp; omega) | (simp [h1]; done) | (simp [h1]; omega)) (X0 X0b a0))
theorem X7p (a0 : List Xz) (h1 : a0 = []) : X16 Tryz.prog 69 [(Lf (a0.map Xp))] AV.nils := by
 refine X16.sym Xe Xqz (nt := 8) rfl rfl ?_ (X6 .list X08)
 refine Xm tmD [] ?_
 refine Xa.eqNil Xe (may := true) rfl rfl rfl rfl rfl rfl trivial (by simp [X4k, *]) fun b2 qb2 => ?_
 cases b2
 ·
  refine Xm tmD [Bf, .ne false] ?_
  exact X8 rfl .nils0
 refine Xm tmD [Bt] ?_
 exact X8 rfl .nils0
theorem X3v (a0 : (List Int)) (r : (List Int)) (h : X2j a0 = some r) : X16 Tryz.prog 46 [(Lf (List.map (aI .i64) a0))] (AV.list true (List.map (aI .i64) r)) := by
 refine X16.sym Xe Xr0 (nt := 8) rfl rfl ?_ (X6 .list X08)
 unfold X2j at h
 refine brE h ?_ ?_
 ·clear h; intro q h
  have h1 : a0 = [] := List.isEmpty_iff.1 q
  refine Xm tmD [] ?_
  refine Xa.eqNil Xe (may := true) rfl rfl rfl rfl rfl rfl trivial (by simp [X4k, *]) fun b2 qb2 => ?_
  cases b2
  ·
   obtain rfl := oj h
   refine Xm tmD [Bf, .ne false] ?_
   exact X8 rfl (Xu (es := List.map (aI .i64) a0) (by simp [*]))
  obtain rfl := oj h
  refine Xm tmD [Bt] ?_
  exact X8 rfl (Xu (es := List.map (aI .i64) a0) (by simp [*]))
 clear h; intro q h
 have h1 : ¬ (a0 = []) := (fun e => by rw [e] at q; cases q)
 refine Xm tmD [] ?_
 refine Xa.eqNil Xe (may := false) rfl rfl rfl rfl rfl rfl trivial (by simp [X4k, *]) fun b3 qb3 => ?_
 obtain rfl := qb3 rfl
 refine X3 h ?_
 clear h; intro u4 h5 h
 obtain rfl := oj h
 refine rn tmD [Bf, .via (AV.list true (List.map (aI .i64) a0))] rfl (by repeat' first | refine Ya ?_ ?_ | (refine X2p h5 rfl ?_; first | (simp; done) | (simp; omega) | (simp [h1]; done) | (simp [h1]; omega)) | (refine X1e h5 (by decide) ?_; first | (simp; done) | (simp; omega) | (simp [h1]; done) | (simp [h1]; omega))|exact X00) ?_
 exact X8 rfl (X1b (es := List.map (aI .i64) a0) rfl (by first | rfl | (simp; done) | (simp; rfl) | (simp [h1]; done) | (simp [h1]; rfl) | (simp [h1, Ym, Yd]; done) | (simp [h1, Ym, Yd]; rfl)) (by first | rfl | (simp; done) | (simp; omega) | (simp [h1]; done) | (simp [h1]; omega)) (X0 (fun _ => X06) a0))
theorem X3x (a0 : (List X9)) (r : (List X9)) (h : X2l a0 = some r) : X16 Tryz.prog 39 [(Lf (a0.map X2))] (AV.list true (r.map X2)) := by
 refine X16.sym Xe Xr2 (nt := 8) rfl rfl ?_ (X6 .list X08)
 unfold X2l at h
 refine brE h ?_ ?_
 ·clear h; intro q h
  have h1 : a0 = [] := List.isEmpty_iff.1 q
  refine Xm tmD [] ?_
  refine Xa.eqNil Xe (may := true) rfl rfl rfl rfl rfl rfl trivial (by simp [X4k, *]) fun b2 qb2 => ?_
  cases b2
  ·
   obtain rfl := oj h
   refine Xm tmD [Bf, .ne false] ?_
   exact X8 rfl (Xu (es := a0.map X2) (by simp [*]))
  obtain rfl := oj h
  refine Xm tmD [Bt] ?_
  exact X8 rfl (Xu (es := a0.map X2) (by simp [*]))
 clear h; intro q h
 have h1 : ¬ (a0 = []) := (fun e => by rw [e] at q; cases q)
 refine Xm tmD [] ?_
 refine Xa.eqNil Xe (may := false) rfl rfl rfl rfl rfl rfl trivial (by simp [X4k, *]) fun b3 qb3 => ?_
 obtain rfl := qb3 rfl
 refine X3 h ?_
 clear h; intro u4 h5 h
 obtain rfl := oj h
 refine rn tmD [Bf, .via (AV.list true (a0.map X2))] rfl (by repeat' first | refine Ya ?_ ?_ | (refine X2p h5 rfl ?_; first | (simp; done) | (simp; omega) | (simp [h1]; done) | (simp [h1]; omega)) | (refine X1e h5 (by decide) ?_; first | (simp; done) | (simp; omega) | (simp [h1]; done) | (simp [h1]; omega))|exact X00) ?_
 exact X8 rfl (X1b (es := a0.map X2) rfl (by first | rfl | (simp; done) | (simp; rfl) | (simp [h1]; done) | (simp [h1]; rfl) | (simp [h1, Ym, Yd]; done) | (simp [h1, Ym, Yd]; rfl)) (by first | rfl | (simp; done) | (simp; omega) | (simp [h1]; done) | (simp [h1]; omega)) (X0 Xl a0))
theorem X3w (a0 : (List Xq)) (r : (List Xq)) (h : X2k a0 = some r) : X16 Tryz.prog 70 [(Lf (a0.map Xv))] (AV.list true (r.map Xv)) := by
 refine X16.sym Xe Xrz (nt := 8) rfl rfl ?_ (X6 .list X08)
 unfold X2k at h
 refine brE h ?_ ?_
 ·clear h; intro q h
  have h1 : a0 = [] := List.isEmpty_iff.1 q
  refine Xm tmD [] ?_
  refine Xa.eqNil Xe (may := true) rfl rfl rfl rfl rfl rfl trivial (by simp [X4k, *]) fun b2 qb2 => ?_
  cases b2
  ·
   obtain rfl := oj h
   refine Xm tmD [Bf, .ne false] ?_
   exact X8 rfl (Xu (es := a0.map Xv) (by simp [*]))
  obtain rfl := oj h
  refine Xm tmD [Bt] ?_
  exact X8 rfl (Xu (es := a0.map Xv) (by simp [*]))
 clear h; intro q h
 have h1 : ¬ (a0 = []) := (fun e => by rw [e] at q; cases q)
 refine Xm tmD [] ?_
 refine Xa.eqNil Xe (may := false) rfl rfl rfl rfl rfl rfl trivial (by simp [X4k, *]) fun b3 qb3 => ?_
 obtain rfl := qb3 rfl
 refine X3 h ?_
 clear h; intro u4 h5 h
 obtain rfl := oj h
 refine rn tmD [Bf, .via (AV.list true (a0.map Xv))] rfl (by repeat' first | refine Ya ?_ ?_ | (refine X2p h5 rfl ?_; first | (simp; done) | (simp; omega) | (simp [h1]; done) | (simp [h1]; omega)) | (refine X1e h5 (by decide) ?_; first | (simp; done) | (simp; omega) | (simp [h1]; done) | (simp [h1]; omega))|exact X00) ?_
 exact X8 rfl (X1b (es := a0.map Xv) rfl (by first | rfl | (simp; done) | (simp; rfl) | (simp [h1]; done) | (simp [h1]; rfl) | (simp [h1, Ym, Yd]; done) | (simp [h1, Ym, Yd]; rfl)) (by first | rfl | (simp; done) | (simp; omega) | (simp [h1]; done) | (simp [h1]; omega)) (X0 X0a a0))
theorem X5i (a0 : (List X0j)) (r : (List X0j)) (h : X3g a0 = some r) : X16 Tryz.prog 71 [(Lf (a0.map Xk))] (AV.list true (r.map Xk)) := by
 refine X16.sym Xe Xry (nt := 8) rfl rfl ?_ (X6 .list X08)
 unfold X3g at h
 refine brE h ?_ ?_
 ·clear h; intro q h
  have h1 : a0 = [] := List.isEmpty_iff.1 q
  refine Xm tmD [] ?_
  refine Xa.eqNil Xe (may := true) rfl rfl rfl rfl rfl rfl trivial (by simp [X4k, *]) fun b2 qb2 => ?_
  cases b2
  ·
   obtain rfl := oj h
   refine Xm tmD [Bf, .ne false] ?_
   exact X8 rfl (Xu (es := a0.map Xk) (by simp [*]))
  obtain rfl := oj h
  refine Xm tmD [Bt] ?_
  exact X8 rfl (Xu (es := a0.map Xk) (by simp [*]))
 clear h; intro q h
 have h1 : ¬ (a0 = []) := (fun e => by rw [e] at q; cases q)
 refine Xm tmD [] ?_
 refine Xa.eqNil Xe (may := false) rfl rfl rfl rfl rfl rfl trivial (by simp [X4k, *]) fun b3 qb3 => ?_
 obtain rfl := qb3 rfl
 refine X3 h ?_
 clear h; intro u4 h5 h
 obtain rfl := oj h
 refine rn tmD [Bf, .via (AV.list true (a0.map Xk))] rfl (by repeat' first | refine Ya ?_ ?_ | (refine X2p h5 rfl ?_; first | (simp; done) | (simp; omega) | (simp [h1]; done) | (simp [h1]; omega)) | (refine X1e h5 (by decide) ?_; first | (simp; done) | (simp; omega) | (simp [h1]; done) | (simp [h1]; omega))|exact X00) ?_
 exact X8 rfl (X1b (es := a0.map Xk) rfl (by first | rfl | (simp; done) | (simp; rfl) | (simp [h1]; done) | (simp [h1]; rfl) | (simp [h1, Ym, Yd]; done) | (simp [h1, Ym, Yd]; rfl)) (by first | rfl | (simp; done) | (simp; omega) | (simp [h1]; done) | (simp [h1]; omega)) (X0 X07 a0))
theorem X3n (a0 : (List Xb)) (r : (List Xb)) (h : X2a a0 = some r) : X16 Tryz.prog 72 [(Lf (a0.map Xs))] (AV.list true (r.map Xs)) := by
 refine X16.sym Xe Xrx (nt := 8) rfl rfl ?_ (X6 .list X08)
 unfold X2a at h
 refine brE h ?_ ?_
 ·clear h; intro q h
  have h1 : a0 = [] := List.isEmpty_iff.1 q
  refine Xm tmD [] ?_
  refine Xa.eqNil Xe (may := true) rfl rfl rfl rfl rfl rfl trivial (by simp [X4k, *]) fun b2 qb2 => ?_
  cases b2
  ·
   obtain rfl := oj h
   refine Xm tmD [Bf, .ne false] ?_
   exact X8 rfl (Xu (es := a0.map Xs) (by simp [*]))
  obtain rfl := oj h
  refine Xm tmD [Bt] ?_
  exact X8 rfl (Xu (es := a0.map Xs) (by simp [*]))
 clear h; intro q h
 have h1 : ¬ (a0 = []) := (fun e => by rw [e] at q; cases q)
 refine Xm tmD [] ?_
 refine Xa.eqNil Xe (may := false) rfl rfl rfl rfl rfl rfl trivial (by simp [X4k, *]) fun b3 qb3 => ?_
 obtain rfl := qb3 rfl
 refine X3 h ?_
 clear h; intro u4 h5 h
 obtain rfl := oj h
 refine rn tmD [Bf, .via (AV.list true (a0.map Xs))] rfl (by repeat' first | refine Ya ?_ ?_ | (refine X2p h5 rfl ?_; first | (simp; done) | (simp; omega) | (simp [h1]; done) | (simp [h1]; omega)) | (refine X1e h5 (by decide) ?_; first | (simp; done) | (simp; omega) | (simp [h1]; done) | (simp [h1]; omega))|exact X00) ?_
 exact X8 rfl (X1b (es := a0.map Xs) rfl (by first | rfl | (simp; done) | (simp; rfl) | (simp [h1]; done) | (simp [h1]; rfl) | (simp [h1, Ym, Yd]; done) | (simp [h1, Ym, Yd]; rfl)) (by first | rfl | (simp; done) | (simp; omega) | (simp [h1]; done) | (simp [h1]; omega)) (X0 X03 a0))
end Go.Av.Tryz