/- Printed by decomp.py: that the program computes the functions. -/
import Derived.Test.YtfdfgobnpnoomaaGreatDCert13Z
set_option linter.all false

namespace Go.Av.Tryz
open Go.Proofs Go.D
set_option maxRecDepth 10000
set_option maxHeartbeats 40000000
theorem Xbq {Q : X0d -> St -> Mu -> Prop} {μ : Mu} (X3c : Xp) (Xfa : (List Xj)) (Xd6 : (List Xb)) (Xic : Nb Xfa) (hl : Xd6.length <= 140737488355328) : ∀ (xs : List Xb) (k : Nat) (hx : Xd6.drop k = xs) (Xey : (List X5g)) (Xas : Nb Xey) (o : X92) (h : X3n X3c Xfa Xd6 xs k Xey = some o)
  (C0 : ∀ (Xaz : (List Xj)) (X20 : (List X5g)) (X9g : Nb Xaz) (X73 : Nb X20), o = X92.x0 Xaz X20 -> Xa Tryz.prog 119 0 Q (.exit (.exit 4)) [] ⟨fr [(2, (AV.ptr 0 0 0)), (11, (slE X9g.1 1 (Xaz.map X3))), (22, (slE X73.1 2 (X20.map Xn)))], hp ([(0, Ob [(Xh false X3c)] 10)] ++ opE X9g.1 1 3 (Xaz.map X3) ++ opE X73.1 2 5 (X20.map Xn)), 3⟩ μ),
  Xa Tryz.prog 119 0 Q (.loop (X5o 2 (Xt Tryz.f19))) [] ⟨fr [(2, (AV.ptr 0 0 0)), (11, (slE Xic.1 1 (Xfa.map X3))), (22, (slE Xas.1 2 (Xey.map Xn))), (96, (AV.list true (Xd6.map X2))), (97, (aI .i64 (Xd6.length : Int))), (98, (aI .i64 (k : Int)))], hp ([(0, Ob [(Xh false X3c)] 10)] ++ opE Xic.1 1 3 (Xfa.map X3) ++ opE Xas.1 2 5 (Xey.map Xn)), 3⟩ μ := by
 intro xs
 induction xs with
 | nil =>
  intro k hx Xey Xas o h C0
  have hk := X1u hx
  have hc : decide ((k : Int) < (Xd6.length : Int)) = false := Yf (by omega)
  rw [X3n] at h
  rcases Xic with ⟨_ | _, Xmz⟩
  ·
   rcases Xas with ⟨_ | _, Xcn⟩
   ·
    refine Xa.round ?_
    obtain rfl := oj h
    refine Xe tmD [Bf] ?_
    exact wkT [] (C0 _ _  nbF nbF rfl)
   obtain rfl := Xcn rfl
   refine Xa.round ?_
   obtain rfl := oj h
   refine Xe tmD [Bf] ?_
   exact wkT [] (C0 _ _  nbF (nbT (by first | rfl | simp [*])) rfl)
  ·
   obtain rfl := Xmz rfl
   rcases Xas with ⟨_ | _, Xcn⟩
   ·
    refine Xa.round ?_
    obtain rfl := oj h
    refine Xe tmD [Bf] ?_
    exact wkT [] (C0 _ _  (nbT (by first | rfl | simp [*])) nbF rfl)
   ·
    obtain rfl := Xcn rfl
    refine Xa.round ?_
    obtain rfl := oj h
    refine Xe tmD [Bf] ?_
    exact wkT [] (C0 _ _  (nbT (by first | rfl | simp [*])) (nbT (by first | rfl | simp [*])) rfl)
 | cons x xs ih =>
  intro k hx Xey Xas o h C0
  obtain ⟨hk, hg, hx1⟩ := X16 hx
  have hc : decide ((k : Int) < (Xd6.length : Int)) = true := Yt (by omega)
  rw [X3n] at h
  rcases Xic with ⟨_ | _, Xmz⟩
  ·
   rcases Xas with ⟨_ | _, Xcn⟩
   ·
    refine Xa.round ?_
    refine X9 h ?_
    clear h; intro v732 h733 h
    refine X9 h ?_
    clear h; intro Xjm h741 h
    refine rn tmD [Bt, .el (X2 x), .pure [(Xh false X3c), (X2 x)] (AV.tup [(Xn v732.1), (aB v732.2)])] rfl (by repeat' first|apply Ya|exact (pn (X1z _ _ _ h733) (cc (X0v (cc .sc (cc (X8 (X0 X7 X3c.Arg)) (cc (X8 (X0 (fun _ => X0e) X3c.Sources)) (cc .sc (cc (X8 (X0 X7 X3c.Where)) (cc .sc (cc .sc (cc .sc (cc .sc (cc .sc cn))))))))))) (cc (X0t (x := x)) cn)))|exact Xv) ?_
    refine Xa.joinF (fun (q : Nb Xjm) => ⟨fr [(2, (AV.ptr 0 0 0)), (11, (AV.ref 1 0 (Xfa.length))), (22, (slE q.1 2 (Xjm.map Xn))), (96, (AV.list true (Xd6.map X2))), (97, (aI .i64 (Xd6.length : Int))), (98, (aI .i64 (k : Int)))], hp ([(0, Ob [(Xh false X3c)] 10), (1, Ob (Xfa.map X3) 3)] ++ opE q.1 2 5 (Xjm.map Xn)), 3⟩) ?_ (fun J => Xa.cut ?_)
    ·
     rintro Xsq
     rcases Xsq with ⟨_ | _, Xtg⟩
     ·
      refine Xe tmD [] ?_
      exact wkT [] (ih (k + 1) hx1 _ nbF o h C0)
     obtain rfl := Xtg rfl
     refine Xe tmD [] ?_
     exact wkT [] (ih (k + 1) hx1 _ (nbT (by first | rfl | simp [*])) o h C0)
    clear h
    have h := h741
    refine brE h ?_ ?_
    ·clear h; intro h738 h
     refine X9 h ?_
     clear h; intro u739 h740 h
     obtain rfl := oj h
     refine rn tmD [Bt, .no] rfl (by repeat' first|apply Ya|exact (pn (X1z _ _ _ h733) (cc (X0v (cc .sc (cc (X8 (X0 X7 X3c.Arg)) (cc (X8 (X0 (fun _ => X0e) X3c.Sources)) (cc .sc (cc (X8 (X0 X7 X3c.Where)) (cc .sc (cc .sc (cc .sc (cc .sc (cc .sc cn))))))))))) (cc (X0t (x := x)) cn))) | (refine X0w h740 rfl ?_; first | (simp; done) | (simp; omega) | (simp [hc, h738]; done) | (simp [hc, h738]; omega)) | (refine X0a h740 (by decide) ?_; first | (simp; done) | (simp; omega) | (simp [hc, h738]; done) | (simp [hc, h738]; omega))|exact Xv) ?_
     exact wkT [(2, 6)] (Xa.glue (J nbF))
    clear h; intro h738 h
    obtain rfl := oj h
    refine rn tmD [Bf] rfl (by repeat' first|apply Ya|exact (pn (X1z _ _ _ h733) (cc (X0v (cc .sc (cc (X8 (X0 X7 X3c.Arg)) (cc (X8 (X0 (fun _ => X0e) X3c.Sources)) (cc .sc (cc (X8 (X0 X7 X3c.Where)) (cc .sc (cc .sc (cc .sc (cc .sc (cc .sc cn))))))))))) (cc (X0t (x := x)) cn)))|exact Xv) ?_
    exact wkT [] (Xa.glue (J nbF))
   obtain rfl := Xcn rfl
   refine Xa.round ?_
   refine X9 h ?_
   clear h; intro v742 h743 h
   refine X9 h ?_
   clear h; intro Xpw h751 h
   refine rn tmD [Bt, .el (X2 x), .pure [(Xh false X3c), (X2 x)] (AV.tup [(Xn v742.1), (aB v742.2)])] rfl (by repeat' first|apply Ya|exact (pn (X1z _ _ _ h743) (cc (X0v (cc .sc (cc (X8 (X0 X7 X3c.Arg)) (cc (X8 (X0 (fun _ => X0e) X3c.Sources)) (cc .sc (cc (X8 (X0 X7 X3c.Where)) (cc .sc (cc .sc (cc .sc (cc .sc (cc .sc cn))))))))))) (cc (X0t (x := x)) cn)))|exact Xv) ?_
   refine Xa.joinF (fun (q : Nb Xpw) => ⟨fr [(2, (AV.ptr 0 0 0)), (11, (AV.ref 1 0 (Xfa.length))), (22, (slE q.1 2 (Xpw.map Xn))), (96, (AV.list true (Xd6.map X2))), (97, (aI .i64 (Xd6.length : Int))), (98, (aI .i64 (k : Int)))], hp ([(0, Ob [(Xh false X3c)] 10), (1, Ob (Xfa.map X3) 3)] ++ opE q.1 2 5 (Xpw.map Xn)), 3⟩) ?_ (fun J => Xa.cut ?_)
   ·
    rintro Xsp
    rcases Xsp with ⟨_ | _, Xtf⟩
    ·
     refine Xe tmD [] ?_
     exact wkT [] (ih (k + 1) hx1 _ nbF o h C0)
    obtain rfl := Xtf rfl
    refine Xe tmD [] ?_
    exact wkT [] (ih (k + 1) hx1 _ (nbT (by first | rfl | simp [*])) o h C0)
   clear h
   have h := h751
   refine brE h ?_ ?_
   ·clear h; intro h748 h
    refine X9 h ?_
    clear h; intro u749 h750 h
    obtain rfl := oj h
    refine rn tmD [Bt, .no] rfl (by repeat' first|apply Ya|exact (pn (X1z _ _ _ h743) (cc (X0v (cc .sc (cc (X8 (X0 X7 X3c.Arg)) (cc (X8 (X0 (fun _ => X0e) X3c.Sources)) (cc .sc (cc (X8 (X0 X7 X3c.Where)) (cc .sc (cc .sc (cc .sc (cc .sc (cc .sc cn))))))))))) (cc (X0t (x := x)) cn))) | (refine X0w h750 rfl ?_; first | (simp; done) | (simp; omega) | (simp [hc, h748]; done) | (simp [hc, h748]; omega)) | (refine X0a h750 (by decide) ?_; first | (simp; done) | (simp; omega) | (simp [hc, h748]; done) | (simp [hc, h748]; omega))|exact Xv) ?_
    exact wkT [(2, 6)] (Xa.glue (J nbF))
   clear h; intro h748 h
   obtain rfl := oj h
   refine rn tmD [Bf] rfl (by repeat' first|apply Ya|exact (pn (X1z _ _ _ h743) (cc (X0v (cc .sc (cc (X8 (X0 X7 X3c.Arg)) (cc (X8 (X0 (fun _ => X0e) X3c.Sources)) (cc .sc (cc (X8 (X0 X7 X3c.Where)) (cc .sc (cc .sc (cc .sc (cc .sc (cc .sc cn))))))))))) (cc (X0t (x := x)) cn)))|exact Xv) ?_
   exact wkT [] (Xa.glue (J (nbT (by first | rfl | simp [*]))))
  obtain rfl := Xmz rfl
  rcases Xas with ⟨_ | _, Xcn⟩
  ·
   refine Xa.round ?_
   refine X9 h ?_
   clear h; intro v752 h753 h
   refine X9 h ?_
   clear h; intro Xpv h761 h
   refine rn tmD [Bt, .el (X2 x), .pure [(Xh false X3c), (X2 x)] (AV.tup [(Xn v752.1), (aB v752.2)])] rfl (by repeat' first|apply Ya|exact (pn (X1z _ _ _ h753) (cc (X0v (cc .sc (cc (X8 (X0 X7 X3c.Arg)) (cc (X8 (X0 (fun _ => X0e) X3c.Sources)) (cc .sc (cc (X8 (X0 X7 X3c.Where)) (cc .sc (cc .sc (cc .sc (cc .sc (cc .sc cn))))))))))) (cc (X0t (x := x)) cn)))|exact Xv) ?_
   refine Xa.joinF (fun (q : Nb Xpv) => ⟨fr [(2, (AV.ptr 0 0 0)), (11, AV.nils), (22, (slE q.1 2 (Xpv.map Xn))), (96, (AV.list true (Xd6.map X2))), (97, (aI .i64 (Xd6.length : Int))), (98, (aI .i64 (k : Int)))], hp ([(0, Ob [(Xh false X3c)] 10)] ++ opE q.1 2 5 (Xpv.map Xn)), 3⟩) ?_ (fun J => Xa.cut ?_)
   ·
    rintro Xso
    rcases Xso with ⟨_ | _, Xte⟩
    ·
     refine Xe tmD [] ?_
     exact wkT [] (ih (k + 1) hx1 _ nbF o h C0)
    obtain rfl := Xte rfl
    refine Xe tmD [] ?_
    exact wkT [] (ih (k + 1) hx1 _ (nbT (by first | rfl | simp [*])) o h C0)
   clear h
   have h := h761
   refine brE h ?_ ?_
   ·clear h; intro h758 h
    refine X9 h ?_
    clear h; intro u759 h760 h
    obtain rfl := oj h
    refine rn tmD [Bt, .no] rfl (by repeat' first|apply Ya|exact (pn (X1z _ _ _ h753) (cc (X0v (cc .sc (cc (X8 (X0 X7 X3c.Arg)) (cc (X8 (X0 (fun _ => X0e) X3c.Sources)) (cc .sc (cc (X8 (X0 X7 X3c.Where)) (cc .sc (cc .sc (cc .sc (cc .sc (cc .sc cn))))))))))) (cc (X0t (x := x)) cn))) | (refine X0w h760 rfl ?_; first | (simp; done) | (simp; omega) | (simp [hc, h758]; done) | (simp [hc, h758]; omega)) | (refine X0a h760 (by decide) ?_; first | (simp; done) | (simp; omega) | (simp [hc, h758]; done) | (simp [hc, h758]; omega))|exact Xv) ?_
    exact wkT [(2, 6)] (Xa.glue (J nbF))
   clear h; intro h758 h
   obtain rfl := oj h
   refine rn tmD [Bf] rfl (by repeat' first|apply Ya|exact (pn (X1z _ _ _ h753) (cc (X0v (cc .sc (cc (X8 (X0 X7 X3c.Arg)) (cc (X8 (X0 (fun _ => X0e) X3c.Sources)) (cc .sc (cc (X8 (X0 X7 X3c.Where)) (cc .sc (cc .sc (cc .sc (cc .sc (cc .sc cn))))))))))) (cc (X0t (x := x)) cn)))|exact Xv) ?_
   exact wkT [] (Xa.glue (J nbF))
  obtain rfl := Xcn rfl
  refine Xa.round ?_
  refine X9 h ?_
  clear h; intro v762 h763 h
  refine X9 h ?_
  clear h; intro Xpu h771 h
  refine rn tmD [Bt, .el (X2 x), .pure [(Xh false X3c), (X2 x)] (AV.tup [(Xn v762.1), (aB v762.2)])] rfl (by repeat' first|apply Ya|exact (pn (X1z _ _ _ h763) (cc (X0v (cc .sc (cc (X8 (X0 X7 X3c.Arg)) (cc (X8 (X0 (fun _ => X0e) X3c.Sources)) (cc .sc (cc (X8 (X0 X7 X3c.Where)) (cc .sc (cc .sc (cc .sc (cc .sc (cc .sc cn))))))))))) (cc (X0t (x := x)) cn)))|exact Xv) ?_
  refine Xa.joinF (fun (q : Nb Xpu) => ⟨fr [(2, (AV.ptr 0 0 0)), (11, AV.nils), (22, (slE q.1 2 (Xpu.map Xn))), (96, (AV.list true (Xd6.map X2))), (97, (aI .i64 (Xd6.length : Int))), (98, (aI .i64 (k : Int)))], hp ([(0, Ob [(Xh false X3c)] 10)] ++ opE q.1 2 5 (Xpu.map Xn)), 3⟩) ?_ (fun J => Xa.cut ?_)
  ·
   rintro Xsn
   rcases Xsn with ⟨_ | _, Xtd⟩
   ·
    refine Xe tmD [] ?_
    exact wkT [] (ih (k + 1) hx1 _ nbF o h C0)
   obtain rfl := Xtd rfl
   refine Xe tmD [] ?_
   exact wkT [] (ih (k + 1) hx1 _ (nbT (by first | rfl | simp [*])) o h C0)
  clear h
  have h := h771
  refine brE h ?_ ?_
  ·clear h; intro h768 h
   refine X9 h ?_
   clear h; intro u769 h770 h
   obtain rfl := oj h
   refine rn tmD [Bt, .no] rfl (by repeat' first|apply Ya|exact (pn (X1z _ _ _ h763) (cc (X0v (cc .sc (cc (X8 (X0 X7 X3c.Arg)) (cc (X8 (X0 (fun _ => X0e) X3c.Sources)) (cc .sc (cc (X8 (X0 X7 X3c.Where)) (cc .sc (cc .sc (cc .sc (cc .sc (cc .sc cn))))))))))) (cc (X0t (x := x)) cn))) | (refine X0w h770 rfl ?_; first | (simp; done) | (simp; omega) | (simp [hc, h768]; done) | (simp [hc, h768]; omega)) | (refine X0a h770 (by decide) ?_; first | (simp; done) | (simp; omega) | (simp [hc, h768]; done) | (simp [hc, h768]; omega))|exact Xv) ?_
   exact wkT [(2, 6)] (Xa.glue (J nbF))
  clear h; intro h768 h
  obtain rfl := oj h
  refine rn tmD [Bf] rfl (by repeat' first|apply Ya|exact (pn (X1z _ _ _ h763) (cc (X0v (cc .sc (cc (X8 (X0 X7 X3c.Arg)) (cc (X8 (X0 (fun _ => X0e) X3c.Sources)) (cc .sc (cc (X8 (X0 X7 X3c.Where)) (cc .sc (cc .sc (cc .sc (cc .sc (cc .sc cn))))))))))) (cc (X0t (x := x)) cn)))|exact Xv) ?_
  exact wkT [] (Xa.glue (J (nbT (by first | rfl | simp [*]))))
end Go.Av.Tryz