/- Printed by decomp.py: that the program computes the functions. -/
import Derived.Test.YtfdfgobnpnoomaaGreatDCert21Z
import Derived.Test.YtfdfgobnpnoomaaGreatDCert29Z
set_option linter.all false

namespace Go.Av.Tryz
open Go.Proofs Go.D
set_option maxRecDepth 10000
set_option maxHeartbeats 40000000
theorem Xdi (a0 : Xp) (a1 : (List (List Xi))) (r : Bool) (h : X46 a0 a1 = some r) : X19 Tryz.prog 9 [(Xh false a0), (Lf (List.map (X3e false X4) a1))] (aB r) := by
 refine X19.sym Xg fn9 (nt := 126) rfl rfl ?_ (Xf (X1a false _ _).1 (Xf .list X08))
 unfold X46 at h
 refine X9 h ?_
 clear h; intro v1 h2 h
 refine X9 h ?_
 clear h; intro X00i h12 h
 refine rn tmD [.pure [] (aB v1), .stop 2] rfl (by repeat' first|apply Ya|exact (pn (Xb9 _ h2) cn)|exact Xv) ?_
 refine Xa.join (s' := ⟨fr [(1, (Lf (List.map (X3e false X4) a1))), (2, (AV.ptr 0 0 0)), (5, (aB v1)), (33, (aB X00i))], hp ([(0, Ob [(Xh false a0)] 10)]), 1⟩) ?_ (fun J => Xa.cut ?_)
 ·
  refine brE h ?_ ?_
  ·clear h; intro h13 h
   obtain rfl := oj h
   refine Xe tmD [Bt] ?_
   exact X6 rfl .sc
  clear h; intro h13 h
  refine X9 h ?_
  clear h; intro v14 h15 h
  refine X9 h ?_
  clear h; intro u16 h17 h
  have qh17 := X11 h17
  refine rn tmD [Bf, .pure [(Xh false a0)] (Xh true v14)] rfl (by repeat' first|apply Ya|exact (pn (Xm7 _ _ h15) (cc (X0v (cc .sc (cc (X8 (X0 X7 a0.Arg)) (cc (X8 (X0 (fun _ => X0e) a0.Sources)) (cc .sc (cc (X8 (X0 X7 a0.Where)) (cc .sc (cc .sc (cc .sc (cc .sc (cc .sc cn))))))))))) cn))|exact Xv) ?_
  refine Xa.denil 1 [AV.agg [(aI .u8 v14.Agg), (AV.list true (v14.Arg.map X1)), (AV.list true (List.map (aI .i64) v14.Sources)), (aB v14.Join), (AV.list true (List.map X1 ([] : List X00))), (aI .u8 v14.Window.Kind), (aI .i64 v14.Window.Size), (aI .i64 v14.Window.Every), (aB v14.ByKey), (aI .u8 v14.Late)]] rfl rfl ?_
  refine X9 h ?_
  clear h; intro o685 h686 h
  refine Xe tmD [] ?_
  refine wkT [] (Xa.cut (Xbs a1 a0 v1 (Xp.mk v14.Agg v14.Arg v14.Sources v14.Join ([] : List X00) v14.Window v14.ByKey v14.Late) qh17 a1 0 (by simp) _ (nbT (by first | rfl | simp [*])) _ h686 ?_))
  intro X7a Xe3 eo685; subst eo685
  refine Xa.glue ?_
  try dsimp only at h
  rcases Xe3 with ⟨_ | _, Xt3⟩
  ·
   refine X9 h ?_
   clear h; intro v687 h688 h
   refine X9 h ?_
   clear h; intro v689 h690 h
   refine X9 h ?_
   clear h; intro Xvf h702 h
   refine rn tmD [.pure [(Xh false a0), (Lf (List.map (X3e false X4) a1))] (AV.tup [(AV.list true (v687.1.map Xn)), (AV.list true (v687.2.1.map X3)), (aI .i64 v687.2.2)]), .pure [(Xh false (Xp.mk v14.Agg v14.Arg v14.Sources v14.Join ([] : List X00) v14.Window v14.ByKey v14.Late)), (Lf (List.map (X3e false X4) X7a))] (AV.tup [(AV.list true (v689.1.map Xn)), (AV.list true (v689.2.1.map X3)), (aI .i64 v689.2.2)]), .stop 20] rfl (by repeat' first|apply Ya|exact (pn (X03 _ _ _ h688) (cc (X0v (cc .sc (cc (X8 (X0 X7 a0.Arg)) (cc (X8 (X0 (fun _ => X0e) a0.Sources)) (cc .sc (cc (X8 (X0 X7 a0.Where)) (cc .sc (cc .sc (cc .sc (cc .sc (cc .sc cn))))))))))) (cc (X3z (fun _ => rfl) (fun x => X1w (X8 (X0 Xx _))) a1) cn)))|exact (X2k.lent (X03 _ _ _ h690) (cc (X0v (cc .sc (cc (X8 (X0 X7 ((Xp.mk v14.Agg v14.Arg v14.Sources v14.Join ([] : List X00) v14.Window v14.ByKey v14.Late).Arg))) (cc (X8 (X0 (fun _ => X0e) ((Xp.mk v14.Agg v14.Arg v14.Sources v14.Join ([] : List X00) v14.Window v14.ByKey v14.Late).Sources))) (cc .sc (cc (X8 (X0 X7 ((Xp.mk v14.Agg v14.Arg v14.Sources v14.Join ([] : List X00) v14.Window v14.ByKey v14.Late).Where))) (cc .sc (cc .sc (cc .sc (cc .sc (cc .sc cn))))))))))) (cc (Xk0 (f := (X3e true X4)) (g := (X3e false X4)) (l := X7a) rfl (by first | rfl | (simp; done) | (simp; rfl) | (simp [h13]; done) | (simp [h13]; rfl)) (by first | rfl | (simp; done) | (simp; omega) | (simp [h13]; done) | (simp [h13]; omega)) (fun _ => rfl) (fun x => X1w (X8 (X0 Xx _)))) cn)) (Xa4 (Xf (X25 (X0 X0y _)) (Xf (X25 (X0 X0k _)) (Xf .sc X08)))))|exact Xv) ?_
   refine Xa.join (s' := ⟨fr [(4, (aB Xvf))], hp ([]), 0⟩) ?_ (fun J => Xa.cut ?_)
   ·
    obtain rfl := oj h
    refine Xe tmD [] ?_
    exact X6 rfl .sc
   clear h
   have h := h702
   refine brE h ?_ ?_
   ·clear h; intro h697 h
    refine brE h ?_ ?_
    ·clear h; intro h698 h
     refine brE h ?_ ?_
     ·clear h; intro h699 h
      refine X9 h ?_
      clear h; intro v700 h701 h
      obtain rfl := oj h
      refine rn tmD [.go true, .go true, .go true, .go true, .go true, .go true, .go true, .pure [(Lf (v687.1.map Xn)), (Lf (v689.1.map Xn))] (aB v700)] rfl (by repeat' first|apply Ya|exact (pn (X03 _ _ _ h688) (cc (X0v (cc .sc (cc (X8 (X0 X7 a0.Arg)) (cc (X8 (X0 (fun _ => X0e) a0.Sources)) (cc .sc (cc (X8 (X0 X7 a0.Where)) (cc .sc (cc .sc (cc .sc (cc .sc (cc .sc cn))))))))))) (cc (X3z (fun _ => rfl) (fun x => X1w (X8 (X0 Xx _))) a1) cn)))|exact (X2k.lent (X03 _ _ _ h690) (cc (X0v (cc .sc (cc (X8 (X0 X7 ((Xp.mk v14.Agg v14.Arg v14.Sources v14.Join ([] : List X00) v14.Window v14.ByKey v14.Late).Arg))) (cc (X8 (X0 (fun _ => X0e) ((Xp.mk v14.Agg v14.Arg v14.Sources v14.Join ([] : List X00) v14.Window v14.ByKey v14.Late).Sources))) (cc .sc (cc (X8 (X0 X7 ((Xp.mk v14.Agg v14.Arg v14.Sources v14.Join ([] : List X00) v14.Window v14.ByKey v14.Late).Where))) (cc .sc (cc .sc (cc .sc (cc .sc (cc .sc cn))))))))))) (cc (Xk0 (f := (X3e true X4)) (g := (X3e false X4)) (l := X7a) rfl (by first | rfl | (simp; done) | (simp; rfl) | (simp [h13]; done) | (simp [h13]; rfl)) (by first | rfl | (simp; done) | (simp; omega) | (simp [h13]; done) | (simp [h13]; omega)) (fun _ => rfl) (fun x => X1w (X8 (X0 Xx _)))) cn)) (Xa4 (Xf (X25 (X0 X0y _)) (Xf (X25 (X0 X0k _)) (Xf .sc X08)))))|exact ((X05 h697 h698))|exact (X0u (X05 h697 h698))|exact (Xka (X05 h697 h698))|exact ((X05 (X05 h697 h698) h699))|exact (X0u (X05 (X05 h697 h698) h699))|exact (pn (X97 _ _ _ h701) (cc (X8 (X0 X0y v687.1)) (cc (X8 (X0 X0y v689.1)) cn)))|exact (Xka (X05 (X05 h697 h698) h699))|exact Xv) ?_
      exact wkT [] (Xa.glue J)
     clear h; intro h699 h
     obtain rfl := oj h
     refine rn tmD [.go true, .go true, .go true, .go true, .go false, .go false, .go false] rfl (by repeat' first|apply Ya|exact (pn (X03 _ _ _ h688) (cc (X0v (cc .sc (cc (X8 (X0 X7 a0.Arg)) (cc (X8 (X0 (fun _ => X0e) a0.Sources)) (cc .sc (cc (X8 (X0 X7 a0.Where)) (cc .sc (cc .sc (cc .sc (cc .sc (cc .sc cn))))))))))) (cc (X3z (fun _ => rfl) (fun x => X1w (X8 (X0 Xx _))) a1) cn)))|exact (X2k.lent (X03 _ _ _ h690) (cc (X0v (cc .sc (cc (X8 (X0 X7 ((Xp.mk v14.Agg v14.Arg v14.Sources v14.Join ([] : List X00) v14.Window v14.ByKey v14.Late).Arg))) (cc (X8 (X0 (fun _ => X0e) ((Xp.mk v14.Agg v14.Arg v14.Sources v14.Join ([] : List X00) v14.Window v14.ByKey v14.Late).Sources))) (cc .sc (cc (X8 (X0 X7 ((Xp.mk v14.Agg v14.Arg v14.Sources v14.Join ([] : List X00) v14.Window v14.ByKey v14.Late).Where))) (cc .sc (cc .sc (cc .sc (cc .sc (cc .sc cn))))))))))) (cc (Xk0 (f := (X3e true X4)) (g := (X3e false X4)) (l := X7a) rfl (by first | rfl | (simp; done) | (simp; rfl) | (simp [h13]; done) | (simp [h13]; rfl)) (by first | rfl | (simp; done) | (simp; omega) | (simp [h13]; done) | (simp [h13]; omega)) (fun _ => rfl) (fun x => X1w (X8 (X0 Xx _)))) cn)) (Xa4 (Xf (X25 (X0 X0y _)) (Xf (X25 (X0 X0k _)) (Xf .sc X08)))))|exact ((X05 h697 h698))|exact (X0u (X05 h697 h698))|exact (Xka (X05 h697 h698))|exact ((X05 (X05 h697 h698) h699))|exact (X0u (X05 (X05 h697 h698) h699))|exact (Xei (X05 (X05 h697 h698) h699))|exact Xv) ?_
     exact wkT [] (Xa.glue J)
    clear h; intro h698 h
    obtain rfl := oj h
    refine rn tmD [.go true, .go true, .go false, .go false, .go false, .go false, .go false] rfl (by repeat' first|apply Ya|exact (pn (X03 _ _ _ h688) (cc (X0v (cc .sc (cc (X8 (X0 X7 a0.Arg)) (cc (X8 (X0 (fun _ => X0e) a0.Sources)) (cc .sc (cc (X8 (X0 X7 a0.Where)) (cc .sc (cc .sc (cc .sc (cc .sc (cc .sc cn))))))))))) (cc (X3z (fun _ => rfl) (fun x => X1w (X8 (X0 Xx _))) a1) cn)))|exact (X2k.lent (X03 _ _ _ h690) (cc (X0v (cc .sc (cc (X8 (X0 X7 ((Xp.mk v14.Agg v14.Arg v14.Sources v14.Join ([] : List X00) v14.Window v14.ByKey v14.Late).Arg))) (cc (X8 (X0 (fun _ => X0e) ((Xp.mk v14.Agg v14.Arg v14.Sources v14.Join ([] : List X00) v14.Window v14.ByKey v14.Late).Sources))) (cc .sc (cc (X8 (X0 X7 ((Xp.mk v14.Agg v14.Arg v14.Sources v14.Join ([] : List X00) v14.Window v14.ByKey v14.Late).Where))) (cc .sc (cc .sc (cc .sc (cc .sc (cc .sc cn))))))))))) (cc (Xk0 (f := (X3e true X4)) (g := (X3e false X4)) (l := X7a) rfl (by first | rfl | (simp; done) | (simp; rfl) | (simp [h13]; done) | (simp [h13]; rfl)) (by first | rfl | (simp; done) | (simp; omega) | (simp [h13]; done) | (simp [h13]; omega)) (fun _ => rfl) (fun x => X1w (X8 (X0 Xx _)))) cn)) (Xa4 (Xf (X25 (X0 X0y _)) (Xf (X25 (X0 X0k _)) (Xf .sc X08)))))|exact ((X05 h697 h698))|exact (X0u (X05 h697 h698))|exact (Xei (X05 h697 h698))|exact ((X0q (X05 h697 h698) rfl))|exact (X0u (X0q (X05 h697 h698) rfl))|exact (Xei (X0q (X05 h697 h698) rfl))|exact Xv) ?_
    exact wkT [] (Xa.glue J)
   clear h; intro h697 h
   obtain rfl := oj h
   refine rn tmD [.go false, .go false, .go false, .go false, .go false, .go false, .go false] rfl (by repeat' first|apply Ya|exact (pn (X03 _ _ _ h688) (cc (X0v (cc .sc (cc (X8 (X0 X7 a0.Arg)) (cc (X8 (X0 (fun _ => X0e) a0.Sources)) (cc .sc (cc (X8 (X0 X7 a0.Where)) (cc .sc (cc .sc (cc .sc (cc .sc (cc .sc cn))))))))))) (cc (X3z (fun _ => rfl) (fun x => X1w (X8 (X0 Xx _))) a1) cn)))|exact (X2k.lent (X03 _ _ _ h690) (cc (X0v (cc .sc (cc (X8 (X0 X7 ((Xp.mk v14.Agg v14.Arg v14.Sources v14.Join ([] : List X00) v14.Window v14.ByKey v14.Late).Arg))) (cc (X8 (X0 (fun _ => X0e) ((Xp.mk v14.Agg v14.Arg v14.Sources v14.Join ([] : List X00) v14.Window v14.ByKey v14.Late).Sources))) (cc .sc (cc (X8 (X0 X7 ((Xp.mk v14.Agg v14.Arg v14.Sources v14.Join ([] : List X00) v14.Window v14.ByKey v14.Late).Where))) (cc .sc (cc .sc (cc .sc (cc .sc (cc .sc cn))))))))))) (cc (Xk0 (f := (X3e true X4)) (g := (X3e false X4)) (l := X7a) rfl (by first | rfl | (simp; done) | (simp; rfl) | (simp [h13]; done) | (simp [h13]; rfl)) (by first | rfl | (simp; done) | (simp; omega) | (simp [h13]; done) | (simp [h13]; omega)) (fun _ => rfl) (fun x => X1w (X8 (X0 Xx _)))) cn)) (Xa4 (Xf (X25 (X0 X0y _)) (Xf (X25 (X0 X0k _)) (Xf .sc X08)))))|exact ((X0q h697 rfl))|exact (X0u (X0q h697 rfl))|exact (Xei (X0q h697 rfl))|exact ((X0q (X0q h697 rfl) rfl))|exact (X0u (X0q (X0q h697 rfl) rfl))|exact (Xei (X0q (X0q h697 rfl) rfl))|exact Xv) ?_
   exact wkT [] (Xa.glue J)
  obtain rfl := Xt3 rfl
  refine X9 h ?_
  clear h; intro v703 h704 h
  refine X9 h ?_
  clear h; intro v705 h706 h
  refine X9 h ?_
  clear h; intro X02n h718 h
  refine rn tmD [.pure [(Xh false a0), (Lf (List.map (X3e false X4) a1))] (AV.tup [(AV.list true (v703.1.map Xn)), (AV.list true (v703.2.1.map X3)), (aI .i64 v703.2.2)]), .pure [(Xh false (Xp.mk v14.Agg v14.Arg v14.Sources v14.Join ([] : List X00) v14.Window v14.ByKey v14.Late)), (Lf (List.map (X3e false X4) ([] : List (List Xi))))] (AV.tup [(AV.list true (v705.1.map Xn)), (AV.list true (v705.2.1.map X3)), (aI .i64 v705.2.2)]), .stop 20] rfl (by repeat' first|apply Ya|exact (pn (X03 _ _ _ h704) (cc (X0v (cc .sc (cc (X8 (X0 X7 a0.Arg)) (cc (X8 (X0 (fun _ => X0e) a0.Sources)) (cc .sc (cc (X8 (X0 X7 a0.Where)) (cc .sc (cc .sc (cc .sc (cc .sc (cc .sc cn))))))))))) (cc (X3z (fun _ => rfl) (fun x => X1w (X8 (X0 Xx _))) a1) cn)))|exact (pn (X03 _ _ _ h706) (cc (X0v (cc .sc (cc (X8 (X0 X7 ((Xp.mk v14.Agg v14.Arg v14.Sources v14.Join ([] : List X00) v14.Window v14.ByKey v14.Late).Arg))) (cc (X8 (X0 (fun _ => X0e) ((Xp.mk v14.Agg v14.Arg v14.Sources v14.Join ([] : List X00) v14.Window v14.ByKey v14.Late).Sources))) (cc .sc (cc (X8 (X0 X7 ((Xp.mk v14.Agg v14.Arg v14.Sources v14.Join ([] : List X00) v14.Window v14.ByKey v14.Late).Where))) (cc .sc (cc .sc (cc .sc (cc .sc (cc .sc cn))))))))))) (cc (X2l (es := List.map (X3e true X4) ([] : List (List Xi))) (by simp [*])) cn)))|exact Xv) ?_
  refine Xa.join (s' := ⟨fr [(4, (aB X02n))], hp ([]), 0⟩) ?_ (fun J => Xa.cut ?_)
  ·
   obtain rfl := oj h
   refine Xe tmD [] ?_
   exact X6 rfl .sc
  clear h
  have h := h718
  refine brE h ?_ ?_
  ·clear h; intro h713 h
   refine brE h ?_ ?_
   ·clear h; intro h714 h
    refine brE h ?_ ?_
    ·clear h; intro h715 h
     refine X9 h ?_
     clear h; intro v716 h717 h
     obtain rfl := oj h
     refine rn tmD [.go true, .go true, .go true, .go true, .go true, .go true, .go true, .pure [(Lf (v703.1.map Xn)), (Lf (v705.1.map Xn))] (aB v716)] rfl (by repeat' first|apply Ya|exact (pn (X03 _ _ _ h704) (cc (X0v (cc .sc (cc (X8 (X0 X7 a0.Arg)) (cc (X8 (X0 (fun _ => X0e) a0.Sources)) (cc .sc (cc (X8 (X0 X7 a0.Where)) (cc .sc (cc .sc (cc .sc (cc .sc (cc .sc cn))))))))))) (cc (X3z (fun _ => rfl) (fun x => X1w (X8 (X0 Xx _))) a1) cn)))|exact (pn (X03 _ _ _ h706) (cc (X0v (cc .sc (cc (X8 (X0 X7 ((Xp.mk v14.Agg v14.Arg v14.Sources v14.Join ([] : List X00) v14.Window v14.ByKey v14.Late).Arg))) (cc (X8 (X0 (fun _ => X0e) ((Xp.mk v14.Agg v14.Arg v14.Sources v14.Join ([] : List X00) v14.Window v14.ByKey v14.Late).Sources))) (cc .sc (cc (X8 (X0 X7 ((Xp.mk v14.Agg v14.Arg v14.Sources v14.Join ([] : List X00) v14.Window v14.ByKey v14.Late).Where))) (cc .sc (cc .sc (cc .sc (cc .sc (cc .sc cn))))))))))) (cc (X2l (es := List.map (X3e true X4) ([] : List (List Xi))) (by simp [*])) cn)))|exact ((X05 h713 h714))|exact (X0u (X05 h713 h714))|exact (Xka (X05 h713 h714))|exact ((X05 (X05 h713 h714) h715))|exact (X0u (X05 (X05 h713 h714) h715))|exact (pn (X97 _ _ _ h717) (cc (X8 (X0 X0y v703.1)) (cc (X8 (X0 X0y v705.1)) cn)))|exact (Xka (X05 (X05 h713 h714) h715))|exact Xv) ?_
     exact wkT [] (Xa.glue J)
    clear h; intro h715 h
    obtain rfl := oj h
    refine rn tmD [.go true, .go true, .go true, .go true, .go false, .go false, .go false] rfl (by repeat' first|apply Ya|exact (pn (X03 _ _ _ h704) (cc (X0v (cc .sc (cc (X8 (X0 X7 a0.Arg)) (cc (X8 (X0 (fun _ => X0e) a0.Sources)) (cc .sc (cc (X8 (X0 X7 a0.Where)) (cc .sc (cc .sc (cc .sc (cc .sc (cc .sc cn))))))))))) (cc (X3z (fun _ => rfl) (fun x => X1w (X8 (X0 Xx _))) a1) cn)))|exact (pn (X03 _ _ _ h706) (cc (X0v (cc .sc (cc (X8 (X0 X7 ((Xp.mk v14.Agg v14.Arg v14.Sources v14.Join ([] : List X00) v14.Window v14.ByKey v14.Late).Arg))) (cc (X8 (X0 (fun _ => X0e) ((Xp.mk v14.Agg v14.Arg v14.Sources v14.Join ([] : List X00) v14.Window v14.ByKey v14.Late).Sources))) (cc .sc (cc (X8 (X0 X7 ((Xp.mk v14.Agg v14.Arg v14.Sources v14.Join ([] : List X00) v14.Window v14.ByKey v14.Late).Where))) (cc .sc (cc .sc (cc .sc (cc .sc (cc .sc cn))))))))))) (cc (X2l (es := List.map (X3e true X4) ([] : List (List Xi))) (by simp [*])) cn)))|exact ((X05 h713 h714))|exact (X0u (X05 h713 h714))|exact (Xka (X05 h713 h714))|exact ((X05 (X05 h713 h714) h715))|exact (X0u (X05 (X05 h713 h714) h715))|exact (Xei (X05 (X05 h713 h714) h715))|exact Xv) ?_
    exact wkT [] (Xa.glue J)
   clear h; intro h714 h
   obtain rfl := oj h
   refine rn tmD [.go true, .go true, .go false, .go false, .go false, .go false, .go false] rfl (by repeat' first|apply Ya|exact (pn (X03 _ _ _ h704) (cc (X0v (cc .sc (cc (X8 (X0 X7 a0.Arg)) (cc (X8 (X0 (fun _ => X0e) a0.Sources)) (cc .sc (cc (X8 (X0 X7 a0.Where)) (cc .sc (cc .sc (cc .sc (cc .sc (cc .sc cn))))))))))) (cc (X3z (fun _ => rfl) (fun x => X1w (X8 (X0 Xx _))) a1) cn)))|exact (pn (X03 _ _ _ h706) (cc (X0v (cc .sc (cc (X8 (X0 X7 ((Xp.mk v14.Agg v14.Arg v14.Sources v14.Join ([] : List X00) v14.Window v14.ByKey v14.Late).Arg))) (cc (X8 (X0 (fun _ => X0e) ((Xp.mk v14.Agg v14.Arg v14.Sources v14.Join ([] : List X00) v14.Window v14.ByKey v14.Late).Sources))) (cc .sc (cc (X8 (X0 X7 ((Xp.mk v14.Agg v14.Arg v14.Sources v14.Join ([] : List X00) v14.Window v14.ByKey v14.Late).Where))) (cc .sc (cc .sc (cc .sc (cc .sc (cc .sc cn))))))))))) (cc (X2l (es := List.map (X3e true X4) ([] : List (List Xi))) (by simp [*])) cn)))|exact ((X05 h713 h714))|exact (X0u (X05 h713 h714))|exact (Xei (X05 h713 h714))|exact ((X0q (X05 h713 h714) rfl))|exact (X0u (X0q (X05 h713 h714) rfl))|exact (Xei (X0q (X05 h713 h714) rfl))|exact Xv) ?_
   exact wkT [] (Xa.glue J)
  clear h; intro h713 h
  obtain rfl := oj h
  refine rn tmD [.go false, .go false, .go false, .go false, .go false, .go false, .go false] rfl (by repeat' first|apply Ya|exact (pn (X03 _ _ _ h704) (cc (X0v (cc .sc (cc (X8 (X0 X7 a0.Arg)) (cc (X8 (X0 (fun _ => X0e) a0.Sources)) (cc .sc (cc (X8 (X0 X7 a0.Where)) (cc .sc (cc .sc (cc .sc (cc .sc (cc .sc cn))))))))))) (cc (X3z (fun _ => rfl) (fun x => X1w (X8 (X0 Xx _))) a1) cn)))|exact (pn (X03 _ _ _ h706) (cc (X0v (cc .sc (cc (X8 (X0 X7 ((Xp.mk v14.Agg v14.Arg v14.Sources v14.Join ([] : List X00) v14.Window v14.ByKey v14.Late).Arg))) (cc (X8 (X0 (fun _ => X0e) ((Xp.mk v14.Agg v14.Arg v14.Sources v14.Join ([] : List X00) v14.Window v14.ByKey v14.Late).Sources))) (cc .sc (cc (X8 (X0 X7 ((Xp.mk v14.Agg v14.Arg v14.Sources v14.Join ([] : List X00) v14.Window v14.ByKey v14.Late).Where))) (cc .sc (cc .sc (cc .sc (cc .sc (cc .sc cn))))))))))) (cc (X2l (es := List.map (X3e true X4) ([] : List (List Xi))) (by simp [*])) cn)))|exact ((X0q h713 rfl))|exact (X0u (X0q h713 rfl))|exact (Xei (X0q h713 rfl))|exact ((X0q (X0q h713 rfl) rfl))|exact (X0u (X0q (X0q h713 rfl) rfl))|exact (Xei (X0q (X0q h713 rfl) rfl))|exact Xv) ?_
  exact wkT [] (Xa.glue J)
 clear h
 have h := h12
 refine X9 h ?_
 clear h; intro v8 h9 h
 refine brE h ?_ ?_
 ·clear h; intro h10 h
  obtain rfl := oj h
  refine rn tmD [.pure [(Xh false a0), (Lf (List.map (X3e false X4) a1))] (aB v8), .go false, .go false, .go false, .go false, .go false, .go false] rfl (by repeat' first|apply Ya|exact (pn (Xb9 _ h2) cn)|exact (pn (Xhi _ _ _ h9) (cc (X0v (cc .sc (cc (X8 (X0 X7 a0.Arg)) (cc (X8 (X0 (fun _ => X0e) a0.Sources)) (cc .sc (cc (X8 (X0 X7 a0.Where)) (cc .sc (cc .sc (cc .sc (cc .sc (cc .sc cn))))))))))) (cc (X3z (fun _ => rfl) (fun x => X1w (X8 (X0 Xx _))) a1) cn)))|exact ((X05 h10 rfl))|exact (X0u (X05 h10 rfl))|exact (Xka (X05 h10 rfl))|exact Xv) ?_
  exact wkT [] (Xa.glue J)
 clear h; intro h10 h
 refine rn tmD [.pure [(Xh false a0), (Lf (List.map (X3e false X4) a1))] (aB v8), .go true, .go true, .go true, .el (aI .i64 (a0.Where.length : Int)), .go true, .stop 999999] rfl (by repeat' first|apply Ya|exact (pn (Xb9 _ h2) cn)|exact (pn (Xhi _ _ _ h9) (cc (X0v (cc .sc (cc (X8 (X0 X7 a0.Arg)) (cc (X8 (X0 (fun _ => X0e) a0.Sources)) (cc .sc (cc (X8 (X0 X7 a0.Where)) (cc .sc (cc .sc (cc .sc (cc .sc (cc .sc cn))))))))))) (cc (X3z (fun _ => rfl) (fun x => X1w (X8 (X0 Xx _))) a1) cn)))|exact Xv) ?_
 refine brE h ?_ ?_
 ·clear h; intro h11 h
  obtain rfl := oj h
  refine rn tmD [.go false, .go false] rfl (by repeat' first|apply Ya|exact ((X0q h10 h11))|exact (X0u (X0q h10 h11))|exact (Xka (X0q h10 h11))|exact Xv) ?_
  exact wkT [] (Xa.glue J)
 clear h; intro h11 h
 obtain rfl := oj h
 refine rn tmD [.go true, .go true] rfl (by repeat' first|apply Ya|exact ((X0q h10 h11))|exact (X0u (X0q h10 h11))|exact (Xei (X0q h10 h11))|exact Xv) ?_
 exact wkT [] (Xa.glue J)
end Go.Av.Tryz