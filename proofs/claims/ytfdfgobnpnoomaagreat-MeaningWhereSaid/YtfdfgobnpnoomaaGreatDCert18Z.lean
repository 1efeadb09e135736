/- Printed by decomp.py: that the program computes the functions. -/
import Derived.Test.YtfdfgobnpnoomaaGreatDCert17Z
set_option linter.all false

namespace Go.Av.Tryz
open Go.Proofs Go.D
set_option maxRecDepth 10000
set_option maxHeartbeats 40000000
def CvE (m : Bool) (H : X0s) (e e' : AV) : Prop := e.cells.length = e'.cells.length /\ ∀ (k : Nat) a b, e.cells[k]? = some a -> e'.cells[k]? = some b -> Cv m H a b
def CvL (m : Bool) (H : X0s) (l l' : List AV) : Prop := l.length = l'.length /\ ∀ (i : Nat) e e', l[i]? = some e -> l'[i]? = some e' -> CvE m H e e'
theorem CvL.nil {m : Bool} {H : X0s} : CvL m H [] [] := ⟨rfl, fun i e e' h => by simp at h⟩
theorem CvL.cons {m : Bool} {H : X0s} {e e' : AV} {l l' : List AV} (h : CvE m H e e') (t : CvL m H l l') : CvL m H (e :: l) (e' :: l') := by
 refine ⟨by simp [t.1], fun i a b ha hb => ?_⟩
 cases i with
 | zero => simp at ha hb; subst ha; subst hb; exact h
 | succ i => simp at ha hb; exact t.2 i a b ha hb
theorem Xh4 {m : Bool} {H : X0s} {e e' : AV} (h : Cv m H e e') (h1 : e.cells = [e]) (h2 : e'.cells = [e']) : CvE m H e e' := by
 refine ⟨by rw [h1, h2]; rfl, fun k a b ha hb => ?_⟩
 rw [h1] at ha; rw [h2] at hb
 cases k with
 | zero => simp at ha hb; subst ha; subst hb; exact h
 | succ k => simp at ha
theorem Xh3 {m : Bool} {H : X0s} {o n : Nat} {x : Obj} {es : List AV} (hH : H o = some x) (h : CvL m H x.es es) (hn : n = es.length) : Cv m H (.ref o 0 n) (.list m es) := by
 subst hn
 refine .ref hH (by rw [h.1]; omega) rfl (fun i e e' he he' => ?_) (fun i e e' k a b he he' ha hb => ?_)
 ·rw [Nat.zero_add] at he; exact (h.2 i e e' he he').1
 rw [Nat.zero_add] at he; exact (h.2 i e e' he he').2 k a b ha hb
theorem Xb9 (r : Bool) (h : Xch = some r) : X19 Tryz.prog 29 [] (aB r) := by
 refine X19.sym Xg fn29 (nt := 59) rfl rfl ?_ X08
 unfold Xch at h
 refine X9 h ?_
 clear h; intro v1 h2 h
 refine X9 h ?_
 clear h; intro v3 h4 h
 refine X9 h ?_
 clear h; intro v5 h6 h
 refine X9 h ?_
 clear h; intro v7 h8 h
 refine X9 h ?_
 clear h; intro v9 h10 h
 refine X9 h ?_
 clear h; intro v11 h12 h
 refine X9 h ?_
 clear h; intro v13 h14 h
 refine X9 h ?_
 clear h; intro X00v h50 h
 refine rn tmD [.pure [(aI .i64 1), (aI .i64 3), (aI .i64 5)] (X4 v1), .pure [(aI .i64 10)] (X4 v3), .pure [(aI .i64 1), (aI .i64 12), (aI .i64 7)] (X4 v5), .pure [(aI .i64 1), (aI .i64 9), (aI .i64 1)] (X4 v7), .pure [] (Xh true v9), .pure [(Xh false v9), (Lf (List.map (X3e false X4) [[v1, v3, v5, v7]]))] (AV.tup [(AV.list true (v11.1.map Xn)), (AV.list true (v11.2.1.map X3)), (aI .i64 v11.2.2)]), .pure [] (Xh true v9), .pure [(Xh false v9), (Lf (List.map (X3e false X4) [[v1, v3, v5, v7]]))] (AV.tup [(AV.list true (v13.1.map Xn)), (AV.list true (v13.2.1.map X3)), (aI .i64 v13.2.2)]), .stop 4] rfl (by repeat' first|apply Ya|exact (pn (X52 _ _ _ _ h2) (cc .sc (cc .sc (cc .sc cn))))|exact (pn (Xcg _ _ h4) (cc .sc cn))|exact (pn (X52 _ _ _ _ h6) (cc .sc (cc .sc (cc .sc cn))))|exact (pn (X52 _ _ _ _ h8) (cc .sc (cc .sc (cc .sc cn))))|exact (pn (Xdg _ h10) cn)|exact (X2k.lent (X8p _ _ _ h12) (cc (X9k (o := true) (x := v9)) (cc (Xh3 rfl (CvL.cons (Xh4 (X0o (es := List.map X4 [v1, v3, v5, v7]) rfl (by first | rfl | (simp; done) | (simp; rfl) | (simp []; done) | (simp []; rfl) | (simp [Ym, Yd]; done) | (simp [Ym, Yd]; rfl)) (by first | rfl | (simp; done) | (simp; omega) | (simp []; done) | (simp []; omega)) (X0 Xx [v1, v3, v5, v7])) rfl rfl) CvL.nil) rfl) cn)) (Xa4 (Xf (X25 (X0 X0y _)) (Xf (X25 (X0 X0k _)) (Xf .sc X08)))))|exact (X2k.lent (X03 _ _ _ h14) (cc (X9k (o := true) (x := v9)) (cc (Xh3 rfl (CvL.cons (Xh4 (X0o (es := List.map X4 [v1, v3, v5, v7]) rfl (by first | rfl | (simp; done) | (simp; rfl) | (simp []; done) | (simp []; rfl) | (simp [Ym, Yd]; done) | (simp [Ym, Yd]; rfl)) (by first | rfl | (simp; done) | (simp; omega) | (simp []; done) | (simp []; omega)) (X0 Xx [v1, v3, v5, v7])) rfl rfl) CvL.nil) rfl) cn)) (Xa4 (Xf (X25 (X0 X0y _)) (Xf (X25 (X0 X0k _)) (Xf .sc X08)))))|exact Xv) ?_
 refine Xa.join (s' := ⟨fr [(0, (aB X00v))], hp ([]), 0⟩) ?_ (fun J => Xa.cut ?_)
 ·
  obtain rfl := oj h
  refine Xe tmD [] ?_
  exact X6 rfl .sc
 clear h
 have h := h50
 refine brE h ?_ ?_
 ·clear h; intro h33 h
  refine X9 h ?_
  clear h; intro v34 h35 h
  refine X9 h ?_
  clear h; intro v36 h37 h
  refine X9 h ?_
  clear h; intro v38 h39 h
  refine rn tmD [.go true, .go true, .pure [(aI .i64 0), (aI .i64 10), (aI .i64 5)] (Xn v34), .go true, .pure [(aI .i64 10), (aI .i64 20), (aI .i64 7)] (Xn v36), .go true, .go true, .pure [(Lf (v11.1.map Xn)), (Lf (List.map Xn [v34, v36]))] (aB v38), .stop 999999] rfl (by repeat' first|apply Ya|exact (pn (X52 _ _ _ _ h2) (cc .sc (cc .sc (cc .sc cn))))|exact (pn (Xcg _ _ h4) (cc .sc cn))|exact (pn (X52 _ _ _ _ h6) (cc .sc (cc .sc (cc .sc cn))))|exact (pn (X52 _ _ _ _ h8) (cc .sc (cc .sc (cc .sc cn))))|exact (pn (Xdg _ h10) cn)|exact (X2k.lent (X8p _ _ _ h12) (cc (X9k (o := true) (x := v9)) (cc (Xh3 rfl (CvL.cons (Xh4 (X0o (es := List.map X4 [v1, v3, v5, v7]) rfl (by first | rfl | (simp; done) | (simp; rfl) | (simp []; done) | (simp []; rfl) | (simp [Ym, Yd]; done) | (simp [Ym, Yd]; rfl)) (by first | rfl | (simp; done) | (simp; omega) | (simp []; done) | (simp []; omega)) (X0 Xx [v1, v3, v5, v7])) rfl rfl) CvL.nil) rfl) cn)) (Xa4 (Xf (X25 (X0 X0y _)) (Xf (X25 (X0 X0k _)) (Xf .sc X08)))))|exact (X2k.lent (X03 _ _ _ h14) (cc (X9k (o := true) (x := v9)) (cc (Xh3 rfl (CvL.cons (Xh4 (X0o (es := List.map X4 [v1, v3, v5, v7]) rfl (by first | rfl | (simp; done) | (simp; rfl) | (simp []; done) | (simp []; rfl) | (simp [Ym, Yd]; done) | (simp [Ym, Yd]; rfl)) (by first | rfl | (simp; done) | (simp; omega) | (simp []; done) | (simp []; omega)) (X0 Xx [v1, v3, v5, v7])) rfl rfl) CvL.nil) rfl) cn)) (Xa4 (Xf (X25 (X0 X0y _)) (Xf (X25 (X0 X0k _)) (Xf .sc X08)))))|exact (pn (Xhh _ _ _ _ h35) (cc .sc (cc .sc (cc .sc cn))))|exact (pn (Xhh _ _ _ _ h37) (cc .sc (cc .sc (cc .sc cn))))|exact (X2k.lent (X97 _ _ _ h39) (cc (X8 (X0 X0y v11.1)) (cc (X0o (es := List.map Xn [v34, v36]) rfl (by first | rfl | (simp; done) | (simp; rfl) | (simp [h33]; done) | (simp [h33]; rfl) | (simp [h33, Ym, Yd]; done) | (simp [h33, Ym, Yd]; rfl)) (by first | rfl | (simp; done) | (simp; omega) | (simp [h33]; done) | (simp [h33]; omega)) (X0 X0y [v34, v36])) cn)) .sc)|exact Xv) ?_
  refine brE h ?_ ?_
  ·clear h; intro h40 h
   refine brE h ?_ ?_
   ·clear h; intro h41 h
    refine X9 h ?_
    clear h; intro e42 h43 h
    try have qh43 := Xz h43
    refine brE h ?_ ?_
    ·clear h; intro h44 h
     refine rn tmD [.go true, .go true, .el (aI .i64 (v11.2.1.length : Int)), .go true, .go true, .go true, .el (X3 e42), .go true, .go true, .go true, .go true, .go true, .stop 999999] rfl (by repeat' first|apply Ya|exact ((X05 h33 h40))|exact (X0u (X05 h33 h40))|exact (Xka (X05 h33 h40))|exact ((X05 (X05 h33 h40) h41))|exact (X0u (X05 (X05 h33 h40) h41))|exact (Xka (X05 (X05 h33 h40) h41))|exact ((X05 (X05 (X05 h33 h40) h41) h44))|exact (X0u (X05 (X05 (X05 h33 h40) h41) h44))|exact (Xka (X05 (X05 (X05 h33 h40) h41) h44))|exact Xv) ?_
     refine brE h ?_ ?_
     ·clear h; intro h45 h
      refine X9 h ?_
      clear h; intro m46 h47 h
      obtain ⟨qah47, qbh47, qch47, qh47⟩ := X3v h47
      have qlh47 := X89 h47
      refine X9 h ?_
      clear h; intro v48 h49 h
      obtain rfl := oj h
      refine rn tmD [.go true, .go true, .go true, .via (AV.list true (m46.map Xn)), .go true, .pure [(Lf (v13.1.map Xn)), (Lf (m46.map Xn))] (aB v48)] rfl (by repeat' first|apply Ya|exact ((X05 (X05 (X05 (X05 h33 h40) h41) h44) h45))|exact (X0u (X05 (X05 (X05 (X05 h33 h40) h41) h44) h45)) | (simp at qah47 qbh47 qch47 ⊢; omega) | (rw [qh47]; simp [Ym, Yd]; done)|exact (pn (X97 _ _ _ h49) (cc (X8 (X0 X0y v13.1)) (cc (X8 (X0 X0y m46)) cn)))|exact (Xka (X05 (X05 (X05 (X05 h33 h40) h41) h44) h45))|exact Xv) ?_
      exact wkT [] (Xa.glue J)
     clear h; intro h45 h
     obtain rfl := oj h
     refine rn tmD [.go false, .go false, .go false, .go false] rfl (by repeat' first|apply Ya|exact ((X05 (X05 (X05 (X05 h33 h40) h41) h44) h45))|exact (X0u (X05 (X05 (X05 (X05 h33 h40) h41) h44) h45))|exact (Xei (X05 (X05 (X05 (X05 h33 h40) h41) h44) h45))|exact Xv) ?_
     exact wkT [] (Xa.glue J)
    clear h; intro h44 h
    obtain rfl := oj h
    refine rn tmD [.go true, .go true, .el (aI .i64 (v11.2.1.length : Int)), .go true, .go true, .go true, .el (X3 e42), .go true, .go true, .go true, .go false, .go false, .go false, .go false, .go false, .go false] rfl (by repeat' first|apply Ya|exact ((X05 h33 h40))|exact (X0u (X05 h33 h40))|exact (Xka (X05 h33 h40))|exact ((X05 (X05 h33 h40) h41))|exact (X0u (X05 (X05 h33 h40) h41))|exact (Xka (X05 (X05 h33 h40) h41))|exact ((X05 (X05 (X05 h33 h40) h41) h44))|exact (X0u (X05 (X05 (X05 h33 h40) h41) h44))|exact (Xei (X05 (X05 (X05 h33 h40) h41) h44))|exact ((X0q (X05 (X05 (X05 h33 h40) h41) h44) rfl))|exact (X0u (X0q (X05 (X05 (X05 h33 h40) h41) h44) rfl))|exact (Xei (X0q (X05 (X05 (X05 h33 h40) h41) h44) rfl))|exact Xv) ?_
    exact wkT [] (Xa.glue J)
   clear h; intro h41 h
   obtain rfl := oj h
   refine rn tmD [.go true, .go true, .el (aI .i64 (v11.2.1.length : Int)), .go true, .go false, .go false, .go false, .go false, .go false, .go false, .go false, .go false, .go false, .go false, .go false] rfl (by repeat' first|apply Ya|exact ((X05 h33 h40))|exact (X0u (X05 h33 h40))|exact (Xka (X05 h33 h40))|exact ((X05 (X05 h33 h40) h41))|exact (X0u (X05 (X05 h33 h40) h41))|exact (Xei (X05 (X05 h33 h40) h41))|exact ((X0q (X05 (X05 h33 h40) h41) rfl))|exact (X0u (X0q (X05 (X05 h33 h40) h41) rfl))|exact (Xei (X0q (X05 (X05 h33 h40) h41) rfl))|exact ((X0q (X0q (X05 (X05 h33 h40) h41) rfl) rfl))|exact (X0u (X0q (X0q (X05 (X05 h33 h40) h41) rfl) rfl))|exact (Xei (X0q (X0q (X05 (X05 h33 h40) h41) rfl) rfl))|exact Xv) ?_
   exact wkT [] (Xa.glue J)
  clear h; intro h40 h
  obtain rfl := oj h
  refine rn tmD [.go false, .go false, .go false, .go false, .go false, .go false, .go false, .go false, .go false, .go false, .go false, .go false, .go false, .go false] rfl (by repeat' first|apply Ya|exact ((X05 h33 h40))|exact (X0u (X05 h33 h40))|exact (Xei (X05 h33 h40))|exact ((X0q (X05 h33 h40) rfl))|exact (X0u (X0q (X05 h33 h40) rfl))|exact (Xei (X0q (X05 h33 h40) rfl))|exact ((X0q (X0q (X05 h33 h40) rfl) rfl))|exact (X0u (X0q (X0q (X05 h33 h40) rfl) rfl))|exact (Xei (X0q (X0q (X05 h33 h40) rfl) rfl))|exact ((X0q (X0q (X0q (X05 h33 h40) rfl) rfl) rfl))|exact (X0u (X0q (X0q (X0q (X05 h33 h40) rfl) rfl) rfl))|exact (Xei (X0q (X0q (X0q (X05 h33 h40) rfl) rfl) rfl))|exact Xv) ?_
  exact wkT [] (Xa.glue J)
 clear h; intro h33 h
 obtain rfl := oj h
 refine rn tmD [.go false, .go false, .go false, .go false, .go false, .go false, .go false, .go false, .go false, .go false, .go false, .go false, .go false, .go false, .go false, .go false, .go false, .go false, .go false] rfl (by repeat' first|apply Ya|exact (pn (X52 _ _ _ _ h2) (cc .sc (cc .sc (cc .sc cn))))|exact (pn (Xcg _ _ h4) (cc .sc cn))|exact (pn (X52 _ _ _ _ h6) (cc .sc (cc .sc (cc .sc cn))))|exact (pn (X52 _ _ _ _ h8) (cc .sc (cc .sc (cc .sc cn))))|exact (pn (Xdg _ h10) cn)|exact (X2k.lent (X8p _ _ _ h12) (cc (X9k (o := true) (x := v9)) (cc (Xh3 rfl (CvL.cons (Xh4 (X0o (es := List.map X4 [v1, v3, v5, v7]) rfl (by first | rfl | (simp; done) | (simp; rfl) | (simp []; done) | (simp []; rfl) | (simp [Ym, Yd]; done) | (simp [Ym, Yd]; rfl)) (by first | rfl | (simp; done) | (simp; omega) | (simp []; done) | (simp []; omega)) (X0 Xx [v1, v3, v5, v7])) rfl rfl) CvL.nil) rfl) cn)) (Xa4 (Xf (X25 (X0 X0y _)) (Xf (X25 (X0 X0k _)) (Xf .sc X08)))))|exact (X2k.lent (X03 _ _ _ h14) (cc (X9k (o := true) (x := v9)) (cc (Xh3 rfl (CvL.cons (Xh4 (X0o (es := List.map X4 [v1, v3, v5, v7]) rfl (by first | rfl | (simp; done) | (simp; rfl) | (simp []; done) | (simp []; rfl) | (simp [Ym, Yd]; done) | (simp [Ym, Yd]; rfl)) (by first | rfl | (simp; done) | (simp; omega) | (simp []; done) | (simp []; omega)) (X0 Xx [v1, v3, v5, v7])) rfl rfl) CvL.nil) rfl) cn)) (Xa4 (Xf (X25 (X0 X0y _)) (Xf (X25 (X0 X0k _)) (Xf .sc X08)))))|exact ((X0q h33 rfl))|exact (X0u (X0q h33 rfl))|exact (Xei (X0q h33 rfl))|exact ((X0q (X0q h33 rfl) rfl))|exact (X0u (X0q (X0q h33 rfl) rfl))|exact (Xei (X0q (X0q h33 rfl) rfl))|exact ((X0q (X0q (X0q h33 rfl) rfl) rfl))|exact (X0u (X0q (X0q (X0q h33 rfl) rfl) rfl))|exact (Xei (X0q (X0q (X0q h33 rfl) rfl) rfl))|exact ((X0q (X0q (X0q (X0q h33 rfl) rfl) rfl) rfl))|exact (X0u (X0q (X0q (X0q (X0q h33 rfl) rfl) rfl) rfl))|exact (Xei (X0q (X0q (X0q (X0q h33 rfl) rfl) rfl) rfl))|exact Xv) ?_
 exact wkT [] (Xa.glue J)
theorem Xb4 (a0 : (List X00)) (r : Bool) (h : Xa3 a0 = some r) : X19 Tryz.prog 43 [(Lf (a0.map X1))] (aB r) := by
 refine X19.sym Xg fn43 (nt := 6) rfl rfl ?_ (Xf .list X08)
 unfold Xa3 at h
 obtain rfl := oj h
 refine Xe tmD [.el (aI .i64 (a0.length : Int))] ?_
 exact X6 rfl (Xew (by first | rfl | (simp [*]; done)))
theorem Xb3 (a0 : Xp) (r : Bool) (h : Xa1 a0 = some r) : X19 Tryz.prog 15 [(Xh false a0)] (aB r) := by
 refine X19.sym Xg fn15 (nt := 17) rfl rfl ?_ (Xf (X1a false _ _).1 X08)
 unfold Xa1 at h
 refine X9 h ?_
 clear h; intro j7_2 h14 h
 refine Xe tmD [.stop 1] ?_
 refine Xa.join (s' := ⟨fr [(2, (aB j7_2))], hp ([]), 0⟩) ?_ (fun J => Xa.cut ?_)
 ·
  obtain rfl := oj h
  refine Xe tmD [] ?_
  exact X6 rfl .sc
 clear h
 have h := h14
 refine X9 h ?_
 clear h; intro v8 h9 h
 refine brE h ?_ ?_
 ·clear h; intro h10 h
  obtain rfl := oj h
  refine rn tmD [.pure [(Lf (a0.Arg.map X1))] (aB v8), .go false, .go false, .go false, .go false, .go false, .go false, .go false] rfl (by repeat' first|apply Ya|exact (pn (Xb4 _ _ h9) (cc (X8 (X0 X7 a0.Arg)) cn))|exact ((X05 h10 rfl))|exact (X0u (X05 h10 rfl))|exact (Xka (X05 h10 rfl))|exact Xv) ?_
  exact wkT [] (Xa.glue J)
 clear h; intro h10 h
 refine X9 h ?_
 clear h; intro v11 h12 h
 refine rn tmD [.pure [(Lf (a0.Arg.map X1))] (aB v8), .go true, .go true, .go true, .pure [(Lf (a0.Where.map X1))] (aB v11), .stop 999999] rfl (by repeat' first|apply Ya|exact (pn (Xb4 _ _ h9) (cc (X8 (X0 X7 a0.Arg)) cn))|exact (pn (Xb4 _ _ h12) (cc (X8 (X0 X7 a0.Where)) cn))|exact Xv) ?_
 refine brE h ?_ ?_
 ·clear h; intro h13 h
  obtain rfl := oj h
  refine rn tmD [.go false, .go false, .go false, .go false] rfl (by repeat' first|apply Ya|exact ((X0q h10 h13))|exact (X0u (X0q h10 h13))|exact (Xka (X0q h10 h13))|exact Xv) ?_
  exact wkT [] (Xa.glue J)
 clear h; intro h13 h
 obtain rfl := oj h
 refine rn tmD [.go true, .go true, .go true, .el (aI .i64 (a0.Sources.length : Int)), .go true] rfl (by repeat' first|apply Ya|exact ((X0q h10 h13))|exact (X0u (X0q h10 h13))|exact (Xei (X0q h10 h13))|exact Xv) ?_
 exact wkT [] (Xa.glue J)
theorem Xgd {Q : X0d -> St -> Mu -> Prop} {μ : Mu} (X14 : (List (List Xi))) : ∀ (n : Nat) (Xlv : Int) (o : X6n) (h : X4i X14 n Xlv = some o)
  (C0 : o = X6n.x0 -> Xa Tryz.prog 31 0 Q (.exit .ret) [] ⟨fr [(2, (aB true))], hp ([]), 0⟩ μ)
  (C1 : o = X6n.x1 -> Xa Tryz.prog 31 0 Q (.exit (.exit 0)) [] ⟨fr [(0, (Lf (List.map (X3e false X4) X14)))], hp ([]), 0⟩ μ),
  Xa Tryz.prog 31 0 Q (.loop (X5o 0 (Xt Tryz.f16))) [] ⟨fr [(0, (Lf (List.map (X3e false X4) X14))), (3, (aI .i64 Xlv))], hp ([]), 0⟩ μ := by
 intro n
 induction n with
 | zero => intro Xlv o h C0 C1; cases h
 | succ n ih =>
  intro Xlv o h C0 C1
  rw [X4i] at h
  refine Xa.round ?_
  refine brE h ?_ ?_
  ·clear h; intro h22 h
   refine X9 h ?_
   clear h; intro Xvm h30 h
   refine Xe tmD [.el (aI .i64 (X14.length : Int)), Bt, .stop 4] ?_
   refine Xa.join (s' := ⟨fr [(0, (Lf (List.map (X3e false X4) X14))), (3, (aI .i64 Xlv)), (27, (aB Xvm))], hp ([]), 0⟩) ?_ (fun J => Xa.cut ?_)
   ·
    refine brE h ?_ ?_
    ·clear h; intro h31 h
     obtain rfl := oj h
     refine Xe tmD [Bt] ?_
     exact wkT [] (C0  rfl)
    clear h; intro h31 h
    refine Xe tmD [Bf, .wrap] ?_
    exact wkT [] (ih  _ o h C0 C1)
   clear h
   have h := h30
   refine X9 h ?_
   clear h; intro e27 h28 h
   try have qh28 := Xz h28
   refine brE h ?_ ?_
   ·clear h; intro h29 h
    obtain rfl := oj h
    refine Xe tmD [.el (X3e false X4 e27), .el (aI .i64 (e27.length : Int)), .go true, .go true, .go true, .el (X3e false X4 e27), .go true, .go true, .el (aI .i64 (e27.length : Int)), .go true] ?_
    exact wkT [] (Xa.glue J)
   clear h; intro h29 h
   obtain rfl := oj h
   refine Xe tmD [.el (X3e false X4 e27), .el (aI .i64 (e27.length : Int)), .go false, .go false, .go false, .go false, .go false, .go false] ?_
   exact wkT [] (Xa.glue J)
  clear h; intro h22 h
  obtain rfl := oj h
  refine Xe tmD [.el (aI .i64 (X14.length : Int)), Bf] ?_
  exact wkT [] (C1  rfl)
theorem Xem (a0 : (List (List Xi))) (r : Bool) (h : X9w a0 = some r) : X19 Tryz.prog 16 [(Lf (List.map (X3e false X4) a0))] (aB r) := by
 refine X19.sym Xg fn16 (nt := 31) rfl rfl ?_ (Xf .list X08)
 unfold X9w at h
 refine X9 h ?_
 clear h; intro o32 h33 h
 refine Xe tmD [] ?_
 refine wkT [] (Xa.cut (Xgd a0 _ _ _ h33 ?_ ?_))
 ·intro eo32; subst eo32
  refine Xa.glue ?_
  try dsimp only at h
  obtain rfl := oj h
  refine Xe tmD [] ?_
  exact X6 rfl .sc
 intro eo32; subst eo32
 refine Xa.glue ?_
 try dsimp only at h
 obtain rfl := oj h
 refine Xe tmD [.el (aI .i64 (a0.length : Int))] ?_
 exact X6 rfl (Xew (by first | rfl | (simp [*]; done)))
theorem X38 (a0 : Int) (r : Int) (h : Xc9 a0 = some r) : X19 Tryz.prog 152 [(aI .u8 a0)] (aI .i64 r) := by
 refine X19.sym Xg X04f (nt := 7) rfl rfl ?_ (Xf .sc X08)
 unfold Xc9 at h
 refine brE h ?_ ?_
 ·clear h; intro h1 h
  obtain rfl := oj h
  refine Xe tmD [Bt] ?_
  exact X6 rfl .sc
 clear h; intro h1 h
 refine brE h ?_ ?_
 ·clear h; intro h2 h
  obtain rfl := oj h
  refine Xe tmD [Bf, Bt] ?_
  exact X6 rfl .sc
 clear h; intro h2 h
 obtain rfl := oj h
 refine Xe tmD [Bf, Bf] ?_
 exact X6 rfl .sc
theorem X4l (a0 : X00) (a1 : Int) (a2 : Int) (r : Bool) (h : X6w a0 a1 a2 = some r) : X19 Tryz.prog 153 [(X1 a0), (aI .i64 a1), (aI .i64 a2)] (aB r) := by
 refine X19.sym Xg X04e (nt := 52) rfl rfl ?_ (Xf (Xbv _ _).1 (Xf .sc (Xf .sc X08)))
 unfold X6w at h
 obtain rfl := oj h
 refine Xe tmD [] ?_
 exact X6 rfl .sc
end Go.Av.Tryz