/- Printed by decomp.py: that the program computes the functions. -/
import Derived.Test.YtfdfgobnpnoomaaGreatDCert9Z
set_option linter.all false

namespace Go.Av.Tryz
open Go.Proofs Go.D
set_option maxRecDepth 10000
set_option maxHeartbeats 40000000
theorem Xda {Q : X0d -> St -> Mu -> Prop} {μ : Mu} (Xg7 : (List X13)) (hl : Xg7.length <= 140737488355328) : ∀ (xs : List X13) (k : Nat) (hx : Xg7.drop k = xs) (Xm : Xb) (Xk : (List Xb)) (X02 : Nb Xk) (o : X8o) (h : X4w Xg7 xs k Xm Xk = some o)
  (C0 : ∀ (Xq : (List Xb)) (X0i : Nb Xq), o = X8o.x0 Xq -> Xa Tryz.prog 112 0 Q (.exit (.exit 0)) [] ⟨fr [(13, (slE X0i.1 0 (Xq.map X2)))], hp ([] ++ opE X0i.1 0 11 (Xq.map X2)), 1⟩ μ)
  (C1 : ∀ (X06 : (List Xb)) (Xil : Int) (X0h : Nb X06), o = X8o.x1 X06 Xil -> Xa Tryz.prog 112 0 Q (.exit .ret) [] ⟨fr [(8, (slE X0h.1 0 (X06.map X2))), (9, (aI .i64 Xil))], hp ([] ++ opE X0h.1 0 11 (X06.map X2)), 1⟩ μ),
  Xa Tryz.prog 112 0 Q (.loop (X5o 0 (Xt Tryz.f51))) [] ⟨fr [(12, (AV.ptr 0 0 0)), (13, (slE X02.1 1 (Xk.map X2))), (91, (AV.list true (Xg7.map X01))), (92, (aI .i64 (Xg7.length : Int))), (93, (aI .i64 (k : Int)))], hp ([(0, Ob [(X2 Xm)] 11)] ++ opE X02.1 1 11 (Xk.map X2)), 2⟩ μ := by
 intro xs
 induction xs with
 | nil =>
  intro k hx Xm Xk X02 o h C0 C1
  have hk := X1u hx
  have hc : decide ((k : Int) < (Xg7.length : Int)) = false := Yf (by omega)
  rw [X4w] at h
  rcases X02 with ⟨_ | _, X0n⟩
  ·
   refine Xa.round ?_
   obtain rfl := oj h
   refine Xe tmD [Bf] ?_
   exact wkT [(0, 1)] (C0 _  nbF rfl)
  ·
   obtain rfl := X0n rfl
   refine Xa.round ?_
   obtain rfl := oj h
   refine Xe tmD [Bf] ?_
   exact wkT [] (C0 _  (nbT (by first | rfl | simp [*])) rfl)
 | cons x xs ih =>
  intro k hx Xm Xk X02 o h C0 C1
  obtain ⟨hk, hg, hx1⟩ := X16 hx
  have hc : decide ((k : Int) < (Xg7.length : Int)) = true := Yt (by omega)
  rw [X4w] at h
  rcases X02 with ⟨_ | _, X0n⟩
  ·
   refine Xa.round ?_
   refine X9 h ?_
   clear h; intro w1890 h1937 h
   obtain ⟨Xxy, Xmu, Xqa⟩ := w1890
   try dsimp only at h
   refine Xe tmD [Bt, .el (X01 x)] ?_
   refine Xa.joinOpF (fun (q : Nb Xmu) => ⟨fr [(12, (AV.ptr 0 0 0)), (91, (AV.list true (Xg7.map X01))), (92, (aI .i64 (Xg7.length : Int))), (93, (aI .i64 (k : Int))), (101, (AV.tup [(slE q.1 1 (Xmu.map X2)), (aI .i64 Xqa)]))], hp ([(0, Ob [(X2 Xxy)] 11)] ++ opE q.1 1 11 (Xmu.map X2)), 2⟩) ?_ (fun J => ?_)
   ·
    rintro Xpl
    rcases Xpl with ⟨_ | _, Xqh⟩
    ·
     refine brE h ?_ ?_
     ·clear h; intro h1938 h
      obtain rfl := oj h
      refine Xe tmD [Bt] ?_
      exact wkT [] (C1 _ _  (nbT (by first | rfl | simp [*])) rfl)
     clear h; intro h1938 h
     refine Xe tmD [Bf] ?_
     exact wkT [] (ih (k + 1) hx1 _ _ nbF o h C0 C1)
    obtain rfl := Xqh rfl
    refine brE h ?_ ?_
    ·clear h; intro h1939 h
     obtain rfl := oj h
     refine Xe tmD [Bt] ?_
     exact wkT [] (C1 _ _  (nbT (by first | rfl | simp [*])) rfl)
    clear h; intro h1939 h
    refine Xe tmD [Bf] ?_
    exact wkT [] (ih (k + 1) hx1 _ _ (nbT (by first | rfl | simp [*])) o h C0 C1)
   clear h
   have h := h1937
   refine Xa.inline Xg fn84 rfl rfl rfl rfl rfl trivial trivial rfl rfl ?_
   refine X9 h ?_
   clear h; intro v1891 h1892 h
   refine rn tmD [.pure [(Lf (Xk.map X2)), (X2 (Xb.mk Xm.Key x Xm.Values)), (AV.fn 110 [])] (AV.tup [(aI .i64 v1891.1), (aB v1891.2)])] rfl (by repeat' first|apply Ya|exact (X2k.lent (Xw _ _ _ h1892) (cc (X0o (es := Xk.map X2) rfl (by first | rfl | (simp; done) | (simp; rfl) | (simp [hc]; done) | (simp [hc]; rfl) | (simp [hc, Ym, Yd]; done) | (simp [hc, Ym, Yd]; rfl)) (by first | rfl | (simp; done) | (simp; omega) | (simp [hc]; done) | (simp [hc]; omega)) (X0 X1f Xk)) (cc (X0t (x := (Xb.mk Xm.Key x Xm.Values))) (cc .fn0 cn))) (Xa4 (Xf .sc (Xf .sc X08))))|exact Xv) ?_
   refine brE h ?_ ?_
   ·clear h; intro h1893 h
    refine brE h ?_ ?_
    ·clear h; intro h1894 h
     refine X9 h ?_
     clear h; intro _ h1910 h
     refine Xe tmD [Bt] ?_
     refine Xa.joinOp (s' := ⟨fr [(21, (AV.ref 2 0 (List.length (Xk ++ [(Xb.mk Xm.Key x Xm.Values)]))))], hp ([(0, Ob [(X2 (Xb.mk Xm.Key x Xm.Values))] 11), (2, Ob (List.map X2 (Xk ++ [(Xb.mk Xm.Key x Xm.Values)])) 11)]), 3⟩) ?_ (fun J => ?_)
     ·
      simp only [Option.some.injEq, Prod.mk.injEq] at h
      obtain ⟨rfl, rfl, rfl⟩ := h
      refine Xe tmD [] ?_
      refine Xa.back (by intro id h; cases h) rfl ?_
      exact wkT [(1, 2)] ((J nbF))
     clear h
     have h := h1910
     refine Xa.inline Xg Xtp rfl rfl rfl rfl rfl trivial trivial rfl rfl ?_
     refine X9 h ?_
     clear h; intro m1903 h1904 h
     obtain ⟨qah1904, qbh1904, qch1904, qh1904⟩ := X3v h1904
     have qlh1904 := X89 h1904
     refine brE h ?_ ?_
     ·clear h; intro h1905 h
      refine X9 h ?_
      clear h; intro u1906 h1907 h
      refine rn tmD [.ne false, Bf, .el (aI .i64 (Xk.length : Int)), Bt, .no] rfl (by repeat' first | refine Ya ?_ ?_ | (simp at qah1904 qbh1904 qch1904 ⊢; omega) | (simp at qah1904 qbh1904 qch1904 qlh1904 ⊢; have qz := X3k h1905; omega) | (refine X0w h1907 rfl ?_; first | (simp; done) | (simp; omega) | (simp [hc, h1893, h1894, h1905]; done) | (simp [hc, h1893, h1894, h1905]; omega)) | (refine X0a h1907 (by decide) ?_; first | (simp; done) | (simp; omega) | (simp [hc, h1893, h1894, h1905]; done) | (simp [hc, h1893, h1894, h1905]; omega))|exact Xv) ?_
      refine Xa.back (by intro id h; cases h) rfl ?_
      exact wkT [(2, 4)] (J)
     clear h; intro h1905 h
     refine X9 h ?_
     clear h; intro u1908 h1909 h
     refine rn tmD [.via (.ref 1 (Int.toNat v1891.1) (m1903.length)), Bf, .el (aI .i64 (Xk.length : Int)), Bt, .no] rfl (by repeat' first | refine Ya ?_ ?_ | (simp at qah1904 qbh1904 qch1904 ⊢; omega) | (simp at qah1904 qbh1904 qch1904 qlh1904 ⊢; have qz := X1h h1905; omega) | (simp at qah1904 qbh1904 qch1904 qlh1904 ⊢; omega) | (simp; done) | (refine X0w h1909 rfl ?_; first | (simp; done) | (simp; omega) | (simp [hc, h1893, h1894, h1905]; done) | (simp [hc, h1893, h1894, h1905]; omega)) | (refine X0a h1909 (by decide) ?_; first | (simp; done) | (simp; omega) | (simp [hc, h1893, h1894, h1905]; done) | (simp [hc, h1893, h1894, h1905]; omega))|exact Xv) ?_
     refine Xa.back (by intro id h; cases h) rfl ?_
     exact wkT [(2, 4)] (J)
    clear h; intro h1894 h
    refine X9 h ?_
    clear h; intro m1911 h1912 h
    refine Xe tmD [Bt] ?_
    refine Xa.hcall rfl rfl rfl rfl rfl trivial trivial (Xro ⟨_, _, Xtp⟩ (f := X2) (l := Xk) (x := (Xb.mk Xm.Key x Xm.Values)) h1912 rfl rfl rfl (by first | rfl | simp)) ?_
    simp only [Option.some.injEq, Prod.mk.injEq] at h
    obtain ⟨rfl, rfl, rfl⟩ := h
    refine Xe tmD [] ?_
    refine Xa.back (by intro id h; cases h) rfl ?_
    exact wkT [(1, 4)] ((J nbF))
   clear h; intro h1893 h
   refine Xe tmD [Bf, .stop 4] ?_
   refine X9 h ?_
   clear h; intro e1913 h1914 h
   try have qh1914 := Xz h1914
   refine Xa.drawnCut 5 tmD [.el (X2 e1913)] rfl rfl rfl rfl rfl (by repeat' first|apply Ya|exact Xv) ?_
   refine X9 h ?_
   clear h; intro w1925 h1936 h
   obtain ⟨Xmt, Xxx⟩ := w1925
   try dsimp only at h
   refine Xe tmD [] ?_
   refine Xa.joinOpF (fun (q : Nb Xmt) => ⟨fr [(0, (slE q.1 2 (Xmt.map X2))), (27, (aI .i64 Xxx))], hp ([(0, Ob [(X2 (Xb.mk Xm.Key x Xm.Values))] 11)] ++ opE q.1 2 11 (Xmt.map X2)), 3⟩) ?_ (fun J => ?_)
   ·
    rintro Xpk
    rcases Xpk with ⟨_ | _, Xqg⟩
    ·
     simp only [Option.some.injEq, Prod.mk.injEq] at h
     obtain ⟨rfl, rfl, rfl⟩ := h
     refine Xe tmD [] ?_
     refine Xa.back (by intro id h; cases h) rfl ?_
     exact wkT [(1, 2)] ((J nbF))
    obtain rfl := Xqg rfl
    simp only [Option.some.injEq, Prod.mk.injEq] at h
    obtain ⟨rfl, rfl, rfl⟩ := h
    refine Xe tmD [] ?_
    refine Xa.back (by intro id h; cases h) rfl ?_
    exact wkT [] ((J (nbT (by first | rfl | simp [*]))))
   clear h
   have h := h1936
   refine Xa.inline Xg X015 rfl rfl rfl rfl rfl trivial trivial rfl rfl ?_
   refine Xe tmD [] ?_
   refine Xa.round ?_
   refine X9 h ?_
   clear h; intro v1928 h1929 h
   refine rn tmD [Bt, .ix 0, .ix 0, .ld (X2 e1913), .pure [(X04 e1913.Values.e0), (X04 Xm.Values.e0)] (AV.tup [(X04 v1928.1), (aI .i64 v1928.2)])] rfl (by repeat' first|apply Ya|exact (pn (X1g _ _ _ h1929) (cc (X0f (x := e1913.Values.e0)) (cc (X0f (x := Xm.Values.e0)) cn)))|exact Xv) ?_
   refine brE h ?_ ?_
   ·clear h; intro h1930 h
    simp only [Option.some.injEq, Prod.mk.injEq] at h
    obtain ⟨rfl, rfl⟩ := h
    refine Xe tmD [Bt] ?_
    refine Xa.back (by intro id h; cases h) rfl ?_
    exact wkT [(2, 1)] ((J nbF))
   clear h; intro h1930 h
   refine rn tmD [Bf, .ix 0, .ld (X2 e1913)] rfl (by repeat' first|apply Ya|exact (List.getElem?_set_self (by have hq := X2w h1914; simp; omega)).trans rfl|exact Xv) ?_
   refine Xa.round ?_
   refine X9 h ?_
   clear h; intro v1933 h1934 h
   refine rn tmD [Bt, .ix 1, .ix 1, .ld (X2 (Xb.mk e1913.Key e1913.Span (V2.mk v1928.1 e1913.Values.e1))), .pure [(X04 (((Xb.mk e1913.Key e1913.Span (V2.mk v1928.1 e1913.Values.e1)).Values).e1)), (X04 Xm.Values.e1)] (AV.tup [(X04 v1933.1), (aI .i64 v1933.2)])] rfl (by repeat' first|apply Ya|exact (List.getElem?_set_self (by have hq := X2w h1914; simp; omega)).trans rfl|exact (pn (X1g _ _ _ h1934) (cc (X0f (x := ((Xb.mk e1913.Key e1913.Span (V2.mk v1928.1 e1913.Values.e1)).Values).e1)) (cc (X0f (x := Xm.Values.e1)) cn)))|exact Xv) ?_
   refine brE h ?_ ?_
   ·clear h; intro h1935 h
    simp only [Option.some.injEq, Prod.mk.injEq] at h
    obtain ⟨rfl, rfl⟩ := h
    refine rn tmD [Bt] rfl (by repeat' first|apply Ya|exact (List.getElem?_set_self (by have hq := X2w h1914; simp; omega)).trans rfl|exact Xv) ?_
    refine Xa.back (by intro id h; cases h) rfl ?_
    exact wkT [(2, 1)] ((J nbF))
   clear h; intro h1935 h
   refine rn tmD [Bf, .ix 1, .ld (X2 (Xb.mk e1913.Key e1913.Span (V2.mk v1928.1 e1913.Values.e1)))] rfl (by repeat' first|apply Ya|exact (List.getElem?_set_self (by have hq := X2w h1914; simp; omega)).trans rfl|exact Xv) ?_
   refine Xa.round ?_
   simp only [Option.some.injEq, Prod.mk.injEq] at h
   obtain ⟨rfl, rfl⟩ := h
   refine rn tmD [Bf] rfl (by repeat' first|apply Ya|exact (List.getElem?_set_self (by have hq := X2w h1914; simp; omega)).trans rfl|exact Xv) ?_
   refine Xa.back (by intro id h; cases h) rfl ?_
   exact wkT [(2, 1)] ((J nbF))
  obtain rfl := X0n rfl
  refine Xa.round ?_
  refine X9 h ?_
  clear h; intro w1960 h1981 h
  obtain ⟨Xxw, Xms, Xq9⟩ := w1960
  try dsimp only at h
  refine Xe tmD [Bt, .el (X01 x)] ?_
  refine Xa.joinOpF (fun (q : Nb Xms) => ⟨fr [(12, (AV.ptr 0 0 0)), (91, (AV.list true (Xg7.map X01))), (92, (aI .i64 (Xg7.length : Int))), (93, (aI .i64 (k : Int))), (101, (AV.tup [(slE q.1 1 (Xms.map X2)), (aI .i64 Xq9)]))], hp ([(0, Ob [(X2 Xxw)] 11)] ++ opE q.1 1 11 (Xms.map X2)), 2⟩) ?_ (fun J => ?_)
  ·
   rintro Xpj
   rcases Xpj with ⟨_ | _, Xqf⟩
   ·
    refine brE h ?_ ?_
    ·clear h; intro h1982 h
     obtain rfl := oj h
     refine Xe tmD [Bt] ?_
     exact wkT [] (C1 _ _  (nbT (by first | rfl | simp [*])) rfl)
    clear h; intro h1982 h
    refine Xe tmD [Bf] ?_
    exact wkT [] (ih (k + 1) hx1 _ _ nbF o h C0 C1)
   obtain rfl := Xqf rfl
   refine brE h ?_ ?_
   ·clear h; intro h1983 h
    obtain rfl := oj h
    refine Xe tmD [Bt] ?_
    exact wkT [] (C1 _ _  (nbT (by first | rfl | simp [*])) rfl)
   clear h; intro h1983 h
   refine Xe tmD [Bf] ?_
   exact wkT [] (ih (k + 1) hx1 _ _ (nbT (by first | rfl | simp [*])) o h C0 C1)
  clear h
  have h := h1981
  refine Xa.inline Xg fn84 rfl rfl rfl rfl rfl trivial trivial rfl rfl ?_
  refine X9 h ?_
  clear h; intro v1961 h1962 h
  refine rn tmD [.pure [(Lf (List.map X2 ([] : List Xb))), (X2 (Xb.mk Xm.Key x Xm.Values)), (AV.fn 110 [])] (AV.tup [(aI .i64 v1961.1), (aB v1961.2)])] rfl (by repeat' first|apply Ya|exact (pn (Xw _ _ _ h1962) (cc (Zn X2) (cc (X0t (x := (Xb.mk Xm.Key x Xm.Values))) (cc .fn0 cn))))|exact Xv) ?_
  refine brE h ?_ ?_
  ·clear h; intro h1963 h
   refine brE h ?_ ?_
   ·clear h; intro h1964 h
    refine X9 h ?_
    clear h; intro _ h1976 h
    refine Xe tmD [Bt] ?_
    refine Xa.joinOp (s' := ⟨fr [(21, (AV.ref 2 0 (List.length (([] : List Xb) ++ [(Xb.mk Xm.Key x Xm.Values)]))))], hp ([(0, Ob [(X2 (Xb.mk Xm.Key x Xm.Values))] 11), (2, Ob (List.map X2 (([] : List Xb) ++ [(Xb.mk Xm.Key x Xm.Values)])) 11)]), 3⟩) ?_ (fun J => ?_)
    ·
     simp only [Option.some.injEq, Prod.mk.injEq] at h
     obtain ⟨rfl, rfl, rfl⟩ := h
     refine Xe tmD [] ?_
     refine Xa.back (by intro id h; cases h) rfl ?_
     exact wkT [(1, 2)] ((J nbF))
    clear h
    have h := h1976
    refine Xa.inline Xg Xtp rfl rfl rfl rfl rfl trivial trivial rfl rfl ?_
    refine X9 h ?_
    clear h; intro m1971 h1972 h
    obtain ⟨qah1972, qbh1972, qch1972, qh1972⟩ := X3v h1972
    obtain rfl := X9d h1972
    refine brE h ?_ ?_
    ·clear h; intro h1973 h
     refine X9 h ?_
     clear h; intro u1974 h1975 h
     refine rn tmD [Bf, .el (aI .i64 (List.length ([] : List Xb) : Int)), Bt, .no] rfl (by repeat' first | refine Ya ?_ ?_ | (simp at qah1972 qbh1972 qch1972 ⊢; omega) | (refine X0w h1975 rfl ?_; first | (simp; done) | (simp; omega) | (simp [hc, h1963, h1964, h1973]; done) | (simp [hc, h1963, h1964, h1973]; omega)) | (refine X0a h1975 (by decide) ?_; first | (simp; done) | (simp; omega) | (simp [hc, h1963, h1964, h1973]; done) | (simp [hc, h1963, h1964, h1973]; omega))|exact Xv) ?_
     refine Xa.back (by intro id h; cases h) rfl ?_
     exact wkT [(2, 4)] (J)
    clear h; intro h1973 h
    exact absurd h1973 (by simp)
   clear h; intro h1964 h
   refine X9 h ?_
   clear h; intro m1977 h1978 h
   exact absurd h1978 (by simp [Xt2])
  clear h; intro h1963 h
  refine Xe tmD [Bf, .stop 4] ?_
  refine X9 h ?_
  clear h; intro e1979 h1980 h
  try have qh1980 := Xz h1980
  exact absurd (h1980) (by simp [X2o])
end Go.Av.Tryz