/- Printed by decomp.py: that the program computes the functions. -/
import Derived.Test.YtfdfgobnpnoomaaGreatDCert10Z
set_option linter.all false
set_option linter.unusedVariables false
namespace Go.Av.Tryz
open Go.Proofs Go.D
set_option maxRecDepth 10000
set_option maxHeartbeats 4000000

theorem store_Add_L0_ok {Q : AExit → St → Mu → Prop} {μ : Mu} (y0_91 : (List GSpan)) (hl : List.length y0_91 ≤ 140737488355328) : ∀ (xs : List GSpan) (k : Nat) (hx : y0_91.drop k = xs) (y0_o0 : GEntry) (y0_o1 : (List GEntry)) (nb_y0_o1 : Nb y0_o1) (o : store_Add_L0_o) (h : store_Add_L0 y0_91 xs k y0_o0 y0_o1 = some o)
  (C0 : ∀ (z0_0_o0 : (List GEntry)) (nb_z0_0_o0 : Nb z0_0_o0), o = store_Add_L0_o.x0 z0_0_o0 → SemK Tryz.prog 112 0 Q (.exit (.exit 0)) [] ⟨fr [(13, (slE nb_z0_0_o0.1 0 (List.map enc_GEntry z0_0_o0)))], hp ([] ++ opE nb_z0_0_o0.1 0 11 (List.map enc_GEntry z0_0_o0)), 1⟩ μ)
  (C1 : ∀ (z0_1_o0 : (List GEntry)) (z0_1_9 : Int) (nb_z0_1_o0 : Nb z0_1_o0), o = store_Add_L0_o.x1 z0_1_o0 z0_1_9 → SemK Tryz.prog 112 0 Q (.exit .ret) [] ⟨fr [(8, (slE nb_z0_1_o0.1 0 (List.map enc_GEntry z0_1_o0))), (9, (aI .i64 z0_1_9))], hp ([] ++ opE nb_z0_1_o0.1 0 11 (List.map enc_GEntry z0_1_o0)), 1⟩ μ),
  SemK Tryz.prog 112 0 Q (.loop (loopB 0 (bodyOf Tryz.f51))) [] ⟨fr [(12, (AV.ptr 0 0 0)), (13, (slE nb_y0_o1.1 1 (List.map enc_GEntry y0_o1))), (91, (AV.list true (List.map enc_GSpan y0_91))), (92, (aI .i64 (List.length y0_91 : Int))), (93, (aI .i64 (k : Int)))], hp ([(0, { es := [(enc_GEntry y0_o0)], esz := 11 })] ++ opE nb_y0_o1.1 1 11 (List.map enc_GEntry y0_o1)), 2⟩ μ := by
 intro xs
 induction xs with
 | nil =>
  intro k hx y0_o0 y0_o1 nb_y0_o1 o h C0 C1
  have hk := drop_nil hx
  have hc : decide ((k : Int) < (List.length y0_91 : Int)) = false := decide_eq_false (by omega)
  rw [store_Add_L0] at h
  rcases nb_y0_o1 with ⟨_ | _, hn_y0_o1⟩
  ·
   refine SemK.round ?_
   obtain rfl := Option.some.inj h
   refine runT tmD [.br false] ?_
   exact wkT [(0, 1)] (C0 _  nbF rfl)
  ·
   obtain rfl := hn_y0_o1 rfl
   refine SemK.round ?_
   obtain rfl := Option.some.inj h
   refine runT tmD [.br false] ?_
   exact wkT [] (C0 _  (nbT (by first | rfl | simp [*])) rfl)
 | cons x xs ih =>
  intro k hx y0_o0 y0_o1 nb_y0_o1 o h C0 C1
  obtain ⟨hk, hg, hx1⟩ := drop_cons hx
  have hc : decide ((k : Int) < (List.length y0_91 : Int)) = true := decide_eq_true (by omega)
  rw [store_Add_L0] at h
  rcases nb_y0_o1 with ⟨_ | _, hn_y0_o1⟩
  ·
   refine SemK.round ?_
   refine bindE h ?_
   clear h; intro w1883 h1930 h
   obtain ⟨j1883_o0, j1883_o1, j1883_101_1⟩ := w1883
   try dsimp only at h
   refine runT tmD [.br true, .el (enc_GSpan x)] ?_
   refine SemK.joinOpF (fun (q : Nb j1883_o1) => ⟨fr [(12, (AV.ptr 0 0 0)), (91, (AV.list true (List.map enc_GSpan y0_91))), (92, (aI .i64 (List.length y0_91 : Int))), (93, (aI .i64 (k : Int))), (101, (AV.tup [(slE q.1 1 (List.map enc_GEntry j1883_o1)), (aI .i64 j1883_101_1)]))], hp ([(0, { es := [(enc_GEntry j1883_o0)], esz := 11 })] ++ opE q.1 1 11 (List.map enc_GEntry j1883_o1)), 2⟩) ?_ (fun J => ?_)
   ·
    rintro nb_j1883_o1
    rcases nb_j1883_o1 with ⟨_ | _, hn_j1883_o1⟩
    ·
     refine brE h ?_ ?_
     ·clear h; intro h1931 h
      obtain rfl := Option.some.inj h
      refine runT tmD [.br true] ?_
      exact wkT [] (C1 _ _  (nbT (by first | rfl | simp [*])) rfl)
     ·clear h; intro h1931 h
      refine runT tmD [.br false] ?_
      exact wkT [] (ih (k + 1) hx1 _ _ nbF o h C0 C1)
    ·
     obtain rfl := hn_j1883_o1 rfl
     refine brE h ?_ ?_
     ·clear h; intro h1932 h
      obtain rfl := Option.some.inj h
      refine runT tmD [.br true] ?_
      exact wkT [] (C1 _ _  (nbT (by first | rfl | simp [*])) rfl)
     ·clear h; intro h1932 h
      refine runT tmD [.br false] ?_
      exact wkT [] (ih (k + 1) hx1 _ _ (nbT (by first | rfl | simp [*])) o h C0 C1)
   ·
    clear h
    have h := h1930
    refine SemK.inline tyTab_ok fn84 rfl rfl rfl rfl rfl trivial trivial rfl rfl ?_
    refine bindE h ?_
    clear h; intro v1884 h1885 h
    refine run_to tmD 4000 [.pure [(AV.list false (List.map enc_GEntry y0_o1)), (enc_GEntry (GEntry.mk y0_o0.Key x y0_o0.Values)), (AV.fn 110 [])] (AV.tup [(aI .i64 v1884.1), (aB v1884.2)])] rfl (by repeat' first | refine And.intro ?_ ?_ | exact (PureCall.lent (slices_BinarySearchFunc_Entry_Entry_Entry_store_order_ok _ _ _ h1885) (Cvs.cons (cv_ref (es := List.map enc_GEntry y0_o1) rfl (by first | rfl | (simp; done) | (simp; rfl) | (simp [hc]; done) | (simp [hc]; rfl) | (simp [hc, List.map_take, List.map_drop]; done) | (simp [hc, List.map_take, List.map_drop]; rfl)) (by first | rfl | (simp; done) | (simp; omega) | (simp [hc]; done) | (simp [hc]; omega)) (flat_map flat_GEntry y0_o1)) (Cvs.cons (cvf_GEntry (x := (GEntry.mk y0_o0.Key x y0_o0.Values))) (Cvs.cons .fn0 Cvs.nil))) (ownTup (allCons .sc (allCons .sc allNil)))) | exact oblA) ?_
    refine brE h ?_ ?_
    ·clear h; intro h1886 h
     refine brE h ?_ ?_
     ·clear h; intro h1887 h
      refine bindE h ?_
      clear h; intro _ h1903 h
      refine runT tmD [.br true] ?_
      refine SemK.joinOp (s' := ⟨fr [(21, (AV.ref 2 0 (List.length (y0_o1 ++ [(GEntry.mk y0_o0.Key x y0_o0.Values)]))))], hp ([(0, { es := [(enc_GEntry (GEntry.mk y0_o0.Key x y0_o0.Values))], esz := 11 }), (2, { es := List.map enc_GEntry (y0_o1 ++ [(GEntry.mk y0_o0.Key x y0_o0.Values)]), esz := 11 })]), 3⟩) ?_ (fun J => ?_)
      ·
       cases h
       refine runT tmD [] ?_
       refine SemK.back (by intro id h; cases h) rfl ?_
       exact wkT [(1, 2)] ((J nbF))
      ·
       clear h
       have h := h1903
       refine SemK.inline tyTab_ok fn120 rfl rfl rfl rfl rfl trivial trivial rfl rfl ?_
       refine bindE h ?_
       clear h; intro m1896 h1897 h
       obtain ⟨qah1897, qbh1897, qch1897, qh1897⟩ := sliceI_ok h1897
       have qlh1897 := sliceI_len h1897
       refine brE h ?_ ?_
       ·clear h; intro h1898 h
        refine bindE h ?_
        clear h; intro u1899 h1900 h
        refine run_to tmD 4000 [.ne false, .br false, .el (aI .i64 (List.length y0_o1 : Int)), .br true, .no] rfl (by repeat' first | refine And.intro ?_ ?_ | (simp at qah1897 qbh1897 qch1897 ⊢; omega) | (simp at qah1897 qbh1897 qch1897 qlh1897 ⊢; have qz := part_zero h1898; omega) | (refine capLe h1900 rfl ?_; first | (simp; done) | (simp; omega) | (simp [hc, h1886, h1887, h1898]; done) | (simp [hc, h1886, h1887, h1898]; omega)) | (refine capMax h1900 (by decide) ?_; first | (simp; done) | (simp; omega) | (simp [hc, h1886, h1887, h1898]; done) | (simp [hc, h1886, h1887, h1898]; omega)) | exact oblA) ?_
        refine SemK.back (by intro id h; cases h) rfl ?_
        exact wkT [(2, 4)] (J)
       ·clear h; intro h1898 h
        refine bindE h ?_
        clear h; intro u1901 h1902 h
        refine run_to tmD 4000 [.via (.ref 1 (Int.toNat v1884.1) (List.length m1896)), .br false, .el (aI .i64 (List.length y0_o1 : Int)), .br true, .no] rfl (by repeat' first | refine And.intro ?_ ?_ | (simp at qah1897 qbh1897 qch1897 ⊢; omega) | (simp at qah1897 qbh1897 qch1897 qlh1897 ⊢; have qz := part_pos h1898; omega) | (simp at qah1897 qbh1897 qch1897 qlh1897 ⊢; omega) | (simp; done) | (refine capLe h1902 rfl ?_; first | (simp; done) | (simp; omega) | (simp [hc, h1886, h1887, h1898]; done) | (simp [hc, h1886, h1887, h1898]; omega)) | (refine capMax h1902 (by decide) ?_; first | (simp; done) | (simp; omega) | (simp [hc, h1886, h1887, h1898]; done) | (simp [hc, h1886, h1887, h1898]; omega)) | exact oblA) ?_
        refine SemK.back (by intro id h; cases h) rfl ?_
        exact wkT [(2, 4)] (J)
     ·clear h; intro h1887 h
      refine bindE h ?_
      clear h; intro m1904 h1905 h
      refine runT tmD [.br true] ?_
      refine SemK.hcall rfl rfl rfl rfl rfl trivial trivial (insert_z ⟨_, _, fn120⟩ (f := enc_GEntry) (l := y0_o1) (x := (GEntry.mk y0_o0.Key x y0_o0.Values)) h1905 rfl rfl rfl (by first | rfl | simp)) ?_
      cases h
      refine runT tmD [] ?_
      refine SemK.back (by intro id h; cases h) rfl ?_
      exact wkT [(1, 4)] ((J nbF))
    ·clear h; intro h1886 h
     refine runT tmD [.br false, .stop 4] ?_
     refine bindE h ?_
     clear h; intro e1906 h1907 h
     try have qh1907 := getI_lt h1907
     refine SemK.drawnCut 5 tmD [.el (enc_GEntry e1906)] rfl rfl rfl rfl rfl (by repeat' first | refine And.intro ?_ ?_ | exact oblA) ?_
     refine bindE h ?_
     clear h; intro w1918 h1929 h
     obtain ⟨j1918_o2, j1918_27⟩ := w1918
     try dsimp only at h
     refine runT tmD [] ?_
     refine SemK.joinOpF (fun (q : Nb j1918_o2) => ⟨fr [(0, (slE q.1 2 (List.map enc_GEntry j1918_o2))), (27, (aI .i64 j1918_27))], hp ([(0, { es := [(enc_GEntry (GEntry.mk y0_o0.Key x y0_o0.Values))], esz := 11 })] ++ opE q.1 2 11 (List.map enc_GEntry j1918_o2)), 3⟩) ?_ (fun J => ?_)
     ·
      rintro nb_j1918_o2
      rcases nb_j1918_o2 with ⟨_ | _, hn_j1918_o2⟩
      ·
       cases h
       refine runT tmD [] ?_
       refine SemK.back (by intro id h; cases h) rfl ?_
       exact wkT [(1, 2)] ((J nbF))
      ·
       obtain rfl := hn_j1918_o2 rfl
       cases h
       refine runT tmD [] ?_
       refine SemK.back (by intro id h; cases h) rfl ?_
       exact wkT [] ((J (nbT (by first | rfl | simp [*]))))
     ·
      clear h
      have h := h1929
      refine SemK.inline tyTab_ok fn115 rfl rfl rfl rfl rfl trivial trivial rfl rfl ?_
      refine runT tmD [] ?_
      refine SemK.round ?_
      refine bindE h ?_
      clear h; intro v1921 h1922 h
      refine run_to tmD 4000 [.br true, .ix 0, .ix 0, .ld (enc_GEntry e1906), .pure [(enc_GAccum e1906.Values.e0), (enc_GAccum y0_o0.Values.e0)] (AV.tup [(enc_GAccum v1921.1), (aI .i64 v1921.2)])] rfl (by repeat' first | refine And.intro ?_ ?_ | exact (PureCall.none (accums_Join_ok _ _ _ h1922) (Cvs.cons (cvf_GAccum (x := e1906.Values.e0)) (Cvs.cons (cvf_GAccum (x := y0_o0.Values.e0)) Cvs.nil))) | exact oblA) ?_
      refine brE h ?_ ?_
      ·clear h; intro h1923 h
       cases h
       refine runT tmD [.br true] ?_
       refine SemK.back (by intro id h; cases h) rfl ?_
       exact wkT [(2, 1)] ((J nbF))
      ·clear h; intro h1923 h
       refine run_to tmD 4000 [.br false, .ix 0, .ld (enc_GEntry e1906)] rfl (by repeat' first | refine And.intro ?_ ?_ | exact (List.getElem?_set_self (by have hq := getI_nat h1907; simp; omega)).trans rfl | exact oblA) ?_
       refine SemK.round ?_
       refine bindE h ?_
       clear h; intro v1926 h1927 h
       refine run_to tmD 4000 [.br true, .ix 1, .ix 1, .ld (enc_GEntry (GEntry.mk e1906.Key e1906.Span (V2.mk v1921.1 e1906.Values.e1))), .pure [(enc_GAccum (((GEntry.mk e1906.Key e1906.Span (V2.mk v1921.1 e1906.Values.e1)).Values).e1)), (enc_GAccum y0_o0.Values.e1)] (AV.tup [(enc_GAccum v1926.1), (aI .i64 v1926.2)])] rfl (by repeat' first | refine And.intro ?_ ?_ | exact (List.getElem?_set_self (by have hq := getI_nat h1907; simp; omega)).trans rfl | exact (PureCall.none (accums_Join_ok _ _ _ h1927) (Cvs.cons (cvf_GAccum (x := ((GEntry.mk e1906.Key e1906.Span (V2.mk v1921.1 e1906.Values.e1)).Values).e1)) (Cvs.cons (cvf_GAccum (x := y0_o0.Values.e1)) Cvs.nil))) | exact oblA) ?_
       refine brE h ?_ ?_
       ·clear h; intro h1928 h
        cases h
        refine run_to tmD 4000 [.br true] rfl (by repeat' first | refine And.intro ?_ ?_ | exact (List.getElem?_set_self (by have hq := getI_nat h1907; simp; omega)).trans rfl | exact oblA) ?_
        refine SemK.back (by intro id h; cases h) rfl ?_
        exact wkT [(2, 1)] ((J nbF))
       ·clear h; intro h1928 h
        refine run_to tmD 4000 [.br false, .ix 1, .ld (enc_GEntry (GEntry.mk e1906.Key e1906.Span (V2.mk v1921.1 e1906.Values.e1)))] rfl (by repeat' first | refine And.intro ?_ ?_ | exact (List.getElem?_set_self (by have hq := getI_nat h1907; simp; omega)).trans rfl | exact oblA) ?_
        refine SemK.round ?_
        cases h
        refine run_to tmD 4000 [.br false] rfl (by repeat' first | refine And.intro ?_ ?_ | exact (List.getElem?_set_self (by have hq := getI_nat h1907; simp; omega)).trans rfl | exact oblA) ?_
        refine SemK.back (by intro id h; cases h) rfl ?_
        exact wkT [(2, 1)] ((J nbF))
  ·
   obtain rfl := hn_y0_o1 rfl
   refine SemK.round ?_
   refine bindE h ?_
   clear h; intro w1953 h1974 h
   obtain ⟨j1953_o0, j1953_o1, j1953_101_1⟩ := w1953
   try dsimp only at h
   refine runT tmD [.br true, .el (enc_GSpan x)] ?_
   refine SemK.joinOpF (fun (q : Nb j1953_o1) => ⟨fr [(12, (AV.ptr 0 0 0)), (91, (AV.list true (List.map enc_GSpan y0_91))), (92, (aI .i64 (List.length y0_91 : Int))), (93, (aI .i64 (k : Int))), (101, (AV.tup [(slE q.1 1 (List.map enc_GEntry j1953_o1)), (aI .i64 j1953_101_1)]))], hp ([(0, { es := [(enc_GEntry j1953_o0)], esz := 11 })] ++ opE q.1 1 11 (List.map enc_GEntry j1953_o1)), 2⟩) ?_ (fun J => ?_)
   ·
    rintro nb_j1953_o1
    rcases nb_j1953_o1 with ⟨_ | _, hn_j1953_o1⟩
    ·
     refine brE h ?_ ?_
     ·clear h; intro h1975 h
      obtain rfl := Option.some.inj h
      refine runT tmD [.br true] ?_
      exact wkT [] (C1 _ _  (nbT (by first | rfl | simp [*])) rfl)
     ·clear h; intro h1975 h
      refine runT tmD [.br false] ?_
      exact wkT [] (ih (k + 1) hx1 _ _ nbF o h C0 C1)
    ·
     obtain rfl := hn_j1953_o1 rfl
     refine brE h ?_ ?_
     ·clear h; intro h1976 h
      obtain rfl := Option.some.inj h
      refine runT tmD [.br true] ?_
      exact wkT [] (C1 _ _  (nbT (by first | rfl | simp [*])) rfl)
     ·clear h; intro h1976 h
      refine runT tmD [.br false] ?_
      exact wkT [] (ih (k + 1) hx1 _ _ (nbT (by first | rfl | simp [*])) o h C0 C1)
   ·
    clear h
    have h := h1974
    refine SemK.inline tyTab_ok fn84 rfl rfl rfl rfl rfl trivial trivial rfl rfl ?_
    refine bindE h ?_
    clear h; intro v1954 h1955 h
    refine run_to tmD 4000 [.pure [(AV.list false (List.map enc_GEntry ([] : List GEntry))), (enc_GEntry (GEntry.mk y0_o0.Key x y0_o0.Values)), (AV.fn 110 [])] (AV.tup [(aI .i64 v1954.1), (aB v1954.2)])] rfl (by repeat' first | refine And.intro ?_ ?_ | exact (PureCall.none (slices_BinarySearchFunc_Entry_Entry_Entry_store_order_ok _ _ _ h1955) (Cvs.cons (cv_nils (es := List.map enc_GEntry ([] : List GEntry)) (by simp [*])) (Cvs.cons (cvf_GEntry (x := (GEntry.mk y0_o0.Key x y0_o0.Values))) (Cvs.cons .fn0 Cvs.nil)))) | exact oblA) ?_
    refine brE h ?_ ?_
    ·clear h; intro h1956 h
     refine brE h ?_ ?_
     ·clear h; intro h1957 h
      refine bindE h ?_
      clear h; intro _ h1969 h
      refine runT tmD [.br true] ?_
      refine SemK.joinOp (s' := ⟨fr [(21, (AV.ref 2 0 (List.length (([] : List GEntry) ++ [(GEntry.mk y0_o0.Key x y0_o0.Values)]))))], hp ([(0, { es := [(enc_GEntry (GEntry.mk y0_o0.Key x y0_o0.Values))], esz := 11 }), (2, { es := List.map enc_GEntry (([] : List GEntry) ++ [(GEntry.mk y0_o0.Key x y0_o0.Values)]), esz := 11 })]), 3⟩) ?_ (fun J => ?_)
      ·
       cases h
       refine runT tmD [] ?_
       refine SemK.back (by intro id h; cases h) rfl ?_
       exact wkT [(1, 2)] ((J nbF))
      ·
       clear h
       have h := h1969
       refine SemK.inline tyTab_ok fn120 rfl rfl rfl rfl rfl trivial trivial rfl rfl ?_
       refine bindE h ?_
       clear h; intro m1964 h1965 h
       obtain ⟨qah1965, qbh1965, qch1965, qh1965⟩ := sliceI_ok h1965
       obtain rfl := sliceI_nil h1965
       refine brE h ?_ ?_
       ·clear h; intro h1966 h
        refine bindE h ?_
        clear h; intro u1967 h1968 h
        refine run_to tmD 4000 [.br false, .el (aI .i64 (List.length ([] : List GEntry) : Int)), .br true, .no] rfl (by repeat' first | refine And.intro ?_ ?_ | (simp at qah1965 qbh1965 qch1965 ⊢; omega) | (refine capLe h1968 rfl ?_; first | (simp; done) | (simp; omega) | (simp [hc, h1956, h1957, h1966]; done) | (simp [hc, h1956, h1957, h1966]; omega)) | (refine capMax h1968 (by decide) ?_; first | (simp; done) | (simp; omega) | (simp [hc, h1956, h1957, h1966]; done) | (simp [hc, h1956, h1957, h1966]; omega)) | exact oblA) ?_
        refine SemK.back (by intro id h; cases h) rfl ?_
        exact wkT [(2, 4)] (J)
       ·clear h; intro h1966 h
        exact absurd h1966 (by simp)
     ·clear h; intro h1957 h
      refine bindE h ?_
      clear h; intro m1970 h1971 h
      exact absurd h1971 (by simp [insI])
    ·clear h; intro h1956 h
     refine runT tmD [.br false, .stop 4] ?_
     refine bindE h ?_
     clear h; intro e1972 h1973 h
     try have qh1973 := getI_lt h1973
     exact absurd (h1973) (by simp [getI])
end Go.Av.Tryz
