/- Printed by decomp.py: that the program computes the functions. -/
import Derived.Test.YtfdfgobnpnoomaaGreatDCert6Z
set_option linter.all false

namespace Go.Av.Tryz
open Go.Proofs Go.D
set_option maxRecDepth 10000
set_option maxHeartbeats 40000000
theorem Xe7 {Q:X01->St->Mu->Prop} {μ:Mu} (Xhh:(List Xr)) (hl:Xhh.length<=140737488355328):∀ (xs:List Xr) (k:Nat) (hx:Xhh.drop k=xs) (Xf:X6) (Xi:(List X6)) (Xm:Nb Xi) (o:X8w) (h:X4v Xhh xs k Xf Xi=some o)
  (C0:∀ (Xg:(List X6)) (Xl:Nb Xg),o=X8w.x0 Xg->X2 Tryz.prog 112 0 Q (.exit (.exit 0)) [] ⟨fr [(13,(slE Xl.1 0 (Xg.map X5)))],hp ([]++opE Xl.1 0 11 (Xg.map X5)),1⟩ μ)
  (C1:∀ (X0d:(List X6)) (Xk0:Int) (X0b:Nb X0d),o=X8w.x1 X0d Xk0->X2 Tryz.prog 112 0 Q (.exit .ret) [] ⟨fr [(8,(slE X0b.1 0 (X0d.map X5))),(9,(aI .i64 Xk0))],hp ([]++opE X0b.1 0 11 (X0d.map X5)),1⟩ μ),
  X2 Tryz.prog 112 0 Q (.loop (X30 0 (Xj Tryz.f51))) [] ⟨fr [(12,(AV.ptr 0 0 0)),(13,(slE Xm.1 1 (Xi.map X5))),(91,(AV.list true (Xhh.map X3))),(92,(aI .i64 (Xhh.length:Int))),(93,(aI .i64 (k:Int)))],hp ([(0,Ob [(X5 Xf)] 11)]++opE Xm.1 1 11 (Xi.map X5)),2⟩ μ:=by
 intro xs
 induction xs with
 |nil =>
  intro k hx Xf Xi Xm o h C0 C1
  have hk:=drop_nil hx
  have hc:decide ((k:Int)<(Xhh.length:Int))=false:=Yf (by omega)
  rw[X4v] at h
  rcases Xm with ⟨_|_,X02⟩
  ·
   refine X2.round ?_
   revert h
   exact fun e=>X7 [Bf] (k:=wkT [(0,1)] (C0 _  nbF (oj e).symm))
  ·
   obtain rfl:=X02 rfl
   refine X2.round ?_
   revert h
   exact fun e=>X7 [Bf] (k:=wkT [] (C0 _  nbS (oj e).symm))
 |cons x xs ih =>
  intro k hx Xf Xi Xm o h C0 C1
  obtain⟨hk,hg,hx1⟩:=drop_cons hx
  have hc:decide ((k:Int)<(Xhh.length:Int))=true:=Yt (by omega)
  rw[X4v] at h
  rcases Xm with ⟨_|_,X02⟩
  ·
   refine X2.round ?_
   revert h
   refine bI fun w1890 h1937=>?_
   intro h
   obtain⟨X03e,Xo8,Xst⟩:=w1890
   try dsimp only at h
   refine X10 [Bt,.el (X3 x)] ?_
   refine X2.joinOpF (fun(q:Nb Xo8)=>⟨fr [(12,(AV.ptr 0 0 0)),(91,(AV.list true (Xhh.map X3))),(92,(aI .i64 (Xhh.length:Int))),(93,(aI .i64 (k:Int))),(101,(AV.tup [(slE q.1 1 (Xo8.map X5)),(aI .i64 Xst)]))],hp ([(0,Ob [(X5 X03e)] 11)]++opE q.1 1 11 (Xo8.map X5)),2⟩) ?_ (fun J=>?_)
   ·
    rintro Xrt
    rcases Xrt with ⟨_|_,Xt5⟩
    ·
     revert h
     refine brI (fun h1938=>fun e=>X7 [Bt] (k:=wkT [] (C1 _ _  nbS (oj e).symm))) fun h1938=>rnI [Bf] ?_
     intro h
     exact wkT [] (ih (k+1) hx1 _ _ nbF o h C0 C1)
    obtain rfl:=Xt5 rfl
    revert h
    refine brI (fun h1939=>fun e=>X7 [Bt] (k:=wkT [] (C1 _ _  nbS (oj e).symm))) fun h1939=>rnI [Bf] ?_
    intro h
    exact wkT [] (ih (k+1) hx1 _ _ nbS o h C0 C1)
   clear h;revert h1937
   intro h
   refine X2.inline X9 fn84 rfl rfl rfl rfl rfl trivial trivial rfl rfl ?_
   revert h
   refine bI fun v1891 h1892=>rnI [.pure [(Lf (Xi.map X5)),(X5 (X6.mk Xf.Key x Xf.Values)),(AV.fn 110 [])] (AV.tup [(aI .i64 v1891.1),(aB v1891.2)])] (o:=by repeat' first|apply Ya|exact pcM|exact(X6d.lent (Xt _ _ _ h1892) (cc (Xqv (es:=Xi.map X5) rfl (by first|rfl|(simp;done)|(simp;rfl)|(simp[hc];done)|(simp[hc];rfl)|(simp[hc,Ym,Yd];done)|(simp[hc,Ym,Yd];rfl)) (by first|rfl|(simp;done)|(simp;omega)|(simp[hc];done)|(simp[hc];omega)) (X47 X75 Xi)) (cc (X8v (x:=(X6.mk Xf.Key x Xf.Values))) (cc .fn0 cn))) (Xph (X1p .sc (X1p .sc Xb1))))|exact X0k) ?_
   refine brI (fun h1893=>?_) fun h1893=>?_
   ·
    refine brI (fun h1894=>?_) fun h1894=>?_
    ·
     refine bI fun _ h1910=>rnI [Bt] ?_
     intro h
     refine X2.joinOp (s':=⟨fr [(21,(AV.ref 2 0 (List.length (Xi++[(X6.mk Xf.Key x Xf.Values)]))))],hp ([(0,Ob [(X5 (X6.mk Xf.Key x Xf.Values))] 11),(2,Ob (List.map X5 (Xi++[(X6.mk Xf.Key x Xf.Values)])) 11)]),3⟩) ?_ (fun J=>?_)
     ·
      simp only[Option.some.injEq,Prod.mk.injEq] at h
      obtain⟨rfl,rfl,rfl⟩:=h
      refine X10 [] ?_
      refine X2.back (by intro id h;cases h) rfl ?_
      exact wkT [(1,2)] ((J nbF))
     clear h;revert h1910
     intro h
     refine X2.inline X9 Xwp rfl rfl rfl rfl rfl trivial trivial rfl rfl ?_
     revert h
     refine bI fun m1903 h1904=>?_
     obtain⟨qah1904,qbh1904,qch1904,qh1904⟩:=X3c h1904
     have qlh1904:=X7a h1904
     refine brI (fun h1905=>?_) fun h1905=>?_
     ·
      refine bI fun u1906 h1907=>rnI [.ne false,Bf,.el (aI .i64 (Xi.length:Int)),Bt,.no] (o:=by repeat' first|apply Ya|exact pcM|(simp at qah1904 qbh1904 qch1904 ⊢;omega)|(simp at qah1904 qbh1904 qch1904 qlh1904 ⊢;have qz:=X3d h1905;omega)|(refine X0g h1907 rfl ?_;first|(simp;done)|(simp;omega)|(simp[hc,h1893,h1894,h1905];done)|(simp[hc,h1893,h1894,h1905];omega))|(refine Xz h1907 (by decide) ?_;first|(simp;done)|(simp;omega)|(simp[hc,h1893,h1894,h1905];done)|(simp[hc,h1893,h1894,h1905];omega))|exact X0k) ?_
      intro h
      refine X2.back (by intro id h;cases h) rfl ?_
      exact wkT [(2,4)] (J)
     refine bI fun u1908 h1909=>rnI [.via (.ref 1 (Int.toNat v1891.1) (m1903.length)),Bf,.el (aI .i64 (Xi.length:Int)),Bt,.no] (o:=by repeat' first|apply Ya|exact pcM|(simp at qah1904 qbh1904 qch1904 ⊢;omega)|(simp at qah1904 qbh1904 qch1904 qlh1904 ⊢;have qz:=X12 h1905;omega)|(simp at qah1904 qbh1904 qch1904 qlh1904 ⊢;omega)|(simp;done)|(refine X0g h1909 rfl ?_;first|(simp;done)|(simp;omega)|(simp[hc,h1893,h1894,h1905];done)|(simp[hc,h1893,h1894,h1905];omega))|(refine Xz h1909 (by decide) ?_;first|(simp;done)|(simp;omega)|(simp[hc,h1893,h1894,h1905];done)|(simp[hc,h1893,h1894,h1905];omega))|exact X0k) ?_
     intro h
     refine X2.back (by intro id h;cases h) rfl ?_
     exact wkT [(2,4)] (J)
    refine bI fun m1911 h1912=>rnI [Bt] ?_
    intro h
    refine X2.hcall rfl rfl rfl rfl rfl trivial trivial (Xud ⟨_,_,Xwp⟩ (f:=X5) (l:=Xi) (x:=(X6.mk Xf.Key x Xf.Values)) h1912 rfl rfl rfl (by first|rfl|simp)) ?_
    simp only[Option.some.injEq,Prod.mk.injEq] at h
    obtain⟨rfl,rfl,rfl⟩:=h
    refine X10 [] ?_
    refine X2.back (by intro id h;cases h) rfl ?_
    exact wkT [(1,4)] ((J nbF))
   refine rnI [Bf,.stop 4] ?_
   refine bI fun e1913 h1914=>?_
   try have qh1914:=Xv h1914
   intro h
   refine X2.drawnCut 5 tmD [.el (X5 e1913)] rfl rfl rfl rfl rfl (by repeat' first|apply Ya|exact X0k) ?_
   revert h
   refine bI fun w1925 h1936=>?_
   intro h
   obtain⟨Xo7,X03d⟩:=w1925
   try dsimp only at h
   refine X10 [] ?_
   refine X2.joinOpF (fun(q:Nb Xo7)=>⟨fr [(0,(slE q.1 2 (Xo7.map X5))),(27,(aI .i64 X03d))],hp ([(0,Ob [(X5 (X6.mk Xf.Key x Xf.Values))] 11)]++opE q.1 2 11 (Xo7.map X5)),3⟩) ?_ (fun J=>?_)
   ·
    rintro Xrs
    rcases Xrs with ⟨_|_,Xt4⟩
    ·
     simp only[Option.some.injEq,Prod.mk.injEq] at h
     obtain⟨rfl,rfl,rfl⟩:=h
     refine X10 [] ?_
     refine X2.back (by intro id h;cases h) rfl ?_
     exact wkT [(1,2)] ((J nbF))
    obtain rfl:=Xt4 rfl
    simp only[Option.some.injEq,Prod.mk.injEq] at h
    obtain⟨rfl,rfl,rfl⟩:=h
    refine X10 [] ?_
    refine X2.back (by intro id h;cases h) rfl ?_
    exact wkT [] ((J nbS))
   clear h;revert h1936
   intro h
   refine X2.inline X9 X07g rfl rfl rfl rfl rfl trivial trivial rfl rfl ?_
   refine X10 [] ?_
   refine X2.round ?_
   revert h
   refine bI fun v1928 h1929=>brI (fun h1930=>?_) fun h1930=>?_
   ·
    intro h
    simp only[Option.some.injEq,Prod.mk.injEq] at h
    obtain⟨rfl,rfl⟩:=h
    refine X10 [Bt,.ix 0,.ix 0,.ld (X5 e1913),.pure _ (AV.tup [(X0c v1928.1),(aI .i64 v1928.2)]),Bt] ?_
    refine X2.back (by intro id h;cases h) rfl ?_
    exact wkT [(2,1)] ((J nbF))
   refine rnI [Bt,.ix 0,.ix 0,.ld (X5 e1913),.pure _ (AV.tup [(X0c v1928.1),(aI .i64 v1928.2)]),Bf,.ix 0,.ld (X5 e1913)] (o:=by repeat' first|apply Ya|exact pcM|exact(List.getElem?_set_self (by have hq:=X26 h1914;simp;omega)).trans rfl|exact X0k) ?_
   intro h
   refine X2.round ?_
   revert h
   refine bI fun v1933 h1934=>rnI [Bt,.ix 1,.ix 1,.ld (X5 (X6.mk e1913.Key e1913.Span (V2.mk v1928.1 e1913.Values.e1))),.pure _ (AV.tup [(X0c v1933.1),(aI .i64 v1933.2)])] (o:=by repeat' first|apply Ya|exact pcM|exact(List.getElem?_set_self (by have hq:=X26 h1914;simp;omega)).trans rfl|exact X0k) ?_
   refine brI (fun h1935=>?_) fun h1935=>?_
   ·
    intro h
    simp only[Option.some.injEq,Prod.mk.injEq] at h
    obtain⟨rfl,rfl⟩:=h
    refine X10 [Bt] (o:=by repeat' first|apply Ya|exact pcM|exact(List.getElem?_set_self (by have hq:=X26 h1914;simp;omega)).trans rfl|exact X0k) ?_
    refine X2.back (by intro id h;cases h) rfl ?_
    exact wkT [(2,1)] ((J nbF))
   refine rnI [Bf,.ix 1,.ld (X5 (X6.mk e1913.Key e1913.Span (V2.mk v1928.1 e1913.Values.e1)))] (o:=by repeat' first|apply Ya|exact pcM|exact(List.getElem?_set_self (by have hq:=X26 h1914;simp;omega)).trans rfl|exact X0k) ?_
   intro h
   refine X2.round ?_
   simp only[Option.some.injEq,Prod.mk.injEq] at h
   obtain⟨rfl,rfl⟩:=h
   refine X10 [Bf] (o:=by repeat' first|apply Ya|exact pcM|exact(List.getElem?_set_self (by have hq:=X26 h1914;simp;omega)).trans rfl|exact X0k) ?_
   refine X2.back (by intro id h;cases h) rfl ?_
   exact wkT [(2,1)] ((J nbF))
  obtain rfl:=X02 rfl
  refine X2.round ?_
  revert h
  refine bI fun w1960 h1981=>?_
  intro h
  obtain⟨X03c,Xo6,Xss⟩:=w1960
  try dsimp only at h
  refine X10 [Bt,.el (X3 x)] ?_
  refine X2.joinOpF (fun(q:Nb Xo6)=>⟨fr [(12,(AV.ptr 0 0 0)),(91,(AV.list true (Xhh.map X3))),(92,(aI .i64 (Xhh.length:Int))),(93,(aI .i64 (k:Int))),(101,(AV.tup [(slE q.1 1 (Xo6.map X5)),(aI .i64 Xss)]))],hp ([(0,Ob [(X5 X03c)] 11)]++opE q.1 1 11 (Xo6.map X5)),2⟩) ?_ (fun J=>?_)
  ·
   rintro Xrr
   rcases Xrr with ⟨_|_,Xt3⟩
   ·
    revert h
    refine brI (fun h1982=>fun e=>X7 [Bt] (k:=wkT [] (C1 _ _  nbS (oj e).symm))) fun h1982=>rnI [Bf] ?_
    intro h
    exact wkT [] (ih (k+1) hx1 _ _ nbF o h C0 C1)
   obtain rfl:=Xt3 rfl
   revert h
   refine brI (fun h1983=>fun e=>X7 [Bt] (k:=wkT [] (C1 _ _  nbS (oj e).symm))) fun h1983=>rnI [Bf] ?_
   intro h
   exact wkT [] (ih (k+1) hx1 _ _ nbS o h C0 C1)
  clear h;revert h1981
  intro h
  refine X2.inline X9 fn84 rfl rfl rfl rfl rfl trivial trivial rfl rfl ?_
  revert h
  refine bI fun v1961 h1962=>rnI [.pure [(Lf (List.map X5 ([]:List X6))),(X5 (X6.mk Xf.Key x Xf.Values)),(AV.fn 110 [])] (AV.tup [(aI .i64 v1961.1),(aB v1961.2)])] (o:=by repeat' first|apply Ya|exact pcM|exact(pn (Xt _ _ _ h1962) (cc (Zn X5) (cc (X8v (x:=(X6.mk Xf.Key x Xf.Values))) (cc .fn0 cn))))|exact X0k) ?_
  refine brI (fun h1963=>?_) fun h1963=>?_
  ·
   refine brI (fun h1964=>?_) fun h1964=>?_
   ·
    refine bI fun _ h1976=>rnI [Bt] ?_
    intro h
    refine X2.joinOp (s':=⟨fr [(21,(AV.ref 2 0 (List.length (([]:List X6)++[(X6.mk Xf.Key x Xf.Values)]))))],hp ([(0,Ob [(X5 (X6.mk Xf.Key x Xf.Values))] 11),(2,Ob (List.map X5 (([]:List X6)++[(X6.mk Xf.Key x Xf.Values)])) 11)]),3⟩) ?_ (fun J=>?_)
    ·
     simp only[Option.some.injEq,Prod.mk.injEq] at h
     obtain⟨rfl,rfl,rfl⟩:=h
     refine X10 [] ?_
     refine X2.back (by intro id h;cases h) rfl ?_
     exact wkT [(1,2)] ((J nbF))
    clear h;revert h1976
    intro h
    refine X2.inline X9 Xwp rfl rfl rfl rfl rfl trivial trivial rfl rfl ?_
    revert h
    refine bI fun m1971 h1972=>?_
    obtain⟨qah1972,qbh1972,qch1972,qh1972⟩:=X3c h1972
    obtain rfl:=X9t h1972
    refine brI (fun h1973=>?_) fun h1973=>?_
    ·
     refine bI fun u1974 h1975=>rnI [Bf,.el (aI .i64 (List.length ([]:List X6):Int)),Bt,.no] (o:=by repeat' first|apply Ya|exact pcM|(simp at qah1972 qbh1972 qch1972 ⊢;omega)|(refine X0g h1975 rfl ?_;first|(simp;done)|(simp;omega)|(simp[hc,h1963,h1964,h1973];done)|(simp[hc,h1963,h1964,h1973];omega))|(refine Xz h1975 (by decide) ?_;first|(simp;done)|(simp;omega)|(simp[hc,h1963,h1964,h1973];done)|(simp[hc,h1963,h1964,h1973];omega))|exact X0k) ?_
     intro h
     refine X2.back (by intro id h;cases h) rfl ?_
     exact wkT [(2,4)] (J)
    intro h
    exact absurd h1973 (by simp)
   refine bI fun m1977 h1978=>?_
   intro h
   exact absurd h1978 (by simp[Xw3])
  refine rnI [Bf,.stop 4] ?_
  refine bI fun e1979 h1980=>?_
  try have qh1980:=Xv h1980
  intro h
  exact absurd (h1980) (by simp[X1q])
instance Xij:PCs Tryz.prog 51 (∀ (a0:(List X6)) (a1:X0h) (a2:Xc) (a3:Int) (r:(List X6)×Int),X93 a0 a1 a2 a3=some r->X0j Tryz.prog 51 [(Lf (a0.map X5)),(X0s a1),(X0 a2),(aI .i64 a3)] (AV.tup [(AV.list true (r.1.map X5)),(aI .i64 r.2)])):=⟨fun a0 a1 a2 a3 r h=>by
 refine X0j.sym X9 fn51 (nt:=112) rfl rfl ?_ okM
 unfold X93 at h
 revert h
 refine bI fun v1 h2=>brI (fun h3=>fun e=>oj e▸X7 [.pure _ (aI .i64 v1),Bt] (k:=fi)) fun h3=>bI fun v4 h5=>brI (fun h6=>fun e=>oj e▸X7 [.pure _ (aI .i64 v1),Bf,.pure _ (aI .i64 v4),Bt] (k:=fi)) fun h6=>brI (fun h7=>fun e=>oj e▸X7 [.pure _ (aI .i64 v1),Bf,.pure _ (aI .i64 v4),Bf,Bt] (k:=fi)) fun h7=>brI (fun h8=>fun e=>oj e▸X7 [.pure _ (aI .i64 v1),Bf,.pure _ (aI .i64 v4),Bf,Bf,Bt] (k:=fi)) fun h8=>bI fun Xiv h18=>rnI [.pure _ (aI .i64 v1),Bf,.pure _ (aI .i64 v4),Bf,Bf,Bf,.stop 12] ?_
 intro h
 refine X2.join (s':=⟨fr [(0,(Lf (a0.map X5))),(5,(AV.ptr 0 0 0)),(6,(AV.ptr 1 0 0)),(12,(AV.ptr 2 0 0))],hp ([(0,Ob [(X0s a1)] 3),(1,Ob [(X0 a2)] 3),(2,Ob [(X5 Xiv)] 11)]),3⟩) ?_ (fun J=>X2.cut ?_)
 ·
  revert h
  refine bI fun Xiu h30=>rnI [] ?_
  intro h
  refine X2.joinOpF (fun(q:Nb Xiu)=>⟨fr [(5,(AV.ptr 0 0 0)),(6,(AV.ptr 1 0 0)),(12,(AV.ptr 2 0 0)),(52,(slE q.1 3 (Xiu.map X5)))],hp ([(0,Ob [(X0s a1)] 3),(1,Ob [(X0 a2)] 3),(2,Ob [(X5 Xiv)] 11)]++opE q.1 3 11 (Xiu.map X5)),4⟩) ?_ (fun J=>?_)
  ·
   rintro Xyt
   rcases Xyt with ⟨_|_,X001⟩
   ·
    revert h
    refine brI (fun h31=>?_) fun h31=>?_
    ·
     refine bI fun w50 h69=>?_
     intro h
     obtain⟨Xza,X034⟩:=w50
     try dsimp only at h
     refine X10 [Bt] ?_
     refine X2.joinOpF (fun(q:Nb Xza)=>⟨fr [(12,(AV.ptr 0 0 0)),(13,(AV.ref 1 0 (Xiu.length))),(62,(AV.tup [(slE q.1 2 (Xza.map X3)),(aI .i64 X034)]))],hp ([(0,Ob [(X5 Xiv)] 11),(1,Ob (Xiu.map X5) 11)]++opE q.1 2 2 (Xza.map X3)),3⟩) ?_ (fun J=>?_)
     ·
      rintro Xyo
      rcases Xyo with ⟨_|_,Xzw⟩
      ·
       revert h
       refine brI (fun h70=>fun e=>oj e▸X7 [Bt] (k:=fi)) fun h70=>bI fun e71 h72=>?_
       try have qh72:=Xv h72
       refine bI fun w811 h1550=>?_
       intro h
       obtain⟨Xks,Xz8⟩:=w811
       try dsimp only at h
       refine X10 [Bf,.el (X3 e71),.ld (X3 e71)] ?_
       refine X2.joinOpF (fun(q:Nb Xks)=>⟨fr [(75,(AV.tup [(slE q.1 0 (Xks.map X5)),(aI .i64 Xz8)]))],hp ([]++opE q.1 0 11 (Xks.map X5)),1⟩) ?_ (fun J=>?_)
       ·
        rintro Xve
        rcases Xve with ⟨_|_,Xw8⟩
        ·
         revert h
         exact brI (fun h1551=>fun e=>oj e▸X7 [Bt] (k:=fi)) fun h1551=>brI (fun h1552=>fun e=>oj e▸X7 [Bf,.el (aI .i64 (Xks.length:Int)),Bt] (k:=fi)) fun h1552=>fun e=>oj e▸X7 [Bf,.el (aI .i64 (Xks.length:Int)),Bf] (k:=fi)
        obtain rfl:=Xw8 rfl
        revert h
        exact brI (fun h1553=>fun e=>oj e▸X7 [Bt] (k:=fi)) fun h1553=>brI (fun h1554=>fun e=>oj e▸X7 [Bf,.el (aI .i64 (List.length ([]:List X6):Int)),Bt] (k:=fi)) fun h1554=>fun e=>oj e▸X7 [Bf,.el (aI .i64 (List.length ([]:List X6):Int)),Bf] (k:=fi)
       clear h;revert h1550
       intro h
       refine X2.inline X9 fn82 rfl rfl rfl rfl rfl trivial trivial rfl rfl ?_
       revert h
       refine bI fun o1548 h1549=>rnI [] ?_
       intro h
       refine wkT [(3,1),(4,3)] (X2.cut (X6e _ _ _ nbF _ h1549 ?_))
       intro X0y Xb8 X1h eo1548;subst eo1548
       refine X2.glue ?_
       try dsimp only at h
       rcases X1h with ⟨_|_,X4r⟩
       ·
        simp only[Option.some.injEq,Prod.mk.injEq] at h
        obtain⟨rfl,rfl⟩:=h
        refine X10 [] ?_
        refine X2.back (by intro id h;cases h) rfl ?_
        exact wkT [(0,3)] ((J nbF))
       obtain rfl:=X4r rfl
       simp only[Option.some.injEq,Prod.mk.injEq] at h
       obtain⟨rfl,rfl⟩:=h
       refine X10 [] ?_
       refine X2.back (by intro id h;cases h) rfl ?_
       exact wkT [] ((J nbS))
      obtain rfl:=Xzw rfl
      revert h
      refine brI (fun h1555=>fun e=>oj e▸X7 [Bt] (k:=fi)) fun h1555=>bI fun e1556 h1557=>?_
      try have qh1557:=Xv h1557
      intro h
      exact absurd (h1557) (by simp[X1q])
     clear h;revert h69
     intro h
     refine X2.inline X9 fn81 rfl rfl rfl rfl rfl trivial trivial rfl rfl ?_
     revert h
     refine bI fun v51 h52=>brI (fun h53=>?_) fun h53=>?_
     ·
      intro h
      simp only[Option.some.injEq,Prod.mk.injEq] at h
      obtain⟨rfl,rfl⟩:=h
      refine X10 [.pure _ (aI .i64 v51),Bt] ?_
      refine X2.back (by intro id h;cases h) rfl ?_
      exact wkT [(0,2),(1,3)] ((J nbS))
     refine rnI [.pure _ (aI .i64 v51),Bf,Bf] ?_
     intro h
     refine X2.round ?_
     revert h
     refine bI fun v54 h55=>brI (fun h56=>?_) fun h56=>?_
     ·
      intro h
      simp only[Option.some.injEq,Prod.mk.injEq] at h
      obtain⟨rfl,rfl⟩:=h
      refine X10 [Bt,.el ((aI .i64 a2.Time)),.pure _ (aI .i64 v54),Bt] ?_
      refine X2.back (by intro id h;cases h) rfl ?_
      exact wkT [(0,2),(1,3)] ((J nbS))
     refine rnI [Bt,.el ((aI .i64 a2.Time)),.pure _ (aI .i64 v54),Bf,.wrap,.no] ?_
     intro h
     refine X2.round ?_
     refine X10 [Bf] ?_
     refine X2.inline X9 X09e rfl rfl rfl rfl rfl trivial trivial rfl rfl ?_
     refine X10 [] ?_
     refine X2.inline X9 X09b rfl rfl rfl rfl rfl trivial trivial rfl rfl ?_
     refine X10 [] ?_
     refine X2.eqNil X9 (may:=false) rfl rfl rfl rfl rfl rfl trivial rfl fun b64 qb64=>?_
     obtain rfl:=qb64 rfl
     refine X10 [Bf,.no] ?_
     refine X2.back (by intro id h;cases h) rfl ?_
     refine X10 [] ?_
     refine X2.inline X9 X09a rfl rfl rfl rfl rfl trivial trivial rfl rfl ?_
     revert h
     refine bI fun v67 h68=>rnI [.wrap,.pure _ (aI .i64 v67)] ?_
     intro h
     refine X2.inline X9 X098 rfl rfl rfl rfl rfl trivial trivial rfl rfl ?_
     refine X10 [] ?_
     refine X2.round ?_
     refine X10 [Bt] ?_
     refine X2.inline X9 X096 rfl rfl rfl rfl rfl trivial trivial rfl rfl ?_
     refine X10 [] ?_
     refine X2.round ?_
     refine X10 [Bf] ?_
     refine X2.back (by intro id h;cases h) rfl ?_
     refine X10 [] ?_
     refine X2.back (by intro id h;cases h) rfl ?_
     refine X10 [] ?_
     refine X2.back (by intro id h;cases h) rfl ?_
     refine X10 [] ?_
     refine X2.round ?_
     refine X10 [Bt,.el (AV.agg [(aI .i64 a2.Time),(aI .i64 (IntKind.i64.wrap (a2.Time+a1.Size)))]),.go false,.go false,.go false,.go false,.go false,.go false,.go false,.go false,.go false,.go false,Bf,.no] ?_
     refine X2.round ?_
     refine X10 [Bf] ?_
     refine X2.back (by intro id h;cases h) rfl ?_
     simp only[Option.some.injEq,Prod.mk.injEq] at h
     obtain⟨rfl,rfl⟩:=h
     refine X10 [] ?_
     refine X2.back (by intro id h;cases h) rfl ?_
     exact wkT [(0,2),(1,3),(2,24)] ((J nbF))
    refine bI fun v1558 h1559=>brI (fun h1560=>fun e=>oj e▸X7 [Bf,.pure _ (AV.tup [(AV.list true (v1558.1.map X3)),(aI .i64 v1558.2)]),Bt] (k:=fi)) fun h1560=>bI fun u1561 h1562=>?_
    have qh1562:=X09 h1562
    refine bI fun o1984 h1985=>rnI [Bf,.pure _ (AV.tup [(AV.list true (v1558.1.map X3)),(aI .i64 v1558.2)]),Bf,.el (aI .i64 (v1558.1.length:Int))] ?_
    intro h
    refine wkT [(0,2),(1,3)] (X2.cut (Xe7 v1558.1 qh1562 v1558.1 0 (by simp) _ _ nbF _ h1985 ?_ ?_))
    ·
     intro Xg Xl eo1984;subst eo1984
     refine X2.glue ?_
     try dsimp only at h
     rcases Xl with ⟨_|_,X0q⟩
     ·
      revert h
      exact brI (fun h1986=>fun e=>oj e▸X7 [.el (aI .i64 (Xg.length:Int)),Bt] (k:=fi)) fun h1986=>fun e=>oj e▸X7 [.el (aI .i64 (Xg.length:Int)),Bf] (k:=fi)
     obtain rfl:=X0q rfl
     revert h
     exact brI (fun h1987=>fun e=>oj e▸X7 [.el (aI .i64 (List.length ([]:List X6):Int)),Bt] (k:=fi)) fun h1987=>fun e=>oj e▸X7 [.el (aI .i64 (List.length ([]:List X6):Int)),Bf] (k:=fi)
    intro X0d Xk0 X0b eo1984;subst eo1984
    refine X2.glue ?_
    try dsimp only at h
    rcases X0b with ⟨_|_,X2n⟩
    ·
     revert h
     exact fun e=>oj e▸X7 [] (k:=fi)
    obtain rfl:=X2n rfl
    revert h
    exact fun e=>oj e▸X7 [] (k:=fi)
   obtain rfl:=X001 rfl
   revert h
   refine brI (fun h1988=>?_) fun h1988=>?_
   ·
    refine bI fun w2007 h2026=>?_
    intro h
    obtain⟨Xo5,Xw0⟩:=w2007
    try dsimp only at h
    refine X10 [Bt] ?_
    refine X2.joinOpF (fun(q:Nb Xo5)=>⟨fr [(12,(AV.ptr 0 0 0)),(13,AV.nils),(62,(AV.tup [(slE q.1 2 (Xo5.map X3)),(aI .i64 Xw0)]))],hp ([(0,Ob [(X5 Xiv)] 11)]++opE q.1 2 2 (Xo5.map X3)),3⟩) ?_ (fun J=>?_)
    ·
     rintro Xrq
     rcases Xrq with ⟨_|_,Xt2⟩
     ·
      revert h
      refine brI (fun h2027=>fun e=>oj e▸X7 [Bt] (k:=fi)) fun h2027=>bI fun e2028 h2029=>?_
      try have qh2029:=Xv h2029
      refine bI fun w2511 h2993=>?_
      intro h
      obtain⟨Xh4,Xvz⟩:=w2511
      try dsimp only at h
      refine X10 [Bf,.el (X3 e2028),.ld (X3 e2028)] ?_
      refine X2.joinOpF (fun(q:Nb Xh4)=>⟨fr [(75,(AV.tup [(slE q.1 0 (Xh4.map X5)),(aI .i64 Xvz)]))],hp ([]++opE q.1 0 11 (Xh4.map X5)),1⟩) ?_ (fun J=>?_)
      ·
       rintro Xrp
       rcases Xrp with ⟨_|_,Xt1⟩
       ·
        revert h
        exact brI (fun h2994=>fun e=>oj e▸X7 [Bt] (k:=fi)) fun h2994=>brI (fun h2995=>fun e=>oj e▸X7 [Bf,.el (aI .i64 (Xh4.length:Int)),Bt] (k:=fi)) fun h2995=>fun e=>oj e▸X7 [Bf,.el (aI .i64 (Xh4.length:Int)),Bf] (k:=fi)
       obtain rfl:=Xt1 rfl
       revert h
       exact brI (fun h2996=>fun e=>oj e▸X7 [Bt] (k:=fi)) fun h2996=>brI (fun h2997=>fun e=>oj e▸X7 [Bf,.el (aI .i64 (List.length ([]:List X6):Int)),Bt] (k:=fi)) fun h2997=>fun e=>oj e▸X7 [Bf,.el (aI .i64 (List.length ([]:List X6):Int)),Bf] (k:=fi)
      clear h;revert h2993
      intro h
      refine X2.inline X9 fn82 rfl rfl rfl rfl rfl trivial trivial rfl rfl ?_
      revert h
      refine bI fun o2991 h2992=>rnI [] ?_
      intro h
      refine wkT [(4,3)] (X2.cut (X6e _ _ _ nbS _ h2992 ?_))
      intro X0y Xb8 X1h eo2991;subst eo2991
      refine X2.glue ?_
      try dsimp only at h
      rcases X1h with ⟨_|_,X4r⟩
      ·
       simp only[Option.some.injEq,Prod.mk.injEq] at h
       obtain⟨rfl,rfl⟩:=h
       refine X10 [] ?_
       refine X2.back (by intro id h;cases h) rfl ?_
       exact wkT [(0,3)] ((J nbF))
      obtain rfl:=X4r rfl
      simp only[Option.some.injEq,Prod.mk.injEq] at h
      obtain⟨rfl,rfl⟩:=h
      refine X10 [] ?_
      refine X2.back (by intro id h;cases h) rfl ?_
      exact wkT [] ((J nbS))
     obtain rfl:=Xt2 rfl
     revert h
     refine brI (fun h2998=>fun e=>oj e▸X7 [Bt] (k:=fi)) fun h2998=>bI fun e2999 h3000=>?_
     try have qh3000:=Xv h3000
     intro h
     exact absurd (h3000) (by simp[X1q])
    clear h;revert h2026
    intro h
    refine X2.inline X9 fn81 rfl rfl rfl rfl rfl trivial trivial rfl rfl ?_
    revert h
    refine bI fun v2008 h2009=>brI (fun h2010=>?_) fun h2010=>?_
    ·
     intro h
     simp only[Option.some.injEq,Prod.mk.injEq] at h
     obtain⟨rfl,rfl⟩:=h
     refine X10 [.pure _ (aI .i64 v2008),Bt] ?_
     refine X2.back (by intro id h;cases h) rfl ?_
     exact wkT [(0,2)] ((J nbS))
    refine rnI [.pure _ (aI .i64 v2008),Bf,Bf] ?_
    intro h
    refine X2.round ?_
    revert h
    refine bI fun v2011 h2012=>brI (fun h2013=>?_) fun h2013=>?_
    ·
     intro h
     simp only[Option.some.injEq,Prod.mk.injEq] at h
     obtain⟨rfl,rfl⟩:=h
     refine X10 [Bt,.el ((aI .i64 a2.Time)),.pure _ (aI .i64 v2011),Bt] ?_
     refine X2.back (by intro id h;cases h) rfl ?_
     exact wkT [(0,2)] ((J nbS))
    refine rnI [Bt,.el ((aI .i64 a2.Time)),.pure _ (aI .i64 v2011),Bf,.wrap,.no] ?_
    intro h
    refine X2.round ?_
    refine X10 [Bf] ?_
    refine X2.inline X9 X09e rfl rfl rfl rfl rfl trivial trivial rfl rfl ?_
    refine X10 [] ?_
    refine X2.inline X9 X09b rfl rfl rfl rfl rfl trivial trivial rfl rfl ?_
    refine X10 [] ?_
    refine X2.eqNil X9 (may:=false) rfl rfl rfl rfl rfl rfl trivial rfl fun b2021 qb2021=>?_
    obtain rfl:=qb2021 rfl
    refine X10 [Bf,.no] ?_
    refine X2.back (by intro id h;cases h) rfl ?_
    refine X10 [] ?_
    refine X2.inline X9 X09a rfl rfl rfl rfl rfl trivial trivial rfl rfl ?_
    revert h
    refine bI fun v2024 h2025=>rnI [.wrap,.pure _ (aI .i64 v2024)] ?_
    intro h
    refine X2.inline X9 X098 rfl rfl rfl rfl rfl trivial trivial rfl rfl ?_
    refine X10 [] ?_
    refine X2.round ?_
    refine X10 [Bt] ?_
    refine X2.inline X9 X096 rfl rfl rfl rfl rfl trivial trivial rfl rfl ?_
    refine X10 [] ?_
    refine X2.round ?_
    refine X10 [Bf] ?_
    refine X2.back (by intro id h;cases h) rfl ?_
    refine X10 [] ?_
    refine X2.back (by intro id h;cases h) rfl ?_
    refine X10 [] ?_
    refine X2.back (by intro id h;cases h) rfl ?_
    refine X10 [] ?_
    refine X2.round ?_
    refine X10 [Bt,.el (AV.agg [(aI .i64 a2.Time),(aI .i64 (IntKind.i64.wrap (a2.Time+a1.Size)))]),.go false,.go false,.go false,.go false,.go false,.go false,.go false,.go false,.go false,.go false,Bf,.no] ?_
    refine X2.round ?_
    refine X10 [Bf] ?_
    refine X2.back (by intro id h;cases h) rfl ?_
    simp only[Option.some.injEq,Prod.mk.injEq] at h
    obtain⟨rfl,rfl⟩:=h
    refine X10 [] ?_
    refine X2.back (by intro id h;cases h) rfl ?_
    exact wkT [(0,2),(2,24)] ((J nbF))
   refine bI fun v3001 h3002=>brI (fun h3003=>fun e=>oj e▸X7 [Bf,.pure _ (AV.tup [(AV.list true (v3001.1.map X3)),(aI .i64 v3001.2)]),Bt] (k:=fi)) fun h3003=>bI fun u3004 h3005=>?_
   have qh3005:=X09 h3005
   refine bI fun o3287 h3288=>rnI [Bf,.pure _ (AV.tup [(AV.list true (v3001.1.map X3)),(aI .i64 v3001.2)]),Bf,.el (aI .i64 (v3001.1.length:Int))] ?_
   intro h
   refine wkT [(0,2)] (X2.cut (Xe7 v3001.1 qh3005 v3001.1 0 (by simp) _ _ nbS _ h3288 ?_ ?_))
   ·
    intro Xg Xl eo3287;subst eo3287
    refine X2.glue ?_
    try dsimp only at h
    rcases Xl with ⟨_|_,X0q⟩
    ·
     revert h
     exact brI (fun h3289=>fun e=>oj e▸X7 [.el (aI .i64 (Xg.length:Int)),Bt] (k:=fi)) fun h3289=>fun e=>oj e▸X7 [.el (aI .i64 (Xg.length:Int)),Bf] (k:=fi)
    obtain rfl:=X0q rfl
    revert h
    exact brI (fun h3290=>fun e=>oj e▸X7 [.el (aI .i64 (List.length ([]:List X6):Int)),Bt] (k:=fi)) fun h3290=>fun e=>oj e▸X7 [.el (aI .i64 (List.length ([]:List X6):Int)),Bf] (k:=fi)
   intro X0d Xk0 X0b eo3287;subst eo3287
   refine X2.glue ?_
   try dsimp only at h
   rcases X0b with ⟨_|_,X2n⟩
   ·
    revert h
    exact fun e=>oj e▸X7 [] (k:=fi)
   obtain rfl:=X2n rfl
   revert h
   exact fun e=>oj e▸X7 [] (k:=fi)
  clear h;revert h30
  intro h
  refine X2.inline X9 fn80 rfl rfl rfl rfl rfl trivial trivial rfl rfl ?_
  revert h
  refine brI (fun q=>?_) fun q=>?_
  ·
   intro h
   have h25:a0=[]:=List.isEmpty_iff.1 q
   refine X10 [] ?_
   refine X2.eqNil X9 (may:=true) rfl rfl rfl rfl rfl rfl trivial (by simp[Xmw, *]) fun b26 qb26=>?_
   cases b26
   ·
    obtain rfl:=oj h
    refine X10 [Bf,.ne false] ?_
    refine X2.back (by intro id h;cases h) rfl ?_
    exact wkT [] ((J nbS))
   obtain rfl:=oj h
   refine X10 [Bt] ?_
   refine X2.back (by intro id h;cases h) rfl ?_
   exact wkT [] ((J nbS))
  intro h
  have h25:¬ (a0=[]):=(fun e=>by rw[e] at q;cases q)
  refine X10 [] ?_
  refine X2.eqNil X9 (may:=false) rfl rfl rfl rfl rfl rfl trivial (by simp[Xmw, *]) fun b27 qb27=>?_
  obtain rfl:=qb27 rfl
  revert h
  refine bI fun u28 h29=>?_
  intro h
  obtain rfl:=oj h
  refine X10 [Bf,.via (AV.list true (a0.map X5))] (o:=by repeat' first|apply Ya|exact pcM|(refine X0g h29 rfl ?_;first|(simp;done)|(simp;omega)|(simp[h3,h6,h7,h8,h25];done)|(simp[h3,h6,h7,h8,h25];omega))|(refine Xz h29 (by decide) ?_;first|(simp;done)|(simp;omega)|(simp[h3,h6,h7,h8,h25];done)|(simp[h3,h6,h7,h8,h25];omega))|exact X0k) ?_
  refine X2.back (by intro id h;cases h) rfl ?_
  exact wkT [(3,4)] ((J nbF))
 clear h;revert h18
 refine bI fun v14 h15=>brI (fun h16=>?_) fun h16=>?_
 ·
  intro h
  obtain rfl:=oj h
  exact X7 [.pure _ (X0c v14),.ix 0] (o:=by repeat' first|apply Ya|exact pcM|exact((eq_of_beq h16))|exact X0k) (k:=wkT [] (X2.glue J))
 refine brI (fun h17=>?_) fun h17=>?_
 ·
  intro h
  obtain rfl:=oj h
  exact X7 [.pure _ (X0c v14),.ix 1] (o:=by repeat' first|apply Ya|exact pcM|exact((eq_of_beq h17))|exact X0k) (k:=wkT [] (X2.glue J))
 intro h
 cases h⟩
end Go.Av.Tryz