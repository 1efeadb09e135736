/- Printed by decomp.py: that the program computes the functions. -/
import Derived.Test.YtkjlgmgfhgamlaaGreatDCert6Z
set_option linter.all false

namespace Go.Av.Tryz
open Go.Proofs Go.D
set_option maxRecDepth 10000
set_option maxHeartbeats 40000000
theorem Xcg {Q:Xx->St->Mu->Prop} {μ:Mu} (Xf8:(List X06)) (hl:Xf8.length<=140737488355328):∀ (xs:List X06) (k:Nat) (hx:Xf8.drop k=xs) (Xk:X4) (Xl:(List X4)) (Xy:Nb Xl) (o:X7z) (h:X4g Xf8 xs k Xk Xl=some o)
  (C0:∀ (X08:(List X4)) (X0t:Nb X08),o=X7z.x0 X08->X5 Tryz.prog 112 0 Q (.exit (.exit 0)) [] ⟨fr [(13,(slE X0t.1 0 (X08.map X3)))],hp ([]++opE X0t.1 0 11 (X08.map X3)),1⟩ μ)
  (C1:∀ (X1h:(List X4)) (Xhk:Int) (X1b:Nb X1h),o=X7z.x1 X1h Xhk->X5 Tryz.prog 112 0 Q (.exit .ret) [] ⟨fr [(8,(slE X1b.1 0 (X1h.map X3))),(9,(aI .i64 Xhk))],hp ([]++opE X1b.1 0 11 (X1h.map X3)),1⟩ μ),
  X5 Tryz.prog 112 0 Q (.loop (X4c 0 (Xd Tryz.f37))) [] ⟨fr [(12,(AV.ptr 0 0 0)),(13,(slE Xy.1 1 (Xl.map X3))),(91,(AV.list true (Xf8.map X02))),(92,(aI .i64 (Xf8.length:Int))),(93,(aI .i64 (k:Int)))],hp ([(0,Ob [(X3 Xk)] 11)]++opE Xy.1 1 11 (Xl.map X3)),2⟩ μ:=by
 intro xs
 induction xs with
 |nil =>
  intro k hx Xk Xl Xy o h C0 C1
  have hk:=X1u hx
  have hc:decide ((k:Int)<(Xf8.length:Int))=false:=Yf (by omega)
  rw[X4g] at h
  rcases Xy with ⟨_|_,X0m⟩
  ·
   refine X5.round ?_
   revert h
   exact fun e=>Xb [Bf] (k:=wkT [(0,1)] (C0 _  nbF (oj e).symm))
  ·
   obtain rfl:=X0m rfl
   refine X5.round ?_
   revert h
   exact fun e=>Xb [Bf] (k:=wkT [] (C0 _  nbS (oj e).symm))
 |cons x xs ih =>
  intro k hx Xk Xl Xy o h C0 C1
  obtain⟨hk,hg,hx1⟩:=X13 hx
  have hc:decide ((k:Int)<(Xf8.length:Int))=true:=Yt (by omega)
  rw[X4g] at h
  rcases Xy with ⟨_|_,X0m⟩
  ·
   refine X5.round ?_
   revert h
   refine bI fun w1890 h1937=>?_
   intro h
   obtain⟨Xy3,Xlm,Xou⟩:=w1890
   try dsimp only at h
   refine X09 [Bt,.el (X02 x)] ?_
   refine X5.joinOpF (fun(q:Nb Xlm)=>⟨fr [(12,(AV.ptr 0 0 0)),(91,(AV.list true (Xf8.map X02))),(92,(aI .i64 (Xf8.length:Int))),(93,(aI .i64 (k:Int))),(101,(AV.tup [(slE q.1 1 (Xlm.map X3)),(aI .i64 Xou)]))],hp ([(0,Ob [(X3 Xy3)] 11)]++opE q.1 1 11 (Xlm.map X3)),2⟩) ?_ (fun J=>?_)
   ·
    rintro Xoc
    rcases Xoc with ⟨_|_,Xpf⟩
    ·
     revert h
     refine brI (fun h1938=>fun e=>Xb [Bt] (k:=wkT [] (C1 _ _  nbS (oj e).symm))) fun h1938=>rnI [Bf] ?_
     intro h
     exact wkT [] (ih (k+1) hx1 _ _ nbF o h C0 C1)
    obtain rfl:=Xpf rfl
    revert h
    refine brI (fun h1939=>fun e=>Xb [Bt] (k:=wkT [] (C1 _ _  nbS (oj e).symm))) fun h1939=>rnI [Bf] ?_
    intro h
    exact wkT [] (ih (k+1) hx1 _ _ nbS o h C0 C1)
   clear h;revert h1937
   intro h
   refine X5.inline X8 fn84 rfl rfl rfl rfl rfl trivial trivial rfl rfl ?_
   revert h
   refine bI fun v1891 h1892=>rnI [.pure [(Lf (Xl.map X3)),(X3 (X4.mk Xk.Key x Xk.Values)),(AV.fn 116 [])] (AV.tup [(aI .i64 v1891.1),(aB v1891.2)])] (o:=by repeat' first|apply Ya|exact pcM|exact(X5o.lent (Xi _ _ _ h1892) (cc (Xnc (es:=Xl.map X3) rfl (by first|rfl|(simp;done)|(simp;rfl)|(simp[hc];done)|(simp[hc];rfl)|(simp[hc,Ym,Yd];done)|(simp[hc,Ym,Yd];rfl)) (by first|rfl|(simp;done)|(simp;omega)|(simp[hc];done)|(simp[hc];omega)) (X2l X5e Xl)) (cc (X7x (x:=(X4.mk Xk.Key x Xk.Values))) (cc .fn0 cn))) (Xmt (X0x .sc (X0x .sc X7k))))|exact Xr) ?_
   refine brI (fun h1893=>?_) fun h1893=>?_
   ·
    refine brI (fun h1894=>?_) fun h1894=>?_
    ·
     refine bI fun _ h1910=>rnI [Bt] ?_
     intro h
     refine X5.joinOp (s':=⟨fr [(21,(AV.ref 2 0 (List.length (Xl++[(X4.mk Xk.Key x Xk.Values)]))))],hp ([(0,Ob [(X3 (X4.mk Xk.Key x Xk.Values))] 11),(2,Ob (List.map X3 (Xl++[(X4.mk Xk.Key x Xk.Values)])) 11)]),3⟩) ?_ (fun J=>?_)
     ·
      simp only[Option.some.injEq,Prod.mk.injEq] at h
      obtain⟨rfl,rfl,rfl⟩:=h
      refine X09 [] ?_
      refine X5.back (by intro id h;cases h) rfl ?_
      exact wkT [(1,2)] ((J nbF))
     clear h;revert h1910
     intro h
     refine X5.inline X8 Xs2 rfl rfl rfl rfl rfl trivial trivial rfl rfl ?_
     revert h
     refine bI fun m1903 h1904=>?_
     obtain⟨qah1904,qbh1904,qch1904,qh1904⟩:=X3q h1904
     have qlh1904:=X8u h1904
     refine brI (fun h1905=>?_) fun h1905=>?_
     ·
      refine bI fun u1906 h1907=>rnI [.ne false,Bf,.el (aI .i64 (Xl.length:Int)),Bt,.no] (o:=by repeat' first|apply Ya|exact pcM|(simp at qah1904 qbh1904 qch1904 ⊢;omega)|(simp at qah1904 qbh1904 qch1904 qlh1904 ⊢;have qz:=X33 h1905;omega)|(refine X1m h1907 rfl ?_;first|(simp;done)|(simp;omega)|(simp[hc,h1893,h1894,h1905];done)|(simp[hc,h1893,h1894,h1905];omega))|(refine X0i h1907 (by decide) ?_;first|(simp;done)|(simp;omega)|(simp[hc,h1893,h1894,h1905];done)|(simp[hc,h1893,h1894,h1905];omega))|exact Xr) ?_
      intro h
      refine X5.back (by intro id h;cases h) rfl ?_
      exact wkT [(2,4)] (J)
     refine bI fun u1908 h1909=>rnI [.via (.ref 1 (Int.toNat v1891.1) (m1903.length)),Bf,.el (aI .i64 (Xl.length:Int)),Bt,.no] (o:=by repeat' first|apply Ya|exact pcM|(simp at qah1904 qbh1904 qch1904 ⊢;omega)|(simp at qah1904 qbh1904 qch1904 qlh1904 ⊢;have qz:=X0z h1905;omega)|(simp at qah1904 qbh1904 qch1904 qlh1904 ⊢;omega)|(simp;done)|(refine X1m h1909 rfl ?_;first|(simp;done)|(simp;omega)|(simp[hc,h1893,h1894,h1905];done)|(simp[hc,h1893,h1894,h1905];omega))|(refine X0i h1909 (by decide) ?_;first|(simp;done)|(simp;omega)|(simp[hc,h1893,h1894,h1905];done)|(simp[hc,h1893,h1894,h1905];omega))|exact Xr) ?_
     intro h
     refine X5.back (by intro id h;cases h) rfl ?_
     exact wkT [(2,4)] (J)
    refine bI fun m1911 h1912=>rnI [Bt] ?_
    intro h
    refine X5.hcall rfl rfl rfl rfl rfl trivial trivial (Xqk ⟨_,_,Xs2⟩ (f:=X3) (l:=Xl) (x:=(X4.mk Xk.Key x Xk.Values)) h1912 rfl rfl rfl (by first|rfl|simp)) ?_
    simp only[Option.some.injEq,Prod.mk.injEq] at h
    obtain⟨rfl,rfl,rfl⟩:=h
    refine X09 [] ?_
    refine X5.back (by intro id h;cases h) rfl ?_
    exact wkT [(1,4)] ((J nbF))
   refine rnI [Bf,.stop 4] ?_
   refine bI fun e1913 h1914=>?_
   try have qh1914:=Xp h1914
   intro h
   refine X5.drawnCut 5 tmD [.el (X3 e1913)] rfl rfl rfl rfl rfl (by repeat' first|apply Ya|exact Xr) ?_
   revert h
   refine bI fun w1925 h1936=>?_
   intro h
   obtain⟨Xll,Xy2⟩:=w1925
   try dsimp only at h
   refine X09 [] ?_
   refine X5.joinOpF (fun(q:Nb Xll)=>⟨fr [(0,(slE q.1 2 (Xll.map X3))),(27,(aI .i64 Xy2))],hp ([(0,Ob [(X3 (X4.mk Xk.Key x Xk.Values))] 11)]++opE q.1 2 11 (Xll.map X3)),3⟩) ?_ (fun J=>?_)
   ·
    rintro Xob
    rcases Xob with ⟨_|_,Xpe⟩
    ·
     simp only[Option.some.injEq,Prod.mk.injEq] at h
     obtain⟨rfl,rfl,rfl⟩:=h
     refine X09 [] ?_
     refine X5.back (by intro id h;cases h) rfl ?_
     exact wkT [(1,2)] ((J nbF))
    obtain rfl:=Xpe rfl
    simp only[Option.some.injEq,Prod.mk.injEq] at h
    obtain⟨rfl,rfl,rfl⟩:=h
    refine X09 [] ?_
    refine X5.back (by intro id h;cases h) rfl ?_
    exact wkT [] ((J nbS))
   clear h;revert h1936
   intro h
   refine X5.inline X8 X01t rfl rfl rfl rfl rfl trivial trivial rfl rfl ?_
   refine X09 [] ?_
   refine X5.round ?_
   revert h
   refine bI fun v1928 h1929=>brI (fun h1930=>?_) fun h1930=>?_
   ·
    intro h
    simp only[Option.some.injEq,Prod.mk.injEq] at h
    obtain⟨rfl,rfl⟩:=h
    refine X09 [Bt,.ix 0,.ix 0,.ld (X3 e1913),.pure _ (AV.tup [(X0l v1928.1),(aI .i64 v1928.2)]),Bt] ?_
    refine X5.back (by intro id h;cases h) rfl ?_
    exact wkT [(2,1)] ((J nbF))
   refine rnI [Bt,.ix 0,.ix 0,.ld (X3 e1913),.pure _ (AV.tup [(X0l v1928.1),(aI .i64 v1928.2)]),Bf,.ix 0,.ld (X3 e1913)] (o:=by repeat' first|apply Ya|exact pcM|exact(List.getElem?_set_self (by have hq:=X75 h1914;simp;omega)).trans rfl|exact Xr) ?_
   intro h
   refine X5.round ?_
   revert h
   refine bI fun v1933 h1934=>rnI [Bt,.ix 1,.ix 1,.ld (X3 (X4.mk e1913.Key e1913.Span (V2.mk v1928.1 e1913.Values.e1))),.pure _ (AV.tup [(X0l v1933.1),(aI .i64 v1933.2)])] (o:=by repeat' first|apply Ya|exact pcM|exact(List.getElem?_set_self (by have hq:=X75 h1914;simp;omega)).trans rfl|exact Xr) ?_
   refine brI (fun h1935=>?_) fun h1935=>?_
   ·
    intro h
    simp only[Option.some.injEq,Prod.mk.injEq] at h
    obtain⟨rfl,rfl⟩:=h
    refine X09 [Bt] (o:=by repeat' first|apply Ya|exact pcM|exact(List.getElem?_set_self (by have hq:=X75 h1914;simp;omega)).trans rfl|exact Xr) ?_
    refine X5.back (by intro id h;cases h) rfl ?_
    exact wkT [(2,1)] ((J nbF))
   refine rnI [Bf,.ix 1,.ld (X3 (X4.mk e1913.Key e1913.Span (V2.mk v1928.1 e1913.Values.e1)))] (o:=by repeat' first|apply Ya|exact pcM|exact(List.getElem?_set_self (by have hq:=X75 h1914;simp;omega)).trans rfl|exact Xr) ?_
   intro h
   refine X5.round ?_
   simp only[Option.some.injEq,Prod.mk.injEq] at h
   obtain⟨rfl,rfl⟩:=h
   refine X09 [Bf] (o:=by repeat' first|apply Ya|exact pcM|exact(List.getElem?_set_self (by have hq:=X75 h1914;simp;omega)).trans rfl|exact Xr) ?_
   refine X5.back (by intro id h;cases h) rfl ?_
   exact wkT [(2,1)] ((J nbF))
  obtain rfl:=X0m rfl
  refine X5.round ?_
  revert h
  refine bI fun w1960 h1981=>?_
  intro h
  obtain⟨Xy1,Xlj,Xot⟩:=w1960
  try dsimp only at h
  refine X09 [Bt,.el (X02 x)] ?_
  refine X5.joinOpF (fun(q:Nb Xlj)=>⟨fr [(12,(AV.ptr 0 0 0)),(91,(AV.list true (Xf8.map X02))),(92,(aI .i64 (Xf8.length:Int))),(93,(aI .i64 (k:Int))),(101,(AV.tup [(slE q.1 1 (Xlj.map X3)),(aI .i64 Xot)]))],hp ([(0,Ob [(X3 Xy1)] 11)]++opE q.1 1 11 (Xlj.map X3)),2⟩) ?_ (fun J=>?_)
  ·
   rintro Xoa
   rcases Xoa with ⟨_|_,Xpd⟩
   ·
    revert h
    refine brI (fun h1982=>fun e=>Xb [Bt] (k:=wkT [] (C1 _ _  nbS (oj e).symm))) fun h1982=>rnI [Bf] ?_
    intro h
    exact wkT [] (ih (k+1) hx1 _ _ nbF o h C0 C1)
   obtain rfl:=Xpd rfl
   revert h
   refine brI (fun h1983=>fun e=>Xb [Bt] (k:=wkT [] (C1 _ _  nbS (oj e).symm))) fun h1983=>rnI [Bf] ?_
   intro h
   exact wkT [] (ih (k+1) hx1 _ _ nbS o h C0 C1)
  clear h;revert h1981
  intro h
  refine X5.inline X8 fn84 rfl rfl rfl rfl rfl trivial trivial rfl rfl ?_
  revert h
  refine bI fun v1961 h1962=>rnI [.pure [(Lf (List.map X3 ([]:List X4))),(X3 (X4.mk Xk.Key x Xk.Values)),(AV.fn 116 [])] (AV.tup [(aI .i64 v1961.1),(aB v1961.2)])] (o:=by repeat' first|apply Ya|exact pcM|exact(pn (Xi _ _ _ h1962) (cc (Zn X3) (cc (X7x (x:=(X4.mk Xk.Key x Xk.Values))) (cc .fn0 cn))))|exact Xr) ?_
  refine brI (fun h1963=>?_) fun h1963=>?_
  ·
   refine brI (fun h1964=>?_) fun h1964=>?_
   ·
    refine bI fun _ h1976=>rnI [Bt] ?_
    intro h
    refine X5.joinOp (s':=⟨fr [(21,(AV.ref 2 0 (List.length (([]:List X4)++[(X4.mk Xk.Key x Xk.Values)]))))],hp ([(0,Ob [(X3 (X4.mk Xk.Key x Xk.Values))] 11),(2,Ob (List.map X3 (([]:List X4)++[(X4.mk Xk.Key x Xk.Values)])) 11)]),3⟩) ?_ (fun J=>?_)
    ·
     simp only[Option.some.injEq,Prod.mk.injEq] at h
     obtain⟨rfl,rfl,rfl⟩:=h
     refine X09 [] ?_
     refine X5.back (by intro id h;cases h) rfl ?_
     exact wkT [(1,2)] ((J nbF))
    clear h;revert h1976
    intro h
    refine X5.inline X8 Xs2 rfl rfl rfl rfl rfl trivial trivial rfl rfl ?_
    revert h
    refine bI fun m1971 h1972=>?_
    obtain⟨qah1972,qbh1972,qch1972,qh1972⟩:=X3q h1972
    obtain rfl:=X8t h1972
    refine brI (fun h1973=>?_) fun h1973=>?_
    ·
     refine bI fun u1974 h1975=>rnI [Bf,.el (aI .i64 (List.length ([]:List X4):Int)),Bt,.no] (o:=by repeat' first|apply Ya|exact pcM|(simp at qah1972 qbh1972 qch1972 ⊢;omega)|(refine X1m h1975 rfl ?_;first|(simp;done)|(simp;omega)|(simp[hc,h1963,h1964,h1973];done)|(simp[hc,h1963,h1964,h1973];omega))|(refine X0i h1975 (by decide) ?_;first|(simp;done)|(simp;omega)|(simp[hc,h1963,h1964,h1973];done)|(simp[hc,h1963,h1964,h1973];omega))|exact Xr) ?_
     intro h
     refine X5.back (by intro id h;cases h) rfl ?_
     exact wkT [(2,4)] (J)
    intro h
    exact absurd h1973 (by simp)
   refine bI fun m1977 h1978=>?_
   intro h
   exact absurd h1978 (by simp[Xrr])
  refine rnI [Bf,.stop 4] ?_
  refine bI fun e1979 h1980=>?_
  try have qh1980:=Xp h1980
  intro h
  exact absurd (h1980) (by simp[X32])
instance Xmk:PCs Tryz.prog 37 (∀ (a0:(List X4)) (a1:X0y) (a2:Xe) (a3:Int) (r:(List X4)×Int),X6v a0 a1 a2 a3=some r->X0h Tryz.prog 37 [(Lf (a0.map X3)),(X3f a1),(Xt a2),(aI .i64 a3)] (AV.tup [(AV.list true (r.1.map X3)),(aI .i64 r.2)])):=⟨fun a0 a1 a2 a3 r h=>by
 refine X0h.sym X8 fn37 (nt:=112) rfl rfl ?_ okM
 unfold X6v at h
 revert h
 refine bI fun v1 h2=>brI (fun h3=>fun e=>oj e▸Xb [.pure _ (aI .i64 v1),Bt] (k:=fi)) fun h3=>bI fun v4 h5=>brI (fun h6=>fun e=>oj e▸Xb [.pure _ (aI .i64 v1),Bf,.pure _ (aI .i64 v4),Bt] (k:=fi)) fun h6=>brI (fun h7=>fun e=>oj e▸Xb [.pure _ (aI .i64 v1),Bf,.pure _ (aI .i64 v4),Bf,Bt] (k:=fi)) fun h7=>brI (fun h8=>fun e=>oj e▸Xb [.pure _ (aI .i64 v1),Bf,.pure _ (aI .i64 v4),Bf,Bf,Bt] (k:=fi)) fun h8=>bI fun Xgh h18=>rnI [.pure _ (aI .i64 v1),Bf,.pure _ (aI .i64 v4),Bf,Bf,Bf,.stop 12] ?_
 intro h
 refine X5.join (s':=⟨fr [(0,(Lf (a0.map X3))),(5,(AV.ptr 0 0 0)),(6,(AV.ptr 1 0 0)),(12,(AV.ptr 2 0 0))],hp ([(0,Ob [(X3f a1)] 3),(1,Ob [(Xt a2)] 3),(2,Ob [(X3 Xgh)] 11)]),3⟩) ?_ (fun J=>X5.cut ?_)
 ·
  revert h
  refine bI fun Xgg h30=>rnI [] ?_
  intro h
  refine X5.joinOpF (fun(q:Nb Xgg)=>⟨fr [(5,(AV.ptr 0 0 0)),(6,(AV.ptr 1 0 0)),(12,(AV.ptr 2 0 0)),(52,(slE q.1 3 (Xgg.map X3)))],hp ([(0,Ob [(X3f a1)] 3),(1,Ob [(Xt a2)] 3),(2,Ob [(X3 Xgh)] 11)]++opE q.1 3 11 (Xgg.map X3)),4⟩) ?_ (fun J=>?_)
  ·
   rintro Xtw
   rcases Xtw with ⟨_|_,Xuq⟩
   ·
    revert h
    refine brI (fun h31=>?_) fun h31=>?_
    ·
     refine bI fun w50 h69=>?_
     intro h
     obtain⟨Xua,Xxv⟩:=w50
     try dsimp only at h
     refine X09 [Bt] ?_
     refine X5.joinOpF (fun(q:Nb Xua)=>⟨fr [(12,(AV.ptr 0 0 0)),(13,(AV.ref 1 0 (Xgg.length))),(62,(AV.tup [(slE q.1 2 (Xua.map X02)),(aI .i64 Xxv)]))],hp ([(0,Ob [(X3 Xgh)] 11),(1,Ob (Xgg.map X3) 11)]++opE q.1 2 2 (Xua.map X02)),3⟩) ?_ (fun J=>?_)
     ·
      rintro Xtv
      rcases Xtv with ⟨_|_,Xup⟩
      ·
       revert h
       refine brI (fun h70=>fun e=>oj e▸Xb [Bt] (k:=fi)) fun h70=>bI fun e71 h72=>?_
       try have qh72:=Xp h72
       refine bI fun w811 h1550=>?_
       intro h
       obtain⟨Xin,Xu6⟩:=w811
       try dsimp only at h
       refine X09 [Bf,.el (X02 e71),.ld (X02 e71)] ?_
       refine X5.joinOpF (fun(q:Nb Xin)=>⟨fr [(75,(AV.tup [(slE q.1 0 (Xin.map X3)),(aI .i64 Xu6)]))],hp ([]++opE q.1 0 11 (Xin.map X3)),1⟩) ?_ (fun J=>?_)
       ·
        rintro Xrb
        rcases Xrb with ⟨_|_,Xru⟩
        ·
         revert h
         exact brI (fun h1551=>fun e=>oj e▸Xb [Bt] (k:=fi)) fun h1551=>brI (fun h1552=>fun e=>oj e▸Xb [Bf,.el (aI .i64 (Xin.length:Int)),Bt] (k:=fi)) fun h1552=>fun e=>oj e▸Xb [Bf,.el (aI .i64 (Xin.length:Int)),Bf] (k:=fi)
        obtain rfl:=Xru rfl
        revert h
        exact brI (fun h1553=>fun e=>oj e▸Xb [Bt] (k:=fi)) fun h1553=>brI (fun h1554=>fun e=>oj e▸Xb [Bf,.el (aI .i64 (List.length ([]:List X4):Int)),Bt] (k:=fi)) fun h1554=>fun e=>oj e▸Xb [Bf,.el (aI .i64 (List.length ([]:List X4):Int)),Bf] (k:=fi)
       clear h;revert h1550
       intro h
       refine X5.inline X8 fn82 rfl rfl rfl rfl rfl trivial trivial rfl rfl ?_
       revert h
       refine bI fun o1548 h1549=>rnI [] ?_
       intro h
       refine wkT [(3,1),(4,3)] (X5.cut (X5p _ _ _ nbF _ h1549 ?_))
       intro X4h Xhl X38 eo1548;subst eo1548
       refine X5.glue ?_
       try dsimp only at h
       rcases X38 with ⟨_|_,X7v⟩
       ·
        simp only[Option.some.injEq,Prod.mk.injEq] at h
        obtain⟨rfl,rfl⟩:=h
        refine X09 [] ?_
        refine X5.back (by intro id h;cases h) rfl ?_
        exact wkT [(0,3)] ((J nbF))
       obtain rfl:=X7v rfl
       simp only[Option.some.injEq,Prod.mk.injEq] at h
       obtain⟨rfl,rfl⟩:=h
       refine X09 [] ?_
       refine X5.back (by intro id h;cases h) rfl ?_
       exact wkT [] ((J nbS))
      obtain rfl:=Xup rfl
      revert h
      refine brI (fun h1555=>fun e=>oj e▸Xb [Bt] (k:=fi)) fun h1555=>bI fun e1556 h1557=>?_
      try have qh1557:=Xp h1557
      intro h
      exact absurd (h1557) (by simp[X32])
     clear h;revert h69
     intro h
     refine X5.inline X8 fn81 rfl rfl rfl rfl rfl trivial trivial rfl rfl ?_
     revert h
     refine bI fun v51 h52=>brI (fun h53=>?_) fun h53=>?_
     ·
      intro h
      simp only[Option.some.injEq,Prod.mk.injEq] at h
      obtain⟨rfl,rfl⟩:=h
      refine X09 [.pure _ (aI .i64 v51),Bt] ?_
      refine X5.back (by intro id h;cases h) rfl ?_
      exact wkT [(0,2),(1,3)] ((J nbS))
     refine rnI [.pure _ (aI .i64 v51),Bf,Bf] ?_
     intro h
     refine X5.round ?_
     revert h
     refine bI fun v54 h55=>brI (fun h56=>?_) fun h56=>?_
     ·
      intro h
      simp only[Option.some.injEq,Prod.mk.injEq] at h
      obtain⟨rfl,rfl⟩:=h
      refine X09 [Bt,.el ((aI .i64 a2.Time)),.pure _ (aI .i64 v54),Bt] ?_
      refine X5.back (by intro id h;cases h) rfl ?_
      exact wkT [(0,2),(1,3)] ((J nbS))
     refine rnI [Bt,.el ((aI .i64 a2.Time)),.pure _ (aI .i64 v54),Bf,.wrap,.no] ?_
     intro h
     refine X5.round ?_
     refine X09 [Bf] ?_
     refine X5.inline X8 X046 rfl rfl rfl rfl rfl trivial trivial rfl rfl ?_
     refine X09 [] ?_
     refine X5.inline X8 X043 rfl rfl rfl rfl rfl trivial trivial rfl rfl ?_
     refine X09 [] ?_
     refine X5.eqNil X8 (may:=false) rfl rfl rfl rfl rfl rfl trivial rfl fun b64 qb64=>?_
     obtain rfl:=qb64 rfl
     refine X09 [Bf,.no] ?_
     refine X5.back (by intro id h;cases h) rfl ?_
     refine X09 [] ?_
     refine X5.inline X8 X042 rfl rfl rfl rfl rfl trivial trivial rfl rfl ?_
     revert h
     refine bI fun v67 h68=>rnI [.wrap,.pure _ (aI .i64 v67)] ?_
     intro h
     refine X5.inline X8 X040 rfl rfl rfl rfl rfl trivial trivial rfl rfl ?_
     refine X09 [] ?_
     refine X5.round ?_
     refine X09 [Bt] ?_
     refine X5.inline X8 X03y rfl rfl rfl rfl rfl trivial trivial rfl rfl ?_
     refine X09 [] ?_
     refine X5.round ?_
     refine X09 [Bf] ?_
     refine X5.back (by intro id h;cases h) rfl ?_
     refine X09 [] ?_
     refine X5.back (by intro id h;cases h) rfl ?_
     refine X09 [] ?_
     refine X5.back (by intro id h;cases h) rfl ?_
     refine X09 [] ?_
     refine X5.round ?_
     refine X09 [Bt,.el (AV.agg [(aI .i64 a2.Time),(aI .i64 (IntKind.i64.wrap (a2.Time+a1.Size)))]),.go false,.go false,.go false,.go false,.go false,.go false,.go false,.go false,.go false,.go false,Bf,.no] ?_
     refine X5.round ?_
     refine X09 [Bf] ?_
     refine X5.back (by intro id h;cases h) rfl ?_
     simp only[Option.some.injEq,Prod.mk.injEq] at h
     obtain⟨rfl,rfl⟩:=h
     refine X09 [] ?_
     refine X5.back (by intro id h;cases h) rfl ?_
     exact wkT [(0,2),(1,3),(2,24)] ((J nbF))
    refine bI fun v1558 h1559=>brI (fun h1560=>fun e=>oj e▸Xb [Bf,.pure _ (AV.tup [(AV.list true (v1558.1.map X02)),(aI .i64 v1558.2)]),Bt] (k:=fi)) fun h1560=>bI fun u1561 h1562=>?_
    have qh1562:=X16 h1562
    refine bI fun o1984 h1985=>rnI [Bf,.pure _ (AV.tup [(AV.list true (v1558.1.map X02)),(aI .i64 v1558.2)]),Bf,.el (aI .i64 (v1558.1.length:Int))] ?_
    intro h
    refine wkT [(0,2),(1,3)] (X5.cut (Xcg v1558.1 qh1562 v1558.1 0 (by simp) _ _ nbF _ h1985 ?_ ?_))
    ·
     intro X08 X0t eo1984;subst eo1984
     refine X5.glue ?_
     try dsimp only at h
     rcases X0t with ⟨_|_,X4d⟩
     ·
      revert h
      exact brI (fun h1986=>fun e=>oj e▸Xb [.el (aI .i64 (X08.length:Int)),Bt] (k:=fi)) fun h1986=>fun e=>oj e▸Xb [.el (aI .i64 (X08.length:Int)),Bf] (k:=fi)
     obtain rfl:=X4d rfl
     revert h
     exact brI (fun h1987=>fun e=>oj e▸Xb [.el (aI .i64 (List.length ([]:List X4):Int)),Bt] (k:=fi)) fun h1987=>fun e=>oj e▸Xb [.el (aI .i64 (List.length ([]:List X4):Int)),Bf] (k:=fi)
    intro X1h Xhk X1b eo1984;subst eo1984
    refine X5.glue ?_
    try dsimp only at h
    rcases X1b with ⟨_|_,X5j⟩
    ·
     revert h
     exact fun e=>oj e▸Xb [] (k:=fi)
    obtain rfl:=X5j rfl
    revert h
    exact fun e=>oj e▸Xb [] (k:=fi)
   obtain rfl:=Xuq rfl
   revert h
   refine brI (fun h1988=>?_) fun h1988=>?_
   ·
    refine bI fun w2007 h2026=>?_
    intro h
    obtain⟨Xli,Xro⟩:=w2007
    try dsimp only at h
    refine X09 [Bt] ?_
    refine X5.joinOpF (fun(q:Nb Xli)=>⟨fr [(12,(AV.ptr 0 0 0)),(13,AV.nils),(62,(AV.tup [(slE q.1 2 (Xli.map X02)),(aI .i64 Xro)]))],hp ([(0,Ob [(X3 Xgh)] 11)]++opE q.1 2 2 (Xli.map X02)),3⟩) ?_ (fun J=>?_)
    ·
     rintro Xo9
     rcases Xo9 with ⟨_|_,Xpc⟩
     ·
      revert h
      refine brI (fun h2027=>fun e=>oj e▸Xb [Bt] (k:=fi)) fun h2027=>bI fun e2028 h2029=>?_
      try have qh2029:=Xp h2029
      refine bI fun w2511 h2993=>?_
      intro h
      obtain⟨Xeq,Xrn⟩:=w2511
      try dsimp only at h
      refine X09 [Bf,.el (X02 e2028),.ld (X02 e2028)] ?_
      refine X5.joinOpF (fun(q:Nb Xeq)=>⟨fr [(75,(AV.tup [(slE q.1 0 (Xeq.map X3)),(aI .i64 Xrn)]))],hp ([]++opE q.1 0 11 (Xeq.map X3)),1⟩) ?_ (fun J=>?_)
      ·
       rintro Xo8
       rcases Xo8 with ⟨_|_,Xpb⟩
       ·
        revert h
        exact brI (fun h2994=>fun e=>oj e▸Xb [Bt] (k:=fi)) fun h2994=>brI (fun h2995=>fun e=>oj e▸Xb [Bf,.el (aI .i64 (Xeq.length:Int)),Bt] (k:=fi)) fun h2995=>fun e=>oj e▸Xb [Bf,.el (aI .i64 (Xeq.length:Int)),Bf] (k:=fi)
       obtain rfl:=Xpb rfl
       revert h
       exact brI (fun h2996=>fun e=>oj e▸Xb [Bt] (k:=fi)) fun h2996=>brI (fun h2997=>fun e=>oj e▸Xb [Bf,.el (aI .i64 (List.length ([]:List X4):Int)),Bt] (k:=fi)) fun h2997=>fun e=>oj e▸Xb [Bf,.el (aI .i64 (List.length ([]:List X4):Int)),Bf] (k:=fi)
      clear h;revert h2993
      intro h
      refine X5.inline X8 fn82 rfl rfl rfl rfl rfl trivial trivial rfl rfl ?_
      revert h
      refine bI fun o2991 h2992=>rnI [] ?_
      intro h
      refine wkT [(4,3)] (X5.cut (X5p _ _ _ nbS _ h2992 ?_))
      intro X4h Xhl X38 eo2991;subst eo2991
      refine X5.glue ?_
      try dsimp only at h
      rcases X38 with ⟨_|_,X7v⟩
      ·
       simp only[Option.some.injEq,Prod.mk.injEq] at h
       obtain⟨rfl,rfl⟩:=h
       refine X09 [] ?_
       refine X5.back (by intro id h;cases h) rfl ?_
       exact wkT [(0,3)] ((J nbF))
      obtain rfl:=X7v rfl
      simp only[Option.some.injEq,Prod.mk.injEq] at h
      obtain⟨rfl,rfl⟩:=h
      refine X09 [] ?_
      refine X5.back (by intro id h;cases h) rfl ?_
      exact wkT [] ((J nbS))
     obtain rfl:=Xpc rfl
     revert h
     refine brI (fun h2998=>fun e=>oj e▸Xb [Bt] (k:=fi)) fun h2998=>bI fun e2999 h3000=>?_
     try have qh3000:=Xp h3000
     intro h
     exact absurd (h3000) (by simp[X32])
    clear h;revert h2026
    intro h
    refine X5.inline X8 fn81 rfl rfl rfl rfl rfl trivial trivial rfl rfl ?_
    revert h
    refine bI fun v2008 h2009=>brI (fun h2010=>?_) fun h2010=>?_
    ·
     intro h
     simp only[Option.some.injEq,Prod.mk.injEq] at h
     obtain⟨rfl,rfl⟩:=h
     refine X09 [.pure _ (aI .i64 v2008),Bt] ?_
     refine X5.back (by intro id h;cases h) rfl ?_
     exact wkT [(0,2)] ((J nbS))
    refine rnI [.pure _ (aI .i64 v2008),Bf,Bf] ?_
    intro h
    refine X5.round ?_
    revert h
    refine bI fun v2011 h2012=>brI (fun h2013=>?_) fun h2013=>?_
    ·
     intro h
     simp only[Option.some.injEq,Prod.mk.injEq] at h
     obtain⟨rfl,rfl⟩:=h
     refine X09 [Bt,.el ((aI .i64 a2.Time)),.pure _ (aI .i64 v2011),Bt] ?_
     refine X5.back (by intro id h;cases h) rfl ?_
     exact wkT [(0,2)] ((J nbS))
    refine rnI [Bt,.el ((aI .i64 a2.Time)),.pure _ (aI .i64 v2011),Bf,.wrap,.no] ?_
    intro h
    refine X5.round ?_
    refine X09 [Bf] ?_
    refine X5.inline X8 X046 rfl rfl rfl rfl rfl trivial trivial rfl rfl ?_
    refine X09 [] ?_
    refine X5.inline X8 X043 rfl rfl rfl rfl rfl trivial trivial rfl rfl ?_
    refine X09 [] ?_
    refine X5.eqNil X8 (may:=false) rfl rfl rfl rfl rfl rfl trivial rfl fun b2021 qb2021=>?_
    obtain rfl:=qb2021 rfl
    refine X09 [Bf,.no] ?_
    refine X5.back (by intro id h;cases h) rfl ?_
    refine X09 [] ?_
    refine X5.inline X8 X042 rfl rfl rfl rfl rfl trivial trivial rfl rfl ?_
    revert h
    refine bI fun v2024 h2025=>rnI [.wrap,.pure _ (aI .i64 v2024)] ?_
    intro h
    refine X5.inline X8 X040 rfl rfl rfl rfl rfl trivial trivial rfl rfl ?_
    refine X09 [] ?_
    refine X5.round ?_
    refine X09 [Bt] ?_
    refine X5.inline X8 X03y rfl rfl rfl rfl rfl trivial trivial rfl rfl ?_
    refine X09 [] ?_
    refine X5.round ?_
    refine X09 [Bf] ?_
    refine X5.back (by intro id h;cases h) rfl ?_
    refine X09 [] ?_
    refine X5.back (by intro id h;cases h) rfl ?_
    refine X09 [] ?_
    refine X5.back (by intro id h;cases h) rfl ?_
    refine X09 [] ?_
    refine X5.round ?_
    refine X09 [Bt,.el (AV.agg [(aI .i64 a2.Time),(aI .i64 (IntKind.i64.wrap (a2.Time+a1.Size)))]),.go false,.go false,.go false,.go false,.go false,.go false,.go false,.go false,.go false,.go false,Bf,.no] ?_
    refine X5.round ?_
    refine X09 [Bf] ?_
    refine X5.back (by intro id h;cases h) rfl ?_
    simp only[Option.some.injEq,Prod.mk.injEq] at h
    obtain⟨rfl,rfl⟩:=h
    refine X09 [] ?_
    refine X5.back (by intro id h;cases h) rfl ?_
    exact wkT [(0,2),(2,24)] ((J nbF))
   refine bI fun v3001 h3002=>brI (fun h3003=>fun e=>oj e▸Xb [Bf,.pure _ (AV.tup [(AV.list true (v3001.1.map X02)),(aI .i64 v3001.2)]),Bt] (k:=fi)) fun h3003=>bI fun u3004 h3005=>?_
   have qh3005:=X16 h3005
   refine bI fun o3287 h3288=>rnI [Bf,.pure _ (AV.tup [(AV.list true (v3001.1.map X02)),(aI .i64 v3001.2)]),Bf,.el (aI .i64 (v3001.1.length:Int))] ?_
   intro h
   refine wkT [(0,2)] (X5.cut (Xcg v3001.1 qh3005 v3001.1 0 (by simp) _ _ nbS _ h3288 ?_ ?_))
   ·
    intro X08 X0t eo3287;subst eo3287
    refine X5.glue ?_
    try dsimp only at h
    rcases X0t with ⟨_|_,X4d⟩
    ·
     revert h
     exact brI (fun h3289=>fun e=>oj e▸Xb [.el (aI .i64 (X08.length:Int)),Bt] (k:=fi)) fun h3289=>fun e=>oj e▸Xb [.el (aI .i64 (X08.length:Int)),Bf] (k:=fi)
    obtain rfl:=X4d rfl
    revert h
    exact brI (fun h3290=>fun e=>oj e▸Xb [.el (aI .i64 (List.length ([]:List X4):Int)),Bt] (k:=fi)) fun h3290=>fun e=>oj e▸Xb [.el (aI .i64 (List.length ([]:List X4):Int)),Bf] (k:=fi)
   intro X1h Xhk X1b eo3287;subst eo3287
   refine X5.glue ?_
   try dsimp only at h
   rcases X1b with ⟨_|_,X5j⟩
   ·
    revert h
    exact fun e=>oj e▸Xb [] (k:=fi)
   obtain rfl:=X5j rfl
   revert h
   exact fun e=>oj e▸Xb [] (k:=fi)
  clear h;revert h30
  intro h
  refine X5.inline X8 fn80 rfl rfl rfl rfl rfl trivial trivial rfl rfl ?_
  revert h
  refine brI (fun q=>?_) fun q=>?_
  ·
   intro h
   have h25:a0=[]:=List.isEmpty_iff.1 q
   refine X09 [] ?_
   refine X5.eqNil X8 (may:=true) rfl rfl rfl rfl rfl rfl trivial (by simp[X5u, *]) fun b26 qb26=>?_
   cases b26
   ·
    obtain rfl:=oj h
    refine X09 [Bf,.ne false] ?_
    refine X5.back (by intro id h;cases h) rfl ?_
    exact wkT [] ((J nbS))
   obtain rfl:=oj h
   refine X09 [Bt] ?_
   refine X5.back (by intro id h;cases h) rfl ?_
   exact wkT [] ((J nbS))
  intro h
  have h25:¬ (a0=[]):=(fun e=>by rw[e] at q;cases q)
  refine X09 [] ?_
  refine X5.eqNil X8 (may:=false) rfl rfl rfl rfl rfl rfl trivial (by simp[X5u, *]) fun b27 qb27=>?_
  obtain rfl:=qb27 rfl
  revert h
  refine bI fun u28 h29=>?_
  intro h
  obtain rfl:=oj h
  refine X09 [Bf,.via (AV.list true (a0.map X3))] (o:=by repeat' first|apply Ya|exact pcM|(refine X1m h29 rfl ?_;first|(simp;done)|(simp;omega)|(simp[h3,h6,h7,h8,h25];done)|(simp[h3,h6,h7,h8,h25];omega))|(refine X0i h29 (by decide) ?_;first|(simp;done)|(simp;omega)|(simp[h3,h6,h7,h8,h25];done)|(simp[h3,h6,h7,h8,h25];omega))|exact Xr) ?_
  refine X5.back (by intro id h;cases h) rfl ?_
  exact wkT [(3,4)] ((J nbF))
 clear h;revert h18
 refine bI fun v14 h15=>brI (fun h16=>?_) fun h16=>?_
 ·
  intro h
  obtain rfl:=oj h
  exact Xb [.pure _ (X0l v14),.ix 0] (o:=by repeat' first|apply Ya|exact pcM|exact((eq_of_beq h16))|exact Xr) (k:=wkT [] (X5.glue J))
 refine brI (fun h17=>?_) fun h17=>?_
 ·
  intro h
  obtain rfl:=oj h
  exact Xb [.pure _ (X0l v14),.ix 1] (o:=by repeat' first|apply Ya|exact pcM|exact((eq_of_beq h17))|exact Xr) (k:=wkT [] (X5.glue J))
 intro h
 cases h⟩
end Go.Av.Tryz