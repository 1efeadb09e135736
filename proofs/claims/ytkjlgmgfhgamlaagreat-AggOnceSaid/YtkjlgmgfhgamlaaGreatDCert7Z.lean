/- Printed by decomp.py: that the program computes the functions. -/
import Derived.Test.YtkjlgmgfhgamlaaGreatDCert6Z
set_option linter.all false

namespace Go.Av.Tryz
open Go.Proofs Go.D
set_option maxRecDepth 10000
set_option maxHeartbeats 40000000
theorem Xbr {Q:Xv->St->Mu->Prop} {μ:Mu} (Xen:(List Xz)) (hl:Xen.length<=140737488355328):∀ (xs:List Xz) (k:Nat) (hx:Xen.drop k=xs) (Xn:X2) (Xk:(List X2)) (Xs:Nb Xk) (o:X7r) (h:X2l Xen xs k Xn Xk=some o)
  (C0:∀ (X08:(List X2)) (X0q:Nb X08),o=X7r.x0 X08->X3 Tryz.prog 112 0 Q (.exit (.exit 0)) [] ⟨fr [(13,(slE X0q.1 0 (X08.map X1)))],hp ([]++opE X0q.1 0 11 (X08.map X1)),1⟩ μ)
  (C1:∀ (X1i:(List X2)) (Xgw:Int) (X1c:Nb X1i),o=X7r.x1 X1i Xgw->X3 Tryz.prog 112 0 Q (.exit .ret) [] ⟨fr [(8,(slE X1c.1 0 (X1i.map X1))),(9,(aI .i64 Xgw))],hp ([]++opE X1c.1 0 11 (X1i.map X1)),1⟩ μ),
  X3 Tryz.prog 112 0 Q (.loop (X4y 0 (Xb Tryz.f37))) [] ⟨fr [(12,(AV.ptr 0 0 0)),(13,(slE Xs.1 1 (Xk.map X1))),(91,(AV.list true (Xen.map Xw))),(92,(aI .i64 (Xen.length:Int))),(93,(aI .i64 (k:Int)))],hp ([(0,Ob [(X1 Xn)] 11)]++opE Xs.1 1 11 (Xk.map X1)),2⟩ μ:=by
 intro xs
 induction xs with
 |nil =>
  intro k hx Xn Xk Xs o h C0 C1
  have hk:=X1h hx
  have hc:decide ((k:Int)<(Xen.length:Int))=false:=Yf (by omega)
  rw[X2l] at h
  rcases Xs with ⟨_|_,X0i⟩
  ·
   refine X3.round ?_
   revert h
   exact fun e=>Xa [Bf] (k:=wkT [(0,1)] (C0 _  nbF (oj e).symm))
  ·
   obtain rfl:=X0i rfl
   refine X3.round ?_
   revert h
   exact fun e=>Xa [Bf] (k:=wkT [] (C0 _  nbS (oj e).symm))
 |cons x xs ih =>
  intro k hx Xn Xk Xs o h C0 C1
  obtain⟨hk,hg,hx1⟩:=X0w hx
  have hc:decide ((k:Int)<(Xen.length:Int))=true:=Yt (by omega)
  rw[X2l] at h
  rcases Xs with ⟨_|_,X0i⟩
  ·
   refine X3.round ?_
   revert h
   refine bI fun w1890 h1937=>?_
   intro h
   obtain⟨Xwe,Xkh,Xns⟩:=w1890
   try dsimp only at h
   refine X09 [Bt,.el (Xw x)] ?_
   refine X3.joinOpF (fun(q:Nb Xkh)=>⟨fr [(12,(AV.ptr 0 0 0)),(91,(AV.list true (Xen.map Xw))),(92,(aI .i64 (Xen.length:Int))),(93,(aI .i64 (k:Int))),(101,(AV.tup [(slE q.1 1 (Xkh.map X1)),(aI .i64 Xns)]))],hp ([(0,Ob [(X1 Xwe)] 11)]++opE q.1 1 11 (Xkh.map X1)),2⟩) ?_ (fun J=>?_)
   ·
    rintro Xnb
    rcases Xnb with ⟨_|_,Xob⟩
    ·
     revert h
     refine brI (fun h1938=>fun e=>Xa [Bt] (k:=wkT [] (C1 _ _  nbS (oj e).symm))) fun h1938=>rnI [Bf] ?_
     intro h
     exact wkT [] (ih (k+1) hx1 _ _ nbF o h C0 C1)
    obtain rfl:=Xob rfl
    revert h
    refine brI (fun h1939=>fun e=>Xa [Bt] (k:=wkT [] (C1 _ _  nbS (oj e).symm))) fun h1939=>rnI [Bf] ?_
    intro h
    exact wkT [] (ih (k+1) hx1 _ _ nbS o h C0 C1)
   clear h;revert h1937
   intro h
   refine X3.inline X5 fn84 rfl rfl rfl rfl rfl trivial trivial rfl rfl ?_
   revert h
   refine bI fun v1891 h1892=>rnI [.pure [(Lf (Xk.map X1)),(X1 (X2.mk Xn.Key x Xn.Values)),(AV.fn 116 [])] (AV.tup [(aI .i64 v1891.1),(aB v1891.2)])] (o:=by repeat' first|apply Ya|exact pcM|exact(X5l.lent (Xh _ _ _ h1892) (cc (Xmc (es:=Xk.map X1) rfl (by first|rfl|(simp;done)|(simp;rfl)|(simp[hc];done)|(simp[hc];rfl)|(simp[hc,Ym,Yd];done)|(simp[hc,Ym,Yd];rfl)) (by first|rfl|(simp;done)|(simp;omega)|(simp[hc];done)|(simp[hc];omega)) (X2p X58 Xk)) (cc (X7p (x:=(X2.mk Xn.Key x Xn.Values))) (cc .fn0 cn))) (Xlq (X10 .sc (X10 .sc X7b))))|exact X04) ?_
   refine brI (fun h1893=>?_) fun h1893=>?_
   ·
    refine brI (fun h1894=>?_) fun h1894=>?_
    ·
     refine bI fun _ h1910=>rnI [Bt] ?_
     intro h
     refine X3.joinOp (s':=⟨fr [(21,(AV.ref 2 0 (List.length (Xk++[(X2.mk Xn.Key x Xn.Values)]))))],hp ([(0,Ob [(X1 (X2.mk Xn.Key x Xn.Values))] 11),(2,Ob (List.map X1 (Xk++[(X2.mk Xn.Key x Xn.Values)])) 11)]),3⟩) ?_ (fun J=>?_)
     ·
      simp only[Option.some.injEq,Prod.mk.injEq] at h
      obtain⟨rfl,rfl,rfl⟩:=h
      refine X09 [] ?_
      refine X3.back (by intro id h;cases h) rfl ?_
      exact wkT [(1,2)] ((J nbF))
     clear h;revert h1910
     intro h
     refine X3.inline X5 Xqv rfl rfl rfl rfl rfl trivial trivial rfl rfl ?_
     revert h
     refine bI fun m1903 h1904=>?_
     obtain⟨qah1904,qbh1904,qch1904,qh1904⟩:=X3u h1904
     have qlh1904:=X8m h1904
     refine brI (fun h1905=>?_) fun h1905=>?_
     ·
      refine bI fun u1906 h1907=>rnI [.ne false,Bf,.el (aI .i64 (Xk.length:Int)),Bt,.no] (o:=by repeat' first|apply Ya|exact pcM|(simp at qah1904 qbh1904 qch1904 ⊢;omega)|(simp at qah1904 qbh1904 qch1904 qlh1904 ⊢;have qz:=X36 h1905;omega)|(refine X1o h1907 rfl ?_;first|(simp;done)|(simp;omega)|(simp[hc,h1893,h1894,h1905];done)|(simp[hc,h1893,h1894,h1905];omega))|(refine X0d h1907 (by decide) ?_;first|(simp;done)|(simp;omega)|(simp[hc,h1893,h1894,h1905];done)|(simp[hc,h1893,h1894,h1905];omega))|exact X04) ?_
      intro h
      refine X3.back (by intro id h;cases h) rfl ?_
      exact wkT [(2,4)] (J)
     refine bI fun u1908 h1909=>rnI [.via (.ref 1 (Int.toNat v1891.1) (m1903.length)),Bf,.el (aI .i64 (Xk.length:Int)),Bt,.no] (o:=by repeat' first|apply Ya|exact pcM|(simp at qah1904 qbh1904 qch1904 ⊢;omega)|(simp at qah1904 qbh1904 qch1904 qlh1904 ⊢;have qz:=X11 h1905;omega)|(simp at qah1904 qbh1904 qch1904 qlh1904 ⊢;omega)|(simp;done)|(refine X1o h1909 rfl ?_;first|(simp;done)|(simp;omega)|(simp[hc,h1893,h1894,h1905];done)|(simp[hc,h1893,h1894,h1905];omega))|(refine X0d h1909 (by decide) ?_;first|(simp;done)|(simp;omega)|(simp[hc,h1893,h1894,h1905];done)|(simp[hc,h1893,h1894,h1905];omega))|exact X04) ?_
     intro h
     refine X3.back (by intro id h;cases h) rfl ?_
     exact wkT [(2,4)] (J)
    refine bI fun m1911 h1912=>rnI [Bt] ?_
    intro h
    refine X3.hcall rfl rfl rfl rfl rfl trivial trivial (Xpe ⟨_,_,Xqv⟩ (f:=X1) (l:=Xk) (x:=(X2.mk Xn.Key x Xn.Values)) h1912 rfl rfl rfl (by first|rfl|simp)) ?_
    simp only[Option.some.injEq,Prod.mk.injEq] at h
    obtain⟨rfl,rfl,rfl⟩:=h
    refine X09 [] ?_
    refine X3.back (by intro id h;cases h) rfl ?_
    exact wkT [(1,4)] ((J nbF))
   refine rnI [Bf,.stop 4] ?_
   refine bI fun e1913 h1914=>?_
   try have qh1914:=Xq h1914
   intro h
   refine X3.drawnCut 5 tmD [.el (X1 e1913)] rfl rfl rfl rfl rfl (by repeat' first|apply Ya|exact X04) ?_
   revert h
   refine bI fun w1925 h1936=>?_
   intro h
   obtain⟨Xkg,Xwd⟩:=w1925
   try dsimp only at h
   refine X09 [] ?_
   refine X3.joinOpF (fun(q:Nb Xkg)=>⟨fr [(0,(slE q.1 2 (Xkg.map X1))),(27,(aI .i64 Xwd))],hp ([(0,Ob [(X1 (X2.mk Xn.Key x Xn.Values))] 11)]++opE q.1 2 11 (Xkg.map X1)),3⟩) ?_ (fun J=>?_)
   ·
    rintro Xna
    rcases Xna with ⟨_|_,Xoa⟩
    ·
     simp only[Option.some.injEq,Prod.mk.injEq] at h
     obtain⟨rfl,rfl,rfl⟩:=h
     refine X09 [] ?_
     refine X3.back (by intro id h;cases h) rfl ?_
     exact wkT [(1,2)] ((J nbF))
    obtain rfl:=Xoa rfl
    simp only[Option.some.injEq,Prod.mk.injEq] at h
    obtain⟨rfl,rfl,rfl⟩:=h
    refine X09 [] ?_
    refine X3.back (by intro id h;cases h) rfl ?_
    exact wkT [] ((J nbS))
   clear h;revert h1936
   intro h
   refine X3.inline X5 Xzg rfl rfl rfl rfl rfl trivial trivial rfl rfl ?_
   refine X09 [] ?_
   refine X3.round ?_
   revert h
   refine bI fun v1928 h1929=>brI (fun h1930=>?_) fun h1930=>?_
   ·
    intro h
    simp only[Option.some.injEq,Prod.mk.injEq] at h
    obtain⟨rfl,rfl⟩:=h
    refine X09 [Bt,.ix 0,.ix 0,.ld (X1 e1913),.pure _ (AV.tup [(X0t v1928.1),(aI .i64 v1928.2)]),Bt] ?_
    refine X3.back (by intro id h;cases h) rfl ?_
    exact wkT [(2,1)] ((J nbF))
   refine rnI [Bt,.ix 0,.ix 0,.ld (X1 e1913),.pure _ (AV.tup [(X0t v1928.1),(aI .i64 v1928.2)]),Bf,.ix 0,.ld (X1 e1913)] (o:=by repeat' first|apply Ya|exact pcM|exact(List.getElem?_set_self (by have hq:=X70 h1914;simp;omega)).trans rfl|exact X04) ?_
   intro h
   refine X3.round ?_
   revert h
   refine bI fun v1933 h1934=>rnI [Bt,.ix 1,.ix 1,.ld (X1 (X2.mk e1913.Key e1913.Span (V2.mk v1928.1 e1913.Values.e1))),.pure _ (AV.tup [(X0t v1933.1),(aI .i64 v1933.2)])] (o:=by repeat' first|apply Ya|exact pcM|exact(List.getElem?_set_self (by have hq:=X70 h1914;simp;omega)).trans rfl|exact X04) ?_
   refine brI (fun h1935=>?_) fun h1935=>?_
   ·
    intro h
    simp only[Option.some.injEq,Prod.mk.injEq] at h
    obtain⟨rfl,rfl⟩:=h
    refine X09 [Bt] (o:=by repeat' first|apply Ya|exact pcM|exact(List.getElem?_set_self (by have hq:=X70 h1914;simp;omega)).trans rfl|exact X04) ?_
    refine X3.back (by intro id h;cases h) rfl ?_
    exact wkT [(2,1)] ((J nbF))
   refine rnI [Bf,.ix 1,.ld (X1 (X2.mk e1913.Key e1913.Span (V2.mk v1928.1 e1913.Values.e1)))] (o:=by repeat' first|apply Ya|exact pcM|exact(List.getElem?_set_self (by have hq:=X70 h1914;simp;omega)).trans rfl|exact X04) ?_
   intro h
   refine X3.round ?_
   simp only[Option.some.injEq,Prod.mk.injEq] at h
   obtain⟨rfl,rfl⟩:=h
   refine X09 [Bf] (o:=by repeat' first|apply Ya|exact pcM|exact(List.getElem?_set_self (by have hq:=X70 h1914;simp;omega)).trans rfl|exact X04) ?_
   refine X3.back (by intro id h;cases h) rfl ?_
   exact wkT [(2,1)] ((J nbF))
  obtain rfl:=X0i rfl
  refine X3.round ?_
  revert h
  refine bI fun w1960 h1981=>?_
  intro h
  obtain⟨Xwc,Xkf,Xnr⟩:=w1960
  try dsimp only at h
  refine X09 [Bt,.el (Xw x)] ?_
  refine X3.joinOpF (fun(q:Nb Xkf)=>⟨fr [(12,(AV.ptr 0 0 0)),(91,(AV.list true (Xen.map Xw))),(92,(aI .i64 (Xen.length:Int))),(93,(aI .i64 (k:Int))),(101,(AV.tup [(slE q.1 1 (Xkf.map X1)),(aI .i64 Xnr)]))],hp ([(0,Ob [(X1 Xwc)] 11)]++opE q.1 1 11 (Xkf.map X1)),2⟩) ?_ (fun J=>?_)
  ·
   rintro Xn9
   rcases Xn9 with ⟨_|_,Xo9⟩
   ·
    revert h
    refine brI (fun h1982=>fun e=>Xa [Bt] (k:=wkT [] (C1 _ _  nbS (oj e).symm))) fun h1982=>rnI [Bf] ?_
    intro h
    exact wkT [] (ih (k+1) hx1 _ _ nbF o h C0 C1)
   obtain rfl:=Xo9 rfl
   revert h
   refine brI (fun h1983=>fun e=>Xa [Bt] (k:=wkT [] (C1 _ _  nbS (oj e).symm))) fun h1983=>rnI [Bf] ?_
   intro h
   exact wkT [] (ih (k+1) hx1 _ _ nbS o h C0 C1)
  clear h;revert h1981
  intro h
  refine X3.inline X5 fn84 rfl rfl rfl rfl rfl trivial trivial rfl rfl ?_
  revert h
  refine bI fun v1961 h1962=>rnI [.pure [(Lf (List.map X1 ([]:List X2))),(X1 (X2.mk Xn.Key x Xn.Values)),(AV.fn 116 [])] (AV.tup [(aI .i64 v1961.1),(aB v1961.2)])] (o:=by repeat' first|apply Ya|exact pcM|exact(pn (Xh _ _ _ h1962) (cc (Zn X1) (cc (X7p (x:=(X2.mk Xn.Key x Xn.Values))) (cc .fn0 cn))))|exact X04) ?_
  refine brI (fun h1963=>?_) fun h1963=>?_
  ·
   refine brI (fun h1964=>?_) fun h1964=>?_
   ·
    refine bI fun _ h1976=>rnI [Bt] ?_
    intro h
    refine X3.joinOp (s':=⟨fr [(21,(AV.ref 2 0 (List.length (([]:List X2)++[(X2.mk Xn.Key x Xn.Values)]))))],hp ([(0,Ob [(X1 (X2.mk Xn.Key x Xn.Values))] 11),(2,Ob (List.map X1 (([]:List X2)++[(X2.mk Xn.Key x Xn.Values)])) 11)]),3⟩) ?_ (fun J=>?_)
    ·
     simp only[Option.some.injEq,Prod.mk.injEq] at h
     obtain⟨rfl,rfl,rfl⟩:=h
     refine X09 [] ?_
     refine X3.back (by intro id h;cases h) rfl ?_
     exact wkT [(1,2)] ((J nbF))
    clear h;revert h1976
    intro h
    refine X3.inline X5 Xqv rfl rfl rfl rfl rfl trivial trivial rfl rfl ?_
    revert h
    refine bI fun m1971 h1972=>?_
    obtain⟨qah1972,qbh1972,qch1972,qh1972⟩:=X3u h1972
    obtain rfl:=X8l h1972
    refine brI (fun h1973=>?_) fun h1973=>?_
    ·
     refine bI fun u1974 h1975=>rnI [Bf,.el (aI .i64 (List.length ([]:List X2):Int)),Bt,.no] (o:=by repeat' first|apply Ya|exact pcM|(simp at qah1972 qbh1972 qch1972 ⊢;omega)|(refine X1o h1975 rfl ?_;first|(simp;done)|(simp;omega)|(simp[hc,h1963,h1964,h1973];done)|(simp[hc,h1963,h1964,h1973];omega))|(refine X0d h1975 (by decide) ?_;first|(simp;done)|(simp;omega)|(simp[hc,h1963,h1964,h1973];done)|(simp[hc,h1963,h1964,h1973];omega))|exact X04) ?_
     intro h
     refine X3.back (by intro id h;cases h) rfl ?_
     exact wkT [(2,4)] (J)
    intro h
    exact absurd h1973 (by simp)
   refine bI fun m1977 h1978=>?_
   intro h
   exact absurd h1978 (by simp[Xlw])
  refine rnI [Bf,.stop 4] ?_
  refine bI fun e1979 h1980=>?_
  try have qh1980:=Xq h1980
  intro h
  exact absurd (h1980) (by simp[X3b])
instance Xlg:PCs Tryz.prog 37 (∀ (a0:(List X2)) (a1:X0s) (a2:Xe) (a3:Int) (r:(List X2)×Int),X35 a0 a1 a2 a3=some r->X0j Tryz.prog 37 [(Lf (a0.map X1)),(X3i a1),(Xx a2),(aI .i64 a3)] (AV.tup [(AV.list true (r.1.map X1)),(aI .i64 r.2)])):=⟨fun a0 a1 a2 a3 r h=>by
 refine X0j.sym X5 fn37 (nt:=112) rfl rfl ?_ okM
 unfold X35 at h
 revert h
 refine bI fun v1 h2=>brI (fun h3=>fun e=>oj e▸Xa [.pure _ (aI .i64 v1),Bt] (k:=fi)) fun h3=>bI fun v4 h5=>brI (fun h6=>fun e=>oj e▸Xa [.pure _ (aI .i64 v1),Bf,.pure _ (aI .i64 v4),Bt] (k:=fi)) fun h6=>brI (fun h7=>fun e=>oj e▸Xa [.pure _ (aI .i64 v1),Bf,.pure _ (aI .i64 v4),Bf,Bt] (k:=fi)) fun h7=>brI (fun h8=>fun e=>oj e▸Xa [.pure _ (aI .i64 v1),Bf,.pure _ (aI .i64 v4),Bf,Bf,Bt] (k:=fi)) fun h8=>bI fun Xfp h18=>rnI [.pure _ (aI .i64 v1),Bf,.pure _ (aI .i64 v4),Bf,Bf,Bf,.stop 12] ?_
 intro h
 refine X3.join (s':=⟨fr [(0,(Lf (a0.map X1))),(5,(AV.ptr 0 0 0)),(6,(AV.ptr 1 0 0)),(12,(AV.ptr 2 0 0))],hp ([(0,Ob [(X3i a1)] 3),(1,Ob [(Xx a2)] 3),(2,Ob [(X1 Xfp)] 11)]),3⟩) ?_ (fun J=>X3.cut ?_)
 ·
  revert h
  refine bI fun Xfo h30=>rnI [] ?_
  intro h
  refine X3.joinOpF (fun(q:Nb Xfo)=>⟨fr [(5,(AV.ptr 0 0 0)),(6,(AV.ptr 1 0 0)),(12,(AV.ptr 2 0 0)),(52,(slE q.1 3 (Xfo.map X1)))],hp ([(0,Ob [(X3i a1)] 3),(1,Ob [(Xx a2)] 3),(2,Ob [(X1 Xfp)] 11)]++opE q.1 3 11 (Xfo.map X1)),4⟩) ?_ (fun J=>?_)
  ·
   rintro Xss
   rcases Xss with ⟨_|_,Xti⟩
   ·
    revert h
    refine brI (fun h31=>?_) fun h31=>?_
    ·
     refine bI fun w50 h69=>?_
     intro h
     obtain⟨Xt6,Xw6⟩:=w50
     try dsimp only at h
     refine X09 [Bt] ?_
     refine X3.joinOpF (fun(q:Nb Xt6)=>⟨fr [(12,(AV.ptr 0 0 0)),(13,(AV.ref 1 0 (Xfo.length))),(62,(AV.tup [(slE q.1 2 (Xt6.map Xw)),(aI .i64 Xw6)]))],hp ([(0,Ob [(X1 Xfp)] 11),(1,Ob (Xfo.map X1) 11)]++opE q.1 2 2 (Xt6.map Xw)),3⟩) ?_ (fun J=>?_)
     ·
      rintro Xsr
      rcases Xsr with ⟨_|_,Xth⟩
      ·
       revert h
       refine brI (fun h70=>fun e=>oj e▸Xa [Bt] (k:=fi)) fun h70=>bI fun e71 h72=>?_
       try have qh72:=Xq h72
       refine bI fun w811 h1550=>?_
       intro h
       obtain⟨Xhs,Xt2⟩:=w811
       try dsimp only at h
       refine X09 [Bf,.el (Xw e71),.ld (Xw e71)] ?_
       refine X3.joinOpF (fun(q:Nb Xhs)=>⟨fr [(75,(AV.tup [(slE q.1 0 (Xhs.map X1)),(aI .i64 Xt2)]))],hp ([]++opE q.1 0 11 (Xhs.map X1)),1⟩) ?_ (fun J=>?_)
       ·
        rintro Xq8
        rcases Xq8 with ⟨_|_,Xqo⟩
        ·
         revert h
         exact brI (fun h1551=>fun e=>oj e▸Xa [Bt] (k:=fi)) fun h1551=>brI (fun h1552=>fun e=>oj e▸Xa [Bf,.el (aI .i64 (Xhs.length:Int)),Bt] (k:=fi)) fun h1552=>fun e=>oj e▸Xa [Bf,.el (aI .i64 (Xhs.length:Int)),Bf] (k:=fi)
        obtain rfl:=Xqo rfl
        revert h
        exact brI (fun h1553=>fun e=>oj e▸Xa [Bt] (k:=fi)) fun h1553=>brI (fun h1554=>fun e=>oj e▸Xa [Bf,.el (aI .i64 (List.length ([]:List X2):Int)),Bt] (k:=fi)) fun h1554=>fun e=>oj e▸Xa [Bf,.el (aI .i64 (List.length ([]:List X2):Int)),Bf] (k:=fi)
       clear h;revert h1550
       intro h
       refine X3.inline X5 fn82 rfl rfl rfl rfl rfl trivial trivial rfl rfl ?_
       revert h
       refine bI fun o1548 h1549=>rnI [] ?_
       intro h
       refine wkT [(3,1),(4,3)] (X3.cut (X5m _ _ _ nbF _ h1549 ?_))
       intro X4e Xgx X3c eo1548;subst eo1548
       refine X3.glue ?_
       try dsimp only at h
       rcases X3c with ⟨_|_,X7n⟩
       ·
        simp only[Option.some.injEq,Prod.mk.injEq] at h
        obtain⟨rfl,rfl⟩:=h
        refine X09 [] ?_
        refine X3.back (by intro id h;cases h) rfl ?_
        exact wkT [(0,3)] ((J nbF))
       obtain rfl:=X7n rfl
       simp only[Option.some.injEq,Prod.mk.injEq] at h
       obtain⟨rfl,rfl⟩:=h
       refine X09 [] ?_
       refine X3.back (by intro id h;cases h) rfl ?_
       exact wkT [] ((J nbS))
      obtain rfl:=Xth rfl
      revert h
      refine brI (fun h1555=>fun e=>oj e▸Xa [Bt] (k:=fi)) fun h1555=>bI fun e1556 h1557=>?_
      try have qh1557:=Xq h1557
      intro h
      exact absurd (h1557) (by simp[X3b])
     clear h;revert h69
     intro h
     refine X3.inline X5 fn81 rfl rfl rfl rfl rfl trivial trivial rfl rfl ?_
     revert h
     refine bI fun v51 h52=>brI (fun h53=>?_) fun h53=>?_
     ·
      intro h
      simp only[Option.some.injEq,Prod.mk.injEq] at h
      obtain⟨rfl,rfl⟩:=h
      refine X09 [.pure _ (aI .i64 v51),Bt] ?_
      refine X3.back (by intro id h;cases h) rfl ?_
      exact wkT [(0,2),(1,3)] ((J nbS))
     refine rnI [.pure _ (aI .i64 v51),Bf,Bf] ?_
     intro h
     refine X3.round ?_
     revert h
     refine bI fun v54 h55=>brI (fun h56=>?_) fun h56=>?_
     ·
      intro h
      simp only[Option.some.injEq,Prod.mk.injEq] at h
      obtain⟨rfl,rfl⟩:=h
      refine X09 [Bt,.el ((aI .i64 a2.Time)),.pure _ (aI .i64 v54),Bt] ?_
      refine X3.back (by intro id h;cases h) rfl ?_
      exact wkT [(0,2),(1,3)] ((J nbS))
     refine rnI [Bt,.el ((aI .i64 a2.Time)),.pure _ (aI .i64 v54),Bf,.wrap,.no] ?_
     intro h
     refine X3.round ?_
     refine X09 [Bf] ?_
     refine X3.inline X5 X01p rfl rfl rfl rfl rfl trivial trivial rfl rfl ?_
     refine X09 [] ?_
     refine X3.inline X5 X01m rfl rfl rfl rfl rfl trivial trivial rfl rfl ?_
     refine X09 [] ?_
     refine X3.eqNil X5 (may:=false) rfl rfl rfl rfl rfl rfl trivial rfl fun b64 qb64=>?_
     obtain rfl:=qb64 rfl
     refine X09 [Bf,.no] ?_
     refine X3.back (by intro id h;cases h) rfl ?_
     refine X09 [] ?_
     refine X3.inline X5 X01l rfl rfl rfl rfl rfl trivial trivial rfl rfl ?_
     revert h
     refine bI fun v67 h68=>rnI [.wrap,.pure _ (aI .i64 v67)] ?_
     intro h
     refine X3.inline X5 X01j rfl rfl rfl rfl rfl trivial trivial rfl rfl ?_
     refine X09 [] ?_
     refine X3.round ?_
     refine X09 [Bt] ?_
     refine X3.inline X5 X01h rfl rfl rfl rfl rfl trivial trivial rfl rfl ?_
     refine X09 [] ?_
     refine X3.round ?_
     refine X09 [Bf] ?_
     refine X3.back (by intro id h;cases h) rfl ?_
     refine X09 [] ?_
     refine X3.back (by intro id h;cases h) rfl ?_
     refine X09 [] ?_
     refine X3.back (by intro id h;cases h) rfl ?_
     refine X09 [] ?_
     refine X3.round ?_
     refine X09 [Bt,.el (AV.agg [(aI .i64 a2.Time),(aI .i64 (IntKind.i64.wrap (a2.Time+a1.Size)))]),.go false,.go false,.go false,.go false,.go false,.go false,.go false,.go false,.go false,.go false,Bf,.no] ?_
     refine X3.round ?_
     refine X09 [Bf] ?_
     refine X3.back (by intro id h;cases h) rfl ?_
     simp only[Option.some.injEq,Prod.mk.injEq] at h
     obtain⟨rfl,rfl⟩:=h
     refine X09 [] ?_
     refine X3.back (by intro id h;cases h) rfl ?_
     exact wkT [(0,2),(1,3),(2,24)] ((J nbF))
    refine bI fun v1558 h1559=>brI (fun h1560=>fun e=>oj e▸Xa [Bf,.pure _ (AV.tup [(AV.list true (v1558.1.map Xw)),(aI .i64 v1558.2)]),Bt] (k:=fi)) fun h1560=>bI fun u1561 h1562=>?_
    have qh1562:=X12 h1562
    refine bI fun o1984 h1985=>rnI [Bf,.pure _ (AV.tup [(AV.list true (v1558.1.map Xw)),(aI .i64 v1558.2)]),Bf,.el (aI .i64 (v1558.1.length:Int))] ?_
    intro h
    refine wkT [(0,2),(1,3)] (X3.cut (Xbr v1558.1 qh1562 v1558.1 0 (by simp) _ _ nbF _ h1985 ?_ ?_))
    ·
     intro X08 X0q eo1984;subst eo1984
     refine X3.glue ?_
     try dsimp only at h
     rcases X0q with ⟨_|_,X4a⟩
     ·
      revert h
      exact brI (fun h1986=>fun e=>oj e▸Xa [.el (aI .i64 (X08.length:Int)),Bt] (k:=fi)) fun h1986=>fun e=>oj e▸Xa [.el (aI .i64 (X08.length:Int)),Bf] (k:=fi)
     obtain rfl:=X4a rfl
     revert h
     exact brI (fun h1987=>fun e=>oj e▸Xa [.el (aI .i64 (List.length ([]:List X2):Int)),Bt] (k:=fi)) fun h1987=>fun e=>oj e▸Xa [.el (aI .i64 (List.length ([]:List X2):Int)),Bf] (k:=fi)
    intro X1i Xgw X1c eo1984;subst eo1984
    refine X3.glue ?_
    try dsimp only at h
    rcases X1c with ⟨_|_,X5f⟩
    ·
     revert h
     exact fun e=>oj e▸Xa [] (k:=fi)
    obtain rfl:=X5f rfl
    revert h
    exact fun e=>oj e▸Xa [] (k:=fi)
   obtain rfl:=Xti rfl
   revert h
   refine brI (fun h1988=>?_) fun h1988=>?_
   ·
    refine bI fun w2007 h2026=>?_
    intro h
    obtain⟨Xke,Xqj⟩:=w2007
    try dsimp only at h
    refine X09 [Bt] ?_
    refine X3.joinOpF (fun(q:Nb Xke)=>⟨fr [(12,(AV.ptr 0 0 0)),(13,AV.nils),(62,(AV.tup [(slE q.1 2 (Xke.map Xw)),(aI .i64 Xqj)]))],hp ([(0,Ob [(X1 Xfp)] 11)]++opE q.1 2 2 (Xke.map Xw)),3⟩) ?_ (fun J=>?_)
    ·
     rintro Xn8
     rcases Xn8 with ⟨_|_,Xo8⟩
     ·
      revert h
      refine brI (fun h2027=>fun e=>oj e▸Xa [Bt] (k:=fi)) fun h2027=>bI fun e2028 h2029=>?_
      try have qh2029:=Xq h2029
      refine bI fun w2511 h2993=>?_
      intro h
      obtain⟨Xe3,Xqi⟩:=w2511
      try dsimp only at h
      refine X09 [Bf,.el (Xw e2028),.ld (Xw e2028)] ?_
      refine X3.joinOpF (fun(q:Nb Xe3)=>⟨fr [(75,(AV.tup [(slE q.1 0 (Xe3.map X1)),(aI .i64 Xqi)]))],hp ([]++opE q.1 0 11 (Xe3.map X1)),1⟩) ?_ (fun J=>?_)
      ·
       rintro Xn7
       rcases Xn7 with ⟨_|_,Xo7⟩
       ·
        revert h
        exact brI (fun h2994=>fun e=>oj e▸Xa [Bt] (k:=fi)) fun h2994=>brI (fun h2995=>fun e=>oj e▸Xa [Bf,.el (aI .i64 (Xe3.length:Int)),Bt] (k:=fi)) fun h2995=>fun e=>oj e▸Xa [Bf,.el (aI .i64 (Xe3.length:Int)),Bf] (k:=fi)
       obtain rfl:=Xo7 rfl
       revert h
       exact brI (fun h2996=>fun e=>oj e▸Xa [Bt] (k:=fi)) fun h2996=>brI (fun h2997=>fun e=>oj e▸Xa [Bf,.el (aI .i64 (List.length ([]:List X2):Int)),Bt] (k:=fi)) fun h2997=>fun e=>oj e▸Xa [Bf,.el (aI .i64 (List.length ([]:List X2):Int)),Bf] (k:=fi)
      clear h;revert h2993
      intro h
      refine X3.inline X5 fn82 rfl rfl rfl rfl rfl trivial trivial rfl rfl ?_
      revert h
      refine bI fun o2991 h2992=>rnI [] ?_
      intro h
      refine wkT [(4,3)] (X3.cut (X5m _ _ _ nbS _ h2992 ?_))
      intro X4e Xgx X3c eo2991;subst eo2991
      refine X3.glue ?_
      try dsimp only at h
      rcases X3c with ⟨_|_,X7n⟩
      ·
       simp only[Option.some.injEq,Prod.mk.injEq] at h
       obtain⟨rfl,rfl⟩:=h
       refine X09 [] ?_
       refine X3.back (by intro id h;cases h) rfl ?_
       exact wkT [(0,3)] ((J nbF))
      obtain rfl:=X7n rfl
      simp only[Option.some.injEq,Prod.mk.injEq] at h
      obtain⟨rfl,rfl⟩:=h
      refine X09 [] ?_
      refine X3.back (by intro id h;cases h) rfl ?_
      exact wkT [] ((J nbS))
     obtain rfl:=Xo8 rfl
     revert h
     refine brI (fun h2998=>fun e=>oj e▸Xa [Bt] (k:=fi)) fun h2998=>bI fun e2999 h3000=>?_
     try have qh3000:=Xq h3000
     intro h
     exact absurd (h3000) (by simp[X3b])
    clear h;revert h2026
    intro h
    refine X3.inline X5 fn81 rfl rfl rfl rfl rfl trivial trivial rfl rfl ?_
    revert h
    refine bI fun v2008 h2009=>brI (fun h2010=>?_) fun h2010=>?_
    ·
     intro h
     simp only[Option.some.injEq,Prod.mk.injEq] at h
     obtain⟨rfl,rfl⟩:=h
     refine X09 [.pure _ (aI .i64 v2008),Bt] ?_
     refine X3.back (by intro id h;cases h) rfl ?_
     exact wkT [(0,2)] ((J nbS))
    refine rnI [.pure _ (aI .i64 v2008),Bf,Bf] ?_
    intro h
    refine X3.round ?_
    revert h
    refine bI fun v2011 h2012=>brI (fun h2013=>?_) fun h2013=>?_
    ·
     intro h
     simp only[Option.some.injEq,Prod.mk.injEq] at h
     obtain⟨rfl,rfl⟩:=h
     refine X09 [Bt,.el ((aI .i64 a2.Time)),.pure _ (aI .i64 v2011),Bt] ?_
     refine X3.back (by intro id h;cases h) rfl ?_
     exact wkT [(0,2)] ((J nbS))
    refine rnI [Bt,.el ((aI .i64 a2.Time)),.pure _ (aI .i64 v2011),Bf,.wrap,.no] ?_
    intro h
    refine X3.round ?_
    refine X09 [Bf] ?_
    refine X3.inline X5 X01p rfl rfl rfl rfl rfl trivial trivial rfl rfl ?_
    refine X09 [] ?_
    refine X3.inline X5 X01m rfl rfl rfl rfl rfl trivial trivial rfl rfl ?_
    refine X09 [] ?_
    refine X3.eqNil X5 (may:=false) rfl rfl rfl rfl rfl rfl trivial rfl fun b2021 qb2021=>?_
    obtain rfl:=qb2021 rfl
    refine X09 [Bf,.no] ?_
    refine X3.back (by intro id h;cases h) rfl ?_
    refine X09 [] ?_
    refine X3.inline X5 X01l rfl rfl rfl rfl rfl trivial trivial rfl rfl ?_
    revert h
    refine bI fun v2024 h2025=>rnI [.wrap,.pure _ (aI .i64 v2024)] ?_
    intro h
    refine X3.inline X5 X01j rfl rfl rfl rfl rfl trivial trivial rfl rfl ?_
    refine X09 [] ?_
    refine X3.round ?_
    refine X09 [Bt] ?_
    refine X3.inline X5 X01h rfl rfl rfl rfl rfl trivial trivial rfl rfl ?_
    refine X09 [] ?_
    refine X3.round ?_
    refine X09 [Bf] ?_
    refine X3.back (by intro id h;cases h) rfl ?_
    refine X09 [] ?_
    refine X3.back (by intro id h;cases h) rfl ?_
    refine X09 [] ?_
    refine X3.back (by intro id h;cases h) rfl ?_
    refine X09 [] ?_
    refine X3.round ?_
    refine X09 [Bt,.el (AV.agg [(aI .i64 a2.Time),(aI .i64 (IntKind.i64.wrap (a2.Time+a1.Size)))]),.go false,.go false,.go false,.go false,.go false,.go false,.go false,.go false,.go false,.go false,Bf,.no] ?_
    refine X3.round ?_
    refine X09 [Bf] ?_
    refine X3.back (by intro id h;cases h) rfl ?_
    simp only[Option.some.injEq,Prod.mk.injEq] at h
    obtain⟨rfl,rfl⟩:=h
    refine X09 [] ?_
    refine X3.back (by intro id h;cases h) rfl ?_
    exact wkT [(0,2),(2,24)] ((J nbF))
   refine bI fun v3001 h3002=>brI (fun h3003=>fun e=>oj e▸Xa [Bf,.pure _ (AV.tup [(AV.list true (v3001.1.map Xw)),(aI .i64 v3001.2)]),Bt] (k:=fi)) fun h3003=>bI fun u3004 h3005=>?_
   have qh3005:=X12 h3005
   refine bI fun o3287 h3288=>rnI [Bf,.pure _ (AV.tup [(AV.list true (v3001.1.map Xw)),(aI .i64 v3001.2)]),Bf,.el (aI .i64 (v3001.1.length:Int))] ?_
   intro h
   refine wkT [(0,2)] (X3.cut (Xbr v3001.1 qh3005 v3001.1 0 (by simp) _ _ nbS _ h3288 ?_ ?_))
   ·
    intro X08 X0q eo3287;subst eo3287
    refine X3.glue ?_
    try dsimp only at h
    rcases X0q with ⟨_|_,X4a⟩
    ·
     revert h
     exact brI (fun h3289=>fun e=>oj e▸Xa [.el (aI .i64 (X08.length:Int)),Bt] (k:=fi)) fun h3289=>fun e=>oj e▸Xa [.el (aI .i64 (X08.length:Int)),Bf] (k:=fi)
    obtain rfl:=X4a rfl
    revert h
    exact brI (fun h3290=>fun e=>oj e▸Xa [.el (aI .i64 (List.length ([]:List X2):Int)),Bt] (k:=fi)) fun h3290=>fun e=>oj e▸Xa [.el (aI .i64 (List.length ([]:List X2):Int)),Bf] (k:=fi)
   intro X1i Xgw X1c eo3287;subst eo3287
   refine X3.glue ?_
   try dsimp only at h
   rcases X1c with ⟨_|_,X5f⟩
   ·
    revert h
    exact fun e=>oj e▸Xa [] (k:=fi)
   obtain rfl:=X5f rfl
   revert h
   exact fun e=>oj e▸Xa [] (k:=fi)
  clear h;revert h30
  intro h
  refine X3.inline X5 fn80 rfl rfl rfl rfl rfl trivial trivial rfl rfl ?_
  revert h
  refine brI (fun q=>?_) fun q=>?_
  ·
   intro h
   have h25:a0=[]:=List.isEmpty_iff.1 q
   refine X09 [] ?_
   refine X3.eqNil X5 (may:=true) rfl rfl rfl rfl rfl rfl trivial (by simp[X5t, *]) fun b26 qb26=>?_
   cases b26
   ·
    obtain rfl:=oj h
    refine X09 [Bf,.ne false] ?_
    refine X3.back (by intro id h;cases h) rfl ?_
    exact wkT [] ((J nbS))
   obtain rfl:=oj h
   refine X09 [Bt] ?_
   refine X3.back (by intro id h;cases h) rfl ?_
   exact wkT [] ((J nbS))
  intro h
  have h25:¬ (a0=[]):=(fun e=>by rw[e] at q;cases q)
  refine X09 [] ?_
  refine X3.eqNil X5 (may:=false) rfl rfl rfl rfl rfl rfl trivial (by simp[X5t, *]) fun b27 qb27=>?_
  obtain rfl:=qb27 rfl
  revert h
  refine bI fun u28 h29=>?_
  intro h
  obtain rfl:=oj h
  refine X09 [Bf,.via (AV.list true (a0.map X1))] (o:=by repeat' first|apply Ya|exact pcM|(refine X1o h29 rfl ?_;first|(simp;done)|(simp;omega)|(simp[h3,h6,h7,h8,h25];done)|(simp[h3,h6,h7,h8,h25];omega))|(refine X0d h29 (by decide) ?_;first|(simp;done)|(simp;omega)|(simp[h3,h6,h7,h8,h25];done)|(simp[h3,h6,h7,h8,h25];omega))|exact X04) ?_
  refine X3.back (by intro id h;cases h) rfl ?_
  exact wkT [(3,4)] ((J nbF))
 clear h;revert h18
 refine bI fun v14 h15=>brI (fun h16=>?_) fun h16=>?_
 ·
  intro h
  obtain rfl:=oj h
  exact Xa [.pure _ (X0t v14),.ix 0] (o:=by repeat' first|apply Ya|exact pcM|exact((eq_of_beq h16))|exact X04) (k:=wkT [] (X3.glue J))
 refine brI (fun h17=>?_) fun h17=>?_
 ·
  intro h
  obtain rfl:=oj h
  exact Xa [.pure _ (X0t v14),.ix 1] (o:=by repeat' first|apply Ya|exact pcM|exact((eq_of_beq h17))|exact X04) (k:=wkT [] (X3.glue J))
 intro h
 cases h⟩
end Go.Av.Tryz