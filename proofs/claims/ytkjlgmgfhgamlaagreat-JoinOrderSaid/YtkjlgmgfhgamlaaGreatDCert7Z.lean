/- Printed by decomp.py: that the program computes the functions. -/
import Derived.Test.YtkjlgmgfhgamlaaGreatDCert6Z
set_option linter.all false

namespace Go.Av.Tryz
open Go.Proofs Go.D
set_option maxRecDepth 10000
set_option maxHeartbeats 40000000
theorem Xbn {Q:Xz->St->Mu->Prop} {μ:Mu} (Xea:(List X05)) (hl:Xea.length<=140737488355328):∀ (xs:List X05) (k:Nat) (hx:Xea.drop k=xs) (Xo:X2) (Xn:(List X2)) (Xt:Nb Xn) (o:X7k) (h:X4e Xea xs k Xo Xn=some o)
  (C0:∀ (X09:(List X2)) (X0r:Nb X09),o=X7k.x0 X09->X3 Tryz.prog 112 0 Q (.exit (.exit 0)) [] ⟨fr [(13,(slE X0r.1 0 (X09.map X1)))],hp ([]++opE X0r.1 0 11 (X09.map X1)),1⟩ μ)
  (C1:∀ (X1l:(List X2)) (Xgd:Int) (X1g:Nb X1l),o=X7k.x1 X1l Xgd->X3 Tryz.prog 112 0 Q (.exit .ret) [] ⟨fr [(8,(slE X1g.1 0 (X1l.map X1))),(9,(aI .i64 Xgd))],hp ([]++opE X1g.1 0 11 (X1l.map X1)),1⟩ μ),
  X3 Tryz.prog 112 0 Q (.loop (X5p 0 (Xj Tryz.f37))) [] ⟨fr [(12,(AV.ptr 0 0 0)),(13,(slE Xt.1 1 (Xn.map X1))),(91,(AV.list true (Xea.map X00))),(92,(aI .i64 (Xea.length:Int))),(93,(aI .i64 (k:Int)))],hp ([(0,Ob [(X1 Xo)] 11)]++opE Xt.1 1 11 (Xn.map X1)),2⟩ μ:=by
 intro xs
 induction xs with
 |nil =>
  intro k hx Xo Xn Xt o h C0 C1
  have hk:=drop_nil hx
  have hc:decide ((k:Int)<(Xea.length:Int))=false:=Yf (by omega)
  rw[X4e] at h
  rcases Xt with ⟨_|_,X0g⟩
  ·
   refine X3.round ?_
   revert h
   exact fun e=>Xa [Bf] (k:=wkT [(0,1)] (C0 _  nbF (oj e).symm))
  ·
   obtain rfl:=X0g rfl
   refine X3.round ?_
   revert h
   exact fun e=>Xa [Bf] (k:=wkT [] (C0 _  nbS (oj e).symm))
 |cons x xs ih =>
  intro k hx Xo Xn Xt o h C0 C1
  obtain⟨hk,hg,hx1⟩:=X1a hx
  have hc:decide ((k:Int)<(Xea.length:Int))=true:=Yt (by omega)
  rw[X4e] at h
  rcases Xt with ⟨_|_,X0g⟩
  ·
   refine X3.round ?_
   revert h
   refine bI fun w1890 h1937=>?_
   intro h
   obtain⟨Xvr,Xk5,Xn9⟩:=w1890
   try dsimp only at h
   refine X0i [Bt,.el (X00 x)] ?_
   refine X3.joinOpF (fun(q:Nb Xk5)=>⟨fr [(12,(AV.ptr 0 0 0)),(91,(AV.list true (Xea.map X00))),(92,(aI .i64 (Xea.length:Int))),(93,(aI .i64 (k:Int))),(101,(AV.tup [(slE q.1 1 (Xk5.map X1)),(aI .i64 Xn9)]))],hp ([(0,Ob [(X1 Xvr)] 11)]++opE q.1 1 11 (Xk5.map X1)),2⟩) ?_ (fun J=>?_)
   ·
    rintro Xms
    rcases Xms with ⟨_|_,Xnu⟩
    ·
     revert h
     refine brI (fun h1938=>fun e=>Xa [Bt] (k:=wkT [] (C1 _ _  nbS (oj e).symm))) fun h1938=>rnI [Bf] ?_
     intro h
     exact wkT [] (ih (k+1) hx1 _ _ nbF o h C0 C1)
    obtain rfl:=Xnu rfl
    revert h
    refine brI (fun h1939=>fun e=>Xa [Bt] (k:=wkT [] (C1 _ _  nbS (oj e).symm))) fun h1939=>rnI [Bf] ?_
    intro h
    exact wkT [] (ih (k+1) hx1 _ _ nbS o h C0 C1)
   clear h;revert h1937
   intro h
   refine X3.inline X6 fn84 rfl rfl rfl rfl rfl trivial trivial rfl rfl ?_
   revert h
   refine bI fun v1891 h1892=>rnI [.pure [(Lf (Xn.map X1)),(X1 (X2.mk Xo.Key x Xo.Values)),(AV.fn 116 [])] (AV.tup [(aI .i64 v1891.1),(aB v1891.2)])] (o:=by repeat' first|apply Ya|exact pcM|exact(X5n.lent (Xm _ _ _ h1892) (cc (Xlx (es:=Xn.map X1) rfl (by first|rfl|(simp;done)|(simp;rfl)|(simp[hc];done)|(simp[hc];rfl)|(simp[hc,Ym,Yd];done)|(simp[hc,Ym,Yd];rfl)) (by first|rfl|(simp;done)|(simp;omega)|(simp[hc];done)|(simp[hc];omega)) (X2o X5d Xn)) (cc (X7i (x:=(X2.mk Xo.Key x Xo.Values))) (cc .fn0 cn))) (Xlb (X0z .sc (X0z .sc X78))))|exact Xw) ?_
   refine brI (fun h1893=>?_) fun h1893=>?_
   ·
    refine brI (fun h1894=>?_) fun h1894=>?_
    ·
     refine bI fun _ h1910=>rnI [Bt] ?_
     intro h
     refine X3.joinOp (s':=⟨fr [(21,(AV.ref 2 0 (List.length (Xn++[(X2.mk Xo.Key x Xo.Values)]))))],hp ([(0,Ob [(X1 (X2.mk Xo.Key x Xo.Values))] 11),(2,Ob (List.map X1 (Xn++[(X2.mk Xo.Key x Xo.Values)])) 11)]),3⟩) ?_ (fun J=>?_)
     ·
      simp only[Option.some.injEq,Prod.mk.injEq] at h
      obtain⟨rfl,rfl,rfl⟩:=h
      refine X0i [] ?_
      refine X3.back (by intro id h;cases h) rfl ?_
      exact wkT [(1,2)] ((J nbF))
     clear h;revert h1910
     intro h
     refine X3.inline X6 Xqb rfl rfl rfl rfl rfl trivial trivial rfl rfl ?_
     revert h
     refine bI fun m1903 h1904=>?_
     obtain⟨qah1904,qbh1904,qch1904,qh1904⟩:=X3s h1904
     have qlh1904:=X8d h1904
     refine brI (fun h1905=>?_) fun h1905=>?_
     ·
      refine bI fun u1906 h1907=>rnI [.ne false,Bf,.el (aI .i64 (Xn.length:Int)),Bt,.no] (o:=by repeat' first|apply Ya|exact pcM|(simp at qah1904 qbh1904 qch1904 ⊢;omega)|(simp at qah1904 qbh1904 qch1904 qlh1904 ⊢;have qz:=X37 h1905;omega)|(refine Xv h1907 rfl ?_;first|(simp;done)|(simp;omega)|(simp[hc,h1893,h1894,h1905];done)|(simp[hc,h1893,h1894,h1905];omega))|(refine Xf h1907 (by decide) ?_;first|(simp;done)|(simp;omega)|(simp[hc,h1893,h1894,h1905];done)|(simp[hc,h1893,h1894,h1905];omega))|exact Xw) ?_
      intro h
      refine X3.back (by intro id h;cases h) rfl ?_
      exact wkT [(2,4)] (J)
     refine bI fun u1908 h1909=>rnI [.via (.ref 1 (Int.toNat v1891.1) (m1903.length)),Bf,.el (aI .i64 (Xn.length:Int)),Bt,.no] (o:=by repeat' first|apply Ya|exact pcM|(simp at qah1904 qbh1904 qch1904 ⊢;omega)|(simp at qah1904 qbh1904 qch1904 qlh1904 ⊢;have qz:=X10 h1905;omega)|(simp at qah1904 qbh1904 qch1904 qlh1904 ⊢;omega)|(simp;done)|(refine Xv h1909 rfl ?_;first|(simp;done)|(simp;omega)|(simp[hc,h1893,h1894,h1905];done)|(simp[hc,h1893,h1894,h1905];omega))|(refine Xf h1909 (by decide) ?_;first|(simp;done)|(simp;omega)|(simp[hc,h1893,h1894,h1905];done)|(simp[hc,h1893,h1894,h1905];omega))|exact Xw) ?_
     intro h
     refine X3.back (by intro id h;cases h) rfl ?_
     exact wkT [(2,4)] (J)
    refine bI fun m1911 h1912=>rnI [Bt] ?_
    intro h
    refine X3.hcall rfl rfl rfl rfl rfl trivial trivial (Xoz ⟨_,_,Xqb⟩ (f:=X1) (l:=Xn) (x:=(X2.mk Xo.Key x Xo.Values)) h1912 rfl rfl rfl (by first|rfl|simp)) ?_
    simp only[Option.some.injEq,Prod.mk.injEq] at h
    obtain⟨rfl,rfl,rfl⟩:=h
    refine X0i [] ?_
    refine X3.back (by intro id h;cases h) rfl ?_
    exact wkT [(1,4)] ((J nbF))
   refine rnI [Bf,.stop 4] ?_
   refine bI fun e1913 h1914=>?_
   try have qh1914:=Xc h1914
   intro h
   refine X3.drawnCut 5 tmD [.el (X1 e1913)] rfl rfl rfl rfl rfl (by repeat' first|apply Ya|exact Xw) ?_
   revert h
   refine bI fun w1925 h1936=>?_
   intro h
   obtain⟨Xk4,Xvq⟩:=w1925
   try dsimp only at h
   refine X0i [] ?_
   refine X3.joinOpF (fun(q:Nb Xk4)=>⟨fr [(0,(slE q.1 2 (Xk4.map X1))),(27,(aI .i64 Xvq))],hp ([(0,Ob [(X1 (X2.mk Xo.Key x Xo.Values))] 11)]++opE q.1 2 11 (Xk4.map X1)),3⟩) ?_ (fun J=>?_)
   ·
    rintro Xmr
    rcases Xmr with ⟨_|_,Xnt⟩
    ·
     simp only[Option.some.injEq,Prod.mk.injEq] at h
     obtain⟨rfl,rfl,rfl⟩:=h
     refine X0i [] ?_
     refine X3.back (by intro id h;cases h) rfl ?_
     exact wkT [(1,2)] ((J nbF))
    obtain rfl:=Xnt rfl
    simp only[Option.some.injEq,Prod.mk.injEq] at h
    obtain⟨rfl,rfl,rfl⟩:=h
    refine X0i [] ?_
    refine X3.back (by intro id h;cases h) rfl ?_
    exact wkT [] ((J nbS))
   clear h;revert h1936
   intro h
   refine X3.inline X6 Xz7 rfl rfl rfl rfl rfl trivial trivial rfl rfl ?_
   refine X0i [] ?_
   refine X3.round ?_
   revert h
   refine bI fun v1928 h1929=>brI (fun h1930=>?_) fun h1930=>?_
   ·
    intro h
    simp only[Option.some.injEq,Prod.mk.injEq] at h
    obtain⟨rfl,rfl⟩:=h
    refine X0i [Bt,.ix 0,.ix 0,.ld (X1 e1913),.pure _ (AV.tup [(X0u v1928.1),(aI .i64 v1928.2)]),Bt] ?_
    refine X3.back (by intro id h;cases h) rfl ?_
    exact wkT [(2,1)] ((J nbF))
   refine rnI [Bt,.ix 0,.ix 0,.ld (X1 e1913),.pure _ (AV.tup [(X0u v1928.1),(aI .i64 v1928.2)]),Bf,.ix 0,.ld (X1 e1913)] (o:=by repeat' first|apply Ya|exact pcM|exact(List.getElem?_set_self (by have hq:=X6t h1914;simp;omega)).trans rfl|exact Xw) ?_
   intro h
   refine X3.round ?_
   revert h
   refine bI fun v1933 h1934=>rnI [Bt,.ix 1,.ix 1,.ld (X1 (X2.mk e1913.Key e1913.Span (V2.mk v1928.1 e1913.Values.e1))),.pure _ (AV.tup [(X0u v1933.1),(aI .i64 v1933.2)])] (o:=by repeat' first|apply Ya|exact pcM|exact(List.getElem?_set_self (by have hq:=X6t h1914;simp;omega)).trans rfl|exact Xw) ?_
   refine brI (fun h1935=>?_) fun h1935=>?_
   ·
    intro h
    simp only[Option.some.injEq,Prod.mk.injEq] at h
    obtain⟨rfl,rfl⟩:=h
    refine X0i [Bt] (o:=by repeat' first|apply Ya|exact pcM|exact(List.getElem?_set_self (by have hq:=X6t h1914;simp;omega)).trans rfl|exact Xw) ?_
    refine X3.back (by intro id h;cases h) rfl ?_
    exact wkT [(2,1)] ((J nbF))
   refine rnI [Bf,.ix 1,.ld (X1 (X2.mk e1913.Key e1913.Span (V2.mk v1928.1 e1913.Values.e1)))] (o:=by repeat' first|apply Ya|exact pcM|exact(List.getElem?_set_self (by have hq:=X6t h1914;simp;omega)).trans rfl|exact Xw) ?_
   intro h
   refine X3.round ?_
   simp only[Option.some.injEq,Prod.mk.injEq] at h
   obtain⟨rfl,rfl⟩:=h
   refine X0i [Bf] (o:=by repeat' first|apply Ya|exact pcM|exact(List.getElem?_set_self (by have hq:=X6t h1914;simp;omega)).trans rfl|exact Xw) ?_
   refine X3.back (by intro id h;cases h) rfl ?_
   exact wkT [(2,1)] ((J nbF))
  obtain rfl:=X0g rfl
  refine X3.round ?_
  revert h
  refine bI fun w1960 h1981=>?_
  intro h
  obtain⟨Xvp,Xk3,Xn8⟩:=w1960
  try dsimp only at h
  refine X0i [Bt,.el (X00 x)] ?_
  refine X3.joinOpF (fun(q:Nb Xk3)=>⟨fr [(12,(AV.ptr 0 0 0)),(91,(AV.list true (Xea.map X00))),(92,(aI .i64 (Xea.length:Int))),(93,(aI .i64 (k:Int))),(101,(AV.tup [(slE q.1 1 (Xk3.map X1)),(aI .i64 Xn8)]))],hp ([(0,Ob [(X1 Xvp)] 11)]++opE q.1 1 11 (Xk3.map X1)),2⟩) ?_ (fun J=>?_)
  ·
   rintro Xmq
   rcases Xmq with ⟨_|_,Xns⟩
   ·
    revert h
    refine brI (fun h1982=>fun e=>Xa [Bt] (k:=wkT [] (C1 _ _  nbS (oj e).symm))) fun h1982=>rnI [Bf] ?_
    intro h
    exact wkT [] (ih (k+1) hx1 _ _ nbF o h C0 C1)
   obtain rfl:=Xns rfl
   revert h
   refine brI (fun h1983=>fun e=>Xa [Bt] (k:=wkT [] (C1 _ _  nbS (oj e).symm))) fun h1983=>rnI [Bf] ?_
   intro h
   exact wkT [] (ih (k+1) hx1 _ _ nbS o h C0 C1)
  clear h;revert h1981
  intro h
  refine X3.inline X6 fn84 rfl rfl rfl rfl rfl trivial trivial rfl rfl ?_
  revert h
  refine bI fun v1961 h1962=>rnI [.pure [(Lf (List.map X1 ([]:List X2))),(X1 (X2.mk Xo.Key x Xo.Values)),(AV.fn 116 [])] (AV.tup [(aI .i64 v1961.1),(aB v1961.2)])] (o:=by repeat' first|apply Ya|exact pcM|exact(pn (Xm _ _ _ h1962) (cc (Zn X1) (cc (X7i (x:=(X2.mk Xo.Key x Xo.Values))) (cc .fn0 cn))))|exact Xw) ?_
  refine brI (fun h1963=>?_) fun h1963=>?_
  ·
   refine brI (fun h1964=>?_) fun h1964=>?_
   ·
    refine bI fun _ h1976=>rnI [Bt] ?_
    intro h
    refine X3.joinOp (s':=⟨fr [(21,(AV.ref 2 0 (List.length (([]:List X2)++[(X2.mk Xo.Key x Xo.Values)]))))],hp ([(0,Ob [(X1 (X2.mk Xo.Key x Xo.Values))] 11),(2,Ob (List.map X1 (([]:List X2)++[(X2.mk Xo.Key x Xo.Values)])) 11)]),3⟩) ?_ (fun J=>?_)
    ·
     simp only[Option.some.injEq,Prod.mk.injEq] at h
     obtain⟨rfl,rfl,rfl⟩:=h
     refine X0i [] ?_
     refine X3.back (by intro id h;cases h) rfl ?_
     exact wkT [(1,2)] ((J nbF))
    clear h;revert h1976
    intro h
    refine X3.inline X6 Xqb rfl rfl rfl rfl rfl trivial trivial rfl rfl ?_
    revert h
    refine bI fun m1971 h1972=>?_
    obtain⟨qah1972,qbh1972,qch1972,qh1972⟩:=X3s h1972
    obtain rfl:=X8c h1972
    refine brI (fun h1973=>?_) fun h1973=>?_
    ·
     refine bI fun u1974 h1975=>rnI [Bf,.el (aI .i64 (List.length ([]:List X2):Int)),Bt,.no] (o:=by repeat' first|apply Ya|exact pcM|(simp at qah1972 qbh1972 qch1972 ⊢;omega)|(refine Xv h1975 rfl ?_;first|(simp;done)|(simp;omega)|(simp[hc,h1963,h1964,h1973];done)|(simp[hc,h1963,h1964,h1973];omega))|(refine Xf h1975 (by decide) ?_;first|(simp;done)|(simp;omega)|(simp[hc,h1963,h1964,h1973];done)|(simp[hc,h1963,h1964,h1973];omega))|exact Xw) ?_
     intro h
     refine X3.back (by intro id h;cases h) rfl ?_
     exact wkT [(2,4)] (J)
    intro h
    exact absurd h1973 (by simp)
   refine bI fun m1977 h1978=>?_
   intro h
   exact absurd h1978 (by simp[Xq3])
  refine rnI [Bf,.stop 4] ?_
  refine bI fun e1979 h1980=>?_
  try have qh1980:=Xc h1980
  intro h
  exact absurd (h1980) (by simp[X3c])
instance Xf5:PCs Tryz.prog 37 (∀ (a0:(List X2)) (a1:X0n) (a2:Xl) (a3:Int) (r:(List X2)×Int),X54 a0 a1 a2 a3=some r->X0l Tryz.prog 37 [(Lf (a0.map X1)),(X3i a1),(X4 a2),(aI .i64 a3)] (AV.tup [(AV.list true (r.1.map X1)),(aI .i64 r.2)])):=⟨fun a0 a1 a2 a3 r h=>by
 refine X0l.sym X6 fn37 (nt:=112) rfl rfl ?_ okM
 unfold X54 at h
 revert h
 refine bI fun v1 h2=>brI (fun h3=>fun e=>oj e▸Xa [.pure _ (aI .i64 v1),Bt] (k:=fi)) fun h3=>bI fun v4 h5=>brI (fun h6=>fun e=>oj e▸Xa [.pure _ (aI .i64 v1),Bf,.pure _ (aI .i64 v4),Bt] (k:=fi)) fun h6=>brI (fun h7=>fun e=>oj e▸Xa [.pure _ (aI .i64 v1),Bf,.pure _ (aI .i64 v4),Bf,Bt] (k:=fi)) fun h7=>brI (fun h8=>fun e=>oj e▸Xa [.pure _ (aI .i64 v1),Bf,.pure _ (aI .i64 v4),Bf,Bf,Bt] (k:=fi)) fun h8=>bI fun Xfc h18=>rnI [.pure _ (aI .i64 v1),Bf,.pure _ (aI .i64 v4),Bf,Bf,Bf,.stop 12] ?_
 intro h
 refine X3.join (s':=⟨fr [(0,(Lf (a0.map X1))),(5,(AV.ptr 0 0 0)),(6,(AV.ptr 1 0 0)),(12,(AV.ptr 2 0 0))],hp ([(0,Ob [(X3i a1)] 3),(1,Ob [(X4 a2)] 3),(2,Ob [(X1 Xfc)] 11)]),3⟩) ?_ (fun J=>X3.cut ?_)
 ·
  revert h
  refine bI fun Xfb h30=>rnI [] ?_
  intro h
  refine X3.joinOpF (fun(q:Nb Xfb)=>⟨fr [(5,(AV.ptr 0 0 0)),(6,(AV.ptr 1 0 0)),(12,(AV.ptr 2 0 0)),(52,(slE q.1 3 (Xfb.map X1)))],hp ([(0,Ob [(X3i a1)] 3),(1,Ob [(X4 a2)] 3),(2,Ob [(X1 Xfc)] 11)]++opE q.1 3 11 (Xfb.map X1)),4⟩) ?_ (fun J=>?_)
  ·
   rintro Xs4
   rcases Xs4 with ⟨_|_,Xsv⟩
   ·
    revert h
    refine brI (fun h31=>?_) fun h31=>?_
    ·
     refine bI fun w50 h69=>?_
     intro h
     obtain⟨Xsj,Xvj⟩:=w50
     try dsimp only at h
     refine X0i [Bt] ?_
     refine X3.joinOpF (fun(q:Nb Xsj)=>⟨fr [(12,(AV.ptr 0 0 0)),(13,(AV.ref 1 0 (Xfb.length))),(62,(AV.tup [(slE q.1 2 (Xsj.map X00)),(aI .i64 Xvj)]))],hp ([(0,Ob [(X1 Xfc)] 11),(1,Ob (Xfb.map X1) 11)]++opE q.1 2 2 (Xsj.map X00)),3⟩) ?_ (fun J=>?_)
     ·
      rintro Xs3
      rcases Xs3 with ⟨_|_,Xsu⟩
      ·
       revert h
       refine brI (fun h70=>fun e=>oj e▸Xa [Bt] (k:=fi)) fun h70=>bI fun e71 h72=>?_
       try have qh72:=Xc h72
       refine bI fun w811 h1550=>?_
       intro h
       obtain⟨Xh8,Xsg⟩:=w811
       try dsimp only at h
       refine X0i [Bf,.el (X00 e71),.ld (X00 e71)] ?_
       refine X3.joinOpF (fun(q:Nb Xh8)=>⟨fr [(75,(AV.tup [(slE q.1 0 (Xh8.map X1)),(aI .i64 Xsg)]))],hp ([]++opE q.1 0 11 (Xh8.map X1)),1⟩) ?_ (fun J=>?_)
       ·
        rintro Xpq
        rcases Xpq with ⟨_|_,Xq4⟩
        ·
         revert h
         exact brI (fun h1551=>fun e=>oj e▸Xa [Bt] (k:=fi)) fun h1551=>brI (fun h1552=>fun e=>oj e▸Xa [Bf,.el (aI .i64 (Xh8.length:Int)),Bt] (k:=fi)) fun h1552=>fun e=>oj e▸Xa [Bf,.el (aI .i64 (Xh8.length:Int)),Bf] (k:=fi)
        obtain rfl:=Xq4 rfl
        revert h
        exact brI (fun h1553=>fun e=>oj e▸Xa [Bt] (k:=fi)) fun h1553=>brI (fun h1554=>fun e=>oj e▸Xa [Bf,.el (aI .i64 (List.length ([]:List X2):Int)),Bt] (k:=fi)) fun h1554=>fun e=>oj e▸Xa [Bf,.el (aI .i64 (List.length ([]:List X2):Int)),Bf] (k:=fi)
       clear h;revert h1550
       intro h
       refine X3.inline X6 fn82 rfl rfl rfl rfl rfl trivial trivial rfl rfl ?_
       revert h
       refine bI fun o1548 h1549=>rnI [] ?_
       intro h
       refine wkT [(3,1),(4,3)] (X3.cut (X5o _ _ _ nbF _ h1549 ?_))
       intro X2d Xge X25 eo1548;subst eo1548
       refine X3.glue ?_
       try dsimp only at h
       rcases X25 with ⟨_|_,X5i⟩
       ·
        simp only[Option.some.injEq,Prod.mk.injEq] at h
        obtain⟨rfl,rfl⟩:=h
        refine X0i [] ?_
        refine X3.back (by intro id h;cases h) rfl ?_
        exact wkT [(0,3)] ((J nbF))
       obtain rfl:=X5i rfl
       simp only[Option.some.injEq,Prod.mk.injEq] at h
       obtain⟨rfl,rfl⟩:=h
       refine X0i [] ?_
       refine X3.back (by intro id h;cases h) rfl ?_
       exact wkT [] ((J nbS))
      obtain rfl:=Xsu rfl
      revert h
      refine brI (fun h1555=>fun e=>oj e▸Xa [Bt] (k:=fi)) fun h1555=>bI fun e1556 h1557=>?_
      try have qh1557:=Xc h1557
      intro h
      exact absurd (h1557) (by simp[X3c])
     clear h;revert h69
     intro h
     refine X3.inline X6 fn81 rfl rfl rfl rfl rfl trivial trivial rfl rfl ?_
     revert h
     refine bI fun v51 h52=>brI (fun h53=>?_) fun h53=>?_
     ·
      intro h
      simp only[Option.some.injEq,Prod.mk.injEq] at h
      obtain⟨rfl,rfl⟩:=h
      refine X0i [.pure _ (aI .i64 v51),Bt] ?_
      refine X3.back (by intro id h;cases h) rfl ?_
      exact wkT [(0,2),(1,3)] ((J nbS))
     refine rnI [.pure _ (aI .i64 v51),Bf,Bf] ?_
     intro h
     refine X3.round ?_
     revert h
     refine bI fun v54 h55=>brI (fun h56=>?_) fun h56=>?_
     ·
      intro h
      simp only[Option.some.injEq,Prod.mk.injEq] at h
      obtain⟨rfl,rfl⟩:=h
      refine X0i [Bt,.el ((aI .i64 a2.Time)),.pure _ (aI .i64 v54),Bt] ?_
      refine X3.back (by intro id h;cases h) rfl ?_
      exact wkT [(0,2),(1,3)] ((J nbS))
     refine rnI [Bt,.el ((aI .i64 a2.Time)),.pure _ (aI .i64 v54),Bf,.wrap,.no] ?_
     intro h
     refine X3.round ?_
     refine X0i [Bf] ?_
     refine X3.inline X6 X01d rfl rfl rfl rfl rfl trivial trivial rfl rfl ?_
     refine X0i [] ?_
     refine X3.inline X6 X01a rfl rfl rfl rfl rfl trivial trivial rfl rfl ?_
     refine X0i [] ?_
     refine X3.eqNil X6 (may:=false) rfl rfl rfl rfl rfl rfl trivial rfl fun b64 qb64=>?_
     obtain rfl:=qb64 rfl
     refine X0i [Bf,.no] ?_
     refine X3.back (by intro id h;cases h) rfl ?_
     refine X0i [] ?_
     refine X3.inline X6 X019 rfl rfl rfl rfl rfl trivial trivial rfl rfl ?_
     revert h
     refine bI fun v67 h68=>rnI [.wrap,.pure _ (aI .i64 v67)] ?_
     intro h
     refine X3.inline X6 X017 rfl rfl rfl rfl rfl trivial trivial rfl rfl ?_
     refine X0i [] ?_
     refine X3.round ?_
     refine X0i [Bt] ?_
     refine X3.inline X6 X015 rfl rfl rfl rfl rfl trivial trivial rfl rfl ?_
     refine X0i [] ?_
     refine X3.round ?_
     refine X0i [Bf] ?_
     refine X3.back (by intro id h;cases h) rfl ?_
     refine X0i [] ?_
     refine X3.back (by intro id h;cases h) rfl ?_
     refine X0i [] ?_
     refine X3.back (by intro id h;cases h) rfl ?_
     refine X0i [] ?_
     refine X3.round ?_
     refine X0i [Bt,.el (AV.agg [(aI .i64 a2.Time),(aI .i64 (IntKind.i64.wrap (a2.Time+a1.Size)))]),.go false,.go false,.go false,.go false,.go false,.go false,.go false,.go false,.go false,.go false,Bf,.no] ?_
     refine X3.round ?_
     refine X0i [Bf] ?_
     refine X3.back (by intro id h;cases h) rfl ?_
     simp only[Option.some.injEq,Prod.mk.injEq] at h
     obtain⟨rfl,rfl⟩:=h
     refine X0i [] ?_
     refine X3.back (by intro id h;cases h) rfl ?_
     exact wkT [(0,2),(1,3),(2,24)] ((J nbF))
    refine bI fun v1558 h1559=>brI (fun h1560=>fun e=>oj e▸Xa [Bf,.pure _ (AV.tup [(AV.list true (v1558.1.map X00)),(aI .i64 v1558.2)]),Bt] (k:=fi)) fun h1560=>bI fun u1561 h1562=>?_
    have qh1562:=X1c h1562
    refine bI fun o1984 h1985=>rnI [Bf,.pure _ (AV.tup [(AV.list true (v1558.1.map X00)),(aI .i64 v1558.2)]),Bf,.el (aI .i64 (v1558.1.length:Int))] ?_
    intro h
    refine wkT [(0,2),(1,3)] (X3.cut (Xbn v1558.1 qh1562 v1558.1 0 (by simp) _ _ nbF _ h1985 ?_ ?_))
    ·
     intro X09 X0r eo1984;subst eo1984
     refine X3.glue ?_
     try dsimp only at h
     rcases X0r with ⟨_|_,X4b⟩
     ·
      revert h
      exact brI (fun h1986=>fun e=>oj e▸Xa [.el (aI .i64 (X09.length:Int)),Bt] (k:=fi)) fun h1986=>fun e=>oj e▸Xa [.el (aI .i64 (X09.length:Int)),Bf] (k:=fi)
     obtain rfl:=X4b rfl
     revert h
     exact brI (fun h1987=>fun e=>oj e▸Xa [.el (aI .i64 (List.length ([]:List X2):Int)),Bt] (k:=fi)) fun h1987=>fun e=>oj e▸Xa [.el (aI .i64 (List.length ([]:List X2):Int)),Bf] (k:=fi)
    intro X1l Xgd X1g eo1984;subst eo1984
    refine X3.glue ?_
    try dsimp only at h
    rcases X1g with ⟨_|_,X5h⟩<;>(try obtain rfl:=X5h rfl)
    all_goals
     revert h
     exact fun e=>oj e▸Xa [] (k:=fi)
   obtain rfl:=Xsv rfl
   revert h
   refine brI (fun h1988=>?_) fun h1988=>?_
   ·
    refine bI fun w2007 h2026=>?_
    intro h
    obtain⟨Xk2,Xq0⟩:=w2007
    try dsimp only at h
    refine X0i [Bt] ?_
    refine X3.joinOpF (fun(q:Nb Xk2)=>⟨fr [(12,(AV.ptr 0 0 0)),(13,AV.nils),(62,(AV.tup [(slE q.1 2 (Xk2.map X00)),(aI .i64 Xq0)]))],hp ([(0,Ob [(X1 Xfc)] 11)]++opE q.1 2 2 (Xk2.map X00)),3⟩) ?_ (fun J=>?_)
    ·
     rintro Xmp
     rcases Xmp with ⟨_|_,Xnr⟩
     ·
      revert h
      refine brI (fun h2027=>fun e=>oj e▸Xa [Bt] (k:=fi)) fun h2027=>bI fun e2028 h2029=>?_
      try have qh2029:=Xc h2029
      refine bI fun w2511 h2993=>?_
      intro h
      obtain⟨Xdr,Xpz⟩:=w2511
      try dsimp only at h
      refine X0i [Bf,.el (X00 e2028),.ld (X00 e2028)] ?_
      refine X3.joinOpF (fun(q:Nb Xdr)=>⟨fr [(75,(AV.tup [(slE q.1 0 (Xdr.map X1)),(aI .i64 Xpz)]))],hp ([]++opE q.1 0 11 (Xdr.map X1)),1⟩) ?_ (fun J=>?_)
      ·
       rintro Xmo
       rcases Xmo with ⟨_|_,Xnq⟩
       ·
        revert h
        exact brI (fun h2994=>fun e=>oj e▸Xa [Bt] (k:=fi)) fun h2994=>brI (fun h2995=>fun e=>oj e▸Xa [Bf,.el (aI .i64 (Xdr.length:Int)),Bt] (k:=fi)) fun h2995=>fun e=>oj e▸Xa [Bf,.el (aI .i64 (Xdr.length:Int)),Bf] (k:=fi)
       obtain rfl:=Xnq rfl
       revert h
       exact brI (fun h2996=>fun e=>oj e▸Xa [Bt] (k:=fi)) fun h2996=>brI (fun h2997=>fun e=>oj e▸Xa [Bf,.el (aI .i64 (List.length ([]:List X2):Int)),Bt] (k:=fi)) fun h2997=>fun e=>oj e▸Xa [Bf,.el (aI .i64 (List.length ([]:List X2):Int)),Bf] (k:=fi)
      clear h;revert h2993
      intro h
      refine X3.inline X6 fn82 rfl rfl rfl rfl rfl trivial trivial rfl rfl ?_
      revert h
      refine bI fun o2991 h2992=>rnI [] ?_
      intro h
      refine wkT [(4,3)] (X3.cut (X5o _ _ _ nbS _ h2992 ?_))
      intro X2d Xge X25 eo2991;subst eo2991
      refine X3.glue ?_
      try dsimp only at h
      rcases X25 with ⟨_|_,X5i⟩
      ·
       simp only[Option.some.injEq,Prod.mk.injEq] at h
       obtain⟨rfl,rfl⟩:=h
       refine X0i [] ?_
       refine X3.back (by intro id h;cases h) rfl ?_
       exact wkT [(0,3)] ((J nbF))
      obtain rfl:=X5i rfl
      simp only[Option.some.injEq,Prod.mk.injEq] at h
      obtain⟨rfl,rfl⟩:=h
      refine X0i [] ?_
      refine X3.back (by intro id h;cases h) rfl ?_
      exact wkT [] ((J nbS))
     obtain rfl:=Xnr rfl
     revert h
     refine brI (fun h2998=>fun e=>oj e▸Xa [Bt] (k:=fi)) fun h2998=>bI fun e2999 h3000=>?_
     try have qh3000:=Xc h3000
     intro h
     exact absurd (h3000) (by simp[X3c])
    clear h;revert h2026
    intro h
    refine X3.inline X6 fn81 rfl rfl rfl rfl rfl trivial trivial rfl rfl ?_
    revert h
    refine bI fun v2008 h2009=>brI (fun h2010=>?_) fun h2010=>?_
    ·
     intro h
     simp only[Option.some.injEq,Prod.mk.injEq] at h
     obtain⟨rfl,rfl⟩:=h
     refine X0i [.pure _ (aI .i64 v2008),Bt] ?_
     refine X3.back (by intro id h;cases h) rfl ?_
     exact wkT [(0,2)] ((J nbS))
    refine rnI [.pure _ (aI .i64 v2008),Bf,Bf] ?_
    intro h
    refine X3.round ?_
    revert h
    refine bI fun v2011 h2012=>brI (fun h2013=>?_) fun h2013=>?_
    ·
     intro h
     simp only[Option.some.injEq,Prod.mk.injEq] at h
     obtain⟨rfl,rfl⟩:=h
     refine X0i [Bt,.el ((aI .i64 a2.Time)),.pure _ (aI .i64 v2011),Bt] ?_
     refine X3.back (by intro id h;cases h) rfl ?_
     exact wkT [(0,2)] ((J nbS))
    refine rnI [Bt,.el ((aI .i64 a2.Time)),.pure _ (aI .i64 v2011),Bf,.wrap,.no] ?_
    intro h
    refine X3.round ?_
    refine X0i [Bf] ?_
    refine X3.inline X6 X01d rfl rfl rfl rfl rfl trivial trivial rfl rfl ?_
    refine X0i [] ?_
    refine X3.inline X6 X01a rfl rfl rfl rfl rfl trivial trivial rfl rfl ?_
    refine X0i [] ?_
    refine X3.eqNil X6 (may:=false) rfl rfl rfl rfl rfl rfl trivial rfl fun b2021 qb2021=>?_
    obtain rfl:=qb2021 rfl
    refine X0i [Bf,.no] ?_
    refine X3.back (by intro id h;cases h) rfl ?_
    refine X0i [] ?_
    refine X3.inline X6 X019 rfl rfl rfl rfl rfl trivial trivial rfl rfl ?_
    revert h
    refine bI fun v2024 h2025=>rnI [.wrap,.pure _ (aI .i64 v2024)] ?_
    intro h
    refine X3.inline X6 X017 rfl rfl rfl rfl rfl trivial trivial rfl rfl ?_
    refine X0i [] ?_
    refine X3.round ?_
    refine X0i [Bt] ?_
    refine X3.inline X6 X015 rfl rfl rfl rfl rfl trivial trivial rfl rfl ?_
    refine X0i [] ?_
    refine X3.round ?_
    refine X0i [Bf] ?_
    refine X3.back (by intro id h;cases h) rfl ?_
    refine X0i [] ?_
    refine X3.back (by intro id h;cases h) rfl ?_
    refine X0i [] ?_
    refine X3.back (by intro id h;cases h) rfl ?_
    refine X0i [] ?_
    refine X3.round ?_
    refine X0i [Bt,.el (AV.agg [(aI .i64 a2.Time),(aI .i64 (IntKind.i64.wrap (a2.Time+a1.Size)))]),.go false,.go false,.go false,.go false,.go false,.go false,.go false,.go false,.go false,.go false,Bf,.no] ?_
    refine X3.round ?_
    refine X0i [Bf] ?_
    refine X3.back (by intro id h;cases h) rfl ?_
    simp only[Option.some.injEq,Prod.mk.injEq] at h
    obtain⟨rfl,rfl⟩:=h
    refine X0i [] ?_
    refine X3.back (by intro id h;cases h) rfl ?_
    exact wkT [(0,2),(2,24)] ((J nbF))
   refine bI fun v3001 h3002=>brI (fun h3003=>fun e=>oj e▸Xa [Bf,.pure _ (AV.tup [(AV.list true (v3001.1.map X00)),(aI .i64 v3001.2)]),Bt] (k:=fi)) fun h3003=>bI fun u3004 h3005=>?_
   have qh3005:=X1c h3005
   refine bI fun o3287 h3288=>rnI [Bf,.pure _ (AV.tup [(AV.list true (v3001.1.map X00)),(aI .i64 v3001.2)]),Bf,.el (aI .i64 (v3001.1.length:Int))] ?_
   intro h
   refine wkT [(0,2)] (X3.cut (Xbn v3001.1 qh3005 v3001.1 0 (by simp) _ _ nbS _ h3288 ?_ ?_))
   ·
    intro X09 X0r eo3287;subst eo3287
    refine X3.glue ?_
    try dsimp only at h
    rcases X0r with ⟨_|_,X4b⟩
    ·
     revert h
     exact brI (fun h3289=>fun e=>oj e▸Xa [.el (aI .i64 (X09.length:Int)),Bt] (k:=fi)) fun h3289=>fun e=>oj e▸Xa [.el (aI .i64 (X09.length:Int)),Bf] (k:=fi)
    obtain rfl:=X4b rfl
    revert h
    exact brI (fun h3290=>fun e=>oj e▸Xa [.el (aI .i64 (List.length ([]:List X2):Int)),Bt] (k:=fi)) fun h3290=>fun e=>oj e▸Xa [.el (aI .i64 (List.length ([]:List X2):Int)),Bf] (k:=fi)
   intro X1l Xgd X1g eo3287;subst eo3287
   refine X3.glue ?_
   try dsimp only at h
   rcases X1g with ⟨_|_,X5h⟩<;>(try obtain rfl:=X5h rfl)
   all_goals
    revert h
    exact fun e=>oj e▸Xa [] (k:=fi)
  clear h;revert h30
  intro h
  refine X3.inline X6 fn80 rfl rfl rfl rfl rfl trivial trivial rfl rfl ?_
  revert h
  refine brI (fun q=>?_) fun q=>?_
  ·
   intro h
   have h25:a0=[]:=List.isEmpty_iff.1 q
   refine X0i [] ?_
   refine X3.eqNil X6 (may:=true) rfl rfl rfl rfl rfl rfl trivial (by simp[X5v, *]) fun b26 qb26=>?_
   cases b26
   ·
    obtain rfl:=oj h
    refine X0i [Bf,.ne false] ?_
    refine X3.back (by intro id h;cases h) rfl ?_
    exact wkT [] ((J nbS))
   obtain rfl:=oj h
   refine X0i [Bt] ?_
   refine X3.back (by intro id h;cases h) rfl ?_
   exact wkT [] ((J nbS))
  intro h
  have h25:¬ (a0=[]):=(fun e=>by rw[e] at q;cases q)
  refine X0i [] ?_
  refine X3.eqNil X6 (may:=false) rfl rfl rfl rfl rfl rfl trivial (by simp[X5v, *]) fun b27 qb27=>?_
  obtain rfl:=qb27 rfl
  revert h
  refine bI fun u28 h29=>?_
  intro h
  obtain rfl:=oj h
  refine X0i [Bf,.via (AV.list true (a0.map X1))] (o:=by repeat' first|apply Ya|exact pcM|(refine Xv h29 rfl ?_;first|(simp;done)|(simp;omega)|(simp[h3,h6,h7,h8,h25];done)|(simp[h3,h6,h7,h8,h25];omega))|(refine Xf h29 (by decide) ?_;first|(simp;done)|(simp;omega)|(simp[h3,h6,h7,h8,h25];done)|(simp[h3,h6,h7,h8,h25];omega))|exact Xw) ?_
  refine X3.back (by intro id h;cases h) rfl ?_
  exact wkT [(3,4)] ((J nbF))
 clear h;revert h18
 refine bI fun v14 h15=>brI (fun h16=>?_) fun h16=>?_
 ·
  intro h
  obtain rfl:=oj h
  exact Xa [.pure _ (X0u v14),.ix 0] (o:=by repeat' first|apply Ya|exact pcM|exact((eq_of_beq h16))|exact Xw) (k:=wkT [] (X3.glue J))
 refine brI (fun h17=>?_) fun h17=>?_
 ·
  intro h
  obtain rfl:=oj h
  exact Xa [.pure _ (X0u v14),.ix 1] (o:=by repeat' first|apply Ya|exact pcM|exact((eq_of_beq h17))|exact Xw) (k:=wkT [] (X3.glue J))
 intro h
 cases h⟩
end Go.Av.Tryz