/- Printed by decomp.py: that the program computes the functions. -/
import Derived.Test.YtkjlgmgfhgamlaaGreatDCert6Z
set_option linter.all false

namespace Go.Av.Tryz
open Go.Proofs Go.D
set_option maxRecDepth 10000
set_option maxHeartbeats 40000000
theorem Xbz {Q:Xx->St->Mu->Prop} {μ:Mu} (Xer:(List X04)) (hl:Xer.length<=140737488355328):∀ (xs:List X04) (k:Nat) (hx:Xer.drop k=xs) (Xn:X1) (Xi:(List X1)) (Xq:Nb Xi) (o:X7m) (h:X3y Xer xs k Xn Xi=some o)
  (C0:∀ (X07:(List X1)) (X0o:Nb X07),o=X7m.x0 X07->X2 Tryz.prog 112 0 Q (.exit (.exit 0)) [] ⟨fr [(13,(slE X0o.1 0 (X07.map X0)))],hp ([]++opE X0o.1 0 11 (X07.map X0)),1⟩ μ)
  (C1:∀ (X1a:(List X1)) (Xh6:Int) (X17:Nb X1a),o=X7m.x1 X1a Xh6->X2 Tryz.prog 112 0 Q (.exit .ret) [] ⟨fr [(8,(slE X17.1 0 (X1a.map X0))),(9,(aI .i64 Xh6))],hp ([]++opE X17.1 0 11 (X1a.map X0)),1⟩ μ),
  X2 Tryz.prog 112 0 Q (.loop (X48 0 (Xa Tryz.f37))) [] ⟨fr [(12,(AV.ptr 0 0 0)),(13,(slE Xq.1 1 (Xi.map X0))),(91,(Lt (Xer.map Xy))),(92,(aI .i64 (Xer.length:Int))),(93,(aI .i64 (k:Int)))],hp ([(0,Ob [(X0 Xn)] 11)]++opE Xq.1 1 11 (Xi.map X0)),2⟩ μ:=by
 intro xs
 induction xs with
 |nil =>
  intro k hx Xn Xi Xq o h C0 C1;have hk:=drop_nil hx;have hc:decide ((k:Int)<(Xer.length:Int))=false:=Yf om;rw[X3y] at h;rcases Xq with ⟨_|_,X0f⟩
  ·
   refine X2.round ?_;revert h;exact λe=>X7 [Bf] (k:=wkT [(0,1)] (C0 _  nbF (oj e).symm))
  ·
   obtain rfl:=X0f rfl;refine X2.round ?_;revert h;exact λe=>X7 [Bf] (k:=wkT [] (C0 _  nbS (oj e).symm))
 |cons x xs ih =>
  intro k hx Xn Xi Xq o h C0 C1;obtain⟨hk,hg,hx1⟩:=X12 hx;have hc:decide ((k:Int)<(Xer.length:Int))=true:=Yt om;rw[X3y] at h;rcases Xq with ⟨_|_,X0f⟩
  ·
   refine X2.round ?_;revert h;refine bI λw1890 h1937=>?_;intro h;obtain⟨Xws,Xl1,Xoa⟩:=w1890;try dsimp only at h
   refine X0e [Bt,.el (Xy x)] ?_;refine X2.joinOpF (λ(q:Nb Xl1)=>⟨fr [(12,(AV.ptr 0 0 0)),(91,(Lt (Xer.map Xy))),(92,(aI .i64 (Xer.length:Int))),(93,(aI .i64 (k:Int))),(101,(AV.tup [(slE q.1 1 (Xl1.map X0)),(aI .i64 Xoa)]))],hp ([(0,Ob [(X0 Xws)] 11)]++opE q.1 1 11 (Xl1.map X0)),2⟩) ?_ (λJ=>?_)
   ·
    rintro Xnv;rcases Xnv with ⟨_|_,Xou⟩
    ·
     revert h;refine brI (λh1938=>λe=>X7 [Bt] (k:=wkT [] (C1 _ _  nbS (oj e).symm))) λh1938=>rnI [Bf] ?_;intro h;exact wkT [] (ih (k+1) hx1 _ _ nbF o h C0 C1)
    obtain rfl:=Xou rfl;revert h;refine brI (λh1939=>λe=>X7 [Bt] (k:=wkT [] (C1 _ _  nbS (oj e).symm))) λh1939=>rnI [Bf] ?_;intro h;exact wkT [] (ih (k+1) hx1 _ _ nbS o h C0 C1)
   clear h;revert h1937;intro h;refine X2.inline X3 fn84 rfl rfl rfl rfl rfl trivial trivial rfl rfl ?_;revert h;refine bI λv1891 h1892=>rnI [.pure [(Lf (Xi.map X0)),(X0 (X1.mk Xn.Key x Xn.Values)),(AV.fn 116 [])] (AV.tup [(aI .i64 v1891.1),(aB v1891.2)])] (o:=by repeat' first|apply Ya|exact pcM|exact(X5h.lent (Xf _ _ _ h1892) (cc (Xmw (es:=Xi.map X0) rfl (by first|rfl|(simp;done)|(simp;rfl)|(simp[hc];done)|(simp[hc];rfl)|(simp[hc,Ym,Yd];done)|(simp[hc,Ym,Yd];rfl)) (by first|rfl|(simp;done)|(simp;omega)|(simp[hc];done)|(simp[hc];omega)) (X2c X52 Xi)) (cc (X7j (x:=(X1.mk Xn.Key x Xn.Values))) (cc .fn0 cn))) (Xmc (X0w .sc (X0w .sc X76))))|exact Xz) ?_;refine brI (λh1893=>?_) λh1893=>?_
   ·
    refine brI (λh1894=>?_) λh1894=>?_
    ·
     refine bI λ_ h1910=>rnI [Bt] ?_;intro h;refine X2.joinOp (s':=⟨fr [(21,(AV.ref 2 0 (List.length (Xi++[(X1.mk Xn.Key x Xn.Values)]))))],hp ([(0,Ob [(X0 (X1.mk Xn.Key x Xn.Values))] 11),(2,Ob (List.map X0 (Xi++[(X1.mk Xn.Key x Xn.Values)])) 11)]),3⟩) ?_ (λJ=>?_)
     ·
      simp only[Option.some.injEq,Prod.mk.injEq] at h;obtain⟨rfl,rfl,rfl⟩:=h;refine X0e [] ?_;refine X2.back (by intro id h;cases h) rfl ?_;exact wkT [(1,2)] ((J nbF))
     clear h;revert h1910;intro h;refine X2.inline X3 Xrc rfl rfl rfl rfl rfl trivial trivial rfl rfl ?_;revert h;refine bI λm1903 h1904=>?_;obtain⟨qah1904,qbh1904,qch1904,qh1904⟩:=X3e h1904;have qlh1904:=X8k h1904;refine brI (λh1905=>?_) λh1905=>?_
     ·
      refine bI λu1906 h1907=>rnI [.ne false,Bf,.el (aI .i64 (Xi.length:Int)),Bt,.no] (o:=by repeat' first|apply Ya|exact pcM|(simp at qah1904 qbh1904 qch1904 ⊢;omega)|(simp at qah1904 qbh1904 qch1904 qlh1904 ⊢;have qz:=X2s h1905;omega)|(refine X02 h1907 rfl ?_;first|(simp<;>omega)|(simp[hc,h1893,h1894,h1905]<;>omega))|(refine Xk h1907 (by decide) ?_;first|(simp<;>omega)|(simp[hc,h1893,h1894,h1905]<;>omega))|exact Xz) ?_;intro h;refine X2.back (by intro id h;cases h) rfl ?_;exact wkT [(2,4)] (J)
     refine bI λu1908 h1909=>rnI [.via (.ref 1 (Int.toNat v1891.1) (m1903.length)),Bf,.el (aI .i64 (Xi.length:Int)),Bt,.no] (o:=by repeat' first|apply Ya|exact pcM|(simp at qah1904 qbh1904 qch1904 ⊢;omega)|(simp at qah1904 qbh1904 qch1904 qlh1904 ⊢;have qz:=X0x h1905;omega)|(simp at qah1904 qbh1904 qch1904 qlh1904 ⊢;omega)|(simp;done)|(refine X02 h1909 rfl ?_;first|(simp<;>omega)|(simp[hc,h1893,h1894,h1905]<;>omega))|(refine Xk h1909 (by decide) ?_;first|(simp<;>omega)|(simp[hc,h1893,h1894,h1905]<;>omega))|exact Xz) ?_;intro h;refine X2.back (by intro id h;cases h) rfl ?_;exact wkT [(2,4)] (J)
    refine bI λm1911 h1912=>rnI [Bt] ?_;intro h;refine X2.hcall rfl rfl rfl rfl rfl trivial trivial (Xpx ⟨_,_,Xrc⟩ (f:=X0) (l:=Xi) (x:=(X1.mk Xn.Key x Xn.Values)) h1912 rfl rfl rfl (by first|rfl|simp)) ?_;simp only[Option.some.injEq,Prod.mk.injEq] at h;obtain⟨rfl,rfl,rfl⟩:=h;refine X0e [] ?_;refine X2.back (by intro id h;cases h) rfl ?_;exact wkT [(1,4)] ((J nbF))
   refine rnI [Bf,.stop 4] ?_;refine bI λe1913 h1914=>?_;try have qh1914:=Xo h1914
   intro h;refine X2.drawnCut 5 tmD [.el (X0 e1913)] rfl rfl rfl rfl rfl (by repeat' first|apply Ya|exact Xz) ?_;revert h;refine bI λw1925 h1936=>?_;intro h;obtain⟨Xl0,Xwr⟩:=w1925;try dsimp only at h
   refine X0e [] ?_;refine X2.joinOpF (λ(q:Nb Xl0)=>⟨fr [(0,(slE q.1 2 (Xl0.map X0))),(27,(aI .i64 Xwr))],hp ([(0,Ob [(X0 (X1.mk Xn.Key x Xn.Values))] 11)]++opE q.1 2 11 (Xl0.map X0)),3⟩) ?_ (λJ=>?_)
   ·
    rintro Xnu;rcases Xnu with ⟨_|_,Xot⟩
    ·
     simp only[Option.some.injEq,Prod.mk.injEq] at h;obtain⟨rfl,rfl,rfl⟩:=h;refine X0e [] ?_;refine X2.back (by intro id h;cases h) rfl ?_;exact wkT [(1,2)] ((J nbF))
    obtain rfl:=Xot rfl;simp only[Option.some.injEq,Prod.mk.injEq] at h;obtain⟨rfl,rfl,rfl⟩:=h;refine X0e [] ?_;refine X2.back (by intro id h;cases h) rfl ?_;exact wkT [] ((J nbS))
   clear h;revert h1936;intro h;refine X2.inline X3 Xzr rfl rfl rfl rfl rfl trivial trivial rfl rfl ?_;refine X0e [] ?_;refine X2.round ?_;revert h;refine bI λv1928 h1929=>brI (λh1930=>?_) λh1930=>?_
   ·
    intro h;simp only[Option.some.injEq,Prod.mk.injEq] at h;obtain⟨rfl,rfl⟩:=h;refine X0e [Bt,.ix 0,.ix 0,.ld (X0 e1913),.pure _ (AV.tup [(X0q v1928.1),(aI .i64 v1928.2)]),Bt] ?_;refine X2.back (by intro id h;cases h) rfl ?_;exact wkT [(2,1)] ((J nbF))
   refine rnI [Bt,.ix 0,.ix 0,.ld (X0 e1913),.pure _ (AV.tup [(X0q v1928.1),(aI .i64 v1928.2)]),Bf,.ix 0,.ld (X0 e1913)] (o:=by repeat' first|apply Ya|exact pcM|exact(List.getElem?_set_self (by have hq:=X6r h1914;simp;omega)).trans rfl|exact Xz) ?_;intro h;refine X2.round ?_;revert h;refine bI λv1933 h1934=>rnI [Bt,.ix 1,.ix 1,.ld (X0 (X1.mk e1913.Key e1913.Span (V2.mk v1928.1 e1913.Values.e1))),.pure _ (AV.tup [(X0q v1933.1),(aI .i64 v1933.2)])] (o:=by repeat' first|apply Ya|exact pcM|exact(List.getElem?_set_self (by have hq:=X6r h1914;simp;omega)).trans rfl|exact Xz) ?_;refine brI (λh1935=>?_) λh1935=>?_
   ·
    intro h;simp only[Option.some.injEq,Prod.mk.injEq] at h;obtain⟨rfl,rfl⟩:=h;refine X0e [Bt] (o:=by repeat' first|apply Ya|exact pcM|exact(List.getElem?_set_self (by have hq:=X6r h1914;simp;omega)).trans rfl|exact Xz) ?_;refine X2.back (by intro id h;cases h) rfl ?_;exact wkT [(2,1)] ((J nbF))
   refine rnI [Bf,.ix 1,.ld (X0 (X1.mk e1913.Key e1913.Span (V2.mk v1928.1 e1913.Values.e1)))] (o:=by repeat' first|apply Ya|exact pcM|exact(List.getElem?_set_self (by have hq:=X6r h1914;simp;omega)).trans rfl|exact Xz) ?_;intro h;refine X2.round ?_;simp only[Option.some.injEq,Prod.mk.injEq] at h;obtain⟨rfl,rfl⟩:=h;refine X0e [Bf] (o:=by repeat' first|apply Ya|exact pcM|exact(List.getElem?_set_self (by have hq:=X6r h1914;simp;omega)).trans rfl|exact Xz) ?_;refine X2.back (by intro id h;cases h) rfl ?_;exact wkT [(2,1)] ((J nbF))
  obtain rfl:=X0f rfl;refine X2.round ?_;revert h;refine bI λw1960 h1981=>?_;intro h;obtain⟨Xwq,Xkz,Xo9⟩:=w1960;try dsimp only at h
  refine X0e [Bt,.el (Xy x)] ?_;refine X2.joinOpF (λ(q:Nb Xkz)=>⟨fr [(12,(AV.ptr 0 0 0)),(91,(Lt (Xer.map Xy))),(92,(aI .i64 (Xer.length:Int))),(93,(aI .i64 (k:Int))),(101,(AV.tup [(slE q.1 1 (Xkz.map X0)),(aI .i64 Xo9)]))],hp ([(0,Ob [(X0 Xwq)] 11)]++opE q.1 1 11 (Xkz.map X0)),2⟩) ?_ (λJ=>?_)
  ·
   rintro Xnt;rcases Xnt with ⟨_|_,Xos⟩
   ·
    revert h;refine brI (λh1982=>λe=>X7 [Bt] (k:=wkT [] (C1 _ _  nbS (oj e).symm))) λh1982=>rnI [Bf] ?_;intro h;exact wkT [] (ih (k+1) hx1 _ _ nbF o h C0 C1)
   obtain rfl:=Xos rfl;revert h;refine brI (λh1983=>λe=>X7 [Bt] (k:=wkT [] (C1 _ _  nbS (oj e).symm))) λh1983=>rnI [Bf] ?_;intro h;exact wkT [] (ih (k+1) hx1 _ _ nbS o h C0 C1)
  clear h;revert h1981;intro h;refine X2.inline X3 fn84 rfl rfl rfl rfl rfl trivial trivial rfl rfl ?_;revert h;refine bI λv1961 h1962=>rnI [.pure [(Lf (List.map X0 ([]:List X1))),(X0 (X1.mk Xn.Key x Xn.Values)),(AV.fn 116 [])] (AV.tup [(aI .i64 v1961.1),(aB v1961.2)])] (o:=by repeat' first|apply Ya|exact pcM|exact(pn (Xf _ _ _ h1962) (cc (Zn X0) (cc (X7j (x:=(X1.mk Xn.Key x Xn.Values))) (cc .fn0 cn))))|exact Xz) ?_;refine brI (λh1963=>?_) λh1963=>?_
  ·
   refine brI (λh1964=>?_) λh1964=>?_
   ·
    refine bI λ_ h1976=>rnI [Bt] ?_;intro h;refine X2.joinOp (s':=⟨fr [(21,(AV.ref 2 0 (List.length (([]:List X1)++[(X1.mk Xn.Key x Xn.Values)]))))],hp ([(0,Ob [(X0 (X1.mk Xn.Key x Xn.Values))] 11),(2,Ob (List.map X0 (([]:List X1)++[(X1.mk Xn.Key x Xn.Values)])) 11)]),3⟩) ?_ (λJ=>?_)
    ·
     simp only[Option.some.injEq,Prod.mk.injEq] at h;obtain⟨rfl,rfl,rfl⟩:=h;refine X0e [] ?_;refine X2.back (by intro id h;cases h) rfl ?_;exact wkT [(1,2)] ((J nbF))
    clear h;revert h1976;intro h;refine X2.inline X3 Xrc rfl rfl rfl rfl rfl trivial trivial rfl rfl ?_;revert h;refine bI λm1971 h1972=>?_;obtain⟨qah1972,qbh1972,qch1972,qh1972⟩:=X3e h1972;obtain rfl:=X8j h1972;refine brI (λh1973=>?_) λh1973=>?_
    ·
     refine bI λu1974 h1975=>rnI [Bf,.el (aI .i64 (List.length ([]:List X1):Int)),Bt,.no] (o:=by repeat' first|apply Ya|exact pcM|(simp at qah1972 qbh1972 qch1972 ⊢;omega)|(refine X02 h1975 rfl ?_;first|(simp<;>omega)|(simp[hc,h1963,h1964,h1973]<;>omega))|(refine Xk h1975 (by decide) ?_;first|(simp<;>omega)|(simp[hc,h1963,h1964,h1973]<;>omega))|exact Xz) ?_;intro h;refine X2.back (by intro id h;cases h) rfl ?_;exact wkT [(2,4)] (J)
    intro h;exact absurd h1973 (by simp)
   refine bI λm1977 h1978=>?_;intro h;exact absurd h1978 (by simp[Xr3])
  refine rnI [Bf,.stop 4] ?_;refine bI λe1979 h1980=>?_;try have qh1980:=Xo h1980
  intro h
  first|exact absurd (h1980) (by simp[X1o];done)|(simp[X1o,hc,h1963] at h;done)|(simp[hc,h1963] at hg;done)|exact absurd (h1980) (by simp[X1o,hc,h1963];done)
instance Xfr:PCs Tryz.prog 37 (∀ (a0:(List X1)) (a1:X0l) (a2:X8) (a3:Int) (r:(List X1)×Int),X4t a0 a1 a2 a3=some r->X0i Tryz.prog 37 [(Lf (a0.map X0)),(X33 a1),(Xm a2),(aI .i64 a3)] (AV.tup [(Lt (r.1.map X0)),(aI .i64 r.2)])):=⟨λa0 a1 a2 a3 r h=>by
 refine X0i.sym X3 fn37 (nt:=112) rfl rfl ?_ okM;unfold X4t at h;revert h;refine bI λv1 h2=>brI (λh3=>λe=>oj e▸X7 [.pure _ (aI .i64 v1),Bt] (k:=fi)) λh3=>bI λv4 h5=>brI (λh6=>λe=>oj e▸X7 [.pure _ (aI .i64 v1),Bf,.pure _ (aI .i64 v4),Bt] (k:=fi)) λh6=>brI (λh7=>λe=>oj e▸X7 [.pure _ (aI .i64 v1),Bf,.pure _ (aI .i64 v4),Bf,Bt] (k:=fi)) λh7=>brI (λh8=>λe=>oj e▸X7 [.pure _ (aI .i64 v1),Bf,.pure _ (aI .i64 v4),Bf,Bf,Bt] (k:=fi)) λh8=>bI λXfz h18=>rnI [.pure _ (aI .i64 v1),Bf,.pure _ (aI .i64 v4),Bf,Bf,Bf,.stop 12] ?_;intro h;refine X2.join (s':=⟨fr [(0,(Lf (a0.map X0))),(5,(AV.ptr 0 0 0)),(6,(AV.ptr 1 0 0)),(12,(AV.ptr 2 0 0))],hp ([(0,Ob [(X33 a1)] 3),(1,Ob [(Xm a2)] 3),(2,Ob [(X0 Xfz)] 11)]),3⟩) ?_ (λJ=>X2.cut ?_)
 ·
  revert h;refine bI λXfy h30=>rnI [] ?_;intro h;refine X2.joinOpF (λ(q:Nb Xfy)=>⟨fr [(5,(AV.ptr 0 0 0)),(6,(AV.ptr 1 0 0)),(12,(AV.ptr 2 0 0)),(52,(slE q.1 3 (Xfy.map X0)))],hp ([(0,Ob [(X33 a1)] 3),(1,Ob [(Xm a2)] 3),(2,Ob [(X0 Xfz)] 11)]++opE q.1 3 11 (Xfy.map X0)),4⟩) ?_ (λJ=>?_)
  ·
   rintro Xt3;rcases Xt3 with ⟨_|_,Xts⟩
   ·
    revert h;refine brI (λh31=>?_) λh31=>?_
    ·
     refine bI λw50 h69=>?_;intro h;obtain⟨Xtg,Xwk⟩:=w50;try dsimp only at h
     refine X0e [Bt] ?_;refine X2.joinOpF (λ(q:Nb Xtg)=>⟨fr [(12,(AV.ptr 0 0 0)),(13,(AV.ref 1 0 (Xfy.length))),(62,(AV.tup [(slE q.1 2 (Xtg.map Xy)),(aI .i64 Xwk)]))],hp ([(0,Ob [(X0 Xfz)] 11),(1,Ob (Xfy.map X0) 11)]++opE q.1 2 2 (Xtg.map Xy)),3⟩) ?_ (λJ=>?_)
     ·
      rintro Xt2;rcases Xt2 with ⟨_|_,Xtr⟩
      ·
       revert h;refine brI (λh70=>λe=>oj e▸X7 [Bt] (k:=fi)) λh70=>bI λe71 h72=>?_;try have qh72:=Xo h72
       refine bI λw811 h1550=>?_;intro h;obtain⟨Xi5,Xtd⟩:=w811;try dsimp only at h
       refine X0e [Bf,.el (Xy e71),.ld (Xy e71)] ?_;refine X2.joinOpF (λ(q:Nb Xi5)=>⟨fr [(75,(AV.tup [(slE q.1 0 (Xi5.map X0)),(aI .i64 Xtd)]))],hp ([]++opE q.1 0 11 (Xi5.map X0)),1⟩) ?_ (λJ=>?_)
       ·
        rintro Xqq;rcases Xqq with ⟨_|_,Xr5⟩
        ·
         revert h;exact brI (λh1551=>λe=>oj e▸X7 [Bt] (k:=fi)) λh1551=>brI (λh1552=>λe=>oj e▸X7 [Bf,.el (aI .i64 (Xi5.length:Int)),Bt] (k:=fi)) λh1552=>λe=>oj e▸X7 [Bf,.el (aI .i64 (Xi5.length:Int)),Bf] (k:=fi)
        obtain rfl:=Xr5 rfl;revert h;exact brI (λh1553=>λe=>oj e▸X7 [Bt] (k:=fi)) λh1553=>brI (λh1554=>λe=>oj e▸X7 [Bf,.el (aI .i64 (List.length ([]:List X1):Int)),Bt] (k:=fi)) λh1554=>λe=>oj e▸X7 [Bf,.el (aI .i64 (List.length ([]:List X1):Int)),Bf] (k:=fi)
       clear h;revert h1550;intro h;refine X2.inline X3 fn82 rfl rfl rfl rfl rfl trivial trivial rfl rfl ?_;revert h;refine bI λo1548 h1549=>rnI [] ?_;intro h;refine wkT [(3,1),(4,3)] (X2.cut (X5i _ _ _ nbF _ h1549 ?_));intro X1p Xh7 X1u eo1548;subst eo1548;refine X2.glue ?_;try dsimp only at h
       rcases X1u with ⟨_|_,X5c⟩
       ·
        simp only[Option.some.injEq,Prod.mk.injEq] at h;obtain⟨rfl,rfl⟩:=h;refine X0e [] ?_;refine X2.back (by intro id h;cases h) rfl ?_;exact wkT [(0,3)] ((J nbF))
       obtain rfl:=X5c rfl;simp only[Option.some.injEq,Prod.mk.injEq] at h;obtain⟨rfl,rfl⟩:=h;refine X0e [] ?_;refine X2.back (by intro id h;cases h) rfl ?_;exact wkT [] ((J nbS))
      obtain rfl:=Xtr rfl;revert h;refine brI (λh1555=>λe=>oj e▸X7 [Bt] (k:=fi)) λh1555=>bI λe1556 h1557=>?_;try have qh1557:=Xo h1557
      intro h
      first|exact absurd (h1557) (by simp[X1o];done)|(simp[X1o,h3,h6,h7,h8,h31,h1555] at h;done)|(simp[h3,h6,h7,h8,h31,h1555] at hg;done)|exact absurd (h1557) (by simp[X1o,h3,h6,h7,h8,h31,h1555];done)
     clear h;revert h69;intro h;refine X2.inline X3 fn81 rfl rfl rfl rfl rfl trivial trivial rfl rfl ?_;revert h;refine bI λv51 h52=>brI (λh53=>?_) λh53=>?_
     ·
      intro h;simp only[Option.some.injEq,Prod.mk.injEq] at h;obtain⟨rfl,rfl⟩:=h;refine X0e [.pure _ (aI .i64 v51),Bt] ?_;refine X2.back (by intro id h;cases h) rfl ?_;exact wkT [(0,2),(1,3)] ((J nbS))
     refine rnI [.pure _ (aI .i64 v51),Bf,Bf] ?_;intro h;refine X2.round ?_;revert h;refine bI λv54 h55=>brI (λh56=>?_) λh56=>?_
     ·
      intro h;simp only[Option.some.injEq,Prod.mk.injEq] at h;obtain⟨rfl,rfl⟩:=h;refine X0e [Bt,.el ((aI .i64 a2.Time)),.pure _ (aI .i64 v54),Bt] ?_;refine X2.back (by intro id h;cases h) rfl ?_;exact wkT [(0,2),(1,3)] ((J nbS))
     refine rnI [Bt,.el ((aI .i64 a2.Time)),.pure _ (aI .i64 v54),Bf,.wrap,.no] ?_;intro h;refine X2.round ?_;refine X0e [Bf] ?_;refine X2.inline X3 X025 rfl rfl rfl rfl rfl trivial trivial rfl rfl ?_;refine X0e [] ?_;refine X2.inline X3 X022 rfl rfl rfl rfl rfl trivial trivial rfl rfl ?_;refine X0e [] ?_;refine X2.eqNil X3 (may:=false) rfl rfl rfl rfl rfl rfl trivial rfl λb64 qb64=>?_;obtain rfl:=qb64 rfl;refine X0e [Bf,.no] ?_;refine X2.back (by intro id h;cases h) rfl ?_;refine X0e [] ?_;refine X2.inline X3 X021 rfl rfl rfl rfl rfl trivial trivial rfl rfl ?_;revert h;refine bI λv67 h68=>rnI [.wrap,.pure _ (aI .i64 v67)] ?_;intro h;refine X2.inline X3 X01z rfl rfl rfl rfl rfl trivial trivial rfl rfl ?_;refine X0e [] ?_;refine X2.round ?_;refine X0e [Bt] ?_;refine X2.inline X3 X01x rfl rfl rfl rfl rfl trivial trivial rfl rfl ?_;refine X0e [] ?_;refine X2.round ?_;refine X0e [Bf] ?_;refine X2.back (by intro id h;cases h) rfl ?_;refine X0e [] ?_;refine X2.back (by intro id h;cases h) rfl ?_;refine X0e [] ?_;refine X2.back (by intro id h;cases h) rfl ?_;refine X0e [] ?_;refine X2.round ?_;refine X0e [Bt,.el (AV.agg [(aI .i64 a2.Time),(aI .i64 (IntKind.i64.wrap (a2.Time+a1.Size)))]),Gf,Gf,Gf,Gf,Gf,Gf,Gf,Gf,Gf,Gf,Bf,.no] ?_;refine X2.round ?_;refine X0e [Bf] ?_;refine X2.back (by intro id h;cases h) rfl ?_;simp only[Option.some.injEq,Prod.mk.injEq] at h;obtain⟨rfl,rfl⟩:=h;refine X0e [] ?_;refine X2.back (by intro id h;cases h) rfl ?_;exact wkT [(0,2),(1,3),(2,24)] ((J nbF))
    refine bI λv1558 h1559=>brI (λh1560=>λe=>oj e▸X7 [Bf,.pure _ (AV.tup [(Lt (v1558.1.map Xy)),(aI .i64 v1558.2)]),Bt] (k:=fi)) λh1560=>bI λu1561 h1562=>?_;have qh1562:=X13 h1562;refine bI λo1984 h1985=>rnI [Bf,.pure _ (AV.tup [(Lt (v1558.1.map Xy)),(aI .i64 v1558.2)]),Bf,.el (aI .i64 (v1558.1.length:Int))] ?_;intro h;refine wkT [(0,2),(1,3)] (X2.cut (Xbz v1558.1 qh1562 v1558.1 0 (by simp) _ _ nbF _ h1985 ?_ ?_))
    ·
     intro X07 X0o eo1984;subst eo1984;refine X2.glue ?_;try dsimp only at h
     rcases X0o with ⟨_|_,X3u⟩
     ·
      revert h;exact brI (λh1986=>λe=>oj e▸X7 [.el (aI .i64 (X07.length:Int)),Bt] (k:=fi)) λh1986=>λe=>oj e▸X7 [.el (aI .i64 (X07.length:Int)),Bf] (k:=fi)
     obtain rfl:=X3u rfl;revert h;exact brI (λh1987=>λe=>oj e▸X7 [.el (aI .i64 (List.length ([]:List X1):Int)),Bt] (k:=fi)) λh1987=>λe=>oj e▸X7 [.el (aI .i64 (List.length ([]:List X1):Int)),Bf] (k:=fi)
    intro X1a Xh6 X17 eo1984;subst eo1984;refine X2.glue ?_;try dsimp only at h
    rcases X17 with ⟨_|_,X5b⟩<;>(try obtain rfl:=X5b rfl);all_goals
     revert h;exact λe=>oj e▸X7 [] (k:=fi)
   obtain rfl:=Xts rfl;revert h;refine brI (λh1988=>?_) λh1988=>?_
   ·
    refine bI λw2007 h2026=>?_;intro h;obtain⟨Xky,Xr0⟩:=w2007;try dsimp only at h
    refine X0e [Bt] ?_;refine X2.joinOpF (λ(q:Nb Xky)=>⟨fr [(12,(AV.ptr 0 0 0)),(13,AV.nils),(62,(AV.tup [(slE q.1 2 (Xky.map Xy)),(aI .i64 Xr0)]))],hp ([(0,Ob [(X0 Xfz)] 11)]++opE q.1 2 2 (Xky.map Xy)),3⟩) ?_ (λJ=>?_)
    ·
     rintro Xns;rcases Xns with ⟨_|_,Xor⟩
     ·
      revert h;refine brI (λh2027=>λe=>oj e▸X7 [Bt] (k:=fi)) λh2027=>bI λe2028 h2029=>?_;try have qh2029:=Xo h2029
      refine bI λw2511 h2993=>?_;intro h;obtain⟨Xe8,Xqz⟩:=w2511;try dsimp only at h
      refine X0e [Bf,.el (Xy e2028),.ld (Xy e2028)] ?_;refine X2.joinOpF (λ(q:Nb Xe8)=>⟨fr [(75,(AV.tup [(slE q.1 0 (Xe8.map X0)),(aI .i64 Xqz)]))],hp ([]++opE q.1 0 11 (Xe8.map X0)),1⟩) ?_ (λJ=>?_)
      ·
       rintro Xnr;rcases Xnr with ⟨_|_,Xoq⟩
       ·
        revert h;exact brI (λh2994=>λe=>oj e▸X7 [Bt] (k:=fi)) λh2994=>brI (λh2995=>λe=>oj e▸X7 [Bf,.el (aI .i64 (Xe8.length:Int)),Bt] (k:=fi)) λh2995=>λe=>oj e▸X7 [Bf,.el (aI .i64 (Xe8.length:Int)),Bf] (k:=fi)
       obtain rfl:=Xoq rfl;revert h;exact brI (λh2996=>λe=>oj e▸X7 [Bt] (k:=fi)) λh2996=>brI (λh2997=>λe=>oj e▸X7 [Bf,.el (aI .i64 (List.length ([]:List X1):Int)),Bt] (k:=fi)) λh2997=>λe=>oj e▸X7 [Bf,.el (aI .i64 (List.length ([]:List X1):Int)),Bf] (k:=fi)
      clear h;revert h2993;intro h;refine X2.inline X3 fn82 rfl rfl rfl rfl rfl trivial trivial rfl rfl ?_;revert h;refine bI λo2991 h2992=>rnI [] ?_;intro h;refine wkT [(4,3)] (X2.cut (X5i _ _ _ nbS _ h2992 ?_));intro X1p Xh7 X1u eo2991;subst eo2991;refine X2.glue ?_;try dsimp only at h
      rcases X1u with ⟨_|_,X5c⟩
      ·
       simp only[Option.some.injEq,Prod.mk.injEq] at h;obtain⟨rfl,rfl⟩:=h;refine X0e [] ?_;refine X2.back (by intro id h;cases h) rfl ?_;exact wkT [(0,3)] ((J nbF))
      obtain rfl:=X5c rfl;simp only[Option.some.injEq,Prod.mk.injEq] at h;obtain⟨rfl,rfl⟩:=h;refine X0e [] ?_;refine X2.back (by intro id h;cases h) rfl ?_;exact wkT [] ((J nbS))
     obtain rfl:=Xor rfl;revert h;refine brI (λh2998=>λe=>oj e▸X7 [Bt] (k:=fi)) λh2998=>bI λe2999 h3000=>?_;try have qh3000:=Xo h3000
     intro h
     first|exact absurd (h3000) (by simp[X1o];done)|(simp[X1o,h3,h6,h7,h8,h1988,h2998] at h;done)|(simp[h3,h6,h7,h8,h1988,h2998] at hg;done)|exact absurd (h3000) (by simp[X1o,h3,h6,h7,h8,h1988,h2998];done)
    clear h;revert h2026;intro h;refine X2.inline X3 fn81 rfl rfl rfl rfl rfl trivial trivial rfl rfl ?_;revert h;refine bI λv2008 h2009=>brI (λh2010=>?_) λh2010=>?_
    ·
     intro h;simp only[Option.some.injEq,Prod.mk.injEq] at h;obtain⟨rfl,rfl⟩:=h;refine X0e [.pure _ (aI .i64 v2008),Bt] ?_;refine X2.back (by intro id h;cases h) rfl ?_;exact wkT [(0,2)] ((J nbS))
    refine rnI [.pure _ (aI .i64 v2008),Bf,Bf] ?_;intro h;refine X2.round ?_;revert h;refine bI λv2011 h2012=>brI (λh2013=>?_) λh2013=>?_
    ·
     intro h;simp only[Option.some.injEq,Prod.mk.injEq] at h;obtain⟨rfl,rfl⟩:=h;refine X0e [Bt,.el ((aI .i64 a2.Time)),.pure _ (aI .i64 v2011),Bt] ?_;refine X2.back (by intro id h;cases h) rfl ?_;exact wkT [(0,2)] ((J nbS))
    refine rnI [Bt,.el ((aI .i64 a2.Time)),.pure _ (aI .i64 v2011),Bf,.wrap,.no] ?_;intro h;refine X2.round ?_;refine X0e [Bf] ?_;refine X2.inline X3 X025 rfl rfl rfl rfl rfl trivial trivial rfl rfl ?_;refine X0e [] ?_;refine X2.inline X3 X022 rfl rfl rfl rfl rfl trivial trivial rfl rfl ?_;refine X0e [] ?_;refine X2.eqNil X3 (may:=false) rfl rfl rfl rfl rfl rfl trivial rfl λb2021 qb2021=>?_;obtain rfl:=qb2021 rfl;refine X0e [Bf,.no] ?_;refine X2.back (by intro id h;cases h) rfl ?_;refine X0e [] ?_;refine X2.inline X3 X021 rfl rfl rfl rfl rfl trivial trivial rfl rfl ?_;revert h;refine bI λv2024 h2025=>rnI [.wrap,.pure _ (aI .i64 v2024)] ?_;intro h;refine X2.inline X3 X01z rfl rfl rfl rfl rfl trivial trivial rfl rfl ?_;refine X0e [] ?_;refine X2.round ?_;refine X0e [Bt] ?_;refine X2.inline X3 X01x rfl rfl rfl rfl rfl trivial trivial rfl rfl ?_;refine X0e [] ?_;refine X2.round ?_;refine X0e [Bf] ?_;refine X2.back (by intro id h;cases h) rfl ?_;refine X0e [] ?_;refine X2.back (by intro id h;cases h) rfl ?_;refine X0e [] ?_;refine X2.back (by intro id h;cases h) rfl ?_;refine X0e [] ?_;refine X2.round ?_;refine X0e [Bt,.el (AV.agg [(aI .i64 a2.Time),(aI .i64 (IntKind.i64.wrap (a2.Time+a1.Size)))]),Gf,Gf,Gf,Gf,Gf,Gf,Gf,Gf,Gf,Gf,Bf,.no] ?_;refine X2.round ?_;refine X0e [Bf] ?_;refine X2.back (by intro id h;cases h) rfl ?_;simp only[Option.some.injEq,Prod.mk.injEq] at h;obtain⟨rfl,rfl⟩:=h;refine X0e [] ?_;refine X2.back (by intro id h;cases h) rfl ?_;exact wkT [(0,2),(2,24)] ((J nbF))
   refine bI λv3001 h3002=>brI (λh3003=>λe=>oj e▸X7 [Bf,.pure _ (AV.tup [(Lt (v3001.1.map Xy)),(aI .i64 v3001.2)]),Bt] (k:=fi)) λh3003=>bI λu3004 h3005=>?_;have qh3005:=X13 h3005;refine bI λo3287 h3288=>rnI [Bf,.pure _ (AV.tup [(Lt (v3001.1.map Xy)),(aI .i64 v3001.2)]),Bf,.el (aI .i64 (v3001.1.length:Int))] ?_;intro h;refine wkT [(0,2)] (X2.cut (Xbz v3001.1 qh3005 v3001.1 0 (by simp) _ _ nbS _ h3288 ?_ ?_))
   ·
    intro X07 X0o eo3287;subst eo3287;refine X2.glue ?_;try dsimp only at h
    rcases X0o with ⟨_|_,X3u⟩
    ·
     revert h;exact brI (λh3289=>λe=>oj e▸X7 [.el (aI .i64 (X07.length:Int)),Bt] (k:=fi)) λh3289=>λe=>oj e▸X7 [.el (aI .i64 (X07.length:Int)),Bf] (k:=fi)
    obtain rfl:=X3u rfl;revert h;exact brI (λh3290=>λe=>oj e▸X7 [.el (aI .i64 (List.length ([]:List X1):Int)),Bt] (k:=fi)) λh3290=>λe=>oj e▸X7 [.el (aI .i64 (List.length ([]:List X1):Int)),Bf] (k:=fi)
   intro X1a Xh6 X17 eo3287;subst eo3287;refine X2.glue ?_;try dsimp only at h
   rcases X17 with ⟨_|_,X5b⟩<;>(try obtain rfl:=X5b rfl);all_goals
    revert h;exact λe=>oj e▸X7 [] (k:=fi)
  clear h;revert h30;intro h;refine X2.inline X3 fn80 rfl rfl rfl rfl rfl trivial trivial rfl rfl ?_;revert h;refine brI (λq=>?_) λq=>?_
  ·
   intro h;have h25:a0=[]:=List.isEmpty_iff.1 q;refine X0e [] ?_;refine X2.eqNil X3 (may:=true) rfl rfl rfl rfl rfl rfl trivial (by simp[X5n, *]) λb26 qb26=>?_;cases b26
   ·
    obtain rfl:=oj h;refine X0e [Bf,.ne false] ?_;refine X2.back (by intro id h;cases h) rfl ?_;exact wkT [] ((J nbS))
   obtain rfl:=oj h;refine X0e [Bt] ?_;refine X2.back (by intro id h;cases h) rfl ?_;exact wkT [] ((J nbS))
  intro h;have h25:¬ (a0=[]):=(λe=>by rw[e] at q;cases q);refine X0e [] ?_;refine X2.eqNil X3 (may:=false) rfl rfl rfl rfl rfl rfl trivial (by simp[X5n, *]) λb27 qb27=>?_;obtain rfl:=qb27 rfl;revert h;refine bI λu28 h29=>?_;intro h;obtain rfl:=oj h;refine X0e [Bf,.via (Lt (a0.map X0))] (o:=by repeat' first|apply Ya|exact pcM|(refine X02 h29 rfl ?_;first|(simp<;>omega)|(simp[h3,h6,h7,h8,h25]<;>omega))|(refine Xk h29 (by decide) ?_;first|(simp<;>omega)|(simp[h3,h6,h7,h8,h25]<;>omega))|exact Xz) ?_;refine X2.back (by intro id h;cases h) rfl ?_;exact wkT [(3,4)] ((J nbF))
 clear h;revert h18;refine bI λv14 h15=>brI (λh16=>?_) λh16=>?_
 ·
  intro h;obtain rfl:=oj h;exact X7 [.pure _ (X0q v14),.ix 0] (o:=by repeat' first|apply Ya|exact pcM|exact((eq_of_beq h16))|exact Xz) (k:=wkT [] (X2.glue J))
 refine brI (λh17=>?_) λh17=>?_
 ·
  intro h;obtain rfl:=oj h;exact X7 [.pure _ (X0q v14),.ix 1] (o:=by repeat' first|apply Ya|exact pcM|exact((eq_of_beq h17))|exact Xz) (k:=wkT [] (X2.glue J))
 intro h;cases h⟩
end Go.Av.Tryz