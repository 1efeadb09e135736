/- Printed by decomp.py: that the program computes the functions. -/
import Derived.Test.YtkjlgmgfhgamlaaGreatDCert7Z
set_option linter.all false

namespace Go.Av.Tryz
open Go.Proofs Go.D
set_option maxRecDepth 10000
set_option maxHeartbeats 40000000
theorem Xek {Q:X03->St->Mu->Prop} {μ:Mu} (Xi2:(List Xy)) (hl:Xi2.length<=140737488355328):∀ (xs:List Xy) (k:Nat) (hx:Xi2.drop k=xs) (Xh:X1) (Xn:(List X1)) (X02:Nb Xn) (o:X9c) (h:X2w Xi2 xs k Xh Xn=some o)
  (C0:∀ (Xq:(List X1)) (X06:Nb Xq),o=X9c.x0 Xq->X2 Tryz.prog 112 0 Q (.exit (.exit 0)) [] ⟨fr [(13,(slE X06.1 0 (Xq.map X0)))],hp ([]++opE X06.1 0 11 (Xq.map X0)),1⟩ μ)
  (C1:∀ (X1l:(List X1)) (Xks:Int) (X1h:Nb X1l),o=X9c.x1 X1l Xks->X2 Tryz.prog 112 0 Q (.exit .ret) [] ⟨fr [(8,(slE X1h.1 0 (X1l.map X0))),(9,(aI .i64 Xks))],hp ([]++opE X1h.1 0 11 (X1l.map X0)),1⟩ μ),
  X2 Tryz.prog 112 0 Q (.loop (X2o 0 (Xd Tryz.f37))) [] ⟨fr [(12,(AV.ptr 0 0 0)),(13,(slE X02.1 1 (Xn.map X0))),(91,(Lt (Xi2.map Xr))),(92,(aI .i64 (Xi2.length:Int))),(93,(aI .i64 (k:Int)))],hp ([(0,Ob [(X0 Xh)] 11)]++opE X02.1 1 11 (Xn.map X0)),2⟩ μ:=by
 intro xs
 induction xs with
 |nil =>
  intro k hx Xh Xn X02 o h C0 C1;have hk:=X1g hx;have hc:decide ((k:Int)<(Xi2.length:Int))=false:=Yf om;rw[X2w] at h;rcases X02 with ⟨_|_,X0o⟩
  ·
   refine X2.round ?_;revert h;exact λe=>X6 [Bf] (k:=wkT [(0,1)] (C0 _  nbF (oj e).symm))
  ·
   obtain rfl:=X0o rfl;refine X2.round ?_;revert h;exact λe=>X6 [Bf] (k:=wkT [] (C0 _  nbS (oj e).symm))
 |cons x xs ih =>
  intro k hx Xh Xn X02 o h C0 C1;obtain⟨hk,hg,hx1⟩:=X0u hx;have hc:decide ((k:Int)<(Xi2.length:Int))=true:=Yt om;rw[X2w] at h;rcases X02 with ⟨_|_,X0o⟩
  ·
   refine X2.round ?_;revert h;refine bI λw1890 h1937=>?_;intro h;obtain⟨X03s,Xop,Xsa⟩:=w1890;try dsimp only at h
   refine X0j [Bt,.el (Xr x)] ?_;refine X2.joinOpF (λ(q:Nb Xop)=>⟨fr [(12,(AV.ptr 0 0 0)),(91,(Lt (Xi2.map Xr))),(92,(aI .i64 (Xi2.length:Int))),(93,(aI .i64 (k:Int))),(101,(AV.tup [(slE q.1 1 (Xop.map X0)),(aI .i64 Xsa)]))],hp ([(0,Ob [(X0 X03s)] 11)]++opE q.1 1 11 (Xop.map X0)),2⟩) ?_ (λJ=>?_)
   ·
    rintro Xrp;rcases Xrp with ⟨_|_,Xsv⟩
    ·
     revert h;refine brI (λh1938=>λe=>X6 [Bt] (k:=wkT [] (C1 _ _  nbS (oj e).symm))) λh1938=>rnI [Bf] ?_;intro h;exact wkT [] (ih (k+1) hx1 _ _ nbF o h C0 C1)
    obtain rfl:=Xsv rfl;revert h;refine brI (λh1939=>λe=>X6 [Bt] (k:=wkT [] (C1 _ _  nbS (oj e).symm))) λh1939=>rnI [Bf] ?_;intro h;exact wkT [] (ih (k+1) hx1 _ _ nbS o h C0 C1)
   clear h;revert h1937;intro h;refine X2.inline X3 fn84 rfl rfl rfl rfl rfl trivial trivial rfl rfl ?_;revert h;refine bI λv1891 h1892=>rnI [.pure [(Lf (Xn.map X0)),(X0 (X1.mk Xh.Key x Xh.Values)),(AV.fn 116 [])] (AV.tup [(aI .i64 v1891.1),(aB v1891.2)])] (o:=by repeat' first|apply Ya|exact pcM|exact(X67.lent (Xk _ _ _ h1892) (cc (Xqn (es:=Xn.map X0) rfl (by first|rfl|(simp;done)|(simp;rfl)|(simp[hc];done)|(simp[hc];rfl)|(simp[hc,Ym,Yd];done)|(simp[hc,Ym,Yd];rfl)) (by first|rfl|(simp;done)|(simp;omega)|(simp[hc];done)|(simp[hc];omega)) (X16 X4c Xn)) (cc (X99 (x:=(X1.mk Xh.Key x Xh.Values))) (cc .fn0 cn))) (Xq1 (X0z .sc (X0z .sc X8i))))|exact Xu) ?_;refine brI (λh1893=>?_) λh1893=>?_
   ·
    refine brI (λh1894=>?_) λh1894=>?_
    ·
     refine bI λ_ h1910=>rnI [Bt] ?_;intro h;refine X2.joinOp (s':=⟨fr [(21,(AV.ref 2 0 (List.length (Xn++[(X1.mk Xh.Key x Xh.Values)]))))],hp ([(0,Ob [(X0 (X1.mk Xh.Key x Xh.Values))] 11),(2,Ob (List.map X0 (Xn++[(X1.mk Xh.Key x Xh.Values)])) 11)]),3⟩) ?_ (λJ=>?_)
     ·
      simp only[Option.some.injEq,Prod.mk.injEq] at h;obtain⟨rfl,rfl,rfl⟩:=h;refine X0j [] ?_;refine X2.back (by intro id h;cases h) rfl ?_;exact wkT [(1,2)] ((J nbF))
     clear h;revert h1910;intro h;refine X2.inline X3 Xvz rfl rfl rfl rfl rfl trivial trivial rfl rfl ?_;revert h;refine bI λm1903 h1904=>?_;obtain⟨qah1904,qbh1904,qch1904,qh1904⟩:=X2y h1904;have qlh1904:=X60 h1904;refine brI (λh1905=>?_) λh1905=>?_
     ·
      refine bI λu1906 h1907=>rnI [.ne false,Bf,.el (aI .i64 (Xn.length:Int)),Bt,.no] (o:=by repeat' first|apply Ya|exact pcM|(simp at qah1904 qbh1904 qch1904 ⊢;omega)|(simp at qah1904 qbh1904 qch1904 qlh1904 ⊢;have qz:=X35 h1905;omega)|(refine X0r h1907 rfl ?_;first|(simp<;>omega)|(simp[hc,h1893,h1894,h1905]<;>omega))|(refine X08 h1907 (by decide) ?_;first|(simp<;>omega)|(simp[hc,h1893,h1894,h1905]<;>omega))|exact Xu) ?_;intro h;refine X2.back (by intro id h;cases h) rfl ?_;exact wkT [(2,4)] (J)
     refine bI λu1908 h1909=>rnI [.via (.ref 1 (Int.toNat v1891.1) (m1903.length)),Bf,.el (aI .i64 (Xn.length:Int)),Bt,.no] (o:=by repeat' first|apply Ya|exact pcM|(simp at qah1904 qbh1904 qch1904 ⊢;omega)|(simp at qah1904 qbh1904 qch1904 qlh1904 ⊢;have qz:=X10 h1905;omega)|(simp at qah1904 qbh1904 qch1904 qlh1904 ⊢;omega)|(simp;done)|(refine X0r h1909 rfl ?_;first|(simp<;>omega)|(simp[hc,h1893,h1894,h1905]<;>omega))|(refine X08 h1909 (by decide) ?_;first|(simp<;>omega)|(simp[hc,h1893,h1894,h1905]<;>omega))|exact Xu) ?_;intro h;refine X2.back (by intro id h;cases h) rfl ?_;exact wkT [(2,4)] (J)
    refine bI λm1911 h1912=>rnI [Bt] ?_;intro h;refine X2.hcall rfl rfl rfl rfl rfl trivial trivial (Xu8 ⟨_,_,Xvz⟩ (f:=X0) (l:=Xn) (x:=(X1.mk Xh.Key x Xh.Values)) h1912 rfl rfl rfl (by first|rfl|simp)) ?_;simp only[Option.some.injEq,Prod.mk.injEq] at h;obtain⟨rfl,rfl,rfl⟩:=h;refine X0j [] ?_;refine X2.back (by intro id h;cases h) rfl ?_;exact wkT [(1,4)] ((J nbF))
   refine rnI [Bf,.stop 4] ?_;refine bI λe1913 h1914=>?_;try have qh1914:=Xl h1914
   intro h;refine X2.drawnCut 5 tmD [.el (X0 e1913)] rfl rfl rfl rfl rfl (by repeat' first|apply Ya|exact Xu) ?_;revert h;refine bI λw1925 h1936=>?_;intro h;obtain⟨Xoo,X03r⟩:=w1925;try dsimp only at h
   refine X0j [] ?_;refine X2.joinOpF (λ(q:Nb Xoo)=>⟨fr [(0,(slE q.1 2 (Xoo.map X0))),(27,(aI .i64 X03r))],hp ([(0,Ob [(X0 (X1.mk Xh.Key x Xh.Values))] 11)]++opE q.1 2 11 (Xoo.map X0)),3⟩) ?_ (λJ=>?_)
   ·
    rintro Xro;rcases Xro with ⟨_|_,Xsu⟩
    ·
     simp only[Option.some.injEq,Prod.mk.injEq] at h;obtain⟨rfl,rfl,rfl⟩:=h;refine X0j [] ?_;refine X2.back (by intro id h;cases h) rfl ?_;exact wkT [(1,2)] ((J nbF))
    obtain rfl:=Xsu rfl;simp only[Option.some.injEq,Prod.mk.injEq] at h;obtain⟨rfl,rfl,rfl⟩:=h;refine X0j [] ?_;refine X2.back (by intro id h;cases h) rfl ?_;exact wkT [] ((J nbS))
   clear h;revert h1936;intro h;refine X2.inline X3 X07r rfl rfl rfl rfl rfl trivial trivial rfl rfl ?_;refine X0j [] ?_;refine X2.round ?_;revert h;refine bI λv1928 h1929=>brI (λh1930=>?_) λh1930=>?_
   ·
    intro h;simp only[Option.some.injEq,Prod.mk.injEq] at h;obtain⟨rfl,rfl⟩:=h;refine X0j [Bt,.ix 0,.ix 0,.ld (X0 e1913),.pure _ (AV.tup [(Xv v1928.1),(aI .i64 v1928.2)]),Bt] ?_;refine X2.back (by intro id h;cases h) rfl ?_;exact wkT [(2,1)] ((J nbF))
   refine rnI [Bt,.ix 0,.ix 0,.ld (X0 e1913),.pure _ (AV.tup [(Xv v1928.1),(aI .i64 v1928.2)]),Bf,.ix 0,.ld (X0 e1913)] (o:=by repeat' first|apply Ya|exact pcM|exact(List.getElem?_set_self (by have hq:=X3u h1914;simp;omega)).trans rfl|exact Xu) ?_;intro h;refine X2.round ?_;revert h;refine bI λv1933 h1934=>rnI [Bt,.ix 1,.ix 1,.ld (X0 (X1.mk e1913.Key e1913.Span (V2.mk v1928.1 e1913.Values.e1))),.pure _ (AV.tup [(Xv v1933.1),(aI .i64 v1933.2)])] (o:=by repeat' first|apply Ya|exact pcM|exact(List.getElem?_set_self (by have hq:=X3u h1914;simp;omega)).trans rfl|exact Xu) ?_;refine brI (λh1935=>?_) λh1935=>?_
   ·
    intro h;simp only[Option.some.injEq,Prod.mk.injEq] at h;obtain⟨rfl,rfl⟩:=h;refine X0j [Bt] (o:=by repeat' first|apply Ya|exact pcM|exact(List.getElem?_set_self (by have hq:=X3u h1914;simp;omega)).trans rfl|exact Xu) ?_;refine X2.back (by intro id h;cases h) rfl ?_;exact wkT [(2,1)] ((J nbF))
   refine rnI [Bf,.ix 1,.ld (X0 (X1.mk e1913.Key e1913.Span (V2.mk v1928.1 e1913.Values.e1)))] (o:=by repeat' first|apply Ya|exact pcM|exact(List.getElem?_set_self (by have hq:=X3u h1914;simp;omega)).trans rfl|exact Xu) ?_;intro h;refine X2.round ?_;simp only[Option.some.injEq,Prod.mk.injEq] at h;obtain⟨rfl,rfl⟩:=h;refine X0j [Bf] (o:=by repeat' first|apply Ya|exact pcM|exact(List.getElem?_set_self (by have hq:=X3u h1914;simp;omega)).trans rfl|exact Xu) ?_;refine X2.back (by intro id h;cases h) rfl ?_;exact wkT [(2,1)] ((J nbF))
  obtain rfl:=X0o rfl;refine X2.round ?_;revert h;refine bI λw1960 h1981=>?_;intro h;obtain⟨X03q,Xon,Xs9⟩:=w1960;try dsimp only at h
  refine X0j [Bt,.el (Xr x)] ?_;refine X2.joinOpF (λ(q:Nb Xon)=>⟨fr [(12,(AV.ptr 0 0 0)),(91,(Lt (Xi2.map Xr))),(92,(aI .i64 (Xi2.length:Int))),(93,(aI .i64 (k:Int))),(101,(AV.tup [(slE q.1 1 (Xon.map X0)),(aI .i64 Xs9)]))],hp ([(0,Ob [(X0 X03q)] 11)]++opE q.1 1 11 (Xon.map X0)),2⟩) ?_ (λJ=>?_)
  ·
   rintro Xrn;rcases Xrn with ⟨_|_,Xst⟩
   ·
    revert h;refine brI (λh1982=>λe=>X6 [Bt] (k:=wkT [] (C1 _ _  nbS (oj e).symm))) λh1982=>rnI [Bf] ?_;intro h;exact wkT [] (ih (k+1) hx1 _ _ nbF o h C0 C1)
   obtain rfl:=Xst rfl;revert h;refine brI (λh1983=>λe=>X6 [Bt] (k:=wkT [] (C1 _ _  nbS (oj e).symm))) λh1983=>rnI [Bf] ?_;intro h;exact wkT [] (ih (k+1) hx1 _ _ nbS o h C0 C1)
  clear h;revert h1981;intro h;refine X2.inline X3 fn84 rfl rfl rfl rfl rfl trivial trivial rfl rfl ?_;revert h;refine bI λv1961 h1962=>rnI [.pure [(Lf (List.map X0 ([]:List X1))),(X0 (X1.mk Xh.Key x Xh.Values)),(AV.fn 116 [])] (AV.tup [(aI .i64 v1961.1),(aB v1961.2)])] (o:=by repeat' first|apply Ya|exact pcM|exact(pn (Xk _ _ _ h1962) (cc (Zn X0) (cc (X99 (x:=(X1.mk Xh.Key x Xh.Values))) (cc .fn0 cn))))|exact Xu) ?_;refine brI (λh1963=>?_) λh1963=>?_
  ·
   refine brI (λh1964=>?_) λh1964=>?_
   ·
    refine bI λ_ h1976=>rnI [Bt] ?_;intro h;refine X2.joinOp (s':=⟨fr [(21,(AV.ref 2 0 (List.length (([]:List X1)++[(X1.mk Xh.Key x Xh.Values)]))))],hp ([(0,Ob [(X0 (X1.mk Xh.Key x Xh.Values))] 11),(2,Ob (List.map X0 (([]:List X1)++[(X1.mk Xh.Key x Xh.Values)])) 11)]),3⟩) ?_ (λJ=>?_)
    ·
     simp only[Option.some.injEq,Prod.mk.injEq] at h;obtain⟨rfl,rfl,rfl⟩:=h;refine X0j [] ?_;refine X2.back (by intro id h;cases h) rfl ?_;exact wkT [(1,2)] ((J nbF))
    clear h;revert h1976;intro h;refine X2.inline X3 Xvz rfl rfl rfl rfl rfl trivial trivial rfl rfl ?_;revert h;refine bI λm1971 h1972=>?_;obtain⟨qah1972,qbh1972,qch1972,qh1972⟩:=X2y h1972;obtain rfl:=Xad h1972;refine brI (λh1973=>?_) λh1973=>?_
    ·
     refine bI λu1974 h1975=>rnI [Bf,.el (aI .i64 (List.length ([]:List X1):Int)),Bt,.no] (o:=by repeat' first|apply Ya|exact pcM|(simp at qah1972 qbh1972 qch1972 ⊢;omega)|(refine X0r h1975 rfl ?_;first|(simp<;>omega)|(simp[hc,h1963,h1964,h1973]<;>omega))|(refine X08 h1975 (by decide) ?_;first|(simp<;>omega)|(simp[hc,h1963,h1964,h1973]<;>omega))|exact Xu) ?_;intro h;refine X2.back (by intro id h;cases h) rfl ?_;exact wkT [(2,4)] (J)
    intro h;exact absurd h1973 (by simp)
   refine bI λm1977 h1978=>?_;intro h;exact absurd h1978 (by simp[Xzl])
  refine rnI [Bf,.stop 4] ?_;refine bI λe1979 h1980=>?_;try have qh1980:=Xl h1980
  intro h
  first|exact absurd (h1980) (by simp[X15];done)|(simp[X15,hc,h1963] at h;done)|exact absurd (h1980) (by simp[X15,hc,h1963];done)
instance X04s:PCs Tryz.prog 37 (∀ (a0:(List X1)) (a1:X1z) (a2:Xg) (a3:Int) (r:(List X1)×Int),X6d a0 a1 a2 a3=some r->X0b Tryz.prog 37 [(Lf (a0.map X0)),(X1y a1),(X5 a2),(aI .i64 a3)] (AV.tup [(Lt (r.1.map X0)),(aI .i64 r.2)])):=⟨λa0 a1 a2 a3 r h=>by
 refine X0b.sym X3 fn37 (nt:=112) rfl rfl ?_ okM;unfold X6d at h;revert h;refine bI λv1 h2=>brI (λh3=>λe=>oj e▸X6 [.pure _ (aI .i64 v1),Bt] (k:=fi)) λh3=>bI λv4 h5=>brI (λh6=>λe=>oj e▸X6 [.pure _ (aI .i64 v1),Bf,.pure _ (aI .i64 v4),Bt] (k:=fi)) λh6=>brI (λh7=>λe=>oj e▸X6 [.pure _ (aI .i64 v1),Bf,.pure _ (aI .i64 v4),Bf,Bt] (k:=fi)) λh7=>brI (λh8=>λe=>oj e▸X6 [.pure _ (aI .i64 v1),Bf,.pure _ (aI .i64 v4),Bf,Bf,Bt] (k:=fi)) λh8=>bI λXji h18=>rnI [.pure _ (aI .i64 v1),Bf,.pure _ (aI .i64 v4),Bf,Bf,Bf,.stop 12] ?_;intro h;refine X2.join (s':=⟨fr [(0,(Lf (a0.map X0))),(5,(AV.ptr 0 0 0)),(6,(AV.ptr 1 0 0)),(12,(AV.ptr 2 0 0))],hp ([(0,Ob [(X1y a1)] 3),(1,Ob [(X5 a2)] 3),(2,Ob [(X0 Xji)] 11)]),3⟩) ?_ (λJ=>X2.cut ?_)
 ·
  revert h;refine bI λXjh h30=>rnI [] ?_;intro h;refine X2.joinOpF (λ(q:Nb Xjh)=>⟨fr [(5,(AV.ptr 0 0 0)),(6,(AV.ptr 1 0 0)),(12,(AV.ptr 2 0 0)),(52,(slE q.1 3 (Xjh.map X0)))],hp ([(0,Ob [(X1y a1)] 3),(1,Ob [(X5 a2)] 3),(2,Ob [(X0 Xji)] 11)]++opE q.1 3 11 (Xjh.map X0)),4⟩) ?_ (λJ=>?_)
  ·
   rintro Xyj;rcases Xyj with ⟨_|_,Xzr⟩
   ·
    revert h;refine brI (λh31=>?_) λh31=>?_
    ·
     refine bI λw50 h69=>?_;intro h;obtain⟨Xz3,X03k⟩:=w50;try dsimp only at h
     refine X0j [Bt] ?_;refine X2.joinOpF (λ(q:Nb Xz3)=>⟨fr [(12,(AV.ptr 0 0 0)),(13,(AV.ref 1 0 (Xjh.length))),(62,(AV.tup [(slE q.1 2 (Xz3.map Xr)),(aI .i64 X03k)]))],hp ([(0,Ob [(X0 Xji)] 11),(1,Ob (Xjh.map X0) 11)]++opE q.1 2 2 (Xz3.map Xr)),3⟩) ?_ (λJ=>?_)
     ·
      rintro Xyh;rcases Xyh with ⟨_|_,Xzp⟩
      ·
       revert h;refine brI (λh70=>λe=>oj e▸X6 [Bt] (k:=fi)) λh70=>bI λe71 h72=>?_;try have qh72:=Xl h72
       refine bI λw811 h1550=>?_;intro h;obtain⟨Xln,Xyy⟩:=w811;try dsimp only at h
       refine X0j [Bf,.el (Xr e71),.ld (Xr e71)] ?_;refine X2.joinOpF (λ(q:Nb Xln)=>⟨fr [(75,(AV.tup [(slE q.1 0 (Xln.map X0)),(aI .i64 Xyy)]))],hp ([]++opE q.1 0 11 (Xln.map X0)),1⟩) ?_ (λJ=>?_)
       ·
        rintro Xv7;rcases Xv7 with ⟨_|_,Xvn⟩
        ·
         revert h;exact brI (λh1551=>λe=>oj e▸X6 [Bt] (k:=fi)) λh1551=>brI (λh1552=>λe=>oj e▸X6 [Bf,.el (aI .i64 (Xln.length:Int)),Bt] (k:=fi)) λh1552=>λe=>oj e▸X6 [Bf,.el (aI .i64 (Xln.length:Int)),Bf] (k:=fi)
        obtain rfl:=Xvn rfl;revert h;exact brI (λh1553=>λe=>oj e▸X6 [Bt] (k:=fi)) λh1553=>brI (λh1554=>λe=>oj e▸X6 [Bf,.el (aI .i64 (List.length ([]:List X1):Int)),Bt] (k:=fi)) λh1554=>λe=>oj e▸X6 [Bf,.el (aI .i64 (List.length ([]:List X1):Int)),Bf] (k:=fi)
       clear h;revert h1550;intro h;refine X2.inline X3 fn82 rfl rfl rfl rfl rfl trivial trivial rfl rfl ?_;revert h;refine bI λo1548 h1549=>rnI [] ?_;intro h;refine wkT [(3,1),(4,3)] (X2.cut (X68 _ _ _ nbF _ h1549 ?_));intro X4n Xkt X3b eo1548;subst eo1548;refine X2.glue ?_;try dsimp only at h
       rcases X3b with ⟨_|_,X97⟩
       ·
        simp only[Option.some.injEq,Prod.mk.injEq] at h;obtain⟨rfl,rfl⟩:=h;refine X0j [] ?_;refine X2.back (by intro id h;cases h) rfl ?_;exact wkT [(0,3)] ((J nbF))
       obtain rfl:=X97 rfl;simp only[Option.some.injEq,Prod.mk.injEq] at h;obtain⟨rfl,rfl⟩:=h;refine X0j [] ?_;refine X2.back (by intro id h;cases h) rfl ?_;exact wkT [] ((J nbS))
      obtain rfl:=Xzp rfl;revert h;refine brI (λh1555=>λe=>oj e▸X6 [Bt] (k:=fi)) λh1555=>bI λe1556 h1557=>?_;try have qh1557:=Xl h1557
      intro h
      first|exact absurd (h1557) (by simp[X15];done)|(simp[X15,h3,h6,h7,h8,h31,h1555] at h;done)|exact absurd (h1557) (by simp[X15,h3,h6,h7,h8,h31,h1555];done)
     clear h;revert h69;intro h;refine X2.inline X3 fn81 rfl rfl rfl rfl rfl trivial trivial rfl rfl ?_;revert h;refine bI λv51 h52=>brI (λh53=>?_) λh53=>?_
     ·
      intro h;simp only[Option.some.injEq,Prod.mk.injEq] at h;obtain⟨rfl,rfl⟩:=h;refine X0j [.pure _ (aI .i64 v51),Bt] ?_;refine X2.back (by intro id h;cases h) rfl ?_;exact wkT [(0,2),(1,3)] ((J nbS))
     refine rnI [.pure _ (aI .i64 v51),Bf,Bf] ?_;intro h;refine X2.round ?_;revert h;refine bI λv54 h55=>brI (λh56=>?_) λh56=>?_
     ·
      intro h;simp only[Option.some.injEq,Prod.mk.injEq] at h;obtain⟨rfl,rfl⟩:=h;refine X0j [Bt,.el ((aI .i64 a2.Time)),.pure _ (aI .i64 v54),Bt] ?_;refine X2.back (by intro id h;cases h) rfl ?_;exact wkT [(0,2),(1,3)] ((J nbS))
     refine rnI [Bt,.el ((aI .i64 a2.Time)),.pure _ (aI .i64 v54),Bf,.wrap,.no] ?_;intro h;refine X2.round ?_;refine X0j [Bf] ?_;refine X2.inline X3 X0a7 rfl rfl rfl rfl rfl trivial trivial rfl rfl ?_;refine X0j [] ?_;refine X2.inline X3 X0a4 rfl rfl rfl rfl rfl trivial trivial rfl rfl ?_;refine X0j [] ?_;refine X2.eqNil X3 (may:=false) rfl rfl rfl rfl rfl rfl trivial rfl λb64 qb64=>?_;obtain rfl:=qb64 rfl;refine X0j [Bf,.no] ?_;refine X2.back (by intro id h;cases h) rfl ?_;refine X0j [] ?_;refine X2.inline X3 X0a3 rfl rfl rfl rfl rfl trivial trivial rfl rfl ?_;revert h;refine bI λv67 h68=>rnI [.wrap,.pure _ (aI .i64 v67)] ?_;intro h;refine X2.inline X3 X0a1 rfl rfl rfl rfl rfl trivial trivial rfl rfl ?_;refine X0j [] ?_;refine X2.round ?_;refine X0j [Bt] ?_;refine X2.inline X3 X09z rfl rfl rfl rfl rfl trivial trivial rfl rfl ?_;refine X0j [] ?_;refine X2.round ?_;refine X0j [Bf] ?_;refine X2.back (by intro id h;cases h) rfl ?_;refine X0j [] ?_;refine X2.back (by intro id h;cases h) rfl ?_;refine X0j [] ?_;refine X2.back (by intro id h;cases h) rfl ?_;refine X0j [] ?_;refine X2.round ?_;refine X0j [Bt,.el (AV.agg [(aI .i64 a2.Time),(aI .i64 (IntKind.i64.wrap (a2.Time+a1.Size)))]),Gf,Gf,Gf,Gf,Gf,Gf,Gf,Gf,Gf,Gf,Bf,.no] ?_;refine X2.round ?_;refine X0j [Bf] ?_;refine X2.back (by intro id h;cases h) rfl ?_;simp only[Option.some.injEq,Prod.mk.injEq] at h;obtain⟨rfl,rfl⟩:=h;refine X0j [] ?_;refine X2.back (by intro id h;cases h) rfl ?_;exact wkT [(0,2),(1,3),(2,24)] ((J nbF))
    refine bI λv1558 h1559=>brI (λh1560=>λe=>oj e▸X6 [Bf,.pure _ (AV.tup [(Lt (v1558.1.map Xr)),(aI .i64 v1558.2)]),Bt] (k:=fi)) λh1560=>bI λu1561 h1562=>?_;have qh1562:=X0v h1562;refine bI λo1984 h1985=>rnI [Bf,.pure _ (AV.tup [(Lt (v1558.1.map Xr)),(aI .i64 v1558.2)]),Bf,.el (aI .i64 (v1558.1.length:Int))] ?_;intro h;refine wkT [(0,2),(1,3)] (X2.cut (Xek v1558.1 qh1562 v1558.1 0 (by simp) _ _ nbF _ h1985 ?_ ?_))
    ·
     intro Xq X06 eo1984;subst eo1984;refine X2.glue ?_;try dsimp only at h
     rcases X06 with ⟨_|_,X29⟩
     ·
      revert h;exact brI (λh1986=>λe=>oj e▸X6 [.el (aI .i64 (Xq.length:Int)),Bt] (k:=fi)) λh1986=>λe=>oj e▸X6 [.el (aI .i64 (Xq.length:Int)),Bf] (k:=fi)
     obtain rfl:=X29 rfl;revert h;exact brI (λh1987=>λe=>oj e▸X6 [.el (aI .i64 (List.length ([]:List X1):Int)),Bt] (k:=fi)) λh1987=>λe=>oj e▸X6 [.el (aI .i64 (List.length ([]:List X1):Int)),Bf] (k:=fi)
    intro X1l Xks X1h eo1984;subst eo1984;refine X2.glue ?_;try dsimp only at h
    rcases X1h with ⟨_|_,X63⟩<;>(try obtain rfl:=X63 rfl);all_goals
     revert h;exact λe=>oj e▸X6 [] (k:=fi)
   obtain rfl:=Xzr rfl;revert h;refine brI (λh1988=>?_) λh1988=>?_
   ·
    refine bI λw2007 h2026=>?_;intro h;obtain⟨Xom,Xvj⟩:=w2007;try dsimp only at h
    refine X0j [Bt] ?_;refine X2.joinOpF (λ(q:Nb Xom)=>⟨fr [(12,(AV.ptr 0 0 0)),(13,AV.nils),(62,(AV.tup [(slE q.1 2 (Xom.map Xr)),(aI .i64 Xvj)]))],hp ([(0,Ob [(X0 Xji)] 11)]++opE q.1 2 2 (Xom.map Xr)),3⟩) ?_ (λJ=>?_)
    ·
     rintro Xrm;rcases Xrm with ⟨_|_,Xss⟩
     ·
      revert h;refine brI (λh2027=>λe=>oj e▸X6 [Bt] (k:=fi)) λh2027=>bI λe2028 h2029=>?_;try have qh2029:=Xl h2029
      refine bI λw2511 h2993=>?_;intro h;obtain⟨Xhk,Xvi⟩:=w2511;try dsimp only at h
      refine X0j [Bf,.el (Xr e2028),.ld (Xr e2028)] ?_;refine X2.joinOpF (λ(q:Nb Xhk)=>⟨fr [(75,(AV.tup [(slE q.1 0 (Xhk.map X0)),(aI .i64 Xvi)]))],hp ([]++opE q.1 0 11 (Xhk.map X0)),1⟩) ?_ (λJ=>?_)
      ·
       rintro Xrl;rcases Xrl with ⟨_|_,Xsr⟩
       ·
        revert h;exact brI (λh2994=>λe=>oj e▸X6 [Bt] (k:=fi)) λh2994=>brI (λh2995=>λe=>oj e▸X6 [Bf,.el (aI .i64 (Xhk.length:Int)),Bt] (k:=fi)) λh2995=>λe=>oj e▸X6 [Bf,.el (aI .i64 (Xhk.length:Int)),Bf] (k:=fi)
       obtain rfl:=Xsr rfl;revert h;exact brI (λh2996=>λe=>oj e▸X6 [Bt] (k:=fi)) λh2996=>brI (λh2997=>λe=>oj e▸X6 [Bf,.el (aI .i64 (List.length ([]:List X1):Int)),Bt] (k:=fi)) λh2997=>λe=>oj e▸X6 [Bf,.el (aI .i64 (List.length ([]:List X1):Int)),Bf] (k:=fi)
      clear h;revert h2993;intro h;refine X2.inline X3 fn82 rfl rfl rfl rfl rfl trivial trivial rfl rfl ?_;revert h;refine bI λo2991 h2992=>rnI [] ?_;intro h;refine wkT [(4,3)] (X2.cut (X68 _ _ _ nbS _ h2992 ?_));intro X4n Xkt X3b eo2991;subst eo2991;refine X2.glue ?_;try dsimp only at h
      rcases X3b with ⟨_|_,X97⟩
      ·
       simp only[Option.some.injEq,Prod.mk.injEq] at h;obtain⟨rfl,rfl⟩:=h;refine X0j [] ?_;refine X2.back (by intro id h;cases h) rfl ?_;exact wkT [(0,3)] ((J nbF))
      obtain rfl:=X97 rfl;simp only[Option.some.injEq,Prod.mk.injEq] at h;obtain⟨rfl,rfl⟩:=h;refine X0j [] ?_;refine X2.back (by intro id h;cases h) rfl ?_;exact wkT [] ((J nbS))
     obtain rfl:=Xss rfl;revert h;refine brI (λh2998=>λe=>oj e▸X6 [Bt] (k:=fi)) λh2998=>bI λe2999 h3000=>?_;try have qh3000:=Xl h3000
     intro h
     first|exact absurd (h3000) (by simp[X15];done)|(simp[X15,h3,h6,h7,h8,h1988,h2998] at h;done)|exact absurd (h3000) (by simp[X15,h3,h6,h7,h8,h1988,h2998];done)
    clear h;revert h2026;intro h;refine X2.inline X3 fn81 rfl rfl rfl rfl rfl trivial trivial rfl rfl ?_;revert h;refine bI λv2008 h2009=>brI (λh2010=>?_) λh2010=>?_
    ·
     intro h;simp only[Option.some.injEq,Prod.mk.injEq] at h;obtain⟨rfl,rfl⟩:=h;refine X0j [.pure _ (aI .i64 v2008),Bt] ?_;refine X2.back (by intro id h;cases h) rfl ?_;exact wkT [(0,2)] ((J nbS))
    refine rnI [.pure _ (aI .i64 v2008),Bf,Bf] ?_;intro h;refine X2.round ?_;revert h;refine bI λv2011 h2012=>brI (λh2013=>?_) λh2013=>?_
    ·
     intro h;simp only[Option.some.injEq,Prod.mk.injEq] at h;obtain⟨rfl,rfl⟩:=h;refine X0j [Bt,.el ((aI .i64 a2.Time)),.pure _ (aI .i64 v2011),Bt] ?_;refine X2.back (by intro id h;cases h) rfl ?_;exact wkT [(0,2)] ((J nbS))
    refine rnI [Bt,.el ((aI .i64 a2.Time)),.pure _ (aI .i64 v2011),Bf,.wrap,.no] ?_;intro h;refine X2.round ?_;refine X0j [Bf] ?_;refine X2.inline X3 X0a7 rfl rfl rfl rfl rfl trivial trivial rfl rfl ?_;refine X0j [] ?_;refine X2.inline X3 X0a4 rfl rfl rfl rfl rfl trivial trivial rfl rfl ?_;refine X0j [] ?_;refine X2.eqNil X3 (may:=false) rfl rfl rfl rfl rfl rfl trivial rfl λb2021 qb2021=>?_;obtain rfl:=qb2021 rfl;refine X0j [Bf,.no] ?_;refine X2.back (by intro id h;cases h) rfl ?_;refine X0j [] ?_;refine X2.inline X3 X0a3 rfl rfl rfl rfl rfl trivial trivial rfl rfl ?_;revert h;refine bI λv2024 h2025=>rnI [.wrap,.pure _ (aI .i64 v2024)] ?_;intro h;refine X2.inline X3 X0a1 rfl rfl rfl rfl rfl trivial trivial rfl rfl ?_;refine X0j [] ?_;refine X2.round ?_;refine X0j [Bt] ?_;refine X2.inline X3 X09z rfl rfl rfl rfl rfl trivial trivial rfl rfl ?_;refine X0j [] ?_;refine X2.round ?_;refine X0j [Bf] ?_;refine X2.back (by intro id h;cases h) rfl ?_;refine X0j [] ?_;refine X2.back (by intro id h;cases h) rfl ?_;refine X0j [] ?_;refine X2.back (by intro id h;cases h) rfl ?_;refine X0j [] ?_;refine X2.round ?_;refine X0j [Bt,.el (AV.agg [(aI .i64 a2.Time),(aI .i64 (IntKind.i64.wrap (a2.Time+a1.Size)))]),Gf,Gf,Gf,Gf,Gf,Gf,Gf,Gf,Gf,Gf,Bf,.no] ?_;refine X2.round ?_;refine X0j [Bf] ?_;refine X2.back (by intro id h;cases h) rfl ?_;simp only[Option.some.injEq,Prod.mk.injEq] at h;obtain⟨rfl,rfl⟩:=h;refine X0j [] ?_;refine X2.back (by intro id h;cases h) rfl ?_;exact wkT [(0,2),(2,24)] ((J nbF))
   refine bI λv3001 h3002=>brI (λh3003=>λe=>oj e▸X6 [Bf,.pure _ (AV.tup [(Lt (v3001.1.map Xr)),(aI .i64 v3001.2)]),Bt] (k:=fi)) λh3003=>bI λu3004 h3005=>?_;have qh3005:=X0v h3005;refine bI λo3287 h3288=>rnI [Bf,.pure _ (AV.tup [(Lt (v3001.1.map Xr)),(aI .i64 v3001.2)]),Bf,.el (aI .i64 (v3001.1.length:Int))] ?_;intro h;refine wkT [(0,2)] (X2.cut (Xek v3001.1 qh3005 v3001.1 0 (by simp) _ _ nbS _ h3288 ?_ ?_))
   ·
    intro Xq X06 eo3287;subst eo3287;refine X2.glue ?_;try dsimp only at h
    rcases X06 with ⟨_|_,X29⟩
    ·
     revert h;exact brI (λh3289=>λe=>oj e▸X6 [.el (aI .i64 (Xq.length:Int)),Bt] (k:=fi)) λh3289=>λe=>oj e▸X6 [.el (aI .i64 (Xq.length:Int)),Bf] (k:=fi)
    obtain rfl:=X29 rfl;revert h;exact brI (λh3290=>λe=>oj e▸X6 [.el (aI .i64 (List.length ([]:List X1):Int)),Bt] (k:=fi)) λh3290=>λe=>oj e▸X6 [.el (aI .i64 (List.length ([]:List X1):Int)),Bf] (k:=fi)
   intro X1l Xks X1h eo3287;subst eo3287;refine X2.glue ?_;try dsimp only at h
   rcases X1h with ⟨_|_,X63⟩<;>(try obtain rfl:=X63 rfl);all_goals
    revert h;exact λe=>oj e▸X6 [] (k:=fi)
  clear h;revert h30;intro h;refine X2.inline X3 fn80 rfl rfl rfl rfl rfl trivial trivial rfl rfl ?_;revert h;refine brI (λq=>?_) λq=>?_
  ·
   intro h;have h25:a0=[]:=List.isEmpty_iff.1 q;refine X0j [] ?_;refine X2.eqNil X3 (may:=true) rfl rfl rfl rfl rfl rfl trivial (by simp[X6f, *]) λb26 qb26=>?_;cases b26
   ·
    obtain rfl:=oj h;refine X0j [Bf,.ne false] ?_;refine X2.back (by intro id h;cases h) rfl ?_;exact wkT [] ((J nbS))
   obtain rfl:=oj h;refine X0j [Bt] ?_;refine X2.back (by intro id h;cases h) rfl ?_;exact wkT [] ((J nbS))
  intro h;have h25:¬ (a0=[]):=(λe=>by rw[e] at q;cases q);refine X0j [] ?_;refine X2.eqNil X3 (may:=false) rfl rfl rfl rfl rfl rfl trivial (by simp[X6f, *]) λb27 qb27=>?_;obtain rfl:=qb27 rfl;revert h;refine bI λu28 h29=>?_;intro h;obtain rfl:=oj h;refine X0j [Bf,.via (Lt (a0.map X0))] (o:=by repeat' first|apply Ya|exact pcM|(refine X0r h29 rfl ?_;first|(simp<;>omega)|(simp[h3,h6,h7,h8,h25]<;>omega))|(refine X08 h29 (by decide) ?_;first|(simp<;>omega)|(simp[h3,h6,h7,h8,h25]<;>omega))|exact Xu) ?_;refine X2.back (by intro id h;cases h) rfl ?_;exact wkT [(3,4)] ((J nbF))
 clear h;revert h18;refine bI λv14 h15=>brI (λh16=>?_) λh16=>?_
 ·
  intro h;obtain rfl:=oj h;exact X6 [.pure _ (Xv v14),.ix 0] (o:=by repeat' first|apply Ya|exact pcM|exact((eq_of_beq h16))|exact Xu) (k:=wkT [] (X2.glue J))
 refine brI (λh17=>?_) λh17=>?_
 ·
  intro h;obtain rfl:=oj h;exact X6 [.pure _ (Xv v14),.ix 1] (o:=by repeat' first|apply Ya|exact pcM|exact((eq_of_beq h17))|exact Xu) (k:=wkT [] (X2.glue J))
 intro h;cases h⟩
end Go.Av.Tryz