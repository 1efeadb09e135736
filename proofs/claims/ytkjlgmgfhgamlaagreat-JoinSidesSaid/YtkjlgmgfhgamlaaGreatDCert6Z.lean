/- Printed by decomp.py: that the program computes the functions. -/
import Derived.Test.YtkjlgmgfhgamlaaGreatDCert5Z
set_option linter.all false

namespace Go.Av.Tryz
open Go.Proofs Go.D
set_option maxRecDepth 10000
set_option maxHeartbeats 40000000
instance Xwz:PCs Tryz.prog 124 (∀ (a0:Int) (a1:Int) (a2:Int) (r:(List X05)×Int),Xbr a0 a1 a2=some r->X0l Tryz.prog 124 [(aI .i64 a0),(aI .i64 a1),(aI .i64 a2)] (AV.tup [(AV.list true (r.1.map X01)),(aI .i64 r.2)])):=⟨fun a0 a1 a2 r h=>by
 refine X0l.sym X6 X042 (nt:=70) rfl rfl ?_ okM
 unfold Xbr at h
 revert h
 refine brI (fun h1=>fun e=>oj e▸X9 [.wrap,Bt] (k:=fi)) fun h1=>bI fun v2 h3=>brI (fun h4=>fun e=>oj e▸X9 [.wrap,Bf,.pure _ (AV.tup [(X01 v2.1),(aI .i64 v2.2)]),Bt] (k:=fi)) fun h4=>bI fun o24 h25=>rnI [.wrap,Bf,.pure _ (AV.tup [(X01 v2.1),(aI .i64 v2.2)]),Bf] ?_
 intro h
 refine wkT [] (X3.cut (Xgu a0 a1 a2 _ _ _ nbS _ h25 ?_))
 intro X0a X0r eo24;subst eo24
 refine X3.glue ?_
 try dsimp only at h
 rcases X0r with ⟨_|_,X4b⟩
 ·
  refine X0g [] ?_
  refine X3.inline X6 X01i rfl rfl rfl rfl rfl trivial trivial rfl rfl ?_
  refine X0g [] ?_
  refine X3.back (by intro id h;cases h) rfl ?_
  refine X0g [] ?_
  refine X3.keepL [12,62] ?_
  refine X3.rangeFunc rfl trivial X01g rfl rfl rfl ?_
  intro rb rD rr rh1 rh2 rh3 rh4 rh5
  revert h
  refine bI fun o87 h88=>rnI [.el (aI .i64 (X0a.length:Int)),.wrap] ?_
  intro h
  refine wkT [(4,0)] (X3.cut (X9g rh1 rh2 rh3 rh4 rh5 X0a nbF _ _ _ nbS _ h88 ?_))
  intro X2d Xbi X1h X6d eo87;subst eo87
  refine X3.glue ?_
  try dsimp only at h
  rcases X1h with ⟨_|_,X2r⟩
  ·
   rcases X6d with ⟨_|_,X7f⟩
   ·
    refine X0g [] ?_
    refine X3.rfEnd (by intro id h;cases h) ?_
    revert h
    exact fun e=>oj e▸X9 [] (k:=fi)
   obtain rfl:=X7f rfl
   refine X0g [] ?_
   refine X3.rfEnd (by intro id h;cases h) ?_
   revert h
   exact fun e=>oj e▸X9 [] (k:=fi)
  obtain rfl:=X2r rfl
  rcases X6d with ⟨_|_,X7f⟩
  ·
   refine X0g [] ?_
   refine X3.rfEnd (by intro id h;cases h) ?_
   revert h
   exact fun e=>oj e▸X9 [] (k:=fi)
  obtain rfl:=X7f rfl
  refine X0g [] ?_
  refine X3.rfEnd (by intro id h;cases h) ?_
  revert h
  exact fun e=>oj e▸X9 [] (k:=fi)
 obtain rfl:=X4b rfl
 refine X0g [] ?_
 refine X3.inline X6 X01i rfl rfl rfl rfl rfl trivial trivial rfl rfl ?_
 refine X0g [] ?_
 refine X3.back (by intro id h;cases h) rfl ?_
 refine X0g [] ?_
 refine X3.keepL [12,62] ?_
 refine X3.rangeFunc rfl trivial X01g rfl rfl rfl ?_
 intro rb rD rr rh1 rh2 rh3 rh4 rh5
 revert h
 refine bI fun o130 h131=>rnI [.el (aI .i64 (List.length ([]:List X05):Int)),.wrap] ?_
 intro h
 refine wkT [] (X3.cut (X9g rh1 rh2 rh3 rh4 rh5 ([]:List X05) nbS _ _ _ nbS _ h131 ?_))
 intro X2d Xbi X1h X6d eo130;subst eo130
 refine X3.glue ?_
 try dsimp only at h
 rcases X1h with ⟨_|_,X2r⟩
 ·
  rcases X6d with ⟨_|_,X7f⟩
  ·
   refine X0g [] ?_
   refine X3.rfEnd (by intro id h;cases h) ?_
   revert h
   exact fun e=>oj e▸X9 [] (k:=fi)
  obtain rfl:=X7f rfl
  refine X0g [] ?_
  refine X3.rfEnd (by intro id h;cases h) ?_
  revert h
  exact fun e=>oj e▸X9 [] (k:=fi)
 obtain rfl:=X2r rfl
 rcases X6d with ⟨_|_,X7f⟩
 ·
  refine X0g [] ?_
  refine X3.rfEnd (by intro id h;cases h) ?_
  revert h
  exact fun e=>oj e▸X9 [] (k:=fi)
 obtain rfl:=X7f rfl
 refine X0g [] ?_
 refine X3.rfEnd (by intro id h;cases h) ?_
 revert h
 exact fun e=>oj e▸X9 [] (k:=fi)⟩
instance Xgt:PCs Tryz.prog 83 (∀ (a0:X0n) (a1:Int) (r:(List X05)×Int),Xdf a0 a1=some r->X0l Tryz.prog 83 [(X3i a0),(aI .i64 a1)] (AV.tup [(AV.list true (r.1.map X01)),(aI .i64 r.2)])):=⟨fun a0 a1 r h=>by
 refine X0l.sym X6 fn83 (nt:=40) rfl rfl ?_ okM
 unfold Xdf at h
 revert h
 exact bI fun v1 h2=>brI (fun h3=>fun e=>oj e▸X9 [.pure _ (aI .i64 v1),Bt] (k:=fi)) fun h3=>brI (fun h4=>bI fun v5 h6=>brI (fun h7=>fun e=>oj e▸X9 [.pure _ (aI .i64 v1),Bf,Bt,.pure _ (AV.tup [(X01 v5.1),(aI .i64 v5.2)]),Bt] (k:=fi)) fun h7=>fun e=>oj e▸X9 [.pure _ (aI .i64 v1),Bf,Bt,.pure _ (AV.tup [(X01 v5.1),(aI .i64 v5.2)]),Bf] (k:=fi)) fun h4=>brI (fun h8=>bI fun v9 h10=>fun e=>oj e▸X9 [.pure _ (aI .i64 v1),Bf,Bf,Bt,.pure _ (AV.tup [(AV.list true (v9.1.map X01)),(aI .i64 v9.2)])] (k:=fi)) fun h8=>fun e=>oj e▸X9 [.pure _ (aI .i64 v1),Bf,Bf,Bf] (k:=fi)⟩
theorem X1f {Q:X00->St->Mu->Prop} {μ:Mu} (X02:(List X2)) (X1t:X2) (X0c:Nb X02) (hl:X02.length<=140737488355328):∀ (xs:List X2) (k:Nat) (hx:X02.drop k=xs) (o:X03) (h:Xl X02 X1t xs k  = some o)
  (C0:o=X03.x0->X3 Tryz.prog 19 5 Q (.exit (.exit 0)) [] ⟨fr [],hp ([(4,Ob [(X1 X1t)] 11)]++opE X0c.1 3 11 (X02.map X1)),5⟩ μ)
  (C1:∀ (X9c:Int),o=X03.x1 X9c->X3 Tryz.prog 19 5 Q (.exit .ret) [] ⟨fr [(4,(aI .i64 X9c))],hp ([(4,Ob [(X1 X1t)] 11)]++opE X0c.1 3 11 (X02.map X1)),5⟩ μ),
  X3 Tryz.prog 19 5 Q (.loop (X5f 0 (Xi Tryz.f119))) [] ⟨fr [(0,(slE X0c.1 3 (X02.map X1))),(1,(AV.fn 120 [(AV.ptr 4 0 0)])),(7,(aI .i64 (X02.length:Int))),(8,(aI .i64 (k:Int)))],hp ([(4,Ob [(X1 X1t)] 11)]++opE X0c.1 3 11 (X02.map X1)),5⟩ μ:=by
 intro xs
 induction xs with
 |nil =>
  intro k hx  o h C0 C1
  have hk:=drop_nil hx
  have hc:decide ((k:Int)<(X02.length:Int))=false:=Yf (by omega)
  rw[Xl] at h
  rcases X0c with ⟨_|_,X1d⟩
  ·
   refine X3.round ?_
   revert h
   exact fun e=>X9 [Bf] (k:=wkT [] (C0  (oj e).symm))
  ·
   obtain rfl:=X1d rfl
   refine X3.round ?_
   revert h
   exact fun e=>X9 [Bf] (k:=wkT [] (C0  (oj e).symm))
 |cons x xs ih =>
  intro k hx  o h C0 C1
  obtain⟨hk,hg,hx1⟩:=X15 hx
  have hc:decide ((k:Int)<(X02.length:Int))=true:=Yt (by omega)
  rw[Xl] at h
  rcases X0c with ⟨_|_,X1d⟩
  ·
   refine X3.round ?_
   refine X0g [Bt,.el (X1 x),.ld (X1 x)] ?_
   refine X3.inline X6 X045 rfl rfl rfl rfl rfl trivial trivial rfl rfl ?_
   refine X0g [] ?_
   refine X3.back (by intro id h;cases h) rfl ?_
   revert h
   refine brI (fun h1341=>fun e=>X9 [Bt] (k:=wkT [] (C1 _  (oj e).symm))) fun h1341=>rnI [Bf] ?_
   intro h
   exact wkT [] (ih (k+1) hx1  o h C0 C1)
  obtain rfl:=X1d rfl
  refine X3.round ?_
  exact absurd hk (by simp)
theorem X5n {Q:X00->St->Mu->Prop} {μ:Mu}:∀ (n:Nat) (X02:(List X2)) (X1t:X2) (X0c:Nb X02) (o:X3y) (h:X1u  n X02 X1t=some o)
  (C0:∀ (X2d:(List X2)) (Xgi:Int) (X1h:Nb X2d),o=X3y.x0 X2d Xgi->X3 Tryz.prog 54 3 Q (.exit .ret) [] ⟨fr [(4,(slE X1h.1 3 (X2d.map X1))),(5,(aI .i64 Xgi))],hp ([]++opE X1h.1 3 11 (X2d.map X1)),4⟩ μ),
  X3 Tryz.prog 54 3 Q (.loop (X5f 0 (Xi Tryz.f82))) [] ⟨fr [(0,(slE X0c.1 3 (X02.map X1))),(3,(AV.ptr 4 0 0))],hp ([(4,Ob [(X1 X1t)] 11)]++opE X0c.1 3 11 (X02.map X1)),5⟩ μ:=by
 intro n
 induction n with
 |zero=>intro X02 X1t X0c o h C0;cases h
 |succ n ih =>
  intro X02 X1t X0c o h C0
  rw[X1u] at h
  rcases X0c with ⟨_|_,X1d⟩
  ·
   refine X3.round ?_
   revert h
   refine bI fun Xcf h1344=>rnI [] ?_
   intro h
   refine X3.joinOp (s':=⟨fr [(0,(AV.ref 3 0 (X02.length))),(3,(AV.ptr 4 0 0)),(10,(aI .i64 Xcf))],hp ([(3,Ob (X02.map X1) 11),(4,Ob [(X1 X1t)] 11)]),5⟩) ?_ (fun J=>?_)
   ·
    revert h
    refine brI (fun h1345=>?_) fun h1345=>?_
    ·
     refine bI fun w1392 h1439=>?_
     intro h
     obtain⟨Xkb,Xq7⟩:=w1392
     try dsimp only at h
     refine X0g [Bt] ?_
     refine X3.joinOpF (fun(q:Nb Xkb)=>⟨fr [(15,(AV.tup [(slE q.1 3 (Xkb.map X1)),(aI .i64 Xq7)]))],hp ([]++opE q.1 3 11 (Xkb.map X1)),4⟩) ?_ (fun J=>?_)
     ·
      rintro Xmx
      rcases Xmx with ⟨_|_,Xny⟩
      ·
       revert h
       exact fun e=>X9 [] (k:=wkT [] (C0 _ _  nbF (oj e).symm))
      obtain rfl:=Xny rfl
      revert h
      exact fun e=>X9 [] (k:=wkT [] (C0 _ _  nbS (oj e).symm))
     clear h;revert h1439
     intro h
     refine X3.inline X6 fn84 rfl rfl rfl rfl rfl trivial trivial rfl rfl ?_
     revert h
     refine bI fun v1393 h1394=>brI (fun h1395=>?_) fun h1395=>?_
     ·
      refine brI (fun h1396=>?_) fun h1396=>?_
      ·
       refine bI fun _ h1412=>rnI [.pure [(Lf (X02.map X1)),(X1 X1t),(AV.fn 116 [])] (AV.tup [(aI .i64 v1393.1),(aB v1393.2)]),Bt] (o:=by repeat' first|apply Ya|exact pcM|exact(X5m.lent (Xo _ _ _ h1394) (cc (Xlx (es:=X02.map X1) rfl (by first|rfl|(simp;done)|(simp;rfl)|(simp[h1345];done)|(simp[h1345];rfl)|(simp[h1345,Ym,Yd];done)|(simp[h1345,Ym,Yd];rfl)) (by first|rfl|(simp;done)|(simp;omega)|(simp[h1345];done)|(simp[h1345];omega)) (X2o X5c X02)) (cc (X7i (x:=X1t)) (cc .fn0 cn))) (Xlb (X0y .sc (X0y .sc X76))))|exact Xu) ?_
       intro h
       refine X3.joinOp (s':=⟨fr [(21,(AV.ref 5 0 (List.length (X02++[X1t]))))],hp ([(5,Ob (List.map X1 (X02++[X1t])) 11)]),6⟩) ?_ (fun J=>?_)
       ·
        simp only[Option.some.injEq,Prod.mk.injEq] at h
        obtain⟨rfl,rfl⟩:=h
        refine X0g [] ?_
        refine X3.back (by intro id h;cases h) rfl ?_
        exact wkT [(3,5)] ((J nbF))
       clear h;revert h1412
       intro h
       refine X3.inline X6 Xqg rfl rfl rfl rfl rfl trivial trivial rfl rfl ?_
       revert h
       refine bI fun m1405 h1406=>?_
       obtain⟨qah1406,qbh1406,qch1406,qh1406⟩:=X3t h1406
       have qlh1406:=X8d h1406
       refine brI (fun h1407=>?_) fun h1407=>?_
       ·
        refine bI fun u1408 h1409=>rnI [.ne false,Bf,.el (aI .i64 (X02.length:Int)),Bt,.no] (o:=by repeat' first|apply Ya|exact pcM|(simp at qah1406 qbh1406 qch1406 ⊢;omega)|(simp at qah1406 qbh1406 qch1406 qlh1406 ⊢;have qz:=X37 h1407;omega)|(refine Xd h1409 rfl ?_;first|(simp;done)|(simp;omega)|(simp[h1345,h1395,h1396,h1407];done)|(simp[h1345,h1395,h1396,h1407];omega))|(refine X7 h1409 (by decide) ?_;first|(simp;done)|(simp;omega)|(simp[h1345,h1395,h1396,h1407];done)|(simp[h1345,h1395,h1396,h1407];omega))|exact Xu) ?_
        intro h
        refine X3.back (by intro id h;cases h) rfl ?_
        exact wkT [(5,7)] (J)
       refine bI fun u1410 h1411=>rnI [.via (.ref 3 (Int.toNat v1393.1) (m1405.length)),Bf,.el (aI .i64 (X02.length:Int)),Bt,.no] (o:=by repeat' first|apply Ya|exact pcM|(simp at qah1406 qbh1406 qch1406 ⊢;omega)|(simp at qah1406 qbh1406 qch1406 qlh1406 ⊢;have qz:=X0z h1407;omega)|(simp at qah1406 qbh1406 qch1406 qlh1406 ⊢;omega)|(simp;done)|(refine Xd h1411 rfl ?_;first|(simp;done)|(simp;omega)|(simp[h1345,h1395,h1396,h1407];done)|(simp[h1345,h1395,h1396,h1407];omega))|(refine X7 h1411 (by decide) ?_;first|(simp;done)|(simp;omega)|(simp[h1345,h1395,h1396,h1407];done)|(simp[h1345,h1395,h1396,h1407];omega))|exact Xu) ?_
       intro h
       refine X3.back (by intro id h;cases h) rfl ?_
       exact wkT [(5,7)] (J)
      refine bI fun m1413 h1414=>rnI [.pure [(Lf (X02.map X1)),(X1 X1t),(AV.fn 116 [])] (AV.tup [(aI .i64 v1393.1),(aB v1393.2)]),Bt] (o:=by repeat' first|apply Ya|exact pcM|exact(X5m.lent (Xo _ _ _ h1394) (cc (Xlx (es:=X02.map X1) rfl (by first|rfl|(simp;done)|(simp;rfl)|(simp[h1345];done)|(simp[h1345];rfl)|(simp[h1345,Ym,Yd];done)|(simp[h1345,Ym,Yd];rfl)) (by first|rfl|(simp;done)|(simp;omega)|(simp[h1345];done)|(simp[h1345];omega)) (X2o X5c X02)) (cc (X7i (x:=X1t)) (cc .fn0 cn))) (Xlb (X0y .sc (X0y .sc X76))))|exact Xu) ?_
      intro h
      refine X3.hcall rfl rfl rfl rfl rfl trivial trivial (Xp2 ⟨_,_,Xqg⟩ (f:=X1) (l:=X02) (x:=X1t) h1414 rfl rfl rfl (by first|rfl|simp)) ?_
      simp only[Option.some.injEq,Prod.mk.injEq] at h
      obtain⟨rfl,rfl⟩:=h
      refine X0g [] ?_
      refine X3.back (by intro id h;cases h) rfl ?_
      exact wkT [(3,7)] ((J nbF))
     refine rnI [.pure [(Lf (X02.map X1)),(X1 X1t),(AV.fn 116 [])] (AV.tup [(aI .i64 v1393.1),(aB v1393.2)]),Bf,.stop 4] (o:=by repeat' first|apply Ya|exact pcM|exact(X5m.lent (Xo _ _ _ h1394) (cc (Xlx (es:=X02.map X1) rfl (by first|rfl|(simp;done)|(simp;rfl)|(simp[h1345];done)|(simp[h1345];rfl)|(simp[h1345,Ym,Yd];done)|(simp[h1345,Ym,Yd];rfl)) (by first|rfl|(simp;done)|(simp;omega)|(simp[h1345];done)|(simp[h1345];omega)) (X2o X5c X02)) (cc (X7i (x:=X1t)) (cc .fn0 cn))) (Xlb (X0y .sc (X0y .sc X76))))|exact Xu) ?_
     refine bI fun e1415 h1416=>?_
     try have qh1416:=Xs h1416
     intro h
     refine X3.drawnCut 5 tmD [.el (X1 e1415)] rfl rfl rfl rfl rfl (by repeat' first|apply Ya|exact Xu) ?_
     revert h
     refine bI fun w1427 h1438=>?_
     intro h
     obtain⟨Xka,Xw7⟩:=w1427
     try dsimp only at h
     refine X0g [] ?_
     refine X3.joinOpF (fun(q:Nb Xka)=>⟨fr [(0,(slE q.1 5 (Xka.map X1))),(27,(aI .i64 Xw7))],hp ([]++opE q.1 5 11 (Xka.map X1)),6⟩) ?_ (fun J=>?_)
     ·
      rintro Xmw
      rcases Xmw with ⟨_|_,Xnx⟩
      ·
       simp only[Option.some.injEq,Prod.mk.injEq] at h
       obtain⟨rfl,rfl⟩:=h
       refine X0g [] ?_
       refine X3.back (by intro id h;cases h) rfl ?_
       exact wkT [(3,5)] ((J nbF))
      obtain rfl:=Xnx rfl
      simp only[Option.some.injEq,Prod.mk.injEq] at h
      obtain⟨rfl,rfl⟩:=h
      refine X0g [] ?_
      refine X3.back (by intro id h;cases h) rfl ?_
      exact wkT [] ((J nbS))
     clear h;revert h1438
     intro h
     refine X3.inline X6 Xzd rfl rfl rfl rfl rfl trivial trivial rfl rfl ?_
     refine X0g [] ?_
     refine X3.round ?_
     revert h
     refine bI fun v1430 h1431=>brI (fun h1432=>?_) fun h1432=>?_
     ·
      intro h
      simp only[Option.some.injEq,Prod.mk.injEq] at h
      obtain⟨rfl,rfl⟩:=h
      refine X0g [Bt,.ix 0,.ix 0,.ld (X1 e1415),.pure _ (AV.tup [(X0u v1430.1),(aI .i64 v1430.2)]),Bt] ?_
      refine X3.back (by intro id h;cases h) rfl ?_
      exact wkT [(5,3)] ((J nbF))
     refine rnI [Bt,.ix 0,.ix 0,.ld (X1 e1415),.pure _ (AV.tup [(X0u v1430.1),(aI .i64 v1430.2)]),Bf,.ix 0,.ld (X1 e1415)] (o:=by repeat' first|apply Ya|exact pcM|exact(List.getElem?_set_self (by have hq:=X6t h1416;simp;omega)).trans rfl|exact Xu) ?_
     intro h
     refine X3.round ?_
     revert h
     refine bI fun v1435 h1436=>rnI [Bt,.ix 1,.ix 1,.ld (X1 (X2.mk e1415.Key e1415.Span (V2.mk v1430.1 e1415.Values.e1))),.pure _ (AV.tup [(X0u v1435.1),(aI .i64 v1435.2)])] (o:=by repeat' first|apply Ya|exact pcM|exact(List.getElem?_set_self (by have hq:=X6t h1416;simp;omega)).trans rfl|exact Xu) ?_
     refine brI (fun h1437=>?_) fun h1437=>?_
     ·
      intro h
      simp only[Option.some.injEq,Prod.mk.injEq] at h
      obtain⟨rfl,rfl⟩:=h
      refine X0g [Bt] (o:=by repeat' first|apply Ya|exact pcM|exact(List.getElem?_set_self (by have hq:=X6t h1416;simp;omega)).trans rfl|exact Xu) ?_
      refine X3.back (by intro id h;cases h) rfl ?_
      exact wkT [(5,3)] ((J nbF))
     refine rnI [Bf,.ix 1,.ld (X1 (X2.mk e1415.Key e1415.Span (V2.mk v1430.1 e1415.Values.e1)))] (o:=by repeat' first|apply Ya|exact pcM|exact(List.getElem?_set_self (by have hq:=X6t h1416;simp;omega)).trans rfl|exact Xu) ?_
     intro h
     refine X3.round ?_
     simp only[Option.some.injEq,Prod.mk.injEq] at h
     obtain⟨rfl,rfl⟩:=h
     refine X0g [Bf] (o:=by repeat' first|apply Ya|exact pcM|exact(List.getElem?_set_self (by have hq:=X6t h1416;simp;omega)).trans rfl|exact Xu) ?_
     refine X3.back (by intro id h;cases h) rfl ?_
     exact wkT [(5,3)] ((J nbF))
    refine bI fun e1440 h1441=>?_
    try have qh1441:=Xs h1441
    refine bI fun w1452 h1463=>?_
    intro h
    obtain⟨Xw5,Xw6⟩:=w1452
    try dsimp only at h
    refine X0g [Bf,.el (X1 e1440),.ld (X1 e1440)] ?_
    refine X3.joinOp (s':=⟨fr [(0,(AV.ref 3 0 (X02.length))),(3,(AV.ptr 4 0 0)),(6,(aI .i64 Xcf)),(23,(aI .i64 Xw6))],hp ([(3,Ob (X02.map X1) 11),(4,Ob [(X1 Xw5)] 11)]),5⟩) ?_ (fun J=>?_)
    ·
     revert h
     refine brI (fun h1464=>fun e=>X9 [Bt] (k:=wkT [] (C0 _ _  nbS (oj e).symm))) fun h1464=>bI fun m1465 h1466=>rnI [Bf,.el (X1 e1440),.ld (X1 e1440),.el (X1 e1440),.ld (X1 e1440),.wrap] ?_
     intro h
     refine X3.hcall rfl rfl rfl rfl rfl trivial trivial (Xwn ⟨_,_,X044⟩ (f:=X1) (l:=X02) h1466 rfl rfl (by first|rfl|simp)) ?_
     exact X9 [] (k:=wkT [(3,28)] (ih  _ _ nbF o h C0))
    clear h;revert h1463
    intro h
    refine X3.inline X6 Xzd rfl rfl rfl rfl rfl trivial trivial rfl rfl ?_
    refine X0g [] ?_
    refine X3.round ?_
    revert h
    refine bI fun v1455 h1456=>brI (fun h1457=>?_) fun h1457=>?_
    ·
     intro h
     simp only[Option.some.injEq,Prod.mk.injEq] at h
     obtain⟨rfl,rfl⟩:=h
     refine X0g [Bt,.ix 0,.ix 0,.pure _ (AV.tup [(X0u v1455.1),(aI .i64 v1455.2)]),Bt] ?_
     refine X3.back (by intro id h;cases h) rfl ?_
     exact wkT [] (J)
    refine rnI [Bt,.ix 0,.ix 0,.pure _ (AV.tup [(X0u v1455.1),(aI .i64 v1455.2)]),Bf,.ix 0] ?_
    intro h
    refine X3.round ?_
    revert h
    refine bI fun v1460 h1461=>brI (fun h1462=>?_) fun h1462=>?_
    ·
     intro h
     simp only[Option.some.injEq,Prod.mk.injEq] at h
     obtain⟨rfl,rfl⟩:=h
     refine X0g [Bt,.ix 1,.ix 1,.pure _ (AV.tup [(X0u v1460.1),(aI .i64 v1460.2)]),Bt] ?_
     refine X3.back (by intro id h;cases h) rfl ?_
     exact wkT [] (J)
    refine rnI [Bt,.ix 1,.ix 1,.pure _ (AV.tup [(X0u v1460.1),(aI .i64 v1460.2)]),Bf,.ix 1] ?_
    intro h
    refine X3.round ?_
    simp only[Option.some.injEq,Prod.mk.injEq] at h
    obtain⟨rfl,rfl⟩:=h
    refine X0g [Bf] ?_
    refine X3.back (by intro id h;cases h) rfl ?_
    exact wkT [] (J)
   clear h;revert h1344
   intro h
   refine X3.inline X6 X01m rfl rfl rfl rfl rfl trivial trivial rfl rfl ?_
   revert h
   refine bI fun u1330 h1331=>?_
   have qh1331:=X0k h1331
   refine bI fun o1342 h1343=>rnI [.el (aI .i64 (X02.length:Int))] ?_
   intro h
   refine wkT [] (X3.cut (X1f X02 X1t nbF qh1331 X02 0 (by simp) _ h1343 ?_ ?_))
   ·
    intro eo1342;subst eo1342
    refine X3.glue ?_
    try dsimp only at h
    obtain rfl:=oj h
    refine X0g [] ?_
    refine X3.back (by intro id h;cases h) rfl ?_
    exact wkT [] (J)
   intro X9c eo1342;subst eo1342
   refine X3.glue ?_
   try dsimp only at h
   obtain rfl:=oj h
   refine X0g [] ?_
   refine X3.back (by intro id h;cases h) rfl ?_
   exact wkT [] (J)
  obtain rfl:=X1d rfl
  refine X3.round ?_
  revert h
  refine bI fun Xw4 h1502=>rnI [] ?_
  intro h
  refine X3.joinOp (s':=⟨fr [(0,AV.nils),(3,(AV.ptr 4 0 0)),(10,(aI .i64 Xw4))],hp ([(4,Ob [(X1 X1t)] 11)]),5⟩) ?_ (fun J=>?_)
  ·
   revert h
   refine brI (fun h1503=>?_) fun h1503=>?_
   ·
    refine bI fun w1524 h1545=>?_
    intro h
    obtain⟨Xk9,Xq6⟩:=w1524
    try dsimp only at h
    refine X0g [Bt] ?_
    refine X3.joinOpF (fun(q:Nb Xk9)=>⟨fr [(15,(AV.tup [(slE q.1 3 (Xk9.map X1)),(aI .i64 Xq6)]))],hp ([]++opE q.1 3 11 (Xk9.map X1)),4⟩) ?_ (fun J=>?_)
    ·
     rintro Xmv
     rcases Xmv with ⟨_|_,Xnw⟩
     ·
      revert h
      exact fun e=>X9 [] (k:=wkT [] (C0 _ _  nbF (oj e).symm))
     obtain rfl:=Xnw rfl
     revert h
     exact fun e=>X9 [] (k:=wkT [] (C0 _ _  nbS (oj e).symm))
    clear h;revert h1545
    intro h
    refine X3.inline X6 fn84 rfl rfl rfl rfl rfl trivial trivial rfl rfl ?_
    revert h
    refine bI fun v1525 h1526=>brI (fun h1527=>?_) fun h1527=>?_
    ·
     refine brI (fun h1528=>?_) fun h1528=>?_
     ·
      refine bI fun _ h1540=>rnI [.pure [(Lf (List.map X1 ([]:List X2))),(X1 X1t),(AV.fn 116 [])] (AV.tup [(aI .i64 v1525.1),(aB v1525.2)]),Bt] (o:=by repeat' first|apply Ya|exact pcM|exact(pn (Xo _ _ _ h1526) (cc (Zn X1) (cc (X7i (x:=X1t)) (cc .fn0 cn))))|exact Xu) ?_
      intro h
      refine X3.joinOp (s':=⟨fr [(21,(AV.ref 5 0 (List.length (([]:List X2)++[X1t]))))],hp ([(5,Ob (List.map X1 (([]:List X2)++[X1t])) 11)]),6⟩) ?_ (fun J=>?_)
      ·
       simp only[Option.some.injEq,Prod.mk.injEq] at h
       obtain⟨rfl,rfl⟩:=h
       refine X0g [] ?_
       refine X3.back (by intro id h;cases h) rfl ?_
       exact wkT [(3,5)] ((J nbF))
      clear h;revert h1540
      intro h
      refine X3.inline X6 Xqg rfl rfl rfl rfl rfl trivial trivial rfl rfl ?_
      revert h
      refine bI fun m1535 h1536=>?_
      obtain⟨qah1536,qbh1536,qch1536,qh1536⟩:=X3t h1536
      obtain rfl:=X8c h1536
      refine brI (fun h1537=>?_) fun h1537=>?_
      ·
       refine bI fun u1538 h1539=>rnI [Bf,.el (aI .i64 (List.length ([]:List X2):Int)),Bt,.no] (o:=by repeat' first|apply Ya|exact pcM|(simp at qah1536 qbh1536 qch1536 ⊢;omega)|(refine Xd h1539 rfl ?_;first|(simp;done)|(simp;omega)|(simp[h1503,h1527,h1528,h1537];done)|(simp[h1503,h1527,h1528,h1537];omega))|(refine X7 h1539 (by decide) ?_;first|(simp;done)|(simp;omega)|(simp[h1503,h1527,h1528,h1537];done)|(simp[h1503,h1527,h1528,h1537];omega))|exact Xu) ?_
       intro h
       refine X3.back (by intro id h;cases h) rfl ?_
       exact wkT [(5,7)] (J)
      intro h
      exact absurd h1537 (by simp)
     refine bI fun m1541 h1542=>?_
     intro h
     exact absurd h1542 (by simp[Xq8])
    refine rnI [.pure [(Lf (List.map X1 ([]:List X2))),(X1 X1t),(AV.fn 116 [])] (AV.tup [(aI .i64 v1525.1),(aB v1525.2)]),Bf,.stop 4] (o:=by repeat' first|apply Ya|exact pcM|exact(pn (Xo _ _ _ h1526) (cc (Zn X1) (cc (X7i (x:=X1t)) (cc .fn0 cn))))|exact Xu) ?_
    refine bI fun e1543 h1544=>?_
    try have qh1544:=Xs h1544
    intro h
    exact absurd (h1544) (by simp[X3c])
   refine bI fun e1546 h1547=>?_
   try have qh1547:=Xs h1547
   intro h
   exact absurd (h1547) (by simp[X3c])
  clear h;revert h1502
  intro h
  refine X3.inline X6 X01m rfl rfl rfl rfl rfl trivial trivial rfl rfl ?_
  revert h
  refine bI fun u1490 h1491=>?_
  have qh1491:=X0k h1491
  refine bI fun o1500 h1501=>rnI [.el (aI .i64 (List.length ([]:List X2):Int))] ?_
  intro h
  refine wkT [] (X3.cut (X1f ([]:List X2) X1t nbS qh1491 ([]:List X2) 0 (by simp) _ h1501 ?_ ?_))
  ·
   intro eo1500;subst eo1500
   refine X3.glue ?_
   try dsimp only at h
   obtain rfl:=oj h
   refine X0g [] ?_
   refine X3.back (by intro id h;cases h) rfl ?_
   exact wkT [] (J)
  intro X9c eo1500;subst eo1500
  refine X3.glue ?_
  try dsimp only at h
  obtain rfl:=oj h
  refine X0g [] ?_
  refine X3.back (by intro id h;cases h) rfl ?_
  exact wkT [] (J)
end Go.Av.Tryz