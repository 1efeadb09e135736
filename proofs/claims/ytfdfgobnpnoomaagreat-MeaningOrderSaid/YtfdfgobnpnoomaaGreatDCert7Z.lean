/- Printed by decomp.py: that the program computes the functions. -/
import Derived.Test.YtfdfgobnpnoomaaGreatDCert6Z
set_option linter.all false

namespace Go.Av.Tryz
open Go.Proofs Go.D
set_option maxRecDepth 10000
set_option maxHeartbeats 40000000
theorem X56 {Q:Xy->St->Mu->Prop} {μ:Mu}:∀ (n:Nat) (X0j:(List X5)) (X1c:X5) (X1q:Nb X0j) (o:X3g) (h:X1d  n X0j X1c=some o)
  (C0:∀ (X1y:(List X5)) (X94:Int) (X13:Nb X1y),o=X3g.x0 X1y X94->X2 Tryz.prog 54 3 Q (.exit .ret) [] ⟨fr [(4,(slE X13.1 3 (X1y.map X4))),(5,(aI .i64 X94))],hp ([]++opE X13.1 3 11 (X1y.map X4)),4⟩ μ),
  X2 Tryz.prog 54 3 Q (.loop (X4k 0 (Xl Tryz.f82))) [] ⟨fr [(0,(slE X1q.1 3 (X0j.map X4))),(3,(AV.ptr 4 0 0))],hp ([(4,Ob [(X4 X1c)] 11)]++opE X1q.1 3 11 (X0j.map X4)),5⟩ μ:=by
 intro n
 induction n with
 |zero=>intro X0j X1c X1q o h C0;cases h
 |succ n ih =>
  intro X0j X1c X1q o h C0
  rw[X1d] at h
  rcases X1q with ⟨_|_,X6f⟩
  ·
   refine X2.round ?_
   revert h
   refine bI fun Xcb h1344=>rnI [] ?_
   intro h
   refine X2.joinOp (s':=⟨fr [(0,(AV.ref 3 0 (X0j.length))),(3,(AV.ptr 4 0 0)),(10,(aI .i64 Xcb))],hp ([(3,Ob (X0j.map X4) 11),(4,Ob [(X4 X1c)] 11)]),5⟩) ?_ (fun J=>?_)
   ·
    revert h
    refine brI (fun h1345=>?_) fun h1345=>?_
    ·
     refine bI fun w1392 h1439=>?_
     intro h
     obtain⟨Xkh,Xrb⟩:=w1392
     try dsimp only at h
     refine X0y [Bt] ?_
     refine X2.joinOpF (fun(q:Nb Xkh)=>⟨fr [(15,(AV.tup [(slE q.1 3 (Xkh.map X4)),(aI .i64 Xrb)]))],hp ([]++opE q.1 3 11 (Xkh.map X4)),4⟩) ?_ (fun J=>?_)
     ·
      rintro Xnd
      rcases Xnd with ⟨_|_,Xon⟩
      ·
       revert h
       exact fun e=>X8 [] (k:=wkT [] (C0 _ _  nbF (oj e).symm))
      obtain rfl:=Xon rfl
      revert h
      exact fun e=>X8 [] (k:=wkT [] (C0 _ _  nbS (oj e).symm))
     clear h;revert h1439
     intro h
     refine X2.inline X9 fn84 rfl rfl rfl rfl rfl trivial trivial rfl rfl ?_
     revert h
     refine bI fun v1393 h1394=>brI (fun h1395=>?_) fun h1395=>?_
     ·
      refine brI (fun h1396=>?_) fun h1396=>?_
      ·
       refine bI fun _ h1412=>rnI [.pure [(Lf (X0j.map X4)),(X4 X1c),(AV.fn 110 [])] (AV.tup [(aI .i64 v1393.1),(aB v1393.2)]),Bt] (o:=by repeat' first|apply Ya|exact pcM|exact(X55.lent (Xn _ _ _ h1394) (cc (Xmi (es:=X0j.map X4) rfl (by first|rfl|(simp;done)|(simp;rfl)|(simp[h1345];done)|(simp[h1345];rfl)|(simp[h1345,Ym,Yd];done)|(simp[h1345,Ym,Yd];rfl)) (by first|rfl|(simp;done)|(simp;omega)|(simp[h1345];done)|(simp[h1345];omega)) (X22 X5v X0j)) (cc (X7d (x:=X1c)) (cc .fn0 cn))) (Xlk (X1g .sc (X1g .sc X7x))))|exact X08) ?_
       intro h
       refine X2.joinOp (s':=⟨fr [(21,(AV.ref 5 0 (List.length (X0j++[X1c]))))],hp ([(5,Ob (List.map X4 (X0j++[X1c])) 11)]),6⟩) ?_ (fun J=>?_)
       ·
        simp only[Option.some.injEq,Prod.mk.injEq] at h
        obtain⟨rfl,rfl⟩:=h
        refine X0y [] ?_
        refine X2.back (by intro id h;cases h) rfl ?_
        exact wkT [(3,5)] ((J nbF))
       clear h;revert h1412
       intro h
       refine X2.inline X9 Xrz rfl rfl rfl rfl rfl trivial trivial rfl rfl ?_
       revert h
       refine bI fun m1405 h1406=>?_
       obtain⟨qah1406,qbh1406,qch1406,qh1406⟩:=X2y h1406
       have qlh1406:=X72 h1406
       refine brI (fun h1407=>?_) fun h1407=>?_
       ·
        refine bI fun u1408 h1409=>rnI [.ne false,Bf,.el (aI .i64 (X0j.length:Int)),Bt,.no] (o:=by repeat' first|apply Ya|exact pcM|(simp at qah1406 qbh1406 qch1406 ⊢;omega)|(simp at qah1406 qbh1406 qch1406 qlh1406 ⊢;have qz:=X2p h1407;omega)|(refine X0s h1409 rfl ?_;first|(simp;done)|(simp;omega)|(simp[h1345,h1395,h1396,h1407];done)|(simp[h1345,h1395,h1396,h1407];omega))|(refine X01 h1409 (by decide) ?_;first|(simp;done)|(simp;omega)|(simp[h1345,h1395,h1396,h1407];done)|(simp[h1345,h1395,h1396,h1407];omega))|exact X08) ?_
        intro h
        refine X2.back (by intro id h;cases h) rfl ?_
        exact wkT [(5,7)] (J)
       refine bI fun u1410 h1411=>rnI [.via (.ref 3 (Int.toNat v1393.1) (m1405.length)),Bf,.el (aI .i64 (X0j.length:Int)),Bt,.no] (o:=by repeat' first|apply Ya|exact pcM|(simp at qah1406 qbh1406 qch1406 ⊢;omega)|(simp at qah1406 qbh1406 qch1406 qlh1406 ⊢;have qz:=X0u h1407;omega)|(simp at qah1406 qbh1406 qch1406 qlh1406 ⊢;omega)|(simp;done)|(refine X0s h1411 rfl ?_;first|(simp;done)|(simp;omega)|(simp[h1345,h1395,h1396,h1407];done)|(simp[h1345,h1395,h1396,h1407];omega))|(refine X01 h1411 (by decide) ?_;first|(simp;done)|(simp;omega)|(simp[h1345,h1395,h1396,h1407];done)|(simp[h1345,h1395,h1396,h1407];omega))|exact X08) ?_
       intro h
       refine X2.back (by intro id h;cases h) rfl ?_
       exact wkT [(5,7)] (J)
      refine bI fun m1413 h1414=>rnI [.pure [(Lf (X0j.map X4)),(X4 X1c),(AV.fn 110 [])] (AV.tup [(aI .i64 v1393.1),(aB v1393.2)]),Bt] (o:=by repeat' first|apply Ya|exact pcM|exact(X55.lent (Xn _ _ _ h1394) (cc (Xmi (es:=X0j.map X4) rfl (by first|rfl|(simp;done)|(simp;rfl)|(simp[h1345];done)|(simp[h1345];rfl)|(simp[h1345,Ym,Yd];done)|(simp[h1345,Ym,Yd];rfl)) (by first|rfl|(simp;done)|(simp;omega)|(simp[h1345];done)|(simp[h1345];omega)) (X22 X5v X0j)) (cc (X7d (x:=X1c)) (cc .fn0 cn))) (Xlk (X1g .sc (X1g .sc X7x))))|exact X08) ?_
      intro h
      refine X2.hcall rfl rfl rfl rfl rfl trivial trivial (Xpq ⟨_,_,Xrz⟩ (f:=X4) (l:=X0j) (x:=X1c) h1414 rfl rfl rfl (by first|rfl|simp)) ?_
      simp only[Option.some.injEq,Prod.mk.injEq] at h
      obtain⟨rfl,rfl⟩:=h
      refine X0y [] ?_
      refine X2.back (by intro id h;cases h) rfl ?_
      exact wkT [(3,7)] ((J nbF))
     refine rnI [.pure [(Lf (X0j.map X4)),(X4 X1c),(AV.fn 110 [])] (AV.tup [(aI .i64 v1393.1),(aB v1393.2)]),Bf,.stop 4] (o:=by repeat' first|apply Ya|exact pcM|exact(X55.lent (Xn _ _ _ h1394) (cc (Xmi (es:=X0j.map X4) rfl (by first|rfl|(simp;done)|(simp;rfl)|(simp[h1345];done)|(simp[h1345];rfl)|(simp[h1345,Ym,Yd];done)|(simp[h1345,Ym,Yd];rfl)) (by first|rfl|(simp;done)|(simp;omega)|(simp[h1345];done)|(simp[h1345];omega)) (X22 X5v X0j)) (cc (X7d (x:=X1c)) (cc .fn0 cn))) (Xlk (X1g .sc (X1g .sc X7x))))|exact X08) ?_
     refine bI fun e1415 h1416=>?_
     try have qh1416:=Xp h1416
     intro h
     refine X2.drawnCut 5 tmD [.el (X4 e1415)] rfl rfl rfl rfl rfl (by repeat' first|apply Ya|exact X08) ?_
     revert h
     refine bI fun w1427 h1438=>?_
     intro h
     obtain⟨Xkg,Xxu⟩:=w1427
     try dsimp only at h
     refine X0y [] ?_
     refine X2.joinOpF (fun(q:Nb Xkg)=>⟨fr [(0,(slE q.1 5 (Xkg.map X4))),(27,(aI .i64 Xxu))],hp ([]++opE q.1 5 11 (Xkg.map X4)),6⟩) ?_ (fun J=>?_)
     ·
      rintro Xnc
      rcases Xnc with ⟨_|_,Xom⟩
      ·
       simp only[Option.some.injEq,Prod.mk.injEq] at h
       obtain⟨rfl,rfl⟩:=h
       refine X0y [] ?_
       refine X2.back (by intro id h;cases h) rfl ?_
       exact wkT [(3,5)] ((J nbF))
      obtain rfl:=Xom rfl
      simp only[Option.some.injEq,Prod.mk.injEq] at h
      obtain⟨rfl,rfl⟩:=h
      refine X0y [] ?_
      refine X2.back (by intro id h;cases h) rfl ?_
      exact wkT [] ((J nbS))
     clear h;revert h1438
     intro h
     refine X2.inline X9 X01h rfl rfl rfl rfl rfl trivial trivial rfl rfl ?_
     refine X0y [] ?_
     refine X2.round ?_
     revert h
     refine bI fun v1430 h1431=>brI (fun h1432=>?_) fun h1432=>?_
     ·
      intro h
      simp only[Option.some.injEq,Prod.mk.injEq] at h
      obtain⟨rfl,rfl⟩:=h
      refine X0y [Bt,.ix 0,.ix 0,.ld (X4 e1415),.pure _ (AV.tup [(X0p v1430.1),(aI .i64 v1430.2)]),Bt] ?_
      refine X2.back (by intro id h;cases h) rfl ?_
      exact wkT [(5,3)] ((J nbF))
     refine rnI [Bt,.ix 0,.ix 0,.ld (X4 e1415),.pure _ (AV.tup [(X0p v1430.1),(aI .i64 v1430.2)]),Bf,.ix 0,.ld (X4 e1415)] (o:=by repeat' first|apply Ya|exact pcM|exact(List.getElem?_set_self (by have hq:=X1t h1416;simp;omega)).trans rfl|exact X08) ?_
     intro h
     refine X2.round ?_
     revert h
     refine bI fun v1435 h1436=>rnI [Bt,.ix 1,.ix 1,.ld (X4 (X5.mk e1415.Key e1415.Span (V2.mk v1430.1 e1415.Values.e1))),.pure _ (AV.tup [(X0p v1435.1),(aI .i64 v1435.2)])] (o:=by repeat' first|apply Ya|exact pcM|exact(List.getElem?_set_self (by have hq:=X1t h1416;simp;omega)).trans rfl|exact X08) ?_
     refine brI (fun h1437=>?_) fun h1437=>?_
     ·
      intro h
      simp only[Option.some.injEq,Prod.mk.injEq] at h
      obtain⟨rfl,rfl⟩:=h
      refine X0y [Bt] (o:=by repeat' first|apply Ya|exact pcM|exact(List.getElem?_set_self (by have hq:=X1t h1416;simp;omega)).trans rfl|exact X08) ?_
      refine X2.back (by intro id h;cases h) rfl ?_
      exact wkT [(5,3)] ((J nbF))
     refine rnI [Bf,.ix 1,.ld (X4 (X5.mk e1415.Key e1415.Span (V2.mk v1430.1 e1415.Values.e1)))] (o:=by repeat' first|apply Ya|exact pcM|exact(List.getElem?_set_self (by have hq:=X1t h1416;simp;omega)).trans rfl|exact X08) ?_
     intro h
     refine X2.round ?_
     simp only[Option.some.injEq,Prod.mk.injEq] at h
     obtain⟨rfl,rfl⟩:=h
     refine X0y [Bf] (o:=by repeat' first|apply Ya|exact pcM|exact(List.getElem?_set_self (by have hq:=X1t h1416;simp;omega)).trans rfl|exact X08) ?_
     refine X2.back (by intro id h;cases h) rfl ?_
     exact wkT [(5,3)] ((J nbF))
    refine bI fun e1440 h1441=>?_
    try have qh1441:=Xp h1441
    refine bI fun w1452 h1463=>?_
    intro h
    obtain⟨Xxs,Xxt⟩:=w1452
    try dsimp only at h
    refine X0y [Bf,.el (X4 e1440),.ld (X4 e1440)] ?_
    refine X2.joinOp (s':=⟨fr [(0,(AV.ref 3 0 (X0j.length))),(3,(AV.ptr 4 0 0)),(6,(aI .i64 Xcb)),(23,(aI .i64 Xxt))],hp ([(3,Ob (X0j.map X4) 11),(4,Ob [(X4 Xxs)] 11)]),5⟩) ?_ (fun J=>?_)
    ·
     revert h
     refine brI (fun h1464=>fun e=>X8 [Bt] (k:=wkT [] (C0 _ _  nbS (oj e).symm))) fun h1464=>bI fun m1465 h1466=>rnI [Bf,.el (X4 e1440),.ld (X4 e1440),.el (X4 e1440),.ld (X4 e1440),.wrap] ?_
     intro h
     refine X2.hcall rfl rfl rfl rfl rfl trivial trivial (Xyg ⟨_,_,X05p⟩ (f:=X4) (l:=X0j) h1466 rfl rfl (by first|rfl|simp)) ?_
     exact X8 [] (k:=wkT [(3,28)] (ih  _ _ nbF o h C0))
    clear h;revert h1463
    intro h
    refine X2.inline X9 X01h rfl rfl rfl rfl rfl trivial trivial rfl rfl ?_
    refine X0y [] ?_
    refine X2.round ?_
    revert h
    refine bI fun v1455 h1456=>brI (fun h1457=>?_) fun h1457=>?_
    ·
     intro h
     simp only[Option.some.injEq,Prod.mk.injEq] at h
     obtain⟨rfl,rfl⟩:=h
     refine X0y [Bt,.ix 0,.ix 0,.pure _ (AV.tup [(X0p v1455.1),(aI .i64 v1455.2)]),Bt] ?_
     refine X2.back (by intro id h;cases h) rfl ?_
     exact wkT [] (J)
    refine rnI [Bt,.ix 0,.ix 0,.pure _ (AV.tup [(X0p v1455.1),(aI .i64 v1455.2)]),Bf,.ix 0] ?_
    intro h
    refine X2.round ?_
    revert h
    refine bI fun v1460 h1461=>brI (fun h1462=>?_) fun h1462=>?_
    ·
     intro h
     simp only[Option.some.injEq,Prod.mk.injEq] at h
     obtain⟨rfl,rfl⟩:=h
     refine X0y [Bt,.ix 1,.ix 1,.pure _ (AV.tup [(X0p v1460.1),(aI .i64 v1460.2)]),Bt] ?_
     refine X2.back (by intro id h;cases h) rfl ?_
     exact wkT [] (J)
    refine rnI [Bt,.ix 1,.ix 1,.pure _ (AV.tup [(X0p v1460.1),(aI .i64 v1460.2)]),Bf,.ix 1] ?_
    intro h
    refine X2.round ?_
    simp only[Option.some.injEq,Prod.mk.injEq] at h
    obtain⟨rfl,rfl⟩:=h
    refine X0y [Bf] ?_
    refine X2.back (by intro id h;cases h) rfl ?_
    exact wkT [] (J)
   clear h;revert h1344
   intro h
   refine X2.inline X9 X03m rfl rfl rfl rfl rfl trivial trivial rfl rfl ?_
   revert h
   refine bI fun u1330 h1331=>?_
   have qh1331:=X09 h1331
   refine bI fun o1342 h1343=>rnI [.el (aI .i64 (X0j.length:Int))] ?_
   intro h
   refine wkT [] (X2.cut (X14 X0j X1c nbF qh1331 X0j 0 (by simp) _ h1343 ?_ ?_))
   ·
    intro eo1342;subst eo1342
    refine X2.glue ?_
    try dsimp only at h
    obtain rfl:=oj h
    refine X0y [] ?_
    refine X2.back (by intro id h;cases h) rfl ?_
    exact wkT [] (J)
   intro X93 eo1342;subst eo1342
   refine X2.glue ?_
   try dsimp only at h
   obtain rfl:=oj h
   refine X0y [] ?_
   refine X2.back (by intro id h;cases h) rfl ?_
   exact wkT [] (J)
  obtain rfl:=X6f rfl
  refine X2.round ?_
  revert h
  refine bI fun Xxr h1502=>rnI [] ?_
  intro h
  refine X2.joinOp (s':=⟨fr [(0,AV.nils),(3,(AV.ptr 4 0 0)),(10,(aI .i64 Xxr))],hp ([(4,Ob [(X4 X1c)] 11)]),5⟩) ?_ (fun J=>?_)
  ·
   revert h
   refine brI (fun h1503=>?_) fun h1503=>?_
   ·
    refine bI fun w1524 h1545=>?_
    intro h
    obtain⟨Xkf,Xra⟩:=w1524
    try dsimp only at h
    refine X0y [Bt] ?_
    refine X2.joinOpF (fun(q:Nb Xkf)=>⟨fr [(15,(AV.tup [(slE q.1 3 (Xkf.map X4)),(aI .i64 Xra)]))],hp ([]++opE q.1 3 11 (Xkf.map X4)),4⟩) ?_ (fun J=>?_)
    ·
     rintro Xnb
     rcases Xnb with ⟨_|_,Xol⟩
     ·
      revert h
      exact fun e=>X8 [] (k:=wkT [] (C0 _ _  nbF (oj e).symm))
     obtain rfl:=Xol rfl
     revert h
     exact fun e=>X8 [] (k:=wkT [] (C0 _ _  nbS (oj e).symm))
    clear h;revert h1545
    intro h
    refine X2.inline X9 fn84 rfl rfl rfl rfl rfl trivial trivial rfl rfl ?_
    revert h
    refine bI fun v1525 h1526=>brI (fun h1527=>?_) fun h1527=>?_
    ·
     refine brI (fun h1528=>?_) fun h1528=>?_
     ·
      refine bI fun _ h1540=>rnI [.pure [(Lf (List.map X4 ([]:List X5))),(X4 X1c),(AV.fn 110 [])] (AV.tup [(aI .i64 v1525.1),(aB v1525.2)]),Bt] (o:=by repeat' first|apply Ya|exact pcM|exact(pn (Xn _ _ _ h1526) (cc (Zn X4) (cc (X7d (x:=X1c)) (cc .fn0 cn))))|exact X08) ?_
      intro h
      refine X2.joinOp (s':=⟨fr [(21,(AV.ref 5 0 (List.length (([]:List X5)++[X1c]))))],hp ([(5,Ob (List.map X4 (([]:List X5)++[X1c])) 11)]),6⟩) ?_ (fun J=>?_)
      ·
       simp only[Option.some.injEq,Prod.mk.injEq] at h
       obtain⟨rfl,rfl⟩:=h
       refine X0y [] ?_
       refine X2.back (by intro id h;cases h) rfl ?_
       exact wkT [(3,5)] ((J nbF))
      clear h;revert h1540
      intro h
      refine X2.inline X9 Xrz rfl rfl rfl rfl rfl trivial trivial rfl rfl ?_
      revert h
      refine bI fun m1535 h1536=>?_
      obtain⟨qah1536,qbh1536,qch1536,qh1536⟩:=X2y h1536
      obtain rfl:=X83 h1536
      refine brI (fun h1537=>?_) fun h1537=>?_
      ·
       refine bI fun u1538 h1539=>rnI [Bf,.el (aI .i64 (List.length ([]:List X5):Int)),Bt,.no] (o:=by repeat' first|apply Ya|exact pcM|(simp at qah1536 qbh1536 qch1536 ⊢;omega)|(refine X0s h1539 rfl ?_;first|(simp;done)|(simp;omega)|(simp[h1503,h1527,h1528,h1537];done)|(simp[h1503,h1527,h1528,h1537];omega))|(refine X01 h1539 (by decide) ?_;first|(simp;done)|(simp;omega)|(simp[h1503,h1527,h1528,h1537];done)|(simp[h1503,h1527,h1528,h1537];omega))|exact X08) ?_
       intro h
       refine X2.back (by intro id h;cases h) rfl ?_
       exact wkT [(5,7)] (J)
      intro h
      exact absurd h1537 (by simp)
     refine bI fun m1541 h1542=>?_
     intro h
     exact absurd h1542 (by simp[Xrc])
    refine rnI [.pure [(Lf (List.map X4 ([]:List X5))),(X4 X1c),(AV.fn 110 [])] (AV.tup [(aI .i64 v1525.1),(aB v1525.2)]),Bf,.stop 4] (o:=by repeat' first|apply Ya|exact pcM|exact(pn (Xn _ _ _ h1526) (cc (Zn X4) (cc (X7d (x:=X1c)) (cc .fn0 cn))))|exact X08) ?_
    refine bI fun e1543 h1544=>?_
    try have qh1544:=Xp h1544
    intro h
    exact absurd (h1544) (by simp[X1w])
   refine bI fun e1546 h1547=>?_
   try have qh1547:=Xp h1547
   intro h
   exact absurd (h1547) (by simp[X1w])
  clear h;revert h1502
  intro h
  refine X2.inline X9 X03m rfl rfl rfl rfl rfl trivial trivial rfl rfl ?_
  revert h
  refine bI fun u1490 h1491=>?_
  have qh1491:=X09 h1491
  refine bI fun o1500 h1501=>rnI [.el (aI .i64 (List.length ([]:List X5):Int))] ?_
  intro h
  refine wkT [] (X2.cut (X14 ([]:List X5) X1c nbS qh1491 ([]:List X5) 0 (by simp) _ h1501 ?_ ?_))
  ·
   intro eo1500;subst eo1500
   refine X2.glue ?_
   try dsimp only at h
   obtain rfl:=oj h
   refine X0y [] ?_
   refine X2.back (by intro id h;cases h) rfl ?_
   exact wkT [] (J)
  intro X93 eo1500;subst eo1500
  refine X2.glue ?_
  try dsimp only at h
  obtain rfl:=oj h
  refine X0y [] ?_
  refine X2.back (by intro id h;cases h) rfl ?_
  exact wkT [] (J)
theorem Xbj {Q:Xy->St->Mu->Prop} {μ:Mu} (Xdw:(List X0n)) (hl:Xdw.length<=140737488355328):∀ (xs:List X0n) (k:Nat) (hx:Xdw.drop k=xs) (Xm:X5) (Xh:(List X5)) (Xs:Nb Xh) (o:X7e) (h:X3y Xdw xs k Xm Xh=some o)
  (C0:∀ (Xr:(List X5)) (X03:Nb Xr),o=X7e.x0 Xr->X2 Tryz.prog 112 0 Q (.exit (.exit 0)) [] ⟨fr [(13,(slE X03.1 0 (Xr.map X4)))],hp ([]++opE X03.1 0 11 (Xr.map X4)),1⟩ μ)
  (C1:∀ (X04:(List X5)) (Xg8:Int) (X02:Nb X04),o=X7e.x1 X04 Xg8->X2 Tryz.prog 112 0 Q (.exit .ret) [] ⟨fr [(8,(slE X02.1 0 (X04.map X4))),(9,(aI .i64 Xg8))],hp ([]++opE X02.1 0 11 (X04.map X4)),1⟩ μ),
  X2 Tryz.prog 112 0 Q (.loop (X4k 0 (Xl Tryz.f51))) [] ⟨fr [(12,(AV.ptr 0 0 0)),(13,(slE Xs.1 1 (Xh.map X4))),(91,(AV.list true (Xdw.map X00))),(92,(aI .i64 (Xdw.length:Int))),(93,(aI .i64 (k:Int)))],hp ([(0,Ob [(X4 Xm)] 11)]++opE Xs.1 1 11 (Xh.map X4)),2⟩ μ:=by
 intro xs
 induction xs with
 |nil =>
  intro k hx Xm Xh Xs o h C0 C1
  have hk:=X18 hx
  have hc:decide ((k:Int)<(Xdw.length:Int))=false:=Yf (by omega)
  rw[X3y] at h
  rcases Xs with ⟨_|_,X07⟩
  ·
   refine X2.round ?_
   revert h
   exact fun e=>X8 [Bf] (k:=wkT [(0,1)] (C0 _  nbF (oj e).symm))
  ·
   obtain rfl:=X07 rfl
   refine X2.round ?_
   revert h
   exact fun e=>X8 [Bf] (k:=wkT [] (C0 _  nbS (oj e).symm))
 |cons x xs ih =>
  intro k hx Xm Xh Xs o h C0 C1
  obtain⟨hk,hg,hx1⟩:=X0r hx
  have hc:decide ((k:Int)<(Xdw.length:Int))=true:=Yt (by omega)
  rw[X3y] at h
  rcases Xs with ⟨_|_,X07⟩
  ·
   refine X2.round ?_
   revert h
   refine bI fun w1890 h1937=>?_
   intro h
   obtain⟨Xxq,Xkd,Xo9⟩:=w1890
   try dsimp only at h
   refine X0y [Bt,.el (X00 x)] ?_
   refine X2.joinOpF (fun(q:Nb Xkd)=>⟨fr [(12,(AV.ptr 0 0 0)),(91,(AV.list true (Xdw.map X00))),(92,(aI .i64 (Xdw.length:Int))),(93,(aI .i64 (k:Int))),(101,(AV.tup [(slE q.1 1 (Xkd.map X4)),(aI .i64 Xo9)]))],hp ([(0,Ob [(X4 Xxq)] 11)]++opE q.1 1 11 (Xkd.map X4)),2⟩) ?_ (fun J=>?_)
   ·
    rintro Xna
    rcases Xna with ⟨_|_,Xok⟩
    ·
     revert h
     refine brI (fun h1938=>fun e=>X8 [Bt] (k:=wkT [] (C1 _ _  nbS (oj e).symm))) fun h1938=>rnI [Bf] ?_
     intro h
     exact wkT [] (ih (k+1) hx1 _ _ nbF o h C0 C1)
    obtain rfl:=Xok rfl
    revert h
    refine brI (fun h1939=>fun e=>X8 [Bt] (k:=wkT [] (C1 _ _  nbS (oj e).symm))) fun h1939=>rnI [Bf] ?_
    intro h
    exact wkT [] (ih (k+1) hx1 _ _ nbS o h C0 C1)
   clear h;revert h1937
   intro h
   refine X2.inline X9 fn84 rfl rfl rfl rfl rfl trivial trivial rfl rfl ?_
   revert h
   refine bI fun v1891 h1892=>rnI [.pure [(Lf (Xh.map X4)),(X4 (X5.mk Xm.Key x Xm.Values)),(AV.fn 110 [])] (AV.tup [(aI .i64 v1891.1),(aB v1891.2)])] (o:=by repeat' first|apply Ya|exact pcM|exact(X55.lent (Xn _ _ _ h1892) (cc (Xmi (es:=Xh.map X4) rfl (by first|rfl|(simp;done)|(simp;rfl)|(simp[hc];done)|(simp[hc];rfl)|(simp[hc,Ym,Yd];done)|(simp[hc,Ym,Yd];rfl)) (by first|rfl|(simp;done)|(simp;omega)|(simp[hc];done)|(simp[hc];omega)) (X22 X5v Xh)) (cc (X7d (x:=(X5.mk Xm.Key x Xm.Values))) (cc .fn0 cn))) (Xlk (X1g .sc (X1g .sc X7x))))|exact X08) ?_
   refine brI (fun h1893=>?_) fun h1893=>?_
   ·
    refine brI (fun h1894=>?_) fun h1894=>?_
    ·
     refine bI fun _ h1910=>rnI [Bt] ?_
     intro h
     refine X2.joinOp (s':=⟨fr [(21,(AV.ref 2 0 (List.length (Xh++[(X5.mk Xm.Key x Xm.Values)]))))],hp ([(0,Ob [(X4 (X5.mk Xm.Key x Xm.Values))] 11),(2,Ob (List.map X4 (Xh++[(X5.mk Xm.Key x Xm.Values)])) 11)]),3⟩) ?_ (fun J=>?_)
     ·
      simp only[Option.some.injEq,Prod.mk.injEq] at h
      obtain⟨rfl,rfl,rfl⟩:=h
      refine X0y [] ?_
      refine X2.back (by intro id h;cases h) rfl ?_
      exact wkT [(1,2)] ((J nbF))
     clear h;revert h1910
     intro h
     refine X2.inline X9 Xrz rfl rfl rfl rfl rfl trivial trivial rfl rfl ?_
     revert h
     refine bI fun m1903 h1904=>?_
     obtain⟨qah1904,qbh1904,qch1904,qh1904⟩:=X2y h1904
     have qlh1904:=X72 h1904
     refine brI (fun h1905=>?_) fun h1905=>?_
     ·
      refine bI fun u1906 h1907=>rnI [.ne false,Bf,.el (aI .i64 (Xh.length:Int)),Bt,.no] (o:=by repeat' first|apply Ya|exact pcM|(simp at qah1904 qbh1904 qch1904 ⊢;omega)|(simp at qah1904 qbh1904 qch1904 qlh1904 ⊢;have qz:=X2p h1905;omega)|(refine X0s h1907 rfl ?_;first|(simp;done)|(simp;omega)|(simp[hc,h1893,h1894,h1905];done)|(simp[hc,h1893,h1894,h1905];omega))|(refine X01 h1907 (by decide) ?_;first|(simp;done)|(simp;omega)|(simp[hc,h1893,h1894,h1905];done)|(simp[hc,h1893,h1894,h1905];omega))|exact X08) ?_
      intro h
      refine X2.back (by intro id h;cases h) rfl ?_
      exact wkT [(2,4)] (J)
     refine bI fun u1908 h1909=>rnI [.via (.ref 1 (Int.toNat v1891.1) (m1903.length)),Bf,.el (aI .i64 (Xh.length:Int)),Bt,.no] (o:=by repeat' first|apply Ya|exact pcM|(simp at qah1904 qbh1904 qch1904 ⊢;omega)|(simp at qah1904 qbh1904 qch1904 qlh1904 ⊢;have qz:=X0u h1905;omega)|(simp at qah1904 qbh1904 qch1904 qlh1904 ⊢;omega)|(simp;done)|(refine X0s h1909 rfl ?_;first|(simp;done)|(simp;omega)|(simp[hc,h1893,h1894,h1905];done)|(simp[hc,h1893,h1894,h1905];omega))|(refine X01 h1909 (by decide) ?_;first|(simp;done)|(simp;omega)|(simp[hc,h1893,h1894,h1905];done)|(simp[hc,h1893,h1894,h1905];omega))|exact X08) ?_
     intro h
     refine X2.back (by intro id h;cases h) rfl ?_
     exact wkT [(2,4)] (J)
    refine bI fun m1911 h1912=>rnI [Bt] ?_
    intro h
    refine X2.hcall rfl rfl rfl rfl rfl trivial trivial (Xpq ⟨_,_,Xrz⟩ (f:=X4) (l:=Xh) (x:=(X5.mk Xm.Key x Xm.Values)) h1912 rfl rfl rfl (by first|rfl|simp)) ?_
    simp only[Option.some.injEq,Prod.mk.injEq] at h
    obtain⟨rfl,rfl,rfl⟩:=h
    refine X0y [] ?_
    refine X2.back (by intro id h;cases h) rfl ?_
    exact wkT [(1,4)] ((J nbF))
   refine rnI [Bf,.stop 4] ?_
   refine bI fun e1913 h1914=>?_
   try have qh1914:=Xp h1914
   intro h
   refine X2.drawnCut 5 tmD [.el (X4 e1913)] rfl rfl rfl rfl rfl (by repeat' first|apply Ya|exact X08) ?_
   revert h
   refine bI fun w1925 h1936=>?_
   intro h
   obtain⟨Xkc,Xxp⟩:=w1925
   try dsimp only at h
   refine X0y [] ?_
   refine X2.joinOpF (fun(q:Nb Xkc)=>⟨fr [(0,(slE q.1 2 (Xkc.map X4))),(27,(aI .i64 Xxp))],hp ([(0,Ob [(X4 (X5.mk Xm.Key x Xm.Values))] 11)]++opE q.1 2 11 (Xkc.map X4)),3⟩) ?_ (fun J=>?_)
   ·
    rintro Xn9
    rcases Xn9 with ⟨_|_,Xoj⟩
    ·
     simp only[Option.some.injEq,Prod.mk.injEq] at h
     obtain⟨rfl,rfl,rfl⟩:=h
     refine X0y [] ?_
     refine X2.back (by intro id h;cases h) rfl ?_
     exact wkT [(1,2)] ((J nbF))
    obtain rfl:=Xoj rfl
    simp only[Option.some.injEq,Prod.mk.injEq] at h
    obtain⟨rfl,rfl,rfl⟩:=h
    refine X0y [] ?_
    refine X2.back (by intro id h;cases h) rfl ?_
    exact wkT [] ((J nbS))
   clear h;revert h1936
   intro h
   refine X2.inline X9 X01h rfl rfl rfl rfl rfl trivial trivial rfl rfl ?_
   refine X0y [] ?_
   refine X2.round ?_
   revert h
   refine bI fun v1928 h1929=>brI (fun h1930=>?_) fun h1930=>?_
   ·
    intro h
    simp only[Option.some.injEq,Prod.mk.injEq] at h
    obtain⟨rfl,rfl⟩:=h
    refine X0y [Bt,.ix 0,.ix 0,.ld (X4 e1913),.pure _ (AV.tup [(X0p v1928.1),(aI .i64 v1928.2)]),Bt] ?_
    refine X2.back (by intro id h;cases h) rfl ?_
    exact wkT [(2,1)] ((J nbF))
   refine rnI [Bt,.ix 0,.ix 0,.ld (X4 e1913),.pure _ (AV.tup [(X0p v1928.1),(aI .i64 v1928.2)]),Bf,.ix 0,.ld (X4 e1913)] (o:=by repeat' first|apply Ya|exact pcM|exact(List.getElem?_set_self (by have hq:=X1t h1914;simp;omega)).trans rfl|exact X08) ?_
   intro h
   refine X2.round ?_
   revert h
   refine bI fun v1933 h1934=>rnI [Bt,.ix 1,.ix 1,.ld (X4 (X5.mk e1913.Key e1913.Span (V2.mk v1928.1 e1913.Values.e1))),.pure _ (AV.tup [(X0p v1933.1),(aI .i64 v1933.2)])] (o:=by repeat' first|apply Ya|exact pcM|exact(List.getElem?_set_self (by have hq:=X1t h1914;simp;omega)).trans rfl|exact X08) ?_
   refine brI (fun h1935=>?_) fun h1935=>?_
   ·
    intro h
    simp only[Option.some.injEq,Prod.mk.injEq] at h
    obtain⟨rfl,rfl⟩:=h
    refine X0y [Bt] (o:=by repeat' first|apply Ya|exact pcM|exact(List.getElem?_set_self (by have hq:=X1t h1914;simp;omega)).trans rfl|exact X08) ?_
    refine X2.back (by intro id h;cases h) rfl ?_
    exact wkT [(2,1)] ((J nbF))
   refine rnI [Bf,.ix 1,.ld (X4 (X5.mk e1913.Key e1913.Span (V2.mk v1928.1 e1913.Values.e1)))] (o:=by repeat' first|apply Ya|exact pcM|exact(List.getElem?_set_self (by have hq:=X1t h1914;simp;omega)).trans rfl|exact X08) ?_
   intro h
   refine X2.round ?_
   simp only[Option.some.injEq,Prod.mk.injEq] at h
   obtain⟨rfl,rfl⟩:=h
   refine X0y [Bf] (o:=by repeat' first|apply Ya|exact pcM|exact(List.getElem?_set_self (by have hq:=X1t h1914;simp;omega)).trans rfl|exact X08) ?_
   refine X2.back (by intro id h;cases h) rfl ?_
   exact wkT [(2,1)] ((J nbF))
  obtain rfl:=X07 rfl
  refine X2.round ?_
  revert h
  refine bI fun w1960 h1981=>?_
  intro h
  obtain⟨Xxo,Xkb,Xo8⟩:=w1960
  try dsimp only at h
  refine X0y [Bt,.el (X00 x)] ?_
  refine X2.joinOpF (fun(q:Nb Xkb)=>⟨fr [(12,(AV.ptr 0 0 0)),(91,(AV.list true (Xdw.map X00))),(92,(aI .i64 (Xdw.length:Int))),(93,(aI .i64 (k:Int))),(101,(AV.tup [(slE q.1 1 (Xkb.map X4)),(aI .i64 Xo8)]))],hp ([(0,Ob [(X4 Xxo)] 11)]++opE q.1 1 11 (Xkb.map X4)),2⟩) ?_ (fun J=>?_)
  ·
   rintro Xn8
   rcases Xn8 with ⟨_|_,Xoi⟩
   ·
    revert h
    refine brI (fun h1982=>fun e=>X8 [Bt] (k:=wkT [] (C1 _ _  nbS (oj e).symm))) fun h1982=>rnI [Bf] ?_
    intro h
    exact wkT [] (ih (k+1) hx1 _ _ nbF o h C0 C1)
   obtain rfl:=Xoi rfl
   revert h
   refine brI (fun h1983=>fun e=>X8 [Bt] (k:=wkT [] (C1 _ _  nbS (oj e).symm))) fun h1983=>rnI [Bf] ?_
   intro h
   exact wkT [] (ih (k+1) hx1 _ _ nbS o h C0 C1)
  clear h;revert h1981
  intro h
  refine X2.inline X9 fn84 rfl rfl rfl rfl rfl trivial trivial rfl rfl ?_
  revert h
  refine bI fun v1961 h1962=>rnI [.pure [(Lf (List.map X4 ([]:List X5))),(X4 (X5.mk Xm.Key x Xm.Values)),(AV.fn 110 [])] (AV.tup [(aI .i64 v1961.1),(aB v1961.2)])] (o:=by repeat' first|apply Ya|exact pcM|exact(pn (Xn _ _ _ h1962) (cc (Zn X4) (cc (X7d (x:=(X5.mk Xm.Key x Xm.Values))) (cc .fn0 cn))))|exact X08) ?_
  refine brI (fun h1963=>?_) fun h1963=>?_
  ·
   refine brI (fun h1964=>?_) fun h1964=>?_
   ·
    refine bI fun _ h1976=>rnI [Bt] ?_
    intro h
    refine X2.joinOp (s':=⟨fr [(21,(AV.ref 2 0 (List.length (([]:List X5)++[(X5.mk Xm.Key x Xm.Values)]))))],hp ([(0,Ob [(X4 (X5.mk Xm.Key x Xm.Values))] 11),(2,Ob (List.map X4 (([]:List X5)++[(X5.mk Xm.Key x Xm.Values)])) 11)]),3⟩) ?_ (fun J=>?_)
    ·
     simp only[Option.some.injEq,Prod.mk.injEq] at h
     obtain⟨rfl,rfl,rfl⟩:=h
     refine X0y [] ?_
     refine X2.back (by intro id h;cases h) rfl ?_
     exact wkT [(1,2)] ((J nbF))
    clear h;revert h1976
    intro h
    refine X2.inline X9 Xrz rfl rfl rfl rfl rfl trivial trivial rfl rfl ?_
    revert h
    refine bI fun m1971 h1972=>?_
    obtain⟨qah1972,qbh1972,qch1972,qh1972⟩:=X2y h1972
    obtain rfl:=X83 h1972
    refine brI (fun h1973=>?_) fun h1973=>?_
    ·
     refine bI fun u1974 h1975=>rnI [Bf,.el (aI .i64 (List.length ([]:List X5):Int)),Bt,.no] (o:=by repeat' first|apply Ya|exact pcM|(simp at qah1972 qbh1972 qch1972 ⊢;omega)|(refine X0s h1975 rfl ?_;first|(simp;done)|(simp;omega)|(simp[hc,h1963,h1964,h1973];done)|(simp[hc,h1963,h1964,h1973];omega))|(refine X01 h1975 (by decide) ?_;first|(simp;done)|(simp;omega)|(simp[hc,h1963,h1964,h1973];done)|(simp[hc,h1963,h1964,h1973];omega))|exact X08) ?_
     intro h
     refine X2.back (by intro id h;cases h) rfl ?_
     exact wkT [(2,4)] (J)
    intro h
    exact absurd h1973 (by simp)
   refine bI fun m1977 h1978=>?_
   intro h
   exact absurd h1978 (by simp[Xrc])
  refine rnI [Bf,.stop 4] ?_
  refine bI fun e1979 h1980=>?_
  try have qh1980:=Xp h1980
  intro h
  exact absurd (h1980) (by simp[X1w])
end Go.Av.Tryz