/- Printed by decomp.py: that the program computes the functions. -/
import Derived.Test.YtfdfgobnpnoomaaGreatDCert6Z
set_option linter.all false

namespace Go.Av.Tryz
open Go.Proofs Go.D
set_option maxRecDepth 10000
set_option maxHeartbeats 40000000
theorem X6u {Q:X02->St->Mu->Prop} {μ:Mu}:∀ (n:Nat) (X0h:(List X8)) (X1a:X8) (X2b:Nb X0h) (o:X4q) (h:X1u  n X0h X1a=some o)
  (C0:∀ (X0q:(List X8)) (Xgy:Int) (X11:Nb X0q),o=X4q.x0 X0q Xgy->X2 Tryz.prog 54 3 Q (.exit .ret) [] ⟨fr [(4,(slE X11.1 3 (X0q.map X5))),(5,(aI .i64 Xgy))],hp ([]++opE X11.1 3 11 (X0q.map X5)),4⟩ μ),
  X2 Tryz.prog 54 3 Q (.loop (X2v 0 (Xh Tryz.f82))) [] ⟨fr [(0,(slE X2b.1 3 (X0h.map X5))),(3,(AV.ptr 4 0 0))],hp ([(4,Ob [(X5 X1a)] 11)]++opE X2b.1 3 11 (X0h.map X5)),5⟩ μ:=by
 intro n
 induction n with
 |zero=>intro X0h X1a X2b o h C0;cases h
 |succ n ih =>
  intro X0h X1a X2b o h C0
  rw[X1u] at h
  rcases X2b with ⟨_|_,X5n⟩
  ·
   refine X2.round ?_
   revert h
   refine bI fun Xgj h1344=>rnI [] ?_
   intro h
   refine X2.joinOp (s':=⟨fr [(0,(AV.ref 3 0 (X0h.length))),(3,(AV.ptr 4 0 0)),(10,(aI .i64 Xgj))],hp ([(3,Ob (X0h.map X5) 11),(4,Ob [(X5 X1a)] 11)]),5⟩) ?_ (fun J=>?_)
   ·
    revert h
    refine brI (fun h1345=>?_) fun h1345=>?_
    ·
     refine bI fun w1392 h1439=>?_
     intro h
     obtain⟨Xpy,Xy6⟩:=w1392
     try dsimp only at h
     refine X10 [Bt] ?_
     refine X2.joinOpF (fun(q:Nb Xpy)=>⟨fr [(15,(AV.tup [(slE q.1 3 (Xpy.map X5)),(aI .i64 Xy6)]))],hp ([]++opE q.1 3 11 (Xpy.map X5)),4⟩) ?_ (fun J=>?_)
     ·
      rintro Xtw
      rcases Xtw with ⟨_|_,Xva⟩
      ·
       revert h
       exact fun e=>X9 [] (k:=wkT [] (C0 _ _  nbF (oj e).symm))
      obtain rfl:=Xva rfl
      revert h
      exact fun e=>X9 [] (k:=wkT [] (C0 _ _  nbS (oj e).symm))
     clear h;revert h1439
     intro h
     refine X2.inline Xa fn84 rfl rfl rfl rfl rfl trivial trivial rfl rfl ?_
     revert h
     refine bI fun v1393 h1394=>brI (fun h1395=>?_) fun h1395=>?_
     ·
      refine brI (fun h1396=>?_) fun h1396=>?_
      ·
       refine bI fun _ h1412=>rnI [.pure [(Lf (X0h.map X5)),(X5 X1a),(AV.fn 110 [])] (AV.tup [(aI .i64 v1393.1),(aB v1393.2)]),Bt] (o:=by repeat' first|apply Ya|exact pcM|exact(X5s.lent (Xt _ _ _ h1394) (cc (Xss (es:=X0h.map X5) rfl (by first|rfl|(simp;done)|(simp;rfl)|(simp[h1345];done)|(simp[h1345];rfl)|(simp[h1345,Ym,Yd];done)|(simp[h1345,Ym,Yd];rfl)) (by first|rfl|(simp;done)|(simp;omega)|(simp[h1345];done)|(simp[h1345];omega)) (X1x X7s X0h)) (cc (X9r (x:=X1a)) (cc .fn0 cn))) (Xra (X1d .sc (X1d .sc X8w))))|exact X0k) ?_
       intro h
       refine X2.joinOp (s':=⟨fr [(21,(AV.ref 5 0 (List.length (X0h++[X1a]))))],hp ([(5,Ob (List.map X5 (X0h++[X1a])) 11)]),6⟩) ?_ (fun J=>?_)
       ·
        simp only[Option.some.injEq,Prod.mk.injEq] at h
        obtain⟨rfl,rfl⟩:=h
        refine X10 [] ?_
        refine X2.back (by intro id h;cases h) rfl ?_
        exact wkT [(3,5)] ((J nbF))
       clear h;revert h1412
       intro h
       refine X2.inline Xa Xyu rfl rfl rfl rfl rfl trivial trivial rfl rfl ?_
       revert h
       refine bI fun m1405 h1406=>?_
       obtain⟨qah1406,qbh1406,qch1406,qh1406⟩:=X3q h1406
       have qlh1406:=X7w h1406
       refine brI (fun h1407=>?_) fun h1407=>?_
       ·
        refine bI fun u1408 h1409=>rnI [.ne false,Bf,.el (aI .i64 (X0h.length:Int)),Bt,.no] (o:=by repeat' first|apply Ya|exact pcM|(simp at qah1406 qbh1406 qch1406 ⊢;omega)|(simp at qah1406 qbh1406 qch1406 qlh1406 ⊢;have qz:=X3r h1407;omega)|(refine X0a h1409 rfl ?_;first|(simp;done)|(simp;omega)|(simp[h1345,h1395,h1396,h1407];done)|(simp[h1345,h1395,h1396,h1407];omega))|(refine Xs h1409 (by decide) ?_;first|(simp;done)|(simp;omega)|(simp[h1345,h1395,h1396,h1407];done)|(simp[h1345,h1395,h1396,h1407];omega))|exact X0k) ?_
        intro h
        refine X2.back (by intro id h;cases h) rfl ?_
        exact wkT [(5,7)] (J)
       refine bI fun u1410 h1411=>rnI [.via (.ref 3 (Int.toNat v1393.1) (m1405.length)),Bf,.el (aI .i64 (X0h.length:Int)),Bt,.no] (o:=by repeat' first|apply Ya|exact pcM|(simp at qah1406 qbh1406 qch1406 ⊢;omega)|(simp at qah1406 qbh1406 qch1406 qlh1406 ⊢;have qz:=X16 h1407;omega)|(simp at qah1406 qbh1406 qch1406 qlh1406 ⊢;omega)|(simp;done)|(refine X0a h1411 rfl ?_;first|(simp;done)|(simp;omega)|(simp[h1345,h1395,h1396,h1407];done)|(simp[h1345,h1395,h1396,h1407];omega))|(refine Xs h1411 (by decide) ?_;first|(simp;done)|(simp;omega)|(simp[h1345,h1395,h1396,h1407];done)|(simp[h1345,h1395,h1396,h1407];omega))|exact X0k) ?_
       intro h
       refine X2.back (by intro id h;cases h) rfl ?_
       exact wkT [(5,7)] (J)
      refine bI fun m1413 h1414=>rnI [.pure [(Lf (X0h.map X5)),(X5 X1a),(AV.fn 110 [])] (AV.tup [(aI .i64 v1393.1),(aB v1393.2)]),Bt] (o:=by repeat' first|apply Ya|exact pcM|exact(X5s.lent (Xt _ _ _ h1394) (cc (Xss (es:=X0h.map X5) rfl (by first|rfl|(simp;done)|(simp;rfl)|(simp[h1345];done)|(simp[h1345];rfl)|(simp[h1345,Ym,Yd];done)|(simp[h1345,Ym,Yd];rfl)) (by first|rfl|(simp;done)|(simp;omega)|(simp[h1345];done)|(simp[h1345];omega)) (X1x X7s X0h)) (cc (X9r (x:=X1a)) (cc .fn0 cn))) (Xra (X1d .sc (X1d .sc X8w))))|exact X0k) ?_
      intro h
      refine X2.hcall rfl rfl rfl rfl rfl trivial trivial (Xwf ⟨_,_,Xyu⟩ (f:=X5) (l:=X0h) (x:=X1a) h1414 rfl rfl rfl (by first|rfl|simp)) ?_
      simp only[Option.some.injEq,Prod.mk.injEq] at h
      obtain⟨rfl,rfl⟩:=h
      refine X10 [] ?_
      refine X2.back (by intro id h;cases h) rfl ?_
      exact wkT [(3,7)] ((J nbF))
     refine rnI [.pure [(Lf (X0h.map X5)),(X5 X1a),(AV.fn 110 [])] (AV.tup [(aI .i64 v1393.1),(aB v1393.2)]),Bf,.stop 4] (o:=by repeat' first|apply Ya|exact pcM|exact(X5s.lent (Xt _ _ _ h1394) (cc (Xss (es:=X0h.map X5) rfl (by first|rfl|(simp;done)|(simp;rfl)|(simp[h1345];done)|(simp[h1345];rfl)|(simp[h1345,Ym,Yd];done)|(simp[h1345,Ym,Yd];rfl)) (by first|rfl|(simp;done)|(simp;omega)|(simp[h1345];done)|(simp[h1345];omega)) (X1x X7s X0h)) (cc (X9r (x:=X1a)) (cc .fn0 cn))) (Xra (X1d .sc (X1d .sc X8w))))|exact X0k) ?_
     refine bI fun e1415 h1416=>?_
     try have qh1416:=Xn h1416
     intro h
     refine X2.drawnCut 5 tmD [.el (X5 e1415)] rfl rfl rfl rfl rfl (by repeat' first|apply Ya|exact X0k) ?_
     revert h
     refine bI fun w1427 h1438=>?_
     intro h
     obtain⟨Xpx,X066⟩:=w1427
     try dsimp only at h
     refine X10 [] ?_
     refine X2.joinOpF (fun(q:Nb Xpx)=>⟨fr [(0,(slE q.1 5 (Xpx.map X5))),(27,(aI .i64 X066))],hp ([]++opE q.1 5 11 (Xpx.map X5)),6⟩) ?_ (fun J=>?_)
     ·
      rintro Xtv
      rcases Xtv with ⟨_|_,Xv9⟩
      ·
       simp only[Option.some.injEq,Prod.mk.injEq] at h
       obtain⟨rfl,rfl⟩:=h
       refine X10 [] ?_
       refine X2.back (by intro id h;cases h) rfl ?_
       exact wkT [(3,5)] ((J nbF))
      obtain rfl:=Xv9 rfl
      simp only[Option.some.injEq,Prod.mk.injEq] at h
      obtain⟨rfl,rfl⟩:=h
      refine X10 [] ?_
      refine X2.back (by intro id h;cases h) rfl ?_
      exact wkT [] ((J nbS))
     clear h;revert h1438
     intro h
     refine X2.inline Xa X09x rfl rfl rfl rfl rfl trivial trivial rfl rfl ?_
     refine X10 [] ?_
     refine X2.round ?_
     revert h
     refine bI fun v1430 h1431=>brI (fun h1432=>?_) fun h1432=>?_
     ·
      intro h
      simp only[Option.some.injEq,Prod.mk.injEq] at h
      obtain⟨rfl,rfl⟩:=h
      refine X10 [Bt,.ix 0,.ix 0,.ld (X5 e1415),.pure _ (AV.tup [(X0d v1430.1),(aI .i64 v1430.2)]),Bt] ?_
      refine X2.back (by intro id h;cases h) rfl ?_
      exact wkT [(5,3)] ((J nbF))
     refine rnI [Bt,.ix 0,.ix 0,.ld (X5 e1415),.pure _ (AV.tup [(X0d v1430.1),(aI .i64 v1430.2)]),Bf,.ix 0,.ld (X5 e1415)] (o:=by repeat' first|apply Ya|exact pcM|exact(List.getElem?_set_self (by have hq:=X2g h1416;simp;omega)).trans rfl|exact X0k) ?_
     intro h
     refine X2.round ?_
     revert h
     refine bI fun v1435 h1436=>rnI [Bt,.ix 1,.ix 1,.ld (X5 (X8.mk e1415.Key e1415.Span (V2.mk v1430.1 e1415.Values.e1))),.pure _ (AV.tup [(X0d v1435.1),(aI .i64 v1435.2)])] (o:=by repeat' first|apply Ya|exact pcM|exact(List.getElem?_set_self (by have hq:=X2g h1416;simp;omega)).trans rfl|exact X0k) ?_
     refine brI (fun h1437=>?_) fun h1437=>?_
     ·
      intro h
      simp only[Option.some.injEq,Prod.mk.injEq] at h
      obtain⟨rfl,rfl⟩:=h
      refine X10 [Bt] (o:=by repeat' first|apply Ya|exact pcM|exact(List.getElem?_set_self (by have hq:=X2g h1416;simp;omega)).trans rfl|exact X0k) ?_
      refine X2.back (by intro id h;cases h) rfl ?_
      exact wkT [(5,3)] ((J nbF))
     refine rnI [Bf,.ix 1,.ld (X5 (X8.mk e1415.Key e1415.Span (V2.mk v1430.1 e1415.Values.e1)))] (o:=by repeat' first|apply Ya|exact pcM|exact(List.getElem?_set_self (by have hq:=X2g h1416;simp;omega)).trans rfl|exact X0k) ?_
     intro h
     refine X2.round ?_
     simp only[Option.some.injEq,Prod.mk.injEq] at h
     obtain⟨rfl,rfl⟩:=h
     refine X10 [Bf] (o:=by repeat' first|apply Ya|exact pcM|exact(List.getElem?_set_self (by have hq:=X2g h1416;simp;omega)).trans rfl|exact X0k) ?_
     refine X2.back (by intro id h;cases h) rfl ?_
     exact wkT [(5,3)] ((J nbF))
    refine bI fun e1440 h1441=>?_
    try have qh1441:=Xn h1441
    refine bI fun w1452 h1463=>?_
    intro h
    obtain⟨X064,X065⟩:=w1452
    try dsimp only at h
    refine X10 [Bf,.el (X5 e1440),.ld (X5 e1440)] ?_
    refine X2.joinOp (s':=⟨fr [(0,(AV.ref 3 0 (X0h.length))),(3,(AV.ptr 4 0 0)),(6,(aI .i64 Xgj)),(23,(aI .i64 X065))],hp ([(3,Ob (X0h.map X5) 11),(4,Ob [(X5 X064)] 11)]),5⟩) ?_ (fun J=>?_)
    ·
     revert h
     refine brI (fun h1464=>fun e=>X9 [Bt] (k:=wkT [] (C0 _ _  nbS (oj e).symm))) fun h1464=>bI fun m1465 h1466=>rnI [Bf,.el (X5 e1440),.ld (X5 e1440),.el (X5 e1440),.ld (X5 e1440),.wrap] ?_
     intro h
     refine X2.hcall rfl rfl rfl rfl rfl trivial trivial (X06n ⟨_,_,X0eg⟩ (f:=X5) (l:=X0h) h1466 rfl rfl (by first|rfl|simp)) ?_
     exact X9 [] (k:=wkT [(3,28)] (ih  _ _ nbF o h C0))
    clear h;revert h1463
    intro h
    refine X2.inline Xa X09x rfl rfl rfl rfl rfl trivial trivial rfl rfl ?_
    refine X10 [] ?_
    refine X2.round ?_
    revert h
    refine bI fun v1455 h1456=>brI (fun h1457=>?_) fun h1457=>?_
    ·
     intro h
     simp only[Option.some.injEq,Prod.mk.injEq] at h
     obtain⟨rfl,rfl⟩:=h
     refine X10 [Bt,.ix 0,.ix 0,.pure _ (AV.tup [(X0d v1455.1),(aI .i64 v1455.2)]),Bt] ?_
     refine X2.back (by intro id h;cases h) rfl ?_
     exact wkT [] (J)
    refine rnI [Bt,.ix 0,.ix 0,.pure _ (AV.tup [(X0d v1455.1),(aI .i64 v1455.2)]),Bf,.ix 0] ?_
    intro h
    refine X2.round ?_
    revert h
    refine bI fun v1460 h1461=>brI (fun h1462=>?_) fun h1462=>?_
    ·
     intro h
     simp only[Option.some.injEq,Prod.mk.injEq] at h
     obtain⟨rfl,rfl⟩:=h
     refine X10 [Bt,.ix 1,.ix 1,.pure _ (AV.tup [(X0d v1460.1),(aI .i64 v1460.2)]),Bt] ?_
     refine X2.back (by intro id h;cases h) rfl ?_
     exact wkT [] (J)
    refine rnI [Bt,.ix 1,.ix 1,.pure _ (AV.tup [(X0d v1460.1),(aI .i64 v1460.2)]),Bf,.ix 1] ?_
    intro h
    refine X2.round ?_
    simp only[Option.some.injEq,Prod.mk.injEq] at h
    obtain⟨rfl,rfl⟩:=h
    refine X10 [Bf] ?_
    refine X2.back (by intro id h;cases h) rfl ?_
    exact wkT [] (J)
   clear h;revert h1344
   intro h
   refine X2.inline Xa X0bs rfl rfl rfl rfl rfl trivial trivial rfl rfl ?_
   revert h
   refine bI fun u1330 h1331=>?_
   have qh1331:=X08 h1331
   refine bI fun o1342 h1343=>rnI [.el (aI .i64 (X0h.length:Int))] ?_
   intro h
   refine wkT [] (X2.cut (X1i X0h X1a nbF qh1331 X0h 0 (by simp) _ h1343 ?_ ?_))
   ·
    intro eo1342;subst eo1342
    refine X2.glue ?_
    try dsimp only at h
    obtain rfl:=oj h
    refine X10 [] ?_
    refine X2.back (by intro id h;cases h) rfl ?_
    exact wkT [] (J)
   intro X6z eo1342;subst eo1342
   refine X2.glue ?_
   try dsimp only at h
   obtain rfl:=oj h
   refine X10 [] ?_
   refine X2.back (by intro id h;cases h) rfl ?_
   exact wkT [] (J)
  obtain rfl:=X5n rfl
  refine X2.round ?_
  revert h
  refine bI fun X063 h1502=>rnI [] ?_
  intro h
  refine X2.joinOp (s':=⟨fr [(0,AV.nils),(3,(AV.ptr 4 0 0)),(10,(aI .i64 X063))],hp ([(4,Ob [(X5 X1a)] 11)]),5⟩) ?_ (fun J=>?_)
  ·
   revert h
   refine brI (fun h1503=>?_) fun h1503=>?_
   ·
    refine bI fun w1524 h1545=>?_
    intro h
    obtain⟨Xpw,Xy5⟩:=w1524
    try dsimp only at h
    refine X10 [Bt] ?_
    refine X2.joinOpF (fun(q:Nb Xpw)=>⟨fr [(15,(AV.tup [(slE q.1 3 (Xpw.map X5)),(aI .i64 Xy5)]))],hp ([]++opE q.1 3 11 (Xpw.map X5)),4⟩) ?_ (fun J=>?_)
    ·
     rintro Xtu
     rcases Xtu with ⟨_|_,Xv8⟩
     ·
      revert h
      exact fun e=>X9 [] (k:=wkT [] (C0 _ _  nbF (oj e).symm))
     obtain rfl:=Xv8 rfl
     revert h
     exact fun e=>X9 [] (k:=wkT [] (C0 _ _  nbS (oj e).symm))
    clear h;revert h1545
    intro h
    refine X2.inline Xa fn84 rfl rfl rfl rfl rfl trivial trivial rfl rfl ?_
    revert h
    refine bI fun v1525 h1526=>brI (fun h1527=>?_) fun h1527=>?_
    ·
     refine brI (fun h1528=>?_) fun h1528=>?_
     ·
      refine bI fun _ h1540=>rnI [.pure [(Lf (List.map X5 ([]:List X8))),(X5 X1a),(AV.fn 110 [])] (AV.tup [(aI .i64 v1525.1),(aB v1525.2)]),Bt] (o:=by repeat' first|apply Ya|exact pcM|exact(pn (Xt _ _ _ h1526) (cc (Zn X5) (cc (X9r (x:=X1a)) (cc .fn0 cn))))|exact X0k) ?_
      intro h
      refine X2.joinOp (s':=⟨fr [(21,(AV.ref 5 0 (List.length (([]:List X8)++[X1a]))))],hp ([(5,Ob (List.map X5 (([]:List X8)++[X1a])) 11)]),6⟩) ?_ (fun J=>?_)
      ·
       simp only[Option.some.injEq,Prod.mk.injEq] at h
       obtain⟨rfl,rfl⟩:=h
       refine X10 [] ?_
       refine X2.back (by intro id h;cases h) rfl ?_
       exact wkT [(3,5)] ((J nbF))
      clear h;revert h1540
      intro h
      refine X2.inline Xa Xyu rfl rfl rfl rfl rfl trivial trivial rfl rfl ?_
      revert h
      refine bI fun m1535 h1536=>?_
      obtain⟨qah1536,qbh1536,qch1536,qh1536⟩:=X3q h1536
      obtain rfl:=Xau h1536
      refine brI (fun h1537=>?_) fun h1537=>?_
      ·
       refine bI fun u1538 h1539=>rnI [Bf,.el (aI .i64 (List.length ([]:List X8):Int)),Bt,.no] (o:=by repeat' first|apply Ya|exact pcM|(simp at qah1536 qbh1536 qch1536 ⊢;omega)|(refine X0a h1539 rfl ?_;first|(simp;done)|(simp;omega)|(simp[h1503,h1527,h1528,h1537];done)|(simp[h1503,h1527,h1528,h1537];omega))|(refine Xs h1539 (by decide) ?_;first|(simp;done)|(simp;omega)|(simp[h1503,h1527,h1528,h1537];done)|(simp[h1503,h1527,h1528,h1537];omega))|exact X0k) ?_
       intro h
       refine X2.back (by intro id h;cases h) rfl ?_
       exact wkT [(5,7)] (J)
      intro h
      exact absurd h1537 (by simp)
     refine bI fun m1541 h1542=>?_
     intro h
     exact absurd h1542 (by simp[Xy7])
    refine rnI [.pure [(Lf (List.map X5 ([]:List X8))),(X5 X1a),(AV.fn 110 [])] (AV.tup [(aI .i64 v1525.1),(aB v1525.2)]),Bf,.stop 4] (o:=by repeat' first|apply Ya|exact pcM|exact(pn (Xt _ _ _ h1526) (cc (Zn X5) (cc (X9r (x:=X1a)) (cc .fn0 cn))))|exact X0k) ?_
    refine bI fun e1543 h1544=>?_
    try have qh1544:=Xn h1544
    intro h
    exact absurd (h1544) (by simp[X1p])
   refine bI fun e1546 h1547=>?_
   try have qh1547:=Xn h1547
   intro h
   exact absurd (h1547) (by simp[X1p])
  clear h;revert h1502
  intro h
  refine X2.inline Xa X0bs rfl rfl rfl rfl rfl trivial trivial rfl rfl ?_
  revert h
  refine bI fun u1490 h1491=>?_
  have qh1491:=X08 h1491
  refine bI fun o1500 h1501=>rnI [.el (aI .i64 (List.length ([]:List X8):Int))] ?_
  intro h
  refine wkT [] (X2.cut (X1i ([]:List X8) X1a nbS qh1491 ([]:List X8) 0 (by simp) _ h1501 ?_ ?_))
  ·
   intro eo1500;subst eo1500
   refine X2.glue ?_
   try dsimp only at h
   obtain rfl:=oj h
   refine X10 [] ?_
   refine X2.back (by intro id h;cases h) rfl ?_
   exact wkT [] (J)
  intro X6z eo1500;subst eo1500
  refine X2.glue ?_
  try dsimp only at h
  obtain rfl:=oj h
  refine X10 [] ?_
  refine X2.back (by intro id h;cases h) rfl ?_
  exact wkT [] (J)
theorem Xfa {Q:X02->St->Mu->Prop} {μ:Mu} (Xix:(List Xr)) (hl:Xix.length<=140737488355328):∀ (xs:List Xr) (k:Nat) (hx:Xix.drop k=xs) (Xf:X8) (Xi:(List X8)) (Xl:Nb Xi) (o:X9s) (h:X5a Xix xs k Xf Xi=some o)
  (C0:∀ (Xe:(List X8)) (Xj:Nb Xe),o=X9s.x0 Xe->X2 Tryz.prog 112 0 Q (.exit (.exit 0)) [] ⟨fr [(13,(slE Xj.1 0 (Xe.map X5)))],hp ([]++opE Xj.1 0 11 (Xe.map X5)),1⟩ μ)
  (C1:∀ (X0e:(List X8)) (Xld:Int) (X0c:Nb X0e),o=X9s.x1 X0e Xld->X2 Tryz.prog 112 0 Q (.exit .ret) [] ⟨fr [(8,(slE X0c.1 0 (X0e.map X5))),(9,(aI .i64 Xld))],hp ([]++opE X0c.1 0 11 (X0e.map X5)),1⟩ μ),
  X2 Tryz.prog 112 0 Q (.loop (X2v 0 (Xh Tryz.f51))) [] ⟨fr [(12,(AV.ptr 0 0 0)),(13,(slE Xl.1 1 (Xi.map X5))),(91,(AV.list true (Xix.map X3))),(92,(aI .i64 (Xix.length:Int))),(93,(aI .i64 (k:Int)))],hp ([(0,Ob [(X5 Xf)] 11)]++opE Xl.1 1 11 (Xi.map X5)),2⟩ μ:=by
 intro xs
 induction xs with
 |nil =>
  intro k hx Xf Xi Xl o h C0 C1
  have hk:=drop_nil hx
  have hc:decide ((k:Int)<(Xix.length:Int))=false:=Yf (by omega)
  rw[X5a] at h
  rcases Xl with ⟨_|_,X04⟩
  ·
   refine X2.round ?_
   revert h
   exact fun e=>X9 [Bf] (k:=wkT [(0,1)] (C0 _  nbF (oj e).symm))
  ·
   obtain rfl:=X04 rfl
   refine X2.round ?_
   revert h
   exact fun e=>X9 [Bf] (k:=wkT [] (C0 _  nbS (oj e).symm))
 |cons x xs ih =>
  intro k hx Xf Xi Xl o h C0 C1
  obtain⟨hk,hg,hx1⟩:=drop_cons hx
  have hc:decide ((k:Int)<(Xix.length:Int))=true:=Yt (by omega)
  rw[X5a] at h
  rcases Xl with ⟨_|_,X04⟩
  ·
   refine X2.round ?_
   revert h
   refine bI fun w1890 h1937=>?_
   intro h
   obtain⟨X062,Xpu,Xuv⟩:=w1890
   try dsimp only at h
   refine X10 [Bt,.el (X3 x)] ?_
   refine X2.joinOpF (fun(q:Nb Xpu)=>⟨fr [(12,(AV.ptr 0 0 0)),(91,(AV.list true (Xix.map X3))),(92,(aI .i64 (Xix.length:Int))),(93,(aI .i64 (k:Int))),(101,(AV.tup [(slE q.1 1 (Xpu.map X5)),(aI .i64 Xuv)]))],hp ([(0,Ob [(X5 X062)] 11)]++opE q.1 1 11 (Xpu.map X5)),2⟩) ?_ (fun J=>?_)
   ·
    rintro Xtt
    rcases Xtt with ⟨_|_,Xv7⟩
    ·
     revert h
     refine brI (fun h1938=>fun e=>X9 [Bt] (k:=wkT [] (C1 _ _  nbS (oj e).symm))) fun h1938=>rnI [Bf] ?_
     intro h
     exact wkT [] (ih (k+1) hx1 _ _ nbF o h C0 C1)
    obtain rfl:=Xv7 rfl
    revert h
    refine brI (fun h1939=>fun e=>X9 [Bt] (k:=wkT [] (C1 _ _  nbS (oj e).symm))) fun h1939=>rnI [Bf] ?_
    intro h
    exact wkT [] (ih (k+1) hx1 _ _ nbS o h C0 C1)
   clear h;revert h1937
   intro h
   refine X2.inline Xa fn84 rfl rfl rfl rfl rfl trivial trivial rfl rfl ?_
   revert h
   refine bI fun v1891 h1892=>rnI [.pure [(Lf (Xi.map X5)),(X5 (X8.mk Xf.Key x Xf.Values)),(AV.fn 110 [])] (AV.tup [(aI .i64 v1891.1),(aB v1891.2)])] (o:=by repeat' first|apply Ya|exact pcM|exact(X5s.lent (Xt _ _ _ h1892) (cc (Xss (es:=Xi.map X5) rfl (by first|rfl|(simp;done)|(simp;rfl)|(simp[hc];done)|(simp[hc];rfl)|(simp[hc,Ym,Yd];done)|(simp[hc,Ym,Yd];rfl)) (by first|rfl|(simp;done)|(simp;omega)|(simp[hc];done)|(simp[hc];omega)) (X1x X7s Xi)) (cc (X9r (x:=(X8.mk Xf.Key x Xf.Values))) (cc .fn0 cn))) (Xra (X1d .sc (X1d .sc X8w))))|exact X0k) ?_
   refine brI (fun h1893=>?_) fun h1893=>?_
   ·
    refine brI (fun h1894=>?_) fun h1894=>?_
    ·
     refine bI fun _ h1910=>rnI [Bt] ?_
     intro h
     refine X2.joinOp (s':=⟨fr [(21,(AV.ref 2 0 (List.length (Xi++[(X8.mk Xf.Key x Xf.Values)]))))],hp ([(0,Ob [(X5 (X8.mk Xf.Key x Xf.Values))] 11),(2,Ob (List.map X5 (Xi++[(X8.mk Xf.Key x Xf.Values)])) 11)]),3⟩) ?_ (fun J=>?_)
     ·
      simp only[Option.some.injEq,Prod.mk.injEq] at h
      obtain⟨rfl,rfl,rfl⟩:=h
      refine X10 [] ?_
      refine X2.back (by intro id h;cases h) rfl ?_
      exact wkT [(1,2)] ((J nbF))
     clear h;revert h1910
     intro h
     refine X2.inline Xa Xyu rfl rfl rfl rfl rfl trivial trivial rfl rfl ?_
     revert h
     refine bI fun m1903 h1904=>?_
     obtain⟨qah1904,qbh1904,qch1904,qh1904⟩:=X3q h1904
     have qlh1904:=X7w h1904
     refine brI (fun h1905=>?_) fun h1905=>?_
     ·
      refine bI fun u1906 h1907=>rnI [.ne false,Bf,.el (aI .i64 (Xi.length:Int)),Bt,.no] (o:=by repeat' first|apply Ya|exact pcM|(simp at qah1904 qbh1904 qch1904 ⊢;omega)|(simp at qah1904 qbh1904 qch1904 qlh1904 ⊢;have qz:=X3r h1905;omega)|(refine X0a h1907 rfl ?_;first|(simp;done)|(simp;omega)|(simp[hc,h1893,h1894,h1905];done)|(simp[hc,h1893,h1894,h1905];omega))|(refine Xs h1907 (by decide) ?_;first|(simp;done)|(simp;omega)|(simp[hc,h1893,h1894,h1905];done)|(simp[hc,h1893,h1894,h1905];omega))|exact X0k) ?_
      intro h
      refine X2.back (by intro id h;cases h) rfl ?_
      exact wkT [(2,4)] (J)
     refine bI fun u1908 h1909=>rnI [.via (.ref 1 (Int.toNat v1891.1) (m1903.length)),Bf,.el (aI .i64 (Xi.length:Int)),Bt,.no] (o:=by repeat' first|apply Ya|exact pcM|(simp at qah1904 qbh1904 qch1904 ⊢;omega)|(simp at qah1904 qbh1904 qch1904 qlh1904 ⊢;have qz:=X16 h1905;omega)|(simp at qah1904 qbh1904 qch1904 qlh1904 ⊢;omega)|(simp;done)|(refine X0a h1909 rfl ?_;first|(simp;done)|(simp;omega)|(simp[hc,h1893,h1894,h1905];done)|(simp[hc,h1893,h1894,h1905];omega))|(refine Xs h1909 (by decide) ?_;first|(simp;done)|(simp;omega)|(simp[hc,h1893,h1894,h1905];done)|(simp[hc,h1893,h1894,h1905];omega))|exact X0k) ?_
     intro h
     refine X2.back (by intro id h;cases h) rfl ?_
     exact wkT [(2,4)] (J)
    refine bI fun m1911 h1912=>rnI [Bt] ?_
    intro h
    refine X2.hcall rfl rfl rfl rfl rfl trivial trivial (Xwf ⟨_,_,Xyu⟩ (f:=X5) (l:=Xi) (x:=(X8.mk Xf.Key x Xf.Values)) h1912 rfl rfl rfl (by first|rfl|simp)) ?_
    simp only[Option.some.injEq,Prod.mk.injEq] at h
    obtain⟨rfl,rfl,rfl⟩:=h
    refine X10 [] ?_
    refine X2.back (by intro id h;cases h) rfl ?_
    exact wkT [(1,4)] ((J nbF))
   refine rnI [Bf,.stop 4] ?_
   refine bI fun e1913 h1914=>?_
   try have qh1914:=Xn h1914
   intro h
   refine X2.drawnCut 5 tmD [.el (X5 e1913)] rfl rfl rfl rfl rfl (by repeat' first|apply Ya|exact X0k) ?_
   revert h
   refine bI fun w1925 h1936=>?_
   intro h
   obtain⟨Xpt,X061⟩:=w1925
   try dsimp only at h
   refine X10 [] ?_
   refine X2.joinOpF (fun(q:Nb Xpt)=>⟨fr [(0,(slE q.1 2 (Xpt.map X5))),(27,(aI .i64 X061))],hp ([(0,Ob [(X5 (X8.mk Xf.Key x Xf.Values))] 11)]++opE q.1 2 11 (Xpt.map X5)),3⟩) ?_ (fun J=>?_)
   ·
    rintro Xts
    rcases Xts with ⟨_|_,Xv6⟩
    ·
     simp only[Option.some.injEq,Prod.mk.injEq] at h
     obtain⟨rfl,rfl,rfl⟩:=h
     refine X10 [] ?_
     refine X2.back (by intro id h;cases h) rfl ?_
     exact wkT [(1,2)] ((J nbF))
    obtain rfl:=Xv6 rfl
    simp only[Option.some.injEq,Prod.mk.injEq] at h
    obtain⟨rfl,rfl,rfl⟩:=h
    refine X10 [] ?_
    refine X2.back (by intro id h;cases h) rfl ?_
    exact wkT [] ((J nbS))
   clear h;revert h1936
   intro h
   refine X2.inline Xa X09x rfl rfl rfl rfl rfl trivial trivial rfl rfl ?_
   refine X10 [] ?_
   refine X2.round ?_
   revert h
   refine bI fun v1928 h1929=>brI (fun h1930=>?_) fun h1930=>?_
   ·
    intro h
    simp only[Option.some.injEq,Prod.mk.injEq] at h
    obtain⟨rfl,rfl⟩:=h
    refine X10 [Bt,.ix 0,.ix 0,.ld (X5 e1913),.pure _ (AV.tup [(X0d v1928.1),(aI .i64 v1928.2)]),Bt] ?_
    refine X2.back (by intro id h;cases h) rfl ?_
    exact wkT [(2,1)] ((J nbF))
   refine rnI [Bt,.ix 0,.ix 0,.ld (X5 e1913),.pure _ (AV.tup [(X0d v1928.1),(aI .i64 v1928.2)]),Bf,.ix 0,.ld (X5 e1913)] (o:=by repeat' first|apply Ya|exact pcM|exact(List.getElem?_set_self (by have hq:=X2g h1914;simp;omega)).trans rfl|exact X0k) ?_
   intro h
   refine X2.round ?_
   revert h
   refine bI fun v1933 h1934=>rnI [Bt,.ix 1,.ix 1,.ld (X5 (X8.mk e1913.Key e1913.Span (V2.mk v1928.1 e1913.Values.e1))),.pure _ (AV.tup [(X0d v1933.1),(aI .i64 v1933.2)])] (o:=by repeat' first|apply Ya|exact pcM|exact(List.getElem?_set_self (by have hq:=X2g h1914;simp;omega)).trans rfl|exact X0k) ?_
   refine brI (fun h1935=>?_) fun h1935=>?_
   ·
    intro h
    simp only[Option.some.injEq,Prod.mk.injEq] at h
    obtain⟨rfl,rfl⟩:=h
    refine X10 [Bt] (o:=by repeat' first|apply Ya|exact pcM|exact(List.getElem?_set_self (by have hq:=X2g h1914;simp;omega)).trans rfl|exact X0k) ?_
    refine X2.back (by intro id h;cases h) rfl ?_
    exact wkT [(2,1)] ((J nbF))
   refine rnI [Bf,.ix 1,.ld (X5 (X8.mk e1913.Key e1913.Span (V2.mk v1928.1 e1913.Values.e1)))] (o:=by repeat' first|apply Ya|exact pcM|exact(List.getElem?_set_self (by have hq:=X2g h1914;simp;omega)).trans rfl|exact X0k) ?_
   intro h
   refine X2.round ?_
   simp only[Option.some.injEq,Prod.mk.injEq] at h
   obtain⟨rfl,rfl⟩:=h
   refine X10 [Bf] (o:=by repeat' first|apply Ya|exact pcM|exact(List.getElem?_set_self (by have hq:=X2g h1914;simp;omega)).trans rfl|exact X0k) ?_
   refine X2.back (by intro id h;cases h) rfl ?_
   exact wkT [(2,1)] ((J nbF))
  obtain rfl:=X04 rfl
  refine X2.round ?_
  revert h
  refine bI fun w1960 h1981=>?_
  intro h
  obtain⟨X060,Xps,Xuu⟩:=w1960
  try dsimp only at h
  refine X10 [Bt,.el (X3 x)] ?_
  refine X2.joinOpF (fun(q:Nb Xps)=>⟨fr [(12,(AV.ptr 0 0 0)),(91,(AV.list true (Xix.map X3))),(92,(aI .i64 (Xix.length:Int))),(93,(aI .i64 (k:Int))),(101,(AV.tup [(slE q.1 1 (Xps.map X5)),(aI .i64 Xuu)]))],hp ([(0,Ob [(X5 X060)] 11)]++opE q.1 1 11 (Xps.map X5)),2⟩) ?_ (fun J=>?_)
  ·
   rintro Xtr
   rcases Xtr with ⟨_|_,Xv5⟩
   ·
    revert h
    refine brI (fun h1982=>fun e=>X9 [Bt] (k:=wkT [] (C1 _ _  nbS (oj e).symm))) fun h1982=>rnI [Bf] ?_
    intro h
    exact wkT [] (ih (k+1) hx1 _ _ nbF o h C0 C1)
   obtain rfl:=Xv5 rfl
   revert h
   refine brI (fun h1983=>fun e=>X9 [Bt] (k:=wkT [] (C1 _ _  nbS (oj e).symm))) fun h1983=>rnI [Bf] ?_
   intro h
   exact wkT [] (ih (k+1) hx1 _ _ nbS o h C0 C1)
  clear h;revert h1981
  intro h
  refine X2.inline Xa fn84 rfl rfl rfl rfl rfl trivial trivial rfl rfl ?_
  revert h
  refine bI fun v1961 h1962=>rnI [.pure [(Lf (List.map X5 ([]:List X8))),(X5 (X8.mk Xf.Key x Xf.Values)),(AV.fn 110 [])] (AV.tup [(aI .i64 v1961.1),(aB v1961.2)])] (o:=by repeat' first|apply Ya|exact pcM|exact(pn (Xt _ _ _ h1962) (cc (Zn X5) (cc (X9r (x:=(X8.mk Xf.Key x Xf.Values))) (cc .fn0 cn))))|exact X0k) ?_
  refine brI (fun h1963=>?_) fun h1963=>?_
  ·
   refine brI (fun h1964=>?_) fun h1964=>?_
   ·
    refine bI fun _ h1976=>rnI [Bt] ?_
    intro h
    refine X2.joinOp (s':=⟨fr [(21,(AV.ref 2 0 (List.length (([]:List X8)++[(X8.mk Xf.Key x Xf.Values)]))))],hp ([(0,Ob [(X5 (X8.mk Xf.Key x Xf.Values))] 11),(2,Ob (List.map X5 (([]:List X8)++[(X8.mk Xf.Key x Xf.Values)])) 11)]),3⟩) ?_ (fun J=>?_)
    ·
     simp only[Option.some.injEq,Prod.mk.injEq] at h
     obtain⟨rfl,rfl,rfl⟩:=h
     refine X10 [] ?_
     refine X2.back (by intro id h;cases h) rfl ?_
     exact wkT [(1,2)] ((J nbF))
    clear h;revert h1976
    intro h
    refine X2.inline Xa Xyu rfl rfl rfl rfl rfl trivial trivial rfl rfl ?_
    revert h
    refine bI fun m1971 h1972=>?_
    obtain⟨qah1972,qbh1972,qch1972,qh1972⟩:=X3q h1972
    obtain rfl:=Xau h1972
    refine brI (fun h1973=>?_) fun h1973=>?_
    ·
     refine bI fun u1974 h1975=>rnI [Bf,.el (aI .i64 (List.length ([]:List X8):Int)),Bt,.no] (o:=by repeat' first|apply Ya|exact pcM|(simp at qah1972 qbh1972 qch1972 ⊢;omega)|(refine X0a h1975 rfl ?_;first|(simp;done)|(simp;omega)|(simp[hc,h1963,h1964,h1973];done)|(simp[hc,h1963,h1964,h1973];omega))|(refine Xs h1975 (by decide) ?_;first|(simp;done)|(simp;omega)|(simp[hc,h1963,h1964,h1973];done)|(simp[hc,h1963,h1964,h1973];omega))|exact X0k) ?_
     intro h
     refine X2.back (by intro id h;cases h) rfl ?_
     exact wkT [(2,4)] (J)
    intro h
    exact absurd h1973 (by simp)
   refine bI fun m1977 h1978=>?_
   intro h
   exact absurd h1978 (by simp[Xy7])
  refine rnI [Bf,.stop 4] ?_
  refine bI fun e1979 h1980=>?_
  try have qh1980:=Xn h1980
  intro h
  exact absurd (h1980) (by simp[X1p])
end Go.Av.Tryz