/- Printed by decomp.py: that the program computes the functions. -/
import Derived.Test.YtfdfgobnpnoomaaGreatDCert6Z
set_option linter.all false

namespace Go.Av.Tryz
open Go.Proofs Go.D
set_option maxRecDepth 10000
set_option maxHeartbeats 40000000
theorem X6a {Q:X07->St->Mu->Prop} {μ:Mu}:∀ (n:Nat) (X1b:(List Xa)) (X1q:Xa) (X3q:Nb X1b) (o:X48) (h:X1r  n X1b X1q=some o)
  (C0:∀ (X4w:(List Xa)) (Xa8:Int) (X3i:Nb X4w),o=X48.x0 X4w Xa8->X3 Tryz.prog 54 3 Q (.exit .ret) [] ⟨fr [(4,(slE X3i.1 3 (X4w.map X9))),(5,(aI .i64 Xa8))],hp ([]++opE X3i.1 3 11 (X4w.map X9)),4⟩ μ),
  X3 Tryz.prog 54 3 Q (.loop (X4t 0 (Xu Tryz.f82))) [] ⟨fr [(0,(slE X3q.1 3 (X1b.map X9))),(3,(AV.ptr 4 0 0))],hp ([(4,Ob [(X9 X1q)] 11)]++opE X3q.1 3 11 (X1b.map X9)),5⟩ μ:=by
 intro n
 induction n with
 |zero=>intro X1b X1q X3q o h C0;cases h
 |succ n ih =>
  intro X1b X1q X3q o h C0
  rw[X1r] at h
  rcases X3q with ⟨_|_,Xc2⟩
  ·
   refine X3.round ?_
   revert h
   refine bI fun Xdk h1344=>rnI [] ?_
   intro h
   refine X3.joinOp (s':=⟨fr [(0,(AV.ref 3 0 (X1b.length))),(3,(AV.ptr 4 0 0)),(10,(aI .i64 Xdk))],hp ([(3,Ob (X1b.map X9) 11),(4,Ob [(X9 X1q)] 11)]),5⟩) ?_ (fun J=>?_)
   ·
    revert h
    refine brI (fun h1345=>?_) fun h1345=>?_
    ·
     refine bI fun w1392 h1439=>?_
     intro h
     obtain⟨Xm0,Xts⟩:=w1392
     try dsimp only at h
     refine X0l [Bt] ?_
     refine X3.joinOpF (fun(q:Nb Xm0)=>⟨fr [(15,(AV.tup [(slE q.1 3 (Xm0.map X9)),(aI .i64 Xts)]))],hp ([]++opE q.1 3 11 (Xm0.map X9)),4⟩) ?_ (fun J=>?_)
     ·
      rintro Xpk
      rcases Xpk with ⟨_|_,Xr5⟩
      ·
       revert h
       exact fun e=>Xc [] (k:=wkT [] (C0 _ _  nbF (oj e).symm))
      obtain rfl:=Xr5 rfl
      revert h
      exact fun e=>Xc [] (k:=wkT [] (C0 _ _  nbS (oj e).symm))
     clear h;revert h1439
     intro h
     refine X3.inline Xh fn84 rfl rfl rfl rfl rfl trivial trivial rfl rfl ?_
     revert h
     refine bI fun v1393 h1394=>brI (fun h1395=>?_) fun h1395=>?_
     ·
      refine brI (fun h1396=>?_) fun h1396=>?_
      ·
       refine bI fun _ h1412=>rnI [.pure [(Lf (X1b.map X9)),(X9 X1q),(AV.fn 110 [])] (AV.tup [(aI .i64 v1393.1),(aB v1393.2)]),Bt] (o:=by repeat' first|apply Ya|exact pcM|exact(X69.lent (Xy _ _ _ h1394) (cc (Xny (es:=X1b.map X9) rfl (by first|rfl|(simp;done)|(simp;rfl)|(simp[h1345];done)|(simp[h1345];rfl)|(simp[h1345,Ym,Yd];done)|(simp[h1345,Ym,Yd];rfl)) (by first|rfl|(simp;done)|(simp;omega)|(simp[h1345];done)|(simp[h1345];omega)) (X04 X6x X1b)) (cc (X8f (x:=X1q)) (cc .fn0 cn))) (Xn2 (X27 .sc (X27 .sc Xal))))|exact Xw) ?_
       intro h
       refine X3.joinOp (s':=⟨fr [(21,(AV.ref 5 0 (List.length (X1b++[X1q]))))],hp ([(5,Ob (List.map X9 (X1b++[X1q])) 11)]),6⟩) ?_ (fun J=>?_)
       ·
        simp only[Option.some.injEq,Prod.mk.injEq] at h
        obtain⟨rfl,rfl⟩:=h
        refine X0l [] ?_
        refine X3.back (by intro id h;cases h) rfl ?_
        exact wkT [(3,5)] ((J nbF))
       clear h;revert h1412
       intro h
       refine X3.inline Xh Xuf rfl rfl rfl rfl rfl trivial trivial rfl rfl ?_
       revert h
       refine bI fun m1405 h1406=>?_
       obtain⟨qah1406,qbh1406,qch1406,qh1406⟩:=X37 h1406
       have qlh1406:=X70 h1406
       refine brI (fun h1407=>?_) fun h1407=>?_
       ·
        refine bI fun u1408 h1409=>rnI [.ne false,Bf,.el (aI .i64 (X1b.length:Int)),Bt,.no] (o:=by repeat' first|apply Ya|exact pcM|(simp at qah1406 qbh1406 qch1406 ⊢;omega)|(simp at qah1406 qbh1406 qch1406 qlh1406 ⊢;have qz:=X38 h1407;omega)|(refine X8 h1409 rfl ?_;first|(simp;done)|(simp;omega)|(simp[h1345,h1395,h1396,h1407];done)|(simp[h1345,h1395,h1396,h1407];omega))|(refine X2 h1409 (by decide) ?_;first|(simp;done)|(simp;omega)|(simp[h1345,h1395,h1396,h1407];done)|(simp[h1345,h1395,h1396,h1407];omega))|exact Xw) ?_
        intro h
        refine X3.back (by intro id h;cases h) rfl ?_
        exact wkT [(5,7)] (J)
       refine bI fun u1410 h1411=>rnI [.via (.ref 3 (Int.toNat v1393.1) (m1405.length)),Bf,.el (aI .i64 (X1b.length:Int)),Bt,.no] (o:=by repeat' first|apply Ya|exact pcM|(simp at qah1406 qbh1406 qch1406 ⊢;omega)|(simp at qah1406 qbh1406 qch1406 qlh1406 ⊢;have qz:=X18 h1407;omega)|(simp at qah1406 qbh1406 qch1406 qlh1406 ⊢;omega)|(simp;done)|(refine X8 h1411 rfl ?_;first|(simp;done)|(simp;omega)|(simp[h1345,h1395,h1396,h1407];done)|(simp[h1345,h1395,h1396,h1407];omega))|(refine X2 h1411 (by decide) ?_;first|(simp;done)|(simp;omega)|(simp[h1345,h1395,h1396,h1407];done)|(simp[h1345,h1395,h1396,h1407];omega))|exact Xw) ?_
       intro h
       refine X3.back (by intro id h;cases h) rfl ?_
       exact wkT [(5,7)] (J)
      refine bI fun m1413 h1414=>rnI [.pure [(Lf (X1b.map X9)),(X9 X1q),(AV.fn 110 [])] (AV.tup [(aI .i64 v1393.1),(aB v1393.2)]),Bt] (o:=by repeat' first|apply Ya|exact pcM|exact(X69.lent (Xy _ _ _ h1394) (cc (Xny (es:=X1b.map X9) rfl (by first|rfl|(simp;done)|(simp;rfl)|(simp[h1345];done)|(simp[h1345];rfl)|(simp[h1345,Ym,Yd];done)|(simp[h1345,Ym,Yd];rfl)) (by first|rfl|(simp;done)|(simp;omega)|(simp[h1345];done)|(simp[h1345];omega)) (X04 X6x X1b)) (cc (X8f (x:=X1q)) (cc .fn0 cn))) (Xn2 (X27 .sc (X27 .sc Xal))))|exact Xw) ?_
      intro h
      refine X3.hcall rfl rfl rfl rfl rfl trivial trivial (Xs9 ⟨_,_,Xuf⟩ (f:=X9) (l:=X1b) (x:=X1q) h1414 rfl rfl rfl (by first|rfl|simp)) ?_
      simp only[Option.some.injEq,Prod.mk.injEq] at h
      obtain⟨rfl,rfl⟩:=h
      refine X0l [] ?_
      refine X3.back (by intro id h;cases h) rfl ?_
      exact wkT [(3,7)] ((J nbF))
     refine rnI [.pure [(Lf (X1b.map X9)),(X9 X1q),(AV.fn 110 [])] (AV.tup [(aI .i64 v1393.1),(aB v1393.2)]),Bf,.stop 4] (o:=by repeat' first|apply Ya|exact pcM|exact(X69.lent (Xy _ _ _ h1394) (cc (Xny (es:=X1b.map X9) rfl (by first|rfl|(simp;done)|(simp;rfl)|(simp[h1345];done)|(simp[h1345];rfl)|(simp[h1345,Ym,Yd];done)|(simp[h1345,Ym,Yd];rfl)) (by first|rfl|(simp;done)|(simp;omega)|(simp[h1345];done)|(simp[h1345];omega)) (X04 X6x X1b)) (cc (X8f (x:=X1q)) (cc .fn0 cn))) (Xn2 (X27 .sc (X27 .sc Xal))))|exact Xw) ?_
     refine bI fun e1415 h1416=>?_
     try have qh1416:=Xn h1416
     intro h
     refine X3.drawnCut 5 tmD [.el (X9 e1415)] rfl rfl rfl rfl rfl (by repeat' first|apply Ya|exact Xw) ?_
     revert h
     refine bI fun w1427 h1438=>?_
     intro h
     obtain⟨Xlz,X00j⟩:=w1427
     try dsimp only at h
     refine X0l [] ?_
     refine X3.joinOpF (fun(q:Nb Xlz)=>⟨fr [(0,(slE q.1 5 (Xlz.map X9))),(27,(aI .i64 X00j))],hp ([]++opE q.1 5 11 (Xlz.map X9)),6⟩) ?_ (fun J=>?_)
     ·
      rintro Xpj
      rcases Xpj with ⟨_|_,Xr4⟩
      ·
       simp only[Option.some.injEq,Prod.mk.injEq] at h
       obtain⟨rfl,rfl⟩:=h
       refine X0l [] ?_
       refine X3.back (by intro id h;cases h) rfl ?_
       exact wkT [(3,5)] ((J nbF))
      obtain rfl:=Xr4 rfl
      simp only[Option.some.injEq,Prod.mk.injEq] at h
      obtain⟨rfl,rfl⟩:=h
      refine X0l [] ?_
      refine X3.back (by intro id h;cases h) rfl ?_
      exact wkT [] ((J nbS))
     clear h;revert h1438
     intro h
     refine X3.inline Xh X040 rfl rfl rfl rfl rfl trivial trivial rfl rfl ?_
     refine X0l [] ?_
     refine X3.round ?_
     revert h
     refine bI fun v1430 h1431=>brI (fun h1432=>?_) fun h1432=>?_
     ·
      intro h
      simp only[Option.some.injEq,Prod.mk.injEq] at h
      obtain⟨rfl,rfl⟩:=h
      refine X0l [Bt,.ix 0,.ix 0,.ld (X9 e1415),.pure _ (AV.tup [(X19 v1430.1),(aI .i64 v1430.2)]),Bt] ?_
      refine X3.back (by intro id h;cases h) rfl ?_
      exact wkT [(5,3)] ((J nbF))
     refine rnI [Bt,.ix 0,.ix 0,.ld (X9 e1415),.pure _ (AV.tup [(X19 v1430.1),(aI .i64 v1430.2)]),Bf,.ix 0,.ld (X9 e1415)] (o:=by repeat' first|apply Ya|exact pcM|exact(List.getElem?_set_self (by have hq:=X2j h1416;simp;omega)).trans rfl|exact Xw) ?_
     intro h
     refine X3.round ?_
     revert h
     refine bI fun v1435 h1436=>rnI [Bt,.ix 1,.ix 1,.ld (X9 (Xa.mk e1415.Key e1415.Span (V2.mk v1430.1 e1415.Values.e1))),.pure _ (AV.tup [(X19 v1435.1),(aI .i64 v1435.2)])] (o:=by repeat' first|apply Ya|exact pcM|exact(List.getElem?_set_self (by have hq:=X2j h1416;simp;omega)).trans rfl|exact Xw) ?_
     refine brI (fun h1437=>?_) fun h1437=>?_
     ·
      intro h
      simp only[Option.some.injEq,Prod.mk.injEq] at h
      obtain⟨rfl,rfl⟩:=h
      refine X0l [Bt] (o:=by repeat' first|apply Ya|exact pcM|exact(List.getElem?_set_self (by have hq:=X2j h1416;simp;omega)).trans rfl|exact Xw) ?_
      refine X3.back (by intro id h;cases h) rfl ?_
      exact wkT [(5,3)] ((J nbF))
     refine rnI [Bf,.ix 1,.ld (X9 (Xa.mk e1415.Key e1415.Span (V2.mk v1430.1 e1415.Values.e1)))] (o:=by repeat' first|apply Ya|exact pcM|exact(List.getElem?_set_self (by have hq:=X2j h1416;simp;omega)).trans rfl|exact Xw) ?_
     intro h
     refine X3.round ?_
     simp only[Option.some.injEq,Prod.mk.injEq] at h
     obtain⟨rfl,rfl⟩:=h
     refine X0l [Bf] (o:=by repeat' first|apply Ya|exact pcM|exact(List.getElem?_set_self (by have hq:=X2j h1416;simp;omega)).trans rfl|exact Xw) ?_
     refine X3.back (by intro id h;cases h) rfl ?_
     exact wkT [(5,3)] ((J nbF))
    refine bI fun e1440 h1441=>?_
    try have qh1441:=Xn h1441
    refine bI fun w1452 h1463=>?_
    intro h
    obtain⟨X00h,X00i⟩:=w1452
    try dsimp only at h
    refine X0l [Bf,.el (X9 e1440),.ld (X9 e1440)] ?_
    refine X3.joinOp (s':=⟨fr [(0,(AV.ref 3 0 (X1b.length))),(3,(AV.ptr 4 0 0)),(6,(aI .i64 Xdk)),(23,(aI .i64 X00i))],hp ([(3,Ob (X1b.map X9) 11),(4,Ob [(X9 X00h)] 11)]),5⟩) ?_ (fun J=>?_)
    ·
     revert h
     refine brI (fun h1464=>fun e=>Xc [Bt] (k:=wkT [] (C0 _ _  nbS (oj e).symm))) fun h1464=>bI fun m1465 h1466=>rnI [Bf,.el (X9 e1440),.ld (X9 e1440),.el (X9 e1440),.ld (X9 e1440),.wrap] ?_
     intro h
     refine X3.hcall rfl rfl rfl rfl rfl trivial trivial (X012 ⟨_,_,X081⟩ (f:=X9) (l:=X1b) h1466 rfl rfl (by first|rfl|simp)) ?_
     exact Xc [] (k:=wkT [(3,28)] (ih  _ _ nbF o h C0))
    clear h;revert h1463
    intro h
    refine X3.inline Xh X040 rfl rfl rfl rfl rfl trivial trivial rfl rfl ?_
    refine X0l [] ?_
    refine X3.round ?_
    revert h
    refine bI fun v1455 h1456=>brI (fun h1457=>?_) fun h1457=>?_
    ·
     intro h
     simp only[Option.some.injEq,Prod.mk.injEq] at h
     obtain⟨rfl,rfl⟩:=h
     refine X0l [Bt,.ix 0,.ix 0,.pure _ (AV.tup [(X19 v1455.1),(aI .i64 v1455.2)]),Bt] ?_
     refine X3.back (by intro id h;cases h) rfl ?_
     exact wkT [] (J)
    refine rnI [Bt,.ix 0,.ix 0,.pure _ (AV.tup [(X19 v1455.1),(aI .i64 v1455.2)]),Bf,.ix 0] ?_
    intro h
    refine X3.round ?_
    revert h
    refine bI fun v1460 h1461=>brI (fun h1462=>?_) fun h1462=>?_
    ·
     intro h
     simp only[Option.some.injEq,Prod.mk.injEq] at h
     obtain⟨rfl,rfl⟩:=h
     refine X0l [Bt,.ix 1,.ix 1,.pure _ (AV.tup [(X19 v1460.1),(aI .i64 v1460.2)]),Bt] ?_
     refine X3.back (by intro id h;cases h) rfl ?_
     exact wkT [] (J)
    refine rnI [Bt,.ix 1,.ix 1,.pure _ (AV.tup [(X19 v1460.1),(aI .i64 v1460.2)]),Bf,.ix 1] ?_
    intro h
    refine X3.round ?_
    simp only[Option.some.injEq,Prod.mk.injEq] at h
    obtain⟨rfl,rfl⟩:=h
    refine X0l [Bf] ?_
    refine X3.back (by intro id h;cases h) rfl ?_
    exact wkT [] (J)
   clear h;revert h1344
   intro h
   refine X3.inline Xh X061 rfl rfl rfl rfl rfl trivial trivial rfl rfl ?_
   revert h
   refine bI fun u1330 h1331=>?_
   have qh1331:=X0u h1331
   refine bI fun o1342 h1343=>rnI [.el (aI .i64 (X1b.length:Int))] ?_
   intro h
   refine wkT [] (X3.cut (X1j X1b X1q nbF qh1331 X1b 0 (by simp) _ h1343 ?_ ?_))
   ·
    intro eo1342;subst eo1342
    refine X3.glue ?_
    try dsimp only at h
    obtain rfl:=oj h
    refine X0l [] ?_
    refine X3.back (by intro id h;cases h) rfl ?_
    exact wkT [] (J)
   intro Xa7 eo1342;subst eo1342
   refine X3.glue ?_
   try dsimp only at h
   obtain rfl:=oj h
   refine X0l [] ?_
   refine X3.back (by intro id h;cases h) rfl ?_
   exact wkT [] (J)
  obtain rfl:=Xc2 rfl
  refine X3.round ?_
  revert h
  refine bI fun X00g h1502=>rnI [] ?_
  intro h
  refine X3.joinOp (s':=⟨fr [(0,AV.nils),(3,(AV.ptr 4 0 0)),(10,(aI .i64 X00g))],hp ([(4,Ob [(X9 X1q)] 11)]),5⟩) ?_ (fun J=>?_)
  ·
   revert h
   refine brI (fun h1503=>?_) fun h1503=>?_
   ·
    refine bI fun w1524 h1545=>?_
    intro h
    obtain⟨Xly,Xtr⟩:=w1524
    try dsimp only at h
    refine X0l [Bt] ?_
    refine X3.joinOpF (fun(q:Nb Xly)=>⟨fr [(15,(AV.tup [(slE q.1 3 (Xly.map X9)),(aI .i64 Xtr)]))],hp ([]++opE q.1 3 11 (Xly.map X9)),4⟩) ?_ (fun J=>?_)
    ·
     rintro Xpi
     rcases Xpi with ⟨_|_,Xr3⟩
     ·
      revert h
      exact fun e=>Xc [] (k:=wkT [] (C0 _ _  nbF (oj e).symm))
     obtain rfl:=Xr3 rfl
     revert h
     exact fun e=>Xc [] (k:=wkT [] (C0 _ _  nbS (oj e).symm))
    clear h;revert h1545
    intro h
    refine X3.inline Xh fn84 rfl rfl rfl rfl rfl trivial trivial rfl rfl ?_
    revert h
    refine bI fun v1525 h1526=>brI (fun h1527=>?_) fun h1527=>?_
    ·
     refine brI (fun h1528=>?_) fun h1528=>?_
     ·
      refine bI fun _ h1540=>rnI [.pure [(Lf (List.map X9 ([]:List Xa))),(X9 X1q),(AV.fn 110 [])] (AV.tup [(aI .i64 v1525.1),(aB v1525.2)]),Bt] (o:=by repeat' first|apply Ya|exact pcM|exact(pn (Xy _ _ _ h1526) (cc (Zn X9) (cc (X8f (x:=X1q)) (cc .fn0 cn))))|exact Xw) ?_
      intro h
      refine X3.joinOp (s':=⟨fr [(21,(AV.ref 5 0 (List.length (([]:List Xa)++[X1q]))))],hp ([(5,Ob (List.map X9 (([]:List Xa)++[X1q])) 11)]),6⟩) ?_ (fun J=>?_)
      ·
       simp only[Option.some.injEq,Prod.mk.injEq] at h
       obtain⟨rfl,rfl⟩:=h
       refine X0l [] ?_
       refine X3.back (by intro id h;cases h) rfl ?_
       exact wkT [(3,5)] ((J nbF))
      clear h;revert h1540
      intro h
      refine X3.inline Xh Xuf rfl rfl rfl rfl rfl trivial trivial rfl rfl ?_
      revert h
      refine bI fun m1535 h1536=>?_
      obtain⟨qah1536,qbh1536,qch1536,qh1536⟩:=X37 h1536
      obtain rfl:=X95 h1536
      refine brI (fun h1537=>?_) fun h1537=>?_
      ·
       refine bI fun u1538 h1539=>rnI [Bf,.el (aI .i64 (List.length ([]:List Xa):Int)),Bt,.no] (o:=by repeat' first|apply Ya|exact pcM|(simp at qah1536 qbh1536 qch1536 ⊢;omega)|(refine X8 h1539 rfl ?_;first|(simp;done)|(simp;omega)|(simp[h1503,h1527,h1528,h1537];done)|(simp[h1503,h1527,h1528,h1537];omega))|(refine X2 h1539 (by decide) ?_;first|(simp;done)|(simp;omega)|(simp[h1503,h1527,h1528,h1537];done)|(simp[h1503,h1527,h1528,h1537];omega))|exact Xw) ?_
       intro h
       refine X3.back (by intro id h;cases h) rfl ?_
       exact wkT [(5,7)] (J)
      intro h
      exact absurd h1537 (by simp)
     refine bI fun m1541 h1542=>?_
     intro h
     exact absurd h1542 (by simp[Xtt])
    refine rnI [.pure [(Lf (List.map X9 ([]:List Xa))),(X9 X1q),(AV.fn 110 [])] (AV.tup [(aI .i64 v1525.1),(aB v1525.2)]),Bf,.stop 4] (o:=by repeat' first|apply Ya|exact pcM|exact(pn (Xy _ _ _ h1526) (cc (Zn X9) (cc (X8f (x:=X1q)) (cc .fn0 cn))))|exact Xw) ?_
    refine bI fun e1543 h1544=>?_
    try have qh1544:=Xn h1544
    intro h
    exact absurd (h1544) (by simp[X2c])
   refine bI fun e1546 h1547=>?_
   try have qh1547:=Xn h1547
   intro h
   exact absurd (h1547) (by simp[X2c])
  clear h;revert h1502
  intro h
  refine X3.inline Xh X061 rfl rfl rfl rfl rfl trivial trivial rfl rfl ?_
  revert h
  refine bI fun u1490 h1491=>?_
  have qh1491:=X0u h1491
  refine bI fun o1500 h1501=>rnI [.el (aI .i64 (List.length ([]:List Xa):Int))] ?_
  intro h
  refine wkT [] (X3.cut (X1j ([]:List Xa) X1q nbS qh1491 ([]:List Xa) 0 (by simp) _ h1501 ?_ ?_))
  ·
   intro eo1500;subst eo1500
   refine X3.glue ?_
   try dsimp only at h
   obtain rfl:=oj h
   refine X0l [] ?_
   refine X3.back (by intro id h;cases h) rfl ?_
   exact wkT [] (J)
  intro Xa7 eo1500;subst eo1500
  refine X3.glue ?_
  try dsimp only at h
  obtain rfl:=oj h
  refine X0l [] ?_
  refine X3.back (by intro id h;cases h) rfl ?_
  exact wkT [] (J)
theorem Xct {Q:X07->St->Mu->Prop} {μ:Mu} (Xfe:(List X13)) (hl:Xfe.length<=140737488355328):∀ (xs:List X13) (k:Nat) (hx:Xfe.drop k=xs) (Xs:Xa) (Xo:(List Xa)) (X00:Nb Xo) (o:X8g) (h:X4v Xfe xs k Xs Xo=some o)
  (C0:∀ (X02:(List Xa)) (X0i:Nb X02),o=X8g.x0 X02->X3 Tryz.prog 112 0 Q (.exit (.exit 0)) [] ⟨fr [(13,(slE X0i.1 0 (X02.map X9)))],hp ([]++opE X0i.1 0 11 (X02.map X9)),1⟩ μ)
  (C1:∀ (X0k:(List Xa)) (Xhm:Int) (X0h:Nb X0k),o=X8g.x1 X0k Xhm->X3 Tryz.prog 112 0 Q (.exit .ret) [] ⟨fr [(8,(slE X0h.1 0 (X0k.map X9))),(9,(aI .i64 Xhm))],hp ([]++opE X0h.1 0 11 (X0k.map X9)),1⟩ μ),
  X3 Tryz.prog 112 0 Q (.loop (X4t 0 (Xu Tryz.f51))) [] ⟨fr [(12,(AV.ptr 0 0 0)),(13,(slE X00.1 1 (Xo.map X9))),(91,(AV.list true (Xfe.map X0d))),(92,(aI .i64 (Xfe.length:Int))),(93,(aI .i64 (k:Int)))],hp ([(0,Ob [(X9 Xs)] 11)]++opE X00.1 1 11 (Xo.map X9)),2⟩ μ:=by
 intro xs
 induction xs with
 |nil =>
  intro k hx Xs Xo X00 o h C0 C1
  have hk:=X1e hx
  have hc:decide ((k:Int)<(Xfe.length:Int))=false:=Yf (by omega)
  rw[X4v] at h
  rcases X00 with ⟨_|_,X0f⟩
  ·
   refine X3.round ?_
   revert h
   exact fun e=>Xc [Bf] (k:=wkT [(0,1)] (C0 _  nbF (oj e).symm))
  ·
   obtain rfl:=X0f rfl
   refine X3.round ?_
   revert h
   exact fun e=>Xc [Bf] (k:=wkT [] (C0 _  nbS (oj e).symm))
 |cons x xs ih =>
  intro k hx Xs Xo X00 o h C0 C1
  obtain⟨hk,hg,hx1⟩:=X0t hx
  have hc:decide ((k:Int)<(Xfe.length:Int))=true:=Yt (by omega)
  rw[X4v] at h
  rcases X00 with ⟨_|_,X0f⟩
  ·
   refine X3.round ?_
   revert h
   refine bI fun w1890 h1937=>?_
   intro h
   obtain⟨X00f,Xlw,Xqf⟩:=w1890
   try dsimp only at h
   refine X0l [Bt,.el (X0d x)] ?_
   refine X3.joinOpF (fun(q:Nb Xlw)=>⟨fr [(12,(AV.ptr 0 0 0)),(91,(AV.list true (Xfe.map X0d))),(92,(aI .i64 (Xfe.length:Int))),(93,(aI .i64 (k:Int))),(101,(AV.tup [(slE q.1 1 (Xlw.map X9)),(aI .i64 Xqf)]))],hp ([(0,Ob [(X9 X00f)] 11)]++opE q.1 1 11 (Xlw.map X9)),2⟩) ?_ (fun J=>?_)
   ·
    rintro Xph
    rcases Xph with ⟨_|_,Xr2⟩
    ·
     revert h
     refine brI (fun h1938=>fun e=>Xc [Bt] (k:=wkT [] (C1 _ _  nbS (oj e).symm))) fun h1938=>rnI [Bf] ?_
     intro h
     exact wkT [] (ih (k+1) hx1 _ _ nbF o h C0 C1)
    obtain rfl:=Xr2 rfl
    revert h
    refine brI (fun h1939=>fun e=>Xc [Bt] (k:=wkT [] (C1 _ _  nbS (oj e).symm))) fun h1939=>rnI [Bf] ?_
    intro h
    exact wkT [] (ih (k+1) hx1 _ _ nbS o h C0 C1)
   clear h;revert h1937
   intro h
   refine X3.inline Xh fn84 rfl rfl rfl rfl rfl trivial trivial rfl rfl ?_
   revert h
   refine bI fun v1891 h1892=>rnI [.pure [(Lf (Xo.map X9)),(X9 (Xa.mk Xs.Key x Xs.Values)),(AV.fn 110 [])] (AV.tup [(aI .i64 v1891.1),(aB v1891.2)])] (o:=by repeat' first|apply Ya|exact pcM|exact(X69.lent (Xy _ _ _ h1892) (cc (Xny (es:=Xo.map X9) rfl (by first|rfl|(simp;done)|(simp;rfl)|(simp[hc];done)|(simp[hc];rfl)|(simp[hc,Ym,Yd];done)|(simp[hc,Ym,Yd];rfl)) (by first|rfl|(simp;done)|(simp;omega)|(simp[hc];done)|(simp[hc];omega)) (X04 X6x Xo)) (cc (X8f (x:=(Xa.mk Xs.Key x Xs.Values))) (cc .fn0 cn))) (Xn2 (X27 .sc (X27 .sc Xal))))|exact Xw) ?_
   refine brI (fun h1893=>?_) fun h1893=>?_
   ·
    refine brI (fun h1894=>?_) fun h1894=>?_
    ·
     refine bI fun _ h1910=>rnI [Bt] ?_
     intro h
     refine X3.joinOp (s':=⟨fr [(21,(AV.ref 2 0 (List.length (Xo++[(Xa.mk Xs.Key x Xs.Values)]))))],hp ([(0,Ob [(X9 (Xa.mk Xs.Key x Xs.Values))] 11),(2,Ob (List.map X9 (Xo++[(Xa.mk Xs.Key x Xs.Values)])) 11)]),3⟩) ?_ (fun J=>?_)
     ·
      simp only[Option.some.injEq,Prod.mk.injEq] at h
      obtain⟨rfl,rfl,rfl⟩:=h
      refine X0l [] ?_
      refine X3.back (by intro id h;cases h) rfl ?_
      exact wkT [(1,2)] ((J nbF))
     clear h;revert h1910
     intro h
     refine X3.inline Xh Xuf rfl rfl rfl rfl rfl trivial trivial rfl rfl ?_
     revert h
     refine bI fun m1903 h1904=>?_
     obtain⟨qah1904,qbh1904,qch1904,qh1904⟩:=X37 h1904
     have qlh1904:=X70 h1904
     refine brI (fun h1905=>?_) fun h1905=>?_
     ·
      refine bI fun u1906 h1907=>rnI [.ne false,Bf,.el (aI .i64 (Xo.length:Int)),Bt,.no] (o:=by repeat' first|apply Ya|exact pcM|(simp at qah1904 qbh1904 qch1904 ⊢;omega)|(simp at qah1904 qbh1904 qch1904 qlh1904 ⊢;have qz:=X38 h1905;omega)|(refine X8 h1907 rfl ?_;first|(simp;done)|(simp;omega)|(simp[hc,h1893,h1894,h1905];done)|(simp[hc,h1893,h1894,h1905];omega))|(refine X2 h1907 (by decide) ?_;first|(simp;done)|(simp;omega)|(simp[hc,h1893,h1894,h1905];done)|(simp[hc,h1893,h1894,h1905];omega))|exact Xw) ?_
      intro h
      refine X3.back (by intro id h;cases h) rfl ?_
      exact wkT [(2,4)] (J)
     refine bI fun u1908 h1909=>rnI [.via (.ref 1 (Int.toNat v1891.1) (m1903.length)),Bf,.el (aI .i64 (Xo.length:Int)),Bt,.no] (o:=by repeat' first|apply Ya|exact pcM|(simp at qah1904 qbh1904 qch1904 ⊢;omega)|(simp at qah1904 qbh1904 qch1904 qlh1904 ⊢;have qz:=X18 h1905;omega)|(simp at qah1904 qbh1904 qch1904 qlh1904 ⊢;omega)|(simp;done)|(refine X8 h1909 rfl ?_;first|(simp;done)|(simp;omega)|(simp[hc,h1893,h1894,h1905];done)|(simp[hc,h1893,h1894,h1905];omega))|(refine X2 h1909 (by decide) ?_;first|(simp;done)|(simp;omega)|(simp[hc,h1893,h1894,h1905];done)|(simp[hc,h1893,h1894,h1905];omega))|exact Xw) ?_
     intro h
     refine X3.back (by intro id h;cases h) rfl ?_
     exact wkT [(2,4)] (J)
    refine bI fun m1911 h1912=>rnI [Bt] ?_
    intro h
    refine X3.hcall rfl rfl rfl rfl rfl trivial trivial (Xs9 ⟨_,_,Xuf⟩ (f:=X9) (l:=Xo) (x:=(Xa.mk Xs.Key x Xs.Values)) h1912 rfl rfl rfl (by first|rfl|simp)) ?_
    simp only[Option.some.injEq,Prod.mk.injEq] at h
    obtain⟨rfl,rfl,rfl⟩:=h
    refine X0l [] ?_
    refine X3.back (by intro id h;cases h) rfl ?_
    exact wkT [(1,4)] ((J nbF))
   refine rnI [Bf,.stop 4] ?_
   refine bI fun e1913 h1914=>?_
   try have qh1914:=Xn h1914
   intro h
   refine X3.drawnCut 5 tmD [.el (X9 e1913)] rfl rfl rfl rfl rfl (by repeat' first|apply Ya|exact Xw) ?_
   revert h
   refine bI fun w1925 h1936=>?_
   intro h
   obtain⟨Xlv,X00e⟩:=w1925
   try dsimp only at h
   refine X0l [] ?_
   refine X3.joinOpF (fun(q:Nb Xlv)=>⟨fr [(0,(slE q.1 2 (Xlv.map X9))),(27,(aI .i64 X00e))],hp ([(0,Ob [(X9 (Xa.mk Xs.Key x Xs.Values))] 11)]++opE q.1 2 11 (Xlv.map X9)),3⟩) ?_ (fun J=>?_)
   ·
    rintro Xpg
    rcases Xpg with ⟨_|_,Xr1⟩
    ·
     simp only[Option.some.injEq,Prod.mk.injEq] at h
     obtain⟨rfl,rfl,rfl⟩:=h
     refine X0l [] ?_
     refine X3.back (by intro id h;cases h) rfl ?_
     exact wkT [(1,2)] ((J nbF))
    obtain rfl:=Xr1 rfl
    simp only[Option.some.injEq,Prod.mk.injEq] at h
    obtain⟨rfl,rfl,rfl⟩:=h
    refine X0l [] ?_
    refine X3.back (by intro id h;cases h) rfl ?_
    exact wkT [] ((J nbS))
   clear h;revert h1936
   intro h
   refine X3.inline Xh X040 rfl rfl rfl rfl rfl trivial trivial rfl rfl ?_
   refine X0l [] ?_
   refine X3.round ?_
   revert h
   refine bI fun v1928 h1929=>brI (fun h1930=>?_) fun h1930=>?_
   ·
    intro h
    simp only[Option.some.injEq,Prod.mk.injEq] at h
    obtain⟨rfl,rfl⟩:=h
    refine X0l [Bt,.ix 0,.ix 0,.ld (X9 e1913),.pure _ (AV.tup [(X19 v1928.1),(aI .i64 v1928.2)]),Bt] ?_
    refine X3.back (by intro id h;cases h) rfl ?_
    exact wkT [(2,1)] ((J nbF))
   refine rnI [Bt,.ix 0,.ix 0,.ld (X9 e1913),.pure _ (AV.tup [(X19 v1928.1),(aI .i64 v1928.2)]),Bf,.ix 0,.ld (X9 e1913)] (o:=by repeat' first|apply Ya|exact pcM|exact(List.getElem?_set_self (by have hq:=X2j h1914;simp;omega)).trans rfl|exact Xw) ?_
   intro h
   refine X3.round ?_
   revert h
   refine bI fun v1933 h1934=>rnI [Bt,.ix 1,.ix 1,.ld (X9 (Xa.mk e1913.Key e1913.Span (V2.mk v1928.1 e1913.Values.e1))),.pure _ (AV.tup [(X19 v1933.1),(aI .i64 v1933.2)])] (o:=by repeat' first|apply Ya|exact pcM|exact(List.getElem?_set_self (by have hq:=X2j h1914;simp;omega)).trans rfl|exact Xw) ?_
   refine brI (fun h1935=>?_) fun h1935=>?_
   ·
    intro h
    simp only[Option.some.injEq,Prod.mk.injEq] at h
    obtain⟨rfl,rfl⟩:=h
    refine X0l [Bt] (o:=by repeat' first|apply Ya|exact pcM|exact(List.getElem?_set_self (by have hq:=X2j h1914;simp;omega)).trans rfl|exact Xw) ?_
    refine X3.back (by intro id h;cases h) rfl ?_
    exact wkT [(2,1)] ((J nbF))
   refine rnI [Bf,.ix 1,.ld (X9 (Xa.mk e1913.Key e1913.Span (V2.mk v1928.1 e1913.Values.e1)))] (o:=by repeat' first|apply Ya|exact pcM|exact(List.getElem?_set_self (by have hq:=X2j h1914;simp;omega)).trans rfl|exact Xw) ?_
   intro h
   refine X3.round ?_
   simp only[Option.some.injEq,Prod.mk.injEq] at h
   obtain⟨rfl,rfl⟩:=h
   refine X0l [Bf] (o:=by repeat' first|apply Ya|exact pcM|exact(List.getElem?_set_self (by have hq:=X2j h1914;simp;omega)).trans rfl|exact Xw) ?_
   refine X3.back (by intro id h;cases h) rfl ?_
   exact wkT [(2,1)] ((J nbF))
  obtain rfl:=X0f rfl
  refine X3.round ?_
  revert h
  refine bI fun w1960 h1981=>?_
  intro h
  obtain⟨X00d,Xlu,Xqe⟩:=w1960
  try dsimp only at h
  refine X0l [Bt,.el (X0d x)] ?_
  refine X3.joinOpF (fun(q:Nb Xlu)=>⟨fr [(12,(AV.ptr 0 0 0)),(91,(AV.list true (Xfe.map X0d))),(92,(aI .i64 (Xfe.length:Int))),(93,(aI .i64 (k:Int))),(101,(AV.tup [(slE q.1 1 (Xlu.map X9)),(aI .i64 Xqe)]))],hp ([(0,Ob [(X9 X00d)] 11)]++opE q.1 1 11 (Xlu.map X9)),2⟩) ?_ (fun J=>?_)
  ·
   rintro Xpf
   rcases Xpf with ⟨_|_,Xr0⟩
   ·
    revert h
    refine brI (fun h1982=>fun e=>Xc [Bt] (k:=wkT [] (C1 _ _  nbS (oj e).symm))) fun h1982=>rnI [Bf] ?_
    intro h
    exact wkT [] (ih (k+1) hx1 _ _ nbF o h C0 C1)
   obtain rfl:=Xr0 rfl
   revert h
   refine brI (fun h1983=>fun e=>Xc [Bt] (k:=wkT [] (C1 _ _  nbS (oj e).symm))) fun h1983=>rnI [Bf] ?_
   intro h
   exact wkT [] (ih (k+1) hx1 _ _ nbS o h C0 C1)
  clear h;revert h1981
  intro h
  refine X3.inline Xh fn84 rfl rfl rfl rfl rfl trivial trivial rfl rfl ?_
  revert h
  refine bI fun v1961 h1962=>rnI [.pure [(Lf (List.map X9 ([]:List Xa))),(X9 (Xa.mk Xs.Key x Xs.Values)),(AV.fn 110 [])] (AV.tup [(aI .i64 v1961.1),(aB v1961.2)])] (o:=by repeat' first|apply Ya|exact pcM|exact(pn (Xy _ _ _ h1962) (cc (Zn X9) (cc (X8f (x:=(Xa.mk Xs.Key x Xs.Values))) (cc .fn0 cn))))|exact Xw) ?_
  refine brI (fun h1963=>?_) fun h1963=>?_
  ·
   refine brI (fun h1964=>?_) fun h1964=>?_
   ·
    refine bI fun _ h1976=>rnI [Bt] ?_
    intro h
    refine X3.joinOp (s':=⟨fr [(21,(AV.ref 2 0 (List.length (([]:List Xa)++[(Xa.mk Xs.Key x Xs.Values)]))))],hp ([(0,Ob [(X9 (Xa.mk Xs.Key x Xs.Values))] 11),(2,Ob (List.map X9 (([]:List Xa)++[(Xa.mk Xs.Key x Xs.Values)])) 11)]),3⟩) ?_ (fun J=>?_)
    ·
     simp only[Option.some.injEq,Prod.mk.injEq] at h
     obtain⟨rfl,rfl,rfl⟩:=h
     refine X0l [] ?_
     refine X3.back (by intro id h;cases h) rfl ?_
     exact wkT [(1,2)] ((J nbF))
    clear h;revert h1976
    intro h
    refine X3.inline Xh Xuf rfl rfl rfl rfl rfl trivial trivial rfl rfl ?_
    revert h
    refine bI fun m1971 h1972=>?_
    obtain⟨qah1972,qbh1972,qch1972,qh1972⟩:=X37 h1972
    obtain rfl:=X95 h1972
    refine brI (fun h1973=>?_) fun h1973=>?_
    ·
     refine bI fun u1974 h1975=>rnI [Bf,.el (aI .i64 (List.length ([]:List Xa):Int)),Bt,.no] (o:=by repeat' first|apply Ya|exact pcM|(simp at qah1972 qbh1972 qch1972 ⊢;omega)|(refine X8 h1975 rfl ?_;first|(simp;done)|(simp;omega)|(simp[hc,h1963,h1964,h1973];done)|(simp[hc,h1963,h1964,h1973];omega))|(refine X2 h1975 (by decide) ?_;first|(simp;done)|(simp;omega)|(simp[hc,h1963,h1964,h1973];done)|(simp[hc,h1963,h1964,h1973];omega))|exact Xw) ?_
     intro h
     refine X3.back (by intro id h;cases h) rfl ?_
     exact wkT [(2,4)] (J)
    intro h
    exact absurd h1973 (by simp)
   refine bI fun m1977 h1978=>?_
   intro h
   exact absurd h1978 (by simp[Xtt])
  refine rnI [Bf,.stop 4] ?_
  refine bI fun e1979 h1980=>?_
  try have qh1980:=Xn h1980
  intro h
  exact absurd (h1980) (by simp[X2c])
end Go.Av.Tryz