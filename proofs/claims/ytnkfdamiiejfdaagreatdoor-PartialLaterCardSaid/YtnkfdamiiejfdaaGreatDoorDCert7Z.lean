/- Printed by decomp.py: that the program computes the functions. -/
import Derived.Test.YtnkfdamiiejfdaaGreatDoorDCert6Z
set_option linter.all false

namespace Go.Av.Tryz
open Go.Proofs Go.D Go.Proofs.Tryz
set_option maxRecDepth 10000
set_option maxHeartbeats 40000000
theorem Xqu {P:Prop} (h:P:=by repeat' first|apply Ya|exact pcM|exact(X4s.lent (X01 _ _ _ h1394) (cc (X00w (es:=X0j.map X1) rfl (by first|rfl|(simp;done)|(simp;rfl)|(simp[h1345];done)|(simp[h1345];rfl)|(simp[h1345,Ym,Yd];done)|(simp[h1345,Ym,Yd];rfl)) (by first|rfl|(simp;done)|(simp;omega)|(simp[h1345];done)|(simp[h1345];omega)) (X1s X9j X0j)) (cc (Xdo (x:=X1k)) (cc .fn0 cn))) (Xyh (X13 .sc (X13 .sc X70))))|exact X1i):P:=h
theorem Xym {P:Prop} (h:P:=by repeat' first|apply Ya|exact pcM|exact(pn (X01 _ _ _ h1526) (cc (Zn X1) (cc (Xdo (x:=X1k)) (cc .fn0 cn))))|exact X1i):P:=h
theorem X5f {Q:Qt} {μ:Mu}:∀ (n:Nat) (X0j:(List X4)) (X1k:X4) (X1n:Nb X0j) (o:X3m) (h:X1a  n X0j X1k=some o)
  (C0:∀ (X25:(List X4)) (Xip:Int) (X1j:Nb X25),o=X3m.x0 X25 Xip->X5 Tryz.prog 54 3 Q (.exit .ret) [] ⟨fr [(4,(slE X1j.1 3 (X25.map X1))),(5,(aI .i64 Xip))],hp ([]++opE X1j.1 3 11 (X25.map X1)),4⟩ μ),
  X5 Tryz.prog 54 3 Q (.loop (X5b 0 (X10 Tryz.f56))) [] ⟨fr [(0,(slE X1n.1 3 (X0j.map X1))),(3,(AV.ptr 4 0 0))],hp ([(4,Ob [(X1 X1k)] 11)]++opE X1n.1 3 11 (X0j.map X1)),5⟩ μ:=by
 intro n
 induction n with
 |zero=>intro X0j X1k X1n o h C0;cases h
 |succ n ih =>
  intro X0j X1k X1n o h C0;rw[X1a] at h;rcases X1n with ⟨_|_,X4c⟩
  ·
   refine X5.round ?_;revert h;refine bI λXdh h1344=>rnI [] ?_;intro h;refine X5.joinOp (s':=⟨fr [(0,(AV.ref 3 0 (X0j.length))),(3,(AV.ptr 4 0 0)),(10,(aI .i64 Xdh))],hp ([(3,Ob (X0j.map X1) 11),(4,Ob [(X1 X1k)] 11)]),5⟩) ?_ (λJ=>?_)
   ·
    revert h;refine brI (λh1345=>?_) λh1345=>?_
    ·
     refine bI λw1392 h1439=>?_;intro h;obtain⟨Xnc,Xvs⟩:=w1392;try dsimp only at h
     refine X0f [Bt] ?_;refine X5.joinOpF (λ(q:Nb Xnc)=>⟨fr [(15,(AV.tup [(slE q.1 3 (Xnc.map X1)),(aI .i64 Xvs)]))],hp ([]++opE q.1 3 11 (Xnc.map X1)),4⟩) ?_ (λJ=>?_)
     ·
      rintro Xr2;rcases Xr2 with ⟨_|_,Xs9⟩
      ·
       revert h;exact λe=>X8 [] (k:=wkT [] (C0 _ _  nbF (oj e).symm))
      obtain rfl:=Xs9 rfl;revert h;exact λe=>X8 [] (k:=wkT [] (C0 _ _  nbS (oj e).symm))
     clear h;revert h1439;intro h;refine X5.inline X2 fn58 rfl rfl rfl rfl rfl trivial trivial rfl rfl ?_;revert h;refine bI λv1393 h1394=>brI (λh1395=>?_) λh1395=>?_
     ·
      refine brI (λh1396=>?_) λh1396=>?_
      ·
       refine bI λ_ h1412=>rnI [.pure [(Lf (X0j.map X1)),(X1 X1k),(AV.fn 87 [])] (AV.tup [(aI .i64 v1393.1),(aB v1393.2)]),Bt] (o:=Xqu) ?_;intro h;refine X5.joinOp (s':=⟨fr [(21,(AV.ref 5 0 (List.length (X0j++[X1k]))))],hp ([(5,Ob (List.map X1 (X0j++[X1k])) 11)]),6⟩) ?_ (λJ=>?_)
       ·
        simp only[Option.some.injEq,Prod.mk.injEq] at h;obtain⟨rfl,rfl⟩:=h;refine X0f [] ?_;refine X5.back (by intro id h;cases h) rfl ?_;exact wkT [(3,5)] ((J nbF))
       clear h;revert h1412;intro h;refine X5.inline X2 fn97 rfl rfl rfl rfl rfl trivial trivial rfl rfl ?_;revert h;refine bI λm1405 h1406=>?_;obtain⟨qah1406,qbh1406,qch1406,qh1406⟩:=X3f h1406;have qlh1406:=X8i h1406;refine brI (λh1407=>?_) λh1407=>?_
       ·
        refine bI λu1408 h1409=>rnI [.ne false,Bf,.el (aI .i64 (X0j.length:Int)),Bt,.no] (o:=by repeat' first|apply Ya|exact pcM|(refine X0g h1409 rfl ?_;first|(simp<;>omega)|(simp[h1345,h1395,h1396,h1407]<;>omega))|(refine Xv h1409 (by decide) ?_;first|(simp<;>omega)|(simp[h1345,h1395,h1396,h1407]<;>omega))|exact X1i) ?_;intro h;refine X5.back (by intro id h;cases h) rfl ?_;exact wkT [(5,7)] (J)
       refine bI λu1410 h1411=>rnI [.via (.ref 3 (Int.toNat v1393.1) (m1405.length)),Bf,.el (aI .i64 (X0j.length:Int)),Bt,.no] ?_;intro h;refine X5.back (by intro id h;cases h) rfl ?_;exact wkT [(5,7)] (J)
      refine bI λm1413 h1414=>rnI [.pure [(Lf (X0j.map X1)),(X1 X1k),(AV.fn 87 [])] (AV.tup [(aI .i64 v1393.1),(aB v1393.2)]),Bt] (o:=Xqu) ?_;intro h;refine X5.hcall rfl rfl rfl rfl rfl trivial trivial (Xtt ⟨_,_,fn97⟩ (f:=X1) (l:=X0j) (x:=X1k) h1414 rfl rfl rfl (by first|rfl|simp)) ?_;simp only[Option.some.injEq,Prod.mk.injEq] at h;obtain⟨rfl,rfl⟩:=h;refine X0f [] ?_;refine X5.back (by intro id h;cases h) rfl ?_;exact wkT [(3,7)] ((J nbF))
     refine rnI [.pure [(Lf (X0j.map X1)),(X1 X1k),(AV.fn 87 [])] (AV.tup [(aI .i64 v1393.1),(aB v1393.2)]),Bf,.stop 4] (o:=Xqu) ?_;refine bI λe1415 h1416=>?_;try have qh1416:=Xm h1416
     intro h;refine X5.drawnCut 5 tmD [.el (X1 e1415)] rfl rfl rfl rfl rfl (by repeat' first|apply Ya|exact X1i) ?_;revert h;refine bI λw1427 h1438=>?_;intro h;obtain⟨Xnb,X047⟩:=w1427;try dsimp only at h
     refine X0f [] ?_;refine X5.joinOpF (λ(q:Nb Xnb)=>⟨fr [(0,(slE q.1 5 (Xnb.map X1))),(27,(aI .i64 X047))],hp ([]++opE q.1 5 11 (Xnb.map X1)),6⟩) ?_ (λJ=>?_)
     ·
      rintro Xr1;rcases Xr1 with ⟨_|_,Xs8⟩
      ·
       simp only[Option.some.injEq,Prod.mk.injEq] at h;obtain⟨rfl,rfl⟩:=h;refine X0f [] ?_;refine X5.back (by intro id h;cases h) rfl ?_;exact wkT [(3,5)] ((J nbF))
      obtain rfl:=Xs8 rfl;simp only[Option.some.injEq,Prod.mk.injEq] at h;obtain⟨rfl,rfl⟩:=h;refine X0f [] ?_;refine X5.back (by intro id h;cases h) rfl ?_;exact wkT [] ((J nbS))
     clear h;revert h1438;intro h;refine X5.inline X2 fn92 rfl rfl rfl rfl rfl trivial trivial rfl rfl ?_;refine X0f [] ?_;refine X5.round ?_;revert h;refine bI λv1430 h1431=>brI (λh1432=>?_) λh1432=>?_
     ·
      intro h;simp only[Option.some.injEq,Prod.mk.injEq] at h;obtain⟨rfl,rfl⟩:=h;refine X0f [Bt,.ix 0,.ix 0,.ld (X1 e1415),.pure _ (AV.tup [(X0o v1430.1),(aI .i64 v1430.2)]),Bt] ?_;refine X5.back (by intro id h;cases h) rfl ?_;exact wkT [(5,3)] ((J nbF))
     refine rnI [Bt,.ix 0,.ix 0,.ld (X1 e1415),.pure _ (AV.tup [(X0o v1430.1),(aI .i64 v1430.2)]),Bf,.ix 0,.ld (X1 e1415)] ?_;intro h;refine X5.round ?_;revert h;refine bI λv1435 h1436=>rnI [Bt,.ix 1,.ix 1,.ld (X1 (X4.mk e1415.Key e1415.Span (V2.mk v1430.1 e1415.Values.e1))),.pure _ (AV.tup [(X0o v1435.1),(aI .i64 v1435.2)])] (o:=by repeat' first|apply Ya|exact pcM|exact(List.getElem?_set_self (by have hq:=Xii h1416;simp;omega)).trans rfl|exact X1i) ?_;refine brI (λh1437=>?_) λh1437=>?_
     ·
      intro h;simp only[Option.some.injEq,Prod.mk.injEq] at h;obtain⟨rfl,rfl⟩:=h;refine X0f [Bt] ?_;refine X5.back (by intro id h;cases h) rfl ?_;exact wkT [(5,3)] ((J nbF))
     refine rnI [Bf,.ix 1,.ld (X1 (X4.mk e1415.Key e1415.Span (V2.mk v1430.1 e1415.Values.e1)))] (o:=by repeat' first|apply Ya|exact pcM|exact(List.getElem?_set_self (by have hq:=Xii h1416;simp;omega)).trans rfl|exact X1i) ?_;intro h;refine X5.round ?_;simp only[Option.some.injEq,Prod.mk.injEq] at h;obtain⟨rfl,rfl⟩:=h;refine X0f [Bf] ?_;refine X5.back (by intro id h;cases h) rfl ?_;exact wkT [(5,3)] ((J nbF))
    refine bI λe1440 h1441=>?_;try have qh1441:=Xm h1441
    refine bI λw1452 h1463=>?_;intro h;obtain⟨X045,X046⟩:=w1452;try dsimp only at h
    refine X0f [Bf,.el (X1 e1440),.ld (X1 e1440)] ?_;refine X5.joinOp (s':=⟨fr [(0,(AV.ref 3 0 (X0j.length))),(3,(AV.ptr 4 0 0)),(6,(aI .i64 Xdh)),(23,(aI .i64 X046))],hp ([(3,Ob (X0j.map X1) 11),(4,Ob [(X1 X045)] 11)]),5⟩) ?_ (λJ=>?_)
    ·
     revert h;refine brI (λh1464=>λe=>X8 [Bt] (k:=wkT [] (C0 _ _  nbS (oj e).symm))) λh1464=>bI λm1465 h1466=>rnI [Bf,.el (X1 e1440),.ld (X1 e1440),.el (X1 e1440),.ld (X1 e1440),.wrap] ?_;intro h;refine X5.hcall rfl rfl rfl rfl rfl trivial trivial (X04u ⟨_,_,fn93⟩ (f:=X1) (l:=X0j) h1466 rfl rfl (by first|rfl|simp)) ?_;exact X8 [] (k:=wkT [(3,28)] (ih  _ _ nbF o h C0))
    clear h;revert h1463;intro h;refine X5.inline X2 fn92 rfl rfl rfl rfl rfl trivial trivial rfl rfl ?_;refine X0f [] ?_;refine X5.round ?_;revert h;refine bI λv1455 h1456=>brI (λh1457=>?_) λh1457=>?_
    ·
     intro h;simp only[Option.some.injEq,Prod.mk.injEq] at h;obtain⟨rfl,rfl⟩:=h;refine X0f [Bt,.ix 0,.ix 0,.pure _ (AV.tup [(X0o v1455.1),(aI .i64 v1455.2)]),Bt] ?_;refine X5.back (by intro id h;cases h) rfl ?_;exact wkT [] (J)
    refine rnI [Bt,.ix 0,.ix 0,.pure _ (AV.tup [(X0o v1455.1),(aI .i64 v1455.2)]),Bf,.ix 0] ?_;intro h;refine X5.round ?_;revert h;refine bI λv1460 h1461=>brI (λh1462=>?_) λh1462=>?_
    ·
     intro h;simp only[Option.some.injEq,Prod.mk.injEq] at h;obtain⟨rfl,rfl⟩:=h;refine X0f [Bt,.ix 1,.ix 1,.pure _ (AV.tup [(X0o v1460.1),(aI .i64 v1460.2)]),Bt] ?_;refine X5.back (by intro id h;cases h) rfl ?_;exact wkT [] (J)
    refine rnI [Bt,.ix 1,.ix 1,.pure _ (AV.tup [(X0o v1460.1),(aI .i64 v1460.2)]),Bf,.ix 1] ?_;intro h;refine X5.round ?_;simp only[Option.some.injEq,Prod.mk.injEq] at h;obtain⟨rfl,rfl⟩:=h;refine X0f [Bf] ?_;refine X5.back (by intro id h;cases h) rfl ?_;exact wkT [] (J)
   clear h;revert h1344;intro h;refine X5.inline X2 fn90 rfl rfl rfl rfl rfl trivial trivial rfl rfl ?_;revert h;refine bI λu1330 h1331=>?_;have qh1331:=X05 h1331;refine bI λo1342 h1343=>rnI [.el (aI .i64 (X0j.length:Int))] ?_;intro h;refine wkT [] (X5.cut (drA (X0z X0j X1k nbF qh1331) _ h1343 ?_));rcases o1342 with _|⟨X6w⟩
   ·
    refine lG rfl ?_;try dsimp only at h
    obtain rfl:=oj h;refine X0f [] ?_;refine X5.back (by intro id h;cases h) rfl ?_;exact wkT [] (J)
   refine lG rfl ?_;try dsimp only at h
   obtain rfl:=oj h;refine X0f [] ?_;refine X5.back (by intro id h;cases h) rfl ?_;exact wkT [] (J)
  obtain rfl:=X4c rfl;refine X5.round ?_;revert h;refine bI λX044 h1502=>rnI [] ?_;intro h;refine X5.joinOp (s':=⟨fr [(0,AV.nils),(3,(AV.ptr 4 0 0)),(10,(aI .i64 X044))],hp ([(4,Ob [(X1 X1k)] 11)]),5⟩) ?_ (λJ=>?_)
  ·
   revert h;refine brI (λh1503=>?_) λh1503=>?_
   ·
    refine bI λw1524 h1545=>?_;intro h;obtain⟨Xna,Xvr⟩:=w1524;try dsimp only at h
    refine X0f [Bt] ?_;refine X5.joinOpF (λ(q:Nb Xna)=>⟨fr [(15,(AV.tup [(slE q.1 3 (Xna.map X1)),(aI .i64 Xvr)]))],hp ([]++opE q.1 3 11 (Xna.map X1)),4⟩) ?_ (λJ=>?_)
    ·
     rintro Xr0;rcases Xr0 with ⟨_|_,Xs7⟩
     ·
      revert h;exact λe=>X8 [] (k:=wkT [] (C0 _ _  nbF (oj e).symm))
     obtain rfl:=Xs7 rfl;revert h;exact λe=>X8 [] (k:=wkT [] (C0 _ _  nbS (oj e).symm))
    clear h;revert h1545;intro h;refine X5.inline X2 fn58 rfl rfl rfl rfl rfl trivial trivial rfl rfl ?_;revert h;refine bI λv1525 h1526=>brI (λh1527=>?_) λh1527=>?_
    ·
     refine brI (λh1528=>?_) λh1528=>?_
     ·
      refine bI λ_ h1540=>rnI [.pure [(Lf (List.map X1 ([]:List X4))),(X1 X1k),(AV.fn 87 [])] (AV.tup [(aI .i64 v1525.1),(aB v1525.2)]),Bt] (o:=Xym) ?_;intro h;refine X5.joinOp (s':=⟨fr [(21,(AV.ref 5 0 (List.length (([]:List X4)++[X1k]))))],hp ([(5,Ob (List.map X1 (([]:List X4)++[X1k])) 11)]),6⟩) ?_ (λJ=>?_)
      ·
       simp only[Option.some.injEq,Prod.mk.injEq] at h;obtain⟨rfl,rfl⟩:=h;refine X0f [] ?_;refine X5.back (by intro id h;cases h) rfl ?_;exact wkT [(3,5)] ((J nbF))
      clear h;revert h1540;intro h;refine X5.inline X2 fn97 rfl rfl rfl rfl rfl trivial trivial rfl rfl ?_;revert h;refine bI λm1535 h1536=>?_;obtain⟨qah1536,qbh1536,qch1536,qh1536⟩:=X3f h1536;obtain rfl:=X8h h1536;refine brI (λh1537=>?_) λh1537=>?_
      ·
       refine bI λu1538 h1539=>rnI [Bf,.el (aI .i64 (List.length ([]:List X4):Int)),Bt,.no] ?_;intro h;refine X5.back (by intro id h;cases h) rfl ?_;exact wkT [(5,7)] (J)
      intro h;exact absurd h1537 (by simp)
     refine bI λm1541 h1542=>?_;intro h;exact absurd h1542 (by simp[Xvt])
    refine rnI [.pure [(Lf (List.map X1 ([]:List X4))),(X1 X1k),(AV.fn 87 [])] (AV.tup [(aI .i64 v1525.1),(aB v1525.2)]),Bf,.stop 4] (o:=Xym) ?_;refine bI λe1543 h1544=>?_;try have qh1544:=Xm h1544
    intro h
    first|exact absurd (h1544) (by simp[X18];done)|(simp[X18,h1503,h1527] at h;done)|(simp[h1503,h1527] at hg;done)|exact absurd (h1544) (by simp[X18,h1503,h1527];done)
   refine bI λe1546 h1547=>?_;try have qh1547:=Xm h1547
   intro h
   first|exact absurd (h1547) (by simp[X18];done)|(simp[X18,h1503] at h;done)|(simp[h1503] at hg;done)|exact absurd (h1547) (by simp[X18,h1503];done)
  clear h;revert h1502;intro h;refine X5.inline X2 fn90 rfl rfl rfl rfl rfl trivial trivial rfl rfl ?_;revert h;refine bI λu1490 h1491=>?_;have qh1491:=X05 h1491;refine bI λo1500 h1501=>rnI [.el (aI .i64 (List.length ([]:List X4):Int))] ?_;intro h;refine wkT [] (X5.cut (drA (X0z ([]:List X4) X1k nbS qh1491) _ h1501 ?_));rcases o1500 with _|⟨X6w⟩
  ·
   refine lG rfl ?_;try dsimp only at h
   obtain rfl:=oj h;refine X0f [] ?_;refine X5.back (by intro id h;cases h) rfl ?_;exact wkT [] (J)
  refine lG rfl ?_;try dsimp only at h
  obtain rfl:=oj h;refine X0f [] ?_;refine X5.back (by intro id h;cases h) rfl ?_;exact wkT [] (J)
theorem Xce {Q:Qt} {μ:Mu} (Xis:(List X0p)) (hl:Xis.length<=140737488355328):∀ (xs:List X0p) (k:Nat) (hx:Xis.drop k=xs) (Xf:X4) (Xi:(List X4)) (Xn:Nb Xi) (o:X7l) (h:X45 Xis xs k Xf Xi=some o)
  (C0:∀ (Xj:(List X4)) (Xu:Nb Xj),o=X7l.x0 Xj->Sx 112 Q [(13,(slE Xu.1 0 (Xj.map X1)))] ([]++opE Xu.1 0 11 (Xj.map X1)) 1 μ)
  (C1:∀ (X09:(List X4)) (Xio:Int) (X08:Nb X09),o=X7l.x1 X09 Xio->Sr 112 Q [(8,(slE X08.1 0 (X09.map X1))),(9,(aI .i64 Xio))] ([]++opE X08.1 0 11 (X09.map X1)) 1 μ),
  Sl 112 Q f23 [(12,(AV.ptr 0 0 0)),(13,(slE Xn.1 1 (Xi.map X1))),(91,(Lt (Xis.map Xx))),(92,(aI .i64 (Xis.length:Int))),(93,(aI .i64 (k:Int)))] ([(0,Ob [(X1 Xf)] 11)]++opE Xn.1 1 11 (Xi.map X1)) 2 μ:=by
 intro xs
 induction xs with
 |nil =>
  intro k hx Xf Xi Xn o h C0 C1;have hk:=X2n hx;have hc:=lpN hx;rw[X45] at h;rcases Xn with ⟨_|_,X0a⟩
  ·
   refine X5.round ?_;revert h;exact λe=>X8 [Bf] (k:=wkT [(0,1)] (C0 _  nbF (oj e).symm))
  ·
   obtain rfl:=X0a rfl;refine X5.round ?_;revert h;exact λe=>X8 [Bf] (k:=wkT [] (C0 _  nbS (oj e).symm))
 |cons x xs ih =>
  intro k hx Xf Xi Xn o h C0 C1;obtain⟨hk,hg,hx1⟩:=X1w hx;have hc:=lpC hx;rw[X45] at h;rcases Xn with ⟨_|_,X0a⟩
  ·
   refine X5.round ?_;revert h;refine bI λw1890 h1937=>?_;intro h;obtain⟨X043,Xn8,Xry⟩:=w1890;try dsimp only at h
   refine X0f [Bt,.el (Xx x)] ?_;refine X5.joinOpF (λ(q:Nb Xn8)=>⟨fr [(12,(AV.ptr 0 0 0)),(91,(Lt (Xis.map Xx))),(92,(aI .i64 (Xis.length:Int))),(93,(aI .i64 (k:Int))),(101,(AV.tup [(slE q.1 1 (Xn8.map X1)),(aI .i64 Xry)]))],hp ([(0,Ob [(X1 X043)] 11)]++opE q.1 1 11 (Xn8.map X1)),2⟩) ?_ (λJ=>?_)
   ·
    rintro Xqz;rcases Xqz with ⟨_|_,Xs6⟩
    ·
     revert h;refine brI (λh1938=>λe=>X8 [Bt] (k:=wkT [] (C1 _ _  nbS (oj e).symm))) λh1938=>rnI [Bf] ?_;intro h;exact wkT [] (ih (k+1) hx1 _ _ nbF o h C0 C1)
    obtain rfl:=Xs6 rfl;revert h;refine brI (λh1939=>λe=>X8 [Bt] (k:=wkT [] (C1 _ _  nbS (oj e).symm))) λh1939=>rnI [Bf] ?_;intro h;exact wkT [] (ih (k+1) hx1 _ _ nbS o h C0 C1)
   clear h;revert h1937;intro h;refine X5.inline X2 fn58 rfl rfl rfl rfl rfl trivial trivial rfl rfl ?_;revert h;refine bI λv1891 h1892=>rnI [.pure [(Lf (Xi.map X1)),(X1 (X4.mk Xf.Key x Xf.Values)),(AV.fn 87 [])] (AV.tup [(aI .i64 v1891.1),(aB v1891.2)])] (o:=by repeat' first|apply Ya|exact pcM|exact(X4s.lent (X01 _ _ _ h1892) (cc (X00w (es:=Xi.map X1) rfl (by first|rfl|(simp;done)|(simp;rfl)|(simp[hc];done)|(simp[hc];rfl)|(simp[hc,Ym,Yd];done)|(simp[hc,Ym,Yd];rfl)) (by first|rfl|(simp;done)|(simp;omega)|(simp[hc];done)|(simp[hc];omega)) (X1s X9j Xi)) (cc (Xdo (x:=(X4.mk Xf.Key x Xf.Values))) (cc .fn0 cn))) (Xyh (X13 .sc (X13 .sc X70))))|exact X1i) ?_;refine brI (λh1893=>?_) λh1893=>?_
   ·
    refine brI (λh1894=>?_) λh1894=>?_
    ·
     refine bI λ_ h1910=>rnI [Bt] ?_;intro h;refine X5.joinOp (s':=⟨fr [(21,(AV.ref 2 0 (List.length (Xi++[(X4.mk Xf.Key x Xf.Values)]))))],hp ([(0,Ob [(X1 (X4.mk Xf.Key x Xf.Values))] 11),(2,Ob (List.map X1 (Xi++[(X4.mk Xf.Key x Xf.Values)])) 11)]),3⟩) ?_ (λJ=>?_)
     ·
      simp only[Option.some.injEq,Prod.mk.injEq] at h;obtain⟨rfl,rfl,rfl⟩:=h;refine X0f [] ?_;refine X5.back (by intro id h;cases h) rfl ?_;exact wkT [(1,2)] ((J nbF))
     clear h;revert h1910;intro h;refine X5.inline X2 fn97 rfl rfl rfl rfl rfl trivial trivial rfl rfl ?_;revert h;refine bI λm1903 h1904=>?_;obtain⟨qah1904,qbh1904,qch1904,qh1904⟩:=X3f h1904;have qlh1904:=X8i h1904;refine brI (λh1905=>?_) λh1905=>?_
     ·
      refine bI λu1906 h1907=>rnI [.ne false,Bf,.el (aI .i64 (Xi.length:Int)),Bt,.no] (o:=by repeat' first|apply Ya|exact pcM|(refine X0g h1907 rfl ?_;first|(simp<;>omega)|(simp[hc,h1893,h1894,h1905]<;>omega))|(refine Xv h1907 (by decide) ?_;first|(simp<;>omega)|(simp[hc,h1893,h1894,h1905]<;>omega))|exact X1i) ?_;intro h;refine X5.back (by intro id h;cases h) rfl ?_;exact wkT [(2,4)] (J)
     refine bI λu1908 h1909=>rnI [.via (.ref 1 (Int.toNat v1891.1) (m1903.length)),Bf,.el (aI .i64 (Xi.length:Int)),Bt,.no] ?_;intro h;refine X5.back (by intro id h;cases h) rfl ?_;exact wkT [(2,4)] (J)
    refine bI λm1911 h1912=>rnI [Bt] ?_;intro h;refine X5.hcall rfl rfl rfl rfl rfl trivial trivial (Xtt ⟨_,_,fn97⟩ (f:=X1) (l:=Xi) (x:=(X4.mk Xf.Key x Xf.Values)) h1912 rfl rfl rfl (by first|rfl|simp)) ?_;simp only[Option.some.injEq,Prod.mk.injEq] at h;obtain⟨rfl,rfl,rfl⟩:=h;refine X0f [] ?_;refine X5.back (by intro id h;cases h) rfl ?_;exact wkT [(1,4)] ((J nbF))
   refine rnI [Bf,.stop 4] ?_;refine bI λe1913 h1914=>?_;try have qh1914:=Xm h1914
   intro h;refine X5.drawnCut 5 tmD [.el (X1 e1913)] rfl rfl rfl rfl rfl (by repeat' first|apply Ya|exact X1i) ?_;revert h;refine bI λw1925 h1936=>?_;intro h;obtain⟨Xn7,X042⟩:=w1925;try dsimp only at h
   refine X0f [] ?_;refine X5.joinOpF (λ(q:Nb Xn7)=>⟨fr [(0,(slE q.1 2 (Xn7.map X1))),(27,(aI .i64 X042))],hp ([(0,Ob [(X1 (X4.mk Xf.Key x Xf.Values))] 11)]++opE q.1 2 11 (Xn7.map X1)),3⟩) ?_ (λJ=>?_)
   ·
    rintro Xqy;rcases Xqy with ⟨_|_,Xs5⟩
    ·
     simp only[Option.some.injEq,Prod.mk.injEq] at h;obtain⟨rfl,rfl,rfl⟩:=h;refine X0f [] ?_;refine X5.back (by intro id h;cases h) rfl ?_;exact wkT [(1,2)] ((J nbF))
    obtain rfl:=Xs5 rfl;simp only[Option.some.injEq,Prod.mk.injEq] at h;obtain⟨rfl,rfl,rfl⟩:=h;refine X0f [] ?_;refine X5.back (by intro id h;cases h) rfl ?_;exact wkT [] ((J nbS))
   clear h;revert h1936;intro h;refine X5.inline X2 fn92 rfl rfl rfl rfl rfl trivial trivial rfl rfl ?_;refine X0f [] ?_;refine X5.round ?_;revert h;refine bI λv1928 h1929=>brI (λh1930=>?_) λh1930=>?_
   ·
    intro h;simp only[Option.some.injEq,Prod.mk.injEq] at h;obtain⟨rfl,rfl⟩:=h;refine X0f [Bt,.ix 0,.ix 0,.ld (X1 e1913),.pure _ (AV.tup [(X0o v1928.1),(aI .i64 v1928.2)]),Bt] ?_;refine X5.back (by intro id h;cases h) rfl ?_;exact wkT [(2,1)] ((J nbF))
   refine rnI [Bt,.ix 0,.ix 0,.ld (X1 e1913),.pure _ (AV.tup [(X0o v1928.1),(aI .i64 v1928.2)]),Bf,.ix 0,.ld (X1 e1913)] ?_;intro h;refine X5.round ?_;revert h;refine bI λv1933 h1934=>rnI [Bt,.ix 1,.ix 1,.ld (X1 (X4.mk e1913.Key e1913.Span (V2.mk v1928.1 e1913.Values.e1))),.pure _ (AV.tup [(X0o v1933.1),(aI .i64 v1933.2)])] (o:=by repeat' first|apply Ya|exact pcM|exact(List.getElem?_set_self (by have hq:=Xii h1914;simp;omega)).trans rfl|exact X1i) ?_;refine brI (λh1935=>?_) λh1935=>?_
   ·
    intro h;simp only[Option.some.injEq,Prod.mk.injEq] at h;obtain⟨rfl,rfl⟩:=h;refine X0f [Bt] ?_;refine X5.back (by intro id h;cases h) rfl ?_;exact wkT [(2,1)] ((J nbF))
   refine rnI [Bf,.ix 1,.ld (X1 (X4.mk e1913.Key e1913.Span (V2.mk v1928.1 e1913.Values.e1)))] (o:=by repeat' first|apply Ya|exact pcM|exact(List.getElem?_set_self (by have hq:=Xii h1914;simp;omega)).trans rfl|exact X1i) ?_;intro h;refine X5.round ?_;simp only[Option.some.injEq,Prod.mk.injEq] at h;obtain⟨rfl,rfl⟩:=h;refine X0f [Bf] ?_;refine X5.back (by intro id h;cases h) rfl ?_;exact wkT [(2,1)] ((J nbF))
  obtain rfl:=X0a rfl;refine X5.round ?_;revert h;refine bI λw1960 h1981=>?_;intro h;obtain⟨X041,Xn6,Xrx⟩:=w1960;try dsimp only at h
  refine X0f [Bt,.el (Xx x)] ?_;refine X5.joinOpF (λ(q:Nb Xn6)=>⟨fr [(12,(AV.ptr 0 0 0)),(91,(Lt (Xis.map Xx))),(92,(aI .i64 (Xis.length:Int))),(93,(aI .i64 (k:Int))),(101,(AV.tup [(slE q.1 1 (Xn6.map X1)),(aI .i64 Xrx)]))],hp ([(0,Ob [(X1 X041)] 11)]++opE q.1 1 11 (Xn6.map X1)),2⟩) ?_ (λJ=>?_)
  ·
   rintro Xqx;rcases Xqx with ⟨_|_,Xs4⟩
   ·
    revert h;refine brI (λh1982=>λe=>X8 [Bt] (k:=wkT [] (C1 _ _  nbS (oj e).symm))) λh1982=>rnI [Bf] ?_;intro h;exact wkT [] (ih (k+1) hx1 _ _ nbF o h C0 C1)
   obtain rfl:=Xs4 rfl;revert h;refine brI (λh1983=>λe=>X8 [Bt] (k:=wkT [] (C1 _ _  nbS (oj e).symm))) λh1983=>rnI [Bf] ?_;intro h;exact wkT [] (ih (k+1) hx1 _ _ nbS o h C0 C1)
  clear h;revert h1981;intro h;refine X5.inline X2 fn58 rfl rfl rfl rfl rfl trivial trivial rfl rfl ?_;revert h;refine bI λv1961 h1962=>rnI [.pure [(Lf (List.map X1 ([]:List X4))),(X1 (X4.mk Xf.Key x Xf.Values)),(AV.fn 87 [])] (AV.tup [(aI .i64 v1961.1),(aB v1961.2)])] (o:=by repeat' first|apply Ya|exact pcM|exact(pn (X01 _ _ _ h1962) (cc (Zn X1) (cc (Xdo (x:=(X4.mk Xf.Key x Xf.Values))) (cc .fn0 cn))))|exact X1i) ?_;refine brI (λh1963=>?_) λh1963=>?_
  ·
   refine brI (λh1964=>?_) λh1964=>?_
   ·
    refine bI λ_ h1976=>rnI [Bt] ?_;intro h;refine X5.joinOp (s':=⟨fr [(21,(AV.ref 2 0 (List.length (([]:List X4)++[(X4.mk Xf.Key x Xf.Values)]))))],hp ([(0,Ob [(X1 (X4.mk Xf.Key x Xf.Values))] 11),(2,Ob (List.map X1 (([]:List X4)++[(X4.mk Xf.Key x Xf.Values)])) 11)]),3⟩) ?_ (λJ=>?_)
    ·
     simp only[Option.some.injEq,Prod.mk.injEq] at h;obtain⟨rfl,rfl,rfl⟩:=h;refine X0f [] ?_;refine X5.back (by intro id h;cases h) rfl ?_;exact wkT [(1,2)] ((J nbF))
    clear h;revert h1976;intro h;refine X5.inline X2 fn97 rfl rfl rfl rfl rfl trivial trivial rfl rfl ?_;revert h;refine bI λm1971 h1972=>?_;obtain⟨qah1972,qbh1972,qch1972,qh1972⟩:=X3f h1972;obtain rfl:=X8h h1972;refine brI (λh1973=>?_) λh1973=>?_
    ·
     refine bI λu1974 h1975=>rnI [Bf,.el (aI .i64 (List.length ([]:List X4):Int)),Bt,.no] ?_;intro h;refine X5.back (by intro id h;cases h) rfl ?_;exact wkT [(2,4)] (J)
    intro h;exact absurd h1973 (by simp)
   refine bI λm1977 h1978=>?_;intro h;exact absurd h1978 (by simp[Xvt])
  refine rnI [Bf,.stop 4] ?_;refine bI λe1979 h1980=>?_;try have qh1980:=Xm h1980
  intro h
  first|exact absurd (h1980) (by simp[X18];done)|(simp[X18,hc,h1963] at h;done)|(simp[hc,h1963] at hg;done)|exact absurd (h1980) (by simp[X18,hc,h1963];done)
end Go.Av.Tryz