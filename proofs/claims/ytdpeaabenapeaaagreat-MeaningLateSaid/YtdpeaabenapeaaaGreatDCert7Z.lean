/- Printed by decomp.py: that the program computes the functions. -/
import Derived.Test.YtdpeaabenapeaaaGreatDCert6Z
set_option linter.all false

namespace Go.Av.Tryz
open Go.Proofs Go.D
set_option maxRecDepth 10000
set_option maxHeartbeats 40000000
theorem X4z {Q:Xx->St->Mu->Prop} {μ:Mu}:∀ (n:Nat) (X0q:(List X5)) (X15:X5) (X2l:Nb X0q) (o:X30) (h:X16  n X0q X15=some o)
  (C0:∀ (X3i:(List X5)) (X8q:Int) (X2e:Nb X3i),o=X30.x0 X3i X8q->X2 Tryz.prog 54 3 Q (.exit .ret) [] ⟨fr [(4,(slE X2e.1 3 (X3i.map X3))),(5,(aI .i64 X8q))],hp ([]++opE X2e.1 3 11 (X3i.map X3)),4⟩ μ),
  X2 Tryz.prog 54 3 Q (.loop (X41 0 (Xh Tryz.f41))) [] ⟨fr [(0,(slE X2l.1 3 (X0q.map X3))),(3,(AV.ptr 4 0 0))],hp ([(4,Ob [(X3 X15)] 11)]++opE X2l.1 3 11 (X0q.map X3)),5⟩ μ:=by
 intro n
 induction n with
 |zero=>intro X0q X15 X2l o h C0;cases h
 |succ n ih =>
  intro X0q X15 X2l o h C0;rw[X16] at h;rcases X2l with ⟨_|_,Xal⟩
  ·
   refine X2.round ?_;revert h;refine bI λXc5 h1344=>rnI [] ?_;intro h;refine X2.joinOp (s':=⟨fr [(0,(AV.ref 3 0 (X0q.length))),(3,(AV.ptr 4 0 0)),(10,(aI .i64 Xc5))],hp ([(3,Ob (X0q.map X3) 11),(4,Ob [(X3 X15)] 11)]),5⟩) ?_ (λJ=>?_)
   ·
    revert h;refine brI (λh1345=>?_) λh1345=>?_
    ·
     refine bI λw1392 h1439=>?_;intro h;obtain⟨Xjt,Xqa⟩:=w1392;try dsimp only at h
     refine X0z [Bt] ?_;refine X2.joinOpF (λ(q:Nb Xjt)=>⟨fr [(15,(AV.tup [(slE q.1 3 (Xjt.map X3)),(aI .i64 Xqa)]))],hp ([]++opE q.1 3 11 (Xjt.map X3)),4⟩) ?_ (λJ=>?_)
     ·
      rintro Xml;rcases Xml with ⟨_|_,Xnt⟩
      ·
       revert h;exact λe=>X8 [] (k:=wkT [] (C0 _ _  nbF (oj e).symm))
      obtain rfl:=Xnt rfl;revert h;exact λe=>X8 [] (k:=wkT [] (C0 _ _  nbS (oj e).symm))
     clear h;revert h1439;intro h;refine X2.inline X7 fn43 rfl rfl rfl rfl rfl trivial trivial rfl rfl ?_;revert h;refine bI λv1393 h1394=>brI (λh1395=>?_) λh1395=>?_
     ·
      refine brI (λh1396=>?_) λh1396=>?_
      ·
       refine bI λ_ h1412=>rnI [.pure [(Lf (X0q.map X3)),(X3 X15),(AV.fn 56 [])] (AV.tup [(aI .i64 v1393.1),(aB v1393.2)]),Bt] (o:=by repeat' first|apply Ya|exact pcM|exact(X4y.lent (Xj _ _ _ h1394) (cc (Xlr (es:=X0q.map X3) rfl (by first|rfl|(simp;done)|(simp;rfl)|(simp[h1345];done)|(simp[h1345];rfl)|(simp[h1345,Ym,Yd];done)|(simp[h1345,Ym,Yd];rfl)) (by first|rfl|(simp;done)|(simp;omega)|(simp[h1345];done)|(simp[h1345];omega)) (X23 X5p X0q)) (cc (X75 (x:=X15)) (cc .fn0 cn))) (Xkz (X1a .sc (X1a .sc X7j))))|exact X05) ?_;intro h;refine X2.joinOp (s':=⟨fr [(21,(AV.ref 5 0 (List.length (X0q++[X15]))))],hp ([(5,Ob (List.map X3 (X0q++[X15])) 11)]),6⟩) ?_ (λJ=>?_)
       ·
        simp only[Option.some.injEq,Prod.mk.injEq] at h;obtain⟨rfl,rfl⟩:=h;refine X0z [] ?_;refine X2.back (by intro id h;cases h) rfl ?_;exact wkT [(3,5)] ((J nbF))
       clear h;revert h1412;intro h;refine X2.inline X7 fn66 rfl rfl rfl rfl rfl trivial trivial rfl rfl ?_;revert h;refine bI λm1405 h1406=>?_;obtain⟨qah1406,qbh1406,qch1406,qh1406⟩:=X20 h1406;have qlh1406:=X4t h1406;refine brI (λh1407=>?_) λh1407=>?_
       ·
        refine bI λu1408 h1409=>rnI [.ne false,Bf,.el (aI .i64 (X0q.length:Int)),Bt,.no] (o:=by repeat' first|apply Ya|exact pcM|(simp at qah1406 qbh1406 qch1406 ⊢;omega)|(simp at qah1406 qbh1406 qch1406 qlh1406 ⊢;have qz:=X27 h1407;omega)|(refine X03 h1409 rfl ?_;first|(simp<;>omega)|(simp[h1345,h1395,h1396,h1407]<;>omega))|(refine Xq h1409 (by decide) ?_;first|(simp<;>omega)|(simp[h1345,h1395,h1396,h1407]<;>omega))|exact X05) ?_;intro h;refine X2.back (by intro id h;cases h) rfl ?_;exact wkT [(5,7)] (J)
       refine bI λu1410 h1411=>rnI [.via (.ref 3 (Int.toNat v1393.1) (m1405.length)),Bf,.el (aI .i64 (X0q.length:Int)),Bt,.no] (o:=by repeat' first|apply Ya|exact pcM|(simp at qah1406 qbh1406 qch1406 ⊢;omega)|(simp at qah1406 qbh1406 qch1406 qlh1406 ⊢;have qz:=X0o h1407;omega)|(simp at qah1406 qbh1406 qch1406 qlh1406 ⊢;omega)|(simp;done)|(refine X03 h1411 rfl ?_;first|(simp<;>omega)|(simp[h1345,h1395,h1396,h1407]<;>omega))|(refine Xq h1411 (by decide) ?_;first|(simp<;>omega)|(simp[h1345,h1395,h1396,h1407]<;>omega))|exact X05) ?_;intro h;refine X2.back (by intro id h;cases h) rfl ?_;exact wkT [(5,7)] (J)
      refine bI λm1413 h1414=>rnI [.pure [(Lf (X0q.map X3)),(X3 X15),(AV.fn 56 [])] (AV.tup [(aI .i64 v1393.1),(aB v1393.2)]),Bt] (o:=by repeat' first|apply Ya|exact pcM|exact(X4y.lent (Xj _ _ _ h1394) (cc (Xlr (es:=X0q.map X3) rfl (by first|rfl|(simp;done)|(simp;rfl)|(simp[h1345];done)|(simp[h1345];rfl)|(simp[h1345,Ym,Yd];done)|(simp[h1345,Ym,Yd];rfl)) (by first|rfl|(simp;done)|(simp;omega)|(simp[h1345];done)|(simp[h1345];omega)) (X23 X5p X0q)) (cc (X75 (x:=X15)) (cc .fn0 cn))) (Xkz (X1a .sc (X1a .sc X7j))))|exact X05) ?_;intro h;refine X2.hcall rfl rfl rfl rfl rfl trivial trivial (Xor ⟨_,_,fn66⟩ (f:=X3) (l:=X0q) (x:=X15) h1414 rfl rfl rfl (by first|rfl|simp)) ?_;simp only[Option.some.injEq,Prod.mk.injEq] at h;obtain⟨rfl,rfl⟩:=h;refine X0z [] ?_;refine X2.back (by intro id h;cases h) rfl ?_;exact wkT [(3,7)] ((J nbF))
     refine rnI [.pure [(Lf (X0q.map X3)),(X3 X15),(AV.fn 56 [])] (AV.tup [(aI .i64 v1393.1),(aB v1393.2)]),Bf,.stop 4] (o:=by repeat' first|apply Ya|exact pcM|exact(X4y.lent (Xj _ _ _ h1394) (cc (Xlr (es:=X0q.map X3) rfl (by first|rfl|(simp;done)|(simp;rfl)|(simp[h1345];done)|(simp[h1345];rfl)|(simp[h1345,Ym,Yd];done)|(simp[h1345,Ym,Yd];rfl)) (by first|rfl|(simp;done)|(simp;omega)|(simp[h1345];done)|(simp[h1345];omega)) (X23 X5p X0q)) (cc (X75 (x:=X15)) (cc .fn0 cn))) (Xkz (X1a .sc (X1a .sc X7j))))|exact X05) ?_;refine bI λe1415 h1416=>?_;try have qh1416:=Xl h1416
     intro h;refine X2.drawnCut 5 tmD [.el (X3 e1415)] rfl rfl rfl rfl rfl (by repeat' first|apply Ya|exact X05) ?_;revert h;refine bI λw1427 h1438=>?_;intro h;obtain⟨Xjs,Xwt⟩:=w1427;try dsimp only at h
     refine X0z [] ?_;refine X2.joinOpF (λ(q:Nb Xjs)=>⟨fr [(0,(slE q.1 5 (Xjs.map X3))),(27,(aI .i64 Xwt))],hp ([]++opE q.1 5 11 (Xjs.map X3)),6⟩) ?_ (λJ=>?_)
     ·
      rintro Xmk;rcases Xmk with ⟨_|_,Xns⟩
      ·
       simp only[Option.some.injEq,Prod.mk.injEq] at h;obtain⟨rfl,rfl⟩:=h;refine X0z [] ?_;refine X2.back (by intro id h;cases h) rfl ?_;exact wkT [(3,5)] ((J nbF))
      obtain rfl:=Xns rfl;simp only[Option.some.injEq,Prod.mk.injEq] at h;obtain⟨rfl,rfl⟩:=h;refine X0z [] ?_;refine X2.back (by intro id h;cases h) rfl ?_;exact wkT [] ((J nbS))
     clear h;revert h1438;intro h;refine X2.inline X7 fn61 rfl rfl rfl rfl rfl trivial trivial rfl rfl ?_;refine X0z [] ?_;refine X2.round ?_;revert h;refine bI λv1430 h1431=>brI (λh1432=>?_) λh1432=>?_
     ·
      intro h;simp only[Option.some.injEq,Prod.mk.injEq] at h;obtain⟨rfl,rfl⟩:=h;refine X0z [Bt,.ix 0,.ix 0,.ld (X3 e1415),.pure _ (AV.tup [(X0i v1430.1),(aI .i64 v1430.2)]),Bt] ?_;refine X2.back (by intro id h;cases h) rfl ?_;exact wkT [(5,3)] ((J nbF))
     refine rnI [Bt,.ix 0,.ix 0,.ld (X3 e1415),.pure _ (AV.tup [(X0i v1430.1),(aI .i64 v1430.2)]),Bf,.ix 0,.ld (X3 e1415)] (o:=by repeat' first|apply Ya|exact pcM|exact(List.getElem?_set_self (by have hq:=X1j h1416;simp;omega)).trans rfl|exact X05) ?_;intro h;refine X2.round ?_;revert h;refine bI λv1435 h1436=>rnI [Bt,.ix 1,.ix 1,.ld (X3 (X5.mk e1415.Key e1415.Span (V2.mk v1430.1 e1415.Values.e1))),.pure _ (AV.tup [(X0i v1435.1),(aI .i64 v1435.2)])] (o:=by repeat' first|apply Ya|exact pcM|exact(List.getElem?_set_self (by have hq:=X1j h1416;simp;omega)).trans rfl|exact X05) ?_;refine brI (λh1437=>?_) λh1437=>?_
     ·
      intro h;simp only[Option.some.injEq,Prod.mk.injEq] at h;obtain⟨rfl,rfl⟩:=h;refine X0z [Bt] (o:=by repeat' first|apply Ya|exact pcM|exact(List.getElem?_set_self (by have hq:=X1j h1416;simp;omega)).trans rfl|exact X05) ?_;refine X2.back (by intro id h;cases h) rfl ?_;exact wkT [(5,3)] ((J nbF))
     refine rnI [Bf,.ix 1,.ld (X3 (X5.mk e1415.Key e1415.Span (V2.mk v1430.1 e1415.Values.e1)))] (o:=by repeat' first|apply Ya|exact pcM|exact(List.getElem?_set_self (by have hq:=X1j h1416;simp;omega)).trans rfl|exact X05) ?_;intro h;refine X2.round ?_;simp only[Option.some.injEq,Prod.mk.injEq] at h;obtain⟨rfl,rfl⟩:=h;refine X0z [Bf] (o:=by repeat' first|apply Ya|exact pcM|exact(List.getElem?_set_self (by have hq:=X1j h1416;simp;omega)).trans rfl|exact X05) ?_;refine X2.back (by intro id h;cases h) rfl ?_;exact wkT [(5,3)] ((J nbF))
    refine bI λe1440 h1441=>?_;try have qh1441:=Xl h1441
    refine bI λw1452 h1463=>?_;intro h;obtain⟨Xwr,Xws⟩:=w1452;try dsimp only at h
    refine X0z [Bf,.el (X3 e1440),.ld (X3 e1440)] ?_;refine X2.joinOp (s':=⟨fr [(0,(AV.ref 3 0 (X0q.length))),(3,(AV.ptr 4 0 0)),(6,(aI .i64 Xc5)),(23,(aI .i64 Xws))],hp ([(3,Ob (X0q.map X3) 11),(4,Ob [(X3 Xwr)] 11)]),5⟩) ?_ (λJ=>?_)
    ·
     revert h;refine brI (λh1464=>λe=>X8 [Bt] (k:=wkT [] (C0 _ _  nbS (oj e).symm))) λh1464=>bI λm1465 h1466=>rnI [Bf,.el (X3 e1440),.ld (X3 e1440),.el (X3 e1440),.ld (X3 e1440),.wrap] ?_;intro h;refine X2.hcall rfl rfl rfl rfl rfl trivial trivial (Xx8 ⟨_,_,fn62⟩ (f:=X3) (l:=X0q) h1466 rfl rfl (by first|rfl|simp)) ?_;exact X8 [] (k:=wkT [(3,28)] (ih  _ _ nbF o h C0))
    clear h;revert h1463;intro h;refine X2.inline X7 fn61 rfl rfl rfl rfl rfl trivial trivial rfl rfl ?_;refine X0z [] ?_;refine X2.round ?_;revert h;refine bI λv1455 h1456=>brI (λh1457=>?_) λh1457=>?_
    ·
     intro h;simp only[Option.some.injEq,Prod.mk.injEq] at h;obtain⟨rfl,rfl⟩:=h;refine X0z [Bt,.ix 0,.ix 0,.pure _ (AV.tup [(X0i v1455.1),(aI .i64 v1455.2)]),Bt] ?_;refine X2.back (by intro id h;cases h) rfl ?_;exact wkT [] (J)
    refine rnI [Bt,.ix 0,.ix 0,.pure _ (AV.tup [(X0i v1455.1),(aI .i64 v1455.2)]),Bf,.ix 0] ?_;intro h;refine X2.round ?_;revert h;refine bI λv1460 h1461=>brI (λh1462=>?_) λh1462=>?_
    ·
     intro h;simp only[Option.some.injEq,Prod.mk.injEq] at h;obtain⟨rfl,rfl⟩:=h;refine X0z [Bt,.ix 1,.ix 1,.pure _ (AV.tup [(X0i v1460.1),(aI .i64 v1460.2)]),Bt] ?_;refine X2.back (by intro id h;cases h) rfl ?_;exact wkT [] (J)
    refine rnI [Bt,.ix 1,.ix 1,.pure _ (AV.tup [(X0i v1460.1),(aI .i64 v1460.2)]),Bf,.ix 1] ?_;intro h;refine X2.round ?_;simp only[Option.some.injEq,Prod.mk.injEq] at h;obtain⟨rfl,rfl⟩:=h;refine X0z [Bf] ?_;refine X2.back (by intro id h;cases h) rfl ?_;exact wkT [] (J)
   clear h;revert h1344;intro h;refine X2.inline X7 fn59 rfl rfl rfl rfl rfl trivial trivial rfl rfl ?_;revert h;refine bI λu1330 h1331=>?_;have qh1331:=X0b h1331;refine bI λo1342 h1343=>rnI [.el (aI .i64 (X0q.length:Int))] ?_;intro h;refine wkT [] (X2.cut (X0y X0q X15 nbF qh1331 X0q 0 (by simp) _ h1343 ?_ ?_))
   ·
    intro eo1342;subst eo1342;refine X2.glue ?_;try dsimp only at h
    obtain rfl:=oj h;refine X0z [] ?_;refine X2.back (by intro id h;cases h) rfl ?_;exact wkT [] (J)
   intro X8p eo1342;subst eo1342;refine X2.glue ?_;try dsimp only at h
   obtain rfl:=oj h;refine X0z [] ?_;refine X2.back (by intro id h;cases h) rfl ?_;exact wkT [] (J)
  obtain rfl:=Xal rfl;refine X2.round ?_;revert h;refine bI λXwq h1502=>rnI [] ?_;intro h;refine X2.joinOp (s':=⟨fr [(0,AV.nils),(3,(AV.ptr 4 0 0)),(10,(aI .i64 Xwq))],hp ([(4,Ob [(X3 X15)] 11)]),5⟩) ?_ (λJ=>?_)
  ·
   revert h;refine brI (λh1503=>?_) λh1503=>?_
   ·
    refine bI λw1524 h1545=>?_;intro h;obtain⟨Xjr,Xq9⟩:=w1524;try dsimp only at h
    refine X0z [Bt] ?_;refine X2.joinOpF (λ(q:Nb Xjr)=>⟨fr [(15,(AV.tup [(slE q.1 3 (Xjr.map X3)),(aI .i64 Xq9)]))],hp ([]++opE q.1 3 11 (Xjr.map X3)),4⟩) ?_ (λJ=>?_)
    ·
     rintro Xmj;rcases Xmj with ⟨_|_,Xnr⟩
     ·
      revert h;exact λe=>X8 [] (k:=wkT [] (C0 _ _  nbF (oj e).symm))
     obtain rfl:=Xnr rfl;revert h;exact λe=>X8 [] (k:=wkT [] (C0 _ _  nbS (oj e).symm))
    clear h;revert h1545;intro h;refine X2.inline X7 fn43 rfl rfl rfl rfl rfl trivial trivial rfl rfl ?_;revert h;refine bI λv1525 h1526=>brI (λh1527=>?_) λh1527=>?_
    ·
     refine brI (λh1528=>?_) λh1528=>?_
     ·
      refine bI λ_ h1540=>rnI [.pure [(Lf (List.map X3 ([]:List X5))),(X3 X15),(AV.fn 56 [])] (AV.tup [(aI .i64 v1525.1),(aB v1525.2)]),Bt] (o:=by repeat' first|apply Ya|exact pcM|exact(pn (Xj _ _ _ h1526) (cc (Zn X3) (cc (X75 (x:=X15)) (cc .fn0 cn))))|exact X05) ?_;intro h;refine X2.joinOp (s':=⟨fr [(21,(AV.ref 5 0 (List.length (([]:List X5)++[X15]))))],hp ([(5,Ob (List.map X3 (([]:List X5)++[X15])) 11)]),6⟩) ?_ (λJ=>?_)
      ·
       simp only[Option.some.injEq,Prod.mk.injEq] at h;obtain⟨rfl,rfl⟩:=h;refine X0z [] ?_;refine X2.back (by intro id h;cases h) rfl ?_;exact wkT [(3,5)] ((J nbF))
      clear h;revert h1540;intro h;refine X2.inline X7 fn66 rfl rfl rfl rfl rfl trivial trivial rfl rfl ?_;revert h;refine bI λm1535 h1536=>?_;obtain⟨qah1536,qbh1536,qch1536,qh1536⟩:=X20 h1536;obtain rfl:=X7q h1536;refine brI (λh1537=>?_) λh1537=>?_
      ·
       refine bI λu1538 h1539=>rnI [Bf,.el (aI .i64 (List.length ([]:List X5):Int)),Bt,.no] (o:=by repeat' first|apply Ya|exact pcM|(simp at qah1536 qbh1536 qch1536 ⊢;omega)|(refine X03 h1539 rfl ?_;first|(simp<;>omega)|(simp[h1503,h1527,h1528,h1537]<;>omega))|(refine Xq h1539 (by decide) ?_;first|(simp<;>omega)|(simp[h1503,h1527,h1528,h1537]<;>omega))|exact X05) ?_;intro h;refine X2.back (by intro id h;cases h) rfl ?_;exact wkT [(5,7)] (J)
      intro h;exact absurd h1537 (by simp)
     refine bI λm1541 h1542=>?_;intro h;exact absurd h1542 (by simp[Xqb])
    refine rnI [.pure [(Lf (List.map X3 ([]:List X5))),(X3 X15),(AV.fn 56 [])] (AV.tup [(aI .i64 v1525.1),(aB v1525.2)]),Bf,.stop 4] (o:=by repeat' first|apply Ya|exact pcM|exact(pn (Xj _ _ _ h1526) (cc (Zn X3) (cc (X75 (x:=X15)) (cc .fn0 cn))))|exact X05) ?_;refine bI λe1543 h1544=>?_;try have qh1544:=Xl h1544
    intro h
    first|exact absurd (h1544) (by simp[X0u];done)|(simp[X0u,h1503,h1527] at h;done)|(simp[h1503,h1527] at hg;done)|exact absurd (h1544) (by simp[X0u,h1503,h1527];done)
   refine bI λe1546 h1547=>?_;try have qh1547:=Xl h1547
   intro h
   first|exact absurd (h1547) (by simp[X0u];done)|(simp[X0u,h1503] at h;done)|(simp[h1503] at hg;done)|exact absurd (h1547) (by simp[X0u,h1503];done)
  clear h;revert h1502;intro h;refine X2.inline X7 fn59 rfl rfl rfl rfl rfl trivial trivial rfl rfl ?_;revert h;refine bI λu1490 h1491=>?_;have qh1491:=X0b h1491;refine bI λo1500 h1501=>rnI [.el (aI .i64 (List.length ([]:List X5):Int))] ?_;intro h;refine wkT [] (X2.cut (X0y ([]:List X5) X15 nbS qh1491 ([]:List X5) 0 (by simp) _ h1501 ?_ ?_))
  ·
   intro eo1500;subst eo1500;refine X2.glue ?_;try dsimp only at h
   obtain rfl:=oj h;refine X0z [] ?_;refine X2.back (by intro id h;cases h) rfl ?_;exact wkT [] (J)
  intro X8p eo1500;subst eo1500;refine X2.glue ?_;try dsimp only at h
  obtain rfl:=oj h;refine X0z [] ?_;refine X2.back (by intro id h;cases h) rfl ?_;exact wkT [] (J)
theorem Xba {Q:Xx->St->Mu->Prop} {μ:Mu} (Xdu:(List X0k)) (hl:Xdu.length<=140737488355328):∀ (xs:List X0k) (k:Nat) (hx:Xdu.drop k=xs) (Xb:X5) (Xc:(List X5)) (Xp:Nb Xc) (o:X76) (h:X3h Xdu xs k Xb Xc=some o)
  (C0:∀ (Xo:(List X5)) (Xz:Nb Xo),o=X76.x0 Xo->X2 Tryz.prog 112 0 Q (.exit (.exit 0)) [] ⟨fr [(13,(slE Xz.1 0 (Xo.map X3)))],hp ([]++opE Xz.1 0 11 (Xo.map X3)),1⟩ μ)
  (C1:∀ (X00:(List X5)) (Xfz:Int) (Xy:Nb X00),o=X76.x1 X00 Xfz->X2 Tryz.prog 112 0 Q (.exit .ret) [] ⟨fr [(8,(slE Xy.1 0 (X00.map X3))),(9,(aI .i64 Xfz))],hp ([]++opE Xy.1 0 11 (X00.map X3)),1⟩ μ),
  X2 Tryz.prog 112 0 Q (.loop (X41 0 (Xh Tryz.f22))) [] ⟨fr [(12,(AV.ptr 0 0 0)),(13,(slE Xp.1 1 (Xc.map X3))),(91,(Lt (Xdu.map Xw))),(92,(aI .i64 (Xdu.length:Int))),(93,(aI .i64 (k:Int)))],hp ([(0,Ob [(X3 Xb)] 11)]++opE Xp.1 1 11 (Xc.map X3)),2⟩ μ:=by
 intro xs
 induction xs with
 |nil =>
  intro k hx Xb Xc Xp o h C0 C1;have hk:=X11 hx;have hc:decide ((k:Int)<(Xdu.length:Int))=false:=Yf om;rw[X3h] at h;rcases Xp with ⟨_|_,X02⟩
  ·
   refine X2.round ?_;revert h;exact λe=>X8 [Bf] (k:=wkT [(0,1)] (C0 _  nbF (oj e).symm))
  ·
   obtain rfl:=X02 rfl;refine X2.round ?_;revert h;exact λe=>X8 [Bf] (k:=wkT [] (C0 _  nbS (oj e).symm))
 |cons x xs ih =>
  intro k hx Xb Xc Xp o h C0 C1;obtain⟨hk,hg,hx1⟩:=X0f hx;have hc:decide ((k:Int)<(Xdu.length:Int))=true:=Yt om;rw[X3h] at h;rcases Xp with ⟨_|_,X02⟩
  ·
   refine X2.round ?_;revert h;refine bI λw1890 h1937=>?_;intro h;obtain⟨Xwp,Xjp,Xnj⟩:=w1890;try dsimp only at h
   refine X0z [Bt,.el (Xw x)] ?_;refine X2.joinOpF (λ(q:Nb Xjp)=>⟨fr [(12,(AV.ptr 0 0 0)),(91,(Lt (Xdu.map Xw))),(92,(aI .i64 (Xdu.length:Int))),(93,(aI .i64 (k:Int))),(101,(AV.tup [(slE q.1 1 (Xjp.map X3)),(aI .i64 Xnj)]))],hp ([(0,Ob [(X3 Xwp)] 11)]++opE q.1 1 11 (Xjp.map X3)),2⟩) ?_ (λJ=>?_)
   ·
    rintro Xmi;rcases Xmi with ⟨_|_,Xnq⟩
    ·
     revert h;refine brI (λh1938=>λe=>X8 [Bt] (k:=wkT [] (C1 _ _  nbS (oj e).symm))) λh1938=>rnI [Bf] ?_;intro h;exact wkT [] (ih (k+1) hx1 _ _ nbF o h C0 C1)
    obtain rfl:=Xnq rfl;revert h;refine brI (λh1939=>λe=>X8 [Bt] (k:=wkT [] (C1 _ _  nbS (oj e).symm))) λh1939=>rnI [Bf] ?_;intro h;exact wkT [] (ih (k+1) hx1 _ _ nbS o h C0 C1)
   clear h;revert h1937;intro h;refine X2.inline X7 fn43 rfl rfl rfl rfl rfl trivial trivial rfl rfl ?_;revert h;refine bI λv1891 h1892=>rnI [.pure [(Lf (Xc.map X3)),(X3 (X5.mk Xb.Key x Xb.Values)),(AV.fn 56 [])] (AV.tup [(aI .i64 v1891.1),(aB v1891.2)])] (o:=by repeat' first|apply Ya|exact pcM|exact(X4y.lent (Xj _ _ _ h1892) (cc (Xlr (es:=Xc.map X3) rfl (by first|rfl|(simp;done)|(simp;rfl)|(simp[hc];done)|(simp[hc];rfl)|(simp[hc,Ym,Yd];done)|(simp[hc,Ym,Yd];rfl)) (by first|rfl|(simp;done)|(simp;omega)|(simp[hc];done)|(simp[hc];omega)) (X23 X5p Xc)) (cc (X75 (x:=(X5.mk Xb.Key x Xb.Values))) (cc .fn0 cn))) (Xkz (X1a .sc (X1a .sc X7j))))|exact X05) ?_;refine brI (λh1893=>?_) λh1893=>?_
   ·
    refine brI (λh1894=>?_) λh1894=>?_
    ·
     refine bI λ_ h1910=>rnI [Bt] ?_;intro h;refine X2.joinOp (s':=⟨fr [(21,(AV.ref 2 0 (List.length (Xc++[(X5.mk Xb.Key x Xb.Values)]))))],hp ([(0,Ob [(X3 (X5.mk Xb.Key x Xb.Values))] 11),(2,Ob (List.map X3 (Xc++[(X5.mk Xb.Key x Xb.Values)])) 11)]),3⟩) ?_ (λJ=>?_)
     ·
      simp only[Option.some.injEq,Prod.mk.injEq] at h;obtain⟨rfl,rfl,rfl⟩:=h;refine X0z [] ?_;refine X2.back (by intro id h;cases h) rfl ?_;exact wkT [(1,2)] ((J nbF))
     clear h;revert h1910;intro h;refine X2.inline X7 fn66 rfl rfl rfl rfl rfl trivial trivial rfl rfl ?_;revert h;refine bI λm1903 h1904=>?_;obtain⟨qah1904,qbh1904,qch1904,qh1904⟩:=X20 h1904;have qlh1904:=X4t h1904;refine brI (λh1905=>?_) λh1905=>?_
     ·
      refine bI λu1906 h1907=>rnI [.ne false,Bf,.el (aI .i64 (Xc.length:Int)),Bt,.no] (o:=by repeat' first|apply Ya|exact pcM|(simp at qah1904 qbh1904 qch1904 ⊢;omega)|(simp at qah1904 qbh1904 qch1904 qlh1904 ⊢;have qz:=X27 h1905;omega)|(refine X03 h1907 rfl ?_;first|(simp<;>omega)|(simp[hc,h1893,h1894,h1905]<;>omega))|(refine Xq h1907 (by decide) ?_;first|(simp<;>omega)|(simp[hc,h1893,h1894,h1905]<;>omega))|exact X05) ?_;intro h;refine X2.back (by intro id h;cases h) rfl ?_;exact wkT [(2,4)] (J)
     refine bI λu1908 h1909=>rnI [.via (.ref 1 (Int.toNat v1891.1) (m1903.length)),Bf,.el (aI .i64 (Xc.length:Int)),Bt,.no] (o:=by repeat' first|apply Ya|exact pcM|(simp at qah1904 qbh1904 qch1904 ⊢;omega)|(simp at qah1904 qbh1904 qch1904 qlh1904 ⊢;have qz:=X0o h1905;omega)|(simp at qah1904 qbh1904 qch1904 qlh1904 ⊢;omega)|(simp;done)|(refine X03 h1909 rfl ?_;first|(simp<;>omega)|(simp[hc,h1893,h1894,h1905]<;>omega))|(refine Xq h1909 (by decide) ?_;first|(simp<;>omega)|(simp[hc,h1893,h1894,h1905]<;>omega))|exact X05) ?_;intro h;refine X2.back (by intro id h;cases h) rfl ?_;exact wkT [(2,4)] (J)
    refine bI λm1911 h1912=>rnI [Bt] ?_;intro h;refine X2.hcall rfl rfl rfl rfl rfl trivial trivial (Xor ⟨_,_,fn66⟩ (f:=X3) (l:=Xc) (x:=(X5.mk Xb.Key x Xb.Values)) h1912 rfl rfl rfl (by first|rfl|simp)) ?_;simp only[Option.some.injEq,Prod.mk.injEq] at h;obtain⟨rfl,rfl,rfl⟩:=h;refine X0z [] ?_;refine X2.back (by intro id h;cases h) rfl ?_;exact wkT [(1,4)] ((J nbF))
   refine rnI [Bf,.stop 4] ?_;refine bI λe1913 h1914=>?_;try have qh1914:=Xl h1914
   intro h;refine X2.drawnCut 5 tmD [.el (X3 e1913)] rfl rfl rfl rfl rfl (by repeat' first|apply Ya|exact X05) ?_;revert h;refine bI λw1925 h1936=>?_;intro h;obtain⟨Xjo,Xwo⟩:=w1925;try dsimp only at h
   refine X0z [] ?_;refine X2.joinOpF (λ(q:Nb Xjo)=>⟨fr [(0,(slE q.1 2 (Xjo.map X3))),(27,(aI .i64 Xwo))],hp ([(0,Ob [(X3 (X5.mk Xb.Key x Xb.Values))] 11)]++opE q.1 2 11 (Xjo.map X3)),3⟩) ?_ (λJ=>?_)
   ·
    rintro Xmh;rcases Xmh with ⟨_|_,Xnp⟩
    ·
     simp only[Option.some.injEq,Prod.mk.injEq] at h;obtain⟨rfl,rfl,rfl⟩:=h;refine X0z [] ?_;refine X2.back (by intro id h;cases h) rfl ?_;exact wkT [(1,2)] ((J nbF))
    obtain rfl:=Xnp rfl;simp only[Option.some.injEq,Prod.mk.injEq] at h;obtain⟨rfl,rfl,rfl⟩:=h;refine X0z [] ?_;refine X2.back (by intro id h;cases h) rfl ?_;exact wkT [] ((J nbS))
   clear h;revert h1936;intro h;refine X2.inline X7 fn61 rfl rfl rfl rfl rfl trivial trivial rfl rfl ?_;refine X0z [] ?_;refine X2.round ?_;revert h;refine bI λv1928 h1929=>brI (λh1930=>?_) λh1930=>?_
   ·
    intro h;simp only[Option.some.injEq,Prod.mk.injEq] at h;obtain⟨rfl,rfl⟩:=h;refine X0z [Bt,.ix 0,.ix 0,.ld (X3 e1913),.pure _ (AV.tup [(X0i v1928.1),(aI .i64 v1928.2)]),Bt] ?_;refine X2.back (by intro id h;cases h) rfl ?_;exact wkT [(2,1)] ((J nbF))
   refine rnI [Bt,.ix 0,.ix 0,.ld (X3 e1913),.pure _ (AV.tup [(X0i v1928.1),(aI .i64 v1928.2)]),Bf,.ix 0,.ld (X3 e1913)] (o:=by repeat' first|apply Ya|exact pcM|exact(List.getElem?_set_self (by have hq:=X1j h1914;simp;omega)).trans rfl|exact X05) ?_;intro h;refine X2.round ?_;revert h;refine bI λv1933 h1934=>rnI [Bt,.ix 1,.ix 1,.ld (X3 (X5.mk e1913.Key e1913.Span (V2.mk v1928.1 e1913.Values.e1))),.pure _ (AV.tup [(X0i v1933.1),(aI .i64 v1933.2)])] (o:=by repeat' first|apply Ya|exact pcM|exact(List.getElem?_set_self (by have hq:=X1j h1914;simp;omega)).trans rfl|exact X05) ?_;refine brI (λh1935=>?_) λh1935=>?_
   ·
    intro h;simp only[Option.some.injEq,Prod.mk.injEq] at h;obtain⟨rfl,rfl⟩:=h;refine X0z [Bt] (o:=by repeat' first|apply Ya|exact pcM|exact(List.getElem?_set_self (by have hq:=X1j h1914;simp;omega)).trans rfl|exact X05) ?_;refine X2.back (by intro id h;cases h) rfl ?_;exact wkT [(2,1)] ((J nbF))
   refine rnI [Bf,.ix 1,.ld (X3 (X5.mk e1913.Key e1913.Span (V2.mk v1928.1 e1913.Values.e1)))] (o:=by repeat' first|apply Ya|exact pcM|exact(List.getElem?_set_self (by have hq:=X1j h1914;simp;omega)).trans rfl|exact X05) ?_;intro h;refine X2.round ?_;simp only[Option.some.injEq,Prod.mk.injEq] at h;obtain⟨rfl,rfl⟩:=h;refine X0z [Bf] (o:=by repeat' first|apply Ya|exact pcM|exact(List.getElem?_set_self (by have hq:=X1j h1914;simp;omega)).trans rfl|exact X05) ?_;refine X2.back (by intro id h;cases h) rfl ?_;exact wkT [(2,1)] ((J nbF))
  obtain rfl:=X02 rfl;refine X2.round ?_;revert h;refine bI λw1960 h1981=>?_;intro h;obtain⟨Xwn,Xjn,Xni⟩:=w1960;try dsimp only at h
  refine X0z [Bt,.el (Xw x)] ?_;refine X2.joinOpF (λ(q:Nb Xjn)=>⟨fr [(12,(AV.ptr 0 0 0)),(91,(Lt (Xdu.map Xw))),(92,(aI .i64 (Xdu.length:Int))),(93,(aI .i64 (k:Int))),(101,(AV.tup [(slE q.1 1 (Xjn.map X3)),(aI .i64 Xni)]))],hp ([(0,Ob [(X3 Xwn)] 11)]++opE q.1 1 11 (Xjn.map X3)),2⟩) ?_ (λJ=>?_)
  ·
   rintro Xmg;rcases Xmg with ⟨_|_,Xno⟩
   ·
    revert h;refine brI (λh1982=>λe=>X8 [Bt] (k:=wkT [] (C1 _ _  nbS (oj e).symm))) λh1982=>rnI [Bf] ?_;intro h;exact wkT [] (ih (k+1) hx1 _ _ nbF o h C0 C1)
   obtain rfl:=Xno rfl;revert h;refine brI (λh1983=>λe=>X8 [Bt] (k:=wkT [] (C1 _ _  nbS (oj e).symm))) λh1983=>rnI [Bf] ?_;intro h;exact wkT [] (ih (k+1) hx1 _ _ nbS o h C0 C1)
  clear h;revert h1981;intro h;refine X2.inline X7 fn43 rfl rfl rfl rfl rfl trivial trivial rfl rfl ?_;revert h;refine bI λv1961 h1962=>rnI [.pure [(Lf (List.map X3 ([]:List X5))),(X3 (X5.mk Xb.Key x Xb.Values)),(AV.fn 56 [])] (AV.tup [(aI .i64 v1961.1),(aB v1961.2)])] (o:=by repeat' first|apply Ya|exact pcM|exact(pn (Xj _ _ _ h1962) (cc (Zn X3) (cc (X75 (x:=(X5.mk Xb.Key x Xb.Values))) (cc .fn0 cn))))|exact X05) ?_;refine brI (λh1963=>?_) λh1963=>?_
  ·
   refine brI (λh1964=>?_) λh1964=>?_
   ·
    refine bI λ_ h1976=>rnI [Bt] ?_;intro h;refine X2.joinOp (s':=⟨fr [(21,(AV.ref 2 0 (List.length (([]:List X5)++[(X5.mk Xb.Key x Xb.Values)]))))],hp ([(0,Ob [(X3 (X5.mk Xb.Key x Xb.Values))] 11),(2,Ob (List.map X3 (([]:List X5)++[(X5.mk Xb.Key x Xb.Values)])) 11)]),3⟩) ?_ (λJ=>?_)
    ·
     simp only[Option.some.injEq,Prod.mk.injEq] at h;obtain⟨rfl,rfl,rfl⟩:=h;refine X0z [] ?_;refine X2.back (by intro id h;cases h) rfl ?_;exact wkT [(1,2)] ((J nbF))
    clear h;revert h1976;intro h;refine X2.inline X7 fn66 rfl rfl rfl rfl rfl trivial trivial rfl rfl ?_;revert h;refine bI λm1971 h1972=>?_;obtain⟨qah1972,qbh1972,qch1972,qh1972⟩:=X20 h1972;obtain rfl:=X7q h1972;refine brI (λh1973=>?_) λh1973=>?_
    ·
     refine bI λu1974 h1975=>rnI [Bf,.el (aI .i64 (List.length ([]:List X5):Int)),Bt,.no] (o:=by repeat' first|apply Ya|exact pcM|(simp at qah1972 qbh1972 qch1972 ⊢;omega)|(refine X03 h1975 rfl ?_;first|(simp<;>omega)|(simp[hc,h1963,h1964,h1973]<;>omega))|(refine Xq h1975 (by decide) ?_;first|(simp<;>omega)|(simp[hc,h1963,h1964,h1973]<;>omega))|exact X05) ?_;intro h;refine X2.back (by intro id h;cases h) rfl ?_;exact wkT [(2,4)] (J)
    intro h;exact absurd h1973 (by simp)
   refine bI λm1977 h1978=>?_;intro h;exact absurd h1978 (by simp[Xqb])
  refine rnI [Bf,.stop 4] ?_;refine bI λe1979 h1980=>?_;try have qh1980:=Xl h1980
  intro h
  first|exact absurd (h1980) (by simp[X0u];done)|(simp[X0u,hc,h1963] at h;done)|(simp[hc,h1963] at hg;done)|exact absurd (h1980) (by simp[X0u,hc,h1963];done)
end Go.Av.Tryz