/- Printed by decomp.py: that the program computes the functions. -/
import Derived.Test.YtomaojndejpfgaaGreatDoorDCert6Z
set_option linter.all false

namespace Go.Av.Tryz
open Go.Proofs Go.D Go.Proofs.Tryz
set_option maxRecDepth 10000
set_option maxHeartbeats 40000000
theorem Xsb {P:Prop} (h:P:=by repeat' first|apply Ya|exact pcM|exact(X4e.lent (X04 _ _ _ h1394) (cc (X01x (es:=X0t.map X1) rfl (by first|rfl|(simp;done)|(simp;rfl)|(simp[h1345];done)|(simp[h1345];rfl)|(simp[h1345,Ym,Yd];done)|(simp[h1345,Ym,Yd];rfl)) (by first|rfl|(simp;done)|(simp;omega)|(simp[h1345];done)|(simp[h1345];omega)) (X1s Xa3 X0t)) (cc (Xe2 (x:=X1k)) (cc .fn0 cn))) (Xuj (X14 .sc (X14 .sc X74))))|exact X24):P:=h
theorem Xzm {P:Prop} (h:P:=by repeat' first|apply Ya|exact pcM|exact(pn (X04 _ _ _ h1526) (cc (Zn X1) (cc (Xe2 (x:=X1k)) (cc .fn0 cn))))|exact X24):P:=h
theorem X5l {Q:Qt} {μ:Mu}:∀ (n:Nat) (X0t:(List X3)) (X1k:X3) (X3b:Nb X0t) (o:X3j) (h:X18  n X0t X1k=some o)
  (C0:∀ (X44:(List X3)) (Xaz:Int) (X30:Nb X44),o=X3j.x0 X44 Xaz->X7 Tryz.prog 54 3 Q (.exit .ret) [] ⟨fr [(4,(slE X30.1 3 (X44.map X1))),(5,(aI .i64 Xaz))],hp ([]++opE X30.1 3 11 (X44.map X1)),4⟩ μ),
  X7 Tryz.prog 54 3 Q (.loop (X64 0 (X1l Tryz.f61))) [] ⟨fr [(0,(slE X3b.1 3 (X0t.map X1))),(3,(AV.ptr 4 0 0))],hp ([(4,Ob [(X1 X1k)] 11)]++opE X3b.1 3 11 (X0t.map X1)),5⟩ μ:=by
 intro n
 induction n with
 |zero=>intro X0t X1k X3b o h C0;cases h
 |succ n ih =>
  intro X0t X1k X3b o h C0;rw[X18] at h;rcases X3b with ⟨_|_,Xca⟩
  ·
   refine X7.round ?_;revert h;refine bI λXdv h1344=>rnI [] ?_;intro h;refine X7.joinOp (s':=⟨fr [(0,(AV.ref 3 0 (X0t.length))),(3,(AV.ptr 4 0 0)),(10,(aI .i64 Xdv))],hp ([(3,Ob (X0t.map X1) 11),(4,Ob [(X1 X1k)] 11)]),5⟩) ?_ (λJ=>?_)
   ·
    revert h;refine brI (λh1345=>?_) λh1345=>?_
    ·
     refine bI λw1392 h1439=>?_;intro h;obtain⟨Xop,Xww⟩:=w1392;try dsimp only at h
     refine X0q [Bt] ?_;refine X7.joinOpF (λ(q:Nb Xop)=>⟨fr [(15,(AV.tup [(slE q.1 3 (Xop.map X1)),(aI .i64 Xww)]))],hp ([]++opE q.1 3 11 (Xop.map X1)),4⟩) ?_ (λJ=>?_)
     ·
      rintro Xsj;rcases Xsj with ⟨_|_,Xtn⟩
      ·
       revert h;exact λe=>X8 [] (k:=wkT [] (C0 _ _  nbF (oj e).symm))
      obtain rfl:=Xtn rfl;revert h;exact λe=>X8 [] (k:=wkT [] (C0 _ _  nbS (oj e).symm))
     clear h;revert h1439;intro h;refine X7.inline Xf fn63 rfl rfl rfl rfl rfl trivial trivial rfl rfl ?_;revert h;refine bI λv1393 h1394=>brI (λh1395=>?_) λh1395=>?_
     ·
      refine brI (λh1396=>?_) λh1396=>?_
      ·
       refine bI λ_ h1412=>rnI [.pure [(Lf (X0t.map X1)),(X1 X1k),(AV.fn 89 [])] (AV.tup [(aI .i64 v1393.1),(aB v1393.2)]),Bt] (o:=Xsb) ?_;intro h;refine X7.joinOp (s':=⟨fr [(21,(AV.ref 5 0 (List.length (X0t++[X1k]))))],hp ([(5,Ob (List.map X1 (X0t++[X1k])) 11)]),6⟩) ?_ (λJ=>?_)
       ·
        cases oj h
        refine X0q [] ?_;refine X7.back (by intro id h;cases h) rfl ?_;exact wkT [(3,5)] ((J nbF))
       clear h;revert h1412;intro h;refine X7.inline Xf fn99 rfl rfl rfl rfl rfl trivial trivial rfl rfl ?_;revert h;refine bI λm1405 h1406=>?_;obtain⟨qah1406,qbh1406,qch1406,qh1406⟩:=X2h h1406;have qlh1406:=X5e h1406;refine brI (λh1407=>?_) λh1407=>?_
       ·
        refine bI λu1408 h1409=>rnI [.ne false,Bf,.el (aI .i64 (X0t.length:Int)),Bt,.no] (o:=by repeat' first|apply Ya|exact pcM|(refine X1r h1409 rfl ?_;first|(simp<;>omega)|(simp[h1345,h1395,h1396,h1407]<;>omega))|(refine X0p h1409 (by decide) ?_;first|(simp<;>omega)|(simp[h1345,h1395,h1396,h1407]<;>omega))|exact X24) ?_;intro h;refine X7.back (by intro id h;cases h) rfl ?_;exact wkT [(5,7)] (J)
       refine bI λu1410 h1411=>rnI [.via (.ref 3 (Int.toNat v1393.1) (m1405.length)),Bf,.el (aI .i64 (X0t.length:Int)),Bt,.no] ?_;intro h;refine X7.back (by intro id h;cases h) rfl ?_;exact wkT [(5,7)] (J)
      refine bI λm1413 h1414=>rnI [.pure [(Lf (X0t.map X1)),(X1 X1k),(AV.fn 89 [])] (AV.tup [(aI .i64 v1393.1),(aB v1393.2)]),Bt] (o:=Xsb) ?_;intro h;refine X7.hcall rfl rfl rfl rfl rfl trivial trivial (Xv3 ⟨_,_,fn99⟩ (f:=X1) (l:=X0t) (x:=X1k) h1414 rfl rfl rfl (by first|rfl|simp)) ?_;cases oj h
      refine X0q [] ?_;refine X7.back (by intro id h;cases h) rfl ?_;exact wkT [(3,7)] ((J nbF))
     refine rnI [.pure [(Lf (X0t.map X1)),(X1 X1k),(AV.fn 89 [])] (AV.tup [(aI .i64 v1393.1),(aB v1393.2)]),Bf,.stop 4] (o:=Xsb) ?_;refine bI λe1415 h1416=>?_;try have qh1416:=Xq h1416
     intro h;refine X7.drawnCut 5 tmD [.el (X1 e1415)] rfl rfl rfl rfl rfl (by repeat' first|apply Ya|exact X24) ?_;revert h;refine bI λw1427 h1438=>?_;intro h;obtain⟨Xoo,X05q⟩:=w1427;try dsimp only at h
     refine X0q [] ?_;refine X7.joinOpF (λ(q:Nb Xoo)=>⟨fr [(0,(slE q.1 5 (Xoo.map X1))),(27,(aI .i64 X05q))],hp ([]++opE q.1 5 11 (Xoo.map X1)),6⟩) ?_ (λJ=>?_)
     ·
      rintro Xsi;rcases Xsi with ⟨_|_,Xtm⟩
      ·
       cases oj h
       refine X0q [] ?_;refine X7.back (by intro id h;cases h) rfl ?_;exact wkT [(3,5)] ((J nbF))
      obtain rfl:=Xtm rfl;cases oj h
      refine X0q [] ?_;refine X7.back (by intro id h;cases h) rfl ?_;exact wkT [] ((J nbS))
     clear h;revert h1438;intro h;refine X7.inline Xf fn94 rfl rfl rfl rfl rfl trivial trivial rfl rfl ?_;refine X0q [] ?_;refine X7.round ?_;revert h;refine bI λv1430 h1431=>brI (λh1432=>?_) λh1432=>?_
     ·
      intro h;cases oj h
      refine X0q [Bt,.ix 0,.ix 0,.ld (X1 e1415),.pure _ (AV.tup [(X0r v1430.1),(aI .i64 v1430.2)]),Bt] ?_;refine X7.back (by intro id h;cases h) rfl ?_;exact wkT [(5,3)] ((J nbF))
     refine rnI [Bt,.ix 0,.ix 0,.ld (X1 e1415),.pure _ (AV.tup [(X0r v1430.1),(aI .i64 v1430.2)]),Bf,.ix 0,.ld (X1 e1415)] ?_;refine rdI<|bI λv1435 h1436=>rnI [Bt,.ix 1,.ix 1,.ld (X1 (X3.mk e1415.Key e1415.Span (V2.mk v1430.1 e1415.Values.e1))),.pure _ (AV.tup [(X0r v1435.1),(aI .i64 v1435.2)])] (o:=by repeat' first|apply Ya|exact pcM|exact(List.getElem?_set_self (by have hq:=Xje h1416;simp;omega)).trans rfl|exact X24) ?_;refine brI (λh1437=>?_) λh1437=>?_
     ·
      intro h;cases oj h
      refine X0q [Bt] ?_;refine X7.back (by intro id h;cases h) rfl ?_;exact wkT [(5,3)] ((J nbF))
     refine rnI [Bf,.ix 1,.ld (X1 (X3.mk e1415.Key e1415.Span (V2.mk v1430.1 e1415.Values.e1)))] (o:=by repeat' first|apply Ya|exact pcM|exact(List.getElem?_set_self (by have hq:=Xje h1416;simp;omega)).trans rfl|exact X24) ?_;refine rdI<|?_;intro h;cases oj h
     refine X0q [Bf] ?_;refine X7.back (by intro id h;cases h) rfl ?_;exact wkT [(5,3)] ((J nbF))
    refine bI λe1440 h1441=>?_;try have qh1441:=Xq h1441
    refine bI λw1452 h1463=>?_;intro h;obtain⟨X05o,X05p⟩:=w1452;try dsimp only at h
    refine X0q [Bf,.el (X1 e1440),.ld (X1 e1440)] ?_;refine X7.joinOp (s':=⟨fr [(0,(AV.ref 3 0 (X0t.length))),(3,(AV.ptr 4 0 0)),(6,(aI .i64 Xdv)),(23,(aI .i64 X05p))],hp ([(3,Ob (X0t.map X1) 11),(4,Ob [(X1 X05o)] 11)]),5⟩) ?_ (λJ=>?_)
    ·
     revert h;refine brI (λh1464=>λe=>X8 [Bt] (k:=wkT [] (C0 _ _  nbS (oj e).symm))) λh1464=>bI λm1465 h1466=>rnI [Bf,.el (X1 e1440),.ld (X1 e1440),.el (X1 e1440),.ld (X1 e1440),.wrap] ?_;intro h;refine X7.hcall rfl rfl rfl rfl rfl trivial trivial (X06n ⟨_,_,fn95⟩ (f:=X1) (l:=X0t) h1466 rfl rfl (by first|rfl|simp)) ?_;exact X8 [] (k:=wkT [(3,28)] (ih  _ _ nbF o h C0))
    clear h;revert h1463;intro h;refine X7.inline Xf fn94 rfl rfl rfl rfl rfl trivial trivial rfl rfl ?_;refine X0q [] ?_;refine X7.round ?_;revert h;refine bI λv1455 h1456=>brI (λh1457=>?_) λh1457=>?_
    ·
     intro h;cases oj h
     refine X0q [Bt,.ix 0,.ix 0,.pure _ (AV.tup [(X0r v1455.1),(aI .i64 v1455.2)]),Bt] ?_;refine X7.back (by intro id h;cases h) rfl ?_;exact wkT [] (J)
    refine rnI [Bt,.ix 0,.ix 0,.pure _ (AV.tup [(X0r v1455.1),(aI .i64 v1455.2)]),Bf,.ix 0] ?_;refine rdI<|bI λv1460 h1461=>brI (λh1462=>?_) λh1462=>?_
    ·
     intro h;cases oj h
     refine X0q [Bt,.ix 1,.ix 1,.pure _ (AV.tup [(X0r v1460.1),(aI .i64 v1460.2)]),Bt] ?_;refine X7.back (by intro id h;cases h) rfl ?_;exact wkT [] (J)
    refine rnI [Bt,.ix 1,.ix 1,.pure _ (AV.tup [(X0r v1460.1),(aI .i64 v1460.2)]),Bf,.ix 1] ?_;refine rdI<|?_;intro h;cases oj h
    refine X0q [Bf] ?_;refine X7.back (by intro id h;cases h) rfl ?_;exact wkT [] (J)
   clear h;revert h1344;intro h;refine X7.inline Xf fn92 rfl rfl rfl rfl rfl trivial trivial rfl rfl ?_;revert h;refine bI λu1330 h1331=>?_;have qh1331:=X0e h1331;refine bI λo1342 h1343=>rnI [.el (aI .i64 (X0t.length:Int))] ?_;intro h;refine wkT [] (X7.cut (drA (X10 X0t X1k nbF qh1331) _ ?_ h1343));revert h;rcases o1342 with _|⟨X72⟩
   ·
    refine lGI rfl ?_;intro h;try dsimp only at h
    obtain rfl:=oj h;refine X0q [] ?_;refine X7.back (by intro id h;cases h) rfl ?_;exact wkT [] (J)
   refine lGI rfl ?_;intro h;try dsimp only at h
   obtain rfl:=oj h;refine X0q [] ?_;refine X7.back (by intro id h;cases h) rfl ?_;exact wkT [] (J)
  obtain rfl:=Xca rfl;refine X7.round ?_;revert h;refine bI λX05n h1502=>rnI [] ?_;intro h;refine X7.joinOp (s':=⟨fr [(0,AV.nils),(3,(AV.ptr 4 0 0)),(10,(aI .i64 X05n))],hp ([(4,Ob [(X1 X1k)] 11)]),5⟩) ?_ (λJ=>?_)
  ·
   revert h;refine brI (λh1503=>?_) λh1503=>?_
   ·
    refine bI λw1524 h1545=>?_;intro h;obtain⟨Xon,Xwv⟩:=w1524;try dsimp only at h
    refine X0q [Bt] ?_;refine X7.joinOpF (λ(q:Nb Xon)=>⟨fr [(15,(AV.tup [(slE q.1 3 (Xon.map X1)),(aI .i64 Xwv)]))],hp ([]++opE q.1 3 11 (Xon.map X1)),4⟩) ?_ (λJ=>?_)
    ·
     rintro Xsh;rcases Xsh with ⟨_|_,Xtl⟩
     ·
      revert h;exact λe=>X8 [] (k:=wkT [] (C0 _ _  nbF (oj e).symm))
     obtain rfl:=Xtl rfl;revert h;exact λe=>X8 [] (k:=wkT [] (C0 _ _  nbS (oj e).symm))
    clear h;revert h1545;intro h;refine X7.inline Xf fn63 rfl rfl rfl rfl rfl trivial trivial rfl rfl ?_;revert h;refine bI λv1525 h1526=>brI (λh1527=>?_) λh1527=>?_
    ·
     refine brI (λh1528=>?_) λh1528=>?_
     ·
      refine bI λ_ h1540=>rnI [.pure [(Lf (List.map X1 ([]:List X3))),(X1 X1k),(AV.fn 89 [])] (AV.tup [(aI .i64 v1525.1),(aB v1525.2)]),Bt] (o:=Xzm) ?_;intro h;refine X7.joinOp (s':=⟨fr [(21,(AV.ref 5 0 (List.length (([]:List X3)++[X1k]))))],hp ([(5,Ob (List.map X1 (([]:List X3)++[X1k])) 11)]),6⟩) ?_ (λJ=>?_)
      ·
       cases oj h
       refine X0q [] ?_;refine X7.back (by intro id h;cases h) rfl ?_;exact wkT [(3,5)] ((J nbF))
      clear h;revert h1540;intro h;refine X7.inline Xf fn99 rfl rfl rfl rfl rfl trivial trivial rfl rfl ?_;revert h;refine bI λm1535 h1536=>?_;obtain⟨qah1536,qbh1536,qch1536,qh1536⟩:=X2h h1536;obtain rfl:=X8z h1536;refine brI (λh1537=>?_) λh1537=>?_
      ·
       refine bI λu1538 h1539=>rnI [Bf,.el (aI .i64 (List.length ([]:List X3):Int)),Bt,.no] ?_;intro h;refine X7.back (by intro id h;cases h) rfl ?_;exact wkT [(5,7)] (J)
      intro h;exact absurd h1537 (by simp)
     refine bI λm1541 h1542=>?_;intro h;exact absurd h1542 (by simp[Xwx])
    refine rnI [.pure [(Lf (List.map X1 ([]:List X3))),(X1 X1k),(AV.fn 89 [])] (AV.tup [(aI .i64 v1525.1),(aB v1525.2)]),Bf,.stop 4] (o:=Xzm) ?_;refine bI λe1543 h1544=>?_;try have qh1544:=Xq h1544
    intro h
    first|exact absurd (h1544) (by simp[getI];done)|(simp[getI,h1503,h1527] at h;done)|(simp[h1503,h1527] at hg;done)|exact absurd (h1544) (by simp[getI,h1503,h1527];done)
   refine bI λe1546 h1547=>?_;try have qh1547:=Xq h1547
   intro h
   first|exact absurd (h1547) (by simp[getI];done)|(simp[getI,h1503] at h;done)|(simp[h1503] at hg;done)|exact absurd (h1547) (by simp[getI,h1503];done)
  clear h;revert h1502;intro h;refine X7.inline Xf fn92 rfl rfl rfl rfl rfl trivial trivial rfl rfl ?_;revert h;refine bI λu1490 h1491=>?_;have qh1491:=X0e h1491;refine bI λo1500 h1501=>rnI [.el (aI .i64 (List.length ([]:List X3):Int))] ?_;intro h;refine wkT [] (X7.cut (drA (X10 ([]:List X3) X1k nbS qh1491) _ ?_ h1501));revert h;rcases o1500 with _|⟨X72⟩
  ·
   refine lGI rfl ?_;intro h;try dsimp only at h
   obtain rfl:=oj h;refine X0q [] ?_;refine X7.back (by intro id h;cases h) rfl ?_;exact wkT [] (J)
  refine lGI rfl ?_;intro h;try dsimp only at h
  obtain rfl:=oj h;refine X0q [] ?_;refine X7.back (by intro id h;cases h) rfl ?_;exact wkT [] (J)
theorem Xcs {Q:Qt} {μ:Mu} (Xjo:(List X0s)) (hl:Xjo.length<=140737488355328):∀ (xs:List X0s) (k:Nat) (hx:Xjo.drop k=xs) (Xd:X3) (Xe:(List X3)) (Xp:Nb Xe) (o:X7z) (h:X42 Xjo xs k Xd Xe=some o)
  (C0:∀ (Xo:(List X3)) (X02:Nb Xo),o=X7z.x0 Xo->Sx 112 Q [(13,(slE X02.1 0 (Xo.map X1)))] ([]++opE X02.1 0 11 (Xo.map X1)) 1 μ)
  (C1:∀ (Xy:(List X3)) (Xa8:Int) (Xx:Nb Xy),o=X7z.x1 Xy Xa8->Sr 112 Q [(8,(slE Xx.1 0 (Xy.map X1))),(9,(aI .i64 Xa8))] ([]++opE Xx.1 0 11 (Xy.map X1)) 1 μ),
  Sl 112 Q f31 [(12,(AV.ptr 0 0 0)),(13,(slE Xp.1 1 (Xe.map X1))),(91,(Lt (Xjo.map X01))),(92,(aI .i64 (Xjo.length:Int))),(93,(aI .i64 (k:Int)))] ([(0,Ob [(X1 Xd)] 11)]++opE Xp.1 1 11 (Xe.map X1)) 2 μ:=by
 intro xs
 induction xs with
 |nil =>
  intro k hx Xd Xe Xp o h C0 C1;have hk:=drop_nil hx;have hc:=lpN hx;rw[X42] at h;rcases Xp with ⟨_|_,X06⟩
  ·
   refine X7.round ?_;revert h;exact λe=>X8 [Bf] (k:=wkT [(0,1)] (C0 _  nbF (oj e).symm))
  ·
   obtain rfl:=X06 rfl;refine X7.round ?_;revert h;exact λe=>X8 [Bf] (k:=wkT [] (C0 _  nbS (oj e).symm))
 |cons x xs ih =>
  intro k hx Xd Xe Xp o h C0 C1;obtain⟨hk,hg,hx1⟩:=drop_cons hx;have hc:=lpC hx;rw[X42] at h;rcases Xp with ⟨_|_,X06⟩
  ·
   refine X7.round ?_;revert h;refine bI λw1890 h1937=>?_;intro h;obtain⟨X05m,Xol,Xtc⟩:=w1890;try dsimp only at h
   refine X0q [Bt,.el (X01 x)] ?_;refine X7.joinOpF (λ(q:Nb Xol)=>⟨fr [(12,(AV.ptr 0 0 0)),(91,(Lt (Xjo.map X01))),(92,(aI .i64 (Xjo.length:Int))),(93,(aI .i64 (k:Int))),(101,(AV.tup [(slE q.1 1 (Xol.map X1)),(aI .i64 Xtc)]))],hp ([(0,Ob [(X1 X05m)] 11)]++opE q.1 1 11 (Xol.map X1)),2⟩) ?_ (λJ=>?_)
   ·
    rintro Xsg;rcases Xsg with ⟨_|_,Xtk⟩
    ·
     revert h;refine brI (λh1938=>λe=>X8 [Bt] (k:=wkT [] (C1 _ _  nbS (oj e).symm))) λh1938=>rnI [Bf] ?_;intro h;exact wkT [] (ih (k+1) hx1 _ _ nbF o h C0 C1)
    obtain rfl:=Xtk rfl;revert h;refine brI (λh1939=>λe=>X8 [Bt] (k:=wkT [] (C1 _ _  nbS (oj e).symm))) λh1939=>rnI [Bf] ?_;intro h;exact wkT [] (ih (k+1) hx1 _ _ nbS o h C0 C1)
   clear h;revert h1937;intro h;refine X7.inline Xf fn63 rfl rfl rfl rfl rfl trivial trivial rfl rfl ?_;revert h;refine bI λv1891 h1892=>rnI [.pure [(Lf (Xe.map X1)),(X1 (X3.mk Xd.Key x Xd.Values)),(AV.fn 89 [])] (AV.tup [(aI .i64 v1891.1),(aB v1891.2)])] (o:=by repeat' first|apply Ya|exact pcM|exact(X4e.lent (X04 _ _ _ h1892) (cc (X01x (es:=Xe.map X1) rfl (by first|rfl|(simp;done)|(simp;rfl)|(simp[hc];done)|(simp[hc];rfl)|(simp[hc,Ym,Yd];done)|(simp[hc,Ym,Yd];rfl)) (by first|rfl|(simp;done)|(simp;omega)|(simp[hc];done)|(simp[hc];omega)) (X1s Xa3 Xe)) (cc (Xe2 (x:=(X3.mk Xd.Key x Xd.Values))) (cc .fn0 cn))) (Xuj (X14 .sc (X14 .sc X74))))|exact X24) ?_;refine brI (λh1893=>?_) λh1893=>?_
   ·
    refine brI (λh1894=>?_) λh1894=>?_
    ·
     refine bI λ_ h1910=>rnI [Bt] ?_;intro h;refine X7.joinOp (s':=⟨fr [(21,(AV.ref 2 0 (List.length (Xe++[(X3.mk Xd.Key x Xd.Values)]))))],hp ([(0,Ob [(X1 (X3.mk Xd.Key x Xd.Values))] 11),(2,Ob (List.map X1 (Xe++[(X3.mk Xd.Key x Xd.Values)])) 11)]),3⟩) ?_ (λJ=>?_)
     ·
      cases oj h
      refine X0q [] ?_;refine X7.back (by intro id h;cases h) rfl ?_;exact wkT [(1,2)] ((J nbF))
     clear h;revert h1910;intro h;refine X7.inline Xf fn99 rfl rfl rfl rfl rfl trivial trivial rfl rfl ?_;revert h;refine bI λm1903 h1904=>?_;obtain⟨qah1904,qbh1904,qch1904,qh1904⟩:=X2h h1904;have qlh1904:=X5e h1904;refine brI (λh1905=>?_) λh1905=>?_
     ·
      refine bI λu1906 h1907=>rnI [.ne false,Bf,.el (aI .i64 (Xe.length:Int)),Bt,.no] (o:=by repeat' first|apply Ya|exact pcM|(refine X1r h1907 rfl ?_;first|(simp<;>omega)|(simp[hc,h1893,h1894,h1905]<;>omega))|(refine X0p h1907 (by decide) ?_;first|(simp<;>omega)|(simp[hc,h1893,h1894,h1905]<;>omega))|exact X24) ?_;intro h;refine X7.back (by intro id h;cases h) rfl ?_;exact wkT [(2,4)] (J)
     refine bI λu1908 h1909=>rnI [.via (.ref 1 (Int.toNat v1891.1) (m1903.length)),Bf,.el (aI .i64 (Xe.length:Int)),Bt,.no] ?_;intro h;refine X7.back (by intro id h;cases h) rfl ?_;exact wkT [(2,4)] (J)
    refine bI λm1911 h1912=>rnI [Bt] ?_;intro h;refine X7.hcall rfl rfl rfl rfl rfl trivial trivial (Xv3 ⟨_,_,fn99⟩ (f:=X1) (l:=Xe) (x:=(X3.mk Xd.Key x Xd.Values)) h1912 rfl rfl rfl (by first|rfl|simp)) ?_;cases oj h
    refine X0q [] ?_;refine X7.back (by intro id h;cases h) rfl ?_;exact wkT [(1,4)] ((J nbF))
   refine rnI [Bf,.stop 4] ?_;refine bI λe1913 h1914=>?_;try have qh1914:=Xq h1914
   intro h;refine X7.drawnCut 5 tmD [.el (X1 e1913)] rfl rfl rfl rfl rfl (by repeat' first|apply Ya|exact X24) ?_;revert h;refine bI λw1925 h1936=>?_;intro h;obtain⟨Xok,X05l⟩:=w1925;try dsimp only at h
   refine X0q [] ?_;refine X7.joinOpF (λ(q:Nb Xok)=>⟨fr [(0,(slE q.1 2 (Xok.map X1))),(27,(aI .i64 X05l))],hp ([(0,Ob [(X1 (X3.mk Xd.Key x Xd.Values))] 11)]++opE q.1 2 11 (Xok.map X1)),3⟩) ?_ (λJ=>?_)
   ·
    rintro Xsf;rcases Xsf with ⟨_|_,Xtj⟩
    ·
     cases oj h
     refine X0q [] ?_;refine X7.back (by intro id h;cases h) rfl ?_;exact wkT [(1,2)] ((J nbF))
    obtain rfl:=Xtj rfl;cases oj h
    refine X0q [] ?_;refine X7.back (by intro id h;cases h) rfl ?_;exact wkT [] ((J nbS))
   clear h;revert h1936;intro h;refine X7.inline Xf fn94 rfl rfl rfl rfl rfl trivial trivial rfl rfl ?_;refine X0q [] ?_;refine X7.round ?_;revert h;refine bI λv1928 h1929=>brI (λh1930=>?_) λh1930=>?_
   ·
    intro h;cases oj h
    refine X0q [Bt,.ix 0,.ix 0,.ld (X1 e1913),.pure _ (AV.tup [(X0r v1928.1),(aI .i64 v1928.2)]),Bt] ?_;refine X7.back (by intro id h;cases h) rfl ?_;exact wkT [(2,1)] ((J nbF))
   refine rnI [Bt,.ix 0,.ix 0,.ld (X1 e1913),.pure _ (AV.tup [(X0r v1928.1),(aI .i64 v1928.2)]),Bf,.ix 0,.ld (X1 e1913)] ?_;refine rdI<|bI λv1933 h1934=>rnI [Bt,.ix 1,.ix 1,.ld (X1 (X3.mk e1913.Key e1913.Span (V2.mk v1928.1 e1913.Values.e1))),.pure _ (AV.tup [(X0r v1933.1),(aI .i64 v1933.2)])] (o:=by repeat' first|apply Ya|exact pcM|exact(List.getElem?_set_self (by have hq:=Xje h1914;simp;omega)).trans rfl|exact X24) ?_;refine brI (λh1935=>?_) λh1935=>?_
   ·
    intro h;cases oj h
    refine X0q [Bt] ?_;refine X7.back (by intro id h;cases h) rfl ?_;exact wkT [(2,1)] ((J nbF))
   refine rnI [Bf,.ix 1,.ld (X1 (X3.mk e1913.Key e1913.Span (V2.mk v1928.1 e1913.Values.e1)))] (o:=by repeat' first|apply Ya|exact pcM|exact(List.getElem?_set_self (by have hq:=Xje h1914;simp;omega)).trans rfl|exact X24) ?_;refine rdI<|?_;intro h;cases oj h
   refine X0q [Bf] ?_;refine X7.back (by intro id h;cases h) rfl ?_;exact wkT [(2,1)] ((J nbF))
  obtain rfl:=X06 rfl;refine X7.round ?_;revert h;refine bI λw1960 h1981=>?_;intro h;obtain⟨X05k,Xoj,Xtb⟩:=w1960;try dsimp only at h
  refine X0q [Bt,.el (X01 x)] ?_;refine X7.joinOpF (λ(q:Nb Xoj)=>⟨fr [(12,(AV.ptr 0 0 0)),(91,(Lt (Xjo.map X01))),(92,(aI .i64 (Xjo.length:Int))),(93,(aI .i64 (k:Int))),(101,(AV.tup [(slE q.1 1 (Xoj.map X1)),(aI .i64 Xtb)]))],hp ([(0,Ob [(X1 X05k)] 11)]++opE q.1 1 11 (Xoj.map X1)),2⟩) ?_ (λJ=>?_)
  ·
   rintro Xse;rcases Xse with ⟨_|_,Xti⟩
   ·
    revert h;refine brI (λh1982=>λe=>X8 [Bt] (k:=wkT [] (C1 _ _  nbS (oj e).symm))) λh1982=>rnI [Bf] ?_;intro h;exact wkT [] (ih (k+1) hx1 _ _ nbF o h C0 C1)
   obtain rfl:=Xti rfl;revert h;refine brI (λh1983=>λe=>X8 [Bt] (k:=wkT [] (C1 _ _  nbS (oj e).symm))) λh1983=>rnI [Bf] ?_;intro h;exact wkT [] (ih (k+1) hx1 _ _ nbS o h C0 C1)
  clear h;revert h1981;intro h;refine X7.inline Xf fn63 rfl rfl rfl rfl rfl trivial trivial rfl rfl ?_;revert h;refine bI λv1961 h1962=>rnI [.pure [(Lf (List.map X1 ([]:List X3))),(X1 (X3.mk Xd.Key x Xd.Values)),(AV.fn 89 [])] (AV.tup [(aI .i64 v1961.1),(aB v1961.2)])] (o:=by repeat' first|apply Ya|exact pcM|exact(pn (X04 _ _ _ h1962) (cc (Zn X1) (cc (Xe2 (x:=(X3.mk Xd.Key x Xd.Values))) (cc .fn0 cn))))|exact X24) ?_;refine brI (λh1963=>?_) λh1963=>?_
  ·
   refine brI (λh1964=>?_) λh1964=>?_
   ·
    refine bI λ_ h1976=>rnI [Bt] ?_;intro h;refine X7.joinOp (s':=⟨fr [(21,(AV.ref 2 0 (List.length (([]:List X3)++[(X3.mk Xd.Key x Xd.Values)]))))],hp ([(0,Ob [(X1 (X3.mk Xd.Key x Xd.Values))] 11),(2,Ob (List.map X1 (([]:List X3)++[(X3.mk Xd.Key x Xd.Values)])) 11)]),3⟩) ?_ (λJ=>?_)
    ·
     cases oj h
     refine X0q [] ?_;refine X7.back (by intro id h;cases h) rfl ?_;exact wkT [(1,2)] ((J nbF))
    clear h;revert h1976;intro h;refine X7.inline Xf fn99 rfl rfl rfl rfl rfl trivial trivial rfl rfl ?_;revert h;refine bI λm1971 h1972=>?_;obtain⟨qah1972,qbh1972,qch1972,qh1972⟩:=X2h h1972;obtain rfl:=X8z h1972;refine brI (λh1973=>?_) λh1973=>?_
    ·
     refine bI λu1974 h1975=>rnI [Bf,.el (aI .i64 (List.length ([]:List X3):Int)),Bt,.no] ?_;intro h;refine X7.back (by intro id h;cases h) rfl ?_;exact wkT [(2,4)] (J)
    intro h;exact absurd h1973 (by simp)
   refine bI λm1977 h1978=>?_;intro h;exact absurd h1978 (by simp[Xwx])
  refine rnI [Bf,.stop 4] ?_;refine bI λe1979 h1980=>?_;try have qh1980:=Xq h1980
  intro h
  first|exact absurd (h1980) (by simp[getI];done)|(simp[getI,hc,h1963] at h;done)|(simp[hc,h1963] at hg;done)|exact absurd (h1980) (by simp[getI,hc,h1963];done)
end Go.Av.Tryz