/- Printed by decomp.py: that the program computes the functions. -/
import Derived.Test.YtkjlgmgfhgamlaaGreatDCert6Z
set_option linter.all false

namespace Go.Av.Tryz
open Go.Proofs Go.D
set_option maxRecDepth 10000
set_option maxHeartbeats 40000000
theorem X1d {Q:X03->St->Mu->Prop} {μ:Mu} (X0l:(List X1)) (X1r:X1) (X19:Nb X0l) (hl:X0l.length<=140737488355328):∀ (xs:List X1) (k:Nat) (hx:X0l.drop k=xs) (o:X0e) (h:Xj X0l X1r xs k  = some o)
  (C0:o=X0e.x0->X2 Tryz.prog 19 5 Q (.exit (.exit 0)) [] ⟨fr [],hp ([(4,Ob [(X0 X1r)] 11)]++opE X19.1 3 11 (X0l.map X0)),5⟩ μ)
  (C1:∀ (Xbx:Int),o=X0e.x1 Xbx->X2 Tryz.prog 19 5 Q (.exit .ret) [] ⟨fr [(4,(aI .i64 Xbx))],hp ([(4,Ob [(X0 X1r)] 11)]++opE X19.1 3 11 (X0l.map X0)),5⟩ μ),
  X2 Tryz.prog 19 5 Q (.loop (X2o 0 (Xd Tryz.f119))) [] ⟨fr [(0,(slE X19.1 3 (X0l.map X0))),(1,(AV.fn 120 [(AV.ptr 4 0 0)])),(7,(aI .i64 (X0l.length:Int))),(8,(aI .i64 (k:Int)))],hp ([(4,Ob [(X0 X1r)] 11)]++opE X19.1 3 11 (X0l.map X0)),5⟩ μ:=by
 intro xs
 induction xs with
 |nil =>
  intro k hx  o h C0 C1;have hk:=X1g hx;have hc:decide ((k:Int)<(X0l.length:Int))=false:=Yf om;rw[Xj] at h;rcases X19 with ⟨_|_,X4y⟩<;>(try obtain rfl:=X4y rfl);all_goals
   refine X2.round ?_;revert h;exact λe=>X6 [Bf] (k:=wkT [] (C0  (oj e).symm))
 |cons x xs ih =>
  intro k hx  o h C0 C1;obtain⟨hk,hg,hx1⟩:=X0u hx;have hc:decide ((k:Int)<(X0l.length:Int))=true:=Yt om;rw[Xj] at h;rcases X19 with ⟨_|_,X4y⟩
  ·
   refine X2.round ?_;refine X0j [Bt,.el (X0 x),.ld (X0 x)] ?_;refine X2.inline X3 X0dc rfl rfl rfl rfl rfl trivial trivial rfl rfl ?_;refine X0j [] ?_;refine X2.back (by intro id h;cases h) rfl ?_;revert h;refine brI (λh1341=>λe=>X6 [Bt] (k:=wkT [] (C1 _  (oj e).symm))) λh1341=>rnI [Bf] ?_;intro h;exact wkT [] (ih (k+1) hx1  o h C0 C1)
  obtain rfl:=X4y rfl;refine X2.round ?_;exact absurd hk (by simp)
theorem X68 {Q:X03->St->Mu->Prop} {μ:Mu}:∀ (n:Nat) (X0l:(List X1)) (X1r:X1) (X19:Nb X0l) (o:X3y) (h:X1s  n X0l X1r=some o)
  (C0:∀ (X4n:(List X1)) (Xkt:Int) (X3b:Nb X4n),o=X3y.x0 X4n Xkt->X2 Tryz.prog 54 3 Q (.exit .ret) [] ⟨fr [(4,(slE X3b.1 3 (X4n.map X0))),(5,(aI .i64 Xkt))],hp ([]++opE X3b.1 3 11 (X4n.map X0)),4⟩ μ),
  X2 Tryz.prog 54 3 Q (.loop (X2o 0 (Xd Tryz.f82))) [] ⟨fr [(0,(slE X19.1 3 (X0l.map X0))),(3,(AV.ptr 4 0 0))],hp ([(4,Ob [(X0 X1r)] 11)]++opE X19.1 3 11 (X0l.map X0)),5⟩ μ:=by
 intro n
 induction n with
 |zero=>intro X0l X1r X19 o h C0;cases h
 |succ n ih =>
  intro X0l X1r X19 o h C0;rw[X1s] at h;rcases X19 with ⟨_|_,X4y⟩
  ·
   refine X2.round ?_;revert h;refine bI λXfl h1344=>rnI [] ?_;intro h;refine X2.joinOp (s':=⟨fr [(0,(AV.ref 3 0 (X0l.length))),(3,(AV.ptr 4 0 0)),(10,(aI .i64 Xfl))],hp ([(3,Ob (X0l.map X0) 11),(4,Ob [(X0 X1r)] 11)]),5⟩) ?_ (λJ=>?_)
   ·
    revert h;refine brI (λh1345=>?_) λh1345=>?_
    ·
     refine bI λw1392 h1439=>?_;intro h;obtain⟨Xos,Xvl⟩:=w1392;try dsimp only at h
     refine X0j [Bt] ?_;refine X2.joinOpF (λ(q:Nb Xos)=>⟨fr [(15,(AV.tup [(slE q.1 3 (Xos.map X0)),(aI .i64 Xvl)]))],hp ([]++opE q.1 3 11 (Xos.map X0)),4⟩) ?_ (λJ=>?_)
     ·
      rintro Xrs;rcases Xrs with ⟨_|_,Xsy⟩
      ·
       revert h;exact λe=>X6 [] (k:=wkT [] (C0 _ _  nbF (oj e).symm))
      obtain rfl:=Xsy rfl;revert h;exact λe=>X6 [] (k:=wkT [] (C0 _ _  nbS (oj e).symm))
     clear h;revert h1439;intro h;refine X2.inline X3 fn84 rfl rfl rfl rfl rfl trivial trivial rfl rfl ?_;revert h;refine bI λv1393 h1394=>brI (λh1395=>?_) λh1395=>?_
     ·
      refine brI (λh1396=>?_) λh1396=>?_
      ·
       refine bI λ_ h1412=>rnI [.pure [(Lf (X0l.map X0)),(X0 X1r),(AV.fn 116 [])] (AV.tup [(aI .i64 v1393.1),(aB v1393.2)]),Bt] (o:=by repeat' first|apply Ya|exact pcM|exact(X67.lent (Xk _ _ _ h1394) (cc (Xqn (es:=X0l.map X0) rfl (by first|rfl|(simp;done)|(simp;rfl)|(simp[h1345];done)|(simp[h1345];rfl)|(simp[h1345,Ym,Yd];done)|(simp[h1345,Ym,Yd];rfl)) (by first|rfl|(simp;done)|(simp;omega)|(simp[h1345];done)|(simp[h1345];omega)) (X16 X4c X0l)) (cc (X99 (x:=X1r)) (cc .fn0 cn))) (Xq1 (X0z .sc (X0z .sc X8i))))|exact Xu) ?_;intro h;refine X2.joinOp (s':=⟨fr [(21,(AV.ref 5 0 (List.length (X0l++[X1r]))))],hp ([(5,Ob (List.map X0 (X0l++[X1r])) 11)]),6⟩) ?_ (λJ=>?_)
       ·
        simp only[Option.some.injEq,Prod.mk.injEq] at h;obtain⟨rfl,rfl⟩:=h;refine X0j [] ?_;refine X2.back (by intro id h;cases h) rfl ?_;exact wkT [(3,5)] ((J nbF))
       clear h;revert h1412;intro h;refine X2.inline X3 Xvz rfl rfl rfl rfl rfl trivial trivial rfl rfl ?_;revert h;refine bI λm1405 h1406=>?_;obtain⟨qah1406,qbh1406,qch1406,qh1406⟩:=X2y h1406;have qlh1406:=X60 h1406;refine brI (λh1407=>?_) λh1407=>?_
       ·
        refine bI λu1408 h1409=>rnI [.ne false,Bf,.el (aI .i64 (X0l.length:Int)),Bt,.no] (o:=by repeat' first|apply Ya|exact pcM|(simp at qah1406 qbh1406 qch1406 ⊢;omega)|(simp at qah1406 qbh1406 qch1406 qlh1406 ⊢;have qz:=X35 h1407;omega)|(refine X0r h1409 rfl ?_;first|(simp<;>omega)|(simp[h1345,h1395,h1396,h1407]<;>omega))|(refine X08 h1409 (by decide) ?_;first|(simp<;>omega)|(simp[h1345,h1395,h1396,h1407]<;>omega))|exact Xu) ?_;intro h;refine X2.back (by intro id h;cases h) rfl ?_;exact wkT [(5,7)] (J)
       refine bI λu1410 h1411=>rnI [.via (.ref 3 (Int.toNat v1393.1) (m1405.length)),Bf,.el (aI .i64 (X0l.length:Int)),Bt,.no] (o:=by repeat' first|apply Ya|exact pcM|(simp at qah1406 qbh1406 qch1406 ⊢;omega)|(simp at qah1406 qbh1406 qch1406 qlh1406 ⊢;have qz:=X10 h1407;omega)|(simp at qah1406 qbh1406 qch1406 qlh1406 ⊢;omega)|(simp;done)|(refine X0r h1411 rfl ?_;first|(simp<;>omega)|(simp[h1345,h1395,h1396,h1407]<;>omega))|(refine X08 h1411 (by decide) ?_;first|(simp<;>omega)|(simp[h1345,h1395,h1396,h1407]<;>omega))|exact Xu) ?_;intro h;refine X2.back (by intro id h;cases h) rfl ?_;exact wkT [(5,7)] (J)
      refine bI λm1413 h1414=>rnI [.pure [(Lf (X0l.map X0)),(X0 X1r),(AV.fn 116 [])] (AV.tup [(aI .i64 v1393.1),(aB v1393.2)]),Bt] (o:=by repeat' first|apply Ya|exact pcM|exact(X67.lent (Xk _ _ _ h1394) (cc (Xqn (es:=X0l.map X0) rfl (by first|rfl|(simp;done)|(simp;rfl)|(simp[h1345];done)|(simp[h1345];rfl)|(simp[h1345,Ym,Yd];done)|(simp[h1345,Ym,Yd];rfl)) (by first|rfl|(simp;done)|(simp;omega)|(simp[h1345];done)|(simp[h1345];omega)) (X16 X4c X0l)) (cc (X99 (x:=X1r)) (cc .fn0 cn))) (Xq1 (X0z .sc (X0z .sc X8i))))|exact Xu) ?_;intro h;refine X2.hcall rfl rfl rfl rfl rfl trivial trivial (Xu8 ⟨_,_,Xvz⟩ (f:=X0) (l:=X0l) (x:=X1r) h1414 rfl rfl rfl (by first|rfl|simp)) ?_;simp only[Option.some.injEq,Prod.mk.injEq] at h;obtain⟨rfl,rfl⟩:=h;refine X0j [] ?_;refine X2.back (by intro id h;cases h) rfl ?_;exact wkT [(3,7)] ((J nbF))
     refine rnI [.pure [(Lf (X0l.map X0)),(X0 X1r),(AV.fn 116 [])] (AV.tup [(aI .i64 v1393.1),(aB v1393.2)]),Bf,.stop 4] (o:=by repeat' first|apply Ya|exact pcM|exact(X67.lent (Xk _ _ _ h1394) (cc (Xqn (es:=X0l.map X0) rfl (by first|rfl|(simp;done)|(simp;rfl)|(simp[h1345];done)|(simp[h1345];rfl)|(simp[h1345,Ym,Yd];done)|(simp[h1345,Ym,Yd];rfl)) (by first|rfl|(simp;done)|(simp;omega)|(simp[h1345];done)|(simp[h1345];omega)) (X16 X4c X0l)) (cc (X99 (x:=X1r)) (cc .fn0 cn))) (Xq1 (X0z .sc (X0z .sc X8i))))|exact Xu) ?_;refine bI λe1415 h1416=>?_;try have qh1416:=Xl h1416
     intro h;refine X2.drawnCut 5 tmD [.el (X0 e1415)] rfl rfl rfl rfl rfl (by repeat' first|apply Ya|exact Xu) ?_;revert h;refine bI λw1427 h1438=>?_;intro h;obtain⟨Xor,X03w⟩:=w1427;try dsimp only at h
     refine X0j [] ?_;refine X2.joinOpF (λ(q:Nb Xor)=>⟨fr [(0,(slE q.1 5 (Xor.map X0))),(27,(aI .i64 X03w))],hp ([]++opE q.1 5 11 (Xor.map X0)),6⟩) ?_ (λJ=>?_)
     ·
      rintro Xrr;rcases Xrr with ⟨_|_,Xsx⟩
      ·
       simp only[Option.some.injEq,Prod.mk.injEq] at h;obtain⟨rfl,rfl⟩:=h;refine X0j [] ?_;refine X2.back (by intro id h;cases h) rfl ?_;exact wkT [(3,5)] ((J nbF))
      obtain rfl:=Xsx rfl;simp only[Option.some.injEq,Prod.mk.injEq] at h;obtain⟨rfl,rfl⟩:=h;refine X0j [] ?_;refine X2.back (by intro id h;cases h) rfl ?_;exact wkT [] ((J nbS))
     clear h;revert h1438;intro h;refine X2.inline X3 X07r rfl rfl rfl rfl rfl trivial trivial rfl rfl ?_;refine X0j [] ?_;refine X2.round ?_;revert h;refine bI λv1430 h1431=>brI (λh1432=>?_) λh1432=>?_
     ·
      intro h;simp only[Option.some.injEq,Prod.mk.injEq] at h;obtain⟨rfl,rfl⟩:=h;refine X0j [Bt,.ix 0,.ix 0,.ld (X0 e1415),.pure _ (AV.tup [(Xv v1430.1),(aI .i64 v1430.2)]),Bt] ?_;refine X2.back (by intro id h;cases h) rfl ?_;exact wkT [(5,3)] ((J nbF))
     refine rnI [Bt,.ix 0,.ix 0,.ld (X0 e1415),.pure _ (AV.tup [(Xv v1430.1),(aI .i64 v1430.2)]),Bf,.ix 0,.ld (X0 e1415)] (o:=by repeat' first|apply Ya|exact pcM|exact(List.getElem?_set_self (by have hq:=X3u h1416;simp;omega)).trans rfl|exact Xu) ?_;intro h;refine X2.round ?_;revert h;refine bI λv1435 h1436=>rnI [Bt,.ix 1,.ix 1,.ld (X0 (X1.mk e1415.Key e1415.Span (V2.mk v1430.1 e1415.Values.e1))),.pure _ (AV.tup [(Xv v1435.1),(aI .i64 v1435.2)])] (o:=by repeat' first|apply Ya|exact pcM|exact(List.getElem?_set_self (by have hq:=X3u h1416;simp;omega)).trans rfl|exact Xu) ?_;refine brI (λh1437=>?_) λh1437=>?_
     ·
      intro h;simp only[Option.some.injEq,Prod.mk.injEq] at h;obtain⟨rfl,rfl⟩:=h;refine X0j [Bt] (o:=by repeat' first|apply Ya|exact pcM|exact(List.getElem?_set_self (by have hq:=X3u h1416;simp;omega)).trans rfl|exact Xu) ?_;refine X2.back (by intro id h;cases h) rfl ?_;exact wkT [(5,3)] ((J nbF))
     refine rnI [Bf,.ix 1,.ld (X0 (X1.mk e1415.Key e1415.Span (V2.mk v1430.1 e1415.Values.e1)))] (o:=by repeat' first|apply Ya|exact pcM|exact(List.getElem?_set_self (by have hq:=X3u h1416;simp;omega)).trans rfl|exact Xu) ?_;intro h;refine X2.round ?_;simp only[Option.some.injEq,Prod.mk.injEq] at h;obtain⟨rfl,rfl⟩:=h;refine X0j [Bf] (o:=by repeat' first|apply Ya|exact pcM|exact(List.getElem?_set_self (by have hq:=X3u h1416;simp;omega)).trans rfl|exact Xu) ?_;refine X2.back (by intro id h;cases h) rfl ?_;exact wkT [(5,3)] ((J nbF))
    refine bI λe1440 h1441=>?_;try have qh1441:=Xl h1441
    refine bI λw1452 h1463=>?_;intro h;obtain⟨X03u,X03v⟩:=w1452;try dsimp only at h
    refine X0j [Bf,.el (X0 e1440),.ld (X0 e1440)] ?_;refine X2.joinOp (s':=⟨fr [(0,(AV.ref 3 0 (X0l.length))),(3,(AV.ptr 4 0 0)),(6,(aI .i64 Xfl)),(23,(aI .i64 X03v))],hp ([(3,Ob (X0l.map X0) 11),(4,Ob [(X0 X03u)] 11)]),5⟩) ?_ (λJ=>?_)
    ·
     revert h;refine brI (λh1464=>λe=>X6 [Bt] (k:=wkT [] (C0 _ _  nbS (oj e).symm))) λh1464=>bI λm1465 h1466=>rnI [Bf,.el (X0 e1440),.ld (X0 e1440),.el (X0 e1440),.ld (X0 e1440),.wrap] ?_;intro h;refine X2.hcall rfl rfl rfl rfl rfl trivial trivial (X04e ⟨_,_,X0db⟩ (f:=X0) (l:=X0l) h1466 rfl rfl (by first|rfl|simp)) ?_;exact X6 [] (k:=wkT [(3,28)] (ih  _ _ nbF o h C0))
    clear h;revert h1463;intro h;refine X2.inline X3 X07r rfl rfl rfl rfl rfl trivial trivial rfl rfl ?_;refine X0j [] ?_;refine X2.round ?_;revert h;refine bI λv1455 h1456=>brI (λh1457=>?_) λh1457=>?_
    ·
     intro h;simp only[Option.some.injEq,Prod.mk.injEq] at h;obtain⟨rfl,rfl⟩:=h;refine X0j [Bt,.ix 0,.ix 0,.pure _ (AV.tup [(Xv v1455.1),(aI .i64 v1455.2)]),Bt] ?_;refine X2.back (by intro id h;cases h) rfl ?_;exact wkT [] (J)
    refine rnI [Bt,.ix 0,.ix 0,.pure _ (AV.tup [(Xv v1455.1),(aI .i64 v1455.2)]),Bf,.ix 0] ?_;intro h;refine X2.round ?_;revert h;refine bI λv1460 h1461=>brI (λh1462=>?_) λh1462=>?_
    ·
     intro h;simp only[Option.some.injEq,Prod.mk.injEq] at h;obtain⟨rfl,rfl⟩:=h;refine X0j [Bt,.ix 1,.ix 1,.pure _ (AV.tup [(Xv v1460.1),(aI .i64 v1460.2)]),Bt] ?_;refine X2.back (by intro id h;cases h) rfl ?_;exact wkT [] (J)
    refine rnI [Bt,.ix 1,.ix 1,.pure _ (AV.tup [(Xv v1460.1),(aI .i64 v1460.2)]),Bf,.ix 1] ?_;intro h;refine X2.round ?_;simp only[Option.some.injEq,Prod.mk.injEq] at h;obtain⟨rfl,rfl⟩:=h;refine X0j [Bf] ?_;refine X2.back (by intro id h;cases h) rfl ?_;exact wkT [] (J)
   clear h;revert h1344;intro h;refine X2.inline X3 X0a6 rfl rfl rfl rfl rfl trivial trivial rfl rfl ?_;revert h;refine bI λu1330 h1331=>?_;have qh1331:=X0v h1331;refine bI λo1342 h1343=>rnI [.el (aI .i64 (X0l.length:Int))] ?_;intro h;refine wkT [] (X2.cut (X1d X0l X1r nbF qh1331 X0l 0 (by simp) _ h1343 ?_ ?_))
   ·
    intro eo1342;subst eo1342;refine X2.glue ?_;try dsimp only at h
    obtain rfl:=oj h;refine X0j [] ?_;refine X2.back (by intro id h;cases h) rfl ?_;exact wkT [] (J)
   intro Xbx eo1342;subst eo1342;refine X2.glue ?_;try dsimp only at h
   obtain rfl:=oj h;refine X0j [] ?_;refine X2.back (by intro id h;cases h) rfl ?_;exact wkT [] (J)
  obtain rfl:=X4y rfl;refine X2.round ?_;revert h;refine bI λX03t h1502=>rnI [] ?_;intro h;refine X2.joinOp (s':=⟨fr [(0,AV.nils),(3,(AV.ptr 4 0 0)),(10,(aI .i64 X03t))],hp ([(4,Ob [(X0 X1r)] 11)]),5⟩) ?_ (λJ=>?_)
  ·
   revert h;refine brI (λh1503=>?_) λh1503=>?_
   ·
    refine bI λw1524 h1545=>?_;intro h;obtain⟨Xoq,Xvk⟩:=w1524;try dsimp only at h
    refine X0j [Bt] ?_;refine X2.joinOpF (λ(q:Nb Xoq)=>⟨fr [(15,(AV.tup [(slE q.1 3 (Xoq.map X0)),(aI .i64 Xvk)]))],hp ([]++opE q.1 3 11 (Xoq.map X0)),4⟩) ?_ (λJ=>?_)
    ·
     rintro Xrq;rcases Xrq with ⟨_|_,Xsw⟩
     ·
      revert h;exact λe=>X6 [] (k:=wkT [] (C0 _ _  nbF (oj e).symm))
     obtain rfl:=Xsw rfl;revert h;exact λe=>X6 [] (k:=wkT [] (C0 _ _  nbS (oj e).symm))
    clear h;revert h1545;intro h;refine X2.inline X3 fn84 rfl rfl rfl rfl rfl trivial trivial rfl rfl ?_;revert h;refine bI λv1525 h1526=>brI (λh1527=>?_) λh1527=>?_
    ·
     refine brI (λh1528=>?_) λh1528=>?_
     ·
      refine bI λ_ h1540=>rnI [.pure [(Lf (List.map X0 ([]:List X1))),(X0 X1r),(AV.fn 116 [])] (AV.tup [(aI .i64 v1525.1),(aB v1525.2)]),Bt] (o:=by repeat' first|apply Ya|exact pcM|exact(pn (Xk _ _ _ h1526) (cc (Zn X0) (cc (X99 (x:=X1r)) (cc .fn0 cn))))|exact Xu) ?_;intro h;refine X2.joinOp (s':=⟨fr [(21,(AV.ref 5 0 (List.length (([]:List X1)++[X1r]))))],hp ([(5,Ob (List.map X0 (([]:List X1)++[X1r])) 11)]),6⟩) ?_ (λJ=>?_)
      ·
       simp only[Option.some.injEq,Prod.mk.injEq] at h;obtain⟨rfl,rfl⟩:=h;refine X0j [] ?_;refine X2.back (by intro id h;cases h) rfl ?_;exact wkT [(3,5)] ((J nbF))
      clear h;revert h1540;intro h;refine X2.inline X3 Xvz rfl rfl rfl rfl rfl trivial trivial rfl rfl ?_;revert h;refine bI λm1535 h1536=>?_;obtain⟨qah1536,qbh1536,qch1536,qh1536⟩:=X2y h1536;obtain rfl:=Xad h1536;refine brI (λh1537=>?_) λh1537=>?_
      ·
       refine bI λu1538 h1539=>rnI [Bf,.el (aI .i64 (List.length ([]:List X1):Int)),Bt,.no] (o:=by repeat' first|apply Ya|exact pcM|(simp at qah1536 qbh1536 qch1536 ⊢;omega)|(refine X0r h1539 rfl ?_;first|(simp<;>omega)|(simp[h1503,h1527,h1528,h1537]<;>omega))|(refine X08 h1539 (by decide) ?_;first|(simp<;>omega)|(simp[h1503,h1527,h1528,h1537]<;>omega))|exact Xu) ?_;intro h;refine X2.back (by intro id h;cases h) rfl ?_;exact wkT [(5,7)] (J)
      intro h;exact absurd h1537 (by simp)
     refine bI λm1541 h1542=>?_;intro h;exact absurd h1542 (by simp[Xzl])
    refine rnI [.pure [(Lf (List.map X0 ([]:List X1))),(X0 X1r),(AV.fn 116 [])] (AV.tup [(aI .i64 v1525.1),(aB v1525.2)]),Bf,.stop 4] (o:=by repeat' first|apply Ya|exact pcM|exact(pn (Xk _ _ _ h1526) (cc (Zn X0) (cc (X99 (x:=X1r)) (cc .fn0 cn))))|exact Xu) ?_;refine bI λe1543 h1544=>?_;try have qh1544:=Xl h1544
    intro h
    first|exact absurd (h1544) (by simp[X15];done)|(simp[X15,h1503,h1527] at h;done)|exact absurd (h1544) (by simp[X15,h1503,h1527];done)
   refine bI λe1546 h1547=>?_;try have qh1547:=Xl h1547
   intro h
   first|exact absurd (h1547) (by simp[X15];done)|(simp[X15,h1503] at h;done)|exact absurd (h1547) (by simp[X15,h1503];done)
  clear h;revert h1502;intro h;refine X2.inline X3 X0a6 rfl rfl rfl rfl rfl trivial trivial rfl rfl ?_;revert h;refine bI λu1490 h1491=>?_;have qh1491:=X0v h1491;refine bI λo1500 h1501=>rnI [.el (aI .i64 (List.length ([]:List X1):Int))] ?_;intro h;refine wkT [] (X2.cut (X1d ([]:List X1) X1r nbS qh1491 ([]:List X1) 0 (by simp) _ h1501 ?_ ?_))
  ·
   intro eo1500;subst eo1500;refine X2.glue ?_;try dsimp only at h
   obtain rfl:=oj h;refine X0j [] ?_;refine X2.back (by intro id h;cases h) rfl ?_;exact wkT [] (J)
  intro Xbx eo1500;subst eo1500;refine X2.glue ?_;try dsimp only at h
  obtain rfl:=oj h;refine X0j [] ?_;refine X2.back (by intro id h;cases h) rfl ?_;exact wkT [] (J)
end Go.Av.Tryz