/- Printed by decomp.py: that the program computes the functions. -/
import Derived.Test.YtkjlgmgfhgamlaaGreatDCert5Z
set_option linter.all false

namespace Go.Av.Tryz
open Go.Proofs Go.D
set_option maxRecDepth 10000
set_option maxHeartbeats 40000000
theorem X16 {Q:Xx->St->Mu->Prop} {μ:Mu} (X0c:(List X1)) (X1h:X1) (X0t:Nb X0c) (hl:X0c.length<=140737488355328):∀ (xs:List X1) (k:Nat) (hx:X0c.drop k=xs) (o:X03) (h:Xe X0c X1h xs k  = some o)
  (C0:o=X03.x0->X2 Tryz.prog 19 5 Q (.exit (.exit 0)) [] ⟨fr [],hp ([(4,Ob [(X0 X1h)] 11)]++opE X0t.1 3 11 (X0c.map X0)),5⟩ μ)
  (C1:∀ (X9m:Int),o=X03.x1 X9m->X2 Tryz.prog 19 5 Q (.exit .ret) [] ⟨fr [(4,(aI .i64 X9m))],hp ([(4,Ob [(X0 X1h)] 11)]++opE X0t.1 3 11 (X0c.map X0)),5⟩ μ),
  X2 Tryz.prog 19 5 Q (.loop (X48 0 (Xa Tryz.f119))) [] ⟨fr [(0,(slE X0t.1 3 (X0c.map X0))),(1,(AV.fn 120 [(AV.ptr 4 0 0)])),(7,(aI .i64 (X0c.length:Int))),(8,(aI .i64 (k:Int)))],hp ([(4,Ob [(X0 X1h)] 11)]++opE X0t.1 3 11 (X0c.map X0)),5⟩ μ:=by
 intro xs
 induction xs with
 |nil =>
  intro k hx  o h C0 C1;have hk:=drop_nil hx;have hc:decide ((k:Int)<(X0c.length:Int))=false:=Yf om;rw[Xe] at h;rcases X0t with ⟨_|_,X2h⟩<;>(try obtain rfl:=X2h rfl);all_goals
   refine X2.round ?_;revert h;exact λe=>X7 [Bf] (k:=wkT [] (C0  (oj e).symm))
 |cons x xs ih =>
  intro k hx  o h C0 C1;obtain⟨hk,hg,hx1⟩:=X12 hx;have hc:decide ((k:Int)<(X0c.length:Int))=true:=Yt om;rw[Xe] at h;rcases X0t with ⟨_|_,X2h⟩
  ·
   refine X2.round ?_;refine X0e [Bt,.el (X0 x),.ld (X0 x)] ?_;refine X2.inline X3 X04n rfl rfl rfl rfl rfl trivial trivial rfl rfl ?_;refine X0e [] ?_;refine X2.back (by intro id h;cases h) rfl ?_;revert h;refine brI (λh1341=>λe=>X7 [Bt] (k:=wkT [] (C1 _  (oj e).symm))) λh1341=>rnI [Bf] ?_;intro h;exact wkT [] (ih (k+1) hx1  o h C0 C1)
  obtain rfl:=X2h rfl;refine X2.round ?_;exact absurd hk (by simp)
theorem X5i {Q:Xx->St->Mu->Prop} {μ:Mu}:∀ (n:Nat) (X0c:(List X1)) (X1h:X1) (X0t:Nb X0c) (o:X3i) (h:X1i  n X0c X1h=some o)
  (C0:∀ (X1p:(List X1)) (Xh7:Int) (X1u:Nb X1p),o=X3i.x0 X1p Xh7->X2 Tryz.prog 54 3 Q (.exit .ret) [] ⟨fr [(4,(slE X1u.1 3 (X1p.map X0))),(5,(aI .i64 Xh7))],hp ([]++opE X1u.1 3 11 (X1p.map X0)),4⟩ μ),
  X2 Tryz.prog 54 3 Q (.loop (X48 0 (Xa Tryz.f82))) [] ⟨fr [(0,(slE X0t.1 3 (X0c.map X0))),(3,(AV.ptr 4 0 0))],hp ([(4,Ob [(X0 X1h)] 11)]++opE X0t.1 3 11 (X0c.map X0)),5⟩ μ:=by
 intro n
 induction n with
 |zero=>intro X0c X1h X0t o h C0;cases h
 |succ n ih =>
  intro X0c X1h X0t o h C0;rw[X1i] at h;rcases X0t with ⟨_|_,X2h⟩
  ·
   refine X2.round ?_;revert h;refine bI λXcs h1344=>rnI [] ?_;intro h;refine X2.joinOp (s':=⟨fr [(0,(AV.ref 3 0 (X0c.length))),(3,(AV.ptr 4 0 0)),(10,(aI .i64 Xcs))],hp ([(3,Ob (X0c.map X0) 11),(4,Ob [(X0 X1h)] 11)]),5⟩) ?_ (λJ=>?_)
   ·
    revert h;refine brI (λh1345=>?_) λh1345=>?_
    ·
     refine bI λw1392 h1439=>?_;intro h;obtain⟨Xl4,Xr2⟩:=w1392;try dsimp only at h
     refine X0e [Bt] ?_;refine X2.joinOpF (λ(q:Nb Xl4)=>⟨fr [(15,(AV.tup [(slE q.1 3 (Xl4.map X0)),(aI .i64 Xr2)]))],hp ([]++opE q.1 3 11 (Xl4.map X0)),4⟩) ?_ (λJ=>?_)
     ·
      rintro Xny;rcases Xny with ⟨_|_,Xox⟩
      ·
       revert h;exact λe=>X7 [] (k:=wkT [] (C0 _ _  nbF (oj e).symm))
      obtain rfl:=Xox rfl;revert h;exact λe=>X7 [] (k:=wkT [] (C0 _ _  nbS (oj e).symm))
     clear h;revert h1439;intro h;refine X2.inline X3 fn84 rfl rfl rfl rfl rfl trivial trivial rfl rfl ?_;revert h;refine bI λv1393 h1394=>brI (λh1395=>?_) λh1395=>?_
     ·
      refine brI (λh1396=>?_) λh1396=>?_
      ·
       refine bI λ_ h1412=>rnI [.pure [(Lf (X0c.map X0)),(X0 X1h),(AV.fn 116 [])] (AV.tup [(aI .i64 v1393.1),(aB v1393.2)]),Bt] (o:=by repeat' first|apply Ya|exact pcM|exact(X5h.lent (Xf _ _ _ h1394) (cc (Xmw (es:=X0c.map X0) rfl (by first|rfl|(simp;done)|(simp;rfl)|(simp[h1345];done)|(simp[h1345];rfl)|(simp[h1345,Ym,Yd];done)|(simp[h1345,Ym,Yd];rfl)) (by first|rfl|(simp;done)|(simp;omega)|(simp[h1345];done)|(simp[h1345];omega)) (X2c X52 X0c)) (cc (X7j (x:=X1h)) (cc .fn0 cn))) (Xmc (X0w .sc (X0w .sc X76))))|exact Xz) ?_;intro h;refine X2.joinOp (s':=⟨fr [(21,(AV.ref 5 0 (List.length (X0c++[X1h]))))],hp ([(5,Ob (List.map X0 (X0c++[X1h])) 11)]),6⟩) ?_ (λJ=>?_)
       ·
        simp only[Option.some.injEq,Prod.mk.injEq] at h;obtain⟨rfl,rfl⟩:=h;refine X0e [] ?_;refine X2.back (by intro id h;cases h) rfl ?_;exact wkT [(3,5)] ((J nbF))
       clear h;revert h1412;intro h;refine X2.inline X3 Xrc rfl rfl rfl rfl rfl trivial trivial rfl rfl ?_;revert h;refine bI λm1405 h1406=>?_;obtain⟨qah1406,qbh1406,qch1406,qh1406⟩:=X3e h1406;have qlh1406:=X8k h1406;refine brI (λh1407=>?_) λh1407=>?_
       ·
        refine bI λu1408 h1409=>rnI [.ne false,Bf,.el (aI .i64 (X0c.length:Int)),Bt,.no] (o:=by repeat' first|apply Ya|exact pcM|(simp at qah1406 qbh1406 qch1406 ⊢;omega)|(simp at qah1406 qbh1406 qch1406 qlh1406 ⊢;have qz:=X2s h1407;omega)|(refine X02 h1409 rfl ?_;first|(simp<;>omega)|(simp[h1345,h1395,h1396,h1407]<;>omega))|(refine Xk h1409 (by decide) ?_;first|(simp<;>omega)|(simp[h1345,h1395,h1396,h1407]<;>omega))|exact Xz) ?_;intro h;refine X2.back (by intro id h;cases h) rfl ?_;exact wkT [(5,7)] (J)
       refine bI λu1410 h1411=>rnI [.via (.ref 3 (Int.toNat v1393.1) (m1405.length)),Bf,.el (aI .i64 (X0c.length:Int)),Bt,.no] (o:=by repeat' first|apply Ya|exact pcM|(simp at qah1406 qbh1406 qch1406 ⊢;omega)|(simp at qah1406 qbh1406 qch1406 qlh1406 ⊢;have qz:=X0x h1407;omega)|(simp at qah1406 qbh1406 qch1406 qlh1406 ⊢;omega)|(simp;done)|(refine X02 h1411 rfl ?_;first|(simp<;>omega)|(simp[h1345,h1395,h1396,h1407]<;>omega))|(refine Xk h1411 (by decide) ?_;first|(simp<;>omega)|(simp[h1345,h1395,h1396,h1407]<;>omega))|exact Xz) ?_;intro h;refine X2.back (by intro id h;cases h) rfl ?_;exact wkT [(5,7)] (J)
      refine bI λm1413 h1414=>rnI [.pure [(Lf (X0c.map X0)),(X0 X1h),(AV.fn 116 [])] (AV.tup [(aI .i64 v1393.1),(aB v1393.2)]),Bt] (o:=by repeat' first|apply Ya|exact pcM|exact(X5h.lent (Xf _ _ _ h1394) (cc (Xmw (es:=X0c.map X0) rfl (by first|rfl|(simp;done)|(simp;rfl)|(simp[h1345];done)|(simp[h1345];rfl)|(simp[h1345,Ym,Yd];done)|(simp[h1345,Ym,Yd];rfl)) (by first|rfl|(simp;done)|(simp;omega)|(simp[h1345];done)|(simp[h1345];omega)) (X2c X52 X0c)) (cc (X7j (x:=X1h)) (cc .fn0 cn))) (Xmc (X0w .sc (X0w .sc X76))))|exact Xz) ?_;intro h;refine X2.hcall rfl rfl rfl rfl rfl trivial trivial (Xpx ⟨_,_,Xrc⟩ (f:=X0) (l:=X0c) (x:=X1h) h1414 rfl rfl rfl (by first|rfl|simp)) ?_;simp only[Option.some.injEq,Prod.mk.injEq] at h;obtain⟨rfl,rfl⟩:=h;refine X0e [] ?_;refine X2.back (by intro id h;cases h) rfl ?_;exact wkT [(3,7)] ((J nbF))
     refine rnI [.pure [(Lf (X0c.map X0)),(X0 X1h),(AV.fn 116 [])] (AV.tup [(aI .i64 v1393.1),(aB v1393.2)]),Bf,.stop 4] (o:=by repeat' first|apply Ya|exact pcM|exact(X5h.lent (Xf _ _ _ h1394) (cc (Xmw (es:=X0c.map X0) rfl (by first|rfl|(simp;done)|(simp;rfl)|(simp[h1345];done)|(simp[h1345];rfl)|(simp[h1345,Ym,Yd];done)|(simp[h1345,Ym,Yd];rfl)) (by first|rfl|(simp;done)|(simp;omega)|(simp[h1345];done)|(simp[h1345];omega)) (X2c X52 X0c)) (cc (X7j (x:=X1h)) (cc .fn0 cn))) (Xmc (X0w .sc (X0w .sc X76))))|exact Xz) ?_;refine bI λe1415 h1416=>?_;try have qh1416:=Xo h1416
     intro h;refine X2.drawnCut 5 tmD [.el (X0 e1415)] rfl rfl rfl rfl rfl (by repeat' first|apply Ya|exact Xz) ?_;revert h;refine bI λw1427 h1438=>?_;intro h;obtain⟨Xl3,Xww⟩:=w1427;try dsimp only at h
     refine X0e [] ?_;refine X2.joinOpF (λ(q:Nb Xl3)=>⟨fr [(0,(slE q.1 5 (Xl3.map X0))),(27,(aI .i64 Xww))],hp ([]++opE q.1 5 11 (Xl3.map X0)),6⟩) ?_ (λJ=>?_)
     ·
      rintro Xnx;rcases Xnx with ⟨_|_,Xow⟩
      ·
       simp only[Option.some.injEq,Prod.mk.injEq] at h;obtain⟨rfl,rfl⟩:=h;refine X0e [] ?_;refine X2.back (by intro id h;cases h) rfl ?_;exact wkT [(3,5)] ((J nbF))
      obtain rfl:=Xow rfl;simp only[Option.some.injEq,Prod.mk.injEq] at h;obtain⟨rfl,rfl⟩:=h;refine X0e [] ?_;refine X2.back (by intro id h;cases h) rfl ?_;exact wkT [] ((J nbS))
     clear h;revert h1438;intro h;refine X2.inline X3 Xzr rfl rfl rfl rfl rfl trivial trivial rfl rfl ?_;refine X0e [] ?_;refine X2.round ?_;revert h;refine bI λv1430 h1431=>brI (λh1432=>?_) λh1432=>?_
     ·
      intro h;simp only[Option.some.injEq,Prod.mk.injEq] at h;obtain⟨rfl,rfl⟩:=h;refine X0e [Bt,.ix 0,.ix 0,.ld (X0 e1415),.pure _ (AV.tup [(X0q v1430.1),(aI .i64 v1430.2)]),Bt] ?_;refine X2.back (by intro id h;cases h) rfl ?_;exact wkT [(5,3)] ((J nbF))
     refine rnI [Bt,.ix 0,.ix 0,.ld (X0 e1415),.pure _ (AV.tup [(X0q v1430.1),(aI .i64 v1430.2)]),Bf,.ix 0,.ld (X0 e1415)] (o:=by repeat' first|apply Ya|exact pcM|exact(List.getElem?_set_self (by have hq:=X6r h1416;simp;omega)).trans rfl|exact Xz) ?_;intro h;refine X2.round ?_;revert h;refine bI λv1435 h1436=>rnI [Bt,.ix 1,.ix 1,.ld (X0 (X1.mk e1415.Key e1415.Span (V2.mk v1430.1 e1415.Values.e1))),.pure _ (AV.tup [(X0q v1435.1),(aI .i64 v1435.2)])] (o:=by repeat' first|apply Ya|exact pcM|exact(List.getElem?_set_self (by have hq:=X6r h1416;simp;omega)).trans rfl|exact Xz) ?_;refine brI (λh1437=>?_) λh1437=>?_
     ·
      intro h;simp only[Option.some.injEq,Prod.mk.injEq] at h;obtain⟨rfl,rfl⟩:=h;refine X0e [Bt] (o:=by repeat' first|apply Ya|exact pcM|exact(List.getElem?_set_self (by have hq:=X6r h1416;simp;omega)).trans rfl|exact Xz) ?_;refine X2.back (by intro id h;cases h) rfl ?_;exact wkT [(5,3)] ((J nbF))
     refine rnI [Bf,.ix 1,.ld (X0 (X1.mk e1415.Key e1415.Span (V2.mk v1430.1 e1415.Values.e1)))] (o:=by repeat' first|apply Ya|exact pcM|exact(List.getElem?_set_self (by have hq:=X6r h1416;simp;omega)).trans rfl|exact Xz) ?_;intro h;refine X2.round ?_;simp only[Option.some.injEq,Prod.mk.injEq] at h;obtain⟨rfl,rfl⟩:=h;refine X0e [Bf] (o:=by repeat' first|apply Ya|exact pcM|exact(List.getElem?_set_self (by have hq:=X6r h1416;simp;omega)).trans rfl|exact Xz) ?_;refine X2.back (by intro id h;cases h) rfl ?_;exact wkT [(5,3)] ((J nbF))
    refine bI λe1440 h1441=>?_;try have qh1441:=Xo h1441
    refine bI λw1452 h1463=>?_;intro h;obtain⟨Xwu,Xwv⟩:=w1452;try dsimp only at h
    refine X0e [Bf,.el (X0 e1440),.ld (X0 e1440)] ?_;refine X2.joinOp (s':=⟨fr [(0,(AV.ref 3 0 (X0c.length))),(3,(AV.ptr 4 0 0)),(6,(aI .i64 Xcs)),(23,(aI .i64 Xwv))],hp ([(3,Ob (X0c.map X0) 11),(4,Ob [(X0 Xwu)] 11)]),5⟩) ?_ (λJ=>?_)
    ·
     revert h;refine brI (λh1464=>λe=>X7 [Bt] (k:=wkT [] (C0 _ _  nbS (oj e).symm))) λh1464=>bI λm1465 h1466=>rnI [Bf,.el (X0 e1440),.ld (X0 e1440),.el (X0 e1440),.ld (X0 e1440),.wrap] ?_;intro h;refine X2.hcall rfl rfl rfl rfl rfl trivial trivial (Xxc ⟨_,_,X04m⟩ (f:=X0) (l:=X0c) h1466 rfl rfl (by first|rfl|simp)) ?_;exact X7 [] (k:=wkT [(3,28)] (ih  _ _ nbF o h C0))
    clear h;revert h1463;intro h;refine X2.inline X3 Xzr rfl rfl rfl rfl rfl trivial trivial rfl rfl ?_;refine X0e [] ?_;refine X2.round ?_;revert h;refine bI λv1455 h1456=>brI (λh1457=>?_) λh1457=>?_
    ·
     intro h;simp only[Option.some.injEq,Prod.mk.injEq] at h;obtain⟨rfl,rfl⟩:=h;refine X0e [Bt,.ix 0,.ix 0,.pure _ (AV.tup [(X0q v1455.1),(aI .i64 v1455.2)]),Bt] ?_;refine X2.back (by intro id h;cases h) rfl ?_;exact wkT [] (J)
    refine rnI [Bt,.ix 0,.ix 0,.pure _ (AV.tup [(X0q v1455.1),(aI .i64 v1455.2)]),Bf,.ix 0] ?_;intro h;refine X2.round ?_;revert h;refine bI λv1460 h1461=>brI (λh1462=>?_) λh1462=>?_
    ·
     intro h;simp only[Option.some.injEq,Prod.mk.injEq] at h;obtain⟨rfl,rfl⟩:=h;refine X0e [Bt,.ix 1,.ix 1,.pure _ (AV.tup [(X0q v1460.1),(aI .i64 v1460.2)]),Bt] ?_;refine X2.back (by intro id h;cases h) rfl ?_;exact wkT [] (J)
    refine rnI [Bt,.ix 1,.ix 1,.pure _ (AV.tup [(X0q v1460.1),(aI .i64 v1460.2)]),Bf,.ix 1] ?_;intro h;refine X2.round ?_;simp only[Option.some.injEq,Prod.mk.injEq] at h;obtain⟨rfl,rfl⟩:=h;refine X0e [Bf] ?_;refine X2.back (by intro id h;cases h) rfl ?_;exact wkT [] (J)
   clear h;revert h1344;intro h;refine X2.inline X3 X024 rfl rfl rfl rfl rfl trivial trivial rfl rfl ?_;revert h;refine bI λu1330 h1331=>?_;have qh1331:=X13 h1331;refine bI λo1342 h1343=>rnI [.el (aI .i64 (X0c.length:Int))] ?_;intro h;refine wkT [] (X2.cut (X16 X0c X1h nbF qh1331 X0c 0 (by simp) _ h1343 ?_ ?_))
   ·
    intro eo1342;subst eo1342;refine X2.glue ?_;try dsimp only at h
    obtain rfl:=oj h;refine X0e [] ?_;refine X2.back (by intro id h;cases h) rfl ?_;exact wkT [] (J)
   intro X9m eo1342;subst eo1342;refine X2.glue ?_;try dsimp only at h
   obtain rfl:=oj h;refine X0e [] ?_;refine X2.back (by intro id h;cases h) rfl ?_;exact wkT [] (J)
  obtain rfl:=X2h rfl;refine X2.round ?_;revert h;refine bI λXwt h1502=>rnI [] ?_;intro h;refine X2.joinOp (s':=⟨fr [(0,AV.nils),(3,(AV.ptr 4 0 0)),(10,(aI .i64 Xwt))],hp ([(4,Ob [(X0 X1h)] 11)]),5⟩) ?_ (λJ=>?_)
  ·
   revert h;refine brI (λh1503=>?_) λh1503=>?_
   ·
    refine bI λw1524 h1545=>?_;intro h;obtain⟨Xl2,Xr1⟩:=w1524;try dsimp only at h
    refine X0e [Bt] ?_;refine X2.joinOpF (λ(q:Nb Xl2)=>⟨fr [(15,(AV.tup [(slE q.1 3 (Xl2.map X0)),(aI .i64 Xr1)]))],hp ([]++opE q.1 3 11 (Xl2.map X0)),4⟩) ?_ (λJ=>?_)
    ·
     rintro Xnw;rcases Xnw with ⟨_|_,Xov⟩
     ·
      revert h;exact λe=>X7 [] (k:=wkT [] (C0 _ _  nbF (oj e).symm))
     obtain rfl:=Xov rfl;revert h;exact λe=>X7 [] (k:=wkT [] (C0 _ _  nbS (oj e).symm))
    clear h;revert h1545;intro h;refine X2.inline X3 fn84 rfl rfl rfl rfl rfl trivial trivial rfl rfl ?_;revert h;refine bI λv1525 h1526=>brI (λh1527=>?_) λh1527=>?_
    ·
     refine brI (λh1528=>?_) λh1528=>?_
     ·
      refine bI λ_ h1540=>rnI [.pure [(Lf (List.map X0 ([]:List X1))),(X0 X1h),(AV.fn 116 [])] (AV.tup [(aI .i64 v1525.1),(aB v1525.2)]),Bt] (o:=by repeat' first|apply Ya|exact pcM|exact(pn (Xf _ _ _ h1526) (cc (Zn X0) (cc (X7j (x:=X1h)) (cc .fn0 cn))))|exact Xz) ?_;intro h;refine X2.joinOp (s':=⟨fr [(21,(AV.ref 5 0 (List.length (([]:List X1)++[X1h]))))],hp ([(5,Ob (List.map X0 (([]:List X1)++[X1h])) 11)]),6⟩) ?_ (λJ=>?_)
      ·
       simp only[Option.some.injEq,Prod.mk.injEq] at h;obtain⟨rfl,rfl⟩:=h;refine X0e [] ?_;refine X2.back (by intro id h;cases h) rfl ?_;exact wkT [(3,5)] ((J nbF))
      clear h;revert h1540;intro h;refine X2.inline X3 Xrc rfl rfl rfl rfl rfl trivial trivial rfl rfl ?_;revert h;refine bI λm1535 h1536=>?_;obtain⟨qah1536,qbh1536,qch1536,qh1536⟩:=X3e h1536;obtain rfl:=X8j h1536;refine brI (λh1537=>?_) λh1537=>?_
      ·
       refine bI λu1538 h1539=>rnI [Bf,.el (aI .i64 (List.length ([]:List X1):Int)),Bt,.no] (o:=by repeat' first|apply Ya|exact pcM|(simp at qah1536 qbh1536 qch1536 ⊢;omega)|(refine X02 h1539 rfl ?_;first|(simp<;>omega)|(simp[h1503,h1527,h1528,h1537]<;>omega))|(refine Xk h1539 (by decide) ?_;first|(simp<;>omega)|(simp[h1503,h1527,h1528,h1537]<;>omega))|exact Xz) ?_;intro h;refine X2.back (by intro id h;cases h) rfl ?_;exact wkT [(5,7)] (J)
      intro h;exact absurd h1537 (by simp)
     refine bI λm1541 h1542=>?_;intro h;exact absurd h1542 (by simp[Xr3])
    refine rnI [.pure [(Lf (List.map X0 ([]:List X1))),(X0 X1h),(AV.fn 116 [])] (AV.tup [(aI .i64 v1525.1),(aB v1525.2)]),Bf,.stop 4] (o:=by repeat' first|apply Ya|exact pcM|exact(pn (Xf _ _ _ h1526) (cc (Zn X0) (cc (X7j (x:=X1h)) (cc .fn0 cn))))|exact Xz) ?_;refine bI λe1543 h1544=>?_;try have qh1544:=Xo h1544
    intro h
    first|exact absurd (h1544) (by simp[X1o];done)|(simp[X1o,h1503,h1527] at h;done)|(simp[h1503,h1527] at hg;done)|exact absurd (h1544) (by simp[X1o,h1503,h1527];done)
   refine bI λe1546 h1547=>?_;try have qh1547:=Xo h1547
   intro h
   first|exact absurd (h1547) (by simp[X1o];done)|(simp[X1o,h1503] at h;done)|(simp[h1503] at hg;done)|exact absurd (h1547) (by simp[X1o,h1503];done)
  clear h;revert h1502;intro h;refine X2.inline X3 X024 rfl rfl rfl rfl rfl trivial trivial rfl rfl ?_;revert h;refine bI λu1490 h1491=>?_;have qh1491:=X13 h1491;refine bI λo1500 h1501=>rnI [.el (aI .i64 (List.length ([]:List X1):Int))] ?_;intro h;refine wkT [] (X2.cut (X16 ([]:List X1) X1h nbS qh1491 ([]:List X1) 0 (by simp) _ h1501 ?_ ?_))
  ·
   intro eo1500;subst eo1500;refine X2.glue ?_;try dsimp only at h
   obtain rfl:=oj h;refine X0e [] ?_;refine X2.back (by intro id h;cases h) rfl ?_;exact wkT [] (J)
  intro X9m eo1500;subst eo1500;refine X2.glue ?_;try dsimp only at h
  obtain rfl:=oj h;refine X0e [] ?_;refine X2.back (by intro id h;cases h) rfl ?_;exact wkT [] (J)
end Go.Av.Tryz