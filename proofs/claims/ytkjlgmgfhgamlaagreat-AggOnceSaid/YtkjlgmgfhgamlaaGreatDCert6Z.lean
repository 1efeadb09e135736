/- Printed by decomp.py: that the program computes the functions. -/
import Derived.Test.YtkjlgmgfhgamlaaGreatDCert5Z
set_option linter.all false

namespace Go.Av.Tryz
open Go.Proofs Go.D
set_option maxRecDepth 10000
set_option maxHeartbeats 40000000
instance Xx9:PCs Tryz.prog 124 (∀ (a0:Int) (a1:Int) (a2:Int) (r:(List Xz)×Int),Xbs a0 a1 a2=some r->X0j Tryz.prog 124 [(aI .i64 a0),(aI .i64 a1),(aI .i64 a2)] (AV.tup [(AV.list true (r.1.map Xw)),(aI .i64 r.2)])):=⟨fun a0 a1 a2 r h=>by
 refine X0j.sym X5 X043 (nt:=70) rfl rfl ?_ okM
 unfold Xbs at h
 revert h
 refine brI (fun h1=>fun e=>oj e▸Xa [.wrap,Bt] (k:=fi)) fun h1=>bI fun v2 h3=>brI (fun h4=>fun e=>oj e▸Xa [.wrap,Bf,.pure _ (AV.tup [(Xw v2.1),(aI .i64 v2.2)]),Bt] (k:=fi)) fun h4=>bI fun o24 h25=>rnI [.wrap,Bf,.pure _ (AV.tup [(Xw v2.1),(aI .i64 v2.2)]),Bf] ?_
 intro h
 refine wkT [] (X3.cut (Xhc a0 a1 a2 _ _ _ nbS _ h25 ?_))
 intro X08 X0q eo24;subst eo24
 refine X3.glue ?_
 try dsimp only at h
 rcases X0q with ⟨_|_,X4a⟩
 ·
  refine X09 [] ?_
  refine X3.inline X5 X01k rfl rfl rfl rfl rfl trivial trivial rfl rfl ?_
  refine X09 [] ?_
  refine X3.back (by intro id h;cases h) rfl ?_
  refine X09 [] ?_
  refine X3.keepL [12,62] ?_
  refine X3.rangeFunc rfl trivial X01i rfl rfl rfl ?_
  intro rb rD rr rh1 rh2 rh3 rh4 rh5
  revert h
  refine bI fun o87 h88=>rnI [.el (aI .i64 (X08.length:Int)),.wrap] ?_
  intro h
  refine wkT [(4,0)] (X3.cut (X9o rh1 rh2 rh3 rh4 rh5 X08 nbF _ _ _ nbS _ h88 ?_))
  intro X4e Xbj X3c X6h eo87;subst eo87
  refine X3.glue ?_
  try dsimp only at h
  rcases X3c with ⟨_|_,X7n⟩
  ·
   rcases X6h with ⟨_|_,X7m⟩
   ·
    refine X09 [] ?_
    refine X3.rfEnd (by intro id h;cases h) ?_
    revert h
    exact fun e=>oj e▸Xa [] (k:=fi)
   obtain rfl:=X7m rfl
   refine X09 [] ?_
   refine X3.rfEnd (by intro id h;cases h) ?_
   revert h
   exact fun e=>oj e▸Xa [] (k:=fi)
  obtain rfl:=X7n rfl
  rcases X6h with ⟨_|_,X7m⟩
  ·
   refine X09 [] ?_
   refine X3.rfEnd (by intro id h;cases h) ?_
   revert h
   exact fun e=>oj e▸Xa [] (k:=fi)
  obtain rfl:=X7m rfl
  refine X09 [] ?_
  refine X3.rfEnd (by intro id h;cases h) ?_
  revert h
  exact fun e=>oj e▸Xa [] (k:=fi)
 obtain rfl:=X4a rfl
 refine X09 [] ?_
 refine X3.inline X5 X01k rfl rfl rfl rfl rfl trivial trivial rfl rfl ?_
 refine X09 [] ?_
 refine X3.back (by intro id h;cases h) rfl ?_
 refine X09 [] ?_
 refine X3.keepL [12,62] ?_
 refine X3.rangeFunc rfl trivial X01i rfl rfl rfl ?_
 intro rb rD rr rh1 rh2 rh3 rh4 rh5
 revert h
 refine bI fun o130 h131=>rnI [.el (aI .i64 (List.length ([]:List Xz):Int)),.wrap] ?_
 intro h
 refine wkT [] (X3.cut (X9o rh1 rh2 rh3 rh4 rh5 ([]:List Xz) nbS _ _ _ nbS _ h131 ?_))
 intro X4e Xbj X3c X6h eo130;subst eo130
 refine X3.glue ?_
 try dsimp only at h
 rcases X3c with ⟨_|_,X7n⟩
 ·
  rcases X6h with ⟨_|_,X7m⟩
  ·
   refine X09 [] ?_
   refine X3.rfEnd (by intro id h;cases h) ?_
   revert h
   exact fun e=>oj e▸Xa [] (k:=fi)
  obtain rfl:=X7m rfl
  refine X09 [] ?_
  refine X3.rfEnd (by intro id h;cases h) ?_
  revert h
  exact fun e=>oj e▸Xa [] (k:=fi)
 obtain rfl:=X7n rfl
 rcases X6h with ⟨_|_,X7m⟩
 ·
  refine X09 [] ?_
  refine X3.rfEnd (by intro id h;cases h) ?_
  revert h
  exact fun e=>oj e▸Xa [] (k:=fi)
 obtain rfl:=X7m rfl
 refine X09 [] ?_
 refine X3.rfEnd (by intro id h;cases h) ?_
 revert h
 exact fun e=>oj e▸Xa [] (k:=fi)⟩
instance Xd5:PCs Tryz.prog 83 (∀ (a0:X0s) (a1:Int) (r:(List Xz)×Int),Xdp a0 a1=some r->X0j Tryz.prog 83 [(X3i a0),(aI .i64 a1)] (AV.tup [(AV.list true (r.1.map Xw)),(aI .i64 r.2)])):=⟨fun a0 a1 r h=>by
 refine X0j.sym X5 fn83 (nt:=40) rfl rfl ?_ okM
 unfold Xdp at h
 revert h
 exact bI fun v1 h2=>brI (fun h3=>fun e=>oj e▸Xa [.pure _ (aI .i64 v1),Bt] (k:=fi)) fun h3=>brI (fun h4=>bI fun v5 h6=>brI (fun h7=>fun e=>oj e▸Xa [.pure _ (aI .i64 v1),Bf,Bt,.pure _ (AV.tup [(Xw v5.1),(aI .i64 v5.2)]),Bt] (k:=fi)) fun h7=>fun e=>oj e▸Xa [.pure _ (aI .i64 v1),Bf,Bt,.pure _ (AV.tup [(Xw v5.1),(aI .i64 v5.2)]),Bf] (k:=fi)) fun h4=>brI (fun h8=>bI fun v9 h10=>fun e=>oj e▸Xa [.pure _ (aI .i64 v1),Bf,Bf,Bt,.pure _ (AV.tup [(AV.list true (v9.1.map Xw)),(aI .i64 v9.2)])] (k:=fi)) fun h8=>fun e=>oj e▸Xa [.pure _ (aI .i64 v1),Bf,Bf,Bf] (k:=fi)⟩
theorem X1b {Q:Xv->St->Mu->Prop} {μ:Mu} (X0h:(List X2)) (X1q:X2) (X27:Nb X0h) (hl:X0h.length<=140737488355328):∀ (xs:List X2) (k:Nat) (hx:X0h.drop k=xs) (o:X02) (h:Xf X0h X1q xs k  = some o)
  (C0:o=X02.x0->X3 Tryz.prog 19 5 Q (.exit (.exit 0)) [] ⟨fr [],hp ([(4,Ob [(X1 X1q)] 11)]++opE X27.1 3 11 (X0h.map X1)),5⟩ μ)
  (C1:∀ (X9k:Int),o=X02.x1 X9k->X3 Tryz.prog 19 5 Q (.exit .ret) [] ⟨fr [(4,(aI .i64 X9k))],hp ([(4,Ob [(X1 X1q)] 11)]++opE X27.1 3 11 (X0h.map X1)),5⟩ μ),
  X3 Tryz.prog 19 5 Q (.loop (X4y 0 (Xb Tryz.f119))) [] ⟨fr [(0,(slE X27.1 3 (X0h.map X1))),(1,(AV.fn 120 [(AV.ptr 4 0 0)])),(7,(aI .i64 (X0h.length:Int))),(8,(aI .i64 (k:Int)))],hp ([(4,Ob [(X1 X1q)] 11)]++opE X27.1 3 11 (X0h.map X1)),5⟩ μ:=by
 intro xs
 induction xs with
 |nil =>
  intro k hx  o h C0 C1
  have hk:=X1h hx
  have hc:decide ((k:Int)<(X0h.length:Int))=false:=Yf (by omega)
  rw[Xf] at h
  rcases X27 with ⟨_|_,X6z⟩
  ·
   refine X3.round ?_
   revert h
   exact fun e=>Xa [Bf] (k:=wkT [] (C0  (oj e).symm))
  ·
   obtain rfl:=X6z rfl
   refine X3.round ?_
   revert h
   exact fun e=>Xa [Bf] (k:=wkT [] (C0  (oj e).symm))
 |cons x xs ih =>
  intro k hx  o h C0 C1
  obtain⟨hk,hg,hx1⟩:=X0w hx
  have hc:decide ((k:Int)<(X0h.length:Int))=true:=Yt (by omega)
  rw[Xf] at h
  rcases X27 with ⟨_|_,X6z⟩
  ·
   refine X3.round ?_
   refine X09 [Bt,.el (X1 x),.ld (X1 x)] ?_
   refine X3.inline X5 X046 rfl rfl rfl rfl rfl trivial trivial rfl rfl ?_
   refine X09 [] ?_
   refine X3.back (by intro id h;cases h) rfl ?_
   revert h
   refine brI (fun h1341=>fun e=>Xa [Bt] (k:=wkT [] (C1 _  (oj e).symm))) fun h1341=>rnI [Bf] ?_
   intro h
   exact wkT [] (ih (k+1) hx1  o h C0 C1)
  obtain rfl:=X6z rfl
  refine X3.round ?_
  exact absurd hk (by simp)
theorem X5m {Q:Xv->St->Mu->Prop} {μ:Mu}:∀ (n:Nat) (X0h:(List X2)) (X1q:X2) (X27:Nb X0h) (o:X3z) (h:X0u  n X0h X1q=some o)
  (C0:∀ (X4e:(List X2)) (Xgx:Int) (X3c:Nb X4e),o=X3z.x0 X4e Xgx->X3 Tryz.prog 54 3 Q (.exit .ret) [] ⟨fr [(4,(slE X3c.1 3 (X4e.map X1))),(5,(aI .i64 Xgx))],hp ([]++opE X3c.1 3 11 (X4e.map X1)),4⟩ μ),
  X3 Tryz.prog 54 3 Q (.loop (X4y 0 (Xb Tryz.f82))) [] ⟨fr [(0,(slE X27.1 3 (X0h.map X1))),(3,(AV.ptr 4 0 0))],hp ([(4,Ob [(X1 X1q)] 11)]++opE X27.1 3 11 (X0h.map X1)),5⟩ μ:=by
 intro n
 induction n with
 |zero=>intro X0h X1q X27 o h C0;cases h
 |succ n ih =>
  intro X0h X1q X27 o h C0
  rw[X0u] at h
  rcases X27 with ⟨_|_,X6z⟩
  ·
   refine X3.round ?_
   revert h
   refine bI fun Xcm h1344=>rnI [] ?_
   intro h
   refine X3.joinOp (s':=⟨fr [(0,(AV.ref 3 0 (X0h.length))),(3,(AV.ptr 4 0 0)),(10,(aI .i64 Xcm))],hp ([(3,Ob (X0h.map X1) 11),(4,Ob [(X1 X1q)] 11)]),5⟩) ?_ (fun J=>?_)
   ·
    revert h
    refine brI (fun h1345=>?_) fun h1345=>?_
    ·
     refine bI fun w1392 h1439=>?_
     intro h
     obtain⟨Xkk,Xql⟩:=w1392
     try dsimp only at h
     refine X09 [Bt] ?_
     refine X3.joinOpF (fun(q:Nb Xkk)=>⟨fr [(15,(AV.tup [(slE q.1 3 (Xkk.map X1)),(aI .i64 Xql)]))],hp ([]++opE q.1 3 11 (Xkk.map X1)),4⟩) ?_ (fun J=>?_)
     ·
      rintro Xne
      rcases Xne with ⟨_|_,Xoe⟩
      ·
       revert h
       exact fun e=>Xa [] (k:=wkT [] (C0 _ _  nbF (oj e).symm))
      obtain rfl:=Xoe rfl
      revert h
      exact fun e=>Xa [] (k:=wkT [] (C0 _ _  nbS (oj e).symm))
     clear h;revert h1439
     intro h
     refine X3.inline X5 fn84 rfl rfl rfl rfl rfl trivial trivial rfl rfl ?_
     revert h
     refine bI fun v1393 h1394=>brI (fun h1395=>?_) fun h1395=>?_
     ·
      refine brI (fun h1396=>?_) fun h1396=>?_
      ·
       refine bI fun _ h1412=>rnI [.pure [(Lf (X0h.map X1)),(X1 X1q),(AV.fn 116 [])] (AV.tup [(aI .i64 v1393.1),(aB v1393.2)]),Bt] (o:=by repeat' first|apply Ya|exact pcM|exact(X5l.lent (Xh _ _ _ h1394) (cc (Xmc (es:=X0h.map X1) rfl (by first|rfl|(simp;done)|(simp;rfl)|(simp[h1345];done)|(simp[h1345];rfl)|(simp[h1345,Ym,Yd];done)|(simp[h1345,Ym,Yd];rfl)) (by first|rfl|(simp;done)|(simp;omega)|(simp[h1345];done)|(simp[h1345];omega)) (X2p X58 X0h)) (cc (X7p (x:=X1q)) (cc .fn0 cn))) (Xlq (X10 .sc (X10 .sc X7b))))|exact X04) ?_
       intro h
       refine X3.joinOp (s':=⟨fr [(21,(AV.ref 5 0 (List.length (X0h++[X1q]))))],hp ([(5,Ob (List.map X1 (X0h++[X1q])) 11)]),6⟩) ?_ (fun J=>?_)
       ·
        simp only[Option.some.injEq,Prod.mk.injEq] at h
        obtain⟨rfl,rfl⟩:=h
        refine X09 [] ?_
        refine X3.back (by intro id h;cases h) rfl ?_
        exact wkT [(3,5)] ((J nbF))
       clear h;revert h1412
       intro h
       refine X3.inline X5 Xqv rfl rfl rfl rfl rfl trivial trivial rfl rfl ?_
       revert h
       refine bI fun m1405 h1406=>?_
       obtain⟨qah1406,qbh1406,qch1406,qh1406⟩:=X3u h1406
       have qlh1406:=X8m h1406
       refine brI (fun h1407=>?_) fun h1407=>?_
       ·
        refine bI fun u1408 h1409=>rnI [.ne false,Bf,.el (aI .i64 (X0h.length:Int)),Bt,.no] (o:=by repeat' first|apply Ya|exact pcM|(simp at qah1406 qbh1406 qch1406 ⊢;omega)|(simp at qah1406 qbh1406 qch1406 qlh1406 ⊢;have qz:=X36 h1407;omega)|(refine X1o h1409 rfl ?_;first|(simp;done)|(simp;omega)|(simp[h1345,h1395,h1396,h1407];done)|(simp[h1345,h1395,h1396,h1407];omega))|(refine X0d h1409 (by decide) ?_;first|(simp;done)|(simp;omega)|(simp[h1345,h1395,h1396,h1407];done)|(simp[h1345,h1395,h1396,h1407];omega))|exact X04) ?_
        intro h
        refine X3.back (by intro id h;cases h) rfl ?_
        exact wkT [(5,7)] (J)
       refine bI fun u1410 h1411=>rnI [.via (.ref 3 (Int.toNat v1393.1) (m1405.length)),Bf,.el (aI .i64 (X0h.length:Int)),Bt,.no] (o:=by repeat' first|apply Ya|exact pcM|(simp at qah1406 qbh1406 qch1406 ⊢;omega)|(simp at qah1406 qbh1406 qch1406 qlh1406 ⊢;have qz:=X11 h1407;omega)|(simp at qah1406 qbh1406 qch1406 qlh1406 ⊢;omega)|(simp;done)|(refine X1o h1411 rfl ?_;first|(simp;done)|(simp;omega)|(simp[h1345,h1395,h1396,h1407];done)|(simp[h1345,h1395,h1396,h1407];omega))|(refine X0d h1411 (by decide) ?_;first|(simp;done)|(simp;omega)|(simp[h1345,h1395,h1396,h1407];done)|(simp[h1345,h1395,h1396,h1407];omega))|exact X04) ?_
       intro h
       refine X3.back (by intro id h;cases h) rfl ?_
       exact wkT [(5,7)] (J)
      refine bI fun m1413 h1414=>rnI [.pure [(Lf (X0h.map X1)),(X1 X1q),(AV.fn 116 [])] (AV.tup [(aI .i64 v1393.1),(aB v1393.2)]),Bt] (o:=by repeat' first|apply Ya|exact pcM|exact(X5l.lent (Xh _ _ _ h1394) (cc (Xmc (es:=X0h.map X1) rfl (by first|rfl|(simp;done)|(simp;rfl)|(simp[h1345];done)|(simp[h1345];rfl)|(simp[h1345,Ym,Yd];done)|(simp[h1345,Ym,Yd];rfl)) (by first|rfl|(simp;done)|(simp;omega)|(simp[h1345];done)|(simp[h1345];omega)) (X2p X58 X0h)) (cc (X7p (x:=X1q)) (cc .fn0 cn))) (Xlq (X10 .sc (X10 .sc X7b))))|exact X04) ?_
      intro h
      refine X3.hcall rfl rfl rfl rfl rfl trivial trivial (Xpe ⟨_,_,Xqv⟩ (f:=X1) (l:=X0h) (x:=X1q) h1414 rfl rfl rfl (by first|rfl|simp)) ?_
      simp only[Option.some.injEq,Prod.mk.injEq] at h
      obtain⟨rfl,rfl⟩:=h
      refine X09 [] ?_
      refine X3.back (by intro id h;cases h) rfl ?_
      exact wkT [(3,7)] ((J nbF))
     refine rnI [.pure [(Lf (X0h.map X1)),(X1 X1q),(AV.fn 116 [])] (AV.tup [(aI .i64 v1393.1),(aB v1393.2)]),Bf,.stop 4] (o:=by repeat' first|apply Ya|exact pcM|exact(X5l.lent (Xh _ _ _ h1394) (cc (Xmc (es:=X0h.map X1) rfl (by first|rfl|(simp;done)|(simp;rfl)|(simp[h1345];done)|(simp[h1345];rfl)|(simp[h1345,Ym,Yd];done)|(simp[h1345,Ym,Yd];rfl)) (by first|rfl|(simp;done)|(simp;omega)|(simp[h1345];done)|(simp[h1345];omega)) (X2p X58 X0h)) (cc (X7p (x:=X1q)) (cc .fn0 cn))) (Xlq (X10 .sc (X10 .sc X7b))))|exact X04) ?_
     refine bI fun e1415 h1416=>?_
     try have qh1416:=Xq h1416
     intro h
     refine X3.drawnCut 5 tmD [.el (X1 e1415)] rfl rfl rfl rfl rfl (by repeat' first|apply Ya|exact X04) ?_
     revert h
     refine bI fun w1427 h1438=>?_
     intro h
     obtain⟨Xkj,Xwi⟩:=w1427
     try dsimp only at h
     refine X09 [] ?_
     refine X3.joinOpF (fun(q:Nb Xkj)=>⟨fr [(0,(slE q.1 5 (Xkj.map X1))),(27,(aI .i64 Xwi))],hp ([]++opE q.1 5 11 (Xkj.map X1)),6⟩) ?_ (fun J=>?_)
     ·
      rintro Xnd
      rcases Xnd with ⟨_|_,Xod⟩
      ·
       simp only[Option.some.injEq,Prod.mk.injEq] at h
       obtain⟨rfl,rfl⟩:=h
       refine X09 [] ?_
       refine X3.back (by intro id h;cases h) rfl ?_
       exact wkT [(3,5)] ((J nbF))
      obtain rfl:=Xod rfl
      simp only[Option.some.injEq,Prod.mk.injEq] at h
      obtain⟨rfl,rfl⟩:=h
      refine X09 [] ?_
      refine X3.back (by intro id h;cases h) rfl ?_
      exact wkT [] ((J nbS))
     clear h;revert h1438
     intro h
     refine X3.inline X5 Xzg rfl rfl rfl rfl rfl trivial trivial rfl rfl ?_
     refine X09 [] ?_
     refine X3.round ?_
     revert h
     refine bI fun v1430 h1431=>brI (fun h1432=>?_) fun h1432=>?_
     ·
      intro h
      simp only[Option.some.injEq,Prod.mk.injEq] at h
      obtain⟨rfl,rfl⟩:=h
      refine X09 [Bt,.ix 0,.ix 0,.ld (X1 e1415),.pure _ (AV.tup [(X0t v1430.1),(aI .i64 v1430.2)]),Bt] ?_
      refine X3.back (by intro id h;cases h) rfl ?_
      exact wkT [(5,3)] ((J nbF))
     refine rnI [Bt,.ix 0,.ix 0,.ld (X1 e1415),.pure _ (AV.tup [(X0t v1430.1),(aI .i64 v1430.2)]),Bf,.ix 0,.ld (X1 e1415)] (o:=by repeat' first|apply Ya|exact pcM|exact(List.getElem?_set_self (by have hq:=X70 h1416;simp;omega)).trans rfl|exact X04) ?_
     intro h
     refine X3.round ?_
     revert h
     refine bI fun v1435 h1436=>rnI [Bt,.ix 1,.ix 1,.ld (X1 (X2.mk e1415.Key e1415.Span (V2.mk v1430.1 e1415.Values.e1))),.pure _ (AV.tup [(X0t v1435.1),(aI .i64 v1435.2)])] (o:=by repeat' first|apply Ya|exact pcM|exact(List.getElem?_set_self (by have hq:=X70 h1416;simp;omega)).trans rfl|exact X04) ?_
     refine brI (fun h1437=>?_) fun h1437=>?_
     ·
      intro h
      simp only[Option.some.injEq,Prod.mk.injEq] at h
      obtain⟨rfl,rfl⟩:=h
      refine X09 [Bt] (o:=by repeat' first|apply Ya|exact pcM|exact(List.getElem?_set_self (by have hq:=X70 h1416;simp;omega)).trans rfl|exact X04) ?_
      refine X3.back (by intro id h;cases h) rfl ?_
      exact wkT [(5,3)] ((J nbF))
     refine rnI [Bf,.ix 1,.ld (X1 (X2.mk e1415.Key e1415.Span (V2.mk v1430.1 e1415.Values.e1)))] (o:=by repeat' first|apply Ya|exact pcM|exact(List.getElem?_set_self (by have hq:=X70 h1416;simp;omega)).trans rfl|exact X04) ?_
     intro h
     refine X3.round ?_
     simp only[Option.some.injEq,Prod.mk.injEq] at h
     obtain⟨rfl,rfl⟩:=h
     refine X09 [Bf] (o:=by repeat' first|apply Ya|exact pcM|exact(List.getElem?_set_self (by have hq:=X70 h1416;simp;omega)).trans rfl|exact X04) ?_
     refine X3.back (by intro id h;cases h) rfl ?_
     exact wkT [(5,3)] ((J nbF))
    refine bI fun e1440 h1441=>?_
    try have qh1441:=Xq h1441
    refine bI fun w1452 h1463=>?_
    intro h
    obtain⟨Xwg,Xwh⟩:=w1452
    try dsimp only at h
    refine X09 [Bf,.el (X1 e1440),.ld (X1 e1440)] ?_
    refine X3.joinOp (s':=⟨fr [(0,(AV.ref 3 0 (X0h.length))),(3,(AV.ptr 4 0 0)),(6,(aI .i64 Xcm)),(23,(aI .i64 Xwh))],hp ([(3,Ob (X0h.map X1) 11),(4,Ob [(X1 Xwg)] 11)]),5⟩) ?_ (fun J=>?_)
    ·
     revert h
     refine brI (fun h1464=>fun e=>Xa [Bt] (k:=wkT [] (C0 _ _  nbS (oj e).symm))) fun h1464=>bI fun m1465 h1466=>rnI [Bf,.el (X1 e1440),.ld (X1 e1440),.el (X1 e1440),.ld (X1 e1440),.wrap] ?_
     intro h
     refine X3.hcall rfl rfl rfl rfl rfl trivial trivial (Xww ⟨_,_,X045⟩ (f:=X1) (l:=X0h) h1466 rfl rfl (by first|rfl|simp)) ?_
     exact Xa [] (k:=wkT [(3,28)] (ih  _ _ nbF o h C0))
    clear h;revert h1463
    intro h
    refine X3.inline X5 Xzg rfl rfl rfl rfl rfl trivial trivial rfl rfl ?_
    refine X09 [] ?_
    refine X3.round ?_
    revert h
    refine bI fun v1455 h1456=>brI (fun h1457=>?_) fun h1457=>?_
    ·
     intro h
     simp only[Option.some.injEq,Prod.mk.injEq] at h
     obtain⟨rfl,rfl⟩:=h
     refine X09 [Bt,.ix 0,.ix 0,.pure _ (AV.tup [(X0t v1455.1),(aI .i64 v1455.2)]),Bt] ?_
     refine X3.back (by intro id h;cases h) rfl ?_
     exact wkT [] (J)
    refine rnI [Bt,.ix 0,.ix 0,.pure _ (AV.tup [(X0t v1455.1),(aI .i64 v1455.2)]),Bf,.ix 0] ?_
    intro h
    refine X3.round ?_
    revert h
    refine bI fun v1460 h1461=>brI (fun h1462=>?_) fun h1462=>?_
    ·
     intro h
     simp only[Option.some.injEq,Prod.mk.injEq] at h
     obtain⟨rfl,rfl⟩:=h
     refine X09 [Bt,.ix 1,.ix 1,.pure _ (AV.tup [(X0t v1460.1),(aI .i64 v1460.2)]),Bt] ?_
     refine X3.back (by intro id h;cases h) rfl ?_
     exact wkT [] (J)
    refine rnI [Bt,.ix 1,.ix 1,.pure _ (AV.tup [(X0t v1460.1),(aI .i64 v1460.2)]),Bf,.ix 1] ?_
    intro h
    refine X3.round ?_
    simp only[Option.some.injEq,Prod.mk.injEq] at h
    obtain⟨rfl,rfl⟩:=h
    refine X09 [Bf] ?_
    refine X3.back (by intro id h;cases h) rfl ?_
    exact wkT [] (J)
   clear h;revert h1344
   intro h
   refine X3.inline X5 X01o rfl rfl rfl rfl rfl trivial trivial rfl rfl ?_
   revert h
   refine bI fun u1330 h1331=>?_
   have qh1331:=X12 h1331
   refine bI fun o1342 h1343=>rnI [.el (aI .i64 (X0h.length:Int))] ?_
   intro h
   refine wkT [] (X3.cut (X1b X0h X1q nbF qh1331 X0h 0 (by simp) _ h1343 ?_ ?_))
   ·
    intro eo1342;subst eo1342
    refine X3.glue ?_
    try dsimp only at h
    obtain rfl:=oj h
    refine X09 [] ?_
    refine X3.back (by intro id h;cases h) rfl ?_
    exact wkT [] (J)
   intro X9k eo1342;subst eo1342
   refine X3.glue ?_
   try dsimp only at h
   obtain rfl:=oj h
   refine X09 [] ?_
   refine X3.back (by intro id h;cases h) rfl ?_
   exact wkT [] (J)
  obtain rfl:=X6z rfl
  refine X3.round ?_
  revert h
  refine bI fun Xwf h1502=>rnI [] ?_
  intro h
  refine X3.joinOp (s':=⟨fr [(0,AV.nils),(3,(AV.ptr 4 0 0)),(10,(aI .i64 Xwf))],hp ([(4,Ob [(X1 X1q)] 11)]),5⟩) ?_ (fun J=>?_)
  ·
   revert h
   refine brI (fun h1503=>?_) fun h1503=>?_
   ·
    refine bI fun w1524 h1545=>?_
    intro h
    obtain⟨Xki,Xqk⟩:=w1524
    try dsimp only at h
    refine X09 [Bt] ?_
    refine X3.joinOpF (fun(q:Nb Xki)=>⟨fr [(15,(AV.tup [(slE q.1 3 (Xki.map X1)),(aI .i64 Xqk)]))],hp ([]++opE q.1 3 11 (Xki.map X1)),4⟩) ?_ (fun J=>?_)
    ·
     rintro Xnc
     rcases Xnc with ⟨_|_,Xoc⟩
     ·
      revert h
      exact fun e=>Xa [] (k:=wkT [] (C0 _ _  nbF (oj e).symm))
     obtain rfl:=Xoc rfl
     revert h
     exact fun e=>Xa [] (k:=wkT [] (C0 _ _  nbS (oj e).symm))
    clear h;revert h1545
    intro h
    refine X3.inline X5 fn84 rfl rfl rfl rfl rfl trivial trivial rfl rfl ?_
    revert h
    refine bI fun v1525 h1526=>brI (fun h1527=>?_) fun h1527=>?_
    ·
     refine brI (fun h1528=>?_) fun h1528=>?_
     ·
      refine bI fun _ h1540=>rnI [.pure [(Lf (List.map X1 ([]:List X2))),(X1 X1q),(AV.fn 116 [])] (AV.tup [(aI .i64 v1525.1),(aB v1525.2)]),Bt] (o:=by repeat' first|apply Ya|exact pcM|exact(pn (Xh _ _ _ h1526) (cc (Zn X1) (cc (X7p (x:=X1q)) (cc .fn0 cn))))|exact X04) ?_
      intro h
      refine X3.joinOp (s':=⟨fr [(21,(AV.ref 5 0 (List.length (([]:List X2)++[X1q]))))],hp ([(5,Ob (List.map X1 (([]:List X2)++[X1q])) 11)]),6⟩) ?_ (fun J=>?_)
      ·
       simp only[Option.some.injEq,Prod.mk.injEq] at h
       obtain⟨rfl,rfl⟩:=h
       refine X09 [] ?_
       refine X3.back (by intro id h;cases h) rfl ?_
       exact wkT [(3,5)] ((J nbF))
      clear h;revert h1540
      intro h
      refine X3.inline X5 Xqv rfl rfl rfl rfl rfl trivial trivial rfl rfl ?_
      revert h
      refine bI fun m1535 h1536=>?_
      obtain⟨qah1536,qbh1536,qch1536,qh1536⟩:=X3u h1536
      obtain rfl:=X8l h1536
      refine brI (fun h1537=>?_) fun h1537=>?_
      ·
       refine bI fun u1538 h1539=>rnI [Bf,.el (aI .i64 (List.length ([]:List X2):Int)),Bt,.no] (o:=by repeat' first|apply Ya|exact pcM|(simp at qah1536 qbh1536 qch1536 ⊢;omega)|(refine X1o h1539 rfl ?_;first|(simp;done)|(simp;omega)|(simp[h1503,h1527,h1528,h1537];done)|(simp[h1503,h1527,h1528,h1537];omega))|(refine X0d h1539 (by decide) ?_;first|(simp;done)|(simp;omega)|(simp[h1503,h1527,h1528,h1537];done)|(simp[h1503,h1527,h1528,h1537];omega))|exact X04) ?_
       intro h
       refine X3.back (by intro id h;cases h) rfl ?_
       exact wkT [(5,7)] (J)
      intro h
      exact absurd h1537 (by simp)
     refine bI fun m1541 h1542=>?_
     intro h
     exact absurd h1542 (by simp[Xlw])
    refine rnI [.pure [(Lf (List.map X1 ([]:List X2))),(X1 X1q),(AV.fn 116 [])] (AV.tup [(aI .i64 v1525.1),(aB v1525.2)]),Bf,.stop 4] (o:=by repeat' first|apply Ya|exact pcM|exact(pn (Xh _ _ _ h1526) (cc (Zn X1) (cc (X7p (x:=X1q)) (cc .fn0 cn))))|exact X04) ?_
    refine bI fun e1543 h1544=>?_
    try have qh1544:=Xq h1544
    intro h
    exact absurd (h1544) (by simp[X3b])
   refine bI fun e1546 h1547=>?_
   try have qh1547:=Xq h1547
   intro h
   exact absurd (h1547) (by simp[X3b])
  clear h;revert h1502
  intro h
  refine X3.inline X5 X01o rfl rfl rfl rfl rfl trivial trivial rfl rfl ?_
  revert h
  refine bI fun u1490 h1491=>?_
  have qh1491:=X12 h1491
  refine bI fun o1500 h1501=>rnI [.el (aI .i64 (List.length ([]:List X2):Int))] ?_
  intro h
  refine wkT [] (X3.cut (X1b ([]:List X2) X1q nbS qh1491 ([]:List X2) 0 (by simp) _ h1501 ?_ ?_))
  ·
   intro eo1500;subst eo1500
   refine X3.glue ?_
   try dsimp only at h
   obtain rfl:=oj h
   refine X09 [] ?_
   refine X3.back (by intro id h;cases h) rfl ?_
   exact wkT [] (J)
  intro X9k eo1500;subst eo1500
  refine X3.glue ?_
  try dsimp only at h
  obtain rfl:=oj h
  refine X09 [] ?_
  refine X3.back (by intro id h;cases h) rfl ?_
  exact wkT [] (J)
end Go.Av.Tryz