/- Printed by decomp.py: that the program computes the functions. -/
import Derived.Test.YtkjlgmgfhgamlaaGreatDCert5Z
set_option linter.all false

namespace Go.Av.Tryz
open Go.Proofs Go.D
set_option maxRecDepth 10000
set_option maxHeartbeats 40000000
instance Xz4:PCs Tryz.prog 124 (∀ (a0:Int) (a1:Int) (a2:Int) (r:(List X06)×Int),Xch a0 a1 a2=some r->X0h Tryz.prog 124 [(aI .i64 a0),(aI .i64 a1),(aI .i64 a2)] (AV.tup [(AV.list true (r.1.map X02)),(aI .i64 r.2)])):=⟨fun a0 a1 a2 r h=>by
 refine X0h.sym X8 X06n (nt:=70) rfl rfl ?_ okM
 unfold Xch at h
 revert h
 refine brI (fun h1=>fun e=>oj e▸Xb [.wrap,Bt] (k:=fi)) fun h1=>bI fun v2 h3=>brI (fun h4=>fun e=>oj e▸Xb [.wrap,Bf,.pure _ (AV.tup [(X02 v2.1),(aI .i64 v2.2)]),Bt] (k:=fi)) fun h4=>bI fun o24 h25=>rnI [.wrap,Bf,.pure _ (AV.tup [(X02 v2.1),(aI .i64 v2.2)]),Bf] ?_
 intro h
 refine wkT [] (X5.cut (Xi4 a0 a1 a2 _ _ _ nbS _ h25 ?_))
 intro X08 X0t eo24;subst eo24
 refine X5.glue ?_
 try dsimp only at h
 rcases X0t with ⟨_|_,X4d⟩
 ·
  refine X09 [] ?_
  refine X5.inline X8 X041 rfl rfl rfl rfl rfl trivial trivial rfl rfl ?_
  refine X09 [] ?_
  refine X5.back (by intro id h;cases h) rfl ?_
  refine X09 [] ?_
  refine X5.keepL [12,62] ?_
  refine X5.rangeFunc rfl trivial X03z rfl rfl rfl ?_
  intro rb rD rr rh1 rh2 rh3 rh4 rh5
  revert h
  refine bI fun o87 h88=>rnI [.el (aI .i64 (X08.length:Int)),.wrap] ?_
  intro h
  refine wkT [(4,0)] (X5.cut (Xa5 rh1 rh2 rh3 rh4 rh5 X08 nbF _ _ _ nbS _ h88 ?_))
  intro X4h Xc6 X38 X6p eo87;subst eo87
  refine X5.glue ?_
  try dsimp only at h
  rcases X38 with ⟨_|_,X7v⟩
  ·
   rcases X6p with ⟨_|_,X7u⟩
   ·
    refine X09 [] ?_
    refine X5.rfEnd (by intro id h;cases h) ?_
    revert h
    exact fun e=>oj e▸Xb [] (k:=fi)
   obtain rfl:=X7u rfl
   refine X09 [] ?_
   refine X5.rfEnd (by intro id h;cases h) ?_
   revert h
   exact fun e=>oj e▸Xb [] (k:=fi)
  obtain rfl:=X7v rfl
  rcases X6p with ⟨_|_,X7u⟩
  ·
   refine X09 [] ?_
   refine X5.rfEnd (by intro id h;cases h) ?_
   revert h
   exact fun e=>oj e▸Xb [] (k:=fi)
  obtain rfl:=X7u rfl
  refine X09 [] ?_
  refine X5.rfEnd (by intro id h;cases h) ?_
  revert h
  exact fun e=>oj e▸Xb [] (k:=fi)
 obtain rfl:=X4d rfl
 refine X09 [] ?_
 refine X5.inline X8 X041 rfl rfl rfl rfl rfl trivial trivial rfl rfl ?_
 refine X09 [] ?_
 refine X5.back (by intro id h;cases h) rfl ?_
 refine X09 [] ?_
 refine X5.keepL [12,62] ?_
 refine X5.rangeFunc rfl trivial X03z rfl rfl rfl ?_
 intro rb rD rr rh1 rh2 rh3 rh4 rh5
 revert h
 refine bI fun o130 h131=>rnI [.el (aI .i64 (List.length ([]:List X06):Int)),.wrap] ?_
 intro h
 refine wkT [] (X5.cut (Xa5 rh1 rh2 rh3 rh4 rh5 ([]:List X06) nbS _ _ _ nbS _ h131 ?_))
 intro X4h Xc6 X38 X6p eo130;subst eo130
 refine X5.glue ?_
 try dsimp only at h
 rcases X38 with ⟨_|_,X7v⟩
 ·
  rcases X6p with ⟨_|_,X7u⟩
  ·
   refine X09 [] ?_
   refine X5.rfEnd (by intro id h;cases h) ?_
   revert h
   exact fun e=>oj e▸Xb [] (k:=fi)
  obtain rfl:=X7u rfl
  refine X09 [] ?_
  refine X5.rfEnd (by intro id h;cases h) ?_
  revert h
  exact fun e=>oj e▸Xb [] (k:=fi)
 obtain rfl:=X7v rfl
 rcases X6p with ⟨_|_,X7u⟩
 ·
  refine X09 [] ?_
  refine X5.rfEnd (by intro id h;cases h) ?_
  revert h
  exact fun e=>oj e▸Xb [] (k:=fi)
 obtain rfl:=X7u rfl
 refine X09 [] ?_
 refine X5.rfEnd (by intro id h;cases h) ?_
 revert h
 exact fun e=>oj e▸Xb [] (k:=fi)⟩
instance Xi3:PCs Tryz.prog 83 (∀ (a0:X0y) (a1:Int) (r:(List X06)×Int),Xed a0 a1=some r->X0h Tryz.prog 83 [(X3f a0),(aI .i64 a1)] (AV.tup [(AV.list true (r.1.map X02)),(aI .i64 r.2)])):=⟨fun a0 a1 r h=>by
 refine X0h.sym X8 fn83 (nt:=40) rfl rfl ?_ okM
 unfold Xed at h
 revert h
 exact bI fun v1 h2=>brI (fun h3=>fun e=>oj e▸Xb [.pure _ (aI .i64 v1),Bt] (k:=fi)) fun h3=>brI (fun h4=>bI fun v5 h6=>brI (fun h7=>fun e=>oj e▸Xb [.pure _ (aI .i64 v1),Bf,Bt,.pure _ (AV.tup [(X02 v5.1),(aI .i64 v5.2)]),Bt] (k:=fi)) fun h7=>fun e=>oj e▸Xb [.pure _ (aI .i64 v1),Bf,Bt,.pure _ (AV.tup [(X02 v5.1),(aI .i64 v5.2)]),Bf] (k:=fi)) fun h4=>brI (fun h8=>bI fun v9 h10=>fun e=>oj e▸Xb [.pure _ (aI .i64 v1),Bf,Bf,Bt,.pure _ (AV.tup [(AV.list true (v9.1.map X02)),(aI .i64 v9.2)])] (k:=fi)) fun h8=>fun e=>oj e▸Xb [.pure _ (aI .i64 v1),Bf,Bf,Bf] (k:=fi)⟩
theorem X1a {Q:Xx->St->Mu->Prop} {μ:Mu} (X0k:(List X4)) (X1o:X4) (X27:Nb X0k) (hl:X0k.length<=140737488355328):∀ (xs:List X4) (k:Nat) (hx:X0k.drop k=xs) (o:X03) (h:Xh X0k X1o xs k  = some o)
  (C0:o=X03.x0->X5 Tryz.prog 19 5 Q (.exit (.exit 0)) [] ⟨fr [],hp ([(4,Ob [(X3 X1o)] 11)]++opE X27.1 3 11 (X0k.map X3)),5⟩ μ)
  (C1:∀ (Xa1:Int),o=X03.x1 Xa1->X5 Tryz.prog 19 5 Q (.exit .ret) [] ⟨fr [(4,(aI .i64 Xa1))],hp ([(4,Ob [(X3 X1o)] 11)]++opE X27.1 3 11 (X0k.map X3)),5⟩ μ),
  X5 Tryz.prog 19 5 Q (.loop (X4c 0 (Xd Tryz.f119))) [] ⟨fr [(0,(slE X27.1 3 (X0k.map X3))),(1,(AV.fn 120 [(AV.ptr 4 0 0)])),(7,(aI .i64 (X0k.length:Int))),(8,(aI .i64 (k:Int)))],hp ([(4,Ob [(X3 X1o)] 11)]++opE X27.1 3 11 (X0k.map X3)),5⟩ μ:=by
 intro xs
 induction xs with
 |nil =>
  intro k hx  o h C0 C1
  have hk:=X1u hx
  have hc:decide ((k:Int)<(X0k.length:Int))=false:=Yf (by omega)
  rw[Xh] at h
  rcases X27 with ⟨_|_,X74⟩
  ·
   refine X5.round ?_
   revert h
   exact fun e=>Xb [Bf] (k:=wkT [] (C0  (oj e).symm))
  ·
   obtain rfl:=X74 rfl
   refine X5.round ?_
   revert h
   exact fun e=>Xb [Bf] (k:=wkT [] (C0  (oj e).symm))
 |cons x xs ih =>
  intro k hx  o h C0 C1
  obtain⟨hk,hg,hx1⟩:=X13 hx
  have hc:decide ((k:Int)<(X0k.length:Int))=true:=Yt (by omega)
  rw[Xh] at h
  rcases X27 with ⟨_|_,X74⟩
  ·
   refine X5.round ?_
   refine X09 [Bt,.el (X3 x),.ld (X3 x)] ?_
   refine X5.inline X8 X06q rfl rfl rfl rfl rfl trivial trivial rfl rfl ?_
   refine X09 [] ?_
   refine X5.back (by intro id h;cases h) rfl ?_
   revert h
   refine brI (fun h1341=>fun e=>Xb [Bt] (k:=wkT [] (C1 _  (oj e).symm))) fun h1341=>rnI [Bf] ?_
   intro h
   exact wkT [] (ih (k+1) hx1  o h C0 C1)
  obtain rfl:=X74 rfl
  refine X5.round ?_
  exact absurd hk (by simp)
theorem X5p {Q:Xx->St->Mu->Prop} {μ:Mu}:∀ (n:Nat) (X0k:(List X4)) (X1o:X4) (X27:Nb X0k) (o:X3v) (h:X1r  n X0k X1o=some o)
  (C0:∀ (X4h:(List X4)) (Xhl:Int) (X38:Nb X4h),o=X3v.x0 X4h Xhl->X5 Tryz.prog 54 3 Q (.exit .ret) [] ⟨fr [(4,(slE X38.1 3 (X4h.map X3))),(5,(aI .i64 Xhl))],hp ([]++opE X38.1 3 11 (X4h.map X3)),4⟩ μ),
  X5 Tryz.prog 54 3 Q (.loop (X4c 0 (Xd Tryz.f82))) [] ⟨fr [(0,(slE X27.1 3 (X0k.map X3))),(3,(AV.ptr 4 0 0))],hp ([(4,Ob [(X3 X1o)] 11)]++opE X27.1 3 11 (X0k.map X3)),5⟩ μ:=by
 intro n
 induction n with
 |zero=>intro X0k X1o X27 o h C0;cases h
 |succ n ih =>
  intro X0k X1o X27 o h C0
  rw[X1r] at h
  rcases X27 with ⟨_|_,X74⟩
  ·
   refine X5.round ?_
   revert h
   refine bI fun Xd7 h1344=>rnI [] ?_
   intro h
   refine X5.joinOp (s':=⟨fr [(0,(AV.ref 3 0 (X0k.length))),(3,(AV.ptr 4 0 0)),(10,(aI .i64 Xd7))],hp ([(3,Ob (X0k.map X3) 11),(4,Ob [(X3 X1o)] 11)]),5⟩) ?_ (fun J=>?_)
   ·
    revert h
    refine brI (fun h1345=>?_) fun h1345=>?_
    ·
     refine bI fun w1392 h1439=>?_
     intro h
     obtain⟨Xlp,Xrq⟩:=w1392
     try dsimp only at h
     refine X09 [Bt] ?_
     refine X5.joinOpF (fun(q:Nb Xlp)=>⟨fr [(15,(AV.tup [(slE q.1 3 (Xlp.map X3)),(aI .i64 Xrq)]))],hp ([]++opE q.1 3 11 (Xlp.map X3)),4⟩) ?_ (fun J=>?_)
     ·
      rintro Xof
      rcases Xof with ⟨_|_,Xpi⟩
      ·
       revert h
       exact fun e=>Xb [] (k:=wkT [] (C0 _ _  nbF (oj e).symm))
      obtain rfl:=Xpi rfl
      revert h
      exact fun e=>Xb [] (k:=wkT [] (C0 _ _  nbS (oj e).symm))
     clear h;revert h1439
     intro h
     refine X5.inline X8 fn84 rfl rfl rfl rfl rfl trivial trivial rfl rfl ?_
     revert h
     refine bI fun v1393 h1394=>brI (fun h1395=>?_) fun h1395=>?_
     ·
      refine brI (fun h1396=>?_) fun h1396=>?_
      ·
       refine bI fun _ h1412=>rnI [.pure [(Lf (X0k.map X3)),(X3 X1o),(AV.fn 116 [])] (AV.tup [(aI .i64 v1393.1),(aB v1393.2)]),Bt] (o:=by repeat' first|apply Ya|exact pcM|exact(X5o.lent (Xi _ _ _ h1394) (cc (Xnc (es:=X0k.map X3) rfl (by first|rfl|(simp;done)|(simp;rfl)|(simp[h1345];done)|(simp[h1345];rfl)|(simp[h1345,Ym,Yd];done)|(simp[h1345,Ym,Yd];rfl)) (by first|rfl|(simp;done)|(simp;omega)|(simp[h1345];done)|(simp[h1345];omega)) (X2l X5e X0k)) (cc (X7x (x:=X1o)) (cc .fn0 cn))) (Xmt (X0x .sc (X0x .sc X7k))))|exact Xr) ?_
       intro h
       refine X5.joinOp (s':=⟨fr [(21,(AV.ref 5 0 (List.length (X0k++[X1o]))))],hp ([(5,Ob (List.map X3 (X0k++[X1o])) 11)]),6⟩) ?_ (fun J=>?_)
       ·
        simp only[Option.some.injEq,Prod.mk.injEq] at h
        obtain⟨rfl,rfl⟩:=h
        refine X09 [] ?_
        refine X5.back (by intro id h;cases h) rfl ?_
        exact wkT [(3,5)] ((J nbF))
       clear h;revert h1412
       intro h
       refine X5.inline X8 Xs2 rfl rfl rfl rfl rfl trivial trivial rfl rfl ?_
       revert h
       refine bI fun m1405 h1406=>?_
       obtain⟨qah1406,qbh1406,qch1406,qh1406⟩:=X3q h1406
       have qlh1406:=X8u h1406
       refine brI (fun h1407=>?_) fun h1407=>?_
       ·
        refine bI fun u1408 h1409=>rnI [.ne false,Bf,.el (aI .i64 (X0k.length:Int)),Bt,.no] (o:=by repeat' first|apply Ya|exact pcM|(simp at qah1406 qbh1406 qch1406 ⊢;omega)|(simp at qah1406 qbh1406 qch1406 qlh1406 ⊢;have qz:=X33 h1407;omega)|(refine X1m h1409 rfl ?_;first|(simp;done)|(simp;omega)|(simp[h1345,h1395,h1396,h1407];done)|(simp[h1345,h1395,h1396,h1407];omega))|(refine X0i h1409 (by decide) ?_;first|(simp;done)|(simp;omega)|(simp[h1345,h1395,h1396,h1407];done)|(simp[h1345,h1395,h1396,h1407];omega))|exact Xr) ?_
        intro h
        refine X5.back (by intro id h;cases h) rfl ?_
        exact wkT [(5,7)] (J)
       refine bI fun u1410 h1411=>rnI [.via (.ref 3 (Int.toNat v1393.1) (m1405.length)),Bf,.el (aI .i64 (X0k.length:Int)),Bt,.no] (o:=by repeat' first|apply Ya|exact pcM|(simp at qah1406 qbh1406 qch1406 ⊢;omega)|(simp at qah1406 qbh1406 qch1406 qlh1406 ⊢;have qz:=X0z h1407;omega)|(simp at qah1406 qbh1406 qch1406 qlh1406 ⊢;omega)|(simp;done)|(refine X1m h1411 rfl ?_;first|(simp;done)|(simp;omega)|(simp[h1345,h1395,h1396,h1407];done)|(simp[h1345,h1395,h1396,h1407];omega))|(refine X0i h1411 (by decide) ?_;first|(simp;done)|(simp;omega)|(simp[h1345,h1395,h1396,h1407];done)|(simp[h1345,h1395,h1396,h1407];omega))|exact Xr) ?_
       intro h
       refine X5.back (by intro id h;cases h) rfl ?_
       exact wkT [(5,7)] (J)
      refine bI fun m1413 h1414=>rnI [.pure [(Lf (X0k.map X3)),(X3 X1o),(AV.fn 116 [])] (AV.tup [(aI .i64 v1393.1),(aB v1393.2)]),Bt] (o:=by repeat' first|apply Ya|exact pcM|exact(X5o.lent (Xi _ _ _ h1394) (cc (Xnc (es:=X0k.map X3) rfl (by first|rfl|(simp;done)|(simp;rfl)|(simp[h1345];done)|(simp[h1345];rfl)|(simp[h1345,Ym,Yd];done)|(simp[h1345,Ym,Yd];rfl)) (by first|rfl|(simp;done)|(simp;omega)|(simp[h1345];done)|(simp[h1345];omega)) (X2l X5e X0k)) (cc (X7x (x:=X1o)) (cc .fn0 cn))) (Xmt (X0x .sc (X0x .sc X7k))))|exact Xr) ?_
      intro h
      refine X5.hcall rfl rfl rfl rfl rfl trivial trivial (Xqk ⟨_,_,Xs2⟩ (f:=X3) (l:=X0k) (x:=X1o) h1414 rfl rfl rfl (by first|rfl|simp)) ?_
      simp only[Option.some.injEq,Prod.mk.injEq] at h
      obtain⟨rfl,rfl⟩:=h
      refine X09 [] ?_
      refine X5.back (by intro id h;cases h) rfl ?_
      exact wkT [(3,7)] ((J nbF))
     refine rnI [.pure [(Lf (X0k.map X3)),(X3 X1o),(AV.fn 116 [])] (AV.tup [(aI .i64 v1393.1),(aB v1393.2)]),Bf,.stop 4] (o:=by repeat' first|apply Ya|exact pcM|exact(X5o.lent (Xi _ _ _ h1394) (cc (Xnc (es:=X0k.map X3) rfl (by first|rfl|(simp;done)|(simp;rfl)|(simp[h1345];done)|(simp[h1345];rfl)|(simp[h1345,Ym,Yd];done)|(simp[h1345,Ym,Yd];rfl)) (by first|rfl|(simp;done)|(simp;omega)|(simp[h1345];done)|(simp[h1345];omega)) (X2l X5e X0k)) (cc (X7x (x:=X1o)) (cc .fn0 cn))) (Xmt (X0x .sc (X0x .sc X7k))))|exact Xr) ?_
     refine bI fun e1415 h1416=>?_
     try have qh1416:=Xp h1416
     intro h
     refine X5.drawnCut 5 tmD [.el (X3 e1415)] rfl rfl rfl rfl rfl (by repeat' first|apply Ya|exact Xr) ?_
     revert h
     refine bI fun w1427 h1438=>?_
     intro h
     obtain⟨Xlo,Xy7⟩:=w1427
     try dsimp only at h
     refine X09 [] ?_
     refine X5.joinOpF (fun(q:Nb Xlo)=>⟨fr [(0,(slE q.1 5 (Xlo.map X3))),(27,(aI .i64 Xy7))],hp ([]++opE q.1 5 11 (Xlo.map X3)),6⟩) ?_ (fun J=>?_)
     ·
      rintro Xoe
      rcases Xoe with ⟨_|_,Xph⟩
      ·
       simp only[Option.some.injEq,Prod.mk.injEq] at h
       obtain⟨rfl,rfl⟩:=h
       refine X09 [] ?_
       refine X5.back (by intro id h;cases h) rfl ?_
       exact wkT [(3,5)] ((J nbF))
      obtain rfl:=Xph rfl
      simp only[Option.some.injEq,Prod.mk.injEq] at h
      obtain⟨rfl,rfl⟩:=h
      refine X09 [] ?_
      refine X5.back (by intro id h;cases h) rfl ?_
      exact wkT [] ((J nbS))
     clear h;revert h1438
     intro h
     refine X5.inline X8 X01t rfl rfl rfl rfl rfl trivial trivial rfl rfl ?_
     refine X09 [] ?_
     refine X5.round ?_
     revert h
     refine bI fun v1430 h1431=>brI (fun h1432=>?_) fun h1432=>?_
     ·
      intro h
      simp only[Option.some.injEq,Prod.mk.injEq] at h
      obtain⟨rfl,rfl⟩:=h
      refine X09 [Bt,.ix 0,.ix 0,.ld (X3 e1415),.pure _ (AV.tup [(X0l v1430.1),(aI .i64 v1430.2)]),Bt] ?_
      refine X5.back (by intro id h;cases h) rfl ?_
      exact wkT [(5,3)] ((J nbF))
     refine rnI [Bt,.ix 0,.ix 0,.ld (X3 e1415),.pure _ (AV.tup [(X0l v1430.1),(aI .i64 v1430.2)]),Bf,.ix 0,.ld (X3 e1415)] (o:=by repeat' first|apply Ya|exact pcM|exact(List.getElem?_set_self (by have hq:=X75 h1416;simp;omega)).trans rfl|exact Xr) ?_
     intro h
     refine X5.round ?_
     revert h
     refine bI fun v1435 h1436=>rnI [Bt,.ix 1,.ix 1,.ld (X3 (X4.mk e1415.Key e1415.Span (V2.mk v1430.1 e1415.Values.e1))),.pure _ (AV.tup [(X0l v1435.1),(aI .i64 v1435.2)])] (o:=by repeat' first|apply Ya|exact pcM|exact(List.getElem?_set_self (by have hq:=X75 h1416;simp;omega)).trans rfl|exact Xr) ?_
     refine brI (fun h1437=>?_) fun h1437=>?_
     ·
      intro h
      simp only[Option.some.injEq,Prod.mk.injEq] at h
      obtain⟨rfl,rfl⟩:=h
      refine X09 [Bt] (o:=by repeat' first|apply Ya|exact pcM|exact(List.getElem?_set_self (by have hq:=X75 h1416;simp;omega)).trans rfl|exact Xr) ?_
      refine X5.back (by intro id h;cases h) rfl ?_
      exact wkT [(5,3)] ((J nbF))
     refine rnI [Bf,.ix 1,.ld (X3 (X4.mk e1415.Key e1415.Span (V2.mk v1430.1 e1415.Values.e1)))] (o:=by repeat' first|apply Ya|exact pcM|exact(List.getElem?_set_self (by have hq:=X75 h1416;simp;omega)).trans rfl|exact Xr) ?_
     intro h
     refine X5.round ?_
     simp only[Option.some.injEq,Prod.mk.injEq] at h
     obtain⟨rfl,rfl⟩:=h
     refine X09 [Bf] (o:=by repeat' first|apply Ya|exact pcM|exact(List.getElem?_set_self (by have hq:=X75 h1416;simp;omega)).trans rfl|exact Xr) ?_
     refine X5.back (by intro id h;cases h) rfl ?_
     exact wkT [(5,3)] ((J nbF))
    refine bI fun e1440 h1441=>?_
    try have qh1441:=Xp h1441
    refine bI fun w1452 h1463=>?_
    intro h
    obtain⟨Xy5,Xy6⟩:=w1452
    try dsimp only at h
    refine X09 [Bf,.el (X3 e1440),.ld (X3 e1440)] ?_
    refine X5.joinOp (s':=⟨fr [(0,(AV.ref 3 0 (X0k.length))),(3,(AV.ptr 4 0 0)),(6,(aI .i64 Xd7)),(23,(aI .i64 Xy6))],hp ([(3,Ob (X0k.map X3) 11),(4,Ob [(X3 Xy5)] 11)]),5⟩) ?_ (fun J=>?_)
    ·
     revert h
     refine brI (fun h1464=>fun e=>Xb [Bt] (k:=wkT [] (C0 _ _  nbS (oj e).symm))) fun h1464=>bI fun m1465 h1466=>rnI [Bf,.el (X3 e1440),.ld (X3 e1440),.el (X3 e1440),.ld (X3 e1440),.wrap] ?_
     intro h
     refine X5.hcall rfl rfl rfl rfl rfl trivial trivial (Xyn ⟨_,_,X06p⟩ (f:=X3) (l:=X0k) h1466 rfl rfl (by first|rfl|simp)) ?_
     exact Xb [] (k:=wkT [(3,28)] (ih  _ _ nbF o h C0))
    clear h;revert h1463
    intro h
    refine X5.inline X8 X01t rfl rfl rfl rfl rfl trivial trivial rfl rfl ?_
    refine X09 [] ?_
    refine X5.round ?_
    revert h
    refine bI fun v1455 h1456=>brI (fun h1457=>?_) fun h1457=>?_
    ·
     intro h
     simp only[Option.some.injEq,Prod.mk.injEq] at h
     obtain⟨rfl,rfl⟩:=h
     refine X09 [Bt,.ix 0,.ix 0,.pure _ (AV.tup [(X0l v1455.1),(aI .i64 v1455.2)]),Bt] ?_
     refine X5.back (by intro id h;cases h) rfl ?_
     exact wkT [] (J)
    refine rnI [Bt,.ix 0,.ix 0,.pure _ (AV.tup [(X0l v1455.1),(aI .i64 v1455.2)]),Bf,.ix 0] ?_
    intro h
    refine X5.round ?_
    revert h
    refine bI fun v1460 h1461=>brI (fun h1462=>?_) fun h1462=>?_
    ·
     intro h
     simp only[Option.some.injEq,Prod.mk.injEq] at h
     obtain⟨rfl,rfl⟩:=h
     refine X09 [Bt,.ix 1,.ix 1,.pure _ (AV.tup [(X0l v1460.1),(aI .i64 v1460.2)]),Bt] ?_
     refine X5.back (by intro id h;cases h) rfl ?_
     exact wkT [] (J)
    refine rnI [Bt,.ix 1,.ix 1,.pure _ (AV.tup [(X0l v1460.1),(aI .i64 v1460.2)]),Bf,.ix 1] ?_
    intro h
    refine X5.round ?_
    simp only[Option.some.injEq,Prod.mk.injEq] at h
    obtain⟨rfl,rfl⟩:=h
    refine X09 [Bf] ?_
    refine X5.back (by intro id h;cases h) rfl ?_
    exact wkT [] (J)
   clear h;revert h1344
   intro h
   refine X5.inline X8 X045 rfl rfl rfl rfl rfl trivial trivial rfl rfl ?_
   revert h
   refine bI fun u1330 h1331=>?_
   have qh1331:=X16 h1331
   refine bI fun o1342 h1343=>rnI [.el (aI .i64 (X0k.length:Int))] ?_
   intro h
   refine wkT [] (X5.cut (X1a X0k X1o nbF qh1331 X0k 0 (by simp) _ h1343 ?_ ?_))
   ·
    intro eo1342;subst eo1342
    refine X5.glue ?_
    try dsimp only at h
    obtain rfl:=oj h
    refine X09 [] ?_
    refine X5.back (by intro id h;cases h) rfl ?_
    exact wkT [] (J)
   intro Xa1 eo1342;subst eo1342
   refine X5.glue ?_
   try dsimp only at h
   obtain rfl:=oj h
   refine X09 [] ?_
   refine X5.back (by intro id h;cases h) rfl ?_
   exact wkT [] (J)
  obtain rfl:=X74 rfl
  refine X5.round ?_
  revert h
  refine bI fun Xy4 h1502=>rnI [] ?_
  intro h
  refine X5.joinOp (s':=⟨fr [(0,AV.nils),(3,(AV.ptr 4 0 0)),(10,(aI .i64 Xy4))],hp ([(4,Ob [(X3 X1o)] 11)]),5⟩) ?_ (fun J=>?_)
  ·
   revert h
   refine brI (fun h1503=>?_) fun h1503=>?_
   ·
    refine bI fun w1524 h1545=>?_
    intro h
    obtain⟨Xln,Xrp⟩:=w1524
    try dsimp only at h
    refine X09 [Bt] ?_
    refine X5.joinOpF (fun(q:Nb Xln)=>⟨fr [(15,(AV.tup [(slE q.1 3 (Xln.map X3)),(aI .i64 Xrp)]))],hp ([]++opE q.1 3 11 (Xln.map X3)),4⟩) ?_ (fun J=>?_)
    ·
     rintro Xod
     rcases Xod with ⟨_|_,Xpg⟩
     ·
      revert h
      exact fun e=>Xb [] (k:=wkT [] (C0 _ _  nbF (oj e).symm))
     obtain rfl:=Xpg rfl
     revert h
     exact fun e=>Xb [] (k:=wkT [] (C0 _ _  nbS (oj e).symm))
    clear h;revert h1545
    intro h
    refine X5.inline X8 fn84 rfl rfl rfl rfl rfl trivial trivial rfl rfl ?_
    revert h
    refine bI fun v1525 h1526=>brI (fun h1527=>?_) fun h1527=>?_
    ·
     refine brI (fun h1528=>?_) fun h1528=>?_
     ·
      refine bI fun _ h1540=>rnI [.pure [(Lf (List.map X3 ([]:List X4))),(X3 X1o),(AV.fn 116 [])] (AV.tup [(aI .i64 v1525.1),(aB v1525.2)]),Bt] (o:=by repeat' first|apply Ya|exact pcM|exact(pn (Xi _ _ _ h1526) (cc (Zn X3) (cc (X7x (x:=X1o)) (cc .fn0 cn))))|exact Xr) ?_
      intro h
      refine X5.joinOp (s':=⟨fr [(21,(AV.ref 5 0 (List.length (([]:List X4)++[X1o]))))],hp ([(5,Ob (List.map X3 (([]:List X4)++[X1o])) 11)]),6⟩) ?_ (fun J=>?_)
      ·
       simp only[Option.some.injEq,Prod.mk.injEq] at h
       obtain⟨rfl,rfl⟩:=h
       refine X09 [] ?_
       refine X5.back (by intro id h;cases h) rfl ?_
       exact wkT [(3,5)] ((J nbF))
      clear h;revert h1540
      intro h
      refine X5.inline X8 Xs2 rfl rfl rfl rfl rfl trivial trivial rfl rfl ?_
      revert h
      refine bI fun m1535 h1536=>?_
      obtain⟨qah1536,qbh1536,qch1536,qh1536⟩:=X3q h1536
      obtain rfl:=X8t h1536
      refine brI (fun h1537=>?_) fun h1537=>?_
      ·
       refine bI fun u1538 h1539=>rnI [Bf,.el (aI .i64 (List.length ([]:List X4):Int)),Bt,.no] (o:=by repeat' first|apply Ya|exact pcM|(simp at qah1536 qbh1536 qch1536 ⊢;omega)|(refine X1m h1539 rfl ?_;first|(simp;done)|(simp;omega)|(simp[h1503,h1527,h1528,h1537];done)|(simp[h1503,h1527,h1528,h1537];omega))|(refine X0i h1539 (by decide) ?_;first|(simp;done)|(simp;omega)|(simp[h1503,h1527,h1528,h1537];done)|(simp[h1503,h1527,h1528,h1537];omega))|exact Xr) ?_
       intro h
       refine X5.back (by intro id h;cases h) rfl ?_
       exact wkT [(5,7)] (J)
      intro h
      exact absurd h1537 (by simp)
     refine bI fun m1541 h1542=>?_
     intro h
     exact absurd h1542 (by simp[Xrr])
    refine rnI [.pure [(Lf (List.map X3 ([]:List X4))),(X3 X1o),(AV.fn 116 [])] (AV.tup [(aI .i64 v1525.1),(aB v1525.2)]),Bf,.stop 4] (o:=by repeat' first|apply Ya|exact pcM|exact(pn (Xi _ _ _ h1526) (cc (Zn X3) (cc (X7x (x:=X1o)) (cc .fn0 cn))))|exact Xr) ?_
    refine bI fun e1543 h1544=>?_
    try have qh1544:=Xp h1544
    intro h
    exact absurd (h1544) (by simp[X32])
   refine bI fun e1546 h1547=>?_
   try have qh1547:=Xp h1547
   intro h
   exact absurd (h1547) (by simp[X32])
  clear h;revert h1502
  intro h
  refine X5.inline X8 X045 rfl rfl rfl rfl rfl trivial trivial rfl rfl ?_
  revert h
  refine bI fun u1490 h1491=>?_
  have qh1491:=X16 h1491
  refine bI fun o1500 h1501=>rnI [.el (aI .i64 (List.length ([]:List X4):Int))] ?_
  intro h
  refine wkT [] (X5.cut (X1a ([]:List X4) X1o nbS qh1491 ([]:List X4) 0 (by simp) _ h1501 ?_ ?_))
  ·
   intro eo1500;subst eo1500
   refine X5.glue ?_
   try dsimp only at h
   obtain rfl:=oj h
   refine X09 [] ?_
   refine X5.back (by intro id h;cases h) rfl ?_
   exact wkT [] (J)
  intro Xa1 eo1500;subst eo1500
  refine X5.glue ?_
  try dsimp only at h
  obtain rfl:=oj h
  refine X09 [] ?_
  refine X5.back (by intro id h;cases h) rfl ?_
  exact wkT [] (J)
end Go.Av.Tryz