/- Printed by decomp.py: that the program computes the functions. -/
import Derived.Test.YtkjlgmgfhgamlaaGreatDCert5Z
set_option linter.all false

namespace Go.Av.Tryz
open Go.Proofs Go.D
set_option maxRecDepth 10000
set_option maxHeartbeats 40000000
instance Xx1:PCs Tryz.prog 124 (∀ (a0:Int) (a1:Int) (a2:Int) (r:(List X05)×Int),Xbo a0 a1 a2=some r->X0l Tryz.prog 124 [(aI .i64 a0),(aI .i64 a1),(aI .i64 a2)] (AV.tup [(AV.list true (r.1.map X00)),(aI .i64 r.2)])):=⟨fun a0 a1 a2 r h=>by
 refine X0l.sym X6 X03s (nt:=70) rfl rfl ?_ okM
 unfold Xbo at h
 revert h
 refine brI (fun h1=>fun e=>oj e▸Xa [.wrap,Bt] (k:=fi)) fun h1=>bI fun v2 h3=>brI (fun h4=>fun e=>oj e▸Xa [.wrap,Bf,.pure _ (AV.tup [(X00 v2.1),(aI .i64 v2.2)]),Bt] (k:=fi)) fun h4=>bI fun o24 h25=>rnI [.wrap,Bf,.pure _ (AV.tup [(X00 v2.1),(aI .i64 v2.2)]),Bf] ?_
 intro h
 refine wkT [] (X3.cut (Xgq a0 a1 a2 _ _ _ nbS _ h25 ?_))
 intro X09 X0r eo24;subst eo24
 refine X3.glue ?_
 try dsimp only at h
 rcases X0r with ⟨_|_,X4b⟩
 ·
  refine X0i [] ?_
  refine X3.inline X6 X018 rfl rfl rfl rfl rfl trivial trivial rfl rfl ?_
  refine X0i [] ?_
  refine X3.back (by intro id h;cases h) rfl ?_
  refine X0i [] ?_
  refine X3.keepL [12,62] ?_
  refine X3.rangeFunc rfl trivial X016 rfl rfl rfl ?_
  intro rb rD rr rh1 rh2 rh3 rh4 rh5
  revert h
  refine bI fun o87 h88=>rnI [.el (aI .i64 (X09.length:Int)),.wrap] ?_
  intro h
  refine wkT [(4,0)] (X3.cut (X9g rh1 rh2 rh3 rh4 rh5 X09 nbF _ _ _ nbS _ h88 ?_))
  intro X2d X4u X25 X49 eo87;subst eo87
  refine X3.glue ?_
  try dsimp only at h
  rcases X25 with ⟨_|_,X5i⟩<;>(try obtain rfl:=X5i rfl)
  all_goals
   rcases X49 with ⟨_|_,Xaf⟩<;>(try obtain rfl:=Xaf rfl)
   all_goals
    refine X0i [] ?_
    refine X3.rfEnd (by intro id h;cases h) ?_
    revert h
    exact fun e=>oj e▸Xa [] (k:=fi)
 obtain rfl:=X4b rfl
 refine X0i [] ?_
 refine X3.inline X6 X018 rfl rfl rfl rfl rfl trivial trivial rfl rfl ?_
 refine X0i [] ?_
 refine X3.back (by intro id h;cases h) rfl ?_
 refine X0i [] ?_
 refine X3.keepL [12,62] ?_
 refine X3.rangeFunc rfl trivial X016 rfl rfl rfl ?_
 intro rb rD rr rh1 rh2 rh3 rh4 rh5
 revert h
 refine bI fun o130 h131=>rnI [.el (aI .i64 (List.length ([]:List X05):Int)),.wrap] ?_
 intro h
 refine wkT [] (X3.cut (X9g rh1 rh2 rh3 rh4 rh5 ([]:List X05) nbS _ _ _ nbS _ h131 ?_))
 intro X2d X4u X25 X49 eo130;subst eo130
 refine X3.glue ?_
 try dsimp only at h
 rcases X25 with ⟨_|_,X5i⟩<;>(try obtain rfl:=X5i rfl)
 all_goals
  rcases X49 with ⟨_|_,Xaf⟩<;>(try obtain rfl:=Xaf rfl)
  all_goals
   refine X0i [] ?_
   refine X3.rfEnd (by intro id h;cases h) ?_
   revert h
   exact fun e=>oj e▸Xa [] (k:=fi)⟩
instance Xgp:PCs Tryz.prog 83 (∀ (a0:X0n) (a1:Int) (r:(List X05)×Int),Xdb a0 a1=some r->X0l Tryz.prog 83 [(X3i a0),(aI .i64 a1)] (AV.tup [(AV.list true (r.1.map X00)),(aI .i64 r.2)])):=⟨fun a0 a1 r h=>by
 refine X0l.sym X6 fn83 (nt:=40) rfl rfl ?_ okM
 unfold Xdb at h
 revert h
 exact bI fun v1 h2=>brI (fun h3=>fun e=>oj e▸Xa [.pure _ (aI .i64 v1),Bt] (k:=fi)) fun h3=>brI (fun h4=>bI fun v5 h6=>brI (fun h7=>fun e=>oj e▸Xa [.pure _ (aI .i64 v1),Bf,Bt,.pure _ (AV.tup [(X00 v5.1),(aI .i64 v5.2)]),Bt] (k:=fi)) fun h7=>fun e=>oj e▸Xa [.pure _ (aI .i64 v1),Bf,Bt,.pure _ (AV.tup [(X00 v5.1),(aI .i64 v5.2)]),Bf] (k:=fi)) fun h4=>brI (fun h8=>bI fun v9 h10=>fun e=>oj e▸Xa [.pure _ (aI .i64 v1),Bf,Bf,Bt,.pure _ (AV.tup [(AV.list true (v9.1.map X00)),(aI .i64 v9.2)])] (k:=fi)) fun h8=>fun e=>oj e▸Xa [.pure _ (aI .i64 v1),Bf,Bf,Bf] (k:=fi)⟩
theorem X1f {Q:Xz->St->Mu->Prop} {μ:Mu} (X02:(List X2)) (X0k:X2) (X0c:Nb X02) (hl:X02.length<=140737488355328):∀ (xs:List X2) (k:Nat) (hx:X02.drop k=xs) (o:X03) (h:Xk X02 X0k xs k  = some o)
  (C0:o=X03.x0->X3 Tryz.prog 19 5 Q (.exit (.exit 0)) [] ⟨fr [],hp ([(4,Ob [(X1 X0k)] 11)]++opE X0c.1 3 11 (X02.map X1)),5⟩ μ)
  (C1:∀ (X9c:Int),o=X03.x1 X9c->X3 Tryz.prog 19 5 Q (.exit .ret) [] ⟨fr [(4,(aI .i64 X9c))],hp ([(4,Ob [(X1 X0k)] 11)]++opE X0c.1 3 11 (X02.map X1)),5⟩ μ),
  X3 Tryz.prog 19 5 Q (.loop (X5p 0 (Xj Tryz.f119))) [] ⟨fr [(0,(slE X0c.1 3 (X02.map X1))),(1,(AV.fn 120 [(AV.ptr 4 0 0)])),(7,(aI .i64 (X02.length:Int))),(8,(aI .i64 (k:Int)))],hp ([(4,Ob [(X1 X0k)] 11)]++opE X0c.1 3 11 (X02.map X1)),5⟩ μ:=by
 intro xs
 induction xs with
 |nil =>
  intro k hx  o h C0 C1
  have hk:=drop_nil hx
  have hc:decide ((k:Int)<(X02.length:Int))=false:=Yf (by omega)
  rw[Xk] at h
  rcases X0c with ⟨_|_,X1d⟩<;>(try obtain rfl:=X1d rfl)
  all_goals
   refine X3.round ?_
   revert h
   exact fun e=>Xa [Bf] (k:=wkT [] (C0  (oj e).symm))
 |cons x xs ih =>
  intro k hx  o h C0 C1
  obtain⟨hk,hg,hx1⟩:=X1a hx
  have hc:decide ((k:Int)<(X02.length:Int))=true:=Yt (by omega)
  rw[Xk] at h
  rcases X0c with ⟨_|_,X1d⟩
  ·
   refine X3.round ?_
   refine X0i [Bt,.el (X1 x),.ld (X1 x)] ?_
   refine X3.inline X6 X03v rfl rfl rfl rfl rfl trivial trivial rfl rfl ?_
   refine X0i [] ?_
   refine X3.back (by intro id h;cases h) rfl ?_
   revert h
   refine brI (fun h1341=>fun e=>Xa [Bt] (k:=wkT [] (C1 _  (oj e).symm))) fun h1341=>rnI [Bf] ?_
   intro h
   exact wkT [] (ih (k+1) hx1  o h C0 C1)
  obtain rfl:=X1d rfl
  refine X3.round ?_
  exact absurd hk (by simp)
theorem X5o {Q:Xz->St->Mu->Prop} {μ:Mu}:∀ (n:Nat) (X02:(List X2)) (X0k:X2) (X0c:Nb X02) (o:X3x) (h:X1r  n X02 X0k=some o)
  (C0:∀ (X2d:(List X2)) (Xge:Int) (X25:Nb X2d),o=X3x.x0 X2d Xge->X3 Tryz.prog 54 3 Q (.exit .ret) [] ⟨fr [(4,(slE X25.1 3 (X2d.map X1))),(5,(aI .i64 Xge))],hp ([]++opE X25.1 3 11 (X2d.map X1)),4⟩ μ),
  X3 Tryz.prog 54 3 Q (.loop (X5p 0 (Xj Tryz.f82))) [] ⟨fr [(0,(slE X0c.1 3 (X02.map X1))),(3,(AV.ptr 4 0 0))],hp ([(4,Ob [(X1 X0k)] 11)]++opE X0c.1 3 11 (X02.map X1)),5⟩ μ:=by
 intro n
 induction n with
 |zero=>intro X02 X0k X0c o h C0;cases h
 |succ n ih =>
  intro X02 X0k X0c o h C0
  rw[X1r] at h
  rcases X0c with ⟨_|_,X1d⟩
  ·
   refine X3.round ?_
   revert h
   refine bI fun Xcb h1344=>rnI [] ?_
   intro h
   refine X3.joinOp (s':=⟨fr [(0,(AV.ref 3 0 (X02.length))),(3,(AV.ptr 4 0 0)),(10,(aI .i64 Xcb))],hp ([(3,Ob (X02.map X1) 11),(4,Ob [(X1 X0k)] 11)]),5⟩) ?_ (fun J=>?_)
   ·
    revert h
    refine brI (fun h1345=>?_) fun h1345=>?_
    ·
     refine bI fun w1392 h1439=>?_
     intro h
     obtain⟨Xk8,Xq2⟩:=w1392
     try dsimp only at h
     refine X0i [Bt] ?_
     refine X3.joinOpF (fun(q:Nb Xk8)=>⟨fr [(15,(AV.tup [(slE q.1 3 (Xk8.map X1)),(aI .i64 Xq2)]))],hp ([]++opE q.1 3 11 (Xk8.map X1)),4⟩) ?_ (fun J=>?_)
     ·
      rintro Xmv
      rcases Xmv with ⟨_|_,Xnx⟩
      ·
       revert h
       exact fun e=>Xa [] (k:=wkT [] (C0 _ _  nbF (oj e).symm))
      obtain rfl:=Xnx rfl
      revert h
      exact fun e=>Xa [] (k:=wkT [] (C0 _ _  nbS (oj e).symm))
     clear h;revert h1439
     intro h
     refine X3.inline X6 fn84 rfl rfl rfl rfl rfl trivial trivial rfl rfl ?_
     revert h
     refine bI fun v1393 h1394=>brI (fun h1395=>?_) fun h1395=>?_
     ·
      refine brI (fun h1396=>?_) fun h1396=>?_
      ·
       refine bI fun _ h1412=>rnI [.pure [(Lf (X02.map X1)),(X1 X0k),(AV.fn 116 [])] (AV.tup [(aI .i64 v1393.1),(aB v1393.2)]),Bt] (o:=by repeat' first|apply Ya|exact pcM|exact(X5n.lent (Xm _ _ _ h1394) (cc (Xlx (es:=X02.map X1) rfl (by first|rfl|(simp;done)|(simp;rfl)|(simp[h1345];done)|(simp[h1345];rfl)|(simp[h1345,Ym,Yd];done)|(simp[h1345,Ym,Yd];rfl)) (by first|rfl|(simp;done)|(simp;omega)|(simp[h1345];done)|(simp[h1345];omega)) (X2o X5d X02)) (cc (X7i (x:=X0k)) (cc .fn0 cn))) (Xlb (X0z .sc (X0z .sc X78))))|exact Xw) ?_
       intro h
       refine X3.joinOp (s':=⟨fr [(21,(AV.ref 5 0 (List.length (X02++[X0k]))))],hp ([(5,Ob (List.map X1 (X02++[X0k])) 11)]),6⟩) ?_ (fun J=>?_)
       ·
        simp only[Option.some.injEq,Prod.mk.injEq] at h
        obtain⟨rfl,rfl⟩:=h
        refine X0i [] ?_
        refine X3.back (by intro id h;cases h) rfl ?_
        exact wkT [(3,5)] ((J nbF))
       clear h;revert h1412
       intro h
       refine X3.inline X6 Xqb rfl rfl rfl rfl rfl trivial trivial rfl rfl ?_
       revert h
       refine bI fun m1405 h1406=>?_
       obtain⟨qah1406,qbh1406,qch1406,qh1406⟩:=X3s h1406
       have qlh1406:=X8d h1406
       refine brI (fun h1407=>?_) fun h1407=>?_
       ·
        refine bI fun u1408 h1409=>rnI [.ne false,Bf,.el (aI .i64 (X02.length:Int)),Bt,.no] (o:=by repeat' first|apply Ya|exact pcM|(simp at qah1406 qbh1406 qch1406 ⊢;omega)|(simp at qah1406 qbh1406 qch1406 qlh1406 ⊢;have qz:=X37 h1407;omega)|(refine Xv h1409 rfl ?_;first|(simp;done)|(simp;omega)|(simp[h1345,h1395,h1396,h1407];done)|(simp[h1345,h1395,h1396,h1407];omega))|(refine Xf h1409 (by decide) ?_;first|(simp;done)|(simp;omega)|(simp[h1345,h1395,h1396,h1407];done)|(simp[h1345,h1395,h1396,h1407];omega))|exact Xw) ?_
        intro h
        refine X3.back (by intro id h;cases h) rfl ?_
        exact wkT [(5,7)] (J)
       refine bI fun u1410 h1411=>rnI [.via (.ref 3 (Int.toNat v1393.1) (m1405.length)),Bf,.el (aI .i64 (X02.length:Int)),Bt,.no] (o:=by repeat' first|apply Ya|exact pcM|(simp at qah1406 qbh1406 qch1406 ⊢;omega)|(simp at qah1406 qbh1406 qch1406 qlh1406 ⊢;have qz:=X10 h1407;omega)|(simp at qah1406 qbh1406 qch1406 qlh1406 ⊢;omega)|(simp;done)|(refine Xv h1411 rfl ?_;first|(simp;done)|(simp;omega)|(simp[h1345,h1395,h1396,h1407];done)|(simp[h1345,h1395,h1396,h1407];omega))|(refine Xf h1411 (by decide) ?_;first|(simp;done)|(simp;omega)|(simp[h1345,h1395,h1396,h1407];done)|(simp[h1345,h1395,h1396,h1407];omega))|exact Xw) ?_
       intro h
       refine X3.back (by intro id h;cases h) rfl ?_
       exact wkT [(5,7)] (J)
      refine bI fun m1413 h1414=>rnI [.pure [(Lf (X02.map X1)),(X1 X0k),(AV.fn 116 [])] (AV.tup [(aI .i64 v1393.1),(aB v1393.2)]),Bt] (o:=by repeat' first|apply Ya|exact pcM|exact(X5n.lent (Xm _ _ _ h1394) (cc (Xlx (es:=X02.map X1) rfl (by first|rfl|(simp;done)|(simp;rfl)|(simp[h1345];done)|(simp[h1345];rfl)|(simp[h1345,Ym,Yd];done)|(simp[h1345,Ym,Yd];rfl)) (by first|rfl|(simp;done)|(simp;omega)|(simp[h1345];done)|(simp[h1345];omega)) (X2o X5d X02)) (cc (X7i (x:=X0k)) (cc .fn0 cn))) (Xlb (X0z .sc (X0z .sc X78))))|exact Xw) ?_
      intro h
      refine X3.hcall rfl rfl rfl rfl rfl trivial trivial (Xoz ⟨_,_,Xqb⟩ (f:=X1) (l:=X02) (x:=X0k) h1414 rfl rfl rfl (by first|rfl|simp)) ?_
      simp only[Option.some.injEq,Prod.mk.injEq] at h
      obtain⟨rfl,rfl⟩:=h
      refine X0i [] ?_
      refine X3.back (by intro id h;cases h) rfl ?_
      exact wkT [(3,7)] ((J nbF))
     refine rnI [.pure [(Lf (X02.map X1)),(X1 X0k),(AV.fn 116 [])] (AV.tup [(aI .i64 v1393.1),(aB v1393.2)]),Bf,.stop 4] (o:=by repeat' first|apply Ya|exact pcM|exact(X5n.lent (Xm _ _ _ h1394) (cc (Xlx (es:=X02.map X1) rfl (by first|rfl|(simp;done)|(simp;rfl)|(simp[h1345];done)|(simp[h1345];rfl)|(simp[h1345,Ym,Yd];done)|(simp[h1345,Ym,Yd];rfl)) (by first|rfl|(simp;done)|(simp;omega)|(simp[h1345];done)|(simp[h1345];omega)) (X2o X5d X02)) (cc (X7i (x:=X0k)) (cc .fn0 cn))) (Xlb (X0z .sc (X0z .sc X78))))|exact Xw) ?_
     refine bI fun e1415 h1416=>?_
     try have qh1416:=Xc h1416
     intro h
     refine X3.drawnCut 5 tmD [.el (X1 e1415)] rfl rfl rfl rfl rfl (by repeat' first|apply Ya|exact Xw) ?_
     revert h
     refine bI fun w1427 h1438=>?_
     intro h
     obtain⟨Xk7,Xvv⟩:=w1427
     try dsimp only at h
     refine X0i [] ?_
     refine X3.joinOpF (fun(q:Nb Xk7)=>⟨fr [(0,(slE q.1 5 (Xk7.map X1))),(27,(aI .i64 Xvv))],hp ([]++opE q.1 5 11 (Xk7.map X1)),6⟩) ?_ (fun J=>?_)
     ·
      rintro Xmu
      rcases Xmu with ⟨_|_,Xnw⟩
      ·
       simp only[Option.some.injEq,Prod.mk.injEq] at h
       obtain⟨rfl,rfl⟩:=h
       refine X0i [] ?_
       refine X3.back (by intro id h;cases h) rfl ?_
       exact wkT [(3,5)] ((J nbF))
      obtain rfl:=Xnw rfl
      simp only[Option.some.injEq,Prod.mk.injEq] at h
      obtain⟨rfl,rfl⟩:=h
      refine X0i [] ?_
      refine X3.back (by intro id h;cases h) rfl ?_
      exact wkT [] ((J nbS))
     clear h;revert h1438
     intro h
     refine X3.inline X6 Xz7 rfl rfl rfl rfl rfl trivial trivial rfl rfl ?_
     refine X0i [] ?_
     refine X3.round ?_
     revert h
     refine bI fun v1430 h1431=>brI (fun h1432=>?_) fun h1432=>?_
     ·
      intro h
      simp only[Option.some.injEq,Prod.mk.injEq] at h
      obtain⟨rfl,rfl⟩:=h
      refine X0i [Bt,.ix 0,.ix 0,.ld (X1 e1415),.pure _ (AV.tup [(X0u v1430.1),(aI .i64 v1430.2)]),Bt] ?_
      refine X3.back (by intro id h;cases h) rfl ?_
      exact wkT [(5,3)] ((J nbF))
     refine rnI [Bt,.ix 0,.ix 0,.ld (X1 e1415),.pure _ (AV.tup [(X0u v1430.1),(aI .i64 v1430.2)]),Bf,.ix 0,.ld (X1 e1415)] (o:=by repeat' first|apply Ya|exact pcM|exact(List.getElem?_set_self (by have hq:=X6t h1416;simp;omega)).trans rfl|exact Xw) ?_
     intro h
     refine X3.round ?_
     revert h
     refine bI fun v1435 h1436=>rnI [Bt,.ix 1,.ix 1,.ld (X1 (X2.mk e1415.Key e1415.Span (V2.mk v1430.1 e1415.Values.e1))),.pure _ (AV.tup [(X0u v1435.1),(aI .i64 v1435.2)])] (o:=by repeat' first|apply Ya|exact pcM|exact(List.getElem?_set_self (by have hq:=X6t h1416;simp;omega)).trans rfl|exact Xw) ?_
     refine brI (fun h1437=>?_) fun h1437=>?_
     ·
      intro h
      simp only[Option.some.injEq,Prod.mk.injEq] at h
      obtain⟨rfl,rfl⟩:=h
      refine X0i [Bt] (o:=by repeat' first|apply Ya|exact pcM|exact(List.getElem?_set_self (by have hq:=X6t h1416;simp;omega)).trans rfl|exact Xw) ?_
      refine X3.back (by intro id h;cases h) rfl ?_
      exact wkT [(5,3)] ((J nbF))
     refine rnI [Bf,.ix 1,.ld (X1 (X2.mk e1415.Key e1415.Span (V2.mk v1430.1 e1415.Values.e1)))] (o:=by repeat' first|apply Ya|exact pcM|exact(List.getElem?_set_self (by have hq:=X6t h1416;simp;omega)).trans rfl|exact Xw) ?_
     intro h
     refine X3.round ?_
     simp only[Option.some.injEq,Prod.mk.injEq] at h
     obtain⟨rfl,rfl⟩:=h
     refine X0i [Bf] (o:=by repeat' first|apply Ya|exact pcM|exact(List.getElem?_set_self (by have hq:=X6t h1416;simp;omega)).trans rfl|exact Xw) ?_
     refine X3.back (by intro id h;cases h) rfl ?_
     exact wkT [(5,3)] ((J nbF))
    refine bI fun e1440 h1441=>?_
    try have qh1441:=Xc h1441
    refine bI fun w1452 h1463=>?_
    intro h
    obtain⟨Xvt,Xvu⟩:=w1452
    try dsimp only at h
    refine X0i [Bf,.el (X1 e1440),.ld (X1 e1440)] ?_
    refine X3.joinOp (s':=⟨fr [(0,(AV.ref 3 0 (X02.length))),(3,(AV.ptr 4 0 0)),(6,(aI .i64 Xcb)),(23,(aI .i64 Xvu))],hp ([(3,Ob (X02.map X1) 11),(4,Ob [(X1 Xvt)] 11)]),5⟩) ?_ (fun J=>?_)
    ·
     revert h
     refine brI (fun h1464=>fun e=>Xa [Bt] (k:=wkT [] (C0 _ _  nbS (oj e).symm))) fun h1464=>bI fun m1465 h1466=>rnI [Bf,.el (X1 e1440),.ld (X1 e1440),.el (X1 e1440),.ld (X1 e1440),.wrap] ?_
     intro h
     refine X3.hcall rfl rfl rfl rfl rfl trivial trivial (Xwp ⟨_,_,X03u⟩ (f:=X1) (l:=X02) h1466 rfl rfl (by first|rfl|simp)) ?_
     exact Xa [] (k:=wkT [(3,28)] (ih  _ _ nbF o h C0))
    clear h;revert h1463
    intro h
    refine X3.inline X6 Xz7 rfl rfl rfl rfl rfl trivial trivial rfl rfl ?_
    refine X0i [] ?_
    refine X3.round ?_
    revert h
    refine bI fun v1455 h1456=>brI (fun h1457=>?_) fun h1457=>?_
    ·
     intro h
     simp only[Option.some.injEq,Prod.mk.injEq] at h
     obtain⟨rfl,rfl⟩:=h
     refine X0i [Bt,.ix 0,.ix 0,.pure _ (AV.tup [(X0u v1455.1),(aI .i64 v1455.2)]),Bt] ?_
     refine X3.back (by intro id h;cases h) rfl ?_
     exact wkT [] (J)
    refine rnI [Bt,.ix 0,.ix 0,.pure _ (AV.tup [(X0u v1455.1),(aI .i64 v1455.2)]),Bf,.ix 0] ?_
    intro h
    refine X3.round ?_
    revert h
    refine bI fun v1460 h1461=>brI (fun h1462=>?_) fun h1462=>?_
    ·
     intro h
     simp only[Option.some.injEq,Prod.mk.injEq] at h
     obtain⟨rfl,rfl⟩:=h
     refine X0i [Bt,.ix 1,.ix 1,.pure _ (AV.tup [(X0u v1460.1),(aI .i64 v1460.2)]),Bt] ?_
     refine X3.back (by intro id h;cases h) rfl ?_
     exact wkT [] (J)
    refine rnI [Bt,.ix 1,.ix 1,.pure _ (AV.tup [(X0u v1460.1),(aI .i64 v1460.2)]),Bf,.ix 1] ?_
    intro h
    refine X3.round ?_
    simp only[Option.some.injEq,Prod.mk.injEq] at h
    obtain⟨rfl,rfl⟩:=h
    refine X0i [Bf] ?_
    refine X3.back (by intro id h;cases h) rfl ?_
    exact wkT [] (J)
   clear h;revert h1344
   intro h
   refine X3.inline X6 X01c rfl rfl rfl rfl rfl trivial trivial rfl rfl ?_
   revert h
   refine bI fun u1330 h1331=>?_
   have qh1331:=X1c h1331
   refine bI fun o1342 h1343=>rnI [.el (aI .i64 (X02.length:Int))] ?_
   intro h
   refine wkT [] (X3.cut (X1f X02 X0k nbF qh1331 X02 0 (by simp) _ h1343 ?_ ?_))
   ·
    intro eo1342;subst eo1342
    refine X3.glue ?_
    try dsimp only at h
    obtain rfl:=oj h
    refine X0i [] ?_
    refine X3.back (by intro id h;cases h) rfl ?_
    exact wkT [] (J)
   intro X9c eo1342;subst eo1342
   refine X3.glue ?_
   try dsimp only at h
   obtain rfl:=oj h
   refine X0i [] ?_
   refine X3.back (by intro id h;cases h) rfl ?_
   exact wkT [] (J)
  obtain rfl:=X1d rfl
  refine X3.round ?_
  revert h
  refine bI fun Xvs h1502=>rnI [] ?_
  intro h
  refine X3.joinOp (s':=⟨fr [(0,AV.nils),(3,(AV.ptr 4 0 0)),(10,(aI .i64 Xvs))],hp ([(4,Ob [(X1 X0k)] 11)]),5⟩) ?_ (fun J=>?_)
  ·
   revert h
   refine brI (fun h1503=>?_) fun h1503=>?_
   ·
    refine bI fun w1524 h1545=>?_
    intro h
    obtain⟨Xk6,Xq1⟩:=w1524
    try dsimp only at h
    refine X0i [Bt] ?_
    refine X3.joinOpF (fun(q:Nb Xk6)=>⟨fr [(15,(AV.tup [(slE q.1 3 (Xk6.map X1)),(aI .i64 Xq1)]))],hp ([]++opE q.1 3 11 (Xk6.map X1)),4⟩) ?_ (fun J=>?_)
    ·
     rintro Xmt
     rcases Xmt with ⟨_|_,Xnv⟩
     ·
      revert h
      exact fun e=>Xa [] (k:=wkT [] (C0 _ _  nbF (oj e).symm))
     obtain rfl:=Xnv rfl
     revert h
     exact fun e=>Xa [] (k:=wkT [] (C0 _ _  nbS (oj e).symm))
    clear h;revert h1545
    intro h
    refine X3.inline X6 fn84 rfl rfl rfl rfl rfl trivial trivial rfl rfl ?_
    revert h
    refine bI fun v1525 h1526=>brI (fun h1527=>?_) fun h1527=>?_
    ·
     refine brI (fun h1528=>?_) fun h1528=>?_
     ·
      refine bI fun _ h1540=>rnI [.pure [(Lf (List.map X1 ([]:List X2))),(X1 X0k),(AV.fn 116 [])] (AV.tup [(aI .i64 v1525.1),(aB v1525.2)]),Bt] (o:=by repeat' first|apply Ya|exact pcM|exact(pn (Xm _ _ _ h1526) (cc (Zn X1) (cc (X7i (x:=X0k)) (cc .fn0 cn))))|exact Xw) ?_
      intro h
      refine X3.joinOp (s':=⟨fr [(21,(AV.ref 5 0 (List.length (([]:List X2)++[X0k]))))],hp ([(5,Ob (List.map X1 (([]:List X2)++[X0k])) 11)]),6⟩) ?_ (fun J=>?_)
      ·
       simp only[Option.some.injEq,Prod.mk.injEq] at h
       obtain⟨rfl,rfl⟩:=h
       refine X0i [] ?_
       refine X3.back (by intro id h;cases h) rfl ?_
       exact wkT [(3,5)] ((J nbF))
      clear h;revert h1540
      intro h
      refine X3.inline X6 Xqb rfl rfl rfl rfl rfl trivial trivial rfl rfl ?_
      revert h
      refine bI fun m1535 h1536=>?_
      obtain⟨qah1536,qbh1536,qch1536,qh1536⟩:=X3s h1536
      obtain rfl:=X8c h1536
      refine brI (fun h1537=>?_) fun h1537=>?_
      ·
       refine bI fun u1538 h1539=>rnI [Bf,.el (aI .i64 (List.length ([]:List X2):Int)),Bt,.no] (o:=by repeat' first|apply Ya|exact pcM|(simp at qah1536 qbh1536 qch1536 ⊢;omega)|(refine Xv h1539 rfl ?_;first|(simp;done)|(simp;omega)|(simp[h1503,h1527,h1528,h1537];done)|(simp[h1503,h1527,h1528,h1537];omega))|(refine Xf h1539 (by decide) ?_;first|(simp;done)|(simp;omega)|(simp[h1503,h1527,h1528,h1537];done)|(simp[h1503,h1527,h1528,h1537];omega))|exact Xw) ?_
       intro h
       refine X3.back (by intro id h;cases h) rfl ?_
       exact wkT [(5,7)] (J)
      intro h
      exact absurd h1537 (by simp)
     refine bI fun m1541 h1542=>?_
     intro h
     exact absurd h1542 (by simp[Xq3])
    refine rnI [.pure [(Lf (List.map X1 ([]:List X2))),(X1 X0k),(AV.fn 116 [])] (AV.tup [(aI .i64 v1525.1),(aB v1525.2)]),Bf,.stop 4] (o:=by repeat' first|apply Ya|exact pcM|exact(pn (Xm _ _ _ h1526) (cc (Zn X1) (cc (X7i (x:=X0k)) (cc .fn0 cn))))|exact Xw) ?_
    refine bI fun e1543 h1544=>?_
    try have qh1544:=Xc h1544
    intro h
    exact absurd (h1544) (by simp[X3c])
   refine bI fun e1546 h1547=>?_
   try have qh1547:=Xc h1547
   intro h
   exact absurd (h1547) (by simp[X3c])
  clear h;revert h1502
  intro h
  refine X3.inline X6 X01c rfl rfl rfl rfl rfl trivial trivial rfl rfl ?_
  revert h
  refine bI fun u1490 h1491=>?_
  have qh1491:=X1c h1491
  refine bI fun o1500 h1501=>rnI [.el (aI .i64 (List.length ([]:List X2):Int))] ?_
  intro h
  refine wkT [] (X3.cut (X1f ([]:List X2) X0k nbS qh1491 ([]:List X2) 0 (by simp) _ h1501 ?_ ?_))
  ·
   intro eo1500;subst eo1500
   refine X3.glue ?_
   try dsimp only at h
   obtain rfl:=oj h
   refine X0i [] ?_
   refine X3.back (by intro id h;cases h) rfl ?_
   exact wkT [] (J)
  intro X9c eo1500;subst eo1500
  refine X3.glue ?_
  try dsimp only at h
  obtain rfl:=oj h
  refine X0i [] ?_
  refine X3.back (by intro id h;cases h) rfl ?_
  exact wkT [] (J)
end Go.Av.Tryz