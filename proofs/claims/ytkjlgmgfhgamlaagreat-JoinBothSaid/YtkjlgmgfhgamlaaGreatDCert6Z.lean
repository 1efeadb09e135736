/- Printed by decomp.py: that the program computes the functions. -/
import Derived.Test.YtkjlgmgfhgamlaaGreatDCert5Z
set_option linter.all false

namespace Go.Av.Tryz
open Go.Proofs Go.D
set_option maxRecDepth 10000
set_option maxHeartbeats 40000000
instance Xx5:PCs Tryz.prog 124 (∀ (a0:Int) (a1:Int) (a2:Int) (r:(List X00)×Int),Xbr a0 a1 a2=some r->X0g Tryz.prog 124 [(aI .i64 a0),(aI .i64 a1),(aI .i64 a2)] (AV.tup [(AV.list true (r.1.map Xx)),(aI .i64 r.2)])):=⟨fun a0 a1 a2 r h=>by
 refine X0g.sym X6 X03y (nt:=70) rfl rfl ?_ okM
 unfold Xbr at h
 revert h
 refine brI (fun h1=>fun e=>oj e▸X8 [.wrap,Bt] (k:=fi)) fun h1=>bI fun v2 h3=>brI (fun h4=>fun e=>oj e▸X8 [.wrap,Bf,.pure _ (AV.tup [(Xx v2.1),(aI .i64 v2.2)]),Bt] (k:=fi)) fun h4=>bI fun o24 h25=>rnI [.wrap,Bf,.pure _ (AV.tup [(Xx v2.1),(aI .i64 v2.2)]),Bf] ?_
 intro h
 refine wkT [] (X3.cut (Xh4 a0 a1 a2 _ _ _ nbS _ h25 ?_))
 intro X06 X0o eo24;subst eo24
 refine X3.glue ?_
 try dsimp only at h
 rcases X0o with ⟨_|_,X48⟩
 ·
  refine X0c [] ?_
  refine X3.inline X6 X01f rfl rfl rfl rfl rfl trivial trivial rfl rfl ?_
  refine X0c [] ?_
  refine X3.back (by intro id h;cases h) rfl ?_
  refine X0c [] ?_
  refine X3.keepL [12,62] ?_
  refine X3.rangeFunc rfl trivial X01d rfl rfl rfl ?_
  intro rb rD rr rh1 rh2 rh3 rh4 rh5
  revert h
  refine bI fun o87 h88=>rnI [.el (aI .i64 (X06.length:Int)),.wrap] ?_
  intro h
  refine wkT [(4,0)] (X3.cut (X9p rh1 rh2 rh3 rh4 rh5 X06 nbF _ _ _ nbS _ h88 ?_))
  intro X4a Xbh X39 X6g eo87;subst eo87
  refine X3.glue ?_
  try dsimp only at h
  rcases X39 with ⟨_|_,X7j⟩
  ·
   rcases X6g with ⟨_|_,X7i⟩
   ·
    refine X0c [] ?_
    refine X3.rfEnd (by intro id h;cases h) ?_
    revert h
    exact fun e=>oj e▸X8 [] (k:=fi)
   obtain rfl:=X7i rfl
   refine X0c [] ?_
   refine X3.rfEnd (by intro id h;cases h) ?_
   revert h
   exact fun e=>oj e▸X8 [] (k:=fi)
  obtain rfl:=X7j rfl
  rcases X6g with ⟨_|_,X7i⟩
  ·
   refine X0c [] ?_
   refine X3.rfEnd (by intro id h;cases h) ?_
   revert h
   exact fun e=>oj e▸X8 [] (k:=fi)
  obtain rfl:=X7i rfl
  refine X0c [] ?_
  refine X3.rfEnd (by intro id h;cases h) ?_
  revert h
  exact fun e=>oj e▸X8 [] (k:=fi)
 obtain rfl:=X48 rfl
 refine X0c [] ?_
 refine X3.inline X6 X01f rfl rfl rfl rfl rfl trivial trivial rfl rfl ?_
 refine X0c [] ?_
 refine X3.back (by intro id h;cases h) rfl ?_
 refine X0c [] ?_
 refine X3.keepL [12,62] ?_
 refine X3.rangeFunc rfl trivial X01d rfl rfl rfl ?_
 intro rb rD rr rh1 rh2 rh3 rh4 rh5
 revert h
 refine bI fun o130 h131=>rnI [.el (aI .i64 (List.length ([]:List X00):Int)),.wrap] ?_
 intro h
 refine wkT [] (X3.cut (X9p rh1 rh2 rh3 rh4 rh5 ([]:List X00) nbS _ _ _ nbS _ h131 ?_))
 intro X4a Xbh X39 X6g eo130;subst eo130
 refine X3.glue ?_
 try dsimp only at h
 rcases X39 with ⟨_|_,X7j⟩
 ·
  rcases X6g with ⟨_|_,X7i⟩
  ·
   refine X0c [] ?_
   refine X3.rfEnd (by intro id h;cases h) ?_
   revert h
   exact fun e=>oj e▸X8 [] (k:=fi)
  obtain rfl:=X7i rfl
  refine X0c [] ?_
  refine X3.rfEnd (by intro id h;cases h) ?_
  revert h
  exact fun e=>oj e▸X8 [] (k:=fi)
 obtain rfl:=X7j rfl
 rcases X6g with ⟨_|_,X7i⟩
 ·
  refine X0c [] ?_
  refine X3.rfEnd (by intro id h;cases h) ?_
  revert h
  exact fun e=>oj e▸X8 [] (k:=fi)
 obtain rfl:=X7i rfl
 refine X0c [] ?_
 refine X3.rfEnd (by intro id h;cases h) ?_
 revert h
 exact fun e=>oj e▸X8 [] (k:=fi)⟩
instance Xd0:PCs Tryz.prog 83 (∀ (a0:X0s) (a1:Int) (r:(List X00)×Int),Xdk a0 a1=some r->X0g Tryz.prog 83 [(X3h a0),(aI .i64 a1)] (AV.tup [(AV.list true (r.1.map Xx)),(aI .i64 r.2)])):=⟨fun a0 a1 r h=>by
 refine X0g.sym X6 fn83 (nt:=40) rfl rfl ?_ okM
 unfold Xdk at h
 revert h
 exact bI fun v1 h2=>brI (fun h3=>fun e=>oj e▸X8 [.pure _ (aI .i64 v1),Bt] (k:=fi)) fun h3=>brI (fun h4=>bI fun v5 h6=>brI (fun h7=>fun e=>oj e▸X8 [.pure _ (aI .i64 v1),Bf,Bt,.pure _ (AV.tup [(Xx v5.1),(aI .i64 v5.2)]),Bt] (k:=fi)) fun h7=>fun e=>oj e▸X8 [.pure _ (aI .i64 v1),Bf,Bt,.pure _ (AV.tup [(Xx v5.1),(aI .i64 v5.2)]),Bf] (k:=fi)) fun h4=>brI (fun h8=>bI fun v9 h10=>fun e=>oj e▸X8 [.pure _ (aI .i64 v1),Bf,Bf,Bt,.pure _ (AV.tup [(AV.list true (v9.1.map Xx)),(aI .i64 v9.2)])] (k:=fi)) fun h8=>fun e=>oj e▸X8 [.pure _ (aI .i64 v1),Bf,Bf,Bf] (k:=fi)⟩
theorem X1a {Q:Xw->St->Mu->Prop} {μ:Mu} (X0d:(List X2)) (X1n:X2) (X16:Nb X0d) (hl:X0d.length<=140737488355328):∀ (xs:List X2) (k:Nat) (hx:X0d.drop k=xs) (o:X01) (h:Xd X0d X1n xs k  = some o)
  (C0:o=X01.x0->X3 Tryz.prog 19 5 Q (.exit (.exit 0)) [] ⟨fr [],hp ([(4,Ob [(X1 X1n)] 11)]++opE X16.1 3 11 (X0d.map X1)),5⟩ μ)
  (C1:∀ (X9l:Int),o=X01.x1 X9l->X3 Tryz.prog 19 5 Q (.exit .ret) [] ⟨fr [(4,(aI .i64 X9l))],hp ([(4,Ob [(X1 X1n)] 11)]++opE X16.1 3 11 (X0d.map X1)),5⟩ μ),
  X3 Tryz.prog 19 5 Q (.loop (X56 0 (Xb Tryz.f119))) [] ⟨fr [(0,(slE X16.1 3 (X0d.map X1))),(1,(AV.fn 120 [(AV.ptr 4 0 0)])),(7,(aI .i64 (X0d.length:Int))),(8,(aI .i64 (k:Int)))],hp ([(4,Ob [(X1 X1n)] 11)]++opE X16.1 3 11 (X0d.map X1)),5⟩ μ:=by
 intro xs
 induction xs with
 |nil =>
  intro k hx  o h C0 C1
  have hk:=X1l hx
  have hc:decide ((k:Int)<(X0d.length:Int))=false:=Yf (by omega)
  rw[Xd] at h
  rcases X16 with ⟨_|_,X4i⟩
  ·
   refine X3.round ?_
   revert h
   exact fun e=>X8 [Bf] (k:=wkT [] (C0  (oj e).symm))
  ·
   obtain rfl:=X4i rfl
   refine X3.round ?_
   revert h
   exact fun e=>X8 [Bf] (k:=wkT [] (C0  (oj e).symm))
 |cons x xs ih =>
  intro k hx  o h C0 C1
  obtain⟨hk,hg,hx1⟩:=X10 hx
  have hc:decide ((k:Int)<(X0d.length:Int))=true:=Yt (by omega)
  rw[Xd] at h
  rcases X16 with ⟨_|_,X4i⟩
  ·
   refine X3.round ?_
   refine X0c [Bt,.el (X1 x),.ld (X1 x)] ?_
   refine X3.inline X6 X041 rfl rfl rfl rfl rfl trivial trivial rfl rfl ?_
   refine X0c [] ?_
   refine X3.back (by intro id h;cases h) rfl ?_
   revert h
   refine brI (fun h1341=>fun e=>X8 [Bt] (k:=wkT [] (C1 _  (oj e).symm))) fun h1341=>rnI [Bf] ?_
   intro h
   exact wkT [] (ih (k+1) hx1  o h C0 C1)
  obtain rfl:=X4i rfl
  refine X3.round ?_
  exact absurd hk (by simp)
theorem X5l {Q:Xw->St->Mu->Prop} {μ:Mu}:∀ (n:Nat) (X0d:(List X2)) (X1n:X2) (X16:Nb X0d) (o:X3y) (h:X1o  n X0d X1n=some o)
  (C0:∀ (X4a:(List X2)) (Xgt:Int) (X39:Nb X4a),o=X3y.x0 X4a Xgt->X3 Tryz.prog 54 3 Q (.exit .ret) [] ⟨fr [(4,(slE X39.1 3 (X4a.map X1))),(5,(aI .i64 Xgt))],hp ([]++opE X39.1 3 11 (X4a.map X1)),4⟩ μ),
  X3 Tryz.prog 54 3 Q (.loop (X56 0 (Xb Tryz.f82))) [] ⟨fr [(0,(slE X16.1 3 (X0d.map X1))),(3,(AV.ptr 4 0 0))],hp ([(4,Ob [(X1 X1n)] 11)]++opE X16.1 3 11 (X0d.map X1)),5⟩ μ:=by
 intro n
 induction n with
 |zero=>intro X0d X1n X16 o h C0;cases h
 |succ n ih =>
  intro X0d X1n X16 o h C0
  rw[X1o] at h
  rcases X16 with ⟨_|_,X4i⟩
  ·
   refine X3.round ?_
   revert h
   refine bI fun Xch h1344=>rnI [] ?_
   intro h
   refine X3.joinOp (s':=⟨fr [(0,(AV.ref 3 0 (X0d.length))),(3,(AV.ptr 4 0 0)),(10,(aI .i64 Xch))],hp ([(3,Ob (X0d.map X1) 11),(4,Ob [(X1 X1n)] 11)]),5⟩) ?_ (fun J=>?_)
   ·
    revert h
    refine brI (fun h1345=>?_) fun h1345=>?_
    ·
     refine bI fun w1392 h1439=>?_
     intro h
     obtain⟨Xke,Xqd⟩:=w1392
     try dsimp only at h
     refine X0c [Bt] ?_
     refine X3.joinOpF (fun(q:Nb Xke)=>⟨fr [(15,(AV.tup [(slE q.1 3 (Xke.map X1)),(aI .i64 Xqd)]))],hp ([]++opE q.1 3 11 (Xke.map X1)),4⟩) ?_ (fun J=>?_)
     ·
      rintro Xn5
      rcases Xn5 with ⟨_|_,Xo8⟩
      ·
       revert h
       exact fun e=>X8 [] (k:=wkT [] (C0 _ _  nbF (oj e).symm))
      obtain rfl:=Xo8 rfl
      revert h
      exact fun e=>X8 [] (k:=wkT [] (C0 _ _  nbS (oj e).symm))
     clear h;revert h1439
     intro h
     refine X3.inline X6 fn84 rfl rfl rfl rfl rfl trivial trivial rfl rfl ?_
     revert h
     refine bI fun v1393 h1394=>brI (fun h1395=>?_) fun h1395=>?_
     ·
      refine brI (fun h1396=>?_) fun h1396=>?_
      ·
       refine bI fun _ h1412=>rnI [.pure [(Lf (X0d.map X1)),(X1 X1n),(AV.fn 116 [])] (AV.tup [(aI .i64 v1393.1),(aB v1393.2)]),Bt] (o:=by repeat' first|apply Ya|exact pcM|exact(X5k.lent (Xf _ _ _ h1394) (cc (Xm4 (es:=X0d.map X1) rfl (by first|rfl|(simp;done)|(simp;rfl)|(simp[h1345];done)|(simp[h1345];rfl)|(simp[h1345,Ym,Yd];done)|(simp[h1345,Ym,Yd];rfl)) (by first|rfl|(simp;done)|(simp;omega)|(simp[h1345];done)|(simp[h1345];omega)) (X2m X59 X0d)) (cc (X7l (x:=X1n)) (cc .fn0 cn))) (Xlk (X0x .sc (X0x .sc X77))))|exact X07) ?_
       intro h
       refine X3.joinOp (s':=⟨fr [(21,(AV.ref 5 0 (List.length (X0d++[X1n]))))],hp ([(5,Ob (List.map X1 (X0d++[X1n])) 11)]),6⟩) ?_ (fun J=>?_)
       ·
        simp only[Option.some.injEq,Prod.mk.injEq] at h
        obtain⟨rfl,rfl⟩:=h
        refine X0c [] ?_
        refine X3.back (by intro id h;cases h) rfl ?_
        exact wkT [(3,5)] ((J nbF))
       clear h;revert h1412
       intro h
       refine X3.inline X6 Xql rfl rfl rfl rfl rfl trivial trivial rfl rfl ?_
       revert h
       refine bI fun m1405 h1406=>?_
       obtain⟨qah1406,qbh1406,qch1406,qh1406⟩:=X3r h1406
       have qlh1406:=X8l h1406
       refine brI (fun h1407=>?_) fun h1407=>?_
       ·
        refine bI fun u1408 h1409=>rnI [.ne false,Bf,.el (aI .i64 (X0d.length:Int)),Bt,.no] (o:=by repeat' first|apply Ya|exact pcM|(simp at qah1406 qbh1406 qch1406 ⊢;omega)|(simp at qah1406 qbh1406 qch1406 qlh1406 ⊢;have qz:=X34 h1407;omega)|(refine X1t h1409 rfl ?_;first|(simp;done)|(simp;omega)|(simp[h1345,h1395,h1396,h1407];done)|(simp[h1345,h1395,h1396,h1407];omega))|(refine X0f h1409 (by decide) ?_;first|(simp;done)|(simp;omega)|(simp[h1345,h1395,h1396,h1407];done)|(simp[h1345,h1395,h1396,h1407];omega))|exact X07) ?_
        intro h
        refine X3.back (by intro id h;cases h) rfl ?_
        exact wkT [(5,7)] (J)
       refine bI fun u1410 h1411=>rnI [.via (.ref 3 (Int.toNat v1393.1) (m1405.length)),Bf,.el (aI .i64 (X0d.length:Int)),Bt,.no] (o:=by repeat' first|apply Ya|exact pcM|(simp at qah1406 qbh1406 qch1406 ⊢;omega)|(simp at qah1406 qbh1406 qch1406 qlh1406 ⊢;have qz:=X0y h1407;omega)|(simp at qah1406 qbh1406 qch1406 qlh1406 ⊢;omega)|(simp;done)|(refine X1t h1411 rfl ?_;first|(simp;done)|(simp;omega)|(simp[h1345,h1395,h1396,h1407];done)|(simp[h1345,h1395,h1396,h1407];omega))|(refine X0f h1411 (by decide) ?_;first|(simp;done)|(simp;omega)|(simp[h1345,h1395,h1396,h1407];done)|(simp[h1345,h1395,h1396,h1407];omega))|exact X07) ?_
       intro h
       refine X3.back (by intro id h;cases h) rfl ?_
       exact wkT [(5,7)] (J)
      refine bI fun m1413 h1414=>rnI [.pure [(Lf (X0d.map X1)),(X1 X1n),(AV.fn 116 [])] (AV.tup [(aI .i64 v1393.1),(aB v1393.2)]),Bt] (o:=by repeat' first|apply Ya|exact pcM|exact(X5k.lent (Xf _ _ _ h1394) (cc (Xm4 (es:=X0d.map X1) rfl (by first|rfl|(simp;done)|(simp;rfl)|(simp[h1345];done)|(simp[h1345];rfl)|(simp[h1345,Ym,Yd];done)|(simp[h1345,Ym,Yd];rfl)) (by first|rfl|(simp;done)|(simp;omega)|(simp[h1345];done)|(simp[h1345];omega)) (X2m X59 X0d)) (cc (X7l (x:=X1n)) (cc .fn0 cn))) (Xlk (X0x .sc (X0x .sc X77))))|exact X07) ?_
      intro h
      refine X3.hcall rfl rfl rfl rfl rfl trivial trivial (Xp9 ⟨_,_,Xql⟩ (f:=X1) (l:=X0d) (x:=X1n) h1414 rfl rfl rfl (by first|rfl|simp)) ?_
      simp only[Option.some.injEq,Prod.mk.injEq] at h
      obtain⟨rfl,rfl⟩:=h
      refine X0c [] ?_
      refine X3.back (by intro id h;cases h) rfl ?_
      exact wkT [(3,7)] ((J nbF))
     refine rnI [.pure [(Lf (X0d.map X1)),(X1 X1n),(AV.fn 116 [])] (AV.tup [(aI .i64 v1393.1),(aB v1393.2)]),Bf,.stop 4] (o:=by repeat' first|apply Ya|exact pcM|exact(X5k.lent (Xf _ _ _ h1394) (cc (Xm4 (es:=X0d.map X1) rfl (by first|rfl|(simp;done)|(simp;rfl)|(simp[h1345];done)|(simp[h1345];rfl)|(simp[h1345,Ym,Yd];done)|(simp[h1345,Ym,Yd];rfl)) (by first|rfl|(simp;done)|(simp;omega)|(simp[h1345];done)|(simp[h1345];omega)) (X2m X59 X0d)) (cc (X7l (x:=X1n)) (cc .fn0 cn))) (Xlk (X0x .sc (X0x .sc X77))))|exact X07) ?_
     refine bI fun e1415 h1416=>?_
     try have qh1416:=Xq h1416
     intro h
     refine X3.drawnCut 5 tmD [.el (X1 e1415)] rfl rfl rfl rfl rfl (by repeat' first|apply Ya|exact X07) ?_
     revert h
     refine bI fun w1427 h1438=>?_
     intro h
     obtain⟨Xkd,Xwc⟩:=w1427
     try dsimp only at h
     refine X0c [] ?_
     refine X3.joinOpF (fun(q:Nb Xkd)=>⟨fr [(0,(slE q.1 5 (Xkd.map X1))),(27,(aI .i64 Xwc))],hp ([]++opE q.1 5 11 (Xkd.map X1)),6⟩) ?_ (fun J=>?_)
     ·
      rintro Xn4
      rcases Xn4 with ⟨_|_,Xo7⟩
      ·
       simp only[Option.some.injEq,Prod.mk.injEq] at h
       obtain⟨rfl,rfl⟩:=h
       refine X0c [] ?_
       refine X3.back (by intro id h;cases h) rfl ?_
       exact wkT [(3,5)] ((J nbF))
      obtain rfl:=Xo7 rfl
      simp only[Option.some.injEq,Prod.mk.injEq] at h
      obtain⟨rfl,rfl⟩:=h
      refine X0c [] ?_
      refine X3.back (by intro id h;cases h) rfl ?_
      exact wkT [] ((J nbS))
     clear h;revert h1438
     intro h
     refine X3.inline X6 Xze rfl rfl rfl rfl rfl trivial trivial rfl rfl ?_
     refine X0c [] ?_
     refine X3.round ?_
     revert h
     refine bI fun v1430 h1431=>brI (fun h1432=>?_) fun h1432=>?_
     ·
      intro h
      simp only[Option.some.injEq,Prod.mk.injEq] at h
      obtain⟨rfl,rfl⟩:=h
      refine X0c [Bt,.ix 0,.ix 0,.ld (X1 e1415),.pure _ (AV.tup [(X0p v1430.1),(aI .i64 v1430.2)]),Bt] ?_
      refine X3.back (by intro id h;cases h) rfl ?_
      exact wkT [(5,3)] ((J nbF))
     refine rnI [Bt,.ix 0,.ix 0,.ld (X1 e1415),.pure _ (AV.tup [(X0p v1430.1),(aI .i64 v1430.2)]),Bf,.ix 0,.ld (X1 e1415)] (o:=by repeat' first|apply Ya|exact pcM|exact(List.getElem?_set_self (by have hq:=X6u h1416;simp;omega)).trans rfl|exact X07) ?_
     intro h
     refine X3.round ?_
     revert h
     refine bI fun v1435 h1436=>rnI [Bt,.ix 1,.ix 1,.ld (X1 (X2.mk e1415.Key e1415.Span (V2.mk v1430.1 e1415.Values.e1))),.pure _ (AV.tup [(X0p v1435.1),(aI .i64 v1435.2)])] (o:=by repeat' first|apply Ya|exact pcM|exact(List.getElem?_set_self (by have hq:=X6u h1416;simp;omega)).trans rfl|exact X07) ?_
     refine brI (fun h1437=>?_) fun h1437=>?_
     ·
      intro h
      simp only[Option.some.injEq,Prod.mk.injEq] at h
      obtain⟨rfl,rfl⟩:=h
      refine X0c [Bt] (o:=by repeat' first|apply Ya|exact pcM|exact(List.getElem?_set_self (by have hq:=X6u h1416;simp;omega)).trans rfl|exact X07) ?_
      refine X3.back (by intro id h;cases h) rfl ?_
      exact wkT [(5,3)] ((J nbF))
     refine rnI [Bf,.ix 1,.ld (X1 (X2.mk e1415.Key e1415.Span (V2.mk v1430.1 e1415.Values.e1)))] (o:=by repeat' first|apply Ya|exact pcM|exact(List.getElem?_set_self (by have hq:=X6u h1416;simp;omega)).trans rfl|exact X07) ?_
     intro h
     refine X3.round ?_
     simp only[Option.some.injEq,Prod.mk.injEq] at h
     obtain⟨rfl,rfl⟩:=h
     refine X0c [Bf] (o:=by repeat' first|apply Ya|exact pcM|exact(List.getElem?_set_self (by have hq:=X6u h1416;simp;omega)).trans rfl|exact X07) ?_
     refine X3.back (by intro id h;cases h) rfl ?_
     exact wkT [(5,3)] ((J nbF))
    refine bI fun e1440 h1441=>?_
    try have qh1441:=Xq h1441
    refine bI fun w1452 h1463=>?_
    intro h
    obtain⟨Xwa,Xwb⟩:=w1452
    try dsimp only at h
    refine X0c [Bf,.el (X1 e1440),.ld (X1 e1440)] ?_
    refine X3.joinOp (s':=⟨fr [(0,(AV.ref 3 0 (X0d.length))),(3,(AV.ptr 4 0 0)),(6,(aI .i64 Xch)),(23,(aI .i64 Xwb))],hp ([(3,Ob (X0d.map X1) 11),(4,Ob [(X1 Xwa)] 11)]),5⟩) ?_ (fun J=>?_)
    ·
     revert h
     refine brI (fun h1464=>fun e=>X8 [Bt] (k:=wkT [] (C0 _ _  nbS (oj e).symm))) fun h1464=>bI fun m1465 h1466=>rnI [Bf,.el (X1 e1440),.ld (X1 e1440),.el (X1 e1440),.ld (X1 e1440),.wrap] ?_
     intro h
     refine X3.hcall rfl rfl rfl rfl rfl trivial trivial (Xwr ⟨_,_,X040⟩ (f:=X1) (l:=X0d) h1466 rfl rfl (by first|rfl|simp)) ?_
     exact X8 [] (k:=wkT [(3,28)] (ih  _ _ nbF o h C0))
    clear h;revert h1463
    intro h
    refine X3.inline X6 Xze rfl rfl rfl rfl rfl trivial trivial rfl rfl ?_
    refine X0c [] ?_
    refine X3.round ?_
    revert h
    refine bI fun v1455 h1456=>brI (fun h1457=>?_) fun h1457=>?_
    ·
     intro h
     simp only[Option.some.injEq,Prod.mk.injEq] at h
     obtain⟨rfl,rfl⟩:=h
     refine X0c [Bt,.ix 0,.ix 0,.pure _ (AV.tup [(X0p v1455.1),(aI .i64 v1455.2)]),Bt] ?_
     refine X3.back (by intro id h;cases h) rfl ?_
     exact wkT [] (J)
    refine rnI [Bt,.ix 0,.ix 0,.pure _ (AV.tup [(X0p v1455.1),(aI .i64 v1455.2)]),Bf,.ix 0] ?_
    intro h
    refine X3.round ?_
    revert h
    refine bI fun v1460 h1461=>brI (fun h1462=>?_) fun h1462=>?_
    ·
     intro h
     simp only[Option.some.injEq,Prod.mk.injEq] at h
     obtain⟨rfl,rfl⟩:=h
     refine X0c [Bt,.ix 1,.ix 1,.pure _ (AV.tup [(X0p v1460.1),(aI .i64 v1460.2)]),Bt] ?_
     refine X3.back (by intro id h;cases h) rfl ?_
     exact wkT [] (J)
    refine rnI [Bt,.ix 1,.ix 1,.pure _ (AV.tup [(X0p v1460.1),(aI .i64 v1460.2)]),Bf,.ix 1] ?_
    intro h
    refine X3.round ?_
    simp only[Option.some.injEq,Prod.mk.injEq] at h
    obtain⟨rfl,rfl⟩:=h
    refine X0c [Bf] ?_
    refine X3.back (by intro id h;cases h) rfl ?_
    exact wkT [] (J)
   clear h;revert h1344
   intro h
   refine X3.inline X6 X01j rfl rfl rfl rfl rfl trivial trivial rfl rfl ?_
   revert h
   refine bI fun u1330 h1331=>?_
   have qh1331:=X12 h1331
   refine bI fun o1342 h1343=>rnI [.el (aI .i64 (X0d.length:Int))] ?_
   intro h
   refine wkT [] (X3.cut (X1a X0d X1n nbF qh1331 X0d 0 (by simp) _ h1343 ?_ ?_))
   ·
    intro eo1342;subst eo1342
    refine X3.glue ?_
    try dsimp only at h
    obtain rfl:=oj h
    refine X0c [] ?_
    refine X3.back (by intro id h;cases h) rfl ?_
    exact wkT [] (J)
   intro X9l eo1342;subst eo1342
   refine X3.glue ?_
   try dsimp only at h
   obtain rfl:=oj h
   refine X0c [] ?_
   refine X3.back (by intro id h;cases h) rfl ?_
   exact wkT [] (J)
  obtain rfl:=X4i rfl
  refine X3.round ?_
  revert h
  refine bI fun Xw9 h1502=>rnI [] ?_
  intro h
  refine X3.joinOp (s':=⟨fr [(0,AV.nils),(3,(AV.ptr 4 0 0)),(10,(aI .i64 Xw9))],hp ([(4,Ob [(X1 X1n)] 11)]),5⟩) ?_ (fun J=>?_)
  ·
   revert h
   refine brI (fun h1503=>?_) fun h1503=>?_
   ·
    refine bI fun w1524 h1545=>?_
    intro h
    obtain⟨Xkc,Xqc⟩:=w1524
    try dsimp only at h
    refine X0c [Bt] ?_
    refine X3.joinOpF (fun(q:Nb Xkc)=>⟨fr [(15,(AV.tup [(slE q.1 3 (Xkc.map X1)),(aI .i64 Xqc)]))],hp ([]++opE q.1 3 11 (Xkc.map X1)),4⟩) ?_ (fun J=>?_)
    ·
     rintro Xn3
     rcases Xn3 with ⟨_|_,Xo6⟩
     ·
      revert h
      exact fun e=>X8 [] (k:=wkT [] (C0 _ _  nbF (oj e).symm))
     obtain rfl:=Xo6 rfl
     revert h
     exact fun e=>X8 [] (k:=wkT [] (C0 _ _  nbS (oj e).symm))
    clear h;revert h1545
    intro h
    refine X3.inline X6 fn84 rfl rfl rfl rfl rfl trivial trivial rfl rfl ?_
    revert h
    refine bI fun v1525 h1526=>brI (fun h1527=>?_) fun h1527=>?_
    ·
     refine brI (fun h1528=>?_) fun h1528=>?_
     ·
      refine bI fun _ h1540=>rnI [.pure [(Lf (List.map X1 ([]:List X2))),(X1 X1n),(AV.fn 116 [])] (AV.tup [(aI .i64 v1525.1),(aB v1525.2)]),Bt] (o:=by repeat' first|apply Ya|exact pcM|exact(pn (Xf _ _ _ h1526) (cc (Zn X1) (cc (X7l (x:=X1n)) (cc .fn0 cn))))|exact X07) ?_
      intro h
      refine X3.joinOp (s':=⟨fr [(21,(AV.ref 5 0 (List.length (([]:List X2)++[X1n]))))],hp ([(5,Ob (List.map X1 (([]:List X2)++[X1n])) 11)]),6⟩) ?_ (fun J=>?_)
      ·
       simp only[Option.some.injEq,Prod.mk.injEq] at h
       obtain⟨rfl,rfl⟩:=h
       refine X0c [] ?_
       refine X3.back (by intro id h;cases h) rfl ?_
       exact wkT [(3,5)] ((J nbF))
      clear h;revert h1540
      intro h
      refine X3.inline X6 Xql rfl rfl rfl rfl rfl trivial trivial rfl rfl ?_
      revert h
      refine bI fun m1535 h1536=>?_
      obtain⟨qah1536,qbh1536,qch1536,qh1536⟩:=X3r h1536
      obtain rfl:=X8k h1536
      refine brI (fun h1537=>?_) fun h1537=>?_
      ·
       refine bI fun u1538 h1539=>rnI [Bf,.el (aI .i64 (List.length ([]:List X2):Int)),Bt,.no] (o:=by repeat' first|apply Ya|exact pcM|(simp at qah1536 qbh1536 qch1536 ⊢;omega)|(refine X1t h1539 rfl ?_;first|(simp;done)|(simp;omega)|(simp[h1503,h1527,h1528,h1537];done)|(simp[h1503,h1527,h1528,h1537];omega))|(refine X0f h1539 (by decide) ?_;first|(simp;done)|(simp;omega)|(simp[h1503,h1527,h1528,h1537];done)|(simp[h1503,h1527,h1528,h1537];omega))|exact X07) ?_
       intro h
       refine X3.back (by intro id h;cases h) rfl ?_
       exact wkT [(5,7)] (J)
      intro h
      exact absurd h1537 (by simp)
     refine bI fun m1541 h1542=>?_
     intro h
     exact absurd h1542 (by simp[Xnz])
    refine rnI [.pure [(Lf (List.map X1 ([]:List X2))),(X1 X1n),(AV.fn 116 [])] (AV.tup [(aI .i64 v1525.1),(aB v1525.2)]),Bf,.stop 4] (o:=by repeat' first|apply Ya|exact pcM|exact(pn (Xf _ _ _ h1526) (cc (Zn X1) (cc (X7l (x:=X1n)) (cc .fn0 cn))))|exact X07) ?_
    refine bI fun e1543 h1544=>?_
    try have qh1544:=Xq h1544
    intro h
    exact absurd (h1544) (by simp[X3b])
   refine bI fun e1546 h1547=>?_
   try have qh1547:=Xq h1547
   intro h
   exact absurd (h1547) (by simp[X3b])
  clear h;revert h1502
  intro h
  refine X3.inline X6 X01j rfl rfl rfl rfl rfl trivial trivial rfl rfl ?_
  revert h
  refine bI fun u1490 h1491=>?_
  have qh1491:=X12 h1491
  refine bI fun o1500 h1501=>rnI [.el (aI .i64 (List.length ([]:List X2):Int))] ?_
  intro h
  refine wkT [] (X3.cut (X1a ([]:List X2) X1n nbS qh1491 ([]:List X2) 0 (by simp) _ h1501 ?_ ?_))
  ·
   intro eo1500;subst eo1500
   refine X3.glue ?_
   try dsimp only at h
   obtain rfl:=oj h
   refine X0c [] ?_
   refine X3.back (by intro id h;cases h) rfl ?_
   exact wkT [] (J)
  intro X9l eo1500;subst eo1500
  refine X3.glue ?_
  try dsimp only at h
  obtain rfl:=oj h
  refine X0c [] ?_
  refine X3.back (by intro id h;cases h) rfl ?_
  exact wkT [] (J)
end Go.Av.Tryz