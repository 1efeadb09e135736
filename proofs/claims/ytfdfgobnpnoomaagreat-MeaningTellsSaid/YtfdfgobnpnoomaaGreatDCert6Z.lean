/- Printed by decomp.py: that the program computes the functions. -/
import Derived.Test.YtfdfgobnpnoomaaGreatDCert5Z
set_option linter.all false

namespace Go.Av.Tryz
open Go.Proofs Go.D
set_option maxRecDepth 10000
set_option maxHeartbeats 40000000
theorem Xbd {Q:X01->St->Mu->Prop}  {rb rD:Nat} {rr:Loop} (rh1:rr.state=.ready) (rh2:rr.pending=none) (rh3:rr.params=(rfB 0 (Xj Tryz.f118)).1) (rh4:rr.assign=(rfB 0 (Xj Tryz.f118)).2.1) (rh5:rr.body=(rfB 0 (Xj Tryz.f118)).2.2) (X15:(List Xr)) (X68:Nb X15):∀ (n:Nat) (X0m:(List Xr)) (X9s:Int) (X3v:Nb X0m) (o:X8i) (h:X3o X15 n X0m X9s=some o)
  (C0:∀ (X0y:(List Xr)) (X1s:(List Xr)) (X1h:Nb X0y) (X24:Nb X1s),o=X8i.x0 X0y X1s->X2 Tryz.prog 19 3 Q (.exit (.exit 0)) [] ⟨fr [],hp ([(1,Ob [(slE X1h.1 3 (X0y.map X3))] 1),(2,Ob [(slE X24.1 4 (X1s.map X3))] 1)]++opE X1h.1 3 2 (X0y.map X3)++opE X24.1 4 2 (X1s.map X3)),5⟩ [(rb,MuE.loop rr 70 3 (fr [(12,(AV.ptr 1 0 0)),(62,(AV.fn 179 [(AV.ptr 2 0 0)]))])),(rD,MuE.blk (Go.Obj.deferred (some [])))]),
  X2 Tryz.prog 19 3 Q (.loop (X30 0 (Xj Tryz.f179))) [] ⟨fr [(0,(AV.sc (.func (.yield rb) #[] #[]))),(1,(AV.ptr 2 0 0)),(3,(aI .i64 X9s))],hp ([(1,Ob [(slE X3v.1 3 (X0m.map X3))] 1),(2,Ob [(slE X68.1 4 (X15.map X3))] 1)]++opE X3v.1 3 2 (X0m.map X3)++opE X68.1 4 2 (X15.map X3)),5⟩ [(rb,MuE.loop rr 70 3 (fr [(12,(AV.ptr 1 0 0)),(62,(AV.fn 179 [(AV.ptr 2 0 0)]))])),(rD,MuE.blk (Go.Obj.deferred (some [])))]:=by
 intro n
 induction n with
 |zero=>intro X0m X9s X3v o h C0;cases h
 |succ n ih =>
  intro X0m X9s X3v o h C0
  rw[X3o] at h
  rcases X3v with ⟨_|_,Xdk⟩
  ·
   rcases X68 with ⟨_|_,X7x⟩
   ·
    refine X2.round ?_
    revert h
    refine brI (fun h67=>?_) fun h67=>fun e=>X7 [Bf] (k:=wkT [] (C0 _ _  nbF nbF (oj e).symm))
    refine bI fun e68 h69=>?_
    try have qh69:=Xv h69
    refine rnI [Bt,.el (X3 e68),.ld (X3 e68)] ?_
    intro h
    refine X2.yield rfl rfl rfl rfl rfl trivial trivial (.head _) rh1 rh2 rh3 rh4 rh5 rfl rfl ?_
    refine X10 [] ?_
    refine X2.asg ?_
    revert h
    refine bI fun u72 h73=>rnI [.no] (o:=by repeat' first|apply Ya|exact pcM|(refine X0g h73 rfl ?_;first|(simp;done)|(simp;omega)|(simp[h67];done)|(simp[h67];omega))|(refine Xz h73 (by decide) ?_;first|(simp;done)|(simp;omega)|(simp[h67];done)|(simp[h67];omega))|exact X0k) ?_
    intro h
    refine X2.rndEnd ?_
    exact X7 [Bf,.wrap] (o:=by repeat' first|apply Ya|exact pcM|(refine X0g h73 rfl ?_;first|(simp;done)|(simp;omega)|(simp[h67];done)|(simp[h67];omega))|(refine Xz h73 (by decide) ?_;first|(simp;done)|(simp;omega)|(simp[h67];done)|(simp[h67];omega))|exact X0k) (k:=wkT [(3,7)] (ih  _ _ nbF o h C0))
   obtain rfl:=X7x rfl
   refine X2.round ?_
   revert h
   refine brI (fun h74=>?_) fun h74=>fun e=>X7 [Bf] (k:=wkT [] (C0 _ _  nbF nbS (oj e).symm))
   refine bI fun e75 h76=>?_
   try have qh76:=Xv h76
   intro h
   exact absurd (h76) (by simp[X1q])
  obtain rfl:=Xdk rfl
  rcases X68 with ⟨_|_,X7x⟩
  ·
   refine X2.round ?_
   revert h
   refine brI (fun h77=>?_) fun h77=>fun e=>X7 [Bf] (k:=wkT [] (C0 _ _  nbS nbF (oj e).symm))
   refine bI fun e78 h79=>?_
   try have qh79:=Xv h79
   refine rnI [Bt,.el (X3 e78),.ld (X3 e78)] ?_
   intro h
   refine X2.yield rfl rfl rfl rfl rfl trivial trivial (.head _) rh1 rh2 rh3 rh4 rh5 rfl rfl ?_
   refine X10 [] ?_
   refine X2.asg ?_
   revert h
   refine bI fun u82 h83=>rnI [.no] (o:=by repeat' first|apply Ya|exact pcM|(refine X0g h83 rfl ?_;first|(simp;done)|(simp;omega)|(simp[h77];done)|(simp[h77];omega))|(refine Xz h83 (by decide) ?_;first|(simp;done)|(simp;omega)|(simp[h77];done)|(simp[h77];omega))|exact X0k) ?_
   intro h
   refine X2.rndEnd ?_
   exact X7 [Bf,.wrap] (o:=by repeat' first|apply Ya|exact pcM|(refine X0g h83 rfl ?_;first|(simp;done)|(simp;omega)|(simp[h77];done)|(simp[h77];omega))|(refine Xz h83 (by decide) ?_;first|(simp;done)|(simp;omega)|(simp[h77];done)|(simp[h77];omega))|exact X0k) (k:=wkT [(3,7)] (ih  _ _ nbF o h C0))
  obtain rfl:=X7x rfl
  refine X2.round ?_
  revert h
  refine brI (fun h84=>?_) fun h84=>fun e=>X7 [Bf] (k:=wkT [] (C0 _ _  nbS nbS (oj e).symm))
  refine bI fun e85 h86=>?_
  try have qh86:=Xv h86
  intro h
  exact absurd (h86) (by simp[X1q])
instance X04g:PCs Tryz.prog 118 (∀ (a0:Int) (a1:Int) (a2:Int) (r:(List Xr)×Int),Xe8 a0 a1 a2=some r->X0j Tryz.prog 118 [(aI .i64 a0),(aI .i64 a1),(aI .i64 a2)] (AV.tup [(AV.list true (r.1.map X3)),(aI .i64 r.2)])):=⟨fun a0 a1 a2 r h=>by
 refine X0j.sym X9 X0bt (nt:=70) rfl rfl ?_ okM
 unfold Xe8 at h
 revert h
 refine brI (fun h1=>fun e=>oj e▸X7 [.wrap,Bt] (k:=fi)) fun h1=>bI fun v2 h3=>brI (fun h4=>fun e=>oj e▸X7 [.wrap,Bf,.pure _ (AV.tup [(X3 v2.1),(aI .i64 v2.2)]),Bt] (k:=fi)) fun h4=>bI fun o24 h25=>rnI [.wrap,Bf,.pure _ (AV.tup [(X3 v2.1),(aI .i64 v2.2)]),Bf] ?_
 intro h
 refine wkT [] (X2.cut (Xk9 a0 a1 a2 _ _ _ nbS _ h25 ?_))
 intro Xg Xl eo24;subst eo24
 refine X2.glue ?_
 try dsimp only at h
 rcases Xl with ⟨_|_,X0q⟩
 ·
  refine X10 [] ?_
  refine X2.inline X9 X099 rfl rfl rfl rfl rfl trivial trivial rfl rfl ?_
  refine X10 [] ?_
  refine X2.back (by intro id h;cases h) rfl ?_
  refine X10 [] ?_
  refine X2.keepL [12,62] ?_
  refine X2.rangeFunc rfl trivial X097 rfl rfl rfl ?_
  intro rb rD rr rh1 rh2 rh3 rh4 rh5
  revert h
  refine bI fun o87 h88=>rnI [.el (aI .i64 (Xg.length:Int)),.wrap] ?_
  intro h
  refine wkT [(4,0)] (X2.cut (Xbd rh1 rh2 rh3 rh4 rh5 Xg nbF _ _ _ nbS _ h88 ?_))
  intro X0y X1s X1h X24 eo87;subst eo87
  refine X2.glue ?_
  try dsimp only at h
  rcases X1h with ⟨_|_,X4r⟩
  ·
   rcases X24 with ⟨_|_,X2o⟩
   ·
    refine X10 [] ?_
    refine X2.rfEnd (by intro id h;cases h) ?_
    revert h
    exact fun e=>oj e▸X7 [] (k:=fi)
   obtain rfl:=X2o rfl
   refine X10 [] ?_
   refine X2.rfEnd (by intro id h;cases h) ?_
   revert h
   exact fun e=>oj e▸X7 [] (k:=fi)
  obtain rfl:=X4r rfl
  rcases X24 with ⟨_|_,X2o⟩
  ·
   refine X10 [] ?_
   refine X2.rfEnd (by intro id h;cases h) ?_
   revert h
   exact fun e=>oj e▸X7 [] (k:=fi)
  obtain rfl:=X2o rfl
  refine X10 [] ?_
  refine X2.rfEnd (by intro id h;cases h) ?_
  revert h
  exact fun e=>oj e▸X7 [] (k:=fi)
 obtain rfl:=X0q rfl
 refine X10 [] ?_
 refine X2.inline X9 X099 rfl rfl rfl rfl rfl trivial trivial rfl rfl ?_
 refine X10 [] ?_
 refine X2.back (by intro id h;cases h) rfl ?_
 refine X10 [] ?_
 refine X2.keepL [12,62] ?_
 refine X2.rangeFunc rfl trivial X097 rfl rfl rfl ?_
 intro rb rD rr rh1 rh2 rh3 rh4 rh5
 revert h
 refine bI fun o130 h131=>rnI [.el (aI .i64 (List.length ([]:List Xr):Int)),.wrap] ?_
 intro h
 refine wkT [] (X2.cut (Xbd rh1 rh2 rh3 rh4 rh5 ([]:List Xr) nbS _ _ _ nbS _ h131 ?_))
 intro X0y X1s X1h X24 eo130;subst eo130
 refine X2.glue ?_
 try dsimp only at h
 rcases X1h with ⟨_|_,X4r⟩
 ·
  rcases X24 with ⟨_|_,X2o⟩
  ·
   refine X10 [] ?_
   refine X2.rfEnd (by intro id h;cases h) ?_
   revert h
   exact fun e=>oj e▸X7 [] (k:=fi)
  obtain rfl:=X2o rfl
  refine X10 [] ?_
  refine X2.rfEnd (by intro id h;cases h) ?_
  revert h
  exact fun e=>oj e▸X7 [] (k:=fi)
 obtain rfl:=X4r rfl
 rcases X24 with ⟨_|_,X2o⟩
 ·
  refine X10 [] ?_
  refine X2.rfEnd (by intro id h;cases h) ?_
  revert h
  exact fun e=>oj e▸X7 [] (k:=fi)
 obtain rfl:=X2o rfl
 refine X10 [] ?_
 refine X2.rfEnd (by intro id h;cases h) ?_
 revert h
 exact fun e=>oj e▸X7 [] (k:=fi)⟩
instance Xk8:PCs Tryz.prog 83 (∀ (a0:X0h) (a1:Int) (r:(List Xr)×Int),Xgo a0 a1=some r->X0j Tryz.prog 83 [(X0s a0),(aI .i64 a1)] (AV.tup [(AV.list true (r.1.map X3)),(aI .i64 r.2)])):=⟨fun a0 a1 r h=>by
 refine X0j.sym X9 fn83 (nt:=40) rfl rfl ?_ okM
 unfold Xgo at h
 revert h
 exact bI fun v1 h2=>brI (fun h3=>fun e=>oj e▸X7 [.pure _ (aI .i64 v1),Bt] (k:=fi)) fun h3=>brI (fun h4=>bI fun v5 h6=>brI (fun h7=>fun e=>oj e▸X7 [.pure _ (aI .i64 v1),Bf,Bt,.pure _ (AV.tup [(X3 v5.1),(aI .i64 v5.2)]),Bt] (k:=fi)) fun h7=>fun e=>oj e▸X7 [.pure _ (aI .i64 v1),Bf,Bt,.pure _ (AV.tup [(X3 v5.1),(aI .i64 v5.2)]),Bf] (k:=fi)) fun h4=>brI (fun h8=>bI fun v9 h10=>fun e=>oj e▸X7 [.pure _ (aI .i64 v1),Bf,Bf,Bt,.pure _ (AV.tup [(AV.list true (v9.1.map X3)),(aI .i64 v9.2)])] (k:=fi)) fun h8=>fun e=>oj e▸X7 [.pure _ (aI .i64 v1),Bf,Bf,Bf] (k:=fi)⟩
theorem X1a {Q:X01->St->Mu->Prop} {μ:Mu} (X0m:(List X6)) (X15:X6) (X3v:Nb X0m) (hl:X0m.length<=140737488355328):∀ (xs:List X6) (k:Nat) (hx:X0m.drop k=xs) (o:X0e) (h:Xq X0m X15 xs k  = some o)
  (C0:o=X0e.x0->X2 Tryz.prog 19 5 Q (.exit (.exit 0)) [] ⟨fr [],hp ([(4,Ob [(X5 X15)] 11)]++opE X3v.1 3 11 (X0m.map X5)),5⟩ μ)
  (C1:∀ (Xb7:Int),o=X0e.x1 Xb7->X2 Tryz.prog 19 5 Q (.exit .ret) [] ⟨fr [(4,(aI .i64 Xb7))],hp ([(4,Ob [(X5 X15)] 11)]++opE X3v.1 3 11 (X0m.map X5)),5⟩ μ),
  X2 Tryz.prog 19 5 Q (.loop (X30 0 (Xj Tryz.f113))) [] ⟨fr [(0,(slE X3v.1 3 (X0m.map X5))),(1,(AV.fn 114 [(AV.ptr 4 0 0)])),(7,(aI .i64 (X0m.length:Int))),(8,(aI .i64 (k:Int)))],hp ([(4,Ob [(X5 X15)] 11)]++opE X3v.1 3 11 (X0m.map X5)),5⟩ μ:=by
 intro xs
 induction xs with
 |nil =>
  intro k hx  o h C0 C1
  have hk:=drop_nil hx
  have hc:decide ((k:Int)<(X0m.length:Int))=false:=Yf (by omega)
  rw[Xq] at h
  rcases X3v with ⟨_|_,Xdk⟩
  ·
   refine X2.round ?_
   revert h
   exact fun e=>X7 [Bf] (k:=wkT [] (C0  (oj e).symm))
  ·
   obtain rfl:=Xdk rfl
   refine X2.round ?_
   revert h
   exact fun e=>X7 [Bf] (k:=wkT [] (C0  (oj e).symm))
 |cons x xs ih =>
  intro k hx  o h C0 C1
  obtain⟨hk,hg,hx1⟩:=drop_cons hx
  have hc:decide ((k:Int)<(X0m.length:Int))=true:=Yt (by omega)
  rw[Xq] at h
  rcases X3v with ⟨_|_,Xdk⟩
  ·
   refine X2.round ?_
   refine X10 [Bt,.el (X5 x),.ld (X5 x)] ?_
   refine X2.inline X9 X0bw rfl rfl rfl rfl rfl trivial trivial rfl rfl ?_
   refine X10 [] ?_
   refine X2.back (by intro id h;cases h) rfl ?_
   revert h
   refine brI (fun h1341=>fun e=>X7 [Bt] (k:=wkT [] (C1 _  (oj e).symm))) fun h1341=>rnI [Bf] ?_
   intro h
   exact wkT [] (ih (k+1) hx1  o h C0 C1)
  obtain rfl:=Xdk rfl
  refine X2.round ?_
  exact absurd hk (by simp)
theorem X6e {Q:X01->St->Mu->Prop} {μ:Mu}:∀ (n:Nat) (X0m:(List X6)) (X15:X6) (X3v:Nb X0m) (o:X4c) (h:X1l  n X0m X15=some o)
  (C0:∀ (X0y:(List X6)) (Xb8:Int) (X1h:Nb X0y),o=X4c.x0 X0y Xb8->X2 Tryz.prog 54 3 Q (.exit .ret) [] ⟨fr [(4,(slE X1h.1 3 (X0y.map X5))),(5,(aI .i64 Xb8))],hp ([]++opE X1h.1 3 11 (X0y.map X5)),4⟩ μ),
  X2 Tryz.prog 54 3 Q (.loop (X30 0 (Xj Tryz.f82))) [] ⟨fr [(0,(slE X3v.1 3 (X0m.map X5))),(3,(AV.ptr 4 0 0))],hp ([(4,Ob [(X5 X15)] 11)]++opE X3v.1 3 11 (X0m.map X5)),5⟩ μ:=by
 intro n
 induction n with
 |zero=>intro X0m X15 X3v o h C0;cases h
 |succ n ih =>
  intro X0m X15 X3v o h C0
  rw[X1l] at h
  rcases X3v with ⟨_|_,Xdk⟩
  ·
   refine X2.round ?_
   revert h
   refine bI fun Xff h1344=>rnI [] ?_
   intro h
   refine X2.joinOp (s':=⟨fr [(0,(AV.ref 3 0 (X0m.length))),(3,(AV.ptr 4 0 0)),(10,(aI .i64 Xff))],hp ([(3,Ob (X0m.map X5) 11),(4,Ob [(X5 X15)] 11)]),5⟩) ?_ (fun J=>?_)
   ·
    revert h
    refine brI (fun h1345=>?_) fun h1345=>?_
    ·
     refine bI fun w1392 h1439=>?_
     intro h
     obtain⟨Xoc,Xw2⟩:=w1392
     try dsimp only at h
     refine X10 [Bt] ?_
     refine X2.joinOpF (fun(q:Nb Xoc)=>⟨fr [(15,(AV.tup [(slE q.1 3 (Xoc.map X5)),(aI .i64 Xw2)]))],hp ([]++opE q.1 3 11 (Xoc.map X5)),4⟩) ?_ (fun J=>?_)
     ·
      rintro Xrw
      rcases Xrw with ⟨_|_,Xt8⟩
      ·
       revert h
       exact fun e=>X7 [] (k:=wkT [] (C0 _ _  nbF (oj e).symm))
      obtain rfl:=Xt8 rfl
      revert h
      exact fun e=>X7 [] (k:=wkT [] (C0 _ _  nbS (oj e).symm))
     clear h;revert h1439
     intro h
     refine X2.inline X9 fn84 rfl rfl rfl rfl rfl trivial trivial rfl rfl ?_
     revert h
     refine bI fun v1393 h1394=>brI (fun h1395=>?_) fun h1395=>?_
     ·
      refine brI (fun h1396=>?_) fun h1396=>?_
      ·
       refine bI fun _ h1412=>rnI [.pure [(Lf (X0m.map X5)),(X5 X15),(AV.fn 110 [])] (AV.tup [(aI .i64 v1393.1),(aB v1393.2)]),Bt] (o:=by repeat' first|apply Ya|exact pcM|exact(X6d.lent (Xt _ _ _ h1394) (cc (Xqv (es:=X0m.map X5) rfl (by first|rfl|(simp;done)|(simp;rfl)|(simp[h1345];done)|(simp[h1345];rfl)|(simp[h1345,Ym,Yd];done)|(simp[h1345,Ym,Yd];rfl)) (by first|rfl|(simp;done)|(simp;omega)|(simp[h1345];done)|(simp[h1345];omega)) (X47 X75 X0m)) (cc (X8v (x:=X15)) (cc .fn0 cn))) (Xph (X1p .sc (X1p .sc Xb1))))|exact X0k) ?_
       intro h
       refine X2.joinOp (s':=⟨fr [(21,(AV.ref 5 0 (List.length (X0m++[X15]))))],hp ([(5,Ob (List.map X5 (X0m++[X15])) 11)]),6⟩) ?_ (fun J=>?_)
       ·
        simp only[Option.some.injEq,Prod.mk.injEq] at h
        obtain⟨rfl,rfl⟩:=h
        refine X10 [] ?_
        refine X2.back (by intro id h;cases h) rfl ?_
        exact wkT [(3,5)] ((J nbF))
       clear h;revert h1412
       intro h
       refine X2.inline X9 Xwp rfl rfl rfl rfl rfl trivial trivial rfl rfl ?_
       revert h
       refine bI fun m1405 h1406=>?_
       obtain⟨qah1406,qbh1406,qch1406,qh1406⟩:=X3c h1406
       have qlh1406:=X7a h1406
       refine brI (fun h1407=>?_) fun h1407=>?_
       ·
        refine bI fun u1408 h1409=>rnI [.ne false,Bf,.el (aI .i64 (X0m.length:Int)),Bt,.no] (o:=by repeat' first|apply Ya|exact pcM|(simp at qah1406 qbh1406 qch1406 ⊢;omega)|(simp at qah1406 qbh1406 qch1406 qlh1406 ⊢;have qz:=X3d h1407;omega)|(refine X0g h1409 rfl ?_;first|(simp;done)|(simp;omega)|(simp[h1345,h1395,h1396,h1407];done)|(simp[h1345,h1395,h1396,h1407];omega))|(refine Xz h1409 (by decide) ?_;first|(simp;done)|(simp;omega)|(simp[h1345,h1395,h1396,h1407];done)|(simp[h1345,h1395,h1396,h1407];omega))|exact X0k) ?_
        intro h
        refine X2.back (by intro id h;cases h) rfl ?_
        exact wkT [(5,7)] (J)
       refine bI fun u1410 h1411=>rnI [.via (.ref 3 (Int.toNat v1393.1) (m1405.length)),Bf,.el (aI .i64 (X0m.length:Int)),Bt,.no] (o:=by repeat' first|apply Ya|exact pcM|(simp at qah1406 qbh1406 qch1406 ⊢;omega)|(simp at qah1406 qbh1406 qch1406 qlh1406 ⊢;have qz:=X12 h1407;omega)|(simp at qah1406 qbh1406 qch1406 qlh1406 ⊢;omega)|(simp;done)|(refine X0g h1411 rfl ?_;first|(simp;done)|(simp;omega)|(simp[h1345,h1395,h1396,h1407];done)|(simp[h1345,h1395,h1396,h1407];omega))|(refine Xz h1411 (by decide) ?_;first|(simp;done)|(simp;omega)|(simp[h1345,h1395,h1396,h1407];done)|(simp[h1345,h1395,h1396,h1407];omega))|exact X0k) ?_
       intro h
       refine X2.back (by intro id h;cases h) rfl ?_
       exact wkT [(5,7)] (J)
      refine bI fun m1413 h1414=>rnI [.pure [(Lf (X0m.map X5)),(X5 X15),(AV.fn 110 [])] (AV.tup [(aI .i64 v1393.1),(aB v1393.2)]),Bt] (o:=by repeat' first|apply Ya|exact pcM|exact(X6d.lent (Xt _ _ _ h1394) (cc (Xqv (es:=X0m.map X5) rfl (by first|rfl|(simp;done)|(simp;rfl)|(simp[h1345];done)|(simp[h1345];rfl)|(simp[h1345,Ym,Yd];done)|(simp[h1345,Ym,Yd];rfl)) (by first|rfl|(simp;done)|(simp;omega)|(simp[h1345];done)|(simp[h1345];omega)) (X47 X75 X0m)) (cc (X8v (x:=X15)) (cc .fn0 cn))) (Xph (X1p .sc (X1p .sc Xb1))))|exact X0k) ?_
      intro h
      refine X2.hcall rfl rfl rfl rfl rfl trivial trivial (Xud ⟨_,_,Xwp⟩ (f:=X5) (l:=X0m) (x:=X15) h1414 rfl rfl rfl (by first|rfl|simp)) ?_
      simp only[Option.some.injEq,Prod.mk.injEq] at h
      obtain⟨rfl,rfl⟩:=h
      refine X10 [] ?_
      refine X2.back (by intro id h;cases h) rfl ?_
      exact wkT [(3,7)] ((J nbF))
     refine rnI [.pure [(Lf (X0m.map X5)),(X5 X15),(AV.fn 110 [])] (AV.tup [(aI .i64 v1393.1),(aB v1393.2)]),Bf,.stop 4] (o:=by repeat' first|apply Ya|exact pcM|exact(X6d.lent (Xt _ _ _ h1394) (cc (Xqv (es:=X0m.map X5) rfl (by first|rfl|(simp;done)|(simp;rfl)|(simp[h1345];done)|(simp[h1345];rfl)|(simp[h1345,Ym,Yd];done)|(simp[h1345,Ym,Yd];rfl)) (by first|rfl|(simp;done)|(simp;omega)|(simp[h1345];done)|(simp[h1345];omega)) (X47 X75 X0m)) (cc (X8v (x:=X15)) (cc .fn0 cn))) (Xph (X1p .sc (X1p .sc Xb1))))|exact X0k) ?_
     refine bI fun e1415 h1416=>?_
     try have qh1416:=Xv h1416
     intro h
     refine X2.drawnCut 5 tmD [.el (X5 e1415)] rfl rfl rfl rfl rfl (by repeat' first|apply Ya|exact X0k) ?_
     revert h
     refine bI fun w1427 h1438=>?_
     intro h
     obtain⟨Xob,X03i⟩:=w1427
     try dsimp only at h
     refine X10 [] ?_
     refine X2.joinOpF (fun(q:Nb Xob)=>⟨fr [(0,(slE q.1 5 (Xob.map X5))),(27,(aI .i64 X03i))],hp ([]++opE q.1 5 11 (Xob.map X5)),6⟩) ?_ (fun J=>?_)
     ·
      rintro Xrv
      rcases Xrv with ⟨_|_,Xt7⟩
      ·
       simp only[Option.some.injEq,Prod.mk.injEq] at h
       obtain⟨rfl,rfl⟩:=h
       refine X10 [] ?_
       refine X2.back (by intro id h;cases h) rfl ?_
       exact wkT [(3,5)] ((J nbF))
      obtain rfl:=Xt7 rfl
      simp only[Option.some.injEq,Prod.mk.injEq] at h
      obtain⟨rfl,rfl⟩:=h
      refine X10 [] ?_
      refine X2.back (by intro id h;cases h) rfl ?_
      exact wkT [] ((J nbS))
     clear h;revert h1438
     intro h
     refine X2.inline X9 X07g rfl rfl rfl rfl rfl trivial trivial rfl rfl ?_
     refine X10 [] ?_
     refine X2.round ?_
     revert h
     refine bI fun v1430 h1431=>brI (fun h1432=>?_) fun h1432=>?_
     ·
      intro h
      simp only[Option.some.injEq,Prod.mk.injEq] at h
      obtain⟨rfl,rfl⟩:=h
      refine X10 [Bt,.ix 0,.ix 0,.ld (X5 e1415),.pure _ (AV.tup [(X0c v1430.1),(aI .i64 v1430.2)]),Bt] ?_
      refine X2.back (by intro id h;cases h) rfl ?_
      exact wkT [(5,3)] ((J nbF))
     refine rnI [Bt,.ix 0,.ix 0,.ld (X5 e1415),.pure _ (AV.tup [(X0c v1430.1),(aI .i64 v1430.2)]),Bf,.ix 0,.ld (X5 e1415)] (o:=by repeat' first|apply Ya|exact pcM|exact(List.getElem?_set_self (by have hq:=X26 h1416;simp;omega)).trans rfl|exact X0k) ?_
     intro h
     refine X2.round ?_
     revert h
     refine bI fun v1435 h1436=>rnI [Bt,.ix 1,.ix 1,.ld (X5 (X6.mk e1415.Key e1415.Span (V2.mk v1430.1 e1415.Values.e1))),.pure _ (AV.tup [(X0c v1435.1),(aI .i64 v1435.2)])] (o:=by repeat' first|apply Ya|exact pcM|exact(List.getElem?_set_self (by have hq:=X26 h1416;simp;omega)).trans rfl|exact X0k) ?_
     refine brI (fun h1437=>?_) fun h1437=>?_
     ·
      intro h
      simp only[Option.some.injEq,Prod.mk.injEq] at h
      obtain⟨rfl,rfl⟩:=h
      refine X10 [Bt] (o:=by repeat' first|apply Ya|exact pcM|exact(List.getElem?_set_self (by have hq:=X26 h1416;simp;omega)).trans rfl|exact X0k) ?_
      refine X2.back (by intro id h;cases h) rfl ?_
      exact wkT [(5,3)] ((J nbF))
     refine rnI [Bf,.ix 1,.ld (X5 (X6.mk e1415.Key e1415.Span (V2.mk v1430.1 e1415.Values.e1)))] (o:=by repeat' first|apply Ya|exact pcM|exact(List.getElem?_set_self (by have hq:=X26 h1416;simp;omega)).trans rfl|exact X0k) ?_
     intro h
     refine X2.round ?_
     simp only[Option.some.injEq,Prod.mk.injEq] at h
     obtain⟨rfl,rfl⟩:=h
     refine X10 [Bf] (o:=by repeat' first|apply Ya|exact pcM|exact(List.getElem?_set_self (by have hq:=X26 h1416;simp;omega)).trans rfl|exact X0k) ?_
     refine X2.back (by intro id h;cases h) rfl ?_
     exact wkT [(5,3)] ((J nbF))
    refine bI fun e1440 h1441=>?_
    try have qh1441:=Xv h1441
    refine bI fun w1452 h1463=>?_
    intro h
    obtain⟨X03g,X03h⟩:=w1452
    try dsimp only at h
    refine X10 [Bf,.el (X5 e1440),.ld (X5 e1440)] ?_
    refine X2.joinOp (s':=⟨fr [(0,(AV.ref 3 0 (X0m.length))),(3,(AV.ptr 4 0 0)),(6,(aI .i64 Xff)),(23,(aI .i64 X03h))],hp ([(3,Ob (X0m.map X5) 11),(4,Ob [(X5 X03g)] 11)]),5⟩) ?_ (fun J=>?_)
    ·
     revert h
     refine brI (fun h1464=>fun e=>X7 [Bt] (k:=wkT [] (C0 _ _  nbS (oj e).symm))) fun h1464=>bI fun m1465 h1466=>rnI [Bf,.el (X5 e1440),.ld (X5 e1440),.el (X5 e1440),.ld (X5 e1440),.wrap] ?_
     intro h
     refine X2.hcall rfl rfl rfl rfl rfl trivial trivial (X042 ⟨_,_,X0bv⟩ (f:=X5) (l:=X0m) h1466 rfl rfl (by first|rfl|simp)) ?_
     exact X7 [] (k:=wkT [(3,28)] (ih  _ _ nbF o h C0))
    clear h;revert h1463
    intro h
    refine X2.inline X9 X07g rfl rfl rfl rfl rfl trivial trivial rfl rfl ?_
    refine X10 [] ?_
    refine X2.round ?_
    revert h
    refine bI fun v1455 h1456=>brI (fun h1457=>?_) fun h1457=>?_
    ·
     intro h
     simp only[Option.some.injEq,Prod.mk.injEq] at h
     obtain⟨rfl,rfl⟩:=h
     refine X10 [Bt,.ix 0,.ix 0,.pure _ (AV.tup [(X0c v1455.1),(aI .i64 v1455.2)]),Bt] ?_
     refine X2.back (by intro id h;cases h) rfl ?_
     exact wkT [] (J)
    refine rnI [Bt,.ix 0,.ix 0,.pure _ (AV.tup [(X0c v1455.1),(aI .i64 v1455.2)]),Bf,.ix 0] ?_
    intro h
    refine X2.round ?_
    revert h
    refine bI fun v1460 h1461=>brI (fun h1462=>?_) fun h1462=>?_
    ·
     intro h
     simp only[Option.some.injEq,Prod.mk.injEq] at h
     obtain⟨rfl,rfl⟩:=h
     refine X10 [Bt,.ix 1,.ix 1,.pure _ (AV.tup [(X0c v1460.1),(aI .i64 v1460.2)]),Bt] ?_
     refine X2.back (by intro id h;cases h) rfl ?_
     exact wkT [] (J)
    refine rnI [Bt,.ix 1,.ix 1,.pure _ (AV.tup [(X0c v1460.1),(aI .i64 v1460.2)]),Bf,.ix 1] ?_
    intro h
    refine X2.round ?_
    simp only[Option.some.injEq,Prod.mk.injEq] at h
    obtain⟨rfl,rfl⟩:=h
    refine X10 [Bf] ?_
    refine X2.back (by intro id h;cases h) rfl ?_
    exact wkT [] (J)
   clear h;revert h1344
   intro h
   refine X2.inline X9 X09d rfl rfl rfl rfl rfl trivial trivial rfl rfl ?_
   revert h
   refine bI fun u1330 h1331=>?_
   have qh1331:=X09 h1331
   refine bI fun o1342 h1343=>rnI [.el (aI .i64 (X0m.length:Int))] ?_
   intro h
   refine wkT [] (X2.cut (X1a X0m X15 nbF qh1331 X0m 0 (by simp) _ h1343 ?_ ?_))
   ·
    intro eo1342;subst eo1342
    refine X2.glue ?_
    try dsimp only at h
    obtain rfl:=oj h
    refine X10 [] ?_
    refine X2.back (by intro id h;cases h) rfl ?_
    exact wkT [] (J)
   intro Xb7 eo1342;subst eo1342
   refine X2.glue ?_
   try dsimp only at h
   obtain rfl:=oj h
   refine X10 [] ?_
   refine X2.back (by intro id h;cases h) rfl ?_
   exact wkT [] (J)
  obtain rfl:=Xdk rfl
  refine X2.round ?_
  revert h
  refine bI fun X03f h1502=>rnI [] ?_
  intro h
  refine X2.joinOp (s':=⟨fr [(0,AV.nils),(3,(AV.ptr 4 0 0)),(10,(aI .i64 X03f))],hp ([(4,Ob [(X5 X15)] 11)]),5⟩) ?_ (fun J=>?_)
  ·
   revert h
   refine brI (fun h1503=>?_) fun h1503=>?_
   ·
    refine bI fun w1524 h1545=>?_
    intro h
    obtain⟨Xoa,Xw1⟩:=w1524
    try dsimp only at h
    refine X10 [Bt] ?_
    refine X2.joinOpF (fun(q:Nb Xoa)=>⟨fr [(15,(AV.tup [(slE q.1 3 (Xoa.map X5)),(aI .i64 Xw1)]))],hp ([]++opE q.1 3 11 (Xoa.map X5)),4⟩) ?_ (fun J=>?_)
    ·
     rintro Xru
     rcases Xru with ⟨_|_,Xt6⟩
     ·
      revert h
      exact fun e=>X7 [] (k:=wkT [] (C0 _ _  nbF (oj e).symm))
     obtain rfl:=Xt6 rfl
     revert h
     exact fun e=>X7 [] (k:=wkT [] (C0 _ _  nbS (oj e).symm))
    clear h;revert h1545
    intro h
    refine X2.inline X9 fn84 rfl rfl rfl rfl rfl trivial trivial rfl rfl ?_
    revert h
    refine bI fun v1525 h1526=>brI (fun h1527=>?_) fun h1527=>?_
    ·
     refine brI (fun h1528=>?_) fun h1528=>?_
     ·
      refine bI fun _ h1540=>rnI [.pure [(Lf (List.map X5 ([]:List X6))),(X5 X15),(AV.fn 110 [])] (AV.tup [(aI .i64 v1525.1),(aB v1525.2)]),Bt] (o:=by repeat' first|apply Ya|exact pcM|exact(pn (Xt _ _ _ h1526) (cc (Zn X5) (cc (X8v (x:=X15)) (cc .fn0 cn))))|exact X0k) ?_
      intro h
      refine X2.joinOp (s':=⟨fr [(21,(AV.ref 5 0 (List.length (([]:List X6)++[X15]))))],hp ([(5,Ob (List.map X5 (([]:List X6)++[X15])) 11)]),6⟩) ?_ (fun J=>?_)
      ·
       simp only[Option.some.injEq,Prod.mk.injEq] at h
       obtain⟨rfl,rfl⟩:=h
       refine X10 [] ?_
       refine X2.back (by intro id h;cases h) rfl ?_
       exact wkT [(3,5)] ((J nbF))
      clear h;revert h1540
      intro h
      refine X2.inline X9 Xwp rfl rfl rfl rfl rfl trivial trivial rfl rfl ?_
      revert h
      refine bI fun m1535 h1536=>?_
      obtain⟨qah1536,qbh1536,qch1536,qh1536⟩:=X3c h1536
      obtain rfl:=X9t h1536
      refine brI (fun h1537=>?_) fun h1537=>?_
      ·
       refine bI fun u1538 h1539=>rnI [Bf,.el (aI .i64 (List.length ([]:List X6):Int)),Bt,.no] (o:=by repeat' first|apply Ya|exact pcM|(simp at qah1536 qbh1536 qch1536 ⊢;omega)|(refine X0g h1539 rfl ?_;first|(simp;done)|(simp;omega)|(simp[h1503,h1527,h1528,h1537];done)|(simp[h1503,h1527,h1528,h1537];omega))|(refine Xz h1539 (by decide) ?_;first|(simp;done)|(simp;omega)|(simp[h1503,h1527,h1528,h1537];done)|(simp[h1503,h1527,h1528,h1537];omega))|exact X0k) ?_
       intro h
       refine X2.back (by intro id h;cases h) rfl ?_
       exact wkT [(5,7)] (J)
      intro h
      exact absurd h1537 (by simp)
     refine bI fun m1541 h1542=>?_
     intro h
     exact absurd h1542 (by simp[Xw3])
    refine rnI [.pure [(Lf (List.map X5 ([]:List X6))),(X5 X15),(AV.fn 110 [])] (AV.tup [(aI .i64 v1525.1),(aB v1525.2)]),Bf,.stop 4] (o:=by repeat' first|apply Ya|exact pcM|exact(pn (Xt _ _ _ h1526) (cc (Zn X5) (cc (X8v (x:=X15)) (cc .fn0 cn))))|exact X0k) ?_
    refine bI fun e1543 h1544=>?_
    try have qh1544:=Xv h1544
    intro h
    exact absurd (h1544) (by simp[X1q])
   refine bI fun e1546 h1547=>?_
   try have qh1547:=Xv h1547
   intro h
   exact absurd (h1547) (by simp[X1q])
  clear h;revert h1502
  intro h
  refine X2.inline X9 X09d rfl rfl rfl rfl rfl trivial trivial rfl rfl ?_
  revert h
  refine bI fun u1490 h1491=>?_
  have qh1491:=X09 h1491
  refine bI fun o1500 h1501=>rnI [.el (aI .i64 (List.length ([]:List X6):Int))] ?_
  intro h
  refine wkT [] (X2.cut (X1a ([]:List X6) X15 nbS qh1491 ([]:List X6) 0 (by simp) _ h1501 ?_ ?_))
  ·
   intro eo1500;subst eo1500
   refine X2.glue ?_
   try dsimp only at h
   obtain rfl:=oj h
   refine X10 [] ?_
   refine X2.back (by intro id h;cases h) rfl ?_
   exact wkT [] (J)
  intro Xb7 eo1500;subst eo1500
  refine X2.glue ?_
  try dsimp only at h
  obtain rfl:=oj h
  refine X10 [] ?_
  refine X2.back (by intro id h;cases h) rfl ?_
  exact wkT [] (J)
end Go.Av.Tryz