/- Printed by decomp.py: that the program computes the functions. -/
import Derived.Test.YtfdfgobnpnoomaaGreatDCert13Z
set_option linter.all false

namespace Go.Av.Tryz
open Go.Proofs Go.D
set_option maxRecDepth 10000
set_option maxHeartbeats 40000000
instance Xil:PCs Tryz.prog 89 (∀ (a0:Xw) (a1:(List Xy)) (a2:Int) (a3:Xr) (r:X1c×Bool),Xeb a0 a1 a2 a3=some r->X0j Tryz.prog 89 [(Xn false a0),(Lf (a1.map Xe)),(aI .i64 a2),(X3 a3)] (AV.tup [(Xd r.1),(aB r.2)])):=⟨fun a0 a1 a2 a3 r h=>by
 refine X0j.sym X9 fn89 (nt:=94) rfl rfl ?_ okM
 unfold Xeb at h
 revert h
 refine bI fun u1 h2=>?_
 have qh2:=X09 h2
 refine bI fun o100 h101=>rnI [] ?_
 intro h
 refine wkT [] (X2.cut (Xke a1 a2 a0 a3 (X1c.mk 0 (Xr.mk 0 0) (V2.mk 0 0)) qh2 a1 0 (by simp) _ _ h101 ?_))
 intro X0y eo100;subst eo100
 refine X2.glue ?_
 try dsimp only at h
 revert h
 refine bI fun Xsw h107=>rnI [.stop 9] ?_
 intro h
 refine X2.join (s':=⟨fr [(4,(AV.ptr 0 0 0)),(8,(AV.ptr 1 0 0)),(10,(AV.ptr 2 0 0)),(13,(AV.ptr 3 0 0)),(75,(aB Xsw))],hp ([(0,Ob [(Xn false a0)] 10),(1,Ob [(Xd (X1c.mk 0 (Xr.mk 0 0) (V2.mk 0 0)))] 5),(2,Ob [(X5a X0y)] 8),(3,Ob [(Xd (X1c.mk a2 a3 (V2.mk 0 0)))] 5)]),4⟩) ?_ (fun J=>X2.cut ?_)
 ·
  revert h
  refine brI (fun h108=>fun e=>oj e▸X7 [Bt] (k:=fi)) fun h108=>bI fun v109 h110=>bI fun Xsv h118=>rnI [Bf,.ix 0,.pure _ (aI .i64 v109),.ix 0] ?_
  intro h
  refine X2.join (s':=⟨fr [(8,(AV.ptr 0 0 0)),(13,(AV.ptr 1 0 0))],hp ([(0,Ob [(Xd (X1c.mk ((X1c.mk 0 (Xr.mk 0 0) (V2.mk 0 0)).Key) ((X1c.mk 0 (Xr.mk 0 0) (V2.mk 0 0)).Span) ((X1c.mk 0 (Xr.mk 0 0) (V2.mk 0 0)).Values)))] 5),(1,Ob [(Xd Xsv)] 5)]),2⟩) ?_ (fun J=>X2.cut ?_)
  ·
   revert h
   exact fun e=>oj e▸X7 [] (k:=fi)
  clear h;revert h118
  refine brI (fun h115=>?_) fun h115=>?_
  ·
   refine bI fun v116 h117=>?_
   intro h
   obtain rfl:=oj h
   exact X7 [Bt,.ix 1,.pure _ (aI .i64 v116),.ix 1] (k:=wkT [(0,1),(1,3)] (X2.glue J))
  intro h
  obtain rfl:=oj h
  exact X7 [Bf] (k:=wkT [(0,1),(1,3)] (X2.glue J))
 clear h;revert h107
 refine brI (fun h105=>?_) fun h105=>?_
 ·
  intro h
  obtain rfl:=oj h
  exact X7 [.ix 0,.go false,.go false,.go false,.go false,.go false,.go false,.go false,.go false] (k:=wkT [(1,2),(2,3),(3,4)] (X2.glue J))
 refine brI (fun h106=>?_) fun h106=>?_
 ·
  intro h
  obtain rfl:=oj h
  exact X7 [.ix 0,.go true,.go true,.go true,.go true,.ix 1,.go true,.go true,.go true,.go true] (k:=wkT [(1,2),(2,3),(3,4)] (X2.glue J))
 intro h
 obtain rfl:=oj h
 exact X7 [.ix 0,.go true,.go true,.go true,.go false,.go false,.go false,.go false,.go true] (k:=wkT [(1,2),(2,3),(3,4)] (X2.glue J))⟩
instance X02l:PCs Tryz.prog 127 (∀ (a0:X6) (a1:X6) (r:Bool),Xf7 a0 a1=some r->X0j Tryz.prog 127 [(X5 a0),(X5 a1)] (aB r)):=⟨fun a0 a1 r h=>by
 refine X0j.sym X9 X0bm (nt:=38) rfl rfl ?_ okM
 unfold Xf7 at h
 revert h
 exact brI (fun h1=>fun e=>oj e▸X7 [Bt] (k:=fi)) fun h1=>brI (fun h2=>fun e=>oj e▸X7 [Bf,Bt] (k:=fi)) fun h2=>fun e=>oj e▸X7 [Bf,Bf] (k:=fi)⟩
instance X02i:PCs Tryz.prog 90 (∀ (a0:X1c) (a1:X1c) (r:Bool),Xcg a0 a1=some r->X0j Tryz.prog 90 [(Xd a0),(Xd a1)] (aB r)):=⟨fun a0 a1 r h=>by
 refine X0j.sym X9 fn90 (nt:=16) rfl rfl ?_ okM
 unfold Xcg at h
 revert h
 exact bI fun v1 h2=>fun e=>oj e▸X7 [.pure _ (aB v1)] (k:=fi)⟩
theorem Xds {Q:X01->St->Mu->Prop} {μ:Mu} (Xdy:Xw) (y2_5:(List Xy)) (Xr2:Int) (y2_8:Int) (y2_9:(List Xr)) (Xr8:Int):∀ (n:Nat) (X8a:(List X1c)) (Xdz:Int) (X8y:Nb X8a) (o:Xab) (h:X50 Xdy y2_5 Xr2 y2_8 y2_9 Xr8 n X8a Xdz=some o)
  (C0:∀ (X4y:(List X1c)) (X3m:Nb X4y),o=Xab.x0 X4y->X2 Tryz.prog 125 0 Q (.exit (.exit 4)) [] ⟨fr [(2,(AV.ptr 0 0 0)),(5,(AV.list true (y2_5.map Xe))),(6,(slE X3m.1 1 (X4y.map Xd))),(7,(aI .i64 Xr2)),(8,(aI .i64 y2_8)),(9,(AV.list true (y2_9.map X3))),(10,(aI .i64 Xr8))],hp ([(0,Ob [(Xn false Xdy)] 10)]++opE X3m.1 1 5 (X4y.map Xd)),2⟩ μ),
  X2 Tryz.prog 125 0 Q (.loop (X30 2 (Xj Tryz.f54))) [] ⟨fr [(2,(AV.ptr 0 0 0)),(5,(AV.list true (y2_5.map Xe))),(6,(slE X8y.1 1 (X8a.map Xd))),(7,(aI .i64 Xr2)),(8,(aI .i64 y2_8)),(9,(AV.list true (y2_9.map X3))),(10,(aI .i64 Xr8)),(14,(aI .i64 Xdz))],hp ([(0,Ob [(Xn false Xdy)] 10)]++opE X8y.1 1 5 (X8a.map Xd)),2⟩ μ:=by
 intro n
 induction n with
 |zero=>intro X8a Xdz X8y o h C0;cases h
 |succ n ih =>
  intro X8a Xdz X8y o h C0
  rw[X50] at h
  rcases X8y with ⟨_|_,Xh6⟩
  ·
   refine X2.round ?_
   revert h
   refine bI fun Xky h2549=>rnI [.stop 17] ?_
   intro h
   refine X2.join (s':=⟨fr [(2,(AV.ptr 0 0 0)),(5,(AV.list true (y2_5.map Xe))),(6,(AV.ref 1 0 (X8a.length))),(7,(aI .i64 Xr2)),(8,(aI .i64 y2_8)),(9,(AV.list true (y2_9.map X3))),(10,(aI .i64 Xr8)),(14,(aI .i64 Xdz)),(105,(aB Xky))],hp ([(0,Ob [(Xn false Xdy)] 10),(1,Ob (X8a.map Xd) 5)]),2⟩) ?_ (fun J=>X2.cut ?_)
   ·
    revert h
    refine brI (fun h2550=>?_) fun h2550=>fun e=>X7 [Bf] (k:=wkT [] (C0 _  nbF (oj e).symm))
    refine bI fun e2551 h2552=>?_
    try have qh2552:=Xv h2552
    refine bI fun e2553 h2554=>?_
    try have qh2554:=Xv h2554
    refine bI fun e2555 h2556=>?_
    try have qh2556:=Xv h2556
    refine rnI [Bt,.wrap,.wrap,.el (Xd e2551),.ld (Xd e2551),.el (Xd e2553),.ld (Xd e2553),.el (Xd e2553),.ld (Xd e2553),.el (Xd e2555),.ld (Xd e2555),.wrap] (o:=by repeat' first|apply Ya|exact pcM|exact(List.getElem?_set_self (by have hq:=X26 h2554;simp;omega)).trans rfl|(have hq:=Xjx (f:=Xd) h2556;rw[List.map_set] at hq;simp only[Nat.zero_add];exact hq)|exact(List.getElem?_set_self (by have hq:=X26 h2556;simp;omega)).trans rfl|exact X0k) ?_
    intro h
    exact wkT [] (ih  _ _ nbF o h C0)
   clear h;revert h2549
   refine brI (fun h2542=>?_) fun h2542=>?_
   ·
    refine bI fun e2543 h2544=>?_
    try have qh2544:=Xv h2544
    refine bI fun e2545 h2546=>?_
    try have qh2546:=Xv h2546
    refine bI fun v2547 h2548=>?_
    intro h
    obtain rfl:=oj h
    exact X7 [.go true,.go true,.go true,.el (Xd e2543),.go true,.ld (Xd e2543),.go true,.go true,.go true,.wrap,.go true,.el (Xd e2545),.go true,.ld (Xd e2545),.go true,.pure _ (aB v2547)] (k:=wkT [] (X2.glue J))
   intro h
   obtain rfl:=oj h
   exact X7 [.go false,.go false,.go false,.go false,.go false,.go false,.go false,.go false,.go false,.go false,.go false] (k:=wkT [] (X2.glue J))
  obtain rfl:=Xh6 rfl
  refine X2.round ?_
  revert h
  refine bI fun Xze h2564=>rnI [.stop 17] ?_
  intro h
  refine X2.join (s':=⟨fr [(2,(AV.ptr 0 0 0)),(5,(AV.list true (y2_5.map Xe))),(6,AV.nils),(7,(aI .i64 Xr2)),(8,(aI .i64 y2_8)),(9,(AV.list true (y2_9.map X3))),(10,(aI .i64 Xr8)),(14,(aI .i64 Xdz)),(105,(aB Xze))],hp ([(0,Ob [(Xn false Xdy)] 10)]),2⟩) ?_ (fun J=>X2.cut ?_)
  ·
   revert h
   refine brI (fun h2565=>?_) fun h2565=>fun e=>X7 [Bf] (k:=wkT [] (C0 _  nbS (oj e).symm))
   refine bI fun e2566 h2567=>?_
   try have qh2567:=Xv h2567
   intro h
   exact absurd (h2567) (by simp[X1q])
  clear h;revert h2564
  refine brI (fun h2561=>?_) fun h2561=>?_
  ·
   refine bI fun e2562 h2563=>?_
   try have qh2563:=Xv h2563
   intro h
   exact absurd (h2563) (by simp[X1q])
  intro h
  obtain rfl:=oj h
  exact X7 [.go false,.go false,.go false,.go false,.go false,.go false,.go false,.go false,.go false,.go false,.go false] (k:=wkT [] (X2.glue J))
theorem Xdt {Q:X01->St->Mu->Prop} {μ:Mu} (X33:Xw) (Xtm:(List Xy)) (Xe3:Int) (Xuu:Int) (Xn9:(List Xr)) (hl:Xn9.length<=140737488355328):∀ (xs:List Xr) (k:Nat) (hx:Xn9.drop k=xs) (X3b:(List X1c)) (X3u:Nb X3b) (o:Xac) (h:X2r X33 Xtm Xe3 Xuu Xn9 xs k X3b=some o)
  (C0:∀ (X1r:(List X1c)) (X13:Nb X1r),o=Xac.x0 X1r->X2 Tryz.prog 125 0 Q (.exit (.exit 2)) [] ⟨fr [(2,(AV.ptr 0 0 0)),(5,(AV.list true (Xtm.map Xe))),(6,(slE X13.1 1 (X1r.map Xd))),(7,(aI .i64 Xe3))],hp ([(0,Ob [(Xn false X33)] 10)]++opE X13.1 1 5 (X1r.map Xd)),2⟩ μ),
  X2 Tryz.prog 125 0 Q (.loop (X30 1 (Xj Tryz.f54))) [] ⟨fr [(2,(AV.ptr 0 0 0)),(5,(AV.list true (Xtm.map Xe))),(6,(slE X3u.1 1 (X3b.map Xd))),(7,(aI .i64 Xe3)),(8,(aI .i64 Xuu)),(9,(AV.list true (Xn9.map X3))),(10,(aI .i64 (k:Int)))],hp ([(0,Ob [(Xn false X33)] 10)]++opE X3u.1 1 5 (X3b.map Xd)),2⟩ μ:=by
 intro xs
 induction xs with
 |nil =>
  intro k hx X3b X3u o h C0
  have hk:=drop_nil hx
  have hc:decide ((k:Int)<(Xn9.length:Int))=false:=Yf (by omega)
  rw[X2r] at h
  rcases X3u with ⟨_|_,X7w⟩
  ·
   refine X2.round ?_
   revert h
   exact fun e=>X7 [.el (aI .i64 (Xn9.length:Int)),Bf] (k:=wkT [] (C0 _  nbF (oj e).symm))
  ·
   obtain rfl:=X7w rfl
   refine X2.round ?_
   revert h
   exact fun e=>X7 [.el (aI .i64 (Xn9.length:Int)),Bf] (k:=wkT [] (C0 _  nbS (oj e).symm))
 |cons x xs ih =>
  intro k hx X3b X3u o h C0
  obtain⟨hk,hg,hx1⟩:=drop_cons hx
  have hc:decide ((k:Int)<(Xn9.length:Int))=true:=Yt (by omega)
  rw[X2r] at h
  rcases X3u with ⟨_|_,X7w⟩
  ·
   refine X2.round ?_
   revert h
   refine bI fun e2447 h2448=>?_
   try have qh2448:=Xv h2448
   refine bI fun Xo4 h2458=>rnI [.el (aI .i64 (Xn9.length:Int)),Bt,.el (Xe e2447),.stop 12] ?_
   intro h
   refine X2.join (s':=⟨fr [(2,(AV.ptr 0 0 0)),(5,(AV.list true (Xtm.map Xe))),(6,(AV.ref 1 0 (X3b.length))),(7,(aI .i64 Xe3)),(8,(aI .i64 Xuu)),(9,(AV.list true (Xn9.map X3))),(10,(aI .i64 (k:Int))),(71,(aB Xo4))],hp ([(0,Ob [(Xn false X33)] 10),(1,Ob (X3b.map Xd) 5)]),2⟩) ?_ (fun J=>X2.cut ?_)
   ·
    revert h
    refine brI (fun h2459=>?_) fun h2459=>?_
    ·
     refine rnI [Bt] ?_
     intro h
     exact wkT [] (ih (k+1) hx1 _ nbF o h C0)
    refine bI fun v2460 h2461=>brI (fun h2462=>?_) fun h2462=>?_
    ·
     refine rnI [Bf,.el (X3 x),.pure _ (AV.tup [(Xd v2460.1),(aB v2460.2)]),Bt] ?_
     intro h
     exact wkT [] (ih (k+1) hx1 _ nbF o h C0)
    refine bI fun u2463 h2464=>bI fun o2568 h2569=>rnI [Bf,.el (X3 x),.pure _ (AV.tup [(Xd v2460.1),(aB v2460.2)]),Bf,.no,.el (aI .i64 (List.length (X3b++[v2460.1]):Int)),.wrap] (o:=by repeat' first|apply Ya|exact pcM|(refine X0g h2464 rfl ?_;first|(simp;done)|(simp;omega)|(simp[hc,h2459,h2462];done)|(simp[hc,h2459,h2462];omega))|(refine Xz h2464 (by decide) ?_;first|(simp;done)|(simp;omega)|(simp[hc,h2459,h2462];done)|(simp[hc,h2459,h2462];omega))|exact X0k) ?_
    intro h
    refine wkT [(1,17)] (X2.cut (Xds X33 Xtm Xe3 Xuu Xn9 (k:Int) _ _ _ nbF _ h2569 ?_))
    intro X4y X3m eo2568;subst eo2568
    refine X2.glue ?_
    try dsimp only at h
    rcases X3m with ⟨_|_,X8r⟩
    ·
     exact X7 [] (o:=by repeat' first|apply Ya|exact pcM|(refine X0g h2464 rfl ?_;first|(simp;done)|(simp;omega)|(simp[hc,h2459,h2462];done)|(simp[hc,h2459,h2462];omega))|(refine Xz h2464 (by decide) ?_;first|(simp;done)|(simp;omega)|(simp[hc,h2459,h2462];done)|(simp[hc,h2459,h2462];omega))|exact X0k) (k:=wkT [] (ih (k+1) hx1 _ nbF o h C0))
    obtain rfl:=X8r rfl
    exact X7 [] (o:=by repeat' first|apply Ya|exact pcM|(refine X0g h2464 rfl ?_;first|(simp;done)|(simp;omega)|(simp[hc,h2459,h2462];done)|(simp[hc,h2459,h2462];omega))|(refine Xz h2464 (by decide) ?_;first|(simp;done)|(simp;omega)|(simp[hc,h2459,h2462];done)|(simp[hc,h2459,h2462];omega))|exact X0k) (k:=wkT [] (ih (k+1) hx1 _ nbS o h C0))
   clear h;revert h2458
   refine brI (fun h2454=>?_) fun h2454=>?_
   ·
    intro h
    obtain rfl:=oj h
    exact X7 [.el (X3 x),.go false,.go false,.go false,.go false,.go false,.go false,.go false,.go false,.go false,.go false,.go false,.go false,.go false,.go false] (o:=by repeat' first|apply Ya|exact pcM|exact((Xh h2454 rfl))|exact(X0o (Xh h2454 rfl))|exact(Xlt (Xh h2454 rfl))|exact X0k) (k:=wkT [] (X2.glue J))
   refine brI (fun h2455=>?_) fun h2455=>?_
   ·
    intro h
    obtain rfl:=oj h
    exact X7 [.el (X3 x),.go true,.go true,.go true,.go true,.el (X3 x),.go true,.go true,.go true,.go false,.go false,.go false,.go false,.go false,.go false,.go false] (o:=by repeat' first|apply Ya|exact pcM|exact((Xx h2454 h2455))|exact(X0o (Xx h2454 h2455))|exact(Xlt (Xx h2454 h2455))|exact X0k) (k:=wkT [] (X2.glue J))
   refine bI fun v2456 h2457=>?_
   intro h
   obtain rfl:=oj h
   exact X7 [.el (X3 x),.go true,.go true,.go true,.go true,.el (X3 x),.go true,.go true,.go true,.go true,.go true,.go true,.go true,.go true,.el (X3 x),.go true,.go true,.pure _ (aB v2456)] (o:=by repeat' first|apply Ya|exact pcM|exact((Xx h2454 h2455))|exact(X0o (Xx h2454 h2455))|exact(Xf3 (Xx h2454 h2455))|exact X0k) (k:=wkT [] (X2.glue J))
  obtain rfl:=X7w rfl
  refine X2.round ?_
  revert h
  refine bI fun e2570 h2571=>?_
  try have qh2571:=Xv h2571
  refine bI fun X039 h2581=>rnI [.el (aI .i64 (Xn9.length:Int)),Bt,.el (Xe e2570),.stop 12] ?_
  intro h
  refine X2.join (s':=⟨fr [(2,(AV.ptr 0 0 0)),(5,(AV.list true (Xtm.map Xe))),(6,AV.nils),(7,(aI .i64 Xe3)),(8,(aI .i64 Xuu)),(9,(AV.list true (Xn9.map X3))),(10,(aI .i64 (k:Int))),(71,(aB X039))],hp ([(0,Ob [(Xn false X33)] 10)]),2⟩) ?_ (fun J=>X2.cut ?_)
  ·
   revert h
   refine brI (fun h2582=>?_) fun h2582=>?_
   ·
    refine rnI [Bt] ?_
    intro h
    exact wkT [] (ih (k+1) hx1 _ nbS o h C0)
   refine bI fun v2583 h2584=>brI (fun h2585=>?_) fun h2585=>?_
   ·
    refine rnI [Bf,.el (X3 x),.pure _ (AV.tup [(Xd v2583.1),(aB v2583.2)]),Bt] ?_
    intro h
    exact wkT [] (ih (k+1) hx1 _ nbS o h C0)
   refine bI fun u2586 h2587=>bI fun o2657 h2658=>rnI [Bf,.el (X3 x),.pure _ (AV.tup [(Xd v2583.1),(aB v2583.2)]),Bf,.no,.el (aI .i64 (List.length (([]:List X1c)++[v2583.1]):Int)),.wrap] (o:=by repeat' first|apply Ya|exact pcM|(refine X0g h2587 rfl ?_;first|(simp;done)|(simp;omega)|(simp[hc,h2582,h2585];done)|(simp[hc,h2582,h2585];omega))|(refine Xz h2587 (by decide) ?_;first|(simp;done)|(simp;omega)|(simp[hc,h2582,h2585];done)|(simp[hc,h2582,h2585];omega))|exact X0k) ?_
   intro h
   refine wkT [(1,17)] (X2.cut (Xds X33 Xtm Xe3 Xuu Xn9 (k:Int) _ _ _ nbF _ h2658 ?_))
   intro X4y X3m eo2657;subst eo2657
   refine X2.glue ?_
   try dsimp only at h
   rcases X3m with ⟨_|_,X8r⟩
   ·
    exact X7 [] (o:=by repeat' first|apply Ya|exact pcM|(refine X0g h2587 rfl ?_;first|(simp;done)|(simp;omega)|(simp[hc,h2582,h2585];done)|(simp[hc,h2582,h2585];omega))|(refine Xz h2587 (by decide) ?_;first|(simp;done)|(simp;omega)|(simp[hc,h2582,h2585];done)|(simp[hc,h2582,h2585];omega))|exact X0k) (k:=wkT [] (ih (k+1) hx1 _ nbF o h C0))
   obtain rfl:=X8r rfl
   exact X7 [] (o:=by repeat' first|apply Ya|exact pcM|(refine X0g h2587 rfl ?_;first|(simp;done)|(simp;omega)|(simp[hc,h2582,h2585];done)|(simp[hc,h2582,h2585];omega))|(refine Xz h2587 (by decide) ?_;first|(simp;done)|(simp;omega)|(simp[hc,h2582,h2585];done)|(simp[hc,h2582,h2585];omega))|exact X0k) (k:=wkT [] (ih (k+1) hx1 _ nbS o h C0))
  clear h;revert h2581
  refine brI (fun h2577=>?_) fun h2577=>?_
  ·
   intro h
   obtain rfl:=oj h
   exact X7 [.el (X3 x),.go false,.go false,.go false,.go false,.go false,.go false,.go false,.go false,.go false,.go false,.go false,.go false,.go false,.go false] (o:=by repeat' first|apply Ya|exact pcM|exact((Xh h2577 rfl))|exact(X0o (Xh h2577 rfl))|exact(Xlt (Xh h2577 rfl))|exact X0k) (k:=wkT [] (X2.glue J))
  refine brI (fun h2578=>?_) fun h2578=>?_
  ·
   intro h
   obtain rfl:=oj h
   exact X7 [.el (X3 x),.go true,.go true,.go true,.go true,.el (X3 x),.go true,.go true,.go true,.go false,.go false,.go false,.go false,.go false,.go false,.go false] (o:=by repeat' first|apply Ya|exact pcM|exact((Xx h2577 h2578))|exact(X0o (Xx h2577 h2578))|exact(Xlt (Xx h2577 h2578))|exact X0k) (k:=wkT [] (X2.glue J))
  refine bI fun v2579 h2580=>?_
  intro h
  obtain rfl:=oj h
  exact X7 [.el (X3 x),.go true,.go true,.go true,.go true,.el (X3 x),.go true,.go true,.go true,.go true,.go true,.go true,.go true,.go true,.el (X3 x),.go true,.go true,.pure _ (aB v2579)] (o:=by repeat' first|apply Ya|exact pcM|exact((Xx h2577 h2578))|exact(X0o (Xx h2577 h2578))|exact(Xf3 (Xx h2577 h2578))|exact X0k) (k:=wkT [] (X2.glue J))
theorem Xj6 {Q:X01->St->Mu->Prop} {μ:Mu} (Xf:Xw) (Xif:(List Xy)) (hl:Xif.length<=140737488355328):∀ (xs:List Xy) (k:Nat) (hx:Xif.drop k=xs) (Xi:(List X1c)) (Xm:Nb Xi) (o:Xad) (h:X43 Xf Xif xs k Xi=some o)
  (C0:∀ (Xg:(List X1c)) (Xl:Nb Xg),o=Xad.x0 Xg->X2 Tryz.prog 125 0 Q (.exit (.exit 0)) [] ⟨fr [(6,(slE Xl.1 0 (Xg.map Xd)))],hp ([]++opE Xl.1 0 5 (Xg.map Xd)),1⟩ μ),
  X2 Tryz.prog 125 0 Q (.loop (X30 0 (Xj Tryz.f54))) [] ⟨fr [(2,(AV.ptr 0 0 0)),(5,(AV.list true (Xif.map Xe))),(6,(slE Xm.1 1 (Xi.map Xd))),(7,(aI .i64 (k:Int)))],hp ([(0,Ob [(Xn false Xf)] 10)]++opE Xm.1 1 5 (Xi.map Xd)),2⟩ μ:=by
 intro xs
 induction xs with
 |nil =>
  intro k hx Xi Xm o h C0
  have hk:=drop_nil hx
  have hc:decide ((k:Int)<(Xif.length:Int))=false:=Yf (by omega)
  rw[X43] at h
  rcases Xm with ⟨_|_,X02⟩
  ·
   refine X2.round ?_
   revert h
   exact fun e=>X7 [.el (aI .i64 (Xif.length:Int)),Bf] (k:=wkT [(0,1)] (C0 _  nbF (oj e).symm))
  ·
   obtain rfl:=X02 rfl
   refine X2.round ?_
   revert h
   exact fun e=>X7 [.el (aI .i64 (Xif.length:Int)),Bf] (k:=wkT [] (C0 _  nbS (oj e).symm))
 |cons x xs ih =>
  intro k hx Xi Xm o h C0
  obtain⟨hk,hg,hx1⟩:=drop_cons hx
  have hc:decide ((k:Int)<(Xif.length:Int))=true:=Yt (by omega)
  rw[X43] at h
  rcases Xm with ⟨_|_,X02⟩
  ·
   refine X2.round ?_
   revert h
   refine bI fun v2018 h2019=>bI fun u2020 h2021=>?_
   have qh2021:=X09 h2021
   refine bI fun o2659 h2660=>rnI [.el (aI .i64 (Xif.length:Int)),Bt,.el (Xe x),.pure _ (AV.list true (v2018.map X3))] ?_
   intro h
   refine wkT [] (X2.cut (Xdt Xf Xif (k:Int) x.Record.Key v2018 qh2021 v2018 0 (by simp) _ nbF _ h2660 ?_))
   intro X1r X13 eo2659;subst eo2659
   refine X2.glue ?_
   try dsimp only at h
   rcases X13 with ⟨_|_,X2m⟩
   ·
    exact X7 [] (k:=wkT [] (ih (k+1) hx1 _ nbF o h C0))
   obtain rfl:=X2m rfl
   exact X7 [] (k:=wkT [] (ih (k+1) hx1 _ nbS o h C0))
  obtain rfl:=X02 rfl
  refine X2.round ?_
  revert h
  refine bI fun v2661 h2662=>bI fun u2663 h2664=>?_
  have qh2664:=X09 h2664
  refine bI fun o3022 h3023=>rnI [.el (aI .i64 (Xif.length:Int)),Bt,.el (Xe x),.pure _ (AV.list true (v2661.map X3))] ?_
  intro h
  refine wkT [] (X2.cut (Xdt Xf Xif (k:Int) x.Record.Key v2661 qh2664 v2661 0 (by simp) _ nbS _ h3023 ?_))
  intro X1r X13 eo3022;subst eo3022
  refine X2.glue ?_
  try dsimp only at h
  rcases X13 with ⟨_|_,X2m⟩
  ·
   exact X7 [] (k:=wkT [] (ih (k+1) hx1 _ nbF o h C0))
  obtain rfl:=X2m rfl
  exact X7 [] (k:=wkT [] (ih (k+1) hx1 _ nbS o h C0))
instance X02f:PCs Tryz.prog 54 (∀ (a0:Xw) (a1:(List (List Xk))) (r:(List X1c)),Xce a0 a1=some r->X0j Tryz.prog 54 [(Xn false a0),(Lf (List.map (X6j false Xa) a1))] (AV.list true (r.map Xd))):=⟨fun a0 a1 r h=>by
 refine X0j.sym X9 fn54 (nt:=125) rfl rfl ?_ okM
 unfold Xce at h
 revert h
 refine bI fun v1 h2=>bI fun u3 h4=>?_
 have qh4:=X09 h4
 refine bI fun o3024 h3025=>rnI [.pure _ (AV.list true (v1.map Xe))] ?_
 intro h
 refine wkT [] (X2.cut (Xj6 a0 v1 qh4 v1 0 (by simp) _ nbS _ h3025 ?_))
 intro Xg Xl eo3024;subst eo3024
 refine X2.glue ?_
 try dsimp only at h
 rcases Xl with ⟨_|_,X0q⟩
 ·
  revert h
  exact fun e=>oj e▸X7 [] (k:=fi)
 obtain rfl:=X0q rfl
 revert h
 exact fun e=>oj e▸X7 [] (k:=fi)⟩
theorem Xj9 {Q:X01->St->Mu->Prop} {μ:Mu} (X27:(List (List Xk))) (Xf:Xw):∀ (n:Nat) (Xi:(List Xc)) (Xgi:Int) (Xm:Nb Xi) (o:Xah) (h:X2t X27 Xf n Xi Xgi=some o)
  (C0:∀ (Xg:(List Xc)) (Xl:Nb Xg),o=Xah.x0 Xg->X2 Tryz.prog 26 0 Q (.exit (.exit 0)) [] ⟨fr [(5,(slE Xl.1 0 (Xg.map X0)))],hp ([]++opE Xl.1 0 3 (Xg.map X0)),1⟩ μ),
  X2 Tryz.prog 26 0 Q (.loop (X30 0 (Xj Tryz.f55))) [] ⟨fr [(1,(Lf (List.map (X6j false Xa) X27))),(2,(AV.ptr 0 0 0)),(5,(slE Xm.1 1 (Xi.map X0))),(6,(aI .i64 Xgi))],hp ([(0,Ob [(Xn false Xf)] 10)]++opE Xm.1 1 3 (Xi.map X0)),2⟩ μ:=by
 intro n
 induction n with
 |zero=>intro Xi Xgi Xm o h C0;cases h
 |succ n ih =>
  intro Xi Xgi Xm o h C0
  rw[X2t] at h
  rcases Xm with ⟨_|_,X02⟩
  ·
   refine X2.round ?_
   revert h
   refine brI (fun h34=>?_) fun h34=>fun e=>X7 [.el (aI .i64 (X27.length:Int)),Bf] (k:=wkT [(0,1)] (C0 _  nbF (oj e).symm))
   refine bI fun e35 h36=>?_
   try have qh36:=Xv h36
   refine bI fun v37 h38=>brI (fun q=>?_) fun q=>?_
   ·
    intro h
    have h39:v37=[]:=List.isEmpty_iff.1 q
    exact X7 [.el (aI .i64 (X27.length:Int)),Bt,.el (X6j false Xa e35),.pure _ (AV.list true (v37.map X0)),.ne false,.wrap] (k:=wkT [] (ih  _ _ nbF o h C0))
   intro h
   have h39:¬ (v37=[]):=(fun e=>by rw[e] at q;cases q)
   revert h
   refine bI fun u40 h41=>rnI [.el (aI .i64 (X27.length:Int)),Bt,.el (X6j false Xa e35),.pure _ (AV.list true (v37.map X0)),.via (AV.list true (v37.map X0)),.wrap] (o:=by repeat' first|apply Ya|exact pcM|(refine X0g h41 rfl ?_;first|(simp;done)|(simp;omega)|(simp[h34,h39];done)|(simp[h34,h39];omega))|(refine Xz h41 (by decide) ?_;first|(simp;done)|(simp;omega)|(simp[h34,h39];done)|(simp[h34,h39];omega))|exact X0k) ?_
   intro h
   exact wkT [(1,2)] (ih  _ _ nbF o h C0)
  obtain rfl:=X02 rfl
  refine X2.round ?_
  revert h
  refine brI (fun h42=>?_) fun h42=>fun e=>X7 [.el (aI .i64 (X27.length:Int)),Bf] (k:=wkT [] (C0 _  nbS (oj e).symm))
  refine bI fun e43 h44=>?_
  try have qh44:=Xv h44
  refine bI fun v45 h46=>brI (fun q=>?_) fun q=>?_
  ·
   intro h
   have h47:v45=[]:=List.isEmpty_iff.1 q
   exact X7 [.el (aI .i64 (X27.length:Int)),Bt,.el (X6j false Xa e43),.pure _ (AV.list true (v45.map X0)),.ne false,.wrap] (k:=wkT [] (ih  _ _ nbS o h C0))
  intro h
  have h47:¬ (v45=[]):=(fun e=>by rw[e] at q;cases q)
  revert h
  refine bI fun u48 h49=>rnI [.el (aI .i64 (X27.length:Int)),Bt,.el (X6j false Xa e43),.pure _ (AV.list true (v45.map X0)),.via (AV.list true (v45.map X0)),.wrap] (o:=by repeat' first|apply Ya|exact pcM|(refine X0g h49 rfl ?_;first|(simp;done)|(simp;omega)|(simp[h42,h47];done)|(simp[h42,h47];omega))|(refine Xz h49 (by decide) ?_;first|(simp;done)|(simp;omega)|(simp[h42,h47];done)|(simp[h42,h47];omega))|exact X0k) ?_
  intro h
  exact wkT [(1,2)] (ih  _ _ nbF o h C0)
instance X02j:PCs Tryz.prog 55 (∀ (a0:Xw) (a1:(List (List Xk))) (r:(List Xc)),Xch a0 a1=some r->X0j Tryz.prog 55 [(Xn false a0),(Lf (List.map (X6j false Xa) a1))] (AV.list true (r.map X0))):=⟨fun a0 a1 r h=>by
 refine X0j.sym X9 fn55 (nt:=26) rfl rfl ?_ okM
 unfold Xch at h
 revert h
 refine bI fun o50 h51=>rnI [] ?_
 intro h
 refine wkT [] (X2.cut (Xj9 a1 a0 _ _ _ nbS _ h51 ?_))
 intro Xg Xl eo50;subst eo50
 refine X2.glue ?_
 try dsimp only at h
 rcases Xl with ⟨_|_,X0q⟩
 ·
  revert h
  exact fun e=>oj e▸X7 [] (k:=fi)
 obtain rfl:=X0q rfl
 revert h
 exact fun e=>oj e▸X7 [] (k:=fi)⟩
instance X04m:PCs Tryz.prog 20 (∀ (a0:Xw) (a1:(List (List Xk))) (r:(List X1c)×(List Xc)×Int),X6l a0 a1=some r->X0j Tryz.prog 20 [(Xn false a0),(Lf (List.map (X6j false Xa) a1))] (AV.tup [(AV.list true (r.1.map Xd)),(AV.list true (r.2.1.map X0)),(aI .i64 r.2.2)])):=⟨fun a0 a1 r h=>by
 refine X0j.sym X9 fn20 (nt:=20) rfl rfl ?_ okM
 unfold X6l at h
 revert h
 exact bI fun v1 h2=>brI (fun h3=>fun e=>oj e▸X7 [.pure _ (aI .i64 v1),Bt] (k:=fi)) fun h3=>bI fun v4 h5=>bI fun v6 h7=>fun e=>oj e▸X7 [.pure _ (aI .i64 v1),Bf,.pure _ (AV.list true (v4.map Xd)),.pure _ (AV.list true (v6.map X0))] (k:=fi)⟩
theorem Xef {Q:X01->St->Mu->Prop} {μ:Mu} (Xto:(List Xc)) (X4m:Int) (Xhj:(List X1c)) (hl:Xhj.length<=140737488355328):∀ (xs:List X1c) (k:Nat) (hx:Xhj.drop k=xs) (Xf:(List X1c)) (X08:Nb Xf) (o:X6i) (h:X1y Xto X4m Xhj xs k Xf=some o)
  (C0:∀ (Xg:(List X1c)) (Xl:Nb Xg),o=X6i.x0 Xg->X2 Tryz.prog 50 0 Q (.exit (.exit 0)) [] ⟨fr [(8,(AV.list true (Xto.map X0))),(11,(slE Xl.1 0 (Xg.map Xd)))],hp ([]++opE Xl.1 0 5 (Xg.map Xd)),1⟩ μ),
  X2 Tryz.prog 50 0 Q (.loop (X30 0 (Xj Tryz.f21))) [] ⟨fr [(8,(AV.list true (Xto.map X0))),(10,(aI .i64 X4m)),(11,(slE X08.1 0 (Xf.map Xd))),(32,(AV.list true (Xhj.map Xd))),(33,(aI .i64 (Xhj.length:Int))),(34,(aI .i64 (k:Int)))],hp ([]++opE X08.1 0 5 (Xf.map Xd)),1⟩ μ:=by
 intro xs
 induction xs with
 |nil =>
  intro k hx Xf X08 o h C0
  have hk:=drop_nil hx
  have hc:decide ((k:Int)<(Xhj.length:Int))=false:=Yf (by omega)
  rw[X1y] at h
  rcases X08 with ⟨_|_,X1o⟩
  ·
   refine X2.round ?_
   revert h
   exact fun e=>X7 [Bf] (k:=wkT [] (C0 _  nbF (oj e).symm))
  ·
   obtain rfl:=X1o rfl
   refine X2.round ?_
   revert h
   exact fun e=>X7 [Bf] (k:=wkT [] (C0 _  nbS (oj e).symm))
 |cons x xs ih =>
  intro k hx Xf X08 o h C0
  obtain⟨hk,hg,hx1⟩:=drop_cons hx
  have hc:decide ((k:Int)<(Xhj.length:Int))=true:=Yt (by omega)
  rw[X1y] at h
  rcases X08 with ⟨_|_,X1o⟩
  ·
   refine X2.round ?_
   revert h
   refine bI fun Xq2 h49=>rnI [Bt,.el (Xd x)] ?_
   intro h
   refine X2.joinF (fun(q:Nb Xq2)=>⟨fr [(8,(AV.list true (Xto.map X0))),(10,(aI .i64 X4m)),(11,(slE q.1 0 (Xq2.map Xd))),(32,(AV.list true (Xhj.map Xd))),(33,(aI .i64 (Xhj.length:Int))),(34,(aI .i64 (k:Int)))],hp ([]++opE q.1 0 5 (Xq2.map Xd)),1⟩) ?_ (fun J=>X2.cut ?_)
   ·
    rintro Xyq
    rcases Xyq with ⟨_|_,Xzy⟩
    ·
     exact X7 [] (k:=wkT [] (ih (k+1) hx1 _ nbF o h C0))
    obtain rfl:=Xzy rfl
    exact X7 [] (k:=wkT [] (ih (k+1) hx1 _ nbS o h C0))
   clear h;revert h49
   refine brI (fun h46=>?_) fun h46=>?_
   ·
    refine bI fun u47 h48=>?_
    intro h
    obtain rfl:=oj h
    exact X7 [Bt,.no] (o:=by repeat' first|apply Ya|exact pcM|(refine X0g h48 rfl ?_;first|(simp;done)|(simp;omega)|(simp[hc,h46];done)|(simp[hc,h46];omega))|(refine Xz h48 (by decide) ?_;first|(simp;done)|(simp;omega)|(simp[hc,h46];done)|(simp[hc,h46];omega))|exact X0k) (k:=wkT [(0,3)] (X2.glue (J nbF)))
   intro h
   obtain rfl:=oj h
   exact X7 [Bf] (k:=wkT [] (X2.glue (J nbF)))
  obtain rfl:=X1o rfl
  refine X2.round ?_
  revert h
  refine bI fun Xkv h57=>rnI [Bt,.el (Xd x)] ?_
  intro h
  refine X2.joinF (fun(q:Nb Xkv)=>⟨fr [(8,(AV.list true (Xto.map X0))),(10,(aI .i64 X4m)),(11,(slE q.1 0 (Xkv.map Xd))),(32,(AV.list true (Xhj.map Xd))),(33,(aI .i64 (Xhj.length:Int))),(34,(aI .i64 (k:Int)))],hp ([]++opE q.1 0 5 (Xkv.map Xd)),1⟩) ?_ (fun J=>X2.cut ?_)
  ·
   rintro Xki
   rcases Xki with ⟨_|_,Xld⟩
   ·
    exact X7 [] (k:=wkT [] (ih (k+1) hx1 _ nbF o h C0))
   obtain rfl:=Xld rfl
   exact X7 [] (k:=wkT [] (ih (k+1) hx1 _ nbS o h C0))
  clear h;revert h57
  refine brI (fun h54=>?_) fun h54=>?_
  ·
   refine bI fun u55 h56=>?_
   intro h
   obtain rfl:=oj h
   exact X7 [Bt,.no] (o:=by repeat' first|apply Ya|exact pcM|(refine X0g h56 rfl ?_;first|(simp;done)|(simp;omega)|(simp[hc,h54];done)|(simp[hc,h54];omega))|(refine Xz h56 (by decide) ?_;first|(simp;done)|(simp;omega)|(simp[hc,h54];done)|(simp[hc,h54];omega))|exact X0k) (k:=wkT [(0,3)] (X2.glue (J nbF)))
  intro h
  obtain rfl:=oj h
  exact X7 [Bf] (k:=wkT [] (X2.glue (J nbS)))
instance Xu7:PCs Tryz.prog 21 (∀ (a0:Xw) (a1:(List (List Xk))) (r:(List X1c)×(List Xc)×Int),X2z a0 a1=some r->X0j Tryz.prog 21 [(Xn false a0),(Lf (List.map (X6j false Xa) a1))] (AV.tup [(AV.list true (r.1.map Xd)),(AV.list true (r.2.1.map X0)),(aI .i64 r.2.2)])):=⟨fun a0 a1 r h=>by
 refine X0j.sym X9 fn21 (nt:=50) rfl rfl ?_ okM
 unfold X2z at h
 revert h
 refine bI fun v1 h2=>brI (fun h3=>fun e=>oj e▸X7 [.pure _ (AV.tup [(AV.list true (v1.1.map Xd)),(AV.list true (v1.2.1.map X0)),(aI .i64 v1.2.2)]),Bt] (k:=fi)) fun h3=>bI fun v4 h5=>rnI [.pure _ (AV.tup [(AV.list true (v1.1.map Xd)),(AV.list true (v1.2.1.map X0)),(aI .i64 v1.2.2)]),Bf,.pure _ (AV.tup [(aI .i64 v4.1),(aI .i64 v4.2)])] ?_
 refine brI (fun h6=>fun e=>oj e▸X7 [Bt] (k:=fi)) fun h6=>bI fun u7 h8=>?_
 have qh8:=X09 h8
 refine bI fun o58 h59=>rnI [Bf,.el (aI .i64 (v1.1.length:Int))] ?_
 intro h
 refine wkT [] (X2.cut (Xef v1.2.1 v4.1 v1.1 qh8 v1.1 0 (by simp) _ nbS _ h59 ?_))
 intro Xg Xl eo58;subst eo58
 refine X2.glue ?_
 try dsimp only at h
 rcases Xl with ⟨_|_,X0q⟩
 ·
  revert h
  exact fun e=>oj e▸X7 [] (k:=fi)
 obtain rfl:=X0q rfl
 revert h
 exact fun e=>oj e▸X7 [] (k:=fi)⟩
end Go.Av.Tryz