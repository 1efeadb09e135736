/- Printed by decomp.py: that the program computes the functions. -/
import Derived.Test.YtfdfgobnpnoomaaGreatDCert14Z
set_option linter.all false

namespace Go.Av.Tryz
open Go.Proofs Go.D
set_option maxRecDepth 10000
set_option maxHeartbeats 40000000
instance Xjy:PCs Tryz.prog 89 (∀ (a0:Xu) (a1:(List Xv)) (a2:Int) (a3:Xr) (r:X0t×Bool),Xfg a0 a1 a2 a3=some r->X0g Tryz.prog 89 [(Xm false a0),(Lf (a1.map Xg)),(aI .i64 a2),(X3 a3)] (AV.tup [(Xb r.1),(aB r.2)])):=⟨fun a0 a1 a2 a3 r h=>by
 refine X0g.sym Xa fn89 (nt:=94) rfl rfl ?_ okM
 unfold Xfg at h
 revert h
 refine bI fun u1 h2=>?_
 have qh2:=X08 h2
 refine bI fun o100 h101=>rnI [] ?_
 intro h
 refine wkT [] (X2.cut (Xlq a1 a2 a0 a3 (X0t.mk 0 (Xr.mk 0 0) (V2.mk 0 0)) qh2 a1 0 (by simp) _ _ h101 ?_))
 intro X0q eo100;subst eo100
 refine X2.glue ?_
 try dsimp only at h
 revert h
 refine bI fun Xv0 h107=>rnI [.stop 9] ?_
 intro h
 refine X2.join (s':=⟨fr [(4,(AV.ptr 0 0 0)),(8,(AV.ptr 1 0 0)),(10,(AV.ptr 2 0 0)),(13,(AV.ptr 3 0 0)),(75,(aB Xv0))],hp ([(0,Ob [(Xm false a0)] 10),(1,Ob [(Xb (X0t.mk 0 (Xr.mk 0 0) (V2.mk 0 0)))] 5),(2,Ob [(X5p X0q)] 8),(3,Ob [(Xb (X0t.mk a2 a3 (V2.mk 0 0)))] 5)]),4⟩) ?_ (fun J=>X2.cut ?_)
 ·
  revert h
  refine brI (fun h108=>fun e=>oj e▸X9 [Bt] (k:=fi)) fun h108=>bI fun v109 h110=>bI fun Xuz h118=>rnI [Bf,.ix 0,.pure _ (aI .i64 v109),.ix 0] ?_
  intro h
  refine X2.join (s':=⟨fr [(8,(AV.ptr 0 0 0)),(13,(AV.ptr 1 0 0))],hp ([(0,Ob [(Xb (X0t.mk ((X0t.mk 0 (Xr.mk 0 0) (V2.mk 0 0)).Key) ((X0t.mk 0 (Xr.mk 0 0) (V2.mk 0 0)).Span) ((X0t.mk 0 (Xr.mk 0 0) (V2.mk 0 0)).Values)))] 5),(1,Ob [(Xb Xuz)] 5)]),2⟩) ?_ (fun J=>X2.cut ?_)
  ·
   revert h
   exact fun e=>oj e▸X9 [] (k:=fi)
  clear h;revert h118
  refine brI (fun h115=>?_) fun h115=>?_
  ·
   refine bI fun v116 h117=>?_
   intro h
   obtain rfl:=oj h
   exact X9 [Bt,.ix 1,.pure _ (aI .i64 v116),.ix 1] (k:=wkT [(0,1),(1,3)] (X2.glue J))
  intro h
  obtain rfl:=oj h
  exact X9 [Bf] (k:=wkT [(0,1),(1,3)] (X2.glue J))
 clear h;revert h107
 refine brI (fun h105=>?_) fun h105=>?_
 ·
  intro h
  obtain rfl:=oj h
  exact X9 [.ix 0,.go false,.go false,.go false,.go false,.go false,.go false,.go false,.go false] (k:=wkT [(1,2),(2,3),(3,4)] (X2.glue J))
 refine brI (fun h106=>?_) fun h106=>?_
 ·
  intro h
  obtain rfl:=oj h
  exact X9 [.ix 0,.go true,.go true,.go true,.go true,.ix 1,.go true,.go true,.go true,.go true] (k:=wkT [(1,2),(2,3),(3,4)] (X2.glue J))
 intro h
 obtain rfl:=oj h
 exact X9 [.ix 0,.go true,.go true,.go true,.go false,.go false,.go false,.go false,.go true] (k:=wkT [(1,2),(2,3),(3,4)] (X2.glue J))⟩
instance X057:PCs Tryz.prog 127 (∀ (a0:X8) (a1:X8) (r:Bool),Xg9 a0 a1=some r->X0g Tryz.prog 127 [(X5 a0),(X5 a1)] (aB r)):=⟨fun a0 a1 r h=>by
 refine X0g.sym Xa X0e7 (nt:=38) rfl rfl ?_ okM
 unfold Xg9 at h
 revert h
 exact brI (fun h1=>fun e=>oj e▸X9 [Bt] (k:=fi)) fun h1=>brI (fun h2=>fun e=>oj e▸X9 [Bf,Bt] (k:=fi)) fun h2=>fun e=>oj e▸X9 [Bf,Bf] (k:=fi)⟩
instance X055:PCs Tryz.prog 90 (∀ (a0:X0t) (a1:X0t) (r:Bool),Xdd a0 a1=some r->X0g Tryz.prog 90 [(Xb a0),(Xb a1)] (aB r)):=⟨fun a0 a1 r h=>by
 refine X0g.sym Xa fn90 (nt:=16) rfl rfl ?_ okM
 unfold Xdd at h
 revert h
 exact bI fun v1 h2=>fun e=>oj e▸X9 [.pure _ (aB v1)] (k:=fi)⟩
theorem Xeo {Q:X02->St->Mu->Prop} {μ:Mu} (Xev:Xu) (y2_5:(List Xv)) (Xt0:Int) (y2_8:Int) (y2_9:(List Xr)) (Xt6:Int):∀ (n:Nat) (X92:(List X0t)) (Xew:Int) (X9w:Nb X92) (o:Xbd) (h:X5h Xev y2_5 Xt0 y2_8 y2_9 Xt6 n X92 Xew=some o)
  (C0:∀ (X5d:(List X0t)) (X42:Nb X5d),o=Xbd.x0 X5d->X2 Tryz.prog 125 0 Q (.exit (.exit 4)) [] ⟨fr [(2,(AV.ptr 0 0 0)),(5,(AV.list true (y2_5.map Xg))),(6,(slE X42.1 1 (X5d.map Xb))),(7,(aI .i64 Xt0)),(8,(aI .i64 y2_8)),(9,(AV.list true (y2_9.map X3))),(10,(aI .i64 Xt6))],hp ([(0,Ob [(Xm false Xev)] 10)]++opE X42.1 1 5 (X5d.map Xb)),2⟩ μ),
  X2 Tryz.prog 125 0 Q (.loop (X2v 2 (Xh Tryz.f54))) [] ⟨fr [(2,(AV.ptr 0 0 0)),(5,(AV.list true (y2_5.map Xg))),(6,(slE X9w.1 1 (X92.map Xb))),(7,(aI .i64 Xt0)),(8,(aI .i64 y2_8)),(9,(AV.list true (y2_9.map X3))),(10,(aI .i64 Xt6)),(14,(aI .i64 Xew))],hp ([(0,Ob [(Xm false Xev)] 10)]++opE X9w.1 1 5 (X92.map Xb)),2⟩ μ:=by
 intro n
 induction n with
 |zero=>intro X92 Xew X9w o h C0;cases h
 |succ n ih =>
  intro X92 Xew X9w o h C0
  rw[X5h] at h
  rcases X9w with ⟨_|_,Xij⟩
  ·
   refine X2.round ?_
   revert h
   refine bI fun Xmf h2549=>rnI [.stop 17] ?_
   intro h
   refine X2.join (s':=⟨fr [(2,(AV.ptr 0 0 0)),(5,(AV.list true (y2_5.map Xg))),(6,(AV.ref 1 0 (X92.length))),(7,(aI .i64 Xt0)),(8,(aI .i64 y2_8)),(9,(AV.list true (y2_9.map X3))),(10,(aI .i64 Xt6)),(14,(aI .i64 Xew)),(105,(aB Xmf))],hp ([(0,Ob [(Xm false Xev)] 10),(1,Ob (X92.map Xb) 5)]),2⟩) ?_ (fun J=>X2.cut ?_)
   ·
    revert h
    refine brI (fun h2550=>?_) fun h2550=>fun e=>X9 [Bf] (k:=wkT [] (C0 _  nbF (oj e).symm))
    refine bI fun e2551 h2552=>?_
    try have qh2552:=Xn h2552
    refine bI fun e2553 h2554=>?_
    try have qh2554:=Xn h2554
    refine bI fun e2555 h2556=>?_
    try have qh2556:=Xn h2556
    refine rnI [Bt,.wrap,.wrap,.el (Xb e2551),.ld (Xb e2551),.el (Xb e2553),.ld (Xb e2553),.el (Xb e2553),.ld (Xb e2553),.el (Xb e2555),.ld (Xb e2555),.wrap] (o:=by repeat' first|apply Ya|exact pcM|exact(List.getElem?_set_self (by have hq:=X2g h2554;simp;omega)).trans rfl|(have hq:=Xla (f:=Xb) h2556;rw[List.map_set] at hq;simp only[Nat.zero_add];exact hq)|exact(List.getElem?_set_self (by have hq:=X2g h2556;simp;omega)).trans rfl|exact X0k) ?_
    intro h
    exact wkT [] (ih  _ _ nbF o h C0)
   clear h;revert h2549
   refine brI (fun h2542=>?_) fun h2542=>?_
   ·
    refine bI fun e2543 h2544=>?_
    try have qh2544:=Xn h2544
    refine bI fun e2545 h2546=>?_
    try have qh2546:=Xn h2546
    refine bI fun v2547 h2548=>?_
    intro h
    obtain rfl:=oj h
    exact X9 [.go true,.go true,.go true,.el (Xb e2543),.go true,.ld (Xb e2543),.go true,.go true,.go true,.wrap,.go true,.el (Xb e2545),.go true,.ld (Xb e2545),.go true,.pure _ (aB v2547)] (k:=wkT [] (X2.glue J))
   intro h
   obtain rfl:=oj h
   exact X9 [.go false,.go false,.go false,.go false,.go false,.go false,.go false,.go false,.go false,.go false,.go false] (k:=wkT [] (X2.glue J))
  obtain rfl:=Xij rfl
  refine X2.round ?_
  revert h
  refine bI fun X01s h2564=>rnI [.stop 17] ?_
  intro h
  refine X2.join (s':=⟨fr [(2,(AV.ptr 0 0 0)),(5,(AV.list true (y2_5.map Xg))),(6,AV.nils),(7,(aI .i64 Xt0)),(8,(aI .i64 y2_8)),(9,(AV.list true (y2_9.map X3))),(10,(aI .i64 Xt6)),(14,(aI .i64 Xew)),(105,(aB X01s))],hp ([(0,Ob [(Xm false Xev)] 10)]),2⟩) ?_ (fun J=>X2.cut ?_)
  ·
   revert h
   refine brI (fun h2565=>?_) fun h2565=>fun e=>X9 [Bf] (k:=wkT [] (C0 _  nbS (oj e).symm))
   refine bI fun e2566 h2567=>?_
   try have qh2567:=Xn h2567
   intro h
   exact absurd (h2567) (by simp[X1p])
  clear h;revert h2564
  refine brI (fun h2561=>?_) fun h2561=>?_
  ·
   refine bI fun e2562 h2563=>?_
   try have qh2563:=Xn h2563
   intro h
   exact absurd (h2563) (by simp[X1p])
  intro h
  obtain rfl:=oj h
  exact X9 [.go false,.go false,.go false,.go false,.go false,.go false,.go false,.go false,.go false,.go false,.go false] (k:=wkT [] (X2.glue J))
theorem Xep {Q:X02->St->Mu->Prop} {μ:Mu} (X1m:Xu) (Xiv:(List Xv)) (Xf4:Int) (Xwy:Int) (Xot:(List Xr)) (hl:Xot.length<=140737488355328):∀ (xs:List Xr) (k:Nat) (hx:Xot.drop k=xs) (X3p:(List X0t)) (X4d:Nb X3p) (o:Xbe) (h:X35 X1m Xiv Xf4 Xwy Xot xs k X3p=some o)
  (C0:∀ (X1z:(List X0t)) (X17:Nb X1z),o=Xbe.x0 X1z->X2 Tryz.prog 125 0 Q (.exit (.exit 2)) [] ⟨fr [(2,(AV.ptr 0 0 0)),(5,(AV.list true (Xiv.map Xg))),(6,(slE X17.1 1 (X1z.map Xb))),(7,(aI .i64 Xf4))],hp ([(0,Ob [(Xm false X1m)] 10)]++opE X17.1 1 5 (X1z.map Xb)),2⟩ μ),
  X2 Tryz.prog 125 0 Q (.loop (X2v 1 (Xh Tryz.f54))) [] ⟨fr [(2,(AV.ptr 0 0 0)),(5,(AV.list true (Xiv.map Xg))),(6,(slE X4d.1 1 (X3p.map Xb))),(7,(aI .i64 Xf4)),(8,(aI .i64 Xwy)),(9,(AV.list true (Xot.map X3))),(10,(aI .i64 (k:Int)))],hp ([(0,Ob [(Xm false X1m)] 10)]++opE X4d.1 1 5 (X3p.map Xb)),2⟩ μ:=by
 intro xs
 induction xs with
 |nil =>
  intro k hx X3p X4d o h C0
  have hk:=drop_nil hx
  have hc:decide ((k:Int)<(Xot.length:Int))=false:=Yf (by omega)
  rw[X35] at h
  rcases X4d with ⟨_|_,X8m⟩
  ·
   refine X2.round ?_
   revert h
   exact fun e=>X9 [.el (aI .i64 (Xot.length:Int)),Bf] (k:=wkT [] (C0 _  nbF (oj e).symm))
  ·
   obtain rfl:=X8m rfl
   refine X2.round ?_
   revert h
   exact fun e=>X9 [.el (aI .i64 (Xot.length:Int)),Bf] (k:=wkT [] (C0 _  nbS (oj e).symm))
 |cons x xs ih =>
  intro k hx X3p X4d o h C0
  obtain⟨hk,hg,hx1⟩:=drop_cons hx
  have hc:decide ((k:Int)<(Xot.length:Int))=true:=Yt (by omega)
  rw[X35] at h
  rcases X4d with ⟨_|_,X8m⟩
  ·
   refine X2.round ?_
   revert h
   refine bI fun e2447 h2448=>?_
   try have qh2448:=Xn h2448
   refine bI fun Xpq h2458=>rnI [.el (aI .i64 (Xot.length:Int)),Bt,.el (Xg e2447),.stop 12] ?_
   intro h
   refine X2.join (s':=⟨fr [(2,(AV.ptr 0 0 0)),(5,(AV.list true (Xiv.map Xg))),(6,(AV.ref 1 0 (X3p.length))),(7,(aI .i64 Xf4)),(8,(aI .i64 Xwy)),(9,(AV.list true (Xot.map X3))),(10,(aI .i64 (k:Int))),(71,(aB Xpq))],hp ([(0,Ob [(Xm false X1m)] 10),(1,Ob (X3p.map Xb) 5)]),2⟩) ?_ (fun J=>X2.cut ?_)
   ·
    revert h
    refine brI (fun h2459=>?_) fun h2459=>?_
    ·
     refine rnI [Bt] ?_
     intro h
     exact wkT [] (ih (k+1) hx1 _ nbF o h C0)
    refine bI fun v2460 h2461=>brI (fun h2462=>?_) fun h2462=>?_
    ·
     refine rnI [Bf,.el (X3 x),.pure _ (AV.tup [(Xb v2460.1),(aB v2460.2)]),Bt] ?_
     intro h
     exact wkT [] (ih (k+1) hx1 _ nbF o h C0)
    refine bI fun u2463 h2464=>bI fun o2568 h2569=>rnI [Bf,.el (X3 x),.pure _ (AV.tup [(Xb v2460.1),(aB v2460.2)]),Bf,.no,.el (aI .i64 (List.length (X3p++[v2460.1]):Int)),.wrap] (o:=by repeat' first|apply Ya|exact pcM|(refine X0a h2464 rfl ?_;first|(simp;done)|(simp;omega)|(simp[hc,h2459,h2462];done)|(simp[hc,h2459,h2462];omega))|(refine Xs h2464 (by decide) ?_;first|(simp;done)|(simp;omega)|(simp[hc,h2459,h2462];done)|(simp[hc,h2459,h2462];omega))|exact X0k) ?_
    intro h
    refine wkT [(1,17)] (X2.cut (Xeo X1m Xiv Xf4 Xwy Xot (k:Int) _ _ _ nbF _ h2569 ?_))
    intro X5d X42 eo2568;subst eo2568
    refine X2.glue ?_
    try dsimp only at h
    rcases X42 with ⟨_|_,X9m⟩
    ·
     exact X9 [] (o:=by repeat' first|apply Ya|exact pcM|(refine X0a h2464 rfl ?_;first|(simp;done)|(simp;omega)|(simp[hc,h2459,h2462];done)|(simp[hc,h2459,h2462];omega))|(refine Xs h2464 (by decide) ?_;first|(simp;done)|(simp;omega)|(simp[hc,h2459,h2462];done)|(simp[hc,h2459,h2462];omega))|exact X0k) (k:=wkT [] (ih (k+1) hx1 _ nbF o h C0))
    obtain rfl:=X9m rfl
    exact X9 [] (o:=by repeat' first|apply Ya|exact pcM|(refine X0a h2464 rfl ?_;first|(simp;done)|(simp;omega)|(simp[hc,h2459,h2462];done)|(simp[hc,h2459,h2462];omega))|(refine Xs h2464 (by decide) ?_;first|(simp;done)|(simp;omega)|(simp[hc,h2459,h2462];done)|(simp[hc,h2459,h2462];omega))|exact X0k) (k:=wkT [] (ih (k+1) hx1 _ nbS o h C0))
   clear h;revert h2458
   refine brI (fun h2454=>?_) fun h2454=>?_
   ·
    intro h
    obtain rfl:=oj h
    exact X9 [.el (X3 x),.go false,.go false,.go false,.go false,.go false,.go false,.go false,.go false,.go false,.go false,.go false,.go false,.go false,.go false] (o:=by repeat' first|apply Ya|exact pcM|exact((Xas h2454 rfl))|exact(X6x (Xas h2454 rfl))|exact(absN (Xas h2454 rfl))|exact X0k) (k:=wkT [] (X2.glue J))
   refine brI (fun h2455=>?_) fun h2455=>?_
   ·
    intro h
    obtain rfl:=oj h
    exact X9 [.el (X3 x),.go true,.go true,.go true,.go true,.el (X3 x),.go true,.go true,.go true,.go false,.go false,.go false,.go false,.go false,.go false,.go false] (o:=by repeat' first|apply Ya|exact pcM|exact((X6y h2454 h2455))|exact(X6x (X6y h2454 h2455))|exact(absN (X6y h2454 h2455))|exact X0k) (k:=wkT [] (X2.glue J))
   refine bI fun v2456 h2457=>?_
   intro h
   obtain rfl:=oj h
   exact X9 [.el (X3 x),.go true,.go true,.go true,.go true,.el (X3 x),.go true,.go true,.go true,.go true,.go true,.go true,.go true,.go true,.el (X3 x),.go true,.go true,.pure _ (aB v2456)] (o:=by repeat' first|apply Ya|exact pcM|exact((X6y h2454 h2455))|exact(X6x (X6y h2454 h2455))|exact(absT (X6y h2454 h2455))|exact X0k) (k:=wkT [] (X2.glue J))
  obtain rfl:=X8m rfl
  refine X2.round ?_
  revert h
  refine bI fun e2570 h2571=>?_
  try have qh2571:=Xn h2571
  refine bI fun X05x h2581=>rnI [.el (aI .i64 (Xot.length:Int)),Bt,.el (Xg e2570),.stop 12] ?_
  intro h
  refine X2.join (s':=⟨fr [(2,(AV.ptr 0 0 0)),(5,(AV.list true (Xiv.map Xg))),(6,AV.nils),(7,(aI .i64 Xf4)),(8,(aI .i64 Xwy)),(9,(AV.list true (Xot.map X3))),(10,(aI .i64 (k:Int))),(71,(aB X05x))],hp ([(0,Ob [(Xm false X1m)] 10)]),2⟩) ?_ (fun J=>X2.cut ?_)
  ·
   revert h
   refine brI (fun h2582=>?_) fun h2582=>?_
   ·
    refine rnI [Bt] ?_
    intro h
    exact wkT [] (ih (k+1) hx1 _ nbS o h C0)
   refine bI fun v2583 h2584=>brI (fun h2585=>?_) fun h2585=>?_
   ·
    refine rnI [Bf,.el (X3 x),.pure _ (AV.tup [(Xb v2583.1),(aB v2583.2)]),Bt] ?_
    intro h
    exact wkT [] (ih (k+1) hx1 _ nbS o h C0)
   refine bI fun u2586 h2587=>bI fun o2657 h2658=>rnI [Bf,.el (X3 x),.pure _ (AV.tup [(Xb v2583.1),(aB v2583.2)]),Bf,.no,.el (aI .i64 (List.length (([]:List X0t)++[v2583.1]):Int)),.wrap] (o:=by repeat' first|apply Ya|exact pcM|(refine X0a h2587 rfl ?_;first|(simp;done)|(simp;omega)|(simp[hc,h2582,h2585];done)|(simp[hc,h2582,h2585];omega))|(refine Xs h2587 (by decide) ?_;first|(simp;done)|(simp;omega)|(simp[hc,h2582,h2585];done)|(simp[hc,h2582,h2585];omega))|exact X0k) ?_
   intro h
   refine wkT [(1,17)] (X2.cut (Xeo X1m Xiv Xf4 Xwy Xot (k:Int) _ _ _ nbF _ h2658 ?_))
   intro X5d X42 eo2657;subst eo2657
   refine X2.glue ?_
   try dsimp only at h
   rcases X42 with ⟨_|_,X9m⟩
   ·
    exact X9 [] (o:=by repeat' first|apply Ya|exact pcM|(refine X0a h2587 rfl ?_;first|(simp;done)|(simp;omega)|(simp[hc,h2582,h2585];done)|(simp[hc,h2582,h2585];omega))|(refine Xs h2587 (by decide) ?_;first|(simp;done)|(simp;omega)|(simp[hc,h2582,h2585];done)|(simp[hc,h2582,h2585];omega))|exact X0k) (k:=wkT [] (ih (k+1) hx1 _ nbF o h C0))
   obtain rfl:=X9m rfl
   exact X9 [] (o:=by repeat' first|apply Ya|exact pcM|(refine X0a h2587 rfl ?_;first|(simp;done)|(simp;omega)|(simp[hc,h2582,h2585];done)|(simp[hc,h2582,h2585];omega))|(refine Xs h2587 (by decide) ?_;first|(simp;done)|(simp;omega)|(simp[hc,h2582,h2585];done)|(simp[hc,h2582,h2585];omega))|exact X0k) (k:=wkT [] (ih (k+1) hx1 _ nbS o h C0))
  clear h;revert h2581
  refine brI (fun h2577=>?_) fun h2577=>?_
  ·
   intro h
   obtain rfl:=oj h
   exact X9 [.el (X3 x),.go false,.go false,.go false,.go false,.go false,.go false,.go false,.go false,.go false,.go false,.go false,.go false,.go false,.go false] (o:=by repeat' first|apply Ya|exact pcM|exact((Xas h2577 rfl))|exact(X6x (Xas h2577 rfl))|exact(absN (Xas h2577 rfl))|exact X0k) (k:=wkT [] (X2.glue J))
  refine brI (fun h2578=>?_) fun h2578=>?_
  ·
   intro h
   obtain rfl:=oj h
   exact X9 [.el (X3 x),.go true,.go true,.go true,.go true,.el (X3 x),.go true,.go true,.go true,.go false,.go false,.go false,.go false,.go false,.go false,.go false] (o:=by repeat' first|apply Ya|exact pcM|exact((X6y h2577 h2578))|exact(X6x (X6y h2577 h2578))|exact(absN (X6y h2577 h2578))|exact X0k) (k:=wkT [] (X2.glue J))
  refine bI fun v2579 h2580=>?_
  intro h
  obtain rfl:=oj h
  exact X9 [.el (X3 x),.go true,.go true,.go true,.go true,.el (X3 x),.go true,.go true,.go true,.go true,.go true,.go true,.go true,.go true,.el (X3 x),.go true,.go true,.pure _ (aB v2579)] (o:=by repeat' first|apply Ya|exact pcM|exact((X6y h2577 h2578))|exact(X6x (X6y h2577 h2578))|exact(absT (X6y h2577 h2578))|exact X0k) (k:=wkT [] (X2.glue J))
theorem Xki {Q:X02->St->Mu->Prop} {μ:Mu} (Xf:Xu) (Xnb:(List Xv)) (hl:Xnb.length<=140737488355328):∀ (xs:List Xv) (k:Nat) (hx:Xnb.drop k=xs) (Xi:(List X0t)) (Xl:Nb Xi) (o:Xbf) (h:X4k Xf Xnb xs k Xi=some o)
  (C0:∀ (Xe:(List X0t)) (Xj:Nb Xe),o=Xbf.x0 Xe->X2 Tryz.prog 125 0 Q (.exit (.exit 0)) [] ⟨fr [(6,(slE Xj.1 0 (Xe.map Xb)))],hp ([]++opE Xj.1 0 5 (Xe.map Xb)),1⟩ μ),
  X2 Tryz.prog 125 0 Q (.loop (X2v 0 (Xh Tryz.f54))) [] ⟨fr [(2,(AV.ptr 0 0 0)),(5,(AV.list true (Xnb.map Xg))),(6,(slE Xl.1 1 (Xi.map Xb))),(7,(aI .i64 (k:Int)))],hp ([(0,Ob [(Xm false Xf)] 10)]++opE Xl.1 1 5 (Xi.map Xb)),2⟩ μ:=by
 intro xs
 induction xs with
 |nil =>
  intro k hx Xi Xl o h C0
  have hk:=drop_nil hx
  have hc:decide ((k:Int)<(Xnb.length:Int))=false:=Yf (by omega)
  rw[X4k] at h
  rcases Xl with ⟨_|_,X04⟩
  ·
   refine X2.round ?_
   revert h
   exact fun e=>X9 [.el (aI .i64 (Xnb.length:Int)),Bf] (k:=wkT [(0,1)] (C0 _  nbF (oj e).symm))
  ·
   obtain rfl:=X04 rfl
   refine X2.round ?_
   revert h
   exact fun e=>X9 [.el (aI .i64 (Xnb.length:Int)),Bf] (k:=wkT [] (C0 _  nbS (oj e).symm))
 |cons x xs ih =>
  intro k hx Xi Xl o h C0
  obtain⟨hk,hg,hx1⟩:=drop_cons hx
  have hc:decide ((k:Int)<(Xnb.length:Int))=true:=Yt (by omega)
  rw[X4k] at h
  rcases Xl with ⟨_|_,X04⟩
  ·
   refine X2.round ?_
   revert h
   refine bI fun v2018 h2019=>bI fun u2020 h2021=>?_
   have qh2021:=X08 h2021
   refine bI fun o2659 h2660=>rnI [.el (aI .i64 (Xnb.length:Int)),Bt,.el (Xg x),.pure _ (AV.list true (v2018.map X3))] ?_
   intro h
   refine wkT [] (X2.cut (Xep Xf Xnb (k:Int) x.Record.Key v2018 qh2021 v2018 0 (by simp) _ nbF _ h2660 ?_))
   intro X1z X17 eo2659;subst eo2659
   refine X2.glue ?_
   try dsimp only at h
   rcases X17 with ⟨_|_,X2z⟩
   ·
    exact X9 [] (k:=wkT [] (ih (k+1) hx1 _ nbF o h C0))
   obtain rfl:=X2z rfl
   exact X9 [] (k:=wkT [] (ih (k+1) hx1 _ nbS o h C0))
  obtain rfl:=X04 rfl
  refine X2.round ?_
  revert h
  refine bI fun v2661 h2662=>bI fun u2663 h2664=>?_
  have qh2664:=X08 h2664
  refine bI fun o3022 h3023=>rnI [.el (aI .i64 (Xnb.length:Int)),Bt,.el (Xg x),.pure _ (AV.list true (v2661.map X3))] ?_
  intro h
  refine wkT [] (X2.cut (Xep Xf Xnb (k:Int) x.Record.Key v2661 qh2664 v2661 0 (by simp) _ nbS _ h3023 ?_))
  intro X1z X17 eo3022;subst eo3022
  refine X2.glue ?_
  try dsimp only at h
  rcases X17 with ⟨_|_,X2z⟩
  ·
   exact X9 [] (k:=wkT [] (ih (k+1) hx1 _ nbF o h C0))
  obtain rfl:=X2z rfl
  exact X9 [] (k:=wkT [] (ih (k+1) hx1 _ nbS o h C0))
instance X053:PCs Tryz.prog 54 (∀ (a0:Xu) (a1:(List (List Xk))) (r:(List X0t)),Xdb a0 a1=some r->X0g Tryz.prog 54 [(Xm false a0),(Lf (List.map (X56 false Xd) a1))] (AV.list true (r.map Xb))):=⟨fun a0 a1 r h=>by
 refine X0g.sym Xa fn54 (nt:=125) rfl rfl ?_ okM
 unfold Xdb at h
 revert h
 refine bI fun v1 h2=>bI fun u3 h4=>?_
 have qh4:=X08 h4
 refine bI fun o3024 h3025=>rnI [.pure _ (AV.list true (v1.map Xg))] ?_
 intro h
 refine wkT [] (X2.cut (Xki a0 v1 qh4 v1 0 (by simp) _ nbS _ h3025 ?_))
 intro Xe Xj eo3024;subst eo3024
 refine X2.glue ?_
 try dsimp only at h
 rcases Xj with ⟨_|_,X0n⟩
 ·
  revert h
  exact fun e=>oj e▸X9 [] (k:=fi)
 obtain rfl:=X0n rfl
 revert h
 exact fun e=>oj e▸X9 [] (k:=fi)⟩
theorem Xkk {Q:X02->St->Mu->Prop} {μ:Mu} (X1s:(List (List Xk))) (Xf:Xu):∀ (n:Nat) (Xi:(List X7)) (Xht:Int) (Xl:Nb Xi) (o:Xbi) (h:X37 X1s Xf n Xi Xht=some o)
  (C0:∀ (Xe:(List X7)) (Xj:Nb Xe),o=Xbi.x0 Xe->X2 Tryz.prog 26 0 Q (.exit (.exit 0)) [] ⟨fr [(5,(slE Xj.1 0 (Xe.map X0)))],hp ([]++opE Xj.1 0 3 (Xe.map X0)),1⟩ μ),
  X2 Tryz.prog 26 0 Q (.loop (X2v 0 (Xh Tryz.f55))) [] ⟨fr [(1,(Lf (List.map (X56 false Xd) X1s))),(2,(AV.ptr 0 0 0)),(5,(slE Xl.1 1 (Xi.map X0))),(6,(aI .i64 Xht))],hp ([(0,Ob [(Xm false Xf)] 10)]++opE Xl.1 1 3 (Xi.map X0)),2⟩ μ:=by
 intro n
 induction n with
 |zero=>intro Xi Xht Xl o h C0;cases h
 |succ n ih =>
  intro Xi Xht Xl o h C0
  rw[X37] at h
  rcases Xl with ⟨_|_,X04⟩
  ·
   refine X2.round ?_
   revert h
   refine brI (fun h34=>?_) fun h34=>fun e=>X9 [.el (aI .i64 (X1s.length:Int)),Bf] (k:=wkT [(0,1)] (C0 _  nbF (oj e).symm))
   refine bI fun e35 h36=>?_
   try have qh36:=Xn h36
   refine bI fun v37 h38=>brI (fun q=>?_) fun q=>?_
   ·
    intro h
    have h39:v37=[]:=List.isEmpty_iff.1 q
    exact X9 [.el (aI .i64 (X1s.length:Int)),Bt,.el (X56 false Xd e35),.pure _ (AV.list true (v37.map X0)),.ne false,.wrap] (k:=wkT [] (ih  _ _ nbF o h C0))
   intro h
   have h39:¬ (v37=[]):=(fun e=>by rw[e] at q;cases q)
   revert h
   refine bI fun u40 h41=>rnI [.el (aI .i64 (X1s.length:Int)),Bt,.el (X56 false Xd e35),.pure _ (AV.list true (v37.map X0)),.via (AV.list true (v37.map X0)),.wrap] (o:=by repeat' first|apply Ya|exact pcM|(refine X0a h41 rfl ?_;first|(simp;done)|(simp;omega)|(simp[h34,h39];done)|(simp[h34,h39];omega))|(refine Xs h41 (by decide) ?_;first|(simp;done)|(simp;omega)|(simp[h34,h39];done)|(simp[h34,h39];omega))|exact X0k) ?_
   intro h
   exact wkT [(1,2)] (ih  _ _ nbF o h C0)
  obtain rfl:=X04 rfl
  refine X2.round ?_
  revert h
  refine brI (fun h42=>?_) fun h42=>fun e=>X9 [.el (aI .i64 (X1s.length:Int)),Bf] (k:=wkT [] (C0 _  nbS (oj e).symm))
  refine bI fun e43 h44=>?_
  try have qh44:=Xn h44
  refine bI fun v45 h46=>brI (fun q=>?_) fun q=>?_
  ·
   intro h
   have h47:v45=[]:=List.isEmpty_iff.1 q
   exact X9 [.el (aI .i64 (X1s.length:Int)),Bt,.el (X56 false Xd e43),.pure _ (AV.list true (v45.map X0)),.ne false,.wrap] (k:=wkT [] (ih  _ _ nbS o h C0))
  intro h
  have h47:¬ (v45=[]):=(fun e=>by rw[e] at q;cases q)
  revert h
  refine bI fun u48 h49=>rnI [.el (aI .i64 (X1s.length:Int)),Bt,.el (X56 false Xd e43),.pure _ (AV.list true (v45.map X0)),.via (AV.list true (v45.map X0)),.wrap] (o:=by repeat' first|apply Ya|exact pcM|(refine X0a h49 rfl ?_;first|(simp;done)|(simp;omega)|(simp[h42,h47];done)|(simp[h42,h47];omega))|(refine Xs h49 (by decide) ?_;first|(simp;done)|(simp;omega)|(simp[h42,h47];done)|(simp[h42,h47];omega))|exact X0k) ?_
  intro h
  exact wkT [(1,2)] (ih  _ _ nbF o h C0)
instance X056:PCs Tryz.prog 55 (∀ (a0:Xu) (a1:(List (List Xk))) (r:(List X7)),Xde a0 a1=some r->X0g Tryz.prog 55 [(Xm false a0),(Lf (List.map (X56 false Xd) a1))] (AV.list true (r.map X0))):=⟨fun a0 a1 r h=>by
 refine X0g.sym Xa fn55 (nt:=26) rfl rfl ?_ okM
 unfold Xde at h
 revert h
 refine bI fun o50 h51=>rnI [] ?_
 intro h
 refine wkT [] (X2.cut (Xkk a1 a0 _ _ _ nbS _ h51 ?_))
 intro Xe Xj eo50;subst eo50
 refine X2.glue ?_
 try dsimp only at h
 rcases Xj with ⟨_|_,X0n⟩
 ·
  revert h
  exact fun e=>oj e▸X9 [] (k:=fi)
 obtain rfl:=X0n rfl
 revert h
 exact fun e=>oj e▸X9 [] (k:=fi)⟩
instance X077:PCs Tryz.prog 20 (∀ (a0:Xu) (a1:(List (List Xk))) (r:(List X0t)×(List X7)×Int),X72 a0 a1=some r->X0g Tryz.prog 20 [(Xm false a0),(Lf (List.map (X56 false Xd) a1))] (AV.tup [(AV.list true (r.1.map Xb)),(AV.list true (r.2.1.map X0)),(aI .i64 r.2.2)])):=⟨fun a0 a1 r h=>by
 refine X0g.sym Xa fn20 (nt:=20) rfl rfl ?_ okM
 unfold X72 at h
 revert h
 exact bI fun v1 h2=>brI (fun h3=>fun e=>oj e▸X9 [.pure _ (aI .i64 v1),Bt] (k:=fi)) fun h3=>bI fun v4 h5=>bI fun v6 h7=>fun e=>oj e▸X9 [.pure _ (aI .i64 v1),Bf,.pure _ (AV.list true (v4.map Xb)),.pure _ (AV.list true (v6.map X0))] (k:=fi)⟩
instance X00c:PCs Tryz.prog 67 (∀ (a0:X7) (r:(List Int)),Xcc a0=some r->X0g Tryz.prog 67 [(X0 a0)] (AV.list true (List.map (aI .i64) r))):=⟨fun a0 r h=>by
 refine X0g.sym Xa fn67 (nt:=10) rfl rfl ?_ okM
 unfold Xcc at h
 revert h
 exact fun e=>oj e▸X9 [] (k:=fi)⟩
theorem Xj4 {Q:X02->St->Mu->Prop} {μ:Mu} (X00:(List Int)) (X1s:(List Int)) (hl:X00.length<=140737488355328):∀ (xs:List Int) (k:Nat) (hx:X00.drop k=xs) (o:X79) (h:X4v X00 X1s xs k  = some o)
  (C0:o=X79.x0->X2 Tryz.prog 30 0 Q (.exit (.exit 0)) [] ⟨fr [],hp ([]),0⟩ μ)
  (C1:∀ (X6z:Bool),o=X79.x1 X6z->X2 Tryz.prog 30 0 Q (.exit .ret) [] ⟨fr [(4,(aB X6z))],hp ([]),0⟩ μ),
  X2 Tryz.prog 30 0 Q (.loop (X2v 0 (Xh Tryz.f103))) [] ⟨fr [(0,(Lf (List.map (aI .i64) X00))),(1,(Lf (List.map (aI .i64) X1s))),(5,(aI .i64 (k:Int)))],hp ([]),0⟩ μ:=by
 intro xs
 induction xs with
 |nil =>
  intro k hx  o h C0 C1
  have hk:=drop_nil hx
  have hc:decide ((k:Int)<(X00.length:Int))=false:=Yf (by omega)
  rw[X4v] at h
  refine X2.round ?_
  revert h
  exact fun e=>X9 [.el (aI .i64 (X00.length:Int)),Bf] (k:=wkT [] (C0  (oj e).symm))
 |cons x xs ih =>
  intro k hx  o h C0 C1
  obtain⟨hk,hg,hx1⟩:=drop_cons hx
  have hc:decide ((k:Int)<(X00.length:Int))=true:=Yt (by omega)
  rw[X4v] at h
  refine X2.round ?_
  revert h
  refine bI fun e10 h11=>?_
  try have qh11:=Xn h11
  refine brI (fun h12=>fun e=>X9 [.el (aI .i64 (X00.length:Int)),Bt,.el (aI .i64 x),.el (aI .i64 e10),Bt,.el (aI .i64 x),.el (aI .i64 e10)] (k:=wkT [] (C1 _  (oj e).symm))) fun h12=>rnI [.el (aI .i64 (X00.length:Int)),Bt,.el (aI .i64 x),.el (aI .i64 e10),Bf] ?_
  intro h
  exact wkT [] (ih (k+1) hx1  o h C0 C1)
instance X03r:PCs Tryz.prog 103 (∀ (a0:(List Int)) (a1:(List Int)) (r:Bool),Xb8 a0 a1=some r->X0g Tryz.prog 103 [(Lf (List.map (aI .i64) a0)),(Lf (List.map (aI .i64) a1))] (aB r)):=⟨fun a0 a1 r h=>by
 refine X0g.sym Xa X0ep (nt:=30) rfl rfl ?_ okM
 unfold Xb8 at h
 revert h
 refine bI fun u1 h2=>?_
 have qh2:=X08 h2
 refine bI fun o13 h14=>rnI [] ?_
 intro h
 refine wkT [] (X2.cut (Xj4 a0 a1 qh2 a0 0 (by simp) _ h14 ?_ ?_))
 ·
  intro eo13;subst eo13
  refine X2.glue ?_
  try dsimp only at h
  revert h
  exact fun e=>oj e▸X9 [] (k:=fi)
 intro X6z eo13;subst eo13
 refine X2.glue ?_
 try dsimp only at h
 revert h
 exact fun e=>oj e▸X9 [] (k:=fi)⟩
end Go.Av.Tryz