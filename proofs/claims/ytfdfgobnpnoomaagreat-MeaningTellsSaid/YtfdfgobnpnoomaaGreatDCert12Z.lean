/- Printed by decomp.py: that the program computes the functions. -/
import Derived.Test.YtfdfgobnpnoomaaGreatDCert11Z
set_option linter.all false

namespace Go.Av.Tryz
open Go.Proofs Go.D
set_option maxRecDepth 10000
set_option maxHeartbeats 40000000
theorem X4w {Q:X01->St->Mu->Prop} {μ:Mu} (Xf:X0h) (X2i:(List Xr)) (Xjr:Nb X2i) (hl:X2i.length<=140737488355328):∀ (xs:List Xr) (k:Nat) (hx:X2i.drop k=xs) (X0m:Xr) (X15:(List Xr)) (Xhg:(List Xr)) (X68:Nb X15) (X6t:Nb Xhg) (o:X35) (h:X0i Xf X2i xs k X0m X15 Xhg=some o)
  (C0:∀ (Xbo:Xr) (X0y:(List Xr)) (X1s:(List Xr)) (X1h:Nb X0y) (X24:Nb X1s),o=X35.x0 Xbo X0y X1s->X2 Tryz.prog 68 2 Q (.exit (.exit 0)) [] ⟨fr [(3,(AV.ptr 2 0 0)),(5,(slE X1h.1 3 (X0y.map X3))),(6,(slE X24.1 4 (X1s.map X3)))],hp ([(0,Ob [(X0s Xf)] 3),(2,Ob [(X3 Xbo)] 2)]++opE X1h.1 3 2 (X0y.map X3)++opE X24.1 4 2 (X1s.map X3)),5⟩ μ),
  X2 Tryz.prog 68 2 Q (.loop (X30 0 (Xj Tryz.f123))) [] ⟨fr [(0,(slE Xjr.1 2 (X2i.map X3))),(3,(AV.ptr 3 0 0)),(5,(slE X68.1 4 (X15.map X3))),(6,(slE X6t.1 5 (Xhg.map X3))),(7,(aI .i64 (k:Int)))],hp ([(0,Ob [(X0s Xf)] 3),(3,Ob [(X3 X0m)] 2)]++opE Xjr.1 2 2 (X2i.map X3)++opE X68.1 4 2 (X15.map X3)++opE X6t.1 5 2 (Xhg.map X3)),6⟩ μ:=by
 intro xs
 induction xs with
 |nil =>
  intro k hx X0m X15 Xhg X68 X6t o h C0
  have hk:=drop_nil hx
  have hc:decide ((k:Int)<(X2i.length:Int))=false:=Yf (by omega)
  rw[X0i] at h
  rcases Xjr with ⟨_|_,Xod⟩
  ·
   rcases X68 with ⟨_|_,X7x⟩
   ·
    rcases X6t with ⟨_|_,X58⟩
    ·
     refine X2.round ?_
     revert h
     exact fun e=>X7 [.el (aI .i64 (X2i.length:Int)),Bf] (k:=wkT [(2,3),(3,4),(4,5)] (C0 _ _ _  nbF nbF (oj e).symm))
    obtain rfl:=X58 rfl
    refine X2.round ?_
    revert h
    exact fun e=>X7 [.el (aI .i64 (X2i.length:Int)),Bf] (k:=wkT [(2,3),(3,4)] (C0 _ _ _  nbF nbS (oj e).symm))
   obtain rfl:=X7x rfl
   rcases X6t with ⟨_|_,X58⟩
   ·
    refine X2.round ?_
    revert h
    exact fun e=>X7 [.el (aI .i64 (X2i.length:Int)),Bf] (k:=wkT [(2,3),(4,5)] (C0 _ _ _  nbS nbF (oj e).symm))
   obtain rfl:=X58 rfl
   refine X2.round ?_
   revert h
   exact fun e=>X7 [.el (aI .i64 (X2i.length:Int)),Bf] (k:=wkT [(2,3)] (C0 _ _ _  nbS nbS (oj e).symm))
  ·
   obtain rfl:=Xod rfl
   rcases X68 with ⟨_|_,X7x⟩
   ·
    rcases X6t with ⟨_|_,X58⟩
    ·
     refine X2.round ?_
     revert h
     exact fun e=>X7 [.el (aI .i64 (List.length ([]:List Xr):Int)),Bf] (k:=wkT [(2,3),(3,4),(4,5)] (C0 _ _ _  nbF nbF (oj e).symm))
    ·
     obtain rfl:=X58 rfl
     refine X2.round ?_
     revert h
     exact fun e=>X7 [.el (aI .i64 (List.length ([]:List Xr):Int)),Bf] (k:=wkT [(2,3),(3,4)] (C0 _ _ _  nbF nbS (oj e).symm))
   ·
    obtain rfl:=X7x rfl
    rcases X6t with ⟨_|_,X58⟩
    ·
     refine X2.round ?_
     revert h
     exact fun e=>X7 [.el (aI .i64 (List.length ([]:List Xr):Int)),Bf] (k:=wkT [(2,3),(4,5)] (C0 _ _ _  nbS nbF (oj e).symm))
    ·
     obtain rfl:=X58 rfl
     refine X2.round ?_
     revert h
     exact fun e=>X7 [.el (aI .i64 (List.length ([]:List Xr):Int)),Bf] (k:=wkT [(2,3)] (C0 _ _ _  nbS nbS (oj e).symm))
 |cons x xs ih =>
  intro k hx X0m X15 Xhg X68 X6t o h C0
  obtain⟨hk,hg,hx1⟩:=drop_cons hx
  have hc:decide ((k:Int)<(X2i.length:Int))=true:=Yt (by omega)
  rw[X0i] at h
  rcases Xjr with ⟨_|_,Xod⟩
  ·
   rcases X68 with ⟨_|_,X7x⟩
   ·
    rcases X6t with ⟨_|_,X58⟩
    ·
     refine X2.round ?_
     revert h
     refine bI fun v11415 h11416=>bI fun w11423 h11430=>?_
     intro h
     obtain⟨Xzq,Xl9,Xl8⟩:=w11423
     try dsimp only at h
     refine X10 [.el (aI .i64 (X2i.length:Int)),Bt,.el (X3 x),.ld (X3 x),.pure _ (aB v11415)] ?_
     refine X2.joinF (fun(q:Nb Xl9×Nb Xl8)=>⟨fr [(0,(AV.ref 2 0 (X2i.length))),(3,(AV.ptr 3 0 0)),(5,(slE q.1.1 4 (Xl9.map X3))),(6,(slE q.2.1 5 (Xl8.map X3))),(7,(aI .i64 (k:Int)))],hp ([(0,Ob [(X0s Xf)] 3),(2,Ob (X2i.map X3) 2),(3,Ob [(X3 Xzq)] 2)]++opE q.1.1 4 2 (Xl9.map X3)++opE q.2.1 5 2 (Xl8.map X3)),6⟩) ?_ (fun J=>X2.cut ?_)
     ·
      rintro⟨Xpt,Xit⟩
      rcases Xpt with ⟨_|_,Xqh⟩
      ·
       rcases Xit with ⟨_|_,Xeq⟩
       ·
        exact X7 [] (k:=wkT [] (ih (k+1) hx1 _ _ _ nbF nbF o h C0))
       obtain rfl:=Xeq rfl
       exact X7 [] (k:=wkT [] (ih (k+1) hx1 _ _ _ nbF nbS o h C0))
      obtain rfl:=Xqh rfl
      rcases Xit with ⟨_|_,Xeq⟩
      ·
       exact X7 [] (k:=wkT [] (ih (k+1) hx1 _ _ _ nbS nbF o h C0))
      obtain rfl:=Xeq rfl
      exact X7 [] (k:=wkT [] (ih (k+1) hx1 _ _ _ nbS nbS o h C0))
     clear h;revert h11430
     refine brI (fun h11424=>?_) fun h11424=>?_
     ·
      intro h
      simp only[Option.some.injEq,Prod.mk.injEq] at h
      obtain⟨rfl,rfl,rfl⟩:=h
      exact X7 [Bt,.see [(40,[2]),(42,[2]),(43,[])],.el (X3 x),.ld (X3 x),.el (X3 x),.ld (X3 x)] (k:=wkT [] (X2.glue (J (nbF,nbF))))
     refine brI (fun h11425=>?_) fun h11425=>?_
     ·
      refine bI fun u11426 h11427=>?_
      intro h
      simp only[Option.some.injEq,Prod.mk.injEq] at h
      obtain⟨rfl,rfl,rfl⟩:=h
      exact X7 [Bf,.el (X3 x),.ld (X3 x),Bt,.el (X3 x),.ld (X3 x),.no] (o:=by repeat' first|apply Ya|exact pcM|(refine X0g h11427 rfl ?_;first|(simp;done)|(simp;omega)|(simp[hc,h11424,h11425];done)|(simp[hc,h11424,h11425];omega))|(refine Xz h11427 (by decide) ?_;first|(simp;done)|(simp;omega)|(simp[hc,h11424,h11425];done)|(simp[hc,h11424,h11425];omega))|exact X0k) (k:=wkT [(4,23)] (X2.glue (J (nbF,nbF))))
     refine bI fun u11428 h11429=>?_
     intro h
     simp only[Option.some.injEq,Prod.mk.injEq] at h
     obtain⟨rfl,rfl,rfl⟩:=h
     exact X7 [Bf,.el (X3 x),.ld (X3 x),Bf,.el (X3 x),.ld (X3 x),.no] (o:=by repeat' first|apply Ya|exact pcM|(refine X0g h11429 rfl ?_;first|(simp;done)|(simp;omega)|(simp[hc,h11424,h11425];done)|(simp[hc,h11424,h11425];omega))|(refine Xz h11429 (by decide) ?_;first|(simp;done)|(simp;omega)|(simp[hc,h11424,h11425];done)|(simp[hc,h11424,h11425];omega))|exact X0k) (k:=wkT [(5,23)] (X2.glue (J (nbF,nbF))))
    obtain rfl:=X58 rfl
    refine X2.round ?_
    revert h
    refine bI fun v11431 h11432=>bI fun w11439 h11446=>?_
    intro h
    obtain⟨Xzp,Xl7,Xl6⟩:=w11439
    try dsimp only at h
    refine X10 [.el (aI .i64 (X2i.length:Int)),Bt,.el (X3 x),.ld (X3 x),.pure _ (aB v11431)] ?_
    refine X2.joinF (fun(q:Nb Xl7×Nb Xl6)=>⟨fr [(0,(AV.ref 2 0 (X2i.length))),(3,(AV.ptr 3 0 0)),(5,(slE q.1.1 4 (Xl7.map X3))),(6,(slE q.2.1 5 (Xl6.map X3))),(7,(aI .i64 (k:Int)))],hp ([(0,Ob [(X0s Xf)] 3),(2,Ob (X2i.map X3) 2),(3,Ob [(X3 Xzp)] 2)]++opE q.1.1 4 2 (Xl7.map X3)++opE q.2.1 5 2 (Xl6.map X3)),6⟩) ?_ (fun J=>X2.cut ?_)
    ·
     rintro⟨Xps,Xis⟩
     rcases Xps with ⟨_|_,Xqg⟩
     ·
      rcases Xis with ⟨_|_,Xep⟩
      ·
       exact X7 [] (k:=wkT [] (ih (k+1) hx1 _ _ _ nbF nbF o h C0))
      obtain rfl:=Xep rfl
      exact X7 [] (k:=wkT [] (ih (k+1) hx1 _ _ _ nbF nbS o h C0))
     obtain rfl:=Xqg rfl
     rcases Xis with ⟨_|_,Xep⟩
     ·
      exact X7 [] (k:=wkT [] (ih (k+1) hx1 _ _ _ nbS nbF o h C0))
     obtain rfl:=Xep rfl
     exact X7 [] (k:=wkT [] (ih (k+1) hx1 _ _ _ nbS nbS o h C0))
    clear h;revert h11446
    refine brI (fun h11440=>?_) fun h11440=>?_
    ·
     intro h
     simp only[Option.some.injEq,Prod.mk.injEq] at h
     obtain⟨rfl,rfl,rfl⟩:=h
     exact X7 [Bt,.see [(40,[2]),(42,[2]),(43,[])],.el (X3 x),.ld (X3 x),.el (X3 x),.ld (X3 x)] (k:=wkT [] (X2.glue (J (nbF,nbS))))
    refine brI (fun h11441=>?_) fun h11441=>?_
    ·
     refine bI fun u11442 h11443=>?_
     intro h
     simp only[Option.some.injEq,Prod.mk.injEq] at h
     obtain⟨rfl,rfl,rfl⟩:=h
     exact X7 [Bf,.el (X3 x),.ld (X3 x),Bt,.el (X3 x),.ld (X3 x),.no] (o:=by repeat' first|apply Ya|exact pcM|(refine X0g h11443 rfl ?_;first|(simp;done)|(simp;omega)|(simp[hc,h11440,h11441];done)|(simp[hc,h11440,h11441];omega))|(refine Xz h11443 (by decide) ?_;first|(simp;done)|(simp;omega)|(simp[hc,h11440,h11441];done)|(simp[hc,h11440,h11441];omega))|exact X0k) (k:=wkT [(4,23)] (X2.glue (J (nbF,nbS))))
    refine bI fun u11444 h11445=>?_
    intro h
    simp only[Option.some.injEq,Prod.mk.injEq] at h
    obtain⟨rfl,rfl,rfl⟩:=h
    exact X7 [Bf,.el (X3 x),.ld (X3 x),Bf,.el (X3 x),.ld (X3 x),.no] (o:=by repeat' first|apply Ya|exact pcM|(refine X0g h11445 rfl ?_;first|(simp;done)|(simp;omega)|(simp[hc,h11440,h11441];done)|(simp[hc,h11440,h11441];omega))|(refine Xz h11445 (by decide) ?_;first|(simp;done)|(simp;omega)|(simp[hc,h11440,h11441];done)|(simp[hc,h11440,h11441];omega))|exact X0k) (k:=wkT [(5,23)] (X2.glue (J (nbF,nbF))))
   obtain rfl:=X7x rfl
   rcases X6t with ⟨_|_,X58⟩
   ·
    refine X2.round ?_
    revert h
    refine bI fun v11447 h11448=>bI fun w11455 h11462=>?_
    intro h
    obtain⟨Xzo,Xl5,Xl4⟩:=w11455
    try dsimp only at h
    refine X10 [.el (aI .i64 (X2i.length:Int)),Bt,.el (X3 x),.ld (X3 x),.pure _ (aB v11447)] ?_
    refine X2.joinF (fun(q:Nb Xl5×Nb Xl4)=>⟨fr [(0,(AV.ref 2 0 (X2i.length))),(3,(AV.ptr 3 0 0)),(5,(slE q.1.1 4 (Xl5.map X3))),(6,(slE q.2.1 5 (Xl4.map X3))),(7,(aI .i64 (k:Int)))],hp ([(0,Ob [(X0s Xf)] 3),(2,Ob (X2i.map X3) 2),(3,Ob [(X3 Xzo)] 2)]++opE q.1.1 4 2 (Xl5.map X3)++opE q.2.1 5 2 (Xl4.map X3)),6⟩) ?_ (fun J=>X2.cut ?_)
    ·
     rintro⟨Xpr,Xir⟩
     rcases Xpr with ⟨_|_,Xqf⟩
     ·
      rcases Xir with ⟨_|_,Xeo⟩
      ·
       exact X7 [] (k:=wkT [] (ih (k+1) hx1 _ _ _ nbF nbF o h C0))
      obtain rfl:=Xeo rfl
      exact X7 [] (k:=wkT [] (ih (k+1) hx1 _ _ _ nbF nbS o h C0))
     obtain rfl:=Xqf rfl
     rcases Xir with ⟨_|_,Xeo⟩
     ·
      exact X7 [] (k:=wkT [] (ih (k+1) hx1 _ _ _ nbS nbF o h C0))
     obtain rfl:=Xeo rfl
     exact X7 [] (k:=wkT [] (ih (k+1) hx1 _ _ _ nbS nbS o h C0))
    clear h;revert h11462
    refine brI (fun h11456=>?_) fun h11456=>?_
    ·
     intro h
     simp only[Option.some.injEq,Prod.mk.injEq] at h
     obtain⟨rfl,rfl,rfl⟩:=h
     exact X7 [Bt,.see [(40,[2]),(42,[2]),(43,[])],.el (X3 x),.ld (X3 x),.el (X3 x),.ld (X3 x)] (k:=wkT [] (X2.glue (J (nbS,nbF))))
    refine brI (fun h11457=>?_) fun h11457=>?_
    ·
     refine bI fun u11458 h11459=>?_
     intro h
     simp only[Option.some.injEq,Prod.mk.injEq] at h
     obtain⟨rfl,rfl,rfl⟩:=h
     exact X7 [Bf,.el (X3 x),.ld (X3 x),Bt,.el (X3 x),.ld (X3 x),.no] (o:=by repeat' first|apply Ya|exact pcM|(refine X0g h11459 rfl ?_;first|(simp;done)|(simp;omega)|(simp[hc,h11456,h11457];done)|(simp[hc,h11456,h11457];omega))|(refine Xz h11459 (by decide) ?_;first|(simp;done)|(simp;omega)|(simp[hc,h11456,h11457];done)|(simp[hc,h11456,h11457];omega))|exact X0k) (k:=wkT [(4,23)] (X2.glue (J (nbF,nbF))))
    refine bI fun u11460 h11461=>?_
    intro h
    simp only[Option.some.injEq,Prod.mk.injEq] at h
    obtain⟨rfl,rfl,rfl⟩:=h
    exact X7 [Bf,.el (X3 x),.ld (X3 x),Bf,.el (X3 x),.ld (X3 x),.no] (o:=by repeat' first|apply Ya|exact pcM|(refine X0g h11461 rfl ?_;first|(simp;done)|(simp;omega)|(simp[hc,h11456,h11457];done)|(simp[hc,h11456,h11457];omega))|(refine Xz h11461 (by decide) ?_;first|(simp;done)|(simp;omega)|(simp[hc,h11456,h11457];done)|(simp[hc,h11456,h11457];omega))|exact X0k) (k:=wkT [(5,23)] (X2.glue (J (nbS,nbF))))
   obtain rfl:=X58 rfl
   refine X2.round ?_
   revert h
   refine bI fun v11463 h11464=>bI fun w11471 h11478=>?_
   intro h
   obtain⟨Xzn,Xl3,Xl2⟩:=w11471
   try dsimp only at h
   refine X10 [.el (aI .i64 (X2i.length:Int)),Bt,.el (X3 x),.ld (X3 x),.pure _ (aB v11463)] ?_
   refine X2.joinF (fun(q:Nb Xl3×Nb Xl2)=>⟨fr [(0,(AV.ref 2 0 (X2i.length))),(3,(AV.ptr 3 0 0)),(5,(slE q.1.1 4 (Xl3.map X3))),(6,(slE q.2.1 5 (Xl2.map X3))),(7,(aI .i64 (k:Int)))],hp ([(0,Ob [(X0s Xf)] 3),(2,Ob (X2i.map X3) 2),(3,Ob [(X3 Xzn)] 2)]++opE q.1.1 4 2 (Xl3.map X3)++opE q.2.1 5 2 (Xl2.map X3)),6⟩) ?_ (fun J=>X2.cut ?_)
   ·
    rintro⟨Xpq,Xiq⟩
    rcases Xpq with ⟨_|_,Xqe⟩
    ·
     rcases Xiq with ⟨_|_,Xen⟩
     ·
      exact X7 [] (k:=wkT [] (ih (k+1) hx1 _ _ _ nbF nbF o h C0))
     obtain rfl:=Xen rfl
     exact X7 [] (k:=wkT [] (ih (k+1) hx1 _ _ _ nbF nbS o h C0))
    obtain rfl:=Xqe rfl
    rcases Xiq with ⟨_|_,Xen⟩
    ·
     exact X7 [] (k:=wkT [] (ih (k+1) hx1 _ _ _ nbS nbF o h C0))
    obtain rfl:=Xen rfl
    exact X7 [] (k:=wkT [] (ih (k+1) hx1 _ _ _ nbS nbS o h C0))
   clear h;revert h11478
   refine brI (fun h11472=>?_) fun h11472=>?_
   ·
    intro h
    simp only[Option.some.injEq,Prod.mk.injEq] at h
    obtain⟨rfl,rfl,rfl⟩:=h
    exact X7 [Bt,.see [(40,[2]),(42,[2]),(43,[])],.el (X3 x),.ld (X3 x),.el (X3 x),.ld (X3 x)] (k:=wkT [] (X2.glue (J (nbS,nbS))))
   refine brI (fun h11473=>?_) fun h11473=>?_
   ·
    refine bI fun u11474 h11475=>?_
    intro h
    simp only[Option.some.injEq,Prod.mk.injEq] at h
    obtain⟨rfl,rfl,rfl⟩:=h
    exact X7 [Bf,.el (X3 x),.ld (X3 x),Bt,.el (X3 x),.ld (X3 x),.no] (o:=by repeat' first|apply Ya|exact pcM|(refine X0g h11475 rfl ?_;first|(simp;done)|(simp;omega)|(simp[hc,h11472,h11473];done)|(simp[hc,h11472,h11473];omega))|(refine Xz h11475 (by decide) ?_;first|(simp;done)|(simp;omega)|(simp[hc,h11472,h11473];done)|(simp[hc,h11472,h11473];omega))|exact X0k) (k:=wkT [(4,23)] (X2.glue (J (nbF,nbS))))
   refine bI fun u11476 h11477=>?_
   intro h
   simp only[Option.some.injEq,Prod.mk.injEq] at h
   obtain⟨rfl,rfl,rfl⟩:=h
   exact X7 [Bf,.el (X3 x),.ld (X3 x),Bf,.el (X3 x),.ld (X3 x),.no] (o:=by repeat' first|apply Ya|exact pcM|(refine X0g h11477 rfl ?_;first|(simp;done)|(simp;omega)|(simp[hc,h11472,h11473];done)|(simp[hc,h11472,h11473];omega))|(refine Xz h11477 (by decide) ?_;first|(simp;done)|(simp;omega)|(simp[hc,h11472,h11473];done)|(simp[hc,h11472,h11473];omega))|exact X0k) (k:=wkT [(5,23)] (X2.glue (J (nbS,nbF))))
  obtain rfl:=Xod rfl
  rcases X68 with ⟨_|_,X7x⟩
  ·
   rcases X6t with ⟨_|_,X58⟩
   ·
    refine X2.round ?_
    exact absurd hk (by simp)
   obtain rfl:=X58 rfl
   refine X2.round ?_
   exact absurd hk (by simp)
  obtain rfl:=X7x rfl
  rcases X6t with ⟨_|_,X58⟩
  ·
   refine X2.round ?_
   exact absurd hk (by simp)
  obtain rfl:=X58 rfl
  refine X2.round ?_
  exact absurd hk (by simp)
end Go.Av.Tryz