/- Printed by decomp.py: that the program computes the functions. -/
import Derived.Test.YtfdfgobnpnoomaaGreatDCert2Z
set_option linter.all false

namespace Go.Av.Tryz
open Go.Proofs Go.D
set_option maxRecDepth 10000
set_option maxHeartbeats 40000000
theorem Xkt {Q:X02->St->Mu->Prop} {μ:Mu} (X00:(List X05)) (hl:X00.length<=140737488355328):∀ (xs:List X05) (k:Nat) (hx:X00.drop k=xs) (Xi:(List Bool)) (Xl:Nb Xi) (o:X6k) (h:X1w X00 xs k Xi=some o)
  (C0:∀ (X0s:(List Bool)) (X0v:Nb X0s),o=X6k.x0 X0s->X2 Tryz.prog 88 0 Q (.exit (.exit 0)) [] ⟨fr [(0,(Lf (X00.map X4))),(4,(AV.ptr 0 0 0))],hp ([(0,Ob [(slE X0v.1 1 (X0s.map aB))] 1)]++opE X0v.1 1 1 (X0s.map aB)),2⟩ μ)
  (C1:∀ (X0e:(List Bool)) (Xhr:Int) (X0c:Nb X0e),o=X6k.x1 X0e Xhr->X2 Tryz.prog 88 0 Q (.exit .ret) [] ⟨fr [(2,(slE X0c.1 0 (X0e.map aB))),(3,(aI .i64 Xhr))],hp ([]++opE X0c.1 0 1 (X0e.map aB)),1⟩ μ),
  X2 Tryz.prog 88 0 Q (.loop (X2v 0 (Xh Tryz.f156))) [] ⟨fr [(0,(Lf (X00.map X4))),(4,(AV.ptr 0 0 0)),(5,(AV.fn 189 [(AV.ptr 0 0 0)])),(12,(Lf (X00.map X4))),(13,(aI .i64 (X00.length:Int))),(14,(aI .i64 (k:Int)))],hp ([(0,Ob [(slE Xl.1 1 (Xi.map aB))] 1)]++opE Xl.1 1 1 (Xi.map aB)),2⟩ μ:=by
 intro xs
 induction xs with
 |nil =>
  intro k hx Xi Xl o h C0 C1
  have hk:=drop_nil hx
  have hc:decide ((k:Int)<(X00.length:Int))=false:=Yf (by omega)
  rw[X1w] at h
  rcases Xl with ⟨_|_,X04⟩
  ·
   refine X2.round ?_
   revert h
   exact fun e=>X9 [Bf] (k:=wkT [] (C0 _  nbF (oj e).symm))
  ·
   obtain rfl:=X04 rfl
   refine X2.round ?_
   revert h
   exact fun e=>X9 [Bf] (k:=wkT [] (C0 _  nbS (oj e).symm))
 |cons x xs ih =>
  intro k hx Xi Xl o h C0 C1
  obtain⟨hk,hg,hx1⟩:=drop_cons hx
  have hc:decide ((k:Int)<(X00.length:Int))=true:=Yt (by omega)
  rw[X1w] at h
  rcases Xl with ⟨_|_,X04⟩
  ·
   refine X2.round ?_
   revert h
   refine brI (fun h2524=>?_) fun h2524=>?_
   ·
    refine bI fun u2525 h2526=>rnI [Bt,.el (X4 x),Bt,.no] (o:=by repeat' first|apply Ya|exact pcM|(refine X0a h2526 rfl ?_;first|(simp;done)|(simp;omega)|(simp[hc,h2524];done)|(simp[hc,h2524];omega))|(refine Xs h2526 (by decide) ?_;first|(simp;done)|(simp;omega)|(simp[hc,h2524];done)|(simp[hc,h2524];omega))|exact X0k) ?_
    intro h
    exact wkT [(1,6)] (ih (k+1) hx1 _ nbF o h C0 C1)
   refine brI (fun h2533=>?_) fun h2533=>?_
   ·
    refine bI fun Xpp h2549=>rnI [Bt,.el (X4 x),Bf,Bt,.see [(38,[4])],.stop 22] ?_
    intro h
    refine X2.join (s':=⟨fr [(0,(Lf (X00.map X4))),(4,(AV.ptr 0 0 0)),(5,(AV.fn 189 [(AV.ptr 0 0 0)])),(6,(aI .i64 (k:Int))),(9,(aB false)),(12,(Lf (X00.map X4))),(13,(aI .i64 (X00.length:Int))),(14,(aI .i64 (k:Int))),(78,(aB Xpp))],hp ([(0,Ob [(AV.ref 1 0 (Xi.length))] 1),(1,Ob (Xi.map aB) 1)]),2⟩) ?_ (fun J=>X2.cut ?_)
    ·
     revert h
     refine brI (fun h2550=>fun e=>X9 [Bt] (k:=wkT [] (C1 _ _  nbS (oj e).symm))) fun h2550=>?_
     refine bI fun u2551 h2552=>rnI [Bf,.no] (o:=by repeat' first|apply Ya|exact pcM|(refine X0a h2552 rfl ?_;first|(simp;done)|(simp;omega)|(simp[hc,h2524,h2533,h2550];done)|(simp[hc,h2524,h2533,h2550];omega))|(refine Xs h2552 (by decide) ?_;first|(simp;done)|(simp;omega)|(simp[hc,h2524,h2533,h2550];done)|(simp[hc,h2524,h2533,h2550];omega))|exact X0k) ?_
     intro h
     exact wkT [(1,3)] (ih (k+1) hx1 _ nbF o h C0 C1)
    clear h;revert h2549
    refine rnI [.ix 0,.go true,.go true,.stop 999999] ?_
    intro h
    refine X2.inlineG Xa Xnw rfl rfl rfl rfl rfl rfl rfl rfl rfl rfl (rfl) trivial trivial ?_
    refine X10 [] ?_
    refine X2.round ?_
    revert h
    refine bI fun e2546 h2547=>?_
    try have qh2547:=Xn h2547
    refine brI (fun h2548=>?_) fun h2548=>?_
    ·
     refine rnI [Bt,.el ((aI .i64 x.A)),.el (aB e2546),.ld (aB e2546),Bt] ?_
     intro h
     refine X2.back (by intro id h;cases h) rfl ?_
     obtain rfl:=oj h
     exact X9 [.go true,.ix 1,.go true,.go true,.go false,.go false,.go false,.go true,.go true] (k:=wkT [] (X2.glue J))
    refine rnI [Bt,.el ((aI .i64 x.A)),.el (aB e2546),.ld (aB e2546),Bf] ?_
    intro h
    refine X2.round ?_
    refine X10 [Bf] ?_
    refine X2.back (by intro id h;cases h) rfl ?_
    obtain rfl:=oj h
    exact X9 [.go false,.go false,.go false,.go false,.go false,.go false,.go false,.go false] (k:=wkT [] (X2.glue J))
   refine brI (fun h2558=>?_) fun h2558=>?_
   ·
    refine bI fun Xpo h2574=>rnI [Bt,.el (X4 x),Bf,Bf,Bt,.see [(45,[4])],.ix 0,.go false,.go false,.go false,.go true,.ix 1,.go true,.go true,.go true,.go true,.stop 999999] ?_
    intro h
    refine X2.joinOp (s':=⟨fr [(0,(Lf (X00.map X4))),(4,(AV.ptr 0 0 0)),(5,(AV.fn 189 [(AV.ptr 0 0 0)])),(6,(aI .i64 (k:Int))),(9,(aB true)),(12,(Lf (X00.map X4))),(13,(aI .i64 (X00.length:Int))),(14,(aI .i64 (k:Int))),(69,(aB (!(bif false then false else false)))),(72,(aB true)),(75,(aB Xpo))],hp ([(0,Ob [(AV.ref 1 0 (Xi.length))] 1),(1,Ob (Xi.map aB) 1)]),2⟩) ?_ (fun J=>?_)
    ·
     revert h
     refine brI (fun h2575=>fun e=>X9 [.go true,.go true,Bt] (k:=wkT [] (C1 _ _  nbS (oj e).symm))) fun h2575=>?_
     refine bI fun u2576 h2577=>rnI [.go true,.go true,Bf,.no] (o:=by repeat' first|apply Ya|exact pcM|(refine X0a h2577 rfl ?_;first|(simp;done)|(simp;omega)|(simp[hc,h2524,h2533,h2558,h2575];done)|(simp[hc,h2524,h2533,h2558,h2575];omega))|(refine Xs h2577 (by decide) ?_;first|(simp;done)|(simp;omega)|(simp[hc,h2524,h2533,h2558,h2575];done)|(simp[hc,h2524,h2533,h2558,h2575];omega))|exact X0k) ?_
     intro h
     exact wkT [(1,3)] (ih (k+1) hx1 _ nbF o h C0 C1)
    clear h;revert h2574
    intro h
    refine X2.inlineG Xa Xnw rfl rfl rfl rfl rfl rfl rfl rfl rfl rfl (rfl) trivial trivial ?_
    refine X10 [] ?_
    refine X2.round ?_
    revert h
    refine bI fun e2571 h2572=>?_
    try have qh2572:=Xn h2572
    refine brI (fun h2573=>?_) fun h2573=>?_
    ·
     intro h
     obtain rfl:=oj h
     refine X10 [Bt,.el ((aI .i64 x.A)),.el (aB e2571),.ld (aB e2571),Bt] ?_
     refine X2.back (by intro id h;cases h) rfl ?_
     exact wkT [] (J)
    refine rnI [Bt,.el ((aI .i64 x.A)),.el (aB e2571),.ld (aB e2571),Bf] ?_
    intro h
    refine X2.round ?_
    obtain rfl:=oj h
    refine X10 [Bf] ?_
    refine X2.back (by intro id h;cases h) rfl ?_
    exact wkT [] (J)
   refine bI fun w2581 h2585=>?_
   intro h
   obtain⟨Xck,Xme⟩:=w2581
   try dsimp only at h
   refine X10 [Bt,.el (X4 x),Bf,Bf,Bf] ?_
   refine X2.join (s':=⟨fr [(0,(Lf (X00.map X4))),(4,(AV.ptr 0 0 0)),(5,(AV.fn 189 [(AV.ptr 0 0 0)])),(6,(aI .i64 (k:Int))),(8,(AV.ptr 2 0 0)),(9,(aB Xme)),(10,(AV.ref 3 0 (List.length [x.A,x.B]))),(12,(Lf (X00.map X4))),(13,(aI .i64 (X00.length:Int))),(14,(aI .i64 (k:Int)))],hp ([(0,Ob [(AV.ref 1 0 (Xi.length))] 1),(1,Ob (Xi.map aB) 1),(2,Ob [(Xar Xck)] 2),(3,Ob (List.map (aI .i64) [x.A,x.B]) 1)]),4⟩) ?_ (fun J=>X2.cut ?_)
   ·
    revert h
    refine bI fun Xpn h3221=>rnI [.stop 22] ?_
    intro h
    refine X2.join (s':=⟨fr [(0,(Lf (X00.map X4))),(4,(AV.ptr 0 0 0)),(5,(AV.fn 189 [(AV.ptr 0 0 0)])),(6,(aI .i64 (k:Int))),(9,(aB Xme)),(12,(Lf (X00.map X4))),(13,(aI .i64 (X00.length:Int))),(14,(aI .i64 (k:Int))),(78,(aB Xpn))],hp ([(0,Ob [(AV.ref 1 0 (Xi.length))] 1),(1,Ob (Xi.map aB) 1)]),2⟩) ?_ (fun J=>X2.cut ?_)
    ·
     revert h
     refine brI (fun h3222=>fun e=>X9 [Bt] (k:=wkT [] (C1 _ _  nbS (oj e).symm))) fun h3222=>?_
     refine bI fun u3223 h3224=>rnI [Bf,.no] (o:=by repeat' first|apply Ya|exact pcM|(refine X0a h3224 rfl ?_;first|(simp;done)|(simp;omega)|(simp[hc,h2524,h2533,h2558,h3222];done)|(simp[hc,h2524,h2533,h2558,h3222];omega))|(refine Xs h3224 (by decide) ?_;first|(simp;done)|(simp;omega)|(simp[hc,h2524,h2533,h2558,h3222];done)|(simp[hc,h2524,h2533,h2558,h3222];omega))|exact X0k) ?_
     intro h
     exact wkT [(1,3)] (ih (k+1) hx1 _ nbF o h C0 C1)
    clear h;revert h3221
    refine brI (fun h2904=>?_) fun h2904=>?_
    ·
     refine bI fun Xea h3018=>rnI [.ix 0,.go true,.go true,.stop 999999] ?_
     intro h
     refine X2.joinOp (s':=⟨fr [(0,(Lf (X00.map X4))),(4,(AV.ptr 0 0 0)),(5,(AV.fn 189 [(AV.ptr 0 0 0)])),(6,(aI .i64 (k:Int))),(8,(AV.ptr 2 0 0)),(9,(aB Xme)),(10,(AV.ref 3 0 (List.length [x.A,x.B]))),(12,(Lf (X00.map X4))),(13,(aI .i64 (X00.length:Int))),(14,(aI .i64 (k:Int))),(63,(aB Xck.e0)),(66,(aB Xea))],hp ([(0,Ob [(AV.ref 1 0 (Xi.length))] 1),(1,Ob (Xi.map aB) 1),(2,Ob [(Xar Xck)] 2),(3,Ob (List.map (aI .i64) [x.A,x.B]) 1)]),4⟩) ?_ (fun J=>?_)
     ·
      revert h
      refine brI (fun h3019=>?_) fun h3019=>?_
      ·
       refine brI (fun h3020=>?_) fun h3020=>?_
       ·
        refine bI fun Xpm h3134=>rnI [.go true,.ix 1,.go true,.go true,.go true,.go true,.stop 999999] ?_
        intro h
        refine X2.joinOp (s':=⟨fr [(0,(Lf (X00.map X4))),(4,(AV.ptr 0 0 0)),(5,(AV.fn 189 [(AV.ptr 0 0 0)])),(6,(aI .i64 (k:Int))),(9,(aB Xme)),(12,(Lf (X00.map X4))),(13,(aI .i64 (X00.length:Int))),(14,(aI .i64 (k:Int))),(69,(aB (!(bif Xck.e0 then Xea else false)))),(72,(aB Xck.e1)),(75,(aB Xpm))],hp ([(0,Ob [(AV.ref 1 0 (Xi.length))] 1),(1,Ob (Xi.map aB) 1)]),2⟩) ?_ (fun J=>?_)
        ·
         obtain rfl:=oj h
         exact X9 [.go true,.go true] (k:=wkT [] (X2.glue J))
        clear h;revert h3134
        intro h
        refine X2.inlineG Xa Xnw rfl rfl rfl rfl rfl rfl rfl rfl rfl rfl (h3020) trivial trivial ?_
        revert h
        refine bI fun u3096 h3097=>?_
        have qh3097:=X08 h3097
        refine bI fun o3132 h3133=>rnI [.el (aI .i64 (List.length [x.A,x.B]:Int))] ?_
        intro h
        refine wkT [(4,3)] (X2.cut (X1v Xi [x.A,x.B] nbF qh3097 [x.A,x.B] 0 (by simp) _ h3133 ?_ ?_))
        ·
         intro eo3132;subst eo3132
         refine X2.glue ?_
         try dsimp only at h
         obtain rfl:=oj h
         refine X10 [] ?_
         refine X2.back (by intro id h;cases h) rfl ?_
         exact wkT [] (J)
        intro eo3132;subst eo3132
        refine X2.glue ?_
        try dsimp only at h
        obtain rfl:=oj h
        refine X10 [] ?_
        refine X2.back (by intro id h;cases h) rfl ?_
        exact wkT [] (J)
       intro h
       obtain rfl:=oj h
       exact X9 [.go true,.ix 1,.go true,.go true,.go false,.go false,.go false,.go true,.go true] (k:=wkT [] (X2.glue J))
      intro h
      obtain rfl:=oj h
      exact X9 [.go false,.go false,.go false,.go false,.go false,.go false,.go false,.go false] (k:=wkT [] (X2.glue J))
     clear h;revert h3018
     intro h
     refine X2.inlineG Xa Xnw rfl rfl rfl rfl rfl rfl rfl rfl rfl rfl (h2904) trivial trivial ?_
     revert h
     refine bI fun u2980 h2981=>?_
     have qh2981:=X08 h2981
     refine bI fun o3016 h3017=>rnI [.el (aI .i64 (List.length [x.A,x.B]:Int))] ?_
     intro h
     refine wkT [] (X2.cut (X5w Xi Xck [x.A,x.B] nbF qh2981 [x.A,x.B] 0 (by simp) _ h3017 ?_ ?_))
     ·
      intro eo3016;subst eo3016
      refine X2.glue ?_
      try dsimp only at h
      obtain rfl:=oj h
      refine X10 [] ?_
      refine X2.back (by intro id h;cases h) rfl ?_
      exact wkT [] (J)
     intro eo3016;subst eo3016
     refine X2.glue ?_
     try dsimp only at h
     obtain rfl:=oj h
     refine X10 [] ?_
     refine X2.back (by intro id h;cases h) rfl ?_
     exact wkT [] (J)
    refine brI (fun h3135=>?_) fun h3135=>?_
    ·
     refine brI (fun h3136=>?_) fun h3136=>?_
     ·
      refine bI fun Xpl h3220=>rnI [.ix 0,.go false,.go false,.go false,.go true,.ix 1,.go true,.go true,.go true,.go true,.stop 999999] ?_
      intro h
      refine X2.joinOp (s':=⟨fr [(0,(Lf (X00.map X4))),(4,(AV.ptr 0 0 0)),(5,(AV.fn 189 [(AV.ptr 0 0 0)])),(6,(aI .i64 (k:Int))),(9,(aB Xme)),(12,(Lf (X00.map X4))),(13,(aI .i64 (X00.length:Int))),(14,(aI .i64 (k:Int))),(69,(aB (!(bif Xck.e0 then false else false)))),(72,(aB Xck.e1)),(75,(aB Xpl))],hp ([(0,Ob [(AV.ref 1 0 (Xi.length))] 1),(1,Ob (Xi.map aB) 1)]),2⟩) ?_ (fun J=>?_)
      ·
       obtain rfl:=oj h
       exact X9 [.go true,.go true] (k:=wkT [] (X2.glue J))
      clear h;revert h3220
      intro h
      refine X2.inlineG Xa Xnw rfl rfl rfl rfl rfl rfl rfl rfl rfl rfl (h3136) trivial trivial ?_
      revert h
      refine bI fun u3192 h3193=>?_
      have qh3193:=X08 h3193
      refine bI fun o3218 h3219=>rnI [.el (aI .i64 (List.length [x.A,x.B]:Int))] ?_
      intro h
      refine wkT [(4,3)] (X2.cut (X1v Xi [x.A,x.B] nbF qh3193 [x.A,x.B] 0 (by simp) _ h3219 ?_ ?_))
      ·
       intro eo3218;subst eo3218
       refine X2.glue ?_
       try dsimp only at h
       obtain rfl:=oj h
       refine X10 [] ?_
       refine X2.back (by intro id h;cases h) rfl ?_
       exact wkT [] (J)
      intro eo3218;subst eo3218
      refine X2.glue ?_
      try dsimp only at h
      obtain rfl:=oj h
      refine X10 [] ?_
      refine X2.back (by intro id h;cases h) rfl ?_
      exact wkT [] (J)
     intro h
     obtain rfl:=oj h
     exact X9 [.ix 0,.go false,.go false,.go false,.go true,.ix 1,.go true,.go true,.go false,.go false,.go false,.go true,.go true] (k:=wkT [] (X2.glue J))
    intro h
    obtain rfl:=oj h
    exact X9 [.ix 0,.go false,.go false,.go false,.go false,.go false,.go false,.go false,.go false,.go false,.go false,.go false] (k:=wkT [] (X2.glue J))
   clear h;revert h2585
   refine brI (fun h2582=>?_) fun h2582=>?_
   ·
    intro h
    simp only[Option.some.injEq,Prod.mk.injEq] at h
    obtain⟨rfl,rfl⟩:=h
    exact X9 [Bt] (k:=wkT [(2,3),(3,4)] (X2.glue J))
   refine brI (fun h2583=>?_) fun h2583=>?_
   ·
    intro h
    simp only[Option.some.injEq,Prod.mk.injEq] at h
    obtain⟨rfl,rfl⟩:=h
    exact X9 [Bf,Bt] (k:=wkT [(2,3),(3,4)] (X2.glue J))
   refine brI (fun h2584=>?_) fun h2584=>?_
   ·
    intro h
    simp only[Option.some.injEq,Prod.mk.injEq] at h
    obtain⟨rfl,rfl⟩:=h
    exact X9 [Bf,Bf,Bt] (k:=wkT [(2,3),(3,4)] (X2.glue J))
   intro h
   simp only[Option.some.injEq,Prod.mk.injEq] at h
   obtain⟨rfl,rfl⟩:=h
   exact X9 [Bf,Bf,Bf] (k:=wkT [(2,3),(3,4)] (X2.glue J))
  obtain rfl:=X04 rfl
  refine X2.round ?_
  revert h
  refine brI (fun h3225=>?_) fun h3225=>?_
  ·
   refine bI fun u3226 h3227=>rnI [Bt,.el (X4 x),Bt,.no] (o:=by repeat' first|apply Ya|exact pcM|(refine X0a h3227 rfl ?_;first|(simp;done)|(simp;omega)|(simp[hc,h3225];done)|(simp[hc,h3225];omega))|(refine Xs h3227 (by decide) ?_;first|(simp;done)|(simp;omega)|(simp[hc,h3225];done)|(simp[hc,h3225];omega))|exact X0k) ?_
   intro h
   exact wkT [(1,6)] (ih (k+1) hx1 _ nbF o h C0 C1)
  refine brI (fun h3233=>?_) fun h3233=>?_
  ·
   refine rnI [Bt,.el (X4 x),Bf,Bt,.see [(38,[4])],.ix 0,.go true,.go true,.stop 999999] ?_
   intro h
   refine X2.inlineG Xa Xnw rfl rfl rfl rfl rfl rfl rfl rfl rfl rfl (rfl) trivial trivial ?_
   refine X10 [] ?_
   refine X2.round ?_
   revert h
   refine bI fun e3241 h3242=>?_
   try have qh3242:=Xn h3242
   intro h
   exact absurd (h3242) (by simp[X1p])
  refine brI (fun h3247=>?_) fun h3247=>?_
  ·
   refine rnI [Bt,.el (X4 x),Bf,Bf,Bt,.see [(45,[4])],.ix 0,.go false,.go false,.go false,.go true,.ix 1,.go true,.go true,.go true,.go true,.stop 999999] ?_
   intro h
   refine X2.inlineG Xa Xnw rfl rfl rfl rfl rfl rfl rfl rfl rfl rfl (rfl) trivial trivial ?_
   refine X10 [] ?_
   refine X2.round ?_
   revert h
   refine bI fun e3255 h3256=>?_
   try have qh3256:=Xn h3256
   intro h
   exact absurd (h3256) (by simp[X1p])
  refine bI fun w3260 h3264=>?_
  intro h
  obtain⟨Xcj,Xmc⟩:=w3260
  try dsimp only at h
  refine X10 [Bt,.el (X4 x),Bf,Bf,Bf] ?_
  refine X2.join (s':=⟨fr [(0,(Lf (X00.map X4))),(4,(AV.ptr 0 0 0)),(5,(AV.fn 189 [(AV.ptr 0 0 0)])),(6,(aI .i64 (k:Int))),(8,(AV.ptr 2 0 0)),(9,(aB Xmc)),(10,(AV.ref 3 0 (List.length [x.A,x.B]))),(12,(Lf (X00.map X4))),(13,(aI .i64 (X00.length:Int))),(14,(aI .i64 (k:Int)))],hp ([(0,Ob [AV.nils] 1),(2,Ob [(Xar Xcj)] 2),(3,Ob (List.map (aI .i64) [x.A,x.B]) 1)]),4⟩) ?_ (fun J=>X2.cut ?_)
  ·
   revert h
   refine bI fun X05w h3780=>rnI [.stop 22] ?_
   intro h
   refine X2.join (s':=⟨fr [(0,(Lf (X00.map X4))),(4,(AV.ptr 0 0 0)),(5,(AV.fn 189 [(AV.ptr 0 0 0)])),(6,(aI .i64 (k:Int))),(9,(aB Xmc)),(12,(Lf (X00.map X4))),(13,(aI .i64 (X00.length:Int))),(14,(aI .i64 (k:Int))),(78,(aB X05w))],hp ([(0,Ob [AV.nils] 1)]),2⟩) ?_ (fun J=>X2.cut ?_)
   ·
    revert h
    refine brI (fun h3781=>fun e=>X9 [Bt] (k:=wkT [] (C1 _ _  nbS (oj e).symm))) fun h3781=>?_
    refine bI fun u3782 h3783=>rnI [Bf,.no] (o:=by repeat' first|apply Ya|exact pcM|(refine X0a h3783 rfl ?_;first|(simp;done)|(simp;omega)|(simp[hc,h3225,h3233,h3247,h3781];done)|(simp[hc,h3225,h3233,h3247,h3781];omega))|(refine Xs h3783 (by decide) ?_;first|(simp;done)|(simp;omega)|(simp[hc,h3225,h3233,h3247,h3781];done)|(simp[hc,h3225,h3233,h3247,h3781];omega))|exact X0k) ?_
    intro h
    exact wkT [(1,3)] (ih (k+1) hx1 _ nbF o h C0 C1)
   clear h;revert h3780
   refine brI (fun h3523=>?_) fun h3523=>?_
   ·
    refine bI fun Xwd h3607=>rnI [.ix 0,.go true,.go true,.stop 999999] ?_
    intro h
    refine X2.joinOp (s':=⟨fr [(0,(Lf (X00.map X4))),(4,(AV.ptr 0 0 0)),(5,(AV.fn 189 [(AV.ptr 0 0 0)])),(6,(aI .i64 (k:Int))),(8,(AV.ptr 2 0 0)),(9,(aB Xmc)),(10,(AV.ref 3 0 (List.length [x.A,x.B]))),(12,(Lf (X00.map X4))),(13,(aI .i64 (X00.length:Int))),(14,(aI .i64 (k:Int))),(63,(aB Xcj.e0)),(66,(aB Xwd))],hp ([(0,Ob [AV.nils] 1),(2,Ob [(Xar Xcj)] 2),(3,Ob (List.map (aI .i64) [x.A,x.B]) 1)]),4⟩) ?_ (fun J=>?_)
    ·
     revert h
     refine brI (fun h3608=>?_) fun h3608=>?_
     ·
      refine brI (fun h3609=>?_) fun h3609=>?_
      ·
       refine bI fun X05v h3693=>rnI [.go true,.ix 1,.go true,.go true,.go true,.go true,.stop 999999] ?_
       intro h
       refine X2.joinOp (s':=⟨fr [(0,(Lf (X00.map X4))),(4,(AV.ptr 0 0 0)),(5,(AV.fn 189 [(AV.ptr 0 0 0)])),(6,(aI .i64 (k:Int))),(9,(aB Xmc)),(12,(Lf (X00.map X4))),(13,(aI .i64 (X00.length:Int))),(14,(aI .i64 (k:Int))),(69,(aB (!(bif Xcj.e0 then Xwd else false)))),(72,(aB Xcj.e1)),(75,(aB X05v))],hp ([(0,Ob [AV.nils] 1)]),2⟩) ?_ (fun J=>?_)
       ·
        obtain rfl:=oj h
        exact X9 [.go true,.go true] (k:=wkT [] (X2.glue J))
       clear h;revert h3693
       intro h
       refine X2.inlineG Xa Xnw rfl rfl rfl rfl rfl rfl rfl rfl rfl rfl (h3609) trivial trivial ?_
       revert h
       refine bI fun u3665 h3666=>?_
       have qh3666:=X08 h3666
       refine bI fun o3691 h3692=>rnI [.el (aI .i64 (List.length [x.A,x.B]:Int))] ?_
       intro h
       refine wkT [(4,3)] (X2.cut (X1v ([]:List Bool) [x.A,x.B] nbS qh3666 [x.A,x.B] 0 (by simp) _ h3692 ?_ ?_))
       ·
        intro eo3691;subst eo3691
        refine X2.glue ?_
        try dsimp only at h
        obtain rfl:=oj h
        refine X10 [] ?_
        refine X2.back (by intro id h;cases h) rfl ?_
        exact wkT [] (J)
       intro eo3691;subst eo3691
       refine X2.glue ?_
       try dsimp only at h
       obtain rfl:=oj h
       refine X10 [] ?_
       refine X2.back (by intro id h;cases h) rfl ?_
       exact wkT [] (J)
      intro h
      obtain rfl:=oj h
      exact X9 [.go true,.ix 1,.go true,.go true,.go false,.go false,.go false,.go true,.go true] (k:=wkT [] (X2.glue J))
     intro h
     obtain rfl:=oj h
     exact X9 [.go false,.go false,.go false,.go false,.go false,.go false,.go false,.go false] (k:=wkT [] (X2.glue J))
    clear h;revert h3607
    intro h
    refine X2.inlineG Xa Xnw rfl rfl rfl rfl rfl rfl rfl rfl rfl rfl (h3523) trivial trivial ?_
    revert h
    refine bI fun u3579 h3580=>?_
    have qh3580:=X08 h3580
    refine bI fun o3605 h3606=>rnI [.el (aI .i64 (List.length [x.A,x.B]:Int))] ?_
    intro h
    refine wkT [] (X2.cut (X5w ([]:List Bool) Xcj [x.A,x.B] nbS qh3580 [x.A,x.B] 0 (by simp) _ h3606 ?_ ?_))
    ·
     intro eo3605;subst eo3605
     refine X2.glue ?_
     try dsimp only at h
     obtain rfl:=oj h
     refine X10 [] ?_
     refine X2.back (by intro id h;cases h) rfl ?_
     exact wkT [] (J)
    intro eo3605;subst eo3605
    refine X2.glue ?_
    try dsimp only at h
    obtain rfl:=oj h
    refine X10 [] ?_
    refine X2.back (by intro id h;cases h) rfl ?_
    exact wkT [] (J)
   refine brI (fun h3694=>?_) fun h3694=>?_
   ·
    refine brI (fun h3695=>?_) fun h3695=>?_
    ·
     refine bI fun X05u h3779=>rnI [.ix 0,.go false,.go false,.go false,.go true,.ix 1,.go true,.go true,.go true,.go true,.stop 999999] ?_
     intro h
     refine X2.joinOp (s':=⟨fr [(0,(Lf (X00.map X4))),(4,(AV.ptr 0 0 0)),(5,(AV.fn 189 [(AV.ptr 0 0 0)])),(6,(aI .i64 (k:Int))),(9,(aB Xmc)),(12,(Lf (X00.map X4))),(13,(aI .i64 (X00.length:Int))),(14,(aI .i64 (k:Int))),(69,(aB (!(bif Xcj.e0 then false else false)))),(72,(aB Xcj.e1)),(75,(aB X05u))],hp ([(0,Ob [AV.nils] 1)]),2⟩) ?_ (fun J=>?_)
     ·
      obtain rfl:=oj h
      exact X9 [.go true,.go true] (k:=wkT [] (X2.glue J))
     clear h;revert h3779
     intro h
     refine X2.inlineG Xa Xnw rfl rfl rfl rfl rfl rfl rfl rfl rfl rfl (h3695) trivial trivial ?_
     revert h
     refine bI fun u3751 h3752=>?_
     have qh3752:=X08 h3752
     refine bI fun o3777 h3778=>rnI [.el (aI .i64 (List.length [x.A,x.B]:Int))] ?_
     intro h
     refine wkT [(4,3)] (X2.cut (X1v ([]:List Bool) [x.A,x.B] nbS qh3752 [x.A,x.B] 0 (by simp) _ h3778 ?_ ?_))
     ·
      intro eo3777;subst eo3777
      refine X2.glue ?_
      try dsimp only at h
      obtain rfl:=oj h
      refine X10 [] ?_
      refine X2.back (by intro id h;cases h) rfl ?_
      exact wkT [] (J)
     intro eo3777;subst eo3777
     refine X2.glue ?_
     try dsimp only at h
     obtain rfl:=oj h
     refine X10 [] ?_
     refine X2.back (by intro id h;cases h) rfl ?_
     exact wkT [] (J)
    intro h
    obtain rfl:=oj h
    exact X9 [.ix 0,.go false,.go false,.go false,.go true,.ix 1,.go true,.go true,.go false,.go false,.go false,.go true,.go true] (k:=wkT [] (X2.glue J))
   intro h
   obtain rfl:=oj h
   exact X9 [.ix 0,.go false,.go false,.go false,.go false,.go false,.go false,.go false,.go false,.go false,.go false,.go false] (k:=wkT [] (X2.glue J))
  clear h;revert h3264
  refine brI (fun h3261=>?_) fun h3261=>?_
  ·
   intro h
   simp only[Option.some.injEq,Prod.mk.injEq] at h
   obtain⟨rfl,rfl⟩:=h
   exact X9 [Bt] (k:=wkT [(2,3),(3,4)] (X2.glue J))
  refine brI (fun h3262=>?_) fun h3262=>?_
  ·
   intro h
   simp only[Option.some.injEq,Prod.mk.injEq] at h
   obtain⟨rfl,rfl⟩:=h
   exact X9 [Bf,Bt] (k:=wkT [(2,3),(3,4)] (X2.glue J))
  refine brI (fun h3263=>?_) fun h3263=>?_
  ·
   intro h
   simp only[Option.some.injEq,Prod.mk.injEq] at h
   obtain⟨rfl,rfl⟩:=h
   exact X9 [Bf,Bf,Bt] (k:=wkT [(2,3),(3,4)] (X2.glue J))
  intro h
  simp only[Option.some.injEq,Prod.mk.injEq] at h
  obtain⟨rfl,rfl⟩:=h
  exact X9 [Bf,Bf,Bf] (k:=wkT [(2,3),(3,4)] (X2.glue J))
instance X05q:PCs Tryz.prog 156 (∀ (a0:(List X05)) (r:(List Bool)×Int),Xgh a0=some r->X0g Tryz.prog 156 [(Lf (a0.map X4))] (AV.tup [(AV.list true (r.1.map aB)),(aI .i64 r.2)])):=⟨fun a0 r h=>by
 refine X0g.sym Xa X0dm (nt:=88) rfl rfl ?_ okM
 unfold Xgh at h
 revert h
 refine bI fun u1 h2=>?_
 have qh2:=X08 h2
 refine bI fun o3784 h3785=>rnI [.el (aI .i64 (a0.length:Int))] ?_
 intro h
 refine wkT [] (X2.cut (Xkt a0 qh2 a0 0 (by simp) _ nbS _ h3785 ?_ ?_))
 ·
  intro X0s X0v eo3784;subst eo3784
  refine X2.glue ?_
  try dsimp only at h
  rcases X0v with ⟨_|_,X33⟩
  ·
   revert h
   exact fun e=>oj e▸X9 [.el (aI .i64 (a0.length:Int))] (k:=fi)
  obtain rfl:=X33 rfl
  revert h
  exact fun e=>oj e▸X9 [.el (aI .i64 (a0.length:Int))] (k:=fi)
 intro X0e Xhr X0c eo3784;subst eo3784
 refine X2.glue ?_
 try dsimp only at h
 rcases X0c with ⟨_|_,X30⟩
 ·
  revert h
  exact fun e=>oj e▸X9 [] (k:=fi)
 obtain rfl:=X30 rfl
 revert h
 exact fun e=>oj e▸X9 [] (k:=fi)⟩
instance X091:PCs Tryz.prog 130 (∀ (a0:(List X05)) (r:Bool×Int×Int),Xgi a0=some r->X0g Tryz.prog 130 [(Lf (a0.map X4))] (AV.tup [(aB r.1),(aI .i64 r.2.1),(aI .i64 r.2.2)])):=⟨fun a0 r h=>by
 refine X0g.sym Xa X0e4 (nt:=30) rfl rfl ?_ okM
 unfold Xgi at h
 revert h
 refine bI fun v1 h2=>brI (fun h3=>fun e=>oj e▸X9 [.pure _ (aI .i64 v1),Bt] (k:=fi)) fun h3=>bI fun v4 h5=>brI (fun h6=>fun e=>oj e▸X9 [.pure _ (aI .i64 v1),Bf,.pure _ (AV.tup [(AV.list true (v4.1.map aB)),(aI .i64 v4.2)]),.el (aI .i64 (a0.length:Int)),Bt] (k:=fi)) fun h6=>bI fun e7 h8=>?_
 try have qh8:=Xn h8
 exact fun e=>oj e▸X9 [.pure _ (aI .i64 v1),Bf,.pure _ (AV.tup [(AV.list true (v4.1.map aB)),(aI .i64 v4.2)]),.el (aI .i64 (a0.length:Int)),Bf,.wrap,.el (aB e7),.wrap] (k:=fi)⟩
instance X05p:PCs Tryz.prog 108 (∀ (a0:(List X05)) (a1:Bool) (r:Int×Int),Xay a0 a1=some r->X0g Tryz.prog 108 [(Lf (a0.map X4)),(aB a1)] (AV.tup [(aI .i64 r.1),(aI .i64 r.2)])):=⟨fun a0 a1 r h=>by
 refine X0g.sym Xa X0el (nt:=24) rfl rfl ?_ okM
 unfold Xay at h
 revert h
 refine bI fun v1 h2=>bI fun j4_8 h6=>rnI [.pure _ (AV.tup [(aB v1.1),(aI .i64 v1.2.1),(aI .i64 v1.2.2)])] ?_
 intro h
 refine X2.join (s':=⟨fr [(7,(aI .i64 v1.2.1)),(8,(aI .i64 j4_8))],hp ([]),0⟩) ?_ (fun J=>X2.cut ?_)
 ·
  revert h
  exact fun e=>oj e▸X9 [] (k:=fi)
 clear h;revert h6
 refine brI (fun h5=>?_) fun h5=>?_
 ·
  intro h
  obtain rfl:=oj h
  exact X9 [Bt] (k:=wkT [] (X2.glue J))
 intro h
 obtain rfl:=oj h
 exact X9 [Bf] (k:=wkT [] (X2.glue J))⟩
instance X04m:PCs Tryz.prog 76 (∀ (a0:(List X05)) (r:Int×Int),Xby a0=some r->X0g Tryz.prog 76 [(Lf (a0.map X4))] (AV.tup [(aI .i64 r.1),(aI .i64 r.2)])):=⟨fun a0 r h=>by
 refine X0g.sym Xa fn76 (nt:=8) rfl rfl ?_ okM
 unfold Xby at h
 revert h
 exact bI fun v1 h2=>fun e=>oj e▸X9 [.pure _ (AV.tup [(aI .i64 v1.1),(aI .i64 v1.2)])] (k:=fi)⟩
instance X01g:PCs Tryz.prog 75 (∀ (a0:(List X05)) (r:Int×Int),Xci a0=some r->X0g Tryz.prog 75 [(Lf (a0.map X4))] (AV.tup [(aI .i64 r.1),(aI .i64 r.2)])):=⟨fun a0 r h=>by
 refine X0g.sym Xa fn75 (nt:=8) rfl rfl ?_ okM
 unfold Xci at h
 revert h
 exact bI fun v1 h2=>fun e=>oj e▸X9 [.pure _ (AV.tup [(aI .i64 v1.1),(aI .i64 v1.2)])] (k:=fi)⟩
end Go.Av.Tryz