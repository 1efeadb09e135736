/- Printed by decomp.py: that the program computes the functions. -/
import Derived.Test.YtkjlgmgfhgamlaaGreatDCert2Z
set_option linter.all false

namespace Go.Av.Tryz
open Go.Proofs Go.D
set_option maxRecDepth 10000
set_option maxHeartbeats 40000000
theorem Xge {Q:Xv->St->Mu->Prop} {μ:Mu} (X0y:(List X05)) (hl:X0y.length<=140737488355328):∀ (xs:List X05) (k:Nat) (hx:X0y.drop k=xs) (Xk:(List Bool)) (Xs:Nb Xk) (o:X56) (h:X1t X0y xs k Xk=some o)
  (C0:∀ (X0l:(List Bool)) (X1a:Nb X0l),o=X56.x0 X0l->X3 Tryz.prog 88 0 Q (.exit (.exit 0)) [] ⟨fr [(0,(Lf (X0y.map X6))),(4,(AV.ptr 0 0 0))],hp ([(0,Ob [(slE X1a.1 1 (X0l.map aB))] 1)]++opE X1a.1 1 1 (X0l.map aB)),2⟩ μ)
  (C1:∀ (X1i:(List Bool)) (Xj7:Int) (X1c:Nb X1i),o=X56.x1 X1i Xj7->X3 Tryz.prog 88 0 Q (.exit .ret) [] ⟨fr [(2,(slE X1c.1 0 (X1i.map aB))),(3,(aI .i64 Xj7))],hp ([]++opE X1c.1 0 1 (X1i.map aB)),1⟩ μ),
  X3 Tryz.prog 88 0 Q (.loop (X4y 0 (Xb Tryz.f199))) [] ⟨fr [(0,(Lf (X0y.map X6))),(4,(AV.ptr 0 0 0)),(5,(AV.fn 212 [(AV.ptr 0 0 0)])),(12,(Lf (X0y.map X6))),(13,(aI .i64 (X0y.length:Int))),(14,(aI .i64 (k:Int)))],hp ([(0,Ob [(slE Xs.1 1 (Xk.map aB))] 1)]++opE Xs.1 1 1 (Xk.map aB)),2⟩ μ:=by
 intro xs
 induction xs with
 |nil =>
  intro k hx Xk Xs o h C0 C1
  have hk:=X1h hx
  have hc:decide ((k:Int)<(X0y.length:Int))=false:=Yf (by omega)
  rw[X1t] at h
  rcases Xs with ⟨_|_,X0i⟩
  ·
   refine X3.round ?_
   revert h
   exact fun e=>Xa [Bf] (k:=wkT [] (C0 _  nbF (oj e).symm))
  ·
   obtain rfl:=X0i rfl
   refine X3.round ?_
   revert h
   exact fun e=>Xa [Bf] (k:=wkT [] (C0 _  nbS (oj e).symm))
 |cons x xs ih =>
  intro k hx Xk Xs o h C0 C1
  obtain⟨hk,hg,hx1⟩:=X0w hx
  have hc:decide ((k:Int)<(X0y.length:Int))=true:=Yt (by omega)
  rw[X1t] at h
  rcases Xs with ⟨_|_,X0i⟩
  ·
   refine X3.round ?_
   revert h
   refine brI (fun h2524=>?_) fun h2524=>?_
   ·
    refine bI fun u2525 h2526=>rnI [Bt,.el (X6 x),Bt,.no] (o:=by repeat' first|apply Ya|exact pcM|(refine X1o h2526 rfl ?_;first|(simp;done)|(simp;omega)|(simp[hc,h2524];done)|(simp[hc,h2524];omega))|(refine X0d h2526 (by decide) ?_;first|(simp;done)|(simp;omega)|(simp[hc,h2524];done)|(simp[hc,h2524];omega))|exact X04) ?_
    intro h
    exact wkT [(1,6)] (ih (k+1) hx1 _ nbF o h C0 C1)
   refine brI (fun h2533=>?_) fun h2533=>?_
   ·
    refine bI fun Xkd h2549=>rnI [Bt,.el (X6 x),Bf,Bt,.see [(38,[4])],.stop 22] ?_
    intro h
    refine X3.join (s':=⟨fr [(0,(Lf (X0y.map X6))),(4,(AV.ptr 0 0 0)),(5,(AV.fn 212 [(AV.ptr 0 0 0)])),(6,(aI .i64 (k:Int))),(9,(aB false)),(12,(Lf (X0y.map X6))),(13,(aI .i64 (X0y.length:Int))),(14,(aI .i64 (k:Int))),(78,(aB Xkd))],hp ([(0,Ob [(AV.ref 1 0 (Xk.length))] 1),(1,Ob (Xk.map aB) 1)]),2⟩) ?_ (fun J=>X3.cut ?_)
    ·
     revert h
     refine brI (fun h2550=>fun e=>Xa [Bt] (k:=wkT [] (C1 _ _  nbS (oj e).symm))) fun h2550=>?_
     refine bI fun u2551 h2552=>rnI [Bf,.no] (o:=by repeat' first|apply Ya|exact pcM|(refine X1o h2552 rfl ?_;first|(simp;done)|(simp;omega)|(simp[hc,h2524,h2533,h2550];done)|(simp[hc,h2524,h2533,h2550];omega))|(refine X0d h2552 (by decide) ?_;first|(simp;done)|(simp;omega)|(simp[hc,h2524,h2533,h2550];done)|(simp[hc,h2524,h2533,h2550];omega))|exact X04) ?_
     intro h
     exact wkT [(1,3)] (ih (k+1) hx1 _ nbF o h C0 C1)
    clear h;revert h2549
    refine rnI [.ix 0,.go true,.go true,.stop 999999] ?_
    intro h
    refine X3.inlineG X5 Xj2 rfl rfl rfl rfl rfl rfl rfl rfl rfl rfl (rfl) trivial trivial ?_
    refine X09 [] ?_
    refine X3.round ?_
    revert h
    refine bI fun e2546 h2547=>?_
    try have qh2547:=Xq h2547
    refine brI (fun h2548=>?_) fun h2548=>?_
    ·
     refine rnI [Bt,.el ((aI .i64 x.A)),.el (aB e2546),.ld (aB e2546),Bt] ?_
     intro h
     refine X3.back (by intro id h;cases h) rfl ?_
     obtain rfl:=oj h
     exact Xa [.go true,.ix 1,.go true,.go true,.go false,.go false,.go false,.go true,.go true] (k:=wkT [] (X3.glue J))
    refine rnI [Bt,.el ((aI .i64 x.A)),.el (aB e2546),.ld (aB e2546),Bf] ?_
    intro h
    refine X3.round ?_
    refine X09 [Bf] ?_
    refine X3.back (by intro id h;cases h) rfl ?_
    obtain rfl:=oj h
    exact Xa [.go false,.go false,.go false,.go false,.go false,.go false,.go false,.go false] (k:=wkT [] (X3.glue J))
   refine brI (fun h2558=>?_) fun h2558=>?_
   ·
    refine bI fun Xkc h2574=>rnI [Bt,.el (X6 x),Bf,Bf,Bt,.see [(45,[4])],.ix 0,.go false,.go false,.go false,.go true,.ix 1,.go true,.go true,.go true,.go true,.stop 999999] ?_
    intro h
    refine X3.joinOp (s':=⟨fr [(0,(Lf (X0y.map X6))),(4,(AV.ptr 0 0 0)),(5,(AV.fn 212 [(AV.ptr 0 0 0)])),(6,(aI .i64 (k:Int))),(9,(aB true)),(12,(Lf (X0y.map X6))),(13,(aI .i64 (X0y.length:Int))),(14,(aI .i64 (k:Int))),(69,(aB (!(bif false then false else false)))),(72,(aB true)),(75,(aB Xkc))],hp ([(0,Ob [(AV.ref 1 0 (Xk.length))] 1),(1,Ob (Xk.map aB) 1)]),2⟩) ?_ (fun J=>?_)
    ·
     revert h
     refine brI (fun h2575=>fun e=>Xa [.go true,.go true,Bt] (k:=wkT [] (C1 _ _  nbS (oj e).symm))) fun h2575=>?_
     refine bI fun u2576 h2577=>rnI [.go true,.go true,Bf,.no] (o:=by repeat' first|apply Ya|exact pcM|(refine X1o h2577 rfl ?_;first|(simp;done)|(simp;omega)|(simp[hc,h2524,h2533,h2558,h2575];done)|(simp[hc,h2524,h2533,h2558,h2575];omega))|(refine X0d h2577 (by decide) ?_;first|(simp;done)|(simp;omega)|(simp[hc,h2524,h2533,h2558,h2575];done)|(simp[hc,h2524,h2533,h2558,h2575];omega))|exact X04) ?_
     intro h
     exact wkT [(1,3)] (ih (k+1) hx1 _ nbF o h C0 C1)
    clear h;revert h2574
    intro h
    refine X3.inlineG X5 Xj2 rfl rfl rfl rfl rfl rfl rfl rfl rfl rfl (rfl) trivial trivial ?_
    refine X09 [] ?_
    refine X3.round ?_
    revert h
    refine bI fun e2571 h2572=>?_
    try have qh2572:=Xq h2572
    refine brI (fun h2573=>?_) fun h2573=>?_
    ·
     intro h
     obtain rfl:=oj h
     refine X09 [Bt,.el ((aI .i64 x.A)),.el (aB e2571),.ld (aB e2571),Bt] ?_
     refine X3.back (by intro id h;cases h) rfl ?_
     exact wkT [] (J)
    refine rnI [Bt,.el ((aI .i64 x.A)),.el (aB e2571),.ld (aB e2571),Bf] ?_
    intro h
    refine X3.round ?_
    obtain rfl:=oj h
    refine X09 [Bf] ?_
    refine X3.back (by intro id h;cases h) rfl ?_
    exact wkT [] (J)
   refine bI fun w2581 h2585=>?_
   intro h
   obtain⟨X9t,Xhu⟩:=w2581
   try dsimp only at h
   refine X09 [Bt,.el (X6 x),Bf,Bf,Bf] ?_
   refine X3.join (s':=⟨fr [(0,(Lf (X0y.map X6))),(4,(AV.ptr 0 0 0)),(5,(AV.fn 212 [(AV.ptr 0 0 0)])),(6,(aI .i64 (k:Int))),(8,(AV.ptr 2 0 0)),(9,(aB Xhu)),(10,(AV.ref 3 0 (List.length [x.A,x.B]))),(12,(Lf (X0y.map X6))),(13,(aI .i64 (X0y.length:Int))),(14,(aI .i64 (k:Int)))],hp ([(0,Ob [(AV.ref 1 0 (Xk.length))] 1),(1,Ob (Xk.map aB) 1),(2,Ob [(X8f X9t)] 2),(3,Ob (List.map (aI .i64) [x.A,x.B]) 1)]),4⟩) ?_ (fun J=>X3.cut ?_)
   ·
    revert h
    refine bI fun Xkb h3221=>rnI [.stop 22] ?_
    intro h
    refine X3.join (s':=⟨fr [(0,(Lf (X0y.map X6))),(4,(AV.ptr 0 0 0)),(5,(AV.fn 212 [(AV.ptr 0 0 0)])),(6,(aI .i64 (k:Int))),(9,(aB Xhu)),(12,(Lf (X0y.map X6))),(13,(aI .i64 (X0y.length:Int))),(14,(aI .i64 (k:Int))),(78,(aB Xkb))],hp ([(0,Ob [(AV.ref 1 0 (Xk.length))] 1),(1,Ob (Xk.map aB) 1)]),2⟩) ?_ (fun J=>X3.cut ?_)
    ·
     revert h
     refine brI (fun h3222=>fun e=>Xa [Bt] (k:=wkT [] (C1 _ _  nbS (oj e).symm))) fun h3222=>?_
     refine bI fun u3223 h3224=>rnI [Bf,.no] (o:=by repeat' first|apply Ya|exact pcM|(refine X1o h3224 rfl ?_;first|(simp;done)|(simp;omega)|(simp[hc,h2524,h2533,h2558,h3222];done)|(simp[hc,h2524,h2533,h2558,h3222];omega))|(refine X0d h3224 (by decide) ?_;first|(simp;done)|(simp;omega)|(simp[hc,h2524,h2533,h2558,h3222];done)|(simp[hc,h2524,h2533,h2558,h3222];omega))|exact X04) ?_
     intro h
     exact wkT [(1,3)] (ih (k+1) hx1 _ nbF o h C0 C1)
    clear h;revert h3221
    refine brI (fun h2904=>?_) fun h2904=>?_
    ·
     refine bI fun Xb3 h3018=>rnI [.ix 0,.go true,.go true,.stop 999999] ?_
     intro h
     refine X3.joinOp (s':=⟨fr [(0,(Lf (X0y.map X6))),(4,(AV.ptr 0 0 0)),(5,(AV.fn 212 [(AV.ptr 0 0 0)])),(6,(aI .i64 (k:Int))),(8,(AV.ptr 2 0 0)),(9,(aB Xhu)),(10,(AV.ref 3 0 (List.length [x.A,x.B]))),(12,(Lf (X0y.map X6))),(13,(aI .i64 (X0y.length:Int))),(14,(aI .i64 (k:Int))),(63,(aB X9t.e0)),(66,(aB Xb3))],hp ([(0,Ob [(AV.ref 1 0 (Xk.length))] 1),(1,Ob (Xk.map aB) 1),(2,Ob [(X8f X9t)] 2),(3,Ob (List.map (aI .i64) [x.A,x.B]) 1)]),4⟩) ?_ (fun J=>?_)
     ·
      revert h
      refine brI (fun h3019=>?_) fun h3019=>?_
      ·
       refine brI (fun h3020=>?_) fun h3020=>?_
       ·
        refine bI fun Xka h3134=>rnI [.go true,.ix 1,.go true,.go true,.go true,.go true,.stop 999999] ?_
        intro h
        refine X3.joinOp (s':=⟨fr [(0,(Lf (X0y.map X6))),(4,(AV.ptr 0 0 0)),(5,(AV.fn 212 [(AV.ptr 0 0 0)])),(6,(aI .i64 (k:Int))),(9,(aB Xhu)),(12,(Lf (X0y.map X6))),(13,(aI .i64 (X0y.length:Int))),(14,(aI .i64 (k:Int))),(69,(aB (!(bif X9t.e0 then Xb3 else false)))),(72,(aB X9t.e1)),(75,(aB Xka))],hp ([(0,Ob [(AV.ref 1 0 (Xk.length))] 1),(1,Ob (Xk.map aB) 1)]),2⟩) ?_ (fun J=>?_)
        ·
         obtain rfl:=oj h
         exact Xa [.go true,.go true] (k:=wkT [] (X3.glue J))
        clear h;revert h3134
        intro h
        refine X3.inlineG X5 Xj2 rfl rfl rfl rfl rfl rfl rfl rfl rfl rfl (h3020) trivial trivial ?_
        revert h
        refine bI fun u3096 h3097=>?_
        have qh3097:=X12 h3097
        refine bI fun o3132 h3133=>rnI [.el (aI .i64 (List.length [x.A,x.B]:Int))] ?_
        intro h
        refine wkT [(4,3)] (X3.cut (X1s Xk [x.A,x.B] nbF qh3097 [x.A,x.B] 0 (by simp) _ h3133 ?_ ?_))
        ·
         intro eo3132;subst eo3132
         refine X3.glue ?_
         try dsimp only at h
         obtain rfl:=oj h
         refine X09 [] ?_
         refine X3.back (by intro id h;cases h) rfl ?_
         exact wkT [] (J)
        intro eo3132;subst eo3132
        refine X3.glue ?_
        try dsimp only at h
        obtain rfl:=oj h
        refine X09 [] ?_
        refine X3.back (by intro id h;cases h) rfl ?_
        exact wkT [] (J)
       intro h
       obtain rfl:=oj h
       exact Xa [.go true,.ix 1,.go true,.go true,.go false,.go false,.go false,.go true,.go true] (k:=wkT [] (X3.glue J))
      intro h
      obtain rfl:=oj h
      exact Xa [.go false,.go false,.go false,.go false,.go false,.go false,.go false,.go false] (k:=wkT [] (X3.glue J))
     clear h;revert h3018
     intro h
     refine X3.inlineG X5 Xj2 rfl rfl rfl rfl rfl rfl rfl rfl rfl rfl (h2904) trivial trivial ?_
     revert h
     refine bI fun u2980 h2981=>?_
     have qh2981:=X12 h2981
     refine bI fun o3016 h3017=>rnI [.el (aI .i64 (List.length [x.A,x.B]:Int))] ?_
     intro h
     refine wkT [] (X3.cut (X4o Xk X9t [x.A,x.B] nbF qh2981 [x.A,x.B] 0 (by simp) _ h3017 ?_ ?_))
     ·
      intro eo3016;subst eo3016
      refine X3.glue ?_
      try dsimp only at h
      obtain rfl:=oj h
      refine X09 [] ?_
      refine X3.back (by intro id h;cases h) rfl ?_
      exact wkT [] (J)
     intro eo3016;subst eo3016
     refine X3.glue ?_
     try dsimp only at h
     obtain rfl:=oj h
     refine X09 [] ?_
     refine X3.back (by intro id h;cases h) rfl ?_
     exact wkT [] (J)
    refine brI (fun h3135=>?_) fun h3135=>?_
    ·
     refine brI (fun h3136=>?_) fun h3136=>?_
     ·
      refine bI fun Xk9 h3220=>rnI [.ix 0,.go false,.go false,.go false,.go true,.ix 1,.go true,.go true,.go true,.go true,.stop 999999] ?_
      intro h
      refine X3.joinOp (s':=⟨fr [(0,(Lf (X0y.map X6))),(4,(AV.ptr 0 0 0)),(5,(AV.fn 212 [(AV.ptr 0 0 0)])),(6,(aI .i64 (k:Int))),(9,(aB Xhu)),(12,(Lf (X0y.map X6))),(13,(aI .i64 (X0y.length:Int))),(14,(aI .i64 (k:Int))),(69,(aB (!(bif X9t.e0 then false else false)))),(72,(aB X9t.e1)),(75,(aB Xk9))],hp ([(0,Ob [(AV.ref 1 0 (Xk.length))] 1),(1,Ob (Xk.map aB) 1)]),2⟩) ?_ (fun J=>?_)
      ·
       obtain rfl:=oj h
       exact Xa [.go true,.go true] (k:=wkT [] (X3.glue J))
      clear h;revert h3220
      intro h
      refine X3.inlineG X5 Xj2 rfl rfl rfl rfl rfl rfl rfl rfl rfl rfl (h3136) trivial trivial ?_
      revert h
      refine bI fun u3192 h3193=>?_
      have qh3193:=X12 h3193
      refine bI fun o3218 h3219=>rnI [.el (aI .i64 (List.length [x.A,x.B]:Int))] ?_
      intro h
      refine wkT [(4,3)] (X3.cut (X1s Xk [x.A,x.B] nbF qh3193 [x.A,x.B] 0 (by simp) _ h3219 ?_ ?_))
      ·
       intro eo3218;subst eo3218
       refine X3.glue ?_
       try dsimp only at h
       obtain rfl:=oj h
       refine X09 [] ?_
       refine X3.back (by intro id h;cases h) rfl ?_
       exact wkT [] (J)
      intro eo3218;subst eo3218
      refine X3.glue ?_
      try dsimp only at h
      obtain rfl:=oj h
      refine X09 [] ?_
      refine X3.back (by intro id h;cases h) rfl ?_
      exact wkT [] (J)
     intro h
     obtain rfl:=oj h
     exact Xa [.ix 0,.go false,.go false,.go false,.go true,.ix 1,.go true,.go true,.go false,.go false,.go false,.go true,.go true] (k:=wkT [] (X3.glue J))
    intro h
    obtain rfl:=oj h
    exact Xa [.ix 0,.go false,.go false,.go false,.go false,.go false,.go false,.go false,.go false,.go false,.go false,.go false] (k:=wkT [] (X3.glue J))
   clear h;revert h2585
   refine brI (fun h2582=>?_) fun h2582=>?_
   ·
    intro h
    simp only[Option.some.injEq,Prod.mk.injEq] at h
    obtain⟨rfl,rfl⟩:=h
    exact Xa [Bt] (k:=wkT [(2,3),(3,4)] (X3.glue J))
   refine brI (fun h2583=>?_) fun h2583=>?_
   ·
    intro h
    simp only[Option.some.injEq,Prod.mk.injEq] at h
    obtain⟨rfl,rfl⟩:=h
    exact Xa [Bf,Bt] (k:=wkT [(2,3),(3,4)] (X3.glue J))
   refine brI (fun h2584=>?_) fun h2584=>?_
   ·
    intro h
    simp only[Option.some.injEq,Prod.mk.injEq] at h
    obtain⟨rfl,rfl⟩:=h
    exact Xa [Bf,Bf,Bt] (k:=wkT [(2,3),(3,4)] (X3.glue J))
   intro h
   simp only[Option.some.injEq,Prod.mk.injEq] at h
   obtain⟨rfl,rfl⟩:=h
   exact Xa [Bf,Bf,Bf] (k:=wkT [(2,3),(3,4)] (X3.glue J))
  obtain rfl:=X0i rfl
  refine X3.round ?_
  revert h
  refine brI (fun h3225=>?_) fun h3225=>?_
  ·
   refine bI fun u3226 h3227=>rnI [Bt,.el (X6 x),Bt,.no] (o:=by repeat' first|apply Ya|exact pcM|(refine X1o h3227 rfl ?_;first|(simp;done)|(simp;omega)|(simp[hc,h3225];done)|(simp[hc,h3225];omega))|(refine X0d h3227 (by decide) ?_;first|(simp;done)|(simp;omega)|(simp[hc,h3225];done)|(simp[hc,h3225];omega))|exact X04) ?_
   intro h
   exact wkT [(1,6)] (ih (k+1) hx1 _ nbF o h C0 C1)
  refine brI (fun h3233=>?_) fun h3233=>?_
  ·
   refine rnI [Bt,.el (X6 x),Bf,Bt,.see [(38,[4])],.ix 0,.go true,.go true,.stop 999999] ?_
   intro h
   refine X3.inlineG X5 Xj2 rfl rfl rfl rfl rfl rfl rfl rfl rfl rfl (rfl) trivial trivial ?_
   refine X09 [] ?_
   refine X3.round ?_
   revert h
   refine bI fun e3241 h3242=>?_
   try have qh3242:=Xq h3242
   intro h
   exact absurd (h3242) (by simp[X3b])
  refine brI (fun h3247=>?_) fun h3247=>?_
  ·
   refine rnI [Bt,.el (X6 x),Bf,Bf,Bt,.see [(45,[4])],.ix 0,.go false,.go false,.go false,.go true,.ix 1,.go true,.go true,.go true,.go true,.stop 999999] ?_
   intro h
   refine X3.inlineG X5 Xj2 rfl rfl rfl rfl rfl rfl rfl rfl rfl rfl (rfl) trivial trivial ?_
   refine X09 [] ?_
   refine X3.round ?_
   revert h
   refine bI fun e3255 h3256=>?_
   try have qh3256:=Xq h3256
   intro h
   exact absurd (h3256) (by simp[X3b])
  refine bI fun w3260 h3264=>?_
  intro h
  obtain⟨X9s,Xht⟩:=w3260
  try dsimp only at h
  refine X09 [Bt,.el (X6 x),Bf,Bf,Bf] ?_
  refine X3.join (s':=⟨fr [(0,(Lf (X0y.map X6))),(4,(AV.ptr 0 0 0)),(5,(AV.fn 212 [(AV.ptr 0 0 0)])),(6,(aI .i64 (k:Int))),(8,(AV.ptr 2 0 0)),(9,(aB Xht)),(10,(AV.ref 3 0 (List.length [x.A,x.B]))),(12,(Lf (X0y.map X6))),(13,(aI .i64 (X0y.length:Int))),(14,(aI .i64 (k:Int)))],hp ([(0,Ob [AV.nils] 1),(2,Ob [(X8f X9s)] 2),(3,Ob (List.map (aI .i64) [x.A,x.B]) 1)]),4⟩) ?_ (fun J=>X3.cut ?_)
  ·
   revert h
   refine bI fun Xw9 h3780=>rnI [.stop 22] ?_
   intro h
   refine X3.join (s':=⟨fr [(0,(Lf (X0y.map X6))),(4,(AV.ptr 0 0 0)),(5,(AV.fn 212 [(AV.ptr 0 0 0)])),(6,(aI .i64 (k:Int))),(9,(aB Xht)),(12,(Lf (X0y.map X6))),(13,(aI .i64 (X0y.length:Int))),(14,(aI .i64 (k:Int))),(78,(aB Xw9))],hp ([(0,Ob [AV.nils] 1)]),2⟩) ?_ (fun J=>X3.cut ?_)
   ·
    revert h
    refine brI (fun h3781=>fun e=>Xa [Bt] (k:=wkT [] (C1 _ _  nbS (oj e).symm))) fun h3781=>?_
    refine bI fun u3782 h3783=>rnI [Bf,.no] (o:=by repeat' first|apply Ya|exact pcM|(refine X1o h3783 rfl ?_;first|(simp;done)|(simp;omega)|(simp[hc,h3225,h3233,h3247,h3781];done)|(simp[hc,h3225,h3233,h3247,h3781];omega))|(refine X0d h3783 (by decide) ?_;first|(simp;done)|(simp;omega)|(simp[hc,h3225,h3233,h3247,h3781];done)|(simp[hc,h3225,h3233,h3247,h3781];omega))|exact X04) ?_
    intro h
    exact wkT [(1,3)] (ih (k+1) hx1 _ nbF o h C0 C1)
   clear h;revert h3780
   refine brI (fun h3523=>?_) fun h3523=>?_
   ·
    refine bI fun Xpb h3607=>rnI [.ix 0,.go true,.go true,.stop 999999] ?_
    intro h
    refine X3.joinOp (s':=⟨fr [(0,(Lf (X0y.map X6))),(4,(AV.ptr 0 0 0)),(5,(AV.fn 212 [(AV.ptr 0 0 0)])),(6,(aI .i64 (k:Int))),(8,(AV.ptr 2 0 0)),(9,(aB Xht)),(10,(AV.ref 3 0 (List.length [x.A,x.B]))),(12,(Lf (X0y.map X6))),(13,(aI .i64 (X0y.length:Int))),(14,(aI .i64 (k:Int))),(63,(aB X9s.e0)),(66,(aB Xpb))],hp ([(0,Ob [AV.nils] 1),(2,Ob [(X8f X9s)] 2),(3,Ob (List.map (aI .i64) [x.A,x.B]) 1)]),4⟩) ?_ (fun J=>?_)
    ·
     revert h
     refine brI (fun h3608=>?_) fun h3608=>?_
     ·
      refine brI (fun h3609=>?_) fun h3609=>?_
      ·
       refine bI fun Xw8 h3693=>rnI [.go true,.ix 1,.go true,.go true,.go true,.go true,.stop 999999] ?_
       intro h
       refine X3.joinOp (s':=⟨fr [(0,(Lf (X0y.map X6))),(4,(AV.ptr 0 0 0)),(5,(AV.fn 212 [(AV.ptr 0 0 0)])),(6,(aI .i64 (k:Int))),(9,(aB Xht)),(12,(Lf (X0y.map X6))),(13,(aI .i64 (X0y.length:Int))),(14,(aI .i64 (k:Int))),(69,(aB (!(bif X9s.e0 then Xpb else false)))),(72,(aB X9s.e1)),(75,(aB Xw8))],hp ([(0,Ob [AV.nils] 1)]),2⟩) ?_ (fun J=>?_)
       ·
        obtain rfl:=oj h
        exact Xa [.go true,.go true] (k:=wkT [] (X3.glue J))
       clear h;revert h3693
       intro h
       refine X3.inlineG X5 Xj2 rfl rfl rfl rfl rfl rfl rfl rfl rfl rfl (h3609) trivial trivial ?_
       revert h
       refine bI fun u3665 h3666=>?_
       have qh3666:=X12 h3666
       refine bI fun o3691 h3692=>rnI [.el (aI .i64 (List.length [x.A,x.B]:Int))] ?_
       intro h
       refine wkT [(4,3)] (X3.cut (X1s ([]:List Bool) [x.A,x.B] nbS qh3666 [x.A,x.B] 0 (by simp) _ h3692 ?_ ?_))
       ·
        intro eo3691;subst eo3691
        refine X3.glue ?_
        try dsimp only at h
        obtain rfl:=oj h
        refine X09 [] ?_
        refine X3.back (by intro id h;cases h) rfl ?_
        exact wkT [] (J)
       intro eo3691;subst eo3691
       refine X3.glue ?_
       try dsimp only at h
       obtain rfl:=oj h
       refine X09 [] ?_
       refine X3.back (by intro id h;cases h) rfl ?_
       exact wkT [] (J)
      intro h
      obtain rfl:=oj h
      exact Xa [.go true,.ix 1,.go true,.go true,.go false,.go false,.go false,.go true,.go true] (k:=wkT [] (X3.glue J))
     intro h
     obtain rfl:=oj h
     exact Xa [.go false,.go false,.go false,.go false,.go false,.go false,.go false,.go false] (k:=wkT [] (X3.glue J))
    clear h;revert h3607
    intro h
    refine X3.inlineG X5 Xj2 rfl rfl rfl rfl rfl rfl rfl rfl rfl rfl (h3523) trivial trivial ?_
    revert h
    refine bI fun u3579 h3580=>?_
    have qh3580:=X12 h3580
    refine bI fun o3605 h3606=>rnI [.el (aI .i64 (List.length [x.A,x.B]:Int))] ?_
    intro h
    refine wkT [] (X3.cut (X4o ([]:List Bool) X9s [x.A,x.B] nbS qh3580 [x.A,x.B] 0 (by simp) _ h3606 ?_ ?_))
    ·
     intro eo3605;subst eo3605
     refine X3.glue ?_
     try dsimp only at h
     obtain rfl:=oj h
     refine X09 [] ?_
     refine X3.back (by intro id h;cases h) rfl ?_
     exact wkT [] (J)
    intro eo3605;subst eo3605
    refine X3.glue ?_
    try dsimp only at h
    obtain rfl:=oj h
    refine X09 [] ?_
    refine X3.back (by intro id h;cases h) rfl ?_
    exact wkT [] (J)
   refine brI (fun h3694=>?_) fun h3694=>?_
   ·
    refine brI (fun h3695=>?_) fun h3695=>?_
    ·
     refine bI fun Xw7 h3779=>rnI [.ix 0,.go false,.go false,.go false,.go true,.ix 1,.go true,.go true,.go true,.go true,.stop 999999] ?_
     intro h
     refine X3.joinOp (s':=⟨fr [(0,(Lf (X0y.map X6))),(4,(AV.ptr 0 0 0)),(5,(AV.fn 212 [(AV.ptr 0 0 0)])),(6,(aI .i64 (k:Int))),(9,(aB Xht)),(12,(Lf (X0y.map X6))),(13,(aI .i64 (X0y.length:Int))),(14,(aI .i64 (k:Int))),(69,(aB (!(bif X9s.e0 then false else false)))),(72,(aB X9s.e1)),(75,(aB Xw7))],hp ([(0,Ob [AV.nils] 1)]),2⟩) ?_ (fun J=>?_)
     ·
      obtain rfl:=oj h
      exact Xa [.go true,.go true] (k:=wkT [] (X3.glue J))
     clear h;revert h3779
     intro h
     refine X3.inlineG X5 Xj2 rfl rfl rfl rfl rfl rfl rfl rfl rfl rfl (h3695) trivial trivial ?_
     revert h
     refine bI fun u3751 h3752=>?_
     have qh3752:=X12 h3752
     refine bI fun o3777 h3778=>rnI [.el (aI .i64 (List.length [x.A,x.B]:Int))] ?_
     intro h
     refine wkT [(4,3)] (X3.cut (X1s ([]:List Bool) [x.A,x.B] nbS qh3752 [x.A,x.B] 0 (by simp) _ h3778 ?_ ?_))
     ·
      intro eo3777;subst eo3777
      refine X3.glue ?_
      try dsimp only at h
      obtain rfl:=oj h
      refine X09 [] ?_
      refine X3.back (by intro id h;cases h) rfl ?_
      exact wkT [] (J)
     intro eo3777;subst eo3777
     refine X3.glue ?_
     try dsimp only at h
     obtain rfl:=oj h
     refine X09 [] ?_
     refine X3.back (by intro id h;cases h) rfl ?_
     exact wkT [] (J)
    intro h
    obtain rfl:=oj h
    exact Xa [.ix 0,.go false,.go false,.go false,.go true,.ix 1,.go true,.go true,.go false,.go false,.go false,.go true,.go true] (k:=wkT [] (X3.glue J))
   intro h
   obtain rfl:=oj h
   exact Xa [.ix 0,.go false,.go false,.go false,.go false,.go false,.go false,.go false,.go false,.go false,.go false,.go false] (k:=wkT [] (X3.glue J))
  clear h;revert h3264
  refine brI (fun h3261=>?_) fun h3261=>?_
  ·
   intro h
   simp only[Option.some.injEq,Prod.mk.injEq] at h
   obtain⟨rfl,rfl⟩:=h
   exact Xa [Bt] (k:=wkT [(2,3),(3,4)] (X3.glue J))
  refine brI (fun h3262=>?_) fun h3262=>?_
  ·
   intro h
   simp only[Option.some.injEq,Prod.mk.injEq] at h
   obtain⟨rfl,rfl⟩:=h
   exact Xa [Bf,Bt] (k:=wkT [(2,3),(3,4)] (X3.glue J))
  refine brI (fun h3263=>?_) fun h3263=>?_
  ·
   intro h
   simp only[Option.some.injEq,Prod.mk.injEq] at h
   obtain⟨rfl,rfl⟩:=h
   exact Xa [Bf,Bf,Bt] (k:=wkT [(2,3),(3,4)] (X3.glue J))
  intro h
  simp only[Option.some.injEq,Prod.mk.injEq] at h
  obtain⟨rfl,rfl⟩:=h
  exact Xa [Bf,Bf,Bf] (k:=wkT [(2,3),(3,4)] (X3.glue J))
instance Xw5:PCs Tryz.prog 199 (∀ (a0:(List X05)) (r:(List Bool)×Int),Xcl a0=some r->X0j Tryz.prog 199 [(Lf (a0.map X6))] (AV.tup [(AV.list true (r.1.map aB)),(aI .i64 r.2)])):=⟨fun a0 r h=>by
 refine X0j.sym X5 X030 (nt:=88) rfl rfl ?_ okM
 unfold Xcl at h
 revert h
 refine bI fun u1 h2=>?_
 have qh2:=X12 h2
 refine bI fun o3784 h3785=>rnI [.el (aI .i64 (a0.length:Int))] ?_
 intro h
 refine wkT [] (X3.cut (Xge a0 qh2 a0 0 (by simp) _ nbS _ h3785 ?_ ?_))
 ·
  intro X0l X1a eo3784;subst eo3784
  refine X3.glue ?_
  try dsimp only at h
  rcases X1a with ⟨_|_,X3d⟩
  ·
   revert h
   exact fun e=>oj e▸Xa [.el (aI .i64 (a0.length:Int))] (k:=fi)
  obtain rfl:=X3d rfl
  revert h
  exact fun e=>oj e▸Xa [.el (aI .i64 (a0.length:Int))] (k:=fi)
 intro X1i Xj7 X1c eo3784;subst eo3784
 refine X3.glue ?_
 try dsimp only at h
 rcases X1c with ⟨_|_,X5f⟩
 ·
  revert h
  exact fun e=>oj e▸Xa [] (k:=fi)
 obtain rfl:=X5f rfl
 revert h
 exact fun e=>oj e▸Xa [] (k:=fi)⟩
instance Xyq:PCs Tryz.prog 181 (∀ (a0:(List X05)) (r:Bool×Int×Int),Xe1 a0=some r->X0j Tryz.prog 181 [(Lf (a0.map X6))] (AV.tup [(aB r.1),(aI .i64 r.2.1),(aI .i64 r.2.2)])):=⟨fun a0 r h=>by
 refine X0j.sym X5 X035 (nt:=30) rfl rfl ?_ okM
 unfold Xe1 at h
 revert h
 refine bI fun v1 h2=>brI (fun h3=>fun e=>oj e▸Xa [.pure _ (aI .i64 v1),Bt] (k:=fi)) fun h3=>bI fun v4 h5=>brI (fun h6=>fun e=>oj e▸Xa [.pure _ (aI .i64 v1),Bf,.pure _ (AV.tup [(AV.list true (v4.1.map aB)),(aI .i64 v4.2)]),.el (aI .i64 (a0.length:Int)),Bt] (k:=fi)) fun h6=>bI fun e7 h8=>?_
 try have qh8:=Xq h8
 exact fun e=>oj e▸Xa [.pure _ (aI .i64 v1),Bf,.pure _ (AV.tup [(AV.list true (v4.1.map aB)),(aI .i64 v4.2)]),.el (aI .i64 (a0.length:Int)),Bf,.wrap,.el (aB e7),.wrap] (k:=fi)⟩
instance Xw4:PCs Tryz.prog 159 (∀ (a0:(List X05)) (a1:Bool) (r:Int×Int),X8q a0 a1=some r->X0j Tryz.prog 159 [(Lf (a0.map X6)),(aB a1)] (AV.tup [(aI .i64 r.1),(aI .i64 r.2)])):=⟨fun a0 a1 r h=>by
 refine X0j.sym X5 X03h (nt:=24) rfl rfl ?_ okM
 unfold X8q at h
 revert h
 refine bI fun v1 h2=>bI fun j4_8 h6=>rnI [.pure _ (AV.tup [(aB v1.1),(aI .i64 v1.2.1),(aI .i64 v1.2.2)])] ?_
 intro h
 refine X3.join (s':=⟨fr [(7,(aI .i64 v1.2.1)),(8,(aI .i64 j4_8))],hp ([]),0⟩) ?_ (fun J=>X3.cut ?_)
 ·
  revert h
  exact fun e=>oj e▸Xa [] (k:=fi)
 clear h;revert h6
 refine brI (fun h5=>?_) fun h5=>?_
 ·
  intro h
  obtain rfl:=oj h
  exact Xa [Bt] (k:=wkT [] (X3.glue J))
 intro h
 obtain rfl:=oj h
 exact Xa [Bf] (k:=wkT [] (X3.glue J))⟩
instance Xv4:PCs Tryz.prog 134 (∀ (a0:(List X05)) (r:Int×Int),X9h a0=some r->X0j Tryz.prog 134 [(Lf (a0.map X6))] (AV.tup [(aI .i64 r.1),(aI .i64 r.2)])):=⟨fun a0 r h=>by
 refine X0j.sym X5 X03u (nt:=8) rfl rfl ?_ okM
 unfold X9h at h
 revert h
 exact bI fun v1 h2=>fun e=>oj e▸Xa [.pure _ (AV.tup [(aI .i64 v1.1),(aI .i64 v1.2)])] (k:=fi)⟩
instance Xt1:PCs Tryz.prog 133 (∀ (a0:(List X05)) (r:Int×Int),X9r a0=some r->X0j Tryz.prog 133 [(Lf (a0.map X6))] (AV.tup [(aI .i64 r.1),(aI .i64 r.2)])):=⟨fun a0 r h=>by
 refine X0j.sym X5 X03v (nt:=8) rfl rfl ?_ okM
 unfold X9r at h
 revert h
 exact bI fun v1 h2=>fun e=>oj e▸Xa [.pure _ (AV.tup [(aI .i64 v1.1),(aI .i64 v1.2)])] (k:=fi)⟩
end Go.Av.Tryz