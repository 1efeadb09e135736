/- Printed by decomp.py: that the program computes the functions. -/
import Derived.Test.YtfdfgobnpnoomaaGreatDCert2Z
set_option linter.all false

namespace Go.Av.Tryz
open Go.Proofs Go.D
set_option maxRecDepth 10000
set_option maxHeartbeats 40000000
theorem Xh5 {Q:X07->St->Mu->Prop} {μ:Mu} (X0y:(List X0c)) (hl:X0y.length<=140737488355328):∀ (xs:List X0c) (k:Nat) (hx:X0y.drop k=xs) (Xo:(List Bool)) (X00:Nb Xo) (o:X5z) (h:X1u X0y xs k Xo=some o)
  (C0:∀ (X0n:(List Bool)) (X0o:Nb X0n),o=X5z.x0 X0n->X3 Tryz.prog 88 0 Q (.exit (.exit 0)) [] ⟨fr [(0,(Lf (X0y.map X1))),(4,(AV.ptr 0 0 0))],hp ([(0,Ob [(slE X0o.1 1 (X0n.map aB))] 1)]++opE X0o.1 1 1 (X0n.map aB)),2⟩ μ)
  (C1:∀ (X0k:(List Bool)) (Xaz:Int) (X0h:Nb X0k),o=X5z.x1 X0k Xaz->X3 Tryz.prog 88 0 Q (.exit .ret) [] ⟨fr [(2,(slE X0h.1 0 (X0k.map aB))),(3,(aI .i64 Xaz))],hp ([]++opE X0h.1 0 1 (X0k.map aB)),1⟩ μ),
  X3 Tryz.prog 88 0 Q (.loop (X4t 0 (Xu Tryz.f156))) [] ⟨fr [(0,(Lf (X0y.map X1))),(4,(AV.ptr 0 0 0)),(5,(AV.fn 189 [(AV.ptr 0 0 0)])),(12,(Lf (X0y.map X1))),(13,(aI .i64 (X0y.length:Int))),(14,(aI .i64 (k:Int)))],hp ([(0,Ob [(slE X00.1 1 (Xo.map aB))] 1)]++opE X00.1 1 1 (Xo.map aB)),2⟩ μ:=by
 intro xs
 induction xs with
 |nil =>
  intro k hx Xo X00 o h C0 C1
  have hk:=X1e hx
  have hc:decide ((k:Int)<(X0y.length:Int))=false:=Yf (by omega)
  rw[X1u] at h
  rcases X00 with ⟨_|_,X0f⟩
  ·
   refine X3.round ?_
   revert h
   exact fun e=>Xc [Bf] (k:=wkT [] (C0 _  nbF (oj e).symm))
  ·
   obtain rfl:=X0f rfl
   refine X3.round ?_
   revert h
   exact fun e=>Xc [Bf] (k:=wkT [] (C0 _  nbS (oj e).symm))
 |cons x xs ih =>
  intro k hx Xo X00 o h C0 C1
  obtain⟨hk,hg,hx1⟩:=X0t hx
  have hc:decide ((k:Int)<(X0y.length:Int))=true:=Yt (by omega)
  rw[X1u] at h
  rcases X00 with ⟨_|_,X0f⟩
  ·
   refine X3.round ?_
   revert h
   refine brI (fun h2524=>?_) fun h2524=>?_
   ·
    refine bI fun u2525 h2526=>rnI [Bt,.el (X1 x),Bt,.no] (o:=by repeat' first|apply Ya|exact pcM|(refine X8 h2526 rfl ?_;first|(simp;done)|(simp;omega)|(simp[hc,h2524];done)|(simp[hc,h2524];omega))|(refine X2 h2526 (by decide) ?_;first|(simp;done)|(simp;omega)|(simp[hc,h2524];done)|(simp[hc,h2524];omega))|exact Xw) ?_
    intro h
    exact wkT [(1,6)] (ih (k+1) hx1 _ nbF o h C0 C1)
   refine brI (fun h2533=>?_) fun h2533=>?_
   ·
    refine bI fun Xls h2549=>rnI [Bt,.el (X1 x),Bf,Bt,.stop 22] ?_
    intro h
    refine X3.join (s':=⟨fr [(0,(Lf (X0y.map X1))),(4,(AV.ptr 0 0 0)),(5,(AV.fn 189 [(AV.ptr 0 0 0)])),(6,(aI .i64 (k:Int))),(9,(aB false)),(12,(Lf (X0y.map X1))),(13,(aI .i64 (X0y.length:Int))),(14,(aI .i64 (k:Int))),(78,(aB Xls))],hp ([(0,Ob [(AV.ref 1 0 (Xo.length))] 1),(1,Ob (Xo.map aB) 1)]),2⟩) ?_ (fun J=>X3.cut ?_)
    ·
     revert h
     refine brI (fun h2550=>fun e=>Xc [Bt] (k:=wkT [] (C1 _ _  nbS (oj e).symm))) fun h2550=>?_
     refine bI fun u2551 h2552=>rnI [Bf,.no] (o:=by repeat' first|apply Ya|exact pcM|(refine X8 h2552 rfl ?_;first|(simp;done)|(simp;omega)|(simp[hc,h2524,h2533,h2550];done)|(simp[hc,h2524,h2533,h2550];omega))|(refine X2 h2552 (by decide) ?_;first|(simp;done)|(simp;omega)|(simp[hc,h2524,h2533,h2550];done)|(simp[hc,h2524,h2533,h2550];omega))|exact Xw) ?_
     intro h
     exact wkT [(1,3)] (ih (k+1) hx1 _ nbF o h C0 C1)
    clear h;revert h2549
    refine rnI [.ix 0,.go true,.go true,.stop 999999] ?_
    intro h
    refine X3.inlineG Xh Xjr rfl rfl rfl rfl rfl rfl rfl rfl rfl rfl (rfl) trivial trivial ?_
    refine X0l [] ?_
    refine X3.round ?_
    revert h
    refine bI fun e2546 h2547=>?_
    try have qh2547:=Xn h2547
    refine brI (fun h2548=>?_) fun h2548=>?_
    ·
     refine rnI [Bt,.el ((aI .i64 x.A)),.el (aB e2546),.ld (aB e2546),Bt] ?_
     intro h
     refine X3.back (by intro id h;cases h) rfl ?_
     obtain rfl:=oj h
     exact Xc [.go true,.ix 1,.go true,.go true,.go false,.go false,.go false,.go true,.go true] (k:=wkT [] (X3.glue J))
    refine rnI [Bt,.el ((aI .i64 x.A)),.el (aB e2546),.ld (aB e2546),Bf] ?_
    intro h
    refine X3.round ?_
    refine X0l [Bf] ?_
    refine X3.back (by intro id h;cases h) rfl ?_
    obtain rfl:=oj h
    exact Xc [.go false,.go false,.go false,.go false,.go false,.go false,.go false,.go false] (k:=wkT [] (X3.glue J))
   refine brI (fun h2558=>?_) fun h2558=>?_
   ·
    refine bI fun Xlr h2574=>rnI [Bt,.el (X1 x),Bf,Bf,Bt,.ix 0,.go false,.go false,.go false,.go true,.ix 1,.go true,.go true,.go true,.go true,.stop 999999] ?_
    intro h
    refine X3.joinOp (s':=⟨fr [(0,(Lf (X0y.map X1))),(4,(AV.ptr 0 0 0)),(5,(AV.fn 189 [(AV.ptr 0 0 0)])),(6,(aI .i64 (k:Int))),(9,(aB true)),(12,(Lf (X0y.map X1))),(13,(aI .i64 (X0y.length:Int))),(14,(aI .i64 (k:Int))),(69,(aB (!(bif false then false else false)))),(72,(aB true)),(75,(aB Xlr))],hp ([(0,Ob [(AV.ref 1 0 (Xo.length))] 1),(1,Ob (Xo.map aB) 1)]),2⟩) ?_ (fun J=>?_)
    ·
     revert h
     refine brI (fun h2575=>fun e=>Xc [.go true,.go true,Bt] (k:=wkT [] (C1 _ _  nbS (oj e).symm))) fun h2575=>?_
     refine bI fun u2576 h2577=>rnI [.go true,.go true,Bf,.no] (o:=by repeat' first|apply Ya|exact pcM|(refine X8 h2577 rfl ?_;first|(simp;done)|(simp;omega)|(simp[hc,h2524,h2533,h2558,h2575];done)|(simp[hc,h2524,h2533,h2558,h2575];omega))|(refine X2 h2577 (by decide) ?_;first|(simp;done)|(simp;omega)|(simp[hc,h2524,h2533,h2558,h2575];done)|(simp[hc,h2524,h2533,h2558,h2575];omega))|exact Xw) ?_
     intro h
     exact wkT [(1,3)] (ih (k+1) hx1 _ nbF o h C0 C1)
    clear h;revert h2574
    intro h
    refine X3.inlineG Xh Xjr rfl rfl rfl rfl rfl rfl rfl rfl rfl rfl (rfl) trivial trivial ?_
    refine X0l [] ?_
    refine X3.round ?_
    revert h
    refine bI fun e2571 h2572=>?_
    try have qh2572:=Xn h2572
    refine brI (fun h2573=>?_) fun h2573=>?_
    ·
     intro h
     obtain rfl:=oj h
     refine X0l [Bt,.el ((aI .i64 x.A)),.el (aB e2571),.ld (aB e2571),Bt] ?_
     refine X3.back (by intro id h;cases h) rfl ?_
     exact wkT [] (J)
    refine rnI [Bt,.el ((aI .i64 x.A)),.el (aB e2571),.ld (aB e2571),Bf] ?_
    intro h
    refine X3.round ?_
    obtain rfl:=oj h
    refine X0l [Bf] ?_
    refine X3.back (by intro id h;cases h) rfl ?_
    exact wkT [] (J)
   refine bI fun w2581 h2585=>?_
   intro h
   obtain⟨Xag,Xim⟩:=w2581
   try dsimp only at h
   refine X0l [Bt,.el (X1 x),Bf,Bf,Bf] ?_
   refine X3.join (s':=⟨fr [(0,(Lf (X0y.map X1))),(4,(AV.ptr 0 0 0)),(5,(AV.fn 189 [(AV.ptr 0 0 0)])),(6,(aI .i64 (k:Int))),(8,(AV.ptr 2 0 0)),(9,(aB Xim)),(10,(AV.ref 3 0 (List.length [x.A,x.B]))),(12,(Lf (X0y.map X1))),(13,(aI .i64 (X0y.length:Int))),(14,(aI .i64 (k:Int)))],hp ([(0,Ob [(AV.ref 1 0 (Xo.length))] 1),(1,Ob (Xo.map aB) 1),(2,Ob [(X93 Xag)] 2),(3,Ob (List.map (aI .i64) [x.A,x.B]) 1)]),4⟩) ?_ (fun J=>X3.cut ?_)
   ·
    revert h
    refine bI fun Xlq h3221=>rnI [.stop 22] ?_
    intro h
    refine X3.join (s':=⟨fr [(0,(Lf (X0y.map X1))),(4,(AV.ptr 0 0 0)),(5,(AV.fn 189 [(AV.ptr 0 0 0)])),(6,(aI .i64 (k:Int))),(9,(aB Xim)),(12,(Lf (X0y.map X1))),(13,(aI .i64 (X0y.length:Int))),(14,(aI .i64 (k:Int))),(78,(aB Xlq))],hp ([(0,Ob [(AV.ref 1 0 (Xo.length))] 1),(1,Ob (Xo.map aB) 1)]),2⟩) ?_ (fun J=>X3.cut ?_)
    ·
     revert h
     refine brI (fun h3222=>fun e=>Xc [Bt] (k:=wkT [] (C1 _ _  nbS (oj e).symm))) fun h3222=>?_
     refine bI fun u3223 h3224=>rnI [Bf,.no] (o:=by repeat' first|apply Ya|exact pcM|(refine X8 h3224 rfl ?_;first|(simp;done)|(simp;omega)|(simp[hc,h2524,h2533,h2558,h3222];done)|(simp[hc,h2524,h2533,h2558,h3222];omega))|(refine X2 h3224 (by decide) ?_;first|(simp;done)|(simp;omega)|(simp[hc,h2524,h2533,h2558,h3222];done)|(simp[hc,h2524,h2533,h2558,h3222];omega))|exact Xw) ?_
     intro h
     exact wkT [(1,3)] (ih (k+1) hx1 _ nbF o h C0 C1)
    clear h;revert h3221
    refine brI (fun h2904=>?_) fun h2904=>?_
    ·
     refine bI fun Xc0 h3018=>rnI [.ix 0,.go true,.go true,.stop 999999] ?_
     intro h
     refine X3.joinOp (s':=⟨fr [(0,(Lf (X0y.map X1))),(4,(AV.ptr 0 0 0)),(5,(AV.fn 189 [(AV.ptr 0 0 0)])),(6,(aI .i64 (k:Int))),(8,(AV.ptr 2 0 0)),(9,(aB Xim)),(10,(AV.ref 3 0 (List.length [x.A,x.B]))),(12,(Lf (X0y.map X1))),(13,(aI .i64 (X0y.length:Int))),(14,(aI .i64 (k:Int))),(63,(aB Xag.e0)),(66,(aB Xc0))],hp ([(0,Ob [(AV.ref 1 0 (Xo.length))] 1),(1,Ob (Xo.map aB) 1),(2,Ob [(X93 Xag)] 2),(3,Ob (List.map (aI .i64) [x.A,x.B]) 1)]),4⟩) ?_ (fun J=>?_)
     ·
      revert h
      refine brI (fun h3019=>?_) fun h3019=>?_
      ·
       refine brI (fun h3020=>?_) fun h3020=>?_
       ·
        refine bI fun Xlp h3134=>rnI [.go true,.ix 1,.go true,.go true,.go true,.go true,.stop 999999] ?_
        intro h
        refine X3.joinOp (s':=⟨fr [(0,(Lf (X0y.map X1))),(4,(AV.ptr 0 0 0)),(5,(AV.fn 189 [(AV.ptr 0 0 0)])),(6,(aI .i64 (k:Int))),(9,(aB Xim)),(12,(Lf (X0y.map X1))),(13,(aI .i64 (X0y.length:Int))),(14,(aI .i64 (k:Int))),(69,(aB (!(bif Xag.e0 then Xc0 else false)))),(72,(aB Xag.e1)),(75,(aB Xlp))],hp ([(0,Ob [(AV.ref 1 0 (Xo.length))] 1),(1,Ob (Xo.map aB) 1)]),2⟩) ?_ (fun J=>?_)
        ·
         obtain rfl:=oj h
         exact Xc [.go true,.go true] (k:=wkT [] (X3.glue J))
        clear h;revert h3134
        intro h
        refine X3.inlineG Xh Xjr rfl rfl rfl rfl rfl rfl rfl rfl rfl rfl (h3020) trivial trivial ?_
        revert h
        refine bI fun u3096 h3097=>?_
        have qh3097:=X0u h3097
        refine bI fun o3132 h3133=>rnI [.el (aI .i64 (List.length [x.A,x.B]:Int))] ?_
        intro h
        refine wkT [(4,3)] (X3.cut (X1t Xo [x.A,x.B] nbF qh3097 [x.A,x.B] 0 (by simp) _ h3133 ?_ ?_))
        ·
         intro eo3132;subst eo3132
         refine X3.glue ?_
         try dsimp only at h
         obtain rfl:=oj h
         refine X0l [] ?_
         refine X3.back (by intro id h;cases h) rfl ?_
         exact wkT [] (J)
        intro eo3132;subst eo3132
        refine X3.glue ?_
        try dsimp only at h
        obtain rfl:=oj h
        refine X0l [] ?_
        refine X3.back (by intro id h;cases h) rfl ?_
        exact wkT [] (J)
       intro h
       obtain rfl:=oj h
       exact Xc [.go true,.ix 1,.go true,.go true,.go false,.go false,.go false,.go true,.go true] (k:=wkT [] (X3.glue J))
      intro h
      obtain rfl:=oj h
      exact Xc [.go false,.go false,.go false,.go false,.go false,.go false,.go false,.go false] (k:=wkT [] (X3.glue J))
     clear h;revert h3018
     intro h
     refine X3.inlineG Xh Xjr rfl rfl rfl rfl rfl rfl rfl rfl rfl rfl (h2904) trivial trivial ?_
     revert h
     refine bI fun u2980 h2981=>?_
     have qh2981:=X0u h2981
     refine bI fun o3016 h3017=>rnI [.el (aI .i64 (List.length [x.A,x.B]:Int))] ?_
     intro h
     refine wkT [] (X3.cut (X59 Xo Xag [x.A,x.B] nbF qh2981 [x.A,x.B] 0 (by simp) _ h3017 ?_ ?_))
     ·
      intro eo3016;subst eo3016
      refine X3.glue ?_
      try dsimp only at h
      obtain rfl:=oj h
      refine X0l [] ?_
      refine X3.back (by intro id h;cases h) rfl ?_
      exact wkT [] (J)
     intro eo3016;subst eo3016
     refine X3.glue ?_
     try dsimp only at h
     obtain rfl:=oj h
     refine X0l [] ?_
     refine X3.back (by intro id h;cases h) rfl ?_
     exact wkT [] (J)
    refine brI (fun h3135=>?_) fun h3135=>?_
    ·
     refine brI (fun h3136=>?_) fun h3136=>?_
     ·
      refine bI fun Xlo h3220=>rnI [.ix 0,.go false,.go false,.go false,.go true,.ix 1,.go true,.go true,.go true,.go true,.stop 999999] ?_
      intro h
      refine X3.joinOp (s':=⟨fr [(0,(Lf (X0y.map X1))),(4,(AV.ptr 0 0 0)),(5,(AV.fn 189 [(AV.ptr 0 0 0)])),(6,(aI .i64 (k:Int))),(9,(aB Xim)),(12,(Lf (X0y.map X1))),(13,(aI .i64 (X0y.length:Int))),(14,(aI .i64 (k:Int))),(69,(aB (!(bif Xag.e0 then false else false)))),(72,(aB Xag.e1)),(75,(aB Xlo))],hp ([(0,Ob [(AV.ref 1 0 (Xo.length))] 1),(1,Ob (Xo.map aB) 1)]),2⟩) ?_ (fun J=>?_)
      ·
       obtain rfl:=oj h
       exact Xc [.go true,.go true] (k:=wkT [] (X3.glue J))
      clear h;revert h3220
      intro h
      refine X3.inlineG Xh Xjr rfl rfl rfl rfl rfl rfl rfl rfl rfl rfl (h3136) trivial trivial ?_
      revert h
      refine bI fun u3192 h3193=>?_
      have qh3193:=X0u h3193
      refine bI fun o3218 h3219=>rnI [.el (aI .i64 (List.length [x.A,x.B]:Int))] ?_
      intro h
      refine wkT [(4,3)] (X3.cut (X1t Xo [x.A,x.B] nbF qh3193 [x.A,x.B] 0 (by simp) _ h3219 ?_ ?_))
      ·
       intro eo3218;subst eo3218
       refine X3.glue ?_
       try dsimp only at h
       obtain rfl:=oj h
       refine X0l [] ?_
       refine X3.back (by intro id h;cases h) rfl ?_
       exact wkT [] (J)
      intro eo3218;subst eo3218
      refine X3.glue ?_
      try dsimp only at h
      obtain rfl:=oj h
      refine X0l [] ?_
      refine X3.back (by intro id h;cases h) rfl ?_
      exact wkT [] (J)
     intro h
     obtain rfl:=oj h
     exact Xc [.ix 0,.go false,.go false,.go false,.go true,.ix 1,.go true,.go true,.go false,.go false,.go false,.go true,.go true] (k:=wkT [] (X3.glue J))
    intro h
    obtain rfl:=oj h
    exact Xc [.ix 0,.go false,.go false,.go false,.go false,.go false,.go false,.go false,.go false,.go false,.go false,.go false] (k:=wkT [] (X3.glue J))
   clear h;revert h2585
   refine brI (fun h2582=>?_) fun h2582=>?_
   ·
    intro h
    simp only[Option.some.injEq,Prod.mk.injEq] at h
    obtain⟨rfl,rfl⟩:=h
    exact Xc [Bt] (k:=wkT [(2,3),(3,4)] (X3.glue J))
   refine brI (fun h2583=>?_) fun h2583=>?_
   ·
    intro h
    simp only[Option.some.injEq,Prod.mk.injEq] at h
    obtain⟨rfl,rfl⟩:=h
    exact Xc [Bf,Bt] (k:=wkT [(2,3),(3,4)] (X3.glue J))
   refine brI (fun h2584=>?_) fun h2584=>?_
   ·
    intro h
    simp only[Option.some.injEq,Prod.mk.injEq] at h
    obtain⟨rfl,rfl⟩:=h
    exact Xc [Bf,Bf,Bt] (k:=wkT [(2,3),(3,4)] (X3.glue J))
   intro h
   simp only[Option.some.injEq,Prod.mk.injEq] at h
   obtain⟨rfl,rfl⟩:=h
   exact Xc [Bf,Bf,Bf] (k:=wkT [(2,3),(3,4)] (X3.glue J))
  obtain rfl:=X0f rfl
  refine X3.round ?_
  revert h
  refine brI (fun h3225=>?_) fun h3225=>?_
  ·
   refine bI fun u3226 h3227=>rnI [Bt,.el (X1 x),Bt,.no] (o:=by repeat' first|apply Ya|exact pcM|(refine X8 h3227 rfl ?_;first|(simp;done)|(simp;omega)|(simp[hc,h3225];done)|(simp[hc,h3225];omega))|(refine X2 h3227 (by decide) ?_;first|(simp;done)|(simp;omega)|(simp[hc,h3225];done)|(simp[hc,h3225];omega))|exact Xw) ?_
   intro h
   exact wkT [(1,6)] (ih (k+1) hx1 _ nbF o h C0 C1)
  refine brI (fun h3233=>?_) fun h3233=>?_
  ·
   refine rnI [Bt,.el (X1 x),Bf,Bt,.ix 0,.go true,.go true,.stop 999999] ?_
   intro h
   refine X3.inlineG Xh Xjr rfl rfl rfl rfl rfl rfl rfl rfl rfl rfl (rfl) trivial trivial ?_
   refine X0l [] ?_
   refine X3.round ?_
   revert h
   refine bI fun e3241 h3242=>?_
   try have qh3242:=Xn h3242
   intro h
   exact absurd (h3242) (by simp[X2c])
  refine brI (fun h3247=>?_) fun h3247=>?_
  ·
   refine rnI [Bt,.el (X1 x),Bf,Bf,Bt,.ix 0,.go false,.go false,.go false,.go true,.ix 1,.go true,.go true,.go true,.go true,.stop 999999] ?_
   intro h
   refine X3.inlineG Xh Xjr rfl rfl rfl rfl rfl rfl rfl rfl rfl rfl (rfl) trivial trivial ?_
   refine X0l [] ?_
   refine X3.round ?_
   revert h
   refine bI fun e3255 h3256=>?_
   try have qh3256:=Xn h3256
   intro h
   exact absurd (h3256) (by simp[X2c])
  refine bI fun w3260 h3264=>?_
  intro h
  obtain⟨Xaf,Xil⟩:=w3260
  try dsimp only at h
  refine X0l [Bt,.el (X1 x),Bf,Bf,Bf] ?_
  refine X3.join (s':=⟨fr [(0,(Lf (X0y.map X1))),(4,(AV.ptr 0 0 0)),(5,(AV.fn 189 [(AV.ptr 0 0 0)])),(6,(aI .i64 (k:Int))),(8,(AV.ptr 2 0 0)),(9,(aB Xil)),(10,(AV.ref 3 0 (List.length [x.A,x.B]))),(12,(Lf (X0y.map X1))),(13,(aI .i64 (X0y.length:Int))),(14,(aI .i64 (k:Int)))],hp ([(0,Ob [AV.nils] 1),(2,Ob [(X93 Xaf)] 2),(3,Ob (List.map (aI .i64) [x.A,x.B]) 1)]),4⟩) ?_ (fun J=>X3.cut ?_)
  ·
   revert h
   refine bI fun X00a h3780=>rnI [.stop 22] ?_
   intro h
   refine X3.join (s':=⟨fr [(0,(Lf (X0y.map X1))),(4,(AV.ptr 0 0 0)),(5,(AV.fn 189 [(AV.ptr 0 0 0)])),(6,(aI .i64 (k:Int))),(9,(aB Xil)),(12,(Lf (X0y.map X1))),(13,(aI .i64 (X0y.length:Int))),(14,(aI .i64 (k:Int))),(78,(aB X00a))],hp ([(0,Ob [AV.nils] 1)]),2⟩) ?_ (fun J=>X3.cut ?_)
   ·
    revert h
    refine brI (fun h3781=>fun e=>Xc [Bt] (k:=wkT [] (C1 _ _  nbS (oj e).symm))) fun h3781=>?_
    refine bI fun u3782 h3783=>rnI [Bf,.no] (o:=by repeat' first|apply Ya|exact pcM|(refine X8 h3783 rfl ?_;first|(simp;done)|(simp;omega)|(simp[hc,h3225,h3233,h3247,h3781];done)|(simp[hc,h3225,h3233,h3247,h3781];omega))|(refine X2 h3783 (by decide) ?_;first|(simp;done)|(simp;omega)|(simp[hc,h3225,h3233,h3247,h3781];done)|(simp[hc,h3225,h3233,h3247,h3781];omega))|exact Xw) ?_
    intro h
    exact wkT [(1,3)] (ih (k+1) hx1 _ nbF o h C0 C1)
   clear h;revert h3780
   refine brI (fun h3523=>?_) fun h3523=>?_
   ·
    refine bI fun Xs7 h3607=>rnI [.ix 0,.go true,.go true,.stop 999999] ?_
    intro h
    refine X3.joinOp (s':=⟨fr [(0,(Lf (X0y.map X1))),(4,(AV.ptr 0 0 0)),(5,(AV.fn 189 [(AV.ptr 0 0 0)])),(6,(aI .i64 (k:Int))),(8,(AV.ptr 2 0 0)),(9,(aB Xil)),(10,(AV.ref 3 0 (List.length [x.A,x.B]))),(12,(Lf (X0y.map X1))),(13,(aI .i64 (X0y.length:Int))),(14,(aI .i64 (k:Int))),(63,(aB Xaf.e0)),(66,(aB Xs7))],hp ([(0,Ob [AV.nils] 1),(2,Ob [(X93 Xaf)] 2),(3,Ob (List.map (aI .i64) [x.A,x.B]) 1)]),4⟩) ?_ (fun J=>?_)
    ·
     revert h
     refine brI (fun h3608=>?_) fun h3608=>?_
     ·
      refine brI (fun h3609=>?_) fun h3609=>?_
      ·
       refine bI fun X009 h3693=>rnI [.go true,.ix 1,.go true,.go true,.go true,.go true,.stop 999999] ?_
       intro h
       refine X3.joinOp (s':=⟨fr [(0,(Lf (X0y.map X1))),(4,(AV.ptr 0 0 0)),(5,(AV.fn 189 [(AV.ptr 0 0 0)])),(6,(aI .i64 (k:Int))),(9,(aB Xil)),(12,(Lf (X0y.map X1))),(13,(aI .i64 (X0y.length:Int))),(14,(aI .i64 (k:Int))),(69,(aB (!(bif Xaf.e0 then Xs7 else false)))),(72,(aB Xaf.e1)),(75,(aB X009))],hp ([(0,Ob [AV.nils] 1)]),2⟩) ?_ (fun J=>?_)
       ·
        obtain rfl:=oj h
        exact Xc [.go true,.go true] (k:=wkT [] (X3.glue J))
       clear h;revert h3693
       intro h
       refine X3.inlineG Xh Xjr rfl rfl rfl rfl rfl rfl rfl rfl rfl rfl (h3609) trivial trivial ?_
       revert h
       refine bI fun u3665 h3666=>?_
       have qh3666:=X0u h3666
       refine bI fun o3691 h3692=>rnI [.el (aI .i64 (List.length [x.A,x.B]:Int))] ?_
       intro h
       refine wkT [(4,3)] (X3.cut (X1t ([]:List Bool) [x.A,x.B] nbS qh3666 [x.A,x.B] 0 (by simp) _ h3692 ?_ ?_))
       ·
        intro eo3691;subst eo3691
        refine X3.glue ?_
        try dsimp only at h
        obtain rfl:=oj h
        refine X0l [] ?_
        refine X3.back (by intro id h;cases h) rfl ?_
        exact wkT [] (J)
       intro eo3691;subst eo3691
       refine X3.glue ?_
       try dsimp only at h
       obtain rfl:=oj h
       refine X0l [] ?_
       refine X3.back (by intro id h;cases h) rfl ?_
       exact wkT [] (J)
      intro h
      obtain rfl:=oj h
      exact Xc [.go true,.ix 1,.go true,.go true,.go false,.go false,.go false,.go true,.go true] (k:=wkT [] (X3.glue J))
     intro h
     obtain rfl:=oj h
     exact Xc [.go false,.go false,.go false,.go false,.go false,.go false,.go false,.go false] (k:=wkT [] (X3.glue J))
    clear h;revert h3607
    intro h
    refine X3.inlineG Xh Xjr rfl rfl rfl rfl rfl rfl rfl rfl rfl rfl (h3523) trivial trivial ?_
    revert h
    refine bI fun u3579 h3580=>?_
    have qh3580:=X0u h3580
    refine bI fun o3605 h3606=>rnI [.el (aI .i64 (List.length [x.A,x.B]:Int))] ?_
    intro h
    refine wkT [] (X3.cut (X59 ([]:List Bool) Xaf [x.A,x.B] nbS qh3580 [x.A,x.B] 0 (by simp) _ h3606 ?_ ?_))
    ·
     intro eo3605;subst eo3605
     refine X3.glue ?_
     try dsimp only at h
     obtain rfl:=oj h
     refine X0l [] ?_
     refine X3.back (by intro id h;cases h) rfl ?_
     exact wkT [] (J)
    intro eo3605;subst eo3605
    refine X3.glue ?_
    try dsimp only at h
    obtain rfl:=oj h
    refine X0l [] ?_
    refine X3.back (by intro id h;cases h) rfl ?_
    exact wkT [] (J)
   refine brI (fun h3694=>?_) fun h3694=>?_
   ·
    refine brI (fun h3695=>?_) fun h3695=>?_
    ·
     refine bI fun X008 h3779=>rnI [.ix 0,.go false,.go false,.go false,.go true,.ix 1,.go true,.go true,.go true,.go true,.stop 999999] ?_
     intro h
     refine X3.joinOp (s':=⟨fr [(0,(Lf (X0y.map X1))),(4,(AV.ptr 0 0 0)),(5,(AV.fn 189 [(AV.ptr 0 0 0)])),(6,(aI .i64 (k:Int))),(9,(aB Xil)),(12,(Lf (X0y.map X1))),(13,(aI .i64 (X0y.length:Int))),(14,(aI .i64 (k:Int))),(69,(aB (!(bif Xaf.e0 then false else false)))),(72,(aB Xaf.e1)),(75,(aB X008))],hp ([(0,Ob [AV.nils] 1)]),2⟩) ?_ (fun J=>?_)
     ·
      obtain rfl:=oj h
      exact Xc [.go true,.go true] (k:=wkT [] (X3.glue J))
     clear h;revert h3779
     intro h
     refine X3.inlineG Xh Xjr rfl rfl rfl rfl rfl rfl rfl rfl rfl rfl (h3695) trivial trivial ?_
     revert h
     refine bI fun u3751 h3752=>?_
     have qh3752:=X0u h3752
     refine bI fun o3777 h3778=>rnI [.el (aI .i64 (List.length [x.A,x.B]:Int))] ?_
     intro h
     refine wkT [(4,3)] (X3.cut (X1t ([]:List Bool) [x.A,x.B] nbS qh3752 [x.A,x.B] 0 (by simp) _ h3778 ?_ ?_))
     ·
      intro eo3777;subst eo3777
      refine X3.glue ?_
      try dsimp only at h
      obtain rfl:=oj h
      refine X0l [] ?_
      refine X3.back (by intro id h;cases h) rfl ?_
      exact wkT [] (J)
     intro eo3777;subst eo3777
     refine X3.glue ?_
     try dsimp only at h
     obtain rfl:=oj h
     refine X0l [] ?_
     refine X3.back (by intro id h;cases h) rfl ?_
     exact wkT [] (J)
    intro h
    obtain rfl:=oj h
    exact Xc [.ix 0,.go false,.go false,.go false,.go true,.ix 1,.go true,.go true,.go false,.go false,.go false,.go true,.go true] (k:=wkT [] (X3.glue J))
   intro h
   obtain rfl:=oj h
   exact Xc [.ix 0,.go false,.go false,.go false,.go false,.go false,.go false,.go false,.go false,.go false,.go false,.go false] (k:=wkT [] (X3.glue J))
  clear h;revert h3264
  refine brI (fun h3261=>?_) fun h3261=>?_
  ·
   intro h
   simp only[Option.some.injEq,Prod.mk.injEq] at h
   obtain⟨rfl,rfl⟩:=h
   exact Xc [Bt] (k:=wkT [(2,3),(3,4)] (X3.glue J))
  refine brI (fun h3262=>?_) fun h3262=>?_
  ·
   intro h
   simp only[Option.some.injEq,Prod.mk.injEq] at h
   obtain⟨rfl,rfl⟩:=h
   exact Xc [Bf,Bt] (k:=wkT [(2,3),(3,4)] (X3.glue J))
  refine brI (fun h3263=>?_) fun h3263=>?_
  ·
   intro h
   simp only[Option.some.injEq,Prod.mk.injEq] at h
   obtain⟨rfl,rfl⟩:=h
   exact Xc [Bf,Bf,Bt] (k:=wkT [(2,3),(3,4)] (X3.glue J))
  intro h
  simp only[Option.some.injEq,Prod.mk.injEq] at h
  obtain⟨rfl,rfl⟩:=h
  exact Xc [Bf,Bf,Bf] (k:=wkT [(2,3),(3,4)] (X3.glue J))
instance X004:PCs Tryz.prog 156 (∀ (a0:(List X0c)) (r:(List Bool)×Int),Xdi a0=some r->X11 Tryz.prog 156 [(Lf (a0.map X1))] (AV.tup [(AV.list true (r.1.map aB)),(aI .i64 r.2)])):=⟨fun a0 r h=>by
 refine X11.sym Xh X07h (nt:=88) rfl rfl ?_ okM
 unfold Xdi at h
 revert h
 refine bI fun u1 h2=>?_
 have qh2:=X0u h2
 refine bI fun o3784 h3785=>rnI [.el (aI .i64 (a0.length:Int))] ?_
 intro h
 refine wkT [] (X3.cut (Xh5 a0 qh2 a0 0 (by simp) _ nbS _ h3785 ?_ ?_))
 ·
  intro X0n X0o eo3784;subst eo3784
  refine X3.glue ?_
  try dsimp only at h
  rcases X0o with ⟨_|_,X2a⟩
  ·
   revert h
   exact fun e=>oj e▸Xc [.el (aI .i64 (a0.length:Int))] (k:=fi)
  obtain rfl:=X2a rfl
  revert h
  exact fun e=>oj e▸Xc [.el (aI .i64 (a0.length:Int))] (k:=fi)
 intro X0k Xaz X0h eo3784;subst eo3784
 refine X3.glue ?_
 try dsimp only at h
 rcases X0h with ⟨_|_,X2p⟩
 ·
  revert h
  exact fun e=>oj e▸Xc [] (k:=fi)
 obtain rfl:=X2p rfl
 revert h
 exact fun e=>oj e▸Xc [] (k:=fi)⟩
instance X030:PCs Tryz.prog 130 (∀ (a0:(List X0c)) (r:Bool×Int×Int),Xdj a0=some r->X11 Tryz.prog 130 [(Lf (a0.map X1))] (AV.tup [(aB r.1),(aI .i64 r.2.1),(aI .i64 r.2.2)])):=⟨fun a0 r h=>by
 refine X11.sym Xh X07u (nt:=30) rfl rfl ?_ okM
 unfold Xdj at h
 revert h
 refine bI fun v1 h2=>brI (fun h3=>fun e=>oj e▸Xc [.pure _ (aI .i64 v1),Bt] (k:=fi)) fun h3=>bI fun v4 h5=>brI (fun h6=>fun e=>oj e▸Xc [.pure _ (aI .i64 v1),Bf,.pure _ (AV.tup [(AV.list true (v4.1.map aB)),(aI .i64 v4.2)]),.el (aI .i64 (a0.length:Int)),Bt] (k:=fi)) fun h6=>bI fun e7 h8=>?_
 try have qh8:=Xn h8
 exact fun e=>oj e▸Xc [.pure _ (aI .i64 v1),Bf,.pure _ (AV.tup [(AV.list true (v4.1.map aB)),(aI .i64 v4.2)]),.el (aI .i64 (a0.length:Int)),Bf,.wrap,.el (aB e7),.wrap] (k:=fi)⟩
instance X003:PCs Tryz.prog 108 (∀ (a0:(List X0c)) (a1:Bool) (r:Int×Int),X99 a0 a1=some r->X11 Tryz.prog 108 [(Lf (a0.map X1)),(aB a1)] (AV.tup [(aI .i64 r.1),(aI .i64 r.2)])):=⟨fun a0 a1 r h=>by
 refine X11.sym Xh X086 (nt:=24) rfl rfl ?_ okM
 unfold X99 at h
 revert h
 refine bI fun v1 h2=>bI fun j4_8 h6=>rnI [.pure _ (AV.tup [(aB v1.1),(aI .i64 v1.2.1),(aI .i64 v1.2.2)])] ?_
 intro h
 refine X3.join (s':=⟨fr [(7,(aI .i64 v1.2.1)),(8,(aI .i64 j4_8))],hp ([]),0⟩) ?_ (fun J=>X3.cut ?_)
 ·
  revert h
  exact fun e=>oj e▸Xc [] (k:=fi)
 clear h;revert h6
 refine brI (fun h5=>?_) fun h5=>?_
 ·
  intro h
  obtain rfl:=oj h
  exact Xc [Bt] (k:=wkT [] (X3.glue J))
 intro h
 obtain rfl:=oj h
 exact Xc [Bf] (k:=wkT [] (X3.glue J))⟩
instance Xz8:PCs Tryz.prog 76 (∀ (a0:(List X0c)) (r:Int×Int),Xa1 a0=some r->X11 Tryz.prog 76 [(Lf (a0.map X1))] (AV.tup [(aI .i64 r.1),(aI .i64 r.2)])):=⟨fun a0 r h=>by
 refine X11.sym Xh fn76 (nt:=8) rfl rfl ?_ okM
 unfold Xa1 at h
 revert h
 exact bI fun v1 h2=>fun e=>oj e▸Xc [.pure _ (AV.tup [(aI .i64 v1.1),(aI .i64 v1.2)])] (k:=fi)⟩
instance Xwc:PCs Tryz.prog 75 (∀ (a0:(List X0c)) (r:Int×Int),Xae a0=some r->X11 Tryz.prog 75 [(Lf (a0.map X1))] (AV.tup [(aI .i64 r.1),(aI .i64 r.2)])):=⟨fun a0 r h=>by
 refine X11.sym Xh fn75 (nt:=8) rfl rfl ?_ okM
 unfold Xae at h
 revert h
 exact bI fun v1 h2=>fun e=>oj e▸Xc [.pure _ (AV.tup [(aI .i64 v1.1),(aI .i64 v1.2)])] (k:=fi)⟩
end Go.Av.Tryz