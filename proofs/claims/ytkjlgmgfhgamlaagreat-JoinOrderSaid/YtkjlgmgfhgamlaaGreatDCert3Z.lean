/- Printed by decomp.py: that the program computes the functions. -/
import Derived.Test.YtkjlgmgfhgamlaaGreatDCert2Z
set_option linter.all false

namespace Go.Av.Tryz
open Go.Proofs Go.D
set_option maxRecDepth 10000
set_option maxHeartbeats 40000000
theorem Xfx {Q:Xz->St->Mu->Prop} {μ:Mu} (X19:(List X07)) (hl:X19.length<=140737488355328):∀ (xs:List X07) (k:Nat) (hx:X19.drop k=xs) (Xn:(List Bool)) (Xt:Nb Xn) (o:X5b) (h:X1t X19 xs k Xn=some o)
  (C0:∀ (X0b:(List Bool)) (X0t:Nb X0b),o=X5b.x0 X0b->X3 Tryz.prog 88 0 Q (.exit (.exit 0)) [] ⟨fr [(0,(Lf (X19.map X7))),(4,(AV.ptr 0 0 0))],hp ([(0,Ob [(slE X0t.1 1 (X0b.map aB))] 1)]++opE X0t.1 1 1 (X0b.map aB)),2⟩ μ)
  (C1:∀ (X1l:(List Bool)) (Xin:Int) (X1g:Nb X1l),o=X5b.x1 X1l Xin->X3 Tryz.prog 88 0 Q (.exit .ret) [] ⟨fr [(2,(slE X1g.1 0 (X1l.map aB))),(3,(aI .i64 Xin))],hp ([]++opE X1g.1 0 1 (X1l.map aB)),1⟩ μ),
  X3 Tryz.prog 88 0 Q (.loop (X5p 0 (Xj Tryz.f199))) [] ⟨fr [(0,(Lf (X19.map X7))),(4,(AV.ptr 0 0 0)),(5,(AV.fn 212 [(AV.ptr 0 0 0)])),(12,(Lf (X19.map X7))),(13,(aI .i64 (X19.length:Int))),(14,(aI .i64 (k:Int)))],hp ([(0,Ob [(slE Xt.1 1 (Xn.map aB))] 1)]++opE Xt.1 1 1 (Xn.map aB)),2⟩ μ:=by
 intro xs
 induction xs with
 |nil =>
  intro k hx Xn Xt o h C0 C1
  have hk:=drop_nil hx
  have hc:decide ((k:Int)<(X19.length:Int))=false:=Yf (by omega)
  rw[X1t] at h
  rcases Xt with ⟨_|_,X0g⟩
  ·
   refine X3.round ?_
   revert h
   exact fun e=>Xa [Bf] (k:=wkT [] (C0 _  nbF (oj e).symm))
  ·
   obtain rfl:=X0g rfl
   refine X3.round ?_
   revert h
   exact fun e=>Xa [Bf] (k:=wkT [] (C0 _  nbS (oj e).symm))
 |cons x xs ih =>
  intro k hx Xn Xt o h C0 C1
  obtain⟨hk,hg,hx1⟩:=X1a hx
  have hc:decide ((k:Int)<(X19.length:Int))=true:=Yt (by omega)
  rw[X1t] at h
  rcases Xt with ⟨_|_,X0g⟩
  ·
   refine X3.round ?_
   revert h
   refine brI (fun h2524=>?_) fun h2524=>?_
   ·
    refine bI fun u2525 h2526=>rnI [Bt,.el (X7 x),Bt,.no] (o:=by repeat' first|apply Ya|exact pcM|(refine Xv h2526 rfl ?_;first|(simp;done)|(simp;omega)|(simp[hc,h2524];done)|(simp[hc,h2524];omega))|(refine Xf h2526 (by decide) ?_;first|(simp;done)|(simp;omega)|(simp[hc,h2524];done)|(simp[hc,h2524];omega))|exact Xw) ?_
    intro h
    exact wkT [(1,6)] (ih (k+1) hx1 _ nbF o h C0 C1)
   refine brI (fun h2533=>?_) fun h2533=>?_
   ·
    refine bI fun Xk1 h2549=>rnI [Bt,.el (X7 x),Bf,Bt,.see [(38,[4])],.stop 22] ?_
    intro h
    refine X3.join (s':=⟨fr [(0,(Lf (X19.map X7))),(4,(AV.ptr 0 0 0)),(5,(AV.fn 212 [(AV.ptr 0 0 0)])),(6,(aI .i64 (k:Int))),(9,(aB false)),(12,(Lf (X19.map X7))),(13,(aI .i64 (X19.length:Int))),(14,(aI .i64 (k:Int))),(78,(aB Xk1))],hp ([(0,Ob [(AV.ref 1 0 (Xn.length))] 1),(1,Ob (Xn.map aB) 1)]),2⟩) ?_ (fun J=>X3.cut ?_)
    ·
     revert h
     refine brI (fun h2550=>fun e=>Xa [Bt] (k:=wkT [] (C1 _ _  nbS (oj e).symm))) fun h2550=>?_
     refine bI fun u2551 h2552=>rnI [Bf,.no] (o:=by repeat' first|apply Ya|exact pcM|(refine Xv h2552 rfl ?_;first|(simp;done)|(simp;omega)|(simp[hc,h2524,h2533,h2550];done)|(simp[hc,h2524,h2533,h2550];omega))|(refine Xf h2552 (by decide) ?_;first|(simp;done)|(simp;omega)|(simp[hc,h2524,h2533,h2550];done)|(simp[hc,h2524,h2533,h2550];omega))|exact Xw) ?_
     intro h
     exact wkT [(1,3)] (ih (k+1) hx1 _ nbF o h C0 C1)
    clear h;revert h2549
    refine rnI [.ix 0,.go true,.go true,.stop 999999] ?_
    intro h
    refine X3.inlineG X6 Xik rfl rfl rfl rfl rfl rfl rfl rfl rfl rfl (rfl) trivial trivial ?_
    refine X0i [] ?_
    refine X3.round ?_
    revert h
    refine bI fun e2546 h2547=>?_
    try have qh2547:=Xc h2547
    refine brI (fun h2548=>?_) fun h2548=>?_
    ·
     refine rnI [Bt,.el ((aI .i64 x.A)),.el (aB e2546),.ld (aB e2546),Bt] ?_
     intro h
     refine X3.back (by intro id h;cases h) rfl ?_
     obtain rfl:=oj h
     exact Xa [.go true,.ix 1,.go true,.go true,.go false,.go false,.go false,.go true,.go true] (k:=wkT [] (X3.glue J))
    refine rnI [Bt,.el ((aI .i64 x.A)),.el (aB e2546),.ld (aB e2546),Bf] ?_
    intro h
    refine X3.round ?_
    refine X0i [Bf] ?_
    refine X3.back (by intro id h;cases h) rfl ?_
    obtain rfl:=oj h
    exact Xa [.go false,.go false,.go false,.go false,.go false,.go false,.go false,.go false] (k:=wkT [] (X3.glue J))
   refine brI (fun h2558=>?_) fun h2558=>?_
   ·
    refine bI fun Xk0 h2574=>rnI [Bt,.el (X7 x),Bf,Bf,Bt,.see [(45,[4])],.ix 0,.go false,.go false,.go false,.go true,.ix 1,.go true,.go true,.go true,.go true,.stop 999999] ?_
    intro h
    refine X3.joinOp (s':=⟨fr [(0,(Lf (X19.map X7))),(4,(AV.ptr 0 0 0)),(5,(AV.fn 212 [(AV.ptr 0 0 0)])),(6,(aI .i64 (k:Int))),(9,(aB true)),(12,(Lf (X19.map X7))),(13,(aI .i64 (X19.length:Int))),(14,(aI .i64 (k:Int))),(69,(aB (!(bif false then false else false)))),(72,(aB true)),(75,(aB Xk0))],hp ([(0,Ob [(AV.ref 1 0 (Xn.length))] 1),(1,Ob (Xn.map aB) 1)]),2⟩) ?_ (fun J=>?_)
    ·
     revert h
     refine brI (fun h2575=>fun e=>Xa [.go true,.go true,Bt] (k:=wkT [] (C1 _ _  nbS (oj e).symm))) fun h2575=>?_
     refine bI fun u2576 h2577=>rnI [.go true,.go true,Bf,.no] (o:=by repeat' first|apply Ya|exact pcM|(refine Xv h2577 rfl ?_;first|(simp;done)|(simp;omega)|(simp[hc,h2524,h2533,h2558,h2575];done)|(simp[hc,h2524,h2533,h2558,h2575];omega))|(refine Xf h2577 (by decide) ?_;first|(simp;done)|(simp;omega)|(simp[hc,h2524,h2533,h2558,h2575];done)|(simp[hc,h2524,h2533,h2558,h2575];omega))|exact Xw) ?_
     intro h
     exact wkT [(1,3)] (ih (k+1) hx1 _ nbF o h C0 C1)
    clear h;revert h2574
    intro h
    refine X3.inlineG X6 Xik rfl rfl rfl rfl rfl rfl rfl rfl rfl rfl (rfl) trivial trivial ?_
    refine X0i [] ?_
    refine X3.round ?_
    revert h
    refine bI fun e2571 h2572=>?_
    try have qh2572:=Xc h2572
    refine brI (fun h2573=>?_) fun h2573=>?_
    ·
     intro h
     obtain rfl:=oj h
     refine X0i [Bt,.el ((aI .i64 x.A)),.el (aB e2571),.ld (aB e2571),Bt] ?_
     refine X3.back (by intro id h;cases h) rfl ?_
     exact wkT [] (J)
    refine rnI [Bt,.el ((aI .i64 x.A)),.el (aB e2571),.ld (aB e2571),Bf] ?_
    intro h
    refine X3.round ?_
    obtain rfl:=oj h
    refine X0i [Bf] ?_
    refine X3.back (by intro id h;cases h) rfl ?_
    exact wkT [] (J)
   refine bI fun w2581 h2585=>?_
   intro h
   obtain⟨X9l,Xha⟩:=w2581
   try dsimp only at h
   refine X0i [Bt,.el (X7 x),Bf,Bf,Bf] ?_
   refine X3.join (s':=⟨fr [(0,(Lf (X19.map X7))),(4,(AV.ptr 0 0 0)),(5,(AV.fn 212 [(AV.ptr 0 0 0)])),(6,(aI .i64 (k:Int))),(8,(AV.ptr 2 0 0)),(9,(aB Xha)),(10,(AV.ref 3 0 (List.length [x.A,x.B]))),(12,(Lf (X19.map X7))),(13,(aI .i64 (X19.length:Int))),(14,(aI .i64 (k:Int)))],hp ([(0,Ob [(AV.ref 1 0 (Xn.length))] 1),(1,Ob (Xn.map aB) 1),(2,Ob [(X86 X9l)] 2),(3,Ob (List.map (aI .i64) [x.A,x.B]) 1)]),4⟩) ?_ (fun J=>X3.cut ?_)
   ·
    revert h
    refine bI fun Xjz h3221=>rnI [.stop 22] ?_
    intro h
    refine X3.join (s':=⟨fr [(0,(Lf (X19.map X7))),(4,(AV.ptr 0 0 0)),(5,(AV.fn 212 [(AV.ptr 0 0 0)])),(6,(aI .i64 (k:Int))),(9,(aB Xha)),(12,(Lf (X19.map X7))),(13,(aI .i64 (X19.length:Int))),(14,(aI .i64 (k:Int))),(78,(aB Xjz))],hp ([(0,Ob [(AV.ref 1 0 (Xn.length))] 1),(1,Ob (Xn.map aB) 1)]),2⟩) ?_ (fun J=>X3.cut ?_)
    ·
     revert h
     refine brI (fun h3222=>fun e=>Xa [Bt] (k:=wkT [] (C1 _ _  nbS (oj e).symm))) fun h3222=>?_
     refine bI fun u3223 h3224=>rnI [Bf,.no] (o:=by repeat' first|apply Ya|exact pcM|(refine Xv h3224 rfl ?_;first|(simp;done)|(simp;omega)|(simp[hc,h2524,h2533,h2558,h3222];done)|(simp[hc,h2524,h2533,h2558,h3222];omega))|(refine Xf h3224 (by decide) ?_;first|(simp;done)|(simp;omega)|(simp[hc,h2524,h2533,h2558,h3222];done)|(simp[hc,h2524,h2533,h2558,h3222];omega))|exact Xw) ?_
     intro h
     exact wkT [(1,3)] (ih (k+1) hx1 _ nbF o h C0 C1)
    clear h;revert h3221
    refine brI (fun h2904=>?_) fun h2904=>?_
    ·
     refine bI fun Xaz h3018=>rnI [.ix 0,.go true,.go true,.stop 999999] ?_
     intro h
     refine X3.joinOp (s':=⟨fr [(0,(Lf (X19.map X7))),(4,(AV.ptr 0 0 0)),(5,(AV.fn 212 [(AV.ptr 0 0 0)])),(6,(aI .i64 (k:Int))),(8,(AV.ptr 2 0 0)),(9,(aB Xha)),(10,(AV.ref 3 0 (List.length [x.A,x.B]))),(12,(Lf (X19.map X7))),(13,(aI .i64 (X19.length:Int))),(14,(aI .i64 (k:Int))),(63,(aB X9l.e0)),(66,(aB Xaz))],hp ([(0,Ob [(AV.ref 1 0 (Xn.length))] 1),(1,Ob (Xn.map aB) 1),(2,Ob [(X86 X9l)] 2),(3,Ob (List.map (aI .i64) [x.A,x.B]) 1)]),4⟩) ?_ (fun J=>?_)
     ·
      revert h
      refine brI (fun h3019=>?_) fun h3019=>?_
      ·
       refine brI (fun h3020=>?_) fun h3020=>?_
       ·
        refine bI fun Xjy h3134=>rnI [.go true,.ix 1,.go true,.go true,.go true,.go true,.stop 999999] ?_
        intro h
        refine X3.joinOp (s':=⟨fr [(0,(Lf (X19.map X7))),(4,(AV.ptr 0 0 0)),(5,(AV.fn 212 [(AV.ptr 0 0 0)])),(6,(aI .i64 (k:Int))),(9,(aB Xha)),(12,(Lf (X19.map X7))),(13,(aI .i64 (X19.length:Int))),(14,(aI .i64 (k:Int))),(69,(aB (!(bif X9l.e0 then Xaz else false)))),(72,(aB X9l.e1)),(75,(aB Xjy))],hp ([(0,Ob [(AV.ref 1 0 (Xn.length))] 1),(1,Ob (Xn.map aB) 1)]),2⟩) ?_ (fun J=>?_)
        ·
         obtain rfl:=oj h
         exact Xa [.go true,.go true] (k:=wkT [] (X3.glue J))
        clear h;revert h3134
        intro h
        refine X3.inlineG X6 Xik rfl rfl rfl rfl rfl rfl rfl rfl rfl rfl (h3020) trivial trivial ?_
        revert h
        refine bI fun u3096 h3097=>?_
        have qh3097:=X1c h3097
        refine bI fun o3132 h3133=>rnI [.el (aI .i64 (List.length [x.A,x.B]:Int))] ?_
        intro h
        refine wkT [(4,3)] (X3.cut (X1s Xn [x.A,x.B] nbF qh3097 [x.A,x.B] 0 (by simp) _ h3133 ?_ ?_))
        ·
         intro eo3132;subst eo3132
         refine X3.glue ?_
         try dsimp only at h
         obtain rfl:=oj h
         refine X0i [] ?_
         refine X3.back (by intro id h;cases h) rfl ?_
         exact wkT [] (J)
        intro eo3132;subst eo3132
        refine X3.glue ?_
        try dsimp only at h
        obtain rfl:=oj h
        refine X0i [] ?_
        refine X3.back (by intro id h;cases h) rfl ?_
        exact wkT [] (J)
       intro h
       obtain rfl:=oj h
       exact Xa [.go true,.ix 1,.go true,.go true,.go false,.go false,.go false,.go true,.go true] (k:=wkT [] (X3.glue J))
      intro h
      obtain rfl:=oj h
      exact Xa [.go false,.go false,.go false,.go false,.go false,.go false,.go false,.go false] (k:=wkT [] (X3.glue J))
     clear h;revert h3018
     intro h
     refine X3.inlineG X6 Xik rfl rfl rfl rfl rfl rfl rfl rfl rfl rfl (h2904) trivial trivial ?_
     revert h
     refine bI fun u2980 h2981=>?_
     have qh2981:=X1c h2981
     refine bI fun o3016 h3017=>rnI [.el (aI .i64 (List.length [x.A,x.B]:Int))] ?_
     intro h
     refine wkT [] (X3.cut (X4p Xn X9l [x.A,x.B] nbF qh2981 [x.A,x.B] 0 (by simp) _ h3017 ?_ ?_))
     ·
      intro eo3016;subst eo3016
      refine X3.glue ?_
      try dsimp only at h
      obtain rfl:=oj h
      refine X0i [] ?_
      refine X3.back (by intro id h;cases h) rfl ?_
      exact wkT [] (J)
     intro eo3016;subst eo3016
     refine X3.glue ?_
     try dsimp only at h
     obtain rfl:=oj h
     refine X0i [] ?_
     refine X3.back (by intro id h;cases h) rfl ?_
     exact wkT [] (J)
    refine brI (fun h3135=>?_) fun h3135=>?_
    ·
     refine brI (fun h3136=>?_) fun h3136=>?_
     ·
      refine bI fun Xjx h3220=>rnI [.ix 0,.go false,.go false,.go false,.go true,.ix 1,.go true,.go true,.go true,.go true,.stop 999999] ?_
      intro h
      refine X3.joinOp (s':=⟨fr [(0,(Lf (X19.map X7))),(4,(AV.ptr 0 0 0)),(5,(AV.fn 212 [(AV.ptr 0 0 0)])),(6,(aI .i64 (k:Int))),(9,(aB Xha)),(12,(Lf (X19.map X7))),(13,(aI .i64 (X19.length:Int))),(14,(aI .i64 (k:Int))),(69,(aB (!(bif X9l.e0 then false else false)))),(72,(aB X9l.e1)),(75,(aB Xjx))],hp ([(0,Ob [(AV.ref 1 0 (Xn.length))] 1),(1,Ob (Xn.map aB) 1)]),2⟩) ?_ (fun J=>?_)
      ·
       obtain rfl:=oj h
       exact Xa [.go true,.go true] (k:=wkT [] (X3.glue J))
      clear h;revert h3220
      intro h
      refine X3.inlineG X6 Xik rfl rfl rfl rfl rfl rfl rfl rfl rfl rfl (h3136) trivial trivial ?_
      revert h
      refine bI fun u3192 h3193=>?_
      have qh3193:=X1c h3193
      refine bI fun o3218 h3219=>rnI [.el (aI .i64 (List.length [x.A,x.B]:Int))] ?_
      intro h
      refine wkT [(4,3)] (X3.cut (X1s Xn [x.A,x.B] nbF qh3193 [x.A,x.B] 0 (by simp) _ h3219 ?_ ?_))
      ·
       intro eo3218;subst eo3218
       refine X3.glue ?_
       try dsimp only at h
       obtain rfl:=oj h
       refine X0i [] ?_
       refine X3.back (by intro id h;cases h) rfl ?_
       exact wkT [] (J)
      intro eo3218;subst eo3218
      refine X3.glue ?_
      try dsimp only at h
      obtain rfl:=oj h
      refine X0i [] ?_
      refine X3.back (by intro id h;cases h) rfl ?_
      exact wkT [] (J)
     intro h
     obtain rfl:=oj h
     exact Xa [.ix 0,.go false,.go false,.go false,.go true,.ix 1,.go true,.go true,.go false,.go false,.go false,.go true,.go true] (k:=wkT [] (X3.glue J))
    intro h
    obtain rfl:=oj h
    exact Xa [.ix 0,.go false,.go false,.go false,.go false,.go false,.go false,.go false,.go false,.go false,.go false,.go false] (k:=wkT [] (X3.glue J))
   clear h;revert h2585
   refine brI (fun h2582=>?_) fun h2582=>?_
   ·
    intro h
    simp only[Option.some.injEq,Prod.mk.injEq] at h
    obtain⟨rfl,rfl⟩:=h
    exact Xa [Bt] (k:=wkT [(2,3),(3,4)] (X3.glue J))
   refine brI (fun h2583=>?_) fun h2583=>?_
   ·
    intro h
    simp only[Option.some.injEq,Prod.mk.injEq] at h
    obtain⟨rfl,rfl⟩:=h
    exact Xa [Bf,Bt] (k:=wkT [(2,3),(3,4)] (X3.glue J))
   refine brI (fun h2584=>?_) fun h2584=>?_
   ·
    intro h
    simp only[Option.some.injEq,Prod.mk.injEq] at h
    obtain⟨rfl,rfl⟩:=h
    exact Xa [Bf,Bf,Bt] (k:=wkT [(2,3),(3,4)] (X3.glue J))
   intro h
   simp only[Option.some.injEq,Prod.mk.injEq] at h
   obtain⟨rfl,rfl⟩:=h
   exact Xa [Bf,Bf,Bf] (k:=wkT [(2,3),(3,4)] (X3.glue J))
  obtain rfl:=X0g rfl
  refine X3.round ?_
  revert h
  refine brI (fun h3225=>?_) fun h3225=>?_
  ·
   refine bI fun u3226 h3227=>rnI [Bt,.el (X7 x),Bt,.no] (o:=by repeat' first|apply Ya|exact pcM|(refine Xv h3227 rfl ?_;first|(simp;done)|(simp;omega)|(simp[hc,h3225];done)|(simp[hc,h3225];omega))|(refine Xf h3227 (by decide) ?_;first|(simp;done)|(simp;omega)|(simp[hc,h3225];done)|(simp[hc,h3225];omega))|exact Xw) ?_
   intro h
   exact wkT [(1,6)] (ih (k+1) hx1 _ nbF o h C0 C1)
  refine brI (fun h3233=>?_) fun h3233=>?_
  ·
   refine rnI [Bt,.el (X7 x),Bf,Bt,.see [(38,[4])],.ix 0,.go true,.go true,.stop 999999] ?_
   intro h
   refine X3.inlineG X6 Xik rfl rfl rfl rfl rfl rfl rfl rfl rfl rfl (rfl) trivial trivial ?_
   refine X0i [] ?_
   refine X3.round ?_
   revert h
   refine bI fun e3241 h3242=>?_
   try have qh3242:=Xc h3242
   intro h
   exact absurd (h3242) (by simp[X3c])
  refine brI (fun h3247=>?_) fun h3247=>?_
  ·
   refine rnI [Bt,.el (X7 x),Bf,Bf,Bt,.see [(45,[4])],.ix 0,.go false,.go false,.go false,.go true,.ix 1,.go true,.go true,.go true,.go true,.stop 999999] ?_
   intro h
   refine X3.inlineG X6 Xik rfl rfl rfl rfl rfl rfl rfl rfl rfl rfl (rfl) trivial trivial ?_
   refine X0i [] ?_
   refine X3.round ?_
   revert h
   refine bI fun e3255 h3256=>?_
   try have qh3256:=Xc h3256
   intro h
   exact absurd (h3256) (by simp[X3c])
  refine bI fun w3260 h3264=>?_
  intro h
  obtain⟨X9k,Xh9⟩:=w3260
  try dsimp only at h
  refine X0i [Bt,.el (X7 x),Bf,Bf,Bf] ?_
  refine X3.join (s':=⟨fr [(0,(Lf (X19.map X7))),(4,(AV.ptr 0 0 0)),(5,(AV.fn 212 [(AV.ptr 0 0 0)])),(6,(aI .i64 (k:Int))),(8,(AV.ptr 2 0 0)),(9,(aB Xh9)),(10,(AV.ref 3 0 (List.length [x.A,x.B]))),(12,(Lf (X19.map X7))),(13,(aI .i64 (X19.length:Int))),(14,(aI .i64 (k:Int)))],hp ([(0,Ob [AV.nils] 1),(2,Ob [(X86 X9k)] 2),(3,Ob (List.map (aI .i64) [x.A,x.B]) 1)]),4⟩) ?_ (fun J=>X3.cut ?_)
  ·
   revert h
   refine bI fun Xvm h3780=>rnI [.stop 22] ?_
   intro h
   refine X3.join (s':=⟨fr [(0,(Lf (X19.map X7))),(4,(AV.ptr 0 0 0)),(5,(AV.fn 212 [(AV.ptr 0 0 0)])),(6,(aI .i64 (k:Int))),(9,(aB Xh9)),(12,(Lf (X19.map X7))),(13,(aI .i64 (X19.length:Int))),(14,(aI .i64 (k:Int))),(78,(aB Xvm))],hp ([(0,Ob [AV.nils] 1)]),2⟩) ?_ (fun J=>X3.cut ?_)
   ·
    revert h
    refine brI (fun h3781=>fun e=>Xa [Bt] (k:=wkT [] (C1 _ _  nbS (oj e).symm))) fun h3781=>?_
    refine bI fun u3782 h3783=>rnI [Bf,.no] (o:=by repeat' first|apply Ya|exact pcM|(refine Xv h3783 rfl ?_;first|(simp;done)|(simp;omega)|(simp[hc,h3225,h3233,h3247,h3781];done)|(simp[hc,h3225,h3233,h3247,h3781];omega))|(refine Xf h3783 (by decide) ?_;first|(simp;done)|(simp;omega)|(simp[hc,h3225,h3233,h3247,h3781];done)|(simp[hc,h3225,h3233,h3247,h3781];omega))|exact Xw) ?_
    intro h
    exact wkT [(1,3)] (ih (k+1) hx1 _ nbF o h C0 C1)
   clear h;revert h3780
   refine brI (fun h3523=>?_) fun h3523=>?_
   ·
    refine bI fun Xox h3607=>rnI [.ix 0,.go true,.go true,.stop 999999] ?_
    intro h
    refine X3.joinOp (s':=⟨fr [(0,(Lf (X19.map X7))),(4,(AV.ptr 0 0 0)),(5,(AV.fn 212 [(AV.ptr 0 0 0)])),(6,(aI .i64 (k:Int))),(8,(AV.ptr 2 0 0)),(9,(aB Xh9)),(10,(AV.ref 3 0 (List.length [x.A,x.B]))),(12,(Lf (X19.map X7))),(13,(aI .i64 (X19.length:Int))),(14,(aI .i64 (k:Int))),(63,(aB X9k.e0)),(66,(aB Xox))],hp ([(0,Ob [AV.nils] 1),(2,Ob [(X86 X9k)] 2),(3,Ob (List.map (aI .i64) [x.A,x.B]) 1)]),4⟩) ?_ (fun J=>?_)
    ·
     revert h
     refine brI (fun h3608=>?_) fun h3608=>?_
     ·
      refine brI (fun h3609=>?_) fun h3609=>?_
      ·
       refine bI fun Xvl h3693=>rnI [.go true,.ix 1,.go true,.go true,.go true,.go true,.stop 999999] ?_
       intro h
       refine X3.joinOp (s':=⟨fr [(0,(Lf (X19.map X7))),(4,(AV.ptr 0 0 0)),(5,(AV.fn 212 [(AV.ptr 0 0 0)])),(6,(aI .i64 (k:Int))),(9,(aB Xh9)),(12,(Lf (X19.map X7))),(13,(aI .i64 (X19.length:Int))),(14,(aI .i64 (k:Int))),(69,(aB (!(bif X9k.e0 then Xox else false)))),(72,(aB X9k.e1)),(75,(aB Xvl))],hp ([(0,Ob [AV.nils] 1)]),2⟩) ?_ (fun J=>?_)
       ·
        obtain rfl:=oj h
        exact Xa [.go true,.go true] (k:=wkT [] (X3.glue J))
       clear h;revert h3693
       intro h
       refine X3.inlineG X6 Xik rfl rfl rfl rfl rfl rfl rfl rfl rfl rfl (h3609) trivial trivial ?_
       revert h
       refine bI fun u3665 h3666=>?_
       have qh3666:=X1c h3666
       refine bI fun o3691 h3692=>rnI [.el (aI .i64 (List.length [x.A,x.B]:Int))] ?_
       intro h
       refine wkT [(4,3)] (X3.cut (X1s ([]:List Bool) [x.A,x.B] nbS qh3666 [x.A,x.B] 0 (by simp) _ h3692 ?_ ?_))
       ·
        intro eo3691;subst eo3691
        refine X3.glue ?_
        try dsimp only at h
        obtain rfl:=oj h
        refine X0i [] ?_
        refine X3.back (by intro id h;cases h) rfl ?_
        exact wkT [] (J)
       intro eo3691;subst eo3691
       refine X3.glue ?_
       try dsimp only at h
       obtain rfl:=oj h
       refine X0i [] ?_
       refine X3.back (by intro id h;cases h) rfl ?_
       exact wkT [] (J)
      intro h
      obtain rfl:=oj h
      exact Xa [.go true,.ix 1,.go true,.go true,.go false,.go false,.go false,.go true,.go true] (k:=wkT [] (X3.glue J))
     intro h
     obtain rfl:=oj h
     exact Xa [.go false,.go false,.go false,.go false,.go false,.go false,.go false,.go false] (k:=wkT [] (X3.glue J))
    clear h;revert h3607
    intro h
    refine X3.inlineG X6 Xik rfl rfl rfl rfl rfl rfl rfl rfl rfl rfl (h3523) trivial trivial ?_
    revert h
    refine bI fun u3579 h3580=>?_
    have qh3580:=X1c h3580
    refine bI fun o3605 h3606=>rnI [.el (aI .i64 (List.length [x.A,x.B]:Int))] ?_
    intro h
    refine wkT [] (X3.cut (X4p ([]:List Bool) X9k [x.A,x.B] nbS qh3580 [x.A,x.B] 0 (by simp) _ h3606 ?_ ?_))
    ·
     intro eo3605;subst eo3605
     refine X3.glue ?_
     try dsimp only at h
     obtain rfl:=oj h
     refine X0i [] ?_
     refine X3.back (by intro id h;cases h) rfl ?_
     exact wkT [] (J)
    intro eo3605;subst eo3605
    refine X3.glue ?_
    try dsimp only at h
    obtain rfl:=oj h
    refine X0i [] ?_
    refine X3.back (by intro id h;cases h) rfl ?_
    exact wkT [] (J)
   refine brI (fun h3694=>?_) fun h3694=>?_
   ·
    refine brI (fun h3695=>?_) fun h3695=>?_
    ·
     refine bI fun Xvk h3779=>rnI [.ix 0,.go false,.go false,.go false,.go true,.ix 1,.go true,.go true,.go true,.go true,.stop 999999] ?_
     intro h
     refine X3.joinOp (s':=⟨fr [(0,(Lf (X19.map X7))),(4,(AV.ptr 0 0 0)),(5,(AV.fn 212 [(AV.ptr 0 0 0)])),(6,(aI .i64 (k:Int))),(9,(aB Xh9)),(12,(Lf (X19.map X7))),(13,(aI .i64 (X19.length:Int))),(14,(aI .i64 (k:Int))),(69,(aB (!(bif X9k.e0 then false else false)))),(72,(aB X9k.e1)),(75,(aB Xvk))],hp ([(0,Ob [AV.nils] 1)]),2⟩) ?_ (fun J=>?_)
     ·
      obtain rfl:=oj h
      exact Xa [.go true,.go true] (k:=wkT [] (X3.glue J))
     clear h;revert h3779
     intro h
     refine X3.inlineG X6 Xik rfl rfl rfl rfl rfl rfl rfl rfl rfl rfl (h3695) trivial trivial ?_
     revert h
     refine bI fun u3751 h3752=>?_
     have qh3752:=X1c h3752
     refine bI fun o3777 h3778=>rnI [.el (aI .i64 (List.length [x.A,x.B]:Int))] ?_
     intro h
     refine wkT [(4,3)] (X3.cut (X1s ([]:List Bool) [x.A,x.B] nbS qh3752 [x.A,x.B] 0 (by simp) _ h3778 ?_ ?_))
     ·
      intro eo3777;subst eo3777
      refine X3.glue ?_
      try dsimp only at h
      obtain rfl:=oj h
      refine X0i [] ?_
      refine X3.back (by intro id h;cases h) rfl ?_
      exact wkT [] (J)
     intro eo3777;subst eo3777
     refine X3.glue ?_
     try dsimp only at h
     obtain rfl:=oj h
     refine X0i [] ?_
     refine X3.back (by intro id h;cases h) rfl ?_
     exact wkT [] (J)
    intro h
    obtain rfl:=oj h
    exact Xa [.ix 0,.go false,.go false,.go false,.go true,.ix 1,.go true,.go true,.go false,.go false,.go false,.go true,.go true] (k:=wkT [] (X3.glue J))
   intro h
   obtain rfl:=oj h
   exact Xa [.ix 0,.go false,.go false,.go false,.go false,.go false,.go false,.go false,.go false,.go false,.go false,.go false] (k:=wkT [] (X3.glue J))
  clear h;revert h3264
  refine brI (fun h3261=>?_) fun h3261=>?_
  ·
   intro h
   simp only[Option.some.injEq,Prod.mk.injEq] at h
   obtain⟨rfl,rfl⟩:=h
   exact Xa [Bt] (k:=wkT [(2,3),(3,4)] (X3.glue J))
  refine brI (fun h3262=>?_) fun h3262=>?_
  ·
   intro h
   simp only[Option.some.injEq,Prod.mk.injEq] at h
   obtain⟨rfl,rfl⟩:=h
   exact Xa [Bf,Bt] (k:=wkT [(2,3),(3,4)] (X3.glue J))
  refine brI (fun h3263=>?_) fun h3263=>?_
  ·
   intro h
   simp only[Option.some.injEq,Prod.mk.injEq] at h
   obtain⟨rfl,rfl⟩:=h
   exact Xa [Bf,Bf,Bt] (k:=wkT [(2,3),(3,4)] (X3.glue J))
  intro h
  simp only[Option.some.injEq,Prod.mk.injEq] at h
  obtain⟨rfl,rfl⟩:=h
  exact Xa [Bf,Bf,Bf] (k:=wkT [(2,3),(3,4)] (X3.glue J))
instance Xvg:PCs Tryz.prog 199 (∀ (a0:(List X07)) (r:(List Bool)×Int),Xca a0=some r->X0l Tryz.prog 199 [(Lf (a0.map X7))] (AV.tup [(AV.list true (r.1.map aB)),(aI .i64 r.2)])):=⟨fun a0 r h=>by
 refine X0l.sym X6 X02p (nt:=88) rfl rfl ?_ okM
 unfold Xca at h
 revert h
 refine bI fun u1 h2=>?_
 have qh2:=X1c h2
 refine bI fun o3784 h3785=>rnI [.el (aI .i64 (a0.length:Int))] ?_
 intro h
 refine wkT [] (X3.cut (Xfx a0 qh2 a0 0 (by simp) _ nbS _ h3785 ?_ ?_))
 ·
  intro X0b X0t eo3784;subst eo3784
  refine X3.glue ?_
  try dsimp only at h
  rcases X0t with ⟨_|_,X4a⟩<;>(try obtain rfl:=X4a rfl)
  all_goals
   revert h
   exact fun e=>oj e▸Xa [.el (aI .i64 (a0.length:Int))] (k:=fi)
 intro X1l Xin X1g eo3784;subst eo3784
 refine X3.glue ?_
 try dsimp only at h
 rcases X1g with ⟨_|_,X5h⟩<;>(try obtain rfl:=X5h rfl)
 all_goals
  revert h
  exact fun e=>oj e▸Xa [] (k:=fi)⟩
instance Xyh:PCs Tryz.prog 181 (∀ (a0:(List X07)) (r:Bool×Int×Int),Xdp a0=some r->X0l Tryz.prog 181 [(Lf (a0.map X7))] (AV.tup [(aB r.1),(aI .i64 r.2.1),(aI .i64 r.2.2)])):=⟨fun a0 r h=>by
 refine X0l.sym X6 X02u (nt:=30) rfl rfl ?_ okM
 unfold Xdp at h
 revert h
 refine bI fun v1 h2=>brI (fun h3=>fun e=>oj e▸Xa [.pure _ (aI .i64 v1),Bt] (k:=fi)) fun h3=>bI fun v4 h5=>brI (fun h6=>fun e=>oj e▸Xa [.pure _ (aI .i64 v1),Bf,.pure _ (AV.tup [(AV.list true (v4.1.map aB)),(aI .i64 v4.2)]),.el (aI .i64 (a0.length:Int)),Bt] (k:=fi)) fun h6=>bI fun e7 h8=>?_
 try have qh8:=Xc h8
 exact fun e=>oj e▸Xa [.pure _ (aI .i64 v1),Bf,.pure _ (AV.tup [(AV.list true (v4.1.map aB)),(aI .i64 v4.2)]),.el (aI .i64 (a0.length:Int)),Bf,.wrap,.el (aB e7),.wrap] (k:=fi)⟩
instance Xvf:PCs Tryz.prog 159 (∀ (a0:(List X07)) (a1:Bool) (r:Int×Int),X8i a0 a1=some r->X0l Tryz.prog 159 [(Lf (a0.map X7)),(aB a1)] (AV.tup [(aI .i64 r.1),(aI .i64 r.2)])):=⟨fun a0 a1 r h=>by
 refine X0l.sym X6 X036 (nt:=24) rfl rfl ?_ okM
 unfold X8i at h
 revert h
 refine bI fun v1 h2=>bI fun j4_8 h6=>rnI [.pure _ (AV.tup [(aB v1.1),(aI .i64 v1.2.1),(aI .i64 v1.2.2)])] ?_
 intro h
 refine X3.join (s':=⟨fr [(7,(aI .i64 v1.2.1)),(8,(aI .i64 j4_8))],hp ([]),0⟩) ?_ (fun J=>X3.cut ?_)
 ·
  revert h
  exact fun e=>oj e▸Xa [] (k:=fi)
 clear h;revert h6
 refine brI (fun h5=>?_) fun h5=>?_
 ·
  intro h
  obtain rfl:=oj h
  exact Xa [Bt] (k:=wkT [] (X3.glue J))
 intro h
 obtain rfl:=oj h
 exact Xa [Bf] (k:=wkT [] (X3.glue J))⟩
instance Xug:PCs Tryz.prog 134 (∀ (a0:(List X07)) (r:Int×Int),X96 a0=some r->X0l Tryz.prog 134 [(Lf (a0.map X7))] (AV.tup [(aI .i64 r.1),(aI .i64 r.2)])):=⟨fun a0 r h=>by
 refine X0l.sym X6 X03j (nt:=8) rfl rfl ?_ okM
 unfold X96 at h
 revert h
 exact bI fun v1 h2=>fun e=>oj e▸Xa [.pure _ (AV.tup [(aI .i64 v1.1),(aI .i64 v1.2)])] (k:=fi)⟩
instance Xse:PCs Tryz.prog 133 (∀ (a0:(List X07)) (r:Int×Int),X9j a0=some r->X0l Tryz.prog 133 [(Lf (a0.map X7))] (AV.tup [(aI .i64 r.1),(aI .i64 r.2)])):=⟨fun a0 r h=>by
 refine X0l.sym X6 X03k (nt:=8) rfl rfl ?_ okM
 unfold X9j at h
 revert h
 exact bI fun v1 h2=>fun e=>oj e▸Xa [.pure _ (AV.tup [(aI .i64 v1.1),(aI .i64 v1.2)])] (k:=fi)⟩
end Go.Av.Tryz