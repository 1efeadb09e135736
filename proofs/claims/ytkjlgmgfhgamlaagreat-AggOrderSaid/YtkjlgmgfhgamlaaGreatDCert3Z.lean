/- Printed by decomp.py: that the program computes the functions. -/
import Derived.Test.YtkjlgmgfhgamlaaGreatDCert2Z
set_option linter.all false

namespace Go.Av.Tryz
open Go.Proofs Go.D
set_option maxRecDepth 10000
set_option maxHeartbeats 40000000
theorem Xgq {Q:Xx->St->Mu->Prop} {μ:Mu} (X0u:(List X05)) (hl:X0u.length<=140737488355328):∀ (xs:List X05) (k:Nat) (hx:X0u.drop k=xs) (Xi:(List Bool)) (Xq:Nb Xi) (o:X50) (h:X1l X0u xs k Xi=some o)
  (C0:∀ (X09:(List Bool)) (X0p:Nb X09),o=X50.x0 X09->X2 Tryz.prog 88 0 Q (.exit (.exit 0)) [] ⟨fr [(0,(Lf (X0u.map X4))),(4,(AV.ptr 0 0 0))],hp ([(0,Ob [(slE X0p.1 1 (X09.map aB))] 1)]++opE X0p.1 1 1 (X09.map aB)),2⟩ μ)
  (C1:∀ (X1a:(List Bool)) (Xjl:Int) (X17:Nb X1a),o=X50.x1 X1a Xjl->X2 Tryz.prog 88 0 Q (.exit .ret) [] ⟨fr [(2,(slE X17.1 0 (X1a.map aB))),(3,(aI .i64 Xjl))],hp ([]++opE X17.1 0 1 (X1a.map aB)),1⟩ μ),
  X2 Tryz.prog 88 0 Q (.loop (X48 0 (Xa Tryz.f199))) [] ⟨fr [(0,(Lf (X0u.map X4))),(4,(AV.ptr 0 0 0)),(5,(AV.fn 212 [(AV.ptr 0 0 0)])),(12,(Lf (X0u.map X4))),(13,(aI .i64 (X0u.length:Int))),(14,(aI .i64 (k:Int)))],hp ([(0,Ob [(slE Xq.1 1 (Xi.map aB))] 1)]++opE Xq.1 1 1 (Xi.map aB)),2⟩ μ:=by
 intro xs
 induction xs with
 |nil =>
  intro k hx Xi Xq o h C0 C1;have hk:=drop_nil hx;have hc:decide ((k:Int)<(X0u.length:Int))=false:=Yf om;rw[X1l] at h;rcases Xq with ⟨_|_,X0f⟩
  ·
   refine X2.round ?_;revert h;exact λe=>X7 [Bf] (k:=wkT [] (C0 _  nbF (oj e).symm))
  ·
   obtain rfl:=X0f rfl;refine X2.round ?_;revert h;exact λe=>X7 [Bf] (k:=wkT [] (C0 _  nbS (oj e).symm))
 |cons x xs ih =>
  intro k hx Xi Xq o h C0 C1;obtain⟨hk,hg,hx1⟩:=X12 hx;have hc:decide ((k:Int)<(X0u.length:Int))=true:=Yt om;rw[X1l] at h;rcases Xq with ⟨_|_,X0f⟩
  ·
   refine X2.round ?_;revert h;refine brI (λh2524=>?_) λh2524=>?_
   ·
    refine bI λu2525 h2526=>rnI [Bt,.el (X4 x),Bt,.no] (o:=by repeat' first|apply Ya|exact pcM|(refine X02 h2526 rfl ?_;first|(simp<;>omega)|(simp[hc,h2524]<;>omega))|(refine Xk h2526 (by decide) ?_;first|(simp<;>omega)|(simp[hc,h2524]<;>omega))|exact Xz) ?_;intro h;exact wkT [(1,6)] (ih (k+1) hx1 _ nbF o h C0 C1)
   refine brI (λh2533=>?_) λh2533=>?_
   ·
    refine bI λXkx h2549=>rnI [Bt,.el (X4 x),Bf,Bt,.see [(38,[4])],.stop 22] ?_;intro h;refine X2.join (s':=⟨fr [(0,(Lf (X0u.map X4))),(4,(AV.ptr 0 0 0)),(5,(AV.fn 212 [(AV.ptr 0 0 0)])),(6,(aI .i64 (k:Int))),(9,(aB false)),(12,(Lf (X0u.map X4))),(13,(aI .i64 (X0u.length:Int))),(14,(aI .i64 (k:Int))),(78,(aB Xkx))],hp ([(0,Ob [(AV.ref 1 0 (Xi.length))] 1),(1,Ob (Xi.map aB) 1)]),2⟩) ?_ (λJ=>X2.cut ?_)
    ·
     revert h;refine brI (λh2550=>λe=>X7 [Bt] (k:=wkT [] (C1 _ _  nbS (oj e).symm))) λh2550=>?_;refine bI λu2551 h2552=>rnI [Bf,.no] (o:=by repeat' first|apply Ya|exact pcM|(refine X02 h2552 rfl ?_;first|(simp<;>omega)|(simp[hc,h2524,h2533,h2550]<;>omega))|(refine Xk h2552 (by decide) ?_;first|(simp<;>omega)|(simp[hc,h2524,h2533,h2550]<;>omega))|exact Xz) ?_;intro h;exact wkT [(1,3)] (ih (k+1) hx1 _ nbF o h C0 C1)
    clear h;revert h2549;refine rnI [.ix 0,Gt,Gt,.stop 999999] ?_;intro h;refine X2.inlineG X3 Xjh rfl rfl rfl rfl rfl rfl rfl rfl rfl rfl (rfl) trivial trivial ?_;refine X0e [] ?_;refine X2.round ?_;revert h;refine bI λe2546 h2547=>?_;try have qh2547:=Xo h2547
    refine brI (λh2548=>?_) λh2548=>?_
    ·
     refine rnI [Bt,.el ((aI .i64 x.A)),.el (aB e2546),.ld (aB e2546),Bt] ?_;intro h;refine X2.back (by intro id h;cases h) rfl ?_;obtain rfl:=oj h;exact X7 [Gt,.ix 1,Gt,Gt,Gf,Gf,Gf,Gt,Gt] (k:=wkT [] (X2.glue J))
    refine rnI [Bt,.el ((aI .i64 x.A)),.el (aB e2546),.ld (aB e2546),Bf] ?_;intro h;refine X2.round ?_;refine X0e [Bf] ?_;refine X2.back (by intro id h;cases h) rfl ?_;obtain rfl:=oj h;exact X7 [Gf,Gf,Gf,Gf,Gf,Gf,Gf,Gf] (k:=wkT [] (X2.glue J))
   refine brI (λh2558=>?_) λh2558=>?_
   ·
    refine bI λXkw h2574=>rnI [Bt,.el (X4 x),Bf,Bf,Bt,.see [(45,[4])],.ix 0,Gf,Gf,Gf,Gt,.ix 1,Gt,Gt,Gt,Gt,.stop 999999] ?_;intro h;refine X2.joinOp (s':=⟨fr [(0,(Lf (X0u.map X4))),(4,(AV.ptr 0 0 0)),(5,(AV.fn 212 [(AV.ptr 0 0 0)])),(6,(aI .i64 (k:Int))),(9,(aB true)),(12,(Lf (X0u.map X4))),(13,(aI .i64 (X0u.length:Int))),(14,(aI .i64 (k:Int))),(69,(aB (!(bif false then false else false)))),(72,(aB true)),(75,(aB Xkw))],hp ([(0,Ob [(AV.ref 1 0 (Xi.length))] 1),(1,Ob (Xi.map aB) 1)]),2⟩) ?_ (λJ=>?_)
    ·
     revert h;refine brI (λh2575=>λe=>X7 [Gt,Gt,Bt] (k:=wkT [] (C1 _ _  nbS (oj e).symm))) λh2575=>?_;refine bI λu2576 h2577=>rnI [Gt,Gt,Bf,.no] (o:=by repeat' first|apply Ya|exact pcM|(refine X02 h2577 rfl ?_;first|(simp<;>omega)|(simp[hc,h2524,h2533,h2558,h2575]<;>omega))|(refine Xk h2577 (by decide) ?_;first|(simp<;>omega)|(simp[hc,h2524,h2533,h2558,h2575]<;>omega))|exact Xz) ?_;intro h;exact wkT [(1,3)] (ih (k+1) hx1 _ nbF o h C0 C1)
    clear h;revert h2574;intro h;refine X2.inlineG X3 Xjh rfl rfl rfl rfl rfl rfl rfl rfl rfl rfl (rfl) trivial trivial ?_;refine X0e [] ?_;refine X2.round ?_;revert h;refine bI λe2571 h2572=>?_;try have qh2572:=Xo h2572
    refine brI (λh2573=>?_) λh2573=>?_
    ·
     intro h;obtain rfl:=oj h;refine X0e [Bt,.el ((aI .i64 x.A)),.el (aB e2571),.ld (aB e2571),Bt] ?_;refine X2.back (by intro id h;cases h) rfl ?_;exact wkT [] (J)
    refine rnI [Bt,.el ((aI .i64 x.A)),.el (aB e2571),.ld (aB e2571),Bf] ?_;intro h;refine X2.round ?_;obtain rfl:=oj h;refine X0e [Bf] ?_;refine X2.back (by intro id h;cases h) rfl ?_;exact wkT [] (J)
   refine bI λw2581 h2585=>?_;intro h;obtain⟨X9v,Xi7⟩:=w2581;try dsimp only at h
   refine X0e [Bt,.el (X4 x),Bf,Bf,Bf] ?_;refine X2.join (s':=⟨fr [(0,(Lf (X0u.map X4))),(4,(AV.ptr 0 0 0)),(5,(AV.fn 212 [(AV.ptr 0 0 0)])),(6,(aI .i64 (k:Int))),(8,(AV.ptr 2 0 0)),(9,(aB Xi7)),(10,(AV.ref 3 0 (List.length [x.A,x.B]))),(12,(Lf (X0u.map X4))),(13,(aI .i64 (X0u.length:Int))),(14,(aI .i64 (k:Int)))],hp ([(0,Ob [(AV.ref 1 0 (Xi.length))] 1),(1,Ob (Xi.map aB) 1),(2,Ob [(X8d X9v)] 2),(3,Ob (List.map (aI .i64) [x.A,x.B]) 1)]),4⟩) ?_ (λJ=>X2.cut ?_)
   ·
    revert h;refine bI λXkv h3221=>rnI [.stop 22] ?_;intro h;refine X2.join (s':=⟨fr [(0,(Lf (X0u.map X4))),(4,(AV.ptr 0 0 0)),(5,(AV.fn 212 [(AV.ptr 0 0 0)])),(6,(aI .i64 (k:Int))),(9,(aB Xi7)),(12,(Lf (X0u.map X4))),(13,(aI .i64 (X0u.length:Int))),(14,(aI .i64 (k:Int))),(78,(aB Xkv))],hp ([(0,Ob [(AV.ref 1 0 (Xi.length))] 1),(1,Ob (Xi.map aB) 1)]),2⟩) ?_ (λJ=>X2.cut ?_)
    ·
     revert h;refine brI (λh3222=>λe=>X7 [Bt] (k:=wkT [] (C1 _ _  nbS (oj e).symm))) λh3222=>?_;refine bI λu3223 h3224=>rnI [Bf,.no] (o:=by repeat' first|apply Ya|exact pcM|(refine X02 h3224 rfl ?_;first|(simp<;>omega)|(simp[hc,h2524,h2533,h2558,h3222]<;>omega))|(refine Xk h3224 (by decide) ?_;first|(simp<;>omega)|(simp[hc,h2524,h2533,h2558,h3222]<;>omega))|exact Xz) ?_;intro h;exact wkT [(1,3)] (ih (k+1) hx1 _ nbF o h C0 C1)
    clear h;revert h3221;refine brI (λh2904=>?_) λh2904=>?_
    ·
     refine bI λXb9 h3018=>rnI [.ix 0,Gt,Gt,.stop 999999] ?_;intro h;refine X2.joinOp (s':=⟨fr [(0,(Lf (X0u.map X4))),(4,(AV.ptr 0 0 0)),(5,(AV.fn 212 [(AV.ptr 0 0 0)])),(6,(aI .i64 (k:Int))),(8,(AV.ptr 2 0 0)),(9,(aB Xi7)),(10,(AV.ref 3 0 (List.length [x.A,x.B]))),(12,(Lf (X0u.map X4))),(13,(aI .i64 (X0u.length:Int))),(14,(aI .i64 (k:Int))),(63,(aB X9v.e0)),(66,(aB Xb9))],hp ([(0,Ob [(AV.ref 1 0 (Xi.length))] 1),(1,Ob (Xi.map aB) 1),(2,Ob [(X8d X9v)] 2),(3,Ob (List.map (aI .i64) [x.A,x.B]) 1)]),4⟩) ?_ (λJ=>?_)
     ·
      revert h;refine brI (λh3019=>?_) λh3019=>?_
      ·
       refine brI (λh3020=>?_) λh3020=>?_
       ·
        refine bI λXku h3134=>rnI [Gt,.ix 1,Gt,Gt,Gt,Gt,.stop 999999] ?_;intro h;refine X2.joinOp (s':=⟨fr [(0,(Lf (X0u.map X4))),(4,(AV.ptr 0 0 0)),(5,(AV.fn 212 [(AV.ptr 0 0 0)])),(6,(aI .i64 (k:Int))),(9,(aB Xi7)),(12,(Lf (X0u.map X4))),(13,(aI .i64 (X0u.length:Int))),(14,(aI .i64 (k:Int))),(69,(aB (!(bif X9v.e0 then Xb9 else false)))),(72,(aB X9v.e1)),(75,(aB Xku))],hp ([(0,Ob [(AV.ref 1 0 (Xi.length))] 1),(1,Ob (Xi.map aB) 1)]),2⟩) ?_ (λJ=>?_)
        ·
         obtain rfl:=oj h;exact X7 [Gt,Gt] (k:=wkT [] (X2.glue J))
        clear h;revert h3134;intro h;refine X2.inlineG X3 Xjh rfl rfl rfl rfl rfl rfl rfl rfl rfl rfl (h3020) trivial trivial ?_;revert h;refine bI λu3096 h3097=>?_;have qh3097:=X13 h3097;refine bI λo3132 h3133=>rnI [.el (aI .i64 (List.length [x.A,x.B]:Int))] ?_;intro h;refine wkT [(4,3)] (X2.cut (X1k Xi [x.A,x.B] nbF qh3097 [x.A,x.B] 0 (by simp) _ h3133 ?_ ?_))
        ·
         intro eo3132;subst eo3132;refine X2.glue ?_;try dsimp only at h
         obtain rfl:=oj h;refine X0e [] ?_;refine X2.back (by intro id h;cases h) rfl ?_;exact wkT [] (J)
        intro eo3132;subst eo3132;refine X2.glue ?_;try dsimp only at h
        obtain rfl:=oj h;refine X0e [] ?_;refine X2.back (by intro id h;cases h) rfl ?_;exact wkT [] (J)
       intro h;obtain rfl:=oj h;exact X7 [Gt,.ix 1,Gt,Gt,Gf,Gf,Gf,Gt,Gt] (k:=wkT [] (X2.glue J))
      intro h;obtain rfl:=oj h;exact X7 [Gf,Gf,Gf,Gf,Gf,Gf,Gf,Gf] (k:=wkT [] (X2.glue J))
     clear h;revert h3018;intro h;refine X2.inlineG X3 Xjh rfl rfl rfl rfl rfl rfl rfl rfl rfl rfl (h2904) trivial trivial ?_;revert h;refine bI λu2980 h2981=>?_;have qh2981:=X13 h2981;refine bI λo3016 h3017=>rnI [.el (aI .i64 (List.length [x.A,x.B]:Int))] ?_;intro h;refine wkT [] (X2.cut (X4e Xi X9v [x.A,x.B] nbF qh2981 [x.A,x.B] 0 (by simp) _ h3017 ?_ ?_))
     ·
      intro eo3016;subst eo3016;refine X2.glue ?_;try dsimp only at h
      obtain rfl:=oj h;refine X0e [] ?_;refine X2.back (by intro id h;cases h) rfl ?_;exact wkT [] (J)
     intro eo3016;subst eo3016;refine X2.glue ?_;try dsimp only at h
     obtain rfl:=oj h;refine X0e [] ?_;refine X2.back (by intro id h;cases h) rfl ?_;exact wkT [] (J)
    refine brI (λh3135=>?_) λh3135=>?_
    ·
     refine brI (λh3136=>?_) λh3136=>?_
     ·
      refine bI λXkt h3220=>rnI [.ix 0,Gf,Gf,Gf,Gt,.ix 1,Gt,Gt,Gt,Gt,.stop 999999] ?_;intro h;refine X2.joinOp (s':=⟨fr [(0,(Lf (X0u.map X4))),(4,(AV.ptr 0 0 0)),(5,(AV.fn 212 [(AV.ptr 0 0 0)])),(6,(aI .i64 (k:Int))),(9,(aB Xi7)),(12,(Lf (X0u.map X4))),(13,(aI .i64 (X0u.length:Int))),(14,(aI .i64 (k:Int))),(69,(aB (!(bif X9v.e0 then false else false)))),(72,(aB X9v.e1)),(75,(aB Xkt))],hp ([(0,Ob [(AV.ref 1 0 (Xi.length))] 1),(1,Ob (Xi.map aB) 1)]),2⟩) ?_ (λJ=>?_)
      ·
       obtain rfl:=oj h;exact X7 [Gt,Gt] (k:=wkT [] (X2.glue J))
      clear h;revert h3220;intro h;refine X2.inlineG X3 Xjh rfl rfl rfl rfl rfl rfl rfl rfl rfl rfl (h3136) trivial trivial ?_;revert h;refine bI λu3192 h3193=>?_;have qh3193:=X13 h3193;refine bI λo3218 h3219=>rnI [.el (aI .i64 (List.length [x.A,x.B]:Int))] ?_;intro h;refine wkT [(4,3)] (X2.cut (X1k Xi [x.A,x.B] nbF qh3193 [x.A,x.B] 0 (by simp) _ h3219 ?_ ?_))
      ·
       intro eo3218;subst eo3218;refine X2.glue ?_;try dsimp only at h
       obtain rfl:=oj h;refine X0e [] ?_;refine X2.back (by intro id h;cases h) rfl ?_;exact wkT [] (J)
      intro eo3218;subst eo3218;refine X2.glue ?_;try dsimp only at h
      obtain rfl:=oj h;refine X0e [] ?_;refine X2.back (by intro id h;cases h) rfl ?_;exact wkT [] (J)
     intro h;obtain rfl:=oj h;exact X7 [.ix 0,Gf,Gf,Gf,Gt,.ix 1,Gt,Gt,Gf,Gf,Gf,Gt,Gt] (k:=wkT [] (X2.glue J))
    intro h;obtain rfl:=oj h;exact X7 [.ix 0,Gf,Gf,Gf,Gf,Gf,Gf,Gf,Gf,Gf,Gf,Gf] (k:=wkT [] (X2.glue J))
   clear h;revert h2585;refine brI (λh2582=>?_) λh2582=>?_
   ·
    intro h;simp only[Option.some.injEq,Prod.mk.injEq] at h;obtain⟨rfl,rfl⟩:=h;exact X7 [Bt] (k:=wkT [(2,3),(3,4)] (X2.glue J))
   refine brI (λh2583=>?_) λh2583=>?_
   ·
    intro h;simp only[Option.some.injEq,Prod.mk.injEq] at h;obtain⟨rfl,rfl⟩:=h;exact X7 [Bf,Bt] (k:=wkT [(2,3),(3,4)] (X2.glue J))
   refine brI (λh2584=>?_) λh2584=>?_
   ·
    intro h;simp only[Option.some.injEq,Prod.mk.injEq] at h;obtain⟨rfl,rfl⟩:=h;exact X7 [Bf,Bf,Bt] (k:=wkT [(2,3),(3,4)] (X2.glue J))
   intro h;simp only[Option.some.injEq,Prod.mk.injEq] at h;obtain⟨rfl,rfl⟩:=h;exact X7 [Bf,Bf,Bf] (k:=wkT [(2,3),(3,4)] (X2.glue J))
  obtain rfl:=X0f rfl;refine X2.round ?_;revert h;refine brI (λh3225=>?_) λh3225=>?_
  ·
   refine bI λu3226 h3227=>rnI [Bt,.el (X4 x),Bt,.no] (o:=by repeat' first|apply Ya|exact pcM|(refine X02 h3227 rfl ?_;first|(simp<;>omega)|(simp[hc,h3225]<;>omega))|(refine Xk h3227 (by decide) ?_;first|(simp<;>omega)|(simp[hc,h3225]<;>omega))|exact Xz) ?_;intro h;exact wkT [(1,6)] (ih (k+1) hx1 _ nbF o h C0 C1)
  refine brI (λh3233=>?_) λh3233=>?_
  ·
   refine rnI [Bt,.el (X4 x),Bf,Bt,.see [(38,[4])],.ix 0,Gt,Gt,.stop 999999] ?_;intro h;refine X2.inlineG X3 Xjh rfl rfl rfl rfl rfl rfl rfl rfl rfl rfl (rfl) trivial trivial ?_;refine X0e [] ?_;refine X2.round ?_;revert h;refine bI λe3241 h3242=>?_;try have qh3242:=Xo h3242
   intro h
   first|exact absurd (h3242) (by simp[X1o];done)|(simp[X1o,hc,h3225,h3233] at h;done)|(simp[hc,h3225,h3233] at hg;done)|exact absurd (h3242) (by simp[X1o,hc,h3225,h3233];done)
  refine brI (λh3247=>?_) λh3247=>?_
  ·
   refine rnI [Bt,.el (X4 x),Bf,Bf,Bt,.see [(45,[4])],.ix 0,Gf,Gf,Gf,Gt,.ix 1,Gt,Gt,Gt,Gt,.stop 999999] ?_;intro h;refine X2.inlineG X3 Xjh rfl rfl rfl rfl rfl rfl rfl rfl rfl rfl (rfl) trivial trivial ?_;refine X0e [] ?_;refine X2.round ?_;revert h;refine bI λe3255 h3256=>?_;try have qh3256:=Xo h3256
   intro h
   first|exact absurd (h3256) (by simp[X1o];done)|(simp[X1o,hc,h3225,h3233,h3247] at h;done)|(simp[hc,h3225,h3233,h3247] at hg;done)|exact absurd (h3256) (by simp[X1o,hc,h3225,h3233,h3247];done)
  refine bI λw3260 h3264=>?_;intro h;obtain⟨X9u,Xi6⟩:=w3260;try dsimp only at h
  refine X0e [Bt,.el (X4 x),Bf,Bf,Bf] ?_;refine X2.join (s':=⟨fr [(0,(Lf (X0u.map X4))),(4,(AV.ptr 0 0 0)),(5,(AV.fn 212 [(AV.ptr 0 0 0)])),(6,(aI .i64 (k:Int))),(8,(AV.ptr 2 0 0)),(9,(aB Xi6)),(10,(AV.ref 3 0 (List.length [x.A,x.B]))),(12,(Lf (X0u.map X4))),(13,(aI .i64 (X0u.length:Int))),(14,(aI .i64 (k:Int)))],hp ([(0,Ob [AV.nils] 1),(2,Ob [(X8d X9u)] 2),(3,Ob (List.map (aI .i64) [x.A,x.B]) 1)]),4⟩) ?_ (λJ=>X2.cut ?_)
  ·
   revert h;refine bI λXwn h3780=>rnI [.stop 22] ?_;intro h;refine X2.join (s':=⟨fr [(0,(Lf (X0u.map X4))),(4,(AV.ptr 0 0 0)),(5,(AV.fn 212 [(AV.ptr 0 0 0)])),(6,(aI .i64 (k:Int))),(9,(aB Xi6)),(12,(Lf (X0u.map X4))),(13,(aI .i64 (X0u.length:Int))),(14,(aI .i64 (k:Int))),(78,(aB Xwn))],hp ([(0,Ob [AV.nils] 1)]),2⟩) ?_ (λJ=>X2.cut ?_)
   ·
    revert h;refine brI (λh3781=>λe=>X7 [Bt] (k:=wkT [] (C1 _ _  nbS (oj e).symm))) λh3781=>?_;refine bI λu3782 h3783=>rnI [Bf,.no] (o:=by repeat' first|apply Ya|exact pcM|(refine X02 h3783 rfl ?_;first|(simp<;>omega)|(simp[hc,h3225,h3233,h3247,h3781]<;>omega))|(refine Xk h3783 (by decide) ?_;first|(simp<;>omega)|(simp[hc,h3225,h3233,h3247,h3781]<;>omega))|exact Xz) ?_;intro h;exact wkT [(1,3)] (ih (k+1) hx1 _ nbF o h C0 C1)
   clear h;revert h3780;refine brI (λh3523=>?_) λh3523=>?_
   ·
    refine bI λXpv h3607=>rnI [.ix 0,Gt,Gt,.stop 999999] ?_;intro h;refine X2.joinOp (s':=⟨fr [(0,(Lf (X0u.map X4))),(4,(AV.ptr 0 0 0)),(5,(AV.fn 212 [(AV.ptr 0 0 0)])),(6,(aI .i64 (k:Int))),(8,(AV.ptr 2 0 0)),(9,(aB Xi6)),(10,(AV.ref 3 0 (List.length [x.A,x.B]))),(12,(Lf (X0u.map X4))),(13,(aI .i64 (X0u.length:Int))),(14,(aI .i64 (k:Int))),(63,(aB X9u.e0)),(66,(aB Xpv))],hp ([(0,Ob [AV.nils] 1),(2,Ob [(X8d X9u)] 2),(3,Ob (List.map (aI .i64) [x.A,x.B]) 1)]),4⟩) ?_ (λJ=>?_)
    ·
     revert h;refine brI (λh3608=>?_) λh3608=>?_
     ·
      refine brI (λh3609=>?_) λh3609=>?_
      ·
       refine bI λXwm h3693=>rnI [Gt,.ix 1,Gt,Gt,Gt,Gt,.stop 999999] ?_;intro h;refine X2.joinOp (s':=⟨fr [(0,(Lf (X0u.map X4))),(4,(AV.ptr 0 0 0)),(5,(AV.fn 212 [(AV.ptr 0 0 0)])),(6,(aI .i64 (k:Int))),(9,(aB Xi6)),(12,(Lf (X0u.map X4))),(13,(aI .i64 (X0u.length:Int))),(14,(aI .i64 (k:Int))),(69,(aB (!(bif X9u.e0 then Xpv else false)))),(72,(aB X9u.e1)),(75,(aB Xwm))],hp ([(0,Ob [AV.nils] 1)]),2⟩) ?_ (λJ=>?_)
       ·
        obtain rfl:=oj h;exact X7 [Gt,Gt] (k:=wkT [] (X2.glue J))
       clear h;revert h3693;intro h;refine X2.inlineG X3 Xjh rfl rfl rfl rfl rfl rfl rfl rfl rfl rfl (h3609) trivial trivial ?_;revert h;refine bI λu3665 h3666=>?_;have qh3666:=X13 h3666;refine bI λo3691 h3692=>rnI [.el (aI .i64 (List.length [x.A,x.B]:Int))] ?_;intro h;refine wkT [(4,3)] (X2.cut (X1k ([]:List Bool) [x.A,x.B] nbS qh3666 [x.A,x.B] 0 (by simp) _ h3692 ?_ ?_))
       ·
        intro eo3691;subst eo3691;refine X2.glue ?_;try dsimp only at h
        obtain rfl:=oj h;refine X0e [] ?_;refine X2.back (by intro id h;cases h) rfl ?_;exact wkT [] (J)
       intro eo3691;subst eo3691;refine X2.glue ?_;try dsimp only at h
       obtain rfl:=oj h;refine X0e [] ?_;refine X2.back (by intro id h;cases h) rfl ?_;exact wkT [] (J)
      intro h;obtain rfl:=oj h;exact X7 [Gt,.ix 1,Gt,Gt,Gf,Gf,Gf,Gt,Gt] (k:=wkT [] (X2.glue J))
     intro h;obtain rfl:=oj h;exact X7 [Gf,Gf,Gf,Gf,Gf,Gf,Gf,Gf] (k:=wkT [] (X2.glue J))
    clear h;revert h3607;intro h;refine X2.inlineG X3 Xjh rfl rfl rfl rfl rfl rfl rfl rfl rfl rfl (h3523) trivial trivial ?_;revert h;refine bI λu3579 h3580=>?_;have qh3580:=X13 h3580;refine bI λo3605 h3606=>rnI [.el (aI .i64 (List.length [x.A,x.B]:Int))] ?_;intro h;refine wkT [] (X2.cut (X4e ([]:List Bool) X9u [x.A,x.B] nbS qh3580 [x.A,x.B] 0 (by simp) _ h3606 ?_ ?_))
    ·
     intro eo3605;subst eo3605;refine X2.glue ?_;try dsimp only at h
     obtain rfl:=oj h;refine X0e [] ?_;refine X2.back (by intro id h;cases h) rfl ?_;exact wkT [] (J)
    intro eo3605;subst eo3605;refine X2.glue ?_;try dsimp only at h
    obtain rfl:=oj h;refine X0e [] ?_;refine X2.back (by intro id h;cases h) rfl ?_;exact wkT [] (J)
   refine brI (λh3694=>?_) λh3694=>?_
   ·
    refine brI (λh3695=>?_) λh3695=>?_
    ·
     refine bI λXwl h3779=>rnI [.ix 0,Gf,Gf,Gf,Gt,.ix 1,Gt,Gt,Gt,Gt,.stop 999999] ?_;intro h;refine X2.joinOp (s':=⟨fr [(0,(Lf (X0u.map X4))),(4,(AV.ptr 0 0 0)),(5,(AV.fn 212 [(AV.ptr 0 0 0)])),(6,(aI .i64 (k:Int))),(9,(aB Xi6)),(12,(Lf (X0u.map X4))),(13,(aI .i64 (X0u.length:Int))),(14,(aI .i64 (k:Int))),(69,(aB (!(bif X9u.e0 then false else false)))),(72,(aB X9u.e1)),(75,(aB Xwl))],hp ([(0,Ob [AV.nils] 1)]),2⟩) ?_ (λJ=>?_)
     ·
      obtain rfl:=oj h;exact X7 [Gt,Gt] (k:=wkT [] (X2.glue J))
     clear h;revert h3779;intro h;refine X2.inlineG X3 Xjh rfl rfl rfl rfl rfl rfl rfl rfl rfl rfl (h3695) trivial trivial ?_;revert h;refine bI λu3751 h3752=>?_;have qh3752:=X13 h3752;refine bI λo3777 h3778=>rnI [.el (aI .i64 (List.length [x.A,x.B]:Int))] ?_;intro h;refine wkT [(4,3)] (X2.cut (X1k ([]:List Bool) [x.A,x.B] nbS qh3752 [x.A,x.B] 0 (by simp) _ h3778 ?_ ?_))
     ·
      intro eo3777;subst eo3777;refine X2.glue ?_;try dsimp only at h
      obtain rfl:=oj h;refine X0e [] ?_;refine X2.back (by intro id h;cases h) rfl ?_;exact wkT [] (J)
     intro eo3777;subst eo3777;refine X2.glue ?_;try dsimp only at h
     obtain rfl:=oj h;refine X0e [] ?_;refine X2.back (by intro id h;cases h) rfl ?_;exact wkT [] (J)
    intro h;obtain rfl:=oj h;exact X7 [.ix 0,Gf,Gf,Gf,Gt,.ix 1,Gt,Gt,Gf,Gf,Gf,Gt,Gt] (k:=wkT [] (X2.glue J))
   intro h;obtain rfl:=oj h;exact X7 [.ix 0,Gf,Gf,Gf,Gf,Gf,Gf,Gf,Gf,Gf,Gf,Gf] (k:=wkT [] (X2.glue J))
  clear h;revert h3264;refine brI (λh3261=>?_) λh3261=>?_
  ·
   intro h;simp only[Option.some.injEq,Prod.mk.injEq] at h;obtain⟨rfl,rfl⟩:=h;exact X7 [Bt] (k:=wkT [(2,3),(3,4)] (X2.glue J))
  refine brI (λh3262=>?_) λh3262=>?_
  ·
   intro h;simp only[Option.some.injEq,Prod.mk.injEq] at h;obtain⟨rfl,rfl⟩:=h;exact X7 [Bf,Bt] (k:=wkT [(2,3),(3,4)] (X2.glue J))
  refine brI (λh3263=>?_) λh3263=>?_
  ·
   intro h;simp only[Option.some.injEq,Prod.mk.injEq] at h;obtain⟨rfl,rfl⟩:=h;exact X7 [Bf,Bf,Bt] (k:=wkT [(2,3),(3,4)] (X2.glue J))
  intro h;simp only[Option.some.injEq,Prod.mk.injEq] at h;obtain⟨rfl,rfl⟩:=h;exact X7 [Bf,Bf,Bf] (k:=wkT [(2,3),(3,4)] (X2.glue J))
instance Xwi:PCs Tryz.prog 199 (∀ (a0:(List X05)) (r:(List Bool)×Int),Xcr a0=some r->X0i Tryz.prog 199 [(Lf (a0.map X4))] (AV.tup [(Lt (r.1.map aB)),(aI .i64 r.2)])):=⟨λa0 r h=>by
 refine X0i.sym X3 X03h (nt:=88) rfl rfl ?_ okM;unfold Xcr at h;revert h;refine bI λu1 h2=>?_;have qh2:=X13 h2;refine bI λo3784 h3785=>rnI [.el (aI .i64 (a0.length:Int))] ?_;intro h;refine wkT [] (X2.cut (Xgq a0 qh2 a0 0 (by simp) _ nbS _ h3785 ?_ ?_))
 ·
  intro X09 X0p eo3784;subst eo3784;refine X2.glue ?_;try dsimp only at h
  rcases X0p with ⟨_|_,X3t⟩<;>(try obtain rfl:=X3t rfl);all_goals
   revert h;exact λe=>oj e▸X7 [.el (aI .i64 (a0.length:Int))] (k:=fi)
 intro X1a Xjl X17 eo3784;subst eo3784;refine X2.glue ?_;try dsimp only at h
 rcases X17 with ⟨_|_,X5b⟩<;>(try obtain rfl:=X5b rfl);all_goals
  revert h;exact λe=>oj e▸X7 [] (k:=fi)⟩
instance Xz3:PCs Tryz.prog 181 (∀ (a0:(List X05)) (r:Bool×Int×Int),Xe7 a0=some r->X0i Tryz.prog 181 [(Lf (a0.map X4))] (AV.tup [(aB r.1),(aI .i64 r.2.1),(aI .i64 r.2.2)])):=⟨λa0 r h=>by
 refine X0i.sym X3 X03m (nt:=30) rfl rfl ?_ okM;unfold Xe7 at h;revert h;refine bI λv1 h2=>brI (λh3=>λe=>oj e▸X7 [.pure _ (aI .i64 v1),Bt] (k:=fi)) λh3=>bI λv4 h5=>brI (λh6=>λe=>oj e▸X7 [.pure _ (aI .i64 v1),Bf,.pure _ (AV.tup [(Lt (v4.1.map aB)),(aI .i64 v4.2)]),.el (aI .i64 (a0.length:Int)),Bt] (k:=fi)) λh6=>bI λe7 h8=>?_;try have qh8:=Xo h8
 exact λe=>oj e▸X7 [.pure _ (aI .i64 v1),Bf,.pure _ (AV.tup [(Lt (v4.1.map aB)),(aI .i64 v4.2)]),.el (aI .i64 (a0.length:Int)),Bf,.wrap,.el (aB e7),.wrap] (k:=fi)⟩
instance Xwh:PCs Tryz.prog 159 (∀ (a0:(List X05)) (a1:Bool) (r:Int×Int),X8q a0 a1=some r->X0i Tryz.prog 159 [(Lf (a0.map X4)),(aB a1)] (AV.tup [(aI .i64 r.1),(aI .i64 r.2)])):=⟨λa0 a1 r h=>by
 refine X0i.sym X3 X03y (nt:=24) rfl rfl ?_ okM;unfold X8q at h;revert h;refine bI λv1 h2=>bI λj4_8 h6=>rnI [.pure _ (AV.tup [(aB v1.1),(aI .i64 v1.2.1),(aI .i64 v1.2.2)])] ?_;intro h;refine X2.join (s':=⟨fr [(7,(aI .i64 v1.2.1)),(8,(aI .i64 j4_8))],hp ([]),0⟩) ?_ (λJ=>X2.cut ?_)
 ·
  revert h;exact λe=>oj e▸X7 [] (k:=fi)
 clear h;revert h6;refine brI (λh5=>?_) λh5=>?_
 ·
  intro h;obtain rfl:=oj h;exact X7 [Bt] (k:=wkT [] (X2.glue J))
 intro h;obtain rfl:=oj h;exact X7 [Bf] (k:=wkT [] (X2.glue J))⟩
instance Xve:PCs Tryz.prog 134 (∀ (a0:(List X05)) (r:Int×Int),X9g a0=some r->X0i Tryz.prog 134 [(Lf (a0.map X4))] (AV.tup [(aI .i64 r.1),(aI .i64 r.2)])):=⟨λa0 r h=>by
 refine X0i.sym X3 X04b (nt:=8) rfl rfl ?_ okM;unfold X9g at h;revert h;exact bI λv1 h2=>λe=>oj e▸X7 [.pure _ (AV.tup [(aI .i64 v1.1),(aI .i64 v1.2)])] (k:=fi)⟩
instance Xtc:PCs Tryz.prog 133 (∀ (a0:(List X05)) (r:Int×Int),X9t a0=some r->X0i Tryz.prog 133 [(Lf (a0.map X4))] (AV.tup [(aI .i64 r.1),(aI .i64 r.2)])):=⟨λa0 r h=>by
 refine X0i.sym X3 X04c (nt:=8) rfl rfl ?_ okM;unfold X9t at h;revert h;exact bI λv1 h2=>λe=>oj e▸X7 [.pure _ (AV.tup [(aI .i64 v1.1),(aI .i64 v1.2)])] (k:=fi)⟩
end Go.Av.Tryz