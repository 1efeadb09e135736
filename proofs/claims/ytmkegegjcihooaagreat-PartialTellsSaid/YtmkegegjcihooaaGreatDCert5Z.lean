/- Printed by decomp.py: that the program computes the functions. -/
import Derived.Test.YtmkegegjcihooaaGreatDCert4Z
set_option linter.all false

namespace Go.Av.Tryz
open Go.Proofs Go.D
set_option maxRecDepth 100000
set_option maxHeartbeats 40000000
theorem Xkp {Q:Xp->St->Mu->Prop} {μ:Mu} (X08:(List X02)) (hl:X08.length<=140737488355328):∀ (xs:List X02) (k:Nat) (hx:X08.drop k=xs) (Xj:(List Bool)) (X01:Nb Xj) (o:X6b) (h:X1j X08 xs k Xj=some o)
  (C0:∀ (X0y:(List Bool)) (X2k:Nb X0y),o=X6b.x0 X0y->X0 Tryz.prog 88 0 Q (.exit (.exit 0)) [] ⟨fr [(0,(Lf (X08.map X2))),(4,(AV.ptr 0 0 0))],hp ([(0,Ob [(slE X2k.1 1 (X0y.map aB))] 1)]++opE X2k.1 1 1 (X0y.map aB)),2⟩ μ)
  (C1:∀ (X2o:(List Bool)) (Xnu:Int) (X2u:Nb X2o),o=X6b.x1 X2o Xnu->X0 Tryz.prog 88 0 Q (.exit .ret) [] ⟨fr [(2,(slE X2u.1 0 (X2o.map aB))),(3,(aI .i64 Xnu))],hp ([]++opE X2u.1 0 1 (X2o.map aB)),1⟩ μ),
  X0 Tryz.prog 88 0 Q (.loop (X0w 0 (Xd Tryz.f256))) [] ⟨fr [(0,(Lf (X08.map X2))),(4,(AV.ptr 0 0 0)),(5,(AV.fn 280 [(AV.ptr 0 0 0)])),(12,(Lf (X08.map X2))),(13,(aI .i64 (X08.length:Int))),(14,(aI .i64 (k:Int)))],hp ([(0,Ob [(slE X01.1 1 (Xj.map aB))] 1)]++opE X01.1 1 1 (Xj.map aB)),2⟩ μ:=by
 intro xs
 induction xs with
 |nil =>
  intro k hx Xj X01 o h C0 C1;have hk:=X06 hx;have hc:decide ((k:Int)<(X08.length:Int))=false:=Yf om;rw[X1j] at h;rcases X01 with ⟨_|_,X0x⟩
  ·
   refine X0.round ?_;revert h;exact λe=>X3 [Bf] (k:=wkT [] (C0 _  nbF (oj e).symm))
  ·
   obtain rfl:=X0x rfl;refine X0.round ?_;revert h;exact λe=>X3 [Bf] (k:=wkT [] (C0 _  nbS (oj e).symm))
 |cons x xs ih =>
  intro k hx Xj X01 o h C0 C1;obtain⟨hk,hg,hx1⟩:=Xy hx;have hc:decide ((k:Int)<(X08.length:Int))=true:=Yt om;rw[X1j] at h;rcases X01 with ⟨_|_,X0x⟩
  ·
   refine X0.round ?_;revert h;refine brI (λh2524=>?_) λh2524=>?_
   ·
    refine bI λu2525 h2526=>rnI [Bt,.el (X2 x),Bt,.no] (o:=by repeat' first|apply Ya|exact pcM|(refine X1n h2526 rfl ?_;first|(simp<;>omega)|(simp[hc,h2524]<;>omega))|(refine X0h h2526 (by decide) ?_;first|(simp<;>omega)|(simp[hc,h2524]<;>omega))|exact X04) ?_;intro h;exact wkT [(1,6)] (ih (k+1) hx1 _ nbF o h C0 C1)
   refine brI (λh2533=>?_) λh2533=>?_
   ·
    refine bI λXpm h2549=>rnI [Bt,.el (X2 x),Bf,Bt,.see [(38,[4])],.stop 22] ?_;intro h;refine X0.join (s':=⟨fr [(0,(Lf (X08.map X2))),(4,(AV.ptr 0 0 0)),(5,(AV.fn 280 [(AV.ptr 0 0 0)])),(6,(aI .i64 (k:Int))),(9,(aB false)),(12,(Lf (X08.map X2))),(13,(aI .i64 (X08.length:Int))),(14,(aI .i64 (k:Int))),(78,(aB Xpm))],hp ([(0,Ob [(AV.ref 1 0 (Xj.length))] 1),(1,Ob (Xj.map aB) 1)]),2⟩) ?_ (λJ=>X0.cut ?_)
    ·
     revert h;refine brI (λh2550=>λe=>X3 [Bt] (k:=wkT [] (C1 _ _  nbS (oj e).symm))) λh2550=>?_;refine bI λu2551 h2552=>rnI [Bf,.no] (o:=by repeat' first|apply Ya|exact pcM|(refine X1n h2552 rfl ?_;first|(simp<;>omega)|(simp[hc,h2524,h2533,h2550]<;>omega))|(refine X0h h2552 (by decide) ?_;first|(simp<;>omega)|(simp[hc,h2524,h2533,h2550]<;>omega))|exact X04) ?_;intro h;exact wkT [(1,3)] (ih (k+1) hx1 _ nbF o h C0 C1)
    clear h;revert h2549;refine rnI [.ix 0,Gt,Gt,.stop 999999] ?_;intro h;refine X0.inlineG X9 Xnm rfl rfl rfl rfl rfl rfl rfl rfl rfl rfl (rfl) trivial trivial ?_;refine X1f [] ?_;refine X0.round ?_;revert h;refine bI λe2546 h2547=>?_;try have qh2547:=Xi h2547
    refine brI (λh2548=>?_) λh2548=>?_
    ·
     refine rnI [Bt,.el ((aI .i64 x.A)),.el (aB e2546),.ld (aB e2546),Bt] ?_;intro h;refine X0.back (by intro id h;cases h) rfl ?_;obtain rfl:=oj h;exact X3 [Gt,.ix 1,Gt,Gt,Gf,Gf,Gf,Gt,Gt] (k:=wkT [] (X0.glue J))
    refine rnI [Bt,.el ((aI .i64 x.A)),.el (aB e2546),.ld (aB e2546),Bf] ?_;intro h;refine X0.round ?_;refine X1f [Bf] ?_;refine X0.back (by intro id h;cases h) rfl ?_;obtain rfl:=oj h;exact X3 [Gf,Gf,Gf,Gf,Gf,Gf,Gf,Gf] (k:=wkT [] (X0.glue J))
   refine brI (λh2558=>?_) λh2558=>?_
   ·
    refine bI λXpl h2574=>rnI [Bt,.el (X2 x),Bf,Bf,Bt,.see [(45,[4])],.ix 0,Gf,Gf,Gf,Gt,.ix 1,Gt,Gt,Gt,Gt,.stop 999999] ?_;intro h;refine X0.joinOp (s':=⟨fr [(0,(Lf (X08.map X2))),(4,(AV.ptr 0 0 0)),(5,(AV.fn 280 [(AV.ptr 0 0 0)])),(6,(aI .i64 (k:Int))),(9,(aB true)),(12,(Lf (X08.map X2))),(13,(aI .i64 (X08.length:Int))),(14,(aI .i64 (k:Int))),(69,(aB (!(bif false then false else false)))),(72,(aB true)),(75,(aB Xpl))],hp ([(0,Ob [(AV.ref 1 0 (Xj.length))] 1),(1,Ob (Xj.map aB) 1)]),2⟩) ?_ (λJ=>?_)
    ·
     revert h;refine brI (λh2575=>λe=>X3 [Gt,Gt,Bt] (k:=wkT [] (C1 _ _  nbS (oj e).symm))) λh2575=>?_;refine bI λu2576 h2577=>rnI [Gt,Gt,Bf,.no] (o:=by repeat' first|apply Ya|exact pcM|(refine X1n h2577 rfl ?_;first|(simp<;>omega)|(simp[hc,h2524,h2533,h2558,h2575]<;>omega))|(refine X0h h2577 (by decide) ?_;first|(simp<;>omega)|(simp[hc,h2524,h2533,h2558,h2575]<;>omega))|exact X04) ?_;intro h;exact wkT [(1,3)] (ih (k+1) hx1 _ nbF o h C0 C1)
    clear h;revert h2574;intro h;refine X0.inlineG X9 Xnm rfl rfl rfl rfl rfl rfl rfl rfl rfl rfl (rfl) trivial trivial ?_;refine X1f [] ?_;refine X0.round ?_;revert h;refine bI λe2571 h2572=>?_;try have qh2572:=Xi h2572
    refine brI (λh2573=>?_) λh2573=>?_
    ·
     intro h;obtain rfl:=oj h;refine X1f [Bt,.el ((aI .i64 x.A)),.el (aB e2571),.ld (aB e2571),Bt] ?_;refine X0.back (by intro id h;cases h) rfl ?_;exact wkT [] (J)
    refine rnI [Bt,.el ((aI .i64 x.A)),.el (aB e2571),.ld (aB e2571),Bf] ?_;intro h;refine X0.round ?_;obtain rfl:=oj h;refine X1f [Bf] ?_;refine X0.back (by intro id h;cases h) rfl ?_;exact wkT [] (J)
   refine bI λw2581 h2585=>?_;intro h;obtain⟨Xcu,Xmc⟩:=w2581;try dsimp only at h
   refine X1f [Bt,.el (X2 x),Bf,Bf,Bf] ?_;refine X0.join (s':=⟨fr [(0,(Lf (X08.map X2))),(4,(AV.ptr 0 0 0)),(5,(AV.fn 280 [(AV.ptr 0 0 0)])),(6,(aI .i64 (k:Int))),(8,(AV.ptr 2 0 0)),(9,(aB Xmc)),(10,(AV.ref 3 0 (List.length [x.A,x.B]))),(12,(Lf (X08.map X2))),(13,(aI .i64 (X08.length:Int))),(14,(aI .i64 (k:Int)))],hp ([(0,Ob [(AV.ref 1 0 (Xj.length))] 1),(1,Ob (Xj.map aB) 1),(2,Ob [(Xb3 Xcu)] 2),(3,Ob (List.map (aI .i64) [x.A,x.B]) 1)]),4⟩) ?_ (λJ=>X0.cut ?_)
   ·
    revert h;refine bI λXpk h3221=>rnI [.stop 22] ?_;intro h;refine X0.join (s':=⟨fr [(0,(Lf (X08.map X2))),(4,(AV.ptr 0 0 0)),(5,(AV.fn 280 [(AV.ptr 0 0 0)])),(6,(aI .i64 (k:Int))),(9,(aB Xmc)),(12,(Lf (X08.map X2))),(13,(aI .i64 (X08.length:Int))),(14,(aI .i64 (k:Int))),(78,(aB Xpk))],hp ([(0,Ob [(AV.ref 1 0 (Xj.length))] 1),(1,Ob (Xj.map aB) 1)]),2⟩) ?_ (λJ=>X0.cut ?_)
    ·
     revert h;refine brI (λh3222=>λe=>X3 [Bt] (k:=wkT [] (C1 _ _  nbS (oj e).symm))) λh3222=>?_;refine bI λu3223 h3224=>rnI [Bf,.no] (o:=by repeat' first|apply Ya|exact pcM|(refine X1n h3224 rfl ?_;first|(simp<;>omega)|(simp[hc,h2524,h2533,h2558,h3222]<;>omega))|(refine X0h h3224 (by decide) ?_;first|(simp<;>omega)|(simp[hc,h2524,h2533,h2558,h3222]<;>omega))|exact X04) ?_;intro h;exact wkT [(1,3)] (ih (k+1) hx1 _ nbF o h C0 C1)
    clear h;revert h3221;refine brI (λh2904=>?_) λh2904=>?_
    ·
     refine bI λXeh h3018=>rnI [.ix 0,Gt,Gt,.stop 999999] ?_;intro h;refine X0.joinOp (s':=⟨fr [(0,(Lf (X08.map X2))),(4,(AV.ptr 0 0 0)),(5,(AV.fn 280 [(AV.ptr 0 0 0)])),(6,(aI .i64 (k:Int))),(8,(AV.ptr 2 0 0)),(9,(aB Xmc)),(10,(AV.ref 3 0 (List.length [x.A,x.B]))),(12,(Lf (X08.map X2))),(13,(aI .i64 (X08.length:Int))),(14,(aI .i64 (k:Int))),(63,(aB Xcu.e0)),(66,(aB Xeh))],hp ([(0,Ob [(AV.ref 1 0 (Xj.length))] 1),(1,Ob (Xj.map aB) 1),(2,Ob [(Xb3 Xcu)] 2),(3,Ob (List.map (aI .i64) [x.A,x.B]) 1)]),4⟩) ?_ (λJ=>?_)
     ·
      revert h;refine brI (λh3019=>?_) λh3019=>?_
      ·
       refine brI (λh3020=>?_) λh3020=>?_
       ·
        refine bI λXpj h3134=>rnI [Gt,.ix 1,Gt,Gt,Gt,Gt,.stop 999999] ?_;intro h;refine X0.joinOp (s':=⟨fr [(0,(Lf (X08.map X2))),(4,(AV.ptr 0 0 0)),(5,(AV.fn 280 [(AV.ptr 0 0 0)])),(6,(aI .i64 (k:Int))),(9,(aB Xmc)),(12,(Lf (X08.map X2))),(13,(aI .i64 (X08.length:Int))),(14,(aI .i64 (k:Int))),(69,(aB (!(bif Xcu.e0 then Xeh else false)))),(72,(aB Xcu.e1)),(75,(aB Xpj))],hp ([(0,Ob [(AV.ref 1 0 (Xj.length))] 1),(1,Ob (Xj.map aB) 1)]),2⟩) ?_ (λJ=>?_)
        ·
         obtain rfl:=oj h;exact X3 [Gt,Gt] (k:=wkT [] (X0.glue J))
        clear h;revert h3134;intro h;refine X0.inlineG X9 Xnm rfl rfl rfl rfl rfl rfl rfl rfl rfl rfl (h3020) trivial trivial ?_;revert h;refine bI λu3096 h3097=>?_;have qh3097:=X0l h3097;refine bI λo3132 h3133=>rnI [.el (aI .i64 (List.length [x.A,x.B]:Int))] ?_;intro h;refine wkT [(4,3)] (X0.cut (X1i Xj [x.A,x.B] nbF qh3097 [x.A,x.B] 0 (by simp) _ h3133 ?_ ?_))
        ·
         intro eo3132;subst eo3132;refine X0.glue ?_;try dsimp only at h
         obtain rfl:=oj h;refine X1f [] ?_;refine X0.back (by intro id h;cases h) rfl ?_;exact wkT [] (J)
        intro eo3132;subst eo3132;refine X0.glue ?_;try dsimp only at h
        obtain rfl:=oj h;refine X1f [] ?_;refine X0.back (by intro id h;cases h) rfl ?_;exact wkT [] (J)
       intro h;obtain rfl:=oj h;exact X3 [Gt,.ix 1,Gt,Gt,Gf,Gf,Gf,Gt,Gt] (k:=wkT [] (X0.glue J))
      intro h;obtain rfl:=oj h;exact X3 [Gf,Gf,Gf,Gf,Gf,Gf,Gf,Gf] (k:=wkT [] (X0.glue J))
     clear h;revert h3018;intro h;refine X0.inlineG X9 Xnm rfl rfl rfl rfl rfl rfl rfl rfl rfl rfl (h2904) trivial trivial ?_;revert h;refine bI λu2980 h2981=>?_;have qh2981:=X0l h2981;refine bI λo3016 h3017=>rnI [.el (aI .i64 (List.length [x.A,x.B]:Int))] ?_;intro h;refine wkT [] (X0.cut (X5k Xj Xcu [x.A,x.B] nbF qh2981 [x.A,x.B] 0 (by simp) _ h3017 ?_ ?_))
     ·
      intro eo3016;subst eo3016;refine X0.glue ?_;try dsimp only at h
      obtain rfl:=oj h;refine X1f [] ?_;refine X0.back (by intro id h;cases h) rfl ?_;exact wkT [] (J)
     intro eo3016;subst eo3016;refine X0.glue ?_;try dsimp only at h
     obtain rfl:=oj h;refine X1f [] ?_;refine X0.back (by intro id h;cases h) rfl ?_;exact wkT [] (J)
    refine brI (λh3135=>?_) λh3135=>?_
    ·
     refine brI (λh3136=>?_) λh3136=>?_
     ·
      refine bI λXpi h3220=>rnI [.ix 0,Gf,Gf,Gf,Gt,.ix 1,Gt,Gt,Gt,Gt,.stop 999999] ?_;intro h;refine X0.joinOp (s':=⟨fr [(0,(Lf (X08.map X2))),(4,(AV.ptr 0 0 0)),(5,(AV.fn 280 [(AV.ptr 0 0 0)])),(6,(aI .i64 (k:Int))),(9,(aB Xmc)),(12,(Lf (X08.map X2))),(13,(aI .i64 (X08.length:Int))),(14,(aI .i64 (k:Int))),(69,(aB (!(bif Xcu.e0 then false else false)))),(72,(aB Xcu.e1)),(75,(aB Xpi))],hp ([(0,Ob [(AV.ref 1 0 (Xj.length))] 1),(1,Ob (Xj.map aB) 1)]),2⟩) ?_ (λJ=>?_)
      ·
       obtain rfl:=oj h;exact X3 [Gt,Gt] (k:=wkT [] (X0.glue J))
      clear h;revert h3220;intro h;refine X0.inlineG X9 Xnm rfl rfl rfl rfl rfl rfl rfl rfl rfl rfl (h3136) trivial trivial ?_;revert h;refine bI λu3192 h3193=>?_;have qh3193:=X0l h3193;refine bI λo3218 h3219=>rnI [.el (aI .i64 (List.length [x.A,x.B]:Int))] ?_;intro h;refine wkT [(4,3)] (X0.cut (X1i Xj [x.A,x.B] nbF qh3193 [x.A,x.B] 0 (by simp) _ h3219 ?_ ?_))
      ·
       intro eo3218;subst eo3218;refine X0.glue ?_;try dsimp only at h
       obtain rfl:=oj h;refine X1f [] ?_;refine X0.back (by intro id h;cases h) rfl ?_;exact wkT [] (J)
      intro eo3218;subst eo3218;refine X0.glue ?_;try dsimp only at h
      obtain rfl:=oj h;refine X1f [] ?_;refine X0.back (by intro id h;cases h) rfl ?_;exact wkT [] (J)
     intro h;obtain rfl:=oj h;exact X3 [.ix 0,Gf,Gf,Gf,Gt,.ix 1,Gt,Gt,Gf,Gf,Gf,Gt,Gt] (k:=wkT [] (X0.glue J))
    intro h;obtain rfl:=oj h;exact X3 [.ix 0,Gf,Gf,Gf,Gf,Gf,Gf,Gf,Gf,Gf,Gf,Gf] (k:=wkT [] (X0.glue J))
   clear h;revert h2585;refine brI (λh2582=>?_) λh2582=>?_
   ·
    intro h;simp only[Option.some.injEq,Prod.mk.injEq] at h;obtain⟨rfl,rfl⟩:=h;exact X3 [Bt] (k:=wkT [(2,3),(3,4)] (X0.glue J))
   refine brI (λh2583=>?_) λh2583=>?_
   ·
    intro h;simp only[Option.some.injEq,Prod.mk.injEq] at h;obtain⟨rfl,rfl⟩:=h;exact X3 [Bf,Bt] (k:=wkT [(2,3),(3,4)] (X0.glue J))
   refine brI (λh2584=>?_) λh2584=>?_
   ·
    intro h;simp only[Option.some.injEq,Prod.mk.injEq] at h;obtain⟨rfl,rfl⟩:=h;exact X3 [Bf,Bf,Bt] (k:=wkT [(2,3),(3,4)] (X0.glue J))
   intro h;simp only[Option.some.injEq,Prod.mk.injEq] at h;obtain⟨rfl,rfl⟩:=h;exact X3 [Bf,Bf,Bf] (k:=wkT [(2,3),(3,4)] (X0.glue J))
  obtain rfl:=X0x rfl;refine X0.round ?_;revert h;refine brI (λh3225=>?_) λh3225=>?_
  ·
   refine bI λu3226 h3227=>rnI [Bt,.el (X2 x),Bt,.no] (o:=by repeat' first|apply Ya|exact pcM|(refine X1n h3227 rfl ?_;first|(simp<;>omega)|(simp[hc,h3225]<;>omega))|(refine X0h h3227 (by decide) ?_;first|(simp<;>omega)|(simp[hc,h3225]<;>omega))|exact X04) ?_;intro h;exact wkT [(1,6)] (ih (k+1) hx1 _ nbF o h C0 C1)
  refine brI (λh3233=>?_) λh3233=>?_
  ·
   refine rnI [Bt,.el (X2 x),Bf,Bt,.see [(38,[4])],.ix 0,Gt,Gt,.stop 999999] ?_;intro h;refine X0.inlineG X9 Xnm rfl rfl rfl rfl rfl rfl rfl rfl rfl rfl (rfl) trivial trivial ?_;refine X1f [] ?_;refine X0.round ?_;revert h;refine bI λe3241 h3242=>?_;try have qh3242:=Xi h3242
   intro h
   first|exact absurd (h3242) (by simp[X14];done)|(simp[X14,hc,h3225,h3233] at h;done)|(simp[hc,h3225,h3233] at hg;done)|exact absurd (h3242) (by simp[X14,hc,h3225,h3233];done)
  refine brI (λh3247=>?_) λh3247=>?_
  ·
   refine rnI [Bt,.el (X2 x),Bf,Bf,Bt,.see [(45,[4])],.ix 0,Gf,Gf,Gf,Gt,.ix 1,Gt,Gt,Gt,Gt,.stop 999999] ?_;intro h;refine X0.inlineG X9 Xnm rfl rfl rfl rfl rfl rfl rfl rfl rfl rfl (rfl) trivial trivial ?_;refine X1f [] ?_;refine X0.round ?_;revert h;refine bI λe3255 h3256=>?_;try have qh3256:=Xi h3256
   intro h
   first|exact absurd (h3256) (by simp[X14];done)|(simp[X14,hc,h3225,h3233,h3247] at h;done)|(simp[hc,h3225,h3233,h3247] at hg;done)|exact absurd (h3256) (by simp[X14,hc,h3225,h3233,h3247];done)
  refine bI λw3260 h3264=>?_;intro h;obtain⟨Xct,Xma⟩:=w3260;try dsimp only at h
  refine X1f [Bt,.el (X2 x),Bf,Bf,Bf] ?_;refine X0.join (s':=⟨fr [(0,(Lf (X08.map X2))),(4,(AV.ptr 0 0 0)),(5,(AV.fn 280 [(AV.ptr 0 0 0)])),(6,(aI .i64 (k:Int))),(8,(AV.ptr 2 0 0)),(9,(aB Xma)),(10,(AV.ref 3 0 (List.length [x.A,x.B]))),(12,(Lf (X08.map X2))),(13,(aI .i64 (X08.length:Int))),(14,(aI .i64 (k:Int)))],hp ([(0,Ob [AV.nils] 1),(2,Ob [(Xb3 Xct)] 2),(3,Ob (List.map (aI .i64) [x.A,x.B]) 1)]),4⟩) ?_ (λJ=>X0.cut ?_)
  ·
   revert h;refine bI λX03s h3780=>rnI [.stop 22] ?_;intro h;refine X0.join (s':=⟨fr [(0,(Lf (X08.map X2))),(4,(AV.ptr 0 0 0)),(5,(AV.fn 280 [(AV.ptr 0 0 0)])),(6,(aI .i64 (k:Int))),(9,(aB Xma)),(12,(Lf (X08.map X2))),(13,(aI .i64 (X08.length:Int))),(14,(aI .i64 (k:Int))),(78,(aB X03s))],hp ([(0,Ob [AV.nils] 1)]),2⟩) ?_ (λJ=>X0.cut ?_)
   ·
    revert h;refine brI (λh3781=>λe=>X3 [Bt] (k:=wkT [] (C1 _ _  nbS (oj e).symm))) λh3781=>?_;refine bI λu3782 h3783=>rnI [Bf,.no] (o:=by repeat' first|apply Ya|exact pcM|(refine X1n h3783 rfl ?_;first|(simp<;>omega)|(simp[hc,h3225,h3233,h3247,h3781]<;>omega))|(refine X0h h3783 (by decide) ?_;first|(simp<;>omega)|(simp[hc,h3225,h3233,h3247,h3781]<;>omega))|exact X04) ?_;intro h;exact wkT [(1,3)] (ih (k+1) hx1 _ nbF o h C0 C1)
   clear h;revert h3780;refine brI (λh3523=>?_) λh3523=>?_
   ·
    refine bI λXu6 h3607=>rnI [.ix 0,Gt,Gt,.stop 999999] ?_;intro h;refine X0.joinOp (s':=⟨fr [(0,(Lf (X08.map X2))),(4,(AV.ptr 0 0 0)),(5,(AV.fn 280 [(AV.ptr 0 0 0)])),(6,(aI .i64 (k:Int))),(8,(AV.ptr 2 0 0)),(9,(aB Xma)),(10,(AV.ref 3 0 (List.length [x.A,x.B]))),(12,(Lf (X08.map X2))),(13,(aI .i64 (X08.length:Int))),(14,(aI .i64 (k:Int))),(63,(aB Xct.e0)),(66,(aB Xu6))],hp ([(0,Ob [AV.nils] 1),(2,Ob [(Xb3 Xct)] 2),(3,Ob (List.map (aI .i64) [x.A,x.B]) 1)]),4⟩) ?_ (λJ=>?_)
    ·
     revert h;refine brI (λh3608=>?_) λh3608=>?_
     ·
      refine brI (λh3609=>?_) λh3609=>?_
      ·
       refine bI λX03r h3693=>rnI [Gt,.ix 1,Gt,Gt,Gt,Gt,.stop 999999] ?_;intro h;refine X0.joinOp (s':=⟨fr [(0,(Lf (X08.map X2))),(4,(AV.ptr 0 0 0)),(5,(AV.fn 280 [(AV.ptr 0 0 0)])),(6,(aI .i64 (k:Int))),(9,(aB Xma)),(12,(Lf (X08.map X2))),(13,(aI .i64 (X08.length:Int))),(14,(aI .i64 (k:Int))),(69,(aB (!(bif Xct.e0 then Xu6 else false)))),(72,(aB Xct.e1)),(75,(aB X03r))],hp ([(0,Ob [AV.nils] 1)]),2⟩) ?_ (λJ=>?_)
       ·
        obtain rfl:=oj h;exact X3 [Gt,Gt] (k:=wkT [] (X0.glue J))
       clear h;revert h3693;intro h;refine X0.inlineG X9 Xnm rfl rfl rfl rfl rfl rfl rfl rfl rfl rfl (h3609) trivial trivial ?_;revert h;refine bI λu3665 h3666=>?_;have qh3666:=X0l h3666;refine bI λo3691 h3692=>rnI [.el (aI .i64 (List.length [x.A,x.B]:Int))] ?_;intro h;refine wkT [(4,3)] (X0.cut (X1i ([]:List Bool) [x.A,x.B] nbS qh3666 [x.A,x.B] 0 (by simp) _ h3692 ?_ ?_))
       ·
        intro eo3691;subst eo3691;refine X0.glue ?_;try dsimp only at h
        obtain rfl:=oj h;refine X1f [] ?_;refine X0.back (by intro id h;cases h) rfl ?_;exact wkT [] (J)
       intro eo3691;subst eo3691;refine X0.glue ?_;try dsimp only at h
       obtain rfl:=oj h;refine X1f [] ?_;refine X0.back (by intro id h;cases h) rfl ?_;exact wkT [] (J)
      intro h;obtain rfl:=oj h;exact X3 [Gt,.ix 1,Gt,Gt,Gf,Gf,Gf,Gt,Gt] (k:=wkT [] (X0.glue J))
     intro h;obtain rfl:=oj h;exact X3 [Gf,Gf,Gf,Gf,Gf,Gf,Gf,Gf] (k:=wkT [] (X0.glue J))
    clear h;revert h3607;intro h;refine X0.inlineG X9 Xnm rfl rfl rfl rfl rfl rfl rfl rfl rfl rfl (h3523) trivial trivial ?_;revert h;refine bI λu3579 h3580=>?_;have qh3580:=X0l h3580;refine bI λo3605 h3606=>rnI [.el (aI .i64 (List.length [x.A,x.B]:Int))] ?_;intro h;refine wkT [] (X0.cut (X5k ([]:List Bool) Xct [x.A,x.B] nbS qh3580 [x.A,x.B] 0 (by simp) _ h3606 ?_ ?_))
    ·
     intro eo3605;subst eo3605;refine X0.glue ?_;try dsimp only at h
     obtain rfl:=oj h;refine X1f [] ?_;refine X0.back (by intro id h;cases h) rfl ?_;exact wkT [] (J)
    intro eo3605;subst eo3605;refine X0.glue ?_;try dsimp only at h
    obtain rfl:=oj h;refine X1f [] ?_;refine X0.back (by intro id h;cases h) rfl ?_;exact wkT [] (J)
   refine brI (λh3694=>?_) λh3694=>?_
   ·
    refine brI (λh3695=>?_) λh3695=>?_
    ·
     refine bI λX03q h3779=>rnI [.ix 0,Gf,Gf,Gf,Gt,.ix 1,Gt,Gt,Gt,Gt,.stop 999999] ?_;intro h;refine X0.joinOp (s':=⟨fr [(0,(Lf (X08.map X2))),(4,(AV.ptr 0 0 0)),(5,(AV.fn 280 [(AV.ptr 0 0 0)])),(6,(aI .i64 (k:Int))),(9,(aB Xma)),(12,(Lf (X08.map X2))),(13,(aI .i64 (X08.length:Int))),(14,(aI .i64 (k:Int))),(69,(aB (!(bif Xct.e0 then false else false)))),(72,(aB Xct.e1)),(75,(aB X03q))],hp ([(0,Ob [AV.nils] 1)]),2⟩) ?_ (λJ=>?_)
     ·
      obtain rfl:=oj h;exact X3 [Gt,Gt] (k:=wkT [] (X0.glue J))
     clear h;revert h3779;intro h;refine X0.inlineG X9 Xnm rfl rfl rfl rfl rfl rfl rfl rfl rfl rfl (h3695) trivial trivial ?_;revert h;refine bI λu3751 h3752=>?_;have qh3752:=X0l h3752;refine bI λo3777 h3778=>rnI [.el (aI .i64 (List.length [x.A,x.B]:Int))] ?_;intro h;refine wkT [(4,3)] (X0.cut (X1i ([]:List Bool) [x.A,x.B] nbS qh3752 [x.A,x.B] 0 (by simp) _ h3778 ?_ ?_))
     ·
      intro eo3777;subst eo3777;refine X0.glue ?_;try dsimp only at h
      obtain rfl:=oj h;refine X1f [] ?_;refine X0.back (by intro id h;cases h) rfl ?_;exact wkT [] (J)
     intro eo3777;subst eo3777;refine X0.glue ?_;try dsimp only at h
     obtain rfl:=oj h;refine X1f [] ?_;refine X0.back (by intro id h;cases h) rfl ?_;exact wkT [] (J)
    intro h;obtain rfl:=oj h;exact X3 [.ix 0,Gf,Gf,Gf,Gt,.ix 1,Gt,Gt,Gf,Gf,Gf,Gt,Gt] (k:=wkT [] (X0.glue J))
   intro h;obtain rfl:=oj h;exact X3 [.ix 0,Gf,Gf,Gf,Gf,Gf,Gf,Gf,Gf,Gf,Gf,Gf] (k:=wkT [] (X0.glue J))
  clear h;revert h3264;refine brI (λh3261=>?_) λh3261=>?_
  ·
   intro h;simp only[Option.some.injEq,Prod.mk.injEq] at h;obtain⟨rfl,rfl⟩:=h;exact X3 [Bt] (k:=wkT [(2,3),(3,4)] (X0.glue J))
  refine brI (λh3262=>?_) λh3262=>?_
  ·
   intro h;simp only[Option.some.injEq,Prod.mk.injEq] at h;obtain⟨rfl,rfl⟩:=h;exact X3 [Bf,Bt] (k:=wkT [(2,3),(3,4)] (X0.glue J))
  refine brI (λh3263=>?_) λh3263=>?_
  ·
   intro h;simp only[Option.some.injEq,Prod.mk.injEq] at h;obtain⟨rfl,rfl⟩:=h;exact X3 [Bf,Bf,Bt] (k:=wkT [(2,3),(3,4)] (X0.glue J))
  intro h;simp only[Option.some.injEq,Prod.mk.injEq] at h;obtain⟨rfl,rfl⟩:=h;exact X3 [Bf,Bf,Bf] (k:=wkT [(2,3),(3,4)] (X0.glue J))
instance X03n:PCs Tryz.prog 256 (∀ (a0:(List X02)) (r:(List Bool)×Int),Xg7 a0=some r->X05 Tryz.prog 256 [(Lf (a0.map X2))] (AV.tup [(Lt (r.1.map aB)),(aI .i64 r.2)])):=⟨λa0 r h=>by
 refine X05.sym X9 X0c8 (nt:=88) rfl rfl ?_ okM;unfold Xg7 at h;revert h;refine bI λu1 h2=>?_;have qh2:=X0l h2;refine bI λo3784 h3785=>rnI [.el (aI .i64 (a0.length:Int))] ?_;intro h;refine wkT [] (X0.cut (Xkp a0 qh2 a0 0 (by simp) _ nbS _ h3785 ?_ ?_))
 ·
  intro X0y X2k eo3784;subst eo3784;refine X0.glue ?_;try dsimp only at h
  rcases X2k with ⟨_|_,Xa0⟩<;>(try obtain rfl:=Xa0 rfl);all_goals
   revert h;exact λe=>oj e▸X3 [.el (aI .i64 (a0.length:Int))] (k:=fi)
 intro X2o Xnu X2u eo3784;subst eo3784;refine X0.glue ?_;try dsimp only at h
 rcases X2u with ⟨_|_,Xdw⟩<;>(try obtain rfl:=Xdw rfl);all_goals
  revert h;exact λe=>oj e▸X3 [] (k:=fi)⟩
instance X06x:PCs Tryz.prog 216 (∀ (a0:(List X02)) (r:Bool×Int×Int),Xhv a0=some r->X05 Tryz.prog 216 [(Lf (a0.map X2))] (AV.tup [(aB r.1),(aI .i64 r.2.1),(aI .i64 r.2.2)])):=⟨λa0 r h=>by
 refine X05.sym X9 X0cl (nt:=30) rfl rfl ?_ okM;unfold Xhv at h;revert h;refine bI λv1 h2=>brI (λh3=>λe=>oj e▸X3 [.pure _ (aI .i64 v1),Bt] (k:=fi)) λh3=>bI λv4 h5=>brI (λh6=>λe=>oj e▸X3 [.pure _ (aI .i64 v1),Bf,.pure _ (AV.tup [(Lt (v4.1.map aB)),(aI .i64 v4.2)]),.el (aI .i64 (a0.length:Int)),Bt] (k:=fi)) λh6=>bI λe7 h8=>?_;try have qh8:=Xi h8
 exact λe=>oj e▸X3 [.pure _ (aI .i64 v1),Bf,.pure _ (AV.tup [(Lt (v4.1.map aB)),(aI .i64 v4.2)]),.el (aI .i64 (a0.length:Int)),Bf,.wrap,.el (aB e7),.wrap] (k:=fi)⟩
instance X03m:PCs Tryz.prog 151 (∀ (a0:(List X02)) (a1:Bool) (r:Int×Int),Xbc a0 a1=some r->X05 Tryz.prog 151 [(Lf (a0.map X2)),(aB a1)] (AV.tup [(aI .i64 r.1),(aI .i64 r.2)])):=⟨λa0 a1 r h=>by
 refine X05.sym X9 X0dd (nt:=24) rfl rfl ?_ okM;unfold Xbc at h;revert h;refine bI λv1 h2=>bI λj4_8 h6=>rnI [.pure _ (AV.tup [(aB v1.1),(aI .i64 v1.2.1),(aI .i64 v1.2.2)])] ?_;intro h;refine X0.join (s':=⟨fr [(7,(aI .i64 v1.2.1)),(8,(aI .i64 j4_8))],hp ([]),0⟩) ?_ (λJ=>X0.cut ?_)
 ·
  revert h;exact λe=>oj e▸X3 [] (k:=fi)
 clear h;revert h6;refine brI (λh5=>?_) λh5=>?_
 ·
  intro h;obtain rfl:=oj h;exact X3 [Bt] (k:=wkT [] (X0.glue J))
 intro h;obtain rfl:=oj h;exact X3 [Bf] (k:=wkT [] (X0.glue J))⟩
instance X01x:PCs Tryz.prog 101 (∀ (a0:(List X02)) (r:Int×Int),Xcc a0=some r->X05 Tryz.prog 101 [(Lf (a0.map X2))] (AV.tup [(aI .i64 r.1),(aI .i64 r.2)])):=⟨λa0 r h=>by
 refine X05.sym X9 X0ds (nt:=8) rfl rfl ?_ okM;unfold Xcc at h;revert h;exact bI λv1 h2=>λe=>oj e▸X3 [.pure _ (AV.tup [(aI .i64 v1.1),(aI .i64 v1.2)])] (k:=fi)⟩
instance Xz1:PCs Tryz.prog 100 (∀ (a0:(List X02)) (r:Int×Int),Xcs a0=some r->X05 Tryz.prog 100 [(Lf (a0.map X2))] (AV.tup [(aI .i64 r.1),(aI .i64 r.2)])):=⟨λa0 r h=>by
 refine X05.sym X9 X0dt (nt:=8) rfl rfl ?_ okM;unfold Xcs at h;revert h;exact bI λv1 h2=>λe=>oj e▸X3 [.pure _ (AV.tup [(aI .i64 v1.1),(aI .i64 v1.2)])] (k:=fi)⟩
end Go.Av.Tryz