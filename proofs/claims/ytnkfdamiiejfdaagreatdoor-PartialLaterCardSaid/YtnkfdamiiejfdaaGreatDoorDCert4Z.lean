/- Printed by decomp.py: that the program computes the functions. -/
import Derived.Test.YtnkfdamiiejfdaaGreatDoorDCert3Z
set_option linter.all false

namespace Go.Av.Tryz
open Go.Proofs Go.D Go.Proofs.Tryz
set_option maxRecDepth 10000
set_option maxHeartbeats 40000000
theorem Xi1 {Q:Qt} {μ:Mu} (X0e:(List Xy)) (hl:X0e.length<=140737488355328):∀ (xs:List Xy) (k:Nat) (hx:X0e.drop k=xs) (Xi:(List Bool)) (Xn:Nb Xi) (o:X51) (h:X1c X0e xs k Xi=some o)
  (C0:∀ (X0d:(List Bool)) (X0n:Nb X0d),o=X51.x0 X0d->Sx 88 Q [(0,(Lf (X0e.map X3))),(4,(AV.ptr 0 0 0))] ([(0,Ob [(slE X0n.1 1 (X0d.map aB))] 1)]++opE X0n.1 1 1 (X0d.map aB)) 2 μ)
  (C1:∀ (X09:(List Bool)) (Xlj:Int) (X08:Nb X09),o=X51.x1 X09 Xlj->Sr 88 Q [(2,(slE X08.1 0 (X09.map aB))),(3,(aI .i64 Xlj))] ([]++opE X08.1 0 1 (X09.map aB)) 1 μ),
  Sl 88 Q f222 [(0,(Lf (X0e.map X3))),(4,(AV.ptr 0 0 0)),(5,(AV.fn 269 [(AV.ptr 0 0 0)])),(12,(Lf (X0e.map X3))),(13,(aI .i64 (X0e.length:Int))),(14,(aI .i64 (k:Int)))] ([(0,Ob [(slE Xn.1 1 (Xi.map aB))] 1)]++opE Xn.1 1 1 (Xi.map aB)) 2 μ:=by
 intro xs
 induction xs with
 |nil =>
  intro k hx Xi Xn o h C0 C1;have hk:=X2n hx;have hc:=lpN hx;rw[X1c] at h;rcases Xn with ⟨_|_,X0a⟩
  ·
   refine X5.round ?_;revert h;exact λe=>X8 [Bf] (k:=wkT [] (C0 _  nbF (oj e).symm))
  ·
   obtain rfl:=X0a rfl;refine X5.round ?_;revert h;exact λe=>X8 [Bf] (k:=wkT [] (C0 _  nbS (oj e).symm))
 |cons x xs ih =>
  intro k hx Xi Xn o h C0 C1;obtain⟨hk,hg,hx1⟩:=X1w hx;have hc:=lpC hx;rw[X1c] at h;rcases Xn with ⟨_|_,X0a⟩
  ·
   refine X5.round ?_;revert h;refine brI (λh2524=>?_) λh2524=>?_
   ·
    refine bI λu2525 h2526=>rnI [Bt,.el (X3 x),Bt,.no] (o:=by repeat' first|apply Ya|exact pcM|(refine X0g h2526 rfl ?_;first|(simp<;>omega)|(simp[hc,h2524]<;>omega))|(refine Xv h2526 (by decide) ?_;first|(simp<;>omega)|(simp[hc,h2524]<;>omega))|exact X1i) ?_;intro h;exact wkT [(1,6)] (ih (k+1) hx1 _ nbF o h C0 C1)
   refine brI (λh2533=>?_) λh2533=>?_
   ·
    refine bI λXn4 h2549=>rnI [Bt,.el (X3 x),Bf,Bt,.see [(38,[4])],.stop 22] ?_;intro h;refine jn [(0,(Lf (X0e.map X3))),(4,(AV.ptr 0 0 0)),(5,(AV.fn 269 [(AV.ptr 0 0 0)])),(6,(aI .i64 (k:Int))),(9,(aB false)),(12,(Lf (X0e.map X3))),(13,(aI .i64 (X0e.length:Int))),(14,(aI .i64 (k:Int))),(78,(aB Xn4))] ([(0,Ob [(AV.ref 1 0 (Xi.length))] 1),(1,Ob (Xi.map aB) 1)]) 2 ?_ (λJ=>X5.cut ?_)
    ·
     revert h;refine brI (λh2550=>λe=>X8 [Bt] (k:=wkT [] (C1 _ _  nbS (oj e).symm))) λh2550=>?_;refine bI λu2551 h2552=>rnI [Bf,.no] (o:=by repeat' first|apply Ya|exact pcM|(refine X0g h2552 rfl ?_;first|(simp<;>omega)|(simp[hc,h2524,h2533,h2550]<;>omega))|(refine Xv h2552 (by decide) ?_;first|(simp<;>omega)|(simp[hc,h2524,h2533,h2550]<;>omega))|exact X1i) ?_;intro h;exact wkT [(1,3)] (ih (k+1) hx1 _ nbF o h C0 C1)
    clear h;revert h2549;refine rnI [.ix 0,Gt,Gt,.stop 999999] ?_;intro h;refine X5.inlineG X2 Xlc rfl rfl rfl rfl rfl rfl rfl rfl rfl rfl (rfl) trivial trivial ?_;refine X0f [] ?_;refine X5.round ?_;revert h;refine bI λe2546 h2547=>?_;try have qh2547:=Xm h2547
    refine brI (λh2548=>?_) λh2548=>?_
    ·
     refine rnI [Bt,.el ((aI .i64 x.A)),.el (aB e2546),.ld (aB e2546),Bt] ?_;intro h;refine X5.back (by intro id h;cases h) rfl ?_;revert h;exact λe=>X8 [Gt,.ix 1,Gt,Gt,Gf,Gf,Gf,Gt,Gt] (k:=wJ [] J)
    refine rnI [Bt,.el ((aI .i64 x.A)),.el (aB e2546),.ld (aB e2546),Bf] ?_;intro h;refine X5.round ?_;refine X0f [Bf] ?_;refine X5.back (by intro id h;cases h) rfl ?_;revert h;exact λe=>X8 [Gf,Gf,Gf,Gf,Gf,Gf,Gf,Gf] (k:=wJ [] J)
   refine brI (λh2558=>?_) λh2558=>?_
   ·
    refine bI λXn3 h2574=>rnI [Bt,.el (X3 x),Bf,Bf,Bt,.see [(45,[4])],.ix 0,Gf,Gf,Gf,Gt,.ix 1,Gt,Gt,Gt,Gt,.stop 999999] ?_;intro h;refine X5.joinOp (s':=⟨fr [(0,(Lf (X0e.map X3))),(4,(AV.ptr 0 0 0)),(5,(AV.fn 269 [(AV.ptr 0 0 0)])),(6,(aI .i64 (k:Int))),(9,(aB true)),(12,(Lf (X0e.map X3))),(13,(aI .i64 (X0e.length:Int))),(14,(aI .i64 (k:Int))),(69,(aB (!(bif false then false else false)))),(72,(aB true)),(75,(aB Xn3))],hp ([(0,Ob [(AV.ref 1 0 (Xi.length))] 1),(1,Ob (Xi.map aB) 1)]),2⟩) ?_ (λJ=>?_)
    ·
     revert h;refine brI (λh2575=>λe=>X8 [Gt,Gt,Bt] (k:=wkT [] (C1 _ _  nbS (oj e).symm))) λh2575=>?_;refine bI λu2576 h2577=>rnI [Gt,Gt,Bf,.no] (o:=by repeat' first|apply Ya|exact pcM|(refine X0g h2577 rfl ?_;first|(simp<;>omega)|(simp[hc,h2524,h2533,h2558,h2575]<;>omega))|(refine Xv h2577 (by decide) ?_;first|(simp<;>omega)|(simp[hc,h2524,h2533,h2558,h2575]<;>omega))|exact X1i) ?_;intro h;exact wkT [(1,3)] (ih (k+1) hx1 _ nbF o h C0 C1)
    clear h;revert h2574;intro h;refine X5.inlineG X2 Xlc rfl rfl rfl rfl rfl rfl rfl rfl rfl rfl (rfl) trivial trivial ?_;refine X0f [] ?_;refine X5.round ?_;revert h;refine bI λe2571 h2572=>?_;try have qh2572:=Xm h2572
    refine brI (λh2573=>?_) λh2573=>?_
    ·
     intro h;obtain rfl:=oj h;refine X0f [Bt,.el ((aI .i64 x.A)),.el (aB e2571),.ld (aB e2571),Bt] ?_;refine X5.back (by intro id h;cases h) rfl ?_;exact wkT [] (J)
    refine rnI [Bt,.el ((aI .i64 x.A)),.el (aB e2571),.ld (aB e2571),Bf] ?_;intro h;refine X5.round ?_;obtain rfl:=oj h;refine X0f [Bf] ?_;refine X5.back (by intro id h;cases h) rfl ?_;exact wkT [] (J)
   refine bI λw2581 h2585=>?_;intro h;obtain⟨Xa2,Xjy⟩:=w2581;try dsimp only at h
   refine X0f [Bt,.el (X3 x),Bf,Bf,Bf] ?_;refine jn [(0,(Lf (X0e.map X3))),(4,(AV.ptr 0 0 0)),(5,(AV.fn 269 [(AV.ptr 0 0 0)])),(6,(aI .i64 (k:Int))),(8,(AV.ptr 2 0 0)),(9,(aB Xjy)),(10,(AV.ref 3 0 (List.length [x.A,x.B]))),(12,(Lf (X0e.map X3))),(13,(aI .i64 (X0e.length:Int))),(14,(aI .i64 (k:Int)))] ([(0,Ob [(AV.ref 1 0 (Xi.length))] 1),(1,Ob (Xi.map aB) 1),(2,Ob [(X8e Xa2)] 2),(3,Ob (List.map (aI .i64) [x.A,x.B]) 1)]) 4 ?_ (λJ=>X5.cut ?_)
   ·
    revert h;refine bI λXn2 h3221=>rnI [.stop 22] ?_;intro h;refine jn [(0,(Lf (X0e.map X3))),(4,(AV.ptr 0 0 0)),(5,(AV.fn 269 [(AV.ptr 0 0 0)])),(6,(aI .i64 (k:Int))),(9,(aB Xjy)),(12,(Lf (X0e.map X3))),(13,(aI .i64 (X0e.length:Int))),(14,(aI .i64 (k:Int))),(78,(aB Xn2))] ([(0,Ob [(AV.ref 1 0 (Xi.length))] 1),(1,Ob (Xi.map aB) 1)]) 2 ?_ (λJ=>X5.cut ?_)
    ·
     revert h;refine brI (λh3222=>λe=>X8 [Bt] (k:=wkT [] (C1 _ _  nbS (oj e).symm))) λh3222=>?_;refine bI λu3223 h3224=>rnI [Bf,.no] (o:=by repeat' first|apply Ya|exact pcM|(refine X0g h3224 rfl ?_;first|(simp<;>omega)|(simp[hc,h2524,h2533,h2558,h3222]<;>omega))|(refine Xv h3224 (by decide) ?_;first|(simp<;>omega)|(simp[hc,h2524,h2533,h2558,h3222]<;>omega))|exact X1i) ?_;intro h;exact wkT [(1,3)] (ih (k+1) hx1 _ nbF o h C0 C1)
    clear h;revert h3221;refine brI (λh2904=>?_) λh2904=>?_
    ·
     refine bI λXbm h3018=>rnI [.ix 0,Gt,Gt,.stop 999999] ?_;intro h;refine X5.joinOp (s':=⟨fr [(0,(Lf (X0e.map X3))),(4,(AV.ptr 0 0 0)),(5,(AV.fn 269 [(AV.ptr 0 0 0)])),(6,(aI .i64 (k:Int))),(8,(AV.ptr 2 0 0)),(9,(aB Xjy)),(10,(AV.ref 3 0 (List.length [x.A,x.B]))),(12,(Lf (X0e.map X3))),(13,(aI .i64 (X0e.length:Int))),(14,(aI .i64 (k:Int))),(63,(aB Xa2.e0)),(66,(aB Xbm))],hp ([(0,Ob [(AV.ref 1 0 (Xi.length))] 1),(1,Ob (Xi.map aB) 1),(2,Ob [(X8e Xa2)] 2),(3,Ob (List.map (aI .i64) [x.A,x.B]) 1)]),4⟩) ?_ (λJ=>?_)
     ·
      revert h;refine brI (λh3019=>?_) λh3019=>λe=>X8 [Gf,Gf,Gf,Gf,Gf,Gf,Gf,Gf] (k:=wJ [] J);refine brI (λh3020=>?_) λh3020=>λe=>X8 [Gt,.ix 1,Gt,Gt,Gf,Gf,Gf,Gt,Gt] (k:=wJ [] J);refine bI λXn1 h3134=>rnI [Gt,.ix 1,Gt,Gt,Gt,Gt,.stop 999999] ?_;intro h;refine X5.joinOp (s':=⟨fr [(0,(Lf (X0e.map X3))),(4,(AV.ptr 0 0 0)),(5,(AV.fn 269 [(AV.ptr 0 0 0)])),(6,(aI .i64 (k:Int))),(9,(aB Xjy)),(12,(Lf (X0e.map X3))),(13,(aI .i64 (X0e.length:Int))),(14,(aI .i64 (k:Int))),(69,(aB (!(bif Xa2.e0 then Xbm else false)))),(72,(aB Xa2.e1)),(75,(aB Xn1))],hp ([(0,Ob [(AV.ref 1 0 (Xi.length))] 1),(1,Ob (Xi.map aB) 1)]),2⟩) ?_ (λJ=>?_)
      ·
       revert h;exact λe=>X8 [Gt,Gt] (k:=wJ [] J)
      clear h;revert h3134;intro h;refine X5.inlineG X2 Xlc rfl rfl rfl rfl rfl rfl rfl rfl rfl rfl (h3020) trivial trivial ?_;revert h;refine bI λu3096 h3097=>?_;have qh3097:=X05 h3097;refine bI λo3132 h3133=>rnI [.el (aI .i64 (List.length [x.A,x.B]:Int))] ?_;intro h;refine wkT [(4,3)] (X5.cut (drA (X1b Xi [x.A,x.B] nbF qh3097) _ h3133 ?_));rcases o3132 with _|_
      ·
       refine lG rfl ?_;try dsimp only at h
       obtain rfl:=oj h;refine X0f [] ?_;refine X5.back (by intro id h;cases h) rfl ?_;exact wkT [] (J)
      refine lG rfl ?_;try dsimp only at h
      obtain rfl:=oj h;refine X0f [] ?_;refine X5.back (by intro id h;cases h) rfl ?_;exact wkT [] (J)
     clear h;revert h3018;intro h;refine X5.inlineG X2 Xlc rfl rfl rfl rfl rfl rfl rfl rfl rfl rfl (h2904) trivial trivial ?_;revert h;refine bI λu2980 h2981=>?_;have qh2981:=X05 h2981;refine bI λo3016 h3017=>rnI [.el (aI .i64 (List.length [x.A,x.B]:Int))] ?_;intro h;refine wkT [] (X5.cut (drA (X4i Xi Xa2 [x.A,x.B] nbF qh2981) _ h3017 ?_));rcases o3016 with _|_
     ·
      refine lG rfl ?_;try dsimp only at h
      obtain rfl:=oj h;refine X0f [] ?_;refine X5.back (by intro id h;cases h) rfl ?_;exact wkT [] (J)
     refine lG rfl ?_;try dsimp only at h
     obtain rfl:=oj h;refine X0f [] ?_;refine X5.back (by intro id h;cases h) rfl ?_;exact wkT [] (J)
    refine brI (λh3135=>?_) λh3135=>λe=>X8 [.ix 0,Gf,Gf,Gf,Gf,Gf,Gf,Gf,Gf,Gf,Gf,Gf] (k:=wJ [] J);refine brI (λh3136=>?_) λh3136=>λe=>X8 [.ix 0,Gf,Gf,Gf,Gt,.ix 1,Gt,Gt,Gf,Gf,Gf,Gt,Gt] (k:=wJ [] J);refine bI λXn0 h3220=>rnI [.ix 0,Gf,Gf,Gf,Gt,.ix 1,Gt,Gt,Gt,Gt,.stop 999999] ?_;intro h;refine X5.joinOp (s':=⟨fr [(0,(Lf (X0e.map X3))),(4,(AV.ptr 0 0 0)),(5,(AV.fn 269 [(AV.ptr 0 0 0)])),(6,(aI .i64 (k:Int))),(9,(aB Xjy)),(12,(Lf (X0e.map X3))),(13,(aI .i64 (X0e.length:Int))),(14,(aI .i64 (k:Int))),(69,(aB (!(bif Xa2.e0 then false else false)))),(72,(aB Xa2.e1)),(75,(aB Xn0))],hp ([(0,Ob [(AV.ref 1 0 (Xi.length))] 1),(1,Ob (Xi.map aB) 1)]),2⟩) ?_ (λJ=>?_)
    ·
     revert h;exact λe=>X8 [Gt,Gt] (k:=wJ [] J)
    clear h;revert h3220;intro h;refine X5.inlineG X2 Xlc rfl rfl rfl rfl rfl rfl rfl rfl rfl rfl (h3136) trivial trivial ?_;revert h;refine bI λu3192 h3193=>?_;have qh3193:=X05 h3193;refine bI λo3218 h3219=>rnI [.el (aI .i64 (List.length [x.A,x.B]:Int))] ?_;intro h;refine wkT [(4,3)] (X5.cut (drA (X1b Xi [x.A,x.B] nbF qh3193) _ h3219 ?_));rcases o3218 with _|_
    ·
     refine lG rfl ?_;try dsimp only at h
     obtain rfl:=oj h;refine X0f [] ?_;refine X5.back (by intro id h;cases h) rfl ?_;exact wkT [] (J)
    refine lG rfl ?_;try dsimp only at h
    obtain rfl:=oj h;refine X0f [] ?_;refine X5.back (by intro id h;cases h) rfl ?_;exact wkT [] (J)
   clear h;revert h2585;exact brI (λh2582=>λe=>X8 [Bt] (k:=wJ [(2,3),(3,4)] J)) λh2582=>brI (λh2583=>λe=>X8 [Bf,Bt] (k:=wJ [(2,3),(3,4)] J)) λh2583=>brI (λh2584=>λe=>X8 [Bf,Bf,Bt] (k:=wJ [(2,3),(3,4)] J)) λh2584=>λe=>X8 [Bf,Bf,Bf] (k:=wJ [(2,3),(3,4)] J)
  obtain rfl:=X0a rfl;refine X5.round ?_;revert h;refine brI (λh3225=>?_) λh3225=>?_
  ·
   refine bI λu3226 h3227=>rnI [Bt,.el (X3 x),Bt,.no] (o:=by repeat' first|apply Ya|exact pcM|(refine X0g h3227 rfl ?_;first|(simp<;>omega)|(simp[hc,h3225]<;>omega))|(refine Xv h3227 (by decide) ?_;first|(simp<;>omega)|(simp[hc,h3225]<;>omega))|exact X1i) ?_;intro h;exact wkT [(1,6)] (ih (k+1) hx1 _ nbF o h C0 C1)
  refine brI (λh3233=>?_) λh3233=>?_
  ·
   refine rnI [Bt,.el (X3 x),Bf,Bt,.see [(38,[4])],.ix 0,Gt,Gt,.stop 999999] ?_;intro h;refine X5.inlineG X2 Xlc rfl rfl rfl rfl rfl rfl rfl rfl rfl rfl (rfl) trivial trivial ?_;refine X0f [] ?_;refine X5.round ?_;revert h;refine bI λe3241 h3242=>?_;try have qh3242:=Xm h3242
   intro h
   first|exact absurd (h3242) (by simp[X18];done)|(simp[X18,hc,h3225,h3233] at h;done)|(simp[hc,h3225,h3233] at hg;done)|exact absurd (h3242) (by simp[X18,hc,h3225,h3233];done)
  refine brI (λh3247=>?_) λh3247=>?_
  ·
   refine rnI [Bt,.el (X3 x),Bf,Bf,Bt,.see [(45,[4])],.ix 0,Gf,Gf,Gf,Gt,.ix 1,Gt,Gt,Gt,Gt,.stop 999999] ?_;intro h;refine X5.inlineG X2 Xlc rfl rfl rfl rfl rfl rfl rfl rfl rfl rfl (rfl) trivial trivial ?_;refine X0f [] ?_;refine X5.round ?_;revert h;refine bI λe3255 h3256=>?_;try have qh3256:=Xm h3256
   intro h
   first|exact absurd (h3256) (by simp[X18];done)|(simp[X18,hc,h3225,h3233,h3247] at h;done)|(simp[hc,h3225,h3233,h3247] at hg;done)|exact absurd (h3256) (by simp[X18,hc,h3225,h3233,h3247];done)
  refine bI λw3260 h3264=>?_;intro h;obtain⟨Xa1,Xjw⟩:=w3260;try dsimp only at h
  refine X0f [Bt,.el (X3 x),Bf,Bf,Bf] ?_;refine jn [(0,(Lf (X0e.map X3))),(4,(AV.ptr 0 0 0)),(5,(AV.fn 269 [(AV.ptr 0 0 0)])),(6,(aI .i64 (k:Int))),(8,(AV.ptr 2 0 0)),(9,(aB Xjw)),(10,(AV.ref 3 0 (List.length [x.A,x.B]))),(12,(Lf (X0e.map X3))),(13,(aI .i64 (X0e.length:Int))),(14,(aI .i64 (k:Int)))] ([(0,Ob [AV.nils] 1),(2,Ob [(X8e Xa1)] 2),(3,Ob (List.map (aI .i64) [x.A,x.B]) 1)]) 4 ?_ (λJ=>X5.cut ?_)
  ·
   revert h;refine bI λX03y h3780=>rnI [.stop 22] ?_;intro h;refine jn [(0,(Lf (X0e.map X3))),(4,(AV.ptr 0 0 0)),(5,(AV.fn 269 [(AV.ptr 0 0 0)])),(6,(aI .i64 (k:Int))),(9,(aB Xjw)),(12,(Lf (X0e.map X3))),(13,(aI .i64 (X0e.length:Int))),(14,(aI .i64 (k:Int))),(78,(aB X03y))] ([(0,Ob [AV.nils] 1)]) 2 ?_ (λJ=>X5.cut ?_)
   ·
    revert h;refine brI (λh3781=>λe=>X8 [Bt] (k:=wkT [] (C1 _ _  nbS (oj e).symm))) λh3781=>?_;refine bI λu3782 h3783=>rnI [Bf,.no] (o:=by repeat' first|apply Ya|exact pcM|(refine X0g h3783 rfl ?_;first|(simp<;>omega)|(simp[hc,h3225,h3233,h3247,h3781]<;>omega))|(refine Xv h3783 (by decide) ?_;first|(simp<;>omega)|(simp[hc,h3225,h3233,h3247,h3781]<;>omega))|exact X1i) ?_;intro h;exact wkT [(1,3)] (ih (k+1) hx1 _ nbF o h C0 C1)
   clear h;revert h3780;refine brI (λh3523=>?_) λh3523=>?_
   ·
    refine bI λXtq h3607=>rnI [.ix 0,Gt,Gt,.stop 999999] ?_;intro h;refine X5.joinOp (s':=⟨fr [(0,(Lf (X0e.map X3))),(4,(AV.ptr 0 0 0)),(5,(AV.fn 269 [(AV.ptr 0 0 0)])),(6,(aI .i64 (k:Int))),(8,(AV.ptr 2 0 0)),(9,(aB Xjw)),(10,(AV.ref 3 0 (List.length [x.A,x.B]))),(12,(Lf (X0e.map X3))),(13,(aI .i64 (X0e.length:Int))),(14,(aI .i64 (k:Int))),(63,(aB Xa1.e0)),(66,(aB Xtq))],hp ([(0,Ob [AV.nils] 1),(2,Ob [(X8e Xa1)] 2),(3,Ob (List.map (aI .i64) [x.A,x.B]) 1)]),4⟩) ?_ (λJ=>?_)
    ·
     revert h;refine brI (λh3608=>?_) λh3608=>λe=>X8 [Gf,Gf,Gf,Gf,Gf,Gf,Gf,Gf] (k:=wJ [] J);refine brI (λh3609=>?_) λh3609=>λe=>X8 [Gt,.ix 1,Gt,Gt,Gf,Gf,Gf,Gt,Gt] (k:=wJ [] J);refine bI λX03x h3693=>rnI [Gt,.ix 1,Gt,Gt,Gt,Gt,.stop 999999] ?_;intro h;refine X5.joinOp (s':=⟨fr [(0,(Lf (X0e.map X3))),(4,(AV.ptr 0 0 0)),(5,(AV.fn 269 [(AV.ptr 0 0 0)])),(6,(aI .i64 (k:Int))),(9,(aB Xjw)),(12,(Lf (X0e.map X3))),(13,(aI .i64 (X0e.length:Int))),(14,(aI .i64 (k:Int))),(69,(aB (!(bif Xa1.e0 then Xtq else false)))),(72,(aB Xa1.e1)),(75,(aB X03x))],hp ([(0,Ob [AV.nils] 1)]),2⟩) ?_ (λJ=>?_)
     ·
      revert h;exact λe=>X8 [Gt,Gt] (k:=wJ [] J)
     clear h;revert h3693;intro h;refine X5.inlineG X2 Xlc rfl rfl rfl rfl rfl rfl rfl rfl rfl rfl (h3609) trivial trivial ?_;revert h;refine bI λu3665 h3666=>?_;have qh3666:=X05 h3666;refine bI λo3691 h3692=>rnI [.el (aI .i64 (List.length [x.A,x.B]:Int))] ?_;intro h;refine wkT [(4,3)] (X5.cut (drA (X1b ([]:List Bool) [x.A,x.B] nbS qh3666) _ h3692 ?_));rcases o3691 with _|_
     ·
      refine lG rfl ?_;try dsimp only at h
      obtain rfl:=oj h;refine X0f [] ?_;refine X5.back (by intro id h;cases h) rfl ?_;exact wkT [] (J)
     refine lG rfl ?_;try dsimp only at h
     obtain rfl:=oj h;refine X0f [] ?_;refine X5.back (by intro id h;cases h) rfl ?_;exact wkT [] (J)
    clear h;revert h3607;intro h;refine X5.inlineG X2 Xlc rfl rfl rfl rfl rfl rfl rfl rfl rfl rfl (h3523) trivial trivial ?_;revert h;refine bI λu3579 h3580=>?_;have qh3580:=X05 h3580;refine bI λo3605 h3606=>rnI [.el (aI .i64 (List.length [x.A,x.B]:Int))] ?_;intro h;refine wkT [] (X5.cut (drA (X4i ([]:List Bool) Xa1 [x.A,x.B] nbS qh3580) _ h3606 ?_));rcases o3605 with _|_
    ·
     refine lG rfl ?_;try dsimp only at h
     obtain rfl:=oj h;refine X0f [] ?_;refine X5.back (by intro id h;cases h) rfl ?_;exact wkT [] (J)
    refine lG rfl ?_;try dsimp only at h
    obtain rfl:=oj h;refine X0f [] ?_;refine X5.back (by intro id h;cases h) rfl ?_;exact wkT [] (J)
   refine brI (λh3694=>?_) λh3694=>λe=>X8 [.ix 0,Gf,Gf,Gf,Gf,Gf,Gf,Gf,Gf,Gf,Gf,Gf] (k:=wJ [] J);refine brI (λh3695=>?_) λh3695=>λe=>X8 [.ix 0,Gf,Gf,Gf,Gt,.ix 1,Gt,Gt,Gf,Gf,Gf,Gt,Gt] (k:=wJ [] J);refine bI λX03w h3779=>rnI [.ix 0,Gf,Gf,Gf,Gt,.ix 1,Gt,Gt,Gt,Gt,.stop 999999] ?_;intro h;refine X5.joinOp (s':=⟨fr [(0,(Lf (X0e.map X3))),(4,(AV.ptr 0 0 0)),(5,(AV.fn 269 [(AV.ptr 0 0 0)])),(6,(aI .i64 (k:Int))),(9,(aB Xjw)),(12,(Lf (X0e.map X3))),(13,(aI .i64 (X0e.length:Int))),(14,(aI .i64 (k:Int))),(69,(aB (!(bif Xa1.e0 then false else false)))),(72,(aB Xa1.e1)),(75,(aB X03w))],hp ([(0,Ob [AV.nils] 1)]),2⟩) ?_ (λJ=>?_)
   ·
    revert h;exact λe=>X8 [Gt,Gt] (k:=wJ [] J)
   clear h;revert h3779;intro h;refine X5.inlineG X2 Xlc rfl rfl rfl rfl rfl rfl rfl rfl rfl rfl (h3695) trivial trivial ?_;revert h;refine bI λu3751 h3752=>?_;have qh3752:=X05 h3752;refine bI λo3777 h3778=>rnI [.el (aI .i64 (List.length [x.A,x.B]:Int))] ?_;intro h;refine wkT [(4,3)] (X5.cut (drA (X1b ([]:List Bool) [x.A,x.B] nbS qh3752) _ h3778 ?_));rcases o3777 with _|_
   ·
    refine lG rfl ?_;try dsimp only at h
    obtain rfl:=oj h;refine X0f [] ?_;refine X5.back (by intro id h;cases h) rfl ?_;exact wkT [] (J)
   refine lG rfl ?_;try dsimp only at h
   obtain rfl:=oj h;refine X0f [] ?_;refine X5.back (by intro id h;cases h) rfl ?_;exact wkT [] (J)
  clear h;revert h3264;exact brI (λh3261=>λe=>X8 [Bt] (k:=wJ [(2,3),(3,4)] J)) λh3261=>brI (λh3262=>λe=>X8 [Bf,Bt] (k:=wJ [(2,3),(3,4)] J)) λh3262=>brI (λh3263=>λe=>X8 [Bf,Bf,Bt] (k:=wJ [(2,3),(3,4)] J)) λh3263=>λe=>X8 [Bf,Bf,Bf] (k:=wJ [(2,3),(3,4)] J)
instance X03s:PZ 222 (∀ (a0:(List Xy)) (r:(List Bool)×Int),Xdf a0=some r->Pz 222 [(Lf (a0.map X3))] (AV.tup [(Lt (r.1.map aB)),(aI .i64 r.2)])):=⟨λa0 r h=>by
 refine X15.sym X2 X0gu (nt:=88) rfl rfl ?_ okM;unfold Xdf at h;revert h;refine bI λu1 h2=>?_;have qh2:=X05 h2;refine bI λo3784 h3785=>rnI [.el (aI .i64 (a0.length:Int))] ?_;intro h;refine wkT [] (X5.cut (Xi1 a0 qh2 a0 0 (by simp) _ nbS _ h3785 ?_ ?_))
 ·
  intro X0d X0n eo3784;subst eo3784;refine X5.glue ?_;try dsimp only at h
  rcases X0n with ⟨_|_,X3z⟩<;>(try obtain rfl:=X3z rfl);all_goals
   revert h;exact λe=>oj e▸X8 [.el (aI .i64 (a0.length:Int))] (k:=fi)
 intro X09 Xlj X08 eo3784;subst eo3784;refine X5.glue ?_;try dsimp only at h
 rcases X08 with ⟨_|_,X31⟩<;>(try obtain rfl:=X31 rfl);all_goals
  revert h;exact λe=>oj e▸X8 [] (k:=fi)⟩
instance X08i:PZ 147 (∀ (a0:(List Xy)) (r:Bool×Int×Int),Xdg a0=some r->Pz 147 [(Lf (a0.map X3))] (AV.tup [(aB r.1),(aI .i64 r.2.1),(aI .i64 r.2.2)])):=⟨λa0 r h=>by
 refine X15.sym X2 X0h9 (nt:=30) rfl rfl ?_ okM;unfold Xdg at h;revert h;refine bI λv1 h2=>brI (λh3=>λe=>oj e▸X8 [.pure _ (aI .i64 v1),Bt] (k:=fi)) λh3=>bI λv4 h5=>brI (λh6=>λe=>oj e▸X8 [.pure _ (aI .i64 v1),Bf,.pure _ (AV.tup [(Lt (v4.1.map aB)),(aI .i64 v4.2)]),.el (aI .i64 (a0.length:Int)),Bt] (k:=fi)) λh6=>bI λe7 h8=>?_;try have qh8:=Xm h8
 exact λe=>oj e▸X8 [.pure _ (aI .i64 v1),Bf,.pure _ (AV.tup [(Lt (v4.1.map aB)),(aI .i64 v4.2)]),.el (aI .i64 (a0.length:Int)),Bf,.wrap,.el (aB e7),.wrap] (k:=fi)⟩
instance X03r:PZ 82 (∀ (a0:(List Xy)) (a1:Bool) (r:Int×Int),X8o a0 a1=some r->Pz 82 [(Lf (a0.map X3)),(aB a1)] (AV.tup [(aI .i64 r.1),(aI .i64 r.2)])):=⟨λa0 a1 r h=>by
 refine X15.sym X2 fn82 (nt:=24) rfl rfl ?_ okM;unfold X8o at h;revert h;refine bI λv1 h2=>bI λj4_8 h6=>rnI [.pure _ (AV.tup [(aB v1.1),(aI .i64 v1.2.1),(aI .i64 v1.2.2)])] ?_;intro h;refine jn [(7,(aI .i64 v1.2.1)),(8,(aI .i64 j4_8))] ([]) 0 ?_ (λJ=>X5.cut ?_)
 ·
  revert h;exact λe=>oj e▸X8 [] (k:=fi)
 clear h;revert h6;exact brI (λh5=>λe=>X8 [Bt] (k:=wJ [] J)) λh5=>λe=>X8 [Bf] (k:=wJ [] J)⟩
instance X02f:PZ 47 (∀ (a0:(List Xy)) (r:Int×Int),X9i a0=some r->Pz 47 [(Lf (a0.map X3))] (AV.tup [(aI .i64 r.1),(aI .i64 r.2)])):=⟨λa0 r h=>by
 refine X15.sym X2 fn47 (nt:=8) rfl rfl ?_ okM;unfold X9i at h;revert h;exact bI λv1 h2=>λe=>oj e▸X8 [.pure _ (AV.tup [(aI .i64 v1.1),(aI .i64 v1.2)])] (k:=fi)⟩
instance Xz9:PZ 46 (∀ (a0:(List Xy)) (r:Int×Int),Xa0 a0=some r->Pz 46 [(Lf (a0.map X3))] (AV.tup [(aI .i64 r.1),(aI .i64 r.2)])):=⟨λa0 r h=>by
 refine X15.sym X2 fn46 (nt:=8) rfl rfl ?_ okM;unfold Xa0 at h;revert h;exact bI λv1 h2=>λe=>oj e▸X8 [.pure _ (AV.tup [(aI .i64 v1.1),(aI .i64 v1.2)])] (k:=fi)⟩
instance X010:PZ 19 (∀ (a0:X00) (r:Int×Int),X7y a0=some r->Pz 19 [(Xz false a0)] (AV.tup [(aI .i64 r.1),(aI .i64 r.2)])):=⟨λa0 r h=>by
 refine X15.sym X2 fn19 (nt:=20) rfl rfl ?_ okM;unfold X7y at h;revert h;refine bI λv1 h2=>brI (λh3=>λe=>oj e▸X8 [.pure _ (aI .i64 v1),Bt] (k:=fi)) λh3=>bI λw22 h41=>?_;intro h;obtain⟨X040,X03z⟩:=w22;try dsimp only at h
 refine X0f [.pure _ (aI .i64 v1),Bf] ?_;refine X5.joinOp (s':=⟨fr [(17,(AV.tup [(aI .i64 X040),(aI .i64 X03z)]))],hp ([]),0⟩) ?_ (λJ=>?_)
 ·
  revert h;exact λe=>oj e▸X8 [] (k:=fi)
 clear h;revert h41;intro h;refine X5.inline X2 fn45 rfl rfl rfl rfl rfl trivial trivial rfl rfl ?_;refine X0f [] ?_;refine X5.round ?_;revert h;refine brI (λh23=>?_) λh23=>?_
 ·
  refine rnI [Bt,.el (AV.agg [(Lf (a0.Arg.map X3)),(AV.fn 46 [])]),.el (aI .i64 (a0.Arg.length:Int)),Bt] ?_;intro h;refine X5.round ?_;revert h;refine brI (λh24=>?_) λh24=>?_
  ·
   refine rnI [Bt,.el (AV.agg [(Lf (a0.Where.map X3)),(AV.fn 47 [])]),.el (aI .i64 (a0.Where.length:Int)),Bt] ?_;intro h;refine X5.round ?_;simp only[Option.some.injEq,Prod.mk.injEq] at h;obtain⟨rfl,rfl⟩:=h;refine X0f [Bf] ?_;refine X5.back (by intro id h;cases h) rfl ?_;exact wkT [] (J)
  refine bI λv25 h26=>rnI [Bt,.el (AV.agg [(Lf (a0.Where.map X3)),(AV.fn 47 [])]),.el (aI .i64 (a0.Where.length:Int)),Bf,.pure _ (AV.tup [(aI .i64 v25.1),(aI .i64 v25.2)])] ?_;refine brI (λh27=>?_) λh27=>?_
  ·
   refine bI λe28 h29=>?_;try have qh29:=Xm h29
   intro h;simp only[Option.some.injEq,Prod.mk.injEq] at h;obtain⟨rfl,rfl⟩:=h;refine X0f [Bt,.el (X3 e28)] ?_;refine X5.back (by intro id h;cases h) rfl ?_;exact wkT [] (J)
  refine rnI [Bf] ?_;intro h;refine X5.round ?_;simp only[Option.some.injEq,Prod.mk.injEq] at h;obtain⟨rfl,rfl⟩:=h;refine X0f [Bf] ?_;refine X5.back (by intro id h;cases h) rfl ?_;exact wkT [] (J)
 refine bI λv30 h31=>rnI [Bt,.el (AV.agg [(Lf (a0.Arg.map X3)),(AV.fn 46 [])]),.el (aI .i64 (a0.Arg.length:Int)),Bf,.pure _ (AV.tup [(aI .i64 v30.1),(aI .i64 v30.2)])] ?_;refine brI (λh32=>?_) λh32=>?_
 ·
  refine bI λe33 h34=>?_;try have qh34:=Xm h34
  intro h;simp only[Option.some.injEq,Prod.mk.injEq] at h;obtain⟨rfl,rfl⟩:=h;refine X0f [Bt,.el (X3 e33)] ?_;refine X5.back (by intro id h;cases h) rfl ?_;exact wkT [] (J)
 refine rnI [Bf] ?_;intro h;refine X5.round ?_;revert h;refine brI (λh35=>?_) λh35=>?_
 ·
  refine rnI [Bt,.el (AV.agg [(Lf (a0.Where.map X3)),(AV.fn 47 [])]),.el (aI .i64 (a0.Where.length:Int)),Bt] ?_;intro h;refine X5.round ?_;simp only[Option.some.injEq,Prod.mk.injEq] at h;obtain⟨rfl,rfl⟩:=h;refine X0f [Bf] ?_;refine X5.back (by intro id h;cases h) rfl ?_;exact wkT [] (J)
 refine bI λv36 h37=>rnI [Bt,.el (AV.agg [(Lf (a0.Where.map X3)),(AV.fn 47 [])]),.el (aI .i64 (a0.Where.length:Int)),Bf,.pure _ (AV.tup [(aI .i64 v36.1),(aI .i64 v36.2)])] ?_;refine brI (λh38=>?_) λh38=>?_
 ·
  refine bI λe39 h40=>?_;try have qh40:=Xm h40
  intro h;simp only[Option.some.injEq,Prod.mk.injEq] at h;obtain⟨rfl,rfl⟩:=h;refine X0f [Bt,.el (X3 e39)] ?_;refine X5.back (by intro id h;cases h) rfl ?_;exact wkT [] (J)
 refine rnI [Bf] ?_;intro h;refine X5.round ?_;simp only[Option.some.injEq,Prod.mk.injEq] at h;obtain⟨rfl,rfl⟩:=h;refine X0f [Bf] ?_;refine X5.back (by intro id h;cases h) rfl ?_;exact wkT [] (J)⟩
instance X05y:PZ 83 (∀ (a0:Int) (r:Bool),Xb1 a0=some r->Pz 83 [(aI .i64 a0)] (aB r)):=⟨λa0 r h=>by
 refine X15.sym X2 fn83 (nt:=9) rfl rfl ?_ okM;unfold Xb1 at h;revert h;exact λe=>oj e▸X8 [] (k:=fi)⟩
end Go.Av.Tryz