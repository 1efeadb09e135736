/- Printed by decomp.py: that the program computes the functions. -/
import Derived.Test.YtomaojndejpfgaaGreatDoorDCert3Z
set_option linter.all false

namespace Go.Av.Tryz
open Go.Proofs Go.D Go.Proofs.Tryz
set_option maxRecDepth 10000
set_option maxHeartbeats 40000000
theorem Xis {Q:Qt} {μ:Mu} (X0g:(List X4)) (hl:X0g.length<=140737488355328):∀ (xs:List X4) (k:Nat) (hx:X0g.drop k=xs) (Xe:(List Bool)) (Xp:Nb Xe) (o:X55) (h:X1b X0g xs k Xe=some o)
  (C0:∀ (X00:(List Bool)) (X07:Nb X00),o=X55.x0 X00->Sx 88 Q [(0,(Lf (X0g.map X0))),(4,(AV.ptr 0 0 0))] ([(0,Ob [(slE X07.1 1 (X00.map aB))] 1)]++opE X07.1 1 1 (X00.map aB)) 2 μ)
  (C1:∀ (Xy:(List Bool)) (Xch:Int) (Xx:Nb Xy),o=X55.x1 Xy Xch->Sr 88 Q [(2,(slE Xx.1 0 (Xy.map aB))),(3,(aI .i64 Xch))] ([]++opE Xx.1 0 1 (Xy.map aB)) 1 μ),
  Sl 88 Q f111 [(0,(Lf (X0g.map X0))),(4,(AV.ptr 0 0 0)),(5,(AV.fn 154 [(AV.ptr 0 0 0)])),(12,(Lf (X0g.map X0))),(13,(aI .i64 (X0g.length:Int))),(14,(aI .i64 (k:Int)))] ([(0,Ob [(slE Xp.1 1 (Xe.map aB))] 1)]++opE Xp.1 1 1 (Xe.map aB)) 2 μ:=by
 intro xs
 induction xs with
 |nil =>
  intro k hx Xe Xp o h C0 C1;have hk:=drop_nil hx;have hc:=lpN hx;rw[X1b] at h;rcases Xp with ⟨_|_,X06⟩
  ·
   refine X7.round ?_;revert h;exact λe=>X8 [Bf] (k:=wkT [] (C0 _  nbF (oj e).symm))
  ·
   obtain rfl:=X06 rfl;refine X7.round ?_;revert h;exact λe=>X8 [Bf] (k:=wkT [] (C0 _  nbS (oj e).symm))
 |cons x xs ih =>
  intro k hx Xe Xp o h C0 C1;obtain⟨hk,hg,hx1⟩:=drop_cons hx;have hc:=lpC hx;rw[X1b] at h;rcases Xp with ⟨_|_,X06⟩
  ·
   refine X7.round ?_;revert h;refine brI (λh2524=>?_) λh2524=>?_
   ·
    refine bI λu2525 h2526=>rnI [Bt,.el (X0 x),Bt,.no] (o:=by repeat' first|apply Ya|exact pcM|(refine X1r h2526 rfl ?_;first|(simp<;>omega)|(simp[hc,h2524]<;>omega))|(refine X0p h2526 (by decide) ?_;first|(simp<;>omega)|(simp[hc,h2524]<;>omega))|exact X24) ?_;intro h;exact wkT [(1,6)] (ih (k+1) hx1 _ nbF o h C0 C1)
   refine brI (λh2533=>?_) λh2533=>?_
   ·
    refine bI λXoh h2549=>rnI [Bt,.el (X0 x),Bf,Bt,.see [(38,[4])],.stop 22] ?_;refine jnI ⟨fr [(0,(Lf (X0g.map X0))),(4,(AV.ptr 0 0 0)),(5,(AV.fn 154 [(AV.ptr 0 0 0)])),(6,(aI .i64 (k:Int))),(9,(aB false)),(12,(Lf (X0g.map X0))),(13,(aI .i64 (X0g.length:Int))),(14,(aI .i64 (k:Int))),(78,(aB Xoh))],hp ([(0,Ob [(AV.ref 1 0 (Xe.length))] 1),(1,Ob (Xe.map aB) 1)]),2⟩ h2549 ?_ λJ=>?_
    ·
     refine brI (λh2550=>λe=>X8 [Bt] (k:=wkT [] (C1 _ _  nbS (oj e).symm))) λh2550=>bI λu2551 h2552=>rnI [Bf,.no] (o:=by repeat' first|apply Ya|exact pcM|(refine X1r h2552 rfl ?_;first|(simp<;>omega)|(simp[hc,h2524,h2533,h2550]<;>omega))|(refine X0p h2552 (by decide) ?_;first|(simp<;>omega)|(simp[hc,h2524,h2533,h2550]<;>omega))|exact X24) ?_;intro h;exact wkT [(1,3)] (ih (k+1) hx1 _ nbF o h C0 C1)
    refine rnI [.ix 0,Gt,Gt,.stop 999999] ?_;intro h;refine X7.inlineG Xf Xmh rfl rfl rfl rfl rfl rfl rfl rfl rfl rfl (rfl) trivial trivial ?_;refine X0q [] ?_;refine X7.round ?_;revert h;refine bI λe2546 h2547=>?_;try have qh2547:=Xq h2547
    refine brI (λh2548=>?_) λh2548=>?_
    ·
     refine rnI [Bt,.el ((aI .i64 x.A)),.el (aB e2546),.ld (aB e2546),Bt] ?_;intro h;refine X7.back (by intro id h;cases h) rfl ?_;revert h;exact λe=>X8 [Gt,.ix 1,Gt,Gt,Gf,Gf,Gf,Gt,Gt] (k:=wJ [] J)
    refine rnI [Bt,.el ((aI .i64 x.A)),.el (aB e2546),.ld (aB e2546),Bf] ?_;refine rdI<|rnI [Bf] ?_;intro h;refine X7.back (by intro id h;cases h) rfl ?_;revert h;exact λe=>X8 [Gf,Gf,Gf,Gf,Gf,Gf,Gf,Gf] (k:=wJ [] J)
   refine brI (λh2558=>?_) λh2558=>?_
   ·
    refine bI λXog h2574=>rnI [Bt,.el (X0 x),Bf,Bf,Bt,.see [(45,[4])],.ix 0,Gf,Gf,Gf,Gt,.ix 1,Gt,Gt,Gt,Gt,.stop 999999] ?_;intro h;refine X7.joinOp (s':=⟨fr [(0,(Lf (X0g.map X0))),(4,(AV.ptr 0 0 0)),(5,(AV.fn 154 [(AV.ptr 0 0 0)])),(6,(aI .i64 (k:Int))),(9,(aB true)),(12,(Lf (X0g.map X0))),(13,(aI .i64 (X0g.length:Int))),(14,(aI .i64 (k:Int))),(69,(aB (!(bif false then false else false)))),(72,(aB true)),(75,(aB Xog))],hp ([(0,Ob [(AV.ref 1 0 (Xe.length))] 1),(1,Ob (Xe.map aB) 1)]),2⟩) ?_ (λJ=>?_)
    ·
     revert h;refine brI (λh2575=>λe=>X8 [Gt,Gt,Bt] (k:=wkT [] (C1 _ _  nbS (oj e).symm))) λh2575=>bI λu2576 h2577=>rnI [Gt,Gt,Bf,.no] (o:=by repeat' first|apply Ya|exact pcM|(refine X1r h2577 rfl ?_;first|(simp<;>omega)|(simp[hc,h2524,h2533,h2558,h2575]<;>omega))|(refine X0p h2577 (by decide) ?_;first|(simp<;>omega)|(simp[hc,h2524,h2533,h2558,h2575]<;>omega))|exact X24) ?_;intro h;exact wkT [(1,3)] (ih (k+1) hx1 _ nbF o h C0 C1)
    clear h;revert h2574;intro h;refine X7.inlineG Xf Xmh rfl rfl rfl rfl rfl rfl rfl rfl rfl rfl (rfl) trivial trivial ?_;refine X0q [] ?_;refine X7.round ?_;revert h;refine bI λe2571 h2572=>?_;try have qh2572:=Xq h2572
    refine brI (λh2573=>?_) λh2573=>?_
    ·
     intro h;obtain rfl:=oj h;refine X0q [Bt,.el ((aI .i64 x.A)),.el (aB e2571),.ld (aB e2571),Bt] ?_;refine X7.back (by intro id h;cases h) rfl ?_;exact wkT [] (J)
    refine rnI [Bt,.el ((aI .i64 x.A)),.el (aB e2571),.ld (aB e2571),Bf] ?_;refine rdI<|?_;intro h;obtain rfl:=oj h;refine X0q [Bf] ?_;refine X7.back (by intro id h;cases h) rfl ?_;exact wkT [] (J)
   refine bI λw2581 h2585=>?_;intro h;obtain⟨Xah,Xkz⟩:=w2581;try dsimp only at h
   refine X0q [Bt,.el (X0 x),Bf,Bf,Bf] ?_;revert h;refine jnI ⟨fr [(0,(Lf (X0g.map X0))),(4,(AV.ptr 0 0 0)),(5,(AV.fn 154 [(AV.ptr 0 0 0)])),(6,(aI .i64 (k:Int))),(8,(AV.ptr 2 0 0)),(9,(aB Xkz)),(10,(AV.ref 3 0 (List.length [x.A,x.B]))),(12,(Lf (X0g.map X0))),(13,(aI .i64 (X0g.length:Int))),(14,(aI .i64 (k:Int)))],hp ([(0,Ob [(AV.ref 1 0 (Xe.length))] 1),(1,Ob (Xe.map aB) 1),(2,Ob [(X8v Xah)] 2),(3,Ob (List.map (aI .i64) [x.A,x.B]) 1)]),4⟩ h2585 ?_ λJ=>brI (λh2582=>λe=>X8 [Bt] (k:=wJ [(2,3),(3,4)] J)) λh2582=>brI (λh2583=>λe=>X8 [Bf,Bt] (k:=wJ [(2,3),(3,4)] J)) λh2583=>brI (λh2584=>λe=>X8 [Bf,Bf,Bt] (k:=wJ [(2,3),(3,4)] J)) λh2584=>λe=>X8 [Bf,Bf,Bf] (k:=wJ [(2,3),(3,4)] J);refine bI λXof h3221=>rnI [.stop 22] ?_;refine jnI ⟨fr [(0,(Lf (X0g.map X0))),(4,(AV.ptr 0 0 0)),(5,(AV.fn 154 [(AV.ptr 0 0 0)])),(6,(aI .i64 (k:Int))),(9,(aB Xkz)),(12,(Lf (X0g.map X0))),(13,(aI .i64 (X0g.length:Int))),(14,(aI .i64 (k:Int))),(78,(aB Xof))],hp ([(0,Ob [(AV.ref 1 0 (Xe.length))] 1),(1,Ob (Xe.map aB) 1)]),2⟩ h3221 ?_ λJ=>?_
   ·
    refine brI (λh3222=>λe=>X8 [Bt] (k:=wkT [] (C1 _ _  nbS (oj e).symm))) λh3222=>bI λu3223 h3224=>rnI [Bf,.no] (o:=by repeat' first|apply Ya|exact pcM|(refine X1r h3224 rfl ?_;first|(simp<;>omega)|(simp[hc,h2524,h2533,h2558,h3222]<;>omega))|(refine X0p h3224 (by decide) ?_;first|(simp<;>omega)|(simp[hc,h2524,h2533,h2558,h3222]<;>omega))|exact X24) ?_;intro h;exact wkT [(1,3)] (ih (k+1) hx1 _ nbF o h C0 C1)
   refine brI (λh2904=>?_) λh2904=>?_
   ·
    refine bI λXc8 h3018=>rnI [.ix 0,Gt,Gt,.stop 999999] ?_;intro h;refine X7.joinOp (s':=⟨fr [(0,(Lf (X0g.map X0))),(4,(AV.ptr 0 0 0)),(5,(AV.fn 154 [(AV.ptr 0 0 0)])),(6,(aI .i64 (k:Int))),(8,(AV.ptr 2 0 0)),(9,(aB Xkz)),(10,(AV.ref 3 0 (List.length [x.A,x.B]))),(12,(Lf (X0g.map X0))),(13,(aI .i64 (X0g.length:Int))),(14,(aI .i64 (k:Int))),(63,(aB Xah.e0)),(66,(aB Xc8))],hp ([(0,Ob [(AV.ref 1 0 (Xe.length))] 1),(1,Ob (Xe.map aB) 1),(2,Ob [(X8v Xah)] 2),(3,Ob (List.map (aI .i64) [x.A,x.B]) 1)]),4⟩) ?_ (λJ=>?_)
    ·
     revert h;refine brI (λh3019=>?_) λh3019=>λe=>X8 [Gf,Gf,Gf,Gf,Gf,Gf,Gf,Gf] (k:=wJ [] J);refine brI (λh3020=>?_) λh3020=>λe=>X8 [Gt,.ix 1,Gt,Gt,Gf,Gf,Gf,Gt,Gt] (k:=wJ [] J);refine bI λXoe h3134=>rnI [Gt,.ix 1,Gt,Gt,Gt,Gt,.stop 999999] ?_;intro h;refine X7.joinOp (s':=⟨fr [(0,(Lf (X0g.map X0))),(4,(AV.ptr 0 0 0)),(5,(AV.fn 154 [(AV.ptr 0 0 0)])),(6,(aI .i64 (k:Int))),(9,(aB Xkz)),(12,(Lf (X0g.map X0))),(13,(aI .i64 (X0g.length:Int))),(14,(aI .i64 (k:Int))),(69,(aB (!(bif Xah.e0 then Xc8 else false)))),(72,(aB Xah.e1)),(75,(aB Xoe))],hp ([(0,Ob [(AV.ref 1 0 (Xe.length))] 1),(1,Ob (Xe.map aB) 1)]),2⟩) ?_ (λJ=>?_)
     ·
      revert h;exact λe=>X8 [Gt,Gt] (k:=wJ [] J)
     clear h;revert h3134;intro h;refine X7.inlineG Xf Xmh rfl rfl rfl rfl rfl rfl rfl rfl rfl rfl (h3020) trivial trivial ?_;revert h;refine bI λu3096 h3097=>?_;have qh3097:=X0e h3097;refine bI λo3132 h3133=>rnI [.el (aI .i64 (List.length [x.A,x.B]:Int))] ?_;intro h;refine wkT [(4,3)] (X7.cut (drA (X1a Xe [x.A,x.B] nbF qh3097) _ ?_ h3133));revert h;rcases o3132 with _|_
     ·
      refine lGI rfl ?_;intro h;try dsimp only at h
      obtain rfl:=oj h;refine X0q [] ?_;refine X7.back (by intro id h;cases h) rfl ?_;exact wkT [] (J)
     refine lGI rfl ?_;intro h;try dsimp only at h
     obtain rfl:=oj h;refine X0q [] ?_;refine X7.back (by intro id h;cases h) rfl ?_;exact wkT [] (J)
    clear h;revert h3018;intro h;refine X7.inlineG Xf Xmh rfl rfl rfl rfl rfl rfl rfl rfl rfl rfl (h2904) trivial trivial ?_;revert h;refine bI λu2980 h2981=>?_;have qh2981:=X0e h2981;refine bI λo3016 h3017=>rnI [.el (aI .i64 (List.length [x.A,x.B]:Int))] ?_;intro h;refine wkT [] (X7.cut (drA (X4h Xe Xah [x.A,x.B] nbF qh2981) _ ?_ h3017));revert h;rcases o3016 with _|_
    ·
     refine lGI rfl ?_;intro h;try dsimp only at h
     obtain rfl:=oj h;refine X0q [] ?_;refine X7.back (by intro id h;cases h) rfl ?_;exact wkT [] (J)
    refine lGI rfl ?_;intro h;try dsimp only at h
    obtain rfl:=oj h;refine X0q [] ?_;refine X7.back (by intro id h;cases h) rfl ?_;exact wkT [] (J)
   refine brI (λh3135=>?_) λh3135=>λe=>X8 [.ix 0,Gf,Gf,Gf,Gf,Gf,Gf,Gf,Gf,Gf,Gf,Gf] (k:=wJ [] J);refine brI (λh3136=>?_) λh3136=>λe=>X8 [.ix 0,Gf,Gf,Gf,Gt,.ix 1,Gt,Gt,Gf,Gf,Gf,Gt,Gt] (k:=wJ [] J);refine bI λXod h3220=>rnI [.ix 0,Gf,Gf,Gf,Gt,.ix 1,Gt,Gt,Gt,Gt,.stop 999999] ?_;intro h;refine X7.joinOp (s':=⟨fr [(0,(Lf (X0g.map X0))),(4,(AV.ptr 0 0 0)),(5,(AV.fn 154 [(AV.ptr 0 0 0)])),(6,(aI .i64 (k:Int))),(9,(aB Xkz)),(12,(Lf (X0g.map X0))),(13,(aI .i64 (X0g.length:Int))),(14,(aI .i64 (k:Int))),(69,(aB (!(bif Xah.e0 then false else false)))),(72,(aB Xah.e1)),(75,(aB Xod))],hp ([(0,Ob [(AV.ref 1 0 (Xe.length))] 1),(1,Ob (Xe.map aB) 1)]),2⟩) ?_ (λJ=>?_)
   ·
    revert h;exact λe=>X8 [Gt,Gt] (k:=wJ [] J)
   clear h;revert h3220;intro h;refine X7.inlineG Xf Xmh rfl rfl rfl rfl rfl rfl rfl rfl rfl rfl (h3136) trivial trivial ?_;revert h;refine bI λu3192 h3193=>?_;have qh3193:=X0e h3193;refine bI λo3218 h3219=>rnI [.el (aI .i64 (List.length [x.A,x.B]:Int))] ?_;intro h;refine wkT [(4,3)] (X7.cut (drA (X1a Xe [x.A,x.B] nbF qh3193) _ ?_ h3219));revert h;rcases o3218 with _|_
   ·
    refine lGI rfl ?_;intro h;try dsimp only at h
    obtain rfl:=oj h;refine X0q [] ?_;refine X7.back (by intro id h;cases h) rfl ?_;exact wkT [] (J)
   refine lGI rfl ?_;intro h;try dsimp only at h
   obtain rfl:=oj h;refine X0q [] ?_;refine X7.back (by intro id h;cases h) rfl ?_;exact wkT [] (J)
  obtain rfl:=X06 rfl;refine X7.round ?_;revert h;refine brI (λh3225=>?_) λh3225=>?_
  ·
   refine bI λu3226 h3227=>rnI [Bt,.el (X0 x),Bt,.no] (o:=by repeat' first|apply Ya|exact pcM|(refine X1r h3227 rfl ?_;first|(simp<;>omega)|(simp[hc,h3225]<;>omega))|(refine X0p h3227 (by decide) ?_;first|(simp<;>omega)|(simp[hc,h3225]<;>omega))|exact X24) ?_;intro h;exact wkT [(1,6)] (ih (k+1) hx1 _ nbF o h C0 C1)
  refine brI (λh3233=>?_) λh3233=>?_
  ·
   refine rnI [Bt,.el (X0 x),Bf,Bt,.see [(38,[4])],.ix 0,Gt,Gt,.stop 999999] ?_;intro h;refine X7.inlineG Xf Xmh rfl rfl rfl rfl rfl rfl rfl rfl rfl rfl (rfl) trivial trivial ?_;refine X0q [] ?_;refine X7.round ?_;revert h;refine bI λe3241 h3242=>?_;try have qh3242:=Xq h3242
   intro h
   first|exact absurd (h3242) (by simp[getI];done)|(simp[getI,hc,h3225,h3233] at h;done)|(simp[hc,h3225,h3233] at hg;done)|exact absurd (h3242) (by simp[getI,hc,h3225,h3233];done)
  refine brI (λh3247=>?_) λh3247=>?_
  ·
   refine rnI [Bt,.el (X0 x),Bf,Bf,Bt,.see [(45,[4])],.ix 0,Gf,Gf,Gf,Gt,.ix 1,Gt,Gt,Gt,Gt,.stop 999999] ?_;intro h;refine X7.inlineG Xf Xmh rfl rfl rfl rfl rfl rfl rfl rfl rfl rfl (rfl) trivial trivial ?_;refine X0q [] ?_;refine X7.round ?_;revert h;refine bI λe3255 h3256=>?_;try have qh3256:=Xq h3256
   intro h
   first|exact absurd (h3256) (by simp[getI];done)|(simp[getI,hc,h3225,h3233,h3247] at h;done)|(simp[hc,h3225,h3233,h3247] at hg;done)|exact absurd (h3256) (by simp[getI,hc,h3225,h3233,h3247];done)
  refine bI λw3260 h3264=>?_;intro h;obtain⟨Xag,Xky⟩:=w3260;try dsimp only at h
  refine X0q [Bt,.el (X0 x),Bf,Bf,Bf] ?_;revert h;refine jnI ⟨fr [(0,(Lf (X0g.map X0))),(4,(AV.ptr 0 0 0)),(5,(AV.fn 154 [(AV.ptr 0 0 0)])),(6,(aI .i64 (k:Int))),(8,(AV.ptr 2 0 0)),(9,(aB Xky)),(10,(AV.ref 3 0 (List.length [x.A,x.B]))),(12,(Lf (X0g.map X0))),(13,(aI .i64 (X0g.length:Int))),(14,(aI .i64 (k:Int)))],hp ([(0,Ob [AV.nils] 1),(2,Ob [(X8v Xag)] 2),(3,Ob (List.map (aI .i64) [x.A,x.B]) 1)]),4⟩ h3264 ?_ λJ=>brI (λh3261=>λe=>X8 [Bt] (k:=wJ [(2,3),(3,4)] J)) λh3261=>brI (λh3262=>λe=>X8 [Bf,Bt] (k:=wJ [(2,3),(3,4)] J)) λh3262=>brI (λh3263=>λe=>X8 [Bf,Bf,Bt] (k:=wJ [(2,3),(3,4)] J)) λh3263=>λe=>X8 [Bf,Bf,Bf] (k:=wJ [(2,3),(3,4)] J);refine bI λX05h h3780=>rnI [.stop 22] ?_;refine jnI ⟨fr [(0,(Lf (X0g.map X0))),(4,(AV.ptr 0 0 0)),(5,(AV.fn 154 [(AV.ptr 0 0 0)])),(6,(aI .i64 (k:Int))),(9,(aB Xky)),(12,(Lf (X0g.map X0))),(13,(aI .i64 (X0g.length:Int))),(14,(aI .i64 (k:Int))),(78,(aB X05h))],hp ([(0,Ob [AV.nils] 1)]),2⟩ h3780 ?_ λJ=>?_
  ·
   refine brI (λh3781=>λe=>X8 [Bt] (k:=wkT [] (C1 _ _  nbS (oj e).symm))) λh3781=>bI λu3782 h3783=>rnI [Bf,.no] (o:=by repeat' first|apply Ya|exact pcM|(refine X1r h3783 rfl ?_;first|(simp<;>omega)|(simp[hc,h3225,h3233,h3247,h3781]<;>omega))|(refine X0p h3783 (by decide) ?_;first|(simp<;>omega)|(simp[hc,h3225,h3233,h3247,h3781]<;>omega))|exact X24) ?_;intro h;exact wkT [(1,3)] (ih (k+1) hx1 _ nbF o h C0 C1)
  refine brI (λh3523=>?_) λh3523=>?_
  ·
   refine bI λXv0 h3607=>rnI [.ix 0,Gt,Gt,.stop 999999] ?_;intro h;refine X7.joinOp (s':=⟨fr [(0,(Lf (X0g.map X0))),(4,(AV.ptr 0 0 0)),(5,(AV.fn 154 [(AV.ptr 0 0 0)])),(6,(aI .i64 (k:Int))),(8,(AV.ptr 2 0 0)),(9,(aB Xky)),(10,(AV.ref 3 0 (List.length [x.A,x.B]))),(12,(Lf (X0g.map X0))),(13,(aI .i64 (X0g.length:Int))),(14,(aI .i64 (k:Int))),(63,(aB Xag.e0)),(66,(aB Xv0))],hp ([(0,Ob [AV.nils] 1),(2,Ob [(X8v Xag)] 2),(3,Ob (List.map (aI .i64) [x.A,x.B]) 1)]),4⟩) ?_ (λJ=>?_)
   ·
    revert h;refine brI (λh3608=>?_) λh3608=>λe=>X8 [Gf,Gf,Gf,Gf,Gf,Gf,Gf,Gf] (k:=wJ [] J);refine brI (λh3609=>?_) λh3609=>λe=>X8 [Gt,.ix 1,Gt,Gt,Gf,Gf,Gf,Gt,Gt] (k:=wJ [] J);refine bI λX05g h3693=>rnI [Gt,.ix 1,Gt,Gt,Gt,Gt,.stop 999999] ?_;intro h;refine X7.joinOp (s':=⟨fr [(0,(Lf (X0g.map X0))),(4,(AV.ptr 0 0 0)),(5,(AV.fn 154 [(AV.ptr 0 0 0)])),(6,(aI .i64 (k:Int))),(9,(aB Xky)),(12,(Lf (X0g.map X0))),(13,(aI .i64 (X0g.length:Int))),(14,(aI .i64 (k:Int))),(69,(aB (!(bif Xag.e0 then Xv0 else false)))),(72,(aB Xag.e1)),(75,(aB X05g))],hp ([(0,Ob [AV.nils] 1)]),2⟩) ?_ (λJ=>?_)
    ·
     revert h;exact λe=>X8 [Gt,Gt] (k:=wJ [] J)
    clear h;revert h3693;intro h;refine X7.inlineG Xf Xmh rfl rfl rfl rfl rfl rfl rfl rfl rfl rfl (h3609) trivial trivial ?_;revert h;refine bI λu3665 h3666=>?_;have qh3666:=X0e h3666;refine bI λo3691 h3692=>rnI [.el (aI .i64 (List.length [x.A,x.B]:Int))] ?_;intro h;refine wkT [(4,3)] (X7.cut (drA (X1a ([]:List Bool) [x.A,x.B] nbS qh3666) _ ?_ h3692));revert h;rcases o3691 with _|_
    ·
     refine lGI rfl ?_;intro h;try dsimp only at h
     obtain rfl:=oj h;refine X0q [] ?_;refine X7.back (by intro id h;cases h) rfl ?_;exact wkT [] (J)
    refine lGI rfl ?_;intro h;try dsimp only at h
    obtain rfl:=oj h;refine X0q [] ?_;refine X7.back (by intro id h;cases h) rfl ?_;exact wkT [] (J)
   clear h;revert h3607;intro h;refine X7.inlineG Xf Xmh rfl rfl rfl rfl rfl rfl rfl rfl rfl rfl (h3523) trivial trivial ?_;revert h;refine bI λu3579 h3580=>?_;have qh3580:=X0e h3580;refine bI λo3605 h3606=>rnI [.el (aI .i64 (List.length [x.A,x.B]:Int))] ?_;intro h;refine wkT [] (X7.cut (drA (X4h ([]:List Bool) Xag [x.A,x.B] nbS qh3580) _ ?_ h3606));revert h;rcases o3605 with _|_
   ·
    refine lGI rfl ?_;intro h;try dsimp only at h
    obtain rfl:=oj h;refine X0q [] ?_;refine X7.back (by intro id h;cases h) rfl ?_;exact wkT [] (J)
   refine lGI rfl ?_;intro h;try dsimp only at h
   obtain rfl:=oj h;refine X0q [] ?_;refine X7.back (by intro id h;cases h) rfl ?_;exact wkT [] (J)
  refine brI (λh3694=>?_) λh3694=>λe=>X8 [.ix 0,Gf,Gf,Gf,Gf,Gf,Gf,Gf,Gf,Gf,Gf,Gf] (k:=wJ [] J);refine brI (λh3695=>?_) λh3695=>λe=>X8 [.ix 0,Gf,Gf,Gf,Gt,.ix 1,Gt,Gt,Gf,Gf,Gf,Gt,Gt] (k:=wJ [] J);refine bI λX05f h3779=>rnI [.ix 0,Gf,Gf,Gf,Gt,.ix 1,Gt,Gt,Gt,Gt,.stop 999999] ?_;intro h;refine X7.joinOp (s':=⟨fr [(0,(Lf (X0g.map X0))),(4,(AV.ptr 0 0 0)),(5,(AV.fn 154 [(AV.ptr 0 0 0)])),(6,(aI .i64 (k:Int))),(9,(aB Xky)),(12,(Lf (X0g.map X0))),(13,(aI .i64 (X0g.length:Int))),(14,(aI .i64 (k:Int))),(69,(aB (!(bif Xag.e0 then false else false)))),(72,(aB Xag.e1)),(75,(aB X05f))],hp ([(0,Ob [AV.nils] 1)]),2⟩) ?_ (λJ=>?_)
  ·
   revert h;exact λe=>X8 [Gt,Gt] (k:=wJ [] J)
  clear h;revert h3779;intro h;refine X7.inlineG Xf Xmh rfl rfl rfl rfl rfl rfl rfl rfl rfl rfl (h3695) trivial trivial ?_;revert h;refine bI λu3751 h3752=>?_;have qh3752:=X0e h3752;refine bI λo3777 h3778=>rnI [.el (aI .i64 (List.length [x.A,x.B]:Int))] ?_;intro h;refine wkT [(4,3)] (X7.cut (drA (X1a ([]:List Bool) [x.A,x.B] nbS qh3752) _ ?_ h3778));revert h;rcases o3777 with _|_
  ·
   refine lGI rfl ?_;intro h;try dsimp only at h
   obtain rfl:=oj h;refine X0q [] ?_;refine X7.back (by intro id h;cases h) rfl ?_;exact wkT [] (J)
  refine lGI rfl ?_;intro h;try dsimp only at h
  obtain rfl:=oj h;refine X0q [] ?_;refine X7.back (by intro id h;cases h) rfl ?_;exact wkT [] (J)
instance X05a:PZ 111 (∀ (a0:(List X4)) (r:(List Bool)×Int),X97 a0=some r->Pz 111 [(Lf (a0.map X0))] (AV.tup [(Lt (r.1.map aB)),(aI .i64 r.2)])):=⟨λa0 r=>by
 unfold X97;refine psI X0jf 88<|bI λu1 h2=>?_;have qh2:=X0e h2;refine bI λo3784 h3785=>rnI [.el (aI .i64 (a0.length:Int))] ?_;intro h;refine wkT [] (X7.cut (Xis a0 qh2 a0 0 (by simp) _ nbS _ h3785 ?_ ?_))
 ·
  intro X00 X07 eo3784;subst eo3784;refine X7.glue ?_;try dsimp only at h
  rcases X07 with ⟨_|_,X29⟩<;>(try obtain rfl:=X29 rfl);all_goals
   revert h;exact λe=>oj e▸X8 [.el (aI .i64 (a0.length:Int))] (k:=fi)
 intro Xy Xch Xx eo3784;subst eo3784;refine X7.glue ?_;try dsimp only at h
 rcases Xx with ⟨_|_,X1o⟩<;>(try obtain rfl:=X1o rfl);all_goals
  revert h;exact λe=>oj e▸X8 [] (k:=fi)⟩
instance X0aa:PZ 71 (∀ (a0:(List X4)) (r:Bool×Int×Int),Xae a0=some r->Pz 71 [(Lf (a0.map X0))] (AV.tup [(aB r.1),(aI .i64 r.2.1),(aI .i64 r.2.2)])):=⟨λa0 r=>by
 unfold Xae;refine psI fn71 30<|bI λv1 h2=>brI (λh3=>λe=>oj e▸X8 [.pure _ (aI .i64 v1),Bt] (k:=fi)) λh3=>bI λv4 h5=>brI (λh6=>λe=>oj e▸X8 [.pure _ (aI .i64 v1),Bf,.pure _ (AV.tup [(Lt (v4.1.map aB)),(aI .i64 v4.2)]),.el (aI .i64 (a0.length:Int)),Bt] (k:=fi)) λh6=>bI λe7 h8=>?_;try have qh8:=Xq h8
 exact λe=>oj e▸X8 [.pure _ (aI .i64 v1),Bf,.pure _ (AV.tup [(Lt (v4.1.map aB)),(aI .i64 v4.2)]),.el (aI .i64 (a0.length:Int)),Bf,.wrap,.el (aB e7),.wrap] (k:=fi)⟩
instance X059:PZ 67 (∀ (a0:(List X4)) (a1:Bool) (r:Int×Int),X96 a0 a1=some r->Pz 67 [(Lf (a0.map X0)),(aB a1)] (AV.tup [(aI .i64 r.1),(aI .i64 r.2)])):=⟨λa0 a1 r=>by
 unfold X96;refine psI fn67 24<|bI λv1 h2=>bI λj4_8 h6=>rnI [.pure _ (AV.tup [(aB v1.1),(aI .i64 v1.2.1),(aI .i64 v1.2.2)])] ?_;exact jnI ⟨fr [(7,(aI .i64 v1.2.1)),(8,(aI .i64 j4_8))],hp ([]),0⟩ h6 (λe=>oj e▸X8 [] (k:=fi)) λJ=>brI (λh5=>λe=>X8 [Bt] (k:=wJ [] J)) λh5=>λe=>X8 [Bf] (k:=wJ [] J)⟩
instance X03u:PZ 37 (∀ (a0:(List X4)) (r:Int×Int),Xa0 a0=some r->Pz 37 [(Lf (a0.map X0))] (AV.tup [(aI .i64 r.1),(aI .i64 r.2)])):=⟨λa0 r=>by
 unfold Xa0;exact psI fn37 8<|bI λv1 h2=>λe=>oj e▸X8 [.pure _ (AV.tup [(aI .i64 v1.1),(aI .i64 v1.2)])] (k:=fi)⟩
instance X007:PZ 36 (∀ (a0:(List X4)) (r:Int×Int),Xaf a0=some r->Pz 36 [(Lf (a0.map X0))] (AV.tup [(aI .i64 r.1),(aI .i64 r.2)])):=⟨λa0 r=>by
 unfold Xaf;exact psI fn36 8<|bI λv1 h2=>λe=>oj e▸X8 [.pure _ (AV.tup [(aI .i64 v1.1),(aI .i64 v1.2)])] (k:=fi)⟩
instance X025:PZ 19 (∀ (a0:Xb) (r:Int×Int),X43 a0=some r->Pz 19 [(Xc false a0)] (AV.tup [(aI .i64 r.1),(aI .i64 r.2)])):=⟨λa0 r=>by
 unfold X43;refine psI fn19 20<|bI λv1 h2=>brI (λh3=>λe=>oj e▸X8 [.pure _ (aI .i64 v1),Bt] (k:=fi)) λh3=>bI λw22 h41=>?_;intro h;obtain⟨X05j,X05i⟩:=w22;try dsimp only at h
 refine X0q [.pure _ (aI .i64 v1),Bf] ?_;refine X7.joinOp (s':=⟨fr [(17,(AV.tup [(aI .i64 X05j),(aI .i64 X05i)]))],hp ([]),0⟩) ?_ (λJ=>?_)
 ·
  revert h;exact λe=>oj e▸X8 [] (k:=fi)
 clear h;revert h41;intro h;refine X7.inline Xf fn35 rfl rfl rfl rfl rfl trivial trivial rfl rfl ?_;refine X0q [] ?_;refine X7.round ?_;revert h;refine brI (λh23=>?_) λh23=>?_
 ·
  refine rnI [Bt,.el (AV.agg [(Lf (a0.Arg.map X0)),(AV.fn 36 [])]),.el (aI .i64 (a0.Arg.length:Int)),Bt] ?_;refine rdI<|brI (λh24=>?_) λh24=>?_
  ·
   refine rnI [Bt,.el (AV.agg [(Lf (a0.Where.map X0)),(AV.fn 37 [])]),.el (aI .i64 (a0.Where.length:Int)),Bt] ?_;refine rdI<|?_;intro h;cases oj h
   refine X0q [Bf] ?_;refine X7.back (by intro id h;cases h) rfl ?_;exact wkT [] (J)
  refine bI λv25 h26=>rnI [Bt,.el (AV.agg [(Lf (a0.Where.map X0)),(AV.fn 37 [])]),.el (aI .i64 (a0.Where.length:Int)),Bf,.pure _ (AV.tup [(aI .i64 v25.1),(aI .i64 v25.2)])] ?_;refine brI (λh27=>?_) λh27=>?_
  ·
   refine bI λe28 h29=>?_;try have qh29:=Xq h29
   intro h;cases oj h
   refine X0q [Bt,.el (X0 e28)] ?_;refine X7.back (by intro id h;cases h) rfl ?_;exact wkT [] (J)
  refine rnI [Bf] ?_;refine rdI<|?_;intro h;cases oj h
  refine X0q [Bf] ?_;refine X7.back (by intro id h;cases h) rfl ?_;exact wkT [] (J)
 refine bI λv30 h31=>rnI [Bt,.el (AV.agg [(Lf (a0.Arg.map X0)),(AV.fn 36 [])]),.el (aI .i64 (a0.Arg.length:Int)),Bf,.pure _ (AV.tup [(aI .i64 v30.1),(aI .i64 v30.2)])] ?_;refine brI (λh32=>?_) λh32=>?_
 ·
  refine bI λe33 h34=>?_;try have qh34:=Xq h34
  intro h;cases oj h
  refine X0q [Bt,.el (X0 e33)] ?_;refine X7.back (by intro id h;cases h) rfl ?_;exact wkT [] (J)
 refine rnI [Bf] ?_;refine rdI<|brI (λh35=>?_) λh35=>?_
 ·
  refine rnI [Bt,.el (AV.agg [(Lf (a0.Where.map X0)),(AV.fn 37 [])]),.el (aI .i64 (a0.Where.length:Int)),Bt] ?_;refine rdI<|?_;intro h;cases oj h
  refine X0q [Bf] ?_;refine X7.back (by intro id h;cases h) rfl ?_;exact wkT [] (J)
 refine bI λv36 h37=>rnI [Bt,.el (AV.agg [(Lf (a0.Where.map X0)),(AV.fn 37 [])]),.el (aI .i64 (a0.Where.length:Int)),Bf,.pure _ (AV.tup [(aI .i64 v36.1),(aI .i64 v36.2)])] ?_;refine brI (λh38=>?_) λh38=>?_
 ·
  refine bI λe39 h40=>?_;try have qh40:=Xq h40
  intro h;cases oj h
  refine X0q [Bt,.el (X0 e39)] ?_;refine X7.back (by intro id h;cases h) rfl ?_;exact wkT [] (J)
 refine rnI [Bf] ?_;refine rdI<|?_;intro h;cases oj h
 refine X0q [Bf] ?_;refine X7.back (by intro id h;cases h) rfl ?_;exact wkT [] (J)⟩
instance X07k:PZ 85 (∀ (a0:Int) (r:Bool),Xbg a0=some r->Pz 85 [(aI .i64 a0)] (aB r)):=⟨λa0 r=>by
 unfold Xbg;exact psI fn85 9 λe=>oj e▸X8 [] (k:=fi)⟩
theorem Xiq {Q:Qt} {μ:Mu} (X3c:(List Xs)) (hl:X3c.length<=140737488355328):Dr X3c λxs k=>∀ o,Lq Tryz.prog 55 0 Q μ o (fun|.x0=>(.exit 0,⟨fr [],hp ([]),0⟩)|.x1=>(.ret,⟨fr [(2,(aI .i64 8))],hp ([]),0⟩))
  (X64 0 (X1l Tryz.f53)) ⟨fr [(10,(Lf (X3c.map Xg))),(11,(aI .i64 (X3c.length:Int))),(12,(aI .i64 (k:Int)))],hp ([]),0⟩ (X48 X3c xs k):=by
 refine drI ?_ ?_
 ·
  intro k hk hc o C;rw[X48];exact rdI<|λe=>X8 [Bf] (k:=wC e C)
 ·
  intro x xs k hk hg hc ih o C;rw[X48];refine rdI<|bI λX05e h52=>rnI [Bt,.el (Xg x),.stop 6] ?_;refine jnI ⟨fr [(4,(AV.ptr 0 0 0)),(5,(aB X05e)),(10,(Lf (X3c.map Xg))),(11,(aI .i64 (X3c.length:Int))),(12,(aI .i64 (k:Int)))],hp ([(0,Ob [(Xg x)] 5)]),1⟩ h52 ?_ λJ=>brI (λh48=>bI λv49 h50=>brI (λh51=>λe=>X8 [Gt,Gt,Gt,.pure _ (aB v49),Gt,Gf,Gf,Gf,Gt] (k:=wJ [] J)) λh51=>λe=>X8 [Gt,Gt,Gt,.pure _ (aB v49),Gt,Gt,Gt,Gt,Gt] (k:=wJ [] J)) λh48=>λe=>X8 [Gf,Gf,Gf,Gf,Gf,Gf,Gf,Gf] (k:=wJ [] J);refine bI λX0ah h60=>rnI [.stop 7] ?_;exact jnI ⟨fr [(4,(AV.ptr 0 0 0)),(5,(aB X05e)),(6,(aB X0ah)),(10,(Lf (X3c.map Xg))),(11,(aI .i64 (X3c.length:Int))),(12,(aI .i64 (k:Int)))],hp ([(0,Ob [(Xg x)] 5)]),1⟩ h60 (brI (λh61=>λe=>X8 [Bt] (k:=wC e C)) λh61=>rnK [Bf] (k:=wkI [] (ih o C))) λJ=>brI (λh57=>bI λv58 h59=>λe=>X8 [Gt,Gt,Gt,Gt,.pure _ (aB v58)] (k:=wJ [] J)) λh57=>λe=>X8 [Gf,Gf,Gf,Gf] (k:=wJ [] J)
end Go.Av.Tryz