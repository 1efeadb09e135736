/- Printed by decomp.py: that the program computes the functions. -/
import Derived.Test.YtednehploaffcaaGreatDoorDCert3Z
set_option linter.all false

namespace Go.Av.Tryz
open Go.Proofs Go.D Go.Proofs.Tryz
set_option maxRecDepth 10000
set_option maxHeartbeats 40000000
theorem Xj0 {Q:Qt} {μ:Mu} (X0f:(List X1)) (hl:X0f.length<=140737488355328):∀ (xs:List X1) (k:Nat) (hx:X0f.drop k=xs) (Xc:(List Bool)) (X00:Nb Xc) (o:X57) (h:X1s X0f xs k Xc=some o)
  (C0:∀ (X0j:(List Bool)) (X10:Nb X0j),o=X57.x0 X0j->Sx 88 Q [(0,(Lf (X0f.map X0))),(4,(AV.ptr 0 0 0))] ([(0,Ob [(slE X10.1 1 (X0j.map aB))] 1)]++opE X10.1 1 1 (X0j.map aB)) 2 μ)
  (C1:∀ (X0e:(List Bool)) (Xml:Int) (X0g:Nb X0e),o=X57.x1 X0e Xml->Sr 88 Q [(2,(slE X0g.1 0 (X0e.map aB))),(3,(aI .i64 Xml))] ([]++opE X0g.1 0 1 (X0e.map aB)) 1 μ),
  Sl 88 Q f114 [(0,(Lf (X0f.map X0))),(4,(AV.ptr 0 0 0)),(5,(AV.fn 141 [(AV.ptr 0 0 0)])),(12,(Lf (X0f.map X0))),(13,(aI .i64 (X0f.length:Int))),(14,(aI .i64 (k:Int)))] ([(0,Ob [(slE X00.1 1 (Xc.map aB))] 1)]++opE X00.1 1 1 (Xc.map aB)) 2 μ:=by
 intro xs
 induction xs with
 |nil =>
  intro k hx Xc X00 o h C0 C1;have hk:=drop_nil hx;have hc:=lpN hx;rw[X1s] at h;rcases X00 with ⟨_|_,X12⟩
  ·
   refine X9.round ?_;revert h;exact λe=>X8 [Bf] (k:=wkT [] (C0 _  nbF (oj e).symm))
  ·
   obtain rfl:=X12 rfl;refine X9.round ?_;revert h;exact λe=>X8 [Bf] (k:=wkT [] (C0 _  nbS (oj e).symm))
 |cons x xs ih =>
  intro k hx Xc X00 o h C0 C1;obtain⟨hk,hg,hx1⟩:=drop_cons hx;have hc:=lpC hx;rw[X1s] at h;rcases X00 with ⟨_|_,X12⟩
  ·
   refine X9.round ?_;revert h;refine brI (λh2524=>?_) λh2524=>?_
   ·
    refine bI λu2525 h2526=>rnI [Bt,.el (X0 x),Bt,.no] (o:=by repeat' first|apply Ya|exact pcM|(refine X14 h2526 rfl ?_;first|(simp<;>omega)|(simp[hc,h2524]<;>omega))|(refine X03 h2526 (by decide) ?_;first|(simp<;>omega)|(simp[hc,h2524]<;>omega))|exact X0y) ?_;intro h;exact wkT [(1,6)] (ih (k+1) hx1 _ nbF o h C0 C1)
   refine brI (λh2533=>?_) λh2533=>?_
   ·
    refine bI λXof h2549=>rnI [Bt,.el (X0 x),Bf,Bt,.see [(38,[4])],.stop 22] ?_;refine jnI ⟨fr [(0,(Lf (X0f.map X0))),(4,(AV.ptr 0 0 0)),(5,(AV.fn 141 [(AV.ptr 0 0 0)])),(6,(aI .i64 (k:Int))),(9,(aB false)),(12,(Lf (X0f.map X0))),(13,(aI .i64 (X0f.length:Int))),(14,(aI .i64 (k:Int))),(78,(aB Xof))],hp ([(0,Ob [(AV.ref 1 0 (Xc.length))] 1),(1,Ob (Xc.map aB) 1)]),2⟩ h2549 ?_ λJ=>?_
    ·
     refine brI (λh2550=>λe=>X8 [Bt] (k:=wkT [] (C1 _ _  nbS (oj e).symm))) λh2550=>bI λu2551 h2552=>rnI [Bf,.no] (o:=by repeat' first|apply Ya|exact pcM|(refine X14 h2552 rfl ?_;first|(simp<;>omega)|(simp[hc,h2524,h2533,h2550]<;>omega))|(refine X03 h2552 (by decide) ?_;first|(simp<;>omega)|(simp[hc,h2524,h2533,h2550]<;>omega))|exact X0y) ?_;intro h;exact wkT [(1,3)] (ih (k+1) hx1 _ nbF o h C0 C1)
    refine rnI [.ix 0,Gt,Gt,.stop 999999] ?_;intro h;refine X9.inlineG Xh Xme rfl rfl rfl rfl rfl rfl rfl rfl rfl rfl (rfl) trivial trivial ?_;refine X1j [] ?_;refine X9.round ?_;revert h;refine bI λe2546 h2547=>?_;try have qh2547:=Xo h2547
    refine brI (λh2548=>?_) λh2548=>?_
    ·
     refine rnI [Bt,.el ((aI .i64 x.A)),.el (aB e2546),.ld (aB e2546),Bt] ?_;intro h;refine X9.back (by intro id h;cases h) rfl ?_;revert h;exact λe=>X8 [Gt,.ix 1,Gt,Gt,Gf,Gf,Gf,Gt,Gt] (k:=wJ [] J)
    refine rnI [Bt,.el ((aI .i64 x.A)),.el (aB e2546),.ld (aB e2546),Bf] ?_;refine rdI<|rnI [Bf] ?_;intro h;refine X9.back (by intro id h;cases h) rfl ?_;revert h;exact λe=>X8 [Gf,Gf,Gf,Gf,Gf,Gf,Gf,Gf] (k:=wJ [] J)
   refine brI (λh2558=>?_) λh2558=>?_
   ·
    refine bI λXoe h2574=>rnI [Bt,.el (X0 x),Bf,Bf,Bt,.see [(45,[4])],.ix 0,Gf,Gf,Gf,Gt,.ix 1,Gt,Gt,Gt,Gt,.stop 999999] ?_;intro h;refine X9.joinOp (s':=⟨fr [(0,(Lf (X0f.map X0))),(4,(AV.ptr 0 0 0)),(5,(AV.fn 141 [(AV.ptr 0 0 0)])),(6,(aI .i64 (k:Int))),(9,(aB true)),(12,(Lf (X0f.map X0))),(13,(aI .i64 (X0f.length:Int))),(14,(aI .i64 (k:Int))),(69,(aB (!(bif false then false else false)))),(72,(aB true)),(75,(aB Xoe))],hp ([(0,Ob [(AV.ref 1 0 (Xc.length))] 1),(1,Ob (Xc.map aB) 1)]),2⟩) ?_ (λJ=>?_)
    ·
     revert h;refine brI (λh2575=>λe=>X8 [Gt,Gt,Bt] (k:=wkT [] (C1 _ _  nbS (oj e).symm))) λh2575=>bI λu2576 h2577=>rnI [Gt,Gt,Bf,.no] (o:=by repeat' first|apply Ya|exact pcM|(refine X14 h2577 rfl ?_;first|(simp<;>omega)|(simp[hc,h2524,h2533,h2558,h2575]<;>omega))|(refine X03 h2577 (by decide) ?_;first|(simp<;>omega)|(simp[hc,h2524,h2533,h2558,h2575]<;>omega))|exact X0y) ?_;intro h;exact wkT [(1,3)] (ih (k+1) hx1 _ nbF o h C0 C1)
    clear h;revert h2574;intro h;refine X9.inlineG Xh Xme rfl rfl rfl rfl rfl rfl rfl rfl rfl rfl (rfl) trivial trivial ?_;refine X1j [] ?_;refine X9.round ?_;revert h;refine bI λe2571 h2572=>?_;try have qh2572:=Xo h2572
    refine brI (λh2573=>?_) λh2573=>?_
    ·
     intro h;obtain rfl:=oj h;refine X1j [Bt,.el ((aI .i64 x.A)),.el (aB e2571),.ld (aB e2571),Bt] ?_;refine X9.back (by intro id h;cases h) rfl ?_;exact wkT [] (J)
    refine rnI [Bt,.el ((aI .i64 x.A)),.el (aB e2571),.ld (aB e2571),Bf] ?_;refine rdI<|?_;intro h;obtain rfl:=oj h;refine X1j [Bf] ?_;refine X9.back (by intro id h;cases h) rfl ?_;exact wkT [] (J)
   refine bI λw2581 h2585=>?_;intro h;obtain⟨Xar,Xl1⟩:=w2581;try dsimp only at h
   refine X1j [Bt,.el (X0 x),Bf,Bf,Bf] ?_;revert h;refine jnI ⟨fr [(0,(Lf (X0f.map X0))),(4,(AV.ptr 0 0 0)),(5,(AV.fn 141 [(AV.ptr 0 0 0)])),(6,(aI .i64 (k:Int))),(8,(AV.ptr 2 0 0)),(9,(aB Xl1)),(10,(AV.ref 3 0 (List.length [x.A,x.B]))),(12,(Lf (X0f.map X0))),(13,(aI .i64 (X0f.length:Int))),(14,(aI .i64 (k:Int)))],hp ([(0,Ob [(AV.ref 1 0 (Xc.length))] 1),(1,Ob (Xc.map aB) 1),(2,Ob [(X9b Xar)] 2),(3,Ob (List.map (aI .i64) [x.A,x.B]) 1)]),4⟩ h2585 ?_ λJ=>brI (λh2582=>λe=>X8 [Bt] (k:=wJ [(2,3),(3,4)] J)) λh2582=>brI (λh2583=>λe=>X8 [Bf,Bt] (k:=wJ [(2,3),(3,4)] J)) λh2583=>brI (λh2584=>λe=>X8 [Bf,Bf,Bt] (k:=wJ [(2,3),(3,4)] J)) λh2584=>λe=>X8 [Bf,Bf,Bf] (k:=wJ [(2,3),(3,4)] J);refine bI λXoc h3221=>rnI [.stop 22] ?_;refine jnI ⟨fr [(0,(Lf (X0f.map X0))),(4,(AV.ptr 0 0 0)),(5,(AV.fn 141 [(AV.ptr 0 0 0)])),(6,(aI .i64 (k:Int))),(9,(aB Xl1)),(12,(Lf (X0f.map X0))),(13,(aI .i64 (X0f.length:Int))),(14,(aI .i64 (k:Int))),(78,(aB Xoc))],hp ([(0,Ob [(AV.ref 1 0 (Xc.length))] 1),(1,Ob (Xc.map aB) 1)]),2⟩ h3221 ?_ λJ=>?_
   ·
    refine brI (λh3222=>λe=>X8 [Bt] (k:=wkT [] (C1 _ _  nbS (oj e).symm))) λh3222=>bI λu3223 h3224=>rnI [Bf,.no] (o:=by repeat' first|apply Ya|exact pcM|(refine X14 h3224 rfl ?_;first|(simp<;>omega)|(simp[hc,h2524,h2533,h2558,h3222]<;>omega))|(refine X03 h3224 (by decide) ?_;first|(simp<;>omega)|(simp[hc,h2524,h2533,h2558,h3222]<;>omega))|exact X0y) ?_;intro h;exact wkT [(1,3)] (ih (k+1) hx1 _ nbF o h C0 C1)
   refine brI (λh2904=>?_) λh2904=>?_
   ·
    refine bI λXcf h3018=>rnI [.ix 0,Gt,Gt,.stop 999999] ?_;intro h;refine X9.joinOp (s':=⟨fr [(0,(Lf (X0f.map X0))),(4,(AV.ptr 0 0 0)),(5,(AV.fn 141 [(AV.ptr 0 0 0)])),(6,(aI .i64 (k:Int))),(8,(AV.ptr 2 0 0)),(9,(aB Xl1)),(10,(AV.ref 3 0 (List.length [x.A,x.B]))),(12,(Lf (X0f.map X0))),(13,(aI .i64 (X0f.length:Int))),(14,(aI .i64 (k:Int))),(63,(aB Xar.e0)),(66,(aB Xcf))],hp ([(0,Ob [(AV.ref 1 0 (Xc.length))] 1),(1,Ob (Xc.map aB) 1),(2,Ob [(X9b Xar)] 2),(3,Ob (List.map (aI .i64) [x.A,x.B]) 1)]),4⟩) ?_ (λJ=>?_)
    ·
     revert h;refine brI (λh3019=>?_) λh3019=>λe=>X8 [Gf,Gf,Gf,Gf,Gf,Gf,Gf,Gf] (k:=wJ [] J);refine brI (λh3020=>?_) λh3020=>λe=>X8 [Gt,.ix 1,Gt,Gt,Gf,Gf,Gf,Gt,Gt] (k:=wJ [] J);refine bI λXob h3134=>rnI [Gt,.ix 1,Gt,Gt,Gt,Gt,.stop 999999] ?_;intro h;refine X9.joinOp (s':=⟨fr [(0,(Lf (X0f.map X0))),(4,(AV.ptr 0 0 0)),(5,(AV.fn 141 [(AV.ptr 0 0 0)])),(6,(aI .i64 (k:Int))),(9,(aB Xl1)),(12,(Lf (X0f.map X0))),(13,(aI .i64 (X0f.length:Int))),(14,(aI .i64 (k:Int))),(69,(aB (!(bif Xar.e0 then Xcf else false)))),(72,(aB Xar.e1)),(75,(aB Xob))],hp ([(0,Ob [(AV.ref 1 0 (Xc.length))] 1),(1,Ob (Xc.map aB) 1)]),2⟩) ?_ (λJ=>?_)
     ·
      revert h;exact λe=>X8 [Gt,Gt] (k:=wJ [] J)
     clear h;revert h3134;intro h;refine X9.inlineG Xh Xme rfl rfl rfl rfl rfl rfl rfl rfl rfl rfl (h3020) trivial trivial ?_;revert h;refine bI λu3096 h3097=>?_;have qh3097:=X1b h3097;refine bI λo3132 h3133=>rnI [.el (aI .i64 (List.length [x.A,x.B]:Int))] ?_;intro h;refine wkT [(4,3)] (X9.cut (drA (X1r Xc [x.A,x.B] nbF qh3097) _ ?_ h3133));revert h;rcases o3132 with _|_
     ·
      refine lGI rfl ?_;intro h;try dsimp only at h
      obtain rfl:=oj h;refine X1j [] ?_;refine X9.back (by intro id h;cases h) rfl ?_;exact wkT [] (J)
     refine lGI rfl ?_;intro h;try dsimp only at h
     obtain rfl:=oj h;refine X1j [] ?_;refine X9.back (by intro id h;cases h) rfl ?_;exact wkT [] (J)
    clear h;revert h3018;intro h;refine X9.inlineG Xh Xme rfl rfl rfl rfl rfl rfl rfl rfl rfl rfl (h2904) trivial trivial ?_;revert h;refine bI λu2980 h2981=>?_;have qh2981:=X1b h2981;refine bI λo3016 h3017=>rnI [.el (aI .i64 (List.length [x.A,x.B]:Int))] ?_;intro h;refine wkT [] (X9.cut (drA (X4t Xc Xar [x.A,x.B] nbF qh2981) _ ?_ h3017));revert h;rcases o3016 with _|_
    ·
     refine lGI rfl ?_;intro h;try dsimp only at h
     obtain rfl:=oj h;refine X1j [] ?_;refine X9.back (by intro id h;cases h) rfl ?_;exact wkT [] (J)
    refine lGI rfl ?_;intro h;try dsimp only at h
    obtain rfl:=oj h;refine X1j [] ?_;refine X9.back (by intro id h;cases h) rfl ?_;exact wkT [] (J)
   refine brI (λh3135=>?_) λh3135=>λe=>X8 [.ix 0,Gf,Gf,Gf,Gf,Gf,Gf,Gf,Gf,Gf,Gf,Gf] (k:=wJ [] J);refine brI (λh3136=>?_) λh3136=>λe=>X8 [.ix 0,Gf,Gf,Gf,Gt,.ix 1,Gt,Gt,Gf,Gf,Gf,Gt,Gt] (k:=wJ [] J);refine bI λXoa h3220=>rnI [.ix 0,Gf,Gf,Gf,Gt,.ix 1,Gt,Gt,Gt,Gt,.stop 999999] ?_;intro h;refine X9.joinOp (s':=⟨fr [(0,(Lf (X0f.map X0))),(4,(AV.ptr 0 0 0)),(5,(AV.fn 141 [(AV.ptr 0 0 0)])),(6,(aI .i64 (k:Int))),(9,(aB Xl1)),(12,(Lf (X0f.map X0))),(13,(aI .i64 (X0f.length:Int))),(14,(aI .i64 (k:Int))),(69,(aB (!(bif Xar.e0 then false else false)))),(72,(aB Xar.e1)),(75,(aB Xoa))],hp ([(0,Ob [(AV.ref 1 0 (Xc.length))] 1),(1,Ob (Xc.map aB) 1)]),2⟩) ?_ (λJ=>?_)
   ·
    revert h;exact λe=>X8 [Gt,Gt] (k:=wJ [] J)
   clear h;revert h3220;intro h;refine X9.inlineG Xh Xme rfl rfl rfl rfl rfl rfl rfl rfl rfl rfl (h3136) trivial trivial ?_;revert h;refine bI λu3192 h3193=>?_;have qh3193:=X1b h3193;refine bI λo3218 h3219=>rnI [.el (aI .i64 (List.length [x.A,x.B]:Int))] ?_;intro h;refine wkT [(4,3)] (X9.cut (drA (X1r Xc [x.A,x.B] nbF qh3193) _ ?_ h3219));revert h;rcases o3218 with _|_
   ·
    refine lGI rfl ?_;intro h;try dsimp only at h
    obtain rfl:=oj h;refine X1j [] ?_;refine X9.back (by intro id h;cases h) rfl ?_;exact wkT [] (J)
   refine lGI rfl ?_;intro h;try dsimp only at h
   obtain rfl:=oj h;refine X1j [] ?_;refine X9.back (by intro id h;cases h) rfl ?_;exact wkT [] (J)
  obtain rfl:=X12 rfl;refine X9.round ?_;revert h;refine brI (λh3225=>?_) λh3225=>?_
  ·
   refine bI λu3226 h3227=>rnI [Bt,.el (X0 x),Bt,.no] (o:=by repeat' first|apply Ya|exact pcM|(refine X14 h3227 rfl ?_;first|(simp<;>omega)|(simp[hc,h3225]<;>omega))|(refine X03 h3227 (by decide) ?_;first|(simp<;>omega)|(simp[hc,h3225]<;>omega))|exact X0y) ?_;intro h;exact wkT [(1,6)] (ih (k+1) hx1 _ nbF o h C0 C1)
  refine brI (λh3233=>?_) λh3233=>?_
  ·
   refine rnI [Bt,.el (X0 x),Bf,Bt,.see [(38,[4])],.ix 0,Gt,Gt,.stop 999999] ?_;intro h;refine X9.inlineG Xh Xme rfl rfl rfl rfl rfl rfl rfl rfl rfl rfl (rfl) trivial trivial ?_;refine X1j [] ?_;refine X9.round ?_;revert h;refine bI λe3241 h3242=>?_;try have qh3242:=Xo h3242
   intro h
   first|exact absurd (h3242) (by simp[getI];done)|(simp[getI,hc,h3225,h3233] at h;done)|(simp[hc,h3225,h3233] at hg;done)|exact absurd (h3242) (by simp[getI,hc,h3225,h3233];done)
  refine brI (λh3247=>?_) λh3247=>?_
  ·
   refine rnI [Bt,.el (X0 x),Bf,Bf,Bt,.see [(45,[4])],.ix 0,Gf,Gf,Gf,Gt,.ix 1,Gt,Gt,Gt,Gt,.stop 999999] ?_;intro h;refine X9.inlineG Xh Xme rfl rfl rfl rfl rfl rfl rfl rfl rfl rfl (rfl) trivial trivial ?_;refine X1j [] ?_;refine X9.round ?_;revert h;refine bI λe3255 h3256=>?_;try have qh3256:=Xo h3256
   intro h
   first|exact absurd (h3256) (by simp[getI];done)|(simp[getI,hc,h3225,h3233,h3247] at h;done)|(simp[hc,h3225,h3233,h3247] at hg;done)|exact absurd (h3256) (by simp[getI,hc,h3225,h3233,h3247];done)
  refine bI λw3260 h3264=>?_;intro h;obtain⟨Xaq,Xl0⟩:=w3260;try dsimp only at h
  refine X1j [Bt,.el (X0 x),Bf,Bf,Bf] ?_;revert h;refine jnI ⟨fr [(0,(Lf (X0f.map X0))),(4,(AV.ptr 0 0 0)),(5,(AV.fn 141 [(AV.ptr 0 0 0)])),(6,(aI .i64 (k:Int))),(8,(AV.ptr 2 0 0)),(9,(aB Xl0)),(10,(AV.ref 3 0 (List.length [x.A,x.B]))),(12,(Lf (X0f.map X0))),(13,(aI .i64 (X0f.length:Int))),(14,(aI .i64 (k:Int)))],hp ([(0,Ob [AV.nils] 1),(2,Ob [(X9b Xaq)] 2),(3,Ob (List.map (aI .i64) [x.A,x.B]) 1)]),4⟩ h3264 ?_ λJ=>brI (λh3261=>λe=>X8 [Bt] (k:=wJ [(2,3),(3,4)] J)) λh3261=>brI (λh3262=>λe=>X8 [Bf,Bt] (k:=wJ [(2,3),(3,4)] J)) λh3262=>brI (λh3263=>λe=>X8 [Bf,Bf,Bt] (k:=wJ [(2,3),(3,4)] J)) λh3263=>λe=>X8 [Bf,Bf,Bf] (k:=wJ [(2,3),(3,4)] J);refine bI λX025 h3780=>rnI [.stop 22] ?_;refine jnI ⟨fr [(0,(Lf (X0f.map X0))),(4,(AV.ptr 0 0 0)),(5,(AV.fn 141 [(AV.ptr 0 0 0)])),(6,(aI .i64 (k:Int))),(9,(aB Xl0)),(12,(Lf (X0f.map X0))),(13,(aI .i64 (X0f.length:Int))),(14,(aI .i64 (k:Int))),(78,(aB X025))],hp ([(0,Ob [AV.nils] 1)]),2⟩ h3780 ?_ λJ=>?_
  ·
   refine brI (λh3781=>λe=>X8 [Bt] (k:=wkT [] (C1 _ _  nbS (oj e).symm))) λh3781=>bI λu3782 h3783=>rnI [Bf,.no] (o:=by repeat' first|apply Ya|exact pcM|(refine X14 h3783 rfl ?_;first|(simp<;>omega)|(simp[hc,h3225,h3233,h3247,h3781]<;>omega))|(refine X03 h3783 (by decide) ?_;first|(simp<;>omega)|(simp[hc,h3225,h3233,h3247,h3781]<;>omega))|exact X0y) ?_;intro h;exact wkT [(1,3)] (ih (k+1) hx1 _ nbF o h C0 C1)
  refine brI (λh3523=>?_) λh3523=>?_
  ·
   refine bI λXt8 h3607=>rnI [.ix 0,Gt,Gt,.stop 999999] ?_;intro h;refine X9.joinOp (s':=⟨fr [(0,(Lf (X0f.map X0))),(4,(AV.ptr 0 0 0)),(5,(AV.fn 141 [(AV.ptr 0 0 0)])),(6,(aI .i64 (k:Int))),(8,(AV.ptr 2 0 0)),(9,(aB Xl0)),(10,(AV.ref 3 0 (List.length [x.A,x.B]))),(12,(Lf (X0f.map X0))),(13,(aI .i64 (X0f.length:Int))),(14,(aI .i64 (k:Int))),(63,(aB Xaq.e0)),(66,(aB Xt8))],hp ([(0,Ob [AV.nils] 1),(2,Ob [(X9b Xaq)] 2),(3,Ob (List.map (aI .i64) [x.A,x.B]) 1)]),4⟩) ?_ (λJ=>?_)
   ·
    revert h;refine brI (λh3608=>?_) λh3608=>λe=>X8 [Gf,Gf,Gf,Gf,Gf,Gf,Gf,Gf] (k:=wJ [] J);refine brI (λh3609=>?_) λh3609=>λe=>X8 [Gt,.ix 1,Gt,Gt,Gf,Gf,Gf,Gt,Gt] (k:=wJ [] J);refine bI λX024 h3693=>rnI [Gt,.ix 1,Gt,Gt,Gt,Gt,.stop 999999] ?_;intro h;refine X9.joinOp (s':=⟨fr [(0,(Lf (X0f.map X0))),(4,(AV.ptr 0 0 0)),(5,(AV.fn 141 [(AV.ptr 0 0 0)])),(6,(aI .i64 (k:Int))),(9,(aB Xl0)),(12,(Lf (X0f.map X0))),(13,(aI .i64 (X0f.length:Int))),(14,(aI .i64 (k:Int))),(69,(aB (!(bif Xaq.e0 then Xt8 else false)))),(72,(aB Xaq.e1)),(75,(aB X024))],hp ([(0,Ob [AV.nils] 1)]),2⟩) ?_ (λJ=>?_)
    ·
     revert h;exact λe=>X8 [Gt,Gt] (k:=wJ [] J)
    clear h;revert h3693;intro h;refine X9.inlineG Xh Xme rfl rfl rfl rfl rfl rfl rfl rfl rfl rfl (h3609) trivial trivial ?_;revert h;refine bI λu3665 h3666=>?_;have qh3666:=X1b h3666;refine bI λo3691 h3692=>rnI [.el (aI .i64 (List.length [x.A,x.B]:Int))] ?_;intro h;refine wkT [(4,3)] (X9.cut (drA (X1r ([]:List Bool) [x.A,x.B] nbS qh3666) _ ?_ h3692));revert h;rcases o3691 with _|_
    ·
     refine lGI rfl ?_;intro h;try dsimp only at h
     obtain rfl:=oj h;refine X1j [] ?_;refine X9.back (by intro id h;cases h) rfl ?_;exact wkT [] (J)
    refine lGI rfl ?_;intro h;try dsimp only at h
    obtain rfl:=oj h;refine X1j [] ?_;refine X9.back (by intro id h;cases h) rfl ?_;exact wkT [] (J)
   clear h;revert h3607;intro h;refine X9.inlineG Xh Xme rfl rfl rfl rfl rfl rfl rfl rfl rfl rfl (h3523) trivial trivial ?_;revert h;refine bI λu3579 h3580=>?_;have qh3580:=X1b h3580;refine bI λo3605 h3606=>rnI [.el (aI .i64 (List.length [x.A,x.B]:Int))] ?_;intro h;refine wkT [] (X9.cut (drA (X4t ([]:List Bool) Xaq [x.A,x.B] nbS qh3580) _ ?_ h3606));revert h;rcases o3605 with _|_
   ·
    refine lGI rfl ?_;intro h;try dsimp only at h
    obtain rfl:=oj h;refine X1j [] ?_;refine X9.back (by intro id h;cases h) rfl ?_;exact wkT [] (J)
   refine lGI rfl ?_;intro h;try dsimp only at h
   obtain rfl:=oj h;refine X1j [] ?_;refine X9.back (by intro id h;cases h) rfl ?_;exact wkT [] (J)
  refine brI (λh3694=>?_) λh3694=>λe=>X8 [.ix 0,Gf,Gf,Gf,Gf,Gf,Gf,Gf,Gf,Gf,Gf,Gf] (k:=wJ [] J);refine brI (λh3695=>?_) λh3695=>λe=>X8 [.ix 0,Gf,Gf,Gf,Gt,.ix 1,Gt,Gt,Gf,Gf,Gf,Gt,Gt] (k:=wJ [] J);refine bI λX023 h3779=>rnI [.ix 0,Gf,Gf,Gf,Gt,.ix 1,Gt,Gt,Gt,Gt,.stop 999999] ?_;intro h;refine X9.joinOp (s':=⟨fr [(0,(Lf (X0f.map X0))),(4,(AV.ptr 0 0 0)),(5,(AV.fn 141 [(AV.ptr 0 0 0)])),(6,(aI .i64 (k:Int))),(9,(aB Xl0)),(12,(Lf (X0f.map X0))),(13,(aI .i64 (X0f.length:Int))),(14,(aI .i64 (k:Int))),(69,(aB (!(bif Xaq.e0 then false else false)))),(72,(aB Xaq.e1)),(75,(aB X023))],hp ([(0,Ob [AV.nils] 1)]),2⟩) ?_ (λJ=>?_)
  ·
   revert h;exact λe=>X8 [Gt,Gt] (k:=wJ [] J)
  clear h;revert h3779;intro h;refine X9.inlineG Xh Xme rfl rfl rfl rfl rfl rfl rfl rfl rfl rfl (h3695) trivial trivial ?_;revert h;refine bI λu3751 h3752=>?_;have qh3752:=X1b h3752;refine bI λo3777 h3778=>rnI [.el (aI .i64 (List.length [x.A,x.B]:Int))] ?_;intro h;refine wkT [(4,3)] (X9.cut (drA (X1r ([]:List Bool) [x.A,x.B] nbS qh3752) _ ?_ h3778));revert h;rcases o3777 with _|_
  ·
   refine lGI rfl ?_;intro h;try dsimp only at h
   obtain rfl:=oj h;refine X1j [] ?_;refine X9.back (by intro id h;cases h) rfl ?_;exact wkT [] (J)
  refine lGI rfl ?_;intro h;try dsimp only at h
  obtain rfl:=oj h;refine X1j [] ?_;refine X9.back (by intro id h;cases h) rfl ?_;exact wkT [] (J)
instance X020:PZ 114 (∀ (a0:(List X1)) (r:(List Bool)×Int),X9l a0=some r->Pz 114 [(Lf (a0.map X0))] (AV.tup [(Lt (r.1.map aB)),(aI .i64 r.2)])):=⟨λa0 r=>by
 unfold X9l;refine psI X0fn 88<|bI λu1 h2=>?_;have qh2:=X1b h2;refine bI λo3784 h3785=>rnI [.el (aI .i64 (a0.length:Int))] ?_;intro h;refine wkT [] (X9.cut (Xj0 a0 qh2 a0 0 (by simp) _ nbS _ h3785 ?_ ?_))
 ·
  intro X0j X10 eo3784;subst eo3784;refine X9.glue ?_;try dsimp only at h
  rcases X10 with ⟨_|_,X46⟩<;>(try obtain rfl:=X46 rfl);all_goals
   revert h;exact λe=>oj e▸X8 [.el (aI .i64 (a0.length:Int))] (k:=fi)
 intro X0e Xml X0g eo3784;subst eo3784;refine X9.glue ?_;try dsimp only at h
 rcases X0g with ⟨_|_,X45⟩<;>(try obtain rfl:=X45 rfl);all_goals
  revert h;exact λe=>oj e▸X8 [] (k:=fi)⟩
instance X06r:PZ 86 (∀ (a0:(List X1)) (r:Bool×Int×Int),Xao a0=some r->Pz 86 [(Lf (a0.map X0))] (AV.tup [(aB r.1),(aI .i64 r.2.1),(aI .i64 r.2.2)])):=⟨λa0 r=>by
 unfold Xao;refine psI fn86 30<|bI λv1 h2=>brI (λh3=>λe=>oj e▸X8 [.pure _ (aI .i64 v1),Bt] (k:=fi)) λh3=>bI λv4 h5=>brI (λh6=>λe=>oj e▸X8 [.pure _ (aI .i64 v1),Bf,.pure _ (AV.tup [(Lt (v4.1.map aB)),(aI .i64 v4.2)]),.el (aI .i64 (a0.length:Int)),Bt] (k:=fi)) λh6=>bI λe7 h8=>?_;try have qh8:=Xo h8
 exact λe=>oj e▸X8 [.pure _ (aI .i64 v1),Bf,.pure _ (AV.tup [(Lt (v4.1.map aB)),(aI .i64 v4.2)]),.el (aI .i64 (a0.length:Int)),Bf,.wrap,.el (aB e7),.wrap] (k:=fi)⟩
instance X01z:PZ 71 (∀ (a0:(List X1)) (a1:Bool) (r:Int×Int),X9k a0 a1=some r->Pz 71 [(Lf (a0.map X0)),(aB a1)] (AV.tup [(aI .i64 r.1),(aI .i64 r.2)])):=⟨λa0 a1 r=>by
 unfold X9k;refine psI fn71 24<|bI λv1 h2=>bI λj4_8 h6=>rnI [.pure _ (AV.tup [(aB v1.1),(aI .i64 v1.2.1),(aI .i64 v1.2.2)])] ?_;exact jnI ⟨fr [(7,(aI .i64 v1.2.1)),(8,(aI .i64 j4_8))],hp ([]),0⟩ h6 (λe=>oj e▸X8 [] (k:=fi)) λJ=>brI (λh5=>λe=>X8 [Bt] (k:=wJ [] J)) λh5=>λe=>X8 [Bf] (k:=wJ [] J)⟩
instance X00c:PZ 44 (∀ (a0:(List X1)) (r:Int×Int),Xa7 a0=some r->Pz 44 [(Lf (a0.map X0))] (AV.tup [(aI .i64 r.1),(aI .i64 r.2)])):=⟨λa0 r=>by
 unfold Xa7;exact psI fn44 8<|bI λv1 h2=>λe=>oj e▸X8 [.pure _ (AV.tup [(aI .i64 v1.1),(aI .i64 v1.2)])] (k:=fi)⟩
instance Xxi:PZ 43 (∀ (a0:(List X1)) (r:Int×Int),Xap a0=some r->Pz 43 [(Lf (a0.map X0))] (AV.tup [(aI .i64 r.1),(aI .i64 r.2)])):=⟨λa0 r=>by
 unfold Xap;exact psI fn43 8<|bI λv1 h2=>λe=>oj e▸X8 [.pure _ (AV.tup [(aI .i64 v1.1),(aI .i64 v1.2)])] (k:=fi)⟩
instance Xz0:PZ 14 (∀ (a0:X6) (r:Int×Int),X1n a0=some r->Pz 14 [(Xa false a0)] (AV.tup [(aI .i64 r.1),(aI .i64 r.2)])):=⟨λa0 r=>by
 unfold X1n;refine psI fn14 20<|bI λv1 h2=>brI (λh3=>λe=>oj e▸X8 [.pure _ (aI .i64 v1),Bt] (k:=fi)) λh3=>bI λw22 h41=>?_;intro h;obtain⟨X027,X026⟩:=w22;try dsimp only at h
 refine X1j [.pure _ (aI .i64 v1),Bf] ?_;refine X9.joinOp (s':=⟨fr [(17,(AV.tup [(aI .i64 X027),(aI .i64 X026)]))],hp ([]),0⟩) ?_ (λJ=>?_)
 ·
  revert h;exact λe=>oj e▸X8 [] (k:=fi)
 clear h;revert h41;intro h;refine X9.inline Xh fn42 rfl rfl rfl rfl rfl trivial trivial rfl rfl ?_;refine X1j [] ?_;refine X9.round ?_;revert h;refine brI (λh23=>?_) λh23=>?_
 ·
  refine rnI [Bt,.el (AV.agg [(Lf (a0.Arg.map X0)),(AV.fn 43 [])]),.el (aI .i64 (a0.Arg.length:Int)),Bt] ?_;refine rdI<|brI (λh24=>?_) λh24=>?_
  ·
   refine rnI [Bt,.el (AV.agg [(Lf (a0.Where.map X0)),(AV.fn 44 [])]),.el (aI .i64 (a0.Where.length:Int)),Bt] ?_;refine rdI<|?_;intro h;simp only[Option.some.injEq,Prod.mk.injEq] at h;obtain⟨rfl,rfl⟩:=h;refine X1j [Bf] ?_;refine X9.back (by intro id h;cases h) rfl ?_;exact wkT [] (J)
  refine bI λv25 h26=>rnI [Bt,.el (AV.agg [(Lf (a0.Where.map X0)),(AV.fn 44 [])]),.el (aI .i64 (a0.Where.length:Int)),Bf,.pure _ (AV.tup [(aI .i64 v25.1),(aI .i64 v25.2)])] ?_;refine brI (λh27=>?_) λh27=>?_
  ·
   refine bI λe28 h29=>?_;try have qh29:=Xo h29
   intro h;simp only[Option.some.injEq,Prod.mk.injEq] at h;obtain⟨rfl,rfl⟩:=h;refine X1j [Bt,.el (X0 e28)] ?_;refine X9.back (by intro id h;cases h) rfl ?_;exact wkT [] (J)
  refine rnI [Bf] ?_;refine rdI<|?_;intro h;simp only[Option.some.injEq,Prod.mk.injEq] at h;obtain⟨rfl,rfl⟩:=h;refine X1j [Bf] ?_;refine X9.back (by intro id h;cases h) rfl ?_;exact wkT [] (J)
 refine bI λv30 h31=>rnI [Bt,.el (AV.agg [(Lf (a0.Arg.map X0)),(AV.fn 43 [])]),.el (aI .i64 (a0.Arg.length:Int)),Bf,.pure _ (AV.tup [(aI .i64 v30.1),(aI .i64 v30.2)])] ?_;refine brI (λh32=>?_) λh32=>?_
 ·
  refine bI λe33 h34=>?_;try have qh34:=Xo h34
  intro h;simp only[Option.some.injEq,Prod.mk.injEq] at h;obtain⟨rfl,rfl⟩:=h;refine X1j [Bt,.el (X0 e33)] ?_;refine X9.back (by intro id h;cases h) rfl ?_;exact wkT [] (J)
 refine rnI [Bf] ?_;refine rdI<|brI (λh35=>?_) λh35=>?_
 ·
  refine rnI [Bt,.el (AV.agg [(Lf (a0.Where.map X0)),(AV.fn 44 [])]),.el (aI .i64 (a0.Where.length:Int)),Bt] ?_;refine rdI<|?_;intro h;simp only[Option.some.injEq,Prod.mk.injEq] at h;obtain⟨rfl,rfl⟩:=h;refine X1j [Bf] ?_;refine X9.back (by intro id h;cases h) rfl ?_;exact wkT [] (J)
 refine bI λv36 h37=>rnI [Bt,.el (AV.agg [(Lf (a0.Where.map X0)),(AV.fn 44 [])]),.el (aI .i64 (a0.Where.length:Int)),Bf,.pure _ (AV.tup [(aI .i64 v36.1),(aI .i64 v36.2)])] ?_;refine brI (λh38=>?_) λh38=>?_
 ·
  refine bI λe39 h40=>?_;try have qh40:=Xo h40
  intro h;simp only[Option.some.injEq,Prod.mk.injEq] at h;obtain⟨rfl,rfl⟩:=h;refine X1j [Bt,.el (X0 e39)] ?_;refine X9.back (by intro id h;cases h) rfl ?_;exact wkT [] (J)
 refine rnI [Bf] ?_;refine rdI<|?_;intro h;simp only[Option.some.injEq,Prod.mk.injEq] at h;obtain⟨rfl,rfl⟩:=h;refine X1j [Bf] ?_;refine X9.back (by intro id h;cases h) rfl ?_;exact wkT [] (J)⟩
theorem Xx4 {P:Prop} (h:P:=by repeat' first|apply Ya|exact pcM|(refine X14 h5 rfl ?_;first|(simp<;>omega)|(simp[h1]<;>omega))|(refine X03 h5 (by decide) ?_;first|(simp<;>omega)|(simp[h1]<;>omega))|exact X0y):P:=h
instance Xlt:PZ 19 (∀ (a0:(List X1)) (r:(List X1)),X0i a0=some r->Pz 19 [(Lf (a0.map X0))] (Lt (r.map X0))):=⟨λa0 r=>by
 unfold X0i;refine psI fn19 8<|brI (λq=>?_) λq=>?_
 ·
  intro h;have h1:a0=[]:=List.isEmpty_iff.1 q;refine X1j [] ?_;refine X9.eqNil Xh (may:=true) rfl rfl rfl rfl rfl rfl trivial (by simp[X6y, *]) λb2 qb2=>?_;cases b2
  ·
   revert h;exact λe=>oj e▸X8 [Bf,.ne false] (k:=fi)
  revert h;exact λe=>oj e▸X8 [Bt] (k:=fi)
 intro h;have h1:¬ (a0=[]):=(λe=>by rw[e] at q;cases q);refine X1j [] ?_;refine X9.eqNil Xh (may:=false) rfl rfl rfl rfl rfl rfl trivial (by simp[X6y, *]) λb3 qb3=>?_;obtain rfl:=qb3 rfl;revert h;exact bI λu4 h5=>λe=>oj e▸X8 [Bf,.via (Lt (a0.map X0))] (o:=Xx4) (k:=fi)⟩
instance Xnv:PZ 20 (∀ (a0:(List Int)) (r:(List Int)),X1u a0=some r->Pz 20 [(Lf (List.map (aI .i64) a0))] (Lt (List.map (aI .i64) r))):=⟨λa0 r=>by
 unfold X1u;refine psI fn20 8<|brI (λq=>?_) λq=>?_
 ·
  intro h;have h1:a0=[]:=List.isEmpty_iff.1 q;refine X1j [] ?_;refine X9.eqNil Xh (may:=true) rfl rfl rfl rfl rfl rfl trivial (by simp[X6y, *]) λb2 qb2=>?_;cases b2
  ·
   revert h;exact λe=>oj e▸X8 [Bf,.ne false] (k:=fi)
  revert h;exact λe=>oj e▸X8 [Bt] (k:=fi)
 intro h;have h1:¬ (a0=[]):=(λe=>by rw[e] at q;cases q);refine X1j [] ?_;refine X9.eqNil Xh (may:=false) rfl rfl rfl rfl rfl rfl trivial (by simp[X6y, *]) λb3 qb3=>?_;obtain rfl:=qb3 rfl;revert h;exact bI λu4 h5=>λe=>oj e▸X8 [Bf,.via (Lt (List.map (aI .i64) a0))] (o:=Xx4) (k:=fi)⟩
end Go.Av.Tryz