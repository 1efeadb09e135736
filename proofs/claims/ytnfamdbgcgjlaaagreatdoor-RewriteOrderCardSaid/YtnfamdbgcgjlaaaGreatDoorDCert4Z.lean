/- Printed by decomp.py: that the program computes the functions. -/
import Derived.Test.YtnfamdbgcgjlaaaGreatDoorDCert3Z
set_option linter.all false

namespace Go.Av.Tryz
open Go.Proofs Go.D
set_option maxRecDepth 10000
set_option maxHeartbeats 40000000
theorem Xdm {Q:Xi->St->Mu->Prop} {μ:Mu} (X0l:(List X1)) (hl:X0l.length<=140737488355328):∀ (xs:List X1) (k:Nat) (hx:X0l.drop k=xs) (Xg:(List Bool)) (Xp:Nb Xg) (o:X42) (h:X10 X0l xs k Xg=some o)
  (C0:∀ (X03:(List Bool)) (X0h:Nb X03),o=X42.x0 X03->X4 Tryz.prog 88 0 Q (.exit (.exit 0)) [] ⟨fr [(0,(Lf (X0l.map X0))),(4,(AV.ptr 0 0 0))],hp ([(0,Ob [(slE X0h.1 1 (X03.map aB))] 1)]++opE X0h.1 1 1 (X03.map aB)),2⟩ μ)
  (C1:∀ (X05:(List Bool)) (Xgf:Int) (X07:Nb X05),o=X42.x1 X05 Xgf->X4 Tryz.prog 88 0 Q (.exit .ret) [] ⟨fr [(2,(slE X07.1 0 (X05.map aB))),(3,(aI .i64 Xgf))],hp ([]++opE X07.1 0 1 (X05.map aB)),1⟩ μ),
  X4 Tryz.prog 88 0 Q (.loop (X7j 0 (X3 Tryz.f94))) [] ⟨fr [(0,(Lf (X0l.map X0))),(4,(AV.ptr 0 0 0)),(5,(AV.fn 124 [(AV.ptr 0 0 0)])),(12,(Lf (X0l.map X0))),(13,(aI .i64 (X0l.length:Int))),(14,(aI .i64 (k:Int)))],hp ([(0,Ob [(slE Xp.1 1 (Xg.map aB))] 1)]++opE Xp.1 1 1 (Xg.map aB)),2⟩ μ:=by
 intro xs
 induction xs with
 |nil =>
  intro k hx Xg Xp o h C0 C1;have hk:=drop_nil hx;have hc:decide ((k:Int)<(X0l.length:Int))=false:=Yf om;rw[X10] at h;rcases Xp with ⟨_|_,X0j⟩
  ·
   refine X4.round ?_;revert h;exact λe=>Xd [Bf] (k:=wkT [] (C0 _  nbF (oj e).symm))
  ·
   obtain rfl:=X0j rfl;refine X4.round ?_;revert h;exact λe=>Xd [Bf] (k:=wkT [] (C0 _  nbS (oj e).symm))
 |cons x xs ih =>
  intro k hx Xg Xp o h C0 C1;obtain⟨hk,hg,hx1⟩:=drop_cons hx;have hc:decide ((k:Int)<(X0l.length:Int))=true:=Yt om;rw[X10] at h;rcases Xp with ⟨_|_,X0j⟩
  ·
   refine X4.round ?_;revert h;refine brI (λh2524=>?_) λh2524=>?_
   ·
    refine bI λu2525 h2526=>rnI [Bt,.el (X0 x),Bt,.no] (o:=by repeat' first|apply Ya|exact pcM|(refine X20 h2526 rfl ?_;first|(simp<;>omega)|(simp[hc,h2524]<;>omega))|(refine X0p h2526 (by decide) ?_;first|(simp<;>omega)|(simp[hc,h2524]<;>omega))|exact Xu) ?_;intro h;exact wkT [(1,6)] (ih (k+1) hx1 _ nbF o h C0 C1)
   refine brI (λh2533=>?_) λh2533=>?_
   ·
    refine bI λXhn h2549=>rnI [Bt,.el (X0 x),Bf,Bt,.see [(38,[4])],.stop 22] ?_;intro h;refine X4.join (s':=⟨fr [(0,(Lf (X0l.map X0))),(4,(AV.ptr 0 0 0)),(5,(AV.fn 124 [(AV.ptr 0 0 0)])),(6,(aI .i64 (k:Int))),(9,(aB false)),(12,(Lf (X0l.map X0))),(13,(aI .i64 (X0l.length:Int))),(14,(aI .i64 (k:Int))),(78,(aB Xhn))],hp ([(0,Ob [(AV.ref 1 0 (Xg.length))] 1),(1,Ob (Xg.map aB) 1)]),2⟩) ?_ (λJ=>X4.cut ?_)
    ·
     revert h;refine brI (λh2550=>λe=>Xd [Bt] (k:=wkT [] (C1 _ _  nbS (oj e).symm))) λh2550=>?_;refine bI λu2551 h2552=>rnI [Bf,.no] (o:=by repeat' first|apply Ya|exact pcM|(refine X20 h2552 rfl ?_;first|(simp<;>omega)|(simp[hc,h2524,h2533,h2550]<;>omega))|(refine X0p h2552 (by decide) ?_;first|(simp<;>omega)|(simp[hc,h2524,h2533,h2550]<;>omega))|exact Xu) ?_;intro h;exact wkT [(1,3)] (ih (k+1) hx1 _ nbF o h C0 C1)
    clear h;revert h2549;refine rnI [.ix 0,Gt,Gt,.stop 999999] ?_;intro h;refine X4.inlineG X7 Xga rfl rfl rfl rfl rfl rfl rfl rfl rfl rfl (rfl) trivial trivial ?_;refine X34 [] ?_;refine X4.round ?_;revert h;refine bI λe2546 h2547=>?_;try have qh2547:=Xm h2547
    refine brI (λh2548=>?_) λh2548=>?_
    ·
     refine rnI [Bt,.el ((aI .i64 x.A)),.el (aB e2546),.ld (aB e2546),Bt] ?_;intro h;refine X4.back (by intro id h;cases h) rfl ?_;obtain rfl:=oj h;exact Xd [Gt,.ix 1,Gt,Gt,Gf,Gf,Gf,Gt,Gt] (k:=wkT [] (X4.glue J))
    refine rnI [Bt,.el ((aI .i64 x.A)),.el (aB e2546),.ld (aB e2546),Bf] ?_;intro h;refine X4.round ?_;refine X34 [Bf] ?_;refine X4.back (by intro id h;cases h) rfl ?_;obtain rfl:=oj h;exact Xd [Gf,Gf,Gf,Gf,Gf,Gf,Gf,Gf] (k:=wkT [] (X4.glue J))
   refine brI (λh2558=>?_) λh2558=>?_
   ·
    refine bI λXhm h2574=>rnI [Bt,.el (X0 x),Bf,Bf,Bt,.see [(45,[4])],.ix 0,Gf,Gf,Gf,Gt,.ix 1,Gt,Gt,Gt,Gt,.stop 999999] ?_;intro h;refine X4.joinOp (s':=⟨fr [(0,(Lf (X0l.map X0))),(4,(AV.ptr 0 0 0)),(5,(AV.fn 124 [(AV.ptr 0 0 0)])),(6,(aI .i64 (k:Int))),(9,(aB true)),(12,(Lf (X0l.map X0))),(13,(aI .i64 (X0l.length:Int))),(14,(aI .i64 (k:Int))),(69,(aB (!(bif false then false else false)))),(72,(aB true)),(75,(aB Xhm))],hp ([(0,Ob [(AV.ref 1 0 (Xg.length))] 1),(1,Ob (Xg.map aB) 1)]),2⟩) ?_ (λJ=>?_)
    ·
     revert h;refine brI (λh2575=>λe=>Xd [Gt,Gt,Bt] (k:=wkT [] (C1 _ _  nbS (oj e).symm))) λh2575=>?_;refine bI λu2576 h2577=>rnI [Gt,Gt,Bf,.no] (o:=by repeat' first|apply Ya|exact pcM|(refine X20 h2577 rfl ?_;first|(simp<;>omega)|(simp[hc,h2524,h2533,h2558,h2575]<;>omega))|(refine X0p h2577 (by decide) ?_;first|(simp<;>omega)|(simp[hc,h2524,h2533,h2558,h2575]<;>omega))|exact Xu) ?_;intro h;exact wkT [(1,3)] (ih (k+1) hx1 _ nbF o h C0 C1)
    clear h;revert h2574;intro h;refine X4.inlineG X7 Xga rfl rfl rfl rfl rfl rfl rfl rfl rfl rfl (rfl) trivial trivial ?_;refine X34 [] ?_;refine X4.round ?_;revert h;refine bI λe2571 h2572=>?_;try have qh2572:=Xm h2572
    refine brI (λh2573=>?_) λh2573=>?_
    ·
     intro h;obtain rfl:=oj h;refine X34 [Bt,.el ((aI .i64 x.A)),.el (aB e2571),.ld (aB e2571),Bt] ?_;refine X4.back (by intro id h;cases h) rfl ?_;exact wkT [] (J)
    refine rnI [Bt,.el ((aI .i64 x.A)),.el (aB e2571),.ld (aB e2571),Bf] ?_;intro h;refine X4.round ?_;obtain rfl:=oj h;refine X34 [Bf] ?_;refine X4.back (by intro id h;cases h) rfl ?_;exact wkT [] (J)
   refine bI λw2581 h2585=>?_;intro h;obtain⟨X7r,Xf5⟩:=w2581;try dsimp only at h
   refine X34 [Bt,.el (X0 x),Bf,Bf,Bf] ?_;refine X4.join (s':=⟨fr [(0,(Lf (X0l.map X0))),(4,(AV.ptr 0 0 0)),(5,(AV.fn 124 [(AV.ptr 0 0 0)])),(6,(aI .i64 (k:Int))),(8,(AV.ptr 2 0 0)),(9,(aB Xf5)),(10,(AV.ref 3 0 (List.length [x.A,x.B]))),(12,(Lf (X0l.map X0))),(13,(aI .i64 (X0l.length:Int))),(14,(aI .i64 (k:Int)))],hp ([(0,Ob [(AV.ref 1 0 (Xg.length))] 1),(1,Ob (Xg.map aB) 1),(2,Ob [(X6s X7r)] 2),(3,Ob (List.map (aI .i64) [x.A,x.B]) 1)]),4⟩) ?_ (λJ=>X4.cut ?_)
   ·
    revert h;refine bI λXhl h3221=>rnI [.stop 22] ?_;intro h;refine X4.join (s':=⟨fr [(0,(Lf (X0l.map X0))),(4,(AV.ptr 0 0 0)),(5,(AV.fn 124 [(AV.ptr 0 0 0)])),(6,(aI .i64 (k:Int))),(9,(aB Xf5)),(12,(Lf (X0l.map X0))),(13,(aI .i64 (X0l.length:Int))),(14,(aI .i64 (k:Int))),(78,(aB Xhl))],hp ([(0,Ob [(AV.ref 1 0 (Xg.length))] 1),(1,Ob (Xg.map aB) 1)]),2⟩) ?_ (λJ=>X4.cut ?_)
    ·
     revert h;refine brI (λh3222=>λe=>Xd [Bt] (k:=wkT [] (C1 _ _  nbS (oj e).symm))) λh3222=>?_;refine bI λu3223 h3224=>rnI [Bf,.no] (o:=by repeat' first|apply Ya|exact pcM|(refine X20 h3224 rfl ?_;first|(simp<;>omega)|(simp[hc,h2524,h2533,h2558,h3222]<;>omega))|(refine X0p h3224 (by decide) ?_;first|(simp<;>omega)|(simp[hc,h2524,h2533,h2558,h3222]<;>omega))|exact Xu) ?_;intro h;exact wkT [(1,3)] (ih (k+1) hx1 _ nbF o h C0 C1)
    clear h;revert h3221;refine brI (λh2904=>?_) λh2904=>?_
    ·
     refine bI λX91 h3018=>rnI [.ix 0,Gt,Gt,.stop 999999] ?_;intro h;refine X4.joinOp (s':=⟨fr [(0,(Lf (X0l.map X0))),(4,(AV.ptr 0 0 0)),(5,(AV.fn 124 [(AV.ptr 0 0 0)])),(6,(aI .i64 (k:Int))),(8,(AV.ptr 2 0 0)),(9,(aB Xf5)),(10,(AV.ref 3 0 (List.length [x.A,x.B]))),(12,(Lf (X0l.map X0))),(13,(aI .i64 (X0l.length:Int))),(14,(aI .i64 (k:Int))),(63,(aB X7r.e0)),(66,(aB X91))],hp ([(0,Ob [(AV.ref 1 0 (Xg.length))] 1),(1,Ob (Xg.map aB) 1),(2,Ob [(X6s X7r)] 2),(3,Ob (List.map (aI .i64) [x.A,x.B]) 1)]),4⟩) ?_ (λJ=>?_)
     ·
      revert h;refine brI (λh3019=>?_) λh3019=>?_
      ·
       refine brI (λh3020=>?_) λh3020=>?_
       ·
        refine bI λXhk h3134=>rnI [Gt,.ix 1,Gt,Gt,Gt,Gt,.stop 999999] ?_;intro h;refine X4.joinOp (s':=⟨fr [(0,(Lf (X0l.map X0))),(4,(AV.ptr 0 0 0)),(5,(AV.fn 124 [(AV.ptr 0 0 0)])),(6,(aI .i64 (k:Int))),(9,(aB Xf5)),(12,(Lf (X0l.map X0))),(13,(aI .i64 (X0l.length:Int))),(14,(aI .i64 (k:Int))),(69,(aB (!(bif X7r.e0 then X91 else false)))),(72,(aB X7r.e1)),(75,(aB Xhk))],hp ([(0,Ob [(AV.ref 1 0 (Xg.length))] 1),(1,Ob (Xg.map aB) 1)]),2⟩) ?_ (λJ=>?_)
        ·
         obtain rfl:=oj h;exact Xd [Gt,Gt] (k:=wkT [] (X4.glue J))
        clear h;revert h3134;intro h;refine X4.inlineG X7 Xga rfl rfl rfl rfl rfl rfl rfl rfl rfl rfl (h3020) trivial trivial ?_;revert h;refine bI λu3096 h3097=>?_;have qh3097:=X1x h3097;refine bI λo3132 h3133=>rnI [.el (aI .i64 (List.length [x.A,x.B]:Int))] ?_;intro h;refine wkT [(4,3)] (X4.cut (X0z Xg [x.A,x.B] nbF qh3097 [x.A,x.B] 0 (by simp) _ h3133 ?_ ?_))
        ·
         intro eo3132;subst eo3132;refine X4.glue ?_;try dsimp only at h
         obtain rfl:=oj h;refine X34 [] ?_;refine X4.back (by intro id h;cases h) rfl ?_;exact wkT [] (J)
        intro eo3132;subst eo3132;refine X4.glue ?_;try dsimp only at h
        obtain rfl:=oj h;refine X34 [] ?_;refine X4.back (by intro id h;cases h) rfl ?_;exact wkT [] (J)
       intro h;obtain rfl:=oj h;exact Xd [Gt,.ix 1,Gt,Gt,Gf,Gf,Gf,Gt,Gt] (k:=wkT [] (X4.glue J))
      intro h;obtain rfl:=oj h;exact Xd [Gf,Gf,Gf,Gf,Gf,Gf,Gf,Gf] (k:=wkT [] (X4.glue J))
     clear h;revert h3018;intro h;refine X4.inlineG X7 Xga rfl rfl rfl rfl rfl rfl rfl rfl rfl rfl (h2904) trivial trivial ?_;revert h;refine bI λu2980 h2981=>?_;have qh2981:=X1x h2981;refine bI λo3016 h3017=>rnI [.el (aI .i64 (List.length [x.A,x.B]:Int))] ?_;intro h;refine wkT [] (X4.cut (X3i Xg X7r [x.A,x.B] nbF qh2981 [x.A,x.B] 0 (by simp) _ h3017 ?_ ?_))
     ·
      intro eo3016;subst eo3016;refine X4.glue ?_;try dsimp only at h
      obtain rfl:=oj h;refine X34 [] ?_;refine X4.back (by intro id h;cases h) rfl ?_;exact wkT [] (J)
     intro eo3016;subst eo3016;refine X4.glue ?_;try dsimp only at h
     obtain rfl:=oj h;refine X34 [] ?_;refine X4.back (by intro id h;cases h) rfl ?_;exact wkT [] (J)
    refine brI (λh3135=>?_) λh3135=>?_
    ·
     refine brI (λh3136=>?_) λh3136=>?_
     ·
      refine bI λXhj h3220=>rnI [.ix 0,Gf,Gf,Gf,Gt,.ix 1,Gt,Gt,Gt,Gt,.stop 999999] ?_;intro h;refine X4.joinOp (s':=⟨fr [(0,(Lf (X0l.map X0))),(4,(AV.ptr 0 0 0)),(5,(AV.fn 124 [(AV.ptr 0 0 0)])),(6,(aI .i64 (k:Int))),(9,(aB Xf5)),(12,(Lf (X0l.map X0))),(13,(aI .i64 (X0l.length:Int))),(14,(aI .i64 (k:Int))),(69,(aB (!(bif X7r.e0 then false else false)))),(72,(aB X7r.e1)),(75,(aB Xhj))],hp ([(0,Ob [(AV.ref 1 0 (Xg.length))] 1),(1,Ob (Xg.map aB) 1)]),2⟩) ?_ (λJ=>?_)
      ·
       obtain rfl:=oj h;exact Xd [Gt,Gt] (k:=wkT [] (X4.glue J))
      clear h;revert h3220;intro h;refine X4.inlineG X7 Xga rfl rfl rfl rfl rfl rfl rfl rfl rfl rfl (h3136) trivial trivial ?_;revert h;refine bI λu3192 h3193=>?_;have qh3193:=X1x h3193;refine bI λo3218 h3219=>rnI [.el (aI .i64 (List.length [x.A,x.B]:Int))] ?_;intro h;refine wkT [(4,3)] (X4.cut (X0z Xg [x.A,x.B] nbF qh3193 [x.A,x.B] 0 (by simp) _ h3219 ?_ ?_))
      ·
       intro eo3218;subst eo3218;refine X4.glue ?_;try dsimp only at h
       obtain rfl:=oj h;refine X34 [] ?_;refine X4.back (by intro id h;cases h) rfl ?_;exact wkT [] (J)
      intro eo3218;subst eo3218;refine X4.glue ?_;try dsimp only at h
      obtain rfl:=oj h;refine X34 [] ?_;refine X4.back (by intro id h;cases h) rfl ?_;exact wkT [] (J)
     intro h;obtain rfl:=oj h;exact Xd [.ix 0,Gf,Gf,Gf,Gt,.ix 1,Gt,Gt,Gf,Gf,Gf,Gt,Gt] (k:=wkT [] (X4.glue J))
    intro h;obtain rfl:=oj h;exact Xd [.ix 0,Gf,Gf,Gf,Gf,Gf,Gf,Gf,Gf,Gf,Gf,Gf] (k:=wkT [] (X4.glue J))
   clear h;revert h2585;refine brI (λh2582=>?_) λh2582=>?_
   ·
    intro h;simp only[Option.some.injEq,Prod.mk.injEq] at h;obtain⟨rfl,rfl⟩:=h;exact Xd [Bt] (k:=wkT [(2,3),(3,4)] (X4.glue J))
   refine brI (λh2583=>?_) λh2583=>?_
   ·
    intro h;simp only[Option.some.injEq,Prod.mk.injEq] at h;obtain⟨rfl,rfl⟩:=h;exact Xd [Bf,Bt] (k:=wkT [(2,3),(3,4)] (X4.glue J))
   refine brI (λh2584=>?_) λh2584=>?_
   ·
    intro h;simp only[Option.some.injEq,Prod.mk.injEq] at h;obtain⟨rfl,rfl⟩:=h;exact Xd [Bf,Bf,Bt] (k:=wkT [(2,3),(3,4)] (X4.glue J))
   intro h;simp only[Option.some.injEq,Prod.mk.injEq] at h;obtain⟨rfl,rfl⟩:=h;exact Xd [Bf,Bf,Bf] (k:=wkT [(2,3),(3,4)] (X4.glue J))
  obtain rfl:=X0j rfl;refine X4.round ?_;revert h;refine brI (λh3225=>?_) λh3225=>?_
  ·
   refine bI λu3226 h3227=>rnI [Bt,.el (X0 x),Bt,.no] (o:=by repeat' first|apply Ya|exact pcM|(refine X20 h3227 rfl ?_;first|(simp<;>omega)|(simp[hc,h3225]<;>omega))|(refine X0p h3227 (by decide) ?_;first|(simp<;>omega)|(simp[hc,h3225]<;>omega))|exact Xu) ?_;intro h;exact wkT [(1,6)] (ih (k+1) hx1 _ nbF o h C0 C1)
  refine brI (λh3233=>?_) λh3233=>?_
  ·
   refine rnI [Bt,.el (X0 x),Bf,Bt,.see [(38,[4])],.ix 0,Gt,Gt,.stop 999999] ?_;intro h;refine X4.inlineG X7 Xga rfl rfl rfl rfl rfl rfl rfl rfl rfl rfl (rfl) trivial trivial ?_;refine X34 [] ?_;refine X4.round ?_;revert h;refine bI λe3241 h3242=>?_;try have qh3242:=Xm h3242
   intro h
   first|exact absurd (h3242) (by simp[getI];done)|(simp[getI,hc,h3225,h3233] at h;done)|(simp[hc,h3225,h3233] at hg;done)|exact absurd (h3242) (by simp[getI,hc,h3225,h3233];done)
  refine brI (λh3247=>?_) λh3247=>?_
  ·
   refine rnI [Bt,.el (X0 x),Bf,Bf,Bt,.see [(45,[4])],.ix 0,Gf,Gf,Gf,Gt,.ix 1,Gt,Gt,Gt,Gt,.stop 999999] ?_;intro h;refine X4.inlineG X7 Xga rfl rfl rfl rfl rfl rfl rfl rfl rfl rfl (rfl) trivial trivial ?_;refine X34 [] ?_;refine X4.round ?_;revert h;refine bI λe3255 h3256=>?_;try have qh3256:=Xm h3256
   intro h
   first|exact absurd (h3256) (by simp[getI];done)|(simp[getI,hc,h3225,h3233,h3247] at h;done)|(simp[hc,h3225,h3233,h3247] at hg;done)|exact absurd (h3256) (by simp[getI,hc,h3225,h3233,h3247];done)
  refine bI λw3260 h3264=>?_;intro h;obtain⟨X7q,Xf4⟩:=w3260;try dsimp only at h
  refine X34 [Bt,.el (X0 x),Bf,Bf,Bf] ?_;refine X4.join (s':=⟨fr [(0,(Lf (X0l.map X0))),(4,(AV.ptr 0 0 0)),(5,(AV.fn 124 [(AV.ptr 0 0 0)])),(6,(aI .i64 (k:Int))),(8,(AV.ptr 2 0 0)),(9,(aB Xf4)),(10,(AV.ref 3 0 (List.length [x.A,x.B]))),(12,(Lf (X0l.map X0))),(13,(aI .i64 (X0l.length:Int))),(14,(aI .i64 (k:Int)))],hp ([(0,Ob [AV.nils] 1),(2,Ob [(X6s X7q)] 2),(3,Ob (List.map (aI .i64) [x.A,x.B]) 1)]),4⟩) ?_ (λJ=>X4.cut ?_)
  ·
   revert h;refine bI λXt2 h3780=>rnI [.stop 22] ?_;intro h;refine X4.join (s':=⟨fr [(0,(Lf (X0l.map X0))),(4,(AV.ptr 0 0 0)),(5,(AV.fn 124 [(AV.ptr 0 0 0)])),(6,(aI .i64 (k:Int))),(9,(aB Xf4)),(12,(Lf (X0l.map X0))),(13,(aI .i64 (X0l.length:Int))),(14,(aI .i64 (k:Int))),(78,(aB Xt2))],hp ([(0,Ob [AV.nils] 1)]),2⟩) ?_ (λJ=>X4.cut ?_)
   ·
    revert h;refine brI (λh3781=>λe=>Xd [Bt] (k:=wkT [] (C1 _ _  nbS (oj e).symm))) λh3781=>?_;refine bI λu3782 h3783=>rnI [Bf,.no] (o:=by repeat' first|apply Ya|exact pcM|(refine X20 h3783 rfl ?_;first|(simp<;>omega)|(simp[hc,h3225,h3233,h3247,h3781]<;>omega))|(refine X0p h3783 (by decide) ?_;first|(simp<;>omega)|(simp[hc,h3225,h3233,h3247,h3781]<;>omega))|exact Xu) ?_;intro h;exact wkT [(1,3)] (ih (k+1) hx1 _ nbF o h C0 C1)
   clear h;revert h3780;refine brI (λh3523=>?_) λh3523=>?_
   ·
    refine bI λXlg h3607=>rnI [.ix 0,Gt,Gt,.stop 999999] ?_;intro h;refine X4.joinOp (s':=⟨fr [(0,(Lf (X0l.map X0))),(4,(AV.ptr 0 0 0)),(5,(AV.fn 124 [(AV.ptr 0 0 0)])),(6,(aI .i64 (k:Int))),(8,(AV.ptr 2 0 0)),(9,(aB Xf4)),(10,(AV.ref 3 0 (List.length [x.A,x.B]))),(12,(Lf (X0l.map X0))),(13,(aI .i64 (X0l.length:Int))),(14,(aI .i64 (k:Int))),(63,(aB X7q.e0)),(66,(aB Xlg))],hp ([(0,Ob [AV.nils] 1),(2,Ob [(X6s X7q)] 2),(3,Ob (List.map (aI .i64) [x.A,x.B]) 1)]),4⟩) ?_ (λJ=>?_)
    ·
     revert h;refine brI (λh3608=>?_) λh3608=>?_
     ·
      refine brI (λh3609=>?_) λh3609=>?_
      ·
       refine bI λXt1 h3693=>rnI [Gt,.ix 1,Gt,Gt,Gt,Gt,.stop 999999] ?_;intro h;refine X4.joinOp (s':=⟨fr [(0,(Lf (X0l.map X0))),(4,(AV.ptr 0 0 0)),(5,(AV.fn 124 [(AV.ptr 0 0 0)])),(6,(aI .i64 (k:Int))),(9,(aB Xf4)),(12,(Lf (X0l.map X0))),(13,(aI .i64 (X0l.length:Int))),(14,(aI .i64 (k:Int))),(69,(aB (!(bif X7q.e0 then Xlg else false)))),(72,(aB X7q.e1)),(75,(aB Xt1))],hp ([(0,Ob [AV.nils] 1)]),2⟩) ?_ (λJ=>?_)
       ·
        obtain rfl:=oj h;exact Xd [Gt,Gt] (k:=wkT [] (X4.glue J))
       clear h;revert h3693;intro h;refine X4.inlineG X7 Xga rfl rfl rfl rfl rfl rfl rfl rfl rfl rfl (h3609) trivial trivial ?_;revert h;refine bI λu3665 h3666=>?_;have qh3666:=X1x h3666;refine bI λo3691 h3692=>rnI [.el (aI .i64 (List.length [x.A,x.B]:Int))] ?_;intro h;refine wkT [(4,3)] (X4.cut (X0z ([]:List Bool) [x.A,x.B] nbS qh3666 [x.A,x.B] 0 (by simp) _ h3692 ?_ ?_))
       ·
        intro eo3691;subst eo3691;refine X4.glue ?_;try dsimp only at h
        obtain rfl:=oj h;refine X34 [] ?_;refine X4.back (by intro id h;cases h) rfl ?_;exact wkT [] (J)
       intro eo3691;subst eo3691;refine X4.glue ?_;try dsimp only at h
       obtain rfl:=oj h;refine X34 [] ?_;refine X4.back (by intro id h;cases h) rfl ?_;exact wkT [] (J)
      intro h;obtain rfl:=oj h;exact Xd [Gt,.ix 1,Gt,Gt,Gf,Gf,Gf,Gt,Gt] (k:=wkT [] (X4.glue J))
     intro h;obtain rfl:=oj h;exact Xd [Gf,Gf,Gf,Gf,Gf,Gf,Gf,Gf] (k:=wkT [] (X4.glue J))
    clear h;revert h3607;intro h;refine X4.inlineG X7 Xga rfl rfl rfl rfl rfl rfl rfl rfl rfl rfl (h3523) trivial trivial ?_;revert h;refine bI λu3579 h3580=>?_;have qh3580:=X1x h3580;refine bI λo3605 h3606=>rnI [.el (aI .i64 (List.length [x.A,x.B]:Int))] ?_;intro h;refine wkT [] (X4.cut (X3i ([]:List Bool) X7q [x.A,x.B] nbS qh3580 [x.A,x.B] 0 (by simp) _ h3606 ?_ ?_))
    ·
     intro eo3605;subst eo3605;refine X4.glue ?_;try dsimp only at h
     obtain rfl:=oj h;refine X34 [] ?_;refine X4.back (by intro id h;cases h) rfl ?_;exact wkT [] (J)
    intro eo3605;subst eo3605;refine X4.glue ?_;try dsimp only at h
    obtain rfl:=oj h;refine X34 [] ?_;refine X4.back (by intro id h;cases h) rfl ?_;exact wkT [] (J)
   refine brI (λh3694=>?_) λh3694=>?_
   ·
    refine brI (λh3695=>?_) λh3695=>?_
    ·
     refine bI λXt0 h3779=>rnI [.ix 0,Gf,Gf,Gf,Gt,.ix 1,Gt,Gt,Gt,Gt,.stop 999999] ?_;intro h;refine X4.joinOp (s':=⟨fr [(0,(Lf (X0l.map X0))),(4,(AV.ptr 0 0 0)),(5,(AV.fn 124 [(AV.ptr 0 0 0)])),(6,(aI .i64 (k:Int))),(9,(aB Xf4)),(12,(Lf (X0l.map X0))),(13,(aI .i64 (X0l.length:Int))),(14,(aI .i64 (k:Int))),(69,(aB (!(bif X7q.e0 then false else false)))),(72,(aB X7q.e1)),(75,(aB Xt0))],hp ([(0,Ob [AV.nils] 1)]),2⟩) ?_ (λJ=>?_)
     ·
      obtain rfl:=oj h;exact Xd [Gt,Gt] (k:=wkT [] (X4.glue J))
     clear h;revert h3779;intro h;refine X4.inlineG X7 Xga rfl rfl rfl rfl rfl rfl rfl rfl rfl rfl (h3695) trivial trivial ?_;revert h;refine bI λu3751 h3752=>?_;have qh3752:=X1x h3752;refine bI λo3777 h3778=>rnI [.el (aI .i64 (List.length [x.A,x.B]:Int))] ?_;intro h;refine wkT [(4,3)] (X4.cut (X0z ([]:List Bool) [x.A,x.B] nbS qh3752 [x.A,x.B] 0 (by simp) _ h3778 ?_ ?_))
     ·
      intro eo3777;subst eo3777;refine X4.glue ?_;try dsimp only at h
      obtain rfl:=oj h;refine X34 [] ?_;refine X4.back (by intro id h;cases h) rfl ?_;exact wkT [] (J)
     intro eo3777;subst eo3777;refine X4.glue ?_;try dsimp only at h
     obtain rfl:=oj h;refine X34 [] ?_;refine X4.back (by intro id h;cases h) rfl ?_;exact wkT [] (J)
    intro h;obtain rfl:=oj h;exact Xd [.ix 0,Gf,Gf,Gf,Gt,.ix 1,Gt,Gt,Gf,Gf,Gf,Gt,Gt] (k:=wkT [] (X4.glue J))
   intro h;obtain rfl:=oj h;exact Xd [.ix 0,Gf,Gf,Gf,Gf,Gf,Gf,Gf,Gf,Gf,Gf,Gf] (k:=wkT [] (X4.glue J))
  clear h;revert h3264;refine brI (λh3261=>?_) λh3261=>?_
  ·
   intro h;simp only[Option.some.injEq,Prod.mk.injEq] at h;obtain⟨rfl,rfl⟩:=h;exact Xd [Bt] (k:=wkT [(2,3),(3,4)] (X4.glue J))
  refine brI (λh3262=>?_) λh3262=>?_
  ·
   intro h;simp only[Option.some.injEq,Prod.mk.injEq] at h;obtain⟨rfl,rfl⟩:=h;exact Xd [Bf,Bt] (k:=wkT [(2,3),(3,4)] (X4.glue J))
  refine brI (λh3263=>?_) λh3263=>?_
  ·
   intro h;simp only[Option.some.injEq,Prod.mk.injEq] at h;obtain⟨rfl,rfl⟩:=h;exact Xd [Bf,Bf,Bt] (k:=wkT [(2,3),(3,4)] (X4.glue J))
  intro h;simp only[Option.some.injEq,Prod.mk.injEq] at h;obtain⟨rfl,rfl⟩:=h;exact Xd [Bf,Bf,Bf] (k:=wkT [(2,3),(3,4)] (X4.glue J))
instance Xsy:PCs Tryz.prog 94 (∀ (a0:(List X1)) (r:(List Bool)×Int),X6y a0=some r->X06 Tryz.prog 94 [(Lf (a0.map X0))] (AV.tup [(Lt (r.1.map aB)),(aI .i64 r.2)])):=⟨λa0 r h=>by
 refine X06.sym X7 fn94 (nt:=88) rfl rfl ?_ okM;unfold X6y at h;revert h;refine bI λu1 h2=>?_;have qh2:=X1x h2;refine bI λo3784 h3785=>rnI [.el (aI .i64 (a0.length:Int))] ?_;intro h;refine wkT [] (X4.cut (Xdm a0 qh2 a0 0 (by simp) _ nbS _ h3785 ?_ ?_))
 ·
  intro X03 X0h eo3784;subst eo3784;refine X4.glue ?_;try dsimp only at h
  rcases X0h with ⟨_|_,X36⟩<;>(try obtain rfl:=X36 rfl);all_goals
   revert h;exact λe=>oj e▸Xd [.el (aI .i64 (a0.length:Int))] (k:=fi)
 intro X05 Xgf X07 eo3784;subst eo3784;refine X4.glue ?_;try dsimp only at h
 rcases X07 with ⟨_|_,X35⟩<;>(try obtain rfl:=X35 rfl);all_goals
  revert h;exact λe=>oj e▸Xd [] (k:=fi)⟩
instance Xxf:PCs Tryz.prog 65 (∀ (a0:(List X1)) (r:Bool×Int×Int),X7o a0=some r->X06 Tryz.prog 65 [(Lf (a0.map X0))] (AV.tup [(aB r.1),(aI .i64 r.2.1),(aI .i64 r.2.2)])):=⟨λa0 r h=>by
 refine X06.sym X7 fn65 (nt:=30) rfl rfl ?_ okM;unfold X7o at h;revert h;refine bI λv1 h2=>brI (λh3=>λe=>oj e▸Xd [.pure _ (aI .i64 v1),Bt] (k:=fi)) λh3=>bI λv4 h5=>brI (λh6=>λe=>oj e▸Xd [.pure _ (aI .i64 v1),Bf,.pure _ (AV.tup [(Lt (v4.1.map aB)),(aI .i64 v4.2)]),.el (aI .i64 (a0.length:Int)),Bt] (k:=fi)) λh6=>bI λe7 h8=>?_;try have qh8:=Xm h8
 exact λe=>oj e▸Xd [.pure _ (aI .i64 v1),Bf,.pure _ (AV.tup [(Lt (v4.1.map aB)),(aI .i64 v4.2)]),.el (aI .i64 (a0.length:Int)),Bf,.wrap,.el (aB e7),.wrap] (k:=fi)⟩
instance Xsx:PCs Tryz.prog 61 (∀ (a0:(List X1)) (a1:Bool) (r:Int×Int),X6x a0 a1=some r->X06 Tryz.prog 61 [(Lf (a0.map X0)),(aB a1)] (AV.tup [(aI .i64 r.1),(aI .i64 r.2)])):=⟨λa0 a1 r h=>by
 refine X06.sym X7 fn61 (nt:=24) rfl rfl ?_ okM;unfold X6x at h;revert h;refine bI λv1 h2=>bI λj4_8 h6=>rnI [.pure _ (AV.tup [(aB v1.1),(aI .i64 v1.2.1),(aI .i64 v1.2.2)])] ?_;intro h;refine X4.join (s':=⟨fr [(7,(aI .i64 v1.2.1)),(8,(aI .i64 j4_8))],hp ([]),0⟩) ?_ (λJ=>X4.cut ?_)
 ·
  revert h;exact λe=>oj e▸Xd [] (k:=fi)
 clear h;revert h6;refine brI (λh5=>?_) λh5=>?_
 ·
  intro h;obtain rfl:=oj h;exact Xd [Bt] (k:=wkT [] (X4.glue J))
 intro h;obtain rfl:=oj h;exact Xd [Bf] (k:=wkT [] (X4.glue J))⟩
instance Xrn:PCs Tryz.prog 34 (∀ (a0:(List X1)) (r:Int×Int),X7a a0=some r->X06 Tryz.prog 34 [(Lf (a0.map X0))] (AV.tup [(aI .i64 r.1),(aI .i64 r.2)])):=⟨λa0 r h=>by
 refine X06.sym X7 fn34 (nt:=8) rfl rfl ?_ okM;unfold X7a at h;revert h;exact bI λv1 h2=>λe=>oj e▸Xd [.pure _ (AV.tup [(aI .i64 v1.1),(aI .i64 v1.2)])] (k:=fi)⟩
instance Xot:PCs Tryz.prog 33 (∀ (a0:(List X1)) (r:Int×Int),X7p a0=some r->X06 Tryz.prog 33 [(Lf (a0.map X0))] (AV.tup [(aI .i64 r.1),(aI .i64 r.2)])):=⟨λa0 r h=>by
 refine X06.sym X7 fn33 (nt:=8) rfl rfl ?_ okM;unfold X7p at h;revert h;exact bI λv1 h2=>λe=>oj e▸Xd [.pure _ (AV.tup [(aI .i64 v1.1),(aI .i64 v1.2)])] (k:=fi)⟩
end Go.Av.Tryz