/- Printed by decomp.py: that the program computes the functions. -/
import Derived.Test.YtdpeaabenapeaaaGreatDCert8Z
set_option linter.all false

namespace Go.Av.Tryz
open Go.Proofs Go.D
set_option maxRecDepth 10000
set_option maxHeartbeats 40000000
theorem Xe9 {Q:Xx->St->Mu->Prop} {μ:Mu} (Xb:Xt) (X8n:(List (List Xa))) (hl:X8n.length<=140737488355328):∀ (xs:List (List Xa)) (k:Nat) (hx:X8n.drop k=xs) (X39:(List X5)) (Xc:(List X9)) (Xp:Nb Xc) (o:X5f) (h:X1y Xb X8n xs k X39 Xc=some o)
  (C0:∀ (X61:(List X5)) (X09:(List X9)) (X0h:Nb X09),o=X5f.x0 X61 X09->X2 Tryz.prog 119 0 Q (.exit (.exit 0)) [] ⟨fr [(2,(AV.ptr 0 0 0)),(10,(Lt (X61.map X3))),(11,(slE X0h.1 1 (X09.map X1)))],hp ([(0,Ob [(Xk false Xb)] 10)]++opE X0h.1 1 3 (X09.map X1)),2⟩ μ)
  (C1:∀ (X00:(List X52)) (X4c:(List X9)) (Xi4:Int) (Xy:Nb X00) (X4u:Nb X4c),o=X5f.x1 X00 X4c Xi4->X2 Tryz.prog 119 0 Q (.exit .ret) [] ⟨fr [(4,(slE Xy.1 0 (X00.map Xi))),(5,(slE X4u.1 1 (X4c.map X1))),(6,(aI .i64 Xi4))],hp ([]++opE Xy.1 0 5 (X00.map Xi)++opE X4u.1 1 3 (X4c.map X1)),2⟩ μ),
  X2 Tryz.prog 119 0 Q (.loop (X41 0 (Xh Tryz.f6))) [] ⟨fr [(2,(AV.ptr 0 0 0)),(10,(Lt (X39.map X3))),(11,(slE Xp.1 1 (Xc.map X1))),(46,(Lf (List.map (X14 false X0) X8n))),(47,(aI .i64 (X8n.length:Int))),(48,(aI .i64 (k:Int)))],hp ([(0,Ob [(Xk false Xb)] 10)]++opE Xp.1 1 3 (Xc.map X1)),2⟩ μ:=by
 intro xs
 induction xs with
 |nil =>
  intro k hx X39 Xc Xp o h C0 C1;have hk:=X11 hx;have hc:decide ((k:Int)<(X8n.length:Int))=false:=Yf om;rw[X1y] at h;rcases Xp with ⟨_|_,X02⟩
  ·
   refine X2.round ?_;revert h;exact λe=>X8 [Bf] (k:=wkT [] (C0 _ _  nbF (oj e).symm))
  ·
   obtain rfl:=X02 rfl;refine X2.round ?_;revert h;exact λe=>X8 [Bf] (k:=wkT [] (C0 _ _  nbS (oj e).symm))
 |cons x xs ih =>
  intro k hx X39 Xc Xp o h C0 C1;obtain⟨hk,hg,hx1⟩:=X0f hx;have hc:decide ((k:Int)<(X8n.length:Int))=true:=Yt om;rw[X1y] at h;rcases Xp with ⟨_|_,X02⟩
  ·
   refine X2.round ?_;revert h;refine bI λv435 h436=>rnI [Bt,.el (X14 false X0 x),.pure _ (AV.tup [(Lt (v435.1.map X1)),(Lt (v435.2.1.map X1)),(aI .i64 v435.2.2)])] ?_;refine brI (λh437=>λe=>X8 [Bt] (k:=wkT [] (C1 _ _ _  nbS nbS (oj e).symm))) λh437=>?_;refine brI (λq=>?_) λq=>?_
   ·
    intro h;have h438:v435.2.1=[]:=List.isEmpty_iff.1 q;revert h;refine bI λu439 h440=>?_;have qh440:=X0b h440;refine bI λo502 h503=>rnI [Bf,.ne false,.el (aI .i64 (v435.1.length:Int))] ?_;intro h;refine wkT [] (X2.cut (X4v Xb (Xc++v435.2.1) (k:Int) X8n (X8n.length:Int) (k:Int) v435.1 nbF qh440 v435.1 0 (by simp) _ _ h503 ?_ ?_))
    ·
     intro X7x X6p X3y eo502;subst eo502;refine X2.glue ?_;try dsimp only at h
     rcases X3y with ⟨_|_,X73⟩
     ·
      exact X8 [] (k:=wkT [] (ih (k+1) hx1 _ _ nbF o h C0 C1))
     obtain rfl:=X73 rfl;exact X8 [] (k:=wkT [] (ih (k+1) hx1 _ _ nbS o h C0 C1))
    intro X6o X6n Xb2 X3x X22 eo502;subst eo502;refine X2.glue ?_;try dsimp only at h
    rcases X3x with ⟨_|_,X72⟩
    ·
     rcases X22 with ⟨_|_,X1t⟩
     ·
      revert h;exact λe=>X8 [] (k:=wkT [] (C1 _ _ _  nbF nbF (oj e).symm))
     obtain rfl:=X1t rfl;revert h;exact λe=>X8 [] (k:=wkT [] (C1 _ _ _  nbF nbS (oj e).symm))
    obtain rfl:=X72 rfl;rcases X22 with ⟨_|_,X1t⟩
    ·
     revert h;exact λe=>X8 [] (k:=wkT [] (C1 _ _ _  nbS nbF (oj e).symm))
    obtain rfl:=X1t rfl;revert h;exact λe=>X8 [] (k:=wkT [] (C1 _ _ _  nbS nbS (oj e).symm))
   intro h;have h438:¬ (v435.2.1=[]):=(λe=>by rw[e] at q;cases q);revert h;refine bI λu504 h505=>bI λu506 h507=>?_;have qh507:=X0b h507;refine bI λo549 h550=>rnI [Bf,.via (Lt (v435.2.1.map X1)),.el (aI .i64 (v435.1.length:Int))] (o:=by repeat' first|apply Ya|exact pcM|(refine X03 h505 rfl ?_;first|(simp<;>omega)|(simp[hc,h437,h438]<;>omega))|(refine Xq h505 (by decide) ?_;first|(simp<;>omega)|(simp[hc,h437,h438]<;>omega))|exact X05) ?_;intro h;refine wkT [(1,2)] (X2.cut (X4v Xb (Xc++v435.2.1) (k:Int) X8n (X8n.length:Int) (k:Int) v435.1 nbF qh507 v435.1 0 (by simp) _ _ h550 ?_ ?_))
   ·
    intro X7x X6p X3y eo549;subst eo549;refine X2.glue ?_;try dsimp only at h
    rcases X3y with ⟨_|_,X73⟩
    ·
     exact X8 [] (o:=by repeat' first|apply Ya|exact pcM|(refine X03 h505 rfl ?_;first|(simp<;>omega)|(simp[hc,h437,h438]<;>omega))|(refine Xq h505 (by decide) ?_;first|(simp<;>omega)|(simp[hc,h437,h438]<;>omega))|exact X05) (k:=wkT [] (ih (k+1) hx1 _ _ nbF o h C0 C1))
    obtain rfl:=X73 rfl;exact X8 [] (o:=by repeat' first|apply Ya|exact pcM|(refine X03 h505 rfl ?_;first|(simp<;>omega)|(simp[hc,h437,h438]<;>omega))|(refine Xq h505 (by decide) ?_;first|(simp<;>omega)|(simp[hc,h437,h438]<;>omega))|exact X05) (k:=wkT [] (ih (k+1) hx1 _ _ nbS o h C0 C1))
   intro X6o X6n Xb2 X3x X22 eo549;subst eo549;refine X2.glue ?_;try dsimp only at h
   rcases X3x with ⟨_|_,X72⟩
   ·
    rcases X22 with ⟨_|_,X1t⟩
    ·
     revert h;exact λe=>X8 [] (o:=by repeat' first|apply Ya|exact pcM|(refine X03 h505 rfl ?_;first|(simp<;>omega)|(simp[hc,h437,h438]<;>omega))|(refine Xq h505 (by decide) ?_;first|(simp<;>omega)|(simp[hc,h437,h438]<;>omega))|exact X05) (k:=wkT [] (C1 _ _ _  nbF nbF (oj e).symm))
    obtain rfl:=X1t rfl;revert h;exact λe=>X8 [] (o:=by repeat' first|apply Ya|exact pcM|(refine X03 h505 rfl ?_;first|(simp<;>omega)|(simp[hc,h437,h438]<;>omega))|(refine Xq h505 (by decide) ?_;first|(simp<;>omega)|(simp[hc,h437,h438]<;>omega))|exact X05) (k:=wkT [] (C1 _ _ _  nbF nbS (oj e).symm))
   obtain rfl:=X72 rfl;rcases X22 with ⟨_|_,X1t⟩
   ·
    revert h;exact λe=>X8 [] (o:=by repeat' first|apply Ya|exact pcM|(refine X03 h505 rfl ?_;first|(simp<;>omega)|(simp[hc,h437,h438]<;>omega))|(refine Xq h505 (by decide) ?_;first|(simp<;>omega)|(simp[hc,h437,h438]<;>omega))|exact X05) (k:=wkT [] (C1 _ _ _  nbS nbF (oj e).symm))
   obtain rfl:=X1t rfl;revert h;exact λe=>X8 [] (o:=by repeat' first|apply Ya|exact pcM|(refine X03 h505 rfl ?_;first|(simp<;>omega)|(simp[hc,h437,h438]<;>omega))|(refine Xq h505 (by decide) ?_;first|(simp<;>omega)|(simp[hc,h437,h438]<;>omega))|exact X05) (k:=wkT [] (C1 _ _ _  nbS nbS (oj e).symm))
  obtain rfl:=X02 rfl;refine X2.round ?_;revert h;refine bI λv551 h552=>rnI [Bt,.el (X14 false X0 x),.pure _ (AV.tup [(Lt (v551.1.map X1)),(Lt (v551.2.1.map X1)),(aI .i64 v551.2.2)])] ?_;refine brI (λh553=>λe=>X8 [Bt] (k:=wkT [] (C1 _ _ _  nbS nbS (oj e).symm))) λh553=>?_;refine brI (λq=>?_) λq=>?_
  ·
   intro h;have h554:v551.2.1=[]:=List.isEmpty_iff.1 q;revert h;refine bI λu555 h556=>?_;have qh556:=X0b h556;refine bI λo598 h599=>rnI [Bf,.ne false,.el (aI .i64 (v551.1.length:Int))] ?_;intro h;refine wkT [] (X2.cut (X4v Xb (([]:List X9)++v551.2.1) (k:Int) X8n (X8n.length:Int) (k:Int) v551.1 nbS qh556 v551.1 0 (by simp) _ _ h599 ?_ ?_))
   ·
    intro X7x X6p X3y eo598;subst eo598;refine X2.glue ?_;try dsimp only at h
    rcases X3y with ⟨_|_,X73⟩
    ·
     exact X8 [] (k:=wkT [] (ih (k+1) hx1 _ _ nbF o h C0 C1))
    obtain rfl:=X73 rfl;exact X8 [] (k:=wkT [] (ih (k+1) hx1 _ _ nbS o h C0 C1))
   intro X6o X6n Xb2 X3x X22 eo598;subst eo598;refine X2.glue ?_;try dsimp only at h
   rcases X3x with ⟨_|_,X72⟩
   ·
    rcases X22 with ⟨_|_,X1t⟩
    ·
     revert h;exact λe=>X8 [] (k:=wkT [] (C1 _ _ _  nbF nbF (oj e).symm))
    obtain rfl:=X1t rfl;revert h;exact λe=>X8 [] (k:=wkT [] (C1 _ _ _  nbF nbS (oj e).symm))
   obtain rfl:=X72 rfl;rcases X22 with ⟨_|_,X1t⟩
   ·
    revert h;exact λe=>X8 [] (k:=wkT [] (C1 _ _ _  nbS nbF (oj e).symm))
   obtain rfl:=X1t rfl;revert h;exact λe=>X8 [] (k:=wkT [] (C1 _ _ _  nbS nbS (oj e).symm))
  intro h;have h554:¬ (v551.2.1=[]):=(λe=>by rw[e] at q;cases q);revert h;refine bI λu600 h601=>bI λu602 h603=>?_;have qh603:=X0b h603;refine bI λo645 h646=>rnI [Bf,.via (Lt (v551.2.1.map X1)),.el (aI .i64 (v551.1.length:Int))] (o:=by repeat' first|apply Ya|exact pcM|(refine X03 h601 rfl ?_;first|(simp<;>omega)|(simp[hc,h553,h554]<;>omega))|(refine Xq h601 (by decide) ?_;first|(simp<;>omega)|(simp[hc,h553,h554]<;>omega))|exact X05) ?_;intro h;refine wkT [(1,2)] (X2.cut (X4v Xb (([]:List X9)++v551.2.1) (k:Int) X8n (X8n.length:Int) (k:Int) v551.1 nbF qh603 v551.1 0 (by simp) _ _ h646 ?_ ?_))
  ·
   intro X7x X6p X3y eo645;subst eo645;refine X2.glue ?_;try dsimp only at h
   rcases X3y with ⟨_|_,X73⟩
   ·
    exact X8 [] (o:=by repeat' first|apply Ya|exact pcM|(refine X03 h601 rfl ?_;first|(simp<;>omega)|(simp[hc,h553,h554]<;>omega))|(refine Xq h601 (by decide) ?_;first|(simp<;>omega)|(simp[hc,h553,h554]<;>omega))|exact X05) (k:=wkT [] (ih (k+1) hx1 _ _ nbF o h C0 C1))
   obtain rfl:=X73 rfl;exact X8 [] (o:=by repeat' first|apply Ya|exact pcM|(refine X03 h601 rfl ?_;first|(simp<;>omega)|(simp[hc,h553,h554]<;>omega))|(refine Xq h601 (by decide) ?_;first|(simp<;>omega)|(simp[hc,h553,h554]<;>omega))|exact X05) (k:=wkT [] (ih (k+1) hx1 _ _ nbS o h C0 C1))
  intro X6o X6n Xb2 X3x X22 eo645;subst eo645;refine X2.glue ?_;try dsimp only at h
  rcases X3x with ⟨_|_,X72⟩
  ·
   rcases X22 with ⟨_|_,X1t⟩
   ·
    revert h;exact λe=>X8 [] (o:=by repeat' first|apply Ya|exact pcM|(refine X03 h601 rfl ?_;first|(simp<;>omega)|(simp[hc,h553,h554]<;>omega))|(refine Xq h601 (by decide) ?_;first|(simp<;>omega)|(simp[hc,h553,h554]<;>omega))|exact X05) (k:=wkT [] (C1 _ _ _  nbF nbF (oj e).symm))
   obtain rfl:=X1t rfl;revert h;exact λe=>X8 [] (o:=by repeat' first|apply Ya|exact pcM|(refine X03 h601 rfl ?_;first|(simp<;>omega)|(simp[hc,h553,h554]<;>omega))|(refine Xq h601 (by decide) ?_;first|(simp<;>omega)|(simp[hc,h553,h554]<;>omega))|exact X05) (k:=wkT [] (C1 _ _ _  nbF nbS (oj e).symm))
  obtain rfl:=X72 rfl;rcases X22 with ⟨_|_,X1t⟩
  ·
   revert h;exact λe=>X8 [] (o:=by repeat' first|apply Ya|exact pcM|(refine X03 h601 rfl ?_;first|(simp<;>omega)|(simp[hc,h553,h554]<;>omega))|(refine Xq h601 (by decide) ?_;first|(simp<;>omega)|(simp[hc,h553,h554]<;>omega))|exact X05) (k:=wkT [] (C1 _ _ _  nbS nbF (oj e).symm))
  obtain rfl:=X1t rfl;revert h;exact λe=>X8 [] (o:=by repeat' first|apply Ya|exact pcM|(refine X03 h601 rfl ?_;first|(simp<;>omega)|(simp[hc,h553,h554]<;>omega))|(refine Xq h601 (by decide) ?_;first|(simp<;>omega)|(simp[hc,h553,h554]<;>omega))|exact X05) (k:=wkT [] (C1 _ _ _  nbS nbS (oj e).symm))
theorem X9q {Q:Xx->St->Mu->Prop} {μ:Mu} (Xhg:Xt) (Xg0:(List X9)) (Xb4:(List X5)) (Xfp:Nb Xg0) (hl:Xb4.length<=140737488355328):∀ (xs:List X5) (k:Nat) (hx:Xb4.drop k=xs) (Xf6:(List X52)) (X8w:Nb Xf6) (o:X7g) (h:X2b Xhg Xg0 Xb4 xs k Xf6=some o)
  (C0:∀ (X9z:(List X9)) (X4b:(List X52)) (X7t:Nb X9z) (X5y:Nb X4b),o=X7g.x0 X9z X4b->X2 Tryz.prog 119 0 Q (.exit (.exit 4)) [] ⟨fr [(2,(AV.ptr 0 0 0)),(11,(slE X7t.1 1 (X9z.map X1))),(22,(slE X5y.1 2 (X4b.map Xi)))],hp ([(0,Ob [(Xk false Xhg)] 10)]++opE X7t.1 1 3 (X9z.map X1)++opE X5y.1 2 5 (X4b.map Xi)),3⟩ μ),
  X2 Tryz.prog 119 0 Q (.loop (X41 2 (Xh Tryz.f6))) [] ⟨fr [(2,(AV.ptr 0 0 0)),(11,(slE Xfp.1 1 (Xg0.map X1))),(22,(slE X8w.1 2 (Xf6.map Xi))),(96,(Lt (Xb4.map X3))),(97,(aI .i64 (Xb4.length:Int))),(98,(aI .i64 (k:Int)))],hp ([(0,Ob [(Xk false Xhg)] 10)]++opE Xfp.1 1 3 (Xg0.map X1)++opE X8w.1 2 5 (Xf6.map Xi)),3⟩ μ:=by
 intro xs
 induction xs with
 |nil =>
  intro k hx Xf6 X8w o h C0;have hk:=X11 hx;have hc:decide ((k:Int)<(Xb4.length:Int))=false:=Yf om;rw[X2b] at h;rcases Xfp with ⟨_|_,Xjv⟩
  ·
   rcases X8w with ⟨_|_,Xak⟩
   ·
    refine X2.round ?_;revert h;exact λe=>X8 [Bf] (k:=wkT [] (C0 _ _  nbF nbF (oj e).symm))
   obtain rfl:=Xak rfl;refine X2.round ?_;revert h;exact λe=>X8 [Bf] (k:=wkT [] (C0 _ _  nbF nbS (oj e).symm))
  ·
   obtain rfl:=Xjv rfl;rcases X8w with ⟨_|_,Xak⟩
   ·
    refine X2.round ?_;revert h;exact λe=>X8 [Bf] (k:=wkT [] (C0 _ _  nbS nbF (oj e).symm))
   ·
    obtain rfl:=Xak rfl;refine X2.round ?_;revert h;exact λe=>X8 [Bf] (k:=wkT [] (C0 _ _  nbS nbS (oj e).symm))
 |cons x xs ih =>
  intro k hx Xf6 X8w o h C0;obtain⟨hk,hg,hx1⟩:=X0f hx;have hc:decide ((k:Int)<(Xb4.length:Int))=true:=Yt om;rw[X2b] at h;rcases Xfp with ⟨_|_,Xjv⟩
  ·
   rcases X8w with ⟨_|_,Xak⟩
   ·
    refine X2.round ?_;revert h;refine bI λv732 h733=>bI λXgv h741=>rnI [Bt,.el (X3 x),.pure _ (AV.tup [(Xi v732.1),(aB v732.2)])] ?_;intro h;refine X2.joinF (λ(q:Nb Xgv)=>⟨fr [(2,(AV.ptr 0 0 0)),(11,(AV.ref 1 0 (Xg0.length))),(22,(slE q.1 2 (Xgv.map Xi))),(96,(Lt (Xb4.map X3))),(97,(aI .i64 (Xb4.length:Int))),(98,(aI .i64 (k:Int)))],hp ([(0,Ob [(Xk false Xhg)] 10),(1,Ob (Xg0.map X1) 3)]++opE q.1 2 5 (Xgv.map Xi)),3⟩) ?_ (λJ=>X2.cut ?_)
    ·
     rintro Xpx;rcases Xpx with ⟨_|_,Xqr⟩
     ·
      exact X8 [] (k:=wkT [] (ih (k+1) hx1 _ nbF o h C0))
     obtain rfl:=Xqr rfl;exact X8 [] (k:=wkT [] (ih (k+1) hx1 _ nbS o h C0))
    clear h;revert h741;refine brI (λh738=>?_) λh738=>?_
    ·
     refine bI λu739 h740=>?_;intro h;obtain rfl:=oj h;exact X8 [Bt,.no] (o:=by repeat' first|apply Ya|exact pcM|(refine X03 h740 rfl ?_;first|(simp<;>omega)|(simp[hc,h738]<;>omega))|(refine Xq h740 (by decide) ?_;first|(simp<;>omega)|(simp[hc,h738]<;>omega))|exact X05) (k:=wkT [(2,6)] (X2.glue (J nbF)))
    intro h;obtain rfl:=oj h;exact X8 [Bf] (k:=wkT [] (X2.glue (J nbF)))
   obtain rfl:=Xak rfl;refine X2.round ?_;revert h;refine bI λv742 h743=>bI λXn4 h751=>rnI [Bt,.el (X3 x),.pure _ (AV.tup [(Xi v742.1),(aB v742.2)])] ?_;intro h;refine X2.joinF (λ(q:Nb Xn4)=>⟨fr [(2,(AV.ptr 0 0 0)),(11,(AV.ref 1 0 (Xg0.length))),(22,(slE q.1 2 (Xn4.map Xi))),(96,(Lt (Xb4.map X3))),(97,(aI .i64 (Xb4.length:Int))),(98,(aI .i64 (k:Int)))],hp ([(0,Ob [(Xk false Xhg)] 10),(1,Ob (Xg0.map X1) 3)]++opE q.1 2 5 (Xn4.map Xi)),3⟩) ?_ (λJ=>X2.cut ?_)
   ·
    rintro Xpw;rcases Xpw with ⟨_|_,Xqq⟩
    ·
     exact X8 [] (k:=wkT [] (ih (k+1) hx1 _ nbF o h C0))
    obtain rfl:=Xqq rfl;exact X8 [] (k:=wkT [] (ih (k+1) hx1 _ nbS o h C0))
   clear h;revert h751;refine brI (λh748=>?_) λh748=>?_
   ·
    refine bI λu749 h750=>?_;intro h;obtain rfl:=oj h;exact X8 [Bt,.no] (o:=by repeat' first|apply Ya|exact pcM|(refine X03 h750 rfl ?_;first|(simp<;>omega)|(simp[hc,h748]<;>omega))|(refine Xq h750 (by decide) ?_;first|(simp<;>omega)|(simp[hc,h748]<;>omega))|exact X05) (k:=wkT [(2,6)] (X2.glue (J nbF)))
   intro h;obtain rfl:=oj h;exact X8 [Bf] (k:=wkT [] (X2.glue (J nbS)))
  obtain rfl:=Xjv rfl;rcases X8w with ⟨_|_,Xak⟩
  ·
   refine X2.round ?_;revert h;refine bI λv752 h753=>bI λXn3 h761=>rnI [Bt,.el (X3 x),.pure _ (AV.tup [(Xi v752.1),(aB v752.2)])] ?_;intro h;refine X2.joinF (λ(q:Nb Xn3)=>⟨fr [(2,(AV.ptr 0 0 0)),(11,AV.nils),(22,(slE q.1 2 (Xn3.map Xi))),(96,(Lt (Xb4.map X3))),(97,(aI .i64 (Xb4.length:Int))),(98,(aI .i64 (k:Int)))],hp ([(0,Ob [(Xk false Xhg)] 10)]++opE q.1 2 5 (Xn3.map Xi)),3⟩) ?_ (λJ=>X2.cut ?_)
   ·
    rintro Xpv;rcases Xpv with ⟨_|_,Xqp⟩
    ·
     exact X8 [] (k:=wkT [] (ih (k+1) hx1 _ nbF o h C0))
    obtain rfl:=Xqp rfl;exact X8 [] (k:=wkT [] (ih (k+1) hx1 _ nbS o h C0))
   clear h;revert h761;refine brI (λh758=>?_) λh758=>?_
   ·
    refine bI λu759 h760=>?_;intro h;obtain rfl:=oj h;exact X8 [Bt,.no] (o:=by repeat' first|apply Ya|exact pcM|(refine X03 h760 rfl ?_;first|(simp<;>omega)|(simp[hc,h758]<;>omega))|(refine Xq h760 (by decide) ?_;first|(simp<;>omega)|(simp[hc,h758]<;>omega))|exact X05) (k:=wkT [(2,6)] (X2.glue (J nbF)))
   intro h;obtain rfl:=oj h;exact X8 [Bf] (k:=wkT [] (X2.glue (J nbF)))
  obtain rfl:=Xak rfl;refine X2.round ?_;revert h;refine bI λv762 h763=>bI λXn2 h771=>rnI [Bt,.el (X3 x),.pure _ (AV.tup [(Xi v762.1),(aB v762.2)])] ?_;intro h;refine X2.joinF (λ(q:Nb Xn2)=>⟨fr [(2,(AV.ptr 0 0 0)),(11,AV.nils),(22,(slE q.1 2 (Xn2.map Xi))),(96,(Lt (Xb4.map X3))),(97,(aI .i64 (Xb4.length:Int))),(98,(aI .i64 (k:Int)))],hp ([(0,Ob [(Xk false Xhg)] 10)]++opE q.1 2 5 (Xn2.map Xi)),3⟩) ?_ (λJ=>X2.cut ?_)
  ·
   rintro Xpu;rcases Xpu with ⟨_|_,Xqo⟩
   ·
    exact X8 [] (k:=wkT [] (ih (k+1) hx1 _ nbF o h C0))
   obtain rfl:=Xqo rfl;exact X8 [] (k:=wkT [] (ih (k+1) hx1 _ nbS o h C0))
  clear h;revert h771;refine brI (λh768=>?_) λh768=>?_
  ·
   refine bI λu769 h770=>?_;intro h;obtain rfl:=oj h;exact X8 [Bt,.no] (o:=by repeat' first|apply Ya|exact pcM|(refine X03 h770 rfl ?_;first|(simp<;>omega)|(simp[hc,h768]<;>omega))|(refine Xq h770 (by decide) ?_;first|(simp<;>omega)|(simp[hc,h768]<;>omega))|exact X05) (k:=wkT [(2,6)] (X2.glue (J nbF)))
  intro h;obtain rfl:=oj h;exact X8 [Bf] (k:=wkT [] (X2.glue (J nbS)))
instance Xvc:PCs Tryz.prog 6 (∀ (a0:Xt) (a1:(List (List Xa))) (r:(List X52)×(List X9)×Int),X1i a0 a1=some r->X0j Tryz.prog 6 [(Xk false a0),(Lf (List.map (X14 false X0) a1))] (AV.tup [(Lt (r.1.map Xi)),(Lt (r.2.1.map X1)),(aI .i64 r.2.2)])):=⟨λa0 a1 r h=>by
 refine X0j.sym X7 fn6 (nt:=119) rfl rfl ?_ okM;unfold X1i at h;revert h;refine bI λv1 h2=>brI (λh3=>λe=>oj e▸X8 [.pure _ (AV.tup [(aI .i64 v1.1),(aI .i64 v1.2)]),Bt] (k:=fi)) λh3=>brI (λh4=>λe=>oj e▸X8 [.pure _ (AV.tup [(aI .i64 v1.1),(aI .i64 v1.2)]),Bf,.el (aI .i64 (a1.length:Int)),.el (aI .i64 (a0.Sources.length:Int)),Bt] (k:=fi)) λh4=>bI λv5 h6=>rnI [.pure _ (AV.tup [(aI .i64 v1.1),(aI .i64 v1.2)]),Bf,.el (aI .i64 (a1.length:Int)),.el (aI .i64 (a0.Sources.length:Int)),Bf,.pure _ (aI .i64 v5)] ?_;refine brI (λh7=>λe=>oj e▸X8 [Bt] (k:=fi)) λh7=>rnI [Bf,.el (aI .i64 (a1.length:Int))] ?_;intro h;refine X2.nilsList 10 true rfl ?_;revert h;refine bI λu8 h9=>?_;have qh9:=X0b h9;refine bI λo647 h648=>rnI [] ?_;intro h;refine wkT [] (X2.cut (Xe9 a0 a1 qh9 a1 0 (by simp) _ _ nbS _ h648 ?_ ?_))
 ·
  intro X61 X09 X0h eo647;subst eo647;refine X2.glue ?_;try dsimp only at h
  rcases X0h with ⟨_|_,X3d⟩
  ·
   revert h;refine bI λu649 h650=>?_;have qh650:=X0b h650;refine bI λo772 h773=>rnI [.el (aI .i64 (X61.length:Int))] ?_;intro h;refine wkT [] (X2.cut (X9q a0 X09 X61 nbF qh650 X61 0 (by simp) _ nbS _ h773 ?_));intro X9z X4b X7t X5y eo772;subst eo772;refine X2.glue ?_;try dsimp only at h
   rcases X7t with ⟨_|_,Xed⟩
   ·
    rcases X5y with ⟨_|_,X71⟩
    ·
     revert h;refine bI λXgu h777=>rnI [] ?_;intro h;refine X2.joinF (λ(q:Nb Xgu)=>⟨fr [(11,(slE q.1 0 (Xgu.map X1))),(22,(AV.ref 1 0 (X4b.length)))],hp ([(1,Ob (X4b.map Xi) 5)]++opE q.1 0 3 (Xgu.map X1)),2⟩) ?_ (λJ=>X2.cut ?_)
     ·
      rintro Xpt;rcases Xpt with ⟨_|_,Xqn⟩<;>(try obtain rfl:=Xqn rfl);all_goals
       revert h;exact λe=>oj e▸X8 [] (k:=fi)
     clear h;revert h777;refine brI (λh776=>?_) λh776=>?_
     ·
      intro h;obtain rfl:=oj h;exact X8 [Bt] (k:=wkT [(1,2)] (X2.glue (J nbS)))
     intro h;obtain rfl:=oj h;exact X8 [Bf] (k:=wkT [(0,1),(1,2)] (X2.glue (J nbF)))
    obtain rfl:=X71 rfl;revert h;refine bI λXn1 h781=>rnI [] ?_;intro h;refine X2.joinF (λ(q:Nb Xn1)=>⟨fr [(11,(slE q.1 0 (Xn1.map X1))),(22,AV.nils)],hp ([]++opE q.1 0 3 (Xn1.map X1)),2⟩) ?_ (λJ=>X2.cut ?_)
    ·
     rintro Xps;rcases Xps with ⟨_|_,Xqm⟩<;>(try obtain rfl:=Xqm rfl);all_goals
      revert h;exact λe=>oj e▸X8 [] (k:=fi)
    clear h;revert h781;refine brI (λh780=>?_) λh780=>?_
    ·
     intro h;obtain rfl:=oj h;exact X8 [Bt] (k:=wkT [] (X2.glue (J nbS)))
    intro h;obtain rfl:=oj h;exact X8 [Bf] (k:=wkT [(0,1)] (X2.glue (J nbF)))
   obtain rfl:=Xed rfl;rcases X5y with ⟨_|_,X71⟩
   ·
    revert h;refine bI λXn0 h785=>rnI [] ?_;intro h;refine X2.joinF (λ(q:Nb Xn0)=>⟨fr [(11,(slE q.1 0 (Xn0.map X1))),(22,(AV.ref 1 0 (X4b.length)))],hp ([(1,Ob (X4b.map Xi) 5)]++opE q.1 0 3 (Xn0.map X1)),2⟩) ?_ (λJ=>X2.cut ?_)
    ·
     rintro Xpr;rcases Xpr with ⟨_|_,Xql⟩<;>(try obtain rfl:=Xql rfl);all_goals
      revert h;exact λe=>oj e▸X8 [] (k:=fi)
    clear h;revert h785;refine brI (λh784=>?_) λh784=>?_
    ·
     intro h;obtain rfl:=oj h;exact X8 [Bt] (k:=wkT [(1,2)] (X2.glue (J nbS)))
    intro h;obtain rfl:=oj h;exact X8 [Bf] (k:=wkT [(1,2)] (X2.glue (J nbS)))
   obtain rfl:=X71 rfl;revert h;refine bI λXmy h789=>rnI [] ?_;intro h;refine X2.joinF (λ(q:Nb Xmy)=>⟨fr [(11,(slE q.1 0 (Xmy.map X1))),(22,AV.nils)],hp ([]++opE q.1 0 3 (Xmy.map X1)),2⟩) ?_ (λJ=>X2.cut ?_)
   ·
    rintro Xpq;rcases Xpq with ⟨_|_,Xqk⟩<;>(try obtain rfl:=Xqk rfl);all_goals
     revert h;exact λe=>oj e▸X8 [] (k:=fi)
   clear h;revert h789;refine brI (λh788=>?_) λh788=>?_
   ·
    intro h;obtain rfl:=oj h;exact X8 [Bt] (k:=wkT [] (X2.glue (J nbS)))
   intro h;obtain rfl:=oj h;exact X8 [Bf] (k:=wkT [] (X2.glue (J nbS)))
  obtain rfl:=X3d rfl;revert h;refine bI λu790 h791=>?_;have qh791:=X0b h791;refine bI λo873 h874=>rnI [.el (aI .i64 (X61.length:Int))] ?_;intro h;refine wkT [] (X2.cut (X9q a0 ([]:List X9) X61 nbS qh791 X61 0 (by simp) _ nbS _ h874 ?_));intro X9z X4b X7t X5y eo873;subst eo873;refine X2.glue ?_;try dsimp only at h
  rcases X7t with ⟨_|_,Xed⟩
  ·
   rcases X5y with ⟨_|_,X71⟩
   ·
    revert h;refine bI λXmw h878=>rnI [] ?_;intro h;refine X2.joinF (λ(q:Nb Xmw)=>⟨fr [(11,(slE q.1 0 (Xmw.map X1))),(22,(AV.ref 1 0 (X4b.length)))],hp ([(1,Ob (X4b.map Xi) 5)]++opE q.1 0 3 (Xmw.map X1)),2⟩) ?_ (λJ=>X2.cut ?_)
    ·
     rintro Xpm;rcases Xpm with ⟨_|_,Xqg⟩<;>(try obtain rfl:=Xqg rfl);all_goals
      revert h;exact λe=>oj e▸X8 [] (k:=fi)
    clear h;revert h878;refine brI (λh877=>?_) λh877=>?_
    ·
     intro h;obtain rfl:=oj h;exact X8 [Bt] (k:=wkT [(1,2)] (X2.glue (J nbS)))
    intro h;obtain rfl:=oj h;exact X8 [Bf] (k:=wkT [(0,1),(1,2)] (X2.glue (J nbF)))
   obtain rfl:=X71 rfl;revert h;refine bI λXmv h882=>rnI [] ?_;intro h;refine X2.joinF (λ(q:Nb Xmv)=>⟨fr [(11,(slE q.1 0 (Xmv.map X1))),(22,AV.nils)],hp ([]++opE q.1 0 3 (Xmv.map X1)),2⟩) ?_ (λJ=>X2.cut ?_)
   ·
    rintro Xpl;rcases Xpl with ⟨_|_,Xqf⟩<;>(try obtain rfl:=Xqf rfl);all_goals
     revert h;exact λe=>oj e▸X8 [] (k:=fi)
   clear h;revert h882;refine brI (λh881=>?_) λh881=>?_
   ·
    intro h;obtain rfl:=oj h;exact X8 [Bt] (k:=wkT [] (X2.glue (J nbS)))
   intro h;obtain rfl:=oj h;exact X8 [Bf] (k:=wkT [(0,1)] (X2.glue (J nbF)))
  obtain rfl:=Xed rfl;rcases X5y with ⟨_|_,X71⟩
  ·
   revert h;refine bI λXmu h886=>rnI [] ?_;intro h;refine X2.joinF (λ(q:Nb Xmu)=>⟨fr [(11,(slE q.1 0 (Xmu.map X1))),(22,(AV.ref 1 0 (X4b.length)))],hp ([(1,Ob (X4b.map Xi) 5)]++opE q.1 0 3 (Xmu.map X1)),2⟩) ?_ (λJ=>X2.cut ?_)
   ·
    rintro Xpk;rcases Xpk with ⟨_|_,Xqe⟩<;>(try obtain rfl:=Xqe rfl);all_goals
     revert h;exact λe=>oj e▸X8 [] (k:=fi)
   clear h;revert h886;refine brI (λh885=>?_) λh885=>?_
   ·
    intro h;obtain rfl:=oj h;exact X8 [Bt] (k:=wkT [(1,2)] (X2.glue (J nbS)))
   intro h;obtain rfl:=oj h;exact X8 [Bf] (k:=wkT [(1,2)] (X2.glue (J nbS)))
  obtain rfl:=X71 rfl;revert h;refine bI λXmt h890=>rnI [] ?_;intro h;refine X2.joinF (λ(q:Nb Xmt)=>⟨fr [(11,(slE q.1 0 (Xmt.map X1))),(22,AV.nils)],hp ([]++opE q.1 0 3 (Xmt.map X1)),2⟩) ?_ (λJ=>X2.cut ?_)
  ·
   rintro Xpj;rcases Xpj with ⟨_|_,Xqd⟩<;>(try obtain rfl:=Xqd rfl);all_goals
    revert h;exact λe=>oj e▸X8 [] (k:=fi)
  clear h;revert h890;refine brI (λh889=>?_) λh889=>?_
  ·
   intro h;obtain rfl:=oj h;exact X8 [Bt] (k:=wkT [] (X2.glue (J nbS)))
  intro h;obtain rfl:=oj h;exact X8 [Bf] (k:=wkT [] (X2.glue (J nbS)))
 intro X00 X4c Xi4 Xy X4u eo647;subst eo647;refine X2.glue ?_;try dsimp only at h
 rcases Xy with ⟨_|_,X1u⟩<;>(try obtain rfl:=X1u rfl);all_goals
  rcases X4u with ⟨_|_,Xee⟩<;>(try obtain rfl:=Xee rfl);all_goals
   revert h;exact λe=>oj e▸X8 [] (k:=fi)⟩
theorem Xgp {Q:Xx->St->Mu->Prop} {μ:Mu} (Xiu:(List Xa)) (hl:Xiu.length<=140737488355328):∀ (xs:List Xa) (k:Nat) (hx:Xiu.drop k=xs) (Xb:Int) (o:X9f) (h:X7c Xiu xs k Xb=some o)
  (C0:∀ (Xo:Int),o=X9f.x0 Xo->X2 Tryz.prog 27 0 Q (.exit (.exit 0)) [] ⟨fr [(5,(AV.fn 53 [(AV.ptr 0 0 0)]))],hp ([(0,Ob [(aI .i64 Xo)] 1)]),1⟩ μ),
  X2 Tryz.prog 27 0 Q (.loop (X41 0 (Xh Tryz.f45))) [] ⟨fr [(5,(AV.fn 53 [(AV.ptr 0 0 0)])),(14,(Lf (Xiu.map X0))),(15,(aI .i64 (Xiu.length:Int))),(16,(aI .i64 (k:Int)))],hp ([(0,Ob [(aI .i64 Xb)] 1)]),1⟩ μ:=by
 intro xs
 induction xs with
 |nil =>
  intro k hx Xb o h C0;have hk:=X11 hx;have hc:decide ((k:Int)<(Xiu.length:Int))=false:=Yf om;rw[X7c] at h;refine X2.round ?_;revert h;exact λe=>X8 [Bf] (k:=wkT [] (C0 _  (oj e).symm))
 |cons x xs ih =>
  intro k hx Xb o h C0;obtain⟨hk,hg,hx1⟩:=X0f hx;have hc:decide ((k:Int)<(Xiu.length:Int))=true:=Yt om;rw[X7c] at h;refine X2.round ?_;refine X0z [Bt,.el (X0 x)] ?_;refine X2.inline X7 fn53 rfl rfl rfl rfl rfl trivial trivial rfl rfl ?_;revert h;refine bI λXt4 h30=>rnI [] ?_;intro h;refine X2.join (s':=⟨fr [(4,(aI .i64 Xb))],hp ([(0,Ob [(aI .i64 Xt4)] 1)]),2⟩) ?_ (λJ=>X2.cut ?_)
  ·
   refine X0z [] ?_;refine X2.back (by intro id h;cases h) rfl ?_;exact X8 [] (k:=wkT [] (ih (k+1) hx1 _ o h C0))
  clear h;revert h30;refine brI (λh29=>?_) λh29=>?_
  ·
   intro h;obtain rfl:=oj h;exact X8 [Bt] (k:=wkT [] (X2.glue J))
  intro h;obtain rfl:=oj h;exact X8 [Bf] (k:=wkT [] (X2.glue J))
instance Xxu:PCs Tryz.prog 45 (∀ (a0:(List Xa)) (r:Int×Int),Xgq a0=some r->X0j Tryz.prog 45 [(Lf (a0.map X0))] (AV.tup [(aI .i64 r.1),(aI .i64 r.2)])):=⟨λa0 r h=>by
 refine X0j.sym X7 fn45 (nt:=27) rfl rfl ?_ okM;unfold Xgq at h;revert h;refine bI λv1 h2=>brI (λh3=>λe=>oj e▸X8 [.pure _ (aI .i64 v1),Bt] (k:=fi)) λh3=>rnI [.pure _ (aI .i64 v1),Bf] ?_;intro h;refine X2.inline X7 fn34 rfl rfl rfl rfl rfl trivial trivial rfl rfl ?_;refine X0z [] ?_;refine X2.back (by intro id h;cases h) rfl ?_;revert h;refine bI λu4 h5=>?_;have qh5:=X0b h5;refine bI λo31 h32=>rnI [.el (aI .i64 (a0.length:Int))] ?_;intro h;refine wkT [] (X2.cut (Xgp a0 qh5 a0 0 (by simp) _ _ h32 ?_));intro Xo eo31;subst eo31;refine X2.glue ?_;try dsimp only at h
 refine X0z [] ?_;refine X2.inline X7 fn53 rfl rfl rfl rfl rfl trivial trivial rfl rfl ?_;refine X0z [Bf] ?_;refine X2.back (by intro id h;cases h) rfl ?_;revert h;exact λe=>oj e▸X8 [] (k:=fi)⟩
end Go.Av.Tryz