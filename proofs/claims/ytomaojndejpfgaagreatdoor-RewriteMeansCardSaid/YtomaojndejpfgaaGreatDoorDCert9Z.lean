/- Printed by decomp.py: that the program computes the functions. -/
import Derived.Test.YtomaojndejpfgaaGreatDoorDCert8Z
set_option linter.all false

namespace Go.Av.Tryz
open Go.Proofs Go.D Go.Proofs.Tryz
set_option maxRecDepth 10000
set_option maxHeartbeats 40000000
theorem Xew {P:Prop} (h:P:=by repeat' first|apply Ya|exact pcM|(refine X1r h505 rfl ?_;first|(simp<;>omega)|(simp[hc,h437,h438]<;>omega))|(refine X0p h505 (by decide) ?_;first|(simp<;>omega)|(simp[hc,h437,h438]<;>omega))|exact X24):P:=h
theorem Xev {P:Prop} (h:P:=by repeat' first|apply Ya|exact pcM|(refine X1r h601 rfl ?_;first|(simp<;>omega)|(simp[hc,h553,h554]<;>omega))|(refine X0p h601 (by decide) ?_;first|(simp<;>omega)|(simp[hc,h553,h554]<;>omega))|exact X24):P:=h
theorem Xh3 {Q:Qt} {μ:Mu} (Xd:Xb) (Xb1:(List (List Xs))) (hl:Xb1.length<=140737488355328):∀ (xs:List (List Xs)) (k:Nat) (hx:Xb1.drop k=xs) (X3c:(List X3)) (Xe:(List X9)) (Xp:Nb Xe) (o:X5y) (h:X2e Xd Xb1 xs k X3c Xe=some o)
  (C0:∀ (X6h:(List X3)) (X00:(List X9)) (X07:Nb X00),o=X5y.x0 X6h X00->Sx 119 Q [(2,(AV.ptr 0 0 0)),(10,(Lt (X6h.map X1))),(11,(slE X07.1 1 (X00.map X2)))] ([(0,Ob [(Xc false Xd)] 10)]++opE X07.1 1 3 (X00.map X2)) 2 μ)
  (C1:∀ (Xy:(List X5v)) (X32:(List X9)) (Xmm:Int) (Xx:Nb Xy) (X5f:Nb X32),o=X5y.x1 Xy X32 Xmm->Sr 119 Q [(4,(slE Xx.1 0 (Xy.map Xv))),(5,(slE X5f.1 1 (X32.map X2))),(6,(aI .i64 Xmm))] ([]++opE Xx.1 0 5 (Xy.map Xv)++opE X5f.1 1 3 (X32.map X2)) 2 μ),
  Sl 119 Q f17 [(2,(AV.ptr 0 0 0)),(10,(Lt (X3c.map X1))),(11,(slE Xp.1 1 (Xe.map X2))),(46,(Lf (List.map (X6t false Xg) Xb1))),(47,(aI .i64 (Xb1.length:Int))),(48,(aI .i64 (k:Int)))] ([(0,Ob [(Xc false Xd)] 10)]++opE Xp.1 1 3 (Xe.map X2)) 2 μ:=by
 intro xs
 induction xs with
 |nil =>
  intro k hx X3c Xe Xp o h C0 C1;have hk:=drop_nil hx;have hc:=lpN hx;rw[X2e] at h;rcases Xp with ⟨_|_,X06⟩
  ·
   refine X7.round ?_;revert h;exact λe=>X8 [Bf] (k:=wkT [] (C0 _ _  nbF (oj e).symm))
  ·
   obtain rfl:=X06 rfl;refine X7.round ?_;revert h;exact λe=>X8 [Bf] (k:=wkT [] (C0 _ _  nbS (oj e).symm))
 |cons x xs ih =>
  intro k hx X3c Xe Xp o h C0 C1;obtain⟨hk,hg,hx1⟩:=drop_cons hx;have hc:=lpC hx;rw[X2e] at h;rcases Xp with ⟨_|_,X06⟩
  ·
   refine X7.round ?_;revert h;refine bI λv435 h436=>rnI [Bt,.el (X6t false Xg x),.pure _ (AV.tup [(Lt (v435.1.map X2)),(Lt (v435.2.1.map X2)),(aI .i64 v435.2.2)])] ?_;refine brI (λh437=>λe=>X8 [Bt] (k:=wkT [] (C1 _ _ _  nbS nbS (oj e).symm))) λh437=>?_;refine brI (λq=>?_) λq=>?_
   ·
    intro h;have h438:v435.2.1=[]:=List.isEmpty_iff.1 q;revert h;refine bI λu439 h440=>?_;have qh440:=X0e h440;refine bI λo502 h503=>rnI [Bf,.ne false,.el (aI .i64 (v435.1.length:Int))] ?_;intro h;refine wkT [] (X7.cut (X5g Xd (Xe++v435.2.1) (k:Int) Xb1 (Xb1.length:Int) (k:Int) v435.1 nbF qh440 v435.1 0 (by simp) _ _ h503 ?_ ?_))
    ·
     intro X99 X79 X4n eo502;subst eo502;refine X7.glue ?_;try dsimp only at h
     rcases X4n with ⟨_|_,X7r⟩
     ·
      exact X8 [] (k:=wkT [] (ih (k+1) hx1 _ _ nbF o h C0 C1))
     obtain rfl:=X7r rfl;exact X8 [] (k:=wkT [] (ih (k+1) hx1 _ _ nbS o h C0 C1))
    intro X78 X77 Xco X4m X2k eo502;subst eo502;refine X7.glue ?_;try dsimp only at h
    rcases X4m with ⟨_|_,X7q⟩
    ·
     rcases X2k with ⟨_|_,X28⟩
     ·
      revert h;exact λe=>X8 [] (k:=wkT [] (C1 _ _ _  nbF nbF (oj e).symm))
     obtain rfl:=X28 rfl;revert h;exact λe=>X8 [] (k:=wkT [] (C1 _ _ _  nbF nbS (oj e).symm))
    obtain rfl:=X7q rfl;rcases X2k with ⟨_|_,X28⟩
    ·
     revert h;exact λe=>X8 [] (k:=wkT [] (C1 _ _ _  nbS nbF (oj e).symm))
    obtain rfl:=X28 rfl;revert h;exact λe=>X8 [] (k:=wkT [] (C1 _ _ _  nbS nbS (oj e).symm))
   intro h;have h438:¬ (v435.2.1=[]):=(λe=>by rw[e] at q;cases q);revert h;refine bI λu504 h505=>bI λu506 h507=>?_;have qh507:=X0e h507;refine bI λo549 h550=>rnI [Bf,.via (Lt (v435.2.1.map X2)),.el (aI .i64 (v435.1.length:Int))] (o:=Xew) ?_;intro h;refine wkT [(1,2)] (X7.cut (X5g Xd (Xe++v435.2.1) (k:Int) Xb1 (Xb1.length:Int) (k:Int) v435.1 nbF qh507 v435.1 0 (by simp) _ _ h550 ?_ ?_))
   ·
    intro X99 X79 X4n eo549;subst eo549;refine X7.glue ?_;try dsimp only at h
    rcases X4n with ⟨_|_,X7r⟩
    ·
     exact X8 [] (o:=Xew) (k:=wkT [] (ih (k+1) hx1 _ _ nbF o h C0 C1))
    obtain rfl:=X7r rfl;exact X8 [] (o:=Xew) (k:=wkT [] (ih (k+1) hx1 _ _ nbS o h C0 C1))
   intro X78 X77 Xco X4m X2k eo549;subst eo549;refine X7.glue ?_;try dsimp only at h
   rcases X4m with ⟨_|_,X7q⟩
   ·
    rcases X2k with ⟨_|_,X28⟩
    ·
     revert h;exact λe=>X8 [] (o:=Xew) (k:=wkT [] (C1 _ _ _  nbF nbF (oj e).symm))
    obtain rfl:=X28 rfl;revert h;exact λe=>X8 [] (o:=Xew) (k:=wkT [] (C1 _ _ _  nbF nbS (oj e).symm))
   obtain rfl:=X7q rfl;rcases X2k with ⟨_|_,X28⟩
   ·
    revert h;exact λe=>X8 [] (o:=Xew) (k:=wkT [] (C1 _ _ _  nbS nbF (oj e).symm))
   obtain rfl:=X28 rfl;revert h;exact λe=>X8 [] (o:=Xew) (k:=wkT [] (C1 _ _ _  nbS nbS (oj e).symm))
  obtain rfl:=X06 rfl;refine X7.round ?_;revert h;refine bI λv551 h552=>rnI [Bt,.el (X6t false Xg x),.pure _ (AV.tup [(Lt (v551.1.map X2)),(Lt (v551.2.1.map X2)),(aI .i64 v551.2.2)])] ?_;refine brI (λh553=>λe=>X8 [Bt] (k:=wkT [] (C1 _ _ _  nbS nbS (oj e).symm))) λh553=>?_;refine brI (λq=>?_) λq=>?_
  ·
   intro h;have h554:v551.2.1=[]:=List.isEmpty_iff.1 q;revert h;refine bI λu555 h556=>?_;have qh556:=X0e h556;refine bI λo598 h599=>rnI [Bf,.ne false,.el (aI .i64 (v551.1.length:Int))] ?_;intro h;refine wkT [] (X7.cut (X5g Xd (([]:List X9)++v551.2.1) (k:Int) Xb1 (Xb1.length:Int) (k:Int) v551.1 nbS qh556 v551.1 0 (by simp) _ _ h599 ?_ ?_))
   ·
    intro X99 X79 X4n eo598;subst eo598;refine X7.glue ?_;try dsimp only at h
    rcases X4n with ⟨_|_,X7r⟩
    ·
     exact X8 [] (k:=wkT [] (ih (k+1) hx1 _ _ nbF o h C0 C1))
    obtain rfl:=X7r rfl;exact X8 [] (k:=wkT [] (ih (k+1) hx1 _ _ nbS o h C0 C1))
   intro X78 X77 Xco X4m X2k eo598;subst eo598;refine X7.glue ?_;try dsimp only at h
   rcases X4m with ⟨_|_,X7q⟩
   ·
    rcases X2k with ⟨_|_,X28⟩
    ·
     revert h;exact λe=>X8 [] (k:=wkT [] (C1 _ _ _  nbF nbF (oj e).symm))
    obtain rfl:=X28 rfl;revert h;exact λe=>X8 [] (k:=wkT [] (C1 _ _ _  nbF nbS (oj e).symm))
   obtain rfl:=X7q rfl;rcases X2k with ⟨_|_,X28⟩
   ·
    revert h;exact λe=>X8 [] (k:=wkT [] (C1 _ _ _  nbS nbF (oj e).symm))
   obtain rfl:=X28 rfl;revert h;exact λe=>X8 [] (k:=wkT [] (C1 _ _ _  nbS nbS (oj e).symm))
  intro h;have h554:¬ (v551.2.1=[]):=(λe=>by rw[e] at q;cases q);revert h;refine bI λu600 h601=>bI λu602 h603=>?_;have qh603:=X0e h603;refine bI λo645 h646=>rnI [Bf,.via (Lt (v551.2.1.map X2)),.el (aI .i64 (v551.1.length:Int))] (o:=Xev) ?_;intro h;refine wkT [(1,2)] (X7.cut (X5g Xd (([]:List X9)++v551.2.1) (k:Int) Xb1 (Xb1.length:Int) (k:Int) v551.1 nbF qh603 v551.1 0 (by simp) _ _ h646 ?_ ?_))
  ·
   intro X99 X79 X4n eo645;subst eo645;refine X7.glue ?_;try dsimp only at h
   rcases X4n with ⟨_|_,X7r⟩
   ·
    exact X8 [] (o:=Xev) (k:=wkT [] (ih (k+1) hx1 _ _ nbF o h C0 C1))
   obtain rfl:=X7r rfl;exact X8 [] (o:=Xev) (k:=wkT [] (ih (k+1) hx1 _ _ nbS o h C0 C1))
  intro X78 X77 Xco X4m X2k eo645;subst eo645;refine X7.glue ?_;try dsimp only at h
  rcases X4m with ⟨_|_,X7q⟩
  ·
   rcases X2k with ⟨_|_,X28⟩
   ·
    revert h;exact λe=>X8 [] (o:=Xev) (k:=wkT [] (C1 _ _ _  nbF nbF (oj e).symm))
   obtain rfl:=X28 rfl;revert h;exact λe=>X8 [] (o:=Xev) (k:=wkT [] (C1 _ _ _  nbF nbS (oj e).symm))
  obtain rfl:=X7q rfl;rcases X2k with ⟨_|_,X28⟩
  ·
   revert h;exact λe=>X8 [] (o:=Xev) (k:=wkT [] (C1 _ _ _  nbS nbF (oj e).symm))
  obtain rfl:=X28 rfl;revert h;exact λe=>X8 [] (o:=Xev) (k:=wkT [] (C1 _ _ _  nbS nbS (oj e).symm))
theorem Xbf {Q:Qt} {μ:Mu} (Xlr:Xb) (Xjk:(List X9)) (Xeo:(List X3)) (Xj6:Nb Xjk) (hl:Xeo.length<=140737488355328):∀ (xs:List X3) (k:Nat) (hx:Xeo.drop k=xs) (Xi5:(List X5v)) (Xad:Nb Xi5) (o:X8i) (h:X2x Xlr Xjk Xeo xs k Xi5=some o)
  (C0:∀ (Xbp:(List X9)) (X4y:(List X5v)) (X94:Nb Xbp) (X6e:Nb X4y),o=X8i.x0 Xbp X4y->SK 119 Q (.exit (.exit 4)) [] ⟨fr [(2,(AV.ptr 0 0 0)),(11,(slE X94.1 1 (Xbp.map X2))),(22,(slE X6e.1 2 (X4y.map Xv)))],hp ([(0,Ob [(Xc false Xlr)] 10)]++opE X94.1 1 3 (Xbp.map X2)++opE X6e.1 2 5 (X4y.map Xv)),3⟩ μ),
  SK 119 Q (.loop (X64 2 (X1l Tryz.f17))) [] ⟨fr [(2,(AV.ptr 0 0 0)),(11,(slE Xj6.1 1 (Xjk.map X2))),(22,(slE Xad.1 2 (Xi5.map Xv))),(96,(Lt (Xeo.map X1))),(97,(aI .i64 (Xeo.length:Int))),(98,(aI .i64 (k:Int)))],hp ([(0,Ob [(Xc false Xlr)] 10)]++opE Xj6.1 1 3 (Xjk.map X2)++opE Xad.1 2 5 (Xi5.map Xv)),3⟩ μ:=by
 intro xs
 induction xs with
 |nil =>
  intro k hx Xi5 Xad o h C0;have hk:=drop_nil hx;have hc:=lpN hx;rw[X2x] at h;rcases Xj6 with ⟨_|_,Xos⟩
  ·
   rcases Xad with ⟨_|_,Xc9⟩
   ·
    refine X7.round ?_;revert h;exact λe=>X8 [Bf] (k:=wkT [] (C0 _ _  nbF nbF (oj e).symm))
   obtain rfl:=Xc9 rfl;refine X7.round ?_;revert h;exact λe=>X8 [Bf] (k:=wkT [] (C0 _ _  nbF nbS (oj e).symm))
  ·
   obtain rfl:=Xos rfl;rcases Xad with ⟨_|_,Xc9⟩
   ·
    refine X7.round ?_;revert h;exact λe=>X8 [Bf] (k:=wkT [] (C0 _ _  nbS nbF (oj e).symm))
   ·
    obtain rfl:=Xc9 rfl;refine X7.round ?_;revert h;exact λe=>X8 [Bf] (k:=wkT [] (C0 _ _  nbS nbS (oj e).symm))
 |cons x xs ih =>
  intro k hx Xi5 Xad o h C0;obtain⟨hk,hg,hx1⟩:=drop_cons hx;have hc:=lpC hx;rw[X2x] at h;rcases Xj6 with ⟨_|_,Xos⟩
  ·
   rcases Xad with ⟨_|_,Xc9⟩
   ·
    refine X7.round ?_;revert h;refine bI λv732 h733=>bI λXkx h741=>rnI [Bt,.el (X1 x),.pure _ (AV.tup [(Xv v732.1),(aB v732.2)])] ?_;intro h;refine X7.joinF (λ(q:Nb Xkx)=>⟨fr [(2,(AV.ptr 0 0 0)),(11,(AV.ref 1 0 (Xjk.length))),(22,(slE q.1 2 (Xkx.map Xv))),(96,(Lt (Xeo.map X1))),(97,(aI .i64 (Xeo.length:Int))),(98,(aI .i64 (k:Int)))],hp ([(0,Ob [(Xc false Xlr)] 10),(1,Ob (Xjk.map X2) 3)]++opE q.1 2 5 (Xkx.map Xv)),3⟩) ?_ (λJ=>X7.cut ?_)
    ·
     rintro Xwi;rcases Xwi with ⟨_|_,Xxb⟩
     ·
      exact X8 [] (k:=wkT [] (ih (k+1) hx1 _ nbF o h C0))
     obtain rfl:=Xxb rfl;exact X8 [] (k:=wkT [] (ih (k+1) hx1 _ nbS o h C0))
    clear h;revert h741;refine brI (λh738=>?_) λh738=>?_
    ·
     refine bI λu739 h740=>?_;intro h;obtain rfl:=oj h;exact X8 [Bt,.no] (o:=by repeat' first|apply Ya|exact pcM|(refine X1r h740 rfl ?_;first|(simp<;>omega)|(simp[hc,h738]<;>omega))|(refine X0p h740 (by decide) ?_;first|(simp<;>omega)|(simp[hc,h738]<;>omega))|exact X24) (k:=wkT [(2,6)] (X7.glue (J nbF)))
    intro h;obtain rfl:=oj h;exact X8 [Bf] (k:=wkT [] (X7.glue (J nbF)))
   obtain rfl:=Xc9 rfl;refine X7.round ?_;revert h;refine bI λv742 h743=>bI λXsy h751=>rnI [Bt,.el (X1 x),.pure _ (AV.tup [(Xv v742.1),(aB v742.2)])] ?_;intro h;refine X7.joinF (λ(q:Nb Xsy)=>⟨fr [(2,(AV.ptr 0 0 0)),(11,(AV.ref 1 0 (Xjk.length))),(22,(slE q.1 2 (Xsy.map Xv))),(96,(Lt (Xeo.map X1))),(97,(aI .i64 (Xeo.length:Int))),(98,(aI .i64 (k:Int)))],hp ([(0,Ob [(Xc false Xlr)] 10),(1,Ob (Xjk.map X2) 3)]++opE q.1 2 5 (Xsy.map Xv)),3⟩) ?_ (λJ=>X7.cut ?_)
   ·
    rintro Xwh;rcases Xwh with ⟨_|_,Xxa⟩
    ·
     exact X8 [] (k:=wkT [] (ih (k+1) hx1 _ nbF o h C0))
    obtain rfl:=Xxa rfl;exact X8 [] (k:=wkT [] (ih (k+1) hx1 _ nbS o h C0))
   clear h;revert h751;refine brI (λh748=>?_) λh748=>?_
   ·
    refine bI λu749 h750=>?_;intro h;obtain rfl:=oj h;exact X8 [Bt,.no] (o:=by repeat' first|apply Ya|exact pcM|(refine X1r h750 rfl ?_;first|(simp<;>omega)|(simp[hc,h748]<;>omega))|(refine X0p h750 (by decide) ?_;first|(simp<;>omega)|(simp[hc,h748]<;>omega))|exact X24) (k:=wkT [(2,6)] (X7.glue (J nbF)))
   intro h;obtain rfl:=oj h;exact X8 [Bf] (k:=wkT [] (X7.glue (J nbS)))
  obtain rfl:=Xos rfl;rcases Xad with ⟨_|_,Xc9⟩
  ·
   refine X7.round ?_;revert h;refine bI λv752 h753=>bI λXsx h761=>rnI [Bt,.el (X1 x),.pure _ (AV.tup [(Xv v752.1),(aB v752.2)])] ?_;intro h;refine X7.joinF (λ(q:Nb Xsx)=>⟨fr [(2,(AV.ptr 0 0 0)),(11,AV.nils),(22,(slE q.1 2 (Xsx.map Xv))),(96,(Lt (Xeo.map X1))),(97,(aI .i64 (Xeo.length:Int))),(98,(aI .i64 (k:Int)))],hp ([(0,Ob [(Xc false Xlr)] 10)]++opE q.1 2 5 (Xsx.map Xv)),3⟩) ?_ (λJ=>X7.cut ?_)
   ·
    rintro Xwg;rcases Xwg with ⟨_|_,Xx9⟩
    ·
     exact X8 [] (k:=wkT [] (ih (k+1) hx1 _ nbF o h C0))
    obtain rfl:=Xx9 rfl;exact X8 [] (k:=wkT [] (ih (k+1) hx1 _ nbS o h C0))
   clear h;revert h761;refine brI (λh758=>?_) λh758=>?_
   ·
    refine bI λu759 h760=>?_;intro h;obtain rfl:=oj h;exact X8 [Bt,.no] (o:=by repeat' first|apply Ya|exact pcM|(refine X1r h760 rfl ?_;first|(simp<;>omega)|(simp[hc,h758]<;>omega))|(refine X0p h760 (by decide) ?_;first|(simp<;>omega)|(simp[hc,h758]<;>omega))|exact X24) (k:=wkT [(2,6)] (X7.glue (J nbF)))
   intro h;obtain rfl:=oj h;exact X8 [Bf] (k:=wkT [] (X7.glue (J nbF)))
  obtain rfl:=Xc9 rfl;refine X7.round ?_;revert h;refine bI λv762 h763=>bI λXsw h771=>rnI [Bt,.el (X1 x),.pure _ (AV.tup [(Xv v762.1),(aB v762.2)])] ?_;intro h;refine X7.joinF (λ(q:Nb Xsw)=>⟨fr [(2,(AV.ptr 0 0 0)),(11,AV.nils),(22,(slE q.1 2 (Xsw.map Xv))),(96,(Lt (Xeo.map X1))),(97,(aI .i64 (Xeo.length:Int))),(98,(aI .i64 (k:Int)))],hp ([(0,Ob [(Xc false Xlr)] 10)]++opE q.1 2 5 (Xsw.map Xv)),3⟩) ?_ (λJ=>X7.cut ?_)
  ·
   rintro Xwf;rcases Xwf with ⟨_|_,Xx8⟩
   ·
    exact X8 [] (k:=wkT [] (ih (k+1) hx1 _ nbF o h C0))
   obtain rfl:=Xx8 rfl;exact X8 [] (k:=wkT [] (ih (k+1) hx1 _ nbS o h C0))
  clear h;revert h771;refine brI (λh768=>?_) λh768=>?_
  ·
   refine bI λu769 h770=>?_;intro h;obtain rfl:=oj h;exact X8 [Bt,.no] (o:=by repeat' first|apply Ya|exact pcM|(refine X1r h770 rfl ?_;first|(simp<;>omega)|(simp[hc,h768]<;>omega))|(refine X0p h770 (by decide) ?_;first|(simp<;>omega)|(simp[hc,h768]<;>omega))|exact X24) (k:=wkT [(2,6)] (X7.glue (J nbF)))
  intro h;obtain rfl:=oj h;exact X8 [Bf] (k:=wkT [] (X7.glue (J nbS)))
instance X03r:PZ 17 (∀ (a0:Xb) (a1:(List (List Xs))) (r:(List X5v)×(List X9)×Int),X7n a0 a1=some r->Pz 17 [(Xc false a0),(Lf (List.map (X6t false Xg) a1))] (AV.tup [(Lt (r.1.map Xv)),(Lt (r.2.1.map X2)),(aI .i64 r.2.2)])):=⟨λa0 a1 r=>by
 unfold X7n;refine psI fn17 119<|bI λv1 h2=>brI (λh3=>λe=>oj e▸X8 [.pure _ (AV.tup [(aI .i64 v1.1),(aI .i64 v1.2)]),Bt] (k:=fi)) λh3=>brI (λh4=>λe=>oj e▸X8 [.pure _ (AV.tup [(aI .i64 v1.1),(aI .i64 v1.2)]),Bf,.el (aI .i64 (a1.length:Int)),.el (aI .i64 (a0.Sources.length:Int)),Bt] (k:=fi)) λh4=>bI λv5 h6=>rnI [.pure _ (AV.tup [(aI .i64 v1.1),(aI .i64 v1.2)]),Bf,.el (aI .i64 (a1.length:Int)),.el (aI .i64 (a0.Sources.length:Int)),Bf,.pure _ (aI .i64 v5)] ?_;refine brI (λh7=>λe=>oj e▸X8 [Bt] (k:=fi)) λh7=>rnI [Bf,.el (aI .i64 (a1.length:Int))] ?_;intro h;refine X7.nilsList 10 true rfl ?_;revert h;refine bI λu8 h9=>?_;have qh9:=X0e h9;refine bI λo647 h648=>rnI [] ?_;intro h;refine wkT [] (X7.cut (Xh3 a0 a1 qh9 a1 0 (by simp) _ _ nbS _ h648 ?_ ?_))
 ·
  intro X6h X00 X07 eo647;subst eo647;refine X7.glue ?_;try dsimp only at h
  rcases X07 with ⟨_|_,X29⟩
  ·
   revert h;refine bI λu649 h650=>?_;have qh650:=X0e h650;refine bI λo772 h773=>rnI [.el (aI .i64 (X6h.length:Int))] ?_;intro h;refine wkT [] (X7.cut (Xbf a0 X00 X6h nbF qh650 X6h 0 (by simp) _ nbS _ h773 ?_));intro Xbp X4y X94 X6e eo772;subst eo772;refine X7.glue ?_;try dsimp only at h
   rcases X94 with ⟨_|_,Xh4⟩
   ·
    rcases X6e with ⟨_|_,X7p⟩
    ·
     revert h;refine bI λXkw h777=>rnI [] ?_;intro h;refine X7.joinF (λ(q:Nb Xkw)=>⟨fr [(11,(slE q.1 0 (Xkw.map X2))),(22,(AV.ref 1 0 (X4y.length)))],hp ([(1,Ob (X4y.map Xv) 5)]++opE q.1 0 3 (Xkw.map X2)),2⟩) ?_ (λJ=>X7.cut ?_)
     ·
      rintro Xwe;rcases Xwe with ⟨_|_,Xx7⟩<;>(try obtain rfl:=Xx7 rfl);all_goals
       revert h;exact λe=>oj e▸X8 [] (k:=fi)
     clear h;revert h777;refine brI (λh776=>?_) λh776=>?_
     ·
      intro h;obtain rfl:=oj h;exact X8 [Bt] (k:=wkT [(1,2)] (X7.glue (J nbS)))
     intro h;obtain rfl:=oj h;exact X8 [Bf] (k:=wkT [(0,1),(1,2)] (X7.glue (J nbF)))
    obtain rfl:=X7p rfl;revert h;refine bI λXsv h781=>rnI [] ?_;intro h;refine X7.joinF (λ(q:Nb Xsv)=>⟨fr [(11,(slE q.1 0 (Xsv.map X2))),(22,AV.nils)],hp ([]++opE q.1 0 3 (Xsv.map X2)),2⟩) ?_ (λJ=>X7.cut ?_)
    ·
     rintro Xwd;rcases Xwd with ⟨_|_,Xx6⟩<;>(try obtain rfl:=Xx6 rfl);all_goals
      revert h;exact λe=>oj e▸X8 [] (k:=fi)
    clear h;revert h781;refine brI (λh780=>?_) λh780=>?_
    ·
     intro h;obtain rfl:=oj h;exact X8 [Bt] (k:=wkT [] (X7.glue (J nbS)))
    intro h;obtain rfl:=oj h;exact X8 [Bf] (k:=wkT [(0,1)] (X7.glue (J nbF)))
   obtain rfl:=Xh4 rfl;rcases X6e with ⟨_|_,X7p⟩
   ·
    revert h;refine bI λXsu h785=>rnI [] ?_;intro h;refine X7.joinF (λ(q:Nb Xsu)=>⟨fr [(11,(slE q.1 0 (Xsu.map X2))),(22,(AV.ref 1 0 (X4y.length)))],hp ([(1,Ob (X4y.map Xv) 5)]++opE q.1 0 3 (Xsu.map X2)),2⟩) ?_ (λJ=>X7.cut ?_)
    ·
     rintro Xwc;rcases Xwc with ⟨_|_,Xx5⟩<;>(try obtain rfl:=Xx5 rfl);all_goals
      revert h;exact λe=>oj e▸X8 [] (k:=fi)
    clear h;revert h785;refine brI (λh784=>?_) λh784=>?_
    ·
     intro h;obtain rfl:=oj h;exact X8 [Bt] (k:=wkT [(1,2)] (X7.glue (J nbS)))
    intro h;obtain rfl:=oj h;exact X8 [Bf] (k:=wkT [(1,2)] (X7.glue (J nbS)))
   obtain rfl:=X7p rfl;revert h;refine bI λXst h789=>rnI [] ?_;intro h;refine X7.joinF (λ(q:Nb Xst)=>⟨fr [(11,(slE q.1 0 (Xst.map X2))),(22,AV.nils)],hp ([]++opE q.1 0 3 (Xst.map X2)),2⟩) ?_ (λJ=>X7.cut ?_)
   ·
    rintro Xwb;rcases Xwb with ⟨_|_,Xx4⟩<;>(try obtain rfl:=Xx4 rfl);all_goals
     revert h;exact λe=>oj e▸X8 [] (k:=fi)
   clear h;revert h789;refine brI (λh788=>?_) λh788=>?_
   ·
    intro h;obtain rfl:=oj h;exact X8 [Bt] (k:=wkT [] (X7.glue (J nbS)))
   intro h;obtain rfl:=oj h;exact X8 [Bf] (k:=wkT [] (X7.glue (J nbS)))
  obtain rfl:=X29 rfl;revert h;refine bI λu790 h791=>?_;have qh791:=X0e h791;refine bI λo873 h874=>rnI [.el (aI .i64 (X6h.length:Int))] ?_;intro h;refine wkT [] (X7.cut (Xbf a0 ([]:List X9) X6h nbS qh791 X6h 0 (by simp) _ nbS _ h874 ?_));intro Xbp X4y X94 X6e eo873;subst eo873;refine X7.glue ?_;try dsimp only at h
  rcases X94 with ⟨_|_,Xh4⟩
  ·
   rcases X6e with ⟨_|_,X7p⟩
   ·
    revert h;refine bI λXss h878=>rnI [] ?_;intro h;refine X7.joinF (λ(q:Nb Xss)=>⟨fr [(11,(slE q.1 0 (Xss.map X2))),(22,(AV.ref 1 0 (X4y.length)))],hp ([(1,Ob (X4y.map Xv) 5)]++opE q.1 0 3 (Xss.map X2)),2⟩) ?_ (λJ=>X7.cut ?_)
    ·
     rintro Xw9;rcases Xw9 with ⟨_|_,Xx2⟩<;>(try obtain rfl:=Xx2 rfl);all_goals
      revert h;exact λe=>oj e▸X8 [] (k:=fi)
    clear h;revert h878;refine brI (λh877=>?_) λh877=>?_
    ·
     intro h;obtain rfl:=oj h;exact X8 [Bt] (k:=wkT [(1,2)] (X7.glue (J nbS)))
    intro h;obtain rfl:=oj h;exact X8 [Bf] (k:=wkT [(0,1),(1,2)] (X7.glue (J nbF)))
   obtain rfl:=X7p rfl;revert h;refine bI λXsr h882=>rnI [] ?_;intro h;refine X7.joinF (λ(q:Nb Xsr)=>⟨fr [(11,(slE q.1 0 (Xsr.map X2))),(22,AV.nils)],hp ([]++opE q.1 0 3 (Xsr.map X2)),2⟩) ?_ (λJ=>X7.cut ?_)
   ·
    rintro Xw8;rcases Xw8 with ⟨_|_,Xx1⟩<;>(try obtain rfl:=Xx1 rfl);all_goals
     revert h;exact λe=>oj e▸X8 [] (k:=fi)
   clear h;revert h882;refine brI (λh881=>?_) λh881=>?_
   ·
    intro h;obtain rfl:=oj h;exact X8 [Bt] (k:=wkT [] (X7.glue (J nbS)))
   intro h;obtain rfl:=oj h;exact X8 [Bf] (k:=wkT [(0,1)] (X7.glue (J nbF)))
  obtain rfl:=Xh4 rfl;rcases X6e with ⟨_|_,X7p⟩
  ·
   revert h;refine bI λXsq h886=>rnI [] ?_;intro h;refine X7.joinF (λ(q:Nb Xsq)=>⟨fr [(11,(slE q.1 0 (Xsq.map X2))),(22,(AV.ref 1 0 (X4y.length)))],hp ([(1,Ob (X4y.map Xv) 5)]++opE q.1 0 3 (Xsq.map X2)),2⟩) ?_ (λJ=>X7.cut ?_)
   ·
    rintro Xw7;rcases Xw7 with ⟨_|_,Xx0⟩<;>(try obtain rfl:=Xx0 rfl);all_goals
     revert h;exact λe=>oj e▸X8 [] (k:=fi)
   clear h;revert h886;refine brI (λh885=>?_) λh885=>?_
   ·
    intro h;obtain rfl:=oj h;exact X8 [Bt] (k:=wkT [(1,2)] (X7.glue (J nbS)))
   intro h;obtain rfl:=oj h;exact X8 [Bf] (k:=wkT [(1,2)] (X7.glue (J nbS)))
  obtain rfl:=X7p rfl;revert h;refine bI λXsp h890=>rnI [] ?_;intro h;refine X7.joinF (λ(q:Nb Xsp)=>⟨fr [(11,(slE q.1 0 (Xsp.map X2))),(22,AV.nils)],hp ([]++opE q.1 0 3 (Xsp.map X2)),2⟩) ?_ (λJ=>X7.cut ?_)
  ·
   rintro Xw6;rcases Xw6 with ⟨_|_,Xwz⟩<;>(try obtain rfl:=Xwz rfl);all_goals
    revert h;exact λe=>oj e▸X8 [] (k:=fi)
  clear h;revert h890;refine brI (λh889=>?_) λh889=>?_
  ·
   intro h;obtain rfl:=oj h;exact X8 [Bt] (k:=wkT [] (X7.glue (J nbS)))
  intro h;obtain rfl:=oj h;exact X8 [Bf] (k:=wkT [] (X7.glue (J nbS)))
 intro Xy X32 Xmm Xx X5f eo647;subst eo647;refine X7.glue ?_;try dsimp only at h
 rcases Xx with ⟨_|_,X1o⟩<;>(try obtain rfl:=X1o rfl);all_goals
  rcases X5f with ⟨_|_,Xh5⟩<;>(try obtain rfl:=Xh5 rfl);all_goals
   revert h;exact λe=>oj e▸X8 [] (k:=fi)⟩
theorem Xkq {Q:Qt} {μ:Mu} (Xrr:(List Xs)) (hl:Xrr.length<=140737488355328):Dr Xrr λxs k=>∀ (Xd:Int) o,Lq Tryz.prog 27 0 Q μ o (fun|.x0 Xo=>(.exit 0,⟨fr [(5,(AV.fn 86 [(AV.ptr 0 0 0)]))],hp ([(0,Ob [(aI .i64 Xo)] 1)]),1⟩))
  (X64 0 (X1l Tryz.f33)) ⟨fr [(5,(AV.fn 86 [(AV.ptr 0 0 0)])),(14,(Lf (Xrr.map Xg))),(15,(aI .i64 (Xrr.length:Int))),(16,(aI .i64 (k:Int)))],hp ([(0,Ob [(aI .i64 Xd)] 1)]),1⟩ (X54 Xrr xs k Xd):=by
 refine drI ?_ ?_
 ·
  intro k hk hc Xd o C;rw[X54];exact rdI<|λe=>X8 [Bf] (k:=wC e C)
 ·
  intro x xs k hk hg hc ih Xd o C;rw[X54];refine rdI<|rnI [Bt,.el (Xg x)] ?_;intro h;refine X7.inline Xf fn86 rfl rfl rfl rfl rfl trivial trivial rfl rfl ?_;revert h;refine bI λX00g h30=>rnI [] ?_;refine jnI ⟨fr [(4,(aI .i64 Xd))],hp ([(0,Ob [(aI .i64 X00g)] 1)]),2⟩ h30 ?_ λJ=>brI (λh29=>λe=>X8 [Bt] (k:=wJ [] J)) λh29=>λe=>X8 [Bf] (k:=wJ [] J);refine rnI [] ?_;intro h;refine X7.back (by intro id h;cases h) rfl ?_;exact X8 [] (k:=wkT [] (ih  _ o C h))
instance X07l:PZ 33 (∀ (a0:(List Xs)) (r:Int×Int),Xd0 a0=some r->Pz 33 [(Lf (a0.map Xg))] (AV.tup [(aI .i64 r.1),(aI .i64 r.2)])):=⟨λa0 r=>by
 unfold Xd0;refine psI fn33 27<|bI λv1 h2=>brI (λh3=>λe=>oj e▸X8 [.pure _ (aI .i64 v1),Bt] (k:=fi)) λh3=>rnI [.pure _ (aI .i64 v1),Bf] ?_;intro h;refine X7.inline Xf fn54 rfl rfl rfl rfl rfl trivial trivial rfl rfl ?_;refine X0q [] ?_;refine X7.back (by intro id h;cases h) rfl ?_;revert h;refine bI λu4 h5=>?_;have qh5:=X0e h5;refine bI λo31 h32=>rnI [.el (aI .i64 (a0.length:Int))] ?_;intro h;refine wkT [] (X7.cut (drA (Xkq a0 qh5) _ _ ?_ h32));revert h;rcases o31 with ⟨Xo⟩;refine lGI rfl<|rnI [] ?_;intro h;refine X7.inline Xf fn86 rfl rfl rfl rfl rfl trivial trivial rfl rfl ?_;refine X0q [Bf] ?_;refine X7.back (by intro id h;cases h) rfl ?_;revert h;exact λe=>oj e▸X8 [] (k:=fi)⟩
end Go.Av.Tryz