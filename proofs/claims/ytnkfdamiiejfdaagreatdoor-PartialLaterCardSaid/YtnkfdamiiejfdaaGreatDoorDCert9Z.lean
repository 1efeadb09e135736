/- Printed by decomp.py: that the program computes the functions. -/
import Derived.Test.YtnkfdamiiejfdaaGreatDoorDCert8Z
set_option linter.all false

namespace Go.Av.Tryz
open Go.Proofs Go.D Go.Proofs.Tryz
set_option maxRecDepth 10000
set_option maxHeartbeats 40000000
theorem Xeq {P:Prop} (h:P:=by repeat' first|apply Ya|exact pcM|(refine X0g h505 rfl ?_;first|(simp<;>omega)|(simp[hc,h437,h438]<;>omega))|(refine Xv h505 (by decide) ?_;first|(simp<;>omega)|(simp[hc,h437,h438]<;>omega))|exact X1i):P:=h
theorem Xep {P:Prop} (h:P:=by repeat' first|apply Ya|exact pcM|(refine X0g h601 rfl ?_;first|(simp<;>omega)|(simp[hc,h553,h554]<;>omega))|(refine Xv h601 (by decide) ?_;first|(simp<;>omega)|(simp[hc,h553,h554]<;>omega))|exact X1i):P:=h
theorem Xgr {Q:Qt} {μ:Mu} (Xf:X00) (Xao:(List (List Xq))) (hl:Xao.length<=140737488355328):∀ (xs:List (List Xq)) (k:Nat) (hx:Xao.drop k=xs) (X5i:(List X4)) (Xi:(List X6)) (Xn:Nb Xi) (o:X5o) (h:X2c Xf Xao xs k X5i Xi=some o)
  (C0:∀ (X6d:(List X4)) (X0d:(List X6)) (X0n:Nb X0d),o=X5o.x0 X6d X0d->Sx 119 Q [(2,(AV.ptr 0 0 0)),(10,(Lt (X6d.map X1))),(11,(slE X0n.1 1 (X0d.map X0)))] ([(0,Ob [(Xz false Xf)] 10)]++opE X0n.1 1 3 (X0d.map X0)) 2 μ)
  (C1:∀ (X09:(List X1z)) (X4v:(List X6)) (Xlh:Int) (X08:Nb X09) (X58:Nb X4v),o=X5o.x1 X09 X4v Xlh->Sr 119 Q [(4,(slE X08.1 0 (X09.map Xa))),(5,(slE X58.1 1 (X4v.map X0))),(6,(aI .i64 Xlh))] ([]++opE X08.1 0 5 (X09.map Xa)++opE X58.1 1 3 (X4v.map X0)) 2 μ),
  Sl 119 Q f7 [(2,(AV.ptr 0 0 0)),(10,(Lt (X5i.map X1))),(11,(slE Xn.1 1 (Xi.map X0))),(46,(Lf (List.map (X6v false Xk) Xao))),(47,(aI .i64 (Xao.length:Int))),(48,(aI .i64 (k:Int)))] ([(0,Ob [(Xz false Xf)] 10)]++opE Xn.1 1 3 (Xi.map X0)) 2 μ:=by
 intro xs
 induction xs with
 |nil =>
  intro k hx X5i Xi Xn o h C0 C1;have hk:=X2n hx;have hc:=lpN hx;rw[X2c] at h;rcases Xn with ⟨_|_,X0a⟩
  ·
   refine X5.round ?_;revert h;exact λe=>X8 [Bf] (k:=wkT [] (C0 _ _  nbF (oj e).symm))
  ·
   obtain rfl:=X0a rfl;refine X5.round ?_;revert h;exact λe=>X8 [Bf] (k:=wkT [] (C0 _ _  nbS (oj e).symm))
 |cons x xs ih =>
  intro k hx X5i Xi Xn o h C0 C1;obtain⟨hk,hg,hx1⟩:=X1w hx;have hc:=lpC hx;rw[X2c] at h;rcases Xn with ⟨_|_,X0a⟩
  ·
   refine X5.round ?_;revert h;refine bI λv435 h436=>rnI [Bt,.el (X6v false Xk x),.pure _ (AV.tup [(Lt (v435.1.map X0)),(Lt (v435.2.1.map X0)),(aI .i64 v435.2.2)])] ?_;refine brI (λh437=>λe=>X8 [Bt] (k:=wkT [] (C1 _ _ _  nbS nbS (oj e).symm))) λh437=>?_;refine brI (λq=>?_) λq=>?_
   ·
    intro h;have h438:v435.2.1=[]:=List.isEmpty_iff.1 q;revert h;refine bI λu439 h440=>?_;have qh440:=X05 h440;refine bI λo502 h503=>rnI [Bf,.ne false,.el (aI .i64 (v435.1.length:Int))] ?_;intro h;refine wkT [] (X5.cut (X5a Xf (Xi++v435.2.1) (k:Int) Xao (Xao.length:Int) (k:Int) v435.1 nbF qh440 v435.1 0 (by simp) _ _ h503 ?_ ?_))
    ·
     intro X8p X73 X4l eo502;subst eo502;refine X5.glue ?_;try dsimp only at h
     rcases X4l with ⟨_|_,X7i⟩
     ·
      exact X8 [] (k:=wkT [] (ih (k+1) hx1 _ _ nbF o h C0 C1))
     obtain rfl:=X7i rfl;exact X8 [] (k:=wkT [] (ih (k+1) hx1 _ _ nbS o h C0 C1))
    intro X72 X71 Xca X4k X2k eo502;subst eo502;refine X5.glue ?_;try dsimp only at h
    rcases X4k with ⟨_|_,X7h⟩
    ·
     rcases X2k with ⟨_|_,X29⟩
     ·
      revert h;exact λe=>X8 [] (k:=wkT [] (C1 _ _ _  nbF nbF (oj e).symm))
     obtain rfl:=X29 rfl;revert h;exact λe=>X8 [] (k:=wkT [] (C1 _ _ _  nbF nbS (oj e).symm))
    obtain rfl:=X7h rfl;rcases X2k with ⟨_|_,X29⟩
    ·
     revert h;exact λe=>X8 [] (k:=wkT [] (C1 _ _ _  nbS nbF (oj e).symm))
    obtain rfl:=X29 rfl;revert h;exact λe=>X8 [] (k:=wkT [] (C1 _ _ _  nbS nbS (oj e).symm))
   intro h;have h438:¬ (v435.2.1=[]):=(λe=>by rw[e] at q;cases q);revert h;refine bI λu504 h505=>bI λu506 h507=>?_;have qh507:=X05 h507;refine bI λo549 h550=>rnI [Bf,.via (Lt (v435.2.1.map X0)),.el (aI .i64 (v435.1.length:Int))] (o:=Xeq) ?_;intro h;refine wkT [(1,2)] (X5.cut (X5a Xf (Xi++v435.2.1) (k:Int) Xao (Xao.length:Int) (k:Int) v435.1 nbF qh507 v435.1 0 (by simp) _ _ h550 ?_ ?_))
   ·
    intro X8p X73 X4l eo549;subst eo549;refine X5.glue ?_;try dsimp only at h
    rcases X4l with ⟨_|_,X7i⟩
    ·
     exact X8 [] (o:=Xeq) (k:=wkT [] (ih (k+1) hx1 _ _ nbF o h C0 C1))
    obtain rfl:=X7i rfl;exact X8 [] (o:=Xeq) (k:=wkT [] (ih (k+1) hx1 _ _ nbS o h C0 C1))
   intro X72 X71 Xca X4k X2k eo549;subst eo549;refine X5.glue ?_;try dsimp only at h
   rcases X4k with ⟨_|_,X7h⟩
   ·
    rcases X2k with ⟨_|_,X29⟩
    ·
     revert h;exact λe=>X8 [] (o:=Xeq) (k:=wkT [] (C1 _ _ _  nbF nbF (oj e).symm))
    obtain rfl:=X29 rfl;revert h;exact λe=>X8 [] (o:=Xeq) (k:=wkT [] (C1 _ _ _  nbF nbS (oj e).symm))
   obtain rfl:=X7h rfl;rcases X2k with ⟨_|_,X29⟩
   ·
    revert h;exact λe=>X8 [] (o:=Xeq) (k:=wkT [] (C1 _ _ _  nbS nbF (oj e).symm))
   obtain rfl:=X29 rfl;revert h;exact λe=>X8 [] (o:=Xeq) (k:=wkT [] (C1 _ _ _  nbS nbS (oj e).symm))
  obtain rfl:=X0a rfl;refine X5.round ?_;revert h;refine bI λv551 h552=>rnI [Bt,.el (X6v false Xk x),.pure _ (AV.tup [(Lt (v551.1.map X0)),(Lt (v551.2.1.map X0)),(aI .i64 v551.2.2)])] ?_;refine brI (λh553=>λe=>X8 [Bt] (k:=wkT [] (C1 _ _ _  nbS nbS (oj e).symm))) λh553=>?_;refine brI (λq=>?_) λq=>?_
  ·
   intro h;have h554:v551.2.1=[]:=List.isEmpty_iff.1 q;revert h;refine bI λu555 h556=>?_;have qh556:=X05 h556;refine bI λo598 h599=>rnI [Bf,.ne false,.el (aI .i64 (v551.1.length:Int))] ?_;intro h;refine wkT [] (X5.cut (X5a Xf (([]:List X6)++v551.2.1) (k:Int) Xao (Xao.length:Int) (k:Int) v551.1 nbS qh556 v551.1 0 (by simp) _ _ h599 ?_ ?_))
   ·
    intro X8p X73 X4l eo598;subst eo598;refine X5.glue ?_;try dsimp only at h
    rcases X4l with ⟨_|_,X7i⟩
    ·
     exact X8 [] (k:=wkT [] (ih (k+1) hx1 _ _ nbF o h C0 C1))
    obtain rfl:=X7i rfl;exact X8 [] (k:=wkT [] (ih (k+1) hx1 _ _ nbS o h C0 C1))
   intro X72 X71 Xca X4k X2k eo598;subst eo598;refine X5.glue ?_;try dsimp only at h
   rcases X4k with ⟨_|_,X7h⟩
   ·
    rcases X2k with ⟨_|_,X29⟩
    ·
     revert h;exact λe=>X8 [] (k:=wkT [] (C1 _ _ _  nbF nbF (oj e).symm))
    obtain rfl:=X29 rfl;revert h;exact λe=>X8 [] (k:=wkT [] (C1 _ _ _  nbF nbS (oj e).symm))
   obtain rfl:=X7h rfl;rcases X2k with ⟨_|_,X29⟩
   ·
    revert h;exact λe=>X8 [] (k:=wkT [] (C1 _ _ _  nbS nbF (oj e).symm))
   obtain rfl:=X29 rfl;revert h;exact λe=>X8 [] (k:=wkT [] (C1 _ _ _  nbS nbS (oj e).symm))
  intro h;have h554:¬ (v551.2.1=[]):=(λe=>by rw[e] at q;cases q);revert h;refine bI λu600 h601=>bI λu602 h603=>?_;have qh603:=X05 h603;refine bI λo645 h646=>rnI [Bf,.via (Lt (v551.2.1.map X0)),.el (aI .i64 (v551.1.length:Int))] (o:=Xep) ?_;intro h;refine wkT [(1,2)] (X5.cut (X5a Xf (([]:List X6)++v551.2.1) (k:Int) Xao (Xao.length:Int) (k:Int) v551.1 nbF qh603 v551.1 0 (by simp) _ _ h646 ?_ ?_))
  ·
   intro X8p X73 X4l eo645;subst eo645;refine X5.glue ?_;try dsimp only at h
   rcases X4l with ⟨_|_,X7i⟩
   ·
    exact X8 [] (o:=Xep) (k:=wkT [] (ih (k+1) hx1 _ _ nbF o h C0 C1))
   obtain rfl:=X7i rfl;exact X8 [] (o:=Xep) (k:=wkT [] (ih (k+1) hx1 _ _ nbS o h C0 C1))
  intro X72 X71 Xca X4k X2k eo645;subst eo645;refine X5.glue ?_;try dsimp only at h
  rcases X4k with ⟨_|_,X7h⟩
  ·
   rcases X2k with ⟨_|_,X29⟩
   ·
    revert h;exact λe=>X8 [] (o:=Xep) (k:=wkT [] (C1 _ _ _  nbF nbF (oj e).symm))
   obtain rfl:=X29 rfl;revert h;exact λe=>X8 [] (o:=Xep) (k:=wkT [] (C1 _ _ _  nbF nbS (oj e).symm))
  obtain rfl:=X7h rfl;rcases X2k with ⟨_|_,X29⟩
  ·
   revert h;exact λe=>X8 [] (o:=Xep) (k:=wkT [] (C1 _ _ _  nbS nbF (oj e).symm))
  obtain rfl:=X29 rfl;revert h;exact λe=>X8 [] (o:=Xep) (k:=wkT [] (C1 _ _ _  nbS nbS (oj e).symm))
theorem Xaz {Q:Qt} {μ:Mu} (Xkp:X00) (Xiq:(List X6)) (Xef:(List X4)) (Xia:Nb Xiq) (hl:Xef.length<=140737488355328):∀ (xs:List X4) (k:Nat) (hx:Xef.drop k=xs) (Xho:(List X1z)) (X9z:Nb Xho) (o:X84) (h:X2w Xkp Xiq Xef xs k Xho=some o)
  (C0:∀ (Xb8:(List X6)) (X4u:(List X1z)) (X8l:Nb Xb8) (X65:Nb X4u),o=X84.x0 Xb8 X4u->SK 119 Q (.exit (.exit 4)) [] ⟨fr [(2,(AV.ptr 0 0 0)),(11,(slE X8l.1 1 (Xb8.map X0))),(22,(slE X65.1 2 (X4u.map Xa)))],hp ([(0,Ob [(Xz false Xkp)] 10)]++opE X8l.1 1 3 (Xb8.map X0)++opE X65.1 2 5 (X4u.map Xa)),3⟩ μ),
  SK 119 Q (.loop (X5b 2 (X10 Tryz.f7))) [] ⟨fr [(2,(AV.ptr 0 0 0)),(11,(slE Xia.1 1 (Xiq.map X0))),(22,(slE X9z.1 2 (Xho.map Xa))),(96,(Lt (Xef.map X1))),(97,(aI .i64 (Xef.length:Int))),(98,(aI .i64 (k:Int)))],hp ([(0,Ob [(Xz false Xkp)] 10)]++opE Xia.1 1 3 (Xiq.map X0)++opE X9z.1 2 5 (Xho.map Xa)),3⟩ μ:=by
 intro xs
 induction xs with
 |nil =>
  intro k hx Xho X9z o h C0;have hk:=X2n hx;have hc:=lpN hx;rw[X2w] at h;rcases Xia with ⟨_|_,Xnf⟩
  ·
   rcases X9z with ⟨_|_,Xbo⟩
   ·
    refine X5.round ?_;revert h;exact λe=>X8 [Bf] (k:=wkT [] (C0 _ _  nbF nbF (oj e).symm))
   obtain rfl:=Xbo rfl;refine X5.round ?_;revert h;exact λe=>X8 [Bf] (k:=wkT [] (C0 _ _  nbF nbS (oj e).symm))
  ·
   obtain rfl:=Xnf rfl;rcases X9z with ⟨_|_,Xbo⟩
   ·
    refine X5.round ?_;revert h;exact λe=>X8 [Bf] (k:=wkT [] (C0 _ _  nbS nbF (oj e).symm))
   ·
    obtain rfl:=Xbo rfl;refine X5.round ?_;revert h;exact λe=>X8 [Bf] (k:=wkT [] (C0 _ _  nbS nbS (oj e).symm))
 |cons x xs ih =>
  intro k hx Xho X9z o h C0;obtain⟨hk,hg,hx1⟩:=X1w hx;have hc:=lpC hx;rw[X2w] at h;rcases Xia with ⟨_|_,Xnf⟩
  ·
   rcases X9z with ⟨_|_,Xbo⟩
   ·
    refine X5.round ?_;revert h;refine bI λv732 h733=>bI λXjv h741=>rnI [Bt,.el (X1 x),.pure _ (AV.tup [(Xa v732.1),(aB v732.2)])] ?_;intro h;refine X5.joinF (λ(q:Nb Xjv)=>⟨fr [(2,(AV.ptr 0 0 0)),(11,(AV.ref 1 0 (Xiq.length))),(22,(slE q.1 2 (Xjv.map Xa))),(96,(Lt (Xef.map X1))),(97,(aI .i64 (Xef.length:Int))),(98,(aI .i64 (k:Int)))],hp ([(0,Ob [(Xz false Xkp)] 10),(1,Ob (Xiq.map X0) 3)]++opE q.1 2 5 (Xjv.map Xa)),3⟩) ?_ (λJ=>X5.cut ?_)
    ·
     rintro Xva;rcases Xva with ⟨_|_,Xw7⟩
     ·
      exact X8 [] (k:=wkT [] (ih (k+1) hx1 _ nbF o h C0))
     obtain rfl:=Xw7 rfl;exact X8 [] (k:=wkT [] (ih (k+1) hx1 _ nbS o h C0))
    clear h;revert h741;refine brI (λh738=>?_) λh738=>?_
    ·
     refine bI λu739 h740=>?_;intro h;obtain rfl:=oj h;exact X8 [Bt,.no] (o:=by repeat' first|apply Ya|exact pcM|(refine X0g h740 rfl ?_;first|(simp<;>omega)|(simp[hc,h738]<;>omega))|(refine Xv h740 (by decide) ?_;first|(simp<;>omega)|(simp[hc,h738]<;>omega))|exact X1i) (k:=wkT [(2,6)] (X5.glue (J nbF)))
    intro h;obtain rfl:=oj h;exact X8 [Bf] (k:=wkT [] (X5.glue (J nbF)))
   obtain rfl:=Xbo rfl;refine X5.round ?_;revert h;refine bI λv742 h743=>bI λXrj h751=>rnI [Bt,.el (X1 x),.pure _ (AV.tup [(Xa v742.1),(aB v742.2)])] ?_;intro h;refine X5.joinF (λ(q:Nb Xrj)=>⟨fr [(2,(AV.ptr 0 0 0)),(11,(AV.ref 1 0 (Xiq.length))),(22,(slE q.1 2 (Xrj.map Xa))),(96,(Lt (Xef.map X1))),(97,(aI .i64 (Xef.length:Int))),(98,(aI .i64 (k:Int)))],hp ([(0,Ob [(Xz false Xkp)] 10),(1,Ob (Xiq.map X0) 3)]++opE q.1 2 5 (Xrj.map Xa)),3⟩) ?_ (λJ=>X5.cut ?_)
   ·
    rintro Xv9;rcases Xv9 with ⟨_|_,Xw6⟩
    ·
     exact X8 [] (k:=wkT [] (ih (k+1) hx1 _ nbF o h C0))
    obtain rfl:=Xw6 rfl;exact X8 [] (k:=wkT [] (ih (k+1) hx1 _ nbS o h C0))
   clear h;revert h751;refine brI (λh748=>?_) λh748=>?_
   ·
    refine bI λu749 h750=>?_;intro h;obtain rfl:=oj h;exact X8 [Bt,.no] (o:=by repeat' first|apply Ya|exact pcM|(refine X0g h750 rfl ?_;first|(simp<;>omega)|(simp[hc,h748]<;>omega))|(refine Xv h750 (by decide) ?_;first|(simp<;>omega)|(simp[hc,h748]<;>omega))|exact X1i) (k:=wkT [(2,6)] (X5.glue (J nbF)))
   intro h;obtain rfl:=oj h;exact X8 [Bf] (k:=wkT [] (X5.glue (J nbS)))
  obtain rfl:=Xnf rfl;rcases X9z with ⟨_|_,Xbo⟩
  ·
   refine X5.round ?_;revert h;refine bI λv752 h753=>bI λXri h761=>rnI [Bt,.el (X1 x),.pure _ (AV.tup [(Xa v752.1),(aB v752.2)])] ?_;intro h;refine X5.joinF (λ(q:Nb Xri)=>⟨fr [(2,(AV.ptr 0 0 0)),(11,AV.nils),(22,(slE q.1 2 (Xri.map Xa))),(96,(Lt (Xef.map X1))),(97,(aI .i64 (Xef.length:Int))),(98,(aI .i64 (k:Int)))],hp ([(0,Ob [(Xz false Xkp)] 10)]++opE q.1 2 5 (Xri.map Xa)),3⟩) ?_ (λJ=>X5.cut ?_)
   ·
    rintro Xv8;rcases Xv8 with ⟨_|_,Xw5⟩
    ·
     exact X8 [] (k:=wkT [] (ih (k+1) hx1 _ nbF o h C0))
    obtain rfl:=Xw5 rfl;exact X8 [] (k:=wkT [] (ih (k+1) hx1 _ nbS o h C0))
   clear h;revert h761;refine brI (λh758=>?_) λh758=>?_
   ·
    refine bI λu759 h760=>?_;intro h;obtain rfl:=oj h;exact X8 [Bt,.no] (o:=by repeat' first|apply Ya|exact pcM|(refine X0g h760 rfl ?_;first|(simp<;>omega)|(simp[hc,h758]<;>omega))|(refine Xv h760 (by decide) ?_;first|(simp<;>omega)|(simp[hc,h758]<;>omega))|exact X1i) (k:=wkT [(2,6)] (X5.glue (J nbF)))
   intro h;obtain rfl:=oj h;exact X8 [Bf] (k:=wkT [] (X5.glue (J nbF)))
  obtain rfl:=Xbo rfl;refine X5.round ?_;revert h;refine bI λv762 h763=>bI λXrh h771=>rnI [Bt,.el (X1 x),.pure _ (AV.tup [(Xa v762.1),(aB v762.2)])] ?_;intro h;refine X5.joinF (λ(q:Nb Xrh)=>⟨fr [(2,(AV.ptr 0 0 0)),(11,AV.nils),(22,(slE q.1 2 (Xrh.map Xa))),(96,(Lt (Xef.map X1))),(97,(aI .i64 (Xef.length:Int))),(98,(aI .i64 (k:Int)))],hp ([(0,Ob [(Xz false Xkp)] 10)]++opE q.1 2 5 (Xrh.map Xa)),3⟩) ?_ (λJ=>X5.cut ?_)
  ·
   rintro Xv7;rcases Xv7 with ⟨_|_,Xw4⟩
   ·
    exact X8 [] (k:=wkT [] (ih (k+1) hx1 _ nbF o h C0))
   obtain rfl:=Xw4 rfl;exact X8 [] (k:=wkT [] (ih (k+1) hx1 _ nbS o h C0))
  clear h;revert h771;refine brI (λh768=>?_) λh768=>?_
  ·
   refine bI λu769 h770=>?_;intro h;obtain rfl:=oj h;exact X8 [Bt,.no] (o:=by repeat' first|apply Ya|exact pcM|(refine X0g h770 rfl ?_;first|(simp<;>omega)|(simp[hc,h768]<;>omega))|(refine Xv h770 (by decide) ?_;first|(simp<;>omega)|(simp[hc,h768]<;>omega))|exact X1i) (k:=wkT [(2,6)] (X5.glue (J nbF)))
  intro h;obtain rfl:=oj h;exact X8 [Bf] (k:=wkT [] (X5.glue (J nbS)))
instance X02e:PZ 7 (∀ (a0:X00) (a1:(List (List Xq))) (r:(List X1z)×(List X6)×Int),X5v a0 a1=some r->Pz 7 [(Xz false a0),(Lf (List.map (X6v false Xk) a1))] (AV.tup [(Lt (r.1.map Xa)),(Lt (r.2.1.map X0)),(aI .i64 r.2.2)])):=⟨λa0 a1 r h=>by
 refine X15.sym X2 fn7 (nt:=119) rfl rfl ?_ okM;unfold X5v at h;revert h;refine bI λv1 h2=>brI (λh3=>λe=>oj e▸X8 [.pure _ (AV.tup [(aI .i64 v1.1),(aI .i64 v1.2)]),Bt] (k:=fi)) λh3=>brI (λh4=>λe=>oj e▸X8 [.pure _ (AV.tup [(aI .i64 v1.1),(aI .i64 v1.2)]),Bf,.el (aI .i64 (a1.length:Int)),.el (aI .i64 (a0.Sources.length:Int)),Bt] (k:=fi)) λh4=>bI λv5 h6=>rnI [.pure _ (AV.tup [(aI .i64 v1.1),(aI .i64 v1.2)]),Bf,.el (aI .i64 (a1.length:Int)),.el (aI .i64 (a0.Sources.length:Int)),Bf,.pure _ (aI .i64 v5)] ?_;refine brI (λh7=>λe=>oj e▸X8 [Bt] (k:=fi)) λh7=>rnI [Bf,.el (aI .i64 (a1.length:Int))] ?_;intro h;refine X5.nilsList 10 true rfl ?_;revert h;refine bI λu8 h9=>?_;have qh9:=X05 h9;refine bI λo647 h648=>rnI [] ?_;intro h;refine wkT [] (X5.cut (Xgr a0 a1 qh9 a1 0 (by simp) _ _ nbS _ h648 ?_ ?_))
 ·
  intro X6d X0d X0n eo647;subst eo647;refine X5.glue ?_;try dsimp only at h
  rcases X0n with ⟨_|_,X3z⟩
  ·
   revert h;refine bI λu649 h650=>?_;have qh650:=X05 h650;refine bI λo772 h773=>rnI [.el (aI .i64 (X6d.length:Int))] ?_;intro h;refine wkT [] (X5.cut (Xaz a0 X0d X6d nbF qh650 X6d 0 (by simp) _ nbS _ h773 ?_));intro Xb8 X4u X8l X65 eo772;subst eo772;refine X5.glue ?_;try dsimp only at h
   rcases X8l with ⟨_|_,Xgs⟩
   ·
    rcases X65 with ⟨_|_,X7g⟩
    ·
     revert h;refine bI λXju h777=>rnI [] ?_;intro h;refine X5.joinF (λ(q:Nb Xju)=>⟨fr [(11,(slE q.1 0 (Xju.map X0))),(22,(AV.ref 1 0 (X4u.length)))],hp ([(1,Ob (X4u.map Xa) 5)]++opE q.1 0 3 (Xju.map X0)),2⟩) ?_ (λJ=>X5.cut ?_)
     ·
      rintro Xv6;rcases Xv6 with ⟨_|_,Xw3⟩<;>(try obtain rfl:=Xw3 rfl);all_goals
       revert h;exact λe=>oj e▸X8 [] (k:=fi)
     clear h;revert h777;refine brI (λh776=>?_) λh776=>?_
     ·
      intro h;obtain rfl:=oj h;exact X8 [Bt] (k:=wkT [(1,2)] (X5.glue (J nbS)))
     intro h;obtain rfl:=oj h;exact X8 [Bf] (k:=wkT [(0,1),(1,2)] (X5.glue (J nbF)))
    obtain rfl:=X7g rfl;revert h;refine bI λXrg h781=>rnI [] ?_;intro h;refine X5.joinF (λ(q:Nb Xrg)=>⟨fr [(11,(slE q.1 0 (Xrg.map X0))),(22,AV.nils)],hp ([]++opE q.1 0 3 (Xrg.map X0)),2⟩) ?_ (λJ=>X5.cut ?_)
    ·
     rintro Xv5;rcases Xv5 with ⟨_|_,Xw2⟩<;>(try obtain rfl:=Xw2 rfl);all_goals
      revert h;exact λe=>oj e▸X8 [] (k:=fi)
    clear h;revert h781;refine brI (λh780=>?_) λh780=>?_
    ·
     intro h;obtain rfl:=oj h;exact X8 [Bt] (k:=wkT [] (X5.glue (J nbS)))
    intro h;obtain rfl:=oj h;exact X8 [Bf] (k:=wkT [(0,1)] (X5.glue (J nbF)))
   obtain rfl:=Xgs rfl;rcases X65 with ⟨_|_,X7g⟩
   ·
    revert h;refine bI λXrf h785=>rnI [] ?_;intro h;refine X5.joinF (λ(q:Nb Xrf)=>⟨fr [(11,(slE q.1 0 (Xrf.map X0))),(22,(AV.ref 1 0 (X4u.length)))],hp ([(1,Ob (X4u.map Xa) 5)]++opE q.1 0 3 (Xrf.map X0)),2⟩) ?_ (λJ=>X5.cut ?_)
    ·
     rintro Xv4;rcases Xv4 with ⟨_|_,Xw1⟩<;>(try obtain rfl:=Xw1 rfl);all_goals
      revert h;exact λe=>oj e▸X8 [] (k:=fi)
    clear h;revert h785;refine brI (λh784=>?_) λh784=>?_
    ·
     intro h;obtain rfl:=oj h;exact X8 [Bt] (k:=wkT [(1,2)] (X5.glue (J nbS)))
    intro h;obtain rfl:=oj h;exact X8 [Bf] (k:=wkT [(1,2)] (X5.glue (J nbS)))
   obtain rfl:=X7g rfl;revert h;refine bI λXre h789=>rnI [] ?_;intro h;refine X5.joinF (λ(q:Nb Xre)=>⟨fr [(11,(slE q.1 0 (Xre.map X0))),(22,AV.nils)],hp ([]++opE q.1 0 3 (Xre.map X0)),2⟩) ?_ (λJ=>X5.cut ?_)
   ·
    rintro Xv3;rcases Xv3 with ⟨_|_,Xw0⟩<;>(try obtain rfl:=Xw0 rfl);all_goals
     revert h;exact λe=>oj e▸X8 [] (k:=fi)
   clear h;revert h789;refine brI (λh788=>?_) λh788=>?_
   ·
    intro h;obtain rfl:=oj h;exact X8 [Bt] (k:=wkT [] (X5.glue (J nbS)))
   intro h;obtain rfl:=oj h;exact X8 [Bf] (k:=wkT [] (X5.glue (J nbS)))
  obtain rfl:=X3z rfl;revert h;refine bI λu790 h791=>?_;have qh791:=X05 h791;refine bI λo873 h874=>rnI [.el (aI .i64 (X6d.length:Int))] ?_;intro h;refine wkT [] (X5.cut (Xaz a0 ([]:List X6) X6d nbS qh791 X6d 0 (by simp) _ nbS _ h874 ?_));intro Xb8 X4u X8l X65 eo873;subst eo873;refine X5.glue ?_;try dsimp only at h
  rcases X8l with ⟨_|_,Xgs⟩
  ·
   rcases X65 with ⟨_|_,X7g⟩
   ·
    revert h;refine bI λXrc h878=>rnI [] ?_;intro h;refine X5.joinF (λ(q:Nb Xrc)=>⟨fr [(11,(slE q.1 0 (Xrc.map X0))),(22,(AV.ref 1 0 (X4u.length)))],hp ([(1,Ob (X4u.map Xa) 5)]++opE q.1 0 3 (Xrc.map X0)),2⟩) ?_ (λJ=>X5.cut ?_)
    ·
     rintro Xv1;rcases Xv1 with ⟨_|_,Xvy⟩<;>(try obtain rfl:=Xvy rfl);all_goals
      revert h;exact λe=>oj e▸X8 [] (k:=fi)
    clear h;revert h878;refine brI (λh877=>?_) λh877=>?_
    ·
     intro h;obtain rfl:=oj h;exact X8 [Bt] (k:=wkT [(1,2)] (X5.glue (J nbS)))
    intro h;obtain rfl:=oj h;exact X8 [Bf] (k:=wkT [(0,1),(1,2)] (X5.glue (J nbF)))
   obtain rfl:=X7g rfl;revert h;refine bI λXrb h882=>rnI [] ?_;intro h;refine X5.joinF (λ(q:Nb Xrb)=>⟨fr [(11,(slE q.1 0 (Xrb.map X0))),(22,AV.nils)],hp ([]++opE q.1 0 3 (Xrb.map X0)),2⟩) ?_ (λJ=>X5.cut ?_)
   ·
    rintro Xv0;rcases Xv0 with ⟨_|_,Xvx⟩<;>(try obtain rfl:=Xvx rfl);all_goals
     revert h;exact λe=>oj e▸X8 [] (k:=fi)
   clear h;revert h882;refine brI (λh881=>?_) λh881=>?_
   ·
    intro h;obtain rfl:=oj h;exact X8 [Bt] (k:=wkT [] (X5.glue (J nbS)))
   intro h;obtain rfl:=oj h;exact X8 [Bf] (k:=wkT [(0,1)] (X5.glue (J nbF)))
  obtain rfl:=Xgs rfl;rcases X65 with ⟨_|_,X7g⟩
  ·
   revert h;refine bI λXra h886=>rnI [] ?_;intro h;refine X5.joinF (λ(q:Nb Xra)=>⟨fr [(11,(slE q.1 0 (Xra.map X0))),(22,(AV.ref 1 0 (X4u.length)))],hp ([(1,Ob (X4u.map Xa) 5)]++opE q.1 0 3 (Xra.map X0)),2⟩) ?_ (λJ=>X5.cut ?_)
   ·
    rintro Xuz;rcases Xuz with ⟨_|_,Xvw⟩<;>(try obtain rfl:=Xvw rfl);all_goals
     revert h;exact λe=>oj e▸X8 [] (k:=fi)
   clear h;revert h886;refine brI (λh885=>?_) λh885=>?_
   ·
    intro h;obtain rfl:=oj h;exact X8 [Bt] (k:=wkT [(1,2)] (X5.glue (J nbS)))
   intro h;obtain rfl:=oj h;exact X8 [Bf] (k:=wkT [(1,2)] (X5.glue (J nbS)))
  obtain rfl:=X7g rfl;revert h;refine bI λXr9 h890=>rnI [] ?_;intro h;refine X5.joinF (λ(q:Nb Xr9)=>⟨fr [(11,(slE q.1 0 (Xr9.map X0))),(22,AV.nils)],hp ([]++opE q.1 0 3 (Xr9.map X0)),2⟩) ?_ (λJ=>X5.cut ?_)
  ·
   rintro Xuy;rcases Xuy with ⟨_|_,Xvv⟩<;>(try obtain rfl:=Xvv rfl);all_goals
    revert h;exact λe=>oj e▸X8 [] (k:=fi)
  clear h;revert h890;refine brI (λh889=>?_) λh889=>?_
  ·
   intro h;obtain rfl:=oj h;exact X8 [Bt] (k:=wkT [] (X5.glue (J nbS)))
  intro h;obtain rfl:=oj h;exact X8 [Bf] (k:=wkT [] (X5.glue (J nbS)))
 intro X09 X4v Xlh X08 X58 eo647;subst eo647;refine X5.glue ?_;try dsimp only at h
 rcases X08 with ⟨_|_,X31⟩<;>(try obtain rfl:=X31 rfl);all_goals
  rcases X58 with ⟨_|_,Xgt⟩<;>(try obtain rfl:=Xgt rfl);all_goals
   revert h;exact λe=>oj e▸X8 [] (k:=fi)⟩
instance Xqi:PZ 37 (∀ (a0:X6q) (a1:X6q) (r:Int),X5m a0 a1=some r->Pz 37 [(X6o a0),(X6o a1)] (aI .i64 r)):=⟨λa0 a1 r h=>by
 refine X15.sym X2 fn37 (nt:=40) rfl rfl ?_ okM;unfold X5m at h;revert h;exact bI λv1 h2=>bI λv3 h4=>bI λv5 h6=>bI λv7 h8=>bI λv9 h10=>bI λv11 h12=>λe=>oj e▸X8 [.pure _ (aI .i64 v1),.pure _ (aI .i64 v3),.pure _ (aI .i64 v5),.ix 0,.ix 0,.pure _ (aI .i64 v7),.ix 1,.ix 1,.pure _ (aI .i64 v9),.pure _ (aI .i64 v11)] (k:=fi)⟩
theorem X79 (a0:X1z) (a1:X1z) (r:Int) (h:Xp a0 a1=some r):Pz 39 [(Xa a0),(Xa a1),(AV.elem false (AV.fn 37 []) 0)] (aI .i64 r):=by
 refine X15.sym X2 fn39 (nt:=10) rfl rfl ?_ okM;unfold Xp at h;revert h;exact bI λv1 h2=>λe=>oj e▸X8 [.pure _ (aI .i64 v1)] (k:=fi)
end Go.Av.Tryz