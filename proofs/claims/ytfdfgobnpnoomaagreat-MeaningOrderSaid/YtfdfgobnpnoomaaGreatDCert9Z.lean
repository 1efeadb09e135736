/- Printed by decomp.py: that the program computes the functions. -/
import Derived.Test.YtfdfgobnpnoomaaGreatDCert8Z
set_option linter.all false

namespace Go.Av.Tryz
open Go.Proofs Go.D
set_option maxRecDepth 10000
set_option maxHeartbeats 40000000
theorem Xeb {Q:Xy->St->Mu->Prop} {μ:Mu} (Xm:Xu) (X90:(List (List Xg))) (hl:X90.length<=140737488355328):∀ (xs:List (List Xg)) (k:Nat) (hx:X90.drop k=xs) (X3p:(List X5)) (Xh:(List Xb)) (Xs:Nb Xh) (o:X5m) (h:X2h Xm X90 xs k X3p Xh=some o)
  (C0:∀ (X65:(List X5)) (X0d:(List Xb)) (X0f:Nb X0d),o=X5m.x0 X65 X0d->X2 Tryz.prog 119 0 Q (.exit (.exit 0)) [] ⟨fr [(2,(AV.ptr 0 0 0)),(10,(AV.list true (X65.map X4))),(11,(slE X0f.1 1 (X0d.map X3)))],hp ([(0,Ob [(Xq false Xm)] 10)]++opE X0f.1 1 3 (X0d.map X3)),2⟩ μ)
  (C1:∀ (X04:(List X3w)) (X4n:(List Xb)) (Xir:Int) (X02:Nb X04) (X3t:Nb X4n),o=X5m.x1 X04 X4n Xir->X2 Tryz.prog 119 0 Q (.exit .ret) [] ⟨fr [(4,(slE X02.1 0 (X04.map Xc))),(5,(slE X3t.1 1 (X4n.map X3))),(6,(aI .i64 Xir))],hp ([]++opE X02.1 0 5 (X04.map Xc)++opE X3t.1 1 3 (X4n.map X3)),2⟩ μ),
  X2 Tryz.prog 119 0 Q (.loop (X4k 0 (Xl Tryz.f19))) [] ⟨fr [(2,(AV.ptr 0 0 0)),(10,(AV.list true (X3p.map X4))),(11,(slE Xs.1 1 (Xh.map X3))),(46,(Lf (List.map (X7p false Xa) X90))),(47,(aI .i64 (X90.length:Int))),(48,(aI .i64 (k:Int)))],hp ([(0,Ob [(Xq false Xm)] 10)]++opE Xs.1 1 3 (Xh.map X3)),2⟩ μ:=by
 intro xs
 induction xs with
 |nil =>
  intro k hx X3p Xh Xs o h C0 C1
  have hk:=X18 hx
  have hc:decide ((k:Int)<(X90.length:Int))=false:=Yf (by omega)
  rw[X2h] at h
  rcases Xs with ⟨_|_,X07⟩
  ·
   refine X2.round ?_
   revert h
   exact fun e=>X8 [Bf] (k:=wkT [] (C0 _ _  nbF (oj e).symm))
  ·
   obtain rfl:=X07 rfl
   refine X2.round ?_
   revert h
   exact fun e=>X8 [Bf] (k:=wkT [] (C0 _ _  nbS (oj e).symm))
 |cons x xs ih =>
  intro k hx X3p Xh Xs o h C0 C1
  obtain⟨hk,hg,hx1⟩:=X0r hx
  have hc:decide ((k:Int)<(X90.length:Int))=true:=Yt (by omega)
  rw[X2h] at h
  rcases Xs with ⟨_|_,X07⟩
  ·
   refine X2.round ?_
   revert h
   refine bI fun v435 h436=>rnI [Bt,.el (X7p false Xa x),.pure _ (AV.tup [(AV.list true (v435.1.map X3)),(AV.list true (v435.2.1.map X3)),(aI .i64 v435.2.2)])] ?_
   refine brI (fun h437=>fun e=>X8 [Bt] (k:=wkT [] (C1 _ _ _  nbS nbS (oj e).symm))) fun h437=>?_
   refine brI (fun q=>?_) fun q=>?_
   ·
    intro h
    have h438:v435.2.1=[]:=List.isEmpty_iff.1 q
    revert h
    refine bI fun u439 h440=>?_
    have qh440:=X09 h440
    refine bI fun o502 h503=>rnI [Bf,.ne false,.el (aI .i64 (v435.1.length:Int))] ?_
    intro h
    refine wkT [] (X2.cut (X52 Xm (Xh++v435.2.1) (k:Int) X90 (X90.length:Int) (k:Int) v435.1 nbF qh440 v435.1 0 (by simp) _ _ h503 ?_ ?_))
    ·
     intro X8a X6w X49 eo502;subst eo502
     refine X2.glue ?_
     try dsimp only at h
     rcases X49 with ⟨_|_,X7a⟩
     ·
      exact X8 [] (k:=wkT [] (ih (k+1) hx1 _ _ nbF o h C0 C1))
     obtain rfl:=X7a rfl
     exact X8 [] (k:=wkT [] (ih (k+1) hx1 _ _ nbS o h C0 C1))
    intro X6v X6u Xbd X48 X2k eo502;subst eo502
    refine X2.glue ?_
    try dsimp only at h
    rcases X48 with ⟨_|_,X79⟩
    ·
     rcases X2k with ⟨_|_,X2a⟩
     ·
      revert h
      exact fun e=>X8 [] (k:=wkT [] (C1 _ _ _  nbF nbF (oj e).symm))
     obtain rfl:=X2a rfl
     revert h
     exact fun e=>X8 [] (k:=wkT [] (C1 _ _ _  nbF nbS (oj e).symm))
    obtain rfl:=X79 rfl
    rcases X2k with ⟨_|_,X2a⟩
    ·
     revert h
     exact fun e=>X8 [] (k:=wkT [] (C1 _ _ _  nbS nbF (oj e).symm))
    obtain rfl:=X2a rfl
    revert h
    exact fun e=>X8 [] (k:=wkT [] (C1 _ _ _  nbS nbS (oj e).symm))
   intro h
   have h438:¬ (v435.2.1=[]):=(fun e=>by rw[e] at q;cases q)
   revert h
   refine bI fun u504 h505=>bI fun u506 h507=>?_
   have qh507:=X09 h507
   refine bI fun o549 h550=>rnI [Bf,.via (AV.list true (v435.2.1.map X3)),.el (aI .i64 (v435.1.length:Int))] (o:=by repeat' first|apply Ya|exact pcM|(refine X0s h505 rfl ?_;first|(simp;done)|(simp;omega)|(simp[hc,h437,h438];done)|(simp[hc,h437,h438];omega))|(refine X01 h505 (by decide) ?_;first|(simp;done)|(simp;omega)|(simp[hc,h437,h438];done)|(simp[hc,h437,h438];omega))|exact X08) ?_
   intro h
   refine wkT [(1,2)] (X2.cut (X52 Xm (Xh++v435.2.1) (k:Int) X90 (X90.length:Int) (k:Int) v435.1 nbF qh507 v435.1 0 (by simp) _ _ h550 ?_ ?_))
   ·
    intro X8a X6w X49 eo549;subst eo549
    refine X2.glue ?_
    try dsimp only at h
    rcases X49 with ⟨_|_,X7a⟩
    ·
     exact X8 [] (o:=by repeat' first|apply Ya|exact pcM|(refine X0s h505 rfl ?_;first|(simp;done)|(simp;omega)|(simp[hc,h437,h438];done)|(simp[hc,h437,h438];omega))|(refine X01 h505 (by decide) ?_;first|(simp;done)|(simp;omega)|(simp[hc,h437,h438];done)|(simp[hc,h437,h438];omega))|exact X08) (k:=wkT [] (ih (k+1) hx1 _ _ nbF o h C0 C1))
    obtain rfl:=X7a rfl
    exact X8 [] (o:=by repeat' first|apply Ya|exact pcM|(refine X0s h505 rfl ?_;first|(simp;done)|(simp;omega)|(simp[hc,h437,h438];done)|(simp[hc,h437,h438];omega))|(refine X01 h505 (by decide) ?_;first|(simp;done)|(simp;omega)|(simp[hc,h437,h438];done)|(simp[hc,h437,h438];omega))|exact X08) (k:=wkT [] (ih (k+1) hx1 _ _ nbS o h C0 C1))
   intro X6v X6u Xbd X48 X2k eo549;subst eo549
   refine X2.glue ?_
   try dsimp only at h
   rcases X48 with ⟨_|_,X79⟩
   ·
    rcases X2k with ⟨_|_,X2a⟩
    ·
     revert h
     exact fun e=>X8 [] (o:=by repeat' first|apply Ya|exact pcM|(refine X0s h505 rfl ?_;first|(simp;done)|(simp;omega)|(simp[hc,h437,h438];done)|(simp[hc,h437,h438];omega))|(refine X01 h505 (by decide) ?_;first|(simp;done)|(simp;omega)|(simp[hc,h437,h438];done)|(simp[hc,h437,h438];omega))|exact X08) (k:=wkT [] (C1 _ _ _  nbF nbF (oj e).symm))
    obtain rfl:=X2a rfl
    revert h
    exact fun e=>X8 [] (o:=by repeat' first|apply Ya|exact pcM|(refine X0s h505 rfl ?_;first|(simp;done)|(simp;omega)|(simp[hc,h437,h438];done)|(simp[hc,h437,h438];omega))|(refine X01 h505 (by decide) ?_;first|(simp;done)|(simp;omega)|(simp[hc,h437,h438];done)|(simp[hc,h437,h438];omega))|exact X08) (k:=wkT [] (C1 _ _ _  nbF nbS (oj e).symm))
   obtain rfl:=X79 rfl
   rcases X2k with ⟨_|_,X2a⟩
   ·
    revert h
    exact fun e=>X8 [] (o:=by repeat' first|apply Ya|exact pcM|(refine X0s h505 rfl ?_;first|(simp;done)|(simp;omega)|(simp[hc,h437,h438];done)|(simp[hc,h437,h438];omega))|(refine X01 h505 (by decide) ?_;first|(simp;done)|(simp;omega)|(simp[hc,h437,h438];done)|(simp[hc,h437,h438];omega))|exact X08) (k:=wkT [] (C1 _ _ _  nbS nbF (oj e).symm))
   obtain rfl:=X2a rfl
   revert h
   exact fun e=>X8 [] (o:=by repeat' first|apply Ya|exact pcM|(refine X0s h505 rfl ?_;first|(simp;done)|(simp;omega)|(simp[hc,h437,h438];done)|(simp[hc,h437,h438];omega))|(refine X01 h505 (by decide) ?_;first|(simp;done)|(simp;omega)|(simp[hc,h437,h438];done)|(simp[hc,h437,h438];omega))|exact X08) (k:=wkT [] (C1 _ _ _  nbS nbS (oj e).symm))
  obtain rfl:=X07 rfl
  refine X2.round ?_
  revert h
  refine bI fun v551 h552=>rnI [Bt,.el (X7p false Xa x),.pure _ (AV.tup [(AV.list true (v551.1.map X3)),(AV.list true (v551.2.1.map X3)),(aI .i64 v551.2.2)])] ?_
  refine brI (fun h553=>fun e=>X8 [Bt] (k:=wkT [] (C1 _ _ _  nbS nbS (oj e).symm))) fun h553=>?_
  refine brI (fun q=>?_) fun q=>?_
  ·
   intro h
   have h554:v551.2.1=[]:=List.isEmpty_iff.1 q
   revert h
   refine bI fun u555 h556=>?_
   have qh556:=X09 h556
   refine bI fun o598 h599=>rnI [Bf,.ne false,.el (aI .i64 (v551.1.length:Int))] ?_
   intro h
   refine wkT [] (X2.cut (X52 Xm (([]:List Xb)++v551.2.1) (k:Int) X90 (X90.length:Int) (k:Int) v551.1 nbS qh556 v551.1 0 (by simp) _ _ h599 ?_ ?_))
   ·
    intro X8a X6w X49 eo598;subst eo598
    refine X2.glue ?_
    try dsimp only at h
    rcases X49 with ⟨_|_,X7a⟩
    ·
     exact X8 [] (k:=wkT [] (ih (k+1) hx1 _ _ nbF o h C0 C1))
    obtain rfl:=X7a rfl
    exact X8 [] (k:=wkT [] (ih (k+1) hx1 _ _ nbS o h C0 C1))
   intro X6v X6u Xbd X48 X2k eo598;subst eo598
   refine X2.glue ?_
   try dsimp only at h
   rcases X48 with ⟨_|_,X79⟩
   ·
    rcases X2k with ⟨_|_,X2a⟩
    ·
     revert h
     exact fun e=>X8 [] (k:=wkT [] (C1 _ _ _  nbF nbF (oj e).symm))
    obtain rfl:=X2a rfl
    revert h
    exact fun e=>X8 [] (k:=wkT [] (C1 _ _ _  nbF nbS (oj e).symm))
   obtain rfl:=X79 rfl
   rcases X2k with ⟨_|_,X2a⟩
   ·
    revert h
    exact fun e=>X8 [] (k:=wkT [] (C1 _ _ _  nbS nbF (oj e).symm))
   obtain rfl:=X2a rfl
   revert h
   exact fun e=>X8 [] (k:=wkT [] (C1 _ _ _  nbS nbS (oj e).symm))
  intro h
  have h554:¬ (v551.2.1=[]):=(fun e=>by rw[e] at q;cases q)
  revert h
  refine bI fun u600 h601=>bI fun u602 h603=>?_
  have qh603:=X09 h603
  refine bI fun o645 h646=>rnI [Bf,.via (AV.list true (v551.2.1.map X3)),.el (aI .i64 (v551.1.length:Int))] (o:=by repeat' first|apply Ya|exact pcM|(refine X0s h601 rfl ?_;first|(simp;done)|(simp;omega)|(simp[hc,h553,h554];done)|(simp[hc,h553,h554];omega))|(refine X01 h601 (by decide) ?_;first|(simp;done)|(simp;omega)|(simp[hc,h553,h554];done)|(simp[hc,h553,h554];omega))|exact X08) ?_
  intro h
  refine wkT [(1,2)] (X2.cut (X52 Xm (([]:List Xb)++v551.2.1) (k:Int) X90 (X90.length:Int) (k:Int) v551.1 nbF qh603 v551.1 0 (by simp) _ _ h646 ?_ ?_))
  ·
   intro X8a X6w X49 eo645;subst eo645
   refine X2.glue ?_
   try dsimp only at h
   rcases X49 with ⟨_|_,X7a⟩
   ·
    exact X8 [] (o:=by repeat' first|apply Ya|exact pcM|(refine X0s h601 rfl ?_;first|(simp;done)|(simp;omega)|(simp[hc,h553,h554];done)|(simp[hc,h553,h554];omega))|(refine X01 h601 (by decide) ?_;first|(simp;done)|(simp;omega)|(simp[hc,h553,h554];done)|(simp[hc,h553,h554];omega))|exact X08) (k:=wkT [] (ih (k+1) hx1 _ _ nbF o h C0 C1))
   obtain rfl:=X7a rfl
   exact X8 [] (o:=by repeat' first|apply Ya|exact pcM|(refine X0s h601 rfl ?_;first|(simp;done)|(simp;omega)|(simp[hc,h553,h554];done)|(simp[hc,h553,h554];omega))|(refine X01 h601 (by decide) ?_;first|(simp;done)|(simp;omega)|(simp[hc,h553,h554];done)|(simp[hc,h553,h554];omega))|exact X08) (k:=wkT [] (ih (k+1) hx1 _ _ nbS o h C0 C1))
  intro X6v X6u Xbd X48 X2k eo645;subst eo645
  refine X2.glue ?_
  try dsimp only at h
  rcases X48 with ⟨_|_,X79⟩
  ·
   rcases X2k with ⟨_|_,X2a⟩
   ·
    revert h
    exact fun e=>X8 [] (o:=by repeat' first|apply Ya|exact pcM|(refine X0s h601 rfl ?_;first|(simp;done)|(simp;omega)|(simp[hc,h553,h554];done)|(simp[hc,h553,h554];omega))|(refine X01 h601 (by decide) ?_;first|(simp;done)|(simp;omega)|(simp[hc,h553,h554];done)|(simp[hc,h553,h554];omega))|exact X08) (k:=wkT [] (C1 _ _ _  nbF nbF (oj e).symm))
   obtain rfl:=X2a rfl
   revert h
   exact fun e=>X8 [] (o:=by repeat' first|apply Ya|exact pcM|(refine X0s h601 rfl ?_;first|(simp;done)|(simp;omega)|(simp[hc,h553,h554];done)|(simp[hc,h553,h554];omega))|(refine X01 h601 (by decide) ?_;first|(simp;done)|(simp;omega)|(simp[hc,h553,h554];done)|(simp[hc,h553,h554];omega))|exact X08) (k:=wkT [] (C1 _ _ _  nbF nbS (oj e).symm))
  obtain rfl:=X79 rfl
  rcases X2k with ⟨_|_,X2a⟩
  ·
   revert h
   exact fun e=>X8 [] (o:=by repeat' first|apply Ya|exact pcM|(refine X0s h601 rfl ?_;first|(simp;done)|(simp;omega)|(simp[hc,h553,h554];done)|(simp[hc,h553,h554];omega))|(refine X01 h601 (by decide) ?_;first|(simp;done)|(simp;omega)|(simp[hc,h553,h554];done)|(simp[hc,h553,h554];omega))|exact X08) (k:=wkT [] (C1 _ _ _  nbS nbF (oj e).symm))
  obtain rfl:=X2a rfl
  revert h
  exact fun e=>X8 [] (o:=by repeat' first|apply Ya|exact pcM|(refine X0s h601 rfl ?_;first|(simp;done)|(simp;omega)|(simp[hc,h553,h554];done)|(simp[hc,h553,h554];omega))|(refine X01 h601 (by decide) ?_;first|(simp;done)|(simp;omega)|(simp[hc,h553,h554];done)|(simp[hc,h553,h554];omega))|exact X08) (k:=wkT [] (C1 _ _ _  nbS nbS (oj e).symm))
theorem Xa3 {Q:Xy->St->Mu->Prop} {μ:Mu} (Xi3:Xu) (Xg9:(List Xb)) (Xbf:(List X5)) (Xfy:Nb Xg9) (hl:Xbf.length<=140737488355328):∀ (xs:List X5) (k:Nat) (hx:Xbf.drop k=xs) (Xfb:(List X3w)) (X9a:Nb Xfb) (o:X7r) (h:X2s Xi3 Xg9 Xbf xs k Xfb=some o)
  (C0:∀ (Xad:(List Xb)) (X4m:(List X3w)) (X86:Nb Xad) (X60:Nb X4m),o=X7r.x0 Xad X4m->X2 Tryz.prog 119 0 Q (.exit (.exit 4)) [] ⟨fr [(2,(AV.ptr 0 0 0)),(11,(slE X86.1 1 (Xad.map X3))),(22,(slE X60.1 2 (X4m.map Xc)))],hp ([(0,Ob [(Xq false Xi3)] 10)]++opE X86.1 1 3 (Xad.map X3)++opE X60.1 2 5 (X4m.map Xc)),3⟩ μ),
  X2 Tryz.prog 119 0 Q (.loop (X4k 2 (Xl Tryz.f19))) [] ⟨fr [(2,(AV.ptr 0 0 0)),(11,(slE Xfy.1 1 (Xg9.map X3))),(22,(slE X9a.1 2 (Xfb.map Xc))),(96,(AV.list true (Xbf.map X4))),(97,(aI .i64 (Xbf.length:Int))),(98,(aI .i64 (k:Int)))],hp ([(0,Ob [(Xq false Xi3)] 10)]++opE Xfy.1 1 3 (Xg9.map X3)++opE X9a.1 2 5 (Xfb.map Xc)),3⟩ μ:=by
 intro xs
 induction xs with
 |nil =>
  intro k hx Xfb X9a o h C0
  have hk:=X18 hx
  have hc:decide ((k:Int)<(Xbf.length:Int))=false:=Yf (by omega)
  rw[X2s] at h
  rcases Xfy with ⟨_|_,Xki⟩
  ·
   rcases X9a with ⟨_|_,Xav⟩
   ·
    refine X2.round ?_
    revert h
    exact fun e=>X8 [Bf] (k:=wkT [] (C0 _ _  nbF nbF (oj e).symm))
   obtain rfl:=Xav rfl
   refine X2.round ?_
   revert h
   exact fun e=>X8 [Bf] (k:=wkT [] (C0 _ _  nbF nbS (oj e).symm))
  ·
   obtain rfl:=Xki rfl
   rcases X9a with ⟨_|_,Xav⟩
   ·
    refine X2.round ?_
    revert h
    exact fun e=>X8 [Bf] (k:=wkT [] (C0 _ _  nbS nbF (oj e).symm))
   ·
    obtain rfl:=Xav rfl
    refine X2.round ?_
    revert h
    exact fun e=>X8 [Bf] (k:=wkT [] (C0 _ _  nbS nbS (oj e).symm))
 |cons x xs ih =>
  intro k hx Xfb X9a o h C0
  obtain⟨hk,hg,hx1⟩:=X0r hx
  have hc:decide ((k:Int)<(Xbf.length:Int))=true:=Yt (by omega)
  rw[X2s] at h
  rcases Xfy with ⟨_|_,Xki⟩
  ·
   rcases X9a with ⟨_|_,Xav⟩
   ·
    refine X2.round ?_
    revert h
    refine bI fun v732 h733=>bI fun Xhf h741=>rnI [Bt,.el (X4 x),.pure _ (AV.tup [(Xc v732.1),(aB v732.2)])] ?_
    intro h
    refine X2.joinF (fun(q:Nb Xhf)=>⟨fr [(2,(AV.ptr 0 0 0)),(11,(AV.ref 1 0 (Xg9.length))),(22,(slE q.1 2 (Xhf.map Xc))),(96,(AV.list true (Xbf.map X4))),(97,(aI .i64 (Xbf.length:Int))),(98,(aI .i64 (k:Int)))],hp ([(0,Ob [(Xq false Xi3)] 10),(1,Ob (Xg9.map X3) 3)]++opE q.1 2 5 (Xhf.map Xc)),3⟩) ?_ (fun J=>X2.cut ?_)
    ·
     rintro Xqy
     rcases Xqy with ⟨_|_,Xrp⟩
     ·
      exact X8 [] (k:=wkT [] (ih (k+1) hx1 _ nbF o h C0))
     obtain rfl:=Xrp rfl
     exact X8 [] (k:=wkT [] (ih (k+1) hx1 _ nbS o h C0))
    clear h;revert h741
    refine brI (fun h738=>?_) fun h738=>?_
    ·
     refine bI fun u739 h740=>?_
     intro h
     obtain rfl:=oj h
     exact X8 [Bt,.no] (o:=by repeat' first|apply Ya|exact pcM|(refine X0s h740 rfl ?_;first|(simp;done)|(simp;omega)|(simp[hc,h738];done)|(simp[hc,h738];omega))|(refine X01 h740 (by decide) ?_;first|(simp;done)|(simp;omega)|(simp[hc,h738];done)|(simp[hc,h738];omega))|exact X08) (k:=wkT [(2,6)] (X2.glue (J nbF)))
    intro h
    obtain rfl:=oj h
    exact X8 [Bf] (k:=wkT [] (X2.glue (J nbF)))
   obtain rfl:=Xav rfl
   refine X2.round ?_
   revert h
   refine bI fun v742 h743=>bI fun Xnu h751=>rnI [Bt,.el (X4 x),.pure _ (AV.tup [(Xc v742.1),(aB v742.2)])] ?_
   intro h
   refine X2.joinF (fun(q:Nb Xnu)=>⟨fr [(2,(AV.ptr 0 0 0)),(11,(AV.ref 1 0 (Xg9.length))),(22,(slE q.1 2 (Xnu.map Xc))),(96,(AV.list true (Xbf.map X4))),(97,(aI .i64 (Xbf.length:Int))),(98,(aI .i64 (k:Int)))],hp ([(0,Ob [(Xq false Xi3)] 10),(1,Ob (Xg9.map X3) 3)]++opE q.1 2 5 (Xnu.map Xc)),3⟩) ?_ (fun J=>X2.cut ?_)
   ·
    rintro Xqx
    rcases Xqx with ⟨_|_,Xro⟩
    ·
     exact X8 [] (k:=wkT [] (ih (k+1) hx1 _ nbF o h C0))
    obtain rfl:=Xro rfl
    exact X8 [] (k:=wkT [] (ih (k+1) hx1 _ nbS o h C0))
   clear h;revert h751
   refine brI (fun h748=>?_) fun h748=>?_
   ·
    refine bI fun u749 h750=>?_
    intro h
    obtain rfl:=oj h
    exact X8 [Bt,.no] (o:=by repeat' first|apply Ya|exact pcM|(refine X0s h750 rfl ?_;first|(simp;done)|(simp;omega)|(simp[hc,h748];done)|(simp[hc,h748];omega))|(refine X01 h750 (by decide) ?_;first|(simp;done)|(simp;omega)|(simp[hc,h748];done)|(simp[hc,h748];omega))|exact X08) (k:=wkT [(2,6)] (X2.glue (J nbF)))
   intro h
   obtain rfl:=oj h
   exact X8 [Bf] (k:=wkT [] (X2.glue (J nbS)))
  obtain rfl:=Xki rfl
  rcases X9a with ⟨_|_,Xav⟩
  ·
   refine X2.round ?_
   revert h
   refine bI fun v752 h753=>bI fun Xnt h761=>rnI [Bt,.el (X4 x),.pure _ (AV.tup [(Xc v752.1),(aB v752.2)])] ?_
   intro h
   refine X2.joinF (fun(q:Nb Xnt)=>⟨fr [(2,(AV.ptr 0 0 0)),(11,AV.nils),(22,(slE q.1 2 (Xnt.map Xc))),(96,(AV.list true (Xbf.map X4))),(97,(aI .i64 (Xbf.length:Int))),(98,(aI .i64 (k:Int)))],hp ([(0,Ob [(Xq false Xi3)] 10)]++opE q.1 2 5 (Xnt.map Xc)),3⟩) ?_ (fun J=>X2.cut ?_)
   ·
    rintro Xqw
    rcases Xqw with ⟨_|_,Xrn⟩
    ·
     exact X8 [] (k:=wkT [] (ih (k+1) hx1 _ nbF o h C0))
    obtain rfl:=Xrn rfl
    exact X8 [] (k:=wkT [] (ih (k+1) hx1 _ nbS o h C0))
   clear h;revert h761
   refine brI (fun h758=>?_) fun h758=>?_
   ·
    refine bI fun u759 h760=>?_
    intro h
    obtain rfl:=oj h
    exact X8 [Bt,.no] (o:=by repeat' first|apply Ya|exact pcM|(refine X0s h760 rfl ?_;first|(simp;done)|(simp;omega)|(simp[hc,h758];done)|(simp[hc,h758];omega))|(refine X01 h760 (by decide) ?_;first|(simp;done)|(simp;omega)|(simp[hc,h758];done)|(simp[hc,h758];omega))|exact X08) (k:=wkT [(2,6)] (X2.glue (J nbF)))
   intro h
   obtain rfl:=oj h
   exact X8 [Bf] (k:=wkT [] (X2.glue (J nbF)))
  obtain rfl:=Xav rfl
  refine X2.round ?_
  revert h
  refine bI fun v762 h763=>bI fun Xns h771=>rnI [Bt,.el (X4 x),.pure _ (AV.tup [(Xc v762.1),(aB v762.2)])] ?_
  intro h
  refine X2.joinF (fun(q:Nb Xns)=>⟨fr [(2,(AV.ptr 0 0 0)),(11,AV.nils),(22,(slE q.1 2 (Xns.map Xc))),(96,(AV.list true (Xbf.map X4))),(97,(aI .i64 (Xbf.length:Int))),(98,(aI .i64 (k:Int)))],hp ([(0,Ob [(Xq false Xi3)] 10)]++opE q.1 2 5 (Xns.map Xc)),3⟩) ?_ (fun J=>X2.cut ?_)
  ·
   rintro Xqv
   rcases Xqv with ⟨_|_,Xrm⟩
   ·
    exact X8 [] (k:=wkT [] (ih (k+1) hx1 _ nbF o h C0))
   obtain rfl:=Xrm rfl
   exact X8 [] (k:=wkT [] (ih (k+1) hx1 _ nbS o h C0))
  clear h;revert h771
  refine brI (fun h768=>?_) fun h768=>?_
  ·
   refine bI fun u769 h770=>?_
   intro h
   obtain rfl:=oj h
   exact X8 [Bt,.no] (o:=by repeat' first|apply Ya|exact pcM|(refine X0s h770 rfl ?_;first|(simp;done)|(simp;omega)|(simp[hc,h768];done)|(simp[hc,h768];omega))|(refine X01 h770 (by decide) ?_;first|(simp;done)|(simp;omega)|(simp[hc,h768];done)|(simp[hc,h768];omega))|exact X08) (k:=wkT [(2,6)] (X2.glue (J nbF)))
  intro h
  obtain rfl:=oj h
  exact X8 [Bf] (k:=wkT [] (X2.glue (J nbS)))
instance Xwi:PCs Tryz.prog 19 (∀ (a0:Xu) (a1:(List (List Xg))) (r:(List X3w)×(List Xb)×Int),X5u a0 a1=some r->X0o Tryz.prog 19 [(Xq false a0),(Lf (List.map (X7p false Xa) a1))] (AV.tup [(AV.list true (r.1.map Xc)),(AV.list true (r.2.1.map X3)),(aI .i64 r.2.2)])):=⟨fun a0 a1 r h=>by
 refine X0o.sym X9 fn19 (nt:=119) rfl rfl ?_ okM
 unfold X5u at h
 revert h
 refine bI fun v1 h2=>brI (fun h3=>fun e=>oj e▸X8 [.pure _ (AV.tup [(aI .i64 v1.1),(aI .i64 v1.2)]),Bt] (k:=fi)) fun h3=>brI (fun h4=>fun e=>oj e▸X8 [.pure _ (AV.tup [(aI .i64 v1.1),(aI .i64 v1.2)]),Bf,.el (aI .i64 (a1.length:Int)),.el (aI .i64 (a0.Sources.length:Int)),Bt] (k:=fi)) fun h4=>bI fun v5 h6=>rnI [.pure _ (AV.tup [(aI .i64 v1.1),(aI .i64 v1.2)]),Bf,.el (aI .i64 (a1.length:Int)),.el (aI .i64 (a0.Sources.length:Int)),Bf,.pure _ (aI .i64 v5)] ?_
 refine brI (fun h7=>fun e=>oj e▸X8 [Bt] (k:=fi)) fun h7=>rnI [Bf,.el (aI .i64 (a1.length:Int))] ?_
 intro h
 refine X2.nilsList 10 true rfl ?_
 revert h
 refine bI fun u8 h9=>?_
 have qh9:=X09 h9
 refine bI fun o647 h648=>rnI [] ?_
 intro h
 refine wkT [] (X2.cut (Xeb a0 a1 qh9 a1 0 (by simp) _ _ nbS _ h648 ?_ ?_))
 ·
  intro X65 X0d X0f eo647;subst eo647
  refine X2.glue ?_
  try dsimp only at h
  rcases X0f with ⟨_|_,X2d⟩
  ·
   revert h
   refine bI fun u649 h650=>?_
   have qh650:=X09 h650
   refine bI fun o772 h773=>rnI [.el (aI .i64 (X65.length:Int))] ?_
   intro h
   refine wkT [] (X2.cut (Xa3 a0 X0d X65 nbF qh650 X65 0 (by simp) _ nbS _ h773 ?_))
   intro Xad X4m X86 X60 eo772;subst eo772
   refine X2.glue ?_
   try dsimp only at h
   rcases X86 with ⟨_|_,Xeg⟩
   ·
    rcases X60 with ⟨_|_,X78⟩
    ·
     revert h
     refine bI fun Xhe h777=>rnI [] ?_
     intro h
     refine X2.joinF (fun(q:Nb Xhe)=>⟨fr [(11,(slE q.1 0 (Xhe.map X3))),(22,(AV.ref 1 0 (X4m.length)))],hp ([(1,Ob (X4m.map Xc) 5)]++opE q.1 0 3 (Xhe.map X3)),2⟩) ?_ (fun J=>X2.cut ?_)
     ·
      rintro Xqu
      rcases Xqu with ⟨_|_,Xrl⟩
      ·
       revert h
       exact fun e=>oj e▸X8 [] (k:=fi)
      obtain rfl:=Xrl rfl
      revert h
      exact fun e=>oj e▸X8 [] (k:=fi)
     clear h;revert h777
     refine brI (fun h776=>?_) fun h776=>?_
     ·
      intro h
      obtain rfl:=oj h
      exact X8 [Bt] (k:=wkT [(1,2)] (X2.glue (J nbS)))
     intro h
     obtain rfl:=oj h
     exact X8 [Bf] (k:=wkT [(0,1),(1,2)] (X2.glue (J nbF)))
    obtain rfl:=X78 rfl
    revert h
    refine bI fun Xnr h781=>rnI [] ?_
    intro h
    refine X2.joinF (fun(q:Nb Xnr)=>⟨fr [(11,(slE q.1 0 (Xnr.map X3))),(22,AV.nils)],hp ([]++opE q.1 0 3 (Xnr.map X3)),2⟩) ?_ (fun J=>X2.cut ?_)
    ·
     rintro Xqt
     rcases Xqt with ⟨_|_,Xrk⟩
     ·
      revert h
      exact fun e=>oj e▸X8 [] (k:=fi)
     obtain rfl:=Xrk rfl
     revert h
     exact fun e=>oj e▸X8 [] (k:=fi)
    clear h;revert h781
    refine brI (fun h780=>?_) fun h780=>?_
    ·
     intro h
     obtain rfl:=oj h
     exact X8 [Bt] (k:=wkT [] (X2.glue (J nbS)))
    intro h
    obtain rfl:=oj h
    exact X8 [Bf] (k:=wkT [(0,1)] (X2.glue (J nbF)))
   obtain rfl:=Xeg rfl
   rcases X60 with ⟨_|_,X78⟩
   ·
    revert h
    refine bI fun Xnq h785=>rnI [] ?_
    intro h
    refine X2.joinF (fun(q:Nb Xnq)=>⟨fr [(11,(slE q.1 0 (Xnq.map X3))),(22,(AV.ref 1 0 (X4m.length)))],hp ([(1,Ob (X4m.map Xc) 5)]++opE q.1 0 3 (Xnq.map X3)),2⟩) ?_ (fun J=>X2.cut ?_)
    ·
     rintro Xqs
     rcases Xqs with ⟨_|_,Xrj⟩
     ·
      revert h
      exact fun e=>oj e▸X8 [] (k:=fi)
     obtain rfl:=Xrj rfl
     revert h
     exact fun e=>oj e▸X8 [] (k:=fi)
    clear h;revert h785
    refine brI (fun h784=>?_) fun h784=>?_
    ·
     intro h
     obtain rfl:=oj h
     exact X8 [Bt] (k:=wkT [(1,2)] (X2.glue (J nbS)))
    intro h
    obtain rfl:=oj h
    exact X8 [Bf] (k:=wkT [(1,2)] (X2.glue (J nbS)))
   obtain rfl:=X78 rfl
   revert h
   refine bI fun Xnp h789=>rnI [] ?_
   intro h
   refine X2.joinF (fun(q:Nb Xnp)=>⟨fr [(11,(slE q.1 0 (Xnp.map X3))),(22,AV.nils)],hp ([]++opE q.1 0 3 (Xnp.map X3)),2⟩) ?_ (fun J=>X2.cut ?_)
   ·
    rintro Xqr
    rcases Xqr with ⟨_|_,Xri⟩
    ·
     revert h
     exact fun e=>oj e▸X8 [] (k:=fi)
    obtain rfl:=Xri rfl
    revert h
    exact fun e=>oj e▸X8 [] (k:=fi)
   clear h;revert h789
   refine brI (fun h788=>?_) fun h788=>?_
   ·
    intro h
    obtain rfl:=oj h
    exact X8 [Bt] (k:=wkT [] (X2.glue (J nbS)))
   intro h
   obtain rfl:=oj h
   exact X8 [Bf] (k:=wkT [] (X2.glue (J nbS)))
  obtain rfl:=X2d rfl
  revert h
  refine bI fun u790 h791=>?_
  have qh791:=X09 h791
  refine bI fun o873 h874=>rnI [.el (aI .i64 (X65.length:Int))] ?_
  intro h
  refine wkT [] (X2.cut (Xa3 a0 ([]:List Xb) X65 nbS qh791 X65 0 (by simp) _ nbS _ h874 ?_))
  intro Xad X4m X86 X60 eo873;subst eo873
  refine X2.glue ?_
  try dsimp only at h
  rcases X86 with ⟨_|_,Xeg⟩
  ·
   rcases X60 with ⟨_|_,X78⟩
   ·
    revert h
    refine bI fun Xno h878=>rnI [] ?_
    intro h
    refine X2.joinF (fun(q:Nb Xno)=>⟨fr [(11,(slE q.1 0 (Xno.map X3))),(22,(AV.ref 1 0 (X4m.length)))],hp ([(1,Ob (X4m.map Xc) 5)]++opE q.1 0 3 (Xno.map X3)),2⟩) ?_ (fun J=>X2.cut ?_)
    ·
     rintro Xqp
     rcases Xqp with ⟨_|_,Xrg⟩
     ·
      revert h
      exact fun e=>oj e▸X8 [] (k:=fi)
     obtain rfl:=Xrg rfl
     revert h
     exact fun e=>oj e▸X8 [] (k:=fi)
    clear h;revert h878
    refine brI (fun h877=>?_) fun h877=>?_
    ·
     intro h
     obtain rfl:=oj h
     exact X8 [Bt] (k:=wkT [(1,2)] (X2.glue (J nbS)))
    intro h
    obtain rfl:=oj h
    exact X8 [Bf] (k:=wkT [(0,1),(1,2)] (X2.glue (J nbF)))
   obtain rfl:=X78 rfl
   revert h
   refine bI fun Xnn h882=>rnI [] ?_
   intro h
   refine X2.joinF (fun(q:Nb Xnn)=>⟨fr [(11,(slE q.1 0 (Xnn.map X3))),(22,AV.nils)],hp ([]++opE q.1 0 3 (Xnn.map X3)),2⟩) ?_ (fun J=>X2.cut ?_)
   ·
    rintro Xqo
    rcases Xqo with ⟨_|_,Xrf⟩
    ·
     revert h
     exact fun e=>oj e▸X8 [] (k:=fi)
    obtain rfl:=Xrf rfl
    revert h
    exact fun e=>oj e▸X8 [] (k:=fi)
   clear h;revert h882
   refine brI (fun h881=>?_) fun h881=>?_
   ·
    intro h
    obtain rfl:=oj h
    exact X8 [Bt] (k:=wkT [] (X2.glue (J nbS)))
   intro h
   obtain rfl:=oj h
   exact X8 [Bf] (k:=wkT [(0,1)] (X2.glue (J nbF)))
  obtain rfl:=Xeg rfl
  rcases X60 with ⟨_|_,X78⟩
  ·
   revert h
   refine bI fun Xnm h886=>rnI [] ?_
   intro h
   refine X2.joinF (fun(q:Nb Xnm)=>⟨fr [(11,(slE q.1 0 (Xnm.map X3))),(22,(AV.ref 1 0 (X4m.length)))],hp ([(1,Ob (X4m.map Xc) 5)]++opE q.1 0 3 (Xnm.map X3)),2⟩) ?_ (fun J=>X2.cut ?_)
   ·
    rintro Xqn
    rcases Xqn with ⟨_|_,Xre⟩
    ·
     revert h
     exact fun e=>oj e▸X8 [] (k:=fi)
    obtain rfl:=Xre rfl
    revert h
    exact fun e=>oj e▸X8 [] (k:=fi)
   clear h;revert h886
   refine brI (fun h885=>?_) fun h885=>?_
   ·
    intro h
    obtain rfl:=oj h
    exact X8 [Bt] (k:=wkT [(1,2)] (X2.glue (J nbS)))
   intro h
   obtain rfl:=oj h
   exact X8 [Bf] (k:=wkT [(1,2)] (X2.glue (J nbS)))
  obtain rfl:=X78 rfl
  revert h
  refine bI fun Xnl h890=>rnI [] ?_
  intro h
  refine X2.joinF (fun(q:Nb Xnl)=>⟨fr [(11,(slE q.1 0 (Xnl.map X3))),(22,AV.nils)],hp ([]++opE q.1 0 3 (Xnl.map X3)),2⟩) ?_ (fun J=>X2.cut ?_)
  ·
   rintro Xqm
   rcases Xqm with ⟨_|_,Xrd⟩
   ·
    revert h
    exact fun e=>oj e▸X8 [] (k:=fi)
   obtain rfl:=Xrd rfl
   revert h
   exact fun e=>oj e▸X8 [] (k:=fi)
  clear h;revert h890
  refine brI (fun h889=>?_) fun h889=>?_
  ·
   intro h
   obtain rfl:=oj h
   exact X8 [Bt] (k:=wkT [] (X2.glue (J nbS)))
  intro h
  obtain rfl:=oj h
  exact X8 [Bf] (k:=wkT [] (X2.glue (J nbS)))
 intro X04 X4n Xir X02 X3t eo647;subst eo647
 refine X2.glue ?_
 try dsimp only at h
 rcases X02 with ⟨_|_,X2b⟩
 ·
  rcases X3t with ⟨_|_,X7b⟩
  ·
   revert h
   exact fun e=>oj e▸X8 [] (k:=fi)
  obtain rfl:=X7b rfl
  revert h
  exact fun e=>oj e▸X8 [] (k:=fi)
 obtain rfl:=X2b rfl
 rcases X3t with ⟨_|_,X7b⟩
 ·
  revert h
  exact fun e=>oj e▸X8 [] (k:=fi)
 obtain rfl:=X7b rfl
 revert h
 exact fun e=>oj e▸X8 [] (k:=fi)⟩
end Go.Av.Tryz