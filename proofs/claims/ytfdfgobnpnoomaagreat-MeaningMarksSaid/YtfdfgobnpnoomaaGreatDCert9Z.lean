/- Printed by decomp.py: that the program computes the functions. -/
import Derived.Test.YtfdfgobnpnoomaaGreatDCert8Z
set_option linter.all false

namespace Go.Av.Tryz
open Go.Proofs Go.D
set_option maxRecDepth 10000
set_option maxHeartbeats 40000000
theorem Xfw {Q:X07->St->Mu->Prop} {μ:Mu} (Xs:X03) (Xa4:(List (List Xb))) (hl:Xa4.length<=140737488355328):∀ (xs:List (List Xb)) (k:Nat) (hx:Xa4.drop k=xs) (X4j:(List Xa)) (Xo:(List Xm)) (X00:Nb Xo) (o:X6p) (h:X2t Xs Xa4 xs k X4j Xo=some o)
  (C0:∀ (X78:(List Xa)) (X0n:(List Xm)) (X0o:Nb X0n),o=X6p.x0 X78 X0n->X3 Tryz.prog 119 0 Q (.exit (.exit 0)) [] ⟨fr [(2,(AV.ptr 0 0 0)),(10,(AV.list true (X78.map X9))),(11,(slE X0o.1 1 (X0n.map X7)))],hp ([(0,Ob [(Xl false Xs)] 10)]++opE X0o.1 1 3 (X0n.map X7)),2⟩ μ)
  (C1:∀ (X0k:(List X2u)) (X5r:(List Xm)) (Xjv:Int) (X0h:Nb X0k) (X4n:Nb X5r),o=X6p.x1 X0k X5r Xjv->X3 Tryz.prog 119 0 Q (.exit .ret) [] ⟨fr [(4,(slE X0h.1 0 (X0k.map Xg))),(5,(slE X4n.1 1 (X5r.map X7))),(6,(aI .i64 Xjv))],hp ([]++opE X0h.1 0 5 (X0k.map Xg)++opE X4n.1 1 3 (X5r.map X7)),2⟩ μ),
  X3 Tryz.prog 119 0 Q (.loop (X4t 0 (Xu Tryz.f19))) [] ⟨fr [(2,(AV.ptr 0 0 0)),(10,(AV.list true (X4j.map X9))),(11,(slE X00.1 1 (Xo.map X7))),(46,(Lf (List.map (X0e false X0) Xa4))),(47,(aI .i64 (Xa4.length:Int))),(48,(aI .i64 (k:Int)))],hp ([(0,Ob [(Xl false Xs)] 10)]++opE X00.1 1 3 (Xo.map X7)),2⟩ μ:=by
 intro xs
 induction xs with
 |nil =>
  intro k hx X4j Xo X00 o h C0 C1
  have hk:=X1e hx
  have hc:decide ((k:Int)<(Xa4.length:Int))=false:=Yf (by omega)
  rw[X2t] at h
  rcases X00 with ⟨_|_,X0f⟩
  ·
   refine X3.round ?_
   revert h
   exact fun e=>Xc [Bf] (k:=wkT [] (C0 _ _  nbF (oj e).symm))
  ·
   obtain rfl:=X0f rfl
   refine X3.round ?_
   revert h
   exact fun e=>Xc [Bf] (k:=wkT [] (C0 _ _  nbS (oj e).symm))
 |cons x xs ih =>
  intro k hx X4j Xo X00 o h C0 C1
  obtain⟨hk,hg,hx1⟩:=X0t hx
  have hc:decide ((k:Int)<(Xa4.length:Int))=true:=Yt (by omega)
  rw[X2t] at h
  rcases X00 with ⟨_|_,X0f⟩
  ·
   refine X3.round ?_
   revert h
   refine bI fun v435 h436=>rnI [Bt,.el (X0e false X0 x),.pure _ (AV.tup [(AV.list true (v435.1.map X7)),(AV.list true (v435.2.1.map X7)),(aI .i64 v435.2.2)])] ?_
   refine brI (fun h437=>fun e=>Xc [Bt] (k:=wkT [] (C1 _ _ _  nbS nbS (oj e).symm))) fun h437=>?_
   refine brI (fun q=>?_) fun q=>?_
   ·
    intro h
    have h438:v435.2.1=[]:=List.isEmpty_iff.1 q
    revert h
    refine bI fun u439 h440=>?_
    have qh440:=X0u h440
    refine bI fun o502 h503=>rnI [Bf,.ne false,.el (aI .i64 (v435.1.length:Int))] ?_
    intro h
    refine wkT [] (X3.cut (X66 Xs (Xo++v435.2.1) (k:Int) Xa4 (Xa4.length:Int) (k:Int) v435.1 nbF qh440 v435.1 0 (by simp) _ _ h503 ?_ ?_))
    ·
     intro X9b X22 X1i eo502;subst eo502
     refine X3.glue ?_
     try dsimp only at h
     rcases X1i with ⟨_|_,X3j⟩
     ·
      exact Xc [] (k:=wkT [] (ih (k+1) hx1 _ _ nbF o h C0 C1))
     obtain rfl:=X3j rfl
     exact Xc [] (k:=wkT [] (ih (k+1) hx1 _ _ nbS o h C0 C1))
    intro X7z X7y Xcm X5c X30 eo502;subst eo502
    refine X3.glue ?_
    try dsimp only at h
    rcases X5c with ⟨_|_,X8b⟩
    ·
     rcases X30 with ⟨_|_,X2o⟩
     ·
      revert h
      exact fun e=>Xc [] (k:=wkT [] (C1 _ _ _  nbF nbF (oj e).symm))
     obtain rfl:=X2o rfl
     revert h
     exact fun e=>Xc [] (k:=wkT [] (C1 _ _ _  nbF nbS (oj e).symm))
    obtain rfl:=X8b rfl
    rcases X30 with ⟨_|_,X2o⟩
    ·
     revert h
     exact fun e=>Xc [] (k:=wkT [] (C1 _ _ _  nbS nbF (oj e).symm))
    obtain rfl:=X2o rfl
    revert h
    exact fun e=>Xc [] (k:=wkT [] (C1 _ _ _  nbS nbS (oj e).symm))
   intro h
   have h438:¬ (v435.2.1=[]):=(fun e=>by rw[e] at q;cases q)
   revert h
   refine bI fun u504 h505=>bI fun u506 h507=>?_
   have qh507:=X0u h507
   refine bI fun o549 h550=>rnI [Bf,.via (AV.list true (v435.2.1.map X7)),.el (aI .i64 (v435.1.length:Int))] (o:=by repeat' first|apply Ya|exact pcM|(refine X8 h505 rfl ?_;first|(simp;done)|(simp;omega)|(simp[hc,h437,h438];done)|(simp[hc,h437,h438];omega))|(refine X2 h505 (by decide) ?_;first|(simp;done)|(simp;omega)|(simp[hc,h437,h438];done)|(simp[hc,h437,h438];omega))|exact Xw) ?_
   intro h
   refine wkT [(1,2)] (X3.cut (X66 Xs (Xo++v435.2.1) (k:Int) Xa4 (Xa4.length:Int) (k:Int) v435.1 nbF qh507 v435.1 0 (by simp) _ _ h550 ?_ ?_))
   ·
    intro X9b X22 X1i eo549;subst eo549
    refine X3.glue ?_
    try dsimp only at h
    rcases X1i with ⟨_|_,X3j⟩
    ·
     exact Xc [] (o:=by repeat' first|apply Ya|exact pcM|(refine X8 h505 rfl ?_;first|(simp;done)|(simp;omega)|(simp[hc,h437,h438];done)|(simp[hc,h437,h438];omega))|(refine X2 h505 (by decide) ?_;first|(simp;done)|(simp;omega)|(simp[hc,h437,h438];done)|(simp[hc,h437,h438];omega))|exact Xw) (k:=wkT [] (ih (k+1) hx1 _ _ nbF o h C0 C1))
    obtain rfl:=X3j rfl
    exact Xc [] (o:=by repeat' first|apply Ya|exact pcM|(refine X8 h505 rfl ?_;first|(simp;done)|(simp;omega)|(simp[hc,h437,h438];done)|(simp[hc,h437,h438];omega))|(refine X2 h505 (by decide) ?_;first|(simp;done)|(simp;omega)|(simp[hc,h437,h438];done)|(simp[hc,h437,h438];omega))|exact Xw) (k:=wkT [] (ih (k+1) hx1 _ _ nbS o h C0 C1))
   intro X7z X7y Xcm X5c X30 eo549;subst eo549
   refine X3.glue ?_
   try dsimp only at h
   rcases X5c with ⟨_|_,X8b⟩
   ·
    rcases X30 with ⟨_|_,X2o⟩
    ·
     revert h
     exact fun e=>Xc [] (o:=by repeat' first|apply Ya|exact pcM|(refine X8 h505 rfl ?_;first|(simp;done)|(simp;omega)|(simp[hc,h437,h438];done)|(simp[hc,h437,h438];omega))|(refine X2 h505 (by decide) ?_;first|(simp;done)|(simp;omega)|(simp[hc,h437,h438];done)|(simp[hc,h437,h438];omega))|exact Xw) (k:=wkT [] (C1 _ _ _  nbF nbF (oj e).symm))
    obtain rfl:=X2o rfl
    revert h
    exact fun e=>Xc [] (o:=by repeat' first|apply Ya|exact pcM|(refine X8 h505 rfl ?_;first|(simp;done)|(simp;omega)|(simp[hc,h437,h438];done)|(simp[hc,h437,h438];omega))|(refine X2 h505 (by decide) ?_;first|(simp;done)|(simp;omega)|(simp[hc,h437,h438];done)|(simp[hc,h437,h438];omega))|exact Xw) (k:=wkT [] (C1 _ _ _  nbF nbS (oj e).symm))
   obtain rfl:=X8b rfl
   rcases X30 with ⟨_|_,X2o⟩
   ·
    revert h
    exact fun e=>Xc [] (o:=by repeat' first|apply Ya|exact pcM|(refine X8 h505 rfl ?_;first|(simp;done)|(simp;omega)|(simp[hc,h437,h438];done)|(simp[hc,h437,h438];omega))|(refine X2 h505 (by decide) ?_;first|(simp;done)|(simp;omega)|(simp[hc,h437,h438];done)|(simp[hc,h437,h438];omega))|exact Xw) (k:=wkT [] (C1 _ _ _  nbS nbF (oj e).symm))
   obtain rfl:=X2o rfl
   revert h
   exact fun e=>Xc [] (o:=by repeat' first|apply Ya|exact pcM|(refine X8 h505 rfl ?_;first|(simp;done)|(simp;omega)|(simp[hc,h437,h438];done)|(simp[hc,h437,h438];omega))|(refine X2 h505 (by decide) ?_;first|(simp;done)|(simp;omega)|(simp[hc,h437,h438];done)|(simp[hc,h437,h438];omega))|exact Xw) (k:=wkT [] (C1 _ _ _  nbS nbS (oj e).symm))
  obtain rfl:=X0f rfl
  refine X3.round ?_
  revert h
  refine bI fun v551 h552=>rnI [Bt,.el (X0e false X0 x),.pure _ (AV.tup [(AV.list true (v551.1.map X7)),(AV.list true (v551.2.1.map X7)),(aI .i64 v551.2.2)])] ?_
  refine brI (fun h553=>fun e=>Xc [Bt] (k:=wkT [] (C1 _ _ _  nbS nbS (oj e).symm))) fun h553=>?_
  refine brI (fun q=>?_) fun q=>?_
  ·
   intro h
   have h554:v551.2.1=[]:=List.isEmpty_iff.1 q
   revert h
   refine bI fun u555 h556=>?_
   have qh556:=X0u h556
   refine bI fun o598 h599=>rnI [Bf,.ne false,.el (aI .i64 (v551.1.length:Int))] ?_
   intro h
   refine wkT [] (X3.cut (X66 Xs (([]:List Xm)++v551.2.1) (k:Int) Xa4 (Xa4.length:Int) (k:Int) v551.1 nbS qh556 v551.1 0 (by simp) _ _ h599 ?_ ?_))
   ·
    intro X9b X22 X1i eo598;subst eo598
    refine X3.glue ?_
    try dsimp only at h
    rcases X1i with ⟨_|_,X3j⟩
    ·
     exact Xc [] (k:=wkT [] (ih (k+1) hx1 _ _ nbF o h C0 C1))
    obtain rfl:=X3j rfl
    exact Xc [] (k:=wkT [] (ih (k+1) hx1 _ _ nbS o h C0 C1))
   intro X7z X7y Xcm X5c X30 eo598;subst eo598
   refine X3.glue ?_
   try dsimp only at h
   rcases X5c with ⟨_|_,X8b⟩
   ·
    rcases X30 with ⟨_|_,X2o⟩
    ·
     revert h
     exact fun e=>Xc [] (k:=wkT [] (C1 _ _ _  nbF nbF (oj e).symm))
    obtain rfl:=X2o rfl
    revert h
    exact fun e=>Xc [] (k:=wkT [] (C1 _ _ _  nbF nbS (oj e).symm))
   obtain rfl:=X8b rfl
   rcases X30 with ⟨_|_,X2o⟩
   ·
    revert h
    exact fun e=>Xc [] (k:=wkT [] (C1 _ _ _  nbS nbF (oj e).symm))
   obtain rfl:=X2o rfl
   revert h
   exact fun e=>Xc [] (k:=wkT [] (C1 _ _ _  nbS nbS (oj e).symm))
  intro h
  have h554:¬ (v551.2.1=[]):=(fun e=>by rw[e] at q;cases q)
  revert h
  refine bI fun u600 h601=>bI fun u602 h603=>?_
  have qh603:=X0u h603
  refine bI fun o645 h646=>rnI [Bf,.via (AV.list true (v551.2.1.map X7)),.el (aI .i64 (v551.1.length:Int))] (o:=by repeat' first|apply Ya|exact pcM|(refine X8 h601 rfl ?_;first|(simp;done)|(simp;omega)|(simp[hc,h553,h554];done)|(simp[hc,h553,h554];omega))|(refine X2 h601 (by decide) ?_;first|(simp;done)|(simp;omega)|(simp[hc,h553,h554];done)|(simp[hc,h553,h554];omega))|exact Xw) ?_
  intro h
  refine wkT [(1,2)] (X3.cut (X66 Xs (([]:List Xm)++v551.2.1) (k:Int) Xa4 (Xa4.length:Int) (k:Int) v551.1 nbF qh603 v551.1 0 (by simp) _ _ h646 ?_ ?_))
  ·
   intro X9b X22 X1i eo645;subst eo645
   refine X3.glue ?_
   try dsimp only at h
   rcases X1i with ⟨_|_,X3j⟩
   ·
    exact Xc [] (o:=by repeat' first|apply Ya|exact pcM|(refine X8 h601 rfl ?_;first|(simp;done)|(simp;omega)|(simp[hc,h553,h554];done)|(simp[hc,h553,h554];omega))|(refine X2 h601 (by decide) ?_;first|(simp;done)|(simp;omega)|(simp[hc,h553,h554];done)|(simp[hc,h553,h554];omega))|exact Xw) (k:=wkT [] (ih (k+1) hx1 _ _ nbF o h C0 C1))
   obtain rfl:=X3j rfl
   exact Xc [] (o:=by repeat' first|apply Ya|exact pcM|(refine X8 h601 rfl ?_;first|(simp;done)|(simp;omega)|(simp[hc,h553,h554];done)|(simp[hc,h553,h554];omega))|(refine X2 h601 (by decide) ?_;first|(simp;done)|(simp;omega)|(simp[hc,h553,h554];done)|(simp[hc,h553,h554];omega))|exact Xw) (k:=wkT [] (ih (k+1) hx1 _ _ nbS o h C0 C1))
  intro X7z X7y Xcm X5c X30 eo645;subst eo645
  refine X3.glue ?_
  try dsimp only at h
  rcases X5c with ⟨_|_,X8b⟩
  ·
   rcases X30 with ⟨_|_,X2o⟩
   ·
    revert h
    exact fun e=>Xc [] (o:=by repeat' first|apply Ya|exact pcM|(refine X8 h601 rfl ?_;first|(simp;done)|(simp;omega)|(simp[hc,h553,h554];done)|(simp[hc,h553,h554];omega))|(refine X2 h601 (by decide) ?_;first|(simp;done)|(simp;omega)|(simp[hc,h553,h554];done)|(simp[hc,h553,h554];omega))|exact Xw) (k:=wkT [] (C1 _ _ _  nbF nbF (oj e).symm))
   obtain rfl:=X2o rfl
   revert h
   exact fun e=>Xc [] (o:=by repeat' first|apply Ya|exact pcM|(refine X8 h601 rfl ?_;first|(simp;done)|(simp;omega)|(simp[hc,h553,h554];done)|(simp[hc,h553,h554];omega))|(refine X2 h601 (by decide) ?_;first|(simp;done)|(simp;omega)|(simp[hc,h553,h554];done)|(simp[hc,h553,h554];omega))|exact Xw) (k:=wkT [] (C1 _ _ _  nbF nbS (oj e).symm))
  obtain rfl:=X8b rfl
  rcases X30 with ⟨_|_,X2o⟩
  ·
   revert h
   exact fun e=>Xc [] (o:=by repeat' first|apply Ya|exact pcM|(refine X8 h601 rfl ?_;first|(simp;done)|(simp;omega)|(simp[hc,h553,h554];done)|(simp[hc,h553,h554];omega))|(refine X2 h601 (by decide) ?_;first|(simp;done)|(simp;omega)|(simp[hc,h553,h554];done)|(simp[hc,h553,h554];omega))|exact Xw) (k:=wkT [] (C1 _ _ _  nbS nbF (oj e).symm))
  obtain rfl:=X2o rfl
  revert h
  exact fun e=>Xc [] (o:=by repeat' first|apply Ya|exact pcM|(refine X8 h601 rfl ?_;first|(simp;done)|(simp;omega)|(simp[hc,h553,h554];done)|(simp[hc,h553,h554];omega))|(refine X2 h601 (by decide) ?_;first|(simp;done)|(simp;omega)|(simp[hc,h553,h554];done)|(simp[hc,h553,h554];omega))|exact Xw) (k:=wkT [] (C1 _ _ _  nbS nbS (oj e).symm))
theorem Xb8 {Q:X07->St->Mu->Prop} {μ:Mu} (X3u:X03) (X32:(List Xm)) (Xco:(List Xa)) (X6n:Nb X32) (hl:Xco.length<=140737488355328):∀ (xs:List Xa) (k:Nat) (hx:Xco.drop k=xs) (X2z:(List X2u)) (X3o:Nb X2z) (o:X8v) (h:X3c X3u X32 Xco xs k X2z=some o)
  (C0:∀ (X0j:(List Xm)) (X08:(List X2u)) (X0g:Nb X0j) (X05:Nb X08),o=X8v.x0 X0j X08->X3 Tryz.prog 119 0 Q (.exit (.exit 4)) [] ⟨fr [(2,(AV.ptr 0 0 0)),(11,(slE X0g.1 1 (X0j.map X7))),(22,(slE X05.1 2 (X08.map Xg)))],hp ([(0,Ob [(Xl false X3u)] 10)]++opE X0g.1 1 3 (X0j.map X7)++opE X05.1 2 5 (X08.map Xg)),3⟩ μ),
  X3 Tryz.prog 119 0 Q (.loop (X4t 2 (Xu Tryz.f19))) [] ⟨fr [(2,(AV.ptr 0 0 0)),(11,(slE X6n.1 1 (X32.map X7))),(22,(slE X3o.1 2 (X2z.map Xg))),(96,(AV.list true (Xco.map X9))),(97,(aI .i64 (Xco.length:Int))),(98,(aI .i64 (k:Int)))],hp ([(0,Ob [(Xl false X3u)] 10)]++opE X6n.1 1 3 (X32.map X7)++opE X3o.1 2 5 (X2z.map Xg)),3⟩ μ:=by
 intro xs
 induction xs with
 |nil =>
  intro k hx X2z X3o o h C0
  have hk:=X1e hx
  have hc:decide ((k:Int)<(Xco.length:Int))=false:=Yf (by omega)
  rw[X3c] at h
  rcases X6n with ⟨_|_,Xc1⟩
  ·
   rcases X3o with ⟨_|_,X54⟩
   ·
    refine X3.round ?_
    revert h
    exact fun e=>Xc [Bf] (k:=wkT [] (C0 _ _  nbF nbF (oj e).symm))
   obtain rfl:=X54 rfl
   refine X3.round ?_
   revert h
   exact fun e=>Xc [Bf] (k:=wkT [] (C0 _ _  nbF nbS (oj e).symm))
  ·
   obtain rfl:=Xc1 rfl
   rcases X3o with ⟨_|_,X54⟩
   ·
    refine X3.round ?_
    revert h
    exact fun e=>Xc [Bf] (k:=wkT [] (C0 _ _  nbS nbF (oj e).symm))
   ·
    obtain rfl:=X54 rfl
    refine X3.round ?_
    revert h
    exact fun e=>Xc [Bf] (k:=wkT [] (C0 _ _  nbS nbS (oj e).symm))
 |cons x xs ih =>
  intro k hx X2z X3o o h C0
  obtain⟨hk,hg,hx1⟩:=X0t hx
  have hc:decide ((k:Int)<(Xco.length:Int))=true:=Yt (by omega)
  rw[X3c] at h
  rcases X6n with ⟨_|_,Xc1⟩
  ·
   rcases X3o with ⟨_|_,X54⟩
   ·
    refine X3.round ?_
    revert h
    refine bI fun v732 h733=>bI fun Xij h741=>rnI [Bt,.el (X9 x),.pure _ (AV.tup [(Xg v732.1),(aB v732.2)])] ?_
    intro h
    refine X3.joinF (fun(q:Nb Xij)=>⟨fr [(2,(AV.ptr 0 0 0)),(11,(AV.ref 1 0 (X32.length))),(22,(slE q.1 2 (Xij.map Xg))),(96,(AV.list true (Xco.map X9))),(97,(aI .i64 (Xco.length:Int))),(98,(aI .i64 (k:Int)))],hp ([(0,Ob [(Xl false X3u)] 10),(1,Ob (X32.map X7) 3)]++opE q.1 2 5 (Xij.map Xg)),3⟩) ?_ (fun J=>X3.cut ?_)
    ·
     rintro Xte
     rcases Xte with ⟨_|_,Xu6⟩
     ·
      exact Xc [] (k:=wkT [] (ih (k+1) hx1 _ nbF o h C0))
     obtain rfl:=Xu6 rfl
     exact Xc [] (k:=wkT [] (ih (k+1) hx1 _ nbS o h C0))
    clear h;revert h741
    refine brI (fun h738=>?_) fun h738=>?_
    ·
     refine bI fun u739 h740=>?_
     intro h
     obtain rfl:=oj h
     exact Xc [Bt,.no] (o:=by repeat' first|apply Ya|exact pcM|(refine X8 h740 rfl ?_;first|(simp;done)|(simp;omega)|(simp[hc,h738];done)|(simp[hc,h738];omega))|(refine X2 h740 (by decide) ?_;first|(simp;done)|(simp;omega)|(simp[hc,h738];done)|(simp[hc,h738];omega))|exact Xw) (k:=wkT [(2,6)] (X3.glue (J nbF)))
    intro h
    obtain rfl:=oj h
    exact Xc [Bf] (k:=wkT [] (X3.glue (J nbF)))
   obtain rfl:=X54 rfl
   refine X3.round ?_
   revert h
   refine bI fun v742 h743=>bI fun Xpy h751=>rnI [Bt,.el (X9 x),.pure _ (AV.tup [(Xg v742.1),(aB v742.2)])] ?_
   intro h
   refine X3.joinF (fun(q:Nb Xpy)=>⟨fr [(2,(AV.ptr 0 0 0)),(11,(AV.ref 1 0 (X32.length))),(22,(slE q.1 2 (Xpy.map Xg))),(96,(AV.list true (Xco.map X9))),(97,(aI .i64 (Xco.length:Int))),(98,(aI .i64 (k:Int)))],hp ([(0,Ob [(Xl false X3u)] 10),(1,Ob (X32.map X7) 3)]++opE q.1 2 5 (Xpy.map Xg)),3⟩) ?_ (fun J=>X3.cut ?_)
   ·
    rintro Xtd
    rcases Xtd with ⟨_|_,Xu5⟩
    ·
     exact Xc [] (k:=wkT [] (ih (k+1) hx1 _ nbF o h C0))
    obtain rfl:=Xu5 rfl
    exact Xc [] (k:=wkT [] (ih (k+1) hx1 _ nbS o h C0))
   clear h;revert h751
   refine brI (fun h748=>?_) fun h748=>?_
   ·
    refine bI fun u749 h750=>?_
    intro h
    obtain rfl:=oj h
    exact Xc [Bt,.no] (o:=by repeat' first|apply Ya|exact pcM|(refine X8 h750 rfl ?_;first|(simp;done)|(simp;omega)|(simp[hc,h748];done)|(simp[hc,h748];omega))|(refine X2 h750 (by decide) ?_;first|(simp;done)|(simp;omega)|(simp[hc,h748];done)|(simp[hc,h748];omega))|exact Xw) (k:=wkT [(2,6)] (X3.glue (J nbF)))
   intro h
   obtain rfl:=oj h
   exact Xc [Bf] (k:=wkT [] (X3.glue (J nbS)))
  obtain rfl:=Xc1 rfl
  rcases X3o with ⟨_|_,X54⟩
  ·
   refine X3.round ?_
   revert h
   refine bI fun v752 h753=>bI fun Xpx h761=>rnI [Bt,.el (X9 x),.pure _ (AV.tup [(Xg v752.1),(aB v752.2)])] ?_
   intro h
   refine X3.joinF (fun(q:Nb Xpx)=>⟨fr [(2,(AV.ptr 0 0 0)),(11,AV.nils),(22,(slE q.1 2 (Xpx.map Xg))),(96,(AV.list true (Xco.map X9))),(97,(aI .i64 (Xco.length:Int))),(98,(aI .i64 (k:Int)))],hp ([(0,Ob [(Xl false X3u)] 10)]++opE q.1 2 5 (Xpx.map Xg)),3⟩) ?_ (fun J=>X3.cut ?_)
   ·
    rintro Xtc
    rcases Xtc with ⟨_|_,Xu4⟩
    ·
     exact Xc [] (k:=wkT [] (ih (k+1) hx1 _ nbF o h C0))
    obtain rfl:=Xu4 rfl
    exact Xc [] (k:=wkT [] (ih (k+1) hx1 _ nbS o h C0))
   clear h;revert h761
   refine brI (fun h758=>?_) fun h758=>?_
   ·
    refine bI fun u759 h760=>?_
    intro h
    obtain rfl:=oj h
    exact Xc [Bt,.no] (o:=by repeat' first|apply Ya|exact pcM|(refine X8 h760 rfl ?_;first|(simp;done)|(simp;omega)|(simp[hc,h758];done)|(simp[hc,h758];omega))|(refine X2 h760 (by decide) ?_;first|(simp;done)|(simp;omega)|(simp[hc,h758];done)|(simp[hc,h758];omega))|exact Xw) (k:=wkT [(2,6)] (X3.glue (J nbF)))
   intro h
   obtain rfl:=oj h
   exact Xc [Bf] (k:=wkT [] (X3.glue (J nbF)))
  obtain rfl:=X54 rfl
  refine X3.round ?_
  revert h
  refine bI fun v762 h763=>bI fun Xpw h771=>rnI [Bt,.el (X9 x),.pure _ (AV.tup [(Xg v762.1),(aB v762.2)])] ?_
  intro h
  refine X3.joinF (fun(q:Nb Xpw)=>⟨fr [(2,(AV.ptr 0 0 0)),(11,AV.nils),(22,(slE q.1 2 (Xpw.map Xg))),(96,(AV.list true (Xco.map X9))),(97,(aI .i64 (Xco.length:Int))),(98,(aI .i64 (k:Int)))],hp ([(0,Ob [(Xl false X3u)] 10)]++opE q.1 2 5 (Xpw.map Xg)),3⟩) ?_ (fun J=>X3.cut ?_)
  ·
   rintro Xtb
   rcases Xtb with ⟨_|_,Xu3⟩
   ·
    exact Xc [] (k:=wkT [] (ih (k+1) hx1 _ nbF o h C0))
   obtain rfl:=Xu3 rfl
   exact Xc [] (k:=wkT [] (ih (k+1) hx1 _ nbS o h C0))
  clear h;revert h771
  refine brI (fun h768=>?_) fun h768=>?_
  ·
   refine bI fun u769 h770=>?_
   intro h
   obtain rfl:=oj h
   exact Xc [Bt,.no] (o:=by repeat' first|apply Ya|exact pcM|(refine X8 h770 rfl ?_;first|(simp;done)|(simp;omega)|(simp[hc,h768];done)|(simp[hc,h768];omega))|(refine X2 h770 (by decide) ?_;first|(simp;done)|(simp;omega)|(simp[hc,h768];done)|(simp[hc,h768];omega))|exact Xw) (k:=wkT [(2,6)] (X3.glue (J nbF)))
  intro h
  obtain rfl:=oj h
  exact Xc [Bf] (k:=wkT [] (X3.glue (J nbS)))
instance Xz5:PCs Tryz.prog 19 (∀ (a0:X03) (a1:(List (List Xb))) (r:(List X2u)×(List Xm)×Int),X4f a0 a1=some r->X11 Tryz.prog 19 [(Xl false a0),(Lf (List.map (X0e false X0) a1))] (AV.tup [(AV.list true (r.1.map Xg)),(AV.list true (r.2.1.map X7)),(aI .i64 r.2.2)])):=⟨fun a0 a1 r h=>by
 refine X11.sym Xh fn19 (nt:=119) rfl rfl ?_ okM
 unfold X4f at h
 revert h
 refine bI fun v1 h2=>brI (fun h3=>fun e=>oj e▸Xc [.pure _ (AV.tup [(aI .i64 v1.1),(aI .i64 v1.2)]),Bt] (k:=fi)) fun h3=>brI (fun h4=>fun e=>oj e▸Xc [.pure _ (AV.tup [(aI .i64 v1.1),(aI .i64 v1.2)]),Bf,.el (aI .i64 (a1.length:Int)),.el (aI .i64 (a0.Sources.length:Int)),Bt] (k:=fi)) fun h4=>bI fun v5 h6=>rnI [.pure _ (AV.tup [(aI .i64 v1.1),(aI .i64 v1.2)]),Bf,.el (aI .i64 (a1.length:Int)),.el (aI .i64 (a0.Sources.length:Int)),Bf,.pure _ (aI .i64 v5)] ?_
 refine brI (fun h7=>fun e=>oj e▸Xc [Bt] (k:=fi)) fun h7=>rnI [Bf,.el (aI .i64 (a1.length:Int))] ?_
 intro h
 refine X3.nilsList 10 true rfl ?_
 revert h
 refine bI fun u8 h9=>?_
 have qh9:=X0u h9
 refine bI fun o647 h648=>rnI [] ?_
 intro h
 refine wkT [] (X3.cut (Xfw a0 a1 qh9 a1 0 (by simp) _ _ nbS _ h648 ?_ ?_))
 ·
  intro X78 X0n X0o eo647;subst eo647
  refine X3.glue ?_
  try dsimp only at h
  rcases X0o with ⟨_|_,X2a⟩
  ·
   revert h
   refine bI fun u649 h650=>?_
   have qh650:=X0u h650
   refine bI fun o772 h773=>rnI [.el (aI .i64 (X78.length:Int))] ?_
   intro h
   refine wkT [] (X3.cut (Xb8 a0 X0n X78 nbF qh650 X78 0 (by simp) _ nbS _ h773 ?_))
   intro X0j X08 X0g X05 eo772;subst eo772
   refine X3.glue ?_
   try dsimp only at h
   rcases X0g with ⟨_|_,X0v⟩
   ·
    rcases X05 with ⟨_|_,X01⟩
    ·
     revert h
     refine bI fun Xii h777=>rnI [] ?_
     intro h
     refine X3.joinF (fun(q:Nb Xii)=>⟨fr [(11,(slE q.1 0 (Xii.map X7))),(22,(AV.ref 1 0 (X08.length)))],hp ([(1,Ob (X08.map Xg) 5)]++opE q.1 0 3 (Xii.map X7)),2⟩) ?_ (fun J=>X3.cut ?_)
     ·
      rintro Xta
      rcases Xta with ⟨_|_,Xu2⟩
      ·
       revert h
       exact fun e=>oj e▸Xc [] (k:=fi)
      obtain rfl:=Xu2 rfl
      revert h
      exact fun e=>oj e▸Xc [] (k:=fi)
     clear h;revert h777
     refine brI (fun h776=>?_) fun h776=>?_
     ·
      intro h
      obtain rfl:=oj h
      exact Xc [Bt] (k:=wkT [(1,2)] (X3.glue (J nbS)))
     intro h
     obtain rfl:=oj h
     exact Xc [Bf] (k:=wkT [(0,1),(1,2)] (X3.glue (J nbF)))
    obtain rfl:=X01 rfl
    revert h
    refine bI fun Xpv h781=>rnI [] ?_
    intro h
    refine X3.joinF (fun(q:Nb Xpv)=>⟨fr [(11,(slE q.1 0 (Xpv.map X7))),(22,AV.nils)],hp ([]++opE q.1 0 3 (Xpv.map X7)),2⟩) ?_ (fun J=>X3.cut ?_)
    ·
     rintro Xt9
     rcases Xt9 with ⟨_|_,Xu1⟩
     ·
      revert h
      exact fun e=>oj e▸Xc [] (k:=fi)
     obtain rfl:=Xu1 rfl
     revert h
     exact fun e=>oj e▸Xc [] (k:=fi)
    clear h;revert h781
    refine brI (fun h780=>?_) fun h780=>?_
    ·
     intro h
     obtain rfl:=oj h
     exact Xc [Bt] (k:=wkT [] (X3.glue (J nbS)))
    intro h
    obtain rfl:=oj h
    exact Xc [Bf] (k:=wkT [(0,1)] (X3.glue (J nbF)))
   obtain rfl:=X0v rfl
   rcases X05 with ⟨_|_,X01⟩
   ·
    revert h
    refine bI fun Xpu h785=>rnI [] ?_
    intro h
    refine X3.joinF (fun(q:Nb Xpu)=>⟨fr [(11,(slE q.1 0 (Xpu.map X7))),(22,(AV.ref 1 0 (X08.length)))],hp ([(1,Ob (X08.map Xg) 5)]++opE q.1 0 3 (Xpu.map X7)),2⟩) ?_ (fun J=>X3.cut ?_)
    ·
     rintro Xt8
     rcases Xt8 with ⟨_|_,Xu0⟩
     ·
      revert h
      exact fun e=>oj e▸Xc [] (k:=fi)
     obtain rfl:=Xu0 rfl
     revert h
     exact fun e=>oj e▸Xc [] (k:=fi)
    clear h;revert h785
    refine brI (fun h784=>?_) fun h784=>?_
    ·
     intro h
     obtain rfl:=oj h
     exact Xc [Bt] (k:=wkT [(1,2)] (X3.glue (J nbS)))
    intro h
    obtain rfl:=oj h
    exact Xc [Bf] (k:=wkT [(1,2)] (X3.glue (J nbS)))
   obtain rfl:=X01 rfl
   revert h
   refine bI fun Xpt h789=>rnI [] ?_
   intro h
   refine X3.joinF (fun(q:Nb Xpt)=>⟨fr [(11,(slE q.1 0 (Xpt.map X7))),(22,AV.nils)],hp ([]++opE q.1 0 3 (Xpt.map X7)),2⟩) ?_ (fun J=>X3.cut ?_)
   ·
    rintro Xt7
    rcases Xt7 with ⟨_|_,Xtz⟩
    ·
     revert h
     exact fun e=>oj e▸Xc [] (k:=fi)
    obtain rfl:=Xtz rfl
    revert h
    exact fun e=>oj e▸Xc [] (k:=fi)
   clear h;revert h789
   refine brI (fun h788=>?_) fun h788=>?_
   ·
    intro h
    obtain rfl:=oj h
    exact Xc [Bt] (k:=wkT [] (X3.glue (J nbS)))
   intro h
   obtain rfl:=oj h
   exact Xc [Bf] (k:=wkT [] (X3.glue (J nbS)))
  obtain rfl:=X2a rfl
  revert h
  refine bI fun u790 h791=>?_
  have qh791:=X0u h791
  refine bI fun o873 h874=>rnI [.el (aI .i64 (X78.length:Int))] ?_
  intro h
  refine wkT [] (X3.cut (Xb8 a0 ([]:List Xm) X78 nbS qh791 X78 0 (by simp) _ nbS _ h874 ?_))
  intro X0j X08 X0g X05 eo873;subst eo873
  refine X3.glue ?_
  try dsimp only at h
  rcases X0g with ⟨_|_,X0v⟩
  ·
   rcases X05 with ⟨_|_,X01⟩
   ·
    revert h
    refine bI fun Xps h878=>rnI [] ?_
    intro h
    refine X3.joinF (fun(q:Nb Xps)=>⟨fr [(11,(slE q.1 0 (Xps.map X7))),(22,(AV.ref 1 0 (X08.length)))],hp ([(1,Ob (X08.map Xg) 5)]++opE q.1 0 3 (Xps.map X7)),2⟩) ?_ (fun J=>X3.cut ?_)
    ·
     rintro Xt5
     rcases Xt5 with ⟨_|_,Xtx⟩
     ·
      revert h
      exact fun e=>oj e▸Xc [] (k:=fi)
     obtain rfl:=Xtx rfl
     revert h
     exact fun e=>oj e▸Xc [] (k:=fi)
    clear h;revert h878
    refine brI (fun h877=>?_) fun h877=>?_
    ·
     intro h
     obtain rfl:=oj h
     exact Xc [Bt] (k:=wkT [(1,2)] (X3.glue (J nbS)))
    intro h
    obtain rfl:=oj h
    exact Xc [Bf] (k:=wkT [(0,1),(1,2)] (X3.glue (J nbF)))
   obtain rfl:=X01 rfl
   revert h
   refine bI fun Xpr h882=>rnI [] ?_
   intro h
   refine X3.joinF (fun(q:Nb Xpr)=>⟨fr [(11,(slE q.1 0 (Xpr.map X7))),(22,AV.nils)],hp ([]++opE q.1 0 3 (Xpr.map X7)),2⟩) ?_ (fun J=>X3.cut ?_)
   ·
    rintro Xt4
    rcases Xt4 with ⟨_|_,Xtw⟩
    ·
     revert h
     exact fun e=>oj e▸Xc [] (k:=fi)
    obtain rfl:=Xtw rfl
    revert h
    exact fun e=>oj e▸Xc [] (k:=fi)
   clear h;revert h882
   refine brI (fun h881=>?_) fun h881=>?_
   ·
    intro h
    obtain rfl:=oj h
    exact Xc [Bt] (k:=wkT [] (X3.glue (J nbS)))
   intro h
   obtain rfl:=oj h
   exact Xc [Bf] (k:=wkT [(0,1)] (X3.glue (J nbF)))
  obtain rfl:=X0v rfl
  rcases X05 with ⟨_|_,X01⟩
  ·
   revert h
   refine bI fun Xpq h886=>rnI [] ?_
   intro h
   refine X3.joinF (fun(q:Nb Xpq)=>⟨fr [(11,(slE q.1 0 (Xpq.map X7))),(22,(AV.ref 1 0 (X08.length)))],hp ([(1,Ob (X08.map Xg) 5)]++opE q.1 0 3 (Xpq.map X7)),2⟩) ?_ (fun J=>X3.cut ?_)
   ·
    rintro Xt3
    rcases Xt3 with ⟨_|_,Xtv⟩
    ·
     revert h
     exact fun e=>oj e▸Xc [] (k:=fi)
    obtain rfl:=Xtv rfl
    revert h
    exact fun e=>oj e▸Xc [] (k:=fi)
   clear h;revert h886
   refine brI (fun h885=>?_) fun h885=>?_
   ·
    intro h
    obtain rfl:=oj h
    exact Xc [Bt] (k:=wkT [(1,2)] (X3.glue (J nbS)))
   intro h
   obtain rfl:=oj h
   exact Xc [Bf] (k:=wkT [(1,2)] (X3.glue (J nbS)))
  obtain rfl:=X01 rfl
  revert h
  refine bI fun Xpp h890=>rnI [] ?_
  intro h
  refine X3.joinF (fun(q:Nb Xpp)=>⟨fr [(11,(slE q.1 0 (Xpp.map X7))),(22,AV.nils)],hp ([]++opE q.1 0 3 (Xpp.map X7)),2⟩) ?_ (fun J=>X3.cut ?_)
  ·
   rintro Xt2
   rcases Xt2 with ⟨_|_,Xtu⟩
   ·
    revert h
    exact fun e=>oj e▸Xc [] (k:=fi)
   obtain rfl:=Xtu rfl
   revert h
   exact fun e=>oj e▸Xc [] (k:=fi)
  clear h;revert h890
  refine brI (fun h889=>?_) fun h889=>?_
  ·
   intro h
   obtain rfl:=oj h
   exact Xc [Bt] (k:=wkT [] (X3.glue (J nbS)))
  intro h
  obtain rfl:=oj h
  exact Xc [Bf] (k:=wkT [] (X3.glue (J nbS)))
 intro X0k X5r Xjv X0h X4n eo647;subst eo647
 refine X3.glue ?_
 try dsimp only at h
 rcases X0h with ⟨_|_,X2p⟩
 ·
  rcases X4n with ⟨_|_,X8c⟩
  ·
   revert h
   exact fun e=>oj e▸Xc [] (k:=fi)
  obtain rfl:=X8c rfl
  revert h
  exact fun e=>oj e▸Xc [] (k:=fi)
 obtain rfl:=X2p rfl
 rcases X4n with ⟨_|_,X8c⟩
 ·
  revert h
  exact fun e=>oj e▸Xc [] (k:=fi)
 obtain rfl:=X8c rfl
 revert h
 exact fun e=>oj e▸Xc [] (k:=fi)⟩
end Go.Av.Tryz