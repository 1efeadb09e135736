/- Printed by decomp.py: that the program computes the functions. -/
import Derived.Test.YtfdfgobnpnoomaaGreatDCert8Z
set_option linter.all false

namespace Go.Av.Tryz
open Go.Proofs Go.D
set_option maxRecDepth 10000
set_option maxHeartbeats 40000000
theorem Xjg {Q:X02->St->Mu->Prop} {μ:Mu} (Xf:Xu) (Xc4:(List (List Xk))) (hl:Xc4.length<=140737488355328):∀ (xs:List (List Xk)) (k:Nat) (hx:Xc4.drop k=xs) (X5z:(List X8)) (Xi:(List X7)) (Xl:Nb Xi) (o:X7g) (h:X39 Xf Xc4 xs k X5z Xi=some o)
  (C0:∀ (X87:(List X8)) (X0s:(List X7)) (X0v:Nb X0s),o=X7g.x0 X87 X0s->X2 Tryz.prog 119 0 Q (.exit (.exit 0)) [] ⟨fr [(2,(AV.ptr 0 0 0)),(10,(AV.list true (X87.map X5))),(11,(slE X0v.1 1 (X0s.map X0)))],hp ([(0,Ob [(Xm false Xf)] 10)]++opE X0v.1 1 3 (X0s.map X0)),2⟩ μ)
  (C1:∀ (X0e:(List X0t)) (X6c:(List X7)) (Xo2:Int) (X0c:Nb X0e) (X55:Nb X6c),o=X7g.x1 X0e X6c Xo2->X2 Tryz.prog 119 0 Q (.exit .ret) [] ⟨fr [(4,(slE X0c.1 0 (X0e.map Xb))),(5,(slE X55.1 1 (X6c.map X0))),(6,(aI .i64 Xo2))],hp ([]++opE X0c.1 0 5 (X0e.map Xb)++opE X55.1 1 3 (X6c.map X0)),2⟩ μ),
  X2 Tryz.prog 119 0 Q (.loop (X2v 0 (Xh Tryz.f19))) [] ⟨fr [(2,(AV.ptr 0 0 0)),(10,(AV.list true (X5z.map X5))),(11,(slE Xl.1 1 (Xi.map X0))),(46,(Lf (List.map (X56 false Xd) Xc4))),(47,(aI .i64 (Xc4.length:Int))),(48,(aI .i64 (k:Int)))],hp ([(0,Ob [(Xm false Xf)] 10)]++opE Xl.1 1 3 (Xi.map X0)),2⟩ μ:=by
 intro xs
 induction xs with
 |nil =>
  intro k hx X5z Xi Xl o h C0 C1
  have hk:=drop_nil hx
  have hc:decide ((k:Int)<(Xc4.length:Int))=false:=Yf (by omega)
  rw[X39] at h
  rcases Xl with ⟨_|_,X04⟩
  ·
   refine X2.round ?_
   revert h
   exact fun e=>X9 [Bf] (k:=wkT [] (C0 _ _  nbF (oj e).symm))
  ·
   obtain rfl:=X04 rfl
   refine X2.round ?_
   revert h
   exact fun e=>X9 [Bf] (k:=wkT [] (C0 _ _  nbS (oj e).symm))
 |cons x xs ih =>
  intro k hx X5z Xi Xl o h C0 C1
  obtain⟨hk,hg,hx1⟩:=drop_cons hx
  have hc:decide ((k:Int)<(Xc4.length:Int))=true:=Yt (by omega)
  rw[X39] at h
  rcases Xl with ⟨_|_,X04⟩
  ·
   refine X2.round ?_
   revert h
   refine bI fun v435 h436=>rnI [Bt,.el (X56 false Xd x),.pure _ (AV.tup [(AV.list true (v435.1.map X0)),(AV.list true (v435.2.1.map X0)),(aI .i64 v435.2.2)])] ?_
   refine brI (fun h437=>fun e=>X9 [Bt] (k:=wkT [] (C1 _ _ _  nbS nbS (oj e).symm))) fun h437=>?_
   refine brI (fun q=>?_) fun q=>?_
   ·
    intro h
    have h438:v435.2.1=[]:=List.isEmpty_iff.1 q
    revert h
    refine bI fun u439 h440=>?_
    have qh440:=X08 h440
    refine bI fun o502 h503=>rnI [Bf,.ne false,.el (aI .i64 (v435.1.length:Int))] ?_
    intro h
    refine wkT [] (X2.cut (X6s Xf (Xi++v435.2.1) (k:Int) Xc4 (Xc4.length:Int) (k:Int) v435.1 nbF qh440 v435.1 0 (by simp) _ _ h503 ?_ ?_))
    ·
     intro Xb0 X1z X17 eo502;subst eo502
     refine X2.glue ?_
     try dsimp only at h
     rcases X17 with ⟨_|_,X2z⟩
     ·
      exact X9 [] (k:=wkT [] (ih (k+1) hx1 _ _ nbF o h C0 C1))
     obtain rfl:=X2z rfl
     exact X9 [] (k:=wkT [] (ih (k+1) hx1 _ _ nbS o h C0 C1))
    intro X95 X94 Xf2 X5x X3h eo502;subst eo502
    refine X2.glue ?_
    try dsimp only at h
    rcases X5x with ⟨_|_,X9n⟩
    ·
     rcases X3h with ⟨_|_,X2y⟩
     ·
      revert h
      exact fun e=>X9 [] (k:=wkT [] (C1 _ _ _  nbF nbF (oj e).symm))
     obtain rfl:=X2y rfl
     revert h
     exact fun e=>X9 [] (k:=wkT [] (C1 _ _ _  nbF nbS (oj e).symm))
    obtain rfl:=X9n rfl
    rcases X3h with ⟨_|_,X2y⟩
    ·
     revert h
     exact fun e=>X9 [] (k:=wkT [] (C1 _ _ _  nbS nbF (oj e).symm))
    obtain rfl:=X2y rfl
    revert h
    exact fun e=>X9 [] (k:=wkT [] (C1 _ _ _  nbS nbS (oj e).symm))
   intro h
   have h438:¬ (v435.2.1=[]):=(fun e=>by rw[e] at q;cases q)
   revert h
   refine bI fun u504 h505=>bI fun u506 h507=>?_
   have qh507:=X08 h507
   refine bI fun o549 h550=>rnI [Bf,.via (AV.list true (v435.2.1.map X0)),.el (aI .i64 (v435.1.length:Int))] (o:=by repeat' first|apply Ya|exact pcM|(refine X0a h505 rfl ?_;first|(simp;done)|(simp;omega)|(simp[hc,h437,h438];done)|(simp[hc,h437,h438];omega))|(refine Xs h505 (by decide) ?_;first|(simp;done)|(simp;omega)|(simp[hc,h437,h438];done)|(simp[hc,h437,h438];omega))|exact X0k) ?_
   intro h
   refine wkT [(1,2)] (X2.cut (X6s Xf (Xi++v435.2.1) (k:Int) Xc4 (Xc4.length:Int) (k:Int) v435.1 nbF qh507 v435.1 0 (by simp) _ _ h550 ?_ ?_))
   ·
    intro Xb0 X1z X17 eo549;subst eo549
    refine X2.glue ?_
    try dsimp only at h
    rcases X17 with ⟨_|_,X2z⟩
    ·
     exact X9 [] (o:=by repeat' first|apply Ya|exact pcM|(refine X0a h505 rfl ?_;first|(simp;done)|(simp;omega)|(simp[hc,h437,h438];done)|(simp[hc,h437,h438];omega))|(refine Xs h505 (by decide) ?_;first|(simp;done)|(simp;omega)|(simp[hc,h437,h438];done)|(simp[hc,h437,h438];omega))|exact X0k) (k:=wkT [] (ih (k+1) hx1 _ _ nbF o h C0 C1))
    obtain rfl:=X2z rfl
    exact X9 [] (o:=by repeat' first|apply Ya|exact pcM|(refine X0a h505 rfl ?_;first|(simp;done)|(simp;omega)|(simp[hc,h437,h438];done)|(simp[hc,h437,h438];omega))|(refine Xs h505 (by decide) ?_;first|(simp;done)|(simp;omega)|(simp[hc,h437,h438];done)|(simp[hc,h437,h438];omega))|exact X0k) (k:=wkT [] (ih (k+1) hx1 _ _ nbS o h C0 C1))
   intro X95 X94 Xf2 X5x X3h eo549;subst eo549
   refine X2.glue ?_
   try dsimp only at h
   rcases X5x with ⟨_|_,X9n⟩
   ·
    rcases X3h with ⟨_|_,X2y⟩
    ·
     revert h
     exact fun e=>X9 [] (o:=by repeat' first|apply Ya|exact pcM|(refine X0a h505 rfl ?_;first|(simp;done)|(simp;omega)|(simp[hc,h437,h438];done)|(simp[hc,h437,h438];omega))|(refine Xs h505 (by decide) ?_;first|(simp;done)|(simp;omega)|(simp[hc,h437,h438];done)|(simp[hc,h437,h438];omega))|exact X0k) (k:=wkT [] (C1 _ _ _  nbF nbF (oj e).symm))
    obtain rfl:=X2y rfl
    revert h
    exact fun e=>X9 [] (o:=by repeat' first|apply Ya|exact pcM|(refine X0a h505 rfl ?_;first|(simp;done)|(simp;omega)|(simp[hc,h437,h438];done)|(simp[hc,h437,h438];omega))|(refine Xs h505 (by decide) ?_;first|(simp;done)|(simp;omega)|(simp[hc,h437,h438];done)|(simp[hc,h437,h438];omega))|exact X0k) (k:=wkT [] (C1 _ _ _  nbF nbS (oj e).symm))
   obtain rfl:=X9n rfl
   rcases X3h with ⟨_|_,X2y⟩
   ·
    revert h
    exact fun e=>X9 [] (o:=by repeat' first|apply Ya|exact pcM|(refine X0a h505 rfl ?_;first|(simp;done)|(simp;omega)|(simp[hc,h437,h438];done)|(simp[hc,h437,h438];omega))|(refine Xs h505 (by decide) ?_;first|(simp;done)|(simp;omega)|(simp[hc,h437,h438];done)|(simp[hc,h437,h438];omega))|exact X0k) (k:=wkT [] (C1 _ _ _  nbS nbF (oj e).symm))
   obtain rfl:=X2y rfl
   revert h
   exact fun e=>X9 [] (o:=by repeat' first|apply Ya|exact pcM|(refine X0a h505 rfl ?_;first|(simp;done)|(simp;omega)|(simp[hc,h437,h438];done)|(simp[hc,h437,h438];omega))|(refine Xs h505 (by decide) ?_;first|(simp;done)|(simp;omega)|(simp[hc,h437,h438];done)|(simp[hc,h437,h438];omega))|exact X0k) (k:=wkT [] (C1 _ _ _  nbS nbS (oj e).symm))
  obtain rfl:=X04 rfl
  refine X2.round ?_
  revert h
  refine bI fun v551 h552=>rnI [Bt,.el (X56 false Xd x),.pure _ (AV.tup [(AV.list true (v551.1.map X0)),(AV.list true (v551.2.1.map X0)),(aI .i64 v551.2.2)])] ?_
  refine brI (fun h553=>fun e=>X9 [Bt] (k:=wkT [] (C1 _ _ _  nbS nbS (oj e).symm))) fun h553=>?_
  refine brI (fun q=>?_) fun q=>?_
  ·
   intro h
   have h554:v551.2.1=[]:=List.isEmpty_iff.1 q
   revert h
   refine bI fun u555 h556=>?_
   have qh556:=X08 h556
   refine bI fun o598 h599=>rnI [Bf,.ne false,.el (aI .i64 (v551.1.length:Int))] ?_
   intro h
   refine wkT [] (X2.cut (X6s Xf (([]:List X7)++v551.2.1) (k:Int) Xc4 (Xc4.length:Int) (k:Int) v551.1 nbS qh556 v551.1 0 (by simp) _ _ h599 ?_ ?_))
   ·
    intro Xb0 X1z X17 eo598;subst eo598
    refine X2.glue ?_
    try dsimp only at h
    rcases X17 with ⟨_|_,X2z⟩
    ·
     exact X9 [] (k:=wkT [] (ih (k+1) hx1 _ _ nbF o h C0 C1))
    obtain rfl:=X2z rfl
    exact X9 [] (k:=wkT [] (ih (k+1) hx1 _ _ nbS o h C0 C1))
   intro X95 X94 Xf2 X5x X3h eo598;subst eo598
   refine X2.glue ?_
   try dsimp only at h
   rcases X5x with ⟨_|_,X9n⟩
   ·
    rcases X3h with ⟨_|_,X2y⟩
    ·
     revert h
     exact fun e=>X9 [] (k:=wkT [] (C1 _ _ _  nbF nbF (oj e).symm))
    obtain rfl:=X2y rfl
    revert h
    exact fun e=>X9 [] (k:=wkT [] (C1 _ _ _  nbF nbS (oj e).symm))
   obtain rfl:=X9n rfl
   rcases X3h with ⟨_|_,X2y⟩
   ·
    revert h
    exact fun e=>X9 [] (k:=wkT [] (C1 _ _ _  nbS nbF (oj e).symm))
   obtain rfl:=X2y rfl
   revert h
   exact fun e=>X9 [] (k:=wkT [] (C1 _ _ _  nbS nbS (oj e).symm))
  intro h
  have h554:¬ (v551.2.1=[]):=(fun e=>by rw[e] at q;cases q)
  revert h
  refine bI fun u600 h601=>bI fun u602 h603=>?_
  have qh603:=X08 h603
  refine bI fun o645 h646=>rnI [Bf,.via (AV.list true (v551.2.1.map X0)),.el (aI .i64 (v551.1.length:Int))] (o:=by repeat' first|apply Ya|exact pcM|(refine X0a h601 rfl ?_;first|(simp;done)|(simp;omega)|(simp[hc,h553,h554];done)|(simp[hc,h553,h554];omega))|(refine Xs h601 (by decide) ?_;first|(simp;done)|(simp;omega)|(simp[hc,h553,h554];done)|(simp[hc,h553,h554];omega))|exact X0k) ?_
  intro h
  refine wkT [(1,2)] (X2.cut (X6s Xf (([]:List X7)++v551.2.1) (k:Int) Xc4 (Xc4.length:Int) (k:Int) v551.1 nbF qh603 v551.1 0 (by simp) _ _ h646 ?_ ?_))
  ·
   intro Xb0 X1z X17 eo645;subst eo645
   refine X2.glue ?_
   try dsimp only at h
   rcases X17 with ⟨_|_,X2z⟩
   ·
    exact X9 [] (o:=by repeat' first|apply Ya|exact pcM|(refine X0a h601 rfl ?_;first|(simp;done)|(simp;omega)|(simp[hc,h553,h554];done)|(simp[hc,h553,h554];omega))|(refine Xs h601 (by decide) ?_;first|(simp;done)|(simp;omega)|(simp[hc,h553,h554];done)|(simp[hc,h553,h554];omega))|exact X0k) (k:=wkT [] (ih (k+1) hx1 _ _ nbF o h C0 C1))
   obtain rfl:=X2z rfl
   exact X9 [] (o:=by repeat' first|apply Ya|exact pcM|(refine X0a h601 rfl ?_;first|(simp;done)|(simp;omega)|(simp[hc,h553,h554];done)|(simp[hc,h553,h554];omega))|(refine Xs h601 (by decide) ?_;first|(simp;done)|(simp;omega)|(simp[hc,h553,h554];done)|(simp[hc,h553,h554];omega))|exact X0k) (k:=wkT [] (ih (k+1) hx1 _ _ nbS o h C0 C1))
  intro X95 X94 Xf2 X5x X3h eo645;subst eo645
  refine X2.glue ?_
  try dsimp only at h
  rcases X5x with ⟨_|_,X9n⟩
  ·
   rcases X3h with ⟨_|_,X2y⟩
   ·
    revert h
    exact fun e=>X9 [] (o:=by repeat' first|apply Ya|exact pcM|(refine X0a h601 rfl ?_;first|(simp;done)|(simp;omega)|(simp[hc,h553,h554];done)|(simp[hc,h553,h554];omega))|(refine Xs h601 (by decide) ?_;first|(simp;done)|(simp;omega)|(simp[hc,h553,h554];done)|(simp[hc,h553,h554];omega))|exact X0k) (k:=wkT [] (C1 _ _ _  nbF nbF (oj e).symm))
   obtain rfl:=X2y rfl
   revert h
   exact fun e=>X9 [] (o:=by repeat' first|apply Ya|exact pcM|(refine X0a h601 rfl ?_;first|(simp;done)|(simp;omega)|(simp[hc,h553,h554];done)|(simp[hc,h553,h554];omega))|(refine Xs h601 (by decide) ?_;first|(simp;done)|(simp;omega)|(simp[hc,h553,h554];done)|(simp[hc,h553,h554];omega))|exact X0k) (k:=wkT [] (C1 _ _ _  nbF nbS (oj e).symm))
  obtain rfl:=X9n rfl
  rcases X3h with ⟨_|_,X2y⟩
  ·
   revert h
   exact fun e=>X9 [] (o:=by repeat' first|apply Ya|exact pcM|(refine X0a h601 rfl ?_;first|(simp;done)|(simp;omega)|(simp[hc,h553,h554];done)|(simp[hc,h553,h554];omega))|(refine Xs h601 (by decide) ?_;first|(simp;done)|(simp;omega)|(simp[hc,h553,h554];done)|(simp[hc,h553,h554];omega))|exact X0k) (k:=wkT [] (C1 _ _ _  nbS nbF (oj e).symm))
  obtain rfl:=X2y rfl
  revert h
  exact fun e=>X9 [] (o:=by repeat' first|apply Ya|exact pcM|(refine X0a h601 rfl ?_;first|(simp;done)|(simp;omega)|(simp[hc,h553,h554];done)|(simp[hc,h553,h554];omega))|(refine Xs h601 (by decide) ?_;first|(simp;done)|(simp;omega)|(simp[hc,h553,h554];done)|(simp[hc,h553,h554];omega))|exact X0k) (k:=wkT [] (C1 _ _ _  nbS nbS (oj e).symm))
theorem Xdj {Q:X02->St->Mu->Prop} {μ:Mu} (Xev:Xu) (X92:(List X7)) (Xf3:(List X8)) (X9w:Nb X92) (hl:Xf3.length<=140737488355328):∀ (xs:List X8) (k:Nat) (hx:Xf3.drop k=xs) (Xke:(List X0t)) (Xcg:Nb Xke) (o:Xaf) (h:X3y Xev X92 Xf3 xs k Xke=some o)
  (C0:∀ (X5d:(List X7)) (X6b:(List X0t)) (X42:Nb X5d) (X80:Nb X6b),o=Xaf.x0 X5d X6b->X2 Tryz.prog 119 0 Q (.exit (.exit 4)) [] ⟨fr [(2,(AV.ptr 0 0 0)),(11,(slE X42.1 1 (X5d.map X0))),(22,(slE X80.1 2 (X6b.map Xb)))],hp ([(0,Ob [(Xm false Xev)] 10)]++opE X42.1 1 3 (X5d.map X0)++opE X80.1 2 5 (X6b.map Xb)),3⟩ μ),
  X2 Tryz.prog 119 0 Q (.loop (X2v 2 (Xh Tryz.f19))) [] ⟨fr [(2,(AV.ptr 0 0 0)),(11,(slE X9w.1 1 (X92.map X0))),(22,(slE Xcg.1 2 (Xke.map Xb))),(96,(AV.list true (Xf3.map X5))),(97,(aI .i64 (Xf3.length:Int))),(98,(aI .i64 (k:Int)))],hp ([(0,Ob [(Xm false Xev)] 10)]++opE X9w.1 1 3 (X92.map X0)++opE Xcg.1 2 5 (Xke.map Xb)),3⟩ μ:=by
 intro xs
 induction xs with
 |nil =>
  intro k hx Xke Xcg o h C0
  have hk:=drop_nil hx
  have hc:decide ((k:Int)<(Xf3.length:Int))=false:=Yf (by omega)
  rw[X3y] at h
  rcases X9w with ⟨_|_,Xij⟩
  ·
   rcases Xcg with ⟨_|_,Xeb⟩
   ·
    refine X2.round ?_
    revert h
    exact fun e=>X9 [Bf] (k:=wkT [] (C0 _ _  nbF nbF (oj e).symm))
   obtain rfl:=Xeb rfl
   refine X2.round ?_
   revert h
   exact fun e=>X9 [Bf] (k:=wkT [] (C0 _ _  nbF nbS (oj e).symm))
  ·
   obtain rfl:=Xij rfl
   rcases Xcg with ⟨_|_,Xeb⟩
   ·
    refine X2.round ?_
    revert h
    exact fun e=>X9 [Bf] (k:=wkT [] (C0 _ _  nbS nbF (oj e).symm))
   ·
    obtain rfl:=Xeb rfl
    refine X2.round ?_
    revert h
    exact fun e=>X9 [Bf] (k:=wkT [] (C0 _ _  nbS nbS (oj e).symm))
 |cons x xs ih =>
  intro k hx Xke Xcg o h C0
  obtain⟨hk,hg,hx1⟩:=drop_cons hx
  have hc:decide ((k:Int)<(Xf3.length:Int))=true:=Yt (by omega)
  rw[X3y] at h
  rcases X9w with ⟨_|_,Xij⟩
  ·
   rcases Xcg with ⟨_|_,Xeb⟩
   ·
    refine X2.round ?_
    revert h
    refine bI fun v732 h733=>bI fun Xmb h741=>rnI [Bt,.el (X5 x),.pure _ (AV.tup [(Xb v732.1),(aB v732.2)])] ?_
    intro h
    refine X2.joinF (fun(q:Nb Xmb)=>⟨fr [(2,(AV.ptr 0 0 0)),(11,(AV.ref 1 0 (X92.length))),(22,(slE q.1 2 (Xmb.map Xb))),(96,(AV.list true (Xf3.map X5))),(97,(aI .i64 (Xf3.length:Int))),(98,(aI .i64 (k:Int)))],hp ([(0,Ob [(Xm false Xev)] 10),(1,Ob (X92.map X0) 3)]++opE q.1 2 5 (Xmb.map Xb)),3⟩) ?_ (fun J=>X2.cut ?_)
    ·
     rintro Xxr
     rcases Xxr with ⟨_|_,Xyl⟩
     ·
      exact X9 [] (k:=wkT [] (ih (k+1) hx1 _ nbF o h C0))
     obtain rfl:=Xyl rfl
     exact X9 [] (k:=wkT [] (ih (k+1) hx1 _ nbS o h C0))
    clear h;revert h741
    refine brI (fun h738=>?_) fun h738=>?_
    ·
     refine bI fun u739 h740=>?_
     intro h
     obtain rfl:=oj h
     exact X9 [Bt,.no] (o:=by repeat' first|apply Ya|exact pcM|(refine X0a h740 rfl ?_;first|(simp;done)|(simp;omega)|(simp[hc,h738];done)|(simp[hc,h738];omega))|(refine Xs h740 (by decide) ?_;first|(simp;done)|(simp;omega)|(simp[hc,h738];done)|(simp[hc,h738];omega))|exact X0k) (k:=wkT [(2,6)] (X2.glue (J nbF)))
    intro h
    obtain rfl:=oj h
    exact X9 [Bf] (k:=wkT [] (X2.glue (J nbF)))
   obtain rfl:=Xeb rfl
   refine X2.round ?_
   revert h
   refine bI fun v742 h743=>bI fun Xud h751=>rnI [Bt,.el (X5 x),.pure _ (AV.tup [(Xb v742.1),(aB v742.2)])] ?_
   intro h
   refine X2.joinF (fun(q:Nb Xud)=>⟨fr [(2,(AV.ptr 0 0 0)),(11,(AV.ref 1 0 (X92.length))),(22,(slE q.1 2 (Xud.map Xb))),(96,(AV.list true (Xf3.map X5))),(97,(aI .i64 (Xf3.length:Int))),(98,(aI .i64 (k:Int)))],hp ([(0,Ob [(Xm false Xev)] 10),(1,Ob (X92.map X0) 3)]++opE q.1 2 5 (Xud.map Xb)),3⟩) ?_ (fun J=>X2.cut ?_)
   ·
    rintro Xxq
    rcases Xxq with ⟨_|_,Xyk⟩
    ·
     exact X9 [] (k:=wkT [] (ih (k+1) hx1 _ nbF o h C0))
    obtain rfl:=Xyk rfl
    exact X9 [] (k:=wkT [] (ih (k+1) hx1 _ nbS o h C0))
   clear h;revert h751
   refine brI (fun h748=>?_) fun h748=>?_
   ·
    refine bI fun u749 h750=>?_
    intro h
    obtain rfl:=oj h
    exact X9 [Bt,.no] (o:=by repeat' first|apply Ya|exact pcM|(refine X0a h750 rfl ?_;first|(simp;done)|(simp;omega)|(simp[hc,h748];done)|(simp[hc,h748];omega))|(refine Xs h750 (by decide) ?_;first|(simp;done)|(simp;omega)|(simp[hc,h748];done)|(simp[hc,h748];omega))|exact X0k) (k:=wkT [(2,6)] (X2.glue (J nbF)))
   intro h
   obtain rfl:=oj h
   exact X9 [Bf] (k:=wkT [] (X2.glue (J nbS)))
  obtain rfl:=Xij rfl
  rcases Xcg with ⟨_|_,Xeb⟩
  ·
   refine X2.round ?_
   revert h
   refine bI fun v752 h753=>bI fun Xuc h761=>rnI [Bt,.el (X5 x),.pure _ (AV.tup [(Xb v752.1),(aB v752.2)])] ?_
   intro h
   refine X2.joinF (fun(q:Nb Xuc)=>⟨fr [(2,(AV.ptr 0 0 0)),(11,AV.nils),(22,(slE q.1 2 (Xuc.map Xb))),(96,(AV.list true (Xf3.map X5))),(97,(aI .i64 (Xf3.length:Int))),(98,(aI .i64 (k:Int)))],hp ([(0,Ob [(Xm false Xev)] 10)]++opE q.1 2 5 (Xuc.map Xb)),3⟩) ?_ (fun J=>X2.cut ?_)
   ·
    rintro Xxp
    rcases Xxp with ⟨_|_,Xyj⟩
    ·
     exact X9 [] (k:=wkT [] (ih (k+1) hx1 _ nbF o h C0))
    obtain rfl:=Xyj rfl
    exact X9 [] (k:=wkT [] (ih (k+1) hx1 _ nbS o h C0))
   clear h;revert h761
   refine brI (fun h758=>?_) fun h758=>?_
   ·
    refine bI fun u759 h760=>?_
    intro h
    obtain rfl:=oj h
    exact X9 [Bt,.no] (o:=by repeat' first|apply Ya|exact pcM|(refine X0a h760 rfl ?_;first|(simp;done)|(simp;omega)|(simp[hc,h758];done)|(simp[hc,h758];omega))|(refine Xs h760 (by decide) ?_;first|(simp;done)|(simp;omega)|(simp[hc,h758];done)|(simp[hc,h758];omega))|exact X0k) (k:=wkT [(2,6)] (X2.glue (J nbF)))
   intro h
   obtain rfl:=oj h
   exact X9 [Bf] (k:=wkT [] (X2.glue (J nbF)))
  obtain rfl:=Xeb rfl
  refine X2.round ?_
  revert h
  refine bI fun v762 h763=>bI fun Xub h771=>rnI [Bt,.el (X5 x),.pure _ (AV.tup [(Xb v762.1),(aB v762.2)])] ?_
  intro h
  refine X2.joinF (fun(q:Nb Xub)=>⟨fr [(2,(AV.ptr 0 0 0)),(11,AV.nils),(22,(slE q.1 2 (Xub.map Xb))),(96,(AV.list true (Xf3.map X5))),(97,(aI .i64 (Xf3.length:Int))),(98,(aI .i64 (k:Int)))],hp ([(0,Ob [(Xm false Xev)] 10)]++opE q.1 2 5 (Xub.map Xb)),3⟩) ?_ (fun J=>X2.cut ?_)
  ·
   rintro Xxo
   rcases Xxo with ⟨_|_,Xyi⟩
   ·
    exact X9 [] (k:=wkT [] (ih (k+1) hx1 _ nbF o h C0))
   obtain rfl:=Xyi rfl
   exact X9 [] (k:=wkT [] (ih (k+1) hx1 _ nbS o h C0))
  clear h;revert h771
  refine brI (fun h768=>?_) fun h768=>?_
  ·
   refine bI fun u769 h770=>?_
   intro h
   obtain rfl:=oj h
   exact X9 [Bt,.no] (o:=by repeat' first|apply Ya|exact pcM|(refine X0a h770 rfl ?_;first|(simp;done)|(simp;omega)|(simp[hc,h768];done)|(simp[hc,h768];omega))|(refine Xs h770 (by decide) ?_;first|(simp;done)|(simp;omega)|(simp[hc,h768];done)|(simp[hc,h768];omega))|exact X0k) (k:=wkT [(2,6)] (X2.glue (J nbF)))
  intro h
  obtain rfl:=oj h
  exact X9 [Bf] (k:=wkT [] (X2.glue (J nbS)))
instance X04k:PCs Tryz.prog 19 (∀ (a0:Xu) (a1:(List (List Xk))) (r:(List X0t)×(List X7)×Int),X4a a0 a1=some r->X0g Tryz.prog 19 [(Xm false a0),(Lf (List.map (X56 false Xd) a1))] (AV.tup [(AV.list true (r.1.map Xb)),(AV.list true (r.2.1.map X0)),(aI .i64 r.2.2)])):=⟨fun a0 a1 r h=>by
 refine X0g.sym Xa fn19 (nt:=119) rfl rfl ?_ okM
 unfold X4a at h
 revert h
 refine bI fun v1 h2=>brI (fun h3=>fun e=>oj e▸X9 [.pure _ (AV.tup [(aI .i64 v1.1),(aI .i64 v1.2)]),Bt] (k:=fi)) fun h3=>brI (fun h4=>fun e=>oj e▸X9 [.pure _ (AV.tup [(aI .i64 v1.1),(aI .i64 v1.2)]),Bf,.el (aI .i64 (a1.length:Int)),.el (aI .i64 (a0.Sources.length:Int)),Bt] (k:=fi)) fun h4=>bI fun v5 h6=>rnI [.pure _ (AV.tup [(aI .i64 v1.1),(aI .i64 v1.2)]),Bf,.el (aI .i64 (a1.length:Int)),.el (aI .i64 (a0.Sources.length:Int)),Bf,.pure _ (aI .i64 v5)] ?_
 refine brI (fun h7=>fun e=>oj e▸X9 [Bt] (k:=fi)) fun h7=>rnI [Bf,.el (aI .i64 (a1.length:Int))] ?_
 intro h
 refine X2.nilsList 10 true rfl ?_
 revert h
 refine bI fun u8 h9=>?_
 have qh9:=X08 h9
 refine bI fun o647 h648=>rnI [] ?_
 intro h
 refine wkT [] (X2.cut (Xjg a0 a1 qh9 a1 0 (by simp) _ _ nbS _ h648 ?_ ?_))
 ·
  intro X87 X0s X0v eo647;subst eo647
  refine X2.glue ?_
  try dsimp only at h
  rcases X0v with ⟨_|_,X33⟩
  ·
   revert h
   refine bI fun u649 h650=>?_
   have qh650:=X08 h650
   refine bI fun o772 h773=>rnI [.el (aI .i64 (X87.length:Int))] ?_
   intro h
   refine wkT [] (X2.cut (Xdj a0 X0s X87 nbF qh650 X87 0 (by simp) _ nbS _ h773 ?_))
   intro X5d X6b X42 X80 eo772;subst eo772
   refine X2.glue ?_
   try dsimp only at h
   rcases X42 with ⟨_|_,X9m⟩
   ·
    rcases X80 with ⟨_|_,X9l⟩
    ·
     revert h
     refine bI fun Xma h777=>rnI [] ?_
     intro h
     refine X2.joinF (fun(q:Nb Xma)=>⟨fr [(11,(slE q.1 0 (Xma.map X0))),(22,(AV.ref 1 0 (X6b.length)))],hp ([(1,Ob (X6b.map Xb) 5)]++opE q.1 0 3 (Xma.map X0)),2⟩) ?_ (fun J=>X2.cut ?_)
     ·
      rintro Xxn
      rcases Xxn with ⟨_|_,Xyh⟩
      ·
       revert h
       exact fun e=>oj e▸X9 [] (k:=fi)
      obtain rfl:=Xyh rfl
      revert h
      exact fun e=>oj e▸X9 [] (k:=fi)
     clear h;revert h777
     refine brI (fun h776=>?_) fun h776=>?_
     ·
      intro h
      obtain rfl:=oj h
      exact X9 [Bt] (k:=wkT [(1,2)] (X2.glue (J nbS)))
     intro h
     obtain rfl:=oj h
     exact X9 [Bf] (k:=wkT [(0,1),(1,2)] (X2.glue (J nbF)))
    obtain rfl:=X9l rfl
    revert h
    refine bI fun Xua h781=>rnI [] ?_
    intro h
    refine X2.joinF (fun(q:Nb Xua)=>⟨fr [(11,(slE q.1 0 (Xua.map X0))),(22,AV.nils)],hp ([]++opE q.1 0 3 (Xua.map X0)),2⟩) ?_ (fun J=>X2.cut ?_)
    ·
     rintro Xxm
     rcases Xxm with ⟨_|_,Xyg⟩
     ·
      revert h
      exact fun e=>oj e▸X9 [] (k:=fi)
     obtain rfl:=Xyg rfl
     revert h
     exact fun e=>oj e▸X9 [] (k:=fi)
    clear h;revert h781
    refine brI (fun h780=>?_) fun h780=>?_
    ·
     intro h
     obtain rfl:=oj h
     exact X9 [Bt] (k:=wkT [] (X2.glue (J nbS)))
    intro h
    obtain rfl:=oj h
    exact X9 [Bf] (k:=wkT [(0,1)] (X2.glue (J nbF)))
   obtain rfl:=X9m rfl
   rcases X80 with ⟨_|_,X9l⟩
   ·
    revert h
    refine bI fun Xu9 h785=>rnI [] ?_
    intro h
    refine X2.joinF (fun(q:Nb Xu9)=>⟨fr [(11,(slE q.1 0 (Xu9.map X0))),(22,(AV.ref 1 0 (X6b.length)))],hp ([(1,Ob (X6b.map Xb) 5)]++opE q.1 0 3 (Xu9.map X0)),2⟩) ?_ (fun J=>X2.cut ?_)
    ·
     rintro Xxl
     rcases Xxl with ⟨_|_,Xyf⟩
     ·
      revert h
      exact fun e=>oj e▸X9 [] (k:=fi)
     obtain rfl:=Xyf rfl
     revert h
     exact fun e=>oj e▸X9 [] (k:=fi)
    clear h;revert h785
    refine brI (fun h784=>?_) fun h784=>?_
    ·
     intro h
     obtain rfl:=oj h
     exact X9 [Bt] (k:=wkT [(1,2)] (X2.glue (J nbS)))
    intro h
    obtain rfl:=oj h
    exact X9 [Bf] (k:=wkT [(1,2)] (X2.glue (J nbS)))
   obtain rfl:=X9l rfl
   revert h
   refine bI fun Xu8 h789=>rnI [] ?_
   intro h
   refine X2.joinF (fun(q:Nb Xu8)=>⟨fr [(11,(slE q.1 0 (Xu8.map X0))),(22,AV.nils)],hp ([]++opE q.1 0 3 (Xu8.map X0)),2⟩) ?_ (fun J=>X2.cut ?_)
   ·
    rintro Xxk
    rcases Xxk with ⟨_|_,Xye⟩
    ·
     revert h
     exact fun e=>oj e▸X9 [] (k:=fi)
    obtain rfl:=Xye rfl
    revert h
    exact fun e=>oj e▸X9 [] (k:=fi)
   clear h;revert h789
   refine brI (fun h788=>?_) fun h788=>?_
   ·
    intro h
    obtain rfl:=oj h
    exact X9 [Bt] (k:=wkT [] (X2.glue (J nbS)))
   intro h
   obtain rfl:=oj h
   exact X9 [Bf] (k:=wkT [] (X2.glue (J nbS)))
  obtain rfl:=X33 rfl
  revert h
  refine bI fun u790 h791=>?_
  have qh791:=X08 h791
  refine bI fun o873 h874=>rnI [.el (aI .i64 (X87.length:Int))] ?_
  intro h
  refine wkT [] (X2.cut (Xdj a0 ([]:List X7) X87 nbS qh791 X87 0 (by simp) _ nbS _ h874 ?_))
  intro X5d X6b X42 X80 eo873;subst eo873
  refine X2.glue ?_
  try dsimp only at h
  rcases X42 with ⟨_|_,X9m⟩
  ·
   rcases X80 with ⟨_|_,X9l⟩
   ·
    revert h
    refine bI fun Xu6 h878=>rnI [] ?_
    intro h
    refine X2.joinF (fun(q:Nb Xu6)=>⟨fr [(11,(slE q.1 0 (Xu6.map X0))),(22,(AV.ref 1 0 (X6b.length)))],hp ([(1,Ob (X6b.map Xb) 5)]++opE q.1 0 3 (Xu6.map X0)),2⟩) ?_ (fun J=>X2.cut ?_)
    ·
     rintro Xxi
     rcases Xxi with ⟨_|_,Xyc⟩
     ·
      revert h
      exact fun e=>oj e▸X9 [] (k:=fi)
     obtain rfl:=Xyc rfl
     revert h
     exact fun e=>oj e▸X9 [] (k:=fi)
    clear h;revert h878
    refine brI (fun h877=>?_) fun h877=>?_
    ·
     intro h
     obtain rfl:=oj h
     exact X9 [Bt] (k:=wkT [(1,2)] (X2.glue (J nbS)))
    intro h
    obtain rfl:=oj h
    exact X9 [Bf] (k:=wkT [(0,1),(1,2)] (X2.glue (J nbF)))
   obtain rfl:=X9l rfl
   revert h
   refine bI fun Xu5 h882=>rnI [] ?_
   intro h
   refine X2.joinF (fun(q:Nb Xu5)=>⟨fr [(11,(slE q.1 0 (Xu5.map X0))),(22,AV.nils)],hp ([]++opE q.1 0 3 (Xu5.map X0)),2⟩) ?_ (fun J=>X2.cut ?_)
   ·
    rintro Xxh
    rcases Xxh with ⟨_|_,Xyb⟩
    ·
     revert h
     exact fun e=>oj e▸X9 [] (k:=fi)
    obtain rfl:=Xyb rfl
    revert h
    exact fun e=>oj e▸X9 [] (k:=fi)
   clear h;revert h882
   refine brI (fun h881=>?_) fun h881=>?_
   ·
    intro h
    obtain rfl:=oj h
    exact X9 [Bt] (k:=wkT [] (X2.glue (J nbS)))
   intro h
   obtain rfl:=oj h
   exact X9 [Bf] (k:=wkT [(0,1)] (X2.glue (J nbF)))
  obtain rfl:=X9m rfl
  rcases X80 with ⟨_|_,X9l⟩
  ·
   revert h
   refine bI fun Xu4 h886=>rnI [] ?_
   intro h
   refine X2.joinF (fun(q:Nb Xu4)=>⟨fr [(11,(slE q.1 0 (Xu4.map X0))),(22,(AV.ref 1 0 (X6b.length)))],hp ([(1,Ob (X6b.map Xb) 5)]++opE q.1 0 3 (Xu4.map X0)),2⟩) ?_ (fun J=>X2.cut ?_)
   ·
    rintro Xxg
    rcases Xxg with ⟨_|_,Xya⟩
    ·
     revert h
     exact fun e=>oj e▸X9 [] (k:=fi)
    obtain rfl:=Xya rfl
    revert h
    exact fun e=>oj e▸X9 [] (k:=fi)
   clear h;revert h886
   refine brI (fun h885=>?_) fun h885=>?_
   ·
    intro h
    obtain rfl:=oj h
    exact X9 [Bt] (k:=wkT [(1,2)] (X2.glue (J nbS)))
   intro h
   obtain rfl:=oj h
   exact X9 [Bf] (k:=wkT [(1,2)] (X2.glue (J nbS)))
  obtain rfl:=X9l rfl
  revert h
  refine bI fun Xu3 h890=>rnI [] ?_
  intro h
  refine X2.joinF (fun(q:Nb Xu3)=>⟨fr [(11,(slE q.1 0 (Xu3.map X0))),(22,AV.nils)],hp ([]++opE q.1 0 3 (Xu3.map X0)),2⟩) ?_ (fun J=>X2.cut ?_)
  ·
   rintro Xxf
   rcases Xxf with ⟨_|_,Xy9⟩
   ·
    revert h
    exact fun e=>oj e▸X9 [] (k:=fi)
   obtain rfl:=Xy9 rfl
   revert h
   exact fun e=>oj e▸X9 [] (k:=fi)
  clear h;revert h890
  refine brI (fun h889=>?_) fun h889=>?_
  ·
   intro h
   obtain rfl:=oj h
   exact X9 [Bt] (k:=wkT [] (X2.glue (J nbS)))
  intro h
  obtain rfl:=oj h
  exact X9 [Bf] (k:=wkT [] (X2.glue (J nbS)))
 intro X0e X6c Xo2 X0c X55 eo647;subst eo647
 refine X2.glue ?_
 try dsimp only at h
 rcases X0c with ⟨_|_,X30⟩
 ·
  rcases X55 with ⟨_|_,X9p⟩
  ·
   revert h
   exact fun e=>oj e▸X9 [] (k:=fi)
  obtain rfl:=X9p rfl
  revert h
  exact fun e=>oj e▸X9 [] (k:=fi)
 obtain rfl:=X30 rfl
 rcases X55 with ⟨_|_,X9p⟩
 ·
  revert h
  exact fun e=>oj e▸X9 [] (k:=fi)
 obtain rfl:=X9p rfl
 revert h
 exact fun e=>oj e▸X9 [] (k:=fi)⟩
instance Xti:PCs Tryz.prog 60 (∀ (a0:X8x) (a1:X8x) (r:Int),X77 a0 a1=some r->X0g Tryz.prog 60 [(X8s a0),(X8s a1)] (aI .i64 r)):=⟨fun a0 a1 r h=>by
 refine X0g.sym Xa fn60 (nt:=40) rfl rfl ?_ okM
 unfold X77 at h
 revert h
 exact bI fun v1 h2=>bI fun v3 h4=>bI fun v5 h6=>bI fun v7 h8=>bI fun v9 h10=>bI fun v11 h12=>fun e=>oj e▸X9 [.pure _ (aI .i64 v1),.pure _ (aI .i64 v3),.pure _ (aI .i64 v5),.ix 0,.ix 0,.pure _ (aI .i64 v7),.ix 1,.ix 1,.pure _ (aI .i64 v9),.pure _ (aI .i64 v11)] (k:=fi)⟩
end Go.Av.Tryz