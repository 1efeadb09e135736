/- Printed by decomp.py: that the program computes the functions. -/
import Derived.Test.YtfdfgobnpnoomaaGreatDCert7Z
set_option linter.all false

namespace Go.Av.Tryz
open Go.Proofs Go.D
set_option maxRecDepth 10000
set_option maxHeartbeats 40000000
instance X00x:PCs Tryz.prog 85 (∀ (a0:Int) (a1:X0a) (r:Int×Int),X7f a0 a1=some r->X0j Tryz.prog 85 [(aI .u8 a0),(X0c a1)] (AV.tup [(aI .i64 r.1),(aI .i64 r.2)])):=⟨fun a0 a1 r h=>by
 refine X0j.sym X9 fn85 (nt:=34) rfl rfl ?_ okM
 unfold X7f at h
 revert h
 refine brI (fun h1=>fun e=>oj e▸X7 [Bt] (k:=fi)) fun h1=>bI fun v2 h3=>brI (fun h4=>fun e=>oj e▸X7 [Bf,.pure _ (aI .i64 v2),Bt] (k:=fi)) fun h4=>brI (fun h5=>fun e=>oj e▸X7 [Bf,.pure _ (aI .i64 v2),Bf,Bt] (k:=fi)) fun h5=>bI fun X07a h17=>rnI [Bf,.pure _ (aI .i64 v2),Bf,Bf,.stop 9] ?_
 intro h
 refine X2.join (s':=⟨fr [(4,(aI .i64 X07a)),(5,(aI .i64 0))],hp ([]),0⟩) ?_ (fun J=>X2.cut ?_)
 ·
  revert h
  exact fun e=>oj e▸X7 [] (k:=fi)
 clear h;revert h17
 refine brI (fun h12=>?_) fun h12=>?_
 ·
  intro h
  obtain rfl:=oj h
  exact X7 [.ix 0] (o:=by repeat' first|apply Ya|exact pcM|exact((eq_of_beq h12))|exact X0k) (k:=wkT [] (X2.glue J))
 refine brI (fun h13=>?_) fun h13=>?_
 ·
  intro h
  obtain rfl:=oj h
  exact X7 [.ix 1] (o:=by repeat' first|apply Ya|exact pcM|exact((eq_of_beq h13))|exact X0k) (k:=wkT [] (X2.glue J))
 refine brI (fun h14=>?_) fun h14=>?_
 ·
  intro h
  obtain rfl:=oj h
  exact X7 [.ix 2] (o:=by repeat' first|apply Ya|exact pcM|exact((eq_of_beq h14))|exact X0k) (k:=wkT [] (X2.glue J))
 refine brI (fun h15=>?_) fun h15=>?_
 ·
  intro h
  obtain rfl:=oj h
  exact X7 [.ix 3] (o:=by repeat' first|apply Ya|exact pcM|exact((eq_of_beq h15))|exact X0k) (k:=wkT [] (X2.glue J))
 refine brI (fun h16=>?_) fun h16=>?_
 ·
  intro h
  obtain rfl:=oj h
  exact X7 [.ix 4] (o:=by repeat' first|apply Ya|exact pcM|exact((eq_of_beq h16))|exact X0k) (k:=wkT [] (X2.glue J))
 intro h
 cases h⟩
instance X01w:PCs Tryz.prog 52 (∀ (a0:Xw) (a1:X6) (r:X1c×Bool),Xav a0 a1=some r->X0j Tryz.prog 52 [(Xn false a0),(X5 a1)] (AV.tup [(Xd r.1),(aB r.2)])):=⟨fun a0 a1 r h=>by
 refine X0j.sym X9 fn52 (nt:=44) rfl rfl ?_ okM
 unfold Xav at h
 refine X10 [] ?_
 refine X2.round ?_
 revert h
 refine bI fun v3 h4=>brI (fun h5=>fun e=>oj e▸X7 [Bt,.go false,.go false,.go false,Bf,.ix 0,.pure _ (AV.tup [(aI .i64 v3.1),(aI .i64 v3.2)]),Bt] (k:=fi)) fun h5=>rnI [Bt,.go false,.go false,.go false,Bf,.ix 0,.pure _ (AV.tup [(aI .i64 v3.1),(aI .i64 v3.2)]),Bf,.ix 0] ?_
 intro h
 refine X2.round ?_
 revert h
 refine brI (fun h6=>fun e=>oj e▸X7 [Bt,.go true,.go true,.go true,Bt] (k:=fi)) fun h6=>bI fun v9 h10=>brI (fun h11=>fun e=>oj e▸X7 [Bt,.go true,.go true,.go true,Bf,.ix 1,.pure _ (AV.tup [(aI .i64 v9.1),(aI .i64 v9.2)]),Bt] (k:=fi)) fun h11=>rnI [Bt,.go true,.go true,.go true,Bf,.ix 1,.pure _ (AV.tup [(aI .i64 v9.1),(aI .i64 v9.2)]),Bf,.ix 1] ?_
 intro h
 refine X2.round ?_
 revert h
 exact fun e=>oj e▸X7 [Bf] (k:=fi)⟩
theorem X6a {Q:X01->St->Mu->Prop} {μ:Mu} (X33:Xw) (X3b:(List Xc)) (Xoy:Int) (Xox:(List (List Xk))) (Xow:Int) (Xov:Int) (Xgh:(List Xc)) (X3u:Nb X3b) (hl:Xgh.length<=140737488355328):∀ (xs:List Xc) (k:Nat) (hx:Xgh.drop k=xs) (Xk1:(List X6)) (o:X6u) (h:X2v X33 X3b Xoy Xox Xow Xov Xgh xs k Xk1=some o)
  (C0:∀ (Xa2:(List X6)) (X1r:(List Xc)) (X13:Nb X1r),o=X6u.x0 Xa2 X1r->X2 Tryz.prog 119 0 Q (.exit (.exit 2)) [] ⟨fr [(2,(AV.ptr 0 0 0)),(10,(AV.list true (Xa2.map X5))),(11,(slE X13.1 1 (X1r.map X0))),(46,(Lf (List.map (X6j false Xa) Xox))),(47,(aI .i64 Xow)),(48,(aI .i64 Xov))],hp ([(0,Ob [(Xn false X33)] 10)]++opE X13.1 1 3 (X1r.map X0)),2⟩ μ)
  (C1:∀ (X8d:(List X1c)) (X8c:(List Xc)) (Xe1:Int) (X5e:Nb X8d) (X32:Nb X8c),o=X6u.x1 X8d X8c Xe1->X2 Tryz.prog 119 0 Q (.exit .ret) [] ⟨fr [(4,(slE X5e.1 0 (X8d.map Xd))),(5,(slE X32.1 1 (X8c.map X0))),(6,(aI .i64 Xe1))],hp ([]++opE X5e.1 0 5 (X8d.map Xd)++opE X32.1 1 3 (X8c.map X0)),2⟩ μ),
  X2 Tryz.prog 119 0 Q (.loop (X30 1 (Xj Tryz.f19))) [] ⟨fr [(2,(AV.ptr 0 0 0)),(10,(AV.list true (Xk1.map X5))),(11,(slE X3u.1 1 (X3b.map X0))),(12,(aI .i64 Xoy)),(46,(Lf (List.map (X6j false Xa) Xox))),(47,(aI .i64 Xow)),(48,(aI .i64 Xov)),(65,(AV.list true (Xgh.map X0))),(66,(aI .i64 (Xgh.length:Int))),(67,(aI .i64 (k:Int)))],hp ([(0,Ob [(Xn false X33)] 10)]++opE X3u.1 1 3 (X3b.map X0)),2⟩ μ:=by
 intro xs
 induction xs with
 |nil =>
  intro k hx Xk1 o h C0 C1
  have hk:=drop_nil hx
  have hc:decide ((k:Int)<(Xgh.length:Int))=false:=Yf (by omega)
  rw[X2v] at h
  rcases X3u with ⟨_|_,X7w⟩
  ·
   refine X2.round ?_
   revert h
   exact fun e=>X7 [Bf] (k:=wkT [] (C0 _ _  nbF (oj e).symm))
  ·
   obtain rfl:=X7w rfl
   refine X2.round ?_
   revert h
   exact fun e=>X7 [Bf] (k:=wkT [] (C0 _ _  nbS (oj e).symm))
 |cons x xs ih =>
  intro k hx Xk1 o h C0 C1
  obtain⟨hk,hg,hx1⟩:=drop_cons hx
  have hc:decide ((k:Int)<(Xgh.length:Int))=true:=Yt (by omega)
  rw[X2v] at h
  rcases X3u with ⟨_|_,X7w⟩
  ·
   refine X2.round ?_
   revert h
   refine bI fun v482 h483=>brI (fun h484=>?_) fun h484=>?_
   ·
    refine rnI [Bt,.el (X0 x),.pure _ (AV.tup [(X0 v482.1),(aB v482.2)]),Bt] ?_
    intro h
    exact wkT [] (ih (k+1) hx1 _ o h C0 C1)
   refine bI fun Xse h488=>rnI [Bt,.el (X0 x),.pure _ (AV.tup [(X0 v482.1),(aB v482.2)]),Bf] ?_
   intro h
   refine X2.join (s':=⟨fr [(2,(AV.ptr 0 0 0)),(10,(AV.list true (Xk1.map X5))),(11,(AV.ref 1 0 (X3b.length))),(12,(aI .i64 Xoy)),(19,(AV.ptr 2 0 0)),(21,(aI .i64 Xse)),(46,(Lf (List.map (X6j false Xa) Xox))),(47,(aI .i64 Xow)),(48,(aI .i64 Xov)),(65,(AV.list true (Xgh.map X0))),(66,(aI .i64 (Xgh.length:Int))),(67,(aI .i64 (k:Int)))],hp ([(0,Ob [(Xn false X33)] 10),(1,Ob (X3b.map X0) 3),(2,Ob [(X0 v482.1)] 3)]),3⟩) ?_ (fun J=>X2.cut ?_)
   ·
    revert h
    refine bI fun v489 h490=>brI (fun h491=>fun e=>X7 [.pure _ (AV.tup [(AV.list true (v489.1.map X5)),(aI .i64 v489.2)]),Bt] (k:=wkT [] (C1 _ _ _  nbS nbS (oj e).symm))) fun h491=>rnI [.pure _ (AV.tup [(AV.list true (v489.1.map X5)),(aI .i64 v489.2)]),Bf] ?_
    intro h
    exact wkT [] (ih (k+1) hx1 _ o h C0 C1)
   clear h;revert h488
   refine brI (fun h487=>?_) fun h487=>?_
   ·
    intro h
    obtain rfl:=oj h
    exact X7 [Bt] (k:=wkT [(2,3)] (X2.glue J))
   intro h
   obtain rfl:=oj h
   exact X7 [Bf] (k:=wkT [(2,3)] (X2.glue J))
  obtain rfl:=X7w rfl
  refine X2.round ?_
  revert h
  refine bI fun v492 h493=>brI (fun h494=>?_) fun h494=>?_
  ·
   refine rnI [Bt,.el (X0 x),.pure _ (AV.tup [(X0 v492.1),(aB v492.2)]),Bt] ?_
   intro h
   exact wkT [] (ih (k+1) hx1 _ o h C0 C1)
  refine bI fun X06t h498=>rnI [Bt,.el (X0 x),.pure _ (AV.tup [(X0 v492.1),(aB v492.2)]),Bf] ?_
  intro h
  refine X2.join (s':=⟨fr [(2,(AV.ptr 0 0 0)),(10,(AV.list true (Xk1.map X5))),(11,AV.nils),(12,(aI .i64 Xoy)),(19,(AV.ptr 2 0 0)),(21,(aI .i64 X06t)),(46,(Lf (List.map (X6j false Xa) Xox))),(47,(aI .i64 Xow)),(48,(aI .i64 Xov)),(65,(AV.list true (Xgh.map X0))),(66,(aI .i64 (Xgh.length:Int))),(67,(aI .i64 (k:Int)))],hp ([(0,Ob [(Xn false X33)] 10),(2,Ob [(X0 v492.1)] 3)]),3⟩) ?_ (fun J=>X2.cut ?_)
  ·
   revert h
   refine bI fun v499 h500=>brI (fun h501=>fun e=>X7 [.pure _ (AV.tup [(AV.list true (v499.1.map X5)),(aI .i64 v499.2)]),Bt] (k:=wkT [] (C1 _ _ _  nbS nbS (oj e).symm))) fun h501=>rnI [.pure _ (AV.tup [(AV.list true (v499.1.map X5)),(aI .i64 v499.2)]),Bf] ?_
   intro h
   exact wkT [] (ih (k+1) hx1 _ o h C0 C1)
  clear h;revert h498
  refine brI (fun h497=>?_) fun h497=>?_
  ·
   intro h
   obtain rfl:=oj h
   exact X7 [Bt] (k:=wkT [(2,3)] (X2.glue J))
  intro h
  obtain rfl:=oj h
  exact X7 [Bf] (k:=wkT [(2,3)] (X2.glue J))
theorem Xhz {Q:X01->St->Mu->Prop} {μ:Mu} (Xf:Xw) (Xb4:(List (List Xk))) (hl:Xb4.length<=140737488355328):∀ (xs:List (List Xk)) (k:Nat) (hx:Xb4.drop k=xs) (X4m:(List X6)) (Xi:(List Xc)) (Xm:Nb Xi) (o:X6v) (h:X2w Xf Xb4 xs k X4m Xi=some o)
  (C0:∀ (X7h:(List X6)) (X0r:(List Xc)) (X0t:Nb X0r),o=X6v.x0 X7h X0r->X2 Tryz.prog 119 0 Q (.exit (.exit 0)) [] ⟨fr [(2,(AV.ptr 0 0 0)),(10,(AV.list true (X7h.map X5))),(11,(slE X0t.1 1 (X0r.map X0)))],hp ([(0,Ob [(Xn false Xf)] 10)]++opE X0t.1 1 3 (X0r.map X0)),2⟩ μ)
  (C1:∀ (X0d:(List X1c)) (X5t:(List Xc)) (Xmi:Int) (X0b:Nb X0d) (X4q:Nb X5t),o=X6v.x1 X0d X5t Xmi->X2 Tryz.prog 119 0 Q (.exit .ret) [] ⟨fr [(4,(slE X0b.1 0 (X0d.map Xd))),(5,(slE X4q.1 1 (X5t.map X0))),(6,(aI .i64 Xmi))],hp ([]++opE X0b.1 0 5 (X0d.map Xd)++opE X4q.1 1 3 (X5t.map X0)),2⟩ μ),
  X2 Tryz.prog 119 0 Q (.loop (X30 0 (Xj Tryz.f19))) [] ⟨fr [(2,(AV.ptr 0 0 0)),(10,(AV.list true (X4m.map X5))),(11,(slE Xm.1 1 (Xi.map X0))),(46,(Lf (List.map (X6j false Xa) Xb4))),(47,(aI .i64 (Xb4.length:Int))),(48,(aI .i64 (k:Int)))],hp ([(0,Ob [(Xn false Xf)] 10)]++opE Xm.1 1 3 (Xi.map X0)),2⟩ μ:=by
 intro xs
 induction xs with
 |nil =>
  intro k hx X4m Xi Xm o h C0 C1
  have hk:=drop_nil hx
  have hc:decide ((k:Int)<(Xb4.length:Int))=false:=Yf (by omega)
  rw[X2w] at h
  rcases Xm with ⟨_|_,X02⟩
  ·
   refine X2.round ?_
   revert h
   exact fun e=>X7 [Bf] (k:=wkT [] (C0 _ _  nbF (oj e).symm))
  ·
   obtain rfl:=X02 rfl
   refine X2.round ?_
   revert h
   exact fun e=>X7 [Bf] (k:=wkT [] (C0 _ _  nbS (oj e).symm))
 |cons x xs ih =>
  intro k hx X4m Xi Xm o h C0 C1
  obtain⟨hk,hg,hx1⟩:=drop_cons hx
  have hc:decide ((k:Int)<(Xb4.length:Int))=true:=Yt (by omega)
  rw[X2w] at h
  rcases Xm with ⟨_|_,X02⟩
  ·
   refine X2.round ?_
   revert h
   refine bI fun v435 h436=>rnI [Bt,.el (X6j false Xa x),.pure _ (AV.tup [(AV.list true (v435.1.map X0)),(AV.list true (v435.2.1.map X0)),(aI .i64 v435.2.2)])] ?_
   refine brI (fun h437=>fun e=>X7 [Bt] (k:=wkT [] (C1 _ _ _  nbS nbS (oj e).symm))) fun h437=>?_
   refine brI (fun q=>?_) fun q=>?_
   ·
    intro h
    have h438:v435.2.1=[]:=List.isEmpty_iff.1 q
    revert h
    refine bI fun u439 h440=>?_
    have qh440:=X09 h440
    refine bI fun o502 h503=>rnI [Bf,.ne false,.el (aI .i64 (v435.1.length:Int))] ?_
    intro h
    refine wkT [] (X2.cut (X6a Xf (Xi++v435.2.1) (k:Int) Xb4 (Xb4.length:Int) (k:Int) v435.1 nbF qh440 v435.1 0 (by simp) _ _ h503 ?_ ?_))
    ·
     intro Xa2 X1r X13 eo502;subst eo502
     refine X2.glue ?_
     try dsimp only at h
     rcases X13 with ⟨_|_,X2m⟩
     ·
      exact X7 [] (k:=wkT [] (ih (k+1) hx1 _ _ nbF o h C0 C1))
     obtain rfl:=X2m rfl
     exact X7 [] (k:=wkT [] (ih (k+1) hx1 _ _ nbS o h C0 C1))
    intro X8d X8c Xe1 X5e X32 eo502;subst eo502
    refine X2.glue ?_
    try dsimp only at h
    rcases X5e with ⟨_|_,X8s⟩
    ·
     rcases X32 with ⟨_|_,X2l⟩
     ·
      revert h
      exact fun e=>X7 [] (k:=wkT [] (C1 _ _ _  nbF nbF (oj e).symm))
     obtain rfl:=X2l rfl
     revert h
     exact fun e=>X7 [] (k:=wkT [] (C1 _ _ _  nbF nbS (oj e).symm))
    obtain rfl:=X8s rfl
    rcases X32 with ⟨_|_,X2l⟩
    ·
     revert h
     exact fun e=>X7 [] (k:=wkT [] (C1 _ _ _  nbS nbF (oj e).symm))
    obtain rfl:=X2l rfl
    revert h
    exact fun e=>X7 [] (k:=wkT [] (C1 _ _ _  nbS nbS (oj e).symm))
   intro h
   have h438:¬ (v435.2.1=[]):=(fun e=>by rw[e] at q;cases q)
   revert h
   refine bI fun u504 h505=>bI fun u506 h507=>?_
   have qh507:=X09 h507
   refine bI fun o549 h550=>rnI [Bf,.via (AV.list true (v435.2.1.map X0)),.el (aI .i64 (v435.1.length:Int))] (o:=by repeat' first|apply Ya|exact pcM|(refine X0g h505 rfl ?_;first|(simp;done)|(simp;omega)|(simp[hc,h437,h438];done)|(simp[hc,h437,h438];omega))|(refine Xz h505 (by decide) ?_;first|(simp;done)|(simp;omega)|(simp[hc,h437,h438];done)|(simp[hc,h437,h438];omega))|exact X0k) ?_
   intro h
   refine wkT [(1,2)] (X2.cut (X6a Xf (Xi++v435.2.1) (k:Int) Xb4 (Xb4.length:Int) (k:Int) v435.1 nbF qh507 v435.1 0 (by simp) _ _ h550 ?_ ?_))
   ·
    intro Xa2 X1r X13 eo549;subst eo549
    refine X2.glue ?_
    try dsimp only at h
    rcases X13 with ⟨_|_,X2m⟩
    ·
     exact X7 [] (o:=by repeat' first|apply Ya|exact pcM|(refine X0g h505 rfl ?_;first|(simp;done)|(simp;omega)|(simp[hc,h437,h438];done)|(simp[hc,h437,h438];omega))|(refine Xz h505 (by decide) ?_;first|(simp;done)|(simp;omega)|(simp[hc,h437,h438];done)|(simp[hc,h437,h438];omega))|exact X0k) (k:=wkT [] (ih (k+1) hx1 _ _ nbF o h C0 C1))
    obtain rfl:=X2m rfl
    exact X7 [] (o:=by repeat' first|apply Ya|exact pcM|(refine X0g h505 rfl ?_;first|(simp;done)|(simp;omega)|(simp[hc,h437,h438];done)|(simp[hc,h437,h438];omega))|(refine Xz h505 (by decide) ?_;first|(simp;done)|(simp;omega)|(simp[hc,h437,h438];done)|(simp[hc,h437,h438];omega))|exact X0k) (k:=wkT [] (ih (k+1) hx1 _ _ nbS o h C0 C1))
   intro X8d X8c Xe1 X5e X32 eo549;subst eo549
   refine X2.glue ?_
   try dsimp only at h
   rcases X5e with ⟨_|_,X8s⟩
   ·
    rcases X32 with ⟨_|_,X2l⟩
    ·
     revert h
     exact fun e=>X7 [] (o:=by repeat' first|apply Ya|exact pcM|(refine X0g h505 rfl ?_;first|(simp;done)|(simp;omega)|(simp[hc,h437,h438];done)|(simp[hc,h437,h438];omega))|(refine Xz h505 (by decide) ?_;first|(simp;done)|(simp;omega)|(simp[hc,h437,h438];done)|(simp[hc,h437,h438];omega))|exact X0k) (k:=wkT [] (C1 _ _ _  nbF nbF (oj e).symm))
    obtain rfl:=X2l rfl
    revert h
    exact fun e=>X7 [] (o:=by repeat' first|apply Ya|exact pcM|(refine X0g h505 rfl ?_;first|(simp;done)|(simp;omega)|(simp[hc,h437,h438];done)|(simp[hc,h437,h438];omega))|(refine Xz h505 (by decide) ?_;first|(simp;done)|(simp;omega)|(simp[hc,h437,h438];done)|(simp[hc,h437,h438];omega))|exact X0k) (k:=wkT [] (C1 _ _ _  nbF nbS (oj e).symm))
   obtain rfl:=X8s rfl
   rcases X32 with ⟨_|_,X2l⟩
   ·
    revert h
    exact fun e=>X7 [] (o:=by repeat' first|apply Ya|exact pcM|(refine X0g h505 rfl ?_;first|(simp;done)|(simp;omega)|(simp[hc,h437,h438];done)|(simp[hc,h437,h438];omega))|(refine Xz h505 (by decide) ?_;first|(simp;done)|(simp;omega)|(simp[hc,h437,h438];done)|(simp[hc,h437,h438];omega))|exact X0k) (k:=wkT [] (C1 _ _ _  nbS nbF (oj e).symm))
   obtain rfl:=X2l rfl
   revert h
   exact fun e=>X7 [] (o:=by repeat' first|apply Ya|exact pcM|(refine X0g h505 rfl ?_;first|(simp;done)|(simp;omega)|(simp[hc,h437,h438];done)|(simp[hc,h437,h438];omega))|(refine Xz h505 (by decide) ?_;first|(simp;done)|(simp;omega)|(simp[hc,h437,h438];done)|(simp[hc,h437,h438];omega))|exact X0k) (k:=wkT [] (C1 _ _ _  nbS nbS (oj e).symm))
  obtain rfl:=X02 rfl
  refine X2.round ?_
  revert h
  refine bI fun v551 h552=>rnI [Bt,.el (X6j false Xa x),.pure _ (AV.tup [(AV.list true (v551.1.map X0)),(AV.list true (v551.2.1.map X0)),(aI .i64 v551.2.2)])] ?_
  refine brI (fun h553=>fun e=>X7 [Bt] (k:=wkT [] (C1 _ _ _  nbS nbS (oj e).symm))) fun h553=>?_
  refine brI (fun q=>?_) fun q=>?_
  ·
   intro h
   have h554:v551.2.1=[]:=List.isEmpty_iff.1 q
   revert h
   refine bI fun u555 h556=>?_
   have qh556:=X09 h556
   refine bI fun o598 h599=>rnI [Bf,.ne false,.el (aI .i64 (v551.1.length:Int))] ?_
   intro h
   refine wkT [] (X2.cut (X6a Xf (([]:List Xc)++v551.2.1) (k:Int) Xb4 (Xb4.length:Int) (k:Int) v551.1 nbS qh556 v551.1 0 (by simp) _ _ h599 ?_ ?_))
   ·
    intro Xa2 X1r X13 eo598;subst eo598
    refine X2.glue ?_
    try dsimp only at h
    rcases X13 with ⟨_|_,X2m⟩
    ·
     exact X7 [] (k:=wkT [] (ih (k+1) hx1 _ _ nbF o h C0 C1))
    obtain rfl:=X2m rfl
    exact X7 [] (k:=wkT [] (ih (k+1) hx1 _ _ nbS o h C0 C1))
   intro X8d X8c Xe1 X5e X32 eo598;subst eo598
   refine X2.glue ?_
   try dsimp only at h
   rcases X5e with ⟨_|_,X8s⟩
   ·
    rcases X32 with ⟨_|_,X2l⟩
    ·
     revert h
     exact fun e=>X7 [] (k:=wkT [] (C1 _ _ _  nbF nbF (oj e).symm))
    obtain rfl:=X2l rfl
    revert h
    exact fun e=>X7 [] (k:=wkT [] (C1 _ _ _  nbF nbS (oj e).symm))
   obtain rfl:=X8s rfl
   rcases X32 with ⟨_|_,X2l⟩
   ·
    revert h
    exact fun e=>X7 [] (k:=wkT [] (C1 _ _ _  nbS nbF (oj e).symm))
   obtain rfl:=X2l rfl
   revert h
   exact fun e=>X7 [] (k:=wkT [] (C1 _ _ _  nbS nbS (oj e).symm))
  intro h
  have h554:¬ (v551.2.1=[]):=(fun e=>by rw[e] at q;cases q)
  revert h
  refine bI fun u600 h601=>bI fun u602 h603=>?_
  have qh603:=X09 h603
  refine bI fun o645 h646=>rnI [Bf,.via (AV.list true (v551.2.1.map X0)),.el (aI .i64 (v551.1.length:Int))] (o:=by repeat' first|apply Ya|exact pcM|(refine X0g h601 rfl ?_;first|(simp;done)|(simp;omega)|(simp[hc,h553,h554];done)|(simp[hc,h553,h554];omega))|(refine Xz h601 (by decide) ?_;first|(simp;done)|(simp;omega)|(simp[hc,h553,h554];done)|(simp[hc,h553,h554];omega))|exact X0k) ?_
  intro h
  refine wkT [(1,2)] (X2.cut (X6a Xf (([]:List Xc)++v551.2.1) (k:Int) Xb4 (Xb4.length:Int) (k:Int) v551.1 nbF qh603 v551.1 0 (by simp) _ _ h646 ?_ ?_))
  ·
   intro Xa2 X1r X13 eo645;subst eo645
   refine X2.glue ?_
   try dsimp only at h
   rcases X13 with ⟨_|_,X2m⟩
   ·
    exact X7 [] (o:=by repeat' first|apply Ya|exact pcM|(refine X0g h601 rfl ?_;first|(simp;done)|(simp;omega)|(simp[hc,h553,h554];done)|(simp[hc,h553,h554];omega))|(refine Xz h601 (by decide) ?_;first|(simp;done)|(simp;omega)|(simp[hc,h553,h554];done)|(simp[hc,h553,h554];omega))|exact X0k) (k:=wkT [] (ih (k+1) hx1 _ _ nbF o h C0 C1))
   obtain rfl:=X2m rfl
   exact X7 [] (o:=by repeat' first|apply Ya|exact pcM|(refine X0g h601 rfl ?_;first|(simp;done)|(simp;omega)|(simp[hc,h553,h554];done)|(simp[hc,h553,h554];omega))|(refine Xz h601 (by decide) ?_;first|(simp;done)|(simp;omega)|(simp[hc,h553,h554];done)|(simp[hc,h553,h554];omega))|exact X0k) (k:=wkT [] (ih (k+1) hx1 _ _ nbS o h C0 C1))
  intro X8d X8c Xe1 X5e X32 eo645;subst eo645
  refine X2.glue ?_
  try dsimp only at h
  rcases X5e with ⟨_|_,X8s⟩
  ·
   rcases X32 with ⟨_|_,X2l⟩
   ·
    revert h
    exact fun e=>X7 [] (o:=by repeat' first|apply Ya|exact pcM|(refine X0g h601 rfl ?_;first|(simp;done)|(simp;omega)|(simp[hc,h553,h554];done)|(simp[hc,h553,h554];omega))|(refine Xz h601 (by decide) ?_;first|(simp;done)|(simp;omega)|(simp[hc,h553,h554];done)|(simp[hc,h553,h554];omega))|exact X0k) (k:=wkT [] (C1 _ _ _  nbF nbF (oj e).symm))
   obtain rfl:=X2l rfl
   revert h
   exact fun e=>X7 [] (o:=by repeat' first|apply Ya|exact pcM|(refine X0g h601 rfl ?_;first|(simp;done)|(simp;omega)|(simp[hc,h553,h554];done)|(simp[hc,h553,h554];omega))|(refine Xz h601 (by decide) ?_;first|(simp;done)|(simp;omega)|(simp[hc,h553,h554];done)|(simp[hc,h553,h554];omega))|exact X0k) (k:=wkT [] (C1 _ _ _  nbF nbS (oj e).symm))
  obtain rfl:=X8s rfl
  rcases X32 with ⟨_|_,X2l⟩
  ·
   revert h
   exact fun e=>X7 [] (o:=by repeat' first|apply Ya|exact pcM|(refine X0g h601 rfl ?_;first|(simp;done)|(simp;omega)|(simp[hc,h553,h554];done)|(simp[hc,h553,h554];omega))|(refine Xz h601 (by decide) ?_;first|(simp;done)|(simp;omega)|(simp[hc,h553,h554];done)|(simp[hc,h553,h554];omega))|exact X0k) (k:=wkT [] (C1 _ _ _  nbS nbF (oj e).symm))
  obtain rfl:=X2l rfl
  revert h
  exact fun e=>X7 [] (o:=by repeat' first|apply Ya|exact pcM|(refine X0g h601 rfl ?_;first|(simp;done)|(simp;omega)|(simp[hc,h553,h554];done)|(simp[hc,h553,h554];omega))|(refine Xz h601 (by decide) ?_;first|(simp;done)|(simp;omega)|(simp[hc,h553,h554];done)|(simp[hc,h553,h554];omega))|exact X0k) (k:=wkT [] (C1 _ _ _  nbS nbS (oj e).symm))
theorem Xcm {Q:X01->St->Mu->Prop} {μ:Mu} (Xdy:Xw) (X8a:(List Xc)) (Xe2:(List X6)) (X8y:Nb X8a) (hl:Xe2.length<=140737488355328):∀ (xs:List X6) (k:Nat) (hx:Xe2.drop k=xs) (Xj2:(List X1c)) (Xbh:Nb Xj2) (o:X9e) (h:X3j Xdy X8a Xe2 xs k Xj2=some o)
  (C0:∀ (X4y:(List Xc)) (X5s:(List X1c)) (X3m:Nb X4y) (X7e:Nb X5s),o=X9e.x0 X4y X5s->X2 Tryz.prog 119 0 Q (.exit (.exit 4)) [] ⟨fr [(2,(AV.ptr 0 0 0)),(11,(slE X3m.1 1 (X4y.map X0))),(22,(slE X7e.1 2 (X5s.map Xd)))],hp ([(0,Ob [(Xn false Xdy)] 10)]++opE X3m.1 1 3 (X4y.map X0)++opE X7e.1 2 5 (X5s.map Xd)),3⟩ μ),
  X2 Tryz.prog 119 0 Q (.loop (X30 2 (Xj Tryz.f19))) [] ⟨fr [(2,(AV.ptr 0 0 0)),(11,(slE X8y.1 1 (X8a.map X0))),(22,(slE Xbh.1 2 (Xj2.map Xd))),(96,(AV.list true (Xe2.map X5))),(97,(aI .i64 (Xe2.length:Int))),(98,(aI .i64 (k:Int)))],hp ([(0,Ob [(Xn false Xdy)] 10)]++opE X8y.1 1 3 (X8a.map X0)++opE Xbh.1 2 5 (Xj2.map Xd)),3⟩ μ:=by
 intro xs
 induction xs with
 |nil =>
  intro k hx Xj2 Xbh o h C0
  have hk:=drop_nil hx
  have hc:decide ((k:Int)<(Xe2.length:Int))=false:=Yf (by omega)
  rw[X3j] at h
  rcases X8y with ⟨_|_,Xh6⟩
  ·
   rcases Xbh with ⟨_|_,Xdj⟩
   ·
    refine X2.round ?_
    revert h
    exact fun e=>X7 [Bf] (k:=wkT [] (C0 _ _  nbF nbF (oj e).symm))
   obtain rfl:=Xdj rfl
   refine X2.round ?_
   revert h
   exact fun e=>X7 [Bf] (k:=wkT [] (C0 _ _  nbF nbS (oj e).symm))
  ·
   obtain rfl:=Xh6 rfl
   rcases Xbh with ⟨_|_,Xdj⟩
   ·
    refine X2.round ?_
    revert h
    exact fun e=>X7 [Bf] (k:=wkT [] (C0 _ _  nbS nbF (oj e).symm))
   ·
    obtain rfl:=Xdj rfl
    refine X2.round ?_
    revert h
    exact fun e=>X7 [Bf] (k:=wkT [] (C0 _ _  nbS nbS (oj e).symm))
 |cons x xs ih =>
  intro k hx Xj2 Xbh o h C0
  obtain⟨hk,hg,hx1⟩:=drop_cons hx
  have hc:decide ((k:Int)<(Xe2.length:Int))=true:=Yt (by omega)
  rw[X3j] at h
  rcases X8y with ⟨_|_,Xh6⟩
  ·
   rcases Xbh with ⟨_|_,Xdj⟩
   ·
    refine X2.round ?_
    revert h
    refine bI fun v732 h733=>bI fun Xku h741=>rnI [Bt,.el (X5 x),.pure _ (AV.tup [(Xd v732.1),(aB v732.2)])] ?_
    intro h
    refine X2.joinF (fun(q:Nb Xku)=>⟨fr [(2,(AV.ptr 0 0 0)),(11,(AV.ref 1 0 (X8a.length))),(22,(slE q.1 2 (Xku.map Xd))),(96,(AV.list true (Xe2.map X5))),(97,(aI .i64 (Xe2.length:Int))),(98,(aI .i64 (k:Int)))],hp ([(0,Ob [(Xn false Xdy)] 10),(1,Ob (X8a.map X0) 3)]++opE q.1 2 5 (Xku.map Xd)),3⟩) ?_ (fun J=>X2.cut ?_)
    ·
     rintro Xvm
     rcases Xvm with ⟨_|_,Xwg⟩
     ·
      exact X7 [] (k:=wkT [] (ih (k+1) hx1 _ nbF o h C0))
     obtain rfl:=Xwg rfl
     exact X7 [] (k:=wkT [] (ih (k+1) hx1 _ nbS o h C0))
    clear h;revert h741
    refine brI (fun h738=>?_) fun h738=>?_
    ·
     refine bI fun u739 h740=>?_
     intro h
     obtain rfl:=oj h
     exact X7 [Bt,.no] (o:=by repeat' first|apply Ya|exact pcM|(refine X0g h740 rfl ?_;first|(simp;done)|(simp;omega)|(simp[hc,h738];done)|(simp[hc,h738];omega))|(refine Xz h740 (by decide) ?_;first|(simp;done)|(simp;omega)|(simp[hc,h738];done)|(simp[hc,h738];omega))|exact X0k) (k:=wkT [(2,6)] (X2.glue (J nbF)))
    intro h
    obtain rfl:=oj h
    exact X7 [Bf] (k:=wkT [] (X2.glue (J nbF)))
   obtain rfl:=Xdj rfl
   refine X2.round ?_
   revert h
   refine bI fun v742 h743=>bI fun Xsb h751=>rnI [Bt,.el (X5 x),.pure _ (AV.tup [(Xd v742.1),(aB v742.2)])] ?_
   intro h
   refine X2.joinF (fun(q:Nb Xsb)=>⟨fr [(2,(AV.ptr 0 0 0)),(11,(AV.ref 1 0 (X8a.length))),(22,(slE q.1 2 (Xsb.map Xd))),(96,(AV.list true (Xe2.map X5))),(97,(aI .i64 (Xe2.length:Int))),(98,(aI .i64 (k:Int)))],hp ([(0,Ob [(Xn false Xdy)] 10),(1,Ob (X8a.map X0) 3)]++opE q.1 2 5 (Xsb.map Xd)),3⟩) ?_ (fun J=>X2.cut ?_)
   ·
    rintro Xvl
    rcases Xvl with ⟨_|_,Xwf⟩
    ·
     exact X7 [] (k:=wkT [] (ih (k+1) hx1 _ nbF o h C0))
    obtain rfl:=Xwf rfl
    exact X7 [] (k:=wkT [] (ih (k+1) hx1 _ nbS o h C0))
   clear h;revert h751
   refine brI (fun h748=>?_) fun h748=>?_
   ·
    refine bI fun u749 h750=>?_
    intro h
    obtain rfl:=oj h
    exact X7 [Bt,.no] (o:=by repeat' first|apply Ya|exact pcM|(refine X0g h750 rfl ?_;first|(simp;done)|(simp;omega)|(simp[hc,h748];done)|(simp[hc,h748];omega))|(refine Xz h750 (by decide) ?_;first|(simp;done)|(simp;omega)|(simp[hc,h748];done)|(simp[hc,h748];omega))|exact X0k) (k:=wkT [(2,6)] (X2.glue (J nbF)))
   intro h
   obtain rfl:=oj h
   exact X7 [Bf] (k:=wkT [] (X2.glue (J nbS)))
  obtain rfl:=Xh6 rfl
  rcases Xbh with ⟨_|_,Xdj⟩
  ·
   refine X2.round ?_
   revert h
   refine bI fun v752 h753=>bI fun Xsa h761=>rnI [Bt,.el (X5 x),.pure _ (AV.tup [(Xd v752.1),(aB v752.2)])] ?_
   intro h
   refine X2.joinF (fun(q:Nb Xsa)=>⟨fr [(2,(AV.ptr 0 0 0)),(11,AV.nils),(22,(slE q.1 2 (Xsa.map Xd))),(96,(AV.list true (Xe2.map X5))),(97,(aI .i64 (Xe2.length:Int))),(98,(aI .i64 (k:Int)))],hp ([(0,Ob [(Xn false Xdy)] 10)]++opE q.1 2 5 (Xsa.map Xd)),3⟩) ?_ (fun J=>X2.cut ?_)
   ·
    rintro Xvk
    rcases Xvk with ⟨_|_,Xwe⟩
    ·
     exact X7 [] (k:=wkT [] (ih (k+1) hx1 _ nbF o h C0))
    obtain rfl:=Xwe rfl
    exact X7 [] (k:=wkT [] (ih (k+1) hx1 _ nbS o h C0))
   clear h;revert h761
   refine brI (fun h758=>?_) fun h758=>?_
   ·
    refine bI fun u759 h760=>?_
    intro h
    obtain rfl:=oj h
    exact X7 [Bt,.no] (o:=by repeat' first|apply Ya|exact pcM|(refine X0g h760 rfl ?_;first|(simp;done)|(simp;omega)|(simp[hc,h758];done)|(simp[hc,h758];omega))|(refine Xz h760 (by decide) ?_;first|(simp;done)|(simp;omega)|(simp[hc,h758];done)|(simp[hc,h758];omega))|exact X0k) (k:=wkT [(2,6)] (X2.glue (J nbF)))
   intro h
   obtain rfl:=oj h
   exact X7 [Bf] (k:=wkT [] (X2.glue (J nbF)))
  obtain rfl:=Xdj rfl
  refine X2.round ?_
  revert h
  refine bI fun v762 h763=>bI fun Xs9 h771=>rnI [Bt,.el (X5 x),.pure _ (AV.tup [(Xd v762.1),(aB v762.2)])] ?_
  intro h
  refine X2.joinF (fun(q:Nb Xs9)=>⟨fr [(2,(AV.ptr 0 0 0)),(11,AV.nils),(22,(slE q.1 2 (Xs9.map Xd))),(96,(AV.list true (Xe2.map X5))),(97,(aI .i64 (Xe2.length:Int))),(98,(aI .i64 (k:Int)))],hp ([(0,Ob [(Xn false Xdy)] 10)]++opE q.1 2 5 (Xs9.map Xd)),3⟩) ?_ (fun J=>X2.cut ?_)
  ·
   rintro Xvj
   rcases Xvj with ⟨_|_,Xwd⟩
   ·
    exact X7 [] (k:=wkT [] (ih (k+1) hx1 _ nbF o h C0))
   obtain rfl:=Xwd rfl
   exact X7 [] (k:=wkT [] (ih (k+1) hx1 _ nbS o h C0))
  clear h;revert h771
  refine brI (fun h768=>?_) fun h768=>?_
  ·
   refine bI fun u769 h770=>?_
   intro h
   obtain rfl:=oj h
   exact X7 [Bt,.no] (o:=by repeat' first|apply Ya|exact pcM|(refine X0g h770 rfl ?_;first|(simp;done)|(simp;omega)|(simp[hc,h768];done)|(simp[hc,h768];omega))|(refine Xz h770 (by decide) ?_;first|(simp;done)|(simp;omega)|(simp[hc,h768];done)|(simp[hc,h768];omega))|exact X0k) (k:=wkT [(2,6)] (X2.glue (J nbF)))
  intro h
  obtain rfl:=oj h
  exact X7 [Bf] (k:=wkT [] (X2.glue (J nbS)))
end Go.Av.Tryz