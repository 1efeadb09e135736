/- Printed by decomp.py: that the program computes the functions. -/
import Derived.Test.YtfdfgobnpnoomaaGreatDCert3Z
set_option linter.all false

namespace Go.Av.Tryz
open Go.Proofs Go.D
set_option maxRecDepth 10000
set_option maxHeartbeats 40000000
instance Xvc:PCs Tryz.prog 48 (∀ (a0:Xu) (r:Int×Int),X7n a0=some r->X0o Tryz.prog 48 [(Xq false a0)] (AV.tup [(aI .i64 r.1),(aI .i64 r.2)])):=⟨fun a0 r h=>by
 refine X0o.sym X9 fn48 (nt:=20) rfl rfl ?_ okM
 unfold X7n at h
 revert h
 refine bI fun v1 h2=>brI (fun h3=>fun e=>oj e▸X8 [.pure _ (aI .i64 v1),Bt] (k:=fi)) fun h3=>bI fun w22 h41=>?_
 intro h
 obtain⟨Xxn,Xxm⟩:=w22
 try dsimp only at h
 refine X0y [.pure _ (aI .i64 v1),Bf] ?_
 refine X2.joinOp (s':=⟨fr [(17,(AV.tup [(aI .i64 Xxn),(aI .i64 Xxm)]))],hp ([]),0⟩) ?_ (fun J=>?_)
 ·
  revert h
  exact fun e=>oj e▸X8 [] (k:=fi)
 clear h;revert h41
 intro h
 refine X2.inline X9 fn74 rfl rfl rfl rfl rfl trivial trivial rfl rfl ?_
 refine X0y [] ?_
 refine X2.round ?_
 revert h
 refine brI (fun h23=>?_) fun h23=>?_
 ·
  refine rnI [Bt,.el (AV.agg [(Lf (a0.Arg.map X1)),(AV.fn 75 [])]),.el (aI .i64 (a0.Arg.length:Int)),Bt] ?_
  intro h
  refine X2.round ?_
  revert h
  refine brI (fun h24=>?_) fun h24=>?_
  ·
   refine rnI [Bt,.el (AV.agg [(Lf (a0.Where.map X1)),(AV.fn 76 [])]),.el (aI .i64 (a0.Where.length:Int)),Bt] ?_
   intro h
   refine X2.round ?_
   simp only[Option.some.injEq,Prod.mk.injEq] at h
   obtain⟨rfl,rfl⟩:=h
   refine X0y [Bf] ?_
   refine X2.back (by intro id h;cases h) rfl ?_
   exact wkT [] (J)
  refine bI fun v25 h26=>rnI [Bt,.el (AV.agg [(Lf (a0.Where.map X1)),(AV.fn 76 [])]),.el (aI .i64 (a0.Where.length:Int)),Bf,.pure _ (AV.tup [(aI .i64 v25.1),(aI .i64 v25.2)])] ?_
  refine brI (fun h27=>?_) fun h27=>?_
  ·
   refine bI fun e28 h29=>?_
   try have qh29:=Xp h29
   intro h
   simp only[Option.some.injEq,Prod.mk.injEq] at h
   obtain⟨rfl,rfl⟩:=h
   refine X0y [Bt,.el (X1 e28)] ?_
   refine X2.back (by intro id h;cases h) rfl ?_
   exact wkT [] (J)
  refine rnI [Bf] ?_
  intro h
  refine X2.round ?_
  simp only[Option.some.injEq,Prod.mk.injEq] at h
  obtain⟨rfl,rfl⟩:=h
  refine X0y [Bf] ?_
  refine X2.back (by intro id h;cases h) rfl ?_
  exact wkT [] (J)
 refine bI fun v30 h31=>rnI [Bt,.el (AV.agg [(Lf (a0.Arg.map X1)),(AV.fn 75 [])]),.el (aI .i64 (a0.Arg.length:Int)),Bf,.pure _ (AV.tup [(aI .i64 v30.1),(aI .i64 v30.2)])] ?_
 refine brI (fun h32=>?_) fun h32=>?_
 ·
  refine bI fun e33 h34=>?_
  try have qh34:=Xp h34
  intro h
  simp only[Option.some.injEq,Prod.mk.injEq] at h
  obtain⟨rfl,rfl⟩:=h
  refine X0y [Bt,.el (X1 e33)] ?_
  refine X2.back (by intro id h;cases h) rfl ?_
  exact wkT [] (J)
 refine rnI [Bf] ?_
 intro h
 refine X2.round ?_
 revert h
 refine brI (fun h35=>?_) fun h35=>?_
 ·
  refine rnI [Bt,.el (AV.agg [(Lf (a0.Where.map X1)),(AV.fn 76 [])]),.el (aI .i64 (a0.Where.length:Int)),Bt] ?_
  intro h
  refine X2.round ?_
  simp only[Option.some.injEq,Prod.mk.injEq] at h
  obtain⟨rfl,rfl⟩:=h
  refine X0y [Bf] ?_
  refine X2.back (by intro id h;cases h) rfl ?_
  exact wkT [] (J)
 refine bI fun v36 h37=>rnI [Bt,.el (AV.agg [(Lf (a0.Where.map X1)),(AV.fn 76 [])]),.el (aI .i64 (a0.Where.length:Int)),Bf,.pure _ (AV.tup [(aI .i64 v36.1),(aI .i64 v36.2)])] ?_
 refine brI (fun h38=>?_) fun h38=>?_
 ·
  refine bI fun e39 h40=>?_
  try have qh40:=Xp h40
  intro h
  simp only[Option.some.injEq,Prod.mk.injEq] at h
  obtain⟨rfl,rfl⟩:=h
  refine X0y [Bt,.el (X1 e39)] ?_
  refine X2.back (by intro id h;cases h) rfl ?_
  exact wkT [] (J)
 refine rnI [Bf] ?_
 intro h
 refine X2.round ?_
 simp only[Option.some.injEq,Prod.mk.injEq] at h
 obtain⟨rfl,rfl⟩:=h
 refine X0y [Bf] ?_
 refine X2.back (by intro id h;cases h) rfl ?_
 exact wkT [] (J)⟩
instance Xz4:PCs Tryz.prog 104 (∀ (a0:Int) (r:Bool),Xa5 a0=some r->X0o Tryz.prog 104 [(aI .i64 a0)] (aB r)):=⟨fun a0 r h=>by
 refine X0o.sym X9 X05x (nt:=9) rfl rfl ?_ okM
 unfold Xa5 at h
 revert h
 exact fun e=>oj e▸X8 [] (k:=fi)⟩
theorem Xfl {Q:Xy->St->Mu->Prop} {μ:Mu} (X3p:(List Xg)) (hl:X3p.length<=140737488355328):∀ (xs:List Xg) (k:Nat) (hx:X3p.drop k=xs) (o:X6e) (h:X42 X3p xs k  = some o)
  (C0:o=X6e.x0->X2 Tryz.prog 55 0 Q (.exit (.exit 0)) [] ⟨fr [],hp ([]),0⟩ μ)
  (C1:o=X6e.x1->X2 Tryz.prog 55 0 Q (.exit .ret) [] ⟨fr [(2,(aI .i64 8))],hp ([]),0⟩ μ),
  X2 Tryz.prog 55 0 Q (.loop (X4k 0 (Xl Tryz.f70))) [] ⟨fr [(10,(Lf (X3p.map Xa))),(11,(aI .i64 (X3p.length:Int))),(12,(aI .i64 (k:Int)))],hp ([]),0⟩ μ:=by
 intro xs
 induction xs with
 |nil =>
  intro k hx  o h C0 C1
  have hk:=X18 hx
  have hc:decide ((k:Int)<(X3p.length:Int))=false:=Yf (by omega)
  rw[X42] at h
  refine X2.round ?_
  revert h
  exact fun e=>X8 [Bf] (k:=wkT [] (C0  (oj e).symm))
 |cons x xs ih =>
  intro k hx  o h C0 C1
  obtain⟨hk,hg,hx1⟩:=X0r hx
  have hc:decide ((k:Int)<(X3p.length:Int))=true:=Yt (by omega)
  rw[X42] at h
  refine X2.round ?_
  revert h
  refine bI fun Xxi h52=>rnI [Bt,.el (Xa x),.stop 6] ?_
  intro h
  refine X2.join (s':=⟨fr [(4,(AV.ptr 0 0 0)),(5,(aB Xxi)),(10,(Lf (X3p.map Xa))),(11,(aI .i64 (X3p.length:Int))),(12,(aI .i64 (k:Int)))],hp ([(0,Ob [(Xa x)] 5)]),1⟩) ?_ (fun J=>X2.cut ?_)
  ·
   revert h
   refine bI fun X00n h60=>rnI [.stop 7] ?_
   intro h
   refine X2.join (s':=⟨fr [(4,(AV.ptr 0 0 0)),(5,(aB Xxi)),(6,(aB X00n)),(10,(Lf (X3p.map Xa))),(11,(aI .i64 (X3p.length:Int))),(12,(aI .i64 (k:Int)))],hp ([(0,Ob [(Xa x)] 5)]),1⟩) ?_ (fun J=>X2.cut ?_)
   ·
    revert h
    refine brI (fun h61=>fun e=>X8 [Bt] (k:=wkT [] (C1  (oj e).symm))) fun h61=>rnI [Bf] ?_
    intro h
    exact wkT [] (ih (k+1) hx1  o h C0 C1)
   clear h;revert h60
   refine brI (fun h57=>?_) fun h57=>?_
   ·
    refine bI fun v58 h59=>?_
    intro h
    obtain rfl:=oj h
    exact X8 [.go true,.go true,.go true,.go true,.pure _ (aB v58)] (k:=wkT [] (X2.glue J))
   intro h
   obtain rfl:=oj h
   exact X8 [.go false,.go false,.go false,.go false] (k:=wkT [] (X2.glue J))
  clear h;revert h52
  refine brI (fun h48=>?_) fun h48=>?_
  ·
   refine bI fun v49 h50=>brI (fun h51=>?_) fun h51=>?_
   ·
    intro h
    obtain rfl:=oj h
    exact X8 [.go true,.go true,.go true,.pure _ (aB v49),.go true,.go false,.go false,.go false,.go true] (k:=wkT [] (X2.glue J))
   intro h
   obtain rfl:=oj h
   exact X8 [.go true,.go true,.go true,.pure _ (aB v49),.go true,.go true,.go true,.go true,.go true] (k:=wkT [] (X2.glue J))
  intro h
  obtain rfl:=oj h
  exact X8 [.go false,.go false,.go false,.go false,.go false,.go false,.go false,.go false] (k:=wkT [] (X2.glue J))
instance Xxd:PCs Tryz.prog 70 (∀ (a0:(List Xg)) (r:Int),X77 a0=some r->X0o Tryz.prog 70 [(Lf (a0.map Xa))] (aI .i64 r)):=⟨fun a0 r h=>by
 refine X0o.sym X9 fn70 (nt:=55) rfl rfl ?_ okM
 unfold X77 at h
 revert h
 refine brI (fun h1=>fun e=>oj e▸X8 [.el (aI .i64 (a0.length:Int)),Bt] (k:=fi)) fun h1=>bI fun u2 h3=>?_
 have qh3:=X09 h3
 refine bI fun o62 h63=>rnI [.el (aI .i64 (a0.length:Int)),Bf,.el (aI .i64 (a0.length:Int))] ?_
 intro h
 refine wkT [] (X2.cut (Xfl a0 qh3 a0 0 (by simp) _ h63 ?_ ?_))
 ·
  intro eo62;subst eo62
  refine X2.glue ?_
  try dsimp only at h
  revert h
  exact fun e=>oj e▸X8 [] (k:=fi)
 intro eo62;subst eo62
 refine X2.glue ?_
 try dsimp only at h
 revert h
 exact fun e=>oj e▸X8 [] (k:=fi)⟩
theorem Xci {Q:Xy->St->Mu->Prop} {μ:Mu} (Xjj:(List (List Xg))) (hl:Xjj.length<=140737488355328):∀ (xs:List (List Xg)) (k:Nat) (hx:Xjj.drop k=xs) (o:X40) (h:X28 Xjj xs k  = some o)
  (C0:o=X40.x0->X2 Tryz.prog 18 0 Q (.exit (.exit 0)) [] ⟨fr [],hp ([]),0⟩ μ)
  (C1:∀ (X3q:Int),o=X40.x1 X3q->X2 Tryz.prog 18 0 Q (.exit .ret) [] ⟨fr [(2,(aI .i64 X3q))],hp ([]),0⟩ μ),
  X2 Tryz.prog 18 0 Q (.loop (X4k 0 (Xl Tryz.f44))) [] ⟨fr [(6,(Lf (List.map (X7p false Xa) Xjj))),(7,(aI .i64 (Xjj.length:Int))),(8,(aI .i64 (k:Int)))],hp ([]),0⟩ μ:=by
 intro xs
 induction xs with
 |nil =>
  intro k hx  o h C0 C1
  have hk:=X18 hx
  have hc:decide ((k:Int)<(Xjj.length:Int))=false:=Yf (by omega)
  rw[X28] at h
  refine X2.round ?_
  revert h
  exact fun e=>X8 [Bf] (k:=wkT [] (C0  (oj e).symm))
 |cons x xs ih =>
  intro k hx  o h C0 C1
  obtain⟨hk,hg,hx1⟩:=X0r hx
  have hc:decide ((k:Int)<(Xjj.length:Int))=true:=Yt (by omega)
  rw[X28] at h
  refine X2.round ?_
  revert h
  refine bI fun v10 h11=>brI (fun h12=>fun e=>X8 [Bt,.el (X7p false Xa x),.pure _ (aI .i64 v10),Bt] (k:=wkT [] (C1 _  (oj e).symm))) fun h12=>rnI [Bt,.el (X7p false Xa x),.pure _ (aI .i64 v10),Bf] ?_
  intro h
  exact wkT [] (ih (k+1) hx1  o h C0 C1)
instance Xr4:PCs Tryz.prog 44 (∀ (a0:(List (List Xg))) (r:Int),X4a a0=some r->X0o Tryz.prog 44 [(Lf (List.map (X7p false Xa) a0))] (aI .i64 r)):=⟨fun a0 r h=>by
 refine X0o.sym X9 fn44 (nt:=18) rfl rfl ?_ okM
 unfold X4a at h
 revert h
 refine bI fun u1 h2=>?_
 have qh2:=X09 h2
 refine bI fun o13 h14=>rnI [.el (aI .i64 (a0.length:Int))] ?_
 intro h
 refine wkT [] (X2.cut (Xci a0 qh2 a0 0 (by simp) _ h14 ?_ ?_))
 ·
  intro eo13;subst eo13
  refine X2.glue ?_
  try dsimp only at h
  revert h
  exact fun e=>oj e▸X8 [] (k:=fi)
 intro X3q eo13;subst eo13
 refine X2.glue ?_
 try dsimp only at h
 revert h
 exact fun e=>oj e▸X8 [] (k:=fi)⟩
theorem Xfj {Q:Xy->St->Mu->Prop} {μ:Mu} (Xbg:(List Xg)) (hl:Xbg.length<=140737488355328):∀ (xs:List Xg) (k:Nat) (hx:Xbg.drop k=xs) (Xm:(List Xb)) (Xh:(List Xb)) (X5d:Int) (X0x:Nb Xm) (Xs:Nb Xh) (o:X8x) (h:X38 Xbg xs k Xm Xh X5d=some o)
  (C0:∀ (Xr:(List Xb)) (X0d:(List Xb)) (X03:Nb Xr) (X0f:Nb X0d),o=X8x.x0 Xr X0d->X2 Tryz.prog 47 0 Q (.exit (.exit 0)) [] ⟨fr [(2,(slE X03.1 0 (Xr.map X3))),(3,(slE X0f.1 1 (X0d.map X3)))],hp ([]++opE X03.1 0 3 (Xr.map X3)++opE X0f.1 1 3 (X0d.map X3)),2⟩ μ),
  X2 Tryz.prog 47 0 Q (.loop (X4k 0 (Xl Tryz.f49))) [] ⟨fr [(2,(slE X0x.1 0 (Xm.map X3))),(3,(slE Xs.1 1 (Xh.map X3))),(6,(AV.fn 105 [(AV.ptr 2 0 0)])),(16,(Lf (Xbg.map Xa))),(17,(aI .i64 (Xbg.length:Int))),(18,(aI .i64 (k:Int)))],hp ([(2,Ob [(aI .i64 X5d)] 1)]++opE X0x.1 0 3 (Xm.map X3)++opE Xs.1 1 3 (Xh.map X3)),3⟩ μ:=by
 intro xs
 induction xs with
 |nil =>
  intro k hx Xm Xh X5d X0x Xs o h C0
  have hk:=X18 hx
  have hc:decide ((k:Int)<(Xbg.length:Int))=false:=Yf (by omega)
  rw[X38] at h
  rcases X0x with ⟨_|_,X3a⟩
  ·
   rcases Xs with ⟨_|_,X07⟩
   ·
    refine X2.round ?_
    revert h
    exact fun e=>X8 [Bf] (k:=wkT [] (C0 _ _  nbF nbF (oj e).symm))
   obtain rfl:=X07 rfl
   refine X2.round ?_
   revert h
   exact fun e=>X8 [Bf] (k:=wkT [] (C0 _ _  nbF nbS (oj e).symm))
  ·
   obtain rfl:=X3a rfl
   rcases Xs with ⟨_|_,X07⟩
   ·
    refine X2.round ?_
    revert h
    exact fun e=>X8 [Bf] (k:=wkT [] (C0 _ _  nbS nbF (oj e).symm))
   ·
    obtain rfl:=X07 rfl
    refine X2.round ?_
    revert h
    exact fun e=>X8 [Bf] (k:=wkT [] (C0 _ _  nbS nbS (oj e).symm))
 |cons x xs ih =>
  intro k hx Xm Xh X5d X0x Xs o h C0
  obtain⟨hk,hg,hx1⟩:=X0r hx
  have hc:decide ((k:Int)<(Xbg.length:Int))=true:=Yt (by omega)
  rw[X38] at h
  rcases X0x with ⟨_|_,X3a⟩
  ·
   rcases Xs with ⟨_|_,X07⟩
   ·
    refine X2.round ?_
    refine X0y [Bt,.el (Xa x)] ?_
    refine X2.inline X9 Xs0 rfl rfl rfl rfl rfl trivial trivial rfl rfl ?_
    revert h
    refine bI fun Xke h190=>rnI [] ?_
    intro h
    refine X2.join (s':=⟨fr [(4,(aI .i64 X5d))],hp ([(0,Ob (Xm.map X3) 3),(1,Ob (Xh.map X3) 3),(2,Ob [(aI .i64 Xke)] 1),(3,Ob [(Xa x)] 5)]),4⟩) ?_ (fun J=>X2.cut ?_)
    ·
     refine X0y [] ?_
     refine X2.back (by intro id h;cases h) rfl ?_
     revert h
     refine bI fun w197 h204=>?_
     intro h
     obtain⟨Xo7,Xo6⟩:=w197
     try dsimp only at h
     refine X0y [] ?_
     refine X2.joinF (fun(q:Nb Xo7×Nb Xo6)=>⟨fr [(2,(slE q.1.1 0 (Xo7.map X3))),(3,(slE q.2.1 1 (Xo6.map X3))),(6,(AV.fn 105 [(AV.ptr 2 0 0)])),(16,(Lf (Xbg.map Xa))),(17,(aI .i64 (Xbg.length:Int))),(18,(aI .i64 (k:Int)))],hp ([(2,Ob [(aI .i64 Xke)] 1)]++opE q.1.1 0 3 (Xo7.map X3)++opE q.2.1 1 3 (Xo6.map X3)),3⟩) ?_ (fun J=>X2.cut ?_)
     ·
      rintro⟨Xr2,Xja⟩
      rcases Xr2 with ⟨_|_,Xrt⟩
      ·
       rcases Xja with ⟨_|_,Xel⟩
       ·
        exact X8 [] (k:=wkT [] (ih (k+1) hx1 _ _ _ nbF nbF o h C0))
       obtain rfl:=Xel rfl
       exact X8 [] (k:=wkT [] (ih (k+1) hx1 _ _ _ nbF nbS o h C0))
      obtain rfl:=Xrt rfl
      rcases Xja with ⟨_|_,Xel⟩
      ·
       exact X8 [] (k:=wkT [] (ih (k+1) hx1 _ _ _ nbS nbF o h C0))
      obtain rfl:=Xel rfl
      exact X8 [] (k:=wkT [] (ih (k+1) hx1 _ _ _ nbS nbS o h C0))
     clear h;revert h204
     refine brI (fun h198=>?_) fun h198=>?_
     ·
      intro h
      simp only[Option.some.injEq,Prod.mk.injEq] at h
      obtain⟨rfl,rfl⟩:=h
      exact X8 [Bt] (k:=wkT [] (X2.glue (J (nbF,nbF))))
     refine brI (fun h199=>?_) fun h199=>?_
     ·
      refine bI fun u200 h201=>?_
      intro h
      simp only[Option.some.injEq,Prod.mk.injEq] at h
      obtain⟨rfl,rfl⟩:=h
      exact X8 [Bf,Bt,.no] (o:=by repeat' first|apply Ya|exact pcM|(refine X0s h201 rfl ?_;first|(simp;done)|(simp;omega)|(simp[hc,h198,h199];done)|(simp[hc,h198,h199];omega))|(refine X01 h201 (by decide) ?_;first|(simp;done)|(simp;omega)|(simp[hc,h198,h199];done)|(simp[hc,h198,h199];omega))|exact X08) (k:=wkT [(1,5)] (X2.glue (J (nbF,nbF))))
     refine bI fun u202 h203=>?_
     intro h
     simp only[Option.some.injEq,Prod.mk.injEq] at h
     obtain⟨rfl,rfl⟩:=h
     exact X8 [Bf,Bf,.no] (o:=by repeat' first|apply Ya|exact pcM|(refine X0s h203 rfl ?_;first|(simp;done)|(simp;omega)|(simp[hc,h198,h199];done)|(simp[hc,h198,h199];omega))|(refine X01 h203 (by decide) ?_;first|(simp;done)|(simp;omega)|(simp[hc,h198,h199];done)|(simp[hc,h198,h199];omega))|exact X08) (k:=wkT [(0,5)] (X2.glue (J (nbF,nbF))))
    clear h;revert h190
    refine brI (fun h189=>?_) fun h189=>?_
    ·
     intro h
     obtain rfl:=oj h
     exact X8 [Bt] (k:=wkT [] (X2.glue J))
    intro h
    obtain rfl:=oj h
    exact X8 [Bf] (k:=wkT [] (X2.glue J))
   obtain rfl:=X07 rfl
   refine X2.round ?_
   refine X0y [Bt,.el (Xa x)] ?_
   refine X2.inline X9 Xs0 rfl rfl rfl rfl rfl trivial trivial rfl rfl ?_
   revert h
   refine bI fun Xuf h212=>rnI [] ?_
   intro h
   refine X2.join (s':=⟨fr [(4,(aI .i64 X5d))],hp ([(0,Ob (Xm.map X3) 3),(2,Ob [(aI .i64 Xuf)] 1),(3,Ob [(Xa x)] 5)]),4⟩) ?_ (fun J=>X2.cut ?_)
   ·
    refine X0y [] ?_
    refine X2.back (by intro id h;cases h) rfl ?_
    revert h
    refine bI fun w219 h226=>?_
    intro h
    obtain⟨Xo5,Xo4⟩:=w219
    try dsimp only at h
    refine X0y [] ?_
    refine X2.joinF (fun(q:Nb Xo5×Nb Xo4)=>⟨fr [(2,(slE q.1.1 0 (Xo5.map X3))),(3,(slE q.2.1 1 (Xo4.map X3))),(6,(AV.fn 105 [(AV.ptr 2 0 0)])),(16,(Lf (Xbg.map Xa))),(17,(aI .i64 (Xbg.length:Int))),(18,(aI .i64 (k:Int)))],hp ([(2,Ob [(aI .i64 Xuf)] 1)]++opE q.1.1 0 3 (Xo5.map X3)++opE q.2.1 1 3 (Xo4.map X3)),3⟩) ?_ (fun J=>X2.cut ?_)
    ·
     rintro⟨Xr1,Xj9⟩
     rcases Xr1 with ⟨_|_,Xrs⟩
     ·
      rcases Xj9 with ⟨_|_,Xek⟩
      ·
       exact X8 [] (k:=wkT [] (ih (k+1) hx1 _ _ _ nbF nbF o h C0))
      obtain rfl:=Xek rfl
      exact X8 [] (k:=wkT [] (ih (k+1) hx1 _ _ _ nbF nbS o h C0))
     obtain rfl:=Xrs rfl
     rcases Xj9 with ⟨_|_,Xek⟩
     ·
      exact X8 [] (k:=wkT [] (ih (k+1) hx1 _ _ _ nbS nbF o h C0))
     obtain rfl:=Xek rfl
     exact X8 [] (k:=wkT [] (ih (k+1) hx1 _ _ _ nbS nbS o h C0))
    clear h;revert h226
    refine brI (fun h220=>?_) fun h220=>?_
    ·
     intro h
     simp only[Option.some.injEq,Prod.mk.injEq] at h
     obtain⟨rfl,rfl⟩:=h
     exact X8 [Bt] (k:=wkT [] (X2.glue (J (nbF,nbS))))
    refine brI (fun h221=>?_) fun h221=>?_
    ·
     refine bI fun u222 h223=>?_
     intro h
     simp only[Option.some.injEq,Prod.mk.injEq] at h
     obtain⟨rfl,rfl⟩:=h
     exact X8 [Bf,Bt,.no] (o:=by repeat' first|apply Ya|exact pcM|(refine X0s h223 rfl ?_;first|(simp;done)|(simp;omega)|(simp[hc,h220,h221];done)|(simp[hc,h220,h221];omega))|(refine X01 h223 (by decide) ?_;first|(simp;done)|(simp;omega)|(simp[hc,h220,h221];done)|(simp[hc,h220,h221];omega))|exact X08) (k:=wkT [(1,5)] (X2.glue (J (nbF,nbF))))
    refine bI fun u224 h225=>?_
    intro h
    simp only[Option.some.injEq,Prod.mk.injEq] at h
    obtain⟨rfl,rfl⟩:=h
    exact X8 [Bf,Bf,.no] (o:=by repeat' first|apply Ya|exact pcM|(refine X0s h225 rfl ?_;first|(simp;done)|(simp;omega)|(simp[hc,h220,h221];done)|(simp[hc,h220,h221];omega))|(refine X01 h225 (by decide) ?_;first|(simp;done)|(simp;omega)|(simp[hc,h220,h221];done)|(simp[hc,h220,h221];omega))|exact X08) (k:=wkT [(0,5)] (X2.glue (J (nbF,nbS))))
   clear h;revert h212
   refine brI (fun h211=>?_) fun h211=>?_
   ·
    intro h
    obtain rfl:=oj h
    exact X8 [Bt] (k:=wkT [] (X2.glue J))
   intro h
   obtain rfl:=oj h
   exact X8 [Bf] (k:=wkT [] (X2.glue J))
  obtain rfl:=X3a rfl
  rcases Xs with ⟨_|_,X07⟩
  ·
   refine X2.round ?_
   refine X0y [Bt,.el (Xa x)] ?_
   refine X2.inline X9 Xs0 rfl rfl rfl rfl rfl trivial trivial rfl rfl ?_
   revert h
   refine bI fun Xue h234=>rnI [] ?_
   intro h
   refine X2.join (s':=⟨fr [(4,(aI .i64 X5d))],hp ([(1,Ob (Xh.map X3) 3),(2,Ob [(aI .i64 Xue)] 1),(3,Ob [(Xa x)] 5)]),4⟩) ?_ (fun J=>X2.cut ?_)
   ·
    refine X0y [] ?_
    refine X2.back (by intro id h;cases h) rfl ?_
    revert h
    refine bI fun w241 h248=>?_
    intro h
    obtain⟨Xo3,Xo2⟩:=w241
    try dsimp only at h
    refine X0y [] ?_
    refine X2.joinF (fun(q:Nb Xo3×Nb Xo2)=>⟨fr [(2,(slE q.1.1 0 (Xo3.map X3))),(3,(slE q.2.1 1 (Xo2.map X3))),(6,(AV.fn 105 [(AV.ptr 2 0 0)])),(16,(Lf (Xbg.map Xa))),(17,(aI .i64 (Xbg.length:Int))),(18,(aI .i64 (k:Int)))],hp ([(2,Ob [(aI .i64 Xue)] 1)]++opE q.1.1 0 3 (Xo3.map X3)++opE q.2.1 1 3 (Xo2.map X3)),3⟩) ?_ (fun J=>X2.cut ?_)
    ·
     rintro⟨Xr0,Xj8⟩
     rcases Xr0 with ⟨_|_,Xrr⟩
     ·
      rcases Xj8 with ⟨_|_,Xej⟩
      ·
       exact X8 [] (k:=wkT [] (ih (k+1) hx1 _ _ _ nbF nbF o h C0))
      obtain rfl:=Xej rfl
      exact X8 [] (k:=wkT [] (ih (k+1) hx1 _ _ _ nbF nbS o h C0))
     obtain rfl:=Xrr rfl
     rcases Xj8 with ⟨_|_,Xej⟩
     ·
      exact X8 [] (k:=wkT [] (ih (k+1) hx1 _ _ _ nbS nbF o h C0))
     obtain rfl:=Xej rfl
     exact X8 [] (k:=wkT [] (ih (k+1) hx1 _ _ _ nbS nbS o h C0))
    clear h;revert h248
    refine brI (fun h242=>?_) fun h242=>?_
    ·
     intro h
     simp only[Option.some.injEq,Prod.mk.injEq] at h
     obtain⟨rfl,rfl⟩:=h
     exact X8 [Bt] (k:=wkT [] (X2.glue (J (nbS,nbF))))
    refine brI (fun h243=>?_) fun h243=>?_
    ·
     refine bI fun u244 h245=>?_
     intro h
     simp only[Option.some.injEq,Prod.mk.injEq] at h
     obtain⟨rfl,rfl⟩:=h
     exact X8 [Bf,Bt,.no] (o:=by repeat' first|apply Ya|exact pcM|(refine X0s h245 rfl ?_;first|(simp;done)|(simp;omega)|(simp[hc,h242,h243];done)|(simp[hc,h242,h243];omega))|(refine X01 h245 (by decide) ?_;first|(simp;done)|(simp;omega)|(simp[hc,h242,h243];done)|(simp[hc,h242,h243];omega))|exact X08) (k:=wkT [(1,5)] (X2.glue (J (nbS,nbF))))
    refine bI fun u246 h247=>?_
    intro h
    simp only[Option.some.injEq,Prod.mk.injEq] at h
    obtain⟨rfl,rfl⟩:=h
    exact X8 [Bf,Bf,.no] (o:=by repeat' first|apply Ya|exact pcM|(refine X0s h247 rfl ?_;first|(simp;done)|(simp;omega)|(simp[hc,h242,h243];done)|(simp[hc,h242,h243];omega))|(refine X01 h247 (by decide) ?_;first|(simp;done)|(simp;omega)|(simp[hc,h242,h243];done)|(simp[hc,h242,h243];omega))|exact X08) (k:=wkT [(0,5)] (X2.glue (J (nbF,nbF))))
   clear h;revert h234
   refine brI (fun h233=>?_) fun h233=>?_
   ·
    intro h
    obtain rfl:=oj h
    exact X8 [Bt] (k:=wkT [] (X2.glue J))
   intro h
   obtain rfl:=oj h
   exact X8 [Bf] (k:=wkT [] (X2.glue J))
  obtain rfl:=X07 rfl
  refine X2.round ?_
  refine X0y [Bt,.el (Xa x)] ?_
  refine X2.inline X9 Xs0 rfl rfl rfl rfl rfl trivial trivial rfl rfl ?_
  revert h
  refine bI fun Xua h256=>rnI [] ?_
  intro h
  refine X2.join (s':=⟨fr [(4,(aI .i64 X5d))],hp ([(2,Ob [(aI .i64 Xua)] 1),(3,Ob [(Xa x)] 5)]),4⟩) ?_ (fun J=>X2.cut ?_)
  ·
   refine X0y [] ?_
   refine X2.back (by intro id h;cases h) rfl ?_
   revert h
   refine bI fun w263 h270=>?_
   intro h
   obtain⟨Xo1,Xo0⟩:=w263
   try dsimp only at h
   refine X0y [] ?_
   refine X2.joinF (fun(q:Nb Xo1×Nb Xo0)=>⟨fr [(2,(slE q.1.1 0 (Xo1.map X3))),(3,(slE q.2.1 1 (Xo0.map X3))),(6,(AV.fn 105 [(AV.ptr 2 0 0)])),(16,(Lf (Xbg.map Xa))),(17,(aI .i64 (Xbg.length:Int))),(18,(aI .i64 (k:Int)))],hp ([(2,Ob [(aI .i64 Xua)] 1)]++opE q.1.1 0 3 (Xo1.map X3)++opE q.2.1 1 3 (Xo0.map X3)),3⟩) ?_ (fun J=>X2.cut ?_)
   ·
    rintro⟨Xqz,Xj7⟩
    rcases Xqz with ⟨_|_,Xrq⟩
    ·
     rcases Xj7 with ⟨_|_,Xei⟩
     ·
      exact X8 [] (k:=wkT [] (ih (k+1) hx1 _ _ _ nbF nbF o h C0))
     obtain rfl:=Xei rfl
     exact X8 [] (k:=wkT [] (ih (k+1) hx1 _ _ _ nbF nbS o h C0))
    obtain rfl:=Xrq rfl
    rcases Xj7 with ⟨_|_,Xei⟩
    ·
     exact X8 [] (k:=wkT [] (ih (k+1) hx1 _ _ _ nbS nbF o h C0))
    obtain rfl:=Xei rfl
    exact X8 [] (k:=wkT [] (ih (k+1) hx1 _ _ _ nbS nbS o h C0))
   clear h;revert h270
   refine brI (fun h264=>?_) fun h264=>?_
   ·
    intro h
    simp only[Option.some.injEq,Prod.mk.injEq] at h
    obtain⟨rfl,rfl⟩:=h
    exact X8 [Bt] (k:=wkT [] (X2.glue (J (nbS,nbS))))
   refine brI (fun h265=>?_) fun h265=>?_
   ·
    refine bI fun u266 h267=>?_
    intro h
    simp only[Option.some.injEq,Prod.mk.injEq] at h
    obtain⟨rfl,rfl⟩:=h
    exact X8 [Bf,Bt,.no] (o:=by repeat' first|apply Ya|exact pcM|(refine X0s h267 rfl ?_;first|(simp;done)|(simp;omega)|(simp[hc,h264,h265];done)|(simp[hc,h264,h265];omega))|(refine X01 h267 (by decide) ?_;first|(simp;done)|(simp;omega)|(simp[hc,h264,h265];done)|(simp[hc,h264,h265];omega))|exact X08) (k:=wkT [(1,5)] (X2.glue (J (nbS,nbF))))
   refine bI fun u268 h269=>?_
   intro h
   simp only[Option.some.injEq,Prod.mk.injEq] at h
   obtain⟨rfl,rfl⟩:=h
   exact X8 [Bf,Bf,.no] (o:=by repeat' first|apply Ya|exact pcM|(refine X0s h269 rfl ?_;first|(simp;done)|(simp;omega)|(simp[hc,h264,h265];done)|(simp[hc,h264,h265];omega))|(refine X01 h269 (by decide) ?_;first|(simp;done)|(simp;omega)|(simp[hc,h264,h265];done)|(simp[hc,h264,h265];omega))|exact X08) (k:=wkT [(0,5)] (X2.glue (J (nbF,nbS))))
  clear h;revert h256
  refine brI (fun h255=>?_) fun h255=>?_
  ·
   intro h
   obtain rfl:=oj h
   exact X8 [Bt] (k:=wkT [] (X2.glue J))
  intro h
  obtain rfl:=oj h
  exact X8 [Bf] (k:=wkT [] (X2.glue J))
instance Xxc:PCs Tryz.prog 49 (∀ (a0:(List Xg)) (r:(List Xb)×(List Xb)×Int),Xa6 a0=some r->X0o Tryz.prog 49 [(Lf (a0.map Xa))] (AV.tup [(AV.list true (r.1.map X3)),(AV.list true (r.2.1.map X3)),(aI .i64 r.2.2)])):=⟨fun a0 r h=>by
 refine X0o.sym X9 fn49 (nt:=47) rfl rfl ?_ okM
 unfold Xa6 at h
 revert h
 refine bI fun v1 h2=>brI (fun h3=>fun e=>oj e▸X8 [.pure _ (aI .i64 v1),Bt] (k:=fi)) fun h3=>rnI [.pure _ (aI .i64 v1),Bf] ?_
 intro h
 refine X2.inline X9 fn71 rfl rfl rfl rfl rfl trivial trivial rfl rfl ?_
 refine X0y [] ?_
 refine X2.back (by intro id h;cases h) rfl ?_
 revert h
 refine bI fun u4 h5=>?_
 have qh5:=X09 h5
 refine bI fun o271 h272=>rnI [.el (aI .i64 (a0.length:Int))] ?_
 intro h
 refine wkT [(2,0)] (X2.cut (Xfj a0 qh5 a0 0 (by simp) _ _ _ nbS nbS _ h272 ?_))
 intro Xr X0d X03 X0f eo271;subst eo271
 refine X2.glue ?_
 try dsimp only at h
 rcases X03 with ⟨_|_,X2e⟩
 ·
  rcases X0f with ⟨_|_,X2d⟩
  ·
   revert h
   exact fun e=>oj e▸X8 [] (k:=fi)
  obtain rfl:=X2d rfl
  revert h
  exact fun e=>oj e▸X8 [] (k:=fi)
 obtain rfl:=X2e rfl
 rcases X0f with ⟨_|_,X2d⟩
 ·
  revert h
  exact fun e=>oj e▸X8 [] (k:=fi)
 obtain rfl:=X2d rfl
 revert h
 exact fun e=>oj e▸X8 [] (k:=fi)⟩
instance Xwn:PCs Tryz.prog 96 (∀ (a0:(List Xw)) (r:Int),Xaz a0=some r->X0o Tryz.prog 96 [(Lf (a0.map X1))] (aI .i64 r)):=⟨fun a0 r h=>by
 refine X0o.sym X9 fn96 (nt:=13) rfl rfl ?_ okM
 unfold Xaz at h
 revert h
 exact bI fun v1 h2=>fun e=>oj e▸X8 [.pure _ (AV.tup [(aB v1.1),(aI .i64 v1.2.1),(aI .i64 v1.2.2)])] (k:=fi)⟩
instance Xxv:PCs Tryz.prog 131 (∀ (a0:Bool) (r:Int),X32 a0=some r->X0o Tryz.prog 131 [(aB a0)] (aI .i64 r)):=⟨fun a0 r h=>by
 refine X0o.sym X9 X05h (nt:=4) rfl rfl ?_ okM
 unfold X32 at h
 revert h
 exact brI (fun h1=>fun e=>oj e▸X8 [Bt] (k:=fi)) fun h1=>fun e=>oj e▸X8 [Bf] (k:=fi)⟩
instance Xjc:PCs Tryz.prog 97 (∀ (a0:Int) (a1:Int) (a2:Int) (r:Int×Int),Xef a0 a1 a2=some r->X0o Tryz.prog 97 [(aI .u8 a0),(aI .i64 a1),(aI .i64 a2)] (AV.tup [(aI .i64 r.1),(aI .i64 r.2)])):=⟨fun a0 a1 a2 r h=>by
 refine X0o.sym X9 fn97 (nt:=97) rfl rfl ?_ okM
 unfold Xef at h
 revert h
 refine brI (fun h1=>fun e=>oj e▸X8 [Bt,.wrap] (k:=fi)) fun h1=>brI (fun h2=>bI fun v3 h4=>fun e=>oj e▸X8 [Bf,Bt,.pure _ (aI .i64 v3)] (k:=fi)) fun h2=>brI (fun h5=>fun e=>oj e▸X8 [Bf,Bf,Bt,.wrap] (k:=fi)) fun h5=>brI (fun h6=>fun e=>oj e▸X8 [Bf,Bf,Bf,Bt,.wrap] (k:=fi)) fun h6=>brI (fun h7=>fun e=>oj e▸X8 [Bf,Bf,Bf,Bf,Bt,.wrap] (k:=fi)) fun h7=>brI (fun h8=>bI fun u9 h10=>fun e=>oj e▸X8 [Bf,Bf,Bf,Bf,Bf,Bt,.wrap] (k:=fi)) fun h8=>brI (fun h11=>bI fun u12 h13=>fun e=>oj e▸X8 [Bf,Bf,Bf,Bf,Bf,Bf,Bt] (k:=fi)) fun h11=>brI (fun h14=>bI fun v15 h16=>fun e=>oj e▸X8 [Bf,Bf,Bf,Bf,Bf,Bf,Bf,Bt,.pure _ (aI .i64 v15)] (k:=fi)) fun h14=>brI (fun h17=>bI fun v18 h19=>fun e=>oj e▸X8 [Bf,Bf,Bf,Bf,Bf,Bf,Bf,Bf,Bt,.pure _ (aI .i64 v18)] (k:=fi)) fun h17=>brI (fun h20=>bI fun v21 h22=>fun e=>oj e▸X8 [Bf,Bf,Bf,Bf,Bf,Bf,Bf,Bf,Bf,Bt,.pure _ (aI .i64 v21)] (k:=fi)) fun h20=>brI (fun h23=>bI fun v24 h25=>fun e=>oj e▸X8 [Bf,Bf,Bf,Bf,Bf,Bf,Bf,Bf,Bf,Bf,Bt,.pure _ (aI .i64 v24)] (k:=fi)) fun h23=>brI (fun h26=>bI fun v27 h28=>fun e=>oj e▸X8 [Bf,Bf,Bf,Bf,Bf,Bf,Bf,Bf,Bf,Bf,Bf,Bt,.pure _ (aI .i64 v27)] (k:=fi)) fun h26=>brI (fun h29=>bI fun v30 h31=>fun e=>oj e▸X8 [Bf,Bf,Bf,Bf,Bf,Bf,Bf,Bf,Bf,Bf,Bf,Bf,Bt,.pure _ (aI .i64 v30)] (k:=fi)) fun h29=>brI (fun h32=>bI fun v33 h34=>fun e=>oj e▸X8 [Bf,Bf,Bf,Bf,Bf,Bf,Bf,Bf,Bf,Bf,Bf,Bf,Bf,Bt,.pure _ (aI .i64 v33)] (k:=fi)) fun h32=>rnI [Bf,Bf,Bf,Bf,Bf,Bf,Bf,Bf,Bf,Bf,Bf,Bf,Bf,Bf] ?_
 exact brI (fun h35=>bI fun v36 h37=>fun e=>oj e▸X8 [Bt,.pure _ (aI .i64 v36)] (k:=fi)) fun h35=>fun e=>oj e▸X8 [Bf] (k:=fi)⟩
end Go.Av.Tryz