/- Printed by decomp.py: that the program computes the functions. -/
import Derived.Test.YtfdfgobnpnoomaaGreatDCert3Z
set_option linter.all false

namespace Go.Av.Tryz
open Go.Proofs Go.D
set_option maxRecDepth 10000
set_option maxHeartbeats 40000000
instance Xxz:PCs Tryz.prog 48 (∀ (a0:X03) (r:Int×Int),X8r a0=some r->X11 Tryz.prog 48 [(Xl false a0)] (AV.tup [(aI .i64 r.1),(aI .i64 r.2)])):=⟨fun a0 r h=>by
 refine X11.sym Xh fn48 (nt:=20) rfl rfl ?_ okM
 unfold X8r at h
 revert h
 refine bI fun v1 h2=>brI (fun h3=>fun e=>oj e▸Xc [.pure _ (aI .i64 v1),Bt] (k:=fi)) fun h3=>bI fun w22 h41=>?_
 intro h
 obtain⟨X00c,X00b⟩:=w22
 try dsimp only at h
 refine X0l [.pure _ (aI .i64 v1),Bf] ?_
 refine X3.joinOp (s':=⟨fr [(17,(AV.tup [(aI .i64 X00c),(aI .i64 X00b)]))],hp ([]),0⟩) ?_ (fun J=>?_)
 ·
  revert h
  exact fun e=>oj e▸Xc [] (k:=fi)
 clear h;revert h41
 intro h
 refine X3.inline Xh fn74 rfl rfl rfl rfl rfl trivial trivial rfl rfl ?_
 refine X0l [] ?_
 refine X3.round ?_
 revert h
 refine brI (fun h23=>?_) fun h23=>?_
 ·
  refine rnI [Bt,.el (AV.agg [(Lf (a0.Arg.map X1)),(AV.fn 75 [])]),.el (aI .i64 (a0.Arg.length:Int)),Bt] ?_
  intro h
  refine X3.round ?_
  revert h
  refine brI (fun h24=>?_) fun h24=>?_
  ·
   refine rnI [Bt,.el (AV.agg [(Lf (a0.Where.map X1)),(AV.fn 76 [])]),.el (aI .i64 (a0.Where.length:Int)),Bt] ?_
   intro h
   refine X3.round ?_
   simp only[Option.some.injEq,Prod.mk.injEq] at h
   obtain⟨rfl,rfl⟩:=h
   refine X0l [Bf] ?_
   refine X3.back (by intro id h;cases h) rfl ?_
   exact wkT [] (J)
  refine bI fun v25 h26=>rnI [Bt,.el (AV.agg [(Lf (a0.Where.map X1)),(AV.fn 76 [])]),.el (aI .i64 (a0.Where.length:Int)),Bf,.pure _ (AV.tup [(aI .i64 v25.1),(aI .i64 v25.2)])] ?_
  refine brI (fun h27=>?_) fun h27=>?_
  ·
   refine bI fun e28 h29=>?_
   try have qh29:=Xn h29
   intro h
   simp only[Option.some.injEq,Prod.mk.injEq] at h
   obtain⟨rfl,rfl⟩:=h
   refine X0l [Bt,.el (X1 e28)] ?_
   refine X3.back (by intro id h;cases h) rfl ?_
   exact wkT [] (J)
  refine rnI [Bf] ?_
  intro h
  refine X3.round ?_
  simp only[Option.some.injEq,Prod.mk.injEq] at h
  obtain⟨rfl,rfl⟩:=h
  refine X0l [Bf] ?_
  refine X3.back (by intro id h;cases h) rfl ?_
  exact wkT [] (J)
 refine bI fun v30 h31=>rnI [Bt,.el (AV.agg [(Lf (a0.Arg.map X1)),(AV.fn 75 [])]),.el (aI .i64 (a0.Arg.length:Int)),Bf,.pure _ (AV.tup [(aI .i64 v30.1),(aI .i64 v30.2)])] ?_
 refine brI (fun h32=>?_) fun h32=>?_
 ·
  refine bI fun e33 h34=>?_
  try have qh34:=Xn h34
  intro h
  simp only[Option.some.injEq,Prod.mk.injEq] at h
  obtain⟨rfl,rfl⟩:=h
  refine X0l [Bt,.el (X1 e33)] ?_
  refine X3.back (by intro id h;cases h) rfl ?_
  exact wkT [] (J)
 refine rnI [Bf] ?_
 intro h
 refine X3.round ?_
 revert h
 refine brI (fun h35=>?_) fun h35=>?_
 ·
  refine rnI [Bt,.el (AV.agg [(Lf (a0.Where.map X1)),(AV.fn 76 [])]),.el (aI .i64 (a0.Where.length:Int)),Bt] ?_
  intro h
  refine X3.round ?_
  simp only[Option.some.injEq,Prod.mk.injEq] at h
  obtain⟨rfl,rfl⟩:=h
  refine X0l [Bf] ?_
  refine X3.back (by intro id h;cases h) rfl ?_
  exact wkT [] (J)
 refine bI fun v36 h37=>rnI [Bt,.el (AV.agg [(Lf (a0.Where.map X1)),(AV.fn 76 [])]),.el (aI .i64 (a0.Where.length:Int)),Bf,.pure _ (AV.tup [(aI .i64 v36.1),(aI .i64 v36.2)])] ?_
 refine brI (fun h38=>?_) fun h38=>?_
 ·
  refine bI fun e39 h40=>?_
  try have qh40:=Xn h40
  intro h
  simp only[Option.some.injEq,Prod.mk.injEq] at h
  obtain⟨rfl,rfl⟩:=h
  refine X0l [Bt,.el (X1 e39)] ?_
  refine X3.back (by intro id h;cases h) rfl ?_
  exact wkT [] (J)
 refine rnI [Bf] ?_
 intro h
 refine X3.round ?_
 simp only[Option.some.injEq,Prod.mk.injEq] at h
 obtain⟨rfl,rfl⟩:=h
 refine X0l [Bf] ?_
 refine X3.back (by intro id h;cases h) rfl ?_
 exact wkT [] (J)⟩
instance X01o:PCs Tryz.prog 104 (∀ (a0:Int) (r:Bool),Xbd a0=some r->X11 Tryz.prog 104 [(aI .i64 a0)] (aB r)):=⟨fun a0 r h=>by
 refine X11.sym Xh X089 (nt:=9) rfl rfl ?_ okM
 unfold Xbd at h
 revert h
 exact fun e=>oj e▸Xc [] (k:=fi)⟩
theorem Xh3 {Q:X07->St->Mu->Prop} {μ:Mu} (X4j:(List Xb)) (hl:X4j.length<=140737488355328):∀ (xs:List Xb) (k:Nat) (hx:X4j.drop k=xs) (o:X7h) (h:X52 X4j xs k  = some o)
  (C0:o=X7h.x0->X3 Tryz.prog 55 0 Q (.exit (.exit 0)) [] ⟨fr [],hp ([]),0⟩ μ)
  (C1:o=X7h.x1->X3 Tryz.prog 55 0 Q (.exit .ret) [] ⟨fr [(2,(aI .i64 8))],hp ([]),0⟩ μ),
  X3 Tryz.prog 55 0 Q (.loop (X4t 0 (Xu Tryz.f70))) [] ⟨fr [(10,(Lf (X4j.map X0))),(11,(aI .i64 (X4j.length:Int))),(12,(aI .i64 (k:Int)))],hp ([]),0⟩ μ:=by
 intro xs
 induction xs with
 |nil =>
  intro k hx  o h C0 C1
  have hk:=X1e hx
  have hc:decide ((k:Int)<(X4j.length:Int))=false:=Yf (by omega)
  rw[X52] at h
  refine X3.round ?_
  revert h
  exact fun e=>Xc [Bf] (k:=wkT [] (C0  (oj e).symm))
 |cons x xs ih =>
  intro k hx  o h C0 C1
  obtain⟨hk,hg,hx1⟩:=X0t hx
  have hc:decide ((k:Int)<(X4j.length:Int))=true:=Yt (by omega)
  rw[X52] at h
  refine X3.round ?_
  revert h
  refine bI fun X007 h52=>rnI [Bt,.el (X0 x),.stop 6] ?_
  intro h
  refine X3.join (s':=⟨fr [(4,(AV.ptr 0 0 0)),(5,(aB X007)),(10,(Lf (X4j.map X0))),(11,(aI .i64 (X4j.length:Int))),(12,(aI .i64 (k:Int)))],hp ([(0,Ob [(X0 x)] 5)]),1⟩) ?_ (fun J=>X3.cut ?_)
  ·
   revert h
   refine bI fun X03b h60=>rnI [.stop 7] ?_
   intro h
   refine X3.join (s':=⟨fr [(4,(AV.ptr 0 0 0)),(5,(aB X007)),(6,(aB X03b)),(10,(Lf (X4j.map X0))),(11,(aI .i64 (X4j.length:Int))),(12,(aI .i64 (k:Int)))],hp ([(0,Ob [(X0 x)] 5)]),1⟩) ?_ (fun J=>X3.cut ?_)
   ·
    revert h
    refine brI (fun h61=>fun e=>Xc [Bt] (k:=wkT [] (C1  (oj e).symm))) fun h61=>rnI [Bf] ?_
    intro h
    exact wkT [] (ih (k+1) hx1  o h C0 C1)
   clear h;revert h60
   refine brI (fun h57=>?_) fun h57=>?_
   ·
    refine bI fun v58 h59=>?_
    intro h
    obtain rfl:=oj h
    exact Xc [.go true,.go true,.go true,.go true,.pure _ (aB v58)] (k:=wkT [] (X3.glue J))
   intro h
   obtain rfl:=oj h
   exact Xc [.go false,.go false,.go false,.go false] (k:=wkT [] (X3.glue J))
  clear h;revert h52
  refine brI (fun h48=>?_) fun h48=>?_
  ·
   refine bI fun v49 h50=>brI (fun h51=>?_) fun h51=>?_
   ·
    intro h
    obtain rfl:=oj h
    exact Xc [.go true,.go true,.go true,.pure _ (aB v49),.go true,.go false,.go false,.go false,.go true] (k:=wkT [] (X3.glue J))
   intro h
   obtain rfl:=oj h
   exact Xc [.go true,.go true,.go true,.pure _ (aB v49),.go true,.go true,.go true,.go true,.go true] (k:=wkT [] (X3.glue J))
  intro h
  obtain rfl:=oj h
  exact Xc [.go false,.go false,.go false,.go false,.go false,.go false,.go false,.go false] (k:=wkT [] (X3.glue J))
instance X002:PCs Tryz.prog 70 (∀ (a0:(List Xb)) (r:Int),X8a a0=some r->X11 Tryz.prog 70 [(Lf (a0.map X0))] (aI .i64 r)):=⟨fun a0 r h=>by
 refine X11.sym Xh fn70 (nt:=55) rfl rfl ?_ okM
 unfold X8a at h
 revert h
 refine brI (fun h1=>fun e=>oj e▸Xc [.el (aI .i64 (a0.length:Int)),Bt] (k:=fi)) fun h1=>bI fun u2 h3=>?_
 have qh3:=X0u h3
 refine bI fun o62 h63=>rnI [.el (aI .i64 (a0.length:Int)),Bf,.el (aI .i64 (a0.length:Int))] ?_
 intro h
 refine wkT [] (X3.cut (Xh3 a0 qh3 a0 0 (by simp) _ h63 ?_ ?_))
 ·
  intro eo62;subst eo62
  refine X3.glue ?_
  try dsimp only at h
  revert h
  exact fun e=>oj e▸Xc [] (k:=fi)
 intro eo62;subst eo62
 refine X3.glue ?_
 try dsimp only at h
 revert h
 exact fun e=>oj e▸Xc [] (k:=fi)⟩
theorem Xdv {Q:X07->St->Mu->Prop} {μ:Mu} (Xdz:(List (List Xb))) (hl:Xdz.length<=140737488355328):∀ (xs:List (List Xb)) (k:Nat) (hx:Xdz.drop k=xs) (o:X4z) (h:X2m Xdz xs k  = some o)
  (C0:o=X4z.x0->X3 Tryz.prog 18 0 Q (.exit (.exit 0)) [] ⟨fr [],hp ([]),0⟩ μ)
  (C1:∀ (X4k:Int),o=X4z.x1 X4k->X3 Tryz.prog 18 0 Q (.exit .ret) [] ⟨fr [(2,(aI .i64 X4k))],hp ([]),0⟩ μ),
  X3 Tryz.prog 18 0 Q (.loop (X4t 0 (Xu Tryz.f44))) [] ⟨fr [(6,(Lf (List.map (X0e false X0) Xdz))),(7,(aI .i64 (Xdz.length:Int))),(8,(aI .i64 (k:Int)))],hp ([]),0⟩ μ:=by
 intro xs
 induction xs with
 |nil =>
  intro k hx  o h C0 C1
  have hk:=X1e hx
  have hc:decide ((k:Int)<(Xdz.length:Int))=false:=Yf (by omega)
  rw[X2m] at h
  refine X3.round ?_
  revert h
  exact fun e=>Xc [Bf] (k:=wkT [] (C0  (oj e).symm))
 |cons x xs ih =>
  intro k hx  o h C0 C1
  obtain⟨hk,hg,hx1⟩:=X0t hx
  have hc:decide ((k:Int)<(Xdz.length:Int))=true:=Yt (by omega)
  rw[X2m] at h
  refine X3.round ?_
  revert h
  refine bI fun v10 h11=>brI (fun h12=>fun e=>Xc [Bt,.el (X0e false X0 x),.pure _ (aI .i64 v10),Bt] (k:=wkT [] (C1 _  (oj e).symm))) fun h12=>rnI [Bt,.el (X0e false X0 x),.pure _ (aI .i64 v10),Bf] ?_
  intro h
  exact wkT [] (ih (k+1) hx1  o h C0 C1)
instance Xtk:PCs Tryz.prog 44 (∀ (a0:(List (List Xb))) (r:Int),X5d a0=some r->X11 Tryz.prog 44 [(Lf (List.map (X0e false X0) a0))] (aI .i64 r)):=⟨fun a0 r h=>by
 refine X11.sym Xh fn44 (nt:=18) rfl rfl ?_ okM
 unfold X5d at h
 revert h
 refine bI fun u1 h2=>?_
 have qh2:=X0u h2
 refine bI fun o13 h14=>rnI [.el (aI .i64 (a0.length:Int))] ?_
 intro h
 refine wkT [] (X3.cut (Xdv a0 qh2 a0 0 (by simp) _ h14 ?_ ?_))
 ·
  intro eo13;subst eo13
  refine X3.glue ?_
  try dsimp only at h
  revert h
  exact fun e=>oj e▸Xc [] (k:=fi)
 intro X4k eo13;subst eo13
 refine X3.glue ?_
 try dsimp only at h
 revert h
 exact fun e=>oj e▸Xc [] (k:=fi)⟩
theorem Xh1 {Q:X07->St->Mu->Prop} {μ:Mu} (Xcp:(List Xb)) (hl:Xcp.length<=140737488355328):∀ (xs:List Xb) (k:Nat) (hx:Xcp.drop k=xs) (Xs:(List Xm)) (Xo:(List Xm)) (Xam:Int) (X1c:Nb Xs) (X00:Nb Xo) (o:Xa0) (h:X43 Xcp xs k Xs Xo Xam=some o)
  (C0:∀ (X02:(List Xm)) (X0n:(List Xm)) (X0i:Nb X02) (X0o:Nb X0n),o=Xa0.x0 X02 X0n->X3 Tryz.prog 47 0 Q (.exit (.exit 0)) [] ⟨fr [(2,(slE X0i.1 0 (X02.map X7))),(3,(slE X0o.1 1 (X0n.map X7)))],hp ([]++opE X0i.1 0 3 (X02.map X7)++opE X0o.1 1 3 (X0n.map X7)),2⟩ μ),
  X3 Tryz.prog 47 0 Q (.loop (X4t 0 (Xu Tryz.f49))) [] ⟨fr [(2,(slE X1c.1 0 (Xs.map X7))),(3,(slE X00.1 1 (Xo.map X7))),(6,(AV.fn 105 [(AV.ptr 2 0 0)])),(16,(Lf (Xcp.map X0))),(17,(aI .i64 (Xcp.length:Int))),(18,(aI .i64 (k:Int)))],hp ([(2,Ob [(aI .i64 Xam)] 1)]++opE X1c.1 0 3 (Xs.map X7)++opE X00.1 1 3 (Xo.map X7)),3⟩ μ:=by
 intro xs
 induction xs with
 |nil =>
  intro k hx Xs Xo Xam X1c X00 o h C0
  have hk:=X1e hx
  have hc:decide ((k:Int)<(Xcp.length:Int))=false:=Yf (by omega)
  rw[X43] at h
  rcases X1c with ⟨_|_,X45⟩
  ·
   rcases X00 with ⟨_|_,X0f⟩
   ·
    refine X3.round ?_
    revert h
    exact fun e=>Xc [Bf] (k:=wkT [] (C0 _ _  nbF nbF (oj e).symm))
   obtain rfl:=X0f rfl
   refine X3.round ?_
   revert h
   exact fun e=>Xc [Bf] (k:=wkT [] (C0 _ _  nbF nbS (oj e).symm))
  ·
   obtain rfl:=X45 rfl
   rcases X00 with ⟨_|_,X0f⟩
   ·
    refine X3.round ?_
    revert h
    exact fun e=>Xc [Bf] (k:=wkT [] (C0 _ _  nbS nbF (oj e).symm))
   ·
    obtain rfl:=X0f rfl
    refine X3.round ?_
    revert h
    exact fun e=>Xc [Bf] (k:=wkT [] (C0 _ _  nbS nbS (oj e).symm))
 |cons x xs ih =>
  intro k hx Xs Xo Xam X1c X00 o h C0
  obtain⟨hk,hg,hx1⟩:=X0t hx
  have hc:decide ((k:Int)<(Xcp.length:Int))=true:=Yt (by omega)
  rw[X43] at h
  rcases X1c with ⟨_|_,X45⟩
  ·
   rcases X00 with ⟨_|_,X0f⟩
   ·
    refine X3.round ?_
    refine X0l [Bt,.el (X0 x)] ?_
    refine X3.inline Xh Xug rfl rfl rfl rfl rfl trivial trivial rfl rfl ?_
    revert h
    refine bI fun Xlx h190=>rnI [] ?_
    intro h
    refine X3.join (s':=⟨fr [(4,(aI .i64 Xam))],hp ([(0,Ob (Xs.map X7) 3),(1,Ob (Xo.map X7) 3),(2,Ob [(aI .i64 Xlx)] 1),(3,Ob [(X0 x)] 5)]),4⟩) ?_ (fun J=>X3.cut ?_)
    ·
     refine X0l [] ?_
     refine X3.back (by intro id h;cases h) rfl ?_
     revert h
     refine bI fun w197 h204=>?_
     intro h
     obtain⟨Xqd,Xqc⟩:=w197
     try dsimp only at h
     refine X0l [] ?_
     refine X3.joinF (fun(q:Nb Xqd×Nb Xqc)=>⟨fr [(2,(slE q.1.1 0 (Xqd.map X7))),(3,(slE q.2.1 1 (Xqc.map X7))),(6,(AV.fn 105 [(AV.ptr 2 0 0)])),(16,(Lf (Xcp.map X0))),(17,(aI .i64 (Xcp.length:Int))),(18,(aI .i64 (k:Int)))],hp ([(2,Ob [(aI .i64 Xlx)] 1)]++opE q.1.1 0 3 (Xqd.map X7)++opE q.2.1 1 3 (Xqc.map X7)),3⟩) ?_ (fun J=>X3.cut ?_)
     ·
      rintro⟨Xti,Xkb⟩
      rcases Xti with ⟨_|_,Xua⟩
      ·
       rcases Xkb with ⟨_|_,Xg4⟩
       ·
        exact Xc [] (k:=wkT [] (ih (k+1) hx1 _ _ _ nbF nbF o h C0))
       obtain rfl:=Xg4 rfl
       exact Xc [] (k:=wkT [] (ih (k+1) hx1 _ _ _ nbF nbS o h C0))
      obtain rfl:=Xua rfl
      rcases Xkb with ⟨_|_,Xg4⟩
      ·
       exact Xc [] (k:=wkT [] (ih (k+1) hx1 _ _ _ nbS nbF o h C0))
      obtain rfl:=Xg4 rfl
      exact Xc [] (k:=wkT [] (ih (k+1) hx1 _ _ _ nbS nbS o h C0))
     clear h;revert h204
     refine brI (fun h198=>?_) fun h198=>?_
     ·
      intro h
      simp only[Option.some.injEq,Prod.mk.injEq] at h
      obtain⟨rfl,rfl⟩:=h
      exact Xc [Bt] (k:=wkT [] (X3.glue (J (nbF,nbF))))
     refine brI (fun h199=>?_) fun h199=>?_
     ·
      refine bI fun u200 h201=>?_
      intro h
      simp only[Option.some.injEq,Prod.mk.injEq] at h
      obtain⟨rfl,rfl⟩:=h
      exact Xc [Bf,Bt,.no] (o:=by repeat' first|apply Ya|exact pcM|(refine X8 h201 rfl ?_;first|(simp;done)|(simp;omega)|(simp[hc,h198,h199];done)|(simp[hc,h198,h199];omega))|(refine X2 h201 (by decide) ?_;first|(simp;done)|(simp;omega)|(simp[hc,h198,h199];done)|(simp[hc,h198,h199];omega))|exact Xw) (k:=wkT [(1,5)] (X3.glue (J (nbF,nbF))))
     refine bI fun u202 h203=>?_
     intro h
     simp only[Option.some.injEq,Prod.mk.injEq] at h
     obtain⟨rfl,rfl⟩:=h
     exact Xc [Bf,Bf,.no] (o:=by repeat' first|apply Ya|exact pcM|(refine X8 h203 rfl ?_;first|(simp;done)|(simp;omega)|(simp[hc,h198,h199];done)|(simp[hc,h198,h199];omega))|(refine X2 h203 (by decide) ?_;first|(simp;done)|(simp;omega)|(simp[hc,h198,h199];done)|(simp[hc,h198,h199];omega))|exact Xw) (k:=wkT [(0,5)] (X3.glue (J (nbF,nbF))))
    clear h;revert h190
    refine brI (fun h189=>?_) fun h189=>?_
    ·
     intro h
     obtain rfl:=oj h
     exact Xc [Bt] (k:=wkT [] (X3.glue J))
    intro h
    obtain rfl:=oj h
    exact Xc [Bf] (k:=wkT [] (X3.glue J))
   obtain rfl:=X0f rfl
   refine X3.round ?_
   refine X0l [Bt,.el (X0 x)] ?_
   refine X3.inline Xh Xug rfl rfl rfl rfl rfl trivial trivial rfl rfl ?_
   revert h
   refine bI fun Xx0 h212=>rnI [] ?_
   intro h
   refine X3.join (s':=⟨fr [(4,(aI .i64 Xam))],hp ([(0,Ob (Xs.map X7) 3),(2,Ob [(aI .i64 Xx0)] 1),(3,Ob [(X0 x)] 5)]),4⟩) ?_ (fun J=>X3.cut ?_)
   ·
    refine X0l [] ?_
    refine X3.back (by intro id h;cases h) rfl ?_
    revert h
    refine bI fun w219 h226=>?_
    intro h
    obtain⟨Xqb,Xqa⟩:=w219
    try dsimp only at h
    refine X0l [] ?_
    refine X3.joinF (fun(q:Nb Xqb×Nb Xqa)=>⟨fr [(2,(slE q.1.1 0 (Xqb.map X7))),(3,(slE q.2.1 1 (Xqa.map X7))),(6,(AV.fn 105 [(AV.ptr 2 0 0)])),(16,(Lf (Xcp.map X0))),(17,(aI .i64 (Xcp.length:Int))),(18,(aI .i64 (k:Int)))],hp ([(2,Ob [(aI .i64 Xx0)] 1)]++opE q.1.1 0 3 (Xqb.map X7)++opE q.2.1 1 3 (Xqa.map X7)),3⟩) ?_ (fun J=>X3.cut ?_)
    ·
     rintro⟨Xth,Xka⟩
     rcases Xth with ⟨_|_,Xu9⟩
     ·
      rcases Xka with ⟨_|_,Xg3⟩
      ·
       exact Xc [] (k:=wkT [] (ih (k+1) hx1 _ _ _ nbF nbF o h C0))
      obtain rfl:=Xg3 rfl
      exact Xc [] (k:=wkT [] (ih (k+1) hx1 _ _ _ nbF nbS o h C0))
     obtain rfl:=Xu9 rfl
     rcases Xka with ⟨_|_,Xg3⟩
     ·
      exact Xc [] (k:=wkT [] (ih (k+1) hx1 _ _ _ nbS nbF o h C0))
     obtain rfl:=Xg3 rfl
     exact Xc [] (k:=wkT [] (ih (k+1) hx1 _ _ _ nbS nbS o h C0))
    clear h;revert h226
    refine brI (fun h220=>?_) fun h220=>?_
    ·
     intro h
     simp only[Option.some.injEq,Prod.mk.injEq] at h
     obtain⟨rfl,rfl⟩:=h
     exact Xc [Bt] (k:=wkT [] (X3.glue (J (nbF,nbS))))
    refine brI (fun h221=>?_) fun h221=>?_
    ·
     refine bI fun u222 h223=>?_
     intro h
     simp only[Option.some.injEq,Prod.mk.injEq] at h
     obtain⟨rfl,rfl⟩:=h
     exact Xc [Bf,Bt,.no] (o:=by repeat' first|apply Ya|exact pcM|(refine X8 h223 rfl ?_;first|(simp;done)|(simp;omega)|(simp[hc,h220,h221];done)|(simp[hc,h220,h221];omega))|(refine X2 h223 (by decide) ?_;first|(simp;done)|(simp;omega)|(simp[hc,h220,h221];done)|(simp[hc,h220,h221];omega))|exact Xw) (k:=wkT [(1,5)] (X3.glue (J (nbF,nbF))))
    refine bI fun u224 h225=>?_
    intro h
    simp only[Option.some.injEq,Prod.mk.injEq] at h
    obtain⟨rfl,rfl⟩:=h
    exact Xc [Bf,Bf,.no] (o:=by repeat' first|apply Ya|exact pcM|(refine X8 h225 rfl ?_;first|(simp;done)|(simp;omega)|(simp[hc,h220,h221];done)|(simp[hc,h220,h221];omega))|(refine X2 h225 (by decide) ?_;first|(simp;done)|(simp;omega)|(simp[hc,h220,h221];done)|(simp[hc,h220,h221];omega))|exact Xw) (k:=wkT [(0,5)] (X3.glue (J (nbF,nbS))))
   clear h;revert h212
   refine brI (fun h211=>?_) fun h211=>?_
   ·
    intro h
    obtain rfl:=oj h
    exact Xc [Bt] (k:=wkT [] (X3.glue J))
   intro h
   obtain rfl:=oj h
   exact Xc [Bf] (k:=wkT [] (X3.glue J))
  obtain rfl:=X45 rfl
  rcases X00 with ⟨_|_,X0f⟩
  ·
   refine X3.round ?_
   refine X0l [Bt,.el (X0 x)] ?_
   refine X3.inline Xh Xug rfl rfl rfl rfl rfl trivial trivial rfl rfl ?_
   revert h
   refine bI fun Xwz h234=>rnI [] ?_
   intro h
   refine X3.join (s':=⟨fr [(4,(aI .i64 Xam))],hp ([(1,Ob (Xo.map X7) 3),(2,Ob [(aI .i64 Xwz)] 1),(3,Ob [(X0 x)] 5)]),4⟩) ?_ (fun J=>X3.cut ?_)
   ·
    refine X0l [] ?_
    refine X3.back (by intro id h;cases h) rfl ?_
    revert h
    refine bI fun w241 h248=>?_
    intro h
    obtain⟨Xq9,Xq8⟩:=w241
    try dsimp only at h
    refine X0l [] ?_
    refine X3.joinF (fun(q:Nb Xq9×Nb Xq8)=>⟨fr [(2,(slE q.1.1 0 (Xq9.map X7))),(3,(slE q.2.1 1 (Xq8.map X7))),(6,(AV.fn 105 [(AV.ptr 2 0 0)])),(16,(Lf (Xcp.map X0))),(17,(aI .i64 (Xcp.length:Int))),(18,(aI .i64 (k:Int)))],hp ([(2,Ob [(aI .i64 Xwz)] 1)]++opE q.1.1 0 3 (Xq9.map X7)++opE q.2.1 1 3 (Xq8.map X7)),3⟩) ?_ (fun J=>X3.cut ?_)
    ·
     rintro⟨Xtg,Xk9⟩
     rcases Xtg with ⟨_|_,Xu8⟩
     ·
      rcases Xk9 with ⟨_|_,Xg2⟩
      ·
       exact Xc [] (k:=wkT [] (ih (k+1) hx1 _ _ _ nbF nbF o h C0))
      obtain rfl:=Xg2 rfl
      exact Xc [] (k:=wkT [] (ih (k+1) hx1 _ _ _ nbF nbS o h C0))
     obtain rfl:=Xu8 rfl
     rcases Xk9 with ⟨_|_,Xg2⟩
     ·
      exact Xc [] (k:=wkT [] (ih (k+1) hx1 _ _ _ nbS nbF o h C0))
     obtain rfl:=Xg2 rfl
     exact Xc [] (k:=wkT [] (ih (k+1) hx1 _ _ _ nbS nbS o h C0))
    clear h;revert h248
    refine brI (fun h242=>?_) fun h242=>?_
    ·
     intro h
     simp only[Option.some.injEq,Prod.mk.injEq] at h
     obtain⟨rfl,rfl⟩:=h
     exact Xc [Bt] (k:=wkT [] (X3.glue (J (nbS,nbF))))
    refine brI (fun h243=>?_) fun h243=>?_
    ·
     refine bI fun u244 h245=>?_
     intro h
     simp only[Option.some.injEq,Prod.mk.injEq] at h
     obtain⟨rfl,rfl⟩:=h
     exact Xc [Bf,Bt,.no] (o:=by repeat' first|apply Ya|exact pcM|(refine X8 h245 rfl ?_;first|(simp;done)|(simp;omega)|(simp[hc,h242,h243];done)|(simp[hc,h242,h243];omega))|(refine X2 h245 (by decide) ?_;first|(simp;done)|(simp;omega)|(simp[hc,h242,h243];done)|(simp[hc,h242,h243];omega))|exact Xw) (k:=wkT [(1,5)] (X3.glue (J (nbS,nbF))))
    refine bI fun u246 h247=>?_
    intro h
    simp only[Option.some.injEq,Prod.mk.injEq] at h
    obtain⟨rfl,rfl⟩:=h
    exact Xc [Bf,Bf,.no] (o:=by repeat' first|apply Ya|exact pcM|(refine X8 h247 rfl ?_;first|(simp;done)|(simp;omega)|(simp[hc,h242,h243];done)|(simp[hc,h242,h243];omega))|(refine X2 h247 (by decide) ?_;first|(simp;done)|(simp;omega)|(simp[hc,h242,h243];done)|(simp[hc,h242,h243];omega))|exact Xw) (k:=wkT [(0,5)] (X3.glue (J (nbF,nbF))))
   clear h;revert h234
   refine brI (fun h233=>?_) fun h233=>?_
   ·
    intro h
    obtain rfl:=oj h
    exact Xc [Bt] (k:=wkT [] (X3.glue J))
   intro h
   obtain rfl:=oj h
   exact Xc [Bf] (k:=wkT [] (X3.glue J))
  obtain rfl:=X0f rfl
  refine X3.round ?_
  refine X0l [Bt,.el (X0 x)] ?_
  refine X3.inline Xh Xug rfl rfl rfl rfl rfl trivial trivial rfl rfl ?_
  revert h
  refine bI fun Xwv h256=>rnI [] ?_
  intro h
  refine X3.join (s':=⟨fr [(4,(aI .i64 Xam))],hp ([(2,Ob [(aI .i64 Xwv)] 1),(3,Ob [(X0 x)] 5)]),4⟩) ?_ (fun J=>X3.cut ?_)
  ·
   refine X0l [] ?_
   refine X3.back (by intro id h;cases h) rfl ?_
   revert h
   refine bI fun w263 h270=>?_
   intro h
   obtain⟨Xq7,Xq6⟩:=w263
   try dsimp only at h
   refine X0l [] ?_
   refine X3.joinF (fun(q:Nb Xq7×Nb Xq6)=>⟨fr [(2,(slE q.1.1 0 (Xq7.map X7))),(3,(slE q.2.1 1 (Xq6.map X7))),(6,(AV.fn 105 [(AV.ptr 2 0 0)])),(16,(Lf (Xcp.map X0))),(17,(aI .i64 (Xcp.length:Int))),(18,(aI .i64 (k:Int)))],hp ([(2,Ob [(aI .i64 Xwv)] 1)]++opE q.1.1 0 3 (Xq7.map X7)++opE q.2.1 1 3 (Xq6.map X7)),3⟩) ?_ (fun J=>X3.cut ?_)
   ·
    rintro⟨Xtf,Xk8⟩
    rcases Xtf with ⟨_|_,Xu7⟩
    ·
     rcases Xk8 with ⟨_|_,Xg1⟩
     ·
      exact Xc [] (k:=wkT [] (ih (k+1) hx1 _ _ _ nbF nbF o h C0))
     obtain rfl:=Xg1 rfl
     exact Xc [] (k:=wkT [] (ih (k+1) hx1 _ _ _ nbF nbS o h C0))
    obtain rfl:=Xu7 rfl
    rcases Xk8 with ⟨_|_,Xg1⟩
    ·
     exact Xc [] (k:=wkT [] (ih (k+1) hx1 _ _ _ nbS nbF o h C0))
    obtain rfl:=Xg1 rfl
    exact Xc [] (k:=wkT [] (ih (k+1) hx1 _ _ _ nbS nbS o h C0))
   clear h;revert h270
   refine brI (fun h264=>?_) fun h264=>?_
   ·
    intro h
    simp only[Option.some.injEq,Prod.mk.injEq] at h
    obtain⟨rfl,rfl⟩:=h
    exact Xc [Bt] (k:=wkT [] (X3.glue (J (nbS,nbS))))
   refine brI (fun h265=>?_) fun h265=>?_
   ·
    refine bI fun u266 h267=>?_
    intro h
    simp only[Option.some.injEq,Prod.mk.injEq] at h
    obtain⟨rfl,rfl⟩:=h
    exact Xc [Bf,Bt,.no] (o:=by repeat' first|apply Ya|exact pcM|(refine X8 h267 rfl ?_;first|(simp;done)|(simp;omega)|(simp[hc,h264,h265];done)|(simp[hc,h264,h265];omega))|(refine X2 h267 (by decide) ?_;first|(simp;done)|(simp;omega)|(simp[hc,h264,h265];done)|(simp[hc,h264,h265];omega))|exact Xw) (k:=wkT [(1,5)] (X3.glue (J (nbS,nbF))))
   refine bI fun u268 h269=>?_
   intro h
   simp only[Option.some.injEq,Prod.mk.injEq] at h
   obtain⟨rfl,rfl⟩:=h
   exact Xc [Bf,Bf,.no] (o:=by repeat' first|apply Ya|exact pcM|(refine X8 h269 rfl ?_;first|(simp;done)|(simp;omega)|(simp[hc,h264,h265];done)|(simp[hc,h264,h265];omega))|(refine X2 h269 (by decide) ?_;first|(simp;done)|(simp;omega)|(simp[hc,h264,h265];done)|(simp[hc,h264,h265];omega))|exact Xw) (k:=wkT [(0,5)] (X3.glue (J (nbF,nbS))))
  clear h;revert h256
  refine brI (fun h255=>?_) fun h255=>?_
  ·
   intro h
   obtain rfl:=oj h
   exact Xc [Bt] (k:=wkT [] (X3.glue J))
  intro h
  obtain rfl:=oj h
  exact Xc [Bf] (k:=wkT [] (X3.glue J))
instance X001:PCs Tryz.prog 49 (∀ (a0:(List Xb)) (r:(List Xm)×(List Xm)×Int),Xbe a0=some r->X11 Tryz.prog 49 [(Lf (a0.map X0))] (AV.tup [(AV.list true (r.1.map X7)),(AV.list true (r.2.1.map X7)),(aI .i64 r.2.2)])):=⟨fun a0 r h=>by
 refine X11.sym Xh fn49 (nt:=47) rfl rfl ?_ okM
 unfold Xbe at h
 revert h
 refine bI fun v1 h2=>brI (fun h3=>fun e=>oj e▸Xc [.pure _ (aI .i64 v1),Bt] (k:=fi)) fun h3=>rnI [.pure _ (aI .i64 v1),Bf] ?_
 intro h
 refine X3.inline Xh fn71 rfl rfl rfl rfl rfl trivial trivial rfl rfl ?_
 refine X0l [] ?_
 refine X3.back (by intro id h;cases h) rfl ?_
 revert h
 refine bI fun u4 h5=>?_
 have qh5:=X0u h5
 refine bI fun o271 h272=>rnI [.el (aI .i64 (a0.length:Int))] ?_
 intro h
 refine wkT [(2,0)] (X3.cut (Xh1 a0 qh5 a0 0 (by simp) _ _ _ nbS nbS _ h272 ?_))
 intro X02 X0n X0i X0o eo271;subst eo271
 refine X3.glue ?_
 try dsimp only at h
 rcases X0i with ⟨_|_,X2q⟩
 ·
  rcases X0o with ⟨_|_,X2a⟩
  ·
   revert h
   exact fun e=>oj e▸Xc [] (k:=fi)
  obtain rfl:=X2a rfl
  revert h
  exact fun e=>oj e▸Xc [] (k:=fi)
 obtain rfl:=X2q rfl
 rcases X0o with ⟨_|_,X2a⟩
 ·
  revert h
  exact fun e=>oj e▸Xc [] (k:=fi)
 obtain rfl:=X2a rfl
 revert h
 exact fun e=>oj e▸Xc [] (k:=fi)⟩
instance Xza:PCs Tryz.prog 96 (∀ (a0:(List X0c)) (r:Int),Xc6 a0=some r->X11 Tryz.prog 96 [(Lf (a0.map X1))] (aI .i64 r)):=⟨fun a0 r h=>by
 refine X11.sym Xh fn96 (nt:=13) rfl rfl ?_ okM
 unfold Xc6 at h
 revert h
 exact bI fun v1 h2=>fun e=>oj e▸Xc [.pure _ (AV.tup [(aB v1.1),(aI .i64 v1.2.1),(aI .i64 v1.2.2)])] (k:=fi)⟩
instance X00k:PCs Tryz.prog 131 (∀ (a0:Bool) (r:Int),X3w a0=some r->X11 Tryz.prog 131 [(aB a0)] (aI .i64 r)):=⟨fun a0 r h=>by
 refine X11.sym Xh X07t (nt:=4) rfl rfl ?_ okM
 unfold X3w at h
 revert h
 exact brI (fun h1=>fun e=>oj e▸Xc [Bt] (k:=fi)) fun h1=>fun e=>oj e▸Xc [Bf] (k:=fi)⟩
instance Xke:PCs Tryz.prog 97 (∀ (a0:Int) (a1:Int) (a2:Int) (r:Int×Int),Xg0 a0 a1 a2=some r->X11 Tryz.prog 97 [(aI .u8 a0),(aI .i64 a1),(aI .i64 a2)] (AV.tup [(aI .i64 r.1),(aI .i64 r.2)])):=⟨fun a0 a1 a2 r h=>by
 refine X11.sym Xh fn97 (nt:=97) rfl rfl ?_ okM
 unfold Xg0 at h
 revert h
 refine brI (fun h1=>fun e=>oj e▸Xc [Bt,.wrap] (k:=fi)) fun h1=>brI (fun h2=>bI fun v3 h4=>fun e=>oj e▸Xc [Bf,Bt,.pure _ (aI .i64 v3)] (k:=fi)) fun h2=>brI (fun h5=>fun e=>oj e▸Xc [Bf,Bf,Bt,.wrap] (k:=fi)) fun h5=>brI (fun h6=>fun e=>oj e▸Xc [Bf,Bf,Bf,Bt,.wrap] (k:=fi)) fun h6=>brI (fun h7=>fun e=>oj e▸Xc [Bf,Bf,Bf,Bf,Bt,.wrap] (k:=fi)) fun h7=>brI (fun h8=>bI fun u9 h10=>fun e=>oj e▸Xc [Bf,Bf,Bf,Bf,Bf,Bt,.wrap] (k:=fi)) fun h8=>brI (fun h11=>bI fun u12 h13=>fun e=>oj e▸Xc [Bf,Bf,Bf,Bf,Bf,Bf,Bt] (k:=fi)) fun h11=>brI (fun h14=>bI fun v15 h16=>fun e=>oj e▸Xc [Bf,Bf,Bf,Bf,Bf,Bf,Bf,Bt,.pure _ (aI .i64 v15)] (k:=fi)) fun h14=>brI (fun h17=>bI fun v18 h19=>fun e=>oj e▸Xc [Bf,Bf,Bf,Bf,Bf,Bf,Bf,Bf,Bt,.pure _ (aI .i64 v18)] (k:=fi)) fun h17=>brI (fun h20=>bI fun v21 h22=>fun e=>oj e▸Xc [Bf,Bf,Bf,Bf,Bf,Bf,Bf,Bf,Bf,Bt,.pure _ (aI .i64 v21)] (k:=fi)) fun h20=>brI (fun h23=>bI fun v24 h25=>fun e=>oj e▸Xc [Bf,Bf,Bf,Bf,Bf,Bf,Bf,Bf,Bf,Bf,Bt,.pure _ (aI .i64 v24)] (k:=fi)) fun h23=>brI (fun h26=>bI fun v27 h28=>fun e=>oj e▸Xc [Bf,Bf,Bf,Bf,Bf,Bf,Bf,Bf,Bf,Bf,Bf,Bt,.pure _ (aI .i64 v27)] (k:=fi)) fun h26=>brI (fun h29=>bI fun v30 h31=>fun e=>oj e▸Xc [Bf,Bf,Bf,Bf,Bf,Bf,Bf,Bf,Bf,Bf,Bf,Bf,Bt,.pure _ (aI .i64 v30)] (k:=fi)) fun h29=>brI (fun h32=>bI fun v33 h34=>fun e=>oj e▸Xc [Bf,Bf,Bf,Bf,Bf,Bf,Bf,Bf,Bf,Bf,Bf,Bf,Bf,Bt,.pure _ (aI .i64 v33)] (k:=fi)) fun h32=>rnI [Bf,Bf,Bf,Bf,Bf,Bf,Bf,Bf,Bf,Bf,Bf,Bf,Bf,Bf] ?_
 exact brI (fun h35=>bI fun v36 h37=>fun e=>oj e▸Xc [Bt,.pure _ (aI .i64 v36)] (k:=fi)) fun h35=>fun e=>oj e▸Xc [Bf] (k:=fi)⟩
end Go.Av.Tryz