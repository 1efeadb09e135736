/- Printed by decomp.py: that the program computes the functions. -/
import Derived.Test.YtfdfgobnpnoomaaGreatDCert3Z
set_option linter.all false

namespace Go.Av.Tryz
open Go.Proofs Go.D
set_option maxRecDepth 10000
set_option maxHeartbeats 40000000
instance X035:PCs Tryz.prog 48 (∀ (a0:Xu) (r:Int×Int),Xa9 a0=some r->X0g Tryz.prog 48 [(Xm false a0)] (AV.tup [(aI .i64 r.1),(aI .i64 r.2)])):=⟨fun a0 r h=>by
 refine X0g.sym Xa fn48 (nt:=20) rfl rfl ?_ okM
 unfold Xa9 at h
 revert h
 refine bI fun v1 h2=>brI (fun h3=>fun e=>oj e▸X9 [.pure _ (aI .i64 v1),Bt] (k:=fi)) fun h3=>bI fun w22 h41=>?_
 intro h
 obtain⟨X05z,X05y⟩:=w22
 try dsimp only at h
 refine X10 [.pure _ (aI .i64 v1),Bf] ?_
 refine X2.joinOp (s':=⟨fr [(17,(AV.tup [(aI .i64 X05z),(aI .i64 X05y)]))],hp ([]),0⟩) ?_ (fun J=>?_)
 ·
  revert h
  exact fun e=>oj e▸X9 [] (k:=fi)
 clear h;revert h41
 intro h
 refine X2.inline Xa fn74 rfl rfl rfl rfl rfl trivial trivial rfl rfl ?_
 refine X10 [] ?_
 refine X2.round ?_
 revert h
 refine brI (fun h23=>?_) fun h23=>?_
 ·
  refine rnI [Bt,.el (AV.agg [(Lf (a0.Arg.map X4)),(AV.fn 75 [])]),.el (aI .i64 (a0.Arg.length:Int)),Bt] ?_
  intro h
  refine X2.round ?_
  revert h
  refine brI (fun h24=>?_) fun h24=>?_
  ·
   refine rnI [Bt,.el (AV.agg [(Lf (a0.Where.map X4)),(AV.fn 76 [])]),.el (aI .i64 (a0.Where.length:Int)),Bt] ?_
   intro h
   refine X2.round ?_
   simp only[Option.some.injEq,Prod.mk.injEq] at h
   obtain⟨rfl,rfl⟩:=h
   refine X10 [Bf] ?_
   refine X2.back (by intro id h;cases h) rfl ?_
   exact wkT [] (J)
  refine bI fun v25 h26=>rnI [Bt,.el (AV.agg [(Lf (a0.Where.map X4)),(AV.fn 76 [])]),.el (aI .i64 (a0.Where.length:Int)),Bf,.pure _ (AV.tup [(aI .i64 v25.1),(aI .i64 v25.2)])] ?_
  refine brI (fun h27=>?_) fun h27=>?_
  ·
   refine bI fun e28 h29=>?_
   try have qh29:=Xn h29
   intro h
   simp only[Option.some.injEq,Prod.mk.injEq] at h
   obtain⟨rfl,rfl⟩:=h
   refine X10 [Bt,.el (X4 e28)] ?_
   refine X2.back (by intro id h;cases h) rfl ?_
   exact wkT [] (J)
  refine rnI [Bf] ?_
  intro h
  refine X2.round ?_
  simp only[Option.some.injEq,Prod.mk.injEq] at h
  obtain⟨rfl,rfl⟩:=h
  refine X10 [Bf] ?_
  refine X2.back (by intro id h;cases h) rfl ?_
  exact wkT [] (J)
 refine bI fun v30 h31=>rnI [Bt,.el (AV.agg [(Lf (a0.Arg.map X4)),(AV.fn 75 [])]),.el (aI .i64 (a0.Arg.length:Int)),Bf,.pure _ (AV.tup [(aI .i64 v30.1),(aI .i64 v30.2)])] ?_
 refine brI (fun h32=>?_) fun h32=>?_
 ·
  refine bI fun e33 h34=>?_
  try have qh34:=Xn h34
  intro h
  simp only[Option.some.injEq,Prod.mk.injEq] at h
  obtain⟨rfl,rfl⟩:=h
  refine X10 [Bt,.el (X4 e33)] ?_
  refine X2.back (by intro id h;cases h) rfl ?_
  exact wkT [] (J)
 refine rnI [Bf] ?_
 intro h
 refine X2.round ?_
 revert h
 refine brI (fun h35=>?_) fun h35=>?_
 ·
  refine rnI [Bt,.el (AV.agg [(Lf (a0.Where.map X4)),(AV.fn 76 [])]),.el (aI .i64 (a0.Where.length:Int)),Bt] ?_
  intro h
  refine X2.round ?_
  simp only[Option.some.injEq,Prod.mk.injEq] at h
  obtain⟨rfl,rfl⟩:=h
  refine X10 [Bf] ?_
  refine X2.back (by intro id h;cases h) rfl ?_
  exact wkT [] (J)
 refine bI fun v36 h37=>rnI [Bt,.el (AV.agg [(Lf (a0.Where.map X4)),(AV.fn 76 [])]),.el (aI .i64 (a0.Where.length:Int)),Bf,.pure _ (AV.tup [(aI .i64 v36.1),(aI .i64 v36.2)])] ?_
 refine brI (fun h38=>?_) fun h38=>?_
 ·
  refine bI fun e39 h40=>?_
  try have qh40:=Xn h40
  intro h
  simp only[Option.some.injEq,Prod.mk.injEq] at h
  obtain⟨rfl,rfl⟩:=h
  refine X10 [Bt,.el (X4 e39)] ?_
  refine X2.back (by intro id h;cases h) rfl ?_
  exact wkT [] (J)
 refine rnI [Bf] ?_
 intro h
 refine X2.round ?_
 simp only[Option.some.injEq,Prod.mk.injEq] at h
 obtain⟨rfl,rfl⟩:=h
 refine X10 [Bf] ?_
 refine X2.back (by intro id h;cases h) rfl ?_
 exact wkT [] (J)⟩
instance X07e:PCs Tryz.prog 104 (∀ (a0:Int) (r:Bool),Xdl a0=some r->X0g Tryz.prog 104 [(aI .i64 a0)] (aB r)):=⟨fun a0 r h=>by
 refine X0g.sym Xa X0eo (nt:=9) rfl rfl ?_ okM
 unfold Xdl at h
 revert h
 exact fun e=>oj e▸X9 [] (k:=fi)⟩
theorem Xkr {Q:X02->St->Mu->Prop} {μ:Mu} (X5z:(List Xk)) (hl:X5z.length<=140737488355328):∀ (xs:List Xk) (k:Nat) (hx:X5z.drop k=xs) (o:X8l) (h:X5l X5z xs k  = some o)
  (C0:o=X8l.x0->X2 Tryz.prog 55 0 Q (.exit (.exit 0)) [] ⟨fr [],hp ([]),0⟩ μ)
  (C1:o=X8l.x1->X2 Tryz.prog 55 0 Q (.exit .ret) [] ⟨fr [(2,(aI .i64 8))],hp ([]),0⟩ μ),
  X2 Tryz.prog 55 0 Q (.loop (X2v 0 (Xh Tryz.f70))) [] ⟨fr [(10,(Lf (X5z.map Xd))),(11,(aI .i64 (X5z.length:Int))),(12,(aI .i64 (k:Int)))],hp ([]),0⟩ μ:=by
 intro xs
 induction xs with
 |nil =>
  intro k hx  o h C0 C1
  have hk:=drop_nil hx
  have hc:decide ((k:Int)<(X5z.length:Int))=false:=Yf (by omega)
  rw[X5l] at h
  refine X2.round ?_
  revert h
  exact fun e=>X9 [Bf] (k:=wkT [] (C0  (oj e).symm))
 |cons x xs ih =>
  intro k hx  o h C0 C1
  obtain⟨hk,hg,hx1⟩:=drop_cons hx
  have hc:decide ((k:Int)<(X5z.length:Int))=true:=Yt (by omega)
  rw[X5l] at h
  refine X2.round ?_
  revert h
  refine bI fun X05t h52=>rnI [Bt,.el (Xd x),.stop 6] ?_
  intro h
  refine X2.join (s':=⟨fr [(4,(AV.ptr 0 0 0)),(5,(aB X05t)),(10,(Lf (X5z.map Xd))),(11,(aI .i64 (X5z.length:Int))),(12,(aI .i64 (k:Int)))],hp ([(0,Ob [(Xd x)] 5)]),1⟩) ?_ (fun J=>X2.cut ?_)
  ·
   revert h
   refine bI fun X098 h60=>rnI [.stop 7] ?_
   intro h
   refine X2.join (s':=⟨fr [(4,(AV.ptr 0 0 0)),(5,(aB X05t)),(6,(aB X098)),(10,(Lf (X5z.map Xd))),(11,(aI .i64 (X5z.length:Int))),(12,(aI .i64 (k:Int)))],hp ([(0,Ob [(Xd x)] 5)]),1⟩) ?_ (fun J=>X2.cut ?_)
   ·
    revert h
    refine brI (fun h61=>fun e=>X9 [Bt] (k:=wkT [] (C1  (oj e).symm))) fun h61=>rnI [Bf] ?_
    intro h
    exact wkT [] (ih (k+1) hx1  o h C0 C1)
   clear h;revert h60
   refine brI (fun h57=>?_) fun h57=>?_
   ·
    refine bI fun v58 h59=>?_
    intro h
    obtain rfl:=oj h
    exact X9 [.go true,.go true,.go true,.go true,.pure _ (aB v58)] (k:=wkT [] (X2.glue J))
   intro h
   obtain rfl:=oj h
   exact X9 [.go false,.go false,.go false,.go false] (k:=wkT [] (X2.glue J))
  clear h;revert h52
  refine brI (fun h48=>?_) fun h48=>?_
  ·
   refine bI fun v49 h50=>brI (fun h51=>?_) fun h51=>?_
   ·
    intro h
    obtain rfl:=oj h
    exact X9 [.go true,.go true,.go true,.pure _ (aB v49),.go true,.go false,.go false,.go false,.go true] (k:=wkT [] (X2.glue J))
   intro h
   obtain rfl:=oj h
   exact X9 [.go true,.go true,.go true,.pure _ (aB v49),.go true,.go true,.go true,.go true,.go true] (k:=wkT [] (X2.glue J))
  intro h
  obtain rfl:=oj h
  exact X9 [.go false,.go false,.go false,.go false,.go false,.go false,.go false,.go false] (k:=wkT [] (X2.glue J))
instance X05o:PCs Tryz.prog 70 (∀ (a0:(List Xk)) (r:Int),X9k a0=some r->X0g Tryz.prog 70 [(Lf (a0.map Xd))] (aI .i64 r)):=⟨fun a0 r h=>by
 refine X0g.sym Xa fn70 (nt:=55) rfl rfl ?_ okM
 unfold X9k at h
 revert h
 refine brI (fun h1=>fun e=>oj e▸X9 [.el (aI .i64 (a0.length:Int)),Bt] (k:=fi)) fun h1=>bI fun u2 h3=>?_
 have qh3:=X08 h3
 refine bI fun o62 h63=>rnI [.el (aI .i64 (a0.length:Int)),Bf,.el (aI .i64 (a0.length:Int))] ?_
 intro h
 refine wkT [] (X2.cut (Xkr a0 qh3 a0 0 (by simp) _ h63 ?_ ?_))
 ·
  intro eo62;subst eo62
  refine X2.glue ?_
  try dsimp only at h
  revert h
  exact fun e=>oj e▸X9 [] (k:=fi)
 intro eo62;subst eo62
 refine X2.glue ?_
 try dsimp only at h
 revert h
 exact fun e=>oj e▸X9 [] (k:=fi)⟩
theorem Xgt {Q:X02->St->Mu->Prop} {μ:Mu} (Xht:(List (List Xk))) (hl:Xht.length<=140737488355328):∀ (xs:List (List Xk)) (k:Nat) (hx:Xht.drop k=xs) (o:X5k) (h:X2u Xht xs k  = some o)
  (C0:o=X5k.x0->X2 Tryz.prog 18 0 Q (.exit (.exit 0)) [] ⟨fr [],hp ([]),0⟩ μ)
  (C1:∀ (X53:Int),o=X5k.x1 X53->X2 Tryz.prog 18 0 Q (.exit .ret) [] ⟨fr [(2,(aI .i64 X53))],hp ([]),0⟩ μ),
  X2 Tryz.prog 18 0 Q (.loop (X2v 0 (Xh Tryz.f44))) [] ⟨fr [(6,(Lf (List.map (X56 false Xd) Xht))),(7,(aI .i64 (Xht.length:Int))),(8,(aI .i64 (k:Int)))],hp ([]),0⟩ μ:=by
 intro xs
 induction xs with
 |nil =>
  intro k hx  o h C0 C1
  have hk:=drop_nil hx
  have hc:decide ((k:Int)<(Xht.length:Int))=false:=Yf (by omega)
  rw[X2u] at h
  refine X2.round ?_
  revert h
  exact fun e=>X9 [Bf] (k:=wkT [] (C0  (oj e).symm))
 |cons x xs ih =>
  intro k hx  o h C0 C1
  obtain⟨hk,hg,hx1⟩:=drop_cons hx
  have hc:decide ((k:Int)<(Xht.length:Int))=true:=Yt (by omega)
  rw[X2u] at h
  refine X2.round ?_
  revert h
  refine bI fun v10 h11=>brI (fun h12=>fun e=>X9 [Bt,.el (X56 false Xd x),.pure _ (aI .i64 v10),Bt] (k:=wkT [] (C1 _  (oj e).symm))) fun h12=>rnI [Bt,.el (X56 false Xd x),.pure _ (aI .i64 v10),Bf] ?_
  intro h
  exact wkT [] (ih (k+1) hx1  o h C0 C1)
instance Xxy:PCs Tryz.prog 44 (∀ (a0:(List (List Xk))) (r:Int),X5y a0=some r->X0g Tryz.prog 44 [(Lf (List.map (X56 false Xd) a0))] (aI .i64 r)):=⟨fun a0 r h=>by
 refine X0g.sym Xa fn44 (nt:=18) rfl rfl ?_ okM
 unfold X5y at h
 revert h
 refine bI fun u1 h2=>?_
 have qh2:=X08 h2
 refine bI fun o13 h14=>rnI [.el (aI .i64 (a0.length:Int))] ?_
 intro h
 refine wkT [] (X2.cut (Xgt a0 qh2 a0 0 (by simp) _ h14 ?_ ?_))
 ·
  intro eo13;subst eo13
  refine X2.glue ?_
  try dsimp only at h
  revert h
  exact fun e=>oj e▸X9 [] (k:=fi)
 intro X53 eo13;subst eo13
 refine X2.glue ?_
 try dsimp only at h
 revert h
 exact fun e=>oj e▸X9 [] (k:=fi)⟩
theorem Xkp {Q:X02->St->Mu->Prop} {μ:Mu} (Xf6:(List Xk)) (hl:Xf6.length<=140737488355328):∀ (xs:List Xk) (k:Nat) (hx:Xf6.drop k=xs) (Xf:(List X7)) (Xi:(List X7)) (X1t:Int) (Xy:Nb Xf) (Xl:Nb Xi) (o:Xbx) (h:X4n Xf6 xs k Xf Xi X1t=some o)
  (C0:∀ (Xe:(List X7)) (X0s:(List X7)) (Xj:Nb Xe) (X0v:Nb X0s),o=Xbx.x0 Xe X0s->X2 Tryz.prog 47 0 Q (.exit (.exit 0)) [] ⟨fr [(2,(slE Xj.1 0 (Xe.map X0))),(3,(slE X0v.1 1 (X0s.map X0)))],hp ([]++opE Xj.1 0 3 (Xe.map X0)++opE X0v.1 1 3 (X0s.map X0)),2⟩ μ),
  X2 Tryz.prog 47 0 Q (.loop (X2v 0 (Xh Tryz.f49))) [] ⟨fr [(2,(slE Xy.1 0 (Xf.map X0))),(3,(slE Xl.1 1 (Xi.map X0))),(6,(AV.fn 105 [(AV.ptr 2 0 0)])),(16,(Lf (Xf6.map Xd))),(17,(aI .i64 (Xf6.length:Int))),(18,(aI .i64 (k:Int)))],hp ([(2,Ob [(aI .i64 X1t)] 1)]++opE Xy.1 0 3 (Xf.map X0)++opE Xl.1 1 3 (Xi.map X0)),3⟩ μ:=by
 intro xs
 induction xs with
 |nil =>
  intro k hx Xf Xi X1t Xy Xl o h C0
  have hk:=drop_nil hx
  have hc:decide ((k:Int)<(Xf6.length:Int))=false:=Yf (by omega)
  rw[X4n] at h
  rcases Xy with ⟨_|_,X1b⟩
  ·
   rcases Xl with ⟨_|_,X04⟩
   ·
    refine X2.round ?_
    revert h
    exact fun e=>X9 [Bf] (k:=wkT [] (C0 _ _  nbF nbF (oj e).symm))
   obtain rfl:=X04 rfl
   refine X2.round ?_
   revert h
   exact fun e=>X9 [Bf] (k:=wkT [] (C0 _ _  nbF nbS (oj e).symm))
  ·
   obtain rfl:=X1b rfl
   rcases Xl with ⟨_|_,X04⟩
   ·
    refine X2.round ?_
    revert h
    exact fun e=>X9 [Bf] (k:=wkT [] (C0 _ _  nbS nbF (oj e).symm))
   ·
    obtain rfl:=X04 rfl
    refine X2.round ?_
    revert h
    exact fun e=>X9 [Bf] (k:=wkT [] (C0 _ _  nbS nbS (oj e).symm))
 |cons x xs ih =>
  intro k hx Xf Xi X1t Xy Xl o h C0
  obtain⟨hk,hg,hx1⟩:=drop_cons hx
  have hc:decide ((k:Int)<(Xf6.length:Int))=true:=Yt (by omega)
  rw[X4n] at h
  rcases Xy with ⟨_|_,X1b⟩
  ·
   rcases Xl with ⟨_|_,X04⟩
   ·
    refine X2.round ?_
    refine X10 [Bt,.el (Xd x)] ?_
    refine X2.inline Xa X06f rfl rfl rfl rfl rfl trivial trivial rfl rfl ?_
    revert h
    refine bI fun Xpv h190=>rnI [] ?_
    intro h
    refine X2.join (s':=⟨fr [(4,(aI .i64 X1t))],hp ([(0,Ob (Xf.map X0) 3),(1,Ob (Xi.map X0) 3),(2,Ob [(aI .i64 Xpv)] 1),(3,Ob [(Xd x)] 5)]),4⟩) ?_ (fun J=>X2.cut ?_)
    ·
     refine X10 [] ?_
     refine X2.back (by intro id h;cases h) rfl ?_
     revert h
     refine bI fun w197 h204=>?_
     intro h
     obtain⟨Xut,Xus⟩:=w197
     try dsimp only at h
     refine X10 [] ?_
     refine X2.joinF (fun(q:Nb Xut×Nb Xus)=>⟨fr [(2,(slE q.1.1 0 (Xut.map X0))),(3,(slE q.2.1 1 (Xus.map X0))),(6,(AV.fn 105 [(AV.ptr 2 0 0)])),(16,(Lf (Xf6.map Xd))),(17,(aI .i64 (Xf6.length:Int))),(18,(aI .i64 (k:Int)))],hp ([(2,Ob [(aI .i64 Xpv)] 1)]++opE q.1.1 0 3 (Xut.map X0)++opE q.2.1 1 3 (Xus.map X0)),3⟩) ?_ (fun J=>X2.cut ?_)
     ·
      rintro⟨Xxv,Xoi⟩
      rcases Xxv with ⟨_|_,Xyp⟩
      ·
       rcases Xoi with ⟨_|_,Xjm⟩
       ·
        exact X9 [] (k:=wkT [] (ih (k+1) hx1 _ _ _ nbF nbF o h C0))
       obtain rfl:=Xjm rfl
       exact X9 [] (k:=wkT [] (ih (k+1) hx1 _ _ _ nbF nbS o h C0))
      obtain rfl:=Xyp rfl
      rcases Xoi with ⟨_|_,Xjm⟩
      ·
       exact X9 [] (k:=wkT [] (ih (k+1) hx1 _ _ _ nbS nbF o h C0))
      obtain rfl:=Xjm rfl
      exact X9 [] (k:=wkT [] (ih (k+1) hx1 _ _ _ nbS nbS o h C0))
     clear h;revert h204
     refine brI (fun h198=>?_) fun h198=>?_
     ·
      intro h
      simp only[Option.some.injEq,Prod.mk.injEq] at h
      obtain⟨rfl,rfl⟩:=h
      exact X9 [Bt] (k:=wkT [] (X2.glue (J (nbF,nbF))))
     refine brI (fun h199=>?_) fun h199=>?_
     ·
      refine bI fun u200 h201=>?_
      intro h
      simp only[Option.some.injEq,Prod.mk.injEq] at h
      obtain⟨rfl,rfl⟩:=h
      exact X9 [Bf,Bt,.no] (o:=by repeat' first|apply Ya|exact pcM|(refine X0a h201 rfl ?_;first|(simp;done)|(simp;omega)|(simp[hc,h198,h199];done)|(simp[hc,h198,h199];omega))|(refine Xs h201 (by decide) ?_;first|(simp;done)|(simp;omega)|(simp[hc,h198,h199];done)|(simp[hc,h198,h199];omega))|exact X0k) (k:=wkT [(1,5)] (X2.glue (J (nbF,nbF))))
     refine bI fun u202 h203=>?_
     intro h
     simp only[Option.some.injEq,Prod.mk.injEq] at h
     obtain⟨rfl,rfl⟩:=h
     exact X9 [Bf,Bf,.no] (o:=by repeat' first|apply Ya|exact pcM|(refine X0a h203 rfl ?_;first|(simp;done)|(simp;omega)|(simp[hc,h198,h199];done)|(simp[hc,h198,h199];omega))|(refine Xs h203 (by decide) ?_;first|(simp;done)|(simp;omega)|(simp[hc,h198,h199];done)|(simp[hc,h198,h199];omega))|exact X0k) (k:=wkT [(0,5)] (X2.glue (J (nbF,nbF))))
    clear h;revert h190
    refine brI (fun h189=>?_) fun h189=>?_
    ·
     intro h
     obtain rfl:=oj h
     exact X9 [Bt] (k:=wkT [] (X2.glue J))
    intro h
    obtain rfl:=oj h
    exact X9 [Bf] (k:=wkT [] (X2.glue J))
   obtain rfl:=X04 rfl
   refine X2.round ?_
   refine X10 [Bt,.el (Xd x)] ?_
   refine X2.inline Xa X06f rfl rfl rfl rfl rfl trivial trivial rfl rfl ?_
   revert h
   refine bI fun X01z h212=>rnI [] ?_
   intro h
   refine X2.join (s':=⟨fr [(4,(aI .i64 X1t))],hp ([(0,Ob (Xf.map X0) 3),(2,Ob [(aI .i64 X01z)] 1),(3,Ob [(Xd x)] 5)]),4⟩) ?_ (fun J=>X2.cut ?_)
   ·
    refine X10 [] ?_
    refine X2.back (by intro id h;cases h) rfl ?_
    revert h
    refine bI fun w219 h226=>?_
    intro h
    obtain⟨Xur,Xuq⟩:=w219
    try dsimp only at h
    refine X10 [] ?_
    refine X2.joinF (fun(q:Nb Xur×Nb Xuq)=>⟨fr [(2,(slE q.1.1 0 (Xur.map X0))),(3,(slE q.2.1 1 (Xuq.map X0))),(6,(AV.fn 105 [(AV.ptr 2 0 0)])),(16,(Lf (Xf6.map Xd))),(17,(aI .i64 (Xf6.length:Int))),(18,(aI .i64 (k:Int)))],hp ([(2,Ob [(aI .i64 X01z)] 1)]++opE q.1.1 0 3 (Xur.map X0)++opE q.2.1 1 3 (Xuq.map X0)),3⟩) ?_ (fun J=>X2.cut ?_)
    ·
     rintro⟨Xxu,Xoh⟩
     rcases Xxu with ⟨_|_,Xyo⟩
     ·
      rcases Xoh with ⟨_|_,Xjl⟩
      ·
       exact X9 [] (k:=wkT [] (ih (k+1) hx1 _ _ _ nbF nbF o h C0))
      obtain rfl:=Xjl rfl
      exact X9 [] (k:=wkT [] (ih (k+1) hx1 _ _ _ nbF nbS o h C0))
     obtain rfl:=Xyo rfl
     rcases Xoh with ⟨_|_,Xjl⟩
     ·
      exact X9 [] (k:=wkT [] (ih (k+1) hx1 _ _ _ nbS nbF o h C0))
     obtain rfl:=Xjl rfl
     exact X9 [] (k:=wkT [] (ih (k+1) hx1 _ _ _ nbS nbS o h C0))
    clear h;revert h226
    refine brI (fun h220=>?_) fun h220=>?_
    ·
     intro h
     simp only[Option.some.injEq,Prod.mk.injEq] at h
     obtain⟨rfl,rfl⟩:=h
     exact X9 [Bt] (k:=wkT [] (X2.glue (J (nbF,nbS))))
    refine brI (fun h221=>?_) fun h221=>?_
    ·
     refine bI fun u222 h223=>?_
     intro h
     simp only[Option.some.injEq,Prod.mk.injEq] at h
     obtain⟨rfl,rfl⟩:=h
     exact X9 [Bf,Bt,.no] (o:=by repeat' first|apply Ya|exact pcM|(refine X0a h223 rfl ?_;first|(simp;done)|(simp;omega)|(simp[hc,h220,h221];done)|(simp[hc,h220,h221];omega))|(refine Xs h223 (by decide) ?_;first|(simp;done)|(simp;omega)|(simp[hc,h220,h221];done)|(simp[hc,h220,h221];omega))|exact X0k) (k:=wkT [(1,5)] (X2.glue (J (nbF,nbF))))
    refine bI fun u224 h225=>?_
    intro h
    simp only[Option.some.injEq,Prod.mk.injEq] at h
    obtain⟨rfl,rfl⟩:=h
    exact X9 [Bf,Bf,.no] (o:=by repeat' first|apply Ya|exact pcM|(refine X0a h225 rfl ?_;first|(simp;done)|(simp;omega)|(simp[hc,h220,h221];done)|(simp[hc,h220,h221];omega))|(refine Xs h225 (by decide) ?_;first|(simp;done)|(simp;omega)|(simp[hc,h220,h221];done)|(simp[hc,h220,h221];omega))|exact X0k) (k:=wkT [(0,5)] (X2.glue (J (nbF,nbS))))
   clear h;revert h212
   refine brI (fun h211=>?_) fun h211=>?_
   ·
    intro h
    obtain rfl:=oj h
    exact X9 [Bt] (k:=wkT [] (X2.glue J))
   intro h
   obtain rfl:=oj h
   exact X9 [Bf] (k:=wkT [] (X2.glue J))
  obtain rfl:=X1b rfl
  rcases Xl with ⟨_|_,X04⟩
  ·
   refine X2.round ?_
   refine X10 [Bt,.el (Xd x)] ?_
   refine X2.inline Xa X06f rfl rfl rfl rfl rfl trivial trivial rfl rfl ?_
   revert h
   refine bI fun X01x h234=>rnI [] ?_
   intro h
   refine X2.join (s':=⟨fr [(4,(aI .i64 X1t))],hp ([(1,Ob (Xi.map X0) 3),(2,Ob [(aI .i64 X01x)] 1),(3,Ob [(Xd x)] 5)]),4⟩) ?_ (fun J=>X2.cut ?_)
   ·
    refine X10 [] ?_
    refine X2.back (by intro id h;cases h) rfl ?_
    revert h
    refine bI fun w241 h248=>?_
    intro h
    obtain⟨Xup,Xuo⟩:=w241
    try dsimp only at h
    refine X10 [] ?_
    refine X2.joinF (fun(q:Nb Xup×Nb Xuo)=>⟨fr [(2,(slE q.1.1 0 (Xup.map X0))),(3,(slE q.2.1 1 (Xuo.map X0))),(6,(AV.fn 105 [(AV.ptr 2 0 0)])),(16,(Lf (Xf6.map Xd))),(17,(aI .i64 (Xf6.length:Int))),(18,(aI .i64 (k:Int)))],hp ([(2,Ob [(aI .i64 X01x)] 1)]++opE q.1.1 0 3 (Xup.map X0)++opE q.2.1 1 3 (Xuo.map X0)),3⟩) ?_ (fun J=>X2.cut ?_)
    ·
     rintro⟨Xxt,Xog⟩
     rcases Xxt with ⟨_|_,Xyn⟩
     ·
      rcases Xog with ⟨_|_,Xjk⟩
      ·
       exact X9 [] (k:=wkT [] (ih (k+1) hx1 _ _ _ nbF nbF o h C0))
      obtain rfl:=Xjk rfl
      exact X9 [] (k:=wkT [] (ih (k+1) hx1 _ _ _ nbF nbS o h C0))
     obtain rfl:=Xyn rfl
     rcases Xog with ⟨_|_,Xjk⟩
     ·
      exact X9 [] (k:=wkT [] (ih (k+1) hx1 _ _ _ nbS nbF o h C0))
     obtain rfl:=Xjk rfl
     exact X9 [] (k:=wkT [] (ih (k+1) hx1 _ _ _ nbS nbS o h C0))
    clear h;revert h248
    refine brI (fun h242=>?_) fun h242=>?_
    ·
     intro h
     simp only[Option.some.injEq,Prod.mk.injEq] at h
     obtain⟨rfl,rfl⟩:=h
     exact X9 [Bt] (k:=wkT [] (X2.glue (J (nbS,nbF))))
    refine brI (fun h243=>?_) fun h243=>?_
    ·
     refine bI fun u244 h245=>?_
     intro h
     simp only[Option.some.injEq,Prod.mk.injEq] at h
     obtain⟨rfl,rfl⟩:=h
     exact X9 [Bf,Bt,.no] (o:=by repeat' first|apply Ya|exact pcM|(refine X0a h245 rfl ?_;first|(simp;done)|(simp;omega)|(simp[hc,h242,h243];done)|(simp[hc,h242,h243];omega))|(refine Xs h245 (by decide) ?_;first|(simp;done)|(simp;omega)|(simp[hc,h242,h243];done)|(simp[hc,h242,h243];omega))|exact X0k) (k:=wkT [(1,5)] (X2.glue (J (nbS,nbF))))
    refine bI fun u246 h247=>?_
    intro h
    simp only[Option.some.injEq,Prod.mk.injEq] at h
    obtain⟨rfl,rfl⟩:=h
    exact X9 [Bf,Bf,.no] (o:=by repeat' first|apply Ya|exact pcM|(refine X0a h247 rfl ?_;first|(simp;done)|(simp;omega)|(simp[hc,h242,h243];done)|(simp[hc,h242,h243];omega))|(refine Xs h247 (by decide) ?_;first|(simp;done)|(simp;omega)|(simp[hc,h242,h243];done)|(simp[hc,h242,h243];omega))|exact X0k) (k:=wkT [(0,5)] (X2.glue (J (nbF,nbF))))
   clear h;revert h234
   refine brI (fun h233=>?_) fun h233=>?_
   ·
    intro h
    obtain rfl:=oj h
    exact X9 [Bt] (k:=wkT [] (X2.glue J))
   intro h
   obtain rfl:=oj h
   exact X9 [Bf] (k:=wkT [] (X2.glue J))
  obtain rfl:=X04 rfl
  refine X2.round ?_
  refine X10 [Bt,.el (Xd x)] ?_
  refine X2.inline Xa X06f rfl rfl rfl rfl rfl trivial trivial rfl rfl ?_
  revert h
  refine bI fun X01t h256=>rnI [] ?_
  intro h
  refine X2.join (s':=⟨fr [(4,(aI .i64 X1t))],hp ([(2,Ob [(aI .i64 X01t)] 1),(3,Ob [(Xd x)] 5)]),4⟩) ?_ (fun J=>X2.cut ?_)
  ·
   refine X10 [] ?_
   refine X2.back (by intro id h;cases h) rfl ?_
   revert h
   refine bI fun w263 h270=>?_
   intro h
   obtain⟨Xun,Xum⟩:=w263
   try dsimp only at h
   refine X10 [] ?_
   refine X2.joinF (fun(q:Nb Xun×Nb Xum)=>⟨fr [(2,(slE q.1.1 0 (Xun.map X0))),(3,(slE q.2.1 1 (Xum.map X0))),(6,(AV.fn 105 [(AV.ptr 2 0 0)])),(16,(Lf (Xf6.map Xd))),(17,(aI .i64 (Xf6.length:Int))),(18,(aI .i64 (k:Int)))],hp ([(2,Ob [(aI .i64 X01t)] 1)]++opE q.1.1 0 3 (Xun.map X0)++opE q.2.1 1 3 (Xum.map X0)),3⟩) ?_ (fun J=>X2.cut ?_)
   ·
    rintro⟨Xxs,Xof⟩
    rcases Xxs with ⟨_|_,Xym⟩
    ·
     rcases Xof with ⟨_|_,Xjj⟩
     ·
      exact X9 [] (k:=wkT [] (ih (k+1) hx1 _ _ _ nbF nbF o h C0))
     obtain rfl:=Xjj rfl
     exact X9 [] (k:=wkT [] (ih (k+1) hx1 _ _ _ nbF nbS o h C0))
    obtain rfl:=Xym rfl
    rcases Xof with ⟨_|_,Xjj⟩
    ·
     exact X9 [] (k:=wkT [] (ih (k+1) hx1 _ _ _ nbS nbF o h C0))
    obtain rfl:=Xjj rfl
    exact X9 [] (k:=wkT [] (ih (k+1) hx1 _ _ _ nbS nbS o h C0))
   clear h;revert h270
   refine brI (fun h264=>?_) fun h264=>?_
   ·
    intro h
    simp only[Option.some.injEq,Prod.mk.injEq] at h
    obtain⟨rfl,rfl⟩:=h
    exact X9 [Bt] (k:=wkT [] (X2.glue (J (nbS,nbS))))
   refine brI (fun h265=>?_) fun h265=>?_
   ·
    refine bI fun u266 h267=>?_
    intro h
    simp only[Option.some.injEq,Prod.mk.injEq] at h
    obtain⟨rfl,rfl⟩:=h
    exact X9 [Bf,Bt,.no] (o:=by repeat' first|apply Ya|exact pcM|(refine X0a h267 rfl ?_;first|(simp;done)|(simp;omega)|(simp[hc,h264,h265];done)|(simp[hc,h264,h265];omega))|(refine Xs h267 (by decide) ?_;first|(simp;done)|(simp;omega)|(simp[hc,h264,h265];done)|(simp[hc,h264,h265];omega))|exact X0k) (k:=wkT [(1,5)] (X2.glue (J (nbS,nbF))))
   refine bI fun u268 h269=>?_
   intro h
   simp only[Option.some.injEq,Prod.mk.injEq] at h
   obtain⟨rfl,rfl⟩:=h
   exact X9 [Bf,Bf,.no] (o:=by repeat' first|apply Ya|exact pcM|(refine X0a h269 rfl ?_;first|(simp;done)|(simp;omega)|(simp[hc,h264,h265];done)|(simp[hc,h264,h265];omega))|(refine Xs h269 (by decide) ?_;first|(simp;done)|(simp;omega)|(simp[hc,h264,h265];done)|(simp[hc,h264,h265];omega))|exact X0k) (k:=wkT [(0,5)] (X2.glue (J (nbF,nbS))))
  clear h;revert h256
  refine brI (fun h255=>?_) fun h255=>?_
  ·
   intro h
   obtain rfl:=oj h
   exact X9 [Bt] (k:=wkT [] (X2.glue J))
  intro h
  obtain rfl:=oj h
  exact X9 [Bf] (k:=wkT [] (X2.glue J))
instance X05n:PCs Tryz.prog 49 (∀ (a0:(List Xk)) (r:(List X7)×(List X7)×Int),Xdm a0=some r->X0g Tryz.prog 49 [(Lf (a0.map Xd))] (AV.tup [(AV.list true (r.1.map X0)),(AV.list true (r.2.1.map X0)),(aI .i64 r.2.2)])):=⟨fun a0 r h=>by
 refine X0g.sym Xa fn49 (nt:=47) rfl rfl ?_ okM
 unfold Xdm at h
 revert h
 refine bI fun v1 h2=>brI (fun h3=>fun e=>oj e▸X9 [.pure _ (aI .i64 v1),Bt] (k:=fi)) fun h3=>rnI [.pure _ (aI .i64 v1),Bf] ?_
 intro h
 refine X2.inline Xa fn71 rfl rfl rfl rfl rfl trivial trivial rfl rfl ?_
 refine X10 [] ?_
 refine X2.back (by intro id h;cases h) rfl ?_
 revert h
 refine bI fun u4 h5=>?_
 have qh5:=X08 h5
 refine bI fun o271 h272=>rnI [.el (aI .i64 (a0.length:Int))] ?_
 intro h
 refine wkT [(2,0)] (X2.cut (Xkp a0 qh5 a0 0 (by simp) _ _ _ nbS nbS _ h272 ?_))
 intro Xe X0s Xj X0v eo271;subst eo271
 refine X2.glue ?_
 try dsimp only at h
 rcases Xj with ⟨_|_,X0n⟩
 ·
  rcases X0v with ⟨_|_,X33⟩
  ·
   revert h
   exact fun e=>oj e▸X9 [] (k:=fi)
  obtain rfl:=X33 rfl
  revert h
  exact fun e=>oj e▸X9 [] (k:=fi)
 obtain rfl:=X0n rfl
 rcases X0v with ⟨_|_,X33⟩
 ·
  revert h
  exact fun e=>oj e▸X9 [] (k:=fi)
 obtain rfl:=X33 rfl
 revert h
 exact fun e=>oj e▸X9 [] (k:=fi)⟩
instance X04o:PCs Tryz.prog 96 (∀ (a0:(List X05)) (r:Int),Xc0 a0=some r->X0g Tryz.prog 96 [(Lf (a0.map X4))] (aI .i64 r)):=⟨fun a0 r h=>by
 refine X0g.sym Xa fn96 (nt:=13) rfl rfl ?_ okM
 unfold Xc0 at h
 revert h
 exact bI fun v1 h2=>fun e=>oj e▸X9 [.pure _ (AV.tup [(aB v1.1),(aI .i64 v1.2.1),(aI .i64 v1.2.2)])] (k:=fi)⟩
instance X067:PCs Tryz.prog 131 (∀ (a0:Bool) (r:Int),X4e a0=some r->X0g Tryz.prog 131 [(aB a0)] (aI .i64 r)):=⟨fun a0 r h=>by
 refine X0g.sym Xa X0e3 (nt:=4) rfl rfl ?_ okM
 unfold X4e at h
 revert h
 exact brI (fun h1=>fun e=>oj e▸X9 [Bt] (k:=fi)) fun h1=>fun e=>oj e▸X9 [Bf] (k:=fi)⟩
instance Xol:PCs Tryz.prog 97 (∀ (a0:Int) (a1:Int) (a2:Int) (r:Int×Int),Xfn a0 a1 a2=some r->X0g Tryz.prog 97 [(aI .u8 a0),(aI .i64 a1),(aI .i64 a2)] (AV.tup [(aI .i64 r.1),(aI .i64 r.2)])):=⟨fun a0 a1 a2 r h=>by
 refine X0g.sym Xa fn97 (nt:=97) rfl rfl ?_ okM
 unfold Xfn at h
 revert h
 refine brI (fun h1=>fun e=>oj e▸X9 [Bt,.wrap] (k:=fi)) fun h1=>brI (fun h2=>bI fun v3 h4=>fun e=>oj e▸X9 [Bf,Bt,.pure _ (aI .i64 v3)] (k:=fi)) fun h2=>brI (fun h5=>fun e=>oj e▸X9 [Bf,Bf,Bt,.wrap] (k:=fi)) fun h5=>brI (fun h6=>fun e=>oj e▸X9 [Bf,Bf,Bf,Bt,.wrap] (k:=fi)) fun h6=>brI (fun h7=>fun e=>oj e▸X9 [Bf,Bf,Bf,Bf,Bt,.wrap] (k:=fi)) fun h7=>brI (fun h8=>bI fun u9 h10=>fun e=>oj e▸X9 [Bf,Bf,Bf,Bf,Bf,Bt,.wrap] (k:=fi)) fun h8=>brI (fun h11=>bI fun u12 h13=>fun e=>oj e▸X9 [Bf,Bf,Bf,Bf,Bf,Bf,Bt] (k:=fi)) fun h11=>brI (fun h14=>bI fun v15 h16=>fun e=>oj e▸X9 [Bf,Bf,Bf,Bf,Bf,Bf,Bf,Bt,.pure _ (aI .i64 v15)] (k:=fi)) fun h14=>brI (fun h17=>bI fun v18 h19=>fun e=>oj e▸X9 [Bf,Bf,Bf,Bf,Bf,Bf,Bf,Bf,Bt,.pure _ (aI .i64 v18)] (k:=fi)) fun h17=>brI (fun h20=>bI fun v21 h22=>fun e=>oj e▸X9 [Bf,Bf,Bf,Bf,Bf,Bf,Bf,Bf,Bf,Bt,.pure _ (aI .i64 v21)] (k:=fi)) fun h20=>brI (fun h23=>bI fun v24 h25=>fun e=>oj e▸X9 [Bf,Bf,Bf,Bf,Bf,Bf,Bf,Bf,Bf,Bf,Bt,.pure _ (aI .i64 v24)] (k:=fi)) fun h23=>brI (fun h26=>bI fun v27 h28=>fun e=>oj e▸X9 [Bf,Bf,Bf,Bf,Bf,Bf,Bf,Bf,Bf,Bf,Bf,Bt,.pure _ (aI .i64 v27)] (k:=fi)) fun h26=>brI (fun h29=>bI fun v30 h31=>fun e=>oj e▸X9 [Bf,Bf,Bf,Bf,Bf,Bf,Bf,Bf,Bf,Bf,Bf,Bf,Bt,.pure _ (aI .i64 v30)] (k:=fi)) fun h29=>brI (fun h32=>bI fun v33 h34=>fun e=>oj e▸X9 [Bf,Bf,Bf,Bf,Bf,Bf,Bf,Bf,Bf,Bf,Bf,Bf,Bf,Bt,.pure _ (aI .i64 v33)] (k:=fi)) fun h32=>rnI [Bf,Bf,Bf,Bf,Bf,Bf,Bf,Bf,Bf,Bf,Bf,Bf,Bf,Bf] ?_
 exact brI (fun h35=>bI fun v36 h37=>fun e=>oj e▸X9 [Bt,.pure _ (aI .i64 v36)] (k:=fi)) fun h35=>fun e=>oj e▸X9 [Bf] (k:=fi)⟩
end Go.Av.Tryz