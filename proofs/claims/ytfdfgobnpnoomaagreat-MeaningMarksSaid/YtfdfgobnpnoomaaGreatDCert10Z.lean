/- Printed by decomp.py: that the program computes the functions. -/
import Derived.Test.YtfdfgobnpnoomaaGreatDCert9Z
set_option linter.all false

namespace Go.Av.Tryz
open Go.Proofs Go.D
set_option maxRecDepth 10000
set_option maxHeartbeats 40000000
theorem Xie {Q:X07->St->Mu->Prop} {μ:Mu} (Xkr:(List Xb)) (hl:Xkr.length<=140737488355328):∀ (xs:List Xb) (k:Nat) (hx:Xkr.drop k=xs) (Xs:Int) (o:Xau) (h:X5y Xkr xs k Xs=some o)
  (C0:∀ (X02:Int),o=Xau.x0 X02->X3 Tryz.prog 27 0 Q (.exit (.exit 0)) [] ⟨fr [(5,(AV.fn 105 [(AV.ptr 0 0 0)]))],hp ([(0,Ob [(aI .i64 X02)] 1)]),1⟩ μ),
  X3 Tryz.prog 27 0 Q (.loop (X4t 0 (Xu Tryz.f45))) [] ⟨fr [(5,(AV.fn 105 [(AV.ptr 0 0 0)])),(14,(Lf (Xkr.map X0))),(15,(aI .i64 (Xkr.length:Int))),(16,(aI .i64 (k:Int)))],hp ([(0,Ob [(aI .i64 Xs)] 1)]),1⟩ μ:=by
 intro xs
 induction xs with
 |nil =>
  intro k hx Xs o h C0
  have hk:=X1e hx
  have hc:decide ((k:Int)<(Xkr.length:Int))=false:=Yf (by omega)
  rw[X5y] at h
  refine X3.round ?_
  revert h
  exact fun e=>Xc [Bf] (k:=wkT [] (C0 _  (oj e).symm))
 |cons x xs ih =>
  intro k hx Xs o h C0
  obtain⟨hk,hg,hx1⟩:=X0t hx
  have hc:decide ((k:Int)<(Xkr.length:Int))=true:=Yt (by omega)
  rw[X5y] at h
  refine X3.round ?_
  refine X0l [Bt,.el (X0 x)] ?_
  refine X3.inline Xh Xug rfl rfl rfl rfl rfl trivial trivial rfl rfl ?_
  revert h
  refine bI fun Xwt h30=>rnI [] ?_
  intro h
  refine X3.join (s':=⟨fr [(4,(aI .i64 Xs))],hp ([(0,Ob [(aI .i64 Xwt)] 1)]),2⟩) ?_ (fun J=>X3.cut ?_)
  ·
   refine X0l [] ?_
   refine X3.back (by intro id h;cases h) rfl ?_
   exact Xc [] (k:=wkT [] (ih (k+1) hx1 _ o h C0))
  clear h;revert h30
  refine brI (fun h29=>?_) fun h29=>?_
  ·
   intro h
   obtain rfl:=oj h
   exact Xc [Bt] (k:=wkT [] (X3.glue J))
  intro h
  obtain rfl:=oj h
  exact Xc [Bf] (k:=wkT [] (X3.glue J))
instance X01p:PCs Tryz.prog 45 (∀ (a0:(List Xb)) (r:Int×Int),Xd1 a0=some r->X11 Tryz.prog 45 [(Lf (a0.map X0))] (AV.tup [(aI .i64 r.1),(aI .i64 r.2)])):=⟨fun a0 r h=>by
 refine X11.sym Xh fn45 (nt:=27) rfl rfl ?_ okM
 unfold Xd1 at h
 revert h
 refine bI fun v1 h2=>brI (fun h3=>fun e=>oj e▸Xc [.pure _ (aI .i64 v1),Bt] (k:=fi)) fun h3=>rnI [.pure _ (aI .i64 v1),Bf] ?_
 intro h
 refine X3.inline Xh fn71 rfl rfl rfl rfl rfl trivial trivial rfl rfl ?_
 refine X0l [] ?_
 refine X3.back (by intro id h;cases h) rfl ?_
 revert h
 refine bI fun u4 h5=>?_
 have qh5:=X0u h5
 refine bI fun o31 h32=>rnI [.el (aI .i64 (a0.length:Int))] ?_
 intro h
 refine wkT [] (X3.cut (Xie a0 qh5 a0 0 (by simp) _ _ h32 ?_))
 intro X02 eo31;subst eo31
 refine X3.glue ?_
 try dsimp only at h
 refine X0l [] ?_
 refine X3.inline Xh Xug rfl rfl rfl rfl rfl trivial trivial rfl rfl ?_
 refine X0l [Bf] ?_
 refine X3.back (by intro id h;cases h) rfl ?_
 revert h
 exact fun e=>oj e▸Xc [] (k:=fi)⟩
theorem Xed {Q:X07->St->Mu->Prop} {μ:Mu} (Xkq:(List (List Xb))) (hl:Xkq.length<=140737488355328):∀ (xs:List (List Xb)) (k:Nat) (hx:Xkq.drop k=xs) (Xob:Int) (o:X5l) (h:X36 Xkq xs k Xob=some o)
  (C0:∀ (Xa8:Int),o=X5l.x0 Xa8->X3 Tryz.prog 42 0 Q (.exit (.exit 0)) [] ⟨fr [(5,(aI .i64 Xa8))],hp ([]),0⟩ μ)
  (C1:∀ (Xaz:Int),o=X5l.x1 Xaz->X3 Tryz.prog 42 0 Q (.exit .ret) [] ⟨fr [(2,(aI .i64 0)),(3,(aI .i64 Xaz))],hp ([]),0⟩ μ),
  X3 Tryz.prog 42 0 Q (.loop (X4t 0 (Xu Tryz.f17))) [] ⟨fr [(5,(aI .i64 Xob)),(23,(Lf (List.map (X0e false X0) Xkq))),(24,(aI .i64 (Xkq.length:Int))),(25,(aI .i64 (k:Int)))],hp ([]),0⟩ μ:=by
 intro xs
 induction xs with
 |nil =>
  intro k hx Xob o h C0 C1
  have hk:=X1e hx
  have hc:decide ((k:Int)<(Xkq.length:Int))=false:=Yf (by omega)
  rw[X36] at h
  refine X3.round ?_
  revert h
  exact fun e=>Xc [Bf] (k:=wkT [] (C0 _  (oj e).symm))
 |cons x xs ih =>
  intro k hx Xob o h C0 C1
  obtain⟨hk,hg,hx1⟩:=X0t hx
  have hc:decide ((k:Int)<(Xkq.length:Int))=true:=Yt (by omega)
  rw[X36] at h
  refine X3.round ?_
  revert h
  refine bI fun v18 h19=>brI (fun h20=>fun e=>Xc [Bt,.el (X0e false X0 x),.pure _ (AV.tup [(aI .i64 v18.1),(aI .i64 v18.2)]),Bt] (k:=wkT [] (C1 _  (oj e).symm))) fun h20=>rnI [Bt,.el (X0e false X0 x),.pure _ (AV.tup [(aI .i64 v18.1),(aI .i64 v18.2)]),Bf] ?_
  intro h
  exact wkT [] (ih (k+1) hx1 _ o h C0 C1)
instance Xux:PCs Tryz.prog 17 (∀ (a0:(List (List Xb))) (r:Int×Int),X65 a0=some r->X11 Tryz.prog 17 [(Lf (List.map (X0e false X0) a0))] (AV.tup [(aI .i64 r.1),(aI .i64 r.2)])):=⟨fun a0 r h=>by
 refine X11.sym Xh fn17 (nt:=42) rfl rfl ?_ okM
 unfold X65 at h
 revert h
 refine bI fun X03r h4=>rnI [.stop 1] ?_
 intro h
 refine X3.join (s':=⟨fr [(0,(Lf (List.map (X0e false X0) a0))),(17,(aB X03r))],hp ([]),0⟩) ?_ (fun J=>X3.cut ?_)
 ·
  revert h
  refine brI (fun h5=>fun e=>oj e▸Xc [Bt] (k:=fi)) fun h5=>bI fun v6 h7=>brI (fun h8=>fun e=>oj e▸Xc [Bf,.pure _ (aI .i64 v6),Bt] (k:=fi)) fun h8=>bI fun u9 h10=>?_
  have qh10:=X0u h10
  refine bI fun o21 h22=>rnI [Bf,.pure _ (aI .i64 v6),Bf,.el (aI .i64 (a0.length:Int))] ?_
  intro h
  refine wkT [] (X3.cut (Xed a0 qh10 a0 0 (by simp) _ _ h22 ?_ ?_))
  ·
   intro Xa8 eo21;subst eo21
   refine X3.glue ?_
   try dsimp only at h
   revert h
   exact fun e=>oj e▸Xc [] (k:=fi)
  intro Xaz eo21;subst eo21
  refine X3.glue ?_
  try dsimp only at h
  revert h
  exact fun e=>oj e▸Xc [] (k:=fi)
 clear h;revert h4
 refine brI (fun h3=>?_) fun h3=>?_
 ·
  intro h
  obtain rfl:=oj h
  exact Xc [.el (aI .i64 (a0.length:Int)),.go false,.go false,.go false] (k:=wkT [] (X3.glue J))
 intro h
 obtain rfl:=oj h
 exact Xc [.el (aI .i64 (a0.length:Int)),.go true,.go true,.el (aI .i64 (a0.length:Int)),.go true] (k:=wkT [] (X3.glue J))⟩
theorem Xcy {Q:X07->St->Mu->Prop} {μ:Mu} (Xe7:(List Xm)) (X4j:Int) (Xff:(List X2u)) (hl:Xff.length<=140737488355328):∀ (xs:List X2u) (k:Nat) (hx:Xff.drop k=xs) (Xs:(List X2u)) (X1c:Nb Xs) (o:X6c) (h:X1z Xe7 X4j Xff xs k Xs=some o)
  (C0:∀ (X02:(List X2u)) (X0i:Nb X02),o=X6c.x0 X02->X3 Tryz.prog 50 0 Q (.exit (.exit 0)) [] ⟨fr [(8,(AV.list true (Xe7.map X7))),(11,(slE X0i.1 0 (X02.map Xg)))],hp ([]++opE X0i.1 0 5 (X02.map Xg)),1⟩ μ),
  X3 Tryz.prog 50 0 Q (.loop (X4t 0 (Xu Tryz.f21))) [] ⟨fr [(8,(AV.list true (Xe7.map X7))),(10,(aI .i64 X4j)),(11,(slE X1c.1 0 (Xs.map Xg))),(32,(AV.list true (Xff.map Xg))),(33,(aI .i64 (Xff.length:Int))),(34,(aI .i64 (k:Int)))],hp ([]++opE X1c.1 0 5 (Xs.map Xg)),1⟩ μ:=by
 intro xs
 induction xs with
 |nil =>
  intro k hx Xs X1c o h C0
  have hk:=X1e hx
  have hc:decide ((k:Int)<(Xff.length:Int))=false:=Yf (by omega)
  rw[X1z] at h
  rcases X1c with ⟨_|_,X45⟩
  ·
   refine X3.round ?_
   revert h
   exact fun e=>Xc [Bf] (k:=wkT [] (C0 _  nbF (oj e).symm))
  ·
   obtain rfl:=X45 rfl
   refine X3.round ?_
   revert h
   exact fun e=>Xc [Bf] (k:=wkT [] (C0 _  nbS (oj e).symm))
 |cons x xs ih =>
  intro k hx Xs X1c o h C0
  obtain⟨hk,hg,hx1⟩:=X0t hx
  have hc:decide ((k:Int)<(Xff.length:Int))=true:=Yt (by omega)
  rw[X1z] at h
  rcases X1c with ⟨_|_,X45⟩
  ·
   refine X3.round ?_
   revert h
   refine bI fun Xnf h49=>rnI [Bt,.el (Xg x)] ?_
   intro h
   refine X3.joinF (fun(q:Nb Xnf)=>⟨fr [(8,(AV.list true (Xe7.map X7))),(10,(aI .i64 X4j)),(11,(slE q.1 0 (Xnf.map Xg))),(32,(AV.list true (Xff.map Xg))),(33,(aI .i64 (Xff.length:Int))),(34,(aI .i64 (k:Int)))],hp ([]++opE q.1 0 5 (Xnf.map Xg)),1⟩) ?_ (fun J=>X3.cut ?_)
   ·
    rintro Xw1
    rcases Xw1 with ⟨_|_,Xx9⟩
    ·
     exact Xc [] (k:=wkT [] (ih (k+1) hx1 _ nbF o h C0))
    obtain rfl:=Xx9 rfl
    exact Xc [] (k:=wkT [] (ih (k+1) hx1 _ nbS o h C0))
   clear h;revert h49
   refine brI (fun h46=>?_) fun h46=>?_
   ·
    refine bI fun u47 h48=>?_
    intro h
    obtain rfl:=oj h
    exact Xc [Bt,.no] (o:=by repeat' first|apply Ya|exact pcM|(refine X8 h48 rfl ?_;first|(simp;done)|(simp;omega)|(simp[hc,h46];done)|(simp[hc,h46];omega))|(refine X2 h48 (by decide) ?_;first|(simp;done)|(simp;omega)|(simp[hc,h46];done)|(simp[hc,h46];omega))|exact Xw) (k:=wkT [(0,3)] (X3.glue (J nbF)))
   intro h
   obtain rfl:=oj h
   exact Xc [Bf] (k:=wkT [] (X3.glue (J nbF)))
  obtain rfl:=X45 rfl
  refine X3.round ?_
  revert h
  refine bI fun Xwj h57=>rnI [Bt,.el (Xg x)] ?_
  intro h
  refine X3.joinF (fun(q:Nb Xwj)=>⟨fr [(8,(AV.list true (Xe7.map X7))),(10,(aI .i64 X4j)),(11,(slE q.1 0 (Xwj.map Xg))),(32,(AV.list true (Xff.map Xg))),(33,(aI .i64 (Xff.length:Int))),(34,(aI .i64 (k:Int)))],hp ([]++opE q.1 0 5 (Xwj.map Xg)),1⟩) ?_ (fun J=>X3.cut ?_)
  ·
   rintro Xvz
   rcases Xvz with ⟨_|_,Xx7⟩
   ·
    exact Xc [] (k:=wkT [] (ih (k+1) hx1 _ nbF o h C0))
   obtain rfl:=Xx7 rfl
   exact Xc [] (k:=wkT [] (ih (k+1) hx1 _ nbS o h C0))
  clear h;revert h57
  refine brI (fun h54=>?_) fun h54=>?_
  ·
   refine bI fun u55 h56=>?_
   intro h
   obtain rfl:=oj h
   exact Xc [Bt,.no] (o:=by repeat' first|apply Ya|exact pcM|(refine X8 h56 rfl ?_;first|(simp;done)|(simp;omega)|(simp[hc,h54];done)|(simp[hc,h54];omega))|(refine X2 h56 (by decide) ?_;first|(simp;done)|(simp;omega)|(simp[hc,h54];done)|(simp[hc,h54];omega))|exact Xw) (k:=wkT [(0,3)] (X3.glue (J nbF)))
  intro h
  obtain rfl:=oj h
  exact Xc [Bf] (k:=wkT [] (X3.glue (J nbS)))
instance Xs0:PCs Tryz.prog 21 (∀ (a0:X03) (a1:(List (List Xb))) (r:(List X2u)×(List Xm)×Int),X2x a0 a1=some r->X11 Tryz.prog 21 [(Xl false a0),(Lf (List.map (X0e false X0) a1))] (AV.tup [(AV.list true (r.1.map Xg)),(AV.list true (r.2.1.map X7)),(aI .i64 r.2.2)])):=⟨fun a0 a1 r h=>by
 refine X11.sym Xh fn21 (nt:=50) rfl rfl ?_ okM
 unfold X2x at h
 revert h
 refine bI fun v1 h2=>brI (fun h3=>fun e=>oj e▸Xc [.pure _ (AV.tup [(AV.list true (v1.1.map Xg)),(AV.list true (v1.2.1.map X7)),(aI .i64 v1.2.2)]),Bt] (k:=fi)) fun h3=>bI fun v4 h5=>rnI [.pure _ (AV.tup [(AV.list true (v1.1.map Xg)),(AV.list true (v1.2.1.map X7)),(aI .i64 v1.2.2)]),Bf,.pure _ (AV.tup [(aI .i64 v4.1),(aI .i64 v4.2)])] ?_
 refine brI (fun h6=>fun e=>oj e▸Xc [Bt] (k:=fi)) fun h6=>bI fun u7 h8=>?_
 have qh8:=X0u h8
 refine bI fun o58 h59=>rnI [Bf,.el (aI .i64 (v1.1.length:Int))] ?_
 intro h
 refine wkT [] (X3.cut (Xcy v1.2.1 v4.1 v1.1 qh8 v1.1 0 (by simp) _ nbS _ h59 ?_))
 intro X02 X0i eo58;subst eo58
 refine X3.glue ?_
 try dsimp only at h
 rcases X0i with ⟨_|_,X2q⟩
 ·
  revert h
  exact fun e=>oj e▸Xc [] (k:=fi)
 obtain rfl:=X2q rfl
 revert h
 exact fun e=>oj e▸Xc [] (k:=fi)⟩
instance X01m:PCs Tryz.prog 30 (∀ (a0:Int) (a1:Int) (a2:Int) (r:X2u),Xez a0 a1 a2=some r->X11 Tryz.prog 30 [(aI .i64 a0),(aI .i64 a1),(aI .i64 a2)] (Xg r)):=⟨fun a0 a1 a2 r h=>by
 refine X11.sym Xh fn30 (nt:=13) rfl rfl ?_ okM
 unfold Xez at h
 revert h
 exact fun e=>oj e▸Xc [] (k:=fi)⟩
theorem Xgy {Q:X07->St->Mu->Prop} {μ:Mu} (X0y:(List X2u)) (Xel:(List X2u)) (hl:X0y.length<=140737488355328):∀ (xs:List X2u) (k:Nat) (hx:X0y.drop k=xs) (o:X7d) (h:X4x X0y Xel xs k  = some o)
  (C0:o=X7d.x0->X3 Tryz.prog 26 0 Q (.exit (.exit 0)) [] ⟨fr [],hp ([]),0⟩ μ)
  (C1:o=X7d.x1->X3 Tryz.prog 26 0 Q (.exit .ret) [] ⟨fr [(4,(aB false))],hp ([]),0⟩ μ),
  X3 Tryz.prog 26 0 Q (.loop (X4t 0 (Xu Tryz.f23))) [] ⟨fr [(0,(Lf (X0y.map Xg))),(1,(Lf (Xel.map Xg))),(5,(aI .i64 (k:Int)))],hp ([]),0⟩ μ:=by
 intro xs
 induction xs with
 |nil =>
  intro k hx  o h C0 C1
  have hk:=X1e hx
  have hc:decide ((k:Int)<(X0y.length:Int))=false:=Yf (by omega)
  rw[X4x] at h
  refine X3.round ?_
  revert h
  exact fun e=>Xc [.el (aI .i64 (X0y.length:Int)),Bf] (k:=wkT [] (C0  (oj e).symm))
 |cons x xs ih =>
  intro k hx  o h C0 C1
  obtain⟨hk,hg,hx1⟩:=X0t hx
  have hc:decide ((k:Int)<(X0y.length:Int))=true:=Yt (by omega)
  rw[X4x] at h
  refine X3.round ?_
  revert h
  refine bI fun e11 h12=>?_
  try have qh12:=Xn h12
  refine brI (fun h13=>fun e=>Xc [.el (aI .i64 (X0y.length:Int)),Bt,.el (Xg x),.el (Xg e11),Bt] (k:=wkT [] (C1  (oj e).symm))) fun h13=>rnI [.el (aI .i64 (X0y.length:Int)),Bt,.el (Xg x),.el (Xg e11),Bf] ?_
  intro h
  exact wkT [] (ih (k+1) hx1  o h C0 C1)
instance Xzm:PCs Tryz.prog 23 (∀ (a0:(List X2u)) (a1:(List X2u)) (r:Bool),X64 a0 a1=some r->X11 Tryz.prog 23 [(Lf (a0.map Xg)),(Lf (a1.map Xg))] (aB r)):=⟨fun a0 a1 r h=>by
 refine X11.sym Xh fn23 (nt:=26) rfl rfl ?_ okM
 unfold X64 at h
 revert h
 refine brI (fun h1=>fun e=>oj e▸Xc [.el (aI .i64 (a0.length:Int)),.el (aI .i64 (a1.length:Int)),Bt] (k:=fi)) fun h1=>bI fun u2 h3=>?_
 have qh3:=X0u h3
 refine bI fun o14 h15=>rnI [.el (aI .i64 (a0.length:Int)),.el (aI .i64 (a1.length:Int)),Bf] ?_
 intro h
 refine wkT [] (X3.cut (Xgy a0 a1 qh3 a0 0 (by simp) _ h15 ?_ ?_))
 ·
  intro eo14;subst eo14
  refine X3.glue ?_
  try dsimp only at h
  revert h
  exact fun e=>oj e▸Xc [] (k:=fi)
 intro eo14;subst eo14
 refine X3.glue ?_
 try dsimp only at h
 revert h
 exact fun e=>oj e▸Xc [] (k:=fi)⟩
instance Xz7:PCs Tryz.prog 29 (∀ (r:Bool),X9z=some r->X11 Tryz.prog 29 [] (aB r)):=⟨fun r h=>by
 refine X11.sym Xh fn29 (nt:=59) rfl rfl ?_ okM
 unfold X9z at h
 revert h
 refine bI fun v1 h2=>bI fun v3 h4=>bI fun v5 h6=>bI fun v7 h8=>bI fun v9 h10=>bI fun v11 h12=>bI fun v13 h14=>bI fun X03q h50=>rnI [.pure _ (X0 v1),.pure _ (X0 v3),.pure _ (X0 v5),.pure _ (X0 v7),.pure _ (Xl true v9),.pure _ (AV.tup [(AV.list true (v11.1.map Xg)),(AV.list true (v11.2.1.map X7)),(aI .i64 v11.2.2)]),.pure _ (Xl true v9),.pure _ (AV.tup [(AV.list true (v13.1.map Xg)),(AV.list true (v13.2.1.map X7)),(aI .i64 v13.2.2)]),.stop 4] ?_
 intro h
 refine X3.join (s':=⟨fr [(0,(aB X03q))],hp ([]),0⟩) ?_ (fun J=>X3.cut ?_)
 ·
  revert h
  exact fun e=>oj e▸Xc [] (k:=fi)
 clear h;revert h50
 refine brI (fun h33=>?_) fun h33=>?_
 ·
  refine bI fun v34 h35=>bI fun v36 h37=>bI fun v38 h39=>brI (fun h40=>?_) fun h40=>?_
  ·
   refine rnI [.go true,.go true,.pure _ (Xg v34),.go true,.pure _ (Xg v36),.go true,.go true,.pure _ (aB v38),.go true,.go true,.el (aI .i64 (v11.2.1.length:Int)),.go true,.stop 999999] (o:=by repeat' first|apply Ya|exact pcM|exact((X5 h33 h40))|exact(Xk (X5 h33 h40))|exact(X7r (X5 h33 h40))|exact Xw) ?_
   refine brI (fun h41=>?_) fun h41=>?_
   ·
    refine bI fun e42 h43=>?_
    try have qh43:=Xn h43
    refine brI (fun h44=>?_) fun h44=>?_
    ·
     refine brI (fun h45=>?_) fun h45=>?_
     ·
      refine bI fun m46 h47=>?_
      obtain⟨qah47,qbh47,qch47,qh47⟩:=X37 h47
      have qlh47:=X70 h47
      refine bI fun v48 h49=>?_
      intro h
      obtain rfl:=oj h
      exact Xc [.go true,.go true,.el (X7 e42),.go true,.go true,.go true,.go true,.go true,.go true,.go true,.go true,.via (AV.list true (m46.map Xg)),.go true,.pure _ (aB v48)] (o:=by repeat' first|apply Ya|exact pcM|exact((X5 (X5 h33 h40) h41))|exact(Xk (X5 (X5 h33 h40) h41))|exact(X7r (X5 (X5 h33 h40) h41))|exact((X5 (X5 (X5 h33 h40) h41) h44))|exact(Xk (X5 (X5 (X5 h33 h40) h41) h44))|exact(X7r (X5 (X5 (X5 h33 h40) h41) h44))|exact((X5 (X5 (X5 (X5 h33 h40) h41) h44) h45))|exact(Xk (X5 (X5 (X5 (X5 h33 h40) h41) h44) h45))|(simp at qah47 qbh47 qch47 ⊢;omega)|(rw[qh47];simp[Ym,Yd];done)|exact(X7r (X5 (X5 (X5 (X5 h33 h40) h41) h44) h45))|exact Xw) (k:=wkT [] (X3.glue J))
     intro h
     obtain rfl:=oj h
     exact Xc [.go true,.go true,.el (X7 e42),.go true,.go true,.go true,.go true,.go true,.go false,.go false,.go false,.go false] (o:=by repeat' first|apply Ya|exact pcM|exact((X5 (X5 h33 h40) h41))|exact(Xk (X5 (X5 h33 h40) h41))|exact(X7r (X5 (X5 h33 h40) h41))|exact((X5 (X5 (X5 h33 h40) h41) h44))|exact(Xk (X5 (X5 (X5 h33 h40) h41) h44))|exact(X7r (X5 (X5 (X5 h33 h40) h41) h44))|exact((X5 (X5 (X5 (X5 h33 h40) h41) h44) h45))|exact(Xk (X5 (X5 (X5 (X5 h33 h40) h41) h44) h45))|exact(X3f (X5 (X5 (X5 (X5 h33 h40) h41) h44) h45))|exact Xw) (k:=wkT [] (X3.glue J))
    intro h
    obtain rfl:=oj h
    exact Xc [.go true,.go true,.el (X7 e42),.go true,.go true,.go true,.go false,.go false,.go false,.go false,.go false,.go false] (o:=by repeat' first|apply Ya|exact pcM|exact((X5 (X5 h33 h40) h41))|exact(Xk (X5 (X5 h33 h40) h41))|exact(X7r (X5 (X5 h33 h40) h41))|exact((X5 (X5 (X5 h33 h40) h41) h44))|exact(Xk (X5 (X5 (X5 h33 h40) h41) h44))|exact(X3f (X5 (X5 (X5 h33 h40) h41) h44))|exact((Xf (X5 (X5 (X5 h33 h40) h41) h44) rfl))|exact(Xk (Xf (X5 (X5 (X5 h33 h40) h41) h44) rfl))|exact(X3f (Xf (X5 (X5 (X5 h33 h40) h41) h44) rfl))|exact Xw) (k:=wkT [] (X3.glue J))
   intro h
   obtain rfl:=oj h
   exact Xc [.go false,.go false,.go false,.go false,.go false,.go false,.go false,.go false,.go false,.go false,.go false] (o:=by repeat' first|apply Ya|exact pcM|exact((X5 (X5 h33 h40) h41))|exact(Xk (X5 (X5 h33 h40) h41))|exact(X3f (X5 (X5 h33 h40) h41))|exact((Xf (X5 (X5 h33 h40) h41) rfl))|exact(Xk (Xf (X5 (X5 h33 h40) h41) rfl))|exact(X3f (Xf (X5 (X5 h33 h40) h41) rfl))|exact((Xf (Xf (X5 (X5 h33 h40) h41) rfl) rfl))|exact(Xk (Xf (Xf (X5 (X5 h33 h40) h41) rfl) rfl))|exact(X3f (Xf (Xf (X5 (X5 h33 h40) h41) rfl) rfl))|exact Xw) (k:=wkT [] (X3.glue J))
  intro h
  obtain rfl:=oj h
  exact Xc [.go true,.go true,.pure _ (Xg v34),.go true,.pure _ (Xg v36),.go true,.go true,.pure _ (aB v38),.go false,.go false,.go false,.go false,.go false,.go false,.go false,.go false,.go false,.go false,.go false,.go false,.go false,.go false] (o:=by repeat' first|apply Ya|exact pcM|exact((X5 h33 h40))|exact(Xk (X5 h33 h40))|exact(X3f (X5 h33 h40))|exact((Xf (X5 h33 h40) rfl))|exact(Xk (Xf (X5 h33 h40) rfl))|exact(X3f (Xf (X5 h33 h40) rfl))|exact((Xf (Xf (X5 h33 h40) rfl) rfl))|exact(Xk (Xf (Xf (X5 h33 h40) rfl) rfl))|exact(X3f (Xf (Xf (X5 h33 h40) rfl) rfl))|exact((Xf (Xf (Xf (X5 h33 h40) rfl) rfl) rfl))|exact(Xk (Xf (Xf (Xf (X5 h33 h40) rfl) rfl) rfl))|exact(X3f (Xf (Xf (Xf (X5 h33 h40) rfl) rfl) rfl))|exact Xw) (k:=wkT [] (X3.glue J))
 intro h
 obtain rfl:=oj h
 exact Xc [.go false,.go false,.go false,.go false,.go false,.go false,.go false,.go false,.go false,.go false,.go false,.go false,.go false,.go false,.go false,.go false,.go false,.go false,.go false] (o:=by repeat' first|apply Ya|exact pcM|exact((Xf h33 rfl))|exact(Xk (Xf h33 rfl))|exact(X3f (Xf h33 rfl))|exact((Xf (Xf h33 rfl) rfl))|exact(Xk (Xf (Xf h33 rfl) rfl))|exact(X3f (Xf (Xf h33 rfl) rfl))|exact((Xf (Xf (Xf h33 rfl) rfl) rfl))|exact(Xk (Xf (Xf (Xf h33 rfl) rfl) rfl))|exact(X3f (Xf (Xf (Xf h33 rfl) rfl) rfl))|exact((Xf (Xf (Xf (Xf h33 rfl) rfl) rfl) rfl))|exact(Xk (Xf (Xf (Xf (Xf h33 rfl) rfl) rfl) rfl))|exact(X3f (Xf (Xf (Xf (Xf h33 rfl) rfl) rfl) rfl))|exact Xw) (k:=wkT [] (X3.glue J))⟩
instance Xyx:PCs Tryz.prog 43 (∀ (a0:(List X0c)) (r:Bool),X9t a0=some r->X11 Tryz.prog 43 [(Lf (a0.map X1))] (aB r)):=⟨fun a0 r h=>by
 refine X11.sym Xh fn43 (nt:=6) rfl rfl ?_ okM
 unfold X9t at h
 revert h
 exact fun e=>oj e▸Xc [.el (aI .i64 (a0.length:Int))] (k:=fi)⟩
instance Xyr:PCs Tryz.prog 15 (∀ (a0:X03) (r:Bool),X9r a0=some r->X11 Tryz.prog 15 [(Xl false a0)] (aB r)):=⟨fun a0 r h=>by
 refine X11.sym Xh fn15 (nt:=17) rfl rfl ?_ okM
 unfold X9r at h
 revert h
 refine bI fun j7_2 h14=>rnI [.stop 1] ?_
 intro h
 refine X3.join (s':=⟨fr [(2,(aB j7_2))],hp ([]),0⟩) ?_ (fun J=>X3.cut ?_)
 ·
  revert h
  exact fun e=>oj e▸Xc [] (k:=fi)
 clear h;revert h14
 refine bI fun v8 h9=>brI (fun h10=>?_) fun h10=>?_
 ·
  intro h
  obtain rfl:=oj h
  exact Xc [.pure _ (aB v8),.go false,.go false,.go false,.go false,.go false,.go false,.go false] (o:=by repeat' first|apply Ya|exact pcM|exact((X5 h10 rfl))|exact(Xk (X5 h10 rfl))|exact(X7r (X5 h10 rfl))|exact Xw) (k:=wkT [] (X3.glue J))
 refine bI fun v11 h12=>brI (fun h13=>?_) fun h13=>?_
 ·
  intro h
  obtain rfl:=oj h
  exact Xc [.pure _ (aB v8),.go true,.go true,.go true,.pure _ (aB v11),.go false,.go false,.go false,.go false] (o:=by repeat' first|apply Ya|exact pcM|exact((Xf h10 h13))|exact(Xk (Xf h10 h13))|exact(X7r (Xf h10 h13))|exact Xw) (k:=wkT [] (X3.glue J))
 intro h
 obtain rfl:=oj h
 exact Xc [.pure _ (aB v8),.go true,.go true,.go true,.pure _ (aB v11),.go true,.go true,.go true,.el (aI .i64 (a0.Sources.length:Int)),.go true] (o:=by repeat' first|apply Ya|exact pcM|exact((Xf h10 h13))|exact(Xk (Xf h10 h13))|exact(X3f (Xf h10 h13))|exact Xw) (k:=wkT [] (X3.glue J))⟩
theorem Xfn {Q:X07->St->Mu->Prop} {μ:Mu} (X0y:(List (List Xb))):∀ (n:Nat) (Xkp:Int) (o:X6k) (h:X4c X0y n Xkp=some o)
  (C0:o=X6k.x0->X3 Tryz.prog 31 0 Q (.exit .ret) [] ⟨fr [(2,(aB true))],hp ([]),0⟩ μ)
  (C1:o=X6k.x1->X3 Tryz.prog 31 0 Q (.exit (.exit 0)) [] ⟨fr [(0,(Lf (List.map (X0e false X0) X0y)))],hp ([]),0⟩ μ),
  X3 Tryz.prog 31 0 Q (.loop (X4t 0 (Xu Tryz.f16))) [] ⟨fr [(0,(Lf (List.map (X0e false X0) X0y))),(3,(aI .i64 Xkp))],hp ([]),0⟩ μ:=by
 intro n
 induction n with
 |zero=>intro Xkp o h C0 C1;cases h
 |succ n ih =>
  intro Xkp o h C0 C1
  rw[X4c] at h
  refine X3.round ?_
  revert h
  refine brI (fun h22=>?_) fun h22=>fun e=>Xc [.el (aI .i64 (X0y.length:Int)),Bf] (k:=wkT [] (C1  (oj e).symm))
  refine bI fun Xwu h30=>rnI [.el (aI .i64 (X0y.length:Int)),Bt,.stop 4] ?_
  intro h
  refine X3.join (s':=⟨fr [(0,(Lf (List.map (X0e false X0) X0y))),(3,(aI .i64 Xkp)),(27,(aB Xwu))],hp ([]),0⟩) ?_ (fun J=>X3.cut ?_)
  ·
   revert h
   refine brI (fun h31=>fun e=>Xc [Bt] (k:=wkT [] (C0  (oj e).symm))) fun h31=>rnI [Bf,.wrap] ?_
   intro h
   exact wkT [] (ih  _ o h C0 C1)
  clear h;revert h30
  refine bI fun e27 h28=>?_
  try have qh28:=Xn h28
  refine brI (fun h29=>?_) fun h29=>?_
  ·
   intro h
   obtain rfl:=oj h
   exact Xc [.el (X0e false X0 e27),.el (aI .i64 (e27.length:Int)),.go true,.go true,.go true,.el (X0e false X0 e27),.go true,.go true,.el (aI .i64 (e27.length:Int)),.go true] (k:=wkT [] (X3.glue J))
  intro h
  obtain rfl:=oj h
  exact Xc [.el (X0e false X0 e27),.el (aI .i64 (e27.length:Int)),.go false,.go false,.go false,.go false,.go false,.go false] (k:=wkT [] (X3.glue J))
instance Xyk:PCs Tryz.prog 16 (∀ (a0:(List (List Xb))) (r:Bool),X9m a0=some r->X11 Tryz.prog 16 [(Lf (List.map (X0e false X0) a0))] (aB r)):=⟨fun a0 r h=>by
 refine X11.sym Xh fn16 (nt:=31) rfl rfl ?_ okM
 unfold X9m at h
 revert h
 refine bI fun o32 h33=>rnI [] ?_
 intro h
 refine wkT [] (X3.cut (Xfn a0 _ _ _ h33 ?_ ?_))
 ·
  intro eo32;subst eo32
  refine X3.glue ?_
  try dsimp only at h
  revert h
  exact fun e=>oj e▸Xc [] (k:=fi)
 intro eo32;subst eo32
 refine X3.glue ?_
 try dsimp only at h
 revert h
 exact fun e=>oj e▸Xc [.el (aI .i64 (a0.length:Int))] (k:=fi)⟩
instance Xyy:PCs Tryz.prog 152 (∀ (a0:Int) (r:Int),Xbq a0=some r->X11 Tryz.prog 152 [(aI .u8 a0)] (aI .i64 r)):=⟨fun a0 r h=>by
 refine X11.sym Xh X07l (nt:=7) rfl rfl ?_ okM
 unfold Xbq at h
 revert h
 exact brI (fun h1=>fun e=>oj e▸Xc [Bt] (k:=fi)) fun h1=>brI (fun h2=>fun e=>oj e▸Xc [Bf,Bt] (k:=fi)) fun h2=>fun e=>oj e▸Xc [Bf,Bf] (k:=fi)⟩
instance Xyv:PCs Tryz.prog 153 (∀ (a0:X0c) (a1:Int) (a2:Int) (r:Bool),X6w a0 a1 a2=some r->X11 Tryz.prog 153 [(X1 a0),(aI .i64 a1),(aI .i64 a2)] (aB r)):=⟨fun a0 a1 a2 r h=>by
 refine X11.sym Xh X07k (nt:=52) rfl rfl ?_ okM
 unfold X6w at h
 revert h
 exact fun e=>oj e▸Xc [] (k:=fi)⟩
end Go.Av.Tryz