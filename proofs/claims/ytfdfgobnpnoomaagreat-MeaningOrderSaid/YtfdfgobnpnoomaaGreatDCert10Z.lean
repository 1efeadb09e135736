/- Printed by decomp.py: that the program computes the functions. -/
import Derived.Test.YtfdfgobnpnoomaaGreatDCert9Z
set_option linter.all false

namespace Go.Av.Tryz
open Go.Proofs Go.D
set_option maxRecDepth 10000
set_option maxHeartbeats 40000000
theorem Xha {Q:Xy->St->Mu->Prop} {μ:Mu} (Xjm:(List Xg)) (hl:Xjm.length<=140737488355328):∀ (xs:List Xg) (k:Nat) (hx:Xjm.drop k=xs) (Xm:Int) (o:X9q) (h:X4u Xjm xs k Xm=some o)
  (C0:∀ (Xr:Int),o=X9q.x0 Xr->X2 Tryz.prog 27 0 Q (.exit (.exit 0)) [] ⟨fr [(5,(AV.fn 105 [(AV.ptr 0 0 0)]))],hp ([(0,Ob [(aI .i64 Xr)] 1)]),1⟩ μ),
  X2 Tryz.prog 27 0 Q (.loop (X4k 0 (Xl Tryz.f45))) [] ⟨fr [(5,(AV.fn 105 [(AV.ptr 0 0 0)])),(14,(Lf (Xjm.map Xa))),(15,(aI .i64 (Xjm.length:Int))),(16,(aI .i64 (k:Int)))],hp ([(0,Ob [(aI .i64 Xm)] 1)]),1⟩ μ:=by
 intro xs
 induction xs with
 |nil =>
  intro k hx Xm o h C0
  have hk:=X18 hx
  have hc:decide ((k:Int)<(Xjm.length:Int))=false:=Yf (by omega)
  rw[X4u] at h
  refine X2.round ?_
  revert h
  exact fun e=>X8 [Bf] (k:=wkT [] (C0 _  (oj e).symm))
 |cons x xs ih =>
  intro k hx Xm o h C0
  obtain⟨hk,hg,hx1⟩:=X0r hx
  have hc:decide ((k:Int)<(Xjm.length:Int))=true:=Yt (by omega)
  rw[X4u] at h
  refine X2.round ?_
  refine X0y [Bt,.el (Xa x)] ?_
  refine X2.inline X9 Xs0 rfl rfl rfl rfl rfl trivial trivial rfl rfl ?_
  revert h
  refine bI fun Xu8 h30=>rnI [] ?_
  intro h
  refine X2.join (s':=⟨fr [(4,(aI .i64 Xm))],hp ([(0,Ob [(aI .i64 Xu8)] 1)]),2⟩) ?_ (fun J=>X2.cut ?_)
  ·
   refine X0y [] ?_
   refine X2.back (by intro id h;cases h) rfl ?_
   exact X8 [] (k:=wkT [] (ih (k+1) hx1 _ o h C0))
  clear h;revert h30
  refine brI (fun h29=>?_) fun h29=>?_
  ·
   intro h
   obtain rfl:=oj h
   exact X8 [Bt] (k:=wkT [] (X2.glue J))
  intro h
  obtain rfl:=oj h
  exact X8 [Bf] (k:=wkT [] (X2.glue J))
instance Xz5:PCs Tryz.prog 45 (∀ (a0:(List Xg)) (r:Int×Int),Xbs a0=some r->X0o Tryz.prog 45 [(Lf (a0.map Xa))] (AV.tup [(aI .i64 r.1),(aI .i64 r.2)])):=⟨fun a0 r h=>by
 refine X0o.sym X9 fn45 (nt:=27) rfl rfl ?_ okM
 unfold Xbs at h
 revert h
 refine bI fun v1 h2=>brI (fun h3=>fun e=>oj e▸X8 [.pure _ (aI .i64 v1),Bt] (k:=fi)) fun h3=>rnI [.pure _ (aI .i64 v1),Bf] ?_
 intro h
 refine X2.inline X9 fn71 rfl rfl rfl rfl rfl trivial trivial rfl rfl ?_
 refine X0y [] ?_
 refine X2.back (by intro id h;cases h) rfl ?_
 revert h
 refine bI fun u4 h5=>?_
 have qh5:=X09 h5
 refine bI fun o31 h32=>rnI [.el (aI .i64 (a0.length:Int))] ?_
 intro h
 refine wkT [] (X2.cut (Xha a0 qh5 a0 0 (by simp) _ _ h32 ?_))
 intro Xr eo31;subst eo31
 refine X2.glue ?_
 try dsimp only at h
 refine X0y [] ?_
 refine X2.inline X9 Xs0 rfl rfl rfl rfl rfl trivial trivial rfl rfl ?_
 refine X0y [Bf] ?_
 refine X2.back (by intro id h;cases h) rfl ?_
 revert h
 exact fun e=>oj e▸X8 [] (k:=fi)⟩
theorem Xcy {Q:Xy->St->Mu->Prop} {μ:Mu} (Xjl:(List (List Xg))) (hl:Xjl.length<=140737488355328):∀ (xs:List (List Xg)) (k:Nat) (hx:Xjl.drop k=xs) (Xmr:Int) (o:X4g) (h:X2o Xjl xs k Xmr=some o)
  (C0:∀ (X94:Int),o=X4g.x0 X94->X2 Tryz.prog 42 0 Q (.exit (.exit 0)) [] ⟨fr [(5,(aI .i64 X94))],hp ([]),0⟩ μ)
  (C1:∀ (X9v:Int),o=X4g.x1 X9v->X2 Tryz.prog 42 0 Q (.exit .ret) [] ⟨fr [(2,(aI .i64 0)),(3,(aI .i64 X9v))],hp ([]),0⟩ μ),
  X2 Tryz.prog 42 0 Q (.loop (X4k 0 (Xl Tryz.f17))) [] ⟨fr [(5,(aI .i64 Xmr)),(23,(Lf (List.map (X7p false Xa) Xjl))),(24,(aI .i64 (Xjl.length:Int))),(25,(aI .i64 (k:Int)))],hp ([]),0⟩ μ:=by
 intro xs
 induction xs with
 |nil =>
  intro k hx Xmr o h C0 C1
  have hk:=X18 hx
  have hc:decide ((k:Int)<(Xjl.length:Int))=false:=Yf (by omega)
  rw[X2o] at h
  refine X2.round ?_
  revert h
  exact fun e=>X8 [Bf] (k:=wkT [] (C0 _  (oj e).symm))
 |cons x xs ih =>
  intro k hx Xmr o h C0 C1
  obtain⟨hk,hg,hx1⟩:=X0r hx
  have hc:decide ((k:Int)<(Xjl.length:Int))=true:=Yt (by omega)
  rw[X2o] at h
  refine X2.round ?_
  revert h
  refine bI fun v18 h19=>brI (fun h20=>fun e=>X8 [Bt,.el (X7p false Xa x),.pure _ (AV.tup [(aI .i64 v18.1),(aI .i64 v18.2)]),Bt] (k:=wkT [] (C1 _  (oj e).symm))) fun h20=>rnI [Bt,.el (X7p false Xa x),.pure _ (AV.tup [(aI .i64 v18.1),(aI .i64 v18.2)]),Bf] ?_
  intro h
  exact wkT [] (ih (k+1) hx1 _ o h C0 C1)
instance Xsk:PCs Tryz.prog 17 (∀ (a0:(List (List Xg))) (r:Int×Int),X6d a0=some r->X0o Tryz.prog 17 [(Lf (List.map (X7p false Xa) a0))] (AV.tup [(aI .i64 r.1),(aI .i64 r.2)])):=⟨fun a0 r h=>by
 refine X0o.sym X9 fn17 (nt:=42) rfl rfl ?_ okM
 unfold X6d at h
 revert h
 refine bI fun X014 h4=>rnI [.stop 1] ?_
 intro h
 refine X2.join (s':=⟨fr [(0,(Lf (List.map (X7p false Xa) a0))),(17,(aB X014))],hp ([]),0⟩) ?_ (fun J=>X2.cut ?_)
 ·
  revert h
  refine brI (fun h5=>fun e=>oj e▸X8 [Bt] (k:=fi)) fun h5=>bI fun v6 h7=>brI (fun h8=>fun e=>oj e▸X8 [Bf,.pure _ (aI .i64 v6),Bt] (k:=fi)) fun h8=>bI fun u9 h10=>?_
  have qh10:=X09 h10
  refine bI fun o21 h22=>rnI [Bf,.pure _ (aI .i64 v6),Bf,.el (aI .i64 (a0.length:Int))] ?_
  intro h
  refine wkT [] (X2.cut (Xcy a0 qh10 a0 0 (by simp) _ _ h22 ?_ ?_))
  ·
   intro X94 eo21;subst eo21
   refine X2.glue ?_
   try dsimp only at h
   revert h
   exact fun e=>oj e▸X8 [] (k:=fi)
  intro X9v eo21;subst eo21
  refine X2.glue ?_
  try dsimp only at h
  revert h
  exact fun e=>oj e▸X8 [] (k:=fi)
 clear h;revert h4
 refine brI (fun h3=>?_) fun h3=>?_
 ·
  intro h
  obtain rfl:=oj h
  exact X8 [.el (aI .i64 (a0.length:Int)),.go false,.go false,.go false] (k:=wkT [] (X2.glue J))
 intro h
 obtain rfl:=oj h
 exact X8 [.el (aI .i64 (a0.length:Int)),.go true,.go true,.el (aI .i64 (a0.length:Int)),.go true] (k:=wkT [] (X2.glue J))⟩
theorem Xbn {Q:Xy->St->Mu->Prop} {μ:Mu} (Xes:(List Xb)) (X3p:Int) (Xdx:(List X3w)) (hl:Xdx.length<=140737488355328):∀ (xs:List X3w) (k:Nat) (hx:Xdx.drop k=xs) (Xm:(List X3w)) (X0x:Nb Xm) (o:X5b) (h:X1l Xes X3p Xdx xs k Xm=some o)
  (C0:∀ (Xr:(List X3w)) (X03:Nb Xr),o=X5b.x0 Xr->X2 Tryz.prog 50 0 Q (.exit (.exit 0)) [] ⟨fr [(8,(AV.list true (Xes.map X3))),(11,(slE X03.1 0 (Xr.map Xc)))],hp ([]++opE X03.1 0 5 (Xr.map Xc)),1⟩ μ),
  X2 Tryz.prog 50 0 Q (.loop (X4k 0 (Xl Tryz.f21))) [] ⟨fr [(8,(AV.list true (Xes.map X3))),(10,(aI .i64 X3p)),(11,(slE X0x.1 0 (Xm.map Xc))),(32,(AV.list true (Xdx.map Xc))),(33,(aI .i64 (Xdx.length:Int))),(34,(aI .i64 (k:Int)))],hp ([]++opE X0x.1 0 5 (Xm.map Xc)),1⟩ μ:=by
 intro xs
 induction xs with
 |nil =>
  intro k hx Xm X0x o h C0
  have hk:=X18 hx
  have hc:decide ((k:Int)<(Xdx.length:Int))=false:=Yf (by omega)
  rw[X1l] at h
  rcases X0x with ⟨_|_,X3a⟩
  ·
   refine X2.round ?_
   revert h
   exact fun e=>X8 [Bf] (k:=wkT [] (C0 _  nbF (oj e).symm))
  ·
   obtain rfl:=X3a rfl
   refine X2.round ?_
   revert h
   exact fun e=>X8 [Bf] (k:=wkT [] (C0 _  nbS (oj e).symm))
 |cons x xs ih =>
  intro k hx Xm X0x o h C0
  obtain⟨hk,hg,hx1⟩:=X0r hx
  have hc:decide ((k:Int)<(Xdx.length:Int))=true:=Yt (by omega)
  rw[X1l] at h
  rcases X0x with ⟨_|_,X3a⟩
  ·
   refine X2.round ?_
   revert h
   refine bI fun Xlv h49=>rnI [Bt,.el (Xc x)] ?_
   intro h
   refine X2.joinF (fun(q:Nb Xlv)=>⟨fr [(8,(AV.list true (Xes.map X3))),(10,(aI .i64 X3p)),(11,(slE q.1 0 (Xlv.map Xc))),(32,(AV.list true (Xdx.map Xc))),(33,(aI .i64 (Xdx.length:Int))),(34,(aI .i64 (k:Int)))],hp ([]++opE q.1 0 5 (Xlv.map Xc)),1⟩) ?_ (fun J=>X2.cut ?_)
   ·
    rintro Xtr
    rcases Xtr with ⟨_|_,Xul⟩
    ·
     exact X8 [] (k:=wkT [] (ih (k+1) hx1 _ nbF o h C0))
    obtain rfl:=Xul rfl
    exact X8 [] (k:=wkT [] (ih (k+1) hx1 _ nbS o h C0))
   clear h;revert h49
   refine brI (fun h46=>?_) fun h46=>?_
   ·
    refine bI fun u47 h48=>?_
    intro h
    obtain rfl:=oj h
    exact X8 [Bt,.no] (o:=by repeat' first|apply Ya|exact pcM|(refine X0s h48 rfl ?_;first|(simp;done)|(simp;omega)|(simp[hc,h46];done)|(simp[hc,h46];omega))|(refine X01 h48 (by decide) ?_;first|(simp;done)|(simp;omega)|(simp[hc,h46];done)|(simp[hc,h46];omega))|exact X08) (k:=wkT [(0,3)] (X2.glue (J nbF)))
   intro h
   obtain rfl:=oj h
   exact X8 [Bf] (k:=wkT [] (X2.glue (J nbF)))
  obtain rfl:=X3a rfl
  refine X2.round ?_
  revert h
  refine bI fun Xu5 h57=>rnI [Bt,.el (Xc x)] ?_
  intro h
  refine X2.joinF (fun(q:Nb Xu5)=>⟨fr [(8,(AV.list true (Xes.map X3))),(10,(aI .i64 X3p)),(11,(slE q.1 0 (Xu5.map Xc))),(32,(AV.list true (Xdx.map Xc))),(33,(aI .i64 (Xdx.length:Int))),(34,(aI .i64 (k:Int)))],hp ([]++opE q.1 0 5 (Xu5.map Xc)),1⟩) ?_ (fun J=>X2.cut ?_)
  ·
   rintro Xtp
   rcases Xtp with ⟨_|_,Xuj⟩
   ·
    exact X8 [] (k:=wkT [] (ih (k+1) hx1 _ nbF o h C0))
   obtain rfl:=Xuj rfl
   exact X8 [] (k:=wkT [] (ih (k+1) hx1 _ nbS o h C0))
  clear h;revert h57
  refine brI (fun h54=>?_) fun h54=>?_
  ·
   refine bI fun u55 h56=>?_
   intro h
   obtain rfl:=oj h
   exact X8 [Bt,.no] (o:=by repeat' first|apply Ya|exact pcM|(refine X0s h56 rfl ?_;first|(simp;done)|(simp;omega)|(simp[hc,h54];done)|(simp[hc,h54];omega))|(refine X01 h56 (by decide) ?_;first|(simp;done)|(simp;omega)|(simp[hc,h54];done)|(simp[hc,h54];omega))|exact X08) (k:=wkT [(0,3)] (X2.glue (J nbF)))
  intro h
  obtain rfl:=oj h
  exact X8 [Bf] (k:=wkT [] (X2.glue (J nbS)))
instance Xpk:PCs Tryz.prog 21 (∀ (a0:Xu) (a1:(List (List Xg))) (r:(List X3w)×(List Xb)×Int),X21 a0 a1=some r->X0o Tryz.prog 21 [(Xq false a0),(Lf (List.map (X7p false Xa) a1))] (AV.tup [(AV.list true (r.1.map Xc)),(AV.list true (r.2.1.map X3)),(aI .i64 r.2.2)])):=⟨fun a0 a1 r h=>by
 refine X0o.sym X9 fn21 (nt:=50) rfl rfl ?_ okM
 unfold X21 at h
 revert h
 refine bI fun v1 h2=>brI (fun h3=>fun e=>oj e▸X8 [.pure _ (AV.tup [(AV.list true (v1.1.map Xc)),(AV.list true (v1.2.1.map X3)),(aI .i64 v1.2.2)]),Bt] (k:=fi)) fun h3=>bI fun v4 h5=>rnI [.pure _ (AV.tup [(AV.list true (v1.1.map Xc)),(AV.list true (v1.2.1.map X3)),(aI .i64 v1.2.2)]),Bf,.pure _ (AV.tup [(aI .i64 v4.1),(aI .i64 v4.2)])] ?_
 refine brI (fun h6=>fun e=>oj e▸X8 [Bt] (k:=fi)) fun h6=>bI fun u7 h8=>?_
 have qh8:=X09 h8
 refine bI fun o58 h59=>rnI [Bf,.el (aI .i64 (v1.1.length:Int))] ?_
 intro h
 refine wkT [] (X2.cut (Xbn v1.2.1 v4.1 v1.1 qh8 v1.1 0 (by simp) _ nbS _ h59 ?_))
 intro Xr X03 eo58;subst eo58
 refine X2.glue ?_
 try dsimp only at h
 rcases X03 with ⟨_|_,X2e⟩
 ·
  revert h
  exact fun e=>oj e▸X8 [] (k:=fi)
 obtain rfl:=X2e rfl
 revert h
 exact fun e=>oj e▸X8 [] (k:=fi)⟩
instance Xz2:PCs Tryz.prog 30 (∀ (a0:Int) (a1:Int) (a2:Int) (r:X3w),Xdi a0 a1 a2=some r->X0o Tryz.prog 30 [(aI .i64 a0),(aI .i64 a1),(aI .i64 a2)] (Xc r)):=⟨fun a0 a1 a2 r h=>by
 refine X0o.sym X9 fn30 (nt:=13) rfl rfl ?_ okM
 unfold Xdi at h
 revert h
 exact fun e=>oj e▸X8 [] (k:=fi)⟩
theorem Xff {Q:Xy->St->Mu->Prop} {μ:Mu} (X0i:(List X3w)) (Xft:(List X3w)) (hl:X0i.length<=140737488355328):∀ (xs:List X3w) (k:Nat) (hx:X0i.drop k=xs) (o:X69) (h:X6a X0i Xft xs k  = some o)
  (C0:o=X69.x0->X2 Tryz.prog 26 0 Q (.exit (.exit 0)) [] ⟨fr [],hp ([]),0⟩ μ)
  (C1:o=X69.x1->X2 Tryz.prog 26 0 Q (.exit .ret) [] ⟨fr [(4,(aB false))],hp ([]),0⟩ μ),
  X2 Tryz.prog 26 0 Q (.loop (X4k 0 (Xl Tryz.f23))) [] ⟨fr [(0,(Lf (X0i.map Xc))),(1,(Lf (Xft.map Xc))),(5,(aI .i64 (k:Int)))],hp ([]),0⟩ μ:=by
 intro xs
 induction xs with
 |nil =>
  intro k hx  o h C0 C1
  have hk:=X18 hx
  have hc:decide ((k:Int)<(X0i.length:Int))=false:=Yf (by omega)
  rw[X6a] at h
  refine X2.round ?_
  revert h
  exact fun e=>X8 [.el (aI .i64 (X0i.length:Int)),Bf] (k:=wkT [] (C0  (oj e).symm))
 |cons x xs ih =>
  intro k hx  o h C0 C1
  obtain⟨hk,hg,hx1⟩:=X0r hx
  have hc:decide ((k:Int)<(X0i.length:Int))=true:=Yt (by omega)
  rw[X6a] at h
  refine X2.round ?_
  revert h
  refine bI fun e11 h12=>?_
  try have qh12:=Xp h12
  refine brI (fun h13=>fun e=>X8 [.el (aI .i64 (X0i.length:Int)),Bt,.el (Xc x),.el (Xc e11),Bt] (k:=wkT [] (C1  (oj e).symm))) fun h13=>rnI [.el (aI .i64 (X0i.length:Int)),Bt,.el (Xc x),.el (Xc e11),Bf] ?_
  intro h
  exact wkT [] (ih (k+1) hx1  o h C0 C1)
instance Xwz:PCs Tryz.prog 23 (∀ (a0:(List X3w)) (a1:(List X3w)) (r:Bool),Xc7 a0 a1=some r->X0o Tryz.prog 23 [(Lf (a0.map Xc)),(Lf (a1.map Xc))] (aB r)):=⟨fun a0 a1 r h=>by
 refine X0o.sym X9 fn23 (nt:=26) rfl rfl ?_ okM
 unfold Xc7 at h
 revert h
 refine brI (fun h1=>fun e=>oj e▸X8 [.el (aI .i64 (a0.length:Int)),.el (aI .i64 (a1.length:Int)),Bt] (k:=fi)) fun h1=>bI fun u2 h3=>?_
 have qh3:=X09 h3
 refine bI fun o14 h15=>rnI [.el (aI .i64 (a0.length:Int)),.el (aI .i64 (a1.length:Int)),Bf] ?_
 intro h
 refine wkT [] (X2.cut (Xff a0 a1 qh3 a0 0 (by simp) _ h15 ?_ ?_))
 ·
  intro eo14;subst eo14
  refine X2.glue ?_
  try dsimp only at h
  revert h
  exact fun e=>oj e▸X8 [] (k:=fi)
 intro eo14;subst eo14
 refine X2.glue ?_
 try dsimp only at h
 revert h
 exact fun e=>oj e▸X8 [] (k:=fi)⟩
instance Xwk:PCs Tryz.prog 29 (∀ (r:Bool),Xar=some r->X0o Tryz.prog 29 [] (aB r)):=⟨fun r h=>by
 refine X0o.sym X9 fn29 (nt:=59) rfl rfl ?_ okM
 unfold Xar at h
 revert h
 refine bI fun v1 h2=>bI fun v3 h4=>bI fun v5 h6=>bI fun v7 h8=>bI fun v9 h10=>bI fun v11 h12=>bI fun v13 h14=>bI fun X013 h50=>rnI [.pure _ (Xa v1),.pure _ (Xa v3),.pure _ (Xa v5),.pure _ (Xa v7),.pure _ (Xq true v9),.pure _ (AV.tup [(AV.list true (v11.1.map Xc)),(AV.list true (v11.2.1.map X3)),(aI .i64 v11.2.2)]),.pure _ (Xq true v9),.pure _ (AV.tup [(AV.list true (v13.1.map Xc)),(AV.list true (v13.2.1.map X3)),(aI .i64 v13.2.2)]),.stop 4] ?_
 intro h
 refine X2.join (s':=⟨fr [(0,(aB X013))],hp ([]),0⟩) ?_ (fun J=>X2.cut ?_)
 ·
  revert h
  exact fun e=>oj e▸X8 [] (k:=fi)
 clear h;revert h50
 refine brI (fun h33=>?_) fun h33=>?_
 ·
  refine bI fun v34 h35=>bI fun v36 h37=>bI fun v38 h39=>brI (fun h40=>?_) fun h40=>?_
  ·
   refine rnI [.go true,.go true,.pure _ (Xc v34),.go true,.pure _ (Xc v36),.go true,.go true,.pure _ (aB v38),.go true,.go true,.el (aI .i64 (v11.2.1.length:Int)),.go true,.stop 999999] (o:=by repeat' first|apply Ya|exact pcM|exact((Xf h33 h40))|exact(Xt (Xf h33 h40))|exact(X7h (Xf h33 h40))|exact X08) ?_
   refine brI (fun h41=>?_) fun h41=>?_
   ·
    refine bI fun e42 h43=>?_
    try have qh43:=Xp h43
    refine brI (fun h44=>?_) fun h44=>?_
    ·
     refine brI (fun h45=>?_) fun h45=>?_
     ·
      refine bI fun m46 h47=>?_
      obtain⟨qah47,qbh47,qch47,qh47⟩:=X2y h47
      have qlh47:=X72 h47
      refine bI fun v48 h49=>?_
      intro h
      obtain rfl:=oj h
      exact X8 [.go true,.go true,.el (X3 e42),.go true,.go true,.go true,.go true,.go true,.go true,.go true,.go true,.via (AV.list true (m46.map Xc)),.go true,.pure _ (aB v48)] (o:=by repeat' first|apply Ya|exact pcM|exact((Xf (Xf h33 h40) h41))|exact(Xt (Xf (Xf h33 h40) h41))|exact(X7h (Xf (Xf h33 h40) h41))|exact((Xf (Xf (Xf h33 h40) h41) h44))|exact(Xt (Xf (Xf (Xf h33 h40) h41) h44))|exact(X7h (Xf (Xf (Xf h33 h40) h41) h44))|exact((Xf (Xf (Xf (Xf h33 h40) h41) h44) h45))|exact(Xt (Xf (Xf (Xf (Xf h33 h40) h41) h44) h45))|(simp at qah47 qbh47 qch47 ⊢;omega)|(rw[qh47];simp[Ym,Yd];done)|exact(X7h (Xf (Xf (Xf (Xf h33 h40) h41) h44) h45))|exact X08) (k:=wkT [] (X2.glue J))
     intro h
     obtain rfl:=oj h
     exact X8 [.go true,.go true,.el (X3 e42),.go true,.go true,.go true,.go true,.go true,.go false,.go false,.go false,.go false] (o:=by repeat' first|apply Ya|exact pcM|exact((Xf (Xf h33 h40) h41))|exact(Xt (Xf (Xf h33 h40) h41))|exact(X7h (Xf (Xf h33 h40) h41))|exact((Xf (Xf (Xf h33 h40) h41) h44))|exact(Xt (Xf (Xf (Xf h33 h40) h41) h44))|exact(X7h (Xf (Xf (Xf h33 h40) h41) h44))|exact((Xf (Xf (Xf (Xf h33 h40) h41) h44) h45))|exact(Xt (Xf (Xf (Xf (Xf h33 h40) h41) h44) h45))|exact(Xb7 (Xf (Xf (Xf (Xf h33 h40) h41) h44) h45))|exact X08) (k:=wkT [] (X2.glue J))
    intro h
    obtain rfl:=oj h
    exact X8 [.go true,.go true,.el (X3 e42),.go true,.go true,.go true,.go false,.go false,.go false,.go false,.go false,.go false] (o:=by repeat' first|apply Ya|exact pcM|exact((Xf (Xf h33 h40) h41))|exact(Xt (Xf (Xf h33 h40) h41))|exact(X7h (Xf (Xf h33 h40) h41))|exact((Xf (Xf (Xf h33 h40) h41) h44))|exact(Xt (Xf (Xf (Xf h33 h40) h41) h44))|exact(Xb7 (Xf (Xf (Xf h33 h40) h41) h44))|exact((Xd (Xf (Xf (Xf h33 h40) h41) h44) rfl))|exact(Xt (Xd (Xf (Xf (Xf h33 h40) h41) h44) rfl))|exact(Xb7 (Xd (Xf (Xf (Xf h33 h40) h41) h44) rfl))|exact X08) (k:=wkT [] (X2.glue J))
   intro h
   obtain rfl:=oj h
   exact X8 [.go false,.go false,.go false,.go false,.go false,.go false,.go false,.go false,.go false,.go false,.go false] (o:=by repeat' first|apply Ya|exact pcM|exact((Xf (Xf h33 h40) h41))|exact(Xt (Xf (Xf h33 h40) h41))|exact(Xb7 (Xf (Xf h33 h40) h41))|exact((Xd (Xf (Xf h33 h40) h41) rfl))|exact(Xt (Xd (Xf (Xf h33 h40) h41) rfl))|exact(Xb7 (Xd (Xf (Xf h33 h40) h41) rfl))|exact((Xd (Xd (Xf (Xf h33 h40) h41) rfl) rfl))|exact(Xt (Xd (Xd (Xf (Xf h33 h40) h41) rfl) rfl))|exact(Xb7 (Xd (Xd (Xf (Xf h33 h40) h41) rfl) rfl))|exact X08) (k:=wkT [] (X2.glue J))
  intro h
  obtain rfl:=oj h
  exact X8 [.go true,.go true,.pure _ (Xc v34),.go true,.pure _ (Xc v36),.go true,.go true,.pure _ (aB v38),.go false,.go false,.go false,.go false,.go false,.go false,.go false,.go false,.go false,.go false,.go false,.go false,.go false,.go false] (o:=by repeat' first|apply Ya|exact pcM|exact((Xf h33 h40))|exact(Xt (Xf h33 h40))|exact(Xb7 (Xf h33 h40))|exact((Xd (Xf h33 h40) rfl))|exact(Xt (Xd (Xf h33 h40) rfl))|exact(Xb7 (Xd (Xf h33 h40) rfl))|exact((Xd (Xd (Xf h33 h40) rfl) rfl))|exact(Xt (Xd (Xd (Xf h33 h40) rfl) rfl))|exact(Xb7 (Xd (Xd (Xf h33 h40) rfl) rfl))|exact((Xd (Xd (Xd (Xf h33 h40) rfl) rfl) rfl))|exact(Xt (Xd (Xd (Xd (Xf h33 h40) rfl) rfl) rfl))|exact(Xb7 (Xd (Xd (Xd (Xf h33 h40) rfl) rfl) rfl))|exact X08) (k:=wkT [] (X2.glue J))
 intro h
 obtain rfl:=oj h
 exact X8 [.go false,.go false,.go false,.go false,.go false,.go false,.go false,.go false,.go false,.go false,.go false,.go false,.go false,.go false,.go false,.go false,.go false,.go false,.go false] (o:=by repeat' first|apply Ya|exact pcM|exact((Xd h33 rfl))|exact(Xt (Xd h33 rfl))|exact(Xb7 (Xd h33 rfl))|exact((Xd (Xd h33 rfl) rfl))|exact(Xt (Xd (Xd h33 rfl) rfl))|exact(Xb7 (Xd (Xd h33 rfl) rfl))|exact((Xd (Xd (Xd h33 rfl) rfl) rfl))|exact(Xt (Xd (Xd (Xd h33 rfl) rfl) rfl))|exact(Xb7 (Xd (Xd (Xd h33 rfl) rfl) rfl))|exact((Xd (Xd (Xd (Xd h33 rfl) rfl) rfl) rfl))|exact(Xt (Xd (Xd (Xd (Xd h33 rfl) rfl) rfl) rfl))|exact(Xb7 (Xd (Xd (Xd (Xd h33 rfl) rfl) rfl) rfl))|exact X08) (k:=wkT [] (X2.glue J))⟩
instance Xw9:PCs Tryz.prog 43 (∀ (a0:(List Xw)) (r:Bool),X8q a0=some r->X0o Tryz.prog 43 [(Lf (a0.map X1))] (aB r)):=⟨fun a0 r h=>by
 refine X0o.sym X9 fn43 (nt:=6) rfl rfl ?_ okM
 unfold X8q at h
 revert h
 exact fun e=>oj e▸X8 [.el (aI .i64 (a0.length:Int))] (k:=fi)⟩
instance Xw3:PCs Tryz.prog 15 (∀ (a0:Xu) (r:Bool),X8o a0=some r->X0o Tryz.prog 15 [(Xq false a0)] (aB r)):=⟨fun a0 r h=>by
 refine X0o.sym X9 fn15 (nt:=17) rfl rfl ?_ okM
 unfold X8o at h
 revert h
 refine bI fun j7_2 h14=>rnI [.stop 1] ?_
 intro h
 refine X2.join (s':=⟨fr [(2,(aB j7_2))],hp ([]),0⟩) ?_ (fun J=>X2.cut ?_)
 ·
  revert h
  exact fun e=>oj e▸X8 [] (k:=fi)
 clear h;revert h14
 refine bI fun v8 h9=>brI (fun h10=>?_) fun h10=>?_
 ·
  intro h
  obtain rfl:=oj h
  exact X8 [.pure _ (aB v8),.go false,.go false,.go false,.go false,.go false,.go false,.go false] (o:=by repeat' first|apply Ya|exact pcM|exact((Xf h10 rfl))|exact(Xt (Xf h10 rfl))|exact(X7h (Xf h10 rfl))|exact X08) (k:=wkT [] (X2.glue J))
 refine bI fun v11 h12=>brI (fun h13=>?_) fun h13=>?_
 ·
  intro h
  obtain rfl:=oj h
  exact X8 [.pure _ (aB v8),.go true,.go true,.go true,.pure _ (aB v11),.go false,.go false,.go false,.go false] (o:=by repeat' first|apply Ya|exact pcM|exact((Xd h10 h13))|exact(Xt (Xd h10 h13))|exact(X7h (Xd h10 h13))|exact X08) (k:=wkT [] (X2.glue J))
 intro h
 obtain rfl:=oj h
 exact X8 [.pure _ (aB v8),.go true,.go true,.go true,.pure _ (aB v11),.go true,.go true,.go true,.el (aI .i64 (a0.Sources.length:Int)),.go true] (o:=by repeat' first|apply Ya|exact pcM|exact((Xd h10 h13))|exact(Xt (Xd h10 h13))|exact(Xb7 (Xd h10 h13))|exact X08) (k:=wkT [] (X2.glue J))⟩
theorem Xe2 {Q:Xy->St->Mu->Prop} {μ:Mu} (X0i:(List (List Xg))):∀ (n:Nat) (Xjk:Int) (o:X5i) (h:X3k X0i n Xjk=some o)
  (C0:o=X5i.x0->X2 Tryz.prog 31 0 Q (.exit .ret) [] ⟨fr [(2,(aB true))],hp ([]),0⟩ μ)
  (C1:o=X5i.x1->X2 Tryz.prog 31 0 Q (.exit (.exit 0)) [] ⟨fr [(0,(Lf (List.map (X7p false Xa) X0i)))],hp ([]),0⟩ μ),
  X2 Tryz.prog 31 0 Q (.loop (X4k 0 (Xl Tryz.f16))) [] ⟨fr [(0,(Lf (List.map (X7p false Xa) X0i))),(3,(aI .i64 Xjk))],hp ([]),0⟩ μ:=by
 intro n
 induction n with
 |zero=>intro Xjk o h C0 C1;cases h
 |succ n ih =>
  intro Xjk o h C0 C1
  rw[X3k] at h
  refine X2.round ?_
  revert h
  refine brI (fun h22=>?_) fun h22=>fun e=>X8 [.el (aI .i64 (X0i.length:Int)),Bf] (k:=wkT [] (C1  (oj e).symm))
  refine bI fun Xu9 h30=>rnI [.el (aI .i64 (X0i.length:Int)),Bt,.stop 4] ?_
  intro h
  refine X2.join (s':=⟨fr [(0,(Lf (List.map (X7p false Xa) X0i))),(3,(aI .i64 Xjk)),(27,(aB Xu9))],hp ([]),0⟩) ?_ (fun J=>X2.cut ?_)
  ·
   revert h
   refine brI (fun h31=>fun e=>X8 [Bt] (k:=wkT [] (C0  (oj e).symm))) fun h31=>rnI [Bf,.wrap] ?_
   intro h
   exact wkT [] (ih  _ o h C0 C1)
  clear h;revert h30
  refine bI fun e27 h28=>?_
  try have qh28:=Xp h28
  refine brI (fun h29=>?_) fun h29=>?_
  ·
   intro h
   obtain rfl:=oj h
   exact X8 [.el (X7p false Xa e27),.el (aI .i64 (e27.length:Int)),.go true,.go true,.go true,.el (X7p false Xa e27),.go true,.go true,.el (aI .i64 (e27.length:Int)),.go true] (k:=wkT [] (X2.glue J))
  intro h
  obtain rfl:=oj h
  exact X8 [.el (X7p false Xa e27),.el (aI .i64 (e27.length:Int)),.go false,.go false,.go false,.go false,.go false,.go false] (k:=wkT [] (X2.glue J))
instance Xvw:PCs Tryz.prog 16 (∀ (a0:(List (List Xg))) (r:Bool),X8j a0=some r->X0o Tryz.prog 16 [(Lf (List.map (X7p false Xa) a0))] (aB r)):=⟨fun a0 r h=>by
 refine X0o.sym X9 fn16 (nt:=31) rfl rfl ?_ okM
 unfold X8j at h
 revert h
 refine bI fun o32 h33=>rnI [] ?_
 intro h
 refine wkT [] (X2.cut (Xe2 a0 _ _ _ h33 ?_ ?_))
 ·
  intro eo32;subst eo32
  refine X2.glue ?_
  try dsimp only at h
  revert h
  exact fun e=>oj e▸X8 [] (k:=fi)
 intro eo32;subst eo32
 refine X2.glue ?_
 try dsimp only at h
 revert h
 exact fun e=>oj e▸X8 [.el (aI .i64 (a0.length:Int))] (k:=fi)⟩
instance Xwa:PCs Tryz.prog 152 (∀ (a0:Int) (r:Int),Xak a0=some r->X0o Tryz.prog 152 [(aI .u8 a0)] (aI .i64 r)):=⟨fun a0 r h=>by
 refine X0o.sym X9 X059 (nt:=7) rfl rfl ?_ okM
 unfold Xak at h
 revert h
 exact brI (fun h1=>fun e=>oj e▸X8 [Bt] (k:=fi)) fun h1=>brI (fun h2=>fun e=>oj e▸X8 [Bf,Bt] (k:=fi)) fun h2=>fun e=>oj e▸X8 [Bf,Bf] (k:=fi)⟩
instance Xw7:PCs Tryz.prog 153 (∀ (a0:Xw) (a1:Int) (a2:Int) (r:Bool),X5t a0 a1 a2=some r->X0o Tryz.prog 153 [(X1 a0),(aI .i64 a1),(aI .i64 a2)] (aB r)):=⟨fun a0 a1 a2 r h=>by
 refine X0o.sym X9 X058 (nt:=52) rfl rfl ?_ okM
 unfold X5t at h
 revert h
 exact fun e=>oj e▸X8 [] (k:=fi)⟩
end Go.Av.Tryz