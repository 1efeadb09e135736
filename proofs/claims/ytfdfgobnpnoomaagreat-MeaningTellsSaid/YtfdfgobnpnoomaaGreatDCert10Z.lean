/- Printed by decomp.py: that the program computes the functions. -/
import Derived.Test.YtfdfgobnpnoomaaGreatDCert9Z
set_option linter.all false

namespace Go.Av.Tryz
open Go.Proofs Go.D
set_option maxRecDepth 10000
set_option maxHeartbeats 40000000
instance Xxc:PCs Tryz.prog 93 (∀ (a0:(List Int)) (a1:Bool) (r:Int),X7t a0 a1=some r->X0j Tryz.prog 93 [(Lf (List.map (aI .i64) a0)),(aB a1)] (aI .i64 r)):=⟨fun a0 a1 r h=>by
 refine X0j.sym X9 fn93 (nt:=60) rfl rfl ?_ okM
 unfold X7t at h
 revert h
 refine brI (fun h1=>fun e=>oj e▸X7 [.el (aI .i64 (a0.length:Int)),Bt] (k:=fi)) fun h1=>bI fun X06s h7=>rnI [.el (aI .i64 (a0.length:Int)),Bf,.stop 3] ?_
 intro h
 refine X2.join (s':=⟨fr [(0,(Lf (List.map (aI .i64) a0))),(21,(aB X06s))],hp ([]),0⟩) ?_ (fun J=>X2.cut ?_)
 ·
  revert h
  refine brI (fun h8=>fun e=>oj e▸X7 [Bt] (k:=fi)) fun h8=>bI fun u9 h10=>?_
  have qh10:=X09 h10
  refine bI fun o27 h28=>rnI [Bf] ?_
  intro h
  refine wkT [] (X2.cut (Xg3 a0 qh10 a0 0 (by simp) _ h28 ?_ ?_))
  ·
   intro eo27;subst eo27
   refine X2.glue ?_
   try dsimp only at h
   revert h
   refine bI fun o93 h94=>rnI [] ?_
   intro h
   refine wkT [] (X2.cut (Xg2 a0 qh10 a0 0 (by simp) _ h94 ?_ ?_))
   ·
    intro eo93;subst eo93
    refine X2.glue ?_
    try dsimp only at h
    revert h
    exact fun e=>oj e▸X7 [] (k:=fi)
   intro eo93;subst eo93
   refine X2.glue ?_
   try dsimp only at h
   revert h
   exact fun e=>oj e▸X7 [] (k:=fi)
  intro eo27;subst eo27
  refine X2.glue ?_
  try dsimp only at h
  revert h
  exact fun e=>oj e▸X7 [] (k:=fi)
 clear h;revert h7
 refine brI (fun h5=>?_) fun h5=>?_
 ·
  intro h
  obtain rfl:=oj h
  exact X7 [.el (aI .i64 (a0.length:Int)),.go false,.go false,.go false,.go false,.go false,.go false] (k:=wkT [] (X2.glue J))
 refine brI (fun h6=>?_) fun h6=>?_
 ·
  intro h
  obtain rfl:=oj h
  exact X7 [.el (aI .i64 (a0.length:Int)),.go true,.go true,.go true,.go true,.el (aI .i64 (a0.length:Int)),.go true,.go true] (k:=wkT [] (X2.glue J))
 intro h
 obtain rfl:=oj h
 exact X7 [.el (aI .i64 (a0.length:Int)),.go true,.go true,.go false,.go false,.go false,.go true] (k:=wkT [] (X2.glue J))⟩
instance X02n:PCs Tryz.prog 94 (∀ (a0:X0h) (r:Bool),X8k a0=some r->X0j Tryz.prog 94 [(X0s a0)] (aB r)):=⟨fun a0 r h=>by
 refine X0j.sym X9 fn94 (nt:=45) rfl rfl ?_ okM
 unfold X8k at h
 revert h
 exact brI (fun h1=>fun e=>oj e▸X7 [Bt] (k:=fi)) fun h1=>brI (fun h2=>fun e=>oj e▸X7 [Bf,Bt,.wrap] (k:=fi)) fun h2=>fun e=>oj e▸X7 [Bf,Bf] (k:=fi)⟩
instance X01g:PCs Tryz.prog 56 (∀ (a0:Xw) (r:Int),Xap a0=some r->X0j Tryz.prog 56 [(Xn false a0)] (aI .i64 r)):=⟨fun a0 r h=>by
 refine X0j.sym X9 fn56 (nt:=80) rfl rfl ?_ okM
 unfold Xap at h
 revert h
 refine brI (fun h1=>fun e=>oj e▸X7 [Bt] (k:=fi)) fun h1=>bI fun X071 h5=>rnI [Bf,.stop 3] ?_
 intro h
 refine X2.join (s':=⟨fr [(1,(AV.ptr 0 0 0)),(29,(aB X071))],hp ([(0,Ob [(Xn false a0)] 10)]),1⟩) ?_ (fun J=>X2.cut ?_)
 ·
  revert h
  refine brI (fun h6=>fun e=>oj e▸X7 [Bt] (k:=fi)) fun h6=>bI fun Xzr h14=>rnI [Bf,.stop 5] ?_
  intro h
  refine X2.join (s':=⟨fr [(1,(AV.ptr 0 0 0)),(38,(aB Xzr))],hp ([(0,Ob [(Xn false a0)] 10)]),1⟩) ?_ (fun J=>X2.cut ?_)
  ·
   revert h
   refine brI (fun h15=>bI fun v16 h17=>fun e=>oj e▸X7 [Bt,.pure _ (aI .i64 v16)] (k:=fi)) fun h15=>bI fun Xq5 h25=>rnI [Bf,.stop 7] ?_
   intro h
   refine X2.join (s':=⟨fr [(1,(AV.ptr 0 0 0)),(51,(aB Xq5))],hp ([(0,Ob [(Xn false a0)] 10)]),1⟩) ?_ (fun J=>X2.cut ?_)
   ·
    revert h
    exact brI (fun h26=>bI fun v27 h28=>fun e=>oj e▸X7 [Bt,.pure _ (aI .i64 v27)] (k:=fi)) fun h26=>bI fun v29 h30=>brI (fun h31=>fun e=>oj e▸X7 [Bf,.pure _ (aI .i64 v29),Bt,.pure _ (aI .i64 v29)] (k:=fi)) fun h31=>bI fun v32 h33=>brI (fun h34=>fun e=>oj e▸X7 [Bf,.pure _ (aI .i64 v29),Bf,.pure _ (aB v32),Bt] (k:=fi)) fun h34=>fun e=>oj e▸X7 [Bf,.pure _ (aI .i64 v29),Bf,.pure _ (aB v32),Bf] (k:=fi)
   clear h;revert h25
   refine brI (fun h22=>?_) fun h22=>?_
   ·
    refine bI fun v23 h24=>?_
    intro h
    obtain rfl:=oj h
    exact X7 [.el (aI .i64 (a0.Where.length:Int)),.go true,.go true,.go true,.pure _ (aI .i64 v23),.go true] (k:=wkT [] (X2.glue J))
   intro h
   obtain rfl:=oj h
   exact X7 [.el (aI .i64 (a0.Where.length:Int)),.go false,.go false,.go false,.go false] (k:=wkT [] (X2.glue J))
  clear h;revert h14
  refine brI (fun h11=>?_) fun h11=>?_
  ·
   refine bI fun v12 h13=>?_
   intro h
   obtain rfl:=oj h
   exact X7 [.go true,.go true,.go true,.pure _ (aI .i64 v12),.go true] (k:=wkT [] (X2.glue J))
  intro h
  obtain rfl:=oj h
  exact X7 [.go false,.go false,.go false,.go false] (k:=wkT [] (X2.glue J))
 clear h;revert h5
 refine brI (fun h4=>?_) fun h4=>?_
 ·
  intro h
  obtain rfl:=oj h
  exact X7 [.go true,.go true,.go true,.el (aI .i64 (a0.Arg.length:Int)),.go true] (k:=wkT [] (X2.glue J))
 intro h
 obtain rfl:=oj h
 exact X7 [.go false,.go false,.go false,.go false] (k:=wkT [] (X2.glue J))⟩
instance X01i:PCs Tryz.prog 155 (∀ (a0:Int) (r:Bool),X72 a0=some r->X0j Tryz.prog 155 [(aI .u8 a0)] (aB r)):=⟨fun a0 r h=>by
 refine X0j.sym X9 X0b2 (nt:=9) rfl rfl ?_ okM
 unfold X72 at h
 revert h
 exact fun e=>oj e▸X7 [] (k:=fi)⟩
instance X02o:PCs Tryz.prog 188 (∀ (a0:(List X03)) (a1:Int) (r:Bool),Xci a0 a1=some r->X0j Tryz.prog 188 [(Lf (a0.map X4)),(aI .i64 a1)] (aB r)):=⟨fun a0 a1 r h=>by
 refine X0j.sym X9 X0ap (nt:=67) rfl rfl ?_ okM
 unfold Xci at h
 revert h
 refine bI fun e1 h2=>?_
 try have qh2:=Xv h2
 refine bI fun e3 h4=>?_
 try have qh4:=Xv h4
 refine bI fun v5 h6=>bI fun e7 h8=>?_
 try have qh8:=Xv h8
 exact bI fun v9 h10=>brI (fun h11=>fun e=>oj e▸X7 [.el (X4 e1),.el (X4 e3),.pure _ (aB v5),.el (X4 e7),.pure _ (aB v9),Bt] (k:=fi)) fun h11=>brI (fun h12=>fun e=>oj e▸X7 [.el (X4 e1),.el (X4 e3),.pure _ (aB v5),.el (X4 e7),.pure _ (aB v9),Bf,Bt] (k:=fi)) fun h12=>brI (fun h13=>fun e=>oj e▸X7 [.el (X4 e1),.el (X4 e3),.pure _ (aB v5),.el (X4 e7),.pure _ (aB v9),Bf,Bf,Bt] (k:=fi)) fun h13=>brI (fun h14=>fun e=>oj e▸X7 [.el (X4 e1),.el (X4 e3),.pure _ (aB v5),.el (X4 e7),.pure _ (aB v9),Bf,Bf,Bf,Bt] (k:=fi)) fun h14=>brI (fun h15=>fun e=>oj e▸X7 [.el (X4 e1),.el (X4 e3),.pure _ (aB v5),.el (X4 e7),.pure _ (aB v9),Bf,Bf,Bf,Bf,Bt] (k:=fi)) fun h15=>fun e=>oj e▸X7 [.el (X4 e1),.el (X4 e3),.pure _ (aB v5),.el (X4 e7),.pure _ (aB v9),Bf,Bf,Bf,Bf,Bf] (k:=fi)⟩
theorem Xht {Q:X01->St->Mu->Prop} {μ:Mu} (X07:(List X03)) (hl:X07.length<=140737488355328):∀ (xs:List X03) (k:Nat) (hx:X07.drop k=xs) (o:X6s) (h:X4j X07 xs k  = some o)
  (C0:o=X6s.x0->X2 Tryz.prog 17 0 Q (.exit (.exit 0)) [] ⟨fr [(0,(Lf (X07.map X4)))],hp ([]),0⟩ μ)
  (C1:∀ (X4n:Int),o=X6s.x1 X4n->X2 Tryz.prog 17 0 Q (.exit .ret) [] ⟨fr [(2,(aI .i64 X4n))],hp ([]),0⟩ μ),
  X2 Tryz.prog 17 0 Q (.loop (X30 0 (Xj Tryz.f154))) [] ⟨fr [(0,(Lf (X07.map X4))),(3,(aI .i64 (k:Int)))],hp ([]),0⟩ μ:=by
 intro xs
 induction xs with
 |nil =>
  intro k hx  o h C0 C1
  have hk:=drop_nil hx
  have hc:decide ((k:Int)<(X07.length:Int))=false:=Yf (by omega)
  rw[X4j] at h
  refine X2.round ?_
  revert h
  exact fun e=>X7 [.el (aI .i64 (X07.length:Int)),Bf] (k:=wkT [] (C0  (oj e).symm))
 |cons x xs ih =>
  intro k hx  o h C0 C1
  obtain⟨hk,hg,hx1⟩:=drop_cons hx
  have hc:decide ((k:Int)<(X07.length:Int))=true:=Yt (by omega)
  rw[X4j] at h
  refine X2.round ?_
  revert h
  refine bI fun v10 h11=>brI (fun h12=>fun e=>X7 [.el (aI .i64 (X07.length:Int)),Bt,.pure _ (aB v10),Bt] (k:=wkT [] (C1 _  (oj e).symm))) fun h12=>rnI [.el (aI .i64 (X07.length:Int)),Bt,.pure _ (aB v10),Bf] ?_
  intro h
  exact wkT [] (ih (k+1) hx1  o h C0 C1)
instance X01h:PCs Tryz.prog 154 (∀ (a0:(List X03)) (r:Int),Xd9 a0=some r->X0j Tryz.prog 154 [(Lf (a0.map X4))] (aI .i64 r)):=⟨fun a0 r h=>by
 refine X0j.sym X9 X0b3 (nt:=17) rfl rfl ?_ okM
 unfold Xd9 at h
 revert h
 refine bI fun u1 h2=>?_
 have qh2:=X09 h2
 refine bI fun o13 h14=>rnI [] ?_
 intro h
 refine wkT [] (X2.cut (Xht a0 qh2 a0 0 (by simp) _ h14 ?_ ?_))
 ·
  intro eo13;subst eo13
  refine X2.glue ?_
  try dsimp only at h
  revert h
  exact fun e=>oj e▸X7 [.el (aI .i64 (a0.length:Int))] (k:=fi)
 intro X4n eo13;subst eo13
 refine X2.glue ?_
 try dsimp only at h
 revert h
 exact fun e=>oj e▸X7 [] (k:=fi)⟩
instance X064:PCs Tryz.prog 129 (∀ (a0:(List X03)) (r:Bool×Int×Int),Xfa a0=some r->X0j Tryz.prog 129 [(Lf (a0.map X4))] (AV.tup [(aB r.1),(aI .i64 r.2.1),(aI .i64 r.2.2)])):=⟨fun a0 r h=>by
 refine X0j.sym X9 X0bk (nt:=29) rfl rfl ?_ okM
 unfold Xfa at h
 revert h
 refine bI fun v1 h2=>brI (fun h3=>fun e=>oj e▸X7 [.pure _ (aI .i64 v1),Bt,.pure _ (aI .i64 v1)] (k:=fi)) fun h3=>bI fun v4 h5=>brI (fun h6=>fun e=>oj e▸X7 [.pure _ (aI .i64 v1),Bf,.pure _ (aI .i64 v4),.el (aI .i64 (a0.length:Int)),Bt] (k:=fi)) fun h6=>bI fun e7 h8=>?_
 try have qh8:=Xv h8
 exact bI fun v9 h10=>fun e=>oj e▸X7 [.pure _ (aI .i64 v1),Bf,.pure _ (aI .i64 v4),.el (aI .i64 (a0.length:Int)),Bf,.el (aI .i64 (a0.length:Int)),.wrap,.el (X4 e7),.pure _ (aB v9),.el (aI .i64 (a0.length:Int)),.wrap] (k:=fi)⟩
instance X02p:PCs Tryz.prog 95 (∀ (a0:(List X03)) (a1:Bool) (r:Int×Int),X8l a0 a1=some r->X0j Tryz.prog 95 [(Lf (a0.map X4)),(aB a1)] (AV.tup [(aI .i64 r.1),(aI .i64 r.2)])):=⟨fun a0 a1 r h=>by
 refine X0j.sym X9 fn95 (nt:=25) rfl rfl ?_ okM
 unfold X8l at h
 revert h
 exact bI fun v1 h2=>brI (fun h3=>fun e=>oj e▸X7 [.pure _ (AV.tup [(aB v1.1),(aI .i64 v1.2.1),(aI .i64 v1.2.2)]),Bt] (k:=fi)) fun h3=>fun e=>oj e▸X7 [.pure _ (AV.tup [(aB v1.1),(aI .i64 v1.2.1),(aI .i64 v1.2.2)]),Bf] (k:=fi)⟩
instance X01d:PCs Tryz.prog 57 (∀ (a0:Xw) (r:Int×Int),Xam a0=some r->X0j Tryz.prog 57 [(Xn false a0)] (AV.tup [(aI .i64 r.1),(aI .i64 r.2)])):=⟨fun a0 r h=>by
 refine X0j.sym X9 fn57 (nt:=46) rfl rfl ?_ okM
 unfold Xam at h
 revert h
 refine brI (fun h1=>?_) fun h1=>?_
 ·
  refine bI fun v2 h3=>brI (fun h4=>?_) fun h4=>?_
  ·
   refine bI fun e5 h6=>?_
   try have qh6:=Xv h6
   exact fun e=>oj e▸X7 [.el (aI .i64 (a0.Arg.length:Int)),Bt,.pure _ (AV.tup [(aI .i64 v2.1),(aI .i64 v2.2)]),Bt,.el (X4 e5)] (k:=fi)
  refine rnI [.el (aI .i64 (a0.Arg.length:Int)),Bt,.pure _ (AV.tup [(aI .i64 v2.1),(aI .i64 v2.2)]),Bf,.el (aI .i64 (a0.Where.length:Int))] ?_
  refine brI (fun h7=>?_) fun h7=>fun e=>oj e▸X7 [Bf] (k:=fi)
  refine bI fun v8 h9=>brI (fun h10=>?_) fun h10=>fun e=>oj e▸X7 [Bt,.pure _ (AV.tup [(aI .i64 v8.1),(aI .i64 v8.2)]),Bf] (k:=fi)
  refine bI fun e11 h12=>?_
  try have qh12:=Xv h12
  exact fun e=>oj e▸X7 [Bt,.pure _ (AV.tup [(aI .i64 v8.1),(aI .i64 v8.2)]),Bt,.el (X4 e11)] (k:=fi)
 refine brI (fun h13=>?_) fun h13=>fun e=>oj e▸X7 [.el (aI .i64 (a0.Arg.length:Int)),Bf,.el (aI .i64 (a0.Where.length:Int)),Bf] (k:=fi)
 refine bI fun v14 h15=>rnI [.el (aI .i64 (a0.Arg.length:Int)),Bf,.el (aI .i64 (a0.Where.length:Int)),Bt,.pure _ (AV.tup [(aI .i64 v14.1),(aI .i64 v14.2)])] ?_
 refine brI (fun h16=>?_) fun h16=>fun e=>oj e▸X7 [Bf] (k:=fi)
 refine bI fun e17 h18=>?_
 try have qh18:=Xv h18
 exact fun e=>oj e▸X7 [Bt,.el (X4 e17)] (k:=fi)⟩
instance X01e:PCs Tryz.prog 28 (∀ (a0:Xw) (r:Int×Int),Xan a0=some r->X0j Tryz.prog 28 [(Xn false a0)] (AV.tup [(aI .i64 r.1),(aI .i64 r.2)])):=⟨fun a0 r h=>by
 refine X0j.sym X9 fn28 (nt:=13) rfl rfl ?_ okM
 unfold Xan at h
 revert h
 exact bI fun v1 h2=>brI (fun h3=>fun e=>oj e▸X7 [.pure _ (aI .i64 v1),Bt,.pure _ (aI .i64 v1)] (k:=fi)) fun h3=>bI fun v4 h5=>fun e=>oj e▸X7 [.pure _ (aI .i64 v1),Bf,.pure _ (AV.tup [(aI .i64 v4.1),(aI .i64 v4.2)])] (k:=fi)⟩
instance X018:PCs Tryz.prog 53 (∀ (a0:Xw) (a1:(List (List Xk))) (r:Int),Xaj a0 a1=some r->X0j Tryz.prog 53 [(Xn false a0),(Lf (List.map (X6j false Xa) a1))] (aI .i64 r)):=⟨fun a0 a1 r h=>by
 refine X0j.sym X9 fn53 (nt:=23) rfl rfl ?_ okM
 unfold Xaj at h
 revert h
 exact bI fun v1 h2=>brI (fun h3=>fun e=>oj e▸X7 [.pure _ (AV.tup [(aI .i64 v1.1),(aI .i64 v1.2)]),Bt] (k:=fi)) fun h3=>brI (fun h4=>fun e=>oj e▸X7 [.pure _ (AV.tup [(aI .i64 v1.1),(aI .i64 v1.2)]),Bf,.el (aI .i64 (a1.length:Int)),.el (aI .i64 (a0.Sources.length:Int)),Bt] (k:=fi)) fun h4=>bI fun v5 h6=>fun e=>oj e▸X7 [.pure _ (AV.tup [(aI .i64 v1.1),(aI .i64 v1.2)]),Bf,.el (aI .i64 (a1.length:Int)),.el (aI .i64 (a0.Sources.length:Int)),Bf,.pure _ (aI .i64 v5)] (k:=fi)⟩
theorem Xfx {Q:X01->St->Mu->Prop} {μ:Mu} (X07:(List Xk)) (X27:Bool) (hl:X07.length<=140737488355328):∀ (xs:List Xk) (k:Nat) (hx:X07.drop k=xs) (Xf:(List Xc)) (X08:Nb Xf) (o:X7p) (h:X2f X07 X27 xs k Xf=some o)
  (C0:∀ (Xg:(List Xc)) (Xl:Nb Xg),o=X7p.x0 Xg->X2 Tryz.prog 43 0 Q (.exit (.exit 0)) [] ⟨fr [(5,(slE Xl.1 0 (Xg.map X0)))],hp ([]++opE Xl.1 0 3 (Xg.map X0)),1⟩ μ),
  X2 Tryz.prog 43 0 Q (.loop (X30 0 (Xj Tryz.f91))) [] ⟨fr [(0,(Lf (X07.map Xa))),(1,(aB X27)),(5,(slE X08.1 0 (Xf.map X0))),(6,(aI .i64 (k:Int)))],hp ([]++opE X08.1 0 3 (Xf.map X0)),1⟩ μ:=by
 intro xs
 induction xs with
 |nil =>
  intro k hx Xf X08 o h C0
  have hk:=drop_nil hx
  have hc:decide ((k:Int)<(X07.length:Int))=false:=Yf (by omega)
  rw[X2f] at h
  rcases X08 with ⟨_|_,X1o⟩
  ·
   refine X2.round ?_
   revert h
   exact fun e=>X7 [.el (aI .i64 (X07.length:Int)),Bf] (k:=wkT [] (C0 _  nbF (oj e).symm))
  ·
   obtain rfl:=X1o rfl
   refine X2.round ?_
   revert h
   exact fun e=>X7 [.el (aI .i64 (X07.length:Int)),Bf] (k:=wkT [] (C0 _  nbS (oj e).symm))
 |cons x xs ih =>
  intro k hx Xf X08 o h C0
  obtain⟨hk,hg,hx1⟩:=drop_cons hx
  have hc:decide ((k:Int)<(X07.length:Int))=true:=Yt (by omega)
  rw[X2f] at h
  rcases X08 with ⟨_|_,X1o⟩
  ·
   refine X2.round ?_
   revert h
   refine bI fun Xz6 h95=>rnI [.el (aI .i64 (X07.length:Int)),Bt,.stop 5] ?_
   intro h
   refine X2.join (s':=⟨fr [(0,(Lf (X07.map Xa))),(1,(aB X27)),(5,(AV.ref 0 0 (Xf.length))),(6,(aI .i64 (k:Int))),(33,(aB Xz6))],hp ([(0,Ob (Xf.map X0) 3)]),1⟩) ?_ (fun J=>X2.cut ?_)
   ·
    revert h
    refine bI fun Xq1 h103=>rnI [] ?_
    intro h
    refine X2.joinF (fun(q:Nb Xq1)=>⟨fr [(0,(Lf (X07.map Xa))),(1,(aB X27)),(5,(slE q.1 0 (Xq1.map X0))),(6,(aI .i64 (k:Int)))],hp ([]++opE q.1 0 3 (Xq1.map X0)),1⟩) ?_ (fun J=>X2.cut ?_)
    ·
     rintro Xyn
     rcases Xyn with ⟨_|_,Xzv⟩
     ·
      exact X7 [] (k:=wkT [] (ih (k+1) hx1 _ nbF o h C0))
     obtain rfl:=Xzv rfl
     exact X7 [] (k:=wkT [] (ih (k+1) hx1 _ nbS o h C0))
    clear h;revert h103
    refine brI (fun h100=>?_) fun h100=>?_
    ·
     refine bI fun u101 h102=>?_
     intro h
     obtain rfl:=oj h
     exact X7 [Bt,.el (Xa x),.no] (o:=by repeat' first|apply Ya|exact pcM|(refine X0g h102 rfl ?_;first|(simp;done)|(simp;omega)|(simp[hc,h100];done)|(simp[hc,h100];omega))|(refine Xz h102 (by decide) ?_;first|(simp;done)|(simp;omega)|(simp[hc,h100];done)|(simp[hc,h100];omega))|exact X0k) (k:=wkT [(0,2)] (X2.glue (J nbF)))
    intro h
    obtain rfl:=oj h
    exact X7 [Bf] (k:=wkT [] (X2.glue (J nbF)))
   clear h;revert h95
   refine brI (fun h90=>?_) fun h90=>?_
   ·
    refine bI fun m91 h92=>?_
    obtain⟨qah92,qbh92,qch92,qh92⟩:=X3c h92
    have qlh92:=X7a h92
    refine bI fun v93 h94=>?_
    intro h
    obtain rfl:=oj h
    exact X7 [.el (Xa x),.go true,.go true,.go true,.el (Xa x),.go true,.go true,.go true,.go true,.go true,.go true,.via (Lf (m91.map Xa)),.go true,.pure _ (aI .i64 v93),.go true,.go true,.go true] (o:=by repeat' first|apply Ya|exact pcM|(simp at qah92 qbh92 qch92 ⊢;omega)|(rw[qh92];simp[Ym,Yd];done)|exact X0k) (k:=wkT [] (X2.glue J))
   intro h
   obtain rfl:=oj h
   exact X7 [.el (Xa x),.go false,.go false,.go false,.go false,.go false,.go false,.go false,.go false,.go false,.go false,.go false,.go false,.go false,.go false] (k:=wkT [] (X2.glue J))
  obtain rfl:=X1o rfl
  refine X2.round ?_
  revert h
  refine bI fun X07b h115=>rnI [.el (aI .i64 (X07.length:Int)),Bt,.stop 5] ?_
  intro h
  refine X2.join (s':=⟨fr [(0,(Lf (X07.map Xa))),(1,(aB X27)),(5,AV.nils),(6,(aI .i64 (k:Int))),(33,(aB X07b))],hp ([]),1⟩) ?_ (fun J=>X2.cut ?_)
  ·
   revert h
   refine bI fun Xsu h123=>rnI [] ?_
   intro h
   refine X2.joinF (fun(q:Nb Xsu)=>⟨fr [(0,(Lf (X07.map Xa))),(1,(aB X27)),(5,(slE q.1 0 (Xsu.map X0))),(6,(aI .i64 (k:Int)))],hp ([]++opE q.1 0 3 (Xsu.map X0)),1⟩) ?_ (fun J=>X2.cut ?_)
   ·
    rintro Xvs
    rcases Xvs with ⟨_|_,Xwm⟩
    ·
     exact X7 [] (k:=wkT [] (ih (k+1) hx1 _ nbF o h C0))
    obtain rfl:=Xwm rfl
    exact X7 [] (k:=wkT [] (ih (k+1) hx1 _ nbS o h C0))
   clear h;revert h123
   refine brI (fun h120=>?_) fun h120=>?_
   ·
    refine bI fun u121 h122=>?_
    intro h
    obtain rfl:=oj h
    exact X7 [Bt,.el (Xa x),.no] (o:=by repeat' first|apply Ya|exact pcM|(refine X0g h122 rfl ?_;first|(simp;done)|(simp;omega)|(simp[hc,h120];done)|(simp[hc,h120];omega))|(refine Xz h122 (by decide) ?_;first|(simp;done)|(simp;omega)|(simp[hc,h120];done)|(simp[hc,h120];omega))|exact X0k) (k:=wkT [(0,2)] (X2.glue (J nbF)))
   intro h
   obtain rfl:=oj h
   exact X7 [Bf] (k:=wkT [] (X2.glue (J nbS)))
  clear h;revert h115
  refine brI (fun h110=>?_) fun h110=>?_
  ·
   refine bI fun m111 h112=>?_
   obtain⟨qah112,qbh112,qch112,qh112⟩:=X3c h112
   have qlh112:=X7a h112
   refine bI fun v113 h114=>?_
   intro h
   obtain rfl:=oj h
   exact X7 [.el (Xa x),.go true,.go true,.go true,.el (Xa x),.go true,.go true,.go true,.go true,.go true,.go true,.via (Lf (m111.map Xa)),.go true,.pure _ (aI .i64 v113),.go true,.go true,.go true] (o:=by repeat' first|apply Ya|exact pcM|(simp at qah112 qbh112 qch112 ⊢;omega)|(rw[qh112];simp[Ym,Yd];done)|exact X0k) (k:=wkT [] (X2.glue J))
  intro h
  obtain rfl:=oj h
  exact X7 [.el (Xa x),.go false,.go false,.go false,.go false,.go false,.go false,.go false,.go false,.go false,.go false,.go false,.go false,.go false,.go false] (k:=wkT [] (X2.glue J))
instance Xx9:PCs Tryz.prog 91 (∀ (a0:(List Xk)) (a1:Bool) (r:(List Xc)),X67 a0 a1=some r->X0j Tryz.prog 91 [(Lf (a0.map Xa)),(aB a1)] (AV.list true (r.map X0))):=⟨fun a0 a1 r h=>by
 refine X0j.sym X9 fn91 (nt:=43) rfl rfl ?_ okM
 unfold X67 at h
 revert h
 refine bI fun u1 h2=>?_
 have qh2:=X09 h2
 refine bI fun o124 h125=>rnI [] ?_
 intro h
 refine wkT [] (X2.cut (Xfx a0 a1 qh2 a0 0 (by simp) _ nbS _ h125 ?_))
 intro Xg Xl eo124;subst eo124
 refine X2.glue ?_
 try dsimp only at h
 rcases Xl with ⟨_|_,X0q⟩
 ·
  revert h
  exact fun e=>oj e▸X7 [] (k:=fi)
 obtain rfl:=X0q rfl
 revert h
 exact fun e=>oj e▸X7 [] (k:=fi)⟩
instance X01p:PCs Tryz.prog 183 (∀ (a0:Bool) (r:Int),X74 a0=some r->X0j Tryz.prog 183 [(aB a0)] (aI .i64 r)):=⟨fun a0 r h=>by
 refine X0j.sym X9 X0au (nt:=4) rfl rfl ?_ okM
 unfold X74 at h
 revert h
 exact brI (fun h1=>fun e=>oj e▸X7 [Bt] (k:=fi)) fun h1=>fun e=>oj e▸X7 [Bf] (k:=fi)⟩
instance X01r:PCs Tryz.prog 185 (∀ (a0:Int) (r:Int),X8n a0=some r->X0j Tryz.prog 185 [(aI .i64 a0)] (aI .i64 r)):=⟨fun a0 r h=>by
 refine X0j.sym X9 X0as (nt:=7) rfl rfl ?_ okM
 unfold X8n at h
 revert h
 exact fun e=>oj e▸X7 [.wrap,.wrap] (k:=fi)⟩
theorem Xhv {Q:X01->St->Mu->Prop} {μ:Mu} (X07:Int):∀ (n:Nat) (X9s:Int) (Xr3:Int) (o:X9c) (h:X3h X07 n X9s Xr3=some o)
  (C0:∀ (X77:Int),o=X9c.x0 X77->X2 Tryz.prog 14 0 Q (.exit (.exit 0)) [] ⟨fr [(3,(aI .i64 X77))],hp ([]),0⟩ μ),
  X2 Tryz.prog 14 0 Q (.loop (X30 0 (Xj Tryz.f184))) [] ⟨fr [(0,(aI .i64 X07)),(3,(aI .i64 X9s)),(4,(aI .i64 Xr3))],hp ([]),0⟩ μ:=by
 intro n
 induction n with
 |zero=>intro X9s Xr3 o h C0;cases h
 |succ n ih =>
  intro X9s Xr3 o h C0
  rw[X3h] at h
  refine X2.round ?_
  revert h
  refine brI (fun h4=>?_) fun h4=>fun e=>X7 [Bf] (k:=wkT [] (C0 _  (oj e).symm))
  refine rnI [Bt,.wrap,.wrap] ?_
  intro h
  exact wkT [] (ih  _ _ o h C0)
instance X01o:PCs Tryz.prog 184 (∀ (a0:Int) (r:Int),X8m a0=some r->X0j Tryz.prog 184 [(aI .i64 a0)] (aI .i64 r)):=⟨fun a0 r h=>by
 refine X0j.sym X9 X0at (nt:=14) rfl rfl ?_ okM
 unfold X8m at h
 revert h
 refine bI fun o5 h6=>rnI [] ?_
 intro h
 refine wkT [] (X2.cut (Xhv a0 _ _ _ _ h6 ?_))
 intro X77 eo5;subst eo5
 refine X2.glue ?_
 try dsimp only at h
 revert h
 exact fun e=>oj e▸X7 [] (k:=fi)⟩
instance X02q:PCs Tryz.prog 186 (∀ (a0:Int) (r:Int),Xcj a0=some r->X0j Tryz.prog 186 [(aI .i64 a0)] (aI .i64 r)):=⟨fun a0 r h=>by
 refine X0j.sym X9 X0ar (nt:=11) rfl rfl ?_ okM
 unfold Xcj at h
 revert h
 exact brI (fun h1=>fun e=>oj e▸X7 [Bt,.wrap,.wrap] (k:=fi)) fun h1=>fun e=>oj e▸X7 [Bf,.wrap] (k:=fi)⟩
instance Xxd:PCs Tryz.prog 187 (∀ (a0:Int) (a1:Int) (a2:Int) (r:Bool),X9l a0 a1 a2=some r->X0j Tryz.prog 187 [(aI .u8 a0),(aI .i64 a1),(aI .i64 a2)] (aB r)):=⟨fun a0 a1 a2 r h=>by
 refine X0j.sym X9 X0aq (nt:=46) rfl rfl ?_ okM
 unfold X9l at h
 revert h
 exact brI (fun h1=>fun e=>oj e▸X7 [Bt] (k:=fi)) fun h1=>brI (fun h2=>fun e=>oj e▸X7 [Bf,Bt] (k:=fi)) fun h2=>brI (fun h3=>fun e=>oj e▸X7 [Bf,Bf,Bt] (k:=fi)) fun h3=>brI (fun h4=>fun e=>oj e▸X7 [Bf,Bf,Bf,Bt] (k:=fi)) fun h4=>brI (fun h5=>fun e=>oj e▸X7 [Bf,Bf,Bf,Bf,Bt] (k:=fi)) fun h5=>fun e=>oj e▸X7 [Bf,Bf,Bf,Bf,Bf] (k:=fi)⟩
theorem Xhw {Q:X01->St->Mu->Prop} {μ:Mu} (Xbp:Int):∀ (n:Nat) (X27:Int) (Xra:Int) (o:X9d) (h:X3i Xbp n X27 Xra=some o)
  (C0:∀ (Xmj:Int),o=X9d.x0 Xmj->X2 Tryz.prog 74 0 Q (.exit (.exit 1)) [] ⟨fr [(1,(aI .i64 Xmj))],hp ([]),0⟩ μ),
  X2 Tryz.prog 74 0 Q (.loop (X30 0 (Xj Tryz.f151))) [] ⟨fr [(1,(aI .i64 X27)),(2,(aI .i64 Xbp)),(7,(aI .i64 Xra))],hp ([]),0⟩ μ:=by
 intro n
 induction n with
 |zero=>intro X27 Xra o h C0;cases h
 |succ n ih =>
  intro X27 Xra o h C0
  rw[X3i] at h
  refine X2.round ?_
  revert h
  refine bI fun v25 h26=>brI (fun h27=>?_) fun h27=>fun e=>X7 [.pure _ (aI .i64 v25),Bf] (k:=wkT [] (C0 _  (oj e).symm))
  refine bI fun v28 h29=>rnI [.pure _ (aI .i64 v25),Bt,.pure _ (aI .i64 v28),.wrap] ?_
  intro h
  exact wkT [] (ih  _ _ o h C0)
instance X01q:PCs Tryz.prog 151 (∀ (a0:Int) (a1:Int) (a2:Int) (r:Int),X3q a0 a1 a2=some r->X0j Tryz.prog 151 [(aI .u8 a0),(aI .i64 a1),(aI .i64 a2)] (aI .i64 r)):=⟨fun a0 a1 a2 r h=>by
 refine X0j.sym X9 X0b6 (nt:=74) rfl rfl ?_ okM
 unfold X3q at h
 revert h
 refine brI (fun h1=>fun e=>oj e▸X7 [Bt,.wrap] (k:=fi)) fun h1=>brI (fun h2=>bI fun v3 h4=>fun e=>oj e▸X7 [Bf,Bt,.pure _ (aI .i64 v3)] (k:=fi)) fun h2=>brI (fun h5=>fun e=>oj e▸X7 [Bf,Bf,Bt,.wrap] (k:=fi)) fun h5=>brI (fun h6=>fun e=>oj e▸X7 [Bf,Bf,Bf,Bt,.wrap] (k:=fi)) fun h6=>brI (fun h7=>fun e=>oj e▸X7 [Bf,Bf,Bf,Bf,Bt,.wrap] (k:=fi)) fun h7=>brI (fun h8=>bI fun v9 h10=>bI fun v11 h12=>fun e=>oj e▸X7 [Bf,Bf,Bf,Bf,Bf,Bt,.pure _ (aI .i64 v9),.pure _ (aI .i64 v11),.wrap] (k:=fi)) fun h8=>?_
 refine brI (fun h13=>?_) fun h13=>brI (fun h32=>bI fun v33 h34=>fun e=>oj e▸X7 [Bf,Bf,Bf,Bf,Bf,Bf,Bf,Bt,.pure _ (aI .i64 v33)] (k:=fi)) fun h32=>brI (fun h35=>bI fun v36 h37=>fun e=>oj e▸X7 [Bf,Bf,Bf,Bf,Bf,Bf,Bf,Bf,Bt,.pure _ (aI .i64 v36)] (k:=fi)) fun h35=>bI fun v38 h39=>bI fun v40 h41=>fun e=>oj e▸X7 [Bf,Bf,Bf,Bf,Bf,Bf,Bf,Bf,Bf,.pure _ (aB v38),.pure _ (aI .i64 v40)] (k:=fi)
 refine bI fun o30 h31=>rnI [Bf,Bf,Bf,Bf,Bf,Bf,Bt] ?_
 intro h
 refine wkT [] (X2.cut (Xhw a2 _ _ _ _ h31 ?_))
 intro Xmj eo30;subst eo30
 refine X2.glue ?_
 try dsimp only at h
 revert h
 exact fun e=>oj e▸X7 [] (k:=fi)⟩
theorem Xm5:∀ (n:Nat) (a0:(List X03)) (a1:Int) (a2:Xc) (r:Int) (h:X16 n a0 a1 a2=some r),X0j Tryz.prog 181 [(Lf (a0.map X4)),(aI .i64 a1),(X0 a2)] (aI .i64 r):=by
 intro n
 induction n with
 |zero=>intro a0 a1 a2 r h;cases h
 |succ n ih =>
  intro a0 a1 a2 r h
  have hrec:=ih
  refine X0j.sym X9 X0aw (nt:=49) rfl rfl ?_ (X1p .list (X1p .sc (X1p (X96 _ _).1 Xb1)))
  rw[X16] at h
  revert h
  refine bI fun e1 h2=>?_
  try have qh2:=Xv h2
  refine brI (fun h3=>fun e=>oj e▸X7 [.el (X4 e1),Bt] (k:=fi)) fun h3=>brI (fun h4=>fun e=>oj e▸X7 [.el (X4 e1),Bf,Bt] (k:=fi)) fun h4=>brI (fun h5=>fun e=>oj e▸X7 [.el (X4 e1),Bf,Bf,Bt] (k:=fi)) fun h5=>brI (fun h6=>fun e=>oj e▸X7 [.el (X4 e1),Bf,Bf,Bf,Bt] (k:=fi)) fun h6=>bI fun v7 h8=>bI fun X079 h16=>rnI [.el (X4 e1),Bf,Bf,Bf,Bf,.pure _ (aI .i64 v7)] ?_
  intro h
  refine X2.join (s':=⟨fr [(0,(Lf (a0.map X4))),(5,(AV.ptr 0 0 0)),(7,(AV.ptr 1 0 0)),(8,(aI .i64 X079))],hp ([(0,Ob [(X0 a2)] 3),(1,Ob [(X4 e1)] 5)]),2⟩) ?_ (fun J=>X2.cut ?_)
  ·
   revert h
   exact bI fun v17 h18=>bI fun v19 h20=>fun e=>oj e▸X7 [.pure [(Lf (a0.map X4)),(aI .i64 e1.A),(X0 a2)] (aI .i64 v17),.pure _ (aI .i64 v19)] (o:=by repeat' first|apply Ya|exact pcM|exact(pn (hrec _ _ _ _ h18) (cc (X9f (X47 X8u a0)) (cc .sc (cc (Xge (x:=a2)) cn))))|exact X0k) (k:=fi)
  clear h;revert h16
  refine brI (fun h13=>?_) fun h13=>?_
  ·
   refine bI fun v14 h15=>?_
   intro h
   obtain rfl:=oj h
   exact X7 [Bt,.pure [(Lf (a0.map X4)),(aI .i64 e1.B),(X0 a2)] (aI .i64 v14)] (o:=by repeat' first|apply Ya|exact pcM|exact(pn (hrec _ _ _ _ h15) (cc (X9f (X47 X8u a0)) (cc .sc (cc (Xge (x:=a2)) cn))))|exact X0k) (k:=wkT [] (X2.glue J))
  intro h
  obtain rfl:=oj h
  exact X7 [Bf] (k:=wkT [] (X2.glue J))
instance Xd8:PCs Tryz.prog 147 (∀ (a0:(List X03)) (a1:Xc) (r:Int×Int),Xf9 a0 a1=some r->X0j Tryz.prog 147 [(Lf (a0.map X4)),(X0 a1)] (AV.tup [(aI .i64 r.1),(aI .i64 r.2)])):=⟨fun a0 a1 r h=>by
 refine X0j.sym X9 X0ba (nt:=24) rfl rfl ?_ okM
 unfold Xf9 at h
 revert h
 refine bI fun v1 h2=>brI (fun h3=>fun e=>oj e▸X7 [.pure _ (AV.tup [(aB v1.1),(aI .i64 v1.2.1),(aI .i64 v1.2.2)]),Bt] (k:=fi)) fun h3=>?_
 exact bI fun v4 h5=>fun e=>oj e▸X7 [.pure _ (AV.tup [(aB v1.1),(aI .i64 v1.2.1),(aI .i64 v1.2.2)]),Bf,.el (aI .i64 (a0.length:Int)),.wrap,.pure [(Lf (a0.map X4)),(aI .i64 (IntKind.i64.wrap ((a0.length:Int) - 1))),(X0 a1)] (aI .i64 v4)] (o:=by repeat' first|apply Ya|exact pcM|exact(pn (Xm5 FU _ _ _ _ h5) (cc (X9f (X47 X8u a0)) (cc (X051 (by first|rfl|(simp[*];done))) (cc (Xge (x:=a1)) cn))))|exact X0k) (k:=fi)⟩
instance X013:PCs Tryz.prog 122 (∀ (a0:(List X03)) (a1:Xc) (r:Int),X4f a0 a1=some r->X0j Tryz.prog 122 [(Lf (a0.map X4)),(X0 a1)] (aI .i64 r)):=⟨fun a0 a1 r h=>by
 refine X0j.sym X9 X0bq (nt:=14) rfl rfl ?_ okM
 unfold X4f at h
 revert h
 exact bI fun v1 h2=>fun e=>oj e▸X7 [.pure _ (AV.tup [(aI .i64 v1.1),(aI .i64 v1.2)])] (k:=fi)⟩
end Go.Av.Tryz