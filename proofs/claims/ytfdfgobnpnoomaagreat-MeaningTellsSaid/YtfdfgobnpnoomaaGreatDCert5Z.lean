/- Printed by decomp.py: that the program computes the functions. -/
import Derived.Test.YtfdfgobnpnoomaaGreatDCert4Z
set_option linter.all false

namespace Go.Av.Tryz
open Go.Proofs Go.D
set_option maxRecDepth 10000
set_option maxHeartbeats 40000000
theorem Xia {Q:X01->St->Mu->Prop} {μ:Mu} (Xf:(V5 Int)) (X8e:(List X03)) (hl:X8e.length<=140737488355328):∀ (xs:List X03) (k:Nat) (hx:X8e.drop k=xs) (Xi:(List Int)) (o:X6w) (h:X1b Xf X8e xs k Xi=some o)
  (C0:∀ (Xg:(List Int)),o=X6w.x0 Xg->X2 Tryz.prog 80 0 Q (.exit (.exit 0)) [] ⟨fr [(8,(AV.ref 0 0 (Xg.length)))],hp ([(0,Ob (List.map (aI .i64) Xg) 1)]),1⟩ μ)
  (C1:∀ (X0d:(List Int)) (Xc8:Int) (X0b:Nb X0d),o=X6w.x1 X0d Xc8->X2 Tryz.prog 80 0 Q (.exit .ret) [] ⟨fr [(4,(slE X0b.1 0 (List.map (aI .i64) X0d))),(5,(aI .i64 Xc8))],hp ([]++opE X0b.1 0 1 (List.map (aI .i64) X0d)),1⟩ μ),
  X2 Tryz.prog 80 0 Q (.loop (X30 0 (Xj Tryz.f59))) [] ⟨fr [(7,(AV.ptr 0 0 0)),(8,(AV.ref 1 0 (Xi.length))),(28,(Lf (X8e.map X4))),(29,(aI .i64 (X8e.length:Int))),(30,(aI .i64 (k:Int)))],hp ([(0,Ob [(Xa1 Xf)] 5),(1,Ob (List.map (aI .i64) Xi) 1)]),2⟩ μ:=by
 intro xs
 induction xs with
 |nil =>
  intro k hx Xi o h C0 C1
  have hk:=drop_nil hx
  have hc:decide ((k:Int)<(X8e.length:Int))=false:=Yf (by omega)
  rw[X1b] at h
  refine X2.round ?_
  revert h
  exact fun e=>X7 [Bf] (k:=wkT [(0,1)] (C0 _  (oj e).symm))
 |cons x xs ih =>
  intro k hx Xi o h C0 C1
  obtain⟨hk,hg,hx1⟩:=drop_cons hx
  have hc:decide ((k:Int)<(X8e.length:Int))=true:=Yt (by omega)
  rw[X1b] at h
  refine X2.round ?_
  revert h
  refine brI (fun h303=>?_) fun h303=>?_
  ·
   refine bI fun e304 h305=>?_
   try have qh305:=Xv h305
   refine rnI [Bt,.el (X4 x),Bt,.el (aI .i64 e304),.ld (aI .i64 e304)] (o:=by repeat' first|apply Ya|exact pcM|exact(List.getElem?_set_self (by have hq:=X26 h305;simp;omega)).trans rfl|exact X0k) ?_
   intro h
   exact wkT [] (ih (k+1) hx1 _ o h C0 C1)
  refine brI (fun h306=>?_) fun h306=>?_
  ·
   refine bI fun Xny h332=>rnI [Bt,.el (X4 x),Bf,Bt,.stop 16] ?_
   intro h
   refine X2.join (s':=⟨fr [(7,(AV.ptr 0 0 0)),(8,(AV.ref 1 0 (Xny.length))),(28,(Lf (X8e.map X4))),(29,(aI .i64 (X8e.length:Int))),(30,(aI .i64 (k:Int)))],hp ([(0,Ob [(Xa1 Xf)] 5),(1,Ob (List.map (aI .i64) Xny) 1)]),2⟩) ?_ (fun J=>X2.cut ?_)
   ·
    exact X7 [] (k:=wkT [] (ih (k+1) hx1 _ o h C0 C1))
   clear h;revert h332
   refine brI (fun h320=>?_) fun h320=>?_
   ·
    refine bI fun e321 h322=>?_
    try have qh322:=Xv h322
    intro h
    obtain rfl:=oj h
    exact X7 [.ix 0,.el (aI .i64 e321),.ld (aI .i64 e321)] (o:=by repeat' first|apply Ya|exact pcM|exact((eq_of_beq h320))|exact(List.getElem?_set_self (by have hq:=X26 h322;simp;omega)).trans rfl|exact X0k) (k:=wkT [] (X2.glue J))
   refine brI (fun h323=>?_) fun h323=>?_
   ·
    refine bI fun e324 h325=>?_
    try have qh325:=Xv h325
    intro h
    obtain rfl:=oj h
    exact X7 [.ix 2,.el (aI .i64 e324),.ld (aI .i64 e324)] (o:=by repeat' first|apply Ya|exact pcM|exact((eq_of_beq h323))|exact(List.getElem?_set_self (by have hq:=X26 h325;simp;omega)).trans rfl|exact X0k) (k:=wkT [] (X2.glue J))
   refine brI (fun h326=>?_) fun h326=>?_
   ·
    refine bI fun e327 h328=>?_
    try have qh328:=Xv h328
    intro h
    obtain rfl:=oj h
    exact X7 [.ix 3,.el (aI .i64 e327),.ld (aI .i64 e327)] (o:=by repeat' first|apply Ya|exact pcM|exact((eq_of_beq h326))|exact(List.getElem?_set_self (by have hq:=X26 h328;simp;omega)).trans rfl|exact X0k) (k:=wkT [] (X2.glue J))
   refine brI (fun h329=>?_) fun h329=>?_
   ·
    refine bI fun e330 h331=>?_
    try have qh331:=Xv h331
    intro h
    obtain rfl:=oj h
    exact X7 [.ix 4,.el (aI .i64 e330),.ld (aI .i64 e330)] (o:=by repeat' first|apply Ya|exact pcM|exact((eq_of_beq h329))|exact(List.getElem?_set_self (by have hq:=X26 h331;simp;omega)).trans rfl|exact X0k) (k:=wkT [] (X2.glue J))
   intro h
   cases h
  refine bI fun e333 h334=>?_
  try have qh334:=Xv h334
  refine bI fun e335 h336=>?_
  try have qh336:=Xv h336
  refine bI fun v337 h338=>rnI [Bt,.el (X4 x),Bf,Bf,.el (aI .i64 e333),.ld (aI .i64 e333),.el (aI .i64 e335),.ld (aI .i64 e335),.pure _ (AV.tup [(aI .i64 v337.1),(aI .i64 v337.2)])] ?_
  refine brI (fun h339=>fun e=>X7 [Bt] (k:=wkT [] (C1 _ _  nbS (oj e).symm))) fun h339=>bI fun e340 h341=>?_
  try have qh341:=Xv h341
  refine rnI [Bf,.el (aI .i64 e340),.ld (aI .i64 e340)] (o:=by repeat' first|apply Ya|exact pcM|exact(List.getElem?_set_self (by have hq:=X26 h341;simp;omega)).trans rfl|exact X0k) ?_
  intro h
  exact wkT [] (ih (k+1) hx1 _ o h C0 C1)
instance X04z:PCs Tryz.prog 59 (∀ (a0:(List X03)) (a1:Xc) (r:(List Int)×Int),Xez a0 a1=some r->X0j Tryz.prog 59 [(Lf (a0.map X4)),(X0 a1)] (AV.tup [(AV.list true (List.map (aI .i64) r.1)),(aI .i64 r.2)])):=⟨fun a0 a1 r h=>by
 refine X0j.sym X9 fn59 (nt:=80) rfl rfl ?_ okM
 unfold Xez at h
 revert h
 refine bI fun v1 h2=>brI (fun h3=>fun e=>oj e▸X7 [.pure _ (aI .i64 v1),Bt] (k:=fi)) fun h3=>bI fun u4 h5=>?_
 have qh5:=X06d h5
 refine brI (fun q=>?_) fun q=>?_
 ·
  intro h
  have h6:(a0.length:Int)=0:=by simpa using q
  revert h
  refine bI fun u7 h8=>?_
  have qh8:=X09 h8
  refine bI fun o220 h221=>rnI [.pure _ (aI .i64 v1),Bf,.el (aI .i64 (a0.length:Int)),.ne false,.el (aI .i64 (a0.length:Int))] (o:=by repeat' first|apply Ya|exact pcM|exact(Int.le_trans qh5.2.2 (by decide))|exact(by omega)|exact X0k) ?_
  intro h
  refine wkT [(0,1)] (X2.cut (Xli (V5.mk 0 0 a1.Key a1.Time a1.Value) a0 qh8 a0 0 (by simp) _ nbS _ h221 ?_ ?_))
  ·
   intro Xg Xl eo220;subst eo220
   refine X2.glue ?_
   try dsimp only at h
   rcases Xl with ⟨_|_,X0q⟩
   ·
    revert h
    exact fun e=>oj e▸X7 [] (k:=fi)
   obtain rfl:=X0q rfl
   revert h
   exact fun e=>oj e▸X7 [] (k:=fi)
  intro X0d Xc8 X0b eo220;subst eo220
  refine X2.glue ?_
  try dsimp only at h
  rcases X0b with ⟨_|_,X2n⟩
  ·
   revert h
   exact fun e=>oj e▸X7 [] (k:=fi)
  obtain rfl:=X2n rfl
  revert h
  exact fun e=>oj e▸X7 [] (k:=fi)
 intro h
 have h6:¬ ((a0.length:Int)=0):=by simpa using q
 revert h
 refine bI fun u222 h223=>?_
 have qh223:=X09 h223
 refine bI fun o342 h343=>rnI [.pure _ (aI .i64 v1),Bf,.el (aI .i64 (a0.length:Int)),.el (aI .i64 (a0.length:Int))] (o:=by repeat' first|apply Ya|exact pcM|exact(Int.le_trans qh5.2.2 (by decide))|exact(by omega)|exact X0k) ?_
 intro h
 refine wkT [(0,1),(1,2)] (X2.cut (Xia (V5.mk 0 0 a1.Key a1.Time a1.Value) a0 qh223 a0 0 (by simp) _ _ h343 ?_ ?_))
 ·
  intro Xg eo342;subst eo342
  refine X2.glue ?_
  try dsimp only at h
  revert h
  exact fun e=>oj e▸X7 [] (k:=fi)
 intro X0d Xc8 X0b eo342;subst eo342
 refine X2.glue ?_
 try dsimp only at h
 rcases X0b with ⟨_|_,X2n⟩
 ·
  revert h
  exact fun e=>oj e▸X7 [] (k:=fi)
 obtain rfl:=X2n rfl
 revert h
 exact fun e=>oj e▸X7 [] (k:=fi)⟩
instance Xgd:PCs Tryz.prog 35 (∀ (a0:(List X03)) (a1:Xc) (r:Int×Int),X5o a0 a1=some r->X0j Tryz.prog 35 [(Lf (a0.map X4)),(X0 a1)] (AV.tup [(aI .i64 r.1),(aI .i64 r.2)])):=⟨fun a0 a1 r h=>by
 refine X0j.sym X9 fn35 (nt:=23) rfl rfl ?_ okM
 unfold X5o at h
 revert h
 refine bI fun v1 h2=>brI (fun h3=>fun e=>oj e▸X7 [.pure _ (AV.tup [(AV.list true (List.map (aI .i64) v1.1)),(aI .i64 v1.2)]),Bt] (k:=fi)) fun h3=>bI fun e4 h5=>?_
 try have qh5:=Xv h5
 exact fun e=>oj e▸X7 [.pure _ (AV.tup [(AV.list true (List.map (aI .i64) v1.1)),(aI .i64 v1.2)]),Bf,.el (aI .i64 (v1.1.length:Int)),.wrap,.el (aI .i64 e4)] (k:=fi)⟩
instance Xvu:PCs Tryz.prog 50 (∀ (a0:Xw) (a1:Xc) (r:Xc×Bool),X6m a0 a1=some r->X0j Tryz.prog 50 [(Xn false a0),(X0 a1)] (AV.tup [(X0 r.1),(aB r.2)])):=⟨fun a0 a1 r h=>by
 refine X0j.sym X9 fn50 (nt:=47) rfl rfl ?_ okM
 unfold X6m at h
 revert h
 refine brI (fun h1=>?_) fun h1=>?_
 ·
  refine bI fun v2 h3=>brI (fun h4=>fun e=>oj e▸X7 [.el (aI .i64 (a0.Where.length:Int)),Bt,.pure _ (AV.tup [(aI .i64 v2.1),(aI .i64 v2.2)]),Bt] (k:=fi)) fun h4=>bI fun Xnx h8=>rnI [.el (aI .i64 (a0.Where.length:Int)),Bt,.pure _ (AV.tup [(aI .i64 v2.1),(aI .i64 v2.2)]),Bf] ?_
  intro h
  refine X2.join (s':=⟨fr [(2,(AV.ptr 0 0 0)),(3,(AV.ptr 1 0 0)),(4,(AV.ptr 2 0 0)),(8,(AV.ptr 3 0 0))],hp ([(0,Ob [(Xn false a0)] 10),(1,Ob [(X0 a1)] 3),(2,Ob [(X0 (Xc.mk 0 0 0))] 3),(3,Ob [(X0 Xnx)] 3)]),4⟩) ?_ (fun J=>X2.cut ?_)
  ·
   revert h
   refine bI fun Xq7 h16=>rnI [] ?_
   intro h
   refine X2.join (s':=⟨fr [(4,(AV.ptr 0 0 0)),(8,(AV.ptr 1 0 0))],hp ([(0,Ob [(X0 (Xc.mk 0 0 0))] 3),(1,Ob [(X0 Xq7)] 3)]),2⟩) ?_ (fun J=>X2.cut ?_)
   ·
    revert h
    exact fun e=>oj e▸X7 [] (k:=fi)
   clear h;revert h16
   refine brI (fun h13=>?_) fun h13=>?_
   ·
    refine bI fun v14 h15=>?_
    intro h
    obtain rfl:=oj h
    exact X7 [Bt,.pure _ (AV.tup [(aI .i64 v14.1),(aI .i64 v14.2)])] (k:=wkT [(0,2),(1,3)] (X2.glue J))
   intro h
   obtain rfl:=oj h
   exact X7 [Bf] (k:=wkT [(0,2),(1,3)] (X2.glue J))
  clear h;revert h8
  refine brI (fun h7=>?_) fun h7=>?_
  ·
   intro h
   obtain rfl:=oj h
   exact X7 [Bt] (k:=wkT [] (X2.glue J))
  intro h
  obtain rfl:=oj h
  exact X7 [Bf] (k:=wkT [] (X2.glue J))
 refine bI fun Xq6 h20=>rnI [.el (aI .i64 (a0.Where.length:Int)),Bf] ?_
 intro h
 refine X2.join (s':=⟨fr [(2,(AV.ptr 0 0 0)),(3,(AV.ptr 1 0 0)),(4,(AV.ptr 2 0 0)),(8,(AV.ptr 3 0 0))],hp ([(0,Ob [(Xn false a0)] 10),(1,Ob [(X0 a1)] 3),(2,Ob [(X0 (Xc.mk 0 0 0))] 3),(3,Ob [(X0 Xq6)] 3)]),4⟩) ?_ (fun J=>X2.cut ?_)
 ·
  revert h
  refine bI fun Xzg h28=>rnI [] ?_
  intro h
  refine X2.join (s':=⟨fr [(4,(AV.ptr 0 0 0)),(8,(AV.ptr 1 0 0))],hp ([(0,Ob [(X0 (Xc.mk 0 0 0))] 3),(1,Ob [(X0 Xzg)] 3)]),2⟩) ?_ (fun J=>X2.cut ?_)
  ·
   revert h
   exact fun e=>oj e▸X7 [] (k:=fi)
  clear h;revert h28
  refine brI (fun h25=>?_) fun h25=>?_
  ·
   refine bI fun v26 h27=>?_
   intro h
   obtain rfl:=oj h
   exact X7 [Bt,.pure _ (AV.tup [(aI .i64 v26.1),(aI .i64 v26.2)])] (k:=wkT [(0,2),(1,3)] (X2.glue J))
  intro h
  obtain rfl:=oj h
  exact X7 [Bf] (k:=wkT [(0,2),(1,3)] (X2.glue J))
 clear h;revert h20
 refine brI (fun h19=>?_) fun h19=>?_
 ·
  intro h
  obtain rfl:=oj h
  exact X7 [Bt] (k:=wkT [] (X2.glue J))
 intro h
 obtain rfl:=oj h
 exact X7 [Bf] (k:=wkT [] (X2.glue J))⟩
instance X4t:PCs Tryz.prog 121 (∀ (a0:X0a) (r:Int),X3l a0=some r->X0j Tryz.prog 121 [(X0c a0)] (aI .i64 r)):=⟨fun a0 r h=>by
 refine X0j.sym X9 X0br (nt:=43) rfl rfl ?_ okM
 unfold X3l at h
 revert h
 refine bI fun j4_3 h8=>rnI [] ?_
 intro h
 refine X2.join (s':=⟨fr [(3,(aB j4_3))],hp ([]),0⟩) ?_ (fun J=>X2.cut ?_)
 ·
  revert h
  exact brI (fun h9=>fun e=>oj e▸X7 [Bt] (k:=fi)) fun h9=>fun e=>oj e▸X7 [Bf] (k:=fi)
 clear h;revert h8
 refine brI (fun h5=>?_) fun h5=>?_
 ·
  intro h
  obtain rfl:=oj h
  exact X7 [Bt] (k:=wkT [] (X2.glue J))
 refine brI (fun h6=>?_) fun h6=>?_
 ·
  intro h
  obtain rfl:=oj h
  exact X7 [Bf,Bt] (k:=wkT [] (X2.glue J))
 refine brI (fun h7=>?_) fun h7=>?_
 ·
  intro h
  obtain rfl:=oj h
  exact X7 [Bf,Bf,Bt] (k:=wkT [] (X2.glue J))
 intro h
 obtain rfl:=oj h
 exact X7 [Bf,Bf,Bf] (k:=wkT [] (X2.glue J))⟩
instance Xfq:PCs Tryz.prog 109 (∀ (a0:X6) (r:Bool),Xa7 a0=some r->X0j Tryz.prog 109 [(X5 a0)] (aB r)):=⟨fun a0 r h=>by
 refine X0j.sym X9 X0bz (nt:=46) rfl rfl ?_ okM
 unfold Xa7 at h
 revert h
 refine brI (fun h1=>fun e=>oj e▸X7 [Bt] (k:=fi)) fun h1=>bI fun j8_2 h15=>rnI [Bf,.stop 3] ?_
 intro h
 refine X2.join (s':=⟨fr [(2,(aB j8_2))],hp ([]),0⟩) ?_ (fun J=>X2.cut ?_)
 ·
  revert h
  exact fun e=>oj e▸X7 [] (k:=fi)
 clear h;revert h15
 refine bI fun v9 h10=>brI (fun h11=>?_) fun h11=>?_
 ·
  refine bI fun v12 h13=>brI (fun h14=>?_) fun h14=>?_
  ·
   intro h
   obtain rfl:=oj h
   exact X7 [.ix 0,.pure _ (aI .i64 v9),.go true,.go true,.ix 1,.go true,.go true,.pure _ (aI .i64 v12),.go true,.go true,.go true,.ix 0,.go true,.go true,.go true,.go true,.ix 1,.go true,.go true,.go true,.wrap,.go true] (o:=by repeat' first|apply Ya|exact pcM|exact((Xh h11 h14))|exact(X0o (Xh h11 h14))|exact(Xlt (Xh h11 h14))|exact X0k) (k:=wkT [] (X2.glue J))
  intro h
  obtain rfl:=oj h
  exact X7 [.ix 0,.pure _ (aI .i64 v9),.go true,.go true,.ix 1,.go true,.go true,.pure _ (aI .i64 v12),.go true,.go false,.go false,.go false,.go false,.go false,.go false,.go false,.go false,.go false,.go false] (o:=by repeat' first|apply Ya|exact pcM|exact((Xh h11 h14))|exact(X0o (Xh h11 h14))|exact(Xf3 (Xh h11 h14))|exact X0k) (k:=wkT [] (X2.glue J))
 intro h
 obtain rfl:=oj h
 exact X7 [.ix 0,.pure _ (aI .i64 v9),.go false,.go false,.go false,.go false,.go false,.go false,.go false,.go false,.go false,.go false,.go false,.go false,.go false,.go false,.go false] (o:=by repeat' first|apply Ya|exact pcM|exact((Xx h11 rfl))|exact(X0o (Xx h11 rfl))|exact(Xf3 (Xx h11 rfl))|exact X0k) (k:=wkT [] (X2.glue J))⟩
instance Xuq:PCs Tryz.prog 102 (∀ (a0:Int) (r:Bool),X64 a0=some r->X0j Tryz.prog 102 [(aI .i64 a0)] (aB r)):=⟨fun a0 r h=>by
 refine X0j.sym X9 X0c4 (nt:=6) rfl rfl ?_ okM
 unfold X64 at h
 revert h
 exact fun e=>oj e▸X7 [] (k:=fi)⟩
instance Xr6:PCs Tryz.prog 66 (∀ (a0:Int) (a1:Int) (r:Int),X2q a0 a1=some r->X0j Tryz.prog 66 [(aI .i64 a0),(aI .i64 a1)] (aI .i64 r)):=⟨fun a0 a1 r h=>by
 refine X0j.sym X9 fn66 (nt:=20) rfl rfl ?_ okM
 unfold X2q at h
 revert h
 exact bI fun v1 h2=>bI fun v3 h4=>brI (fun h5=>brI (fun h6=>fun e=>oj e▸X7 [.pure _ (aB v1),.pure _ (aB v3),Bt,Bt] (k:=fi)) fun h6=>fun e=>oj e▸X7 [.pure _ (aB v1),.pure _ (aB v3),Bt,Bf] (k:=fi)) fun h5=>brI (fun h7=>fun e=>oj e▸X7 [.pure _ (aB v1),.pure _ (aB v3),Bf,Bt] (k:=fi)) fun h7=>brI (fun h8=>fun e=>oj e▸X7 [.pure _ (aB v1),.pure _ (aB v3),Bf,Bf,Bt] (k:=fi)) fun h8=>brI (fun h9=>fun e=>oj e▸X7 [.pure _ (aB v1),.pure _ (aB v3),Bf,Bf,Bf,Bt] (k:=fi)) fun h9=>fun e=>oj e▸X7 [.pure _ (aB v1),.pure _ (aB v3),Bf,Bf,Bf,Bf] (k:=fi)⟩
theorem Xjj {Q:X01->St->Mu->Prop} {μ:Mu} (Xgi:(List Int)) (hl:Xgi.length<=140737488355328):∀ (xs:List Int) (k:Nat) (hx:Xgi.drop k=xs) (o:X83) (h:X6b Xgi xs k  = some o)
  (C0:o=X83.x0->X2 Tryz.prog 18 0 Q (.exit (.exit 0)) [] ⟨fr [(3,(aI .i64 0))],hp ([]),0⟩ μ)
  (C1:∀ (X4n:Int),o=X83.x1 X4n->X2 Tryz.prog 18 0 Q (.exit .ret) [] ⟨fr [(2,(aI .i64 X4n))],hp ([]),0⟩ μ),
  X2 Tryz.prog 18 0 Q (.loop (X30 0 (Xj Tryz.f65))) [] ⟨fr [(3,(aI .i64 0)),(6,(Lf (List.map (aI .i64) Xgi))),(7,(aI .i64 (Xgi.length:Int))),(8,(aI .i64 (k:Int)))],hp ([]),0⟩ μ:=by
 intro xs
 induction xs with
 |nil =>
  intro k hx  o h C0 C1
  have hk:=drop_nil hx
  have hc:decide ((k:Int)<(Xgi.length:Int))=false:=Yf (by omega)
  rw[X6b] at h
  refine X2.round ?_
  revert h
  exact fun e=>X7 [Bf] (k:=wkT [] (C0  (oj e).symm))
 |cons x xs ih =>
  intro k hx  o h C0 C1
  obtain⟨hk,hg,hx1⟩:=drop_cons hx
  have hc:decide ((k:Int)<(Xgi.length:Int))=true:=Yt (by omega)
  rw[X6b] at h
  refine X2.round ?_
  revert h
  refine brI (fun h6=>fun e=>X7 [Bt,.el (aI .i64 x),Bt] (k:=wkT [] (C1 _  (oj e).symm))) fun h6=>rnI [Bt,.el (aI .i64 x),Bf] ?_
  intro h
  exact wkT [] (ih (k+1) hx1  o h C0 C1)
instance X047:PCs Tryz.prog 65 (∀ (a0:(List Int)) (r:Int),Xfk a0=some r->X0j Tryz.prog 65 [(Lf (List.map (aI .i64) a0))] (aI .i64 r)):=⟨fun a0 r h=>by
 refine X0j.sym X9 fn65 (nt:=18) rfl rfl ?_ okM
 unfold Xfk at h
 revert h
 refine bI fun u1 h2=>?_
 have qh2:=X09 h2
 refine bI fun o7 h8=>rnI [.el (aI .i64 (a0.length:Int))] ?_
 intro h
 refine wkT [] (X2.cut (Xjj a0 qh2 a0 0 (by simp) _ h8 ?_ ?_))
 ·
  intro eo7;subst eo7
  refine X2.glue ?_
  try dsimp only at h
  revert h
  exact fun e=>oj e▸X7 [] (k:=fi)
 intro X4n eo7;subst eo7
 refine X2.glue ?_
 try dsimp only at h
 revert h
 exact fun e=>oj e▸X7 [] (k:=fi)⟩
instance X011:PCs Tryz.prog 110 (∀ (a0:X6) (a1:X6) (r:Int),X6x a0 a1=some r->X0j Tryz.prog 110 [(X5 a0),(X5 a1)] (aI .i64 r)):=⟨fun a0 a1 r h=>by
 refine X0j.sym X9 X0by (nt:=26) rfl rfl ?_ okM
 unfold X6x at h
 revert h
 exact bI fun v1 h2=>bI fun v3 h4=>bI fun v5 h6=>bI fun v7 h8=>fun e=>oj e▸X7 [.pure _ (aI .i64 v1),.pure _ (aI .i64 v3),.pure _ (aI .i64 v5),.pure _ (aI .i64 v7)] (k:=fi)⟩
theorem X8h {Q:X01->St->Mu->Prop} {μ:Mu} (X07:(List X6)) (hl:X07.length<=140737488355328):∀ (xs:List X6) (k:Nat) (hx:X07.drop k=xs) (o:X6o) (h:X4b X07 xs k  = some o)
  (C0:o=X6o.x0->X2 Tryz.prog 33 0 Q (.exit (.exit 0)) [] ⟨fr [],hp ([]),0⟩ μ)
  (C1:o=X6o.x1->X2 Tryz.prog 33 0 Q (.exit .ret) [] ⟨fr [(2,(aI .i64 8))],hp ([]),0⟩ μ),
  X2 Tryz.prog 33 0 Q (.loop (X30 0 (Xj Tryz.f77))) [] ⟨fr [(0,(Lf (X07.map X5))),(8,(Lf (X07.map X5))),(9,(aI .i64 (X07.length:Int))),(10,(aI .i64 (k:Int)))],hp ([]),0⟩ μ:=by
 intro xs
 induction xs with
 |nil =>
  intro k hx  o h C0 C1
  have hk:=drop_nil hx
  have hc:decide ((k:Int)<(X07.length:Int))=false:=Yf (by omega)
  rw[X4b] at h
  refine X2.round ?_
  revert h
  exact fun e=>X7 [Bf] (k:=wkT [] (C0  (oj e).symm))
 |cons x xs ih =>
  intro k hx  o h C0 C1
  obtain⟨hk,hg,hx1⟩:=drop_cons hx
  have hc:decide ((k:Int)<(X07.length:Int))=true:=Yt (by omega)
  rw[X4b] at h
  refine X2.round ?_
  revert h
  refine bI fun Xz9 h60=>rnI [Bt,.el (X5 x),.stop 6] ?_
  intro h
  refine X2.join (s':=⟨fr [(0,(Lf (X07.map X5))),(8,(Lf (X07.map X5))),(9,(aI .i64 (X07.length:Int))),(10,(aI .i64 (k:Int))),(31,(aB Xz9))],hp ([]),0⟩) ?_ (fun J=>X2.cut ?_)
  ·
   revert h
   refine brI (fun h61=>fun e=>X7 [Bt] (k:=wkT [] (C1  (oj e).symm))) fun h61=>rnI [Bf] ?_
   intro h
   exact wkT [] (ih (k+1) hx1  o h C0 C1)
  clear h;revert h60
  refine bI fun v52 h53=>brI (fun h54=>?_) fun h54=>?_
  ·
   intro h
   obtain rfl:=oj h
   exact X7 [.pure _ (aB v52),.go false,.go false,.go false,.no,.no,.no,.no,.no,.no,.no,.no,.go false,.go true] (k:=wkT [] (X2.glue J))
  refine brI (fun h55=>?_) fun h55=>?_
  ·
   refine bI fun e56 h57=>?_
   try have qh57:=Xv h57
   refine bI fun v58 h59=>?_
   intro h
   obtain rfl:=oj h
   exact X7 [.pure _ (aB v52),.go true,.go true,.go true,.go true,.go true,.go true,.wrap,.go true,.el (X5 e56),.go true,.go true,.go true,.pure _ (aI .i64 v58),.go true,.go true] (k:=wkT [] (X2.glue J))
  intro h
  obtain rfl:=oj h
  exact X7 [.pure _ (aB v52),.go true,.go true,.go true,.go false,.go false,.go false,.go false,.go false,.go false,.go false,.go false,.go true,.go false] (k:=wkT [] (X2.glue J))
instance Xbs:PCs Tryz.prog 77 (∀ (a0:(List X6)) (r:Int),Xa8 a0=some r->X0j Tryz.prog 77 [(Lf (a0.map X5))] (aI .i64 r)):=⟨fun a0 r h=>by
 refine X0j.sym X9 fn77 (nt:=33) rfl rfl ?_ okM
 unfold Xa8 at h
 revert h
 refine brI (fun h1=>fun e=>oj e▸X7 [.el (aI .i64 (a0.length:Int)),Bt] (k:=fi)) fun h1=>bI fun u2 h3=>?_
 have qh3:=X09 h3
 refine bI fun o62 h63=>rnI [.el (aI .i64 (a0.length:Int)),Bf,.el (aI .i64 (a0.length:Int))] ?_
 intro h
 refine wkT [] (X2.cut (X8h a0 qh3 a0 0 (by simp) _ h63 ?_ ?_))
 ·
  intro eo62;subst eo62
  refine X2.glue ?_
  try dsimp only at h
  revert h
  exact fun e=>oj e▸X7 [] (k:=fi)
 intro eo62;subst eo62
 refine X2.glue ?_
 try dsimp only at h
 revert h
 exact fun e=>oj e▸X7 [] (k:=fi)⟩
instance X054:PCs Tryz.prog 79 (∀ (a0:Int) (r:X0a),Xb2 a0=some r->X0j Tryz.prog 79 [(aI .i64 a0)] (X0c r)):=⟨fun a0 r h=>by
 refine X0j.sym X9 fn79 (nt:=7) rfl rfl ?_ okM
 unfold Xb2 at h
 revert h
 exact fun e=>oj e▸X7 [] (k:=fi)⟩
instance Xx5:PCs Tryz.prog 111 (∀ (a0:Int) (a1:Int) (r:Int),X42 a0 a1=some r->X0j Tryz.prog 111 [(aI .i64 a0),(aI .i64 a1)] (aI .i64 r)):=⟨fun a0 a1 r h=>by
 refine X0j.sym X9 X0bx (nt:=17) rfl rfl ?_ okM
 unfold X42 at h
 revert h
 exact brI (fun h1=>fun e=>oj e▸X7 [Bt] (k:=fi)) fun h1=>brI (fun h2=>fun e=>oj e▸X7 [Bf,Bt] (k:=fi)) fun h2=>fun e=>oj e▸X7 [Bf,Bf] (k:=fi)⟩
instance Xu8:PCs Tryz.prog 166 (∀ (a0:Int) (r:Int),Xaw a0=some r->X0j Tryz.prog 166 [(aI .u64 a0)] (aI .i64 r)):=⟨fun a0 r h=>by
 refine X0j.sym X9 X0b0 (nt:=25) rfl rfl ?_ okM
 unfold Xaw at h
 revert h
 refine bI fun w2 h4=>?_
 intro h
 obtain⟨j2_0,j2_2⟩:=w2
 try dsimp only at h
 refine X10 [] ?_
 refine X2.join (s':=⟨fr [(0,(aI .u64 j2_0)),(2,(aI .i64 j2_2))],hp ([]),0⟩) ?_ (fun J=>X2.cut ?_)
 ·
  revert h
  refine bI fun w6 h8=>?_
  intro h
  obtain⟨j6_0,j6_2⟩:=w6
  try dsimp only at h
  refine X10 [] ?_
  refine X2.join (s':=⟨fr [(0,(aI .u64 j6_0)),(2,(aI .i64 j6_2))],hp ([]),0⟩) ?_ (fun J=>X2.cut ?_)
  ·
   revert h
   refine bI fun w10 h12=>?_
   intro h
   obtain⟨X0an,X0am⟩:=w10
   try dsimp only at h
   refine X10 [] ?_
   refine X2.join (s':=⟨fr [(0,(aI .u64 X0an)),(2,(aI .i64 X0am))],hp ([]),0⟩) ?_ (fun J=>X2.cut ?_)
   ·
    revert h
    exact bI fun b13 h14=>fun e=>oj e▸X7 [.wrap,.el (aI .u8 b13),.wrap,.wrap] (o:=by repeat' first|apply Ya|exact pcM|exact(X8z h14)|exact(X08m (tab:=Xii) rfl h14)|exact X0k) (k:=fi)
   clear h;revert h12
   refine brI (fun h11=>?_) fun h11=>?_
   ·
    intro h
    simp only[Option.some.injEq,Prod.mk.injEq] at h
    obtain⟨rfl,rfl⟩:=h
    exact X7 [Bt,.wrap] (k:=wkT [] (X2.glue J))
   intro h
   simp only[Option.some.injEq,Prod.mk.injEq] at h
   obtain⟨rfl,rfl⟩:=h
   exact X7 [Bf] (k:=wkT [] (X2.glue J))
  clear h;revert h8
  refine brI (fun h7=>?_) fun h7=>?_
  ·
   intro h
   simp only[Option.some.injEq,Prod.mk.injEq] at h
   obtain⟨rfl,rfl⟩:=h
   exact X7 [Bt,.wrap] (k:=wkT [] (X2.glue J))
  intro h
  simp only[Option.some.injEq,Prod.mk.injEq] at h
  obtain⟨rfl,rfl⟩:=h
  exact X7 [Bf] (k:=wkT [] (X2.glue J))
 clear h;revert h4
 refine brI (fun h3=>?_) fun h3=>?_
 ·
  intro h
  simp only[Option.some.injEq,Prod.mk.injEq] at h
  obtain⟨rfl,rfl⟩:=h
  exact X7 [Bt] (k:=wkT [] (X2.glue J))
 intro h
 simp only[Option.some.injEq,Prod.mk.injEq] at h
 obtain⟨rfl,rfl⟩:=h
 exact X7 [Bf] (k:=wkT [] (X2.glue J))⟩
instance Xxg:PCs Tryz.prog 133 (∀ (a0:Int) (r:Int),X9n a0=some r->X0j Tryz.prog 133 [(aI .u64 a0)] (aI .i64 r)):=⟨fun a0 r h=>by
 refine X0j.sym X9 X0bh (nt:=8) rfl rfl ?_ okM
 unfold X9n at h
 revert h
 exact bI fun v1 h2=>fun e=>oj e▸X7 [Bf,.pure _ (aI .i64 v1)] (k:=fi)⟩
theorem X4d {Q:X01->St->Mu->Prop} {μ:Mu} (X07:(List X6)) (Xf:X6) (Xto:Int):∀ (n:Nat) (Xhi:Int) (X4m:Int) (o:X14) (h:X00 X07 Xf Xto n Xhi X4m=some o)
  (C0:∀ (Xfp:Int),o=X14.x0 Xfp->X2 Tryz.prog 49 0 Q (.exit (.exit 0)) [] ⟨fr [(0,(Lf (X07.map X5))),(2,(AV.fn 110 [])),(4,(AV.ptr 0 0 0)),(8,(aI .i64 Xto)),(9,(aI .i64 Xfp))],hp ([(0,Ob [(X5 Xf)] 11)]),1⟩ μ),
  X2 Tryz.prog 49 0 Q (.loop (X30 0 (Xj Tryz.f119))) [] ⟨fr [(0,(Lf (X07.map X5))),(2,(AV.fn 110 [])),(4,(AV.ptr 0 0 0)),(8,(aI .i64 Xto)),(9,(aI .i64 Xhi)),(10,(aI .i64 X4m))],hp ([(0,Ob [(X5 Xf)] 11)]),1⟩ μ:=by
 intro n
 induction n with
 |zero=>intro Xhi X4m o h C0;cases h
 |succ n ih =>
  intro Xhi X4m o h C0
  rw[X00] at h
  refine X2.round ?_
  revert h
  refine brI (fun h14=>?_) fun h14=>fun e=>X7 [Bf] (k:=wkT [] (C0 _  (oj e).symm))
  refine bI fun e15 h16=>?_
  try have qh16:=Xv h16
  refine bI fun v17 h18=>brI (fun h19=>?_) fun h19=>?_
  ·
   refine rnI [Bt,.wrap,.wrap,.wrap,.el (X5 e15),.pure _ (aI .i64 v17),Bt,.wrap] ?_
   intro h
   exact wkT [] (ih  _ _ o h C0)
  refine rnI [Bt,.wrap,.wrap,.wrap,.el (X5 e15),.pure _ (aI .i64 v17),Bf] ?_
  intro h
  exact wkT [] (ih  _ _ o h C0)
theorem Xt (a0:(List X6)) (a1:X6) (r:Int×Bool) (h:Xp a0 a1=some r):X0j Tryz.prog 119 [(Lf (a0.map X5)),(X5 a1),(AV.fn 110 [])] (AV.tup [(aI .i64 r.1),(aB r.2)]):=by
 refine X0j.sym X9 X0bs (nt:=49) rfl rfl ?_ okM
 unfold Xp at h
 revert h
 refine bI fun o20 h21=>rnI [.el (aI .i64 (a0.length:Int))] ?_
 intro h
 refine wkT [] (X2.cut (X4d a0 a1 (a0.length:Int) _ _ _ _ h21 ?_))
 intro Xfp eo20;subst eo20
 refine X2.glue ?_
 try dsimp only at h
 revert h
 refine bI fun X076 h33=>rnI [.stop 8] ?_
 intro h
 refine X2.join (s':=⟨fr [(6,(aI .i64 Xfp)),(7,(aB X076))],hp ([]),0⟩) ?_ (fun J=>X2.cut ?_)
 ·
  revert h
  exact fun e=>oj e▸X7 [] (k:=fi)
 clear h;revert h33
 refine brI (fun h28=>?_) fun h28=>?_
 ·
  refine bI fun e29 h30=>?_
  try have qh30:=Xv h30
  refine bI fun v31 h32=>?_
  intro h
  obtain rfl:=oj h
  exact X7 [.go true,.go true,.go true,.go true,.el (X5 e29),.go true,.go true,.go true,.pure _ (aI .i64 v31),.go true] (k:=wkT [] (X2.glue J))
 intro h
 obtain rfl:=oj h
 exact X7 [.go false,.go false,.go false,.go false,.go false,.go false,.go false,.go false,.go false] (k:=wkT [] (X2.glue J))
instance X4k:PCs Tryz.prog 142 (∀ (a0:X0a) (a1:X0a) (r:X0a×Int),X2d a0 a1=some r->X0j Tryz.prog 142 [(X0c a0),(X0c a1)] (AV.tup [(X0c r.1),(aI .i64 r.2)])):=⟨fun a0 a1 r h=>by
 refine X0j.sym X9 X0bc (nt:=53) rfl rfl ?_ okM
 unfold X2d at h
 revert h
 refine bI fun X06q h12=>rnI [.stop 1] ?_
 intro h
 refine X2.join (s':=⟨fr [(2,(AV.ptr 0 0 0)),(3,(AV.ptr 1 0 0)),(4,(AV.ptr 2 0 0)),(13,(aB X06q))],hp ([(0,Ob [(X0c a0)] 4),(1,Ob [(X0c a1)] 4),(2,Ob [(X0c (X0a.mk 0 0 0 0))] 4)]),3⟩) ?_ (fun J=>X2.cut ?_)
 ·
  revert h
  exact brI (fun h13=>fun e=>oj e▸X7 [Bt] (k:=fi)) fun h13=>brI (fun h14=>fun e=>oj e▸X7 [Bf,.wrap,Bt] (k:=fi)) fun h14=>brI (fun h15=>fun e=>oj e▸X7 [Bf,.wrap,Bf,Bt] (k:=fi)) fun h15=>brI (fun h16=>fun e=>oj e▸X7 [Bf,.wrap,Bf,Bf,Bt] (k:=fi)) fun h16=>fun e=>oj e▸X7 [Bf,.wrap,Bf,Bf,Bf,.wrap,.wrap] (k:=fi)
 clear h;revert h12
 refine bI fun v7 h8=>brI (fun h9=>?_) fun h9=>?_
 ·
  intro h
  obtain rfl:=oj h
  exact X7 [.pure _ (aI .i64 v7),.go false,.go false,.go false] (k:=wkT [] (X2.glue J))
 refine bI fun v10 h11=>?_
 intro h
 obtain rfl:=oj h
 exact X7 [.pure _ (aI .i64 v7),.go true,.go true,.pure _ (aI .i64 v10),.go true] (k:=wkT [] (X2.glue J))⟩
instance Xxr:PCs Tryz.prog 178 (∀ (a0:Int) (a1:Int) (r:Int),Xbb a0 a1=some r->X0j Tryz.prog 178 [(aI .i64 a0),(aI .i64 a1)] (aI .i64 r)):=⟨fun a0 a1 r h=>by
 refine X0j.sym X9 X0ax (nt:=17) rfl rfl ?_ okM
 unfold Xbb at h
 revert h
 exact brI (fun h1=>fun e=>oj e▸X7 [Bt] (k:=fi)) fun h1=>brI (fun h2=>fun e=>oj e▸X7 [Bf,Bt] (k:=fi)) fun h2=>fun e=>oj e▸X7 [Bf,Bf] (k:=fi)⟩
instance Xx4:PCs Tryz.prog 143 (∀ (a0:Int) (a1:Int) (r:Int×Int),X7i a0 a1=some r->X0j Tryz.prog 143 [(aI .i64 a0),(aI .i64 a1)] (AV.tup [(aI .i64 r.1),(aI .i64 r.2)])):=⟨fun a0 a1 r h=>by
 refine X0j.sym X9 X0bb (nt:=24) rfl rfl ?_ okM
 unfold X7i at h
 revert h
 refine bI fun v1 h2=>brI (fun h3=>fun e=>oj e▸X7 [.pure _ (aI .i64 v1),Bt] (k:=fi)) fun h3=>bI fun u4 h5=>bI fun j7_7 h9=>rnI [.pure _ (aI .i64 v1),Bf,.wrap] ?_
 intro h
 refine X2.join (s':=⟨fr [(7,(aI .i64 j7_7))],hp ([]),0⟩) ?_ (fun J=>X2.cut ?_)
 ·
  revert h
  exact fun e=>oj e▸X7 [] (k:=fi)
 clear h;revert h9
 refine brI (fun h8=>?_) fun h8=>?_
 ·
  intro h
  obtain rfl:=oj h
  exact X7 [Bt,.wrap] (k:=wkT [] (X2.glue J))
 intro h
 obtain rfl:=oj h
 exact X7 [Bf] (k:=wkT [] (X2.glue J))⟩
instance Xe6:PCs Tryz.prog 117 (∀ (a0:Int) (a1:Int) (r:Xr×Int),Xcb a0 a1=some r->X0j Tryz.prog 117 [(aI .i64 a0),(aI .i64 a1)] (AV.tup [(X3 r.1),(aI .i64 r.2)])):=⟨fun a0 a1 r h=>by
 refine X0j.sym X9 X0bu (nt:=26) rfl rfl ?_ okM
 unfold Xcb at h
 revert h
 exact bI fun v1 h2=>brI (fun h3=>fun e=>oj e▸X7 [.pure _ (AV.tup [(aI .i64 v1.1),(aI .i64 v1.2)]),Bt] (k:=fi)) fun h3=>fun e=>oj e▸X7 [.pure _ (AV.tup [(aI .i64 v1.1),(aI .i64 v1.2)]),Bf,.wrap,.wrap,.wrap] (k:=fi)⟩
theorem Xk9 {Q:X01->St->Mu->Prop} {μ:Mu} (X07:Int) (X27:Int) (Xbp:Int):∀ (n:Nat) (Xf:(List Xr)) (Xk2:Int) (X08:Nb Xf) (o:Xbt) (h:X5v X07 X27 Xbp n Xf Xk2=some o)
  (C0:∀ (Xg:(List Xr)) (Xl:Nb Xg),o=Xbt.x0 Xg->X2 Tryz.prog 70 0 Q (.exit (.exit 0)) [] ⟨fr [(10,(slE Xl.1 0 (Xg.map X3)))],hp ([]++opE Xl.1 0 2 (Xg.map X3)),1⟩ μ),
  X2 Tryz.prog 70 0 Q (.loop (X30 0 (Xj Tryz.f118))) [] ⟨fr [(0,(aI .i64 X07)),(1,(aI .i64 X27)),(2,(aI .i64 Xbp)),(10,(slE X08.1 0 (Xf.map X3))),(11,(aI .i64 Xk2))],hp ([]++opE X08.1 0 2 (Xf.map X3)),1⟩ μ:=by
 intro n
 induction n with
 |zero=>intro Xf Xk2 X08 o h C0;cases h
 |succ n ih =>
  intro Xf Xk2 X08 o h C0
  rw[X5v] at h
  rcases X08 with ⟨_|_,X1o⟩
  ·
   refine X2.round ?_
   revert h
   refine brI (fun h18=>?_) fun h18=>fun e=>X7 [.wrap,Bf] (k:=wkT [] (C0 _  nbF (oj e).symm))
   refine bI fun u19 h20=>rnI [.wrap,Bt,.wrap,.no,.wrap] (o:=by repeat' first|apply Ya|exact pcM|(refine X0g h20 rfl ?_;first|(simp;done)|(simp;omega)|(simp[h18];done)|(simp[h18];omega))|(refine Xz h20 (by decide) ?_;first|(simp;done)|(simp;omega)|(simp[h18];done)|(simp[h18];omega))|exact X0k) ?_
   intro h
   exact wkT [(0,2)] (ih  _ _ nbF o h C0)
  obtain rfl:=X1o rfl
  refine X2.round ?_
  revert h
  refine brI (fun h21=>?_) fun h21=>fun e=>X7 [.wrap,Bf] (k:=wkT [] (C0 _  nbS (oj e).symm))
  refine bI fun u22 h23=>rnI [.wrap,Bt,.wrap,.no,.wrap] (o:=by repeat' first|apply Ya|exact pcM|(refine X0g h23 rfl ?_;first|(simp;done)|(simp;omega)|(simp[h21];done)|(simp[h21];omega))|(refine Xz h23 (by decide) ?_;first|(simp;done)|(simp;omega)|(simp[h21];done)|(simp[h21];omega))|exact X0k) ?_
  intro h
  exact wkT [(0,2)] (ih  _ _ nbF o h C0)
end Go.Av.Tryz