/- Printed by decomp.py: that the program computes the functions. -/
import Derived.Test.YtfdfgobnpnoomaaGreatDCert1Z
set_option linter.all false

namespace Go.Av.Tryz
open Go.Proofs Go.D
set_option maxRecDepth 10000
set_option maxHeartbeats 40000000
instance Xzx:PCs Tryz.prog 175 (∀ (a0:(List X0c)) (r:(List Xq)×Bool),Xdh a0=some r->X11 Tryz.prog 175 [(Lf (a0.map X1))] (AV.tup [(AV.list true (r.1.map Xe)),(aB r.2)])):=⟨fun a0 r h=>by
 refine X11.sym Xh X07f (nt:=105) rfl rfl ?_ okM
 unfold Xdh at h
 revert h
 refine bI fun u1 h2=>?_
 have qh2:=X0u h2
 refine bI fun o475 h476=>rnI [.el (aI .i64 (a0.length:Int))] ?_
 intro h
 refine wkT [] (X3.cut (Xh0 a0 qh2 a0 0 (by simp) _ _ nbS nbS _ h476 ?_ ?_))
 ·
  intro X02 X0n X0i X0o eo475;subst eo475
  refine X3.glue ?_
  try dsimp only at h
  rcases X0i with ⟨_|_,X2q⟩
  ·
   rcases X0o with ⟨_|_,X2a⟩
   ·
    revert h
    exact fun e=>oj e▸Xc [.el (aI .i64 (X0n.length:Int))] (k:=fi)
   obtain rfl:=X2a rfl
   revert h
   exact fun e=>oj e▸Xc [.el (aI .i64 (List.length ([]:List Xq):Int))] (k:=fi)
  obtain rfl:=X2q rfl
  rcases X0o with ⟨_|_,X2a⟩
  ·
   revert h
   exact fun e=>oj e▸Xc [.el (aI .i64 (X0n.length:Int))] (k:=fi)
  obtain rfl:=X2a rfl
  revert h
  exact fun e=>oj e▸Xc [.el (aI .i64 (List.length ([]:List Xq):Int))] (k:=fi)
 intro X0k X0h eo475;subst eo475
 refine X3.glue ?_
 try dsimp only at h
 rcases X0h with ⟨_|_,X2p⟩
 ·
  revert h
  exact fun e=>oj e▸Xc [] (k:=fi)
 obtain rfl:=X2p rfl
 revert h
 exact fun e=>oj e▸Xc [] (k:=fi)⟩
instance Xz1:PCs Tryz.prog 135 (∀ (a0:(List X0c)) (r:(List Xq)×Int),X9v a0=some r->X11 Tryz.prog 135 [(Lf (a0.map X1))] (AV.tup [(AV.list true (r.1.map Xe)),(aI .i64 r.2)])):=⟨fun a0 r h=>by
 refine X11.sym Xh X07r (nt:=25) rfl rfl ?_ okM
 unfold X9v at h
 revert h
 refine brI (fun h1=>fun e=>oj e▸Xc [.el (aI .i64 (a0.length:Int)),Bt] (k:=fi)) fun h1=>bI fun v2 h3=>brI (fun h4=>fun e=>oj e▸Xc [.el (aI .i64 (a0.length:Int)),Bf,.pure _ (AV.tup [(AV.list true (v2.1.map Xe)),(aB v2.2)]),Bt] (k:=fi)) fun h4=>bI fun e5 h6=>?_
 try have qh6:=Xn h6
 refine rnI [.el (aI .i64 (a0.length:Int)),Bf,.pure _ (AV.tup [(AV.list true (v2.1.map Xe)),(aB v2.2)]),Bf,.el (aI .i64 (v2.1.length:Int)),.wrap,.el (Xe e5)] ?_
 exact brI (fun h7=>fun e=>oj e▸Xc [Bt] (k:=fi)) fun h7=>fun e=>oj e▸Xc [Bf] (k:=fi)⟩
instance Xz3:PCs Tryz.prog 106 (∀ (a0:(List X0c)) (r:Int),X5w a0=some r->X11 Tryz.prog 106 [(Lf (a0.map X1))] (aI .i64 r)):=⟨fun a0 r h=>by
 refine X11.sym Xh X088 (nt:=11) rfl rfl ?_ okM
 unfold X5w at h
 revert h
 exact bI fun v1 h2=>fun e=>oj e▸Xc [.pure _ (AV.tup [(AV.list true (v1.1.map Xe)),(aI .i64 v1.2)])] (k:=fi)⟩
instance Xo9:PCs Tryz.prog 136 (∀ (a0:Int) (r:Bool),X68 a0=some r->X11 Tryz.prog 136 [(aI .i64 a0)] (aB r)):=⟨fun a0 r h=>by
 refine X11.sym Xh X07q (nt:=9) rfl rfl ?_ okM
 unfold X68 at h
 revert h
 exact fun e=>oj e▸Xc [] (k:=fi)⟩
theorem X8o {Q:X07->St->Mu->Prop} {μ:Mu} (X0y:(List Int)) (hl:X0y.length<=140737488355328):∀ (xs:List Int) (k:Nat) (hx:X0y.drop k=xs) (o:X23) (h:X10 X0y xs k  = some o)
  (C0:o=X23.x0->X3 Tryz.prog 19 0 Q (.exit (.exit 0)) [] ⟨fr [],hp ([]),0⟩ μ)
  (C1:∀ (Xa7:Int),o=X23.x1 Xa7->X3 Tryz.prog 19 0 Q (.exit .ret) [] ⟨fr [(4,(aI .i64 Xa7))],hp ([]),0⟩ μ),
  X3 Tryz.prog 19 0 Q (.loop (X4t 0 (Xu Tryz.f176))) [] ⟨fr [(0,(Lf (List.map (aI .i64) X0y))),(1,(AV.fn 136 [])),(7,(aI .i64 (X0y.length:Int))),(8,(aI .i64 (k:Int)))],hp ([]),0⟩ μ:=by
 intro xs
 induction xs with
 |nil =>
  intro k hx  o h C0 C1
  have hk:=X1e hx
  have hc:decide ((k:Int)<(X0y.length:Int))=false:=Yf (by omega)
  rw[X10] at h
  refine X3.round ?_
  revert h
  exact fun e=>Xc [Bf] (k:=wkT [] (C0  (oj e).symm))
 |cons x xs ih =>
  intro k hx  o h C0 C1
  obtain⟨hk,hg,hx1⟩:=X0t hx
  have hc:decide ((k:Int)<(X0y.length:Int))=true:=Yt (by omega)
  rw[X10] at h
  refine X3.round ?_
  revert h
  refine bI fun v10 h11=>brI (fun h12=>fun e=>Xc [Bt,.el (aI .i64 x),.pure _ (aB v10),Bt] (k:=wkT [] (C1 _  (oj e).symm))) fun h12=>rnI [Bt,.el (aI .i64 x),.pure _ (aB v10),Bf] ?_
  intro h
  exact wkT [] (ih (k+1) hx1  o h C0 C1)
theorem X4l (a0:(List Int)) (r:Int) (h:X0x a0=some r):X11 Tryz.prog 176 [(Lf (List.map (aI .i64) a0)),(AV.fn 136 [])] (aI .i64 r):=by
 refine X11.sym Xh X07e (nt:=19) rfl rfl ?_ okM
 unfold X0x at h
 revert h
 refine bI fun u1 h2=>?_
 have qh2:=X0u h2
 refine bI fun o13 h14=>rnI [.el (aI .i64 (a0.length:Int))] ?_
 intro h
 refine wkT [] (X3.cut (X8o a0 qh2 a0 0 (by simp) _ h14 ?_ ?_))
 ·
  intro eo13;subst eo13
  refine X3.glue ?_
  try dsimp only at h
  revert h
  exact fun e=>oj e▸Xc [] (k:=fi)
 intro Xa7 eo13;subst eo13
 refine X3.glue ?_
 try dsimp only at h
 revert h
 exact fun e=>oj e▸Xc [] (k:=fi)
theorem X1y (a0:(List Int)) (r:Bool) (h:X0b a0=some r):X11 Tryz.prog 137 [(Lf (List.map (aI .i64) a0)),(AV.fn 136 [])] (aB r):=by
 refine X11.sym Xh X07p (nt:=9) rfl rfl ?_ okM
 unfold X0b at h
 revert h
 exact bI fun v1 h2=>fun e=>oj e▸Xc [.pure [(Lf (List.map (aI .i64) a0)),(AV.fn 136 [])] (aI .i64 v1)] (o:=by repeat' first|apply Ya|exact pcM|exact(pn (X4l _ _ h2) (cc (Xc7 (X04 (fun _=>Xgu) a0)) (cc .fn0 cn)))|exact Xw) (k:=fi)
theorem Xwb (z:Int):∀ (ks:List Int),Xsv (.int .i64 z) (.bool true) (ks.map Xjp)=(Xiv ks z).map Xjp:=by
 intro ks
 unfold Xiv
 induction ks with
 |nil=>simp[Xsv,Xjp]
 |cons a r ih =>
  simp only[List.map_cons,Xjp,Xsv]
  by_cases h:a=z
  ·subst h;simp[Xjp]
  have h1:¬ (Value.int .i64 a=Value.int .i64 z):=by simpa using h
  rw[if_neg h1]
  have ih':Xsv (.int .i64 z) (.bool true) (r.map Xjp)=(if z∈r then r else r++[z]).map Xjp:=ih
  rw[ih']
  have h2:¬ z=a:=fun e=>h e.symm
  by_cases hz:z∈r<;>simp[hz,h2,Xjp]
theorem Xc8 {Q:X07->St->Mu->Prop} {μ:Mu} (b:Nat) (l:List Int) (hl:l.length<=140737488355328):∀ (xs:List Int) (k:Nat) (hx:l.drop k=xs) (ks:List Int)
  (C:X3 Tryz.prog 18 0 Q (.exit (.exit 0)) [] ⟨fr [(3,.sc (.map (some b)))],hp [],0⟩ ((b,(X8q ks xs).map Xjp)::μ)),
  X3 Tryz.prog 18 0 Q (.loop (X4t 0 (Xu Tryz.f138))) [] ⟨fr [(3,.sc (.map (some b))),(7,AV.list false (List.map (aI .i64) l)),(8,aI .i64 (l.length:Int)),(9,aI .i64 (k:Int))],hp [],0⟩ ((b,ks.map Xjp)::μ):=by
 intro xs
 induction xs with
 |nil =>
  intro k hx ks C
  have hk:=X1e hx
  have hc:decide ((k:Int)<(l.length:Int))=false:=Yf (by omega)
  refine X3.round ?_
  refine rn tmD [Bf] rfl (by repeat' first|apply Ya|exact hc|exact oblA) ?_
  exact X3.weakTo [] C rfl (by repeat' first|apply Ya|exact wkA) trivial
 |cons x xs ih =>
  intro k hx ks C
  obtain⟨hk,hg,hx1⟩:=X0t hx
  have hc:decide ((k:Int)<(l.length:Int))=true:=Yt (by omega)
  refine X3.round ?_
  refine rn tmD [Bt,.el (aI .i64 x)] rfl (by repeat' first|apply Ya|exact hc|exact ixm hg|exact oblA) ?_
  refine X3.mapUpd (d:=.int .i64) Xh rfl rfl rfl rfl rfl Tryz.underlying3 rfl rfl rfl trivial trivial trivial rfl (by
   intro p hp;obtain⟨z,_,rfl⟩:=List.mem_map.1 hp;rfl) ?_
  rw[Xwb]
  refine X0l [] ?_
  exact X3.weakTo [] (ih (k+1) hx1 (Xiv ks x) C) rfl (by repeat' first|apply Ya|exact wkA) trivial
theorem X7o (a0:(List Int)) (r:Int) (h:X39 a0=some r):X11 Tryz.prog 138 [(Lf (List.map (aI .i64) a0))] (aI .i64 r):=by
 refine X11.sym Xh X07o (nt:=18) rfl rfl ?_ (X27 .list Xal)
 unfold X39 at h
 refine X06b h ?_
 clear h;intro u h1 h
 have q1:=X0u h1
 obtain rfl:=oj h
 refine X0l [] ?_
 refine X3.mapNew rfl rfl rfl fun b=>?_
 refine X0l [] ?_
 refine X3.weakTo [] (X3.cut (Xc8 b a0 q1 a0 0 (by simp) [] ?_)) rfl (by repeat' first|apply Ya|exact wkA) trivial
 refine X3.glue ?_
 refine X0l [] ?_
 refine X3.mapLen Xh rfl rfl rfl rfl rfl rfl trivial ?_
 rw[List.length_map]
 refine X0l [] ?_
 exact Xxi rfl .sc
instance Xsn:PCs Tryz.prog 107 (∀ (a0:(List Int)) (a1:Bool) (r:Int),X2f a0 a1=some r->X11 Tryz.prog 107 [(Lf (List.map (aI .i64) a0)),(aB a1)] (aI .i64 r)):=⟨fun a0 a1 r h=>by
 refine X11.sym Xh X087 (nt:=30) rfl rfl ?_ okM
 unfold X2f at h
 revert h
 refine brI (fun h1=>fun e=>oj e▸Xc [.el (aI .i64 (a0.length:Int)),Bt] (k:=fi)) fun h1=>bI fun X032 h17=>rnI [.el (aI .i64 (a0.length:Int)),Bf,.stop 4] ?_
 intro h
 refine X3.join (s':=⟨fr [(0,(Lf (List.map (aI .i64) a0))),(24,(aB X032))],hp ([]),0⟩) ?_ (fun J=>X3.cut ?_)
 ·
  revert h
  refine brI (fun h18=>fun e=>oj e▸Xc [Bt] (k:=fi)) fun h18=>?_
  refine bI fun v19 h20=>brI (fun h21=>?_) fun h21=>?_
  ·
   exact fun e=>oj e▸Xc [Bf,.pure [(Lf (List.map (aI .i64) a0))] (aI .i64 v19),.el (aI .i64 (a0.length:Int)),Bt] (o:=by repeat' first|apply Ya|exact pcM|exact(pn (X7o _ _ h20) (cc (Xc7 (X04 (fun _=>Xgu) a0)) cn))|exact Xw) (k:=fi)
  exact fun e=>oj e▸Xc [Bf,.pure [(Lf (List.map (aI .i64) a0))] (aI .i64 v19),.el (aI .i64 (a0.length:Int)),Bf] (o:=by repeat' first|apply Ya|exact pcM|exact(pn (X7o _ _ h20) (cc (Xc7 (X04 (fun _=>Xgu) a0)) cn))|exact Xw) (k:=fi)
 clear h;revert h17
 refine brI (fun h10=>?_) fun h10=>?_
 ·
  intro h
  obtain rfl:=oj h
  exact Xc [.el (aI .i64 (a0.length:Int)),.go false,.go false,.go false,.go false,.go false,.go false,.go false,.go false,.go false] (o:=by repeat' first|apply Ya|exact pcM|exact((X5 h10 rfl))|exact(Xk (X5 h10 rfl))|exact(X7r (X5 h10 rfl))|exact Xw) (k:=wkT [] (X3.glue J))
 refine brI (fun h11=>?_) fun h11=>?_
 ·
  refine brI (fun h12=>?_) fun h12=>?_
  ·
   intro h
   obtain rfl:=oj h
   exact Xc [.el (aI .i64 (a0.length:Int)),.go true,.go true,.go true,.go true,.el (aI .i64 (a0.length:Int)),.go true,.go true,.go false,.go false,.go false] (o:=by repeat' first|apply Ya|exact pcM|exact((Xf h10 (X5 h11 h12)))|exact(Xk (Xf h10 (X5 h11 h12)))|exact(X7r (Xf h10 (X5 h11 h12)))|exact Xw) (k:=wkT [] (X3.glue J))
  refine bI fun v13 h14=>?_
  intro h
  obtain rfl:=oj h
  exact Xc [.el (aI .i64 (a0.length:Int)),.go true,.go true,.go true,.go true,.el (aI .i64 (a0.length:Int)),.go true,.go true,.go true,.go true,.go true,.pure [(Lf (List.map (aI .i64) a0)),(AV.fn 136 [])] (aB v13)] (o:=by repeat' first|apply Ya|exact pcM|exact((Xf h10 (X5 h11 h12)))|exact(Xk (Xf h10 (X5 h11 h12)))|exact(pn (X1y _ _ h14) (cc (Xc7 (X04 (fun _=>Xgu) a0)) (cc .fn0 cn)))|exact(X3f (Xf h10 (X5 h11 h12)))|exact Xw) (k:=wkT [] (X3.glue J))
 refine bI fun v15 h16=>?_
 intro h
 obtain rfl:=oj h
 exact Xc [.el (aI .i64 (a0.length:Int)),.go true,.go true,.go false,.go false,.go false,.go true,.go true,.go true,.go true,.pure [(Lf (List.map (aI .i64) a0)),(AV.fn 136 [])] (aB v15)] (o:=by repeat' first|apply Ya|exact pcM|exact((Xf h10 (Xf h11 rfl)))|exact(Xk (Xf h10 (Xf h11 rfl)))|exact(pn (X1y _ _ h16) (cc (Xc7 (X04 (fun _=>Xgu) a0)) (cc .fn0 cn)))|exact(X3f (Xf h10 (Xf h11 rfl)))|exact Xw) (k:=wkT [] (X3.glue J))⟩
instance X4q:PCs Tryz.prog 78 (∀ (a0:X0w) (r:Int),X1f a0=some r->X11 Tryz.prog 78 [(X3n a0)] (aI .i64 r)):=⟨fun a0 r h=>by
 refine X11.sym Xh fn78 (nt:=40) rfl rfl ?_ okM
 unfold X1f at h
 revert h
 exact brI (fun h1=>fun e=>oj e▸Xc [Bt] (k:=fi)) fun h1=>brI (fun h2=>brI (fun h3=>fun e=>oj e▸Xc [Bf,Bt,.wrap,Bt] (k:=fi)) fun h3=>fun e=>oj e▸Xc [Bf,Bt,.wrap,Bf] (k:=fi)) fun h2=>brI (fun h4=>brI (fun h5=>fun e=>oj e▸Xc [Bf,Bf,Bt,Bt] (k:=fi)) fun h5=>fun e=>oj e▸Xc [Bf,Bf,Bt,Bf] (k:=fi)) fun h4=>brI (fun h6=>brI (fun h7=>fun e=>oj e▸Xc [Bf,Bf,Bf,Bt,Bt] (k:=fi)) fun h7=>fun e=>oj e▸Xc [Bf,Bf,Bf,Bt,Bf] (k:=fi)) fun h6=>fun e=>oj e▸Xc [Bf,Bf,Bf,Bf] (k:=fi)⟩
instance Xuz:PCs Tryz.prog 73 (∀ (a0:X03) (r:Int),X7p a0=some r->X11 Tryz.prog 73 [(Xl false a0)] (aI .i64 r)):=⟨fun a0 r h=>by
 refine X11.sym Xh fn73 (nt:=66) rfl rfl ?_ okM
 unfold X7p at h
 revert h
 refine brI (fun h1=>fun e=>oj e▸Xc [Bt] (k:=fi)) fun h1=>?_
 refine brI (fun h2=>?_) fun h2=>?_
 ·
  refine bI fun v3 h4=>brI (fun h5=>fun e=>oj e▸Xc [Bf,Bt,.pure _ (aI .i64 v3),Bt] (k:=fi)) fun h5=>?_
  refine brI (fun h6=>?_) fun h6=>bI fun v16 h17=>brI (fun h18=>fun e=>oj e▸Xc [Bf,Bt,.pure _ (aI .i64 v3),Bf,.el (aI .i64 (a0.Where.length:Int)),Bf,.pure _ (aI .i64 v16),Bt] (k:=fi)) fun h18=>brI (fun h19=>fun e=>oj e▸Xc [Bf,Bt,.pure _ (aI .i64 v3),Bf,.el (aI .i64 (a0.Where.length:Int)),Bf,.pure _ (aI .i64 v16),Bf,Bt] (k:=fi)) fun h19=>bI fun v20 h21=>fun e=>oj e▸Xc [Bf,Bt,.pure _ (aI .i64 v3),Bf,.el (aI .i64 (a0.Where.length:Int)),Bf,.pure _ (aI .i64 v16),Bf,Bf,.pure _ (aI .i64 v20)] (k:=fi)
  refine bI fun v7 h8=>brI (fun h9=>fun e=>oj e▸Xc [Bf,Bt,.pure _ (aI .i64 v3),Bf,.el (aI .i64 (a0.Where.length:Int)),Bt,.pure _ (aI .i64 v7),Bt] (k:=fi)) fun h9=>bI fun v10 h11=>rnI [Bf,Bt,.pure _ (aI .i64 v3),Bf,.el (aI .i64 (a0.Where.length:Int)),Bt,.pure _ (aI .i64 v7),Bf,.pure _ (aI .i64 v10)] ?_
  exact brI (fun h12=>fun e=>oj e▸Xc [Bt] (k:=fi)) fun h12=>brI (fun h13=>fun e=>oj e▸Xc [Bf,Bt] (k:=fi)) fun h13=>bI fun v14 h15=>fun e=>oj e▸Xc [Bf,Bf,.pure _ (aI .i64 v14)] (k:=fi)
 refine brI (fun h22=>fun e=>oj e▸Xc [Bf,Bf,.el (aI .i64 (a0.Arg.length:Int)),Bt] (k:=fi)) fun h22=>?_
 refine brI (fun h23=>?_) fun h23=>?_
 ·
  refine bI fun v24 h25=>rnI [Bf,Bf,.el (aI .i64 (a0.Arg.length:Int)),Bf,.el (aI .i64 (a0.Where.length:Int)),Bt,.pure _ (aI .i64 v24)] ?_
  exact brI (fun h26=>fun e=>oj e▸Xc [Bt] (k:=fi)) fun h26=>bI fun v27 h28=>brI (fun h29=>fun e=>oj e▸Xc [Bf,.pure _ (aI .i64 v27),Bt] (k:=fi)) fun h29=>brI (fun h30=>fun e=>oj e▸Xc [Bf,.pure _ (aI .i64 v27),Bf,Bt] (k:=fi)) fun h30=>bI fun v31 h32=>fun e=>oj e▸Xc [Bf,.pure _ (aI .i64 v27),Bf,Bf,.pure _ (aI .i64 v31)] (k:=fi)
 refine bI fun v33 h34=>rnI [Bf,Bf,.el (aI .i64 (a0.Arg.length:Int)),Bf,.el (aI .i64 (a0.Where.length:Int)),Bf,.pure _ (aI .i64 v33)] ?_
 exact brI (fun h35=>fun e=>oj e▸Xc [Bt] (k:=fi)) fun h35=>brI (fun h36=>fun e=>oj e▸Xc [Bf,Bt] (k:=fi)) fun h36=>bI fun v37 h38=>fun e=>oj e▸Xc [Bf,Bf,.pure _ (aI .i64 v37)] (k:=fi)⟩
theorem X59 {Q:X07->St->Mu->Prop} {μ:Mu} (Xo:(List Bool)) (Xam:(V2 Bool)) (X1b:(List Int)) (X00:Nb Xo) (hl:X1b.length<=140737488355328):∀ (xs:List Int) (k:Nat) (hx:X1b.drop k=xs) (o:X2b) (h:X0p Xo Xam X1b xs k  = some o)
  (C0:o=X2b.x0->X3 Tryz.prog 21 4 Q (.exit (.exit 0)) [] ⟨fr [],hp ([(0,Ob [(slE X00.1 1 (Xo.map aB))] 1),(2,Ob [(X93 Xam)] 2),(3,Ob (List.map (aI .i64) X1b) 1)]++opE X00.1 1 1 (Xo.map aB)),4⟩ μ)
  (C1:o=X2b.x1->X3 Tryz.prog 21 4 Q (.exit .ret) [] ⟨fr [(5,(aB false))],hp ([(0,Ob [(slE X00.1 1 (Xo.map aB))] 1),(2,Ob [(X93 Xam)] 2),(3,Ob (List.map (aI .i64) X1b) 1)]++opE X00.1 1 1 (Xo.map aB)),4⟩ μ),
  X3 Tryz.prog 21 4 Q (.loop (X4t 0 (Xu Tryz.f189))) [] ⟨fr [(0,(aB false)),(2,(AV.ptr 0 0 0)),(8,(AV.ref 3 0 (X1b.length))),(9,(aI .i64 (X1b.length:Int))),(10,(aI .i64 (k:Int)))],hp ([(0,Ob [(slE X00.1 1 (Xo.map aB))] 1),(2,Ob [(X93 Xam)] 2),(3,Ob (List.map (aI .i64) X1b) 1)]++opE X00.1 1 1 (Xo.map aB)),4⟩ μ:=by
 intro xs
 induction xs with
 |nil =>
  intro k hx  o h C0 C1
  have hk:=X1e hx
  have hc:decide ((k:Int)<(X1b.length:Int))=false:=Yf (by omega)
  rw[X0p] at h
  rcases X00 with ⟨_|_,X0f⟩
  ·
   refine X3.round ?_
   revert h
   exact fun e=>Xc [Bf] (k:=wkT [] (C0  (oj e).symm))
  ·
   obtain rfl:=X0f rfl
   refine X3.round ?_
   revert h
   exact fun e=>Xc [Bf] (k:=wkT [] (C0  (oj e).symm))
 |cons x xs ih =>
  intro k hx  o h C0 C1
  obtain⟨hk,hg,hx1⟩:=X0t hx
  have hc:decide ((k:Int)<(X1b.length:Int))=true:=Yt (by omega)
  rw[X0p] at h
  rcases X00 with ⟨_|_,X0f⟩
  ·
   refine X3.round ?_
   revert h
   refine bI fun e3011 h3012=>?_
   try have qh3012:=Xn h3012
   refine brI (fun h3013=>fun e=>Xc [Bt,.el (aI .i64 x),.ld (aI .i64 x),.el (aB e3011),.ld (aB e3011),Bt] (k:=wkT [] (C1  (oj e).symm))) fun h3013=>rnI [Bt,.el (aI .i64 x),.ld (aI .i64 x),.el (aB e3011),.ld (aB e3011),Bf] ?_
   intro h
   exact wkT [] (ih (k+1) hx1  o h C0 C1)
  obtain rfl:=X0f rfl
  refine X3.round ?_
  revert h
  refine bI fun e3014 h3015=>?_
  try have qh3015:=Xn h3015
  intro h
  exact absurd (h3015) (by simp[X2c])
theorem X1t {Q:X07->St->Mu->Prop} {μ:Mu} (Xo:(List Bool)) (X1q:(List Int)) (X00:Nb Xo) (hl:X1q.length<=140737488355328):∀ (xs:List Int) (k:Nat) (hx:X1q.drop k=xs) (o:X20) (h:X0r Xo X1q xs k  = some o)
  (C0:o=X20.x0->X3 Tryz.prog 21 4 Q (.exit (.exit 0)) [] ⟨fr [],hp ([(0,Ob [(slE X00.1 1 (Xo.map aB))] 1)]++opE X00.1 1 1 (Xo.map aB)),4⟩ μ)
  (C1:o=X20.x1->X3 Tryz.prog 21 4 Q (.exit .ret) [] ⟨fr [(5,(aB false))],hp ([(0,Ob [(slE X00.1 1 (Xo.map aB))] 1)]++opE X00.1 1 1 (Xo.map aB)),4⟩ μ),
  X3 Tryz.prog 21 4 Q (.loop (X4t 0 (Xu Tryz.f189))) [] ⟨fr [(0,(aB true)),(2,(AV.ptr 0 0 0)),(8,(AV.ref 4 0 (X1q.length))),(9,(aI .i64 (X1q.length:Int))),(10,(aI .i64 (k:Int)))],hp ([(0,Ob [(slE X00.1 1 (Xo.map aB))] 1),(4,Ob (List.map (aI .i64) X1q) 1)]++opE X00.1 1 1 (Xo.map aB)),5⟩ μ:=by
 intro xs
 induction xs with
 |nil =>
  intro k hx  o h C0 C1
  have hk:=X1e hx
  have hc:decide ((k:Int)<(X1q.length:Int))=false:=Yf (by omega)
  rw[X0r] at h
  rcases X00 with ⟨_|_,X0f⟩
  ·
   refine X3.round ?_
   revert h
   exact fun e=>Xc [Bf] (k:=wkT [] (C0  (oj e).symm))
  ·
   obtain rfl:=X0f rfl
   refine X3.round ?_
   revert h
   exact fun e=>Xc [Bf] (k:=wkT [] (C0  (oj e).symm))
 |cons x xs ih =>
  intro k hx  o h C0 C1
  obtain⟨hk,hg,hx1⟩:=X0t hx
  have hc:decide ((k:Int)<(X1q.length:Int))=true:=Yt (by omega)
  rw[X0r] at h
  rcases X00 with ⟨_|_,X0f⟩
  ·
   refine X3.round ?_
   revert h
   refine bI fun e3127 h3128=>?_
   try have qh3128:=Xn h3128
   refine brI (fun h3129=>fun e=>Xc [Bt,.el (aI .i64 x),.ld (aI .i64 x),.el (aB e3127),.ld (aB e3127),Bt] (k:=wkT [] (C1  (oj e).symm))) fun h3129=>rnI [Bt,.el (aI .i64 x),.ld (aI .i64 x),.el (aB e3127),.ld (aB e3127),Bf] ?_
   intro h
   exact wkT [] (ih (k+1) hx1  o h C0 C1)
  obtain rfl:=X0f rfl
  refine X3.round ?_
  revert h
  refine bI fun e3130 h3131=>?_
  try have qh3131:=Xn h3131
  intro h
  exact absurd (h3131) (by simp[X2c])
end Go.Av.Tryz