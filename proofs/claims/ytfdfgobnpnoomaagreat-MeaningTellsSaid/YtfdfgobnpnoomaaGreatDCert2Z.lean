/- Printed by decomp.py: that the program computes the functions. -/
import Derived.Test.YtfdfgobnpnoomaaGreatDCert1Z
set_option linter.all false

namespace Go.Av.Tryz
open Go.Proofs Go.D
set_option maxRecDepth 10000
set_option maxHeartbeats 40000000
instance X02x:PCs Tryz.prog 175 (∀ (a0:(List X03)) (r:(List Xo)×Bool),Xfc a0=some r->X0j Tryz.prog 175 [(Lf (a0.map X4))] (AV.tup [(AV.list true (r.1.map Xb)),(aB r.2)])):=⟨fun a0 r h=>by
 refine X0j.sym X9 X0az (nt:=105) rfl rfl ?_ okM
 unfold Xfc at h
 revert h
 refine bI fun u1 h2=>?_
 have qh2:=X09 h2
 refine bI fun o475 h476=>rnI [.el (aI .i64 (a0.length:Int))] ?_
 intro h
 refine wkT [] (X2.cut (Xjc a0 qh2 a0 0 (by simp) _ _ nbS nbS _ h476 ?_ ?_))
 ·
  intro Xg X0r Xl X0t eo475;subst eo475
  refine X2.glue ?_
  try dsimp only at h
  rcases Xl with ⟨_|_,X0q⟩
  ·
   rcases X0t with ⟨_|_,X2p⟩
   ·
    revert h
    exact fun e=>oj e▸X7 [.el (aI .i64 (X0r.length:Int))] (k:=fi)
   obtain rfl:=X2p rfl
   revert h
   exact fun e=>oj e▸X7 [.el (aI .i64 (List.length ([]:List Xo):Int))] (k:=fi)
  obtain rfl:=X0q rfl
  rcases X0t with ⟨_|_,X2p⟩
  ·
   revert h
   exact fun e=>oj e▸X7 [.el (aI .i64 (X0r.length:Int))] (k:=fi)
  obtain rfl:=X2p rfl
  revert h
  exact fun e=>oj e▸X7 [.el (aI .i64 (List.length ([]:List Xo):Int))] (k:=fi)
 intro X0d X0b eo475;subst eo475
 refine X2.glue ?_
 try dsimp only at h
 rcases X0b with ⟨_|_,X2n⟩
 ·
  revert h
  exact fun e=>oj e▸X7 [] (k:=fi)
 obtain rfl:=X2n rfl
 revert h
 exact fun e=>oj e▸X7 [] (k:=fi)⟩
instance X01t:PCs Tryz.prog 135 (∀ (a0:(List X03)) (r:(List Xo)×Int),Xat a0=some r->X0j Tryz.prog 135 [(Lf (a0.map X4))] (AV.tup [(AV.list true (r.1.map Xb)),(aI .i64 r.2)])):=⟨fun a0 r h=>by
 refine X0j.sym X9 X0bg (nt:=25) rfl rfl ?_ okM
 unfold Xat at h
 revert h
 refine brI (fun h1=>fun e=>oj e▸X7 [.el (aI .i64 (a0.length:Int)),Bt] (k:=fi)) fun h1=>bI fun v2 h3=>brI (fun h4=>fun e=>oj e▸X7 [.el (aI .i64 (a0.length:Int)),Bf,.pure _ (AV.tup [(AV.list true (v2.1.map Xb)),(aB v2.2)]),Bt] (k:=fi)) fun h4=>bI fun e5 h6=>?_
 try have qh6:=Xv h6
 refine rnI [.el (aI .i64 (a0.length:Int)),Bf,.pure _ (AV.tup [(AV.list true (v2.1.map Xb)),(aB v2.2)]),Bf,.el (aI .i64 (v2.1.length:Int)),.wrap,.el (Xb e5)] ?_
 exact brI (fun h7=>fun e=>oj e▸X7 [Bt] (k:=fi)) fun h7=>fun e=>oj e▸X7 [Bf] (k:=fi)⟩
instance X01v:PCs Tryz.prog 106 (∀ (a0:(List X03)) (r:Int),X5z a0=some r->X0j Tryz.prog 106 [(Lf (a0.map X4))] (aI .i64 r)):=⟨fun a0 r h=>by
 refine X0j.sym X9 X0c2 (nt:=11) rfl rfl ?_ okM
 unfold X5z at h
 revert h
 exact bI fun v1 h2=>fun e=>oj e▸X7 [.pure _ (AV.tup [(AV.list true (v1.1.map Xb)),(aI .i64 v1.2)])] (k:=fi)⟩
instance Xr7:PCs Tryz.prog 136 (∀ (a0:Int) (r:Bool),X6c a0=some r->X0j Tryz.prog 136 [(aI .i64 a0)] (aB r)):=⟨fun a0 r h=>by
 refine X0j.sym X9 X0bf (nt:=9) rfl rfl ?_ okM
 unfold X6c at h
 revert h
 exact fun e=>oj e▸X7 [] (k:=fi)⟩
theorem X94 {Q:X01->St->Mu->Prop} {μ:Mu} (X07:(List Int)) (hl:X07.length<=140737488355328):∀ (xs:List Int) (k:Nat) (hx:X07.drop k=xs) (o:X21) (h:X0x X07 xs k  = some o)
  (C0:o=X21.x0->X2 Tryz.prog 19 0 Q (.exit (.exit 0)) [] ⟨fr [],hp ([]),0⟩ μ)
  (C1:∀ (Xb7:Int),o=X21.x1 Xb7->X2 Tryz.prog 19 0 Q (.exit .ret) [] ⟨fr [(4,(aI .i64 Xb7))],hp ([]),0⟩ μ),
  X2 Tryz.prog 19 0 Q (.loop (X30 0 (Xj Tryz.f176))) [] ⟨fr [(0,(Lf (List.map (aI .i64) X07))),(1,(AV.fn 136 [])),(7,(aI .i64 (X07.length:Int))),(8,(aI .i64 (k:Int)))],hp ([]),0⟩ μ:=by
 intro xs
 induction xs with
 |nil =>
  intro k hx  o h C0 C1
  have hk:=drop_nil hx
  have hc:decide ((k:Int)<(X07.length:Int))=false:=Yf (by omega)
  rw[X0x] at h
  refine X2.round ?_
  revert h
  exact fun e=>X7 [Bf] (k:=wkT [] (C0  (oj e).symm))
 |cons x xs ih =>
  intro k hx  o h C0 C1
  obtain⟨hk,hg,hx1⟩:=drop_cons hx
  have hc:decide ((k:Int)<(X07.length:Int))=true:=Yt (by omega)
  rw[X0x] at h
  refine X2.round ?_
  revert h
  refine bI fun v10 h11=>brI (fun h12=>fun e=>X7 [Bt,.el (aI .i64 x),.pure _ (aB v10),Bt] (k:=wkT [] (C1 _  (oj e).symm))) fun h12=>rnI [Bt,.el (aI .i64 x),.pure _ (aB v10),Bf] ?_
  intro h
  exact wkT [] (ih (k+1) hx1  o h C0 C1)
theorem X4o (a0:(List Int)) (r:Int) (h:X0w a0=some r):X0j Tryz.prog 176 [(Lf (List.map (aI .i64) a0)),(AV.fn 136 [])] (aI .i64 r):=by
 refine X0j.sym X9 X0ay (nt:=19) rfl rfl ?_ okM
 unfold X0w at h
 revert h
 refine bI fun u1 h2=>?_
 have qh2:=X09 h2
 refine bI fun o13 h14=>rnI [.el (aI .i64 (a0.length:Int))] ?_
 intro h
 refine wkT [] (X2.cut (X94 a0 qh2 a0 0 (by simp) _ h14 ?_ ?_))
 ·
  intro eo13;subst eo13
  refine X2.glue ?_
  try dsimp only at h
  revert h
  exact fun e=>oj e▸X7 [] (k:=fi)
 intro Xb7 eo13;subst eo13
 refine X2.glue ?_
 try dsimp only at h
 revert h
 exact fun e=>oj e▸X7 [] (k:=fi)
theorem X1x (a0:(List Int)) (r:Bool) (h:X06 a0=some r):X0j Tryz.prog 137 [(Lf (List.map (aI .i64) a0)),(AV.fn 136 [])] (aB r):=by
 refine X0j.sym X9 X0be (nt:=9) rfl rfl ?_ okM
 unfold X06 at h
 revert h
 exact bI fun v1 h2=>fun e=>oj e▸X7 [.pure [(Lf (List.map (aI .i64) a0)),(AV.fn 136 [])] (aI .i64 v1)] (o:=by repeat' first|apply Ya|exact pcM|exact(pn (X4o _ _ h2) (cc (X9f (X47 (fun _=>Xiz) a0)) (cc .fn0 cn)))|exact X0k) (k:=fi)
theorem Xz3 (z:Int):∀ (ks:List Int),Xv2 (.int .i64 z) (.bool true) (ks.map Xmb)=(Xlk ks z).map Xmb:=by
 intro ks
 unfold Xlk
 induction ks with
 |nil=>simp[Xv2,Xmb]
 |cons a r ih =>
  simp only[List.map_cons,Xmb,Xv2]
  by_cases h:a=z
  ·subst h;simp[Xmb]
  have h1:¬ (Value.int .i64 a=Value.int .i64 z):=by simpa using h
  rw[if_neg h1]
  have ih':Xv2 (.int .i64 z) (.bool true) (r.map Xmb)=(if z∈r then r else r++[z]).map Xmb:=ih
  rw[ih']
  have h2:¬ z=a:=fun e=>h e.symm
  by_cases hz:z∈r<;>simp[hz,h2,Xmb]
theorem Xdo {Q:X01->St->Mu->Prop} {μ:Mu} (b:Nat) (l:List Int) (hl:l.length<=140737488355328):∀ (xs:List Int) (k:Nat) (hx:l.drop k=xs) (ks:List Int)
  (C:X2 Tryz.prog 18 0 Q (.exit (.exit 0)) [] ⟨fr [(3,.sc (.map (some b)))],hp [],0⟩ ((b,(X97 ks xs).map Xmb)::μ)),
  X2 Tryz.prog 18 0 Q (.loop (X30 0 (Xj Tryz.f138))) [] ⟨fr [(3,.sc (.map (some b))),(7,AV.list false (List.map (aI .i64) l)),(8,aI .i64 (l.length:Int)),(9,aI .i64 (k:Int))],hp [],0⟩ ((b,ks.map Xmb)::μ):=by
 intro xs
 induction xs with
 |nil =>
  intro k hx ks C
  have hk:=drop_nil hx
  have hc:decide ((k:Int)<(l.length:Int))=false:=Yf (by omega)
  refine X2.round ?_
  refine rn tmD [Bf] rfl (by repeat' first|apply Ya|exact hc|exact oblA) ?_
  exact X2.weakTo [] C rfl (by repeat' first|apply Ya|exact wkA) trivial
 |cons x xs ih =>
  intro k hx ks C
  obtain⟨hk,hg,hx1⟩:=drop_cons hx
  have hc:decide ((k:Int)<(l.length:Int))=true:=Yt (by omega)
  refine X2.round ?_
  refine rn tmD [Bt,.el (aI .i64 x)] rfl (by repeat' first|apply Ya|exact hc|exact ixm hg|exact oblA) ?_
  refine X2.mapUpd (d:=.int .i64) X9 rfl rfl rfl rfl rfl Tryz.underlying3 rfl rfl rfl trivial trivial trivial rfl (by
   intro p hp;obtain⟨z,_,rfl⟩:=List.mem_map.1 hp;rfl) ?_
  rw[Xz3]
  refine X10 [] ?_
  exact X2.weakTo [] (ih (k+1) hx1 (Xlk ks x) C) rfl (by repeat' first|apply Ya|exact wkA) trivial
theorem X84 (a0:(List Int)) (r:Int) (h:X3e a0=some r):X0j Tryz.prog 138 [(Lf (List.map (aI .i64) a0))] (aI .i64 r):=by
 refine X0j.sym X9 X0bd (nt:=18) rfl rfl ?_ (X1p .list Xb1)
 unfold X3e at h
 refine X09m h ?_
 clear h;intro u h1 h
 have q1:=X09 h1
 obtain rfl:=oj h
 refine X10 [] ?_
 refine X2.mapNew rfl rfl rfl fun b=>?_
 refine X10 [] ?_
 refine X2.weakTo [] (X2.cut (Xdo b a0 q1 a0 0 (by simp) [] ?_)) rfl (by repeat' first|apply Ya|exact wkA) trivial
 refine X2.glue ?_
 refine X10 [] ?_
 refine X2.mapLen X9 rfl rfl rfl rfl rfl rfl trivial ?_
 rw[List.length_map]
 refine X10 [] ?_
 exact X006 rfl .sc
instance Xur:PCs Tryz.prog 107 (∀ (a0:(List Int)) (a1:Bool) (r:Int),X2c a0 a1=some r->X0j Tryz.prog 107 [(Lf (List.map (aI .i64) a0)),(aB a1)] (aI .i64 r)):=⟨fun a0 a1 r h=>by
 refine X0j.sym X9 X0c1 (nt:=30) rfl rfl ?_ okM
 unfold X2c at h
 revert h
 refine brI (fun h1=>fun e=>oj e▸X7 [.el (aI .i64 (a0.length:Int)),Bt] (k:=fi)) fun h1=>bI fun X06k h17=>rnI [.el (aI .i64 (a0.length:Int)),Bf,.stop 4] ?_
 intro h
 refine X2.join (s':=⟨fr [(0,(Lf (List.map (aI .i64) a0))),(24,(aB X06k))],hp ([]),0⟩) ?_ (fun J=>X2.cut ?_)
 ·
  revert h
  refine brI (fun h18=>fun e=>oj e▸X7 [Bt] (k:=fi)) fun h18=>?_
  refine bI fun v19 h20=>brI (fun h21=>?_) fun h21=>?_
  ·
   exact fun e=>oj e▸X7 [Bf,.pure [(Lf (List.map (aI .i64) a0))] (aI .i64 v19),.el (aI .i64 (a0.length:Int)),Bt] (o:=by repeat' first|apply Ya|exact pcM|exact(pn (X84 _ _ h20) (cc (X9f (X47 (fun _=>Xiz) a0)) cn))|exact X0k) (k:=fi)
  exact fun e=>oj e▸X7 [Bf,.pure [(Lf (List.map (aI .i64) a0))] (aI .i64 v19),.el (aI .i64 (a0.length:Int)),Bf] (o:=by repeat' first|apply Ya|exact pcM|exact(pn (X84 _ _ h20) (cc (X9f (X47 (fun _=>Xiz) a0)) cn))|exact X0k) (k:=fi)
 clear h;revert h17
 refine brI (fun h10=>?_) fun h10=>?_
 ·
  intro h
  obtain rfl:=oj h
  exact X7 [.el (aI .i64 (a0.length:Int)),.go false,.go false,.go false,.go false,.go false,.go false,.go false,.go false,.go false] (o:=by repeat' first|apply Ya|exact pcM|exact((Xh h10 rfl))|exact(X0o (Xh h10 rfl))|exact(Xlt (Xh h10 rfl))|exact X0k) (k:=wkT [] (X2.glue J))
 refine brI (fun h11=>?_) fun h11=>?_
 ·
  refine brI (fun h12=>?_) fun h12=>?_
  ·
   intro h
   obtain rfl:=oj h
   exact X7 [.el (aI .i64 (a0.length:Int)),.go true,.go true,.go true,.go true,.el (aI .i64 (a0.length:Int)),.go true,.go true,.go false,.go false,.go false] (o:=by repeat' first|apply Ya|exact pcM|exact((Xx h10 (Xh h11 h12)))|exact(X0o (Xx h10 (Xh h11 h12)))|exact(Xlt (Xx h10 (Xh h11 h12)))|exact X0k) (k:=wkT [] (X2.glue J))
  refine bI fun v13 h14=>?_
  intro h
  obtain rfl:=oj h
  exact X7 [.el (aI .i64 (a0.length:Int)),.go true,.go true,.go true,.go true,.el (aI .i64 (a0.length:Int)),.go true,.go true,.go true,.go true,.go true,.pure [(Lf (List.map (aI .i64) a0)),(AV.fn 136 [])] (aB v13)] (o:=by repeat' first|apply Ya|exact pcM|exact((Xx h10 (Xh h11 h12)))|exact(X0o (Xx h10 (Xh h11 h12)))|exact(pn (X1x _ _ h14) (cc (X9f (X47 (fun _=>Xiz) a0)) (cc .fn0 cn)))|exact(Xf3 (Xx h10 (Xh h11 h12)))|exact X0k) (k:=wkT [] (X2.glue J))
 refine bI fun v15 h16=>?_
 intro h
 obtain rfl:=oj h
 exact X7 [.el (aI .i64 (a0.length:Int)),.go true,.go true,.go false,.go false,.go false,.go true,.go true,.go true,.go true,.pure [(Lf (List.map (aI .i64) a0)),(AV.fn 136 [])] (aB v15)] (o:=by repeat' first|apply Ya|exact pcM|exact((Xx h10 (Xx h11 rfl)))|exact(X0o (Xx h10 (Xx h11 rfl)))|exact(pn (X1x _ _ h16) (cc (X9f (X47 (fun _=>Xiz) a0)) (cc .fn0 cn)))|exact(Xf3 (Xx h10 (Xx h11 rfl)))|exact X0k) (k:=wkT [] (X2.glue J))⟩
instance X4s:PCs Tryz.prog 78 (∀ (a0:X0h) (r:Int),X17 a0=some r->X0j Tryz.prog 78 [(X0s a0)] (aI .i64 r)):=⟨fun a0 r h=>by
 refine X0j.sym X9 fn78 (nt:=40) rfl rfl ?_ okM
 unfold X17 at h
 revert h
 exact brI (fun h1=>fun e=>oj e▸X7 [Bt] (k:=fi)) fun h1=>brI (fun h2=>brI (fun h3=>fun e=>oj e▸X7 [Bf,Bt,.wrap,Bt] (k:=fi)) fun h3=>fun e=>oj e▸X7 [Bf,Bt,.wrap,Bf] (k:=fi)) fun h2=>brI (fun h4=>brI (fun h5=>fun e=>oj e▸X7 [Bf,Bf,Bt,Bt] (k:=fi)) fun h5=>fun e=>oj e▸X7 [Bf,Bf,Bt,Bf] (k:=fi)) fun h4=>brI (fun h6=>brI (fun h7=>fun e=>oj e▸X7 [Bf,Bf,Bf,Bt,Bt] (k:=fi)) fun h7=>fun e=>oj e▸X7 [Bf,Bf,Bf,Bt,Bf] (k:=fi)) fun h6=>fun e=>oj e▸X7 [Bf,Bf,Bf,Bf] (k:=fi)⟩
instance Xxi:PCs Tryz.prog 73 (∀ (a0:Xw) (r:Int),X85 a0=some r->X0j Tryz.prog 73 [(Xn false a0)] (aI .i64 r)):=⟨fun a0 r h=>by
 refine X0j.sym X9 fn73 (nt:=66) rfl rfl ?_ okM
 unfold X85 at h
 revert h
 refine brI (fun h1=>fun e=>oj e▸X7 [Bt] (k:=fi)) fun h1=>?_
 refine brI (fun h2=>?_) fun h2=>?_
 ·
  refine bI fun v3 h4=>brI (fun h5=>fun e=>oj e▸X7 [Bf,Bt,.pure _ (aI .i64 v3),Bt] (k:=fi)) fun h5=>?_
  refine brI (fun h6=>?_) fun h6=>bI fun v16 h17=>brI (fun h18=>fun e=>oj e▸X7 [Bf,Bt,.pure _ (aI .i64 v3),Bf,.el (aI .i64 (a0.Where.length:Int)),Bf,.pure _ (aI .i64 v16),Bt] (k:=fi)) fun h18=>brI (fun h19=>fun e=>oj e▸X7 [Bf,Bt,.pure _ (aI .i64 v3),Bf,.el (aI .i64 (a0.Where.length:Int)),Bf,.pure _ (aI .i64 v16),Bf,Bt] (k:=fi)) fun h19=>bI fun v20 h21=>fun e=>oj e▸X7 [Bf,Bt,.pure _ (aI .i64 v3),Bf,.el (aI .i64 (a0.Where.length:Int)),Bf,.pure _ (aI .i64 v16),Bf,Bf,.pure _ (aI .i64 v20)] (k:=fi)
  refine bI fun v7 h8=>brI (fun h9=>fun e=>oj e▸X7 [Bf,Bt,.pure _ (aI .i64 v3),Bf,.el (aI .i64 (a0.Where.length:Int)),Bt,.pure _ (aI .i64 v7),Bt] (k:=fi)) fun h9=>bI fun v10 h11=>rnI [Bf,Bt,.pure _ (aI .i64 v3),Bf,.el (aI .i64 (a0.Where.length:Int)),Bt,.pure _ (aI .i64 v7),Bf,.pure _ (aI .i64 v10)] ?_
  exact brI (fun h12=>fun e=>oj e▸X7 [Bt] (k:=fi)) fun h12=>brI (fun h13=>fun e=>oj e▸X7 [Bf,Bt] (k:=fi)) fun h13=>bI fun v14 h15=>fun e=>oj e▸X7 [Bf,Bf,.pure _ (aI .i64 v14)] (k:=fi)
 refine brI (fun h22=>fun e=>oj e▸X7 [Bf,Bf,.el (aI .i64 (a0.Arg.length:Int)),Bt] (k:=fi)) fun h22=>?_
 refine brI (fun h23=>?_) fun h23=>?_
 ·
  refine bI fun v24 h25=>rnI [Bf,Bf,.el (aI .i64 (a0.Arg.length:Int)),Bf,.el (aI .i64 (a0.Where.length:Int)),Bt,.pure _ (aI .i64 v24)] ?_
  exact brI (fun h26=>fun e=>oj e▸X7 [Bt] (k:=fi)) fun h26=>bI fun v27 h28=>brI (fun h29=>fun e=>oj e▸X7 [Bf,.pure _ (aI .i64 v27),Bt] (k:=fi)) fun h29=>brI (fun h30=>fun e=>oj e▸X7 [Bf,.pure _ (aI .i64 v27),Bf,Bt] (k:=fi)) fun h30=>bI fun v31 h32=>fun e=>oj e▸X7 [Bf,.pure _ (aI .i64 v27),Bf,Bf,.pure _ (aI .i64 v31)] (k:=fi)
 refine bI fun v33 h34=>rnI [Bf,Bf,.el (aI .i64 (a0.Arg.length:Int)),Bf,.el (aI .i64 (a0.Where.length:Int)),Bf,.pure _ (aI .i64 v33)] ?_
 exact brI (fun h35=>fun e=>oj e▸X7 [Bt] (k:=fi)) fun h35=>brI (fun h36=>fun e=>oj e▸X7 [Bf,Bt] (k:=fi)) fun h36=>bI fun v37 h38=>fun e=>oj e▸X7 [Bf,Bf,.pure _ (aI .i64 v37)] (k:=fi)⟩
theorem X5d {Q:X01->St->Mu->Prop} {μ:Mu} (Xi:(List Bool)) (X2i:(V2 Bool)) (X0m:(List Int)) (Xm:Nb Xi) (hl:X0m.length<=140737488355328):∀ (xs:List Int) (k:Nat) (hx:X0m.drop k=xs) (o:X25) (h:X0l Xi X2i X0m xs k  = some o)
  (C0:o=X25.x0->X2 Tryz.prog 21 4 Q (.exit (.exit 0)) [] ⟨fr [],hp ([(0,Ob [(slE Xm.1 1 (Xi.map aB))] 1),(2,Ob [(X9r X2i)] 2),(3,Ob (List.map (aI .i64) X0m) 1)]++opE Xm.1 1 1 (Xi.map aB)),4⟩ μ)
  (C1:o=X25.x1->X2 Tryz.prog 21 4 Q (.exit .ret) [] ⟨fr [(5,(aB false))],hp ([(0,Ob [(slE Xm.1 1 (Xi.map aB))] 1),(2,Ob [(X9r X2i)] 2),(3,Ob (List.map (aI .i64) X0m) 1)]++opE Xm.1 1 1 (Xi.map aB)),4⟩ μ),
  X2 Tryz.prog 21 4 Q (.loop (X30 0 (Xj Tryz.f189))) [] ⟨fr [(0,(aB false)),(2,(AV.ptr 0 0 0)),(8,(AV.ref 3 0 (X0m.length))),(9,(aI .i64 (X0m.length:Int))),(10,(aI .i64 (k:Int)))],hp ([(0,Ob [(slE Xm.1 1 (Xi.map aB))] 1),(2,Ob [(X9r X2i)] 2),(3,Ob (List.map (aI .i64) X0m) 1)]++opE Xm.1 1 1 (Xi.map aB)),4⟩ μ:=by
 intro xs
 induction xs with
 |nil =>
  intro k hx  o h C0 C1
  have hk:=drop_nil hx
  have hc:decide ((k:Int)<(X0m.length:Int))=false:=Yf (by omega)
  rw[X0l] at h
  rcases Xm with ⟨_|_,X02⟩
  ·
   refine X2.round ?_
   revert h
   exact fun e=>X7 [Bf] (k:=wkT [] (C0  (oj e).symm))
  ·
   obtain rfl:=X02 rfl
   refine X2.round ?_
   revert h
   exact fun e=>X7 [Bf] (k:=wkT [] (C0  (oj e).symm))
 |cons x xs ih =>
  intro k hx  o h C0 C1
  obtain⟨hk,hg,hx1⟩:=drop_cons hx
  have hc:decide ((k:Int)<(X0m.length:Int))=true:=Yt (by omega)
  rw[X0l] at h
  rcases Xm with ⟨_|_,X02⟩
  ·
   refine X2.round ?_
   revert h
   refine bI fun e3011 h3012=>?_
   try have qh3012:=Xv h3012
   refine brI (fun h3013=>fun e=>X7 [Bt,.el (aI .i64 x),.ld (aI .i64 x),.el (aB e3011),.ld (aB e3011),Bt] (k:=wkT [] (C1  (oj e).symm))) fun h3013=>rnI [Bt,.el (aI .i64 x),.ld (aI .i64 x),.el (aB e3011),.ld (aB e3011),Bf] ?_
   intro h
   exact wkT [] (ih (k+1) hx1  o h C0 C1)
  obtain rfl:=X02 rfl
  refine X2.round ?_
  revert h
  refine bI fun e3014 h3015=>?_
  try have qh3015:=Xv h3015
  intro h
  exact absurd (h3015) (by simp[X1q])
theorem X1m {Q:X01->St->Mu->Prop} {μ:Mu} (Xi:(List Bool)) (X15:(List Int)) (Xm:Nb Xi) (hl:X15.length<=140737488355328):∀ (xs:List Int) (k:Nat) (hx:X15.drop k=xs) (o:X1z) (h:X0n Xi X15 xs k  = some o)
  (C0:o=X1z.x0->X2 Tryz.prog 21 4 Q (.exit (.exit 0)) [] ⟨fr [],hp ([(0,Ob [(slE Xm.1 1 (Xi.map aB))] 1)]++opE Xm.1 1 1 (Xi.map aB)),4⟩ μ)
  (C1:o=X1z.x1->X2 Tryz.prog 21 4 Q (.exit .ret) [] ⟨fr [(5,(aB false))],hp ([(0,Ob [(slE Xm.1 1 (Xi.map aB))] 1)]++opE Xm.1 1 1 (Xi.map aB)),4⟩ μ),
  X2 Tryz.prog 21 4 Q (.loop (X30 0 (Xj Tryz.f189))) [] ⟨fr [(0,(aB true)),(2,(AV.ptr 0 0 0)),(8,(AV.ref 4 0 (X15.length))),(9,(aI .i64 (X15.length:Int))),(10,(aI .i64 (k:Int)))],hp ([(0,Ob [(slE Xm.1 1 (Xi.map aB))] 1),(4,Ob (List.map (aI .i64) X15) 1)]++opE Xm.1 1 1 (Xi.map aB)),5⟩ μ:=by
 intro xs
 induction xs with
 |nil =>
  intro k hx  o h C0 C1
  have hk:=drop_nil hx
  have hc:decide ((k:Int)<(X15.length:Int))=false:=Yf (by omega)
  rw[X0n] at h
  rcases Xm with ⟨_|_,X02⟩
  ·
   refine X2.round ?_
   revert h
   exact fun e=>X7 [Bf] (k:=wkT [] (C0  (oj e).symm))
  ·
   obtain rfl:=X02 rfl
   refine X2.round ?_
   revert h
   exact fun e=>X7 [Bf] (k:=wkT [] (C0  (oj e).symm))
 |cons x xs ih =>
  intro k hx  o h C0 C1
  obtain⟨hk,hg,hx1⟩:=drop_cons hx
  have hc:decide ((k:Int)<(X15.length:Int))=true:=Yt (by omega)
  rw[X0n] at h
  rcases Xm with ⟨_|_,X02⟩
  ·
   refine X2.round ?_
   revert h
   refine bI fun e3127 h3128=>?_
   try have qh3128:=Xv h3128
   refine brI (fun h3129=>fun e=>X7 [Bt,.el (aI .i64 x),.ld (aI .i64 x),.el (aB e3127),.ld (aB e3127),Bt] (k:=wkT [] (C1  (oj e).symm))) fun h3129=>rnI [Bt,.el (aI .i64 x),.ld (aI .i64 x),.el (aB e3127),.ld (aB e3127),Bf] ?_
   intro h
   exact wkT [] (ih (k+1) hx1  o h C0 C1)
  obtain rfl:=X02 rfl
  refine X2.round ?_
  revert h
  refine bI fun e3130 h3131=>?_
  try have qh3131:=Xv h3131
  intro h
  exact absurd (h3131) (by simp[X1q])
end Go.Av.Tryz