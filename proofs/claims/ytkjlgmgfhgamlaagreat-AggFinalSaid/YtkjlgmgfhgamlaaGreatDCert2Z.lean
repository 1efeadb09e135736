/- Printed by decomp.py: that the program computes the functions. -/
import Derived.Test.YtkjlgmgfhgamlaaGreatDCert1Z
set_option linter.all false

namespace Go.Av.Tryz
open Go.Proofs Go.D
set_option maxRecDepth 10000
set_option maxHeartbeats 40000000
instance Xxj:PCs Tryz.prog 197 (∀ (a0:(List X07)) (r:(List Xf)×Bool),Xd1 a0=some r->X0h Tryz.prog 197 [(Lf (a0.map X9))] (AV.tup [(AV.list true (r.1.map Xa)),(aB r.2)])):=⟨fun a0 r h=>by
 refine X0h.sym X8 X05m (nt:=105) rfl rfl ?_ okM
 unfold Xd1 at h
 revert h
 refine bI fun u1 h2=>?_
 have qh2:=X16 h2
 refine bI fun o475 h476=>rnI [.el (aI .i64 (a0.length:Int))] ?_
 intro h
 refine wkT [] (X5.cut (Xgz a0 qh2 a0 0 (by simp) _ _ nbS nbS _ h476 ?_ ?_))
 ·
  intro X08 X0n X0t X19 eo475;subst eo475
  refine X5.glue ?_
  try dsimp only at h
  rcases X0t with ⟨_|_,X4d⟩
  ·
   rcases X19 with ⟨_|_,X39⟩
   ·
    revert h
    exact fun e=>oj e▸Xb [.el (aI .i64 (X0n.length:Int))] (k:=fi)
   obtain rfl:=X39 rfl
   revert h
   exact fun e=>oj e▸Xb [.el (aI .i64 (List.length ([]:List Xf):Int))] (k:=fi)
  obtain rfl:=X4d rfl
  rcases X19 with ⟨_|_,X39⟩
  ·
   revert h
   exact fun e=>oj e▸Xb [.el (aI .i64 (X0n.length:Int))] (k:=fi)
  obtain rfl:=X39 rfl
  revert h
  exact fun e=>oj e▸Xb [.el (aI .i64 (List.length ([]:List Xf):Int))] (k:=fi)
 intro X1h X1b eo475;subst eo475
 refine X5.glue ?_
 try dsimp only at h
 rcases X1b with ⟨_|_,X5j⟩
 ·
  revert h
  exact fun e=>oj e▸Xb [] (k:=fi)
 obtain rfl:=X5j rfl
 revert h
 exact fun e=>oj e▸Xb [] (k:=fi)⟩
instance Xwc:PCs Tryz.prog 177 (∀ (a0:(List X07)) (r:(List Xf)×Int),X9q a0=some r->X0h Tryz.prog 177 [(Lf (a0.map X9))] (AV.tup [(AV.list true (r.1.map Xa)),(aI .i64 r.2)])):=⟨fun a0 r h=>by
 refine X0h.sym X8 X05t (nt:=25) rfl rfl ?_ okM
 unfold X9q at h
 revert h
 refine brI (fun h1=>fun e=>oj e▸Xb [.el (aI .i64 (a0.length:Int)),Bt] (k:=fi)) fun h1=>bI fun v2 h3=>brI (fun h4=>fun e=>oj e▸Xb [.el (aI .i64 (a0.length:Int)),Bf,.pure _ (AV.tup [(AV.list true (v2.1.map Xa)),(aB v2.2)]),Bt] (k:=fi)) fun h4=>bI fun e5 h6=>?_
 try have qh6:=Xp h6
 refine rnI [.el (aI .i64 (a0.length:Int)),Bf,.pure _ (AV.tup [(AV.list true (v2.1.map Xa)),(aB v2.2)]),Bf,.el (aI .i64 (v2.1.length:Int)),.wrap,.el (Xa e5)] ?_
 exact brI (fun h7=>fun e=>oj e▸Xb [Bt] (k:=fi)) fun h7=>fun e=>oj e▸Xb [Bf] (k:=fi)⟩
instance Xwe:PCs Tryz.prog 157 (∀ (a0:(List X07)) (r:Int),X5a a0=some r->X0h Tryz.prog 157 [(Lf (a0.map X9))] (aI .i64 r)):=⟨fun a0 r h=>by
 refine X0h.sym X8 X063 (nt:=11) rfl rfl ?_ okM
 unfold X5a at h
 revert h
 exact bI fun v1 h2=>fun e=>oj e▸Xb [.pure _ (AV.tup [(AV.list true (v1.1.map Xa)),(aI .i64 v1.2)])] (k:=fi)⟩
instance Xnp:PCs Tryz.prog 178 (∀ (a0:Int) (r:Bool),X5n a0=some r->X0h Tryz.prog 178 [(aI .i64 a0)] (aB r)):=⟨fun a0 r h=>by
 refine X0h.sym X8 X05s (nt:=9) rfl rfl ?_ okM
 unfold X5n at h
 revert h
 exact fun e=>oj e▸Xb [] (k:=fi)⟩
theorem X83 {Q:Xx->St->Mu->Prop} {μ:Mu} (X0r:(List Int)) (hl:X0r.length<=140737488355328):∀ (xs:List Int) (k:Nat) (hx:X0r.drop k=xs) (o:X25) (h:X0s X0r xs k  = some o)
  (C0:o=X25.x0->X5 Tryz.prog 19 0 Q (.exit (.exit 0)) [] ⟨fr [],hp ([]),0⟩ μ)
  (C1:∀ (Xa1:Int),o=X25.x1 Xa1->X5 Tryz.prog 19 0 Q (.exit .ret) [] ⟨fr [(4,(aI .i64 Xa1))],hp ([]),0⟩ μ),
  X5 Tryz.prog 19 0 Q (.loop (X4c 0 (Xd Tryz.f198))) [] ⟨fr [(0,(Lf (List.map (aI .i64) X0r))),(1,(AV.fn 178 [])),(7,(aI .i64 (X0r.length:Int))),(8,(aI .i64 (k:Int)))],hp ([]),0⟩ μ:=by
 intro xs
 induction xs with
 |nil =>
  intro k hx  o h C0 C1
  have hk:=X1u hx
  have hc:decide ((k:Int)<(X0r.length:Int))=false:=Yf (by omega)
  rw[X0s] at h
  refine X5.round ?_
  revert h
  exact fun e=>Xb [Bf] (k:=wkT [] (C0  (oj e).symm))
 |cons x xs ih =>
  intro k hx  o h C0 C1
  obtain⟨hk,hg,hx1⟩:=X13 hx
  have hc:decide ((k:Int)<(X0r.length:Int))=true:=Yt (by omega)
  rw[X0s] at h
  refine X5.round ?_
  revert h
  refine bI fun v10 h11=>brI (fun h12=>fun e=>Xb [Bt,.el (aI .i64 x),.pure _ (aB v10),Bt] (k:=wkT [] (C1 _  (oj e).symm))) fun h12=>rnI [Bt,.el (aI .i64 x),.pure _ (aB v10),Bf] ?_
  intro h
  exact wkT [] (ih (k+1) hx1  o h C0 C1)
theorem X4b (a0:(List Int)) (r:Int) (h:X0p a0=some r):X0h Tryz.prog 198 [(Lf (List.map (aI .i64) a0)),(AV.fn 178 [])] (aI .i64 r):=by
 refine X0h.sym X8 X05l (nt:=19) rfl rfl ?_ okM
 unfold X0p at h
 revert h
 refine bI fun u1 h2=>?_
 have qh2:=X16 h2
 refine bI fun o13 h14=>rnI [.el (aI .i64 (a0.length:Int))] ?_
 intro h
 refine wkT [] (X5.cut (X83 a0 qh2 a0 0 (by simp) _ h14 ?_ ?_))
 ·
  intro eo13;subst eo13
  refine X5.glue ?_
  try dsimp only at h
  revert h
  exact fun e=>oj e▸Xb [] (k:=fi)
 intro Xa1 eo13;subst eo13
 refine X5.glue ?_
 try dsimp only at h
 revert h
 exact fun e=>oj e▸Xb [] (k:=fi)
theorem X20 (a0:(List Int)) (r:Bool) (h:Xz a0=some r):X0h Tryz.prog 179 [(Lf (List.map (aI .i64) a0)),(AV.fn 178 [])] (aB r):=by
 refine X0h.sym X8 X05r (nt:=9) rfl rfl ?_ okM
 unfold Xz at h
 revert h
 exact bI fun v1 h2=>fun e=>oj e▸Xb [.pure [(Lf (List.map (aI .i64) a0)),(AV.fn 178 [])] (aI .i64 v1)] (o:=by repeat' first|apply Ya|exact pcM|exact(pn (X4b _ _ h2) (cc (X5r (X2l (fun _=>Xew) a0)) (cc .fn0 cn)))|exact Xr) (k:=fi)
theorem Xu4 (z:Int):∀ (ks:List Int),Xr4 (.int .i64 z) (.bool true) (ks.map Xjv)=(Xj3 ks z).map Xjv:=by
 intro ks
 unfold Xj3
 induction ks with
 |nil=>simp[Xr4,Xjv]
 |cons a r ih =>
  simp only[List.map_cons,Xjv,Xr4]
  by_cases h:a=z
  ·subst h;simp[Xjv]
  have h1:¬ (Value.int .i64 a=Value.int .i64 z):=by simpa using h
  rw[if_neg h1]
  have ih':Xr4 (.int .i64 z) (.bool true) (r.map Xjv)=(if z∈r then r else r++[z]).map Xjv:=ih
  rw[ih']
  have h2:¬ z=a:=fun e=>h e.symm
  by_cases hz:z∈r<;>simp[hz,h2,Xjv]
theorem Xbt {Q:Xx->St->Mu->Prop} {μ:Mu} (b:Nat) (l:List Int) (hl:l.length<=140737488355328):∀ (xs:List Int) (k:Nat) (hx:l.drop k=xs) (ks:List Int)
  (C:X5 Tryz.prog 18 0 Q (.exit (.exit 0)) [] ⟨fr [(3,.sc (.map (some b)))],hp [],0⟩ ((b,(X84 ks xs).map Xjv)::μ)),
  X5 Tryz.prog 18 0 Q (.loop (X4c 0 (Xd Tryz.f180))) [] ⟨fr [(3,.sc (.map (some b))),(7,AV.list false (List.map (aI .i64) l)),(8,aI .i64 (l.length:Int)),(9,aI .i64 (k:Int))],hp [],0⟩ ((b,ks.map Xjv)::μ):=by
 intro xs
 induction xs with
 |nil =>
  intro k hx ks C
  have hk:=X1u hx
  have hc:decide ((k:Int)<(l.length:Int))=false:=Yf (by omega)
  refine X5.round ?_
  refine rn tmD [Bf] rfl (by repeat' first|apply Ya|exact hc|exact oblA) ?_
  exact X5.weakTo [] C rfl (by repeat' first|apply Ya|exact wkA) trivial
 |cons x xs ih =>
  intro k hx ks C
  obtain⟨hk,hg,hx1⟩:=X13 hx
  have hc:decide ((k:Int)<(l.length:Int))=true:=Yt (by omega)
  refine X5.round ?_
  refine rn tmD [Bt,.el (aI .i64 x)] rfl (by repeat' first|apply Ya|exact hc|exact ixm hg|exact oblA) ?_
  refine X5.mapUpd (d:=.int .i64) X8 rfl rfl rfl rfl rfl Tryz.underlying3 rfl rfl rfl trivial trivial trivial rfl (by
   intro p hp;obtain⟨z,_,rfl⟩:=List.mem_map.1 hp;rfl) ?_
  rw[Xu4]
  refine X09 [] ?_
  exact X5.weakTo [] (ih (k+1) hx1 (Xj3 ks x) C) rfl (by repeat' first|apply Ya|exact wkA) trivial
theorem X7a (a0:(List Int)) (r:Int) (h:X34 a0=some r):X0h Tryz.prog 180 [(Lf (List.map (aI .i64) a0))] (aI .i64 r):=by
 refine X0h.sym X8 X05q (nt:=18) rfl rfl ?_ (X0x .list X7k)
 unfold X34 at h
 refine X04h h ?_
 clear h;intro u h1 h
 have q1:=X16 h1
 obtain rfl:=oj h
 refine X09 [] ?_
 refine X5.mapNew rfl rfl rfl fun b=>?_
 refine X09 [] ?_
 refine X5.weakTo [] (X5.cut (Xbt b a0 q1 a0 0 (by simp) [] ?_)) rfl (by repeat' first|apply Ya|exact wkA) trivial
 refine X5.glue ?_
 refine X09 [] ?_
 refine X5.mapLen X8 rfl rfl rfl rfl rfl rfl trivial ?_
 rw[List.length_map]
 refine X09 [] ?_
 exact Xlw rfl .sc
instance Xqu:PCs Tryz.prog 158 (∀ (a0:(List Int)) (a1:Bool) (r:Int),X2e a0 a1=some r->X0h Tryz.prog 158 [(Lf (List.map (aI .i64) a0)),(aB a1)] (aI .i64 r)):=⟨fun a0 a1 r h=>by
 refine X0h.sym X8 X062 (nt:=30) rfl rfl ?_ okM
 unfold X2e at h
 revert h
 refine brI (fun h1=>fun e=>oj e▸Xb [.el (aI .i64 (a0.length:Int)),Bt] (k:=fi)) fun h1=>bI fun X00w h17=>rnI [.el (aI .i64 (a0.length:Int)),Bf,.stop 4] ?_
 intro h
 refine X5.join (s':=⟨fr [(0,(Lf (List.map (aI .i64) a0))),(24,(aB X00w))],hp ([]),0⟩) ?_ (fun J=>X5.cut ?_)
 ·
  revert h
  refine brI (fun h18=>fun e=>oj e▸Xb [Bt] (k:=fi)) fun h18=>?_
  refine bI fun v19 h20=>brI (fun h21=>?_) fun h21=>?_
  ·
   exact fun e=>oj e▸Xb [Bf,.pure [(Lf (List.map (aI .i64) a0))] (aI .i64 v19),.el (aI .i64 (a0.length:Int)),Bt] (o:=by repeat' first|apply Ya|exact pcM|exact(pn (X7a _ _ h20) (cc (X5r (X2l (fun _=>Xew) a0)) cn))|exact Xr) (k:=fi)
  exact fun e=>oj e▸Xb [Bf,.pure [(Lf (List.map (aI .i64) a0))] (aI .i64 v19),.el (aI .i64 (a0.length:Int)),Bf] (o:=by repeat' first|apply Ya|exact pcM|exact(pn (X7a _ _ h20) (cc (X5r (X2l (fun _=>Xew) a0)) cn))|exact Xr) (k:=fi)
 clear h;revert h17
 refine brI (fun h10=>?_) fun h10=>?_
 ·
  intro h
  obtain rfl:=oj h
  exact Xb [.el (aI .i64 (a0.length:Int)),.go false,.go false,.go false,.go false,.go false,.go false,.go false,.go false,.go false] (o:=by repeat' first|apply Ya|exact pcM|exact((X0 h10 rfl))|exact(X6 (X0 h10 rfl))|exact(X24 (X0 h10 rfl))|exact Xr) (k:=wkT [] (X5.glue J))
 refine brI (fun h11=>?_) fun h11=>?_
 ·
  refine brI (fun h12=>?_) fun h12=>?_
  ·
   intro h
   obtain rfl:=oj h
   exact Xb [.el (aI .i64 (a0.length:Int)),.go true,.go true,.go true,.go true,.el (aI .i64 (a0.length:Int)),.go true,.go true,.go false,.go false,.go false] (o:=by repeat' first|apply Ya|exact pcM|exact((X1 h10 (X0 h11 h12)))|exact(X6 (X1 h10 (X0 h11 h12)))|exact(X24 (X1 h10 (X0 h11 h12)))|exact Xr) (k:=wkT [] (X5.glue J))
  refine bI fun v13 h14=>?_
  intro h
  obtain rfl:=oj h
  exact Xb [.el (aI .i64 (a0.length:Int)),.go true,.go true,.go true,.go true,.el (aI .i64 (a0.length:Int)),.go true,.go true,.go true,.go true,.go true,.pure [(Lf (List.map (aI .i64) a0)),(AV.fn 178 [])] (aB v13)] (o:=by repeat' first|apply Ya|exact pcM|exact((X1 h10 (X0 h11 h12)))|exact(X6 (X1 h10 (X0 h11 h12)))|exact(pn (X20 _ _ h14) (cc (X5r (X2l (fun _=>Xew) a0)) (cc .fn0 cn)))|exact(X1q (X1 h10 (X0 h11 h12)))|exact Xr) (k:=wkT [] (X5.glue J))
 refine bI fun v15 h16=>?_
 intro h
 obtain rfl:=oj h
 exact Xb [.el (aI .i64 (a0.length:Int)),.go true,.go true,.go false,.go false,.go false,.go true,.go true,.go true,.go true,.pure [(Lf (List.map (aI .i64) a0)),(AV.fn 178 [])] (aB v15)] (o:=by repeat' first|apply Ya|exact pcM|exact((X1 h10 (X1 h11 rfl)))|exact(X6 (X1 h10 (X1 h11 rfl)))|exact(pn (X20 _ _ h16) (cc (X5r (X2l (fun _=>Xew) a0)) (cc .fn0 cn)))|exact(X1q (X1 h10 (X1 h11 rfl)))|exact Xr) (k:=wkT [] (X5.glue J))⟩
instance X4f:PCs Tryz.prog 78 (∀ (a0:X0y) (r:Int),X17 a0=some r->X0h Tryz.prog 78 [(X3f a0)] (aI .i64 r)):=⟨fun a0 r h=>by
 refine X0h.sym X8 fn78 (nt:=40) rfl rfl ?_ okM
 unfold X17 at h
 revert h
 exact brI (fun h1=>fun e=>oj e▸Xb [Bt] (k:=fi)) fun h1=>brI (fun h2=>brI (fun h3=>fun e=>oj e▸Xb [Bf,Bt,.wrap,Bt] (k:=fi)) fun h3=>fun e=>oj e▸Xb [Bf,Bt,.wrap,Bf] (k:=fi)) fun h2=>brI (fun h4=>brI (fun h5=>fun e=>oj e▸Xb [Bf,Bf,Bt,Bt] (k:=fi)) fun h5=>fun e=>oj e▸Xb [Bf,Bf,Bt,Bf] (k:=fi)) fun h4=>brI (fun h6=>brI (fun h7=>fun e=>oj e▸Xb [Bf,Bf,Bf,Bt,Bt] (k:=fi)) fun h7=>fun e=>oj e▸Xb [Bf,Bf,Bf,Bt,Bf] (k:=fi)) fun h6=>fun e=>oj e▸Xb [Bf,Bf,Bf,Bf] (k:=fi)⟩
instance Xsq:PCs Tryz.prog 131 (∀ (a0:X0b) (r:Int),X7b a0=some r->X0h Tryz.prog 131 [(X05 false a0)] (aI .i64 r)):=⟨fun a0 r h=>by
 refine X0h.sym X8 X06h (nt:=66) rfl rfl ?_ okM
 unfold X7b at h
 revert h
 refine brI (fun h1=>fun e=>oj e▸Xb [Bt] (k:=fi)) fun h1=>?_
 refine brI (fun h2=>?_) fun h2=>?_
 ·
  refine bI fun v3 h4=>brI (fun h5=>fun e=>oj e▸Xb [Bf,Bt,.pure _ (aI .i64 v3),Bt] (k:=fi)) fun h5=>?_
  refine brI (fun h6=>?_) fun h6=>bI fun v16 h17=>brI (fun h18=>fun e=>oj e▸Xb [Bf,Bt,.pure _ (aI .i64 v3),Bf,.el (aI .i64 (a0.Where.length:Int)),Bf,.pure _ (aI .i64 v16),Bt] (k:=fi)) fun h18=>brI (fun h19=>fun e=>oj e▸Xb [Bf,Bt,.pure _ (aI .i64 v3),Bf,.el (aI .i64 (a0.Where.length:Int)),Bf,.pure _ (aI .i64 v16),Bf,Bt] (k:=fi)) fun h19=>bI fun v20 h21=>fun e=>oj e▸Xb [Bf,Bt,.pure _ (aI .i64 v3),Bf,.el (aI .i64 (a0.Where.length:Int)),Bf,.pure _ (aI .i64 v16),Bf,Bf,.pure _ (aI .i64 v20)] (k:=fi)
  refine bI fun v7 h8=>brI (fun h9=>fun e=>oj e▸Xb [Bf,Bt,.pure _ (aI .i64 v3),Bf,.el (aI .i64 (a0.Where.length:Int)),Bt,.pure _ (aI .i64 v7),Bt] (k:=fi)) fun h9=>bI fun v10 h11=>rnI [Bf,Bt,.pure _ (aI .i64 v3),Bf,.el (aI .i64 (a0.Where.length:Int)),Bt,.pure _ (aI .i64 v7),Bf,.pure _ (aI .i64 v10)] ?_
  exact brI (fun h12=>fun e=>oj e▸Xb [Bt] (k:=fi)) fun h12=>brI (fun h13=>fun e=>oj e▸Xb [Bf,Bt] (k:=fi)) fun h13=>bI fun v14 h15=>fun e=>oj e▸Xb [Bf,Bf,.pure _ (aI .i64 v14)] (k:=fi)
 refine brI (fun h22=>fun e=>oj e▸Xb [Bf,Bf,.el (aI .i64 (a0.Arg.length:Int)),Bt] (k:=fi)) fun h22=>?_
 refine brI (fun h23=>?_) fun h23=>?_
 ·
  refine bI fun v24 h25=>rnI [Bf,Bf,.el (aI .i64 (a0.Arg.length:Int)),Bf,.el (aI .i64 (a0.Where.length:Int)),Bt,.pure _ (aI .i64 v24)] ?_
  exact brI (fun h26=>fun e=>oj e▸Xb [Bt] (k:=fi)) fun h26=>bI fun v27 h28=>brI (fun h29=>fun e=>oj e▸Xb [Bf,.pure _ (aI .i64 v27),Bt] (k:=fi)) fun h29=>brI (fun h30=>fun e=>oj e▸Xb [Bf,.pure _ (aI .i64 v27),Bf,Bt] (k:=fi)) fun h30=>bI fun v31 h32=>fun e=>oj e▸Xb [Bf,.pure _ (aI .i64 v27),Bf,Bf,.pure _ (aI .i64 v31)] (k:=fi)
 refine bI fun v33 h34=>rnI [Bf,Bf,.el (aI .i64 (a0.Arg.length:Int)),Bf,.el (aI .i64 (a0.Where.length:Int)),Bf,.pure _ (aI .i64 v33)] ?_
 exact brI (fun h35=>fun e=>oj e▸Xb [Bt] (k:=fi)) fun h35=>brI (fun h36=>fun e=>oj e▸Xb [Bf,Bt] (k:=fi)) fun h36=>bI fun v37 h38=>fun e=>oj e▸Xb [Bf,Bf,.pure _ (aI .i64 v37)] (k:=fi)⟩
theorem X4s {Q:Xx->St->Mu->Prop} {μ:Mu} (Xl:(List Bool)) (X7g:(V2 Bool)) (X0k:(List Int)) (Xy:Nb Xl) (hl:X0k.length<=140737488355328):∀ (xs:List Int) (k:Nat) (hx:X0k.drop k=xs) (o:X29) (h:X0a Xl X7g X0k xs k  = some o)
  (C0:o=X29.x0->X5 Tryz.prog 21 4 Q (.exit (.exit 0)) [] ⟨fr [],hp ([(0,Ob [(slE Xy.1 1 (Xl.map aB))] 1),(2,Ob [(X8n X7g)] 2),(3,Ob (List.map (aI .i64) X0k) 1)]++opE Xy.1 1 1 (Xl.map aB)),4⟩ μ)
  (C1:o=X29.x1->X5 Tryz.prog 21 4 Q (.exit .ret) [] ⟨fr [(5,(aB false))],hp ([(0,Ob [(slE Xy.1 1 (Xl.map aB))] 1),(2,Ob [(X8n X7g)] 2),(3,Ob (List.map (aI .i64) X0k) 1)]++opE Xy.1 1 1 (Xl.map aB)),4⟩ μ),
  X5 Tryz.prog 21 4 Q (.loop (X4c 0 (Xd Tryz.f212))) [] ⟨fr [(0,(aB false)),(2,(AV.ptr 0 0 0)),(8,(AV.ref 3 0 (X0k.length))),(9,(aI .i64 (X0k.length:Int))),(10,(aI .i64 (k:Int)))],hp ([(0,Ob [(slE Xy.1 1 (Xl.map aB))] 1),(2,Ob [(X8n X7g)] 2),(3,Ob (List.map (aI .i64) X0k) 1)]++opE Xy.1 1 1 (Xl.map aB)),4⟩ μ:=by
 intro xs
 induction xs with
 |nil =>
  intro k hx  o h C0 C1
  have hk:=X1u hx
  have hc:decide ((k:Int)<(X0k.length:Int))=false:=Yf (by omega)
  rw[X0a] at h
  rcases Xy with ⟨_|_,X0m⟩
  ·
   refine X5.round ?_
   revert h
   exact fun e=>Xb [Bf] (k:=wkT [] (C0  (oj e).symm))
  ·
   obtain rfl:=X0m rfl
   refine X5.round ?_
   revert h
   exact fun e=>Xb [Bf] (k:=wkT [] (C0  (oj e).symm))
 |cons x xs ih =>
  intro k hx  o h C0 C1
  obtain⟨hk,hg,hx1⟩:=X13 hx
  have hc:decide ((k:Int)<(X0k.length:Int))=true:=Yt (by omega)
  rw[X0a] at h
  rcases Xy with ⟨_|_,X0m⟩
  ·
   refine X5.round ?_
   revert h
   refine bI fun e3011 h3012=>?_
   try have qh3012:=Xp h3012
   refine brI (fun h3013=>fun e=>Xb [Bt,.el (aI .i64 x),.ld (aI .i64 x),.el (aB e3011),.ld (aB e3011),Bt] (k:=wkT [] (C1  (oj e).symm))) fun h3013=>rnI [Bt,.el (aI .i64 x),.ld (aI .i64 x),.el (aB e3011),.ld (aB e3011),Bf] ?_
   intro h
   exact wkT [] (ih (k+1) hx1  o h C0 C1)
  obtain rfl:=X0m rfl
  refine X5.round ?_
  revert h
  refine bI fun e3014 h3015=>?_
  try have qh3015:=Xp h3015
  intro h
  exact absurd (h3015) (by simp[X32])
theorem X1s {Q:Xx->St->Mu->Prop} {μ:Mu} (Xl:(List Bool)) (X1o:(List Int)) (Xy:Nb Xl) (hl:X1o.length<=140737488355328):∀ (xs:List Int) (k:Nat) (hx:X1o.drop k=xs) (o:X22) (h:X0d Xl X1o xs k  = some o)
  (C0:o=X22.x0->X5 Tryz.prog 21 4 Q (.exit (.exit 0)) [] ⟨fr [],hp ([(0,Ob [(slE Xy.1 1 (Xl.map aB))] 1)]++opE Xy.1 1 1 (Xl.map aB)),4⟩ μ)
  (C1:o=X22.x1->X5 Tryz.prog 21 4 Q (.exit .ret) [] ⟨fr [(5,(aB false))],hp ([(0,Ob [(slE Xy.1 1 (Xl.map aB))] 1)]++opE Xy.1 1 1 (Xl.map aB)),4⟩ μ),
  X5 Tryz.prog 21 4 Q (.loop (X4c 0 (Xd Tryz.f212))) [] ⟨fr [(0,(aB true)),(2,(AV.ptr 0 0 0)),(8,(AV.ref 4 0 (X1o.length))),(9,(aI .i64 (X1o.length:Int))),(10,(aI .i64 (k:Int)))],hp ([(0,Ob [(slE Xy.1 1 (Xl.map aB))] 1),(4,Ob (List.map (aI .i64) X1o) 1)]++opE Xy.1 1 1 (Xl.map aB)),5⟩ μ:=by
 intro xs
 induction xs with
 |nil =>
  intro k hx  o h C0 C1
  have hk:=X1u hx
  have hc:decide ((k:Int)<(X1o.length:Int))=false:=Yf (by omega)
  rw[X0d] at h
  rcases Xy with ⟨_|_,X0m⟩
  ·
   refine X5.round ?_
   revert h
   exact fun e=>Xb [Bf] (k:=wkT [] (C0  (oj e).symm))
  ·
   obtain rfl:=X0m rfl
   refine X5.round ?_
   revert h
   exact fun e=>Xb [Bf] (k:=wkT [] (C0  (oj e).symm))
 |cons x xs ih =>
  intro k hx  o h C0 C1
  obtain⟨hk,hg,hx1⟩:=X13 hx
  have hc:decide ((k:Int)<(X1o.length:Int))=true:=Yt (by omega)
  rw[X0d] at h
  rcases Xy with ⟨_|_,X0m⟩
  ·
   refine X5.round ?_
   revert h
   refine bI fun e3127 h3128=>?_
   try have qh3128:=Xp h3128
   refine brI (fun h3129=>fun e=>Xb [Bt,.el (aI .i64 x),.ld (aI .i64 x),.el (aB e3127),.ld (aB e3127),Bt] (k:=wkT [] (C1  (oj e).symm))) fun h3129=>rnI [Bt,.el (aI .i64 x),.ld (aI .i64 x),.el (aB e3127),.ld (aB e3127),Bf] ?_
   intro h
   exact wkT [] (ih (k+1) hx1  o h C0 C1)
  obtain rfl:=X0m rfl
  refine X5.round ?_
  revert h
  refine bI fun e3130 h3131=>?_
  try have qh3131:=Xp h3131
  intro h
  exact absurd (h3131) (by simp[X32])
end Go.Av.Tryz