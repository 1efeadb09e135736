/- Printed by decomp.py: that the program computes the functions. -/
import Derived.Test.YtfdfgobnpnoomaaGreatDCert1Z
set_option linter.all false

namespace Go.Av.Tryz
open Go.Proofs Go.D
set_option maxRecDepth 10000
set_option maxHeartbeats 40000000
instance Xx9:PCs Tryz.prog 175 (∀ (a0:(List Xw)) (r:(List Xe)×Bool),Xc8 a0=some r->X0o Tryz.prog 175 [(Lf (a0.map X1))] (AV.tup [(AV.list true (r.1.map X7)),(aB r.2)])):=⟨fun a0 r h=>by
 refine X0o.sym X9 X053 (nt:=105) rfl rfl ?_ okM
 unfold Xc8 at h
 revert h
 refine bI fun u1 h2=>?_
 have qh2:=X09 h2
 refine bI fun o475 h476=>rnI [.el (aI .i64 (a0.length:Int))] ?_
 intro h
 refine wkT [] (X2.cut (Xfh a0 qh2 a0 0 (by simp) _ _ nbS nbS _ h476 ?_ ?_))
 ·
  intro Xr X0d X03 X0f eo475;subst eo475
  refine X2.glue ?_
  try dsimp only at h
  rcases X03 with ⟨_|_,X2e⟩
  ·
   rcases X0f with ⟨_|_,X2d⟩
   ·
    revert h
    exact fun e=>oj e▸X8 [.el (aI .i64 (X0d.length:Int))] (k:=fi)
   obtain rfl:=X2d rfl
   revert h
   exact fun e=>oj e▸X8 [.el (aI .i64 (List.length ([]:List Xe):Int))] (k:=fi)
  obtain rfl:=X2e rfl
  rcases X0f with ⟨_|_,X2d⟩
  ·
   revert h
   exact fun e=>oj e▸X8 [.el (aI .i64 (X0d.length:Int))] (k:=fi)
  obtain rfl:=X2d rfl
  revert h
  exact fun e=>oj e▸X8 [.el (aI .i64 (List.length ([]:List Xe):Int))] (k:=fi)
 intro X04 X02 eo475;subst eo475
 refine X2.glue ?_
 try dsimp only at h
 rcases X02 with ⟨_|_,X2b⟩
 ·
  revert h
  exact fun e=>oj e▸X8 [] (k:=fi)
 obtain rfl:=X2b rfl
 revert h
 exact fun e=>oj e▸X8 [] (k:=fi)⟩
instance Xwe:PCs Tryz.prog 135 (∀ (a0:(List Xw)) (r:(List Xe)×Int),X8s a0=some r->X0o Tryz.prog 135 [(Lf (a0.map X1))] (AV.tup [(AV.list true (r.1.map X7)),(aI .i64 r.2)])):=⟨fun a0 r h=>by
 refine X0o.sym X9 X05f (nt:=25) rfl rfl ?_ okM
 unfold X8s at h
 revert h
 refine brI (fun h1=>fun e=>oj e▸X8 [.el (aI .i64 (a0.length:Int)),Bt] (k:=fi)) fun h1=>bI fun v2 h3=>brI (fun h4=>fun e=>oj e▸X8 [.el (aI .i64 (a0.length:Int)),Bf,.pure _ (AV.tup [(AV.list true (v2.1.map X7)),(aB v2.2)]),Bt] (k:=fi)) fun h4=>bI fun e5 h6=>?_
 try have qh6:=Xp h6
 refine rnI [.el (aI .i64 (a0.length:Int)),Bf,.pure _ (AV.tup [(AV.list true (v2.1.map X7)),(aB v2.2)]),Bf,.el (aI .i64 (v2.1.length:Int)),.wrap,.el (X7 e5)] ?_
 exact brI (fun h7=>fun e=>oj e▸X8 [Bt] (k:=fi)) fun h7=>fun e=>oj e▸X8 [Bf] (k:=fi)⟩
instance Xwg:PCs Tryz.prog 106 (∀ (a0:(List Xw)) (r:Int),X4t a0=some r->X0o Tryz.prog 106 [(Lf (a0.map X1))] (aI .i64 r)):=⟨fun a0 r h=>by
 refine X0o.sym X9 X05w (nt:=11) rfl rfl ?_ okM
 unfold X4t at h
 revert h
 exact bI fun v1 h2=>fun e=>oj e▸X8 [.pure _ (AV.tup [(AV.list true (v1.1.map X7)),(aI .i64 v1.2)])] (k:=fi)⟩
instance Xmp:PCs Tryz.prog 136 (∀ (a0:Int) (r:Bool),X54 a0=some r->X0o Tryz.prog 136 [(aI .i64 a0)] (aB r)):=⟨fun a0 r h=>by
 refine X0o.sym X9 X05e (nt:=9) rfl rfl ?_ okM
 unfold X54 at h
 revert h
 exact fun e=>oj e▸X8 [] (k:=fi)⟩
theorem X7l {Q:Xy->St->Mu->Prop} {μ:Mu} (X0i:(List Int)) (hl:X0i.length<=140737488355328):∀ (xs:List Int) (k:Nat) (hx:X0i.drop k=xs) (o:X1o) (h:X0k X0i xs k  = some o)
  (C0:o=X1o.x0->X2 Tryz.prog 19 0 Q (.exit (.exit 0)) [] ⟨fr [],hp ([]),0⟩ μ)
  (C1:∀ (X93:Int),o=X1o.x1 X93->X2 Tryz.prog 19 0 Q (.exit .ret) [] ⟨fr [(4,(aI .i64 X93))],hp ([]),0⟩ μ),
  X2 Tryz.prog 19 0 Q (.loop (X4k 0 (Xl Tryz.f176))) [] ⟨fr [(0,(Lf (List.map (aI .i64) X0i))),(1,(AV.fn 136 [])),(7,(aI .i64 (X0i.length:Int))),(8,(aI .i64 (k:Int)))],hp ([]),0⟩ μ:=by
 intro xs
 induction xs with
 |nil =>
  intro k hx  o h C0 C1
  have hk:=X18 hx
  have hc:decide ((k:Int)<(X0i.length:Int))=false:=Yf (by omega)
  rw[X0k] at h
  refine X2.round ?_
  revert h
  exact fun e=>X8 [Bf] (k:=wkT [] (C0  (oj e).symm))
 |cons x xs ih =>
  intro k hx  o h C0 C1
  obtain⟨hk,hg,hx1⟩:=X0r hx
  have hc:decide ((k:Int)<(X0i.length:Int))=true:=Yt (by omega)
  rw[X0k] at h
  refine X2.round ?_
  revert h
  refine bI fun v10 h11=>brI (fun h12=>fun e=>X8 [Bt,.el (aI .i64 x),.pure _ (aB v10),Bt] (k:=wkT [] (C1 _  (oj e).symm))) fun h12=>rnI [Bt,.el (aI .i64 x),.pure _ (aB v10),Bf] ?_
  intro h
  exact wkT [] (ih (k+1) hx1  o h C0 C1)
theorem X3r (a0:(List Int)) (r:Int) (h:X0h a0=some r):X0o Tryz.prog 176 [(Lf (List.map (aI .i64) a0)),(AV.fn 136 [])] (aI .i64 r):=by
 refine X0o.sym X9 X052 (nt:=19) rfl rfl ?_ okM
 unfold X0h at h
 revert h
 refine bI fun u1 h2=>?_
 have qh2:=X09 h2
 refine bI fun o13 h14=>rnI [.el (aI .i64 (a0.length:Int))] ?_
 intro h
 refine wkT [] (X2.cut (X7l a0 qh2 a0 0 (by simp) _ h14 ?_ ?_))
 ·
  intro eo13;subst eo13
  refine X2.glue ?_
  try dsimp only at h
  revert h
  exact fun e=>oj e▸X8 [] (k:=fi)
 intro X93 eo13;subst eo13
 refine X2.glue ?_
 try dsimp only at h
 revert h
 exact fun e=>oj e▸X8 [] (k:=fi)
theorem X1k (a0:(List Int)) (r:Bool) (h:Xz a0=some r):X0o Tryz.prog 137 [(Lf (List.map (aI .i64) a0)),(AV.fn 136 [])] (aB r):=by
 refine X0o.sym X9 X05d (nt:=9) rfl rfl ?_ okM
 unfold Xz at h
 revert h
 exact bI fun v1 h2=>fun e=>oj e▸X8 [.pure [(Lf (List.map (aI .i64) a0)),(AV.fn 136 [])] (aI .i64 v1)] (o:=by repeat' first|apply Ya|exact pcM|exact(pn (X3r _ _ h2) (cc (Xb0 (X22 (fun _=>Xf9) a0)) (cc .fn0 cn)))|exact X08) (k:=fi)
theorem Xu2 (z:Int):∀ (ks:List Int),Xqe (.int .i64 z) (.bool true) (ks.map Xil)=(Xhs ks z).map Xil:=by
 intro ks
 unfold Xhs
 induction ks with
 |nil=>simp[Xqe,Xil]
 |cons a r ih =>
  simp only[List.map_cons,Xil,Xqe]
  by_cases h:a=z
  ·subst h;simp[Xil]
  have h1:¬ (Value.int .i64 a=Value.int .i64 z):=by simpa using h
  rw[if_neg h1]
  have ih':Xqe (.int .i64 z) (.bool true) (r.map Xil)=(if z∈r then r else r++[z]).map Xil:=ih
  rw[ih']
  have h2:¬ z=a:=fun e=>h e.symm
  by_cases hz:z∈r<;>simp[hz,h2,Xil]
theorem Xb1 {Q:Xy->St->Mu->Prop} {μ:Mu} (b:Nat) (l:List Int) (hl:l.length<=140737488355328):∀ (xs:List Int) (k:Nat) (hx:l.drop k=xs) (ks:List Int)
  (C:X2 Tryz.prog 18 0 Q (.exit (.exit 0)) [] ⟨fr [(3,.sc (.map (some b)))],hp [],0⟩ ((b,(X7m ks xs).map Xil)::μ)),
  X2 Tryz.prog 18 0 Q (.loop (X4k 0 (Xl Tryz.f138))) [] ⟨fr [(3,.sc (.map (some b))),(7,AV.list false (List.map (aI .i64) l)),(8,aI .i64 (l.length:Int)),(9,aI .i64 (k:Int))],hp [],0⟩ ((b,ks.map Xil)::μ):=by
 intro xs
 induction xs with
 |nil =>
  intro k hx ks C
  have hk:=X18 hx
  have hc:decide ((k:Int)<(l.length:Int))=false:=Yf (by omega)
  refine X2.round ?_
  refine rn tmD [Bf] rfl (by repeat' first|apply Ya|exact hc|exact oblA) ?_
  exact X2.weakTo [] C rfl (by repeat' first|apply Ya|exact wkA) trivial
 |cons x xs ih =>
  intro k hx ks C
  obtain⟨hk,hg,hx1⟩:=X0r hx
  have hc:decide ((k:Int)<(l.length:Int))=true:=Yt (by omega)
  refine X2.round ?_
  refine rn tmD [Bt,.el (aI .i64 x)] rfl (by repeat' first|apply Ya|exact hc|exact ixm hg|exact oblA) ?_
  refine X2.mapUpd (d:=.int .i64) X9 rfl rfl rfl rfl rfl Tryz.underlying3 rfl rfl rfl trivial trivial trivial rfl (by
   intro p hp;obtain⟨z,_,rfl⟩:=List.mem_map.1 hp;rfl) ?_
  rw[Xu2]
  refine X0y [] ?_
  exact X2.weakTo [] (ih (k+1) hx1 (Xhs ks x) C) rfl (by repeat' first|apply Ya|exact wkA) trivial
theorem X6l (a0:(List Int)) (r:Int) (h:X2q a0=some r):X0o Tryz.prog 138 [(Lf (List.map (aI .i64) a0))] (aI .i64 r):=by
 refine X0o.sym X9 X05c (nt:=18) rfl rfl ?_ (X1g .list X7x)
 unfold X2q at h
 refine X03w h ?_
 clear h;intro u h1 h
 have q1:=X09 h1
 obtain rfl:=oj h
 refine X0y [] ?_
 refine X2.mapNew rfl rfl rfl fun b=>?_
 refine X0y [] ?_
 refine X2.weakTo [] (X2.cut (Xb1 b a0 q1 a0 0 (by simp) [] ?_)) rfl (by repeat' first|apply Ya|exact wkA) trivial
 refine X2.glue ?_
 refine X0y [] ?_
 refine X2.mapLen X9 rfl rfl rfl rfl rfl rfl trivial ?_
 rw[List.length_map]
 refine X0y [] ?_
 exact Xuy rfl .sc
instance Xq5:PCs Tryz.prog 107 (∀ (a0:(List Int)) (a1:Bool) (r:Int),X23 a0 a1=some r->X0o Tryz.prog 107 [(Lf (List.map (aI .i64) a0)),(aB a1)] (aI .i64 r)):=⟨fun a0 a1 r h=>by
 refine X0o.sym X9 X05v (nt:=30) rfl rfl ?_ okM
 unfold X23 at h
 revert h
 refine brI (fun h1=>fun e=>oj e▸X8 [.el (aI .i64 (a0.length:Int)),Bt] (k:=fi)) fun h1=>bI fun X00l h17=>rnI [.el (aI .i64 (a0.length:Int)),Bf,.stop 4] ?_
 intro h
 refine X2.join (s':=⟨fr [(0,(Lf (List.map (aI .i64) a0))),(24,(aB X00l))],hp ([]),0⟩) ?_ (fun J=>X2.cut ?_)
 ·
  revert h
  refine brI (fun h18=>fun e=>oj e▸X8 [Bt] (k:=fi)) fun h18=>?_
  refine bI fun v19 h20=>brI (fun h21=>?_) fun h21=>?_
  ·
   exact fun e=>oj e▸X8 [Bf,.pure [(Lf (List.map (aI .i64) a0))] (aI .i64 v19),.el (aI .i64 (a0.length:Int)),Bt] (o:=by repeat' first|apply Ya|exact pcM|exact(pn (X6l _ _ h20) (cc (Xb0 (X22 (fun _=>Xf9) a0)) cn))|exact X08) (k:=fi)
  exact fun e=>oj e▸X8 [Bf,.pure [(Lf (List.map (aI .i64) a0))] (aI .i64 v19),.el (aI .i64 (a0.length:Int)),Bf] (o:=by repeat' first|apply Ya|exact pcM|exact(pn (X6l _ _ h20) (cc (Xb0 (X22 (fun _=>Xf9) a0)) cn))|exact X08) (k:=fi)
 clear h;revert h17
 refine brI (fun h10=>?_) fun h10=>?_
 ·
  intro h
  obtain rfl:=oj h
  exact X8 [.el (aI .i64 (a0.length:Int)),.go false,.go false,.go false,.go false,.go false,.go false,.go false,.go false,.go false] (o:=by repeat' first|apply Ya|exact pcM|exact((Xf h10 rfl))|exact(Xt (Xf h10 rfl))|exact(X7h (Xf h10 rfl))|exact X08) (k:=wkT [] (X2.glue J))
 refine brI (fun h11=>?_) fun h11=>?_
 ·
  refine brI (fun h12=>?_) fun h12=>?_
  ·
   intro h
   obtain rfl:=oj h
   exact X8 [.el (aI .i64 (a0.length:Int)),.go true,.go true,.go true,.go true,.el (aI .i64 (a0.length:Int)),.go true,.go true,.go false,.go false,.go false] (o:=by repeat' first|apply Ya|exact pcM|exact((Xd h10 (Xf h11 h12)))|exact(Xt (Xd h10 (Xf h11 h12)))|exact(X7h (Xd h10 (Xf h11 h12)))|exact X08) (k:=wkT [] (X2.glue J))
  refine bI fun v13 h14=>?_
  intro h
  obtain rfl:=oj h
  exact X8 [.el (aI .i64 (a0.length:Int)),.go true,.go true,.go true,.go true,.el (aI .i64 (a0.length:Int)),.go true,.go true,.go true,.go true,.go true,.pure [(Lf (List.map (aI .i64) a0)),(AV.fn 136 [])] (aB v13)] (o:=by repeat' first|apply Ya|exact pcM|exact((Xd h10 (Xf h11 h12)))|exact(Xt (Xd h10 (Xf h11 h12)))|exact(pn (X1k _ _ h14) (cc (Xb0 (X22 (fun _=>Xf9) a0)) (cc .fn0 cn)))|exact(Xb7 (Xd h10 (Xf h11 h12)))|exact X08) (k:=wkT [] (X2.glue J))
 refine bI fun v15 h16=>?_
 intro h
 obtain rfl:=oj h
 exact X8 [.el (aI .i64 (a0.length:Int)),.go true,.go true,.go false,.go false,.go false,.go true,.go true,.go true,.go true,.pure [(Lf (List.map (aI .i64) a0)),(AV.fn 136 [])] (aB v15)] (o:=by repeat' first|apply Ya|exact pcM|exact((Xd h10 (Xd h11 rfl)))|exact(Xt (Xd h10 (Xd h11 rfl)))|exact(pn (X1k _ _ h16) (cc (Xb0 (X22 (fun _=>Xf9) a0)) (cc .fn0 cn)))|exact(Xb7 (Xd h10 (Xd h11 rfl)))|exact X08) (k:=wkT [] (X2.glue J))⟩
instance X3u:PCs Tryz.prog 78 (∀ (a0:X0l) (r:Int),X0z a0=some r->X0o Tryz.prog 78 [(X30 a0)] (aI .i64 r)):=⟨fun a0 r h=>by
 refine X0o.sym X9 fn78 (nt:=40) rfl rfl ?_ okM
 unfold X0z at h
 revert h
 exact brI (fun h1=>fun e=>oj e▸X8 [Bt] (k:=fi)) fun h1=>brI (fun h2=>brI (fun h3=>fun e=>oj e▸X8 [Bf,Bt,.wrap,Bt] (k:=fi)) fun h3=>fun e=>oj e▸X8 [Bf,Bt,.wrap,Bf] (k:=fi)) fun h2=>brI (fun h4=>brI (fun h5=>fun e=>oj e▸X8 [Bf,Bf,Bt,Bt] (k:=fi)) fun h5=>fun e=>oj e▸X8 [Bf,Bf,Bt,Bf] (k:=fi)) fun h4=>brI (fun h6=>brI (fun h7=>fun e=>oj e▸X8 [Bf,Bf,Bf,Bt,Bt] (k:=fi)) fun h7=>fun e=>oj e▸X8 [Bf,Bf,Bf,Bt,Bf] (k:=fi)) fun h6=>fun e=>oj e▸X8 [Bf,Bf,Bf,Bf] (k:=fi)⟩
instance Xsm:PCs Tryz.prog 73 (∀ (a0:Xu) (r:Int),X6m a0=some r->X0o Tryz.prog 73 [(Xq false a0)] (aI .i64 r)):=⟨fun a0 r h=>by
 refine X0o.sym X9 fn73 (nt:=66) rfl rfl ?_ okM
 unfold X6m at h
 revert h
 refine brI (fun h1=>fun e=>oj e▸X8 [Bt] (k:=fi)) fun h1=>?_
 refine brI (fun h2=>?_) fun h2=>?_
 ·
  refine bI fun v3 h4=>brI (fun h5=>fun e=>oj e▸X8 [Bf,Bt,.pure _ (aI .i64 v3),Bt] (k:=fi)) fun h5=>?_
  refine brI (fun h6=>?_) fun h6=>bI fun v16 h17=>brI (fun h18=>fun e=>oj e▸X8 [Bf,Bt,.pure _ (aI .i64 v3),Bf,.el (aI .i64 (a0.Where.length:Int)),Bf,.pure _ (aI .i64 v16),Bt] (k:=fi)) fun h18=>brI (fun h19=>fun e=>oj e▸X8 [Bf,Bt,.pure _ (aI .i64 v3),Bf,.el (aI .i64 (a0.Where.length:Int)),Bf,.pure _ (aI .i64 v16),Bf,Bt] (k:=fi)) fun h19=>bI fun v20 h21=>fun e=>oj e▸X8 [Bf,Bt,.pure _ (aI .i64 v3),Bf,.el (aI .i64 (a0.Where.length:Int)),Bf,.pure _ (aI .i64 v16),Bf,Bf,.pure _ (aI .i64 v20)] (k:=fi)
  refine bI fun v7 h8=>brI (fun h9=>fun e=>oj e▸X8 [Bf,Bt,.pure _ (aI .i64 v3),Bf,.el (aI .i64 (a0.Where.length:Int)),Bt,.pure _ (aI .i64 v7),Bt] (k:=fi)) fun h9=>bI fun v10 h11=>rnI [Bf,Bt,.pure _ (aI .i64 v3),Bf,.el (aI .i64 (a0.Where.length:Int)),Bt,.pure _ (aI .i64 v7),Bf,.pure _ (aI .i64 v10)] ?_
  exact brI (fun h12=>fun e=>oj e▸X8 [Bt] (k:=fi)) fun h12=>brI (fun h13=>fun e=>oj e▸X8 [Bf,Bt] (k:=fi)) fun h13=>bI fun v14 h15=>fun e=>oj e▸X8 [Bf,Bf,.pure _ (aI .i64 v14)] (k:=fi)
 refine brI (fun h22=>fun e=>oj e▸X8 [Bf,Bf,.el (aI .i64 (a0.Arg.length:Int)),Bt] (k:=fi)) fun h22=>?_
 refine brI (fun h23=>?_) fun h23=>?_
 ·
  refine bI fun v24 h25=>rnI [Bf,Bf,.el (aI .i64 (a0.Arg.length:Int)),Bf,.el (aI .i64 (a0.Where.length:Int)),Bt,.pure _ (aI .i64 v24)] ?_
  exact brI (fun h26=>fun e=>oj e▸X8 [Bt] (k:=fi)) fun h26=>bI fun v27 h28=>brI (fun h29=>fun e=>oj e▸X8 [Bf,.pure _ (aI .i64 v27),Bt] (k:=fi)) fun h29=>brI (fun h30=>fun e=>oj e▸X8 [Bf,.pure _ (aI .i64 v27),Bf,Bt] (k:=fi)) fun h30=>bI fun v31 h32=>fun e=>oj e▸X8 [Bf,.pure _ (aI .i64 v27),Bf,Bf,.pure _ (aI .i64 v31)] (k:=fi)
 refine bI fun v33 h34=>rnI [Bf,Bf,.el (aI .i64 (a0.Arg.length:Int)),Bf,.el (aI .i64 (a0.Where.length:Int)),Bf,.pure _ (aI .i64 v33)] ?_
 exact brI (fun h35=>fun e=>oj e▸X8 [Bt] (k:=fi)) fun h35=>brI (fun h36=>fun e=>oj e▸X8 [Bf,Bt] (k:=fi)) fun h36=>bI fun v37 h38=>fun e=>oj e▸X8 [Bf,Bf,.pure _ (aI .i64 v37)] (k:=fi)⟩
theorem X46 {Q:Xy->St->Mu->Prop} {μ:Mu} (Xh:(List Bool)) (X5d:(V2 Bool)) (X0j:(List Int)) (Xs:Nb Xh) (hl:X0j.length<=140737488355328):∀ (xs:List Int) (k:Nat) (hx:X0j.drop k=xs) (o:X1s) (h:X0a Xh X5d X0j xs k  = some o)
  (C0:o=X1s.x0->X2 Tryz.prog 21 4 Q (.exit (.exit 0)) [] ⟨fr [],hp ([(0,Ob [(slE Xs.1 1 (Xh.map aB))] 1),(2,Ob [(X81 X5d)] 2),(3,Ob (List.map (aI .i64) X0j) 1)]++opE Xs.1 1 1 (Xh.map aB)),4⟩ μ)
  (C1:o=X1s.x1->X2 Tryz.prog 21 4 Q (.exit .ret) [] ⟨fr [(5,(aB false))],hp ([(0,Ob [(slE Xs.1 1 (Xh.map aB))] 1),(2,Ob [(X81 X5d)] 2),(3,Ob (List.map (aI .i64) X0j) 1)]++opE Xs.1 1 1 (Xh.map aB)),4⟩ μ),
  X2 Tryz.prog 21 4 Q (.loop (X4k 0 (Xl Tryz.f189))) [] ⟨fr [(0,(aB false)),(2,(AV.ptr 0 0 0)),(8,(AV.ref 3 0 (X0j.length))),(9,(aI .i64 (X0j.length:Int))),(10,(aI .i64 (k:Int)))],hp ([(0,Ob [(slE Xs.1 1 (Xh.map aB))] 1),(2,Ob [(X81 X5d)] 2),(3,Ob (List.map (aI .i64) X0j) 1)]++opE Xs.1 1 1 (Xh.map aB)),4⟩ μ:=by
 intro xs
 induction xs with
 |nil =>
  intro k hx  o h C0 C1
  have hk:=X18 hx
  have hc:decide ((k:Int)<(X0j.length:Int))=false:=Yf (by omega)
  rw[X0a] at h
  rcases Xs with ⟨_|_,X07⟩
  ·
   refine X2.round ?_
   revert h
   exact fun e=>X8 [Bf] (k:=wkT [] (C0  (oj e).symm))
  ·
   obtain rfl:=X07 rfl
   refine X2.round ?_
   revert h
   exact fun e=>X8 [Bf] (k:=wkT [] (C0  (oj e).symm))
 |cons x xs ih =>
  intro k hx  o h C0 C1
  obtain⟨hk,hg,hx1⟩:=X0r hx
  have hc:decide ((k:Int)<(X0j.length:Int))=true:=Yt (by omega)
  rw[X0a] at h
  rcases Xs with ⟨_|_,X07⟩
  ·
   refine X2.round ?_
   revert h
   refine bI fun e3011 h3012=>?_
   try have qh3012:=Xp h3012
   refine brI (fun h3013=>fun e=>X8 [Bt,.el (aI .i64 x),.ld (aI .i64 x),.el (aB e3011),.ld (aB e3011),Bt] (k:=wkT [] (C1  (oj e).symm))) fun h3013=>rnI [Bt,.el (aI .i64 x),.ld (aI .i64 x),.el (aB e3011),.ld (aB e3011),Bf] ?_
   intro h
   exact wkT [] (ih (k+1) hx1  o h C0 C1)
  obtain rfl:=X07 rfl
  refine X2.round ?_
  revert h
  refine bI fun e3014 h3015=>?_
  try have qh3015:=Xp h3015
  intro h
  exact absurd (h3015) (by simp[X1w])
theorem X1e {Q:Xy->St->Mu->Prop} {μ:Mu} (Xh:(List Bool)) (X1c:(List Int)) (Xs:Nb Xh) (hl:X1c.length<=140737488355328):∀ (xs:List Int) (k:Nat) (hx:X1c.drop k=xs) (o:X1m) (h:X0c Xh X1c xs k  = some o)
  (C0:o=X1m.x0->X2 Tryz.prog 21 4 Q (.exit (.exit 0)) [] ⟨fr [],hp ([(0,Ob [(slE Xs.1 1 (Xh.map aB))] 1)]++opE Xs.1 1 1 (Xh.map aB)),4⟩ μ)
  (C1:o=X1m.x1->X2 Tryz.prog 21 4 Q (.exit .ret) [] ⟨fr [(5,(aB false))],hp ([(0,Ob [(slE Xs.1 1 (Xh.map aB))] 1)]++opE Xs.1 1 1 (Xh.map aB)),4⟩ μ),
  X2 Tryz.prog 21 4 Q (.loop (X4k 0 (Xl Tryz.f189))) [] ⟨fr [(0,(aB true)),(2,(AV.ptr 0 0 0)),(8,(AV.ref 4 0 (X1c.length))),(9,(aI .i64 (X1c.length:Int))),(10,(aI .i64 (k:Int)))],hp ([(0,Ob [(slE Xs.1 1 (Xh.map aB))] 1),(4,Ob (List.map (aI .i64) X1c) 1)]++opE Xs.1 1 1 (Xh.map aB)),5⟩ μ:=by
 intro xs
 induction xs with
 |nil =>
  intro k hx  o h C0 C1
  have hk:=X18 hx
  have hc:decide ((k:Int)<(X1c.length:Int))=false:=Yf (by omega)
  rw[X0c] at h
  rcases Xs with ⟨_|_,X07⟩
  ·
   refine X2.round ?_
   revert h
   exact fun e=>X8 [Bf] (k:=wkT [] (C0  (oj e).symm))
  ·
   obtain rfl:=X07 rfl
   refine X2.round ?_
   revert h
   exact fun e=>X8 [Bf] (k:=wkT [] (C0  (oj e).symm))
 |cons x xs ih =>
  intro k hx  o h C0 C1
  obtain⟨hk,hg,hx1⟩:=X0r hx
  have hc:decide ((k:Int)<(X1c.length:Int))=true:=Yt (by omega)
  rw[X0c] at h
  rcases Xs with ⟨_|_,X07⟩
  ·
   refine X2.round ?_
   revert h
   refine bI fun e3127 h3128=>?_
   try have qh3128:=Xp h3128
   refine brI (fun h3129=>fun e=>X8 [Bt,.el (aI .i64 x),.ld (aI .i64 x),.el (aB e3127),.ld (aB e3127),Bt] (k:=wkT [] (C1  (oj e).symm))) fun h3129=>rnI [Bt,.el (aI .i64 x),.ld (aI .i64 x),.el (aB e3127),.ld (aB e3127),Bf] ?_
   intro h
   exact wkT [] (ih (k+1) hx1  o h C0 C1)
  obtain rfl:=X07 rfl
  refine X2.round ?_
  revert h
  refine bI fun e3130 h3131=>?_
  try have qh3131:=Xp h3131
  intro h
  exact absurd (h3131) (by simp[X1w])
end Go.Av.Tryz