/- Printed by decomp.py: that the program computes the functions. -/
import Derived.Test.YtkjlgmgfhgamlaaGreatDCert1Z
set_option linter.all false

namespace Go.Av.Tryz
open Go.Proofs Go.D
set_option maxRecDepth 10000
set_option maxHeartbeats 40000000
instance Xvy:PCs Tryz.prog 197 (∀ (a0:(List X05)) (r:(List Xc)×Bool),Xcg a0=some r->X0j Tryz.prog 197 [(Lf (a0.map X6))] (AV.tup [(AV.list true (r.1.map X7)),(aB r.2)])):=⟨fun a0 r h=>by
 refine X0j.sym X5 X032 (nt:=105) rfl rfl ?_ okM
 unfold Xcg at h
 revert h
 refine bI fun u1 h2=>?_
 have qh2:=X12 h2
 refine bI fun o475 h476=>rnI [.el (aI .i64 (a0.length:Int))] ?_
 intro h
 refine wkT [] (X3.cut (Xg9 a0 qh2 a0 0 (by simp) _ _ nbS nbS _ h476 ?_ ?_))
 ·
  intro X08 X0l X0q X1a eo475;subst eo475
  refine X3.glue ?_
  try dsimp only at h
  rcases X0q with ⟨_|_,X4a⟩
  ·
   rcases X1a with ⟨_|_,X3d⟩
   ·
    revert h
    exact fun e=>oj e▸Xa [.el (aI .i64 (X0l.length:Int))] (k:=fi)
   obtain rfl:=X3d rfl
   revert h
   exact fun e=>oj e▸Xa [.el (aI .i64 (List.length ([]:List Xc):Int))] (k:=fi)
  obtain rfl:=X4a rfl
  rcases X1a with ⟨_|_,X3d⟩
  ·
   revert h
   exact fun e=>oj e▸Xa [.el (aI .i64 (X0l.length:Int))] (k:=fi)
  obtain rfl:=X3d rfl
  revert h
  exact fun e=>oj e▸Xa [.el (aI .i64 (List.length ([]:List Xc):Int))] (k:=fi)
 intro X1i X1c eo475;subst eo475
 refine X3.glue ?_
 try dsimp only at h
 rcases X1c with ⟨_|_,X5f⟩
 ·
  revert h
  exact fun e=>oj e▸Xa [] (k:=fi)
 obtain rfl:=X5f rfl
 revert h
 exact fun e=>oj e▸Xa [] (k:=fi)⟩
instance Xus:PCs Tryz.prog 177 (∀ (a0:(List X05)) (r:(List Xc)×Int),X9c a0=some r->X0j Tryz.prog 177 [(Lf (a0.map X6))] (AV.tup [(AV.list true (r.1.map X7)),(aI .i64 r.2)])):=⟨fun a0 r h=>by
 refine X0j.sym X5 X039 (nt:=25) rfl rfl ?_ okM
 unfold X9c at h
 revert h
 refine brI (fun h1=>fun e=>oj e▸Xa [.el (aI .i64 (a0.length:Int)),Bt] (k:=fi)) fun h1=>bI fun v2 h3=>brI (fun h4=>fun e=>oj e▸Xa [.el (aI .i64 (a0.length:Int)),Bf,.pure _ (AV.tup [(AV.list true (v2.1.map X7)),(aB v2.2)]),Bt] (k:=fi)) fun h4=>bI fun e5 h6=>?_
 try have qh6:=Xq h6
 refine rnI [.el (aI .i64 (a0.length:Int)),Bf,.pure _ (AV.tup [(AV.list true (v2.1.map X7)),(aB v2.2)]),Bf,.el (aI .i64 (v2.1.length:Int)),.wrap,.el (X7 e5)] ?_
 exact brI (fun h7=>fun e=>oj e▸Xa [Bt] (k:=fi)) fun h7=>fun e=>oj e▸Xa [Bf] (k:=fi)⟩
instance Xuu:PCs Tryz.prog 157 (∀ (a0:(List X05)) (r:Int),X54 a0=some r->X0j Tryz.prog 157 [(Lf (a0.map X6))] (aI .i64 r)):=⟨fun a0 r h=>by
 refine X0j.sym X5 X03j (nt:=11) rfl rfl ?_ okM
 unfold X54 at h
 revert h
 exact bI fun v1 h2=>fun e=>oj e▸Xa [.pure _ (AV.tup [(AV.list true (v1.1.map X7)),(aI .i64 v1.2)])] (k:=fi)⟩
instance Xms:PCs Tryz.prog 178 (∀ (a0:Int) (r:Bool),X5j a0=some r->X0j Tryz.prog 178 [(aI .i64 a0)] (aB r)):=⟨fun a0 r h=>by
 refine X0j.sym X5 X038 (nt:=9) rfl rfl ?_ okM
 unfold X5j at h
 revert h
 exact fun e=>oj e▸Xa [] (k:=fi)⟩
theorem X7v {Q:Xv->St->Mu->Prop} {μ:Mu} (X0y:(List Int)) (hl:X0y.length<=140737488355328):∀ (xs:List Int) (k:Nat) (hx:X0y.drop k=xs) (o:X24) (h:X0p X0y xs k  = some o)
  (C0:o=X24.x0->X3 Tryz.prog 19 0 Q (.exit (.exit 0)) [] ⟨fr [],hp ([]),0⟩ μ)
  (C1:∀ (X9k:Int),o=X24.x1 X9k->X3 Tryz.prog 19 0 Q (.exit .ret) [] ⟨fr [(4,(aI .i64 X9k))],hp ([]),0⟩ μ),
  X3 Tryz.prog 19 0 Q (.loop (X4y 0 (Xb Tryz.f198))) [] ⟨fr [(0,(Lf (List.map (aI .i64) X0y))),(1,(AV.fn 178 [])),(7,(aI .i64 (X0y.length:Int))),(8,(aI .i64 (k:Int)))],hp ([]),0⟩ μ:=by
 intro xs
 induction xs with
 |nil =>
  intro k hx  o h C0 C1
  have hk:=X1h hx
  have hc:decide ((k:Int)<(X0y.length:Int))=false:=Yf (by omega)
  rw[X0p] at h
  refine X3.round ?_
  revert h
  exact fun e=>Xa [Bf] (k:=wkT [] (C0  (oj e).symm))
 |cons x xs ih =>
  intro k hx  o h C0 C1
  obtain⟨hk,hg,hx1⟩:=X0w hx
  have hc:decide ((k:Int)<(X0y.length:Int))=true:=Yt (by omega)
  rw[X0p] at h
  refine X3.round ?_
  revert h
  refine bI fun v10 h11=>brI (fun h12=>fun e=>Xa [Bt,.el (aI .i64 x),.pure _ (aB v10),Bt] (k:=wkT [] (C1 _  (oj e).symm))) fun h12=>rnI [Bt,.el (aI .i64 x),.pure _ (aB v10),Bf] ?_
  intro h
  exact wkT [] (ih (k+1) hx1  o h C0 C1)
theorem X49 (a0:(List Int)) (r:Int) (h:X0n a0=some r):X0j Tryz.prog 198 [(Lf (List.map (aI .i64) a0)),(AV.fn 178 [])] (aI .i64 r):=by
 refine X0j.sym X5 X031 (nt:=19) rfl rfl ?_ okM
 unfold X0n at h
 revert h
 refine bI fun u1 h2=>?_
 have qh2:=X12 h2
 refine bI fun o13 h14=>rnI [.el (aI .i64 (a0.length:Int))] ?_
 intro h
 refine wkT [] (X3.cut (X7v a0 qh2 a0 0 (by simp) _ h14 ?_ ?_))
 ·
  intro eo13;subst eo13
  refine X3.glue ?_
  try dsimp only at h
  revert h
  exact fun e=>oj e▸Xa [] (k:=fi)
 intro X9k eo13;subst eo13
 refine X3.glue ?_
 try dsimp only at h
 revert h
 exact fun e=>oj e▸Xa [] (k:=fi)
theorem X1z (a0:(List Int)) (r:Bool) (h:Xt a0=some r):X0j Tryz.prog 179 [(Lf (List.map (aI .i64) a0)),(AV.fn 178 [])] (aB r):=by
 refine X0j.sym X5 X037 (nt:=9) rfl rfl ?_ okM
 unfold Xt at h
 revert h
 exact bI fun v1 h2=>fun e=>oj e▸Xa [.pure [(Lf (List.map (aI .i64) a0)),(AV.fn 178 [])] (aI .i64 v1)] (o:=by repeat' first|apply Ya|exact pcM|exact(pn (X49 _ _ h2) (cc (X5o (X2p (fun _=>Xe9) a0)) (cc .fn0 cn)))|exact X04) (k:=fi)
theorem Xt0 (z:Int):∀ (ks:List Int),Xq0 (.int .i64 z) (.bool true) (ks.map Xj0)=(Xi4 ks z).map Xj0:=by
 intro ks
 unfold Xi4
 induction ks with
 |nil=>simp[Xq0,Xj0]
 |cons a r ih =>
  simp only[List.map_cons,Xj0,Xq0]
  by_cases h:a=z
  ·subst h;simp[Xj0]
  have h1:¬ (Value.int .i64 a=Value.int .i64 z):=by simpa using h
  rw[if_neg h1]
  have ih':Xq0 (.int .i64 z) (.bool true) (r.map Xj0)=(if z∈r then r else r++[z]).map Xj0:=ih
  rw[ih']
  have h2:¬ z=a:=fun e=>h e.symm
  by_cases hz:z∈r<;>simp[hz,h2,Xj0]
theorem Xb7 {Q:Xv->St->Mu->Prop} {μ:Mu} (b:Nat) (l:List Int) (hl:l.length<=140737488355328):∀ (xs:List Int) (k:Nat) (hx:l.drop k=xs) (ks:List Int)
  (C:X3 Tryz.prog 18 0 Q (.exit (.exit 0)) [] ⟨fr [(3,.sc (.map (some b)))],hp [],0⟩ ((b,(X7z ks xs).map Xj0)::μ)),
  X3 Tryz.prog 18 0 Q (.loop (X4y 0 (Xb Tryz.f180))) [] ⟨fr [(3,.sc (.map (some b))),(7,AV.list false (List.map (aI .i64) l)),(8,aI .i64 (l.length:Int)),(9,aI .i64 (k:Int))],hp [],0⟩ ((b,ks.map Xj0)::μ):=by
 intro xs
 induction xs with
 |nil =>
  intro k hx ks C
  have hk:=X1h hx
  have hc:decide ((k:Int)<(l.length:Int))=false:=Yf (by omega)
  refine X3.round ?_
  refine rn tmD [Bf] rfl (by repeat' first|apply Ya|exact hc|exact oblA) ?_
  exact X3.weakTo [] C rfl (by repeat' first|apply Ya|exact wkA) trivial
 |cons x xs ih =>
  intro k hx ks C
  obtain⟨hk,hg,hx1⟩:=X0w hx
  have hc:decide ((k:Int)<(l.length:Int))=true:=Yt (by omega)
  refine X3.round ?_
  refine rn tmD [Bt,.el (aI .i64 x)] rfl (by repeat' first|apply Ya|exact hc|exact ixm hg|exact oblA) ?_
  refine X3.mapUpd (d:=.int .i64) X5 rfl rfl rfl rfl rfl Tryz.underlying3 rfl rfl rfl trivial trivial trivial rfl (by
   intro p hp;obtain⟨z,_,rfl⟩:=List.mem_map.1 hp;rfl) ?_
  rw[Xt0]
  refine X09 [] ?_
  exact X3.weakTo [] (ih (k+1) hx1 (Xi4 ks x) C) rfl (by repeat' first|apply Ya|exact wkA) trivial
theorem X75 (a0:(List Int)) (r:Int) (h:X37 a0=some r):X0j Tryz.prog 180 [(Lf (List.map (aI .i64) a0))] (aI .i64 r):=by
 refine X0j.sym X5 X036 (nt:=18) rfl rfl ?_ (X10 .list X7b)
 unfold X37 at h
 refine X01z h ?_
 clear h;intro u h1 h
 have q1:=X12 h1
 obtain rfl:=oj h
 refine X09 [] ?_
 refine X3.mapNew rfl rfl rfl fun b=>?_
 refine X09 [] ?_
 refine X3.weakTo [] (X3.cut (Xb7 b a0 q1 a0 0 (by simp) [] ?_)) rfl (by repeat' first|apply Ya|exact wkA) trivial
 refine X3.glue ?_
 refine X09 [] ?_
 refine X3.mapLen X5 rfl rfl rfl rfl rfl rfl trivial ?_
 rw[List.length_map]
 refine X09 [] ?_
 exact Xks rfl .sc
instance Xpo:PCs Tryz.prog 158 (∀ (a0:(List Int)) (a1:Bool) (r:Int),X2g a0 a1=some r->X0j Tryz.prog 158 [(Lf (List.map (aI .i64) a0)),(aB a1)] (aI .i64 r)):=⟨fun a0 a1 r h=>by
 refine X0j.sym X5 X03i (nt:=30) rfl rfl ?_ okM
 unfold X2g at h
 revert h
 refine brI (fun h1=>fun e=>oj e▸Xa [.el (aI .i64 (a0.length:Int)),Bt] (k:=fi)) fun h1=>bI fun Xys h17=>rnI [.el (aI .i64 (a0.length:Int)),Bf,.stop 4] ?_
 intro h
 refine X3.join (s':=⟨fr [(0,(Lf (List.map (aI .i64) a0))),(24,(aB Xys))],hp ([]),0⟩) ?_ (fun J=>X3.cut ?_)
 ·
  revert h
  refine brI (fun h18=>fun e=>oj e▸Xa [Bt] (k:=fi)) fun h18=>?_
  refine bI fun v19 h20=>brI (fun h21=>?_) fun h21=>?_
  ·
   exact fun e=>oj e▸Xa [Bf,.pure [(Lf (List.map (aI .i64) a0))] (aI .i64 v19),.el (aI .i64 (a0.length:Int)),Bt] (o:=by repeat' first|apply Ya|exact pcM|exact(pn (X75 _ _ h20) (cc (X5o (X2p (fun _=>Xe9) a0)) cn))|exact X04) (k:=fi)
  exact fun e=>oj e▸Xa [Bf,.pure [(Lf (List.map (aI .i64) a0))] (aI .i64 v19),.el (aI .i64 (a0.length:Int)),Bf] (o:=by repeat' first|apply Ya|exact pcM|exact(pn (X75 _ _ h20) (cc (X5o (X2p (fun _=>Xe9) a0)) cn))|exact X04) (k:=fi)
 clear h;revert h17
 refine brI (fun h10=>?_) fun h10=>?_
 ·
  intro h
  obtain rfl:=oj h
  exact Xa [.el (aI .i64 (a0.length:Int)),.go false,.go false,.go false,.go false,.go false,.go false,.go false,.go false,.go false] (o:=by repeat' first|apply Ya|exact pcM|exact((X9 h10 rfl))|exact(Xi (X9 h10 rfl))|exact(X5k (X9 h10 rfl))|exact X04) (k:=wkT [] (X3.glue J))
 refine brI (fun h11=>?_) fun h11=>?_
 ·
  refine brI (fun h12=>?_) fun h12=>?_
  ·
   intro h
   obtain rfl:=oj h
   exact Xa [.el (aI .i64 (a0.length:Int)),.go true,.go true,.go true,.go true,.el (aI .i64 (a0.length:Int)),.go true,.go true,.go false,.go false,.go false] (o:=by repeat' first|apply Ya|exact pcM|exact((X8 h10 (X9 h11 h12)))|exact(Xi (X8 h10 (X9 h11 h12)))|exact(X5k (X8 h10 (X9 h11 h12)))|exact X04) (k:=wkT [] (X3.glue J))
  refine bI fun v13 h14=>?_
  intro h
  obtain rfl:=oj h
  exact Xa [.el (aI .i64 (a0.length:Int)),.go true,.go true,.go true,.go true,.el (aI .i64 (a0.length:Int)),.go true,.go true,.go true,.go true,.go true,.pure [(Lf (List.map (aI .i64) a0)),(AV.fn 178 [])] (aB v13)] (o:=by repeat' first|apply Ya|exact pcM|exact((X8 h10 (X9 h11 h12)))|exact(Xi (X8 h10 (X9 h11 h12)))|exact(pn (X1z _ _ h14) (cc (X5o (X2p (fun _=>Xe9) a0)) (cc .fn0 cn)))|exact(Xd3 (X8 h10 (X9 h11 h12)))|exact X04) (k:=wkT [] (X3.glue J))
 refine bI fun v15 h16=>?_
 intro h
 obtain rfl:=oj h
 exact Xa [.el (aI .i64 (a0.length:Int)),.go true,.go true,.go false,.go false,.go false,.go true,.go true,.go true,.go true,.pure [(Lf (List.map (aI .i64) a0)),(AV.fn 178 [])] (aB v15)] (o:=by repeat' first|apply Ya|exact pcM|exact((X8 h10 (X8 h11 rfl)))|exact(Xi (X8 h10 (X8 h11 rfl)))|exact(pn (X1z _ _ h16) (cc (X5o (X2p (fun _=>Xe9) a0)) (cc .fn0 cn)))|exact(Xd3 (X8 h10 (X8 h11 rfl)))|exact X04) (k:=wkT [] (X3.glue J))⟩
instance X2u:PCs Tryz.prog 78 (∀ (a0:X0s) (r:Int),X18 a0=some r->X0j Tryz.prog 78 [(X3i a0)] (aI .i64 r)):=⟨fun a0 r h=>by
 refine X0j.sym X5 fn78 (nt:=40) rfl rfl ?_ okM
 unfold X18 at h
 revert h
 exact brI (fun h1=>fun e=>oj e▸Xa [Bt] (k:=fi)) fun h1=>brI (fun h2=>brI (fun h3=>fun e=>oj e▸Xa [Bf,Bt,.wrap,Bt] (k:=fi)) fun h3=>fun e=>oj e▸Xa [Bf,Bt,.wrap,Bf] (k:=fi)) fun h2=>brI (fun h4=>brI (fun h5=>fun e=>oj e▸Xa [Bf,Bf,Bt,Bt] (k:=fi)) fun h5=>fun e=>oj e▸Xa [Bf,Bf,Bt,Bf] (k:=fi)) fun h4=>brI (fun h6=>brI (fun h7=>fun e=>oj e▸Xa [Bf,Bf,Bf,Bt,Bt] (k:=fi)) fun h7=>fun e=>oj e▸Xa [Bf,Bf,Bf,Bt,Bf] (k:=fi)) fun h6=>fun e=>oj e▸Xa [Bf,Bf,Bf,Bf] (k:=fi)⟩
instance Xri:PCs Tryz.prog 131 (∀ (a0:X07) (r:Int),X76 a0=some r->X0j Tryz.prog 131 [(Xy false a0)] (aI .i64 r)):=⟨fun a0 r h=>by
 refine X0j.sym X5 X03x (nt:=66) rfl rfl ?_ okM
 unfold X76 at h
 revert h
 refine brI (fun h1=>fun e=>oj e▸Xa [Bt] (k:=fi)) fun h1=>?_
 refine brI (fun h2=>?_) fun h2=>?_
 ·
  refine bI fun v3 h4=>brI (fun h5=>fun e=>oj e▸Xa [Bf,Bt,.pure _ (aI .i64 v3),Bt] (k:=fi)) fun h5=>?_
  refine brI (fun h6=>?_) fun h6=>bI fun v16 h17=>brI (fun h18=>fun e=>oj e▸Xa [Bf,Bt,.pure _ (aI .i64 v3),Bf,.el (aI .i64 (a0.Where.length:Int)),Bf,.pure _ (aI .i64 v16),Bt] (k:=fi)) fun h18=>brI (fun h19=>fun e=>oj e▸Xa [Bf,Bt,.pure _ (aI .i64 v3),Bf,.el (aI .i64 (a0.Where.length:Int)),Bf,.pure _ (aI .i64 v16),Bf,Bt] (k:=fi)) fun h19=>bI fun v20 h21=>fun e=>oj e▸Xa [Bf,Bt,.pure _ (aI .i64 v3),Bf,.el (aI .i64 (a0.Where.length:Int)),Bf,.pure _ (aI .i64 v16),Bf,Bf,.pure _ (aI .i64 v20)] (k:=fi)
  refine bI fun v7 h8=>brI (fun h9=>fun e=>oj e▸Xa [Bf,Bt,.pure _ (aI .i64 v3),Bf,.el (aI .i64 (a0.Where.length:Int)),Bt,.pure _ (aI .i64 v7),Bt] (k:=fi)) fun h9=>bI fun v10 h11=>rnI [Bf,Bt,.pure _ (aI .i64 v3),Bf,.el (aI .i64 (a0.Where.length:Int)),Bt,.pure _ (aI .i64 v7),Bf,.pure _ (aI .i64 v10)] ?_
  exact brI (fun h12=>fun e=>oj e▸Xa [Bt] (k:=fi)) fun h12=>brI (fun h13=>fun e=>oj e▸Xa [Bf,Bt] (k:=fi)) fun h13=>bI fun v14 h15=>fun e=>oj e▸Xa [Bf,Bf,.pure _ (aI .i64 v14)] (k:=fi)
 refine brI (fun h22=>fun e=>oj e▸Xa [Bf,Bf,.el (aI .i64 (a0.Arg.length:Int)),Bt] (k:=fi)) fun h22=>?_
 refine brI (fun h23=>?_) fun h23=>?_
 ·
  refine bI fun v24 h25=>rnI [Bf,Bf,.el (aI .i64 (a0.Arg.length:Int)),Bf,.el (aI .i64 (a0.Where.length:Int)),Bt,.pure _ (aI .i64 v24)] ?_
  exact brI (fun h26=>fun e=>oj e▸Xa [Bt] (k:=fi)) fun h26=>bI fun v27 h28=>brI (fun h29=>fun e=>oj e▸Xa [Bf,.pure _ (aI .i64 v27),Bt] (k:=fi)) fun h29=>brI (fun h30=>fun e=>oj e▸Xa [Bf,.pure _ (aI .i64 v27),Bf,Bt] (k:=fi)) fun h30=>bI fun v31 h32=>fun e=>oj e▸Xa [Bf,.pure _ (aI .i64 v27),Bf,Bf,.pure _ (aI .i64 v31)] (k:=fi)
 refine bI fun v33 h34=>rnI [Bf,Bf,.el (aI .i64 (a0.Arg.length:Int)),Bf,.el (aI .i64 (a0.Where.length:Int)),Bf,.pure _ (aI .i64 v33)] ?_
 exact brI (fun h35=>fun e=>oj e▸Xa [Bt] (k:=fi)) fun h35=>brI (fun h36=>fun e=>oj e▸Xa [Bf,Bt] (k:=fi)) fun h36=>bI fun v37 h38=>fun e=>oj e▸Xa [Bf,Bf,.pure _ (aI .i64 v37)] (k:=fi)⟩
theorem X4o {Q:Xv->St->Mu->Prop} {μ:Mu} (Xk:(List Bool)) (Xbe:(V2 Bool)) (X0h:(List Int)) (Xs:Nb Xk) (hl:X0h.length<=140737488355328):∀ (xs:List Int) (k:Nat) (hx:X0h.drop k=xs) (o:X2b) (h:X0a Xk Xbe X0h xs k  = some o)
  (C0:o=X2b.x0->X3 Tryz.prog 21 4 Q (.exit (.exit 0)) [] ⟨fr [],hp ([(0,Ob [(slE Xs.1 1 (Xk.map aB))] 1),(2,Ob [(X8f Xbe)] 2),(3,Ob (List.map (aI .i64) X0h) 1)]++opE Xs.1 1 1 (Xk.map aB)),4⟩ μ)
  (C1:o=X2b.x1->X3 Tryz.prog 21 4 Q (.exit .ret) [] ⟨fr [(5,(aB false))],hp ([(0,Ob [(slE Xs.1 1 (Xk.map aB))] 1),(2,Ob [(X8f Xbe)] 2),(3,Ob (List.map (aI .i64) X0h) 1)]++opE Xs.1 1 1 (Xk.map aB)),4⟩ μ),
  X3 Tryz.prog 21 4 Q (.loop (X4y 0 (Xb Tryz.f212))) [] ⟨fr [(0,(aB false)),(2,(AV.ptr 0 0 0)),(8,(AV.ref 3 0 (X0h.length))),(9,(aI .i64 (X0h.length:Int))),(10,(aI .i64 (k:Int)))],hp ([(0,Ob [(slE Xs.1 1 (Xk.map aB))] 1),(2,Ob [(X8f Xbe)] 2),(3,Ob (List.map (aI .i64) X0h) 1)]++opE Xs.1 1 1 (Xk.map aB)),4⟩ μ:=by
 intro xs
 induction xs with
 |nil =>
  intro k hx  o h C0 C1
  have hk:=X1h hx
  have hc:decide ((k:Int)<(X0h.length:Int))=false:=Yf (by omega)
  rw[X0a] at h
  rcases Xs with ⟨_|_,X0i⟩
  ·
   refine X3.round ?_
   revert h
   exact fun e=>Xa [Bf] (k:=wkT [] (C0  (oj e).symm))
  ·
   obtain rfl:=X0i rfl
   refine X3.round ?_
   revert h
   exact fun e=>Xa [Bf] (k:=wkT [] (C0  (oj e).symm))
 |cons x xs ih =>
  intro k hx  o h C0 C1
  obtain⟨hk,hg,hx1⟩:=X0w hx
  have hc:decide ((k:Int)<(X0h.length:Int))=true:=Yt (by omega)
  rw[X0a] at h
  rcases Xs with ⟨_|_,X0i⟩
  ·
   refine X3.round ?_
   revert h
   refine bI fun e3011 h3012=>?_
   try have qh3012:=Xq h3012
   refine brI (fun h3013=>fun e=>Xa [Bt,.el (aI .i64 x),.ld (aI .i64 x),.el (aB e3011),.ld (aB e3011),Bt] (k:=wkT [] (C1  (oj e).symm))) fun h3013=>rnI [Bt,.el (aI .i64 x),.ld (aI .i64 x),.el (aB e3011),.ld (aB e3011),Bf] ?_
   intro h
   exact wkT [] (ih (k+1) hx1  o h C0 C1)
  obtain rfl:=X0i rfl
  refine X3.round ?_
  revert h
  refine bI fun e3014 h3015=>?_
  try have qh3015:=Xq h3015
  intro h
  exact absurd (h3015) (by simp[X3b])
theorem X1s {Q:Xv->St->Mu->Prop} {μ:Mu} (Xk:(List Bool)) (X1q:(List Int)) (Xs:Nb Xk) (hl:X1q.length<=140737488355328):∀ (xs:List Int) (k:Nat) (hx:X1q.drop k=xs) (o:X21) (h:X0b Xk X1q xs k  = some o)
  (C0:o=X21.x0->X3 Tryz.prog 21 4 Q (.exit (.exit 0)) [] ⟨fr [],hp ([(0,Ob [(slE Xs.1 1 (Xk.map aB))] 1)]++opE Xs.1 1 1 (Xk.map aB)),4⟩ μ)
  (C1:o=X21.x1->X3 Tryz.prog 21 4 Q (.exit .ret) [] ⟨fr [(5,(aB false))],hp ([(0,Ob [(slE Xs.1 1 (Xk.map aB))] 1)]++opE Xs.1 1 1 (Xk.map aB)),4⟩ μ),
  X3 Tryz.prog 21 4 Q (.loop (X4y 0 (Xb Tryz.f212))) [] ⟨fr [(0,(aB true)),(2,(AV.ptr 0 0 0)),(8,(AV.ref 4 0 (X1q.length))),(9,(aI .i64 (X1q.length:Int))),(10,(aI .i64 (k:Int)))],hp ([(0,Ob [(slE Xs.1 1 (Xk.map aB))] 1),(4,Ob (List.map (aI .i64) X1q) 1)]++opE Xs.1 1 1 (Xk.map aB)),5⟩ μ:=by
 intro xs
 induction xs with
 |nil =>
  intro k hx  o h C0 C1
  have hk:=X1h hx
  have hc:decide ((k:Int)<(X1q.length:Int))=false:=Yf (by omega)
  rw[X0b] at h
  rcases Xs with ⟨_|_,X0i⟩
  ·
   refine X3.round ?_
   revert h
   exact fun e=>Xa [Bf] (k:=wkT [] (C0  (oj e).symm))
  ·
   obtain rfl:=X0i rfl
   refine X3.round ?_
   revert h
   exact fun e=>Xa [Bf] (k:=wkT [] (C0  (oj e).symm))
 |cons x xs ih =>
  intro k hx  o h C0 C1
  obtain⟨hk,hg,hx1⟩:=X0w hx
  have hc:decide ((k:Int)<(X1q.length:Int))=true:=Yt (by omega)
  rw[X0b] at h
  rcases Xs with ⟨_|_,X0i⟩
  ·
   refine X3.round ?_
   revert h
   refine bI fun e3127 h3128=>?_
   try have qh3128:=Xq h3128
   refine brI (fun h3129=>fun e=>Xa [Bt,.el (aI .i64 x),.ld (aI .i64 x),.el (aB e3127),.ld (aB e3127),Bt] (k:=wkT [] (C1  (oj e).symm))) fun h3129=>rnI [Bt,.el (aI .i64 x),.ld (aI .i64 x),.el (aB e3127),.ld (aB e3127),Bf] ?_
   intro h
   exact wkT [] (ih (k+1) hx1  o h C0 C1)
  obtain rfl:=X0i rfl
  refine X3.round ?_
  revert h
  refine bI fun e3130 h3131=>?_
  try have qh3131:=Xq h3131
  intro h
  exact absurd (h3131) (by simp[X3b])
end Go.Av.Tryz