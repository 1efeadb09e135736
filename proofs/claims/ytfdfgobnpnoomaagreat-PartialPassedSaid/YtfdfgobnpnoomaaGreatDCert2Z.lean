/- Printed by decomp.py: that the program computes the functions. -/
import Derived.Test.YtfdfgobnpnoomaaGreatDCert1Z
set_option linter.all false

namespace Go.Av.Tryz
open Go.Proofs Go.D
set_option maxRecDepth 10000
set_option maxHeartbeats 40000000
instance X05j:PCs Tryz.prog 175 (∀ (a0:(List X05)) (r:(List Xo)×Bool),Xge a0=some r->X0g Tryz.prog 175 [(Lf (a0.map X4))] (AV.tup [(AV.list true (r.1.map Xc)),(aB r.2)])):=⟨fun a0 r h=>by
 refine X0g.sym Xa X0dk (nt:=105) rfl rfl ?_ okM
 unfold Xge at h
 revert h
 refine bI fun u1 h2=>?_
 have qh2:=X08 h2
 refine bI fun o475 h476=>rnI [.el (aI .i64 (a0.length:Int))] ?_
 intro h
 refine wkT [] (X2.cut (Xkm a0 qh2 a0 0 (by simp) _ _ nbS nbS _ h476 ?_ ?_))
 ·
  intro Xe X0s Xj X0v eo475;subst eo475
  refine X2.glue ?_
  try dsimp only at h
  rcases Xj with ⟨_|_,X0n⟩
  ·
   rcases X0v with ⟨_|_,X33⟩
   ·
    revert h
    exact fun e=>oj e▸X9 [.el (aI .i64 (X0s.length:Int))] (k:=fi)
   obtain rfl:=X33 rfl
   revert h
   exact fun e=>oj e▸X9 [.el (aI .i64 (List.length ([]:List Xo):Int))] (k:=fi)
  obtain rfl:=X0n rfl
  rcases X0v with ⟨_|_,X33⟩
  ·
   revert h
   exact fun e=>oj e▸X9 [.el (aI .i64 (X0s.length:Int))] (k:=fi)
  obtain rfl:=X33 rfl
  revert h
  exact fun e=>oj e▸X9 [.el (aI .i64 (List.length ([]:List Xo):Int))] (k:=fi)
 intro X0e X0c eo475;subst eo475
 refine X2.glue ?_
 try dsimp only at h
 rcases X0c with ⟨_|_,X30⟩
 ·
  revert h
  exact fun e=>oj e▸X9 [] (k:=fi)
 obtain rfl:=X30 rfl
 revert h
 exact fun e=>oj e▸X9 [] (k:=fi)⟩
instance X04g:PCs Tryz.prog 135 (∀ (a0:(List X05)) (r:(List Xo)×Int),Xbt a0=some r->X0g Tryz.prog 135 [(Lf (a0.map X4))] (AV.tup [(AV.list true (r.1.map Xc)),(aI .i64 r.2)])):=⟨fun a0 r h=>by
 refine X0g.sym Xa X0e1 (nt:=25) rfl rfl ?_ okM
 unfold Xbt at h
 revert h
 refine brI (fun h1=>fun e=>oj e▸X9 [.el (aI .i64 (a0.length:Int)),Bt] (k:=fi)) fun h1=>bI fun v2 h3=>brI (fun h4=>fun e=>oj e▸X9 [.el (aI .i64 (a0.length:Int)),Bf,.pure _ (AV.tup [(AV.list true (v2.1.map Xc)),(aB v2.2)]),Bt] (k:=fi)) fun h4=>bI fun e5 h6=>?_
 try have qh6:=Xn h6
 refine rnI [.el (aI .i64 (a0.length:Int)),Bf,.pure _ (AV.tup [(AV.list true (v2.1.map Xc)),(aB v2.2)]),Bf,.el (aI .i64 (v2.1.length:Int)),.wrap,.el (Xc e5)] ?_
 exact brI (fun h7=>fun e=>oj e▸X9 [Bt] (k:=fi)) fun h7=>fun e=>oj e▸X9 [Bf] (k:=fi)⟩
instance X04i:PCs Tryz.prog 106 (∀ (a0:(List X05)) (r:Int),X6j a0=some r->X0g Tryz.prog 106 [(Lf (a0.map X4))] (aI .i64 r)):=⟨fun a0 r h=>by
 refine X0g.sym Xa X0en (nt:=11) rfl rfl ?_ okM
 unfold X6j at h
 revert h
 exact bI fun v1 h2=>fun e=>oj e▸X9 [.pure _ (AV.tup [(AV.list true (v1.1.map Xc)),(aI .i64 v1.2)])] (k:=fi)⟩
instance Xt5:PCs Tryz.prog 136 (∀ (a0:Int) (r:Bool),X6t a0=some r->X0g Tryz.prog 136 [(aI .i64 a0)] (aB r)):=⟨fun a0 r h=>by
 refine X0g.sym Xa X0e0 (nt:=9) rfl rfl ?_ okM
 unfold X6t at h
 revert h
 exact fun e=>oj e▸X9 [] (k:=fi)⟩
theorem Xa2 {Q:X02->St->Mu->Prop} {μ:Mu} (X00:(List Int)) (hl:X00.length<=140737488355328):∀ (xs:List Int) (k:Nat) (hx:X00.drop k=xs) (o:X29) (h:X0z X00 xs k  = some o)
  (C0:o=X29.x0->X2 Tryz.prog 19 0 Q (.exit (.exit 0)) [] ⟨fr [],hp ([]),0⟩ μ)
  (C1:∀ (X6z:Int),o=X29.x1 X6z->X2 Tryz.prog 19 0 Q (.exit .ret) [] ⟨fr [(4,(aI .i64 X6z))],hp ([]),0⟩ μ),
  X2 Tryz.prog 19 0 Q (.loop (X2v 0 (Xh Tryz.f176))) [] ⟨fr [(0,(Lf (List.map (aI .i64) X00))),(1,(AV.fn 136 [])),(7,(aI .i64 (X00.length:Int))),(8,(aI .i64 (k:Int)))],hp ([]),0⟩ μ:=by
 intro xs
 induction xs with
 |nil =>
  intro k hx  o h C0 C1
  have hk:=drop_nil hx
  have hc:decide ((k:Int)<(X00.length:Int))=false:=Yf (by omega)
  rw[X0z] at h
  refine X2.round ?_
  revert h
  exact fun e=>X9 [Bf] (k:=wkT [] (C0  (oj e).symm))
 |cons x xs ih =>
  intro k hx  o h C0 C1
  obtain⟨hk,hg,hx1⟩:=drop_cons hx
  have hc:decide ((k:Int)<(X00.length:Int))=true:=Yt (by omega)
  rw[X0z] at h
  refine X2.round ?_
  revert h
  refine bI fun v10 h11=>brI (fun h12=>fun e=>X9 [Bt,.el (aI .i64 x),.pure _ (aB v10),Bt] (k:=wkT [] (C1 _  (oj e).symm))) fun h12=>rnI [Bt,.el (aI .i64 x),.pure _ (aB v10),Bf] ?_
  intro h
  exact wkT [] (ih (k+1) hx1  o h C0 C1)
theorem X54 (a0:(List Int)) (r:Int) (h:X0y a0=some r):X0g Tryz.prog 176 [(Lf (List.map (aI .i64) a0)),(AV.fn 136 [])] (aI .i64 r):=by
 refine X0g.sym Xa X0dj (nt:=19) rfl rfl ?_ okM
 unfold X0y at h
 revert h
 refine bI fun u1 h2=>?_
 have qh2:=X08 h2
 refine bI fun o13 h14=>rnI [.el (aI .i64 (a0.length:Int))] ?_
 intro h
 refine wkT [] (X2.cut (Xa2 a0 qh2 a0 0 (by simp) _ h14 ?_ ?_))
 ·
  intro eo13;subst eo13
  refine X2.glue ?_
  try dsimp only at h
  revert h
  exact fun e=>oj e▸X9 [] (k:=fi)
 intro X6z eo13;subst eo13
 refine X2.glue ?_
 try dsimp only at h
 revert h
 exact fun e=>oj e▸X9 [] (k:=fi)
theorem X25 (a0:(List Int)) (r:Bool) (h:X09 a0=some r):X0g Tryz.prog 137 [(Lf (List.map (aI .i64) a0)),(AV.fn 136 [])] (aB r):=by
 refine X0g.sym Xa X0dz (nt:=9) rfl rfl ?_ okM
 unfold X09 at h
 revert h
 exact bI fun v1 h2=>fun e=>oj e▸X9 [.pure [(Lf (List.map (aI .i64) a0)),(AV.fn 136 [])] (aI .i64 v1)] (o:=by repeat' first|apply Ya|exact pcM|exact(pn (X54 _ _ h2) (cc (X5q (X1x (fun _=>Xcm) a0)) (cc .fn0 cn)))|exact X0k) (k:=fi)
theorem X01f (z:Int):∀ (ks:List Int),Xx5 (.int .i64 z) (.bool true) (ks.map Xnu)=(Xn1 ks z).map Xnu:=by
 intro ks
 unfold Xn1
 induction ks with
 |nil=>simp[Xx5,Xnu]
 |cons a r ih =>
  simp only[List.map_cons,Xnu,Xx5]
  by_cases h:a=z
  ·subst h;simp[Xnu]
  have h1:¬ (Value.int .i64 a=Value.int .i64 z):=by simpa using h
  rw[if_neg h1]
  have ih':Xx5 (.int .i64 z) (.bool true) (r.map Xnu)=(if z∈r then r else r++[z]).map Xnu:=ih
  rw[ih']
  have h2:¬ z=a:=fun e=>h e.symm
  by_cases hz:z∈r<;>simp[hz,h2,Xnu]
theorem Xei {Q:X02->St->Mu->Prop} {μ:Mu} (b:Nat) (l:List Int) (hl:l.length<=140737488355328):∀ (xs:List Int) (k:Nat) (hx:l.drop k=xs) (ks:List Int)
  (C:X2 Tryz.prog 18 0 Q (.exit (.exit 0)) [] ⟨fr [(3,.sc (.map (some b)))],hp [],0⟩ ((b,(Xa8 ks xs).map Xnu)::μ)),
  X2 Tryz.prog 18 0 Q (.loop (X2v 0 (Xh Tryz.f138))) [] ⟨fr [(3,.sc (.map (some b))),(7,AV.list false (List.map (aI .i64) l)),(8,aI .i64 (l.length:Int)),(9,aI .i64 (k:Int))],hp [],0⟩ ((b,ks.map Xnu)::μ):=by
 intro xs
 induction xs with
 |nil =>
  intro k hx ks C
  have hk:=drop_nil hx
  have hc:decide ((k:Int)<(l.length:Int))=false:=Yf (by omega)
  refine X2.round ?_
  refine rn tmD [Bf] rfl (by repeat' first|apply Ya|exact hc|exact oblA) ?_
  exact X2.weakTo [] C rfl (by repeat' first|apply Ya|exact wkA) trivial
 |cons x xs ih =>
  intro k hx ks C
  obtain⟨hk,hg,hx1⟩:=drop_cons hx
  have hc:decide ((k:Int)<(l.length:Int))=true:=Yt (by omega)
  refine X2.round ?_
  refine rn tmD [Bt,.el (aI .i64 x)] rfl (by repeat' first|apply Ya|exact hc|exact ixm hg|exact oblA) ?_
  refine X2.mapUpd (d:=.int .i64) Xa rfl rfl rfl rfl rfl Tryz.underlying3 rfl rfl rfl trivial trivial trivial rfl (by
   intro p hp;obtain⟨z,_,rfl⟩:=List.mem_map.1 hp;rfl) ?_
  rw[X01f]
  refine X10 [] ?_
  exact X2.weakTo [] (ih (k+1) hx1 (Xn1 ks x) C) rfl (by repeat' first|apply Ya|exact wkA) trivial
theorem X8u (a0:(List Int)) (r:Int) (h:X3s a0=some r):X0g Tryz.prog 138 [(Lf (List.map (aI .i64) a0))] (aI .i64 r):=by
 refine X0g.sym Xa X0dy (nt:=18) rfl rfl ?_ (X1d .list X8w)
 unfold X3s at h
 refine X0c4 h ?_
 clear h;intro u h1 h
 have q1:=X08 h1
 obtain rfl:=oj h
 refine X10 [] ?_
 refine X2.mapNew rfl rfl rfl fun b=>?_
 refine X10 [] ?_
 refine X2.weakTo [] (X2.cut (Xei b a0 q1 a0 0 (by simp) [] ?_)) rfl (by repeat' first|apply Ya|exact wkA) trivial
 refine X2.glue ?_
 refine X10 [] ?_
 refine X2.mapLen Xa rfl rfl rfl rfl rfl rfl trivial ?_
 rw[List.length_map]
 refine X10 [] ?_
 exact X02p rfl .sc
instance Xws:PCs Tryz.prog 107 (∀ (a0:(List Int)) (a1:Bool) (r:Int),X2l a0 a1=some r->X0g Tryz.prog 107 [(Lf (List.map (aI .i64) a0)),(aB a1)] (aI .i64 r)):=⟨fun a0 a1 r h=>by
 refine X0g.sym Xa X0em (nt:=30) rfl rfl ?_ okM
 unfold X2l at h
 revert h
 refine brI (fun h1=>fun e=>oj e▸X9 [.el (aI .i64 (a0.length:Int)),Bt] (k:=fi)) fun h1=>bI fun X092 h17=>rnI [.el (aI .i64 (a0.length:Int)),Bf,.stop 4] ?_
 intro h
 refine X2.join (s':=⟨fr [(0,(Lf (List.map (aI .i64) a0))),(24,(aB X092))],hp ([]),0⟩) ?_ (fun J=>X2.cut ?_)
 ·
  revert h
  refine brI (fun h18=>fun e=>oj e▸X9 [Bt] (k:=fi)) fun h18=>?_
  refine bI fun v19 h20=>brI (fun h21=>?_) fun h21=>?_
  ·
   exact fun e=>oj e▸X9 [Bf,.pure [(Lf (List.map (aI .i64) a0))] (aI .i64 v19),.el (aI .i64 (a0.length:Int)),Bt] (o:=by repeat' first|apply Ya|exact pcM|exact(pn (X8u _ _ h20) (cc (X5q (X1x (fun _=>Xcm) a0)) cn))|exact X0k) (k:=fi)
  exact fun e=>oj e▸X9 [Bf,.pure [(Lf (List.map (aI .i64) a0))] (aI .i64 v19),.el (aI .i64 (a0.length:Int)),Bf] (o:=by repeat' first|apply Ya|exact pcM|exact(pn (X8u _ _ h20) (cc (X5q (X1x (fun _=>Xcm) a0)) cn))|exact X0k) (k:=fi)
 clear h;revert h17
 refine brI (fun h10=>?_) fun h10=>?_
 ·
  intro h
  obtain rfl:=oj h
  exact X9 [.el (aI .i64 (a0.length:Int)),.go false,.go false,.go false,.go false,.go false,.go false,.go false,.go false,.go false] (o:=by repeat' first|apply Ya|exact pcM|exact((Xas h10 rfl))|exact(X6x (Xas h10 rfl))|exact(absN (Xas h10 rfl))|exact X0k) (k:=wkT [] (X2.glue J))
 refine brI (fun h11=>?_) fun h11=>?_
 ·
  refine brI (fun h12=>?_) fun h12=>?_
  ·
   intro h
   obtain rfl:=oj h
   exact X9 [.el (aI .i64 (a0.length:Int)),.go true,.go true,.go true,.go true,.el (aI .i64 (a0.length:Int)),.go true,.go true,.go false,.go false,.go false] (o:=by repeat' first|apply Ya|exact pcM|exact((X6y h10 (Xas h11 h12)))|exact(X6x (X6y h10 (Xas h11 h12)))|exact(absN (X6y h10 (Xas h11 h12)))|exact X0k) (k:=wkT [] (X2.glue J))
  refine bI fun v13 h14=>?_
  intro h
  obtain rfl:=oj h
  exact X9 [.el (aI .i64 (a0.length:Int)),.go true,.go true,.go true,.go true,.el (aI .i64 (a0.length:Int)),.go true,.go true,.go true,.go true,.go true,.pure [(Lf (List.map (aI .i64) a0)),(AV.fn 136 [])] (aB v13)] (o:=by repeat' first|apply Ya|exact pcM|exact((X6y h10 (Xas h11 h12)))|exact(X6x (X6y h10 (Xas h11 h12)))|exact(pn (X25 _ _ h14) (cc (X5q (X1x (fun _=>Xcm) a0)) (cc .fn0 cn)))|exact(absT (X6y h10 (Xas h11 h12)))|exact X0k) (k:=wkT [] (X2.glue J))
 refine bI fun v15 h16=>?_
 intro h
 obtain rfl:=oj h
 exact X9 [.el (aI .i64 (a0.length:Int)),.go true,.go true,.go false,.go false,.go false,.go true,.go true,.go true,.go true,.pure [(Lf (List.map (aI .i64) a0)),(AV.fn 136 [])] (aB v15)] (o:=by repeat' first|apply Ya|exact pcM|exact((X6y h10 (X6y h11 rfl)))|exact(X6x (X6y h10 (X6y h11 rfl)))|exact(pn (X25 _ _ h16) (cc (X5q (X1x (fun _=>Xcm) a0)) (cc .fn0 cn)))|exact(absT (X6y h10 (X6y h11 rfl)))|exact X0k) (k:=wkT [] (X2.glue J))⟩
instance X57:PCs Tryz.prog 78 (∀ (a0:X0l) (r:Int),X1f a0=some r->X0g Tryz.prog 78 [(X0u a0)] (aI .i64 r)):=⟨fun a0 r h=>by
 refine X0g.sym Xa fn78 (nt:=40) rfl rfl ?_ okM
 unfold X1f at h
 revert h
 exact brI (fun h1=>fun e=>oj e▸X9 [Bt] (k:=fi)) fun h1=>brI (fun h2=>brI (fun h3=>fun e=>oj e▸X9 [Bf,Bt,.wrap,Bt] (k:=fi)) fun h3=>fun e=>oj e▸X9 [Bf,Bt,.wrap,Bf] (k:=fi)) fun h2=>brI (fun h4=>brI (fun h5=>fun e=>oj e▸X9 [Bf,Bf,Bt,Bt] (k:=fi)) fun h5=>fun e=>oj e▸X9 [Bf,Bf,Bt,Bf] (k:=fi)) fun h4=>brI (fun h6=>brI (fun h7=>fun e=>oj e▸X9 [Bf,Bf,Bf,Bt,Bt] (k:=fi)) fun h7=>fun e=>oj e▸X9 [Bf,Bf,Bf,Bt,Bf] (k:=fi)) fun h6=>fun e=>oj e▸X9 [Bf,Bf,Bf,Bf] (k:=fi)⟩
instance Xzi:PCs Tryz.prog 73 (∀ (a0:Xu) (r:Int),X8v a0=some r->X0g Tryz.prog 73 [(Xm false a0)] (aI .i64 r)):=⟨fun a0 r h=>by
 refine X0g.sym Xa fn73 (nt:=66) rfl rfl ?_ okM
 unfold X8v at h
 revert h
 refine brI (fun h1=>fun e=>oj e▸X9 [Bt] (k:=fi)) fun h1=>?_
 refine brI (fun h2=>?_) fun h2=>?_
 ·
  refine bI fun v3 h4=>brI (fun h5=>fun e=>oj e▸X9 [Bf,Bt,.pure _ (aI .i64 v3),Bt] (k:=fi)) fun h5=>?_
  refine brI (fun h6=>?_) fun h6=>bI fun v16 h17=>brI (fun h18=>fun e=>oj e▸X9 [Bf,Bt,.pure _ (aI .i64 v3),Bf,.el (aI .i64 (a0.Where.length:Int)),Bf,.pure _ (aI .i64 v16),Bt] (k:=fi)) fun h18=>brI (fun h19=>fun e=>oj e▸X9 [Bf,Bt,.pure _ (aI .i64 v3),Bf,.el (aI .i64 (a0.Where.length:Int)),Bf,.pure _ (aI .i64 v16),Bf,Bt] (k:=fi)) fun h19=>bI fun v20 h21=>fun e=>oj e▸X9 [Bf,Bt,.pure _ (aI .i64 v3),Bf,.el (aI .i64 (a0.Where.length:Int)),Bf,.pure _ (aI .i64 v16),Bf,Bf,.pure _ (aI .i64 v20)] (k:=fi)
  refine bI fun v7 h8=>brI (fun h9=>fun e=>oj e▸X9 [Bf,Bt,.pure _ (aI .i64 v3),Bf,.el (aI .i64 (a0.Where.length:Int)),Bt,.pure _ (aI .i64 v7),Bt] (k:=fi)) fun h9=>bI fun v10 h11=>rnI [Bf,Bt,.pure _ (aI .i64 v3),Bf,.el (aI .i64 (a0.Where.length:Int)),Bt,.pure _ (aI .i64 v7),Bf,.pure _ (aI .i64 v10)] ?_
  exact brI (fun h12=>fun e=>oj e▸X9 [Bt] (k:=fi)) fun h12=>brI (fun h13=>fun e=>oj e▸X9 [Bf,Bt] (k:=fi)) fun h13=>bI fun v14 h15=>fun e=>oj e▸X9 [Bf,Bf,.pure _ (aI .i64 v14)] (k:=fi)
 refine brI (fun h22=>fun e=>oj e▸X9 [Bf,Bf,.el (aI .i64 (a0.Arg.length:Int)),Bt] (k:=fi)) fun h22=>?_
 refine brI (fun h23=>?_) fun h23=>?_
 ·
  refine bI fun v24 h25=>rnI [Bf,Bf,.el (aI .i64 (a0.Arg.length:Int)),Bf,.el (aI .i64 (a0.Where.length:Int)),Bt,.pure _ (aI .i64 v24)] ?_
  exact brI (fun h26=>fun e=>oj e▸X9 [Bt] (k:=fi)) fun h26=>bI fun v27 h28=>brI (fun h29=>fun e=>oj e▸X9 [Bf,.pure _ (aI .i64 v27),Bt] (k:=fi)) fun h29=>brI (fun h30=>fun e=>oj e▸X9 [Bf,.pure _ (aI .i64 v27),Bf,Bt] (k:=fi)) fun h30=>bI fun v31 h32=>fun e=>oj e▸X9 [Bf,.pure _ (aI .i64 v27),Bf,Bf,.pure _ (aI .i64 v31)] (k:=fi)
 refine bI fun v33 h34=>rnI [Bf,Bf,.el (aI .i64 (a0.Arg.length:Int)),Bf,.el (aI .i64 (a0.Where.length:Int)),Bf,.pure _ (aI .i64 v33)] ?_
 exact brI (fun h35=>fun e=>oj e▸X9 [Bt] (k:=fi)) fun h35=>brI (fun h36=>fun e=>oj e▸X9 [Bf,Bt] (k:=fi)) fun h36=>bI fun v37 h38=>fun e=>oj e▸X9 [Bf,Bf,.pure _ (aI .i64 v37)] (k:=fi)⟩
theorem X5w {Q:X02->St->Mu->Prop} {μ:Mu} (Xi:(List Bool)) (X1t:(V2 Bool)) (X0h:(List Int)) (Xl:Nb Xi) (hl:X0h.length<=140737488355328):∀ (xs:List Int) (k:Nat) (hx:X0h.drop k=xs) (o:X2f) (h:X0o Xi X1t X0h xs k  = some o)
  (C0:o=X2f.x0->X2 Tryz.prog 21 4 Q (.exit (.exit 0)) [] ⟨fr [],hp ([(0,Ob [(slE Xl.1 1 (Xi.map aB))] 1),(2,Ob [(Xar X1t)] 2),(3,Ob (List.map (aI .i64) X0h) 1)]++opE Xl.1 1 1 (Xi.map aB)),4⟩ μ)
  (C1:o=X2f.x1->X2 Tryz.prog 21 4 Q (.exit .ret) [] ⟨fr [(5,(aB false))],hp ([(0,Ob [(slE Xl.1 1 (Xi.map aB))] 1),(2,Ob [(Xar X1t)] 2),(3,Ob (List.map (aI .i64) X0h) 1)]++opE Xl.1 1 1 (Xi.map aB)),4⟩ μ),
  X2 Tryz.prog 21 4 Q (.loop (X2v 0 (Xh Tryz.f189))) [] ⟨fr [(0,(aB false)),(2,(AV.ptr 0 0 0)),(8,(AV.ref 3 0 (X0h.length))),(9,(aI .i64 (X0h.length:Int))),(10,(aI .i64 (k:Int)))],hp ([(0,Ob [(slE Xl.1 1 (Xi.map aB))] 1),(2,Ob [(Xar X1t)] 2),(3,Ob (List.map (aI .i64) X0h) 1)]++opE Xl.1 1 1 (Xi.map aB)),4⟩ μ:=by
 intro xs
 induction xs with
 |nil =>
  intro k hx  o h C0 C1
  have hk:=drop_nil hx
  have hc:decide ((k:Int)<(X0h.length:Int))=false:=Yf (by omega)
  rw[X0o] at h
  rcases Xl with ⟨_|_,X04⟩
  ·
   refine X2.round ?_
   revert h
   exact fun e=>X9 [Bf] (k:=wkT [] (C0  (oj e).symm))
  ·
   obtain rfl:=X04 rfl
   refine X2.round ?_
   revert h
   exact fun e=>X9 [Bf] (k:=wkT [] (C0  (oj e).symm))
 |cons x xs ih =>
  intro k hx  o h C0 C1
  obtain⟨hk,hg,hx1⟩:=drop_cons hx
  have hc:decide ((k:Int)<(X0h.length:Int))=true:=Yt (by omega)
  rw[X0o] at h
  rcases Xl with ⟨_|_,X04⟩
  ·
   refine X2.round ?_
   revert h
   refine bI fun e3011 h3012=>?_
   try have qh3012:=Xn h3012
   refine brI (fun h3013=>fun e=>X9 [Bt,.el (aI .i64 x),.ld (aI .i64 x),.el (aB e3011),.ld (aB e3011),Bt] (k:=wkT [] (C1  (oj e).symm))) fun h3013=>rnI [Bt,.el (aI .i64 x),.ld (aI .i64 x),.el (aB e3011),.ld (aB e3011),Bf] ?_
   intro h
   exact wkT [] (ih (k+1) hx1  o h C0 C1)
  obtain rfl:=X04 rfl
  refine X2.round ?_
  revert h
  refine bI fun e3014 h3015=>?_
  try have qh3015:=Xn h3015
  intro h
  exact absurd (h3015) (by simp[X1p])
theorem X1v {Q:X02->St->Mu->Prop} {μ:Mu} (Xi:(List Bool)) (X1a:(List Int)) (Xl:Nb Xi) (hl:X1a.length<=140737488355328):∀ (xs:List Int) (k:Nat) (hx:X1a.drop k=xs) (o:X27) (h:X0p Xi X1a xs k  = some o)
  (C0:o=X27.x0->X2 Tryz.prog 21 4 Q (.exit (.exit 0)) [] ⟨fr [],hp ([(0,Ob [(slE Xl.1 1 (Xi.map aB))] 1)]++opE Xl.1 1 1 (Xi.map aB)),4⟩ μ)
  (C1:o=X27.x1->X2 Tryz.prog 21 4 Q (.exit .ret) [] ⟨fr [(5,(aB false))],hp ([(0,Ob [(slE Xl.1 1 (Xi.map aB))] 1)]++opE Xl.1 1 1 (Xi.map aB)),4⟩ μ),
  X2 Tryz.prog 21 4 Q (.loop (X2v 0 (Xh Tryz.f189))) [] ⟨fr [(0,(aB true)),(2,(AV.ptr 0 0 0)),(8,(AV.ref 4 0 (X1a.length))),(9,(aI .i64 (X1a.length:Int))),(10,(aI .i64 (k:Int)))],hp ([(0,Ob [(slE Xl.1 1 (Xi.map aB))] 1),(4,Ob (List.map (aI .i64) X1a) 1)]++opE Xl.1 1 1 (Xi.map aB)),5⟩ μ:=by
 intro xs
 induction xs with
 |nil =>
  intro k hx  o h C0 C1
  have hk:=drop_nil hx
  have hc:decide ((k:Int)<(X1a.length:Int))=false:=Yf (by omega)
  rw[X0p] at h
  rcases Xl with ⟨_|_,X04⟩
  ·
   refine X2.round ?_
   revert h
   exact fun e=>X9 [Bf] (k:=wkT [] (C0  (oj e).symm))
  ·
   obtain rfl:=X04 rfl
   refine X2.round ?_
   revert h
   exact fun e=>X9 [Bf] (k:=wkT [] (C0  (oj e).symm))
 |cons x xs ih =>
  intro k hx  o h C0 C1
  obtain⟨hk,hg,hx1⟩:=drop_cons hx
  have hc:decide ((k:Int)<(X1a.length:Int))=true:=Yt (by omega)
  rw[X0p] at h
  rcases Xl with ⟨_|_,X04⟩
  ·
   refine X2.round ?_
   revert h
   refine bI fun e3127 h3128=>?_
   try have qh3128:=Xn h3128
   refine brI (fun h3129=>fun e=>X9 [Bt,.el (aI .i64 x),.ld (aI .i64 x),.el (aB e3127),.ld (aB e3127),Bt] (k:=wkT [] (C1  (oj e).symm))) fun h3129=>rnI [Bt,.el (aI .i64 x),.ld (aI .i64 x),.el (aB e3127),.ld (aB e3127),Bf] ?_
   intro h
   exact wkT [] (ih (k+1) hx1  o h C0 C1)
  obtain rfl:=X04 rfl
  refine X2.round ?_
  revert h
  refine bI fun e3130 h3131=>?_
  try have qh3131:=Xn h3131
  intro h
  exact absurd (h3131) (by simp[X1p])
end Go.Av.Tryz