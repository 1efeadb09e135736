/- Printed by decomp.py: that the program computes the functions. -/
import Derived.Test.YtdpeaabenapeaaaGreatDCert1Z
set_option linter.all false

namespace Go.Av.Tryz
open Go.Proofs Go.D
set_option maxRecDepth 10000
set_option maxHeartbeats 40000000
instance Xw5:PCs Tryz.prog 91 (∀ (a0:(List Xu)) (r:(List Xe)×Bool),Xc1 a0=some r->X0j Tryz.prog 91 [(Lf (a0.map X4))] (AV.tup [(Lt (r.1.map X6)),(aB r.2)])):=⟨λa0 r h=>by
 refine X0j.sym X7 fn91 (nt:=105) rfl rfl ?_ okM;unfold Xc1 at h;revert h;refine bI λu1 h2=>?_;have qh2:=X0b h2;refine bI λo475 h476=>rnI [.el (aI .i64 (a0.length:Int))] ?_;intro h;refine wkT [] (X2.cut (Xfb a0 qh2 a0 0 (by simp) _ _ nbS nbS _ h476 ?_ ?_))
 ·
  intro Xo X09 Xz X0h eo475;subst eo475;refine X2.glue ?_;try dsimp only at h
  rcases Xz with ⟨_|_,X1v⟩<;>(try obtain rfl:=X1v rfl);all_goals
   rcases X0h with ⟨_|_,X3d⟩
   ·
    revert h;exact λe=>oj e▸X8 [.el (aI .i64 (X09.length:Int))] (k:=fi)
   obtain rfl:=X3d rfl;revert h;exact λe=>oj e▸X8 [.el (aI .i64 (List.length ([]:List Xe):Int))] (k:=fi)
 intro X00 Xy eo475;subst eo475;refine X2.glue ?_;try dsimp only at h
 rcases Xy with ⟨_|_,X1u⟩<;>(try obtain rfl:=X1u rfl);all_goals
  revert h;exact λe=>oj e▸X8 [] (k:=fi)⟩
instance Xv8:PCs Tryz.prog 72 (∀ (a0:(List Xu)) (r:(List Xe)×Int),X8e a0=some r->X0j Tryz.prog 72 [(Lf (a0.map X4))] (AV.tup [(Lt (r.1.map X6)),(aI .i64 r.2)])):=⟨λa0 r h=>by
 refine X0j.sym X7 fn72 (nt:=25) rfl rfl ?_ okM;unfold X8e at h;revert h;refine brI (λh1=>λe=>oj e▸X8 [.el (aI .i64 (a0.length:Int)),Bt] (k:=fi)) λh1=>bI λv2 h3=>brI (λh4=>λe=>oj e▸X8 [.el (aI .i64 (a0.length:Int)),Bf,.pure _ (AV.tup [(Lt (v2.1.map X6)),(aB v2.2)]),Bt] (k:=fi)) λh4=>bI λe5 h6=>?_;try have qh6:=Xl h6
 refine rnI [.el (aI .i64 (a0.length:Int)),Bf,.pure _ (AV.tup [(Lt (v2.1.map X6)),(aB v2.2)]),Bf,.el (aI .i64 (v2.1.length:Int)),.wrap,.el (X6 e5)] ?_;exact brI (λh7=>λe=>oj e▸X8 [Bt] (k:=fi)) λh7=>λe=>oj e▸X8 [Bf] (k:=fi)⟩
instance Xva:PCs Tryz.prog 49 (∀ (a0:(List Xu)) (r:Int),X4j a0=some r->X0j Tryz.prog 49 [(Lf (a0.map X4))] (aI .i64 r)):=⟨λa0 r h=>by
 refine X0j.sym X7 fn49 (nt:=11) rfl rfl ?_ okM;unfold X4j at h;revert h;exact bI λv1 h2=>λe=>oj e▸X8 [.pure _ (AV.tup [(Lt (v1.1.map X6)),(aI .i64 v1.2)])] (k:=fi)⟩
instance Xlz:PCs Tryz.prog 73 (∀ (a0:Int) (r:Bool),X4x a0=some r->X0j Tryz.prog 73 [(aI .i64 a0)] (aB r)):=⟨λa0 r h=>by
 refine X0j.sym X7 fn73 (nt:=9) rfl rfl ?_ okM;unfold X4x at h;revert h;exact λe=>oj e▸X8 [] (k:=fi)⟩
theorem X7b {Q:Xx->St->Mu->Prop} {μ:Mu} (X0a:(List Int)) (hl:X0a.length<=140737488355328):∀ (xs:List Int) (k:Nat) (hx:X0a.drop k=xs) (o:X1d) (h:X0e X0a xs k  = some o)
  (C0:o=X1d.x0->X2 Tryz.prog 19 0 Q (.exit (.exit 0)) [] ⟨fr [],hp ([]),0⟩ μ)
  (C1:∀ (X8p:Int),o=X1d.x1 X8p->X2 Tryz.prog 19 0 Q (.exit .ret) [] ⟨fr [(4,(aI .i64 X8p))],hp ([]),0⟩ μ),
  X2 Tryz.prog 19 0 Q (.loop (X41 0 (Xh Tryz.f92))) [] ⟨fr [(0,(Lf (List.map (aI .i64) X0a))),(1,(AV.fn 73 [])),(7,(aI .i64 (X0a.length:Int))),(8,(aI .i64 (k:Int)))],hp ([]),0⟩ μ:=by
 intro xs
 induction xs with
 |nil =>
  intro k hx  o h C0 C1;have hk:=X11 hx;have hc:decide ((k:Int)<(X0a.length:Int))=false:=Yf om;rw[X0e] at h;refine X2.round ?_;revert h;exact λe=>X8 [Bf] (k:=wkT [] (C0  (oj e).symm))
 |cons x xs ih =>
  intro k hx  o h C0 C1;obtain⟨hk,hg,hx1⟩:=X0f hx;have hc:decide ((k:Int)<(X0a.length:Int))=true:=Yt om;rw[X0e] at h;refine X2.round ?_;revert h;refine bI λv10 h11=>brI (λh12=>λe=>X8 [Bt,.el (aI .i64 x),.pure _ (aB v10),Bt] (k:=wkT [] (C1 _  (oj e).symm))) λh12=>rnI [Bt,.el (aI .i64 x),.pure _ (aB v10),Bf] ?_;intro h;exact wkT [] (ih (k+1) hx1  o h C0 C1)
theorem X3b (a0:(List Int)) (r:Int) (h:X0c a0=some r):X0j Tryz.prog 92 [(Lf (List.map (aI .i64) a0)),(AV.fn 73 [])] (aI .i64 r):=by
 refine X0j.sym X7 fn92 (nt:=19) rfl rfl ?_ okM;unfold X0c at h;revert h;refine bI λu1 h2=>?_;have qh2:=X0b h2;refine bI λo13 h14=>rnI [.el (aI .i64 (a0.length:Int))] ?_;intro h;refine wkT [] (X2.cut (X7b a0 qh2 a0 0 (by simp) _ h14 ?_ ?_))
 ·
  intro eo13;subst eo13;refine X2.glue ?_;try dsimp only at h
  revert h;exact λe=>oj e▸X8 [] (k:=fi)
 intro X8p eo13;subst eo13;refine X2.glue ?_;try dsimp only at h
 revert h;exact λe=>oj e▸X8 [] (k:=fi)
theorem X1b (a0:(List Int)) (r:Bool) (h:Xs a0=some r):X0j Tryz.prog 74 [(Lf (List.map (aI .i64) a0)),(AV.fn 73 [])] (aB r):=by
 refine X0j.sym X7 fn74 (nt:=9) rfl rfl ?_ okM;unfold Xs at h;revert h;exact bI λv1 h2=>λe=>oj e▸X8 [.pure [(Lf (List.map (aI .i64) a0)),(AV.fn 73 [])] (aI .i64 v1)] (o:=by repeat' first|apply Ya|exact pcM|exact(pn (X3b _ _ h2) (cc (Xaq (X23 (λ_=>Xf4) a0)) (cc .fn0 cn)))|exact X05) (k:=fi)
theorem Xsy (z:Int):∀ (ks:List Int),Xpd (.int .i64 z) (.bool true) (ks.map Xhw)=(Xh6 ks z).map Xhw:=by
 intro ks;unfold Xh6
 induction ks with
 |nil=>simp[Xpd,Xhw]
 |cons a r ih =>
  simp only[List.map_cons,Xhw,Xpd];by_cases h:a=z
  ·subst h;simp[Xhw]
  have h1:¬ (Value.int .i64 a=Value.int .i64 z):=by simpa using h
  rw[if_neg h1];have ih':Xpd (.int .i64 z) (.bool true) (r.map Xhw)=(if z∈r then r else r++[z]).map Xhw:=ih;rw[ih'];have h2:¬ z=a:=λe=>h e.symm;by_cases hz:z∈r<;>simp[hz,h2,Xhw]
theorem Xar {Q:Xx->St->Mu->Prop} {μ:Mu} (b:Nat) (l:List Int) (hl:l.length<=140737488355328):∀ (xs:List Int) (k:Nat) (hx:l.drop k=xs) (ks:List Int)
  (C:X2 Tryz.prog 18 0 Q (.exit (.exit 0)) [] ⟨fr [(3,.sc (.map (some b)))],hp [],0⟩ ((b,(X7d ks xs).map Xhw)::μ)),
  X2 Tryz.prog 18 0 Q (.loop (X41 0 (Xh Tryz.f75))) [] ⟨fr [(3,.sc (.map (some b))),(7,AV.list false (List.map (aI .i64) l)),(8,aI .i64 (l.length:Int)),(9,aI .i64 (k:Int))],hp [],0⟩ ((b,ks.map Xhw)::μ):=by
 intro xs
 induction xs with
 |nil =>
  intro k hx ks C;have hk:=X11 hx;have hc:decide ((k:Int)<(l.length:Int))=false:=Yf om;refine X2.round ?_;refine rn tmD [Bf] rfl (by repeat' first|apply Ya|exact hc|exact oblA) ?_;exact X2.weakTo [] C rfl (by repeat' first|apply Ya|exact wkA) trivial
 |cons x xs ih =>
  intro k hx ks C;obtain⟨hk,hg,hx1⟩:=X0f hx;have hc:decide ((k:Int)<(l.length:Int))=true:=Yt om;refine X2.round ?_;refine rn tmD [Bt,.el (aI .i64 x)] rfl (by repeat' first|apply Ya|exact hc|exact ixm hg|exact oblA) ?_;refine X2.mapUpd (d:=.int .i64) X7 rfl rfl rfl rfl rfl Tryz.underlying3 rfl rfl rfl trivial trivial trivial rfl (by
   intro p hp;obtain⟨z,_,rfl⟩:=List.mem_map.1 hp;rfl) ?_
  rw[Xsy];refine X0z [] ?_;exact X2.weakTo [] (ih (k+1) hx1 (Xh6 ks x) C) rfl (by repeat' first|apply Ya|exact wkA) trivial
theorem X6f (a0:(List Int)) (r:Int) (h:X28 a0=some r):X0j Tryz.prog 75 [(Lf (List.map (aI .i64) a0))] (aI .i64 r):=by
 refine X0j.sym X7 fn75 (nt:=18) rfl rfl ?_ (X1a .list X7j);unfold X28 at h;refine X01z h ?_;clear h;intro u h1 h;have q1:=X0b h1;obtain rfl:=oj h;refine X0z [] ?_;refine X2.mapNew rfl rfl rfl λb=>?_;refine X0z [] ?_;refine X2.weakTo [] (X2.cut (Xar b a0 q1 a0 0 (by simp) [] ?_)) rfl (by repeat' first|apply Ya|exact wkA) trivial;refine X2.glue ?_;refine X0z [] ?_;refine X2.mapLen X7 rfl rfl rfl rfl rfl rfl trivial ?_;rw[List.length_map];refine X0z [] ?_;exact Xts rfl .sc
instance Xp4:PCs Tryz.prog 50 (∀ (a0:(List Int)) (a1:Bool) (r:Int),X1k a0 a1=some r->X0j Tryz.prog 50 [(Lf (List.map (aI .i64) a0)),(aB a1)] (aI .i64 r)):=⟨λa0 a1 r h=>by
 refine X0j.sym X7 fn50 (nt:=30) rfl rfl ?_ okM;unfold X1k at h;revert h;refine brI (λh1=>λe=>oj e▸X8 [.el (aI .i64 (a0.length:Int)),Bt] (k:=fi)) λh1=>bI λXz6 h17=>rnI [.el (aI .i64 (a0.length:Int)),Bf,.stop 4] ?_;intro h;refine X2.join (s':=⟨fr [(0,(Lf (List.map (aI .i64) a0))),(24,(aB Xz6))],hp ([]),0⟩) ?_ (λJ=>X2.cut ?_)
 ·
  revert h;refine brI (λh18=>λe=>oj e▸X8 [Bt] (k:=fi)) λh18=>?_;refine bI λv19 h20=>brI (λh21=>?_) λh21=>?_
  ·
   exact λe=>oj e▸X8 [Bf,.pure [(Lf (List.map (aI .i64) a0))] (aI .i64 v19),.el (aI .i64 (a0.length:Int)),Bt] (o:=by repeat' first|apply Ya|exact pcM|exact(pn (X6f _ _ h20) (cc (Xaq (X23 (λ_=>Xf4) a0)) cn))|exact X05) (k:=fi)
  exact λe=>oj e▸X8 [Bf,.pure [(Lf (List.map (aI .i64) a0))] (aI .i64 v19),.el (aI .i64 (a0.length:Int)),Bf] (o:=by repeat' first|apply Ya|exact pcM|exact(pn (X6f _ _ h20) (cc (Xaq (X23 (λ_=>Xf4) a0)) cn))|exact X05) (k:=fi)
 clear h;revert h17;refine brI (λh10=>?_) λh10=>?_
 ·
  intro h;obtain rfl:=oj h;exact X8 [.el (aI .i64 (a0.length:Int)),Gf,Gf,Gf,Gf,Gf,Gf,Gf,Gf,Gf] (o:=by repeat' first|apply Ya|exact pcM|exact fq (X2a h10 rfl)|exact X05) (k:=wkT [] (X2.glue J))
 refine brI (λh11=>?_) λh11=>?_
 ·
  refine brI (λh12=>?_) λh12=>?_
  ·
   intro h;obtain rfl:=oj h;exact X8 [.el (aI .i64 (a0.length:Int)),Gt,Gt,Gt,Gt,.el (aI .i64 (a0.length:Int)),Gt,Gt,Gf,Gf,Gf] (o:=by repeat' first|apply Ya|exact pcM|exact fq (X2y h10 (X2a h11 h12))|exact X05) (k:=wkT [] (X2.glue J))
  refine bI λv13 h14=>?_;intro h;obtain rfl:=oj h;exact X8 [.el (aI .i64 (a0.length:Int)),Gt,Gt,Gt,Gt,.el (aI .i64 (a0.length:Int)),Gt,Gt,Gt,Gt,Gt,.pure [(Lf (List.map (aI .i64) a0)),(AV.fn 73 [])] (aB v13)] (o:=by repeat' first|apply Ya|exact pcM|exact fq (X2y h10 (X2a h11 h12))|exact(pn (X1b _ _ h14) (cc (Xaq (X23 (λ_=>Xf4) a0)) (cc .fn0 cn)))|exact X05) (k:=wkT [] (X2.glue J))
 refine bI λv15 h16=>?_;intro h;obtain rfl:=oj h;exact X8 [.el (aI .i64 (a0.length:Int)),Gt,Gt,Gf,Gf,Gf,Gt,Gt,Gt,Gt,.pure [(Lf (List.map (aI .i64) a0)),(AV.fn 73 [])] (aB v15)] (o:=by repeat' first|apply Ya|exact pcM|exact fq (X2y h10 (X2y h11 rfl))|exact(pn (X1b _ _ h16) (cc (Xaq (X23 (λ_=>Xf4) a0)) (cc .fn0 cn)))|exact X05) (k:=wkT [] (X2.glue J))⟩
instance X3e:PCs Tryz.prog 37 (∀ (a0:X0g) (r:Int),X0v a0=some r->X0j Tryz.prog 37 [(X2k a0)] (aI .i64 r)):=⟨λa0 r h=>by
 refine X0j.sym X7 fn37 (nt:=40) rfl rfl ?_ okM;unfold X0v at h;revert h;exact brI (λh1=>λe=>oj e▸X8 [Bt] (k:=fi)) λh1=>brI (λh2=>brI (λh3=>λe=>oj e▸X8 [Bf,Bt,.wrap,Bt] (k:=fi)) λh3=>λe=>oj e▸X8 [Bf,Bt,.wrap,Bf] (k:=fi)) λh2=>brI (λh4=>brI (λh5=>λe=>oj e▸X8 [Bf,Bf,Bt,Bt] (k:=fi)) λh5=>λe=>oj e▸X8 [Bf,Bf,Bt,Bf] (k:=fi)) λh4=>brI (λh6=>brI (λh7=>λe=>oj e▸X8 [Bf,Bf,Bf,Bt,Bt] (k:=fi)) λh7=>λe=>oj e▸X8 [Bf,Bf,Bf,Bt,Bf] (k:=fi)) λh6=>λe=>oj e▸X8 [Bf,Bf,Bf,Bf] (k:=fi)⟩
instance Xrj:PCs Tryz.prog 29 (∀ (a0:Xt) (r:Int),X6g a0=some r->X0j Tryz.prog 29 [(Xk false a0)] (aI .i64 r)):=⟨λa0 r h=>by
 refine X0j.sym X7 fn29 (nt:=66) rfl rfl ?_ okM;unfold X6g at h;revert h;refine brI (λh1=>λe=>oj e▸X8 [Bt] (k:=fi)) λh1=>?_;refine brI (λh2=>?_) λh2=>?_
 ·
  refine bI λv3 h4=>brI (λh5=>λe=>oj e▸X8 [Bf,Bt,.pure _ (aI .i64 v3),Bt] (k:=fi)) λh5=>?_;refine brI (λh6=>?_) λh6=>bI λv16 h17=>brI (λh18=>λe=>oj e▸X8 [Bf,Bt,.pure _ (aI .i64 v3),Bf,.el (aI .i64 (a0.Where.length:Int)),Bf,.pure _ (aI .i64 v16),Bt] (k:=fi)) λh18=>brI (λh19=>λe=>oj e▸X8 [Bf,Bt,.pure _ (aI .i64 v3),Bf,.el (aI .i64 (a0.Where.length:Int)),Bf,.pure _ (aI .i64 v16),Bf,Bt] (k:=fi)) λh19=>bI λv20 h21=>λe=>oj e▸X8 [Bf,Bt,.pure _ (aI .i64 v3),Bf,.el (aI .i64 (a0.Where.length:Int)),Bf,.pure _ (aI .i64 v16),Bf,Bf,.pure _ (aI .i64 v20)] (k:=fi);refine bI λv7 h8=>brI (λh9=>λe=>oj e▸X8 [Bf,Bt,.pure _ (aI .i64 v3),Bf,.el (aI .i64 (a0.Where.length:Int)),Bt,.pure _ (aI .i64 v7),Bt] (k:=fi)) λh9=>bI λv10 h11=>rnI [Bf,Bt,.pure _ (aI .i64 v3),Bf,.el (aI .i64 (a0.Where.length:Int)),Bt,.pure _ (aI .i64 v7),Bf,.pure _ (aI .i64 v10)] ?_;exact brI (λh12=>λe=>oj e▸X8 [Bt] (k:=fi)) λh12=>brI (λh13=>λe=>oj e▸X8 [Bf,Bt] (k:=fi)) λh13=>bI λv14 h15=>λe=>oj e▸X8 [Bf,Bf,.pure _ (aI .i64 v14)] (k:=fi)
 refine brI (λh22=>λe=>oj e▸X8 [Bf,Bf,.el (aI .i64 (a0.Arg.length:Int)),Bt] (k:=fi)) λh22=>?_;refine brI (λh23=>?_) λh23=>?_
 ·
  refine bI λv24 h25=>rnI [Bf,Bf,.el (aI .i64 (a0.Arg.length:Int)),Bf,.el (aI .i64 (a0.Where.length:Int)),Bt,.pure _ (aI .i64 v24)] ?_;exact brI (λh26=>λe=>oj e▸X8 [Bt] (k:=fi)) λh26=>bI λv27 h28=>brI (λh29=>λe=>oj e▸X8 [Bf,.pure _ (aI .i64 v27),Bt] (k:=fi)) λh29=>brI (λh30=>λe=>oj e▸X8 [Bf,.pure _ (aI .i64 v27),Bf,Bt] (k:=fi)) λh30=>bI λv31 h32=>λe=>oj e▸X8 [Bf,.pure _ (aI .i64 v27),Bf,Bf,.pure _ (aI .i64 v31)] (k:=fi)
 refine bI λv33 h34=>rnI [Bf,Bf,.el (aI .i64 (a0.Arg.length:Int)),Bf,.el (aI .i64 (a0.Where.length:Int)),Bf,.pure _ (aI .i64 v33)] ?_;exact brI (λh35=>λe=>oj e▸X8 [Bt] (k:=fi)) λh35=>brI (λh36=>λe=>oj e▸X8 [Bf,Bt] (k:=fi)) λh36=>bI λv37 h38=>λe=>oj e▸X8 [Bf,Bf,.pure _ (aI .i64 v37)] (k:=fi)⟩
theorem X3u {Q:Xx->St->Mu->Prop} {μ:Mu} (Xc:(List Bool)) (X96:(V2 Bool)) (X0q:(List Int)) (Xp:Nb Xc) (hl:X0q.length<=140737488355328):∀ (xs:List Int) (k:Nat) (hx:X0q.drop k=xs) (o:X1f) (h:X04 Xc X96 X0q xs k  = some o)
  (C0:o=X1f.x0->X2 Tryz.prog 21 4 Q (.exit (.exit 0)) [] ⟨fr [],hp ([(0,Ob [(slE Xp.1 1 (Xc.map aB))] 1),(2,Ob [(X7n X96)] 2),(3,Ob (List.map (aI .i64) X0q) 1)]++opE Xp.1 1 1 (Xc.map aB)),4⟩ μ)
  (C1:o=X1f.x1->X2 Tryz.prog 21 4 Q (.exit .ret) [] ⟨fr [(5,(aB false))],hp ([(0,Ob [(slE Xp.1 1 (Xc.map aB))] 1),(2,Ob [(X7n X96)] 2),(3,Ob (List.map (aI .i64) X0q) 1)]++opE Xp.1 1 1 (Xc.map aB)),4⟩ μ),
  X2 Tryz.prog 21 4 Q (.loop (X41 0 (Xh Tryz.f107))) [] ⟨fr [(0,(aB false)),(2,(AV.ptr 0 0 0)),(8,(AV.ref 3 0 (X0q.length))),(9,(aI .i64 (X0q.length:Int))),(10,(aI .i64 (k:Int)))],hp ([(0,Ob [(slE Xp.1 1 (Xc.map aB))] 1),(2,Ob [(X7n X96)] 2),(3,Ob (List.map (aI .i64) X0q) 1)]++opE Xp.1 1 1 (Xc.map aB)),4⟩ μ:=by
 intro xs
 induction xs with
 |nil =>
  intro k hx  o h C0 C1;have hk:=X11 hx;have hc:decide ((k:Int)<(X0q.length:Int))=false:=Yf om;rw[X04] at h;rcases Xp with ⟨_|_,X02⟩<;>(try obtain rfl:=X02 rfl);all_goals
   refine X2.round ?_;revert h;exact λe=>X8 [Bf] (k:=wkT [] (C0  (oj e).symm))
 |cons x xs ih =>
  intro k hx  o h C0 C1;obtain⟨hk,hg,hx1⟩:=X0f hx;have hc:decide ((k:Int)<(X0q.length:Int))=true:=Yt om;rw[X04] at h;rcases Xp with ⟨_|_,X02⟩
  ·
   refine X2.round ?_;revert h;refine bI λe3011 h3012=>?_;try have qh3012:=Xl h3012
   refine brI (λh3013=>λe=>X8 [Bt,.el (aI .i64 x),.ld (aI .i64 x),.el (aB e3011),.ld (aB e3011),Bt] (k:=wkT [] (C1  (oj e).symm))) λh3013=>rnI [Bt,.el (aI .i64 x),.ld (aI .i64 x),.el (aB e3011),.ld (aB e3011),Bf] ?_;intro h;exact wkT [] (ih (k+1) hx1  o h C0 C1)
  obtain rfl:=X02 rfl;refine X2.round ?_;revert h;refine bI λe3014 h3015=>?_;try have qh3015:=Xl h3015
  intro h
  first|exact absurd (h3015) (by simp[X0u];done)|(simp[X0u,hc] at h;done)|(simp[hc] at hg;done)|exact absurd (h3015) (by simp[X0u,hc];done)
theorem X17 {Q:Xx->St->Mu->Prop} {μ:Mu} (Xc:(List Bool)) (X15:(List Int)) (Xp:Nb Xc) (hl:X15.length<=140737488355328):∀ (xs:List Int) (k:Nat) (hx:X15.drop k=xs) (o:X1c) (h:X06 Xc X15 xs k  = some o)
  (C0:o=X1c.x0->X2 Tryz.prog 21 4 Q (.exit (.exit 0)) [] ⟨fr [],hp ([(0,Ob [(slE Xp.1 1 (Xc.map aB))] 1)]++opE Xp.1 1 1 (Xc.map aB)),4⟩ μ)
  (C1:o=X1c.x1->X2 Tryz.prog 21 4 Q (.exit .ret) [] ⟨fr [(5,(aB false))],hp ([(0,Ob [(slE Xp.1 1 (Xc.map aB))] 1)]++opE Xp.1 1 1 (Xc.map aB)),4⟩ μ),
  X2 Tryz.prog 21 4 Q (.loop (X41 0 (Xh Tryz.f107))) [] ⟨fr [(0,(aB true)),(2,(AV.ptr 0 0 0)),(8,(AV.ref 4 0 (X15.length))),(9,(aI .i64 (X15.length:Int))),(10,(aI .i64 (k:Int)))],hp ([(0,Ob [(slE Xp.1 1 (Xc.map aB))] 1),(4,Ob (List.map (aI .i64) X15) 1)]++opE Xp.1 1 1 (Xc.map aB)),5⟩ μ:=by
 intro xs
 induction xs with
 |nil =>
  intro k hx  o h C0 C1;have hk:=X11 hx;have hc:decide ((k:Int)<(X15.length:Int))=false:=Yf om;rw[X06] at h;rcases Xp with ⟨_|_,X02⟩<;>(try obtain rfl:=X02 rfl);all_goals
   refine X2.round ?_;revert h;exact λe=>X8 [Bf] (k:=wkT [] (C0  (oj e).symm))
 |cons x xs ih =>
  intro k hx  o h C0 C1;obtain⟨hk,hg,hx1⟩:=X0f hx;have hc:decide ((k:Int)<(X15.length:Int))=true:=Yt om;rw[X06] at h;rcases Xp with ⟨_|_,X02⟩
  ·
   refine X2.round ?_;revert h;refine bI λe3127 h3128=>?_;try have qh3128:=Xl h3128
   refine brI (λh3129=>λe=>X8 [Bt,.el (aI .i64 x),.ld (aI .i64 x),.el (aB e3127),.ld (aB e3127),Bt] (k:=wkT [] (C1  (oj e).symm))) λh3129=>rnI [Bt,.el (aI .i64 x),.ld (aI .i64 x),.el (aB e3127),.ld (aB e3127),Bf] ?_;intro h;exact wkT [] (ih (k+1) hx1  o h C0 C1)
  obtain rfl:=X02 rfl;refine X2.round ?_;revert h;refine bI λe3130 h3131=>?_;try have qh3131:=Xl h3131
  intro h
  first|exact absurd (h3131) (by simp[X0u];done)|(simp[X0u,hc] at h;done)|(simp[hc] at hg;done)|exact absurd (h3131) (by simp[X0u,hc];done)
end Go.Av.Tryz