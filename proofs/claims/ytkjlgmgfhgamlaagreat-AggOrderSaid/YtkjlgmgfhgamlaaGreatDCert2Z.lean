/- Printed by decomp.py: that the program computes the functions. -/
import Derived.Test.YtkjlgmgfhgamlaaGreatDCert1Z
set_option linter.all false

namespace Go.Av.Tryz
open Go.Proofs Go.D
set_option maxRecDepth 10000
set_option maxHeartbeats 40000000
instance Xwc:PCs Tryz.prog 197 (∀ (a0:(List X05)) (r:(List Xb)×Bool),Xcn a0=some r->X0i Tryz.prog 197 [(Lf (a0.map X4))] (AV.tup [(Lt (r.1.map X5)),(aB r.2)])):=⟨λa0 r h=>by
 refine X0i.sym X3 X03j (nt:=105) rfl rfl ?_ okM;unfold Xcn at h;revert h;refine bI λu1 h2=>?_;have qh2:=X13 h2;refine bI λo475 h476=>rnI [.el (aI .i64 (a0.length:Int))] ?_;intro h;refine wkT [] (X2.cut (Xgn a0 qh2 a0 0 (by simp) _ _ nbS nbS _ h476 ?_ ?_))
 ·
  intro X07 X09 X0o X0p eo475;subst eo475;refine X2.glue ?_;try dsimp only at h
  rcases X0o with ⟨_|_,X3u⟩<;>(try obtain rfl:=X3u rfl);all_goals
   rcases X0p with ⟨_|_,X3t⟩
   ·
    revert h;exact λe=>oj e▸X7 [.el (aI .i64 (X09.length:Int))] (k:=fi)
   obtain rfl:=X3t rfl;revert h;exact λe=>oj e▸X7 [.el (aI .i64 (List.length ([]:List Xb):Int))] (k:=fi)
 intro X1a X17 eo475;subst eo475;refine X2.glue ?_;try dsimp only at h
 rcases X17 with ⟨_|_,X5b⟩<;>(try obtain rfl:=X5b rfl);all_goals
  revert h;exact λe=>oj e▸X7 [] (k:=fi)⟩
instance Xv4:PCs Tryz.prog 177 (∀ (a0:(List X05)) (r:(List Xb)×Int),X9b a0=some r->X0i Tryz.prog 177 [(Lf (a0.map X4))] (AV.tup [(Lt (r.1.map X5)),(aI .i64 r.2)])):=⟨λa0 r h=>by
 refine X0i.sym X3 X03q (nt:=25) rfl rfl ?_ okM;unfold X9b at h;revert h;refine brI (λh1=>λe=>oj e▸X7 [.el (aI .i64 (a0.length:Int)),Bt] (k:=fi)) λh1=>bI λv2 h3=>brI (λh4=>λe=>oj e▸X7 [.el (aI .i64 (a0.length:Int)),Bf,.pure _ (AV.tup [(Lt (v2.1.map X5)),(aB v2.2)]),Bt] (k:=fi)) λh4=>bI λe5 h6=>?_;try have qh6:=Xo h6
 refine rnI [.el (aI .i64 (a0.length:Int)),Bf,.pure _ (AV.tup [(Lt (v2.1.map X5)),(aB v2.2)]),Bf,.el (aI .i64 (v2.1.length:Int)),.wrap,.el (X5 e5)] ?_;exact brI (λh7=>λe=>oj e▸X7 [Bt] (k:=fi)) λh7=>λe=>oj e▸X7 [Bf] (k:=fi)⟩
instance Xv6:PCs Tryz.prog 157 (∀ (a0:(List X05)) (r:Int),X4y a0=some r->X0i Tryz.prog 157 [(Lf (a0.map X4))] (aI .i64 r)):=⟨λa0 r h=>by
 refine X0i.sym X3 X040 (nt:=11) rfl rfl ?_ okM;unfold X4y at h;revert h;exact bI λv1 h2=>λe=>oj e▸X7 [.pure _ (AV.tup [(Lt (v1.1.map X5)),(aI .i64 v1.2)])] (k:=fi)⟩
instance Xn8:PCs Tryz.prog 178 (∀ (a0:Int) (r:Bool),X5g a0=some r->X0i Tryz.prog 178 [(aI .i64 a0)] (aB r)):=⟨λa0 r h=>by
 refine X0i.sym X3 X03p (nt:=9) rfl rfl ?_ okM;unfold X5g at h;revert h;exact λe=>oj e▸X7 [] (k:=fi)⟩
theorem X7p {Q:Xx->St->Mu->Prop} {μ:Mu} (X0u:(List Int)) (hl:X0u.length<=140737488355328):∀ (xs:List Int) (k:Nat) (hx:X0u.drop k=xs) (o:X1x) (h:X0n X0u xs k  = some o)
  (C0:o=X1x.x0->X2 Tryz.prog 19 0 Q (.exit (.exit 0)) [] ⟨fr [],hp ([]),0⟩ μ)
  (C1:∀ (X9m:Int),o=X1x.x1 X9m->X2 Tryz.prog 19 0 Q (.exit .ret) [] ⟨fr [(4,(aI .i64 X9m))],hp ([]),0⟩ μ),
  X2 Tryz.prog 19 0 Q (.loop (X48 0 (Xa Tryz.f198))) [] ⟨fr [(0,(Lf (List.map (aI .i64) X0u))),(1,(AV.fn 178 [])),(7,(aI .i64 (X0u.length:Int))),(8,(aI .i64 (k:Int)))],hp ([]),0⟩ μ:=by
 intro xs
 induction xs with
 |nil =>
  intro k hx  o h C0 C1;have hk:=drop_nil hx;have hc:decide ((k:Int)<(X0u.length:Int))=false:=Yf om;rw[X0n] at h;refine X2.round ?_;revert h;exact λe=>X7 [Bf] (k:=wkT [] (C0  (oj e).symm))
 |cons x xs ih =>
  intro k hx  o h C0 C1;obtain⟨hk,hg,hx1⟩:=X12 hx;have hc:decide ((k:Int)<(X0u.length:Int))=true:=Yt om;rw[X0n] at h;refine X2.round ?_;revert h;refine bI λv10 h11=>brI (λh12=>λe=>X7 [Bt,.el (aI .i64 x),.pure _ (aB v10),Bt] (k:=wkT [] (C1 _  (oj e).symm))) λh12=>rnI [Bt,.el (aI .i64 x),.pure _ (aB v10),Bf] ?_;intro h;exact wkT [] (ih (k+1) hx1  o h C0 C1)
theorem X3s (a0:(List Int)) (r:Int) (h:X0m a0=some r):X0i Tryz.prog 198 [(Lf (List.map (aI .i64) a0)),(AV.fn 178 [])] (aI .i64 r):=by
 refine X0i.sym X3 X03i (nt:=19) rfl rfl ?_ okM;unfold X0m at h;revert h;refine bI λu1 h2=>?_;have qh2:=X13 h2;refine bI λo13 h14=>rnI [.el (aI .i64 (a0.length:Int))] ?_;intro h;refine wkT [] (X2.cut (X7p a0 qh2 a0 0 (by simp) _ h14 ?_ ?_))
 ·
  intro eo13;subst eo13;refine X2.glue ?_;try dsimp only at h
  revert h;exact λe=>oj e▸X7 [] (k:=fi)
 intro X9m eo13;subst eo13;refine X2.glue ?_;try dsimp only at h
 revert h;exact λe=>oj e▸X7 [] (k:=fi)
theorem X1q (a0:(List Int)) (r:Bool) (h:Xv a0=some r):X0i Tryz.prog 179 [(Lf (List.map (aI .i64) a0)),(AV.fn 178 [])] (aB r):=by
 refine X0i.sym X3 X03o (nt:=9) rfl rfl ?_ okM;unfold Xv at h;revert h;exact bI λv1 h2=>λe=>oj e▸X7 [.pure [(Lf (List.map (aI .i64) a0)),(AV.fn 178 [])] (aI .i64 v1)] (o:=by repeat' first|apply Ya|exact pcM|exact(pn (X3s _ _ h2) (cc (X5k (X2c (λ_=>Xef) a0)) (cc .fn0 cn)))|exact Xz) (k:=fi)
theorem Xtb (z:Int):∀ (ks:List Int),Xqj (.int .i64 z) (.bool true) (ks.map Xjf)=(Xij ks z).map Xjf:=by
 intro ks;unfold Xij
 induction ks with
 |nil=>simp[Xqj,Xjf]
 |cons a r ih =>
  simp only[List.map_cons,Xjf,Xqj];by_cases h:a=z
  ·subst h;simp[Xjf]
  have h1:¬ (Value.int .i64 a=Value.int .i64 z):=by simpa using h
  rw[if_neg h1];have ih':Xqj (.int .i64 z) (.bool true) (r.map Xjf)=(if z∈r then r else r++[z]).map Xjf:=ih;rw[ih'];have h2:¬ z=a:=λe=>h e.symm;by_cases hz:z∈r<;>simp[hz,h2,Xjf]
theorem Xbd {Q:Xx->St->Mu->Prop} {μ:Mu} (b:Nat) (l:List Int) (hl:l.length<=140737488355328):∀ (xs:List Int) (k:Nat) (hx:l.drop k=xs) (ks:List Int)
  (C:X2 Tryz.prog 18 0 Q (.exit (.exit 0)) [] ⟨fr [(3,.sc (.map (some b)))],hp [],0⟩ ((b,(X7s ks xs).map Xjf)::μ)),
  X2 Tryz.prog 18 0 Q (.loop (X48 0 (Xa Tryz.f180))) [] ⟨fr [(3,.sc (.map (some b))),(7,AV.list false (List.map (aI .i64) l)),(8,aI .i64 (l.length:Int)),(9,aI .i64 (k:Int))],hp [],0⟩ ((b,ks.map Xjf)::μ):=by
 intro xs
 induction xs with
 |nil =>
  intro k hx ks C;have hk:=drop_nil hx;have hc:decide ((k:Int)<(l.length:Int))=false:=Yf om;refine X2.round ?_;refine rn tmD [Bf] rfl (by repeat' first|apply Ya|exact hc|exact oblA) ?_;exact X2.weakTo [] C rfl (by repeat' first|apply Ya|exact wkA) trivial
 |cons x xs ih =>
  intro k hx ks C;obtain⟨hk,hg,hx1⟩:=X12 hx;have hc:decide ((k:Int)<(l.length:Int))=true:=Yt om;refine X2.round ?_;refine rn tmD [Bt,.el (aI .i64 x)] rfl (by repeat' first|apply Ya|exact hc|exact ixm hg|exact oblA) ?_;refine X2.mapUpd (d:=.int .i64) X3 rfl rfl rfl rfl rfl Tryz.underlying3 rfl rfl rfl trivial trivial trivial rfl (by
   intro p hp;obtain⟨z,_,rfl⟩:=List.mem_map.1 hp;rfl) ?_
  rw[Xtb];refine X0e [] ?_;exact X2.weakTo [] (ih (k+1) hx1 (Xij ks x) C) rfl (by repeat' first|apply Ya|exact wkA) trivial
theorem X6w (a0:(List Int)) (r:Int) (h:X2t a0=some r):X0i Tryz.prog 180 [(Lf (List.map (aI .i64) a0))] (aI .i64 r):=by
 refine X0i.sym X3 X03n (nt:=18) rfl rfl ?_ (X0w .list X76);unfold X2t at h;refine X02g h ?_;clear h;intro u h1 h;have q1:=X13 h1;obtain rfl:=oj h;refine X0e [] ?_;refine X2.mapNew rfl rfl rfl λb=>?_;refine X0e [] ?_;refine X2.weakTo [] (X2.cut (Xbd b a0 q1 a0 0 (by simp) [] ?_)) rfl (by repeat' first|apply Ya|exact wkA) trivial;refine X2.glue ?_;refine X0e [] ?_;refine X2.mapLen X3 rfl rfl rfl rfl rfl rfl trivial ?_;rw[List.length_map];refine X0e [] ?_;exact Xlb rfl .sc
instance Xq6:PCs Tryz.prog 158 (∀ (a0:(List Int)) (a1:Bool) (r:Int),X24 a0 a1=some r->X0i Tryz.prog 158 [(Lf (List.map (aI .i64) a0)),(aB a1)] (aI .i64 r)):=⟨λa0 a1 r h=>by
 refine X0i.sym X3 X03z (nt:=30) rfl rfl ?_ okM;unfold X24 at h;revert h;refine brI (λh1=>λe=>oj e▸X7 [.el (aI .i64 (a0.length:Int)),Bt] (k:=fi)) λh1=>bI λXz5 h17=>rnI [.el (aI .i64 (a0.length:Int)),Bf,.stop 4] ?_;intro h;refine X2.join (s':=⟨fr [(0,(Lf (List.map (aI .i64) a0))),(24,(aB Xz5))],hp ([]),0⟩) ?_ (λJ=>X2.cut ?_)
 ·
  revert h;refine brI (λh18=>λe=>oj e▸X7 [Bt] (k:=fi)) λh18=>?_;refine bI λv19 h20=>brI (λh21=>?_) λh21=>?_
  ·
   exact λe=>oj e▸X7 [Bf,.pure [(Lf (List.map (aI .i64) a0))] (aI .i64 v19),.el (aI .i64 (a0.length:Int)),Bt] (o:=by repeat' first|apply Ya|exact pcM|exact(pn (X6w _ _ h20) (cc (X5k (X2c (λ_=>Xef) a0)) cn))|exact Xz) (k:=fi)
  exact λe=>oj e▸X7 [Bf,.pure [(Lf (List.map (aI .i64) a0))] (aI .i64 v19),.el (aI .i64 (a0.length:Int)),Bf] (o:=by repeat' first|apply Ya|exact pcM|exact(pn (X6w _ _ h20) (cc (X5k (X2c (λ_=>Xef) a0)) cn))|exact Xz) (k:=fi)
 clear h;revert h17;refine brI (λh10=>?_) λh10=>?_
 ·
  intro h;obtain rfl:=oj h;exact X7 [.el (aI .i64 (a0.length:Int)),Gf,Gf,Gf,Gf,Gf,Gf,Gf,Gf,Gf] (o:=by repeat' first|apply Ya|exact pcM|exact fq (Xg h10 rfl)|exact Xz) (k:=wkT [] (X2.glue J))
 refine brI (λh11=>?_) λh11=>?_
 ·
  refine brI (λh12=>?_) λh12=>?_
  ·
   intro h;obtain rfl:=oj h;exact X7 [.el (aI .i64 (a0.length:Int)),Gt,Gt,Gt,Gt,.el (aI .i64 (a0.length:Int)),Gt,Gt,Gf,Gf,Gf] (o:=by repeat' first|apply Ya|exact pcM|exact fq (Xr h10 (Xg h11 h12))|exact Xz) (k:=wkT [] (X2.glue J))
  refine bI λv13 h14=>?_;intro h;obtain rfl:=oj h;exact X7 [.el (aI .i64 (a0.length:Int)),Gt,Gt,Gt,Gt,.el (aI .i64 (a0.length:Int)),Gt,Gt,Gt,Gt,Gt,.pure [(Lf (List.map (aI .i64) a0)),(AV.fn 178 [])] (aB v13)] (o:=by repeat' first|apply Ya|exact pcM|exact fq (Xr h10 (Xg h11 h12))|exact(pn (X1q _ _ h14) (cc (X5k (X2c (λ_=>Xef) a0)) (cc .fn0 cn)))|exact Xz) (k:=wkT [] (X2.glue J))
 refine bI λv15 h16=>?_;intro h;obtain rfl:=oj h;exact X7 [.el (aI .i64 (a0.length:Int)),Gt,Gt,Gf,Gf,Gf,Gt,Gt,Gt,Gt,.pure [(Lf (List.map (aI .i64) a0)),(AV.fn 178 [])] (aB v15)] (o:=by repeat' first|apply Ya|exact pcM|exact fq (Xr h10 (Xr h11 rfl))|exact(pn (X1q _ _ h16) (cc (X5k (X2c (λ_=>Xef) a0)) (cc .fn0 cn)))|exact Xz) (k:=wkT [] (X2.glue J))⟩
instance X3w:PCs Tryz.prog 78 (∀ (a0:X0l) (r:Int),X14 a0=some r->X0i Tryz.prog 78 [(X33 a0)] (aI .i64 r)):=⟨λa0 r h=>by
 refine X0i.sym X3 fn78 (nt:=40) rfl rfl ?_ okM;unfold X14 at h;revert h;exact brI (λh1=>λe=>oj e▸X7 [Bt] (k:=fi)) λh1=>brI (λh2=>brI (λh3=>λe=>oj e▸X7 [Bf,Bt,.wrap,Bt] (k:=fi)) λh3=>λe=>oj e▸X7 [Bf,Bt,.wrap,Bf] (k:=fi)) λh2=>brI (λh4=>brI (λh5=>λe=>oj e▸X7 [Bf,Bf,Bt,Bt] (k:=fi)) λh5=>λe=>oj e▸X7 [Bf,Bf,Bt,Bf] (k:=fi)) λh4=>brI (λh6=>brI (λh7=>λe=>oj e▸X7 [Bf,Bf,Bf,Bt,Bt] (k:=fi)) λh7=>λe=>oj e▸X7 [Bf,Bf,Bf,Bt,Bf] (k:=fi)) λh6=>λe=>oj e▸X7 [Bf,Bf,Bf,Bf] (k:=fi)⟩
instance Xrw:PCs Tryz.prog 131 (∀ (a0:X08) (r:Int),X6x a0=some r->X0i Tryz.prog 131 [(X06 false a0)] (aI .i64 r)):=⟨λa0 r h=>by
 refine X0i.sym X3 X04e (nt:=66) rfl rfl ?_ okM;unfold X6x at h;revert h;refine brI (λh1=>λe=>oj e▸X7 [Bt] (k:=fi)) λh1=>?_;refine brI (λh2=>?_) λh2=>?_
 ·
  refine bI λv3 h4=>brI (λh5=>λe=>oj e▸X7 [Bf,Bt,.pure _ (aI .i64 v3),Bt] (k:=fi)) λh5=>?_;refine brI (λh6=>?_) λh6=>bI λv16 h17=>brI (λh18=>λe=>oj e▸X7 [Bf,Bt,.pure _ (aI .i64 v3),Bf,.el (aI .i64 (a0.Where.length:Int)),Bf,.pure _ (aI .i64 v16),Bt] (k:=fi)) λh18=>brI (λh19=>λe=>oj e▸X7 [Bf,Bt,.pure _ (aI .i64 v3),Bf,.el (aI .i64 (a0.Where.length:Int)),Bf,.pure _ (aI .i64 v16),Bf,Bt] (k:=fi)) λh19=>bI λv20 h21=>λe=>oj e▸X7 [Bf,Bt,.pure _ (aI .i64 v3),Bf,.el (aI .i64 (a0.Where.length:Int)),Bf,.pure _ (aI .i64 v16),Bf,Bf,.pure _ (aI .i64 v20)] (k:=fi);refine bI λv7 h8=>brI (λh9=>λe=>oj e▸X7 [Bf,Bt,.pure _ (aI .i64 v3),Bf,.el (aI .i64 (a0.Where.length:Int)),Bt,.pure _ (aI .i64 v7),Bt] (k:=fi)) λh9=>bI λv10 h11=>rnI [Bf,Bt,.pure _ (aI .i64 v3),Bf,.el (aI .i64 (a0.Where.length:Int)),Bt,.pure _ (aI .i64 v7),Bf,.pure _ (aI .i64 v10)] ?_;exact brI (λh12=>λe=>oj e▸X7 [Bt] (k:=fi)) λh12=>brI (λh13=>λe=>oj e▸X7 [Bf,Bt] (k:=fi)) λh13=>bI λv14 h15=>λe=>oj e▸X7 [Bf,Bf,.pure _ (aI .i64 v14)] (k:=fi)
 refine brI (λh22=>λe=>oj e▸X7 [Bf,Bf,.el (aI .i64 (a0.Arg.length:Int)),Bt] (k:=fi)) λh22=>?_;refine brI (λh23=>?_) λh23=>?_
 ·
  refine bI λv24 h25=>rnI [Bf,Bf,.el (aI .i64 (a0.Arg.length:Int)),Bf,.el (aI .i64 (a0.Where.length:Int)),Bt,.pure _ (aI .i64 v24)] ?_;exact brI (λh26=>λe=>oj e▸X7 [Bt] (k:=fi)) λh26=>bI λv27 h28=>brI (λh29=>λe=>oj e▸X7 [Bf,.pure _ (aI .i64 v27),Bt] (k:=fi)) λh29=>brI (λh30=>λe=>oj e▸X7 [Bf,.pure _ (aI .i64 v27),Bf,Bt] (k:=fi)) λh30=>bI λv31 h32=>λe=>oj e▸X7 [Bf,.pure _ (aI .i64 v27),Bf,Bf,.pure _ (aI .i64 v31)] (k:=fi)
 refine bI λv33 h34=>rnI [Bf,Bf,.el (aI .i64 (a0.Arg.length:Int)),Bf,.el (aI .i64 (a0.Where.length:Int)),Bf,.pure _ (aI .i64 v33)] ?_;exact brI (λh35=>λe=>oj e▸X7 [Bt] (k:=fi)) λh35=>brI (λh36=>λe=>oj e▸X7 [Bf,Bt] (k:=fi)) λh36=>bI λv37 h38=>λe=>oj e▸X7 [Bf,Bf,.pure _ (aI .i64 v37)] (k:=fi)⟩
theorem X4e {Q:Xx->St->Mu->Prop} {μ:Mu} (Xi:(List Bool)) (X6c:(V2 Bool)) (X0c:(List Int)) (Xq:Nb Xi) (hl:X0c.length<=140737488355328):∀ (xs:List Int) (k:Nat) (hx:X0c.drop k=xs) (o:X20) (h:X0b Xi X6c X0c xs k  = some o)
  (C0:o=X20.x0->X2 Tryz.prog 21 4 Q (.exit (.exit 0)) [] ⟨fr [],hp ([(0,Ob [(slE Xq.1 1 (Xi.map aB))] 1),(2,Ob [(X8d X6c)] 2),(3,Ob (List.map (aI .i64) X0c) 1)]++opE Xq.1 1 1 (Xi.map aB)),4⟩ μ)
  (C1:o=X20.x1->X2 Tryz.prog 21 4 Q (.exit .ret) [] ⟨fr [(5,(aB false))],hp ([(0,Ob [(slE Xq.1 1 (Xi.map aB))] 1),(2,Ob [(X8d X6c)] 2),(3,Ob (List.map (aI .i64) X0c) 1)]++opE Xq.1 1 1 (Xi.map aB)),4⟩ μ),
  X2 Tryz.prog 21 4 Q (.loop (X48 0 (Xa Tryz.f212))) [] ⟨fr [(0,(aB false)),(2,(AV.ptr 0 0 0)),(8,(AV.ref 3 0 (X0c.length))),(9,(aI .i64 (X0c.length:Int))),(10,(aI .i64 (k:Int)))],hp ([(0,Ob [(slE Xq.1 1 (Xi.map aB))] 1),(2,Ob [(X8d X6c)] 2),(3,Ob (List.map (aI .i64) X0c) 1)]++opE Xq.1 1 1 (Xi.map aB)),4⟩ μ:=by
 intro xs
 induction xs with
 |nil =>
  intro k hx  o h C0 C1;have hk:=drop_nil hx;have hc:decide ((k:Int)<(X0c.length:Int))=false:=Yf om;rw[X0b] at h;rcases Xq with ⟨_|_,X0f⟩<;>(try obtain rfl:=X0f rfl);all_goals
   refine X2.round ?_;revert h;exact λe=>X7 [Bf] (k:=wkT [] (C0  (oj e).symm))
 |cons x xs ih =>
  intro k hx  o h C0 C1;obtain⟨hk,hg,hx1⟩:=X12 hx;have hc:decide ((k:Int)<(X0c.length:Int))=true:=Yt om;rw[X0b] at h;rcases Xq with ⟨_|_,X0f⟩
  ·
   refine X2.round ?_;revert h;refine bI λe3011 h3012=>?_;try have qh3012:=Xo h3012
   refine brI (λh3013=>λe=>X7 [Bt,.el (aI .i64 x),.ld (aI .i64 x),.el (aB e3011),.ld (aB e3011),Bt] (k:=wkT [] (C1  (oj e).symm))) λh3013=>rnI [Bt,.el (aI .i64 x),.ld (aI .i64 x),.el (aB e3011),.ld (aB e3011),Bf] ?_;intro h;exact wkT [] (ih (k+1) hx1  o h C0 C1)
  obtain rfl:=X0f rfl;refine X2.round ?_;revert h;refine bI λe3014 h3015=>?_;try have qh3015:=Xo h3015
  intro h
  first|exact absurd (h3015) (by simp[X1o];done)|(simp[X1o,hc] at h;done)|(simp[hc] at hg;done)|exact absurd (h3015) (by simp[X1o,hc];done)
theorem X1k {Q:Xx->St->Mu->Prop} {μ:Mu} (Xi:(List Bool)) (X1h:(List Int)) (Xq:Nb Xi) (hl:X1h.length<=140737488355328):∀ (xs:List Int) (k:Nat) (hx:X1h.drop k=xs) (o:X1s) (h:X0d Xi X1h xs k  = some o)
  (C0:o=X1s.x0->X2 Tryz.prog 21 4 Q (.exit (.exit 0)) [] ⟨fr [],hp ([(0,Ob [(slE Xq.1 1 (Xi.map aB))] 1)]++opE Xq.1 1 1 (Xi.map aB)),4⟩ μ)
  (C1:o=X1s.x1->X2 Tryz.prog 21 4 Q (.exit .ret) [] ⟨fr [(5,(aB false))],hp ([(0,Ob [(slE Xq.1 1 (Xi.map aB))] 1)]++opE Xq.1 1 1 (Xi.map aB)),4⟩ μ),
  X2 Tryz.prog 21 4 Q (.loop (X48 0 (Xa Tryz.f212))) [] ⟨fr [(0,(aB true)),(2,(AV.ptr 0 0 0)),(8,(AV.ref 4 0 (X1h.length))),(9,(aI .i64 (X1h.length:Int))),(10,(aI .i64 (k:Int)))],hp ([(0,Ob [(slE Xq.1 1 (Xi.map aB))] 1),(4,Ob (List.map (aI .i64) X1h) 1)]++opE Xq.1 1 1 (Xi.map aB)),5⟩ μ:=by
 intro xs
 induction xs with
 |nil =>
  intro k hx  o h C0 C1;have hk:=drop_nil hx;have hc:decide ((k:Int)<(X1h.length:Int))=false:=Yf om;rw[X0d] at h;rcases Xq with ⟨_|_,X0f⟩<;>(try obtain rfl:=X0f rfl);all_goals
   refine X2.round ?_;revert h;exact λe=>X7 [Bf] (k:=wkT [] (C0  (oj e).symm))
 |cons x xs ih =>
  intro k hx  o h C0 C1;obtain⟨hk,hg,hx1⟩:=X12 hx;have hc:decide ((k:Int)<(X1h.length:Int))=true:=Yt om;rw[X0d] at h;rcases Xq with ⟨_|_,X0f⟩
  ·
   refine X2.round ?_;revert h;refine bI λe3127 h3128=>?_;try have qh3128:=Xo h3128
   refine brI (λh3129=>λe=>X7 [Bt,.el (aI .i64 x),.ld (aI .i64 x),.el (aB e3127),.ld (aB e3127),Bt] (k:=wkT [] (C1  (oj e).symm))) λh3129=>rnI [Bt,.el (aI .i64 x),.ld (aI .i64 x),.el (aB e3127),.ld (aB e3127),Bf] ?_;intro h;exact wkT [] (ih (k+1) hx1  o h C0 C1)
  obtain rfl:=X0f rfl;refine X2.round ?_;revert h;refine bI λe3130 h3131=>?_;try have qh3131:=Xo h3131
  intro h
  first|exact absurd (h3131) (by simp[X1o];done)|(simp[X1o,hc] at h;done)|(simp[hc] at hg;done)|exact absurd (h3131) (by simp[X1o,hc];done)
end Go.Av.Tryz