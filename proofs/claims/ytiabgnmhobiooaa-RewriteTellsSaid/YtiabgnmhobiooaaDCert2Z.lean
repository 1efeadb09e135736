/- Printed by decomp.py: that the program computes the functions. -/
import Derived.Test.YtiabgnmhobiooaaDCert1Z
set_option linter.all false

namespace Go.Av.Try
open Go.Proofs Go.D
set_option maxRecDepth 10000
set_option maxHeartbeats 40000000
instance Xpg:PCs Try.prog 69 (∀ (a0:(List X1)) (r:(List Xb)×Bool),X9i a0=some r->X0f Try.prog 69 [(Lf (a0.map X0))] (AV.tup [(Lt (r.1.map X5)),(aB r.2)])):=⟨λa0 r h=>by
 refine X0f.sym X8 Xx7 (nt:=105) rfl rfl ?_ okM;unfold X9i at h;revert h;refine bI λu1 h2=>?_;have qh2:=X1n h2;refine bI λo475 h476=>rnI [.el (aI .i64 (a0.length:Int))] ?_;intro h;refine wkT [] (X4.cut (Xc9 a0 qh2 a0 0 (by simp) _ _ nbS nbS _ h476 ?_ ?_))
 ·
  intro Xm Xs X0d X0g eo475;subst eo475;refine X4.glue ?_;try dsimp only at h
  rcases X0d with ⟨_|_,X2x⟩<;>(try obtain rfl:=X2x rfl);all_goals
   rcases X0g with ⟨_|_,X2w⟩
   ·
    revert h;exact λe=>oj e▸Xa [.el (aI .i64 (Xs.length:Int))] (k:=fi)
   obtain rfl:=X2w rfl;revert h;exact λe=>oj e▸Xa [.el (aI .i64 (List.length ([]:List Xb):Int))] (k:=fi)
 intro X00 X03 eo475;subst eo475;refine X4.glue ?_;try dsimp only at h
 rcases X03 with ⟨_|_,X2v⟩<;>(try obtain rfl:=X2v rfl);all_goals
  revert h;exact λe=>oj e▸Xa [] (k:=fi)⟩
instance Xof:PCs Try.prog 49 (∀ (a0:(List X1)) (r:(List Xb)×Int),X5k a0=some r->X0f Try.prog 49 [(Lf (a0.map X0))] (AV.tup [(Lt (r.1.map X5)),(aI .i64 r.2)])):=⟨λa0 r h=>by
 refine X0f.sym X8 Xxq (nt:=25) rfl rfl ?_ okM;unfold X5k at h;revert h;refine brI (λh1=>λe=>oj e▸Xa [.el (aI .i64 (a0.length:Int)),Bt] (k:=fi)) λh1=>bI λv2 h3=>brI (λh4=>λe=>oj e▸Xa [.el (aI .i64 (a0.length:Int)),Bf,.pure _ (AV.tup [(Lt (v2.1.map X5)),(aB v2.2)]),Bt] (k:=fi)) λh4=>bI λe5 h6=>?_;try have qh6:=Xf h6
 refine rnI [.el (aI .i64 (a0.length:Int)),Bf,.pure _ (AV.tup [(Lt (v2.1.map X5)),(aB v2.2)]),Bf,.el (aI .i64 (v2.1.length:Int)),.wrap,.el (X5 e5)] ?_;exact brI (λh7=>λe=>oj e▸Xa [Bt] (k:=fi)) λh7=>λe=>oj e▸Xa [Bf] (k:=fi)⟩
instance Xoh:PCs Try.prog 31 (∀ (a0:(List X1)) (r:Int),X1d a0=some r->X0f Try.prog 31 [(Lf (a0.map X0))] (aI .i64 r)):=⟨λa0 r h=>by
 refine X0f.sym X8 Xy6 (nt:=11) rfl rfl ?_ okM;unfold X1d at h;revert h;exact bI λv1 h2=>λe=>oj e▸Xa [.pure _ (AV.tup [(Lt (v1.1.map X5)),(aI .i64 v1.2)])] (k:=fi)⟩
instance Xhg:PCs Try.prog 50 (∀ (a0:Int) (r:Bool),X3z a0=some r->X0f Try.prog 50 [(aI .i64 a0)] (aB r)):=⟨λa0 r h=>by
 refine X0f.sym X8 Xxp (nt:=9) rfl rfl ?_ okM;unfold X3z at h;revert h;exact λe=>oj e▸Xa [] (k:=fi)⟩
theorem X5t {Q:Xr->St->Mu->Prop} {μ:Mu} (X0a:(List Int)) (hl:X0a.length<=140737488355328):∀ (xs:List Int) (k:Nat) (hx:X0a.drop k=xs) (o:X15) (h:X0b X0a xs k  = some o)
  (C0:o=X15.x0->X4 Try.prog 19 0 Q (.exit (.exit 0)) [] ⟨fr [],hp ([]),0⟩ μ)
  (C1:∀ (X7q:Int),o=X15.x1 X7q->X4 Try.prog 19 0 Q (.exit .ret) [] ⟨fr [(4,(aI .i64 X7q))],hp ([]),0⟩ μ),
  X4 Try.prog 19 0 Q (.loop (X5l 0 (Xe Try.f70))) [] ⟨fr [(0,(Lf (List.map (aI .i64) X0a))),(1,(AV.fn 50 [])),(7,(aI .i64 (X0a.length:Int))),(8,(aI .i64 (k:Int)))],hp ([]),0⟩ μ:=by
 intro xs
 induction xs with
 |nil =>
  intro k hx  o h C0 C1;have hk:=drop_nil hx;have hc:decide ((k:Int)<(X0a.length:Int))=false:=Yf om;rw[X0b] at h;refine X4.round ?_;revert h;exact λe=>Xa [Bf] (k:=wkT [] (C0  (oj e).symm))
 |cons x xs ih =>
  intro k hx  o h C0 C1;obtain⟨hk,hg,hx1⟩:=drop_cons hx;have hc:decide ((k:Int)<(X0a.length:Int))=true:=Yt om;rw[X0b] at h;refine X4.round ?_;revert h;refine bI λv10 h11=>brI (λh12=>λe=>Xa [Bt,.el (aI .i64 x),.pure _ (aB v10),Bt] (k:=wkT [] (C1 _  (oj e).symm))) λh12=>rnI [Bt,.el (aI .i64 x),.pure _ (aB v10),Bf] ?_;intro h;exact wkT [] (ih (k+1) hx1  o h C0 C1)
theorem X2s (a0:(List Int)) (r:Int) (h:X09 a0=some r):X0f Try.prog 70 [(Lf (List.map (aI .i64) a0)),(AV.fn 50 [])] (aI .i64 r):=by
 refine X0f.sym X8 Xx6 (nt:=19) rfl rfl ?_ okM;unfold X09 at h;revert h;refine bI λu1 h2=>?_;have qh2:=X1n h2;refine bI λo13 h14=>rnI [.el (aI .i64 (a0.length:Int))] ?_;intro h;refine wkT [] (X4.cut (X5t a0 qh2 a0 0 (by simp) _ h14 ?_ ?_))
 ·
  intro eo13;subst eo13;refine X4.glue ?_;try dsimp only at h
  revert h;exact λe=>oj e▸Xa [] (k:=fi)
 intro X7q eo13;subst eo13;refine X4.glue ?_;try dsimp only at h
 revert h;exact λe=>oj e▸Xa [] (k:=fi)
theorem X10 (a0:(List Int)) (r:Bool) (h:Xj a0=some r):X0f Try.prog 51 [(Lf (List.map (aI .i64) a0)),(AV.fn 50 [])] (aB r):=by
 refine X0f.sym X8 Xxo (nt:=9) rfl rfl ?_ okM;unfold Xj at h;revert h;exact bI λv1 h2=>λe=>oj e▸Xa [.pure [(Lf (List.map (aI .i64) a0)),(AV.fn 50 [])] (aI .i64 v1)] (o:=by repeat' first|apply Ya|exact pcM|exact(pn (X2s _ _ h2) (cc (X1m (X0c (λ_=>Xc1) a0)) (cc .fn0 cn)))|exact Xy) (k:=fi)
theorem Xm5 (z:Int):∀ (ks:List Int),Xk1 (.int .i64 z) (.bool true) (ks.map Xee)=(Xdr ks z).map Xee:=by
 intro ks;unfold Xdr
 induction ks with
 |nil=>simp[Xk1,Xee]
 |cons a r ih =>
  simp only[List.map_cons,Xee,Xk1];by_cases h:a=z
  ·subst h;simp[Xee]
  have h1:¬ (Value.int .i64 a=Value.int .i64 z):=by simpa using h
  rw[if_neg h1];have ih':Xk1 (.int .i64 z) (.bool true) (r.map Xee)=(if z∈r then r else r++[z]).map Xee:=ih;rw[ih'];have h2:¬ z=a:=λe=>h e.symm;by_cases hz:z∈r<;>simp[hz,h2,Xee]
theorem X8m {Q:Xr->St->Mu->Prop} {μ:Mu} (b:Nat) (l:List Int) (hl:l.length<=140737488355328):∀ (xs:List Int) (k:Nat) (hx:l.drop k=xs) (ks:List Int)
  (C:X4 Try.prog 18 0 Q (.exit (.exit 0)) [] ⟨fr [(3,.sc (.map (some b)))],hp [],0⟩ ((b,(X60 ks xs).map Xee)::μ)),
  X4 Try.prog 18 0 Q (.loop (X5l 0 (Xe Try.f52))) [] ⟨fr [(3,.sc (.map (some b))),(7,AV.list false (List.map (aI .i64) l)),(8,aI .i64 (l.length:Int)),(9,aI .i64 (k:Int))],hp [],0⟩ ((b,ks.map Xee)::μ):=by
 intro xs
 induction xs with
 |nil =>
  intro k hx ks C;have hk:=drop_nil hx;have hc:decide ((k:Int)<(l.length:Int))=false:=Yf om;refine X4.round ?_;refine rn tmD [Bf] rfl (by repeat' first|apply Ya|exact hc|exact Xvg) ?_;exact X4.weakTo [] C rfl (by repeat' first|apply Ya|exact wkA) trivial
 |cons x xs ih =>
  intro k hx ks C;obtain⟨hk,hg,hx1⟩:=drop_cons hx;have hc:decide ((k:Int)<(l.length:Int))=true:=Yt om;refine X4.round ?_;refine rn tmD [Bt,.el (aI .i64 x)] rfl (by repeat' first|apply Ya|exact hc|exact ixm hg|exact Xvg) ?_;refine X4.mapUpd (d:=.int .i64) X8 rfl rfl rfl rfl rfl Try.underlying3 rfl rfl rfl trivial trivial trivial rfl (by
   intro p hp;obtain⟨z,_,rfl⟩:=List.mem_map.1 hp;rfl) ?_
  rw[Xm5];refine X29 [] ?_;exact X4.weakTo [] (ih (k+1) hx1 (Xdr ks x) C) rfl (by repeat' first|apply Ya|exact wkA) trivial
theorem X51 (a0:(List Int)) (r:Int) (h:X21 a0=some r):X0f Try.prog 52 [(Lf (List.map (aI .i64) a0))] (aI .i64 r):=by
 refine X0f.sym X8 Xxn (nt:=18) rfl rfl ?_ (X0q .list X61);unfold X21 at h;refine Xuu h ?_;clear h;intro u h1 h;have q1:=X1n h1;obtain rfl:=oj h;refine X29 [] ?_;refine X4.mapNew rfl rfl rfl λb=>?_;refine X29 [] ?_;refine X4.weakTo [] (X4.cut (X8m b a0 q1 a0 0 (by simp) [] ?_)) rfl (by repeat' first|apply Ya|exact wkA) trivial;refine X4.glue ?_;refine X29 [] ?_;refine X4.mapLen X8 rfl rfl rfl rfl rfl rfl trivial ?_;rw[List.length_map];refine X29 [] ?_;exact Xn3 rfl .sc
instance Xjt:PCs Try.prog 32 (∀ (a0:(List Int)) (a1:Bool) (r:Int),X1i a0 a1=some r->X0f Try.prog 32 [(Lf (List.map (aI .i64) a0)),(aB a1)] (aI .i64 r)):=⟨λa0 a1 r h=>by
 refine X0f.sym X8 Xy5 (nt:=30) rfl rfl ?_ okM;unfold X1i at h;revert h;refine brI (λh1=>λe=>oj e▸Xa [.el (aI .i64 (a0.length:Int)),Bt] (k:=fi)) λh1=>bI λXsb h17=>rnI [.el (aI .i64 (a0.length:Int)),Bf,.stop 4] ?_;intro h;refine X4.join (s':=⟨fr [(0,(Lf (List.map (aI .i64) a0))),(24,(aB Xsb))],hp ([]),0⟩) ?_ (λJ=>X4.cut ?_)
 ·
  revert h;refine brI (λh18=>λe=>oj e▸Xa [Bt] (k:=fi)) λh18=>?_;refine bI λv19 h20=>brI (λh21=>?_) λh21=>?_
  ·
   exact λe=>oj e▸Xa [Bf,.pure [(Lf (List.map (aI .i64) a0))] (aI .i64 v19),.el (aI .i64 (a0.length:Int)),Bt] (o:=by repeat' first|apply Ya|exact pcM|exact(pn (X51 _ _ h20) (cc (X1m (X0c (λ_=>Xc1) a0)) cn))|exact Xy) (k:=fi)
  exact λe=>oj e▸Xa [Bf,.pure [(Lf (List.map (aI .i64) a0))] (aI .i64 v19),.el (aI .i64 (a0.length:Int)),Bf] (o:=by repeat' first|apply Ya|exact pcM|exact(pn (X51 _ _ h20) (cc (X1m (X0c (λ_=>Xc1) a0)) cn))|exact Xy) (k:=fi)
 clear h;revert h17;refine brI (λh10=>?_) λh10=>?_
 ·
  intro h;obtain rfl:=oj h;exact Xa [.el (aI .i64 (a0.length:Int)),Gf,Gf,Gf,Gf,Gf,Gf,Gf,Gf,Gf] (o:=by repeat' first|apply Ya|exact pcM|exact fq (Xl h10 rfl)|exact Xy) (k:=wkT [] (X4.glue J))
 refine brI (λh11=>?_) λh11=>?_
 ·
  refine brI (λh12=>?_) λh12=>?_
  ·
   intro h;obtain rfl:=oj h;exact Xa [.el (aI .i64 (a0.length:Int)),Gt,Gt,Gt,Gt,.el (aI .i64 (a0.length:Int)),Gt,Gt,Gf,Gf,Gf] (o:=by repeat' first|apply Ya|exact pcM|exact fq (Xo h10 (Xl h11 h12))|exact Xy) (k:=wkT [] (X4.glue J))
  refine bI λv13 h14=>?_;intro h;obtain rfl:=oj h;exact Xa [.el (aI .i64 (a0.length:Int)),Gt,Gt,Gt,Gt,.el (aI .i64 (a0.length:Int)),Gt,Gt,Gt,Gt,Gt,.pure [(Lf (List.map (aI .i64) a0)),(AV.fn 50 [])] (aB v13)] (o:=by repeat' first|apply Ya|exact pcM|exact fq (Xo h10 (Xl h11 h12))|exact(pn (X10 _ _ h14) (cc (X1m (X0c (λ_=>Xc1) a0)) (cc .fn0 cn)))|exact Xy) (k:=wkT [] (X4.glue J))
 refine bI λv15 h16=>?_;intro h;obtain rfl:=oj h;exact Xa [.el (aI .i64 (a0.length:Int)),Gt,Gt,Gf,Gf,Gf,Gt,Gt,Gt,Gt,.pure [(Lf (List.map (aI .i64) a0)),(AV.fn 50 [])] (aB v15)] (o:=by repeat' first|apply Ya|exact pcM|exact fq (Xo h10 (Xo h11 rfl))|exact(pn (X10 _ _ h16) (cc (X1m (X0c (λ_=>Xc1) a0)) (cc .fn0 cn)))|exact Xy) (k:=wkT [] (X4.glue J))⟩
instance X82:PCs Try.prog 33 (∀ (a0:X3) (r:Int),X0v a0=some r->X0f Try.prog 33 [(X5o a0)] (aI .i64 r)):=⟨λa0 r h=>by
 refine X0f.sym X8 Xy4 (nt:=40) rfl rfl ?_ okM;unfold X0v at h;revert h;exact brI (λh1=>λe=>oj e▸Xa [Bt] (k:=fi)) λh1=>brI (λh2=>brI (λh3=>λe=>oj e▸Xa [Bf,Bt,.wrap,Bt] (k:=fi)) λh3=>λe=>oj e▸Xa [Bf,Bt,.wrap,Bf] (k:=fi)) λh2=>brI (λh4=>brI (λh5=>λe=>oj e▸Xa [Bf,Bf,Bt,Bt] (k:=fi)) λh5=>λe=>oj e▸Xa [Bf,Bf,Bt,Bf] (k:=fi)) λh4=>brI (λh6=>brI (λh7=>λe=>oj e▸Xa [Bf,Bf,Bf,Bt,Bt] (k:=fi)) λh7=>λe=>oj e▸Xa [Bf,Bf,Bf,Bt,Bf] (k:=fi)) λh6=>λe=>oj e▸Xa [Bf,Bf,Bf,Bf] (k:=fi)⟩
instance Xks:PCs Try.prog 18 (∀ (a0:X2) (r:Int),X52 a0=some r->X0f Try.prog 18 [(X7 false a0)] (aI .i64 r)):=⟨λa0 r h=>by
 refine X0f.sym X8 Xyj (nt:=66) rfl rfl ?_ okM;unfold X52 at h;revert h;refine brI (λh1=>λe=>oj e▸Xa [Bt] (k:=fi)) λh1=>?_;refine brI (λh2=>?_) λh2=>?_
 ·
  refine bI λv3 h4=>brI (λh5=>λe=>oj e▸Xa [Bf,Bt,.pure _ (aI .i64 v3),Bt] (k:=fi)) λh5=>?_;refine brI (λh6=>?_) λh6=>bI λv16 h17=>brI (λh18=>λe=>oj e▸Xa [Bf,Bt,.pure _ (aI .i64 v3),Bf,.el (aI .i64 (a0.Where.length:Int)),Bf,.pure _ (aI .i64 v16),Bt] (k:=fi)) λh18=>brI (λh19=>λe=>oj e▸Xa [Bf,Bt,.pure _ (aI .i64 v3),Bf,.el (aI .i64 (a0.Where.length:Int)),Bf,.pure _ (aI .i64 v16),Bf,Bt] (k:=fi)) λh19=>bI λv20 h21=>λe=>oj e▸Xa [Bf,Bt,.pure _ (aI .i64 v3),Bf,.el (aI .i64 (a0.Where.length:Int)),Bf,.pure _ (aI .i64 v16),Bf,Bf,.pure _ (aI .i64 v20)] (k:=fi);refine bI λv7 h8=>brI (λh9=>λe=>oj e▸Xa [Bf,Bt,.pure _ (aI .i64 v3),Bf,.el (aI .i64 (a0.Where.length:Int)),Bt,.pure _ (aI .i64 v7),Bt] (k:=fi)) λh9=>bI λv10 h11=>rnI [Bf,Bt,.pure _ (aI .i64 v3),Bf,.el (aI .i64 (a0.Where.length:Int)),Bt,.pure _ (aI .i64 v7),Bf,.pure _ (aI .i64 v10)] ?_;exact brI (λh12=>λe=>oj e▸Xa [Bt] (k:=fi)) λh12=>brI (λh13=>λe=>oj e▸Xa [Bf,Bt] (k:=fi)) λh13=>bI λv14 h15=>λe=>oj e▸Xa [Bf,Bf,.pure _ (aI .i64 v14)] (k:=fi)
 refine brI (λh22=>λe=>oj e▸Xa [Bf,Bf,.el (aI .i64 (a0.Arg.length:Int)),Bt] (k:=fi)) λh22=>?_;refine brI (λh23=>?_) λh23=>?_
 ·
  refine bI λv24 h25=>rnI [Bf,Bf,.el (aI .i64 (a0.Arg.length:Int)),Bf,.el (aI .i64 (a0.Where.length:Int)),Bt,.pure _ (aI .i64 v24)] ?_;exact brI (λh26=>λe=>oj e▸Xa [Bt] (k:=fi)) λh26=>bI λv27 h28=>brI (λh29=>λe=>oj e▸Xa [Bf,.pure _ (aI .i64 v27),Bt] (k:=fi)) λh29=>brI (λh30=>λe=>oj e▸Xa [Bf,.pure _ (aI .i64 v27),Bf,Bt] (k:=fi)) λh30=>bI λv31 h32=>λe=>oj e▸Xa [Bf,.pure _ (aI .i64 v27),Bf,Bf,.pure _ (aI .i64 v31)] (k:=fi)
 refine bI λv33 h34=>rnI [Bf,Bf,.el (aI .i64 (a0.Arg.length:Int)),Bf,.el (aI .i64 (a0.Where.length:Int)),Bf,.pure _ (aI .i64 v33)] ?_;exact brI (λh35=>λe=>oj e▸Xa [Bt] (k:=fi)) λh35=>brI (λh36=>λe=>oj e▸Xa [Bf,Bt] (k:=fi)) λh36=>bI λv37 h38=>λe=>oj e▸Xa [Bf,Bf,.pure _ (aI .i64 v37)] (k:=fi)⟩
theorem X38 {Q:Xr->St->Mu->Prop} {μ:Mu} (Xc:(List Bool)) (X8u:(V2 Bool)) (X6b:(List Int)) (Xk:Nb Xc) (hl:X6b.length<=140737488355328):∀ (xs:List Int) (k:Nat) (hx:X6b.drop k=xs) (o:X18) (h:Xu Xc X8u X6b xs k  = some o)
  (C0:o=X18.x0->X4 Try.prog 21 4 Q (.exit (.exit 0)) [] ⟨fr [],hp ([(0,Ob [(slE Xk.1 1 (Xc.map aB))] 1),(2,Ob [(X6i X8u)] 2),(3,Ob (List.map (aI .i64) X6b) 1)]++opE Xk.1 1 1 (Xc.map aB)),4⟩ μ)
  (C1:o=X18.x1->X4 Try.prog 21 4 Q (.exit .ret) [] ⟨fr [(5,(aB false))],hp ([(0,Ob [(slE Xk.1 1 (Xc.map aB))] 1),(2,Ob [(X6i X8u)] 2),(3,Ob (List.map (aI .i64) X6b) 1)]++opE Xk.1 1 1 (Xc.map aB)),4⟩ μ),
  X4 Try.prog 21 4 Q (.loop (X5l 0 (Xe Try.f77))) [] ⟨fr [(0,(aB false)),(2,(AV.ptr 0 0 0)),(8,(AV.ref 3 0 (X6b.length))),(9,(aI .i64 (X6b.length:Int))),(10,(aI .i64 (k:Int)))],hp ([(0,Ob [(slE Xk.1 1 (Xc.map aB))] 1),(2,Ob [(X6i X8u)] 2),(3,Ob (List.map (aI .i64) X6b) 1)]++opE Xk.1 1 1 (Xc.map aB)),4⟩ μ:=by
 intro xs
 induction xs with
 |nil =>
  intro k hx  o h C0 C1;have hk:=drop_nil hx;have hc:decide ((k:Int)<(X6b.length:Int))=false:=Yf om;rw[Xu] at h;rcases Xk with ⟨_|_,X0i⟩<;>(try obtain rfl:=X0i rfl);all_goals
   refine X4.round ?_;revert h;exact λe=>Xa [Bf] (k:=wkT [] (C0  (oj e).symm))
 |cons x xs ih =>
  intro k hx  o h C0 C1;obtain⟨hk,hg,hx1⟩:=drop_cons hx;have hc:decide ((k:Int)<(X6b.length:Int))=true:=Yt om;rw[Xu] at h;rcases Xk with ⟨_|_,X0i⟩
  ·
   refine X4.round ?_;revert h;refine bI λe3011 h3012=>?_;try have qh3012:=Xf h3012
   refine brI (λh3013=>λe=>Xa [Bt,.el (aI .i64 x),.ld (aI .i64 x),.el (aB e3011),.ld (aB e3011),Bt] (k:=wkT [] (C1  (oj e).symm))) λh3013=>rnI [Bt,.el (aI .i64 x),.ld (aI .i64 x),.el (aB e3011),.ld (aB e3011),Bf] ?_;intro h;exact wkT [] (ih (k+1) hx1  o h C0 C1)
  obtain rfl:=X0i rfl;refine X4.round ?_;revert h;refine bI λe3014 h3015=>?_;try have qh3015:=Xf h3015
  intro h
  first|exact absurd (h3015) (by simp[getI];done)|(simp[getI,hc] at h;done)|(simp[hc] at hg;done)|exact absurd (h3015) (by simp[getI,hc];done)
theorem X0x {Q:Xr->St->Mu->Prop} {μ:Mu} (Xc:(List Bool)) (Xe2:(List Int)) (Xk:Nb Xc) (hl:Xe2.length<=140737488355328):∀ (xs:List Int) (k:Nat) (hx:Xe2.drop k=xs) (o:X11) (h:Xv Xc Xe2 xs k  = some o)
  (C0:o=X11.x0->X4 Try.prog 21 4 Q (.exit (.exit 0)) [] ⟨fr [],hp ([(0,Ob [(slE Xk.1 1 (Xc.map aB))] 1)]++opE Xk.1 1 1 (Xc.map aB)),4⟩ μ)
  (C1:o=X11.x1->X4 Try.prog 21 4 Q (.exit .ret) [] ⟨fr [(5,(aB false))],hp ([(0,Ob [(slE Xk.1 1 (Xc.map aB))] 1)]++opE Xk.1 1 1 (Xc.map aB)),4⟩ μ),
  X4 Try.prog 21 4 Q (.loop (X5l 0 (Xe Try.f77))) [] ⟨fr [(0,(aB true)),(2,(AV.ptr 0 0 0)),(8,(AV.ref 4 0 (Xe2.length))),(9,(aI .i64 (Xe2.length:Int))),(10,(aI .i64 (k:Int)))],hp ([(0,Ob [(slE Xk.1 1 (Xc.map aB))] 1),(4,Ob (List.map (aI .i64) Xe2) 1)]++opE Xk.1 1 1 (Xc.map aB)),5⟩ μ:=by
 intro xs
 induction xs with
 |nil =>
  intro k hx  o h C0 C1;have hk:=drop_nil hx;have hc:decide ((k:Int)<(Xe2.length:Int))=false:=Yf om;rw[Xv] at h;rcases Xk with ⟨_|_,X0i⟩<;>(try obtain rfl:=X0i rfl);all_goals
   refine X4.round ?_;revert h;exact λe=>Xa [Bf] (k:=wkT [] (C0  (oj e).symm))
 |cons x xs ih =>
  intro k hx  o h C0 C1;obtain⟨hk,hg,hx1⟩:=drop_cons hx;have hc:decide ((k:Int)<(Xe2.length:Int))=true:=Yt om;rw[Xv] at h;rcases Xk with ⟨_|_,X0i⟩
  ·
   refine X4.round ?_;revert h;refine bI λe3127 h3128=>?_;try have qh3128:=Xf h3128
   refine brI (λh3129=>λe=>Xa [Bt,.el (aI .i64 x),.ld (aI .i64 x),.el (aB e3127),.ld (aB e3127),Bt] (k:=wkT [] (C1  (oj e).symm))) λh3129=>rnI [Bt,.el (aI .i64 x),.ld (aI .i64 x),.el (aB e3127),.ld (aB e3127),Bf] ?_;intro h;exact wkT [] (ih (k+1) hx1  o h C0 C1)
  obtain rfl:=X0i rfl;refine X4.round ?_;revert h;refine bI λe3130 h3131=>?_;try have qh3131:=Xf h3131
  intro h
  first|exact absurd (h3131) (by simp[getI];done)|(simp[getI,hc] at h;done)|(simp[hc] at hg;done)|exact absurd (h3131) (by simp[getI,hc];done)
end Go.Av.Try