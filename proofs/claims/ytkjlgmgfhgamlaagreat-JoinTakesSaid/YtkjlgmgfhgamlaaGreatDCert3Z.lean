/- Printed by decomp.py: that the program computes the functions. -/
import Derived.Test.YtkjlgmgfhgamlaaGreatDCert2Z
set_option linter.all false

namespace Go.Av.Tryz
open Go.Proofs Go.D
set_option maxRecDepth 10000
set_option maxHeartbeats 40000000
instance X03b:PCs Tryz.prog 197 (∀ (a0:(List X0f)) (r:(List Xi)×Bool),Xfg a0=some r->X0b Tryz.prog 197 [(Lf (a0.map X4))] (AV.tup [(Lt (r.1.map X9)),(aB r.2)])):=⟨λa0 r h=>by
 refine X0b.sym X3 X0bw (nt:=105) rfl rfl ?_ okM;unfold Xfg at h;revert h;refine bI λu1 h2=>?_;have qh2:=X0v h2;refine bI λo475 h476=>rnI [.el (aI .i64 (a0.length:Int))] ?_;intro h;refine wkT [] (X2.cut (Xk7 a0 qh2 a0 0 (by simp) _ _ nbS nbS _ h476 ?_ ?_))
 ·
  intro Xq X0m X06 X0q eo475;subst eo475;refine X2.glue ?_;try dsimp only at h
  rcases X06 with ⟨_|_,X29⟩<;>(try obtain rfl:=X29 rfl);all_goals
   rcases X0q with ⟨_|_,X3c⟩
   ·
    revert h;exact λe=>oj e▸X6 [.el (aI .i64 (X0m.length:Int))] (k:=fi)
   obtain rfl:=X3c rfl;revert h;exact λe=>oj e▸X6 [.el (aI .i64 (List.length ([]:List Xi):Int))] (k:=fi)
 intro X1l X1h eo475;subst eo475;refine X2.glue ?_;try dsimp only at h
 rcases X1h with ⟨_|_,X63⟩<;>(try obtain rfl:=X63 rfl);all_goals
  revert h;exact λe=>oj e▸X6 [] (k:=fi)⟩
instance X01r:PCs Tryz.prog 177 (∀ (a0:(List X0f)) (r:(List Xi)×Int),Xbh a0=some r->X0b Tryz.prog 177 [(Lf (a0.map X4))] (AV.tup [(Lt (r.1.map X9)),(aI .i64 r.2)])):=⟨λa0 r h=>by
 refine X0b.sym X3 X0c6 (nt:=25) rfl rfl ?_ okM;unfold Xbh at h;revert h;refine brI (λh1=>λe=>oj e▸X6 [.el (aI .i64 (a0.length:Int)),Bt] (k:=fi)) λh1=>bI λv2 h3=>brI (λh4=>λe=>oj e▸X6 [.el (aI .i64 (a0.length:Int)),Bf,.pure _ (AV.tup [(Lt (v2.1.map X9)),(aB v2.2)]),Bt] (k:=fi)) λh4=>bI λe5 h6=>?_;try have qh6:=Xl h6
 refine rnI [.el (aI .i64 (a0.length:Int)),Bf,.pure _ (AV.tup [(Lt (v2.1.map X9)),(aB v2.2)]),Bf,.el (aI .i64 (v2.1.length:Int)),.wrap,.el (X9 e5)] ?_;exact brI (λh7=>λe=>oj e▸X6 [Bt] (k:=fi)) λh7=>λe=>oj e▸X6 [Bf] (k:=fi)⟩
instance X01t:PCs Tryz.prog 157 (∀ (a0:(List X0f)) (r:Int),X5s a0=some r->X0b Tryz.prog 157 [(Lf (a0.map X4))] (aI .i64 r)):=⟨λa0 r h=>by
 refine X0b.sym X3 X0cl (nt:=11) rfl rfl ?_ okM;unfold X5s at h;revert h;exact bI λv1 h2=>λe=>oj e▸X6 [.pure _ (AV.tup [(Lt (v1.1.map X9)),(aI .i64 v1.2)])] (k:=fi)⟩
instance Xr0:PCs Tryz.prog 178 (∀ (a0:Int) (r:Bool),X66 a0=some r->X0b Tryz.prog 178 [(aI .i64 a0)] (aB r)):=⟨λa0 r h=>by
 refine X0b.sym X3 X0c5 (nt:=9) rfl rfl ?_ okM;unfold X66 at h;revert h;exact λe=>oj e▸X6 [] (k:=fi)⟩
theorem X9i {Q:X03->St->Mu->Prop} {μ:Mu} (X0c:(List Int)) (hl:X0c.length<=140737488355328):∀ (xs:List Int) (k:Nat) (hx:X0c.drop k=xs) (o:X23) (h:X0t X0c xs k  = some o)
  (C0:o=X23.x0->X2 Tryz.prog 19 0 Q (.exit (.exit 0)) [] ⟨fr [],hp ([]),0⟩ μ)
  (C1:∀ (Xbx:Int),o=X23.x1 Xbx->X2 Tryz.prog 19 0 Q (.exit .ret) [] ⟨fr [(4,(aI .i64 Xbx))],hp ([]),0⟩ μ),
  X2 Tryz.prog 19 0 Q (.loop (X2o 0 (Xd Tryz.f198))) [] ⟨fr [(0,(Lf (List.map (aI .i64) X0c))),(1,(AV.fn 178 [])),(7,(aI .i64 (X0c.length:Int))),(8,(aI .i64 (k:Int)))],hp ([]),0⟩ μ:=by
 intro xs
 induction xs with
 |nil =>
  intro k hx  o h C0 C1;have hk:=X1g hx;have hc:decide ((k:Int)<(X0c.length:Int))=false:=Yf om;rw[X0t] at h;refine X2.round ?_;revert h;exact λe=>X6 [Bf] (k:=wkT [] (C0  (oj e).symm))
 |cons x xs ih =>
  intro k hx  o h C0 C1;obtain⟨hk,hg,hx1⟩:=X0u hx;have hc:decide ((k:Int)<(X0c.length:Int))=true:=Yt om;rw[X0t] at h;refine X2.round ?_;revert h;refine bI λv10 h11=>brI (λh12=>λe=>X6 [Bt,.el (aI .i64 x),.pure _ (aB v10),Bt] (k:=wkT [] (C1 _  (oj e).symm))) λh12=>rnI [Bt,.el (aI .i64 x),.pure _ (aB v10),Bf] ?_;intro h;exact wkT [] (ih (k+1) hx1  o h C0 C1)
theorem X4e (a0:(List Int)) (r:Int) (h:X0s a0=some r):X0b Tryz.prog 198 [(Lf (List.map (aI .i64) a0)),(AV.fn 178 [])] (aI .i64 r):=by
 refine X0b.sym X3 X0bv (nt:=19) rfl rfl ?_ okM;unfold X0s at h;revert h;refine bI λu1 h2=>?_;have qh2:=X0v h2;refine bI λo13 h14=>rnI [.el (aI .i64 (a0.length:Int))] ?_;intro h;refine wkT [] (X2.cut (X9i a0 qh2 a0 0 (by simp) _ h14 ?_ ?_))
 ·
  intro eo13;subst eo13;refine X2.glue ?_;try dsimp only at h
  revert h;exact λe=>oj e▸X6 [] (k:=fi)
 intro Xbx eo13;subst eo13;refine X2.glue ?_;try dsimp only at h
 revert h;exact λe=>oj e▸X6 [] (k:=fi)
theorem X20 (a0:(List Int)) (r:Bool) (h:X04 a0=some r):X0b Tryz.prog 179 [(Lf (List.map (aI .i64) a0)),(AV.fn 178 [])] (aB r):=by
 refine X0b.sym X3 X0c4 (nt:=9) rfl rfl ?_ okM;unfold X04 at h;revert h;exact bI λv1 h2=>λe=>oj e▸X6 [.pure [(Lf (List.map (aI .i64) a0)),(AV.fn 178 [])] (aI .i64 v1)] (o:=by repeat' first|apply Ya|exact pcM|exact(pn (X4e _ _ h2) (cc (X6a (X16 (λ_=>Xf3) a0)) (cc .fn0 cn)))|exact Xu) (k:=fi)
theorem Xyu (z:Int):∀ (ks:List Int),Xuy (.int .i64 z) (.bool true) (ks.map Xmx)=(Xm2 ks z).map Xmx:=by
 intro ks;unfold Xm2
 induction ks with
 |nil=>simp[Xuy,Xmx]
 |cons a r ih =>
  simp only[List.map_cons,Xmx,Xuy];by_cases h:a=z
  ·subst h;simp[Xmx]
  have h1:¬ (Value.int .i64 a=Value.int .i64 z):=by simpa using h
  rw[if_neg h1];have ih':Xuy (.int .i64 z) (.bool true) (r.map Xmx)=(if z∈r then r else r++[z]).map Xmx:=ih;rw[ih'];have h2:¬ z=a:=λe=>h e.symm;by_cases hz:z∈r<;>simp[hz,h2,Xmx]
theorem Xdu {Q:X03->St->Mu->Prop} {μ:Mu} (b:Nat) (l:List Int) (hl:l.length<=140737488355328):∀ (xs:List Int) (k:Nat) (hx:l.drop k=xs) (ks:List Int)
  (C:X2 Tryz.prog 18 0 Q (.exit (.exit 0)) [] ⟨fr [(3,.sc (.map (some b)))],hp [],0⟩ ((b,(X9l ks xs).map Xmx)::μ)),
  X2 Tryz.prog 18 0 Q (.loop (X2o 0 (Xd Tryz.f180))) [] ⟨fr [(3,.sc (.map (some b))),(7,AV.list false (List.map (aI .i64) l)),(8,aI .i64 (l.length:Int)),(9,aI .i64 (k:Int))],hp [],0⟩ ((b,ks.map Xmx)::μ):=by
 intro xs
 induction xs with
 |nil =>
  intro k hx ks C;have hk:=X1g hx;have hc:decide ((k:Int)<(l.length:Int))=false:=Yf om;refine X2.round ?_;refine rn tmD [Bf] rfl (by repeat' first|apply Ya|exact hc|exact oblA) ?_;exact X2.weakTo [] C rfl (by repeat' first|apply Ya|exact wkA) trivial
 |cons x xs ih =>
  intro k hx ks C;obtain⟨hk,hg,hx1⟩:=X0u hx;have hc:decide ((k:Int)<(l.length:Int))=true:=Yt om;refine X2.round ?_;refine rn tmD [Bt,.el (aI .i64 x)] rfl (by repeat' first|apply Ya|exact hc|exact ixm hg|exact oblA) ?_;refine X2.mapUpd (d:=.int .i64) X3 rfl rfl rfl rfl rfl Tryz.underlying3 rfl rfl rfl trivial trivial trivial rfl (by
   intro p hp;obtain⟨z,_,rfl⟩:=List.mem_map.1 hp;rfl) ?_
  rw[Xyu];refine X0j [] ?_;exact X2.weakTo [] (ih (k+1) hx1 (Xm2 ks x) C) rfl (by repeat' first|apply Ya|exact wkA) trivial
theorem X8a (a0:(List Int)) (r:Int) (h:X37 a0=some r):X0b Tryz.prog 180 [(Lf (List.map (aI .i64) a0))] (aI .i64 r):=by
 refine X0b.sym X3 X0c3 (nt:=18) rfl rfl ?_ (X0z .list X8i);unfold X37 at h;refine X0ah h ?_;clear h;intro u h1 h;have q1:=X0v h1;obtain rfl:=oj h;refine X0j [] ?_;refine X2.mapNew rfl rfl rfl λb=>?_;refine X0j [] ?_;refine X2.weakTo [] (X2.cut (Xdu b a0 q1 a0 0 (by simp) [] ?_)) rfl (by repeat' first|apply Ya|exact wkA) trivial;refine X2.glue ?_;refine X0j [] ?_;refine X2.mapLen X3 rfl rfl rfl rfl rfl rfl trivial ?_;rw[List.length_map];refine X0j [] ?_;exact Xp2 rfl .sc
instance Xum:PCs Tryz.prog 158 (∀ (a0:(List Int)) (a1:Bool) (r:Int),X2f a0 a1=some r->X0b Tryz.prog 158 [(Lf (List.map (aI .i64) a0)),(aB a1)] (aI .i64 r)):=⟨λa0 a1 r h=>by
 refine X0b.sym X3 X0ck (nt:=30) rfl rfl ?_ okM;unfold X2f at h;revert h;refine brI (λh1=>λe=>oj e▸X6 [.el (aI .i64 (a0.length:Int)),Bt] (k:=fi)) λh1=>bI λX06m h17=>rnI [.el (aI .i64 (a0.length:Int)),Bf,.stop 4] ?_;intro h;refine X2.join (s':=⟨fr [(0,(Lf (List.map (aI .i64) a0))),(24,(aB X06m))],hp ([]),0⟩) ?_ (λJ=>X2.cut ?_)
 ·
  revert h;refine brI (λh18=>λe=>oj e▸X6 [Bt] (k:=fi)) λh18=>?_;refine bI λv19 h20=>brI (λh21=>?_) λh21=>?_
  ·
   exact λe=>oj e▸X6 [Bf,.pure [(Lf (List.map (aI .i64) a0))] (aI .i64 v19),.el (aI .i64 (a0.length:Int)),Bt] (o:=by repeat' first|apply Ya|exact pcM|exact(pn (X8a _ _ h20) (cc (X6a (X16 (λ_=>Xf3) a0)) cn))|exact Xu) (k:=fi)
  exact λe=>oj e▸X6 [Bf,.pure [(Lf (List.map (aI .i64) a0))] (aI .i64 v19),.el (aI .i64 (a0.length:Int)),Bf] (o:=by repeat' first|apply Ya|exact pcM|exact(pn (X8a _ _ h20) (cc (X6a (X16 (λ_=>Xf3) a0)) cn))|exact Xu) (k:=fi)
 clear h;revert h17;refine brI (λh10=>?_) λh10=>?_
 ·
  intro h;obtain rfl:=oj h;exact X6 [.el (aI .i64 (a0.length:Int)),Gf,Gf,Gf,Gf,Gf,Gf,Gf,Gf,Gf] (o:=by repeat' first|apply Ya|exact pcM|exact fq (X7 h10 rfl)|exact Xu) (k:=wkT [] (X2.glue J))
 refine brI (λh11=>?_) λh11=>?_
 ·
  refine brI (λh12=>?_) λh12=>?_
  ·
   intro h;obtain rfl:=oj h;exact X6 [.el (aI .i64 (a0.length:Int)),Gt,Gt,Gt,Gt,.el (aI .i64 (a0.length:Int)),Gt,Gt,Gf,Gf,Gf] (o:=by repeat' first|apply Ya|exact pcM|exact fq (Xb h10 (X7 h11 h12))|exact Xu) (k:=wkT [] (X2.glue J))
  refine bI λv13 h14=>?_;intro h;obtain rfl:=oj h;exact X6 [.el (aI .i64 (a0.length:Int)),Gt,Gt,Gt,Gt,.el (aI .i64 (a0.length:Int)),Gt,Gt,Gt,Gt,Gt,.pure [(Lf (List.map (aI .i64) a0)),(AV.fn 178 [])] (aB v13)] (o:=by repeat' first|apply Ya|exact pcM|exact fq (Xb h10 (X7 h11 h12))|exact(pn (X20 _ _ h14) (cc (X6a (X16 (λ_=>Xf3) a0)) (cc .fn0 cn)))|exact Xu) (k:=wkT [] (X2.glue J))
 refine bI λv15 h16=>?_;intro h;obtain rfl:=oj h;exact X6 [.el (aI .i64 (a0.length:Int)),Gt,Gt,Gf,Gf,Gf,Gt,Gt,Gt,Gt,.pure [(Lf (List.map (aI .i64) a0)),(AV.fn 178 [])] (aB v15)] (o:=by repeat' first|apply Ya|exact pcM|exact fq (Xb h10 (Xb h11 rfl))|exact(pn (X20 _ _ h16) (cc (X6a (X16 (λ_=>Xf3) a0)) (cc .fn0 cn)))|exact Xu) (k:=wkT [] (X2.glue J))⟩
instance X4j:PCs Tryz.prog 78 (∀ (a0:X1z) (r:Int),X1a a0=some r->X0b Tryz.prog 78 [(X1y a0)] (aI .i64 r)):=⟨λa0 r h=>by
 refine X0b.sym X3 fn78 (nt:=40) rfl rfl ?_ okM;unfold X1a at h;revert h;exact brI (λh1=>λe=>oj e▸X6 [Bt] (k:=fi)) λh1=>brI (λh2=>brI (λh3=>λe=>oj e▸X6 [Bf,Bt,.wrap,Bt] (k:=fi)) λh3=>λe=>oj e▸X6 [Bf,Bt,.wrap,Bf] (k:=fi)) λh2=>brI (λh4=>brI (λh5=>λe=>oj e▸X6 [Bf,Bf,Bt,Bt] (k:=fi)) λh5=>λe=>oj e▸X6 [Bf,Bf,Bt,Bf] (k:=fi)) λh4=>brI (λh6=>brI (λh7=>λe=>oj e▸X6 [Bf,Bf,Bf,Bt,Bt] (k:=fi)) λh7=>λe=>oj e▸X6 [Bf,Bf,Bf,Bt,Bf] (k:=fi)) λh6=>λe=>oj e▸X6 [Bf,Bf,Bf,Bf] (k:=fi)⟩
instance Xws:PCs Tryz.prog 131 (∀ (a0:X0g) (r:Int),X8b a0=some r->X0b Tryz.prog 131 [(X07 false a0)] (aI .i64 r)):=⟨λa0 r h=>by
 refine X0b.sym X3 X0d3 (nt:=66) rfl rfl ?_ okM;unfold X8b at h;revert h;refine brI (λh1=>λe=>oj e▸X6 [Bt] (k:=fi)) λh1=>?_;refine brI (λh2=>?_) λh2=>?_
 ·
  refine bI λv3 h4=>brI (λh5=>λe=>oj e▸X6 [Bf,Bt,.pure _ (aI .i64 v3),Bt] (k:=fi)) λh5=>?_;refine brI (λh6=>?_) λh6=>bI λv16 h17=>brI (λh18=>λe=>oj e▸X6 [Bf,Bt,.pure _ (aI .i64 v3),Bf,.el (aI .i64 (a0.Where.length:Int)),Bf,.pure _ (aI .i64 v16),Bt] (k:=fi)) λh18=>brI (λh19=>λe=>oj e▸X6 [Bf,Bt,.pure _ (aI .i64 v3),Bf,.el (aI .i64 (a0.Where.length:Int)),Bf,.pure _ (aI .i64 v16),Bf,Bt] (k:=fi)) λh19=>bI λv20 h21=>λe=>oj e▸X6 [Bf,Bt,.pure _ (aI .i64 v3),Bf,.el (aI .i64 (a0.Where.length:Int)),Bf,.pure _ (aI .i64 v16),Bf,Bf,.pure _ (aI .i64 v20)] (k:=fi);refine bI λv7 h8=>brI (λh9=>λe=>oj e▸X6 [Bf,Bt,.pure _ (aI .i64 v3),Bf,.el (aI .i64 (a0.Where.length:Int)),Bt,.pure _ (aI .i64 v7),Bt] (k:=fi)) λh9=>bI λv10 h11=>rnI [Bf,Bt,.pure _ (aI .i64 v3),Bf,.el (aI .i64 (a0.Where.length:Int)),Bt,.pure _ (aI .i64 v7),Bf,.pure _ (aI .i64 v10)] ?_;exact brI (λh12=>λe=>oj e▸X6 [Bt] (k:=fi)) λh12=>brI (λh13=>λe=>oj e▸X6 [Bf,Bt] (k:=fi)) λh13=>bI λv14 h15=>λe=>oj e▸X6 [Bf,Bf,.pure _ (aI .i64 v14)] (k:=fi)
 refine brI (λh22=>λe=>oj e▸X6 [Bf,Bf,.el (aI .i64 (a0.Arg.length:Int)),Bt] (k:=fi)) λh22=>?_;refine brI (λh23=>?_) λh23=>?_
 ·
  refine bI λv24 h25=>rnI [Bf,Bf,.el (aI .i64 (a0.Arg.length:Int)),Bf,.el (aI .i64 (a0.Where.length:Int)),Bt,.pure _ (aI .i64 v24)] ?_;exact brI (λh26=>λe=>oj e▸X6 [Bt] (k:=fi)) λh26=>bI λv27 h28=>brI (λh29=>λe=>oj e▸X6 [Bf,.pure _ (aI .i64 v27),Bt] (k:=fi)) λh29=>brI (λh30=>λe=>oj e▸X6 [Bf,.pure _ (aI .i64 v27),Bf,Bt] (k:=fi)) λh30=>bI λv31 h32=>λe=>oj e▸X6 [Bf,.pure _ (aI .i64 v27),Bf,Bf,.pure _ (aI .i64 v31)] (k:=fi)
 refine bI λv33 h34=>rnI [Bf,Bf,.el (aI .i64 (a0.Arg.length:Int)),Bf,.el (aI .i64 (a0.Where.length:Int)),Bf,.pure _ (aI .i64 v33)] ?_;exact brI (λh35=>λe=>oj e▸X6 [Bt] (k:=fi)) λh35=>brI (λh36=>λe=>oj e▸X6 [Bf,Bt] (k:=fi)) λh36=>bI λv37 h38=>λe=>oj e▸X6 [Bf,Bf,.pure _ (aI .i64 v37)] (k:=fi)⟩
theorem X54 {Q:X03->St->Mu->Prop} {μ:Mu} (Xn:(List Bool)) (Xgo:(V2 Bool)) (X0l:(List Int)) (X02:Nb Xn) (hl:X0l.length<=140737488355328):∀ (xs:List Int) (k:Nat) (hx:X0l.drop k=xs) (o:X2b) (h:X0i Xn Xgo X0l xs k  = some o)
  (C0:o=X2b.x0->X2 Tryz.prog 21 4 Q (.exit (.exit 0)) [] ⟨fr [],hp ([(0,Ob [(slE X02.1 1 (Xn.map aB))] 1),(2,Ob [(Xa6 Xgo)] 2),(3,Ob (List.map (aI .i64) X0l) 1)]++opE X02.1 1 1 (Xn.map aB)),4⟩ μ)
  (C1:o=X2b.x1->X2 Tryz.prog 21 4 Q (.exit .ret) [] ⟨fr [(5,(aB false))],hp ([(0,Ob [(slE X02.1 1 (Xn.map aB))] 1),(2,Ob [(Xa6 Xgo)] 2),(3,Ob (List.map (aI .i64) X0l) 1)]++opE X02.1 1 1 (Xn.map aB)),4⟩ μ),
  X2 Tryz.prog 21 4 Q (.loop (X2o 0 (Xd Tryz.f212))) [] ⟨fr [(0,(aB false)),(2,(AV.ptr 0 0 0)),(8,(AV.ref 3 0 (X0l.length))),(9,(aI .i64 (X0l.length:Int))),(10,(aI .i64 (k:Int)))],hp ([(0,Ob [(slE X02.1 1 (Xn.map aB))] 1),(2,Ob [(Xa6 Xgo)] 2),(3,Ob (List.map (aI .i64) X0l) 1)]++opE X02.1 1 1 (Xn.map aB)),4⟩ μ:=by
 intro xs
 induction xs with
 |nil =>
  intro k hx  o h C0 C1;have hk:=X1g hx;have hc:decide ((k:Int)<(X0l.length:Int))=false:=Yf om;rw[X0i] at h;rcases X02 with ⟨_|_,X0o⟩<;>(try obtain rfl:=X0o rfl);all_goals
   refine X2.round ?_;revert h;exact λe=>X6 [Bf] (k:=wkT [] (C0  (oj e).symm))
 |cons x xs ih =>
  intro k hx  o h C0 C1;obtain⟨hk,hg,hx1⟩:=X0u hx;have hc:decide ((k:Int)<(X0l.length:Int))=true:=Yt om;rw[X0i] at h;rcases X02 with ⟨_|_,X0o⟩
  ·
   refine X2.round ?_;revert h;refine bI λe3011 h3012=>?_;try have qh3012:=Xl h3012
   refine brI (λh3013=>λe=>X6 [Bt,.el (aI .i64 x),.ld (aI .i64 x),.el (aB e3011),.ld (aB e3011),Bt] (k:=wkT [] (C1  (oj e).symm))) λh3013=>rnI [Bt,.el (aI .i64 x),.ld (aI .i64 x),.el (aB e3011),.ld (aB e3011),Bf] ?_;intro h;exact wkT [] (ih (k+1) hx1  o h C0 C1)
  obtain rfl:=X0o rfl;refine X2.round ?_;revert h;refine bI λe3014 h3015=>?_;try have qh3015:=Xl h3015
  intro h
  first|exact absurd (h3015) (by simp[X15];done)|(simp[X15,hc] at h;done)|exact absurd (h3015) (by simp[X15,hc];done)
theorem X1t {Q:X03->St->Mu->Prop} {μ:Mu} (Xn:(List Bool)) (X1r:(List Int)) (X02:Nb Xn) (hl:X1r.length<=140737488355328):∀ (xs:List Int) (k:Nat) (hx:X1r.drop k=xs) (o:X21) (h:X0k Xn X1r xs k  = some o)
  (C0:o=X21.x0->X2 Tryz.prog 21 4 Q (.exit (.exit 0)) [] ⟨fr [],hp ([(0,Ob [(slE X02.1 1 (Xn.map aB))] 1)]++opE X02.1 1 1 (Xn.map aB)),4⟩ μ)
  (C1:o=X21.x1->X2 Tryz.prog 21 4 Q (.exit .ret) [] ⟨fr [(5,(aB false))],hp ([(0,Ob [(slE X02.1 1 (Xn.map aB))] 1)]++opE X02.1 1 1 (Xn.map aB)),4⟩ μ),
  X2 Tryz.prog 21 4 Q (.loop (X2o 0 (Xd Tryz.f212))) [] ⟨fr [(0,(aB true)),(2,(AV.ptr 0 0 0)),(8,(AV.ref 4 0 (X1r.length))),(9,(aI .i64 (X1r.length:Int))),(10,(aI .i64 (k:Int)))],hp ([(0,Ob [(slE X02.1 1 (Xn.map aB))] 1),(4,Ob (List.map (aI .i64) X1r) 1)]++opE X02.1 1 1 (Xn.map aB)),5⟩ μ:=by
 intro xs
 induction xs with
 |nil =>
  intro k hx  o h C0 C1;have hk:=X1g hx;have hc:decide ((k:Int)<(X1r.length:Int))=false:=Yf om;rw[X0k] at h;rcases X02 with ⟨_|_,X0o⟩<;>(try obtain rfl:=X0o rfl);all_goals
   refine X2.round ?_;revert h;exact λe=>X6 [Bf] (k:=wkT [] (C0  (oj e).symm))
 |cons x xs ih =>
  intro k hx  o h C0 C1;obtain⟨hk,hg,hx1⟩:=X0u hx;have hc:decide ((k:Int)<(X1r.length:Int))=true:=Yt om;rw[X0k] at h;rcases X02 with ⟨_|_,X0o⟩
  ·
   refine X2.round ?_;revert h;refine bI λe3127 h3128=>?_;try have qh3128:=Xl h3128
   refine brI (λh3129=>λe=>X6 [Bt,.el (aI .i64 x),.ld (aI .i64 x),.el (aB e3127),.ld (aB e3127),Bt] (k:=wkT [] (C1  (oj e).symm))) λh3129=>rnI [Bt,.el (aI .i64 x),.ld (aI .i64 x),.el (aB e3127),.ld (aB e3127),Bf] ?_;intro h;exact wkT [] (ih (k+1) hx1  o h C0 C1)
  obtain rfl:=X0o rfl;refine X2.round ?_;revert h;refine bI λe3130 h3131=>?_;try have qh3131:=Xl h3131
  intro h
  first|exact absurd (h3131) (by simp[X15];done)|(simp[X15,hc] at h;done)|exact absurd (h3131) (by simp[X15,hc];done)
end Go.Av.Tryz