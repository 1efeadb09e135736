/- Printed by decomp.py: that the program computes the functions. -/
import Derived.Test.YtnkfdamiiejfdaaGreatDoorDCert2Z
set_option linter.all false

namespace Go.Av.Tryz
open Go.Proofs Go.D Go.Proofs.Tryz
set_option maxRecDepth 10000
set_option maxHeartbeats 40000000
instance X03f:PZ 220 (∀ (a0:(List Xy)) (r:(List Xd)×Bool),Xda a0=some r->Pz 220 [(Lf (a0.map X3))] (AV.tup [(Lt (r.1.map X7)),(aB r.2)])):=⟨λa0 r h=>by
 refine X15.sym X2 X0gw (nt:=105) rfl rfl ?_ okM;unfold Xda at h;revert h;refine bI λu1 h2=>?_;have qh2:=X05 h2;refine bI λo427 h428=>rnI [.el (aI .i64 (a0.length:Int))] ?_;intro h;refine wkT [] (X5.cut (Xhv a0 qh2 a0 0 (by simp) _ _ nbS nbS _ h428 ?_ ?_))
 ·
  intro Xj X0d Xu X0n eo427;subst eo427;refine X5.glue ?_;try dsimp only at h
  rcases Xu with ⟨_|_,X1r⟩<;>(try obtain rfl:=X1r rfl);all_goals
   rcases X0n with ⟨_|_,X3z⟩
   ·
    revert h;exact λe=>oj e▸X8 [.el (aI .i64 (X0d.length:Int))] (k:=fi)
   obtain rfl:=X3z rfl;revert h;exact λe=>oj e▸X8 [.el (aI .i64 (List.length ([]:List Xd):Int))] (k:=fi)
 intro X09 X08 eo427;subst eo427;refine X5.glue ?_;try dsimp only at h
 rcases X08 with ⟨_|_,X31⟩<;>(try obtain rfl:=X31 rfl);all_goals
  revert h;exact λe=>oj e▸X8 [] (k:=fi)⟩
instance X02a:PZ 143 (∀ (a0:(List Xy)) (r:(List Xd)×Int),X9b a0=some r->Pz 143 [(Lf (a0.map X3))] (AV.tup [(Lt (r.1.map X7)),(aI .i64 r.2)])):=⟨λa0 r h=>by
 refine X15.sym X2 X0hc (nt:=25) rfl rfl ?_ okM;unfold X9b at h;revert h;refine brI (λh1=>λe=>oj e▸X8 [.el (aI .i64 (a0.length:Int)),Bt] (k:=fi)) λh1=>bI λv2 h3=>brI (λh4=>λe=>oj e▸X8 [.el (aI .i64 (a0.length:Int)),Bf,.pure _ (AV.tup [(Lt (v2.1.map X7)),(aB v2.2)]),Bt] (k:=fi)) λh4=>bI λe5 h6=>?_;try have qh6:=Xm h6
 refine rnI [.el (aI .i64 (a0.length:Int)),Bf,.pure _ (AV.tup [(Lt (v2.1.map X7)),(aB v2.2)]),Bf,.el (aI .i64 (v2.1.length:Int)),.wrap,.el (X7 e5)] ?_;exact brI (λh7=>λe=>oj e▸X8 [Bt] (k:=fi)) λh7=>λe=>oj e▸X8 [Bf] (k:=fi)⟩
instance X02c:PZ 80 (∀ (a0:(List Xy)) (r:Int),X50 a0=some r->Pz 80 [(Lf (a0.map X3))] (aI .i64 r)):=⟨λa0 r h=>by
 refine X15.sym X2 fn80 (nt:=11) rfl rfl ?_ okM;unfold X50 at h;revert h;exact bI λv1 h2=>λe=>oj e▸X8 [.pure _ (AV.tup [(Lt (v1.1.map X7)),(aI .i64 v1.2)])] (k:=fi)⟩
instance Xq4:PZ 144 (∀ (a0:Int) (r:Bool),X5e a0=some r->Pz 144 [(aI .i64 a0)] (aB r)):=⟨λa0 r h=>by
 refine X15.sym X2 X0hb (nt:=9) rfl rfl ?_ okM;unfold X5e at h;revert h;exact λe=>oj e▸X8 [] (k:=fi)⟩
theorem X7v {Q:Qt} {μ:Mu} (X0e:(List Int)) (hl:X0e.length<=140737488355328):Dr X0e λxs k=>∀ (o:X4f) (h:X0i X0e xs k  = some o),Lq Tryz.prog 19 0 Q μ o (fun|.x0=>(.exit 0,⟨fr [],hp ([]),0⟩)|.x1 X6w=>(.ret,⟨fr [(4,(aI .i64 X6w))],hp ([]),0⟩))
  (X5b 0 (X10 Tryz.f221)) ⟨fr [(0,(Lf (List.map (aI .i64) X0e))),(1,(AV.fn 144 [])),(7,(aI .i64 (X0e.length:Int))),(8,(aI .i64 (k:Int)))],hp ([]),0⟩:=by
 refine drI ?_ ?_
 ·
  intro k hk hc  o h C;rw[X0i] at h;refine X5.round ?_;revert h;exact λe=>X8 [Bf] (k:=wC e C)
 ·
  intro x xs k hk hg hc ih  o h C;rw[X0i] at h;refine X5.round ?_;revert h;refine bI λv10 h11=>brI (λh12=>λe=>X8 [Bt,.el (aI .i64 x),.pure _ (aB v10),Bt] (k:=wC e C)) λh12=>rnI [Bt,.el (aI .i64 x),.pure _ (aB v10),Bf] ?_;intro h;exact wkT [] (ih   o h C)
theorem X3y (a0:(List Int)) (r:Int) (h:X0h a0=some r):Pz 221 [(Lf (List.map (aI .i64) a0)),(AV.fn 144 [])] (aI .i64 r):=by
 refine X15.sym X2 X0gv (nt:=19) rfl rfl ?_ okM;unfold X0h at h;revert h;refine bI λu1 h2=>?_;have qh2:=X05 h2;refine bI λo13 h14=>rnI [.el (aI .i64 (a0.length:Int))] ?_;intro h;refine wkT [] (X5.cut (drA (X7v a0 qh2) _ h14 ?_));rcases o13 with _|⟨X6w⟩
 ·
  refine lG rfl ?_;try dsimp only at h
  revert h;exact λe=>oj e▸X8 [] (k:=fi)
 refine lG rfl ?_;try dsimp only at h
 revert h;exact λe=>oj e▸X8 [] (k:=fi)
theorem X1g (a0:(List Int)) (r:Bool) (h:Xs a0=some r):Pz 145 [(Lf (List.map (aI .i64) a0)),(AV.fn 144 [])] (aB r):=by
 refine X15.sym X2 X0ha (nt:=9) rfl rfl ?_ okM;unfold Xs at h;revert h;exact bI λv1 h2=>λe=>oj e▸X8 [.pure [(Lf (List.map (aI .i64) a0)),(AV.fn 144 [])] (aI .i64 v1)] (o:=by repeat' first|apply Ya|exact pcM|exact(pn (X3y _ _ h2) (cc (X4o (X1s (λ_=>Xa7) a0)) (cc .fn0 cn)))|exact X1i) (k:=fi)
theorem Xjr (z:Int):∀ (ks:List Int),Xe3 (.int .i64 z) (.bool true) (ks.map Xb3)=(Xd2 ks z).map Xb3:=by
 intro ks;unfold Xd2
 induction ks with
 |nil=>simp[Xe3,Xb3]
 |cons a r ih =>
  simp only[List.map_cons,Xb3,Xe3];by_cases h:a=z
  ·subst h;simp[Xb3]
  have h1:¬ (Value.int .i64 a=Value.int .i64 z):=by simpa using h
  rw[if_neg h1];have ih':Xe3 (.int .i64 z) (.bool true) (r.map Xb3)=(if z∈r then r else r++[z]).map Xb3:=ih;rw[ih'];have h2:¬ z=a:=λe=>h e.symm;by_cases hz:z∈r<;>simp[hz,h2,Xb3]
theorem X4e {Q:Qt} {μ:Mu} (b:Nat) (l:List Int) (hl:l.length<=140737488355328):∀ (xs:List Int) (k:Nat) (hx:l.drop k=xs) (ks:List Int)
  (C:SK 18 Q (.exit (.exit 0)) [] ⟨fr [(3,.sc (.map (some b)))],hp [],0⟩ ((b,(X5l ks xs).map Xb3)::μ)),
  SK 18 Q (.loop (X5b 0 (X10 Tryz.f146))) [] ⟨fr [(3,.sc (.map (some b))),(7,AV.list false (List.map (aI .i64) l)),(8,aI .i64 (l.length:Int)),(9,aI .i64 (k:Int))],hp [],0⟩ ((b,ks.map Xb3)::μ):=by
 intro xs
 induction xs with
 |nil =>
  intro k hx ks C;have hk:=X2n hx;have hc:=lpN hx;refine X5.round ?_;refine rn tmD [Bf] rfl (by repeat' first|apply Ya|exact hc|exact oblA) ?_;exact X5.weakTo [] C rfl (by repeat' first|apply Ya|exact wkA) trivial
 |cons x xs ih =>
  intro k hx ks C;obtain⟨hk,hg,hx1⟩:=X1w hx;have hc:=lpC hx;refine X5.round ?_;refine rn tmD [Bt,.el (aI .i64 x)] rfl (by repeat' first|apply Ya|exact hc|exact ixm hg|exact oblA) ?_;refine X5.mapUpd (d:=.int .i64) X2 rfl rfl rfl rfl rfl Tryz.underlying3 rfl rfl rfl trivial trivial trivial rfl (by
   intro p hp;obtain⟨z,_,rfl⟩:=List.mem_map.1 hp;rfl) ?_
  rw[Xjr];refine X0f [] ?_;exact X5.weakTo [] (ih (k+1) hx1 (Xd2 ks x) C) rfl (by repeat' first|apply Ya|exact wkA) trivial
theorem X2t (a0:(List Int)) (r:Int) (h:X0t a0=some r):Pz 146 [(Lf (List.map (aI .i64) a0))] (aI .i64 r):=by
 refine X15.sym X2 X099 (nt:=18) rfl rfl ?_ (X13 .list X70);unfold X0t at h;refine X0aa h ?_;clear h;intro u h1 h;have q1:=X05 h1;obtain rfl:=oj h;refine X0f [] ?_;refine X5.mapNew rfl rfl rfl λb=>?_;refine X0f [] ?_;refine X5.weakTo [] (X5.cut (X4e b a0 q1 a0 0 (by simp) [] ?_)) rfl (by repeat' first|apply Ya|exact wkA) trivial;refine X5.glue ?_;refine X0f [] ?_;refine X5.mapLen X2 rfl rfl rfl rfl rfl rfl trivial ?_;rw[List.length_map];refine X0f [] ?_;exact Xsd rfl .sc
instance Xu6:PZ 81 (∀ (a0:(List Int)) (a1:Bool) (r:Int),X1x a0 a1=some r->Pz 81 [(Lf (List.map (aI .i64) a0)),(aB a1)] (aI .i64 r)):=⟨λa0 a1 r h=>by
 refine X15.sym X2 fn81 (nt:=30) rfl rfl ?_ okM;unfold X1x at h;revert h;refine brI (λh1=>λe=>oj e▸X8 [.el (aI .i64 (a0.length:Int)),Bt] (k:=fi)) λh1=>bI λX08k h17=>rnI [.el (aI .i64 (a0.length:Int)),Bf,.stop 4] ?_;intro h;refine jn [(0,(Lf (List.map (aI .i64) a0))),(24,(aB X08k))] ([]) 0 ?_ (λJ=>X5.cut ?_)
 ·
  revert h;refine brI (λh18=>λe=>oj e▸X8 [Bt] (k:=fi)) λh18=>?_;refine bI λv19 h20=>brI (λh21=>?_) λh21=>?_
  ·
   exact λe=>oj e▸X8 [Bf,.pure [(Lf (List.map (aI .i64) a0))] (aI .i64 v19),.el (aI .i64 (a0.length:Int)),Bt] (o:=by repeat' first|apply Ya|exact pcM|exact(pn (X2t _ _ h20) (cc (X4o (X1s (λ_=>Xa7) a0)) cn))|exact X1i) (k:=fi)
  exact λe=>oj e▸X8 [Bf,.pure [(Lf (List.map (aI .i64) a0))] (aI .i64 v19),.el (aI .i64 (a0.length:Int)),Bf] (o:=by repeat' first|apply Ya|exact pcM|exact(pn (X2t _ _ h20) (cc (X4o (X1s (λ_=>Xa7) a0)) cn))|exact X1i) (k:=fi)
 clear h;revert h17;refine brI (λh10=>?_) λh10=>?_
 ·
  exact λe=>X8 [.el (aI .i64 (a0.length:Int)),Gf,Gf,Gf,Gf,Gf,Gf,Gf,Gf,Gf] (o:=by repeat' first|apply Ya|exact pcM|exact fq (Xh1 h10 rfl)|exact X1i) (k:=wJ [] J)
 refine brI (λh11=>?_) λh11=>?_
 ·
  refine brI (λh12=>?_) λh12=>?_
  ·
   exact λe=>X8 [.el (aI .i64 (a0.length:Int)),Gt,Gt,Gt,Gt,.el (aI .i64 (a0.length:Int)),Gt,Gt,Gf,Gf,Gf] (o:=by repeat' first|apply Ya|exact pcM|exact fq (Xsr h10 (Xh1 h11 h12))|exact X1i) (k:=wJ [] J)
  exact bI λv13 h14=>λe=>X8 [.el (aI .i64 (a0.length:Int)),Gt,Gt,Gt,Gt,.el (aI .i64 (a0.length:Int)),Gt,Gt,Gt,Gt,Gt,.pure [(Lf (List.map (aI .i64) a0)),(AV.fn 144 [])] (aB v13)] (o:=by repeat' first|apply Ya|exact pcM|exact fq (Xsr h10 (Xh1 h11 h12))|exact(pn (X1g _ _ h14) (cc (X4o (X1s (λ_=>Xa7) a0)) (cc .fn0 cn)))|exact X1i) (k:=wJ [] J)
 exact bI λv15 h16=>λe=>X8 [.el (aI .i64 (a0.length:Int)),Gt,Gt,Gf,Gf,Gf,Gt,Gt,Gt,Gt,.pure [(Lf (List.map (aI .i64) a0)),(AV.fn 144 [])] (aB v15)] (o:=by repeat' first|apply Ya|exact pcM|exact fq (Xsr h10 (Xsr h11 rfl))|exact(pn (X1g _ _ h16) (cc (X4o (X1s (λ_=>Xa7) a0)) (cc .fn0 cn)))|exact X1i) (k:=wJ [] J)⟩
instance X41:PZ 52 (∀ (a0:X0r) (r:Int),X0u a0=some r->Pz 52 [(X39 a0)] (aI .i64 r)):=⟨λa0 r h=>by
 refine X15.sym X2 fn52 (nt:=40) rfl rfl ?_ okM;unfold X0u at h;revert h;exact brI (λh1=>λe=>oj e▸X8 [Bt] (k:=fi)) λh1=>brI (λh2=>brI (λh3=>λe=>oj e▸X8 [Bf,Bt,.wrap,Bt] (k:=fi)) λh3=>λe=>oj e▸X8 [Bf,Bt,.wrap,Bf] (k:=fi)) λh2=>brI (λh4=>brI (λh5=>λe=>oj e▸X8 [Bf,Bf,Bt,Bt] (k:=fi)) λh5=>λe=>oj e▸X8 [Bf,Bf,Bt,Bf] (k:=fi)) λh4=>brI (λh6=>brI (λh7=>λe=>oj e▸X8 [Bf,Bf,Bf,Bt,Bt] (k:=fi)) λh7=>λe=>oj e▸X8 [Bf,Bf,Bf,Bt,Bf] (k:=fi)) λh6=>λe=>oj e▸X8 [Bf,Bf,Bf,Bf] (k:=fi)⟩
instance Xx8:PZ 44 (∀ (a0:X00) (r:Int),X6p a0=some r->Pz 44 [(Xz false a0)] (aI .i64 r)):=⟨λa0 r h=>by
 refine X15.sym X2 fn44 (nt:=66) rfl rfl ?_ okM;unfold X6p at h;revert h;refine brI (λh1=>λe=>oj e▸X8 [Bt] (k:=fi)) λh1=>?_;refine brI (λh2=>?_) λh2=>?_
 ·
  refine bI λv3 h4=>brI (λh5=>λe=>oj e▸X8 [Bf,Bt,.pure _ (aI .i64 v3),Bt] (k:=fi)) λh5=>?_;refine brI (λh6=>?_) λh6=>bI λv16 h17=>brI (λh18=>λe=>oj e▸X8 [Bf,Bt,.pure _ (aI .i64 v3),Bf,.el (aI .i64 (a0.Where.length:Int)),Bf,.pure _ (aI .i64 v16),Bt] (k:=fi)) λh18=>brI (λh19=>λe=>oj e▸X8 [Bf,Bt,.pure _ (aI .i64 v3),Bf,.el (aI .i64 (a0.Where.length:Int)),Bf,.pure _ (aI .i64 v16),Bf,Bt] (k:=fi)) λh19=>bI λv20 h21=>λe=>oj e▸X8 [Bf,Bt,.pure _ (aI .i64 v3),Bf,.el (aI .i64 (a0.Where.length:Int)),Bf,.pure _ (aI .i64 v16),Bf,Bf,.pure _ (aI .i64 v20)] (k:=fi);refine bI λv7 h8=>brI (λh9=>λe=>oj e▸X8 [Bf,Bt,.pure _ (aI .i64 v3),Bf,.el (aI .i64 (a0.Where.length:Int)),Bt,.pure _ (aI .i64 v7),Bt] (k:=fi)) λh9=>bI λv10 h11=>rnI [Bf,Bt,.pure _ (aI .i64 v3),Bf,.el (aI .i64 (a0.Where.length:Int)),Bt,.pure _ (aI .i64 v7),Bf,.pure _ (aI .i64 v10)] ?_;exact brI (λh12=>λe=>oj e▸X8 [Bt] (k:=fi)) λh12=>brI (λh13=>λe=>oj e▸X8 [Bf,Bt] (k:=fi)) λh13=>bI λv14 h15=>λe=>oj e▸X8 [Bf,Bf,.pure _ (aI .i64 v14)] (k:=fi)
 refine brI (λh22=>λe=>oj e▸X8 [Bf,Bf,.el (aI .i64 (a0.Arg.length:Int)),Bt] (k:=fi)) λh22=>?_;refine brI (λh23=>?_) λh23=>?_
 ·
  refine bI λv24 h25=>rnI [Bf,Bf,.el (aI .i64 (a0.Arg.length:Int)),Bf,.el (aI .i64 (a0.Where.length:Int)),Bt,.pure _ (aI .i64 v24)] ?_;exact brI (λh26=>λe=>oj e▸X8 [Bt] (k:=fi)) λh26=>bI λv27 h28=>brI (λh29=>λe=>oj e▸X8 [Bf,.pure _ (aI .i64 v27),Bt] (k:=fi)) λh29=>brI (λh30=>λe=>oj e▸X8 [Bf,.pure _ (aI .i64 v27),Bf,Bt] (k:=fi)) λh30=>bI λv31 h32=>λe=>oj e▸X8 [Bf,.pure _ (aI .i64 v27),Bf,Bf,.pure _ (aI .i64 v31)] (k:=fi)
 refine bI λv33 h34=>rnI [Bf,Bf,.el (aI .i64 (a0.Arg.length:Int)),Bf,.el (aI .i64 (a0.Where.length:Int)),Bf,.pure _ (aI .i64 v33)] ?_;exact brI (λh35=>λe=>oj e▸X8 [Bt] (k:=fi)) λh35=>brI (λh36=>λe=>oj e▸X8 [Bf,Bt] (k:=fi)) λh36=>bI λv37 h38=>λe=>oj e▸X8 [Bf,Bf,.pure _ (aI .i64 v37)] (k:=fi)⟩
theorem X4i {Q:Qt} {μ:Mu} (Xi:(List Bool)) (X3w:(V2 Bool)) (X0j:(List Int)) (Xn:Nb Xi) (hl:X0j.length<=140737488355328):Dr X0j λxs k=>∀ (o:X4q) (h:X06 Xi X3w X0j xs k  = some o),Lq Tryz.prog 21 4 Q μ o (fun|.x0=>(.exit 0,⟨fr [],hp ([(0,Ob [(slE Xn.1 1 (Xi.map aB))] 1),(2,Ob [(X8e X3w)] 2),(3,Ob (List.map (aI .i64) X0j) 1)]++opE Xn.1 1 1 (Xi.map aB)),4⟩)|.x1=>(.ret,⟨fr [(5,(aB false))],hp ([(0,Ob [(slE Xn.1 1 (Xi.map aB))] 1),(2,Ob [(X8e X3w)] 2),(3,Ob (List.map (aI .i64) X0j) 1)]++opE Xn.1 1 1 (Xi.map aB)),4⟩))
  (X5b 0 (X10 Tryz.f269)) ⟨fr [(0,(aB false)),(2,(AV.ptr 0 0 0)),(8,(AV.ref 3 0 (X0j.length))),(9,(aI .i64 (X0j.length:Int))),(10,(aI .i64 (k:Int)))],hp ([(0,Ob [(slE Xn.1 1 (Xi.map aB))] 1),(2,Ob [(X8e X3w)] 2),(3,Ob (List.map (aI .i64) X0j) 1)]++opE Xn.1 1 1 (Xi.map aB)),4⟩:=by
 refine drI ?_ ?_
 ·
  intro k hk hc  o h C;rw[X06] at h;rcases Xn with ⟨_|_,X0a⟩<;>(try obtain rfl:=X0a rfl);all_goals
   refine X5.round ?_;revert h;exact λe=>X8 [Bf] (k:=wC e C)
 ·
  intro x xs k hk hg hc ih  o h C;rw[X06] at h;rcases Xn with ⟨_|_,X0a⟩
  ·
   refine X5.round ?_;revert h;refine bI λe3011 h3012=>?_;try have qh3012:=Xm h3012
   refine brI (λh3013=>λe=>X8 [Bt,.el (aI .i64 x),.ld (aI .i64 x),.el (aB e3011),.ld (aB e3011),Bt] (k:=wC e C)) λh3013=>rnI [Bt,.el (aI .i64 x),.ld (aI .i64 x),.el (aB e3011),.ld (aB e3011),Bf] ?_;intro h;exact wkT [] (ih   o h C)
  obtain rfl:=X0a rfl;refine X5.round ?_;revert h;refine bI λe3014 h3015=>?_;try have qh3015:=Xm h3015
  intro h
  first|exact absurd (h3015) (by simp[X18];done)|(simp[X18,hc] at h;done)|(simp[hc] at hg;done)|exact absurd (h3015) (by simp[X18,hc];done)
theorem X1b {Q:Qt} {μ:Mu} (Xi:(List Bool)) (X1k:(List Int)) (Xn:Nb Xi) (hl:X1k.length<=140737488355328):Dr X1k λxs k=>∀ (o:X46) (h:X07 Xi X1k xs k  = some o),Lq Tryz.prog 21 4 Q μ o (fun|.x0=>(.exit 0,⟨fr [],hp ([(0,Ob [(slE Xn.1 1 (Xi.map aB))] 1)]++opE Xn.1 1 1 (Xi.map aB)),4⟩)|.x1=>(.ret,⟨fr [(5,(aB false))],hp ([(0,Ob [(slE Xn.1 1 (Xi.map aB))] 1)]++opE Xn.1 1 1 (Xi.map aB)),4⟩))
  (X5b 0 (X10 Tryz.f269)) ⟨fr [(0,(aB true)),(2,(AV.ptr 0 0 0)),(8,(AV.ref 4 0 (X1k.length))),(9,(aI .i64 (X1k.length:Int))),(10,(aI .i64 (k:Int)))],hp ([(0,Ob [(slE Xn.1 1 (Xi.map aB))] 1),(4,Ob (List.map (aI .i64) X1k) 1)]++opE Xn.1 1 1 (Xi.map aB)),5⟩:=by
 refine drI ?_ ?_
 ·
  intro k hk hc  o h C;rw[X07] at h;rcases Xn with ⟨_|_,X0a⟩<;>(try obtain rfl:=X0a rfl);all_goals
   refine X5.round ?_;revert h;exact λe=>X8 [Bf] (k:=wC e C)
 ·
  intro x xs k hk hg hc ih  o h C;rw[X07] at h;rcases Xn with ⟨_|_,X0a⟩
  ·
   refine X5.round ?_;revert h;refine bI λe3127 h3128=>?_;try have qh3128:=Xm h3128
   refine brI (λh3129=>λe=>X8 [Bt,.el (aI .i64 x),.ld (aI .i64 x),.el (aB e3127),.ld (aB e3127),Bt] (k:=wC e C)) λh3129=>rnI [Bt,.el (aI .i64 x),.ld (aI .i64 x),.el (aB e3127),.ld (aB e3127),Bf] ?_;intro h;exact wkT [] (ih   o h C)
  obtain rfl:=X0a rfl;refine X5.round ?_;revert h;refine bI λe3130 h3131=>?_;try have qh3131:=Xm h3131
  intro h
  first|exact absurd (h3131) (by simp[X18];done)|(simp[X18,hc] at h;done)|(simp[hc] at hg;done)|exact absurd (h3131) (by simp[X18,hc];done)
end Go.Av.Tryz