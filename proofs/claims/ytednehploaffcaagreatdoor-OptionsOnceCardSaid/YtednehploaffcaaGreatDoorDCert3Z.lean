/- Printed by decomp.py: that the program computes the functions. -/
import Derived.Test.YtednehploaffcaaGreatDoorDCert2Z
set_option linter.all false

namespace Go.Av.Tryz
open Go.Proofs Go.D Go.Proofs.Tryz
set_option maxRecDepth 10000
set_option maxHeartbeats 40000000
instance X01k:PZ 118 (∀ (a0:(List X1)) (r:(List Xf)×Bool),Xe0 a0=some r->Pz 118 [(Lf (a0.map X0))] (AV.tup [(Lt (r.1.map X3)),(aB r.2)])):=⟨λa0 r=>by
 unfold Xe0;refine psI X0fj 105<|bI λu1 h2=>?_;have qh2:=X1b h2;refine bI λo427 h428=>rnI [.el (aI .i64 (a0.length:Int))] ?_;intro h;refine wkT [] (X9.cut (Xiw a0 qh2 a0 0 (by simp) _ _ nbS nbS _ h428 ?_ ?_))
 ·
  intro X0n X0j X2d X10 eo427;subst eo427;refine X9.glue ?_;try dsimp only at h
  rcases X2d with ⟨_|_,X7t⟩<;>(try obtain rfl:=X7t rfl);all_goals
   rcases X10 with ⟨_|_,X46⟩
   ·
    revert h;exact λe=>oj e▸X8 [.el (aI .i64 (X0j.length:Int))] (k:=fi)
   obtain rfl:=X46 rfl;revert h;exact λe=>oj e▸X8 [.el (aI .i64 (List.length ([]:List Xf):Int))] (k:=fi)
 intro X0e X0g eo427;subst eo427;refine X9.glue ?_;try dsimp only at h
 rcases X0g with ⟨_|_,X45⟩<;>(try obtain rfl:=X45 rfl);all_goals
  revert h;exact λe=>oj e▸X8 [] (k:=fi)⟩
instance X008:PZ 89 (∀ (a0:(List X1)) (r:(List Xf)×Int),X7s a0=some r->Pz 89 [(Lf (a0.map X0))] (AV.tup [(Lt (r.1.map X3)),(aI .i64 r.2)])):=⟨λa0 r=>by
 unfold X7s;refine psI fn89 25<|brI (λh1=>λe=>oj e▸X8 [.el (aI .i64 (a0.length:Int)),Bt] (k:=fi)) λh1=>bI λv2 h3=>brI (λh4=>λe=>oj e▸X8 [.el (aI .i64 (a0.length:Int)),Bf,.pure _ (AV.tup [(Lt (v2.1.map X3)),(aB v2.2)]),Bt] (k:=fi)) λh4=>bI λe5 h6=>?_;try have qh6:=Xo h6
 refine rnI [.el (aI .i64 (a0.length:Int)),Bf,.pure _ (AV.tup [(Lt (v2.1.map X3)),(aB v2.2)]),Bf,.el (aI .i64 (v2.1.length:Int)),.wrap,.el (X3 e5)] ?_;exact brI (λh7=>λe=>oj e▸X8 [Bt] (k:=fi)) λh7=>λe=>oj e▸X8 [Bf] (k:=fi)⟩
instance X00a:PZ 68 (∀ (a0:(List X1)) (r:Int),X28 a0=some r->Pz 68 [(Lf (a0.map X0))] (aI .i64 r)):=⟨λa0 r=>by
 unfold X28;exact psI fn68 11<|bI λv1 h2=>λe=>oj e▸X8 [.pure _ (AV.tup [(Lt (v1.1.map X3)),(aI .i64 v1.2)])] (k:=fi)⟩
instance Xqz:PZ 90 (∀ (a0:Int) (r:Bool),X5o a0=some r->Pz 90 [(aI .i64 a0)] (aB r)):=⟨λa0 r=>by
 unfold X5o;exact psI fn90 9 λe=>oj e▸X8 [] (k:=fi)⟩
theorem X89 {Q:Qt} {μ:Mu} (X0f:(List Int)) (hl:X0f.length<=140737488355328):Dr X0f λxs k=>∀ o,Lq Tryz.prog 19 0 Q μ o (fun|.x0=>(.exit 0,⟨fr [],hp ([]),0⟩)|.x1 X83=>(.ret,⟨fr [(4,(aI .i64 X83))],hp ([]),0⟩))
  (X3l 0 (X1g Tryz.f119)) ⟨fr [(0,(Lf (List.map (aI .i64) X0f))),(1,(AV.fn 90 [])),(7,(aI .i64 (X0f.length:Int))),(8,(aI .i64 (k:Int)))],hp ([]),0⟩ (X0s X0f xs k ):=by
 refine drI ?_ ?_
 ·
  intro k hk hc  o C;rw[X0s];exact rdI<|λe=>X8 [Bf] (k:=wC e C)
 ·
  intro x xs k hk hg hc ih  o C;rw[X0s];exact rdI<|bI λv10 h11=>brI (λh12=>λe=>X8 [Bt,.el (aI .i64 x),.pure _ (aB v10),Bt] (k:=wC e C)) λh12=>rnK [Bt,.el (aI .i64 x),.pure _ (aB v10),Bf] (k:=wkI [] (ih   o C))
theorem X41 (a0:(List Int)) (r:Int) (h:X0r a0=some r):Pz 119 [(Lf (List.map (aI .i64) a0)),(AV.fn 90 [])] (aI .i64 r):=by
 refine X8t.sym Xh X0fi (nt:=19) rfl rfl ?_ okM;unfold X0r at h;revert h;refine bI λu1 h2=>?_;have qh2:=X1b h2;refine bI λo13 h14=>rnI [.el (aI .i64 (a0.length:Int))] ?_;intro h;refine wkT [] (X9.cut (drA (X89 a0 qh2) _ ?_ h14));revert h;rcases o13 with _|⟨X83⟩
 ·
  exact lGI rfl λe=>oj e▸X8 [] (k:=fi)
 exact lGI rfl λe=>oj e▸X8 [] (k:=fi)
theorem X1z (a0:(List Int)) (r:Bool) (h:Xy a0=some r):Pz 91 [(Lf (List.map (aI .i64) a0)),(AV.fn 90 [])] (aB r):=by
 refine X8t.sym Xh fn91 (nt:=9) rfl rfl ?_ okM;unfold Xy at h;revert h;exact bI λv1 h2=>λe=>oj e▸X8 [.pure [(Lf (List.map (aI .i64) a0)),(AV.fn 90 [])] (aI .i64 v1)] (o:=by repeat' first|apply Ya|exact pcM|exact(pn (X41 _ _ h2) (cc (X0z (Xr (λ_=>X7h) a0)) (cc .fn0 cn)))|exact X0y) (k:=fi)
theorem Xky (z:Int):∀ (ks:List Int),Xlu (.int .i64 z) (.bool true) (ks.map Xbk)=(Xdu ks z).map Xbk:=by
 intro ks;unfold Xdu
 induction ks with
 |nil=>simp[Xlu,Xbk]
 |cons a r ih =>
  simp only[List.map_cons,Xbk,Xlu];by_cases h:a=z
  ·subst h;simp[Xbk]
  have h1:¬ (Value.int .i64 a=Value.int .i64 z):=by simpa using h
  rw[if_neg h1];have ih':Xlu (.int .i64 z) (.bool true) (r.map Xbk)=(if z∈r then r else r++[z]).map Xbk:=ih;rw[ih'];have h2:¬ z=a:=λe=>h e.symm;by_cases hz:z∈r<;>simp[hz,h2,Xbk]
theorem X4o {Q:Qt} {μ:Mu} (b:Nat) (l:List Int) (hl:l.length<=140737488355328):∀ (xs:List Int) (k:Nat) (hx:l.drop k=xs) (ks:List Int)
  (C:SK 18 Q (.exit (.exit 0)) [] ⟨fr [(3,.sc (.map (some b)))],hp [],0⟩ ((b,(X5x ks xs).map Xbk)::μ)),
  SK 18 Q (.loop (X3l 0 (X1g Tryz.f92))) [] ⟨fr [(3,.sc (.map (some b))),(7,AV.list false (List.map (aI .i64) l)),(8,aI .i64 (l.length:Int)),(9,aI .i64 (k:Int))],hp [],0⟩ ((b,ks.map Xbk)::μ):=by
 intro xs
 induction xs with
 |nil =>
  intro k hx ks C;have hk:=drop_nil hx;have hc:=lpN hx;refine X9.round ?_;refine rn tmD [Bf] rfl (by repeat' first|apply Ya|exact hc|exact oblA) ?_;exact X9.weakTo [] C rfl (by repeat' first|apply Ya|exact wkA) trivial
 |cons x xs ih =>
  intro k hx ks C;obtain⟨hk,hg,hx1⟩:=drop_cons hx;have hc:=lpC hx;refine X9.round ?_;refine rn tmD [Bt,.el (aI .i64 x)] rfl (by repeat' first|apply Ya|exact hc|exact ixm hg|exact oblA) ?_;refine X9.mapUpd (d:=.int .i64) Xh rfl rfl rfl rfl rfl Tryz.underlying3 rfl rfl rfl trivial trivial trivial rfl (by
   intro p hp;obtain⟨z,_,rfl⟩:=List.mem_map.1 hp;rfl) ?_
  rw[Xky];refine X1j [] ?_;exact X9.weakTo [] (ih (k+1) hx1 (Xdu ks x) C) rfl (by repeat' first|apply Ya|exact wkA) trivial
theorem X33 (a0:(List Int)) (r:Int) (h:X1d a0=some r):Pz 92 [(Lf (List.map (aI .i64) a0))] (aI .i64 r):=by
 refine X8t.sym Xh fn92 (nt:=18) rfl rfl ?_ (Xg .list X3d);unfold X1d at h;refine X08k h ?_;clear h;intro u h1 h;have q1:=X1b h1;obtain rfl:=oj h;refine X1j [] ?_;refine X9.mapNew rfl rfl rfl λb=>?_;refine X1j [] ?_;refine X9.weakTo [] (X9.cut (X4o b a0 q1 a0 0 (by simp) [] ?_)) rfl (by repeat' first|apply Ya|exact wkA) trivial;refine X9.glue ?_;refine X1j [] ?_;refine X9.mapLen Xh rfl rfl rfl rfl rfl rfl trivial ?_;rw[List.length_map];refine X1j [] ?_;exact Xs4 rfl .sc
instance Xtr:PZ 69 (∀ (a0:(List Int)) (a1:Bool) (r:Int),X2c a0 a1=some r->Pz 69 [(Lf (List.map (aI .i64) a0)),(aB a1)] (aI .i64 r)):=⟨λa0 a1 r=>by
 unfold X2c;refine psI fn69 30<|brI (λh1=>λe=>oj e▸X8 [.el (aI .i64 (a0.length:Int)),Bt] (k:=fi)) λh1=>bI λX06v h17=>rnI [.el (aI .i64 (a0.length:Int)),Bf,.stop 4] ?_;exact jnI ⟨fr [(0,(Lf (List.map (aI .i64) a0))),(24,(aB X06v))],hp ([]),0⟩ h17 (brI (λh18=>λe=>oj e▸X8 [Bt] (k:=fi)) λh18=>bI λv19 h20=>brI (λh21=>λe=>oj e▸X8 [Bf,.pure [(Lf (List.map (aI .i64) a0))] (aI .i64 v19),.el (aI .i64 (a0.length:Int)),Bt] (o:=by repeat' first|apply Ya|exact pcM|exact(pn (X33 _ _ h20) (cc (X0z (Xr (λ_=>X7h) a0)) cn))|exact X0y) (k:=fi)) λh21=>λe=>oj e▸X8 [Bf,.pure [(Lf (List.map (aI .i64) a0))] (aI .i64 v19),.el (aI .i64 (a0.length:Int)),Bf] (o:=by repeat' first|apply Ya|exact pcM|exact(pn (X33 _ _ h20) (cc (X0z (Xr (λ_=>X7h) a0)) cn))|exact X0y) (k:=fi)) λJ=>brI (λh10=>λe=>X8 [.el (aI .i64 (a0.length:Int)),Gf,Gf,Gf,Gf,Gf,Gf,Gf,Gf,Gf] (o:=by repeat' first|apply Ya|exact pcM|exact fq (X5 h10 rfl)|exact X0y) (k:=wJ [] J)) λh10=>brI (λh11=>brI (λh12=>λe=>X8 [.el (aI .i64 (a0.length:Int)),Gt,Gt,Gt,Gt,.el (aI .i64 (a0.length:Int)),Gt,Gt,Gf,Gf,Gf] (o:=by repeat' first|apply Ya|exact pcM|exact fq (Xb h10 (X5 h11 h12))|exact X0y) (k:=wJ [] J)) λh12=>bI λv13 h14=>λe=>X8 [.el (aI .i64 (a0.length:Int)),Gt,Gt,Gt,Gt,.el (aI .i64 (a0.length:Int)),Gt,Gt,Gt,Gt,Gt,.pure [(Lf (List.map (aI .i64) a0)),(AV.fn 90 [])] (aB v13)] (o:=by repeat' first|apply Ya|exact pcM|exact fq (Xb h10 (X5 h11 h12))|exact(pn (X1z _ _ h14) (cc (X0z (Xr (λ_=>X7h) a0)) (cc .fn0 cn)))|exact X0y) (k:=wJ [] J)) λh11=>bI λv15 h16=>λe=>X8 [.el (aI .i64 (a0.length:Int)),Gt,Gt,Gf,Gf,Gf,Gt,Gt,Gt,Gt,.pure [(Lf (List.map (aI .i64) a0)),(AV.fn 90 [])] (aB v15)] (o:=by repeat' first|apply Ya|exact pcM|exact fq (Xb h10 (Xb h11 rfl))|exact(pn (X1z _ _ h16) (cc (X0z (Xr (λ_=>X7h) a0)) (cc .fn0 cn)))|exact X0y) (k:=wJ [] J)⟩
instance Xbp:PZ 70 (∀ (a0:Xi) (r:Int),X1q a0=some r->Pz 70 [(X7y a0)] (aI .i64 r)):=⟨λa0 r=>by
 unfold X1q;exact psI fn70 40<|brI (λh1=>λe=>oj e▸X8 [Bt] (k:=fi)) λh1=>brI (λh2=>brI (λh3=>λe=>oj e▸X8 [Bf,Bt,.wrap,Bt] (k:=fi)) λh3=>λe=>oj e▸X8 [Bf,Bt,.wrap,Bf] (k:=fi)) λh2=>brI (λh4=>brI (λh5=>λe=>oj e▸X8 [Bf,Bf,Bt,Bt] (k:=fi)) λh5=>λe=>oj e▸X8 [Bf,Bf,Bt,Bf] (k:=fi)) λh4=>brI (λh6=>brI (λh7=>λe=>oj e▸X8 [Bf,Bf,Bf,Bt,Bt] (k:=fi)) λh7=>λe=>oj e▸X8 [Bf,Bf,Bf,Bt,Bf] (k:=fi)) λh6=>λe=>oj e▸X8 [Bf,Bf,Bf,Bf] (k:=fi)⟩
instance Xvl:PZ 41 (∀ (a0:X6) (r:Int),X75 a0=some r->Pz 41 [(Xa false a0)] (aI .i64 r)):=⟨λa0 r=>by
 unfold X75;refine psI fn41 66<|brI (λh1=>λe=>oj e▸X8 [Bt] (k:=fi)) λh1=>?_;refine brI (λh2=>?_) λh2=>?_
 ·
  refine bI λv3 h4=>brI (λh5=>λe=>oj e▸X8 [Bf,Bt,.pure _ (aI .i64 v3),Bt] (k:=fi)) λh5=>?_;refine brI (λh6=>?_) λh6=>bI λv16 h17=>brI (λh18=>λe=>oj e▸X8 [Bf,Bt,.pure _ (aI .i64 v3),Bf,.el (aI .i64 (a0.Where.length:Int)),Bf,.pure _ (aI .i64 v16),Bt] (k:=fi)) λh18=>brI (λh19=>λe=>oj e▸X8 [Bf,Bt,.pure _ (aI .i64 v3),Bf,.el (aI .i64 (a0.Where.length:Int)),Bf,.pure _ (aI .i64 v16),Bf,Bt] (k:=fi)) λh19=>bI λv20 h21=>λe=>oj e▸X8 [Bf,Bt,.pure _ (aI .i64 v3),Bf,.el (aI .i64 (a0.Where.length:Int)),Bf,.pure _ (aI .i64 v16),Bf,Bf,.pure _ (aI .i64 v20)] (k:=fi);refine bI λv7 h8=>brI (λh9=>λe=>oj e▸X8 [Bf,Bt,.pure _ (aI .i64 v3),Bf,.el (aI .i64 (a0.Where.length:Int)),Bt,.pure _ (aI .i64 v7),Bt] (k:=fi)) λh9=>bI λv10 h11=>rnI [Bf,Bt,.pure _ (aI .i64 v3),Bf,.el (aI .i64 (a0.Where.length:Int)),Bt,.pure _ (aI .i64 v7),Bf,.pure _ (aI .i64 v10)] ?_;exact brI (λh12=>λe=>oj e▸X8 [Bt] (k:=fi)) λh12=>brI (λh13=>λe=>oj e▸X8 [Bf,Bt] (k:=fi)) λh13=>bI λv14 h15=>λe=>oj e▸X8 [Bf,Bf,.pure _ (aI .i64 v14)] (k:=fi)
 refine brI (λh22=>λe=>oj e▸X8 [Bf,Bf,.el (aI .i64 (a0.Arg.length:Int)),Bt] (k:=fi)) λh22=>?_;refine brI (λh23=>?_) λh23=>?_
 ·
  refine bI λv24 h25=>rnI [Bf,Bf,.el (aI .i64 (a0.Arg.length:Int)),Bf,.el (aI .i64 (a0.Where.length:Int)),Bt,.pure _ (aI .i64 v24)] ?_;exact brI (λh26=>λe=>oj e▸X8 [Bt] (k:=fi)) λh26=>bI λv27 h28=>brI (λh29=>λe=>oj e▸X8 [Bf,.pure _ (aI .i64 v27),Bt] (k:=fi)) λh29=>brI (λh30=>λe=>oj e▸X8 [Bf,.pure _ (aI .i64 v27),Bf,Bt] (k:=fi)) λh30=>bI λv31 h32=>λe=>oj e▸X8 [Bf,.pure _ (aI .i64 v27),Bf,Bf,.pure _ (aI .i64 v31)] (k:=fi)
 refine bI λv33 h34=>rnI [Bf,Bf,.el (aI .i64 (a0.Arg.length:Int)),Bf,.el (aI .i64 (a0.Where.length:Int)),Bf,.pure _ (aI .i64 v33)] ?_;exact brI (λh35=>λe=>oj e▸X8 [Bt] (k:=fi)) λh35=>brI (λh36=>λe=>oj e▸X8 [Bf,Bt] (k:=fi)) λh36=>bI λv37 h38=>λe=>oj e▸X8 [Bf,Bf,.pure _ (aI .i64 v37)] (k:=fi)⟩
theorem X4t {Q:Qt} {μ:Mu} (Xc:(List Bool)) (X40:(V2 Bool)) (X6i:(List Int)) (X00:Nb Xc) (hl:X6i.length<=140737488355328):Dr X6i λxs k=>∀ o,Lq Tryz.prog 21 4 Q μ o (fun|.x0=>(.exit 0,⟨fr [],hp ([(0,Ob [(slE X00.1 1 (Xc.map aB))] 1),(2,Ob [(X9b X40)] 2),(3,Ob (List.map (aI .i64) X6i) 1)]++opE X00.1 1 1 (Xc.map aB)),4⟩)|.x1=>(.ret,⟨fr [(5,(aB false))],hp ([(0,Ob [(slE X00.1 1 (Xc.map aB))] 1),(2,Ob [(X9b X40)] 2),(3,Ob (List.map (aI .i64) X6i) 1)]++opE X00.1 1 1 (Xc.map aB)),4⟩))
  (X3l 0 (X1g Tryz.f141)) ⟨fr [(0,(aB false)),(2,(AV.ptr 0 0 0)),(8,(AV.ref 3 0 (X6i.length))),(9,(aI .i64 (X6i.length:Int))),(10,(aI .i64 (k:Int)))],hp ([(0,Ob [(slE X00.1 1 (Xc.map aB))] 1),(2,Ob [(X9b X40)] 2),(3,Ob (List.map (aI .i64) X6i) 1)]++opE X00.1 1 1 (Xc.map aB)),4⟩ (X08 Xc X40 X6i xs k ):=by
 refine drI ?_ ?_
 ·
  intro k hk hc  o C;rw[X08];intro h;rcases X00 with ⟨_|_,X12⟩<;>(try obtain rfl:=X12 rfl);all_goals
   refine X9.round ?_;revert h;exact λe=>X8 [Bf] (k:=wC e C)
 ·
  intro x xs k hk hg hc ih  o C;rw[X08];intro h;rcases X00 with ⟨_|_,X12⟩
  ·
   refine X9.round ?_;revert h;refine bI λe3011 h3012=>?_;try have qh3012:=Xo h3012
   exact brI (λh3013=>λe=>X8 [Bt,.el (aI .i64 x),.ld (aI .i64 x),.el (aB e3011),.ld (aB e3011),Bt] (k:=wC e C)) λh3013=>rnK [Bt,.el (aI .i64 x),.ld (aI .i64 x),.el (aB e3011),.ld (aB e3011),Bf] (k:=wkI [] (ih   o C))
  obtain rfl:=X12 rfl;refine X9.round ?_;revert h;refine bI λe3014 h3015=>?_;try have qh3015:=Xo h3015
  intro h
  first|exact absurd (h3015) (by simp[getI];done)|(simp[getI,hc] at h;done)|(simp[hc] at hg;done)|exact absurd (h3015) (by simp[getI,hc];done)
theorem X1r {Q:Qt} {μ:Mu} (Xc:(List Bool)) (X6h:(List Int)) (X00:Nb Xc) (hl:X6h.length<=140737488355328):Dr X6h λxs k=>∀ o,Lq Tryz.prog 21 4 Q μ o (fun|.x0=>(.exit 0,⟨fr [],hp ([(0,Ob [(slE X00.1 1 (Xc.map aB))] 1)]++opE X00.1 1 1 (Xc.map aB)),4⟩)|.x1=>(.ret,⟨fr [(5,(aB false))],hp ([(0,Ob [(slE X00.1 1 (Xc.map aB))] 1)]++opE X00.1 1 1 (Xc.map aB)),4⟩))
  (X3l 0 (X1g Tryz.f141)) ⟨fr [(0,(aB true)),(2,(AV.ptr 0 0 0)),(8,(AV.ref 4 0 (X6h.length))),(9,(aI .i64 (X6h.length:Int))),(10,(aI .i64 (k:Int)))],hp ([(0,Ob [(slE X00.1 1 (Xc.map aB))] 1),(4,Ob (List.map (aI .i64) X6h) 1)]++opE X00.1 1 1 (Xc.map aB)),5⟩ (X09 Xc X6h xs k ):=by
 refine drI ?_ ?_
 ·
  intro k hk hc  o C;rw[X09];intro h;rcases X00 with ⟨_|_,X12⟩<;>(try obtain rfl:=X12 rfl);all_goals
   refine X9.round ?_;revert h;exact λe=>X8 [Bf] (k:=wC e C)
 ·
  intro x xs k hk hg hc ih  o C;rw[X09];intro h;rcases X00 with ⟨_|_,X12⟩
  ·
   refine X9.round ?_;revert h;refine bI λe3127 h3128=>?_;try have qh3128:=Xo h3128
   exact brI (λh3129=>λe=>X8 [Bt,.el (aI .i64 x),.ld (aI .i64 x),.el (aB e3127),.ld (aB e3127),Bt] (k:=wC e C)) λh3129=>rnK [Bt,.el (aI .i64 x),.ld (aI .i64 x),.el (aB e3127),.ld (aB e3127),Bf] (k:=wkI [] (ih   o C))
  obtain rfl:=X12 rfl;refine X9.round ?_;revert h;refine bI λe3130 h3131=>?_;try have qh3131:=Xo h3131
  intro h
  first|exact absurd (h3131) (by simp[getI];done)|(simp[getI,hc] at h;done)|(simp[hc] at hg;done)|exact absurd (h3131) (by simp[getI,hc];done)
end Go.Av.Tryz