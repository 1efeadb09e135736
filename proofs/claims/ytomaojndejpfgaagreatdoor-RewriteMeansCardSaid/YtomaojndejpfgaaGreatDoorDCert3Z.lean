/- Printed by decomp.py: that the program computes the functions. -/
import Derived.Test.YtomaojndejpfgaaGreatDoorDCert2Z
set_option linter.all false

namespace Go.Av.Tryz
open Go.Proofs Go.D Go.Proofs.Tryz
set_option maxRecDepth 10000
set_option maxHeartbeats 40000000
instance X04u:PZ 146 (∀ (a0:(List X4)) (r:(List Xh)×Bool),Xdt a0=some r->Pz 146 [(Lf (a0.map X0))] (AV.tup [(Lt (r.1.map X5)),(aB r.2)])):=⟨λa0 r=>by
 unfold Xdt;refine psI X0j2 105<|bI λu1 h2=>?_;have qh2:=X0e h2;refine bI λo427 h428=>rnI [.el (aI .i64 (a0.length:Int))] ?_;intro h;refine wkT [] (X7.cut (Xil a0 qh2 a0 0 (by simp) _ _ nbS nbS _ h428 ?_ ?_))
 ·
  intro Xo X00 X02 X07 eo427;subst eo427;refine X7.glue ?_;try dsimp only at h
  rcases X02 with ⟨_|_,X1p⟩<;>(try obtain rfl:=X1p rfl);all_goals
   rcases X07 with ⟨_|_,X29⟩
   ·
    revert h;exact λe=>oj e▸X8 [.el (aI .i64 (X00.length:Int))] (k:=fi)
   obtain rfl:=X29 rfl;revert h;exact λe=>oj e▸X8 [.el (aI .i64 (List.length ([]:List Xh):Int))] (k:=fi)
 intro Xy Xx eo427;subst eo427;refine X7.glue ?_;try dsimp only at h
 rcases Xx with ⟨_|_,X1o⟩<;>(try obtain rfl:=X1o rfl);all_goals
  revert h;exact λe=>oj e▸X8 [] (k:=fi)⟩
instance X03m:PZ 101 (∀ (a0:(List X4)) (r:(List Xh)×Int),X7m a0=some r->Pz 101 [(Lf (a0.map X0))] (AV.tup [(Lt (r.1.map X5)),(aI .i64 r.2)])):=⟨λa0 r=>by
 unfold X7m;refine psI X0jn 25<|brI (λh1=>λe=>oj e▸X8 [.el (aI .i64 (a0.length:Int)),Bt] (k:=fi)) λh1=>bI λv2 h3=>brI (λh4=>λe=>oj e▸X8 [.el (aI .i64 (a0.length:Int)),Bf,.pure _ (AV.tup [(Lt (v2.1.map X5)),(aB v2.2)]),Bt] (k:=fi)) λh4=>bI λe5 h6=>?_;try have qh6:=Xq h6
 refine rnI [.el (aI .i64 (a0.length:Int)),Bf,.pure _ (AV.tup [(Lt (v2.1.map X5)),(aB v2.2)]),Bf,.el (aI .i64 (v2.1.length:Int)),.wrap,.el (X5 e5)] ?_;exact brI (λh7=>λe=>oj e▸X8 [Bt] (k:=fi)) λh7=>λe=>oj e▸X8 [Bf] (k:=fi)⟩
instance X03o:PZ 65 (∀ (a0:(List X4)) (r:Int),X1v a0=some r->Pz 65 [(Lf (a0.map X0))] (aI .i64 r)):=⟨λa0 r=>by
 unfold X1v;exact psI fn65 11<|bI λv1 h2=>λe=>oj e▸X8 [.pure _ (AV.tup [(Lt (v1.1.map X5)),(aI .i64 v1.2)])] (k:=fi)⟩
instance Xrj:PZ 102 (∀ (a0:Int) (r:Bool),X5k a0=some r->Pz 102 [(aI .i64 a0)] (aB r)):=⟨λa0 r=>by
 unfold X5k;exact psI X0jm 9 λe=>oj e▸X8 [] (k:=fi)⟩
theorem X85 {Q:Qt} {μ:Mu} (X0g:(List Int)) (hl:X0g.length<=140737488355328):Dr X0g λxs k=>∀ o,Lq Tryz.prog 19 0 Q μ o (fun|.x0=>(.exit 0,⟨fr [],hp ([]),0⟩)|.x1 X72=>(.ret,⟨fr [(4,(aI .i64 X72))],hp ([]),0⟩))
  (X64 0 (X1l Tryz.f147)) ⟨fr [(0,(Lf (List.map (aI .i64) X0g))),(1,(AV.fn 102 [])),(7,(aI .i64 (X0g.length:Int))),(8,(aI .i64 (k:Int)))],hp ([]),0⟩ (X0m X0g xs k):=by
 refine drI ?_ ?_
 ·
  intro k hk hc o C;rw[X0m];exact rdI<|λe=>X8 [Bf] (k:=wC e C)
 ·
  intro x xs k hk hg hc ih o C;rw[X0m];exact rdI<|bI λv10 h11=>brI (λh12=>λe=>X8 [Bt,.el (aI .i64 x),.pure _ (aB v10),Bt] (k:=wC e C)) λh12=>rnK [Bt,.el (aI .i64 x),.pure _ (aB v10),Bf] (k:=wkI [] (ih o C))
theorem X3v (a0:(List Int)) (r:Int) (h:X0l a0=some r):Pz 147 [(Lf (List.map (aI .i64) a0)),(AV.fn 102 [])] (aI .i64 r):=by
 refine X76.sym Xf X0j1 (nt:=19) rfl rfl ?_ okM;unfold X0l at h;revert h;refine bI λu1 h2=>?_;have qh2:=X0e h2;refine bI λo13 h14=>rnI [.el (aI .i64 (a0.length:Int))] ?_;intro h;refine wkT [] (X7.cut (drA (X85 a0 qh2) _ ?_ h14));revert h;rcases o13 with _|⟨X72⟩
 ·
  exact lGI rfl λe=>oj e▸X8 [] (k:=fi)
 exact lGI rfl λe=>oj e▸X8 [] (k:=fi)
theorem X1g (a0:(List Int)) (r:Bool) (h:Xw a0=some r):Pz 103 [(Lf (List.map (aI .i64) a0)),(AV.fn 102 [])] (aB r):=by
 refine X76.sym Xf X0jl (nt:=9) rfl rfl ?_ okM;unfold Xw at h;revert h;exact bI λv1 h2=>λe=>oj e▸X8 [.pure [(Lf (List.map (aI .i64) a0)),(AV.fn 102 [])] (aI .i64 v1)] (o:=by repeat' first|apply Ya|exact pcM|exact(pn (X3v _ _ h2) (cc (X58 (X1s (λ_=>Xi0) a0)) (cc .fn0 cn)))|exact X24) (k:=fi)
theorem Xkt (z:Int):∀ (ks:List Int),Xlx (.int .i64 z) (.bool true) (ks.map Xbi)=(Xdl ks z).map Xbi:=by
 intro ks;unfold Xdl
 induction ks with
 |nil=>simp[Xlx,Xbi]
 |cons a r ih =>
  simp only[List.map_cons,Xbi,Xlx];by_cases h:a=z
  ·subst h;simp[Xbi]
  have h1:¬ (Value.int .i64 a=Value.int .i64 z):=by simpa using h
  rw[if_neg h1];have ih':Xlx (.int .i64 z) (.bool true) (r.map Xbi)=(if z∈r then r else r++[z]).map Xbi:=ih;rw[ih'];have h2:¬ z=a:=λe=>h e.symm;by_cases hz:z∈r<;>simp[hz,h2,Xbi]
theorem X4c {Q:Qt} {μ:Mu} (b:Nat) (l:List Int) (hl:l.length<=140737488355328):∀ (xs:List Int) (k:Nat) (hx:l.drop k=xs) (ks:List Int)
  (C:SK 18 Q (.exit (.exit 0)) [] ⟨fr [(3,.sc (.map (some b)))],hp [],0⟩ ((b,(X5u ks xs).map Xbi)::μ)),
  SK 18 Q (.loop (X64 0 (X1l Tryz.f104))) [] ⟨fr [(3,.sc (.map (some b))),(7,AV.list false (List.map (aI .i64) l)),(8,aI .i64 (l.length:Int)),(9,aI .i64 (k:Int))],hp [],0⟩ ((b,ks.map Xbi)::μ):=by
 intro xs
 induction xs with
 |nil =>
  intro k hx ks C;have hk:=drop_nil hx;have hc:=lpN hx;refine X7.round ?_;refine rn tmD [Bf] rfl (by repeat' first|apply Ya|exact hc|exact oblA) ?_;exact X7.weakTo [] C rfl (by repeat' first|apply Ya|exact wkA) trivial
 |cons x xs ih =>
  intro k hx ks C;obtain⟨hk,hg,hx1⟩:=drop_cons hx;have hc:=lpC hx;refine X7.round ?_;refine rn tmD [Bt,.el (aI .i64 x)] rfl (by repeat' first|apply Ya|exact hc|exact ixm hg|exact oblA) ?_;refine X7.mapUpd (d:=.int .i64) Xf rfl rfl rfl rfl rfl Tryz.underlying3 rfl rfl rfl trivial trivial trivial rfl (by
   intro p hp;obtain⟨z,_,rfl⟩:=List.mem_map.1 hp;rfl) ?_
  rw[Xkt];refine X0q [] ?_;exact X7.weakTo [] (ih (k+1) hx1 (Xdl ks x) C) rfl (by repeat' first|apply Ya|exact wkA) trivial
theorem X2v (a0:(List Int)) (r:Int) (h:X0x a0=some r):Pz 104 [(Lf (List.map (aI .i64) a0))] (aI .i64 r):=by
 refine X76.sym Xf X0b4 (nt:=18) rfl rfl ?_ (X14 .list X74);unfold X0x at h;refine X0c4 h ?_;clear h;intro u h1 h;have q1:=X0e h1;obtain rfl:=oj h;refine X0q [] ?_;refine X7.mapNew rfl rfl rfl λb=>?_;refine X0q [] ?_;refine X7.weakTo [] (X7.cut (X4c b a0 q1 a0 0 (by simp) [] ?_)) rfl (by repeat' first|apply Ya|exact wkA) trivial;refine X7.glue ?_;refine X0q [] ?_;refine X7.mapLen Xf rfl rfl rfl rfl rfl rfl trivial ?_;rw[List.length_map];refine X0q [] ?_;exact Xtq rfl .sc
instance Xvm:PZ 66 (∀ (a0:(List Int)) (a1:Bool) (r:Int),X1z a0 a1=some r->Pz 66 [(Lf (List.map (aI .i64) a0)),(aB a1)] (aI .i64 r)):=⟨λa0 a1 r=>by
 unfold X1z;refine psI fn66 30<|brI (λh1=>λe=>oj e▸X8 [.el (aI .i64 (a0.length:Int)),Bt] (k:=fi)) λh1=>bI λX0ad h17=>rnI [.el (aI .i64 (a0.length:Int)),Bf,.stop 4] ?_;exact jnI ⟨fr [(0,(Lf (List.map (aI .i64) a0))),(24,(aB X0ad))],hp ([]),0⟩ h17 (brI (λh18=>λe=>oj e▸X8 [Bt] (k:=fi)) λh18=>bI λv19 h20=>brI (λh21=>λe=>oj e▸X8 [Bf,.pure [(Lf (List.map (aI .i64) a0))] (aI .i64 v19),.el (aI .i64 (a0.length:Int)),Bt] (o:=by repeat' first|apply Ya|exact pcM|exact(pn (X2v _ _ h20) (cc (X58 (X1s (λ_=>Xi0) a0)) cn))|exact X24) (k:=fi)) λh21=>λe=>oj e▸X8 [Bf,.pure [(Lf (List.map (aI .i64) a0))] (aI .i64 v19),.el (aI .i64 (a0.length:Int)),Bf] (o:=by repeat' first|apply Ya|exact pcM|exact(pn (X2v _ _ h20) (cc (X58 (X1s (λ_=>Xi0) a0)) cn))|exact X24) (k:=fi)) λJ=>brI (λh10=>λe=>X8 [.el (aI .i64 (a0.length:Int)),Gf,Gf,Gf,Gf,Gf,Gf,Gf,Gf,Gf] (o:=by repeat' first|apply Ya|exact pcM|exact fq (X02h h10 rfl)|exact X24) (k:=wJ [] J)) λh10=>brI (λh11=>brI (λh12=>λe=>X8 [.el (aI .i64 (a0.length:Int)),Gt,Gt,Gt,Gt,.el (aI .i64 (a0.length:Int)),Gt,Gt,Gf,Gf,Gf] (o:=by repeat' first|apply Ya|exact pcM|exact fq (Xrc h10 (X02h h11 h12))|exact X24) (k:=wJ [] J)) λh12=>bI λv13 h14=>λe=>X8 [.el (aI .i64 (a0.length:Int)),Gt,Gt,Gt,Gt,.el (aI .i64 (a0.length:Int)),Gt,Gt,Gt,Gt,Gt,.pure [(Lf (List.map (aI .i64) a0)),(AV.fn 102 [])] (aB v13)] (o:=by repeat' first|apply Ya|exact pcM|exact fq (Xrc h10 (X02h h11 h12))|exact(pn (X1g _ _ h14) (cc (X58 (X1s (λ_=>Xi0) a0)) (cc .fn0 cn)))|exact X24) (k:=wJ [] J)) λh11=>bI λv15 h16=>λe=>X8 [.el (aI .i64 (a0.length:Int)),Gt,Gt,Gf,Gf,Gf,Gt,Gt,Gt,Gt,.pure [(Lf (List.map (aI .i64) a0)),(AV.fn 102 [])] (aB v15)] (o:=by repeat' first|apply Ya|exact pcM|exact fq (Xrc h10 (Xrc h11 rfl))|exact(pn (X1g _ _ h16) (cc (X58 (X1s (λ_=>Xi0) a0)) (cc .fn0 cn)))|exact X24) (k:=wJ [] J)⟩
instance X3x:PZ 57 (∀ (a0:Xn) (r:Int),X0y a0=some r->Pz 57 [(X39 a0)] (aI .i64 r)):=⟨λa0 r=>by
 unfold X0y;exact psI fn57 40<|brI (λh1=>λe=>oj e▸X8 [Bt] (k:=fi)) λh1=>brI (λh2=>brI (λh3=>λe=>oj e▸X8 [Bf,Bt,.wrap,Bt] (k:=fi)) λh3=>λe=>oj e▸X8 [Bf,Bt,.wrap,Bf] (k:=fi)) λh2=>brI (λh4=>brI (λh5=>λe=>oj e▸X8 [Bf,Bf,Bt,Bt] (k:=fi)) λh5=>λe=>oj e▸X8 [Bf,Bf,Bt,Bf] (k:=fi)) λh4=>brI (λh6=>brI (λh7=>λe=>oj e▸X8 [Bf,Bf,Bf,Bt,Bt] (k:=fi)) λh7=>λe=>oj e▸X8 [Bf,Bf,Bf,Bt,Bf] (k:=fi)) λh6=>λe=>oj e▸X8 [Bf,Bf,Bf,Bf] (k:=fi)⟩
instance Xyb:PZ 34 (∀ (a0:Xb) (r:Int),X6u a0=some r->Pz 34 [(Xc false a0)] (aI .i64 r)):=⟨λa0 r=>by
 unfold X6u;refine psI fn34 66<|brI (λh1=>λe=>oj e▸X8 [Bt] (k:=fi)) λh1=>?_;refine brI (λh2=>?_) λh2=>?_
 ·
  refine bI λv3 h4=>brI (λh5=>λe=>oj e▸X8 [Bf,Bt,.pure _ (aI .i64 v3),Bt] (k:=fi)) λh5=>?_;refine brI (λh6=>?_) λh6=>bI λv16 h17=>brI (λh18=>λe=>oj e▸X8 [Bf,Bt,.pure _ (aI .i64 v3),Bf,.el (aI .i64 (a0.Where.length:Int)),Bf,.pure _ (aI .i64 v16),Bt] (k:=fi)) λh18=>brI (λh19=>λe=>oj e▸X8 [Bf,Bt,.pure _ (aI .i64 v3),Bf,.el (aI .i64 (a0.Where.length:Int)),Bf,.pure _ (aI .i64 v16),Bf,Bt] (k:=fi)) λh19=>bI λv20 h21=>λe=>oj e▸X8 [Bf,Bt,.pure _ (aI .i64 v3),Bf,.el (aI .i64 (a0.Where.length:Int)),Bf,.pure _ (aI .i64 v16),Bf,Bf,.pure _ (aI .i64 v20)] (k:=fi);refine bI λv7 h8=>brI (λh9=>λe=>oj e▸X8 [Bf,Bt,.pure _ (aI .i64 v3),Bf,.el (aI .i64 (a0.Where.length:Int)),Bt,.pure _ (aI .i64 v7),Bt] (k:=fi)) λh9=>bI λv10 h11=>rnI [Bf,Bt,.pure _ (aI .i64 v3),Bf,.el (aI .i64 (a0.Where.length:Int)),Bt,.pure _ (aI .i64 v7),Bf,.pure _ (aI .i64 v10)] ?_;exact brI (λh12=>λe=>oj e▸X8 [Bt] (k:=fi)) λh12=>brI (λh13=>λe=>oj e▸X8 [Bf,Bt] (k:=fi)) λh13=>bI λv14 h15=>λe=>oj e▸X8 [Bf,Bf,.pure _ (aI .i64 v14)] (k:=fi)
 refine brI (λh22=>λe=>oj e▸X8 [Bf,Bf,.el (aI .i64 (a0.Arg.length:Int)),Bt] (k:=fi)) λh22=>?_;refine brI (λh23=>?_) λh23=>?_
 ·
  refine bI λv24 h25=>rnI [Bf,Bf,.el (aI .i64 (a0.Arg.length:Int)),Bf,.el (aI .i64 (a0.Where.length:Int)),Bt,.pure _ (aI .i64 v24)] ?_;exact brI (λh26=>λe=>oj e▸X8 [Bt] (k:=fi)) λh26=>bI λv27 h28=>brI (λh29=>λe=>oj e▸X8 [Bf,.pure _ (aI .i64 v27),Bt] (k:=fi)) λh29=>brI (λh30=>λe=>oj e▸X8 [Bf,.pure _ (aI .i64 v27),Bf,Bt] (k:=fi)) λh30=>bI λv31 h32=>λe=>oj e▸X8 [Bf,.pure _ (aI .i64 v27),Bf,Bf,.pure _ (aI .i64 v31)] (k:=fi)
 refine bI λv33 h34=>rnI [Bf,Bf,.el (aI .i64 (a0.Arg.length:Int)),Bf,.el (aI .i64 (a0.Where.length:Int)),Bf,.pure _ (aI .i64 v33)] ?_;exact brI (λh35=>λe=>oj e▸X8 [Bt] (k:=fi)) λh35=>brI (λh36=>λe=>oj e▸X8 [Bf,Bt] (k:=fi)) λh36=>bI λv37 h38=>λe=>oj e▸X8 [Bf,Bf,.pure _ (aI .i64 v37)] (k:=fi)⟩
theorem X4h {Q:Qt} {μ:Mu} (Xe:(List Bool)) (X5q:(V2 Bool)) (X0t:(List Int)) (Xp:Nb Xe) (hl:X0t.length<=140737488355328):Dr X0t λxs k=>∀ o,Lq Tryz.prog 21 4 Q μ o (fun|.x0=>(.exit 0,⟨fr [],hp ([(0,Ob [(slE Xp.1 1 (Xe.map aB))] 1),(2,Ob [(X8v X5q)] 2),(3,Ob (List.map (aI .i64) X0t) 1)]++opE Xp.1 1 1 (Xe.map aB)),4⟩)|.x1=>(.ret,⟨fr [(5,(aB false))],hp ([(0,Ob [(slE Xp.1 1 (Xe.map aB))] 1),(2,Ob [(X8v X5q)] 2),(3,Ob (List.map (aI .i64) X0t) 1)]++opE Xp.1 1 1 (Xe.map aB)),4⟩))
  (X64 0 (X1l Tryz.f154)) ⟨fr [(0,(aB false)),(2,(AV.ptr 0 0 0)),(8,(AV.ref 3 0 (X0t.length))),(9,(aI .i64 (X0t.length:Int))),(10,(aI .i64 (k:Int)))],hp ([(0,Ob [(slE Xp.1 1 (Xe.map aB))] 1),(2,Ob [(X8v X5q)] 2),(3,Ob (List.map (aI .i64) X0t) 1)]++opE Xp.1 1 1 (Xe.map aB)),4⟩ (X0b Xe X5q X0t xs k):=by
 refine drI ?_ ?_
 ·
  intro k hk hc o C;rw[X0b];intro h;rcases Xp with ⟨_|_,X06⟩<;>(try obtain rfl:=X06 rfl);all_goals
   refine X7.round ?_;revert h;exact λe=>X8 [Bf] (k:=wC e C)
 ·
  intro x xs k hk hg hc ih o C;rw[X0b];intro h;rcases Xp with ⟨_|_,X06⟩
  ·
   refine X7.round ?_;revert h;refine bI λe3011 h3012=>?_;try have qh3012:=Xq h3012
   exact brI (λh3013=>λe=>X8 [Bt,.el (aI .i64 x),.ld (aI .i64 x),.el (aB e3011),.ld (aB e3011),Bt] (k:=wC e C)) λh3013=>rnK [Bt,.el (aI .i64 x),.ld (aI .i64 x),.el (aB e3011),.ld (aB e3011),Bf] (k:=wkI [] (ih o C))
  obtain rfl:=X06 rfl;refine X7.round ?_;revert h;refine bI λe3014 h3015=>?_;try have qh3015:=Xq h3015
  intro h
  first|exact absurd (h3015) (by simp[getI];done)|(simp[getI,hc] at h;done)|(simp[hc] at hg;done)|exact absurd (h3015) (by simp[getI,hc];done)
theorem X1a {Q:Qt} {μ:Mu} (Xe:(List Bool)) (X1k:(List Int)) (Xp:Nb Xe) (hl:X1k.length<=140737488355328):Dr X1k λxs k=>∀ o,Lq Tryz.prog 21 4 Q μ o (fun|.x0=>(.exit 0,⟨fr [],hp ([(0,Ob [(slE Xp.1 1 (Xe.map aB))] 1)]++opE Xp.1 1 1 (Xe.map aB)),4⟩)|.x1=>(.ret,⟨fr [(5,(aB false))],hp ([(0,Ob [(slE Xp.1 1 (Xe.map aB))] 1)]++opE Xp.1 1 1 (Xe.map aB)),4⟩))
  (X64 0 (X1l Tryz.f154)) ⟨fr [(0,(aB true)),(2,(AV.ptr 0 0 0)),(8,(AV.ref 4 0 (X1k.length))),(9,(aI .i64 (X1k.length:Int))),(10,(aI .i64 (k:Int)))],hp ([(0,Ob [(slE Xp.1 1 (Xe.map aB))] 1),(4,Ob (List.map (aI .i64) X1k) 1)]++opE Xp.1 1 1 (Xe.map aB)),5⟩ (X0c Xe X1k xs k):=by
 refine drI ?_ ?_
 ·
  intro k hk hc o C;rw[X0c];intro h;rcases Xp with ⟨_|_,X06⟩<;>(try obtain rfl:=X06 rfl);all_goals
   refine X7.round ?_;revert h;exact λe=>X8 [Bf] (k:=wC e C)
 ·
  intro x xs k hk hg hc ih o C;rw[X0c];intro h;rcases Xp with ⟨_|_,X06⟩
  ·
   refine X7.round ?_;revert h;refine bI λe3127 h3128=>?_;try have qh3128:=Xq h3128
   exact brI (λh3129=>λe=>X8 [Bt,.el (aI .i64 x),.ld (aI .i64 x),.el (aB e3127),.ld (aB e3127),Bt] (k:=wC e C)) λh3129=>rnK [Bt,.el (aI .i64 x),.ld (aI .i64 x),.el (aB e3127),.ld (aB e3127),Bf] (k:=wkI [] (ih o C))
  obtain rfl:=X06 rfl;refine X7.round ?_;revert h;refine bI λe3130 h3131=>?_;try have qh3131:=Xq h3131
  intro h
  first|exact absurd (h3131) (by simp[getI];done)|(simp[getI,hc] at h;done)|(simp[hc] at hg;done)|exact absurd (h3131) (by simp[getI,hc];done)
end Go.Av.Tryz