/- Printed by decomp.py: that the program computes the functions. -/
import Derived.Test.YtnfamdbgcgjlaaaGreatDoorDCert2Z
set_option linter.all false

namespace Go.Av.Tryz
open Go.Proofs Go.D
set_option maxRecDepth 10000
set_option maxHeartbeats 40000000
instance Xsm:PCs Tryz.prog 102 (∀ (a0:(List X1)) (r:(List Xe)×Bool),Xa9 a0=some r->X06 Tryz.prog 102 [(Lf (a0.map X0))] (AV.tup [(Lt (r.1.map X2)),(aB r.2)])):=⟨λa0 r h=>by
 refine X06.sym X7 X05d (nt:=105) rfl rfl ?_ okM;unfold Xa9 at h;revert h;refine bI λu1 h2=>?_;have qh2:=X1x h2;refine bI λo475 h476=>rnI [.el (aI .i64 (a0.length:Int))] ?_;intro h;refine wkT [] (X4.cut (Xdk a0 qh2 a0 0 (by simp) _ _ nbS nbS _ h476 ?_ ?_))
 ·
  intro X01 X03 X1s X0h eo475;subst eo475;refine X4.glue ?_;try dsimp only at h
  rcases X1s with ⟨_|_,X5w⟩<;>(try obtain rfl:=X5w rfl);all_goals
   rcases X0h with ⟨_|_,X36⟩
   ·
    revert h;exact λe=>oj e▸Xd [.el (aI .i64 (X03.length:Int))] (k:=fi)
   obtain rfl:=X36 rfl;revert h;exact λe=>oj e▸Xd [.el (aI .i64 (List.length ([]:List Xe):Int))] (k:=fi)
 intro X05 X07 eo475;subst eo475;refine X4.glue ?_;try dsimp only at h
 rcases X07 with ⟨_|_,X35⟩<;>(try obtain rfl:=X35 rfl);all_goals
  revert h;exact λe=>oj e▸Xd [] (k:=fi)⟩
instance Xrh:PCs Tryz.prog 70 (∀ (a0:(List X1)) (r:(List Xe)×Int),X5v a0=some r->X06 Tryz.prog 70 [(Lf (a0.map X0))] (AV.tup [(Lt (r.1.map X2)),(aI .i64 r.2)])):=⟨λa0 r h=>by
 refine X06.sym X7 fn70 (nt:=25) rfl rfl ?_ okM;unfold X5v at h;revert h;refine brI (λh1=>λe=>oj e▸Xd [.el (aI .i64 (a0.length:Int)),Bt] (k:=fi)) λh1=>bI λv2 h3=>brI (λh4=>λe=>oj e▸Xd [.el (aI .i64 (a0.length:Int)),Bf,.pure _ (AV.tup [(Lt (v2.1.map X2)),(aB v2.2)]),Bt] (k:=fi)) λh4=>bI λe5 h6=>?_;try have qh6:=Xm h6
 refine rnI [.el (aI .i64 (a0.length:Int)),Bf,.pure _ (AV.tup [(Lt (v2.1.map X2)),(aB v2.2)]),Bf,.el (aI .i64 (v2.1.length:Int)),.wrap,.el (X2 e5)] ?_;exact brI (λh7=>λe=>oj e▸Xd [Bt] (k:=fi)) λh7=>λe=>oj e▸Xd [Bf] (k:=fi)⟩
instance Xrj:PCs Tryz.prog 44 (∀ (a0:(List X1)) (r:Int),X1n a0=some r->X06 Tryz.prog 44 [(Lf (a0.map X0))] (aI .i64 r)):=⟨λa0 r h=>by
 refine X06.sym X7 fn44 (nt:=11) rfl rfl ?_ okM;unfold X1n at h;revert h;exact bI λv1 h2=>λe=>oj e▸Xd [.pure _ (AV.tup [(Lt (v1.1.map X2)),(aI .i64 v1.2)])] (k:=fi)⟩
instance Xjm:PCs Tryz.prog 71 (∀ (a0:Int) (r:Bool),X4e a0=some r->X06 Tryz.prog 71 [(aI .i64 a0)] (aB r)):=⟨λa0 r h=>by
 refine X06.sym X7 fn71 (nt:=9) rfl rfl ?_ okM;unfold X4e at h;revert h;exact λe=>oj e▸Xd [] (k:=fi)⟩
theorem X67 {Q:Xi->St->Mu->Prop} {μ:Mu} (X0l:(List Int)) (hl:X0l.length<=140737488355328):∀ (xs:List Int) (k:Nat) (hx:X0l.drop k=xs) (o:X1d) (h:X0e X0l xs k  = some o)
  (C0:o=X1d.x0->X4 Tryz.prog 19 0 Q (.exit (.exit 0)) [] ⟨fr [],hp ([]),0⟩ μ)
  (C1:∀ (X85:Int),o=X1d.x1 X85->X4 Tryz.prog 19 0 Q (.exit .ret) [] ⟨fr [(4,(aI .i64 X85))],hp ([]),0⟩ μ),
  X4 Tryz.prog 19 0 Q (.loop (X7j 0 (X3 Tryz.f103))) [] ⟨fr [(0,(Lf (List.map (aI .i64) X0l))),(1,(AV.fn 71 [])),(7,(aI .i64 (X0l.length:Int))),(8,(aI .i64 (k:Int)))],hp ([]),0⟩ μ:=by
 intro xs
 induction xs with
 |nil =>
  intro k hx  o h C0 C1;have hk:=drop_nil hx;have hc:decide ((k:Int)<(X0l.length:Int))=false:=Yf om;rw[X0e] at h;refine X4.round ?_;revert h;exact λe=>Xd [Bf] (k:=wkT [] (C0  (oj e).symm))
 |cons x xs ih =>
  intro k hx  o h C0 C1;obtain⟨hk,hg,hx1⟩:=drop_cons hx;have hc:decide ((k:Int)<(X0l.length:Int))=true:=Yt om;rw[X0e] at h;refine X4.round ?_;revert h;refine bI λv10 h11=>brI (λh12=>λe=>Xd [Bt,.el (aI .i64 x),.pure _ (aB v10),Bt] (k:=wkT [] (C1 _  (oj e).symm))) λh12=>rnI [Bt,.el (aI .i64 x),.pure _ (aB v10),Bf] ?_;intro h;exact wkT [] (ih (k+1) hx1  o h C0 C1)
theorem X32 (a0:(List Int)) (r:Int) (h:X0d a0=some r):X06 Tryz.prog 103 [(Lf (List.map (aI .i64) a0)),(AV.fn 71 [])] (aI .i64 r):=by
 refine X06.sym X7 X05c (nt:=19) rfl rfl ?_ okM;unfold X0d at h;revert h;refine bI λu1 h2=>?_;have qh2:=X1x h2;refine bI λo13 h14=>rnI [.el (aI .i64 (a0.length:Int))] ?_;intro h;refine wkT [] (X4.cut (X67 a0 qh2 a0 0 (by simp) _ h14 ?_ ?_))
 ·
  intro eo13;subst eo13;refine X4.glue ?_;try dsimp only at h
  revert h;exact λe=>oj e▸Xd [] (k:=fi)
 intro X85 eo13;subst eo13;refine X4.glue ?_;try dsimp only at h
 revert h;exact λe=>oj e▸Xd [] (k:=fi)
theorem X14 (a0:(List Int)) (r:Bool) (h:Xo a0=some r):X06 Tryz.prog 72 [(Lf (List.map (aI .i64) a0)),(AV.fn 71 [])] (aB r):=by
 refine X06.sym X7 fn72 (nt:=9) rfl rfl ?_ okM;unfold Xo at h;revert h;exact bI λv1 h2=>λe=>oj e▸Xd [.pure [(Lf (List.map (aI .i64) a0)),(AV.fn 71 [])] (aI .i64 v1)] (o:=by repeat' first|apply Ya|exact pcM|exact(pn (X32 _ _ h2) (cc (X48 (X18 (λ_=>Xd9) a0)) (cc .fn0 cn)))|exact Xu) (k:=fi)
theorem Xf1 (z:Int):∀ (ks:List Int),Xih (.int .i64 z) (.bool true) (ks.map X8f)=(Xa5 ks z).map X8f:=by
 intro ks;unfold Xa5
 induction ks with
 |nil=>simp[Xih,X8f]
 |cons a r ih =>
  simp only[List.map_cons,X8f,Xih];by_cases h:a=z
  ·subst h;simp[X8f]
  have h1:¬ (Value.int .i64 a=Value.int .i64 z):=by simpa using h
  rw[if_neg h1];have ih':Xih (.int .i64 z) (.bool true) (r.map X8f)=(if z∈r then r else r++[z]).map X8f:=ih;rw[ih'];have h2:¬ z=a:=λe=>h e.symm;by_cases hz:z∈r<;>simp[hz,h2,X8f]
theorem X3e {Q:Xi->St->Mu->Prop} {μ:Mu} (b:Nat) (l:List Int) (hl:l.length<=140737488355328):∀ (xs:List Int) (k:Nat) (hx:l.drop k=xs) (ks:List Int)
  (C:X4 Tryz.prog 18 0 Q (.exit (.exit 0)) [] ⟨fr [(3,.sc (.map (some b)))],hp [],0⟩ ((b,(X47 ks xs).map X8f)::μ)),
  X4 Tryz.prog 18 0 Q (.loop (X7j 0 (X3 Tryz.f73))) [] ⟨fr [(3,.sc (.map (some b))),(7,AV.list false (List.map (aI .i64) l)),(8,aI .i64 (l.length:Int)),(9,aI .i64 (k:Int))],hp [],0⟩ ((b,ks.map X8f)::μ):=by
 intro xs
 induction xs with
 |nil =>
  intro k hx ks C;have hk:=drop_nil hx;have hc:decide ((k:Int)<(l.length:Int))=false:=Yf om;refine X4.round ?_;refine rn tmD [Bf] rfl (by repeat' first|apply Ya|exact hc|exact Xrf) ?_;exact X4.weakTo [] C rfl (by repeat' first|apply Ya|exact wkA) trivial
 |cons x xs ih =>
  intro k hx ks C;obtain⟨hk,hg,hx1⟩:=drop_cons hx;have hc:decide ((k:Int)<(l.length:Int))=true:=Yt om;refine X4.round ?_;refine rn tmD [Bt,.el (aI .i64 x)] rfl (by repeat' first|apply Ya|exact hc|exact ixm hg|exact Xrf) ?_;refine X4.mapUpd (d:=.int .i64) X7 rfl rfl rfl rfl rfl Tryz.underlying3 rfl rfl rfl trivial trivial trivial rfl (by
   intro p hp;obtain⟨z,_,rfl⟩:=List.mem_map.1 hp;rfl) ?_
  rw[Xf1];refine X34 [] ?_;exact X4.weakTo [] (ih (k+1) hx1 (Xa5 ks x) C) rfl (by repeat' first|apply Ya|exact wkA) trivial
theorem X2c (a0:(List Int)) (r:Int) (h:X0m a0=some r):X06 Tryz.prog 73 [(Lf (List.map (aI .i64) a0))] (aI .i64 r):=by
 refine X06.sym X7 fn73 (nt:=18) rfl rfl ?_ (X12 .list X6l);unfold X0m at h;refine Xz1 h ?_;clear h;intro u h1 h;have q1:=X1x h1;obtain rfl:=oj h;refine X34 [] ?_;refine X4.mapNew rfl rfl rfl λb=>?_;refine X34 [] ?_;refine X4.weakTo [] (X4.cut (X3e b a0 q1 a0 0 (by simp) [] ?_)) rfl (by repeat' first|apply Ya|exact wkA) trivial;refine X4.glue ?_;refine X34 [] ?_;refine X4.mapLen X7 rfl rfl rfl rfl rfl rfl trivial ?_;rw[List.length_map];refine X34 [] ?_;exact Xke rfl .sc
instance Xm5:PCs Tryz.prog 45 (∀ (a0:(List Int)) (a1:Bool) (r:Int),X1r a0 a1=some r->X06 Tryz.prog 45 [(Lf (List.map (aI .i64) a0)),(aB a1)] (aI .i64 r)):=⟨λa0 a1 r h=>by
 refine X06.sym X7 fn45 (nt:=30) rfl rfl ?_ okM;unfold X1r at h;revert h;refine brI (λh1=>λe=>oj e▸Xd [.el (aI .i64 (a0.length:Int)),Bt] (k:=fi)) λh1=>bI λXxi h17=>rnI [.el (aI .i64 (a0.length:Int)),Bf,.stop 4] ?_;intro h;refine X4.join (s':=⟨fr [(0,(Lf (List.map (aI .i64) a0))),(24,(aB Xxi))],hp ([]),0⟩) ?_ (λJ=>X4.cut ?_)
 ·
  revert h;refine brI (λh18=>λe=>oj e▸Xd [Bt] (k:=fi)) λh18=>?_;refine bI λv19 h20=>brI (λh21=>?_) λh21=>?_
  ·
   exact λe=>oj e▸Xd [Bf,.pure [(Lf (List.map (aI .i64) a0))] (aI .i64 v19),.el (aI .i64 (a0.length:Int)),Bt] (o:=by repeat' first|apply Ya|exact pcM|exact(pn (X2c _ _ h20) (cc (X48 (X18 (λ_=>Xd9) a0)) cn))|exact Xu) (k:=fi)
  exact λe=>oj e▸Xd [Bf,.pure [(Lf (List.map (aI .i64) a0))] (aI .i64 v19),.el (aI .i64 (a0.length:Int)),Bf] (o:=by repeat' first|apply Ya|exact pcM|exact(pn (X2c _ _ h20) (cc (X48 (X18 (λ_=>Xd9) a0)) cn))|exact Xu) (k:=fi)
 clear h;revert h17;refine brI (λh10=>?_) λh10=>?_
 ·
  intro h;obtain rfl:=oj h;exact Xd [.el (aI .i64 (a0.length:Int)),Gf,Gf,Gf,Gf,Gf,Gf,Gf,Gf,Gf] (o:=by repeat' first|apply Ya|exact pcM|exact fq (X6 h10 rfl)|exact Xu) (k:=wkT [] (X4.glue J))
 refine brI (λh11=>?_) λh11=>?_
 ·
  refine brI (λh12=>?_) λh12=>?_
  ·
   intro h;obtain rfl:=oj h;exact Xd [.el (aI .i64 (a0.length:Int)),Gt,Gt,Gt,Gt,.el (aI .i64 (a0.length:Int)),Gt,Gt,Gf,Gf,Gf] (o:=by repeat' first|apply Ya|exact pcM|exact fq (X9 h10 (X6 h11 h12))|exact Xu) (k:=wkT [] (X4.glue J))
  refine bI λv13 h14=>?_;intro h;obtain rfl:=oj h;exact Xd [.el (aI .i64 (a0.length:Int)),Gt,Gt,Gt,Gt,.el (aI .i64 (a0.length:Int)),Gt,Gt,Gt,Gt,Gt,.pure [(Lf (List.map (aI .i64) a0)),(AV.fn 71 [])] (aB v13)] (o:=by repeat' first|apply Ya|exact pcM|exact fq (X9 h10 (X6 h11 h12))|exact(pn (X14 _ _ h14) (cc (X48 (X18 (λ_=>Xd9) a0)) (cc .fn0 cn)))|exact Xu) (k:=wkT [] (X4.glue J))
 refine bI λv15 h16=>?_;intro h;obtain rfl:=oj h;exact Xd [.el (aI .i64 (a0.length:Int)),Gt,Gt,Gf,Gf,Gf,Gt,Gt,Gt,Gt,.pure [(Lf (List.map (aI .i64) a0)),(AV.fn 71 [])] (aB v15)] (o:=by repeat' first|apply Ya|exact pcM|exact fq (X9 h10 (X9 h11 rfl))|exact(pn (X14 _ _ h16) (cc (X48 (X18 (λ_=>Xd9) a0)) (cc .fn0 cn)))|exact Xu) (k:=wkT [] (X4.glue J))⟩
instance X8i:PCs Tryz.prog 46 (∀ (a0:Xk) (r:Int),X0x a0=some r->X06 Tryz.prog 46 [(X45 a0)] (aI .i64 r)):=⟨λa0 r h=>by
 refine X06.sym X7 fn46 (nt:=40) rfl rfl ?_ okM;unfold X0x at h;revert h;exact brI (λh1=>λe=>oj e▸Xd [Bt] (k:=fi)) λh1=>brI (λh2=>brI (λh3=>λe=>oj e▸Xd [Bf,Bt,.wrap,Bt] (k:=fi)) λh3=>λe=>oj e▸Xd [Bf,Bt,.wrap,Bf] (k:=fi)) λh2=>brI (λh4=>brI (λh5=>λe=>oj e▸Xd [Bf,Bf,Bt,Bt] (k:=fi)) λh5=>λe=>oj e▸Xd [Bf,Bf,Bt,Bf] (k:=fi)) λh4=>brI (λh6=>brI (λh7=>λe=>oj e▸Xd [Bf,Bf,Bf,Bt,Bt] (k:=fi)) λh7=>λe=>oj e▸Xd [Bf,Bf,Bf,Bt,Bf] (k:=fi)) λh6=>λe=>oj e▸Xd [Bf,Bf,Bf,Bf] (k:=fi)⟩
instance Xnf:PCs Tryz.prog 25 (∀ (a0:Xa) (r:Int),X5d a0=some r->X06 Tryz.prog 25 [(X8 false a0)] (aI .i64 r)):=⟨λa0 r h=>by
 refine X06.sym X7 fn25 (nt:=66) rfl rfl ?_ okM;unfold X5d at h;revert h;refine brI (λh1=>λe=>oj e▸Xd [Bt] (k:=fi)) λh1=>?_;refine brI (λh2=>?_) λh2=>?_
 ·
  refine bI λv3 h4=>brI (λh5=>λe=>oj e▸Xd [Bf,Bt,.pure _ (aI .i64 v3),Bt] (k:=fi)) λh5=>?_;refine brI (λh6=>?_) λh6=>bI λv16 h17=>brI (λh18=>λe=>oj e▸Xd [Bf,Bt,.pure _ (aI .i64 v3),Bf,.el (aI .i64 (a0.Where.length:Int)),Bf,.pure _ (aI .i64 v16),Bt] (k:=fi)) λh18=>brI (λh19=>λe=>oj e▸Xd [Bf,Bt,.pure _ (aI .i64 v3),Bf,.el (aI .i64 (a0.Where.length:Int)),Bf,.pure _ (aI .i64 v16),Bf,Bt] (k:=fi)) λh19=>bI λv20 h21=>λe=>oj e▸Xd [Bf,Bt,.pure _ (aI .i64 v3),Bf,.el (aI .i64 (a0.Where.length:Int)),Bf,.pure _ (aI .i64 v16),Bf,Bf,.pure _ (aI .i64 v20)] (k:=fi);refine bI λv7 h8=>brI (λh9=>λe=>oj e▸Xd [Bf,Bt,.pure _ (aI .i64 v3),Bf,.el (aI .i64 (a0.Where.length:Int)),Bt,.pure _ (aI .i64 v7),Bt] (k:=fi)) λh9=>bI λv10 h11=>rnI [Bf,Bt,.pure _ (aI .i64 v3),Bf,.el (aI .i64 (a0.Where.length:Int)),Bt,.pure _ (aI .i64 v7),Bf,.pure _ (aI .i64 v10)] ?_;exact brI (λh12=>λe=>oj e▸Xd [Bt] (k:=fi)) λh12=>brI (λh13=>λe=>oj e▸Xd [Bf,Bt] (k:=fi)) λh13=>bI λv14 h15=>λe=>oj e▸Xd [Bf,Bf,.pure _ (aI .i64 v14)] (k:=fi)
 refine brI (λh22=>λe=>oj e▸Xd [Bf,Bf,.el (aI .i64 (a0.Arg.length:Int)),Bt] (k:=fi)) λh22=>?_;refine brI (λh23=>?_) λh23=>?_
 ·
  refine bI λv24 h25=>rnI [Bf,Bf,.el (aI .i64 (a0.Arg.length:Int)),Bf,.el (aI .i64 (a0.Where.length:Int)),Bt,.pure _ (aI .i64 v24)] ?_;exact brI (λh26=>λe=>oj e▸Xd [Bt] (k:=fi)) λh26=>bI λv27 h28=>brI (λh29=>λe=>oj e▸Xd [Bf,.pure _ (aI .i64 v27),Bt] (k:=fi)) λh29=>brI (λh30=>λe=>oj e▸Xd [Bf,.pure _ (aI .i64 v27),Bf,Bt] (k:=fi)) λh30=>bI λv31 h32=>λe=>oj e▸Xd [Bf,.pure _ (aI .i64 v27),Bf,Bf,.pure _ (aI .i64 v31)] (k:=fi)
 refine bI λv33 h34=>rnI [Bf,Bf,.el (aI .i64 (a0.Arg.length:Int)),Bf,.el (aI .i64 (a0.Where.length:Int)),Bf,.pure _ (aI .i64 v33)] ?_;exact brI (λh35=>λe=>oj e▸Xd [Bt] (k:=fi)) λh35=>brI (λh36=>λe=>oj e▸Xd [Bf,Bt] (k:=fi)) λh36=>bI λv37 h38=>λe=>oj e▸Xd [Bf,Bf,.pure _ (aI .i64 v37)] (k:=fi)⟩
theorem X3i {Q:Xi->St->Mu->Prop} {μ:Mu} (Xg:(List Bool)) (X9g:(V2 Bool)) (X6m:(List Int)) (Xp:Nb Xg) (hl:X6m.length<=140737488355328):∀ (xs:List Int) (k:Nat) (hx:X6m.drop k=xs) (o:X1h) (h:X00 Xg X9g X6m xs k  = some o)
  (C0:o=X1h.x0->X4 Tryz.prog 21 4 Q (.exit (.exit 0)) [] ⟨fr [],hp ([(0,Ob [(slE Xp.1 1 (Xg.map aB))] 1),(2,Ob [(X6s X9g)] 2),(3,Ob (List.map (aI .i64) X6m) 1)]++opE Xp.1 1 1 (Xg.map aB)),4⟩ μ)
  (C1:o=X1h.x1->X4 Tryz.prog 21 4 Q (.exit .ret) [] ⟨fr [(5,(aB false))],hp ([(0,Ob [(slE Xp.1 1 (Xg.map aB))] 1),(2,Ob [(X6s X9g)] 2),(3,Ob (List.map (aI .i64) X6m) 1)]++opE Xp.1 1 1 (Xg.map aB)),4⟩ μ),
  X4 Tryz.prog 21 4 Q (.loop (X7j 0 (X3 Tryz.f124))) [] ⟨fr [(0,(aB false)),(2,(AV.ptr 0 0 0)),(8,(AV.ref 3 0 (X6m.length))),(9,(aI .i64 (X6m.length:Int))),(10,(aI .i64 (k:Int)))],hp ([(0,Ob [(slE Xp.1 1 (Xg.map aB))] 1),(2,Ob [(X6s X9g)] 2),(3,Ob (List.map (aI .i64) X6m) 1)]++opE Xp.1 1 1 (Xg.map aB)),4⟩ μ:=by
 intro xs
 induction xs with
 |nil =>
  intro k hx  o h C0 C1;have hk:=drop_nil hx;have hc:decide ((k:Int)<(X6m.length:Int))=false:=Yf om;rw[X00] at h;rcases Xp with ⟨_|_,X0j⟩<;>(try obtain rfl:=X0j rfl);all_goals
   refine X4.round ?_;revert h;exact λe=>Xd [Bf] (k:=wkT [] (C0  (oj e).symm))
 |cons x xs ih =>
  intro k hx  o h C0 C1;obtain⟨hk,hg,hx1⟩:=drop_cons hx;have hc:decide ((k:Int)<(X6m.length:Int))=true:=Yt om;rw[X00] at h;rcases Xp with ⟨_|_,X0j⟩
  ·
   refine X4.round ?_;revert h;refine bI λe3011 h3012=>?_;try have qh3012:=Xm h3012
   refine brI (λh3013=>λe=>Xd [Bt,.el (aI .i64 x),.ld (aI .i64 x),.el (aB e3011),.ld (aB e3011),Bt] (k:=wkT [] (C1  (oj e).symm))) λh3013=>rnI [Bt,.el (aI .i64 x),.ld (aI .i64 x),.el (aB e3011),.ld (aB e3011),Bf] ?_;intro h;exact wkT [] (ih (k+1) hx1  o h C0 C1)
  obtain rfl:=X0j rfl;refine X4.round ?_;revert h;refine bI λe3014 h3015=>?_;try have qh3015:=Xm h3015
  intro h
  first|exact absurd (h3015) (by simp[getI];done)|(simp[getI,hc] at h;done)|(simp[hc] at hg;done)|exact absurd (h3015) (by simp[getI,hc];done)
theorem X0z {Q:Xi->St->Mu->Prop} {μ:Mu} (Xg:(List Bool)) (Xfu:(List Int)) (Xp:Nb Xg) (hl:Xfu.length<=140737488355328):∀ (xs:List Int) (k:Nat) (hx:Xfu.drop k=xs) (o:X16) (h:X02 Xg Xfu xs k  = some o)
  (C0:o=X16.x0->X4 Tryz.prog 21 4 Q (.exit (.exit 0)) [] ⟨fr [],hp ([(0,Ob [(slE Xp.1 1 (Xg.map aB))] 1)]++opE Xp.1 1 1 (Xg.map aB)),4⟩ μ)
  (C1:o=X16.x1->X4 Tryz.prog 21 4 Q (.exit .ret) [] ⟨fr [(5,(aB false))],hp ([(0,Ob [(slE Xp.1 1 (Xg.map aB))] 1)]++opE Xp.1 1 1 (Xg.map aB)),4⟩ μ),
  X4 Tryz.prog 21 4 Q (.loop (X7j 0 (X3 Tryz.f124))) [] ⟨fr [(0,(aB true)),(2,(AV.ptr 0 0 0)),(8,(AV.ref 4 0 (Xfu.length))),(9,(aI .i64 (Xfu.length:Int))),(10,(aI .i64 (k:Int)))],hp ([(0,Ob [(slE Xp.1 1 (Xg.map aB))] 1),(4,Ob (List.map (aI .i64) Xfu) 1)]++opE Xp.1 1 1 (Xg.map aB)),5⟩ μ:=by
 intro xs
 induction xs with
 |nil =>
  intro k hx  o h C0 C1;have hk:=drop_nil hx;have hc:decide ((k:Int)<(Xfu.length:Int))=false:=Yf om;rw[X02] at h;rcases Xp with ⟨_|_,X0j⟩<;>(try obtain rfl:=X0j rfl);all_goals
   refine X4.round ?_;revert h;exact λe=>Xd [Bf] (k:=wkT [] (C0  (oj e).symm))
 |cons x xs ih =>
  intro k hx  o h C0 C1;obtain⟨hk,hg,hx1⟩:=drop_cons hx;have hc:decide ((k:Int)<(Xfu.length:Int))=true:=Yt om;rw[X02] at h;rcases Xp with ⟨_|_,X0j⟩
  ·
   refine X4.round ?_;revert h;refine bI λe3127 h3128=>?_;try have qh3128:=Xm h3128
   refine brI (λh3129=>λe=>Xd [Bt,.el (aI .i64 x),.ld (aI .i64 x),.el (aB e3127),.ld (aB e3127),Bt] (k:=wkT [] (C1  (oj e).symm))) λh3129=>rnI [Bt,.el (aI .i64 x),.ld (aI .i64 x),.el (aB e3127),.ld (aB e3127),Bf] ?_;intro h;exact wkT [] (ih (k+1) hx1  o h C0 C1)
  obtain rfl:=X0j rfl;refine X4.round ?_;revert h;refine bI λe3130 h3131=>?_;try have qh3131:=Xm h3131
  intro h
  first|exact absurd (h3131) (by simp[getI];done)|(simp[getI,hc] at h;done)|(simp[hc] at hg;done)|exact absurd (h3131) (by simp[getI,hc];done)
end Go.Av.Tryz