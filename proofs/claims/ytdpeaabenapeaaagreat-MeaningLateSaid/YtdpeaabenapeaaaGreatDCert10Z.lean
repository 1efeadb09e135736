/- Printed by decomp.py: that the program computes the functions. -/
import Derived.Test.YtdpeaabenapeaaaGreatDCert9Z
set_option linter.all false

namespace Go.Av.Tryz
open Go.Proofs Go.D
set_option maxRecDepth 10000
set_option maxHeartbeats 40000000
theorem Xcs {Q:Xx->St->Mu->Prop} {μ:Mu} (Xit:(List (List Xa))) (hl:Xit.length<=140737488355328):∀ (xs:List (List Xa)) (k:Nat) (hx:Xit.drop k=xs) (Xvo:Int) (o:X47) (h:X3s Xit xs k Xvo=some o)
  (C0:∀ (X8q:Int),o=X47.x0 X8q->X2 Tryz.prog 42 0 Q (.exit (.exit 0)) [] ⟨fr [(5,(aI .i64 X8q))],hp ([]),0⟩ μ)
  (C1:∀ (X9i:Int),o=X47.x1 X9i->X2 Tryz.prog 42 0 Q (.exit .ret) [] ⟨fr [(2,(aI .i64 0)),(3,(aI .i64 X9i))],hp ([]),0⟩ μ),
  X2 Tryz.prog 42 0 Q (.loop (X41 0 (Xh Tryz.f25))) [] ⟨fr [(5,(aI .i64 Xvo)),(23,(Lf (List.map (X14 false X0) Xit))),(24,(aI .i64 (Xit.length:Int))),(25,(aI .i64 (k:Int)))],hp ([]),0⟩ μ:=by
 intro xs
 induction xs with
 |nil =>
  intro k hx Xvo o h C0 C1;have hk:=X11 hx;have hc:decide ((k:Int)<(Xit.length:Int))=false:=Yf om;rw[X3s] at h;refine X2.round ?_;revert h;exact λe=>X8 [Bf] (k:=wkT [] (C0 _  (oj e).symm))
 |cons x xs ih =>
  intro k hx Xvo o h C0 C1;obtain⟨hk,hg,hx1⟩:=X0f hx;have hc:decide ((k:Int)<(Xit.length:Int))=true:=Yt om;rw[X3s] at h;refine X2.round ?_;revert h;refine bI λv18 h19=>brI (λh20=>λe=>X8 [Bt,.el (X14 false X0 x),.pure _ (AV.tup [(aI .i64 v18.1),(aI .i64 v18.2)]),Bt] (k:=wkT [] (C1 _  (oj e).symm))) λh20=>rnI [Bt,.el (X14 false X0 x),.pure _ (AV.tup [(aI .i64 v18.1),(aI .i64 v18.2)]),Bf] ?_;intro h;exact wkT [] (ih (k+1) hx1 _ o h C0 C1)
instance Xrh:PCs Tryz.prog 25 (∀ (a0:(List (List Xa))) (r:Int×Int),Xad a0=some r->X0j Tryz.prog 25 [(Lf (List.map (X14 false X0) a0))] (AV.tup [(aI .i64 r.1),(aI .i64 r.2)])):=⟨λa0 r h=>by
 refine X0j.sym X7 fn25 (nt:=42) rfl rfl ?_ okM;unfold Xad at h;revert h;refine bI λXzm h4=>rnI [.stop 1] ?_;intro h;refine X2.join (s':=⟨fr [(0,(Lf (List.map (X14 false X0) a0))),(17,(aB Xzm))],hp ([]),0⟩) ?_ (λJ=>X2.cut ?_)
 ·
  revert h;refine brI (λh5=>λe=>oj e▸X8 [Bt] (k:=fi)) λh5=>bI λv6 h7=>brI (λh8=>λe=>oj e▸X8 [Bf,.pure _ (aI .i64 v6),Bt] (k:=fi)) λh8=>bI λu9 h10=>?_;have qh10:=X0b h10;refine bI λo21 h22=>rnI [Bf,.pure _ (aI .i64 v6),Bf,.el (aI .i64 (a0.length:Int))] ?_;intro h;refine wkT [] (X2.cut (Xcs a0 qh10 a0 0 (by simp) _ _ h22 ?_ ?_))
  ·
   intro X8q eo21;subst eo21;refine X2.glue ?_;try dsimp only at h
   revert h;exact λe=>oj e▸X8 [] (k:=fi)
  intro X9i eo21;subst eo21;refine X2.glue ?_;try dsimp only at h
  revert h;exact λe=>oj e▸X8 [] (k:=fi)
 clear h;revert h4;refine brI (λh3=>?_) λh3=>?_
 ·
  intro h;obtain rfl:=oj h;exact X8 [.el (aI .i64 (a0.length:Int)),Gf,Gf,Gf] (k:=wkT [] (X2.glue J))
 intro h;obtain rfl:=oj h;exact X8 [.el (aI .i64 (a0.length:Int)),Gt,Gt,.el (aI .i64 (a0.length:Int)),Gt] (k:=wkT [] (X2.glue J))⟩
theorem Xbf {Q:Xx->St->Mu->Prop} {μ:Mu} (Xbu:(List X9)) (X39:Int) (Xdv:(List X52)) (hl:Xdv.length<=140737488355328):∀ (xs:List X52) (k:Nat) (hx:Xdv.drop k=xs) (Xb:(List X52)) (X0r:Nb Xb) (o:X51) (h:X2s Xbu X39 Xdv xs k Xb=some o)
  (C0:∀ (Xo:(List X52)) (Xz:Nb Xo),o=X51.x0 Xo->X2 Tryz.prog 50 0 Q (.exit (.exit 0)) [] ⟨fr [(8,(Lt (Xbu.map X1))),(11,(slE Xz.1 0 (Xo.map Xi)))],hp ([]++opE Xz.1 0 5 (Xo.map Xi)),1⟩ μ),
  X2 Tryz.prog 50 0 Q (.loop (X41 0 (Xh Tryz.f13))) [] ⟨fr [(8,(Lt (Xbu.map X1))),(10,(aI .i64 X39)),(11,(slE X0r.1 0 (Xb.map Xi))),(32,(Lt (Xdv.map Xi))),(33,(aI .i64 (Xdv.length:Int))),(34,(aI .i64 (k:Int)))],hp ([]++opE X0r.1 0 5 (Xb.map Xi)),1⟩ μ:=by
 intro xs
 induction xs with
 |nil =>
  intro k hx Xb X0r o h C0;have hk:=X11 hx;have hc:decide ((k:Int)<(Xdv.length:Int))=false:=Yf om;rw[X2s] at h;rcases X0r with ⟨_|_,X2v⟩
  ·
   refine X2.round ?_;revert h;exact λe=>X8 [Bf] (k:=wkT [] (C0 _  nbF (oj e).symm))
  ·
   obtain rfl:=X2v rfl;refine X2.round ?_;revert h;exact λe=>X8 [Bf] (k:=wkT [] (C0 _  nbS (oj e).symm))
 |cons x xs ih =>
  intro k hx Xb X0r o h C0;obtain⟨hk,hg,hx1⟩:=X0f hx;have hc:decide ((k:Int)<(Xdv.length:Int))=true:=Yt om;rw[X2s] at h;rcases X0r with ⟨_|_,X2v⟩
  ·
   refine X2.round ?_;revert h;refine bI λXl8 h49=>rnI [Bt,.el (Xi x)] ?_;intro h;refine X2.joinF (λ(q:Nb Xl8)=>⟨fr [(8,(Lt (Xbu.map X1))),(10,(aI .i64 X39)),(11,(slE q.1 0 (Xl8.map Xi))),(32,(Lt (Xdv.map Xi))),(33,(aI .i64 (Xdv.length:Int))),(34,(aI .i64 (k:Int)))],hp ([]++opE q.1 0 5 (Xl8.map Xi)),1⟩) ?_ (λJ=>X2.cut ?_)
   ·
    rintro Xsp;rcases Xsp with ⟨_|_,Xti⟩
    ·
     exact X8 [] (k:=wkT [] (ih (k+1) hx1 _ nbF o h C0))
    obtain rfl:=Xti rfl;exact X8 [] (k:=wkT [] (ih (k+1) hx1 _ nbS o h C0))
   clear h;revert h49;refine brI (λh46=>?_) λh46=>?_
   ·
    refine bI λu47 h48=>?_;intro h;obtain rfl:=oj h;exact X8 [Bt,.no] (o:=by repeat' first|apply Ya|exact pcM|(refine X03 h48 rfl ?_;first|(simp<;>omega)|(simp[hc,h46]<;>omega))|(refine Xq h48 (by decide) ?_;first|(simp<;>omega)|(simp[hc,h46]<;>omega))|exact X05) (k:=wkT [(0,3)] (X2.glue (J nbF)))
   intro h;obtain rfl:=oj h;exact X8 [Bf] (k:=wkT [] (X2.glue (J nbF)))
  obtain rfl:=X2v rfl;refine X2.round ?_;revert h;refine bI λXt1 h57=>rnI [Bt,.el (Xi x)] ?_;intro h;refine X2.joinF (λ(q:Nb Xt1)=>⟨fr [(8,(Lt (Xbu.map X1))),(10,(aI .i64 X39)),(11,(slE q.1 0 (Xt1.map Xi))),(32,(Lt (Xdv.map Xi))),(33,(aI .i64 (Xdv.length:Int))),(34,(aI .i64 (k:Int)))],hp ([]++opE q.1 0 5 (Xt1.map Xi)),1⟩) ?_ (λJ=>X2.cut ?_)
  ·
   rintro Xsn;rcases Xsn with ⟨_|_,Xtg⟩
   ·
    exact X8 [] (k:=wkT [] (ih (k+1) hx1 _ nbF o h C0))
   obtain rfl:=Xtg rfl;exact X8 [] (k:=wkT [] (ih (k+1) hx1 _ nbS o h C0))
  clear h;revert h57;refine brI (λh54=>?_) λh54=>?_
  ·
   refine bI λu55 h56=>?_;intro h;obtain rfl:=oj h;exact X8 [Bt,.no] (o:=by repeat' first|apply Ya|exact pcM|(refine X03 h56 rfl ?_;first|(simp<;>omega)|(simp[hc,h54]<;>omega))|(refine Xq h56 (by decide) ?_;first|(simp<;>omega)|(simp[hc,h54]<;>omega))|exact X05) (k:=wkT [(0,3)] (X2.glue (J nbF)))
  intro h;obtain rfl:=oj h;exact X8 [Bf] (k:=wkT [] (X2.glue (J nbS)))
instance Xom:PCs Tryz.prog 13 (∀ (a0:Xt) (a1:(List (List Xa))) (r:(List X52)×(List X9)×Int),X8h a0 a1=some r->X0j Tryz.prog 13 [(Xk false a0),(Lf (List.map (X14 false X0) a1))] (AV.tup [(Lt (r.1.map Xi)),(Lt (r.2.1.map X1)),(aI .i64 r.2.2)])):=⟨λa0 a1 r h=>by
 refine X0j.sym X7 fn13 (nt:=50) rfl rfl ?_ okM;unfold X8h at h;revert h;refine bI λv1 h2=>brI (λh3=>λe=>oj e▸X8 [.pure _ (AV.tup [(Lt (v1.1.map Xi)),(Lt (v1.2.1.map X1)),(aI .i64 v1.2.2)]),Bt] (k:=fi)) λh3=>bI λv4 h5=>rnI [.pure _ (AV.tup [(Lt (v1.1.map Xi)),(Lt (v1.2.1.map X1)),(aI .i64 v1.2.2)]),Bf,.pure _ (AV.tup [(aI .i64 v4.1),(aI .i64 v4.2)])] ?_;refine brI (λh6=>λe=>oj e▸X8 [Bt] (k:=fi)) λh6=>bI λu7 h8=>?_;have qh8:=X0b h8;refine bI λo58 h59=>rnI [Bf,.el (aI .i64 (v1.1.length:Int))] ?_;intro h;refine wkT [] (X2.cut (Xbf v1.2.1 v4.1 v1.1 qh8 v1.1 0 (by simp) _ nbS _ h59 ?_));intro Xo Xz eo58;subst eo58;refine X2.glue ?_;try dsimp only at h
 rcases Xz with ⟨_|_,X1v⟩<;>(try obtain rfl:=X1v rfl);all_goals
  revert h;exact λe=>oj e▸X8 [] (k:=fi)⟩
instance Xxr:PCs Tryz.prog 14 (∀ (a0:Int) (a1:Int) (a2:Int) (r:X52),Xdd a0 a1 a2=some r->X0j Tryz.prog 14 [(aI .i64 a0),(aI .i64 a1),(aI .i64 a2)] (Xi r)):=⟨λa0 a1 a2 r h=>by
 refine X0j.sym X7 fn14 (nt:=13) rfl rfl ?_ okM;unfold Xdd at h;revert h;exact λe=>oj e▸X8 [] (k:=fi)⟩
theorem Xf9 {Q:Xx->St->Mu->Prop} {μ:Mu} (X0a:(List X52)) (X54:(List X52)) (hl:X0a.length<=140737488355328):∀ (xs:List X52) (k:Nat) (hx:X0a.drop k=xs) (o:X67) (h:X3j X0a X54 xs k  = some o)
  (C0:o=X67.x0->X2 Tryz.prog 26 0 Q (.exit (.exit 0)) [] ⟨fr [],hp ([]),0⟩ μ)
  (C1:o=X67.x1->X2 Tryz.prog 26 0 Q (.exit .ret) [] ⟨fr [(4,(aB false))],hp ([]),0⟩ μ),
  X2 Tryz.prog 26 0 Q (.loop (X41 0 (Xh Tryz.f8))) [] ⟨fr [(0,(Lf (X0a.map Xi))),(1,(Lf (X54.map Xi))),(5,(aI .i64 (k:Int)))],hp ([]),0⟩ μ:=by
 intro xs
 induction xs with
 |nil =>
  intro k hx  o h C0 C1;have hk:=X11 hx;have hc:decide ((k:Int)<(X0a.length:Int))=false:=Yf om;rw[X3j] at h;refine X2.round ?_;revert h;exact λe=>X8 [.el (aI .i64 (X0a.length:Int)),Bf] (k:=wkT [] (C0  (oj e).symm))
 |cons x xs ih =>
  intro k hx  o h C0 C1;obtain⟨hk,hg,hx1⟩:=X0f hx;have hc:decide ((k:Int)<(X0a.length:Int))=true:=Yt om;rw[X3j] at h;refine X2.round ?_;revert h;refine bI λe11 h12=>?_;try have qh12:=Xl h12
  refine brI (λh13=>λe=>X8 [.el (aI .i64 (X0a.length:Int)),Bt,.el (Xi x),.el (Xi e11),Bt] (k:=wkT [] (C1  (oj e).symm))) λh13=>rnI [.el (aI .i64 (X0a.length:Int)),Bt,.el (Xi x),.el (Xi e11),Bf] ?_;intro h;exact wkT [] (ih (k+1) hx1  o h C0 C1)
instance Xvv:PCs Tryz.prog 8 (∀ (a0:(List X52)) (a1:(List X52)) (r:Bool),X3w a0 a1=some r->X0j Tryz.prog 8 [(Lf (a0.map Xi)),(Lf (a1.map Xi))] (aB r)):=⟨λa0 a1 r h=>by
 refine X0j.sym X7 fn8 (nt:=26) rfl rfl ?_ okM;unfold X3w at h;revert h;refine brI (λh1=>λe=>oj e▸X8 [.el (aI .i64 (a0.length:Int)),.el (aI .i64 (a1.length:Int)),Bt] (k:=fi)) λh1=>bI λu2 h3=>?_;have qh3:=X0b h3;refine bI λo14 h15=>rnI [.el (aI .i64 (a0.length:Int)),.el (aI .i64 (a1.length:Int)),Bf] ?_;intro h;refine wkT [] (X2.cut (Xf9 a0 a1 qh3 a0 0 (by simp) _ h15 ?_ ?_))
 ·
  intro eo14;subst eo14;refine X2.glue ?_;try dsimp only at h
  revert h;exact λe=>oj e▸X8 [] (k:=fi)
 intro eo14;subst eo14;refine X2.glue ?_;try dsimp only at h
 revert h;exact λe=>oj e▸X8 [] (k:=fi)⟩
instance Xvd:PCs Tryz.prog 4 (∀ (r:Bool),Xaf=some r->X0j Tryz.prog 4 [] (aB r)):=⟨λr h=>by
 refine X0j.sym X7 fn4 (nt:=59) rfl rfl ?_ okM;unfold Xaf at h;revert h;refine bI λv1 h2=>bI λv3 h4=>bI λv5 h6=>bI λv7 h8=>bI λv9 h10=>bI λv11 h12=>bI λv13 h14=>bI λXzl h50=>rnI [.pure _ (X0 v1),.pure _ (X0 v3),.pure _ (X0 v5),.pure _ (X0 v7),.pure _ (Xk true v9),.pure _ (AV.tup [(Lt (v11.1.map Xi)),(Lt (v11.2.1.map X1)),(aI .i64 v11.2.2)]),.pure _ (Xk true v9),.pure _ (AV.tup [(Lt (v13.1.map Xi)),(Lt (v13.2.1.map X1)),(aI .i64 v13.2.2)]),.stop 4] ?_;intro h;refine X2.join (s':=⟨fr [(0,(aB Xzl))],hp ([]),0⟩) ?_ (λJ=>X2.cut ?_)
 ·
  revert h;exact λe=>oj e▸X8 [] (k:=fi)
 clear h;revert h50;refine brI (λh33=>?_) λh33=>?_
 ·
  refine bI λv34 h35=>bI λv36 h37=>bI λv38 h39=>brI (λh40=>?_) λh40=>?_
  ·
   refine rnI [Gt,Gt,.pure _ (Xi v34),Gt,.pure _ (Xi v36),Gt,Gt,.pure _ (aB v38),Gt,Gt,.el (aI .i64 (v11.2.1.length:Int)),Gt,.stop 999999] (o:=by repeat' first|apply Ya|exact pcM|exact fq (X2a h33 h40)|exact X05) ?_;refine brI (λh41=>?_) λh41=>?_
   ·
    refine bI λe42 h43=>?_;try have qh43:=Xl h43
    refine brI (λh44=>?_) λh44=>?_
    ·
     refine brI (λh45=>?_) λh45=>?_
     ·
      refine bI λm46 h47=>?_;obtain⟨qah47,qbh47,qch47,qh47⟩:=X20 h47;have qlh47:=X4t h47;refine bI λv48 h49=>?_;intro h;obtain rfl:=oj h;exact X8 [Gt,Gt,.el (X1 e42),Gt,Gt,Gt,Gt,Gt,Gt,Gt,Gt,.via (Lt (m46.map Xi)),Gt,.pure _ (aB v48)] (o:=by repeat' first|apply Ya|exact pcM|exact fq (X2a (X2a h33 h40) h41)|exact fq (X2a (X2a (X2a h33 h40) h41) h44)|exact fq (X2a (X2a (X2a (X2a h33 h40) h41) h44) h45)|(simp at qah47 qbh47 qch47 ⊢;omega)|(rw[qh47];simp[Ym,Yd];done)|exact X05) (k:=wkT [] (X2.glue J))
     intro h;obtain rfl:=oj h;exact X8 [Gt,Gt,.el (X1 e42),Gt,Gt,Gt,Gt,Gt,Gf,Gf,Gf,Gf] (o:=by repeat' first|apply Ya|exact pcM|exact fq (X2a (X2a h33 h40) h41)|exact fq (X2a (X2a (X2a h33 h40) h41) h44)|exact fq (X2a (X2a (X2a (X2a h33 h40) h41) h44) h45)|exact X05) (k:=wkT [] (X2.glue J))
    intro h;obtain rfl:=oj h;exact X8 [Gt,Gt,.el (X1 e42),Gt,Gt,Gt,Gf,Gf,Gf,Gf,Gf,Gf] (o:=by repeat' first|apply Ya|exact pcM|exact fq (X2a (X2a h33 h40) h41)|exact fq (X2a (X2a (X2a h33 h40) h41) h44)|exact fq (X2y (X2a (X2a (X2a h33 h40) h41) h44) rfl)|exact X05) (k:=wkT [] (X2.glue J))
   intro h;obtain rfl:=oj h;exact X8 [Gf,Gf,Gf,Gf,Gf,Gf,Gf,Gf,Gf,Gf,Gf] (o:=by repeat' first|apply Ya|exact pcM|exact fq (X2a (X2a h33 h40) h41)|exact fq (X2y (X2a (X2a h33 h40) h41) rfl)|exact fq (X2y (X2y (X2a (X2a h33 h40) h41) rfl) rfl)|exact X05) (k:=wkT [] (X2.glue J))
  intro h;obtain rfl:=oj h;exact X8 [Gt,Gt,.pure _ (Xi v34),Gt,.pure _ (Xi v36),Gt,Gt,.pure _ (aB v38),Gf,Gf,Gf,Gf,Gf,Gf,Gf,Gf,Gf,Gf,Gf,Gf,Gf,Gf] (o:=by repeat' first|apply Ya|exact pcM|exact fq (X2a h33 h40)|exact fq (X2y (X2a h33 h40) rfl)|exact fq (X2y (X2y (X2a h33 h40) rfl) rfl)|exact fq (X2y (X2y (X2y (X2a h33 h40) rfl) rfl) rfl)|exact X05) (k:=wkT [] (X2.glue J))
 intro h;obtain rfl:=oj h;exact X8 [Gf,Gf,Gf,Gf,Gf,Gf,Gf,Gf,Gf,Gf,Gf,Gf,Gf,Gf,Gf,Gf,Gf,Gf,Gf] (o:=by repeat' first|apply Ya|exact pcM|exact fq (X2y h33 rfl)|exact fq (X2y (X2y h33 rfl) rfl)|exact fq (X2y (X2y (X2y h33 rfl) rfl) rfl)|exact fq (X2y (X2y (X2y (X2y h33 rfl) rfl) rfl) rfl)|exact X05) (k:=wkT [] (X2.glue J))⟩
instance Xv4:PCs Tryz.prog 26 (∀ (a0:(List Xu)) (r:Bool),X8c a0=some r->X0j Tryz.prog 26 [(Lf (a0.map X4))] (aB r)):=⟨λa0 r h=>by
 refine X0j.sym X7 fn26 (nt:=6) rfl rfl ?_ okM;unfold X8c at h;revert h;exact λe=>oj e▸X8 [.el (aI .i64 (a0.length:Int))] (k:=fi)⟩
instance Xuy:PCs Tryz.prog 15 (∀ (a0:Xt) (r:Bool),X8a a0=some r->X0j Tryz.prog 15 [(Xk false a0)] (aB r)):=⟨λa0 r h=>by
 refine X0j.sym X7 fn15 (nt:=17) rfl rfl ?_ okM;unfold X8a at h;revert h;refine bI λj7_2 h14=>rnI [.stop 1] ?_;intro h;refine X2.join (s':=⟨fr [(2,(aB j7_2))],hp ([]),0⟩) ?_ (λJ=>X2.cut ?_)
 ·
  revert h;exact λe=>oj e▸X8 [] (k:=fi)
 clear h;revert h14;refine bI λv8 h9=>brI (λh10=>?_) λh10=>?_
 ·
  intro h;obtain rfl:=oj h;exact X8 [.pure _ (aB v8),Gf,Gf,Gf,Gf,Gf,Gf,Gf] (o:=by repeat' first|apply Ya|exact pcM|exact fq (X2a h10 rfl)|exact X05) (k:=wkT [] (X2.glue J))
 refine bI λv11 h12=>brI (λh13=>?_) λh13=>?_
 ·
  intro h;obtain rfl:=oj h;exact X8 [.pure _ (aB v8),Gt,Gt,Gt,.pure _ (aB v11),Gf,Gf,Gf,Gf] (o:=by repeat' first|apply Ya|exact pcM|exact fq (X2y h10 h13)|exact X05) (k:=wkT [] (X2.glue J))
 intro h;obtain rfl:=oj h;exact X8 [.pure _ (aB v8),Gt,Gt,Gt,.pure _ (aB v11),Gt,Gt,Gt,.el (aI .i64 (a0.Sources.length:Int)),Gt] (o:=by repeat' first|apply Ya|exact pcM|exact fq (X2y h10 h13)|exact X05) (k:=wkT [] (X2.glue J))⟩
theorem Xdz {Q:Xx->St->Mu->Prop} {μ:Mu} (X0a:(List (List Xa))):∀ (n:Nat) (Xcz:Int) (o:X5b) (h:X34 X0a n Xcz=some o)
  (C0:o=X5b.x0->X2 Tryz.prog 31 0 Q (.exit .ret) [] ⟨fr [(2,(aB true))],hp ([]),0⟩ μ)
  (C1:o=X5b.x1->X2 Tryz.prog 31 0 Q (.exit (.exit 0)) [] ⟨fr [(0,(Lf (List.map (X14 false X0) X0a)))],hp ([]),0⟩ μ),
  X2 Tryz.prog 31 0 Q (.loop (X41 0 (Xh Tryz.f16))) [] ⟨fr [(0,(Lf (List.map (X14 false X0) X0a))),(3,(aI .i64 Xcz))],hp ([]),0⟩ μ:=by
 intro n
 induction n with
 |zero=>intro Xcz o h C0 C1;cases h
 |succ n ih =>
  intro Xcz o h C0 C1;rw[X34] at h;refine X2.round ?_;revert h;refine brI (λh22=>?_) λh22=>λe=>X8 [.el (aI .i64 (X0a.length:Int)),Bf] (k:=wkT [] (C1  (oj e).symm));refine bI λXt5 h30=>rnI [.el (aI .i64 (X0a.length:Int)),Bt,.stop 4] ?_;intro h;refine X2.join (s':=⟨fr [(0,(Lf (List.map (X14 false X0) X0a))),(3,(aI .i64 Xcz)),(27,(aB Xt5))],hp ([]),0⟩) ?_ (λJ=>X2.cut ?_)
  ·
   revert h;refine brI (λh31=>λe=>X8 [Bt] (k:=wkT [] (C0  (oj e).symm))) λh31=>rnI [Bf,.wrap] ?_;intro h;exact wkT [] (ih  _ o h C0 C1)
  clear h;revert h30;refine bI λe27 h28=>?_;try have qh28:=Xl h28
  refine brI (λh29=>?_) λh29=>?_
  ·
   intro h;obtain rfl:=oj h;exact X8 [.el (X14 false X0 e27),.el (aI .i64 (e27.length:Int)),Gt,Gt,Gt,.el (X14 false X0 e27),Gt,Gt,.el (aI .i64 (e27.length:Int)),Gt] (k:=wkT [] (X2.glue J))
  intro h;obtain rfl:=oj h;exact X8 [.el (X14 false X0 e27),.el (aI .i64 (e27.length:Int)),Gf,Gf,Gf,Gf,Gf,Gf] (k:=wkT [] (X2.glue J))
instance Xur:PCs Tryz.prog 16 (∀ (a0:(List (List Xa))) (r:Bool),X86 a0=some r->X0j Tryz.prog 16 [(Lf (List.map (X14 false X0) a0))] (aB r)):=⟨λa0 r h=>by
 refine X0j.sym X7 fn16 (nt:=31) rfl rfl ?_ okM;unfold X86 at h;revert h;refine bI λo32 h33=>rnI [] ?_;intro h;refine wkT [] (X2.cut (Xdz a0 _ _ _ h33 ?_ ?_))
 ·
  intro eo32;subst eo32;refine X2.glue ?_;try dsimp only at h
  revert h;exact λe=>oj e▸X8 [] (k:=fi)
 intro eo32;subst eo32;refine X2.glue ?_;try dsimp only at h
 revert h;exact λe=>oj e▸X8 [.el (aI .i64 (a0.length:Int))] (k:=fi)⟩
instance Xv5:PCs Tryz.prog 101 (∀ (a0:Int) (r:Int),Xa6 a0=some r->X0j Tryz.prog 101 [(aI .u8 a0)] (aI .i64 r)):=⟨λa0 r h=>by
 refine X0j.sym X7 X03b (nt:=7) rfl rfl ?_ okM;unfold Xa6 at h;revert h;exact brI (λh1=>λe=>oj e▸X8 [Bt] (k:=fi)) λh1=>brI (λh2=>λe=>oj e▸X8 [Bf,Bt] (k:=fi)) λh2=>λe=>oj e▸X8 [Bf,Bf] (k:=fi)⟩
instance Xv2:PCs Tryz.prog 102 (∀ (a0:Xu) (a1:Int) (a2:Int) (r:Bool),X5n a0 a1 a2=some r->X0j Tryz.prog 102 [(X4 a0),(aI .i64 a1),(aI .i64 a2)] (aB r)):=⟨λa0 a1 a2 r h=>by
 refine X0j.sym X7 X03a (nt:=52) rfl rfl ?_ okM;unfold X5n at h;revert h;exact λe=>oj e▸X8 [] (k:=fi)⟩
theorem Xe3 {Q:Xx->St->Mu->Prop} {μ:Mu} (X0a:(List Xu)) (hl:X0a.length<=140737488355328):∀ (xs:List Xu) (k:Nat) (hx:X0a.drop k=xs) (Xb:(List Int)) (Xc:(List Int)) (X0r:Nb Xb) (Xp:Nb Xc) (o:X3q) (h:X13 X0a xs k Xb Xc=some o)
  (C0:∀ (Xo:(List Int)) (X09:(List Int)) (Xz:Nb Xo) (X0h:Nb X09),o=X3q.x0 Xo X09->X2 Tryz.prog 102 0 Q (.exit (.exit 0)) [] ⟨fr [(0,(Lf (X0a.map X4))),(5,(slE Xz.1 0 (List.map (aI .i64) Xo))),(6,(slE X0h.1 1 (List.map (aI .i64) X09)))],hp ([]++opE Xz.1 0 1 (List.map (aI .i64) Xo)++opE X0h.1 1 1 (List.map (aI .i64) X09)),2⟩ μ)
  (C1:∀ (X00:(List Int)) (X4c:(List Int)) (Xy:Nb X00) (X4u:Nb X4c),o=X3q.x1 X00 X4c->X2 Tryz.prog 102 0 Q (.exit .ret) [] ⟨fr [(2,(slE Xy.1 0 (List.map (aI .i64) X00))),(3,(slE X4u.1 1 (List.map (aI .i64) X4c))),(4,(aB false))],hp ([]++opE Xy.1 0 1 (List.map (aI .i64) X00)++opE X4u.1 1 1 (List.map (aI .i64) X4c)),2⟩ μ),
  X2 Tryz.prog 102 0 Q (.loop (X41 0 (Xh Tryz.f89))) [] ⟨fr [(0,(Lf (X0a.map X4))),(5,(slE X0r.1 0 (List.map (aI .i64) Xb))),(6,(slE Xp.1 1 (List.map (aI .i64) Xc))),(7,(aI .i64 (k:Int)))],hp ([]++opE X0r.1 0 1 (List.map (aI .i64) Xb)++opE Xp.1 1 1 (List.map (aI .i64) Xc)),2⟩ μ:=by
 intro xs
 induction xs with
 |nil =>
  intro k hx Xb Xc X0r Xp o h C0 C1;have hk:=X11 hx;have hc:decide ((k:Int)<(X0a.length:Int))=false:=Yf om;rw[X13] at h;rcases X0r with ⟨_|_,X2v⟩
  ·
   rcases Xp with ⟨_|_,X02⟩
   ·
    refine X2.round ?_;revert h;exact λe=>X8 [.el (aI .i64 (X0a.length:Int)),Bf] (k:=wkT [] (C0 _ _  nbF nbF (oj e).symm))
   obtain rfl:=X02 rfl;refine X2.round ?_;revert h;exact λe=>X8 [.el (aI .i64 (X0a.length:Int)),Bf] (k:=wkT [] (C0 _ _  nbF nbS (oj e).symm))
  ·
   obtain rfl:=X2v rfl;rcases Xp with ⟨_|_,X02⟩
   ·
    refine X2.round ?_;revert h;exact λe=>X8 [.el (aI .i64 (X0a.length:Int)),Bf] (k:=wkT [] (C0 _ _  nbS nbF (oj e).symm))
   ·
    obtain rfl:=X02 rfl;refine X2.round ?_;revert h;exact λe=>X8 [.el (aI .i64 (X0a.length:Int)),Bf] (k:=wkT [] (C0 _ _  nbS nbS (oj e).symm))
 |cons x xs ih =>
  intro k hx Xb Xc X0r Xp o h C0 C1;obtain⟨hk,hg,hx1⟩:=X0f hx;have hc:decide ((k:Int)<(X0a.length:Int))=true:=Yt om;rw[X13] at h;rcases X0r with ⟨_|_,X2v⟩
  ·
   rcases Xp with ⟨_|_,X02⟩
   ·
    refine X2.round ?_;revert h;refine bI λv156 h157=>brI (λh158=>?_) λh158=>?_
    ·
     refine brI (λh159=>λe=>X8 [.el (aI .i64 (X0a.length:Int)),Bt,.el (X4 x),.pure _ (aI .i64 v156),Bt,.wrap,Bt] (k:=wkT [] (C1 _ _  nbS nbS (oj e).symm))) λh159=>bI λe160 h161=>?_;try have qh161:=Xl h161
     refine bI λe162 h163=>?_;try have qh163:=Xl h163
     refine rnI [.el (aI .i64 (X0a.length:Int)),Bt,.el (X4 x),.pure _ (aI .i64 v156),Bt,.wrap,Bf,.el (aI .i64 e160),.ld (aI .i64 e160),.wrap,.el (aI .i64 e160),.ld (aI .i64 e160),.wrap,.el (aI .i64 e162),.ld (aI .i64 e162),.wrap] ?_;refine brI (λh164=>?_) λh164=>?_
     ·
      refine brI (λh165=>λe=>X8 [Bt,Bt] (k:=wkT [] (C1 _ _  nbS nbS (oj e).symm))) λh165=>bI λe166 h167=>?_;try have qh167:=Xl h167
      refine bI λe168 h169=>?_;try have qh169:=Xl h169
      refine bI λv170 h171=>rnI [Bt,Bf,.el (aI .i64 e166),.ld (aI .i64 e166),.wrap,.el (aI .i64 e168),.ld (aI .i64 e168),.wrap,.el (X4 x),.pure _ (aB v170)] ?_;refine brI (λh172=>λe=>X8 [Bt] (k:=wkT [] (C1 _ _  nbS nbS (oj e).symm))) λh172=>?_;refine bI λu173 h174=>bI λu175 h176=>rnI [Bf,.no,.no] (o:=by repeat' first|apply Ya|exact pcM|(refine X03 h174 rfl ?_;first|(simp<;>omega)|(simp[hc,h158,h159,h164,h165,h172]<;>omega))|(refine Xq h174 (by decide) ?_;first|(simp<;>omega)|(simp[hc,h158,h159,h164,h165,h172]<;>omega))|(refine X03 h176 rfl ?_;first|(simp<;>omega)|(simp[hc,h158,h159,h164,h165,h172]<;>omega))|(refine Xq h176 (by decide) ?_;first|(simp<;>omega)|(simp[hc,h158,h159,h164,h165,h172]<;>omega))|exact X05) ?_;intro h;exact wkT [(0,3),(1,5)] (ih (k+1) hx1 _ _ nbF nbF o h C0 C1)
     refine bI λv177 h178=>brI (λh179=>λe=>X8 [Bf,.el (X4 x),.pure _ (aB v177),Bt] (k:=wkT [] (C1 _ _  nbS nbS (oj e).symm))) λh179=>?_;refine bI λu180 h181=>bI λu182 h183=>rnI [Bf,.el (X4 x),.pure _ (aB v177),Bf,.no,.no] (o:=by repeat' first|apply Ya|exact pcM|(refine X03 h181 rfl ?_;first|(simp<;>omega)|(simp[hc,h158,h159,h164,h179]<;>omega))|(refine Xq h181 (by decide) ?_;first|(simp<;>omega)|(simp[hc,h158,h159,h164,h179]<;>omega))|(refine X03 h183 rfl ?_;first|(simp<;>omega)|(simp[hc,h158,h159,h164,h179]<;>omega))|(refine Xq h183 (by decide) ?_;first|(simp<;>omega)|(simp[hc,h158,h159,h164,h179]<;>omega))|exact X05) ?_;intro h;exact wkT [(0,3),(1,5)] (ih (k+1) hx1 _ _ nbF nbF o h C0 C1)
    refine bI λv184 h185=>brI (λh186=>λe=>X8 [.el (aI .i64 (X0a.length:Int)),Bt,.el (X4 x),.pure _ (aI .i64 v156),Bf,.el (X4 x),.pure _ (aB v184),Bt] (k:=wkT [] (C1 _ _  nbS nbS (oj e).symm))) λh186=>?_;refine bI λu187 h188=>bI λu189 h190=>rnI [.el (aI .i64 (X0a.length:Int)),Bt,.el (X4 x),.pure _ (aI .i64 v156),Bf,.el (X4 x),.pure _ (aB v184),Bf,.no,.no] (o:=by repeat' first|apply Ya|exact pcM|(refine X03 h188 rfl ?_;first|(simp<;>omega)|(simp[hc,h158,h186]<;>omega))|(refine Xq h188 (by decide) ?_;first|(simp<;>omega)|(simp[hc,h158,h186]<;>omega))|(refine X03 h190 rfl ?_;first|(simp<;>omega)|(simp[hc,h158,h186]<;>omega))|(refine Xq h190 (by decide) ?_;first|(simp<;>omega)|(simp[hc,h158,h186]<;>omega))|exact X05) ?_;intro h;exact wkT [(0,3),(1,5)] (ih (k+1) hx1 _ _ nbF nbF o h C0 C1)
   obtain rfl:=X02 rfl;refine X2.round ?_;revert h;refine bI λv191 h192=>brI (λh193=>?_) λh193=>?_
   ·
    refine brI (λh194=>λe=>X8 [.el (aI .i64 (X0a.length:Int)),Bt,.el (X4 x),.pure _ (aI .i64 v191),Bt,.wrap,Bt] (k:=wkT [] (C1 _ _  nbS nbS (oj e).symm))) λh194=>bI λe195 h196=>?_;try have qh196:=Xl h196
    refine bI λe197 h198=>?_;try have qh198:=Xl h198
    intro h
    first|exact absurd (h198) (by simp[X0u];done)|(simp[X0u,hc,h193,h194] at h;done)|(simp[hc,h193,h194] at hg;done)|exact absurd (h198) (by simp[X0u,hc,h193,h194];done)
   refine bI λv199 h200=>brI (λh201=>λe=>X8 [.el (aI .i64 (X0a.length:Int)),Bt,.el (X4 x),.pure _ (aI .i64 v191),Bf,.el (X4 x),.pure _ (aB v199),Bt] (k:=wkT [] (C1 _ _  nbS nbS (oj e).symm))) λh201=>?_;refine bI λu202 h203=>bI λu204 h205=>rnI [.el (aI .i64 (X0a.length:Int)),Bt,.el (X4 x),.pure _ (aI .i64 v191),Bf,.el (X4 x),.pure _ (aB v199),Bf,.no,.no] (o:=by repeat' first|apply Ya|exact pcM|(refine X03 h203 rfl ?_;first|(simp<;>omega)|(simp[hc,h193,h201]<;>omega))|(refine Xq h203 (by decide) ?_;first|(simp<;>omega)|(simp[hc,h193,h201]<;>omega))|(refine X03 h205 rfl ?_;first|(simp<;>omega)|(simp[hc,h193,h201]<;>omega))|(refine Xq h205 (by decide) ?_;first|(simp<;>omega)|(simp[hc,h193,h201]<;>omega))|exact X05) ?_;intro h;exact wkT [(0,3),(1,5)] (ih (k+1) hx1 _ _ nbF nbF o h C0 C1)
  obtain rfl:=X2v rfl;rcases Xp with ⟨_|_,X02⟩<;>(try obtain rfl:=X02 rfl);all_goals
   refine X2.round ?_;revert h;refine bI λv206 h207=>brI (λh208=>?_) λh208=>?_
   ·
    refine brI (λh209=>λe=>X8 [.el (aI .i64 (X0a.length:Int)),Bt,.el (X4 x),.pure _ (aI .i64 v206),Bt,.wrap,Bt] (k:=wkT [] (C1 _ _  nbS nbS (oj e).symm))) λh209=>bI λe210 h211=>?_;try have qh211:=Xl h211
    intro h
    first|exact absurd (h211) (by simp[X0u];done)|(simp[X0u,hc,h208,h209] at h;done)|(simp[hc,h208,h209] at hg;done)|exact absurd (h211) (by simp[X0u,hc,h208,h209];done)
   refine bI λv212 h213=>brI (λh214=>λe=>X8 [.el (aI .i64 (X0a.length:Int)),Bt,.el (X4 x),.pure _ (aI .i64 v206),Bf,.el (X4 x),.pure _ (aB v212),Bt] (k:=wkT [] (C1 _ _  nbS nbS (oj e).symm))) λh214=>?_;refine bI λu215 h216=>bI λu217 h218=>rnI [.el (aI .i64 (X0a.length:Int)),Bt,.el (X4 x),.pure _ (aI .i64 v206),Bf,.el (X4 x),.pure _ (aB v212),Bf,.no,.no] (o:=by repeat' first|apply Ya|exact pcM|(refine X03 h216 rfl ?_;first|(simp<;>omega)|(simp[hc,h208,h214]<;>omega))|(refine Xq h216 (by decide) ?_;first|(simp<;>omega)|(simp[hc,h208,h214]<;>omega))|(refine X03 h218 rfl ?_;first|(simp<;>omega)|(simp[hc,h208,h214]<;>omega))|(refine Xq h218 (by decide) ?_;first|(simp<;>omega)|(simp[hc,h208,h214]<;>omega))|exact X05) ?_;intro h;exact wkT [(0,3),(1,5)] (ih (k+1) hx1 _ _ nbF nbF o h C0 C1)
end Go.Av.Tryz