/- Printed by decomp.py: that the program computes the functions. -/
import Derived.Test.YtomaojndejpfgaaGreatDoorDCert9Z
set_option linter.all false

namespace Go.Av.Tryz
open Go.Proofs Go.D Go.Proofs.Tryz
set_option maxRecDepth 10000
set_option maxHeartbeats 40000000
theorem Xez {Q:Qt} {μ:Mu} (Xrq:(List (List Xs))) (hl:Xrq.length<=140737488355328):Dr Xrq λxs k=>∀ (y0_5:Int) o,Lq Tryz.prog 42 0 Q μ o (fun|.x0 Xaz=>(.exit 0,⟨fr [(5,(aI .i64 Xaz))],hp ([]),0⟩)|.x1 Xch=>(.ret,⟨fr [(2,(aI .i64 0)),(3,(aI .i64 Xch))],hp ([]),0⟩))
  (X64 0 (X1l Tryz.f18)) ⟨fr [(5,(aI .i64 y0_5)),(23,(Lf (List.map (X6t false Xg) Xrq))),(24,(aI .i64 (Xrq.length:Int))),(25,(aI .i64 (k:Int)))],hp ([]),0⟩ (X2o Xrq xs k y0_5):=by
 refine drI ?_ ?_
 ·
  intro k hk hc y0_5 o C;rw[X2o];exact rdI<|λe=>X8 [Bf] (k:=wC e C)
 ·
  intro x xs k hk hg hc ih y0_5 o C;rw[X2o];exact rdI<|bI λv14 h15=>brI (λh16=>λe=>X8 [Bt,.el (X6t false Xg x),.pure _ (AV.tup [(aI .i64 v14.1),(aI .i64 v14.2)]),Bt] (k:=wC e C)) λh16=>rnK [Bt,.el (X6t false Xg x),.pure _ (AV.tup [(aI .i64 v14.1),(aI .i64 v14.2)]),Bf] (k:=wkI [] (ih  _ o C))
instance Xy9:PZ 18 (∀ (a0:(List (List Xs))) (r:Int×Int),X6o a0=some r->Pz 18 [(Lf (List.map (X6t false Xg) a0))] (AV.tup [(aI .i64 r.1),(aI .i64 r.2)])):=⟨λa0 r=>by
 unfold X6o;refine psI fn18 42<|brI (λh1=>λe=>oj e▸X8 [.el (aI .i64 (a0.length:Int)),.el (aI .i64 (a0.length:Int)),Bt] (k:=fi)) λh1=>bI λv2 h3=>brI (λh4=>λe=>oj e▸X8 [.el (aI .i64 (a0.length:Int)),.el (aI .i64 (a0.length:Int)),Bf,.pure _ (aI .i64 v2),Bt] (k:=fi)) λh4=>bI λu5 h6=>?_;have qh6:=X0e h6;refine bI λo17 h18=>rnI [.el (aI .i64 (a0.length:Int)),.el (aI .i64 (a0.length:Int)),Bf,.pure _ (aI .i64 v2),Bf,.el (aI .i64 (a0.length:Int))] ?_;intro h;refine wkT [] (X7.cut (drA (Xez a0 qh6) _ _ ?_ h18));revert h;rcases o17 with ⟨Xaz⟩|⟨Xch⟩
 ·
  exact lGI rfl λe=>oj e▸X8 [] (k:=fi)
 exact lGI rfl λe=>oj e▸X8 [] (k:=fi)⟩
theorem Xcx {Q:Qt} {μ:Mu} (Xu4:(List X9)) (X3c:Int) (Xjp:(List X5v)) (hl:Xjp.length<=140737488355328):∀ (xs:List X5v) (k:Nat) (hx:Xjp.drop k=xs) (Xd:(List X5v)) (X0j:Nb Xd) (o:X5p) (h:X1h Xu4 X3c Xjp xs k Xd=some o)
  (C0:∀ (Xo:(List X5v)) (X02:Nb Xo),o=X5p.x0 Xo->Sx 50 Q [(8,(Lt (Xu4.map X2))),(11,(slE X02.1 0 (Xo.map Xv)))] ([]++opE X02.1 0 5 (Xo.map Xv)) 1 μ),
  Sl 50 Q f8 [(8,(Lt (Xu4.map X2))),(10,(aI .i64 X3c)),(11,(slE X0j.1 0 (Xd.map Xv))),(32,(Lt (Xjp.map Xv))),(33,(aI .i64 (Xjp.length:Int))),(34,(aI .i64 (k:Int)))] ([]++opE X0j.1 0 5 (Xd.map Xv)) 1 μ:=by
 intro xs
 induction xs with
 |nil =>
  intro k hx Xd X0j o h C0;have hk:=drop_nil hx;have hc:=lpN hx;rw[X1h] at h;rcases X0j with ⟨_|_,X2s⟩
  ·
   refine X7.round ?_;revert h;exact λe=>X8 [Bf] (k:=wkT [] (C0 _  nbF (oj e).symm))
  ·
   obtain rfl:=X2s rfl;refine X7.round ?_;revert h;exact λe=>X8 [Bf] (k:=wkT [] (C0 _  nbS (oj e).symm))
 |cons x xs ih =>
  intro k hx Xd X0j o h C0;obtain⟨hk,hg,hx1⟩:=drop_cons hx;have hc:=lpC hx;rw[X1h] at h;rcases X0j with ⟨_|_,X2s⟩
  ·
   refine X7.round ?_;revert h;refine bI λXqn h49=>rnI [Bt,.el (Xv x)] ?_;intro h;refine X7.joinF (λ(q:Nb Xqn)=>⟨fr [(8,(Lt (Xu4.map X2))),(10,(aI .i64 X3c)),(11,(slE q.1 0 (Xqn.map Xv))),(32,(Lt (Xjp.map Xv))),(33,(aI .i64 (Xjp.length:Int))),(34,(aI .i64 (k:Int)))],hp ([]++opE q.1 0 5 (Xqn.map Xv)),1⟩) ?_ (λJ=>X7.cut ?_)
   ·
    rintro Xzv;rcases Xzv with ⟨_|_,X010⟩
    ·
     exact X8 [] (k:=wkT [] (ih (k+1) hx1 _ nbF o h C0))
    obtain rfl:=X010 rfl;exact X8 [] (k:=wkT [] (ih (k+1) hx1 _ nbS o h C0))
   clear h;revert h49;refine brI (λh46=>?_) λh46=>?_
   ·
    refine bI λu47 h48=>?_;intro h;obtain rfl:=oj h;exact X8 [Bt,.no] (o:=by repeat' first|apply Ya|exact pcM|(refine X1r h48 rfl ?_;first|(simp<;>omega)|(simp[hc,h46]<;>omega))|(refine X0p h48 (by decide) ?_;first|(simp<;>omega)|(simp[hc,h46]<;>omega))|exact X24) (k:=wkT [(0,3)] (X7.glue (J nbF)))
   intro h;obtain rfl:=oj h;exact X8 [Bf] (k:=wkT [] (X7.glue (J nbF)))
  obtain rfl:=X2s rfl;refine X7.round ?_;revert h;refine bI λX00c h57=>rnI [Bt,.el (Xv x)] ?_;intro h;refine X7.joinF (λ(q:Nb X00c)=>⟨fr [(8,(Lt (Xu4.map X2))),(10,(aI .i64 X3c)),(11,(slE q.1 0 (X00c.map Xv))),(32,(Lt (Xjp.map Xv))),(33,(aI .i64 (Xjp.length:Int))),(34,(aI .i64 (k:Int)))],hp ([]++opE q.1 0 5 (X00c.map Xv)),1⟩) ?_ (λJ=>X7.cut ?_)
  ·
   rintro Xzt;rcases Xzt with ⟨_|_,X00y⟩
   ·
    exact X8 [] (k:=wkT [] (ih (k+1) hx1 _ nbF o h C0))
   obtain rfl:=X00y rfl;exact X8 [] (k:=wkT [] (ih (k+1) hx1 _ nbS o h C0))
  clear h;revert h57;refine brI (λh54=>?_) λh54=>?_
  ·
   refine bI λu55 h56=>?_;intro h;obtain rfl:=oj h;exact X8 [Bt,.no] (k:=wkT [(0,3)] (X7.glue (J nbF)))
  intro h;obtain rfl:=oj h;exact X8 [Bf] (k:=wkT [] (X7.glue (J nbS)))
instance Xut:PZ 8 (∀ (a0:Xb) (a1:(List (List Xs))) (r:(List X5v)×(List X9)×Int),X12 a0 a1=some r->Pz 8 [(Xc false a0),(Lf (List.map (X6t false Xg) a1))] (AV.tup [(Lt (r.1.map Xv)),(Lt (r.2.1.map X2)),(aI .i64 r.2.2)])):=⟨λa0 a1 r=>by
 unfold X12;refine psI fn8 50<|bI λv1 h2=>brI (λh3=>λe=>oj e▸X8 [.pure _ (AV.tup [(Lt (v1.1.map Xv)),(Lt (v1.2.1.map X2)),(aI .i64 v1.2.2)]),Bt] (k:=fi)) λh3=>bI λv4 h5=>rnI [.pure _ (AV.tup [(Lt (v1.1.map Xv)),(Lt (v1.2.1.map X2)),(aI .i64 v1.2.2)]),Bf,.pure _ (AV.tup [(aI .i64 v4.1),(aI .i64 v4.2)])] ?_;refine brI (λh6=>λe=>oj e▸X8 [Bt] (k:=fi)) λh6=>bI λu7 h8=>?_;have qh8:=X0e h8;refine bI λo58 h59=>rnI [Bf,.el (aI .i64 (v1.1.length:Int))] ?_;intro h;refine wkT [] (X7.cut (Xcx v1.2.1 v4.1 v1.1 qh8 v1.1 0 (by simp) _ nbS _ h59 ?_));intro Xo X02 eo58;subst eo58;refine X7.glue ?_;try dsimp only at h
 rcases X02 with ⟨_|_,X1p⟩<;>(try obtain rfl:=X1p rfl);all_goals
  revert h;exact λe=>oj e▸X8 [] (k:=fi)⟩
theorem Xun {P:Prop} (h:P:=by repeat' first|apply Ya|exact pcM|(refine X1r h5 rfl ?_;first|(simp<;>omega)|(simp[h1]<;>omega))|(refine X0p h5 (by decide) ?_;first|(simp<;>omega)|(simp[h1]<;>omega))|exact X24):P:=h
instance Xlw:PZ 68 (∀ (a0:(List X4)) (r:(List X4)),X1j a0=some r->Pz 68 [(Lf (a0.map X0))] (Lt (r.map X0))):=⟨λa0 r=>by
 unfold X1j;refine psI fn68 8<|brI (λq=>?_) λq=>?_
 ·
  intro h;have h1:a0=[]:=List.isEmpty_iff.1 q;refine X0q [] ?_;refine X7.eqNil Xf (may:=true) rfl rfl rfl rfl rfl rfl trivial (by simp[X6n, *]) λb2 qb2=>?_;cases b2
  ·
   revert h;exact λe=>oj e▸X8 [Bf,.ne false] (k:=fi)
  revert h;exact λe=>oj e▸X8 [Bt] (k:=fi)
 intro h;have h1:¬ (a0=[]):=(λe=>by rw[e] at q;cases q);refine X0q [] ?_;refine X7.eqNil Xf (may:=false) rfl rfl rfl rfl rfl rfl trivial (by simp[X6n, *]) λb3 qb3=>?_;obtain rfl:=qb3 rfl;revert h;exact bI λu4 h5=>λe=>oj e▸X8 [Bf,.via (Lt (a0.map X0))] (o:=Xun) (k:=fi)⟩
instance Xnv:PZ 69 (∀ (a0:(List Int)) (r:(List Int)),X2q a0=some r->Pz 69 [(Lf (List.map (aI .i64) a0))] (Lt (List.map (aI .i64) r))):=⟨λa0 r=>by
 unfold X2q;refine psI fn69 8<|brI (λq=>?_) λq=>?_
 ·
  intro h;have h1:a0=[]:=List.isEmpty_iff.1 q;refine X0q [] ?_;refine X7.eqNil Xf (may:=true) rfl rfl rfl rfl rfl rfl trivial (by simp[X6n, *]) λb2 qb2=>?_;cases b2
  ·
   revert h;exact λe=>oj e▸X8 [Bf,.ne false] (k:=fi)
  revert h;exact λe=>oj e▸X8 [Bt] (k:=fi)
 intro h;have h1:¬ (a0=[]):=(λe=>by rw[e] at q;cases q);refine X0q [] ?_;refine X7.eqNil Xf (may:=false) rfl rfl rfl rfl rfl rfl trivial (by simp[X6n, *]) λb3 qb3=>?_;obtain rfl:=qb3 rfl;revert h;exact bI λu4 h5=>λe=>oj e▸X8 [Bf,.via (Lt (List.map (aI .i64) a0))] (o:=Xun) (k:=fi)⟩
instance Xz3:PZ 38 (∀ (a0:Xb) (r:Xb),X86 a0=some r->Pz 38 [(Xc false a0)] (Xc true r)):=⟨λa0 r=>by
 unfold X86;exact psI fn38 16<|bI λv1 h2=>bI λv3 h4=>bI λv5 h6=>λe=>oj e▸X8 [.pure _ (Lt (v1.map X0)),.pure _ (Lt (List.map (aI .i64) v3)),.pure _ (Lt (v5.map X0))] (k:=fi)⟩
instance X07m:PZ 105 (∀ (a0:(List X4)) (r:(List Bool)×Int),Xd1 a0=some r->Pz 105 [(Lf (a0.map X0))] (AV.tup [(Lt (r.1.map aB)),(aI .i64 r.2)])):=⟨λa0 r=>by
 unfold Xd1;exact psI X0jk 24<|bI λv1 h2=>brI (λh3=>λe=>oj e▸X8 [.pure _ (AV.tup [(aB v1.1),(aI .i64 v1.2.1),(aI .i64 v1.2.2)]),Bt] (k:=fi)) λh3=>bI λv4 h5=>λe=>oj e▸X8 [.pure _ (AV.tup [(aB v1.1),(aI .i64 v1.2.1),(aI .i64 v1.2.2)]),Bf,.pure _ (AV.tup [(Lt (v4.1.map aB)),(aI .i64 v4.2)])] (k:=fi)⟩
instance X04v:PZ 150 (∀ (a0:(List X4)) (a1:Int) (r:Int×Int),Xbc a0 a1=some r->Pz 150 [(Lf (a0.map X0)),(aI .i64 a1)] (AV.tup [(aI .i64 r.1),(aI .i64 r.2)])):=⟨λa0 a1 r=>by
 unfold Xbc;refine psI X0iy 29<|bI λv1 h2=>brI (λh3=>λe=>oj e▸X8 [.pure _ (AV.tup [(Lt (v1.1.map X5)),(aI .i64 v1.2)]),Bt] (k:=fi)) λh3=>brI (λh4=>λe=>oj e▸X8 [.pure _ (AV.tup [(Lt (v1.1.map X5)),(aI .i64 v1.2)]),Bf,.el (aI .i64 (v1.1.length:Int)),Bt] (k:=fi)) λh4=>bI λe5 h6=>?_;try have qh6:=Xq h6
 exact λe=>oj e▸X8 [.pure _ (AV.tup [(Lt (v1.1.map X5)),(aI .i64 v1.2)]),Bf,.el (aI .i64 (v1.1.length:Int)),Bf,.el (X5 e5)] (k:=fi)⟩
theorem Xbb {Q:Qt} {μ:Mu} (Xa7:Int) (Xpt:Int):∀ (n:Nat) (Xd:(List X4)) (Xeq:Int) (X0j:Nb Xd) (o:X8h) (h:X2w Xa7 Xpt n Xd Xeq=some o)
  (C0:∀ (Xo:(List X4)) (X02:Nb Xo),o=X8h.x0 Xo->Sx 49 Q [(5,(slE X02.1 0 (Xo.map X0)))] ([]++opE X02.1 0 5 (Xo.map X0)) 1 μ),
  Sl 49 Q f151 [(1,(aI .i64 Xa7)),(5,(slE X0j.1 0 (Xd.map X0))),(12,(aI .i64 Xpt)),(13,(aI .i64 Xeq))] ([]++opE X0j.1 0 5 (Xd.map X0)) 1 μ:=by
 intro n
 induction n with
 |zero=>intro Xd Xeq X0j o h C0;cases h
 |succ n ih =>
  intro Xd Xeq X0j o h C0;rw[X2w] at h;rcases X0j with ⟨_|_,X2s⟩
  ·
   refine X7.round ?_;revert h;refine brI (λh85=>?_) λh85=>λe=>X8 [Bf] (k:=wkT [] (C0 _  nbF (oj e).symm));refine bI λe86 h87=>?_;try have qh87:=Xq h87
   refine bI λv88 h89=>bI λXku h93=>rnI [Bt,.el (X0 e86),.ld (X0 e86),.pure _ (AV.tup [(aI .i64 v88.1),(aI .i64 v88.2)])] ?_;intro h;refine X7.joinF (λ(q:Nb Xku)=>⟨fr [(1,(aI .i64 Xa7)),(5,(slE q.1 0 (Xku.map X0))),(6,(aI .i64 Xeq)),(7,(aI .i64 v88.1)),(12,(aI .i64 Xpt)),(13,(aI .i64 Xeq))],hp ([]++opE q.1 0 5 (Xku.map X0)),1⟩) ?_ (λJ=>X7.cut ?_)
   ·
    rintro Xzs;rcases Xzs with ⟨_|_,X00x⟩
    ·
     revert h;refine bI λXql h101=>rnI [] ?_;intro h;refine X7.joinF (λ(q:Nb Xql)=>⟨fr [(1,(aI .i64 Xa7)),(5,(slE q.1 0 (Xql.map X0))),(12,(aI .i64 Xpt)),(13,(aI .i64 Xeq))],hp ([]++opE q.1 0 5 (Xql.map X0)),1⟩) ?_ (λJ=>X7.cut ?_)
     ·
      rintro Xzr;rcases Xzr with ⟨_|_,X00w⟩
      ·
       exact X8 [.wrap] (k:=wkT [] (ih  _ _ nbF o h C0))
      obtain rfl:=X00w rfl;exact X8 [.wrap] (k:=wkT [] (ih  _ _ nbS o h C0))
     clear h;revert h101;refine brI (λh98=>?_) λh98=>?_
     ·
      refine bI λe99 h100=>?_;try have qh100:=Xq h100
      intro h;obtain rfl:=oj h;exact X8 [Bt,.el (X0 e99),.ld (X0 e99),.wrap,.el (X0 e99),.ld (X0 e99)] (k:=wkT [] (X7.glue (J nbF)))
     intro h;obtain rfl:=oj h;exact X8 [Bf] (k:=wkT [] (X7.glue (J nbF)))
    obtain rfl:=X00x rfl;revert h;refine bI λXtd h109=>rnI [] ?_;intro h;refine X7.joinF (λ(q:Nb Xtd)=>⟨fr [(1,(aI .i64 Xa7)),(5,(slE q.1 0 (Xtd.map X0))),(12,(aI .i64 Xpt)),(13,(aI .i64 Xeq))],hp ([]++opE q.1 0 5 (Xtd.map X0)),1⟩) ?_ (λJ=>X7.cut ?_)
    ·
     rintro Xwn;rcases Xwn with ⟨_|_,Xxg⟩
     ·
      exact X8 [.wrap] (k:=wkT [] (ih  _ _ nbF o h C0))
     obtain rfl:=Xxg rfl;exact X8 [.wrap] (k:=wkT [] (ih  _ _ nbS o h C0))
    clear h;revert h109;refine brI (λh106=>?_) λh106=>?_
    ·
     refine bI λe107 h108=>?_;try have qh108:=Xq h108
     intro h
     first|exact absurd (h108) (by simp[getI];done)|(simp[getI,h85,h106] at h;done)|(simp[h85,h106] at hg;done)|exact absurd (h108) (by simp[getI,h85,h106];done)
    intro h;obtain rfl:=oj h;exact X8 [Bf] (k:=wkT [] (X7.glue (J nbS)))
   clear h;revert h93;refine brI (λh92=>?_) λh92=>?_
   ·
    intro h;obtain rfl:=oj h;exact X8 [Bt,.el (X0 e86),.ld (X0 e86),.wrap,.el (X0 e86),.ld (X0 e86)] (k:=wkT [] (X7.glue (J nbF)))
   intro h;obtain rfl:=oj h;exact X8 [Bf] (k:=wkT [] (X7.glue (J nbF)))
  obtain rfl:=X2s rfl;refine X7.round ?_;revert h;refine brI (λh110=>?_) λh110=>λe=>X8 [Bf] (k:=wkT [] (C0 _  nbS (oj e).symm));refine bI λe111 h112=>?_;try have qh112:=Xq h112
  intro h
  first|exact absurd (h112) (by simp[getI];done)|(simp[getI,h110] at h;done)|(simp[h110] at hg;done)|exact absurd (h112) (by simp[getI,h110];done)
instance X03l:PZ 151 (∀ (a0:(List X4)) (a1:Int) (r:(List X4)),X63 a0 a1=some r->Pz 151 [(Lf (a0.map X0)),(aI .i64 a1)] (Lt (r.map X0))):=⟨λa0 a1 r=>by
 unfold X63;refine psI X0ix 49<|bI λXqm h12=>rnI [] ?_;intro h;refine X7.joinOpF (λ(q:Nb Xqm)=>⟨fr [(1,(aI .i64 a1)),(10,(slE q.1 0 (Xqm.map X0)))],hp ([]++opE q.1 0 5 (Xqm.map X0)),1⟩) ?_ (λJ=>?_)
 ·
  rintro X054;rcases X054 with ⟨_|_,X062⟩
  ·
   revert h;refine bI λo113 h114=>rnI [.el (aI .i64 (Xqm.length:Int))] ?_;intro h;refine wkT [] (X7.cut (Xbb a1 (Xqm.length:Int) _ _ _ nbF _ h114 ?_));intro Xo X02 eo113;subst eo113;refine X7.glue ?_;try dsimp only at h
   rcases X02 with ⟨_|_,X1p⟩<;>(try obtain rfl:=X1p rfl);all_goals
    revert h;exact λe=>oj e▸X8 [] (k:=fi)
  obtain rfl:=X062 rfl;revert h;refine bI λo187 h188=>rnI [.el (aI .i64 (List.length ([]:List X4):Int))] ?_;intro h;refine wkT [] (X7.cut (Xbb a1 (List.length ([]:List X4):Int) _ _ _ nbS _ h188 ?_));intro Xo X02 eo187;subst eo187;refine X7.glue ?_;try dsimp only at h
  rcases X02 with ⟨_|_,X1p⟩<;>(try obtain rfl:=X1p rfl);all_goals
   revert h;exact λe=>oj e▸X8 [] (k:=fi)
 clear h;revert h12;intro h;refine X7.inline Xf fn68 rfl rfl rfl rfl rfl trivial trivial rfl rfl ?_;revert h;refine brI (λq=>?_) λq=>?_
 ·
  intro h;have h7:a0=[]:=List.isEmpty_iff.1 q;refine X0q [] ?_;refine X7.eqNil Xf (may:=true) rfl rfl rfl rfl rfl rfl trivial (by simp[X6n, *]) λb8 qb8=>?_;cases b8
  ·
   obtain rfl:=oj h;refine X0q [Bf,.ne false] ?_;refine X7.back (by intro id h;cases h) rfl ?_;exact wkT [] ((J nbS))
  obtain rfl:=oj h;refine X0q [Bt] ?_;refine X7.back (by intro id h;cases h) rfl ?_;exact wkT [] ((J nbS))
 intro h;have h7:¬ (a0=[]):=(λe=>by rw[e] at q;cases q);refine X0q [] ?_;refine X7.eqNil Xf (may:=false) rfl rfl rfl rfl rfl rfl trivial (by simp[X6n, *]) λb9 qb9=>?_;obtain rfl:=qb9 rfl;revert h;refine bI λu10 h11=>?_;intro h;obtain rfl:=oj h;refine X0q [Bf,.via (Lt (a0.map X0))] (o:=by repeat' first|apply Ya|exact pcM|(refine X1r h11 rfl ?_;first|(simp<;>omega)|(simp[h7]<;>omega))|(refine X0p h11 (by decide) ?_;first|(simp<;>omega)|(simp[h7]<;>omega))|exact X24) ?_;refine X7.back (by intro id h;cases h) rfl ?_;exact wkT [(0,1)] ((J nbF))⟩
instance X04w:PZ 108 (∀ (a0:(List X4)) (a1:Int) (r:(List X4)×Int),Xbd a0 a1=some r->Pz 108 [(Lf (a0.map X0)),(aI .i64 a1)] (AV.tup [(Lt (r.1.map X0)),(aI .i64 r.2)])):=⟨λa0 a1 r=>by
 unfold Xbd;refine psI X0ji 30<|bI λv1 h2=>brI (λh3=>λe=>oj e▸X8 [.pure _ (AV.tup [(aI .i64 v1.1),(aI .i64 v1.2)]),Bt] (k:=fi)) λh3=>bI λm4 h5=>?_;obtain⟨qah5,qbh5,qch5,qh5⟩:=X2h h5;have qlh5:=X5e h5;exact bI λv6 h7=>λe=>oj e▸X8 [.pure _ (AV.tup [(aI .i64 v1.1),(aI .i64 v1.2)]),Bf,.wrap,.wrap,.wrap,.via (Lf (m4.map X0)),.wrap,.pure _ (Lt (v6.map X0))] (o:=by repeat' first|apply Ya|exact pcM|(rw[qh5];simp[Ym,Yd];done)|exact X24) (k:=fi)⟩
instance Xrk:PZ 112 (∀ (a0:X4) (r:Bool),X2c a0=some r->Pz 112 [(X0 a0)] (aB r)):=⟨λa0 r=>by
 unfold X2c;refine psI X0je 17<|bI λj3_2 h6=>rnI [.stop 2] ?_;exact jnI ⟨fr [(2,(aB j3_2))],hp ([]),0⟩ h6 (λe=>oj e▸X8 [] (k:=fi)) λJ=>brI (λh4=>λe=>X8 [Gf,Gf,Gf,Gf,Gf,Gf] (o:=by repeat' first|apply Ya|exact pcM|exact fq (X02h h4 rfl)|exact X24) (k:=wJ [] J)) λh4=>brI (λh5=>λe=>X8 [Gt,Gt,Gt,Gf,Gf,Gf] (o:=by repeat' first|apply Ya|exact pcM|exact fq (Xrc h4 h5)|exact X24) (k:=wJ [] J)) λh5=>λe=>X8 [Gt,Gt,Gt,Gt,Gt,Gt] (o:=by repeat' first|apply Ya|exact pcM|exact fq (Xrc h4 h5)|exact X24) (k:=wJ [] J)⟩
theorem X70 {Q:Qt} {μ:Mu} (X0g:(List X4)) (hl:X0g.length<=140737488355328):Dr X0g λxs k=>∀ o,Lq Tryz.prog 19 0 Q μ o (fun|.x0=>(.exit 0,⟨fr [],hp ([]),0⟩)|.x1 X72=>(.ret,⟨fr [(4,(aI .i64 X72))],hp ([]),0⟩))
  (X64 0 (X1l Tryz.f155)) ⟨fr [(0,(Lf (X0g.map X0))),(1,(AV.fn 112 [])),(7,(aI .i64 (X0g.length:Int))),(8,(aI .i64 (k:Int)))],hp ([]),0⟩ (X0a X0g xs k):=by
 refine drI ?_ ?_
 ·
  intro k hk hc o C;rw[X0a];exact rdI<|λe=>X8 [Bf] (k:=wC e C)
 ·
  intro x xs k hk hg hc ih o C;rw[X0a];exact rdI<|bI λv10 h11=>brI (λh12=>λe=>X8 [Bt,.el (X0 x),.pure _ (aB v10),Bt] (k:=wC e C)) λh12=>rnK [Bt,.el (X0 x),.pure _ (aB v10),Bf] (k:=wkI [] (ih o C))
theorem X3k (a0:(List X4)) (r:Int) (h:X0i a0=some r):Pz 155 [(Lf (a0.map X0)),(AV.fn 112 [])] (aI .i64 r):=by
 refine X76.sym Xf X0iv (nt:=19) rfl rfl ?_ okM;unfold X0i at h;revert h;refine bI λu1 h2=>?_;have qh2:=X0e h2;refine bI λo13 h14=>rnI [.el (aI .i64 (a0.length:Int))] ?_;intro h;refine wkT [] (X7.cut (drA (X70 a0 qh2) _ ?_ h14));revert h;rcases o13 with _|⟨X72⟩
 ·
  exact lGI rfl λe=>oj e▸X8 [] (k:=fi)
 exact lGI rfl λe=>oj e▸X8 [] (k:=fi)
theorem X3d (a0:(List X4)) (r:Bool) (h:X0d a0=some r):Pz 113 [(Lf (a0.map X0)),(AV.fn 112 [])] (aB r):=by
 refine X76.sym Xf X0jd (nt:=9) rfl rfl ?_ okM;unfold X0d at h;revert h;exact bI λv1 h2=>λe=>oj e▸X8 [.pure [(Lf (a0.map X0)),(AV.fn 112 [])] (aI .i64 v1)] (o:=by repeat' first|apply Ya|exact pcM|exact(pn (X3k _ _ h2) (cc (X58 (X1s X2a a0)) (cc .fn0 cn)))|exact X24) (k:=fi)
instance Xvn:PZ 72 (∀ (a0:(List X4)) (r:Bool×Int),X5a a0=some r->Pz 72 [(Lf (a0.map X0))] (AV.tup [(aB r.1),(aI .i64 r.2)])):=⟨λa0 r=>by
 unfold X5a;exact psI fn72 15<|bI λv1 h2=>brI (λh3=>λe=>oj e▸X8 [.pure _ (aI .i64 v1),Bt] (k:=fi)) λh3=>bI λv4 h5=>λe=>oj e▸X8 [.pure _ (aI .i64 v1),Bf,.pure [(Lf (a0.map X0)),(AV.fn 112 [])] (aB v4)] (o:=by repeat' first|apply Ya|exact pcM|exact(pn (X3d _ _ h5) (cc (X58 (X1s X2a a0)) (cc .fn0 cn)))|exact X24) (k:=fi)⟩
instance X03v:PZ 40 (∀ (a0:(List X4)) (r:Int×Bool×Int),X7t a0=some r->Pz 40 [(Lf (a0.map X0))] (AV.tup [(aI .i64 r.1),(aB r.2.1),(aI .i64 r.2.2)])):=⟨λa0 r=>by
 unfold X7t;exact psI fn40 41<|bI λv1 h2=>brI (λh3=>λe=>oj e▸X8 [.pure _ (AV.tup [(aB v1.1),(aI .i64 v1.2.1),(aI .i64 v1.2.2)]),Bt] (k:=fi)) λh3=>bI λv4 h5=>brI (λh6=>λe=>oj e▸X8 [.pure _ (AV.tup [(aB v1.1),(aI .i64 v1.2.1),(aI .i64 v1.2.2)]),Bf,.pure _ (AV.tup [(aB v4.1),(aI .i64 v4.2)]),Bt] (k:=fi)) λh6=>bI λv7 h8=>λe=>oj e▸X8 [.pure _ (AV.tup [(aB v1.1),(aI .i64 v1.2.1),(aI .i64 v1.2.2)]),Bf,.pure _ (AV.tup [(aB v4.1),(aI .i64 v4.2)]),Bf,.pure _ (AV.tup [(aI .i64 v7.1),(aI .i64 v7.2)])] (k:=fi)⟩
theorem Xdb (a0:Int) (a1:Int) (r:(List X4)) (h:X56 a0 a1=some r):Pz 152 [(aI .i64 a0),(AV.elem false ((aI .i64) a1) 0)] (Lt (r.map X0)):=by
 refine X76.sym Xf X0fb (nt:=8) rfl rfl ?_ okM;unfold X56 at h;revert h;exact λe=>oj e▸X8 [] (k:=fi)
theorem Xim {Q:Qt} {μ:Mu} (Xe7:(List (List X4))) (hl:Xe7.length<=140737488355328):∀ (xs:List (List X4)) (k:Nat) (hx:Xe7.drop k=xs) (Xd:X4) (Xe:(List X4)) (Xp:Nb Xe) (o:X6m) (h:X1u Xe7 xs k Xd Xe=some o)
  (C0:∀ (Xo:X4) (X00:(List X4)) (X07:Nb X00),o=X6m.x0 Xo X00->Sx 94 Q [(12,(AV.ptr 0 0 0)),(13,(slE X07.1 1 (X00.map X0)))] ([(0,Ob [(X0 Xo)] 5)]++opE X07.1 1 5 (X00.map X0)) 2 μ)
  (C1:∀ (Xy:(List X4)) (Xa8:Int) (Xx:Nb Xy),o=X6m.x1 Xy Xa8->Sr 94 Q [(8,(slE Xx.1 0 (Xy.map X0))),(9,(aI .i64 Xa8))] ([]++opE Xx.1 0 5 (Xy.map X0)) 1 μ),
  Sl 94 Q f153 [(12,(AV.ptr 0 0 0)),(13,(slE Xp.1 1 (Xe.map X0))),(55,(Lf (List.map (X6t false X0) Xe7))),(56,(aI .i64 (Xe7.length:Int))),(57,(aI .i64 (k:Int)))] ([(0,Ob [(X0 Xd)] 5)]++opE Xp.1 1 5 (Xe.map X0)) 2 μ:=by
 intro xs
 induction xs with
 |nil =>
  intro k hx Xd Xe Xp o h C0 C1;have hk:=drop_nil hx;have hc:=lpN hx;rw[X1u] at h;rcases Xp with ⟨_|_,X06⟩
  ·
   refine X7.round ?_;revert h;exact λe=>X8 [Bf] (k:=wkT [] (C0 _ _  nbF (oj e).symm))
  ·
   obtain rfl:=X06 rfl;refine X7.round ?_;revert h;exact λe=>X8 [Bf] (k:=wkT [] (C0 _ _  nbS (oj e).symm))
 |cons x xs ih =>
  intro k hx Xd Xe Xp o h C0 C1;obtain⟨hk,hg,hx1⟩:=drop_cons hx;have hc:=lpC hx;rw[X1u] at h;rcases Xp with ⟨_|_,X06⟩
  ·
   refine X7.round ?_;revert h;refine bI λv71 h72=>brI (λh73=>λe=>X8 [Bt,.el (X6t false X0 x),.pure _ (aI .i64 v71),Bt] (k:=wkT [] (C1 _ _  nbS (oj e).symm))) λh73=>?_;refine bI λv74 h75=>brI (λq=>?_) λq=>?_
   ·
    intro h;have h76:v74=[]:=List.isEmpty_iff.1 q;revert h;refine bI λX00b h80=>rnI [Bt,.el (X6t false X0 x),.pure _ (aI .i64 v71),Bf,.el (aI .i64 (Xe.length:Int)),.pure _ (Lt (v74.map X0)),.ne false] ?_;refine jnI ⟨fr [(12,(AV.ptr 0 0 0)),(13,(AV.ref 1 0 (Xe.length))),(55,(Lf (List.map (X6t false X0) Xe7))),(56,(aI .i64 (Xe7.length:Int))),(57,(aI .i64 (k:Int)))],hp ([(0,Ob [(X0 X00b)] 5),(1,Ob (List.map X0 (Xe++v74)) 5)]),2⟩ h80 ?_ λJ=>brI (λh79=>λe=>X8 [Bt,.el (aI .i64 (List.length (Xe++v74):Int)),.wrap] (k:=wJ [] J)) λh79=>λe=>X8 [Bf,.el (aI .i64 (List.length (Xe++v74):Int)),.wrap] (k:=wJ [] J);refine rnI [] ?_;intro h;exact wkT [] (ih (k+1) hx1 _ _ nbF o h C0 C1)
   intro h;have h76:¬ (v74=[]):=(λe=>by rw[e] at q;cases q);revert h;refine bI λu81 h82=>bI λX009 h86=>rnI [Bt,.el (X6t false X0 x),.pure _ (aI .i64 v71),Bf,.el (aI .i64 (Xe.length:Int)),.pure _ (Lt (v74.map X0)),.via (Lt (v74.map X0))] (o:=by repeat' first|apply Ya|exact pcM|(refine X1r h82 rfl ?_;first|(simp<;>omega)|(simp[hc,h73,h76]<;>omega))|(refine X0p h82 (by decide) ?_;first|(simp<;>omega)|(simp[hc,h73,h76]<;>omega))|exact X24) ?_;refine jnI ⟨fr [(12,(AV.ptr 0 0 0)),(13,(AV.ref 1 0 (List.length (Xe++v74)))),(55,(Lf (List.map (X6t false X0) Xe7))),(56,(aI .i64 (Xe7.length:Int))),(57,(aI .i64 (k:Int)))],hp ([(0,Ob [(X0 X009)] 5),(1,Ob (List.map X0 (Xe++v74)) 5)]),2⟩ h86 ?_ λJ=>brI (λh85=>λe=>X8 [Bt,.el (aI .i64 (List.length (Xe++v74):Int)),.wrap] (k:=wJ [(1,2)] J)) λh85=>λe=>X8 [Bf,.el (aI .i64 (List.length (Xe++v74):Int)),.wrap] (k:=wJ [(1,2)] J);refine rnI [] ?_;intro h;exact wkT [] (ih (k+1) hx1 _ _ nbF o h C0 C1)
  obtain rfl:=X06 rfl;refine X7.round ?_;revert h;refine bI λv87 h88=>brI (λh89=>λe=>X8 [Bt,.el (X6t false X0 x),.pure _ (aI .i64 v87),Bt] (k:=wkT [] (C1 _ _  nbS (oj e).symm))) λh89=>?_;refine bI λv90 h91=>brI (λq=>?_) λq=>?_
  ·
   intro h;have h92:v90=[]:=List.isEmpty_iff.1 q;revert h;refine bI λX0eo h96=>rnI [Bt,.el (X6t false X0 x),.pure _ (aI .i64 v87),Bf,.el (aI .i64 (List.length ([]:List X4):Int)),.pure _ (Lt (v90.map X0)),.ne false] ?_;refine jnI ⟨fr [(12,(AV.ptr 0 0 0)),(13,AV.nils),(55,(Lf (List.map (X6t false X0) Xe7))),(56,(aI .i64 (Xe7.length:Int))),(57,(aI .i64 (k:Int)))],hp ([(0,Ob [(X0 X0eo)] 5)]),2⟩ h96 ?_ λJ=>brI (λh95=>λe=>X8 [Bt,.el (aI .i64 (List.length (([]:List X4)++v90):Int)),.wrap] (k:=wJ [] J)) λh95=>λe=>X8 [Bf,.el (aI .i64 (List.length (([]:List X4)++v90):Int)),.wrap] (k:=wJ [] J);refine rnI [] ?_;intro h;exact wkT [] (ih (k+1) hx1 _ _ nbS o h C0 C1)
  intro h;have h92:¬ (v90=[]):=(λe=>by rw[e] at q;cases q);revert h;refine bI λu97 h98=>bI λX0ar h102=>rnI [Bt,.el (X6t false X0 x),.pure _ (aI .i64 v87),Bf,.el (aI .i64 (List.length ([]:List X4):Int)),.pure _ (Lt (v90.map X0)),.via (Lt (v90.map X0))] (o:=by repeat' first|apply Ya|exact pcM|(refine X1r h98 rfl ?_;first|(simp<;>omega)|(simp[hc,h89,h92]<;>omega))|(refine X0p h98 (by decide) ?_;first|(simp<;>omega)|(simp[hc,h89,h92]<;>omega))|exact X24) ?_;refine jnI ⟨fr [(12,(AV.ptr 0 0 0)),(13,(AV.ref 1 0 (List.length (([]:List X4)++v90)))),(55,(Lf (List.map (X6t false X0) Xe7))),(56,(aI .i64 (Xe7.length:Int))),(57,(aI .i64 (k:Int)))],hp ([(0,Ob [(X0 X0ar)] 5),(1,Ob (List.map X0 (([]:List X4)++v90)) 5)]),2⟩ h102 ?_ λJ=>brI (λh101=>λe=>X8 [Bt,.el (aI .i64 (List.length (([]:List X4)++v90):Int)),.wrap] (k:=wJ [(1,2)] J)) λh101=>λe=>X8 [Bf,.el (aI .i64 (List.length (([]:List X4)++v90):Int)),.wrap] (k:=wJ [(1,2)] J);refine rnI [] ?_;intro h;exact wkT [] (ih (k+1) hx1 _ _ nbF o h C0 C1)
end Go.Av.Tryz