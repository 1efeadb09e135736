/- Printed by decomp.py: that the program computes the functions. -/
import Derived.Test.YtdpeaabenapeaaaGreatDCert3Z
set_option linter.all false

namespace Go.Av.Tryz
open Go.Proofs Go.D
set_option maxRecDepth 10000
set_option maxHeartbeats 40000000
instance Xu8:PCs Tryz.prog 18 (∀ (a0:Xt) (r:Int×Int),X7e a0=some r->X0j Tryz.prog 18 [(Xk false a0)] (AV.tup [(aI .i64 r.1),(aI .i64 r.2)])):=⟨λa0 r h=>by
 refine X0j.sym X7 fn18 (nt:=20) rfl rfl ?_ okM;unfold X7e at h;revert h;refine bI λv1 h2=>brI (λh3=>λe=>oj e▸X8 [.pure _ (aI .i64 v1),Bt] (k:=fi)) λh3=>bI λw22 h41=>?_;intro h;obtain⟨Xwm,Xwl⟩:=w22;try dsimp only at h
 refine X0z [.pure _ (aI .i64 v1),Bf] ?_;refine X2.joinOp (s':=⟨fr [(17,(AV.tup [(aI .i64 Xwm),(aI .i64 Xwl)]))],hp ([]),0⟩) ?_ (λJ=>?_)
 ·
  revert h;exact λe=>oj e▸X8 [] (k:=fi)
 clear h;revert h41;intro h;refine X2.inline X7 fn30 rfl rfl rfl rfl rfl trivial trivial rfl rfl ?_;refine X0z [] ?_;refine X2.round ?_;revert h;refine brI (λh23=>?_) λh23=>?_
 ·
  refine rnI [Bt,.el (AV.agg [(Lf (a0.Arg.map X4)),(AV.fn 31 [])]),.el (aI .i64 (a0.Arg.length:Int)),Bt] ?_;intro h;refine X2.round ?_;revert h;refine brI (λh24=>?_) λh24=>?_
  ·
   refine rnI [Bt,.el (AV.agg [(Lf (a0.Where.map X4)),(AV.fn 32 [])]),.el (aI .i64 (a0.Where.length:Int)),Bt] ?_;intro h;refine X2.round ?_;simp only[Option.some.injEq,Prod.mk.injEq] at h;obtain⟨rfl,rfl⟩:=h;refine X0z [Bf] ?_;refine X2.back (by intro id h;cases h) rfl ?_;exact wkT [] (J)
  refine bI λv25 h26=>rnI [Bt,.el (AV.agg [(Lf (a0.Where.map X4)),(AV.fn 32 [])]),.el (aI .i64 (a0.Where.length:Int)),Bf,.pure _ (AV.tup [(aI .i64 v25.1),(aI .i64 v25.2)])] ?_;refine brI (λh27=>?_) λh27=>?_
  ·
   refine bI λe28 h29=>?_;try have qh29:=Xl h29
   intro h;simp only[Option.some.injEq,Prod.mk.injEq] at h;obtain⟨rfl,rfl⟩:=h;refine X0z [Bt,.el (X4 e28)] ?_;refine X2.back (by intro id h;cases h) rfl ?_;exact wkT [] (J)
  refine rnI [Bf] ?_;intro h;refine X2.round ?_;simp only[Option.some.injEq,Prod.mk.injEq] at h;obtain⟨rfl,rfl⟩:=h;refine X0z [Bf] ?_;refine X2.back (by intro id h;cases h) rfl ?_;exact wkT [] (J)
 refine bI λv30 h31=>rnI [Bt,.el (AV.agg [(Lf (a0.Arg.map X4)),(AV.fn 31 [])]),.el (aI .i64 (a0.Arg.length:Int)),Bf,.pure _ (AV.tup [(aI .i64 v30.1),(aI .i64 v30.2)])] ?_;refine brI (λh32=>?_) λh32=>?_
 ·
  refine bI λe33 h34=>?_;try have qh34:=Xl h34
  intro h;simp only[Option.some.injEq,Prod.mk.injEq] at h;obtain⟨rfl,rfl⟩:=h;refine X0z [Bt,.el (X4 e33)] ?_;refine X2.back (by intro id h;cases h) rfl ?_;exact wkT [] (J)
 refine rnI [Bf] ?_;intro h;refine X2.round ?_;revert h;refine brI (λh35=>?_) λh35=>?_
 ·
  refine rnI [Bt,.el (AV.agg [(Lf (a0.Where.map X4)),(AV.fn 32 [])]),.el (aI .i64 (a0.Where.length:Int)),Bt] ?_;intro h;refine X2.round ?_;simp only[Option.some.injEq,Prod.mk.injEq] at h;obtain⟨rfl,rfl⟩:=h;refine X0z [Bf] ?_;refine X2.back (by intro id h;cases h) rfl ?_;exact wkT [] (J)
 refine bI λv36 h37=>rnI [Bt,.el (AV.agg [(Lf (a0.Where.map X4)),(AV.fn 32 [])]),.el (aI .i64 (a0.Where.length:Int)),Bf,.pure _ (AV.tup [(aI .i64 v36.1),(aI .i64 v36.2)])] ?_;refine brI (λh38=>?_) λh38=>?_
 ·
  refine bI λe39 h40=>?_;try have qh40:=Xl h40
  intro h;simp only[Option.some.injEq,Prod.mk.injEq] at h;obtain⟨rfl,rfl⟩:=h;refine X0z [Bt,.el (X4 e39)] ?_;refine X2.back (by intro id h;cases h) rfl ?_;exact wkT [] (J)
 refine rnI [Bf] ?_;intro h;refine X2.round ?_;simp only[Option.some.injEq,Prod.mk.injEq] at h;obtain⟨rfl,rfl⟩:=h;refine X0z [Bf] ?_;refine X2.back (by intro id h;cases h) rfl ?_;exact wkT [] (J)⟩
instance Xxt:PCs Tryz.prog 52 (∀ (a0:Int) (r:Bool),X9s a0=some r->X0j Tryz.prog 52 [(aI .i64 a0)] (aB r)):=⟨λa0 r h=>by
 refine X0j.sym X7 fn52 (nt:=9) rfl rfl ?_ okM;unfold X9s at h;revert h;exact λe=>oj e▸X8 [] (k:=fi)⟩
theorem Xfe {Q:Xx->St->Mu->Prop} {μ:Mu} (X39:(List Xa)) (hl:X39.length<=140737488355328):∀ (xs:List Xa) (k:Nat) (hx:X39.drop k=xs) (o:X6a) (h:X3n X39 xs k  = some o)
  (C0:o=X6a.x0->X2 Tryz.prog 55 0 Q (.exit (.exit 0)) [] ⟨fr [],hp ([]),0⟩ μ)
  (C1:o=X6a.x1->X2 Tryz.prog 55 0 Q (.exit .ret) [] ⟨fr [(2,(aI .i64 8))],hp ([]),0⟩ μ),
  X2 Tryz.prog 55 0 Q (.loop (X41 0 (Xh Tryz.f33))) [] ⟨fr [(10,(Lf (X39.map X0))),(11,(aI .i64 (X39.length:Int))),(12,(aI .i64 (k:Int)))],hp ([]),0⟩ μ:=by
 intro xs
 induction xs with
 |nil =>
  intro k hx  o h C0 C1;have hk:=X11 hx;have hc:decide ((k:Int)<(X39.length:Int))=false:=Yf om;rw[X3n] at h;refine X2.round ?_;revert h;exact λe=>X8 [Bf] (k:=wkT [] (C0  (oj e).symm))
 |cons x xs ih =>
  intro k hx  o h C0 C1;obtain⟨hk,hg,hx1⟩:=X0f hx;have hc:decide ((k:Int)<(X39.length:Int))=true:=Yt om;rw[X3n] at h;refine X2.round ?_;revert h;refine bI λXwh h52=>rnI [Bt,.el (X0 x),.stop 6] ?_;intro h;refine X2.join (s':=⟨fr [(4,(AV.ptr 0 0 0)),(5,(aB Xwh)),(10,(Lf (X39.map X0))),(11,(aI .i64 (X39.length:Int))),(12,(aI .i64 (k:Int)))],hp ([(0,Ob [(X0 x)] 5)]),1⟩) ?_ (λJ=>X2.cut ?_)
  ·
   revert h;refine bI λXz9 h60=>rnI [.stop 7] ?_;intro h;refine X2.join (s':=⟨fr [(4,(AV.ptr 0 0 0)),(5,(aB Xwh)),(6,(aB Xz9)),(10,(Lf (X39.map X0))),(11,(aI .i64 (X39.length:Int))),(12,(aI .i64 (k:Int)))],hp ([(0,Ob [(X0 x)] 5)]),1⟩) ?_ (λJ=>X2.cut ?_)
   ·
    revert h;refine brI (λh61=>λe=>X8 [Bt] (k:=wkT [] (C1  (oj e).symm))) λh61=>rnI [Bf] ?_;intro h;exact wkT [] (ih (k+1) hx1  o h C0 C1)
   clear h;revert h60;refine brI (λh57=>?_) λh57=>?_
   ·
    refine bI λv58 h59=>?_;intro h;obtain rfl:=oj h;exact X8 [Gt,Gt,Gt,Gt,.pure _ (aB v58)] (k:=wkT [] (X2.glue J))
   intro h;obtain rfl:=oj h;exact X8 [Gf,Gf,Gf,Gf] (k:=wkT [] (X2.glue J))
  clear h;revert h52;refine brI (λh48=>?_) λh48=>?_
  ·
   refine bI λv49 h50=>brI (λh51=>?_) λh51=>?_
   ·
    intro h;obtain rfl:=oj h;exact X8 [Gt,Gt,Gt,.pure _ (aB v49),Gt,Gf,Gf,Gf,Gt] (k:=wkT [] (X2.glue J))
   intro h;obtain rfl:=oj h;exact X8 [Gt,Gt,Gt,.pure _ (aB v49),Gt,Gt,Gt,Gt,Gt] (k:=wkT [] (X2.glue J))
  intro h;obtain rfl:=oj h;exact X8 [Gf,Gf,Gf,Gf,Gf,Gf,Gf,Gf] (k:=wkT [] (X2.glue J))
instance Xw8:PCs Tryz.prog 33 (∀ (a0:(List Xa)) (r:Int),X70 a0=some r->X0j Tryz.prog 33 [(Lf (a0.map X0))] (aI .i64 r)):=⟨λa0 r h=>by
 refine X0j.sym X7 fn33 (nt:=55) rfl rfl ?_ okM;unfold X70 at h;revert h;refine brI (λh1=>λe=>oj e▸X8 [.el (aI .i64 (a0.length:Int)),Bt] (k:=fi)) λh1=>bI λu2 h3=>?_;have qh3:=X0b h3;refine bI λo62 h63=>rnI [.el (aI .i64 (a0.length:Int)),Bf,.el (aI .i64 (a0.length:Int))] ?_;intro h;refine wkT [] (X2.cut (Xfe a0 qh3 a0 0 (by simp) _ h63 ?_ ?_))
 ·
  intro eo62;subst eo62;refine X2.glue ?_;try dsimp only at h
  revert h;exact λe=>oj e▸X8 [] (k:=fi)
 intro eo62;subst eo62;refine X2.glue ?_;try dsimp only at h
 revert h;exact λe=>oj e▸X8 [] (k:=fi)⟩
theorem Xcf {Q:Xx->St->Mu->Prop} {μ:Mu} (Xis:(List (List Xa))) (hl:Xis.length<=140737488355328):∀ (xs:List (List Xa)) (k:Nat) (hx:Xis.drop k=xs) (o:X3m) (h:X1r Xis xs k  = some o)
  (C0:o=X3m.x0->X2 Tryz.prog 18 0 Q (.exit (.exit 0)) [] ⟨fr [],hp ([]),0⟩ μ)
  (C1:∀ (X3a:Int),o=X3m.x1 X3a->X2 Tryz.prog 18 0 Q (.exit .ret) [] ⟨fr [(2,(aI .i64 X3a))],hp ([]),0⟩ μ),
  X2 Tryz.prog 18 0 Q (.loop (X41 0 (Xh Tryz.f19))) [] ⟨fr [(6,(Lf (List.map (X14 false X0) Xis))),(7,(aI .i64 (Xis.length:Int))),(8,(aI .i64 (k:Int)))],hp ([]),0⟩ μ:=by
 intro xs
 induction xs with
 |nil =>
  intro k hx  o h C0 C1;have hk:=X11 hx;have hc:decide ((k:Int)<(Xis.length:Int))=false:=Yf om;rw[X1r] at h;refine X2.round ?_;revert h;exact λe=>X8 [Bf] (k:=wkT [] (C0  (oj e).symm))
 |cons x xs ih =>
  intro k hx  o h C0 C1;obtain⟨hk,hg,hx1⟩:=X0f hx;have hc:decide ((k:Int)<(Xis.length:Int))=true:=Yt om;rw[X1r] at h;refine X2.round ?_;revert h;refine bI λv10 h11=>brI (λh12=>λe=>X8 [Bt,.el (X14 false X0 x),.pure _ (aI .i64 v10),Bt] (k:=wkT [] (C1 _  (oj e).symm))) λh12=>rnI [Bt,.el (X14 false X0 x),.pure _ (aI .i64 v10),Bf] ?_;intro h;exact wkT [] (ih (k+1) hx1  o h C0 C1)
instance Xq3:PCs Tryz.prog 19 (∀ (a0:(List (List Xa))) (r:Int),X3z a0=some r->X0j Tryz.prog 19 [(Lf (List.map (X14 false X0) a0))] (aI .i64 r)):=⟨λa0 r h=>by
 refine X0j.sym X7 fn19 (nt:=18) rfl rfl ?_ okM;unfold X3z at h;revert h;refine bI λu1 h2=>?_;have qh2:=X0b h2;refine bI λo13 h14=>rnI [.el (aI .i64 (a0.length:Int))] ?_;intro h;refine wkT [] (X2.cut (Xcf a0 qh2 a0 0 (by simp) _ h14 ?_ ?_))
 ·
  intro eo13;subst eo13;refine X2.glue ?_;try dsimp only at h
  revert h;exact λe=>oj e▸X8 [] (k:=fi)
 intro X3a eo13;subst eo13;refine X2.glue ?_;try dsimp only at h
 revert h;exact λe=>oj e▸X8 [] (k:=fi)⟩
theorem Xfc {Q:Xx->St->Mu->Prop} {μ:Mu} (Xb7:(List Xa)) (hl:Xb7.length<=140737488355328):∀ (xs:List Xa) (k:Nat) (hx:Xb7.drop k=xs) (Xb:(List X9)) (Xc:(List X9)) (X96:Int) (X0r:Nb Xb) (Xp:Nb Xc) (o:X8j) (h:X2t Xb7 xs k Xb Xc X96=some o)
  (C0:∀ (Xo:(List X9)) (X09:(List X9)) (Xz:Nb Xo) (X0h:Nb X09),o=X8j.x0 Xo X09->X2 Tryz.prog 47 0 Q (.exit (.exit 0)) [] ⟨fr [(2,(slE Xz.1 0 (Xo.map X1))),(3,(slE X0h.1 1 (X09.map X1)))],hp ([]++opE Xz.1 0 3 (Xo.map X1)++opE X0h.1 1 3 (X09.map X1)),2⟩ μ),
  X2 Tryz.prog 47 0 Q (.loop (X41 0 (Xh Tryz.f20))) [] ⟨fr [(2,(slE X0r.1 0 (Xb.map X1))),(3,(slE Xp.1 1 (Xc.map X1))),(6,(AV.fn 53 [(AV.ptr 2 0 0)])),(16,(Lf (Xb7.map X0))),(17,(aI .i64 (Xb7.length:Int))),(18,(aI .i64 (k:Int)))],hp ([(2,Ob [(aI .i64 X96)] 1)]++opE X0r.1 0 3 (Xb.map X1)++opE Xp.1 1 3 (Xc.map X1)),3⟩ μ:=by
 intro xs
 induction xs with
 |nil =>
  intro k hx Xb Xc X96 X0r Xp o h C0;have hk:=X11 hx;have hc:decide ((k:Int)<(Xb7.length:Int))=false:=Yf om;rw[X2t] at h;rcases X0r with ⟨_|_,X2v⟩
  ·
   rcases Xp with ⟨_|_,X02⟩
   ·
    refine X2.round ?_;revert h;exact λe=>X8 [Bf] (k:=wkT [] (C0 _ _  nbF nbF (oj e).symm))
   obtain rfl:=X02 rfl;refine X2.round ?_;revert h;exact λe=>X8 [Bf] (k:=wkT [] (C0 _ _  nbF nbS (oj e).symm))
  ·
   obtain rfl:=X2v rfl;rcases Xp with ⟨_|_,X02⟩
   ·
    refine X2.round ?_;revert h;exact λe=>X8 [Bf] (k:=wkT [] (C0 _ _  nbS nbF (oj e).symm))
   ·
    obtain rfl:=X02 rfl;refine X2.round ?_;revert h;exact λe=>X8 [Bf] (k:=wkT [] (C0 _ _  nbS nbS (oj e).symm))
 |cons x xs ih =>
  intro k hx Xb Xc X96 X0r Xp o h C0;obtain⟨hk,hg,hx1⟩:=X0f hx;have hc:decide ((k:Int)<(Xb7.length:Int))=true:=Yt om;rw[X2t] at h;rcases X0r with ⟨_|_,X2v⟩
  ·
   rcases Xp with ⟨_|_,X02⟩
   ·
    refine X2.round ?_;refine X0z [Bt,.el (X0 x)] ?_;refine X2.inline X7 fn53 rfl rfl rfl rfl rfl trivial trivial rfl rfl ?_;revert h;refine bI λXjq h190=>rnI [] ?_;intro h;refine X2.join (s':=⟨fr [(4,(aI .i64 X96))],hp ([(0,Ob (Xb.map X1) 3),(1,Ob (Xc.map X1) 3),(2,Ob [(aI .i64 Xjq)] 1),(3,Ob [(X0 x)] 5)]),4⟩) ?_ (λJ=>X2.cut ?_)
    ·
     refine X0z [] ?_;refine X2.back (by intro id h;cases h) rfl ?_;revert h;refine bI λw197 h204=>?_;intro h;obtain⟨Xnh,Xng⟩:=w197;try dsimp only at h
     refine X0z [] ?_;refine X2.joinF (λ(q:Nb Xnh×Nb Xng)=>⟨fr [(2,(slE q.1.1 0 (Xnh.map X1))),(3,(slE q.2.1 1 (Xng.map X1))),(6,(AV.fn 53 [(AV.ptr 2 0 0)])),(16,(Lf (Xb7.map X0))),(17,(aI .i64 (Xb7.length:Int))),(18,(aI .i64 (k:Int)))],hp ([(2,Ob [(aI .i64 Xjq)] 1)]++opE q.1.1 0 3 (Xnh.map X1)++opE q.2.1 1 3 (Xng.map X1)),3⟩) ?_ (λJ=>X2.cut ?_)
     ·
      rintro⟨Xq1,Xik⟩;rcases Xq1 with ⟨_|_,Xqv⟩
      ·
       rcases Xik with ⟨_|_,Xej⟩
       ·
        exact X8 [] (k:=wkT [] (ih (k+1) hx1 _ _ _ nbF nbF o h C0))
       obtain rfl:=Xej rfl;exact X8 [] (k:=wkT [] (ih (k+1) hx1 _ _ _ nbF nbS o h C0))
      obtain rfl:=Xqv rfl;rcases Xik with ⟨_|_,Xej⟩
      ·
       exact X8 [] (k:=wkT [] (ih (k+1) hx1 _ _ _ nbS nbF o h C0))
      obtain rfl:=Xej rfl;exact X8 [] (k:=wkT [] (ih (k+1) hx1 _ _ _ nbS nbS o h C0))
     clear h;revert h204;refine brI (λh198=>?_) λh198=>?_
     ·
      intro h;simp only[Option.some.injEq,Prod.mk.injEq] at h;obtain⟨rfl,rfl⟩:=h;exact X8 [Bt] (k:=wkT [] (X2.glue (J (nbF,nbF))))
     refine brI (λh199=>?_) λh199=>?_
     ·
      refine bI λu200 h201=>?_;intro h;simp only[Option.some.injEq,Prod.mk.injEq] at h;obtain⟨rfl,rfl⟩:=h;exact X8 [Bf,Bt,.no] (o:=by repeat' first|apply Ya|exact pcM|(refine X03 h201 rfl ?_;first|(simp<;>omega)|(simp[hc,h198,h199]<;>omega))|(refine Xq h201 (by decide) ?_;first|(simp<;>omega)|(simp[hc,h198,h199]<;>omega))|exact X05) (k:=wkT [(1,5)] (X2.glue (J (nbF,nbF))))
     refine bI λu202 h203=>?_;intro h;simp only[Option.some.injEq,Prod.mk.injEq] at h;obtain⟨rfl,rfl⟩:=h;exact X8 [Bf,Bf,.no] (o:=by repeat' first|apply Ya|exact pcM|(refine X03 h203 rfl ?_;first|(simp<;>omega)|(simp[hc,h198,h199]<;>omega))|(refine Xq h203 (by decide) ?_;first|(simp<;>omega)|(simp[hc,h198,h199]<;>omega))|exact X05) (k:=wkT [(0,5)] (X2.glue (J (nbF,nbF))))
    clear h;revert h190;refine brI (λh189=>?_) λh189=>?_
    ·
     intro h;obtain rfl:=oj h;exact X8 [Bt] (k:=wkT [] (X2.glue J))
    intro h;obtain rfl:=oj h;exact X8 [Bf] (k:=wkT [] (X2.glue J))
   obtain rfl:=X02 rfl;refine X2.round ?_;refine X0z [Bt,.el (X0 x)] ?_;refine X2.inline X7 fn53 rfl rfl rfl rfl rfl trivial trivial rfl rfl ?_;revert h;refine bI λXtc h212=>rnI [] ?_;intro h;refine X2.join (s':=⟨fr [(4,(aI .i64 X96))],hp ([(0,Ob (Xb.map X1) 3),(2,Ob [(aI .i64 Xtc)] 1),(3,Ob [(X0 x)] 5)]),4⟩) ?_ (λJ=>X2.cut ?_)
   ·
    refine X0z [] ?_;refine X2.back (by intro id h;cases h) rfl ?_;revert h;refine bI λw219 h226=>?_;intro h;obtain⟨Xnf,Xne⟩:=w219;try dsimp only at h
    refine X0z [] ?_;refine X2.joinF (λ(q:Nb Xnf×Nb Xne)=>⟨fr [(2,(slE q.1.1 0 (Xnf.map X1))),(3,(slE q.2.1 1 (Xne.map X1))),(6,(AV.fn 53 [(AV.ptr 2 0 0)])),(16,(Lf (Xb7.map X0))),(17,(aI .i64 (Xb7.length:Int))),(18,(aI .i64 (k:Int)))],hp ([(2,Ob [(aI .i64 Xtc)] 1)]++opE q.1.1 0 3 (Xnf.map X1)++opE q.2.1 1 3 (Xne.map X1)),3⟩) ?_ (λJ=>X2.cut ?_)
    ·
     rintro⟨Xq0,Xij⟩;rcases Xq0 with ⟨_|_,Xqu⟩
     ·
      rcases Xij with ⟨_|_,Xei⟩
      ·
       exact X8 [] (k:=wkT [] (ih (k+1) hx1 _ _ _ nbF nbF o h C0))
      obtain rfl:=Xei rfl;exact X8 [] (k:=wkT [] (ih (k+1) hx1 _ _ _ nbF nbS o h C0))
     obtain rfl:=Xqu rfl;rcases Xij with ⟨_|_,Xei⟩
     ·
      exact X8 [] (k:=wkT [] (ih (k+1) hx1 _ _ _ nbS nbF o h C0))
     obtain rfl:=Xei rfl;exact X8 [] (k:=wkT [] (ih (k+1) hx1 _ _ _ nbS nbS o h C0))
    clear h;revert h226;refine brI (λh220=>?_) λh220=>?_
    ·
     intro h;simp only[Option.some.injEq,Prod.mk.injEq] at h;obtain⟨rfl,rfl⟩:=h;exact X8 [Bt] (k:=wkT [] (X2.glue (J (nbF,nbS))))
    refine brI (λh221=>?_) λh221=>?_
    ·
     refine bI λu222 h223=>?_;intro h;simp only[Option.some.injEq,Prod.mk.injEq] at h;obtain⟨rfl,rfl⟩:=h;exact X8 [Bf,Bt,.no] (o:=by repeat' first|apply Ya|exact pcM|(refine X03 h223 rfl ?_;first|(simp<;>omega)|(simp[hc,h220,h221]<;>omega))|(refine Xq h223 (by decide) ?_;first|(simp<;>omega)|(simp[hc,h220,h221]<;>omega))|exact X05) (k:=wkT [(1,5)] (X2.glue (J (nbF,nbF))))
    refine bI λu224 h225=>?_;intro h;simp only[Option.some.injEq,Prod.mk.injEq] at h;obtain⟨rfl,rfl⟩:=h;exact X8 [Bf,Bf,.no] (o:=by repeat' first|apply Ya|exact pcM|(refine X03 h225 rfl ?_;first|(simp<;>omega)|(simp[hc,h220,h221]<;>omega))|(refine Xq h225 (by decide) ?_;first|(simp<;>omega)|(simp[hc,h220,h221]<;>omega))|exact X05) (k:=wkT [(0,5)] (X2.glue (J (nbF,nbS))))
   clear h;revert h212;refine brI (λh211=>?_) λh211=>?_
   ·
    intro h;obtain rfl:=oj h;exact X8 [Bt] (k:=wkT [] (X2.glue J))
   intro h;obtain rfl:=oj h;exact X8 [Bf] (k:=wkT [] (X2.glue J))
  obtain rfl:=X2v rfl;rcases Xp with ⟨_|_,X02⟩
  ·
   refine X2.round ?_;refine X0z [Bt,.el (X0 x)] ?_;refine X2.inline X7 fn53 rfl rfl rfl rfl rfl trivial trivial rfl rfl ?_;revert h;refine bI λXta h234=>rnI [] ?_;intro h;refine X2.join (s':=⟨fr [(4,(aI .i64 X96))],hp ([(1,Ob (Xc.map X1) 3),(2,Ob [(aI .i64 Xta)] 1),(3,Ob [(X0 x)] 5)]),4⟩) ?_ (λJ=>X2.cut ?_)
   ·
    refine X0z [] ?_;refine X2.back (by intro id h;cases h) rfl ?_;revert h;refine bI λw241 h248=>?_;intro h;obtain⟨Xnd,Xnc⟩:=w241;try dsimp only at h
    refine X0z [] ?_;refine X2.joinF (λ(q:Nb Xnd×Nb Xnc)=>⟨fr [(2,(slE q.1.1 0 (Xnd.map X1))),(3,(slE q.2.1 1 (Xnc.map X1))),(6,(AV.fn 53 [(AV.ptr 2 0 0)])),(16,(Lf (Xb7.map X0))),(17,(aI .i64 (Xb7.length:Int))),(18,(aI .i64 (k:Int)))],hp ([(2,Ob [(aI .i64 Xta)] 1)]++opE q.1.1 0 3 (Xnd.map X1)++opE q.2.1 1 3 (Xnc.map X1)),3⟩) ?_ (λJ=>X2.cut ?_)
    ·
     rintro⟨Xpz,Xii⟩;rcases Xpz with ⟨_|_,Xqt⟩
     ·
      rcases Xii with ⟨_|_,Xeh⟩
      ·
       exact X8 [] (k:=wkT [] (ih (k+1) hx1 _ _ _ nbF nbF o h C0))
      obtain rfl:=Xeh rfl;exact X8 [] (k:=wkT [] (ih (k+1) hx1 _ _ _ nbF nbS o h C0))
     obtain rfl:=Xqt rfl;rcases Xii with ⟨_|_,Xeh⟩
     ·
      exact X8 [] (k:=wkT [] (ih (k+1) hx1 _ _ _ nbS nbF o h C0))
     obtain rfl:=Xeh rfl;exact X8 [] (k:=wkT [] (ih (k+1) hx1 _ _ _ nbS nbS o h C0))
    clear h;revert h248;refine brI (λh242=>?_) λh242=>?_
    ·
     intro h;simp only[Option.some.injEq,Prod.mk.injEq] at h;obtain⟨rfl,rfl⟩:=h;exact X8 [Bt] (k:=wkT [] (X2.glue (J (nbS,nbF))))
    refine brI (λh243=>?_) λh243=>?_
    ·
     refine bI λu244 h245=>?_;intro h;simp only[Option.some.injEq,Prod.mk.injEq] at h;obtain⟨rfl,rfl⟩:=h;exact X8 [Bf,Bt,.no] (o:=by repeat' first|apply Ya|exact pcM|(refine X03 h245 rfl ?_;first|(simp<;>omega)|(simp[hc,h242,h243]<;>omega))|(refine Xq h245 (by decide) ?_;first|(simp<;>omega)|(simp[hc,h242,h243]<;>omega))|exact X05) (k:=wkT [(1,5)] (X2.glue (J (nbS,nbF))))
    refine bI λu246 h247=>?_;intro h;simp only[Option.some.injEq,Prod.mk.injEq] at h;obtain⟨rfl,rfl⟩:=h;exact X8 [Bf,Bf,.no] (o:=by repeat' first|apply Ya|exact pcM|(refine X03 h247 rfl ?_;first|(simp<;>omega)|(simp[hc,h242,h243]<;>omega))|(refine Xq h247 (by decide) ?_;first|(simp<;>omega)|(simp[hc,h242,h243]<;>omega))|exact X05) (k:=wkT [(0,5)] (X2.glue (J (nbF,nbF))))
   clear h;revert h234;refine brI (λh233=>?_) λh233=>?_
   ·
    intro h;obtain rfl:=oj h;exact X8 [Bt] (k:=wkT [] (X2.glue J))
   intro h;obtain rfl:=oj h;exact X8 [Bf] (k:=wkT [] (X2.glue J))
  obtain rfl:=X02 rfl;refine X2.round ?_;refine X0z [Bt,.el (X0 x)] ?_;refine X2.inline X7 fn53 rfl rfl rfl rfl rfl trivial trivial rfl rfl ?_;revert h;refine bI λXt6 h256=>rnI [] ?_;intro h;refine X2.join (s':=⟨fr [(4,(aI .i64 X96))],hp ([(2,Ob [(aI .i64 Xt6)] 1),(3,Ob [(X0 x)] 5)]),4⟩) ?_ (λJ=>X2.cut ?_)
  ·
   refine X0z [] ?_;refine X2.back (by intro id h;cases h) rfl ?_;revert h;refine bI λw263 h270=>?_;intro h;obtain⟨Xnb,Xna⟩:=w263;try dsimp only at h
   refine X0z [] ?_;refine X2.joinF (λ(q:Nb Xnb×Nb Xna)=>⟨fr [(2,(slE q.1.1 0 (Xnb.map X1))),(3,(slE q.2.1 1 (Xna.map X1))),(6,(AV.fn 53 [(AV.ptr 2 0 0)])),(16,(Lf (Xb7.map X0))),(17,(aI .i64 (Xb7.length:Int))),(18,(aI .i64 (k:Int)))],hp ([(2,Ob [(aI .i64 Xt6)] 1)]++opE q.1.1 0 3 (Xnb.map X1)++opE q.2.1 1 3 (Xna.map X1)),3⟩) ?_ (λJ=>X2.cut ?_)
   ·
    rintro⟨Xpy,Xih⟩;rcases Xpy with ⟨_|_,Xqs⟩
    ·
     rcases Xih with ⟨_|_,Xeg⟩
     ·
      exact X8 [] (k:=wkT [] (ih (k+1) hx1 _ _ _ nbF nbF o h C0))
     obtain rfl:=Xeg rfl;exact X8 [] (k:=wkT [] (ih (k+1) hx1 _ _ _ nbF nbS o h C0))
    obtain rfl:=Xqs rfl;rcases Xih with ⟨_|_,Xeg⟩
    ·
     exact X8 [] (k:=wkT [] (ih (k+1) hx1 _ _ _ nbS nbF o h C0))
    obtain rfl:=Xeg rfl;exact X8 [] (k:=wkT [] (ih (k+1) hx1 _ _ _ nbS nbS o h C0))
   clear h;revert h270;refine brI (λh264=>?_) λh264=>?_
   ·
    intro h;simp only[Option.some.injEq,Prod.mk.injEq] at h;obtain⟨rfl,rfl⟩:=h;exact X8 [Bt] (k:=wkT [] (X2.glue (J (nbS,nbS))))
   refine brI (λh265=>?_) λh265=>?_
   ·
    refine bI λu266 h267=>?_;intro h;simp only[Option.some.injEq,Prod.mk.injEq] at h;obtain⟨rfl,rfl⟩:=h;exact X8 [Bf,Bt,.no] (o:=by repeat' first|apply Ya|exact pcM|(refine X03 h267 rfl ?_;first|(simp<;>omega)|(simp[hc,h264,h265]<;>omega))|(refine Xq h267 (by decide) ?_;first|(simp<;>omega)|(simp[hc,h264,h265]<;>omega))|exact X05) (k:=wkT [(1,5)] (X2.glue (J (nbS,nbF))))
   refine bI λu268 h269=>?_;intro h;simp only[Option.some.injEq,Prod.mk.injEq] at h;obtain⟨rfl,rfl⟩:=h;exact X8 [Bf,Bf,.no] (o:=by repeat' first|apply Ya|exact pcM|(refine X03 h269 rfl ?_;first|(simp<;>omega)|(simp[hc,h264,h265]<;>omega))|(refine Xq h269 (by decide) ?_;first|(simp<;>omega)|(simp[hc,h264,h265]<;>omega))|exact X05) (k:=wkT [(0,5)] (X2.glue (J (nbF,nbS))))
  clear h;revert h256;refine brI (λh255=>?_) λh255=>?_
  ·
   intro h;obtain rfl:=oj h;exact X8 [Bt] (k:=wkT [] (X2.glue J))
  intro h;obtain rfl:=oj h;exact X8 [Bf] (k:=wkT [] (X2.glue J))
instance Xw7:PCs Tryz.prog 20 (∀ (a0:(List Xa)) (r:(List X9)×(List X9)×Int),X9t a0=some r->X0j Tryz.prog 20 [(Lf (a0.map X0))] (AV.tup [(Lt (r.1.map X1)),(Lt (r.2.1.map X1)),(aI .i64 r.2.2)])):=⟨λa0 r h=>by
 refine X0j.sym X7 fn20 (nt:=47) rfl rfl ?_ okM;unfold X9t at h;revert h;refine bI λv1 h2=>brI (λh3=>λe=>oj e▸X8 [.pure _ (aI .i64 v1),Bt] (k:=fi)) λh3=>rnI [.pure _ (aI .i64 v1),Bf] ?_;intro h;refine X2.inline X7 fn34 rfl rfl rfl rfl rfl trivial trivial rfl rfl ?_;refine X0z [] ?_;refine X2.back (by intro id h;cases h) rfl ?_;revert h;refine bI λu4 h5=>?_;have qh5:=X0b h5;refine bI λo271 h272=>rnI [.el (aI .i64 (a0.length:Int))] ?_;intro h;refine wkT [(2,0)] (X2.cut (Xfc a0 qh5 a0 0 (by simp) _ _ _ nbS nbS _ h272 ?_));intro Xo X09 Xz X0h eo271;subst eo271;refine X2.glue ?_;try dsimp only at h
 rcases Xz with ⟨_|_,X1v⟩<;>(try obtain rfl:=X1v rfl);all_goals
  rcases X0h with ⟨_|_,X3d⟩<;>(try obtain rfl:=X3d rfl);all_goals
   revert h;exact λe=>oj e▸X8 [] (k:=fi)⟩
instance Xvg:PCs Tryz.prog 77 (∀ (a0:(List Xu)) (r:Int),Xap a0=some r->X0j Tryz.prog 77 [(Lf (a0.map X4))] (aI .i64 r)):=⟨λa0 r h=>by
 refine X0j.sym X7 fn77 (nt:=13) rfl rfl ?_ okM;unfold Xap at h;revert h;exact bI λv1 h2=>λe=>oj e▸X8 [.pure _ (AV.tup [(aB v1.1),(aI .i64 v1.2.1),(aI .i64 v1.2.2)])] (k:=fi)⟩
instance Xwu:PCs Tryz.prog 94 (∀ (a0:Bool) (r:Int),X2p a0=some r->X0j Tryz.prog 94 [(aB a0)] (aI .i64 r)):=⟨λa0 r h=>by
 refine X0j.sym X7 fn94 (nt:=4) rfl rfl ?_ okM;unfold X2p at h;revert h;exact brI (λh1=>λe=>oj e▸X8 [Bt] (k:=fi)) λh1=>λe=>oj e▸X8 [Bf] (k:=fi)⟩
instance Xim:PCs Tryz.prog 78 (∀ (a0:Int) (a1:Int) (a2:Int) (r:Int×Int),Xec a0 a1 a2=some r->X0j Tryz.prog 78 [(aI .u8 a0),(aI .i64 a1),(aI .i64 a2)] (AV.tup [(aI .i64 r.1),(aI .i64 r.2)])):=⟨λa0 a1 a2 r h=>by
 refine X0j.sym X7 fn78 (nt:=97) rfl rfl ?_ okM;unfold Xec at h;revert h;refine brI (λh1=>λe=>oj e▸X8 [Bt,.wrap] (k:=fi)) λh1=>brI (λh2=>bI λv3 h4=>λe=>oj e▸X8 [Bf,Bt,.pure _ (aI .i64 v3)] (k:=fi)) λh2=>brI (λh5=>λe=>oj e▸X8 [Bf,Bf,Bt,.wrap] (k:=fi)) λh5=>brI (λh6=>λe=>oj e▸X8 [Bf,Bf,Bf,Bt,.wrap] (k:=fi)) λh6=>brI (λh7=>λe=>oj e▸X8 [Bf,Bf,Bf,Bf,Bt,.wrap] (k:=fi)) λh7=>brI (λh8=>bI λu9 h10=>λe=>oj e▸X8 [Bf,Bf,Bf,Bf,Bf,Bt,.wrap] (k:=fi)) λh8=>brI (λh11=>bI λu12 h13=>λe=>oj e▸X8 [Bf,Bf,Bf,Bf,Bf,Bf,Bt] (k:=fi)) λh11=>brI (λh14=>bI λv15 h16=>λe=>oj e▸X8 [Bf,Bf,Bf,Bf,Bf,Bf,Bf,Bt,.pure _ (aI .i64 v15)] (k:=fi)) λh14=>brI (λh17=>bI λv18 h19=>λe=>oj e▸X8 [Bf,Bf,Bf,Bf,Bf,Bf,Bf,Bf,Bt,.pure _ (aI .i64 v18)] (k:=fi)) λh17=>brI (λh20=>bI λv21 h22=>λe=>oj e▸X8 [Bf,Bf,Bf,Bf,Bf,Bf,Bf,Bf,Bf,Bt,.pure _ (aI .i64 v21)] (k:=fi)) λh20=>brI (λh23=>bI λv24 h25=>λe=>oj e▸X8 [Bf,Bf,Bf,Bf,Bf,Bf,Bf,Bf,Bf,Bf,Bt,.pure _ (aI .i64 v24)] (k:=fi)) λh23=>brI (λh26=>bI λv27 h28=>λe=>oj e▸X8 [Bf,Bf,Bf,Bf,Bf,Bf,Bf,Bf,Bf,Bf,Bf,Bt,.pure _ (aI .i64 v27)] (k:=fi)) λh26=>brI (λh29=>bI λv30 h31=>λe=>oj e▸X8 [Bf,Bf,Bf,Bf,Bf,Bf,Bf,Bf,Bf,Bf,Bf,Bf,Bt,.pure _ (aI .i64 v30)] (k:=fi)) λh29=>brI (λh32=>bI λv33 h34=>λe=>oj e▸X8 [Bf,Bf,Bf,Bf,Bf,Bf,Bf,Bf,Bf,Bf,Bf,Bf,Bf,Bt,.pure _ (aI .i64 v33)] (k:=fi)) λh32=>rnI [Bf,Bf,Bf,Bf,Bf,Bf,Bf,Bf,Bf,Bf,Bf,Bf,Bf,Bf] ?_;exact brI (λh35=>bI λv36 h37=>λe=>oj e▸X8 [Bt,.pure _ (aI .i64 v36)] (k:=fi)) λh35=>λe=>oj e▸X8 [Bf] (k:=fi)⟩
end Go.Av.Tryz