/- Printed by decomp.py: that the program computes the functions. -/
import Derived.Test.YtdpeaabenapeaaaGreatDCert10Z
set_option linter.all false

namespace Go.Av.Tryz
open Go.Proofs Go.D
set_option maxRecDepth 10000
set_option maxHeartbeats 40000000
instance Xv3:PCs Tryz.prog 89 (∀ (a0:(List Xu)) (r:(List Int)×(List Int)×Bool),Xa5 a0=some r->X0j Tryz.prog 89 [(Lf (a0.map X4))] (AV.tup [(Lt (List.map (aI .i64) r.1)),(Lt (List.map (aI .i64) r.2.1)),(aB r.2.2)])):=⟨λa0 r h=>by
 refine X0j.sym X7 fn89 (nt:=102) rfl rfl ?_ okM;unfold Xa5 at h;revert h;refine bI λu1 h2=>?_;have qh2:=X0b h2;refine bI λo232 h233=>rnI [] ?_;intro h;refine wkT [] (X2.cut (Xe3 a0 qh2 a0 0 (by simp) _ _ nbS nbS _ h233 ?_ ?_))
 ·
  intro Xo X09 Xz X0h eo232;subst eo232;refine X2.glue ?_;try dsimp only at h
  rcases Xz with ⟨_|_,X1v⟩
  ·
   rcases X0h with ⟨_|_,X3d⟩
   ·
    revert h;refine bI λXt9 h241=>rnI [.stop 25] ?_;intro h;refine X2.join (s':=⟨fr [(2,(AV.ref 0 0 (Xo.length))),(3,(AV.ref 1 0 (X09.length))),(4,(aB Xt9))],hp ([(0,Ob (List.map (aI .i64) Xo) 1),(1,Ob (List.map (aI .i64) X09) 1)]),2⟩) ?_ (λJ=>X2.cut ?_)
    ·
     revert h;exact λe=>oj e▸X8 [] (k:=fi)
    clear h;revert h241;refine brI (λh238=>?_) λh238=>?_
    ·
     refine bI λe239 h240=>?_;try have qh240:=Xl h240
     intro h;obtain rfl:=oj h;exact X8 [.el (aI .i64 (a0.length:Int)),Gt,Gt,Gt,.el (aI .i64 (a0.length:Int)),Gt,.wrap,Gt,.el (aI .i64 e239),Gt,.ld (aI .i64 e239),Gt,Gt,.el (aI .i64 (a0.length:Int)),Gt] (k:=wkT [] (X2.glue J))
    intro h;obtain rfl:=oj h;exact X8 [.el (aI .i64 (a0.length:Int)),Gf,Gf,Gf,Gf,Gf,Gf,Gf,Gf,Gf,Gf] (k:=wkT [] (X2.glue J))
   obtain rfl:=X3d rfl;revert h;refine bI λX01l h249=>rnI [.stop 25] ?_;intro h;refine X2.join (s':=⟨fr [(2,(AV.ref 0 0 (Xo.length))),(3,AV.nils),(4,(aB X01l))],hp ([(0,Ob (List.map (aI .i64) Xo) 1)]),2⟩) ?_ (λJ=>X2.cut ?_)
   ·
    revert h;exact λe=>oj e▸X8 [] (k:=fi)
   clear h;revert h249;refine brI (λh246=>?_) λh246=>?_
   ·
    refine bI λe247 h248=>?_;try have qh248:=Xl h248
    intro h;obtain rfl:=oj h;exact X8 [.el (aI .i64 (a0.length:Int)),Gt,Gt,Gt,.el (aI .i64 (a0.length:Int)),Gt,.wrap,Gt,.el (aI .i64 e247),Gt,.ld (aI .i64 e247),Gt,Gt,.el (aI .i64 (a0.length:Int)),Gt] (k:=wkT [] (X2.glue J))
   intro h;obtain rfl:=oj h;exact X8 [.el (aI .i64 (a0.length:Int)),Gf,Gf,Gf,Gf,Gf,Gf,Gf,Gf,Gf,Gf] (k:=wkT [] (X2.glue J))
  obtain rfl:=X1v rfl;rcases X0h with ⟨_|_,X3d⟩
  ·
   revert h;refine bI λX01k h257=>rnI [.stop 25] ?_;intro h;refine X2.join (s':=⟨fr [(2,AV.nils),(3,(AV.ref 1 0 (X09.length))),(4,(aB X01k))],hp ([(1,Ob (List.map (aI .i64) X09) 1)]),2⟩) ?_ (λJ=>X2.cut ?_)
   ·
    revert h;exact λe=>oj e▸X8 [] (k:=fi)
   clear h;revert h257;refine brI (λh254=>?_) λh254=>?_
   ·
    refine bI λe255 h256=>?_;try have qh256:=Xl h256
    intro h
    first|exact absurd (h256) (by simp[X0u];done)|(simp[X0u,h254] at h;done)|(simp[h254] at hg;done)|exact absurd (h256) (by simp[X0u,h254];done)
   intro h;obtain rfl:=oj h;exact X8 [.el (aI .i64 (a0.length:Int)),Gf,Gf,Gf,Gf,Gf,Gf,Gf,Gf,Gf,Gf] (k:=wkT [] (X2.glue J))
  obtain rfl:=X3d rfl;revert h;refine bI λX01j h265=>rnI [.stop 25] ?_;intro h;refine X2.join (s':=⟨fr [(2,AV.nils),(3,AV.nils),(4,(aB X01j))],hp ([]),2⟩) ?_ (λJ=>X2.cut ?_)
  ·
   revert h;exact λe=>oj e▸X8 [] (k:=fi)
  clear h;revert h265;refine brI (λh262=>?_) λh262=>?_
  ·
   refine bI λe263 h264=>?_;try have qh264:=Xl h264
   intro h
   first|exact absurd (h264) (by simp[X0u];done)|(simp[X0u,h262] at h;done)|(simp[h262] at hg;done)|exact absurd (h264) (by simp[X0u,h262];done)
  intro h;obtain rfl:=oj h;exact X8 [.el (aI .i64 (a0.length:Int)),Gf,Gf,Gf,Gf,Gf,Gf,Gf,Gf,Gf,Gf] (k:=wkT [] (X2.glue J))
 intro X00 X4c Xy X4u eo232;subst eo232;refine X2.glue ?_;try dsimp only at h
 rcases Xy with ⟨_|_,X1u⟩<;>(try obtain rfl:=X1u rfl);all_goals
  rcases X4u with ⟨_|_,Xee⟩<;>(try obtain rfl:=Xee rfl);all_goals
   revert h;exact λe=>oj e▸X8 [] (k:=fi)⟩
instance Xv6:PCs Tryz.prog 68 (∀ (a0:(List Xu)) (r:Int),X3l a0=some r->X0j Tryz.prog 68 [(Lf (a0.map X4))] (aI .i64 r)):=⟨λa0 r h=>by
 refine X0j.sym X7 fn68 (nt:=24) rfl rfl ?_ okM;unfold X3l at h;revert h;refine brI (λh1=>λe=>oj e▸X8 [.el (aI .i64 (a0.length:Int)),Bt] (k:=fi)) λh1=>bI λv2 h3=>rnI [.el (aI .i64 (a0.length:Int)),Bf,.pure _ (AV.tup [(Lt (List.map (aI .i64) v2.1)),(Lt (List.map (aI .i64) v2.2.1)),(aB v2.2.2)])] ?_;refine brI (λh4=>λe=>oj e▸X8 [Bt] (k:=fi)) λh4=>bI λe5 h6=>?_;try have qh6:=Xl h6
 exact brI (λh7=>λe=>oj e▸X8 [Bf,.el (aI .i64 (a0.length:Int)),.wrap,.el (aI .i64 e5),Bt] (k:=fi)) λh7=>λe=>oj e▸X8 [Bf,.el (aI .i64 (a0.length:Int)),.wrap,.el (aI .i64 e5),Bf] (k:=fi)⟩
theorem Xcr {Q:Xx->St->Mu->Prop} {μ:Mu} (X0a:(List Int)) (hl:X0a.length<=140737488355328):∀ (xs:List Int) (k:Nat) (hx:X0a.drop k=xs) (o:X46) (h:X26 X0a xs k  = some o)
  (C0:o=X46.x0->X2 Tryz.prog 60 0 Q (.exit (.exit 0)) [] ⟨fr [(0,(Lf (List.map (aI .i64) X0a)))],hp ([]),0⟩ μ)
  (C1:o=X46.x1->X2 Tryz.prog 60 0 Q (.exit .ret) [] ⟨fr [(4,(aI .i64 8))],hp ([]),0⟩ μ),
  X2 Tryz.prog 60 0 Q (.loop (X41 0 (Xh Tryz.f69))) [] ⟨fr [(0,(Lf (List.map (aI .i64) X0a))),(5,(aI .i64 (k:Int)))],hp ([]),0⟩ μ:=by
 intro xs
 induction xs with
 |nil =>
  intro k hx  o h C0 C1;have hk:=X11 hx;have hc:decide ((k:Int)<(X0a.length:Int))=false:=Yf om;rw[X26] at h;refine X2.round ?_;revert h;exact λe=>X8 [.el (aI .i64 (X0a.length:Int)),Bf] (k:=wkT [] (C0  (oj e).symm))
 |cons x xs ih =>
  intro k hx  o h C0 C1;obtain⟨hk,hg,hx1⟩:=X0f hx;have hc:decide ((k:Int)<(X0a.length:Int))=true:=Yt om;rw[X26] at h;refine X2.round ?_;revert h;refine bI λXt8 h25=>rnI [.el (aI .i64 (X0a.length:Int)),Bt,.stop 8] ?_;intro h;refine X2.join (s':=⟨fr [(0,(Lf (List.map (aI .i64) X0a))),(5,(aI .i64 (k:Int))),(39,(aB Xt8))],hp ([]),0⟩) ?_ (λJ=>X2.cut ?_)
  ·
   revert h;refine brI (λh26=>λe=>X8 [Bt] (k:=wkT [] (C1  (oj e).symm))) λh26=>rnI [Bf] ?_;intro h;exact wkT [] (ih (k+1) hx1  o h C0 C1)
  clear h;revert h25;refine brI (λh24=>?_) λh24=>?_
  ·
   intro h;obtain rfl:=oj h;exact X8 [.el (aI .i64 x),Gf,Gf,Gf,Gf,Gf] (k:=wkT [] (X2.glue J))
  intro h;obtain rfl:=oj h;exact X8 [.el (aI .i64 x),Gt,Gt,Gt,.el (aI .i64 x),Gt,Gt] (k:=wkT [] (X2.glue J))
theorem Xcp {Q:Xx->St->Mu->Prop} {μ:Mu} (Xy6:(List Int)) (Xy5:Int):∀ (n:Nat) (Xxd:Int) (o:X44) (h:X25 Xy6 Xy5 n Xxd=some o)
  (C0:o=X44.x0->X2 Tryz.prog 60 0 Q (.exit .ret) [] ⟨fr [(4,(aI .i64 43))],hp ([]),0⟩ μ)
  (C1:o=X44.x1->X2 Tryz.prog 60 0 Q (.exit (.exit 4)) [] ⟨fr [(0,(Lf (List.map (aI .i64) Xy6))),(6,(aI .i64 Xy5))],hp ([]),0⟩ μ),
  X2 Tryz.prog 60 0 Q (.loop (X41 2 (Xh Tryz.f69))) [] ⟨fr [(0,(Lf (List.map (aI .i64) Xy6))),(6,(aI .i64 Xy5)),(7,(aI .i64 Xxd))],hp ([]),0⟩ μ:=by
 intro n
 induction n with
 |zero=>intro Xxd o h C0 C1;cases h
 |succ n ih =>
  intro Xxd o h C0 C1;rw[X25] at h;refine X2.round ?_;revert h;refine brI (λh85=>?_) λh85=>λe=>X8 [Bf] (k:=wkT [] (C1  (oj e).symm));refine bI λe86 h87=>?_;try have qh87:=Xl h87
  refine bI λe88 h89=>?_;try have qh89:=Xl h89
  refine brI (λh90=>λe=>X8 [Bt,.el (aI .i64 e86),.el (aI .i64 e88),Bt] (k:=wkT [] (C0  (oj e).symm))) λh90=>rnI [Bt,.el (aI .i64 e86),.el (aI .i64 e88),Bf,.wrap] ?_;intro h;exact wkT [] (ih  _ o h C0 C1)
theorem Xcq {Q:Xx->St->Mu->Prop} {μ:Mu} (Xrc:(List Int)) (hl:Xrc.length<=140737488355328):∀ (xs:List Int) (k:Nat) (hx:Xrc.drop k=xs) (o:X45) (h:X1o Xrc xs k  = some o)
  (C0:o=X45.x0->X2 Tryz.prog 60 0 Q (.exit (.exit 2)) [] ⟨fr [],hp ([]),0⟩ μ)
  (C1:o=X45.x1->X2 Tryz.prog 60 0 Q (.exit .ret) [] ⟨fr [(4,(aI .i64 43))],hp ([]),0⟩ μ),
  X2 Tryz.prog 60 0 Q (.loop (X41 1 (Xh Tryz.f69))) [] ⟨fr [(0,(Lf (List.map (aI .i64) Xrc))),(6,(aI .i64 (k:Int)))],hp ([]),0⟩ μ:=by
 intro xs
 induction xs with
 |nil =>
  intro k hx  o h C0 C1;have hk:=X11 hx;have hc:decide ((k:Int)<(Xrc.length:Int))=false:=Yf om;rw[X1o] at h;refine X2.round ?_;revert h;exact λe=>X8 [.el (aI .i64 (Xrc.length:Int)),Bf] (k:=wkT [] (C0  (oj e).symm))
 |cons x xs ih =>
  intro k hx  o h C0 C1;obtain⟨hk,hg,hx1⟩:=X0f hx;have hc:decide ((k:Int)<(Xrc.length:Int))=true:=Yt om;rw[X1o] at h;refine X2.round ?_;revert h;refine bI λo91 h92=>rnI [.el (aI .i64 (Xrc.length:Int)),Bt] ?_;intro h;refine wkT [] (X2.cut (Xcp Xrc (k:Int) _ _ _ h92 ?_ ?_))
  ·
   intro eo91;subst eo91;refine X2.glue ?_;try dsimp only at h
   revert h;exact λe=>X8 [] (k:=wkT [] (C1  (oj e).symm))
  intro eo91;subst eo91;refine X2.glue ?_;try dsimp only at h
  exact X8 [] (k:=wkT [] (ih (k+1) hx1  o h C0 C1))
instance Xrf:PCs Tryz.prog 69 (∀ (a0:(List Int)) (a1:Bool) (r:Int),X68 a0 a1=some r->X0j Tryz.prog 69 [(Lf (List.map (aI .i64) a0)),(aB a1)] (aI .i64 r)):=⟨λa0 a1 r h=>by
 refine X0j.sym X7 fn69 (nt:=60) rfl rfl ?_ okM;unfold X68 at h;revert h;refine brI (λh1=>λe=>oj e▸X8 [.el (aI .i64 (a0.length:Int)),Bt] (k:=fi)) λh1=>bI λXza h7=>rnI [.el (aI .i64 (a0.length:Int)),Bf,.stop 3] ?_;intro h;refine X2.join (s':=⟨fr [(0,(Lf (List.map (aI .i64) a0))),(21,(aB Xza))],hp ([]),0⟩) ?_ (λJ=>X2.cut ?_)
 ·
  revert h;refine brI (λh8=>λe=>oj e▸X8 [Bt] (k:=fi)) λh8=>bI λu9 h10=>?_;have qh10:=X0b h10;refine bI λo27 h28=>rnI [Bf] ?_;intro h;refine wkT [] (X2.cut (Xcr a0 qh10 a0 0 (by simp) _ h28 ?_ ?_))
  ·
   intro eo27;subst eo27;refine X2.glue ?_;try dsimp only at h
   revert h;refine bI λo93 h94=>rnI [] ?_;intro h;refine wkT [] (X2.cut (Xcq a0 qh10 a0 0 (by simp) _ h94 ?_ ?_))
   ·
    intro eo93;subst eo93;refine X2.glue ?_;try dsimp only at h
    revert h;exact λe=>oj e▸X8 [] (k:=fi)
   intro eo93;subst eo93;refine X2.glue ?_;try dsimp only at h
   revert h;exact λe=>oj e▸X8 [] (k:=fi)
  intro eo27;subst eo27;refine X2.glue ?_;try dsimp only at h
  revert h;exact λe=>oj e▸X8 [] (k:=fi)
 clear h;revert h7;refine brI (λh5=>?_) λh5=>?_
 ·
  intro h;obtain rfl:=oj h;exact X8 [.el (aI .i64 (a0.length:Int)),Gf,Gf,Gf,Gf,Gf,Gf] (k:=wkT [] (X2.glue J))
 refine brI (λh6=>?_) λh6=>?_
 ·
  intro h;obtain rfl:=oj h;exact X8 [.el (aI .i64 (a0.length:Int)),Gt,Gt,Gt,Gt,.el (aI .i64 (a0.length:Int)),Gt,Gt] (k:=wkT [] (X2.glue J))
 intro h;obtain rfl:=oj h;exact X8 [.el (aI .i64 (a0.length:Int)),Gt,Gt,Gf,Gf,Gf,Gt] (k:=wkT [] (X2.glue J))⟩
instance Xvw:PCs Tryz.prog 70 (∀ (a0:X0g) (r:Bool),X6x a0=some r->X0j Tryz.prog 70 [(X2k a0)] (aB r)):=⟨λa0 r h=>by
 refine X0j.sym X7 fn70 (nt:=45) rfl rfl ?_ okM;unfold X6x at h;revert h;exact brI (λh1=>λe=>oj e▸X8 [Bt] (k:=fi)) λh1=>brI (λh2=>λe=>oj e▸X8 [Bf,Bt,.wrap] (k:=fi)) λh2=>λe=>oj e▸X8 [Bf,Bf] (k:=fi)⟩
instance Xuz:PCs Tryz.prog 46 (∀ (a0:Xt) (r:Int),X8b a0=some r->X0j Tryz.prog 46 [(Xk false a0)] (aI .i64 r)):=⟨λa0 r h=>by
 refine X0j.sym X7 fn46 (nt:=80) rfl rfl ?_ okM;unfold X8b at h;revert h;refine brI (λh1=>λe=>oj e▸X8 [Bt] (k:=fi)) λh1=>bI λXzi h5=>rnI [Bf,.stop 3] ?_;intro h;refine X2.join (s':=⟨fr [(1,(AV.ptr 0 0 0)),(29,(aB Xzi))],hp ([(0,Ob [(Xk false a0)] 10)]),1⟩) ?_ (λJ=>X2.cut ?_)
 ·
  revert h;refine brI (λh6=>λe=>oj e▸X8 [Bt] (k:=fi)) λh6=>bI λXte h14=>rnI [Bf,.stop 5] ?_;intro h;refine X2.join (s':=⟨fr [(1,(AV.ptr 0 0 0)),(38,(aB Xte))],hp ([(0,Ob [(Xk false a0)] 10)]),1⟩) ?_ (λJ=>X2.cut ?_)
  ·
   revert h;refine brI (λh15=>bI λv16 h17=>λe=>oj e▸X8 [Bt,.pure _ (aI .i64 v16)] (k:=fi)) λh15=>bI λXl9 h25=>rnI [Bf,.stop 7] ?_;intro h;refine X2.join (s':=⟨fr [(1,(AV.ptr 0 0 0)),(51,(aB Xl9))],hp ([(0,Ob [(Xk false a0)] 10)]),1⟩) ?_ (λJ=>X2.cut ?_)
   ·
    revert h;exact brI (λh26=>bI λv27 h28=>λe=>oj e▸X8 [Bt,.pure _ (aI .i64 v27)] (k:=fi)) λh26=>bI λv29 h30=>brI (λh31=>λe=>oj e▸X8 [Bf,.pure _ (aI .i64 v29),Bt,.pure _ (aI .i64 v29)] (k:=fi)) λh31=>bI λv32 h33=>brI (λh34=>λe=>oj e▸X8 [Bf,.pure _ (aI .i64 v29),Bf,.pure _ (aB v32),Bt] (k:=fi)) λh34=>λe=>oj e▸X8 [Bf,.pure _ (aI .i64 v29),Bf,.pure _ (aB v32),Bf] (k:=fi)
   clear h;revert h25;refine brI (λh22=>?_) λh22=>?_
   ·
    refine bI λv23 h24=>?_;intro h;obtain rfl:=oj h;exact X8 [.el (aI .i64 (a0.Where.length:Int)),Gt,Gt,Gt,.pure _ (aI .i64 v23),Gt] (k:=wkT [] (X2.glue J))
   intro h;obtain rfl:=oj h;exact X8 [.el (aI .i64 (a0.Where.length:Int)),Gf,Gf,Gf,Gf] (k:=wkT [] (X2.glue J))
  clear h;revert h14;refine brI (λh11=>?_) λh11=>?_
  ·
   refine bI λv12 h13=>?_;intro h;obtain rfl:=oj h;exact X8 [Gt,Gt,Gt,.pure _ (aI .i64 v12),Gt] (k:=wkT [] (X2.glue J))
  intro h;obtain rfl:=oj h;exact X8 [Gf,Gf,Gf,Gf] (k:=wkT [] (X2.glue J))
 clear h;revert h5;refine brI (λh4=>?_) λh4=>?_
 ·
  intro h;obtain rfl:=oj h;exact X8 [Gt,Gt,Gt,.el (aI .i64 (a0.Arg.length:Int)),Gt] (k:=wkT [] (X2.glue J))
 intro h;obtain rfl:=oj h;exact X8 [Gf,Gf,Gf,Gf] (k:=wkT [] (X2.glue J))⟩
instance Xv1:PCs Tryz.prog 104 (∀ (a0:Int) (r:Bool),X5m a0=some r->X0j Tryz.prog 104 [(aI .u8 a0)] (aB r)):=⟨λa0 r h=>by
 refine X0j.sym X7 X038 (nt:=9) rfl rfl ?_ okM;unfold X5m at h;revert h;exact λe=>oj e▸X8 [] (k:=fi)⟩
instance Xvx:PCs Tryz.prog 119 (∀ (a0:(List Xu)) (a1:Int) (r:Bool),X9o a0 a1=some r->X0j Tryz.prog 119 [(Lf (a0.map X4)),(aI .i64 a1)] (aB r)):=⟨λa0 a1 r h=>by
 refine X0j.sym X7 X035 (nt:=67) rfl rfl ?_ okM;unfold X9o at h;revert h;refine bI λe1 h2=>?_;try have qh2:=Xl h2
 refine bI λe3 h4=>?_;try have qh4:=Xl h4
 refine bI λv5 h6=>bI λe7 h8=>?_;try have qh8:=Xl h8
 exact bI λv9 h10=>brI (λh11=>λe=>oj e▸X8 [.el (X4 e1),.el (X4 e3),.pure _ (aB v5),.el (X4 e7),.pure _ (aB v9),Bt] (k:=fi)) λh11=>brI (λh12=>λe=>oj e▸X8 [.el (X4 e1),.el (X4 e3),.pure _ (aB v5),.el (X4 e7),.pure _ (aB v9),Bf,Bt] (k:=fi)) λh12=>brI (λh13=>λe=>oj e▸X8 [.el (X4 e1),.el (X4 e3),.pure _ (aB v5),.el (X4 e7),.pure _ (aB v9),Bf,Bf,Bt] (k:=fi)) λh13=>brI (λh14=>λe=>oj e▸X8 [.el (X4 e1),.el (X4 e3),.pure _ (aB v5),.el (X4 e7),.pure _ (aB v9),Bf,Bf,Bf,Bt] (k:=fi)) λh14=>brI (λh15=>λe=>oj e▸X8 [.el (X4 e1),.el (X4 e3),.pure _ (aB v5),.el (X4 e7),.pure _ (aB v9),Bf,Bf,Bf,Bf,Bt] (k:=fi)) λh15=>λe=>oj e▸X8 [.el (X4 e1),.el (X4 e3),.pure _ (aB v5),.el (X4 e7),.pure _ (aB v9),Bf,Bf,Bf,Bf,Bf] (k:=fi)⟩
theorem Xe2 {Q:Xx->St->Mu->Prop} {μ:Mu} (X0a:(List Xu)) (hl:X0a.length<=140737488355328):∀ (xs:List Xu) (k:Nat) (hx:X0a.drop k=xs) (o:X5d) (h:X37 X0a xs k  = some o)
  (C0:o=X5d.x0->X2 Tryz.prog 17 0 Q (.exit (.exit 0)) [] ⟨fr [(0,(Lf (X0a.map X4)))],hp ([]),0⟩ μ)
  (C1:∀ (X3a:Int),o=X5d.x1 X3a->X2 Tryz.prog 17 0 Q (.exit .ret) [] ⟨fr [(2,(aI .i64 X3a))],hp ([]),0⟩ μ),
  X2 Tryz.prog 17 0 Q (.loop (X41 0 (Xh Tryz.f103))) [] ⟨fr [(0,(Lf (X0a.map X4))),(3,(aI .i64 (k:Int)))],hp ([]),0⟩ μ:=by
 intro xs
 induction xs with
 |nil =>
  intro k hx  o h C0 C1;have hk:=X11 hx;have hc:decide ((k:Int)<(X0a.length:Int))=false:=Yf om;rw[X37] at h;refine X2.round ?_;revert h;exact λe=>X8 [.el (aI .i64 (X0a.length:Int)),Bf] (k:=wkT [] (C0  (oj e).symm))
 |cons x xs ih =>
  intro k hx  o h C0 C1;obtain⟨hk,hg,hx1⟩:=X0f hx;have hc:decide ((k:Int)<(X0a.length:Int))=true:=Yt om;rw[X37] at h;refine X2.round ?_;revert h;refine bI λv10 h11=>brI (λh12=>λe=>X8 [.el (aI .i64 (X0a.length:Int)),Bt,.pure _ (aB v10),Bt] (k:=wkT [] (C1 _  (oj e).symm))) λh12=>rnI [.el (aI .i64 (X0a.length:Int)),Bt,.pure _ (aB v10),Bf] ?_;intro h;exact wkT [] (ih (k+1) hx1  o h C0 C1)
instance Xv0:PCs Tryz.prog 103 (∀ (a0:(List Xu)) (r:Int),Xa4 a0=some r->X0j Tryz.prog 103 [(Lf (a0.map X4))] (aI .i64 r)):=⟨λa0 r h=>by
 refine X0j.sym X7 X039 (nt:=17) rfl rfl ?_ okM;unfold Xa4 at h;revert h;refine bI λu1 h2=>?_;have qh2:=X0b h2;refine bI λo13 h14=>rnI [] ?_;intro h;refine wkT [] (X2.cut (Xe2 a0 qh2 a0 0 (by simp) _ h14 ?_ ?_))
 ·
  intro eo13;subst eo13;refine X2.glue ?_;try dsimp only at h
  revert h;exact λe=>oj e▸X8 [.el (aI .i64 (a0.length:Int))] (k:=fi)
 intro X3a eo13;subst eo13;refine X2.glue ?_;try dsimp only at h
 revert h;exact λe=>oj e▸X8 [] (k:=fi)⟩
instance Xyt:PCs Tryz.prog 90 (∀ (a0:(List Xu)) (r:Bool×Int×Int),Xd7 a0=some r->X0j Tryz.prog 90 [(Lf (a0.map X4))] (AV.tup [(aB r.1),(aI .i64 r.2.1),(aI .i64 r.2.2)])):=⟨λa0 r h=>by
 refine X0j.sym X7 fn90 (nt:=29) rfl rfl ?_ okM;unfold Xd7 at h;revert h;refine bI λv1 h2=>brI (λh3=>λe=>oj e▸X8 [.pure _ (aI .i64 v1),Bt,.pure _ (aI .i64 v1)] (k:=fi)) λh3=>bI λv4 h5=>brI (λh6=>λe=>oj e▸X8 [.pure _ (aI .i64 v1),Bf,.pure _ (aI .i64 v4),.el (aI .i64 (a0.length:Int)),Bt] (k:=fi)) λh6=>bI λe7 h8=>?_;try have qh8:=Xl h8
 exact bI λv9 h10=>λe=>oj e▸X8 [.pure _ (aI .i64 v1),Bf,.pure _ (aI .i64 v4),.el (aI .i64 (a0.length:Int)),Bf,.el (aI .i64 (a0.length:Int)),.wrap,.el (X4 e7),.pure _ (aB v9),.el (aI .i64 (a0.length:Int)),.wrap] (k:=fi)⟩
instance Xvy:PCs Tryz.prog 71 (∀ (a0:(List Xu)) (a1:Bool) (r:Int×Int),X6y a0 a1=some r->X0j Tryz.prog 71 [(Lf (a0.map X4)),(aB a1)] (AV.tup [(aI .i64 r.1),(aI .i64 r.2)])):=⟨λa0 a1 r h=>by
 refine X0j.sym X7 fn71 (nt:=25) rfl rfl ?_ okM;unfold X6y at h;revert h;exact bI λv1 h2=>brI (λh3=>λe=>oj e▸X8 [.pure _ (AV.tup [(aB v1.1),(aI .i64 v1.2.1),(aI .i64 v1.2.2)]),Bt] (k:=fi)) λh3=>λe=>oj e▸X8 [.pure _ (AV.tup [(aB v1.1),(aI .i64 v1.2.1),(aI .i64 v1.2.2)]),Bf] (k:=fi)⟩
instance Xuw:PCs Tryz.prog 47 (∀ (a0:Xt) (r:Int×Int),X88 a0=some r->X0j Tryz.prog 47 [(Xk false a0)] (AV.tup [(aI .i64 r.1),(aI .i64 r.2)])):=⟨λa0 r h=>by
 refine X0j.sym X7 fn47 (nt:=46) rfl rfl ?_ okM;unfold X88 at h;revert h;refine brI (λh1=>?_) λh1=>?_
 ·
  refine bI λv2 h3=>brI (λh4=>?_) λh4=>?_
  ·
   refine bI λe5 h6=>?_;try have qh6:=Xl h6
   exact λe=>oj e▸X8 [.el (aI .i64 (a0.Arg.length:Int)),Bt,.pure _ (AV.tup [(aI .i64 v2.1),(aI .i64 v2.2)]),Bt,.el (X4 e5)] (k:=fi)
  refine rnI [.el (aI .i64 (a0.Arg.length:Int)),Bt,.pure _ (AV.tup [(aI .i64 v2.1),(aI .i64 v2.2)]),Bf,.el (aI .i64 (a0.Where.length:Int))] ?_;refine brI (λh7=>?_) λh7=>λe=>oj e▸X8 [Bf] (k:=fi);refine bI λv8 h9=>brI (λh10=>?_) λh10=>λe=>oj e▸X8 [Bt,.pure _ (AV.tup [(aI .i64 v8.1),(aI .i64 v8.2)]),Bf] (k:=fi);refine bI λe11 h12=>?_;try have qh12:=Xl h12
  exact λe=>oj e▸X8 [Bt,.pure _ (AV.tup [(aI .i64 v8.1),(aI .i64 v8.2)]),Bt,.el (X4 e11)] (k:=fi)
 refine brI (λh13=>?_) λh13=>λe=>oj e▸X8 [.el (aI .i64 (a0.Arg.length:Int)),Bf,.el (aI .i64 (a0.Where.length:Int)),Bf] (k:=fi);refine bI λv14 h15=>rnI [.el (aI .i64 (a0.Arg.length:Int)),Bf,.el (aI .i64 (a0.Where.length:Int)),Bt,.pure _ (AV.tup [(aI .i64 v14.1),(aI .i64 v14.2)])] ?_;refine brI (λh16=>?_) λh16=>λe=>oj e▸X8 [Bf] (k:=fi);refine bI λe17 h18=>?_;try have qh18:=Xl h18
 exact λe=>oj e▸X8 [Bt,.el (X4 e17)] (k:=fi)⟩
instance Xux:PCs Tryz.prog 27 (∀ (a0:Xt) (r:Int×Int),X89 a0=some r->X0j Tryz.prog 27 [(Xk false a0)] (AV.tup [(aI .i64 r.1),(aI .i64 r.2)])):=⟨λa0 r h=>by
 refine X0j.sym X7 fn27 (nt:=13) rfl rfl ?_ okM;unfold X89 at h;revert h;exact bI λv1 h2=>brI (λh3=>λe=>oj e▸X8 [.pure _ (aI .i64 v1),Bt,.pure _ (aI .i64 v1)] (k:=fi)) λh3=>bI λv4 h5=>λe=>oj e▸X8 [.pure _ (aI .i64 v1),Bf,.pure _ (AV.tup [(aI .i64 v4.1),(aI .i64 v4.2)])] (k:=fi)⟩
instance Xuv:PCs Tryz.prog 24 (∀ (a0:Int) (a1:Int) (r:Int),X3k a0 a1=some r->X0j Tryz.prog 24 [(aI .i64 a0),(aI .i64 a1)] (aI .i64 r)):=⟨λa0 a1 r h=>by
 refine X0j.sym X7 fn24 (nt:=17) rfl rfl ?_ okM;unfold X3k at h;revert h;exact brI (λh1=>λe=>oj e▸X8 [Bt] (k:=fi)) λh1=>brI (λh2=>λe=>oj e▸X8 [Bf,Bt] (k:=fi)) λh2=>λe=>oj e▸X8 [Bf,Bf] (k:=fi)⟩
instance Xut:PCs Tryz.prog 10 (∀ (a0:Xa) (r:Bool),X35 a0=some r->X0j Tryz.prog 10 [(X0 a0)] (aB r)):=⟨λa0 r h=>by
 refine X0j.sym X7 fn10 (nt:=30) rfl rfl ?_ okM;unfold X35 at h;revert h;refine brI (λh1=>?_) λh1=>?_
 ·
  refine bI λj6_2 h11=>rnI [Bt,.stop 2] ?_;intro h;refine X2.join (s':=⟨fr [(2,(aB j6_2))],hp ([]),0⟩) ?_ (λJ=>X2.cut ?_)
  ·
   revert h;exact λe=>oj e▸X8 [] (k:=fi)
  clear h;revert h11;refine brI (λh7=>?_) λh7=>?_
  ·
   refine brI (λh8=>?_) λh8=>?_
   ·
    intro h;obtain rfl:=oj h;exact X8 [Gt,Gt,Gt,Gt,Gf,Gf,Gf,Gf,Gt] (k:=wkT [] (X2.glue J))
   refine bI λv9 h10=>?_;intro h;obtain rfl:=oj h;exact X8 [Gt,Gt,Gt,Gt,Gt,Gt,Gt,.pure _ (aI .i64 v9),Gt,Gt] (k:=wkT [] (X2.glue J))
  intro h;obtain rfl:=oj h;exact X8 [Gf,Gf,Gf,Gf,Gf,Gf,Gf,Gf,Gf] (k:=wkT [] (X2.glue J))
 refine bI λXzp h19=>rnI [Bf,.stop 3] ?_;intro h;refine X2.join (s':=⟨fr [(2,(aB Xzp))],hp ([]),0⟩) ?_ (λJ=>X2.cut ?_)
 ·
  revert h;exact λe=>oj e▸X8 [] (k:=fi)
 clear h;revert h19;refine brI (λh16=>?_) λh16=>?_
 ·
  refine bI λv17 h18=>?_;intro h;obtain rfl:=oj h;exact X8 [Gt,Gt,Gt,Gt,.pure _ (aI .i64 v17),Gt] (k:=wkT [] (X2.glue J))
 intro h;obtain rfl:=oj h;exact X8 [Gf,Gf,Gf,Gf,Gf] (k:=wkT [] (X2.glue J))⟩
theorem Xe0 {Q:Xx->St->Mu->Prop} {μ:Mu} (X0a:(List Xa)) (hl:X0a.length<=140737488355328):∀ (xs:List Xa) (k:Nat) (hx:X0a.drop k=xs) (o:X5c) (h:X36 X0a xs k  = some o)
  (C0:o=X5c.x0->X2 Tryz.prog 19 0 Q (.exit (.exit 0)) [] ⟨fr [],hp ([]),0⟩ μ)
  (C1:o=X5c.x1->X2 Tryz.prog 19 0 Q (.exit .ret) [] ⟨fr [(2,(aI .i64 8))],hp ([]),0⟩ μ),
  X2 Tryz.prog 19 0 Q (.loop (X41 0 (Xh Tryz.f48))) [] ⟨fr [(0,(Lf (X0a.map X0))),(3,(aI .i64 (k:Int)))],hp ([]),0⟩ μ:=by
 intro xs
 induction xs with
 |nil =>
  intro k hx  o h C0 C1;have hk:=X11 hx;have hc:decide ((k:Int)<(X0a.length:Int))=false:=Yf om;rw[X36] at h;refine X2.round ?_;revert h;exact λe=>X8 [.el (aI .i64 (X0a.length:Int)),Bf] (k:=wkT [] (C0  (oj e).symm))
 |cons x xs ih =>
  intro k hx  o h C0 C1;obtain⟨hk,hg,hx1⟩:=X0f hx;have hc:decide ((k:Int)<(X0a.length:Int))=true:=Yt om;rw[X36] at h;refine X2.round ?_;revert h;refine bI λv11 h12=>brI (λh13=>λe=>X8 [.el (aI .i64 (X0a.length:Int)),Bt,.el (X0 x),.pure _ (aB v11),Bt] (k:=wkT [] (C1  (oj e).symm))) λh13=>rnI [.el (aI .i64 (X0a.length:Int)),Bt,.el (X0 x),.pure _ (aB v11),Bf] ?_;intro h;exact wkT [] (ih (k+1) hx1  o h C0 C1)
instance Xuu:PCs Tryz.prog 48 (∀ (a0:(List Xa)) (r:Int),X87 a0=some r->X0j Tryz.prog 48 [(Lf (a0.map X0))] (aI .i64 r)):=⟨λa0 r h=>by
 refine X0j.sym X7 fn48 (nt:=19) rfl rfl ?_ okM;unfold X87 at h;revert h;refine brI (λh1=>λe=>oj e▸X8 [.el (aI .i64 (a0.length:Int)),Bt] (k:=fi)) λh1=>bI λu2 h3=>?_;have qh3:=X0b h3;refine bI λo14 h15=>rnI [.el (aI .i64 (a0.length:Int)),Bf] ?_;intro h;refine wkT [] (X2.cut (Xe0 a0 qh3 a0 0 (by simp) _ h15 ?_ ?_))
 ·
  intro eo14;subst eo14;refine X2.glue ?_;try dsimp only at h
  revert h;exact λe=>oj e▸X8 [] (k:=fi)
 intro eo14;subst eo14;refine X2.glue ?_;try dsimp only at h
 revert h;exact λe=>oj e▸X8 [] (k:=fi)⟩
theorem Xdy {Q:Xx->St->Mu->Prop} {μ:Mu} (X0a:(List (List Xa))) (hl:X0a.length<=140737488355328):∀ (xs:List (List Xa)) (k:Nat) (hx:X0a.drop k=xs) (o:X5a) (h:X33 X0a xs k  = some o)
  (C0:o=X5a.x0->X2 Tryz.prog 19 0 Q (.exit (.exit 0)) [] ⟨fr [],hp ([]),0⟩ μ)
  (C1:∀ (X3a:Int),o=X5a.x1 X3a->X2 Tryz.prog 19 0 Q (.exit .ret) [] ⟨fr [(2,(aI .i64 X3a))],hp ([]),0⟩ μ),
  X2 Tryz.prog 19 0 Q (.loop (X41 0 (Xh Tryz.f28))) [] ⟨fr [(0,(Lf (List.map (X14 false X0) X0a))),(3,(aI .i64 (k:Int)))],hp ([]),0⟩ μ:=by
 intro xs
 induction xs with
 |nil =>
  intro k hx  o h C0 C1;have hk:=X11 hx;have hc:decide ((k:Int)<(X0a.length:Int))=false:=Yf om;rw[X33] at h;refine X2.round ?_;revert h;exact λe=>X8 [.el (aI .i64 (X0a.length:Int)),Bf] (k:=wkT [] (C0  (oj e).symm))
 |cons x xs ih =>
  intro k hx  o h C0 C1;obtain⟨hk,hg,hx1⟩:=X0f hx;have hc:decide ((k:Int)<(X0a.length:Int))=true:=Yt om;rw[X33] at h;refine X2.round ?_;revert h;refine bI λv10 h11=>brI (λh12=>λe=>X8 [.el (aI .i64 (X0a.length:Int)),Bt,.el (X14 false X0 x),.pure _ (aI .i64 v10),Bt] (k:=wkT [] (C1 _  (oj e).symm))) λh12=>rnI [.el (aI .i64 (X0a.length:Int)),Bt,.el (X14 false X0 x),.pure _ (aI .i64 v10),Bf] ?_;intro h;exact wkT [] (ih (k+1) hx1  o h C0 C1)
instance Xuq:PCs Tryz.prog 28 (∀ (a0:(List (List Xa))) (r:Int),X85 a0=some r->X0j Tryz.prog 28 [(Lf (List.map (X14 false X0) a0))] (aI .i64 r)):=⟨λa0 r h=>by
 refine X0j.sym X7 fn28 (nt:=19) rfl rfl ?_ okM;unfold X85 at h;revert h;refine bI λu1 h2=>?_;have qh2:=X0b h2;refine bI λo13 h14=>rnI [] ?_;intro h;refine wkT [] (X2.cut (Xdy a0 qh2 a0 0 (by simp) _ h14 ?_ ?_))
 ·
  intro eo13;subst eo13;refine X2.glue ?_;try dsimp only at h
  revert h;exact λe=>oj e▸X8 [] (k:=fi)
 intro X3a eo13;subst eo13;refine X2.glue ?_;try dsimp only at h
 revert h;exact λe=>oj e▸X8 [] (k:=fi)⟩
instance Xus:PCs Tryz.prog 17 (∀ (a0:Xt) (a1:(List (List Xa))) (r:Int),Xa2 a0 a1=some r->X0j Tryz.prog 17 [(Xk false a0),(Lf (List.map (X14 false X0) a1))] (aI .i64 r)):=⟨λa0 a1 r h=>by
 refine X0j.sym X7 fn17 (nt:=23) rfl rfl ?_ okM;unfold Xa2 at h;revert h;exact bI λv1 h2=>brI (λh3=>λe=>oj e▸X8 [.pure _ (AV.tup [(aI .i64 v1.1),(aI .i64 v1.2)]),Bt] (k:=fi)) λh3=>brI (λh4=>λe=>oj e▸X8 [.pure _ (AV.tup [(aI .i64 v1.1),(aI .i64 v1.2)]),Bf,.el (aI .i64 (a1.length:Int)),.el (aI .i64 (a0.Sources.length:Int)),Bt] (k:=fi)) λh4=>bI λv5 h6=>λe=>oj e▸X8 [.pure _ (AV.tup [(aI .i64 v1.1),(aI .i64 v1.2)]),Bf,.el (aI .i64 (a1.length:Int)),.el (aI .i64 (a0.Sources.length:Int)),Bf,.pure _ (aI .i64 v5)] (k:=fi)⟩
instance Xxs:PCs Tryz.prog 5 (∀ (a0:Xt) (a1:(List (List Xa))) (r:Bool),Xbh a0 a1=some r->X0j Tryz.prog 5 [(Xk false a0),(Lf (List.map (X14 false X0) a1))] (aB r)):=⟨λa0 a1 r h=>by
 refine X0j.sym X7 fn5 (nt:=19) rfl rfl ?_ okM;unfold Xbh at h;revert h;refine bI λj9_4 h18=>rnI [.stop 1] ?_;intro h;refine X2.join (s':=⟨fr [(4,(aB j9_4))],hp ([]),0⟩) ?_ (λJ=>X2.cut ?_)
 ·
  revert h;exact λe=>oj e▸X8 [] (k:=fi)
 clear h;revert h18;refine bI λv10 h11=>brI (λh12=>?_) λh12=>?_
 ·
  refine bI λv13 h14=>brI (λh15=>?_) λh15=>?_
  ·
   refine bI λv16 h17=>?_;intro h;obtain rfl:=oj h;exact X8 [.pure _ (aB v10),Gt,Gt,.pure _ (aB v13),Gt,Gt,Gt,Gt,.pure _ (aI .i64 v16),Gt] (o:=by repeat' first|apply Ya|exact pcM|exact fq (X2a h12 h15)|exact X05) (k:=wkT [] (X2.glue J))
  intro h;obtain rfl:=oj h;exact X8 [.pure _ (aB v10),Gt,Gt,.pure _ (aB v13),Gt,Gf,Gf,Gf,Gf] (o:=by repeat' first|apply Ya|exact pcM|exact fq (X2a h12 h15)|exact X05) (k:=wkT [] (X2.glue J))
 intro h;obtain rfl:=oj h;exact X8 [.pure _ (aB v10),Gf,Gf,Gf,Gf,Gf,Gf,Gf] (o:=by repeat' first|apply Ya|exact pcM|exact fq (X2y h12 rfl)|exact X05) (k:=wkT [] (X2.glue J))⟩
end Go.Av.Tryz