/- Printed by decomp.py: that the program computes the functions. -/
import Derived.Test.YtkjlgmgfhgamlaaGreatDCert9Z
set_option linter.all false

namespace Go.Av.Tryz
open Go.Proofs Go.D
set_option maxRecDepth 10000
set_option maxHeartbeats 40000000
instance Xvd:PCs Tryz.prog 19 (∀ (r:Bool),Xb7=some r->X0i Tryz.prog 19 [] (aB r)):=⟨λr h=>by
 refine X0i.sym X3 fn19 (nt:=28) rfl rfl ?_ okM;unfold Xb7 at h;revert h;refine bI λv1 h2=>bI λv3 h4=>bI λv5 h6=>bI λv7 h8=>bI λv9 h10=>bI λXzm h24=>rnI [.pure _ (X06 true v1),.pure _ (Xl v3),.pure _ (Xl v5),.pure _ (Xl v7),.pure _ (AV.tup [(X9 true v9.1),(Lt (v9.2.1.map Xt)),(aB v9.2.2)]),.stop 2] ?_;intro h;refine X2.join (s':=⟨fr [(0,(aB Xzm))],hp ([]),0⟩) ?_ (λJ=>X2.cut ?_)
 ·
  revert h;exact λe=>oj e▸X7 [] (k:=fi)
 clear h;revert h24;refine brI (λh18=>?_) λh18=>?_
 ·
  refine bI λv19 h20=>bI λv21 h22=>brI (λh23=>?_) λh23=>?_
  ·
   intro h;obtain rfl:=oj h;exact X7 [Gt,Gt,.pure _ (Xt v19),Gt,Gt,.pure _ (aB v21),Gt,Gt,Gt,.el (aI .i64 (v9.1.Store.length:Int)),Gt] (o:=by repeat' first|apply Ya|exact pcM|exact fq (Xg h18 h23)|exact Xz) (k:=wkT [] (X2.glue J))
  intro h;obtain rfl:=oj h;exact X7 [Gt,Gt,.pure _ (Xt v19),Gt,Gt,.pure _ (aB v21),Gf,Gf,Gf,Gf] (o:=by repeat' first|apply Ya|exact pcM|exact fq (Xg h18 h23)|exact Xz) (k:=wkT [] (X2.glue J))
 intro h;obtain rfl:=oj h;exact X7 [Gf,Gf,Gf,Gf,Gf,Gf,Gf,Gf] (o:=by repeat' first|apply Ya|exact pcM|exact fq (Xr h18 rfl)|exact Xz) (k:=wkT [] (X2.glue J))⟩
instance Xvb:PCs Tryz.prog 20 (∀ (a0:X08) (r:Bool),X9f a0=some r->X0i Tryz.prog 20 [(X06 false a0)] (aB r)):=⟨λa0 r h=>by
 refine X0i.sym X3 fn20 (nt:=19) rfl rfl ?_ okM;unfold X9f at h;revert h;refine bI λj3_2 h6=>rnI [.stop 1] ?_;intro h;refine X2.join (s':=⟨fr [(2,(aB j3_2))],hp ([]),0⟩) ?_ (λJ=>X2.cut ?_)
 ·
  revert h;exact λe=>oj e▸X7 [] (k:=fi)
 clear h;revert h6;refine brI (λh4=>?_) λh4=>?_
 ·
  intro h;obtain rfl:=oj h;exact X7 [.el (aI .i64 (a0.Arg.length:Int)),Gf,Gf,Gf,Gf,Gf,Gf,Gf,Gf] (o:=by repeat' first|apply Ya|exact pcM|exact fq (Xg h4 rfl)|exact Xz) (k:=wkT [] (X2.glue J))
 refine brI (λh5=>?_) λh5=>?_
 ·
  intro h;obtain rfl:=oj h;exact X7 [.el (aI .i64 (a0.Arg.length:Int)),Gt,Gt,Gt,.el (aI .i64 (a0.Where.length:Int)),Gt,Gf,Gf,Gf,Gf] (o:=by repeat' first|apply Ya|exact pcM|exact fq (Xr h4 h5)|exact Xz) (k:=wkT [] (X2.glue J))
 intro h;obtain rfl:=oj h;exact X7 [.el (aI .i64 (a0.Arg.length:Int)),Gt,Gt,Gt,.el (aI .i64 (a0.Where.length:Int)),Gt,Gt,Gt,Gt,.el (aI .i64 (a0.Sources.length:Int)),Gt] (o:=by repeat' first|apply Ya|exact pcM|exact fq (Xr h4 h5)|exact Xz) (k:=wkT [] (X2.glue J))⟩
instance Xv2:PCs Tryz.prog 173 (∀ (a0:Int) (r:Int),Xb2 a0=some r->X0i Tryz.prog 173 [(aI .u8 a0)] (aI .i64 r)):=⟨λa0 r h=>by
 refine X0i.sym X3 X03u (nt:=7) rfl rfl ?_ okM;unfold Xb2 at h;revert h;exact brI (λh1=>λe=>oj e▸X7 [Bt] (k:=fi)) λh1=>brI (λh2=>λe=>oj e▸X7 [Bf,Bt] (k:=fi)) λh2=>λe=>oj e▸X7 [Bf,Bf] (k:=fi)⟩
instance Xv0:PCs Tryz.prog 174 (∀ (a0:X05) (a1:Int) (a2:Int) (r:Bool),X60 a0 a1 a2=some r->X0i Tryz.prog 174 [(X4 a0),(aI .i64 a1),(aI .i64 a2)] (aB r)):=⟨λa0 a1 a2 r h=>by
 refine X0i.sym X3 X03t (nt:=52) rfl rfl ?_ okM;unfold X60 at h;revert h;exact λe=>oj e▸X7 [] (k:=fi)⟩
theorem Xey {Q:Xx->St->Mu->Prop} {μ:Mu} (X0u:(List X05)) (hl:X0u.length<=140737488355328):∀ (xs:List X05) (k:Nat) (hx:X0u.drop k=xs) (Xn:(List Int)) (Xi:(List Int)) (X1r:Nb Xn) (Xq:Nb Xi) (o:X4d) (h:X1f X0u xs k Xn Xi=some o)
  (C0:∀ (X07:(List Int)) (X09:(List Int)) (X0o:Nb X07) (X0p:Nb X09),o=X4d.x0 X07 X09->X2 Tryz.prog 102 0 Q (.exit (.exit 0)) [] ⟨fr [(0,(Lf (X0u.map X4))),(5,(slE X0o.1 0 (List.map (aI .i64) X07))),(6,(slE X0p.1 1 (List.map (aI .i64) X09)))],hp ([]++opE X0o.1 0 1 (List.map (aI .i64) X07)++opE X0p.1 1 1 (List.map (aI .i64) X09)),2⟩ μ)
  (C1:∀ (X1a:(List Int)) (X4q:(List Int)) (X17:Nb X1a) (X58:Nb X4q),o=X4d.x1 X1a X4q->X2 Tryz.prog 102 0 Q (.exit .ret) [] ⟨fr [(2,(slE X17.1 0 (List.map (aI .i64) X1a))),(3,(slE X58.1 1 (List.map (aI .i64) X4q))),(4,(aB false))],hp ([]++opE X17.1 0 1 (List.map (aI .i64) X1a)++opE X58.1 1 1 (List.map (aI .i64) X4q)),2⟩ μ),
  X2 Tryz.prog 102 0 Q (.loop (X48 0 (Xa Tryz.f155))) [] ⟨fr [(0,(Lf (X0u.map X4))),(5,(slE X1r.1 0 (List.map (aI .i64) Xn))),(6,(slE Xq.1 1 (List.map (aI .i64) Xi))),(7,(aI .i64 (k:Int)))],hp ([]++opE X1r.1 0 1 (List.map (aI .i64) Xn)++opE Xq.1 1 1 (List.map (aI .i64) Xi)),2⟩ μ:=by
 intro xs
 induction xs with
 |nil =>
  intro k hx Xn Xi X1r Xq o h C0 C1;have hk:=drop_nil hx;have hc:decide ((k:Int)<(X0u.length:Int))=false:=Yf om;rw[X1f] at h;rcases X1r with ⟨_|_,X5d⟩
  ·
   rcases Xq with ⟨_|_,X0f⟩
   ·
    refine X2.round ?_;revert h;exact λe=>X7 [.el (aI .i64 (X0u.length:Int)),Bf] (k:=wkT [] (C0 _ _  nbF nbF (oj e).symm))
   obtain rfl:=X0f rfl;refine X2.round ?_;revert h;exact λe=>X7 [.el (aI .i64 (X0u.length:Int)),Bf] (k:=wkT [] (C0 _ _  nbF nbS (oj e).symm))
  ·
   obtain rfl:=X5d rfl;rcases Xq with ⟨_|_,X0f⟩
   ·
    refine X2.round ?_;revert h;exact λe=>X7 [.el (aI .i64 (X0u.length:Int)),Bf] (k:=wkT [] (C0 _ _  nbS nbF (oj e).symm))
   ·
    obtain rfl:=X0f rfl;refine X2.round ?_;revert h;exact λe=>X7 [.el (aI .i64 (X0u.length:Int)),Bf] (k:=wkT [] (C0 _ _  nbS nbS (oj e).symm))
 |cons x xs ih =>
  intro k hx Xn Xi X1r Xq o h C0 C1;obtain⟨hk,hg,hx1⟩:=X12 hx;have hc:decide ((k:Int)<(X0u.length:Int))=true:=Yt om;rw[X1f] at h;rcases X1r with ⟨_|_,X5d⟩
  ·
   rcases Xq with ⟨_|_,X0f⟩
   ·
    refine X2.round ?_;revert h;refine bI λv156 h157=>brI (λh158=>?_) λh158=>?_
    ·
     refine brI (λh159=>λe=>X7 [.el (aI .i64 (X0u.length:Int)),Bt,.el (X4 x),.pure _ (aI .i64 v156),Bt,.wrap,Bt] (k:=wkT [] (C1 _ _  nbS nbS (oj e).symm))) λh159=>bI λe160 h161=>?_;try have qh161:=Xo h161
     refine bI λe162 h163=>?_;try have qh163:=Xo h163
     refine rnI [.el (aI .i64 (X0u.length:Int)),Bt,.el (X4 x),.pure _ (aI .i64 v156),Bt,.wrap,Bf,.el (aI .i64 e160),.ld (aI .i64 e160),.wrap,.el (aI .i64 e160),.ld (aI .i64 e160),.wrap,.el (aI .i64 e162),.ld (aI .i64 e162),.wrap] ?_;refine brI (λh164=>?_) λh164=>?_
     ·
      refine brI (λh165=>λe=>X7 [Bt,Bt] (k:=wkT [] (C1 _ _  nbS nbS (oj e).symm))) λh165=>bI λe166 h167=>?_;try have qh167:=Xo h167
      refine bI λe168 h169=>?_;try have qh169:=Xo h169
      refine bI λv170 h171=>rnI [Bt,Bf,.el (aI .i64 e166),.ld (aI .i64 e166),.wrap,.el (aI .i64 e168),.ld (aI .i64 e168),.wrap,.el (X4 x),.pure _ (aB v170)] ?_;refine brI (λh172=>λe=>X7 [Bt] (k:=wkT [] (C1 _ _  nbS nbS (oj e).symm))) λh172=>?_;refine bI λu173 h174=>bI λu175 h176=>rnI [Bf,.no,.no] (o:=by repeat' first|apply Ya|exact pcM|(refine X02 h174 rfl ?_;first|(simp<;>omega)|(simp[hc,h158,h159,h164,h165,h172]<;>omega))|(refine Xk h174 (by decide) ?_;first|(simp<;>omega)|(simp[hc,h158,h159,h164,h165,h172]<;>omega))|(refine X02 h176 rfl ?_;first|(simp<;>omega)|(simp[hc,h158,h159,h164,h165,h172]<;>omega))|(refine Xk h176 (by decide) ?_;first|(simp<;>omega)|(simp[hc,h158,h159,h164,h165,h172]<;>omega))|exact Xz) ?_;intro h;exact wkT [(0,3),(1,5)] (ih (k+1) hx1 _ _ nbF nbF o h C0 C1)
     refine bI λv177 h178=>brI (λh179=>λe=>X7 [Bf,.el (X4 x),.pure _ (aB v177),Bt] (k:=wkT [] (C1 _ _  nbS nbS (oj e).symm))) λh179=>?_;refine bI λu180 h181=>bI λu182 h183=>rnI [Bf,.el (X4 x),.pure _ (aB v177),Bf,.no,.no] (o:=by repeat' first|apply Ya|exact pcM|(refine X02 h181 rfl ?_;first|(simp<;>omega)|(simp[hc,h158,h159,h164,h179]<;>omega))|(refine Xk h181 (by decide) ?_;first|(simp<;>omega)|(simp[hc,h158,h159,h164,h179]<;>omega))|(refine X02 h183 rfl ?_;first|(simp<;>omega)|(simp[hc,h158,h159,h164,h179]<;>omega))|(refine Xk h183 (by decide) ?_;first|(simp<;>omega)|(simp[hc,h158,h159,h164,h179]<;>omega))|exact Xz) ?_;intro h;exact wkT [(0,3),(1,5)] (ih (k+1) hx1 _ _ nbF nbF o h C0 C1)
    refine bI λv184 h185=>brI (λh186=>λe=>X7 [.el (aI .i64 (X0u.length:Int)),Bt,.el (X4 x),.pure _ (aI .i64 v156),Bf,.el (X4 x),.pure _ (aB v184),Bt] (k:=wkT [] (C1 _ _  nbS nbS (oj e).symm))) λh186=>?_;refine bI λu187 h188=>bI λu189 h190=>rnI [.el (aI .i64 (X0u.length:Int)),Bt,.el (X4 x),.pure _ (aI .i64 v156),Bf,.el (X4 x),.pure _ (aB v184),Bf,.no,.no] (o:=by repeat' first|apply Ya|exact pcM|(refine X02 h188 rfl ?_;first|(simp<;>omega)|(simp[hc,h158,h186]<;>omega))|(refine Xk h188 (by decide) ?_;first|(simp<;>omega)|(simp[hc,h158,h186]<;>omega))|(refine X02 h190 rfl ?_;first|(simp<;>omega)|(simp[hc,h158,h186]<;>omega))|(refine Xk h190 (by decide) ?_;first|(simp<;>omega)|(simp[hc,h158,h186]<;>omega))|exact Xz) ?_;intro h;exact wkT [(0,3),(1,5)] (ih (k+1) hx1 _ _ nbF nbF o h C0 C1)
   obtain rfl:=X0f rfl;refine X2.round ?_;revert h;refine bI λv191 h192=>brI (λh193=>?_) λh193=>?_
   ·
    refine brI (λh194=>λe=>X7 [.el (aI .i64 (X0u.length:Int)),Bt,.el (X4 x),.pure _ (aI .i64 v191),Bt,.wrap,Bt] (k:=wkT [] (C1 _ _  nbS nbS (oj e).symm))) λh194=>bI λe195 h196=>?_;try have qh196:=Xo h196
    refine bI λe197 h198=>?_;try have qh198:=Xo h198
    intro h
    first|exact absurd (h198) (by simp[X1o];done)|(simp[X1o,hc,h193,h194] at h;done)|(simp[hc,h193,h194] at hg;done)|exact absurd (h198) (by simp[X1o,hc,h193,h194];done)
   refine bI λv199 h200=>brI (λh201=>λe=>X7 [.el (aI .i64 (X0u.length:Int)),Bt,.el (X4 x),.pure _ (aI .i64 v191),Bf,.el (X4 x),.pure _ (aB v199),Bt] (k:=wkT [] (C1 _ _  nbS nbS (oj e).symm))) λh201=>?_;refine bI λu202 h203=>bI λu204 h205=>rnI [.el (aI .i64 (X0u.length:Int)),Bt,.el (X4 x),.pure _ (aI .i64 v191),Bf,.el (X4 x),.pure _ (aB v199),Bf,.no,.no] (o:=by repeat' first|apply Ya|exact pcM|(refine X02 h203 rfl ?_;first|(simp<;>omega)|(simp[hc,h193,h201]<;>omega))|(refine Xk h203 (by decide) ?_;first|(simp<;>omega)|(simp[hc,h193,h201]<;>omega))|(refine X02 h205 rfl ?_;first|(simp<;>omega)|(simp[hc,h193,h201]<;>omega))|(refine Xk h205 (by decide) ?_;first|(simp<;>omega)|(simp[hc,h193,h201]<;>omega))|exact Xz) ?_;intro h;exact wkT [(0,3),(1,5)] (ih (k+1) hx1 _ _ nbF nbF o h C0 C1)
  obtain rfl:=X5d rfl;rcases Xq with ⟨_|_,X0f⟩<;>(try obtain rfl:=X0f rfl);all_goals
   refine X2.round ?_;revert h;refine bI λv206 h207=>brI (λh208=>?_) λh208=>?_
   ·
    refine brI (λh209=>λe=>X7 [.el (aI .i64 (X0u.length:Int)),Bt,.el (X4 x),.pure _ (aI .i64 v206),Bt,.wrap,Bt] (k:=wkT [] (C1 _ _  nbS nbS (oj e).symm))) λh209=>bI λe210 h211=>?_;try have qh211:=Xo h211
    intro h
    first|exact absurd (h211) (by simp[X1o];done)|(simp[X1o,hc,h208,h209] at h;done)|(simp[hc,h208,h209] at hg;done)|exact absurd (h211) (by simp[X1o,hc,h208,h209];done)
   refine bI λv212 h213=>brI (λh214=>λe=>X7 [.el (aI .i64 (X0u.length:Int)),Bt,.el (X4 x),.pure _ (aI .i64 v206),Bf,.el (X4 x),.pure _ (aB v212),Bt] (k:=wkT [] (C1 _ _  nbS nbS (oj e).symm))) λh214=>?_;refine bI λu215 h216=>bI λu217 h218=>rnI [.el (aI .i64 (X0u.length:Int)),Bt,.el (X4 x),.pure _ (aI .i64 v206),Bf,.el (X4 x),.pure _ (aB v212),Bf,.no,.no] (o:=by repeat' first|apply Ya|exact pcM|(refine X02 h216 rfl ?_;first|(simp<;>omega)|(simp[hc,h208,h214]<;>omega))|(refine Xk h216 (by decide) ?_;first|(simp<;>omega)|(simp[hc,h208,h214]<;>omega))|(refine X02 h218 rfl ?_;first|(simp<;>omega)|(simp[hc,h208,h214]<;>omega))|(refine Xk h218 (by decide) ?_;first|(simp<;>omega)|(simp[hc,h208,h214]<;>omega))|exact Xz) ?_;intro h;exact wkT [(0,3),(1,5)] (ih (k+1) hx1 _ _ nbF nbF o h C0 C1)
instance Xv1:PCs Tryz.prog 155 (∀ (a0:(List X05)) (r:(List Int)×(List Int)×Bool),Xb1 a0=some r->X0i Tryz.prog 155 [(Lf (a0.map X4))] (AV.tup [(Lt (List.map (aI .i64) r.1)),(Lt (List.map (aI .i64) r.2.1)),(aB r.2.2)])):=⟨λa0 r h=>by
 refine X0i.sym X3 X042 (nt:=102) rfl rfl ?_ okM;unfold Xb1 at h;revert h;refine bI λu1 h2=>?_;have qh2:=X13 h2;refine bI λo232 h233=>rnI [] ?_;intro h;refine wkT [] (X2.cut (Xey a0 qh2 a0 0 (by simp) _ _ nbS nbS _ h233 ?_ ?_))
 ·
  intro X07 X09 X0o X0p eo232;subst eo232;refine X2.glue ?_;try dsimp only at h
  rcases X0o with ⟨_|_,X3u⟩
  ·
   rcases X0p with ⟨_|_,X3t⟩
   ·
    revert h;refine bI λXtl h241=>rnI [.stop 25] ?_;intro h;refine X2.join (s':=⟨fr [(2,(AV.ref 0 0 (X07.length))),(3,(AV.ref 1 0 (X09.length))),(4,(aB Xtl))],hp ([(0,Ob (List.map (aI .i64) X07) 1),(1,Ob (List.map (aI .i64) X09) 1)]),2⟩) ?_ (λJ=>X2.cut ?_)
    ·
     revert h;exact λe=>oj e▸X7 [] (k:=fi)
    clear h;revert h241;refine brI (λh238=>?_) λh238=>?_
    ·
     refine bI λe239 h240=>?_;try have qh240:=Xo h240
     intro h;obtain rfl:=oj h;exact X7 [.el (aI .i64 (a0.length:Int)),Gt,Gt,Gt,.el (aI .i64 (a0.length:Int)),Gt,.wrap,Gt,.el (aI .i64 e239),Gt,.ld (aI .i64 e239),Gt,Gt,.el (aI .i64 (a0.length:Int)),Gt] (k:=wkT [] (X2.glue J))
    intro h;obtain rfl:=oj h;exact X7 [.el (aI .i64 (a0.length:Int)),Gf,Gf,Gf,Gf,Gf,Gf,Gf,Gf,Gf,Gf] (k:=wkT [] (X2.glue J))
   obtain rfl:=X3t rfl;revert h;refine bI λX01t h249=>rnI [.stop 25] ?_;intro h;refine X2.join (s':=⟨fr [(2,(AV.ref 0 0 (X07.length))),(3,AV.nils),(4,(aB X01t))],hp ([(0,Ob (List.map (aI .i64) X07) 1)]),2⟩) ?_ (λJ=>X2.cut ?_)
   ·
    revert h;exact λe=>oj e▸X7 [] (k:=fi)
   clear h;revert h249;refine brI (λh246=>?_) λh246=>?_
   ·
    refine bI λe247 h248=>?_;try have qh248:=Xo h248
    intro h;obtain rfl:=oj h;exact X7 [.el (aI .i64 (a0.length:Int)),Gt,Gt,Gt,.el (aI .i64 (a0.length:Int)),Gt,.wrap,Gt,.el (aI .i64 e247),Gt,.ld (aI .i64 e247),Gt,Gt,.el (aI .i64 (a0.length:Int)),Gt] (k:=wkT [] (X2.glue J))
   intro h;obtain rfl:=oj h;exact X7 [.el (aI .i64 (a0.length:Int)),Gf,Gf,Gf,Gf,Gf,Gf,Gf,Gf,Gf,Gf] (k:=wkT [] (X2.glue J))
  obtain rfl:=X3u rfl;rcases X0p with ⟨_|_,X3t⟩
  ·
   revert h;refine bI λX01s h257=>rnI [.stop 25] ?_;intro h;refine X2.join (s':=⟨fr [(2,AV.nils),(3,(AV.ref 1 0 (X09.length))),(4,(aB X01s))],hp ([(1,Ob (List.map (aI .i64) X09) 1)]),2⟩) ?_ (λJ=>X2.cut ?_)
   ·
    revert h;exact λe=>oj e▸X7 [] (k:=fi)
   clear h;revert h257;refine brI (λh254=>?_) λh254=>?_
   ·
    refine bI λe255 h256=>?_;try have qh256:=Xo h256
    intro h
    first|exact absurd (h256) (by simp[X1o];done)|(simp[X1o,h254] at h;done)|(simp[h254] at hg;done)|exact absurd (h256) (by simp[X1o,h254];done)
   intro h;obtain rfl:=oj h;exact X7 [.el (aI .i64 (a0.length:Int)),Gf,Gf,Gf,Gf,Gf,Gf,Gf,Gf,Gf,Gf] (k:=wkT [] (X2.glue J))
  obtain rfl:=X3t rfl;revert h;refine bI λX01r h265=>rnI [.stop 25] ?_;intro h;refine X2.join (s':=⟨fr [(2,AV.nils),(3,AV.nils),(4,(aB X01r))],hp ([]),2⟩) ?_ (λJ=>X2.cut ?_)
  ·
   revert h;exact λe=>oj e▸X7 [] (k:=fi)
  clear h;revert h265;refine brI (λh262=>?_) λh262=>?_
  ·
   refine bI λe263 h264=>?_;try have qh264:=Xo h264
   intro h
   first|exact absurd (h264) (by simp[X1o];done)|(simp[X1o,h262] at h;done)|(simp[h262] at hg;done)|exact absurd (h264) (by simp[X1o,h262];done)
  intro h;obtain rfl:=oj h;exact X7 [.el (aI .i64 (a0.length:Int)),Gf,Gf,Gf,Gf,Gf,Gf,Gf,Gf,Gf,Gf] (k:=wkT [] (X2.glue J))
 intro X1a X4q X17 X58 eo232;subst eo232;refine X2.glue ?_;try dsimp only at h
 rcases X17 with ⟨_|_,X5b⟩<;>(try obtain rfl:=X5b rfl);all_goals
  rcases X58 with ⟨_|_,Xf9⟩<;>(try obtain rfl:=Xf9 rfl);all_goals
   revert h;exact λe=>oj e▸X7 [] (k:=fi)⟩
instance Xv3:PCs Tryz.prog 127 (∀ (a0:(List X05)) (r:Int),X47 a0=some r->X0i Tryz.prog 127 [(Lf (a0.map X4))] (aI .i64 r)):=⟨λa0 r h=>by
 refine X0i.sym X3 X04i (nt:=24) rfl rfl ?_ okM;unfold X47 at h;revert h;refine brI (λh1=>λe=>oj e▸X7 [.el (aI .i64 (a0.length:Int)),Bt] (k:=fi)) λh1=>bI λv2 h3=>rnI [.el (aI .i64 (a0.length:Int)),Bf,.pure _ (AV.tup [(Lt (List.map (aI .i64) v2.1)),(Lt (List.map (aI .i64) v2.2.1)),(aB v2.2.2)])] ?_;refine brI (λh4=>λe=>oj e▸X7 [Bt] (k:=fi)) λh4=>bI λe5 h6=>?_;try have qh6:=Xo h6
 exact brI (λh7=>λe=>oj e▸X7 [Bf,.el (aI .i64 (a0.length:Int)),.wrap,.el (aI .i64 e5),Bt] (k:=fi)) λh7=>λe=>oj e▸X7 [Bf,.el (aI .i64 (a0.length:Int)),.wrap,.el (aI .i64 e5),Bf] (k:=fi)⟩
theorem Xdf {Q:Xx->St->Mu->Prop} {μ:Mu} (X0u:(List Int)) (hl:X0u.length<=140737488355328):∀ (xs:List Int) (k:Nat) (hx:X0u.drop k=xs) (o:X4o) (h:X2q X0u xs k  = some o)
  (C0:o=X4o.x0->X2 Tryz.prog 60 0 Q (.exit (.exit 0)) [] ⟨fr [(0,(Lf (List.map (aI .i64) X0u)))],hp ([]),0⟩ μ)
  (C1:o=X4o.x1->X2 Tryz.prog 60 0 Q (.exit .ret) [] ⟨fr [(4,(aI .i64 8))],hp ([]),0⟩ μ),
  X2 Tryz.prog 60 0 Q (.loop (X48 0 (Xa Tryz.f128))) [] ⟨fr [(0,(Lf (List.map (aI .i64) X0u))),(5,(aI .i64 (k:Int)))],hp ([]),0⟩ μ:=by
 intro xs
 induction xs with
 |nil =>
  intro k hx  o h C0 C1;have hk:=drop_nil hx;have hc:decide ((k:Int)<(X0u.length:Int))=false:=Yf om;rw[X2q] at h;refine X2.round ?_;revert h;exact λe=>X7 [.el (aI .i64 (X0u.length:Int)),Bf] (k:=wkT [] (C0  (oj e).symm))
 |cons x xs ih =>
  intro k hx  o h C0 C1;obtain⟨hk,hg,hx1⟩:=X12 hx;have hc:decide ((k:Int)<(X0u.length:Int))=true:=Yt om;rw[X2q] at h;refine X2.round ?_;revert h;refine bI λXtk h25=>rnI [.el (aI .i64 (X0u.length:Int)),Bt,.stop 8] ?_;intro h;refine X2.join (s':=⟨fr [(0,(Lf (List.map (aI .i64) X0u))),(5,(aI .i64 (k:Int))),(39,(aB Xtk))],hp ([]),0⟩) ?_ (λJ=>X2.cut ?_)
  ·
   revert h;refine brI (λh26=>λe=>X7 [Bt] (k:=wkT [] (C1  (oj e).symm))) λh26=>rnI [Bf] ?_;intro h;exact wkT [] (ih (k+1) hx1  o h C0 C1)
  clear h;revert h25;refine brI (λh24=>?_) λh24=>?_
  ·
   intro h;obtain rfl:=oj h;exact X7 [.el (aI .i64 x),Gf,Gf,Gf,Gf,Gf] (k:=wkT [] (X2.glue J))
  intro h;obtain rfl:=oj h;exact X7 [.el (aI .i64 x),Gt,Gt,Gt,.el (aI .i64 x),Gt,Gt] (k:=wkT [] (X2.glue J))
theorem Xdd {Q:Xx->St->Mu->Prop} {μ:Mu} (Xy7:(List Int)) (Xy6:Int):∀ (n:Nat) (Xlo:Int) (o:X4m) (h:X2p Xy7 Xy6 n Xlo=some o)
  (C0:o=X4m.x0->X2 Tryz.prog 60 0 Q (.exit .ret) [] ⟨fr [(4,(aI .i64 43))],hp ([]),0⟩ μ)
  (C1:o=X4m.x1->X2 Tryz.prog 60 0 Q (.exit (.exit 4)) [] ⟨fr [(0,(Lf (List.map (aI .i64) Xy7))),(6,(aI .i64 Xy6))],hp ([]),0⟩ μ),
  X2 Tryz.prog 60 0 Q (.loop (X48 2 (Xa Tryz.f128))) [] ⟨fr [(0,(Lf (List.map (aI .i64) Xy7))),(6,(aI .i64 Xy6)),(7,(aI .i64 Xlo))],hp ([]),0⟩ μ:=by
 intro n
 induction n with
 |zero=>intro Xlo o h C0 C1;cases h
 |succ n ih =>
  intro Xlo o h C0 C1;rw[X2p] at h;refine X2.round ?_;revert h;refine brI (λh85=>?_) λh85=>λe=>X7 [Bf] (k:=wkT [] (C1  (oj e).symm));refine bI λe86 h87=>?_;try have qh87:=Xo h87
  refine bI λe88 h89=>?_;try have qh89:=Xo h89
  refine brI (λh90=>λe=>X7 [Bt,.el (aI .i64 e86),.el (aI .i64 e88),Bt] (k:=wkT [] (C0  (oj e).symm))) λh90=>rnI [Bt,.el (aI .i64 e86),.el (aI .i64 e88),Bf,.wrap] ?_;intro h;exact wkT [] (ih  _ o h C0 C1)
theorem Xde {Q:Xx->St->Mu->Prop} {μ:Mu} (Xrn:(List Int)) (hl:Xrn.length<=140737488355328):∀ (xs:List Int) (k:Nat) (hx:Xrn.drop k=xs) (o:X4n) (h:X2a Xrn xs k  = some o)
  (C0:o=X4n.x0->X2 Tryz.prog 60 0 Q (.exit (.exit 2)) [] ⟨fr [],hp ([]),0⟩ μ)
  (C1:o=X4n.x1->X2 Tryz.prog 60 0 Q (.exit .ret) [] ⟨fr [(4,(aI .i64 43))],hp ([]),0⟩ μ),
  X2 Tryz.prog 60 0 Q (.loop (X48 1 (Xa Tryz.f128))) [] ⟨fr [(0,(Lf (List.map (aI .i64) Xrn))),(6,(aI .i64 (k:Int)))],hp ([]),0⟩ μ:=by
 intro xs
 induction xs with
 |nil =>
  intro k hx  o h C0 C1;have hk:=drop_nil hx;have hc:decide ((k:Int)<(Xrn.length:Int))=false:=Yf om;rw[X2a] at h;refine X2.round ?_;revert h;exact λe=>X7 [.el (aI .i64 (Xrn.length:Int)),Bf] (k:=wkT [] (C0  (oj e).symm))
 |cons x xs ih =>
  intro k hx  o h C0 C1;obtain⟨hk,hg,hx1⟩:=X12 hx;have hc:decide ((k:Int)<(Xrn.length:Int))=true:=Yt om;rw[X2a] at h;refine X2.round ?_;revert h;refine bI λo91 h92=>rnI [.el (aI .i64 (Xrn.length:Int)),Bt] ?_;intro h;refine wkT [] (X2.cut (Xdd Xrn (k:Int) _ _ _ h92 ?_ ?_))
  ·
   intro eo91;subst eo91;refine X2.glue ?_;try dsimp only at h
   revert h;exact λe=>X7 [] (k:=wkT [] (C1  (oj e).symm))
  intro eo91;subst eo91;refine X2.glue ?_;try dsimp only at h
  exact X7 [] (k:=wkT [] (ih (k+1) hx1  o h C0 C1))
instance Xrq:PCs Tryz.prog 128 (∀ (a0:(List Int)) (a1:Bool) (r:Int),X6n a0 a1=some r->X0i Tryz.prog 128 [(Lf (List.map (aI .i64) a0)),(aB a1)] (aI .i64 r)):=⟨λa0 a1 r h=>by
 refine X0i.sym X3 X04h (nt:=60) rfl rfl ?_ okM;unfold X6n at h;revert h;refine brI (λh1=>λe=>oj e▸X7 [.el (aI .i64 (a0.length:Int)),Bt] (k:=fi)) λh1=>bI λXz9 h7=>rnI [.el (aI .i64 (a0.length:Int)),Bf,.stop 3] ?_;intro h;refine X2.join (s':=⟨fr [(0,(Lf (List.map (aI .i64) a0))),(21,(aB Xz9))],hp ([]),0⟩) ?_ (λJ=>X2.cut ?_)
 ·
  revert h;refine brI (λh8=>λe=>oj e▸X7 [Bt] (k:=fi)) λh8=>bI λu9 h10=>?_;have qh10:=X13 h10;refine bI λo27 h28=>rnI [Bf] ?_;intro h;refine wkT [] (X2.cut (Xdf a0 qh10 a0 0 (by simp) _ h28 ?_ ?_))
  ·
   intro eo27;subst eo27;refine X2.glue ?_;try dsimp only at h
   revert h;refine bI λo93 h94=>rnI [] ?_;intro h;refine wkT [] (X2.cut (Xde a0 qh10 a0 0 (by simp) _ h94 ?_ ?_))
   ·
    intro eo93;subst eo93;refine X2.glue ?_;try dsimp only at h
    revert h;exact λe=>oj e▸X7 [] (k:=fi)
   intro eo93;subst eo93;refine X2.glue ?_;try dsimp only at h
   revert h;exact λe=>oj e▸X7 [] (k:=fi)
  intro eo27;subst eo27;refine X2.glue ?_;try dsimp only at h
  revert h;exact λe=>oj e▸X7 [] (k:=fi)
 clear h;revert h7;refine brI (λh5=>?_) λh5=>?_
 ·
  intro h;obtain rfl:=oj h;exact X7 [.el (aI .i64 (a0.length:Int)),Gf,Gf,Gf,Gf,Gf,Gf] (k:=wkT [] (X2.glue J))
 refine brI (λh6=>?_) λh6=>?_
 ·
  intro h;obtain rfl:=oj h;exact X7 [.el (aI .i64 (a0.length:Int)),Gt,Gt,Gt,Gt,.el (aI .i64 (a0.length:Int)),Gt,Gt] (k:=wkT [] (X2.glue J))
 intro h;obtain rfl:=oj h;exact X7 [.el (aI .i64 (a0.length:Int)),Gt,Gt,Gf,Gf,Gf,Gt] (k:=wkT [] (X2.glue J))⟩
instance Xw4:PCs Tryz.prog 129 (∀ (a0:X0l) (r:Bool),X7e a0=some r->X0i Tryz.prog 129 [(X33 a0)] (aB r)):=⟨λa0 r h=>by
 refine X0i.sym X3 X04g (nt:=45) rfl rfl ?_ okM;unfold X7e at h;revert h;exact brI (λh1=>λe=>oj e▸X7 [Bt] (k:=fi)) λh1=>brI (λh2=>λe=>oj e▸X7 [Bf,Bt,.wrap] (k:=fi)) λh2=>λe=>oj e▸X7 [Bf,Bf] (k:=fi)⟩
instance Xux:PCs Tryz.prog 86 (∀ (a0:X08) (r:Int),X99 a0=some r->X0i Tryz.prog 86 [(X06 false a0)] (aI .i64 r)):=⟨λa0 r h=>by
 refine X0i.sym X3 fn86 (nt:=80) rfl rfl ?_ okM;unfold X99 at h;revert h;refine brI (λh1=>λe=>oj e▸X7 [Bt] (k:=fi)) λh1=>bI λXzg h5=>rnI [Bf,.stop 3] ?_;intro h;refine X2.join (s':=⟨fr [(1,(AV.ptr 0 0 0)),(29,(aB Xzg))],hp ([(0,Ob [(X06 false a0)] 10)]),1⟩) ?_ (λJ=>X2.cut ?_)
 ·
  revert h;refine brI (λh6=>λe=>oj e▸X7 [Bt] (k:=fi)) λh6=>bI λXtp h14=>rnI [Bf,.stop 5] ?_;intro h;refine X2.join (s':=⟨fr [(1,(AV.ptr 0 0 0)),(38,(aB Xtp))],hp ([(0,Ob [(X06 false a0)] 10)]),1⟩) ?_ (λJ=>X2.cut ?_)
  ·
   revert h;refine brI (λh15=>bI λv16 h17=>λe=>oj e▸X7 [Bt,.pure _ (aI .i64 v16)] (k:=fi)) λh15=>bI λXmi h25=>rnI [Bf,.stop 7] ?_;intro h;refine X2.join (s':=⟨fr [(1,(AV.ptr 0 0 0)),(51,(aB Xmi))],hp ([(0,Ob [(X06 false a0)] 10)]),1⟩) ?_ (λJ=>X2.cut ?_)
   ·
    revert h;exact brI (λh26=>bI λv27 h28=>λe=>oj e▸X7 [Bt,.pure _ (aI .i64 v27)] (k:=fi)) λh26=>bI λv29 h30=>brI (λh31=>λe=>oj e▸X7 [Bf,.pure _ (aI .i64 v29),Bt,.pure _ (aI .i64 v29)] (k:=fi)) λh31=>bI λv32 h33=>brI (λh34=>λe=>oj e▸X7 [Bf,.pure _ (aI .i64 v29),Bf,.pure _ (aB v32),Bt] (k:=fi)) λh34=>λe=>oj e▸X7 [Bf,.pure _ (aI .i64 v29),Bf,.pure _ (aB v32),Bf] (k:=fi)
   clear h;revert h25;refine brI (λh22=>?_) λh22=>?_
   ·
    refine bI λv23 h24=>?_;intro h;obtain rfl:=oj h;exact X7 [.el (aI .i64 (a0.Where.length:Int)),Gt,Gt,Gt,.pure _ (aI .i64 v23),Gt] (k:=wkT [] (X2.glue J))
   intro h;obtain rfl:=oj h;exact X7 [.el (aI .i64 (a0.Where.length:Int)),Gf,Gf,Gf,Gf] (k:=wkT [] (X2.glue J))
  clear h;revert h14;refine brI (λh11=>?_) λh11=>?_
  ·
   refine bI λv12 h13=>?_;intro h;obtain rfl:=oj h;exact X7 [Gt,Gt,Gt,.pure _ (aI .i64 v12),Gt] (k:=wkT [] (X2.glue J))
  intro h;obtain rfl:=oj h;exact X7 [Gf,Gf,Gf,Gf] (k:=wkT [] (X2.glue J))
 clear h;revert h5;refine brI (λh4=>?_) λh4=>?_
 ·
  intro h;obtain rfl:=oj h;exact X7 [Gt,Gt,Gt,.el (aI .i64 (a0.Arg.length:Int)),Gt] (k:=wkT [] (X2.glue J))
 intro h;obtain rfl:=oj h;exact X7 [Gf,Gf,Gf,Gf] (k:=wkT [] (X2.glue J))⟩
instance Xuz:PCs Tryz.prog 176 (∀ (a0:Int) (r:Bool),X5z a0=some r->X0i Tryz.prog 176 [(aI .u8 a0)] (aB r)):=⟨λa0 r h=>by
 refine X0i.sym X3 X03r (nt:=9) rfl rfl ?_ okM;unfold X5z at h;revert h;exact λe=>oj e▸X7 [] (k:=fi)⟩
instance Xw5:PCs Tryz.prog 196 (∀ (a0:(List X05)) (a1:Int) (r:Bool),Xaj a0 a1=some r->X0i Tryz.prog 196 [(Lf (a0.map X4)),(aI .i64 a1)] (aB r)):=⟨λa0 a1 r h=>by
 refine X0i.sym X3 X03k (nt:=67) rfl rfl ?_ okM;unfold Xaj at h;revert h;refine bI λe1 h2=>?_;try have qh2:=Xo h2
 refine bI λe3 h4=>?_;try have qh4:=Xo h4
 refine bI λv5 h6=>bI λe7 h8=>?_;try have qh8:=Xo h8
 exact bI λv9 h10=>brI (λh11=>λe=>oj e▸X7 [.el (X4 e1),.el (X4 e3),.pure _ (aB v5),.el (X4 e7),.pure _ (aB v9),Bt] (k:=fi)) λh11=>brI (λh12=>λe=>oj e▸X7 [.el (X4 e1),.el (X4 e3),.pure _ (aB v5),.el (X4 e7),.pure _ (aB v9),Bf,Bt] (k:=fi)) λh12=>brI (λh13=>λe=>oj e▸X7 [.el (X4 e1),.el (X4 e3),.pure _ (aB v5),.el (X4 e7),.pure _ (aB v9),Bf,Bf,Bt] (k:=fi)) λh13=>brI (λh14=>λe=>oj e▸X7 [.el (X4 e1),.el (X4 e3),.pure _ (aB v5),.el (X4 e7),.pure _ (aB v9),Bf,Bf,Bf,Bt] (k:=fi)) λh14=>brI (λh15=>λe=>oj e▸X7 [.el (X4 e1),.el (X4 e3),.pure _ (aB v5),.el (X4 e7),.pure _ (aB v9),Bf,Bf,Bf,Bf,Bt] (k:=fi)) λh15=>λe=>oj e▸X7 [.el (X4 e1),.el (X4 e3),.pure _ (aB v5),.el (X4 e7),.pure _ (aB v9),Bf,Bf,Bf,Bf,Bf] (k:=fi)⟩
theorem Xex {Q:Xx->St->Mu->Prop} {μ:Mu} (X0u:(List X05)) (hl:X0u.length<=140737488355328):∀ (xs:List X05) (k:Nat) (hx:X0u.drop k=xs) (o:X5t) (h:X3l X0u xs k  = some o)
  (C0:o=X5t.x0->X2 Tryz.prog 17 0 Q (.exit (.exit 0)) [] ⟨fr [(0,(Lf (X0u.map X4)))],hp ([]),0⟩ μ)
  (C1:∀ (Xab:Int),o=X5t.x1 Xab->X2 Tryz.prog 17 0 Q (.exit .ret) [] ⟨fr [(2,(aI .i64 Xab))],hp ([]),0⟩ μ),
  X2 Tryz.prog 17 0 Q (.loop (X48 0 (Xa Tryz.f175))) [] ⟨fr [(0,(Lf (X0u.map X4))),(3,(aI .i64 (k:Int)))],hp ([]),0⟩ μ:=by
 intro xs
 induction xs with
 |nil =>
  intro k hx  o h C0 C1;have hk:=drop_nil hx;have hc:decide ((k:Int)<(X0u.length:Int))=false:=Yf om;rw[X3l] at h;refine X2.round ?_;revert h;exact λe=>X7 [.el (aI .i64 (X0u.length:Int)),Bf] (k:=wkT [] (C0  (oj e).symm))
 |cons x xs ih =>
  intro k hx  o h C0 C1;obtain⟨hk,hg,hx1⟩:=X12 hx;have hc:decide ((k:Int)<(X0u.length:Int))=true:=Yt om;rw[X3l] at h;refine X2.round ?_;revert h;refine bI λv10 h11=>brI (λh12=>λe=>X7 [.el (aI .i64 (X0u.length:Int)),Bt,.pure _ (aB v10),Bt] (k:=wkT [] (C1 _  (oj e).symm))) λh12=>rnI [.el (aI .i64 (X0u.length:Int)),Bt,.pure _ (aB v10),Bf] ?_;intro h;exact wkT [] (ih (k+1) hx1  o h C0 C1)
instance Xuy:PCs Tryz.prog 175 (∀ (a0:(List X05)) (r:Int),Xb0 a0=some r->X0i Tryz.prog 175 [(Lf (a0.map X4))] (aI .i64 r)):=⟨λa0 r h=>by
 refine X0i.sym X3 X03s (nt:=17) rfl rfl ?_ okM;unfold Xb0 at h;revert h;refine bI λu1 h2=>?_;have qh2:=X13 h2;refine bI λo13 h14=>rnI [] ?_;intro h;refine wkT [] (X2.cut (Xex a0 qh2 a0 0 (by simp) _ h14 ?_ ?_))
 ·
  intro eo13;subst eo13;refine X2.glue ?_;try dsimp only at h
  revert h;exact λe=>oj e▸X7 [.el (aI .i64 (a0.length:Int))] (k:=fi)
 intro Xab eo13;subst eo13;refine X2.glue ?_;try dsimp only at h
 revert h;exact λe=>oj e▸X7 [] (k:=fi)⟩
instance Xys:PCs Tryz.prog 156 (∀ (a0:(List X05)) (r:Bool×Int×Int),Xdy a0=some r->X0i Tryz.prog 156 [(Lf (a0.map X4))] (AV.tup [(aB r.1),(aI .i64 r.2.1),(aI .i64 r.2.2)])):=⟨λa0 r h=>by
 refine X0i.sym X3 X041 (nt:=29) rfl rfl ?_ okM;unfold Xdy at h;revert h;refine bI λv1 h2=>brI (λh3=>λe=>oj e▸X7 [.pure _ (aI .i64 v1),Bt,.pure _ (aI .i64 v1)] (k:=fi)) λh3=>bI λv4 h5=>brI (λh6=>λe=>oj e▸X7 [.pure _ (aI .i64 v1),Bf,.pure _ (aI .i64 v4),.el (aI .i64 (a0.length:Int)),Bt] (k:=fi)) λh6=>bI λe7 h8=>?_;try have qh8:=Xo h8
 exact bI λv9 h10=>λe=>oj e▸X7 [.pure _ (aI .i64 v1),Bf,.pure _ (aI .i64 v4),.el (aI .i64 (a0.length:Int)),Bf,.el (aI .i64 (a0.length:Int)),.wrap,.el (X4 e7),.pure _ (aB v9),.el (aI .i64 (a0.length:Int)),.wrap] (k:=fi)⟩
end Go.Av.Tryz