/- Printed by decomp.py: that the program computes the functions. -/
import Derived.Test.YtiabgnmhobiooaaDCert6Z
set_option linter.all false

namespace Go.Av.Try
open Go.Proofs Go.D
set_option maxRecDepth 10000
set_option maxHeartbeats 40000000
theorem Xbc {Q:Xr->St->Mu->Prop} {μ:Mu} (X0a:(List X1)) (hl:X0a.length<=140737488355328):∀ (xs:List X1) (k:Nat) (hx:X0a.drop k=xs) (Xi:(List Int)) (Xc:(List Int)) (X0n:Nb Xi) (Xk:Nb Xc) (o:X37) (h:X0u X0a xs k Xi Xc=some o)
  (C0:∀ (Xm:(List Int)) (Xs:(List Int)) (X0d:Nb Xm) (X0g:Nb Xs),o=X37.x0 Xm Xs->X4 Try.prog 102 0 Q (.exit (.exit 0)) [] ⟨fr [(0,(Lf (X0a.map X0))),(5,(slE X0d.1 0 (List.map (aI .i64) Xm))),(6,(slE X0g.1 1 (List.map (aI .i64) Xs)))],hp ([]++opE X0d.1 0 1 (List.map (aI .i64) Xm)++opE X0g.1 1 1 (List.map (aI .i64) Xs)),2⟩ μ)
  (C1:∀ (X00:(List Int)) (X4e:(List Int)) (X03:Nb X00) (X9j:Nb X4e),o=X37.x1 X00 X4e->X4 Try.prog 102 0 Q (.exit .ret) [] ⟨fr [(2,(slE X03.1 0 (List.map (aI .i64) X00))),(3,(slE X9j.1 1 (List.map (aI .i64) X4e))),(4,(aB false))],hp ([]++opE X03.1 0 1 (List.map (aI .i64) X00)++opE X9j.1 1 1 (List.map (aI .i64) X4e)),2⟩ μ),
  X4 Try.prog 102 0 Q (.loop (X5l 0 (Xe Try.f63))) [] ⟨fr [(0,(Lf (X0a.map X0))),(5,(slE X0n.1 0 (List.map (aI .i64) Xi))),(6,(slE Xk.1 1 (List.map (aI .i64) Xc))),(7,(aI .i64 (k:Int)))],hp ([]++opE X0n.1 0 1 (List.map (aI .i64) Xi)++opE Xk.1 1 1 (List.map (aI .i64) Xc)),2⟩ μ:=by
 intro xs
 induction xs with
 |nil =>
  intro k hx Xi Xc X0n Xk o h C0 C1;have hk:=drop_nil hx;have hc:decide ((k:Int)<(X0a.length:Int))=false:=Yf om;rw[X0u] at h;rcases X0n with ⟨_|_,X35⟩
  ·
   rcases Xk with ⟨_|_,X0i⟩
   ·
    refine X4.round ?_;revert h;exact λe=>Xa [.el (aI .i64 (X0a.length:Int)),Bf] (k:=wkT [] (C0 _ _  nbF nbF (oj e).symm))
   obtain rfl:=X0i rfl;refine X4.round ?_;revert h;exact λe=>Xa [.el (aI .i64 (X0a.length:Int)),Bf] (k:=wkT [] (C0 _ _  nbF nbS (oj e).symm))
  ·
   obtain rfl:=X35 rfl;rcases Xk with ⟨_|_,X0i⟩
   ·
    refine X4.round ?_;revert h;exact λe=>Xa [.el (aI .i64 (X0a.length:Int)),Bf] (k:=wkT [] (C0 _ _  nbS nbF (oj e).symm))
   ·
    obtain rfl:=X0i rfl;refine X4.round ?_;revert h;exact λe=>Xa [.el (aI .i64 (X0a.length:Int)),Bf] (k:=wkT [] (C0 _ _  nbS nbS (oj e).symm))
 |cons x xs ih =>
  intro k hx Xi Xc X0n Xk o h C0 C1;obtain⟨hk,hg,hx1⟩:=drop_cons hx;have hc:decide ((k:Int)<(X0a.length:Int))=true:=Yt om;rw[X0u] at h;rcases X0n with ⟨_|_,X35⟩
  ·
   rcases Xk with ⟨_|_,X0i⟩
   ·
    refine X4.round ?_;revert h;refine bI λv156 h157=>brI (λh158=>?_) λh158=>?_
    ·
     refine brI (λh159=>λe=>Xa [.el (aI .i64 (X0a.length:Int)),Bt,.el (X0 x),.pure _ (aI .i64 v156),Bt,.wrap,Bt] (k:=wkT [] (C1 _ _  nbS nbS (oj e).symm))) λh159=>bI λe160 h161=>?_;try have qh161:=Xf h161
     refine bI λe162 h163=>?_;try have qh163:=Xf h163
     refine rnI [.el (aI .i64 (X0a.length:Int)),Bt,.el (X0 x),.pure _ (aI .i64 v156),Bt,.wrap,Bf,.el (aI .i64 e160),.ld (aI .i64 e160),.wrap,.el (aI .i64 e160),.ld (aI .i64 e160),.wrap,.el (aI .i64 e162),.ld (aI .i64 e162),.wrap] ?_;refine brI (λh164=>?_) λh164=>?_
     ·
      refine brI (λh165=>λe=>Xa [Bt,Bt] (k:=wkT [] (C1 _ _  nbS nbS (oj e).symm))) λh165=>bI λe166 h167=>?_;try have qh167:=Xf h167
      refine bI λe168 h169=>?_;try have qh169:=Xf h169
      refine bI λv170 h171=>rnI [Bt,Bf,.el (aI .i64 e166),.ld (aI .i64 e166),.wrap,.el (aI .i64 e168),.ld (aI .i64 e168),.wrap,.el (X0 x),.pure _ (aB v170)] ?_;refine brI (λh172=>λe=>Xa [Bt] (k:=wkT [] (C1 _ _  nbS nbS (oj e).symm))) λh172=>?_;refine bI λu173 h174=>bI λu175 h176=>rnI [Bf,.no,.no] (o:=by repeat' first|apply Ya|exact pcM|(refine X0s h174 rfl ?_;first|(simp<;>omega)|(simp[hc,h158,h159,h164,h165,h172]<;>omega))|(refine Xw h174 (by decide) ?_;first|(simp<;>omega)|(simp[hc,h158,h159,h164,h165,h172]<;>omega))|(refine X0s h176 rfl ?_;first|(simp<;>omega)|(simp[hc,h158,h159,h164,h165,h172]<;>omega))|(refine Xw h176 (by decide) ?_;first|(simp<;>omega)|(simp[hc,h158,h159,h164,h165,h172]<;>omega))|exact Xy) ?_;intro h;exact wkT [(0,3),(1,5)] (ih (k+1) hx1 _ _ nbF nbF o h C0 C1)
     refine bI λv177 h178=>brI (λh179=>λe=>Xa [Bf,.el (X0 x),.pure _ (aB v177),Bt] (k:=wkT [] (C1 _ _  nbS nbS (oj e).symm))) λh179=>?_;refine bI λu180 h181=>bI λu182 h183=>rnI [Bf,.el (X0 x),.pure _ (aB v177),Bf,.no,.no] (o:=by repeat' first|apply Ya|exact pcM|(refine X0s h181 rfl ?_;first|(simp<;>omega)|(simp[hc,h158,h159,h164,h179]<;>omega))|(refine Xw h181 (by decide) ?_;first|(simp<;>omega)|(simp[hc,h158,h159,h164,h179]<;>omega))|(refine X0s h183 rfl ?_;first|(simp<;>omega)|(simp[hc,h158,h159,h164,h179]<;>omega))|(refine Xw h183 (by decide) ?_;first|(simp<;>omega)|(simp[hc,h158,h159,h164,h179]<;>omega))|exact Xy) ?_;intro h;exact wkT [(0,3),(1,5)] (ih (k+1) hx1 _ _ nbF nbF o h C0 C1)
    refine bI λv184 h185=>brI (λh186=>λe=>Xa [.el (aI .i64 (X0a.length:Int)),Bt,.el (X0 x),.pure _ (aI .i64 v156),Bf,.el (X0 x),.pure _ (aB v184),Bt] (k:=wkT [] (C1 _ _  nbS nbS (oj e).symm))) λh186=>?_;refine bI λu187 h188=>bI λu189 h190=>rnI [.el (aI .i64 (X0a.length:Int)),Bt,.el (X0 x),.pure _ (aI .i64 v156),Bf,.el (X0 x),.pure _ (aB v184),Bf,.no,.no] (o:=by repeat' first|apply Ya|exact pcM|(refine X0s h188 rfl ?_;first|(simp<;>omega)|(simp[hc,h158,h186]<;>omega))|(refine Xw h188 (by decide) ?_;first|(simp<;>omega)|(simp[hc,h158,h186]<;>omega))|(refine X0s h190 rfl ?_;first|(simp<;>omega)|(simp[hc,h158,h186]<;>omega))|(refine Xw h190 (by decide) ?_;first|(simp<;>omega)|(simp[hc,h158,h186]<;>omega))|exact Xy) ?_;intro h;exact wkT [(0,3),(1,5)] (ih (k+1) hx1 _ _ nbF nbF o h C0 C1)
   obtain rfl:=X0i rfl;refine X4.round ?_;revert h;refine bI λv191 h192=>brI (λh193=>?_) λh193=>?_
   ·
    refine brI (λh194=>λe=>Xa [.el (aI .i64 (X0a.length:Int)),Bt,.el (X0 x),.pure _ (aI .i64 v191),Bt,.wrap,Bt] (k:=wkT [] (C1 _ _  nbS nbS (oj e).symm))) λh194=>bI λe195 h196=>?_;try have qh196:=Xf h196
    refine bI λe197 h198=>?_;try have qh198:=Xf h198
    intro h
    first|exact absurd (h198) (by simp[getI];done)|(simp[getI,hc,h193,h194] at h;done)|(simp[hc,h193,h194] at hg;done)|exact absurd (h198) (by simp[getI,hc,h193,h194];done)
   refine bI λv199 h200=>brI (λh201=>λe=>Xa [.el (aI .i64 (X0a.length:Int)),Bt,.el (X0 x),.pure _ (aI .i64 v191),Bf,.el (X0 x),.pure _ (aB v199),Bt] (k:=wkT [] (C1 _ _  nbS nbS (oj e).symm))) λh201=>?_;refine bI λu202 h203=>bI λu204 h205=>rnI [.el (aI .i64 (X0a.length:Int)),Bt,.el (X0 x),.pure _ (aI .i64 v191),Bf,.el (X0 x),.pure _ (aB v199),Bf,.no,.no] (o:=by repeat' first|apply Ya|exact pcM|(refine X0s h203 rfl ?_;first|(simp<;>omega)|(simp[hc,h193,h201]<;>omega))|(refine Xw h203 (by decide) ?_;first|(simp<;>omega)|(simp[hc,h193,h201]<;>omega))|(refine X0s h205 rfl ?_;first|(simp<;>omega)|(simp[hc,h193,h201]<;>omega))|(refine Xw h205 (by decide) ?_;first|(simp<;>omega)|(simp[hc,h193,h201]<;>omega))|exact Xy) ?_;intro h;exact wkT [(0,3),(1,5)] (ih (k+1) hx1 _ _ nbF nbF o h C0 C1)
  obtain rfl:=X35 rfl;rcases Xk with ⟨_|_,X0i⟩<;>(try obtain rfl:=X0i rfl);all_goals
   refine X4.round ?_;revert h;refine bI λv206 h207=>brI (λh208=>?_) λh208=>?_
   ·
    refine brI (λh209=>λe=>Xa [.el (aI .i64 (X0a.length:Int)),Bt,.el (X0 x),.pure _ (aI .i64 v206),Bt,.wrap,Bt] (k:=wkT [] (C1 _ _  nbS nbS (oj e).symm))) λh209=>bI λe210 h211=>?_;try have qh211:=Xf h211
    intro h
    first|exact absurd (h211) (by simp[getI];done)|(simp[getI,hc,h208,h209] at h;done)|(simp[hc,h208,h209] at hg;done)|exact absurd (h211) (by simp[getI,hc,h208,h209];done)
   refine bI λv212 h213=>brI (λh214=>λe=>Xa [.el (aI .i64 (X0a.length:Int)),Bt,.el (X0 x),.pure _ (aI .i64 v206),Bf,.el (X0 x),.pure _ (aB v212),Bt] (k:=wkT [] (C1 _ _  nbS nbS (oj e).symm))) λh214=>?_;refine bI λu215 h216=>bI λu217 h218=>rnI [.el (aI .i64 (X0a.length:Int)),Bt,.el (X0 x),.pure _ (aI .i64 v206),Bf,.el (X0 x),.pure _ (aB v212),Bf,.no,.no] (o:=by repeat' first|apply Ya|exact pcM|(refine X0s h216 rfl ?_;first|(simp<;>omega)|(simp[hc,h208,h214]<;>omega))|(refine Xw h216 (by decide) ?_;first|(simp<;>omega)|(simp[hc,h208,h214]<;>omega))|(refine X0s h218 rfl ?_;first|(simp<;>omega)|(simp[hc,h208,h214]<;>omega))|(refine Xw h218 (by decide) ?_;first|(simp<;>omega)|(simp[hc,h208,h214]<;>omega))|exact Xy) ?_;intro h;exact wkT [(0,3),(1,5)] (ih (k+1) hx1 _ _ nbF nbF o h C0 C1)
instance Xo6:PCs Try.prog 63 (∀ (a0:(List X1)) (r:(List Int)×(List Int)×Bool),X4j a0=some r->X0f Try.prog 63 [(Lf (a0.map X0))] (AV.tup [(Lt (List.map (aI .i64) r.1)),(Lt (List.map (aI .i64) r.2.1)),(aB r.2.2)])):=⟨λa0 r h=>by
 refine X0f.sym X8 Xxd (nt:=102) rfl rfl ?_ okM;unfold X4j at h;revert h;refine bI λu1 h2=>?_;have qh2:=X1n h2;refine bI λo232 h233=>rnI [] ?_;intro h;refine wkT [] (X4.cut (Xbc a0 qh2 a0 0 (by simp) _ _ nbS nbS _ h233 ?_ ?_))
 ·
  intro Xm Xs X0d X0g eo232;subst eo232;refine X4.glue ?_;try dsimp only at h
  rcases X0d with ⟨_|_,X2x⟩
  ·
   rcases X0g with ⟨_|_,X2w⟩
   ·
    revert h;refine bI λXmh h241=>rnI [.stop 25] ?_;intro h;refine X4.join (s':=⟨fr [(2,(AV.ref 0 0 (Xm.length))),(3,(AV.ref 1 0 (Xs.length))),(4,(aB Xmh))],hp ([(0,Ob (List.map (aI .i64) Xm) 1),(1,Ob (List.map (aI .i64) Xs) 1)]),2⟩) ?_ (λJ=>X4.cut ?_)
    ·
     revert h;exact λe=>oj e▸Xa [] (k:=fi)
    clear h;revert h241;refine brI (λh238=>?_) λh238=>?_
    ·
     refine bI λe239 h240=>?_;try have qh240:=Xf h240
     intro h;obtain rfl:=oj h;exact Xa [.el (aI .i64 (a0.length:Int)),Gt,Gt,Gt,.el (aI .i64 (a0.length:Int)),Gt,.wrap,Gt,.el (aI .i64 e239),Gt,.ld (aI .i64 e239),Gt,Gt,.el (aI .i64 (a0.length:Int)),Gt] (k:=wkT [] (X4.glue J))
    intro h;obtain rfl:=oj h;exact Xa [.el (aI .i64 (a0.length:Int)),Gf,Gf,Gf,Gf,Gf,Gf,Gf,Gf,Gf,Gf] (k:=wkT [] (X4.glue J))
   obtain rfl:=X2w rfl;revert h;refine bI λXui h249=>rnI [.stop 25] ?_;intro h;refine X4.join (s':=⟨fr [(2,(AV.ref 0 0 (Xm.length))),(3,AV.nils),(4,(aB Xui))],hp ([(0,Ob (List.map (aI .i64) Xm) 1)]),2⟩) ?_ (λJ=>X4.cut ?_)
   ·
    revert h;exact λe=>oj e▸Xa [] (k:=fi)
   clear h;revert h249;refine brI (λh246=>?_) λh246=>?_
   ·
    refine bI λe247 h248=>?_;try have qh248:=Xf h248
    intro h;obtain rfl:=oj h;exact Xa [.el (aI .i64 (a0.length:Int)),Gt,Gt,Gt,.el (aI .i64 (a0.length:Int)),Gt,.wrap,Gt,.el (aI .i64 e247),Gt,.ld (aI .i64 e247),Gt,Gt,.el (aI .i64 (a0.length:Int)),Gt] (k:=wkT [] (X4.glue J))
   intro h;obtain rfl:=oj h;exact Xa [.el (aI .i64 (a0.length:Int)),Gf,Gf,Gf,Gf,Gf,Gf,Gf,Gf,Gf,Gf] (k:=wkT [] (X4.glue J))
  obtain rfl:=X2x rfl;rcases X0g with ⟨_|_,X2w⟩
  ·
   revert h;refine bI λXuh h257=>rnI [.stop 25] ?_;intro h;refine X4.join (s':=⟨fr [(2,AV.nils),(3,(AV.ref 1 0 (Xs.length))),(4,(aB Xuh))],hp ([(1,Ob (List.map (aI .i64) Xs) 1)]),2⟩) ?_ (λJ=>X4.cut ?_)
   ·
    revert h;exact λe=>oj e▸Xa [] (k:=fi)
   clear h;revert h257;refine brI (λh254=>?_) λh254=>?_
   ·
    refine bI λe255 h256=>?_;try have qh256:=Xf h256
    intro h
    first|exact absurd (h256) (by simp[getI];done)|(simp[getI,h254] at h;done)|(simp[h254] at hg;done)|exact absurd (h256) (by simp[getI,h254];done)
   intro h;obtain rfl:=oj h;exact Xa [.el (aI .i64 (a0.length:Int)),Gf,Gf,Gf,Gf,Gf,Gf,Gf,Gf,Gf,Gf] (k:=wkT [] (X4.glue J))
  obtain rfl:=X2w rfl;revert h;refine bI λXug h265=>rnI [.stop 25] ?_;intro h;refine X4.join (s':=⟨fr [(2,AV.nils),(3,AV.nils),(4,(aB Xug))],hp ([]),2⟩) ?_ (λJ=>X4.cut ?_)
  ·
   revert h;exact λe=>oj e▸Xa [] (k:=fi)
  clear h;revert h265;refine brI (λh262=>?_) λh262=>?_
  ·
   refine bI λe263 h264=>?_;try have qh264:=Xf h264
   intro h
   first|exact absurd (h264) (by simp[getI];done)|(simp[getI,h262] at h;done)|(simp[h262] at hg;done)|exact absurd (h264) (by simp[getI,h262];done)
  intro h;obtain rfl:=oj h;exact Xa [.el (aI .i64 (a0.length:Int)),Gf,Gf,Gf,Gf,Gf,Gf,Gf,Gf,Gf,Gf] (k:=wkT [] (X4.glue J))
 intro X00 X4e X03 X9j eo232;subst eo232;refine X4.glue ?_;try dsimp only at h
 rcases X03 with ⟨_|_,X2v⟩<;>(try obtain rfl:=X2v rfl);all_goals
  rcases X9j with ⟨_|_,Xk7⟩<;>(try obtain rfl:=Xk7 rfl);all_goals
   revert h;exact λe=>oj e▸Xa [] (k:=fi)⟩
instance Xo9:PCs Try.prog 41 (∀ (a0:(List X1)) (r:Int),X34 a0=some r->X0f Try.prog 41 [(Lf (a0.map X0))] (aI .i64 r)):=⟨λa0 r h=>by
 refine X0f.sym X8 Xxy (nt:=24) rfl rfl ?_ okM;unfold X34 at h;revert h;refine brI (λh1=>λe=>oj e▸Xa [.el (aI .i64 (a0.length:Int)),Bt] (k:=fi)) λh1=>bI λv2 h3=>rnI [.el (aI .i64 (a0.length:Int)),Bf,.pure _ (AV.tup [(Lt (List.map (aI .i64) v2.1)),(Lt (List.map (aI .i64) v2.2.1)),(aB v2.2.2)])] ?_;refine brI (λh4=>λe=>oj e▸Xa [Bt] (k:=fi)) λh4=>bI λe5 h6=>?_;try have qh6:=Xf h6
 exact brI (λh7=>λe=>oj e▸Xa [Bf,.el (aI .i64 (a0.length:Int)),.wrap,.el (aI .i64 e5),Bt] (k:=fi)) λh7=>λe=>oj e▸Xa [Bf,.el (aI .i64 (a0.length:Int)),.wrap,.el (aI .i64 e5),Bf] (k:=fi)⟩
theorem Xa5 {Q:Xr->St->Mu->Prop} {μ:Mu} (X0a:(List Int)) (hl:X0a.length<=140737488355328):∀ (xs:List Int) (k:Nat) (hx:X0a.drop k=xs) (o:X3f) (h:X1y X0a xs k  = some o)
  (C0:o=X3f.x0->X4 Try.prog 60 0 Q (.exit (.exit 0)) [] ⟨fr [(0,(Lf (List.map (aI .i64) X0a)))],hp ([]),0⟩ μ)
  (C1:o=X3f.x1->X4 Try.prog 60 0 Q (.exit .ret) [] ⟨fr [(4,(aI .i64 8))],hp ([]),0⟩ μ),
  X4 Try.prog 60 0 Q (.loop (X5l 0 (Xe Try.f42))) [] ⟨fr [(0,(Lf (List.map (aI .i64) X0a))),(5,(aI .i64 (k:Int)))],hp ([]),0⟩ μ:=by
 intro xs
 induction xs with
 |nil =>
  intro k hx  o h C0 C1;have hk:=drop_nil hx;have hc:decide ((k:Int)<(X0a.length:Int))=false:=Yf om;rw[X1y] at h;refine X4.round ?_;revert h;exact λe=>Xa [.el (aI .i64 (X0a.length:Int)),Bf] (k:=wkT [] (C0  (oj e).symm))
 |cons x xs ih =>
  intro k hx  o h C0 C1;obtain⟨hk,hg,hx1⟩:=drop_cons hx;have hc:decide ((k:Int)<(X0a.length:Int))=true:=Yt om;rw[X1y] at h;refine X4.round ?_;revert h;refine bI λXmg h25=>rnI [.el (aI .i64 (X0a.length:Int)),Bt,.stop 8] ?_;intro h;refine X4.join (s':=⟨fr [(0,(Lf (List.map (aI .i64) X0a))),(5,(aI .i64 (k:Int))),(39,(aB Xmg))],hp ([]),0⟩) ?_ (λJ=>X4.cut ?_)
  ·
   revert h;refine brI (λh26=>λe=>Xa [Bt] (k:=wkT [] (C1  (oj e).symm))) λh26=>rnI [Bf] ?_;intro h;exact wkT [] (ih (k+1) hx1  o h C0 C1)
  clear h;revert h25;refine brI (λh24=>?_) λh24=>?_
  ·
   intro h;obtain rfl:=oj h;exact Xa [.el (aI .i64 x),Gf,Gf,Gf,Gf,Gf] (k:=wkT [] (X4.glue J))
  intro h;obtain rfl:=oj h;exact Xa [.el (aI .i64 x),Gt,Gt,Gt,.el (aI .i64 x),Gt,Gt] (k:=wkT [] (X4.glue J))
theorem Xa3 {Q:Xr->St->Mu->Prop} {μ:Mu} (Xre:(List Int)) (Xrd:Int):∀ (n:Nat) (Xqm:Int) (o:X3d) (h:X1x Xre Xrd n Xqm=some o)
  (C0:o=X3d.x0->X4 Try.prog 60 0 Q (.exit .ret) [] ⟨fr [(4,(aI .i64 43))],hp ([]),0⟩ μ)
  (C1:o=X3d.x1->X4 Try.prog 60 0 Q (.exit (.exit 4)) [] ⟨fr [(0,(Lf (List.map (aI .i64) Xre))),(6,(aI .i64 Xrd))],hp ([]),0⟩ μ),
  X4 Try.prog 60 0 Q (.loop (X5l 2 (Xe Try.f42))) [] ⟨fr [(0,(Lf (List.map (aI .i64) Xre))),(6,(aI .i64 Xrd)),(7,(aI .i64 Xqm))],hp ([]),0⟩ μ:=by
 intro n
 induction n with
 |zero=>intro Xqm o h C0 C1;cases h
 |succ n ih =>
  intro Xqm o h C0 C1;rw[X1x] at h;refine X4.round ?_;revert h;refine brI (λh85=>?_) λh85=>λe=>Xa [Bf] (k:=wkT [] (C1  (oj e).symm));refine bI λe86 h87=>?_;try have qh87:=Xf h87
  refine bI λe88 h89=>?_;try have qh89:=Xf h89
  refine brI (λh90=>λe=>Xa [Bt,.el (aI .i64 e86),.el (aI .i64 e88),Bt] (k:=wkT [] (C0  (oj e).symm))) λh90=>rnI [Bt,.el (aI .i64 e86),.el (aI .i64 e88),Bf,.wrap] ?_;intro h;exact wkT [] (ih  _ o h C0 C1)
theorem Xa4 {Q:Xr->St->Mu->Prop} {μ:Mu} (Xkn:(List Int)) (hl:Xkn.length<=140737488355328):∀ (xs:List Int) (k:Nat) (hx:Xkn.drop k=xs) (o:X3e) (h:X1l Xkn xs k  = some o)
  (C0:o=X3e.x0->X4 Try.prog 60 0 Q (.exit (.exit 2)) [] ⟨fr [],hp ([]),0⟩ μ)
  (C1:o=X3e.x1->X4 Try.prog 60 0 Q (.exit .ret) [] ⟨fr [(4,(aI .i64 43))],hp ([]),0⟩ μ),
  X4 Try.prog 60 0 Q (.loop (X5l 1 (Xe Try.f42))) [] ⟨fr [(0,(Lf (List.map (aI .i64) Xkn))),(6,(aI .i64 (k:Int)))],hp ([]),0⟩ μ:=by
 intro xs
 induction xs with
 |nil =>
  intro k hx  o h C0 C1;have hk:=drop_nil hx;have hc:decide ((k:Int)<(Xkn.length:Int))=false:=Yf om;rw[X1l] at h;refine X4.round ?_;revert h;exact λe=>Xa [.el (aI .i64 (Xkn.length:Int)),Bf] (k:=wkT [] (C0  (oj e).symm))
 |cons x xs ih =>
  intro k hx  o h C0 C1;obtain⟨hk,hg,hx1⟩:=drop_cons hx;have hc:decide ((k:Int)<(Xkn.length:Int))=true:=Yt om;rw[X1l] at h;refine X4.round ?_;revert h;refine bI λo91 h92=>rnI [.el (aI .i64 (Xkn.length:Int)),Bt] ?_;intro h;refine wkT [] (X4.cut (Xa3 Xkn (k:Int) _ _ _ h92 ?_ ?_))
  ·
   intro eo91;subst eo91;refine X4.glue ?_;try dsimp only at h
   revert h;exact λe=>Xa [] (k:=wkT [] (C1  (oj e).symm))
  intro eo91;subst eo91;refine X4.glue ?_;try dsimp only at h
  exact Xa [] (k:=wkT [] (ih (k+1) hx1  o h C0 C1))
instance Xkp:PCs Try.prog 42 (∀ (a0:(List Int)) (a1:Bool) (r:Int),X4v a0 a1=some r->X0f Try.prog 42 [(Lf (List.map (aI .i64) a0)),(aB a1)] (aI .i64 r)):=⟨λa0 a1 r h=>by
 refine X0f.sym X8 Xxx (nt:=60) rfl rfl ?_ okM;unfold X4v at h;revert h;refine brI (λh1=>λe=>oj e▸Xa [.el (aI .i64 (a0.length:Int)),Bt] (k:=fi)) λh1=>bI λXsi h7=>rnI [.el (aI .i64 (a0.length:Int)),Bf,.stop 3] ?_;intro h;refine X4.join (s':=⟨fr [(0,(Lf (List.map (aI .i64) a0))),(21,(aB Xsi))],hp ([]),0⟩) ?_ (λJ=>X4.cut ?_)
 ·
  revert h;refine brI (λh8=>λe=>oj e▸Xa [Bt] (k:=fi)) λh8=>bI λu9 h10=>?_;have qh10:=X1n h10;refine bI λo27 h28=>rnI [Bf] ?_;intro h;refine wkT [] (X4.cut (Xa5 a0 qh10 a0 0 (by simp) _ h28 ?_ ?_))
  ·
   intro eo27;subst eo27;refine X4.glue ?_;try dsimp only at h
   revert h;refine bI λo93 h94=>rnI [] ?_;intro h;refine wkT [] (X4.cut (Xa4 a0 qh10 a0 0 (by simp) _ h94 ?_ ?_))
   ·
    intro eo93;subst eo93;refine X4.glue ?_;try dsimp only at h
    revert h;exact λe=>oj e▸Xa [] (k:=fi)
   intro eo93;subst eo93;refine X4.glue ?_;try dsimp only at h
   revert h;exact λe=>oj e▸Xa [] (k:=fi)
  intro eo27;subst eo27;refine X4.glue ?_;try dsimp only at h
  revert h;exact λe=>oj e▸Xa [] (k:=fi)
 clear h;revert h7;refine brI (λh5=>?_) λh5=>?_
 ·
  intro h;obtain rfl:=oj h;exact Xa [.el (aI .i64 (a0.length:Int)),Gf,Gf,Gf,Gf,Gf,Gf] (k:=wkT [] (X4.glue J))
 refine brI (λh6=>?_) λh6=>?_
 ·
  intro h;obtain rfl:=oj h;exact Xa [.el (aI .i64 (a0.length:Int)),Gt,Gt,Gt,Gt,.el (aI .i64 (a0.length:Int)),Gt,Gt] (k:=wkT [] (X4.glue J))
 intro h;obtain rfl:=oj h;exact Xa [.el (aI .i64 (a0.length:Int)),Gt,Gt,Gf,Gf,Gf,Gt] (k:=wkT [] (X4.glue J))⟩
instance Xp6:PCs Try.prog 43 (∀ (a0:X3) (r:Bool),X5e a0=some r->X0f Try.prog 43 [(X5o a0)] (aB r)):=⟨λa0 r h=>by
 refine X0f.sym X8 Xxw (nt:=45) rfl rfl ?_ okM;unfold X5e at h;revert h;exact brI (λh1=>λe=>oj e▸Xa [Bt] (k:=fi)) λh1=>brI (λh2=>λe=>oj e▸Xa [Bf,Bt,.wrap] (k:=fi)) λh2=>λe=>oj e▸Xa [Bf,Bf] (k:=fi)⟩
instance Xo2:PCs Try.prog 26 (∀ (a0:X2) (r:Int),X6v a0=some r->X0f Try.prog 26 [(X7 false a0)] (aI .i64 r)):=⟨λa0 r h=>by
 refine X0f.sym X8 Xyb (nt:=80) rfl rfl ?_ okM;unfold X6v at h;revert h;refine brI (λh1=>λe=>oj e▸Xa [Bt] (k:=fi)) λh1=>bI λXsp h5=>rnI [Bf,.stop 3] ?_;intro h;refine X4.join (s':=⟨fr [(1,(AV.ptr 0 0 0)),(29,(aB Xsp))],hp ([(0,Ob [(X7 false a0)] 10)]),1⟩) ?_ (λJ=>X4.cut ?_)
 ·
  revert h;refine brI (λh6=>λe=>oj e▸Xa [Bt] (k:=fi)) λh6=>bI λXmo h14=>rnI [Bf,.stop 5] ?_;intro h;refine X4.join (s':=⟨fr [(1,(AV.ptr 0 0 0)),(38,(aB Xmo))],hp ([(0,Ob [(X7 false a0)] 10)]),1⟩) ?_ (λJ=>X4.cut ?_)
  ·
   revert h;refine brI (λh15=>bI λv16 h17=>λe=>oj e▸Xa [Bt,.pure _ (aI .i64 v16)] (k:=fi)) λh15=>bI λXgv h25=>rnI [Bf,.stop 7] ?_;intro h;refine X4.join (s':=⟨fr [(1,(AV.ptr 0 0 0)),(51,(aB Xgv))],hp ([(0,Ob [(X7 false a0)] 10)]),1⟩) ?_ (λJ=>X4.cut ?_)
   ·
    revert h;exact brI (λh26=>bI λv27 h28=>λe=>oj e▸Xa [Bt,.pure _ (aI .i64 v27)] (k:=fi)) λh26=>bI λv29 h30=>brI (λh31=>λe=>oj e▸Xa [Bf,.pure _ (aI .i64 v29),Bt,.pure _ (aI .i64 v29)] (k:=fi)) λh31=>bI λv32 h33=>brI (λh34=>λe=>oj e▸Xa [Bf,.pure _ (aI .i64 v29),Bf,.pure _ (aB v32),Bt] (k:=fi)) λh34=>λe=>oj e▸Xa [Bf,.pure _ (aI .i64 v29),Bf,.pure _ (aB v32),Bf] (k:=fi)
   clear h;revert h25;refine brI (λh22=>?_) λh22=>?_
   ·
    refine bI λv23 h24=>?_;intro h;obtain rfl:=oj h;exact Xa [.el (aI .i64 (a0.Where.length:Int)),Gt,Gt,Gt,.pure _ (aI .i64 v23),Gt] (k:=wkT [] (X4.glue J))
   intro h;obtain rfl:=oj h;exact Xa [.el (aI .i64 (a0.Where.length:Int)),Gf,Gf,Gf,Gf] (k:=wkT [] (X4.glue J))
  clear h;revert h14;refine brI (λh11=>?_) λh11=>?_
  ·
   refine bI λv12 h13=>?_;intro h;obtain rfl:=oj h;exact Xa [Gt,Gt,Gt,.pure _ (aI .i64 v12),Gt] (k:=wkT [] (X4.glue J))
  intro h;obtain rfl:=oj h;exact Xa [Gf,Gf,Gf,Gf] (k:=wkT [] (X4.glue J))
 clear h;revert h5;refine brI (λh4=>?_) λh4=>?_
 ·
  intro h;obtain rfl:=oj h;exact Xa [Gt,Gt,Gt,.el (aI .i64 (a0.Arg.length:Int)),Gt] (k:=wkT [] (X4.glue J))
 intro h;obtain rfl:=oj h;exact Xa [Gf,Gf,Gf,Gf] (k:=wkT [] (X4.glue J))⟩
instance Xo4:PCs Try.prog 66 (∀ (a0:Int) (r:Bool),X3l a0=some r->X0f Try.prog 66 [(aI .u8 a0)] (aB r)):=⟨λa0 r h=>by
 refine X0f.sym X8 Xxa (nt:=9) rfl rfl ?_ okM;unfold X3l at h;revert h;exact λe=>oj e▸Xa [] (k:=fi)⟩
instance Xp7:PCs Try.prog 85 (∀ (a0:(List X1)) (a1:Int) (r:Bool),X7u a0 a1=some r->X0f Try.prog 85 [(Lf (a0.map X0)),(aI .i64 a1)] (aB r)):=⟨λa0 a1 r h=>by
 refine X0f.sym X8 Xwt (nt:=67) rfl rfl ?_ okM;unfold X7u at h;revert h;refine bI λe1 h2=>?_;try have qh2:=Xf h2
 refine bI λe3 h4=>?_;try have qh4:=Xf h4
 refine bI λv5 h6=>bI λe7 h8=>?_;try have qh8:=Xf h8
 exact bI λv9 h10=>brI (λh11=>λe=>oj e▸Xa [.el (X0 e1),.el (X0 e3),.pure _ (aB v5),.el (X0 e7),.pure _ (aB v9),Bt] (k:=fi)) λh11=>brI (λh12=>λe=>oj e▸Xa [.el (X0 e1),.el (X0 e3),.pure _ (aB v5),.el (X0 e7),.pure _ (aB v9),Bf,Bt] (k:=fi)) λh12=>brI (λh13=>λe=>oj e▸Xa [.el (X0 e1),.el (X0 e3),.pure _ (aB v5),.el (X0 e7),.pure _ (aB v9),Bf,Bf,Bt] (k:=fi)) λh13=>brI (λh14=>λe=>oj e▸Xa [.el (X0 e1),.el (X0 e3),.pure _ (aB v5),.el (X0 e7),.pure _ (aB v9),Bf,Bf,Bf,Bt] (k:=fi)) λh14=>brI (λh15=>λe=>oj e▸Xa [.el (X0 e1),.el (X0 e3),.pure _ (aB v5),.el (X0 e7),.pure _ (aB v9),Bf,Bf,Bf,Bf,Bt] (k:=fi)) λh15=>λe=>oj e▸Xa [.el (X0 e1),.el (X0 e3),.pure _ (aB v5),.el (X0 e7),.pure _ (aB v9),Bf,Bf,Bf,Bf,Bf] (k:=fi)⟩
theorem Xbb {Q:Xr->St->Mu->Prop} {μ:Mu} (X0a:(List X1)) (hl:X0a.length<=140737488355328):∀ (xs:List X1) (k:Nat) (hx:X0a.drop k=xs) (o:X49) (h:X2o X0a xs k  = some o)
  (C0:o=X49.x0->X4 Try.prog 17 0 Q (.exit (.exit 0)) [] ⟨fr [(0,(Lf (X0a.map X0)))],hp ([]),0⟩ μ)
  (C1:∀ (Xeq:Int),o=X49.x1 Xeq->X4 Try.prog 17 0 Q (.exit .ret) [] ⟨fr [(2,(aI .i64 Xeq))],hp ([]),0⟩ μ),
  X4 Try.prog 17 0 Q (.loop (X5l 0 (Xe Try.f65))) [] ⟨fr [(0,(Lf (X0a.map X0))),(3,(aI .i64 (k:Int)))],hp ([]),0⟩ μ:=by
 intro xs
 induction xs with
 |nil =>
  intro k hx  o h C0 C1;have hk:=drop_nil hx;have hc:decide ((k:Int)<(X0a.length:Int))=false:=Yf om;rw[X2o] at h;refine X4.round ?_;revert h;exact λe=>Xa [.el (aI .i64 (X0a.length:Int)),Bf] (k:=wkT [] (C0  (oj e).symm))
 |cons x xs ih =>
  intro k hx  o h C0 C1;obtain⟨hk,hg,hx1⟩:=drop_cons hx;have hc:decide ((k:Int)<(X0a.length:Int))=true:=Yt om;rw[X2o] at h;refine X4.round ?_;revert h;refine bI λv10 h11=>brI (λh12=>λe=>Xa [.el (aI .i64 (X0a.length:Int)),Bt,.pure _ (aB v10),Bt] (k:=wkT [] (C1 _  (oj e).symm))) λh12=>rnI [.el (aI .i64 (X0a.length:Int)),Bt,.pure _ (aB v10),Bf] ?_;intro h;exact wkT [] (ih (k+1) hx1  o h C0 C1)
instance Xo3:PCs Try.prog 65 (∀ (a0:(List X1)) (r:Int),X8a a0=some r->X0f Try.prog 65 [(Lf (a0.map X0))] (aI .i64 r)):=⟨λa0 r h=>by
 refine X0f.sym X8 Xxb (nt:=17) rfl rfl ?_ okM;unfold X8a at h;revert h;refine bI λu1 h2=>?_;have qh2:=X1n h2;refine bI λo13 h14=>rnI [] ?_;intro h;refine wkT [] (X4.cut (Xbb a0 qh2 a0 0 (by simp) _ h14 ?_ ?_))
 ·
  intro eo13;subst eo13;refine X4.glue ?_;try dsimp only at h
  revert h;exact λe=>oj e▸Xa [.el (aI .i64 (a0.length:Int))] (k:=fi)
 intro Xeq eo13;subst eo13;refine X4.glue ?_;try dsimp only at h
 revert h;exact λe=>oj e▸Xa [] (k:=fi)⟩
instance Xs2:PCs Try.prog 46 (∀ (a0:(List X1)) (r:Bool×Int×Int),X8b a0=some r->X0f Try.prog 46 [(Lf (a0.map X0))] (AV.tup [(aB r.1),(aI .i64 r.2.1),(aI .i64 r.2.2)])):=⟨λa0 r h=>by
 refine X0f.sym X8 Xxt (nt:=29) rfl rfl ?_ okM;unfold X8b at h;revert h;refine bI λv1 h2=>brI (λh3=>λe=>oj e▸Xa [.pure _ (aI .i64 v1),Bt,.pure _ (aI .i64 v1)] (k:=fi)) λh3=>bI λv4 h5=>brI (λh6=>λe=>oj e▸Xa [.pure _ (aI .i64 v1),Bf,.pure _ (aI .i64 v4),.el (aI .i64 (a0.length:Int)),Bt] (k:=fi)) λh6=>bI λe7 h8=>?_;try have qh8:=Xf h8
 exact bI λv9 h10=>λe=>oj e▸Xa [.pure _ (aI .i64 v1),Bf,.pure _ (aI .i64 v4),.el (aI .i64 (a0.length:Int)),Bf,.el (aI .i64 (a0.length:Int)),.wrap,.el (X0 e7),.pure _ (aB v9),.el (aI .i64 (a0.length:Int)),.wrap] (k:=fi)⟩
instance Xp8:PCs Try.prog 44 (∀ (a0:(List X1)) (a1:Bool) (r:Int×Int),X5f a0 a1=some r->X0f Try.prog 44 [(Lf (a0.map X0)),(aB a1)] (AV.tup [(aI .i64 r.1),(aI .i64 r.2)])):=⟨λa0 a1 r h=>by
 refine X0f.sym X8 Xxv (nt:=25) rfl rfl ?_ okM;unfold X5f at h;revert h;exact bI λv1 h2=>brI (λh3=>λe=>oj e▸Xa [.pure _ (AV.tup [(aB v1.1),(aI .i64 v1.2.1),(aI .i64 v1.2.2)]),Bt] (k:=fi)) λh3=>λe=>oj e▸Xa [.pure _ (AV.tup [(aB v1.1),(aI .i64 v1.2.1),(aI .i64 v1.2.2)]),Bf] (k:=fi)⟩
instance Xny:PCs Try.prog 27 (∀ (a0:X2) (r:Int×Int),X6t a0=some r->X0f Try.prog 27 [(X7 false a0)] (AV.tup [(aI .i64 r.1),(aI .i64 r.2)])):=⟨λa0 r h=>by
 refine X0f.sym X8 Xya (nt:=46) rfl rfl ?_ okM;unfold X6t at h;revert h;refine brI (λh1=>?_) λh1=>?_
 ·
  refine bI λv2 h3=>brI (λh4=>?_) λh4=>?_
  ·
   refine bI λe5 h6=>?_;try have qh6:=Xf h6
   exact λe=>oj e▸Xa [.el (aI .i64 (a0.Arg.length:Int)),Bt,.pure _ (AV.tup [(aI .i64 v2.1),(aI .i64 v2.2)]),Bt,.el (X0 e5)] (k:=fi)
  refine rnI [.el (aI .i64 (a0.Arg.length:Int)),Bt,.pure _ (AV.tup [(aI .i64 v2.1),(aI .i64 v2.2)]),Bf,.el (aI .i64 (a0.Where.length:Int))] ?_;refine brI (λh7=>?_) λh7=>λe=>oj e▸Xa [Bf] (k:=fi);refine bI λv8 h9=>brI (λh10=>?_) λh10=>λe=>oj e▸Xa [Bt,.pure _ (AV.tup [(aI .i64 v8.1),(aI .i64 v8.2)]),Bf] (k:=fi);refine bI λe11 h12=>?_;try have qh12:=Xf h12
  exact λe=>oj e▸Xa [Bt,.pure _ (AV.tup [(aI .i64 v8.1),(aI .i64 v8.2)]),Bt,.el (X0 e11)] (k:=fi)
 refine brI (λh13=>?_) λh13=>λe=>oj e▸Xa [.el (aI .i64 (a0.Arg.length:Int)),Bf,.el (aI .i64 (a0.Where.length:Int)),Bf] (k:=fi);refine bI λv14 h15=>rnI [.el (aI .i64 (a0.Arg.length:Int)),Bf,.el (aI .i64 (a0.Where.length:Int)),Bt,.pure _ (AV.tup [(aI .i64 v14.1),(aI .i64 v14.2)])] ?_;refine brI (λh16=>?_) λh16=>λe=>oj e▸Xa [Bf] (k:=fi);refine bI λe17 h18=>?_;try have qh18:=Xf h18
 exact λe=>oj e▸Xa [Bt,.el (X0 e17)] (k:=fi)⟩
instance Xo0:PCs Try.prog 14 (∀ (a0:X2) (r:Int×Int),X4h a0=some r->X0f Try.prog 14 [(X7 false a0)] (AV.tup [(aI .i64 r.1),(aI .i64 r.2)])):=⟨λa0 r h=>by
 refine X0f.sym X8 Xyn (nt:=13) rfl rfl ?_ okM;unfold X4h at h;revert h;exact bI λv1 h2=>brI (λh3=>λe=>oj e▸Xa [.pure _ (aI .i64 v1),Bt,.pure _ (aI .i64 v1)] (k:=fi)) λh3=>bI λv4 h5=>λe=>oj e▸Xa [.pure _ (aI .i64 v1),Bf,.pure _ (AV.tup [(aI .i64 v4.1),(aI .i64 v4.2)])] (k:=fi)⟩
end Go.Av.Try