/- Printed by decomp.py: that the program computes the functions. -/
import Derived.Test.YtmkegegjcihooaaGreatDCert10Z
set_option linter.all false

namespace Go.Av.Tryz
open Go.Proofs Go.D
set_option maxRecDepth 100000
set_option maxHeartbeats 40000000
theorem Xhn {Q:Xp->St->Mu->Prop} {μ:Mu} (Xov:(List Xv)) (hl:Xov.length<=140737488355328):∀ (xs:List Xv) (k:Nat) (hx:Xov.drop k=xs) (X87:(List Xg)) (o:X9w) (h:X2s Xov xs k X87=some o)
  (C0:∀ (X7t:(List Xg)),o=X9w.x0 X7t->X0 Tryz.prog 26 0 Q (.exit (.exit 0)) [] ⟨fr [(5,(Lt (X7t.map X1)))],hp ([]),0⟩ μ),
  X0 Tryz.prog 26 0 Q (.loop (X0w 0 (Xd Tryz.f13))) [] ⟨fr [(5,(Lt (X87.map X1))),(14,(Lf (List.map (Xa false) Xov))),(15,(aI .i64 (Xov.length:Int))),(16,(aI .i64 (k:Int)))],hp ([]),0⟩ μ:=by
 intro xs
 induction xs with
 |nil =>
  intro k hx X87 o h C0;have hk:=X06 hx;have hc:decide ((k:Int)<(Xov.length:Int))=false:=Yf om;rw[X2s] at h;refine X0.round ?_;revert h;exact λe=>X3 [Bf] (k:=wkT [] (C0 _  (oj e).symm))
 |cons x xs ih =>
  intro k hx X87 o h C0;obtain⟨hk,hg,hx1⟩:=Xy hx;have hc:decide ((k:Int)<(Xov.length:Int))=true:=Yt om;rw[X2s] at h;refine X0.round ?_;revert h;refine bI λv11 h12=>rnI [Bt,.el (Xa false x),.pure [(Lf (X87.map X1)),(Lf (x.Store.map X1)),(AV.fn 41 [])] (Lt (v11.map X1))] (o:=by repeat' first|apply Ya|exact pcM|exact(pn (X6r _ _ _ h12) (cc (X1c (X0p Xcg X87)) (cc (X1c (X0p Xcg x.Store)) (cc .fn0 cn))))|exact X04) ?_;intro h;exact wkT [] (ih (k+1) hx1 _ o h C0)
instance Xya:PCs Tryz.prog 13 (∀ (a0:Xf) (r:(List Xg)×Int),Xcq a0=some r->X05 Tryz.prog 13 [(Xc false a0)] (AV.tup [(Lt (r.1.map X1)),(aI .i64 r.2)])):=⟨λa0 r h=>by
 refine X05.sym X9 fn13 (nt:=26) rfl rfl ?_ okM;unfold Xcq at h;revert h;refine bI λv1 h2=>brI (λh3=>λe=>oj e▸X3 [.pure _ (aI .i64 v1),Bt] (k:=fi)) λh3=>rnI [.pure _ (aI .i64 v1),Bf,.el (aI .i64 (a0.Tasks.length:Int))] ?_;intro h;refine X0.nilsList 5 true rfl ?_;revert h;refine bI λu4 h5=>?_;have qh5:=X0l h5;refine bI λo13 h14=>rnI [] ?_;intro h;refine wkT [] (X0.cut (Xhn a0.Tasks qh5 a0.Tasks 0 (by simp) _ _ h14 ?_));intro X7t eo13;subst eo13;refine X0.glue ?_;try dsimp only at h
 revert h;exact λe=>oj e▸X3 [] (k:=fi)⟩
instance X01r:PCs Tryz.prog 290 (∀ (a0:Int) (r:Int),Xec a0=some r->X05 Tryz.prog 290 [(aI .u8 a0)] (aI .i64 r)):=⟨λa0 r h=>by
 refine X05.sym X9 X0c3 (nt:=7) rfl rfl ?_ okM;unfold Xec at h;revert h;exact brI (λh1=>λe=>oj e▸X3 [Bt] (k:=fi)) λh1=>brI (λh2=>λe=>oj e▸X3 [Bf,Bt] (k:=fi)) λh2=>λe=>oj e▸X3 [Bf,Bf] (k:=fi)⟩
instance X01p:PCs Tryz.prog 291 (∀ (a0:X02) (a1:Int) (a2:Int) (r:Bool),X7o a0 a1 a2=some r->X05 Tryz.prog 291 [(X2 a0),(aI .i64 a1),(aI .i64 a2)] (aB r)):=⟨λa0 a1 a2 r h=>by
 refine X05.sym X9 X0c2 (nt:=52) rfl rfl ?_ okM;unfold X7o at h;revert h;exact λe=>oj e▸X3 [] (k:=fi)⟩
theorem Xj7 {Q:Xp->St->Mu->Prop} {μ:Mu} (X08:(List X02)) (hl:X08.length<=140737488355328):∀ (xs:List X02) (k:Nat) (hx:X08.drop k=xs) (Xe:(List Int)) (Xj:(List Int)) (X1r:Nb Xe) (X01:Nb Xj) (o:X5h) (h:X1d X08 xs k Xe Xj=some o)
  (C0:∀ (Xz:(List Int)) (X0y:(List Int)) (X0f:Nb Xz) (X2k:Nb X0y),o=X5h.x0 Xz X0y->X0 Tryz.prog 102 0 Q (.exit (.exit 0)) [] ⟨fr [(0,(Lf (X08.map X2))),(5,(slE X0f.1 0 (List.map (aI .i64) Xz))),(6,(slE X2k.1 1 (List.map (aI .i64) X0y)))],hp ([]++opE X0f.1 0 1 (List.map (aI .i64) Xz)++opE X2k.1 1 1 (List.map (aI .i64) X0y)),2⟩ μ)
  (C1:∀ (X2o:(List Int)) (Xf2:(List Int)) (X2u:Nb X2o) (Xg4:Nb Xf2),o=X5h.x1 X2o Xf2->X0 Tryz.prog 102 0 Q (.exit .ret) [] ⟨fr [(2,(slE X2u.1 0 (List.map (aI .i64) X2o))),(3,(slE Xg4.1 1 (List.map (aI .i64) Xf2))),(4,(aB false))],hp ([]++opE X2u.1 0 1 (List.map (aI .i64) X2o)++opE Xg4.1 1 1 (List.map (aI .i64) Xf2)),2⟩ μ),
  X0 Tryz.prog 102 0 Q (.loop (X0w 0 (Xd Tryz.f259))) [] ⟨fr [(0,(Lf (X08.map X2))),(5,(slE X1r.1 0 (List.map (aI .i64) Xe))),(6,(slE X01.1 1 (List.map (aI .i64) Xj))),(7,(aI .i64 (k:Int)))],hp ([]++opE X1r.1 0 1 (List.map (aI .i64) Xe)++opE X01.1 1 1 (List.map (aI .i64) Xj)),2⟩ μ:=by
 intro xs
 induction xs with
 |nil =>
  intro k hx Xe Xj X1r X01 o h C0 C1;have hk:=X06 hx;have hc:decide ((k:Int)<(X08.length:Int))=false:=Yf om;rw[X1d] at h;rcases X1r with ⟨_|_,X6l⟩
  ·
   rcases X01 with ⟨_|_,X0x⟩
   ·
    refine X0.round ?_;revert h;exact λe=>X3 [.el (aI .i64 (X08.length:Int)),Bf] (k:=wkT [] (C0 _ _  nbF nbF (oj e).symm))
   obtain rfl:=X0x rfl;refine X0.round ?_;revert h;exact λe=>X3 [.el (aI .i64 (X08.length:Int)),Bf] (k:=wkT [] (C0 _ _  nbF nbS (oj e).symm))
  ·
   obtain rfl:=X6l rfl;rcases X01 with ⟨_|_,X0x⟩
   ·
    refine X0.round ?_;revert h;exact λe=>X3 [.el (aI .i64 (X08.length:Int)),Bf] (k:=wkT [] (C0 _ _  nbS nbF (oj e).symm))
   ·
    obtain rfl:=X0x rfl;refine X0.round ?_;revert h;exact λe=>X3 [.el (aI .i64 (X08.length:Int)),Bf] (k:=wkT [] (C0 _ _  nbS nbS (oj e).symm))
 |cons x xs ih =>
  intro k hx Xe Xj X1r X01 o h C0 C1;obtain⟨hk,hg,hx1⟩:=Xy hx;have hc:decide ((k:Int)<(X08.length:Int))=true:=Yt om;rw[X1d] at h;rcases X1r with ⟨_|_,X6l⟩
  ·
   rcases X01 with ⟨_|_,X0x⟩
   ·
    refine X0.round ?_;revert h;refine bI λv156 h157=>brI (λh158=>?_) λh158=>?_
    ·
     refine brI (λh159=>λe=>X3 [.el (aI .i64 (X08.length:Int)),Bt,.el (X2 x),.pure _ (aI .i64 v156),Bt,.wrap,Bt] (k:=wkT [] (C1 _ _  nbS nbS (oj e).symm))) λh159=>bI λe160 h161=>?_;try have qh161:=Xi h161
     refine bI λe162 h163=>?_;try have qh163:=Xi h163
     refine rnI [.el (aI .i64 (X08.length:Int)),Bt,.el (X2 x),.pure _ (aI .i64 v156),Bt,.wrap,Bf,.el (aI .i64 e160),.ld (aI .i64 e160),.wrap,.el (aI .i64 e160),.ld (aI .i64 e160),.wrap,.el (aI .i64 e162),.ld (aI .i64 e162),.wrap] ?_;refine brI (λh164=>?_) λh164=>?_
     ·
      refine brI (λh165=>λe=>X3 [Bt,Bt] (k:=wkT [] (C1 _ _  nbS nbS (oj e).symm))) λh165=>bI λe166 h167=>?_;try have qh167:=Xi h167
      refine bI λe168 h169=>?_;try have qh169:=Xi h169
      refine bI λv170 h171=>rnI [Bt,Bf,.el (aI .i64 e166),.ld (aI .i64 e166),.wrap,.el (aI .i64 e168),.ld (aI .i64 e168),.wrap,.el (X2 x),.pure _ (aB v170)] ?_;refine brI (λh172=>λe=>X3 [Bt] (k:=wkT [] (C1 _ _  nbS nbS (oj e).symm))) λh172=>?_;refine bI λu173 h174=>bI λu175 h176=>rnI [Bf,.no,.no] (o:=by repeat' first|apply Ya|exact pcM|(refine X1n h174 rfl ?_;first|(simp<;>omega)|(simp[hc,h158,h159,h164,h165,h172]<;>omega))|(refine X0h h174 (by decide) ?_;first|(simp<;>omega)|(simp[hc,h158,h159,h164,h165,h172]<;>omega))|(refine X1n h176 rfl ?_;first|(simp<;>omega)|(simp[hc,h158,h159,h164,h165,h172]<;>omega))|(refine X0h h176 (by decide) ?_;first|(simp<;>omega)|(simp[hc,h158,h159,h164,h165,h172]<;>omega))|exact X04) ?_;intro h;exact wkT [(0,3),(1,5)] (ih (k+1) hx1 _ _ nbF nbF o h C0 C1)
     refine bI λv177 h178=>brI (λh179=>λe=>X3 [Bf,.el (X2 x),.pure _ (aB v177),Bt] (k:=wkT [] (C1 _ _  nbS nbS (oj e).symm))) λh179=>?_;refine bI λu180 h181=>bI λu182 h183=>rnI [Bf,.el (X2 x),.pure _ (aB v177),Bf,.no,.no] (o:=by repeat' first|apply Ya|exact pcM|(refine X1n h181 rfl ?_;first|(simp<;>omega)|(simp[hc,h158,h159,h164,h179]<;>omega))|(refine X0h h181 (by decide) ?_;first|(simp<;>omega)|(simp[hc,h158,h159,h164,h179]<;>omega))|(refine X1n h183 rfl ?_;first|(simp<;>omega)|(simp[hc,h158,h159,h164,h179]<;>omega))|(refine X0h h183 (by decide) ?_;first|(simp<;>omega)|(simp[hc,h158,h159,h164,h179]<;>omega))|exact X04) ?_;intro h;exact wkT [(0,3),(1,5)] (ih (k+1) hx1 _ _ nbF nbF o h C0 C1)
    refine bI λv184 h185=>brI (λh186=>λe=>X3 [.el (aI .i64 (X08.length:Int)),Bt,.el (X2 x),.pure _ (aI .i64 v156),Bf,.el (X2 x),.pure _ (aB v184),Bt] (k:=wkT [] (C1 _ _  nbS nbS (oj e).symm))) λh186=>?_;refine bI λu187 h188=>bI λu189 h190=>rnI [.el (aI .i64 (X08.length:Int)),Bt,.el (X2 x),.pure _ (aI .i64 v156),Bf,.el (X2 x),.pure _ (aB v184),Bf,.no,.no] (o:=by repeat' first|apply Ya|exact pcM|(refine X1n h188 rfl ?_;first|(simp<;>omega)|(simp[hc,h158,h186]<;>omega))|(refine X0h h188 (by decide) ?_;first|(simp<;>omega)|(simp[hc,h158,h186]<;>omega))|(refine X1n h190 rfl ?_;first|(simp<;>omega)|(simp[hc,h158,h186]<;>omega))|(refine X0h h190 (by decide) ?_;first|(simp<;>omega)|(simp[hc,h158,h186]<;>omega))|exact X04) ?_;intro h;exact wkT [(0,3),(1,5)] (ih (k+1) hx1 _ _ nbF nbF o h C0 C1)
   obtain rfl:=X0x rfl;refine X0.round ?_;revert h;refine bI λv191 h192=>brI (λh193=>?_) λh193=>?_
   ·
    refine brI (λh194=>λe=>X3 [.el (aI .i64 (X08.length:Int)),Bt,.el (X2 x),.pure _ (aI .i64 v191),Bt,.wrap,Bt] (k:=wkT [] (C1 _ _  nbS nbS (oj e).symm))) λh194=>bI λe195 h196=>?_;try have qh196:=Xi h196
    refine bI λe197 h198=>?_;try have qh198:=Xi h198
    intro h
    first|exact absurd (h198) (by simp[X14];done)|(simp[X14,hc,h193,h194] at h;done)|(simp[hc,h193,h194] at hg;done)|exact absurd (h198) (by simp[X14,hc,h193,h194];done)
   refine bI λv199 h200=>brI (λh201=>λe=>X3 [.el (aI .i64 (X08.length:Int)),Bt,.el (X2 x),.pure _ (aI .i64 v191),Bf,.el (X2 x),.pure _ (aB v199),Bt] (k:=wkT [] (C1 _ _  nbS nbS (oj e).symm))) λh201=>?_;refine bI λu202 h203=>bI λu204 h205=>rnI [.el (aI .i64 (X08.length:Int)),Bt,.el (X2 x),.pure _ (aI .i64 v191),Bf,.el (X2 x),.pure _ (aB v199),Bf,.no,.no] (o:=by repeat' first|apply Ya|exact pcM|(refine X1n h203 rfl ?_;first|(simp<;>omega)|(simp[hc,h193,h201]<;>omega))|(refine X0h h203 (by decide) ?_;first|(simp<;>omega)|(simp[hc,h193,h201]<;>omega))|(refine X1n h205 rfl ?_;first|(simp<;>omega)|(simp[hc,h193,h201]<;>omega))|(refine X0h h205 (by decide) ?_;first|(simp<;>omega)|(simp[hc,h193,h201]<;>omega))|exact X04) ?_;intro h;exact wkT [(0,3),(1,5)] (ih (k+1) hx1 _ _ nbF nbF o h C0 C1)
  obtain rfl:=X6l rfl;rcases X01 with ⟨_|_,X0x⟩<;>(try obtain rfl:=X0x rfl);all_goals
   refine X0.round ?_;revert h;refine bI λv206 h207=>brI (λh208=>?_) λh208=>?_
   ·
    refine brI (λh209=>λe=>X3 [.el (aI .i64 (X08.length:Int)),Bt,.el (X2 x),.pure _ (aI .i64 v206),Bt,.wrap,Bt] (k:=wkT [] (C1 _ _  nbS nbS (oj e).symm))) λh209=>bI λe210 h211=>?_;try have qh211:=Xi h211
    intro h
    first|exact absurd (h211) (by simp[X14];done)|(simp[X14,hc,h208,h209] at h;done)|(simp[hc,h208,h209] at hg;done)|exact absurd (h211) (by simp[X14,hc,h208,h209];done)
   refine bI λv212 h213=>brI (λh214=>λe=>X3 [.el (aI .i64 (X08.length:Int)),Bt,.el (X2 x),.pure _ (aI .i64 v206),Bf,.el (X2 x),.pure _ (aB v212),Bt] (k:=wkT [] (C1 _ _  nbS nbS (oj e).symm))) λh214=>?_;refine bI λu215 h216=>bI λu217 h218=>rnI [.el (aI .i64 (X08.length:Int)),Bt,.el (X2 x),.pure _ (aI .i64 v206),Bf,.el (X2 x),.pure _ (aB v212),Bf,.no,.no] (o:=by repeat' first|apply Ya|exact pcM|(refine X1n h216 rfl ?_;first|(simp<;>omega)|(simp[hc,h208,h214]<;>omega))|(refine X0h h216 (by decide) ?_;first|(simp<;>omega)|(simp[hc,h208,h214]<;>omega))|(refine X1n h218 rfl ?_;first|(simp<;>omega)|(simp[hc,h208,h214]<;>omega))|(refine X0h h218 (by decide) ?_;first|(simp<;>omega)|(simp[hc,h208,h214]<;>omega))|exact X04) ?_;intro h;exact wkT [(0,3),(1,5)] (ih (k+1) hx1 _ _ nbF nbF o h C0 C1)
instance X01q:PCs Tryz.prog 259 (∀ (a0:(List X02)) (r:(List Int)×(List Int)×Bool),Xeb a0=some r->X05 Tryz.prog 259 [(Lf (a0.map X2))] (AV.tup [(Lt (List.map (aI .i64) r.1)),(Lt (List.map (aI .i64) r.2.1)),(aB r.2.2)])):=⟨λa0 r h=>by
 refine X05.sym X9 X0c6 (nt:=102) rfl rfl ?_ okM;unfold Xeb at h;revert h;refine bI λu1 h2=>?_;have qh2:=X0l h2;refine bI λo232 h233=>rnI [] ?_;intro h;refine wkT [] (X0.cut (Xj7 a0 qh2 a0 0 (by simp) _ _ nbS nbS _ h233 ?_ ?_))
 ·
  intro Xz X0y X0f X2k eo232;subst eo232;refine X0.glue ?_;try dsimp only at h
  rcases X0f with ⟨_|_,X4s⟩
  ·
   rcases X2k with ⟨_|_,Xa0⟩
   ·
    revert h;refine bI λXzf h241=>rnI [.stop 25] ?_;intro h;refine X0.join (s':=⟨fr [(2,(AV.ref 0 0 (Xz.length))),(3,(AV.ref 1 0 (X0y.length))),(4,(aB Xzf))],hp ([(0,Ob (List.map (aI .i64) Xz) 1),(1,Ob (List.map (aI .i64) X0y) 1)]),2⟩) ?_ (λJ=>X0.cut ?_)
    ·
     revert h;exact λe=>oj e▸X3 [] (k:=fi)
    clear h;revert h241;refine brI (λh238=>?_) λh238=>?_
    ·
     refine bI λe239 h240=>?_;try have qh240:=Xi h240
     intro h;obtain rfl:=oj h;exact X3 [.el (aI .i64 (a0.length:Int)),Gt,Gt,Gt,.el (aI .i64 (a0.length:Int)),Gt,.wrap,Gt,.el (aI .i64 e239),Gt,.ld (aI .i64 e239),Gt,Gt,.el (aI .i64 (a0.length:Int)),Gt] (k:=wkT [] (X0.glue J))
    intro h;obtain rfl:=oj h;exact X3 [.el (aI .i64 (a0.length:Int)),Gf,Gf,Gf,Gf,Gf,Gf,Gf,Gf,Gf,Gf] (k:=wkT [] (X0.glue J))
   obtain rfl:=Xa0 rfl;revert h;refine bI λX0ad h249=>rnI [.stop 25] ?_;intro h;refine X0.join (s':=⟨fr [(2,(AV.ref 0 0 (Xz.length))),(3,AV.nils),(4,(aB X0ad))],hp ([(0,Ob (List.map (aI .i64) Xz) 1)]),2⟩) ?_ (λJ=>X0.cut ?_)
   ·
    revert h;exact λe=>oj e▸X3 [] (k:=fi)
   clear h;revert h249;refine brI (λh246=>?_) λh246=>?_
   ·
    refine bI λe247 h248=>?_;try have qh248:=Xi h248
    intro h;obtain rfl:=oj h;exact X3 [.el (aI .i64 (a0.length:Int)),Gt,Gt,Gt,.el (aI .i64 (a0.length:Int)),Gt,.wrap,Gt,.el (aI .i64 e247),Gt,.ld (aI .i64 e247),Gt,Gt,.el (aI .i64 (a0.length:Int)),Gt] (k:=wkT [] (X0.glue J))
   intro h;obtain rfl:=oj h;exact X3 [.el (aI .i64 (a0.length:Int)),Gf,Gf,Gf,Gf,Gf,Gf,Gf,Gf,Gf,Gf] (k:=wkT [] (X0.glue J))
  obtain rfl:=X4s rfl;rcases X2k with ⟨_|_,Xa0⟩
  ·
   revert h;refine bI λX0ac h257=>rnI [.stop 25] ?_;intro h;refine X0.join (s':=⟨fr [(2,AV.nils),(3,(AV.ref 1 0 (X0y.length))),(4,(aB X0ac))],hp ([(1,Ob (List.map (aI .i64) X0y) 1)]),2⟩) ?_ (λJ=>X0.cut ?_)
   ·
    revert h;exact λe=>oj e▸X3 [] (k:=fi)
   clear h;revert h257;refine brI (λh254=>?_) λh254=>?_
   ·
    refine bI λe255 h256=>?_;try have qh256:=Xi h256
    intro h
    first|exact absurd (h256) (by simp[X14];done)|(simp[X14,h254] at h;done)|(simp[h254] at hg;done)|exact absurd (h256) (by simp[X14,h254];done)
   intro h;obtain rfl:=oj h;exact X3 [.el (aI .i64 (a0.length:Int)),Gf,Gf,Gf,Gf,Gf,Gf,Gf,Gf,Gf,Gf] (k:=wkT [] (X0.glue J))
  obtain rfl:=Xa0 rfl;revert h;refine bI λX0ab h265=>rnI [.stop 25] ?_;intro h;refine X0.join (s':=⟨fr [(2,AV.nils),(3,AV.nils),(4,(aB X0ab))],hp ([]),2⟩) ?_ (λJ=>X0.cut ?_)
  ·
   revert h;exact λe=>oj e▸X3 [] (k:=fi)
  clear h;revert h265;refine brI (λh262=>?_) λh262=>?_
  ·
   refine bI λe263 h264=>?_;try have qh264:=Xi h264
   intro h
   first|exact absurd (h264) (by simp[X14];done)|(simp[X14,h262] at h;done)|(simp[h262] at hg;done)|exact absurd (h264) (by simp[X14,h262];done)
  intro h;obtain rfl:=oj h;exact X3 [.el (aI .i64 (a0.length:Int)),Gf,Gf,Gf,Gf,Gf,Gf,Gf,Gf,Gf,Gf] (k:=wkT [] (X0.glue J))
 intro X2o Xf2 X2u Xg4 eo232;subst eo232;refine X0.glue ?_;try dsimp only at h
 rcases X2u with ⟨_|_,Xdw⟩<;>(try obtain rfl:=Xdw rfl);all_goals
  rcases Xg4 with ⟨_|_,Xvm⟩<;>(try obtain rfl:=Xvm rfl);all_goals
   revert h;exact λe=>oj e▸X3 [] (k:=fi)⟩
instance X01s:PCs Tryz.prog 220 (∀ (a0:(List X02)) (r:Int),X5a a0=some r->X05 Tryz.prog 220 [(Lf (a0.map X2))] (aI .i64 r)):=⟨λa0 r h=>by
 refine X05.sym X9 X0ci (nt:=24) rfl rfl ?_ okM;unfold X5a at h;revert h;refine brI (λh1=>λe=>oj e▸X3 [.el (aI .i64 (a0.length:Int)),Bt] (k:=fi)) λh1=>bI λv2 h3=>rnI [.el (aI .i64 (a0.length:Int)),Bf,.pure _ (AV.tup [(Lt (List.map (aI .i64) v2.1)),(Lt (List.map (aI .i64) v2.2.1)),(aB v2.2.2)])] ?_;refine brI (λh4=>λe=>oj e▸X3 [Bt] (k:=fi)) λh4=>bI λe5 h6=>?_;try have qh6:=Xi h6
 exact brI (λh7=>λe=>oj e▸X3 [Bf,.el (aI .i64 (a0.length:Int)),.wrap,.el (aI .i64 e5),Bt] (k:=fi)) λh7=>λe=>oj e▸X3 [Bf,.el (aI .i64 (a0.length:Int)),.wrap,.el (aI .i64 e5),Bf] (k:=fi)⟩
theorem Xh0 {Q:Xp->St->Mu->Prop} {μ:Mu} (X08:(List Int)) (hl:X08.length<=140737488355328):∀ (xs:List Int) (k:Nat) (hx:X08.drop k=xs) (o:X60) (h:X2z X08 xs k  = some o)
  (C0:o=X60.x0->X0 Tryz.prog 60 0 Q (.exit (.exit 0)) [] ⟨fr [(0,(Lf (List.map (aI .i64) X08)))],hp ([]),0⟩ μ)
  (C1:o=X60.x1->X0 Tryz.prog 60 0 Q (.exit .ret) [] ⟨fr [(4,(aI .i64 8))],hp ([]),0⟩ μ),
  X0 Tryz.prog 60 0 Q (.loop (X0w 0 (Xd Tryz.f221))) [] ⟨fr [(0,(Lf (List.map (aI .i64) X08))),(5,(aI .i64 (k:Int)))],hp ([]),0⟩ μ:=by
 intro xs
 induction xs with
 |nil =>
  intro k hx  o h C0 C1;have hk:=X06 hx;have hc:decide ((k:Int)<(X08.length:Int))=false:=Yf om;rw[X2z] at h;refine X0.round ?_;revert h;exact λe=>X3 [.el (aI .i64 (X08.length:Int)),Bf] (k:=wkT [] (C0  (oj e).symm))
 |cons x xs ih =>
  intro k hx  o h C0 C1;obtain⟨hk,hg,hx1⟩:=Xy hx;have hc:decide ((k:Int)<(X08.length:Int))=true:=Yt om;rw[X2z] at h;refine X0.round ?_;revert h;refine bI λXze h25=>rnI [.el (aI .i64 (X08.length:Int)),Bt,.stop 8] ?_;intro h;refine X0.join (s':=⟨fr [(0,(Lf (List.map (aI .i64) X08))),(5,(aI .i64 (k:Int))),(39,(aB Xze))],hp ([]),0⟩) ?_ (λJ=>X0.cut ?_)
  ·
   revert h;refine brI (λh26=>λe=>X3 [Bt] (k:=wkT [] (C1  (oj e).symm))) λh26=>rnI [Bf] ?_;intro h;exact wkT [] (ih (k+1) hx1  o h C0 C1)
  clear h;revert h25;refine brI (λh24=>?_) λh24=>?_
  ·
   intro h;obtain rfl:=oj h;exact X3 [.el (aI .i64 x),Gf,Gf,Gf,Gf,Gf] (k:=wkT [] (X0.glue J))
  intro h;obtain rfl:=oj h;exact X3 [.el (aI .i64 x),Gt,Gt,Gt,.el (aI .i64 x),Gt,Gt] (k:=wkT [] (X0.glue J))
theorem Xgy {Q:Xp->St->Mu->Prop} {μ:Mu} (y2_0:(List Int)) (y2_6:Int):∀ (n:Nat) (Xcj:Int) (o:X5y) (h:X2y y2_0 y2_6 n Xcj=some o)
  (C0:o=X5y.x0->X0 Tryz.prog 60 0 Q (.exit .ret) [] ⟨fr [(4,(aI .i64 43))],hp ([]),0⟩ μ)
  (C1:o=X5y.x1->X0 Tryz.prog 60 0 Q (.exit (.exit 4)) [] ⟨fr [(0,(Lf (List.map (aI .i64) y2_0))),(6,(aI .i64 y2_6))],hp ([]),0⟩ μ),
  X0 Tryz.prog 60 0 Q (.loop (X0w 2 (Xd Tryz.f221))) [] ⟨fr [(0,(Lf (List.map (aI .i64) y2_0))),(6,(aI .i64 y2_6)),(7,(aI .i64 Xcj))],hp ([]),0⟩ μ:=by
 intro n
 induction n with
 |zero=>intro Xcj o h C0 C1;cases h
 |succ n ih =>
  intro Xcj o h C0 C1;rw[X2y] at h;refine X0.round ?_;revert h;refine brI (λh85=>?_) λh85=>λe=>X3 [Bf] (k:=wkT [] (C1  (oj e).symm));refine bI λe86 h87=>?_;try have qh87:=Xi h87
  refine bI λe88 h89=>?_;try have qh89:=Xi h89
  refine brI (λh90=>λe=>X3 [Bt,.el (aI .i64 e86),.el (aI .i64 e88),Bt] (k:=wkT [] (C0  (oj e).symm))) λh90=>rnI [Bt,.el (aI .i64 e86),.el (aI .i64 e88),Bf,.wrap] ?_;intro h;exact wkT [] (ih  _ o h C0 C1)
theorem Xgz {Q:Xp->St->Mu->Prop} {μ:Mu} (Xwa:(List Int)) (hl:Xwa.length<=140737488355328):∀ (xs:List Int) (k:Nat) (hx:Xwa.drop k=xs) (o:X5z) (h:X2d Xwa xs k  = some o)
  (C0:o=X5z.x0->X0 Tryz.prog 60 0 Q (.exit (.exit 2)) [] ⟨fr [],hp ([]),0⟩ μ)
  (C1:o=X5z.x1->X0 Tryz.prog 60 0 Q (.exit .ret) [] ⟨fr [(4,(aI .i64 43))],hp ([]),0⟩ μ),
  X0 Tryz.prog 60 0 Q (.loop (X0w 1 (Xd Tryz.f221))) [] ⟨fr [(0,(Lf (List.map (aI .i64) Xwa))),(6,(aI .i64 (k:Int)))],hp ([]),0⟩ μ:=by
 intro xs
 induction xs with
 |nil =>
  intro k hx  o h C0 C1;have hk:=X06 hx;have hc:decide ((k:Int)<(Xwa.length:Int))=false:=Yf om;rw[X2d] at h;refine X0.round ?_;revert h;exact λe=>X3 [.el (aI .i64 (Xwa.length:Int)),Bf] (k:=wkT [] (C0  (oj e).symm))
 |cons x xs ih =>
  intro k hx  o h C0 C1;obtain⟨hk,hg,hx1⟩:=Xy hx;have hc:decide ((k:Int)<(Xwa.length:Int))=true:=Yt om;rw[X2d] at h;refine X0.round ?_;revert h;refine bI λo91 h92=>rnI [.el (aI .i64 (Xwa.length:Int)),Bt] ?_;intro h;refine wkT [] (X0.cut (Xgy Xwa (k:Int) _ _ _ h92 ?_ ?_))
  ·
   intro eo91;subst eo91;refine X0.glue ?_;try dsimp only at h
   revert h;exact λe=>X3 [] (k:=wkT [] (C1  (oj e).symm))
  intro eo91;subst eo91;refine X0.glue ?_;try dsimp only at h
  exact X3 [] (k:=wkT [] (ih (k+1) hx1  o h C0 C1))
instance Xwh:PCs Tryz.prog 221 (∀ (a0:(List Int)) (a1:Bool) (r:Int),X8y a0 a1=some r->X05 Tryz.prog 221 [(Lf (List.map (aI .i64) a0)),(aB a1)] (aI .i64 r)):=⟨λa0 a1 r h=>by
 refine X05.sym X9 X0ch (nt:=60) rfl rfl ?_ okM;unfold X8y at h;revert h;refine brI (λh1=>λe=>oj e▸X3 [.el (aI .i64 (a0.length:Int)),Bt] (k:=fi)) λh1=>bI λX079 h7=>rnI [.el (aI .i64 (a0.length:Int)),Bf,.stop 3] ?_;intro h;refine X0.join (s':=⟨fr [(0,(Lf (List.map (aI .i64) a0))),(21,(aB X079))],hp ([]),0⟩) ?_ (λJ=>X0.cut ?_)
 ·
  revert h;refine brI (λh8=>λe=>oj e▸X3 [Bt] (k:=fi)) λh8=>bI λu9 h10=>?_;have qh10:=X0l h10;refine bI λo27 h28=>rnI [Bf] ?_;intro h;refine wkT [] (X0.cut (Xh0 a0 qh10 a0 0 (by simp) _ h28 ?_ ?_))
  ·
   intro eo27;subst eo27;refine X0.glue ?_;try dsimp only at h
   revert h;refine bI λo93 h94=>rnI [] ?_;intro h;refine wkT [] (X0.cut (Xgz a0 qh10 a0 0 (by simp) _ h94 ?_ ?_))
   ·
    intro eo93;subst eo93;refine X0.glue ?_;try dsimp only at h
    revert h;exact λe=>oj e▸X3 [] (k:=fi)
   intro eo93;subst eo93;refine X0.glue ?_;try dsimp only at h
   revert h;exact λe=>oj e▸X3 [] (k:=fi)
  intro eo27;subst eo27;refine X0.glue ?_;try dsimp only at h
  revert h;exact λe=>oj e▸X3 [] (k:=fi)
 clear h;revert h7;refine brI (λh5=>?_) λh5=>?_
 ·
  intro h;obtain rfl:=oj h;exact X3 [.el (aI .i64 (a0.length:Int)),Gf,Gf,Gf,Gf,Gf,Gf] (k:=wkT [] (X0.glue J))
 refine brI (λh6=>?_) λh6=>?_
 ·
  intro h;obtain rfl:=oj h;exact X3 [.el (aI .i64 (a0.length:Int)),Gt,Gt,Gt,Gt,.el (aI .i64 (a0.length:Int)),Gt,Gt] (k:=wkT [] (X0.glue J))
 intro h;obtain rfl:=oj h;exact X3 [.el (aI .i64 (a0.length:Int)),Gt,Gt,Gf,Gf,Gf,Gt] (k:=wkT [] (X0.glue J))⟩
instance X035:PCs Tryz.prog 222 (∀ (a0:X5v) (r:Bool),X9u a0=some r->X05 Tryz.prog 222 [(Xa2 a0)] (aB r)):=⟨λa0 r h=>by
 refine X05.sym X9 X0cg (nt:=45) rfl rfl ?_ okM;unfold X9u at h;revert h;exact brI (λh1=>λe=>oj e▸X3 [Bt] (k:=fi)) λh1=>brI (λh2=>λe=>oj e▸X3 [Bf,Bt,.wrap] (k:=fi)) λh2=>λe=>oj e▸X3 [Bf,Bf] (k:=fi)⟩
instance X01m:PCs Tryz.prog 162 (∀ (a0:X1t) (r:Int),Xc8 a0=some r->X05 Tryz.prog 162 [(X22 false a0)] (aI .i64 r)):=⟨λa0 r h=>by
 refine X05.sym X9 X0d3 (nt:=80) rfl rfl ?_ okM;unfold Xc8 at h;revert h;refine brI (λh1=>λe=>oj e▸X3 [Bt] (k:=fi)) λh1=>bI λX07k h5=>rnI [Bf,.stop 3] ?_;intro h;refine X0.join (s':=⟨fr [(1,(AV.ptr 0 0 0)),(29,(aB X07k))],hp ([(0,Ob [(X22 false a0)] 10)]),1⟩) ?_ (λJ=>X0.cut ?_)
 ·
  revert h;refine brI (λh6=>λe=>oj e▸X3 [Bt] (k:=fi)) λh6=>bI λXzn h14=>rnI [Bf,.stop 5] ?_;intro h;refine X0.join (s':=⟨fr [(1,(AV.ptr 0 0 0)),(38,(aB Xzn))],hp ([(0,Ob [(X22 false a0)] 10)]),1⟩) ?_ (λJ=>X0.cut ?_)
  ·
   revert h;refine brI (λh15=>bI λv16 h17=>λe=>oj e▸X3 [Bt,.pure _ (aI .i64 v16)] (k:=fi)) λh15=>bI λXqx h25=>rnI [Bf,.stop 7] ?_;intro h;refine X0.join (s':=⟨fr [(1,(AV.ptr 0 0 0)),(51,(aB Xqx))],hp ([(0,Ob [(X22 false a0)] 10)]),1⟩) ?_ (λJ=>X0.cut ?_)
   ·
    revert h;exact brI (λh26=>bI λv27 h28=>λe=>oj e▸X3 [Bt,.pure _ (aI .i64 v27)] (k:=fi)) λh26=>bI λv29 h30=>brI (λh31=>λe=>oj e▸X3 [Bf,.pure _ (aI .i64 v29),Bt,.pure _ (aI .i64 v29)] (k:=fi)) λh31=>bI λv32 h33=>brI (λh34=>λe=>oj e▸X3 [Bf,.pure _ (aI .i64 v29),Bf,.pure _ (aB v32),Bt] (k:=fi)) λh34=>λe=>oj e▸X3 [Bf,.pure _ (aI .i64 v29),Bf,.pure _ (aB v32),Bf] (k:=fi)
   clear h;revert h25;refine brI (λh22=>?_) λh22=>?_
   ·
    refine bI λv23 h24=>?_;intro h;obtain rfl:=oj h;exact X3 [.el (aI .i64 (a0.Where.length:Int)),Gt,Gt,Gt,.pure _ (aI .i64 v23),Gt] (k:=wkT [] (X0.glue J))
   intro h;obtain rfl:=oj h;exact X3 [.el (aI .i64 (a0.Where.length:Int)),Gf,Gf,Gf,Gf] (k:=wkT [] (X0.glue J))
  clear h;revert h14;refine brI (λh11=>?_) λh11=>?_
  ·
   refine bI λv12 h13=>?_;intro h;obtain rfl:=oj h;exact X3 [Gt,Gt,Gt,.pure _ (aI .i64 v12),Gt] (k:=wkT [] (X0.glue J))
  intro h;obtain rfl:=oj h;exact X3 [Gf,Gf,Gf,Gf] (k:=wkT [] (X0.glue J))
 clear h;revert h5;refine brI (λh4=>?_) λh4=>?_
 ·
  intro h;obtain rfl:=oj h;exact X3 [Gt,Gt,Gt,.el (aI .i64 (a0.Arg.length:Int)),Gt] (k:=wkT [] (X0.glue J))
 intro h;obtain rfl:=oj h;exact X3 [Gf,Gf,Gf,Gf] (k:=wkT [] (X0.glue J))⟩
instance X01o:PCs Tryz.prog 293 (∀ (a0:Int) (r:Bool),X7n a0=some r->X05 Tryz.prog 293 [(aI .u8 a0)] (aB r)):=⟨λa0 r h=>by
 refine X05.sym X9 X0c0 (nt:=9) rfl rfl ?_ okM;unfold X7n at h;revert h;exact λe=>oj e▸X3 [] (k:=fi)⟩
instance X036:PCs Tryz.prog 313 (∀ (a0:(List X02)) (a1:Int) (r:Bool),Xds a0 a1=some r->X05 Tryz.prog 313 [(Lf (a0.map X2)),(aI .i64 a1)] (aB r)):=⟨λa0 a1 r h=>by
 refine X05.sym X9 X0bz (nt:=67) rfl rfl ?_ okM;unfold Xds at h;revert h;refine bI λe1 h2=>?_;try have qh2:=Xi h2
 refine bI λe3 h4=>?_;try have qh4:=Xi h4
 refine bI λv5 h6=>bI λe7 h8=>?_;try have qh8:=Xi h8
 exact bI λv9 h10=>brI (λh11=>λe=>oj e▸X3 [.el (X2 e1),.el (X2 e3),.pure _ (aB v5),.el (X2 e7),.pure _ (aB v9),Bt] (k:=fi)) λh11=>brI (λh12=>λe=>oj e▸X3 [.el (X2 e1),.el (X2 e3),.pure _ (aB v5),.el (X2 e7),.pure _ (aB v9),Bf,Bt] (k:=fi)) λh12=>brI (λh13=>λe=>oj e▸X3 [.el (X2 e1),.el (X2 e3),.pure _ (aB v5),.el (X2 e7),.pure _ (aB v9),Bf,Bf,Bt] (k:=fi)) λh13=>brI (λh14=>λe=>oj e▸X3 [.el (X2 e1),.el (X2 e3),.pure _ (aB v5),.el (X2 e7),.pure _ (aB v9),Bf,Bf,Bf,Bt] (k:=fi)) λh14=>brI (λh15=>λe=>oj e▸X3 [.el (X2 e1),.el (X2 e3),.pure _ (aB v5),.el (X2 e7),.pure _ (aB v9),Bf,Bf,Bf,Bf,Bt] (k:=fi)) λh15=>λe=>oj e▸X3 [.el (X2 e1),.el (X2 e3),.pure _ (aB v5),.el (X2 e7),.pure _ (aB v9),Bf,Bf,Bf,Bf,Bf] (k:=fi)⟩
theorem Xj6 {Q:Xp->St->Mu->Prop} {μ:Mu} (X08:(List X02)) (hl:X08.length<=140737488355328):∀ (xs:List X02) (k:Nat) (hx:X08.drop k=xs) (o:X7g) (h:X4h X08 xs k  = some o)
  (C0:o=X7g.x0->X0 Tryz.prog 17 0 Q (.exit (.exit 0)) [] ⟨fr [(0,(Lf (X08.map X2)))],hp ([]),0⟩ μ)
  (C1:∀ (X7s:Int),o=X7g.x1 X7s->X0 Tryz.prog 17 0 Q (.exit .ret) [] ⟨fr [(2,(aI .i64 X7s))],hp ([]),0⟩ μ),
  X0 Tryz.prog 17 0 Q (.loop (X0w 0 (Xd Tryz.f292))) [] ⟨fr [(0,(Lf (X08.map X2))),(3,(aI .i64 (k:Int)))],hp ([]),0⟩ μ:=by
 intro xs
 induction xs with
 |nil =>
  intro k hx  o h C0 C1;have hk:=X06 hx;have hc:decide ((k:Int)<(X08.length:Int))=false:=Yf om;rw[X4h] at h;refine X0.round ?_;revert h;exact λe=>X3 [.el (aI .i64 (X08.length:Int)),Bf] (k:=wkT [] (C0  (oj e).symm))
 |cons x xs ih =>
  intro k hx  o h C0 C1;obtain⟨hk,hg,hx1⟩:=Xy hx;have hc:decide ((k:Int)<(X08.length:Int))=true:=Yt om;rw[X4h] at h;refine X0.round ?_;revert h;refine bI λv10 h11=>brI (λh12=>λe=>X3 [.el (aI .i64 (X08.length:Int)),Bt,.pure _ (aB v10),Bt] (k:=wkT [] (C1 _  (oj e).symm))) λh12=>rnI [.el (aI .i64 (X08.length:Int)),Bt,.pure _ (aB v10),Bf] ?_;intro h;exact wkT [] (ih (k+1) hx1  o h C0 C1)
instance X01n:PCs Tryz.prog 292 (∀ (a0:(List X02)) (r:Int),Xea a0=some r->X05 Tryz.prog 292 [(Lf (a0.map X2))] (aI .i64 r)):=⟨λa0 r h=>by
 refine X05.sym X9 X0c1 (nt:=17) rfl rfl ?_ okM;unfold Xea at h;revert h;refine bI λu1 h2=>?_;have qh2:=X0l h2;refine bI λo13 h14=>rnI [] ?_;intro h;refine wkT [] (X0.cut (Xj6 a0 qh2 a0 0 (by simp) _ h14 ?_ ?_))
 ·
  intro eo13;subst eo13;refine X0.glue ?_;try dsimp only at h
  revert h;exact λe=>oj e▸X3 [.el (aI .i64 (a0.length:Int))] (k:=fi)
 intro X7s eo13;subst eo13;refine X0.glue ?_;try dsimp only at h
 revert h;exact λe=>oj e▸X3 [] (k:=fi)⟩
instance X06i:PCs Tryz.prog 260 (∀ (a0:(List X02)) (r:Bool×Int×Int),Xhl a0=some r->X05 Tryz.prog 260 [(Lf (a0.map X2))] (AV.tup [(aB r.1),(aI .i64 r.2.1),(aI .i64 r.2.2)])):=⟨λa0 r h=>by
 refine X05.sym X9 X0c5 (nt:=29) rfl rfl ?_ okM;unfold Xhl at h;revert h;refine bI λv1 h2=>brI (λh3=>λe=>oj e▸X3 [.pure _ (aI .i64 v1),Bt,.pure _ (aI .i64 v1)] (k:=fi)) λh3=>bI λv4 h5=>brI (λh6=>λe=>oj e▸X3 [.pure _ (aI .i64 v1),Bf,.pure _ (aI .i64 v4),.el (aI .i64 (a0.length:Int)),Bt] (k:=fi)) λh6=>bI λe7 h8=>?_;try have qh8:=Xi h8
 exact bI λv9 h10=>λe=>oj e▸X3 [.pure _ (aI .i64 v1),Bf,.pure _ (aI .i64 v4),.el (aI .i64 (a0.length:Int)),Bf,.el (aI .i64 (a0.length:Int)),.wrap,.el (X2 e7),.pure _ (aB v9),.el (aI .i64 (a0.length:Int)),.wrap] (k:=fi)⟩
instance X037:PCs Tryz.prog 223 (∀ (a0:(List X02)) (a1:Bool) (r:Int×Int),X9v a0 a1=some r->X05 Tryz.prog 223 [(Lf (a0.map X2)),(aB a1)] (AV.tup [(aI .i64 r.1),(aI .i64 r.2)])):=⟨λa0 a1 r h=>by
 refine X05.sym X9 X0cf (nt:=25) rfl rfl ?_ okM;unfold X9v at h;revert h;exact bI λv1 h2=>brI (λh3=>λe=>oj e▸X3 [.pure _ (AV.tup [(aB v1.1),(aI .i64 v1.2.1),(aI .i64 v1.2.2)]),Bt] (k:=fi)) λh3=>λe=>oj e▸X3 [.pure _ (AV.tup [(aB v1.1),(aI .i64 v1.2.1),(aI .i64 v1.2.2)]),Bf] (k:=fi)⟩
end Go.Av.Tryz