/- Printed by decomp.py: that the program computes the functions. -/
import Derived.Test.YtdpeaabenapeaaaGreatDCert4Z
set_option linter.all false

namespace Go.Av.Tryz
open Go.Proofs Go.D
set_option maxRecDepth 10000
set_option maxHeartbeats 40000000
theorem Xh5 {Q:Xx->St->Mu->Prop} {μ:Mu} (Xb:(V5 Int)) (X6q:(List Xu)) (hl:X6q.length<=140737488355328):∀ (xs:List Xu) (k:Nat) (hx:X6q.drop k=xs) (Xc:(List Int)) (Xp:Nb Xc) (o:X78) (h:X4o Xb X6q xs k Xc=some o)
  (C0:∀ (Xo:(List Int)) (Xz:Nb Xo),o=X78.x0 Xo->X2 Tryz.prog 80 0 Q (.exit (.exit 0)) [] ⟨fr [(8,(slE Xz.1 0 (List.map (aI .i64) Xo)))],hp ([]++opE Xz.1 0 1 (List.map (aI .i64) Xo)),1⟩ μ)
  (C1:∀ (X00:(List Int)) (X9h:Int) (Xy:Nb X00),o=X78.x1 X00 X9h->X2 Tryz.prog 80 0 Q (.exit .ret) [] ⟨fr [(4,(slE Xy.1 0 (List.map (aI .i64) X00))),(5,(aI .i64 X9h))],hp ([]++opE Xy.1 0 1 (List.map (aI .i64) X00)),1⟩ μ),
  X2 Tryz.prog 80 0 Q (.loop (X41 0 (Xh Tryz.f54))) [] ⟨fr [(7,(AV.ptr 0 0 0)),(8,(slE Xp.1 1 (List.map (aI .i64) Xc))),(28,(Lf (X6q.map X4))),(29,(aI .i64 (X6q.length:Int))),(30,(aI .i64 (k:Int)))],hp ([(0,Ob [(X7w Xb)] 5)]++opE Xp.1 1 1 (List.map (aI .i64) Xc)),2⟩ μ:=by
 intro xs
 induction xs with
 |nil =>
  intro k hx Xc Xp o h C0 C1;have hk:=X11 hx;have hc:decide ((k:Int)<(X6q.length:Int))=false:=Yf om;rw[X4o] at h;rcases Xp with ⟨_|_,X02⟩
  ·
   refine X2.round ?_;revert h;exact λe=>X8 [Bf] (k:=wkT [(0,1)] (C0 _  nbF (oj e).symm))
  ·
   obtain rfl:=X02 rfl;refine X2.round ?_;revert h;exact λe=>X8 [Bf] (k:=wkT [] (C0 _  nbS (oj e).symm))
 |cons x xs ih =>
  intro k hx Xc Xp o h C0 C1;obtain⟨hk,hg,hx1⟩:=X0f hx;have hc:decide ((k:Int)<(X6q.length:Int))=true:=Yt om;rw[X4o] at h;rcases Xp with ⟨_|_,X02⟩
  ·
   refine X2.round ?_;revert h;refine brI (λh150=>?_) λh150=>?_
   ·
    refine bI λe151 h152=>?_;try have qh152:=Xl h152
    refine rnI [Bt,.el (X4 x),Bt,.el (aI .i64 e151),.ld (aI .i64 e151)] (o:=by repeat' first|apply Ya|exact pcM|exact(List.getElem?_set_self (by have hq:=X1j h152;simp;omega)).trans rfl|exact X05) ?_;intro h;exact wkT [] (ih (k+1) hx1 _ nbF o h C0 C1)
   refine brI (λh153=>?_) λh153=>?_
   ·
    refine bI λXgy h179=>rnI [Bt,.el (X4 x),Bf,Bt,.stop 16] ?_;intro h;refine X2.joinF (λ(q:Nb Xgy)=>⟨fr [(7,(AV.ptr 0 0 0)),(8,(slE q.1 1 (List.map (aI .i64) Xgy))),(28,(Lf (X6q.map X4))),(29,(aI .i64 (X6q.length:Int))),(30,(aI .i64 (k:Int)))],hp ([(0,Ob [(X7w Xb)] 5)]++opE q.1 1 1 (List.map (aI .i64) Xgy)),2⟩) ?_ (λJ=>X2.cut ?_)
    ·
     rintro Xq2;rcases Xq2 with ⟨_|_,Xqw⟩
     ·
      exact X8 [] (k:=wkT [] (ih (k+1) hx1 _ nbF o h C0 C1))
     obtain rfl:=Xqw rfl;exact X8 [] (k:=wkT [] (ih (k+1) hx1 _ nbS o h C0 C1))
    clear h;revert h179;refine brI (λh167=>?_) λh167=>?_
    ·
     refine bI λe168 h169=>?_;try have qh169:=Xl h169
     intro h;obtain rfl:=oj h;exact X8 [.ix 0,.el (aI .i64 e168),.ld (aI .i64 e168)] (o:=by repeat' first|apply Ya|exact pcM|exact((eq_of_beq h167))|exact(List.getElem?_set_self (by have hq:=X1j h169;simp;omega)).trans rfl|exact X05) (k:=wkT [] (X2.glue (J nbF)))
    refine brI (λh170=>?_) λh170=>?_
    ·
     refine bI λe171 h172=>?_;try have qh172:=Xl h172
     intro h;obtain rfl:=oj h;exact X8 [.ix 2,.el (aI .i64 e171),.ld (aI .i64 e171)] (o:=by repeat' first|apply Ya|exact pcM|exact((eq_of_beq h170))|exact(List.getElem?_set_self (by have hq:=X1j h172;simp;omega)).trans rfl|exact X05) (k:=wkT [] (X2.glue (J nbF)))
    refine brI (λh173=>?_) λh173=>?_
    ·
     refine bI λe174 h175=>?_;try have qh175:=Xl h175
     intro h;obtain rfl:=oj h;exact X8 [.ix 3,.el (aI .i64 e174),.ld (aI .i64 e174)] (o:=by repeat' first|apply Ya|exact pcM|exact((eq_of_beq h173))|exact(List.getElem?_set_self (by have hq:=X1j h175;simp;omega)).trans rfl|exact X05) (k:=wkT [] (X2.glue (J nbF)))
    refine brI (λh176=>?_) λh176=>?_
    ·
     refine bI λe177 h178=>?_;try have qh178:=Xl h178
     intro h;obtain rfl:=oj h;exact X8 [.ix 4,.el (aI .i64 e177),.ld (aI .i64 e177)] (o:=by repeat' first|apply Ya|exact pcM|exact((eq_of_beq h176))|exact(List.getElem?_set_self (by have hq:=X1j h178;simp;omega)).trans rfl|exact X05) (k:=wkT [] (X2.glue (J nbF)))
    intro h;cases h
   refine bI λe180 h181=>?_;try have qh181:=Xl h181
   refine bI λe182 h183=>?_;try have qh183:=Xl h183
   refine bI λv184 h185=>rnI [Bt,.el (X4 x),Bf,Bf,.el (aI .i64 e180),.ld (aI .i64 e180),.el (aI .i64 e182),.ld (aI .i64 e182),.pure _ (AV.tup [(aI .i64 v184.1),(aI .i64 v184.2)])] ?_;refine brI (λh186=>λe=>X8 [Bt] (k:=wkT [] (C1 _ _  nbS (oj e).symm))) λh186=>bI λe187 h188=>?_;try have qh188:=Xl h188
   refine rnI [Bf,.el (aI .i64 e187),.ld (aI .i64 e187)] (o:=by repeat' first|apply Ya|exact pcM|exact(List.getElem?_set_self (by have hq:=X1j h188;simp;omega)).trans rfl|exact X05) ?_;intro h;exact wkT [] (ih (k+1) hx1 _ nbF o h C0 C1)
  obtain rfl:=X02 rfl;refine X2.round ?_;revert h;refine brI (λh189=>?_) λh189=>?_
  ·
   refine bI λe190 h191=>?_;try have qh191:=Xl h191
   intro h
   first|exact absurd (h191) (by simp[X0u];done)|(simp[X0u,hc,h189] at h;done)|(simp[hc,h189] at hg;done)|exact absurd (h191) (by simp[X0u,hc,h189];done)
  refine brI (λh192=>?_) λh192=>?_
  ·
   refine bI λ_ h205=>?_;intro h;clear h;have h:=h205;revert h;refine brI (λh206=>?_) λh206=>?_
   ·
    refine bI λe207 h208=>?_;try have qh208:=Xl h208
    intro h
    first|exact absurd (h208) (by simp[X0u];done)|(simp[X0u,hc,h189,h192,h206] at h;done)|(simp[hc,h189,h192,h206] at hg;done)|exact absurd (h208) (by simp[X0u,hc,h189,h192,h206];done)
   refine brI (λh209=>?_) λh209=>?_
   ·
    refine bI λe210 h211=>?_;try have qh211:=Xl h211
    intro h
    first|exact absurd (h211) (by simp[X0u];done)|(simp[X0u,hc,h189,h192,h206,h209] at h;done)|(simp[hc,h189,h192,h206,h209] at hg;done)|exact absurd (h211) (by simp[X0u,hc,h189,h192,h206,h209];done)
   refine brI (λh212=>?_) λh212=>?_
   ·
    refine bI λe213 h214=>?_;try have qh214:=Xl h214
    intro h
    first|exact absurd (h214) (by simp[X0u];done)|(simp[X0u,hc,h189,h192,h206,h209,h212] at h;done)|(simp[hc,h189,h192,h206,h209,h212] at hg;done)|exact absurd (h214) (by simp[X0u,hc,h189,h192,h206,h209,h212];done)
   refine brI (λh215=>?_) λh215=>?_
   ·
    refine bI λe216 h217=>?_;try have qh217:=Xl h217
    intro h
    first|exact absurd (h217) (by simp[X0u];done)|(simp[X0u,hc,h189,h192,h206,h209,h212,h215] at h;done)|(simp[hc,h189,h192,h206,h209,h212,h215] at hg;done)|exact absurd (h217) (by simp[X0u,hc,h189,h192,h206,h209,h212,h215];done)
   intro h;cases h
  refine bI λe218 h219=>?_;try have qh219:=Xl h219
  intro h
  first|exact absurd (h219) (by simp[X0u];done)|(simp[X0u,hc,h189,h192] at h;done)|(simp[hc,h189,h192] at hg;done)|exact absurd (h219) (by simp[X0u,hc,h189,h192];done)
theorem Xen {Q:Xx->St->Mu->Prop} {μ:Mu} (Xb:(V5 Int)) (X6q:(List Xu)) (hl:X6q.length<=140737488355328):∀ (xs:List Xu) (k:Nat) (hx:X6q.drop k=xs) (Xc:(List Int)) (o:X5h) (h:X1h Xb X6q xs k Xc=some o)
  (C0:∀ (Xo:(List Int)),o=X5h.x0 Xo->X2 Tryz.prog 80 0 Q (.exit (.exit 0)) [] ⟨fr [(8,(AV.ref 0 0 (Xo.length)))],hp ([(0,Ob (List.map (aI .i64) Xo) 1)]),1⟩ μ)
  (C1:∀ (X00:(List Int)) (X9h:Int) (Xy:Nb X00),o=X5h.x1 X00 X9h->X2 Tryz.prog 80 0 Q (.exit .ret) [] ⟨fr [(4,(slE Xy.1 0 (List.map (aI .i64) X00))),(5,(aI .i64 X9h))],hp ([]++opE Xy.1 0 1 (List.map (aI .i64) X00)),1⟩ μ),
  X2 Tryz.prog 80 0 Q (.loop (X41 0 (Xh Tryz.f54))) [] ⟨fr [(7,(AV.ptr 0 0 0)),(8,(AV.ref 1 0 (Xc.length))),(28,(Lf (X6q.map X4))),(29,(aI .i64 (X6q.length:Int))),(30,(aI .i64 (k:Int)))],hp ([(0,Ob [(X7w Xb)] 5),(1,Ob (List.map (aI .i64) Xc) 1)]),2⟩ μ:=by
 intro xs
 induction xs with
 |nil =>
  intro k hx Xc o h C0 C1;have hk:=X11 hx;have hc:decide ((k:Int)<(X6q.length:Int))=false:=Yf om;rw[X1h] at h;refine X2.round ?_;revert h;exact λe=>X8 [Bf] (k:=wkT [(0,1)] (C0 _  (oj e).symm))
 |cons x xs ih =>
  intro k hx Xc o h C0 C1;obtain⟨hk,hg,hx1⟩:=X0f hx;have hc:decide ((k:Int)<(X6q.length:Int))=true:=Yt om;rw[X1h] at h;refine X2.round ?_;revert h;refine brI (λh303=>?_) λh303=>?_
  ·
   refine bI λe304 h305=>?_;try have qh305:=Xl h305
   refine rnI [Bt,.el (X4 x),Bt,.el (aI .i64 e304),.ld (aI .i64 e304)] (o:=by repeat' first|apply Ya|exact pcM|exact(List.getElem?_set_self (by have hq:=X1j h305;simp;omega)).trans rfl|exact X05) ?_;intro h;exact wkT [] (ih (k+1) hx1 _ o h C0 C1)
  refine brI (λh306=>?_) λh306=>?_
  ·
   refine bI λXjg h332=>rnI [Bt,.el (X4 x),Bf,Bt,.stop 16] ?_;intro h;refine X2.join (s':=⟨fr [(7,(AV.ptr 0 0 0)),(8,(AV.ref 1 0 (Xjg.length))),(28,(Lf (X6q.map X4))),(29,(aI .i64 (X6q.length:Int))),(30,(aI .i64 (k:Int)))],hp ([(0,Ob [(X7w Xb)] 5),(1,Ob (List.map (aI .i64) Xjg) 1)]),2⟩) ?_ (λJ=>X2.cut ?_)
   ·
    exact X8 [] (k:=wkT [] (ih (k+1) hx1 _ o h C0 C1))
   clear h;revert h332;refine brI (λh320=>?_) λh320=>?_
   ·
    refine bI λe321 h322=>?_;try have qh322:=Xl h322
    intro h;obtain rfl:=oj h;exact X8 [.ix 0,.el (aI .i64 e321),.ld (aI .i64 e321)] (o:=by repeat' first|apply Ya|exact pcM|exact((eq_of_beq h320))|exact(List.getElem?_set_self (by have hq:=X1j h322;simp;omega)).trans rfl|exact X05) (k:=wkT [] (X2.glue J))
   refine brI (λh323=>?_) λh323=>?_
   ·
    refine bI λe324 h325=>?_;try have qh325:=Xl h325
    intro h;obtain rfl:=oj h;exact X8 [.ix 2,.el (aI .i64 e324),.ld (aI .i64 e324)] (o:=by repeat' first|apply Ya|exact pcM|exact((eq_of_beq h323))|exact(List.getElem?_set_self (by have hq:=X1j h325;simp;omega)).trans rfl|exact X05) (k:=wkT [] (X2.glue J))
   refine brI (λh326=>?_) λh326=>?_
   ·
    refine bI λe327 h328=>?_;try have qh328:=Xl h328
    intro h;obtain rfl:=oj h;exact X8 [.ix 3,.el (aI .i64 e327),.ld (aI .i64 e327)] (o:=by repeat' first|apply Ya|exact pcM|exact((eq_of_beq h326))|exact(List.getElem?_set_self (by have hq:=X1j h328;simp;omega)).trans rfl|exact X05) (k:=wkT [] (X2.glue J))
   refine brI (λh329=>?_) λh329=>?_
   ·
    refine bI λe330 h331=>?_;try have qh331:=Xl h331
    intro h;obtain rfl:=oj h;exact X8 [.ix 4,.el (aI .i64 e330),.ld (aI .i64 e330)] (o:=by repeat' first|apply Ya|exact pcM|exact((eq_of_beq h329))|exact(List.getElem?_set_self (by have hq:=X1j h331;simp;omega)).trans rfl|exact X05) (k:=wkT [] (X2.glue J))
   intro h;cases h
  refine bI λe333 h334=>?_;try have qh334:=Xl h334
  refine bI λe335 h336=>?_;try have qh336:=Xl h336
  refine bI λv337 h338=>rnI [Bt,.el (X4 x),Bf,Bf,.el (aI .i64 e333),.ld (aI .i64 e333),.el (aI .i64 e335),.ld (aI .i64 e335),.pure _ (AV.tup [(aI .i64 v337.1),(aI .i64 v337.2)])] ?_;refine brI (λh339=>λe=>X8 [Bt] (k:=wkT [] (C1 _ _  nbS (oj e).symm))) λh339=>bI λe340 h341=>?_;try have qh341:=Xl h341
  refine rnI [Bf,.el (aI .i64 e340),.ld (aI .i64 e340)] (o:=by repeat' first|apply Ya|exact pcM|exact(List.getElem?_set_self (by have hq:=X1j h341;simp;omega)).trans rfl|exact X05) ?_;intro h;exact wkT [] (ih (k+1) hx1 _ o h C0 C1)
instance Xxz:PCs Tryz.prog 54 (∀ (a0:(List Xu)) (a1:X9) (r:(List Int)×Int),Xdo a0 a1=some r->X0j Tryz.prog 54 [(Lf (a0.map X4)),(X1 a1)] (AV.tup [(Lt (List.map (aI .i64) r.1)),(aI .i64 r.2)])):=⟨λa0 a1 r h=>by
 refine X0j.sym X7 fn54 (nt:=80) rfl rfl ?_ okM;unfold Xdo at h;revert h;refine bI λv1 h2=>brI (λh3=>λe=>oj e▸X8 [.pure _ (aI .i64 v1),Bt] (k:=fi)) λh3=>bI λu4 h5=>?_;have qh5:=Xyz h5;refine brI (λq=>?_) λq=>?_
 ·
  intro h;have h6:(a0.length:Int)=0:=by simpa using q
  revert h;refine bI λu7 h8=>?_;have qh8:=X0b h8;refine bI λo220 h221=>rnI [.pure _ (aI .i64 v1),Bf,.el (aI .i64 (a0.length:Int)),.ne false,.el (aI .i64 (a0.length:Int))] (o:=by repeat' first|apply Ya|exact pcM|exact(Int.le_trans qh5.2.2 (by decide))|exact om|exact X05) ?_;intro h;refine wkT [(0,1)] (X2.cut (Xh5 (V5.mk 0 0 a1.Key a1.Time a1.Value) a0 qh8 a0 0 (by simp) _ nbS _ h221 ?_ ?_))
  ·
   intro Xo Xz eo220;subst eo220;refine X2.glue ?_;try dsimp only at h
   rcases Xz with ⟨_|_,X1v⟩<;>(try obtain rfl:=X1v rfl);all_goals
    revert h;exact λe=>oj e▸X8 [] (k:=fi)
  intro X00 X9h Xy eo220;subst eo220;refine X2.glue ?_;try dsimp only at h
  rcases Xy with ⟨_|_,X1u⟩<;>(try obtain rfl:=X1u rfl);all_goals
   revert h;exact λe=>oj e▸X8 [] (k:=fi)
 intro h;have h6:¬ ((a0.length:Int)=0):=by simpa using q
 revert h;refine bI λu222 h223=>?_;have qh223:=X0b h223;refine bI λo342 h343=>rnI [.pure _ (aI .i64 v1),Bf,.el (aI .i64 (a0.length:Int)),.el (aI .i64 (a0.length:Int))] (o:=by repeat' first|apply Ya|exact pcM|exact(Int.le_trans qh5.2.2 (by decide))|exact om|exact X05) ?_;intro h;refine wkT [(0,1),(1,2)] (X2.cut (Xen (V5.mk 0 0 a1.Key a1.Time a1.Value) a0 qh223 a0 0 (by simp) _ _ h343 ?_ ?_))
 ·
  intro Xo eo342;subst eo342;refine X2.glue ?_;try dsimp only at h
  revert h;exact λe=>oj e▸X8 [] (k:=fi)
 intro X00 X9h Xy eo342;subst eo342;refine X2.glue ?_;try dsimp only at h
 rcases Xy with ⟨_|_,X1u⟩<;>(try obtain rfl:=X1u rfl);all_goals
  revert h;exact λe=>oj e▸X8 [] (k:=fi)⟩
instance Xcx:PCs Tryz.prog 35 (∀ (a0:(List Xu)) (a1:X9) (r:Int×Int),X5g a0 a1=some r->X0j Tryz.prog 35 [(Lf (a0.map X4)),(X1 a1)] (AV.tup [(aI .i64 r.1),(aI .i64 r.2)])):=⟨λa0 a1 r h=>by
 refine X0j.sym X7 fn35 (nt:=23) rfl rfl ?_ okM;unfold X5g at h;revert h;refine bI λv1 h2=>brI (λh3=>λe=>oj e▸X8 [.pure _ (AV.tup [(Lt (List.map (aI .i64) v1.1)),(aI .i64 v1.2)]),Bt] (k:=fi)) λh3=>bI λe4 h5=>?_;try have qh5:=Xl h5
 exact λe=>oj e▸X8 [.pure _ (AV.tup [(Lt (List.map (aI .i64) v1.1)),(aI .i64 v1.2)]),Bf,.el (aI .i64 (v1.1.length:Int)),.wrap,.el (aI .i64 e4)] (k:=fi)⟩
instance Xq4:PCs Tryz.prog 21 (∀ (a0:Xt) (a1:X9) (r:X9×Bool),X56 a0 a1=some r->X0j Tryz.prog 21 [(Xk false a0),(X1 a1)] (AV.tup [(X1 r.1),(aB r.2)])):=⟨λa0 a1 r h=>by
 refine X0j.sym X7 fn21 (nt:=47) rfl rfl ?_ okM;unfold X56 at h;revert h;refine brI (λh1=>?_) λh1=>?_
 ·
  refine bI λv2 h3=>brI (λh4=>λe=>oj e▸X8 [.el (aI .i64 (a0.Where.length:Int)),Bt,.pure _ (AV.tup [(aI .i64 v2.1),(aI .i64 v2.2)]),Bt] (k:=fi)) λh4=>bI λXjf h8=>rnI [.el (aI .i64 (a0.Where.length:Int)),Bt,.pure _ (AV.tup [(aI .i64 v2.1),(aI .i64 v2.2)]),Bf] ?_;intro h;refine X2.join (s':=⟨fr [(2,(AV.ptr 0 0 0)),(3,(AV.ptr 1 0 0)),(4,(AV.ptr 2 0 0)),(8,(AV.ptr 3 0 0))],hp ([(0,Ob [(Xk false a0)] 10),(1,Ob [(X1 a1)] 3),(2,Ob [(X1 (X9.mk 0 0 0))] 3),(3,Ob [(X1 Xjf)] 3)]),4⟩) ?_ (λJ=>X2.cut ?_)
  ·
   revert h;refine bI λXlb h16=>rnI [] ?_;intro h;refine X2.join (s':=⟨fr [(4,(AV.ptr 0 0 0)),(8,(AV.ptr 1 0 0))],hp ([(0,Ob [(X1 (X9.mk 0 0 0))] 3),(1,Ob [(X1 Xlb)] 3)]),2⟩) ?_ (λJ=>X2.cut ?_)
   ·
    revert h;exact λe=>oj e▸X8 [] (k:=fi)
   clear h;revert h16;refine brI (λh13=>?_) λh13=>?_
   ·
    refine bI λv14 h15=>?_;intro h;obtain rfl:=oj h;exact X8 [Bt,.pure _ (AV.tup [(aI .i64 v14.1),(aI .i64 v14.2)])] (k:=wkT [(0,2),(1,3)] (X2.glue J))
   intro h;obtain rfl:=oj h;exact X8 [Bf] (k:=wkT [(0,2),(1,3)] (X2.glue J))
  clear h;revert h8;refine brI (λh7=>?_) λh7=>?_
  ·
   intro h;obtain rfl:=oj h;exact X8 [Bt] (k:=wkT [] (X2.glue J))
  intro h;obtain rfl:=oj h;exact X8 [Bf] (k:=wkT [] (X2.glue J))
 refine bI λXla h20=>rnI [.el (aI .i64 (a0.Where.length:Int)),Bf] ?_;intro h;refine X2.join (s':=⟨fr [(2,(AV.ptr 0 0 0)),(3,(AV.ptr 1 0 0)),(4,(AV.ptr 2 0 0)),(8,(AV.ptr 3 0 0))],hp ([(0,Ob [(Xk false a0)] 10),(1,Ob [(X1 a1)] 3),(2,Ob [(X1 (X9.mk 0 0 0))] 3),(3,Ob [(X1 Xla)] 3)]),4⟩) ?_ (λJ=>X2.cut ?_)
 ·
  revert h;refine bI λXt7 h28=>rnI [] ?_;intro h;refine X2.join (s':=⟨fr [(4,(AV.ptr 0 0 0)),(8,(AV.ptr 1 0 0))],hp ([(0,Ob [(X1 (X9.mk 0 0 0))] 3),(1,Ob [(X1 Xt7)] 3)]),2⟩) ?_ (λJ=>X2.cut ?_)
  ·
   revert h;exact λe=>oj e▸X8 [] (k:=fi)
  clear h;revert h28;refine brI (λh25=>?_) λh25=>?_
  ·
   refine bI λv26 h27=>?_;intro h;obtain rfl:=oj h;exact X8 [Bt,.pure _ (AV.tup [(aI .i64 v26.1),(aI .i64 v26.2)])] (k:=wkT [(0,2),(1,3)] (X2.glue J))
  intro h;obtain rfl:=oj h;exact X8 [Bf] (k:=wkT [(0,2),(1,3)] (X2.glue J))
 clear h;revert h20;refine brI (λh19=>?_) λh19=>?_
 ·
  intro h;obtain rfl:=oj h;exact X8 [Bt] (k:=wkT [] (X2.glue J))
 intro h;obtain rfl:=oj h;exact X8 [Bf] (k:=wkT [] (X2.glue J))⟩
instance X3f:PCs Tryz.prog 67 (∀ (a0:X0x) (r:Int),X2d a0=some r->X0j Tryz.prog 67 [(X0i a0)] (aI .i64 r)):=⟨λa0 r h=>by
 refine X0j.sym X7 fn67 (nt:=43) rfl rfl ?_ okM;unfold X2d at h;revert h;refine bI λj4_3 h8=>rnI [] ?_;intro h;refine X2.join (s':=⟨fr [(3,(aB j4_3))],hp ([]),0⟩) ?_ (λJ=>X2.cut ?_)
 ·
  revert h;exact brI (λh9=>λe=>oj e▸X8 [Bt] (k:=fi)) λh9=>λe=>oj e▸X8 [Bf] (k:=fi)
 clear h;revert h8;refine brI (λh5=>?_) λh5=>?_
 ·
  intro h;obtain rfl:=oj h;exact X8 [Bt] (k:=wkT [] (X2.glue J))
 refine brI (λh6=>?_) λh6=>?_
 ·
  intro h;obtain rfl:=oj h;exact X8 [Bf,Bt] (k:=wkT [] (X2.glue J))
 refine brI (λh7=>?_) λh7=>?_
 ·
  intro h;obtain rfl:=oj h;exact X8 [Bf,Bf,Bt] (k:=wkT [] (X2.glue J))
 intro h;obtain rfl:=oj h;exact X8 [Bf,Bf,Bf] (k:=wkT [] (X2.glue J))⟩
instance Xcj:PCs Tryz.prog 55 (∀ (a0:X5) (r:Bool),X81 a0=some r->X0j Tryz.prog 55 [(X3 a0)] (aB r)):=⟨λa0 r h=>by
 refine X0j.sym X7 fn55 (nt:=46) rfl rfl ?_ okM;unfold X81 at h;revert h;refine brI (λh1=>λe=>oj e▸X8 [Bt] (k:=fi)) λh1=>bI λj8_2 h15=>rnI [Bf,.stop 3] ?_;intro h;refine X2.join (s':=⟨fr [(2,(aB j8_2))],hp ([]),0⟩) ?_ (λJ=>X2.cut ?_)
 ·
  revert h;exact λe=>oj e▸X8 [] (k:=fi)
 clear h;revert h15;refine bI λv9 h10=>brI (λh11=>?_) λh11=>?_
 ·
  refine bI λv12 h13=>brI (λh14=>?_) λh14=>?_
  ·
   intro h;obtain rfl:=oj h;exact X8 [.ix 0,.pure _ (aI .i64 v9),Gt,Gt,.ix 1,Gt,Gt,.pure _ (aI .i64 v12),Gt,Gt,Gt,.ix 0,Gt,Gt,Gt,Gt,.ix 1,Gt,Gt,Gt,.wrap,Gt] (o:=by repeat' first|apply Ya|exact pcM|exact fq (X2a h11 h14)|exact X05) (k:=wkT [] (X2.glue J))
  intro h;obtain rfl:=oj h;exact X8 [.ix 0,.pure _ (aI .i64 v9),Gt,Gt,.ix 1,Gt,Gt,.pure _ (aI .i64 v12),Gt,Gf,Gf,Gf,Gf,Gf,Gf,Gf,Gf,Gf,Gf] (o:=by repeat' first|apply Ya|exact pcM|exact fq (X2a h11 h14)|exact X05) (k:=wkT [] (X2.glue J))
 intro h;obtain rfl:=oj h;exact X8 [.ix 0,.pure _ (aI .i64 v9),Gf,Gf,Gf,Gf,Gf,Gf,Gf,Gf,Gf,Gf,Gf,Gf,Gf,Gf,Gf] (o:=by repeat' first|apply Ya|exact pcM|exact fq (X2y h11 rfl)|exact X05) (k:=wkT [] (X2.glue J))⟩
instance Xp3:PCs Tryz.prog 95 (∀ (a0:Int) (r:Bool),X4p a0=some r->X0j Tryz.prog 95 [(aI .i64 a0)] (aB r)):=⟨λa0 r h=>by
 refine X0j.sym X7 fn95 (nt:=6) rfl rfl ?_ okM;unfold X4p at h;revert h;exact λe=>oj e▸X8 [] (k:=fi)⟩
instance Xly:PCs Tryz.prog 80 (∀ (a0:Int) (a1:Int) (r:Int),X1w a0 a1=some r->X0j Tryz.prog 80 [(aI .i64 a0),(aI .i64 a1)] (aI .i64 r)):=⟨λa0 a1 r h=>by
 refine X0j.sym X7 fn80 (nt:=20) rfl rfl ?_ okM;unfold X1w at h;revert h;exact bI λv1 h2=>bI λv3 h4=>brI (λh5=>brI (λh6=>λe=>oj e▸X8 [.pure _ (aB v1),.pure _ (aB v3),Bt,Bt] (k:=fi)) λh6=>λe=>oj e▸X8 [.pure _ (aB v1),.pure _ (aB v3),Bt,Bf] (k:=fi)) λh5=>brI (λh7=>λe=>oj e▸X8 [.pure _ (aB v1),.pure _ (aB v3),Bf,Bt] (k:=fi)) λh7=>brI (λh8=>λe=>oj e▸X8 [.pure _ (aB v1),.pure _ (aB v3),Bf,Bf,Bt] (k:=fi)) λh8=>brI (λh9=>λe=>oj e▸X8 [.pure _ (aB v1),.pure _ (aB v3),Bf,Bf,Bf,Bt] (k:=fi)) λh9=>λe=>oj e▸X8 [.pure _ (aB v1),.pure _ (aB v3),Bf,Bf,Bf,Bf] (k:=fi)⟩
theorem Xfh {Q:Xx->St->Mu->Prop} {μ:Mu} (Xis:(List Int)) (hl:Xis.length<=140737488355328):∀ (xs:List Int) (k:Nat) (hx:Xis.drop k=xs) (o:X6e) (h:X4w Xis xs k  = some o)
  (C0:o=X6e.x0->X2 Tryz.prog 18 0 Q (.exit (.exit 0)) [] ⟨fr [(3,(aI .i64 0))],hp ([]),0⟩ μ)
  (C1:∀ (X3a:Int),o=X6e.x1 X3a->X2 Tryz.prog 18 0 Q (.exit .ret) [] ⟨fr [(2,(aI .i64 X3a))],hp ([]),0⟩ μ),
  X2 Tryz.prog 18 0 Q (.loop (X41 0 (Xh Tryz.f79))) [] ⟨fr [(3,(aI .i64 0)),(6,(Lf (List.map (aI .i64) Xis))),(7,(aI .i64 (Xis.length:Int))),(8,(aI .i64 (k:Int)))],hp ([]),0⟩ μ:=by
 intro xs
 induction xs with
 |nil =>
  intro k hx  o h C0 C1;have hk:=X11 hx;have hc:decide ((k:Int)<(Xis.length:Int))=false:=Yf om;rw[X4w] at h;refine X2.round ?_;revert h;exact λe=>X8 [Bf] (k:=wkT [] (C0  (oj e).symm))
 |cons x xs ih =>
  intro k hx  o h C0 C1;obtain⟨hk,hg,hx1⟩:=X0f hx;have hc:decide ((k:Int)<(Xis.length:Int))=true:=Yt om;rw[X4w] at h;refine X2.round ?_;revert h;refine brI (λh6=>λe=>X8 [Bt,.el (aI .i64 x),Bt] (k:=wkT [] (C1 _  (oj e).symm))) λh6=>rnI [Bt,.el (aI .i64 x),Bf] ?_;intro h;exact wkT [] (ih (k+1) hx1  o h C0 C1)
instance Xxa:PCs Tryz.prog 79 (∀ (a0:(List Int)) (r:Int),Xca a0=some r->X0j Tryz.prog 79 [(Lf (List.map (aI .i64) a0))] (aI .i64 r)):=⟨λa0 r h=>by
 refine X0j.sym X7 fn79 (nt:=18) rfl rfl ?_ okM;unfold Xca at h;revert h;refine bI λu1 h2=>?_;have qh2:=X0b h2;refine bI λo7 h8=>rnI [.el (aI .i64 (a0.length:Int))] ?_;intro h;refine wkT [] (X2.cut (Xfh a0 qh2 a0 0 (by simp) _ h8 ?_ ?_))
 ·
  intro eo7;subst eo7;refine X2.glue ?_;try dsimp only at h
  revert h;exact λe=>oj e▸X8 [] (k:=fi)
 intro X3a eo7;subst eo7;refine X2.glue ?_;try dsimp only at h
 revert h;exact λe=>oj e▸X8 [] (k:=fi)⟩
instance Xuo:PCs Tryz.prog 56 (∀ (a0:X5) (a1:X5) (r:Int),X5j a0 a1=some r->X0j Tryz.prog 56 [(X3 a0),(X3 a1)] (aI .i64 r)):=⟨λa0 a1 r h=>by
 refine X0j.sym X7 fn56 (nt:=26) rfl rfl ?_ okM;unfold X5j at h;revert h;exact bI λv1 h2=>bI λv3 h4=>bI λv5 h6=>bI λv7 h8=>λe=>oj e▸X8 [.pure _ (aI .i64 v1),.pure _ (aI .i64 v3),.pure _ (aI .i64 v5),.pure _ (aI .i64 v7)] (k:=fi)⟩
theorem X6s {Q:Xx->St->Mu->Prop} {μ:Mu} (X0a:(List X5)) (hl:X0a.length<=140737488355328):∀ (xs:List X5) (k:Nat) (hx:X0a.drop k=xs) (o:X59) (h:X2z X0a xs k  = some o)
  (C0:o=X59.x0->X2 Tryz.prog 33 0 Q (.exit (.exit 0)) [] ⟨fr [],hp ([]),0⟩ μ)
  (C1:o=X59.x1->X2 Tryz.prog 33 0 Q (.exit .ret) [] ⟨fr [(2,(aI .i64 8))],hp ([]),0⟩ μ),
  X2 Tryz.prog 33 0 Q (.loop (X41 0 (Xh Tryz.f36))) [] ⟨fr [(0,(Lf (X0a.map X3))),(8,(Lf (X0a.map X3))),(9,(aI .i64 (X0a.length:Int))),(10,(aI .i64 (k:Int)))],hp ([]),0⟩ μ:=by
 intro xs
 induction xs with
 |nil =>
  intro k hx  o h C0 C1;have hk:=X11 hx;have hc:decide ((k:Int)<(X0a.length:Int))=false:=Yf om;rw[X2z] at h;refine X2.round ?_;revert h;exact λe=>X8 [Bf] (k:=wkT [] (C0  (oj e).symm))
 |cons x xs ih =>
  intro k hx  o h C0 C1;obtain⟨hk,hg,hx1⟩:=X0f hx;have hc:decide ((k:Int)<(X0a.length:Int))=true:=Yt om;rw[X2z] at h;refine X2.round ?_;revert h;refine bI λXt2 h60=>rnI [Bt,.el (X3 x),.stop 6] ?_;intro h;refine X2.join (s':=⟨fr [(0,(Lf (X0a.map X3))),(8,(Lf (X0a.map X3))),(9,(aI .i64 (X0a.length:Int))),(10,(aI .i64 (k:Int))),(31,(aB Xt2))],hp ([]),0⟩) ?_ (λJ=>X2.cut ?_)
  ·
   revert h;refine brI (λh61=>λe=>X8 [Bt] (k:=wkT [] (C1  (oj e).symm))) λh61=>rnI [Bf] ?_;intro h;exact wkT [] (ih (k+1) hx1  o h C0 C1)
  clear h;revert h60;refine bI λv52 h53=>brI (λh54=>?_) λh54=>?_
  ·
   intro h;obtain rfl:=oj h;exact X8 [.pure _ (aB v52),Gf,Gf,Gf,.no,.no,.no,.no,.no,.no,.no,.no,Gf,Gt] (k:=wkT [] (X2.glue J))
  refine brI (λh55=>?_) λh55=>?_
  ·
   refine bI λe56 h57=>?_;try have qh57:=Xl h57
   refine bI λv58 h59=>?_;intro h;obtain rfl:=oj h;exact X8 [.pure _ (aB v52),Gt,Gt,Gt,Gt,Gt,Gt,.wrap,Gt,.el (X3 e56),Gt,Gt,Gt,.pure _ (aI .i64 v58),Gt,Gt] (k:=wkT [] (X2.glue J))
  intro h;obtain rfl:=oj h;exact X8 [.pure _ (aB v52),Gt,Gt,Gt,Gf,Gf,Gf,Gf,Gf,Gf,Gf,Gf,Gt,Gf] (k:=wkT [] (X2.glue J))
instance X98:PCs Tryz.prog 36 (∀ (a0:(List X5)) (r:Int),X82 a0=some r->X0j Tryz.prog 36 [(Lf (a0.map X3))] (aI .i64 r)):=⟨λa0 r h=>by
 refine X0j.sym X7 fn36 (nt:=33) rfl rfl ?_ okM;unfold X82 at h;revert h;refine brI (λh1=>λe=>oj e▸X8 [.el (aI .i64 (a0.length:Int)),Bt] (k:=fi)) λh1=>bI λu2 h3=>?_;have qh3:=X0b h3;refine bI λo62 h63=>rnI [.el (aI .i64 (a0.length:Int)),Bf,.el (aI .i64 (a0.length:Int))] ?_;intro h;refine wkT [] (X2.cut (X6s a0 qh3 a0 0 (by simp) _ h63 ?_ ?_))
 ·
  intro eo62;subst eo62;refine X2.glue ?_;try dsimp only at h
  revert h;exact λe=>oj e▸X8 [] (k:=fi)
 intro eo62;subst eo62;refine X2.glue ?_;try dsimp only at h
 revert h;exact λe=>oj e▸X8 [] (k:=fi)⟩
instance Xy2:PCs Tryz.prog 38 (∀ (a0:Int) (r:X0x),X8l a0=some r->X0j Tryz.prog 38 [(aI .i64 a0)] (X0i r)):=⟨λa0 r h=>by
 refine X0j.sym X7 fn38 (nt:=7) rfl rfl ?_ okM;unfold X8l at h;revert h;exact λe=>oj e▸X8 [] (k:=fi)⟩
instance Xre:PCs Tryz.prog 57 (∀ (a0:Int) (a1:Int) (r:Int),X2r a0 a1=some r->X0j Tryz.prog 57 [(aI .i64 a0),(aI .i64 a1)] (aI .i64 r)):=⟨λa0 a1 r h=>by
 refine X0j.sym X7 fn57 (nt:=17) rfl rfl ?_ okM;unfold X2r at h;revert h;exact brI (λh1=>λe=>oj e▸X8 [Bt] (k:=fi)) λh1=>brI (λh2=>λe=>oj e▸X8 [Bf,Bt] (k:=fi)) λh2=>λe=>oj e▸X8 [Bf,Bf] (k:=fi)⟩
instance Xon:PCs Tryz.prog 117 (∀ (a0:Int) (r:Int),X8i a0=some r->X0j Tryz.prog 117 [(aI .u64 a0)] (aI .i64 r)):=⟨λa0 r h=>by
 refine X0j.sym X7 X036 (nt:=25) rfl rfl ?_ okM;unfold X8i at h;revert h;refine bI λw2 h4=>?_;intro h;obtain⟨j2_0,j2_2⟩:=w2;try dsimp only at h
 refine X0z [] ?_;refine X2.join (s':=⟨fr [(0,(aI .u64 j2_0)),(2,(aI .i64 j2_2))],hp ([]),0⟩) ?_ (λJ=>X2.cut ?_)
 ·
  revert h;refine bI λw6 h8=>?_;intro h;obtain⟨j6_0,j6_2⟩:=w6;try dsimp only at h
  refine X0z [] ?_;refine X2.join (s':=⟨fr [(0,(aI .u64 j6_0)),(2,(aI .i64 j6_2))],hp ([]),0⟩) ?_ (λJ=>X2.cut ?_)
  ·
   revert h;refine bI λw10 h12=>?_;intro h;obtain⟨X031,X030⟩:=w10;try dsimp only at h
   refine X0z [] ?_;refine X2.join (s':=⟨fr [(0,(aI .u64 X031)),(2,(aI .i64 X030))],hp ([]),0⟩) ?_ (λJ=>X2.cut ?_)
   ·
    revert h;exact bI λb13 h14=>λe=>oj e▸X8 [.wrap,.el (aI .u8 b13),.wrap,.wrap] (o:=by repeat' first|apply Ya|exact pcM|exact(X77 h14)|exact(X017 (tab:=Xeq) rfl h14)|exact X05) (k:=fi)
   clear h;revert h12;refine brI (λh11=>?_) λh11=>?_
   ·
    intro h;simp only[Option.some.injEq,Prod.mk.injEq] at h;obtain⟨rfl,rfl⟩:=h;exact X8 [Bt,.wrap] (k:=wkT [] (X2.glue J))
   intro h;simp only[Option.some.injEq,Prod.mk.injEq] at h;obtain⟨rfl,rfl⟩:=h;exact X8 [Bf] (k:=wkT [] (X2.glue J))
  clear h;revert h8;refine brI (λh7=>?_) λh7=>?_
  ·
   intro h;simp only[Option.some.injEq,Prod.mk.injEq] at h;obtain⟨rfl,rfl⟩:=h;exact X8 [Bt,.wrap] (k:=wkT [] (X2.glue J))
  intro h;simp only[Option.some.injEq,Prod.mk.injEq] at h;obtain⟨rfl,rfl⟩:=h;exact X8 [Bf] (k:=wkT [] (X2.glue J))
 clear h;revert h4;refine brI (λh3=>?_) λh3=>?_
 ·
  intro h;simp only[Option.some.injEq,Prod.mk.injEq] at h;obtain⟨rfl,rfl⟩:=h;exact X8 [Bt] (k:=wkT [] (X2.glue J))
 intro h;simp only[Option.some.injEq,Prod.mk.injEq] at h;obtain⟨rfl,rfl⟩:=h;exact X8 [Bf] (k:=wkT [] (X2.glue J))⟩
instance Xri:PCs Tryz.prog 97 (∀ (a0:Int) (r:Int),X7l a0=some r->X0j Tryz.prog 97 [(aI .u64 a0)] (aI .i64 r)):=⟨λa0 r h=>by
 refine X0j.sym X7 fn97 (nt:=8) rfl rfl ?_ okM;unfold X7l at h;revert h;exact bI λv1 h2=>λe=>oj e▸X8 [Bf,.pure _ (aI .i64 v1)] (k:=fi)⟩
end Go.Av.Tryz