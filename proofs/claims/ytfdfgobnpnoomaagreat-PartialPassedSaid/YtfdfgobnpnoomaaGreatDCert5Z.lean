/- Printed by decomp.py: that the program computes the functions. -/
import Derived.Test.YtfdfgobnpnoomaaGreatDCert4Z
set_option linter.all false

namespace Go.Av.Tryz
open Go.Proofs Go.D
set_option maxRecDepth 10000
set_option maxHeartbeats 40000000
theorem Xmz {Q:X02->St->Mu->Prop} {μ:Mu} (Xf:(V5 Int)) (X96:(List X05)) (hl:X96.length<=140737488355328):∀ (xs:List X05) (k:Nat) (hx:X96.drop k=xs) (Xi:(List Int)) (Xl:Nb Xi) (o:X9y) (h:X6m Xf X96 xs k Xi=some o)
  (C0:∀ (Xe:(List Int)) (Xj:Nb Xe),o=X9y.x0 Xe->X2 Tryz.prog 80 0 Q (.exit (.exit 0)) [] ⟨fr [(8,(slE Xj.1 0 (List.map (aI .i64) Xe)))],hp ([]++opE Xj.1 0 1 (List.map (aI .i64) Xe)),1⟩ μ)
  (C1:∀ (X0e:(List Int)) (Xd4:Int) (X0c:Nb X0e),o=X9y.x1 X0e Xd4->X2 Tryz.prog 80 0 Q (.exit .ret) [] ⟨fr [(4,(slE X0c.1 0 (List.map (aI .i64) X0e))),(5,(aI .i64 Xd4))],hp ([]++opE X0c.1 0 1 (List.map (aI .i64) X0e)),1⟩ μ),
  X2 Tryz.prog 80 0 Q (.loop (X2v 0 (Xh Tryz.f59))) [] ⟨fr [(7,(AV.ptr 0 0 0)),(8,(slE Xl.1 1 (List.map (aI .i64) Xi))),(28,(Lf (X96.map X4))),(29,(aI .i64 (X96.length:Int))),(30,(aI .i64 (k:Int)))],hp ([(0,Ob [(Xaz Xf)] 5)]++opE Xl.1 1 1 (List.map (aI .i64) Xi)),2⟩ μ:=by
 intro xs
 induction xs with
 |nil =>
  intro k hx Xi Xl o h C0 C1
  have hk:=drop_nil hx
  have hc:decide ((k:Int)<(X96.length:Int))=false:=Yf (by omega)
  rw[X6m] at h
  rcases Xl with ⟨_|_,X04⟩
  ·
   refine X2.round ?_
   revert h
   exact fun e=>X9 [Bf] (k:=wkT [(0,1)] (C0 _  nbF (oj e).symm))
  ·
   obtain rfl:=X04 rfl
   refine X2.round ?_
   revert h
   exact fun e=>X9 [Bf] (k:=wkT [] (C0 _  nbS (oj e).symm))
 |cons x xs ih =>
  intro k hx Xi Xl o h C0 C1
  obtain⟨hk,hg,hx1⟩:=drop_cons hx
  have hc:decide ((k:Int)<(X96.length:Int))=true:=Yt (by omega)
  rw[X6m] at h
  rcases Xl with ⟨_|_,X04⟩
  ·
   refine X2.round ?_
   revert h
   refine brI (fun h150=>?_) fun h150=>?_
   ·
    refine bI fun e151 h152=>?_
    try have qh152:=Xn h152
    refine rnI [Bt,.el (X4 x),Bt,.el (aI .i64 e151),.ld (aI .i64 e151)] (o:=by repeat' first|apply Ya|exact pcM|exact(List.getElem?_set_self (by have hq:=X2g h152;simp;omega)).trans rfl|exact X0k) ?_
    intro h
    exact wkT [] (ih (k+1) hx1 _ nbF o h C0 C1)
   refine brI (fun h153=>?_) fun h153=>?_
   ·
    refine bI fun Xmg h179=>rnI [Bt,.el (X4 x),Bf,Bt,.stop 16] ?_
    intro h
    refine X2.joinF (fun(q:Nb Xmg)=>⟨fr [(7,(AV.ptr 0 0 0)),(8,(slE q.1 1 (List.map (aI .i64) Xmg))),(28,(Lf (X96.map X4))),(29,(aI .i64 (X96.length:Int))),(30,(aI .i64 (k:Int)))],hp ([(0,Ob [(Xaz Xf)] 5)]++opE q.1 1 1 (List.map (aI .i64) Xmg)),2⟩) ?_ (fun J=>X2.cut ?_)
    ·
     rintro Xxw
     rcases Xxw with ⟨_|_,Xyq⟩
     ·
      exact X9 [] (k:=wkT [] (ih (k+1) hx1 _ nbF o h C0 C1))
     obtain rfl:=Xyq rfl
     exact X9 [] (k:=wkT [] (ih (k+1) hx1 _ nbS o h C0 C1))
    clear h;revert h179
    refine brI (fun h167=>?_) fun h167=>?_
    ·
     refine bI fun e168 h169=>?_
     try have qh169:=Xn h169
     intro h
     obtain rfl:=oj h
     exact X9 [.ix 0,.el (aI .i64 e168),.ld (aI .i64 e168)] (o:=by repeat' first|apply Ya|exact pcM|exact((eq_of_beq h167))|exact(List.getElem?_set_self (by have hq:=X2g h169;simp;omega)).trans rfl|exact X0k) (k:=wkT [] (X2.glue (J nbF)))
    refine brI (fun h170=>?_) fun h170=>?_
    ·
     refine bI fun e171 h172=>?_
     try have qh172:=Xn h172
     intro h
     obtain rfl:=oj h
     exact X9 [.ix 2,.el (aI .i64 e171),.ld (aI .i64 e171)] (o:=by repeat' first|apply Ya|exact pcM|exact((eq_of_beq h170))|exact(List.getElem?_set_self (by have hq:=X2g h172;simp;omega)).trans rfl|exact X0k) (k:=wkT [] (X2.glue (J nbF)))
    refine brI (fun h173=>?_) fun h173=>?_
    ·
     refine bI fun e174 h175=>?_
     try have qh175:=Xn h175
     intro h
     obtain rfl:=oj h
     exact X9 [.ix 3,.el (aI .i64 e174),.ld (aI .i64 e174)] (o:=by repeat' first|apply Ya|exact pcM|exact((eq_of_beq h173))|exact(List.getElem?_set_self (by have hq:=X2g h175;simp;omega)).trans rfl|exact X0k) (k:=wkT [] (X2.glue (J nbF)))
    refine brI (fun h176=>?_) fun h176=>?_
    ·
     refine bI fun e177 h178=>?_
     try have qh178:=Xn h178
     intro h
     obtain rfl:=oj h
     exact X9 [.ix 4,.el (aI .i64 e177),.ld (aI .i64 e177)] (o:=by repeat' first|apply Ya|exact pcM|exact((eq_of_beq h176))|exact(List.getElem?_set_self (by have hq:=X2g h178;simp;omega)).trans rfl|exact X0k) (k:=wkT [] (X2.glue (J nbF)))
    intro h
    cases h
   refine bI fun e180 h181=>?_
   try have qh181:=Xn h181
   refine bI fun e182 h183=>?_
   try have qh183:=Xn h183
   refine bI fun v184 h185=>rnI [Bt,.el (X4 x),Bf,Bf,.el (aI .i64 e180),.ld (aI .i64 e180),.el (aI .i64 e182),.ld (aI .i64 e182),.pure _ (AV.tup [(aI .i64 v184.1),(aI .i64 v184.2)])] ?_
   refine brI (fun h186=>fun e=>X9 [Bt] (k:=wkT [] (C1 _ _  nbS (oj e).symm))) fun h186=>bI fun e187 h188=>?_
   try have qh188:=Xn h188
   refine rnI [Bf,.el (aI .i64 e187),.ld (aI .i64 e187)] (o:=by repeat' first|apply Ya|exact pcM|exact(List.getElem?_set_self (by have hq:=X2g h188;simp;omega)).trans rfl|exact X0k) ?_
   intro h
   exact wkT [] (ih (k+1) hx1 _ nbF o h C0 C1)
  obtain rfl:=X04 rfl
  refine X2.round ?_
  revert h
  refine brI (fun h189=>?_) fun h189=>?_
  ·
   refine bI fun e190 h191=>?_
   try have qh191:=Xn h191
   intro h
   exact absurd (h191) (by simp[X1p])
  refine brI (fun h192=>?_) fun h192=>?_
  ·
   refine bI fun _ h205=>?_
   intro h
   clear h;have h:=h205
   revert h
   refine brI (fun h206=>?_) fun h206=>?_
   ·
    refine bI fun e207 h208=>?_
    try have qh208:=Xn h208
    intro h
    exact absurd (h208) (by simp[X1p])
   refine brI (fun h209=>?_) fun h209=>?_
   ·
    refine bI fun e210 h211=>?_
    try have qh211:=Xn h211
    intro h
    exact absurd (h211) (by simp[X1p])
   refine brI (fun h212=>?_) fun h212=>?_
   ·
    refine bI fun e213 h214=>?_
    try have qh214:=Xn h214
    intro h
    exact absurd (h214) (by simp[X1p])
   refine brI (fun h215=>?_) fun h215=>?_
   ·
    refine bI fun e216 h217=>?_
    try have qh217:=Xn h217
    intro h
    exact absurd (h217) (by simp[X1p])
   intro h
   cases h
  refine bI fun e218 h219=>?_
  try have qh219:=Xn h219
  intro h
  exact absurd (h219) (by simp[X1p])
theorem Xjq {Q:X02->St->Mu->Prop} {μ:Mu} (Xf:(V5 Int)) (X96:(List X05)) (hl:X96.length<=140737488355328):∀ (xs:List X05) (k:Nat) (hx:X96.drop k=xs) (Xi:(List Int)) (o:X7h) (h:X1k Xf X96 xs k Xi=some o)
  (C0:∀ (Xe:(List Int)),o=X7h.x0 Xe->X2 Tryz.prog 80 0 Q (.exit (.exit 0)) [] ⟨fr [(8,(AV.ref 0 0 (Xe.length)))],hp ([(0,Ob (List.map (aI .i64) Xe) 1)]),1⟩ μ)
  (C1:∀ (X0e:(List Int)) (Xd4:Int) (X0c:Nb X0e),o=X7h.x1 X0e Xd4->X2 Tryz.prog 80 0 Q (.exit .ret) [] ⟨fr [(4,(slE X0c.1 0 (List.map (aI .i64) X0e))),(5,(aI .i64 Xd4))],hp ([]++opE X0c.1 0 1 (List.map (aI .i64) X0e)),1⟩ μ),
  X2 Tryz.prog 80 0 Q (.loop (X2v 0 (Xh Tryz.f59))) [] ⟨fr [(7,(AV.ptr 0 0 0)),(8,(AV.ref 1 0 (Xi.length))),(28,(Lf (X96.map X4))),(29,(aI .i64 (X96.length:Int))),(30,(aI .i64 (k:Int)))],hp ([(0,Ob [(Xaz Xf)] 5),(1,Ob (List.map (aI .i64) Xi) 1)]),2⟩ μ:=by
 intro xs
 induction xs with
 |nil =>
  intro k hx Xi o h C0 C1
  have hk:=drop_nil hx
  have hc:decide ((k:Int)<(X96.length:Int))=false:=Yf (by omega)
  rw[X1k] at h
  refine X2.round ?_
  revert h
  exact fun e=>X9 [Bf] (k:=wkT [(0,1)] (C0 _  (oj e).symm))
 |cons x xs ih =>
  intro k hx Xi o h C0 C1
  obtain⟨hk,hg,hx1⟩:=drop_cons hx
  have hc:decide ((k:Int)<(X96.length:Int))=true:=Yt (by omega)
  rw[X1k] at h
  refine X2.round ?_
  revert h
  refine brI (fun h303=>?_) fun h303=>?_
  ·
   refine bI fun e304 h305=>?_
   try have qh305:=Xn h305
   refine rnI [Bt,.el (X4 x),Bt,.el (aI .i64 e304),.ld (aI .i64 e304)] (o:=by repeat' first|apply Ya|exact pcM|exact(List.getElem?_set_self (by have hq:=X2g h305;simp;omega)).trans rfl|exact X0k) ?_
   intro h
   exact wkT [] (ih (k+1) hx1 _ o h C0 C1)
  refine brI (fun h306=>?_) fun h306=>?_
  ·
   refine bI fun Xpk h332=>rnI [Bt,.el (X4 x),Bf,Bt,.stop 16] ?_
   intro h
   refine X2.join (s':=⟨fr [(7,(AV.ptr 0 0 0)),(8,(AV.ref 1 0 (Xpk.length))),(28,(Lf (X96.map X4))),(29,(aI .i64 (X96.length:Int))),(30,(aI .i64 (k:Int)))],hp ([(0,Ob [(Xaz Xf)] 5),(1,Ob (List.map (aI .i64) Xpk) 1)]),2⟩) ?_ (fun J=>X2.cut ?_)
   ·
    exact X9 [] (k:=wkT [] (ih (k+1) hx1 _ o h C0 C1))
   clear h;revert h332
   refine brI (fun h320=>?_) fun h320=>?_
   ·
    refine bI fun e321 h322=>?_
    try have qh322:=Xn h322
    intro h
    obtain rfl:=oj h
    exact X9 [.ix 0,.el (aI .i64 e321),.ld (aI .i64 e321)] (o:=by repeat' first|apply Ya|exact pcM|exact((eq_of_beq h320))|exact(List.getElem?_set_self (by have hq:=X2g h322;simp;omega)).trans rfl|exact X0k) (k:=wkT [] (X2.glue J))
   refine brI (fun h323=>?_) fun h323=>?_
   ·
    refine bI fun e324 h325=>?_
    try have qh325:=Xn h325
    intro h
    obtain rfl:=oj h
    exact X9 [.ix 2,.el (aI .i64 e324),.ld (aI .i64 e324)] (o:=by repeat' first|apply Ya|exact pcM|exact((eq_of_beq h323))|exact(List.getElem?_set_self (by have hq:=X2g h325;simp;omega)).trans rfl|exact X0k) (k:=wkT [] (X2.glue J))
   refine brI (fun h326=>?_) fun h326=>?_
   ·
    refine bI fun e327 h328=>?_
    try have qh328:=Xn h328
    intro h
    obtain rfl:=oj h
    exact X9 [.ix 3,.el (aI .i64 e327),.ld (aI .i64 e327)] (o:=by repeat' first|apply Ya|exact pcM|exact((eq_of_beq h326))|exact(List.getElem?_set_self (by have hq:=X2g h328;simp;omega)).trans rfl|exact X0k) (k:=wkT [] (X2.glue J))
   refine brI (fun h329=>?_) fun h329=>?_
   ·
    refine bI fun e330 h331=>?_
    try have qh331:=Xn h331
    intro h
    obtain rfl:=oj h
    exact X9 [.ix 4,.el (aI .i64 e330),.ld (aI .i64 e330)] (o:=by repeat' first|apply Ya|exact pcM|exact((eq_of_beq h329))|exact(List.getElem?_set_self (by have hq:=X2g h331;simp;omega)).trans rfl|exact X0k) (k:=wkT [] (X2.glue J))
   intro h
   cases h
  refine bI fun e333 h334=>?_
  try have qh334:=Xn h334
  refine bI fun e335 h336=>?_
  try have qh336:=Xn h336
  refine bI fun v337 h338=>rnI [Bt,.el (X4 x),Bf,Bf,.el (aI .i64 e333),.ld (aI .i64 e333),.el (aI .i64 e335),.ld (aI .i64 e335),.pure _ (AV.tup [(aI .i64 v337.1),(aI .i64 v337.2)])] ?_
  refine brI (fun h339=>fun e=>X9 [Bt] (k:=wkT [] (C1 _ _  nbS (oj e).symm))) fun h339=>bI fun e340 h341=>?_
  try have qh341:=Xn h341
  refine rnI [Bf,.el (aI .i64 e340),.ld (aI .i64 e340)] (o:=by repeat' first|apply Ya|exact pcM|exact(List.getElem?_set_self (by have hq:=X2g h341;simp;omega)).trans rfl|exact X0k) ?_
  intro h
  exact wkT [] (ih (k+1) hx1 _ o h C0 C1)
instance X07m:PCs Tryz.prog 59 (∀ (a0:(List X05)) (a1:X7) (r:(List Int)×Int),Xg0 a0 a1=some r->X0g Tryz.prog 59 [(Lf (a0.map X4)),(X0 a1)] (AV.tup [(AV.list true (List.map (aI .i64) r.1)),(aI .i64 r.2)])):=⟨fun a0 a1 r h=>by
 refine X0g.sym Xa fn59 (nt:=80) rfl rfl ?_ okM
 unfold Xg0 at h
 revert h
 refine bI fun v1 h2=>brI (fun h3=>fun e=>oj e▸X9 [.pure _ (aI .i64 v1),Bt] (k:=fi)) fun h3=>bI fun u4 h5=>?_
 have qh5:=X08t h5
 refine brI (fun q=>?_) fun q=>?_
 ·
  intro h
  have h6:(a0.length:Int)=0:=by simpa using q
  revert h
  refine bI fun u7 h8=>?_
  have qh8:=X08 h8
  refine bI fun o220 h221=>rnI [.pure _ (aI .i64 v1),Bf,.el (aI .i64 (a0.length:Int)),.ne false,.el (aI .i64 (a0.length:Int))] (o:=by repeat' first|apply Ya|exact pcM|exact(Int.le_trans qh5.2.2 (by decide))|exact(by omega)|exact X0k) ?_
  intro h
  refine wkT [(0,1)] (X2.cut (Xmz (V5.mk 0 0 a1.Key a1.Time a1.Value) a0 qh8 a0 0 (by simp) _ nbS _ h221 ?_ ?_))
  ·
   intro Xe Xj eo220;subst eo220
   refine X2.glue ?_
   try dsimp only at h
   rcases Xj with ⟨_|_,X0n⟩
   ·
    revert h
    exact fun e=>oj e▸X9 [] (k:=fi)
   obtain rfl:=X0n rfl
   revert h
   exact fun e=>oj e▸X9 [] (k:=fi)
  intro X0e Xd4 X0c eo220;subst eo220
  refine X2.glue ?_
  try dsimp only at h
  rcases X0c with ⟨_|_,X30⟩
  ·
   revert h
   exact fun e=>oj e▸X9 [] (k:=fi)
  obtain rfl:=X30 rfl
  revert h
  exact fun e=>oj e▸X9 [] (k:=fi)
 intro h
 have h6:¬ ((a0.length:Int)=0):=by simpa using q
 revert h
 refine bI fun u222 h223=>?_
 have qh223:=X08 h223
 refine bI fun o342 h343=>rnI [.pure _ (aI .i64 v1),Bf,.el (aI .i64 (a0.length:Int)),.el (aI .i64 (a0.length:Int))] (o:=by repeat' first|apply Ya|exact pcM|exact(Int.le_trans qh5.2.2 (by decide))|exact(by omega)|exact X0k) ?_
 intro h
 refine wkT [(0,1),(1,2)] (X2.cut (Xjq (V5.mk 0 0 a1.Key a1.Time a1.Value) a0 qh223 a0 0 (by simp) _ _ h343 ?_ ?_))
 ·
  intro Xe eo342;subst eo342
  refine X2.glue ?_
  try dsimp only at h
  revert h
  exact fun e=>oj e▸X9 [] (k:=fi)
 intro X0e Xd4 X0c eo342;subst eo342
 refine X2.glue ?_
 try dsimp only at h
 rcases X0c with ⟨_|_,X30⟩
 ·
  revert h
  exact fun e=>oj e▸X9 [] (k:=fi)
 obtain rfl:=X30 rfl
 revert h
 exact fun e=>oj e▸X9 [] (k:=fi)⟩
instance Xho:PCs Tryz.prog 35 (∀ (a0:(List X05)) (a1:X7) (r:Int×Int),X67 a0 a1=some r->X0g Tryz.prog 35 [(Lf (a0.map X4)),(X0 a1)] (AV.tup [(aI .i64 r.1),(aI .i64 r.2)])):=⟨fun a0 a1 r h=>by
 refine X0g.sym Xa fn35 (nt:=23) rfl rfl ?_ okM
 unfold X67 at h
 revert h
 refine bI fun v1 h2=>brI (fun h3=>fun e=>oj e▸X9 [.pure _ (AV.tup [(AV.list true (List.map (aI .i64) v1.1)),(aI .i64 v1.2)]),Bt] (k:=fi)) fun h3=>bI fun e4 h5=>?_
 try have qh5:=Xn h5
 exact fun e=>oj e▸X9 [.pure _ (AV.tup [(AV.list true (List.map (aI .i64) v1.1)),(aI .i64 v1.2)]),Bf,.el (aI .i64 (v1.1.length:Int)),.wrap,.el (aI .i64 e4)] (k:=fi)⟩
instance Xxz:PCs Tryz.prog 50 (∀ (a0:Xu) (a1:X7) (r:X7×Bool),X73 a0 a1=some r->X0g Tryz.prog 50 [(Xm false a0),(X0 a1)] (AV.tup [(X0 r.1),(aB r.2)])):=⟨fun a0 a1 r h=>by
 refine X0g.sym Xa fn50 (nt:=47) rfl rfl ?_ okM
 unfold X73 at h
 revert h
 refine brI (fun h1=>?_) fun h1=>?_
 ·
  refine bI fun v2 h3=>brI (fun h4=>fun e=>oj e▸X9 [.el (aI .i64 (a0.Where.length:Int)),Bt,.pure _ (AV.tup [(aI .i64 v2.1),(aI .i64 v2.2)]),Bt] (k:=fi)) fun h4=>bI fun Xpj h8=>rnI [.el (aI .i64 (a0.Where.length:Int)),Bt,.pure _ (AV.tup [(aI .i64 v2.1),(aI .i64 v2.2)]),Bf] ?_
  intro h
  refine X2.join (s':=⟨fr [(2,(AV.ptr 0 0 0)),(3,(AV.ptr 1 0 0)),(4,(AV.ptr 2 0 0)),(8,(AV.ptr 3 0 0))],hp ([(0,Ob [(Xm false a0)] 10),(1,Ob [(X0 a1)] 3),(2,Ob [(X0 (X7.mk 0 0 0))] 3),(3,Ob [(X0 Xpj)] 3)]),4⟩) ?_ (fun J=>X2.cut ?_)
  ·
   revert h
   refine bI fun Xs3 h16=>rnI [] ?_
   intro h
   refine X2.join (s':=⟨fr [(4,(AV.ptr 0 0 0)),(8,(AV.ptr 1 0 0))],hp ([(0,Ob [(X0 (X7.mk 0 0 0))] 3),(1,Ob [(X0 Xs3)] 3)]),2⟩) ?_ (fun J=>X2.cut ?_)
   ·
    revert h
    exact fun e=>oj e▸X9 [] (k:=fi)
   clear h;revert h16
   refine brI (fun h13=>?_) fun h13=>?_
   ·
    refine bI fun v14 h15=>?_
    intro h
    obtain rfl:=oj h
    exact X9 [Bt,.pure _ (AV.tup [(aI .i64 v14.1),(aI .i64 v14.2)])] (k:=wkT [(0,2),(1,3)] (X2.glue J))
   intro h
   obtain rfl:=oj h
   exact X9 [Bf] (k:=wkT [(0,2),(1,3)] (X2.glue J))
  clear h;revert h8
  refine brI (fun h7=>?_) fun h7=>?_
  ·
   intro h
   obtain rfl:=oj h
   exact X9 [Bt] (k:=wkT [] (X2.glue J))
  intro h
  obtain rfl:=oj h
  exact X9 [Bf] (k:=wkT [] (X2.glue J))
 refine bI fun Xs2 h20=>rnI [.el (aI .i64 (a0.Where.length:Int)),Bf] ?_
 intro h
 refine X2.join (s':=⟨fr [(2,(AV.ptr 0 0 0)),(3,(AV.ptr 1 0 0)),(4,(AV.ptr 2 0 0)),(8,(AV.ptr 3 0 0))],hp ([(0,Ob [(Xm false a0)] 10),(1,Ob [(X0 a1)] 3),(2,Ob [(X0 (X7.mk 0 0 0))] 3),(3,Ob [(X0 Xs2)] 3)]),4⟩) ?_ (fun J=>X2.cut ?_)
 ·
  revert h
  refine bI fun X01u h28=>rnI [] ?_
  intro h
  refine X2.join (s':=⟨fr [(4,(AV.ptr 0 0 0)),(8,(AV.ptr 1 0 0))],hp ([(0,Ob [(X0 (X7.mk 0 0 0))] 3),(1,Ob [(X0 X01u)] 3)]),2⟩) ?_ (fun J=>X2.cut ?_)
  ·
   revert h
   exact fun e=>oj e▸X9 [] (k:=fi)
  clear h;revert h28
  refine brI (fun h25=>?_) fun h25=>?_
  ·
   refine bI fun v26 h27=>?_
   intro h
   obtain rfl:=oj h
   exact X9 [Bt,.pure _ (AV.tup [(aI .i64 v26.1),(aI .i64 v26.2)])] (k:=wkT [(0,2),(1,3)] (X2.glue J))
  intro h
  obtain rfl:=oj h
  exact X9 [Bf] (k:=wkT [(0,2),(1,3)] (X2.glue J))
 clear h;revert h20
 refine brI (fun h19=>?_) fun h19=>?_
 ·
  intro h
  obtain rfl:=oj h
  exact X9 [Bt] (k:=wkT [] (X2.glue J))
 intro h
 obtain rfl:=oj h
 exact X9 [Bf] (k:=wkT [] (X2.glue J))⟩
instance X58:PCs Tryz.prog 121 (∀ (a0:X0b) (r:Int),X40 a0=some r->X0g Tryz.prog 121 [(X0d a0)] (aI .i64 r)):=⟨fun a0 r h=>by
 refine X0g.sym Xa X0ec (nt:=43) rfl rfl ?_ okM
 unfold X40 at h
 revert h
 refine bI fun j4_3 h8=>rnI [] ?_
 intro h
 refine X2.join (s':=⟨fr [(3,(aB j4_3))],hp ([]),0⟩) ?_ (fun J=>X2.cut ?_)
 ·
  revert h
  exact brI (fun h9=>fun e=>oj e▸X9 [Bt] (k:=fi)) fun h9=>fun e=>oj e▸X9 [Bf] (k:=fi)
 clear h;revert h8
 refine brI (fun h5=>?_) fun h5=>?_
 ·
  intro h
  obtain rfl:=oj h
  exact X9 [Bt] (k:=wkT [] (X2.glue J))
 refine brI (fun h6=>?_) fun h6=>?_
 ·
  intro h
  obtain rfl:=oj h
  exact X9 [Bf,Bt] (k:=wkT [] (X2.glue J))
 refine brI (fun h7=>?_) fun h7=>?_
 ·
  intro h
  obtain rfl:=oj h
  exact X9 [Bf,Bf,Bt] (k:=wkT [] (X2.glue J))
 intro h
 obtain rfl:=oj h
 exact X9 [Bf,Bf,Bf] (k:=wkT [] (X2.glue J))⟩
instance Xh0:PCs Tryz.prog 109 (∀ (a0:X8) (r:Bool),Xb3 a0=some r->X0g Tryz.prog 109 [(X5 a0)] (aB r)):=⟨fun a0 r h=>by
 refine X0g.sym Xa X0ek (nt:=46) rfl rfl ?_ okM
 unfold Xb3 at h
 revert h
 refine brI (fun h1=>fun e=>oj e▸X9 [Bt] (k:=fi)) fun h1=>bI fun j8_2 h15=>rnI [Bf,.stop 3] ?_
 intro h
 refine X2.join (s':=⟨fr [(2,(aB j8_2))],hp ([]),0⟩) ?_ (fun J=>X2.cut ?_)
 ·
  revert h
  exact fun e=>oj e▸X9 [] (k:=fi)
 clear h;revert h15
 refine bI fun v9 h10=>brI (fun h11=>?_) fun h11=>?_
 ·
  refine bI fun v12 h13=>brI (fun h14=>?_) fun h14=>?_
  ·
   intro h
   obtain rfl:=oj h
   exact X9 [.ix 0,.pure _ (aI .i64 v9),.go true,.go true,.ix 1,.go true,.go true,.pure _ (aI .i64 v12),.go true,.go true,.go true,.ix 0,.go true,.go true,.go true,.go true,.ix 1,.go true,.go true,.go true,.wrap,.go true] (o:=by repeat' first|apply Ya|exact pcM|exact((Xas h11 h14))|exact(X6x (Xas h11 h14))|exact(absN (Xas h11 h14))|exact X0k) (k:=wkT [] (X2.glue J))
  intro h
  obtain rfl:=oj h
  exact X9 [.ix 0,.pure _ (aI .i64 v9),.go true,.go true,.ix 1,.go true,.go true,.pure _ (aI .i64 v12),.go true,.go false,.go false,.go false,.go false,.go false,.go false,.go false,.go false,.go false,.go false] (o:=by repeat' first|apply Ya|exact pcM|exact((Xas h11 h14))|exact(X6x (Xas h11 h14))|exact(absT (Xas h11 h14))|exact X0k) (k:=wkT [] (X2.glue J))
 intro h
 obtain rfl:=oj h
 exact X9 [.ix 0,.pure _ (aI .i64 v9),.go false,.go false,.go false,.go false,.go false,.go false,.go false,.go false,.go false,.go false,.go false,.go false,.go false,.go false,.go false] (o:=by repeat' first|apply Ya|exact pcM|exact((X6y h11 rfl))|exact(X6x (X6y h11 rfl))|exact(absT (X6y h11 rfl))|exact X0k) (k:=wkT [] (X2.glue J))⟩
instance Xwr:PCs Tryz.prog 102 (∀ (a0:Int) (r:Bool),X3f a0=some r->X0g Tryz.prog 102 [(aI .i64 a0)] (aB r)):=⟨fun a0 r h=>by
 refine X0g.sym Xa X0eq (nt:=6) rfl rfl ?_ okM
 unfold X3f at h
 revert h
 exact fun e=>oj e▸X9 [] (k:=fi)⟩
instance Xt4:PCs Tryz.prog 66 (∀ (a0:Int) (a1:Int) (r:Int),X0j a0 a1=some r->X0g Tryz.prog 66 [(aI .i64 a0),(aI .i64 a1)] (aI .i64 r)):=⟨fun a0 a1 r h=>by
 refine X0g.sym Xa fn66 (nt:=20) rfl rfl ?_ okM
 unfold X0j at h
 revert h
 exact bI fun v1 h2=>bI fun v3 h4=>brI (fun h5=>brI (fun h6=>fun e=>oj e▸X9 [.pure _ (aB v1),.pure _ (aB v3),Bt,Bt] (k:=fi)) fun h6=>fun e=>oj e▸X9 [.pure _ (aB v1),.pure _ (aB v3),Bt,Bf] (k:=fi)) fun h5=>brI (fun h7=>fun e=>oj e▸X9 [.pure _ (aB v1),.pure _ (aB v3),Bf,Bt] (k:=fi)) fun h7=>brI (fun h8=>fun e=>oj e▸X9 [.pure _ (aB v1),.pure _ (aB v3),Bf,Bf,Bt] (k:=fi)) fun h8=>brI (fun h9=>fun e=>oj e▸X9 [.pure _ (aB v1),.pure _ (aB v3),Bf,Bf,Bf,Bt] (k:=fi)) fun h9=>fun e=>oj e▸X9 [.pure _ (aB v1),.pure _ (aB v3),Bf,Bf,Bf,Bf] (k:=fi)⟩
theorem Xku {Q:X02->St->Mu->Prop} {μ:Mu} (Xht:(List Int)) (hl:Xht.length<=140737488355328):∀ (xs:List Int) (k:Nat) (hx:Xht.drop k=xs) (o:X8t) (h:X3u Xht xs k  = some o)
  (C0:o=X8t.x0->X2 Tryz.prog 18 0 Q (.exit (.exit 0)) [] ⟨fr [(3,(aI .i64 0))],hp ([]),0⟩ μ)
  (C1:∀ (X53:Int),o=X8t.x1 X53->X2 Tryz.prog 18 0 Q (.exit .ret) [] ⟨fr [(2,(aI .i64 X53))],hp ([]),0⟩ μ),
  X2 Tryz.prog 18 0 Q (.loop (X2v 0 (Xh Tryz.f65))) [] ⟨fr [(3,(aI .i64 0)),(6,(Lf (List.map (aI .i64) Xht))),(7,(aI .i64 (Xht.length:Int))),(8,(aI .i64 (k:Int)))],hp ([]),0⟩ μ:=by
 intro xs
 induction xs with
 |nil =>
  intro k hx  o h C0 C1
  have hk:=drop_nil hx
  have hc:decide ((k:Int)<(Xht.length:Int))=false:=Yf (by omega)
  rw[X3u] at h
  refine X2.round ?_
  revert h
  exact fun e=>X9 [Bf] (k:=wkT [] (C0  (oj e).symm))
 |cons x xs ih =>
  intro k hx  o h C0 C1
  obtain⟨hk,hg,hx1⟩:=drop_cons hx
  have hc:decide ((k:Int)<(Xht.length:Int))=true:=Yt (by omega)
  rw[X3u] at h
  refine X2.round ?_
  revert h
  refine brI (fun h6=>fun e=>X9 [Bt,.el (aI .i64 x),Bt] (k:=wkT [] (C1 _  (oj e).symm))) fun h6=>rnI [Bt,.el (aI .i64 x),Bf] ?_
  intro h
  exact wkT [] (ih (k+1) hx1  o h C0 C1)
instance X06q:PCs Tryz.prog 65 (∀ (a0:(List Int)) (r:Int),X81 a0=some r->X0g Tryz.prog 65 [(Lf (List.map (aI .i64) a0))] (aI .i64 r)):=⟨fun a0 r h=>by
 refine X0g.sym Xa fn65 (nt:=18) rfl rfl ?_ okM
 unfold X81 at h
 revert h
 refine bI fun u1 h2=>?_
 have qh2:=X08 h2
 refine bI fun o7 h8=>rnI [.el (aI .i64 (a0.length:Int))] ?_
 intro h
 refine wkT [] (X2.cut (Xku a0 qh2 a0 0 (by simp) _ h8 ?_ ?_))
 ·
  intro eo7;subst eo7
  refine X2.glue ?_
  try dsimp only at h
  revert h
  exact fun e=>oj e▸X9 [] (k:=fi)
 intro X53 eo7;subst eo7
 refine X2.glue ?_
 try dsimp only at h
 revert h
 exact fun e=>oj e▸X9 [] (k:=fi)⟩
instance X03n:PCs Tryz.prog 110 (∀ (a0:X8) (a1:X8) (r:Int),X7j a0 a1=some r->X0g Tryz.prog 110 [(X5 a0),(X5 a1)] (aI .i64 r)):=⟨fun a0 a1 r h=>by
 refine X0g.sym Xa X0ej (nt:=26) rfl rfl ?_ okM
 unfold X7j at h
 revert h
 exact bI fun v1 h2=>bI fun v3 h4=>bI fun v5 h6=>bI fun v7 h8=>fun e=>oj e▸X9 [.pure _ (aI .i64 v1),.pure _ (aI .i64 v3),.pure _ (aI .i64 v5),.pure _ (aI .i64 v7)] (k:=fi)⟩
theorem X98 {Q:X02->St->Mu->Prop} {μ:Mu} (X00:(List X8)) (hl:X00.length<=140737488355328):∀ (xs:List X8) (k:Nat) (hx:X00.drop k=xs) (o:X76) (h:X4p X00 xs k  = some o)
  (C0:o=X76.x0->X2 Tryz.prog 33 0 Q (.exit (.exit 0)) [] ⟨fr [],hp ([]),0⟩ μ)
  (C1:o=X76.x1->X2 Tryz.prog 33 0 Q (.exit .ret) [] ⟨fr [(2,(aI .i64 8))],hp ([]),0⟩ μ),
  X2 Tryz.prog 33 0 Q (.loop (X2v 0 (Xh Tryz.f77))) [] ⟨fr [(0,(Lf (X00.map X5))),(8,(Lf (X00.map X5))),(9,(aI .i64 (X00.length:Int))),(10,(aI .i64 (k:Int)))],hp ([]),0⟩ μ:=by
 intro xs
 induction xs with
 |nil =>
  intro k hx  o h C0 C1
  have hk:=drop_nil hx
  have hc:decide ((k:Int)<(X00.length:Int))=false:=Yf (by omega)
  rw[X4p] at h
  refine X2.round ?_
  revert h
  exact fun e=>X9 [Bf] (k:=wkT [] (C0  (oj e).symm))
 |cons x xs ih =>
  intro k hx  o h C0 C1
  obtain⟨hk,hg,hx1⟩:=drop_cons hx
  have hc:decide ((k:Int)<(X00.length:Int))=true:=Yt (by omega)
  rw[X4p] at h
  refine X2.round ?_
  revert h
  refine bI fun X01p h60=>rnI [Bt,.el (X5 x),.stop 6] ?_
  intro h
  refine X2.join (s':=⟨fr [(0,(Lf (X00.map X5))),(8,(Lf (X00.map X5))),(9,(aI .i64 (X00.length:Int))),(10,(aI .i64 (k:Int))),(31,(aB X01p))],hp ([]),0⟩) ?_ (fun J=>X2.cut ?_)
  ·
   revert h
   refine brI (fun h61=>fun e=>X9 [Bt] (k:=wkT [] (C1  (oj e).symm))) fun h61=>rnI [Bf] ?_
   intro h
   exact wkT [] (ih (k+1) hx1  o h C0 C1)
  clear h;revert h60
  refine bI fun v52 h53=>brI (fun h54=>?_) fun h54=>?_
  ·
   intro h
   obtain rfl:=oj h
   exact X9 [.pure _ (aB v52),.go false,.go false,.go false,.no,.no,.no,.no,.no,.no,.no,.no,.go false,.go true] (k:=wkT [] (X2.glue J))
  refine brI (fun h55=>?_) fun h55=>?_
  ·
   refine bI fun e56 h57=>?_
   try have qh57:=Xn h57
   refine bI fun v58 h59=>?_
   intro h
   obtain rfl:=oj h
   exact X9 [.pure _ (aB v52),.go true,.go true,.go true,.go true,.go true,.go true,.wrap,.go true,.el (X5 e56),.go true,.go true,.go true,.pure _ (aI .i64 v58),.go true,.go true] (k:=wkT [] (X2.glue J))
  intro h
  obtain rfl:=oj h
  exact X9 [.pure _ (aB v52),.go true,.go true,.go true,.go false,.go false,.go false,.go false,.go false,.go false,.go false,.go false,.go true,.go false] (k:=wkT [] (X2.glue J))
instance Xcs:PCs Tryz.prog 77 (∀ (a0:(List X8)) (r:Int),Xb4 a0=some r->X0g Tryz.prog 77 [(Lf (a0.map X5))] (aI .i64 r)):=⟨fun a0 r h=>by
 refine X0g.sym Xa fn77 (nt:=33) rfl rfl ?_ okM
 unfold Xb4 at h
 revert h
 refine brI (fun h1=>fun e=>oj e▸X9 [.el (aI .i64 (a0.length:Int)),Bt] (k:=fi)) fun h1=>bI fun u2 h3=>?_
 have qh3:=X08 h3
 refine bI fun o62 h63=>rnI [.el (aI .i64 (a0.length:Int)),Bf,.el (aI .i64 (a0.length:Int))] ?_
 intro h
 refine wkT [] (X2.cut (X98 a0 qh3 a0 0 (by simp) _ h63 ?_ ?_))
 ·
  intro eo62;subst eo62
  refine X2.glue ?_
  try dsimp only at h
  revert h
  exact fun e=>oj e▸X9 [] (k:=fi)
 intro eo62;subst eo62
 refine X2.glue ?_
 try dsimp only at h
 revert h
 exact fun e=>oj e▸X9 [] (k:=fi)⟩
instance X07p:PCs Tryz.prog 79 (∀ (a0:Int) (r:X0b),Xc1 a0=some r->X0g Tryz.prog 79 [(aI .i64 a0)] (X0d r)):=⟨fun a0 r h=>by
 refine X0g.sym Xa fn79 (nt:=7) rfl rfl ?_ okM
 unfold Xc1 at h
 revert h
 exact fun e=>oj e▸X9 [] (k:=fi)⟩
instance Xz7:PCs Tryz.prog 111 (∀ (a0:Int) (a1:Int) (r:Int),X4h a0 a1=some r->X0g Tryz.prog 111 [(aI .i64 a0),(aI .i64 a1)] (aI .i64 r)):=⟨fun a0 a1 r h=>by
 refine X0g.sym Xa X0ei (nt:=17) rfl rfl ?_ okM
 unfold X4h at h
 revert h
 exact brI (fun h1=>fun e=>oj e▸X9 [Bt] (k:=fi)) fun h1=>brI (fun h2=>fun e=>oj e▸X9 [Bf,Bt] (k:=fi)) fun h2=>fun e=>oj e▸X9 [Bf,Bf] (k:=fi)⟩
instance Xwa:PCs Tryz.prog 166 (∀ (a0:Int) (r:Int),Xbw a0=some r->X0g Tryz.prog 166 [(aI .u64 a0)] (aI .i64 r)):=⟨fun a0 r h=>by
 refine X0g.sym Xa X0dl (nt:=25) rfl rfl ?_ okM
 unfold Xbw at h
 revert h
 refine bI fun w2 h4=>?_
 intro h
 obtain⟨j2_0,j2_2⟩:=w2
 try dsimp only at h
 refine X10 [] ?_
 refine X2.join (s':=⟨fr [(0,(aI .u64 j2_0)),(2,(aI .i64 j2_2))],hp ([]),0⟩) ?_ (fun J=>X2.cut ?_)
 ·
  revert h
  refine bI fun w6 h8=>?_
  intro h
  obtain⟨j6_0,j6_2⟩:=w6
  try dsimp only at h
  refine X10 [] ?_
  refine X2.join (s':=⟨fr [(0,(aI .u64 j6_0)),(2,(aI .i64 j6_2))],hp ([]),0⟩) ?_ (fun J=>X2.cut ?_)
  ·
   revert h
   refine bI fun w10 h12=>?_
   intro h
   obtain⟨X0d8,X0d7⟩:=w10
   try dsimp only at h
   refine X10 [] ?_
   refine X2.join (s':=⟨fr [(0,(aI .u64 X0d8)),(2,(aI .i64 X0d7))],hp ([]),0⟩) ?_ (fun J=>X2.cut ?_)
   ·
    revert h
    exact bI fun b13 h14=>fun e=>oj e▸X9 [.wrap,.el (aI .u8 b13),.wrap,.wrap] (o:=by repeat' first|apply Ya|exact pcM|exact(X9x h14)|exact(X0b2 (tab:=Xju) rfl h14)|exact X0k) (k:=fi)
   clear h;revert h12
   refine brI (fun h11=>?_) fun h11=>?_
   ·
    intro h
    simp only[Option.some.injEq,Prod.mk.injEq] at h
    obtain⟨rfl,rfl⟩:=h
    exact X9 [Bt,.wrap] (k:=wkT [] (X2.glue J))
   intro h
   simp only[Option.some.injEq,Prod.mk.injEq] at h
   obtain⟨rfl,rfl⟩:=h
   exact X9 [Bf] (k:=wkT [] (X2.glue J))
  clear h;revert h8
  refine brI (fun h7=>?_) fun h7=>?_
  ·
   intro h
   simp only[Option.some.injEq,Prod.mk.injEq] at h
   obtain⟨rfl,rfl⟩:=h
   exact X9 [Bt,.wrap] (k:=wkT [] (X2.glue J))
  intro h
  simp only[Option.some.injEq,Prod.mk.injEq] at h
  obtain⟨rfl,rfl⟩:=h
  exact X9 [Bf] (k:=wkT [] (X2.glue J))
 clear h;revert h4
 refine brI (fun h3=>?_) fun h3=>?_
 ·
  intro h
  simp only[Option.some.injEq,Prod.mk.injEq] at h
  obtain⟨rfl,rfl⟩:=h
  exact X9 [Bt] (k:=wkT [] (X2.glue J))
 intro h
 simp only[Option.some.injEq,Prod.mk.injEq] at h
 obtain⟨rfl,rfl⟩:=h
 exact X9 [Bf] (k:=wkT [] (X2.glue J))⟩
instance Xzg:PCs Tryz.prog 133 (∀ (a0:Int) (r:Int),Xan a0=some r->X0g Tryz.prog 133 [(aI .u64 a0)] (aI .i64 r)):=⟨fun a0 r h=>by
 refine X0g.sym Xa X0e2 (nt:=8) rfl rfl ?_ okM
 unfold Xan at h
 revert h
 exact bI fun v1 h2=>fun e=>oj e▸X9 [Bf,.pure _ (aI .i64 v1)] (k:=fi)⟩
theorem X4r {Q:X02->St->Mu->Prop} {μ:Mu} (X00:(List X8)) (Xf:X8) (Xgq:Int):∀ (n:Nat) (X84:Int) (X5z:Int) (o:X18) (h:Xz X00 Xf Xgq n X84 X5z=some o)
  (C0:∀ (Xgx:Int),o=X18.x0 Xgx->X2 Tryz.prog 49 0 Q (.exit (.exit 0)) [] ⟨fr [(0,(Lf (X00.map X5))),(2,(AV.fn 110 [])),(4,(AV.ptr 0 0 0)),(8,(aI .i64 Xgq)),(9,(aI .i64 Xgx))],hp ([(0,Ob [(X5 Xf)] 11)]),1⟩ μ),
  X2 Tryz.prog 49 0 Q (.loop (X2v 0 (Xh Tryz.f119))) [] ⟨fr [(0,(Lf (X00.map X5))),(2,(AV.fn 110 [])),(4,(AV.ptr 0 0 0)),(8,(aI .i64 Xgq)),(9,(aI .i64 X84)),(10,(aI .i64 X5z))],hp ([(0,Ob [(X5 Xf)] 11)]),1⟩ μ:=by
 intro n
 induction n with
 |zero=>intro X84 X5z o h C0;cases h
 |succ n ih =>
  intro X84 X5z o h C0
  rw[Xz] at h
  refine X2.round ?_
  revert h
  refine brI (fun h14=>?_) fun h14=>fun e=>X9 [Bf] (k:=wkT [] (C0 _  (oj e).symm))
  refine bI fun e15 h16=>?_
  try have qh16:=Xn h16
  refine bI fun v17 h18=>brI (fun h19=>?_) fun h19=>?_
  ·
   refine rnI [Bt,.wrap,.wrap,.wrap,.el (X5 e15),.pure _ (aI .i64 v17),Bt,.wrap] ?_
   intro h
   exact wkT [] (ih  _ _ o h C0)
  refine rnI [Bt,.wrap,.wrap,.wrap,.el (X5 e15),.pure _ (aI .i64 v17),Bf] ?_
  intro h
  exact wkT [] (ih  _ _ o h C0)
end Go.Av.Tryz