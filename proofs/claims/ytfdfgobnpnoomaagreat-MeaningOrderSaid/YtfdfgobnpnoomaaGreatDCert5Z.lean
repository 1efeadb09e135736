/- Printed by decomp.py: that the program computes the functions. -/
import Derived.Test.YtfdfgobnpnoomaaGreatDCert4Z
set_option linter.all false

namespace Go.Av.Tryz
open Go.Proofs Go.D
set_option maxRecDepth 10000
set_option maxHeartbeats 40000000
theorem Xhr {Q:Xy->St->Mu->Prop} {μ:Mu} (Xm:(V5 Int)) (X6x:(List Xw)) (hl:X6x.length<=140737488355328):∀ (xs:List Xw) (k:Nat) (hx:X6x.drop k=xs) (Xh:(List Int)) (Xs:Nb Xh) (o:X7g) (h:X4x Xm X6x xs k Xh=some o)
  (C0:∀ (Xr:(List Int)) (X03:Nb Xr),o=X7g.x0 Xr->X2 Tryz.prog 80 0 Q (.exit (.exit 0)) [] ⟨fr [(8,(slE X03.1 0 (List.map (aI .i64) Xr)))],hp ([]++opE X03.1 0 1 (List.map (aI .i64) Xr)),1⟩ μ)
  (C1:∀ (X04:(List Int)) (X9u:Int) (X02:Nb X04),o=X7g.x1 X04 X9u->X2 Tryz.prog 80 0 Q (.exit .ret) [] ⟨fr [(4,(slE X02.1 0 (List.map (aI .i64) X04))),(5,(aI .i64 X9u))],hp ([]++opE X02.1 0 1 (List.map (aI .i64) X04)),1⟩ μ),
  X2 Tryz.prog 80 0 Q (.loop (X4k 0 (Xl Tryz.f59))) [] ⟨fr [(7,(AV.ptr 0 0 0)),(8,(slE Xs.1 1 (List.map (aI .i64) Xh))),(28,(Lf (X6x.map X1))),(29,(aI .i64 (X6x.length:Int))),(30,(aI .i64 (k:Int)))],hp ([(0,Ob [(X89 Xm)] 5)]++opE Xs.1 1 1 (List.map (aI .i64) Xh)),2⟩ μ:=by
 intro xs
 induction xs with
 |nil =>
  intro k hx Xh Xs o h C0 C1
  have hk:=X18 hx
  have hc:decide ((k:Int)<(X6x.length:Int))=false:=Yf (by omega)
  rw[X4x] at h
  rcases Xs with ⟨_|_,X07⟩
  ·
   refine X2.round ?_
   revert h
   exact fun e=>X8 [Bf] (k:=wkT [(0,1)] (C0 _  nbF (oj e).symm))
  ·
   obtain rfl:=X07 rfl
   refine X2.round ?_
   revert h
   exact fun e=>X8 [Bf] (k:=wkT [] (C0 _  nbS (oj e).symm))
 |cons x xs ih =>
  intro k hx Xh Xs o h C0 C1
  obtain⟨hk,hg,hx1⟩:=X0r hx
  have hc:decide ((k:Int)<(X6x.length:Int))=true:=Yt (by omega)
  rw[X4x] at h
  rcases Xs with ⟨_|_,X07⟩
  ·
   refine X2.round ?_
   revert h
   refine brI (fun h150=>?_) fun h150=>?_
   ·
    refine bI fun e151 h152=>?_
    try have qh152:=Xp h152
    refine rnI [Bt,.el (X1 x),Bt,.el (aI .i64 e151),.ld (aI .i64 e151)] (o:=by repeat' first|apply Ya|exact pcM|exact(List.getElem?_set_self (by have hq:=X1t h152;simp;omega)).trans rfl|exact X08) ?_
    intro h
    exact wkT [] (ih (k+1) hx1 _ nbF o h C0 C1)
   refine brI (fun h153=>?_) fun h153=>?_
   ·
    refine bI fun Xhi h179=>rnI [Bt,.el (X1 x),Bf,Bt,.stop 16] ?_
    intro h
    refine X2.joinF (fun(q:Nb Xhi)=>⟨fr [(7,(AV.ptr 0 0 0)),(8,(slE q.1 1 (List.map (aI .i64) Xhi))),(28,(Lf (X6x.map X1))),(29,(aI .i64 (X6x.length:Int))),(30,(aI .i64 (k:Int)))],hp ([(0,Ob [(X89 Xm)] 5)]++opE q.1 1 1 (List.map (aI .i64) Xhi)),2⟩) ?_ (fun J=>X2.cut ?_)
    ·
     rintro Xr3
     rcases Xr3 with ⟨_|_,Xru⟩
     ·
      exact X8 [] (k:=wkT [] (ih (k+1) hx1 _ nbF o h C0 C1))
     obtain rfl:=Xru rfl
     exact X8 [] (k:=wkT [] (ih (k+1) hx1 _ nbS o h C0 C1))
    clear h;revert h179
    refine brI (fun h167=>?_) fun h167=>?_
    ·
     refine bI fun e168 h169=>?_
     try have qh169:=Xp h169
     intro h
     obtain rfl:=oj h
     exact X8 [.ix 0,.el (aI .i64 e168),.ld (aI .i64 e168)] (o:=by repeat' first|apply Ya|exact pcM|exact((eq_of_beq h167))|exact(List.getElem?_set_self (by have hq:=X1t h169;simp;omega)).trans rfl|exact X08) (k:=wkT [] (X2.glue (J nbF)))
    refine brI (fun h170=>?_) fun h170=>?_
    ·
     refine bI fun e171 h172=>?_
     try have qh172:=Xp h172
     intro h
     obtain rfl:=oj h
     exact X8 [.ix 2,.el (aI .i64 e171),.ld (aI .i64 e171)] (o:=by repeat' first|apply Ya|exact pcM|exact((eq_of_beq h170))|exact(List.getElem?_set_self (by have hq:=X1t h172;simp;omega)).trans rfl|exact X08) (k:=wkT [] (X2.glue (J nbF)))
    refine brI (fun h173=>?_) fun h173=>?_
    ·
     refine bI fun e174 h175=>?_
     try have qh175:=Xp h175
     intro h
     obtain rfl:=oj h
     exact X8 [.ix 3,.el (aI .i64 e174),.ld (aI .i64 e174)] (o:=by repeat' first|apply Ya|exact pcM|exact((eq_of_beq h173))|exact(List.getElem?_set_self (by have hq:=X1t h175;simp;omega)).trans rfl|exact X08) (k:=wkT [] (X2.glue (J nbF)))
    refine brI (fun h176=>?_) fun h176=>?_
    ·
     refine bI fun e177 h178=>?_
     try have qh178:=Xp h178
     intro h
     obtain rfl:=oj h
     exact X8 [.ix 4,.el (aI .i64 e177),.ld (aI .i64 e177)] (o:=by repeat' first|apply Ya|exact pcM|exact((eq_of_beq h176))|exact(List.getElem?_set_self (by have hq:=X1t h178;simp;omega)).trans rfl|exact X08) (k:=wkT [] (X2.glue (J nbF)))
    intro h
    cases h
   refine bI fun e180 h181=>?_
   try have qh181:=Xp h181
   refine bI fun e182 h183=>?_
   try have qh183:=Xp h183
   refine bI fun v184 h185=>rnI [Bt,.el (X1 x),Bf,Bf,.el (aI .i64 e180),.ld (aI .i64 e180),.el (aI .i64 e182),.ld (aI .i64 e182),.pure _ (AV.tup [(aI .i64 v184.1),(aI .i64 v184.2)])] ?_
   refine brI (fun h186=>fun e=>X8 [Bt] (k:=wkT [] (C1 _ _  nbS (oj e).symm))) fun h186=>bI fun e187 h188=>?_
   try have qh188:=Xp h188
   refine rnI [Bf,.el (aI .i64 e187),.ld (aI .i64 e187)] (o:=by repeat' first|apply Ya|exact pcM|exact(List.getElem?_set_self (by have hq:=X1t h188;simp;omega)).trans rfl|exact X08) ?_
   intro h
   exact wkT [] (ih (k+1) hx1 _ nbF o h C0 C1)
  obtain rfl:=X07 rfl
  refine X2.round ?_
  revert h
  refine brI (fun h189=>?_) fun h189=>?_
  ·
   refine bI fun e190 h191=>?_
   try have qh191:=Xp h191
   intro h
   exact absurd (h191) (by simp[X1w])
  refine brI (fun h192=>?_) fun h192=>?_
  ·
   refine bI fun _ h205=>?_
   intro h
   clear h;have h:=h205
   revert h
   refine brI (fun h206=>?_) fun h206=>?_
   ·
    refine bI fun e207 h208=>?_
    try have qh208:=Xp h208
    intro h
    exact absurd (h208) (by simp[X1w])
   refine brI (fun h209=>?_) fun h209=>?_
   ·
    refine bI fun e210 h211=>?_
    try have qh211:=Xp h211
    intro h
    exact absurd (h211) (by simp[X1w])
   refine brI (fun h212=>?_) fun h212=>?_
   ·
    refine bI fun e213 h214=>?_
    try have qh214:=Xp h214
    intro h
    exact absurd (h214) (by simp[X1w])
   refine brI (fun h215=>?_) fun h215=>?_
   ·
    refine bI fun e216 h217=>?_
    try have qh217:=Xp h217
    intro h
    exact absurd (h217) (by simp[X1w])
   intro h
   cases h
  refine bI fun e218 h219=>?_
  try have qh219:=Xp h219
  intro h
  exact absurd (h219) (by simp[X1w])
theorem Xeo {Q:Xy->St->Mu->Prop} {μ:Mu} (Xm:(V5 Int)) (X6x:(List Xw)) (hl:X6x.length<=140737488355328):∀ (xs:List Xw) (k:Nat) (hx:X6x.drop k=xs) (Xh:(List Int)) (o:X5o) (h:X1x Xm X6x xs k Xh=some o)
  (C0:∀ (Xr:(List Int)),o=X5o.x0 Xr->X2 Tryz.prog 80 0 Q (.exit (.exit 0)) [] ⟨fr [(8,(AV.ref 0 0 (Xr.length)))],hp ([(0,Ob (List.map (aI .i64) Xr) 1)]),1⟩ μ)
  (C1:∀ (X04:(List Int)) (X9u:Int) (X02:Nb X04),o=X5o.x1 X04 X9u->X2 Tryz.prog 80 0 Q (.exit .ret) [] ⟨fr [(4,(slE X02.1 0 (List.map (aI .i64) X04))),(5,(aI .i64 X9u))],hp ([]++opE X02.1 0 1 (List.map (aI .i64) X04)),1⟩ μ),
  X2 Tryz.prog 80 0 Q (.loop (X4k 0 (Xl Tryz.f59))) [] ⟨fr [(7,(AV.ptr 0 0 0)),(8,(AV.ref 1 0 (Xh.length))),(28,(Lf (X6x.map X1))),(29,(aI .i64 (X6x.length:Int))),(30,(aI .i64 (k:Int)))],hp ([(0,Ob [(X89 Xm)] 5),(1,Ob (List.map (aI .i64) Xh) 1)]),2⟩ μ:=by
 intro xs
 induction xs with
 |nil =>
  intro k hx Xh o h C0 C1
  have hk:=X18 hx
  have hc:decide ((k:Int)<(X6x.length:Int))=false:=Yf (by omega)
  rw[X1x] at h
  refine X2.round ?_
  revert h
  exact fun e=>X8 [Bf] (k:=wkT [(0,1)] (C0 _  (oj e).symm))
 |cons x xs ih =>
  intro k hx Xh o h C0 C1
  obtain⟨hk,hg,hx1⟩:=X0r hx
  have hc:decide ((k:Int)<(X6x.length:Int))=true:=Yt (by omega)
  rw[X1x] at h
  refine X2.round ?_
  revert h
  refine brI (fun h303=>?_) fun h303=>?_
  ·
   refine bI fun e304 h305=>?_
   try have qh305:=Xp h305
   refine rnI [Bt,.el (X1 x),Bt,.el (aI .i64 e304),.ld (aI .i64 e304)] (o:=by repeat' first|apply Ya|exact pcM|exact(List.getElem?_set_self (by have hq:=X1t h305;simp;omega)).trans rfl|exact X08) ?_
   intro h
   exact wkT [] (ih (k+1) hx1 _ o h C0 C1)
  refine brI (fun h306=>?_) fun h306=>?_
  ·
   refine bI fun Xk4 h332=>rnI [Bt,.el (X1 x),Bf,Bt,.stop 16] ?_
   intro h
   refine X2.join (s':=⟨fr [(7,(AV.ptr 0 0 0)),(8,(AV.ref 1 0 (Xk4.length))),(28,(Lf (X6x.map X1))),(29,(aI .i64 (X6x.length:Int))),(30,(aI .i64 (k:Int)))],hp ([(0,Ob [(X89 Xm)] 5),(1,Ob (List.map (aI .i64) Xk4) 1)]),2⟩) ?_ (fun J=>X2.cut ?_)
   ·
    exact X8 [] (k:=wkT [] (ih (k+1) hx1 _ o h C0 C1))
   clear h;revert h332
   refine brI (fun h320=>?_) fun h320=>?_
   ·
    refine bI fun e321 h322=>?_
    try have qh322:=Xp h322
    intro h
    obtain rfl:=oj h
    exact X8 [.ix 0,.el (aI .i64 e321),.ld (aI .i64 e321)] (o:=by repeat' first|apply Ya|exact pcM|exact((eq_of_beq h320))|exact(List.getElem?_set_self (by have hq:=X1t h322;simp;omega)).trans rfl|exact X08) (k:=wkT [] (X2.glue J))
   refine brI (fun h323=>?_) fun h323=>?_
   ·
    refine bI fun e324 h325=>?_
    try have qh325:=Xp h325
    intro h
    obtain rfl:=oj h
    exact X8 [.ix 2,.el (aI .i64 e324),.ld (aI .i64 e324)] (o:=by repeat' first|apply Ya|exact pcM|exact((eq_of_beq h323))|exact(List.getElem?_set_self (by have hq:=X1t h325;simp;omega)).trans rfl|exact X08) (k:=wkT [] (X2.glue J))
   refine brI (fun h326=>?_) fun h326=>?_
   ·
    refine bI fun e327 h328=>?_
    try have qh328:=Xp h328
    intro h
    obtain rfl:=oj h
    exact X8 [.ix 3,.el (aI .i64 e327),.ld (aI .i64 e327)] (o:=by repeat' first|apply Ya|exact pcM|exact((eq_of_beq h326))|exact(List.getElem?_set_self (by have hq:=X1t h328;simp;omega)).trans rfl|exact X08) (k:=wkT [] (X2.glue J))
   refine brI (fun h329=>?_) fun h329=>?_
   ·
    refine bI fun e330 h331=>?_
    try have qh331:=Xp h331
    intro h
    obtain rfl:=oj h
    exact X8 [.ix 4,.el (aI .i64 e330),.ld (aI .i64 e330)] (o:=by repeat' first|apply Ya|exact pcM|exact((eq_of_beq h329))|exact(List.getElem?_set_self (by have hq:=X1t h331;simp;omega)).trans rfl|exact X08) (k:=wkT [] (X2.glue J))
   intro h
   cases h
  refine bI fun e333 h334=>?_
  try have qh334:=Xp h334
  refine bI fun e335 h336=>?_
  try have qh336:=Xp h336
  refine bI fun v337 h338=>rnI [Bt,.el (X1 x),Bf,Bf,.el (aI .i64 e333),.ld (aI .i64 e333),.el (aI .i64 e335),.ld (aI .i64 e335),.pure _ (AV.tup [(aI .i64 v337.1),(aI .i64 v337.2)])] ?_
  refine brI (fun h339=>fun e=>X8 [Bt] (k:=wkT [] (C1 _ _  nbS (oj e).symm))) fun h339=>bI fun e340 h341=>?_
  try have qh341:=Xp h341
  refine rnI [Bf,.el (aI .i64 e340),.ld (aI .i64 e340)] (o:=by repeat' first|apply Ya|exact pcM|exact(List.getElem?_set_self (by have hq:=X1t h341;simp;omega)).trans rfl|exact X08) ?_
  intro h
  exact wkT [] (ih (k+1) hx1 _ o h C0 C1)
instance Xza:PCs Tryz.prog 59 (∀ (a0:(List Xw)) (a1:Xb) (r:(List Int)×Int),Xdr a0 a1=some r->X0o Tryz.prog 59 [(Lf (a0.map X1)),(X3 a1)] (AV.tup [(AV.list true (List.map (aI .i64) r.1)),(aI .i64 r.2)])):=⟨fun a0 a1 r h=>by
 refine X0o.sym X9 fn59 (nt:=80) rfl rfl ?_ okM
 unfold Xdr at h
 revert h
 refine bI fun v1 h2=>brI (fun h3=>fun e=>oj e▸X8 [.pure _ (aI .i64 v1),Bt] (k:=fi)) fun h3=>bI fun u4 h5=>?_
 have qh5:=X00f h5
 refine brI (fun q=>?_) fun q=>?_
 ·
  intro h
  have h6:(a0.length:Int)=0:=by simpa using q
  revert h
  refine bI fun u7 h8=>?_
  have qh8:=X09 h8
  refine bI fun o220 h221=>rnI [.pure _ (aI .i64 v1),Bf,.el (aI .i64 (a0.length:Int)),.ne false,.el (aI .i64 (a0.length:Int))] (o:=by repeat' first|apply Ya|exact pcM|exact(Int.le_trans qh5.2.2 (by decide))|exact(by omega)|exact X08) ?_
  intro h
  refine wkT [(0,1)] (X2.cut (Xhr (V5.mk 0 0 a1.Key a1.Time a1.Value) a0 qh8 a0 0 (by simp) _ nbS _ h221 ?_ ?_))
  ·
   intro Xr X03 eo220;subst eo220
   refine X2.glue ?_
   try dsimp only at h
   rcases X03 with ⟨_|_,X2e⟩
   ·
    revert h
    exact fun e=>oj e▸X8 [] (k:=fi)
   obtain rfl:=X2e rfl
   revert h
   exact fun e=>oj e▸X8 [] (k:=fi)
  intro X04 X9u X02 eo220;subst eo220
  refine X2.glue ?_
  try dsimp only at h
  rcases X02 with ⟨_|_,X2b⟩
  ·
   revert h
   exact fun e=>oj e▸X8 [] (k:=fi)
  obtain rfl:=X2b rfl
  revert h
  exact fun e=>oj e▸X8 [] (k:=fi)
 intro h
 have h6:¬ ((a0.length:Int)=0):=by simpa using q
 revert h
 refine bI fun u222 h223=>?_
 have qh223:=X09 h223
 refine bI fun o342 h343=>rnI [.pure _ (aI .i64 v1),Bf,.el (aI .i64 (a0.length:Int)),.el (aI .i64 (a0.length:Int))] (o:=by repeat' first|apply Ya|exact pcM|exact(Int.le_trans qh5.2.2 (by decide))|exact(by omega)|exact X08) ?_
 intro h
 refine wkT [(0,1),(1,2)] (X2.cut (Xeo (V5.mk 0 0 a1.Key a1.Time a1.Value) a0 qh223 a0 0 (by simp) _ _ h343 ?_ ?_))
 ·
  intro Xr eo342;subst eo342
  refine X2.glue ?_
  try dsimp only at h
  revert h
  exact fun e=>oj e▸X8 [] (k:=fi)
 intro X04 X9u X02 eo342;subst eo342
 refine X2.glue ?_
 try dsimp only at h
 rcases X02 with ⟨_|_,X2b⟩
 ·
  revert h
  exact fun e=>oj e▸X8 [] (k:=fi)
 obtain rfl:=X2b rfl
 revert h
 exact fun e=>oj e▸X8 [] (k:=fi)⟩
instance Xd2:PCs Tryz.prog 35 (∀ (a0:(List Xw)) (a1:Xb) (r:Int×Int),X5n a0 a1=some r->X0o Tryz.prog 35 [(Lf (a0.map X1)),(X3 a1)] (AV.tup [(aI .i64 r.1),(aI .i64 r.2)])):=⟨fun a0 a1 r h=>by
 refine X0o.sym X9 fn35 (nt:=23) rfl rfl ?_ okM
 unfold X5n at h
 revert h
 refine bI fun v1 h2=>brI (fun h3=>fun e=>oj e▸X8 [.pure _ (AV.tup [(AV.list true (List.map (aI .i64) v1.1)),(aI .i64 v1.2)]),Bt] (k:=fi)) fun h3=>bI fun e4 h5=>?_
 try have qh5:=Xp h5
 exact fun e=>oj e▸X8 [.pure _ (AV.tup [(AV.list true (List.map (aI .i64) v1.1)),(aI .i64 v1.2)]),Bf,.el (aI .i64 (v1.1.length:Int)),.wrap,.el (aI .i64 e4)] (k:=fi)⟩
instance Xr5:PCs Tryz.prog 50 (∀ (a0:Xu) (a1:Xb) (r:Xb×Bool),X5e a0 a1=some r->X0o Tryz.prog 50 [(Xq false a0),(X3 a1)] (AV.tup [(X3 r.1),(aB r.2)])):=⟨fun a0 a1 r h=>by
 refine X0o.sym X9 fn50 (nt:=47) rfl rfl ?_ okM
 unfold X5e at h
 revert h
 refine brI (fun h1=>?_) fun h1=>?_
 ·
  refine bI fun v2 h3=>brI (fun h4=>fun e=>oj e▸X8 [.el (aI .i64 (a0.Where.length:Int)),Bt,.pure _ (AV.tup [(aI .i64 v2.1),(aI .i64 v2.2)]),Bt] (k:=fi)) fun h4=>bI fun Xk3 h8=>rnI [.el (aI .i64 (a0.Where.length:Int)),Bt,.pure _ (AV.tup [(aI .i64 v2.1),(aI .i64 v2.2)]),Bf] ?_
  intro h
  refine X2.join (s':=⟨fr [(2,(AV.ptr 0 0 0)),(3,(AV.ptr 1 0 0)),(4,(AV.ptr 2 0 0)),(8,(AV.ptr 3 0 0))],hp ([(0,Ob [(Xq false a0)] 10),(1,Ob [(X3 a1)] 3),(2,Ob [(X3 (Xb.mk 0 0 0))] 3),(3,Ob [(X3 Xk3)] 3)]),4⟩) ?_ (fun J=>X2.cut ?_)
  ·
   revert h
   refine bI fun Xlz h16=>rnI [] ?_
   intro h
   refine X2.join (s':=⟨fr [(4,(AV.ptr 0 0 0)),(8,(AV.ptr 1 0 0))],hp ([(0,Ob [(X3 (Xb.mk 0 0 0))] 3),(1,Ob [(X3 Xlz)] 3)]),2⟩) ?_ (fun J=>X2.cut ?_)
   ·
    revert h
    exact fun e=>oj e▸X8 [] (k:=fi)
   clear h;revert h16
   refine brI (fun h13=>?_) fun h13=>?_
   ·
    refine bI fun v14 h15=>?_
    intro h
    obtain rfl:=oj h
    exact X8 [Bt,.pure _ (AV.tup [(aI .i64 v14.1),(aI .i64 v14.2)])] (k:=wkT [(0,2),(1,3)] (X2.glue J))
   intro h
   obtain rfl:=oj h
   exact X8 [Bf] (k:=wkT [(0,2),(1,3)] (X2.glue J))
  clear h;revert h8
  refine brI (fun h7=>?_) fun h7=>?_
  ·
   intro h
   obtain rfl:=oj h
   exact X8 [Bt] (k:=wkT [] (X2.glue J))
  intro h
  obtain rfl:=oj h
  exact X8 [Bf] (k:=wkT [] (X2.glue J))
 refine bI fun Xly h20=>rnI [.el (aI .i64 (a0.Where.length:Int)),Bf] ?_
 intro h
 refine X2.join (s':=⟨fr [(2,(AV.ptr 0 0 0)),(3,(AV.ptr 1 0 0)),(4,(AV.ptr 2 0 0)),(8,(AV.ptr 3 0 0))],hp ([(0,Ob [(Xq false a0)] 10),(1,Ob [(X3 a1)] 3),(2,Ob [(X3 (Xb.mk 0 0 0))] 3),(3,Ob [(X3 Xly)] 3)]),4⟩) ?_ (fun J=>X2.cut ?_)
 ·
  revert h
  refine bI fun Xub h28=>rnI [] ?_
  intro h
  refine X2.join (s':=⟨fr [(4,(AV.ptr 0 0 0)),(8,(AV.ptr 1 0 0))],hp ([(0,Ob [(X3 (Xb.mk 0 0 0))] 3),(1,Ob [(X3 Xub)] 3)]),2⟩) ?_ (fun J=>X2.cut ?_)
  ·
   revert h
   exact fun e=>oj e▸X8 [] (k:=fi)
  clear h;revert h28
  refine brI (fun h25=>?_) fun h25=>?_
  ·
   refine bI fun v26 h27=>?_
   intro h
   obtain rfl:=oj h
   exact X8 [Bt,.pure _ (AV.tup [(aI .i64 v26.1),(aI .i64 v26.2)])] (k:=wkT [(0,2),(1,3)] (X2.glue J))
  intro h
  obtain rfl:=oj h
  exact X8 [Bf] (k:=wkT [(0,2),(1,3)] (X2.glue J))
 clear h;revert h20
 refine brI (fun h19=>?_) fun h19=>?_
 ·
  intro h
  obtain rfl:=oj h
  exact X8 [Bt] (k:=wkT [] (X2.glue J))
 intro h
 obtain rfl:=oj h
 exact X8 [Bf] (k:=wkT [] (X2.glue J))⟩
instance X3v:PCs Tryz.prog 121 (∀ (a0:X12) (r:Int),X2u a0=some r->X0o Tryz.prog 121 [(X0p a0)] (aI .i64 r)):=⟨fun a0 r h=>by
 refine X0o.sym X9 X05l (nt:=43) rfl rfl ?_ okM
 unfold X2u at h
 revert h
 refine bI fun j4_3 h8=>rnI [] ?_
 intro h
 refine X2.join (s':=⟨fr [(3,(aB j4_3))],hp ([]),0⟩) ?_ (fun J=>X2.cut ?_)
 ·
  revert h
  exact brI (fun h9=>fun e=>oj e▸X8 [Bt] (k:=fi)) fun h9=>fun e=>oj e▸X8 [Bf] (k:=fi)
 clear h;revert h8
 refine brI (fun h5=>?_) fun h5=>?_
 ·
  intro h
  obtain rfl:=oj h
  exact X8 [Bt] (k:=wkT [] (X2.glue J))
 refine brI (fun h6=>?_) fun h6=>?_
 ·
  intro h
  obtain rfl:=oj h
  exact X8 [Bf,Bt] (k:=wkT [] (X2.glue J))
 refine brI (fun h7=>?_) fun h7=>?_
 ·
  intro h
  obtain rfl:=oj h
  exact X8 [Bf,Bf,Bt] (k:=wkT [] (X2.glue J))
 intro h
 obtain rfl:=oj h
 exact X8 [Bf,Bf,Bf] (k:=wkT [] (X2.glue J))⟩
instance Xcl:PCs Tryz.prog 109 (∀ (a0:X5) (r:Bool),X8e a0=some r->X0o Tryz.prog 109 [(X4 a0)] (aB r)):=⟨fun a0 r h=>by
 refine X0o.sym X9 X05t (nt:=46) rfl rfl ?_ okM
 unfold X8e at h
 revert h
 refine brI (fun h1=>fun e=>oj e▸X8 [Bt] (k:=fi)) fun h1=>bI fun j8_2 h15=>rnI [Bf,.stop 3] ?_
 intro h
 refine X2.join (s':=⟨fr [(2,(aB j8_2))],hp ([]),0⟩) ?_ (fun J=>X2.cut ?_)
 ·
  revert h
  exact fun e=>oj e▸X8 [] (k:=fi)
 clear h;revert h15
 refine bI fun v9 h10=>brI (fun h11=>?_) fun h11=>?_
 ·
  refine bI fun v12 h13=>brI (fun h14=>?_) fun h14=>?_
  ·
   intro h
   obtain rfl:=oj h
   exact X8 [.ix 0,.pure _ (aI .i64 v9),.go true,.go true,.ix 1,.go true,.go true,.pure _ (aI .i64 v12),.go true,.go true,.go true,.ix 0,.go true,.go true,.go true,.go true,.ix 1,.go true,.go true,.go true,.wrap,.go true] (o:=by repeat' first|apply Ya|exact pcM|exact((Xf h11 h14))|exact(Xt (Xf h11 h14))|exact(X7h (Xf h11 h14))|exact X08) (k:=wkT [] (X2.glue J))
  intro h
  obtain rfl:=oj h
  exact X8 [.ix 0,.pure _ (aI .i64 v9),.go true,.go true,.ix 1,.go true,.go true,.pure _ (aI .i64 v12),.go true,.go false,.go false,.go false,.go false,.go false,.go false,.go false,.go false,.go false,.go false] (o:=by repeat' first|apply Ya|exact pcM|exact((Xf h11 h14))|exact(Xt (Xf h11 h14))|exact(Xb7 (Xf h11 h14))|exact X08) (k:=wkT [] (X2.glue J))
 intro h
 obtain rfl:=oj h
 exact X8 [.ix 0,.pure _ (aI .i64 v9),.go false,.go false,.go false,.go false,.go false,.go false,.go false,.go false,.go false,.go false,.go false,.go false,.go false,.go false,.go false] (o:=by repeat' first|apply Ya|exact pcM|exact((Xd h11 rfl))|exact(Xt (Xd h11 rfl))|exact(Xb7 (Xd h11 rfl))|exact X08) (k:=wkT [] (X2.glue J))⟩
instance Xq4:PCs Tryz.prog 102 (∀ (a0:Int) (r:Bool),X4y a0=some r->X0o Tryz.prog 102 [(aI .i64 a0)] (aB r)):=⟨fun a0 r h=>by
 refine X0o.sym X9 X05y (nt:=6) rfl rfl ?_ okM
 unfold X4y at h
 revert h
 exact fun e=>oj e▸X8 [] (k:=fi)⟩
instance Xmo:PCs Tryz.prog 66 (∀ (a0:Int) (a1:Int) (r:Int),X2f a0 a1=some r->X0o Tryz.prog 66 [(aI .i64 a0),(aI .i64 a1)] (aI .i64 r)):=⟨fun a0 a1 r h=>by
 refine X0o.sym X9 fn66 (nt:=20) rfl rfl ?_ okM
 unfold X2f at h
 revert h
 exact bI fun v1 h2=>bI fun v3 h4=>brI (fun h5=>brI (fun h6=>fun e=>oj e▸X8 [.pure _ (aB v1),.pure _ (aB v3),Bt,Bt] (k:=fi)) fun h6=>fun e=>oj e▸X8 [.pure _ (aB v1),.pure _ (aB v3),Bt,Bf] (k:=fi)) fun h5=>brI (fun h7=>fun e=>oj e▸X8 [.pure _ (aB v1),.pure _ (aB v3),Bf,Bt] (k:=fi)) fun h7=>brI (fun h8=>fun e=>oj e▸X8 [.pure _ (aB v1),.pure _ (aB v3),Bf,Bf,Bt] (k:=fi)) fun h8=>brI (fun h9=>fun e=>oj e▸X8 [.pure _ (aB v1),.pure _ (aB v3),Bf,Bf,Bf,Bt] (k:=fi)) fun h9=>fun e=>oj e▸X8 [.pure _ (aB v1),.pure _ (aB v3),Bf,Bf,Bf,Bf] (k:=fi)⟩
theorem Xfp {Q:Xy->St->Mu->Prop} {μ:Mu} (Xjj:(List Int)) (hl:Xjj.length<=140737488355328):∀ (xs:List Int) (k:Nat) (hx:Xjj.drop k=xs) (o:X6k) (h:X53 Xjj xs k  = some o)
  (C0:o=X6k.x0->X2 Tryz.prog 18 0 Q (.exit (.exit 0)) [] ⟨fr [(3,(aI .i64 0))],hp ([]),0⟩ μ)
  (C1:∀ (X3q:Int),o=X6k.x1 X3q->X2 Tryz.prog 18 0 Q (.exit .ret) [] ⟨fr [(2,(aI .i64 X3q))],hp ([]),0⟩ μ),
  X2 Tryz.prog 18 0 Q (.loop (X4k 0 (Xl Tryz.f65))) [] ⟨fr [(3,(aI .i64 0)),(6,(Lf (List.map (aI .i64) Xjj))),(7,(aI .i64 (Xjj.length:Int))),(8,(aI .i64 (k:Int)))],hp ([]),0⟩ μ:=by
 intro xs
 induction xs with
 |nil =>
  intro k hx  o h C0 C1
  have hk:=X18 hx
  have hc:decide ((k:Int)<(Xjj.length:Int))=false:=Yf (by omega)
  rw[X53] at h
  refine X2.round ?_
  revert h
  exact fun e=>X8 [Bf] (k:=wkT [] (C0  (oj e).symm))
 |cons x xs ih =>
  intro k hx  o h C0 C1
  obtain⟨hk,hg,hx1⟩:=X0r hx
  have hc:decide ((k:Int)<(Xjj.length:Int))=true:=Yt (by omega)
  rw[X53] at h
  refine X2.round ?_
  revert h
  refine brI (fun h6=>fun e=>X8 [Bt,.el (aI .i64 x),Bt] (k:=wkT [] (C1 _  (oj e).symm))) fun h6=>rnI [Bt,.el (aI .i64 x),Bf] ?_
  intro h
  exact wkT [] (ih (k+1) hx1  o h C0 C1)
instance Xyj:PCs Tryz.prog 65 (∀ (a0:(List Int)) (r:Int),Xcf a0=some r->X0o Tryz.prog 65 [(Lf (List.map (aI .i64) a0))] (aI .i64 r)):=⟨fun a0 r h=>by
 refine X0o.sym X9 fn65 (nt:=18) rfl rfl ?_ okM
 unfold Xcf at h
 revert h
 refine bI fun u1 h2=>?_
 have qh2:=X09 h2
 refine bI fun o7 h8=>rnI [.el (aI .i64 (a0.length:Int))] ?_
 intro h
 refine wkT [] (X2.cut (Xfp a0 qh2 a0 0 (by simp) _ h8 ?_ ?_))
 ·
  intro eo7;subst eo7
  refine X2.glue ?_
  try dsimp only at h
  revert h
  exact fun e=>oj e▸X8 [] (k:=fi)
 intro X3q eo7;subst eo7
 refine X2.glue ?_
 try dsimp only at h
 revert h
 exact fun e=>oj e▸X8 [] (k:=fi)⟩
instance Xvt:PCs Tryz.prog 110 (∀ (a0:X5) (a1:X5) (r:Int),X5p a0 a1=some r->X0o Tryz.prog 110 [(X4 a0),(X4 a1)] (aI .i64 r)):=⟨fun a0 a1 r h=>by
 refine X0o.sym X9 X05s (nt:=26) rfl rfl ?_ okM
 unfold X5p at h
 revert h
 exact bI fun v1 h2=>bI fun v3 h4=>bI fun v5 h6=>bI fun v7 h8=>fun e=>oj e▸X8 [.pure _ (aI .i64 v1),.pure _ (aI .i64 v3),.pure _ (aI .i64 v5),.pure _ (aI .i64 v7)] (k:=fi)⟩
theorem X70 {Q:Xy->St->Mu->Prop} {μ:Mu} (X0i:(List X5)) (hl:X0i.length<=140737488355328):∀ (xs:List X5) (k:Nat) (hx:X0i.drop k=xs) (o:X5g) (h:X3f X0i xs k  = some o)
  (C0:o=X5g.x0->X2 Tryz.prog 33 0 Q (.exit (.exit 0)) [] ⟨fr [],hp ([]),0⟩ μ)
  (C1:o=X5g.x1->X2 Tryz.prog 33 0 Q (.exit .ret) [] ⟨fr [(2,(aI .i64 8))],hp ([]),0⟩ μ),
  X2 Tryz.prog 33 0 Q (.loop (X4k 0 (Xl Tryz.f77))) [] ⟨fr [(0,(Lf (X0i.map X4))),(8,(Lf (X0i.map X4))),(9,(aI .i64 (X0i.length:Int))),(10,(aI .i64 (k:Int)))],hp ([]),0⟩ μ:=by
 intro xs
 induction xs with
 |nil =>
  intro k hx  o h C0 C1
  have hk:=X18 hx
  have hc:decide ((k:Int)<(X0i.length:Int))=false:=Yf (by omega)
  rw[X3f] at h
  refine X2.round ?_
  revert h
  exact fun e=>X8 [Bf] (k:=wkT [] (C0  (oj e).symm))
 |cons x xs ih =>
  intro k hx  o h C0 C1
  obtain⟨hk,hg,hx1⟩:=X0r hx
  have hc:decide ((k:Int)<(X0i.length:Int))=true:=Yt (by omega)
  rw[X3f] at h
  refine X2.round ?_
  revert h
  refine bI fun Xu6 h60=>rnI [Bt,.el (X4 x),.stop 6] ?_
  intro h
  refine X2.join (s':=⟨fr [(0,(Lf (X0i.map X4))),(8,(Lf (X0i.map X4))),(9,(aI .i64 (X0i.length:Int))),(10,(aI .i64 (k:Int))),(31,(aB Xu6))],hp ([]),0⟩) ?_ (fun J=>X2.cut ?_)
  ·
   revert h
   refine brI (fun h61=>fun e=>X8 [Bt] (k:=wkT [] (C1  (oj e).symm))) fun h61=>rnI [Bf] ?_
   intro h
   exact wkT [] (ih (k+1) hx1  o h C0 C1)
  clear h;revert h60
  refine bI fun v52 h53=>brI (fun h54=>?_) fun h54=>?_
  ·
   intro h
   obtain rfl:=oj h
   exact X8 [.pure _ (aB v52),.go false,.go false,.go false,.no,.no,.no,.no,.no,.no,.no,.no,.go false,.go true] (k:=wkT [] (X2.glue J))
  refine brI (fun h55=>?_) fun h55=>?_
  ·
   refine bI fun e56 h57=>?_
   try have qh57:=Xp h57
   refine bI fun v58 h59=>?_
   intro h
   obtain rfl:=oj h
   exact X8 [.pure _ (aB v52),.go true,.go true,.go true,.go true,.go true,.go true,.wrap,.go true,.el (X4 e56),.go true,.go true,.go true,.pure _ (aI .i64 v58),.go true,.go true] (k:=wkT [] (X2.glue J))
  intro h
  obtain rfl:=oj h
  exact X8 [.pure _ (aB v52),.go true,.go true,.go true,.go false,.go false,.go false,.go false,.go false,.go false,.go false,.go false,.go true,.go false] (k:=wkT [] (X2.glue J))
instance X9l:PCs Tryz.prog 77 (∀ (a0:(List X5)) (r:Int),X8f a0=some r->X0o Tryz.prog 77 [(Lf (a0.map X4))] (aI .i64 r)):=⟨fun a0 r h=>by
 refine X0o.sym X9 fn77 (nt:=33) rfl rfl ?_ okM
 unfold X8f at h
 revert h
 refine brI (fun h1=>fun e=>oj e▸X8 [.el (aI .i64 (a0.length:Int)),Bt] (k:=fi)) fun h1=>bI fun u2 h3=>?_
 have qh3:=X09 h3
 refine bI fun o62 h63=>rnI [.el (aI .i64 (a0.length:Int)),Bf,.el (aI .i64 (a0.length:Int))] ?_
 intro h
 refine wkT [] (X2.cut (X70 a0 qh3 a0 0 (by simp) _ h63 ?_ ?_))
 ·
  intro eo62;subst eo62
  refine X2.glue ?_
  try dsimp only at h
  revert h
  exact fun e=>oj e▸X8 [] (k:=fi)
 intro eo62;subst eo62
 refine X2.glue ?_
 try dsimp only at h
 revert h
 exact fun e=>oj e▸X8 [] (k:=fi)⟩
instance Xzd:PCs Tryz.prog 79 (∀ (a0:Int) (r:X12),X8z a0=some r->X0o Tryz.prog 79 [(aI .i64 a0)] (X0p r)):=⟨fun a0 r h=>by
 refine X0o.sym X9 fn79 (nt:=7) rfl rfl ?_ okM
 unfold X8z at h
 revert h
 exact fun e=>oj e▸X8 [] (k:=fi)⟩
instance Xsh:PCs Tryz.prog 111 (∀ (a0:Int) (a1:Int) (r:Int),X36 a0 a1=some r->X0o Tryz.prog 111 [(aI .i64 a0),(aI .i64 a1)] (aI .i64 r)):=⟨fun a0 a1 r h=>by
 refine X0o.sym X9 X05r (nt:=17) rfl rfl ?_ okM
 unfold X36 at h
 revert h
 exact brI (fun h1=>fun e=>oj e▸X8 [Bt] (k:=fi)) fun h1=>brI (fun h2=>fun e=>oj e▸X8 [Bf,Bt] (k:=fi)) fun h2=>fun e=>oj e▸X8 [Bf,Bf] (k:=fi)⟩
instance Xpl:PCs Tryz.prog 166 (∀ (a0:Int) (r:Int),X8w a0=some r->X0o Tryz.prog 166 [(aI .u64 a0)] (aI .i64 r)):=⟨fun a0 r h=>by
 refine X0o.sym X9 X054 (nt:=25) rfl rfl ?_ okM
 unfold X8w at h
 revert h
 refine bI fun w2 h4=>?_
 intro h
 obtain⟨j2_0,j2_2⟩:=w2
 try dsimp only at h
 refine X0y [] ?_
 refine X2.join (s':=⟨fr [(0,(aI .u64 j2_0)),(2,(aI .i64 j2_2))],hp ([]),0⟩) ?_ (fun J=>X2.cut ?_)
 ·
  revert h
  refine bI fun w6 h8=>?_
  intro h
  obtain⟨j6_0,j6_2⟩:=w6
  try dsimp only at h
  refine X0y [] ?_
  refine X2.join (s':=⟨fr [(0,(aI .u64 j6_0)),(2,(aI .i64 j6_2))],hp ([]),0⟩) ?_ (fun J=>X2.cut ?_)
  ·
   revert h
   refine bI fun w10 h12=>?_
   intro h
   obtain⟨X04x,X04w⟩:=w10
   try dsimp only at h
   refine X0y [] ?_
   refine X2.join (s':=⟨fr [(0,(aI .u64 X04x)),(2,(aI .i64 X04w))],hp ([]),0⟩) ?_ (fun J=>X2.cut ?_)
   ·
    revert h
    exact bI fun b13 h14=>fun e=>oj e▸X8 [.wrap,.el (aI .u8 b13),.wrap,.wrap] (o:=by repeat' first|apply Ya|exact pcM|exact(X7f h14)|exact(X02u (tab:=Xev) rfl h14)|exact X08) (k:=fi)
   clear h;revert h12
   refine brI (fun h11=>?_) fun h11=>?_
   ·
    intro h
    simp only[Option.some.injEq,Prod.mk.injEq] at h
    obtain⟨rfl,rfl⟩:=h
    exact X8 [Bt,.wrap] (k:=wkT [] (X2.glue J))
   intro h
   simp only[Option.some.injEq,Prod.mk.injEq] at h
   obtain⟨rfl,rfl⟩:=h
   exact X8 [Bf] (k:=wkT [] (X2.glue J))
  clear h;revert h8
  refine brI (fun h7=>?_) fun h7=>?_
  ·
   intro h
   simp only[Option.some.injEq,Prod.mk.injEq] at h
   obtain⟨rfl,rfl⟩:=h
   exact X8 [Bt,.wrap] (k:=wkT [] (X2.glue J))
  intro h
  simp only[Option.some.injEq,Prod.mk.injEq] at h
  obtain⟨rfl,rfl⟩:=h
  exact X8 [Bf] (k:=wkT [] (X2.glue J))
 clear h;revert h4
 refine brI (fun h3=>?_) fun h3=>?_
 ·
  intro h
  simp only[Option.some.injEq,Prod.mk.injEq] at h
  obtain⟨rfl,rfl⟩:=h
  exact X8 [Bt] (k:=wkT [] (X2.glue J))
 intro h
 simp only[Option.some.injEq,Prod.mk.injEq] at h
 obtain⟨rfl,rfl⟩:=h
 exact X8 [Bf] (k:=wkT [] (X2.glue J))⟩
instance Xsl:PCs Tryz.prog 133 (∀ (a0:Int) (r:Int),X7z a0=some r->X0o Tryz.prog 133 [(aI .u64 a0)] (aI .i64 r)):=⟨fun a0 r h=>by
 refine X0o.sym X9 X05g (nt:=8) rfl rfl ?_ okM
 unfold X7z at h
 revert h
 exact bI fun v1 h2=>fun e=>oj e▸X8 [Bf,.pure _ (aI .i64 v1)] (k:=fi)⟩
theorem X3h {Q:Xy->St->Mu->Prop} {μ:Mu} (X0i:(List X5)) (Xm:X5) (Xes:Int):∀ (n:Nat) (Xsq:Int) (X3p:Int) (o:X0v) (h:Xv X0i Xm Xes n Xsq X3p=some o)
  (C0:∀ (Xck:Int),o=X0v.x0 Xck->X2 Tryz.prog 49 0 Q (.exit (.exit 0)) [] ⟨fr [(0,(Lf (X0i.map X4))),(2,(AV.fn 110 [])),(4,(AV.ptr 0 0 0)),(8,(aI .i64 Xes)),(9,(aI .i64 Xck))],hp ([(0,Ob [(X4 Xm)] 11)]),1⟩ μ),
  X2 Tryz.prog 49 0 Q (.loop (X4k 0 (Xl Tryz.f119))) [] ⟨fr [(0,(Lf (X0i.map X4))),(2,(AV.fn 110 [])),(4,(AV.ptr 0 0 0)),(8,(aI .i64 Xes)),(9,(aI .i64 Xsq)),(10,(aI .i64 X3p))],hp ([(0,Ob [(X4 Xm)] 11)]),1⟩ μ:=by
 intro n
 induction n with
 |zero=>intro Xsq X3p o h C0;cases h
 |succ n ih =>
  intro Xsq X3p o h C0
  rw[Xv] at h
  refine X2.round ?_
  revert h
  refine brI (fun h14=>?_) fun h14=>fun e=>X8 [Bf] (k:=wkT [] (C0 _  (oj e).symm))
  refine bI fun e15 h16=>?_
  try have qh16:=Xp h16
  refine bI fun v17 h18=>brI (fun h19=>?_) fun h19=>?_
  ·
   refine rnI [Bt,.wrap,.wrap,.wrap,.el (X4 e15),.pure _ (aI .i64 v17),Bt,.wrap] ?_
   intro h
   exact wkT [] (ih  _ _ o h C0)
  refine rnI [Bt,.wrap,.wrap,.wrap,.el (X4 e15),.pure _ (aI .i64 v17),Bf] ?_
  intro h
  exact wkT [] (ih  _ _ o h C0)
end Go.Av.Tryz