/- Printed by decomp.py: that the program computes the functions. -/
import Derived.Test.YtfdfgobnpnoomaaGreatDCert4Z
set_option linter.all false

namespace Go.Av.Tryz
open Go.Proofs Go.D
set_option maxRecDepth 10000
set_option maxHeartbeats 40000000
theorem Xiu {Q:X07->St->Mu->Prop} {μ:Mu} (Xs:(V5 Int)) (X80:(List X0c)) (hl:X80.length<=140737488355328):∀ (xs:List X0c) (k:Nat) (hx:X80.drop k=xs) (Xo:(List Int)) (X00:Nb Xo) (o:X8j) (h:X61 Xs X80 xs k Xo=some o)
  (C0:∀ (X02:(List Int)) (X0i:Nb X02),o=X8j.x0 X02->X3 Tryz.prog 80 0 Q (.exit (.exit 0)) [] ⟨fr [(8,(slE X0i.1 0 (List.map (aI .i64) X02)))],hp ([]++opE X0i.1 0 1 (List.map (aI .i64) X02)),1⟩ μ)
  (C1:∀ (X0k:(List Int)) (Xay:Int) (X0h:Nb X0k),o=X8j.x1 X0k Xay->X3 Tryz.prog 80 0 Q (.exit .ret) [] ⟨fr [(4,(slE X0h.1 0 (List.map (aI .i64) X0k))),(5,(aI .i64 Xay))],hp ([]++opE X0h.1 0 1 (List.map (aI .i64) X0k)),1⟩ μ),
  X3 Tryz.prog 80 0 Q (.loop (X4t 0 (Xu Tryz.f59))) [] ⟨fr [(7,(AV.ptr 0 0 0)),(8,(slE X00.1 1 (List.map (aI .i64) Xo))),(28,(Lf (X80.map X1))),(29,(aI .i64 (X80.length:Int))),(30,(aI .i64 (k:Int)))],hp ([(0,Ob [(X9a Xs)] 5)]++opE X00.1 1 1 (List.map (aI .i64) Xo)),2⟩ μ:=by
 intro xs
 induction xs with
 |nil =>
  intro k hx Xo X00 o h C0 C1
  have hk:=X1e hx
  have hc:decide ((k:Int)<(X80.length:Int))=false:=Yf (by omega)
  rw[X61] at h
  rcases X00 with ⟨_|_,X0f⟩
  ·
   refine X3.round ?_
   revert h
   exact fun e=>Xc [Bf] (k:=wkT [(0,1)] (C0 _  nbF (oj e).symm))
  ·
   obtain rfl:=X0f rfl
   refine X3.round ?_
   revert h
   exact fun e=>Xc [Bf] (k:=wkT [] (C0 _  nbS (oj e).symm))
 |cons x xs ih =>
  intro k hx Xo X00 o h C0 C1
  obtain⟨hk,hg,hx1⟩:=X0t hx
  have hc:decide ((k:Int)<(X80.length:Int))=true:=Yt (by omega)
  rw[X61] at h
  rcases X00 with ⟨_|_,X0f⟩
  ·
   refine X3.round ?_
   revert h
   refine brI (fun h150=>?_) fun h150=>?_
   ·
    refine bI fun e151 h152=>?_
    try have qh152:=Xn h152
    refine rnI [Bt,.el (X1 x),Bt,.el (aI .i64 e151),.ld (aI .i64 e151)] (o:=by repeat' first|apply Ya|exact pcM|exact(List.getElem?_set_self (by have hq:=X2j h152;simp;omega)).trans rfl|exact Xw) ?_
    intro h
    exact wkT [] (ih (k+1) hx1 _ nbF o h C0 C1)
   refine brI (fun h153=>?_) fun h153=>?_
   ·
    refine bI fun Xin h179=>rnI [Bt,.el (X1 x),Bf,Bt,.stop 16] ?_
    intro h
    refine X3.joinF (fun(q:Nb Xin)=>⟨fr [(7,(AV.ptr 0 0 0)),(8,(slE q.1 1 (List.map (aI .i64) Xin))),(28,(Lf (X80.map X1))),(29,(aI .i64 (X80.length:Int))),(30,(aI .i64 (k:Int)))],hp ([(0,Ob [(X9a Xs)] 5)]++opE q.1 1 1 (List.map (aI .i64) Xin)),2⟩) ?_ (fun J=>X3.cut ?_)
    ·
     rintro Xtj
     rcases Xtj with ⟨_|_,Xub⟩
     ·
      exact Xc [] (k:=wkT [] (ih (k+1) hx1 _ nbF o h C0 C1))
     obtain rfl:=Xub rfl
     exact Xc [] (k:=wkT [] (ih (k+1) hx1 _ nbS o h C0 C1))
    clear h;revert h179
    refine brI (fun h167=>?_) fun h167=>?_
    ·
     refine bI fun e168 h169=>?_
     try have qh169:=Xn h169
     intro h
     obtain rfl:=oj h
     exact Xc [.ix 0,.el (aI .i64 e168),.ld (aI .i64 e168)] (o:=by repeat' first|apply Ya|exact pcM|exact((eq_of_beq h167))|exact(List.getElem?_set_self (by have hq:=X2j h169;simp;omega)).trans rfl|exact Xw) (k:=wkT [] (X3.glue (J nbF)))
    refine brI (fun h170=>?_) fun h170=>?_
    ·
     refine bI fun e171 h172=>?_
     try have qh172:=Xn h172
     intro h
     obtain rfl:=oj h
     exact Xc [.ix 2,.el (aI .i64 e171),.ld (aI .i64 e171)] (o:=by repeat' first|apply Ya|exact pcM|exact((eq_of_beq h170))|exact(List.getElem?_set_self (by have hq:=X2j h172;simp;omega)).trans rfl|exact Xw) (k:=wkT [] (X3.glue (J nbF)))
    refine brI (fun h173=>?_) fun h173=>?_
    ·
     refine bI fun e174 h175=>?_
     try have qh175:=Xn h175
     intro h
     obtain rfl:=oj h
     exact Xc [.ix 3,.el (aI .i64 e174),.ld (aI .i64 e174)] (o:=by repeat' first|apply Ya|exact pcM|exact((eq_of_beq h173))|exact(List.getElem?_set_self (by have hq:=X2j h175;simp;omega)).trans rfl|exact Xw) (k:=wkT [] (X3.glue (J nbF)))
    refine brI (fun h176=>?_) fun h176=>?_
    ·
     refine bI fun e177 h178=>?_
     try have qh178:=Xn h178
     intro h
     obtain rfl:=oj h
     exact Xc [.ix 4,.el (aI .i64 e177),.ld (aI .i64 e177)] (o:=by repeat' first|apply Ya|exact pcM|exact((eq_of_beq h176))|exact(List.getElem?_set_self (by have hq:=X2j h178;simp;omega)).trans rfl|exact Xw) (k:=wkT [] (X3.glue (J nbF)))
    intro h
    cases h
   refine bI fun e180 h181=>?_
   try have qh181:=Xn h181
   refine bI fun e182 h183=>?_
   try have qh183:=Xn h183
   refine bI fun v184 h185=>rnI [Bt,.el (X1 x),Bf,Bf,.el (aI .i64 e180),.ld (aI .i64 e180),.el (aI .i64 e182),.ld (aI .i64 e182),.pure _ (AV.tup [(aI .i64 v184.1),(aI .i64 v184.2)])] ?_
   refine brI (fun h186=>fun e=>Xc [Bt] (k:=wkT [] (C1 _ _  nbS (oj e).symm))) fun h186=>bI fun e187 h188=>?_
   try have qh188:=Xn h188
   refine rnI [Bf,.el (aI .i64 e187),.ld (aI .i64 e187)] (o:=by repeat' first|apply Ya|exact pcM|exact(List.getElem?_set_self (by have hq:=X2j h188;simp;omega)).trans rfl|exact Xw) ?_
   intro h
   exact wkT [] (ih (k+1) hx1 _ nbF o h C0 C1)
  obtain rfl:=X0f rfl
  refine X3.round ?_
  revert h
  refine brI (fun h189=>?_) fun h189=>?_
  ·
   refine bI fun e190 h191=>?_
   try have qh191:=Xn h191
   intro h
   exact absurd (h191) (by simp[X2c])
  refine brI (fun h192=>?_) fun h192=>?_
  ·
   refine bI fun _ h205=>?_
   intro h
   clear h;have h:=h205
   revert h
   refine brI (fun h206=>?_) fun h206=>?_
   ·
    refine bI fun e207 h208=>?_
    try have qh208:=Xn h208
    intro h
    exact absurd (h208) (by simp[X2c])
   refine brI (fun h209=>?_) fun h209=>?_
   ·
    refine bI fun e210 h211=>?_
    try have qh211:=Xn h211
    intro h
    exact absurd (h211) (by simp[X2c])
   refine brI (fun h212=>?_) fun h212=>?_
   ·
    refine bI fun e213 h214=>?_
    try have qh214:=Xn h214
    intro h
    exact absurd (h214) (by simp[X2c])
   refine brI (fun h215=>?_) fun h215=>?_
   ·
    refine bI fun e216 h217=>?_
    try have qh217:=Xn h217
    intro h
    exact absurd (h217) (by simp[X2c])
   intro h
   cases h
  refine bI fun e218 h219=>?_
  try have qh219:=Xn h219
  intro h
  exact absurd (h219) (by simp[X2c])
theorem Xg8 {Q:X07->St->Mu->Prop} {μ:Mu} (Xs:(V5 Int)) (X80:(List X0c)) (hl:X80.length<=140737488355328):∀ (xs:List X0c) (k:Nat) (hx:X80.drop k=xs) (Xo:(List Int)) (o:X6r) (h:X2e Xs X80 xs k Xo=some o)
  (C0:∀ (X02:(List Int)),o=X6r.x0 X02->X3 Tryz.prog 80 0 Q (.exit (.exit 0)) [] ⟨fr [(8,(AV.ref 0 0 (X02.length)))],hp ([(0,Ob (List.map (aI .i64) X02) 1)]),1⟩ μ)
  (C1:∀ (X0k:(List Int)) (Xay:Int) (X0h:Nb X0k),o=X6r.x1 X0k Xay->X3 Tryz.prog 80 0 Q (.exit .ret) [] ⟨fr [(4,(slE X0h.1 0 (List.map (aI .i64) X0k))),(5,(aI .i64 Xay))],hp ([]++opE X0h.1 0 1 (List.map (aI .i64) X0k)),1⟩ μ),
  X3 Tryz.prog 80 0 Q (.loop (X4t 0 (Xu Tryz.f59))) [] ⟨fr [(7,(AV.ptr 0 0 0)),(8,(AV.ref 1 0 (Xo.length))),(28,(Lf (X80.map X1))),(29,(aI .i64 (X80.length:Int))),(30,(aI .i64 (k:Int)))],hp ([(0,Ob [(X9a Xs)] 5),(1,Ob (List.map (aI .i64) Xo) 1)]),2⟩ μ:=by
 intro xs
 induction xs with
 |nil =>
  intro k hx Xo o h C0 C1
  have hk:=X1e hx
  have hc:decide ((k:Int)<(X80.length:Int))=false:=Yf (by omega)
  rw[X2e] at h
  refine X3.round ?_
  revert h
  exact fun e=>Xc [Bf] (k:=wkT [(0,1)] (C0 _  (oj e).symm))
 |cons x xs ih =>
  intro k hx Xo o h C0 C1
  obtain⟨hk,hg,hx1⟩:=X0t hx
  have hc:decide ((k:Int)<(X80.length:Int))=true:=Yt (by omega)
  rw[X2e] at h
  refine X3.round ?_
  revert h
  refine brI (fun h303=>?_) fun h303=>?_
  ·
   refine bI fun e304 h305=>?_
   try have qh305:=Xn h305
   refine rnI [Bt,.el (X1 x),Bt,.el (aI .i64 e304),.ld (aI .i64 e304)] (o:=by repeat' first|apply Ya|exact pcM|exact(List.getElem?_set_self (by have hq:=X2j h305;simp;omega)).trans rfl|exact Xw) ?_
   intro h
   exact wkT [] (ih (k+1) hx1 _ o h C0 C1)
  refine brI (fun h306=>?_) fun h306=>?_
  ·
   refine bI fun Xln h332=>rnI [Bt,.el (X1 x),Bf,Bt,.stop 16] ?_
   intro h
   refine X3.join (s':=⟨fr [(7,(AV.ptr 0 0 0)),(8,(AV.ref 1 0 (Xln.length))),(28,(Lf (X80.map X1))),(29,(aI .i64 (X80.length:Int))),(30,(aI .i64 (k:Int)))],hp ([(0,Ob [(X9a Xs)] 5),(1,Ob (List.map (aI .i64) Xln) 1)]),2⟩) ?_ (fun J=>X3.cut ?_)
   ·
    exact Xc [] (k:=wkT [] (ih (k+1) hx1 _ o h C0 C1))
   clear h;revert h332
   refine brI (fun h320=>?_) fun h320=>?_
   ·
    refine bI fun e321 h322=>?_
    try have qh322:=Xn h322
    intro h
    obtain rfl:=oj h
    exact Xc [.ix 0,.el (aI .i64 e321),.ld (aI .i64 e321)] (o:=by repeat' first|apply Ya|exact pcM|exact((eq_of_beq h320))|exact(List.getElem?_set_self (by have hq:=X2j h322;simp;omega)).trans rfl|exact Xw) (k:=wkT [] (X3.glue J))
   refine brI (fun h323=>?_) fun h323=>?_
   ·
    refine bI fun e324 h325=>?_
    try have qh325:=Xn h325
    intro h
    obtain rfl:=oj h
    exact Xc [.ix 2,.el (aI .i64 e324),.ld (aI .i64 e324)] (o:=by repeat' first|apply Ya|exact pcM|exact((eq_of_beq h323))|exact(List.getElem?_set_self (by have hq:=X2j h325;simp;omega)).trans rfl|exact Xw) (k:=wkT [] (X3.glue J))
   refine brI (fun h326=>?_) fun h326=>?_
   ·
    refine bI fun e327 h328=>?_
    try have qh328:=Xn h328
    intro h
    obtain rfl:=oj h
    exact Xc [.ix 3,.el (aI .i64 e327),.ld (aI .i64 e327)] (o:=by repeat' first|apply Ya|exact pcM|exact((eq_of_beq h326))|exact(List.getElem?_set_self (by have hq:=X2j h328;simp;omega)).trans rfl|exact Xw) (k:=wkT [] (X3.glue J))
   refine brI (fun h329=>?_) fun h329=>?_
   ·
    refine bI fun e330 h331=>?_
    try have qh331:=Xn h331
    intro h
    obtain rfl:=oj h
    exact Xc [.ix 4,.el (aI .i64 e330),.ld (aI .i64 e330)] (o:=by repeat' first|apply Ya|exact pcM|exact((eq_of_beq h329))|exact(List.getElem?_set_self (by have hq:=X2j h331;simp;omega)).trans rfl|exact Xw) (k:=wkT [] (X3.glue J))
   intro h
   cases h
  refine bI fun e333 h334=>?_
  try have qh334:=Xn h334
  refine bI fun e335 h336=>?_
  try have qh336:=Xn h336
  refine bI fun v337 h338=>rnI [Bt,.el (X1 x),Bf,Bf,.el (aI .i64 e333),.ld (aI .i64 e333),.el (aI .i64 e335),.ld (aI .i64 e335),.pure _ (AV.tup [(aI .i64 v337.1),(aI .i64 v337.2)])] ?_
  refine brI (fun h339=>fun e=>Xc [Bt] (k:=wkT [] (C1 _ _  nbS (oj e).symm))) fun h339=>bI fun e340 h341=>?_
  try have qh341:=Xn h341
  refine rnI [Bf,.el (aI .i64 e340),.ld (aI .i64 e340)] (o:=by repeat' first|apply Ya|exact pcM|exact(List.getElem?_set_self (by have hq:=X2j h341;simp;omega)).trans rfl|exact Xw) ?_
  intro h
  exact wkT [] (ih (k+1) hx1 _ o h C0 C1)
instance X01w:PCs Tryz.prog 59 (∀ (a0:(List X0c)) (a1:Xm) (r:(List Int)×Int),Xfa a0 a1=some r->X11 Tryz.prog 59 [(Lf (a0.map X1)),(X7 a1)] (AV.tup [(AV.list true (List.map (aI .i64) r.1)),(aI .i64 r.2)])):=⟨fun a0 a1 r h=>by
 refine X11.sym Xh fn59 (nt:=80) rfl rfl ?_ okM
 unfold Xfa at h
 revert h
 refine bI fun v1 h2=>brI (fun h3=>fun e=>oj e▸Xc [.pure _ (aI .i64 v1),Bt] (k:=fi)) fun h3=>bI fun u4 h5=>?_
 have qh5:=X02u h5
 refine brI (fun q=>?_) fun q=>?_
 ·
  intro h
  have h6:(a0.length:Int)=0:=by simpa using q
  revert h
  refine bI fun u7 h8=>?_
  have qh8:=X0u h8
  refine bI fun o220 h221=>rnI [.pure _ (aI .i64 v1),Bf,.el (aI .i64 (a0.length:Int)),.ne false,.el (aI .i64 (a0.length:Int))] (o:=by repeat' first|apply Ya|exact pcM|exact(Int.le_trans qh5.2.2 (by decide))|exact(by omega)|exact Xw) ?_
  intro h
  refine wkT [(0,1)] (X3.cut (Xiu (V5.mk 0 0 a1.Key a1.Time a1.Value) a0 qh8 a0 0 (by simp) _ nbS _ h221 ?_ ?_))
  ·
   intro X02 X0i eo220;subst eo220
   refine X3.glue ?_
   try dsimp only at h
   rcases X0i with ⟨_|_,X2q⟩
   ·
    revert h
    exact fun e=>oj e▸Xc [] (k:=fi)
   obtain rfl:=X2q rfl
   revert h
   exact fun e=>oj e▸Xc [] (k:=fi)
  intro X0k Xay X0h eo220;subst eo220
  refine X3.glue ?_
  try dsimp only at h
  rcases X0h with ⟨_|_,X2p⟩
  ·
   revert h
   exact fun e=>oj e▸Xc [] (k:=fi)
  obtain rfl:=X2p rfl
  revert h
  exact fun e=>oj e▸Xc [] (k:=fi)
 intro h
 have h6:¬ ((a0.length:Int)=0):=by simpa using q
 revert h
 refine bI fun u222 h223=>?_
 have qh223:=X0u h223
 refine bI fun o342 h343=>rnI [.pure _ (aI .i64 v1),Bf,.el (aI .i64 (a0.length:Int)),.el (aI .i64 (a0.length:Int))] (o:=by repeat' first|apply Ya|exact pcM|exact(Int.le_trans qh5.2.2 (by decide))|exact(by omega)|exact Xw) ?_
 intro h
 refine wkT [(0,1),(1,2)] (X3.cut (Xg8 (V5.mk 0 0 a1.Key a1.Time a1.Value) a0 qh223 a0 0 (by simp) _ _ h343 ?_ ?_))
 ·
  intro X02 eo342;subst eo342
  refine X3.glue ?_
  try dsimp only at h
  revert h
  exact fun e=>oj e▸Xc [] (k:=fi)
 intro X0k Xay X0h eo342;subst eo342
 refine X3.glue ?_
 try dsimp only at h
 rcases X0h with ⟨_|_,X2p⟩
 ·
  revert h
  exact fun e=>oj e▸Xc [] (k:=fi)
 obtain rfl:=X2p rfl
 revert h
 exact fun e=>oj e▸Xc [] (k:=fi)⟩
instance Xeg:PCs Tryz.prog 35 (∀ (a0:(List X0c)) (a1:Xm) (r:Int×Int),X6q a0 a1=some r->X11 Tryz.prog 35 [(Lf (a0.map X1)),(X7 a1)] (AV.tup [(aI .i64 r.1),(aI .i64 r.2)])):=⟨fun a0 a1 r h=>by
 refine X11.sym Xh fn35 (nt:=23) rfl rfl ?_ okM
 unfold X6q at h
 revert h
 refine bI fun v1 h2=>brI (fun h3=>fun e=>oj e▸Xc [.pure _ (AV.tup [(AV.list true (List.map (aI .i64) v1.1)),(aI .i64 v1.2)]),Bt] (k:=fi)) fun h3=>bI fun e4 h5=>?_
 try have qh5:=Xn h5
 exact fun e=>oj e▸Xc [.pure _ (AV.tup [(AV.list true (List.map (aI .i64) v1.1)),(aI .i64 v1.2)]),Bf,.el (aI .i64 (v1.1.length:Int)),.wrap,.el (aI .i64 e4)] (k:=fi)⟩
instance Xtl:PCs Tryz.prog 50 (∀ (a0:X03) (a1:Xm) (r:Xm×Bool),X6e a0 a1=some r->X11 Tryz.prog 50 [(Xl false a0),(X7 a1)] (AV.tup [(X7 r.1),(aB r.2)])):=⟨fun a0 a1 r h=>by
 refine X11.sym Xh fn50 (nt:=47) rfl rfl ?_ okM
 unfold X6e at h
 revert h
 refine brI (fun h1=>?_) fun h1=>?_
 ·
  refine bI fun v2 h3=>brI (fun h4=>fun e=>oj e▸Xc [.el (aI .i64 (a0.Where.length:Int)),Bt,.pure _ (AV.tup [(aI .i64 v2.1),(aI .i64 v2.2)]),Bt] (k:=fi)) fun h4=>bI fun Xl8 h8=>rnI [.el (aI .i64 (a0.Where.length:Int)),Bt,.pure _ (AV.tup [(aI .i64 v2.1),(aI .i64 v2.2)]),Bf] ?_
  intro h
  refine X3.join (s':=⟨fr [(2,(AV.ptr 0 0 0)),(3,(AV.ptr 1 0 0)),(4,(AV.ptr 2 0 0)),(8,(AV.ptr 3 0 0))],hp ([(0,Ob [(Xl false a0)] 10),(1,Ob [(X7 a1)] 3),(2,Ob [(X7 (Xm.mk 0 0 0))] 3),(3,Ob [(X7 Xl8)] 3)]),4⟩) ?_ (fun J=>X3.cut ?_)
  ·
   revert h
   refine bI fun Xni h16=>rnI [] ?_
   intro h
   refine X3.join (s':=⟨fr [(4,(AV.ptr 0 0 0)),(8,(AV.ptr 1 0 0))],hp ([(0,Ob [(X7 (Xm.mk 0 0 0))] 3),(1,Ob [(X7 Xni)] 3)]),2⟩) ?_ (fun J=>X3.cut ?_)
   ·
    revert h
    exact fun e=>oj e▸Xc [] (k:=fi)
   clear h;revert h16
   refine brI (fun h13=>?_) fun h13=>?_
   ·
    refine bI fun v14 h15=>?_
    intro h
    obtain rfl:=oj h
    exact Xc [Bt,.pure _ (AV.tup [(aI .i64 v14.1),(aI .i64 v14.2)])] (k:=wkT [(0,2),(1,3)] (X3.glue J))
   intro h
   obtain rfl:=oj h
   exact Xc [Bf] (k:=wkT [(0,2),(1,3)] (X3.glue J))
  clear h;revert h8
  refine brI (fun h7=>?_) fun h7=>?_
  ·
   intro h
   obtain rfl:=oj h
   exact Xc [Bt] (k:=wkT [] (X3.glue J))
  intro h
  obtain rfl:=oj h
  exact Xc [Bf] (k:=wkT [] (X3.glue J))
 refine bI fun Xnh h20=>rnI [.el (aI .i64 (a0.Where.length:Int)),Bf] ?_
 intro h
 refine X3.join (s':=⟨fr [(2,(AV.ptr 0 0 0)),(3,(AV.ptr 1 0 0)),(4,(AV.ptr 2 0 0)),(8,(AV.ptr 3 0 0))],hp ([(0,Ob [(Xl false a0)] 10),(1,Ob [(X7 a1)] 3),(2,Ob [(X7 (Xm.mk 0 0 0))] 3),(3,Ob [(X7 Xnh)] 3)]),4⟩) ?_ (fun J=>X3.cut ?_)
 ·
  revert h
  refine bI fun Xww h28=>rnI [] ?_
  intro h
  refine X3.join (s':=⟨fr [(4,(AV.ptr 0 0 0)),(8,(AV.ptr 1 0 0))],hp ([(0,Ob [(X7 (Xm.mk 0 0 0))] 3),(1,Ob [(X7 Xww)] 3)]),2⟩) ?_ (fun J=>X3.cut ?_)
  ·
   revert h
   exact fun e=>oj e▸Xc [] (k:=fi)
  clear h;revert h28
  refine brI (fun h25=>?_) fun h25=>?_
  ·
   refine bI fun v26 h27=>?_
   intro h
   obtain rfl:=oj h
   exact Xc [Bt,.pure _ (AV.tup [(aI .i64 v26.1),(aI .i64 v26.2)])] (k:=wkT [(0,2),(1,3)] (X3.glue J))
  intro h
  obtain rfl:=oj h
  exact Xc [Bf] (k:=wkT [(0,2),(1,3)] (X3.glue J))
 clear h;revert h20
 refine brI (fun h19=>?_) fun h19=>?_
 ·
  intro h
  obtain rfl:=oj h
  exact Xc [Bt] (k:=wkT [] (X3.glue J))
 intro h
 obtain rfl:=oj h
 exact Xc [Bf] (k:=wkT [] (X3.glue J))⟩
instance X4s:PCs Tryz.prog 121 (∀ (a0:X1k) (r:Int),X3e a0=some r->X11 Tryz.prog 121 [(X19 a0)] (aI .i64 r)):=⟨fun a0 r h=>by
 refine X11.sym Xh X07x (nt:=43) rfl rfl ?_ okM
 unfold X3e at h
 revert h
 refine bI fun j4_3 h8=>rnI [] ?_
 intro h
 refine X3.join (s':=⟨fr [(3,(aB j4_3))],hp ([]),0⟩) ?_ (fun J=>X3.cut ?_)
 ·
  revert h
  exact brI (fun h9=>fun e=>oj e▸Xc [Bt] (k:=fi)) fun h9=>fun e=>oj e▸Xc [Bf] (k:=fi)
 clear h;revert h8
 refine brI (fun h5=>?_) fun h5=>?_
 ·
  intro h
  obtain rfl:=oj h
  exact Xc [Bt] (k:=wkT [] (X3.glue J))
 refine brI (fun h6=>?_) fun h6=>?_
 ·
  intro h
  obtain rfl:=oj h
  exact Xc [Bf,Bt] (k:=wkT [] (X3.glue J))
 refine brI (fun h7=>?_) fun h7=>?_
 ·
  intro h
  obtain rfl:=oj h
  exact Xc [Bf,Bf,Bt] (k:=wkT [] (X3.glue J))
 intro h
 obtain rfl:=oj h
 exact Xc [Bf,Bf,Bf] (k:=wkT [] (X3.glue J))⟩
instance Xe0:PCs Tryz.prog 109 (∀ (a0:Xa) (r:Bool),X9f a0=some r->X11 Tryz.prog 109 [(X9 a0)] (aB r)):=⟨fun a0 r h=>by
 refine X11.sym Xh X085 (nt:=46) rfl rfl ?_ okM
 unfold X9f at h
 revert h
 refine brI (fun h1=>fun e=>oj e▸Xc [Bt] (k:=fi)) fun h1=>bI fun j8_2 h15=>rnI [Bf,.stop 3] ?_
 intro h
 refine X3.join (s':=⟨fr [(2,(aB j8_2))],hp ([]),0⟩) ?_ (fun J=>X3.cut ?_)
 ·
  revert h
  exact fun e=>oj e▸Xc [] (k:=fi)
 clear h;revert h15
 refine bI fun v9 h10=>brI (fun h11=>?_) fun h11=>?_
 ·
  refine bI fun v12 h13=>brI (fun h14=>?_) fun h14=>?_
  ·
   intro h
   obtain rfl:=oj h
   exact Xc [.ix 0,.pure _ (aI .i64 v9),.go true,.go true,.ix 1,.go true,.go true,.pure _ (aI .i64 v12),.go true,.go true,.go true,.ix 0,.go true,.go true,.go true,.go true,.ix 1,.go true,.go true,.go true,.wrap,.go true] (o:=by repeat' first|apply Ya|exact pcM|exact((X5 h11 h14))|exact(Xk (X5 h11 h14))|exact(X7r (X5 h11 h14))|exact Xw) (k:=wkT [] (X3.glue J))
  intro h
  obtain rfl:=oj h
  exact Xc [.ix 0,.pure _ (aI .i64 v9),.go true,.go true,.ix 1,.go true,.go true,.pure _ (aI .i64 v12),.go true,.go false,.go false,.go false,.go false,.go false,.go false,.go false,.go false,.go false,.go false] (o:=by repeat' first|apply Ya|exact pcM|exact((X5 h11 h14))|exact(Xk (X5 h11 h14))|exact(X3f (X5 h11 h14))|exact Xw) (k:=wkT [] (X3.glue J))
 intro h
 obtain rfl:=oj h
 exact Xc [.ix 0,.pure _ (aI .i64 v9),.go false,.go false,.go false,.go false,.go false,.go false,.go false,.go false,.go false,.go false,.go false,.go false,.go false,.go false,.go false] (o:=by repeat' first|apply Ya|exact pcM|exact((Xf h11 rfl))|exact(Xk (Xf h11 rfl))|exact(X3f (Xf h11 rfl))|exact Xw) (k:=wkT [] (X3.glue J))⟩
instance Xsm:PCs Tryz.prog 102 (∀ (a0:Int) (r:Bool),X62 a0=some r->X11 Tryz.prog 102 [(aI .i64 a0)] (aB r)):=⟨fun a0 r h=>by
 refine X11.sym Xh X08a (nt:=6) rfl rfl ?_ okM
 unfold X62 at h
 revert h
 exact fun e=>oj e▸Xc [] (k:=fi)⟩
instance Xo8:PCs Tryz.prog 66 (∀ (a0:Int) (a1:Int) (r:Int),X2r a0 a1=some r->X11 Tryz.prog 66 [(aI .i64 a0),(aI .i64 a1)] (aI .i64 r)):=⟨fun a0 a1 r h=>by
 refine X11.sym Xh fn66 (nt:=20) rfl rfl ?_ okM
 unfold X2r at h
 revert h
 exact bI fun v1 h2=>bI fun v3 h4=>brI (fun h5=>brI (fun h6=>fun e=>oj e▸Xc [.pure _ (aB v1),.pure _ (aB v3),Bt,Bt] (k:=fi)) fun h6=>fun e=>oj e▸Xc [.pure _ (aB v1),.pure _ (aB v3),Bt,Bf] (k:=fi)) fun h5=>brI (fun h7=>fun e=>oj e▸Xc [.pure _ (aB v1),.pure _ (aB v3),Bf,Bt] (k:=fi)) fun h7=>brI (fun h8=>fun e=>oj e▸Xc [.pure _ (aB v1),.pure _ (aB v3),Bf,Bf,Bt] (k:=fi)) fun h8=>brI (fun h9=>fun e=>oj e▸Xc [.pure _ (aB v1),.pure _ (aB v3),Bf,Bf,Bf,Bt] (k:=fi)) fun h9=>fun e=>oj e▸Xc [.pure _ (aB v1),.pure _ (aB v3),Bf,Bf,Bf,Bf] (k:=fi)⟩
theorem Xh7 {Q:X07->St->Mu->Prop} {μ:Mu} (Xdz:(List Int)) (hl:Xdz.length<=140737488355328):∀ (xs:List Int) (k:Nat) (hx:Xdz.drop k=xs) (o:X7n) (h:X67 Xdz xs k  = some o)
  (C0:o=X7n.x0->X3 Tryz.prog 18 0 Q (.exit (.exit 0)) [] ⟨fr [(3,(aI .i64 0))],hp ([]),0⟩ μ)
  (C1:∀ (X4k:Int),o=X7n.x1 X4k->X3 Tryz.prog 18 0 Q (.exit .ret) [] ⟨fr [(2,(aI .i64 X4k))],hp ([]),0⟩ μ),
  X3 Tryz.prog 18 0 Q (.loop (X4t 0 (Xu Tryz.f65))) [] ⟨fr [(3,(aI .i64 0)),(6,(Lf (List.map (aI .i64) Xdz))),(7,(aI .i64 (Xdz.length:Int))),(8,(aI .i64 (k:Int)))],hp ([]),0⟩ μ:=by
 intro xs
 induction xs with
 |nil =>
  intro k hx  o h C0 C1
  have hk:=X1e hx
  have hc:decide ((k:Int)<(Xdz.length:Int))=false:=Yf (by omega)
  rw[X67] at h
  refine X3.round ?_
  revert h
  exact fun e=>Xc [Bf] (k:=wkT [] (C0  (oj e).symm))
 |cons x xs ih =>
  intro k hx  o h C0 C1
  obtain⟨hk,hg,hx1⟩:=X0t hx
  have hc:decide ((k:Int)<(Xdz.length:Int))=true:=Yt (by omega)
  rw[X67] at h
  refine X3.round ?_
  revert h
  refine brI (fun h6=>fun e=>Xc [Bt,.el (aI .i64 x),Bt] (k:=wkT [] (C1 _  (oj e).symm))) fun h6=>rnI [Bt,.el (aI .i64 x),Bf] ?_
  intro h
  exact wkT [] (ih (k+1) hx1  o h C0 C1)
instance X015:PCs Tryz.prog 65 (∀ (a0:(List Int)) (r:Int),Xdp a0=some r->X11 Tryz.prog 65 [(Lf (List.map (aI .i64) a0))] (aI .i64 r)):=⟨fun a0 r h=>by
 refine X11.sym Xh fn65 (nt:=18) rfl rfl ?_ okM
 unfold Xdp at h
 revert h
 refine bI fun u1 h2=>?_
 have qh2:=X0u h2
 refine bI fun o7 h8=>rnI [.el (aI .i64 (a0.length:Int))] ?_
 intro h
 refine wkT [] (X3.cut (Xh7 a0 qh2 a0 0 (by simp) _ h8 ?_ ?_))
 ·
  intro eo7;subst eo7
  refine X3.glue ?_
  try dsimp only at h
  revert h
  exact fun e=>oj e▸Xc [] (k:=fi)
 intro X4k eo7;subst eo7
 refine X3.glue ?_
 try dsimp only at h
 revert h
 exact fun e=>oj e▸Xc [] (k:=fi)⟩
instance Xyh:PCs Tryz.prog 110 (∀ (a0:Xa) (a1:Xa) (r:Int),X6t a0 a1=some r->X11 Tryz.prog 110 [(X9 a0),(X9 a1)] (aI .i64 r)):=⟨fun a0 a1 r h=>by
 refine X11.sym Xh X084 (nt:=26) rfl rfl ?_ okM
 unfold X6t at h
 revert h
 exact bI fun v1 h2=>bI fun v3 h4=>bI fun v5 h6=>bI fun v7 h8=>fun e=>oj e▸Xc [.pure _ (aI .i64 v1),.pure _ (aI .i64 v3),.pure _ (aI .i64 v5),.pure _ (aI .i64 v7)] (k:=fi)⟩
theorem X83 {Q:X07->St->Mu->Prop} {μ:Mu} (X0y:(List Xa)) (hl:X0y.length<=140737488355328):∀ (xs:List Xa) (k:Nat) (hx:X0y.drop k=xs) (o:X6h) (h:X47 X0y xs k  = some o)
  (C0:o=X6h.x0->X3 Tryz.prog 33 0 Q (.exit (.exit 0)) [] ⟨fr [],hp ([]),0⟩ μ)
  (C1:o=X6h.x1->X3 Tryz.prog 33 0 Q (.exit .ret) [] ⟨fr [(2,(aI .i64 8))],hp ([]),0⟩ μ),
  X3 Tryz.prog 33 0 Q (.loop (X4t 0 (Xu Tryz.f77))) [] ⟨fr [(0,(Lf (X0y.map X9))),(8,(Lf (X0y.map X9))),(9,(aI .i64 (X0y.length:Int))),(10,(aI .i64 (k:Int)))],hp ([]),0⟩ μ:=by
 intro xs
 induction xs with
 |nil =>
  intro k hx  o h C0 C1
  have hk:=X1e hx
  have hc:decide ((k:Int)<(X0y.length:Int))=false:=Yf (by omega)
  rw[X47] at h
  refine X3.round ?_
  revert h
  exact fun e=>Xc [Bf] (k:=wkT [] (C0  (oj e).symm))
 |cons x xs ih =>
  intro k hx  o h C0 C1
  obtain⟨hk,hg,hx1⟩:=X0t hx
  have hc:decide ((k:Int)<(X0y.length:Int))=true:=Yt (by omega)
  rw[X47] at h
  refine X3.round ?_
  revert h
  refine bI fun Xwk h60=>rnI [Bt,.el (X9 x),.stop 6] ?_
  intro h
  refine X3.join (s':=⟨fr [(0,(Lf (X0y.map X9))),(8,(Lf (X0y.map X9))),(9,(aI .i64 (X0y.length:Int))),(10,(aI .i64 (k:Int))),(31,(aB Xwk))],hp ([]),0⟩) ?_ (fun J=>X3.cut ?_)
  ·
   revert h
   refine brI (fun h61=>fun e=>Xc [Bt] (k:=wkT [] (C1  (oj e).symm))) fun h61=>rnI [Bf] ?_
   intro h
   exact wkT [] (ih (k+1) hx1  o h C0 C1)
  clear h;revert h60
  refine bI fun v52 h53=>brI (fun h54=>?_) fun h54=>?_
  ·
   intro h
   obtain rfl:=oj h
   exact Xc [.pure _ (aB v52),.go false,.go false,.go false,.no,.no,.no,.no,.no,.no,.no,.no,.go false,.go true] (k:=wkT [] (X3.glue J))
  refine brI (fun h55=>?_) fun h55=>?_
  ·
   refine bI fun e56 h57=>?_
   try have qh57:=Xn h57
   refine bI fun v58 h59=>?_
   intro h
   obtain rfl:=oj h
   exact Xc [.pure _ (aB v52),.go true,.go true,.go true,.go true,.go true,.go true,.wrap,.go true,.el (X9 e56),.go true,.go true,.go true,.pure _ (aI .i64 v58),.go true,.go true] (k:=wkT [] (X3.glue J))
  intro h
  obtain rfl:=oj h
  exact Xc [.pure _ (aB v52),.go true,.go true,.go true,.go false,.go false,.go false,.go false,.go false,.go false,.go false,.go false,.go true,.go false] (k:=wkT [] (X3.glue J))
instance Xap:PCs Tryz.prog 77 (∀ (a0:(List Xa)) (r:Int),X9g a0=some r->X11 Tryz.prog 77 [(Lf (a0.map X9))] (aI .i64 r)):=⟨fun a0 r h=>by
 refine X11.sym Xh fn77 (nt:=33) rfl rfl ?_ okM
 unfold X9g at h
 revert h
 refine brI (fun h1=>fun e=>oj e▸Xc [.el (aI .i64 (a0.length:Int)),Bt] (k:=fi)) fun h1=>bI fun u2 h3=>?_
 have qh3:=X0u h3
 refine bI fun o62 h63=>rnI [.el (aI .i64 (a0.length:Int)),Bf,.el (aI .i64 (a0.length:Int))] ?_
 intro h
 refine wkT [] (X3.cut (X83 a0 qh3 a0 0 (by simp) _ h63 ?_ ?_))
 ·
  intro eo62;subst eo62
  refine X3.glue ?_
  try dsimp only at h
  revert h
  exact fun e=>oj e▸Xc [] (k:=fi)
 intro eo62;subst eo62
 refine X3.glue ?_
 try dsimp only at h
 revert h
 exact fun e=>oj e▸Xc [] (k:=fi)⟩
instance X01z:PCs Tryz.prog 79 (∀ (a0:Int) (r:X1k),Xa2 a0=some r->X11 Tryz.prog 79 [(aI .i64 a0)] (X19 r)):=⟨fun a0 r h=>by
 refine X11.sym Xh fn79 (nt:=7) rfl rfl ?_ okM
 unfold Xa2 at h
 revert h
 exact fun e=>oj e▸Xc [] (k:=fi)⟩
instance Xuu:PCs Tryz.prog 111 (∀ (a0:Int) (a1:Int) (r:Int),X3z a0 a1=some r->X11 Tryz.prog 111 [(aI .i64 a0),(aI .i64 a1)] (aI .i64 r)):=⟨fun a0 a1 r h=>by
 refine X11.sym Xh X083 (nt:=17) rfl rfl ?_ okM
 unfold X3z at h
 revert h
 exact brI (fun h1=>fun e=>oj e▸Xc [Bt] (k:=fi)) fun h1=>brI (fun h2=>fun e=>oj e▸Xc [Bf,Bt] (k:=fi)) fun h2=>fun e=>oj e▸Xc [Bf,Bf] (k:=fi)⟩
instance Xs1:PCs Tryz.prog 166 (∀ (a0:Int) (r:Int),X9y a0=some r->X11 Tryz.prog 166 [(aI .u64 a0)] (aI .i64 r)):=⟨fun a0 r h=>by
 refine X11.sym Xh X07g (nt:=25) rfl rfl ?_ okM
 unfold X9y at h
 revert h
 refine bI fun w2 h4=>?_
 intro h
 obtain⟨j2_0,j2_2⟩:=w2
 try dsimp only at h
 refine X0l [] ?_
 refine X3.join (s':=⟨fr [(0,(aI .u64 j2_0)),(2,(aI .i64 j2_2))],hp ([]),0⟩) ?_ (fun J=>X3.cut ?_)
 ·
  revert h
  refine bI fun w6 h8=>?_
  intro h
  obtain⟨j6_0,j6_2⟩:=w6
  try dsimp only at h
  refine X0l [] ?_
  refine X3.join (s':=⟨fr [(0,(aI .u64 j6_0)),(2,(aI .i64 j6_2))],hp ([]),0⟩) ?_ (fun J=>X3.cut ?_)
  ·
   revert h
   refine bI fun w10 h12=>?_
   intro h
   obtain⟨X079,X078⟩:=w10
   try dsimp only at h
   refine X0l [] ?_
   refine X3.join (s':=⟨fr [(0,(aI .u64 X079)),(2,(aI .i64 X078))],hp ([]),0⟩) ?_ (fun J=>X3.cut ?_)
   ·
    revert h
    exact bI fun b13 h14=>fun e=>oj e▸Xc [.wrap,.el (aI .u8 b13),.wrap,.wrap] (o:=by repeat' first|apply Ya|exact pcM|exact(X8i h14)|exact(X058 (tab:=Xgf) rfl h14)|exact Xw) (k:=fi)
   clear h;revert h12
   refine brI (fun h11=>?_) fun h11=>?_
   ·
    intro h
    simp only[Option.some.injEq,Prod.mk.injEq] at h
    obtain⟨rfl,rfl⟩:=h
    exact Xc [Bt,.wrap] (k:=wkT [] (X3.glue J))
   intro h
   simp only[Option.some.injEq,Prod.mk.injEq] at h
   obtain⟨rfl,rfl⟩:=h
   exact Xc [Bf] (k:=wkT [] (X3.glue J))
  clear h;revert h8
  refine brI (fun h7=>?_) fun h7=>?_
  ·
   intro h
   simp only[Option.some.injEq,Prod.mk.injEq] at h
   obtain⟨rfl,rfl⟩:=h
   exact Xc [Bt,.wrap] (k:=wkT [] (X3.glue J))
  intro h
  simp only[Option.some.injEq,Prod.mk.injEq] at h
  obtain⟨rfl,rfl⟩:=h
  exact Xc [Bf] (k:=wkT [] (X3.glue J))
 clear h;revert h4
 refine brI (fun h3=>?_) fun h3=>?_
 ·
  intro h
  simp only[Option.some.injEq,Prod.mk.injEq] at h
  obtain⟨rfl,rfl⟩:=h
  exact Xc [Bt] (k:=wkT [] (X3.glue J))
 intro h
 simp only[Option.some.injEq,Prod.mk.injEq] at h
 obtain⟨rfl,rfl⟩:=h
 exact Xc [Bf] (k:=wkT [] (X3.glue J))⟩
instance Xuy:PCs Tryz.prog 133 (∀ (a0:Int) (r:Int),X91 a0=some r->X11 Tryz.prog 133 [(aI .u64 a0)] (aI .i64 r)):=⟨fun a0 r h=>by
 refine X11.sym Xh X07s (nt:=8) rfl rfl ?_ okM
 unfold X91 at h
 revert h
 exact bI fun v1 h2=>fun e=>oj e▸Xc [Bf,.pure _ (aI .i64 v1)] (k:=fi)⟩
theorem X49 {Q:X07->St->Mu->Prop} {μ:Mu} (X0y:(List Xa)) (Xs:Xa) (Xe7:Int):∀ (n:Nat) (Xko:Int) (X4j:Int) (o:X1a) (h:X06 X0y Xs Xe7 n Xko X4j=some o)
  (C0:∀ (Xdy:Int),o=X1a.x0 Xdy->X3 Tryz.prog 49 0 Q (.exit (.exit 0)) [] ⟨fr [(0,(Lf (X0y.map X9))),(2,(AV.fn 110 [])),(4,(AV.ptr 0 0 0)),(8,(aI .i64 Xe7)),(9,(aI .i64 Xdy))],hp ([(0,Ob [(X9 Xs)] 11)]),1⟩ μ),
  X3 Tryz.prog 49 0 Q (.loop (X4t 0 (Xu Tryz.f119))) [] ⟨fr [(0,(Lf (X0y.map X9))),(2,(AV.fn 110 [])),(4,(AV.ptr 0 0 0)),(8,(aI .i64 Xe7)),(9,(aI .i64 Xko)),(10,(aI .i64 X4j))],hp ([(0,Ob [(X9 Xs)] 11)]),1⟩ μ:=by
 intro n
 induction n with
 |zero=>intro Xko X4j o h C0;cases h
 |succ n ih =>
  intro Xko X4j o h C0
  rw[X06] at h
  refine X3.round ?_
  revert h
  refine brI (fun h14=>?_) fun h14=>fun e=>Xc [Bf] (k:=wkT [] (C0 _  (oj e).symm))
  refine bI fun e15 h16=>?_
  try have qh16:=Xn h16
  refine bI fun v17 h18=>brI (fun h19=>?_) fun h19=>?_
  ·
   refine rnI [Bt,.wrap,.wrap,.wrap,.el (X9 e15),.pure _ (aI .i64 v17),Bt,.wrap] ?_
   intro h
   exact wkT [] (ih  _ _ o h C0)
  refine rnI [Bt,.wrap,.wrap,.wrap,.el (X9 e15),.pure _ (aI .i64 v17),Bf] ?_
  intro h
  exact wkT [] (ih  _ _ o h C0)
end Go.Av.Tryz