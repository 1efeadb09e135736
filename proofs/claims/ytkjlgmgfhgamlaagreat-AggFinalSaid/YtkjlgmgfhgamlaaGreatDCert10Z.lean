/- Printed by decomp.py: that the program computes the functions. -/
import Derived.Test.YtkjlgmgfhgamlaaGreatDCert9Z
set_option linter.all false

namespace Go.Av.Tryz
open Go.Proofs Go.D
set_option maxRecDepth 60000
set_option maxHeartbeats 40000000
theorem Xh1 {Q:Xx->St->Mu->Prop} {μ:Mu} (X0r:(List X1g)) (Xhr:(List X1g)) (hl:X0r.length<=140737488355328):∀ (xs:List X1g) (k:Nat) (hx:X0r.drop k=xs) (o:X72) (h:X73 X0r Xhr xs k  = some o)
  (C0:o=X72.x0->X5 Tryz.prog 26 0 Q (.exit (.exit 0)) [] ⟨fr [],hp ([]),0⟩ μ)
  (C1:o=X72.x1->X5 Tryz.prog 26 0 Q (.exit .ret) [] ⟨fr [(4,(aB false))],hp ([]),0⟩ μ),
  X5 Tryz.prog 26 0 Q (.loop (X4c 0 (Xd Tryz.f24))) [] ⟨fr [(0,(Lf (X0r.map Xw))),(1,(Lf (Xhr.map Xw))),(5,(aI .i64 (k:Int)))],hp ([]),0⟩ μ:=by
 intro xs
 induction xs with
 |nil =>
  intro k hx  o h C0 C1
  have hk:=X1u hx
  have hc:decide ((k:Int)<(X0r.length:Int))=false:=Yf (by omega)
  rw[X73] at h
  refine X5.round ?_
  revert h
  exact fun e=>Xb [.el (aI .i64 (X0r.length:Int)),Bf] (k:=wkT [] (C0  (oj e).symm))
 |cons x xs ih =>
  intro k hx  o h C0 C1
  obtain⟨hk,hg,hx1⟩:=X13 hx
  have hc:decide ((k:Int)<(X0r.length:Int))=true:=Yt (by omega)
  rw[X73] at h
  refine X5.round ?_
  revert h
  refine bI fun e11 h12=>?_
  try have qh12:=Xp h12
  refine brI (fun h13=>fun e=>Xb [.el (aI .i64 (X0r.length:Int)),Bt,.el (Xw x),.el (Xw e11),Bt] (k:=wkT [] (C1  (oj e).symm))) fun h13=>rnI [.el (aI .i64 (X0r.length:Int)),Bt,.el (Xw x),.el (Xw e11),Bf] ?_
  intro h
  exact wkT [] (ih (k+1) hx1  o h C0 C1)
instance Xxq:PCs Tryz.prog 24 (∀ (a0:(List X1g)) (a1:(List X1g)) (r:Bool),Xfq a0 a1=some r->X0h Tryz.prog 24 [(Lf (a0.map Xw)),(Lf (a1.map Xw))] (aB r)):=⟨fun a0 a1 r h=>by
 refine X0h.sym X8 fn24 (nt:=26) rfl rfl ?_ okM
 unfold Xfq at h
 revert h
 refine brI (fun h1=>fun e=>oj e▸Xb [.el (aI .i64 (a0.length:Int)),.el (aI .i64 (a1.length:Int)),Bt] (k:=fi)) fun h1=>bI fun u2 h3=>?_
 have qh3:=X16 h3
 refine bI fun o14 h15=>rnI [.el (aI .i64 (a0.length:Int)),.el (aI .i64 (a1.length:Int)),Bf] ?_
 intro h
 refine wkT [] (X5.cut (Xh1 a0 a1 qh3 a0 0 (by simp) _ h15 ?_ ?_))
 ·
  intro eo14;subst eo14
  refine X5.glue ?_
  try dsimp only at h
  revert h
  exact fun e=>oj e▸Xb [] (k:=fi)
 intro eo14;subst eo14
 refine X5.glue ?_
 try dsimp only at h
 revert h
 exact fun e=>oj e▸Xb [] (k:=fi)⟩
instance Xwm:PCs Tryz.prog 19 (∀ (r:Bool),Xbn=some r->X0h Tryz.prog 19 [] (aB r)):=⟨fun r h=>by
 refine X0h.sym X8 fn19 (nt:=28) rfl rfl ?_ okM
 unfold Xbn at h
 revert h
 refine bI fun v1 h2=>bI fun v3 h4=>bI fun v5 h6=>bI fun v7 h8=>bI fun v9 h10=>bI fun X01o h24=>rnI [.pure _ (X05 true v1),.pure _ (X00 v3),.pure _ (X00 v5),.pure _ (X00 v7),.pure _ (AV.tup [(Xc true v9.1),(AV.list true (v9.2.1.map Xw)),(aB v9.2.2)]),.stop 2] ?_
 intro h
 refine X5.join (s':=⟨fr [(0,(aB X01o))],hp ([]),0⟩) ?_ (fun J=>X5.cut ?_)
 ·
  revert h
  exact fun e=>oj e▸Xb [] (k:=fi)
 clear h;revert h24
 refine brI (fun h18=>?_) fun h18=>?_
 ·
  refine bI fun v19 h20=>bI fun v21 h22=>brI (fun h23=>?_) fun h23=>?_
  ·
   intro h
   obtain rfl:=oj h
   exact Xb [.go true,.go true,.pure _ (Xw v19),.go true,.go true,.pure _ (aB v21),.go true,.go true,.go true,.el (aI .i64 (v9.1.Store.length:Int)),.go true] (o:=by repeat' first|apply Ya|exact pcM|exact((X0 h18 h23))|exact(X6 (X0 h18 h23))|exact(X24 (X0 h18 h23))|exact Xr) (k:=wkT [] (X5.glue J))
  intro h
  obtain rfl:=oj h
  exact Xb [.go true,.go true,.pure _ (Xw v19),.go true,.go true,.pure _ (aB v21),.go false,.go false,.go false,.go false] (o:=by repeat' first|apply Ya|exact pcM|exact((X0 h18 h23))|exact(X6 (X0 h18 h23))|exact(X1q (X0 h18 h23))|exact Xr) (k:=wkT [] (X5.glue J))
 intro h
 obtain rfl:=oj h
 exact Xb [.go false,.go false,.go false,.go false,.go false,.go false,.go false,.go false] (o:=by repeat' first|apply Ya|exact pcM|exact((X1 h18 rfl))|exact(X6 (X1 h18 rfl))|exact(X1q (X1 h18 rfl))|exact Xr) (k:=wkT [] (X5.glue J))⟩
instance Xwk:PCs Tryz.prog 20 (∀ (a0:X0b) (r:Bool),X9v a0=some r->X0h Tryz.prog 20 [(X05 false a0)] (aB r)):=⟨fun a0 r h=>by
 refine X0h.sym X8 fn20 (nt:=19) rfl rfl ?_ okM
 unfold X9v at h
 revert h
 refine bI fun j3_2 h6=>rnI [.stop 1] ?_
 intro h
 refine X5.join (s':=⟨fr [(2,(aB j3_2))],hp ([]),0⟩) ?_ (fun J=>X5.cut ?_)
 ·
  revert h
  exact fun e=>oj e▸Xb [] (k:=fi)
 clear h;revert h6
 refine brI (fun h4=>?_) fun h4=>?_
 ·
  intro h
  obtain rfl:=oj h
  exact Xb [.el (aI .i64 (a0.Arg.length:Int)),.go false,.go false,.go false,.go false,.go false,.go false,.go false,.go false] (o:=by repeat' first|apply Ya|exact pcM|exact((X0 h4 rfl))|exact(X6 (X0 h4 rfl))|exact(X24 (X0 h4 rfl))|exact Xr) (k:=wkT [] (X5.glue J))
 refine brI (fun h5=>?_) fun h5=>?_
 ·
  intro h
  obtain rfl:=oj h
  exact Xb [.el (aI .i64 (a0.Arg.length:Int)),.go true,.go true,.go true,.el (aI .i64 (a0.Where.length:Int)),.go true,.go false,.go false,.go false,.go false] (o:=by repeat' first|apply Ya|exact pcM|exact((X1 h4 h5))|exact(X6 (X1 h4 h5))|exact(X24 (X1 h4 h5))|exact Xr) (k:=wkT [] (X5.glue J))
 intro h
 obtain rfl:=oj h
 exact Xb [.el (aI .i64 (a0.Arg.length:Int)),.go true,.go true,.go true,.el (aI .i64 (a0.Where.length:Int)),.go true,.go true,.go true,.go true,.el (aI .i64 (a0.Sources.length:Int)),.go true] (o:=by repeat' first|apply Ya|exact pcM|exact((X1 h4 h5))|exact(X6 (X1 h4 h5))|exact(X1q (X1 h4 h5))|exact Xr) (k:=wkT [] (X5.glue J))⟩
instance Xvw:PCs Tryz.prog 25 (∀ (a0:Xo) (r:Bool),X9h a0=some r->X0h Tryz.prog 25 [(Xc false a0)] (aB r)):=⟨fun a0 r h=>by
 refine X0h.sym X8 fn25 (nt:=56) rfl rfl ?_ okM
 unfold X9h at h
 refine X09 [.el (aI .i64 (a0.Pending.length:Int)),.el (aI .i64 (a0.Rows.length:Int)),.el (aI .i64 (a0.Late.length:Int))] ?_
 refine X5.round ?_
 revert h
 refine bI fun X01b h6=>rnI [Bt,.stop 5] ?_
 intro h
 refine X5.join (s':=⟨fr [(1,(AV.ptr 0 0 0)),(3,(AV.ref 1 0 3)),(4,(aI .i64 0)),(39,(aB X01b))],hp ([(0,Ob [(Xc false a0)] 9),(1,Ob [(aI .i64 (a0.Pending.length:Int)),(aI .i64 (a0.Rows.length:Int)),(aI .i64 (a0.Late.length:Int))] 1)]),2⟩) ?_ (fun J=>X5.cut ?_)
 ·
  revert h
  refine brI (fun h7=>fun e=>oj e▸Xb [Bt] (k:=fi)) fun h7=>rnI [Bf] ?_
  intro h
  refine X5.round ?_
  revert h
  refine bI fun Xum h13=>rnI [Bt,.stop 5] ?_
  intro h
  refine X5.join (s':=⟨fr [(1,(AV.ptr 0 0 0)),(3,(AV.ref 1 0 3)),(4,(aI .i64 1)),(39,(aB Xum))],hp ([(0,Ob [(Xc false a0)] 9),(1,Ob [(aI .i64 (a0.Pending.length:Int)),(aI .i64 (a0.Rows.length:Int)),(aI .i64 (a0.Late.length:Int))] 1)]),2⟩) ?_ (fun J=>X5.cut ?_)
  ·
   revert h
   refine brI (fun h14=>fun e=>oj e▸Xb [Bt] (k:=fi)) fun h14=>rnI [Bf] ?_
   intro h
   refine X5.round ?_
   revert h
   refine bI fun Xuj h20=>rnI [Bt,.stop 5] ?_
   intro h
   refine X5.join (s':=⟨fr [(1,(AV.ptr 0 0 0)),(3,(AV.ref 1 0 3)),(4,(aI .i64 2)),(39,(aB Xuj))],hp ([(0,Ob [(Xc false a0)] 9),(1,Ob [(aI .i64 (a0.Pending.length:Int)),(aI .i64 (a0.Rows.length:Int)),(aI .i64 (a0.Late.length:Int))] 1)]),2⟩) ?_ (fun J=>X5.cut ?_)
   ·
    revert h
    refine brI (fun h21=>fun e=>oj e▸Xb [Bt] (k:=fi)) fun h21=>rnI [Bf] ?_
    intro h
    refine X5.round ?_
    revert h
    refine bI fun X01l h27=>rnI [Bf,.stop 7] ?_
    intro h
    refine X5.join (s':=⟨fr [(2,(aB X01l))],hp ([]),0⟩) ?_ (fun J=>X5.cut ?_)
    ·
     revert h
     exact fun e=>oj e▸Xb [] (k:=fi)
    clear h;revert h27
    refine brI (fun h25=>?_) fun h25=>?_
    ·
     intro h
     obtain rfl:=oj h
     exact Xb [.el (aI .i64 (a0.Store.length:Int)),.go false,.go false,.go false,.go false,.go false,.go false,.go false,.go false] (o:=by repeat' first|apply Ya|exact pcM|exact((X0 h25 rfl))|exact(X6 (X0 h25 rfl))|exact(X24 (X0 h25 rfl))|exact Xr) (k:=wkT [] (X5.glue J))
    refine brI (fun h26=>?_) fun h26=>?_
    ·
     intro h
     obtain rfl:=oj h
     exact Xb [.el (aI .i64 (a0.Store.length:Int)),.go true,.go true,.go true,.el (aI .i64 (a0.Events.length:Int)),.go true,.go false,.go false,.go false,.go false] (o:=by repeat' first|apply Ya|exact pcM|exact((X1 h25 h26))|exact(X6 (X1 h25 h26))|exact(X24 (X1 h25 h26))|exact Xr) (k:=wkT [] (X5.glue J))
    intro h
    obtain rfl:=oj h
    exact Xb [.el (aI .i64 (a0.Store.length:Int)),.go true,.go true,.go true,.el (aI .i64 (a0.Events.length:Int)),.go true,.go true,.go true,.go true,.el (aI .i64 (a0.Marks.length:Int)),.go true] (o:=by repeat' first|apply Ya|exact pcM|exact((X1 h25 h26))|exact(X6 (X1 h25 h26))|exact(X1q (X1 h25 h26))|exact Xr) (k:=wkT [] (X5.glue J))
   clear h;revert h20
   refine brI (fun h18=>?_) fun h18=>?_
   ·
    refine brI (fun h19=>?_) fun h19=>?_
    ·
     intro h
     obtain rfl:=oj h
     exact Xb [.el ((aI .i64 (a0.Late.length:Int))),.go true,.go true,.go true,.el ((aI .i64 (a0.Late.length:Int))),.go true,.go true,.go false,.go false,.go false,.go false,.go false] (o:=by repeat' first|apply Ya|exact pcM|exact((X0 h18 h19))|exact(X6 (X0 h18 h19))|exact(X24 (X0 h18 h19))|exact Xr) (k:=wkT [] (X5.glue J))
    intro h
    obtain rfl:=oj h
    exact Xb [.el ((aI .i64 (a0.Late.length:Int))),.go true,.go true,.go true,.el ((aI .i64 (a0.Late.length:Int))),.go true,.go true,.go true,.go true,.go true,.el ((aI .i64 (a0.Late.length:Int))),.go true,.go true] (o:=by repeat' first|apply Ya|exact pcM|exact((X0 h18 h19))|exact(X6 (X0 h18 h19))|exact(X1q (X0 h18 h19))|exact Xr) (k:=wkT [] (X5.glue J))
   intro h
   obtain rfl:=oj h
   exact Xb [.el ((aI .i64 (a0.Late.length:Int))),.go false,.go false,.go false,.go false,.go false,.go true,.go true,.go true,.el ((aI .i64 (a0.Late.length:Int))),.go true,.go true] (o:=by repeat' first|apply Ya|exact pcM|exact((X1 h18 rfl))|exact(X6 (X1 h18 rfl))|exact(X1q (X1 h18 rfl))|exact Xr) (k:=wkT [] (X5.glue J))
  clear h;revert h13
  refine brI (fun h11=>?_) fun h11=>?_
  ·
   refine brI (fun h12=>?_) fun h12=>?_
   ·
    intro h
    obtain rfl:=oj h
    exact Xb [.el ((aI .i64 (a0.Rows.length:Int))),.go true,.go true,.go true,.el ((aI .i64 (a0.Rows.length:Int))),.go true,.go true,.go false,.go false,.go false,.go false,.go false] (o:=by repeat' first|apply Ya|exact pcM|exact((X0 h11 h12))|exact(X6 (X0 h11 h12))|exact(X24 (X0 h11 h12))|exact Xr) (k:=wkT [] (X5.glue J))
   intro h
   obtain rfl:=oj h
   exact Xb [.el ((aI .i64 (a0.Rows.length:Int))),.go true,.go true,.go true,.el ((aI .i64 (a0.Rows.length:Int))),.go true,.go true,.go true,.go true,.go true,.el ((aI .i64 (a0.Rows.length:Int))),.go true,.go true] (o:=by repeat' first|apply Ya|exact pcM|exact((X0 h11 h12))|exact(X6 (X0 h11 h12))|exact(X1q (X0 h11 h12))|exact Xr) (k:=wkT [] (X5.glue J))
  intro h
  obtain rfl:=oj h
  exact Xb [.el ((aI .i64 (a0.Rows.length:Int))),.go false,.go false,.go false,.go false,.go false,.go true,.go true,.go true,.el ((aI .i64 (a0.Rows.length:Int))),.go true,.go true] (o:=by repeat' first|apply Ya|exact pcM|exact((X1 h11 rfl))|exact(X6 (X1 h11 rfl))|exact(X1q (X1 h11 rfl))|exact Xr) (k:=wkT [] (X5.glue J))
 clear h;revert h6
 refine brI (fun h4=>?_) fun h4=>?_
 ·
  refine brI (fun h5=>?_) fun h5=>?_
  ·
   intro h
   obtain rfl:=oj h
   exact Xb [.el ((aI .i64 (a0.Pending.length:Int))),.go true,.go true,.go true,.el ((aI .i64 (a0.Pending.length:Int))),.go true,.go true,.go false,.go false,.go false,.go false,.go false] (o:=by repeat' first|apply Ya|exact pcM|exact((X0 h4 h5))|exact(X6 (X0 h4 h5))|exact(X24 (X0 h4 h5))|exact Xr) (k:=wkT [] (X5.glue J))
  intro h
  obtain rfl:=oj h
  exact Xb [.el ((aI .i64 (a0.Pending.length:Int))),.go true,.go true,.go true,.el ((aI .i64 (a0.Pending.length:Int))),.go true,.go true,.go true,.go true,.go true,.el ((aI .i64 (a0.Pending.length:Int))),.go true,.go true] (o:=by repeat' first|apply Ya|exact pcM|exact((X0 h4 h5))|exact(X6 (X0 h4 h5))|exact(X1q (X0 h4 h5))|exact Xr) (k:=wkT [] (X5.glue J))
 intro h
 obtain rfl:=oj h
 exact Xb [.el ((aI .i64 (a0.Pending.length:Int))),.go false,.go false,.go false,.go false,.go false,.go true,.go true,.go true,.el ((aI .i64 (a0.Pending.length:Int))),.go true,.go true] (o:=by repeat' first|apply Ya|exact pcM|exact((X1 h4 rfl))|exact(X6 (X1 h4 rfl))|exact(X1q (X1 h4 rfl))|exact Xr) (k:=wkT [] (X5.glue J))⟩
instance Xwa:PCs Tryz.prog 173 (∀ (a0:Int) (r:Int),Xbj a0=some r->X0h Tryz.prog 173 [(aI .u8 a0)] (aI .i64 r)):=⟨fun a0 r h=>by
 refine X0h.sym X8 X05x (nt:=7) rfl rfl ?_ okM
 unfold Xbj at h
 revert h
 exact brI (fun h1=>fun e=>oj e▸Xb [Bt] (k:=fi)) fun h1=>brI (fun h2=>fun e=>oj e▸Xb [Bf,Bt] (k:=fi)) fun h2=>fun e=>oj e▸Xb [Bf,Bf] (k:=fi)⟩
instance Xw8:PCs Tryz.prog 174 (∀ (a0:X07) (a1:Int) (a2:Int) (r:Bool),X6i a0 a1 a2=some r->X0h Tryz.prog 174 [(X9 a0),(aI .i64 a1),(aI .i64 a2)] (aB r)):=⟨fun a0 a1 a2 r h=>by
 refine X0h.sym X8 X05w (nt:=52) rfl rfl ?_ okM
 unfold X6i at h
 revert h
 exact fun e=>oj e▸Xb [] (k:=fi)⟩
theorem Xfl {Q:Xx->St->Mu->Prop} {μ:Mu} (X0r:(List X07)) (hl:X0r.length<=140737488355328):∀ (xs:List X07) (k:Nat) (hx:X0r.drop k=xs) (Xk:(List Int)) (Xl:(List Int)) (X21:Nb Xk) (Xy:Nb Xl) (o:X4r) (h:X1n X0r xs k Xk Xl=some o)
  (C0:∀ (X08:(List Int)) (X0n:(List Int)) (X0t:Nb X08) (X19:Nb X0n),o=X4r.x0 X08 X0n->X5 Tryz.prog 102 0 Q (.exit (.exit 0)) [] ⟨fr [(0,(Lf (X0r.map X9))),(5,(slE X0t.1 0 (List.map (aI .i64) X08))),(6,(slE X19.1 1 (List.map (aI .i64) X0n)))],hp ([]++opE X0t.1 0 1 (List.map (aI .i64) X08)++opE X19.1 1 1 (List.map (aI .i64) X0n)),2⟩ μ)
  (C1:∀ (X1h:(List Int)) (X2y:(List Int)) (X1b:Nb X1h) (X4t:Nb X2y),o=X4r.x1 X1h X2y->X5 Tryz.prog 102 0 Q (.exit .ret) [] ⟨fr [(2,(slE X1b.1 0 (List.map (aI .i64) X1h))),(3,(slE X4t.1 1 (List.map (aI .i64) X2y))),(4,(aB false))],hp ([]++opE X1b.1 0 1 (List.map (aI .i64) X1h)++opE X4t.1 1 1 (List.map (aI .i64) X2y)),2⟩ μ),
  X5 Tryz.prog 102 0 Q (.loop (X4c 0 (Xd Tryz.f155))) [] ⟨fr [(0,(Lf (X0r.map X9))),(5,(slE X21.1 0 (List.map (aI .i64) Xk))),(6,(slE Xy.1 1 (List.map (aI .i64) Xl))),(7,(aI .i64 (k:Int)))],hp ([]++opE X21.1 0 1 (List.map (aI .i64) Xk)++opE Xy.1 1 1 (List.map (aI .i64) Xl)),2⟩ μ:=by
 intro xs
 induction xs with
 |nil =>
  intro k hx Xk Xl X21 Xy o h C0 C1
  have hk:=X1u hx
  have hc:decide ((k:Int)<(X0r.length:Int))=false:=Yf (by omega)
  rw[X1n] at h
  rcases X21 with ⟨_|_,X5k⟩
  ·
   rcases Xy with ⟨_|_,X0m⟩
   ·
    refine X5.round ?_
    revert h
    exact fun e=>Xb [.el (aI .i64 (X0r.length:Int)),Bf] (k:=wkT [] (C0 _ _  nbF nbF (oj e).symm))
   obtain rfl:=X0m rfl
   refine X5.round ?_
   revert h
   exact fun e=>Xb [.el (aI .i64 (X0r.length:Int)),Bf] (k:=wkT [] (C0 _ _  nbF nbS (oj e).symm))
  ·
   obtain rfl:=X5k rfl
   rcases Xy with ⟨_|_,X0m⟩
   ·
    refine X5.round ?_
    revert h
    exact fun e=>Xb [.el (aI .i64 (X0r.length:Int)),Bf] (k:=wkT [] (C0 _ _  nbS nbF (oj e).symm))
   ·
    obtain rfl:=X0m rfl
    refine X5.round ?_
    revert h
    exact fun e=>Xb [.el (aI .i64 (X0r.length:Int)),Bf] (k:=wkT [] (C0 _ _  nbS nbS (oj e).symm))
 |cons x xs ih =>
  intro k hx Xk Xl X21 Xy o h C0 C1
  obtain⟨hk,hg,hx1⟩:=X13 hx
  have hc:decide ((k:Int)<(X0r.length:Int))=true:=Yt (by omega)
  rw[X1n] at h
  rcases X21 with ⟨_|_,X5k⟩
  ·
   rcases Xy with ⟨_|_,X0m⟩
   ·
    refine X5.round ?_
    revert h
    refine bI fun v156 h157=>brI (fun h158=>?_) fun h158=>?_
    ·
     refine brI (fun h159=>fun e=>Xb [.el (aI .i64 (X0r.length:Int)),Bt,.el (X9 x),.pure _ (aI .i64 v156),Bt,.wrap,Bt] (k:=wkT [] (C1 _ _  nbS nbS (oj e).symm))) fun h159=>bI fun e160 h161=>?_
     try have qh161:=Xp h161
     refine bI fun e162 h163=>?_
     try have qh163:=Xp h163
     refine rnI [.el (aI .i64 (X0r.length:Int)),Bt,.el (X9 x),.pure _ (aI .i64 v156),Bt,.wrap,Bf,.el (aI .i64 e160),.ld (aI .i64 e160),.wrap,.el (aI .i64 e160),.ld (aI .i64 e160),.wrap,.el (aI .i64 e162),.ld (aI .i64 e162),.wrap] ?_
     refine brI (fun h164=>?_) fun h164=>?_
     ·
      refine brI (fun h165=>fun e=>Xb [Bt,Bt] (k:=wkT [] (C1 _ _  nbS nbS (oj e).symm))) fun h165=>bI fun e166 h167=>?_
      try have qh167:=Xp h167
      refine bI fun e168 h169=>?_
      try have qh169:=Xp h169
      refine bI fun v170 h171=>rnI [Bt,Bf,.el (aI .i64 e166),.ld (aI .i64 e166),.wrap,.el (aI .i64 e168),.ld (aI .i64 e168),.wrap,.el (X9 x),.pure _ (aB v170)] ?_
      refine brI (fun h172=>fun e=>Xb [Bt] (k:=wkT [] (C1 _ _  nbS nbS (oj e).symm))) fun h172=>?_
      refine bI fun u173 h174=>bI fun u175 h176=>rnI [Bf,.no,.no] (o:=by repeat' first|apply Ya|exact pcM|(refine X1m h174 rfl ?_;first|(simp;done)|(simp;omega)|(simp[hc,h158,h159,h164,h165,h172];done)|(simp[hc,h158,h159,h164,h165,h172];omega))|(refine X0i h174 (by decide) ?_;first|(simp;done)|(simp;omega)|(simp[hc,h158,h159,h164,h165,h172];done)|(simp[hc,h158,h159,h164,h165,h172];omega))|(refine X1m h176 rfl ?_;first|(simp;done)|(simp;omega)|(simp[hc,h158,h159,h164,h165,h172];done)|(simp[hc,h158,h159,h164,h165,h172];omega))|(refine X0i h176 (by decide) ?_;first|(simp;done)|(simp;omega)|(simp[hc,h158,h159,h164,h165,h172];done)|(simp[hc,h158,h159,h164,h165,h172];omega))|exact Xr) ?_
      intro h
      exact wkT [(0,3),(1,5)] (ih (k+1) hx1 _ _ nbF nbF o h C0 C1)
     refine bI fun v177 h178=>brI (fun h179=>fun e=>Xb [Bf,.el (X9 x),.pure _ (aB v177),Bt] (k:=wkT [] (C1 _ _  nbS nbS (oj e).symm))) fun h179=>?_
     refine bI fun u180 h181=>bI fun u182 h183=>rnI [Bf,.el (X9 x),.pure _ (aB v177),Bf,.no,.no] (o:=by repeat' first|apply Ya|exact pcM|(refine X1m h181 rfl ?_;first|(simp;done)|(simp;omega)|(simp[hc,h158,h159,h164,h179];done)|(simp[hc,h158,h159,h164,h179];omega))|(refine X0i h181 (by decide) ?_;first|(simp;done)|(simp;omega)|(simp[hc,h158,h159,h164,h179];done)|(simp[hc,h158,h159,h164,h179];omega))|(refine X1m h183 rfl ?_;first|(simp;done)|(simp;omega)|(simp[hc,h158,h159,h164,h179];done)|(simp[hc,h158,h159,h164,h179];omega))|(refine X0i h183 (by decide) ?_;first|(simp;done)|(simp;omega)|(simp[hc,h158,h159,h164,h179];done)|(simp[hc,h158,h159,h164,h179];omega))|exact Xr) ?_
     intro h
     exact wkT [(0,3),(1,5)] (ih (k+1) hx1 _ _ nbF nbF o h C0 C1)
    refine bI fun v184 h185=>brI (fun h186=>fun e=>Xb [.el (aI .i64 (X0r.length:Int)),Bt,.el (X9 x),.pure _ (aI .i64 v156),Bf,.el (X9 x),.pure _ (aB v184),Bt] (k:=wkT [] (C1 _ _  nbS nbS (oj e).symm))) fun h186=>?_
    refine bI fun u187 h188=>bI fun u189 h190=>rnI [.el (aI .i64 (X0r.length:Int)),Bt,.el (X9 x),.pure _ (aI .i64 v156),Bf,.el (X9 x),.pure _ (aB v184),Bf,.no,.no] (o:=by repeat' first|apply Ya|exact pcM|(refine X1m h188 rfl ?_;first|(simp;done)|(simp;omega)|(simp[hc,h158,h186];done)|(simp[hc,h158,h186];omega))|(refine X0i h188 (by decide) ?_;first|(simp;done)|(simp;omega)|(simp[hc,h158,h186];done)|(simp[hc,h158,h186];omega))|(refine X1m h190 rfl ?_;first|(simp;done)|(simp;omega)|(simp[hc,h158,h186];done)|(simp[hc,h158,h186];omega))|(refine X0i h190 (by decide) ?_;first|(simp;done)|(simp;omega)|(simp[hc,h158,h186];done)|(simp[hc,h158,h186];omega))|exact Xr) ?_
    intro h
    exact wkT [(0,3),(1,5)] (ih (k+1) hx1 _ _ nbF nbF o h C0 C1)
   obtain rfl:=X0m rfl
   refine X5.round ?_
   revert h
   refine bI fun v191 h192=>brI (fun h193=>?_) fun h193=>?_
   ·
    refine brI (fun h194=>fun e=>Xb [.el (aI .i64 (X0r.length:Int)),Bt,.el (X9 x),.pure _ (aI .i64 v191),Bt,.wrap,Bt] (k:=wkT [] (C1 _ _  nbS nbS (oj e).symm))) fun h194=>bI fun e195 h196=>?_
    try have qh196:=Xp h196
    refine bI fun e197 h198=>?_
    try have qh198:=Xp h198
    intro h
    exact absurd (h198) (by simp[X32])
   refine bI fun v199 h200=>brI (fun h201=>fun e=>Xb [.el (aI .i64 (X0r.length:Int)),Bt,.el (X9 x),.pure _ (aI .i64 v191),Bf,.el (X9 x),.pure _ (aB v199),Bt] (k:=wkT [] (C1 _ _  nbS nbS (oj e).symm))) fun h201=>?_
   refine bI fun u202 h203=>bI fun u204 h205=>rnI [.el (aI .i64 (X0r.length:Int)),Bt,.el (X9 x),.pure _ (aI .i64 v191),Bf,.el (X9 x),.pure _ (aB v199),Bf,.no,.no] (o:=by repeat' first|apply Ya|exact pcM|(refine X1m h203 rfl ?_;first|(simp;done)|(simp;omega)|(simp[hc,h193,h201];done)|(simp[hc,h193,h201];omega))|(refine X0i h203 (by decide) ?_;first|(simp;done)|(simp;omega)|(simp[hc,h193,h201];done)|(simp[hc,h193,h201];omega))|(refine X1m h205 rfl ?_;first|(simp;done)|(simp;omega)|(simp[hc,h193,h201];done)|(simp[hc,h193,h201];omega))|(refine X0i h205 (by decide) ?_;first|(simp;done)|(simp;omega)|(simp[hc,h193,h201];done)|(simp[hc,h193,h201];omega))|exact Xr) ?_
   intro h
   exact wkT [(0,3),(1,5)] (ih (k+1) hx1 _ _ nbF nbF o h C0 C1)
  obtain rfl:=X5k rfl
  rcases Xy with ⟨_|_,X0m⟩
  ·
   refine X5.round ?_
   revert h
   refine bI fun v206 h207=>brI (fun h208=>?_) fun h208=>?_
   ·
    refine brI (fun h209=>fun e=>Xb [.el (aI .i64 (X0r.length:Int)),Bt,.el (X9 x),.pure _ (aI .i64 v206),Bt,.wrap,Bt] (k:=wkT [] (C1 _ _  nbS nbS (oj e).symm))) fun h209=>bI fun e210 h211=>?_
    try have qh211:=Xp h211
    intro h
    exact absurd (h211) (by simp[X32])
   refine bI fun v212 h213=>brI (fun h214=>fun e=>Xb [.el (aI .i64 (X0r.length:Int)),Bt,.el (X9 x),.pure _ (aI .i64 v206),Bf,.el (X9 x),.pure _ (aB v212),Bt] (k:=wkT [] (C1 _ _  nbS nbS (oj e).symm))) fun h214=>?_
   refine bI fun u215 h216=>bI fun u217 h218=>rnI [.el (aI .i64 (X0r.length:Int)),Bt,.el (X9 x),.pure _ (aI .i64 v206),Bf,.el (X9 x),.pure _ (aB v212),Bf,.no,.no] (o:=by repeat' first|apply Ya|exact pcM|(refine X1m h216 rfl ?_;first|(simp;done)|(simp;omega)|(simp[hc,h208,h214];done)|(simp[hc,h208,h214];omega))|(refine X0i h216 (by decide) ?_;first|(simp;done)|(simp;omega)|(simp[hc,h208,h214];done)|(simp[hc,h208,h214];omega))|(refine X1m h218 rfl ?_;first|(simp;done)|(simp;omega)|(simp[hc,h208,h214];done)|(simp[hc,h208,h214];omega))|(refine X0i h218 (by decide) ?_;first|(simp;done)|(simp;omega)|(simp[hc,h208,h214];done)|(simp[hc,h208,h214];omega))|exact Xr) ?_
   intro h
   exact wkT [(0,3),(1,5)] (ih (k+1) hx1 _ _ nbF nbF o h C0 C1)
  obtain rfl:=X0m rfl
  refine X5.round ?_
  revert h
  refine bI fun v219 h220=>brI (fun h221=>?_) fun h221=>?_
  ·
   refine brI (fun h222=>fun e=>Xb [.el (aI .i64 (X0r.length:Int)),Bt,.el (X9 x),.pure _ (aI .i64 v219),Bt,.wrap,Bt] (k:=wkT [] (C1 _ _  nbS nbS (oj e).symm))) fun h222=>bI fun e223 h224=>?_
   try have qh224:=Xp h224
   intro h
   exact absurd (h224) (by simp[X32])
  refine bI fun v225 h226=>brI (fun h227=>fun e=>Xb [.el (aI .i64 (X0r.length:Int)),Bt,.el (X9 x),.pure _ (aI .i64 v219),Bf,.el (X9 x),.pure _ (aB v225),Bt] (k:=wkT [] (C1 _ _  nbS nbS (oj e).symm))) fun h227=>?_
  refine bI fun u228 h229=>bI fun u230 h231=>rnI [.el (aI .i64 (X0r.length:Int)),Bt,.el (X9 x),.pure _ (aI .i64 v219),Bf,.el (X9 x),.pure _ (aB v225),Bf,.no,.no] (o:=by repeat' first|apply Ya|exact pcM|(refine X1m h229 rfl ?_;first|(simp;done)|(simp;omega)|(simp[hc,h221,h227];done)|(simp[hc,h221,h227];omega))|(refine X0i h229 (by decide) ?_;first|(simp;done)|(simp;omega)|(simp[hc,h221,h227];done)|(simp[hc,h221,h227];omega))|(refine X1m h231 rfl ?_;first|(simp;done)|(simp;omega)|(simp[hc,h221,h227];done)|(simp[hc,h221,h227];omega))|(refine X0i h231 (by decide) ?_;first|(simp;done)|(simp;omega)|(simp[hc,h221,h227];done)|(simp[hc,h221,h227];omega))|exact Xr) ?_
  intro h
  exact wkT [(0,3),(1,5)] (ih (k+1) hx1 _ _ nbF nbF o h C0 C1)
instance Xw9:PCs Tryz.prog 155 (∀ (a0:(List X07)) (r:(List Int)×(List Int)×Bool),Xbi a0=some r->X0h Tryz.prog 155 [(Lf (a0.map X9))] (AV.tup [(AV.list true (List.map (aI .i64) r.1)),(AV.list true (List.map (aI .i64) r.2.1)),(aB r.2.2)])):=⟨fun a0 r h=>by
 refine X0h.sym X8 X065 (nt:=102) rfl rfl ?_ okM
 unfold Xbi at h
 revert h
 refine bI fun u1 h2=>?_
 have qh2:=X16 h2
 refine bI fun o232 h233=>rnI [] ?_
 intro h
 refine wkT [] (X5.cut (Xfl a0 qh2 a0 0 (by simp) _ _ nbS nbS _ h233 ?_ ?_))
 ·
  intro X08 X0n X0t X19 eo232;subst eo232
  refine X5.glue ?_
  try dsimp only at h
  rcases X0t with ⟨_|_,X4d⟩
  ·
   rcases X19 with ⟨_|_,X39⟩
   ·
    revert h
    refine bI fun Xuf h241=>rnI [.stop 25] ?_
    intro h
    refine X5.join (s':=⟨fr [(2,(AV.ref 0 0 (X08.length))),(3,(AV.ref 1 0 (X0n.length))),(4,(aB Xuf))],hp ([(0,Ob (List.map (aI .i64) X08) 1),(1,Ob (List.map (aI .i64) X0n) 1)]),2⟩) ?_ (fun J=>X5.cut ?_)
    ·
     revert h
     exact fun e=>oj e▸Xb [] (k:=fi)
    clear h;revert h241
    refine brI (fun h238=>?_) fun h238=>?_
    ·
     refine bI fun e239 h240=>?_
     try have qh240:=Xp h240
     intro h
     obtain rfl:=oj h
     exact Xb [.el (aI .i64 (a0.length:Int)),.go true,.go true,.go true,.el (aI .i64 (a0.length:Int)),.go true,.wrap,.go true,.el (aI .i64 e239),.go true,.ld (aI .i64 e239),.go true,.go true,.el (aI .i64 (a0.length:Int)),.go true] (k:=wkT [] (X5.glue J))
    intro h
    obtain rfl:=oj h
    exact Xb [.el (aI .i64 (a0.length:Int)),.go false,.go false,.go false,.go false,.go false,.go false,.go false,.go false,.go false,.go false] (k:=wkT [] (X5.glue J))
   obtain rfl:=X39 rfl
   revert h
   refine bI fun X03u h249=>rnI [.stop 25] ?_
   intro h
   refine X5.join (s':=⟨fr [(2,(AV.ref 0 0 (X08.length))),(3,AV.nils),(4,(aB X03u))],hp ([(0,Ob (List.map (aI .i64) X08) 1)]),2⟩) ?_ (fun J=>X5.cut ?_)
   ·
    revert h
    exact fun e=>oj e▸Xb [] (k:=fi)
   clear h;revert h249
   refine brI (fun h246=>?_) fun h246=>?_
   ·
    refine bI fun e247 h248=>?_
    try have qh248:=Xp h248
    intro h
    obtain rfl:=oj h
    exact Xb [.el (aI .i64 (a0.length:Int)),.go true,.go true,.go true,.el (aI .i64 (a0.length:Int)),.go true,.wrap,.go true,.el (aI .i64 e247),.go true,.ld (aI .i64 e247),.go true,.go true,.el (aI .i64 (a0.length:Int)),.go true] (k:=wkT [] (X5.glue J))
   intro h
   obtain rfl:=oj h
   exact Xb [.el (aI .i64 (a0.length:Int)),.go false,.go false,.go false,.go false,.go false,.go false,.go false,.go false,.go false,.go false] (k:=wkT [] (X5.glue J))
  obtain rfl:=X4d rfl
  rcases X19 with ⟨_|_,X39⟩
  ·
   revert h
   refine bI fun X03t h257=>rnI [.stop 25] ?_
   intro h
   refine X5.join (s':=⟨fr [(2,AV.nils),(3,(AV.ref 1 0 (X0n.length))),(4,(aB X03t))],hp ([(1,Ob (List.map (aI .i64) X0n) 1)]),2⟩) ?_ (fun J=>X5.cut ?_)
   ·
    revert h
    exact fun e=>oj e▸Xb [] (k:=fi)
   clear h;revert h257
   refine brI (fun h254=>?_) fun h254=>?_
   ·
    refine bI fun e255 h256=>?_
    try have qh256:=Xp h256
    intro h
    exact absurd (h256) (by simp[X32])
   intro h
   obtain rfl:=oj h
   exact Xb [.el (aI .i64 (a0.length:Int)),.go false,.go false,.go false,.go false,.go false,.go false,.go false,.go false,.go false,.go false] (k:=wkT [] (X5.glue J))
  obtain rfl:=X39 rfl
  revert h
  refine bI fun X03s h265=>rnI [.stop 25] ?_
  intro h
  refine X5.join (s':=⟨fr [(2,AV.nils),(3,AV.nils),(4,(aB X03s))],hp ([]),2⟩) ?_ (fun J=>X5.cut ?_)
  ·
   revert h
   exact fun e=>oj e▸Xb [] (k:=fi)
  clear h;revert h265
  refine brI (fun h262=>?_) fun h262=>?_
  ·
   refine bI fun e263 h264=>?_
   try have qh264:=Xp h264
   intro h
   exact absurd (h264) (by simp[X32])
  intro h
  obtain rfl:=oj h
  exact Xb [.el (aI .i64 (a0.length:Int)),.go false,.go false,.go false,.go false,.go false,.go false,.go false,.go false,.go false,.go false] (k:=wkT [] (X5.glue J))
 intro X1h X2y X1b X4t eo232;subst eo232
 refine X5.glue ?_
 try dsimp only at h
 rcases X1b with ⟨_|_,X5j⟩
 ·
  rcases X4t with ⟨_|_,Xb8⟩
  ·
   revert h
   exact fun e=>oj e▸Xb [] (k:=fi)
  obtain rfl:=Xb8 rfl
  revert h
  exact fun e=>oj e▸Xb [] (k:=fi)
 obtain rfl:=X5j rfl
 rcases X4t with ⟨_|_,Xb8⟩
 ·
  revert h
  exact fun e=>oj e▸Xb [] (k:=fi)
 obtain rfl:=Xb8 rfl
 revert h
 exact fun e=>oj e▸Xb [] (k:=fi)⟩
instance Xwb:PCs Tryz.prog 127 (∀ (a0:(List X07)) (r:Int),X4k a0=some r->X0h Tryz.prog 127 [(Lf (a0.map X9))] (aI .i64 r)):=⟨fun a0 r h=>by
 refine X0h.sym X8 X06l (nt:=24) rfl rfl ?_ okM
 unfold X4k at h
 revert h
 refine brI (fun h1=>fun e=>oj e▸Xb [.el (aI .i64 (a0.length:Int)),Bt] (k:=fi)) fun h1=>bI fun v2 h3=>rnI [.el (aI .i64 (a0.length:Int)),Bf,.pure _ (AV.tup [(AV.list true (List.map (aI .i64) v2.1)),(AV.list true (List.map (aI .i64) v2.2.1)),(aB v2.2.2)])] ?_
 refine brI (fun h4=>fun e=>oj e▸Xb [Bt] (k:=fi)) fun h4=>bI fun e5 h6=>?_
 try have qh6:=Xp h6
 exact brI (fun h7=>fun e=>oj e▸Xb [Bf,.el (aI .i64 (a0.length:Int)),.wrap,.el (aI .i64 e5),Bt] (k:=fi)) fun h7=>fun e=>oj e▸Xb [Bf,.el (aI .i64 (a0.length:Int)),.wrap,.el (aI .i64 e5),Bf] (k:=fi)⟩
theorem Xe0 {Q:Xx->St->Mu->Prop} {μ:Mu} (X0r:(List Int)) (hl:X0r.length<=140737488355328):∀ (xs:List Int) (k:Nat) (hx:X0r.drop k=xs) (o:X52) (h:X31 X0r xs k  = some o)
  (C0:o=X52.x0->X5 Tryz.prog 60 0 Q (.exit (.exit 0)) [] ⟨fr [(0,(Lf (List.map (aI .i64) X0r)))],hp ([]),0⟩ μ)
  (C1:o=X52.x1->X5 Tryz.prog 60 0 Q (.exit .ret) [] ⟨fr [(4,(aI .i64 8))],hp ([]),0⟩ μ),
  X5 Tryz.prog 60 0 Q (.loop (X4c 0 (Xd Tryz.f128))) [] ⟨fr [(0,(Lf (List.map (aI .i64) X0r))),(5,(aI .i64 (k:Int)))],hp ([]),0⟩ μ:=by
 intro xs
 induction xs with
 |nil =>
  intro k hx  o h C0 C1
  have hk:=X1u hx
  have hc:decide ((k:Int)<(X0r.length:Int))=false:=Yf (by omega)
  rw[X31] at h
  refine X5.round ?_
  revert h
  exact fun e=>Xb [.el (aI .i64 (X0r.length:Int)),Bf] (k:=wkT [] (C0  (oj e).symm))
 |cons x xs ih =>
  intro k hx  o h C0 C1
  obtain⟨hk,hg,hx1⟩:=X13 hx
  have hc:decide ((k:Int)<(X0r.length:Int))=true:=Yt (by omega)
  rw[X31] at h
  refine X5.round ?_
  revert h
  refine bI fun Xue h25=>rnI [.el (aI .i64 (X0r.length:Int)),Bt,.stop 8] ?_
  intro h
  refine X5.join (s':=⟨fr [(0,(Lf (List.map (aI .i64) X0r))),(5,(aI .i64 (k:Int))),(39,(aB Xue))],hp ([]),0⟩) ?_ (fun J=>X5.cut ?_)
  ·
   revert h
   refine brI (fun h26=>fun e=>Xb [Bt] (k:=wkT [] (C1  (oj e).symm))) fun h26=>rnI [Bf] ?_
   intro h
   exact wkT [] (ih (k+1) hx1  o h C0 C1)
  clear h;revert h25
  refine brI (fun h24=>?_) fun h24=>?_
  ·
   intro h
   obtain rfl:=oj h
   exact Xb [.el (aI .i64 x),.go false,.go false,.go false,.go false,.go false] (k:=wkT [] (X5.glue J))
  intro h
  obtain rfl:=oj h
  exact Xb [.el (aI .i64 x),.go true,.go true,.go true,.el (aI .i64 x),.go true,.go true] (k:=wkT [] (X5.glue J))
end Go.Av.Tryz