/- Printed by decomp.py: that the program computes the functions. -/
import Derived.Test.YtkjlgmgfhgamlaaGreatDCert11Z
import Derived.Test.YtkjlgmgfhgamlaaGreatDCert13Z
set_option linter.all false

namespace Go.Av.Tryz
open Go.Proofs Go.D
set_option maxRecDepth 10000
set_option maxHeartbeats 40000000
instance Xvx:PCs Tryz.prog 26 (∀ (a0:Xo) (r:Int),X9i a0=some r->X0h Tryz.prog 26 [(Xc false a0)] (aI .i64 r)):=⟨fun a0 r h=>by
 refine X0h.sym X8 fn26 (nt:=72) rfl rfl ?_ okM
 unfold X9i at h
 revert h
 refine bI fun Xuk h28=>rnI [.stop 1] ?_
 intro h
 refine X5.join (s':=⟨fr [(1,(AV.ptr 0 0 0)),(45,(aB Xuk))],hp ([(0,Ob [(Xc false a0)] 9)]),1⟩) ?_ (fun J=>X5.cut ?_)
 ·
  revert h
  refine brI (fun h29=>fun e=>oj e▸Xb [Bt] (k:=fi)) fun h29=>bI fun v30 h31=>brI (fun h32=>fun e=>oj e▸Xb [Bf,.pure _ (aI .i64 v30),Bt] (k:=fi)) fun h32=>bI fun o64 h65=>rnI [Bf,.pure _ (aI .i64 v30),Bf] ?_
  intro h
  refine wkT [] (X5.cut (Xfi a0 _ _ _ h65 ?_ ?_))
  ·
   intro eo64;subst eo64
   refine X5.glue ?_
   try dsimp only at h
   revert h
   exact fun e=>oj e▸Xb [] (k:=fi)
  intro eo64;subst eo64
  refine X5.glue ?_
  try dsimp only at h
  revert h
  exact fun e=>oj e▸Xb [] (k:=fi)
 clear h;revert h28
 refine brI (fun h15=>?_) fun h15=>?_
 ·
  intro h
  obtain rfl:=oj h
  exact Xb [.go false,.go false,.go false,.go false,.go false,.go false,.go false,.go false,.go false,.go false,.go false,.go false,.go false,.go false,.go false,.go false,.go false,.go false,.go false,.go false,.go false,.go false,.go false,.go false,.go false] (o:=by repeat' first|apply Ya|exact pcM|exact((X0 h15 rfl))|exact(X6 (X0 h15 rfl))|exact(X24 (X0 h15 rfl))|exact((X0 (X0 h15 rfl) rfl))|exact(X6 (X0 (X0 h15 rfl) rfl))|exact(X24 (X0 (X0 h15 rfl) rfl))|exact((X0 (X0 (X0 h15 rfl) rfl) rfl))|exact(X6 (X0 (X0 (X0 h15 rfl) rfl) rfl))|exact(X24 (X0 (X0 (X0 h15 rfl) rfl) rfl))|exact((X0 (X0 (X0 (X0 h15 rfl) rfl) rfl) rfl))|exact(X6 (X0 (X0 (X0 (X0 h15 rfl) rfl) rfl) rfl))|exact(X24 (X0 (X0 (X0 (X0 h15 rfl) rfl) rfl) rfl))|exact((X0 (X0 (X0 (X0 (X0 h15 rfl) rfl) rfl) rfl) rfl))|exact(X6 (X0 (X0 (X0 (X0 (X0 h15 rfl) rfl) rfl) rfl) rfl))|exact(X24 (X0 (X0 (X0 (X0 (X0 h15 rfl) rfl) rfl) rfl) rfl))|exact((X0 (X0 (X0 (X0 (X0 (X0 h15 rfl) rfl) rfl) rfl) rfl) rfl))|exact(X6 (X0 (X0 (X0 (X0 (X0 (X0 h15 rfl) rfl) rfl) rfl) rfl) rfl))|exact(X24 (X0 (X0 (X0 (X0 (X0 (X0 h15 rfl) rfl) rfl) rfl) rfl) rfl))|exact Xr) (k:=wkT [] (X5.glue J))
 refine brI (fun h16=>?_) fun h16=>?_
 ·
  intro h
  obtain rfl:=oj h
  exact Xb [.go true,.go true,.go true,.go false,.go false,.go false,.go false,.go false,.go false,.go false,.go false,.go false,.go false,.go false,.go false,.go false,.go false,.go false,.go false,.go false,.go false,.go false,.go false,.go false,.go false] (o:=by repeat' first|apply Ya|exact pcM|exact((X1 h15 h16))|exact(X6 (X1 h15 h16))|exact(X24 (X1 h15 h16))|exact((X0 (X1 h15 h16) rfl))|exact(X6 (X0 (X1 h15 h16) rfl))|exact(X24 (X0 (X1 h15 h16) rfl))|exact((X0 (X0 (X1 h15 h16) rfl) rfl))|exact(X6 (X0 (X0 (X1 h15 h16) rfl) rfl))|exact(X24 (X0 (X0 (X1 h15 h16) rfl) rfl))|exact((X0 (X0 (X0 (X1 h15 h16) rfl) rfl) rfl))|exact(X6 (X0 (X0 (X0 (X1 h15 h16) rfl) rfl) rfl))|exact(X24 (X0 (X0 (X0 (X1 h15 h16) rfl) rfl) rfl))|exact((X0 (X0 (X0 (X0 (X1 h15 h16) rfl) rfl) rfl) rfl))|exact(X6 (X0 (X0 (X0 (X0 (X1 h15 h16) rfl) rfl) rfl) rfl))|exact(X24 (X0 (X0 (X0 (X0 (X1 h15 h16) rfl) rfl) rfl) rfl))|exact((X0 (X0 (X0 (X0 (X0 (X1 h15 h16) rfl) rfl) rfl) rfl) rfl))|exact(X6 (X0 (X0 (X0 (X0 (X0 (X1 h15 h16) rfl) rfl) rfl) rfl) rfl))|exact(X24 (X0 (X0 (X0 (X0 (X0 (X1 h15 h16) rfl) rfl) rfl) rfl) rfl))|exact Xr) (k:=wkT [] (X5.glue J))
 refine brI (fun h17=>?_) fun h17=>?_
 ·
  intro h
  obtain rfl:=oj h
  exact Xb [.go true,.go true,.go true,.go true,.go true,.go true,X2a.el (aI .i64 (a0.Pending.length:Int)),.go true,.go false,.go false,.go false,.go false,.go false,.go false,.go false,.go false,.go false,.go false,.go false,.go false,.go false,.go false,.go false,.go false,.go false,.go false] (o:=by repeat' first|apply Ya|exact pcM|exact((X1 h15 h16))|exact(X6 (X1 h15 h16))|exact(X1q (X1 h15 h16))|exact((X1 (X1 h15 h16) h17))|exact(X6 (X1 (X1 h15 h16) h17))|exact(X24 (X1 (X1 h15 h16) h17))|exact((X0 (X1 (X1 h15 h16) h17) rfl))|exact(X6 (X0 (X1 (X1 h15 h16) h17) rfl))|exact(X24 (X0 (X1 (X1 h15 h16) h17) rfl))|exact((X0 (X0 (X1 (X1 h15 h16) h17) rfl) rfl))|exact(X6 (X0 (X0 (X1 (X1 h15 h16) h17) rfl) rfl))|exact(X24 (X0 (X0 (X1 (X1 h15 h16) h17) rfl) rfl))|exact((X0 (X0 (X0 (X1 (X1 h15 h16) h17) rfl) rfl) rfl))|exact(X6 (X0 (X0 (X0 (X1 (X1 h15 h16) h17) rfl) rfl) rfl))|exact(X24 (X0 (X0 (X0 (X1 (X1 h15 h16) h17) rfl) rfl) rfl))|exact((X0 (X0 (X0 (X0 (X1 (X1 h15 h16) h17) rfl) rfl) rfl) rfl))|exact(X6 (X0 (X0 (X0 (X0 (X1 (X1 h15 h16) h17) rfl) rfl) rfl) rfl))|exact(X24 (X0 (X0 (X0 (X0 (X1 (X1 h15 h16) h17) rfl) rfl) rfl) rfl))|exact Xr) (k:=wkT [] (X5.glue J))
 refine rnI [.go true,.go true,.go true,.go true,.go true,.go true,.el (aI .i64 (a0.Pending.length:Int)),.go true,.go true,.go true,.go true,.go true,.stop 999999] (o:=by repeat' first|apply Ya|exact pcM|exact((X1 h15 h16))|exact(X6 (X1 h15 h16))|exact(X1q (X1 h15 h16))|exact((X1 (X1 h15 h16) h17))|exact(X6 (X1 (X1 h15 h16) h17))|exact(X1q (X1 (X1 h15 h16) h17))|exact Xr) ?_
 refine brI (fun h18=>?_) fun h18=>?_
 ·
  intro h
  obtain rfl:=oj h
  exact Xb [.go false,.go false,.go false,.go false,.go false,.go false,.go false,.go false,.go false,.go false,.go false,.go false,.go false,.go false] (o:=by repeat' first|apply Ya|exact pcM|exact((X1 (X1 (X1 h15 h16) h17) h18))|exact(X6 (X1 (X1 (X1 h15 h16) h17) h18))|exact(X24 (X1 (X1 (X1 h15 h16) h17) h18))|exact((X0 (X1 (X1 (X1 h15 h16) h17) h18) rfl))|exact(X6 (X0 (X1 (X1 (X1 h15 h16) h17) h18) rfl))|exact(X24 (X0 (X1 (X1 (X1 h15 h16) h17) h18) rfl))|exact((X0 (X0 (X1 (X1 (X1 h15 h16) h17) h18) rfl) rfl))|exact(X6 (X0 (X0 (X1 (X1 (X1 h15 h16) h17) h18) rfl) rfl))|exact(X24 (X0 (X0 (X1 (X1 (X1 h15 h16) h17) h18) rfl) rfl))|exact((X0 (X0 (X0 (X1 (X1 (X1 h15 h16) h17) h18) rfl) rfl) rfl))|exact(X6 (X0 (X0 (X0 (X1 (X1 (X1 h15 h16) h17) h18) rfl) rfl) rfl))|exact(X24 (X0 (X0 (X0 (X1 (X1 (X1 h15 h16) h17) h18) rfl) rfl) rfl))|exact Xr) (k:=wkT [] (X5.glue J))
 refine brI (fun h19=>?_) fun h19=>?_
 ·
  intro h
  obtain rfl:=oj h
  exact Xb [.go true,.go true,.go true,.go true,.go false,.go false,.go false,.go false,.go false,.go false,.go false,.go false,.go false,.go false] (o:=by repeat' first|apply Ya|exact pcM|exact((X1 (X1 (X1 h15 h16) h17) h18))|exact(X6 (X1 (X1 (X1 h15 h16) h17) h18))|exact(X1q (X1 (X1 (X1 h15 h16) h17) h18))|exact((X1 (X1 (X1 (X1 h15 h16) h17) h18) h19))|exact(X6 (X1 (X1 (X1 (X1 h15 h16) h17) h18) h19))|exact(X24 (X1 (X1 (X1 (X1 h15 h16) h17) h18) h19))|exact((X0 (X1 (X1 (X1 (X1 h15 h16) h17) h18) h19) rfl))|exact(X6 (X0 (X1 (X1 (X1 (X1 h15 h16) h17) h18) h19) rfl))|exact(X24 (X0 (X1 (X1 (X1 (X1 h15 h16) h17) h18) h19) rfl))|exact((X0 (X0 (X1 (X1 (X1 (X1 h15 h16) h17) h18) h19) rfl) rfl))|exact(X6 (X0 (X0 (X1 (X1 (X1 (X1 h15 h16) h17) h18) h19) rfl) rfl))|exact(X24 (X0 (X0 (X1 (X1 (X1 (X1 h15 h16) h17) h18) h19) rfl) rfl))|exact Xr) (k:=wkT [] (X5.glue J))
 refine bI fun v20 h21=>brI (fun h22=>?_) fun h22=>?_
 ·
  intro h
  obtain rfl:=oj h
  exact Xb [.go true,.go true,.go true,.go true,.go true,.go true,.pure _ (aB v20),.go true,.go false,.go false,.go false,.go false,.go false,.go false,.go false] (o:=by repeat' first|apply Ya|exact pcM|exact((X1 (X1 (X1 h15 h16) h17) h18))|exact(X6 (X1 (X1 (X1 h15 h16) h17) h18))|exact(X1q (X1 (X1 (X1 h15 h16) h17) h18))|exact((X1 (X1 (X1 (X1 h15 h16) h17) h18) h19))|exact(X6 (X1 (X1 (X1 (X1 h15 h16) h17) h18) h19))|exact(X1q (X1 (X1 (X1 (X1 h15 h16) h17) h18) h19))|exact((X1 (X1 (X1 (X1 (X1 h15 h16) h17) h18) h19) h22))|exact(X6 (X1 (X1 (X1 (X1 (X1 h15 h16) h17) h18) h19) h22))|exact(X24 (X1 (X1 (X1 (X1 (X1 h15 h16) h17) h18) h19) h22))|exact((X0 (X1 (X1 (X1 (X1 (X1 h15 h16) h17) h18) h19) h22) rfl))|exact(X6 (X0 (X1 (X1 (X1 (X1 (X1 h15 h16) h17) h18) h19) h22) rfl))|exact(X24 (X0 (X1 (X1 (X1 (X1 (X1 h15 h16) h17) h18) h19) h22) rfl))|exact Xr) (k:=wkT [] (X5.glue J))
 refine bI fun v23 h24=>brI (fun h25=>?_) fun h25=>?_
 ·
  intro h
  obtain rfl:=oj h
  exact Xb [.go true,.go true,.go true,.go true,.go true,.go true,.pure _ (aB v20),.go true,.go true,.go true,.go true,.pure _ (aB v23),.go true,.go false,.go false,.go false] (o:=by repeat' first|apply Ya|exact pcM|exact((X1 (X1 (X1 h15 h16) h17) h18))|exact(X6 (X1 (X1 (X1 h15 h16) h17) h18))|exact(X1q (X1 (X1 (X1 h15 h16) h17) h18))|exact((X1 (X1 (X1 (X1 h15 h16) h17) h18) h19))|exact(X6 (X1 (X1 (X1 (X1 h15 h16) h17) h18) h19))|exact(X1q (X1 (X1 (X1 (X1 h15 h16) h17) h18) h19))|exact((X1 (X1 (X1 (X1 (X1 h15 h16) h17) h18) h19) h22))|exact(X6 (X1 (X1 (X1 (X1 (X1 h15 h16) h17) h18) h19) h22))|exact(X1q (X1 (X1 (X1 (X1 (X1 h15 h16) h17) h18) h19) h22))|exact((X1 (X1 (X1 (X1 (X1 (X1 h15 h16) h17) h18) h19) h22) h25))|exact(X6 (X1 (X1 (X1 (X1 (X1 (X1 h15 h16) h17) h18) h19) h22) h25))|exact(X24 (X1 (X1 (X1 (X1 (X1 (X1 h15 h16) h17) h18) h19) h22) h25))|exact Xr) (k:=wkT [] (X5.glue J))
 refine bI fun v26 h27=>?_
 intro h
 obtain rfl:=oj h
 exact Xb [.go true,.go true,.go true,.go true,.go true,.go true,.pure _ (aB v20),.go true,.go true,.go true,.go true,.pure _ (aB v23),.go true,.go true,.go true,.pure _ (aB v26),.go true] (o:=by repeat' first|apply Ya|exact pcM|exact((X1 (X1 (X1 h15 h16) h17) h18))|exact(X6 (X1 (X1 (X1 h15 h16) h17) h18))|exact(X1q (X1 (X1 (X1 h15 h16) h17) h18))|exact((X1 (X1 (X1 (X1 h15 h16) h17) h18) h19))|exact(X6 (X1 (X1 (X1 (X1 h15 h16) h17) h18) h19))|exact(X1q (X1 (X1 (X1 (X1 h15 h16) h17) h18) h19))|exact((X1 (X1 (X1 (X1 (X1 h15 h16) h17) h18) h19) h22))|exact(X6 (X1 (X1 (X1 (X1 (X1 h15 h16) h17) h18) h19) h22))|exact(X1q (X1 (X1 (X1 (X1 (X1 h15 h16) h17) h18) h19) h22))|exact((X1 (X1 (X1 (X1 (X1 (X1 h15 h16) h17) h18) h19) h22) h25))|exact(X6 (X1 (X1 (X1 (X1 (X1 (X1 h15 h16) h17) h18) h19) h22) h25))|exact(X1q (X1 (X1 (X1 (X1 (X1 (X1 h15 h16) h17) h18) h19) h22) h25))|exact Xr) (k:=wkT [] (X5.glue J))⟩
theorem Xdm {Q:Xx->St->Mu->Prop} {μ:Mu} (X6b:X0b) (Xdj:Xo) (y1_5:Bool) (Xgn:Xo) (Xqy:Int) (X9y:Xo):∀ (n:Nat) (Xvo:Int) (Xkp:Int) (o:X4l) (h:X2o X6b Xdj y1_5 Xgn Xqy X9y n Xvo Xkp=some o)
  (C0:o=X4l.x0->X5 Tryz.prog 156 0 Q (.exit .ret) [] ⟨fr [(4,(aB false))],hp ([]),0⟩ μ)
  (C1:∀ (Xk0:Int),o=X4l.x1 Xk0->X5 Tryz.prog 156 0 Q (.exit (.exit 2)) [] ⟨fr [(2,(AV.ptr 0 0 0)),(3,(AV.ptr 1 0 0)),(5,(aB y1_5)),(8,(aI .i64 Xk0)),(9,(AV.ptr 2 0 0)),(10,(aI .i64 Xqy)),(11,(AV.ptr 3 0 0))],hp ([(0,Ob [(X05 false X6b)] 10),(1,Ob [(Xc false Xdj)] 9),(2,Ob [(Xc false Xgn)] 9),(3,Ob [(Xc true X9y)] 9)]),4⟩ μ),
  X5 Tryz.prog 156 0 Q (.loop (X4c 1 (Xd Tryz.f6))) [] ⟨fr [(2,(AV.ptr 0 0 0)),(3,(AV.ptr 1 0 0)),(5,(aB y1_5)),(8,(aI .i64 Xvo)),(9,(AV.ptr 2 0 0)),(10,(aI .i64 Xqy)),(11,(AV.ptr 3 0 0)),(13,(aI .i64 Xkp))],hp ([(0,Ob [(X05 false X6b)] 10),(1,Ob [(Xc false Xdj)] 9),(2,Ob [(Xc false Xgn)] 9),(3,Ob [(Xc true X9y)] 9)]),4⟩ μ:=by
 intro n
 induction n with
 |zero=>intro Xvo Xkp o h C0 C1;cases h
 |succ n ih =>
  intro Xvo Xkp o h C0 C1
  rw[X2o] at h
  refine X5.round ?_
  revert h
  refine brI (fun h185=>?_) fun h185=>fun e=>Xb [.el (aI .i64 (X9y.Pending.length:Int)),Bf] (k:=wkT [] (C1 _  (oj e).symm))
  refine brI (fun h186=>fun e=>Xb [.el (aI .i64 (X9y.Pending.length:Int)),Bt,.el (aI .i64 (Xdj.Store.length:Int)),Bt] (k:=wkT [] (C0  (oj e).symm))) fun h186=>bI fun e187 h188=>?_
  try have qh188:=Xp h188
  refine bI fun v189 h190=>bI fun Xlk h198=>rnI [.el (aI .i64 (X9y.Pending.length:Int)),Bt,.el (aI .i64 (Xdj.Store.length:Int)),Bf,.el (X3 e187),.ix 0,.pure _ (AV.tup [(aI .i64 v189.1),(aI .i64 v189.2)]),.stop 21] ?_
  intro h
  refine X5.join (s':=⟨fr [(2,(AV.ptr 0 0 0)),(3,(AV.ptr 1 0 0)),(5,(aB y1_5)),(8,(aI .i64 Xvo)),(9,(AV.ptr 2 0 0)),(10,(aI .i64 Xqy)),(11,(AV.ptr 3 0 0)),(13,(aI .i64 Xkp)),(137,(aB Xlk))],hp ([(0,Ob [(X05 false X6b)] 10),(1,Ob [(Xc false Xdj)] 9),(2,Ob [(Xc false Xgn)] 9),(3,Ob [(Xc true X9y)] 9)]),4⟩) ?_ (fun J=>X5.cut ?_)
  ·
   revert h
   refine brI (fun h199=>fun e=>Xb [Bt] (k:=wkT [] (C0  (oj e).symm))) fun h199=>rnI [Bf,.wrap,.wrap] ?_
   intro h
   exact wkT [] (ih  _ _ o h C0 C1)
  clear h;revert h198
  refine brI (fun h195=>?_) fun h195=>?_
  ·
   intro h
   obtain rfl:=oj h
   exact Xb [.go false,.go false,.go false,.go false,.go false,.go false,.go false,.go false,.go false,.go false,.go false,.go false,.go false,.go false,.go false,.go false,.go false,.go false,.go false,.go false,.go false,.go false,.go false,.go true] (k:=wkT [] (X5.glue J))
  refine bI fun e196 h197=>?_
  try have qh197:=Xp h197
  intro h
  obtain rfl:=oj h
  exact Xb [.go true,.go true,.go true,.go true,X2a.el (Xs e196),.go true,.go true,.go true,.go true,.go true,.go true,.go true,X2a.el (X3 e187),.go true,.go true,.go true,.go true,.go true,.go true,X2a.el (X3 e187),.go true,.go true,.go true,.go true,.go true,.go true] (k:=wkT [] (X5.glue J))
theorem Xdn {Q:Xx->St->Mu->Prop} {μ:Mu} (Xk:X0b) (Xl:Xo) (Xkq:Bool):∀ (n:Nat) (Xpy:Int) (X7g:Xo) (Xag:Int) (o:X4m) (h:X2p Xk Xl Xkq n Xpy X7g Xag=some o)
  (C0:o=X4m.x0->X5 Tryz.prog 156 0 Q (.exit .ret) [] ⟨fr [(4,(aB false))],hp ([]),0⟩ μ)
  (C1:∀ (Xg7:Int) (X2y:Xo),o=X4m.x1 Xg7 X2y->X5 Tryz.prog 156 0 Q (.exit (.exit 0)) [] ⟨fr [(3,(AV.ptr 0 0 0)),(5,(aB Xkq)),(8,(aI .i64 Xg7)),(9,(AV.ptr 1 0 0))],hp ([(0,Ob [(Xc false Xl)] 9),(1,Ob [(Xc false X2y)] 9)]),2⟩ μ),
  X5 Tryz.prog 156 0 Q (.loop (X4c 0 (Xd Tryz.f6))) [] ⟨fr [(2,(AV.ptr 0 0 0)),(3,(AV.ptr 1 0 0)),(5,(aB Xkq)),(8,(aI .i64 Xpy)),(9,(AV.ptr 2 0 0)),(10,(aI .i64 Xag))],hp ([(0,Ob [(X05 false Xk)] 10),(1,Ob [(Xc false Xl)] 9),(2,Ob [(Xc false X7g)] 9)]),3⟩ μ:=by
 intro n
 induction n with
 |zero=>intro Xpy X7g Xag o h C0 C1;cases h
 |succ n ih =>
  intro Xpy X7g Xag o h C0 C1
  rw[X2p] at h
  refine X5.round ?_
  revert h
  refine brI (fun h148=>?_) fun h148=>fun e=>Xb [.el (aI .i64 (Xl.Marks.length:Int)),Bf] (k:=wkT [(0,1),(1,2)] (C1 _ _  (oj e).symm))
  refine bI fun v149 h150=>bI fun v151 h152=>brI (fun h153=>fun e=>Xb [.el (aI .i64 (Xl.Marks.length:Int)),Bt,.pure _ (X00 v149),.pure _ (AV.tup [(Xc true v151.1),(aI .i64 v151.2)]),Bt] (k:=wkT [] (C0  (oj e).symm))) fun h153=>bI fun o200 h201=>rnI [.el (aI .i64 (Xl.Marks.length:Int)),Bt,.pure _ (X00 v149),.pure _ (AV.tup [(Xc true v151.1),(aI .i64 v151.2)]),Bf] ?_
  intro h
  refine wkT [(3,11)] (X5.cut (Xdm Xk Xl Xkq X7g Xag v151.1 _ _ _ _ h201 ?_ ?_))
  ·
   intro eo200;subst eo200
   refine X5.glue ?_
   try dsimp only at h
   revert h
   exact fun e=>Xb [] (k:=wkT [] (C0  (oj e).symm))
  intro Xk0 eo200;subst eo200
  refine X5.glue ?_
  try dsimp only at h
  refine X09 [.wrap] ?_
  refine X5.denil 2 [AV.agg [(aI .u8 v151.1.Op.Kind),(aI .i64 v151.1.Op.N),(aI .i64 v151.1.Turn),(AV.list true (List.map Xs ([]:List X0g))),(AV.list true (List.map (aI .i64) v151.1.Marks)),(AV.list true (v151.1.Store.map X3)),(AV.list true (v151.1.Events.map X01)),(AV.list true (v151.1.Rows.map Xw)),(AV.list true (v151.1.Late.map Xt))]] rfl rfl ?_
  refine X5.denil 3 [AV.agg [(aI .u8 v151.1.Op.Kind),(aI .i64 v151.1.Op.N),(aI .i64 v151.1.Turn),(AV.list true (List.map Xs ([]:List X0g))),(AV.list true (List.map (aI .i64) v151.1.Marks)),(AV.list true (v151.1.Store.map X3)),(AV.list true (v151.1.Events.map X01)),(AV.list true (v151.1.Rows.map Xw)),(AV.list true (v151.1.Late.map Xt))]] rfl rfl ?_
  refine X5.unown 2 [AV.agg [(aI .u8 v151.1.Op.Kind),(aI .i64 v151.1.Op.N),(aI .i64 v151.1.Turn),(Lf (List.map Xs ([]:List X0g))),(Lf (List.map (aI .i64) v151.1.Marks)),(Lf (v151.1.Store.map X3)),(Lf (v151.1.Events.map X01)),(Lf (v151.1.Rows.map Xw)),(Lf (v151.1.Late.map Xt))]] rfl rfl ?_
  exact wkT [] (ih  _ _ _ o h C0 C1)
instance Xfr:PCs Tryz.prog 6 (∀ (a0:X0b) (a1:Xo) (r:Bool),X5x a0 a1=some r->X0h Tryz.prog 6 [(X05 false a0),(Xc false a1)] (aB r)):=⟨fun a0 a1 r h=>by
 refine X0h.sym X8 fn6 (nt:=156) rfl rfl ?_ okM
 unfold X5x at h
 revert h
 refine bI fun v1 h2=>bI fun Xuh h34=>rnI [.pure _ (aB v1),.stop 2] ?_
 intro h
 refine X5.join (s':=⟨fr [(2,(AV.ptr 0 0 0)),(3,(AV.ptr 1 0 0)),(5,(aB v1)),(52,(aB Xuh))],hp ([(0,Ob [(X05 false a0)] 10),(1,Ob [(Xc false a1)] 9)]),2⟩) ?_ (fun J=>X5.cut ?_)
 ·
  revert h
  refine brI (fun h35=>fun e=>oj e▸Xb [Bt] (k:=fi)) fun h35=>bI fun v36 h37=>brI (fun h38=>fun e=>oj e▸Xb [Bf,.pure _ (AV.tup [(aI .i64 v36.1),(aI .i64 v36.2)]),Bt] (k:=fi)) fun h38=>bI fun o202 h203=>rnI [Bf,.pure _ (AV.tup [(aI .i64 v36.1),(aI .i64 v36.2)]),Bf] ?_
  intro h
  refine wkT [] (X5.cut (Xdn a0 a1 v1 _ _ _ _ _ h203 ?_ ?_))
  ·
   intro eo202;subst eo202
   refine X5.glue ?_
   try dsimp only at h
   revert h
   exact fun e=>oj e▸Xb [] (k:=fi)
  intro Xg7 X2y eo202;subst eo202
  refine X5.glue ?_
  try dsimp only at h
  revert h
  refine bI fun Xug h209=>rnI [.stop 26] ?_
  intro h
  refine X5.join (s':=⟨fr [(4,(aB Xug))],hp ([]),0⟩) ?_ (fun J=>X5.cut ?_)
  ·
   revert h
   exact fun e=>oj e▸Xb [] (k:=fi)
  clear h;revert h209
  refine brI (fun h207=>?_) fun h207=>?_
  ·
   refine brI (fun h208=>?_) fun h208=>?_
   ·
    intro h
    obtain rfl:=oj h
    exact Xb [.go true,.go true,.go true,.go true,.el (aI .i64 (a1.Store.length:Int)),.go true,.go true,.go true,.go true,.el (aI .i64 (X2y.Store.length:Int)),.go true] (o:=by repeat' first|apply Ya|exact pcM|exact((X0 h207 h208))|exact(X6 (X0 h207 h208))|exact(X24 (X0 h207 h208))|exact Xr) (k:=wkT [] (X5.glue J))
   intro h
   obtain rfl:=oj h
   exact Xb [.go true,.go true,.go true,.go true,.el (aI .i64 (a1.Store.length:Int)),.go true,.go false,.go false,.go false,.go false] (o:=by repeat' first|apply Ya|exact pcM|exact((X0 h207 h208))|exact(X6 (X0 h207 h208))|exact(X1q (X0 h207 h208))|exact Xr) (k:=wkT [] (X5.glue J))
  intro h
  obtain rfl:=oj h
  exact Xb [.go false,.go false,.go false,.go false,.go false,.go false,.go false,.go false,.go false] (o:=by repeat' first|apply Ya|exact pcM|exact((X1 h207 rfl))|exact(X6 (X1 h207 rfl))|exact(X1q (X1 h207 rfl))|exact Xr) (k:=wkT [] (X5.glue J))
 clear h;revert h34
 refine bI fun v19 h20=>brI (fun h21=>?_) fun h21=>?_
 ·
  intro h
  obtain rfl:=oj h
  exact Xb [.pure _ (aB v19),.go false,.go false,.go false,.go false,.go false,.go false,.go false,.go false,.go false,.go false,.go false,.go false,.go false,.go false,.go false,.go false,.go false,.go false,.go false,.go false] (o:=by repeat' first|apply Ya|exact pcM|exact((X0 h21 rfl))|exact(X6 (X0 h21 rfl))|exact(X24 (X0 h21 rfl))|exact((X0 (X0 h21 rfl) rfl))|exact(X6 (X0 (X0 h21 rfl) rfl))|exact(X24 (X0 (X0 h21 rfl) rfl))|exact((X0 (X0 (X0 h21 rfl) rfl) rfl))|exact(X6 (X0 (X0 (X0 h21 rfl) rfl) rfl))|exact(X24 (X0 (X0 (X0 h21 rfl) rfl) rfl))|exact((X0 (X0 (X0 (X0 h21 rfl) rfl) rfl) rfl))|exact(X6 (X0 (X0 (X0 (X0 h21 rfl) rfl) rfl) rfl))|exact(X24 (X0 (X0 (X0 (X0 h21 rfl) rfl) rfl) rfl))|exact((X0 (X0 (X0 (X0 (X0 h21 rfl) rfl) rfl) rfl) rfl))|exact(X6 (X0 (X0 (X0 (X0 (X0 h21 rfl) rfl) rfl) rfl) rfl))|exact(X24 (X0 (X0 (X0 (X0 (X0 h21 rfl) rfl) rfl) rfl) rfl))|exact((X0 (X0 (X0 (X0 (X0 (X0 h21 rfl) rfl) rfl) rfl) rfl) rfl))|exact(X6 (X0 (X0 (X0 (X0 (X0 (X0 h21 rfl) rfl) rfl) rfl) rfl) rfl))|exact(X24 (X0 (X0 (X0 (X0 (X0 (X0 h21 rfl) rfl) rfl) rfl) rfl) rfl))|exact Xr) (k:=wkT [] (X5.glue J))
 refine bI fun v22 h23=>brI (fun h24=>?_) fun h24=>?_
 ·
  intro h
  obtain rfl:=oj h
  exact Xb [.pure _ (aB v19),.go true,.go true,.pure _ (aB v22),.go false,.go false,.go false,.go false,.go false,.go false,.go false,.go false,.go false,.go false,.go false,.go false,.go false,.go false,.go false,.go false,.go false,.go false] (o:=by repeat' first|apply Ya|exact pcM|exact((X1 h21 h24))|exact(X6 (X1 h21 h24))|exact(X24 (X1 h21 h24))|exact((X0 (X1 h21 h24) rfl))|exact(X6 (X0 (X1 h21 h24) rfl))|exact(X24 (X0 (X1 h21 h24) rfl))|exact((X0 (X0 (X1 h21 h24) rfl) rfl))|exact(X6 (X0 (X0 (X1 h21 h24) rfl) rfl))|exact(X24 (X0 (X0 (X1 h21 h24) rfl) rfl))|exact((X0 (X0 (X0 (X1 h21 h24) rfl) rfl) rfl))|exact(X6 (X0 (X0 (X0 (X1 h21 h24) rfl) rfl) rfl))|exact(X24 (X0 (X0 (X0 (X1 h21 h24) rfl) rfl) rfl))|exact((X0 (X0 (X0 (X0 (X1 h21 h24) rfl) rfl) rfl) rfl))|exact(X6 (X0 (X0 (X0 (X0 (X1 h21 h24) rfl) rfl) rfl) rfl))|exact(X24 (X0 (X0 (X0 (X0 (X1 h21 h24) rfl) rfl) rfl) rfl))|exact((X0 (X0 (X0 (X0 (X0 (X1 h21 h24) rfl) rfl) rfl) rfl) rfl))|exact(X6 (X0 (X0 (X0 (X0 (X0 (X1 h21 h24) rfl) rfl) rfl) rfl) rfl))|exact(X24 (X0 (X0 (X0 (X0 (X0 (X1 h21 h24) rfl) rfl) rfl) rfl) rfl))|exact Xr) (k:=wkT [] (X5.glue J))
 refine bI fun v25 h26=>brI (fun h27=>?_) fun h27=>?_
 ·
  intro h
  obtain rfl:=oj h
  exact Xb [.pure _ (aB v19),.go true,.go true,.pure _ (aB v22),.go true,.go true,.pure _ (aB v25),.go true,.go false,.go false,.go false,.go false,.go false,.go false,.go false,.go false,.go false,.go false,.go false,.go false,.go false,.go false,.go false] (o:=by repeat' first|apply Ya|exact pcM|exact((X1 h21 h24))|exact(X6 (X1 h21 h24))|exact(X1q (X1 h21 h24))|exact((X1 (X1 h21 h24) h27))|exact(X6 (X1 (X1 h21 h24) h27))|exact(X24 (X1 (X1 h21 h24) h27))|exact((X0 (X1 (X1 h21 h24) h27) rfl))|exact(X6 (X0 (X1 (X1 h21 h24) h27) rfl))|exact(X24 (X0 (X1 (X1 h21 h24) h27) rfl))|exact((X0 (X0 (X1 (X1 h21 h24) h27) rfl) rfl))|exact(X6 (X0 (X0 (X1 (X1 h21 h24) h27) rfl) rfl))|exact(X24 (X0 (X0 (X1 (X1 h21 h24) h27) rfl) rfl))|exact((X0 (X0 (X0 (X1 (X1 h21 h24) h27) rfl) rfl) rfl))|exact(X6 (X0 (X0 (X0 (X1 (X1 h21 h24) h27) rfl) rfl) rfl))|exact(X24 (X0 (X0 (X0 (X1 (X1 h21 h24) h27) rfl) rfl) rfl))|exact((X0 (X0 (X0 (X0 (X1 (X1 h21 h24) h27) rfl) rfl) rfl) rfl))|exact(X6 (X0 (X0 (X0 (X0 (X1 (X1 h21 h24) h27) rfl) rfl) rfl) rfl))|exact(X24 (X0 (X0 (X0 (X0 (X1 (X1 h21 h24) h27) rfl) rfl) rfl) rfl))|exact Xr) (k:=wkT [] (X5.glue J))
 refine brI (fun h28=>?_) fun h28=>?_
 ·
  intro h
  obtain rfl:=oj h
  exact Xb [.pure _ (aB v19),.go true,.go true,.pure _ (aB v22),.go true,.go true,.pure _ (aB v25),.go true,.go true,.go true,.go false,.go false,.go false,.go false,.go false,.go false,.go false,.go false,.go false,.go false,.go false,.go false,.go false] (o:=by repeat' first|apply Ya|exact pcM|exact((X1 h21 h24))|exact(X6 (X1 h21 h24))|exact(X1q (X1 h21 h24))|exact((X1 (X1 h21 h24) h27))|exact(X6 (X1 (X1 h21 h24) h27))|exact(X1q (X1 (X1 h21 h24) h27))|exact((X1 (X1 (X1 h21 h24) h27) h28))|exact(X6 (X1 (X1 (X1 h21 h24) h27) h28))|exact(X24 (X1 (X1 (X1 h21 h24) h27) h28))|exact((X0 (X1 (X1 (X1 h21 h24) h27) h28) rfl))|exact(X6 (X0 (X1 (X1 (X1 h21 h24) h27) h28) rfl))|exact(X24 (X0 (X1 (X1 (X1 h21 h24) h27) h28) rfl))|exact((X0 (X0 (X1 (X1 (X1 h21 h24) h27) h28) rfl) rfl))|exact(X6 (X0 (X0 (X1 (X1 (X1 h21 h24) h27) h28) rfl) rfl))|exact(X24 (X0 (X0 (X1 (X1 (X1 h21 h24) h27) h28) rfl) rfl))|exact((X0 (X0 (X0 (X1 (X1 (X1 h21 h24) h27) h28) rfl) rfl) rfl))|exact(X6 (X0 (X0 (X0 (X1 (X1 (X1 h21 h24) h27) h28) rfl) rfl) rfl))|exact(X24 (X0 (X0 (X0 (X1 (X1 (X1 h21 h24) h27) h28) rfl) rfl) rfl))|exact Xr) (k:=wkT [] (X5.glue J))
 refine bI fun v29 h30=>rnI [.pure _ (aB v19),.go true,.go true,.pure _ (aB v22),.go true,.go true,.pure _ (aB v25),.go true,.go true,.go true,.go true,.go true,.pure _ (aI .i64 v29),.go true,.stop 999999] (o:=by repeat' first|apply Ya|exact pcM|exact((X1 h21 h24))|exact(X6 (X1 h21 h24))|exact(X1q (X1 h21 h24))|exact((X1 (X1 h21 h24) h27))|exact(X6 (X1 (X1 h21 h24) h27))|exact(X1q (X1 (X1 h21 h24) h27))|exact((X1 (X1 (X1 h21 h24) h27) h28))|exact(X6 (X1 (X1 (X1 h21 h24) h27) h28))|exact(X1q (X1 (X1 (X1 h21 h24) h27) h28))|exact Xr) ?_
 refine brI (fun h31=>?_) fun h31=>?_
 ·
  intro h
  obtain rfl:=oj h
  exact Xb [.go false,.go false,.go false,.go false,.go false,.go false,.go false,.go false,.go false,.go false] (o:=by repeat' first|apply Ya|exact pcM|exact((X1 (X1 (X1 (X1 h21 h24) h27) h28) h31))|exact(X6 (X1 (X1 (X1 (X1 h21 h24) h27) h28) h31))|exact(X24 (X1 (X1 (X1 (X1 h21 h24) h27) h28) h31))|exact((X0 (X1 (X1 (X1 (X1 h21 h24) h27) h28) h31) rfl))|exact(X6 (X0 (X1 (X1 (X1 (X1 h21 h24) h27) h28) h31) rfl))|exact(X24 (X0 (X1 (X1 (X1 (X1 h21 h24) h27) h28) h31) rfl))|exact((X0 (X0 (X1 (X1 (X1 (X1 h21 h24) h27) h28) h31) rfl) rfl))|exact(X6 (X0 (X0 (X1 (X1 (X1 (X1 h21 h24) h27) h28) h31) rfl) rfl))|exact(X24 (X0 (X0 (X1 (X1 (X1 (X1 h21 h24) h27) h28) h31) rfl) rfl))|exact Xr) (k:=wkT [] (X5.glue J))
 refine brI (fun h32=>?_) fun h32=>?_
 ·
  intro h
  obtain rfl:=oj h
  exact Xb [.go true,.go true,.go true,.go true,.go false,.go false,.go false,.go false,.go false,.go false] (o:=by repeat' first|apply Ya|exact pcM|exact((X1 (X1 (X1 (X1 h21 h24) h27) h28) h31))|exact(X6 (X1 (X1 (X1 (X1 h21 h24) h27) h28) h31))|exact(X1q (X1 (X1 (X1 (X1 h21 h24) h27) h28) h31))|exact((X1 (X1 (X1 (X1 (X1 h21 h24) h27) h28) h31) h32))|exact(X6 (X1 (X1 (X1 (X1 (X1 h21 h24) h27) h28) h31) h32))|exact(X24 (X1 (X1 (X1 (X1 (X1 h21 h24) h27) h28) h31) h32))|exact((X0 (X1 (X1 (X1 (X1 (X1 h21 h24) h27) h28) h31) h32) rfl))|exact(X6 (X0 (X1 (X1 (X1 (X1 (X1 h21 h24) h27) h28) h31) h32) rfl))|exact(X24 (X0 (X1 (X1 (X1 (X1 (X1 h21 h24) h27) h28) h31) h32) rfl))|exact Xr) (k:=wkT [] (X5.glue J))
 refine brI (fun h33=>?_) fun h33=>?_
 ·
  intro h
  obtain rfl:=oj h
  exact Xb [.go true,.go true,.go true,.go true,.go true,.go true,.go true,.el (aI .i64 (a1.Pending.length:Int)),.go true,.go false,.go false] (o:=by repeat' first|apply Ya|exact pcM|exact((X1 (X1 (X1 (X1 h21 h24) h27) h28) h31))|exact(X6 (X1 (X1 (X1 (X1 h21 h24) h27) h28) h31))|exact(X1q (X1 (X1 (X1 (X1 h21 h24) h27) h28) h31))|exact((X1 (X1 (X1 (X1 (X1 h21 h24) h27) h28) h31) h32))|exact(X6 (X1 (X1 (X1 (X1 (X1 h21 h24) h27) h28) h31) h32))|exact(X1q (X1 (X1 (X1 (X1 (X1 h21 h24) h27) h28) h31) h32))|exact((X1 (X1 (X1 (X1 (X1 (X1 h21 h24) h27) h28) h31) h32) h33))|exact(X6 (X1 (X1 (X1 (X1 (X1 (X1 h21 h24) h27) h28) h31) h32) h33))|exact(X24 (X1 (X1 (X1 (X1 (X1 (X1 h21 h24) h27) h28) h31) h32) h33))|exact Xr) (k:=wkT [] (X5.glue J))
 intro h
 obtain rfl:=oj h
 exact Xb [.go true,.go true,.go true,.go true,.go true,.go true,.go true,.el (aI .i64 (a1.Pending.length:Int)),.go true,.go true,.go true] (o:=by repeat' first|apply Ya|exact pcM|exact((X1 (X1 (X1 (X1 h21 h24) h27) h28) h31))|exact(X6 (X1 (X1 (X1 (X1 h21 h24) h27) h28) h31))|exact(X1q (X1 (X1 (X1 (X1 h21 h24) h27) h28) h31))|exact((X1 (X1 (X1 (X1 (X1 h21 h24) h27) h28) h31) h32))|exact(X6 (X1 (X1 (X1 (X1 (X1 h21 h24) h27) h28) h31) h32))|exact(X1q (X1 (X1 (X1 (X1 (X1 h21 h24) h27) h28) h31) h32))|exact((X1 (X1 (X1 (X1 (X1 (X1 h21 h24) h27) h28) h31) h32) h33))|exact(X6 (X1 (X1 (X1 (X1 (X1 (X1 h21 h24) h27) h28) h31) h32) h33))|exact(X1q (X1 (X1 (X1 (X1 (X1 (X1 h21 h24) h27) h28) h31) h32) h33))|exact Xr) (k:=wkT [] (X5.glue J))⟩
end Go.Av.Tryz