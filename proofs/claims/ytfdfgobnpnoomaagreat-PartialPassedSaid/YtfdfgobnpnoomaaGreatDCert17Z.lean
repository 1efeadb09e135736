/- Printed by decomp.py: that the program computes the functions. -/
import Derived.Test.YtfdfgobnpnoomaaGreatDCert16Z
set_option linter.all false

namespace Go.Av.Tryz
open Go.Proofs Go.D
set_option maxRecDepth 10000
set_option maxHeartbeats 40000000
theorem Xgr {Q:X02->St->Mu->Prop} {μ:Mu} (X00:(List X0t)) (X1s:(List X0t)) (hl:X00.length<=140737488355328):∀ (xs:List X0t) (k:Nat) (hx:X00.drop k=xs) (o:X5g) (h:X2t X00 X1s xs k  = some o)
  (C0:o=X5g.x0->X2 Tryz.prog 26 0 Q (.exit (.exit 0)) [] ⟨fr [],hp ([]),0⟩ μ)
  (C1:o=X5g.x1->X2 Tryz.prog 26 0 Q (.exit .ret) [] ⟨fr [(4,(aB false))],hp ([]),0⟩ μ),
  X2 Tryz.prog 26 0 Q (.loop (X2v 0 (Xh Tryz.f41))) [] ⟨fr [(0,(Lf (X00.map Xb))),(1,(Lf (X1s.map Xb))),(5,(aI .i64 (k:Int)))],hp ([]),0⟩ μ:=by
 intro xs
 induction xs with
 |nil =>
  intro k hx  o h C0 C1
  have hk:=drop_nil hx
  have hc:decide ((k:Int)<(X00.length:Int))=false:=Yf (by omega)
  rw[X2t] at h
  refine X2.round ?_
  revert h
  exact fun e=>X9 [.el (aI .i64 (X00.length:Int)),Bf] (k:=wkT [] (C0  (oj e).symm))
 |cons x xs ih =>
  intro k hx  o h C0 C1
  obtain⟨hk,hg,hx1⟩:=drop_cons hx
  have hc:decide ((k:Int)<(X00.length:Int))=true:=Yt (by omega)
  rw[X2t] at h
  refine X2.round ?_
  revert h
  refine bI fun e11 h12=>?_
  try have qh12:=Xn h12
  refine brI (fun h13=>fun e=>X9 [.el (aI .i64 (X00.length:Int)),Bt,.el (Xb x),.el (Xb e11),Bt] (k:=wkT [] (C1  (oj e).symm))) fun h13=>rnI [.el (aI .i64 (X00.length:Int)),Bt,.el (Xb x),.el (Xb e11),Bf] ?_
  intro h
  exact wkT [] (ih (k+1) hx1  o h C0 C1)
instance Xx8:PCs Tryz.prog 41 (∀ (a0:(List X0t)) (a1:(List X0t)) (r:Bool),X9u a0 a1=some r->X0g Tryz.prog 41 [(Lf (a0.map Xb)),(Lf (a1.map Xb))] (aB r)):=⟨fun a0 a1 r h=>by
 refine X0g.sym Xa fn41 (nt:=26) rfl rfl ?_ okM
 unfold X9u at h
 revert h
 refine brI (fun h1=>fun e=>oj e▸X9 [.el (aI .i64 (a0.length:Int)),.el (aI .i64 (a1.length:Int)),Bt] (k:=fi)) fun h1=>bI fun u2 h3=>?_
 have qh3:=X08 h3
 refine bI fun o14 h15=>rnI [.el (aI .i64 (a0.length:Int)),.el (aI .i64 (a1.length:Int)),Bf] ?_
 intro h
 refine wkT [] (X2.cut (Xgr a0 a1 qh3 a0 0 (by simp) _ h15 ?_ ?_))
 ·
  intro eo14;subst eo14
  refine X2.glue ?_
  try dsimp only at h
  revert h
  exact fun e=>oj e▸X9 [] (k:=fi)
 intro eo14;subst eo14
 refine X2.glue ?_
 try dsimp only at h
 revert h
 exact fun e=>oj e▸X9 [] (k:=fi)⟩
theorem Xdv {Q:X02->St->Mu->Prop} {μ:Mu} (X00:(List X7)) (X1s:(List X7)) (hl:X00.length<=140737488355328):∀ (xs:List X7) (k:Nat) (hx:X00.drop k=xs) (o:X4c) (h:X21 X00 X1s xs k  = some o)
  (C0:o=X4c.x0->X2 Tryz.prog 26 0 Q (.exit (.exit 0)) [] ⟨fr [],hp ([]),0⟩ μ)
  (C1:o=X4c.x1->X2 Tryz.prog 26 0 Q (.exit .ret) [] ⟨fr [(4,(aB false))],hp ([]),0⟩ μ),
  X2 Tryz.prog 26 0 Q (.loop (X2v 0 (Xh Tryz.f42))) [] ⟨fr [(0,(Lf (X00.map X0))),(1,(Lf (X1s.map X0))),(5,(aI .i64 (k:Int)))],hp ([]),0⟩ μ:=by
 intro xs
 induction xs with
 |nil =>
  intro k hx  o h C0 C1
  have hk:=drop_nil hx
  have hc:decide ((k:Int)<(X00.length:Int))=false:=Yf (by omega)
  rw[X21] at h
  refine X2.round ?_
  revert h
  exact fun e=>X9 [.el (aI .i64 (X00.length:Int)),Bf] (k:=wkT [] (C0  (oj e).symm))
 |cons x xs ih =>
  intro k hx  o h C0 C1
  obtain⟨hk,hg,hx1⟩:=drop_cons hx
  have hc:decide ((k:Int)<(X00.length:Int))=true:=Yt (by omega)
  rw[X21] at h
  refine X2.round ?_
  revert h
  refine bI fun e11 h12=>?_
  try have qh12:=Xn h12
  refine brI (fun h13=>fun e=>X9 [.el (aI .i64 (X00.length:Int)),Bt,.el (X0 x),.el (X0 e11),Bt] (k:=wkT [] (C1  (oj e).symm))) fun h13=>rnI [.el (aI .i64 (X00.length:Int)),Bt,.el (X0 x),.el (X0 e11),Bf] ?_
  intro h
  exact wkT [] (ih (k+1) hx1  o h C0 C1)
instance Xt1:PCs Tryz.prog 42 (∀ (a0:(List X7)) (a1:(List X7)) (r:Bool),X6n a0 a1=some r->X0g Tryz.prog 42 [(Lf (a0.map X0)),(Lf (a1.map X0))] (aB r)):=⟨fun a0 a1 r h=>by
 refine X0g.sym Xa fn42 (nt:=26) rfl rfl ?_ okM
 unfold X6n at h
 revert h
 refine brI (fun h1=>fun e=>oj e▸X9 [.el (aI .i64 (a0.length:Int)),.el (aI .i64 (a1.length:Int)),Bt] (k:=fi)) fun h1=>bI fun u2 h3=>?_
 have qh3:=X08 h3
 refine bI fun o14 h15=>rnI [.el (aI .i64 (a0.length:Int)),.el (aI .i64 (a1.length:Int)),Bf] ?_
 intro h
 refine wkT [] (X2.cut (Xdv a0 a1 qh3 a0 0 (by simp) _ h15 ?_ ?_))
 ·
  intro eo14;subst eo14
  refine X2.glue ?_
  try dsimp only at h
  revert h
  exact fun e=>oj e▸X9 [] (k:=fi)
 intro eo14;subst eo14
 refine X2.glue ?_
 try dsimp only at h
 revert h
 exact fun e=>oj e▸X9 [] (k:=fi)⟩
instance X03p:PCs Tryz.prog 14 (∀ (a0:X2c) (a1:X2c) (r:Bool),Xb7 a0 a1=some r->X0g Tryz.prog 14 [(X14 false a0),(X14 false a1)] (aB r)):=⟨fun a0 a1 r h=>by
 refine X0g.sym Xa fn14 (nt:=17) rfl rfl ?_ okM
 unfold Xb7 at h
 revert h
 refine bI fun j6_4 h12=>rnI [.stop 1] ?_
 intro h
 refine X2.join (s':=⟨fr [(4,(aB j6_4))],hp ([]),0⟩) ?_ (fun J=>X2.cut ?_)
 ·
  revert h
  exact fun e=>oj e▸X9 [] (k:=fi)
 clear h;revert h12
 refine bI fun v7 h8=>brI (fun h9=>?_) fun h9=>?_
 ·
  refine bI fun v10 h11=>?_
  intro h
  obtain rfl:=oj h
  exact X9 [.pure _ (aB v7),.go true,.go true,.go true,.go true,.go true,.pure _ (aB v10)] (k:=wkT [] (X2.glue J))
 intro h
 obtain rfl:=oj h
 exact X9 [.pure _ (aB v7),.go false,.go false,.go false,.go false,.go false] (k:=wkT [] (X2.glue J))⟩
instance Xey:PCs Tryz.prog 3 (∀ (a0:Xu) (a1:(List (List Xk))) (a2:Int) (r:Bool),X2w a0 a1 a2=some r->X0g Tryz.prog 3 [(Xm false a0),(Lf (List.map (X56 false Xd) a1)),(aI .i64 a2)] (aB r)):=⟨fun a0 a1 a2 r h=>by
 refine X0g.sym Xa fn3 (nt:=36) rfl rfl ?_ okM
 unfold X2w at h
 revert h
 exact bI fun v1 h2=>brI (fun h3=>fun e=>oj e▸X9 [.pure _ (aB v1),Bt] (k:=fi)) fun h3=>bI fun v4 h5=>bI fun v6 h7=>bI fun v8 h9=>fun e=>oj e▸X9 [.pure _ (aB v1),Bf,.pure _ (AV.tup [(X14 true v4.1),(aI .i64 v4.2)]),.pure _ (AV.tup [(X14 true v6.1),(aI .i64 v6.2)]),.pure _ (aB v8)] (k:=fi)⟩
end Go.Av.Tryz