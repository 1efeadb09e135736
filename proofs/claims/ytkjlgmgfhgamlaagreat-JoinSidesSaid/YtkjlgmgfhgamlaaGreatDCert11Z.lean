/- Printed by decomp.py: that the program computes the functions. -/
import Derived.Test.YtkjlgmgfhgamlaaGreatDCert10Z
set_option linter.all false

namespace Go.Av.Tryz
open Go.Proofs Go.D
set_option maxRecDepth 10000
set_option maxHeartbeats 40000000
theorem Xei {Q:X00->St->Mu->Prop} {μ:Mu} (X16:(List X07)) (hl:X16.length<=140737488355328):∀ (xs:List X07) (k:Nat) (hx:X16.drop k=xs) (o:X5x) (h:X41 X16 xs k  = some o)
  (C0:o=X5x.x0->X3 Tryz.prog 17 0 Q (.exit (.exit 0)) [] ⟨fr [(0,(Lf (X16.map X5)))],hp ([]),0⟩ μ)
  (C1:∀ (Xa1:Int),o=X5x.x1 Xa1->X3 Tryz.prog 17 0 Q (.exit .ret) [] ⟨fr [(2,(aI .i64 Xa1))],hp ([]),0⟩ μ),
  X3 Tryz.prog 17 0 Q (.loop (X5f 0 (Xi Tryz.f175))) [] ⟨fr [(0,(Lf (X16.map X5))),(3,(aI .i64 (k:Int)))],hp ([]),0⟩ μ:=by
 intro xs
 induction xs with
 |nil =>
  intro k hx  o h C0 C1
  have hk:=drop_nil hx
  have hc:decide ((k:Int)<(X16.length:Int))=false:=Yf (by omega)
  rw[X41] at h
  refine X3.round ?_
  revert h
  exact fun e=>X9 [.el (aI .i64 (X16.length:Int)),Bf] (k:=wkT [] (C0  (oj e).symm))
 |cons x xs ih =>
  intro k hx  o h C0 C1
  obtain⟨hk,hg,hx1⟩:=X15 hx
  have hc:decide ((k:Int)<(X16.length:Int))=true:=Yt (by omega)
  rw[X41] at h
  refine X3.round ?_
  revert h
  refine bI fun v10 h11=>brI (fun h12=>fun e=>X9 [.el (aI .i64 (X16.length:Int)),Bt,.pure _ (aB v10),Bt] (k:=wkT [] (C1 _  (oj e).symm))) fun h12=>rnI [.el (aI .i64 (X16.length:Int)),Bt,.pure _ (aB v10),Bf] ?_
  intro h
  exact wkT [] (ih (k+1) hx1  o h C0 C1)
instance Xu5:PCs Tryz.prog 175 (∀ (a0:(List X07)) (r:Int),Xas a0=some r->X0l Tryz.prog 175 [(Lf (a0.map X5))] (aI .i64 r)):=⟨fun a0 r h=>by
 refine X0l.sym X6 X03a (nt:=17) rfl rfl ?_ okM
 unfold Xas at h
 revert h
 refine bI fun u1 h2=>?_
 have qh2:=X0k h2
 refine bI fun o13 h14=>rnI [] ?_
 intro h
 refine wkT [] (X3.cut (Xei a0 qh2 a0 0 (by simp) _ h14 ?_ ?_))
 ·
  intro eo13;subst eo13
  refine X3.glue ?_
  try dsimp only at h
  revert h
  exact fun e=>oj e▸X9 [.el (aI .i64 (a0.length:Int))] (k:=fi)
 intro Xa1 eo13;subst eo13
 refine X3.glue ?_
 try dsimp only at h
 revert h
 exact fun e=>oj e▸X9 [] (k:=fi)⟩
instance Xy6:PCs Tryz.prog 156 (∀ (a0:(List X07)) (r:Bool×Int×Int),Xdk a0=some r->X0l Tryz.prog 156 [(Lf (a0.map X5))] (AV.tup [(aB r.1),(aI .i64 r.2.1),(aI .i64 r.2.2)])):=⟨fun a0 r h=>by
 refine X0l.sym X6 X03j (nt:=29) rfl rfl ?_ okM
 unfold Xdk at h
 revert h
 refine bI fun v1 h2=>brI (fun h3=>fun e=>oj e▸X9 [.pure _ (aI .i64 v1),Bt,.pure _ (aI .i64 v1)] (k:=fi)) fun h3=>bI fun v4 h5=>brI (fun h6=>fun e=>oj e▸X9 [.pure _ (aI .i64 v1),Bf,.pure _ (aI .i64 v4),.el (aI .i64 (a0.length:Int)),Bt] (k:=fi)) fun h6=>bI fun e7 h8=>?_
 try have qh8:=Xs h8
 exact bI fun v9 h10=>fun e=>oj e▸X9 [.pure _ (aI .i64 v1),Bf,.pure _ (aI .i64 v4),.el (aI .i64 (a0.length:Int)),Bf,.el (aI .i64 (a0.length:Int)),.wrap,.el (X5 e7),.pure _ (aB v9),.el (aI .i64 (a0.length:Int)),.wrap] (k:=fi)⟩
instance Xv8:PCs Tryz.prog 130 (∀ (a0:(List X07)) (a1:Bool) (r:Int×Int),X7c a0 a1=some r->X0l Tryz.prog 130 [(Lf (a0.map X5)),(aB a1)] (AV.tup [(aI .i64 r.1),(aI .i64 r.2)])):=⟨fun a0 a1 r h=>by
 refine X0l.sym X6 X03x (nt:=25) rfl rfl ?_ okM
 unfold X7c at h
 revert h
 exact bI fun v1 h2=>brI (fun h3=>fun e=>oj e▸X9 [.pure _ (AV.tup [(aB v1.1),(aI .i64 v1.2.1),(aI .i64 v1.2.2)]),Bt] (k:=fi)) fun h3=>fun e=>oj e▸X9 [.pure _ (AV.tup [(aB v1.1),(aI .i64 v1.2.1),(aI .i64 v1.2.2)]),Bf] (k:=fi)⟩
instance Xu2:PCs Tryz.prog 87 (∀ (a0:X06) (r:Int×Int),X8x a0=some r->X0l Tryz.prog 87 [(Xx false a0)] (AV.tup [(aI .i64 r.1),(aI .i64 r.2)])):=⟨fun a0 r h=>by
 refine X0l.sym X6 fn87 (nt:=46) rfl rfl ?_ okM
 unfold X8x at h
 revert h
 refine brI (fun h1=>?_) fun h1=>?_
 ·
  refine bI fun v2 h3=>brI (fun h4=>?_) fun h4=>?_
  ·
   refine bI fun e5 h6=>?_
   try have qh6:=Xs h6
   exact fun e=>oj e▸X9 [.el (aI .i64 (a0.Arg.length:Int)),Bt,.pure _ (AV.tup [(aI .i64 v2.1),(aI .i64 v2.2)]),Bt,.el (X5 e5)] (k:=fi)
  refine rnI [.el (aI .i64 (a0.Arg.length:Int)),Bt,.pure _ (AV.tup [(aI .i64 v2.1),(aI .i64 v2.2)]),Bf,.el (aI .i64 (a0.Where.length:Int))] ?_
  refine brI (fun h7=>?_) fun h7=>fun e=>oj e▸X9 [Bf] (k:=fi)
  refine bI fun v8 h9=>brI (fun h10=>?_) fun h10=>fun e=>oj e▸X9 [Bt,.pure _ (AV.tup [(aI .i64 v8.1),(aI .i64 v8.2)]),Bf] (k:=fi)
  refine bI fun e11 h12=>?_
  try have qh12:=Xs h12
  exact fun e=>oj e▸X9 [Bt,.pure _ (AV.tup [(aI .i64 v8.1),(aI .i64 v8.2)]),Bt,.el (X5 e11)] (k:=fi)
 refine brI (fun h13=>?_) fun h13=>fun e=>oj e▸X9 [.el (aI .i64 (a0.Arg.length:Int)),Bf,.el (aI .i64 (a0.Where.length:Int)),Bf] (k:=fi)
 refine bI fun v14 h15=>rnI [.el (aI .i64 (a0.Arg.length:Int)),Bf,.el (aI .i64 (a0.Where.length:Int)),Bt,.pure _ (AV.tup [(aI .i64 v14.1),(aI .i64 v14.2)])] ?_
 refine brI (fun h16=>?_) fun h16=>fun e=>oj e▸X9 [Bf] (k:=fi)
 refine bI fun e17 h18=>?_
 try have qh18:=Xs h18
 exact fun e=>oj e▸X9 [Bt,.el (X5 e17)] (k:=fi)⟩
instance Xu3:PCs Tryz.prog 49 (∀ (a0:X06) (r:Int×Int),X8y a0=some r->X0l Tryz.prog 49 [(Xx false a0)] (AV.tup [(aI .i64 r.1),(aI .i64 r.2)])):=⟨fun a0 r h=>by
 refine X0l.sym X6 fn49 (nt:=13) rfl rfl ?_ okM
 unfold X8y at h
 revert h
 exact bI fun v1 h2=>brI (fun h3=>fun e=>oj e▸X9 [.pure _ (aI .i64 v1),Bt,.pure _ (aI .i64 v1)] (k:=fi)) fun h3=>bI fun v4 h5=>fun e=>oj e▸X9 [.pure _ (aI .i64 v1),Bf,.pure _ (AV.tup [(aI .i64 v4.1),(aI .i64 v4.2)])] (k:=fi)⟩
instance Xps:PCs Tryz.prog 13 (∀ (a0:X06) (r:Bool),X5q a0=some r->X0l Tryz.prog 13 [(Xx false a0)] (aB r)):=⟨fun a0 r h=>by
 refine X0l.sym X6 fn13 (nt:=12) rfl rfl ?_ okM
 unfold X5q at h
 revert h
 exact bI fun v1 h2=>fun e=>oj e▸X9 [.pure _ (AV.tup [(aI .i64 v1.1),(aI .i64 v1.2)])] (k:=fi)⟩
instance Xv5:PCs Tryz.prog 14 (∀ (a0:Int) (r:Bool),Xaa a0=some r->X0l Tryz.prog 14 [(aI .i64 a0)] (aB r)):=⟨fun a0 r h=>by
 refine X0l.sym X6 fn14 (nt:=13) rfl rfl ?_ okM
 unfold Xaa at h
 revert h
 exact fun e=>oj e▸X9 [] (k:=fi)⟩
instance Xu1:PCs Tryz.prog 15 (∀ (a0:Xm) (r:Bool),X8w a0=some r->X0l Tryz.prog 15 [(Xc a0)] (aB r)):=⟨fun a0 r h=>by
 refine X0l.sym X6 fn15 (nt:=11) rfl rfl ?_ okM
 unfold X8w at h
 revert h
 exact fun e=>oj e▸X9 [] (k:=fi)⟩
end Go.Av.Tryz