/- Printed by decomp.py: that the program computes the functions. -/
import Derived.Test.YtkjlgmgfhgamlaaGreatDCert10Z
set_option linter.all false

namespace Go.Av.Tryz
open Go.Proofs Go.D
set_option maxRecDepth 10000
set_option maxHeartbeats 40000000
instance Xty:PCs Tryz.prog 87 (∀ (a0:X06) (r:Int×Int),X8x a0=some r->X0l Tryz.prog 87 [(Xs false a0)] (AV.tup [(aI .i64 r.1),(aI .i64 r.2)])):=⟨fun a0 r h=>by
 refine X0l.sym X6 fn87 (nt:=46) rfl rfl ?_ okM
 unfold X8x at h
 revert h
 refine brI (fun h1=>?_) fun h1=>?_
 ·
  refine bI fun v2 h3=>brI (fun h4=>?_) fun h4=>?_
  ·
   refine bI fun e5 h6=>?_
   try have qh6:=Xc h6
   exact fun e=>oj e▸Xa [.el (aI .i64 (a0.Arg.length:Int)),Bt,.pure _ (AV.tup [(aI .i64 v2.1),(aI .i64 v2.2)]),Bt,.el (X7 e5)] (k:=fi)
  refine rnI [.el (aI .i64 (a0.Arg.length:Int)),Bt,.pure _ (AV.tup [(aI .i64 v2.1),(aI .i64 v2.2)]),Bf,.el (aI .i64 (a0.Where.length:Int))] ?_
  refine brI (fun h7=>?_) fun h7=>fun e=>oj e▸Xa [Bf] (k:=fi)
  refine bI fun v8 h9=>brI (fun h10=>?_) fun h10=>fun e=>oj e▸Xa [Bt,.pure _ (AV.tup [(aI .i64 v8.1),(aI .i64 v8.2)]),Bf] (k:=fi)
  refine bI fun e11 h12=>?_
  try have qh12:=Xc h12
  exact fun e=>oj e▸Xa [Bt,.pure _ (AV.tup [(aI .i64 v8.1),(aI .i64 v8.2)]),Bt,.el (X7 e11)] (k:=fi)
 refine brI (fun h13=>?_) fun h13=>fun e=>oj e▸Xa [.el (aI .i64 (a0.Arg.length:Int)),Bf,.el (aI .i64 (a0.Where.length:Int)),Bf] (k:=fi)
 refine bI fun v14 h15=>rnI [.el (aI .i64 (a0.Arg.length:Int)),Bf,.el (aI .i64 (a0.Where.length:Int)),Bt,.pure _ (AV.tup [(aI .i64 v14.1),(aI .i64 v14.2)])] ?_
 refine brI (fun h16=>?_) fun h16=>fun e=>oj e▸Xa [Bf] (k:=fi)
 refine bI fun e17 h18=>?_
 try have qh18:=Xc h18
 exact fun e=>oj e▸Xa [Bt,.el (X7 e17)] (k:=fi)⟩
instance Xtz:PCs Tryz.prog 49 (∀ (a0:X06) (r:Int×Int),X8y a0=some r->X0l Tryz.prog 49 [(Xs false a0)] (AV.tup [(aI .i64 r.1),(aI .i64 r.2)])):=⟨fun a0 r h=>by
 refine X0l.sym X6 fn49 (nt:=13) rfl rfl ?_ okM
 unfold X8y at h
 revert h
 exact bI fun v1 h2=>brI (fun h3=>fun e=>oj e▸Xa [.pure _ (aI .i64 v1),Bt,.pure _ (aI .i64 v1)] (k:=fi)) fun h3=>bI fun v4 h5=>fun e=>oj e▸Xa [.pure _ (aI .i64 v1),Bf,.pure _ (AV.tup [(aI .i64 v4.1),(aI .i64 v4.2)])] (k:=fi)⟩
instance Xpn:PCs Tryz.prog 13 (∀ (a0:X06) (r:Bool),X5t a0=some r->X0l Tryz.prog 13 [(Xs false a0)] (aB r)):=⟨fun a0 r h=>by
 refine X0l.sym X6 fn13 (nt:=12) rfl rfl ?_ okM
 unfold X5t at h
 revert h
 exact bI fun v1 h2=>fun e=>oj e▸Xa [.pure _ (AV.tup [(aI .i64 v1.1),(aI .i64 v1.2)])] (k:=fi)⟩
instance Xtx:PCs Tryz.prog 15 (∀ (a0:Xl) (r:Bool),X8w a0=some r->X0l Tryz.prog 15 [(X4 a0)] (aB r)):=⟨fun a0 r h=>by
 refine X0l.sym X6 fn15 (nt:=11) rfl rfl ?_ okM
 unfold X8w at h
 revert h
 exact fun e=>oj e▸Xa [] (k:=fi)⟩
end Go.Av.Tryz