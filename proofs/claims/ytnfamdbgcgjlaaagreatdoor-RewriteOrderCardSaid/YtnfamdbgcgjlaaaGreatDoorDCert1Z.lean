/- Printed by decomp.py: that the program computes the functions. -/
import Derived.Test.YtnfamdbgcgjlaaaGreatDoorDCert0Z
set_option linter.all false

namespace Go.Av.Tryz
open Go.Proofs Go.D
set_option maxRecDepth 10000
set_option maxHeartbeats 40000000
instance Xr4:PCs Tryz.prog 22 (∀ (a0:Xa) (r:Int×Int),X73 a0=some r->X06 Tryz.prog 22 [(X8 false a0)] (AV.tup [(aI .i64 r.1),(aI .i64 r.2)])):=⟨λa0 r h=>by
 refine X06.sym X7 fn22 (nt:=46) rfl rfl ?_ okM;unfold X73 at h;revert h;refine brI (λh1=>?_) λh1=>?_
 ·
  refine bI λv2 h3=>brI (λh4=>?_) λh4=>?_
  ·
   refine bI λe5 h6=>?_;try have qh6:=Xm h6
   exact λe=>oj e▸Xd [.el (aI .i64 (a0.Arg.length:Int)),Bt,.pure _ (AV.tup [(aI .i64 v2.1),(aI .i64 v2.2)]),Bt,.el (X0 e5)] (k:=fi)
  refine rnI [.el (aI .i64 (a0.Arg.length:Int)),Bt,.pure _ (AV.tup [(aI .i64 v2.1),(aI .i64 v2.2)]),Bf,.el (aI .i64 (a0.Where.length:Int))] ?_;refine brI (λh7=>?_) λh7=>λe=>oj e▸Xd [Bf] (k:=fi);refine bI λv8 h9=>brI (λh10=>?_) λh10=>λe=>oj e▸Xd [Bt,.pure _ (AV.tup [(aI .i64 v8.1),(aI .i64 v8.2)]),Bf] (k:=fi);refine bI λe11 h12=>?_;try have qh12:=Xm h12
  exact λe=>oj e▸Xd [Bt,.pure _ (AV.tup [(aI .i64 v8.1),(aI .i64 v8.2)]),Bt,.el (X0 e11)] (k:=fi)
 refine brI (λh13=>?_) λh13=>λe=>oj e▸Xd [.el (aI .i64 (a0.Arg.length:Int)),Bf,.el (aI .i64 (a0.Where.length:Int)),Bf] (k:=fi);refine bI λv14 h15=>rnI [.el (aI .i64 (a0.Arg.length:Int)),Bf,.el (aI .i64 (a0.Where.length:Int)),Bt,.pure _ (AV.tup [(aI .i64 v14.1),(aI .i64 v14.2)])] ?_;refine brI (λh16=>?_) λh16=>λe=>oj e▸Xd [Bf] (k:=fi);refine bI λe17 h18=>?_;try have qh18:=Xm h18
 exact λe=>oj e▸Xd [Bt,.el (X0 e17)] (k:=fi)⟩
instance Xr5:PCs Tryz.prog 11 (∀ (a0:Xa) (r:Int×Int),X4t a0=some r->X06 Tryz.prog 11 [(X8 false a0)] (AV.tup [(aI .i64 r.1),(aI .i64 r.2)])):=⟨λa0 r h=>by
 refine X06.sym X7 fn11 (nt:=13) rfl rfl ?_ okM;unfold X4t at h;revert h;exact bI λv1 h2=>brI (λh3=>λe=>oj e▸Xd [.pure _ (aI .i64 v1),Bt,.pure _ (aI .i64 v1)] (k:=fi)) λh3=>bI λv4 h5=>λe=>oj e▸Xd [.pure _ (aI .i64 v1),Bf,.pure _ (AV.tup [(aI .i64 v4.1),(aI .i64 v4.2)])] (k:=fi)⟩
instance Xrm:PCs Tryz.prog 14 (∀ (a0:Xa) (r:Bool),X4x a0=some r->X06 Tryz.prog 14 [(X8 false a0)] (aB r)):=⟨λa0 r h=>by
 refine X06.sym X7 fn14 (nt:=14) rfl rfl ?_ okM;unfold X4x at h;revert h;exact bI λv1 h2=>brI (λh3=>λe=>oj e▸Xd [.pure _ (aB v1),Bt] (k:=fi)) λh3=>bI λv4 h5=>λe=>oj e▸Xd [.pure _ (aB v1),Bf,.pure _ (AV.tup [(aI .i64 v4.1),(aI .i64 v4.2)])] (k:=fi)⟩
instance Xri:PCs Tryz.prog 119 (∀ (a0:Int) (r:Int×Int),X27 a0=some r->X06 Tryz.prog 119 [(aI .u8 a0)] (AV.tup [(aI .i64 r.1),(aI .i64 r.2)])):=⟨λa0 r h=>by
 refine X06.sym X7 X05a (nt:=25) rfl rfl ?_ okM;unfold X27 at h;revert h;exact brI (λh1=>λe=>oj e▸Xd [Bt] (k:=fi)) λh1=>brI (λh2=>λe=>oj e▸Xd [Bf,Bt] (k:=fi)) λh2=>brI (λh3=>λe=>oj e▸Xd [Bf,Bf,Bt] (k:=fi)) λh3=>λe=>oj e▸Xd [Bf,Bf,Bf] (k:=fi)⟩
end Go.Av.Tryz