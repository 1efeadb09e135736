/- Printed by decomp.py: that the program computes the functions. -/
import Derived.Test.YtmkegegjcihooaaGreatDCert5Z
set_option linter.all false

namespace Go.Av.Tryz
open Go.Proofs Go.D
set_option maxRecDepth 100000
set_option maxHeartbeats 40000000
instance X00j:PCs Tryz.prog 57 (∀ (a0:X1t) (r:Int×Int),Xah a0=some r->X05 Tryz.prog 57 [(X22 false a0)] (AV.tup [(aI .i64 r.1),(aI .i64 r.2)])):=⟨λa0 r h=>by
 refine X05.sym X9 fn57 (nt:=20) rfl rfl ?_ okM;unfold Xah at h;revert h;refine bI λv1 h2=>brI (λh3=>λe=>oj e▸X3 [.pure _ (aI .i64 v1),Bt] (k:=fi)) λh3=>bI λw22 h41=>?_;intro h;obtain⟨X03u,X03t⟩:=w22;try dsimp only at h
 refine X1f [.pure _ (aI .i64 v1),Bf] ?_;refine X0.joinOp (s':=⟨fr [(17,(AV.tup [(aI .i64 X03u),(aI .i64 X03t)]))],hp ([]),0⟩) ?_ (λJ=>?_)
 ·
  revert h;exact λe=>oj e▸X3 [] (k:=fi)
 clear h;revert h41;intro h;refine X0.inline X9 fn99 rfl rfl rfl rfl rfl trivial trivial rfl rfl ?_;refine X1f [] ?_;refine X0.round ?_;revert h;refine brI (λh23=>?_) λh23=>?_
 ·
  refine rnI [Bt,.el (AV.agg [(Lf (a0.Arg.map X2)),(AV.fn 100 [])]),.el (aI .i64 (a0.Arg.length:Int)),Bt] ?_;intro h;refine X0.round ?_;revert h;refine brI (λh24=>?_) λh24=>?_
  ·
   refine rnI [Bt,.el (AV.agg [(Lf (a0.Where.map X2)),(AV.fn 101 [])]),.el (aI .i64 (a0.Where.length:Int)),Bt] ?_;intro h;refine X0.round ?_;simp only[Option.some.injEq,Prod.mk.injEq] at h;obtain⟨rfl,rfl⟩:=h;refine X1f [Bf] ?_;refine X0.back (by intro id h;cases h) rfl ?_;exact wkT [] (J)
  refine bI λv25 h26=>rnI [Bt,.el (AV.agg [(Lf (a0.Where.map X2)),(AV.fn 101 [])]),.el (aI .i64 (a0.Where.length:Int)),Bf,.pure _ (AV.tup [(aI .i64 v25.1),(aI .i64 v25.2)])] ?_;refine brI (λh27=>?_) λh27=>?_
  ·
   refine bI λe28 h29=>?_;try have qh29:=Xi h29
   intro h;simp only[Option.some.injEq,Prod.mk.injEq] at h;obtain⟨rfl,rfl⟩:=h;refine X1f [Bt,.el (X2 e28)] ?_;refine X0.back (by intro id h;cases h) rfl ?_;exact wkT [] (J)
  refine rnI [Bf] ?_;intro h;refine X0.round ?_;simp only[Option.some.injEq,Prod.mk.injEq] at h;obtain⟨rfl,rfl⟩:=h;refine X1f [Bf] ?_;refine X0.back (by intro id h;cases h) rfl ?_;exact wkT [] (J)
 refine bI λv30 h31=>rnI [Bt,.el (AV.agg [(Lf (a0.Arg.map X2)),(AV.fn 100 [])]),.el (aI .i64 (a0.Arg.length:Int)),Bf,.pure _ (AV.tup [(aI .i64 v30.1),(aI .i64 v30.2)])] ?_;refine brI (λh32=>?_) λh32=>?_
 ·
  refine bI λe33 h34=>?_;try have qh34:=Xi h34
  intro h;simp only[Option.some.injEq,Prod.mk.injEq] at h;obtain⟨rfl,rfl⟩:=h;refine X1f [Bt,.el (X2 e33)] ?_;refine X0.back (by intro id h;cases h) rfl ?_;exact wkT [] (J)
 refine rnI [Bf] ?_;intro h;refine X0.round ?_;revert h;refine brI (λh35=>?_) λh35=>?_
 ·
  refine rnI [Bt,.el (AV.agg [(Lf (a0.Where.map X2)),(AV.fn 101 [])]),.el (aI .i64 (a0.Where.length:Int)),Bt] ?_;intro h;refine X0.round ?_;simp only[Option.some.injEq,Prod.mk.injEq] at h;obtain⟨rfl,rfl⟩:=h;refine X1f [Bf] ?_;refine X0.back (by intro id h;cases h) rfl ?_;exact wkT [] (J)
 refine bI λv36 h37=>rnI [Bt,.el (AV.agg [(Lf (a0.Where.map X2)),(AV.fn 101 [])]),.el (aI .i64 (a0.Where.length:Int)),Bf,.pure _ (AV.tup [(aI .i64 v36.1),(aI .i64 v36.2)])] ?_;refine brI (λh38=>?_) λh38=>?_
 ·
  refine bI λe39 h40=>?_;try have qh40:=Xi h40
  intro h;simp only[Option.some.injEq,Prod.mk.injEq] at h;obtain⟨rfl,rfl⟩:=h;refine X1f [Bt,.el (X2 e39)] ?_;refine X0.back (by intro id h;cases h) rfl ?_;exact wkT [] (J)
 refine rnI [Bf] ?_;intro h;refine X0.round ?_;simp only[Option.some.injEq,Prod.mk.injEq] at h;obtain⟨rfl,rfl⟩:=h;refine X1f [Bf] ?_;refine X0.back (by intro id h;cases h) rfl ?_;exact wkT [] (J)⟩
instance Xzv:PCs Tryz.prog 152 (∀ (a0:Int) (r:(V2 Int)×(V2 Int)),X19 a0=some r->X05 Tryz.prog 152 [(aI .u8 a0)] (AV.tup [(X1k r.1),(X1k r.2)])):=⟨λa0 r h=>by
 refine X05.sym X9 X0dc (nt:=31) rfl rfl ?_ okM;unfold X19 at h;revert h;exact brI (λh1=>λe=>oj e▸X3 [Bt] (k:=fi)) λh1=>brI (λh2=>λe=>oj e▸X3 [Bf,Bt] (k:=fi)) λh2=>brI (λh3=>λe=>oj e▸X3 [Bf,Bf,Bt] (k:=fi)) λh3=>brI (λh4=>λe=>oj e▸X3 [Bf,Bf,Bf,Bt] (k:=fi)) λh4=>brI (λh5=>λe=>oj e▸X3 [Bf,Bf,Bf,Bf,Bt] (k:=fi)) λh5=>brI (λh6=>λe=>oj e▸X3 [Bf,Bf,Bf,Bf,Bf,Bt] (k:=fi)) λh6=>λe=>oj e▸X3 [Bf,Bf,Bf,Bf,Bf,Bf] (k:=fi)⟩
end Go.Av.Tryz