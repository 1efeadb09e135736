/- Printed by decomp.py: that the program computes the functions. -/
import Derived.Test.YtdpeaabenapeaaaGreatDCert13Z
set_option linter.all false

namespace Go.Av.Tryz
open Go.Proofs Go.D
set_option maxRecDepth 10000
set_option maxHeartbeats 40000000
instance Xcg:PCs Tryz.prog 3 (∀ (a0:Xt) (a1:(List (List Xa))) (a2:X9) (r:Bool),X3c a0 a1 a2=some r->X0j Tryz.prog 3 [(Xk false a0),(Lf (List.map (X14 false X0) a1)),(X1 a2)] (aB r)):=⟨λa0 a1 a2 r h=>by
 refine X0j.sym X7 fn3 (nt:=187) rfl rfl ?_ okM;unfold X3c at h;revert h;refine bI λv1 h2=>bI λv3 h4=>brI (λh5=>λe=>oj e▸X8 [.pure _ (aB v1),.pure _ (aB v3),Bt] (k:=fi)) λh5=>bI λv6 h7=>bI λXtd h13=>rnI [.pure _ (aB v1),.pure _ (aB v3),Bf,.pure _ (AV.tup [(Lt (v6.1.map Xi)),(Lt (v6.2.1.map X1)),(aI .i64 v6.2.2)]),.stop 5] ?_;intro h;refine X2.join (s':=⟨fr [(1,(Lf (List.map (X14 false X0) a1))),(3,(AV.ptr 0 0 0)),(5,(AV.ptr 1 0 0)),(7,(aB v1)),(8,(Lt (v6.1.map Xi))),(9,(Lt (v6.2.1.map X1))),(49,(aB Xtd))],hp ([(0,Ob [(Xk false a0)] 10),(1,Ob [(X1 a2)] 3)]),2⟩) ?_ (λJ=>X2.cut ?_)
 ·
  revert h;refine brI (λh14=>λe=>oj e▸X8 [Bt] (k:=fi)) λh14=>bI λu15 h16=>?_;have qh16:=X0b h16;refine bI λo972 h973=>rnI [Bf] ?_;intro h;refine wkT [] (X2.cut (Xah a1 a0 a2 v1 v6.1 v6.2.1 qh16 a1 0 (by simp) _ h973 ?_ ?_))
  ·
   intro eo972;subst eo972;refine X2.glue ?_;try dsimp only at h
   revert h;exact λe=>oj e▸X8 [] (k:=fi)
  intro eo972;subst eo972;refine X2.glue ?_;try dsimp only at h
  revert h;exact λe=>oj e▸X8 [] (k:=fi)
 clear h;revert h13;refine brI (λh11=>?_) λh11=>?_
 ·
  intro h;obtain rfl:=oj h;exact X8 [Gf,Gf,Gf,Gf,Gf,Gf,Gf,Gf] (k:=wkT [] (X2.glue J))
 refine brI (λh12=>?_) λh12=>?_
 ·
  intro h;obtain rfl:=oj h;exact X8 [Gt,Gt,Gt,Gt,Gt,Gt,.el (aI .i64 (v6.2.1.length:Int)),Gt,Gt] (k:=wkT [] (X2.glue J))
 intro h;obtain rfl:=oj h;exact X8 [Gt,Gt,Gt,Gt,Gf,Gf,Gf,Gt] (k:=wkT [] (X2.glue J))⟩
end Go.Av.Tryz