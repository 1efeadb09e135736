/- Printed by decomp.py: that the program computes the functions. -/
import Derived.Test.YtmkegegjcihooaaGreatDCert16Z
import Derived.Test.YtmkegegjcihooaaGreatDCert17Z
set_option linter.all false

namespace Go.Av.Tryz
open Go.Proofs Go.D
set_option maxRecDepth 100000
set_option maxHeartbeats 40000000
instance Xfl:PCs Tryz.prog 3 (∀ (a0:Xf) (r:Bool),X61 a0=some r->X05 Tryz.prog 3 [(Xc false a0)] (aB r)):=⟨λa0 r h=>by
 refine X05.sym X9 fn3 (nt:=59) rfl rfl ?_ okM;unfold X61 at h;revert h;refine bI λv1 h2=>brI (λh3=>λe=>oj e▸X3 [.pure _ (aB v1),Bt] (k:=fi)) λh3=>bI λv4 h5=>bI λv6 h7=>bI λv8 h9=>bI λv10 h11=>bI λv12 h13=>bI λX07x h31=>rnI [.pure _ (aB v1),Bf,.pure _ (Xc false v4),.pure _ (AV.tup [(Lt (v6.1.map X1)),(aI .i64 v6.2)]),.pure _ (AV.tup [(Lt (v8.1.map X1)),(aI .i64 v8.2)]),.pure _ (AV.tup [(aI .i64 v10.1),(aI .i64 v10.2)]),.pure _ (AV.tup [(aI .i64 v12.1),(aI .i64 v12.2)]),.stop 8] ?_;intro h;refine X0.join (s':=⟨fr [(2,(aB X07x))],hp ([]),0⟩) ?_ (λJ=>X0.cut ?_)
 ·
  revert h;exact λe=>oj e▸X3 [] (k:=fi)
 clear h;revert h31;refine bI λv23 h24=>brI (λh25=>?_) λh25=>?_
 ·
  refine brI (λh26=>?_) λh26=>?_
  ·
   refine brI (λh27=>?_) λh27=>?_
   ·
    refine brI (λh28=>?_) λh28=>?_
    ·
     refine bI λv29 h30=>?_;intro h;obtain rfl:=oj h;exact X3 [.pure _ (aB v23),Gt,Gt,Gt,Gt,Gt,Gt,Gt,Gt,Gt,Gt,Gt,Gt,.pure _ (aB v29)] (o:=by repeat' first|apply Ya|exact pcM|exact fq (X6 h25 h26)|exact fq (X6 (X6 h25 h26) h27)|exact fq (X6 (X6 (X6 h25 h26) h27) h28)|exact X04) (k:=wkT [] (X0.glue J))
    intro h;obtain rfl:=oj h;exact X3 [.pure _ (aB v23),Gt,Gt,Gt,Gt,Gt,Gt,Gt,Gt,Gt,Gf,Gf,Gf] (o:=by repeat' first|apply Ya|exact pcM|exact fq (X6 h25 h26)|exact fq (X6 (X6 h25 h26) h27)|exact fq (X6 (X6 (X6 h25 h26) h27) h28)|exact X04) (k:=wkT [] (X0.glue J))
   intro h;obtain rfl:=oj h;exact X3 [.pure _ (aB v23),Gt,Gt,Gt,Gt,Gt,Gt,Gf,Gf,Gf,Gf,Gf,Gf] (o:=by repeat' first|apply Ya|exact pcM|exact fq (X6 h25 h26)|exact fq (X6 (X6 h25 h26) h27)|exact fq (X5 (X6 (X6 h25 h26) h27) rfl)|exact X04) (k:=wkT [] (X0.glue J))
  intro h;obtain rfl:=oj h;exact X3 [.pure _ (aB v23),Gt,Gt,Gt,Gf,Gf,Gf,Gf,Gf,Gf,Gf,Gf,Gf] (o:=by repeat' first|apply Ya|exact pcM|exact fq (X6 h25 h26)|exact fq (X5 (X6 h25 h26) rfl)|exact fq (X5 (X5 (X6 h25 h26) rfl) rfl)|exact X04) (k:=wkT [] (X0.glue J))
 intro h;obtain rfl:=oj h;exact X3 [.pure _ (aB v23),Gf,Gf,Gf,Gf,Gf,Gf,Gf,Gf,Gf,Gf,Gf,Gf] (o:=by repeat' first|apply Ya|exact pcM|exact fq (X5 h25 rfl)|exact fq (X5 (X5 h25 rfl) rfl)|exact fq (X5 (X5 (X5 h25 rfl) rfl) rfl)|exact X04) (k:=wkT [] (X0.glue J))⟩
end Go.Av.Tryz