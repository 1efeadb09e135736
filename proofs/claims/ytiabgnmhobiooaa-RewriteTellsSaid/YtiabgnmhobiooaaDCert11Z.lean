/- Printed by decomp.py: that the program computes the functions. -/
import Derived.Test.YtiabgnmhobiooaaDCert10Z
set_option linter.all false

namespace Go.Av.Try
open Go.Proofs Go.D
set_option maxRecDepth 10000
set_option maxHeartbeats 40000000
theorem Xb6 {Q:Xr->St->Mu->Prop} {μ:Mu} (Xi:X2):∀ (n:Nat) (Xc:X2) (Xhj:Int) (o:X45) (h:X2m Xi n Xc Xhj=some o)
  (C0:∀ (X7r:Int),o=X45.x0 X7r->X4 Try.prog 37 0 Q (.exit .ret) [] ⟨fr [(2,(AV.ptr 0 0 0)),(3,(aI .i64 X7r))],hp ([(0,Ob [(X7 true (X2.mk 0 ([]:List X1) ([]:List Int) false ([]:List X1) (X3.mk 0 0 0) false 0))] 10)]),1⟩ μ)
  (C1:∀ (X4e:X2),o=X45.x1 X4e->X4 Try.prog 37 0 Q (.exit (.exit 0)) [] ⟨fr [(2,(AV.ptr 0 0 0)),(4,(AV.ptr 1 0 0))],hp ([(0,Ob [(X7 true Xi)] 10),(1,Ob [(X7 false X4e)] 10)]),2⟩ μ),
  X4 Try.prog 37 0 Q (.loop (X5l 0 (Xe Try.f7))) [] ⟨fr [(2,(AV.ptr 0 0 0)),(4,(AV.ptr 1 0 0)),(11,(aI .i64 Xhj))],hp ([(0,Ob [(X7 true Xi)] 10),(1,Ob [(X7 false Xc)] 10)]),2⟩ μ:=by
 intro n
 induction n with
 |zero=>intro Xc Xhj o h C0 C1;cases h
 |succ n ih =>
  intro Xc Xhj o h C0 C1;rw[X2m] at h;refine X4.round ?_;revert h;refine brI (λh24=>?_) λh24=>λe=>Xa [Bf] (k:=wkT [] (C1 _  (oj e).symm));refine rnI [Bt] ?_;intro h;refine X4.round ?_;revert h;refine bI λv25 h26=>brI (λh27=>?_) λh27=>?_
  ·
   refine λe=>X29 [Bt,.pure _ (AV.tup [(X7 false v25.1),(aB v25.2.1),(aI .i64 v25.2.2)]),Bt] ?_;refine X4.denil 0 [AV.agg [(aI .u8 0),(Lt (List.map X0 ([]:List X1))),(Lt (List.map (aI .i64) ([]:List Int))),(aB false),(Lt (List.map X0 ([]:List X1))),(aI .u8 0),(aI .i64 0),(aI .i64 0),(aB false),(aI .u8 0)]] rfl rfl ?_;exact wkT [] (C0 _  (oj e).symm)
  refine rnI [Bt,.pure _ (AV.tup [(X7 false v25.1),(aB v25.2.1),(aI .i64 v25.2.2)]),Bf,Gt] ?_;intro h;refine X4.round ?_;revert h;refine bI λv28 h29=>brI (λh30=>?_) λh30=>?_
  ·
   refine λe=>X29 [Bt,.pure _ (AV.tup [(X7 false v28.1),(aB v28.2.1),(aI .i64 v28.2.2)]),Bt] ?_;refine X4.denil 0 [AV.agg [(aI .u8 0),(Lt (List.map X0 ([]:List X1))),(Lt (List.map (aI .i64) ([]:List Int))),(aB false),(Lt (List.map X0 ([]:List X1))),(aI .u8 0),(aI .i64 0),(aI .i64 0),(aB false),(aI .u8 0)]] rfl rfl ?_;exact wkT [] (C0 _  (oj e).symm)
  refine rnI [Bt,.pure _ (AV.tup [(X7 false v28.1),(aB v28.2.1),(aI .i64 v28.2.2)]),Bf] ?_;intro h;refine X4.round ?_;revert h;refine bI λv31 h32=>brI (λh33=>?_) λh33=>?_
  ·
   refine λe=>X29 [Bt,.pure _ (AV.tup [(X7 false v31.1),(aB v31.2.1),(aI .i64 v31.2.2)]),Bt] ?_;refine X4.denil 0 [AV.agg [(aI .u8 0),(Lt (List.map X0 ([]:List X1))),(Lt (List.map (aI .i64) ([]:List Int))),(aB false),(Lt (List.map X0 ([]:List X1))),(aI .u8 0),(aI .i64 0),(aI .i64 0),(aB false),(aI .u8 0)]] rfl rfl ?_;exact wkT [] (C0 _  (oj e).symm)
  refine rnI [Bt,.pure _ (AV.tup [(X7 false v31.1),(aB v31.2.1),(aI .i64 v31.2.2)]),Bf] ?_;intro h;refine X4.round ?_;revert h;refine brI (λh34=>λe=>Xa [Bf,Bt] (k:=wkT [] (C1 _  (oj e).symm))) λh34=>rnI [Bf,Bf,.wrap] ?_;intro h;exact wkT [] (ih  _ _ o h C0 C1)
instance Xns:PCs Try.prog 7 (∀ (a0:X2) (r:X2×Int),X4g a0=some r->X0f Try.prog 7 [(X7 false a0)] (AV.tup [(X7 false r.1),(aI .i64 r.2)])):=⟨λa0 r h=>by
 refine X0f.sym X8 fn7 (nt:=37) rfl rfl ?_ okM;unfold X4g at h;refine X29 [] ?_;refine X4.denil 1 [AV.agg [(aI .u8 0),(Lt (List.map X0 ([]:List X1))),(Lt (List.map (aI .i64) ([]:List Int))),(aB false),(Lt (List.map X0 ([]:List X1))),(aI .u8 0),(aI .i64 0),(aI .i64 0),(aB false),(aI .u8 0)]] rfl rfl ?_;revert h;refine bI λo35 h36=>rnI [] ?_;intro h;refine wkT [(0,1),(1,2)] (X4.cut (Xb6 (X2.mk 0 ([]:List X1) ([]:List Int) false ([]:List X1) (X3.mk 0 0 0) false 0) _ _ _ _ h36 ?_ ?_))
 ·
  intro X7r eo35;subst eo35;refine X4.glue ?_;try dsimp only at h
  revert h;exact λe=>oj e▸Xa [] (k:=fi)
 intro X4e eo35;subst eo35;refine X4.glue ?_;try dsimp only at h
 revert h;exact λe=>oj e▸Xa [] (k:=fi)⟩
instance Xqu:PCs Try.prog 8 (∀ (a0:X2) (r:X2×Int),X6r a0=some r->X0f Try.prog 8 [(X7 false a0)] (AV.tup [(X7 false r.1),(aI .i64 r.2)])):=⟨λa0 r h=>by
 refine X0f.sym X8 fn8 (nt:=29) rfl rfl ?_ okM;unfold X6r at h;revert h;refine bI λv1 h2=>brI (λh3=>λe=>oj e▸Xa [.pure _ (AV.tup [(aI .i64 v1.1),(aI .i64 v1.2)]),Bt] (k:=fi)) λh3=>rnI [.pure _ (AV.tup [(aI .i64 v1.1),(aI .i64 v1.2)]),Bf] ?_;intro h;refine X4.round ?_;refine X29 [Bt] ?_;refine X4.round ?_;revert h;refine bI λv4 h5=>rnI [Bt,.pure _ (X7 false v4)] ?_;intro h;refine X4.round ?_;revert h;refine bI λv6 h7=>rnI [Bt,.pure _ (X7 false v6)] ?_;intro h;refine X4.round ?_;revert h;refine bI λv8 h9=>rnI [Bt,.pure _ (X7 false v8)] ?_;intro h;refine X4.round ?_;refine X29 [Bf] ?_;refine X4.round ?_;refine X29 [Bt] ?_;refine X4.round ?_;revert h;refine bI λv10 h11=>rnI [Bt,.pure _ (X7 false v10)] ?_;intro h;refine X4.round ?_;revert h;refine bI λv12 h13=>rnI [Bt,.pure _ (X7 false v12)] ?_;intro h;refine X4.round ?_;revert h;refine bI λv14 h15=>rnI [Bt,.pure _ (X7 false v14)] ?_;intro h;refine X4.round ?_;refine X29 [Bf] ?_;refine X4.round ?_;revert h;exact λe=>oj e▸Xa [Bf] (k:=fi)⟩
instance X8z:PCs Try.prog 3 (∀ (a0:X2) (a1:Int) (r:Bool),X3g a0 a1=some r->X0f Try.prog 3 [(X7 false a0),(aI .i64 a1)] (aB r)):=⟨λa0 a1 r h=>by
 refine X0f.sym X8 fn3 (nt:=64) rfl rfl ?_ okM;unfold X3g at h;revert h;refine bI λv1 h2=>brI (λh3=>λe=>oj e▸Xa [.pure _ (aB v1),Bt] (k:=fi)) λh3=>bI λv4 h5=>bI λv6 h7=>bI λv8 h9=>bI λv10 h11=>bI λXmi h29=>rnI [.pure _ (aB v1),Bf,.pure _ (AV.tup [(X7 false v4.1),(aB v4.2.1),(aI .i64 v4.2.2)]),.pure _ (AV.tup [(X7 false v6.1),(aB v6.2.1),(aI .i64 v6.2.2)]),.pure _ (AV.tup [(X7 false v8.1),(aI .i64 v8.2)]),.pure _ (AV.tup [(X7 false v10.1),(aI .i64 v10.2)]),.stop 7] ?_;intro h;refine X4.join (s':=⟨fr [(4,(aB Xmi))],hp ([]),0⟩) ?_ (λJ=>X4.cut ?_)
 ·
  revert h;exact λe=>oj e▸Xa [] (k:=fi)
 clear h;revert h29;refine bI λv21 h22=>brI (λh23=>?_) λh23=>?_
 ·
  refine brI (λh24=>?_) λh24=>?_
  ·
   refine brI (λh25=>?_) λh25=>?_
   ·
    refine bI λv26 h27=>brI (λh28=>?_) λh28=>?_
    ·
     intro h;obtain rfl:=oj h;exact Xa [.pure _ (aB v21),Gt,Gt,Gt,Gt,Gt,Gt,Gt,Gt,Gt,.pure _ (aB v26),Gt,Gt,Gt] (o:=by repeat' first|apply Ya|exact pcM|exact fq (Xl h23 h24)|exact fq (Xl (Xl h23 h24) h25)|exact fq (Xl (Xl (Xl h23 h24) h25) h28)|exact Xy) (k:=wkT [] (X4.glue J))
    intro h;obtain rfl:=oj h;exact Xa [.pure _ (aB v21),Gt,Gt,Gt,Gt,Gt,Gt,Gt,Gt,Gt,.pure _ (aB v26),Gf,Gf,Gf] (o:=by repeat' first|apply Ya|exact pcM|exact fq (Xl h23 h24)|exact fq (Xl (Xl h23 h24) h25)|exact fq (Xl (Xl (Xl h23 h24) h25) h28)|exact Xy) (k:=wkT [] (X4.glue J))
   intro h;obtain rfl:=oj h;exact Xa [.pure _ (aB v21),Gt,Gt,Gt,Gt,Gt,Gt,Gf,Gf,Gf,Gf,Gf,Gf] (o:=by repeat' first|apply Ya|exact pcM|exact fq (Xl h23 h24)|exact fq (Xl (Xl h23 h24) h25)|exact fq (Xo (Xl (Xl h23 h24) h25) rfl)|exact Xy) (k:=wkT [] (X4.glue J))
  intro h;obtain rfl:=oj h;exact Xa [.pure _ (aB v21),Gt,Gt,Gt,Gf,Gf,Gf,Gf,Gf,Gf,Gf,Gf,Gf] (o:=by repeat' first|apply Ya|exact pcM|exact fq (Xl h23 h24)|exact fq (Xo (Xl h23 h24) rfl)|exact fq (Xo (Xo (Xl h23 h24) rfl) rfl)|exact Xy) (k:=wkT [] (X4.glue J))
 intro h;obtain rfl:=oj h;exact Xa [.pure _ (aB v21),Gf,Gf,Gf,Gf,Gf,Gf,Gf,Gf,Gf,Gf,Gf,Gf] (o:=by repeat' first|apply Ya|exact pcM|exact fq (Xo h23 rfl)|exact fq (Xo (Xo h23 rfl) rfl)|exact fq (Xo (Xo (Xo h23 rfl) rfl) rfl)|exact Xy) (k:=wkT [] (X4.glue J))⟩
end Go.Av.Try