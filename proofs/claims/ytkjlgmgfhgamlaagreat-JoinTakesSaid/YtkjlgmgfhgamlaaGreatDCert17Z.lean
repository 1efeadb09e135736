/- Printed by decomp.py: that the program computes the functions. -/
import Derived.Test.YtkjlgmgfhgamlaaGreatDCert15Z
set_option linter.all false

namespace Go.Av.Tryz
open Go.Proofs Go.D
set_option maxRecDepth 10000
set_option maxHeartbeats 40000000
instance X058:PCs Tryz.prog 75 (∀ (a0:Int) (r:(List Int)×Int),Xeu a0=some r->X0b Tryz.prog 75 [(aI .i64 a0)] (AV.tup [(Lt (List.map (aI .i64) r.1)),(aI .i64 r.2)])):=⟨λa0 r h=>by
 refine X0b.sym X3 fn75 (nt:=13) rfl rfl ?_ okM;unfold Xeu at h;revert h;refine brI (λh1=>λe=>oj e▸X6 [Bt] (k:=fi)) λh1=>?_;refine brI (λh2=>?_) λh2=>?_
 ·
  intro h;obtain rfl:a0=1:=eq_of_beq h2;refine X0j [Bf] (o:=by repeat' first|apply Ya|exact pcM|(decide +kernel)|exact Xu) ?_;refine X2.inline X3 X048 rfl rfl rfl rfl rfl trivial trivial rfl rfl ?_;refine X0j [Bf,.wrap,.wrap] (o:=by repeat' first|apply Ya|exact pcM|(decide +kernel)|exact Xu) ?_;refine X2.inline X3 X047 rfl rfl rfl rfl rfl trivial trivial rfl rfl ?_;refine X0j [Bf] (o:=by repeat' first|apply Ya|exact pcM|(decide +kernel)|exact Xu) ?_;refine X2.inline X3 X046 rfl rfl rfl rfl rfl trivial trivial rfl rfl ?_;refine X0j [] (o:=by repeat' first|apply Ya|exact pcM|(decide +kernel)|exact Xu) ?_;refine X2.back (by intro id h;cases h) rfl ?_;refine X0j [] (o:=by repeat' first|apply Ya|exact pcM|(decide +kernel)|exact Xu) ?_;refine X2.back (by intro id h;cases h) rfl ?_;refine X0j [Gt,Gt,Bf,.wrap] (o:=by repeat' first|apply Ya|exact pcM|(decide +kernel)|exact((show((8:Nat):Int)*1<=281474976710656 by decide))|exact Xu) ?_;refine X2.copyS [(aI .i64 (-9223372036854775808))] 1 X3 rfl rfl rfl rfl trivial rfl rfl rfl trivial (.ref rfl (by decide)) rfl rfl rfl rfl rfl rfl rfl rfl ?_;refine X0j [] (o:=by repeat' first|apply Ya|exact pcM|(decide +kernel)|exact Xu) ?_;refine X2.round ?_;refine X0j [Bf] (o:=by repeat' first|apply Ya|exact pcM|(decide +kernel)|exact Xu) ?_;refine X2.back (by intro id h;cases h) rfl ?_;revert h;exact λe=>oj e▸X6 [] (o:=by repeat' first|apply Ya|exact pcM|(decide +kernel)|exact Xu) (k:=fi)
 refine brI (λh3=>?_) λh3=>?_
 ·
  intro h;obtain rfl:a0=2:=eq_of_beq h3;refine X0j [Bf] (o:=by repeat' first|apply Ya|exact pcM|(decide +kernel)|exact Xu) ?_;refine X2.inline X3 X048 rfl rfl rfl rfl rfl trivial trivial rfl rfl ?_;refine X0j [Bf,.wrap,.wrap] (o:=by repeat' first|apply Ya|exact pcM|(decide +kernel)|exact Xu) ?_;refine X2.inline X3 X047 rfl rfl rfl rfl rfl trivial trivial rfl rfl ?_;refine X0j [Bf] (o:=by repeat' first|apply Ya|exact pcM|(decide +kernel)|exact Xu) ?_;refine X2.inline X3 X046 rfl rfl rfl rfl rfl trivial trivial rfl rfl ?_;refine X0j [] (o:=by repeat' first|apply Ya|exact pcM|(decide +kernel)|exact Xu) ?_;refine X2.back (by intro id h;cases h) rfl ?_;refine X0j [] (o:=by repeat' first|apply Ya|exact pcM|(decide +kernel)|exact Xu) ?_;refine X2.back (by intro id h;cases h) rfl ?_;refine X0j [Gt,Gt,Bf,.wrap] (o:=by repeat' first|apply Ya|exact pcM|(decide +kernel)|exact((show((8:Nat):Int)*2<=281474976710656 by decide))|exact Xu) ?_;refine X2.copyS [(aI .i64 (-9223372036854775808)),(aI .i64 0)] 1 X3 rfl rfl rfl rfl trivial rfl rfl rfl trivial (.ref rfl (by decide)) rfl rfl rfl rfl rfl rfl rfl rfl ?_;refine X0j [] (o:=by repeat' first|apply Ya|exact pcM|(decide +kernel)|exact Xu) ?_;refine X2.round ?_;refine X0j [Bt,.stop 9] (o:=by repeat' first|apply Ya|exact pcM|(decide +kernel)|exact Xu) ?_;refine X2.drawnCutF 7 tmD [] rfl rfl rfl rfl rfl rfl rfl (by decide) rfl rfl rfl (by decide) (by decide) (by decide) (by decide) rfl rfl rfl rfl rfl rfl rfl (by repeat' first|apply Ya|exact pcM|(decide +kernel)|exact Xu) ?_;refine X0j [] (o:=by repeat' first|apply Ya|exact pcM|(decide +kernel)|exact Xu) ?_;refine X2.copyS [(aI .i64 (-9223372036854775808)),(aI .i64 (-9223372036854775808))] 1 X3 rfl rfl rfl rfl trivial rfl rfl rfl trivial (.ref rfl (by decide)) rfl rfl rfl rfl rfl rfl rfl rfl ?_;refine X0j [] (o:=by repeat' first|apply Ya|exact pcM|(decide +kernel)|exact Xu) ?_;refine X2.round ?_;refine X0j [Bf] (o:=by repeat' first|apply Ya|exact pcM|(decide +kernel)|exact Xu) ?_;refine X2.back (by intro id h;cases h) rfl ?_;revert h;exact λe=>oj e▸X6 [] (o:=by repeat' first|apply Ya|exact pcM|(decide +kernel)|exact Xu) (k:=fi)
 refine brI (λh4=>?_) λh4=>?_
 ·
  intro h;obtain rfl:a0=3:=eq_of_beq h4;refine X0j [Bf] (o:=by repeat' first|apply Ya|exact pcM|(decide +kernel)|exact Xu) ?_;refine X2.inline X3 X048 rfl rfl rfl rfl rfl trivial trivial rfl rfl ?_;refine X0j [Bf,.wrap,.wrap] (o:=by repeat' first|apply Ya|exact pcM|(decide +kernel)|exact Xu) ?_;refine X2.inline X3 X047 rfl rfl rfl rfl rfl trivial trivial rfl rfl ?_;refine X0j [Bf] (o:=by repeat' first|apply Ya|exact pcM|(decide +kernel)|exact Xu) ?_;refine X2.inline X3 X046 rfl rfl rfl rfl rfl trivial trivial rfl rfl ?_;refine X0j [] (o:=by repeat' first|apply Ya|exact pcM|(decide +kernel)|exact Xu) ?_;refine X2.back (by intro id h;cases h) rfl ?_;refine X0j [] (o:=by repeat' first|apply Ya|exact pcM|(decide +kernel)|exact Xu) ?_;refine X2.back (by intro id h;cases h) rfl ?_;refine X0j [Gt,Gt,Bf,.wrap] (o:=by repeat' first|apply Ya|exact pcM|(decide +kernel)|exact((show((8:Nat):Int)*3<=281474976710656 by decide))|exact Xu) ?_;refine X2.copyS [(aI .i64 (-9223372036854775808)),(aI .i64 0),(aI .i64 0)] 1 X3 rfl rfl rfl rfl trivial rfl rfl rfl trivial (.ref rfl (by decide)) rfl rfl rfl rfl rfl rfl rfl rfl ?_;refine X0j [] (o:=by repeat' first|apply Ya|exact pcM|(decide +kernel)|exact Xu) ?_;refine X2.round ?_;refine X0j [Bt,.stop 9] (o:=by repeat' first|apply Ya|exact pcM|(decide +kernel)|exact Xu) ?_;refine X2.drawnCutF 7 tmD [] rfl rfl rfl rfl rfl rfl rfl (by decide) rfl rfl rfl (by decide) (by decide) (by decide) (by decide) rfl rfl rfl rfl rfl rfl rfl (by repeat' first|apply Ya|exact pcM|(decide +kernel)|exact Xu) ?_;refine X0j [] (o:=by repeat' first|apply Ya|exact pcM|(decide +kernel)|exact Xu) ?_;refine X2.copyS [(aI .i64 (-9223372036854775808)),(aI .i64 (-9223372036854775808)),(aI .i64 0)] 1 X3 rfl rfl rfl rfl trivial rfl rfl rfl trivial (.ref rfl (by decide)) rfl rfl rfl rfl rfl rfl rfl rfl ?_;refine X0j [] (o:=by repeat' first|apply Ya|exact pcM|(decide +kernel)|exact Xu) ?_;refine X2.round ?_;refine X0j [Bt,.stop 9] (o:=by repeat' first|apply Ya|exact pcM|(decide +kernel)|exact Xu) ?_;refine X2.drawnCutF 7 tmD [] rfl rfl rfl rfl rfl rfl rfl (by decide) rfl rfl rfl (by decide) (by decide) (by decide) (by decide) rfl rfl rfl rfl rfl rfl rfl (by repeat' first|apply Ya|exact pcM|(decide +kernel)|exact Xu) ?_;refine X0j [] (o:=by repeat' first|apply Ya|exact pcM|(decide +kernel)|exact Xu) ?_;refine X2.copyS [(aI .i64 (-9223372036854775808)),(aI .i64 (-9223372036854775808)),(aI .i64 (-9223372036854775808))] 1 X3 rfl rfl rfl rfl trivial rfl rfl rfl trivial (.ref rfl (by decide)) rfl rfl rfl rfl rfl rfl rfl rfl ?_;refine X0j [] (o:=by repeat' first|apply Ya|exact pcM|(decide +kernel)|exact Xu) ?_;refine X2.round ?_;refine X0j [Bf] (o:=by repeat' first|apply Ya|exact pcM|(decide +kernel)|exact Xu) ?_;refine X2.back (by intro id h;cases h) rfl ?_;revert h;exact λe=>oj e▸X6 [] (o:=by repeat' first|apply Ya|exact pcM|(decide +kernel)|exact Xu) (k:=fi)
 refine brI (λh5=>?_) λh5=>?_
 ·
  intro h;obtain rfl:a0=4:=eq_of_beq h5;refine X0j [Bf] (o:=by repeat' first|apply Ya|exact pcM|(decide +kernel)|exact Xu) ?_;refine X2.inline X3 X048 rfl rfl rfl rfl rfl trivial trivial rfl rfl ?_;refine X0j [Bf,.wrap,.wrap] (o:=by repeat' first|apply Ya|exact pcM|(decide +kernel)|exact Xu) ?_;refine X2.inline X3 X047 rfl rfl rfl rfl rfl trivial trivial rfl rfl ?_;refine X0j [Bf] (o:=by repeat' first|apply Ya|exact pcM|(decide +kernel)|exact Xu) ?_;refine X2.inline X3 X046 rfl rfl rfl rfl rfl trivial trivial rfl rfl ?_;refine X0j [] (o:=by repeat' first|apply Ya|exact pcM|(decide +kernel)|exact Xu) ?_;refine X2.back (by intro id h;cases h) rfl ?_;refine X0j [] (o:=by repeat' first|apply Ya|exact pcM|(decide +kernel)|exact Xu) ?_;refine X2.back (by intro id h;cases h) rfl ?_;refine X0j [Gt,Gt,Bf,.wrap] (o:=by repeat' first|apply Ya|exact pcM|(decide +kernel)|exact((show((8:Nat):Int)*4<=281474976710656 by decide))|exact Xu) ?_;refine X2.copyS [(aI .i64 (-9223372036854775808)),(aI .i64 0),(aI .i64 0),(aI .i64 0)] 1 X3 rfl rfl rfl rfl trivial rfl rfl rfl trivial (.ref rfl (by decide)) rfl rfl rfl rfl rfl rfl rfl rfl ?_;refine X0j [] (o:=by repeat' first|apply Ya|exact pcM|(decide +kernel)|exact Xu) ?_;refine X2.round ?_;refine X0j [Bt,.stop 9] (o:=by repeat' first|apply Ya|exact pcM|(decide +kernel)|exact Xu) ?_;refine X2.drawnCutF 7 tmD [] rfl rfl rfl rfl rfl rfl rfl (by decide) rfl rfl rfl (by decide) (by decide) (by decide) (by decide) rfl rfl rfl rfl rfl rfl rfl (by repeat' first|apply Ya|exact pcM|(decide +kernel)|exact Xu) ?_;refine X0j [] (o:=by repeat' first|apply Ya|exact pcM|(decide +kernel)|exact Xu) ?_;refine X2.copyS [(aI .i64 (-9223372036854775808)),(aI .i64 (-9223372036854775808)),(aI .i64 0),(aI .i64 0)] 1 X3 rfl rfl rfl rfl trivial rfl rfl rfl trivial (.ref rfl (by decide)) rfl rfl rfl rfl rfl rfl rfl rfl ?_;refine X0j [] (o:=by repeat' first|apply Ya|exact pcM|(decide +kernel)|exact Xu) ?_;refine X2.round ?_;refine X0j [Bt,.stop 9] (o:=by repeat' first|apply Ya|exact pcM|(decide +kernel)|exact Xu) ?_;refine X2.drawnCutF 7 tmD [] rfl rfl rfl rfl rfl rfl rfl (by decide) rfl rfl rfl (by decide) (by decide) (by decide) (by decide) rfl rfl rfl rfl rfl rfl rfl (by repeat' first|apply Ya|exact pcM|(decide +kernel)|exact Xu) ?_;refine X0j [] (o:=by repeat' first|apply Ya|exact pcM|(decide +kernel)|exact Xu) ?_;refine X2.copyS [(aI .i64 (-9223372036854775808)),(aI .i64 (-9223372036854775808)),(aI .i64 (-9223372036854775808)),(aI .i64 (-9223372036854775808))] 2 X3 rfl rfl rfl rfl trivial rfl rfl rfl trivial (.ref rfl (by decide)) rfl rfl rfl rfl rfl rfl rfl rfl ?_;refine X0j [] (o:=by repeat' first|apply Ya|exact pcM|(decide +kernel)|exact Xu) ?_;refine X2.round ?_;refine X0j [Bf] (o:=by repeat' first|apply Ya|exact pcM|(decide +kernel)|exact Xu) ?_;refine X2.back (by intro id h;cases h) rfl ?_;revert h;exact λe=>oj e▸X6 [] (o:=by repeat' first|apply Ya|exact pcM|(decide +kernel)|exact Xu) (k:=fi)
 intro h;cases h⟩
instance X06l:PCs Tryz.prog 33 (∀ (a0:Int) (r:Xo×Int),Xhj a0=some r->X0b Tryz.prog 33 [(aI .i64 a0)] (AV.tup [(Xa true r.1),(aI .i64 r.2)])):=⟨λa0 r h=>by
 refine X0b.sym X3 fn33 (nt:=21) rfl rfl ?_ okM;unfold Xhj at h;revert h;exact brI (λh1=>λe=>oj e▸X6 [Bt] (k:=fi)) λh1=>bI λv2 h3=>λe=>oj e▸X6 [Bf,.pure _ (AV.tup [(Lt (List.map (aI .i64) v2.1)),(aI .i64 v2.2)])] (k:=fi)⟩
theorem Xlb {Q:X03->St->Mu->Prop} {μ:Mu} (X0c:Int):∀ (n:Nat) (Xh:(List Int)) (Xgp:Int) (X0h:Nb Xh) (o:Xcg) (h:Xc3 X0c n Xh Xgp=some o)
  (C0:∀ (Xq:(List Int)) (X06:Nb Xq),o=Xcg.x0 Xq->X2 Tryz.prog 21 0 Q (.exit (.exit 0)) [] ⟨fr [(4,(slE X06.1 0 (List.map (aI .i64) Xq)))],hp ([]++opE X06.1 0 1 (List.map (aI .i64) Xq)),1⟩ μ),
  X2 Tryz.prog 21 0 Q (.loop (X2o 0 (Xd Tryz.f76))) [] ⟨fr [(0,(aI .i64 X0c)),(4,(slE X0h.1 0 (List.map (aI .i64) Xh))),(5,(aI .i64 Xgp))],hp ([]++opE X0h.1 0 1 (List.map (aI .i64) Xh)),1⟩ μ:=by
 intro n
 induction n with
 |zero=>intro Xh Xgp X0h o h C0;cases h
 |succ n ih =>
  intro Xh Xgp X0h o h C0;rw[Xc3] at h;rcases X0h with ⟨_|_,X2s⟩
  ·
   refine X2.round ?_;revert h;refine brI (λh15=>?_) λh15=>λe=>X6 [Bf] (k:=wkT [] (C0 _  nbF (oj e).symm));refine bI λu16 h17=>rnI [Bt,.no,.wrap] (o:=by repeat' first|apply Ya|exact pcM|(refine X0r h17 rfl ?_;first|(simp<;>omega)|(simp[h15]<;>omega))|(refine X08 h17 (by decide) ?_;first|(simp<;>omega)|(simp[h15]<;>omega))|exact Xu) ?_;intro h;exact wkT [(0,2)] (ih  _ _ nbF o h C0)
  obtain rfl:=X2s rfl;refine X2.round ?_;revert h;refine brI (λh18=>?_) λh18=>λe=>X6 [Bf] (k:=wkT [] (C0 _  nbS (oj e).symm));refine bI λu19 h20=>rnI [Bt,.no,.wrap] (o:=by repeat' first|apply Ya|exact pcM|(refine X0r h20 rfl ?_;first|(simp<;>omega)|(simp[h18]<;>omega))|(refine X08 h20 (by decide) ?_;first|(simp<;>omega)|(simp[h18]<;>omega))|exact Xu) ?_;intro h;exact wkT [(0,2)] (ih  _ _ nbF o h C0)
instance X051:PCs Tryz.prog 76 (∀ (a0:Int) (r:(List Int)×Int),Xep a0=some r->X0b Tryz.prog 76 [(aI .i64 a0)] (AV.tup [(Lt (List.map (aI .i64) r.1)),(aI .i64 r.2)])):=⟨λa0 r h=>by
 refine X0b.sym X3 fn76 (nt:=21) rfl rfl ?_ okM;unfold Xep at h;revert h;refine brI (λh1=>λe=>oj e▸X6 [Bt] (k:=fi)) λh1=>bI λo21 h22=>rnI [Bf] ?_;intro h;refine wkT [] (X2.cut (Xlb a0 _ _ _ nbS _ h22 ?_));intro Xq X06 eo21;subst eo21;refine X2.glue ?_;try dsimp only at h
 rcases X06 with ⟨_|_,X29⟩<;>(try obtain rfl:=X29 rfl);all_goals
  revert h;exact λe=>oj e▸X6 [] (k:=fi)⟩
instance X050:PCs Tryz.prog 34 (∀ (a0:Int) (r:Xo×Int),Xeo a0=some r->X0b Tryz.prog 34 [(aI .i64 a0)] (AV.tup [(Xa true r.1),(aI .i64 r.2)])):=⟨λa0 r h=>by
 refine X0b.sym X3 fn34 (nt:=21) rfl rfl ?_ okM;unfold Xeo at h;revert h;exact brI (λh1=>λe=>oj e▸X6 [Bt] (k:=fi)) λh1=>bI λv2 h3=>λe=>oj e▸X6 [Bf,.pure _ (AV.tup [(Lt (List.map (aI .i64) v2.1)),(aI .i64 v2.2)])] (k:=fi)⟩
instance X06k:PCs Tryz.prog 35 (∀ (a0:X0g) (a1:X1) (r:X1b×Bool×Int),Xhi a0 a1=some r->X0b Tryz.prog 35 [(X07 false a0),(X0 a1)] (AV.tup [(Xf r.1),(aB r.2.1),(aI .i64 r.2.2)])):=⟨λa0 a1 r h=>by
 refine X0b.sym X3 fn35 (nt:=27) rfl rfl ?_ okM;unfold Xhi at h;revert h;refine bI λX06s h12=>rnI [.stop 1] ?_;intro h;refine X2.join (s':=⟨fr [(2,(AV.ptr 0 0 0)),(3,(AV.ptr 1 0 0)),(4,(AV.ptr 2 0 0)),(17,(aB X06s))],hp ([(0,Ob [(X07 false a0)] 10),(1,Ob [(X0 a1)] 11),(2,Ob [(Xf (X1b.mk 0 (Xy.mk 0 0) (V2.mk 0 0)))] 5)]),3⟩) ?_ (λJ=>X2.cut ?_)
 ·
  revert h;exact brI (λh13=>λe=>oj e▸X6 [Bt] (k:=fi)) λh13=>bI λv14 h15=>λe=>oj e▸X6 [Bf,.pure _ (AV.tup [(Xf v14.1),(aB v14.2)])] (k:=fi)
 clear h;revert h12;refine bI λv7 h8=>brI (λh9=>?_) λh9=>?_
 ·
  intro h;obtain rfl:=oj h;exact X6 [.pure _ (aB v7),Gf,Gf,Gf,Gf] (k:=wkT [] (X2.glue J))
 refine bI λv10 h11=>?_;intro h;obtain rfl:=oj h;exact X6 [.pure _ (aB v7),Gt,Gt,Gt,.pure _ (aI .i64 v10),Gt] (k:=wkT [] (X2.glue J))⟩
instance X04z:PCs Tryz.prog 36 (∀ (a0:X0g) (a1:X1) (r:X1b×Bool×Int),Xen a0 a1=some r->X0b Tryz.prog 36 [(X07 false a0),(X0 a1)] (AV.tup [(Xf r.1),(aB r.2.1),(aI .i64 r.2.2)])):=⟨λa0 a1 r h=>by
 refine X0b.sym X3 fn36 (nt:=32) rfl rfl ?_ okM;unfold Xen at h;revert h;refine bI λX06o h14=>rnI [.stop 1] ?_;intro h;refine X2.join (s':=⟨fr [(2,(AV.ptr 0 0 0)),(3,(AV.ptr 1 0 0)),(4,(AV.ptr 2 0 0)),(22,(aB X06o))],hp ([(0,Ob [(X07 false a0)] 10),(1,Ob [(X0 a1)] 11),(2,Ob [(Xf (X1b.mk 0 (Xy.mk 0 0) (V2.mk 0 0)))] 5)]),3⟩) ?_ (λJ=>X2.cut ?_)
 ·
  revert h;exact brI (λh15=>λe=>oj e▸X6 [Bt] (k:=fi)) λh15=>bI λv16 h17=>λe=>oj e▸X6 [Bf,.pure _ (AV.tup [(Xf v16.1),(aB v16.2)])] (k:=fi)
 clear h;revert h14;refine bI λv8 h9=>brI (λh10=>?_) λh10=>?_
 ·
  intro h;obtain rfl:=oj h;exact X6 [.pure _ (aB v8),Gf,Gf,Gf,Gf,Gf,Gf,Gf] (o:=by repeat' first|apply Ya|exact pcM|exact fq (X7 h10 rfl)|exact Xu) (k:=wkT [] (X2.glue J))
 refine brI (λh11=>?_) λh11=>?_
 ·
  intro h;obtain rfl:=oj h;exact X6 [.pure _ (aB v8),Gt,Gt,Gt,Gf,Gf,Gf,Gf] (o:=by repeat' first|apply Ya|exact pcM|exact fq (Xb h10 h11)|exact Xu) (k:=wkT [] (X2.glue J))
 refine bI λv12 h13=>?_;intro h;obtain rfl:=oj h;exact X6 [.pure _ (aB v8),Gt,Gt,Gt,Gt,Gt,Gt,.pure _ (aI .i64 v12),Gt] (o:=by repeat' first|apply Ya|exact pcM|exact fq (Xb h10 h11)|exact Xu) (k:=wkT [] (X2.glue J))⟩
theorem Xeq {Q:X03->St->Mu->Prop} {μ:Mu} (X0c:(List X09)) (Xa8:(List X09)) (hl:X0c.length<=140737488355328):∀ (xs:List X09) (k:Nat) (hx:X0c.drop k=xs) (o:X4d) (h:X2e X0c Xa8 xs k  = some o)
  (C0:o=X4d.x0->X2 Tryz.prog 26 0 Q (.exit (.exit 0)) [] ⟨fr [],hp ([]),0⟩ μ)
  (C1:o=X4d.x1->X2 Tryz.prog 26 0 Q (.exit .ret) [] ⟨fr [(4,(aB false))],hp ([]),0⟩ μ),
  X2 Tryz.prog 26 0 Q (.loop (X2o 0 (Xd Tryz.f53))) [] ⟨fr [(0,(Lf (X0c.map Xc))),(1,(Lf (Xa8.map Xc))),(5,(aI .i64 (k:Int)))],hp ([]),0⟩ μ:=by
 intro xs
 induction xs with
 |nil =>
  intro k hx  o h C0 C1;have hk:=X1g hx;have hc:decide ((k:Int)<(X0c.length:Int))=false:=Yf om;rw[X2e] at h;refine X2.round ?_;revert h;exact λe=>X6 [.el (aI .i64 (X0c.length:Int)),Bf] (k:=wkT [] (C0  (oj e).symm))
 |cons x xs ih =>
  intro k hx  o h C0 C1;obtain⟨hk,hg,hx1⟩:=X0u hx;have hc:decide ((k:Int)<(X0c.length:Int))=true:=Yt om;rw[X2e] at h;refine X2.round ?_;revert h;refine bI λe11 h12=>?_;try have qh12:=Xl h12
  refine brI (λh13=>λe=>X6 [.el (aI .i64 (X0c.length:Int)),Bt,.el (Xc x),.el (Xc e11),Bt] (k:=wkT [] (C1  (oj e).symm))) λh13=>rnI [.el (aI .i64 (X0c.length:Int)),Bt,.el (Xc x),.el (Xc e11),Bf] ?_;intro h;exact wkT [] (ih (k+1) hx1  o h C0 C1)
instance Xtu:PCs Tryz.prog 53 (∀ (a0:(List X09)) (a1:(List X09)) (r:Bool),X5o a0 a1=some r->X0b Tryz.prog 53 [(Lf (a0.map Xc)),(Lf (a1.map Xc))] (aB r)):=⟨λa0 a1 r h=>by
 refine X0b.sym X3 fn53 (nt:=26) rfl rfl ?_ okM;unfold X5o at h;revert h;refine brI (λh1=>λe=>oj e▸X6 [.el (aI .i64 (a0.length:Int)),.el (aI .i64 (a1.length:Int)),Bt] (k:=fi)) λh1=>bI λu2 h3=>?_;have qh3:=X0v h3;refine bI λo14 h15=>rnI [.el (aI .i64 (a0.length:Int)),.el (aI .i64 (a1.length:Int)),Bf] ?_;intro h;refine wkT [] (X2.cut (Xeq a0 a1 qh3 a0 0 (by simp) _ h15 ?_ ?_))
 ·
  intro eo14;subst eo14;refine X2.glue ?_;try dsimp only at h
  revert h;exact λe=>oj e▸X6 [] (k:=fi)
 intro eo14;subst eo14;refine X2.glue ?_;try dsimp only at h
 revert h;exact λe=>oj e▸X6 [] (k:=fi)⟩
theorem Xk5 {Q:X03->St->Mu->Prop} {μ:Mu} (Xh:Xo) (Xn:Xo):∀ (n:Nat) (Xgp:Int) (o:X7z) (h:X4u Xh Xn n Xgp=some o)
  (C0:o=X7z.x0->X2 Tryz.prog 165 0 Q (.exit .ret) [] ⟨fr [(4,(aB false))],hp ([]),0⟩ μ)
  (C1:o=X7z.x1->X2 Tryz.prog 165 0 Q (.exit (.exit 0)) [] ⟨fr [(2,(AV.ptr 0 0 0)),(3,(AV.ptr 1 0 0))],hp ([(0,Ob [(Xa false Xh)] 9),(1,Ob [(Xa false Xn)] 9)]),2⟩ μ),
  X2 Tryz.prog 165 0 Q (.loop (X2o 0 (Xd Tryz.f23))) [] ⟨fr [(2,(AV.ptr 0 0 0)),(3,(AV.ptr 1 0 0)),(5,(aI .i64 Xgp))],hp ([(0,Ob [(Xa false Xh)] 9),(1,Ob [(Xa false Xn)] 9)]),2⟩ μ:=by
 intro n
 induction n with
 |zero=>intro Xgp o h C0 C1;cases h
 |succ n ih =>
  intro Xgp o h C0 C1;rw[X4u] at h;refine X2.round ?_;revert h;refine brI (λh35=>?_) λh35=>λe=>X6 [.el (aI .i64 (Xh.Marks.length:Int)),Bf] (k:=wkT [] (C1  (oj e).symm));refine bI λe36 h37=>?_;try have qh37:=Xl h37
  refine bI λe38 h39=>?_;try have qh39:=Xl h39
  refine brI (λh40=>λe=>X6 [.el (aI .i64 (Xh.Marks.length:Int)),Bt,.el (aI .i64 e36),.el (aI .i64 e38),Bt] (k:=wkT [] (C0  (oj e).symm))) λh40=>rnI [.el (aI .i64 (Xh.Marks.length:Int)),Bt,.el (aI .i64 e36),.el (aI .i64 e38),Bf,.wrap] ?_;intro h;exact wkT [] (ih  _ o h C0 C1)
theorem Xk4 {Q:X03->St->Mu->Prop} {μ:Mu} (X2c:Xo) (X9g:Xo):∀ (n:Nat) (y1_6:Int) (o:X7y) (h:X4t X2c X9g n y1_6=some o)
  (C0:o=X7y.x0->X2 Tryz.prog 165 0 Q (.exit .ret) [] ⟨fr [(4,(aB false))],hp ([]),0⟩ μ)
  (C1:o=X7y.x1->X2 Tryz.prog 165 0 Q (.exit (.exit 2)) [] ⟨fr [(2,(AV.ptr 0 0 0)),(3,(AV.ptr 1 0 0))],hp ([(0,Ob [(Xa false X2c)] 9),(1,Ob [(Xa false X9g)] 9)]),2⟩ μ),
  X2 Tryz.prog 165 0 Q (.loop (X2o 1 (Xd Tryz.f23))) [] ⟨fr [(2,(AV.ptr 0 0 0)),(3,(AV.ptr 1 0 0)),(6,(aI .i64 y1_6))],hp ([(0,Ob [(Xa false X2c)] 9),(1,Ob [(Xa false X9g)] 9)]),2⟩ μ:=by
 intro n
 induction n with
 |zero=>intro y1_6 o h C0 C1;cases h
 |succ n ih =>
  intro y1_6 o h C0 C1;rw[X4t] at h;refine X2.round ?_;revert h;refine brI (λh56=>?_) λh56=>λe=>X6 [.el (aI .i64 (X2c.Store.length:Int)),Bf] (k:=wkT [] (C1  (oj e).symm));refine bI λe57 h58=>?_;try have qh58:=Xl h58
  refine bI λe59 h60=>?_;try have qh60:=Xl h60
  refine brI (λh61=>λe=>X6 [.el (aI .i64 (X2c.Store.length:Int)),Bt,.el (X0 e57),.el (X0 e59),Bt] (k:=wkT [] (C0  (oj e).symm))) λh61=>rnI [.el (aI .i64 (X2c.Store.length:Int)),Bt,.el (X0 e57),.el (X0 e59),Bf,.wrap] ?_;intro h;exact wkT [] (ih  _ o h C0 C1)
theorem Xk3 {Q:X03->St->Mu->Prop} {μ:Mu} (X4k:Xo) (Xuq:Xo):∀ (n:Nat) (Xpb:Int) (o:X7x) (h:X4s X4k Xuq n Xpb=some o)
  (C0:o=X7x.x0->X2 Tryz.prog 165 0 Q (.exit .ret) [] ⟨fr [(4,(aB false))],hp ([]),0⟩ μ)
  (C1:o=X7x.x1->X2 Tryz.prog 165 0 Q (.exit (.exit 4)) [] ⟨fr [(2,(AV.ptr 0 0 0)),(3,(AV.ptr 1 0 0))],hp ([(0,Ob [(Xa false X4k)] 9),(1,Ob [(Xa false Xuq)] 9)]),2⟩ μ),
  X2 Tryz.prog 165 0 Q (.loop (X2o 2 (Xd Tryz.f23))) [] ⟨fr [(2,(AV.ptr 0 0 0)),(3,(AV.ptr 1 0 0)),(7,(aI .i64 Xpb))],hp ([(0,Ob [(Xa false X4k)] 9),(1,Ob [(Xa false Xuq)] 9)]),2⟩ μ:=by
 intro n
 induction n with
 |zero=>intro Xpb o h C0 C1;cases h
 |succ n ih =>
  intro Xpb o h C0 C1;rw[X4s] at h;refine X2.round ?_;revert h;refine brI (λh77=>?_) λh77=>λe=>X6 [.el (aI .i64 (X4k.Events.length:Int)),Bf] (k:=wkT [] (C1  (oj e).symm));refine bI λe78 h79=>?_;try have qh79:=Xl h79
  refine bI λe80 h81=>?_;try have qh81:=Xl h81
  refine brI (λh82=>λe=>X6 [.el (aI .i64 (X4k.Events.length:Int)),Bt,.el (X8 e78),.el (X8 e80),Bt] (k:=wkT [] (C0  (oj e).symm))) λh82=>rnI [.el (aI .i64 (X4k.Events.length:Int)),Bt,.el (X8 e78),.el (X8 e80),Bf,.wrap] ?_;intro h;exact wkT [] (ih  _ o h C0 C1)
theorem Xk2 {Q:X03->St->Mu->Prop} {μ:Mu} (X8j:Xo) (Xup:Xo):∀ (n:Nat) (y3_8:Int) (o:X7w) (h:X4r X8j Xup n y3_8=some o)
  (C0:o=X7w.x0->X2 Tryz.prog 165 0 Q (.exit .ret) [] ⟨fr [(4,(aB false))],hp ([]),0⟩ μ)
  (C1:o=X7w.x1->X2 Tryz.prog 165 0 Q (.exit (.exit 6)) [] ⟨fr [(2,(AV.ptr 0 0 0)),(3,(AV.ptr 1 0 0))],hp ([(0,Ob [(Xa false X8j)] 9),(1,Ob [(Xa false Xup)] 9)]),2⟩ μ),
  X2 Tryz.prog 165 0 Q (.loop (X2o 3 (Xd Tryz.f23))) [] ⟨fr [(2,(AV.ptr 0 0 0)),(3,(AV.ptr 1 0 0)),(8,(aI .i64 y3_8))],hp ([(0,Ob [(Xa false X8j)] 9),(1,Ob [(Xa false Xup)] 9)]),2⟩ μ:=by
 intro n
 induction n with
 |zero=>intro y3_8 o h C0 C1;cases h
 |succ n ih =>
  intro y3_8 o h C0 C1;rw[X4r] at h;refine X2.round ?_;revert h;refine brI (λh98=>?_) λh98=>λe=>X6 [.el (aI .i64 (X8j.Rows.length:Int)),Bf] (k:=wkT [] (C1  (oj e).symm));refine bI λe99 h100=>?_;try have qh100:=Xl h100
  refine bI λe101 h102=>?_;try have qh102:=Xl h102
  refine brI (λh103=>λe=>X6 [.el (aI .i64 (X8j.Rows.length:Int)),Bt,.el (Xf e99),.el (Xf e101),Bt] (k:=wkT [] (C0  (oj e).symm))) λh103=>rnI [.el (aI .i64 (X8j.Rows.length:Int)),Bt,.el (Xf e99),.el (Xf e101),Bf,.wrap] ?_;intro h;exact wkT [] (ih  _ o h C0 C1)
theorem Xk1 {Q:X03->St->Mu->Prop} {μ:Mu} (Xe4:Xo) (Xwv:Xo):∀ (n:Nat) (y4_9:Int) (o:X7v) (h:X4q Xe4 Xwv n y4_9=some o)
  (C0:o=X7v.x0->X2 Tryz.prog 165 0 Q (.exit .ret) [] ⟨fr [(4,(aB false))],hp ([]),0⟩ μ)
  (C1:o=X7v.x1->X2 Tryz.prog 165 0 Q (.exit (.exit 8)) [] ⟨fr [],hp ([]),0⟩ μ),
  X2 Tryz.prog 165 0 Q (.loop (X2o 4 (Xd Tryz.f23))) [] ⟨fr [(2,(AV.ptr 0 0 0)),(3,(AV.ptr 1 0 0)),(9,(aI .i64 y4_9))],hp ([(0,Ob [(Xa false Xe4)] 9),(1,Ob [(Xa false Xwv)] 9)]),2⟩ μ:=by
 intro n
 induction n with
 |zero=>intro y4_9 o h C0 C1;cases h
 |succ n ih =>
  intro y4_9 o h C0 C1;rw[X4q] at h;refine X2.round ?_;revert h;refine brI (λh119=>?_) λh119=>λe=>X6 [.el (aI .i64 (Xe4.Late.length:Int)),Bf] (k:=wkT [] (C1  (oj e).symm));refine bI λe120 h121=>?_;try have qh121:=Xl h121
  refine bI λe122 h123=>?_;try have qh123:=Xl h123
  refine brI (λh124=>λe=>X6 [.el (aI .i64 (Xe4.Late.length:Int)),Bt,.el (X5 e120),.el (X5 e122),Bt] (k:=wkT [] (C0  (oj e).symm))) λh124=>rnI [.el (aI .i64 (Xe4.Late.length:Int)),Bt,.el (X5 e120),.el (X5 e122),Bf,.wrap] ?_;intro h;exact wkT [] (ih  _ o h C0 C1)
end Go.Av.Tryz