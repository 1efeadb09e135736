/- Printed by decomp.py: that the program computes the functions. -/
import Derived.Test.YtkjlgmgfhgamlaaGreatDCert15Z
set_option linter.all false

namespace Go.Av.Tryz
open Go.Proofs Go.D
set_option maxRecDepth 10000
set_option maxHeartbeats 40000000
instance X04z:PCs Tryz.prog 75 (∀ (a0:Int) (r:(List Int)×Int),Xbh a0=some r->X0a Tryz.prog 75 [(aI .i64 a0)] (AV.tup [(Lt (List.map (aI .i64) r.1)),(aI .i64 r.2)])):=⟨λa0 r h=>by
 refine X0a.sym X3 fn75 (nt:=13) rfl rfl ?_ okM;unfold Xbh at h;revert h;refine brI (λh1=>λe=>oj e▸X6 [Bt] (k:=fi)) λh1=>?_;refine brI (λh2=>?_) λh2=>?_
 ·
  intro h;obtain rfl:a0=1:=eq_of_beq h2;refine X0g [Bf] (o:=by repeat' first|apply Ya|exact pcM|(decide +kernel)|exact Xv) ?_;refine X2.inline X3 X041 rfl rfl rfl rfl rfl trivial trivial rfl rfl ?_;refine X0g [Bf,.wrap,.wrap] (o:=by repeat' first|apply Ya|exact pcM|(decide +kernel)|exact Xv) ?_;refine X2.inline X3 X040 rfl rfl rfl rfl rfl trivial trivial rfl rfl ?_;refine X0g [Bf] (o:=by repeat' first|apply Ya|exact pcM|(decide +kernel)|exact Xv) ?_;refine X2.inline X3 X03z rfl rfl rfl rfl rfl trivial trivial rfl rfl ?_;refine X0g [] (o:=by repeat' first|apply Ya|exact pcM|(decide +kernel)|exact Xv) ?_;refine X2.back (by intro id h;cases h) rfl ?_;refine X0g [] (o:=by repeat' first|apply Ya|exact pcM|(decide +kernel)|exact Xv) ?_;refine X2.back (by intro id h;cases h) rfl ?_;refine X0g [Gt,Gt,Bf,.wrap] (o:=by repeat' first|apply Ya|exact pcM|(decide +kernel)|exact((show((8:Nat):Int)*1<=281474976710656 by decide))|exact Xv) ?_;refine X2.copyS [(aI .i64 (-9223372036854775808))] 1 X3 rfl rfl rfl rfl trivial rfl rfl rfl trivial (.ref rfl (by decide)) rfl rfl rfl rfl rfl rfl rfl rfl ?_;refine X0g [] (o:=by repeat' first|apply Ya|exact pcM|(decide +kernel)|exact Xv) ?_;refine X2.round ?_;refine X0g [Bf] (o:=by repeat' first|apply Ya|exact pcM|(decide +kernel)|exact Xv) ?_;refine X2.back (by intro id h;cases h) rfl ?_;revert h;exact λe=>oj e▸X6 [] (o:=by repeat' first|apply Ya|exact pcM|(decide +kernel)|exact Xv) (k:=fi)
 refine brI (λh3=>?_) λh3=>?_
 ·
  intro h;obtain rfl:a0=2:=eq_of_beq h3;refine X0g [Bf] (o:=by repeat' first|apply Ya|exact pcM|(decide +kernel)|exact Xv) ?_;refine X2.inline X3 X041 rfl rfl rfl rfl rfl trivial trivial rfl rfl ?_;refine X0g [Bf,.wrap,.wrap] (o:=by repeat' first|apply Ya|exact pcM|(decide +kernel)|exact Xv) ?_;refine X2.inline X3 X040 rfl rfl rfl rfl rfl trivial trivial rfl rfl ?_;refine X0g [Bf] (o:=by repeat' first|apply Ya|exact pcM|(decide +kernel)|exact Xv) ?_;refine X2.inline X3 X03z rfl rfl rfl rfl rfl trivial trivial rfl rfl ?_;refine X0g [] (o:=by repeat' first|apply Ya|exact pcM|(decide +kernel)|exact Xv) ?_;refine X2.back (by intro id h;cases h) rfl ?_;refine X0g [] (o:=by repeat' first|apply Ya|exact pcM|(decide +kernel)|exact Xv) ?_;refine X2.back (by intro id h;cases h) rfl ?_;refine X0g [Gt,Gt,Bf,.wrap] (o:=by repeat' first|apply Ya|exact pcM|(decide +kernel)|exact((show((8:Nat):Int)*2<=281474976710656 by decide))|exact Xv) ?_;refine X2.copyS [(aI .i64 (-9223372036854775808)),(aI .i64 0)] 1 X3 rfl rfl rfl rfl trivial rfl rfl rfl trivial (.ref rfl (by decide)) rfl rfl rfl rfl rfl rfl rfl rfl ?_;refine X0g [] (o:=by repeat' first|apply Ya|exact pcM|(decide +kernel)|exact Xv) ?_;refine X2.round ?_;refine X0g [Bt,.stop 9] (o:=by repeat' first|apply Ya|exact pcM|(decide +kernel)|exact Xv) ?_;refine X2.drawnCutF 7 tmD [] rfl rfl rfl rfl rfl rfl rfl (by decide) rfl rfl rfl (by decide) (by decide) (by decide) (by decide) rfl rfl rfl rfl rfl rfl rfl (by repeat' first|apply Ya|exact pcM|(decide +kernel)|exact Xv) ?_;refine X0g [] (o:=by repeat' first|apply Ya|exact pcM|(decide +kernel)|exact Xv) ?_;refine X2.copyS [(aI .i64 (-9223372036854775808)),(aI .i64 (-9223372036854775808))] 1 X3 rfl rfl rfl rfl trivial rfl rfl rfl trivial (.ref rfl (by decide)) rfl rfl rfl rfl rfl rfl rfl rfl ?_;refine X0g [] (o:=by repeat' first|apply Ya|exact pcM|(decide +kernel)|exact Xv) ?_;refine X2.round ?_;refine X0g [Bf] (o:=by repeat' first|apply Ya|exact pcM|(decide +kernel)|exact Xv) ?_;refine X2.back (by intro id h;cases h) rfl ?_;revert h;exact λe=>oj e▸X6 [] (o:=by repeat' first|apply Ya|exact pcM|(decide +kernel)|exact Xv) (k:=fi)
 refine brI (λh4=>?_) λh4=>?_
 ·
  intro h;obtain rfl:a0=3:=eq_of_beq h4;refine X0g [Bf] (o:=by repeat' first|apply Ya|exact pcM|(decide +kernel)|exact Xv) ?_;refine X2.inline X3 X041 rfl rfl rfl rfl rfl trivial trivial rfl rfl ?_;refine X0g [Bf,.wrap,.wrap] (o:=by repeat' first|apply Ya|exact pcM|(decide +kernel)|exact Xv) ?_;refine X2.inline X3 X040 rfl rfl rfl rfl rfl trivial trivial rfl rfl ?_;refine X0g [Bf] (o:=by repeat' first|apply Ya|exact pcM|(decide +kernel)|exact Xv) ?_;refine X2.inline X3 X03z rfl rfl rfl rfl rfl trivial trivial rfl rfl ?_;refine X0g [] (o:=by repeat' first|apply Ya|exact pcM|(decide +kernel)|exact Xv) ?_;refine X2.back (by intro id h;cases h) rfl ?_;refine X0g [] (o:=by repeat' first|apply Ya|exact pcM|(decide +kernel)|exact Xv) ?_;refine X2.back (by intro id h;cases h) rfl ?_;refine X0g [Gt,Gt,Bf,.wrap] (o:=by repeat' first|apply Ya|exact pcM|(decide +kernel)|exact((show((8:Nat):Int)*3<=281474976710656 by decide))|exact Xv) ?_;refine X2.copyS [(aI .i64 (-9223372036854775808)),(aI .i64 0),(aI .i64 0)] 1 X3 rfl rfl rfl rfl trivial rfl rfl rfl trivial (.ref rfl (by decide)) rfl rfl rfl rfl rfl rfl rfl rfl ?_;refine X0g [] (o:=by repeat' first|apply Ya|exact pcM|(decide +kernel)|exact Xv) ?_;refine X2.round ?_;refine X0g [Bt,.stop 9] (o:=by repeat' first|apply Ya|exact pcM|(decide +kernel)|exact Xv) ?_;refine X2.drawnCutF 7 tmD [] rfl rfl rfl rfl rfl rfl rfl (by decide) rfl rfl rfl (by decide) (by decide) (by decide) (by decide) rfl rfl rfl rfl rfl rfl rfl (by repeat' first|apply Ya|exact pcM|(decide +kernel)|exact Xv) ?_;refine X0g [] (o:=by repeat' first|apply Ya|exact pcM|(decide +kernel)|exact Xv) ?_;refine X2.copyS [(aI .i64 (-9223372036854775808)),(aI .i64 (-9223372036854775808)),(aI .i64 0)] 1 X3 rfl rfl rfl rfl trivial rfl rfl rfl trivial (.ref rfl (by decide)) rfl rfl rfl rfl rfl rfl rfl rfl ?_;refine X0g [] (o:=by repeat' first|apply Ya|exact pcM|(decide +kernel)|exact Xv) ?_;refine X2.round ?_;refine X0g [Bt,.stop 9] (o:=by repeat' first|apply Ya|exact pcM|(decide +kernel)|exact Xv) ?_;refine X2.drawnCutF 7 tmD [] rfl rfl rfl rfl rfl rfl rfl (by decide) rfl rfl rfl (by decide) (by decide) (by decide) (by decide) rfl rfl rfl rfl rfl rfl rfl (by repeat' first|apply Ya|exact pcM|(decide +kernel)|exact Xv) ?_;refine X0g [] (o:=by repeat' first|apply Ya|exact pcM|(decide +kernel)|exact Xv) ?_;refine X2.copyS [(aI .i64 (-9223372036854775808)),(aI .i64 (-9223372036854775808)),(aI .i64 (-9223372036854775808))] 1 X3 rfl rfl rfl rfl trivial rfl rfl rfl trivial (.ref rfl (by decide)) rfl rfl rfl rfl rfl rfl rfl rfl ?_;refine X0g [] (o:=by repeat' first|apply Ya|exact pcM|(decide +kernel)|exact Xv) ?_;refine X2.round ?_;refine X0g [Bf] (o:=by repeat' first|apply Ya|exact pcM|(decide +kernel)|exact Xv) ?_;refine X2.back (by intro id h;cases h) rfl ?_;revert h;exact λe=>oj e▸X6 [] (o:=by repeat' first|apply Ya|exact pcM|(decide +kernel)|exact Xv) (k:=fi)
 refine brI (λh5=>?_) λh5=>?_
 ·
  intro h;obtain rfl:a0=4:=eq_of_beq h5;refine X0g [Bf] (o:=by repeat' first|apply Ya|exact pcM|(decide +kernel)|exact Xv) ?_;refine X2.inline X3 X041 rfl rfl rfl rfl rfl trivial trivial rfl rfl ?_;refine X0g [Bf,.wrap,.wrap] (o:=by repeat' first|apply Ya|exact pcM|(decide +kernel)|exact Xv) ?_;refine X2.inline X3 X040 rfl rfl rfl rfl rfl trivial trivial rfl rfl ?_;refine X0g [Bf] (o:=by repeat' first|apply Ya|exact pcM|(decide +kernel)|exact Xv) ?_;refine X2.inline X3 X03z rfl rfl rfl rfl rfl trivial trivial rfl rfl ?_;refine X0g [] (o:=by repeat' first|apply Ya|exact pcM|(decide +kernel)|exact Xv) ?_;refine X2.back (by intro id h;cases h) rfl ?_;refine X0g [] (o:=by repeat' first|apply Ya|exact pcM|(decide +kernel)|exact Xv) ?_;refine X2.back (by intro id h;cases h) rfl ?_;refine X0g [Gt,Gt,Bf,.wrap] (o:=by repeat' first|apply Ya|exact pcM|(decide +kernel)|exact((show((8:Nat):Int)*4<=281474976710656 by decide))|exact Xv) ?_;refine X2.copyS [(aI .i64 (-9223372036854775808)),(aI .i64 0),(aI .i64 0),(aI .i64 0)] 1 X3 rfl rfl rfl rfl trivial rfl rfl rfl trivial (.ref rfl (by decide)) rfl rfl rfl rfl rfl rfl rfl rfl ?_;refine X0g [] (o:=by repeat' first|apply Ya|exact pcM|(decide +kernel)|exact Xv) ?_;refine X2.round ?_;refine X0g [Bt,.stop 9] (o:=by repeat' first|apply Ya|exact pcM|(decide +kernel)|exact Xv) ?_;refine X2.drawnCutF 7 tmD [] rfl rfl rfl rfl rfl rfl rfl (by decide) rfl rfl rfl (by decide) (by decide) (by decide) (by decide) rfl rfl rfl rfl rfl rfl rfl (by repeat' first|apply Ya|exact pcM|(decide +kernel)|exact Xv) ?_;refine X0g [] (o:=by repeat' first|apply Ya|exact pcM|(decide +kernel)|exact Xv) ?_;refine X2.copyS [(aI .i64 (-9223372036854775808)),(aI .i64 (-9223372036854775808)),(aI .i64 0),(aI .i64 0)] 1 X3 rfl rfl rfl rfl trivial rfl rfl rfl trivial (.ref rfl (by decide)) rfl rfl rfl rfl rfl rfl rfl rfl ?_;refine X0g [] (o:=by repeat' first|apply Ya|exact pcM|(decide +kernel)|exact Xv) ?_;refine X2.round ?_;refine X0g [Bt,.stop 9] (o:=by repeat' first|apply Ya|exact pcM|(decide +kernel)|exact Xv) ?_;refine X2.drawnCutF 7 tmD [] rfl rfl rfl rfl rfl rfl rfl (by decide) rfl rfl rfl (by decide) (by decide) (by decide) (by decide) rfl rfl rfl rfl rfl rfl rfl (by repeat' first|apply Ya|exact pcM|(decide +kernel)|exact Xv) ?_;refine X0g [] (o:=by repeat' first|apply Ya|exact pcM|(decide +kernel)|exact Xv) ?_;refine X2.copyS [(aI .i64 (-9223372036854775808)),(aI .i64 (-9223372036854775808)),(aI .i64 (-9223372036854775808)),(aI .i64 (-9223372036854775808))] 2 X3 rfl rfl rfl rfl trivial rfl rfl rfl trivial (.ref rfl (by decide)) rfl rfl rfl rfl rfl rfl rfl rfl ?_;refine X0g [] (o:=by repeat' first|apply Ya|exact pcM|(decide +kernel)|exact Xv) ?_;refine X2.round ?_;refine X0g [Bf] (o:=by repeat' first|apply Ya|exact pcM|(decide +kernel)|exact Xv) ?_;refine X2.back (by intro id h;cases h) rfl ?_;revert h;exact λe=>oj e▸X6 [] (o:=by repeat' first|apply Ya|exact pcM|(decide +kernel)|exact Xv) (k:=fi)
 intro h;cases h⟩
instance X08p:PCs Tryz.prog 41 (∀ (a0:Int) (a1:Int) (r:Xk×Int),Xix a0 a1=some r->X0a Tryz.prog 41 [(aI .i64 a0),(aI .i64 a1)] (AV.tup [(Xa true r.1),(aI .i64 r.2)])):=⟨λa0 a1 r h=>by
 refine X0a.sym X3 fn41 (nt:=28) rfl rfl ?_ okM;unfold Xix at h;revert h;exact bI λv1 h2=>brI (λh3=>λe=>oj e▸X6 [.pure _ (AV.tup [(Lt (List.map (aI .i64) v1.1)),(aI .i64 v1.2)]),Bt] (k:=fi)) λh3=>λe=>oj e▸X6 [.pure _ (AV.tup [(Lt (List.map (aI .i64) v1.1)),(aI .i64 v1.2)]),Bf] (k:=fi)⟩
theorem Xlc {Q:X04->St->Mu->Prop} {μ:Mu} (X0c:Int):∀ (n:Nat) (Xh:(List Int)) (Xgk:Int) (X0h:Nb Xh) (o:Xcf) (h:Xc1 X0c n Xh Xgk=some o)
  (C0:∀ (Xp:(List Int)) (X08:Nb Xp),o=Xcf.x0 Xp->X2 Tryz.prog 21 0 Q (.exit (.exit 0)) [] ⟨fr [(4,(slE X08.1 0 (List.map (aI .i64) Xp)))],hp ([]++opE X08.1 0 1 (List.map (aI .i64) Xp)),1⟩ μ),
  X2 Tryz.prog 21 0 Q (.loop (X2p 0 (Xd Tryz.f76))) [] ⟨fr [(0,(aI .i64 X0c)),(4,(slE X0h.1 0 (List.map (aI .i64) Xh))),(5,(aI .i64 Xgk))],hp ([]++opE X0h.1 0 1 (List.map (aI .i64) Xh)),1⟩ μ:=by
 intro n
 induction n with
 |zero=>intro Xh Xgk X0h o h C0;cases h
 |succ n ih =>
  intro Xh Xgk X0h o h C0;rw[Xc1] at h;rcases X0h with ⟨_|_,X2t⟩
  ·
   refine X2.round ?_;revert h;refine brI (λh15=>?_) λh15=>λe=>X6 [Bf] (k:=wkT [] (C0 _  nbF (oj e).symm));refine bI λu16 h17=>rnI [Bt,.no,.wrap] (o:=by repeat' first|apply Ya|exact pcM|(refine X0t h17 rfl ?_;first|(simp<;>omega)|(simp[h15]<;>omega))|(refine X09 h17 (by decide) ?_;first|(simp<;>omega)|(simp[h15]<;>omega))|exact Xv) ?_;intro h;exact wkT [(0,2)] (ih  _ _ nbF o h C0)
  obtain rfl:=X2t rfl;refine X2.round ?_;revert h;refine brI (λh18=>?_) λh18=>λe=>X6 [Bf] (k:=wkT [] (C0 _  nbS (oj e).symm));refine bI λu19 h20=>rnI [Bt,.no,.wrap] (o:=by repeat' first|apply Ya|exact pcM|(refine X0t h20 rfl ?_;first|(simp<;>omega)|(simp[h18]<;>omega))|(refine X09 h20 (by decide) ?_;first|(simp<;>omega)|(simp[h18]<;>omega))|exact Xv) ?_;intro h;exact wkT [(0,2)] (ih  _ _ nbF o h C0)
instance X04s:PCs Tryz.prog 76 (∀ (a0:Int) (r:(List Int)×Int),Xeq a0=some r->X0a Tryz.prog 76 [(aI .i64 a0)] (AV.tup [(Lt (List.map (aI .i64) r.1)),(aI .i64 r.2)])):=⟨λa0 r h=>by
 refine X0a.sym X3 fn76 (nt:=21) rfl rfl ?_ okM;unfold Xeq at h;revert h;refine brI (λh1=>λe=>oj e▸X6 [Bt] (k:=fi)) λh1=>bI λo21 h22=>rnI [Bf] ?_;intro h;refine wkT [] (X2.cut (Xlc a0 _ _ _ nbS _ h22 ?_));intro Xp X08 eo21;subst eo21;refine X2.glue ?_;try dsimp only at h
 rcases X08 with ⟨_|_,X29⟩<;>(try obtain rfl:=X29 rfl);all_goals
  revert h;exact λe=>oj e▸X6 [] (k:=fi)⟩
instance X04r:PCs Tryz.prog 42 (∀ (a0:Int) (a1:Int) (r:Xk×Int),Xcw a0 a1=some r->X0a Tryz.prog 42 [(aI .i64 a0),(aI .i64 a1)] (AV.tup [(Xa true r.1),(aI .i64 r.2)])):=⟨λa0 a1 r h=>by
 refine X0a.sym X3 fn42 (nt:=32) rfl rfl ?_ okM;unfold Xcw at h;revert h;exact brI (λh1=>λe=>oj e▸X6 [Bt] (k:=fi)) λh1=>bI λv2 h3=>λe=>oj e▸X6 [Bf,.pure _ (AV.tup [(Lt (List.map (aI .i64) v2.1)),(aI .i64 v2.2)])] (k:=fi)⟩
instance X08o:PCs Tryz.prog 43 (∀ (a0:X0l) (a1:X1) (r:X0y×Int),Xm7 a0 a1=some r->X0a Tryz.prog 43 [(X0b false a0),(X0 a1)] (AV.tup [(Xg r.1),(aI .i64 r.2)])):=⟨λa0 a1 r h=>by
 refine X0a.sym X3 fn43 (nt:=41) rfl rfl ?_ okM;unfold Xm7 at h;revert h;refine bI λX06d h14=>rnI [.stop 1] ?_;intro h;refine X2.join (s':=⟨fr [(2,(AV.ptr 0 0 0)),(3,(AV.ptr 1 0 0)),(4,(AV.ptr 2 0 0)),(23,(aB X06d))],hp ([(0,Ob [(X0b false a0)] 10),(1,Ob [(X0 a1)] 11),(2,Ob [(Xg (X0y.mk 0 (Xz.mk 0 0) (V2.mk 0 0)))] 5)]),3⟩) ?_ (λJ=>X2.cut ?_)
 ·
  revert h;exact brI (λh15=>λe=>oj e▸X6 [Bt] (k:=fi)) λh15=>bI λv16 h17=>λe=>oj e▸X6 [Bf,.ix 0,.pure _ (AV.tup [(aI .i64 v16.1),(aI .i64 v16.2)])] (k:=fi)
 clear h;revert h14;refine bI λv8 h9=>brI (λh10=>?_) λh10=>?_
 ·
  intro h;obtain rfl:=oj h;exact X6 [.pure _ (aB v8),Gf,Gf,Gf,Gf,Gf,Gf,Gf,Gf,Gf] (o:=by repeat' first|apply Ya|exact pcM|exact fq (X8 h10 rfl)|exact Xv) (k:=wkT [] (X2.glue J))
 refine bI λv11 h12=>brI (λh13=>?_) λh13=>?_
 ·
  intro h;obtain rfl:=oj h;exact X6 [.pure _ (aB v8),Gt,Gt,Gt,.pure _ (aI .i64 v11),Gt,Gf,Gf,Gf,Gf,Gf] (o:=by repeat' first|apply Ya|exact pcM|exact fq (Xb h10 h13)|exact Xv) (k:=wkT [] (X2.glue J))
 intro h;obtain rfl:=oj h;exact X6 [.pure _ (aB v8),Gt,Gt,Gt,.pure _ (aI .i64 v11),Gt,Gt,Gt,.ix 1,Gt,Gt,Gt] (o:=by repeat' first|apply Ya|exact pcM|exact fq (Xb h10 h13)|exact Xv) (k:=wkT [] (X2.glue J))⟩
instance X04q:PCs Tryz.prog 44 (∀ (a0:X0l) (a1:X1) (r:X0y×Int),Xep a0 a1=some r->X0a Tryz.prog 44 [(X0b false a0),(X0 a1)] (AV.tup [(Xg r.1),(aI .i64 r.2)])):=⟨λa0 a1 r h=>by
 refine X0a.sym X3 fn44 (nt:=30) rfl rfl ?_ okM;unfold Xep at h;revert h;refine bI λX06c h16=>rnI [.stop 1] ?_;intro h;refine X2.join (s':=⟨fr [(2,(AV.ptr 0 0 0)),(3,(AV.ptr 1 0 0)),(4,(AV.ptr 2 0 0)),(25,(aB X06c))],hp ([(0,Ob [(X0b false a0)] 10),(1,Ob [(X0 a1)] 11),(2,Ob [(Xg (X0y.mk 0 (Xz.mk 0 0) (V2.mk 0 0)))] 5)]),3⟩) ?_ (λJ=>X2.cut ?_)
 ·
  revert h;exact brI (λh17=>λe=>oj e▸X6 [Bt] (k:=fi)) λh17=>bI λv18 h19=>λe=>oj e▸X6 [Bf,.pure _ (Xg v18)] (k:=fi)
 clear h;revert h16;refine bI λv9 h10=>brI (λh11=>?_) λh11=>?_
 ·
  intro h;obtain rfl:=oj h;exact X6 [.pure _ (aB v9),Gf,Gf,Gf,Gf,Gf,Gf,Gf,Gf,Gf,Gf,Gf] (o:=by repeat' first|apply Ya|exact pcM|exact fq (X8 h11 rfl)|exact fq (X8 (X8 h11 rfl) rfl)|exact Xv) (k:=wkT [] (X2.glue J))
 refine brI (λh12=>?_) λh12=>?_
 ·
  intro h;obtain rfl:=oj h;exact X6 [.pure _ (aB v9),Gt,Gt,Gf,Gf,Gf,Gf,Gf,Gf,Gf,Gf,Gf] (o:=by repeat' first|apply Ya|exact pcM|exact fq (Xb h11 h12)|exact fq (X8 (Xb h11 h12) rfl)|exact Xv) (k:=wkT [] (X2.glue J))
 refine bI λv13 h14=>brI (λh15=>?_) λh15=>?_
 ·
  intro h;obtain rfl:=oj h;exact X6 [.pure _ (aB v9),Gt,Gt,Gt,Gt,Gt,.pure _ (aI .i64 v13),Gt,Gf,Gf,Gf,Gf,Gf] (o:=by repeat' first|apply Ya|exact pcM|exact fq (Xb h11 h12)|exact fq (Xb (Xb h11 h12) h15)|exact Xv) (k:=wkT [] (X2.glue J))
 intro h;obtain rfl:=oj h;exact X6 [.pure _ (aB v9),Gt,Gt,Gt,Gt,Gt,.pure _ (aI .i64 v13),Gt,Gt,Gt,.ix 1,Gt,Gt,Gt] (o:=by repeat' first|apply Ya|exact pcM|exact fq (Xb h11 h12)|exact fq (Xb (Xb h11 h12) h15)|exact Xv) (k:=wkT [] (X2.glue J))⟩
theorem Xer {Q:X04->St->Mu->Prop} {μ:Mu} (X0c:(List X03)) (Xa6:(List X03)) (hl:X0c.length<=140737488355328):∀ (xs:List X03) (k:Nat) (hx:X0c.drop k=xs) (o:X4d) (h:X2e X0c Xa6 xs k  = some o)
  (C0:o=X4d.x0->X2 Tryz.prog 26 0 Q (.exit (.exit 0)) [] ⟨fr [],hp ([]),0⟩ μ)
  (C1:o=X4d.x1->X2 Tryz.prog 26 0 Q (.exit .ret) [] ⟨fr [(4,(aB false))],hp ([]),0⟩ μ),
  X2 Tryz.prog 26 0 Q (.loop (X2p 0 (Xd Tryz.f53))) [] ⟨fr [(0,(Lf (X0c.map Xf))),(1,(Lf (Xa6.map Xf))),(5,(aI .i64 (k:Int)))],hp ([]),0⟩ μ:=by
 intro xs
 induction xs with
 |nil =>
  intro k hx  o h C0 C1;have hk:=X1f hx;have hc:decide ((k:Int)<(X0c.length:Int))=false:=Yf om;rw[X2e] at h;refine X2.round ?_;revert h;exact λe=>X6 [.el (aI .i64 (X0c.length:Int)),Bf] (k:=wkT [] (C0  (oj e).symm))
 |cons x xs ih =>
  intro k hx  o h C0 C1;obtain⟨hk,hg,hx1⟩:=X0u hx;have hc:decide ((k:Int)<(X0c.length:Int))=true:=Yt om;rw[X2e] at h;refine X2.round ?_;revert h;refine bI λe11 h12=>?_;try have qh12:=Xm h12
  refine brI (λh13=>λe=>X6 [.el (aI .i64 (X0c.length:Int)),Bt,.el (Xf x),.el (Xf e11),Bt] (k:=wkT [] (C1  (oj e).symm))) λh13=>rnI [.el (aI .i64 (X0c.length:Int)),Bt,.el (Xf x),.el (Xf e11),Bf] ?_;intro h;exact wkT [] (ih (k+1) hx1  o h C0 C1)
instance Xtt:PCs Tryz.prog 53 (∀ (a0:(List X03)) (a1:(List X03)) (r:Bool),X5m a0 a1=some r->X0a Tryz.prog 53 [(Lf (a0.map Xf)),(Lf (a1.map Xf))] (aB r)):=⟨λa0 a1 r h=>by
 refine X0a.sym X3 fn53 (nt:=26) rfl rfl ?_ okM;unfold X5m at h;revert h;refine brI (λh1=>λe=>oj e▸X6 [.el (aI .i64 (a0.length:Int)),.el (aI .i64 (a1.length:Int)),Bt] (k:=fi)) λh1=>bI λu2 h3=>?_;have qh3:=X0v h3;refine bI λo14 h15=>rnI [.el (aI .i64 (a0.length:Int)),.el (aI .i64 (a1.length:Int)),Bf] ?_;intro h;refine wkT [] (X2.cut (Xer a0 a1 qh3 a0 0 (by simp) _ h15 ?_ ?_))
 ·
  intro eo14;subst eo14;refine X2.glue ?_;try dsimp only at h
  revert h;exact λe=>oj e▸X6 [] (k:=fi)
 intro eo14;subst eo14;refine X2.glue ?_;try dsimp only at h
 revert h;exact λe=>oj e▸X6 [] (k:=fi)⟩
theorem Xjz {Q:X04->St->Mu->Prop} {μ:Mu} (Xh:Xk) (Xq:Xk):∀ (n:Nat) (Xgk:Int) (o:X7v) (h:X4s Xh Xq n Xgk=some o)
  (C0:o=X7v.x0->X2 Tryz.prog 165 0 Q (.exit .ret) [] ⟨fr [(4,(aB false))],hp ([]),0⟩ μ)
  (C1:o=X7v.x1->X2 Tryz.prog 165 0 Q (.exit (.exit 0)) [] ⟨fr [(2,(AV.ptr 0 0 0)),(3,(AV.ptr 1 0 0))],hp ([(0,Ob [(Xa false Xh)] 9),(1,Ob [(Xa false Xq)] 9)]),2⟩ μ),
  X2 Tryz.prog 165 0 Q (.loop (X2p 0 (Xd Tryz.f23))) [] ⟨fr [(2,(AV.ptr 0 0 0)),(3,(AV.ptr 1 0 0)),(5,(aI .i64 Xgk))],hp ([(0,Ob [(Xa false Xh)] 9),(1,Ob [(Xa false Xq)] 9)]),2⟩ μ:=by
 intro n
 induction n with
 |zero=>intro Xgk o h C0 C1;cases h
 |succ n ih =>
  intro Xgk o h C0 C1;rw[X4s] at h;refine X2.round ?_;revert h;refine brI (λh35=>?_) λh35=>λe=>X6 [.el (aI .i64 (Xh.Marks.length:Int)),Bf] (k:=wkT [] (C1  (oj e).symm));refine bI λe36 h37=>?_;try have qh37:=Xm h37
  refine bI λe38 h39=>?_;try have qh39:=Xm h39
  refine brI (λh40=>λe=>X6 [.el (aI .i64 (Xh.Marks.length:Int)),Bt,.el (aI .i64 e36),.el (aI .i64 e38),Bt] (k:=wkT [] (C0  (oj e).symm))) λh40=>rnI [.el (aI .i64 (Xh.Marks.length:Int)),Bt,.el (aI .i64 e36),.el (aI .i64 e38),Bf,.wrap] ?_;intro h;exact wkT [] (ih  _ o h C0 C1)
theorem Xjy {Q:X04->St->Mu->Prop} {μ:Mu} (X2c:Xk) (X9e:Xk):∀ (n:Nat) (y1_6:Int) (o:X7u) (h:X4r X2c X9e n y1_6=some o)
  (C0:o=X7u.x0->X2 Tryz.prog 165 0 Q (.exit .ret) [] ⟨fr [(4,(aB false))],hp ([]),0⟩ μ)
  (C1:o=X7u.x1->X2 Tryz.prog 165 0 Q (.exit (.exit 2)) [] ⟨fr [(2,(AV.ptr 0 0 0)),(3,(AV.ptr 1 0 0))],hp ([(0,Ob [(Xa false X2c)] 9),(1,Ob [(Xa false X9e)] 9)]),2⟩ μ),
  X2 Tryz.prog 165 0 Q (.loop (X2p 1 (Xd Tryz.f23))) [] ⟨fr [(2,(AV.ptr 0 0 0)),(3,(AV.ptr 1 0 0)),(6,(aI .i64 y1_6))],hp ([(0,Ob [(Xa false X2c)] 9),(1,Ob [(Xa false X9e)] 9)]),2⟩ μ:=by
 intro n
 induction n with
 |zero=>intro y1_6 o h C0 C1;cases h
 |succ n ih =>
  intro y1_6 o h C0 C1;rw[X4r] at h;refine X2.round ?_;revert h;refine brI (λh56=>?_) λh56=>λe=>X6 [.el (aI .i64 (X2c.Store.length:Int)),Bf] (k:=wkT [] (C1  (oj e).symm));refine bI λe57 h58=>?_;try have qh58:=Xm h58
  refine bI λe59 h60=>?_;try have qh60:=Xm h60
  refine brI (λh61=>λe=>X6 [.el (aI .i64 (X2c.Store.length:Int)),Bt,.el (X0 e57),.el (X0 e59),Bt] (k:=wkT [] (C0  (oj e).symm))) λh61=>rnI [.el (aI .i64 (X2c.Store.length:Int)),Bt,.el (X0 e57),.el (X0 e59),Bf,.wrap] ?_;intro h;exact wkT [] (ih  _ o h C0 C1)
theorem Xjx {Q:X04->St->Mu->Prop} {μ:Mu} (X4j:Xk) (Xuo:Xk):∀ (n:Nat) (Xpb:Int) (o:X7t) (h:X4q X4j Xuo n Xpb=some o)
  (C0:o=X7t.x0->X2 Tryz.prog 165 0 Q (.exit .ret) [] ⟨fr [(4,(aB false))],hp ([]),0⟩ μ)
  (C1:o=X7t.x1->X2 Tryz.prog 165 0 Q (.exit (.exit 4)) [] ⟨fr [(2,(AV.ptr 0 0 0)),(3,(AV.ptr 1 0 0))],hp ([(0,Ob [(Xa false X4j)] 9),(1,Ob [(Xa false Xuo)] 9)]),2⟩ μ),
  X2 Tryz.prog 165 0 Q (.loop (X2p 2 (Xd Tryz.f23))) [] ⟨fr [(2,(AV.ptr 0 0 0)),(3,(AV.ptr 1 0 0)),(7,(aI .i64 Xpb))],hp ([(0,Ob [(Xa false X4j)] 9),(1,Ob [(Xa false Xuo)] 9)]),2⟩ μ:=by
 intro n
 induction n with
 |zero=>intro Xpb o h C0 C1;cases h
 |succ n ih =>
  intro Xpb o h C0 C1;rw[X4q] at h;refine X2.round ?_;revert h;refine brI (λh77=>?_) λh77=>λe=>X6 [.el (aI .i64 (X4j.Events.length:Int)),Bf] (k:=wkT [] (C1  (oj e).symm));refine bI λe78 h79=>?_;try have qh79:=Xm h79
  refine bI λe80 h81=>?_;try have qh81:=Xm h81
  refine brI (λh82=>λe=>X6 [.el (aI .i64 (X4j.Events.length:Int)),Bt,.el (X7 e78),.el (X7 e80),Bt] (k:=wkT [] (C0  (oj e).symm))) λh82=>rnI [.el (aI .i64 (X4j.Events.length:Int)),Bt,.el (X7 e78),.el (X7 e80),Bf,.wrap] ?_;intro h;exact wkT [] (ih  _ o h C0 C1)
theorem Xjw {Q:X04->St->Mu->Prop} {μ:Mu} (X8h:Xk) (Xun:Xk):∀ (n:Nat) (y3_8:Int) (o:X7s) (h:X4p X8h Xun n y3_8=some o)
  (C0:o=X7s.x0->X2 Tryz.prog 165 0 Q (.exit .ret) [] ⟨fr [(4,(aB false))],hp ([]),0⟩ μ)
  (C1:o=X7s.x1->X2 Tryz.prog 165 0 Q (.exit (.exit 6)) [] ⟨fr [(2,(AV.ptr 0 0 0)),(3,(AV.ptr 1 0 0))],hp ([(0,Ob [(Xa false X8h)] 9),(1,Ob [(Xa false Xun)] 9)]),2⟩ μ),
  X2 Tryz.prog 165 0 Q (.loop (X2p 3 (Xd Tryz.f23))) [] ⟨fr [(2,(AV.ptr 0 0 0)),(3,(AV.ptr 1 0 0)),(8,(aI .i64 y3_8))],hp ([(0,Ob [(Xa false X8h)] 9),(1,Ob [(Xa false Xun)] 9)]),2⟩ μ:=by
 intro n
 induction n with
 |zero=>intro y3_8 o h C0 C1;cases h
 |succ n ih =>
  intro y3_8 o h C0 C1;rw[X4p] at h;refine X2.round ?_;revert h;refine brI (λh98=>?_) λh98=>λe=>X6 [.el (aI .i64 (X8h.Rows.length:Int)),Bf] (k:=wkT [] (C1  (oj e).symm));refine bI λe99 h100=>?_;try have qh100:=Xm h100
  refine bI λe101 h102=>?_;try have qh102:=Xm h102
  refine brI (λh103=>λe=>X6 [.el (aI .i64 (X8h.Rows.length:Int)),Bt,.el (Xg e99),.el (Xg e101),Bt] (k:=wkT [] (C0  (oj e).symm))) λh103=>rnI [.el (aI .i64 (X8h.Rows.length:Int)),Bt,.el (Xg e99),.el (Xg e101),Bf,.wrap] ?_;intro h;exact wkT [] (ih  _ o h C0 C1)
theorem Xjv {Q:X04->St->Mu->Prop} {μ:Mu} (Xe4:Xk) (Xwq:Xk):∀ (n:Nat) (y4_9:Int) (o:X7r) (h:X4o Xe4 Xwq n y4_9=some o)
  (C0:o=X7r.x0->X2 Tryz.prog 165 0 Q (.exit .ret) [] ⟨fr [(4,(aB false))],hp ([]),0⟩ μ)
  (C1:o=X7r.x1->X2 Tryz.prog 165 0 Q (.exit (.exit 8)) [] ⟨fr [],hp ([]),0⟩ μ),
  X2 Tryz.prog 165 0 Q (.loop (X2p 4 (Xd Tryz.f23))) [] ⟨fr [(2,(AV.ptr 0 0 0)),(3,(AV.ptr 1 0 0)),(9,(aI .i64 y4_9))],hp ([(0,Ob [(Xa false Xe4)] 9),(1,Ob [(Xa false Xwq)] 9)]),2⟩ μ:=by
 intro n
 induction n with
 |zero=>intro y4_9 o h C0 C1;cases h
 |succ n ih =>
  intro y4_9 o h C0 C1;rw[X4o] at h;refine X2.round ?_;revert h;refine brI (λh119=>?_) λh119=>λe=>X6 [.el (aI .i64 (Xe4.Late.length:Int)),Bf] (k:=wkT [] (C1  (oj e).symm));refine bI λe120 h121=>?_;try have qh121:=Xm h121
  refine bI λe122 h123=>?_;try have qh123:=Xm h123
  refine brI (λh124=>λe=>X6 [.el (aI .i64 (Xe4.Late.length:Int)),Bt,.el (X5 e120),.el (X5 e122),Bt] (k:=wkT [] (C0  (oj e).symm))) λh124=>rnI [.el (aI .i64 (Xe4.Late.length:Int)),Bt,.el (X5 e120),.el (X5 e122),Bf,.wrap] ?_;intro h;exact wkT [] (ih  _ o h C0 C1)
end Go.Av.Tryz