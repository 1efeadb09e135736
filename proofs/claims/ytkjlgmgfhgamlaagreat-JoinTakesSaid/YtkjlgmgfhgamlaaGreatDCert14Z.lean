/- Printed by decomp.py: that the program computes the functions. -/
import Derived.Test.YtkjlgmgfhgamlaaGreatDCert13Z
set_option linter.all false

namespace Go.Av.Tryz
open Go.Proofs Go.D
set_option maxRecDepth 10000
set_option maxHeartbeats 40000000
theorem Xc4 {Q:X03->St->Mu->Prop} {μ:Mu} (Xmh:(List X1)) (X2c:(List X1)) (Xpe:Int) (Xoe:Nb X2c):∀ (n:Nat) (Xwc:Int) (o:X8w) (h:X4g Xmh X2c Xpe n Xwc=some o)
  (C0:∀ (X3w:(List X1)) (Xcn:Int) (Xal:Nb X3w),o=X8w.x0 X3w Xcn->X2 Tryz.prog 59 0 Q (.exit (.exit 2)) [] ⟨fr [(0,(Lf (Xmh.map X0))),(3,(slE Xal.1 0 (X3w.map X0))),(4,(aI .i64 Xpe)),(5,(aI .i64 Xcn))],hp ([]++opE Xal.1 0 11 (X3w.map X0)),1⟩ μ),
  X2 Tryz.prog 59 0 Q (.loop (X2o 1 (Xd Tryz.f142))) [] ⟨fr [(0,(Lf (Xmh.map X0))),(3,(slE Xoe.1 0 (X2c.map X0))),(4,(aI .i64 Xpe)),(5,(aI .i64 Xwc))],hp ([]++opE Xoe.1 0 11 (X2c.map X0)),1⟩ μ:=by
 intro n
 induction n with
 |zero=>intro Xwc o h C0;cases h
 |succ n ih =>
  intro Xwc o h C0;rw[X4g] at h;rcases Xoe with ⟨_|_,X043⟩
  ·
   refine X2.round ?_;revert h;refine bI λXs1 h608=>rnI [.stop 6] ?_;intro h;refine X2.join (s':=⟨fr [(0,(Lf (Xmh.map X0))),(3,(AV.ref 0 0 (X2c.length))),(4,(aI .i64 Xpe)),(5,(aI .i64 Xwc)),(28,(aB Xs1))],hp ([(0,Ob (X2c.map X0) 11)]),1⟩) ?_ (λJ=>X2.cut ?_)
   ·
    revert h;refine brI (λh609=>?_) λh609=>λe=>X6 [Bf] (k:=wkT [] (C0 _ _  nbF (oj e).symm));refine rnI [Bt,.wrap] ?_;intro h;exact wkT [] (ih  _ o h C0)
   clear h;revert h608;refine brI (λh601=>?_) λh601=>?_
   ·
    refine bI λe602 h603=>?_;try have qh603:=Xl h603
    refine bI λe604 h605=>?_;try have qh605:=Xl h605
    refine bI λv606 h607=>?_;intro h;obtain rfl:=oj h;exact X6 [Gt,Gt,Gt,.el (X0 e602),Gt,Gt,Gt,Gt,.wrap,Gt,.el (X0 e604),Gt,.ld (X0 e604),Gt,.pure _ (aB v606)] (k:=wkT [] (X2.glue J))
   intro h;obtain rfl:=oj h;exact X6 [Gf,Gf,Gf,Gf,Gf,Gf,Gf,Gf,Gf,Gf,Gf] (k:=wkT [] (X2.glue J))
  obtain rfl:=X043 rfl;refine X2.round ?_;revert h;refine bI λX06v h621=>rnI [.stop 6] ?_;intro h;refine X2.join (s':=⟨fr [(0,(Lf (Xmh.map X0))),(3,AV.nils),(4,(aI .i64 Xpe)),(5,(aI .i64 Xwc)),(28,(aB X06v))],hp ([]),1⟩) ?_ (λJ=>X2.cut ?_)
  ·
   revert h;refine brI (λh622=>?_) λh622=>λe=>X6 [Bf] (k:=wkT [] (C0 _ _  nbS (oj e).symm));refine rnI [Bt,.wrap] ?_;intro h;exact wkT [] (ih  _ o h C0)
  clear h;revert h621;refine brI (λh616=>?_) λh616=>?_
  ·
   refine bI λe617 h618=>?_;try have qh618:=Xl h618
   refine bI λe619 h620=>?_;try have qh620:=Xl h620
   intro h
   first|exact absurd (h620) (by simp[X15];done)|(simp[X15,h616] at h;done)|exact absurd (h620) (by simp[X15,h616];done)
  intro h;obtain rfl:=oj h;exact X6 [Gf,Gf,Gf,Gf,Gf,Gf,Gf,Gf,Gf,Gf,Gf] (k:=wkT [] (X2.glue J))
theorem X5g {Q:X03->St->Mu->Prop} {μ:Mu} (Xur:(List X1)) (y2_4:Int) (Xr1:Int):∀ (n:Nat) (X4k:(List X1)) (Xpc:Int) (Xha:Nb X4k) (o:X8v) (h:X4f Xur y2_4 Xr1 n X4k Xpc=some o)
  (C0:∀ (X9n:(List X1)) (X59:Nb X9n),o=X8v.x0 X9n->X2 Tryz.prog 59 0 Q (.exit (.exit 4)) [] ⟨fr [(0,(Lf (Xur.map X0))),(3,(slE X59.1 0 (X9n.map X0))),(4,(aI .i64 y2_4)),(5,(aI .i64 Xr1))],hp ([]++opE X59.1 0 11 (X9n.map X0)),1⟩ μ),
  X2 Tryz.prog 59 0 Q (.loop (X2o 2 (Xd Tryz.f142))) [] ⟨fr [(0,(Lf (Xur.map X0))),(3,(slE Xha.1 0 (X4k.map X0))),(4,(aI .i64 y2_4)),(5,(aI .i64 Xr1)),(6,(aI .i64 Xpc))],hp ([]++opE Xha.1 0 11 (X4k.map X0)),1⟩ μ:=by
 intro n
 induction n with
 |zero=>intro X4k Xpc Xha o h C0;cases h
 |succ n ih =>
  intro X4k Xpc Xha o h C0;rw[X4f] at h;rcases Xha with ⟨_|_,X042⟩
  ·
   refine X2.round ?_;revert h;refine brI (λh644=>?_) λh644=>λe=>X6 [Bf] (k:=wkT [] (C0 _  nbF (oj e).symm));refine bI λe645 h646=>?_;try have qh646:=Xl h646
   refine bI λe647 h648=>?_;try have qh648:=Xl h648
   refine rnI [Bt,.wrap,.el (X0 e645),.ld (X0 e645),.el (X0 e647),.ld (X0 e647),.wrap] (o:=by repeat' first|apply Ya|exact pcM|exact(List.getElem?_set_self (by have hq:=X3u h648;simp;omega)).trans rfl|exact Xu) ?_;intro h;exact wkT [] (ih  _ _ nbF o h C0)
  obtain rfl:=X042 rfl;refine X2.round ?_;revert h;refine brI (λh649=>?_) λh649=>λe=>X6 [Bf] (k:=wkT [] (C0 _  nbS (oj e).symm));refine bI λe650 h651=>?_;try have qh651:=Xl h651
  intro h
  first|exact absurd (h651) (by simp[X15];done)|(simp[X15,h649] at h;done)|exact absurd (h651) (by simp[X15,h649];done)
theorem Xh0 {Q:X03->St->Mu->Prop} {μ:Mu} (X0c:(List X1)) (hl:X0c.length<=140737488355328):∀ (xs:List X1) (k:Nat) (hx:X0c.drop k=xs) (Xh:(List X1)) (X0h:Nb Xh) (o:X8x) (h:X3i X0c xs k Xh=some o)
  (C0:∀ (Xq:(List X1)) (X06:Nb Xq),o=X8x.x0 Xq->X2 Tryz.prog 59 0 Q (.exit (.exit 0)) [] ⟨fr [(3,(slE X06.1 0 (Xq.map X0)))],hp ([]++opE X06.1 0 11 (Xq.map X0)),1⟩ μ),
  X2 Tryz.prog 59 0 Q (.loop (X2o 0 (Xd Tryz.f142))) [] ⟨fr [(0,(Lf (X0c.map X0))),(3,(slE X0h.1 0 (Xh.map X0))),(4,(aI .i64 (k:Int)))],hp ([]++opE X0h.1 0 11 (Xh.map X0)),1⟩ μ:=by
 intro xs
 induction xs with
 |nil =>
  intro k hx Xh X0h o h C0;have hk:=X1g hx;have hc:decide ((k:Int)<(X0c.length:Int))=false:=Yf om;rw[X3i] at h;rcases X0h with ⟨_|_,X2s⟩
  ·
   refine X2.round ?_;revert h;exact λe=>X6 [.el (aI .i64 (X0c.length:Int)),Bf] (k:=wkT [] (C0 _  nbF (oj e).symm))
  ·
   obtain rfl:=X2s rfl;refine X2.round ?_;revert h;exact λe=>X6 [.el (aI .i64 (X0c.length:Int)),Bf] (k:=wkT [] (C0 _  nbS (oj e).symm))
 |cons x xs ih =>
  intro k hx Xh X0h o h C0;obtain⟨hk,hg,hx1⟩:=X0u hx;have hc:decide ((k:Int)<(X0c.length:Int))=true:=Yt om;rw[X3i] at h;rcases X0h with ⟨_|_,X2s⟩
  ·
   refine X2.round ?_;revert h;refine bI λo623 h624=>rnI [.el (aI .i64 (X0c.length:Int)),Bt,.el (aI .i64 (Xh.length:Int))] ?_;intro h;refine wkT [] (X2.cut (Xc4 X0c Xh (k:Int) nbF _ _ _ h624 ?_));intro X3w Xcn Xal eo623;subst eo623;refine X2.glue ?_;try dsimp only at h
   rcases Xal with ⟨_|_,Xir⟩
   ·
    revert h;refine bI λu625 h626=>bI λo652 h653=>rnI [.no,.el (aI .i64 (List.length (X3w++[(X1.mk 0 (Xy.mk 0 0) (V2.mk (Xm.mk 0 0 0 0) (Xm.mk 0 0 0 0)))]):Int)),.wrap] (o:=by repeat' first|apply Ya|exact pcM|(refine X0r h626 rfl ?_;first|(simp<;>omega)|(simp[hc]<;>omega))|(refine X08 h626 (by decide) ?_;first|(simp<;>omega)|(simp[hc]<;>omega))|exact Xu) ?_;intro h;refine wkT [(0,2)] (X2.cut (X5g X0c (k:Int) Xcn _ _ _ nbF _ h653 ?_));intro X9n X59 eo652;subst eo652;refine X2.glue ?_;try dsimp only at h
    rcases X59 with ⟨_|_,X96⟩
    ·
     revert h;refine bI λe654 h655=>?_;try have qh655:=Xl h655
     refine rnI [.el (X0 x),.el (X0 e654),.ld (X0 e654)] (o:=by repeat' first|apply Ya|exact pcM|(refine X0r h626 rfl ?_;first|(simp<;>omega)|(simp[hc]<;>omega))|(refine X08 h626 (by decide) ?_;first|(simp<;>omega)|(simp[hc]<;>omega))|exact(List.getElem?_set_self (by have hq:=X3u h655;simp;omega)).trans rfl|exact Xu) ?_;intro h;exact wkT [] (ih (k+1) hx1 _ nbF o h C0)
    obtain rfl:=X96 rfl;revert h;refine bI λe656 h657=>?_;try have qh657:=Xl h657
    intro h
    first|exact absurd (h657) (by simp[X15];done)|(simp[X15,hc] at h;done)|exact absurd (h657) (by simp[X15,hc];done)
   obtain rfl:=Xir rfl;revert h;refine bI λu658 h659=>bI λo677 h678=>rnI [.no,.el (aI .i64 (List.length (([]:List X1)++[(X1.mk 0 (Xy.mk 0 0) (V2.mk (Xm.mk 0 0 0 0) (Xm.mk 0 0 0 0)))]):Int)),.wrap] (o:=by repeat' first|apply Ya|exact pcM|(refine X0r h659 rfl ?_;first|(simp<;>omega)|(simp[hc]<;>omega))|(refine X08 h659 (by decide) ?_;first|(simp<;>omega)|(simp[hc]<;>omega))|exact Xu) ?_;intro h;refine wkT [(0,2)] (X2.cut (X5g X0c (k:Int) Xcn _ _ _ nbF _ h678 ?_));intro X9n X59 eo677;subst eo677;refine X2.glue ?_;try dsimp only at h
   rcases X59 with ⟨_|_,X96⟩
   ·
    revert h;refine bI λe679 h680=>?_;try have qh680:=Xl h680
    refine rnI [.el (X0 x),.el (X0 e679),.ld (X0 e679)] (o:=by repeat' first|apply Ya|exact pcM|(refine X0r h659 rfl ?_;first|(simp<;>omega)|(simp[hc]<;>omega))|(refine X08 h659 (by decide) ?_;first|(simp<;>omega)|(simp[hc]<;>omega))|exact(List.getElem?_set_self (by have hq:=X3u h680;simp;omega)).trans rfl|exact Xu) ?_;intro h;exact wkT [] (ih (k+1) hx1 _ nbF o h C0)
   obtain rfl:=X96 rfl;revert h;refine bI λe681 h682=>?_;try have qh682:=Xl h682
   intro h
   first|exact absurd (h682) (by simp[X15];done)|(simp[X15,hc] at h;done)|exact absurd (h682) (by simp[X15,hc];done)
  obtain rfl:=X2s rfl;refine X2.round ?_;revert h;refine bI λo744 h745=>rnI [.el (aI .i64 (X0c.length:Int)),Bt,.el (aI .i64 (List.length ([]:List X1):Int))] ?_;intro h;refine wkT [] (X2.cut (Xc4 X0c ([]:List X1) (k:Int) nbS _ _ _ h745 ?_));intro X3w Xcn Xal eo744;subst eo744;refine X2.glue ?_;try dsimp only at h
  rcases Xal with ⟨_|_,Xir⟩
  ·
   revert h;refine bI λu746 h747=>bI λo765 h766=>rnI [.no,.el (aI .i64 (List.length (X3w++[(X1.mk 0 (Xy.mk 0 0) (V2.mk (Xm.mk 0 0 0 0) (Xm.mk 0 0 0 0)))]):Int)),.wrap] (o:=by repeat' first|apply Ya|exact pcM|(refine X0r h747 rfl ?_;first|(simp<;>omega)|(simp[hc]<;>omega))|(refine X08 h747 (by decide) ?_;first|(simp<;>omega)|(simp[hc]<;>omega))|exact Xu) ?_;intro h;refine wkT [(0,2)] (X2.cut (X5g X0c (k:Int) Xcn _ _ _ nbF _ h766 ?_));intro X9n X59 eo765;subst eo765;refine X2.glue ?_;try dsimp only at h
   rcases X59 with ⟨_|_,X96⟩
   ·
    revert h;refine bI λe767 h768=>?_;try have qh768:=Xl h768
    refine rnI [.el (X0 x),.el (X0 e767),.ld (X0 e767)] (o:=by repeat' first|apply Ya|exact pcM|(refine X0r h747 rfl ?_;first|(simp<;>omega)|(simp[hc]<;>omega))|(refine X08 h747 (by decide) ?_;first|(simp<;>omega)|(simp[hc]<;>omega))|exact(List.getElem?_set_self (by have hq:=X3u h768;simp;omega)).trans rfl|exact Xu) ?_;intro h;exact wkT [] (ih (k+1) hx1 _ nbF o h C0)
   obtain rfl:=X96 rfl;revert h;refine bI λe769 h770=>?_;try have qh770:=Xl h770
   intro h
   first|exact absurd (h770) (by simp[X15];done)|(simp[X15,hc] at h;done)|exact absurd (h770) (by simp[X15,hc];done)
  obtain rfl:=Xir rfl;revert h;refine bI λu771 h772=>bI λo790 h791=>rnI [.no,.el (aI .i64 (List.length (([]:List X1)++[(X1.mk 0 (Xy.mk 0 0) (V2.mk (Xm.mk 0 0 0 0) (Xm.mk 0 0 0 0)))]):Int)),.wrap] (o:=by repeat' first|apply Ya|exact pcM|(refine X0r h772 rfl ?_;first|(simp<;>omega)|(simp[hc]<;>omega))|(refine X08 h772 (by decide) ?_;first|(simp<;>omega)|(simp[hc]<;>omega))|exact Xu) ?_;intro h;refine wkT [(0,2)] (X2.cut (X5g X0c (k:Int) Xcn _ _ _ nbF _ h791 ?_));intro X9n X59 eo790;subst eo790;refine X2.glue ?_;try dsimp only at h
  rcases X59 with ⟨_|_,X96⟩
  ·
   revert h;refine bI λe792 h793=>?_;try have qh793:=Xl h793
   refine rnI [.el (X0 x),.el (X0 e792),.ld (X0 e792)] (o:=by repeat' first|apply Ya|exact pcM|(refine X0r h772 rfl ?_;first|(simp<;>omega)|(simp[hc]<;>omega))|(refine X08 h772 (by decide) ?_;first|(simp<;>omega)|(simp[hc]<;>omega))|exact(List.getElem?_set_self (by have hq:=X3u h793;simp;omega)).trans rfl|exact Xu) ?_;intro h;exact wkT [] (ih (k+1) hx1 _ nbF o h C0)
  obtain rfl:=X96 rfl;revert h;refine bI λe794 h795=>?_;try have qh795:=Xl h795
  intro h
  first|exact absurd (h795) (by simp[X15];done)|(simp[X15,hc] at h;done)|exact absurd (h795) (by simp[X15,hc];done)
instance Xb9:PCs Tryz.prog 142 (∀ (a0:(List X1)) (r:(List X1)),X7g a0=some r->X0b Tryz.prog 142 [(Lf (a0.map X0))] (Lt (r.map X0))):=⟨λa0 r h=>by
 refine X0b.sym X3 X0ct (nt:=59) rfl rfl ?_ okM;unfold X7g at h;revert h;refine bI λu1 h2=>?_;have qh2:=X0v h2;refine bI λo796 h797=>rnI [] ?_;intro h;refine wkT [] (X2.cut (Xh0 a0 qh2 a0 0 (by simp) _ nbS _ h797 ?_));intro Xq X06 eo796;subst eo796;refine X2.glue ?_;try dsimp only at h
 rcases X06 with ⟨_|_,X29⟩<;>(try obtain rfl:=X29 rfl);all_goals
  revert h;exact λe=>oj e▸X6 [] (k:=fi)⟩
instance Xge:PCs Tryz.prog 184 (∀ (a0:Int) (a1:Int) (r:Int),Xff a0 a1=some r->X0b Tryz.prog 184 [(aI .i64 a0),(aI .i64 a1)] (aI .i64 r)):=⟨λa0 a1 r h=>by
 refine X0b.sym X3 X0bz (nt:=18) rfl rfl ?_ okM;unfold Xff at h;revert h;exact bI λu1 h2=>λe=>oj e▸X6 [.wrap,.wrap,.wrap,.wrap,.wrap,.wrap] (k:=fi)⟩
instance X06a:PCs Tryz.prog 163 (∀ (a0:Int) (a1:Int) (r:Xy×Int),Xh5 a0 a1=some r->X0b Tryz.prog 163 [(aI .i64 a0),(aI .i64 a1)] (AV.tup [(Xr r.1),(aI .i64 r.2)])):=⟨λa0 a1 r h=>by
 refine X0b.sym X3 X0cf (nt:=25) rfl rfl ?_ okM;unfold Xh5 at h;revert h;exact bI λv1 h2=>brI (λh3=>λe=>oj e▸X6 [.pure _ (aI .i64 v1),Bt,.pure _ (aI .i64 v1)] (k:=fi)) λh3=>bI λv4 h5=>λe=>oj e▸X6 [.pure _ (aI .i64 v1),Bf,.pure _ (aI .i64 v4),.wrap,.wrap] (k:=fi)⟩
theorem Xgd {Q:X03->St->Mu->Prop} {μ:Mu} (X0c:Int) (Xa8:Int) (Xfv:Int) (Xr2:Int):∀ (n:Nat) (Xh:(List Xy)) (Xef:Int) (X0h:Nb Xh) (o:X80) (h:X30 X0c Xa8 Xfv Xr2 n Xh Xef=some o)
  (C0:∀ (Xq:(List Xy)) (X06:Nb Xq),o=X80.x0 Xq->X2 Tryz.prog 48 0 Q (.exit (.exit 0)) [] ⟨fr [(8,(slE X06.1 0 (Xq.map Xr)))],hp ([]++opE X06.1 0 2 (Xq.map Xr)),1⟩ μ),
  X2 Tryz.prog 48 0 Q (.loop (X2o 0 (Xd Tryz.f164))) [] ⟨fr [(0,(aI .i64 X0c)),(1,(aI .i64 Xa8)),(2,(aI .i64 Xfv)),(7,(aI .i64 Xr2)),(8,(slE X0h.1 0 (Xh.map Xr))),(9,(aI .i64 Xef))],hp ([]++opE X0h.1 0 2 (Xh.map Xr)),1⟩ μ:=by
 intro n
 induction n with
 |zero=>intro Xh Xef X0h o h C0;cases h
 |succ n ih =>
  intro Xh Xef X0h o h C0;rw[X30] at h;rcases X0h with ⟨_|_,X2s⟩
  ·
   refine X2.round ?_;revert h;refine brI (λh40=>?_) λh40=>λe=>X6 [.wrap,Bf] (k:=wkT [] (C0 _  nbF (oj e).symm));refine bI λXq8 h48=>rnI [.wrap,Bt,.wrap,.wrap,.wrap] ?_;intro h;refine X2.joinF (λ(q:Nb Xq8)=>⟨fr [(0,(aI .i64 X0c)),(1,(aI .i64 Xa8)),(2,(aI .i64 Xfv)),(7,(aI .i64 Xr2)),(8,(slE q.1 0 (Xq8.map Xr))),(9,(aI .i64 Xef))],hp ([]++opE q.1 0 2 (Xq8.map Xr)),1⟩) ?_ (λJ=>X2.cut ?_)
   ·
    rintro Xyi;rcases Xyi with ⟨_|_,Xzq⟩
    ·
     exact X6 [.wrap] (k:=wkT [] (ih  _ _ nbF o h C0))
    obtain rfl:=Xzq rfl;exact X6 [.wrap] (k:=wkT [] (ih  _ _ nbS o h C0))
   clear h;revert h48;refine brI (λh45=>?_) λh45=>?_
   ·
    refine bI λu46 h47=>?_;intro h;obtain rfl:=oj h;exact X6 [Bt,.wrap,.wrap,.wrap,.no] (o:=by repeat' first|apply Ya|exact pcM|(refine X0r h47 rfl ?_;first|(simp<;>omega)|(simp[h40,h45]<;>omega))|(refine X08 h47 (by decide) ?_;first|(simp<;>omega)|(simp[h40,h45]<;>omega))|exact Xu) (k:=wkT [(0,2)] (X2.glue (J nbF)))
   intro h;obtain rfl:=oj h;exact X6 [Bf] (k:=wkT [] (X2.glue (J nbF)))
  obtain rfl:=X2s rfl;refine X2.round ?_;revert h;refine brI (λh49=>?_) λh49=>λe=>X6 [.wrap,Bf] (k:=wkT [] (C0 _  nbS (oj e).symm));refine bI λXz1 h57=>rnI [.wrap,Bt,.wrap,.wrap,.wrap] ?_;intro h;refine X2.joinF (λ(q:Nb Xz1)=>⟨fr [(0,(aI .i64 X0c)),(1,(aI .i64 Xa8)),(2,(aI .i64 Xfv)),(7,(aI .i64 Xr2)),(8,(slE q.1 0 (Xz1.map Xr))),(9,(aI .i64 Xef))],hp ([]++opE q.1 0 2 (Xz1.map Xr)),1⟩) ?_ (λJ=>X2.cut ?_)
  ·
   rintro Xyg;rcases Xyg with ⟨_|_,Xzo⟩
   ·
    exact X6 [.wrap] (k:=wkT [] (ih  _ _ nbF o h C0))
   obtain rfl:=Xzo rfl;exact X6 [.wrap] (k:=wkT [] (ih  _ _ nbS o h C0))
  clear h;revert h57;refine brI (λh54=>?_) λh54=>?_
  ·
   refine bI λu55 h56=>?_;intro h;obtain rfl:=oj h;exact X6 [Bt,.wrap,.wrap,.wrap,.no] (o:=by repeat' first|apply Ya|exact pcM|(refine X0r h56 rfl ?_;first|(simp<;>omega)|(simp[h49,h54]<;>omega))|(refine X08 h56 (by decide) ?_;first|(simp<;>omega)|(simp[h49,h54]<;>omega))|exact Xu) (k:=wkT [(0,2)] (X2.glue (J nbF)))
  intro h;obtain rfl:=oj h;exact X6 [Bf] (k:=wkT [] (X2.glue (J nbS)))
instance Xwi:PCs Tryz.prog 164 (∀ (a0:Int) (a1:Int) (a2:Int) (r:(List Xy)),X81 a0 a1 a2=some r->X0b Tryz.prog 164 [(aI .i64 a0),(aI .i64 a1),(aI .i64 a2)] (Lt (r.map Xr))):=⟨λa0 a1 a2 r h=>by
 refine X0b.sym X3 X0ce (nt:=48) rfl rfl ?_ okM;unfold X81 at h;revert h;refine bI λv1 h2=>bI λo58 h59=>rnI [.pure _ (aI .i64 v1),.wrap] ?_;intro h;refine wkT [] (X2.cut (Xgd a0 a1 a2 v1 _ _ _ nbS _ h59 ?_));intro Xq X06 eo58;subst eo58;refine X2.glue ?_;try dsimp only at h
 rcases X06 with ⟨_|_,X29⟩<;>(try obtain rfl:=X29 rfl);all_goals
  revert h;exact λe=>oj e▸X6 [] (k:=fi)⟩
instance X01c:PCs Tryz.prog 143 (∀ (a0:X1z) (a1:Int) (r:(List Xy)),Xbb a0 a1=some r->X0b Tryz.prog 143 [(X1y a0),(aI .i64 a1)] (Lt (r.map Xr))):=⟨λa0 a1 r h=>by
 refine X0b.sym X3 X0cs (nt:=25) rfl rfl ?_ okM;unfold Xbb at h;revert h;exact brI (λh1=>bI λv2 h3=>λe=>oj e▸X6 [Bt,.pure _ (AV.tup [(Xr v2.1),(aI .i64 v2.2)])] (k:=fi)) λh1=>bI λv4 h5=>λe=>oj e▸X6 [Bf,.pure _ (Lt (v4.map Xr))] (k:=fi)⟩
theorem Xie {Q:X03->St->Mu->Prop} {μ:Mu} (Xbt:(List Xy)) (hl:Xbt.length<=140737488355328):∀ (xs:List Xy) (k:Nat) (hx:Xbt.drop k=xs) (X0c:(List X1)) (Xh:X1) (Xpf:Bool) (o:X9t) (h:X47 Xbt xs k X0c Xh Xpf=some o)
  (C0:∀ (Xj7:(List X1)) (Xea:Bool),o=X9t.x0 Xj7 Xea->X2 Tryz.prog 86 0 Q (.exit (.exit 0)) [] ⟨fr [(0,(Lf (Xj7.map X0))),(14,(aB Xea))],hp ([]),0⟩ μ),
  X2 Tryz.prog 86 0 Q (.loop (X2o 0 (Xd Tryz.f109))) [] ⟨fr [(0,(Lf (X0c.map X0))),(10,(AV.ptr 0 0 0)),(13,(Lt (Xbt.map Xr))),(14,(aB Xpf)),(15,(aI .i64 (k:Int)))],hp ([(0,Ob [(X0 Xh)] 11)]),1⟩ μ:=by
 intro xs
 induction xs with
 |nil =>
  intro k hx X0c Xh Xpf o h C0;have hk:=X1g hx;have hc:decide ((k:Int)<(Xbt.length:Int))=false:=Yf om;rw[X47] at h;refine X2.round ?_;revert h;exact λe=>X6 [.el (aI .i64 (Xbt.length:Int)),Bf] (k:=wkT [] (C0 _ _  (oj e).symm))
 |cons x xs ih =>
  intro k hx X0c Xh Xpf o h C0;obtain⟨hk,hg,hx1⟩:=X0u hx;have hc:decide ((k:Int)<(Xbt.length:Int))=true:=Yt om;rw[X47] at h;refine X2.round ?_;revert h;refine bI λv31 h32=>rnI [.el (aI .i64 (Xbt.length:Int)),Bt,.el (Xr x),.pure _ (AV.tup [(Lt (v31.1.map X0)),(aB v31.2)])] ?_;intro h;refine X2.unownF 0 (Lf (v31.1.map X0)) rfl ?_;exact wkT [] (ih (k+1) hx1 _ _ _ o h C0)
instance X019:PCs Tryz.prog 109 (∀ (a0:(List X1)) (a1:X1z) (a2:Xg) (a3:Int) (r:(List X1)×Bool),X5p a0 a1 a2 a3=some r->X0b Tryz.prog 109 [(Lf (a0.map X0)),(X1y a1),(X5 a2),(aI .i64 a3)] (AV.tup [(Lt (r.1.map X0)),(aB r.2)])):=⟨λa0 a1 a2 a3 r h=>by
 refine X0b.sym X3 X0dk (nt:=86) rfl rfl ?_ okM;unfold X5p at h;revert h;refine bI λX03j h10=>rnI [.wrap,.stop 2] ?_;intro h;refine X2.join (s':=⟨fr [(0,(Lf (a0.map X0))),(5,(AV.ptr 0 0 0)),(6,(AV.ptr 1 0 0)),(10,(AV.ptr 2 0 0))],hp ([(0,Ob [(X1y a1)] 3),(1,Ob [(X5 a2)] 3),(2,Ob [(X0 X03j)] 11)]),3⟩) ?_ (λJ=>X2.cut ?_)
 ·
  revert h;refine brI (λh11=>?_) λh11=>?_
  ·
   refine bI λv12 h13=>bI λw17 h21=>?_;intro h;obtain⟨X0bj,X0bi⟩:=w17;try dsimp only at h
   refine X0j [Bt,.pure _ (AV.tup [(Lt (v12.1.map X0)),(aB v12.2)]),.stop 5] ?_;refine X2.join (s':=⟨fr [(8,(Lt (X0bj.map X0))),(9,(aB X0bi))],hp ([]),0⟩) ?_ (λJ=>X2.cut ?_)
   ·
    revert h;exact λe=>oj e▸X6 [] (k:=fi)
   clear h;revert h21;refine bI λv18 h19=>brI (λh20=>?_) λh20=>?_
   ·
    intro h;simp only[Option.some.injEq,Prod.mk.injEq] at h;obtain⟨rfl,rfl⟩:=h;exact X6 [.pure _ (Lt (v18.map X0)),Gt,Gt,.el (aI .i64 (v12.1.length:Int)),Gt] (k:=wkT [] (X2.glue J))
   intro h;simp only[Option.some.injEq,Prod.mk.injEq] at h;obtain⟨rfl,rfl⟩:=h;exact X6 [.pure _ (Lt (v18.map X0)),Gf,Gf,Gf] (k:=wkT [] (X2.glue J))
  refine bI λv22 h23=>bI λu24 h25=>?_;have qh25:=X0v h25;refine bI λo33 h34=>rnI [Bf,.pure _ (Lt (v22.map Xr))] ?_;intro h;refine wkT [(0,2)] (X2.cut (Xie v22 qh25 v22 0 (by simp) _ _ _ _ h34 ?_));intro Xj7 Xea eo33;subst eo33;refine X2.glue ?_;try dsimp only at h
  revert h;refine bI λw38 h42=>?_;intro h;obtain⟨X0bf,X0be⟩:=w38;try dsimp only at h
  refine X0j [.stop 14] ?_;refine X2.join (s':=⟨fr [(8,(Lt (X0bf.map X0))),(9,(aB X0be))],hp ([]),0⟩) ?_ (λJ=>X2.cut ?_)
  ·
   revert h;exact λe=>oj e▸X6 [] (k:=fi)
  clear h;revert h42;refine bI λv39 h40=>brI (λh41=>?_) λh41=>?_
  ·
   intro h;simp only[Option.some.injEq,Prod.mk.injEq] at h;obtain⟨rfl,rfl⟩:=h;exact X6 [.pure _ (Lt (v39.map X0)),Gt,Gt,.el (aI .i64 (Xj7.length:Int)),Gt] (k:=wkT [] (X2.glue J))
  intro h;simp only[Option.some.injEq,Prod.mk.injEq] at h;obtain⟨rfl,rfl⟩:=h;exact X6 [.pure _ (Lt (v39.map X0)),Gf,Gf,Gf] (k:=wkT [] (X2.glue J))
 clear h;revert h10;refine bI λv6 h7=>brI (λh8=>?_) λh8=>?_
 ·
  intro h;obtain rfl:=oj h;exact X6 [.pure _ (Xv v6),.ix 0] (o:=by repeat' first|apply Ya|exact pcM|exact((eq_of_beq h8))|exact Xu) (k:=wkT [] (X2.glue J))
 refine brI (λh9=>?_) λh9=>?_
 ·
  intro h;obtain rfl:=oj h;exact X6 [.pure _ (Xv v6),.ix 1] (o:=by repeat' first|apply Ya|exact pcM|exact((eq_of_beq h9))|exact Xu) (k:=wkT [] (X2.glue J))
 intro h;cases h⟩
instance X053:PCs Tryz.prog 72 (∀ (a0:(List X1)) (a1:X1z) (a2:Xg) (a3:Int) (r:(List X1)×Int),Xba a0 a1 a2 a3=some r->X0b Tryz.prog 72 [(Lf (a0.map X0)),(X1y a1),(X5 a2),(aI .i64 a3)] (AV.tup [(Lt (r.1.map X0)),(aI .i64 r.2)])):=⟨λa0 a1 a2 a3 r h=>by
 refine X0b.sym X3 fn72 (nt:=45) rfl rfl ?_ okM;unfold Xba at h;revert h;refine bI λv1 h2=>brI (λh3=>λe=>oj e▸X6 [.pure _ (aI .i64 v1),Bt] (k:=fi)) λh3=>bI λv4 h5=>brI (λh6=>λe=>oj e▸X6 [.pure _ (aI .i64 v1),Bf,.pure _ (aI .i64 v4),Bt] (k:=fi)) λh6=>brI (λh7=>λe=>oj e▸X6 [.pure _ (aI .i64 v1),Bf,.pure _ (aI .i64 v4),Bf,Bt] (k:=fi)) λh7=>bI λv8 h9=>brI (λh10=>λe=>oj e▸X6 [.pure _ (aI .i64 v1),Bf,.pure _ (aI .i64 v4),Bf,Bf,.pure _ (aI .i64 v8),Bt] (k:=fi)) λh10=>bI λv11 h12=>rnI [.pure _ (aI .i64 v1),Bf,.pure _ (aI .i64 v4),Bf,Bf,.pure _ (aI .i64 v8),Bf,.pure _ (AV.tup [(Lt (v11.1.map X0)),(aB v11.2)])] ?_;exact brI (λh13=>λe=>oj e▸X6 [Bt] (k:=fi)) λh13=>λe=>oj e▸X6 [Bf] (k:=fi)⟩
theorem Xgz {Q:X03->St->Mu->Prop} {μ:Mu} (X0c:(List Int)):∀ (n:Nat) (X9a:Int) (Xjp:Int) (o:X8r) (h:X3h X0c n X9a Xjp=some o)
  (C0:∀ (X76:Int),o=X8r.x0 X76->X2 Tryz.prog 21 0 Q (.exit (.exit 0)) [] ⟨fr [(3,(aI .i64 X76))],hp ([]),0⟩ μ),
  X2 Tryz.prog 21 0 Q (.loop (X2o 0 (Xd Tryz.f112))) [] ⟨fr [(0,(Lf (List.map (aI .i64) X0c))),(3,(aI .i64 X9a)),(4,(aI .i64 Xjp))],hp ([]),0⟩ μ:=by
 intro n
 induction n with
 |zero=>intro X9a Xjp o h C0;cases h
 |succ n ih =>
  intro X9a Xjp o h C0;rw[X3h] at h;refine X2.round ?_;revert h;refine brI (λh10=>?_) λh10=>λe=>X6 [.el (aI .i64 (X0c.length:Int)),Bf] (k:=wkT [] (C0 _  (oj e).symm));refine bI λe11 h12=>?_;try have qh12:=Xl h12
  refine rnI [.el (aI .i64 (X0c.length:Int)),Bt,.el (aI .i64 e11),.wrap] ?_;intro h;exact wkT [] (ih  _ _ o h C0)
instance Xxu:PCs Tryz.prog 112 (∀ (a0:(List Int)) (r:Int),X4l a0=some r->X0b Tryz.prog 112 [(Lf (List.map (aI .i64) a0))] (aI .i64 r)):=⟨λa0 r h=>by
 refine X0b.sym X3 X0dh (nt:=21) rfl rfl ?_ okM;unfold X4l at h;revert h;refine bI λe1 h2=>?_;try have qh2:=Xl h2
 refine bI λo13 h14=>rnI [.el (aI .i64 e1)] ?_;intro h;refine wkT [] (X2.cut (Xgz a0 _ _ _ _ h14 ?_));intro X76 eo13;subst eo13;refine X2.glue ?_;try dsimp only at h
 revert h;exact λe=>oj e▸X6 [] (k:=fi)⟩
instance Xxt:PCs Tryz.prog 110 (∀ (a0:(List Int)) (a1:Int) (a2:Int) (r:(List Int)×Bool),X7e a0 a1 a2=some r->X0b Tryz.prog 110 [(Lf (List.map (aI .i64) a0)),(aI .i64 a1),(aI .i64 a2)] (AV.tup [(Lt (List.map (aI .i64) r.1)),(aB r.2)])):=⟨λa0 a1 a2 r h=>by
 refine X0b.sym X3 X0dj (nt:=27) rfl rfl ?_ okM;unfold X7e at h;by_cases h1:a0=[]
 ·
  revert h;refine bI λe2 h3=>?_;try have qh3:=Xl h3
  intro h
  first|exact absurd (h3) (by simp[X15];done)|(simp[X15,h1] at h;done)|exact absurd (h3) (by simp[X15,h1];done)
 revert h;refine bI λu4 h5=>bI λe6 h7=>?_;try have qh7:=Xl h7
 exact bI λv8 h9=>bI λv10 h11=>λe=>oj e▸X6 [.via (Lt (List.map (aI .i64) a0)),.el (aI .i64 e6),.ld (aI .i64 e6),.el (aI .i64 e6),.ld (aI .i64 e6),.pure _ (aI .i64 v8),.pure _ (aI .i64 v10)] (o:=by repeat' first|apply Ya|exact pcM|(refine X0r h5 rfl ?_;first|(simp<;>omega)|(simp[h1]<;>omega))|(refine X08 h5 (by decide) ?_;first|(simp<;>omega)|(simp[h1]<;>omega))|exact(List.getElem?_set_self (by have hq:=X3u h7;simp;omega)).trans rfl|exact Xu) (k:=fi)⟩
theorem Xh1 {Q:X03->St->Mu->Prop} {μ:Mu} (X0c:(List X1)) (Xa8:Int):∀ (n:Nat) (Xma:Int) (o:X8y) (h:X3j X0c Xa8 n Xma=some o)
  (C0:∀ (Xj6:Int),o=X8y.x0 Xj6->X2 Tryz.prog 33 0 Q (.exit (.exit 0)) [] ⟨fr [(0,(Lf (X0c.map X0))),(6,(aI .i64 Xj6))],hp ([]),0⟩ μ),
  X2 Tryz.prog 33 0 Q (.loop (X2o 0 (Xd Tryz.f111))) [] ⟨fr [(0,(Lf (X0c.map X0))),(1,(aI .i64 Xa8)),(6,(aI .i64 Xma))],hp ([]),0⟩ μ:=by
 intro n
 induction n with
 |zero=>intro Xma o h C0;cases h
 |succ n ih =>
  intro Xma o h C0;rw[X3j] at h;refine X2.round ?_;revert h;refine bI λXz9 h27=>rnI [.stop 2] ?_;intro h;refine X2.join (s':=⟨fr [(0,(Lf (X0c.map X0))),(1,(aI .i64 Xa8)),(6,(aI .i64 Xma)),(20,(aB Xz9))],hp ([]),0⟩) ?_ (λJ=>X2.cut ?_)
  ·
   revert h;refine brI (λh28=>?_) λh28=>λe=>X6 [Bf] (k:=wkT [] (C0 _  (oj e).symm));refine rnI [Bt,.wrap] ?_;intro h;exact wkT [] (ih  _ o h C0)
  clear h;revert h27;refine brI (λh24=>?_) λh24=>?_
  ·
   refine bI λe25 h26=>?_;try have qh26:=Xl h26
   intro h;obtain rfl:=oj h;exact X6 [.el (aI .i64 (X0c.length:Int)),Gt,Gt,Gt,.el (X0 e25),Gt,Gt,Gt,Gt,Gt] (k:=wkT [] (X2.glue J))
  intro h;obtain rfl:=oj h;exact X6 [.el (aI .i64 (X0c.length:Int)),Gf,Gf,Gf,Gf,Gf,Gf,Gf,Gf] (k:=wkT [] (X2.glue J))
end Go.Av.Tryz