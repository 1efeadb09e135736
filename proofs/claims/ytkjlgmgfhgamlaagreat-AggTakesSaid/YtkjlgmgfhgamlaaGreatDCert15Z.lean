/- Printed by decomp.py: that the program computes the functions. -/
import Derived.Test.YtkjlgmgfhgamlaaGreatDCert14Z
set_option linter.all false

namespace Go.Av.Tryz
open Go.Proofs Go.D
set_option maxRecDepth 10000
set_option maxHeartbeats 40000000
theorem Xgt {Q:X04->St->Mu->Prop} {μ:Mu} (X0c:(List X1)) (hl:X0c.length<=140737488355328):∀ (xs:List X1) (k:Nat) (hx:X0c.drop k=xs) (Xh:(List X1)) (X0h:Nb Xh) (o:X8v) (h:X3j X0c xs k Xh=some o)
  (C0:∀ (Xp:(List X1)) (X08:Nb Xp),o=X8v.x0 Xp->X2 Tryz.prog 59 0 Q (.exit (.exit 0)) [] ⟨fr [(3,(slE X08.1 0 (Xp.map X0)))],hp ([]++opE X08.1 0 11 (Xp.map X0)),1⟩ μ),
  X2 Tryz.prog 59 0 Q (.loop (X2p 0 (Xd Tryz.f142))) [] ⟨fr [(0,(Lf (X0c.map X0))),(3,(slE X0h.1 0 (Xh.map X0))),(4,(aI .i64 (k:Int)))],hp ([]++opE X0h.1 0 11 (Xh.map X0)),1⟩ μ:=by
 intro xs
 induction xs with
 |nil =>
  intro k hx Xh X0h o h C0;have hk:=X1f hx;have hc:decide ((k:Int)<(X0c.length:Int))=false:=Yf om;rw[X3j] at h;rcases X0h with ⟨_|_,X2t⟩
  ·
   refine X2.round ?_;revert h;exact λe=>X6 [.el (aI .i64 (X0c.length:Int)),Bf] (k:=wkT [] (C0 _  nbF (oj e).symm))
  ·
   obtain rfl:=X2t rfl;refine X2.round ?_;revert h;exact λe=>X6 [.el (aI .i64 (X0c.length:Int)),Bf] (k:=wkT [] (C0 _  nbS (oj e).symm))
 |cons x xs ih =>
  intro k hx Xh X0h o h C0;obtain⟨hk,hg,hx1⟩:=X0u hx;have hc:decide ((k:Int)<(X0c.length:Int))=true:=Yt om;rw[X3j] at h;rcases X0h with ⟨_|_,X2t⟩
  ·
   refine X2.round ?_;revert h;refine bI λo623 h624=>rnI [.el (aI .i64 (X0c.length:Int)),Bt,.el (aI .i64 (Xh.length:Int))] ?_;intro h;refine wkT [] (X2.cut (Xc2 X0c Xh (k:Int) nbF _ _ _ h624 ?_));intro X3w Xcm Xai eo623;subst eo623;refine X2.glue ?_;try dsimp only at h
   rcases Xai with ⟨_|_,Xij⟩
   ·
    revert h;refine bI λu625 h626=>bI λo652 h653=>rnI [.no,.el (aI .i64 (List.length (X3w++[(X1.mk 0 (Xz.mk 0 0) (V2.mk (Xn.mk 0 0 0 0) (Xn.mk 0 0 0 0)))]):Int)),.wrap] (o:=by repeat' first|apply Ya|exact pcM|(refine X0t h626 rfl ?_;first|(simp<;>omega)|(simp[hc]<;>omega))|(refine X09 h626 (by decide) ?_;first|(simp<;>omega)|(simp[hc]<;>omega))|exact Xv) ?_;intro h;refine wkT [(0,2)] (X2.cut (X5d X0c (k:Int) Xcm _ _ _ nbF _ h653 ?_));intro X9l X56 eo652;subst eo652;refine X2.glue ?_;try dsimp only at h
    rcases X56 with ⟨_|_,X94⟩
    ·
     revert h;refine bI λe654 h655=>?_;try have qh655:=Xm h655
     refine rnI [.el (X0 x),.el (X0 e654),.ld (X0 e654)] (o:=by repeat' first|apply Ya|exact pcM|(refine X0t h626 rfl ?_;first|(simp<;>omega)|(simp[hc]<;>omega))|(refine X09 h626 (by decide) ?_;first|(simp<;>omega)|(simp[hc]<;>omega))|exact(List.getElem?_set_self (by have hq:=X3u h655;simp;omega)).trans rfl|exact Xv) ?_;intro h;exact wkT [] (ih (k+1) hx1 _ nbF o h C0)
    obtain rfl:=X94 rfl;revert h;refine bI λe656 h657=>?_;try have qh657:=Xm h657
    intro h
    first|exact absurd (h657) (by simp[X17];done)|(simp[X17,hc] at h;done)|exact absurd (h657) (by simp[X17,hc];done)
   obtain rfl:=Xij rfl;revert h;refine bI λu658 h659=>bI λo677 h678=>rnI [.no,.el (aI .i64 (List.length (([]:List X1)++[(X1.mk 0 (Xz.mk 0 0) (V2.mk (Xn.mk 0 0 0 0) (Xn.mk 0 0 0 0)))]):Int)),.wrap] (o:=by repeat' first|apply Ya|exact pcM|(refine X0t h659 rfl ?_;first|(simp<;>omega)|(simp[hc]<;>omega))|(refine X09 h659 (by decide) ?_;first|(simp<;>omega)|(simp[hc]<;>omega))|exact Xv) ?_;intro h;refine wkT [(0,2)] (X2.cut (X5d X0c (k:Int) Xcm _ _ _ nbF _ h678 ?_));intro X9l X56 eo677;subst eo677;refine X2.glue ?_;try dsimp only at h
   rcases X56 with ⟨_|_,X94⟩
   ·
    revert h;refine bI λe679 h680=>?_;try have qh680:=Xm h680
    refine rnI [.el (X0 x),.el (X0 e679),.ld (X0 e679)] (o:=by repeat' first|apply Ya|exact pcM|(refine X0t h659 rfl ?_;first|(simp<;>omega)|(simp[hc]<;>omega))|(refine X09 h659 (by decide) ?_;first|(simp<;>omega)|(simp[hc]<;>omega))|exact(List.getElem?_set_self (by have hq:=X3u h680;simp;omega)).trans rfl|exact Xv) ?_;intro h;exact wkT [] (ih (k+1) hx1 _ nbF o h C0)
   obtain rfl:=X94 rfl;revert h;refine bI λe681 h682=>?_;try have qh682:=Xm h682
   intro h
   first|exact absurd (h682) (by simp[X17];done)|(simp[X17,hc] at h;done)|exact absurd (h682) (by simp[X17,hc];done)
  obtain rfl:=X2t rfl;refine X2.round ?_;revert h;refine bI λo744 h745=>rnI [.el (aI .i64 (X0c.length:Int)),Bt,.el (aI .i64 (List.length ([]:List X1):Int))] ?_;intro h;refine wkT [] (X2.cut (Xc2 X0c ([]:List X1) (k:Int) nbS _ _ _ h745 ?_));intro X3w Xcm Xai eo744;subst eo744;refine X2.glue ?_;try dsimp only at h
  rcases Xai with ⟨_|_,Xij⟩
  ·
   revert h;refine bI λu746 h747=>bI λo765 h766=>rnI [.no,.el (aI .i64 (List.length (X3w++[(X1.mk 0 (Xz.mk 0 0) (V2.mk (Xn.mk 0 0 0 0) (Xn.mk 0 0 0 0)))]):Int)),.wrap] (o:=by repeat' first|apply Ya|exact pcM|(refine X0t h747 rfl ?_;first|(simp<;>omega)|(simp[hc]<;>omega))|(refine X09 h747 (by decide) ?_;first|(simp<;>omega)|(simp[hc]<;>omega))|exact Xv) ?_;intro h;refine wkT [(0,2)] (X2.cut (X5d X0c (k:Int) Xcm _ _ _ nbF _ h766 ?_));intro X9l X56 eo765;subst eo765;refine X2.glue ?_;try dsimp only at h
   rcases X56 with ⟨_|_,X94⟩
   ·
    revert h;refine bI λe767 h768=>?_;try have qh768:=Xm h768
    refine rnI [.el (X0 x),.el (X0 e767),.ld (X0 e767)] (o:=by repeat' first|apply Ya|exact pcM|(refine X0t h747 rfl ?_;first|(simp<;>omega)|(simp[hc]<;>omega))|(refine X09 h747 (by decide) ?_;first|(simp<;>omega)|(simp[hc]<;>omega))|exact(List.getElem?_set_self (by have hq:=X3u h768;simp;omega)).trans rfl|exact Xv) ?_;intro h;exact wkT [] (ih (k+1) hx1 _ nbF o h C0)
   obtain rfl:=X94 rfl;revert h;refine bI λe769 h770=>?_;try have qh770:=Xm h770
   intro h
   first|exact absurd (h770) (by simp[X17];done)|(simp[X17,hc] at h;done)|exact absurd (h770) (by simp[X17,hc];done)
  obtain rfl:=Xij rfl;revert h;refine bI λu771 h772=>bI λo790 h791=>rnI [.no,.el (aI .i64 (List.length (([]:List X1)++[(X1.mk 0 (Xz.mk 0 0) (V2.mk (Xn.mk 0 0 0 0) (Xn.mk 0 0 0 0)))]):Int)),.wrap] (o:=by repeat' first|apply Ya|exact pcM|(refine X0t h772 rfl ?_;first|(simp<;>omega)|(simp[hc]<;>omega))|(refine X09 h772 (by decide) ?_;first|(simp<;>omega)|(simp[hc]<;>omega))|exact Xv) ?_;intro h;refine wkT [(0,2)] (X2.cut (X5d X0c (k:Int) Xcm _ _ _ nbF _ h791 ?_));intro X9l X56 eo790;subst eo790;refine X2.glue ?_;try dsimp only at h
  rcases X56 with ⟨_|_,X94⟩
  ·
   revert h;refine bI λe792 h793=>?_;try have qh793:=Xm h793
   refine rnI [.el (X0 x),.el (X0 e792),.ld (X0 e792)] (o:=by repeat' first|apply Ya|exact pcM|(refine X0t h772 rfl ?_;first|(simp<;>omega)|(simp[hc]<;>omega))|(refine X09 h772 (by decide) ?_;first|(simp<;>omega)|(simp[hc]<;>omega))|exact(List.getElem?_set_self (by have hq:=X3u h793;simp;omega)).trans rfl|exact Xv) ?_;intro h;exact wkT [] (ih (k+1) hx1 _ nbF o h C0)
  obtain rfl:=X94 rfl;revert h;refine bI λe794 h795=>?_;try have qh795:=Xm h795
  intro h
  first|exact absurd (h795) (by simp[X17];done)|(simp[X17,hc] at h;done)|exact absurd (h795) (by simp[X17,hc];done)
instance Xb6:PCs Tryz.prog 142 (∀ (a0:(List X1)) (r:(List X1)),X7b a0=some r->X0a Tryz.prog 142 [(Lf (a0.map X0))] (Lt (r.map X0))):=⟨λa0 r h=>by
 refine X0a.sym X3 X0ck (nt:=59) rfl rfl ?_ okM;unfold X7b at h;revert h;refine bI λu1 h2=>?_;have qh2:=X0v h2;refine bI λo796 h797=>rnI [] ?_;intro h;refine wkT [] (X2.cut (Xgt a0 qh2 a0 0 (by simp) _ nbS _ h797 ?_));intro Xp X08 eo796;subst eo796;refine X2.glue ?_;try dsimp only at h
 rcases X08 with ⟨_|_,X29⟩<;>(try obtain rfl:=X29 rfl);all_goals
  revert h;exact λe=>oj e▸X6 [] (k:=fi)⟩
instance Xga:PCs Tryz.prog 184 (∀ (a0:Int) (a1:Int) (r:Int),Xff a0 a1=some r->X0a Tryz.prog 184 [(aI .i64 a0),(aI .i64 a1)] (aI .i64 r)):=⟨λa0 a1 r h=>by
 refine X0a.sym X3 X0bq (nt:=18) rfl rfl ?_ okM;unfold Xff at h;revert h;exact bI λu1 h2=>λe=>oj e▸X6 [.wrap,.wrap,.wrap,.wrap,.wrap,.wrap] (k:=fi)⟩
instance X060:PCs Tryz.prog 163 (∀ (a0:Int) (a1:Int) (r:Xz×Int),Xgy a0 a1=some r->X0a Tryz.prog 163 [(aI .i64 a0),(aI .i64 a1)] (AV.tup [(Xr r.1),(aI .i64 r.2)])):=⟨λa0 a1 r h=>by
 refine X0a.sym X3 X0c6 (nt:=25) rfl rfl ?_ okM;unfold Xgy at h;revert h;exact bI λv1 h2=>brI (λh3=>λe=>oj e▸X6 [.pure _ (aI .i64 v1),Bt,.pure _ (aI .i64 v1)] (k:=fi)) λh3=>bI λv4 h5=>λe=>oj e▸X6 [.pure _ (aI .i64 v1),Bf,.pure _ (aI .i64 v4),.wrap,.wrap] (k:=fi)⟩
theorem Xg9 {Q:X04->St->Mu->Prop} {μ:Mu} (X0c:Int) (Xa6:Int) (Xfy:Int) (Xr0:Int):∀ (n:Nat) (Xh:(List Xz)) (Xeg:Int) (X0h:Nb Xh) (o:X7w) (h:X31 X0c Xa6 Xfy Xr0 n Xh Xeg=some o)
  (C0:∀ (Xp:(List Xz)) (X08:Nb Xp),o=X7w.x0 Xp->X2 Tryz.prog 48 0 Q (.exit (.exit 0)) [] ⟨fr [(8,(slE X08.1 0 (Xp.map Xr)))],hp ([]++opE X08.1 0 2 (Xp.map Xr)),1⟩ μ),
  X2 Tryz.prog 48 0 Q (.loop (X2p 0 (Xd Tryz.f164))) [] ⟨fr [(0,(aI .i64 X0c)),(1,(aI .i64 Xa6)),(2,(aI .i64 Xfy)),(7,(aI .i64 Xr0)),(8,(slE X0h.1 0 (Xh.map Xr))),(9,(aI .i64 Xeg))],hp ([]++opE X0h.1 0 2 (Xh.map Xr)),1⟩ μ:=by
 intro n
 induction n with
 |zero=>intro Xh Xeg X0h o h C0;cases h
 |succ n ih =>
  intro Xh Xeg X0h o h C0;rw[X31] at h;rcases X0h with ⟨_|_,X2t⟩
  ·
   refine X2.round ?_;revert h;refine brI (λh40=>?_) λh40=>λe=>X6 [.wrap,Bf] (k:=wkT [] (C0 _  nbF (oj e).symm));refine bI λXq6 h48=>rnI [.wrap,Bt,.wrap,.wrap,.wrap] ?_;intro h;refine X2.joinF (λ(q:Nb Xq6)=>⟨fr [(0,(aI .i64 X0c)),(1,(aI .i64 Xa6)),(2,(aI .i64 Xfy)),(7,(aI .i64 Xr0)),(8,(slE q.1 0 (Xq6.map Xr))),(9,(aI .i64 Xeg))],hp ([]++opE q.1 0 2 (Xq6.map Xr)),1⟩) ?_ (λJ=>X2.cut ?_)
   ·
    rintro Xyc;rcases Xyc with ⟨_|_,Xzg⟩
    ·
     exact X6 [.wrap] (k:=wkT [] (ih  _ _ nbF o h C0))
    obtain rfl:=Xzg rfl;exact X6 [.wrap] (k:=wkT [] (ih  _ _ nbS o h C0))
   clear h;revert h48;refine brI (λh45=>?_) λh45=>?_
   ·
    refine bI λu46 h47=>?_;intro h;obtain rfl:=oj h;exact X6 [Bt,.wrap,.wrap,.wrap,.no] (o:=by repeat' first|apply Ya|exact pcM|(refine X0t h47 rfl ?_;first|(simp<;>omega)|(simp[h40,h45]<;>omega))|(refine X09 h47 (by decide) ?_;first|(simp<;>omega)|(simp[h40,h45]<;>omega))|exact Xv) (k:=wkT [(0,2)] (X2.glue (J nbF)))
   intro h;obtain rfl:=oj h;exact X6 [Bf] (k:=wkT [] (X2.glue (J nbF)))
  obtain rfl:=X2t rfl;refine X2.round ?_;revert h;refine brI (λh49=>?_) λh49=>λe=>X6 [.wrap,Bf] (k:=wkT [] (C0 _  nbS (oj e).symm));refine bI λXyt h57=>rnI [.wrap,Bt,.wrap,.wrap,.wrap] ?_;intro h;refine X2.joinF (λ(q:Nb Xyt)=>⟨fr [(0,(aI .i64 X0c)),(1,(aI .i64 Xa6)),(2,(aI .i64 Xfy)),(7,(aI .i64 Xr0)),(8,(slE q.1 0 (Xyt.map Xr))),(9,(aI .i64 Xeg))],hp ([]++opE q.1 0 2 (Xyt.map Xr)),1⟩) ?_ (λJ=>X2.cut ?_)
  ·
   rintro Xya;rcases Xya with ⟨_|_,Xze⟩
   ·
    exact X6 [.wrap] (k:=wkT [] (ih  _ _ nbF o h C0))
   obtain rfl:=Xze rfl;exact X6 [.wrap] (k:=wkT [] (ih  _ _ nbS o h C0))
  clear h;revert h57;refine brI (λh54=>?_) λh54=>?_
  ·
   refine bI λu55 h56=>?_;intro h;obtain rfl:=oj h;exact X6 [Bt,.wrap,.wrap,.wrap,.no] (o:=by repeat' first|apply Ya|exact pcM|(refine X0t h56 rfl ?_;first|(simp<;>omega)|(simp[h49,h54]<;>omega))|(refine X09 h56 (by decide) ?_;first|(simp<;>omega)|(simp[h49,h54]<;>omega))|exact Xv) (k:=wkT [(0,2)] (X2.glue (J nbF)))
  intro h;obtain rfl:=oj h;exact X6 [Bf] (k:=wkT [] (X2.glue (J nbS)))
instance Xwe:PCs Tryz.prog 164 (∀ (a0:Int) (a1:Int) (a2:Int) (r:(List Xz)),X7x a0 a1 a2=some r->X0a Tryz.prog 164 [(aI .i64 a0),(aI .i64 a1),(aI .i64 a2)] (Lt (r.map Xr))):=⟨λa0 a1 a2 r h=>by
 refine X0a.sym X3 X0c5 (nt:=48) rfl rfl ?_ okM;unfold X7x at h;revert h;refine bI λv1 h2=>bI λo58 h59=>rnI [.pure _ (aI .i64 v1),.wrap] ?_;intro h;refine wkT [] (X2.cut (Xg9 a0 a1 a2 v1 _ _ _ nbS _ h59 ?_));intro Xp X08 eo58;subst eo58;refine X2.glue ?_;try dsimp only at h
 rcases X08 with ⟨_|_,X29⟩<;>(try obtain rfl:=X29 rfl);all_goals
  revert h;exact λe=>oj e▸X6 [] (k:=fi)⟩
instance X013:PCs Tryz.prog 143 (∀ (a0:X1v) (a1:Int) (r:(List Xz)),Xb8 a0 a1=some r->X0a Tryz.prog 143 [(X1y a0),(aI .i64 a1)] (Lt (r.map Xr))):=⟨λa0 a1 r h=>by
 refine X0a.sym X3 X0cj (nt:=25) rfl rfl ?_ okM;unfold Xb8 at h;revert h;exact brI (λh1=>bI λv2 h3=>λe=>oj e▸X6 [Bt,.pure _ (AV.tup [(Xr v2.1),(aI .i64 v2.2)])] (k:=fi)) λh1=>bI λv4 h5=>λe=>oj e▸X6 [Bf,.pure _ (Lt (v4.map Xr))] (k:=fi)⟩
theorem Xi3 {Q:X04->St->Mu->Prop} {μ:Mu} (Xbr:(List Xz)) (hl:Xbr.length<=140737488355328):∀ (xs:List Xz) (k:Nat) (hx:Xbr.drop k=xs) (X0c:(List X1)) (Xh:X1) (Xpf:Bool) (o:X9r) (h:X47 Xbr xs k X0c Xh Xpf=some o)
  (C0:∀ (Xj0:(List X1)) (Xeb:Bool),o=X9r.x0 Xj0 Xeb->X2 Tryz.prog 86 0 Q (.exit (.exit 0)) [] ⟨fr [(0,(Lf (Xj0.map X0))),(14,(aB Xeb))],hp ([]),0⟩ μ),
  X2 Tryz.prog 86 0 Q (.loop (X2p 0 (Xd Tryz.f109))) [] ⟨fr [(0,(Lf (X0c.map X0))),(10,(AV.ptr 0 0 0)),(13,(Lt (Xbr.map Xr))),(14,(aB Xpf)),(15,(aI .i64 (k:Int)))],hp ([(0,Ob [(X0 Xh)] 11)]),1⟩ μ:=by
 intro xs
 induction xs with
 |nil =>
  intro k hx X0c Xh Xpf o h C0;have hk:=X1f hx;have hc:decide ((k:Int)<(Xbr.length:Int))=false:=Yf om;rw[X47] at h;refine X2.round ?_;revert h;exact λe=>X6 [.el (aI .i64 (Xbr.length:Int)),Bf] (k:=wkT [] (C0 _ _  (oj e).symm))
 |cons x xs ih =>
  intro k hx X0c Xh Xpf o h C0;obtain⟨hk,hg,hx1⟩:=X0u hx;have hc:decide ((k:Int)<(Xbr.length:Int))=true:=Yt om;rw[X47] at h;refine X2.round ?_;revert h;refine bI λv31 h32=>rnI [.el (aI .i64 (Xbr.length:Int)),Bt,.el (Xr x),.pure _ (AV.tup [(Lt (v31.1.map X0)),(aB v31.2)])] ?_;intro h;refine X2.unownF 0 (Lf (v31.1.map X0)) rfl ?_;exact wkT [] (ih (k+1) hx1 _ _ _ o h C0)
instance X010:PCs Tryz.prog 109 (∀ (a0:(List X1)) (a1:X1v) (a2:Xc) (a3:Int) (r:(List X1)×Bool),X5n a0 a1 a2 a3=some r->X0a Tryz.prog 109 [(Lf (a0.map X0)),(X1y a1),(X5 a2),(aI .i64 a3)] (AV.tup [(Lt (r.1.map X0)),(aB r.2)])):=⟨λa0 a1 a2 a3 r h=>by
 refine X0a.sym X3 X0db (nt:=86) rfl rfl ?_ okM;unfold X5n at h;revert h;refine bI λX03c h10=>rnI [.wrap,.stop 2] ?_;intro h;refine X2.join (s':=⟨fr [(0,(Lf (a0.map X0))),(5,(AV.ptr 0 0 0)),(6,(AV.ptr 1 0 0)),(10,(AV.ptr 2 0 0))],hp ([(0,Ob [(X1y a1)] 3),(1,Ob [(X5 a2)] 3),(2,Ob [(X0 X03c)] 11)]),3⟩) ?_ (λJ=>X2.cut ?_)
 ·
  revert h;refine brI (λh11=>?_) λh11=>?_
  ·
   refine bI λv12 h13=>bI λw17 h21=>?_;intro h;obtain⟨X0ba,X0b9⟩:=w17;try dsimp only at h
   refine X0g [Bt,.pure _ (AV.tup [(Lt (v12.1.map X0)),(aB v12.2)]),.stop 5] ?_;refine X2.join (s':=⟨fr [(8,(Lt (X0ba.map X0))),(9,(aB X0b9))],hp ([]),0⟩) ?_ (λJ=>X2.cut ?_)
   ·
    revert h;exact λe=>oj e▸X6 [] (k:=fi)
   clear h;revert h21;refine bI λv18 h19=>brI (λh20=>?_) λh20=>?_
   ·
    intro h;simp only[Option.some.injEq,Prod.mk.injEq] at h;obtain⟨rfl,rfl⟩:=h;exact X6 [.pure _ (Lt (v18.map X0)),Gt,Gt,.el (aI .i64 (v12.1.length:Int)),Gt] (k:=wkT [] (X2.glue J))
   intro h;simp only[Option.some.injEq,Prod.mk.injEq] at h;obtain⟨rfl,rfl⟩:=h;exact X6 [.pure _ (Lt (v18.map X0)),Gf,Gf,Gf] (k:=wkT [] (X2.glue J))
  refine bI λv22 h23=>bI λu24 h25=>?_;have qh25:=X0v h25;refine bI λo33 h34=>rnI [Bf,.pure _ (Lt (v22.map Xr))] ?_;intro h;refine wkT [(0,2)] (X2.cut (Xi3 v22 qh25 v22 0 (by simp) _ _ _ _ h34 ?_));intro Xj0 Xeb eo33;subst eo33;refine X2.glue ?_;try dsimp only at h
  revert h;refine bI λw38 h42=>?_;intro h;obtain⟨X0b6,X0b5⟩:=w38;try dsimp only at h
  refine X0g [.stop 14] ?_;refine X2.join (s':=⟨fr [(8,(Lt (X0b6.map X0))),(9,(aB X0b5))],hp ([]),0⟩) ?_ (λJ=>X2.cut ?_)
  ·
   revert h;exact λe=>oj e▸X6 [] (k:=fi)
  clear h;revert h42;refine bI λv39 h40=>brI (λh41=>?_) λh41=>?_
  ·
   intro h;simp only[Option.some.injEq,Prod.mk.injEq] at h;obtain⟨rfl,rfl⟩:=h;exact X6 [.pure _ (Lt (v39.map X0)),Gt,Gt,.el (aI .i64 (Xj0.length:Int)),Gt] (k:=wkT [] (X2.glue J))
  intro h;simp only[Option.some.injEq,Prod.mk.injEq] at h;obtain⟨rfl,rfl⟩:=h;exact X6 [.pure _ (Lt (v39.map X0)),Gf,Gf,Gf] (k:=wkT [] (X2.glue J))
 clear h;revert h10;refine bI λv6 h7=>brI (λh8=>?_) λh8=>?_
 ·
  intro h;obtain rfl:=oj h;exact X6 [.pure _ (Xw v6),.ix 0] (o:=by repeat' first|apply Ya|exact pcM|exact((eq_of_beq h8))|exact Xv) (k:=wkT [] (X2.glue J))
 refine brI (λh9=>?_) λh9=>?_
 ·
  intro h;obtain rfl:=oj h;exact X6 [.pure _ (Xw v6),.ix 1] (o:=by repeat' first|apply Ya|exact pcM|exact((eq_of_beq h9))|exact Xv) (k:=wkT [] (X2.glue J))
 intro h;cases h⟩
instance X04u:PCs Tryz.prog 72 (∀ (a0:(List X1)) (a1:X1v) (a2:Xc) (a3:Int) (r:(List X1)×Int),Xb7 a0 a1 a2 a3=some r->X0a Tryz.prog 72 [(Lf (a0.map X0)),(X1y a1),(X5 a2),(aI .i64 a3)] (AV.tup [(Lt (r.1.map X0)),(aI .i64 r.2)])):=⟨λa0 a1 a2 a3 r h=>by
 refine X0a.sym X3 fn72 (nt:=45) rfl rfl ?_ okM;unfold Xb7 at h;revert h;refine bI λv1 h2=>brI (λh3=>λe=>oj e▸X6 [.pure _ (aI .i64 v1),Bt] (k:=fi)) λh3=>bI λv4 h5=>brI (λh6=>λe=>oj e▸X6 [.pure _ (aI .i64 v1),Bf,.pure _ (aI .i64 v4),Bt] (k:=fi)) λh6=>brI (λh7=>λe=>oj e▸X6 [.pure _ (aI .i64 v1),Bf,.pure _ (aI .i64 v4),Bf,Bt] (k:=fi)) λh7=>bI λv8 h9=>brI (λh10=>λe=>oj e▸X6 [.pure _ (aI .i64 v1),Bf,.pure _ (aI .i64 v4),Bf,Bf,.pure _ (aI .i64 v8),Bt] (k:=fi)) λh10=>bI λv11 h12=>rnI [.pure _ (aI .i64 v1),Bf,.pure _ (aI .i64 v4),Bf,Bf,.pure _ (aI .i64 v8),Bf,.pure _ (AV.tup [(Lt (v11.1.map X0)),(aB v11.2)])] ?_;exact brI (λh13=>λe=>oj e▸X6 [Bt] (k:=fi)) λh13=>λe=>oj e▸X6 [Bf] (k:=fi)⟩
theorem Xgs {Q:X04->St->Mu->Prop} {μ:Mu} (X0c:(List Int)):∀ (n:Nat) (X98:Int) (Xjj:Int) (o:X8p) (h:X3i X0c n X98 Xjj=some o)
  (C0:∀ (X71:Int),o=X8p.x0 X71->X2 Tryz.prog 21 0 Q (.exit (.exit 0)) [] ⟨fr [(3,(aI .i64 X71))],hp ([]),0⟩ μ),
  X2 Tryz.prog 21 0 Q (.loop (X2p 0 (Xd Tryz.f112))) [] ⟨fr [(0,(Lf (List.map (aI .i64) X0c))),(3,(aI .i64 X98)),(4,(aI .i64 Xjj))],hp ([]),0⟩ μ:=by
 intro n
 induction n with
 |zero=>intro X98 Xjj o h C0;cases h
 |succ n ih =>
  intro X98 Xjj o h C0;rw[X3i] at h;refine X2.round ?_;revert h;refine brI (λh10=>?_) λh10=>λe=>X6 [.el (aI .i64 (X0c.length:Int)),Bf] (k:=wkT [] (C0 _  (oj e).symm));refine bI λe11 h12=>?_;try have qh12:=Xm h12
  refine rnI [.el (aI .i64 (X0c.length:Int)),Bt,.el (aI .i64 e11),.wrap] ?_;intro h;exact wkT [] (ih  _ _ o h C0)
instance Xxq:PCs Tryz.prog 112 (∀ (a0:(List Int)) (r:Int),X4k a0=some r->X0a Tryz.prog 112 [(Lf (List.map (aI .i64) a0))] (aI .i64 r)):=⟨λa0 r h=>by
 refine X0a.sym X3 X0d8 (nt:=21) rfl rfl ?_ okM;unfold X4k at h;revert h;refine bI λe1 h2=>?_;try have qh2:=Xm h2
 refine bI λo13 h14=>rnI [.el (aI .i64 e1)] ?_;intro h;refine wkT [] (X2.cut (Xgs a0 _ _ _ _ h14 ?_));intro X71 eo13;subst eo13;refine X2.glue ?_;try dsimp only at h
 revert h;exact λe=>oj e▸X6 [] (k:=fi)⟩
instance Xxp:PCs Tryz.prog 110 (∀ (a0:(List Int)) (a1:Int) (a2:Int) (r:(List Int)×Bool),X79 a0 a1 a2=some r->X0a Tryz.prog 110 [(Lf (List.map (aI .i64) a0)),(aI .i64 a1),(aI .i64 a2)] (AV.tup [(Lt (List.map (aI .i64) r.1)),(aB r.2)])):=⟨λa0 a1 a2 r h=>by
 refine X0a.sym X3 X0da (nt:=27) rfl rfl ?_ okM;unfold X79 at h;by_cases h1:a0=[]
 ·
  revert h;refine bI λe2 h3=>?_;try have qh3:=Xm h3
  intro h
  first|exact absurd (h3) (by simp[X17];done)|(simp[X17,h1] at h;done)|exact absurd (h3) (by simp[X17,h1];done)
 revert h;refine bI λu4 h5=>bI λe6 h7=>?_;try have qh7:=Xm h7
 exact bI λv8 h9=>bI λv10 h11=>λe=>oj e▸X6 [.via (Lt (List.map (aI .i64) a0)),.el (aI .i64 e6),.ld (aI .i64 e6),.el (aI .i64 e6),.ld (aI .i64 e6),.pure _ (aI .i64 v8),.pure _ (aI .i64 v10)] (o:=by repeat' first|apply Ya|exact pcM|(refine X0t h5 rfl ?_;first|(simp<;>omega)|(simp[h1]<;>omega))|(refine X09 h5 (by decide) ?_;first|(simp<;>omega)|(simp[h1]<;>omega))|exact(List.getElem?_set_self (by have hq:=X3u h7;simp;omega)).trans rfl|exact Xv) (k:=fi)⟩
theorem Xgu {Q:X04->St->Mu->Prop} {μ:Mu} (X0c:(List X1)) (Xa6:Int):∀ (n:Nat) (Xma:Int) (o:X8w) (h:X3k X0c Xa6 n Xma=some o)
  (C0:∀ (Xiz:Int),o=X8w.x0 Xiz->X2 Tryz.prog 33 0 Q (.exit (.exit 0)) [] ⟨fr [(0,(Lf (X0c.map X0))),(6,(aI .i64 Xiz))],hp ([]),0⟩ μ),
  X2 Tryz.prog 33 0 Q (.loop (X2p 0 (Xd Tryz.f111))) [] ⟨fr [(0,(Lf (X0c.map X0))),(1,(aI .i64 Xa6)),(6,(aI .i64 Xma))],hp ([]),0⟩ μ:=by
 intro n
 induction n with
 |zero=>intro Xma o h C0;cases h
 |succ n ih =>
  intro Xma o h C0;rw[X3k] at h;refine X2.round ?_;revert h;refine bI λXz1 h27=>rnI [.stop 2] ?_;intro h;refine X2.join (s':=⟨fr [(0,(Lf (X0c.map X0))),(1,(aI .i64 Xa6)),(6,(aI .i64 Xma)),(20,(aB Xz1))],hp ([]),0⟩) ?_ (λJ=>X2.cut ?_)
  ·
   revert h;refine brI (λh28=>?_) λh28=>λe=>X6 [Bf] (k:=wkT [] (C0 _  (oj e).symm));refine rnI [Bt,.wrap] ?_;intro h;exact wkT [] (ih  _ o h C0)
  clear h;revert h27;refine brI (λh24=>?_) λh24=>?_
  ·
   refine bI λe25 h26=>?_;try have qh26:=Xm h26
   intro h;obtain rfl:=oj h;exact X6 [.el (aI .i64 (X0c.length:Int)),Gt,Gt,Gt,.el (X0 e25),Gt,Gt,Gt,Gt,Gt] (k:=wkT [] (X2.glue J))
  intro h;obtain rfl:=oj h;exact X6 [.el (aI .i64 (X0c.length:Int)),Gf,Gf,Gf,Gf,Gf,Gf,Gf,Gf] (k:=wkT [] (X2.glue J))
instance Xxr:PCs Tryz.prog 111 (∀ (a0:(List X1)) (a1:Int) (r:(List X1)×(List X1)),X7c a0 a1=some r->X0a Tryz.prog 111 [(Lf (a0.map X0)),(aI .i64 a1)] (AV.tup [(Lt (r.1.map X0)),(Lt (r.2.map X0))])):=⟨λa0 a1 r h=>by
 refine X0a.sym X3 X0d9 (nt:=33) rfl rfl ?_ okM;unfold X7c at h;revert h;refine bI λo29 h30=>rnI [] ?_;intro h;refine wkT [] (X2.cut (Xgu a0 a1 _ _ _ h30 ?_));intro Xiz eo29;subst eo29;refine X2.glue ?_;try dsimp only at h
 revert h;refine bI λm31 h32=>?_;obtain⟨qah32,qbh32,qch32,qh32⟩:=X2z h32;have qlh32:=X5y h32;refine brI (λq=>?_) λq=>?_
 ·
  intro h;have h33:m31=[]:=List.isEmpty_iff.1 q;revert h;refine bI λm34 h35=>?_;obtain⟨qah35,qbh35,qch35,qh35⟩:=X2z h35;have qlh35:=X5y h35;refine brI (λq=>?_) λq=>?_
  ·
   intro h;have h36:m34=[]:=List.isEmpty_iff.1 q;revert h;exact λe=>oj e▸X6 [.via (Lf (m31.map X0)),.ne false,.via (Lf (m34.map X0)),.ne false] (o:=by repeat' first|apply Ya|exact pcM|(simp at qah32 qbh32 qch32 ⊢;omega)|(rw[qh32];simp[Ym,Yd];done)|(simp at qah35 qbh35 qch35 ⊢;omega)|(rw[qh35];simp[Ym,Yd];done)|exact Xv) (k:=fi)
  intro h;have h36:¬ (m34=[]):=(λe=>by rw[e] at q;cases q);revert h;exact bI λu37 h38=>λe=>oj e▸X6 [.via (Lf (m31.map X0)),.ne false,.via (Lf (m34.map X0)),.via (Lt (m34.map X0))] (o:=by repeat' first|apply Ya|exact pcM|(simp at qah32 qbh32 qch32 ⊢;omega)|(rw[qh32];simp[Ym,Yd];done)|(simp at qah35 qbh35 qch35 ⊢;omega)|(rw[qh35];simp[Ym,Yd];done)|(refine X0t h38 rfl ?_;first|(simp<;>omega)|(simp[h33,h36]<;>omega))|(refine X09 h38 (by decide) ?_;first|(simp<;>omega)|(simp[h33,h36]<;>omega))|exact Xv) (k:=fi)
 intro h;have h33:¬ (m31=[]):=(λe=>by rw[e] at q;cases q);revert h;refine bI λu39 h40=>bI λm41 h42=>?_;obtain⟨qah42,qbh42,qch42,qh42⟩:=X2z h42;have qlh42:=X5y h42;refine brI (λq=>?_) λq=>?_
 ·
  intro h;have h43:m41=[]:=List.isEmpty_iff.1 q;revert h;exact λe=>oj e▸X6 [.via (Lf (m31.map X0)),.via (Lt (m31.map X0)),.via (Lf (m41.map X0)),.ne false] (o:=by repeat' first|apply Ya|exact pcM|(simp at qah32 qbh32 qch32 ⊢;omega)|(rw[qh32];simp[Ym,Yd];done)|(refine X0t h40 rfl ?_;first|(simp<;>omega)|(simp[h33,h43]<;>omega))|(refine X09 h40 (by decide) ?_;first|(simp<;>omega)|(simp[h33,h43]<;>omega))|(simp at qah42 qbh42 qch42 ⊢;omega)|(rw[qh42];simp[Ym,Yd];done)|exact Xv) (k:=fi)
 intro h;have h43:¬ (m41=[]):=(λe=>by rw[e] at q;cases q);revert h;exact bI λu44 h45=>λe=>oj e▸X6 [.via (Lf (m31.map X0)),.via (Lt (m31.map X0)),.via (Lf (m41.map X0)),.via (Lt (m41.map X0))] (o:=by repeat' first|apply Ya|exact pcM|(simp at qah32 qbh32 qch32 ⊢;omega)|(rw[qh32];simp[Ym,Yd];done)|(refine X0t h40 rfl ?_;first|(simp<;>omega)|(simp[h33,h43]<;>omega))|(refine X09 h40 (by decide) ?_;first|(simp<;>omega)|(simp[h33,h43]<;>omega))|(simp at qah42 qbh42 qch42 ⊢;omega)|(rw[qh42];simp[Ym,Yd];done)|(refine X0t h45 rfl ?_;first|(simp<;>omega)|(simp[h33,h43]<;>omega))|(refine X09 h45 (by decide) ?_;first|(simp<;>omega)|(simp[h33,h43]<;>omega))|exact Xv) (k:=fi)⟩
instance X02r:PCs Tryz.prog 113 (∀ (a0:Int) (a1:Xn) (r:Int),Xd1 a0 a1=some r->X0a Tryz.prog 113 [(aI .u8 a0),(Xw a1)] (aI .i64 r)):=⟨λa0 a1 r h=>by
 refine X0a.sym X3 X0d7 (nt:=20) rfl rfl ?_ okM;unfold Xd1 at h;revert h;exact brI (λh1=>λe=>oj e▸X6 [Bt] (k:=fi)) λh1=>brI (λh2=>λe=>oj e▸X6 [Bf,Bt] (k:=fi)) λh2=>brI (λh3=>λe=>oj e▸X6 [Bf,Bf,Bt] (k:=fi)) λh3=>λe=>oj e▸X6 [Bf,Bf,Bf] (k:=fi)⟩
instance X02h:PCs Tryz.prog 85 (∀ (a0:X0l) (a1:X1) (r:X0y),Xac a0 a1=some r->X0a Tryz.prog 85 [(X0b false a0),(X0 a1)] (Xg r)):=⟨λa0 a1 r h=>by
 refine X0a.sym X3 fn85 (nt:=17) rfl rfl ?_ okM;unfold Xac at h;revert h;exact bI λv1 h2=>λe=>oj e▸X6 [.ix 0,.pure _ (aI .i64 v1)] (k:=fi)⟩
theorem Xju {Q:X04->St->Mu->Prop} {μ:Mu} (Xh:X0l) (Xq:Xk) (Xkx:Int) (Xkw:Int) (Xkv:Int) (Xku:(List Int)) (Xkt:(List X1)) (Xks:(List Xs)) (Xkr:(List X0y)) (Xkq:(List Xc)) (X22:(List X1)) (hl:X22.length<=140737488355328):∀ (xs:List X1) (k:Nat) (hx:X22.drop k=xs) (X0o:(List X03)) (X25:Nb X0o) (o:Xay) (h:X39 Xh Xq Xkx Xkw Xkv Xku Xkt Xks Xkr Xkq X22 xs k X0o=some o)
  (C0:∀ (Xcc:(List X03)) (Xfj:Nb Xcc),o=Xay.x0 Xcc->X2 Tryz.prog 85 0 Q (.exit (.exit 0)) [] ⟨fr [(8,(AV.ptr 0 0 0)),(14,(AV.ptr 1 0 0))],hp ([(0,Ob [(Xa true Xq)] 9),(1,Ob [AV.agg [(aI .u8 Xkx),(aI .i64 Xkw),(aI .i64 Xkv),(slE Xfj.1 2 (Xcc.map Xf)),(Lt (List.map (aI .i64) Xku)),(Lt (Xkt.map X0)),(Lt (Xks.map X7)),(Lt (Xkr.map Xg)),(Lt (Xkq.map X5))]] 9)]++opE Xfj.1 2 11 (Xcc.map Xf)),3⟩ μ),
  X2 Tryz.prog 85 0 Q (.loop (X2p 0 (Xd Tryz.f40))) [] ⟨fr [(4,(AV.ptr 0 0 0)),(8,(AV.ptr 1 0 0)),(14,(AV.ptr 2 0 0)),(15,(Lt (X22.map X0))),(17,(aI .i64 (k:Int)))],hp ([(0,Ob [(X0b false Xh)] 10),(1,Ob [(Xa true Xq)] 9),(2,Ob [AV.agg [(aI .u8 Xkx),(aI .i64 Xkw),(aI .i64 Xkv),(slE X25.1 3 (X0o.map Xf)),(Lt (List.map (aI .i64) Xku)),(Lt (Xkt.map X0)),(Lt (Xks.map X7)),(Lt (Xkr.map Xg)),(Lt (Xkq.map X5))]] 9)]++opE X25.1 3 11 (X0o.map Xf)),4⟩ μ:=by
 intro xs
 induction xs with
 |nil =>
  intro k hx X0o X25 o h C0;have hk:=X1f hx;have hc:decide ((k:Int)<(X22.length:Int))=false:=Yf om;rw[X39] at h;rcases X25 with ⟨_|_,X82⟩
  ·
   refine X2.round ?_;revert h;exact λe=>X6 [.el (aI .i64 (X22.length:Int)),Bf] (k:=wkT [(0,1),(1,2),(2,3)] (C0 _  nbF (oj e).symm))
  ·
   obtain rfl:=X82 rfl;refine X2.round ?_;revert h;exact λe=>X6 [.el (aI .i64 (X22.length:Int)),Bf] (k:=wkT [(0,1),(1,2)] (C0 _  nbS (oj e).symm))
 |cons x xs ih =>
  intro k hx X0o X25 o h C0;obtain⟨hk,hg,hx1⟩:=X0u hx;have hc:decide ((k:Int)<(X22.length:Int))=true:=Yt om;rw[X39] at h;rcases X25 with ⟨_|_,X82⟩<;>(try obtain rfl:=X82 rfl);all_goals
   refine X2.round ?_;revert h;refine bI λv215 h216=>bI λu217 h218=>rnI [.el (aI .i64 (X22.length:Int)),Bt,.el (X0 x),.pure _ (Xg v215),.no] (o:=by repeat' first|apply Ya|exact pcM|(refine X0t h218 rfl ?_;first|(simp<;>omega)|(simp[hc]<;>omega))|(refine X09 h218 (by decide) ?_;first|(simp<;>omega)|(simp[hc]<;>omega))|exact Xv) ?_;intro h;exact wkT [(3,15)] (ih (k+1) hx1 _ nbF o h C0)
end Go.Av.Tryz