/- Printed by decomp.py: that the program computes the functions. -/
import Derived.Test.YtmkegegjcihooaaGreatDCert8Z
set_option linter.all false

namespace Go.Av.Tryz
open Go.Proofs Go.D
set_option maxRecDepth 100000
set_option maxHeartbeats 40000000
theorem Xkq {Q:Xp->St->Mu->Prop} {μ:Mu} (X85:(List Int)) (hl:X85.length<=140737488355328):∀ (xs:List Int) (k:Nat) (hx:X85.drop k=xs) (o:X96) (h:X6n X85 xs k  = some o)
  (C0:o=X96.x0->X0 Tryz.prog 18 0 Q (.exit (.exit 0)) [] ⟨fr [(3,(aI .i64 0))],hp ([]),0⟩ μ)
  (C1:∀ (X7s:Int),o=X96.x1 X7s->X0 Tryz.prog 18 0 Q (.exit .ret) [] ⟨fr [(2,(aI .i64 X7s))],hp ([]),0⟩ μ),
  X0 Tryz.prog 18 0 Q (.loop (X0w 0 (Xd Tryz.f76))) [] ⟨fr [(3,(aI .i64 0)),(6,(Lf (List.map (aI .i64) X85))),(7,(aI .i64 (X85.length:Int))),(8,(aI .i64 (k:Int)))],hp ([]),0⟩ μ:=by
 intro xs
 induction xs with
 |nil =>
  intro k hx  o h C0 C1;have hk:=X06 hx;have hc:decide ((k:Int)<(X85.length:Int))=false:=Yf om;rw[X6n] at h;refine X0.round ?_;revert h;exact λe=>X3 [Bf] (k:=wkT [] (C0  (oj e).symm))
 |cons x xs ih =>
  intro k hx  o h C0 C1;obtain⟨hk,hg,hx1⟩:=Xy hx;have hc:decide ((k:Int)<(X85.length:Int))=true:=Yt om;rw[X6n] at h;refine X0.round ?_;revert h;refine brI (λh6=>λe=>X3 [Bt,.el (aI .i64 x),Bt] (k:=wkT [] (C1 _  (oj e).symm))) λh6=>rnI [Bt,.el (aI .i64 x),Bf] ?_;intro h;exact wkT [] (ih (k+1) hx1  o h C0 C1)
instance X04e:PCs Tryz.prog 76 (∀ (a0:(List Int)) (r:Int),Xe0 a0=some r->X05 Tryz.prog 76 [(Lf (List.map (aI .i64) a0))] (aI .i64 r)):=⟨λa0 r h=>by
 refine X05.sym X9 fn76 (nt:=18) rfl rfl ?_ okM;unfold Xe0 at h;revert h;refine bI λu1 h2=>?_;have qh2:=X0l h2;refine bI λo7 h8=>rnI [.el (aI .i64 (a0.length:Int))] ?_;intro h;refine wkT [] (X0.cut (Xkq a0 qh2 a0 0 (by simp) _ h8 ?_ ?_))
 ·
  intro eo7;subst eo7;refine X0.glue ?_;try dsimp only at h
  revert h;exact λe=>oj e▸X3 [] (k:=fi)
 intro X7s eo7;subst eo7;refine X0.glue ?_;try dsimp only at h
 revert h;exact λe=>oj e▸X3 [] (k:=fi)⟩
instance X011:PCs Tryz.prog 219 (∀ (a0:Xg) (a1:Xg) (r:Int),Xbp a0 a1=some r->X05 Tryz.prog 219 [(X1 a0),(X1 a1)] (aI .i64 r)):=⟨λa0 a1 r h=>by
 refine X05.sym X9 X0cj (nt:=26) rfl rfl ?_ okM;unfold Xbp at h;revert h;exact bI λv1 h2=>bI λv3 h4=>bI λv5 h6=>bI λv7 h8=>λe=>oj e▸X3 [.pure _ (aI .i64 v1),.pure _ (aI .i64 v3),.pure _ (aI .i64 v5),.pure _ (aI .i64 v7)] (k:=fi)⟩
theorem X9j {Q:Xp->St->Mu->Prop} {μ:Mu} (X08:(List Xg)) (hl:X08.length<=140737488355328):∀ (xs:List Xg) (k:Nat) (hx:X08.drop k=xs) (o:X71) (h:X2l X08 xs k  = some o)
  (C0:o=X71.x0->X0 Tryz.prog 33 0 Q (.exit (.exit 0)) [] ⟨fr [],hp ([]),0⟩ μ)
  (C1:o=X71.x1->X0 Tryz.prog 33 0 Q (.exit .ret) [] ⟨fr [(2,(aI .i64 8))],hp ([]),0⟩ μ),
  X0 Tryz.prog 33 0 Q (.loop (X0w 0 (Xd Tryz.f159))) [] ⟨fr [(0,(Lf (X08.map X1))),(8,(Lf (X08.map X1))),(9,(aI .i64 (X08.length:Int))),(10,(aI .i64 (k:Int)))],hp ([]),0⟩ μ:=by
 intro xs
 induction xs with
 |nil =>
  intro k hx  o h C0 C1;have hk:=X06 hx;have hc:decide ((k:Int)<(X08.length:Int))=false:=Yf om;rw[X2l] at h;refine X0.round ?_;revert h;exact λe=>X3 [Bf] (k:=wkT [] (C0  (oj e).symm))
 |cons x xs ih =>
  intro k hx  o h C0 C1;obtain⟨hk,hg,hx1⟩:=Xy hx;have hc:decide ((k:Int)<(X08.length:Int))=true:=Yt om;rw[X2l] at h;refine X0.round ?_;revert h;refine bI λXz8 h60=>rnI [Bt,.el (X1 x),.stop 6] ?_;intro h;refine X0.join (s':=⟨fr [(0,(Lf (X08.map X1))),(8,(Lf (X08.map X1))),(9,(aI .i64 (X08.length:Int))),(10,(aI .i64 (k:Int))),(31,(aB Xz8))],hp ([]),0⟩) ?_ (λJ=>X0.cut ?_)
  ·
   revert h;refine brI (λh61=>λe=>X3 [Bt] (k:=wkT [] (C1  (oj e).symm))) λh61=>rnI [Bf] ?_;intro h;exact wkT [] (ih (k+1) hx1  o h C0 C1)
  clear h;revert h60;refine bI λv52 h53=>brI (λh54=>?_) λh54=>?_
  ·
   intro h;obtain rfl:=oj h;exact X3 [.pure _ (aB v52),Gf,Gf,Gf,.no,.no,.no,.no,.no,.no,.no,.no,Gf,Gt] (k:=wkT [] (X0.glue J))
  refine brI (λh55=>?_) λh55=>?_
  ·
   refine bI λe56 h57=>?_;try have qh57:=Xi h57
   refine bI λv58 h59=>?_;intro h;obtain rfl:=oj h;exact X3 [.pure _ (aB v52),Gt,Gt,Gt,Gt,Gt,Gt,.wrap,Gt,.el (X1 e56),Gt,Gt,Gt,.pure _ (aI .i64 v58),Gt,Gt] (k:=wkT [] (X0.glue J))
  intro h;obtain rfl:=oj h;exact X3 [.pure _ (aB v52),Gt,Gt,Gt,Gf,Gf,Gf,Gf,Gf,Gf,Gf,Gf,Gt,Gf] (k:=wkT [] (X0.glue J))
instance Xn4:PCs Tryz.prog 159 (∀ (a0:(List Xg)) (r:Int),X7l a0=some r->X05 Tryz.prog 159 [(Lf (a0.map X1))] (aI .i64 r)):=⟨λa0 r h=>by
 refine X05.sym X9 X0d6 (nt:=33) rfl rfl ?_ okM;unfold X7l at h;revert h;refine brI (λh1=>λe=>oj e▸X3 [.el (aI .i64 (a0.length:Int)),Bt] (k:=fi)) λh1=>bI λu2 h3=>?_;have qh3:=X0l h3;refine bI λo62 h63=>rnI [.el (aI .i64 (a0.length:Int)),Bf,.el (aI .i64 (a0.length:Int))] ?_;intro h;refine wkT [] (X0.cut (X9j a0 qh3 a0 0 (by simp) _ h63 ?_ ?_))
 ·
  intro eo62;subst eo62;refine X0.glue ?_;try dsimp only at h
  revert h;exact λe=>oj e▸X3 [] (k:=fi)
 intro eo62;subst eo62;refine X0.glue ?_;try dsimp only at h
 revert h;exact λe=>oj e▸X3 [] (k:=fi)⟩
instance X010:PCs Tryz.prog 160 (∀ (a0:Int) (r:Bool),Xbj a0=some r->X05 Tryz.prog 160 [(aI .i64 a0)] (aB r)):=⟨λa0 r h=>by
 refine X05.sym X9 X0d5 (nt:=11) rfl rfl ?_ okM;unfold Xbj at h;revert h;refine bI λj4_2 h8=>rnI [.stop 1] ?_;intro h;refine X0.join (s':=⟨fr [(2,(aB j4_2))],hp ([]),0⟩) ?_ (λJ=>X0.cut ?_)
 ·
  revert h;exact λe=>oj e▸X3 [] (k:=fi)
 clear h;revert h8;refine brI (λh5=>?_) λh5=>?_
 ·
  intro h;obtain rfl:=oj h;exact X3 [Gf,Gf,Gf,Gf] (k:=wkT [] (X0.glue J))
 refine bI λv6 h7=>?_;intro h;obtain rfl:=oj h;exact X3 [Gt,Gt,Gt,.pure _ (aI .i64 v6),Gt] (k:=wkT [] (X0.glue J))⟩
instance X03h:PCs Tryz.prog 135 (∀ (a0:X5m) (r:Xo×Int),Xg6 a0=some r->X05 Tryz.prog 135 [(X0u a0)] (AV.tup [(Xw r.1),(aI .i64 r.2)])):=⟨λa0 r h=>by
 refine X05.sym X9 X0dh (nt:=34) rfl rfl ?_ okM;unfold Xg6 at h;revert h;refine brI (λh1=>?_) λh1=>?_
 ·
  refine bI λX077 h9=>rnI [Bt,.stop 2] ?_;intro h;refine X0.join (s':=⟨fr [(1,(AV.ptr 0 0 0)),(2,(AV.ptr 1 0 0)),(15,(aB X077))],hp ([(0,Ob [(X0u a0)] 5),(1,Ob [(Xw (Xo.mk 0 (X07.mk 0 0 0) 0 (X9f.mk 0 (X5w.mk 0 0) (V2.mk 0 0))))] 10)]),2⟩) ?_ (λJ=>X0.cut ?_)
  ·
   revert h;exact brI (λh10=>λe=>oj e▸X3 [Bt] (k:=fi)) λh10=>λe=>oj e▸X3 [Bf] (k:=fi)
  clear h;revert h9;refine bI λv6 h7=>brI (λh8=>?_) λh8=>?_
  ·
   intro h;obtain rfl:=oj h;exact X3 [.pure _ (aB v6),Gf,Gf,Gf,Gf] (k:=wkT [] (X0.glue J))
  intro h;obtain rfl:=oj h;exact X3 [.pure _ (aB v6),Gt,Gt,Gt,Gt] (k:=wkT [] (X0.glue J))
 refine bI λXzk h18=>rnI [Bf,.stop 5] ?_;intro h;refine X0.join (s':=⟨fr [(1,(AV.ptr 0 0 0)),(2,(AV.ptr 1 0 0)),(29,(aB Xzk))],hp ([(0,Ob [(X0u a0)] 5),(1,Ob [(Xw (Xo.mk 0 (X07.mk 0 0 0) 0 (X9f.mk 0 (X5w.mk 0 0) (V2.mk 0 0))))] 10)]),2⟩) ?_ (λJ=>X0.cut ?_)
 ·
  revert h;exact brI (λh19=>λe=>oj e▸X3 [Bt] (k:=fi)) λh19=>λe=>oj e▸X3 [Bf] (k:=fi)
 clear h;revert h18;refine brI (λh15=>?_) λh15=>?_
 ·
  intro h;obtain rfl:=oj h;exact X3 [Gf,Gf,Gf,Gf,Gf] (k:=wkT [] (X0.glue J))
 refine bI λv16 h17=>?_;intro h;obtain rfl:=oj h;exact X3 [Gt,Gt,Gt,Gt,.pure _ (aB v16),Gt] (k:=wkT [] (X0.glue J))⟩
instance Xwm:PCs Tryz.prog 161 (∀ (a0:X5m) (r:Int),X90 a0=some r->X05 Tryz.prog 161 [(X0u a0)] (aI .i64 r)):=⟨λa0 r h=>by
 refine X05.sym X9 X0d4 (nt:=11) rfl rfl ?_ okM;unfold X90 at h;revert h;exact bI λv1 h2=>λe=>oj e▸X3 [.pure _ (AV.tup [(Xw v1.1),(aI .i64 v1.2)])] (k:=fi)⟩
theorem Xk9 {Q:Xp->St->Mu->Prop} {μ:Mu} (Xe:Xv) (Xf9:(List Int)) (hl:Xf9.length<=140737488355328):∀ (xs:List Int) (k:Nat) (hx:Xf9.drop k=xs) (Xn0:Bool) (o:Xbo) (h:X3v Xe Xf9 xs k Xn0=some o)
  (C0:∀ (Xig:Bool),o=Xbo.x0 Xig->X0 Tryz.prog 202 0 Q (.exit (.exit 0)) [] ⟨fr [(1,(AV.ptr 0 0 0)),(11,(aB Xig))],hp ([(0,Ob [(Xa false Xe)] 9)]),1⟩ μ),
  X0 Tryz.prog 202 0 Q (.loop (X0w 0 (Xd Tryz.f105))) [] ⟨fr [(1,(AV.ptr 0 0 0)),(11,(aB Xn0)),(122,(Lf (List.map (aI .i64) Xf9))),(123,(aI .i64 (Xf9.length:Int))),(124,(aI .i64 (k:Int)))],hp ([(0,Ob [(Xa false Xe)] 9)]),1⟩ μ:=by
 intro xs
 induction xs with
 |nil =>
  intro k hx Xn0 o h C0;have hk:=X06 hx;have hc:decide ((k:Int)<(Xf9.length:Int))=false:=Yf om;rw[X3v] at h;refine X0.round ?_;revert h;exact λe=>X3 [Bf] (k:=wkT [] (C0 _  (oj e).symm))
 |cons x xs ih =>
  intro k hx Xn0 o h C0;obtain⟨hk,hg,hx1⟩:=Xy hx;have hc:decide ((k:Int)<(Xf9.length:Int))=true:=Yt om;rw[X3v] at h;refine X0.round ?_;revert h;refine bI λXz5 h76=>rnI [Bt,.el (aI .i64 x),.stop 10] ?_;intro h;refine X0.join (s':=⟨fr [(1,(AV.ptr 0 0 0)),(11,(aB Xz5)),(122,(Lf (List.map (aI .i64) Xf9))),(123,(aI .i64 (Xf9.length:Int))),(124,(aI .i64 (k:Int)))],hp ([(0,Ob [(Xa false Xe)] 9)]),1⟩) ?_ (λJ=>X0.cut ?_)
  ·
   exact X3 [] (k:=wkT [] (ih (k+1) hx1 _ o h C0))
  clear h;revert h76;refine brI (λh73=>?_) λh73=>?_
  ·
   refine bI λv74 h75=>?_;intro h;obtain rfl:=oj h;exact X3 [Gt,Gt,.pure _ (aB v74)] (k:=wkT [] (X0.glue J))
  intro h;obtain rfl:=oj h;exact X3 [Gf,Gf] (k:=wkT [] (X0.glue J))
theorem Xk8 {Q:Xp->St->Mu->Prop} {μ:Mu} (X09:Xv) (Xf8:(List X5m)) (hl:Xf8.length<=140737488355328):∀ (xs:List X5m) (k:Nat) (hx:Xf8.drop k=xs) (Xmy:Bool) (o:Xbn) (h:X3u X09 Xf8 xs k Xmy=some o)
  (C0:∀ (Xif:Bool),o=Xbn.x0 Xif->X0 Tryz.prog 202 0 Q (.exit (.exit 2)) [] ⟨fr [(1,(AV.ptr 0 0 0)),(11,(aB Xif))],hp ([(0,Ob [(Xa false X09)] 9)]),1⟩ μ),
  X0 Tryz.prog 202 0 Q (.loop (X0w 1 (Xd Tryz.f105))) [] ⟨fr [(1,(AV.ptr 0 0 0)),(11,(aB Xmy)),(135,(Lf (Xf8.map X0u))),(136,(aI .i64 (Xf8.length:Int))),(137,(aI .i64 (k:Int)))],hp ([(0,Ob [(Xa false X09)] 9)]),1⟩ μ:=by
 intro xs
 induction xs with
 |nil =>
  intro k hx Xmy o h C0;have hk:=X06 hx;have hc:decide ((k:Int)<(Xf8.length:Int))=false:=Yf om;rw[X3u] at h;refine X0.round ?_;revert h;exact λe=>X3 [Bf] (k:=wkT [] (C0 _  (oj e).symm))
 |cons x xs ih =>
  intro k hx Xmy o h C0;obtain⟨hk,hg,hx1⟩:=Xy hx;have hc:decide ((k:Int)<(Xf8.length:Int))=true:=Yt om;rw[X3u] at h;refine X0.round ?_;revert h;refine bI λXsu h105=>rnI [Bt,.el (X0u x),.stop 15] ?_;intro h;refine X0.join (s':=⟨fr [(1,(AV.ptr 0 0 0)),(11,(aB Xsu)),(135,(Lf (Xf8.map X0u))),(136,(aI .i64 (Xf8.length:Int))),(137,(aI .i64 (k:Int)))],hp ([(0,Ob [(Xa false X09)] 9)]),1⟩) ?_ (λJ=>X0.cut ?_)
  ·
   exact X3 [] (k:=wkT [] (ih (k+1) hx1 _ o h C0))
  clear h;revert h105;refine brI (λh102=>?_) λh102=>?_
  ·
   refine bI λv103 h104=>?_;intro h;obtain rfl:=oj h;exact X3 [Gt,Gt,.pure _ (aI .i64 v103),Gt] (k:=wkT [] (X0.glue J))
  intro h;obtain rfl:=oj h;exact X3 [Gf,Gf,Gf] (k:=wkT [] (X0.glue J))
theorem Xk7 {Q:Xp->St->Mu->Prop} {μ:Mu} (X31:Xv) (Xf7:(List X9f)) (hl:Xf7.length<=140737488355328):∀ (xs:List X9f) (k:Nat) (hx:Xf7.drop k=xs) (Xmx:Bool) (o:Xbm) (h:X3t X31 Xf7 xs k Xmx=some o)
  (C0:∀ (Xie:Bool),o=Xbm.x0 Xie->X0 Tryz.prog 202 0 Q (.exit (.exit 4)) [] ⟨fr [(1,(AV.ptr 0 0 0)),(11,(aB Xie))],hp ([(0,Ob [(Xa false X31)] 9)]),1⟩ μ),
  X0 Tryz.prog 202 0 Q (.loop (X0w 2 (Xd Tryz.f105))) [] ⟨fr [(1,(AV.ptr 0 0 0)),(11,(aB Xmx)),(149,(Lf (Xf7.map X3z))),(150,(aI .i64 (Xf7.length:Int))),(151,(aI .i64 (k:Int)))],hp ([(0,Ob [(Xa false X31)] 9)]),1⟩ μ:=by
 intro xs
 induction xs with
 |nil =>
  intro k hx Xmx o h C0;have hk:=X06 hx;have hc:decide ((k:Int)<(Xf7.length:Int))=false:=Yf om;rw[X3t] at h;refine X0.round ?_;revert h;exact λe=>X3 [Bf] (k:=wkT [] (C0 _  (oj e).symm))
 |cons x xs ih =>
  intro k hx Xmx o h C0;obtain⟨hk,hg,hx1⟩:=Xy hx;have hc:decide ((k:Int)<(Xf7.length:Int))=true:=Yt om;rw[X3t] at h;refine X0.round ?_;revert h;refine bI λXsr h134=>rnI [Bt,.el (X3z x),.stop 20] ?_;intro h;refine X0.join (s':=⟨fr [(1,(AV.ptr 0 0 0)),(11,(aB Xsr)),(149,(Lf (Xf7.map X3z))),(150,(aI .i64 (Xf7.length:Int))),(151,(aI .i64 (k:Int)))],hp ([(0,Ob [(Xa false X31)] 9)]),1⟩) ?_ (λJ=>X0.cut ?_)
  ·
   exact X3 [] (k:=wkT [] (ih (k+1) hx1 _ o h C0))
  clear h;revert h134;refine brI (λh131=>?_) λh131=>?_
  ·
   refine bI λv132 h133=>?_;intro h;obtain rfl:=oj h;exact X3 [Gt,Gt,Gt,.pure _ (aI .i64 v132),Gt] (k:=wkT [] (X0.glue J))
  intro h;obtain rfl:=oj h;exact X3 [Gf,Gf,Gf,Gf] (k:=wkT [] (X0.glue J))
theorem Xk6 {Q:Xp->St->Mu->Prop} {μ:Mu} (X9i:Xv) (Xf5:(List X07)) (hl:Xf5.length<=140737488355328):∀ (xs:List X07) (k:Nat) (hx:Xf5.drop k=xs) (Xmw:Bool) (o:Xbl) (h:X3s X9i Xf5 xs k Xmw=some o)
  (C0:∀ (Xid:Bool),o=Xbl.x0 Xid->X0 Tryz.prog 202 0 Q (.exit (.exit 6)) [] ⟨fr [(1,(AV.ptr 0 0 0)),(11,(aB Xid))],hp ([(0,Ob [(Xa false X9i)] 9)]),1⟩ μ),
  X0 Tryz.prog 202 0 Q (.loop (X0w 3 (Xd Tryz.f105))) [] ⟨fr [(1,(AV.ptr 0 0 0)),(11,(aB Xmw)),(164,(Lf (Xf5.map X1b))),(165,(aI .i64 (Xf5.length:Int))),(166,(aI .i64 (k:Int)))],hp ([(0,Ob [(Xa false X9i)] 9)]),1⟩ μ:=by
 intro xs
 induction xs with
 |nil =>
  intro k hx Xmw o h C0;have hk:=X06 hx;have hc:decide ((k:Int)<(Xf5.length:Int))=false:=Yf om;rw[X3s] at h;refine X0.round ?_;revert h;exact λe=>X3 [Bf] (k:=wkT [] (C0 _  (oj e).symm))
 |cons x xs ih =>
  intro k hx Xmw o h C0;obtain⟨hk,hg,hx1⟩:=Xy hx;have hc:decide ((k:Int)<(Xf5.length:Int))=true:=Yt om;rw[X3s] at h;refine X0.round ?_;revert h;refine bI λXsq h163=>rnI [Bt,.el (X1b x),.stop 25] ?_;intro h;refine X0.join (s':=⟨fr [(1,(AV.ptr 0 0 0)),(11,(aB Xsq)),(164,(Lf (Xf5.map X1b))),(165,(aI .i64 (Xf5.length:Int))),(166,(aI .i64 (k:Int)))],hp ([(0,Ob [(Xa false X9i)] 9)]),1⟩) ?_ (λJ=>X0.cut ?_)
  ·
   exact X3 [] (k:=wkT [] (ih (k+1) hx1 _ o h C0))
  clear h;revert h163;refine brI (λh160=>?_) λh160=>?_
  ·
   refine bI λv161 h162=>?_;intro h;obtain rfl:=oj h;exact X3 [Gt,Gt,Gt,.pure _ (aI .i64 v161),Gt] (k:=wkT [] (X0.glue J))
  intro h;obtain rfl:=oj h;exact X3 [Gf,Gf,Gf,Gf] (k:=wkT [] (X0.glue J))
theorem Xk5 {Q:Xp->St->Mu->Prop} {μ:Mu} (Xex:Xv) (Xf4:(List Xg)) (hl:Xf4.length<=140737488355328):∀ (xs:List Xg) (k:Nat) (hx:Xf4.drop k=xs) (Xla:Bool) (o:Xbk) (h:X3r Xex Xf4 xs k Xla=some o)
  (C0:∀ (Xic:Bool),o=Xbk.x0 Xic->X0 Tryz.prog 202 0 Q (.exit (.exit 8)) [] ⟨fr [(11,(aB Xic))],hp ([]),0⟩ μ),
  X0 Tryz.prog 202 0 Q (.loop (X0w 4 (Xd Tryz.f105))) [] ⟨fr [(1,(AV.ptr 0 0 0)),(11,(aB Xla)),(179,(Lf (Xf4.map X1))),(180,(aI .i64 (Xf4.length:Int))),(181,(aI .i64 (k:Int)))],hp ([(0,Ob [(Xa false Xex)] 9)]),1⟩ μ:=by
 intro xs
 induction xs with
 |nil =>
  intro k hx Xla o h C0;have hk:=X06 hx;have hc:decide ((k:Int)<(Xf4.length:Int))=false:=Yf om;rw[X3r] at h;refine X0.round ?_;revert h;exact λe=>X3 [Bf] (k:=wkT [] (C0 _  (oj e).symm))
 |cons x xs ih =>
  intro k hx Xla o h C0;obtain⟨hk,hg,hx1⟩:=Xy hx;have hc:decide ((k:Int)<(Xf4.length:Int))=true:=Yt om;rw[X3r] at h;refine X0.round ?_;revert h;refine bI λXso h186=>rnI [Bt,.el (X1 x),.stop 30] ?_;intro h;refine X0.join (s':=⟨fr [(1,(AV.ptr 0 0 0)),(11,(aB Xso)),(179,(Lf (Xf4.map X1))),(180,(aI .i64 (Xf4.length:Int))),(181,(aI .i64 (k:Int)))],hp ([(0,Ob [(Xa false Xex)] 9)]),1⟩) ?_ (λJ=>X0.cut ?_)
  ·
   exact X3 [] (k:=wkT [] (ih (k+1) hx1 _ o h C0))
  clear h;revert h186;refine brI (λh184=>?_) λh184=>?_
  ·
   refine brI (λh185=>?_) λh185=>?_
   ·
    intro h;obtain rfl:=oj h;exact X3 [Gt,Gt,Gt,Gt,Gt,Gf,Gf,Gf,Gf,Gf,Gt] (k:=wkT [] (X0.glue J))
   intro h;obtain rfl:=oj h;exact X3 [Gt,Gt,Gt,Gt,Gt,Gt,Gt,.ix 1,Gt,Gt,Gt,Gt] (k:=wkT [] (X0.glue J))
  intro h;obtain rfl:=oj h;exact X3 [Gf,Gf,Gf,Gf,Gf,Gf,Gf,Gf,Gf,Gf,Gf] (k:=wkT [] (X0.glue J))
theorem Xyh {P:Prop} (h:P:=by repeat' first|apply Ya|exact pcM|exact fq (X6 h18 h19)|exact fq (X6 (X6 h18 h19) h20)|exact fq (X6 (X6 (X6 h18 h19) h20) h23)|exact fq (X6 (X6 (X6 (X6 h18 h19) h20) h23) h26)|exact fq (X6 (X6 (X6 (X6 (X6 h18 h19) h20) h23) h26) h29)|exact X04):P:=h
instance X02d:PCs Tryz.prog 105 (∀ (a0:Xv) (r:Int),Xda a0=some r->X05 Tryz.prog 105 [(Xa false a0)] (aI .i64 r)):=⟨λa0 r h=>by
 refine X05.sym X9 X0do (nt:=202) rfl rfl ?_ okM;unfold Xda at h;revert h;refine bI λv1 h2=>bI λXog h32=>rnI [.pure _ (AV.tup [(aI .i64 v1.1),(aI .i64 v1.2.1),(aB v1.2.2.1),(aB v1.2.2.2.1),(aB v1.2.2.2.2.1),(aB v1.2.2.2.2.2)]),.stop 3] ?_;intro h;refine X0.join (s':=⟨fr [(1,(AV.ptr 0 0 0)),(9,(aB (bif (bif (bif (decide (a0.Turn >= (0:Int))) then (decide (a0.Turn<(20:Int))) else false) then (decide (a0.Op.N >= (0:Int))) else false) then (decide (a0.Op.N<(4:Int))) else false))),(10,(aB Xog))],hp ([(0,Ob [(Xa false a0)] 9)]),1⟩) ?_ (λJ=>X0.cut ?_)
 ·
  revert h;refine bI λXsh h48=>rnI [.stop 4] ?_;intro h;refine X0.join (s':=⟨fr [(1,(AV.ptr 0 0 0)),(120,(aB Xsh))],hp ([(0,Ob [(Xa false a0)] 9)]),1⟩) ?_ (λJ=>X0.cut ?_)
  ·
   revert h;refine brI (λh49=>λe=>oj e▸X3 [Bt] (k:=fi)) λh49=>bI λu50 h51=>?_;have qh51:=X0l h51;refine bI λo77 h78=>rnI [Bf,.el (aI .i64 (a0.Marks.length:Int))] ?_;intro h;refine wkT [] (X0.cut (Xk9 a0 a0.Marks qh51 a0.Marks 0 (by simp) _ _ h78 ?_));intro Xig eo77;subst eo77;refine X0.glue ?_;try dsimp only at h
   revert h;refine bI λu79 h80=>?_;have qh80:=X0l h80;refine bI λo106 h107=>rnI [.el (aI .i64 (a0.Events.length:Int))] ?_;intro h;refine wkT [] (X0.cut (Xk8 a0 a0.Events qh80 a0.Events 0 (by simp) _ _ h107 ?_));intro Xif eo106;subst eo106;refine X0.glue ?_;try dsimp only at h
   revert h;refine bI λu108 h109=>?_;have qh109:=X0l h109;refine bI λo135 h136=>rnI [.el (aI .i64 (a0.Rows.length:Int))] ?_;intro h;refine wkT [] (X0.cut (Xk7 a0 a0.Rows qh109 a0.Rows 0 (by simp) _ _ h136 ?_));intro Xie eo135;subst eo135;refine X0.glue ?_;try dsimp only at h
   revert h;refine bI λu137 h138=>?_;have qh138:=X0l h138;refine bI λo164 h165=>rnI [.el (aI .i64 (a0.Late.length:Int))] ?_;intro h;refine wkT [] (X0.cut (Xk6 a0 a0.Late qh138 a0.Late 0 (by simp) _ _ h165 ?_));intro Xid eo164;subst eo164;refine X0.glue ?_;try dsimp only at h
   revert h;refine bI λu166 h167=>?_;have qh167:=X0l h167;refine bI λo187 h188=>rnI [.el (aI .i64 (a0.Store.length:Int))] ?_;intro h;refine wkT [] (X0.cut (Xk5 a0 a0.Store qh167 a0.Store 0 (by simp) _ _ h188 ?_));intro Xic eo187;subst eo187;refine X0.glue ?_;try dsimp only at h
   revert h;exact brI (λh189=>λe=>oj e▸X3 [Bt] (k:=fi)) λh189=>λe=>oj e▸X3 [Bf] (k:=fi)
  clear h;revert h48;refine brI (λh41=>?_) λh41=>?_
  ·
   intro h;obtain rfl:=oj h;exact X3 [Gf,Gf,Gf,Gf,Gf,Gf,Gf,Gf,Gf,Gf] (o:=by repeat' first|apply Ya|exact pcM|exact fq (X6 h41 rfl)|exact fq (X6 (X6 h41 rfl) rfl)|exact X04) (k:=wkT [] (X0.glue J))
  refine brI (λh42=>?_) λh42=>?_
  ·
   intro h;obtain rfl:=oj h;exact X3 [Gt,Gt,Gf,Gf,Gf,Gf,Gf,Gf,Gf,Gf] (o:=by repeat' first|apply Ya|exact pcM|exact fq (X5 h41 h42)|exact fq (X6 (X5 h41 h42) rfl)|exact X04) (k:=wkT [] (X0.glue J))
  refine bI λv43 h44=>brI (λh45=>?_) λh45=>?_
  ·
   intro h;obtain rfl:=oj h;exact X3 [Gt,Gt,Gt,Gt,Gt,.pure _ (aB v43),Gt,Gf,Gf,Gf,Gf] (o:=by repeat' first|apply Ya|exact pcM|exact fq (X5 h41 h42)|exact fq (X5 (X5 h41 h42) h45)|exact X04) (k:=wkT [] (X0.glue J))
  refine bI λv46 h47=>?_;intro h;obtain rfl:=oj h;exact X3 [Gt,Gt,Gt,Gt,Gt,.pure _ (aB v43),Gt,Gt,Gt,Gt,.pure _ (aI .i64 v46),Gt] (o:=by repeat' first|apply Ya|exact pcM|exact fq (X5 h41 h42)|exact fq (X5 (X5 h41 h42) h45)|exact X04) (k:=wkT [] (X0.glue J))
 clear h;revert h32;refine brI (λh18=>?_) λh18=>?_
 ·
  refine brI (λh19=>?_) λh19=>?_
  ·
   refine brI (λh20=>?_) λh20=>?_
   ·
    refine bI λv21 h22=>brI (λh23=>?_) λh23=>?_
    ·
     refine bI λv24 h25=>brI (λh26=>?_) λh26=>?_
     ·
      refine bI λv27 h28=>brI (λh29=>?_) λh29=>?_
      ·
       refine bI λv30 h31=>?_;intro h;obtain rfl:=oj h;exact X3 [X21.el (aI .i64 (a0.Pending.length:Int)),Gt,Gt,Gt,X21.el (aI .i64 (a0.Marks.length:Int)),Gt,Gt,Gt,Gt,Gt,X21.el (aI .i64 (a0.Marks.length:Int)),Gt,Gt,Gt,Gt,Gt,X21.el (aI .i64 (a0.Store.length:Int)),Gt,Gt,X21.pure _ (aI .i64 v21),Gt,Gt,Gt,Gt,X21.el (aI .i64 (a0.Events.length:Int)),Gt,Gt,X21.pure _ (aI .i64 v24),Gt,Gt,Gt,Gt,X21.el (aI .i64 (a0.Rows.length:Int)),Gt,Gt,X21.pure _ (aI .i64 v27),Gt,Gt,Gt,Gt,X21.el (aI .i64 (a0.Late.length:Int)),Gt,Gt,X21.pure _ (aI .i64 v30),Gt] (o:=Xyh) (k:=wkT [] (X0.glue J))
      intro h;obtain rfl:=oj h;exact X3 [X21.el (aI .i64 (a0.Pending.length:Int)),Gt,Gt,Gt,X21.el (aI .i64 (a0.Marks.length:Int)),Gt,Gt,Gt,Gt,Gt,X21.el (aI .i64 (a0.Marks.length:Int)),Gt,Gt,Gt,Gt,Gt,X21.el (aI .i64 (a0.Store.length:Int)),Gt,Gt,X21.pure _ (aI .i64 v21),Gt,Gt,Gt,Gt,X21.el (aI .i64 (a0.Events.length:Int)),Gt,Gt,X21.pure _ (aI .i64 v24),Gt,Gt,Gt,Gt,X21.el (aI .i64 (a0.Rows.length:Int)),Gt,Gt,X21.pure _ (aI .i64 v27),Gt,Gf,Gf,Gf,Gf,Gf,Gf,Gf] (o:=Xyh) (k:=wkT [] (X0.glue J))
     intro h;obtain rfl:=oj h;exact X3 [X21.el (aI .i64 (a0.Pending.length:Int)),Gt,Gt,Gt,X21.el (aI .i64 (a0.Marks.length:Int)),Gt,Gt,Gt,Gt,Gt,X21.el (aI .i64 (a0.Marks.length:Int)),Gt,Gt,Gt,Gt,Gt,X21.el (aI .i64 (a0.Store.length:Int)),Gt,Gt,X21.pure _ (aI .i64 v21),Gt,Gt,Gt,Gt,X21.el (aI .i64 (a0.Events.length:Int)),Gt,Gt,X21.pure _ (aI .i64 v24),Gt,Gf,Gf,Gf,Gf,Gf,Gf,Gf,Gf,Gf,Gf,Gf,Gf,Gf,Gf] (o:=by repeat' first|apply Ya|exact pcM|exact fq (X6 h18 h19)|exact fq (X6 (X6 h18 h19) h20)|exact fq (X6 (X6 (X6 h18 h19) h20) h23)|exact fq (X6 (X6 (X6 (X6 h18 h19) h20) h23) h26)|exact X04) (k:=wkT [] (X0.glue J))
    intro h;obtain rfl:=oj h;exact X3 [X21.el (aI .i64 (a0.Pending.length:Int)),Gt,Gt,Gt,X21.el (aI .i64 (a0.Marks.length:Int)),Gt,Gt,Gt,Gt,Gt,X21.el (aI .i64 (a0.Marks.length:Int)),Gt,Gt,Gt,Gt,Gt,X21.el (aI .i64 (a0.Store.length:Int)),Gt,Gt,X21.pure _ (aI .i64 v21),Gt,Gf,Gf,Gf,Gf,Gf,Gf,Gf,Gf,Gf,Gf,Gf,Gf,Gf,Gf,Gf,Gf,Gf,Gf,Gf,Gf,Gf] (o:=by repeat' first|apply Ya|exact pcM|exact fq (X6 h18 h19)|exact fq (X6 (X6 h18 h19) h20)|exact fq (X6 (X6 (X6 h18 h19) h20) h23)|exact X04) (k:=wkT [] (X0.glue J))
   intro h;obtain rfl:=oj h;exact X3 [X21.el (aI .i64 (a0.Pending.length:Int)),Gt,Gt,Gt,X21.el (aI .i64 (a0.Marks.length:Int)),Gt,Gt,Gt,Gt,Gt,X21.el (aI .i64 (a0.Marks.length:Int)),Gt,Gt,Gf,Gf,Gf,Gf,Gf,Gf,Gf,Gf,Gf,Gf,Gf,Gf,Gf,Gf,Gf,Gf,Gf,Gf,Gf,Gf,Gf,Gf,Gf,Gf,Gf,Gf,Gf,Gf] (o:=by repeat' first|apply Ya|exact pcM|exact fq (X6 h18 h19)|exact fq (X6 (X6 h18 h19) h20)|exact X04) (k:=wkT [] (X0.glue J))
  intro h;obtain rfl:=oj h;exact X3 [X21.el (aI .i64 (a0.Pending.length:Int)),Gt,Gt,Gt,X21.el (aI .i64 (a0.Marks.length:Int)),Gt,Gt,Gf,Gf,Gf,Gf,Gf,Gf,Gf,Gf,Gf,Gf,Gf,Gf,Gf,Gf,Gf,Gf,Gf,Gf,Gf,Gf,Gf,Gf,Gf,Gf,Gf,Gf,Gf,Gf,Gf,Gf,Gf,Gf,Gf,Gf] (o:=by repeat' first|apply Ya|exact pcM|exact fq (X6 h18 h19)|exact X04) (k:=wkT [] (X0.glue J))
 intro h;obtain rfl:=oj h;exact X3 [X21.el (aI .i64 (a0.Pending.length:Int)),Gf,Gf,Gf,Gf,Gf,Gf,Gf,Gf,Gf,Gf,Gf,Gf,Gf,Gf,Gf,Gf,Gf,Gf,Gf,Gf,Gf,Gf,Gf,Gf,Gf,Gf,Gf,Gf,Gf,Gf,Gf,Gf,Gf,Gf,Gf,Gf,Gf,Gf,Gf,Gf] (k:=wkT [] (X0.glue J))⟩
instance Xwo:PCs Tryz.prog 126 (∀ (a0:Int) (r:Bool),X2n a0=some r->X05 Tryz.prog 126 [(aI .i64 a0)] (aB r)):=⟨λa0 r h=>by
 refine X05.sym X9 X0di (nt:=6) rfl rfl ?_ okM;unfold X2n at h;revert h;exact λe=>oj e▸X3 [] (k:=fi)⟩
instance Xuk:PCs Tryz.prog 82 (∀ (a0:Int) (a1:Int) (r:Int),X4t a0 a1=some r->X05 Tryz.prog 82 [(aI .i64 a0),(aI .i64 a1)] (aI .i64 r)):=⟨λa0 a1 r h=>by
 refine X05.sym X9 fn82 (nt:=20) rfl rfl ?_ okM;unfold X4t at h;revert h;exact bI λv1 h2=>bI λv3 h4=>brI (λh5=>brI (λh6=>λe=>oj e▸X3 [.pure _ (aB v1),.pure _ (aB v3),Bt,Bt] (k:=fi)) λh6=>λe=>oj e▸X3 [.pure _ (aB v1),.pure _ (aB v3),Bt,Bf] (k:=fi)) λh5=>brI (λh7=>λe=>oj e▸X3 [.pure _ (aB v1),.pure _ (aB v3),Bf,Bt] (k:=fi)) λh7=>brI (λh8=>λe=>oj e▸X3 [.pure _ (aB v1),.pure _ (aB v3),Bf,Bf,Bt] (k:=fi)) λh8=>brI (λh9=>λe=>oj e▸X3 [.pure _ (aB v1),.pure _ (aB v3),Bf,Bf,Bf,Bt] (k:=fi)) λh9=>λe=>oj e▸X3 [.pure _ (aB v1),.pure _ (aB v3),Bf,Bf,Bf,Bf] (k:=fi)⟩
end Go.Av.Tryz