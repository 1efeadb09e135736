/- Printed by decomp.py: that the program computes the functions. -/
import Derived.Test.YtoodllakhlkekaaGreatDoorDFunZ
set_option linter.all false

namespace Go.Av.Tryz
open Go.Proofs Go.D
set_option maxRecDepth 10000
set_option maxHeartbeats 40000000
theorem tmD:X1h Tryz.prog Xam.find/\Tryz.prog.follows .mixedOrders=true:=⟨X4,by kernel_rfl⟩
instance tmI:TmD Tryz.prog Xam.find:=⟨tmD⟩
theorem fn3:X5d Tryz.prog 3 Tryz.f3 (X3 Tryz.f3):=⟨Tryz.func3,by kernel_rfl,rfl⟩
theorem fn6:X5d Tryz.prog 6 Tryz.f6 (X3 Tryz.f6):=⟨Tryz.func6,by kernel_rfl,rfl⟩
theorem fn7:X5d Tryz.prog 7 Tryz.f7 (X3 Tryz.f7):=⟨Tryz.func7,by kernel_rfl,rfl⟩
theorem fn8:X5d Tryz.prog 8 Tryz.f8 (X3 Tryz.f8):=⟨Tryz.func8,by kernel_rfl,rfl⟩
theorem fn10:X5d Tryz.prog 10 Tryz.f10 (X3 Tryz.f10):=⟨Tryz.func10,by kernel_rfl,rfl⟩
theorem fn17:X5d Tryz.prog 17 Tryz.f17 (X3 Tryz.f17):=⟨Tryz.func17,by kernel_rfl,rfl⟩
theorem fn18:X5d Tryz.prog 18 Tryz.f18 (X3 Tryz.f18):=⟨Tryz.func18,by kernel_rfl,rfl⟩
theorem fn19:X5d Tryz.prog 19 Tryz.f19 (X3 Tryz.f19):=⟨Tryz.func19,by kernel_rfl,rfl⟩
class AliveH:Prop where
 ok:Xu Tryz.prog 5 [] (.sc (.bool true))
instance X1k [AliveH]:PCs Tryz.prog 5 (∀ (r:Bool),X5q=some r->Xu Tryz.prog 5 [] (aB r)):=⟨λr h=>by
 obtain rfl:=oj h;exact AliveH.ok⟩
instance Xkp:PCs Tryz.prog 6 (∀ (a0:Xb) (r:Bool),X1q a0=some r->Xu Tryz.prog 6 [(Xe false a0)] (aB r)):=⟨λa0 r h=>by
 refine Xu.sym X4 fn6 (nt:=37) rfl rfl ?_ okM;unfold X1q at h;revert h;refine bI λXx3 h18=>rnI [.stop 1] ?_;intro h;refine Xd.join (s':=⟨fr [(2,(aB Xx3))],hp ([]),0⟩) ?_ (λJ=>Xd.cut ?_)
 ·
  revert h;exact λe=>oj e▸X0a [] (k:=fi)
 clear h;revert h18;refine brI (λh10=>?_) λh10=>?_
 ·
  refine brI (λh11=>?_) λh11=>?_
  ·
   intro h;obtain rfl:=oj h;exact X0a [.el (aI .i64 (a0.Rows.length:Int)),Gt,Gt,Gt,.el (aI .i64 (a0.Rows.length:Int)),Gt,Gf,Gf,Gf,Gf,Gf,Gf,Gf,Gf,Gf,Gf,Gf,Gf,Gf,Gf,Gf,Gf,Gf,Gf] (o:=by repeat' first|apply Ya|exact pcM|exact fq (X0 h10 h11)|exact fq (X0 (X0 h10 h11) rfl)|exact fq (X0 (X0 (X0 h10 h11) rfl) rfl)|exact X0p) (k:=wkT [] (Xd.glue J))
  refine rnI [.el (aI .i64 (a0.Rows.length:Int)),Gt,Gt,Gt,.el (aI .i64 (a0.Rows.length:Int)),Gt,Gt,Gt,Gt,.el (aI .i64 (a0.Rows.length:Int)),Gt,.stop 999999] (o:=by repeat' first|apply Ya|exact pcM|exact fq (X0 h10 h11)|exact X0p) ?_;refine brI (λh12=>?_) λh12=>?_
  ·
   intro h;obtain rfl:=oj h;exact X0a [Gf,Gf,Gf,Gf,Gf,Gf,Gf,Gf,Gf,Gf,Gf,Gf,Gf,Gf] (o:=by repeat' first|apply Ya|exact pcM|exact fq (X2 (X0 h10 h11) h12)|exact fq (X0 (X2 (X0 h10 h11) h12) rfl)|exact X0p) (k:=wkT [] (Xd.glue J))
  refine brI (λh13=>?_) λh13=>?_
  ·
   refine rnI [Gt,Gt,Gt,.el (aI .i64 (a0.Late.length:Int)),Gt,Gt,Gt,Gt,Gt,.el (aI .i64 (a0.Late.length:Int)),Gt,Gt,.stop 999999] (o:=by repeat' first|apply Ya|exact pcM|exact fq (X2 (X0 h10 h11) h12)|exact X0p) ?_;refine brI (λh14=>?_) λh14=>?_
   ·
    intro h;obtain rfl:=oj h;exact X0a [Gf,Gf,Gf,Gf] (o:=by repeat' first|apply Ya|exact pcM|exact fq (X2 (X2 (X0 h10 h11) h12) (X0 h13 h14))|exact X0p) (k:=wkT [] (Xd.glue J))
   intro h;obtain rfl:=oj h;exact X0a [Gt,Gt,Gt,.el (aI .i64 (a0.Late.length:Int)),Gt] (o:=by repeat' first|apply Ya|exact pcM|exact fq (X2 (X2 (X0 h10 h11) h12) (X0 h13 h14))|exact X0p) (k:=wkT [] (Xd.glue J))
  intro h;obtain rfl:=oj h;exact X0a [Gt,Gt,Gt,.el (aI .i64 (a0.Late.length:Int)),Gt,Gt,Gf,Gf,Gf,Gf,Gt,Gt,Gt,Gt,.el (aI .i64 (a0.Late.length:Int)),Gt] (o:=by repeat' first|apply Ya|exact pcM|exact fq (X2 (X0 h10 h11) h12)|exact fq (X2 (X2 (X0 h10 h11) h12) (X2 h13 rfl))|exact X0p) (k:=wkT [] (Xd.glue J))
 refine rnI [.el (aI .i64 (a0.Rows.length:Int)),Gf,Gf,Gf,Gf,Gt,Gt,Gt,.el (aI .i64 (a0.Rows.length:Int)),Gt,.stop 999999] (o:=by repeat' first|apply Ya|exact pcM|exact fq (X2 h10 rfl)|exact X0p) ?_;refine brI (λh15=>?_) λh15=>?_
 ·
  intro h;obtain rfl:=oj h;exact X0a [Gf,Gf,Gf,Gf,Gf,Gf,Gf,Gf,Gf,Gf,Gf,Gf,Gf,Gf] (o:=by repeat' first|apply Ya|exact pcM|exact fq (X2 (X2 h10 rfl) h15)|exact fq (X0 (X2 (X2 h10 rfl) h15) rfl)|exact X0p) (k:=wkT [] (Xd.glue J))
 refine brI (λh16=>?_) λh16=>?_
 ·
  refine rnI [Gt,Gt,Gt,.el (aI .i64 (a0.Late.length:Int)),Gt,Gt,Gt,Gt,Gt,.el (aI .i64 (a0.Late.length:Int)),Gt,Gt,.stop 999999] (o:=by repeat' first|apply Ya|exact pcM|exact fq (X2 (X2 h10 rfl) h15)|exact X0p) ?_;refine brI (λh17=>?_) λh17=>?_
  ·
   intro h;obtain rfl:=oj h;exact X0a [Gf,Gf,Gf,Gf] (o:=by repeat' first|apply Ya|exact pcM|exact fq (X2 (X2 (X2 h10 rfl) h15) (X0 h16 h17))|exact X0p) (k:=wkT [] (Xd.glue J))
  intro h;obtain rfl:=oj h;exact X0a [Gt,Gt,Gt,.el (aI .i64 (a0.Late.length:Int)),Gt] (o:=by repeat' first|apply Ya|exact pcM|exact fq (X2 (X2 (X2 h10 rfl) h15) (X0 h16 h17))|exact X0p) (k:=wkT [] (Xd.glue J))
 intro h;obtain rfl:=oj h;exact X0a [Gt,Gt,Gt,.el (aI .i64 (a0.Late.length:Int)),Gt,Gt,Gf,Gf,Gf,Gf,Gt,Gt,Gt,Gt,.el (aI .i64 (a0.Late.length:Int)),Gt] (o:=by repeat' first|apply Ya|exact pcM|exact fq (X2 (X2 h10 rfl) h15)|exact fq (X2 (X2 (X2 h10 rfl) h15) (X2 h16 rfl))|exact X0p) (k:=wkT [] (Xd.glue J))⟩
theorem X66 {Q:Xc->St->Mu->Prop} {μ:Mu} (Xf0:(List Xb)) (hl:Xf0.length<=140737488355328):∀ (xs:List Xb) (k:Nat) (hx:Xf0.drop k=xs) (o:X1e) (h:X0n Xf0 xs k  = some o)
  (C0:o=X1e.x0->Xd Tryz.prog 22 0 Q (.exit (.exit 0)) [] ⟨fr [],hp ([]),0⟩ μ)
  (C1:o=X1e.x1->Xd Tryz.prog 22 0 Q (.exit .ret) [] ⟨fr [(2,(aI .i64 4))],hp ([]),0⟩ μ),
  Xd Tryz.prog 22 0 Q (.loop (X6w 0 (X3 Tryz.f17))) [] ⟨fr [(5,(Lf (List.map (Xe false) Xf0))),(6,(aI .i64 (Xf0.length:Int))),(7,(aI .i64 (k:Int)))],hp ([]),0⟩ μ:=by
 intro xs
 induction xs with
 |nil =>
  intro k hx  o h C0 C1;have hk:=X3f hx;have hc:decide ((k:Int)<(Xf0.length:Int))=false:=Yf om;rw[X0n] at h;refine Xd.round ?_;revert h;exact λe=>X0a [Bf] (k:=wkT [] (C0  (oj e).symm))
 |cons x xs ih =>
  intro k hx  o h C0 C1;obtain⟨hk,hg,hx1⟩:=X2i hx;have hc:decide ((k:Int)<(Xf0.length:Int))=true:=Yt om;rw[X0n] at h;refine Xd.round ?_;revert h;refine bI λXho h17=>rnI [Bt,.el (Xe false x),.stop 4] ?_;intro h;refine Xd.join (s':=⟨fr [(5,(Lf (List.map (Xe false) Xf0))),(6,(aI .i64 (Xf0.length:Int))),(7,(aI .i64 (k:Int))),(20,(aB Xho))],hp ([]),0⟩) ?_ (λJ=>Xd.cut ?_)
  ·
   revert h;refine brI (λh18=>λe=>X0a [Bt] (k:=wkT [] (C1  (oj e).symm))) λh18=>rnI [Bf] ?_;intro h;exact wkT [] (ih (k+1) hx1  o h C0 C1)
  clear h;revert h17;refine brI (λh16=>?_) λh16=>?_
  ·
   intro h;obtain rfl:=oj h;exact X0a [.el (aI .i64 (x.Rows.length:Int)),Gf,Gf,Gf,Gf] (k:=wkT [] (Xd.glue J))
  intro h;obtain rfl:=oj h;exact X0a [.el (aI .i64 (x.Rows.length:Int)),Gt,Gt,Gt,.el (aI .i64 (x.Late.length:Int)),Gt] (k:=wkT [] (Xd.glue J))
instance Xh8:PCs Tryz.prog 17 (∀ (a0:(List Xb)) (r:Int),X2e a0=some r->Xu Tryz.prog 17 [(Lf (List.map (Xe false) a0))] (aI .i64 r)):=⟨λa0 r h=>by
 refine Xu.sym X4 fn17 (nt:=22) rfl rfl ?_ okM;unfold X2e at h;revert h;refine bI λu1 h2=>?_;have qh2:=X3d h2;refine bI λo19 h20=>rnI [.el (aI .i64 (a0.length:Int))] ?_;intro h;refine wkT [] (Xd.cut (X66 a0 qh2 a0 0 (by simp) _ h20 ?_ ?_))
 ·
  intro eo19;subst eo19;refine Xd.glue ?_;try dsimp only at h
  revert h;exact λe=>oj e▸X0a [] (k:=fi)
 intro eo19;subst eo19;refine Xd.glue ?_;try dsimp only at h
 revert h;exact λe=>oj e▸X0a [] (k:=fi)⟩
theorem X58 {Q:Xc->St->Mu->Prop} {μ:Mu} (b:Nat) (a l:List X1v) (hl:l.length<=140737488355328) (hw:∀ y∈l,X3x y):∀ (xs:List X1v) (k:Nat) (hx:l.drop k=xs) (ks:List (X1v×Int)) (hK:X98 Tryz.prog 30 (ks.map (kvE Xde)))
  (C:X98 Tryz.prog 30 ((X0y ks xs).map (kvE Xde))->Xd Tryz.prog 41 0 Q (.exit (.exit 0)) [] ⟨fr [(0,AV.list false (a.map Xj)),(5,.sc (.map (some b)))],hp [],0⟩ ((b,(X0y ks xs).map (kvE Xde))::μ)),
  Xd Tryz.prog 41 0 Q (.loop (X6w 0 (X3 Tryz.f18))) [] ⟨fr [(0,AV.list false (a.map Xj)),(5,.sc (.map (some b))),(11,AV.list false (l.map Xj)),(12,aI .i64 (l.length:Int)),(13,aI .i64 (k:Int))],hp [],0⟩ ((b,ks.map (kvE Xde))::μ):=by
 intro xs
 induction xs with
 |nil =>
  intro k hx ks hK C;have hk:=X3f hx;have hc:decide ((k:Int)<(l.length:Int))=false:=Yf om;refine Xd.round ?_;refine rn tmD [Bf] rfl (by repeat' first|apply Ya|exact hc|exact X6n) ?_;exact Xd.weakTo [] (C hK) rfl (by repeat' first|apply Ya|exact wkA) (by repeat' first|apply Ya|exact wkB)
 |cons x xs ih =>
  intro k hx ks hK C;obtain⟨hk,hg,hx1⟩:=X2i hx;obtain⟨lk,hlk⟩:=Xof x (hw x (Yg hg));have hc:decide ((k:Int)<(l.length:Int))=true:=Yt om;refine Xd.round ?_;refine rn tmD [Bt,.el (Xj x),.stop 5] rfl (by repeat' first|apply Ya|exact hc|exact ixm hg|exact X6n) ?_;refine Xd.drawnInc (kv:=Xde x) (z:=.int .i64 0) (zn:=X2b x ks) (xv:=.int .i64 (IntKind.i64.wrap (X2b x ks+1))) 2 tmD [] rfl rfl rfl rfl rfl (by repeat' first|apply Ya|exact hc|exact X6n) rfl (by constructor<;>decide +kernel) rfl rfl rfl rfl rfl rfl rfl rfl rfl rfl rfl rfl rfl rfl rfl rfl rfl rfl rfl rfl Xqf (λ_=>rfl) rfl rfl rfl (by exact trivial) (by exact trivial) hlk hK (X5r X41 x ks) rfl (λ_ _=>?_);have hK2:=hK.set (v:=.int .i64 (IntKind.i64.wrap (X2b x ks+1))) hlk;rw[X4a X41] at hK2;rw[X4a X41];refine rn tmD [] rfl (by repeat' first|apply Ya|exact hc|exact X6n) ?_;exact Xd.weakTo [] (ih (k+1) hx1 _ hK2 C) rfl (by repeat' first|apply Ya|exact wkA) (by repeat' first|apply Ya|exact wkB)
theorem X57 {Q:Xc->St->Mu->Prop} {μ:Mu} (b:Nat) (l:List X1v) (hl:l.length<=140737488355328) (hw:∀ y∈l,X3x y):∀ (xs:List X1v) (k:Nat) (hx:l.drop k=xs) (ks:List (X1v×Int)) (hK:X98 Tryz.prog 30 (ks.map (kvE Xde)))
  (C0:X0k ks xs=true->∀ es,Xd Tryz.prog 41 0 Q (.exit (.exit 2)) [] ⟨fr [],hp [],0⟩ ((b,es)::μ)) (C1:X0k ks xs=false->∀ es,Xd Tryz.prog 41 0 Q (.exit .ret) [] ⟨fr [(4,aB false)],hp [],0⟩ ((b,es)::μ)),
  Xd Tryz.prog 41 0 Q (.loop (X6w 1 (X3 Tryz.f18))) [] ⟨fr [(5,.sc (.map (some b))),(24,AV.list false (l.map Xj)),(25,aI .i64 (l.length:Int)),(26,aI .i64 (k:Int))],hp [],0⟩ ((b,ks.map (kvE Xde))::μ):=by
 intro xs
 induction xs with
 |nil =>
  intro k hx ks hK C0 C1;have hk:=X3f hx;have hc:decide ((k:Int)<(l.length:Int))=false:=Yf om;refine Xd.round ?_;refine rn tmD [Bf] rfl (by repeat' first|apply Ya|exact hc|exact X6n) ?_;exact Xd.weakTo [] (C0 rfl _) rfl (by repeat' first|apply Ya|exact wkA) (by repeat' first|apply Ya|exact wkB)
 |cons x xs ih =>
  intro k hx ks hK C0 C1;obtain⟨hk,hg,hx1⟩:=X2i hx;obtain⟨lk,hlk⟩:=Xof x (hw x (Yg hg));have hc:decide ((k:Int)<(l.length:Int))=true:=Yt om;refine Xd.round ?_;refine rn tmD [Bt,.el (Xj x),.stop 10] rfl (by repeat' first|apply Ya|exact hc|exact ixm hg|exact X6n) ?_;refine Xd.drawnInc (kv:=Xde x) (z:=.int .i64 0) (zn:=X2b x ks) (xv:=.int .i64 (IntKind.i64.wrap (X2b x ks - 1))) 2 tmD [] rfl rfl rfl rfl rfl (by repeat' first|apply Ya|exact hc|exact X6n) rfl (by constructor<;>decide +kernel) rfl rfl rfl rfl rfl rfl rfl rfl rfl rfl rfl rfl rfl rfl rfl rfl rfl rfl rfl rfl Xqf (λ_=>rfl) rfl rfl rfl (by exact trivial) (by exact trivial) hlk hK (X5r X41 x ks) rfl (λ_ _=>?_);have hK2:=hK.set (v:=.int .i64 (IntKind.i64.wrap (X2b x ks - 1))) hlk;rw[X4a X41] at hK2;rw[X4a X41];refine rn tmD [] rfl (by repeat' first|apply Ya|exact hc|exact X6n) ?_;refine Xd.mapLook (kv:=Xde x) (z:=.int .i64 0) X4 rfl rfl rfl rfl rfl Xqf (λ_=>rfl) rfl rfl rfl trivial trivial hlk hK2 ?_;rw[X5r X41]
  cases hs:decide (X2b x (X63 x (IntKind.i64.wrap (X2b x ks - 1)) ks)<0) with
  |true =>
   refine rn tmD [Bt] rfl (by repeat' first|apply Ya|exact hs|exact X6n) ?_;exact Xd.weakTo [] (C1 (by simp only[X0k,hs,cond_true]) _) rfl (by repeat' first|apply Ya|exact wkA) (by repeat' first|apply Ya|exact wkB)
  |false =>
   refine rn tmD [Bf] rfl (by repeat' first|apply Ya|exact hs|exact X6n) ?_;have he:X0k ks (x::xs)=X0k (X63 x (IntKind.i64.wrap (X2b x ks - 1)) ks) xs:=by simp only[X0k,hs,cond_false]
   exact Xd.weakTo [] (ih (k+1) hx1 _ hK2 (λh=>C0 (he.trans h)) (λh=>C1 (he.trans h))) rfl (by repeat' first|apply Ya|exact wkA) (by repeat' first|apply Ya|exact wkB)
theorem X2l (a0:List X1v) (a1:List X1v) (r:Bool) (h:X0x a0 a1=some r):Xu Tryz.prog 18 [(Lf (a0.map Xj)),(Lf (a1.map Xj))] (aB r):=by
 refine Xu.sym X4 fn18 (nt:=41) rfl rfl ?_ (X0o .list (X0o .list X35));unfold X0x at h;refine X94 h ?_;clear h;intro u h1 h;have q1:=X3d h1;refine X94 h ?_;clear h;intro u2 h2 h;have q2:=X3d h2;refine X94 h ?_;clear h;intro u3 h3 h;have w1:=X7k h3;refine X94 h ?_;clear h;intro u4 h4 h;have w2:=X7k h4;obtain rfl:=oj h;refine X3b [] ?_;refine Xd.mapNew rfl rfl rfl λb=>?_;refine X3b [] ?_;refine wkT [] (Xd.cut (X58 b a0 a1 q2 w2 a1 0 (by simp) [] X98.nil (λhK=>?_)));refine Xd.glue ?_;refine X3b [] ?_;refine wkT [] (Xd.cut (X57 b a0 q1 w1 a0 0 (by simp) _ hK (λhs es=>?_) (λhs es=>?_)))
 ·refine Xd.glue ?_;refine X3b [] ?_;refine X72 rfl ?_;rw[hs];exact .sc
 refine Xd.glue ?_;refine X3b [] ?_;refine X72 rfl ?_;rw[hs];exact .sc
theorem X45 {Q:Xc->St->Mu->Prop} {μ:Mu} (b:Nat) (a l:List Xk) (hl:l.length<=140737488355328) (hw:∀ y∈l,X1t y):∀ (xs:List Xk) (k:Nat) (hx:l.drop k=xs) (ks:List (Xk×Int)) (hK:X98 Tryz.prog 35 (ks.map (kvE Xdg)))
  (C:X98 Tryz.prog 35 ((X0y ks xs).map (kvE Xdg))->Xd Tryz.prog 41 0 Q (.exit (.exit 0)) [] ⟨fr [(0,AV.list false (a.map Xg)),(5,.sc (.map (some b)))],hp [],0⟩ ((b,(X0y ks xs).map (kvE Xdg))::μ)),
  Xd Tryz.prog 41 0 Q (.loop (X6w 0 (X3 Tryz.f19))) [] ⟨fr [(0,AV.list false (a.map Xg)),(5,.sc (.map (some b))),(11,AV.list false (l.map Xg)),(12,aI .i64 (l.length:Int)),(13,aI .i64 (k:Int))],hp [],0⟩ ((b,ks.map (kvE Xdg))::μ):=by
 intro xs
 induction xs with
 |nil =>
  intro k hx ks hK C;have hk:=X3f hx;have hc:decide ((k:Int)<(l.length:Int))=false:=Yf om;refine Xd.round ?_;refine rn tmD [Bf] rfl (by repeat' first|apply Ya|exact hc|exact X6n) ?_;exact Xd.weakTo [] (C hK) rfl (by repeat' first|apply Ya|exact wkA) (by repeat' first|apply Ya|exact wkB)
 |cons x xs ih =>
  intro k hx ks hK C;obtain⟨hk,hg,hx1⟩:=X2i hx;obtain⟨lk,hlk⟩:=Xog x (hw x (Yg hg));have hc:decide ((k:Int)<(l.length:Int))=true:=Yt om;refine Xd.round ?_;refine rn tmD [Bt,.el (Xg x),.stop 5] rfl (by repeat' first|apply Ya|exact hc|exact ixm hg|exact X6n) ?_;refine Xd.drawnInc (kv:=Xdg x) (z:=.int .i64 0) (zn:=X2b x ks) (xv:=.int .i64 (IntKind.i64.wrap (X2b x ks+1))) 2 tmD [] rfl rfl rfl rfl rfl (by repeat' first|apply Ya|exact hc|exact X6n) rfl (by constructor<;>decide +kernel) rfl rfl rfl rfl rfl rfl rfl rfl rfl rfl rfl rfl rfl rfl rfl rfl rfl rfl rfl rfl Xqe (λ_=>rfl) rfl rfl rfl (by exact trivial) (by exact trivial) hlk hK (X5r X42 x ks) rfl (λ_ _=>?_);have hK2:=hK.set (v:=.int .i64 (IntKind.i64.wrap (X2b x ks+1))) hlk;rw[X4a X42] at hK2;rw[X4a X42];refine rn tmD [] rfl (by repeat' first|apply Ya|exact hc|exact X6n) ?_;exact Xd.weakTo [] (ih (k+1) hx1 _ hK2 C) rfl (by repeat' first|apply Ya|exact wkA) (by repeat' first|apply Ya|exact wkB)
theorem X44 {Q:Xc->St->Mu->Prop} {μ:Mu} (b:Nat) (l:List Xk) (hl:l.length<=140737488355328) (hw:∀ y∈l,X1t y):∀ (xs:List Xk) (k:Nat) (hx:l.drop k=xs) (ks:List (Xk×Int)) (hK:X98 Tryz.prog 35 (ks.map (kvE Xdg)))
  (C0:X0k ks xs=true->∀ es,Xd Tryz.prog 41 0 Q (.exit (.exit 2)) [] ⟨fr [],hp [],0⟩ ((b,es)::μ)) (C1:X0k ks xs=false->∀ es,Xd Tryz.prog 41 0 Q (.exit .ret) [] ⟨fr [(4,aB false)],hp [],0⟩ ((b,es)::μ)),
  Xd Tryz.prog 41 0 Q (.loop (X6w 1 (X3 Tryz.f19))) [] ⟨fr [(5,.sc (.map (some b))),(24,AV.list false (l.map Xg)),(25,aI .i64 (l.length:Int)),(26,aI .i64 (k:Int))],hp [],0⟩ ((b,ks.map (kvE Xdg))::μ):=by
 intro xs
 induction xs with
 |nil =>
  intro k hx ks hK C0 C1;have hk:=X3f hx;have hc:decide ((k:Int)<(l.length:Int))=false:=Yf om;refine Xd.round ?_;refine rn tmD [Bf] rfl (by repeat' first|apply Ya|exact hc|exact X6n) ?_;exact Xd.weakTo [] (C0 rfl _) rfl (by repeat' first|apply Ya|exact wkA) (by repeat' first|apply Ya|exact wkB)
 |cons x xs ih =>
  intro k hx ks hK C0 C1;obtain⟨hk,hg,hx1⟩:=X2i hx;obtain⟨lk,hlk⟩:=Xog x (hw x (Yg hg));have hc:decide ((k:Int)<(l.length:Int))=true:=Yt om;refine Xd.round ?_;refine rn tmD [Bt,.el (Xg x),.stop 10] rfl (by repeat' first|apply Ya|exact hc|exact ixm hg|exact X6n) ?_;refine Xd.drawnInc (kv:=Xdg x) (z:=.int .i64 0) (zn:=X2b x ks) (xv:=.int .i64 (IntKind.i64.wrap (X2b x ks - 1))) 2 tmD [] rfl rfl rfl rfl rfl (by repeat' first|apply Ya|exact hc|exact X6n) rfl (by constructor<;>decide +kernel) rfl rfl rfl rfl rfl rfl rfl rfl rfl rfl rfl rfl rfl rfl rfl rfl rfl rfl rfl rfl Xqe (λ_=>rfl) rfl rfl rfl (by exact trivial) (by exact trivial) hlk hK (X5r X42 x ks) rfl (λ_ _=>?_);have hK2:=hK.set (v:=.int .i64 (IntKind.i64.wrap (X2b x ks - 1))) hlk;rw[X4a X42] at hK2;rw[X4a X42];refine rn tmD [] rfl (by repeat' first|apply Ya|exact hc|exact X6n) ?_;refine Xd.mapLook (kv:=Xdg x) (z:=.int .i64 0) X4 rfl rfl rfl rfl rfl Xqe (λ_=>rfl) rfl rfl rfl trivial trivial hlk hK2 ?_;rw[X5r X42]
  cases hs:decide (X2b x (X63 x (IntKind.i64.wrap (X2b x ks - 1)) ks)<0) with
  |true =>
   refine rn tmD [Bt] rfl (by repeat' first|apply Ya|exact hs|exact X6n) ?_;exact Xd.weakTo [] (C1 (by simp only[X0k,hs,cond_true]) _) rfl (by repeat' first|apply Ya|exact wkA) (by repeat' first|apply Ya|exact wkB)
  |false =>
   refine rn tmD [Bf] rfl (by repeat' first|apply Ya|exact hs|exact X6n) ?_;have he:X0k ks (x::xs)=X0k (X63 x (IntKind.i64.wrap (X2b x ks - 1)) ks) xs:=by simp only[X0k,hs,cond_false]
   exact Xd.weakTo [] (ih (k+1) hx1 _ hK2 (λh=>C0 (he.trans h)) (λh=>C1 (he.trans h))) rfl (by repeat' first|apply Ya|exact wkA) (by repeat' first|apply Ya|exact wkB)
theorem X43 (a0:List Xk) (a1:List Xk) (r:Bool) (h:X0g a0 a1=some r):Xu Tryz.prog 19 [(Lf (a0.map Xg)),(Lf (a1.map Xg))] (aB r):=by
 refine Xu.sym X4 fn19 (nt:=41) rfl rfl ?_ (X0o .list (X0o .list X35));unfold X0g at h;refine X94 h ?_;clear h;intro u h1 h;have q1:=X3d h1;refine X94 h ?_;clear h;intro u2 h2 h;have q2:=X3d h2;refine X94 h ?_;clear h;intro u3 h3 h;have w1:=X7k h3;refine X94 h ?_;clear h;intro u4 h4 h;have w2:=X7k h4;obtain rfl:=oj h;refine X3b [] ?_;refine Xd.mapNew rfl rfl rfl λb=>?_;refine X3b [] ?_;refine wkT [] (Xd.cut (X45 b a0 a1 q2 w2 a1 0 (by simp) [] X98.nil (λhK=>?_)));refine Xd.glue ?_;refine X3b [] ?_;refine wkT [] (Xd.cut (X44 b a0 q1 w1 a0 0 (by simp) _ hK (λhs es=>?_) (λhs es=>?_)))
 ·refine Xd.glue ?_;refine X3b [] ?_;refine X72 rfl ?_;rw[hs];exact .sc
 refine Xd.glue ?_;refine X3b [] ?_;refine X72 rfl ?_;rw[hs];exact .sc
instance Xkr:PCs Tryz.prog 10 (∀ (a0:Xb) (a1:Xb) (r:Bool×Int),X24 a0 a1=some r->Xu Tryz.prog 10 [(Xe false a0),(Xe false a1)] (AV.tup [(aB r.1),(aI .i64 r.2)])):=⟨λa0 a1 r h=>by
 refine Xu.sym X4 fn10 (nt:=26) rfl rfl ?_ okM;unfold X24 at h;revert h;refine bI λv1 h2=>brI (λh3=>λe=>oj e▸X0a [.pure _ (aI .i64 v1),Bt] (k:=fi)) λh3=>bI λXx2 h15=>rnI [.pure _ (aI .i64 v1),Bf,.stop 4] ?_;intro h;refine Xd.join (s':=⟨fr [(4,(aB Xx2)),(5,(aI .i64 0))],hp ([]),0⟩) ?_ (λJ=>Xd.cut ?_)
 ·
  revert h;exact λe=>oj e▸X0a [] (k:=fi)
 clear h;revert h15;refine bI λv10 h11=>brI (λh12=>?_) λh12=>?_
 ·
  refine bI λv13 h14=>?_;intro h;obtain rfl:=oj h;exact X0a [.pure [(Lf (a0.Rows.map Xj)),(Lf (a1.Rows.map Xj))] (aB v10),Gt,Gt,Gt,Gt,Gt,.pure [(Lf (a0.Late.map Xg)),(Lf (a1.Late.map Xg))] (aB v13)] (o:=by repeat' first|apply Ya|exact pcM|exact(pn (X2l _ _ _ h11) (cc (X32 (X1o X31 a0.Rows)) (cc (X32 (X1o X31 a1.Rows)) cn)))|exact(pn (X43 _ _ _ h14) (cc (X32 (X1o X2h a0.Late)) (cc (X32 (X1o X2h a1.Late)) cn)))|exact X0p) (k:=wkT [] (Xd.glue J))
 intro h;obtain rfl:=oj h;exact X0a [.pure [(Lf (a0.Rows.map Xj)),(Lf (a1.Rows.map Xj))] (aB v10),Gf,Gf,Gf,Gf,Gf] (o:=by repeat' first|apply Ya|exact pcM|exact(pn (X2l _ _ _ h11) (cc (X32 (X1o X31 a0.Rows)) (cc (X32 (X1o X31 a1.Rows)) cn)))|exact X0p) (k:=wkT [] (Xd.glue J))⟩
instance Xm6:PCs Tryz.prog 7 (∀ (a0:Xb) (a1:Xb) (r:Bool),X0f a0 a1=some r->Xu Tryz.prog 7 [(Xe false a0),(Xe false a1)] (aB r)):=⟨λa0 a1 r h=>by
 refine Xu.sym X4 fn7 (nt:=18) rfl rfl ?_ okM;unfold X0f at h;revert h;exact bI λv1 h2=>λe=>oj e▸X0a [.pure _ (AV.tup [(aB v1.1),(aI .i64 v1.2)])] (k:=fi)⟩
instance Xkq:PCs Tryz.prog 8 (∀ (a0:Xb) (a1:Xb) (r:Bool×Int),X0v a0 a1=some r->Xu Tryz.prog 8 [(Xe false a0),(Xe false a1)] (AV.tup [(aB r.1),(aI .i64 r.2)])):=⟨λa0 a1 r h=>by
 refine Xu.sym X4 fn8 (nt:=34) rfl rfl ?_ okM;unfold X0v at h;revert h;refine bI λv1 h2=>bI λXx4 h8=>rnI [.pure _ (AV.tup [(aB v1.1),(aI .i64 v1.2)]),.stop 2] ?_;intro h;refine Xd.join (s':=⟨fr [(4,(aB Xx4)),(5,(aI .i64 v1.2))],hp ([]),0⟩) ?_ (λJ=>Xd.cut ?_)
 ·
  revert h;exact λe=>oj e▸X0a [] (k:=fi)
 clear h;revert h8;refine brI (λh6=>?_) λh6=>?_
 ·
  refine rnI [Gt,Gt,Gt,.el (aI .i64 (a0.Rows.length:Int)),Gt,Gt,Gt,.el (aI .i64 (a1.Rows.length:Int)),Gt,.stop 999999] ?_;refine brI (λh7=>?_) λh7=>?_
  ·
   intro h;obtain rfl:=oj h;exact X0a [Gt,Gt,Gt,.el (aI .i64 (a0.Late.length:Int)),Gt,Gt,Gt,.el (aI .i64 (a1.Late.length:Int)),Gt] (o:=by repeat' first|apply Ya|exact pcM|exact fq (X0 h6 h7)|exact X0p) (k:=wkT [] (Xd.glue J))
  intro h;obtain rfl:=oj h;exact X0a [Gf,Gf,Gf,Gf,Gf,Gf,Gf] (o:=by repeat' first|apply Ya|exact pcM|exact fq (X0 h6 h7)|exact X0p) (k:=wkT [] (Xd.glue J))
 intro h;obtain rfl:=oj h;exact X0a [Gf,Gf,Gf,Gf,Gf,Gf,Gf,Gf,Gf,Gf,Gf,Gf,Gf,Gf] (o:=by repeat' first|apply Ya|exact pcM|exact fq (X2 h6 rfl)|exact X0p) (k:=wkT [] (Xd.glue J))⟩
end Go.Av.Tryz