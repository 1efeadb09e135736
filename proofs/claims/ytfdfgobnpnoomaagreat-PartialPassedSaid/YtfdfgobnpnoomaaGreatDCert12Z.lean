/- Printed by decomp.py: that the program computes the functions. -/
import Derived.Test.YtfdfgobnpnoomaaGreatDCert11Z
set_option linter.all false

namespace Go.Av.Tryz
open Go.Proofs Go.D
set_option maxRecDepth 10000
set_option maxHeartbeats 40000000
theorem Xhc {Q:X02->St->Mu->Prop} {μ:Mu} (X00:(List Xk)) (X1s:Bool) (hl:X00.length<=140737488355328):∀ (xs:List Xk) (k:Nat) (hx:X00.drop k=xs) (Xf:(List X7)) (Xy:Nb Xf) (o:X8d) (h:X2q X00 X1s xs k Xf=some o)
  (C0:∀ (Xe:(List X7)) (Xj:Nb Xe),o=X8d.x0 Xe->X2 Tryz.prog 43 0 Q (.exit (.exit 0)) [] ⟨fr [(5,(slE Xj.1 0 (Xe.map X0)))],hp ([]++opE Xj.1 0 3 (Xe.map X0)),1⟩ μ),
  X2 Tryz.prog 43 0 Q (.loop (X2v 0 (Xh Tryz.f91))) [] ⟨fr [(0,(Lf (X00.map Xd))),(1,(aB X1s)),(5,(slE Xy.1 0 (Xf.map X0))),(6,(aI .i64 (k:Int)))],hp ([]++opE Xy.1 0 3 (Xf.map X0)),1⟩ μ:=by
 intro xs
 induction xs with
 |nil =>
  intro k hx Xf Xy o h C0
  have hk:=drop_nil hx
  have hc:decide ((k:Int)<(X00.length:Int))=false:=Yf (by omega)
  rw[X2q] at h
  rcases Xy with ⟨_|_,X1b⟩
  ·
   refine X2.round ?_
   revert h
   exact fun e=>X9 [.el (aI .i64 (X00.length:Int)),Bf] (k:=wkT [] (C0 _  nbF (oj e).symm))
  ·
   obtain rfl:=X1b rfl
   refine X2.round ?_
   revert h
   exact fun e=>X9 [.el (aI .i64 (X00.length:Int)),Bf] (k:=wkT [] (C0 _  nbS (oj e).symm))
 |cons x xs ih =>
  intro k hx Xf Xy o h C0
  obtain⟨hk,hg,hx1⟩:=drop_cons hx
  have hc:decide ((k:Int)<(X00.length:Int))=true:=Yt (by omega)
  rw[X2q] at h
  rcases Xy with ⟨_|_,X1b⟩
  ·
   refine X2.round ?_
   revert h
   refine bI fun X01k h95=>rnI [.el (aI .i64 (X00.length:Int)),Bt,.stop 5] ?_
   intro h
   refine X2.join (s':=⟨fr [(0,(Lf (X00.map Xd))),(1,(aB X1s)),(5,(AV.ref 0 0 (Xf.length))),(6,(aI .i64 (k:Int))),(33,(aB X01k))],hp ([(0,Ob (Xf.map X0) 3)]),1⟩) ?_ (fun J=>X2.cut ?_)
   ·
    revert h
    refine bI fun Xrx h103=>rnI [] ?_
    intro h
    refine X2.joinF (fun(q:Nb Xrx)=>⟨fr [(0,(Lf (X00.map Xd))),(1,(aB X1s)),(5,(slE q.1 0 (Xrx.map X0))),(6,(aI .i64 (k:Int)))],hp ([]++opE q.1 0 3 (Xrx.map X0)),1⟩) ?_ (fun J=>X2.cut ?_)
    ·
     rintro X00t
     rcases X00t with ⟨_|_,X029⟩
     ·
      exact X9 [] (k:=wkT [] (ih (k+1) hx1 _ nbF o h C0))
     obtain rfl:=X029 rfl
     exact X9 [] (k:=wkT [] (ih (k+1) hx1 _ nbS o h C0))
    clear h;revert h103
    refine brI (fun h100=>?_) fun h100=>?_
    ·
     refine bI fun u101 h102=>?_
     intro h
     obtain rfl:=oj h
     exact X9 [Bt,.el (Xd x),.no] (o:=by repeat' first|apply Ya|exact pcM|(refine X0a h102 rfl ?_;first|(simp;done)|(simp;omega)|(simp[hc,h100];done)|(simp[hc,h100];omega))|(refine Xs h102 (by decide) ?_;first|(simp;done)|(simp;omega)|(simp[hc,h100];done)|(simp[hc,h100];omega))|exact X0k) (k:=wkT [(0,2)] (X2.glue (J nbF)))
    intro h
    obtain rfl:=oj h
    exact X9 [Bf] (k:=wkT [] (X2.glue (J nbF)))
   clear h;revert h95
   refine brI (fun h90=>?_) fun h90=>?_
   ·
    refine bI fun m91 h92=>?_
    obtain⟨qah92,qbh92,qch92,qh92⟩:=X3q h92
    have qlh92:=X7w h92
    refine bI fun v93 h94=>?_
    intro h
    obtain rfl:=oj h
    exact X9 [.el (Xd x),.go true,.go true,.go true,.el (Xd x),.go true,.go true,.go true,.go true,.go true,.go true,.via (Lf (m91.map Xd)),.go true,.pure _ (aI .i64 v93),.go true,.go true,.go true] (o:=by repeat' first|apply Ya|exact pcM|(simp at qah92 qbh92 qch92 ⊢;omega)|(rw[qh92];simp[Ym,Yd];done)|exact X0k) (k:=wkT [] (X2.glue J))
   intro h
   obtain rfl:=oj h
   exact X9 [.el (Xd x),.go false,.go false,.go false,.go false,.go false,.go false,.go false,.go false,.go false,.go false,.go false,.go false,.go false,.go false] (k:=wkT [] (X2.glue J))
  obtain rfl:=X1b rfl
  refine X2.round ?_
  revert h
  refine bI fun X09t h115=>rnI [.el (aI .i64 (X00.length:Int)),Bt,.stop 5] ?_
  intro h
  refine X2.join (s':=⟨fr [(0,(Lf (X00.map Xd))),(1,(aB X1s)),(5,AV.nils),(6,(aI .i64 (k:Int))),(33,(aB X09t))],hp ([]),1⟩) ?_ (fun J=>X2.cut ?_)
  ·
   revert h
   refine bI fun Xuy h123=>rnI [] ?_
   intro h
   refine X2.joinF (fun(q:Nb Xuy)=>⟨fr [(0,(Lf (X00.map Xd))),(1,(aB X1s)),(5,(slE q.1 0 (Xuy.map X0))),(6,(aI .i64 (k:Int)))],hp ([]++opE q.1 0 3 (Xuy.map X0)),1⟩) ?_ (fun J=>X2.cut ?_)
   ·
    rintro Xxx
    rcases Xxx with ⟨_|_,Xyr⟩
    ·
     exact X9 [] (k:=wkT [] (ih (k+1) hx1 _ nbF o h C0))
    obtain rfl:=Xyr rfl
    exact X9 [] (k:=wkT [] (ih (k+1) hx1 _ nbS o h C0))
   clear h;revert h123
   refine brI (fun h120=>?_) fun h120=>?_
   ·
    refine bI fun u121 h122=>?_
    intro h
    obtain rfl:=oj h
    exact X9 [Bt,.el (Xd x),.no] (o:=by repeat' first|apply Ya|exact pcM|(refine X0a h122 rfl ?_;first|(simp;done)|(simp;omega)|(simp[hc,h120];done)|(simp[hc,h120];omega))|(refine Xs h122 (by decide) ?_;first|(simp;done)|(simp;omega)|(simp[hc,h120];done)|(simp[hc,h120];omega))|exact X0k) (k:=wkT [(0,2)] (X2.glue (J nbF)))
   intro h
   obtain rfl:=oj h
   exact X9 [Bf] (k:=wkT [] (X2.glue (J nbS)))
  clear h;revert h115
  refine brI (fun h110=>?_) fun h110=>?_
  ·
   refine bI fun m111 h112=>?_
   obtain⟨qah112,qbh112,qch112,qh112⟩:=X3q h112
   have qlh112:=X7w h112
   refine bI fun v113 h114=>?_
   intro h
   obtain rfl:=oj h
   exact X9 [.el (Xd x),.go true,.go true,.go true,.el (Xd x),.go true,.go true,.go true,.go true,.go true,.go true,.via (Lf (m111.map Xd)),.go true,.pure _ (aI .i64 v113),.go true,.go true,.go true] (o:=by repeat' first|apply Ya|exact pcM|(simp at qah112 qbh112 qch112 ⊢;omega)|(rw[qh112];simp[Ym,Yd];done)|exact X0k) (k:=wkT [] (X2.glue J))
  intro h
  obtain rfl:=oj h
  exact X9 [.el (Xd x),.go false,.go false,.go false,.go false,.go false,.go false,.go false,.go false,.go false,.go false,.go false,.go false,.go false,.go false] (k:=wkT [] (X2.glue J))
instance Xza:PCs Tryz.prog 91 (∀ (a0:(List Xk)) (a1:Bool) (r:(List X7)),X6p a0 a1=some r->X0g Tryz.prog 91 [(Lf (a0.map Xd)),(aB a1)] (AV.list true (r.map X0))):=⟨fun a0 a1 r h=>by
 refine X0g.sym Xa fn91 (nt:=43) rfl rfl ?_ okM
 unfold X6p at h
 revert h
 refine bI fun u1 h2=>?_
 have qh2:=X08 h2
 refine bI fun o124 h125=>rnI [] ?_
 intro h
 refine wkT [] (X2.cut (Xhc a0 a1 qh2 a0 0 (by simp) _ nbS _ h125 ?_))
 intro Xe Xj eo124;subst eo124
 refine X2.glue ?_
 try dsimp only at h
 rcases Xj with ⟨_|_,X0n⟩
 ·
  revert h
  exact fun e=>oj e▸X9 [] (k:=fi)
 obtain rfl:=X0n rfl
 revert h
 exact fun e=>oj e▸X9 [] (k:=fi)⟩
instance X04c:PCs Tryz.prog 183 (∀ (a0:Bool) (r:Int),X7q a0=some r->X0g Tryz.prog 183 [(aB a0)] (aI .i64 r)):=⟨fun a0 r h=>by
 refine X0g.sym Xa X0df (nt:=4) rfl rfl ?_ okM
 unfold X7q at h
 revert h
 exact brI (fun h1=>fun e=>oj e▸X9 [Bt] (k:=fi)) fun h1=>fun e=>oj e▸X9 [Bf] (k:=fi)⟩
instance X04e:PCs Tryz.prog 185 (∀ (a0:Int) (r:Int),X9h a0=some r->X0g Tryz.prog 185 [(aI .i64 a0)] (aI .i64 r)):=⟨fun a0 r h=>by
 refine X0g.sym Xa X0dd (nt:=7) rfl rfl ?_ okM
 unfold X9h at h
 revert h
 exact fun e=>oj e▸X9 [.wrap,.wrap] (k:=fi)⟩
theorem Xjb {Q:X02->St->Mu->Prop} {μ:Mu} (X00:Int):∀ (n:Nat) (Xgz:Int) (Xzk:Int) (o:Xad) (h:X3w X00 n Xgz Xzk=some o)
  (C0:∀ (Xai:Int),o=Xad.x0 Xai->X2 Tryz.prog 14 0 Q (.exit (.exit 0)) [] ⟨fr [(3,(aI .i64 Xai))],hp ([]),0⟩ μ),
  X2 Tryz.prog 14 0 Q (.loop (X2v 0 (Xh Tryz.f184))) [] ⟨fr [(0,(aI .i64 X00)),(3,(aI .i64 Xgz)),(4,(aI .i64 Xzk))],hp ([]),0⟩ μ:=by
 intro n
 induction n with
 |zero=>intro Xgz Xzk o h C0;cases h
 |succ n ih =>
  intro Xgz Xzk o h C0
  rw[X3w] at h
  refine X2.round ?_
  revert h
  refine brI (fun h4=>?_) fun h4=>fun e=>X9 [Bf] (k:=wkT [] (C0 _  (oj e).symm))
  refine rnI [Bt,.wrap,.wrap] ?_
  intro h
  exact wkT [] (ih  _ _ o h C0)
instance X04b:PCs Tryz.prog 184 (∀ (a0:Int) (r:Int),X9g a0=some r->X0g Tryz.prog 184 [(aI .i64 a0)] (aI .i64 r)):=⟨fun a0 r h=>by
 refine X0g.sym Xa X0de (nt:=14) rfl rfl ?_ okM
 unfold X9g at h
 revert h
 refine bI fun o5 h6=>rnI [] ?_
 intro h
 refine wkT [] (X2.cut (Xjb a0 _ _ _ _ h6 ?_))
 intro Xai eo5;subst eo5
 refine X2.glue ?_
 try dsimp only at h
 revert h
 exact fun e=>oj e▸X9 [] (k:=fi)⟩
instance X05c:PCs Tryz.prog 186 (∀ (a0:Int) (r:Int),Xdg a0=some r->X0g Tryz.prog 186 [(aI .i64 a0)] (aI .i64 r)):=⟨fun a0 r h=>by
 refine X0g.sym Xa X0dc (nt:=11) rfl rfl ?_ okM
 unfold Xdg at h
 revert h
 exact brI (fun h1=>fun e=>oj e▸X9 [Bt,.wrap,.wrap] (k:=fi)) fun h1=>fun e=>oj e▸X9 [Bf,.wrap] (k:=fi)⟩
instance Xze:PCs Tryz.prog 187 (∀ (a0:Int) (a1:Int) (a2:Int) (r:Bool),Xal a0 a1 a2=some r->X0g Tryz.prog 187 [(aI .u8 a0),(aI .i64 a1),(aI .i64 a2)] (aB r)):=⟨fun a0 a1 a2 r h=>by
 refine X0g.sym Xa X0db (nt:=46) rfl rfl ?_ okM
 unfold Xal at h
 revert h
 exact brI (fun h1=>fun e=>oj e▸X9 [Bt] (k:=fi)) fun h1=>brI (fun h2=>fun e=>oj e▸X9 [Bf,Bt] (k:=fi)) fun h2=>brI (fun h3=>fun e=>oj e▸X9 [Bf,Bf,Bt] (k:=fi)) fun h3=>brI (fun h4=>fun e=>oj e▸X9 [Bf,Bf,Bf,Bt] (k:=fi)) fun h4=>brI (fun h5=>fun e=>oj e▸X9 [Bf,Bf,Bf,Bf,Bt] (k:=fi)) fun h5=>fun e=>oj e▸X9 [Bf,Bf,Bf,Bf,Bf] (k:=fi)⟩
theorem Xjc {Q:X02->St->Mu->Prop} {μ:Mu} (X9z:Int):∀ (n:Nat) (X1s:Int) (Xt7:Int) (o:Xae) (h:X3x X9z n X1s Xt7=some o)
  (C0:∀ (Xo3:Int),o=Xae.x0 Xo3->X2 Tryz.prog 74 0 Q (.exit (.exit 1)) [] ⟨fr [(1,(aI .i64 Xo3))],hp ([]),0⟩ μ),
  X2 Tryz.prog 74 0 Q (.loop (X2v 0 (Xh Tryz.f151))) [] ⟨fr [(1,(aI .i64 X1s)),(2,(aI .i64 X9z)),(7,(aI .i64 Xt7))],hp ([]),0⟩ μ:=by
 intro n
 induction n with
 |zero=>intro X1s Xt7 o h C0;cases h
 |succ n ih =>
  intro X1s Xt7 o h C0
  rw[X3x] at h
  refine X2.round ?_
  revert h
  refine bI fun v25 h26=>brI (fun h27=>?_) fun h27=>fun e=>X9 [.pure _ (aI .i64 v25),Bf] (k:=wkT [] (C0 _  (oj e).symm))
  refine bI fun v28 h29=>rnI [.pure _ (aI .i64 v25),Bt,.pure _ (aI .i64 v28),.wrap] ?_
  intro h
  exact wkT [] (ih  _ _ o h C0)
instance X04d:PCs Tryz.prog 151 (∀ (a0:Int) (a1:Int) (a2:Int) (r:Int),X48 a0 a1 a2=some r->X0g Tryz.prog 151 [(aI .u8 a0),(aI .i64 a1),(aI .i64 a2)] (aI .i64 r)):=⟨fun a0 a1 a2 r h=>by
 refine X0g.sym Xa X0dr (nt:=74) rfl rfl ?_ okM
 unfold X48 at h
 revert h
 refine brI (fun h1=>fun e=>oj e▸X9 [Bt,.wrap] (k:=fi)) fun h1=>brI (fun h2=>bI fun v3 h4=>fun e=>oj e▸X9 [Bf,Bt,.pure _ (aI .i64 v3)] (k:=fi)) fun h2=>brI (fun h5=>fun e=>oj e▸X9 [Bf,Bf,Bt,.wrap] (k:=fi)) fun h5=>brI (fun h6=>fun e=>oj e▸X9 [Bf,Bf,Bf,Bt,.wrap] (k:=fi)) fun h6=>brI (fun h7=>fun e=>oj e▸X9 [Bf,Bf,Bf,Bf,Bt,.wrap] (k:=fi)) fun h7=>brI (fun h8=>bI fun v9 h10=>bI fun v11 h12=>fun e=>oj e▸X9 [Bf,Bf,Bf,Bf,Bf,Bt,.pure _ (aI .i64 v9),.pure _ (aI .i64 v11),.wrap] (k:=fi)) fun h8=>?_
 refine brI (fun h13=>?_) fun h13=>brI (fun h32=>bI fun v33 h34=>fun e=>oj e▸X9 [Bf,Bf,Bf,Bf,Bf,Bf,Bf,Bt,.pure _ (aI .i64 v33)] (k:=fi)) fun h32=>brI (fun h35=>bI fun v36 h37=>fun e=>oj e▸X9 [Bf,Bf,Bf,Bf,Bf,Bf,Bf,Bf,Bt,.pure _ (aI .i64 v36)] (k:=fi)) fun h35=>bI fun v38 h39=>bI fun v40 h41=>fun e=>oj e▸X9 [Bf,Bf,Bf,Bf,Bf,Bf,Bf,Bf,Bf,.pure _ (aB v38),.pure _ (aI .i64 v40)] (k:=fi)
 refine bI fun o30 h31=>rnI [Bf,Bf,Bf,Bf,Bf,Bf,Bt] ?_
 intro h
 refine wkT [] (X2.cut (Xjc a2 _ _ _ _ h31 ?_))
 intro Xo3 eo30;subst eo30
 refine X2.glue ?_
 try dsimp only at h
 revert h
 exact fun e=>oj e▸X9 [] (k:=fi)⟩
theorem Xno:∀ (n:Nat) (a0:(List X05)) (a1:Int) (a2:X7) (r:Int) (h:X1c n a0 a1 a2=some r),X0g Tryz.prog 181 [(Lf (a0.map X4)),(aI .i64 a1),(X0 a2)] (aI .i64 r):=by
 intro n
 induction n with
 |zero=>intro a0 a1 a2 r h;cases h
 |succ n ih =>
  intro a0 a1 a2 r h
  have hrec:=ih
  refine X0g.sym Xa X0dh (nt:=49) rfl rfl ?_ (X1d .list (X1d .sc (X1d (Xa6 _ _).1 X8w)))
  rw[X1c] at h
  revert h
  refine bI fun e1 h2=>?_
  try have qh2:=Xn h2
  refine brI (fun h3=>fun e=>oj e▸X9 [.el (X4 e1),Bt] (k:=fi)) fun h3=>brI (fun h4=>fun e=>oj e▸X9 [.el (X4 e1),Bf,Bt] (k:=fi)) fun h4=>brI (fun h5=>fun e=>oj e▸X9 [.el (X4 e1),Bf,Bf,Bt] (k:=fi)) fun h5=>brI (fun h6=>fun e=>oj e▸X9 [.el (X4 e1),Bf,Bf,Bf,Bt] (k:=fi)) fun h6=>bI fun v7 h8=>bI fun X09r h16=>rnI [.el (X4 e1),Bf,Bf,Bf,Bf,.pure _ (aI .i64 v7)] ?_
  intro h
  refine X2.join (s':=⟨fr [(0,(Lf (a0.map X4))),(5,(AV.ptr 0 0 0)),(7,(AV.ptr 1 0 0)),(8,(aI .i64 X09r))],hp ([(0,Ob [(X0 a2)] 3),(1,Ob [(X4 e1)] 5)]),2⟩) ?_ (fun J=>X2.cut ?_)
  ·
   revert h
   exact bI fun v17 h18=>bI fun v19 h20=>fun e=>oj e▸X9 [.pure [(Lf (a0.map X4)),(aI .i64 e1.A),(X0 a2)] (aI .i64 v17),.pure _ (aI .i64 v19)] (o:=by repeat' first|apply Ya|exact pcM|exact(pn (hrec _ _ _ _ h18) (cc (X5q (X1x X9q a0)) (cc .sc (cc (Xhp (x:=a2)) cn))))|exact X0k) (k:=fi)
  clear h;revert h16
  refine brI (fun h13=>?_) fun h13=>?_
  ·
   refine bI fun v14 h15=>?_
   intro h
   obtain rfl:=oj h
   exact X9 [Bt,.pure [(Lf (a0.map X4)),(aI .i64 e1.B),(X0 a2)] (aI .i64 v14)] (o:=by repeat' first|apply Ya|exact pcM|exact(pn (hrec _ _ _ _ h15) (cc (X5q (X1x X9q a0)) (cc .sc (cc (Xhp (x:=a2)) cn))))|exact X0k) (k:=wkT [] (X2.glue J))
  intro h
  obtain rfl:=oj h
  exact X9 [Bf] (k:=wkT [] (X2.glue J))
instance Xdz:PCs Tryz.prog 147 (∀ (a0:(List X05)) (a1:X7) (r:Int×Int),Xgb a0 a1=some r->X0g Tryz.prog 147 [(Lf (a0.map X4)),(X0 a1)] (AV.tup [(aI .i64 r.1),(aI .i64 r.2)])):=⟨fun a0 a1 r h=>by
 refine X0g.sym Xa X0dv (nt:=24) rfl rfl ?_ okM
 unfold Xgb at h
 revert h
 refine bI fun v1 h2=>brI (fun h3=>fun e=>oj e▸X9 [.pure _ (AV.tup [(aB v1.1),(aI .i64 v1.2.1),(aI .i64 v1.2.2)]),Bt] (k:=fi)) fun h3=>?_
 exact bI fun v4 h5=>fun e=>oj e▸X9 [.pure _ (AV.tup [(aB v1.1),(aI .i64 v1.2.1),(aI .i64 v1.2.2)]),Bf,.el (aI .i64 (a0.length:Int)),.wrap,.pure [(Lf (a0.map X4)),(aI .i64 (IntKind.i64.wrap ((a0.length:Int) - 1))),(X0 a1)] (aI .i64 v4)] (o:=by repeat' first|apply Ya|exact pcM|exact(pn (Xno FU _ _ _ _ h5) (cc (X5q (X1x X9q a0)) (cc (Xoq (by first|rfl|(simp[*];done))) (cc (Xhp (x:=a1)) cn))))|exact X0k) (k:=fi)⟩
instance X03s:PCs Tryz.prog 122 (∀ (a0:(List X05)) (a1:X7) (r:Int),X4w a0 a1=some r->X0g Tryz.prog 122 [(Lf (a0.map X4)),(X0 a1)] (aI .i64 r)):=⟨fun a0 a1 r h=>by
 refine X0g.sym Xa X0eb (nt:=14) rfl rfl ?_ okM
 unfold X4w at h
 revert h
 exact bI fun v1 h2=>fun e=>oj e▸X9 [.pure _ (AV.tup [(aI .i64 v1.1),(aI .i64 v1.2)])] (k:=fi)⟩
theorem Xeq {Q:X02->St->Mu->Prop} {μ:Mu} (Xvq:(List (List Xk))) (X1m:Xu) (Xiu:Int) (Xf4:(List X7)) (hl:Xf4.length<=140737488355328):∀ (xs:List X7) (k:Nat) (hx:Xf4.drop k=xs) (X3p:(List Xv)) (X4d:Nb X3p) (o:Xbg) (h:X36 Xvq X1m Xiu Xf4 xs k X3p=some o)
  (C0:∀ (X1z:(List Xv)) (X17:Nb X1z),o=Xbg.x0 X1z->X2 Tryz.prog 78 0 Q (.exit (.exit 2)) [] ⟨fr [(1,(Lf (List.map (X56 false Xd) Xvq))),(2,(AV.ptr 0 0 0)),(5,(slE X17.1 1 (X1z.map Xg))),(6,(aI .i64 Xiu))],hp ([(0,Ob [(Xm false X1m)] 10)]++opE X17.1 1 4 (X1z.map Xg)),2⟩ μ),
  X2 Tryz.prog 78 0 Q (.loop (X2v 1 (Xh Tryz.f86))) [] ⟨fr [(1,(Lf (List.map (X56 false Xd) Xvq))),(2,(AV.ptr 0 0 0)),(5,(slE X4d.1 1 (X3p.map Xg))),(6,(aI .i64 Xiu)),(7,(AV.list true (Xf4.map X0))),(8,(aI .i64 (k:Int)))],hp ([(0,Ob [(Xm false X1m)] 10)]++opE X4d.1 1 4 (X3p.map Xg)),2⟩ μ:=by
 intro xs
 induction xs with
 |nil =>
  intro k hx X3p X4d o h C0
  have hk:=drop_nil hx
  have hc:decide ((k:Int)<(Xf4.length:Int))=false:=Yf (by omega)
  rw[X36] at h
  rcases X4d with ⟨_|_,X8m⟩
  ·
   refine X2.round ?_
   revert h
   exact fun e=>X9 [.el (aI .i64 (Xf4.length:Int)),Bf] (k:=wkT [] (C0 _  nbF (oj e).symm))
  ·
   obtain rfl:=X8m rfl
   refine X2.round ?_
   revert h
   exact fun e=>X9 [.el (aI .i64 (Xf4.length:Int)),Bf] (k:=wkT [] (C0 _  nbS (oj e).symm))
 |cons x xs ih =>
  intro k hx X3p X4d o h C0
  obtain⟨hk,hg,hx1⟩:=drop_cons hx
  have hc:decide ((k:Int)<(Xf4.length:Int))=true:=Yt (by omega)
  rw[X36] at h
  rcases X4d with ⟨_|_,X8m⟩
  ·
   refine X2.round ?_
   revert h
   refine bI fun Xuf h692=>rnI [.el (aI .i64 (Xf4.length:Int)),Bt,.stop 9] ?_
   intro h
   refine X2.join (s':=⟨fr [(1,(Lf (List.map (X56 false Xd) Xvq))),(2,(AV.ptr 0 0 0)),(5,(AV.ref 1 0 (X3p.length))),(6,(aI .i64 Xiu)),(7,(AV.list true (Xf4.map X0))),(8,(aI .i64 (k:Int))),(40,(aB Xuf))],hp ([(0,Ob [(Xm false X1m)] 10),(1,Ob (X3p.map Xg) 4)]),2⟩) ?_ (fun J=>X2.cut ?_)
   ·
    revert h
    refine brI (fun h693=>?_) fun h693=>?_
    ·
     refine rnI [Bt] ?_
     intro h
     exact wkT [] (ih (k+1) hx1 _ nbF o h C0)
    refine bI fun Xbz h697=>rnI [Bf,.el (X0 x)] ?_
    intro h
    refine X2.join (s':=⟨fr [(1,(Lf (List.map (X56 false Xd) Xvq))),(2,(AV.ptr 0 0 0)),(5,(AV.ref 1 0 (X3p.length))),(6,(aI .i64 Xiu)),(7,(AV.list true (Xf4.map X0))),(8,(aI .i64 (k:Int))),(9,(AV.ptr 2 0 0))],hp ([(0,Ob [(Xm false X1m)] 10),(1,Ob (X3p.map Xg) 4),(2,Ob [(Xg Xbz)] 4)]),3⟩) ?_ (fun J=>X2.cut ?_)
    ·
     revert h
     refine bI fun Xhm h705=>rnI [] ?_
     intro h
     refine X2.join (s':=⟨fr [(1,(Lf (List.map (X56 false Xd) Xvq))),(2,(AV.ptr 0 0 0)),(5,(AV.ref 1 0 (X3p.length))),(6,(aI .i64 Xiu)),(7,(AV.list true (Xf4.map X0))),(8,(aI .i64 (k:Int))),(9,(AV.ptr 2 0 0))],hp ([(0,Ob [(Xm false X1m)] 10),(1,Ob (X3p.map Xg) 4),(2,Ob [(Xg Xhm)] 4)]),3⟩) ?_ (fun J=>X2.cut ?_)
     ·
      revert h
      refine bI fun Xpi h709=>rnI [] ?_
      intro h
      refine X2.join (s':=⟨fr [(1,(Lf (List.map (X56 false Xd) Xvq))),(2,(AV.ptr 0 0 0)),(5,(AV.ref 1 0 (X3p.length))),(6,(aI .i64 Xiu)),(7,(AV.list true (Xf4.map X0))),(8,(aI .i64 (k:Int))),(9,(AV.ptr 2 0 0))],hp ([(0,Ob [(Xm false X1m)] 10),(1,Ob (X3p.map Xg) 4),(2,Ob [(Xg Xpi)] 4)]),3⟩) ?_ (fun J=>X2.cut ?_)
      ·
       revert h
       refine bI fun u710 h711=>rnI [.no] (o:=by repeat' first|apply Ya|exact pcM|(refine X0a h711 rfl ?_;first|(simp;done)|(simp;omega)|(simp[hc,h693];done)|(simp[hc,h693];omega))|(refine Xs h711 (by decide) ?_;first|(simp;done)|(simp;omega)|(simp[hc,h693];done)|(simp[hc,h693];omega))|exact X0k) ?_
       intro h
       exact wkT [(1,4)] (ih (k+1) hx1 _ nbF o h C0)
      clear h;revert h709
      refine brI (fun h708=>?_) fun h708=>?_
      ·
       intro h
       obtain rfl:=oj h
       exact X9 [Bt] (k:=wkT [] (X2.glue J))
      intro h
      obtain rfl:=oj h
      exact X9 [Bf] (k:=wkT [] (X2.glue J))
     clear h;revert h705
     refine brI (fun h702=>?_) fun h702=>?_
     ·
      refine bI fun v703 h704=>?_
      intro h
      obtain rfl:=oj h
      exact X9 [Bt,.el (X0 x),.pure _ (aI .i64 v703)] (k:=wkT [] (X2.glue J))
     intro h
     obtain rfl:=oj h
     exact X9 [Bf] (k:=wkT [] (X2.glue J))
    clear h;revert h697
    refine brI (fun h696=>?_) fun h696=>?_
    ·
     intro h
     obtain rfl:=oj h
     exact X9 [Bt,.el (X0 x)] (k:=wkT [] (X2.glue J))
    intro h
    obtain rfl:=oj h
    exact X9 [Bf] (k:=wkT [] (X2.glue J))
   clear h;revert h692
   refine brI (fun h689=>?_) fun h689=>?_
   ·
    refine bI fun v690 h691=>?_
    intro h
    obtain rfl:=oj h
    exact X9 [.el (aI .i64 (X1m.Where.length:Int)),.go true,.go true,.go true,.go true,.go true,.el (X0 x),.go true,.go true,.pure _ (aI .i64 v690),.go true] (k:=wkT [] (X2.glue J))
   intro h
   obtain rfl:=oj h
   exact X9 [.el (aI .i64 (X1m.Where.length:Int)),.go false,.go false,.go false,.go false,.go false,.go false,.go false,.go false,.go false] (k:=wkT [] (X2.glue J))
  obtain rfl:=X8m rfl
  refine X2.round ?_
  revert h
  refine bI fun X096 h719=>rnI [.el (aI .i64 (Xf4.length:Int)),Bt,.stop 9] ?_
  intro h
  refine X2.join (s':=⟨fr [(1,(Lf (List.map (X56 false Xd) Xvq))),(2,(AV.ptr 0 0 0)),(5,AV.nils),(6,(aI .i64 Xiu)),(7,(AV.list true (Xf4.map X0))),(8,(aI .i64 (k:Int))),(40,(aB X096))],hp ([(0,Ob [(Xm false X1m)] 10)]),2⟩) ?_ (fun J=>X2.cut ?_)
  ·
   revert h
   refine brI (fun h720=>?_) fun h720=>?_
   ·
    refine rnI [Bt] ?_
    intro h
    exact wkT [] (ih (k+1) hx1 _ nbS o h C0)
   refine bI fun X095 h724=>rnI [Bf,.el (X0 x)] ?_
   intro h
   refine X2.join (s':=⟨fr [(1,(Lf (List.map (X56 false Xd) Xvq))),(2,(AV.ptr 0 0 0)),(5,AV.nils),(6,(aI .i64 Xiu)),(7,(AV.list true (Xf4.map X0))),(8,(aI .i64 (k:Int))),(9,(AV.ptr 2 0 0))],hp ([(0,Ob [(Xm false X1m)] 10),(2,Ob [(Xg X095)] 4)]),3⟩) ?_ (fun J=>X2.cut ?_)
   ·
    revert h
    refine bI fun X094 h732=>rnI [] ?_
    intro h
    refine X2.join (s':=⟨fr [(1,(Lf (List.map (X56 false Xd) Xvq))),(2,(AV.ptr 0 0 0)),(5,AV.nils),(6,(aI .i64 Xiu)),(7,(AV.list true (Xf4.map X0))),(8,(aI .i64 (k:Int))),(9,(AV.ptr 2 0 0))],hp ([(0,Ob [(Xm false X1m)] 10),(2,Ob [(Xg X094)] 4)]),3⟩) ?_ (fun J=>X2.cut ?_)
    ·
     revert h
     refine bI fun X093 h736=>rnI [] ?_
     intro h
     refine X2.join (s':=⟨fr [(1,(Lf (List.map (X56 false Xd) Xvq))),(2,(AV.ptr 0 0 0)),(5,AV.nils),(6,(aI .i64 Xiu)),(7,(AV.list true (Xf4.map X0))),(8,(aI .i64 (k:Int))),(9,(AV.ptr 2 0 0))],hp ([(0,Ob [(Xm false X1m)] 10),(2,Ob [(Xg X093)] 4)]),3⟩) ?_ (fun J=>X2.cut ?_)
     ·
      revert h
      refine bI fun u737 h738=>rnI [.no] (o:=by repeat' first|apply Ya|exact pcM|(refine X0a h738 rfl ?_;first|(simp;done)|(simp;omega)|(simp[hc,h720];done)|(simp[hc,h720];omega))|(refine Xs h738 (by decide) ?_;first|(simp;done)|(simp;omega)|(simp[hc,h720];done)|(simp[hc,h720];omega))|exact X0k) ?_
      intro h
      exact wkT [(1,4)] (ih (k+1) hx1 _ nbF o h C0)
     clear h;revert h736
     refine brI (fun h735=>?_) fun h735=>?_
     ·
      intro h
      obtain rfl:=oj h
      exact X9 [Bt] (k:=wkT [] (X2.glue J))
     intro h
     obtain rfl:=oj h
     exact X9 [Bf] (k:=wkT [] (X2.glue J))
    clear h;revert h732
    refine brI (fun h729=>?_) fun h729=>?_
    ·
     refine bI fun v730 h731=>?_
     intro h
     obtain rfl:=oj h
     exact X9 [Bt,.el (X0 x),.pure _ (aI .i64 v730)] (k:=wkT [] (X2.glue J))
    intro h
    obtain rfl:=oj h
    exact X9 [Bf] (k:=wkT [] (X2.glue J))
   clear h;revert h724
   refine brI (fun h723=>?_) fun h723=>?_
   ·
    intro h
    obtain rfl:=oj h
    exact X9 [Bt,.el (X0 x)] (k:=wkT [] (X2.glue J))
   intro h
   obtain rfl:=oj h
   exact X9 [Bf] (k:=wkT [] (X2.glue J))
  clear h;revert h719
  refine brI (fun h716=>?_) fun h716=>?_
  ·
   refine bI fun v717 h718=>?_
   intro h
   obtain rfl:=oj h
   exact X9 [.el (aI .i64 (X1m.Where.length:Int)),.go true,.go true,.go true,.go true,.go true,.el (X0 x),.go true,.go true,.pure _ (aI .i64 v717),.go true] (k:=wkT [] (X2.glue J))
  intro h
  obtain rfl:=oj h
  exact X9 [.el (aI .i64 (X1m.Where.length:Int)),.go false,.go false,.go false,.go false,.go false,.go false,.go false,.go false,.go false] (k:=wkT [] (X2.glue J))
theorem Xkj {Q:X02->St->Mu->Prop} {μ:Mu} (X1s:(List (List Xk))) (Xf:Xu) (hl:X1s.length<=140737488355328):∀ (xs:List (List Xk)) (k:Nat) (hx:X1s.drop k=xs) (Xi:(List Xv)) (Xl:Nb Xi) (o:Xbh) (h:X4l X1s Xf xs k Xi=some o)
  (C0:∀ (Xe:(List Xv)) (Xj:Nb Xe),o=Xbh.x0 Xe->X2 Tryz.prog 78 0 Q (.exit (.exit 0)) [] ⟨fr [(5,(slE Xj.1 0 (Xe.map Xg)))],hp ([]++opE Xj.1 0 4 (Xe.map Xg)),1⟩ μ),
  X2 Tryz.prog 78 0 Q (.loop (X2v 0 (Xh Tryz.f86))) [] ⟨fr [(1,(Lf (List.map (X56 false Xd) X1s))),(2,(AV.ptr 0 0 0)),(5,(slE Xl.1 1 (Xi.map Xg))),(6,(aI .i64 (k:Int)))],hp ([(0,Ob [(Xm false Xf)] 10)]++opE Xl.1 1 4 (Xi.map Xg)),2⟩ μ:=by
 intro xs
 induction xs with
 |nil =>
  intro k hx Xi Xl o h C0
  have hk:=drop_nil hx
  have hc:decide ((k:Int)<(X1s.length:Int))=false:=Yf (by omega)
  rw[X4l] at h
  rcases Xl with ⟨_|_,X04⟩
  ·
   refine X2.round ?_
   revert h
   exact fun e=>X9 [.el (aI .i64 (X1s.length:Int)),Bf] (k:=wkT [(0,1)] (C0 _  nbF (oj e).symm))
  ·
   obtain rfl:=X04 rfl
   refine X2.round ?_
   revert h
   exact fun e=>X9 [.el (aI .i64 (X1s.length:Int)),Bf] (k:=wkT [] (C0 _  nbS (oj e).symm))
 |cons x xs ih =>
  intro k hx Xi Xl o h C0
  obtain⟨hk,hg,hx1⟩:=drop_cons hx
  have hc:decide ((k:Int)<(X1s.length:Int))=true:=Yt (by omega)
  rw[X4l] at h
  rcases Xl with ⟨_|_,X04⟩
  ·
   refine X2.round ?_
   revert h
   refine bI fun v572 h573=>bI fun u574 h575=>?_
   have qh575:=X08 h575
   refine bI fun o739 h740=>rnI [.el (aI .i64 (X1s.length:Int)),Bt,.el (X56 false Xd x),.pure _ (AV.list true (v572.map X0))] ?_
   intro h
   refine wkT [] (X2.cut (Xeq X1s Xf (k:Int) v572 qh575 v572 0 (by simp) _ nbF _ h740 ?_))
   intro X1z X17 eo739;subst eo739
   refine X2.glue ?_
   try dsimp only at h
   rcases X17 with ⟨_|_,X2z⟩
   ·
    exact X9 [] (k:=wkT [] (ih (k+1) hx1 _ nbF o h C0))
   obtain rfl:=X2z rfl
   exact X9 [] (k:=wkT [] (ih (k+1) hx1 _ nbS o h C0))
  obtain rfl:=X04 rfl
  refine X2.round ?_
  revert h
  refine bI fun v741 h742=>bI fun u743 h744=>?_
  have qh744:=X08 h744
  refine bI fun o854 h855=>rnI [.el (aI .i64 (X1s.length:Int)),Bt,.el (X56 false Xd x),.pure _ (AV.list true (v741.map X0))] ?_
  intro h
  refine wkT [] (X2.cut (Xeq X1s Xf (k:Int) v741 qh744 v741 0 (by simp) _ nbS _ h855 ?_))
  intro X1z X17 eo854;subst eo854
  refine X2.glue ?_
  try dsimp only at h
  rcases X17 with ⟨_|_,X2z⟩
  ·
   exact X9 [] (k:=wkT [] (ih (k+1) hx1 _ nbF o h C0))
  obtain rfl:=X2z rfl
  exact X9 [] (k:=wkT [] (ih (k+1) hx1 _ nbS o h C0))
instance X054:PCs Tryz.prog 86 (∀ (a0:Xu) (a1:(List (List Xk))) (r:(List Xv)),Xdc a0 a1=some r->X0g Tryz.prog 86 [(Xm false a0),(Lf (List.map (X56 false Xd) a1))] (AV.list true (r.map Xg))):=⟨fun a0 a1 r h=>by
 refine X0g.sym Xa fn86 (nt:=78) rfl rfl ?_ okM
 unfold Xdc at h
 revert h
 refine bI fun u1 h2=>?_
 have qh2:=X08 h2
 refine bI fun o856 h857=>rnI [] ?_
 intro h
 refine wkT [] (X2.cut (Xkj a1 a0 qh2 a1 0 (by simp) _ nbS _ h857 ?_))
 intro Xe Xj eo856;subst eo856
 refine X2.glue ?_
 try dsimp only at h
 rcases Xj with ⟨_|_,X0n⟩
 ·
  revert h
  exact fun e=>oj e▸X9 [] (k:=fi)
 obtain rfl:=X0n rfl
 revert h
 exact fun e=>oj e▸X9 [] (k:=fi)⟩
instance Xzb:PCs Tryz.prog 148 (∀ (a0:Xr) (a1:Xr) (r:Bool),X8e a0 a1=some r->X0g Tryz.prog 148 [(X3 a0),(X3 a1)] (aB r)):=⟨fun a0 a1 r h=>by
 refine X0g.sym Xa X0du (nt:=17) rfl rfl ?_ okM
 unfold X8e at h
 revert h
 exact fun e=>oj e▸X9 [] (k:=fi)⟩
instance Xhe:PCs Tryz.prog 182 (∀ (a0:Int) (a1:Int) (r:Int),Xga a0 a1=some r->X0g Tryz.prog 182 [(aI .i64 a0),(aI .i64 a1)] (aI .i64 r)):=⟨fun a0 a1 r h=>by
 refine X0g.sym Xa X0dg (nt:=18) rfl rfl ?_ okM
 unfold Xga at h
 revert h
 exact bI fun u1 h2=>fun e=>oj e▸X9 [.wrap,.wrap,.wrap,.wrap,.wrap,.wrap] (k:=fi)⟩
instance X08m:PCs Tryz.prog 149 (∀ (a0:Int) (a1:Int) (r:Xr×Int),Xi4 a0 a1=some r->X0g Tryz.prog 149 [(aI .i64 a0),(aI .i64 a1)] (AV.tup [(X3 r.1),(aI .i64 r.2)])):=⟨fun a0 a1 r h=>by
 refine X0g.sym Xa X0dt (nt:=25) rfl rfl ?_ okM
 unfold Xi4 at h
 revert h
 exact bI fun v1 h2=>brI (fun h3=>fun e=>oj e▸X9 [.pure _ (aI .i64 v1),Bt,.pure _ (aI .i64 v1)] (k:=fi)) fun h3=>bI fun v4 h5=>fun e=>oj e▸X9 [.pure _ (aI .i64 v1),Bf,.pure _ (aI .i64 v4),.wrap,.wrap] (k:=fi)⟩
end Go.Av.Tryz