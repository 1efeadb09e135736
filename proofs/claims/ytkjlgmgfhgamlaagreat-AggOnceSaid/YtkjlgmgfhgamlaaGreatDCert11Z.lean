/- Printed by decomp.py: that the program computes the functions. -/
import Derived.Test.YtkjlgmgfhgamlaaGreatDCert10Z
set_option linter.all false

namespace Go.Av.Tryz
open Go.Proofs Go.D
set_option maxRecDepth 10000
set_option maxHeartbeats 40000000
instance Xun:PCs Tryz.prog 176 (∀ (a0:Int) (r:Bool),X69 a0=some r->X0j Tryz.prog 176 [(aI .u8 a0)] (aB r)):=⟨fun a0 r h=>by
 refine X0j.sym X5 X03a (nt:=9) rfl rfl ?_ okM
 unfold X69 at h
 revert h
 exact fun e=>oj e▸Xa [] (k:=fi)⟩
instance Xvp:PCs Tryz.prog 196 (∀ (a0:(List X05)) (a1:Int) (r:Bool),Xag a0 a1=some r->X0j Tryz.prog 196 [(Lf (a0.map X6)),(aI .i64 a1)] (aB r)):=⟨fun a0 a1 r h=>by
 refine X0j.sym X5 X033 (nt:=67) rfl rfl ?_ okM
 unfold Xag at h
 revert h
 refine bI fun e1 h2=>?_
 try have qh2:=Xq h2
 refine bI fun e3 h4=>?_
 try have qh4:=Xq h4
 refine bI fun v5 h6=>bI fun e7 h8=>?_
 try have qh8:=Xq h8
 exact bI fun v9 h10=>brI (fun h11=>fun e=>oj e▸Xa [.el (X6 e1),.el (X6 e3),.pure _ (aB v5),.el (X6 e7),.pure _ (aB v9),Bt] (k:=fi)) fun h11=>brI (fun h12=>fun e=>oj e▸Xa [.el (X6 e1),.el (X6 e3),.pure _ (aB v5),.el (X6 e7),.pure _ (aB v9),Bf,Bt] (k:=fi)) fun h12=>brI (fun h13=>fun e=>oj e▸Xa [.el (X6 e1),.el (X6 e3),.pure _ (aB v5),.el (X6 e7),.pure _ (aB v9),Bf,Bf,Bt] (k:=fi)) fun h13=>brI (fun h14=>fun e=>oj e▸Xa [.el (X6 e1),.el (X6 e3),.pure _ (aB v5),.el (X6 e7),.pure _ (aB v9),Bf,Bf,Bf,Bt] (k:=fi)) fun h14=>brI (fun h15=>fun e=>oj e▸Xa [.el (X6 e1),.el (X6 e3),.pure _ (aB v5),.el (X6 e7),.pure _ (aB v9),Bf,Bf,Bf,Bf,Bt] (k:=fi)) fun h15=>fun e=>oj e▸Xa [.el (X6 e1),.el (X6 e3),.pure _ (aB v5),.el (X6 e7),.pure _ (aB v9),Bf,Bf,Bf,Bf,Bf] (k:=fi)⟩
theorem Xes {Q:Xv->St->Mu->Prop} {μ:Mu} (X0y:(List X05)) (hl:X0y.length<=140737488355328):∀ (xs:List X05) (k:Nat) (hx:X0y.drop k=xs) (o:X5z) (h:X42 X0y xs k  = some o)
  (C0:o=X5z.x0->X3 Tryz.prog 17 0 Q (.exit (.exit 0)) [] ⟨fr [(0,(Lf (X0y.map X6)))],hp ([]),0⟩ μ)
  (C1:∀ (Xaa:Int),o=X5z.x1 Xaa->X3 Tryz.prog 17 0 Q (.exit .ret) [] ⟨fr [(2,(aI .i64 Xaa))],hp ([]),0⟩ μ),
  X3 Tryz.prog 17 0 Q (.loop (X4y 0 (Xb Tryz.f175))) [] ⟨fr [(0,(Lf (X0y.map X6))),(3,(aI .i64 (k:Int)))],hp ([]),0⟩ μ:=by
 intro xs
 induction xs with
 |nil =>
  intro k hx  o h C0 C1
  have hk:=X1h hx
  have hc:decide ((k:Int)<(X0y.length:Int))=false:=Yf (by omega)
  rw[X42] at h
  refine X3.round ?_
  revert h
  exact fun e=>Xa [.el (aI .i64 (X0y.length:Int)),Bf] (k:=wkT [] (C0  (oj e).symm))
 |cons x xs ih =>
  intro k hx  o h C0 C1
  obtain⟨hk,hg,hx1⟩:=X0w hx
  have hc:decide ((k:Int)<(X0y.length:Int))=true:=Yt (by omega)
  rw[X42] at h
  refine X3.round ?_
  revert h
  refine bI fun v10 h11=>brI (fun h12=>fun e=>Xa [.el (aI .i64 (X0y.length:Int)),Bt,.pure _ (aB v10),Bt] (k:=wkT [] (C1 _  (oj e).symm))) fun h12=>rnI [.el (aI .i64 (X0y.length:Int)),Bt,.pure _ (aB v10),Bf] ?_
  intro h
  exact wkT [] (ih (k+1) hx1  o h C0 C1)
instance Xum:PCs Tryz.prog 175 (∀ (a0:(List X05)) (r:Int),Xav a0=some r->X0j Tryz.prog 175 [(Lf (a0.map X6))] (aI .i64 r)):=⟨fun a0 r h=>by
 refine X0j.sym X5 X03b (nt:=17) rfl rfl ?_ okM
 unfold Xav at h
 revert h
 refine bI fun u1 h2=>?_
 have qh2:=X12 h2
 refine bI fun o13 h14=>rnI [] ?_
 intro h
 refine wkT [] (X3.cut (Xes a0 qh2 a0 0 (by simp) _ h14 ?_ ?_))
 ·
  intro eo13;subst eo13
  refine X3.glue ?_
  try dsimp only at h
  revert h
  exact fun e=>oj e▸Xa [.el (aI .i64 (a0.length:Int))] (k:=fi)
 intro Xaa eo13;subst eo13
 refine X3.glue ?_
 try dsimp only at h
 revert h
 exact fun e=>oj e▸Xa [] (k:=fi)⟩
instance Xyh:PCs Tryz.prog 156 (∀ (a0:(List X05)) (r:Bool×Int×Int),Xdt a0=some r->X0j Tryz.prog 156 [(Lf (a0.map X6))] (AV.tup [(aB r.1),(aI .i64 r.2.1),(aI .i64 r.2.2)])):=⟨fun a0 r h=>by
 refine X0j.sym X5 X03k (nt:=29) rfl rfl ?_ okM
 unfold Xdt at h
 revert h
 refine bI fun v1 h2=>brI (fun h3=>fun e=>oj e▸Xa [.pure _ (aI .i64 v1),Bt,.pure _ (aI .i64 v1)] (k:=fi)) fun h3=>bI fun v4 h5=>brI (fun h6=>fun e=>oj e▸Xa [.pure _ (aI .i64 v1),Bf,.pure _ (aI .i64 v4),.el (aI .i64 (a0.length:Int)),Bt] (k:=fi)) fun h6=>bI fun e7 h8=>?_
 try have qh8:=Xq h8
 exact bI fun v9 h10=>fun e=>oj e▸Xa [.pure _ (aI .i64 v1),Bf,.pure _ (aI .i64 v4),.el (aI .i64 (a0.length:Int)),Bf,.el (aI .i64 (a0.length:Int)),.wrap,.el (X6 e7),.pure _ (aB v9),.el (aI .i64 (a0.length:Int)),.wrap] (k:=fi)⟩
instance Xvq:PCs Tryz.prog 130 (∀ (a0:(List X05)) (a1:Bool) (r:Int×Int),X7i a0 a1=some r->X0j Tryz.prog 130 [(Lf (a0.map X6)),(aB a1)] (AV.tup [(aI .i64 r.1),(aI .i64 r.2)])):=⟨fun a0 a1 r h=>by
 refine X0j.sym X5 X03y (nt:=25) rfl rfl ?_ okM
 unfold X7i at h
 revert h
 exact bI fun v1 h2=>brI (fun h3=>fun e=>oj e▸Xa [.pure _ (AV.tup [(aB v1.1),(aI .i64 v1.2.1),(aI .i64 v1.2.2)]),Bt] (k:=fi)) fun h3=>fun e=>oj e▸Xa [.pure _ (AV.tup [(aB v1.1),(aI .i64 v1.2.1),(aI .i64 v1.2.2)]),Bf] (k:=fi)⟩
instance Xuj:PCs Tryz.prog 87 (∀ (a0:X07) (r:Int×Int),X98 a0=some r->X0j Tryz.prog 87 [(Xy false a0)] (AV.tup [(aI .i64 r.1),(aI .i64 r.2)])):=⟨fun a0 r h=>by
 refine X0j.sym X5 fn87 (nt:=46) rfl rfl ?_ okM
 unfold X98 at h
 revert h
 refine brI (fun h1=>?_) fun h1=>?_
 ·
  refine bI fun v2 h3=>brI (fun h4=>?_) fun h4=>?_
  ·
   refine bI fun e5 h6=>?_
   try have qh6:=Xq h6
   exact fun e=>oj e▸Xa [.el (aI .i64 (a0.Arg.length:Int)),Bt,.pure _ (AV.tup [(aI .i64 v2.1),(aI .i64 v2.2)]),Bt,.el (X6 e5)] (k:=fi)
  refine rnI [.el (aI .i64 (a0.Arg.length:Int)),Bt,.pure _ (AV.tup [(aI .i64 v2.1),(aI .i64 v2.2)]),Bf,.el (aI .i64 (a0.Where.length:Int))] ?_
  refine brI (fun h7=>?_) fun h7=>fun e=>oj e▸Xa [Bf] (k:=fi)
  refine bI fun v8 h9=>brI (fun h10=>?_) fun h10=>fun e=>oj e▸Xa [Bt,.pure _ (AV.tup [(aI .i64 v8.1),(aI .i64 v8.2)]),Bf] (k:=fi)
  refine bI fun e11 h12=>?_
  try have qh12:=Xq h12
  exact fun e=>oj e▸Xa [Bt,.pure _ (AV.tup [(aI .i64 v8.1),(aI .i64 v8.2)]),Bt,.el (X6 e11)] (k:=fi)
 refine brI (fun h13=>?_) fun h13=>fun e=>oj e▸Xa [.el (aI .i64 (a0.Arg.length:Int)),Bf,.el (aI .i64 (a0.Where.length:Int)),Bf] (k:=fi)
 refine bI fun v14 h15=>rnI [.el (aI .i64 (a0.Arg.length:Int)),Bf,.el (aI .i64 (a0.Where.length:Int)),Bt,.pure _ (AV.tup [(aI .i64 v14.1),(aI .i64 v14.2)])] ?_
 refine brI (fun h16=>?_) fun h16=>fun e=>oj e▸Xa [Bf] (k:=fi)
 refine bI fun e17 h18=>?_
 try have qh18:=Xq h18
 exact fun e=>oj e▸Xa [Bt,.el (X6 e17)] (k:=fi)⟩
instance Xuk:PCs Tryz.prog 49 (∀ (a0:X07) (r:Int×Int),X99 a0=some r->X0j Tryz.prog 49 [(Xy false a0)] (AV.tup [(aI .i64 r.1),(aI .i64 r.2)])):=⟨fun a0 r h=>by
 refine X0j.sym X5 fn49 (nt:=13) rfl rfl ?_ okM
 unfold X99 at h
 revert h
 exact bI fun v1 h2=>brI (fun h3=>fun e=>oj e▸Xa [.pure _ (aI .i64 v1),Bt,.pure _ (aI .i64 v1)] (k:=fi)) fun h3=>bI fun v4 h5=>fun e=>oj e▸Xa [.pure _ (aI .i64 v1),Bf,.pure _ (AV.tup [(aI .i64 v4.1),(aI .i64 v4.2)])] (k:=fi)⟩
instance Xq4:PCs Tryz.prog 13 (∀ (a0:X07) (r:Bool),X5q a0=some r->X0j Tryz.prog 13 [(Xy false a0)] (aB r)):=⟨fun a0 r h=>by
 refine X0j.sym X5 fn13 (nt:=12) rfl rfl ?_ okM
 unfold X5q at h
 revert h
 exact bI fun v1 h2=>fun e=>oj e▸Xa [.pure _ (AV.tup [(aI .i64 v1.1),(aI .i64 v1.2)])] (k:=fi)⟩
theorem Xg7 {Q:Xv->St->Mu->Prop} {μ:Mu} (X0y:(List X2)) (Xdk:(List X2)) (hl:X0y.length<=140737488355328):∀ (xs:List X2) (k:Nat) (hx:X0y.drop k=xs) (o:X6r) (h:X4g X0y Xdk xs k  = some o)
  (C0:o=X6r.x0->X3 Tryz.prog 26 0 Q (.exit (.exit 0)) [] ⟨fr [],hp ([]),0⟩ μ)
  (C1:o=X6r.x1->X3 Tryz.prog 26 0 Q (.exit .ret) [] ⟨fr [(4,(aB false))],hp ([]),0⟩ μ),
  X3 Tryz.prog 26 0 Q (.loop (X4y 0 (Xb Tryz.f38))) [] ⟨fr [(0,(Lf (X0y.map X1))),(1,(Lf (Xdk.map X1))),(5,(aI .i64 (k:Int)))],hp ([]),0⟩ μ:=by
 intro xs
 induction xs with
 |nil =>
  intro k hx  o h C0 C1
  have hk:=X1h hx
  have hc:decide ((k:Int)<(X0y.length:Int))=false:=Yf (by omega)
  rw[X4g] at h
  refine X3.round ?_
  revert h
  exact fun e=>Xa [.el (aI .i64 (X0y.length:Int)),Bf] (k:=wkT [] (C0  (oj e).symm))
 |cons x xs ih =>
  intro k hx  o h C0 C1
  obtain⟨hk,hg,hx1⟩:=X0w hx
  have hc:decide ((k:Int)<(X0y.length:Int))=true:=Yt (by omega)
  rw[X4g] at h
  refine X3.round ?_
  revert h
  refine bI fun e11 h12=>?_
  try have qh12:=Xq h12
  refine brI (fun h13=>fun e=>Xa [.el (aI .i64 (X0y.length:Int)),Bt,.el (X1 x),.el (X1 e11),Bt] (k:=wkT [] (C1  (oj e).symm))) fun h13=>rnI [.el (aI .i64 (X0y.length:Int)),Bt,.el (X1 x),.el (X1 e11),Bf] ?_
  intro h
  exact wkT [] (ih (k+1) hx1  o h C0 C1)
instance Xvn:PCs Tryz.prog 38 (∀ (a0:(List X2)) (a1:(List X2)) (r:Bool),X7g a0 a1=some r->X0j Tryz.prog 38 [(Lf (a0.map X1)),(Lf (a1.map X1))] (aB r)):=⟨fun a0 a1 r h=>by
 refine X0j.sym X5 fn38 (nt:=26) rfl rfl ?_ okM
 unfold X7g at h
 revert h
 refine brI (fun h1=>fun e=>oj e▸Xa [.el (aI .i64 (a0.length:Int)),.el (aI .i64 (a1.length:Int)),Bt] (k:=fi)) fun h1=>bI fun u2 h3=>?_
 have qh3:=X12 h3
 refine bI fun o14 h15=>rnI [.el (aI .i64 (a0.length:Int)),.el (aI .i64 (a1.length:Int)),Bf] ?_
 intro h
 refine wkT [] (X3.cut (Xg7 a0 a1 qh3 a0 0 (by simp) _ h15 ?_ ?_))
 ·
  intro eo14;subst eo14
  refine X3.glue ?_
  try dsimp only at h
  revert h
  exact fun e=>oj e▸Xa [] (k:=fi)
 intro eo14;subst eo14
 refine X3.glue ?_
 try dsimp only at h
 revert h
 exact fun e=>oj e▸Xa [] (k:=fi)⟩
instance X00m:PCs Tryz.prog 43 (∀ (a0:X07) (a1:X2) (r:X1n×Int),Xi9 a0 a1=some r->X0j Tryz.prog 43 [(Xy false a0),(X1 a1)] (AV.tup [(Xu r.1),(aI .i64 r.2)])):=⟨fun a0 a1 r h=>by
 refine X0j.sym X5 fn43 (nt:=41) rfl rfl ?_ okM
 unfold Xi9 at h
 revert h
 refine bI fun Xyu h14=>rnI [.stop 1] ?_
 intro h
 refine X3.join (s':=⟨fr [(2,(AV.ptr 0 0 0)),(3,(AV.ptr 1 0 0)),(4,(AV.ptr 2 0 0)),(23,(aB Xyu))],hp ([(0,Ob [(Xy false a0)] 10),(1,Ob [(X1 a1)] 11),(2,Ob [(Xu (X1n.mk 0 (Xz.mk 0 0) (V2.mk 0 0)))] 5)]),3⟩) ?_ (fun J=>X3.cut ?_)
 ·
  revert h
  exact brI (fun h15=>fun e=>oj e▸Xa [Bt] (k:=fi)) fun h15=>bI fun v16 h17=>fun e=>oj e▸Xa [Bf,.ix 0,.pure _ (AV.tup [(aI .i64 v16.1),(aI .i64 v16.2)])] (k:=fi)
 clear h;revert h14
 refine bI fun v8 h9=>brI (fun h10=>?_) fun h10=>?_
 ·
  intro h
  obtain rfl:=oj h
  exact Xa [.pure _ (aB v8),.go false,.go false,.go false,.go false,.go false,.go false,.go false,.go false,.go false] (o:=by repeat' first|apply Ya|exact pcM|exact((X9 h10 rfl))|exact(Xi (X9 h10 rfl))|exact(X5k (X9 h10 rfl))|exact X04) (k:=wkT [] (X3.glue J))
 refine bI fun v11 h12=>brI (fun h13=>?_) fun h13=>?_
 ·
  intro h
  obtain rfl:=oj h
  exact Xa [.pure _ (aB v8),.go true,.go true,.go true,.pure _ (aI .i64 v11),.go true,.go false,.go false,.go false,.go false,.go false] (o:=by repeat' first|apply Ya|exact pcM|exact((X8 h10 h13))|exact(Xi (X8 h10 h13))|exact(X5k (X8 h10 h13))|exact X04) (k:=wkT [] (X3.glue J))
 intro h
 obtain rfl:=oj h
 exact Xa [.pure _ (aB v8),.go true,.go true,.go true,.pure _ (aI .i64 v11),.go true,.go true,.go true,.ix 1,.go true,.go true,.go true] (o:=by repeat' first|apply Ya|exact pcM|exact((X8 h10 h13))|exact(Xi (X8 h10 h13))|exact(Xd3 (X8 h10 h13))|exact X04) (k:=wkT [] (X3.glue J))⟩
theorem Xf1 {Q:Xv->St->Mu->Prop} {μ:Mu} (Xmq:Int) (Xn:X07) (Xk:X00) (X5e:(List X2)) (Xpv:(List X2)) (hl:X5e.length<=140737488355328):∀ (xs:List X2) (k:Nat) (hx:X5e.drop k=xs) (o:X63) (h:X47 Xmq Xn Xk X5e Xpv xs k  = some o)
  (C0:o=X63.x0->X3 Tryz.prog 106 0 Q (.exit (.exit 0)) [] ⟨fr [(4,(aI .i64 Xmq)),(12,(AV.list true (Xpv.map X1)))],hp ([]),0⟩ μ)
  (C1:o=X63.x1->X3 Tryz.prog 106 0 Q (.exit .ret) [] ⟨fr [(10,(aB false))],hp ([]),0⟩ μ),
  X3 Tryz.prog 106 0 Q (.loop (X4y 0 (Xb Tryz.f45))) [] ⟨fr [(4,(aI .i64 Xmq)),(5,(AV.ptr 0 0 0)),(7,(AV.ptr 1 0 0)),(11,(AV.list true (X5e.map X1))),(12,(AV.list true (Xpv.map X1))),(14,(aI .i64 (k:Int)))],hp ([(0,Ob [(Xy false Xn)] 10),(1,Ob [(Xj false Xk)] 9)]),2⟩ μ:=by
 intro xs
 induction xs with
 |nil =>
  intro k hx  o h C0 C1
  have hk:=X1h hx
  have hc:decide ((k:Int)<(X5e.length:Int))=false:=Yf (by omega)
  rw[X47] at h
  refine X3.round ?_
  revert h
  exact fun e=>Xa [.el (aI .i64 (X5e.length:Int)),Bf] (k:=wkT [] (C0  (oj e).symm))
 |cons x xs ih =>
  intro k hx  o h C0 C1
  obtain⟨hk,hg,hx1⟩:=X0w hx
  have hc:decide ((k:Int)<(X5e.length:Int))=true:=Yt (by omega)
  rw[X47] at h
  refine X3.round ?_
  revert h
  refine bI fun v52 h53=>bI fun Xt4 h63=>rnI [.el (aI .i64 (X5e.length:Int)),Bt,.el (X1 x),.pure _ (AV.tup [(Xu v52.1),(aI .i64 v52.2)]),.stop 10] ?_
  intro h
  refine X3.join (s':=⟨fr [(4,(aI .i64 Xmq)),(5,(AV.ptr 0 0 0)),(7,(AV.ptr 1 0 0)),(11,(AV.list true (X5e.map X1))),(12,(AV.list true (Xpv.map X1))),(14,(aI .i64 (k:Int))),(91,(aB Xt4))],hp ([(0,Ob [(Xy false Xn)] 10),(1,Ob [(Xj false Xk)] 9)]),2⟩) ?_ (fun J=>X3.cut ?_)
  ·
   revert h
   refine brI (fun h64=>fun e=>Xa [Bt] (k:=wkT [] (C1  (oj e).symm))) fun h64=>rnI [Bf] ?_
   intro h
   exact wkT [] (ih (k+1) hx1  o h C0 C1)
  clear h;revert h63
  refine brI (fun h59=>?_) fun h59=>?_
  ·
   intro h
   obtain rfl:=oj h
   exact Xa [.go false,.go false,.go false,.go false,.go false,.go false,.go false,.go false,.go false,.go true,.go false,.go false,.go false,.go false,.go false,.go true] (k:=wkT [] (X3.glue J))
  refine bI fun e60 h61=>?_
  try have qh61:=Xq h61
  refine brI (fun h62=>?_) fun h62=>?_
  ·
   intro h
   obtain rfl:=oj h
   exact Xa [.go true,.go true,.go true,.go true,.el (X01 e60),.go true,.go true,.go true,.go true,.go true,.go false,.go false,.go false,.go false,.go false,.go true] (o:=by repeat' first|apply Ya|exact pcM|exact((X8 h59 h62))|exact(Xi (X8 h59 h62))|exact X04) (k:=wkT [] (X3.glue J))
  intro h
  obtain rfl:=oj h
  exact Xa [.go true,.go true,.go true,.go true,.el (X01 e60),.go true,.go true,.go true,.go true,.go true,.go true,.go true,.go true,.go true,.go true] (o:=by repeat' first|apply Ya|exact pcM|exact((X8 h59 h62))|exact(Xi (X8 h59 h62))|exact(Xd3 (X8 h59 h62))|exact X04) (k:=wkT [] (X3.glue J))
theorem Xf0 {Q:Xv->St->Mu->Prop} {μ:Mu} (y1_4:Int) (Xh0:(List X2)) (hl:Xh0.length<=140737488355328):∀ (xs:List X2) (k:Nat) (hx:Xh0.drop k=xs) (o:X62) (h:X46 y1_4 Xh0 xs k  = some o)
  (C0:o=X62.x0->X3 Tryz.prog 106 0 Q (.exit (.exit 2)) [] ⟨fr [],hp ([]),0⟩ μ)
  (C1:o=X62.x1->X3 Tryz.prog 106 0 Q (.exit .ret) [] ⟨fr [(10,(aB false))],hp ([]),0⟩ μ),
  X3 Tryz.prog 106 0 Q (.loop (X4y 1 (Xb Tryz.f45))) [] ⟨fr [(4,(aI .i64 y1_4)),(12,(AV.list true (Xh0.map X1))),(17,(aI .i64 (k:Int)))],hp ([]),0⟩ μ:=by
 intro xs
 induction xs with
 |nil =>
  intro k hx  o h C0 C1
  have hk:=X1h hx
  have hc:decide ((k:Int)<(Xh0.length:Int))=false:=Yf (by omega)
  rw[X46] at h
  refine X3.round ?_
  revert h
  exact fun e=>Xa [.el (aI .i64 (Xh0.length:Int)),Bf] (k:=wkT [] (C0  (oj e).symm))
 |cons x xs ih =>
  intro k hx  o h C0 C1
  obtain⟨hk,hg,hx1⟩:=X0w hx
  have hc:decide ((k:Int)<(Xh0.length:Int))=true:=Yt (by omega)
  rw[X46] at h
  refine X3.round ?_
  revert h
  refine brI (fun h72=>fun e=>Xa [.el (aI .i64 (Xh0.length:Int)),Bt,.el (X1 x),Bt] (k:=wkT [] (C1  (oj e).symm))) fun h72=>rnI [.el (aI .i64 (Xh0.length:Int)),Bt,.el (X1 x),Bf] ?_
  intro h
  exact wkT [] (ih (k+1) hx1  o h C0 C1)
instance Xv1:PCs Tryz.prog 45 (∀ (a0:X07) (a1:X00) (a2:X00) (a3:Int) (a4:Int) (r:Bool),X6c a0 a1 a2 a3 a4=some r->X0j Tryz.prog 45 [(Xy false a0),(Xj false a1),(Xj false a2),(aI .i64 a3),(aI .i64 a4)] (aB r)):=⟨fun a0 a1 a2 a3 a4 r h=>by
 refine X0j.sym X5 fn45 (nt:=106) rfl rfl ?_ okM
 unfold X6c at h
 revert h
 refine brI (fun h1=>?_) fun h1=>?_
 ·
  refine bI fun Xyx h9=>rnI [Bt,.stop 2] ?_
  intro h
  refine X3.join (s':=⟨fr [(10,(aB Xyx))],hp ([]),0⟩) ?_ (fun J=>X3.cut ?_)
  ·
   revert h
   exact fun e=>oj e▸Xa [] (k:=fi)
  clear h;revert h9
  refine brI (fun h6=>?_) fun h6=>?_
  ·
   refine bI fun v7 h8=>?_
   intro h
   obtain rfl:=oj h
   exact Xa [.el (aI .i64 (a2.Pending.length:Int)),.go true,.go true,.go true,.go true,.go true,.pure _ (aB v7)] (k:=wkT [] (X3.glue J))
  intro h
  obtain rfl:=oj h
  exact Xa [.el (aI .i64 (a2.Pending.length:Int)),.go false,.go false,.go false,.go false,.go false] (k:=wkT [] (X3.glue J))
 refine bI fun v10 h11=>bI fun Xtb h21=>rnI [Bf,.pure _ (AV.tup [(AV.list true (v10.1.map X1)),(AV.list true (v10.2.1.map X1)),(aI .i64 v10.2.2)]),.stop 4] ?_
 intro h
 refine X3.join (s':=⟨fr [(4,(aI .i64 a4)),(5,(AV.ptr 0 0 0)),(7,(AV.ptr 1 0 0)),(11,(AV.list true (v10.1.map X1))),(12,(AV.list true (v10.2.1.map X1))),(56,(aB Xtb))],hp ([(0,Ob [(Xy false a0)] 10),(1,Ob [(Xj false a2)] 9)]),2⟩) ?_ (fun J=>X3.cut ?_)
 ·
  revert h
  refine brI (fun h22=>fun e=>oj e▸Xa [Bt] (k:=fi)) fun h22=>bI fun u23 h24=>?_
  have qh24:=X12 h24
  refine bI fun o65 h66=>rnI [Bf] ?_
  intro h
  refine wkT [] (X3.cut (Xf1 a4 a0 a2 v10.1 v10.2.1 qh24 v10.1 0 (by simp) _ h66 ?_ ?_))
  ·
   intro eo65;subst eo65
   refine X3.glue ?_
   try dsimp only at h
   revert h
   refine bI fun u67 h68=>?_
   have qh68:=X12 h68
   refine bI fun o73 h74=>rnI [] ?_
   intro h
   refine wkT [] (X3.cut (Xf0 a4 v10.2.1 qh68 v10.2.1 0 (by simp) _ h74 ?_ ?_))
   ·
    intro eo73;subst eo73
    refine X3.glue ?_
    try dsimp only at h
    revert h
    exact fun e=>oj e▸Xa [] (k:=fi)
   intro eo73;subst eo73
   refine X3.glue ?_
   try dsimp only at h
   revert h
   exact fun e=>oj e▸Xa [] (k:=fi)
  intro eo65;subst eo65
  refine X3.glue ?_
  try dsimp only at h
  revert h
  exact fun e=>oj e▸Xa [] (k:=fi)
 clear h;revert h21
 refine brI (fun h17=>?_) fun h17=>?_
 ·
  intro h
  obtain rfl:=oj h
  exact Xa [.go false,.go false,.go false,.go false,.go false,.go false,.go false,.go false,.go false,.go false,.go false] (o:=by repeat' first|apply Ya|exact pcM|exact((X9 h17 rfl))|exact(Xi (X9 h17 rfl))|exact(X5k (X9 h17 rfl))|exact X04) (k:=wkT [(1,2)] (X3.glue J))
 refine bI fun v18 h19=>brI (fun h20=>?_) fun h20=>?_
 ·
  intro h
  obtain rfl:=oj h
  exact Xa [.go true,.go true,.go true,.go true,.pure _ (aB v18),.go true,.go false,.go false,.go false,.go false,.go false,.go false] (o:=by repeat' first|apply Ya|exact pcM|exact((X8 h17 h20))|exact(Xi (X8 h17 h20))|exact(X5k (X8 h17 h20))|exact X04) (k:=wkT [(1,2)] (X3.glue J))
 intro h
 obtain rfl:=oj h
 exact Xa [.go true,.go true,.go true,.go true,.pure _ (aB v18),.go true,.go true,.go true,.go true,.el (aI .i64 (a2.Pending.length:Int)),.go true,.go true,.el (aI .i64 (v10.1.length:Int)),.go true] (o:=by repeat' first|apply Ya|exact pcM|exact((X8 h17 h20))|exact(Xi (X8 h17 h20))|exact(Xd3 (X8 h17 h20))|exact X04) (k:=wkT [(1,2)] (X3.glue J))⟩
theorem Xdd {Q:Xv->St->Mu->Prop} {μ:Mu} (Xh3:(List Int)) (X8s:(List Xg)) (Xn:X07) (Xj9:Bool) (hl:X8s.length<=140737488355328):∀ (xs:List Xg) (k:Nat) (hx:X8s.drop k=xs) (Xk:X00) (o:X4x) (h:X29 Xh3 X8s Xn Xj9 xs k Xk=some o)
  (C0:o=X4x.x0->X3 Tryz.prog 160 0 Q (.exit (.exit 0)) [] ⟨fr [(9,(aB Xj9))],hp ([]),0⟩ μ)
  (C1:o=X4x.x1->X3 Tryz.prog 160 0 Q (.exit .ret) [] ⟨fr [(8,(aB false))],hp ([]),0⟩ μ),
  X3 Tryz.prog 160 0 Q (.loop (X4y 0 (Xb Tryz.f10))) [] ⟨fr [(2,(Lf (List.map (aI .i64) Xh3))),(3,(Lf (X8s.map Xo))),(4,(AV.ptr 0 0 0)),(9,(aB Xj9)),(10,(AV.ptr 1 0 0)),(12,(aI .i64 (k:Int)))],hp ([(0,Ob [(Xy false Xn)] 10),(1,Ob [(Xj true Xk)] 9)]),2⟩ μ:=by
 intro xs
 induction xs with
 |nil =>
  intro k hx Xk o h C0 C1
  have hk:=X1h hx
  have hc:decide ((k:Int)<(X8s.length:Int))=false:=Yf (by omega)
  rw[X29] at h
  refine X3.round ?_
  revert h
  exact fun e=>Xa [.el (aI .i64 (X8s.length:Int)),Bf] (k:=wkT [] (C0  (oj e).symm))
 |cons x xs ih =>
  intro k hx Xk o h C0 C1
  obtain⟨hk,hg,hx1⟩:=X0w hx
  have hc:decide ((k:Int)<(X8s.length:Int))=true:=Yt (by omega)
  rw[X29] at h
  refine X3.round ?_
  revert h
  refine bI fun e92 h93=>?_
  try have qh93:=Xq h93
  refine bI fun v94 h95=>rnI [.el (aI .i64 (X8s.length:Int)),Bt,.el (aI .i64 e92),.el (Xo x),.pure _ (AV.tup [(Xj true v94.1),(aI .i64 v94.2)])] ?_
  refine brI (fun h96=>?_) fun h96=>?_
  ·
   refine rnI [Bt] ?_
   intro h
   exact wkT [] (ih (k+1) hx1 _ o h C0 C1)
  refine bI fun v97 h98=>bI fun v99 h100=>brI (fun h101=>fun e=>Xa [Bf,.pure _ (AV.tup [(aI .i64 v97.1),(aI .i64 v97.2)]),.pure _ (AV.tup [(aI .i64 v99.1),(aI .i64 v99.2)]),Bt] (k:=wkT [] (C1  (oj e).symm))) fun h101=>?_
  refine brI (fun h102=>?_) fun h102=>?_
  ·
   refine bI fun v103 h104=>bI fun Xkl h116=>rnI [Bf,.pure _ (AV.tup [(aI .i64 v97.1),(aI .i64 v97.2)]),.pure _ (AV.tup [(aI .i64 v99.1),(aI .i64 v99.2)]),Bf,.el (Xo x),Bt,.el (Xo x),.pure _ (AV.tup [(AV.list true (v103.1.map X1)),(aI .i64 v103.2)]),.stop 18] ?_
   intro h
   refine X3.join (s':=⟨fr [(2,(Lf (List.map (aI .i64) Xh3))),(3,(Lf (X8s.map Xo))),(4,(AV.ptr 0 0 0)),(9,(aB Xj9)),(10,(AV.ptr 1 0 0)),(12,(aI .i64 (k:Int))),(13,(AV.ptr 2 0 0)),(148,(aB Xkl))],hp ([(0,Ob [(Xy false Xn)] 10),(1,Ob [(Xj true Xk)] 9),(2,Ob [(Xj true v94.1)] 9)]),3⟩) ?_ (fun J=>X3.cut ?_)
   ·
    revert h
    refine brI (fun h117=>fun e=>Xa [Bt] (k:=wkT [] (C1  (oj e).symm))) fun h117=>rnI [Bf] ?_
    intro h
    exact wkT [] (ih (k+1) hx1 _ o h C0 C1)
   clear h;revert h116
   refine brI (fun h111=>?_) fun h111=>?_
   ·
    intro h
    obtain rfl:=oj h
    exact Xa [.go false,.go false,.go false,.go false,.go false,.go false,.go false,.go false,.go false,.go false,.go false,.go false] (o:=by repeat' first|apply Ya|exact pcM|exact((X9 h111 rfl))|exact(Xi (X9 h111 rfl))|exact(X5k (X9 h111 rfl))|exact((X9 (X9 h111 rfl) rfl))|exact(Xi (X9 (X9 h111 rfl) rfl))|exact(X5k (X9 (X9 h111 rfl) rfl))|exact X04) (k:=wkT [(2,16)] (X3.glue J))
   refine bI fun v112 h113=>brI (fun h114=>?_) fun h114=>?_
   ·
    intro h
    obtain rfl:=oj h
    exact Xa [.go true,.go true,.go true,.go true,.pure _ (aB v112),.go true,.go false,.go false,.go false,.go false,.go false,.go false,.go false] (o:=by repeat' first|apply Ya|exact pcM|exact((X8 h111 h114))|exact(Xi (X8 h111 h114))|exact(X5k (X8 h111 h114))|exact((X9 (X8 h111 h114) rfl))|exact(Xi (X9 (X8 h111 h114) rfl))|exact(X5k (X9 (X8 h111 h114) rfl))|exact X04) (k:=wkT [(2,16)] (X3.glue J))
   refine rnI [.go true,.go true,.go true,.go true,.pure _ (aB v112),.go true,.go true,.go true,.go true,.el (aI .i64 (v94.1.Pending.length:Int)),.go true,.stop 999999] (o:=by repeat' first|apply Ya|exact pcM|exact((X8 h111 h114))|exact(Xi (X8 h111 h114))|exact(Xd3 (X8 h111 h114))|exact X04) ?_
   refine brI (fun h115=>?_) fun h115=>?_
   ·
    intro h
    obtain rfl:=oj h
    exact Xa [.go false,.go false,.go false] (o:=by repeat' first|apply Ya|exact pcM|exact((X8 (X8 h111 h114) h115))|exact(Xi (X8 (X8 h111 h114) h115))|exact(X5k (X8 (X8 h111 h114) h115))|exact X04) (k:=wkT [(2,16)] (X3.glue J))
   intro h
   obtain rfl:=oj h
   exact Xa [.go true,.go true,.go true] (o:=by repeat' first|apply Ya|exact pcM|exact((X8 (X8 h111 h114) h115))|exact(Xi (X8 (X8 h111 h114) h115))|exact(Xd3 (X8 (X8 h111 h114) h115))|exact X04) (k:=wkT [(2,16)] (X3.glue J))
  refine bI fun v118 h119=>rnI [Bf,.pure _ (AV.tup [(aI .i64 v97.1),(aI .i64 v97.2)]),.pure _ (AV.tup [(aI .i64 v99.1),(aI .i64 v99.2)]),Bf,.el (Xo x),Bf,.pure _ (aB v118)] ?_
  refine brI (fun h120=>fun e=>Xa [Bt] (k:=wkT [] (C1  (oj e).symm))) fun h120=>rnI [Bf] ?_
  intro h
  refine X3.denil 1 [AV.agg [(aI .u8 v94.1.Op.Kind),(aI .i64 v94.1.Op.N),(aI .i64 v94.1.Turn),(AV.list true (List.map X01 ([]:List X0g))),(AV.list true (List.map (aI .i64) v94.1.Marks)),(AV.list true (v94.1.Store.map X1)),(AV.list true (v94.1.Events.map X06)),(AV.list true (v94.1.Rows.map Xu)),(AV.list true (v94.1.Late.map Xx))]] rfl rfl ?_
  refine X3.denil 16 [AV.agg [(aI .u8 v94.1.Op.Kind),(aI .i64 v94.1.Op.N),(aI .i64 v94.1.Turn),(AV.list true (List.map X01 ([]:List X0g))),(AV.list true (List.map (aI .i64) v94.1.Marks)),(AV.list true (v94.1.Store.map X1)),(AV.list true (v94.1.Events.map X06)),(AV.list true (v94.1.Rows.map Xu)),(AV.list true (v94.1.Late.map Xx))]] rfl rfl ?_
  exact wkT [] (ih (k+1) hx1 _ o h C0 C1)
end Go.Av.Tryz