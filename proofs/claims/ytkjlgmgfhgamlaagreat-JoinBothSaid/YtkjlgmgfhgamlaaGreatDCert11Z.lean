/- Printed by decomp.py: that the program computes the functions. -/
import Derived.Test.YtkjlgmgfhgamlaaGreatDCert10Z
set_option linter.all false

namespace Go.Av.Tryz
open Go.Proofs Go.D
set_option maxRecDepth 10000
set_option maxHeartbeats 40000000
theorem Xep {Q:Xw->St->Mu->Prop} {μ:Mu} (X0u:(List X04)) (hl:X0u.length<=140737488355328):∀ (xs:List X04) (k:Nat) (hx:X0u.drop k=xs) (o:X5x) (h:X41 X0u xs k  = some o)
  (C0:o=X5x.x0->X3 Tryz.prog 17 0 Q (.exit (.exit 0)) [] ⟨fr [(0,(Lf (X0u.map X5)))],hp ([]),0⟩ μ)
  (C1:∀ (Xa8:Int),o=X5x.x1 Xa8->X3 Tryz.prog 17 0 Q (.exit .ret) [] ⟨fr [(2,(aI .i64 Xa8))],hp ([]),0⟩ μ),
  X3 Tryz.prog 17 0 Q (.loop (X56 0 (Xb Tryz.f175))) [] ⟨fr [(0,(Lf (X0u.map X5))),(3,(aI .i64 (k:Int)))],hp ([]),0⟩ μ:=by
 intro xs
 induction xs with
 |nil =>
  intro k hx  o h C0 C1
  have hk:=X1l hx
  have hc:decide ((k:Int)<(X0u.length:Int))=false:=Yf (by omega)
  rw[X41] at h
  refine X3.round ?_
  revert h
  exact fun e=>X8 [.el (aI .i64 (X0u.length:Int)),Bf] (k:=wkT [] (C0  (oj e).symm))
 |cons x xs ih =>
  intro k hx  o h C0 C1
  obtain⟨hk,hg,hx1⟩:=X10 hx
  have hc:decide ((k:Int)<(X0u.length:Int))=true:=Yt (by omega)
  rw[X41] at h
  refine X3.round ?_
  revert h
  refine bI fun v10 h11=>brI (fun h12=>fun e=>X8 [.el (aI .i64 (X0u.length:Int)),Bt,.pure _ (aB v10),Bt] (k:=wkT [] (C1 _  (oj e).symm))) fun h12=>rnI [.el (aI .i64 (X0u.length:Int)),Bt,.pure _ (aB v10),Bf] ?_
  intro h
  exact wkT [] (ih (k+1) hx1  o h C0 C1)
instance Xuh:PCs Tryz.prog 175 (∀ (a0:(List X04)) (r:Int),Xau a0=some r->X0g Tryz.prog 175 [(Lf (a0.map X5))] (aI .i64 r)):=⟨fun a0 r h=>by
 refine X0g.sym X6 X036 (nt:=17) rfl rfl ?_ okM
 unfold Xau at h
 revert h
 refine bI fun u1 h2=>?_
 have qh2:=X12 h2
 refine bI fun o13 h14=>rnI [] ?_
 intro h
 refine wkT [] (X3.cut (Xep a0 qh2 a0 0 (by simp) _ h14 ?_ ?_))
 ·
  intro eo13;subst eo13
  refine X3.glue ?_
  try dsimp only at h
  revert h
  exact fun e=>oj e▸X8 [.el (aI .i64 (a0.length:Int))] (k:=fi)
 intro Xa8 eo13;subst eo13
 refine X3.glue ?_
 try dsimp only at h
 revert h
 exact fun e=>oj e▸X8 [] (k:=fi)⟩
instance Xyd:PCs Tryz.prog 156 (∀ (a0:(List X04)) (r:Bool×Int×Int),Xdp a0=some r->X0g Tryz.prog 156 [(Lf (a0.map X5))] (AV.tup [(aB r.1),(aI .i64 r.2.1),(aI .i64 r.2.2)])):=⟨fun a0 r h=>by
 refine X0g.sym X6 X03f (nt:=29) rfl rfl ?_ okM
 unfold Xdp at h
 revert h
 refine bI fun v1 h2=>brI (fun h3=>fun e=>oj e▸X8 [.pure _ (aI .i64 v1),Bt,.pure _ (aI .i64 v1)] (k:=fi)) fun h3=>bI fun v4 h5=>brI (fun h6=>fun e=>oj e▸X8 [.pure _ (aI .i64 v1),Bf,.pure _ (aI .i64 v4),.el (aI .i64 (a0.length:Int)),Bt] (k:=fi)) fun h6=>bI fun e7 h8=>?_
 try have qh8:=Xq h8
 exact bI fun v9 h10=>fun e=>oj e▸X8 [.pure _ (aI .i64 v1),Bf,.pure _ (aI .i64 v4),.el (aI .i64 (a0.length:Int)),Bf,.el (aI .i64 (a0.length:Int)),.wrap,.el (X5 e7),.pure _ (aB v9),.el (aI .i64 (a0.length:Int)),.wrap] (k:=fi)⟩
instance Xvk:PCs Tryz.prog 130 (∀ (a0:(List X04)) (a1:Bool) (r:Int×Int),X7e a0 a1=some r->X0g Tryz.prog 130 [(Lf (a0.map X5)),(aB a1)] (AV.tup [(aI .i64 r.1),(aI .i64 r.2)])):=⟨fun a0 a1 r h=>by
 refine X0g.sym X6 X03t (nt:=25) rfl rfl ?_ okM
 unfold X7e at h
 revert h
 exact bI fun v1 h2=>brI (fun h3=>fun e=>oj e▸X8 [.pure _ (AV.tup [(aB v1.1),(aI .i64 v1.2.1),(aI .i64 v1.2.2)]),Bt] (k:=fi)) fun h3=>fun e=>oj e▸X8 [.pure _ (AV.tup [(aB v1.1),(aI .i64 v1.2.1),(aI .i64 v1.2.2)]),Bf] (k:=fi)⟩
instance Xue:PCs Tryz.prog 87 (∀ (a0:X03) (r:Int×Int),X98 a0=some r->X0g Tryz.prog 87 [(Xu false a0)] (AV.tup [(aI .i64 r.1),(aI .i64 r.2)])):=⟨fun a0 r h=>by
 refine X0g.sym X6 fn87 (nt:=46) rfl rfl ?_ okM
 unfold X98 at h
 revert h
 refine brI (fun h1=>?_) fun h1=>?_
 ·
  refine bI fun v2 h3=>brI (fun h4=>?_) fun h4=>?_
  ·
   refine bI fun e5 h6=>?_
   try have qh6:=Xq h6
   exact fun e=>oj e▸X8 [.el (aI .i64 (a0.Arg.length:Int)),Bt,.pure _ (AV.tup [(aI .i64 v2.1),(aI .i64 v2.2)]),Bt,.el (X5 e5)] (k:=fi)
  refine rnI [.el (aI .i64 (a0.Arg.length:Int)),Bt,.pure _ (AV.tup [(aI .i64 v2.1),(aI .i64 v2.2)]),Bf,.el (aI .i64 (a0.Where.length:Int))] ?_
  refine brI (fun h7=>?_) fun h7=>fun e=>oj e▸X8 [Bf] (k:=fi)
  refine bI fun v8 h9=>brI (fun h10=>?_) fun h10=>fun e=>oj e▸X8 [Bt,.pure _ (AV.tup [(aI .i64 v8.1),(aI .i64 v8.2)]),Bf] (k:=fi)
  refine bI fun e11 h12=>?_
  try have qh12:=Xq h12
  exact fun e=>oj e▸X8 [Bt,.pure _ (AV.tup [(aI .i64 v8.1),(aI .i64 v8.2)]),Bt,.el (X5 e11)] (k:=fi)
 refine brI (fun h13=>?_) fun h13=>fun e=>oj e▸X8 [.el (aI .i64 (a0.Arg.length:Int)),Bf,.el (aI .i64 (a0.Where.length:Int)),Bf] (k:=fi)
 refine bI fun v14 h15=>rnI [.el (aI .i64 (a0.Arg.length:Int)),Bf,.el (aI .i64 (a0.Where.length:Int)),Bt,.pure _ (AV.tup [(aI .i64 v14.1),(aI .i64 v14.2)])] ?_
 refine brI (fun h16=>?_) fun h16=>fun e=>oj e▸X8 [Bf] (k:=fi)
 refine bI fun e17 h18=>?_
 try have qh18:=Xq h18
 exact fun e=>oj e▸X8 [Bt,.el (X5 e17)] (k:=fi)⟩
instance Xuf:PCs Tryz.prog 49 (∀ (a0:X03) (r:Int×Int),X99 a0=some r->X0g Tryz.prog 49 [(Xu false a0)] (AV.tup [(aI .i64 r.1),(aI .i64 r.2)])):=⟨fun a0 r h=>by
 refine X0g.sym X6 fn49 (nt:=13) rfl rfl ?_ okM
 unfold X99 at h
 revert h
 exact bI fun v1 h2=>brI (fun h3=>fun e=>oj e▸X8 [.pure _ (aI .i64 v1),Bt,.pure _ (aI .i64 v1)] (k:=fi)) fun h3=>bI fun v4 h5=>fun e=>oj e▸X8 [.pure _ (aI .i64 v1),Bf,.pure _ (AV.tup [(aI .i64 v4.1),(aI .i64 v4.2)])] (k:=fi)⟩
instance Xpw:PCs Tryz.prog 13 (∀ (a0:X03) (r:Bool),X5o a0=some r->X0g Tryz.prog 13 [(Xu false a0)] (aB r)):=⟨fun a0 r h=>by
 refine X0g.sym X6 fn13 (nt:=12) rfl rfl ?_ okM
 unfold X5o at h
 revert h
 exact bI fun v1 h2=>fun e=>oj e▸X8 [.pure _ (AV.tup [(aI .i64 v1.1),(aI .i64 v1.2)])] (k:=fi)⟩
theorem Xg5 {Q:Xw->St->Mu->Prop} {μ:Mu} (X0u:(List X2)) (X8s:(List X2)) (hl:X0u.length<=140737488355328):∀ (xs:List X2) (k:Nat) (hx:X0u.drop k=xs) (o:X6o) (h:X4e X0u X8s xs k  = some o)
  (C0:o=X6o.x0->X3 Tryz.prog 26 0 Q (.exit (.exit 0)) [] ⟨fr [],hp ([]),0⟩ μ)
  (C1:o=X6o.x1->X3 Tryz.prog 26 0 Q (.exit .ret) [] ⟨fr [(4,(aB false))],hp ([]),0⟩ μ),
  X3 Tryz.prog 26 0 Q (.loop (X56 0 (Xb Tryz.f38))) [] ⟨fr [(0,(Lf (X0u.map X1))),(1,(Lf (X8s.map X1))),(5,(aI .i64 (k:Int)))],hp ([]),0⟩ μ:=by
 intro xs
 induction xs with
 |nil =>
  intro k hx  o h C0 C1
  have hk:=X1l hx
  have hc:decide ((k:Int)<(X0u.length:Int))=false:=Yf (by omega)
  rw[X4e] at h
  refine X3.round ?_
  revert h
  exact fun e=>X8 [.el (aI .i64 (X0u.length:Int)),Bf] (k:=wkT [] (C0  (oj e).symm))
 |cons x xs ih =>
  intro k hx  o h C0 C1
  obtain⟨hk,hg,hx1⟩:=X10 hx
  have hc:decide ((k:Int)<(X0u.length:Int))=true:=Yt (by omega)
  rw[X4e] at h
  refine X3.round ?_
  revert h
  refine bI fun e11 h12=>?_
  try have qh12:=Xq h12
  refine brI (fun h13=>fun e=>X8 [.el (aI .i64 (X0u.length:Int)),Bt,.el (X1 x),.el (X1 e11),Bt] (k:=wkT [] (C1  (oj e).symm))) fun h13=>rnI [.el (aI .i64 (X0u.length:Int)),Bt,.el (X1 x),.el (X1 e11),Bf] ?_
  intro h
  exact wkT [] (ih (k+1) hx1  o h C0 C1)
instance Xvh:PCs Tryz.prog 38 (∀ (a0:(List X2)) (a1:(List X2)) (r:Bool),X7c a0 a1=some r->X0g Tryz.prog 38 [(Lf (a0.map X1)),(Lf (a1.map X1))] (aB r)):=⟨fun a0 a1 r h=>by
 refine X0g.sym X6 fn38 (nt:=26) rfl rfl ?_ okM
 unfold X7c at h
 revert h
 refine brI (fun h1=>fun e=>oj e▸X8 [.el (aI .i64 (a0.length:Int)),.el (aI .i64 (a1.length:Int)),Bt] (k:=fi)) fun h1=>bI fun u2 h3=>?_
 have qh3:=X12 h3
 refine bI fun o14 h15=>rnI [.el (aI .i64 (a0.length:Int)),.el (aI .i64 (a1.length:Int)),Bf] ?_
 intro h
 refine wkT [] (X3.cut (Xg5 a0 a1 qh3 a0 0 (by simp) _ h15 ?_ ?_))
 ·
  intro eo14;subst eo14
  refine X3.glue ?_
  try dsimp only at h
  revert h
  exact fun e=>oj e▸X8 [] (k:=fi)
 intro eo14;subst eo14
 refine X3.glue ?_
 try dsimp only at h
 revert h
 exact fun e=>oj e▸X8 [] (k:=fi)⟩
instance Xyo:PCs Tryz.prog 35 (∀ (a0:X03) (a1:X2) (r:X28×Bool×Int),Xdy a0 a1=some r->X0g Tryz.prog 35 [(Xu false a0),(X1 a1)] (AV.tup [(Xp r.1),(aB r.2.1),(aI .i64 r.2.2)])):=⟨fun a0 a1 r h=>by
 refine X0g.sym X6 fn35 (nt:=27) rfl rfl ?_ okM
 unfold Xdy at h
 revert h
 refine bI fun Xys h12=>rnI [.stop 1] ?_
 intro h
 refine X3.join (s':=⟨fr [(2,(AV.ptr 0 0 0)),(3,(AV.ptr 1 0 0)),(4,(AV.ptr 2 0 0)),(17,(aB Xys))],hp ([(0,Ob [(Xu false a0)] 10),(1,Ob [(X1 a1)] 11),(2,Ob [(Xp (X28.mk 0 (X00.mk 0 0) (V2.mk 0 0)))] 5)]),3⟩) ?_ (fun J=>X3.cut ?_)
 ·
  revert h
  exact brI (fun h13=>fun e=>oj e▸X8 [Bt] (k:=fi)) fun h13=>bI fun v14 h15=>fun e=>oj e▸X8 [Bf,.pure _ (AV.tup [(Xp v14.1),(aB v14.2)])] (k:=fi)
 clear h;revert h12
 refine bI fun v7 h8=>brI (fun h9=>?_) fun h9=>?_
 ·
  intro h
  obtain rfl:=oj h
  exact X8 [.pure _ (aB v7),.go false,.go false,.go false,.go false] (k:=wkT [] (X3.glue J))
 refine bI fun v10 h11=>?_
 intro h
 obtain rfl:=oj h
 exact X8 [.pure _ (aB v7),.go true,.go true,.go true,.pure _ (aI .i64 v10),.go true] (k:=wkT [] (X3.glue J))⟩
theorem Xey {Q:Xw->St->Mu->Prop} {μ:Mu} (Xj:X03) (Xh:X08) (X4z:(List X2)) (hl:X4z.length<=140737488355328):∀ (xs:List X2) (k:Nat) (hx:X4z.drop k=xs) (Xde:Int) (o:X60) (h:X2t Xj Xh X4z xs k Xde=some o)
  (C0:∀ (Xei:Int),o=X60.x0 Xei->X3 Tryz.prog 121 0 Q (.exit (.exit 0)) [] ⟨fr [(7,(AV.ptr 0 0 0)),(14,(aI .i64 Xei))],hp ([(0,Ob [(Xe false Xh)] 9)]),1⟩ μ)
  (C1:o=X60.x1->X3 Tryz.prog 121 0 Q (.exit .ret) [] ⟨fr [(10,(aB false))],hp ([]),0⟩ μ),
  X3 Tryz.prog 121 0 Q (.loop (X56 0 (Xb Tryz.f39))) [] ⟨fr [(5,(AV.ptr 0 0 0)),(7,(AV.ptr 1 0 0)),(11,(AV.list true (X4z.map X1))),(14,(aI .i64 Xde)),(15,(aI .i64 (k:Int)))],hp ([(0,Ob [(Xu false Xj)] 10),(1,Ob [(Xe false Xh)] 9)]),2⟩ μ:=by
 intro xs
 induction xs with
 |nil =>
  intro k hx Xde o h C0 C1
  have hk:=X1l hx
  have hc:decide ((k:Int)<(X4z.length:Int))=false:=Yf (by omega)
  rw[X2t] at h
  refine X3.round ?_
  revert h
  exact fun e=>X8 [.el (aI .i64 (X4z.length:Int)),Bf] (k:=wkT [(0,1)] (C0 _  (oj e).symm))
 |cons x xs ih =>
  intro k hx Xde o h C0 C1
  obtain⟨hk,hg,hx1⟩:=X10 hx
  have hc:decide ((k:Int)<(X4z.length:Int))=true:=Yt (by omega)
  rw[X2t] at h
  refine X3.round ?_
  revert h
  refine bI fun v60 h61=>bI fun Xsw h65=>rnI [.el (aI .i64 (X4z.length:Int)),Bt,.el (X1 x),.pure _ (AV.tup [(Xp v60.1),(aB v60.2.1),(aI .i64 v60.2.2)]),.stop 11] ?_
  intro h
  refine X3.join (s':=⟨fr [(5,(AV.ptr 0 0 0)),(7,(AV.ptr 1 0 0)),(11,(AV.list true (X4z.map X1))),(14,(aI .i64 Xde)),(15,(aI .i64 (k:Int))),(16,(AV.ptr 2 0 0)),(17,(aB v60.2.1)),(18,(aI .i64 v60.2.2)),(19,(aB Xsw))],hp ([(0,Ob [(Xu false Xj)] 10),(1,Ob [(Xe false Xh)] 9),(2,Ob [(Xp v60.1)] 5)]),3⟩) ?_ (fun J=>X3.cut ?_)
  ·
   revert h
   refine brI (fun h66=>fun e=>X8 [Bt] (k:=wkT [] (C1  (oj e).symm))) fun h66=>?_
   refine brI (fun h67=>?_) fun h67=>?_
   ·
    refine bI fun Xne h75=>rnI [Bf,Bt,.stop 15] ?_
    intro h
    refine X3.join (s':=⟨fr [(5,(AV.ptr 0 0 0)),(7,(AV.ptr 1 0 0)),(11,(AV.list true (X4z.map X1))),(14,(aI .i64 Xde)),(15,(aI .i64 (k:Int))),(113,(aB Xne))],hp ([(0,Ob [(Xu false Xj)] 10),(1,Ob [(Xe false Xh)] 9)]),2⟩) ?_ (fun J=>X3.cut ?_)
    ·
     revert h
     refine brI (fun h76=>fun e=>X8 [Bt] (k:=wkT [] (C1  (oj e).symm))) fun h76=>rnI [Bf,.wrap] ?_
     intro h
     exact wkT [] (ih (k+1) hx1 _ o h C0 C1)
    clear h;revert h75
    refine brI (fun h72=>?_) fun h72=>?_
    ·
     intro h
     obtain rfl:=oj h
     exact X8 [.el (aI .i64 (Xh.Pending.length:Int)),.go false,.go false,.go false,.go false,.go false,.go false,.go false,.go false,.go false,.go true] (k:=wkT [] (X3.glue J))
    refine bI fun e73 h74=>?_
    try have qh74:=Xq h74
    intro h
    obtain rfl:=oj h
    exact X8 [.el (aI .i64 (Xh.Pending.length:Int)),.go true,.go true,.go true,.go true,.el (Xz e73),.go true,.go true,.go true,.go true,.go true] (k:=wkT [] (X3.glue J))
   refine rnI [Bf,Bf] ?_
   intro h
   exact wkT [] (ih (k+1) hx1 _ o h C0 C1)
  clear h;revert h65
  refine brI (fun h64=>?_) fun h64=>?_
  ·
   intro h
   obtain rfl:=oj h
   exact X8 [.el (X1 x),.ix 0,.go true,.go true,.go true,.el (X1 x),.go true,.go true,.ix 1,.go true,.go true,.go true] (k:=wkT [(2,12)] (X3.glue J))
  intro h
  obtain rfl:=oj h
  exact X8 [.el (X1 x),.ix 0,.go false,.go false,.go false,.go false,.go false,.go false,.go false,.go false] (k:=wkT [(2,12)] (X3.glue J))
instance Xuw:PCs Tryz.prog 39 (∀ (a0:X03) (a1:X08) (a2:X08) (a3:Int) (a4:Int) (r:Bool),X69 a0 a1 a2 a3 a4=some r->X0g Tryz.prog 39 [(Xu false a0),(Xe false a1),(Xe false a2),(aI .i64 a3),(aI .i64 a4)] (aB r)):=⟨fun a0 a1 a2 a3 a4 r h=>by
 refine X0g.sym X6 fn39 (nt:=121) rfl rfl ?_ okM
 unfold X69 at h
 revert h
 refine brI (fun h1=>?_) fun h1=>?_
 ·
  refine bI fun Xyu h11=>rnI [Bt,.stop 2] ?_
  intro h
  refine X3.join (s':=⟨fr [(10,(aB Xyu))],hp ([]),0⟩) ?_ (fun J=>X3.cut ?_)
  ·
   revert h
   exact fun e=>oj e▸X8 [] (k:=fi)
  clear h;revert h11
  refine brI (fun h7=>?_) fun h7=>?_
  ·
   refine brI (fun h8=>?_) fun h8=>?_
   ·
    refine bI fun v9 h10=>?_
    intro h
    obtain rfl:=oj h
    exact X8 [.go true,.go true,.go true,.el (aI .i64 (a2.Pending.length:Int)),.go true,.go true,.go true,.go true,.go true,.go true,.pure _ (aB v9)] (o:=by repeat' first|apply Ya|exact pcM|exact((X9 h7 h8))|exact(Xr (X9 h7 h8))|exact(X8r (X9 h7 h8))|exact X07) (k:=wkT [] (X3.glue J))
   intro h
   obtain rfl:=oj h
   exact X8 [.go true,.go true,.go true,.el (aI .i64 (a2.Pending.length:Int)),.go true,.go false,.go false,.go false,.go false,.go false] (o:=by repeat' first|apply Ya|exact pcM|exact((X9 h7 h8))|exact(Xr (X9 h7 h8))|exact(Xi8 (X9 h7 h8))|exact X07) (k:=wkT [] (X3.glue J))
  intro h
  obtain rfl:=oj h
  exact X8 [.go false,.go false,.go false,.go false,.go false,.go false,.go false,.go false,.go false] (o:=by repeat' first|apply Ya|exact pcM|exact((Xm h7 rfl))|exact(Xr (Xm h7 rfl))|exact(Xi8 (Xm h7 rfl))|exact X07) (k:=wkT [] (X3.glue J))
 refine bI fun v12 h13=>bI fun Xt3 h21=>rnI [Bf,.pure _ (AV.tup [(AV.list true (v12.1.map X1)),(AV.list true (v12.2.1.map X1)),(aI .i64 v12.2.2)]),.stop 4] ?_
 intro h
 refine X3.join (s':=⟨fr [(5,(AV.ptr 0 0 0)),(7,(AV.ptr 1 0 0)),(11,(AV.list true (v12.1.map X1))),(55,(aB Xt3))],hp ([(0,Ob [(Xu false a0)] 10),(1,Ob [(Xe false a2)] 9)]),2⟩) ?_ (fun J=>X3.cut ?_)
 ·
  revert h
  refine brI (fun h22=>fun e=>oj e▸X8 [Bt] (k:=fi)) fun h22=>bI fun u23 h24=>?_
  have qh24:=X12 h24
  refine bI fun o77 h78=>rnI [Bf] ?_
  intro h
  refine wkT [] (X3.cut (Xey a0 a2 v12.1 qh24 v12.1 0 (by simp) _ _ h78 ?_ ?_))
  ·
   intro Xei eo77;subst eo77
   refine X3.glue ?_
   try dsimp only at h
   revert h
   exact fun e=>oj e▸X8 [.el (aI .i64 (a2.Pending.length:Int))] (k:=fi)
  intro eo77;subst eo77
  refine X3.glue ?_
  try dsimp only at h
  revert h
  exact fun e=>oj e▸X8 [] (k:=fi)
 clear h;revert h21
 refine brI (fun h18=>?_) fun h18=>?_
 ·
  intro h
  obtain rfl:=oj h
  exact X8 [.go false,.go false,.go false,.go false,.go false] (k:=wkT [(1,2)] (X3.glue J))
 refine bI fun v19 h20=>?_
 intro h
 obtain rfl:=oj h
 exact X8 [.go true,.go true,.go true,.go true,.pure _ (aB v19),.go true] (k:=wkT [(1,2)] (X3.glue J))⟩
theorem Xcs {Q:Xw->St->Mu->Prop} {μ:Mu} (X8s:(List Int)) (Xbm:(List Xg)) (Xj:X03) (Xwy:Bool) (hl:Xbm.length<=140737488355328):∀ (xs:List Xg) (k:Nat) (hx:Xbm.drop k=xs) (Xh:X08) (o:X4h) (h:X1p X8s Xbm Xj Xwy xs k Xh=some o)
  (C0:o=X4h.x0->X3 Tryz.prog 143 0 Q (.exit (.exit 0)) [] ⟨fr [(7,(aB Xwy))],hp ([]),0⟩ μ)
  (C1:o=X4h.x1->X3 Tryz.prog 143 0 Q (.exit .ret) [] ⟨fr [(6,(aB false))],hp ([]),0⟩ μ),
  X3 Tryz.prog 143 0 Q (.loop (X56 0 (Xb Tryz.f8))) [] ⟨fr [(1,(Lf (List.map (aI .i64) X8s))),(2,(Lf (Xbm.map Xn))),(3,(AV.ptr 0 0 0)),(7,(aB Xwy)),(8,(AV.ptr 1 0 0)),(10,(aI .i64 (k:Int)))],hp ([(0,Ob [(Xu false Xj)] 10),(1,Ob [(Xe true Xh)] 9)]),2⟩ μ:=by
 intro xs
 induction xs with
 |nil =>
  intro k hx Xh o h C0 C1
  have hk:=X1l hx
  have hc:decide ((k:Int)<(Xbm.length:Int))=false:=Yf (by omega)
  rw[X1p] at h
  refine X3.round ?_
  revert h
  exact fun e=>X8 [.el (aI .i64 (Xbm.length:Int)),Bf] (k:=wkT [] (C0  (oj e).symm))
 |cons x xs ih =>
  intro k hx Xh o h C0 C1
  obtain⟨hk,hg,hx1⟩:=X10 hx
  have hc:decide ((k:Int)<(Xbm.length:Int))=true:=Yt (by omega)
  rw[X1p] at h
  refine X3.round ?_
  revert h
  refine bI fun e84 h85=>?_
  try have qh85:=Xq h85
  refine bI fun v86 h87=>rnI [.el (aI .i64 (Xbm.length:Int)),Bt,.el (aI .i64 e84),.el (Xn x),.pure _ (AV.tup [(Xe true v86.1),(aI .i64 v86.2)])] ?_
  refine brI (fun h88=>?_) fun h88=>?_
  ·
   refine rnI [Bt] ?_
   intro h
   exact wkT [] (ih (k+1) hx1 _ o h C0 C1)
  refine bI fun v89 h90=>bI fun v91 h92=>brI (fun h93=>fun e=>X8 [Bf,.pure _ (AV.tup [(aI .i64 v89.1),(aI .i64 v89.2)]),.pure _ (AV.tup [(aI .i64 v91.1),(aI .i64 v91.2)]),Bt] (k:=wkT [] (C1  (oj e).symm))) fun h93=>?_
  refine brI (fun h94=>?_) fun h94=>?_
  ·
   refine bI fun v95 h96=>bI fun Xkf h106=>rnI [Bf,.pure _ (AV.tup [(aI .i64 v89.1),(aI .i64 v89.2)]),.pure _ (AV.tup [(aI .i64 v91.1),(aI .i64 v91.2)]),Bf,.el (Xn x),Bt,.el (Xn x),.el (aI .i64 e84),.pure _ (AV.tup [(AV.list true (v95.1.map X1)),(aI .i64 v95.2)]),.stop 18] ?_
   intro h
   refine X3.join (s':=⟨fr [(1,(Lf (List.map (aI .i64) X8s))),(2,(Lf (Xbm.map Xn))),(3,(AV.ptr 0 0 0)),(7,(aB Xwy)),(8,(AV.ptr 1 0 0)),(10,(aI .i64 (k:Int))),(11,(AV.ptr 2 0 0)),(132,(aB Xkf))],hp ([(0,Ob [(Xu false Xj)] 10),(1,Ob [(Xe true Xh)] 9),(2,Ob [(Xe true v86.1)] 9)]),3⟩) ?_ (fun J=>X3.cut ?_)
   ·
    revert h
    refine brI (fun h107=>fun e=>X8 [Bt] (k:=wkT [] (C1  (oj e).symm))) fun h107=>rnI [Bf] ?_
    intro h
    refine X3.denil 1 [AV.agg [(aI .u8 v86.1.Op.Kind),(aI .i64 v86.1.Op.N),(aI .i64 v86.1.Turn),(AV.list true (List.map Xz ([]:List X0v))),(AV.list true (List.map (aI .i64) v86.1.Marks)),(AV.list true (v86.1.Store.map X1)),(AV.list true (v86.1.Events.map X05)),(AV.list true (v86.1.Rows.map Xp)),(AV.list true (v86.1.Late.map Xy))]] rfl rfl ?_
    refine X3.denil 2 [AV.agg [(aI .u8 v86.1.Op.Kind),(aI .i64 v86.1.Op.N),(aI .i64 v86.1.Turn),(AV.list true (List.map Xz ([]:List X0v))),(AV.list true (List.map (aI .i64) v86.1.Marks)),(AV.list true (v86.1.Store.map X1)),(AV.list true (v86.1.Events.map X05)),(AV.list true (v86.1.Rows.map Xp)),(AV.list true (v86.1.Late.map Xy))]] rfl rfl ?_
    exact wkT [] (ih (k+1) hx1 _ o h C0 C1)
   clear h;revert h106
   refine brI (fun h102=>?_) fun h102=>?_
   ·
    intro h
    obtain rfl:=oj h
    exact X8 [.go false,.go false,.go false,.go false,.go false,.go false,.go false,.go false,.go false] (o:=by repeat' first|apply Ya|exact pcM|exact((X9 h102 rfl))|exact(Xr (X9 h102 rfl))|exact(X8r (X9 h102 rfl))|exact X07) (k:=wkT [(2,16)] (X3.glue J))
   refine bI fun v103 h104=>brI (fun h105=>?_) fun h105=>?_
   ·
    intro h
    obtain rfl:=oj h
    exact X8 [.go true,.go true,.go true,.go true,.pure _ (aB v103),.go true,.go false,.go false,.go false,.go false] (o:=by repeat' first|apply Ya|exact pcM|exact((Xm h102 h105))|exact(Xr (Xm h102 h105))|exact(X8r (Xm h102 h105))|exact X07) (k:=wkT [(2,16)] (X3.glue J))
   intro h
   obtain rfl:=oj h
   exact X8 [.go true,.go true,.go true,.go true,.pure _ (aB v103),.go true,.go true,.go true,.go true,.el (aI .i64 (v86.1.Pending.length:Int)),.go true] (o:=by repeat' first|apply Ya|exact pcM|exact((Xm h102 h105))|exact(Xr (Xm h102 h105))|exact(Xi8 (Xm h102 h105))|exact X07) (k:=wkT [(2,16)] (X3.glue J))
  refine bI fun v108 h109=>rnI [Bf,.pure _ (AV.tup [(aI .i64 v89.1),(aI .i64 v89.2)]),.pure _ (AV.tup [(aI .i64 v91.1),(aI .i64 v91.2)]),Bf,.el (Xn x),Bf,.pure _ (aB v108)] ?_
  refine brI (fun h110=>fun e=>X8 [Bt] (k:=wkT [] (C1  (oj e).symm))) fun h110=>rnI [Bf] ?_
  intro h
  refine X3.denil 1 [AV.agg [(aI .u8 v86.1.Op.Kind),(aI .i64 v86.1.Op.N),(aI .i64 v86.1.Turn),(AV.list true (List.map Xz ([]:List X0v))),(AV.list true (List.map (aI .i64) v86.1.Marks)),(AV.list true (v86.1.Store.map X1)),(AV.list true (v86.1.Events.map X05)),(AV.list true (v86.1.Rows.map Xp)),(AV.list true (v86.1.Late.map Xy))]] rfl rfl ?_
  refine X3.denil 16 [AV.agg [(aI .u8 v86.1.Op.Kind),(aI .i64 v86.1.Op.N),(aI .i64 v86.1.Turn),(AV.list true (List.map Xz ([]:List X0v))),(AV.list true (List.map (aI .i64) v86.1.Marks)),(AV.list true (v86.1.Store.map X1)),(AV.list true (v86.1.Events.map X05)),(AV.list true (v86.1.Rows.map Xp)),(AV.list true (v86.1.Late.map Xy))]] rfl rfl ?_
  exact wkT [] (ih (k+1) hx1 _ o h C0 C1)
instance Xez:PCs Tryz.prog 8 (∀ (a0:X03) (a1:(List Int)) (a2:(List Xg)) (r:Bool),X5t a0 a1 a2=some r->X0g Tryz.prog 8 [(Xu false a0),(Lf (List.map (aI .i64) a1)),(Lf (a2.map Xn))] (aB r)):=⟨fun a0 a1 a2 r h=>by
 refine X0g.sym X6 fn8 (nt:=143) rfl rfl ?_ okM
 unfold X5t at h
 revert h
 refine bI fun v1 h2=>bI fun Xt5 h22=>rnI [.pure _ (aB v1),.stop 2] ?_
 intro h
 refine X3.join (s':=⟨fr [(1,(Lf (List.map (aI .i64) a1))),(2,(Lf (a2.map Xn))),(3,(AV.ptr 0 0 0)),(7,(aB v1)),(47,(aB Xt5))],hp ([(0,Ob [(Xu false a0)] 10)]),1⟩) ?_ (fun J=>X3.cut ?_)
 ·
  revert h
  refine brI (fun h23=>fun e=>oj e▸X8 [Bt] (k:=fi)) fun h23=>bI fun v24 h25=>brI (fun h26=>fun e=>oj e▸X8 [Bf,.pure _ (AV.tup [(Xe true v24.1),(aI .i64 v24.2)]),Bt] (k:=fi)) fun h26=>bI fun u27 h28=>?_
  have qh28:=X12 h28
  refine bI fun o111 h112=>rnI [Bf,.pure _ (AV.tup [(Xe true v24.1),(aI .i64 v24.2)]),Bf] ?_
  intro h
  refine wkT [] (X3.cut (Xcs a1 a2 a0 v1 qh28 a2 0 (by simp) _ _ h112 ?_ ?_))
  ·
   intro eo111;subst eo111
   refine X3.glue ?_
   try dsimp only at h
   revert h
   exact fun e=>oj e▸X8 [] (k:=fi)
  intro eo111;subst eo111
  refine X3.glue ?_
  try dsimp only at h
  revert h
  exact fun e=>oj e▸X8 [] (k:=fi)
 clear h;revert h22
 refine bI fun v13 h14=>brI (fun h15=>?_) fun h15=>?_
 ·
  intro h
  obtain rfl:=oj h
  exact X8 [.pure _ (aB v13),.go false,.go false,.go false,.go false,.go false,.go false,.go false,.go false,.go false,.go false,.go false,.go false,.go false,.go false,.go false,.go false] (o:=by repeat' first|apply Ya|exact pcM|exact((X9 h15 rfl))|exact(Xr (X9 h15 rfl))|exact(X8r (X9 h15 rfl))|exact((X9 (X9 h15 rfl) rfl))|exact(Xr (X9 (X9 h15 rfl) rfl))|exact(X8r (X9 (X9 h15 rfl) rfl))|exact((X9 (X9 (X9 h15 rfl) rfl) rfl))|exact(Xr (X9 (X9 (X9 h15 rfl) rfl) rfl))|exact(X8r (X9 (X9 (X9 h15 rfl) rfl) rfl))|exact((X9 (X9 (X9 (X9 h15 rfl) rfl) rfl) rfl))|exact(Xr (X9 (X9 (X9 (X9 h15 rfl) rfl) rfl) rfl))|exact(X8r (X9 (X9 (X9 (X9 h15 rfl) rfl) rfl) rfl))|exact X07) (k:=wkT [] (X3.glue J))
 refine bI fun v16 h17=>brI (fun h18=>?_) fun h18=>?_
 ·
  intro h
  obtain rfl:=oj h
  exact X8 [.pure _ (aB v13),.go true,.go true,.pure _ (aB v16),.go true,.go false,.go false,.go false,.go false,.go false,.go false,.go false,.go false,.go false,.go false,.go false,.go false,.go false] (o:=by repeat' first|apply Ya|exact pcM|exact((Xm h15 h18))|exact(Xr (Xm h15 h18))|exact(X8r (Xm h15 h18))|exact((X9 (Xm h15 h18) rfl))|exact(Xr (X9 (Xm h15 h18) rfl))|exact(X8r (X9 (Xm h15 h18) rfl))|exact((X9 (X9 (Xm h15 h18) rfl) rfl))|exact(Xr (X9 (X9 (Xm h15 h18) rfl) rfl))|exact(X8r (X9 (X9 (Xm h15 h18) rfl) rfl))|exact((X9 (X9 (X9 (Xm h15 h18) rfl) rfl) rfl))|exact(Xr (X9 (X9 (X9 (Xm h15 h18) rfl) rfl) rfl))|exact(X8r (X9 (X9 (X9 (Xm h15 h18) rfl) rfl) rfl))|exact X07) (k:=wkT [] (X3.glue J))
 refine brI (fun h19=>?_) fun h19=>?_
 ·
  intro h
  obtain rfl:=oj h
  exact X8 [.pure _ (aB v13),.go true,.go true,.pure _ (aB v16),.go true,.go true,.go true,.go true,.go false,.go false,.go false,.go false,.go false,.go false,.go false,.go false,.go false,.go false] (o:=by repeat' first|apply Ya|exact pcM|exact((Xm h15 h18))|exact(Xr (Xm h15 h18))|exact(Xi8 (Xm h15 h18))|exact((Xm (Xm h15 h18) h19))|exact(Xr (Xm (Xm h15 h18) h19))|exact(X8r (Xm (Xm h15 h18) h19))|exact((X9 (Xm (Xm h15 h18) h19) rfl))|exact(Xr (X9 (Xm (Xm h15 h18) h19) rfl))|exact(X8r (X9 (Xm (Xm h15 h18) h19) rfl))|exact((X9 (X9 (Xm (Xm h15 h18) h19) rfl) rfl))|exact(Xr (X9 (X9 (Xm (Xm h15 h18) h19) rfl) rfl))|exact(X8r (X9 (X9 (Xm (Xm h15 h18) h19) rfl) rfl))|exact X07) (k:=wkT [] (X3.glue J))
 refine rnI [.pure _ (aB v13),.go true,.go true,.pure _ (aB v16),.go true,.go true,.go true,.go true,.go true,.go true,.el (aI .i64 (a2.length:Int)),.go true,.stop 999999] (o:=by repeat' first|apply Ya|exact pcM|exact((Xm h15 h18))|exact(Xr (Xm h15 h18))|exact(Xi8 (Xm h15 h18))|exact((Xm (Xm h15 h18) h19))|exact(Xr (Xm (Xm h15 h18) h19))|exact(Xi8 (Xm (Xm h15 h18) h19))|exact X07) ?_
 refine brI (fun h20=>?_) fun h20=>?_
 ·
  intro h
  obtain rfl:=oj h
  exact X8 [.go false,.go false,.go false,.go false,.go false,.go false,.go false] (o:=by repeat' first|apply Ya|exact pcM|exact((Xm (Xm (Xm h15 h18) h19) h20))|exact(Xr (Xm (Xm (Xm h15 h18) h19) h20))|exact(X8r (Xm (Xm (Xm h15 h18) h19) h20))|exact((X9 (Xm (Xm (Xm h15 h18) h19) h20) rfl))|exact(Xr (X9 (Xm (Xm (Xm h15 h18) h19) h20) rfl))|exact(X8r (X9 (Xm (Xm (Xm h15 h18) h19) h20) rfl))|exact X07) (k:=wkT [] (X3.glue J))
 refine brI (fun h21=>?_) fun h21=>?_
 ·
  intro h
  obtain rfl:=oj h
  exact X8 [.go true,.go true,.el (aI .i64 (a1.length:Int)),.go true,.go true,.el (aI .i64 (a2.length:Int)),.go true,.go false,.go false] (o:=by repeat' first|apply Ya|exact pcM|exact((Xm (Xm (Xm h15 h18) h19) h20))|exact(Xr (Xm (Xm (Xm h15 h18) h19) h20))|exact(Xi8 (Xm (Xm (Xm h15 h18) h19) h20))|exact((Xm (Xm (Xm (Xm h15 h18) h19) h20) h21))|exact(Xr (Xm (Xm (Xm (Xm h15 h18) h19) h20) h21))|exact(X8r (Xm (Xm (Xm (Xm h15 h18) h19) h20) h21))|exact X07) (k:=wkT [] (X3.glue J))
 intro h
 obtain rfl:=oj h
 exact X8 [.go true,.go true,.el (aI .i64 (a1.length:Int)),.go true,.go true,.el (aI .i64 (a2.length:Int)),.go true,.go true,.go true] (o:=by repeat' first|apply Ya|exact pcM|exact((Xm (Xm (Xm h15 h18) h19) h20))|exact(Xr (Xm (Xm (Xm h15 h18) h19) h20))|exact(Xi8 (Xm (Xm (Xm h15 h18) h19) h20))|exact((Xm (Xm (Xm (Xm h15 h18) h19) h20) h21))|exact(Xr (Xm (Xm (Xm (Xm h15 h18) h19) h20) h21))|exact(Xi8 (Xm (Xm (Xm (Xm h15 h18) h19) h20) h21))|exact X07) (k:=wkT [] (X3.glue J))⟩
end Go.Av.Tryz