/- Printed by decomp.py: that the program computes the functions. -/
import Derived.Test.YtfdfgobnpnoomaaGreatDCert11Z
set_option linter.all false

namespace Go.Av.Tryz
open Go.Proofs Go.D
set_option maxRecDepth 10000
set_option maxHeartbeats 40000000
instance Xyp:PCs Tryz.prog 57 (∀ (a0:X03) (r:Int×Int),X9p a0=some r->X11 Tryz.prog 57 [(Xl false a0)] (AV.tup [(aI .i64 r.1),(aI .i64 r.2)])):=⟨fun a0 r h=>by
 refine X11.sym Xh fn57 (nt:=46) rfl rfl ?_ okM
 unfold X9p at h
 revert h
 refine brI (fun h1=>?_) fun h1=>?_
 ·
  refine bI fun v2 h3=>brI (fun h4=>?_) fun h4=>?_
  ·
   refine bI fun e5 h6=>?_
   try have qh6:=Xn h6
   exact fun e=>oj e▸Xc [.el (aI .i64 (a0.Arg.length:Int)),Bt,.pure _ (AV.tup [(aI .i64 v2.1),(aI .i64 v2.2)]),Bt,.el (X1 e5)] (k:=fi)
  refine rnI [.el (aI .i64 (a0.Arg.length:Int)),Bt,.pure _ (AV.tup [(aI .i64 v2.1),(aI .i64 v2.2)]),Bf,.el (aI .i64 (a0.Where.length:Int))] ?_
  refine brI (fun h7=>?_) fun h7=>fun e=>oj e▸Xc [Bf] (k:=fi)
  refine bI fun v8 h9=>brI (fun h10=>?_) fun h10=>fun e=>oj e▸Xc [Bt,.pure _ (AV.tup [(aI .i64 v8.1),(aI .i64 v8.2)]),Bf] (k:=fi)
  refine bI fun e11 h12=>?_
  try have qh12:=Xn h12
  exact fun e=>oj e▸Xc [Bt,.pure _ (AV.tup [(aI .i64 v8.1),(aI .i64 v8.2)]),Bt,.el (X1 e11)] (k:=fi)
 refine brI (fun h13=>?_) fun h13=>fun e=>oj e▸Xc [.el (aI .i64 (a0.Arg.length:Int)),Bf,.el (aI .i64 (a0.Where.length:Int)),Bf] (k:=fi)
 refine bI fun v14 h15=>rnI [.el (aI .i64 (a0.Arg.length:Int)),Bf,.el (aI .i64 (a0.Where.length:Int)),Bt,.pure _ (AV.tup [(aI .i64 v14.1),(aI .i64 v14.2)])] ?_
 refine brI (fun h16=>?_) fun h16=>fun e=>oj e▸Xc [Bf] (k:=fi)
 refine bI fun e17 h18=>?_
 try have qh18:=Xn h18
 exact fun e=>oj e▸Xc [Bt,.el (X1 e17)] (k:=fi)⟩
instance Xyq:PCs Tryz.prog 28 (∀ (a0:X03) (r:Int×Int),X9q a0=some r->X11 Tryz.prog 28 [(Xl false a0)] (AV.tup [(aI .i64 r.1),(aI .i64 r.2)])):=⟨fun a0 r h=>by
 refine X11.sym Xh fn28 (nt:=13) rfl rfl ?_ okM
 unfold X9q at h
 revert h
 exact bI fun v1 h2=>brI (fun h3=>fun e=>oj e▸Xc [.pure _ (aI .i64 v1),Bt,.pure _ (aI .i64 v1)] (k:=fi)) fun h3=>bI fun v4 h5=>fun e=>oj e▸Xc [.pure _ (aI .i64 v1),Bf,.pure _ (AV.tup [(aI .i64 v4.1),(aI .i64 v4.2)])] (k:=fi)⟩
instance Xyo:PCs Tryz.prog 58 (∀ (a0:Int) (a1:Int) (r:Int),X86 a0 a1=some r->X11 Tryz.prog 58 [(aI .i64 a0),(aI .i64 a1)] (aI .i64 r)):=⟨fun a0 a1 r h=>by
 refine X11.sym Xh fn58 (nt:=17) rfl rfl ?_ okM
 unfold X86 at h
 revert h
 exact brI (fun h1=>fun e=>oj e▸Xc [Bt] (k:=fi)) fun h1=>brI (fun h2=>fun e=>oj e▸Xc [Bf,Bt] (k:=fi)) fun h2=>fun e=>oj e▸Xc [Bf,Bf] (k:=fi)⟩
instance Xym:PCs Tryz.prog 34 (∀ (a0:Xb) (r:Bool),X9n a0=some r->X11 Tryz.prog 34 [(X0 a0)] (aB r)):=⟨fun a0 r h=>by
 refine X11.sym Xh fn34 (nt:=30) rfl rfl ?_ okM
 unfold X9n at h
 revert h
 refine brI (fun h1=>?_) fun h1=>?_
 ·
  refine bI fun j6_2 h11=>rnI [Bt,.stop 2] ?_
  intro h
  refine X3.join (s':=⟨fr [(2,(aB j6_2))],hp ([]),0⟩) ?_ (fun J=>X3.cut ?_)
  ·
   revert h
   exact fun e=>oj e▸Xc [] (k:=fi)
  clear h;revert h11
  refine brI (fun h7=>?_) fun h7=>?_
  ·
   refine brI (fun h8=>?_) fun h8=>?_
   ·
    intro h
    obtain rfl:=oj h
    exact Xc [.go true,.go true,.go true,.go true,.go false,.go false,.go false,.go false,.go true] (k:=wkT [] (X3.glue J))
   refine bI fun v9 h10=>?_
   intro h
   obtain rfl:=oj h
   exact Xc [.go true,.go true,.go true,.go true,.go true,.go true,.go true,.pure _ (aI .i64 v9),.go true,.go true] (k:=wkT [] (X3.glue J))
  intro h
  obtain rfl:=oj h
  exact Xc [.go false,.go false,.go false,.go false,.go false,.go false,.go false,.go false,.go false] (k:=wkT [] (X3.glue J))
 refine bI fun X03t h19=>rnI [Bf,.stop 3] ?_
 intro h
 refine X3.join (s':=⟨fr [(2,(aB X03t))],hp ([]),0⟩) ?_ (fun J=>X3.cut ?_)
 ·
  revert h
  exact fun e=>oj e▸Xc [] (k:=fi)
 clear h;revert h19
 refine brI (fun h16=>?_) fun h16=>?_
 ·
  refine bI fun v17 h18=>?_
  intro h
  obtain rfl:=oj h
  exact Xc [.go true,.go true,.go true,.go true,.pure _ (aI .i64 v17),.go true] (k:=wkT [] (X3.glue J))
 intro h
 obtain rfl:=oj h
 exact Xc [.go false,.go false,.go false,.go false,.go false] (k:=wkT [] (X3.glue J))⟩
theorem Xfo {Q:X07->St->Mu->Prop} {μ:Mu} (X0y:(List Xb)) (hl:X0y.length<=140737488355328):∀ (xs:List Xb) (k:Nat) (hx:X0y.drop k=xs) (o:X6l) (h:X4d X0y xs k  = some o)
  (C0:o=X6l.x0->X3 Tryz.prog 19 0 Q (.exit (.exit 0)) [] ⟨fr [],hp ([]),0⟩ μ)
  (C1:o=X6l.x1->X3 Tryz.prog 19 0 Q (.exit .ret) [] ⟨fr [(2,(aI .i64 8))],hp ([]),0⟩ μ),
  X3 Tryz.prog 19 0 Q (.loop (X4t 0 (Xu Tryz.f72))) [] ⟨fr [(0,(Lf (X0y.map X0))),(3,(aI .i64 (k:Int)))],hp ([]),0⟩ μ:=by
 intro xs
 induction xs with
 |nil =>
  intro k hx  o h C0 C1
  have hk:=X1e hx
  have hc:decide ((k:Int)<(X0y.length:Int))=false:=Yf (by omega)
  rw[X4d] at h
  refine X3.round ?_
  revert h
  exact fun e=>Xc [.el (aI .i64 (X0y.length:Int)),Bf] (k:=wkT [] (C0  (oj e).symm))
 |cons x xs ih =>
  intro k hx  o h C0 C1
  obtain⟨hk,hg,hx1⟩:=X0t hx
  have hc:decide ((k:Int)<(X0y.length:Int))=true:=Yt (by omega)
  rw[X4d] at h
  refine X3.round ?_
  revert h
  refine bI fun v11 h12=>brI (fun h13=>fun e=>Xc [.el (aI .i64 (X0y.length:Int)),Bt,.el (X0 x),.pure _ (aB v11),Bt] (k:=wkT [] (C1  (oj e).symm))) fun h13=>rnI [.el (aI .i64 (X0y.length:Int)),Bt,.el (X0 x),.pure _ (aB v11),Bf] ?_
  intro h
  exact wkT [] (ih (k+1) hx1  o h C0 C1)
instance Xyn:PCs Tryz.prog 72 (∀ (a0:(List Xb)) (r:Int),X9o a0=some r->X11 Tryz.prog 72 [(Lf (a0.map X0))] (aI .i64 r)):=⟨fun a0 r h=>by
 refine X11.sym Xh fn72 (nt:=19) rfl rfl ?_ okM
 unfold X9o at h
 revert h
 refine brI (fun h1=>fun e=>oj e▸Xc [.el (aI .i64 (a0.length:Int)),Bt] (k:=fi)) fun h1=>bI fun u2 h3=>?_
 have qh3:=X0u h3
 refine bI fun o14 h15=>rnI [.el (aI .i64 (a0.length:Int)),Bf] ?_
 intro h
 refine wkT [] (X3.cut (Xfo a0 qh3 a0 0 (by simp) _ h15 ?_ ?_))
 ·
  intro eo14;subst eo14
  refine X3.glue ?_
  try dsimp only at h
  revert h
  exact fun e=>oj e▸Xc [] (k:=fi)
 intro eo14;subst eo14
 refine X3.glue ?_
 try dsimp only at h
 revert h
 exact fun e=>oj e▸Xc [] (k:=fi)⟩
theorem Xfm {Q:X07->St->Mu->Prop} {μ:Mu} (X0y:(List (List Xb))) (hl:X0y.length<=140737488355328):∀ (xs:List (List Xb)) (k:Nat) (hx:X0y.drop k=xs) (o:X6j) (h:X4b X0y xs k  = some o)
  (C0:o=X6j.x0->X3 Tryz.prog 19 0 Q (.exit (.exit 0)) [] ⟨fr [],hp ([]),0⟩ μ)
  (C1:∀ (X4k:Int),o=X6j.x1 X4k->X3 Tryz.prog 19 0 Q (.exit .ret) [] ⟨fr [(2,(aI .i64 X4k))],hp ([]),0⟩ μ),
  X3 Tryz.prog 19 0 Q (.loop (X4t 0 (Xu Tryz.f46))) [] ⟨fr [(0,(Lf (List.map (X0e false X0) X0y))),(3,(aI .i64 (k:Int)))],hp ([]),0⟩ μ:=by
 intro xs
 induction xs with
 |nil =>
  intro k hx  o h C0 C1
  have hk:=X1e hx
  have hc:decide ((k:Int)<(X0y.length:Int))=false:=Yf (by omega)
  rw[X4b] at h
  refine X3.round ?_
  revert h
  exact fun e=>Xc [.el (aI .i64 (X0y.length:Int)),Bf] (k:=wkT [] (C0  (oj e).symm))
 |cons x xs ih =>
  intro k hx  o h C0 C1
  obtain⟨hk,hg,hx1⟩:=X0t hx
  have hc:decide ((k:Int)<(X0y.length:Int))=true:=Yt (by omega)
  rw[X4b] at h
  refine X3.round ?_
  revert h
  refine bI fun v10 h11=>brI (fun h12=>fun e=>Xc [.el (aI .i64 (X0y.length:Int)),Bt,.el (X0e false X0 x),.pure _ (aI .i64 v10),Bt] (k:=wkT [] (C1 _  (oj e).symm))) fun h12=>rnI [.el (aI .i64 (X0y.length:Int)),Bt,.el (X0e false X0 x),.pure _ (aI .i64 v10),Bf] ?_
  intro h
  exact wkT [] (ih (k+1) hx1  o h C0 C1)
instance Xyj:PCs Tryz.prog 46 (∀ (a0:(List (List Xb))) (r:Int),X9l a0=some r->X11 Tryz.prog 46 [(Lf (List.map (X0e false X0) a0))] (aI .i64 r)):=⟨fun a0 r h=>by
 refine X11.sym Xh fn46 (nt:=19) rfl rfl ?_ okM
 unfold X9l at h
 revert h
 refine bI fun u1 h2=>?_
 have qh2:=X0u h2
 refine bI fun o13 h14=>rnI [] ?_
 intro h
 refine wkT [] (X3.cut (Xfm a0 qh2 a0 0 (by simp) _ h14 ?_ ?_))
 ·
  intro eo13;subst eo13
  refine X3.glue ?_
  try dsimp only at h
  revert h
  exact fun e=>oj e▸Xc [] (k:=fi)
 intro X4k eo13;subst eo13
 refine X3.glue ?_
 try dsimp only at h
 revert h
 exact fun e=>oj e▸Xc [] (k:=fi)⟩
instance Xyl:PCs Tryz.prog 53 (∀ (a0:X03) (a1:(List (List Xb))) (r:Int),Xbn a0 a1=some r->X11 Tryz.prog 53 [(Xl false a0),(Lf (List.map (X0e false X0) a1))] (aI .i64 r)):=⟨fun a0 a1 r h=>by
 refine X11.sym Xh fn53 (nt:=23) rfl rfl ?_ okM
 unfold Xbn at h
 revert h
 exact bI fun v1 h2=>brI (fun h3=>fun e=>oj e▸Xc [.pure _ (AV.tup [(aI .i64 v1.1),(aI .i64 v1.2)]),Bt] (k:=fi)) fun h3=>brI (fun h4=>fun e=>oj e▸Xc [.pure _ (AV.tup [(aI .i64 v1.1),(aI .i64 v1.2)]),Bf,.el (aI .i64 (a1.length:Int)),.el (aI .i64 (a0.Sources.length:Int)),Bt] (k:=fi)) fun h4=>bI fun v5 h6=>fun e=>oj e▸Xc [.pure _ (AV.tup [(aI .i64 v1.1),(aI .i64 v1.2)]),Bf,.el (aI .i64 (a1.length:Int)),.el (aI .i64 (a0.Sources.length:Int)),Bf,.pure _ (aI .i64 v5)] (k:=fi)⟩
instance X01n:PCs Tryz.prog 31 (∀ (a0:X03) (a1:(List (List Xb))) (r:Bool),Xba a0 a1=some r->X11 Tryz.prog 31 [(Xl false a0),(Lf (List.map (X0e false X0) a1))] (aB r)):=⟨fun a0 a1 r h=>by
 refine X11.sym Xh fn31 (nt:=19) rfl rfl ?_ okM
 unfold Xba at h
 revert h
 refine bI fun j9_4 h18=>rnI [.stop 1] ?_
 intro h
 refine X3.join (s':=⟨fr [(4,(aB j9_4))],hp ([]),0⟩) ?_ (fun J=>X3.cut ?_)
 ·
  revert h
  exact fun e=>oj e▸Xc [] (k:=fi)
 clear h;revert h18
 refine bI fun v10 h11=>brI (fun h12=>?_) fun h12=>?_
 ·
  refine bI fun v13 h14=>brI (fun h15=>?_) fun h15=>?_
  ·
   refine bI fun v16 h17=>?_
   intro h
   obtain rfl:=oj h
   exact Xc [.pure _ (aB v10),.go true,.go true,.pure _ (aB v13),.go true,.go true,.go true,.go true,.pure _ (aI .i64 v16),.go true] (o:=by repeat' first|apply Ya|exact pcM|exact((X5 h12 h15))|exact(Xk (X5 h12 h15))|exact(X7r (X5 h12 h15))|exact Xw) (k:=wkT [] (X3.glue J))
  intro h
  obtain rfl:=oj h
  exact Xc [.pure _ (aB v10),.go true,.go true,.pure _ (aB v13),.go true,.go false,.go false,.go false,.go false] (o:=by repeat' first|apply Ya|exact pcM|exact((X5 h12 h15))|exact(Xk (X5 h12 h15))|exact(X3f (X5 h12 h15))|exact Xw) (k:=wkT [] (X3.glue J))
 intro h
 obtain rfl:=oj h
 exact Xc [.pure _ (aB v10),.go false,.go false,.go false,.go false,.go false,.go false,.go false] (o:=by repeat' first|apply Ya|exact pcM|exact((Xf h12 rfl))|exact(Xk (Xf h12 rfl))|exact(X3f (Xf h12 rfl))|exact Xw) (k:=wkT [] (X3.glue J))⟩
theorem Xbx {Q:X07->St->Mu->Prop} {μ:Mu} (Xel:(List (List Xb))) (Xo7:Int) (Xs:X03) (Xzf:Bool) (Xe7:(List X2u)) (hl:Xe7.length<=140737488355328):∀ (xs:List X2u) (k:Nat) (hx:Xe7.drop k=xs) (Xo:(List X2u)) (X00:Nb Xo) (o:X3r) (h:X1m Xel Xo7 Xs Xzf Xe7 xs k Xo=some o)
  (C0:∀ (X0n:(List X2u)) (X0o:Nb X0n),o=X3r.x0 X0n->X3 Tryz.prog 141 0 Q (.exit (.exit 0)) [] ⟨fr [(1,(Lf (List.map (X0e false X0) Xel))),(2,(aI .i64 Xo7)),(3,(AV.ptr 0 0 0)),(7,(aB Xzf)),(11,(slE X0o.1 1 (X0n.map Xg)))],hp ([(0,Ob [(Xl false Xs)] 10)]++opE X0o.1 1 5 (X0n.map Xg)),2⟩ μ)
  (C1:o=X3r.x1->X3 Tryz.prog 141 0 Q (.exit .ret) [] ⟨fr [(6,(aB false))],hp ([]),0⟩ μ),
  X3 Tryz.prog 141 0 Q (.loop (X4t 0 (Xu Tryz.f10))) [] ⟨fr [(1,(Lf (List.map (X0e false X0) Xel))),(2,(aI .i64 Xo7)),(3,(AV.ptr 0 0 0)),(7,(aB Xzf)),(8,(AV.list true (Xe7.map Xg))),(11,(slE X00.1 1 (Xo.map Xg))),(12,(aI .i64 (k:Int)))],hp ([(0,Ob [(Xl false Xs)] 10)]++opE X00.1 1 5 (Xo.map Xg)),2⟩ μ:=by
 intro xs
 induction xs with
 |nil =>
  intro k hx Xo X00 o h C0 C1
  have hk:=X1e hx
  have hc:decide ((k:Int)<(Xe7.length:Int))=false:=Yf (by omega)
  rw[X1m] at h
  rcases X00 with ⟨_|_,X0f⟩
  ·
   refine X3.round ?_
   revert h
   exact fun e=>Xc [.el (aI .i64 (Xe7.length:Int)),Bf] (k:=wkT [] (C0 _  nbF (oj e).symm))
  ·
   obtain rfl:=X0f rfl
   refine X3.round ?_
   revert h
   exact fun e=>Xc [.el (aI .i64 (Xe7.length:Int)),Bf] (k:=wkT [] (C0 _  nbS (oj e).symm))
 |cons x xs ih =>
  intro k hx Xo X00 o h C0 C1
  obtain⟨hk,hg,hx1⟩:=X0t hx
  have hc:decide ((k:Int)<(Xe7.length:Int))=true:=Yt (by omega)
  rw[X1m] at h
  rcases X00 with ⟨_|_,X0f⟩
  ·
   refine X3.round ?_
   revert h
   refine bI fun Xwi h67=>rnI [.el (aI .i64 (Xe7.length:Int)),Bt,.stop 11] ?_
   intro h
   refine X3.join (s':=⟨fr [(1,(Lf (List.map (X0e false X0) Xel))),(2,(aI .i64 Xo7)),(3,(AV.ptr 0 0 0)),(7,(aB Xzf)),(8,(AV.list true (Xe7.map Xg))),(11,(AV.ref 1 0 (Xo.length))),(12,(aI .i64 (k:Int))),(55,(aB Xwi))],hp ([(0,Ob [(Xl false Xs)] 10),(1,Ob (Xo.map Xg) 5)]),2⟩) ?_ (fun J=>X3.cut ?_)
   ·
    revert h
    refine brI (fun h68=>fun e=>Xc [Bt] (k:=wkT [] (C1  (oj e).symm))) fun h68=>bI fun Xne h76=>rnI [Bf,.el (Xg x)] ?_
    intro h
    refine X3.joinF (fun(q:Nb Xne)=>⟨fr [(1,(Lf (List.map (X0e false X0) Xel))),(2,(aI .i64 Xo7)),(3,(AV.ptr 0 0 0)),(7,(aB Xzf)),(8,(AV.list true (Xe7.map Xg))),(11,(slE q.1 1 (Xne.map Xg))),(12,(aI .i64 (k:Int)))],hp ([(0,Ob [(Xl false Xs)] 10)]++opE q.1 1 5 (Xne.map Xg)),2⟩) ?_ (fun J=>X3.cut ?_)
    ·
     rintro Xvy
     rcases Xvy with ⟨_|_,Xx6⟩
     ·
      exact Xc [] (k:=wkT [] (ih (k+1) hx1 _ nbF o h C0 C1))
     obtain rfl:=Xx6 rfl
     exact Xc [] (k:=wkT [] (ih (k+1) hx1 _ nbS o h C0 C1))
    clear h;revert h76
    refine brI (fun h73=>?_) fun h73=>?_
    ·
     refine bI fun u74 h75=>?_
     intro h
     obtain rfl:=oj h
     exact Xc [Bt,.el (Xg x),.no] (o:=by repeat' first|apply Ya|exact pcM|(refine X8 h75 rfl ?_;first|(simp;done)|(simp;omega)|(simp[hc,h68,h73];done)|(simp[hc,h68,h73];omega))|(refine X2 h75 (by decide) ?_;first|(simp;done)|(simp;omega)|(simp[hc,h68,h73];done)|(simp[hc,h68,h73];omega))|exact Xw) (k:=wkT [(1,3)] (X3.glue (J nbF)))
    intro h
    obtain rfl:=oj h
    exact Xc [Bf] (k:=wkT [] (X3.glue (J nbF)))
   clear h;revert h67
   refine brI (fun h66=>?_) fun h66=>?_
   ·
    intro h
    obtain rfl:=oj h
    exact Xc [.go true,.go true,.go true,.el (Xg x),.go true,.go true,.go true] (k:=wkT [] (X3.glue J))
   intro h
   obtain rfl:=oj h
   exact Xc [.go false,.go false,.go false,.go false,.go false,.go false] (k:=wkT [] (X3.glue J))
  obtain rfl:=X0f rfl
  refine X3.round ?_
  revert h
  refine bI fun X05n h80=>rnI [.el (aI .i64 (Xe7.length:Int)),Bt,.stop 11] ?_
  intro h
  refine X3.join (s':=⟨fr [(1,(Lf (List.map (X0e false X0) Xel))),(2,(aI .i64 Xo7)),(3,(AV.ptr 0 0 0)),(7,(aB Xzf)),(8,(AV.list true (Xe7.map Xg))),(11,AV.nils),(12,(aI .i64 (k:Int))),(55,(aB X05n))],hp ([(0,Ob [(Xl false Xs)] 10)]),2⟩) ?_ (fun J=>X3.cut ?_)
  ·
   revert h
   refine brI (fun h81=>fun e=>Xc [Bt] (k:=wkT [] (C1  (oj e).symm))) fun h81=>bI fun Xwg h89=>rnI [Bf,.el (Xg x)] ?_
   intro h
   refine X3.joinF (fun(q:Nb Xwg)=>⟨fr [(1,(Lf (List.map (X0e false X0) Xel))),(2,(aI .i64 Xo7)),(3,(AV.ptr 0 0 0)),(7,(aB Xzf)),(8,(AV.list true (Xe7.map Xg))),(11,(slE q.1 1 (Xwg.map Xg))),(12,(aI .i64 (k:Int)))],hp ([(0,Ob [(Xl false Xs)] 10)]++opE q.1 1 5 (Xwg.map Xg)),2⟩) ?_ (fun J=>X3.cut ?_)
   ·
    rintro Xvx
    rcases Xvx with ⟨_|_,Xx5⟩
    ·
     exact Xc [] (k:=wkT [] (ih (k+1) hx1 _ nbF o h C0 C1))
    obtain rfl:=Xx5 rfl
    exact Xc [] (k:=wkT [] (ih (k+1) hx1 _ nbS o h C0 C1))
   clear h;revert h89
   refine brI (fun h86=>?_) fun h86=>?_
   ·
    refine bI fun u87 h88=>?_
    intro h
    obtain rfl:=oj h
    exact Xc [Bt,.el (Xg x),.no] (o:=by repeat' first|apply Ya|exact pcM|(refine X8 h88 rfl ?_;first|(simp;done)|(simp;omega)|(simp[hc,h81,h86];done)|(simp[hc,h81,h86];omega))|(refine X2 h88 (by decide) ?_;first|(simp;done)|(simp;omega)|(simp[hc,h81,h86];done)|(simp[hc,h81,h86];omega))|exact Xw) (k:=wkT [(1,3)] (X3.glue (J nbF)))
   intro h
   obtain rfl:=oj h
   exact Xc [Bf] (k:=wkT [] (X3.glue (J nbS)))
  clear h;revert h80
  refine brI (fun h79=>?_) fun h79=>?_
  ·
   intro h
   obtain rfl:=oj h
   exact Xc [.go true,.go true,.go true,.el (Xg x),.go true,.go true,.go true] (k:=wkT [] (X3.glue J))
  intro h
  obtain rfl:=oj h
  exact Xc [.go false,.go false,.go false,.go false,.go false,.go false] (k:=wkT [] (X3.glue J))
end Go.Av.Tryz