/- Printed by decomp.py: that the program computes the functions. -/
import Derived.Test.YtfdfgobnpnoomaaGreatDCert11Z
set_option linter.all false

namespace Go.Av.Tryz
open Go.Proofs Go.D
set_option maxRecDepth 10000
set_option maxHeartbeats 40000000
instance Xw1:PCs Tryz.prog 57 (∀ (a0:Xu) (r:Int×Int),X8m a0=some r->X0o Tryz.prog 57 [(Xq false a0)] (AV.tup [(aI .i64 r.1),(aI .i64 r.2)])):=⟨fun a0 r h=>by
 refine X0o.sym X9 fn57 (nt:=46) rfl rfl ?_ okM
 unfold X8m at h
 revert h
 refine brI (fun h1=>?_) fun h1=>?_
 ·
  refine bI fun v2 h3=>brI (fun h4=>?_) fun h4=>?_
  ·
   refine bI fun e5 h6=>?_
   try have qh6:=Xp h6
   exact fun e=>oj e▸X8 [.el (aI .i64 (a0.Arg.length:Int)),Bt,.pure _ (AV.tup [(aI .i64 v2.1),(aI .i64 v2.2)]),Bt,.el (X1 e5)] (k:=fi)
  refine rnI [.el (aI .i64 (a0.Arg.length:Int)),Bt,.pure _ (AV.tup [(aI .i64 v2.1),(aI .i64 v2.2)]),Bf,.el (aI .i64 (a0.Where.length:Int))] ?_
  refine brI (fun h7=>?_) fun h7=>fun e=>oj e▸X8 [Bf] (k:=fi)
  refine bI fun v8 h9=>brI (fun h10=>?_) fun h10=>fun e=>oj e▸X8 [Bt,.pure _ (AV.tup [(aI .i64 v8.1),(aI .i64 v8.2)]),Bf] (k:=fi)
  refine bI fun e11 h12=>?_
  try have qh12:=Xp h12
  exact fun e=>oj e▸X8 [Bt,.pure _ (AV.tup [(aI .i64 v8.1),(aI .i64 v8.2)]),Bt,.el (X1 e11)] (k:=fi)
 refine brI (fun h13=>?_) fun h13=>fun e=>oj e▸X8 [.el (aI .i64 (a0.Arg.length:Int)),Bf,.el (aI .i64 (a0.Where.length:Int)),Bf] (k:=fi)
 refine bI fun v14 h15=>rnI [.el (aI .i64 (a0.Arg.length:Int)),Bf,.el (aI .i64 (a0.Where.length:Int)),Bt,.pure _ (AV.tup [(aI .i64 v14.1),(aI .i64 v14.2)])] ?_
 refine brI (fun h16=>?_) fun h16=>fun e=>oj e▸X8 [Bf] (k:=fi)
 refine bI fun e17 h18=>?_
 try have qh18:=Xp h18
 exact fun e=>oj e▸X8 [Bt,.el (X1 e17)] (k:=fi)⟩
instance Xw2:PCs Tryz.prog 28 (∀ (a0:Xu) (r:Int×Int),X8n a0=some r->X0o Tryz.prog 28 [(Xq false a0)] (AV.tup [(aI .i64 r.1),(aI .i64 r.2)])):=⟨fun a0 r h=>by
 refine X0o.sym X9 fn28 (nt:=13) rfl rfl ?_ okM
 unfold X8n at h
 revert h
 exact bI fun v1 h2=>brI (fun h3=>fun e=>oj e▸X8 [.pure _ (aI .i64 v1),Bt,.pure _ (aI .i64 v1)] (k:=fi)) fun h3=>bI fun v4 h5=>fun e=>oj e▸X8 [.pure _ (aI .i64 v1),Bf,.pure _ (AV.tup [(aI .i64 v4.1),(aI .i64 v4.2)])] (k:=fi)⟩
instance Xw0:PCs Tryz.prog 58 (∀ (a0:Int) (a1:Int) (r:Int),X73 a0 a1=some r->X0o Tryz.prog 58 [(aI .i64 a0),(aI .i64 a1)] (aI .i64 r)):=⟨fun a0 a1 r h=>by
 refine X0o.sym X9 fn58 (nt:=17) rfl rfl ?_ okM
 unfold X73 at h
 revert h
 exact brI (fun h1=>fun e=>oj e▸X8 [Bt] (k:=fi)) fun h1=>brI (fun h2=>fun e=>oj e▸X8 [Bf,Bt] (k:=fi)) fun h2=>fun e=>oj e▸X8 [Bf,Bf] (k:=fi)⟩
instance Xvy:PCs Tryz.prog 34 (∀ (a0:Xg) (r:Bool),X8k a0=some r->X0o Tryz.prog 34 [(Xa a0)] (aB r)):=⟨fun a0 r h=>by
 refine X0o.sym X9 fn34 (nt:=30) rfl rfl ?_ okM
 unfold X8k at h
 revert h
 refine brI (fun h1=>?_) fun h1=>?_
 ·
  refine bI fun j6_2 h11=>rnI [Bt,.stop 2] ?_
  intro h
  refine X2.join (s':=⟨fr [(2,(aB j6_2))],hp ([]),0⟩) ?_ (fun J=>X2.cut ?_)
  ·
   revert h
   exact fun e=>oj e▸X8 [] (k:=fi)
  clear h;revert h11
  refine brI (fun h7=>?_) fun h7=>?_
  ·
   refine brI (fun h8=>?_) fun h8=>?_
   ·
    intro h
    obtain rfl:=oj h
    exact X8 [.go true,.go true,.go true,.go true,.go false,.go false,.go false,.go false,.go true] (k:=wkT [] (X2.glue J))
   refine bI fun v9 h10=>?_
   intro h
   obtain rfl:=oj h
   exact X8 [.go true,.go true,.go true,.go true,.go true,.go true,.go true,.pure _ (aI .i64 v9),.go true,.go true] (k:=wkT [] (X2.glue J))
  intro h
  obtain rfl:=oj h
  exact X8 [.go false,.go false,.go false,.go false,.go false,.go false,.go false,.go false,.go false] (k:=wkT [] (X2.glue J))
 refine bI fun X019 h19=>rnI [Bf,.stop 3] ?_
 intro h
 refine X2.join (s':=⟨fr [(2,(aB X019))],hp ([]),0⟩) ?_ (fun J=>X2.cut ?_)
 ·
  revert h
  exact fun e=>oj e▸X8 [] (k:=fi)
 clear h;revert h19
 refine brI (fun h16=>?_) fun h16=>?_
 ·
  refine bI fun v17 h18=>?_
  intro h
  obtain rfl:=oj h
  exact X8 [.go true,.go true,.go true,.go true,.pure _ (aI .i64 v17),.go true] (k:=wkT [] (X2.glue J))
 intro h
 obtain rfl:=oj h
 exact X8 [.go false,.go false,.go false,.go false,.go false] (k:=wkT [] (X2.glue J))⟩
theorem Xe3 {Q:Xy->St->Mu->Prop} {μ:Mu} (X0i:(List Xg)) (hl:X0i.length<=140737488355328):∀ (xs:List Xg) (k:Nat) (hx:X0i.drop k=xs) (o:X5j) (h:X3l X0i xs k  = some o)
  (C0:o=X5j.x0->X2 Tryz.prog 19 0 Q (.exit (.exit 0)) [] ⟨fr [],hp ([]),0⟩ μ)
  (C1:o=X5j.x1->X2 Tryz.prog 19 0 Q (.exit .ret) [] ⟨fr [(2,(aI .i64 8))],hp ([]),0⟩ μ),
  X2 Tryz.prog 19 0 Q (.loop (X4k 0 (Xl Tryz.f72))) [] ⟨fr [(0,(Lf (X0i.map Xa))),(3,(aI .i64 (k:Int)))],hp ([]),0⟩ μ:=by
 intro xs
 induction xs with
 |nil =>
  intro k hx  o h C0 C1
  have hk:=X18 hx
  have hc:decide ((k:Int)<(X0i.length:Int))=false:=Yf (by omega)
  rw[X3l] at h
  refine X2.round ?_
  revert h
  exact fun e=>X8 [.el (aI .i64 (X0i.length:Int)),Bf] (k:=wkT [] (C0  (oj e).symm))
 |cons x xs ih =>
  intro k hx  o h C0 C1
  obtain⟨hk,hg,hx1⟩:=X0r hx
  have hc:decide ((k:Int)<(X0i.length:Int))=true:=Yt (by omega)
  rw[X3l] at h
  refine X2.round ?_
  revert h
  refine bI fun v11 h12=>brI (fun h13=>fun e=>X8 [.el (aI .i64 (X0i.length:Int)),Bt,.el (Xa x),.pure _ (aB v11),Bt] (k:=wkT [] (C1  (oj e).symm))) fun h13=>rnI [.el (aI .i64 (X0i.length:Int)),Bt,.el (Xa x),.pure _ (aB v11),Bf] ?_
  intro h
  exact wkT [] (ih (k+1) hx1  o h C0 C1)
instance Xvz:PCs Tryz.prog 72 (∀ (a0:(List Xg)) (r:Int),X8l a0=some r->X0o Tryz.prog 72 [(Lf (a0.map Xa))] (aI .i64 r)):=⟨fun a0 r h=>by
 refine X0o.sym X9 fn72 (nt:=19) rfl rfl ?_ okM
 unfold X8l at h
 revert h
 refine brI (fun h1=>fun e=>oj e▸X8 [.el (aI .i64 (a0.length:Int)),Bt] (k:=fi)) fun h1=>bI fun u2 h3=>?_
 have qh3:=X09 h3
 refine bI fun o14 h15=>rnI [.el (aI .i64 (a0.length:Int)),Bf] ?_
 intro h
 refine wkT [] (X2.cut (Xe3 a0 qh3 a0 0 (by simp) _ h15 ?_ ?_))
 ·
  intro eo14;subst eo14
  refine X2.glue ?_
  try dsimp only at h
  revert h
  exact fun e=>oj e▸X8 [] (k:=fi)
 intro eo14;subst eo14
 refine X2.glue ?_
 try dsimp only at h
 revert h
 exact fun e=>oj e▸X8 [] (k:=fi)⟩
theorem Xe1 {Q:Xy->St->Mu->Prop} {μ:Mu} (X0i:(List (List Xg))) (hl:X0i.length<=140737488355328):∀ (xs:List (List Xg)) (k:Nat) (hx:X0i.drop k=xs) (o:X5h) (h:X3j X0i xs k  = some o)
  (C0:o=X5h.x0->X2 Tryz.prog 19 0 Q (.exit (.exit 0)) [] ⟨fr [],hp ([]),0⟩ μ)
  (C1:∀ (X3q:Int),o=X5h.x1 X3q->X2 Tryz.prog 19 0 Q (.exit .ret) [] ⟨fr [(2,(aI .i64 X3q))],hp ([]),0⟩ μ),
  X2 Tryz.prog 19 0 Q (.loop (X4k 0 (Xl Tryz.f46))) [] ⟨fr [(0,(Lf (List.map (X7p false Xa) X0i))),(3,(aI .i64 (k:Int)))],hp ([]),0⟩ μ:=by
 intro xs
 induction xs with
 |nil =>
  intro k hx  o h C0 C1
  have hk:=X18 hx
  have hc:decide ((k:Int)<(X0i.length:Int))=false:=Yf (by omega)
  rw[X3j] at h
  refine X2.round ?_
  revert h
  exact fun e=>X8 [.el (aI .i64 (X0i.length:Int)),Bf] (k:=wkT [] (C0  (oj e).symm))
 |cons x xs ih =>
  intro k hx  o h C0 C1
  obtain⟨hk,hg,hx1⟩:=X0r hx
  have hc:decide ((k:Int)<(X0i.length:Int))=true:=Yt (by omega)
  rw[X3j] at h
  refine X2.round ?_
  revert h
  refine bI fun v10 h11=>brI (fun h12=>fun e=>X8 [.el (aI .i64 (X0i.length:Int)),Bt,.el (X7p false Xa x),.pure _ (aI .i64 v10),Bt] (k:=wkT [] (C1 _  (oj e).symm))) fun h12=>rnI [.el (aI .i64 (X0i.length:Int)),Bt,.el (X7p false Xa x),.pure _ (aI .i64 v10),Bf] ?_
  intro h
  exact wkT [] (ih (k+1) hx1  o h C0 C1)
instance Xvv:PCs Tryz.prog 46 (∀ (a0:(List (List Xg))) (r:Int),X8i a0=some r->X0o Tryz.prog 46 [(Lf (List.map (X7p false Xa) a0))] (aI .i64 r)):=⟨fun a0 r h=>by
 refine X0o.sym X9 fn46 (nt:=19) rfl rfl ?_ okM
 unfold X8i at h
 revert h
 refine bI fun u1 h2=>?_
 have qh2:=X09 h2
 refine bI fun o13 h14=>rnI [] ?_
 intro h
 refine wkT [] (X2.cut (Xe1 a0 qh2 a0 0 (by simp) _ h14 ?_ ?_))
 ·
  intro eo13;subst eo13
  refine X2.glue ?_
  try dsimp only at h
  revert h
  exact fun e=>oj e▸X8 [] (k:=fi)
 intro X3q eo13;subst eo13
 refine X2.glue ?_
 try dsimp only at h
 revert h
 exact fun e=>oj e▸X8 [] (k:=fi)⟩
instance Xvx:PCs Tryz.prog 53 (∀ (a0:Xu) (a1:(List (List Xg))) (r:Int),Xah a0 a1=some r->X0o Tryz.prog 53 [(Xq false a0),(Lf (List.map (X7p false Xa) a1))] (aI .i64 r)):=⟨fun a0 a1 r h=>by
 refine X0o.sym X9 fn53 (nt:=23) rfl rfl ?_ okM
 unfold Xah at h
 revert h
 exact bI fun v1 h2=>brI (fun h3=>fun e=>oj e▸X8 [.pure _ (AV.tup [(aI .i64 v1.1),(aI .i64 v1.2)]),Bt] (k:=fi)) fun h3=>brI (fun h4=>fun e=>oj e▸X8 [.pure _ (AV.tup [(aI .i64 v1.1),(aI .i64 v1.2)]),Bf,.el (aI .i64 (a1.length:Int)),.el (aI .i64 (a0.Sources.length:Int)),Bt] (k:=fi)) fun h4=>bI fun v5 h6=>fun e=>oj e▸X8 [.pure _ (AV.tup [(aI .i64 v1.1),(aI .i64 v1.2)]),Bf,.el (aI .i64 (a1.length:Int)),.el (aI .i64 (a0.Sources.length:Int)),Bf,.pure _ (aI .i64 v5)] (k:=fi)⟩
instance Xz3:PCs Tryz.prog 31 (∀ (a0:Xu) (a1:(List (List Xg))) (r:Bool),Xbp a0 a1=some r->X0o Tryz.prog 31 [(Xq false a0),(Lf (List.map (X7p false Xa) a1))] (aB r)):=⟨fun a0 a1 r h=>by
 refine X0o.sym X9 fn31 (nt:=19) rfl rfl ?_ okM
 unfold Xbp at h
 revert h
 refine bI fun j9_4 h18=>rnI [.stop 1] ?_
 intro h
 refine X2.join (s':=⟨fr [(4,(aB j9_4))],hp ([]),0⟩) ?_ (fun J=>X2.cut ?_)
 ·
  revert h
  exact fun e=>oj e▸X8 [] (k:=fi)
 clear h;revert h18
 refine bI fun v10 h11=>brI (fun h12=>?_) fun h12=>?_
 ·
  refine bI fun v13 h14=>brI (fun h15=>?_) fun h15=>?_
  ·
   refine bI fun v16 h17=>?_
   intro h
   obtain rfl:=oj h
   exact X8 [.pure _ (aB v10),.go true,.go true,.pure _ (aB v13),.go true,.go true,.go true,.go true,.pure _ (aI .i64 v16),.go true] (o:=by repeat' first|apply Ya|exact pcM|exact((Xf h12 h15))|exact(Xt (Xf h12 h15))|exact(X7h (Xf h12 h15))|exact X08) (k:=wkT [] (X2.glue J))
  intro h
  obtain rfl:=oj h
  exact X8 [.pure _ (aB v10),.go true,.go true,.pure _ (aB v13),.go true,.go false,.go false,.go false,.go false] (o:=by repeat' first|apply Ya|exact pcM|exact((Xf h12 h15))|exact(Xt (Xf h12 h15))|exact(Xb7 (Xf h12 h15))|exact X08) (k:=wkT [] (X2.glue J))
 intro h
 obtain rfl:=oj h
 exact X8 [.pure _ (aB v10),.go false,.go false,.go false,.go false,.go false,.go false,.go false] (o:=by repeat' first|apply Ya|exact pcM|exact((Xd h12 rfl))|exact(Xt (Xd h12 rfl))|exact(Xb7 (Xd h12 rfl))|exact X08) (k:=wkT [] (X2.glue J))⟩
theorem X62 {Q:Xy->St->Mu->Prop} {μ:Mu} (Xft:(List (List Xg))) (Xm:Xu) (Xmr:Bool) (Xgj:Int) (Xgi:(List Xw)) (Xgh:Bool) (Xgg:(List Xw)) (Xgf:Int) (Xge:Int) (Xgd:Int) (Xgc:Bool) (Xgb:Int):∀ (n:Nat) (X5d:(List Int)) (X0j:(List (List Xg))) (Xes:Int) (Xde:Nb X5d) (X1q:Nb X0j) (o:X41) (h:X11 Xft Xm Xmr Xgj Xgi Xgh Xgg Xgf Xge Xgd Xgc Xgb n X5d X0j Xes=some o)
  (C0:∀ (Xae:(List Int)) (X1y:(List (List Xg))) (X87:Nb Xae) (X13:Nb X1y),o=X41.x0 Xae X1y->X2 Tryz.prog 119 0 Q (.exit (.exit 0)) [] ⟨fr [(1,(Lf (List.map (X7p false Xa) Xft))),(2,(AV.ptr 0 0 0)),(5,(aB Xmr)),(6,(AV.ptr 1 0 0)),(7,(slE X13.1 3 (List.map (X7p false Xa) X1y)))],hp ([(0,Ob [(Xq false Xm)] 10),(1,Ob [AV.agg [(aI .u8 Xgj),(AV.list true (Xgi.map X1)),(slE X87.1 2 (List.map (aI .i64) Xae)),(aB Xgh),(AV.list true (Xgg.map X1)),(aI .u8 Xgf),(aI .i64 Xge),(aI .i64 Xgd),(aB Xgc),(aI .u8 Xgb)]] 10)]++opE X87.1 2 1 (List.map (aI .i64) Xae)++opE X13.1 3 1 (List.map (X7p false Xa) X1y)),4⟩ μ),
  X2 Tryz.prog 119 0 Q (.loop (X4k 0 (Xl Tryz.f6))) [] ⟨fr [(1,(Lf (List.map (X7p false Xa) Xft))),(2,(AV.ptr 0 0 0)),(5,(aB Xmr)),(6,(AV.ptr 1 0 0)),(7,(slE X1q.1 3 (List.map (X7p false Xa) X0j))),(8,(aI .i64 Xes))],hp ([(0,Ob [(Xq false Xm)] 10),(1,Ob [AV.agg [(aI .u8 Xgj),(AV.list true (Xgi.map X1)),(slE Xde.1 2 (List.map (aI .i64) X5d)),(aB Xgh),(AV.list true (Xgg.map X1)),(aI .u8 Xgf),(aI .i64 Xge),(aI .i64 Xgd),(aB Xgc),(aI .u8 Xgb)]] 10)]++opE Xde.1 2 1 (List.map (aI .i64) X5d)++opE X1q.1 3 1 (List.map (X7p false Xa) X0j)),4⟩ μ:=by
 intro n
 induction n with
 |zero=>intro X5d X0j Xes Xde X1q o h C0;cases h
 |succ n ih =>
  intro X5d X0j Xes Xde X1q o h C0
  rw[X11] at h
  rcases Xde with ⟨_|_,Xy0⟩
  ·
   rcases X1q with ⟨_|_,X6f⟩
   ·
    refine X2.round ?_
    revert h
    refine brI (fun h107=>?_) fun h107=>fun e=>X8 [Bf] (k:=wkT [] (C0 _ _  nbF nbF (oj e).symm))
    refine bI fun e108 h109=>?_
    try have qh109:=Xp h109
    refine bI fun e110 h111=>?_
    try have qh111:=Xp h111
    refine bI fun e112 h113=>?_
    try have qh113:=Xp h113
    refine bI fun u114 h115=>rnI [Bt,.el (aI .i64 (Xft.length:Int)),.wrap,.wrap,.el (aI .i64 e108),.el (aI .i64 e110),.ld (aI .i64 e110),.el (X7p false Xa e112),.no,.wrap] (o:=by repeat' first|apply Ya|exact pcM|exact(List.getElem?_set_self (by have hq:=X1t h111;simp;omega)).trans rfl|(refine X0s h115 rfl ?_;first|(simp;done)|(simp;omega)|(simp[h107];done)|(simp[h107];omega))|(refine X01 h115 (by decide) ?_;first|(simp;done)|(simp;omega)|(simp[h107];done)|(simp[h107];omega))|exact X08) ?_
    intro h
    exact wkT [(3,19)] (ih  _ _ _ nbF nbF o h C0)
   obtain rfl:=X6f rfl
   refine X2.round ?_
   revert h
   refine brI (fun h116=>?_) fun h116=>fun e=>X8 [Bf] (k:=wkT [] (C0 _ _  nbF nbS (oj e).symm))
   refine bI fun e117 h118=>?_
   try have qh118:=Xp h118
   refine bI fun e119 h120=>?_
   try have qh120:=Xp h120
   refine bI fun e121 h122=>?_
   try have qh122:=Xp h122
   refine bI fun u123 h124=>rnI [Bt,.el (aI .i64 (Xft.length:Int)),.wrap,.wrap,.el (aI .i64 e117),.el (aI .i64 e119),.ld (aI .i64 e119),.el (X7p false Xa e121),.no,.wrap] (o:=by repeat' first|apply Ya|exact pcM|exact(List.getElem?_set_self (by have hq:=X1t h120;simp;omega)).trans rfl|(refine X0s h124 rfl ?_;first|(simp;done)|(simp;omega)|(simp[h116];done)|(simp[h116];omega))|(refine X01 h124 (by decide) ?_;first|(simp;done)|(simp;omega)|(simp[h116];done)|(simp[h116];omega))|exact X08) ?_
   intro h
   exact wkT [(3,19)] (ih  _ _ _ nbF nbF o h C0)
  obtain rfl:=Xy0 rfl
  rcases X1q with ⟨_|_,X6f⟩
  ·
   refine X2.round ?_
   revert h
   refine brI (fun h125=>?_) fun h125=>fun e=>X8 [Bf] (k:=wkT [] (C0 _ _  nbS nbF (oj e).symm))
   refine bI fun e126 h127=>?_
   try have qh127:=Xp h127
   refine bI fun e128 h129=>?_
   try have qh129:=Xp h129
   intro h
   exact absurd (h129) (by simp[X1w])
  obtain rfl:=X6f rfl
  refine X2.round ?_
  revert h
  refine brI (fun h130=>?_) fun h130=>fun e=>X8 [Bf] (k:=wkT [] (C0 _ _  nbS nbS (oj e).symm))
  refine bI fun e131 h132=>?_
  try have qh132:=Xp h132
  refine bI fun e133 h134=>?_
  try have qh134:=Xp h134
  intro h
  exact absurd (h134) (by simp[X1w])
theorem X0m {Q:Xy->St->Mu->Prop} {μ:Mu} (Xb8:Xu) (y1_5:Bool) (Xsp:(List X3w)) (Xcs:(List X3w)) (hl:Xsp.length<=140737488355328):∀ (xs:List X3w) (k:Nat) (hx:Xsp.drop k=xs) (o:X2r) (h:X1a Xb8 y1_5 Xsp Xcs xs k  = some o)
  (C0:o=X2r.x0->X2 Tryz.prog 119 0 Q (.exit (.exit 2)) [] ⟨fr [(5,(aB y1_5))],hp ([]),0⟩ μ)
  (C1:o=X2r.x1->X2 Tryz.prog 119 0 Q (.exit .ret) [] ⟨fr [(4,(aB false))],hp ([]),0⟩ μ),
  X2 Tryz.prog 119 0 Q (.loop (X4k 1 (Xl Tryz.f6))) [] ⟨fr [(2,(AV.ptr 0 0 0)),(5,(aB y1_5)),(9,(AV.list true (Xsp.map Xc))),(12,(AV.list true (Xcs.map Xc))),(15,(aI .i64 (k:Int)))],hp ([(0,Ob [(Xq false Xb8)] 10)]),1⟩ μ:=by
 intro xs
 induction xs with
 |nil =>
  intro k hx  o h C0 C1
  have hk:=X18 hx
  have hc:decide ((k:Int)<(Xsp.length:Int))=false:=Yf (by omega)
  rw[X1a] at h
  refine X2.round ?_
  revert h
  exact fun e=>X8 [.el (aI .i64 (Xsp.length:Int)),Bf] (k:=wkT [] (C0  (oj e).symm))
 |cons x xs ih =>
  intro k hx  o h C0 C1
  obtain⟨hk,hg,hx1⟩:=X0r hx
  have hc:decide ((k:Int)<(Xsp.length:Int))=true:=Yt (by omega)
  rw[X1a] at h
  refine X2.round ?_
  revert h
  refine bI fun e167 h168=>?_
  try have qh168:=Xp h168
  refine bI fun Xoa h172=>rnI [.el (aI .i64 (Xsp.length:Int)),Bt,.el (Xc e167)] ?_
  intro h
  refine X2.join (s':=⟨fr [(2,(AV.ptr 0 0 0)),(5,(aB y1_5)),(9,(AV.list true (Xsp.map Xc))),(12,(AV.list true (Xcs.map Xc))),(15,(aI .i64 (k:Int))),(16,(AV.ptr 1 0 0))],hp ([(0,Ob [(Xq false Xb8)] 10),(1,Ob [(Xc Xoa)] 5)]),2⟩) ?_ (fun J=>X2.cut ?_)
  ·
   revert h
   refine brI (fun h173=>fun e=>X8 [.el (Xc x),Bt] (k:=wkT [] (C1  (oj e).symm))) fun h173=>rnI [.el (Xc x),Bf] ?_
   intro h
   exact wkT [] (ih (k+1) hx1  o h C0 C1)
  clear h;revert h172
  refine brI (fun h171=>?_) fun h171=>?_
  ·
   intro h
   obtain rfl:=oj h
   exact X8 [Bt,.ix 1,.ix 0,.ix 0,.ix 1] (k:=wkT [] (X2.glue J))
  intro h
  obtain rfl:=oj h
  exact X8 [Bf] (k:=wkT [] (X2.glue J))
end Go.Av.Tryz