/- Printed by decomp.py: that the program computes the functions. -/
import Derived.Test.YtkjlgmgfhgamlaaGreatDCert10Z
set_option linter.all false

namespace Go.Av.Tryz
open Go.Proofs Go.D
set_option maxRecDepth 10000
set_option maxHeartbeats 40000000
theorem Xdy {Q:Xx->St->Mu->Prop} {μ:Mu} (Xzp:(List Int)) (Xzo:Int):∀ (n:Nat) (Xyt:Int) (o:X50) (h:X30 Xzp Xzo n Xyt=some o)
  (C0:o=X50.x0->X5 Tryz.prog 60 0 Q (.exit .ret) [] ⟨fr [(4,(aI .i64 43))],hp ([]),0⟩ μ)
  (C1:o=X50.x1->X5 Tryz.prog 60 0 Q (.exit (.exit 4)) [] ⟨fr [(0,(Lf (List.map (aI .i64) Xzp))),(6,(aI .i64 Xzo))],hp ([]),0⟩ μ),
  X5 Tryz.prog 60 0 Q (.loop (X4c 2 (Xd Tryz.f128))) [] ⟨fr [(0,(Lf (List.map (aI .i64) Xzp))),(6,(aI .i64 Xzo)),(7,(aI .i64 Xyt))],hp ([]),0⟩ μ:=by
 intro n
 induction n with
 |zero=>intro Xyt o h C0 C1;cases h
 |succ n ih =>
  intro Xyt o h C0 C1
  rw[X30] at h
  refine X5.round ?_
  revert h
  refine brI (fun h85=>?_) fun h85=>fun e=>Xb [Bf] (k:=wkT [] (C1  (oj e).symm))
  refine bI fun e86 h87=>?_
  try have qh87:=Xp h87
  refine bI fun e88 h89=>?_
  try have qh89:=Xp h89
  refine brI (fun h90=>fun e=>Xb [Bt,.el (aI .i64 e86),.el (aI .i64 e88),Bt] (k:=wkT [] (C0  (oj e).symm))) fun h90=>rnI [Bt,.el (aI .i64 e86),.el (aI .i64 e88),Bf,.wrap] ?_
  intro h
  exact wkT [] (ih  _ o h C0 C1)
theorem Xdz {Q:Xx->St->Mu->Prop} {μ:Mu} (Xsh:(List Int)) (hl:Xsh.length<=140737488355328):∀ (xs:List Int) (k:Nat) (hx:Xsh.drop k=xs) (o:X51) (h:X2j Xsh xs k  = some o)
  (C0:o=X51.x0->X5 Tryz.prog 60 0 Q (.exit (.exit 2)) [] ⟨fr [],hp ([]),0⟩ μ)
  (C1:o=X51.x1->X5 Tryz.prog 60 0 Q (.exit .ret) [] ⟨fr [(4,(aI .i64 43))],hp ([]),0⟩ μ),
  X5 Tryz.prog 60 0 Q (.loop (X4c 1 (Xd Tryz.f128))) [] ⟨fr [(0,(Lf (List.map (aI .i64) Xsh))),(6,(aI .i64 (k:Int)))],hp ([]),0⟩ μ:=by
 intro xs
 induction xs with
 |nil =>
  intro k hx  o h C0 C1
  have hk:=X1u hx
  have hc:decide ((k:Int)<(Xsh.length:Int))=false:=Yf (by omega)
  rw[X2j] at h
  refine X5.round ?_
  revert h
  exact fun e=>Xb [.el (aI .i64 (Xsh.length:Int)),Bf] (k:=wkT [] (C0  (oj e).symm))
 |cons x xs ih =>
  intro k hx  o h C0 C1
  obtain⟨hk,hg,hx1⟩:=X13 hx
  have hc:decide ((k:Int)<(Xsh.length:Int))=true:=Yt (by omega)
  rw[X2j] at h
  refine X5.round ?_
  revert h
  refine bI fun o91 h92=>rnI [.el (aI .i64 (Xsh.length:Int)),Bt] ?_
  intro h
  refine wkT [] (X5.cut (Xdy Xsh (k:Int) _ _ _ h92 ?_ ?_))
  ·
   intro eo91;subst eo91
   refine X5.glue ?_
   try dsimp only at h
   revert h
   exact fun e=>Xb [] (k:=wkT [] (C1  (oj e).symm))
  intro eo91;subst eo91
  refine X5.glue ?_
  try dsimp only at h
  exact Xb [] (k:=wkT [] (ih (k+1) hx1  o h C0 C1))
instance Xsk:PCs Tryz.prog 128 (∀ (a0:(List Int)) (a1:Bool) (r:Int),X6z a0 a1=some r->X0h Tryz.prog 128 [(Lf (List.map (aI .i64) a0)),(aB a1)] (aI .i64 r)):=⟨fun a0 a1 r h=>by
 refine X0h.sym X8 X06k (nt:=60) rfl rfl ?_ okM
 unfold X6z at h
 revert h
 refine brI (fun h1=>fun e=>oj e▸Xb [.el (aI .i64 (a0.length:Int)),Bt] (k:=fi)) fun h1=>bI fun X013 h7=>rnI [.el (aI .i64 (a0.length:Int)),Bf,.stop 3] ?_
 intro h
 refine X5.join (s':=⟨fr [(0,(Lf (List.map (aI .i64) a0))),(21,(aB X013))],hp ([]),0⟩) ?_ (fun J=>X5.cut ?_)
 ·
  revert h
  refine brI (fun h8=>fun e=>oj e▸Xb [Bt] (k:=fi)) fun h8=>bI fun u9 h10=>?_
  have qh10:=X16 h10
  refine bI fun o27 h28=>rnI [Bf] ?_
  intro h
  refine wkT [] (X5.cut (Xe0 a0 qh10 a0 0 (by simp) _ h28 ?_ ?_))
  ·
   intro eo27;subst eo27
   refine X5.glue ?_
   try dsimp only at h
   revert h
   refine bI fun o93 h94=>rnI [] ?_
   intro h
   refine wkT [] (X5.cut (Xdz a0 qh10 a0 0 (by simp) _ h94 ?_ ?_))
   ·
    intro eo93;subst eo93
    refine X5.glue ?_
    try dsimp only at h
    revert h
    exact fun e=>oj e▸Xb [] (k:=fi)
   intro eo93;subst eo93
   refine X5.glue ?_
   try dsimp only at h
   revert h
   exact fun e=>oj e▸Xb [] (k:=fi)
  intro eo27;subst eo27
  refine X5.glue ?_
  try dsimp only at h
  revert h
  exact fun e=>oj e▸Xb [] (k:=fi)
 clear h;revert h7
 refine brI (fun h5=>?_) fun h5=>?_
 ·
  intro h
  obtain rfl:=oj h
  exact Xb [.el (aI .i64 (a0.length:Int)),.go false,.go false,.go false,.go false,.go false,.go false] (k:=wkT [] (X5.glue J))
 refine brI (fun h6=>?_) fun h6=>?_
 ·
  intro h
  obtain rfl:=oj h
  exact Xb [.el (aI .i64 (a0.length:Int)),.go true,.go true,.go true,.go true,.el (aI .i64 (a0.length:Int)),.go true,.go true] (k:=wkT [] (X5.glue J))
 intro h
 obtain rfl:=oj h
 exact Xb [.el (aI .i64 (a0.length:Int)),.go true,.go true,.go false,.go false,.go false,.go true] (k:=wkT [] (X5.glue J))⟩
instance Xxb:PCs Tryz.prog 129 (∀ (a0:X0y) (r:Bool),X7p a0=some r->X0h Tryz.prog 129 [(X3f a0)] (aB r)):=⟨fun a0 r h=>by
 refine X0h.sym X8 X06j (nt:=45) rfl rfl ?_ okM
 unfold X7p at h
 revert h
 exact brI (fun h1=>fun e=>oj e▸Xb [Bt] (k:=fi)) fun h1=>brI (fun h2=>fun e=>oj e▸Xb [Bf,Bt,.wrap] (k:=fi)) fun h2=>fun e=>oj e▸Xb [Bf,Bf] (k:=fi)⟩
instance Xw5:PCs Tryz.prog 86 (∀ (a0:X0b) (r:Int),X9o a0=some r->X0h Tryz.prog 86 [(X05 false a0)] (aI .i64 r)):=⟨fun a0 r h=>by
 refine X0h.sym X8 fn86 (nt:=80) rfl rfl ?_ okM
 unfold X9o at h
 revert h
 refine brI (fun h1=>fun e=>oj e▸Xb [Bt] (k:=fi)) fun h1=>bI fun X01c h5=>rnI [Bf,.stop 3] ?_
 intro h
 refine X5.join (s':=⟨fr [(1,(AV.ptr 0 0 0)),(29,(aB X01c))],hp ([(0,Ob [(X05 false a0)] 10)]),1⟩) ?_ (fun J=>X5.cut ?_)
 ·
  revert h
  refine brI (fun h6=>fun e=>oj e▸Xb [Bt] (k:=fi)) fun h6=>bI fun Xun h14=>rnI [Bf,.stop 5] ?_
  intro h
  refine X5.join (s':=⟨fr [(1,(AV.ptr 0 0 0)),(38,(aB Xun))],hp ([(0,Ob [(X05 false a0)] 10)]),1⟩) ?_ (fun J=>X5.cut ?_)
  ·
   revert h
   refine brI (fun h15=>bI fun v16 h17=>fun e=>oj e▸Xb [Bt,.pure _ (aI .i64 v16)] (k:=fi)) fun h15=>bI fun Xmy h25=>rnI [Bf,.stop 7] ?_
   intro h
   refine X5.join (s':=⟨fr [(1,(AV.ptr 0 0 0)),(51,(aB Xmy))],hp ([(0,Ob [(X05 false a0)] 10)]),1⟩) ?_ (fun J=>X5.cut ?_)
   ·
    revert h
    exact brI (fun h26=>bI fun v27 h28=>fun e=>oj e▸Xb [Bt,.pure _ (aI .i64 v27)] (k:=fi)) fun h26=>bI fun v29 h30=>brI (fun h31=>fun e=>oj e▸Xb [Bf,.pure _ (aI .i64 v29),Bt,.pure _ (aI .i64 v29)] (k:=fi)) fun h31=>bI fun v32 h33=>brI (fun h34=>fun e=>oj e▸Xb [Bf,.pure _ (aI .i64 v29),Bf,.pure _ (aB v32),Bt] (k:=fi)) fun h34=>fun e=>oj e▸Xb [Bf,.pure _ (aI .i64 v29),Bf,.pure _ (aB v32),Bf] (k:=fi)
   clear h;revert h25
   refine brI (fun h22=>?_) fun h22=>?_
   ·
    refine bI fun v23 h24=>?_
    intro h
    obtain rfl:=oj h
    exact Xb [.el (aI .i64 (a0.Where.length:Int)),.go true,.go true,.go true,.pure _ (aI .i64 v23),.go true] (k:=wkT [] (X5.glue J))
   intro h
   obtain rfl:=oj h
   exact Xb [.el (aI .i64 (a0.Where.length:Int)),.go false,.go false,.go false,.go false] (k:=wkT [] (X5.glue J))
  clear h;revert h14
  refine brI (fun h11=>?_) fun h11=>?_
  ·
   refine bI fun v12 h13=>?_
   intro h
   obtain rfl:=oj h
   exact Xb [.go true,.go true,.go true,.pure _ (aI .i64 v12),.go true] (k:=wkT [] (X5.glue J))
  intro h
  obtain rfl:=oj h
  exact Xb [.go false,.go false,.go false,.go false] (k:=wkT [] (X5.glue J))
 clear h;revert h5
 refine brI (fun h4=>?_) fun h4=>?_
 ·
  intro h
  obtain rfl:=oj h
  exact Xb [.go true,.go true,.go true,.el (aI .i64 (a0.Arg.length:Int)),.go true] (k:=wkT [] (X5.glue J))
 intro h
 obtain rfl:=oj h
 exact Xb [.go false,.go false,.go false,.go false] (k:=wkT [] (X5.glue J))⟩
instance Xw7:PCs Tryz.prog 176 (∀ (a0:Int) (r:Bool),X6h a0=some r->X0h Tryz.prog 176 [(aI .u8 a0)] (aB r)):=⟨fun a0 r h=>by
 refine X0h.sym X8 X05u (nt:=9) rfl rfl ?_ okM
 unfold X6h at h
 revert h
 exact fun e=>oj e▸Xb [] (k:=fi)⟩
instance Xxc:PCs Tryz.prog 196 (∀ (a0:(List X07)) (a1:Int) (r:Bool),Xb2 a0 a1=some r->X0h Tryz.prog 196 [(Lf (a0.map X9)),(aI .i64 a1)] (aB r)):=⟨fun a0 a1 r h=>by
 refine X0h.sym X8 X05n (nt:=67) rfl rfl ?_ okM
 unfold Xb2 at h
 revert h
 refine bI fun e1 h2=>?_
 try have qh2:=Xp h2
 refine bI fun e3 h4=>?_
 try have qh4:=Xp h4
 refine bI fun v5 h6=>bI fun e7 h8=>?_
 try have qh8:=Xp h8
 exact bI fun v9 h10=>brI (fun h11=>fun e=>oj e▸Xb [.el (X9 e1),.el (X9 e3),.pure _ (aB v5),.el (X9 e7),.pure _ (aB v9),Bt] (k:=fi)) fun h11=>brI (fun h12=>fun e=>oj e▸Xb [.el (X9 e1),.el (X9 e3),.pure _ (aB v5),.el (X9 e7),.pure _ (aB v9),Bf,Bt] (k:=fi)) fun h12=>brI (fun h13=>fun e=>oj e▸Xb [.el (X9 e1),.el (X9 e3),.pure _ (aB v5),.el (X9 e7),.pure _ (aB v9),Bf,Bf,Bt] (k:=fi)) fun h13=>brI (fun h14=>fun e=>oj e▸Xb [.el (X9 e1),.el (X9 e3),.pure _ (aB v5),.el (X9 e7),.pure _ (aB v9),Bf,Bf,Bf,Bt] (k:=fi)) fun h14=>brI (fun h15=>fun e=>oj e▸Xb [.el (X9 e1),.el (X9 e3),.pure _ (aB v5),.el (X9 e7),.pure _ (aB v9),Bf,Bf,Bf,Bf,Bt] (k:=fi)) fun h15=>fun e=>oj e▸Xb [.el (X9 e1),.el (X9 e3),.pure _ (aB v5),.el (X9 e7),.pure _ (aB v9),Bf,Bf,Bf,Bf,Bf] (k:=fi)⟩
theorem Xfk {Q:Xx->St->Mu->Prop} {μ:Mu} (X0r:(List X07)) (hl:X0r.length<=140737488355328):∀ (xs:List X07) (k:Nat) (hx:X0r.drop k=xs) (o:X68) (h:X45 X0r xs k  = some o)
  (C0:o=X68.x0->X5 Tryz.prog 17 0 Q (.exit (.exit 0)) [] ⟨fr [(0,(Lf (X0r.map X9)))],hp ([]),0⟩ μ)
  (C1:∀ (Xas:Int),o=X68.x1 Xas->X5 Tryz.prog 17 0 Q (.exit .ret) [] ⟨fr [(2,(aI .i64 Xas))],hp ([]),0⟩ μ),
  X5 Tryz.prog 17 0 Q (.loop (X4c 0 (Xd Tryz.f175))) [] ⟨fr [(0,(Lf (X0r.map X9))),(3,(aI .i64 (k:Int)))],hp ([]),0⟩ μ:=by
 intro xs
 induction xs with
 |nil =>
  intro k hx  o h C0 C1
  have hk:=X1u hx
  have hc:decide ((k:Int)<(X0r.length:Int))=false:=Yf (by omega)
  rw[X45] at h
  refine X5.round ?_
  revert h
  exact fun e=>Xb [.el (aI .i64 (X0r.length:Int)),Bf] (k:=wkT [] (C0  (oj e).symm))
 |cons x xs ih =>
  intro k hx  o h C0 C1
  obtain⟨hk,hg,hx1⟩:=X13 hx
  have hc:decide ((k:Int)<(X0r.length:Int))=true:=Yt (by omega)
  rw[X45] at h
  refine X5.round ?_
  revert h
  refine bI fun v10 h11=>brI (fun h12=>fun e=>Xb [.el (aI .i64 (X0r.length:Int)),Bt,.pure _ (aB v10),Bt] (k:=wkT [] (C1 _  (oj e).symm))) fun h12=>rnI [.el (aI .i64 (X0r.length:Int)),Bt,.pure _ (aB v10),Bf] ?_
  intro h
  exact wkT [] (ih (k+1) hx1  o h C0 C1)
instance Xw6:PCs Tryz.prog 175 (∀ (a0:(List X07)) (r:Int),Xbh a0=some r->X0h Tryz.prog 175 [(Lf (a0.map X9))] (aI .i64 r)):=⟨fun a0 r h=>by
 refine X0h.sym X8 X05v (nt:=17) rfl rfl ?_ okM
 unfold Xbh at h
 revert h
 refine bI fun u1 h2=>?_
 have qh2:=X16 h2
 refine bI fun o13 h14=>rnI [] ?_
 intro h
 refine wkT [] (X5.cut (Xfk a0 qh2 a0 0 (by simp) _ h14 ?_ ?_))
 ·
  intro eo13;subst eo13
  refine X5.glue ?_
  try dsimp only at h
  revert h
  exact fun e=>oj e▸Xb [.el (aI .i64 (a0.length:Int))] (k:=fi)
 intro Xas eo13;subst eo13
 refine X5.glue ?_
 try dsimp only at h
 revert h
 exact fun e=>oj e▸Xb [] (k:=fi)⟩
instance X00j:PCs Tryz.prog 156 (∀ (a0:(List X07)) (r:Bool×Int×Int),Xeh a0=some r->X0h Tryz.prog 156 [(Lf (a0.map X9))] (AV.tup [(aB r.1),(aI .i64 r.2.1),(aI .i64 r.2.2)])):=⟨fun a0 r h=>by
 refine X0h.sym X8 X064 (nt:=29) rfl rfl ?_ okM
 unfold Xeh at h
 revert h
 refine bI fun v1 h2=>brI (fun h3=>fun e=>oj e▸Xb [.pure _ (aI .i64 v1),Bt,.pure _ (aI .i64 v1)] (k:=fi)) fun h3=>bI fun v4 h5=>brI (fun h6=>fun e=>oj e▸Xb [.pure _ (aI .i64 v1),Bf,.pure _ (aI .i64 v4),.el (aI .i64 (a0.length:Int)),Bt] (k:=fi)) fun h6=>bI fun e7 h8=>?_
 try have qh8:=Xp h8
 exact bI fun v9 h10=>fun e=>oj e▸Xb [.pure _ (aI .i64 v1),Bf,.pure _ (aI .i64 v4),.el (aI .i64 (a0.length:Int)),Bf,.el (aI .i64 (a0.length:Int)),.wrap,.el (X9 e7),.pure _ (aB v9),.el (aI .i64 (a0.length:Int)),.wrap] (k:=fi)⟩
instance Xxd:PCs Tryz.prog 130 (∀ (a0:(List X07)) (a1:Bool) (r:Int×Int),X7q a0 a1=some r->X0h Tryz.prog 130 [(Lf (a0.map X9)),(aB a1)] (AV.tup [(aI .i64 r.1),(aI .i64 r.2)])):=⟨fun a0 a1 r h=>by
 refine X0h.sym X8 X06i (nt:=25) rfl rfl ?_ okM
 unfold X7q at h
 revert h
 exact bI fun v1 h2=>brI (fun h3=>fun e=>oj e▸Xb [.pure _ (AV.tup [(aB v1.1),(aI .i64 v1.2.1),(aI .i64 v1.2.2)]),Bt] (k:=fi)) fun h3=>fun e=>oj e▸Xb [.pure _ (AV.tup [(aB v1.1),(aI .i64 v1.2.1),(aI .i64 v1.2.2)]),Bf] (k:=fi)⟩
instance Xw3:PCs Tryz.prog 87 (∀ (a0:X0b) (r:Int×Int),X9m a0=some r->X0h Tryz.prog 87 [(X05 false a0)] (AV.tup [(aI .i64 r.1),(aI .i64 r.2)])):=⟨fun a0 r h=>by
 refine X0h.sym X8 fn87 (nt:=46) rfl rfl ?_ okM
 unfold X9m at h
 revert h
 refine brI (fun h1=>?_) fun h1=>?_
 ·
  refine bI fun v2 h3=>brI (fun h4=>?_) fun h4=>?_
  ·
   refine bI fun e5 h6=>?_
   try have qh6:=Xp h6
   exact fun e=>oj e▸Xb [.el (aI .i64 (a0.Arg.length:Int)),Bt,.pure _ (AV.tup [(aI .i64 v2.1),(aI .i64 v2.2)]),Bt,.el (X9 e5)] (k:=fi)
  refine rnI [.el (aI .i64 (a0.Arg.length:Int)),Bt,.pure _ (AV.tup [(aI .i64 v2.1),(aI .i64 v2.2)]),Bf,.el (aI .i64 (a0.Where.length:Int))] ?_
  refine brI (fun h7=>?_) fun h7=>fun e=>oj e▸Xb [Bf] (k:=fi)
  refine bI fun v8 h9=>brI (fun h10=>?_) fun h10=>fun e=>oj e▸Xb [Bt,.pure _ (AV.tup [(aI .i64 v8.1),(aI .i64 v8.2)]),Bf] (k:=fi)
  refine bI fun e11 h12=>?_
  try have qh12:=Xp h12
  exact fun e=>oj e▸Xb [Bt,.pure _ (AV.tup [(aI .i64 v8.1),(aI .i64 v8.2)]),Bt,.el (X9 e11)] (k:=fi)
 refine brI (fun h13=>?_) fun h13=>fun e=>oj e▸Xb [.el (aI .i64 (a0.Arg.length:Int)),Bf,.el (aI .i64 (a0.Where.length:Int)),Bf] (k:=fi)
 refine bI fun v14 h15=>rnI [.el (aI .i64 (a0.Arg.length:Int)),Bf,.el (aI .i64 (a0.Where.length:Int)),Bt,.pure _ (AV.tup [(aI .i64 v14.1),(aI .i64 v14.2)])] ?_
 refine brI (fun h16=>?_) fun h16=>fun e=>oj e▸Xb [Bf] (k:=fi)
 refine bI fun e17 h18=>?_
 try have qh18:=Xp h18
 exact fun e=>oj e▸Xb [Bt,.el (X9 e17)] (k:=fi)⟩
instance Xw4:PCs Tryz.prog 49 (∀ (a0:X0b) (r:Int×Int),X9n a0=some r->X0h Tryz.prog 49 [(X05 false a0)] (AV.tup [(aI .i64 r.1),(aI .i64 r.2)])):=⟨fun a0 r h=>by
 refine X0h.sym X8 fn49 (nt:=13) rfl rfl ?_ okM
 unfold X9n at h
 revert h
 exact bI fun v1 h2=>brI (fun h3=>fun e=>oj e▸Xb [.pure _ (aI .i64 v1),Bt,.pure _ (aI .i64 v1)] (k:=fi)) fun h3=>bI fun v4 h5=>fun e=>oj e▸Xb [.pure _ (aI .i64 v1),Bf,.pure _ (AV.tup [(aI .i64 v4.1),(aI .i64 v4.2)])] (k:=fi)⟩
instance Xr7:PCs Tryz.prog 13 (∀ (a0:X0b) (r:Bool),X5s a0=some r->X0h Tryz.prog 13 [(X05 false a0)] (aB r)):=⟨fun a0 r h=>by
 refine X0h.sym X8 fn13 (nt:=12) rfl rfl ?_ okM
 unfold X5s at h
 revert h
 exact bI fun v1 h2=>fun e=>oj e▸Xb [.pure _ (AV.tup [(aI .i64 v1.1),(aI .i64 v1.2)])] (k:=fi)⟩
end Go.Av.Tryz