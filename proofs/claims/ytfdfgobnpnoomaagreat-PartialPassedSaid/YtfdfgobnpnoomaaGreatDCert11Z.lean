/- Printed by decomp.py: that the program computes the functions. -/
import Derived.Test.YtfdfgobnpnoomaaGreatDCert10Z
set_option linter.all false

namespace Go.Av.Tryz
open Go.Proofs Go.D
set_option maxRecDepth 10000
set_option maxHeartbeats 40000000
instance X047:PCs Tryz.prog 128 (∀ (a0:(List X05)) (r:(List Int)×(List Int)×Bool),Xe1 a0=some r->X0g Tryz.prog 128 [(Lf (a0.map X4))] (AV.tup [(AV.list true (List.map (aI .i64) r.1)),(AV.list true (List.map (aI .i64) r.2.1)),(aB r.2.2)])):=⟨fun a0 r h=>by
 refine X0g.sym Xa X0e6 (nt:=102) rfl rfl ?_ okM
 unfold Xe1 at h
 revert h
 refine bI fun u1 h2=>?_
 have qh2:=X08 h2
 refine bI fun o232 h233=>rnI [] ?_
 intro h
 refine wkT [] (X2.cut (Xja a0 qh2 a0 0 (by simp) _ _ nbS nbS _ h233 ?_ ?_))
 ·
  intro Xe X0s Xj X0v eo232;subst eo232
  refine X2.glue ?_
  try dsimp only at h
  rcases Xj with ⟨_|_,X0n⟩
  ·
   rcases X0v with ⟨_|_,X33⟩
   ·
    revert h
    refine bI fun X01w h241=>rnI [.stop 25] ?_
    intro h
    refine X2.join (s':=⟨fr [(2,(AV.ref 0 0 (Xe.length))),(3,(AV.ref 1 0 (X0s.length))),(4,(aB X01w))],hp ([(0,Ob (List.map (aI .i64) Xe) 1),(1,Ob (List.map (aI .i64) X0s) 1)]),2⟩) ?_ (fun J=>X2.cut ?_)
    ·
     revert h
     exact fun e=>oj e▸X9 [] (k:=fi)
    clear h;revert h241
    refine brI (fun h238=>?_) fun h238=>?_
    ·
     refine bI fun e239 h240=>?_
     try have qh240:=Xn h240
     intro h
     obtain rfl:=oj h
     exact X9 [.el (aI .i64 (a0.length:Int)),.go true,.go true,.go true,.el (aI .i64 (a0.length:Int)),.go true,.wrap,.go true,.el (aI .i64 e239),.go true,.ld (aI .i64 e239),.go true,.go true,.el (aI .i64 (a0.length:Int)),.go true] (k:=wkT [] (X2.glue J))
    intro h
    obtain rfl:=oj h
    exact X9 [.el (aI .i64 (a0.length:Int)),.go false,.go false,.go false,.go false,.go false,.go false,.go false,.go false,.go false,.go false] (k:=wkT [] (X2.glue J))
   obtain rfl:=X33 rfl
   revert h
   refine bI fun X0bh h249=>rnI [.stop 25] ?_
   intro h
   refine X2.join (s':=⟨fr [(2,(AV.ref 0 0 (Xe.length))),(3,AV.nils),(4,(aB X0bh))],hp ([(0,Ob (List.map (aI .i64) Xe) 1)]),2⟩) ?_ (fun J=>X2.cut ?_)
   ·
    revert h
    exact fun e=>oj e▸X9 [] (k:=fi)
   clear h;revert h249
   refine brI (fun h246=>?_) fun h246=>?_
   ·
    refine bI fun e247 h248=>?_
    try have qh248:=Xn h248
    intro h
    obtain rfl:=oj h
    exact X9 [.el (aI .i64 (a0.length:Int)),.go true,.go true,.go true,.el (aI .i64 (a0.length:Int)),.go true,.wrap,.go true,.el (aI .i64 e247),.go true,.ld (aI .i64 e247),.go true,.go true,.el (aI .i64 (a0.length:Int)),.go true] (k:=wkT [] (X2.glue J))
   intro h
   obtain rfl:=oj h
   exact X9 [.el (aI .i64 (a0.length:Int)),.go false,.go false,.go false,.go false,.go false,.go false,.go false,.go false,.go false,.go false] (k:=wkT [] (X2.glue J))
  obtain rfl:=X0n rfl
  rcases X0v with ⟨_|_,X33⟩
  ·
   revert h
   refine bI fun X0bg h257=>rnI [.stop 25] ?_
   intro h
   refine X2.join (s':=⟨fr [(2,AV.nils),(3,(AV.ref 1 0 (X0s.length))),(4,(aB X0bg))],hp ([(1,Ob (List.map (aI .i64) X0s) 1)]),2⟩) ?_ (fun J=>X2.cut ?_)
   ·
    revert h
    exact fun e=>oj e▸X9 [] (k:=fi)
   clear h;revert h257
   refine brI (fun h254=>?_) fun h254=>?_
   ·
    refine bI fun e255 h256=>?_
    try have qh256:=Xn h256
    intro h
    exact absurd (h256) (by simp[X1p])
   intro h
   obtain rfl:=oj h
   exact X9 [.el (aI .i64 (a0.length:Int)),.go false,.go false,.go false,.go false,.go false,.go false,.go false,.go false,.go false,.go false] (k:=wkT [] (X2.glue J))
  obtain rfl:=X33 rfl
  revert h
  refine bI fun X0bf h265=>rnI [.stop 25] ?_
  intro h
  refine X2.join (s':=⟨fr [(2,AV.nils),(3,AV.nils),(4,(aB X0bf))],hp ([]),2⟩) ?_ (fun J=>X2.cut ?_)
  ·
   revert h
   exact fun e=>oj e▸X9 [] (k:=fi)
  clear h;revert h265
  refine brI (fun h262=>?_) fun h262=>?_
  ·
   refine bI fun e263 h264=>?_
   try have qh264:=Xn h264
   intro h
   exact absurd (h264) (by simp[X1p])
  intro h
  obtain rfl:=oj h
  exact X9 [.el (aI .i64 (a0.length:Int)),.go false,.go false,.go false,.go false,.go false,.go false,.go false,.go false,.go false,.go false] (k:=wkT [] (X2.glue J))
 intro X0e X6c X0c X55 eo232;subst eo232
 refine X2.glue ?_
 try dsimp only at h
 rcases X0c with ⟨_|_,X30⟩
 ·
  rcases X55 with ⟨_|_,X9p⟩
  ·
   revert h
   exact fun e=>oj e▸X9 [] (k:=fi)
  obtain rfl:=X9p rfl
  revert h
  exact fun e=>oj e▸X9 [] (k:=fi)
 obtain rfl:=X30 rfl
 rcases X55 with ⟨_|_,X9p⟩
 ·
  revert h
  exact fun e=>oj e▸X9 [] (k:=fi)
 obtain rfl:=X9p rfl
 revert h
 exact fun e=>oj e▸X9 [] (k:=fi)⟩
instance X04a:PCs Tryz.prog 92 (∀ (a0:(List X05)) (r:Int),X5j a0=some r->X0g Tryz.prog 92 [(Lf (a0.map X4))] (aI .i64 r)):=⟨fun a0 r h=>by
 refine X0g.sym Xa fn92 (nt:=24) rfl rfl ?_ okM
 unfold X5j at h
 revert h
 refine brI (fun h1=>fun e=>oj e▸X9 [.el (aI .i64 (a0.length:Int)),Bt] (k:=fi)) fun h1=>bI fun v2 h3=>rnI [.el (aI .i64 (a0.length:Int)),Bf,.pure _ (AV.tup [(AV.list true (List.map (aI .i64) v2.1)),(AV.list true (List.map (aI .i64) v2.2.1)),(aB v2.2.2)])] ?_
 refine brI (fun h4=>fun e=>oj e▸X9 [Bt] (k:=fi)) fun h4=>bI fun e5 h6=>?_
 try have qh6:=Xn h6
 exact brI (fun h7=>fun e=>oj e▸X9 [Bf,.el (aI .i64 (a0.length:Int)),.wrap,.el (aI .i64 e5),Bt] (k:=fi)) fun h7=>fun e=>oj e▸X9 [Bf,.el (aI .i64 (a0.length:Int)),.wrap,.el (aI .i64 e5),Bf] (k:=fi)⟩
theorem Xhh {Q:X02->St->Mu->Prop} {μ:Mu} (X00:(List Int)) (hl:X00.length<=140737488355328):∀ (xs:List Int) (k:Nat) (hx:X00.drop k=xs) (o:X65) (h:X3o X00 xs k  = some o)
  (C0:o=X65.x0->X2 Tryz.prog 60 0 Q (.exit (.exit 0)) [] ⟨fr [(0,(Lf (List.map (aI .i64) X00)))],hp ([]),0⟩ μ)
  (C1:o=X65.x1->X2 Tryz.prog 60 0 Q (.exit .ret) [] ⟨fr [(4,(aI .i64 8))],hp ([]),0⟩ μ),
  X2 Tryz.prog 60 0 Q (.loop (X2v 0 (Xh Tryz.f93))) [] ⟨fr [(0,(Lf (List.map (aI .i64) X00))),(5,(aI .i64 (k:Int)))],hp ([]),0⟩ μ:=by
 intro xs
 induction xs with
 |nil =>
  intro k hx  o h C0 C1
  have hk:=drop_nil hx
  have hc:decide ((k:Int)<(X00.length:Int))=false:=Yf (by omega)
  rw[X3o] at h
  refine X2.round ?_
  revert h
  exact fun e=>X9 [.el (aI .i64 (X00.length:Int)),Bf] (k:=wkT [] (C0  (oj e).symm))
 |cons x xs ih =>
  intro k hx  o h C0 C1
  obtain⟨hk,hg,hx1⟩:=drop_cons hx
  have hc:decide ((k:Int)<(X00.length:Int))=true:=Yt (by omega)
  rw[X3o] at h
  refine X2.round ?_
  revert h
  refine bI fun X01v h25=>rnI [.el (aI .i64 (X00.length:Int)),Bt,.stop 8] ?_
  intro h
  refine X2.join (s':=⟨fr [(0,(Lf (List.map (aI .i64) X00))),(5,(aI .i64 (k:Int))),(39,(aB X01v))],hp ([]),0⟩) ?_ (fun J=>X2.cut ?_)
  ·
   revert h
   refine brI (fun h26=>fun e=>X9 [Bt] (k:=wkT [] (C1  (oj e).symm))) fun h26=>rnI [Bf] ?_
   intro h
   exact wkT [] (ih (k+1) hx1  o h C0 C1)
  clear h;revert h25
  refine brI (fun h24=>?_) fun h24=>?_
  ·
   intro h
   obtain rfl:=oj h
   exact X9 [.el (aI .i64 x),.go false,.go false,.go false,.go false,.go false] (k:=wkT [] (X2.glue J))
  intro h
  obtain rfl:=oj h
  exact X9 [.el (aI .i64 x),.go true,.go true,.go true,.el (aI .i64 x),.go true,.go true] (k:=wkT [] (X2.glue J))
theorem Xhf {Q:X02->St->Mu->Prop} {μ:Mu} (y2_0:(List Int)) (y2_6:Int):∀ (n:Nat) (Xt0:Int) (o:X63) (h:X3n y2_0 y2_6 n Xt0=some o)
  (C0:o=X63.x0->X2 Tryz.prog 60 0 Q (.exit .ret) [] ⟨fr [(4,(aI .i64 43))],hp ([]),0⟩ μ)
  (C1:o=X63.x1->X2 Tryz.prog 60 0 Q (.exit (.exit 4)) [] ⟨fr [(0,(Lf (List.map (aI .i64) y2_0))),(6,(aI .i64 y2_6))],hp ([]),0⟩ μ),
  X2 Tryz.prog 60 0 Q (.loop (X2v 2 (Xh Tryz.f93))) [] ⟨fr [(0,(Lf (List.map (aI .i64) y2_0))),(6,(aI .i64 y2_6)),(7,(aI .i64 Xt0))],hp ([]),0⟩ μ:=by
 intro n
 induction n with
 |zero=>intro Xt0 o h C0 C1;cases h
 |succ n ih =>
  intro Xt0 o h C0 C1
  rw[X3n] at h
  refine X2.round ?_
  revert h
  refine brI (fun h85=>?_) fun h85=>fun e=>X9 [Bf] (k:=wkT [] (C1  (oj e).symm))
  refine bI fun e86 h87=>?_
  try have qh87:=Xn h87
  refine bI fun e88 h89=>?_
  try have qh89:=Xn h89
  refine brI (fun h90=>fun e=>X9 [Bt,.el (aI .i64 e86),.el (aI .i64 e88),Bt] (k:=wkT [] (C0  (oj e).symm))) fun h90=>rnI [Bt,.el (aI .i64 e86),.el (aI .i64 e88),Bf,.wrap] ?_
  intro h
  exact wkT [] (ih  _ o h C0 C1)
theorem Xhg {Q:X02->St->Mu->Prop} {μ:Mu} (Xky:(List Int)) (hl:Xky.length<=140737488355328):∀ (xs:List Int) (k:Nat) (hx:Xky.drop k=xs) (o:X64) (h:X2r Xky xs k  = some o)
  (C0:o=X64.x0->X2 Tryz.prog 60 0 Q (.exit (.exit 2)) [] ⟨fr [],hp ([]),0⟩ μ)
  (C1:o=X64.x1->X2 Tryz.prog 60 0 Q (.exit .ret) [] ⟨fr [(4,(aI .i64 43))],hp ([]),0⟩ μ),
  X2 Tryz.prog 60 0 Q (.loop (X2v 1 (Xh Tryz.f93))) [] ⟨fr [(0,(Lf (List.map (aI .i64) Xky))),(6,(aI .i64 (k:Int)))],hp ([]),0⟩ μ:=by
 intro xs
 induction xs with
 |nil =>
  intro k hx  o h C0 C1
  have hk:=drop_nil hx
  have hc:decide ((k:Int)<(Xky.length:Int))=false:=Yf (by omega)
  rw[X2r] at h
  refine X2.round ?_
  revert h
  exact fun e=>X9 [.el (aI .i64 (Xky.length:Int)),Bf] (k:=wkT [] (C0  (oj e).symm))
 |cons x xs ih =>
  intro k hx  o h C0 C1
  obtain⟨hk,hg,hx1⟩:=drop_cons hx
  have hc:decide ((k:Int)<(Xky.length:Int))=true:=Yt (by omega)
  rw[X2r] at h
  refine X2.round ?_
  revert h
  refine bI fun o91 h92=>rnI [.el (aI .i64 (Xky.length:Int)),Bt] ?_
  intro h
  refine wkT [] (X2.cut (Xhf Xky (k:Int) _ _ _ h92 ?_ ?_))
  ·
   intro eo91;subst eo91
   refine X2.glue ?_
   try dsimp only at h
   revert h
   exact fun e=>X9 [] (k:=wkT [] (C1  (oj e).symm))
  intro eo91;subst eo91
  refine X2.glue ?_
  try dsimp only at h
  exact X9 [] (k:=wkT [] (ih (k+1) hx1  o h C0 C1))
instance Xzd:PCs Tryz.prog 93 (∀ (a0:(List Int)) (a1:Bool) (r:Int),X8h a0 a1=some r->X0g Tryz.prog 93 [(Lf (List.map (aI .i64) a0)),(aB a1)] (aI .i64 r)):=⟨fun a0 a1 r h=>by
 refine X0g.sym Xa fn93 (nt:=60) rfl rfl ?_ okM
 unfold X8h at h
 revert h
 refine brI (fun h1=>fun e=>oj e▸X9 [.el (aI .i64 (a0.length:Int)),Bt] (k:=fi)) fun h1=>bI fun X099 h7=>rnI [.el (aI .i64 (a0.length:Int)),Bf,.stop 3] ?_
 intro h
 refine X2.join (s':=⟨fr [(0,(Lf (List.map (aI .i64) a0))),(21,(aB X099))],hp ([]),0⟩) ?_ (fun J=>X2.cut ?_)
 ·
  revert h
  refine brI (fun h8=>fun e=>oj e▸X9 [Bt] (k:=fi)) fun h8=>bI fun u9 h10=>?_
  have qh10:=X08 h10
  refine bI fun o27 h28=>rnI [Bf] ?_
  intro h
  refine wkT [] (X2.cut (Xhh a0 qh10 a0 0 (by simp) _ h28 ?_ ?_))
  ·
   intro eo27;subst eo27
   refine X2.glue ?_
   try dsimp only at h
   revert h
   refine bI fun o93 h94=>rnI [] ?_
   intro h
   refine wkT [] (X2.cut (Xhg a0 qh10 a0 0 (by simp) _ h94 ?_ ?_))
   ·
    intro eo93;subst eo93
    refine X2.glue ?_
    try dsimp only at h
    revert h
    exact fun e=>oj e▸X9 [] (k:=fi)
   intro eo93;subst eo93
   refine X2.glue ?_
   try dsimp only at h
   revert h
   exact fun e=>oj e▸X9 [] (k:=fi)
  intro eo27;subst eo27
  refine X2.glue ?_
  try dsimp only at h
  revert h
  exact fun e=>oj e▸X9 [] (k:=fi)
 clear h;revert h7
 refine brI (fun h5=>?_) fun h5=>?_
 ·
  intro h
  obtain rfl:=oj h
  exact X9 [.el (aI .i64 (a0.length:Int)),.go false,.go false,.go false,.go false,.go false,.go false] (k:=wkT [] (X2.glue J))
 refine brI (fun h6=>?_) fun h6=>?_
 ·
  intro h
  obtain rfl:=oj h
  exact X9 [.el (aI .i64 (a0.length:Int)),.go true,.go true,.go true,.go true,.el (aI .i64 (a0.length:Int)),.go true,.go true] (k:=wkT [] (X2.glue J))
 intro h
 obtain rfl:=oj h
 exact X9 [.el (aI .i64 (a0.length:Int)),.go true,.go true,.go false,.go false,.go false,.go true] (k:=wkT [] (X2.glue J))⟩
instance X059:PCs Tryz.prog 94 (∀ (a0:X0l) (r:Bool),X9e a0=some r->X0g Tryz.prog 94 [(X0u a0)] (aB r)):=⟨fun a0 r h=>by
 refine X0g.sym Xa fn94 (nt:=45) rfl rfl ?_ okM
 unfold X9e at h
 revert h
 exact brI (fun h1=>fun e=>oj e▸X9 [Bt] (k:=fi)) fun h1=>brI (fun h2=>fun e=>oj e▸X9 [Bf,Bt,.wrap] (k:=fi)) fun h2=>fun e=>oj e▸X9 [Bf,Bf] (k:=fi)⟩
instance X043:PCs Tryz.prog 56 (∀ (a0:Xu) (r:Int),Xbp a0=some r->X0g Tryz.prog 56 [(Xm false a0)] (aI .i64 r)):=⟨fun a0 r h=>by
 refine X0g.sym Xa fn56 (nt:=80) rfl rfl ?_ okM
 unfold Xbp at h
 revert h
 refine brI (fun h1=>fun e=>oj e▸X9 [Bt] (k:=fi)) fun h1=>bI fun X09i h5=>rnI [Bf,.stop 3] ?_
 intro h
 refine X2.join (s':=⟨fr [(1,(AV.ptr 0 0 0)),(29,(aB X09i))],hp ([(0,Ob [(Xm false a0)] 10)]),1⟩) ?_ (fun J=>X2.cut ?_)
 ·
  revert h
  refine brI (fun h6=>fun e=>oj e▸X9 [Bt] (k:=fi)) fun h6=>bI fun X026 h14=>rnI [Bf,.stop 5] ?_
  intro h
  refine X2.join (s':=⟨fr [(1,(AV.ptr 0 0 0)),(38,(aB X026))],hp ([(0,Ob [(Xm false a0)] 10)]),1⟩) ?_ (fun J=>X2.cut ?_)
  ·
   revert h
   refine brI (fun h15=>bI fun v16 h17=>fun e=>oj e▸X9 [Bt,.pure _ (aI .i64 v16)] (k:=fi)) fun h15=>bI fun Xs1 h25=>rnI [Bf,.stop 7] ?_
   intro h
   refine X2.join (s':=⟨fr [(1,(AV.ptr 0 0 0)),(51,(aB Xs1))],hp ([(0,Ob [(Xm false a0)] 10)]),1⟩) ?_ (fun J=>X2.cut ?_)
   ·
    revert h
    exact brI (fun h26=>bI fun v27 h28=>fun e=>oj e▸X9 [Bt,.pure _ (aI .i64 v27)] (k:=fi)) fun h26=>bI fun v29 h30=>brI (fun h31=>fun e=>oj e▸X9 [Bf,.pure _ (aI .i64 v29),Bt,.pure _ (aI .i64 v29)] (k:=fi)) fun h31=>bI fun v32 h33=>brI (fun h34=>fun e=>oj e▸X9 [Bf,.pure _ (aI .i64 v29),Bf,.pure _ (aB v32),Bt] (k:=fi)) fun h34=>fun e=>oj e▸X9 [Bf,.pure _ (aI .i64 v29),Bf,.pure _ (aB v32),Bf] (k:=fi)
   clear h;revert h25
   refine brI (fun h22=>?_) fun h22=>?_
   ·
    refine bI fun v23 h24=>?_
    intro h
    obtain rfl:=oj h
    exact X9 [.el (aI .i64 (a0.Where.length:Int)),.go true,.go true,.go true,.pure _ (aI .i64 v23),.go true] (k:=wkT [] (X2.glue J))
   intro h
   obtain rfl:=oj h
   exact X9 [.el (aI .i64 (a0.Where.length:Int)),.go false,.go false,.go false,.go false] (k:=wkT [] (X2.glue J))
  clear h;revert h14
  refine brI (fun h11=>?_) fun h11=>?_
  ·
   refine bI fun v12 h13=>?_
   intro h
   obtain rfl:=oj h
   exact X9 [.go true,.go true,.go true,.pure _ (aI .i64 v12),.go true] (k:=wkT [] (X2.glue J))
  intro h
  obtain rfl:=oj h
  exact X9 [.go false,.go false,.go false,.go false] (k:=wkT [] (X2.glue J))
 clear h;revert h5
 refine brI (fun h4=>?_) fun h4=>?_
 ·
  intro h
  obtain rfl:=oj h
  exact X9 [.go true,.go true,.go true,.el (aI .i64 (a0.Arg.length:Int)),.go true] (k:=wkT [] (X2.glue J))
 intro h
 obtain rfl:=oj h
 exact X9 [.go false,.go false,.go false,.go false] (k:=wkT [] (X2.glue J))⟩
instance X045:PCs Tryz.prog 155 (∀ (a0:Int) (r:Bool),X7o a0=some r->X0g Tryz.prog 155 [(aI .u8 a0)] (aB r)):=⟨fun a0 r h=>by
 refine X0g.sym Xa X0dn (nt:=9) rfl rfl ?_ okM
 unfold X7o at h
 revert h
 exact fun e=>oj e▸X9 [] (k:=fi)⟩
instance X05a:PCs Tryz.prog 188 (∀ (a0:(List X05)) (a1:Int) (r:Bool),Xdf a0 a1=some r->X0g Tryz.prog 188 [(Lf (a0.map X4)),(aI .i64 a1)] (aB r)):=⟨fun a0 a1 r h=>by
 refine X0g.sym Xa X0da (nt:=67) rfl rfl ?_ okM
 unfold Xdf at h
 revert h
 refine bI fun e1 h2=>?_
 try have qh2:=Xn h2
 refine bI fun e3 h4=>?_
 try have qh4:=Xn h4
 refine bI fun v5 h6=>bI fun e7 h8=>?_
 try have qh8:=Xn h8
 exact bI fun v9 h10=>brI (fun h11=>fun e=>oj e▸X9 [.el (X4 e1),.el (X4 e3),.pure _ (aB v5),.el (X4 e7),.pure _ (aB v9),Bt] (k:=fi)) fun h11=>brI (fun h12=>fun e=>oj e▸X9 [.el (X4 e1),.el (X4 e3),.pure _ (aB v5),.el (X4 e7),.pure _ (aB v9),Bf,Bt] (k:=fi)) fun h12=>brI (fun h13=>fun e=>oj e▸X9 [.el (X4 e1),.el (X4 e3),.pure _ (aB v5),.el (X4 e7),.pure _ (aB v9),Bf,Bf,Bt] (k:=fi)) fun h13=>brI (fun h14=>fun e=>oj e▸X9 [.el (X4 e1),.el (X4 e3),.pure _ (aB v5),.el (X4 e7),.pure _ (aB v9),Bf,Bf,Bf,Bt] (k:=fi)) fun h14=>brI (fun h15=>fun e=>oj e▸X9 [.el (X4 e1),.el (X4 e3),.pure _ (aB v5),.el (X4 e7),.pure _ (aB v9),Bf,Bf,Bf,Bf,Bt] (k:=fi)) fun h15=>fun e=>oj e▸X9 [.el (X4 e1),.el (X4 e3),.pure _ (aB v5),.el (X4 e7),.pure _ (aB v9),Bf,Bf,Bf,Bf,Bf] (k:=fi)⟩
theorem Xj9 {Q:X02->St->Mu->Prop} {μ:Mu} (X00:(List X05)) (hl:X00.length<=140737488355328):∀ (xs:List X05) (k:Nat) (hx:X00.drop k=xs) (o:X7c) (h:X4z X00 xs k  = some o)
  (C0:o=X7c.x0->X2 Tryz.prog 17 0 Q (.exit (.exit 0)) [] ⟨fr [(0,(Lf (X00.map X4)))],hp ([]),0⟩ μ)
  (C1:∀ (X53:Int),o=X7c.x1 X53->X2 Tryz.prog 17 0 Q (.exit .ret) [] ⟨fr [(2,(aI .i64 X53))],hp ([]),0⟩ μ),
  X2 Tryz.prog 17 0 Q (.loop (X2v 0 (Xh Tryz.f154))) [] ⟨fr [(0,(Lf (X00.map X4))),(3,(aI .i64 (k:Int)))],hp ([]),0⟩ μ:=by
 intro xs
 induction xs with
 |nil =>
  intro k hx  o h C0 C1
  have hk:=drop_nil hx
  have hc:decide ((k:Int)<(X00.length:Int))=false:=Yf (by omega)
  rw[X4z] at h
  refine X2.round ?_
  revert h
  exact fun e=>X9 [.el (aI .i64 (X00.length:Int)),Bf] (k:=wkT [] (C0  (oj e).symm))
 |cons x xs ih =>
  intro k hx  o h C0 C1
  obtain⟨hk,hg,hx1⟩:=drop_cons hx
  have hc:decide ((k:Int)<(X00.length:Int))=true:=Yt (by omega)
  rw[X4z] at h
  refine X2.round ?_
  revert h
  refine bI fun v10 h11=>brI (fun h12=>fun e=>X9 [.el (aI .i64 (X00.length:Int)),Bt,.pure _ (aB v10),Bt] (k:=wkT [] (C1 _  (oj e).symm))) fun h12=>rnI [.el (aI .i64 (X00.length:Int)),Bt,.pure _ (aB v10),Bf] ?_
  intro h
  exact wkT [] (ih (k+1) hx1  o h C0 C1)
instance X044:PCs Tryz.prog 154 (∀ (a0:(List X05)) (r:Int),Xe0 a0=some r->X0g Tryz.prog 154 [(Lf (a0.map X4))] (aI .i64 r)):=⟨fun a0 r h=>by
 refine X0g.sym Xa X0do (nt:=17) rfl rfl ?_ okM
 unfold Xe0 at h
 revert h
 refine bI fun u1 h2=>?_
 have qh2:=X08 h2
 refine bI fun o13 h14=>rnI [] ?_
 intro h
 refine wkT [] (X2.cut (Xj9 a0 qh2 a0 0 (by simp) _ h14 ?_ ?_))
 ·
  intro eo13;subst eo13
  refine X2.glue ?_
  try dsimp only at h
  revert h
  exact fun e=>oj e▸X9 [.el (aI .i64 (a0.length:Int))] (k:=fi)
 intro X53 eo13;subst eo13
 refine X2.glue ?_
 try dsimp only at h
 revert h
 exact fun e=>oj e▸X9 [] (k:=fi)⟩
instance X08n:PCs Tryz.prog 129 (∀ (a0:(List X05)) (r:Bool×Int×Int),Xgc a0=some r->X0g Tryz.prog 129 [(Lf (a0.map X4))] (AV.tup [(aB r.1),(aI .i64 r.2.1),(aI .i64 r.2.2)])):=⟨fun a0 r h=>by
 refine X0g.sym Xa X0e5 (nt:=29) rfl rfl ?_ okM
 unfold Xgc at h
 revert h
 refine bI fun v1 h2=>brI (fun h3=>fun e=>oj e▸X9 [.pure _ (aI .i64 v1),Bt,.pure _ (aI .i64 v1)] (k:=fi)) fun h3=>bI fun v4 h5=>brI (fun h6=>fun e=>oj e▸X9 [.pure _ (aI .i64 v1),Bf,.pure _ (aI .i64 v4),.el (aI .i64 (a0.length:Int)),Bt] (k:=fi)) fun h6=>bI fun e7 h8=>?_
 try have qh8:=Xn h8
 exact bI fun v9 h10=>fun e=>oj e▸X9 [.pure _ (aI .i64 v1),Bf,.pure _ (aI .i64 v4),.el (aI .i64 (a0.length:Int)),Bf,.el (aI .i64 (a0.length:Int)),.wrap,.el (X4 e7),.pure _ (aB v9),.el (aI .i64 (a0.length:Int)),.wrap] (k:=fi)⟩
instance X05b:PCs Tryz.prog 95 (∀ (a0:(List X05)) (a1:Bool) (r:Int×Int),X9f a0 a1=some r->X0g Tryz.prog 95 [(Lf (a0.map X4)),(aB a1)] (AV.tup [(aI .i64 r.1),(aI .i64 r.2)])):=⟨fun a0 a1 r h=>by
 refine X0g.sym Xa fn95 (nt:=25) rfl rfl ?_ okM
 unfold X9f at h
 revert h
 exact bI fun v1 h2=>brI (fun h3=>fun e=>oj e▸X9 [.pure _ (AV.tup [(aB v1.1),(aI .i64 v1.2.1),(aI .i64 v1.2.2)]),Bt] (k:=fi)) fun h3=>fun e=>oj e▸X9 [.pure _ (AV.tup [(aB v1.1),(aI .i64 v1.2.1),(aI .i64 v1.2.2)]),Bf] (k:=fi)⟩
instance X040:PCs Tryz.prog 57 (∀ (a0:Xu) (r:Int×Int),Xbm a0=some r->X0g Tryz.prog 57 [(Xm false a0)] (AV.tup [(aI .i64 r.1),(aI .i64 r.2)])):=⟨fun a0 r h=>by
 refine X0g.sym Xa fn57 (nt:=46) rfl rfl ?_ okM
 unfold Xbm at h
 revert h
 refine brI (fun h1=>?_) fun h1=>?_
 ·
  refine bI fun v2 h3=>brI (fun h4=>?_) fun h4=>?_
  ·
   refine bI fun e5 h6=>?_
   try have qh6:=Xn h6
   exact fun e=>oj e▸X9 [.el (aI .i64 (a0.Arg.length:Int)),Bt,.pure _ (AV.tup [(aI .i64 v2.1),(aI .i64 v2.2)]),Bt,.el (X4 e5)] (k:=fi)
  refine rnI [.el (aI .i64 (a0.Arg.length:Int)),Bt,.pure _ (AV.tup [(aI .i64 v2.1),(aI .i64 v2.2)]),Bf,.el (aI .i64 (a0.Where.length:Int))] ?_
  refine brI (fun h7=>?_) fun h7=>fun e=>oj e▸X9 [Bf] (k:=fi)
  refine bI fun v8 h9=>brI (fun h10=>?_) fun h10=>fun e=>oj e▸X9 [Bt,.pure _ (AV.tup [(aI .i64 v8.1),(aI .i64 v8.2)]),Bf] (k:=fi)
  refine bI fun e11 h12=>?_
  try have qh12:=Xn h12
  exact fun e=>oj e▸X9 [Bt,.pure _ (AV.tup [(aI .i64 v8.1),(aI .i64 v8.2)]),Bt,.el (X4 e11)] (k:=fi)
 refine brI (fun h13=>?_) fun h13=>fun e=>oj e▸X9 [.el (aI .i64 (a0.Arg.length:Int)),Bf,.el (aI .i64 (a0.Where.length:Int)),Bf] (k:=fi)
 refine bI fun v14 h15=>rnI [.el (aI .i64 (a0.Arg.length:Int)),Bf,.el (aI .i64 (a0.Where.length:Int)),Bt,.pure _ (AV.tup [(aI .i64 v14.1),(aI .i64 v14.2)])] ?_
 refine brI (fun h16=>?_) fun h16=>fun e=>oj e▸X9 [Bf] (k:=fi)
 refine bI fun e17 h18=>?_
 try have qh18:=Xn h18
 exact fun e=>oj e▸X9 [Bt,.el (X4 e17)] (k:=fi)⟩
instance X041:PCs Tryz.prog 28 (∀ (a0:Xu) (r:Int×Int),Xbn a0=some r->X0g Tryz.prog 28 [(Xm false a0)] (AV.tup [(aI .i64 r.1),(aI .i64 r.2)])):=⟨fun a0 r h=>by
 refine X0g.sym Xa fn28 (nt:=13) rfl rfl ?_ okM
 unfold Xbn at h
 revert h
 exact bI fun v1 h2=>brI (fun h3=>fun e=>oj e▸X9 [.pure _ (aI .i64 v1),Bt,.pure _ (aI .i64 v1)] (k:=fi)) fun h3=>bI fun v4 h5=>fun e=>oj e▸X9 [.pure _ (aI .i64 v1),Bf,.pure _ (AV.tup [(aI .i64 v4.1),(aI .i64 v4.2)])] (k:=fi)⟩
instance X03z:PCs Tryz.prog 58 (∀ (a0:Int) (a1:Int) (r:Int),X5i a0 a1=some r->X0g Tryz.prog 58 [(aI .i64 a0),(aI .i64 a1)] (aI .i64 r)):=⟨fun a0 a1 r h=>by
 refine X0g.sym Xa fn58 (nt:=17) rfl rfl ?_ okM
 unfold X5i at h
 revert h
 exact brI (fun h1=>fun e=>oj e▸X9 [Bt] (k:=fi)) fun h1=>brI (fun h2=>fun e=>oj e▸X9 [Bf,Bt] (k:=fi)) fun h2=>fun e=>oj e▸X9 [Bf,Bf] (k:=fi)⟩
instance X03w:PCs Tryz.prog 34 (∀ (a0:Xk) (r:Bool),Xbk a0=some r->X0g Tryz.prog 34 [(Xd a0)] (aB r)):=⟨fun a0 r h=>by
 refine X0g.sym Xa fn34 (nt:=30) rfl rfl ?_ okM
 unfold Xbk at h
 revert h
 refine brI (fun h1=>?_) fun h1=>?_
 ·
  refine bI fun j6_2 h11=>rnI [Bt,.stop 2] ?_
  intro h
  refine X2.join (s':=⟨fr [(2,(aB j6_2))],hp ([]),0⟩) ?_ (fun J=>X2.cut ?_)
  ·
   revert h
   exact fun e=>oj e▸X9 [] (k:=fi)
  clear h;revert h11
  refine brI (fun h7=>?_) fun h7=>?_
  ·
   refine brI (fun h8=>?_) fun h8=>?_
   ·
    intro h
    obtain rfl:=oj h
    exact X9 [.go true,.go true,.go true,.go true,.go false,.go false,.go false,.go false,.go true] (k:=wkT [] (X2.glue J))
   refine bI fun v9 h10=>?_
   intro h
   obtain rfl:=oj h
   exact X9 [.go true,.go true,.go true,.go true,.go true,.go true,.go true,.pure _ (aI .i64 v9),.go true,.go true] (k:=wkT [] (X2.glue J))
  intro h
  obtain rfl:=oj h
  exact X9 [.go false,.go false,.go false,.go false,.go false,.go false,.go false,.go false,.go false] (k:=wkT [] (X2.glue J))
 refine bI fun X09q h19=>rnI [Bf,.stop 3] ?_
 intro h
 refine X2.join (s':=⟨fr [(2,(aB X09q))],hp ([]),0⟩) ?_ (fun J=>X2.cut ?_)
 ·
  revert h
  exact fun e=>oj e▸X9 [] (k:=fi)
 clear h;revert h19
 refine brI (fun h16=>?_) fun h16=>?_
 ·
  refine bI fun v17 h18=>?_
  intro h
  obtain rfl:=oj h
  exact X9 [.go true,.go true,.go true,.go true,.pure _ (aI .i64 v17),.go true] (k:=wkT [] (X2.glue J))
 intro h
 obtain rfl:=oj h
 exact X9 [.go false,.go false,.go false,.go false,.go false] (k:=wkT [] (X2.glue J))⟩
theorem Xj7 {Q:X02->St->Mu->Prop} {μ:Mu} (X00:(List Xk)) (hl:X00.length<=140737488355328):∀ (xs:List Xk) (k:Nat) (hx:X00.drop k=xs) (o:X7b) (h:X4y X00 xs k  = some o)
  (C0:o=X7b.x0->X2 Tryz.prog 19 0 Q (.exit (.exit 0)) [] ⟨fr [],hp ([]),0⟩ μ)
  (C1:o=X7b.x1->X2 Tryz.prog 19 0 Q (.exit .ret) [] ⟨fr [(2,(aI .i64 8))],hp ([]),0⟩ μ),
  X2 Tryz.prog 19 0 Q (.loop (X2v 0 (Xh Tryz.f72))) [] ⟨fr [(0,(Lf (X00.map Xd))),(3,(aI .i64 (k:Int)))],hp ([]),0⟩ μ:=by
 intro xs
 induction xs with
 |nil =>
  intro k hx  o h C0 C1
  have hk:=drop_nil hx
  have hc:decide ((k:Int)<(X00.length:Int))=false:=Yf (by omega)
  rw[X4y] at h
  refine X2.round ?_
  revert h
  exact fun e=>X9 [.el (aI .i64 (X00.length:Int)),Bf] (k:=wkT [] (C0  (oj e).symm))
 |cons x xs ih =>
  intro k hx  o h C0 C1
  obtain⟨hk,hg,hx1⟩:=drop_cons hx
  have hc:decide ((k:Int)<(X00.length:Int))=true:=Yt (by omega)
  rw[X4y] at h
  refine X2.round ?_
  revert h
  refine bI fun v11 h12=>brI (fun h13=>fun e=>X9 [.el (aI .i64 (X00.length:Int)),Bt,.el (Xd x),.pure _ (aB v11),Bt] (k:=wkT [] (C1  (oj e).symm))) fun h13=>rnI [.el (aI .i64 (X00.length:Int)),Bt,.el (Xd x),.pure _ (aB v11),Bf] ?_
  intro h
  exact wkT [] (ih (k+1) hx1  o h C0 C1)
instance X03x:PCs Tryz.prog 72 (∀ (a0:(List Xk)) (r:Int),Xbl a0=some r->X0g Tryz.prog 72 [(Lf (a0.map Xd))] (aI .i64 r)):=⟨fun a0 r h=>by
 refine X0g.sym Xa fn72 (nt:=19) rfl rfl ?_ okM
 unfold Xbl at h
 revert h
 refine brI (fun h1=>fun e=>oj e▸X9 [.el (aI .i64 (a0.length:Int)),Bt] (k:=fi)) fun h1=>bI fun u2 h3=>?_
 have qh3:=X08 h3
 refine bI fun o14 h15=>rnI [.el (aI .i64 (a0.length:Int)),Bf] ?_
 intro h
 refine wkT [] (X2.cut (Xj7 a0 qh3 a0 0 (by simp) _ h15 ?_ ?_))
 ·
  intro eo14;subst eo14
  refine X2.glue ?_
  try dsimp only at h
  revert h
  exact fun e=>oj e▸X9 [] (k:=fi)
 intro eo14;subst eo14
 refine X2.glue ?_
 try dsimp only at h
 revert h
 exact fun e=>oj e▸X9 [] (k:=fi)⟩
theorem Xj5 {Q:X02->St->Mu->Prop} {μ:Mu} (X00:(List (List Xk))) (hl:X00.length<=140737488355328):∀ (xs:List (List Xk)) (k:Nat) (hx:X00.drop k=xs) (o:X7a) (h:X4x X00 xs k  = some o)
  (C0:o=X7a.x0->X2 Tryz.prog 19 0 Q (.exit (.exit 0)) [] ⟨fr [],hp ([]),0⟩ μ)
  (C1:∀ (X53:Int),o=X7a.x1 X53->X2 Tryz.prog 19 0 Q (.exit .ret) [] ⟨fr [(2,(aI .i64 X53))],hp ([]),0⟩ μ),
  X2 Tryz.prog 19 0 Q (.loop (X2v 0 (Xh Tryz.f46))) [] ⟨fr [(0,(Lf (List.map (X56 false Xd) X00))),(3,(aI .i64 (k:Int)))],hp ([]),0⟩ μ:=by
 intro xs
 induction xs with
 |nil =>
  intro k hx  o h C0 C1
  have hk:=drop_nil hx
  have hc:decide ((k:Int)<(X00.length:Int))=false:=Yf (by omega)
  rw[X4x] at h
  refine X2.round ?_
  revert h
  exact fun e=>X9 [.el (aI .i64 (X00.length:Int)),Bf] (k:=wkT [] (C0  (oj e).symm))
 |cons x xs ih =>
  intro k hx  o h C0 C1
  obtain⟨hk,hg,hx1⟩:=drop_cons hx
  have hc:decide ((k:Int)<(X00.length:Int))=true:=Yt (by omega)
  rw[X4x] at h
  refine X2.round ?_
  revert h
  refine bI fun v10 h11=>brI (fun h12=>fun e=>X9 [.el (aI .i64 (X00.length:Int)),Bt,.el (X56 false Xd x),.pure _ (aI .i64 v10),Bt] (k:=wkT [] (C1 _  (oj e).symm))) fun h12=>rnI [.el (aI .i64 (X00.length:Int)),Bt,.el (X56 false Xd x),.pure _ (aI .i64 v10),Bf] ?_
  intro h
  exact wkT [] (ih (k+1) hx1  o h C0 C1)
instance X03t:PCs Tryz.prog 46 (∀ (a0:(List (List Xk))) (r:Int),Xbb a0=some r->X0g Tryz.prog 46 [(Lf (List.map (X56 false Xd) a0))] (aI .i64 r)):=⟨fun a0 r h=>by
 refine X0g.sym Xa fn46 (nt:=19) rfl rfl ?_ okM
 unfold Xbb at h
 revert h
 refine bI fun u1 h2=>?_
 have qh2:=X08 h2
 refine bI fun o13 h14=>rnI [] ?_
 intro h
 refine wkT [] (X2.cut (Xj5 a0 qh2 a0 0 (by simp) _ h14 ?_ ?_))
 ·
  intro eo13;subst eo13
  refine X2.glue ?_
  try dsimp only at h
  revert h
  exact fun e=>oj e▸X9 [] (k:=fi)
 intro X53 eo13;subst eo13
 refine X2.glue ?_
 try dsimp only at h
 revert h
 exact fun e=>oj e▸X9 [] (k:=fi)⟩
instance X03v:PCs Tryz.prog 53 (∀ (a0:Xu) (a1:(List (List Xk))) (r:Int),Xbj a0 a1=some r->X0g Tryz.prog 53 [(Xm false a0),(Lf (List.map (X56 false Xd) a1))] (aI .i64 r)):=⟨fun a0 a1 r h=>by
 refine X0g.sym Xa fn53 (nt:=23) rfl rfl ?_ okM
 unfold Xbj at h
 revert h
 exact bI fun v1 h2=>brI (fun h3=>fun e=>oj e▸X9 [.pure _ (AV.tup [(aI .i64 v1.1),(aI .i64 v1.2)]),Bt] (k:=fi)) fun h3=>brI (fun h4=>fun e=>oj e▸X9 [.pure _ (AV.tup [(aI .i64 v1.1),(aI .i64 v1.2)]),Bf,.el (aI .i64 (a1.length:Int)),.el (aI .i64 (a0.Sources.length:Int)),Bt] (k:=fi)) fun h4=>bI fun v5 h6=>fun e=>oj e▸X9 [.pure _ (AV.tup [(aI .i64 v1.1),(aI .i64 v1.2)]),Bf,.el (aI .i64 (a1.length:Int)),.el (aI .i64 (a0.Sources.length:Int)),Bf,.pure _ (aI .i64 v5)] (k:=fi)⟩
theorem Xni {Q:X02->St->Mu->Prop} {μ:Mu} (X00:(List Xk)) (hl:X00.length<=140737488355328):∀ (xs:List Xk) (k:Nat) (hx:X00.drop k=xs) (Xgz:Int) (o:Xdw) (h:X7m X00 xs k Xgz=some o)
  (C0:∀ (Xai:Int),o=Xdw.x0 Xai->X2 Tryz.prog 31 0 Q (.exit (.exit 0)) [] ⟨fr [(3,(aI .i64 Xai))],hp ([]),0⟩ μ),
  X2 Tryz.prog 31 0 Q (.loop (X2v 0 (Xh Tryz.f33))) [] ⟨fr [(0,(Lf (X00.map Xd))),(3,(aI .i64 Xgz)),(4,(aI .i64 (k:Int)))],hp ([]),0⟩ μ:=by
 intro xs
 induction xs with
 |nil =>
  intro k hx Xgz o h C0
  have hk:=drop_nil hx
  have hc:decide ((k:Int)<(X00.length:Int))=false:=Yf (by omega)
  rw[X7m] at h
  refine X2.round ?_
  revert h
  exact fun e=>X9 [.el (aI .i64 (X00.length:Int)),Bf] (k:=wkT [] (C0 _  (oj e).symm))
 |cons x xs ih =>
  intro k hx Xgz o h C0
  obtain⟨hk,hg,hx1⟩:=drop_cons hx
  have hc:decide ((k:Int)<(X00.length:Int))=true:=Yt (by omega)
  rw[X7m] at h
  refine X2.round ?_
  revert h
  refine bI fun X01y h23=>rnI [.el (aI .i64 (X00.length:Int)),Bt,.stop 5] ?_
  intro h
  refine X2.join (s':=⟨fr [(0,(Lf (X00.map Xd))),(3,(aI .i64 Xgz)),(4,(aI .i64 (k:Int))),(24,(aB X01y))],hp ([]),0⟩) ?_ (fun J=>X2.cut ?_)
  ·
   revert h
   refine bI fun X09m h27=>rnI [] ?_
   intro h
   refine X2.join (s':=⟨fr [(0,(Lf (X00.map Xd))),(3,(aI .i64 X09m)),(4,(aI .i64 (k:Int)))],hp ([]),0⟩) ?_ (fun J=>X2.cut ?_)
   ·
    exact X9 [] (k:=wkT [] (ih (k+1) hx1 _ o h C0))
   clear h;revert h27
   refine brI (fun h26=>?_) fun h26=>?_
   ·
    intro h
    obtain rfl:=oj h
    exact X9 [Bt,.el (Xd x)] (k:=wkT [] (X2.glue J))
   intro h
   obtain rfl:=oj h
   exact X9 [Bf] (k:=wkT [] (X2.glue J))
  clear h;revert h23
  refine brI (fun h22=>?_) fun h22=>?_
  ·
   intro h
   obtain rfl:=oj h
   exact X9 [.el (Xd x),.go true,.go true,.go true,.el (Xd x),.go true,.go true,.go true,.go true] (k:=wkT [] (X2.glue J))
  intro h
  obtain rfl:=oj h
  exact X9 [.el (Xd x),.go false,.go false,.go false,.go false,.go false,.go false,.go false] (k:=wkT [] (X2.glue J))
instance X08l:PCs Tryz.prog 33 (∀ (a0:(List Xk)) (r:Int),Xdx a0=some r->X0g Tryz.prog 33 [(Lf (a0.map Xd))] (aI .i64 r)):=⟨fun a0 r h=>by
 refine X0g.sym Xa fn33 (nt:=31) rfl rfl ?_ okM
 unfold Xdx at h
 revert h
 refine bI fun u1 h2=>?_
 have qh2:=X08 h2
 refine bI fun o28 h29=>rnI [] ?_
 intro h
 refine wkT [] (X2.cut (Xni a0 qh2 a0 0 (by simp) _ _ h29 ?_))
 intro Xai eo28;subst eo28
 refine X2.glue ?_
 try dsimp only at h
 revert h
 exact fun e=>oj e▸X9 [] (k:=fi)⟩
end Go.Av.Tryz