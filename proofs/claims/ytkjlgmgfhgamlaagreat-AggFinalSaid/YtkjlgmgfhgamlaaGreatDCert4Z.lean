/- Printed by decomp.py: that the program computes the functions. -/
import Derived.Test.YtkjlgmgfhgamlaaGreatDCert3Z
set_option linter.all false

namespace Go.Av.Tryz
open Go.Proofs Go.D
set_option maxRecDepth 10000
set_option maxHeartbeats 40000000
instance Xva:PCs Tryz.prog 95 (∀ (a0:X0b) (r:Int×Int),X85 a0=some r->X0h Tryz.prog 95 [(X05 false a0)] (AV.tup [(aI .i64 r.1),(aI .i64 r.2)])):=⟨fun a0 r h=>by
 refine X0h.sym X8 fn95 (nt:=20) rfl rfl ?_ okM
 unfold X85 at h
 revert h
 refine bI fun v1 h2=>brI (fun h3=>fun e=>oj e▸Xb [.pure _ (aI .i64 v1),Bt] (k:=fi)) fun h3=>bI fun w22 h41=>?_
 intro h
 obtain⟨Xy0,Xxz⟩:=w22
 try dsimp only at h
 refine X09 [.pure _ (aI .i64 v1),Bf] ?_
 refine X5.joinOp (s':=⟨fr [(17,(AV.tup [(aI .i64 Xy0),(aI .i64 Xxz)]))],hp ([]),0⟩) ?_ (fun J=>?_)
 ·
  revert h
  exact fun e=>oj e▸Xb [] (k:=fi)
 clear h;revert h41
 intro h
 refine X5.inline X8 X06g rfl rfl rfl rfl rfl trivial trivial rfl rfl ?_
 refine X09 [] ?_
 refine X5.round ?_
 revert h
 refine brI (fun h23=>?_) fun h23=>?_
 ·
  refine rnI [Bt,.el (AV.agg [(Lf (a0.Arg.map X9)),(AV.fn 133 [])]),.el (aI .i64 (a0.Arg.length:Int)),Bt] ?_
  intro h
  refine X5.round ?_
  revert h
  refine brI (fun h24=>?_) fun h24=>?_
  ·
   refine rnI [Bt,.el (AV.agg [(Lf (a0.Where.map X9)),(AV.fn 134 [])]),.el (aI .i64 (a0.Where.length:Int)),Bt] ?_
   intro h
   refine X5.round ?_
   simp only[Option.some.injEq,Prod.mk.injEq] at h
   obtain⟨rfl,rfl⟩:=h
   refine X09 [Bf] ?_
   refine X5.back (by intro id h;cases h) rfl ?_
   exact wkT [] (J)
  refine bI fun v25 h26=>rnI [Bt,.el (AV.agg [(Lf (a0.Where.map X9)),(AV.fn 134 [])]),.el (aI .i64 (a0.Where.length:Int)),Bf,.pure _ (AV.tup [(aI .i64 v25.1),(aI .i64 v25.2)])] ?_
  refine brI (fun h27=>?_) fun h27=>?_
  ·
   refine bI fun e28 h29=>?_
   try have qh29:=Xp h29
   intro h
   simp only[Option.some.injEq,Prod.mk.injEq] at h
   obtain⟨rfl,rfl⟩:=h
   refine X09 [Bt,.el (X9 e28)] ?_
   refine X5.back (by intro id h;cases h) rfl ?_
   exact wkT [] (J)
  refine rnI [Bf] ?_
  intro h
  refine X5.round ?_
  simp only[Option.some.injEq,Prod.mk.injEq] at h
  obtain⟨rfl,rfl⟩:=h
  refine X09 [Bf] ?_
  refine X5.back (by intro id h;cases h) rfl ?_
  exact wkT [] (J)
 refine bI fun v30 h31=>rnI [Bt,.el (AV.agg [(Lf (a0.Arg.map X9)),(AV.fn 133 [])]),.el (aI .i64 (a0.Arg.length:Int)),Bf,.pure _ (AV.tup [(aI .i64 v30.1),(aI .i64 v30.2)])] ?_
 refine brI (fun h32=>?_) fun h32=>?_
 ·
  refine bI fun e33 h34=>?_
  try have qh34:=Xp h34
  intro h
  simp only[Option.some.injEq,Prod.mk.injEq] at h
  obtain⟨rfl,rfl⟩:=h
  refine X09 [Bt,.el (X9 e33)] ?_
  refine X5.back (by intro id h;cases h) rfl ?_
  exact wkT [] (J)
 refine rnI [Bf] ?_
 intro h
 refine X5.round ?_
 revert h
 refine brI (fun h35=>?_) fun h35=>?_
 ·
  refine rnI [Bt,.el (AV.agg [(Lf (a0.Where.map X9)),(AV.fn 134 [])]),.el (aI .i64 (a0.Where.length:Int)),Bt] ?_
  intro h
  refine X5.round ?_
  simp only[Option.some.injEq,Prod.mk.injEq] at h
  obtain⟨rfl,rfl⟩:=h
  refine X09 [Bf] ?_
  refine X5.back (by intro id h;cases h) rfl ?_
  exact wkT [] (J)
 refine bI fun v36 h37=>rnI [Bt,.el (AV.agg [(Lf (a0.Where.map X9)),(AV.fn 134 [])]),.el (aI .i64 (a0.Where.length:Int)),Bf,.pure _ (AV.tup [(aI .i64 v36.1),(aI .i64 v36.2)])] ?_
 refine brI (fun h38=>?_) fun h38=>?_
 ·
  refine bI fun e39 h40=>?_
  try have qh40:=Xp h40
  intro h
  simp only[Option.some.injEq,Prod.mk.injEq] at h
  obtain⟨rfl,rfl⟩:=h
  refine X09 [Bt,.el (X9 e39)] ?_
  refine X5.back (by intro id h;cases h) rfl ?_
  exact wkT [] (J)
 refine rnI [Bf] ?_
 intro h
 refine X5.round ?_
 simp only[Option.some.injEq,Prod.mk.injEq] at h
 obtain⟨rfl,rfl⟩:=h
 refine X09 [Bf] ?_
 refine X5.back (by intro id h;cases h) rfl ?_
 exact wkT [] (J)⟩
instance Xvi:PCs Tryz.prog 60 (∀ (a0:X0b) (r:Bool),X86 a0=some r->X0h Tryz.prog 60 [(X05 false a0)] (aB r)):=⟨fun a0 r h=>by
 refine X0h.sym X8 fn60 (nt:=17) rfl rfl ?_ okM
 unfold X86 at h
 revert h
 exact bI fun v1 h2=>fun e=>oj e▸Xb [.pure _ (AV.tup [(aI .i64 v1.1),(aI .i64 v1.2)])] (k:=fi)⟩
instance Xvp:PCs Tryz.prog 96 (∀ (a0:Int) (r:Int×Int×Bool×Bool×Bool×Bool),X94 a0=some r->X0h Tryz.prog 96 [(aI .u8 a0)] (AV.tup [(aI .i64 r.1),(aI .i64 r.2.1),(aB r.2.2.1),(aB r.2.2.2.1),(aB r.2.2.2.2.1),(aB r.2.2.2.2.2)])):=⟨fun a0 r h=>by
 refine X0h.sym X8 fn96 (nt:=23) rfl rfl ?_ okM
 unfold X94 at h
 revert h
 refine bI fun w8 h16=>?_
 intro h
 obtain⟨j8_2,j8_3,j8_4,j8_5,j8_6,j8_7⟩:=w8
 try dsimp only at h
 refine X09 [] ?_
 refine X5.join (s':=⟨fr [(2,(aI .i64 j8_2)),(3,(aI .i64 j8_3)),(4,(aB j8_4)),(5,(aB j8_5)),(6,(aB j8_6)),(7,(aB j8_7))],hp ([]),0⟩) ?_ (fun J=>X5.cut ?_)
 ·
  revert h
  exact fun e=>oj e▸Xb [] (k:=fi)
 clear h;revert h16
 refine brI (fun h9=>?_) fun h9=>?_
 ·
  intro h
  obtain rfl:a0=1:=eq_of_beq h9
  simp only[Option.some.injEq,Prod.mk.injEq] at h
  obtain⟨rfl,rfl,rfl,rfl,rfl,rfl⟩:=h
  exact Xb [Bt] (k:=wkT [] (X5.glue J))
 refine brI (fun h10=>?_) fun h10=>?_
 ·
  intro h
  obtain rfl:a0=2:=eq_of_beq h10
  simp only[Option.some.injEq,Prod.mk.injEq] at h
  obtain⟨rfl,rfl,rfl,rfl,rfl,rfl⟩:=h
  exact Xb [Bf,Bt] (k:=wkT [] (X5.glue J))
 refine brI (fun h11=>?_) fun h11=>?_
 ·
  intro h
  obtain rfl:a0=3:=eq_of_beq h11
  simp only[Option.some.injEq,Prod.mk.injEq] at h
  obtain⟨rfl,rfl,rfl,rfl,rfl,rfl⟩:=h
  exact Xb [Bf,Bf,Bt] (k:=wkT [] (X5.glue J))
 refine brI (fun h12=>?_) fun h12=>?_
 ·
  intro h
  obtain rfl:a0=4:=eq_of_beq h12
  simp only[Option.some.injEq,Prod.mk.injEq] at h
  obtain⟨rfl,rfl,rfl,rfl,rfl,rfl⟩:=h
  exact Xb [Bf,Bf,Bf,Bt] (k:=wkT [] (X5.glue J))
 refine brI (fun h13=>?_) fun h13=>?_
 ·
  intro h
  simp only[Option.some.injEq,Prod.mk.injEq] at h
  obtain⟨rfl,rfl,rfl,rfl,rfl,rfl⟩:=h
  exact Xb [Bf,Bf,Bf,Bf,Bt] (k:=wkT [] (X5.glue J))
 refine brI (fun h14=>?_) fun h14=>?_
 ·
  intro h
  simp only[Option.some.injEq,Prod.mk.injEq] at h
  obtain⟨rfl,rfl,rfl,rfl,rfl,rfl⟩:=h
  exact Xb [Bf,Bf,Bf,Bf,Bf,Bt] (k:=wkT [] (X5.glue J))
 refine brI (fun h15=>?_) fun h15=>?_
 ·
  intro h
  simp only[Option.some.injEq,Prod.mk.injEq] at h
  obtain⟨rfl,rfl,rfl,rfl,rfl,rfl⟩:=h
  exact Xb [Bf,Bf,Bf,Bf,Bf,Bf,Bt] (k:=wkT [] (X5.glue J))
 intro h
 simp only[Option.some.injEq,Prod.mk.injEq] at h
 obtain⟨rfl,rfl,rfl,rfl,rfl,rfl⟩:=h
 exact Xb [Bf,Bf,Bf,Bf,Bf,Bf,Bf] (k:=wkT [] (X5.glue J))⟩
instance Xz0:PCs Tryz.prog 97 (∀ (a0:Bool) (a1:Int) (r:Int),X93 a0 a1=some r->X0h Tryz.prog 97 [(aB a0),(aI .i64 a1)] (aI .i64 r)):=⟨fun a0 a1 r h=>by
 refine X0h.sym X8 fn97 (nt:=7) rfl rfl ?_ okM
 unfold X93 at h
 revert h
 exact brI (fun h1=>fun e=>oj e▸Xb [Bt] (k:=fi)) fun h1=>fun e=>oj e▸Xb [Bf] (k:=fi)⟩
instance Xrg:PCs Tryz.prog 101 (∀ (a0:Int) (r:Bool),X46 a0=some r->X0h Tryz.prog 101 [(aI .i64 a0)] (aB r)):=⟨fun a0 r h=>by
 refine X0h.sym X8 X06x (nt:=9) rfl rfl ?_ okM
 unfold X46 at h
 revert h
 exact fun e=>oj e▸Xb [] (k:=fi)⟩
instance Xrh:PCs Tryz.prog 102 (∀ (a0:Int) (r:Bool),X4u a0=some r->X0h Tryz.prog 102 [(aI .i64 a0)] (aB r)):=⟨fun a0 r h=>by
 refine X0h.sym X8 X06w (nt:=9) rfl rfl ?_ okM
 unfold X4u at h
 revert h
 exact bI fun v1 h2=>fun e=>oj e▸Xb [.pure _ (aB v1)] (k:=fi)⟩
instance Xso:PCs Tryz.prog 62 (∀ (a0:Xj) (r:Int),X2s a0=some r->X0h Tryz.prog 62 [(X00 a0)] (aI .i64 r)):=⟨fun a0 r h=>by
 refine X0h.sym X8 fn62 (nt:=59) rfl rfl ?_ okM
 unfold X2s at h
 revert h
 refine bI fun X01h h4=>rnI [] ?_
 intro h
 refine X5.join (s':=⟨fr [(1,(AV.ptr 0 0 0)),(3,(aB false)),(4,(AV.ptr 1 0 0)),(10,(aI .u8 a0.Kind)),(11,(aB X01h))],hp ([(0,Ob [(X00 a0)] 10),(1,Ob [(X00 (Xj.mk a0.Kind (Xe.mk 0 0 0) 0 (X1g.mk 0 (X06.mk 0 0) (V2.mk 0 0))))] 10)]),2⟩) ?_ (fun J=>X5.cut ?_)
 ·
  revert h
  refine bI fun w12 h20=>?_
  intro h
  obtain⟨X05g,X03v⟩:=w12
  try dsimp only at h
  refine X09 [] ?_
  refine X5.join (s':=⟨fr [(1,(AV.ptr 0 0 0)),(3,(aB X05g)),(4,(AV.ptr 1 0 0))],hp ([(0,Ob [(X00 a0)] 10),(1,Ob [(X00 X03v)] 10)]),2⟩) ?_ (fun J=>X5.cut ?_)
  ·
   revert h
   exact brI (fun h21=>fun e=>oj e▸Xb [Bt] (k:=fi)) fun h21=>fun e=>oj e▸Xb [Bf] (k:=fi)
  clear h;revert h20
  refine brI (fun h13=>?_) fun h13=>?_
  ·
   refine bI fun v14 h15=>?_
   intro h
   simp only[Option.some.injEq,Prod.mk.injEq] at h
   obtain⟨rfl,rfl⟩:=h
   exact Xb [Bt,.pure _ (aB v14)] (k:=wkT [] (X5.glue J))
  refine brI (fun h16=>?_) fun h16=>?_
  ·
   refine bI fun v17 h18=>?_
   intro h
   simp only[Option.some.injEq,Prod.mk.injEq] at h
   obtain⟨rfl,rfl⟩:=h
   exact Xb [Bf,Bt,.pure _ (aB v17)] (k:=wkT [] (X5.glue J))
  refine brI (fun h19=>?_) fun h19=>?_
  ·
   intro h
   simp only[Option.some.injEq,Prod.mk.injEq] at h
   obtain⟨rfl,rfl⟩:=h
   exact Xb [Bf,Bf,Bt] (k:=wkT [] (X5.glue J))
  intro h
  simp only[Option.some.injEq,Prod.mk.injEq] at h
  obtain⟨rfl,rfl⟩:=h
  exact Xb [Bf,Bf,Bf] (k:=wkT [] (X5.glue J))
 clear h;revert h4
 refine brI (fun h3=>?_) fun h3=>?_
 ·
  intro h
  obtain rfl:=oj h
  exact Xb [Bt] (k:=wkT [] (X5.glue J))
 intro h
 obtain rfl:=oj h
 exact Xb [Bf] (k:=wkT [] (X5.glue J))⟩
theorem Xgo {Q:Xx->St->Mu->Prop} {μ:Mu} (Xkq:(List X0g)) (hl:Xkq.length<=140737488355328):∀ (xs:List X0g) (k:Nat) (hx:Xkq.drop k=xs) (o:X6u) (h:X4i Xkq xs k  = some o)
  (C0:o=X6u.x0->X5 Tryz.prog 26 0 Q (.exit (.exit 0)) [] ⟨fr [],hp ([]),0⟩ μ)
  (C1:o=X6u.x1->X5 Tryz.prog 26 0 Q (.exit .ret) [] ⟨fr [(2,(aB false))],hp ([]),0⟩ μ),
  X5 Tryz.prog 26 0 Q (.loop (X4c 0 (Xd Tryz.f98))) [] ⟨fr [(5,(Lf (Xkq.map Xs))),(6,(aI .i64 (Xkq.length:Int))),(7,(aI .i64 (k:Int)))],hp ([]),0⟩ μ:=by
 intro xs
 induction xs with
 |nil =>
  intro k hx  o h C0 C1
  have hk:=X1u hx
  have hc:decide ((k:Int)<(Xkq.length:Int))=false:=Yf (by omega)
  rw[X4i] at h
  refine X5.round ?_
  revert h
  exact fun e=>Xb [Bf] (k:=wkT [] (C0  (oj e).symm))
 |cons x xs ih =>
  intro k hx  o h C0 C1
  obtain⟨hk,hg,hx1⟩:=X13 hx
  have hc:decide ((k:Int)<(Xkq.length:Int))=true:=Yt (by omega)
  rw[X4i] at h
  refine X5.round ?_
  revert h
  refine bI fun Xud h35=>rnI [Bt,.el (Xs x),.stop 4] ?_
  intro h
  refine X5.join (s':=⟨fr [(5,(Lf (Xkq.map Xs))),(6,(aI .i64 (Xkq.length:Int))),(7,(aI .i64 (k:Int))),(24,(aB Xud))],hp ([]),0⟩) ?_ (fun J=>X5.cut ?_)
  ·
   revert h
   refine brI (fun h36=>fun e=>Xb [Bt] (k:=wkT [] (C1  (oj e).symm))) fun h36=>rnI [Bf] ?_
   intro h
   exact wkT [] (ih (k+1) hx1  o h C0 C1)
  clear h;revert h35
  refine brI (fun h31=>?_) fun h31=>?_
  ·
   intro h
   obtain rfl:=oj h
   exact Xb [.go false,.go false,.go false,.go false,.go false,.go false,.go false] (o:=by repeat' first|apply Ya|exact pcM|exact((X0 h31 rfl))|exact(X6 (X0 h31 rfl))|exact(X24 (X0 h31 rfl))|exact Xr) (k:=wkT [] (X5.glue J))
  refine brI (fun h32=>?_) fun h32=>?_
  ·
   intro h
   obtain rfl:=oj h
   exact Xb [.go true,.go true,.go true,.go false,.go false,.go false,.go false] (o:=by repeat' first|apply Ya|exact pcM|exact((X1 h31 h32))|exact(X6 (X1 h31 h32))|exact(X24 (X1 h31 h32))|exact Xr) (k:=wkT [] (X5.glue J))
  refine bI fun v33 h34=>?_
  intro h
  obtain rfl:=oj h
  exact Xb [.go true,.go true,.go true,.go true,.go true,.go true,.pure _ (aI .i64 v33),.go true] (o:=by repeat' first|apply Ya|exact pcM|exact((X1 h31 h32))|exact(X6 (X1 h31 h32))|exact(X1q (X1 h31 h32))|exact Xr) (k:=wkT [] (X5.glue J))
instance Xwx:PCs Tryz.prog 98 (∀ (a0:(List X0g)) (r:Bool),X8q a0=some r->X0h Tryz.prog 98 [(Lf (a0.map Xs))] (aB r)):=⟨fun a0 r h=>by
 refine X0h.sym X8 fn98 (nt:=26) rfl rfl ?_ okM
 unfold X8q at h
 revert h
 refine bI fun u1 h2=>?_
 have qh2:=X16 h2
 refine bI fun o37 h38=>rnI [.el (aI .i64 (a0.length:Int))] ?_
 intro h
 refine wkT [] (X5.cut (Xgo a0 qh2 a0 0 (by simp) _ h38 ?_ ?_))
 ·
  intro eo37;subst eo37
  refine X5.glue ?_
  try dsimp only at h
  revert h
  exact fun e=>oj e▸Xb [] (k:=fi)
 intro eo37;subst eo37
 refine X5.glue ?_
 try dsimp only at h
 revert h
 exact fun e=>oj e▸Xb [] (k:=fi)⟩
instance X3g:PCs Tryz.prog 68 (∀ (a0:X0q) (r:Int),X2k a0=some r->X0h Tryz.prog 68 [(X0l a0)] (aI .i64 r)):=⟨fun a0 r h=>by
 refine X0h.sym X8 fn68 (nt:=43) rfl rfl ?_ okM
 unfold X2k at h
 revert h
 refine bI fun j4_3 h8=>rnI [] ?_
 intro h
 refine X5.join (s':=⟨fr [(3,(aB j4_3))],hp ([]),0⟩) ?_ (fun J=>X5.cut ?_)
 ·
  revert h
  exact brI (fun h9=>fun e=>oj e▸Xb [Bt] (k:=fi)) fun h9=>fun e=>oj e▸Xb [Bf] (k:=fi)
 clear h;revert h8
 refine brI (fun h5=>?_) fun h5=>?_
 ·
  intro h
  obtain rfl:=oj h
  exact Xb [Bt] (k:=wkT [] (X5.glue J))
 refine brI (fun h6=>?_) fun h6=>?_
 ·
  intro h
  obtain rfl:=oj h
  exact Xb [Bf,Bt] (k:=wkT [] (X5.glue J))
 refine brI (fun h7=>?_) fun h7=>?_
 ·
  intro h
  obtain rfl:=oj h
  exact Xb [Bf,Bf,Bt] (k:=wkT [] (X5.glue J))
 intro h
 obtain rfl:=oj h
 exact Xb [Bf,Bf,Bf] (k:=wkT [] (X5.glue J))⟩
instance Xai:PCs Tryz.prog 115 (∀ (a0:X4) (r:Bool),X6d a0=some r->X0h Tryz.prog 115 [(X3 a0)] (aB r)):=⟨fun a0 r h=>by
 refine X0h.sym X8 X06t (nt:=46) rfl rfl ?_ okM
 unfold X6d at h
 revert h
 refine brI (fun h1=>fun e=>oj e▸Xb [Bt] (k:=fi)) fun h1=>bI fun j8_2 h15=>rnI [Bf,.stop 3] ?_
 intro h
 refine X5.join (s':=⟨fr [(2,(aB j8_2))],hp ([]),0⟩) ?_ (fun J=>X5.cut ?_)
 ·
  revert h
  exact fun e=>oj e▸Xb [] (k:=fi)
 clear h;revert h15
 refine bI fun v9 h10=>brI (fun h11=>?_) fun h11=>?_
 ·
  refine bI fun v12 h13=>brI (fun h14=>?_) fun h14=>?_
  ·
   intro h
   obtain rfl:=oj h
   exact Xb [.ix 0,.pure _ (aI .i64 v9),.go true,.go true,.ix 1,.go true,.go true,.pure _ (aI .i64 v12),.go true,.go true,.go true,.ix 0,.go true,.go true,.go true,.go true,.ix 1,.go true,.go true,.go true,.wrap,.go true] (o:=by repeat' first|apply Ya|exact pcM|exact((X0 h11 h14))|exact(X6 (X0 h11 h14))|exact(X24 (X0 h11 h14))|exact Xr) (k:=wkT [] (X5.glue J))
  intro h
  obtain rfl:=oj h
  exact Xb [.ix 0,.pure _ (aI .i64 v9),.go true,.go true,.ix 1,.go true,.go true,.pure _ (aI .i64 v12),.go true,.go false,.go false,.go false,.go false,.go false,.go false,.go false,.go false,.go false,.go false] (o:=by repeat' first|apply Ya|exact pcM|exact((X0 h11 h14))|exact(X6 (X0 h11 h14))|exact(X1q (X0 h11 h14))|exact Xr) (k:=wkT [] (X5.glue J))
 intro h
 obtain rfl:=oj h
 exact Xb [.ix 0,.pure _ (aI .i64 v9),.go false,.go false,.go false,.go false,.go false,.go false,.go false,.go false,.go false,.go false,.go false,.go false,.go false,.go false,.go false] (o:=by repeat' first|apply Ya|exact pcM|exact((X1 h11 rfl))|exact(X6 (X1 h11 rfl))|exact(X1q (X1 h11 rfl))|exact Xr) (k:=wkT [] (X5.glue J))⟩
instance Xqt:PCs Tryz.prog 167 (∀ (a0:Int) (r:Bool),X5g a0=some r->X0h Tryz.prog 167 [(aI .i64 a0)] (aB r)):=⟨fun a0 r h=>by
 refine X0h.sym X8 X060 (nt:=6) rfl rfl ?_ okM
 unfold X5g at h
 revert h
 exact fun e=>oj e▸Xb [] (k:=fi)⟩
instance Xno:PCs Tryz.prog 146 (∀ (a0:Int) (a1:Int) (r:Int),X2q a0 a1=some r->X0h Tryz.prog 146 [(aI .i64 a0),(aI .i64 a1)] (aI .i64 r)):=⟨fun a0 a1 r h=>by
 refine X0h.sym X8 X068 (nt:=20) rfl rfl ?_ okM
 unfold X2q at h
 revert h
 exact bI fun v1 h2=>bI fun v3 h4=>brI (fun h5=>brI (fun h6=>fun e=>oj e▸Xb [.pure _ (aB v1),.pure _ (aB v3),Bt,Bt] (k:=fi)) fun h6=>fun e=>oj e▸Xb [.pure _ (aB v1),.pure _ (aB v3),Bt,Bf] (k:=fi)) fun h5=>brI (fun h7=>fun e=>oj e▸Xb [.pure _ (aB v1),.pure _ (aB v3),Bf,Bt] (k:=fi)) fun h7=>brI (fun h8=>fun e=>oj e▸Xb [.pure _ (aB v1),.pure _ (aB v3),Bf,Bf,Bt] (k:=fi)) fun h8=>brI (fun h9=>fun e=>oj e▸Xb [.pure _ (aB v1),.pure _ (aB v3),Bf,Bf,Bf,Bt] (k:=fi)) fun h9=>fun e=>oj e▸Xb [.pure _ (aB v1),.pure _ (aB v3),Bf,Bf,Bf,Bf] (k:=fi)⟩
theorem Xh4 {Q:Xx->St->Mu->Prop} {μ:Mu} (Xwt:(List Int)) (hl:Xwt.length<=140737488355328):∀ (xs:List Int) (k:Nat) (hx:Xwt.drop k=xs) (o:X79) (h:X5m Xwt xs k  = some o)
  (C0:o=X79.x0->X5 Tryz.prog 18 0 Q (.exit (.exit 0)) [] ⟨fr [(3,(aI .i64 0))],hp ([]),0⟩ μ)
  (C1:∀ (Xas:Int),o=X79.x1 Xas->X5 Tryz.prog 18 0 Q (.exit .ret) [] ⟨fr [(2,(aI .i64 Xas))],hp ([]),0⟩ μ),
  X5 Tryz.prog 18 0 Q (.loop (X4c 0 (Xd Tryz.f145))) [] ⟨fr [(3,(aI .i64 0)),(6,(Lf (List.map (aI .i64) Xwt))),(7,(aI .i64 (Xwt.length:Int))),(8,(aI .i64 (k:Int)))],hp ([]),0⟩ μ:=by
 intro xs
 induction xs with
 |nil =>
  intro k hx  o h C0 C1
  have hk:=X1u hx
  have hc:decide ((k:Int)<(Xwt.length:Int))=false:=Yf (by omega)
  rw[X5m] at h
  refine X5.round ?_
  revert h
  exact fun e=>Xb [Bf] (k:=wkT [] (C0  (oj e).symm))
 |cons x xs ih =>
  intro k hx  o h C0 C1
  obtain⟨hk,hg,hx1⟩:=X13 hx
  have hc:decide ((k:Int)<(Xwt.length:Int))=true:=Yt (by omega)
  rw[X5m] at h
  refine X5.round ?_
  revert h
  refine brI (fun h6=>fun e=>Xb [Bt,.el (aI .i64 x),Bt] (k:=wkT [] (C1 _  (oj e).symm))) fun h6=>rnI [Bt,.el (aI .i64 x),Bf] ?_
  intro h
  exact wkT [] (ih (k+1) hx1  o h C0 C1)
instance Xyp:PCs Tryz.prog 145 (∀ (a0:(List Int)) (r:Int),Xdf a0=some r->X0h Tryz.prog 145 [(Lf (List.map (aI .i64) a0))] (aI .i64 r)):=⟨fun a0 r h=>by
 refine X0h.sym X8 X069 (nt:=18) rfl rfl ?_ okM
 unfold Xdf at h
 revert h
 refine bI fun u1 h2=>?_
 have qh2:=X16 h2
 refine bI fun o7 h8=>rnI [.el (aI .i64 (a0.length:Int))] ?_
 intro h
 refine wkT [] (X5.cut (Xh4 a0 qh2 a0 0 (by simp) _ h8 ?_ ?_))
 ·
  intro eo7;subst eo7
  refine X5.glue ?_
  try dsimp only at h
  revert h
  exact fun e=>oj e▸Xb [] (k:=fi)
 intro Xas eo7;subst eo7
 refine X5.glue ?_
 try dsimp only at h
 revert h
 exact fun e=>oj e▸Xb [] (k:=fi)⟩
instance Xvr:PCs Tryz.prog 116 (∀ (a0:X4) (a1:X4) (r:Int),X6e a0 a1=some r->X0h Tryz.prog 116 [(X3 a0),(X3 a1)] (aI .i64 r)):=⟨fun a0 a1 r h=>by
 refine X0h.sym X8 X06s (nt:=26) rfl rfl ?_ okM
 unfold X6e at h
 revert h
 exact bI fun v1 h2=>bI fun v3 h4=>bI fun v5 h6=>bI fun v7 h8=>fun e=>oj e▸Xb [.pure _ (aI .i64 v1),.pure _ (aI .i64 v3),.pure _ (aI .i64 v5),.pure _ (aI .i64 v7)] (k:=fi)⟩
theorem X7m {Q:Xx->St->Mu->Prop} {μ:Mu} (X0r:(List X4)) (hl:X0r.length<=140737488355328):∀ (xs:List X4) (k:Nat) (hx:X0r.drop k=xs) (o:X60) (h:X2r X0r xs k  = some o)
  (C0:o=X60.x0->X5 Tryz.prog 33 0 Q (.exit (.exit 0)) [] ⟨fr [],hp ([]),0⟩ μ)
  (C1:o=X60.x1->X5 Tryz.prog 33 0 Q (.exit .ret) [] ⟨fr [(2,(aI .i64 8))],hp ([]),0⟩ μ),
  X5 Tryz.prog 33 0 Q (.loop (X4c 0 (Xd Tryz.f77))) [] ⟨fr [(0,(Lf (X0r.map X3))),(8,(Lf (X0r.map X3))),(9,(aI .i64 (X0r.length:Int))),(10,(aI .i64 (k:Int)))],hp ([]),0⟩ μ:=by
 intro xs
 induction xs with
 |nil =>
  intro k hx  o h C0 C1
  have hk:=X1u hx
  have hc:decide ((k:Int)<(X0r.length:Int))=false:=Yf (by omega)
  rw[X2r] at h
  refine X5.round ?_
  revert h
  exact fun e=>Xb [Bf] (k:=wkT [] (C0  (oj e).symm))
 |cons x xs ih =>
  intro k hx  o h C0 C1
  obtain⟨hk,hg,hx1⟩:=X13 hx
  have hc:decide ((k:Int)<(X0r.length:Int))=true:=Yt (by omega)
  rw[X2r] at h
  refine X5.round ?_
  revert h
  refine bI fun Xu9 h60=>rnI [Bt,.el (X3 x),.stop 6] ?_
  intro h
  refine X5.join (s':=⟨fr [(0,(Lf (X0r.map X3))),(8,(Lf (X0r.map X3))),(9,(aI .i64 (X0r.length:Int))),(10,(aI .i64 (k:Int))),(31,(aB Xu9))],hp ([]),0⟩) ?_ (fun J=>X5.cut ?_)
  ·
   revert h
   refine brI (fun h61=>fun e=>Xb [Bt] (k:=wkT [] (C1  (oj e).symm))) fun h61=>rnI [Bf] ?_
   intro h
   exact wkT [] (ih (k+1) hx1  o h C0 C1)
  clear h;revert h60
  refine bI fun v52 h53=>brI (fun h54=>?_) fun h54=>?_
  ·
   intro h
   obtain rfl:=oj h
   exact Xb [.pure _ (aB v52),.go false,.go false,.go false,.no,.no,.no,.no,.no,.no,.no,.no,.go false,.go true] (k:=wkT [] (X5.glue J))
  refine brI (fun h55=>?_) fun h55=>?_
  ·
   refine bI fun e56 h57=>?_
   try have qh57:=Xp h57
   refine bI fun v58 h59=>?_
   intro h
   obtain rfl:=oj h
   exact Xb [.pure _ (aB v52),.go true,.go true,.go true,.go true,.go true,.go true,.wrap,.go true,.el (X3 e56),.go true,.go true,.go true,.pure _ (aI .i64 v58),.go true,.go true] (k:=wkT [] (X5.glue J))
  intro h
  obtain rfl:=oj h
  exact Xb [.pure _ (aB v52),.go true,.go true,.go true,.go false,.go false,.go false,.go false,.go false,.go false,.go false,.go false,.go true,.go false] (k:=wkT [] (X5.glue J))
instance Xaj:PCs Tryz.prog 77 (∀ (a0:(List X4)) (r:Int),X4j a0=some r->X0h Tryz.prog 77 [(Lf (a0.map X3))] (aI .i64 r)):=⟨fun a0 r h=>by
 refine X0h.sym X8 fn77 (nt:=33) rfl rfl ?_ okM
 unfold X4j at h
 revert h
 refine brI (fun h1=>fun e=>oj e▸Xb [.el (aI .i64 (a0.length:Int)),Bt] (k:=fi)) fun h1=>bI fun u2 h3=>?_
 have qh3:=X16 h3
 refine bI fun o62 h63=>rnI [.el (aI .i64 (a0.length:Int)),Bf,.el (aI .i64 (a0.length:Int))] ?_
 intro h
 refine wkT [] (X5.cut (X7m a0 qh3 a0 0 (by simp) _ h63 ?_ ?_))
 ·
  intro eo62;subst eo62
  refine X5.glue ?_
  try dsimp only at h
  revert h
  exact fun e=>oj e▸Xb [] (k:=fi)
 intro eo62;subst eo62
 refine X5.glue ?_
 try dsimp only at h
 revert h
 exact fun e=>oj e▸Xb [] (k:=fi)⟩
instance Xvq:PCs Tryz.prog 99 (∀ (a0:Int) (r:Bool),X95 a0=some r->X0h Tryz.prog 99 [(aI .i64 a0)] (aB r)):=⟨fun a0 r h=>by
 refine X0h.sym X8 fn99 (nt:=11) rfl rfl ?_ okM
 unfold X95 at h
 revert h
 refine bI fun j4_2 h8=>rnI [.stop 1] ?_
 intro h
 refine X5.join (s':=⟨fr [(2,(aB j4_2))],hp ([]),0⟩) ?_ (fun J=>X5.cut ?_)
 ·
  revert h
  exact fun e=>oj e▸Xb [] (k:=fi)
 clear h;revert h8
 refine brI (fun h5=>?_) fun h5=>?_
 ·
  intro h
  obtain rfl:=oj h
  exact Xb [.go false,.go false,.go false,.go false] (k:=wkT [] (X5.glue J))
 refine bI fun v6 h7=>?_
 intro h
 obtain rfl:=oj h
 exact Xb [.go true,.go true,.go true,.pure _ (aI .i64 v6),.go true] (k:=wkT [] (X5.glue J))⟩
instance Xxl:PCs Tryz.prog 135 (∀ (a0:X0c) (r:Xj×Int),Xd5 a0=some r->X0h Tryz.prog 135 [(X01 a0)] (AV.tup [(X00 r.1),(aI .i64 r.2)])):=⟨fun a0 r h=>by
 refine X0h.sym X8 X06d (nt:=34) rfl rfl ?_ okM
 unfold Xd5 at h
 revert h
 refine brI (fun h1=>?_) fun h1=>?_
 ·
  refine bI fun X011 h9=>rnI [Bt,.stop 2] ?_
  intro h
  refine X5.join (s':=⟨fr [(1,(AV.ptr 0 0 0)),(2,(AV.ptr 1 0 0)),(15,(aB X011))],hp ([(0,Ob [(X01 a0)] 5),(1,Ob [(X00 (Xj.mk 0 (Xe.mk 0 0 0) 0 (X1g.mk 0 (X06.mk 0 0) (V2.mk 0 0))))] 10)]),2⟩) ?_ (fun J=>X5.cut ?_)
  ·
   revert h
   exact brI (fun h10=>fun e=>oj e▸Xb [Bt] (k:=fi)) fun h10=>fun e=>oj e▸Xb [Bf] (k:=fi)
  clear h;revert h9
  refine bI fun v6 h7=>brI (fun h8=>?_) fun h8=>?_
  ·
   intro h
   obtain rfl:=oj h
   exact Xb [.pure _ (aB v6),.go false,.go false,.go false,.go false] (k:=wkT [] (X5.glue J))
  intro h
  obtain rfl:=oj h
  exact Xb [.pure _ (aB v6),.go true,.go true,.go true,.go true] (k:=wkT [] (X5.glue J))
 refine bI fun Xul h18=>rnI [Bf,.stop 5] ?_
 intro h
 refine X5.join (s':=⟨fr [(1,(AV.ptr 0 0 0)),(2,(AV.ptr 1 0 0)),(29,(aB Xul))],hp ([(0,Ob [(X01 a0)] 5),(1,Ob [(X00 (Xj.mk 0 (Xe.mk 0 0 0) 0 (X1g.mk 0 (X06.mk 0 0) (V2.mk 0 0))))] 10)]),2⟩) ?_ (fun J=>X5.cut ?_)
 ·
  revert h
  exact brI (fun h19=>fun e=>oj e▸Xb [Bt] (k:=fi)) fun h19=>fun e=>oj e▸Xb [Bf] (k:=fi)
 clear h;revert h18
 refine brI (fun h15=>?_) fun h15=>?_
 ·
  intro h
  obtain rfl:=oj h
  exact Xb [.go false,.go false,.go false,.go false,.go false] (k:=wkT [] (X5.glue J))
 refine bI fun v16 h17=>?_
 intro h
 obtain rfl:=oj h
 exact Xb [.go true,.go true,.go true,.go true,.pure _ (aB v16),.go true] (k:=wkT [] (X5.glue J))⟩
instance Xsn:PCs Tryz.prog 100 (∀ (a0:X0c) (r:Int),X71 a0=some r->X0h Tryz.prog 100 [(X01 a0)] (aI .i64 r)):=⟨fun a0 r h=>by
 refine X0h.sym X8 X06y (nt:=11) rfl rfl ?_ okM
 unfold X71 at h
 revert h
 exact bI fun v1 h2=>fun e=>oj e▸Xb [.pure _ (AV.tup [(X00 v1.1),(aI .i64 v1.2)])] (k:=fi)⟩
theorem Xgt {Q:Xx->St->Mu->Prop} {μ:Mu} (Xk:Xo) (Xcc:(List Int)) (hl:Xcc.length<=140737488355328):∀ (xs:List Int) (k:Nat) (hx:Xcc.drop k=xs) (X9z:Bool) (o:X9a) (h:X3o Xk Xcc xs k X9z=some o)
  (C0:∀ (Xf7:Bool),o=X9a.x0 Xf7->X5 Tryz.prog 202 0 Q (.exit (.exit 0)) [] ⟨fr [(1,(AV.ptr 0 0 0)),(11,(aB Xf7))],hp ([(0,Ob [(Xc false Xk)] 9)]),1⟩ μ),
  X5 Tryz.prog 202 0 Q (.loop (X4c 0 (Xd Tryz.f61))) [] ⟨fr [(1,(AV.ptr 0 0 0)),(11,(aB X9z)),(122,(Lf (List.map (aI .i64) Xcc))),(123,(aI .i64 (Xcc.length:Int))),(124,(aI .i64 (k:Int)))],hp ([(0,Ob [(Xc false Xk)] 9)]),1⟩ μ:=by
 intro xs
 induction xs with
 |nil =>
  intro k hx X9z o h C0
  have hk:=X1u hx
  have hc:decide ((k:Int)<(Xcc.length:Int))=false:=Yf (by omega)
  rw[X3o] at h
  refine X5.round ?_
  revert h
  exact fun e=>Xb [Bf] (k:=wkT [] (C0 _  (oj e).symm))
 |cons x xs ih =>
  intro k hx X9z o h C0
  obtain⟨hk,hg,hx1⟩:=X13 hx
  have hc:decide ((k:Int)<(Xcc.length:Int))=true:=Yt (by omega)
  rw[X3o] at h
  refine X5.round ?_
  revert h
  refine bI fun Xu7 h76=>rnI [Bt,.el (aI .i64 x),.stop 10] ?_
  intro h
  refine X5.join (s':=⟨fr [(1,(AV.ptr 0 0 0)),(11,(aB Xu7)),(122,(Lf (List.map (aI .i64) Xcc))),(123,(aI .i64 (Xcc.length:Int))),(124,(aI .i64 (k:Int)))],hp ([(0,Ob [(Xc false Xk)] 9)]),1⟩) ?_ (fun J=>X5.cut ?_)
  ·
   exact Xb [] (k:=wkT [] (ih (k+1) hx1 _ o h C0))
  clear h;revert h76
  refine brI (fun h73=>?_) fun h73=>?_
  ·
   refine bI fun v74 h75=>?_
   intro h
   obtain rfl:=oj h
   exact Xb [.go true,.go true,.pure _ (aB v74)] (k:=wkT [] (X5.glue J))
  intro h
  obtain rfl:=oj h
  exact Xb [.go false,.go false] (k:=wkT [] (X5.glue J))
theorem Xgs {Q:Xx->St->Mu->Prop} {μ:Mu} (X6b:Xo) (Xcb:(List X0c)) (hl:Xcb.length<=140737488355328):∀ (xs:List X0c) (k:Nat) (hx:Xcb.drop k=xs) (Xjf:Bool) (o:X99) (h:X3n X6b Xcb xs k Xjf=some o)
  (C0:∀ (Xf6:Bool),o=X99.x0 Xf6->X5 Tryz.prog 202 0 Q (.exit (.exit 2)) [] ⟨fr [(1,(AV.ptr 0 0 0)),(11,(aB Xf6))],hp ([(0,Ob [(Xc false X6b)] 9)]),1⟩ μ),
  X5 Tryz.prog 202 0 Q (.loop (X4c 1 (Xd Tryz.f61))) [] ⟨fr [(1,(AV.ptr 0 0 0)),(11,(aB Xjf)),(135,(Lf (Xcb.map X01))),(136,(aI .i64 (Xcb.length:Int))),(137,(aI .i64 (k:Int)))],hp ([(0,Ob [(Xc false X6b)] 9)]),1⟩ μ:=by
 intro xs
 induction xs with
 |nil =>
  intro k hx Xjf o h C0
  have hk:=X1u hx
  have hc:decide ((k:Int)<(Xcb.length:Int))=false:=Yf (by omega)
  rw[X3n] at h
  refine X5.round ?_
  revert h
  exact fun e=>Xb [Bf] (k:=wkT [] (C0 _  (oj e).symm))
 |cons x xs ih =>
  intro k hx Xjf o h C0
  obtain⟨hk,hg,hx1⟩:=X13 hx
  have hc:decide ((k:Int)<(Xcb.length:Int))=true:=Yt (by omega)
  rw[X3n] at h
  refine X5.round ?_
  revert h
  refine bI fun Xp7 h105=>rnI [Bt,.el (X01 x),.stop 15] ?_
  intro h
  refine X5.join (s':=⟨fr [(1,(AV.ptr 0 0 0)),(11,(aB Xp7)),(135,(Lf (Xcb.map X01))),(136,(aI .i64 (Xcb.length:Int))),(137,(aI .i64 (k:Int)))],hp ([(0,Ob [(Xc false X6b)] 9)]),1⟩) ?_ (fun J=>X5.cut ?_)
  ·
   exact Xb [] (k:=wkT [] (ih (k+1) hx1 _ o h C0))
  clear h;revert h105
  refine brI (fun h102=>?_) fun h102=>?_
  ·
   refine bI fun v103 h104=>?_
   intro h
   obtain rfl:=oj h
   exact Xb [.go true,.go true,.pure _ (aI .i64 v103),.go true] (k:=wkT [] (X5.glue J))
  intro h
  obtain rfl:=oj h
  exact Xb [.go false,.go false,.go false] (k:=wkT [] (X5.glue J))
theorem Xgr {Q:Xx->St->Mu->Prop} {μ:Mu} (Xc9:Xo) (Xca:(List X1g)) (hl:Xca.length<=140737488355328):∀ (xs:List X1g) (k:Nat) (hx:Xca.drop k=xs) (Xje:Bool) (o:X98) (h:X3m Xc9 Xca xs k Xje=some o)
  (C0:∀ (Xf5:Bool),o=X98.x0 Xf5->X5 Tryz.prog 202 0 Q (.exit (.exit 4)) [] ⟨fr [(1,(AV.ptr 0 0 0)),(11,(aB Xf5))],hp ([(0,Ob [(Xc false Xc9)] 9)]),1⟩ μ),
  X5 Tryz.prog 202 0 Q (.loop (X4c 2 (Xd Tryz.f61))) [] ⟨fr [(1,(AV.ptr 0 0 0)),(11,(aB Xje)),(149,(Lf (Xca.map Xw))),(150,(aI .i64 (Xca.length:Int))),(151,(aI .i64 (k:Int)))],hp ([(0,Ob [(Xc false Xc9)] 9)]),1⟩ μ:=by
 intro xs
 induction xs with
 |nil =>
  intro k hx Xje o h C0
  have hk:=X1u hx
  have hc:decide ((k:Int)<(Xca.length:Int))=false:=Yf (by omega)
  rw[X3m] at h
  refine X5.round ?_
  revert h
  exact fun e=>Xb [Bf] (k:=wkT [] (C0 _  (oj e).symm))
 |cons x xs ih =>
  intro k hx Xje o h C0
  obtain⟨hk,hg,hx1⟩:=X13 hx
  have hc:decide ((k:Int)<(Xca.length:Int))=true:=Yt (by omega)
  rw[X3m] at h
  refine X5.round ?_
  revert h
  refine bI fun Xp1 h134=>rnI [Bt,.el (Xw x),.stop 20] ?_
  intro h
  refine X5.join (s':=⟨fr [(1,(AV.ptr 0 0 0)),(11,(aB Xp1)),(149,(Lf (Xca.map Xw))),(150,(aI .i64 (Xca.length:Int))),(151,(aI .i64 (k:Int)))],hp ([(0,Ob [(Xc false Xc9)] 9)]),1⟩) ?_ (fun J=>X5.cut ?_)
  ·
   exact Xb [] (k:=wkT [] (ih (k+1) hx1 _ o h C0))
  clear h;revert h134
  refine brI (fun h131=>?_) fun h131=>?_
  ·
   refine bI fun v132 h133=>?_
   intro h
   obtain rfl:=oj h
   exact Xb [.go true,.go true,.go true,.pure _ (aI .i64 v132),.go true] (k:=wkT [] (X5.glue J))
  intro h
  obtain rfl:=oj h
  exact Xb [.go false,.go false,.go false,.go false] (k:=wkT [] (X5.glue J))
end Go.Av.Tryz