/- Printed by decomp.py: that the program computes the functions. -/
import Derived.Test.YtkjlgmgfhgamlaaGreatDCert3Z
set_option linter.all false

namespace Go.Av.Tryz
open Go.Proofs Go.D
set_option maxRecDepth 10000
set_option maxHeartbeats 40000000
instance Xu1:PCs Tryz.prog 95 (∀ (a0:X07) (r:Int×Int),X80 a0=some r->X0j Tryz.prog 95 [(Xy false a0)] (AV.tup [(aI .i64 r.1),(aI .i64 r.2)])):=⟨fun a0 r h=>by
 refine X0j.sym X5 fn95 (nt:=20) rfl rfl ?_ okM
 unfold X80 at h
 revert h
 refine bI fun v1 h2=>brI (fun h3=>fun e=>oj e▸Xa [.pure _ (aI .i64 v1),Bt] (k:=fi)) fun h3=>bI fun w22 h41=>?_
 intro h
 obtain⟨Xwb,Xwa⟩:=w22
 try dsimp only at h
 refine X09 [.pure _ (aI .i64 v1),Bf] ?_
 refine X3.joinOp (s':=⟨fr [(17,(AV.tup [(aI .i64 Xwb),(aI .i64 Xwa)]))],hp ([]),0⟩) ?_ (fun J=>?_)
 ·
  revert h
  exact fun e=>oj e▸Xa [] (k:=fi)
 clear h;revert h41
 intro h
 refine X3.inline X5 X03w rfl rfl rfl rfl rfl trivial trivial rfl rfl ?_
 refine X09 [] ?_
 refine X3.round ?_
 revert h
 refine brI (fun h23=>?_) fun h23=>?_
 ·
  refine rnI [Bt,.el (AV.agg [(Lf (a0.Arg.map X6)),(AV.fn 133 [])]),.el (aI .i64 (a0.Arg.length:Int)),Bt] ?_
  intro h
  refine X3.round ?_
  revert h
  refine brI (fun h24=>?_) fun h24=>?_
  ·
   refine rnI [Bt,.el (AV.agg [(Lf (a0.Where.map X6)),(AV.fn 134 [])]),.el (aI .i64 (a0.Where.length:Int)),Bt] ?_
   intro h
   refine X3.round ?_
   simp only[Option.some.injEq,Prod.mk.injEq] at h
   obtain⟨rfl,rfl⟩:=h
   refine X09 [Bf] ?_
   refine X3.back (by intro id h;cases h) rfl ?_
   exact wkT [] (J)
  refine bI fun v25 h26=>rnI [Bt,.el (AV.agg [(Lf (a0.Where.map X6)),(AV.fn 134 [])]),.el (aI .i64 (a0.Where.length:Int)),Bf,.pure _ (AV.tup [(aI .i64 v25.1),(aI .i64 v25.2)])] ?_
  refine brI (fun h27=>?_) fun h27=>?_
  ·
   refine bI fun e28 h29=>?_
   try have qh29:=Xq h29
   intro h
   simp only[Option.some.injEq,Prod.mk.injEq] at h
   obtain⟨rfl,rfl⟩:=h
   refine X09 [Bt,.el (X6 e28)] ?_
   refine X3.back (by intro id h;cases h) rfl ?_
   exact wkT [] (J)
  refine rnI [Bf] ?_
  intro h
  refine X3.round ?_
  simp only[Option.some.injEq,Prod.mk.injEq] at h
  obtain⟨rfl,rfl⟩:=h
  refine X09 [Bf] ?_
  refine X3.back (by intro id h;cases h) rfl ?_
  exact wkT [] (J)
 refine bI fun v30 h31=>rnI [Bt,.el (AV.agg [(Lf (a0.Arg.map X6)),(AV.fn 133 [])]),.el (aI .i64 (a0.Arg.length:Int)),Bf,.pure _ (AV.tup [(aI .i64 v30.1),(aI .i64 v30.2)])] ?_
 refine brI (fun h32=>?_) fun h32=>?_
 ·
  refine bI fun e33 h34=>?_
  try have qh34:=Xq h34
  intro h
  simp only[Option.some.injEq,Prod.mk.injEq] at h
  obtain⟨rfl,rfl⟩:=h
  refine X09 [Bt,.el (X6 e33)] ?_
  refine X3.back (by intro id h;cases h) rfl ?_
  exact wkT [] (J)
 refine rnI [Bf] ?_
 intro h
 refine X3.round ?_
 revert h
 refine brI (fun h35=>?_) fun h35=>?_
 ·
  refine rnI [Bt,.el (AV.agg [(Lf (a0.Where.map X6)),(AV.fn 134 [])]),.el (aI .i64 (a0.Where.length:Int)),Bt] ?_
  intro h
  refine X3.round ?_
  simp only[Option.some.injEq,Prod.mk.injEq] at h
  obtain⟨rfl,rfl⟩:=h
  refine X09 [Bf] ?_
  refine X3.back (by intro id h;cases h) rfl ?_
  exact wkT [] (J)
 refine bI fun v36 h37=>rnI [Bt,.el (AV.agg [(Lf (a0.Where.map X6)),(AV.fn 134 [])]),.el (aI .i64 (a0.Where.length:Int)),Bf,.pure _ (AV.tup [(aI .i64 v36.1),(aI .i64 v36.2)])] ?_
 refine brI (fun h38=>?_) fun h38=>?_
 ·
  refine bI fun e39 h40=>?_
  try have qh40:=Xq h40
  intro h
  simp only[Option.some.injEq,Prod.mk.injEq] at h
  obtain⟨rfl,rfl⟩:=h
  refine X09 [Bt,.el (X6 e39)] ?_
  refine X3.back (by intro id h;cases h) rfl ?_
  exact wkT [] (J)
 refine rnI [Bf] ?_
 intro h
 refine X3.round ?_
 simp only[Option.some.injEq,Prod.mk.injEq] at h
 obtain⟨rfl,rfl⟩:=h
 refine X09 [Bf] ?_
 refine X3.back (by intro id h;cases h) rfl ?_
 exact wkT [] (J)⟩
instance Xu9:PCs Tryz.prog 60 (∀ (a0:X07) (r:Bool),X6j a0=some r->X0j Tryz.prog 60 [(Xy false a0)] (aB r)):=⟨fun a0 r h=>by
 refine X0j.sym X5 fn60 (nt:=17) rfl rfl ?_ okM
 unfold X6j at h
 revert h
 exact bI fun v1 h2=>fun e=>oj e▸Xa [.pure _ (AV.tup [(aI .i64 v1.1),(aI .i64 v1.2)])] (k:=fi)⟩
instance Xuf:PCs Tryz.prog 96 (∀ (a0:Int) (r:Int×Int×Bool×Bool×Bool×Bool),X8x a0=some r->X0j Tryz.prog 96 [(aI .u8 a0)] (AV.tup [(aI .i64 r.1),(aI .i64 r.2.1),(aB r.2.2.1),(aB r.2.2.2.1),(aB r.2.2.2.2.1),(aB r.2.2.2.2.2)])):=⟨fun a0 r h=>by
 refine X0j.sym X5 fn96 (nt:=23) rfl rfl ?_ okM
 unfold X8x at h
 revert h
 refine bI fun w8 h16=>?_
 intro h
 obtain⟨j8_2,j8_3,j8_4,j8_5,j8_6,j8_7⟩:=w8
 try dsimp only at h
 refine X09 [] ?_
 refine X3.join (s':=⟨fr [(2,(aI .i64 j8_2)),(3,(aI .i64 j8_3)),(4,(aB j8_4)),(5,(aB j8_5)),(6,(aB j8_6)),(7,(aB j8_7))],hp ([]),0⟩) ?_ (fun J=>X3.cut ?_)
 ·
  revert h
  exact fun e=>oj e▸Xa [] (k:=fi)
 clear h;revert h16
 refine brI (fun h9=>?_) fun h9=>?_
 ·
  intro h
  obtain rfl:a0=1:=eq_of_beq h9
  simp only[Option.some.injEq,Prod.mk.injEq] at h
  obtain⟨rfl,rfl,rfl,rfl,rfl,rfl⟩:=h
  exact Xa [Bt] (k:=wkT [] (X3.glue J))
 refine brI (fun h10=>?_) fun h10=>?_
 ·
  intro h
  obtain rfl:a0=2:=eq_of_beq h10
  simp only[Option.some.injEq,Prod.mk.injEq] at h
  obtain⟨rfl,rfl,rfl,rfl,rfl,rfl⟩:=h
  exact Xa [Bf,Bt] (k:=wkT [] (X3.glue J))
 refine brI (fun h11=>?_) fun h11=>?_
 ·
  intro h
  obtain rfl:a0=3:=eq_of_beq h11
  simp only[Option.some.injEq,Prod.mk.injEq] at h
  obtain⟨rfl,rfl,rfl,rfl,rfl,rfl⟩:=h
  exact Xa [Bf,Bf,Bt] (k:=wkT [] (X3.glue J))
 refine brI (fun h12=>?_) fun h12=>?_
 ·
  intro h
  obtain rfl:a0=4:=eq_of_beq h12
  simp only[Option.some.injEq,Prod.mk.injEq] at h
  obtain⟨rfl,rfl,rfl,rfl,rfl,rfl⟩:=h
  exact Xa [Bf,Bf,Bf,Bt] (k:=wkT [] (X3.glue J))
 refine brI (fun h13=>?_) fun h13=>?_
 ·
  intro h
  simp only[Option.some.injEq,Prod.mk.injEq] at h
  obtain⟨rfl,rfl,rfl,rfl,rfl,rfl⟩:=h
  exact Xa [Bf,Bf,Bf,Bf,Bt] (k:=wkT [] (X3.glue J))
 refine brI (fun h14=>?_) fun h14=>?_
 ·
  intro h
  simp only[Option.some.injEq,Prod.mk.injEq] at h
  obtain⟨rfl,rfl,rfl,rfl,rfl,rfl⟩:=h
  exact Xa [Bf,Bf,Bf,Bf,Bf,Bt] (k:=wkT [] (X3.glue J))
 refine brI (fun h15=>?_) fun h15=>?_
 ·
  intro h
  simp only[Option.some.injEq,Prod.mk.injEq] at h
  obtain⟨rfl,rfl,rfl,rfl,rfl,rfl⟩:=h
  exact Xa [Bf,Bf,Bf,Bf,Bf,Bf,Bt] (k:=wkT [] (X3.glue J))
 intro h
 simp only[Option.some.injEq,Prod.mk.injEq] at h
 obtain⟨rfl,rfl,rfl,rfl,rfl,rfl⟩:=h
 exact Xa [Bf,Bf,Bf,Bf,Bf,Bf,Bf] (k:=wkT [] (X3.glue J))⟩
instance Xx5:PCs Tryz.prog 97 (∀ (a0:Bool) (a1:Int) (r:Int),X8w a0 a1=some r->X0j Tryz.prog 97 [(aB a0),(aI .i64 a1)] (aI .i64 r)):=⟨fun a0 a1 r h=>by
 refine X0j.sym X5 fn97 (nt:=7) rfl rfl ?_ okM
 unfold X8w at h
 revert h
 exact brI (fun h1=>fun e=>oj e▸Xa [Bt] (k:=fi)) fun h1=>fun e=>oj e▸Xa [Bf] (k:=fi)⟩
instance Xqd:PCs Tryz.prog 101 (∀ (a0:Int) (r:Bool),X43 a0=some r->X0j Tryz.prog 101 [(aI .i64 a0)] (aB r)):=⟨fun a0 r h=>by
 refine X0j.sym X5 X04d (nt:=9) rfl rfl ?_ okM
 unfold X43 at h
 revert h
 exact fun e=>oj e▸Xa [] (k:=fi)⟩
instance Xqe:PCs Tryz.prog 102 (∀ (a0:Int) (r:Bool),X4q a0=some r->X0j Tryz.prog 102 [(aI .i64 a0)] (aB r)):=⟨fun a0 r h=>by
 refine X0j.sym X5 X04c (nt:=9) rfl rfl ?_ okM
 unfold X4q at h
 revert h
 exact bI fun v1 h2=>fun e=>oj e▸Xa [.pure _ (aB v1)] (k:=fi)⟩
instance Xrg:PCs Tryz.prog 62 (∀ (a0:Xg) (r:Int),X2w a0=some r->X0j Tryz.prog 62 [(Xo a0)] (aI .i64 r)):=⟨fun a0 r h=>by
 refine X0j.sym X5 fn62 (nt:=59) rfl rfl ?_ okM
 unfold X2w at h
 revert h
 refine bI fun Xz9 h4=>rnI [] ?_
 intro h
 refine X3.join (s':=⟨fr [(1,(AV.ptr 0 0 0)),(3,(aB false)),(4,(AV.ptr 1 0 0)),(10,(aI .u8 a0.Kind)),(11,(aB Xz9))],hp ([(0,Ob [(Xo a0)] 10),(1,Ob [(Xo (Xg.mk a0.Kind (Xe.mk 0 0 0) 0 (X1n.mk 0 (Xz.mk 0 0) (V2.mk 0 0))))] 10)]),2⟩) ?_ (fun J=>X3.cut ?_)
 ·
  revert h
  refine bI fun w12 h20=>?_
  intro h
  obtain⟨X02w,X01e⟩:=w12
  try dsimp only at h
  refine X09 [] ?_
  refine X3.join (s':=⟨fr [(1,(AV.ptr 0 0 0)),(3,(aB X02w)),(4,(AV.ptr 1 0 0))],hp ([(0,Ob [(Xo a0)] 10),(1,Ob [(Xo X01e)] 10)]),2⟩) ?_ (fun J=>X3.cut ?_)
  ·
   revert h
   exact brI (fun h21=>fun e=>oj e▸Xa [Bt] (k:=fi)) fun h21=>fun e=>oj e▸Xa [Bf] (k:=fi)
  clear h;revert h20
  refine brI (fun h13=>?_) fun h13=>?_
  ·
   refine bI fun v14 h15=>?_
   intro h
   simp only[Option.some.injEq,Prod.mk.injEq] at h
   obtain⟨rfl,rfl⟩:=h
   exact Xa [Bt,.pure _ (aB v14)] (k:=wkT [] (X3.glue J))
  refine brI (fun h16=>?_) fun h16=>?_
  ·
   refine bI fun v17 h18=>?_
   intro h
   simp only[Option.some.injEq,Prod.mk.injEq] at h
   obtain⟨rfl,rfl⟩:=h
   exact Xa [Bf,Bt,.pure _ (aB v17)] (k:=wkT [] (X3.glue J))
  refine brI (fun h19=>?_) fun h19=>?_
  ·
   intro h
   simp only[Option.some.injEq,Prod.mk.injEq] at h
   obtain⟨rfl,rfl⟩:=h
   exact Xa [Bf,Bf,Bt] (k:=wkT [] (X3.glue J))
  intro h
  simp only[Option.some.injEq,Prod.mk.injEq] at h
  obtain⟨rfl,rfl⟩:=h
  exact Xa [Bf,Bf,Bf] (k:=wkT [] (X3.glue J))
 clear h;revert h4
 refine brI (fun h3=>?_) fun h3=>?_
 ·
  intro h
  obtain rfl:=oj h
  exact Xa [Bt] (k:=wkT [] (X3.glue J))
 intro h
 obtain rfl:=oj h
 exact Xa [Bf] (k:=wkT [] (X3.glue J))⟩
theorem Xfx {Q:Xv->St->Mu->Prop} {μ:Mu} (Xrn:(List X0g)) (hl:Xrn.length<=140737488355328):∀ (xs:List X0g) (k:Nat) (hx:Xrn.drop k=xs) (o:X6n) (h:X4f Xrn xs k  = some o)
  (C0:o=X6n.x0->X3 Tryz.prog 26 0 Q (.exit (.exit 0)) [] ⟨fr [],hp ([]),0⟩ μ)
  (C1:o=X6n.x1->X3 Tryz.prog 26 0 Q (.exit .ret) [] ⟨fr [(2,(aB false))],hp ([]),0⟩ μ),
  X3 Tryz.prog 26 0 Q (.loop (X4y 0 (Xb Tryz.f98))) [] ⟨fr [(5,(Lf (Xrn.map X01))),(6,(aI .i64 (Xrn.length:Int))),(7,(aI .i64 (k:Int)))],hp ([]),0⟩ μ:=by
 intro xs
 induction xs with
 |nil =>
  intro k hx  o h C0 C1
  have hk:=X1h hx
  have hc:decide ((k:Int)<(Xrn.length:Int))=false:=Yf (by omega)
  rw[X4f] at h
  refine X3.round ?_
  revert h
  exact fun e=>Xa [Bf] (k:=wkT [] (C0  (oj e).symm))
 |cons x xs ih =>
  intro k hx  o h C0 C1
  obtain⟨hk,hg,hx1⟩:=X0w hx
  have hc:decide ((k:Int)<(Xrn.length:Int))=true:=Yt (by omega)
  rw[X4f] at h
  refine X3.round ?_
  revert h
  refine bI fun Xt8 h35=>rnI [Bt,.el (X01 x),.stop 4] ?_
  intro h
  refine X3.join (s':=⟨fr [(5,(Lf (Xrn.map X01))),(6,(aI .i64 (Xrn.length:Int))),(7,(aI .i64 (k:Int))),(24,(aB Xt8))],hp ([]),0⟩) ?_ (fun J=>X3.cut ?_)
  ·
   revert h
   refine brI (fun h36=>fun e=>Xa [Bt] (k:=wkT [] (C1  (oj e).symm))) fun h36=>rnI [Bf] ?_
   intro h
   exact wkT [] (ih (k+1) hx1  o h C0 C1)
  clear h;revert h35
  refine brI (fun h31=>?_) fun h31=>?_
  ·
   intro h
   obtain rfl:=oj h
   exact Xa [.go false,.go false,.go false,.go false,.go false,.go false,.go false] (o:=by repeat' first|apply Ya|exact pcM|exact((X9 h31 rfl))|exact(Xi (X9 h31 rfl))|exact(X5k (X9 h31 rfl))|exact X04) (k:=wkT [] (X3.glue J))
  refine brI (fun h32=>?_) fun h32=>?_
  ·
   intro h
   obtain rfl:=oj h
   exact Xa [.go true,.go true,.go true,.go false,.go false,.go false,.go false] (o:=by repeat' first|apply Ya|exact pcM|exact((X8 h31 h32))|exact(Xi (X8 h31 h32))|exact(X5k (X8 h31 h32))|exact X04) (k:=wkT [] (X3.glue J))
  refine bI fun v33 h34=>?_
  intro h
  obtain rfl:=oj h
  exact Xa [.go true,.go true,.go true,.go true,.go true,.go true,.pure _ (aI .i64 v33),.go true] (o:=by repeat' first|apply Ya|exact pcM|exact((X8 h31 h32))|exact(Xi (X8 h31 h32))|exact(Xd3 (X8 h31 h32))|exact X04) (k:=wkT [] (X3.glue J))
instance Xve:PCs Tryz.prog 98 (∀ (a0:(List X0g)) (r:Bool),X8i a0=some r->X0j Tryz.prog 98 [(Lf (a0.map X01))] (aB r)):=⟨fun a0 r h=>by
 refine X0j.sym X5 fn98 (nt:=26) rfl rfl ?_ okM
 unfold X8i at h
 revert h
 refine bI fun u1 h2=>?_
 have qh2:=X12 h2
 refine bI fun o37 h38=>rnI [.el (aI .i64 (a0.length:Int))] ?_
 intro h
 refine wkT [] (X3.cut (Xfx a0 qh2 a0 0 (by simp) _ h38 ?_ ?_))
 ·
  intro eo37;subst eo37
  refine X3.glue ?_
  try dsimp only at h
  revert h
  exact fun e=>oj e▸Xa [] (k:=fi)
 intro eo37;subst eo37
 refine X3.glue ?_
 try dsimp only at h
 revert h
 exact fun e=>oj e▸Xa [] (k:=fi)⟩
instance X2i:PCs Tryz.prog 68 (∀ (a0:X0r) (r:Int),X2n a0=some r->X0j Tryz.prog 68 [(X0t a0)] (aI .i64 r)):=⟨fun a0 r h=>by
 refine X0j.sym X5 fn68 (nt:=43) rfl rfl ?_ okM
 unfold X2n at h
 revert h
 refine bI fun j4_3 h8=>rnI [] ?_
 intro h
 refine X3.join (s':=⟨fr [(3,(aB j4_3))],hp ([]),0⟩) ?_ (fun J=>X3.cut ?_)
 ·
  revert h
  exact brI (fun h9=>fun e=>oj e▸Xa [Bt] (k:=fi)) fun h9=>fun e=>oj e▸Xa [Bf] (k:=fi)
 clear h;revert h8
 refine brI (fun h5=>?_) fun h5=>?_
 ·
  intro h
  obtain rfl:=oj h
  exact Xa [Bt] (k:=wkT [] (X3.glue J))
 refine brI (fun h6=>?_) fun h6=>?_
 ·
  intro h
  obtain rfl:=oj h
  exact Xa [Bf,Bt] (k:=wkT [] (X3.glue J))
 refine brI (fun h7=>?_) fun h7=>?_
 ·
  intro h
  obtain rfl:=oj h
  exact Xa [Bf,Bf,Bt] (k:=wkT [] (X3.glue J))
 intro h
 obtain rfl:=oj h
 exact Xa [Bf,Bf,Bf] (k:=wkT [] (X3.glue J))⟩
instance Xa0:PCs Tryz.prog 115 (∀ (a0:X2) (r:Bool),X65 a0=some r->X0j Tryz.prog 115 [(X1 a0)] (aB r)):=⟨fun a0 r h=>by
 refine X0j.sym X5 X049 (nt:=46) rfl rfl ?_ okM
 unfold X65 at h
 revert h
 refine brI (fun h1=>fun e=>oj e▸Xa [Bt] (k:=fi)) fun h1=>bI fun j8_2 h15=>rnI [Bf,.stop 3] ?_
 intro h
 refine X3.join (s':=⟨fr [(2,(aB j8_2))],hp ([]),0⟩) ?_ (fun J=>X3.cut ?_)
 ·
  revert h
  exact fun e=>oj e▸Xa [] (k:=fi)
 clear h;revert h15
 refine bI fun v9 h10=>brI (fun h11=>?_) fun h11=>?_
 ·
  refine bI fun v12 h13=>brI (fun h14=>?_) fun h14=>?_
  ·
   intro h
   obtain rfl:=oj h
   exact Xa [.ix 0,.pure _ (aI .i64 v9),.go true,.go true,.ix 1,.go true,.go true,.pure _ (aI .i64 v12),.go true,.go true,.go true,.ix 0,.go true,.go true,.go true,.go true,.ix 1,.go true,.go true,.go true,.wrap,.go true] (o:=by repeat' first|apply Ya|exact pcM|exact((X9 h11 h14))|exact(Xi (X9 h11 h14))|exact(X5k (X9 h11 h14))|exact X04) (k:=wkT [] (X3.glue J))
  intro h
  obtain rfl:=oj h
  exact Xa [.ix 0,.pure _ (aI .i64 v9),.go true,.go true,.ix 1,.go true,.go true,.pure _ (aI .i64 v12),.go true,.go false,.go false,.go false,.go false,.go false,.go false,.go false,.go false,.go false,.go false] (o:=by repeat' first|apply Ya|exact pcM|exact((X9 h11 h14))|exact(Xi (X9 h11 h14))|exact(Xd3 (X9 h11 h14))|exact X04) (k:=wkT [] (X3.glue J))
 intro h
 obtain rfl:=oj h
 exact Xa [.ix 0,.pure _ (aI .i64 v9),.go false,.go false,.go false,.go false,.go false,.go false,.go false,.go false,.go false,.go false,.go false,.go false,.go false,.go false,.go false] (o:=by repeat' first|apply Ya|exact pcM|exact((X8 h11 rfl))|exact(Xi (X8 h11 rfl))|exact(Xd3 (X8 h11 rfl))|exact X04) (k:=wkT [] (X3.glue J))⟩
instance Xpn:PCs Tryz.prog 167 (∀ (a0:Int) (r:Bool),X59 a0=some r->X0j Tryz.prog 167 [(aI .i64 a0)] (aB r)):=⟨fun a0 r h=>by
 refine X0j.sym X5 X03g (nt:=6) rfl rfl ?_ okM
 unfold X59 at h
 revert h
 exact fun e=>oj e▸Xa [] (k:=fi)⟩
instance Xmr:PCs Tryz.prog 146 (∀ (a0:Int) (a1:Int) (r:Int),X2t a0 a1=some r->X0j Tryz.prog 146 [(aI .i64 a0),(aI .i64 a1)] (aI .i64 r)):=⟨fun a0 a1 r h=>by
 refine X0j.sym X5 X03o (nt:=20) rfl rfl ?_ okM
 unfold X2t at h
 revert h
 exact bI fun v1 h2=>bI fun v3 h4=>brI (fun h5=>brI (fun h6=>fun e=>oj e▸Xa [.pure _ (aB v1),.pure _ (aB v3),Bt,Bt] (k:=fi)) fun h6=>fun e=>oj e▸Xa [.pure _ (aB v1),.pure _ (aB v3),Bt,Bf] (k:=fi)) fun h5=>brI (fun h7=>fun e=>oj e▸Xa [.pure _ (aB v1),.pure _ (aB v3),Bf,Bt] (k:=fi)) fun h7=>brI (fun h8=>fun e=>oj e▸Xa [.pure _ (aB v1),.pure _ (aB v3),Bf,Bf,Bt] (k:=fi)) fun h8=>brI (fun h9=>fun e=>oj e▸Xa [.pure _ (aB v1),.pure _ (aB v3),Bf,Bf,Bf,Bt] (k:=fi)) fun h9=>fun e=>oj e▸Xa [.pure _ (aB v1),.pure _ (aB v3),Bf,Bf,Bf,Bf] (k:=fi)⟩
theorem Xgg {Q:Xv->St->Mu->Prop} {μ:Mu} (Xva:(List Int)) (hl:Xva.length<=140737488355328):∀ (xs:List Int) (k:Nat) (hx:Xva.drop k=xs) (o:X74) (h:X5i Xva xs k  = some o)
  (C0:o=X74.x0->X3 Tryz.prog 18 0 Q (.exit (.exit 0)) [] ⟨fr [(3,(aI .i64 0))],hp ([]),0⟩ μ)
  (C1:∀ (Xaa:Int),o=X74.x1 Xaa->X3 Tryz.prog 18 0 Q (.exit .ret) [] ⟨fr [(2,(aI .i64 Xaa))],hp ([]),0⟩ μ),
  X3 Tryz.prog 18 0 Q (.loop (X4y 0 (Xb Tryz.f145))) [] ⟨fr [(3,(aI .i64 0)),(6,(Lf (List.map (aI .i64) Xva))),(7,(aI .i64 (Xva.length:Int))),(8,(aI .i64 (k:Int)))],hp ([]),0⟩ μ:=by
 intro xs
 induction xs with
 |nil =>
  intro k hx  o h C0 C1
  have hk:=X1h hx
  have hc:decide ((k:Int)<(Xva.length:Int))=false:=Yf (by omega)
  rw[X5i] at h
  refine X3.round ?_
  revert h
  exact fun e=>Xa [Bf] (k:=wkT [] (C0  (oj e).symm))
 |cons x xs ih =>
  intro k hx  o h C0 C1
  obtain⟨hk,hg,hx1⟩:=X0w hx
  have hc:decide ((k:Int)<(Xva.length:Int))=true:=Yt (by omega)
  rw[X5i] at h
  refine X3.round ?_
  revert h
  refine brI (fun h6=>fun e=>Xa [Bt,.el (aI .i64 x),Bt] (k:=wkT [] (C1 _  (oj e).symm))) fun h6=>rnI [Bt,.el (aI .i64 x),Bf] ?_
  intro h
  exact wkT [] (ih (k+1) hx1  o h C0 C1)
instance Xwy:PCs Tryz.prog 145 (∀ (a0:(List Int)) (r:Int),Xcu a0=some r->X0j Tryz.prog 145 [(Lf (List.map (aI .i64) a0))] (aI .i64 r)):=⟨fun a0 r h=>by
 refine X0j.sym X5 X03p (nt:=18) rfl rfl ?_ okM
 unfold Xcu at h
 revert h
 refine bI fun u1 h2=>?_
 have qh2:=X12 h2
 refine bI fun o7 h8=>rnI [.el (aI .i64 (a0.length:Int))] ?_
 intro h
 refine wkT [] (X3.cut (Xgg a0 qh2 a0 0 (by simp) _ h8 ?_ ?_))
 ·
  intro eo7;subst eo7
  refine X3.glue ?_
  try dsimp only at h
  revert h
  exact fun e=>oj e▸Xa [] (k:=fi)
 intro Xaa eo7;subst eo7
 refine X3.glue ?_
 try dsimp only at h
 revert h
 exact fun e=>oj e▸Xa [] (k:=fi)⟩
instance Xuh:PCs Tryz.prog 116 (∀ (a0:X2) (a1:X2) (r:Int),X66 a0 a1=some r->X0j Tryz.prog 116 [(X1 a0),(X1 a1)] (aI .i64 r)):=⟨fun a0 a1 r h=>by
 refine X0j.sym X5 X048 (nt:=26) rfl rfl ?_ okM
 unfold X66 at h
 revert h
 exact bI fun v1 h2=>bI fun v3 h4=>bI fun v5 h6=>bI fun v7 h8=>fun e=>oj e▸Xa [.pure _ (aI .i64 v1),.pure _ (aI .i64 v3),.pure _ (aI .i64 v5),.pure _ (aI .i64 v7)] (k:=fi)⟩
theorem X7e {Q:Xv->St->Mu->Prop} {μ:Mu} (X0y:(List X2)) (hl:X0y.length<=140737488355328):∀ (xs:List X2) (k:Nat) (hx:X0y.drop k=xs) (o:X5y) (h:X2v X0y xs k  = some o)
  (C0:o=X5y.x0->X3 Tryz.prog 33 0 Q (.exit (.exit 0)) [] ⟨fr [],hp ([]),0⟩ μ)
  (C1:o=X5y.x1->X3 Tryz.prog 33 0 Q (.exit .ret) [] ⟨fr [(2,(aI .i64 8))],hp ([]),0⟩ μ),
  X3 Tryz.prog 33 0 Q (.loop (X4y 0 (Xb Tryz.f77))) [] ⟨fr [(0,(Lf (X0y.map X1))),(8,(Lf (X0y.map X1))),(9,(aI .i64 (X0y.length:Int))),(10,(aI .i64 (k:Int)))],hp ([]),0⟩ μ:=by
 intro xs
 induction xs with
 |nil =>
  intro k hx  o h C0 C1
  have hk:=X1h hx
  have hc:decide ((k:Int)<(X0y.length:Int))=false:=Yf (by omega)
  rw[X2v] at h
  refine X3.round ?_
  revert h
  exact fun e=>Xa [Bf] (k:=wkT [] (C0  (oj e).symm))
 |cons x xs ih =>
  intro k hx  o h C0 C1
  obtain⟨hk,hg,hx1⟩:=X0w hx
  have hc:decide ((k:Int)<(X0y.length:Int))=true:=Yt (by omega)
  rw[X2v] at h
  refine X3.round ?_
  revert h
  refine bI fun Xt5 h60=>rnI [Bt,.el (X1 x),.stop 6] ?_
  intro h
  refine X3.join (s':=⟨fr [(0,(Lf (X0y.map X1))),(8,(Lf (X0y.map X1))),(9,(aI .i64 (X0y.length:Int))),(10,(aI .i64 (k:Int))),(31,(aB Xt5))],hp ([]),0⟩) ?_ (fun J=>X3.cut ?_)
  ·
   revert h
   refine brI (fun h61=>fun e=>Xa [Bt] (k:=wkT [] (C1  (oj e).symm))) fun h61=>rnI [Bf] ?_
   intro h
   exact wkT [] (ih (k+1) hx1  o h C0 C1)
  clear h;revert h60
  refine bI fun v52 h53=>brI (fun h54=>?_) fun h54=>?_
  ·
   intro h
   obtain rfl:=oj h
   exact Xa [.pure _ (aB v52),.go false,.go false,.go false,.no,.no,.no,.no,.no,.no,.no,.no,.go false,.go true] (k:=wkT [] (X3.glue J))
  refine brI (fun h55=>?_) fun h55=>?_
  ·
   refine bI fun e56 h57=>?_
   try have qh57:=Xq h57
   refine bI fun v58 h59=>?_
   intro h
   obtain rfl:=oj h
   exact Xa [.pure _ (aB v52),.go true,.go true,.go true,.go true,.go true,.go true,.wrap,.go true,.el (X1 e56),.go true,.go true,.go true,.pure _ (aI .i64 v58),.go true,.go true] (k:=wkT [] (X3.glue J))
  intro h
  obtain rfl:=oj h
  exact Xa [.pure _ (aB v52),.go true,.go true,.go true,.go false,.go false,.go false,.go false,.go false,.go false,.go false,.go false,.go true,.go false] (k:=wkT [] (X3.glue J))
instance Xa1:PCs Tryz.prog 77 (∀ (a0:(List X2)) (r:Int),X3y a0=some r->X0j Tryz.prog 77 [(Lf (a0.map X1))] (aI .i64 r)):=⟨fun a0 r h=>by
 refine X0j.sym X5 fn77 (nt:=33) rfl rfl ?_ okM
 unfold X3y at h
 revert h
 refine brI (fun h1=>fun e=>oj e▸Xa [.el (aI .i64 (a0.length:Int)),Bt] (k:=fi)) fun h1=>bI fun u2 h3=>?_
 have qh3:=X12 h3
 refine bI fun o62 h63=>rnI [.el (aI .i64 (a0.length:Int)),Bf,.el (aI .i64 (a0.length:Int))] ?_
 intro h
 refine wkT [] (X3.cut (X7e a0 qh3 a0 0 (by simp) _ h63 ?_ ?_))
 ·
  intro eo62;subst eo62
  refine X3.glue ?_
  try dsimp only at h
  revert h
  exact fun e=>oj e▸Xa [] (k:=fi)
 intro eo62;subst eo62
 refine X3.glue ?_
 try dsimp only at h
 revert h
 exact fun e=>oj e▸Xa [] (k:=fi)⟩
instance Xug:PCs Tryz.prog 99 (∀ (a0:Int) (r:Bool),X8y a0=some r->X0j Tryz.prog 99 [(aI .i64 a0)] (aB r)):=⟨fun a0 r h=>by
 refine X0j.sym X5 fn99 (nt:=11) rfl rfl ?_ okM
 unfold X8y at h
 revert h
 refine bI fun j4_2 h8=>rnI [.stop 1] ?_
 intro h
 refine X3.join (s':=⟨fr [(2,(aB j4_2))],hp ([]),0⟩) ?_ (fun J=>X3.cut ?_)
 ·
  revert h
  exact fun e=>oj e▸Xa [] (k:=fi)
 clear h;revert h8
 refine brI (fun h5=>?_) fun h5=>?_
 ·
  intro h
  obtain rfl:=oj h
  exact Xa [.go false,.go false,.go false,.go false] (k:=wkT [] (X3.glue J))
 refine bI fun v6 h7=>?_
 intro h
 obtain rfl:=oj h
 exact Xa [.go true,.go true,.go true,.pure _ (aI .i64 v6),.go true] (k:=wkT [] (X3.glue J))⟩
instance Xw0:PCs Tryz.prog 135 (∀ (a0:X0e) (r:Xg×Int),Xck a0=some r->X0j Tryz.prog 135 [(X06 a0)] (AV.tup [(Xo r.1),(aI .i64 r.2)])):=⟨fun a0 r h=>by
 refine X0j.sym X5 X03t (nt:=34) rfl rfl ?_ okM
 unfold Xck at h
 revert h
 refine brI (fun h1=>?_) fun h1=>?_
 ·
  refine bI fun Xyw h9=>rnI [Bt,.stop 2] ?_
  intro h
  refine X3.join (s':=⟨fr [(1,(AV.ptr 0 0 0)),(2,(AV.ptr 1 0 0)),(15,(aB Xyw))],hp ([(0,Ob [(X06 a0)] 5),(1,Ob [(Xo (Xg.mk 0 (Xe.mk 0 0 0) 0 (X1n.mk 0 (Xz.mk 0 0) (V2.mk 0 0))))] 10)]),2⟩) ?_ (fun J=>X3.cut ?_)
  ·
   revert h
   exact brI (fun h10=>fun e=>oj e▸Xa [Bt] (k:=fi)) fun h10=>fun e=>oj e▸Xa [Bf] (k:=fi)
  clear h;revert h9
  refine bI fun v6 h7=>brI (fun h8=>?_) fun h8=>?_
  ·
   intro h
   obtain rfl:=oj h
   exact Xa [.pure _ (aB v6),.go false,.go false,.go false,.go false] (k:=wkT [] (X3.glue J))
  intro h
  obtain rfl:=oj h
  exact Xa [.pure _ (aB v6),.go true,.go true,.go true,.go true] (k:=wkT [] (X3.glue J))
 refine bI fun Xtd h18=>rnI [Bf,.stop 5] ?_
 intro h
 refine X3.join (s':=⟨fr [(1,(AV.ptr 0 0 0)),(2,(AV.ptr 1 0 0)),(29,(aB Xtd))],hp ([(0,Ob [(X06 a0)] 5),(1,Ob [(Xo (Xg.mk 0 (Xe.mk 0 0 0) 0 (X1n.mk 0 (Xz.mk 0 0) (V2.mk 0 0))))] 10)]),2⟩) ?_ (fun J=>X3.cut ?_)
 ·
  revert h
  exact brI (fun h19=>fun e=>oj e▸Xa [Bt] (k:=fi)) fun h19=>fun e=>oj e▸Xa [Bf] (k:=fi)
 clear h;revert h18
 refine brI (fun h15=>?_) fun h15=>?_
 ·
  intro h
  obtain rfl:=oj h
  exact Xa [.go false,.go false,.go false,.go false,.go false] (k:=wkT [] (X3.glue J))
 refine bI fun v16 h17=>?_
 intro h
 obtain rfl:=oj h
 exact Xa [.go true,.go true,.go true,.go true,.pure _ (aB v16),.go true] (k:=wkT [] (X3.glue J))⟩
instance Xrf:PCs Tryz.prog 100 (∀ (a0:X0e) (r:Int),X6u a0=some r->X0j Tryz.prog 100 [(X06 a0)] (aI .i64 r)):=⟨fun a0 r h=>by
 refine X0j.sym X5 X04e (nt:=11) rfl rfl ?_ okM
 unfold X6u at h
 revert h
 exact bI fun v1 h2=>fun e=>oj e▸Xa [.pure _ (AV.tup [(Xo v1.1),(aI .i64 v1.2)])] (k:=fi)⟩
theorem Xg2 {Q:Xv->St->Mu->Prop} {μ:Mu} (Xn:X00) (Xbo:(List Int)) (hl:Xbo.length<=140737488355328):∀ (xs:List Int) (k:Nat) (hx:Xbo.drop k=xs) (X5e:Bool) (o:X93) (h:X3s Xn Xbo xs k X5e=some o)
  (C0:∀ (Xem:Bool),o=X93.x0 Xem->X3 Tryz.prog 202 0 Q (.exit (.exit 0)) [] ⟨fr [(1,(AV.ptr 0 0 0)),(11,(aB Xem))],hp ([(0,Ob [(Xj false Xn)] 9)]),1⟩ μ),
  X3 Tryz.prog 202 0 Q (.loop (X4y 0 (Xb Tryz.f61))) [] ⟨fr [(1,(AV.ptr 0 0 0)),(11,(aB X5e)),(122,(Lf (List.map (aI .i64) Xbo))),(123,(aI .i64 (Xbo.length:Int))),(124,(aI .i64 (k:Int)))],hp ([(0,Ob [(Xj false Xn)] 9)]),1⟩ μ:=by
 intro xs
 induction xs with
 |nil =>
  intro k hx X5e o h C0
  have hk:=X1h hx
  have hc:decide ((k:Int)<(Xbo.length:Int))=false:=Yf (by omega)
  rw[X3s] at h
  refine X3.round ?_
  revert h
  exact fun e=>Xa [Bf] (k:=wkT [] (C0 _  (oj e).symm))
 |cons x xs ih =>
  intro k hx X5e o h C0
  obtain⟨hk,hg,hx1⟩:=X0w hx
  have hc:decide ((k:Int)<(Xbo.length:Int))=true:=Yt (by omega)
  rw[X3s] at h
  refine X3.round ?_
  revert h
  refine bI fun Xt3 h76=>rnI [Bt,.el (aI .i64 x),.stop 10] ?_
  intro h
  refine X3.join (s':=⟨fr [(1,(AV.ptr 0 0 0)),(11,(aB Xt3)),(122,(Lf (List.map (aI .i64) Xbo))),(123,(aI .i64 (Xbo.length:Int))),(124,(aI .i64 (k:Int)))],hp ([(0,Ob [(Xj false Xn)] 9)]),1⟩) ?_ (fun J=>X3.cut ?_)
  ·
   exact Xa [] (k:=wkT [] (ih (k+1) hx1 _ o h C0))
  clear h;revert h76
  refine brI (fun h73=>?_) fun h73=>?_
  ·
   refine bI fun v74 h75=>?_
   intro h
   obtain rfl:=oj h
   exact Xa [.go true,.go true,.pure _ (aB v74)] (k:=wkT [] (X3.glue J))
  intro h
  obtain rfl:=oj h
  exact Xa [.go false,.go false] (k:=wkT [] (X3.glue J))
theorem Xg1 {Q:Xv->St->Mu->Prop} {μ:Mu} (Xfw:X00) (Xbn:(List X0e)) (hl:Xbn.length<=140737488355328):∀ (xs:List X0e) (k:Nat) (hx:Xbn.drop k=xs) (Xii:Bool) (o:X92) (h:X3r Xfw Xbn xs k Xii=some o)
  (C0:∀ (Xel:Bool),o=X92.x0 Xel->X3 Tryz.prog 202 0 Q (.exit (.exit 2)) [] ⟨fr [(1,(AV.ptr 0 0 0)),(11,(aB Xel))],hp ([(0,Ob [(Xj false Xfw)] 9)]),1⟩ μ),
  X3 Tryz.prog 202 0 Q (.loop (X4y 1 (Xb Tryz.f61))) [] ⟨fr [(1,(AV.ptr 0 0 0)),(11,(aB Xii)),(135,(Lf (Xbn.map X06))),(136,(aI .i64 (Xbn.length:Int))),(137,(aI .i64 (k:Int)))],hp ([(0,Ob [(Xj false Xfw)] 9)]),1⟩ μ:=by
 intro xs
 induction xs with
 |nil =>
  intro k hx Xii o h C0
  have hk:=X1h hx
  have hc:decide ((k:Int)<(Xbn.length:Int))=false:=Yf (by omega)
  rw[X3r] at h
  refine X3.round ?_
  revert h
  exact fun e=>Xa [Bf] (k:=wkT [] (C0 _  (oj e).symm))
 |cons x xs ih =>
  intro k hx Xii o h C0
  obtain⟨hk,hg,hx1⟩:=X0w hx
  have hc:decide ((k:Int)<(Xbn.length:Int))=true:=Yt (by omega)
  rw[X3r] at h
  refine X3.round ?_
  revert h
  refine bI fun Xo4 h105=>rnI [Bt,.el (X06 x),.stop 15] ?_
  intro h
  refine X3.join (s':=⟨fr [(1,(AV.ptr 0 0 0)),(11,(aB Xo4)),(135,(Lf (Xbn.map X06))),(136,(aI .i64 (Xbn.length:Int))),(137,(aI .i64 (k:Int)))],hp ([(0,Ob [(Xj false Xfw)] 9)]),1⟩) ?_ (fun J=>X3.cut ?_)
  ·
   exact Xa [] (k:=wkT [] (ih (k+1) hx1 _ o h C0))
  clear h;revert h105
  refine brI (fun h102=>?_) fun h102=>?_
  ·
   refine bI fun v103 h104=>?_
   intro h
   obtain rfl:=oj h
   exact Xa [.go true,.go true,.pure _ (aI .i64 v103),.go true] (k:=wkT [] (X3.glue J))
  intro h
  obtain rfl:=oj h
  exact Xa [.go false,.go false,.go false] (k:=wkT [] (X3.glue J))
theorem Xg0 {Q:Xv->St->Mu->Prop} {μ:Mu} (Xpt:X00) (Xbm:(List X1n)) (hl:Xbm.length<=140737488355328):∀ (xs:List X1n) (k:Nat) (hx:Xbm.drop k=xs) (Xig:Bool) (o:X91) (h:X3q Xpt Xbm xs k Xig=some o)
  (C0:∀ (Xek:Bool),o=X91.x0 Xek->X3 Tryz.prog 202 0 Q (.exit (.exit 4)) [] ⟨fr [(1,(AV.ptr 0 0 0)),(11,(aB Xek))],hp ([(0,Ob [(Xj false Xpt)] 9)]),1⟩ μ),
  X3 Tryz.prog 202 0 Q (.loop (X4y 2 (Xb Tryz.f61))) [] ⟨fr [(1,(AV.ptr 0 0 0)),(11,(aB Xig)),(149,(Lf (Xbm.map Xu))),(150,(aI .i64 (Xbm.length:Int))),(151,(aI .i64 (k:Int)))],hp ([(0,Ob [(Xj false Xpt)] 9)]),1⟩ μ:=by
 intro xs
 induction xs with
 |nil =>
  intro k hx Xig o h C0
  have hk:=X1h hx
  have hc:decide ((k:Int)<(Xbm.length:Int))=false:=Yf (by omega)
  rw[X3q] at h
  refine X3.round ?_
  revert h
  exact fun e=>Xa [Bf] (k:=wkT [] (C0 _  (oj e).symm))
 |cons x xs ih =>
  intro k hx Xig o h C0
  obtain⟨hk,hg,hx1⟩:=X0w hx
  have hc:decide ((k:Int)<(Xbm.length:Int))=true:=Yt (by omega)
  rw[X3q] at h
  refine X3.round ?_
  revert h
  refine bI fun Xnz h134=>rnI [Bt,.el (Xu x),.stop 20] ?_
  intro h
  refine X3.join (s':=⟨fr [(1,(AV.ptr 0 0 0)),(11,(aB Xnz)),(149,(Lf (Xbm.map Xu))),(150,(aI .i64 (Xbm.length:Int))),(151,(aI .i64 (k:Int)))],hp ([(0,Ob [(Xj false Xpt)] 9)]),1⟩) ?_ (fun J=>X3.cut ?_)
  ·
   exact Xa [] (k:=wkT [] (ih (k+1) hx1 _ o h C0))
  clear h;revert h134
  refine brI (fun h131=>?_) fun h131=>?_
  ·
   refine bI fun v132 h133=>?_
   intro h
   obtain rfl:=oj h
   exact Xa [.go true,.go true,.go true,.pure _ (aI .i64 v132),.go true] (k:=wkT [] (X3.glue J))
  intro h
  obtain rfl:=oj h
  exact Xa [.go false,.go false,.go false,.go false] (k:=wkT [] (X3.glue J))
end Go.Av.Tryz