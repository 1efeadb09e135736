/- Printed by decomp.py: that the program computes the functions. -/
import Derived.Test.YtkjlgmgfhgamlaaGreatDCert3Z
set_option linter.all false

namespace Go.Av.Tryz
open Go.Proofs Go.D
set_option maxRecDepth 10000
set_option maxHeartbeats 40000000
instance Xtf:PCs Tryz.prog 95 (∀ (a0:X06) (r:Int×Int),X7q a0=some r->X0l Tryz.prog 95 [(Xs false a0)] (AV.tup [(aI .i64 r.1),(aI .i64 r.2)])):=⟨fun a0 r h=>by
 refine X0l.sym X6 fn95 (nt:=20) rfl rfl ?_ okM
 unfold X7q at h
 revert h
 refine bI fun v1 h2=>brI (fun h3=>fun e=>oj e▸Xa [.pure _ (aI .i64 v1),Bt] (k:=fi)) fun h3=>bI fun w22 h41=>?_
 intro h
 obtain⟨Xvo,Xvn⟩:=w22
 try dsimp only at h
 refine X0i [.pure _ (aI .i64 v1),Bf] ?_
 refine X3.joinOp (s':=⟨fr [(17,(AV.tup [(aI .i64 Xvo),(aI .i64 Xvn)]))],hp ([]),0⟩) ?_ (fun J=>?_)
 ·
  revert h
  exact fun e=>oj e▸Xa [] (k:=fi)
 clear h;revert h41
 intro h
 refine X3.inline X6 X03l rfl rfl rfl rfl rfl trivial trivial rfl rfl ?_
 refine X0i [] ?_
 refine X3.round ?_
 revert h
 refine brI (fun h23=>?_) fun h23=>?_
 ·
  refine rnI [Bt,.el (AV.agg [(Lf (a0.Arg.map X7)),(AV.fn 133 [])]),.el (aI .i64 (a0.Arg.length:Int)),Bt] ?_
  intro h
  refine X3.round ?_
  revert h
  refine brI (fun h24=>?_) fun h24=>?_
  ·
   refine rnI [Bt,.el (AV.agg [(Lf (a0.Where.map X7)),(AV.fn 134 [])]),.el (aI .i64 (a0.Where.length:Int)),Bt] ?_
   intro h
   refine X3.round ?_
   simp only[Option.some.injEq,Prod.mk.injEq] at h
   obtain⟨rfl,rfl⟩:=h
   refine X0i [Bf] ?_
   refine X3.back (by intro id h;cases h) rfl ?_
   exact wkT [] (J)
  refine bI fun v25 h26=>rnI [Bt,.el (AV.agg [(Lf (a0.Where.map X7)),(AV.fn 134 [])]),.el (aI .i64 (a0.Where.length:Int)),Bf,.pure _ (AV.tup [(aI .i64 v25.1),(aI .i64 v25.2)])] ?_
  refine brI (fun h27=>?_) fun h27=>?_
  ·
   refine bI fun e28 h29=>?_
   try have qh29:=Xc h29
   intro h
   simp only[Option.some.injEq,Prod.mk.injEq] at h
   obtain⟨rfl,rfl⟩:=h
   refine X0i [Bt,.el (X7 e28)] ?_
   refine X3.back (by intro id h;cases h) rfl ?_
   exact wkT [] (J)
  refine rnI [Bf] ?_
  intro h
  refine X3.round ?_
  simp only[Option.some.injEq,Prod.mk.injEq] at h
  obtain⟨rfl,rfl⟩:=h
  refine X0i [Bf] ?_
  refine X3.back (by intro id h;cases h) rfl ?_
  exact wkT [] (J)
 refine bI fun v30 h31=>rnI [Bt,.el (AV.agg [(Lf (a0.Arg.map X7)),(AV.fn 133 [])]),.el (aI .i64 (a0.Arg.length:Int)),Bf,.pure _ (AV.tup [(aI .i64 v30.1),(aI .i64 v30.2)])] ?_
 refine brI (fun h32=>?_) fun h32=>?_
 ·
  refine bI fun e33 h34=>?_
  try have qh34:=Xc h34
  intro h
  simp only[Option.some.injEq,Prod.mk.injEq] at h
  obtain⟨rfl,rfl⟩:=h
  refine X0i [Bt,.el (X7 e33)] ?_
  refine X3.back (by intro id h;cases h) rfl ?_
  exact wkT [] (J)
 refine rnI [Bf] ?_
 intro h
 refine X3.round ?_
 revert h
 refine brI (fun h35=>?_) fun h35=>?_
 ·
  refine rnI [Bt,.el (AV.agg [(Lf (a0.Where.map X7)),(AV.fn 134 [])]),.el (aI .i64 (a0.Where.length:Int)),Bt] ?_
  intro h
  refine X3.round ?_
  simp only[Option.some.injEq,Prod.mk.injEq] at h
  obtain⟨rfl,rfl⟩:=h
  refine X0i [Bf] ?_
  refine X3.back (by intro id h;cases h) rfl ?_
  exact wkT [] (J)
 refine bI fun v36 h37=>rnI [Bt,.el (AV.agg [(Lf (a0.Where.map X7)),(AV.fn 134 [])]),.el (aI .i64 (a0.Where.length:Int)),Bf,.pure _ (AV.tup [(aI .i64 v36.1),(aI .i64 v36.2)])] ?_
 refine brI (fun h38=>?_) fun h38=>?_
 ·
  refine bI fun e39 h40=>?_
  try have qh40:=Xc h40
  intro h
  simp only[Option.some.injEq,Prod.mk.injEq] at h
  obtain⟨rfl,rfl⟩:=h
  refine X0i [Bt,.el (X7 e39)] ?_
  refine X3.back (by intro id h;cases h) rfl ?_
  exact wkT [] (J)
 refine rnI [Bf] ?_
 intro h
 refine X3.round ?_
 simp only[Option.some.injEq,Prod.mk.injEq] at h
 obtain⟨rfl,rfl⟩:=h
 refine X0i [Bf] ?_
 refine X3.back (by intro id h;cases h) rfl ?_
 exact wkT [] (J)⟩
instance Xqv:PCs Tryz.prog 69 (∀ (a0:X06) (r:Bool),X6s a0=some r->X0l Tryz.prog 69 [(Xs false a0)] (aB r)):=⟨fun a0 r h=>by
 refine X0l.sym X6 fn69 (nt:=16) rfl rfl ?_ okM
 unfold X6s at h
 revert h
 exact bI fun v1 h2=>fun e=>oj e▸Xa [.pure _ (AV.tup [(aI .i64 v1.1),(aI .i64 v1.2)])] (k:=fi)⟩
instance Xtt:PCs Tryz.prog 96 (∀ (a0:Int) (r:Int×Int×Bool×Bool×Bool×Bool),X8m a0=some r->X0l Tryz.prog 96 [(aI .u8 a0)] (AV.tup [(aI .i64 r.1),(aI .i64 r.2.1),(aB r.2.2.1),(aB r.2.2.2.1),(aB r.2.2.2.2.1),(aB r.2.2.2.2.2)])):=⟨fun a0 r h=>by
 refine X0l.sym X6 fn96 (nt:=23) rfl rfl ?_ okM
 unfold X8m at h
 revert h
 refine bI fun w8 h16=>?_
 intro h
 obtain⟨j8_2,j8_3,j8_4,j8_5,j8_6,j8_7⟩:=w8
 try dsimp only at h
 refine X0i [] ?_
 refine X3.join (s':=⟨fr [(2,(aI .i64 j8_2)),(3,(aI .i64 j8_3)),(4,(aB j8_4)),(5,(aB j8_5)),(6,(aB j8_6)),(7,(aB j8_7))],hp ([]),0⟩) ?_ (fun J=>X3.cut ?_)
 ·
  revert h
  exact fun e=>oj e▸Xa [] (k:=fi)
 clear h;revert h16
 refine brI (fun h9=>?_) fun h9=>?_
 ·
  intro h
  obtain rfl:a0=1:=eq_of_beq h9
  simp only[Option.some.injEq,Prod.mk.injEq] at h
  obtain⟨rfl,rfl,rfl,rfl,rfl,rfl⟩:=h
  exact Xa [Bt] (k:=wkT [] (X3.glue J))
 refine brI (fun h10=>?_) fun h10=>?_
 ·
  intro h
  obtain rfl:a0=2:=eq_of_beq h10
  simp only[Option.some.injEq,Prod.mk.injEq] at h
  obtain⟨rfl,rfl,rfl,rfl,rfl,rfl⟩:=h
  exact Xa [Bf,Bt] (k:=wkT [] (X3.glue J))
 refine brI (fun h11=>?_) fun h11=>?_
 ·
  intro h
  obtain rfl:a0=3:=eq_of_beq h11
  simp only[Option.some.injEq,Prod.mk.injEq] at h
  obtain⟨rfl,rfl,rfl,rfl,rfl,rfl⟩:=h
  exact Xa [Bf,Bf,Bt] (k:=wkT [] (X3.glue J))
 refine brI (fun h12=>?_) fun h12=>?_
 ·
  intro h
  obtain rfl:a0=4:=eq_of_beq h12
  simp only[Option.some.injEq,Prod.mk.injEq] at h
  obtain⟨rfl,rfl,rfl,rfl,rfl,rfl⟩:=h
  exact Xa [Bf,Bf,Bf,Bt] (k:=wkT [] (X3.glue J))
 refine brI (fun h13=>?_) fun h13=>?_
 ·
  intro h
  simp only[Option.some.injEq,Prod.mk.injEq] at h
  obtain⟨rfl,rfl,rfl,rfl,rfl,rfl⟩:=h
  exact Xa [Bf,Bf,Bf,Bf,Bt] (k:=wkT [] (X3.glue J))
 refine brI (fun h14=>?_) fun h14=>?_
 ·
  intro h
  simp only[Option.some.injEq,Prod.mk.injEq] at h
  obtain⟨rfl,rfl,rfl,rfl,rfl,rfl⟩:=h
  exact Xa [Bf,Bf,Bf,Bf,Bf,Bt] (k:=wkT [] (X3.glue J))
 refine brI (fun h15=>?_) fun h15=>?_
 ·
  intro h
  simp only[Option.some.injEq,Prod.mk.injEq] at h
  obtain⟨rfl,rfl,rfl,rfl,rfl,rfl⟩:=h
  exact Xa [Bf,Bf,Bf,Bf,Bf,Bf,Bt] (k:=wkT [] (X3.glue J))
 intro h
 simp only[Option.some.injEq,Prod.mk.injEq] at h
 obtain⟨rfl,rfl,rfl,rfl,rfl,rfl⟩:=h
 exact Xa [Bf,Bf,Bf,Bf,Bf,Bf,Bf] (k:=wkT [] (X3.glue J))⟩
instance Xwx:PCs Tryz.prog 97 (∀ (a0:Bool) (a1:Int) (r:Int),X8l a0 a1=some r->X0l Tryz.prog 97 [(aB a0),(aI .i64 a1)] (aI .i64 r)):=⟨fun a0 a1 r h=>by
 refine X0l.sym X6 fn97 (nt:=7) rfl rfl ?_ okM
 unfold X8l at h
 revert h
 exact brI (fun h1=>fun e=>oj e▸Xa [Bt] (k:=fi)) fun h1=>fun e=>oj e▸Xa [Bf] (k:=fi)⟩
instance Xpv:PCs Tryz.prog 101 (∀ (a0:Int) (r:Bool),X41 a0=some r->X0l Tryz.prog 101 [(aI .i64 a0)] (aB r)):=⟨fun a0 r h=>by
 refine X0l.sym X6 X041 (nt:=9) rfl rfl ?_ okM
 unfold X41 at h
 revert h
 exact fun e=>oj e▸Xa [] (k:=fi)⟩
instance Xpw:PCs Tryz.prog 102 (∀ (a0:Int) (r:Bool),X4s a0=some r->X0l Tryz.prog 102 [(aI .i64 a0)] (aB r)):=⟨fun a0 r h=>by
 refine X0l.sym X6 X040 (nt:=9) rfl rfl ?_ okM
 unfold X4s at h
 revert h
 exact bI fun v1 h2=>fun e=>oj e▸Xa [.pure _ (aB v1)] (k:=fi)⟩
instance Xqt:PCs Tryz.prog 62 (∀ (a0:Xh) (r:Int),X2v a0=some r->X0l Tryz.prog 62 [(Xe a0)] (aI .i64 r)):=⟨fun a0 r h=>by
 refine X0l.sym X6 fn62 (nt:=59) rfl rfl ?_ okM
 unfold X2v at h
 revert h
 refine bI fun Xz0 h4=>rnI [] ?_
 intro h
 refine X3.join (s':=⟨fr [(1,(AV.ptr 0 0 0)),(3,(aB false)),(4,(AV.ptr 1 0 0)),(10,(aI .u8 a0.Kind)),(11,(aB Xz0))],hp ([(0,Ob [(Xe a0)] 10),(1,Ob [(Xe (Xh.mk a0.Kind (Xl.mk 0 0 0) 0 (X1x.mk 0 (X05.mk 0 0) (V2.mk 0 0))))] 10)]),2⟩) ?_ (fun J=>X3.cut ?_)
 ·
  revert h
  refine bI fun w12 h20=>?_
  intro h
  obtain⟨X02l,X012⟩:=w12
  try dsimp only at h
  refine X0i [] ?_
  refine X3.join (s':=⟨fr [(1,(AV.ptr 0 0 0)),(3,(aB X02l)),(4,(AV.ptr 1 0 0))],hp ([(0,Ob [(Xe a0)] 10),(1,Ob [(Xe X012)] 10)]),2⟩) ?_ (fun J=>X3.cut ?_)
  ·
   revert h
   exact brI (fun h21=>fun e=>oj e▸Xa [Bt] (k:=fi)) fun h21=>fun e=>oj e▸Xa [Bf] (k:=fi)
  clear h;revert h20
  refine brI (fun h13=>?_) fun h13=>?_
  ·
   refine bI fun v14 h15=>?_
   intro h
   simp only[Option.some.injEq,Prod.mk.injEq] at h
   obtain⟨rfl,rfl⟩:=h
   exact Xa [Bt,.pure _ (aB v14)] (k:=wkT [] (X3.glue J))
  refine brI (fun h16=>?_) fun h16=>?_
  ·
   refine bI fun v17 h18=>?_
   intro h
   simp only[Option.some.injEq,Prod.mk.injEq] at h
   obtain⟨rfl,rfl⟩:=h
   exact Xa [Bf,Bt,.pure _ (aB v17)] (k:=wkT [] (X3.glue J))
  refine brI (fun h19=>?_) fun h19=>?_
  ·
   intro h
   simp only[Option.some.injEq,Prod.mk.injEq] at h
   obtain⟨rfl,rfl⟩:=h
   exact Xa [Bf,Bf,Bt] (k:=wkT [] (X3.glue J))
  intro h
  simp only[Option.some.injEq,Prod.mk.injEq] at h
  obtain⟨rfl,rfl⟩:=h
  exact Xa [Bf,Bf,Bf] (k:=wkT [] (X3.glue J))
 clear h;revert h4
 refine brI (fun h3=>?_) fun h3=>?_
 ·
  intro h
  obtain rfl:=oj h
  exact Xa [Bt] (k:=wkT [] (X3.glue J))
 intro h
 obtain rfl:=oj h
 exact Xa [Bf] (k:=wkT [] (X3.glue J))⟩
theorem Xfj {Q:Xz->St->Mu->Prop} {μ:Mu} (Xr3:(List X13)) (hl:Xr3.length<=140737488355328):∀ (xs:List X13) (k:Nat) (hx:Xr3.drop k=xs) (o:X6l) (h:X4g Xr3 xs k  = some o)
  (C0:o=X6l.x0->X3 Tryz.prog 26 0 Q (.exit (.exit 0)) [] ⟨fr [],hp ([]),0⟩ μ)
  (C1:o=X6l.x1->X3 Tryz.prog 26 0 Q (.exit .ret) [] ⟨fr [(2,(aB false))],hp ([]),0⟩ μ),
  X3 Tryz.prog 26 0 Q (.loop (X5p 0 (Xj Tryz.f98))) [] ⟨fr [(5,(Lf (Xr3.map X08))),(6,(aI .i64 (Xr3.length:Int))),(7,(aI .i64 (k:Int)))],hp ([]),0⟩ μ:=by
 intro xs
 induction xs with
 |nil =>
  intro k hx  o h C0 C1
  have hk:=drop_nil hx
  have hc:decide ((k:Int)<(Xr3.length:Int))=false:=Yf (by omega)
  rw[X4g] at h
  refine X3.round ?_
  revert h
  exact fun e=>Xa [Bf] (k:=wkT [] (C0  (oj e).symm))
 |cons x xs ih =>
  intro k hx  o h C0 C1
  obtain⟨hk,hg,hx1⟩:=X1a hx
  have hc:decide ((k:Int)<(Xr3.length:Int))=true:=Yt (by omega)
  rw[X4g] at h
  refine X3.round ?_
  revert h
  refine bI fun Xsl h35=>rnI [Bt,.el (X08 x),.stop 4] ?_
  intro h
  refine X3.join (s':=⟨fr [(5,(Lf (Xr3.map X08))),(6,(aI .i64 (Xr3.length:Int))),(7,(aI .i64 (k:Int))),(24,(aB Xsl))],hp ([]),0⟩) ?_ (fun J=>X3.cut ?_)
  ·
   revert h
   refine brI (fun h36=>fun e=>Xa [Bt] (k:=wkT [] (C1  (oj e).symm))) fun h36=>rnI [Bf] ?_
   intro h
   exact wkT [] (ih (k+1) hx1  o h C0 C1)
  clear h;revert h35
  refine brI (fun h31=>?_) fun h31=>?_
  ·
   intro h
   obtain rfl:=oj h
   exact Xa [.go false,.go false,.go false,.go false,.go false,.go false,.go false] (o:=by repeat' first|apply Ya|exact pcM|exact((X9 h31 rfl))|exact(Xd (X9 h31 rfl))|exact(X47 (X9 h31 rfl))|exact Xw) (k:=wkT [] (X3.glue J))
  refine brI (fun h32=>?_) fun h32=>?_
  ·
   intro h
   obtain rfl:=oj h
   exact Xa [.go true,.go true,.go true,.go false,.go false,.go false,.go false] (o:=by repeat' first|apply Ya|exact pcM|exact((Xb h31 h32))|exact(Xd (Xb h31 h32))|exact(X47 (Xb h31 h32))|exact Xw) (k:=wkT [] (X3.glue J))
  refine bI fun v33 h34=>?_
  intro h
  obtain rfl:=oj h
  exact Xa [.go true,.go true,.go true,.go true,.go true,.go true,.pure _ (aI .i64 v33),.go true] (o:=by repeat' first|apply Ya|exact pcM|exact((Xb h31 h32))|exact(Xd (Xb h31 h32))|exact(X88 (Xb h31 h32))|exact Xw) (k:=wkT [] (X3.glue J))
instance Xup:PCs Tryz.prog 98 (∀ (a0:(List X13)) (r:Bool),X8a a0=some r->X0l Tryz.prog 98 [(Lf (a0.map X08))] (aB r)):=⟨fun a0 r h=>by
 refine X0l.sym X6 fn98 (nt:=26) rfl rfl ?_ okM
 unfold X8a at h
 revert h
 refine bI fun u1 h2=>?_
 have qh2:=X1c h2
 refine bI fun o37 h38=>rnI [.el (aI .i64 (a0.length:Int))] ?_
 intro h
 refine wkT [] (X3.cut (Xfj a0 qh2 a0 0 (by simp) _ h38 ?_ ?_))
 ·
  intro eo37;subst eo37
  refine X3.glue ?_
  try dsimp only at h
  revert h
  exact fun e=>oj e▸Xa [] (k:=fi)
 intro eo37;subst eo37
 refine X3.glue ?_
 try dsimp only at h
 revert h
 exact fun e=>oj e▸Xa [] (k:=fi)⟩
instance X3j:PCs Tryz.prog 68 (∀ (a0:X15) (r:Int),X2m a0=some r->X0l Tryz.prog 68 [(X0u a0)] (aI .i64 r)):=⟨fun a0 r h=>by
 refine X0l.sym X6 fn68 (nt:=43) rfl rfl ?_ okM
 unfold X2m at h
 revert h
 refine bI fun j4_3 h8=>rnI [] ?_
 intro h
 refine X3.join (s':=⟨fr [(3,(aB j4_3))],hp ([]),0⟩) ?_ (fun J=>X3.cut ?_)
 ·
  revert h
  exact brI (fun h9=>fun e=>oj e▸Xa [Bt] (k:=fi)) fun h9=>fun e=>oj e▸Xa [Bf] (k:=fi)
 clear h;revert h8
 refine brI (fun h5=>?_) fun h5=>?_
 ·
  intro h
  obtain rfl:=oj h
  exact Xa [Bt] (k:=wkT [] (X3.glue J))
 refine brI (fun h6=>?_) fun h6=>?_
 ·
  intro h
  obtain rfl:=oj h
  exact Xa [Bf,Bt] (k:=wkT [] (X3.glue J))
 refine brI (fun h7=>?_) fun h7=>?_
 ·
  intro h
  obtain rfl:=oj h
  exact Xa [Bf,Bf,Bt] (k:=wkT [] (X3.glue J))
 intro h
 obtain rfl:=oj h
 exact Xa [Bf,Bf,Bf] (k:=wkT [] (X3.glue J))⟩
instance X9s:PCs Tryz.prog 115 (∀ (a0:X2) (r:Bool),X64 a0=some r->X0l Tryz.prog 115 [(X1 a0)] (aB r)):=⟨fun a0 r h=>by
 refine X0l.sym X6 X03y (nt:=46) rfl rfl ?_ okM
 unfold X64 at h
 revert h
 refine brI (fun h1=>fun e=>oj e▸Xa [Bt] (k:=fi)) fun h1=>bI fun j8_2 h15=>rnI [Bf,.stop 3] ?_
 intro h
 refine X3.join (s':=⟨fr [(2,(aB j8_2))],hp ([]),0⟩) ?_ (fun J=>X3.cut ?_)
 ·
  revert h
  exact fun e=>oj e▸Xa [] (k:=fi)
 clear h;revert h15
 refine bI fun v9 h10=>brI (fun h11=>?_) fun h11=>?_
 ·
  refine bI fun v12 h13=>brI (fun h14=>?_) fun h14=>?_
  ·
   intro h
   obtain rfl:=oj h
   exact Xa [.ix 0,.pure _ (aI .i64 v9),.go true,.go true,.ix 1,.go true,.go true,.pure _ (aI .i64 v12),.go true,.go true,.go true,.ix 0,.go true,.go true,.go true,.go true,.ix 1,.go true,.go true,.go true,.wrap,.go true] (o:=by repeat' first|apply Ya|exact pcM|exact((X9 h11 h14))|exact(Xd (X9 h11 h14))|exact(X47 (X9 h11 h14))|exact Xw) (k:=wkT [] (X3.glue J))
  intro h
  obtain rfl:=oj h
  exact Xa [.ix 0,.pure _ (aI .i64 v9),.go true,.go true,.ix 1,.go true,.go true,.pure _ (aI .i64 v12),.go true,.go false,.go false,.go false,.go false,.go false,.go false,.go false,.go false,.go false,.go false] (o:=by repeat' first|apply Ya|exact pcM|exact((X9 h11 h14))|exact(Xd (X9 h11 h14))|exact(X88 (X9 h11 h14))|exact Xw) (k:=wkT [] (X3.glue J))
 intro h
 obtain rfl:=oj h
 exact Xa [.ix 0,.pure _ (aI .i64 v9),.go false,.go false,.go false,.go false,.go false,.go false,.go false,.go false,.go false,.go false,.go false,.go false,.go false,.go false,.go false] (o:=by repeat' first|apply Ya|exact pcM|exact((Xb h11 rfl))|exact(Xd (Xb h11 rfl))|exact(X88 (Xb h11 rfl))|exact Xw) (k:=wkT [] (X3.glue J))⟩
instance Xp7:PCs Tryz.prog 167 (∀ (a0:Int) (r:Bool),X5e a0=some r->X0l Tryz.prog 167 [(aI .i64 a0)] (aB r)):=⟨fun a0 r h=>by
 refine X0l.sym X6 X035 (nt:=6) rfl rfl ?_ okM
 unfold X5e at h
 revert h
 exact fun e=>oj e▸Xa [] (k:=fi)⟩
instance Xm7:PCs Tryz.prog 146 (∀ (a0:Int) (a1:Int) (r:Int),X2s a0 a1=some r->X0l Tryz.prog 146 [(aI .i64 a0),(aI .i64 a1)] (aI .i64 r)):=⟨fun a0 a1 r h=>by
 refine X0l.sym X6 X03d (nt:=20) rfl rfl ?_ okM
 unfold X2s at h
 revert h
 exact bI fun v1 h2=>bI fun v3 h4=>brI (fun h5=>brI (fun h6=>fun e=>oj e▸Xa [.pure _ (aB v1),.pure _ (aB v3),Bt,Bt] (k:=fi)) fun h6=>fun e=>oj e▸Xa [.pure _ (aB v1),.pure _ (aB v3),Bt,Bf] (k:=fi)) fun h5=>brI (fun h7=>fun e=>oj e▸Xa [.pure _ (aB v1),.pure _ (aB v3),Bf,Bt] (k:=fi)) fun h7=>brI (fun h8=>fun e=>oj e▸Xa [.pure _ (aB v1),.pure _ (aB v3),Bf,Bf,Bt] (k:=fi)) fun h8=>brI (fun h9=>fun e=>oj e▸Xa [.pure _ (aB v1),.pure _ (aB v3),Bf,Bf,Bf,Bt] (k:=fi)) fun h9=>fun e=>oj e▸Xa [.pure _ (aB v1),.pure _ (aB v3),Bf,Bf,Bf,Bf] (k:=fi)⟩
theorem Xfz {Q:Xz->St->Mu->Prop} {μ:Mu} (Xum:(List Int)) (hl:Xum.length<=140737488355328):∀ (xs:List Int) (k:Nat) (hx:Xum.drop k=xs) (o:X6x) (h:X5l Xum xs k  = some o)
  (C0:o=X6x.x0->X3 Tryz.prog 18 0 Q (.exit (.exit 0)) [] ⟨fr [(3,(aI .i64 0))],hp ([]),0⟩ μ)
  (C1:∀ (Xa1:Int),o=X6x.x1 Xa1->X3 Tryz.prog 18 0 Q (.exit .ret) [] ⟨fr [(2,(aI .i64 Xa1))],hp ([]),0⟩ μ),
  X3 Tryz.prog 18 0 Q (.loop (X5p 0 (Xj Tryz.f145))) [] ⟨fr [(3,(aI .i64 0)),(6,(Lf (List.map (aI .i64) Xum))),(7,(aI .i64 (Xum.length:Int))),(8,(aI .i64 (k:Int)))],hp ([]),0⟩ μ:=by
 intro xs
 induction xs with
 |nil =>
  intro k hx  o h C0 C1
  have hk:=drop_nil hx
  have hc:decide ((k:Int)<(Xum.length:Int))=false:=Yf (by omega)
  rw[X5l] at h
  refine X3.round ?_
  revert h
  exact fun e=>Xa [Bf] (k:=wkT [] (C0  (oj e).symm))
 |cons x xs ih =>
  intro k hx  o h C0 C1
  obtain⟨hk,hg,hx1⟩:=X1a hx
  have hc:decide ((k:Int)<(Xum.length:Int))=true:=Yt (by omega)
  rw[X5l] at h
  refine X3.round ?_
  revert h
  refine brI (fun h6=>fun e=>Xa [Bt,.el (aI .i64 x),Bt] (k:=wkT [] (C1 _  (oj e).symm))) fun h6=>rnI [Bt,.el (aI .i64 x),Bf] ?_
  intro h
  exact wkT [] (ih (k+1) hx1  o h C0 C1)
instance Xwr:PCs Tryz.prog 145 (∀ (a0:(List Int)) (r:Int),Xci a0=some r->X0l Tryz.prog 145 [(Lf (List.map (aI .i64) a0))] (aI .i64 r)):=⟨fun a0 r h=>by
 refine X0l.sym X6 X03e (nt:=18) rfl rfl ?_ okM
 unfold Xci at h
 revert h
 refine bI fun u1 h2=>?_
 have qh2:=X1c h2
 refine bI fun o7 h8=>rnI [.el (aI .i64 (a0.length:Int))] ?_
 intro h
 refine wkT [] (X3.cut (Xfz a0 qh2 a0 0 (by simp) _ h8 ?_ ?_))
 ·
  intro eo7;subst eo7
  refine X3.glue ?_
  try dsimp only at h
  revert h
  exact fun e=>oj e▸Xa [] (k:=fi)
 intro Xa1 eo7;subst eo7
 refine X3.glue ?_
 try dsimp only at h
 revert h
 exact fun e=>oj e▸Xa [] (k:=fi)⟩
instance Xtv:PCs Tryz.prog 116 (∀ (a0:X2) (a1:X2) (r:Int),X65 a0 a1=some r->X0l Tryz.prog 116 [(X1 a0),(X1 a1)] (aI .i64 r)):=⟨fun a0 a1 r h=>by
 refine X0l.sym X6 X03x (nt:=26) rfl rfl ?_ okM
 unfold X65 at h
 revert h
 exact bI fun v1 h2=>bI fun v3 h4=>bI fun v5 h6=>bI fun v7 h8=>fun e=>oj e▸Xa [.pure _ (aI .i64 v1),.pure _ (aI .i64 v3),.pure _ (aI .i64 v5),.pure _ (aI .i64 v7)] (k:=fi)⟩
theorem X7b {Q:Xz->St->Mu->Prop} {μ:Mu} (X19:(List X2)) (hl:X19.length<=140737488355328):∀ (xs:List X2) (k:Nat) (hx:X19.drop k=xs) (o:X5z) (h:X2u X19 xs k  = some o)
  (C0:o=X5z.x0->X3 Tryz.prog 33 0 Q (.exit (.exit 0)) [] ⟨fr [],hp ([]),0⟩ μ)
  (C1:o=X5z.x1->X3 Tryz.prog 33 0 Q (.exit .ret) [] ⟨fr [(2,(aI .i64 8))],hp ([]),0⟩ μ),
  X3 Tryz.prog 33 0 Q (.loop (X5p 0 (Xj Tryz.f77))) [] ⟨fr [(0,(Lf (X19.map X1))),(8,(Lf (X19.map X1))),(9,(aI .i64 (X19.length:Int))),(10,(aI .i64 (k:Int)))],hp ([]),0⟩ μ:=by
 intro xs
 induction xs with
 |nil =>
  intro k hx  o h C0 C1
  have hk:=drop_nil hx
  have hc:decide ((k:Int)<(X19.length:Int))=false:=Yf (by omega)
  rw[X2u] at h
  refine X3.round ?_
  revert h
  exact fun e=>Xa [Bf] (k:=wkT [] (C0  (oj e).symm))
 |cons x xs ih =>
  intro k hx  o h C0 C1
  obtain⟨hk,hg,hx1⟩:=X1a hx
  have hc:decide ((k:Int)<(X19.length:Int))=true:=Yt (by omega)
  rw[X2u] at h
  refine X3.round ?_
  revert h
  refine bI fun Xsi h60=>rnI [Bt,.el (X1 x),.stop 6] ?_
  intro h
  refine X3.join (s':=⟨fr [(0,(Lf (X19.map X1))),(8,(Lf (X19.map X1))),(9,(aI .i64 (X19.length:Int))),(10,(aI .i64 (k:Int))),(31,(aB Xsi))],hp ([]),0⟩) ?_ (fun J=>X3.cut ?_)
  ·
   revert h
   refine brI (fun h61=>fun e=>Xa [Bt] (k:=wkT [] (C1  (oj e).symm))) fun h61=>rnI [Bf] ?_
   intro h
   exact wkT [] (ih (k+1) hx1  o h C0 C1)
  clear h;revert h60
  refine bI fun v52 h53=>brI (fun h54=>?_) fun h54=>?_
  ·
   intro h
   obtain rfl:=oj h
   exact Xa [.pure _ (aB v52),.go false,.go false,.go false,.no,.no,.no,.no,.no,.no,.no,.no,.go false,.go true] (k:=wkT [] (X3.glue J))
  refine brI (fun h55=>?_) fun h55=>?_
  ·
   refine bI fun e56 h57=>?_
   try have qh57:=Xc h57
   refine bI fun v58 h59=>?_
   intro h
   obtain rfl:=oj h
   exact Xa [.pure _ (aB v52),.go true,.go true,.go true,.go true,.go true,.go true,.wrap,.go true,.el (X1 e56),.go true,.go true,.go true,.pure _ (aI .i64 v58),.go true,.go true] (k:=wkT [] (X3.glue J))
  intro h
  obtain rfl:=oj h
  exact Xa [.pure _ (aB v52),.go true,.go true,.go true,.go false,.go false,.go false,.go false,.go false,.go false,.go false,.go false,.go true,.go false] (k:=wkT [] (X3.glue J))
instance X9t:PCs Tryz.prog 77 (∀ (a0:(List X2)) (r:Int),X4h a0=some r->X0l Tryz.prog 77 [(Lf (a0.map X1))] (aI .i64 r)):=⟨fun a0 r h=>by
 refine X0l.sym X6 fn77 (nt:=33) rfl rfl ?_ okM
 unfold X4h at h
 revert h
 refine brI (fun h1=>fun e=>oj e▸Xa [.el (aI .i64 (a0.length:Int)),Bt] (k:=fi)) fun h1=>bI fun u2 h3=>?_
 have qh3:=X1c h3
 refine bI fun o62 h63=>rnI [.el (aI .i64 (a0.length:Int)),Bf,.el (aI .i64 (a0.length:Int))] ?_
 intro h
 refine wkT [] (X3.cut (X7b a0 qh3 a0 0 (by simp) _ h63 ?_ ?_))
 ·
  intro eo62;subst eo62
  refine X3.glue ?_
  try dsimp only at h
  revert h
  exact fun e=>oj e▸Xa [] (k:=fi)
 intro eo62;subst eo62
 refine X3.glue ?_
 try dsimp only at h
 revert h
 exact fun e=>oj e▸Xa [] (k:=fi)⟩
instance Xtu:PCs Tryz.prog 99 (∀ (a0:Int) (r:Bool),X8n a0=some r->X0l Tryz.prog 99 [(aI .i64 a0)] (aB r)):=⟨fun a0 r h=>by
 refine X0l.sym X6 fn99 (nt:=11) rfl rfl ?_ okM
 unfold X8n at h
 revert h
 refine bI fun j4_2 h8=>rnI [.stop 1] ?_
 intro h
 refine X3.join (s':=⟨fr [(2,(aB j4_2))],hp ([]),0⟩) ?_ (fun J=>X3.cut ?_)
 ·
  revert h
  exact fun e=>oj e▸Xa [] (k:=fi)
 clear h;revert h8
 refine brI (fun h5=>?_) fun h5=>?_
 ·
  intro h
  obtain rfl:=oj h
  exact Xa [.go false,.go false,.go false,.go false] (k:=wkT [] (X3.glue J))
 refine bI fun v6 h7=>?_
 intro h
 obtain rfl:=oj h
 exact Xa [.go true,.go true,.go true,.pure _ (aI .i64 v6),.go true] (k:=wkT [] (X3.glue J))⟩
instance Xva:PCs Tryz.prog 135 (∀ (a0:X1e) (r:Xh×Int),Xc9 a0=some r->X0l Tryz.prog 135 [(X0h a0)] (AV.tup [(Xe r.1),(aI .i64 r.2)])):=⟨fun a0 r h=>by
 refine X0l.sym X6 X03i (nt:=34) rfl rfl ?_ okM
 unfold Xc9 at h
 revert h
 refine brI (fun h1=>?_) fun h1=>?_
 ·
  refine bI fun Xyo h9=>rnI [Bt,.stop 2] ?_
  intro h
  refine X3.join (s':=⟨fr [(1,(AV.ptr 0 0 0)),(2,(AV.ptr 1 0 0)),(15,(aB Xyo))],hp ([(0,Ob [(X0h a0)] 5),(1,Ob [(Xe (Xh.mk 0 (Xl.mk 0 0 0) 0 (X1x.mk 0 (X05.mk 0 0) (V2.mk 0 0))))] 10)]),2⟩) ?_ (fun J=>X3.cut ?_)
  ·
   revert h
   exact brI (fun h10=>fun e=>oj e▸Xa [Bt] (k:=fi)) fun h10=>fun e=>oj e▸Xa [Bf] (k:=fi)
  clear h;revert h9
  refine bI fun v6 h7=>brI (fun h8=>?_) fun h8=>?_
  ·
   intro h
   obtain rfl:=oj h
   exact Xa [.pure _ (aB v6),.go false,.go false,.go false,.go false] (k:=wkT [] (X3.glue J))
  intro h
  obtain rfl:=oj h
  exact Xa [.pure _ (aB v6),.go true,.go true,.go true,.go true] (k:=wkT [] (X3.glue J))
 refine bI fun Xso h18=>rnI [Bf,.stop 5] ?_
 intro h
 refine X3.join (s':=⟨fr [(1,(AV.ptr 0 0 0)),(2,(AV.ptr 1 0 0)),(29,(aB Xso))],hp ([(0,Ob [(X0h a0)] 5),(1,Ob [(Xe (Xh.mk 0 (Xl.mk 0 0 0) 0 (X1x.mk 0 (X05.mk 0 0) (V2.mk 0 0))))] 10)]),2⟩) ?_ (fun J=>X3.cut ?_)
 ·
  revert h
  exact brI (fun h19=>fun e=>oj e▸Xa [Bt] (k:=fi)) fun h19=>fun e=>oj e▸Xa [Bf] (k:=fi)
 clear h;revert h18
 refine brI (fun h15=>?_) fun h15=>?_
 ·
  intro h
  obtain rfl:=oj h
  exact Xa [.go false,.go false,.go false,.go false,.go false] (k:=wkT [] (X3.glue J))
 refine bI fun v16 h17=>?_
 intro h
 obtain rfl:=oj h
 exact Xa [.go true,.go true,.go true,.go true,.pure _ (aB v16),.go true] (k:=wkT [] (X3.glue J))⟩
instance Xqs:PCs Tryz.prog 100 (∀ (a0:X1e) (r:Int),X6q a0=some r->X0l Tryz.prog 100 [(X0h a0)] (aI .i64 r)):=⟨fun a0 r h=>by
 refine X0l.sym X6 X042 (nt:=11) rfl rfl ?_ okM
 unfold X6q at h
 revert h
 exact bI fun v1 h2=>fun e=>oj e▸Xa [.pure _ (AV.tup [(Xe v1.1),(aI .i64 v1.2)])] (k:=fi)⟩
theorem Xfo {Q:Xz->St->Mu->Prop} {μ:Mu} (Xo:X0a) (Xbk:(List Int)) (hl:Xbk.length<=140737488355328):∀ (xs:List Int) (k:Nat) (hx:Xbk.drop k=xs) (X9a:Bool) (o:X8s) (h:X3q Xo Xbk xs k X9a=some o)
  (C0:∀ (Xe9:Bool),o=X8s.x0 Xe9->X3 Tryz.prog 202 0 Q (.exit (.exit 0)) [] ⟨fr [(1,(AV.ptr 0 0 0)),(11,(aB Xe9))],hp ([(0,Ob [(Xr false Xo)] 9)]),1⟩ μ),
  X3 Tryz.prog 202 0 Q (.loop (X5p 0 (Xj Tryz.f61))) [] ⟨fr [(1,(AV.ptr 0 0 0)),(11,(aB X9a)),(122,(Lf (List.map (aI .i64) Xbk))),(123,(aI .i64 (Xbk.length:Int))),(124,(aI .i64 (k:Int)))],hp ([(0,Ob [(Xr false Xo)] 9)]),1⟩ μ:=by
 intro xs
 induction xs with
 |nil =>
  intro k hx X9a o h C0
  have hk:=drop_nil hx
  have hc:decide ((k:Int)<(Xbk.length:Int))=false:=Yf (by omega)
  rw[X3q] at h
  refine X3.round ?_
  revert h
  exact fun e=>Xa [Bf] (k:=wkT [] (C0 _  (oj e).symm))
 |cons x xs ih =>
  intro k hx X9a o h C0
  obtain⟨hk,hg,hx1⟩:=X1a hx
  have hc:decide ((k:Int)<(Xbk.length:Int))=true:=Yt (by omega)
  rw[X3q] at h
  refine X3.round ?_
  revert h
  refine bI fun Xsh h76=>rnI [Bt,.el (aI .i64 x),.stop 10] ?_
  intro h
  refine X3.join (s':=⟨fr [(1,(AV.ptr 0 0 0)),(11,(aB Xsh)),(122,(Lf (List.map (aI .i64) Xbk))),(123,(aI .i64 (Xbk.length:Int))),(124,(aI .i64 (k:Int)))],hp ([(0,Ob [(Xr false Xo)] 9)]),1⟩) ?_ (fun J=>X3.cut ?_)
  ·
   exact Xa [] (k:=wkT [] (ih (k+1) hx1 _ o h C0))
  clear h;revert h76
  refine brI (fun h73=>?_) fun h73=>?_
  ·
   refine bI fun v74 h75=>?_
   intro h
   obtain rfl:=oj h
   exact Xa [.go true,.go true,.pure _ (aB v74)] (k:=wkT [] (X3.glue J))
  intro h
  obtain rfl:=oj h
  exact Xa [.go false,.go false] (k:=wkT [] (X3.glue J))
theorem Xfn {Q:Xz->St->Mu->Prop} {μ:Mu} (Xfi:X0a) (Xbj:(List X1e)) (hl:Xbj.length<=140737488355328):∀ (xs:List X1e) (k:Nat) (hx:Xbj.drop k=xs) (Xhy:Bool) (o:X8r) (h:X3p Xfi Xbj xs k Xhy=some o)
  (C0:∀ (Xe8:Bool),o=X8r.x0 Xe8->X3 Tryz.prog 202 0 Q (.exit (.exit 2)) [] ⟨fr [(1,(AV.ptr 0 0 0)),(11,(aB Xe8))],hp ([(0,Ob [(Xr false Xfi)] 9)]),1⟩ μ),
  X3 Tryz.prog 202 0 Q (.loop (X5p 1 (Xj Tryz.f61))) [] ⟨fr [(1,(AV.ptr 0 0 0)),(11,(aB Xhy)),(135,(Lf (Xbj.map X0h))),(136,(aI .i64 (Xbj.length:Int))),(137,(aI .i64 (k:Int)))],hp ([(0,Ob [(Xr false Xfi)] 9)]),1⟩ μ:=by
 intro xs
 induction xs with
 |nil =>
  intro k hx Xhy o h C0
  have hk:=drop_nil hx
  have hc:decide ((k:Int)<(Xbj.length:Int))=false:=Yf (by omega)
  rw[X3p] at h
  refine X3.round ?_
  revert h
  exact fun e=>Xa [Bf] (k:=wkT [] (C0 _  (oj e).symm))
 |cons x xs ih =>
  intro k hx Xhy o h C0
  obtain⟨hk,hg,hx1⟩:=X1a hx
  have hc:decide ((k:Int)<(Xbj.length:Int))=true:=Yt (by omega)
  rw[X3p] at h
  refine X3.round ?_
  revert h
  refine bI fun Xnm h105=>rnI [Bt,.el (X0h x),.stop 15] ?_
  intro h
  refine X3.join (s':=⟨fr [(1,(AV.ptr 0 0 0)),(11,(aB Xnm)),(135,(Lf (Xbj.map X0h))),(136,(aI .i64 (Xbj.length:Int))),(137,(aI .i64 (k:Int)))],hp ([(0,Ob [(Xr false Xfi)] 9)]),1⟩) ?_ (fun J=>X3.cut ?_)
  ·
   exact Xa [] (k:=wkT [] (ih (k+1) hx1 _ o h C0))
  clear h;revert h105
  refine brI (fun h102=>?_) fun h102=>?_
  ·
   refine bI fun v103 h104=>?_
   intro h
   obtain rfl:=oj h
   exact Xa [.go true,.go true,.pure _ (aI .i64 v103),.go true] (k:=wkT [] (X3.glue J))
  intro h
  obtain rfl:=oj h
  exact Xa [.go false,.go false,.go false] (k:=wkT [] (X3.glue J))
theorem Xfm {Q:Xz->St->Mu->Prop} {μ:Mu} (Xpd:X0a) (Xbi:(List X1x)) (hl:Xbi.length<=140737488355328):∀ (xs:List X1x) (k:Nat) (hx:Xbi.drop k=xs) (Xhw:Bool) (o:X8q) (h:X3o Xpd Xbi xs k Xhw=some o)
  (C0:∀ (Xe7:Bool),o=X8q.x0 Xe7->X3 Tryz.prog 202 0 Q (.exit (.exit 4)) [] ⟨fr [(1,(AV.ptr 0 0 0)),(11,(aB Xe7))],hp ([(0,Ob [(Xr false Xpd)] 9)]),1⟩ μ),
  X3 Tryz.prog 202 0 Q (.loop (X5p 2 (Xj Tryz.f61))) [] ⟨fr [(1,(AV.ptr 0 0 0)),(11,(aB Xhw)),(149,(Lf (Xbi.map X01))),(150,(aI .i64 (Xbi.length:Int))),(151,(aI .i64 (k:Int)))],hp ([(0,Ob [(Xr false Xpd)] 9)]),1⟩ μ:=by
 intro xs
 induction xs with
 |nil =>
  intro k hx Xhw o h C0
  have hk:=drop_nil hx
  have hc:decide ((k:Int)<(Xbi.length:Int))=false:=Yf (by omega)
  rw[X3o] at h
  refine X3.round ?_
  revert h
  exact fun e=>Xa [Bf] (k:=wkT [] (C0 _  (oj e).symm))
 |cons x xs ih =>
  intro k hx Xhw o h C0
  obtain⟨hk,hg,hx1⟩:=X1a hx
  have hc:decide ((k:Int)<(Xbi.length:Int))=true:=Yt (by omega)
  rw[X3o] at h
  refine X3.round ?_
  revert h
  refine bI fun Xnh h134=>rnI [Bt,.el (X01 x),.stop 20] ?_
  intro h
  refine X3.join (s':=⟨fr [(1,(AV.ptr 0 0 0)),(11,(aB Xnh)),(149,(Lf (Xbi.map X01))),(150,(aI .i64 (Xbi.length:Int))),(151,(aI .i64 (k:Int)))],hp ([(0,Ob [(Xr false Xpd)] 9)]),1⟩) ?_ (fun J=>X3.cut ?_)
  ·
   exact Xa [] (k:=wkT [] (ih (k+1) hx1 _ o h C0))
  clear h;revert h134
  refine brI (fun h131=>?_) fun h131=>?_
  ·
   refine bI fun v132 h133=>?_
   intro h
   obtain rfl:=oj h
   exact Xa [.go true,.go true,.go true,.pure _ (aI .i64 v132),.go true] (k:=wkT [] (X3.glue J))
  intro h
  obtain rfl:=oj h
  exact Xa [.go false,.go false,.go false,.go false] (k:=wkT [] (X3.glue J))
end Go.Av.Tryz