/- Printed by decomp.py: that the program computes the functions. -/
import Derived.Test.YtkjlgmgfhgamlaaGreatDCert3Z
set_option linter.all false

namespace Go.Av.Tryz
open Go.Proofs Go.D
set_option maxRecDepth 10000
set_option maxHeartbeats 40000000
instance Xtv:PCs Tryz.prog 95 (∀ (a0:X03) (r:Int×Int),X7z a0=some r->X0g Tryz.prog 95 [(Xu false a0)] (AV.tup [(aI .i64 r.1),(aI .i64 r.2)])):=⟨fun a0 r h=>by
 refine X0g.sym X6 fn95 (nt:=20) rfl rfl ?_ okM
 unfold X7z at h
 revert h
 refine bI fun v1 h2=>brI (fun h3=>fun e=>oj e▸X8 [.pure _ (aI .i64 v1),Bt] (k:=fi)) fun h3=>bI fun w22 h41=>?_
 intro h
 obtain⟨Xw5,Xw4⟩:=w22
 try dsimp only at h
 refine X0c [.pure _ (aI .i64 v1),Bf] ?_
 refine X3.joinOp (s':=⟨fr [(17,(AV.tup [(aI .i64 Xw5),(aI .i64 Xw4)]))],hp ([]),0⟩) ?_ (fun J=>?_)
 ·
  revert h
  exact fun e=>oj e▸X8 [] (k:=fi)
 clear h;revert h41
 intro h
 refine X3.inline X6 X03r rfl rfl rfl rfl rfl trivial trivial rfl rfl ?_
 refine X0c [] ?_
 refine X3.round ?_
 revert h
 refine brI (fun h23=>?_) fun h23=>?_
 ·
  refine rnI [Bt,.el (AV.agg [(Lf (a0.Arg.map X5)),(AV.fn 133 [])]),.el (aI .i64 (a0.Arg.length:Int)),Bt] ?_
  intro h
  refine X3.round ?_
  revert h
  refine brI (fun h24=>?_) fun h24=>?_
  ·
   refine rnI [Bt,.el (AV.agg [(Lf (a0.Where.map X5)),(AV.fn 134 [])]),.el (aI .i64 (a0.Where.length:Int)),Bt] ?_
   intro h
   refine X3.round ?_
   simp only[Option.some.injEq,Prod.mk.injEq] at h
   obtain⟨rfl,rfl⟩:=h
   refine X0c [Bf] ?_
   refine X3.back (by intro id h;cases h) rfl ?_
   exact wkT [] (J)
  refine bI fun v25 h26=>rnI [Bt,.el (AV.agg [(Lf (a0.Where.map X5)),(AV.fn 134 [])]),.el (aI .i64 (a0.Where.length:Int)),Bf,.pure _ (AV.tup [(aI .i64 v25.1),(aI .i64 v25.2)])] ?_
  refine brI (fun h27=>?_) fun h27=>?_
  ·
   refine bI fun e28 h29=>?_
   try have qh29:=Xq h29
   intro h
   simp only[Option.some.injEq,Prod.mk.injEq] at h
   obtain⟨rfl,rfl⟩:=h
   refine X0c [Bt,.el (X5 e28)] ?_
   refine X3.back (by intro id h;cases h) rfl ?_
   exact wkT [] (J)
  refine rnI [Bf] ?_
  intro h
  refine X3.round ?_
  simp only[Option.some.injEq,Prod.mk.injEq] at h
  obtain⟨rfl,rfl⟩:=h
  refine X0c [Bf] ?_
  refine X3.back (by intro id h;cases h) rfl ?_
  exact wkT [] (J)
 refine bI fun v30 h31=>rnI [Bt,.el (AV.agg [(Lf (a0.Arg.map X5)),(AV.fn 133 [])]),.el (aI .i64 (a0.Arg.length:Int)),Bf,.pure _ (AV.tup [(aI .i64 v30.1),(aI .i64 v30.2)])] ?_
 refine brI (fun h32=>?_) fun h32=>?_
 ·
  refine bI fun e33 h34=>?_
  try have qh34:=Xq h34
  intro h
  simp only[Option.some.injEq,Prod.mk.injEq] at h
  obtain⟨rfl,rfl⟩:=h
  refine X0c [Bt,.el (X5 e33)] ?_
  refine X3.back (by intro id h;cases h) rfl ?_
  exact wkT [] (J)
 refine rnI [Bf] ?_
 intro h
 refine X3.round ?_
 revert h
 refine brI (fun h35=>?_) fun h35=>?_
 ·
  refine rnI [Bt,.el (AV.agg [(Lf (a0.Where.map X5)),(AV.fn 134 [])]),.el (aI .i64 (a0.Where.length:Int)),Bt] ?_
  intro h
  refine X3.round ?_
  simp only[Option.some.injEq,Prod.mk.injEq] at h
  obtain⟨rfl,rfl⟩:=h
  refine X0c [Bf] ?_
  refine X3.back (by intro id h;cases h) rfl ?_
  exact wkT [] (J)
 refine bI fun v36 h37=>rnI [Bt,.el (AV.agg [(Lf (a0.Where.map X5)),(AV.fn 134 [])]),.el (aI .i64 (a0.Where.length:Int)),Bf,.pure _ (AV.tup [(aI .i64 v36.1),(aI .i64 v36.2)])] ?_
 refine brI (fun h38=>?_) fun h38=>?_
 ·
  refine bI fun e39 h40=>?_
  try have qh40:=Xq h40
  intro h
  simp only[Option.some.injEq,Prod.mk.injEq] at h
  obtain⟨rfl,rfl⟩:=h
  refine X0c [Bt,.el (X5 e39)] ?_
  refine X3.back (by intro id h;cases h) rfl ?_
  exact wkT [] (J)
 refine rnI [Bf] ?_
 intro h
 refine X3.round ?_
 simp only[Option.some.injEq,Prod.mk.injEq] at h
 obtain⟨rfl,rfl⟩:=h
 refine X0c [Bf] ?_
 refine X3.back (by intro id h;cases h) rfl ?_
 exact wkT [] (J)⟩
instance Xr6:PCs Tryz.prog 69 (∀ (a0:X03) (r:Bool),X5e a0=some r->X0g Tryz.prog 69 [(Xu false a0)] (aB r)):=⟨fun a0 r h=>by
 refine X0g.sym X6 fn69 (nt:=16) rfl rfl ?_ okM
 unfold X5e at h
 revert h
 exact bI fun v1 h2=>fun e=>oj e▸X8 [.pure _ (AV.tup [(aI .i64 v1.1),(aI .i64 v1.2)])] (k:=fi)⟩
instance Xua:PCs Tryz.prog 96 (∀ (a0:Int) (r:Int×Int×Bool×Bool×Bool×Bool),X8x a0=some r->X0g Tryz.prog 96 [(aI .u8 a0)] (AV.tup [(aI .i64 r.1),(aI .i64 r.2.1),(aB r.2.2.1),(aB r.2.2.2.1),(aB r.2.2.2.2.1),(aB r.2.2.2.2.2)])):=⟨fun a0 r h=>by
 refine X0g.sym X6 fn96 (nt:=23) rfl rfl ?_ okM
 unfold X8x at h
 revert h
 refine bI fun w8 h16=>?_
 intro h
 obtain⟨j8_2,j8_3,j8_4,j8_5,j8_6,j8_7⟩:=w8
 try dsimp only at h
 refine X0c [] ?_
 refine X3.join (s':=⟨fr [(2,(aI .i64 j8_2)),(3,(aI .i64 j8_3)),(4,(aB j8_4)),(5,(aB j8_5)),(6,(aB j8_6)),(7,(aB j8_7))],hp ([]),0⟩) ?_ (fun J=>X3.cut ?_)
 ·
  revert h
  exact fun e=>oj e▸X8 [] (k:=fi)
 clear h;revert h16
 refine brI (fun h9=>?_) fun h9=>?_
 ·
  intro h
  obtain rfl:a0=1:=eq_of_beq h9
  simp only[Option.some.injEq,Prod.mk.injEq] at h
  obtain⟨rfl,rfl,rfl,rfl,rfl,rfl⟩:=h
  exact X8 [Bt] (k:=wkT [] (X3.glue J))
 refine brI (fun h10=>?_) fun h10=>?_
 ·
  intro h
  obtain rfl:a0=2:=eq_of_beq h10
  simp only[Option.some.injEq,Prod.mk.injEq] at h
  obtain⟨rfl,rfl,rfl,rfl,rfl,rfl⟩:=h
  exact X8 [Bf,Bt] (k:=wkT [] (X3.glue J))
 refine brI (fun h11=>?_) fun h11=>?_
 ·
  intro h
  obtain rfl:a0=3:=eq_of_beq h11
  simp only[Option.some.injEq,Prod.mk.injEq] at h
  obtain⟨rfl,rfl,rfl,rfl,rfl,rfl⟩:=h
  exact X8 [Bf,Bf,Bt] (k:=wkT [] (X3.glue J))
 refine brI (fun h12=>?_) fun h12=>?_
 ·
  intro h
  obtain rfl:a0=4:=eq_of_beq h12
  simp only[Option.some.injEq,Prod.mk.injEq] at h
  obtain⟨rfl,rfl,rfl,rfl,rfl,rfl⟩:=h
  exact X8 [Bf,Bf,Bf,Bt] (k:=wkT [] (X3.glue J))
 refine brI (fun h13=>?_) fun h13=>?_
 ·
  intro h
  simp only[Option.some.injEq,Prod.mk.injEq] at h
  obtain⟨rfl,rfl,rfl,rfl,rfl,rfl⟩:=h
  exact X8 [Bf,Bf,Bf,Bf,Bt] (k:=wkT [] (X3.glue J))
 refine brI (fun h14=>?_) fun h14=>?_
 ·
  intro h
  simp only[Option.some.injEq,Prod.mk.injEq] at h
  obtain⟨rfl,rfl,rfl,rfl,rfl,rfl⟩:=h
  exact X8 [Bf,Bf,Bf,Bf,Bf,Bt] (k:=wkT [] (X3.glue J))
 refine brI (fun h15=>?_) fun h15=>?_
 ·
  intro h
  simp only[Option.some.injEq,Prod.mk.injEq] at h
  obtain⟨rfl,rfl,rfl,rfl,rfl,rfl⟩:=h
  exact X8 [Bf,Bf,Bf,Bf,Bf,Bf,Bt] (k:=wkT [] (X3.glue J))
 intro h
 simp only[Option.some.injEq,Prod.mk.injEq] at h
 obtain⟨rfl,rfl,rfl,rfl,rfl,rfl⟩:=h
 exact X8 [Bf,Bf,Bf,Bf,Bf,Bf,Bf] (k:=wkT [] (X3.glue J))⟩
instance Xx1:PCs Tryz.prog 97 (∀ (a0:Bool) (a1:Int) (r:Int),X8w a0 a1=some r->X0g Tryz.prog 97 [(aB a0),(aI .i64 a1)] (aI .i64 r)):=⟨fun a0 a1 r h=>by
 refine X0g.sym X6 fn97 (nt:=7) rfl rfl ?_ okM
 unfold X8w at h
 revert h
 exact brI (fun h1=>fun e=>oj e▸X8 [Bt] (k:=fi)) fun h1=>fun e=>oj e▸X8 [Bf] (k:=fi)⟩
instance Xq5:PCs Tryz.prog 101 (∀ (a0:Int) (r:Bool),X42 a0=some r->X0g Tryz.prog 101 [(aI .i64 a0)] (aB r)):=⟨fun a0 r h=>by
 refine X0g.sym X6 X047 (nt:=9) rfl rfl ?_ okM
 unfold X42 at h
 revert h
 exact fun e=>oj e▸X8 [] (k:=fi)⟩
instance Xq6:PCs Tryz.prog 102 (∀ (a0:Int) (r:Bool),X4r a0=some r->X0g Tryz.prog 102 [(aI .i64 a0)] (aB r)):=⟨fun a0 r h=>by
 refine X0g.sym X6 X046 (nt:=9) rfl rfl ?_ okM
 unfold X4r at h
 revert h
 exact bI fun v1 h2=>fun e=>oj e▸X8 [.pure _ (aB v1)] (k:=fi)⟩
instance Xr4:PCs Tryz.prog 62 (∀ (a0:Xg) (r:Int),X2s a0=some r->X0g Tryz.prog 62 [(Xn a0)] (aI .i64 r)):=⟨fun a0 r h=>by
 refine X0g.sym X6 fn62 (nt:=59) rfl rfl ?_ okM
 unfold X2s at h
 revert h
 refine bI fun Xz7 h4=>rnI [] ?_
 intro h
 refine X3.join (s':=⟨fr [(1,(AV.ptr 0 0 0)),(3,(aB false)),(4,(AV.ptr 1 0 0)),(10,(aI .u8 a0.Kind)),(11,(aB Xz7))],hp ([(0,Ob [(Xn a0)] 10),(1,Ob [(Xn (Xg.mk a0.Kind (Xl.mk 0 0 0) 0 (X28.mk 0 (X00.mk 0 0) (V2.mk 0 0))))] 10)]),2⟩) ?_ (fun J=>X3.cut ?_)
 ·
  revert h
  refine bI fun w12 h20=>?_
  intro h
  obtain⟨X02r,X019⟩:=w12
  try dsimp only at h
  refine X0c [] ?_
  refine X3.join (s':=⟨fr [(1,(AV.ptr 0 0 0)),(3,(aB X02r)),(4,(AV.ptr 1 0 0))],hp ([(0,Ob [(Xn a0)] 10),(1,Ob [(Xn X019)] 10)]),2⟩) ?_ (fun J=>X3.cut ?_)
  ·
   revert h
   exact brI (fun h21=>fun e=>oj e▸X8 [Bt] (k:=fi)) fun h21=>fun e=>oj e▸X8 [Bf] (k:=fi)
  clear h;revert h20
  refine brI (fun h13=>?_) fun h13=>?_
  ·
   refine bI fun v14 h15=>?_
   intro h
   simp only[Option.some.injEq,Prod.mk.injEq] at h
   obtain⟨rfl,rfl⟩:=h
   exact X8 [Bt,.pure _ (aB v14)] (k:=wkT [] (X3.glue J))
  refine brI (fun h16=>?_) fun h16=>?_
  ·
   refine bI fun v17 h18=>?_
   intro h
   simp only[Option.some.injEq,Prod.mk.injEq] at h
   obtain⟨rfl,rfl⟩:=h
   exact X8 [Bf,Bt,.pure _ (aB v17)] (k:=wkT [] (X3.glue J))
  refine brI (fun h19=>?_) fun h19=>?_
  ·
   intro h
   simp only[Option.some.injEq,Prod.mk.injEq] at h
   obtain⟨rfl,rfl⟩:=h
   exact X8 [Bf,Bf,Bt] (k:=wkT [] (X3.glue J))
  intro h
  simp only[Option.some.injEq,Prod.mk.injEq] at h
  obtain⟨rfl,rfl⟩:=h
  exact X8 [Bf,Bf,Bf] (k:=wkT [] (X3.glue J))
 clear h;revert h4
 refine brI (fun h3=>?_) fun h3=>?_
 ·
  intro h
  obtain rfl:=oj h
  exact X8 [Bt] (k:=wkT [] (X3.glue J))
 intro h
 obtain rfl:=oj h
 exact X8 [Bf] (k:=wkT [] (X3.glue J))⟩
theorem Xfv {Q:Xw->St->Mu->Prop} {μ:Mu} (Xrd:(List X0v)) (hl:Xrd.length<=140737488355328):∀ (xs:List X0v) (k:Nat) (hx:Xrd.drop k=xs) (o:X6l) (h:X4c Xrd xs k  = some o)
  (C0:o=X6l.x0->X3 Tryz.prog 26 0 Q (.exit (.exit 0)) [] ⟨fr [],hp ([]),0⟩ μ)
  (C1:o=X6l.x1->X3 Tryz.prog 26 0 Q (.exit .ret) [] ⟨fr [(2,(aB false))],hp ([]),0⟩ μ),
  X3 Tryz.prog 26 0 Q (.loop (X56 0 (Xb Tryz.f98))) [] ⟨fr [(5,(Lf (Xrd.map Xz))),(6,(aI .i64 (Xrd.length:Int))),(7,(aI .i64 (k:Int)))],hp ([]),0⟩ μ:=by
 intro xs
 induction xs with
 |nil =>
  intro k hx  o h C0 C1
  have hk:=X1l hx
  have hc:decide ((k:Int)<(Xrd.length:Int))=false:=Yf (by omega)
  rw[X4c] at h
  refine X3.round ?_
  revert h
  exact fun e=>X8 [Bf] (k:=wkT [] (C0  (oj e).symm))
 |cons x xs ih =>
  intro k hx  o h C0 C1
  obtain⟨hk,hg,hx1⟩:=X10 hx
  have hc:decide ((k:Int)<(Xrd.length:Int))=true:=Yt (by omega)
  rw[X4c] at h
  refine X3.round ?_
  revert h
  refine bI fun Xt0 h35=>rnI [Bt,.el (Xz x),.stop 4] ?_
  intro h
  refine X3.join (s':=⟨fr [(5,(Lf (Xrd.map Xz))),(6,(aI .i64 (Xrd.length:Int))),(7,(aI .i64 (k:Int))),(24,(aB Xt0))],hp ([]),0⟩) ?_ (fun J=>X3.cut ?_)
  ·
   revert h
   refine brI (fun h36=>fun e=>X8 [Bt] (k:=wkT [] (C1  (oj e).symm))) fun h36=>rnI [Bf] ?_
   intro h
   exact wkT [] (ih (k+1) hx1  o h C0 C1)
  clear h;revert h35
  refine brI (fun h31=>?_) fun h31=>?_
  ·
   intro h
   obtain rfl:=oj h
   exact X8 [.go false,.go false,.go false,.go false,.go false,.go false,.go false] (o:=by repeat' first|apply Ya|exact pcM|exact((X9 h31 rfl))|exact(Xr (X9 h31 rfl))|exact(X8r (X9 h31 rfl))|exact X07) (k:=wkT [] (X3.glue J))
  refine brI (fun h32=>?_) fun h32=>?_
  ·
   intro h
   obtain rfl:=oj h
   exact X8 [.go true,.go true,.go true,.go false,.go false,.go false,.go false] (o:=by repeat' first|apply Ya|exact pcM|exact((Xm h31 h32))|exact(Xr (Xm h31 h32))|exact(X8r (Xm h31 h32))|exact X07) (k:=wkT [] (X3.glue J))
  refine bI fun v33 h34=>?_
  intro h
  obtain rfl:=oj h
  exact X8 [.go true,.go true,.go true,.go true,.go true,.go true,.pure _ (aI .i64 v33),.go true] (o:=by repeat' first|apply Ya|exact pcM|exact((Xm h31 h32))|exact(Xr (Xm h31 h32))|exact(Xi8 (Xm h31 h32))|exact X07) (k:=wkT [] (X3.glue J))
instance Xv7:PCs Tryz.prog 98 (∀ (a0:(List X0v)) (r:Bool),X8h a0=some r->X0g Tryz.prog 98 [(Lf (a0.map Xz))] (aB r)):=⟨fun a0 r h=>by
 refine X0g.sym X6 fn98 (nt:=26) rfl rfl ?_ okM
 unfold X8h at h
 revert h
 refine bI fun u1 h2=>?_
 have qh2:=X12 h2
 refine bI fun o37 h38=>rnI [.el (aI .i64 (a0.length:Int))] ?_
 intro h
 refine wkT [] (X3.cut (Xfv a0 qh2 a0 0 (by simp) _ h38 ?_ ?_))
 ·
  intro eo37;subst eo37
  refine X3.glue ?_
  try dsimp only at h
  revert h
  exact fun e=>oj e▸X8 [] (k:=fi)
 intro eo37;subst eo37
 refine X3.glue ?_
 try dsimp only at h
 revert h
 exact fun e=>oj e▸X8 [] (k:=fi)⟩
instance X2g:PCs Tryz.prog 68 (∀ (a0:X0t) (r:Int),X2l a0=some r->X0g Tryz.prog 68 [(X0p a0)] (aI .i64 r)):=⟨fun a0 r h=>by
 refine X0g.sym X6 fn68 (nt:=43) rfl rfl ?_ okM
 unfold X2l at h
 revert h
 refine bI fun j4_3 h8=>rnI [] ?_
 intro h
 refine X3.join (s':=⟨fr [(3,(aB j4_3))],hp ([]),0⟩) ?_ (fun J=>X3.cut ?_)
 ·
  revert h
  exact brI (fun h9=>fun e=>oj e▸X8 [Bt] (k:=fi)) fun h9=>fun e=>oj e▸X8 [Bf] (k:=fi)
 clear h;revert h8
 refine brI (fun h5=>?_) fun h5=>?_
 ·
  intro h
  obtain rfl:=oj h
  exact X8 [Bt] (k:=wkT [] (X3.glue J))
 refine brI (fun h6=>?_) fun h6=>?_
 ·
  intro h
  obtain rfl:=oj h
  exact X8 [Bf,Bt] (k:=wkT [] (X3.glue J))
 refine brI (fun h7=>?_) fun h7=>?_
 ·
  intro h
  obtain rfl:=oj h
  exact X8 [Bf,Bf,Bt] (k:=wkT [] (X3.glue J))
 intro h
 obtain rfl:=oj h
 exact X8 [Bf,Bf,Bf] (k:=wkT [] (X3.glue J))⟩
instance X9z:PCs Tryz.prog 115 (∀ (a0:X2) (r:Bool),X62 a0=some r->X0g Tryz.prog 115 [(X1 a0)] (aB r)):=⟨fun a0 r h=>by
 refine X0g.sym X6 X044 (nt:=46) rfl rfl ?_ okM
 unfold X62 at h
 revert h
 refine brI (fun h1=>fun e=>oj e▸X8 [Bt] (k:=fi)) fun h1=>bI fun j8_2 h15=>rnI [Bf,.stop 3] ?_
 intro h
 refine X3.join (s':=⟨fr [(2,(aB j8_2))],hp ([]),0⟩) ?_ (fun J=>X3.cut ?_)
 ·
  revert h
  exact fun e=>oj e▸X8 [] (k:=fi)
 clear h;revert h15
 refine bI fun v9 h10=>brI (fun h11=>?_) fun h11=>?_
 ·
  refine bI fun v12 h13=>brI (fun h14=>?_) fun h14=>?_
  ·
   intro h
   obtain rfl:=oj h
   exact X8 [.ix 0,.pure _ (aI .i64 v9),.go true,.go true,.ix 1,.go true,.go true,.pure _ (aI .i64 v12),.go true,.go true,.go true,.ix 0,.go true,.go true,.go true,.go true,.ix 1,.go true,.go true,.go true,.wrap,.go true] (o:=by repeat' first|apply Ya|exact pcM|exact((X9 h11 h14))|exact(Xr (X9 h11 h14))|exact(X8r (X9 h11 h14))|exact X07) (k:=wkT [] (X3.glue J))
  intro h
  obtain rfl:=oj h
  exact X8 [.ix 0,.pure _ (aI .i64 v9),.go true,.go true,.ix 1,.go true,.go true,.pure _ (aI .i64 v12),.go true,.go false,.go false,.go false,.go false,.go false,.go false,.go false,.go false,.go false,.go false] (o:=by repeat' first|apply Ya|exact pcM|exact((X9 h11 h14))|exact(Xr (X9 h11 h14))|exact(Xi8 (X9 h11 h14))|exact X07) (k:=wkT [] (X3.glue J))
 intro h
 obtain rfl:=oj h
 exact X8 [.ix 0,.pure _ (aI .i64 v9),.go false,.go false,.go false,.go false,.go false,.go false,.go false,.go false,.go false,.go false,.go false,.go false,.go false,.go false,.go false] (o:=by repeat' first|apply Ya|exact pcM|exact((Xm h11 rfl))|exact(Xr (Xm h11 rfl))|exact(Xi8 (Xm h11 rfl))|exact X07) (k:=wkT [] (X3.glue J))⟩
instance Xpi:PCs Tryz.prog 167 (∀ (a0:Int) (r:Bool),X5a a0=some r->X0g Tryz.prog 167 [(aI .i64 a0)] (aB r)):=⟨fun a0 r h=>by
 refine X0g.sym X6 X03b (nt:=6) rfl rfl ?_ okM
 unfold X5a at h
 revert h
 exact fun e=>oj e▸X8 [] (k:=fi)⟩
instance Xmh:PCs Tryz.prog 146 (∀ (a0:Int) (a1:Int) (r:Int),X2q a0 a1=some r->X0g Tryz.prog 146 [(aI .i64 a0),(aI .i64 a1)] (aI .i64 r)):=⟨fun a0 a1 r h=>by
 refine X0g.sym X6 X03j (nt:=20) rfl rfl ?_ okM
 unfold X2q at h
 revert h
 exact bI fun v1 h2=>bI fun v3 h4=>brI (fun h5=>brI (fun h6=>fun e=>oj e▸X8 [.pure _ (aB v1),.pure _ (aB v3),Bt,Bt] (k:=fi)) fun h6=>fun e=>oj e▸X8 [.pure _ (aB v1),.pure _ (aB v3),Bt,Bf] (k:=fi)) fun h5=>brI (fun h7=>fun e=>oj e▸X8 [.pure _ (aB v1),.pure _ (aB v3),Bf,Bt] (k:=fi)) fun h7=>brI (fun h8=>fun e=>oj e▸X8 [.pure _ (aB v1),.pure _ (aB v3),Bf,Bf,Bt] (k:=fi)) fun h8=>brI (fun h9=>fun e=>oj e▸X8 [.pure _ (aB v1),.pure _ (aB v3),Bf,Bf,Bf,Bt] (k:=fi)) fun h9=>fun e=>oj e▸X8 [.pure _ (aB v1),.pure _ (aB v3),Bf,Bf,Bf,Bf] (k:=fi)⟩
theorem Xgc {Q:Xw->St->Mu->Prop} {μ:Mu} (Xv4:(List Int)) (hl:Xv4.length<=140737488355328):∀ (xs:List Int) (k:Nat) (hx:Xv4.drop k=xs) (o:X6y) (h:X5i Xv4 xs k  = some o)
  (C0:o=X6y.x0->X3 Tryz.prog 18 0 Q (.exit (.exit 0)) [] ⟨fr [(3,(aI .i64 0))],hp ([]),0⟩ μ)
  (C1:∀ (Xa8:Int),o=X6y.x1 Xa8->X3 Tryz.prog 18 0 Q (.exit .ret) [] ⟨fr [(2,(aI .i64 Xa8))],hp ([]),0⟩ μ),
  X3 Tryz.prog 18 0 Q (.loop (X56 0 (Xb Tryz.f145))) [] ⟨fr [(3,(aI .i64 0)),(6,(Lf (List.map (aI .i64) Xv4))),(7,(aI .i64 (Xv4.length:Int))),(8,(aI .i64 (k:Int)))],hp ([]),0⟩ μ:=by
 intro xs
 induction xs with
 |nil =>
  intro k hx  o h C0 C1
  have hk:=X1l hx
  have hc:decide ((k:Int)<(Xv4.length:Int))=false:=Yf (by omega)
  rw[X5i] at h
  refine X3.round ?_
  revert h
  exact fun e=>X8 [Bf] (k:=wkT [] (C0  (oj e).symm))
 |cons x xs ih =>
  intro k hx  o h C0 C1
  obtain⟨hk,hg,hx1⟩:=X10 hx
  have hc:decide ((k:Int)<(Xv4.length:Int))=true:=Yt (by omega)
  rw[X5i] at h
  refine X3.round ?_
  revert h
  refine brI (fun h6=>fun e=>X8 [Bt,.el (aI .i64 x),Bt] (k:=wkT [] (C1 _  (oj e).symm))) fun h6=>rnI [Bt,.el (aI .i64 x),Bf] ?_
  intro h
  exact wkT [] (ih (k+1) hx1  o h C0 C1)
instance Xwt:PCs Tryz.prog 145 (∀ (a0:(List Int)) (r:Int),Xco a0=some r->X0g Tryz.prog 145 [(Lf (List.map (aI .i64) a0))] (aI .i64 r)):=⟨fun a0 r h=>by
 refine X0g.sym X6 X03k (nt:=18) rfl rfl ?_ okM
 unfold Xco at h
 revert h
 refine bI fun u1 h2=>?_
 have qh2:=X12 h2
 refine bI fun o7 h8=>rnI [.el (aI .i64 (a0.length:Int))] ?_
 intro h
 refine wkT [] (X3.cut (Xgc a0 qh2 a0 0 (by simp) _ h8 ?_ ?_))
 ·
  intro eo7;subst eo7
  refine X3.glue ?_
  try dsimp only at h
  revert h
  exact fun e=>oj e▸X8 [] (k:=fi)
 intro Xa8 eo7;subst eo7
 refine X3.glue ?_
 try dsimp only at h
 revert h
 exact fun e=>oj e▸X8 [] (k:=fi)⟩
instance Xuc:PCs Tryz.prog 116 (∀ (a0:X2) (a1:X2) (r:Int),X63 a0 a1=some r->X0g Tryz.prog 116 [(X1 a0),(X1 a1)] (aI .i64 r)):=⟨fun a0 a1 r h=>by
 refine X0g.sym X6 X043 (nt:=26) rfl rfl ?_ okM
 unfold X63 at h
 revert h
 exact bI fun v1 h2=>bI fun v3 h4=>bI fun v5 h6=>bI fun v7 h8=>fun e=>oj e▸X8 [.pure _ (aI .i64 v1),.pure _ (aI .i64 v3),.pure _ (aI .i64 v5),.pure _ (aI .i64 v7)] (k:=fi)⟩
theorem X7a {Q:Xw->St->Mu->Prop} {μ:Mu} (X0u:(List X2)) (hl:X0u.length<=140737488355328):∀ (xs:List X2) (k:Nat) (hx:X0u.drop k=xs) (o:X5w) (h:X2r X0u xs k  = some o)
  (C0:o=X5w.x0->X3 Tryz.prog 33 0 Q (.exit (.exit 0)) [] ⟨fr [],hp ([]),0⟩ μ)
  (C1:o=X5w.x1->X3 Tryz.prog 33 0 Q (.exit .ret) [] ⟨fr [(2,(aI .i64 8))],hp ([]),0⟩ μ),
  X3 Tryz.prog 33 0 Q (.loop (X56 0 (Xb Tryz.f77))) [] ⟨fr [(0,(Lf (X0u.map X1))),(8,(Lf (X0u.map X1))),(9,(aI .i64 (X0u.length:Int))),(10,(aI .i64 (k:Int)))],hp ([]),0⟩ μ:=by
 intro xs
 induction xs with
 |nil =>
  intro k hx  o h C0 C1
  have hk:=X1l hx
  have hc:decide ((k:Int)<(X0u.length:Int))=false:=Yf (by omega)
  rw[X2r] at h
  refine X3.round ?_
  revert h
  exact fun e=>X8 [Bf] (k:=wkT [] (C0  (oj e).symm))
 |cons x xs ih =>
  intro k hx  o h C0 C1
  obtain⟨hk,hg,hx1⟩:=X10 hx
  have hc:decide ((k:Int)<(X0u.length:Int))=true:=Yt (by omega)
  rw[X2r] at h
  refine X3.round ?_
  revert h
  refine bI fun Xsx h60=>rnI [Bt,.el (X1 x),.stop 6] ?_
  intro h
  refine X3.join (s':=⟨fr [(0,(Lf (X0u.map X1))),(8,(Lf (X0u.map X1))),(9,(aI .i64 (X0u.length:Int))),(10,(aI .i64 (k:Int))),(31,(aB Xsx))],hp ([]),0⟩) ?_ (fun J=>X3.cut ?_)
  ·
   revert h
   refine brI (fun h61=>fun e=>X8 [Bt] (k:=wkT [] (C1  (oj e).symm))) fun h61=>rnI [Bf] ?_
   intro h
   exact wkT [] (ih (k+1) hx1  o h C0 C1)
  clear h;revert h60
  refine bI fun v52 h53=>brI (fun h54=>?_) fun h54=>?_
  ·
   intro h
   obtain rfl:=oj h
   exact X8 [.pure _ (aB v52),.go false,.go false,.go false,.no,.no,.no,.no,.no,.no,.no,.no,.go false,.go true] (k:=wkT [] (X3.glue J))
  refine brI (fun h55=>?_) fun h55=>?_
  ·
   refine bI fun e56 h57=>?_
   try have qh57:=Xq h57
   refine bI fun v58 h59=>?_
   intro h
   obtain rfl:=oj h
   exact X8 [.pure _ (aB v52),.go true,.go true,.go true,.go true,.go true,.go true,.wrap,.go true,.el (X1 e56),.go true,.go true,.go true,.pure _ (aI .i64 v58),.go true,.go true] (k:=wkT [] (X3.glue J))
  intro h
  obtain rfl:=oj h
  exact X8 [.pure _ (aB v52),.go true,.go true,.go true,.go false,.go false,.go false,.go false,.go false,.go false,.go false,.go false,.go true,.go false] (k:=wkT [] (X3.glue J))
instance Xa0:PCs Tryz.prog 77 (∀ (a0:(List X2)) (r:Int),X3x a0=some r->X0g Tryz.prog 77 [(Lf (a0.map X1))] (aI .i64 r)):=⟨fun a0 r h=>by
 refine X0g.sym X6 fn77 (nt:=33) rfl rfl ?_ okM
 unfold X3x at h
 revert h
 refine brI (fun h1=>fun e=>oj e▸X8 [.el (aI .i64 (a0.length:Int)),Bt] (k:=fi)) fun h1=>bI fun u2 h3=>?_
 have qh3:=X12 h3
 refine bI fun o62 h63=>rnI [.el (aI .i64 (a0.length:Int)),Bf,.el (aI .i64 (a0.length:Int))] ?_
 intro h
 refine wkT [] (X3.cut (X7a a0 qh3 a0 0 (by simp) _ h63 ?_ ?_))
 ·
  intro eo62;subst eo62
  refine X3.glue ?_
  try dsimp only at h
  revert h
  exact fun e=>oj e▸X8 [] (k:=fi)
 intro eo62;subst eo62
 refine X3.glue ?_
 try dsimp only at h
 revert h
 exact fun e=>oj e▸X8 [] (k:=fi)⟩
instance Xub:PCs Tryz.prog 99 (∀ (a0:Int) (r:Bool),X8y a0=some r->X0g Tryz.prog 99 [(aI .i64 a0)] (aB r)):=⟨fun a0 r h=>by
 refine X0g.sym X6 fn99 (nt:=11) rfl rfl ?_ okM
 unfold X8y at h
 revert h
 refine bI fun j4_2 h8=>rnI [.stop 1] ?_
 intro h
 refine X3.join (s':=⟨fr [(2,(aB j4_2))],hp ([]),0⟩) ?_ (fun J=>X3.cut ?_)
 ·
  revert h
  exact fun e=>oj e▸X8 [] (k:=fi)
 clear h;revert h8
 refine brI (fun h5=>?_) fun h5=>?_
 ·
  intro h
  obtain rfl:=oj h
  exact X8 [.go false,.go false,.go false,.go false] (k:=wkT [] (X3.glue J))
 refine bI fun v6 h7=>?_
 intro h
 obtain rfl:=oj h
 exact X8 [.go true,.go true,.go true,.pure _ (aI .i64 v6),.go true] (k:=wkT [] (X3.glue J))⟩
instance Xvu:PCs Tryz.prog 135 (∀ (a0:X1b) (r:Xg×Int),Xce a0=some r->X0g Tryz.prog 135 [(X05 a0)] (AV.tup [(Xn r.1),(aI .i64 r.2)])):=⟨fun a0 r h=>by
 refine X0g.sym X6 X03o (nt:=34) rfl rfl ?_ okM
 unfold Xce at h
 revert h
 refine brI (fun h1=>?_) fun h1=>?_
 ·
  refine bI fun Xyv h9=>rnI [Bt,.stop 2] ?_
  intro h
  refine X3.join (s':=⟨fr [(1,(AV.ptr 0 0 0)),(2,(AV.ptr 1 0 0)),(15,(aB Xyv))],hp ([(0,Ob [(X05 a0)] 5),(1,Ob [(Xn (Xg.mk 0 (Xl.mk 0 0 0) 0 (X28.mk 0 (X00.mk 0 0) (V2.mk 0 0))))] 10)]),2⟩) ?_ (fun J=>X3.cut ?_)
  ·
   revert h
   exact brI (fun h10=>fun e=>oj e▸X8 [Bt] (k:=fi)) fun h10=>fun e=>oj e▸X8 [Bf] (k:=fi)
  clear h;revert h9
  refine bI fun v6 h7=>brI (fun h8=>?_) fun h8=>?_
  ·
   intro h
   obtain rfl:=oj h
   exact X8 [.pure _ (aB v6),.go false,.go false,.go false,.go false] (k:=wkT [] (X3.glue J))
  intro h
  obtain rfl:=oj h
  exact X8 [.pure _ (aB v6),.go true,.go true,.go true,.go true] (k:=wkT [] (X3.glue J))
 refine bI fun Xt4 h18=>rnI [Bf,.stop 5] ?_
 intro h
 refine X3.join (s':=⟨fr [(1,(AV.ptr 0 0 0)),(2,(AV.ptr 1 0 0)),(29,(aB Xt4))],hp ([(0,Ob [(X05 a0)] 5),(1,Ob [(Xn (Xg.mk 0 (Xl.mk 0 0 0) 0 (X28.mk 0 (X00.mk 0 0) (V2.mk 0 0))))] 10)]),2⟩) ?_ (fun J=>X3.cut ?_)
 ·
  revert h
  exact brI (fun h19=>fun e=>oj e▸X8 [Bt] (k:=fi)) fun h19=>fun e=>oj e▸X8 [Bf] (k:=fi)
 clear h;revert h18
 refine brI (fun h15=>?_) fun h15=>?_
 ·
  intro h
  obtain rfl:=oj h
  exact X8 [.go false,.go false,.go false,.go false,.go false] (k:=wkT [] (X3.glue J))
 refine bI fun v16 h17=>?_
 intro h
 obtain rfl:=oj h
 exact X8 [.go true,.go true,.go true,.go true,.pure _ (aB v16),.go true] (k:=wkT [] (X3.glue J))⟩
instance Xr3:PCs Tryz.prog 100 (∀ (a0:X1b) (r:Int),X6r a0=some r->X0g Tryz.prog 100 [(X05 a0)] (aI .i64 r)):=⟨fun a0 r h=>by
 refine X0g.sym X6 X048 (nt:=11) rfl rfl ?_ okM
 unfold X6r at h
 revert h
 exact bI fun v1 h2=>fun e=>oj e▸X8 [.pure _ (AV.tup [(Xn v1.1),(aI .i64 v1.2)])] (k:=fi)⟩
theorem Xg0 {Q:Xw->St->Mu->Prop} {μ:Mu} (Xj:X08) (Xbn:(List Int)) (hl:Xbn.length<=140737488355328):∀ (xs:List Int) (k:Nat) (hx:Xbn.drop k=xs) (X4z:Bool) (o:X93) (h:X3o Xj Xbn xs k X4z=some o)
  (C0:∀ (Xej:Bool),o=X93.x0 Xej->X3 Tryz.prog 202 0 Q (.exit (.exit 0)) [] ⟨fr [(1,(AV.ptr 0 0 0)),(11,(aB Xej))],hp ([(0,Ob [(Xe false Xj)] 9)]),1⟩ μ),
  X3 Tryz.prog 202 0 Q (.loop (X56 0 (Xb Tryz.f61))) [] ⟨fr [(1,(AV.ptr 0 0 0)),(11,(aB X4z)),(122,(Lf (List.map (aI .i64) Xbn))),(123,(aI .i64 (Xbn.length:Int))),(124,(aI .i64 (k:Int)))],hp ([(0,Ob [(Xe false Xj)] 9)]),1⟩ μ:=by
 intro xs
 induction xs with
 |nil =>
  intro k hx X4z o h C0
  have hk:=X1l hx
  have hc:decide ((k:Int)<(Xbn.length:Int))=false:=Yf (by omega)
  rw[X3o] at h
  refine X3.round ?_
  revert h
  exact fun e=>X8 [Bf] (k:=wkT [] (C0 _  (oj e).symm))
 |cons x xs ih =>
  intro k hx X4z o h C0
  obtain⟨hk,hg,hx1⟩:=X10 hx
  have hc:decide ((k:Int)<(Xbn.length:Int))=true:=Yt (by omega)
  rw[X3o] at h
  refine X3.round ?_
  revert h
  refine bI fun Xsv h76=>rnI [Bt,.el (aI .i64 x),.stop 10] ?_
  intro h
  refine X3.join (s':=⟨fr [(1,(AV.ptr 0 0 0)),(11,(aB Xsv)),(122,(Lf (List.map (aI .i64) Xbn))),(123,(aI .i64 (Xbn.length:Int))),(124,(aI .i64 (k:Int)))],hp ([(0,Ob [(Xe false Xj)] 9)]),1⟩) ?_ (fun J=>X3.cut ?_)
  ·
   exact X8 [] (k:=wkT [] (ih (k+1) hx1 _ o h C0))
  clear h;revert h76
  refine brI (fun h73=>?_) fun h73=>?_
  ·
   refine bI fun v74 h75=>?_
   intro h
   obtain rfl:=oj h
   exact X8 [.go true,.go true,.pure _ (aB v74)] (k:=wkT [] (X3.glue J))
  intro h
  obtain rfl:=oj h
  exact X8 [.go false,.go false] (k:=wkT [] (X3.glue J))
theorem Xfz {Q:Xw->St->Mu->Prop} {μ:Mu} (Xfu:X08) (Xbl:(List X1b)) (hl:Xbl.length<=140737488355328):∀ (xs:List X1b) (k:Nat) (hx:Xbl.drop k=xs) (Xid:Bool) (o:X92) (h:X3n Xfu Xbl xs k Xid=some o)
  (C0:∀ (Xeh:Bool),o=X92.x0 Xeh->X3 Tryz.prog 202 0 Q (.exit (.exit 2)) [] ⟨fr [(1,(AV.ptr 0 0 0)),(11,(aB Xeh))],hp ([(0,Ob [(Xe false Xfu)] 9)]),1⟩ μ),
  X3 Tryz.prog 202 0 Q (.loop (X56 1 (Xb Tryz.f61))) [] ⟨fr [(1,(AV.ptr 0 0 0)),(11,(aB Xid)),(135,(Lf (Xbl.map X05))),(136,(aI .i64 (Xbl.length:Int))),(137,(aI .i64 (k:Int)))],hp ([(0,Ob [(Xe false Xfu)] 9)]),1⟩ μ:=by
 intro xs
 induction xs with
 |nil =>
  intro k hx Xid o h C0
  have hk:=X1l hx
  have hc:decide ((k:Int)<(Xbl.length:Int))=false:=Yf (by omega)
  rw[X3n] at h
  refine X3.round ?_
  revert h
  exact fun e=>X8 [Bf] (k:=wkT [] (C0 _  (oj e).symm))
 |cons x xs ih =>
  intro k hx Xid o h C0
  obtain⟨hk,hg,hx1⟩:=X10 hx
  have hc:decide ((k:Int)<(Xbl.length:Int))=true:=Yt (by omega)
  rw[X3n] at h
  refine X3.round ?_
  revert h
  refine bI fun Xnx h105=>rnI [Bt,.el (X05 x),.stop 15] ?_
  intro h
  refine X3.join (s':=⟨fr [(1,(AV.ptr 0 0 0)),(11,(aB Xnx)),(135,(Lf (Xbl.map X05))),(136,(aI .i64 (Xbl.length:Int))),(137,(aI .i64 (k:Int)))],hp ([(0,Ob [(Xe false Xfu)] 9)]),1⟩) ?_ (fun J=>X3.cut ?_)
  ·
   exact X8 [] (k:=wkT [] (ih (k+1) hx1 _ o h C0))
  clear h;revert h105
  refine brI (fun h102=>?_) fun h102=>?_
  ·
   refine bI fun v103 h104=>?_
   intro h
   obtain rfl:=oj h
   exact X8 [.go true,.go true,.pure _ (aI .i64 v103),.go true] (k:=wkT [] (X3.glue J))
  intro h
  obtain rfl:=oj h
  exact X8 [.go false,.go false,.go false] (k:=wkT [] (X3.glue J))
theorem Xfy {Q:Xw->St->Mu->Prop} {μ:Mu} (Xpo:X08) (Xbk:(List X28)) (hl:Xbk.length<=140737488355328):∀ (xs:List X28) (k:Nat) (hx:Xbk.drop k=xs) (Xib:Bool) (o:X91) (h:X3m Xpo Xbk xs k Xib=some o)
  (C0:∀ (Xeg:Bool),o=X91.x0 Xeg->X3 Tryz.prog 202 0 Q (.exit (.exit 4)) [] ⟨fr [(1,(AV.ptr 0 0 0)),(11,(aB Xeg))],hp ([(0,Ob [(Xe false Xpo)] 9)]),1⟩ μ),
  X3 Tryz.prog 202 0 Q (.loop (X56 2 (Xb Tryz.f61))) [] ⟨fr [(1,(AV.ptr 0 0 0)),(11,(aB Xib)),(149,(Lf (Xbk.map Xp))),(150,(aI .i64 (Xbk.length:Int))),(151,(aI .i64 (k:Int)))],hp ([(0,Ob [(Xe false Xpo)] 9)]),1⟩ μ:=by
 intro xs
 induction xs with
 |nil =>
  intro k hx Xib o h C0
  have hk:=X1l hx
  have hc:decide ((k:Int)<(Xbk.length:Int))=false:=Yf (by omega)
  rw[X3m] at h
  refine X3.round ?_
  revert h
  exact fun e=>X8 [Bf] (k:=wkT [] (C0 _  (oj e).symm))
 |cons x xs ih =>
  intro k hx Xib o h C0
  obtain⟨hk,hg,hx1⟩:=X10 hx
  have hc:decide ((k:Int)<(Xbk.length:Int))=true:=Yt (by omega)
  rw[X3m] at h
  refine X3.round ?_
  revert h
  refine bI fun Xns h134=>rnI [Bt,.el (Xp x),.stop 20] ?_
  intro h
  refine X3.join (s':=⟨fr [(1,(AV.ptr 0 0 0)),(11,(aB Xns)),(149,(Lf (Xbk.map Xp))),(150,(aI .i64 (Xbk.length:Int))),(151,(aI .i64 (k:Int)))],hp ([(0,Ob [(Xe false Xpo)] 9)]),1⟩) ?_ (fun J=>X3.cut ?_)
  ·
   exact X8 [] (k:=wkT [] (ih (k+1) hx1 _ o h C0))
  clear h;revert h134
  refine brI (fun h131=>?_) fun h131=>?_
  ·
   refine bI fun v132 h133=>?_
   intro h
   obtain rfl:=oj h
   exact X8 [.go true,.go true,.go true,.pure _ (aI .i64 v132),.go true] (k:=wkT [] (X3.glue J))
  intro h
  obtain rfl:=oj h
  exact X8 [.go false,.go false,.go false,.go false] (k:=wkT [] (X3.glue J))
end Go.Av.Tryz