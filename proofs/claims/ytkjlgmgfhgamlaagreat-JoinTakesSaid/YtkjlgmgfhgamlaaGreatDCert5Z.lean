/- Printed by decomp.py: that the program computes the functions. -/
import Derived.Test.YtkjlgmgfhgamlaaGreatDCert4Z
set_option linter.all false

namespace Go.Av.Tryz
open Go.Proofs Go.D
set_option maxRecDepth 10000
set_option maxHeartbeats 40000000
instance X00l:PCs Tryz.prog 95 (∀ (a0:X0g) (r:Int×Int),X9m a0=some r->X0b Tryz.prog 95 [(X07 false a0)] (AV.tup [(aI .i64 r.1),(aI .i64 r.2)])):=⟨λa0 r h=>by
 refine X0b.sym X3 fn95 (nt:=20) rfl rfl ?_ okM;unfold X9m at h;revert h;refine bI λv1 h2=>brI (λh3=>λe=>oj e▸X6 [.pure _ (aI .i64 v1),Bt] (k:=fi)) λh3=>bI λw22 h41=>?_;intro h;obtain⟨X03p,X03o⟩:=w22;try dsimp only at h
 refine X0j [.pure _ (aI .i64 v1),Bf] ?_;refine X2.joinOp (s':=⟨fr [(17,(AV.tup [(aI .i64 X03p),(aI .i64 X03o)]))],hp ([]),0⟩) ?_ (λJ=>?_)
 ·
  revert h;exact λe=>oj e▸X6 [] (k:=fi)
 clear h;revert h41;intro h;refine X2.inline X3 X0d2 rfl rfl rfl rfl rfl trivial trivial rfl rfl ?_;refine X0j [] ?_;refine X2.round ?_;revert h;refine brI (λh23=>?_) λh23=>?_
 ·
  refine rnI [Bt,.el (AV.agg [(Lf (a0.Arg.map X4)),(AV.fn 133 [])]),.el (aI .i64 (a0.Arg.length:Int)),Bt] ?_;intro h;refine X2.round ?_;revert h;refine brI (λh24=>?_) λh24=>?_
  ·
   refine rnI [Bt,.el (AV.agg [(Lf (a0.Where.map X4)),(AV.fn 134 [])]),.el (aI .i64 (a0.Where.length:Int)),Bt] ?_;intro h;refine X2.round ?_;simp only[Option.some.injEq,Prod.mk.injEq] at h;obtain⟨rfl,rfl⟩:=h;refine X0j [Bf] ?_;refine X2.back (by intro id h;cases h) rfl ?_;exact wkT [] (J)
  refine bI λv25 h26=>rnI [Bt,.el (AV.agg [(Lf (a0.Where.map X4)),(AV.fn 134 [])]),.el (aI .i64 (a0.Where.length:Int)),Bf,.pure _ (AV.tup [(aI .i64 v25.1),(aI .i64 v25.2)])] ?_;refine brI (λh27=>?_) λh27=>?_
  ·
   refine bI λe28 h29=>?_;try have qh29:=Xl h29
   intro h;simp only[Option.some.injEq,Prod.mk.injEq] at h;obtain⟨rfl,rfl⟩:=h;refine X0j [Bt,.el (X4 e28)] ?_;refine X2.back (by intro id h;cases h) rfl ?_;exact wkT [] (J)
  refine rnI [Bf] ?_;intro h;refine X2.round ?_;simp only[Option.some.injEq,Prod.mk.injEq] at h;obtain⟨rfl,rfl⟩:=h;refine X0j [Bf] ?_;refine X2.back (by intro id h;cases h) rfl ?_;exact wkT [] (J)
 refine bI λv30 h31=>rnI [Bt,.el (AV.agg [(Lf (a0.Arg.map X4)),(AV.fn 133 [])]),.el (aI .i64 (a0.Arg.length:Int)),Bf,.pure _ (AV.tup [(aI .i64 v30.1),(aI .i64 v30.2)])] ?_;refine brI (λh32=>?_) λh32=>?_
 ·
  refine bI λe33 h34=>?_;try have qh34:=Xl h34
  intro h;simp only[Option.some.injEq,Prod.mk.injEq] at h;obtain⟨rfl,rfl⟩:=h;refine X0j [Bt,.el (X4 e33)] ?_;refine X2.back (by intro id h;cases h) rfl ?_;exact wkT [] (J)
 refine rnI [Bf] ?_;intro h;refine X2.round ?_;revert h;refine brI (λh35=>?_) λh35=>?_
 ·
  refine rnI [Bt,.el (AV.agg [(Lf (a0.Where.map X4)),(AV.fn 134 [])]),.el (aI .i64 (a0.Where.length:Int)),Bt] ?_;intro h;refine X2.round ?_;simp only[Option.some.injEq,Prod.mk.injEq] at h;obtain⟨rfl,rfl⟩:=h;refine X0j [Bf] ?_;refine X2.back (by intro id h;cases h) rfl ?_;exact wkT [] (J)
 refine bI λv36 h37=>rnI [Bt,.el (AV.agg [(Lf (a0.Where.map X4)),(AV.fn 134 [])]),.el (aI .i64 (a0.Where.length:Int)),Bf,.pure _ (AV.tup [(aI .i64 v36.1),(aI .i64 v36.2)])] ?_;refine brI (λh38=>?_) λh38=>?_
 ·
  refine bI λe39 h40=>?_;try have qh40:=Xl h40
  intro h;simp only[Option.some.injEq,Prod.mk.injEq] at h;obtain⟨rfl,rfl⟩:=h;refine X0j [Bt,.el (X4 e39)] ?_;refine X2.back (by intro id h;cases h) rfl ?_;exact wkT [] (J)
 refine rnI [Bf] ?_;intro h;refine X2.round ?_;simp only[Option.some.injEq,Prod.mk.injEq] at h;obtain⟨rfl,rfl⟩:=h;refine X0j [Bf] ?_;refine X2.back (by intro id h;cases h) rfl ?_;exact wkT [] (J)⟩
instance Xwr:PCs Tryz.prog 69 (∀ (a0:X0g) (r:Bool),X62 a0=some r->X0b Tryz.prog 69 [(X07 false a0)] (aB r)):=⟨λa0 r h=>by
 refine X0b.sym X3 fn69 (nt:=16) rfl rfl ?_ okM;unfold X62 at h;revert h;exact bI λv1 h2=>λe=>oj e▸X6 [.pure _ (AV.tup [(aI .i64 v1.1),(aI .i64 v1.2)])] (k:=fi)⟩
instance X00w:PCs Tryz.prog 96 (∀ (a0:Int) (r:Int×Int×Bool×Bool×Bool×Bool),Xar a0=some r->X0b Tryz.prog 96 [(aI .u8 a0)] (AV.tup [(aI .i64 r.1),(aI .i64 r.2.1),(aB r.2.2.1),(aB r.2.2.2.1),(aB r.2.2.2.2.1),(aB r.2.2.2.2.2)])):=⟨λa0 r h=>by
 refine X0b.sym X3 fn96 (nt:=23) rfl rfl ?_ okM;unfold Xar at h;revert h;refine bI λw8 h16=>?_;intro h;obtain⟨j8_2,j8_3,j8_4,j8_5,j8_6,j8_7⟩:=w8;try dsimp only at h
 refine X0j [] ?_;refine X2.join (s':=⟨fr [(2,(aI .i64 j8_2)),(3,(aI .i64 j8_3)),(4,(aB j8_4)),(5,(aB j8_5)),(6,(aB j8_6)),(7,(aB j8_7))],hp ([]),0⟩) ?_ (λJ=>X2.cut ?_)
 ·
  revert h;exact λe=>oj e▸X6 [] (k:=fi)
 clear h;revert h16;refine brI (λh9=>?_) λh9=>?_
 ·
  intro h;simp only[Option.some.injEq,Prod.mk.injEq] at h;obtain⟨rfl,rfl,rfl,rfl,rfl,rfl⟩:=h;exact X6 [Bt] (k:=wkT [] (X2.glue J))
 refine brI (λh10=>?_) λh10=>?_
 ·
  intro h;simp only[Option.some.injEq,Prod.mk.injEq] at h;obtain⟨rfl,rfl,rfl,rfl,rfl,rfl⟩:=h;exact X6 [Bf,Bt] (k:=wkT [] (X2.glue J))
 refine brI (λh11=>?_) λh11=>?_
 ·
  intro h;simp only[Option.some.injEq,Prod.mk.injEq] at h;obtain⟨rfl,rfl,rfl,rfl,rfl,rfl⟩:=h;exact X6 [Bf,Bf,Bt] (k:=wkT [] (X2.glue J))
 refine brI (λh12=>?_) λh12=>?_
 ·
  intro h;simp only[Option.some.injEq,Prod.mk.injEq] at h;obtain⟨rfl,rfl,rfl,rfl,rfl,rfl⟩:=h;exact X6 [Bf,Bf,Bf,Bt] (k:=wkT [] (X2.glue J))
 refine brI (λh13=>?_) λh13=>?_
 ·
  intro h;simp only[Option.some.injEq,Prod.mk.injEq] at h;obtain⟨rfl,rfl,rfl,rfl,rfl,rfl⟩:=h;exact X6 [Bf,Bf,Bf,Bf,Bt] (k:=wkT [] (X2.glue J))
 refine brI (λh14=>?_) λh14=>?_
 ·
  intro h;simp only[Option.some.injEq,Prod.mk.injEq] at h;obtain⟨rfl,rfl,rfl,rfl,rfl,rfl⟩:=h;exact X6 [Bf,Bf,Bf,Bf,Bf,Bt] (k:=wkT [] (X2.glue J))
 refine brI (λh15=>?_) λh15=>?_
 ·
  intro h;simp only[Option.some.injEq,Prod.mk.injEq] at h;obtain⟨rfl,rfl,rfl,rfl,rfl,rfl⟩:=h;exact X6 [Bf,Bf,Bf,Bf,Bf,Bf,Bt] (k:=wkT [] (X2.glue J))
 intro h;simp only[Option.some.injEq,Prod.mk.injEq] at h;obtain⟨rfl,rfl,rfl,rfl,rfl,rfl⟩:=h;exact X6 [Bf,Bf,Bf,Bf,Bf,Bf,Bf] (k:=wkT [] (X2.glue J))⟩
instance X04q:PCs Tryz.prog 97 (∀ (a0:Bool) (a1:Int) (r:Int),Xaq a0 a1=some r->X0b Tryz.prog 97 [(aB a0),(aI .i64 a1)] (aI .i64 r)):=⟨λa0 a1 r h=>by
 refine X0b.sym X3 fn97 (nt:=7) rfl rfl ?_ okM;unfold Xaq at h;revert h;exact brI (λh1=>λe=>oj e▸X6 [Bt] (k:=fi)) λh1=>λe=>oj e▸X6 [Bf] (k:=fi)⟩
instance Xve:PCs Tryz.prog 101 (∀ (a0:Int) (r:Bool),X4a a0=some r->X0b Tryz.prog 101 [(aI .i64 a0)] (aB r)):=⟨λa0 r h=>by
 refine X0b.sym X3 X0dq (nt:=9) rfl rfl ?_ okM;unfold X4a at h;revert h;exact λe=>oj e▸X6 [] (k:=fi)⟩
instance Xvf:PCs Tryz.prog 102 (∀ (a0:Int) (r:Bool),X5a a0=some r->X0b Tryz.prog 102 [(aI .i64 a0)] (aB r)):=⟨λa0 r h=>by
 refine X0b.sym X3 X0dp (nt:=9) rfl rfl ?_ okM;unfold X5a at h;revert h;exact bI λv1 h2=>λe=>oj e▸X6 [.pure _ (aB v1)] (k:=fi)⟩
instance Xwo:PCs Tryz.prog 62 (∀ (a0:Xp) (r:Int),X2r a0=some r->X0b Tryz.prog 62 [(X0n a0)] (aI .i64 r)):=⟨λa0 r h=>by
 refine X0b.sym X3 fn62 (nt:=59) rfl rfl ?_ okM;unfold X2r at h;revert h;refine bI λX07d h4=>rnI [] ?_;intro h;refine X2.join (s':=⟨fr [(1,(AV.ptr 0 0 0)),(3,(aB false)),(4,(AV.ptr 1 0 0)),(10,(aI .u8 a0.Kind)),(11,(aB X07d))],hp ([(0,Ob [(X0n a0)] 10),(1,Ob [(X0n (Xp.mk a0.Kind (Xg.mk 0 0 0) 0 (X1b.mk 0 (Xy.mk 0 0) (V2.mk 0 0))))] 10)]),2⟩) ?_ (λJ=>X2.cut ?_)
 ·
  revert h;refine bI λw12 h20=>?_;intro h;obtain⟨X0bk,X09v⟩:=w12;try dsimp only at h
  refine X0j [] ?_;refine X2.join (s':=⟨fr [(1,(AV.ptr 0 0 0)),(3,(aB X0bk)),(4,(AV.ptr 1 0 0))],hp ([(0,Ob [(X0n a0)] 10),(1,Ob [(X0n X09v)] 10)]),2⟩) ?_ (λJ=>X2.cut ?_)
  ·
   revert h;exact brI (λh21=>λe=>oj e▸X6 [Bt] (k:=fi)) λh21=>λe=>oj e▸X6 [Bf] (k:=fi)
  clear h;revert h20;refine brI (λh13=>?_) λh13=>?_
  ·
   refine bI λv14 h15=>?_;intro h;simp only[Option.some.injEq,Prod.mk.injEq] at h;obtain⟨rfl,rfl⟩:=h;exact X6 [Bt,.pure _ (aB v14)] (k:=wkT [] (X2.glue J))
  refine brI (λh16=>?_) λh16=>?_
  ·
   refine bI λv17 h18=>?_;intro h;simp only[Option.some.injEq,Prod.mk.injEq] at h;obtain⟨rfl,rfl⟩:=h;exact X6 [Bf,Bt,.pure _ (aB v17)] (k:=wkT [] (X2.glue J))
  refine brI (λh19=>?_) λh19=>?_
  ·
   intro h;simp only[Option.some.injEq,Prod.mk.injEq] at h;obtain⟨rfl,rfl⟩:=h;exact X6 [Bf,Bf,Bt] (k:=wkT [] (X2.glue J))
  intro h;simp only[Option.some.injEq,Prod.mk.injEq] at h;obtain⟨rfl,rfl⟩:=h;exact X6 [Bf,Bf,Bf] (k:=wkT [] (X2.glue J))
 clear h;revert h4;refine brI (λh3=>?_) λh3=>?_
 ·
  intro h;obtain rfl:=oj h;exact X6 [Bt] (k:=wkT [] (X2.glue J))
 intro h;obtain rfl:=oj h;exact X6 [Bf] (k:=wkT [] (X2.glue J))⟩
theorem Xjq {Q:X03->St->Mu->Prop} {μ:Mu} (Xgp:(List X09)) (hl:Xgp.length<=140737488355328):∀ (xs:List X09) (k:Nat) (hx:Xgp.drop k=xs) (o:X7p) (h:X4p Xgp xs k  = some o)
  (C0:o=X7p.x0->X2 Tryz.prog 26 0 Q (.exit (.exit 0)) [] ⟨fr [],hp ([]),0⟩ μ)
  (C1:o=X7p.x1->X2 Tryz.prog 26 0 Q (.exit .ret) [] ⟨fr [(2,(aB false))],hp ([]),0⟩ μ),
  X2 Tryz.prog 26 0 Q (.loop (X2o 0 (Xd Tryz.f98))) [] ⟨fr [(5,(Lf (Xgp.map Xc))),(6,(aI .i64 (Xgp.length:Int))),(7,(aI .i64 (k:Int)))],hp ([]),0⟩ μ:=by
 intro xs
 induction xs with
 |nil =>
  intro k hx  o h C0 C1;have hk:=X1g hx;have hc:decide ((k:Int)<(Xgp.length:Int))=false:=Yf om;rw[X4p] at h;refine X2.round ?_;revert h;exact λe=>X6 [Bf] (k:=wkT [] (C0  (oj e).symm))
 |cons x xs ih =>
  intro k hx  o h C0 C1;obtain⟨hk,hg,hx1⟩:=X0u hx;have hc:decide ((k:Int)<(Xgp.length:Int))=true:=Yt om;rw[X4p] at h;refine X2.round ?_;revert h;refine bI λXz7 h35=>rnI [Bt,.el (Xc x),.stop 4] ?_;intro h;refine X2.join (s':=⟨fr [(5,(Lf (Xgp.map Xc))),(6,(aI .i64 (Xgp.length:Int))),(7,(aI .i64 (k:Int))),(24,(aB Xz7))],hp ([]),0⟩) ?_ (λJ=>X2.cut ?_)
  ·
   revert h;refine brI (λh36=>λe=>X6 [Bt] (k:=wkT [] (C1  (oj e).symm))) λh36=>rnI [Bf] ?_;intro h;exact wkT [] (ih (k+1) hx1  o h C0 C1)
  clear h;revert h35;refine brI (λh31=>?_) λh31=>?_
  ·
   intro h;obtain rfl:=oj h;exact X6 [Gf,Gf,Gf,Gf,Gf,Gf,Gf] (o:=by repeat' first|apply Ya|exact pcM|exact fq (X7 h31 rfl)|exact Xu) (k:=wkT [] (X2.glue J))
  refine brI (λh32=>?_) λh32=>?_
  ·
   intro h;obtain rfl:=oj h;exact X6 [Gt,Gt,Gt,Gf,Gf,Gf,Gf] (o:=by repeat' first|apply Ya|exact pcM|exact fq (Xb h31 h32)|exact Xu) (k:=wkT [] (X2.glue J))
  refine bI λv33 h34=>?_;intro h;obtain rfl:=oj h;exact X6 [Gt,Gt,Gt,Gt,Gt,Gt,.pure _ (aI .i64 v33),Gt] (o:=by repeat' first|apply Ya|exact pcM|exact fq (Xb h31 h32)|exact Xu) (k:=wkT [] (X2.glue J))
instance X02d:PCs Tryz.prog 98 (∀ (a0:(List X09)) (r:Bool),Xa9 a0=some r->X0b Tryz.prog 98 [(Lf (a0.map Xc))] (aB r)):=⟨λa0 r h=>by
 refine X0b.sym X3 fn98 (nt:=26) rfl rfl ?_ okM;unfold Xa9 at h;revert h;refine bI λu1 h2=>?_;have qh2:=X0v h2;refine bI λo37 h38=>rnI [.el (aI .i64 (a0.length:Int))] ?_;intro h;refine wkT [] (X2.cut (Xjq a0 qh2 a0 0 (by simp) _ h38 ?_ ?_))
 ·
  intro eo37;subst eo37;refine X2.glue ?_;try dsimp only at h
  revert h;exact λe=>oj e▸X6 [] (k:=fi)
 intro eo37;subst eo37;refine X2.glue ?_;try dsimp only at h
 revert h;exact λe=>oj e▸X6 [] (k:=fi)⟩
instance X2g:PCs Tryz.prog 68 (∀ (a0:Xm) (r:Int),X2l a0=some r->X0b Tryz.prog 68 [(Xv a0)] (aI .i64 r)):=⟨λa0 r h=>by
 refine X0b.sym X3 fn68 (nt:=43) rfl rfl ?_ okM;unfold X2l at h;revert h;refine bI λj4_3 h8=>rnI [] ?_;intro h;refine X2.join (s':=⟨fr [(3,(aB j4_3))],hp ([]),0⟩) ?_ (λJ=>X2.cut ?_)
 ·
  revert h;exact brI (λh9=>λe=>oj e▸X6 [Bt] (k:=fi)) λh9=>λe=>oj e▸X6 [Bf] (k:=fi)
 clear h;revert h8;refine brI (λh5=>?_) λh5=>?_
 ·
  intro h;obtain rfl:=oj h;exact X6 [Bt] (k:=wkT [] (X2.glue J))
 refine brI (λh6=>?_) λh6=>?_
 ·
  intro h;obtain rfl:=oj h;exact X6 [Bf,Bt] (k:=wkT [] (X2.glue J))
 refine brI (λh7=>?_) λh7=>?_
 ·
  intro h;obtain rfl:=oj h;exact X6 [Bf,Bf,Bt] (k:=wkT [] (X2.glue J))
 intro h;obtain rfl:=oj h;exact X6 [Bf,Bf,Bf] (k:=wkT [] (X2.glue J))⟩
instance Xce:PCs Tryz.prog 115 (∀ (a0:X1) (r:Bool),X6x a0=some r->X0b Tryz.prog 115 [(X0 a0)] (aB r)):=⟨λa0 r h=>by
 refine X0b.sym X3 X0df (nt:=46) rfl rfl ?_ okM;unfold X6x at h;revert h;refine brI (λh1=>λe=>oj e▸X6 [Bt] (k:=fi)) λh1=>bI λj8_2 h15=>rnI [Bf,.stop 3] ?_;intro h;refine X2.join (s':=⟨fr [(2,(aB j8_2))],hp ([]),0⟩) ?_ (λJ=>X2.cut ?_)
 ·
  revert h;exact λe=>oj e▸X6 [] (k:=fi)
 clear h;revert h15;refine bI λv9 h10=>brI (λh11=>?_) λh11=>?_
 ·
  refine bI λv12 h13=>brI (λh14=>?_) λh14=>?_
  ·
   intro h;obtain rfl:=oj h;exact X6 [.ix 0,.pure _ (aI .i64 v9),Gt,Gt,.ix 1,Gt,Gt,.pure _ (aI .i64 v12),Gt,Gt,Gt,.ix 0,Gt,Gt,Gt,Gt,.ix 1,Gt,Gt,Gt,.wrap,Gt] (o:=by repeat' first|apply Ya|exact pcM|exact fq (X7 h11 h14)|exact Xu) (k:=wkT [] (X2.glue J))
  intro h;obtain rfl:=oj h;exact X6 [.ix 0,.pure _ (aI .i64 v9),Gt,Gt,.ix 1,Gt,Gt,.pure _ (aI .i64 v12),Gt,Gf,Gf,Gf,Gf,Gf,Gf,Gf,Gf,Gf,Gf] (o:=by repeat' first|apply Ya|exact pcM|exact fq (X7 h11 h14)|exact Xu) (k:=wkT [] (X2.glue J))
 intro h;obtain rfl:=oj h;exact X6 [.ix 0,.pure _ (aI .i64 v9),Gf,Gf,Gf,Gf,Gf,Gf,Gf,Gf,Gf,Gf,Gf,Gf,Gf,Gf,Gf] (o:=by repeat' first|apply Ya|exact pcM|exact fq (Xb h11 rfl)|exact Xu) (k:=wkT [] (X2.glue J))⟩
instance Xul:PCs Tryz.prog 167 (∀ (a0:Int) (r:Bool),X5w a0=some r->X0b Tryz.prog 167 [(aI .i64 a0)] (aB r)):=⟨λa0 r h=>by
 refine X0b.sym X3 X0cd (nt:=6) rfl rfl ?_ okM;unfold X5w at h;revert h;exact λe=>oj e▸X6 [] (k:=fi)⟩
instance Xqz:PCs Tryz.prog 146 (∀ (a0:Int) (a1:Int) (r:Int),X2p a0 a1=some r->X0b Tryz.prog 146 [(aI .i64 a0),(aI .i64 a1)] (aI .i64 r)):=⟨λa0 a1 r h=>by
 refine X0b.sym X3 X0cq (nt:=20) rfl rfl ?_ okM;unfold X2p at h;revert h;exact bI λv1 h2=>bI λv3 h4=>brI (λh5=>brI (λh6=>λe=>oj e▸X6 [.pure _ (aB v1),.pure _ (aB v3),Bt,Bt] (k:=fi)) λh6=>λe=>oj e▸X6 [.pure _ (aB v1),.pure _ (aB v3),Bt,Bf] (k:=fi)) λh5=>brI (λh7=>λe=>oj e▸X6 [.pure _ (aB v1),.pure _ (aB v3),Bf,Bt] (k:=fi)) λh7=>brI (λh8=>λe=>oj e▸X6 [.pure _ (aB v1),.pure _ (aB v3),Bf,Bf,Bt] (k:=fi)) λh8=>brI (λh9=>λe=>oj e▸X6 [.pure _ (aB v1),.pure _ (aB v3),Bf,Bf,Bf,Bt] (k:=fi)) λh9=>λe=>oj e▸X6 [.pure _ (aB v1),.pure _ (aB v3),Bf,Bf,Bf,Bf] (k:=fi)⟩
theorem Xkc {Q:X03->St->Mu->Prop} {μ:Mu} (Xma:(List Int)) (hl:Xma.length<=140737488355328):∀ (xs:List Int) (k:Nat) (hx:Xma.drop k=xs) (o:X89) (h:X65 Xma xs k  = some o)
  (C0:o=X89.x0->X2 Tryz.prog 18 0 Q (.exit (.exit 0)) [] ⟨fr [(3,(aI .i64 0))],hp ([]),0⟩ μ)
  (C1:∀ (Xco:Int),o=X89.x1 Xco->X2 Tryz.prog 18 0 Q (.exit .ret) [] ⟨fr [(2,(aI .i64 Xco))],hp ([]),0⟩ μ),
  X2 Tryz.prog 18 0 Q (.loop (X2o 0 (Xd Tryz.f145))) [] ⟨fr [(3,(aI .i64 0)),(6,(Lf (List.map (aI .i64) Xma))),(7,(aI .i64 (Xma.length:Int))),(8,(aI .i64 (k:Int)))],hp ([]),0⟩ μ:=by
 intro xs
 induction xs with
 |nil =>
  intro k hx  o h C0 C1;have hk:=X1g hx;have hc:decide ((k:Int)<(Xma.length:Int))=false:=Yf om;rw[X65] at h;refine X2.round ?_;revert h;exact λe=>X6 [Bf] (k:=wkT [] (C0  (oj e).symm))
 |cons x xs ih =>
  intro k hx  o h C0 C1;obtain⟨hk,hg,hx1⟩:=X0u hx;have hc:decide ((k:Int)<(Xma.length:Int))=true:=Yt om;rw[X65] at h;refine X2.round ?_;revert h;refine brI (λh6=>λe=>X6 [Bt,.el (aI .i64 x),Bt] (k:=wkT [] (C1 _  (oj e).symm))) λh6=>rnI [Bt,.el (aI .i64 x),Bf] ?_;intro h;exact wkT [] (ih (k+1) hx1  o h C0 C1)
instance X04g:PCs Tryz.prog 145 (∀ (a0:(List Int)) (r:Int),Xfs a0=some r->X0b Tryz.prog 145 [(Lf (List.map (aI .i64) a0))] (aI .i64 r)):=⟨λa0 r h=>by
 refine X0b.sym X3 X0cr (nt:=18) rfl rfl ?_ okM;unfold Xfs at h;revert h;refine bI λu1 h2=>?_;have qh2:=X0v h2;refine bI λo7 h8=>rnI [.el (aI .i64 (a0.length:Int))] ?_;intro h;refine wkT [] (X2.cut (Xkc a0 qh2 a0 0 (by simp) _ h8 ?_ ?_))
 ·
  intro eo7;subst eo7;refine X2.glue ?_;try dsimp only at h
  revert h;exact λe=>oj e▸X6 [] (k:=fi)
 intro Xco eo7;subst eo7;refine X2.glue ?_;try dsimp only at h
 revert h;exact λe=>oj e▸X6 [] (k:=fi)⟩
instance X00y:PCs Tryz.prog 116 (∀ (a0:X1) (a1:X1) (r:Int),X6y a0 a1=some r->X0b Tryz.prog 116 [(X0 a0),(X0 a1)] (aI .i64 r)):=⟨λa0 a1 r h=>by
 refine X0b.sym X3 X0de (nt:=26) rfl rfl ?_ okM;unfold X6y at h;revert h;exact bI λv1 h2=>bI λv3 h4=>bI λv5 h6=>bI λv7 h8=>λe=>oj e▸X6 [.pure _ (aI .i64 v1),.pure _ (aI .i64 v3),.pure _ (aI .i64 v5),.pure _ (aI .i64 v7)] (k:=fi)⟩
theorem X8l {Q:X03->St->Mu->Prop} {μ:Mu} (X0c:(List X1)) (hl:X0c.length<=140737488355328):∀ (xs:List X1) (k:Nat) (hx:X0c.drop k=xs) (o:X6k) (h:X2q X0c xs k  = some o)
  (C0:o=X6k.x0->X2 Tryz.prog 33 0 Q (.exit (.exit 0)) [] ⟨fr [],hp ([]),0⟩ μ)
  (C1:o=X6k.x1->X2 Tryz.prog 33 0 Q (.exit .ret) [] ⟨fr [(2,(aI .i64 8))],hp ([]),0⟩ μ),
  X2 Tryz.prog 33 0 Q (.loop (X2o 0 (Xd Tryz.f77))) [] ⟨fr [(0,(Lf (X0c.map X0))),(8,(Lf (X0c.map X0))),(9,(aI .i64 (X0c.length:Int))),(10,(aI .i64 (k:Int)))],hp ([]),0⟩ μ:=by
 intro xs
 induction xs with
 |nil =>
  intro k hx  o h C0 C1;have hk:=X1g hx;have hc:decide ((k:Int)<(X0c.length:Int))=false:=Yf om;rw[X2q] at h;refine X2.round ?_;revert h;exact λe=>X6 [Bf] (k:=wkT [] (C0  (oj e).symm))
 |cons x xs ih =>
  intro k hx  o h C0 C1;obtain⟨hk,hg,hx1⟩:=X0u hx;have hc:decide ((k:Int)<(X0c.length:Int))=true:=Yt om;rw[X2q] at h;refine X2.round ?_;revert h;refine bI λXz2 h60=>rnI [Bt,.el (X0 x),.stop 6] ?_;intro h;refine X2.join (s':=⟨fr [(0,(Lf (X0c.map X0))),(8,(Lf (X0c.map X0))),(9,(aI .i64 (X0c.length:Int))),(10,(aI .i64 (k:Int))),(31,(aB Xz2))],hp ([]),0⟩) ?_ (λJ=>X2.cut ?_)
  ·
   revert h;refine brI (λh61=>λe=>X6 [Bt] (k:=wkT [] (C1  (oj e).symm))) λh61=>rnI [Bf] ?_;intro h;exact wkT [] (ih (k+1) hx1  o h C0 C1)
  clear h;revert h60;refine bI λv52 h53=>brI (λh54=>?_) λh54=>?_
  ·
   intro h;obtain rfl:=oj h;exact X6 [.pure _ (aB v52),Gf,Gf,Gf,.no,.no,.no,.no,.no,.no,.no,.no,Gf,Gt] (k:=wkT [] (X2.glue J))
  refine brI (λh55=>?_) λh55=>?_
  ·
   refine bI λe56 h57=>?_;try have qh57:=Xl h57
   refine bI λv58 h59=>?_;intro h;obtain rfl:=oj h;exact X6 [.pure _ (aB v52),Gt,Gt,Gt,Gt,Gt,Gt,.wrap,Gt,.el (X0 e56),Gt,Gt,Gt,.pure _ (aI .i64 v58),Gt,Gt] (k:=wkT [] (X2.glue J))
  intro h;obtain rfl:=oj h;exact X6 [.pure _ (aB v52),Gt,Gt,Gt,Gf,Gf,Gf,Gf,Gf,Gf,Gf,Gf,Gt,Gf] (k:=wkT [] (X2.glue J))
instance Xml:PCs Tryz.prog 77 (∀ (a0:(List X1)) (r:Int),X3x a0=some r->X0b Tryz.prog 77 [(Lf (a0.map X0))] (aI .i64 r)):=⟨λa0 r h=>by
 refine X0b.sym X3 fn77 (nt:=33) rfl rfl ?_ okM;unfold X3x at h;revert h;refine brI (λh1=>λe=>oj e▸X6 [.el (aI .i64 (a0.length:Int)),Bt] (k:=fi)) λh1=>bI λu2 h3=>?_;have qh3:=X0v h3;refine bI λo62 h63=>rnI [.el (aI .i64 (a0.length:Int)),Bf,.el (aI .i64 (a0.length:Int))] ?_;intro h;refine wkT [] (X2.cut (X8l a0 qh3 a0 0 (by simp) _ h63 ?_ ?_))
 ·
  intro eo62;subst eo62;refine X2.glue ?_;try dsimp only at h
  revert h;exact λe=>oj e▸X6 [] (k:=fi)
 intro eo62;subst eo62;refine X2.glue ?_;try dsimp only at h
 revert h;exact λe=>oj e▸X6 [] (k:=fi)⟩
instance X00x:PCs Tryz.prog 99 (∀ (a0:Int) (r:Bool),Xas a0=some r->X0b Tryz.prog 99 [(aI .i64 a0)] (aB r)):=⟨λa0 r h=>by
 refine X0b.sym X3 fn99 (nt:=11) rfl rfl ?_ okM;unfold Xas at h;revert h;refine bI λj4_2 h8=>rnI [.stop 1] ?_;intro h;refine X2.join (s':=⟨fr [(2,(aB j4_2))],hp ([]),0⟩) ?_ (λJ=>X2.cut ?_)
 ·
  revert h;exact λe=>oj e▸X6 [] (k:=fi)
 clear h;revert h8;refine brI (λh5=>?_) λh5=>?_
 ·
  intro h;obtain rfl:=oj h;exact X6 [Gf,Gf,Gf,Gf] (k:=wkT [] (X2.glue J))
 refine bI λv6 h7=>?_;intro h;obtain rfl:=oj h;exact X6 [Gt,Gt,Gt,.pure _ (aI .i64 v6),Gt] (k:=wkT [] (X2.glue J))⟩
instance X03d:PCs Tryz.prog 135 (∀ (a0:X01) (r:Xp×Int),Xfi a0=some r->X0b Tryz.prog 135 [(X8 a0)] (AV.tup [(X0n r.1),(aI .i64 r.2)])):=⟨λa0 r h=>by
 refine X0b.sym X3 X0cz (nt:=34) rfl rfl ?_ okM;unfold Xfi at h;revert h;refine brI (λh1=>?_) λh1=>?_
 ·
  refine bI λX06w h9=>rnI [Bt,.stop 2] ?_;intro h;refine X2.join (s':=⟨fr [(1,(AV.ptr 0 0 0)),(2,(AV.ptr 1 0 0)),(15,(aB X06w))],hp ([(0,Ob [(X8 a0)] 5),(1,Ob [(X0n (Xp.mk 0 (Xg.mk 0 0 0) 0 (X1b.mk 0 (Xy.mk 0 0) (V2.mk 0 0))))] 10)]),2⟩) ?_ (λJ=>X2.cut ?_)
  ·
   revert h;exact brI (λh10=>λe=>oj e▸X6 [Bt] (k:=fi)) λh10=>λe=>oj e▸X6 [Bf] (k:=fi)
  clear h;revert h9;refine bI λv6 h7=>brI (λh8=>?_) λh8=>?_
  ·
   intro h;obtain rfl:=oj h;exact X6 [.pure _ (aB v6),Gf,Gf,Gf,Gf] (k:=wkT [] (X2.glue J))
  intro h;obtain rfl:=oj h;exact X6 [.pure _ (aB v6),Gt,Gt,Gt,Gt] (k:=wkT [] (X2.glue J))
 refine bI λXze h18=>rnI [Bf,.stop 5] ?_;intro h;refine X2.join (s':=⟨fr [(1,(AV.ptr 0 0 0)),(2,(AV.ptr 1 0 0)),(29,(aB Xze))],hp ([(0,Ob [(X8 a0)] 5),(1,Ob [(X0n (Xp.mk 0 (Xg.mk 0 0 0) 0 (X1b.mk 0 (Xy.mk 0 0) (V2.mk 0 0))))] 10)]),2⟩) ?_ (λJ=>X2.cut ?_)
 ·
  revert h;exact brI (λh19=>λe=>oj e▸X6 [Bt] (k:=fi)) λh19=>λe=>oj e▸X6 [Bf] (k:=fi)
 clear h;revert h18;refine brI (λh15=>?_) λh15=>?_
 ·
  intro h;obtain rfl:=oj h;exact X6 [Gf,Gf,Gf,Gf,Gf] (k:=wkT [] (X2.glue J))
 refine bI λv16 h17=>?_;intro h;obtain rfl:=oj h;exact X6 [Gt,Gt,Gt,Gt,.pure _ (aB v16),Gt] (k:=wkT [] (X2.glue J))⟩
instance Xwn:PCs Tryz.prog 100 (∀ (a0:X01) (r:Int),X84 a0=some r->X0b Tryz.prog 100 [(X8 a0)] (aI .i64 r)):=⟨λa0 r h=>by
 refine X0b.sym X3 X0dr (nt:=11) rfl rfl ?_ okM;unfold X84 at h;revert h;exact bI λv1 h2=>λe=>oj e▸X6 [.pure _ (AV.tup [(X0n v1.1),(aI .i64 v1.2)])] (k:=fi)⟩
theorem Xjv {Q:X03->St->Mu->Prop} {μ:Mu} (Xh:Xo) (Xeg:(List Int)) (hl:Xeg.length<=140737488355328):∀ (xs:List Int) (k:Nat) (hx:Xeg.drop k=xs) (Xbu:Bool) (o:Xax) (h:X3q Xh Xeg xs k Xbu=some o)
  (C0:∀ (Xi1:Bool),o=Xax.x0 Xi1->X2 Tryz.prog 202 0 Q (.exit (.exit 0)) [] ⟨fr [(1,(AV.ptr 0 0 0)),(11,(aB Xi1))],hp ([(0,Ob [(Xa false Xh)] 9)]),1⟩ μ),
  X2 Tryz.prog 202 0 Q (.loop (X2o 0 (Xd Tryz.f61))) [] ⟨fr [(1,(AV.ptr 0 0 0)),(11,(aB Xbu)),(122,(Lf (List.map (aI .i64) Xeg))),(123,(aI .i64 (Xeg.length:Int))),(124,(aI .i64 (k:Int)))],hp ([(0,Ob [(Xa false Xh)] 9)]),1⟩ μ:=by
 intro xs
 induction xs with
 |nil =>
  intro k hx Xbu o h C0;have hk:=X1g hx;have hc:decide ((k:Int)<(Xeg.length:Int))=false:=Yf om;rw[X3q] at h;refine X2.round ?_;revert h;exact λe=>X6 [Bf] (k:=wkT [] (C0 _  (oj e).symm))
 |cons x xs ih =>
  intro k hx Xbu o h C0;obtain⟨hk,hg,hx1⟩:=X0u hx;have hc:decide ((k:Int)<(Xeg.length:Int))=true:=Yt om;rw[X3q] at h;refine X2.round ?_;revert h;refine bI λXyz h76=>rnI [Bt,.el (aI .i64 x),.stop 10] ?_;intro h;refine X2.join (s':=⟨fr [(1,(AV.ptr 0 0 0)),(11,(aB Xyz)),(122,(Lf (List.map (aI .i64) Xeg))),(123,(aI .i64 (Xeg.length:Int))),(124,(aI .i64 (k:Int)))],hp ([(0,Ob [(Xa false Xh)] 9)]),1⟩) ?_ (λJ=>X2.cut ?_)
  ·
   exact X6 [] (k:=wkT [] (ih (k+1) hx1 _ o h C0))
  clear h;revert h76;refine brI (λh73=>?_) λh73=>?_
  ·
   refine bI λv74 h75=>?_;intro h;obtain rfl:=oj h;exact X6 [Gt,Gt,.pure _ (aB v74)] (k:=wkT [] (X2.glue J))
  intro h;obtain rfl:=oj h;exact X6 [Gf,Gf] (k:=wkT [] (X2.glue J))
theorem Xju {Q:X03->St->Mu->Prop} {μ:Mu} (X2c:Xo) (Xee:(List X01)) (hl:Xee.length<=140737488355328):∀ (xs:List X01) (k:Nat) (hx:Xee.drop k=xs) (Xmf:Bool) (o:Xaw) (h:X3p X2c Xee xs k Xmf=some o)
  (C0:∀ (Xi0:Bool),o=Xaw.x0 Xi0->X2 Tryz.prog 202 0 Q (.exit (.exit 2)) [] ⟨fr [(1,(AV.ptr 0 0 0)),(11,(aB Xi0))],hp ([(0,Ob [(Xa false X2c)] 9)]),1⟩ μ),
  X2 Tryz.prog 202 0 Q (.loop (X2o 1 (Xd Tryz.f61))) [] ⟨fr [(1,(AV.ptr 0 0 0)),(11,(aB Xmf)),(135,(Lf (Xee.map X8))),(136,(aI .i64 (Xee.length:Int))),(137,(aI .i64 (k:Int)))],hp ([(0,Ob [(Xa false X2c)] 9)]),1⟩ μ:=by
 intro xs
 induction xs with
 |nil =>
  intro k hx Xmf o h C0;have hk:=X1g hx;have hc:decide ((k:Int)<(Xee.length:Int))=false:=Yf om;rw[X3p] at h;refine X2.round ?_;revert h;exact λe=>X6 [Bf] (k:=wkT [] (C0 _  (oj e).symm))
 |cons x xs ih =>
  intro k hx Xmf o h C0;obtain⟨hk,hg,hx1⟩:=X0u hx;have hc:decide ((k:Int)<(Xee.length:Int))=true:=Yt om;rw[X3p] at h;refine X2.round ?_;revert h;refine bI λXsn h105=>rnI [Bt,.el (X8 x),.stop 15] ?_;intro h;refine X2.join (s':=⟨fr [(1,(AV.ptr 0 0 0)),(11,(aB Xsn)),(135,(Lf (Xee.map X8))),(136,(aI .i64 (Xee.length:Int))),(137,(aI .i64 (k:Int)))],hp ([(0,Ob [(Xa false X2c)] 9)]),1⟩) ?_ (λJ=>X2.cut ?_)
  ·
   exact X6 [] (k:=wkT [] (ih (k+1) hx1 _ o h C0))
  clear h;revert h105;refine brI (λh102=>?_) λh102=>?_
  ·
   refine bI λv103 h104=>?_;intro h;obtain rfl:=oj h;exact X6 [Gt,Gt,.pure _ (aI .i64 v103),Gt] (k:=wkT [] (X2.glue J))
  intro h;obtain rfl:=oj h;exact X6 [Gf,Gf,Gf] (k:=wkT [] (X2.glue J))
theorem Xjt {Q:X03->St->Mu->Prop} {μ:Mu} (X4k:Xo) (Xed:(List X1b)) (hl:Xed.length<=140737488355328):∀ (xs:List X1b) (k:Nat) (hx:Xed.drop k=xs) (Xme:Bool) (o:Xav) (h:X3o X4k Xed xs k Xme=some o)
  (C0:∀ (Xhz:Bool),o=Xav.x0 Xhz->X2 Tryz.prog 202 0 Q (.exit (.exit 4)) [] ⟨fr [(1,(AV.ptr 0 0 0)),(11,(aB Xhz))],hp ([(0,Ob [(Xa false X4k)] 9)]),1⟩ μ),
  X2 Tryz.prog 202 0 Q (.loop (X2o 2 (Xd Tryz.f61))) [] ⟨fr [(1,(AV.ptr 0 0 0)),(11,(aB Xme)),(149,(Lf (Xed.map Xf))),(150,(aI .i64 (Xed.length:Int))),(151,(aI .i64 (k:Int)))],hp ([(0,Ob [(Xa false X4k)] 9)]),1⟩ μ:=by
 intro xs
 induction xs with
 |nil =>
  intro k hx Xme o h C0;have hk:=X1g hx;have hc:decide ((k:Int)<(Xed.length:Int))=false:=Yf om;rw[X3o] at h;refine X2.round ?_;revert h;exact λe=>X6 [Bf] (k:=wkT [] (C0 _  (oj e).symm))
 |cons x xs ih =>
  intro k hx Xme o h C0;obtain⟨hk,hg,hx1⟩:=X0u hx;have hc:decide ((k:Int)<(Xed.length:Int))=true:=Yt om;rw[X3o] at h;refine X2.round ?_;revert h;refine bI λXsh h134=>rnI [Bt,.el (Xf x),.stop 20] ?_;intro h;refine X2.join (s':=⟨fr [(1,(AV.ptr 0 0 0)),(11,(aB Xsh)),(149,(Lf (Xed.map Xf))),(150,(aI .i64 (Xed.length:Int))),(151,(aI .i64 (k:Int)))],hp ([(0,Ob [(Xa false X4k)] 9)]),1⟩) ?_ (λJ=>X2.cut ?_)
  ·
   exact X6 [] (k:=wkT [] (ih (k+1) hx1 _ o h C0))
  clear h;revert h134;refine brI (λh131=>?_) λh131=>?_
  ·
   refine bI λv132 h133=>?_;intro h;obtain rfl:=oj h;exact X6 [Gt,Gt,Gt,.pure _ (aI .i64 v132),Gt] (k:=wkT [] (X2.glue J))
  intro h;obtain rfl:=oj h;exact X6 [Gf,Gf,Gf,Gf] (k:=wkT [] (X2.glue J))
end Go.Av.Tryz