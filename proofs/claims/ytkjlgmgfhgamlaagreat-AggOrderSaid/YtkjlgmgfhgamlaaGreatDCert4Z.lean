/- Printed by decomp.py: that the program computes the functions. -/
import Derived.Test.YtkjlgmgfhgamlaaGreatDCert3Z
set_option linter.all false

namespace Go.Av.Tryz
open Go.Proofs Go.D
set_option maxRecDepth 10000
set_option maxHeartbeats 40000000
instance Xuc:PCs Tryz.prog 95 (∀ (a0:X08) (r:Int×Int),X7t a0=some r->X0i Tryz.prog 95 [(X06 false a0)] (AV.tup [(aI .i64 r.1),(aI .i64 r.2)])):=⟨λa0 r h=>by
 refine X0i.sym X3 fn95 (nt:=20) rfl rfl ?_ okM;unfold X7t at h;revert h;refine bI λv1 h2=>brI (λh3=>λe=>oj e▸X7 [.pure _ (aI .i64 v1),Bt] (k:=fi)) λh3=>bI λw22 h41=>?_;intro h;obtain⟨Xwp,Xwo⟩:=w22;try dsimp only at h
 refine X0e [.pure _ (aI .i64 v1),Bf] ?_;refine X2.joinOp (s':=⟨fr [(17,(AV.tup [(aI .i64 Xwp),(aI .i64 Xwo)]))],hp ([]),0⟩) ?_ (λJ=>?_)
 ·
  revert h;exact λe=>oj e▸X7 [] (k:=fi)
 clear h;revert h41;intro h;refine X2.inline X3 X04d rfl rfl rfl rfl rfl trivial trivial rfl rfl ?_;refine X0e [] ?_;refine X2.round ?_;revert h;refine brI (λh23=>?_) λh23=>?_
 ·
  refine rnI [Bt,.el (AV.agg [(Lf (a0.Arg.map X4)),(AV.fn 133 [])]),.el (aI .i64 (a0.Arg.length:Int)),Bt] ?_;intro h;refine X2.round ?_;revert h;refine brI (λh24=>?_) λh24=>?_
  ·
   refine rnI [Bt,.el (AV.agg [(Lf (a0.Where.map X4)),(AV.fn 134 [])]),.el (aI .i64 (a0.Where.length:Int)),Bt] ?_;intro h;refine X2.round ?_;simp only[Option.some.injEq,Prod.mk.injEq] at h;obtain⟨rfl,rfl⟩:=h;refine X0e [Bf] ?_;refine X2.back (by intro id h;cases h) rfl ?_;exact wkT [] (J)
  refine bI λv25 h26=>rnI [Bt,.el (AV.agg [(Lf (a0.Where.map X4)),(AV.fn 134 [])]),.el (aI .i64 (a0.Where.length:Int)),Bf,.pure _ (AV.tup [(aI .i64 v25.1),(aI .i64 v25.2)])] ?_;refine brI (λh27=>?_) λh27=>?_
  ·
   refine bI λe28 h29=>?_;try have qh29:=Xo h29
   intro h;simp only[Option.some.injEq,Prod.mk.injEq] at h;obtain⟨rfl,rfl⟩:=h;refine X0e [Bt,.el (X4 e28)] ?_;refine X2.back (by intro id h;cases h) rfl ?_;exact wkT [] (J)
  refine rnI [Bf] ?_;intro h;refine X2.round ?_;simp only[Option.some.injEq,Prod.mk.injEq] at h;obtain⟨rfl,rfl⟩:=h;refine X0e [Bf] ?_;refine X2.back (by intro id h;cases h) rfl ?_;exact wkT [] (J)
 refine bI λv30 h31=>rnI [Bt,.el (AV.agg [(Lf (a0.Arg.map X4)),(AV.fn 133 [])]),.el (aI .i64 (a0.Arg.length:Int)),Bf,.pure _ (AV.tup [(aI .i64 v30.1),(aI .i64 v30.2)])] ?_;refine brI (λh32=>?_) λh32=>?_
 ·
  refine bI λe33 h34=>?_;try have qh34:=Xo h34
  intro h;simp only[Option.some.injEq,Prod.mk.injEq] at h;obtain⟨rfl,rfl⟩:=h;refine X0e [Bt,.el (X4 e33)] ?_;refine X2.back (by intro id h;cases h) rfl ?_;exact wkT [] (J)
 refine rnI [Bf] ?_;intro h;refine X2.round ?_;revert h;refine brI (λh35=>?_) λh35=>?_
 ·
  refine rnI [Bt,.el (AV.agg [(Lf (a0.Where.map X4)),(AV.fn 134 [])]),.el (aI .i64 (a0.Where.length:Int)),Bt] ?_;intro h;refine X2.round ?_;simp only[Option.some.injEq,Prod.mk.injEq] at h;obtain⟨rfl,rfl⟩:=h;refine X0e [Bf] ?_;refine X2.back (by intro id h;cases h) rfl ?_;exact wkT [] (J)
 refine bI λv36 h37=>rnI [Bt,.el (AV.agg [(Lf (a0.Where.map X4)),(AV.fn 134 [])]),.el (aI .i64 (a0.Where.length:Int)),Bf,.pure _ (AV.tup [(aI .i64 v36.1),(aI .i64 v36.2)])] ?_;refine brI (λh38=>?_) λh38=>?_
 ·
  refine bI λe39 h40=>?_;try have qh40:=Xo h40
  intro h;simp only[Option.some.injEq,Prod.mk.injEq] at h;obtain⟨rfl,rfl⟩:=h;refine X0e [Bt,.el (X4 e39)] ?_;refine X2.back (by intro id h;cases h) rfl ?_;exact wkT [] (J)
 refine rnI [Bf] ?_;intro h;refine X2.round ?_;simp only[Option.some.injEq,Prod.mk.injEq] at h;obtain⟨rfl,rfl⟩:=h;refine X0e [Bf] ?_;refine X2.back (by intro id h;cases h) rfl ?_;exact wkT [] (J)⟩
instance Xul:PCs Tryz.prog 60 (∀ (a0:X08) (r:Bool),X7u a0=some r->X0i Tryz.prog 60 [(X06 false a0)] (aB r)):=⟨λa0 r h=>by
 refine X0i.sym X3 fn60 (nt:=17) rfl rfl ?_ okM;unfold X7u at h;revert h;exact bI λv1 h2=>λe=>oj e▸X7 [.pure _ (AV.tup [(aI .i64 v1.1),(aI .i64 v1.2)])] (k:=fi)⟩
instance Xuq:PCs Tryz.prog 96 (∀ (a0:Int) (r:Int×Int×Bool×Bool×Bool×Bool),X8w a0=some r->X0i Tryz.prog 96 [(aI .u8 a0)] (AV.tup [(aI .i64 r.1),(aI .i64 r.2.1),(aB r.2.2.1),(aB r.2.2.2.1),(aB r.2.2.2.2.1),(aB r.2.2.2.2.2)])):=⟨λa0 r h=>by
 refine X0i.sym X3 fn96 (nt:=23) rfl rfl ?_ okM;unfold X8w at h;revert h;refine bI λw8 h16=>?_;intro h;obtain⟨j8_2,j8_3,j8_4,j8_5,j8_6,j8_7⟩:=w8;try dsimp only at h
 refine X0e [] ?_;refine X2.join (s':=⟨fr [(2,(aI .i64 j8_2)),(3,(aI .i64 j8_3)),(4,(aB j8_4)),(5,(aB j8_5)),(6,(aB j8_6)),(7,(aB j8_7))],hp ([]),0⟩) ?_ (λJ=>X2.cut ?_)
 ·
  revert h;exact λe=>oj e▸X7 [] (k:=fi)
 clear h;revert h16;refine brI (λh9=>?_) λh9=>?_
 ·
  intro h;obtain rfl:a0=1:=eq_of_beq h9;simp only[Option.some.injEq,Prod.mk.injEq] at h;obtain⟨rfl,rfl,rfl,rfl,rfl,rfl⟩:=h;exact X7 [Bt] (k:=wkT [] (X2.glue J))
 refine brI (λh10=>?_) λh10=>?_
 ·
  intro h;obtain rfl:a0=2:=eq_of_beq h10;simp only[Option.some.injEq,Prod.mk.injEq] at h;obtain⟨rfl,rfl,rfl,rfl,rfl,rfl⟩:=h;exact X7 [Bf,Bt] (k:=wkT [] (X2.glue J))
 refine brI (λh11=>?_) λh11=>?_
 ·
  intro h;obtain rfl:a0=3:=eq_of_beq h11;simp only[Option.some.injEq,Prod.mk.injEq] at h;obtain⟨rfl,rfl,rfl,rfl,rfl,rfl⟩:=h;exact X7 [Bf,Bf,Bt] (k:=wkT [] (X2.glue J))
 refine brI (λh12=>?_) λh12=>?_
 ·
  intro h;obtain rfl:a0=4:=eq_of_beq h12;simp only[Option.some.injEq,Prod.mk.injEq] at h;obtain⟨rfl,rfl,rfl,rfl,rfl,rfl⟩:=h;exact X7 [Bf,Bf,Bf,Bt] (k:=wkT [] (X2.glue J))
 refine brI (λh13=>?_) λh13=>?_
 ·
  intro h;simp only[Option.some.injEq,Prod.mk.injEq] at h;obtain⟨rfl,rfl,rfl,rfl,rfl,rfl⟩:=h;exact X7 [Bf,Bf,Bf,Bf,Bt] (k:=wkT [] (X2.glue J))
 refine brI (λh14=>?_) λh14=>?_
 ·
  intro h;simp only[Option.some.injEq,Prod.mk.injEq] at h;obtain⟨rfl,rfl,rfl,rfl,rfl,rfl⟩:=h;exact X7 [Bf,Bf,Bf,Bf,Bf,Bt] (k:=wkT [] (X2.glue J))
 refine brI (λh15=>?_) λh15=>?_
 ·
  intro h;simp only[Option.some.injEq,Prod.mk.injEq] at h;obtain⟨rfl,rfl,rfl,rfl,rfl,rfl⟩:=h;exact X7 [Bf,Bf,Bf,Bf,Bf,Bf,Bt] (k:=wkT [] (X2.glue J))
 intro h;simp only[Option.some.injEq,Prod.mk.injEq] at h;obtain⟨rfl,rfl,rfl,rfl,rfl,rfl⟩:=h;exact X7 [Bf,Bf,Bf,Bf,Bf,Bf,Bf] (k:=wkT [] (X2.glue J))⟩
instance Xxj:PCs Tryz.prog 97 (∀ (a0:Bool) (a1:Int) (r:Int),X8v a0 a1=some r->X0i Tryz.prog 97 [(aB a0),(aI .i64 a1)] (aI .i64 r)):=⟨λa0 a1 r h=>by
 refine X0i.sym X3 fn97 (nt:=7) rfl rfl ?_ okM;unfold X8v at h;revert h;exact brI (λh1=>λe=>oj e▸X7 [Bt] (k:=fi)) λh1=>λe=>oj e▸X7 [Bf] (k:=fi)⟩
instance Xqv:PCs Tryz.prog 101 (∀ (a0:Int) (r:Bool),X3m a0=some r->X0i Tryz.prog 101 [(aI .i64 a0)] (aB r)):=⟨λa0 r h=>by
 refine X0i.sym X3 X04u (nt:=9) rfl rfl ?_ okM;unfold X3m at h;revert h;exact λe=>oj e▸X7 [] (k:=fi)⟩
instance Xqw:PCs Tryz.prog 102 (∀ (a0:Int) (r:Bool),X4g a0=some r->X0i Tryz.prog 102 [(aI .i64 a0)] (aB r)):=⟨λa0 r h=>by
 refine X0i.sym X3 X04t (nt:=9) rfl rfl ?_ okM;unfold X4g at h;revert h;exact bI λv1 h2=>λe=>oj e▸X7 [.pure _ (aB v1)] (k:=fi)⟩
instance Xru:PCs Tryz.prog 62 (∀ (a0:Xd) (r:Int),X2g a0=some r->X0i Tryz.prog 62 [(Xl a0)] (aI .i64 r)):=⟨λa0 r h=>by
 refine X0i.sym X3 fn62 (nt:=59) rfl rfl ?_ okM;unfold X2g at h;revert h;refine bI λXzk h4=>rnI [] ?_;intro h;refine X2.join (s':=⟨fr [(1,(AV.ptr 0 0 0)),(3,(aB false)),(4,(AV.ptr 1 0 0)),(10,(aI .u8 a0.Kind)),(11,(aB Xzk))],hp ([(0,Ob [(Xl a0)] 10),(1,Ob [(Xl (Xd.mk a0.Kind (X8.mk 0 0 0) 0 (X19.mk 0 (X04.mk 0 0) (V2.mk 0 0))))] 10)]),2⟩) ?_ (λJ=>X2.cut ?_)
 ·
  revert h;refine bI λw12 h20=>?_;intro h;obtain⟨X03d,X01u⟩:=w12;try dsimp only at h
  refine X0e [] ?_;refine X2.join (s':=⟨fr [(1,(AV.ptr 0 0 0)),(3,(aB X03d)),(4,(AV.ptr 1 0 0))],hp ([(0,Ob [(Xl a0)] 10),(1,Ob [(Xl X01u)] 10)]),2⟩) ?_ (λJ=>X2.cut ?_)
  ·
   revert h;exact brI (λh21=>λe=>oj e▸X7 [Bt] (k:=fi)) λh21=>λe=>oj e▸X7 [Bf] (k:=fi)
  clear h;revert h20;refine brI (λh13=>?_) λh13=>?_
  ·
   refine bI λv14 h15=>?_;intro h;simp only[Option.some.injEq,Prod.mk.injEq] at h;obtain⟨rfl,rfl⟩:=h;exact X7 [Bt,.pure _ (aB v14)] (k:=wkT [] (X2.glue J))
  refine brI (λh16=>?_) λh16=>?_
  ·
   refine bI λv17 h18=>?_;intro h;simp only[Option.some.injEq,Prod.mk.injEq] at h;obtain⟨rfl,rfl⟩:=h;exact X7 [Bf,Bt,.pure _ (aB v17)] (k:=wkT [] (X2.glue J))
  refine brI (λh19=>?_) λh19=>?_
  ·
   intro h;simp only[Option.some.injEq,Prod.mk.injEq] at h;obtain⟨rfl,rfl⟩:=h;exact X7 [Bf,Bf,Bt] (k:=wkT [] (X2.glue J))
  intro h;simp only[Option.some.injEq,Prod.mk.injEq] at h;obtain⟨rfl,rfl⟩:=h;exact X7 [Bf,Bf,Bf] (k:=wkT [] (X2.glue J))
 clear h;revert h4;refine brI (λh3=>?_) λh3=>?_
 ·
  intro h;obtain rfl:=oj h;exact X7 [Bt] (k:=wkT [] (X2.glue J))
 intro h;obtain rfl:=oj h;exact X7 [Bf] (k:=wkT [] (X2.glue J))⟩
theorem Xg7 {Q:Xx->St->Mu->Prop} {μ:Mu} (Xiy:(List X0a)) (hl:Xiy.length<=140737488355328):∀ (xs:List X0a) (k:Nat) (hx:Xiy.drop k=xs) (o:X6f) (h:X40 Xiy xs k  = some o)
  (C0:o=X6f.x0->X2 Tryz.prog 26 0 Q (.exit (.exit 0)) [] ⟨fr [],hp ([]),0⟩ μ)
  (C1:o=X6f.x1->X2 Tryz.prog 26 0 Q (.exit .ret) [] ⟨fr [(2,(aB false))],hp ([]),0⟩ μ),
  X2 Tryz.prog 26 0 Q (.loop (X48 0 (Xa Tryz.f98))) [] ⟨fr [(5,(Lf (Xiy.map Xw))),(6,(aI .i64 (Xiy.length:Int))),(7,(aI .i64 (k:Int)))],hp ([]),0⟩ μ:=by
 intro xs
 induction xs with
 |nil =>
  intro k hx  o h C0 C1;have hk:=drop_nil hx;have hc:decide ((k:Int)<(Xiy.length:Int))=false:=Yf om;rw[X40] at h;refine X2.round ?_;revert h;exact λe=>X7 [Bf] (k:=wkT [] (C0  (oj e).symm))
 |cons x xs ih =>
  intro k hx  o h C0 C1;obtain⟨hk,hg,hx1⟩:=X12 hx;have hc:decide ((k:Int)<(Xiy.length:Int))=true:=Yt om;rw[X40] at h;refine X2.round ?_;revert h;refine bI λXtj h35=>rnI [Bt,.el (Xw x),.stop 4] ?_;intro h;refine X2.join (s':=⟨fr [(5,(Lf (Xiy.map Xw))),(6,(aI .i64 (Xiy.length:Int))),(7,(aI .i64 (k:Int))),(24,(aB Xtj))],hp ([]),0⟩) ?_ (λJ=>X2.cut ?_)
  ·
   revert h;refine brI (λh36=>λe=>X7 [Bt] (k:=wkT [] (C1  (oj e).symm))) λh36=>rnI [Bf] ?_;intro h;exact wkT [] (ih (k+1) hx1  o h C0 C1)
  clear h;revert h35;refine brI (λh31=>?_) λh31=>?_
  ·
   intro h;obtain rfl:=oj h;exact X7 [Gf,Gf,Gf,Gf,Gf,Gf,Gf] (o:=by repeat' first|apply Ya|exact pcM|exact fq (Xg h31 rfl)|exact Xz) (k:=wkT [] (X2.glue J))
  refine brI (λh32=>?_) λh32=>?_
  ·
   intro h;obtain rfl:=oj h;exact X7 [Gt,Gt,Gt,Gf,Gf,Gf,Gf] (o:=by repeat' first|apply Ya|exact pcM|exact fq (Xr h31 h32)|exact Xz) (k:=wkT [] (X2.glue J))
  refine bI λv33 h34=>?_;intro h;obtain rfl:=oj h;exact X7 [Gt,Gt,Gt,Gt,Gt,Gt,.pure _ (aI .i64 v33),Gt] (o:=by repeat' first|apply Ya|exact pcM|exact fq (Xr h31 h32)|exact Xz) (k:=wkT [] (X2.glue J))
instance Xvq:PCs Tryz.prog 98 (∀ (a0:(List X0a)) (r:Bool),X8g a0=some r->X0i Tryz.prog 98 [(Lf (a0.map Xw))] (aB r)):=⟨λa0 r h=>by
 refine X0i.sym X3 fn98 (nt:=26) rfl rfl ?_ okM;unfold X8g at h;revert h;refine bI λu1 h2=>?_;have qh2:=X13 h2;refine bI λo37 h38=>rnI [.el (aI .i64 (a0.length:Int))] ?_;intro h;refine wkT [] (X2.cut (Xg7 a0 qh2 a0 0 (by simp) _ h38 ?_ ?_))
 ·
  intro eo37;subst eo37;refine X2.glue ?_;try dsimp only at h
  revert h;exact λe=>oj e▸X7 [] (k:=fi)
 intro eo37;subst eo37;refine X2.glue ?_;try dsimp only at h
 revert h;exact λe=>oj e▸X7 [] (k:=fi)⟩
instance X34:PCs Tryz.prog 68 (∀ (a0:X11) (r:Int),X2b a0=some r->X0i Tryz.prog 68 [(X0q a0)] (aI .i64 r)):=⟨λa0 r h=>by
 refine X0i.sym X3 fn68 (nt:=43) rfl rfl ?_ okM;unfold X2b at h;revert h;refine bI λj4_3 h8=>rnI [] ?_;intro h;refine X2.join (s':=⟨fr [(3,(aB j4_3))],hp ([]),0⟩) ?_ (λJ=>X2.cut ?_)
 ·
  revert h;exact brI (λh9=>λe=>oj e▸X7 [Bt] (k:=fi)) λh9=>λe=>oj e▸X7 [Bf] (k:=fi)
 clear h;revert h8;refine brI (λh5=>?_) λh5=>?_
 ·
  intro h;obtain rfl:=oj h;exact X7 [Bt] (k:=wkT [] (X2.glue J))
 refine brI (λh6=>?_) λh6=>?_
 ·
  intro h;obtain rfl:=oj h;exact X7 [Bf,Bt] (k:=wkT [] (X2.glue J))
 refine brI (λh7=>?_) λh7=>?_
 ·
  intro h;obtain rfl:=oj h;exact X7 [Bf,Bf,Bt] (k:=wkT [] (X2.glue J))
 intro h;obtain rfl:=oj h;exact X7 [Bf,Bf,Bf] (k:=wkT [] (X2.glue J))⟩
instance Xa1:PCs Tryz.prog 115 (∀ (a0:X1) (r:Bool),X5x a0=some r->X0i Tryz.prog 115 [(X0 a0)] (aB r)):=⟨λa0 r h=>by
 refine X0i.sym X3 X04q (nt:=46) rfl rfl ?_ okM;unfold X5x at h;revert h;refine brI (λh1=>λe=>oj e▸X7 [Bt] (k:=fi)) λh1=>bI λj8_2 h15=>rnI [Bf,.stop 3] ?_;intro h;refine X2.join (s':=⟨fr [(2,(aB j8_2))],hp ([]),0⟩) ?_ (λJ=>X2.cut ?_)
 ·
  revert h;exact λe=>oj e▸X7 [] (k:=fi)
 clear h;revert h15;refine bI λv9 h10=>brI (λh11=>?_) λh11=>?_
 ·
  refine bI λv12 h13=>brI (λh14=>?_) λh14=>?_
  ·
   intro h;obtain rfl:=oj h;exact X7 [.ix 0,.pure _ (aI .i64 v9),Gt,Gt,.ix 1,Gt,Gt,.pure _ (aI .i64 v12),Gt,Gt,Gt,.ix 0,Gt,Gt,Gt,Gt,.ix 1,Gt,Gt,Gt,.wrap,Gt] (o:=by repeat' first|apply Ya|exact pcM|exact fq (Xg h11 h14)|exact Xz) (k:=wkT [] (X2.glue J))
  intro h;obtain rfl:=oj h;exact X7 [.ix 0,.pure _ (aI .i64 v9),Gt,Gt,.ix 1,Gt,Gt,.pure _ (aI .i64 v12),Gt,Gf,Gf,Gf,Gf,Gf,Gf,Gf,Gf,Gf,Gf] (o:=by repeat' first|apply Ya|exact pcM|exact fq (Xg h11 h14)|exact Xz) (k:=wkT [] (X2.glue J))
 intro h;obtain rfl:=oj h;exact X7 [.ix 0,.pure _ (aI .i64 v9),Gf,Gf,Gf,Gf,Gf,Gf,Gf,Gf,Gf,Gf,Gf,Gf,Gf,Gf,Gf] (o:=by repeat' first|apply Ya|exact pcM|exact fq (Xr h11 rfl)|exact Xz) (k:=wkT [] (X2.glue J))⟩
instance Xq5:PCs Tryz.prog 167 (∀ (a0:Int) (r:Bool),X53 a0=some r->X0i Tryz.prog 167 [(aI .i64 a0)] (aB r)):=⟨λa0 r h=>by
 refine X0i.sym X3 X03x (nt:=6) rfl rfl ?_ okM;unfold X53 at h;revert h;exact λe=>oj e▸X7 [] (k:=fi)⟩
instance Xn7:PCs Tryz.prog 146 (∀ (a0:Int) (a1:Int) (r:Int),X2e a0 a1=some r->X0i Tryz.prog 146 [(aI .i64 a0),(aI .i64 a1)] (aI .i64 r)):=⟨λa0 a1 r h=>by
 refine X0i.sym X3 X045 (nt:=20) rfl rfl ?_ okM;unfold X2e at h;revert h;exact bI λv1 h2=>bI λv3 h4=>brI (λh5=>brI (λh6=>λe=>oj e▸X7 [.pure _ (aB v1),.pure _ (aB v3),Bt,Bt] (k:=fi)) λh6=>λe=>oj e▸X7 [.pure _ (aB v1),.pure _ (aB v3),Bt,Bf] (k:=fi)) λh5=>brI (λh7=>λe=>oj e▸X7 [.pure _ (aB v1),.pure _ (aB v3),Bf,Bt] (k:=fi)) λh7=>brI (λh8=>λe=>oj e▸X7 [.pure _ (aB v1),.pure _ (aB v3),Bf,Bf,Bt] (k:=fi)) λh8=>brI (λh9=>λe=>oj e▸X7 [.pure _ (aB v1),.pure _ (aB v3),Bf,Bf,Bf,Bt] (k:=fi)) λh9=>λe=>oj e▸X7 [.pure _ (aB v1),.pure _ (aB v3),Bf,Bf,Bf,Bf] (k:=fi)⟩
theorem Xgs {Q:Xx->St->Mu->Prop} {μ:Mu} (Xvn:(List Int)) (hl:Xvn.length<=140737488355328):∀ (xs:List Int) (k:Nat) (hx:Xvn.drop k=xs) (o:X6v) (h:X5f Xvn xs k  = some o)
  (C0:o=X6v.x0->X2 Tryz.prog 18 0 Q (.exit (.exit 0)) [] ⟨fr [(3,(aI .i64 0))],hp ([]),0⟩ μ)
  (C1:∀ (Xab:Int),o=X6v.x1 Xab->X2 Tryz.prog 18 0 Q (.exit .ret) [] ⟨fr [(2,(aI .i64 Xab))],hp ([]),0⟩ μ),
  X2 Tryz.prog 18 0 Q (.loop (X48 0 (Xa Tryz.f145))) [] ⟨fr [(3,(aI .i64 0)),(6,(Lf (List.map (aI .i64) Xvn))),(7,(aI .i64 (Xvn.length:Int))),(8,(aI .i64 (k:Int)))],hp ([]),0⟩ μ:=by
 intro xs
 induction xs with
 |nil =>
  intro k hx  o h C0 C1;have hk:=drop_nil hx;have hc:decide ((k:Int)<(Xvn.length:Int))=false:=Yf om;rw[X5f] at h;refine X2.round ?_;revert h;exact λe=>X7 [Bf] (k:=wkT [] (C0  (oj e).symm))
 |cons x xs ih =>
  intro k hx  o h C0 C1;obtain⟨hk,hg,hx1⟩:=X12 hx;have hc:decide ((k:Int)<(Xvn.length:Int))=true:=Yt om;rw[X5f] at h;refine X2.round ?_;revert h;refine brI (λh6=>λe=>X7 [Bt,.el (aI .i64 x),Bt] (k:=wkT [] (C1 _  (oj e).symm))) λh6=>rnI [Bt,.el (aI .i64 x),Bf] ?_;intro h;exact wkT [] (ih (k+1) hx1  o h C0 C1)
instance Xxe:PCs Tryz.prog 145 (∀ (a0:(List Int)) (r:Int),Xcz a0=some r->X0i Tryz.prog 145 [(Lf (List.map (aI .i64) a0))] (aI .i64 r)):=⟨λa0 r h=>by
 refine X0i.sym X3 X046 (nt:=18) rfl rfl ?_ okM;unfold Xcz at h;revert h;refine bI λu1 h2=>?_;have qh2:=X13 h2;refine bI λo7 h8=>rnI [.el (aI .i64 (a0.length:Int))] ?_;intro h;refine wkT [] (X2.cut (Xgs a0 qh2 a0 0 (by simp) _ h8 ?_ ?_))
 ·
  intro eo7;subst eo7;refine X2.glue ?_;try dsimp only at h
  revert h;exact λe=>oj e▸X7 [] (k:=fi)
 intro Xab eo7;subst eo7;refine X2.glue ?_;try dsimp only at h
 revert h;exact λe=>oj e▸X7 [] (k:=fi)⟩
instance Xus:PCs Tryz.prog 116 (∀ (a0:X1) (a1:X1) (r:Int),X5y a0 a1=some r->X0i Tryz.prog 116 [(X0 a0),(X0 a1)] (aI .i64 r)):=⟨λa0 a1 r h=>by
 refine X0i.sym X3 X04p (nt:=26) rfl rfl ?_ okM;unfold X5y at h;revert h;exact bI λv1 h2=>bI λv3 h4=>bI λv5 h6=>bI λv7 h8=>λe=>oj e▸X7 [.pure _ (aI .i64 v1),.pure _ (aI .i64 v3),.pure _ (aI .i64 v5),.pure _ (aI .i64 v7)] (k:=fi)⟩
theorem X79 {Q:Xx->St->Mu->Prop} {μ:Mu} (X0u:(List X1)) (hl:X0u.length<=140737488355328):∀ (xs:List X1) (k:Nat) (hx:X0u.drop k=xs) (o:X5s) (h:X2f X0u xs k  = some o)
  (C0:o=X5s.x0->X2 Tryz.prog 33 0 Q (.exit (.exit 0)) [] ⟨fr [],hp ([]),0⟩ μ)
  (C1:o=X5s.x1->X2 Tryz.prog 33 0 Q (.exit .ret) [] ⟨fr [(2,(aI .i64 8))],hp ([]),0⟩ μ),
  X2 Tryz.prog 33 0 Q (.loop (X48 0 (Xa Tryz.f77))) [] ⟨fr [(0,(Lf (X0u.map X0))),(8,(Lf (X0u.map X0))),(9,(aI .i64 (X0u.length:Int))),(10,(aI .i64 (k:Int)))],hp ([]),0⟩ μ:=by
 intro xs
 induction xs with
 |nil =>
  intro k hx  o h C0 C1;have hk:=drop_nil hx;have hc:decide ((k:Int)<(X0u.length:Int))=false:=Yf om;rw[X2f] at h;refine X2.round ?_;revert h;exact λe=>X7 [Bf] (k:=wkT [] (C0  (oj e).symm))
 |cons x xs ih =>
  intro k hx  o h C0 C1;obtain⟨hk,hg,hx1⟩:=X12 hx;have hc:decide ((k:Int)<(X0u.length:Int))=true:=Yt om;rw[X2f] at h;refine X2.round ?_;revert h;refine bI λXtf h60=>rnI [Bt,.el (X0 x),.stop 6] ?_;intro h;refine X2.join (s':=⟨fr [(0,(Lf (X0u.map X0))),(8,(Lf (X0u.map X0))),(9,(aI .i64 (X0u.length:Int))),(10,(aI .i64 (k:Int))),(31,(aB Xtf))],hp ([]),0⟩) ?_ (λJ=>X2.cut ?_)
  ·
   revert h;refine brI (λh61=>λe=>X7 [Bt] (k:=wkT [] (C1  (oj e).symm))) λh61=>rnI [Bf] ?_;intro h;exact wkT [] (ih (k+1) hx1  o h C0 C1)
  clear h;revert h60;refine bI λv52 h53=>brI (λh54=>?_) λh54=>?_
  ·
   intro h;obtain rfl:=oj h;exact X7 [.pure _ (aB v52),Gf,Gf,Gf,.no,.no,.no,.no,.no,.no,.no,.no,Gf,Gt] (k:=wkT [] (X2.glue J))
  refine brI (λh55=>?_) λh55=>?_
  ·
   refine bI λe56 h57=>?_;try have qh57:=Xo h57
   refine bI λv58 h59=>?_;intro h;obtain rfl:=oj h;exact X7 [.pure _ (aB v52),Gt,Gt,Gt,Gt,Gt,Gt,.wrap,Gt,.el (X0 e56),Gt,Gt,Gt,.pure _ (aI .i64 v58),Gt,Gt] (k:=wkT [] (X2.glue J))
  intro h;obtain rfl:=oj h;exact X7 [.pure _ (aB v52),Gt,Gt,Gt,Gf,Gf,Gf,Gf,Gf,Gf,Gf,Gf,Gt,Gf] (k:=wkT [] (X2.glue J))
instance Xa2:PCs Tryz.prog 77 (∀ (a0:(List X1)) (r:Int),X41 a0=some r->X0i Tryz.prog 77 [(Lf (a0.map X0))] (aI .i64 r)):=⟨λa0 r h=>by
 refine X0i.sym X3 fn77 (nt:=33) rfl rfl ?_ okM;unfold X41 at h;revert h;refine brI (λh1=>λe=>oj e▸X7 [.el (aI .i64 (a0.length:Int)),Bt] (k:=fi)) λh1=>bI λu2 h3=>?_;have qh3:=X13 h3;refine bI λo62 h63=>rnI [.el (aI .i64 (a0.length:Int)),Bf,.el (aI .i64 (a0.length:Int))] ?_;intro h;refine wkT [] (X2.cut (X79 a0 qh3 a0 0 (by simp) _ h63 ?_ ?_))
 ·
  intro eo62;subst eo62;refine X2.glue ?_;try dsimp only at h
  revert h;exact λe=>oj e▸X7 [] (k:=fi)
 intro eo62;subst eo62;refine X2.glue ?_;try dsimp only at h
 revert h;exact λe=>oj e▸X7 [] (k:=fi)⟩
instance Xur:PCs Tryz.prog 99 (∀ (a0:Int) (r:Bool),X8x a0=some r->X0i Tryz.prog 99 [(aI .i64 a0)] (aB r)):=⟨λa0 r h=>by
 refine X0i.sym X3 fn99 (nt:=11) rfl rfl ?_ okM;unfold X8x at h;revert h;refine bI λj4_2 h8=>rnI [.stop 1] ?_;intro h;refine X2.join (s':=⟨fr [(2,(aB j4_2))],hp ([]),0⟩) ?_ (λJ=>X2.cut ?_)
 ·
  revert h;exact λe=>oj e▸X7 [] (k:=fi)
 clear h;revert h8;refine brI (λh5=>?_) λh5=>?_
 ·
  intro h;obtain rfl:=oj h;exact X7 [Gf,Gf,Gf,Gf] (k:=wkT [] (X2.glue J))
 refine bI λv6 h7=>?_;intro h;obtain rfl:=oj h;exact X7 [Gt,Gt,Gt,.pure _ (aI .i64 v6),Gt] (k:=wkT [] (X2.glue J))⟩
instance Xwd:PCs Tryz.prog 135 (∀ (a0:X0h) (r:Xd×Int),Xcq a0=some r->X0i Tryz.prog 135 [(X00 a0)] (AV.tup [(Xl r.1),(aI .i64 r.2)])):=⟨λa0 r h=>by
 refine X0i.sym X3 X04a (nt:=34) rfl rfl ?_ okM;unfold Xcq at h;revert h;refine brI (λh1=>?_) λh1=>?_
 ·
  refine bI λXz8 h9=>rnI [Bt,.stop 2] ?_;intro h;refine X2.join (s':=⟨fr [(1,(AV.ptr 0 0 0)),(2,(AV.ptr 1 0 0)),(15,(aB Xz8))],hp ([(0,Ob [(X00 a0)] 5),(1,Ob [(Xl (Xd.mk 0 (X8.mk 0 0 0) 0 (X19.mk 0 (X04.mk 0 0) (V2.mk 0 0))))] 10)]),2⟩) ?_ (λJ=>X2.cut ?_)
  ·
   revert h;exact brI (λh10=>λe=>oj e▸X7 [Bt] (k:=fi)) λh10=>λe=>oj e▸X7 [Bf] (k:=fi)
  clear h;revert h9;refine bI λv6 h7=>brI (λh8=>?_) λh8=>?_
  ·
   intro h;obtain rfl:=oj h;exact X7 [.pure _ (aB v6),Gf,Gf,Gf,Gf] (k:=wkT [] (X2.glue J))
  intro h;obtain rfl:=oj h;exact X7 [.pure _ (aB v6),Gt,Gt,Gt,Gt] (k:=wkT [] (X2.glue J))
 refine bI λXtn h18=>rnI [Bf,.stop 5] ?_;intro h;refine X2.join (s':=⟨fr [(1,(AV.ptr 0 0 0)),(2,(AV.ptr 1 0 0)),(29,(aB Xtn))],hp ([(0,Ob [(X00 a0)] 5),(1,Ob [(Xl (Xd.mk 0 (X8.mk 0 0 0) 0 (X19.mk 0 (X04.mk 0 0) (V2.mk 0 0))))] 10)]),2⟩) ?_ (λJ=>X2.cut ?_)
 ·
  revert h;exact brI (λh19=>λe=>oj e▸X7 [Bt] (k:=fi)) λh19=>λe=>oj e▸X7 [Bf] (k:=fi)
 clear h;revert h18;refine brI (λh15=>?_) λh15=>?_
 ·
  intro h;obtain rfl:=oj h;exact X7 [Gf,Gf,Gf,Gf,Gf] (k:=wkT [] (X2.glue J))
 refine bI λv16 h17=>?_;intro h;obtain rfl:=oj h;exact X7 [Gt,Gt,Gt,Gt,.pure _ (aB v16),Gt] (k:=wkT [] (X2.glue J))⟩
instance Xrt:PCs Tryz.prog 100 (∀ (a0:X0h) (r:Int),X6p a0=some r->X0i Tryz.prog 100 [(X00 a0)] (aI .i64 r)):=⟨λa0 r h=>by
 refine X0i.sym X3 X04v (nt:=11) rfl rfl ?_ okM;unfold X6p at h;revert h;exact bI λv1 h2=>λe=>oj e▸X7 [.pure _ (AV.tup [(Xl v1.1),(aI .i64 v1.2)])] (k:=fi)⟩
theorem Xgc {Q:Xx->St->Mu->Prop} {μ:Mu} (Xn:Xp) (Xbv:(List Int)) (hl:Xbv.length<=140737488355328):∀ (xs:List Int) (k:Nat) (hx:Xbv.drop k=xs) (X9k:Bool) (o:X92) (h:X3c Xn Xbv xs k X9k=some o)
  (C0:∀ (Xeq:Bool),o=X92.x0 Xeq->X2 Tryz.prog 202 0 Q (.exit (.exit 0)) [] ⟨fr [(1,(AV.ptr 0 0 0)),(11,(aB Xeq))],hp ([(0,Ob [(X9 false Xn)] 9)]),1⟩ μ),
  X2 Tryz.prog 202 0 Q (.loop (X48 0 (Xa Tryz.f61))) [] ⟨fr [(1,(AV.ptr 0 0 0)),(11,(aB X9k)),(122,(Lf (List.map (aI .i64) Xbv))),(123,(aI .i64 (Xbv.length:Int))),(124,(aI .i64 (k:Int)))],hp ([(0,Ob [(X9 false Xn)] 9)]),1⟩ μ:=by
 intro xs
 induction xs with
 |nil =>
  intro k hx X9k o h C0;have hk:=drop_nil hx;have hc:decide ((k:Int)<(Xbv.length:Int))=false:=Yf om;rw[X3c] at h;refine X2.round ?_;revert h;exact λe=>X7 [Bf] (k:=wkT [] (C0 _  (oj e).symm))
 |cons x xs ih =>
  intro k hx X9k o h C0;obtain⟨hk,hg,hx1⟩:=X12 hx;have hc:decide ((k:Int)<(Xbv.length:Int))=true:=Yt om;rw[X3c] at h;refine X2.round ?_;revert h;refine bI λXte h76=>rnI [Bt,.el (aI .i64 x),.stop 10] ?_;intro h;refine X2.join (s':=⟨fr [(1,(AV.ptr 0 0 0)),(11,(aB Xte)),(122,(Lf (List.map (aI .i64) Xbv))),(123,(aI .i64 (Xbv.length:Int))),(124,(aI .i64 (k:Int)))],hp ([(0,Ob [(X9 false Xn)] 9)]),1⟩) ?_ (λJ=>X2.cut ?_)
  ·
   exact X7 [] (k:=wkT [] (ih (k+1) hx1 _ o h C0))
  clear h;revert h76;refine brI (λh73=>?_) λh73=>?_
  ·
   refine bI λv74 h75=>?_;intro h;obtain rfl:=oj h;exact X7 [Gt,Gt,.pure _ (aB v74)] (k:=wkT [] (X2.glue J))
  intro h;obtain rfl:=oj h;exact X7 [Gf,Gf] (k:=wkT [] (X2.glue J))
theorem Xgb {Q:Xx->St->Mu->Prop} {μ:Mu} (X8s:Xp) (Xbu:(List X0h)) (hl:Xbu.length<=140737488355328):∀ (xs:List X0h) (k:Nat) (hx:Xbu.drop k=xs) (Xix:Bool) (o:X91) (h:X3b X8s Xbu xs k Xix=some o)
  (C0:∀ (Xep:Bool),o=X91.x0 Xep->X2 Tryz.prog 202 0 Q (.exit (.exit 2)) [] ⟨fr [(1,(AV.ptr 0 0 0)),(11,(aB Xep))],hp ([(0,Ob [(X9 false X8s)] 9)]),1⟩ μ),
  X2 Tryz.prog 202 0 Q (.loop (X48 1 (Xa Tryz.f61))) [] ⟨fr [(1,(AV.ptr 0 0 0)),(11,(aB Xix)),(135,(Lf (Xbu.map X00))),(136,(aI .i64 (Xbu.length:Int))),(137,(aI .i64 (k:Int)))],hp ([(0,Ob [(X9 false X8s)] 9)]),1⟩ μ:=by
 intro xs
 induction xs with
 |nil =>
  intro k hx Xix o h C0;have hk:=drop_nil hx;have hc:decide ((k:Int)<(Xbu.length:Int))=false:=Yf om;rw[X3b] at h;refine X2.round ?_;revert h;exact λe=>X7 [Bf] (k:=wkT [] (C0 _  (oj e).symm))
 |cons x xs ih =>
  intro k hx Xix o h C0;obtain⟨hk,hg,hx1⟩:=X12 hx;have hc:decide ((k:Int)<(Xbu.length:Int))=true:=Yt om;rw[X3b] at h;refine X2.round ?_;revert h;refine bI λXom h105=>rnI [Bt,.el (X00 x),.stop 15] ?_;intro h;refine X2.join (s':=⟨fr [(1,(AV.ptr 0 0 0)),(11,(aB Xom)),(135,(Lf (Xbu.map X00))),(136,(aI .i64 (Xbu.length:Int))),(137,(aI .i64 (k:Int)))],hp ([(0,Ob [(X9 false X8s)] 9)]),1⟩) ?_ (λJ=>X2.cut ?_)
  ·
   exact X7 [] (k:=wkT [] (ih (k+1) hx1 _ o h C0))
  clear h;revert h105;refine brI (λh102=>?_) λh102=>?_
  ·
   refine bI λv103 h104=>?_;intro h;obtain rfl:=oj h;exact X7 [Gt,Gt,.pure _ (aI .i64 v103),Gt] (k:=wkT [] (X2.glue J))
  intro h;obtain rfl:=oj h;exact X7 [Gf,Gf,Gf] (k:=wkT [] (X2.glue J))
theorem Xga {Q:Xx->St->Mu->Prop} {μ:Mu} (Xbs:Xp) (Xbt:(List X19)) (hl:Xbt.length<=140737488355328):∀ (xs:List X19) (k:Nat) (hx:Xbt.drop k=xs) (Xiv:Bool) (o:X90) (h:X3a Xbs Xbt xs k Xiv=some o)
  (C0:∀ (Xeo:Bool),o=X90.x0 Xeo->X2 Tryz.prog 202 0 Q (.exit (.exit 4)) [] ⟨fr [(1,(AV.ptr 0 0 0)),(11,(aB Xeo))],hp ([(0,Ob [(X9 false Xbs)] 9)]),1⟩ μ),
  X2 Tryz.prog 202 0 Q (.loop (X48 2 (Xa Tryz.f61))) [] ⟨fr [(1,(AV.ptr 0 0 0)),(11,(aB Xiv)),(149,(Lf (Xbt.map Xt))),(150,(aI .i64 (Xbt.length:Int))),(151,(aI .i64 (k:Int)))],hp ([(0,Ob [(X9 false Xbs)] 9)]),1⟩ μ:=by
 intro xs
 induction xs with
 |nil =>
  intro k hx Xiv o h C0;have hk:=drop_nil hx;have hc:decide ((k:Int)<(Xbt.length:Int))=false:=Yf om;rw[X3a] at h;refine X2.round ?_;revert h;exact λe=>X7 [Bf] (k:=wkT [] (C0 _  (oj e).symm))
 |cons x xs ih =>
  intro k hx Xiv o h C0;obtain⟨hk,hg,hx1⟩:=X12 hx;have hc:decide ((k:Int)<(Xbt.length:Int))=true:=Yt om;rw[X3a] at h;refine X2.round ?_;revert h;refine bI λXoh h134=>rnI [Bt,.el (Xt x),.stop 20] ?_;intro h;refine X2.join (s':=⟨fr [(1,(AV.ptr 0 0 0)),(11,(aB Xoh)),(149,(Lf (Xbt.map Xt))),(150,(aI .i64 (Xbt.length:Int))),(151,(aI .i64 (k:Int)))],hp ([(0,Ob [(X9 false Xbs)] 9)]),1⟩) ?_ (λJ=>X2.cut ?_)
  ·
   exact X7 [] (k:=wkT [] (ih (k+1) hx1 _ o h C0))
  clear h;revert h134;refine brI (λh131=>?_) λh131=>?_
  ·
   refine bI λv132 h133=>?_;intro h;obtain rfl:=oj h;exact X7 [Gt,Gt,Gt,.pure _ (aI .i64 v132),Gt] (k:=wkT [] (X2.glue J))
  intro h;obtain rfl:=oj h;exact X7 [Gf,Gf,Gf,Gf] (k:=wkT [] (X2.glue J))
end Go.Av.Tryz