/- Printed by decomp.py: that the program computes the functions. -/
import Derived.Test.YtnkfdamiiejfdaaGreatDoorDCert5Z
set_option linter.all false

namespace Go.Av.Tryz
open Go.Proofs Go.D Go.Proofs.Tryz
set_option maxRecDepth 10000
set_option maxHeartbeats 40000000
instance Xvh:PZ 22 (∀ (a0:X00) (a1:X6) (r:X6×Bool),X5k a0 a1=some r->Pz 22 [(Xz false a0),(X0 a1)] (AV.tup [(X0 r.1),(aB r.2)])):=⟨λa0 a1 r h=>by
 refine X15.sym X2 fn22 (nt:=47) rfl rfl ?_ okM;unfold X5k at h;revert h;refine brI (λh1=>?_) λh1=>?_
 ·
  refine bI λv2 h3=>brI (λh4=>λe=>oj e▸X8 [.el (aI .i64 (a0.Where.length:Int)),Bt,.pure _ (AV.tup [(aI .i64 v2.1),(aI .i64 v2.2)]),Bt] (k:=fi)) λh4=>bI λXmz h8=>rnI [.el (aI .i64 (a0.Where.length:Int)),Bt,.pure _ (AV.tup [(aI .i64 v2.1),(aI .i64 v2.2)]),Bf] ?_;intro h;refine jn [(2,(AV.ptr 0 0 0)),(3,(AV.ptr 1 0 0)),(4,(AV.ptr 2 0 0)),(8,(AV.ptr 3 0 0))] ([(0,Ob [(Xz false a0)] 10),(1,Ob [(X0 a1)] 3),(2,Ob [(X0 (X6.mk 0 0 0))] 3),(3,Ob [(X0 Xmz)] 3)]) 4 ?_ (λJ=>X5.cut ?_)
  ·
   revert h;refine bI λXp8 h16=>rnI [] ?_;intro h;refine jn [(4,(AV.ptr 0 0 0)),(8,(AV.ptr 1 0 0))] ([(0,Ob [(X0 (X6.mk 0 0 0))] 3),(1,Ob [(X0 Xp8)] 3)]) 2 ?_ (λJ=>X5.cut ?_)
   ·
    revert h;exact λe=>oj e▸X8 [] (k:=fi)
   clear h;revert h16;exact brI (λh13=>bI λv14 h15=>λe=>X8 [Bt,.pure _ (AV.tup [(aI .i64 v14.1),(aI .i64 v14.2)])] (k:=wJ [(0,2),(1,3)] J)) λh13=>λe=>X8 [Bf] (k:=wJ [(0,2),(1,3)] J)
  clear h;revert h8;exact brI (λh7=>λe=>X8 [Bt] (k:=wJ [] J)) λh7=>λe=>X8 [Bf] (k:=wJ [] J)
 refine bI λXp7 h20=>rnI [.el (aI .i64 (a0.Where.length:Int)),Bf] ?_;intro h;refine jn [(2,(AV.ptr 0 0 0)),(3,(AV.ptr 1 0 0)),(4,(AV.ptr 2 0 0)),(8,(AV.ptr 3 0 0))] ([(0,Ob [(Xz false a0)] 10),(1,Ob [(X0 a1)] 3),(2,Ob [(X0 (X6.mk 0 0 0))] 3),(3,Ob [(X0 Xp7)] 3)]) 4 ?_ (λJ=>X5.cut ?_)
 ·
  revert h;refine bI λXzh h28=>rnI [] ?_;intro h;refine jn [(4,(AV.ptr 0 0 0)),(8,(AV.ptr 1 0 0))] ([(0,Ob [(X0 (X6.mk 0 0 0))] 3),(1,Ob [(X0 Xzh)] 3)]) 2 ?_ (λJ=>X5.cut ?_)
  ·
   revert h;exact λe=>oj e▸X8 [] (k:=fi)
  clear h;revert h28;exact brI (λh25=>bI λv26 h27=>λe=>X8 [Bt,.pure _ (AV.tup [(aI .i64 v26.1),(aI .i64 v26.2)])] (k:=wJ [(0,2),(1,3)] J)) λh25=>λe=>X8 [Bf] (k:=wJ [(0,2),(1,3)] J)
 clear h;revert h20;exact brI (λh19=>λe=>X8 [Bt] (k:=wJ [] J)) λh19=>λe=>X8 [Bf] (k:=wJ [] J)⟩
instance X42:PZ 98 (∀ (a0:X0y) (r:Int),X2z a0=some r->Pz 98 [(X0o a0)] (aI .i64 r)):=⟨λa0 r h=>by
 refine X15.sym X2 fn98 (nt:=43) rfl rfl ?_ okM;unfold X2z at h;revert h;refine bI λj4_3 h8=>rnI [] ?_;intro h;refine jn [(3,(aB j4_3))] ([]) 0 ?_ (λJ=>X5.cut ?_)
 ·
  revert h;exact brI (λh9=>λe=>oj e▸X8 [Bt] (k:=fi)) λh9=>λe=>oj e▸X8 [Bf] (k:=fi)
 clear h;revert h8;exact brI (λh5=>λe=>X8 [Bt] (k:=wJ [] J)) λh5=>brI (λh6=>λe=>X8 [Bf,Bt] (k:=wJ [] J)) λh6=>brI (λh7=>λe=>X8 [Bf,Bf,Bt] (k:=wJ [] J)) λh7=>λe=>X8 [Bf,Bf,Bf] (k:=wJ [] J)⟩
instance Xe2:PZ 86 (∀ (a0:X4) (r:Bool),X8t a0=some r->Pz 86 [(X1 a0)] (aB r)):=⟨λa0 r h=>by
 refine X15.sym X2 fn86 (nt:=46) rfl rfl ?_ okM;unfold X8t at h;revert h;refine brI (λh1=>λe=>oj e▸X8 [Bt] (k:=fi)) λh1=>bI λj8_2 h15=>rnI [Bf,.stop 3] ?_;intro h;refine jn [(2,(aB j8_2))] ([]) 0 ?_ (λJ=>X5.cut ?_)
 ·
  revert h;exact λe=>oj e▸X8 [] (k:=fi)
 clear h;revert h15;refine bI λv9 h10=>brI (λh11=>?_) λh11=>?_
 ·
  refine bI λv12 h13=>brI (λh14=>?_) λh14=>?_
  ·
   exact λe=>X8 [.ix 0,.pure _ (aI .i64 v9),Gt,Gt,.ix 1,Gt,Gt,.pure _ (aI .i64 v12),Gt,Gt,Gt,.ix 0,Gt,Gt,Gt,Gt,.ix 1,Gt,Gt,Gt,.wrap,Gt] (o:=by repeat' first|apply Ya|exact pcM|exact fq (Xh1 h11 h14)|exact X1i) (k:=wJ [] J)
  exact λe=>X8 [.ix 0,.pure _ (aI .i64 v9),Gt,Gt,.ix 1,Gt,Gt,.pure _ (aI .i64 v12),Gt,Gf,Gf,Gf,Gf,Gf,Gf,Gf,Gf,Gf,Gf] (o:=by repeat' first|apply Ya|exact pcM|exact fq (Xh1 h11 h14)|exact X1i) (k:=wJ [] J)
 exact λe=>X8 [.ix 0,.pure _ (aI .i64 v9),Gf,Gf,Gf,Gf,Gf,Gf,Gf,Gf,Gf,Gf,Gf,Gf,Gf,Gf,Gf] (o:=by repeat' first|apply Ya|exact pcM|exact fq (Xsr h11 rfl)|exact X1i) (k:=wJ [] J)⟩
instance Xu5:PZ 79 (∀ (a0:Int) (r:Bool),X2i a0=some r->Pz 79 [(aI .i64 a0)] (aB r)):=⟨λa0 r h=>by
 refine X15.sym X2 fn79 (nt:=6) rfl rfl ?_ okM;unfold X2i at h;revert h;exact λe=>oj e▸X8 [] (k:=fi)⟩
instance Xq3:PZ 43 (∀ (a0:Int) (a1:Int) (r:Int),X02 a0 a1=some r->Pz 43 [(aI .i64 a0),(aI .i64 a1)] (aI .i64 r)):=⟨λa0 a1 r h=>by
 refine X15.sym X2 fn43 (nt:=20) rfl rfl ?_ okM;unfold X02 at h;revert h;exact bI λv1 h2=>bI λv3 h4=>brI (λh5=>brI (λh6=>λe=>oj e▸X8 [.pure _ (aB v1),.pure _ (aB v3),Bt,Bt] (k:=fi)) λh6=>λe=>oj e▸X8 [.pure _ (aB v1),.pure _ (aB v3),Bt,Bf] (k:=fi)) λh5=>brI (λh7=>λe=>oj e▸X8 [.pure _ (aB v1),.pure _ (aB v3),Bf,Bt] (k:=fi)) λh7=>brI (λh8=>λe=>oj e▸X8 [.pure _ (aB v1),.pure _ (aB v3),Bf,Bf,Bt] (k:=fi)) λh8=>brI (λh9=>λe=>oj e▸X8 [.pure _ (aB v1),.pure _ (aB v3),Bf,Bf,Bf,Bt] (k:=fi)) λh9=>λe=>oj e▸X8 [.pure _ (aB v1),.pure _ (aB v3),Bf,Bf,Bf,Bf] (k:=fi)⟩
theorem Xi3 {Q:Qt} {μ:Mu} (Xq8:(List Int)) (hl:Xq8.length<=140737488355328):Dr Xq8 λxs k=>∀ (o:Xd3) (h:X2s Xq8 xs k  = some o),Lq Tryz.prog 18 0 Q μ o (fun|.x0=>(.exit 0,⟨fr [(3,(aI .i64 0))],hp ([]),0⟩)|.x1 X7r=>(.ret,⟨fr [(2,(aI .i64 X7r))],hp ([]),0⟩))
  (X5b 0 (X10 Tryz.f42)) ⟨fr [(3,(aI .i64 0)),(6,(Lf (List.map (aI .i64) Xq8))),(7,(aI .i64 (Xq8.length:Int))),(8,(aI .i64 (k:Int)))],hp ([]),0⟩:=by
 refine drI ?_ ?_
 ·
  intro k hk hc  o h C;rw[X2s] at h;refine X5.round ?_;revert h;exact λe=>X8 [Bf] (k:=wC e C)
 ·
  intro x xs k hk hg hc ih  o h C;rw[X2s] at h;refine X5.round ?_;revert h;refine brI (λh6=>λe=>X8 [Bt,.el (aI .i64 x),Bt] (k:=wC e C)) λh6=>rnI [Bt,.el (aI .i64 x),Bf] ?_;intro h;exact wkT [] (ih   o h C)
instance X050:PZ 42 (∀ (a0:(List Int)) (r:Int),X67 a0=some r->Pz 42 [(Lf (List.map (aI .i64) a0))] (aI .i64 r)):=⟨λa0 r h=>by
 refine X15.sym X2 fn42 (nt:=18) rfl rfl ?_ okM;unfold X67 at h;revert h;refine bI λu1 h2=>?_;have qh2:=X05 h2;refine bI λo7 h8=>rnI [.el (aI .i64 (a0.length:Int))] ?_;intro h;refine wkT [] (X5.cut (drA (Xi3 a0 qh2) _ h8 ?_));rcases o7 with _|⟨X7r⟩
 ·
  refine lG rfl ?_;try dsimp only at h
  revert h;exact λe=>oj e▸X8 [] (k:=fi)
 refine lG rfl ?_;try dsimp only at h
 revert h;exact λe=>oj e▸X8 [] (k:=fi)⟩
instance X01o:PZ 87 (∀ (a0:X4) (a1:X4) (r:Int),X5r a0 a1=some r->Pz 87 [(X1 a0),(X1 a1)] (aI .i64 r)):=⟨λa0 a1 r h=>by
 refine X15.sym X2 fn87 (nt:=26) rfl rfl ?_ okM;unfold X5r at h;revert h;exact bI λv1 h2=>bI λv3 h4=>bI λv5 h6=>bI λv7 h8=>λe=>oj e▸X8 [.pure _ (aI .i64 v1),.pure _ (aI .i64 v3),.pure _ (aI .i64 v5),.pure _ (aI .i64 v7)] (k:=fi)⟩
theorem X74 {Q:Qt} {μ:Mu} (X0e:(List X4)) (hl:X0e.length<=140737488355328):Dr X0e λxs k=>∀ (o:Xby) (h:X3l X0e xs k  = some o),Lq Tryz.prog 33 0 Q μ o (fun|.x0=>(.exit 0,⟨fr [],hp ([]),0⟩)|.x1=>(.ret,⟨fr [(2,(aI .i64 8))],hp ([]),0⟩))
  (X5b 0 (X10 Tryz.f51)) ⟨fr [(0,(Lf (X0e.map X1))),(8,(Lf (X0e.map X1))),(9,(aI .i64 (X0e.length:Int))),(10,(aI .i64 (k:Int)))],hp ([]),0⟩:=by
 refine drI ?_ ?_
 ·
  intro k hk hc  o h C;rw[X3l] at h;refine X5.round ?_;revert h;exact λe=>X8 [Bf] (k:=wC e C)
 ·
  intro x xs k hk hg hc ih  o h C;rw[X3l] at h;refine X5.round ?_;revert h;refine bI λXze h60=>rnI [Bt,.el (X1 x),.stop 6] ?_;intro h;refine jn [(0,(Lf (X0e.map X1))),(8,(Lf (X0e.map X1))),(9,(aI .i64 (X0e.length:Int))),(10,(aI .i64 (k:Int))),(31,(aB Xze))] ([]) 0 ?_ (λJ=>X5.cut ?_)
  ·
   revert h;refine brI (λh61=>λe=>X8 [Bt] (k:=wC e C)) λh61=>rnI [Bf] ?_;intro h;exact wkT [] (ih   o h C)
  clear h;revert h60;refine bI λv52 h53=>brI (λh54=>λe=>X8 [.pure _ (aB v52),Gf,Gf,Gf,.no,.no,.no,.no,.no,.no,.no,.no,Gf,Gt] (k:=wJ [] J)) λh54=>?_;refine brI (λh55=>?_) λh55=>λe=>X8 [.pure _ (aB v52),Gt,Gt,Gt,Gf,Gf,Gf,Gf,Gf,Gf,Gf,Gf,Gt,Gf] (k:=wJ [] J);refine bI λe56 h57=>?_;try have qh57:=Xm h57
  exact bI λv58 h59=>λe=>X8 [.pure _ (aB v52),Gt,Gt,Gt,Gt,Gt,Gt,.wrap,Gt,.el (X1 e56),Gt,Gt,Gt,.pure _ (aI .i64 v58),Gt,Gt] (k:=wJ [] J)
instance Xac:PZ 51 (∀ (a0:(List X4)) (r:Int),X8u a0=some r->Pz 51 [(Lf (a0.map X1))] (aI .i64 r)):=⟨λa0 r h=>by
 refine X15.sym X2 fn51 (nt:=33) rfl rfl ?_ okM;unfold X8u at h;revert h;refine brI (λh1=>λe=>oj e▸X8 [.el (aI .i64 (a0.length:Int)),Bt] (k:=fi)) λh1=>bI λu2 h3=>?_;have qh3:=X05 h3;refine bI λo62 h63=>rnI [.el (aI .i64 (a0.length:Int)),Bf,.el (aI .i64 (a0.length:Int))] ?_;intro h;refine wkT [] (X5.cut (drA (X74 a0 qh3) _ h63 ?_));rcases o62 with _|_
 ·
  refine lG rfl ?_;try dsimp only at h
  revert h;exact λe=>oj e▸X8 [] (k:=fi)
 refine lG rfl ?_;try dsimp only at h
 revert h;exact λe=>oj e▸X8 [] (k:=fi)⟩
instance X06j:PZ 53 (∀ (a0:Int) (r:X0y),X9m a0=some r->Pz 53 [(aI .i64 a0)] (X0o r)):=⟨λa0 r h=>by
 refine X15.sym X2 fn53 (nt:=7) rfl rfl ?_ okM;unfold X9m at h;revert h;exact λe=>oj e▸X8 [] (k:=fi)⟩
instance Xx4:PZ 88 (∀ (a0:Int) (a1:Int) (r:Int),X3g a0 a1=some r->Pz 88 [(aI .i64 a0),(aI .i64 a1)] (aI .i64 r)):=⟨λa0 a1 r h=>by
 refine X15.sym X2 fn88 (nt:=17) rfl rfl ?_ okM;unfold X3g at h;revert h;exact brI (λh1=>λe=>oj e▸X8 [Bt] (k:=fi)) λh1=>brI (λh2=>λe=>oj e▸X8 [Bf,Bt] (k:=fi)) λh2=>λe=>oj e▸X8 [Bf,Bf] (k:=fi)⟩
instance Xtj:PZ 211 (∀ (a0:Int) (r:Int),X9f a0=some r->Pz 211 [(aI .u64 a0)] (aI .i64 r)):=⟨λa0 r h=>by
 refine X15.sym X2 X0gx (nt:=25) rfl rfl ?_ okM;unfold X9f at h;revert h;refine bI λw2 h4=>?_;intro h;obtain⟨j2_0,j2_2⟩:=w2;try dsimp only at h
 refine X0f [] ?_;refine jn [(0,(aI .u64 j2_0)),(2,(aI .i64 j2_2))] ([]) 0 ?_ (λJ=>X5.cut ?_)
 ·
  revert h;refine bI λw6 h8=>?_;intro h;obtain⟨j6_0,j6_2⟩:=w6;try dsimp only at h
  refine X0f [] ?_;refine jn [(0,(aI .u64 j6_0)),(2,(aI .i64 j6_2))] ([]) 0 ?_ (λJ=>X5.cut ?_)
  ·
   revert h;refine bI λw10 h12=>?_;intro h;obtain⟨X0g5,X0g4⟩:=w10;try dsimp only at h
   refine X0f [] ?_;refine jn [(0,(aI .u64 X0g5)),(2,(aI .i64 X0g4))] ([]) 0 ?_ (λJ=>X5.cut ?_)
   ·
    revert h;exact bI λb13 h14=>λe=>oj e▸X8 [.wrap,.el (aI .u8 b13),.wrap,.wrap] (o:=by repeat' first|apply Ya|exact pcM|exact(X7p h14)|exact(X0bj (tab:=Xh6) rfl h14)|exact X1i) (k:=fi)
   clear h;revert h12;exact brI (λh11=>λe=>X8 [Bt,.wrap] (k:=wJ [] J)) λh11=>λe=>X8 [Bf] (k:=wJ [] J)
  clear h;revert h8;exact brI (λh7=>λe=>X8 [Bt,.wrap] (k:=wJ [] J)) λh7=>λe=>X8 [Bf] (k:=wJ [] J)
 clear h;revert h4;exact brI (λh3=>λe=>X8 [Bt] (k:=wJ [] J)) λh3=>λe=>X8 [Bf] (k:=wJ [] J)⟩
instance Xx7:PZ 141 (∀ (a0:Int) (r:Int),X8c a0=some r->Pz 141 [(aI .u64 a0)] (aI .i64 r)):=⟨λa0 r h=>by
 refine X15.sym X2 X0hd (nt:=8) rfl rfl ?_ okM;unfold X8c at h;revert h;exact bI λv1 h2=>λe=>oj e▸X8 [Bf,.pure _ (aI .i64 v1)] (k:=fi)⟩
theorem X3n {Q:Qt} {μ:Mu} (X0e:(List X4)) (Xf:X4) (Xg5:Int):∀ (n:Nat) (X7z:Int) (X5i:Int) (o:X1o) (h:Xo X0e Xf Xg5 n X7z X5i=some o),Lq Tryz.prog 49 0 Q μ o (fun|.x0 Xf0=>(.exit 0,⟨fr [(0,(Lf (X0e.map X1))),(2,(AV.fn 87 [])),(4,(AV.ptr 0 0 0)),(8,(aI .i64 Xg5)),(9,(aI .i64 Xf0))],hp ([(0,Ob [(X1 Xf)] 11)]),1⟩))
  (X5b 0 (X10 Tryz.f96)) ⟨fr [(0,(Lf (X0e.map X1))),(2,(AV.fn 87 [])),(4,(AV.ptr 0 0 0)),(8,(aI .i64 Xg5)),(9,(aI .i64 X7z)),(10,(aI .i64 X5i))],hp ([(0,Ob [(X1 Xf)] 11)]),1⟩:=by
 intro n
 induction n with
 |zero=>intro X7z X5i o h C;cases h
 |succ n ih =>
  intro X7z X5i o h C;rw[Xo] at h;refine X5.round ?_;revert h;refine brI (λh14=>?_) λh14=>λe=>X8 [Bf] (k:=wC e C);refine bI λe15 h16=>?_;try have qh16:=Xm h16
  refine bI λv17 h18=>brI (λh19=>?_) λh19=>?_
  ·
   refine rnI [Bt,.wrap,.wrap,.wrap,.el (X1 e15),.pure _ (aI .i64 v17),Bt,.wrap] ?_;intro h;exact wkT [] (ih  _ _ o h C)
  refine rnI [Bt,.wrap,.wrap,.wrap,.el (X1 e15),.pure _ (aI .i64 v17),Bf] ?_;intro h;exact wkT [] (ih  _ _ o h C)
theorem X01 (a0:(List X4)) (a1:X4) (r:Int×Bool) (h:Xg a0 a1=some r):Pz 96 [(Lf (a0.map X1)),(X1 a1),(AV.fn 87 [])] (AV.tup [(aI .i64 r.1),(aB r.2)]):=by
 refine X15.sym X2 fn96 (nt:=49) rfl rfl ?_ okM;unfold Xg at h;revert h;refine bI λo20 h21=>rnI [.el (aI .i64 (a0.length:Int))] ?_;intro h;refine wkT [] (X5.cut (X3n a0 a1 (a0.length:Int) _ _ _ _ h21 ?_));rcases o20 with ⟨Xf0⟩;refine lG rfl ?_;try dsimp only at h
 revert h;refine bI λX08v h33=>rnI [.stop 8] ?_;intro h;refine jn [(6,(aI .i64 Xf0)),(7,(aB X08v))] ([]) 0 ?_ (λJ=>X5.cut ?_)
 ·
  revert h;exact λe=>oj e▸X8 [] (k:=fi)
 clear h;revert h33;refine brI (λh28=>?_) λh28=>λe=>X8 [Gf,Gf,Gf,Gf,Gf,Gf,Gf,Gf,Gf] (k:=wJ [] J);refine bI λe29 h30=>?_;try have qh30:=Xm h30
 exact bI λv31 h32=>λe=>X8 [Gt,Gt,Gt,Gt,.el (X1 e29),Gt,Gt,Gt,.pure _ (aI .i64 v31),Gt] (k:=wJ [] J)
instance X3u:PZ 153 (∀ (a0:X0y) (a1:X0y) (r:X0y×Int),X1y a0 a1=some r->Pz 153 [(X0o a0),(X0o a1)] (AV.tup [(X0o r.1),(aI .i64 r.2)])):=⟨λa0 a1 r h=>by
 refine X15.sym X2 X0h6 (nt:=53) rfl rfl ?_ okM;unfold X1y at h;revert h;refine bI λX08n h12=>rnI [.stop 1] ?_;intro h;refine jn [(2,(AV.ptr 0 0 0)),(3,(AV.ptr 1 0 0)),(4,(AV.ptr 2 0 0)),(13,(aB X08n))] ([(0,Ob [(X0o a0)] 4),(1,Ob [(X0o a1)] 4),(2,Ob [(X0o (X0y.mk 0 0 0 0))] 4)]) 3 ?_ (λJ=>X5.cut ?_)
 ·
  revert h;exact brI (λh13=>λe=>oj e▸X8 [Bt] (k:=fi)) λh13=>brI (λh14=>λe=>oj e▸X8 [Bf,.wrap,Bt] (k:=fi)) λh14=>brI (λh15=>λe=>oj e▸X8 [Bf,.wrap,Bf,Bt] (k:=fi)) λh15=>brI (λh16=>λe=>oj e▸X8 [Bf,.wrap,Bf,Bf,Bt] (k:=fi)) λh16=>λe=>oj e▸X8 [Bf,.wrap,Bf,Bf,Bf,.wrap,.wrap] (k:=fi)
 clear h;revert h12;exact bI λv7 h8=>brI (λh9=>λe=>X8 [.pure _ (aI .i64 v7),Gf,Gf,Gf] (k:=wJ [] J)) λh9=>bI λv10 h11=>λe=>X8 [.pure _ (aI .i64 v7),Gt,Gt,.pure _ (aI .i64 v10),Gt] (k:=wJ [] J)⟩
instance Xxj:PZ 225 (∀ (a0:Int) (a1:Int) (r:Int),X9r a0 a1=some r->Pz 225 [(aI .i64 a0),(aI .i64 a1)] (aI .i64 r)):=⟨λa0 a1 r h=>by
 refine X15.sym X2 X0gs (nt:=17) rfl rfl ?_ okM;unfold X9r at h;revert h;exact brI (λh1=>λe=>oj e▸X8 [Bt] (k:=fi)) λh1=>brI (λh2=>λe=>oj e▸X8 [Bf,Bt] (k:=fi)) λh2=>λe=>oj e▸X8 [Bf,Bf] (k:=fi)⟩
instance Xx3:PZ 154 (∀ (a0:Int) (a1:Int) (r:Int×Int),X6f a0 a1=some r->Pz 154 [(aI .i64 a0),(aI .i64 a1)] (AV.tup [(aI .i64 r.1),(aI .i64 r.2)])):=⟨λa0 a1 r h=>by
 refine X15.sym X2 X0h5 (nt:=24) rfl rfl ?_ okM;unfold X6f at h;revert h;refine bI λv1 h2=>brI (λh3=>λe=>oj e▸X8 [.pure _ (aI .i64 v1),Bt] (k:=fi)) λh3=>bI λu4 h5=>bI λj7_7 h9=>rnI [.pure _ (aI .i64 v1),Bf,.wrap] ?_;intro h;refine jn [(7,(aI .i64 j7_7))] ([]) 0 ?_ (λJ=>X5.cut ?_)
 ·
  revert h;exact λe=>oj e▸X8 [] (k:=fi)
 clear h;revert h9;exact brI (λh8=>λe=>X8 [Bt,.wrap] (k:=wJ [] J)) λh8=>λe=>X8 [Bf] (k:=wJ [] J)⟩
instance Xcd:PZ 94 (∀ (a0:Int) (a1:Int) (r:X0p×Int),Xar a0 a1=some r->Pz 94 [(aI .i64 a0),(aI .i64 a1)] (AV.tup [(Xx r.1),(aI .i64 r.2)])):=⟨λa0 a1 r h=>by
 refine X15.sym X2 fn94 (nt:=26) rfl rfl ?_ okM;unfold Xar at h;revert h;exact bI λv1 h2=>brI (λh3=>λe=>oj e▸X8 [.pure _ (AV.tup [(aI .i64 v1.1),(aI .i64 v1.2)]),Bt] (k:=fi)) λh3=>λe=>oj e▸X8 [.pure _ (AV.tup [(aI .i64 v1.1),(aI .i64 v1.2)]),Bf,.wrap,.wrap,.wrap] (k:=fi)⟩
theorem Xj2 {Q:Qt} {μ:Mu} (X0e:Int) (X9p:Int) (Xdt:Int):∀ (n:Nat) (Xf:(List X0p)) (X7s:Int) (X04:Nb Xf) (o:Xad) (h:X4y X0e X9p Xdt n Xf X7s=some o)
  (C0:∀ (Xj:(List X0p)) (Xu:Nb Xj),o=Xad.x0 Xj->Sx 70 Q [(10,(slE Xu.1 0 (Xj.map Xx)))] ([]++opE Xu.1 0 2 (Xj.map Xx)) 1 μ),
  Sl 70 Q f95 [(0,(aI .i64 X0e)),(1,(aI .i64 X9p)),(2,(aI .i64 Xdt)),(10,(slE X04.1 0 (Xf.map Xx))),(11,(aI .i64 X7s))] ([]++opE X04.1 0 2 (Xf.map Xx)) 1 μ:=by
 intro n
 induction n with
 |zero=>intro Xf X7s X04 o h C0;cases h
 |succ n ih =>
  intro Xf X7s X04 o h C0;rw[X4y] at h;rcases X04 with ⟨_|_,X1v⟩
  ·
   refine X5.round ?_;revert h;refine brI (λh18=>?_) λh18=>λe=>X8 [.wrap,Bf] (k:=wkT [] (C0 _  nbF (oj e).symm));refine bI λu19 h20=>rnI [.wrap,Bt,.wrap,.no,.wrap] (o:=by repeat' first|apply Ya|exact pcM|(refine X0g h20 rfl ?_;first|(simp<;>omega)|(simp[h18]<;>omega))|(refine Xv h20 (by decide) ?_;first|(simp<;>omega)|(simp[h18]<;>omega))|exact X1i) ?_;intro h;exact wkT [(0,2)] (ih  _ _ nbF o h C0)
  obtain rfl:=X1v rfl;refine X5.round ?_;revert h;refine brI (λh21=>?_) λh21=>λe=>X8 [.wrap,Bf] (k:=wkT [] (C0 _  nbS (oj e).symm));refine bI λu22 h23=>rnI [.wrap,Bt,.wrap,.no,.wrap] (o:=by repeat' first|apply Ya|exact pcM|(refine X0g h23 rfl ?_;first|(simp<;>omega)|(simp[h21]<;>omega))|(refine Xv h23 (by decide) ?_;first|(simp<;>omega)|(simp[h21]<;>omega))|exact X1i) ?_;intro h;exact wkT [(0,2)] (ih  _ _ nbF o h C0)
theorem X9s {Q:Xl->St->Mu->Prop}  {rb rD:Nat} {rr:Loop} (rh1:rr.state=.ready) (rh2:rr.pending=none) (rh3:rr.params=(rfB 0 (X10 Tryz.f95)).1) (rh4:rr.assign=(rfB 0 (X10 Tryz.f95)).2.1) (rh5:rr.body=(rfB 0 (X10 Tryz.f95)).2.2) (X1k:(List X0p)) (Xic:Nb X1k):∀ (n:Nat) (X0j:(List X0p)) (Xh4:Int) (X1n:Nb X0j) (o:X78) (h:X36 X1k n X0j Xh4=some o)
  (C0:∀ (X25:(List X0p)) (Xcb:(List X0p)) (X1j:Nb X25) (X8m:Nb Xcb),o=X78.x0 X25 Xcb->X5 Tryz.prog 19 3 Q (.exit (.exit 0)) [] ⟨fr [],hp ([(1,Ob [(slE X1j.1 3 (X25.map Xx))] 1),(2,Ob [(slE X8m.1 4 (Xcb.map Xx))] 1)]++opE X1j.1 3 2 (X25.map Xx)++opE X8m.1 4 2 (Xcb.map Xx)),5⟩ [(rb,MuE.loop rr 70 3 (fr [(12,(AV.ptr 1 0 0)),(62,(AV.fn 226 [(AV.ptr 2 0 0)]))])),(rD,MuE.blk (Go.Obj.deferred (some [])))]),
  X5 Tryz.prog 19 3 Q (.loop (X5b 0 (X10 Tryz.f226))) [] ⟨fr [(0,(AV.sc (.func (.yield rb) #[] #[]))),(1,(AV.ptr 2 0 0)),(3,(aI .i64 Xh4))],hp ([(1,Ob [(slE X1n.1 3 (X0j.map Xx))] 1),(2,Ob [(slE Xic.1 4 (X1k.map Xx))] 1)]++opE X1n.1 3 2 (X0j.map Xx)++opE Xic.1 4 2 (X1k.map Xx)),5⟩ [(rb,MuE.loop rr 70 3 (fr [(12,(AV.ptr 1 0 0)),(62,(AV.fn 226 [(AV.ptr 2 0 0)]))])),(rD,MuE.blk (Go.Obj.deferred (some [])))]:=by
 intro n
 induction n with
 |zero=>intro X0j Xh4 X1n o h C0;cases h
 |succ n ih =>
  intro X0j Xh4 X1n o h C0;rw[X36] at h;rcases X1n with ⟨_|_,X4c⟩
  ·
   rcases Xic with ⟨_|_,Xnh⟩
   ·
    refine X5.round ?_;revert h;refine brI (λh67=>?_) λh67=>λe=>X8 [Bf] (k:=wkT [] (C0 _ _  nbF nbF (oj e).symm));refine bI λe68 h69=>?_;try have qh69:=Xm h69
    refine rnI [Bt,.el (Xx e68),.ld (Xx e68)] ?_;intro h;refine X5.yield rfl rfl rfl rfl rfl trivial trivial (.head _) rh1 rh2 rh3 rh4 rh5 rfl rfl ?_;refine X0f [] ?_;refine X5.asg ?_;revert h;refine bI λu72 h73=>rnI [.no] (o:=by repeat' first|apply Ya|exact pcM|(refine X0g h73 rfl ?_;first|(simp<;>omega)|(simp[h67]<;>omega))|(refine Xv h73 (by decide) ?_;first|(simp<;>omega)|(simp[h67]<;>omega))|exact X1i) ?_;intro h;refine X5.rndEnd ?_;exact X8 [Bf,.wrap] (k:=wkT [(3,7)] (ih  _ _ nbF o h C0))
   obtain rfl:=Xnh rfl;refine X5.round ?_;revert h;refine brI (λh74=>?_) λh74=>λe=>X8 [Bf] (k:=wkT [] (C0 _ _  nbF nbS (oj e).symm));refine bI λe75 h76=>?_;try have qh76:=Xm h76
   intro h
   first|exact absurd (h76) (by simp[X18];done)|(simp[X18,h74] at h;done)|(simp[h74] at hg;done)|exact absurd (h76) (by simp[X18,h74];done)
  obtain rfl:=X4c rfl;rcases Xic with ⟨_|_,Xnh⟩
  ·
   refine X5.round ?_;revert h;refine brI (λh77=>?_) λh77=>λe=>X8 [Bf] (k:=wkT [] (C0 _ _  nbS nbF (oj e).symm));refine bI λe78 h79=>?_;try have qh79:=Xm h79
   refine rnI [Bt,.el (Xx e78),.ld (Xx e78)] ?_;intro h;refine X5.yield rfl rfl rfl rfl rfl trivial trivial (.head _) rh1 rh2 rh3 rh4 rh5 rfl rfl ?_;refine X0f [] ?_;refine X5.asg ?_;revert h;refine bI λu82 h83=>rnI [.no] (o:=by repeat' first|apply Ya|exact pcM|(refine X0g h83 rfl ?_;first|(simp<;>omega)|(simp[h77]<;>omega))|(refine Xv h83 (by decide) ?_;first|(simp<;>omega)|(simp[h77]<;>omega))|exact X1i) ?_;intro h;refine X5.rndEnd ?_;exact X8 [Bf,.wrap] (k:=wkT [(3,7)] (ih  _ _ nbF o h C0))
  obtain rfl:=Xnh rfl;refine X5.round ?_;revert h;refine brI (λh84=>?_) λh84=>λe=>X8 [Bf] (k:=wkT [] (C0 _ _  nbS nbS (oj e).symm));refine bI λe85 h86=>?_;try have qh86:=Xm h86
  intro h
  first|exact absurd (h86) (by simp[X18];done)|(simp[X18,h84] at h;done)|(simp[h84] at hg;done)|exact absurd (h86) (by simp[X18,h84];done)
instance X05j:PZ 95 (∀ (a0:Int) (a1:Int) (a2:Int) (r:(List X0p)×Int),Xcf a0 a1 a2=some r->Pz 95 [(aI .i64 a0),(aI .i64 a1),(aI .i64 a2)] (AV.tup [(Lt (r.1.map Xx)),(aI .i64 r.2)])):=⟨λa0 a1 a2 r h=>by
 refine X15.sym X2 fn95 (nt:=70) rfl rfl ?_ okM;unfold Xcf at h;revert h;refine brI (λh1=>λe=>oj e▸X8 [.wrap,Bt] (k:=fi)) λh1=>bI λv2 h3=>brI (λh4=>λe=>oj e▸X8 [.wrap,Bf,.pure _ (AV.tup [(Xx v2.1),(aI .i64 v2.2)]),Bt] (k:=fi)) λh4=>bI λo24 h25=>rnI [.wrap,Bf,.pure _ (AV.tup [(Xx v2.1),(aI .i64 v2.2)]),Bf] ?_;intro h;refine wkT [] (X5.cut (Xj2 a0 a1 a2 _ _ _ nbS _ h25 ?_));intro Xj Xu eo24;subst eo24;refine X5.glue ?_;try dsimp only at h
 rcases Xu with ⟨_|_,X1r⟩
 ·
  refine X0f [] ?_;refine X5.inline X2 X0dc rfl rfl rfl rfl rfl trivial trivial rfl rfl ?_;refine X0f [] ?_;refine X5.back (by intro id h;cases h) rfl ?_;refine X0f [] ?_;refine X5.keepL [12,62] ?_;refine X5.rangeFunc rfl trivial X0da rfl rfl rfl ?_;intro rb rD rr rh1 rh2 rh3 rh4 rh5;revert h;refine bI λo87 h88=>rnI [.el (aI .i64 (Xj.length:Int)),.wrap] ?_;intro h;refine wkT [(4,0)] (X5.cut (X9s rh1 rh2 rh3 rh4 rh5 Xj nbF _ _ _ nbS _ h88 ?_));intro X25 Xcb X1j X8m eo87;subst eo87;refine X5.glue ?_;try dsimp only at h
  rcases X1j with ⟨_|_,X5c⟩<;>(try obtain rfl:=X5c rfl);all_goals
   rcases X8m with ⟨_|_,Xgu⟩<;>(try obtain rfl:=Xgu rfl);all_goals
    refine X0f [] ?_;refine X5.rfEnd (by intro id h;cases h) ?_;revert h;exact λe=>oj e▸X8 [] (k:=fi)
 obtain rfl:=X1r rfl;refine X0f [] ?_;refine X5.inline X2 X0dc rfl rfl rfl rfl rfl trivial trivial rfl rfl ?_;refine X0f [] ?_;refine X5.back (by intro id h;cases h) rfl ?_;refine X0f [] ?_;refine X5.keepL [12,62] ?_;refine X5.rangeFunc rfl trivial X0da rfl rfl rfl ?_;intro rb rD rr rh1 rh2 rh3 rh4 rh5;revert h;refine bI λo130 h131=>rnI [.el (aI .i64 (List.length ([]:List X0p):Int)),.wrap] ?_;intro h;refine wkT [] (X5.cut (X9s rh1 rh2 rh3 rh4 rh5 ([]:List X0p) nbS _ _ _ nbS _ h131 ?_));intro X25 Xcb X1j X8m eo130;subst eo130;refine X5.glue ?_;try dsimp only at h
 rcases X1j with ⟨_|_,X5c⟩<;>(try obtain rfl:=X5c rfl);all_goals
  rcases X8m with ⟨_|_,Xgu⟩<;>(try obtain rfl:=Xgu rfl);all_goals
   refine X0f [] ?_;refine X5.rfEnd (by intro id h;cases h) ?_;revert h;exact λe=>oj e▸X8 [] (k:=fi)⟩
instance Xj1:PZ 57 (∀ (a0:X0r) (a1:Int) (r:(List X0p)×Int),Xf5 a0 a1=some r->Pz 57 [(X39 a0),(aI .i64 a1)] (AV.tup [(Lt (r.1.map Xx)),(aI .i64 r.2)])):=⟨λa0 a1 r h=>by
 refine X15.sym X2 fn57 (nt:=40) rfl rfl ?_ okM;unfold Xf5 at h;revert h;exact bI λv1 h2=>brI (λh3=>λe=>oj e▸X8 [.pure _ (aI .i64 v1),Bt] (k:=fi)) λh3=>brI (λh4=>bI λv5 h6=>brI (λh7=>λe=>oj e▸X8 [.pure _ (aI .i64 v1),Bf,Bt,.pure _ (AV.tup [(Xx v5.1),(aI .i64 v5.2)]),Bt] (k:=fi)) λh7=>λe=>oj e▸X8 [.pure _ (aI .i64 v1),Bf,Bt,.pure _ (AV.tup [(Xx v5.1),(aI .i64 v5.2)]),Bf] (k:=fi)) λh4=>brI (λh8=>bI λv9 h10=>λe=>oj e▸X8 [.pure _ (aI .i64 v1),Bf,Bf,Bt,.pure _ (AV.tup [(Lt (v9.1.map Xx)),(aI .i64 v9.2)])] (k:=fi)) λh8=>λe=>oj e▸X8 [.pure _ (aI .i64 v1),Bf,Bf,Bf] (k:=fi)⟩
theorem X0z {Q:Qt} {μ:Mu} (X0j:(List X4)) (X1k:X4) (X1n:Nb X0j) (hl:X0j.length<=140737488355328):Dr X0j λxs k=>∀ (o:X11) (h:Xh X0j X1k xs k  = some o),Lq Tryz.prog 19 5 Q μ o (fun|.x0=>(.exit 0,⟨fr [],hp ([(4,Ob [(X1 X1k)] 11)]++opE X1n.1 3 11 (X0j.map X1)),5⟩)|.x1 X6w=>(.ret,⟨fr [(4,(aI .i64 X6w))],hp ([(4,Ob [(X1 X1k)] 11)]++opE X1n.1 3 11 (X0j.map X1)),5⟩))
  (X5b 0 (X10 Tryz.f90)) ⟨fr [(0,(slE X1n.1 3 (X0j.map X1))),(1,(AV.fn 91 [(AV.ptr 4 0 0)])),(7,(aI .i64 (X0j.length:Int))),(8,(aI .i64 (k:Int)))],hp ([(4,Ob [(X1 X1k)] 11)]++opE X1n.1 3 11 (X0j.map X1)),5⟩:=by
 refine drI ?_ ?_
 ·
  intro k hk hc  o h C;rw[Xh] at h;rcases X1n with ⟨_|_,X4c⟩<;>(try obtain rfl:=X4c rfl);all_goals
   refine X5.round ?_;revert h;exact λe=>X8 [Bf] (k:=wC e C)
 ·
  intro x xs k hk hg hc ih  o h C;rw[Xh] at h;rcases X1n with ⟨_|_,X4c⟩
  ·
   refine X5.round ?_;refine X0f [Bt,.el (X1 x),.ld (X1 x)] ?_;refine X5.inline X2 fn91 rfl rfl rfl rfl rfl trivial trivial rfl rfl ?_;refine X0f [] ?_;refine X5.back (by intro id h;cases h) rfl ?_;revert h;refine brI (λh1341=>λe=>X8 [Bt] (k:=wC e C)) λh1341=>rnI [Bf] ?_;intro h;exact wkT [] (ih   o h C)
  obtain rfl:=X4c rfl;refine X5.round ?_;exact absurd hk (by simp)
end Go.Av.Tryz