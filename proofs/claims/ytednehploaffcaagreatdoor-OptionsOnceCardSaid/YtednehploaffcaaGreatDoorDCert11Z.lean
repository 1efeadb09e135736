/- Printed by decomp.py: that the program computes the functions. -/
import Derived.Test.YtednehploaffcaaGreatDoorDCert10Z
set_option linter.all false

namespace Go.Av.Tryz
open Go.Proofs Go.D Go.Proofs.Tryz
set_option maxRecDepth 10000
set_option maxHeartbeats 40000000
theorem Xip {Q:Qt} {μ:Mu} (Xs:Xu) (Xc:Xu):∀ (n:Nat) (Xft:Int) o,Lq Tryz.prog 59 0 Q μ o (fun|.x0=>(.ret,⟨fr [(4,(aB false))],hp ([]),0⟩)|.x1=>(.exit 0,⟨fr [(2,(AV.ptr 0 0 0)),(3,(AV.ptr 1 0 0))],hp ([(0,Ob [(Xw false Xs)] 2),(1,Ob [(Xw false Xc)] 2)]),2⟩))
  (X3l 0 (X1g Tryz.f33)) ⟨fr [(2,(AV.ptr 0 0 0)),(3,(AV.ptr 1 0 0)),(5,(aI .i64 Xft))],hp ([(0,Ob [(Xw false Xs)] 2),(1,Ob [(Xw false Xc)] 2)]),2⟩ (X5h Xs Xc n Xft):=by
 intro n
 induction n with
 |zero=>intro Xft o C h;cases h
 |succ n ih =>
  intro Xft o C;rw[X5h];refine rdI<|brI (λh15=>?_) λh15=>λe=>X8 [.el (aI .i64 (Xs.Ops.length:Int)),Bf] (k:=wC e C);refine bI λe16 h17=>?_;try have qh17:=Xo h17
  refine bI λe18 h19=>?_;try have qh19:=Xo h19
  exact brI (λh20=>λe=>X8 [.el (aI .i64 (Xs.Ops.length:Int)),Bt,.el (X0d e16),.el (X0d e18),Bt] (k:=wC e C)) λh20=>rnK [.el (aI .i64 (Xs.Ops.length:Int)),Bt,.el (X0d e16),.el (X0d e18),Bf,.wrap] (k:=wkI [] (ih  _ o C))
theorem Xio {Q:Qt} {μ:Mu} (X4p:Xu) (X7d:Xu):∀ (n:Nat) (Xng:Int) o,Lq Tryz.prog 59 0 Q μ o (fun|.x0=>(.ret,⟨fr [(4,(aB false))],hp ([]),0⟩)|.x1=>(.exit 2,⟨fr [],hp ([]),0⟩))
  (X3l 1 (X1g Tryz.f33)) ⟨fr [(2,(AV.ptr 0 0 0)),(3,(AV.ptr 1 0 0)),(6,(aI .i64 Xng))],hp ([(0,Ob [(Xw false X4p)] 2),(1,Ob [(Xw false X7d)] 2)]),2⟩ (X5g X4p X7d n Xng):=by
 intro n
 induction n with
 |zero=>intro Xng o C h;cases h
 |succ n ih =>
  intro Xng o C;rw[X5g];refine rdI<|brI (λh36=>?_) λh36=>λe=>X8 [.el (aI .i64 (X4p.Channels.length:Int)),Bf] (k:=wC e C);refine bI λe37 h38=>?_;try have qh38:=Xo h38
  refine bI λe39 h40=>?_;try have qh40:=Xo h40
  exact brI (λh41=>λe=>X8 [.el (aI .i64 (X4p.Channels.length:Int)),Bt,.el (Xq e37),.el (Xq e39),Bt] (k:=wC e C)) λh41=>rnK [.el (aI .i64 (X4p.Channels.length:Int)),Bt,.el (Xq e37),.el (Xq e39),Bf,.wrap] (k:=wkI [] (ih  _ o C))
instance X018:PZ 33 (∀ (a0:Xu) (a1:Xu) (r:Bool),Xbd a0 a1=some r->Pz 33 [(Xw false a0),(Xw false a1)] (aB r)):=⟨λa0 a1 r=>by
 unfold Xbd;refine psI fn33 59<|rnI [.el (aI .i64 (a0.Ops.length:Int)),.el (aI .i64 (a1.Ops.length:Int)),.el (aI .i64 (a0.Channels.length:Int)),.el (aI .i64 (a1.Channels.length:Int))] ?_;refine brI (λh1=>λe=>oj e▸X8 [Bt] (k:=fi)) λh1=>bI λo21 h22=>rnI [Bf] ?_;intro h;refine wkT [] (X9.cut (Xip a0 a1 _ _ _ ?_ h22));revert h;rcases o21 with _|_
 ·
  exact lGI rfl λe=>oj e▸X8 [] (k:=fi)
 refine lGI rfl<|bI λo42 h43=>rnI [] ?_;intro h;refine wkT [] (X9.cut (Xio a0 a1 _ _ _ ?_ h43));revert h;rcases o42 with _|_
 ·
  exact lGI rfl λe=>oj e▸X8 [] (k:=fi)
 exact lGI rfl λe=>oj e▸X8 [] (k:=fi)⟩
theorem Xeh {Q:Qt} {μ:Mu} (X0f:(List X20)) (X3n:(List X20)) (hl:X0f.length<=140737488355328):Dr X0f λxs k=>∀ o,Lq Tryz.prog 26 0 Q μ o (fun|.x0=>(.exit 0,⟨fr [],hp ([]),0⟩)|.x1=>(.ret,⟨fr [(4,(aB false))],hp ([]),0⟩))
  (X3l 0 (X1g Tryz.f96)) ⟨fr [(0,(Lf (X0f.map X1f))),(1,(Lf (X3n.map X1f))),(5,(aI .i64 (k:Int)))],hp ([]),0⟩ (X43 X0f X3n xs k ):=by
 refine drI ?_ ?_
 ·
  intro k hk hc  o C;rw[X43];exact rdI<|λe=>X8 [.el (aI .i64 (X0f.length:Int)),Bf] (k:=wC e C)
 ·
  intro x xs k hk hg hc ih  o C;rw[X43];refine rdI<|bI λe11 h12=>?_;try have qh12:=Xo h12
  exact brI (λh13=>λe=>X8 [.el (aI .i64 (X0f.length:Int)),Bt,.el (X1f x),.el (X1f e11),Bt] (k:=wC e C)) λh13=>rnK [.el (aI .i64 (X0f.length:Int)),Bt,.el (X1f x),.el (X1f e11),Bf] (k:=wkI [] (ih   o C))
instance Xub:PZ 96 (∀ (a0:(List X20)) (a1:(List X20)) (r:Bool),Xay a0 a1=some r->Pz 96 [(Lf (a0.map X1f)),(Lf (a1.map X1f))] (aB r)):=⟨λa0 a1 r=>by
 unfold Xay;refine psI fn96 26<|brI (λh1=>λe=>oj e▸X8 [.el (aI .i64 (a0.length:Int)),.el (aI .i64 (a1.length:Int)),Bt] (k:=fi)) λh1=>bI λu2 h3=>?_;have qh3:=X1b h3;refine bI λo14 h15=>rnI [.el (aI .i64 (a0.length:Int)),.el (aI .i64 (a1.length:Int)),Bf] ?_;intro h;refine wkT [] (X9.cut (drA (Xeh a0 a1 qh3) _ ?_ h15));revert h;rcases o14 with _|_
 ·
  exact lGI rfl λe=>oj e▸X8 [] (k:=fi)
 exact lGI rfl λe=>oj e▸X8 [] (k:=fi)⟩
instance X017:PZ 76 (∀ (a0:X05) (a1:X05) (r:Bool),Xbc a0 a1=some r->Pz 76 [(X07 false a0),(X07 false a1)] (aB r)):=⟨λa0 a1 r=>by
 unfold Xbc;refine psI fn76 17<|bI λj4_4 h8=>rnI [.stop 1] ?_;exact jnI ⟨fr [(4,(aB j4_4))],hp ([]),0⟩ h8 (λe=>oj e▸X8 [] (k:=fi)) λJ=>brI (λh5=>bI λv6 h7=>λe=>X8 [Gt,Gt,Gt,Gt,Gt,.pure _ (aB v6)] (k:=wJ [] J)) λh5=>λe=>X8 [Gf,Gf,Gf,Gf,Gf] (k:=wJ [] J)⟩
theorem Xfd {Q:Qt} {μ:Mu} (X0f:(List X05)) (X3n:(List X05)) (hl:X0f.length<=140737488355328):Dr X0f λxs k=>∀ o,Lq Tryz.prog 27 0 Q μ o (fun|.x0=>(.exit 0,⟨fr [],hp ([]),0⟩)|.x1=>(.ret,⟨fr [(4,(aB false))],hp ([]),0⟩))
  (X3l 0 (X1g Tryz.f57)) ⟨fr [(0,(Lf (List.map (X07 false) X0f))),(1,(Lf (List.map (X07 false) X3n))),(5,(aI .i64 (k:Int)))],hp ([]),0⟩ (X2v X0f X3n xs k ):=by
 refine drI ?_ ?_
 ·
  intro k hk hc  o C;rw[X2v];exact rdI<|λe=>X8 [.el (aI .i64 (X0f.length:Int)),Bf] (k:=wC e C)
 ·
  intro x xs k hk hg hc ih  o C;rw[X2v];refine rdI<|bI λe15 h16=>?_;try have qh16:=Xo h16
  exact bI λv17 h18=>brI (λh19=>λe=>X8 [.el (aI .i64 (X0f.length:Int)),Bt,.el (X07 false x),.el (X07 false e15),.pure _ (aB v17),Bt] (k:=wC e C)) λh19=>rnK [.el (aI .i64 (X0f.length:Int)),Bt,.el (X07 false x),.el (X07 false e15),.pure _ (aB v17),Bf] (k:=wkI [] (ih   o C))
instance Xvg:PZ 57 (∀ (a0:(List X05)) (a1:(List X05)) (r:Bool),X91 a0 a1=some r->Pz 57 [(Lf (List.map (X07 false) a0)),(Lf (List.map (X07 false) a1))] (aB r)):=⟨λa0 a1 r=>by
 unfold X91;refine psI fn57 27<|brI (λh1=>λe=>oj e▸X8 [.el (aI .i64 (a0.length:Int)),.el (aI .i64 (a1.length:Int)),Bt] (k:=fi)) λh1=>bI λu2 h3=>?_;have qh3:=X1b h3;refine bI λo20 h21=>rnI [.el (aI .i64 (a0.length:Int)),.el (aI .i64 (a1.length:Int)),Bf] ?_;intro h;refine wkT [] (X9.cut (drA (Xfd a0 a1 qh3) _ ?_ h21));revert h;rcases o20 with _|_
 ·
  exact lGI rfl λe=>oj e▸X8 [] (k:=fi)
 exact lGI rfl λe=>oj e▸X8 [] (k:=fi)⟩
theorem Xd9 {Q:Qt} {μ:Mu} (X0f:(List X5p)) (X3n:(List X5p)) (hl:X0f.length<=140737488355328):Dr X0f λxs k=>∀ o,Lq Tryz.prog 26 0 Q μ o (fun|.x0=>(.exit 0,⟨fr [],hp ([]),0⟩)|.x1=>(.ret,⟨fr [(4,(aB false))],hp ([]),0⟩))
  (X3l 0 (X1g Tryz.f77)) ⟨fr [(0,(Lf (X0f.map X2o))),(1,(Lf (X3n.map X2o))),(5,(aI .i64 (k:Int)))],hp ([]),0⟩ (X3k X0f X3n xs k ):=by
 refine drI ?_ ?_
 ·
  intro k hk hc  o C;rw[X3k];exact rdI<|λe=>X8 [.el (aI .i64 (X0f.length:Int)),Bf] (k:=wC e C)
 ·
  intro x xs k hk hg hc ih  o C;rw[X3k];refine rdI<|bI λe11 h12=>?_;try have qh12:=Xo h12
  exact brI (λh13=>λe=>X8 [.el (aI .i64 (X0f.length:Int)),Bt,.el (X2o x),.el (X2o e11),Bt] (k:=wC e C)) λh13=>rnK [.el (aI .i64 (X0f.length:Int)),Bt,.el (X2o x),.el (X2o e11),Bf] (k:=wkI [] (ih   o C))
instance Xsr:PZ 77 (∀ (a0:(List X5p)) (a1:(List X5p)) (r:Bool),X6s a0 a1=some r->Pz 77 [(Lf (a0.map X2o)),(Lf (a1.map X2o))] (aB r)):=⟨λa0 a1 r=>by
 unfold X6s;refine psI fn77 26<|brI (λh1=>λe=>oj e▸X8 [.el (aI .i64 (a0.length:Int)),.el (aI .i64 (a1.length:Int)),Bt] (k:=fi)) λh1=>bI λu2 h3=>?_;have qh3:=X1b h3;refine bI λo14 h15=>rnI [.el (aI .i64 (a0.length:Int)),.el (aI .i64 (a1.length:Int)),Bf] ?_;intro h;refine wkT [] (X9.cut (drA (Xd9 a0 a1 qh3) _ ?_ h15));revert h;rcases o14 with _|_
 ·
  exact lGI rfl λe=>oj e▸X8 [] (k:=fi)
 exact lGI rfl λe=>oj e▸X8 [] (k:=fi)⟩
theorem Xin {Q:Qt} {μ:Mu} (Xs:X02) (Xc:X02):∀ (n:Nat) (Xft:Int) o,Lq Tryz.prog 165 0 Q μ o (fun|.x0=>(.ret,⟨fr [(4,(aB false))],hp ([]),0⟩)|.x1=>(.exit 0,⟨fr [(2,(AV.ptr 0 0 0)),(3,(AV.ptr 1 0 0))],hp ([(0,Ob [(Xe false Xs)] 9),(1,Ob [(Xe false Xc)] 9)]),2⟩))
  (X3l 0 (X1g Tryz.f58)) ⟨fr [(2,(AV.ptr 0 0 0)),(3,(AV.ptr 1 0 0)),(5,(aI .i64 Xft))],hp ([(0,Ob [(Xe false Xs)] 9),(1,Ob [(Xe false Xc)] 9)]),2⟩ (X5f Xs Xc n Xft):=by
 intro n
 induction n with
 |zero=>intro Xft o C h;cases h
 |succ n ih =>
  intro Xft o C;rw[X5f];refine rdI<|brI (λh35=>?_) λh35=>λe=>X8 [.el (aI .i64 (Xs.Marks.length:Int)),Bf] (k:=wC e C);refine bI λe36 h37=>?_;try have qh37:=Xo h37
  refine bI λe38 h39=>?_;try have qh39:=Xo h39
  exact brI (λh40=>λe=>X8 [.el (aI .i64 (Xs.Marks.length:Int)),Bt,.el (aI .i64 e36),.el (aI .i64 e38),Bt] (k:=wC e C)) λh40=>rnK [.el (aI .i64 (Xs.Marks.length:Int)),Bt,.el (aI .i64 e36),.el (aI .i64 e38),Bf,.wrap] (k:=wkI [] (ih  _ o C))
theorem Xim {Q:Qt} {μ:Mu} (X4p:X02) (X7d:X02):∀ (n:Nat) (Xng:Int) o,Lq Tryz.prog 165 0 Q μ o (fun|.x0=>(.ret,⟨fr [(4,(aB false))],hp ([]),0⟩)|.x1=>(.exit 2,⟨fr [(2,(AV.ptr 0 0 0)),(3,(AV.ptr 1 0 0))],hp ([(0,Ob [(Xe false X4p)] 9),(1,Ob [(Xe false X7d)] 9)]),2⟩))
  (X3l 1 (X1g Tryz.f58)) ⟨fr [(2,(AV.ptr 0 0 0)),(3,(AV.ptr 1 0 0)),(6,(aI .i64 Xng))],hp ([(0,Ob [(Xe false X4p)] 9),(1,Ob [(Xe false X7d)] 9)]),2⟩ (X6r X4p X7d n Xng):=by
 intro n
 induction n with
 |zero=>intro Xng o C h;cases h
 |succ n ih =>
  intro Xng o C;rw[X6r];refine rdI<|brI (λh56=>?_) λh56=>λe=>X8 [.el (aI .i64 (X4p.Store.length:Int)),Bf] (k:=wC e C);refine bI λe57 h58=>?_;try have qh58:=Xo h58
  refine bI λe59 h60=>?_;try have qh60:=Xo h60
  exact brI (λh61=>λe=>X8 [.el (aI .i64 (X4p.Store.length:Int)),Bt,.el (X37 e57),.el (X37 e59),Bt] (k:=wC e C)) λh61=>rnK [.el (aI .i64 (X4p.Store.length:Int)),Bt,.el (X37 e57),.el (X37 e59),Bf,.wrap] (k:=wkI [] (ih  _ o C))
theorem Xil {Q:Qt} {μ:Mu} (X8x:X02) (Xfs:X02):∀ (n:Nat) (Xpf:Int) o,Lq Tryz.prog 165 0 Q μ o (fun|.x0=>(.ret,⟨fr [(4,(aB false))],hp ([]),0⟩)|.x1=>(.exit 4,⟨fr [(2,(AV.ptr 0 0 0)),(3,(AV.ptr 1 0 0))],hp ([(0,Ob [(Xe false X8x)] 9),(1,Ob [(Xe false Xfs)] 9)]),2⟩))
  (X3l 2 (X1g Tryz.f58)) ⟨fr [(2,(AV.ptr 0 0 0)),(3,(AV.ptr 1 0 0)),(7,(aI .i64 Xpf))],hp ([(0,Ob [(Xe false X8x)] 9),(1,Ob [(Xe false Xfs)] 9)]),2⟩ (X5e X8x Xfs n Xpf):=by
 intro n
 induction n with
 |zero=>intro Xpf o C h;cases h
 |succ n ih =>
  intro Xpf o C;rw[X5e];refine rdI<|brI (λh77=>?_) λh77=>λe=>X8 [.el (aI .i64 (X8x.Events.length:Int)),Bf] (k:=wC e C);refine bI λe78 h79=>?_;try have qh79:=Xo h79
  refine bI λe80 h81=>?_;try have qh81:=Xo h81
  exact brI (λh82=>λe=>X8 [.el (aI .i64 (X8x.Events.length:Int)),Bt,.el (Xd e78),.el (Xd e80),Bt] (k:=wC e C)) λh82=>rnK [.el (aI .i64 (X8x.Events.length:Int)),Bt,.el (Xd e78),.el (Xd e80),Bf,.wrap] (k:=wkI [] (ih  _ o C))
theorem Xik {Q:Qt} {μ:Mu} (Xd0:X02) (Xgw:X02):∀ (n:Nat) (y3_8:Int) o,Lq Tryz.prog 165 0 Q μ o (fun|.x0=>(.ret,⟨fr [(4,(aB false))],hp ([]),0⟩)|.x1=>(.exit 6,⟨fr [(2,(AV.ptr 0 0 0)),(3,(AV.ptr 1 0 0))],hp ([(0,Ob [(Xe false Xd0)] 9),(1,Ob [(Xe false Xgw)] 9)]),2⟩))
  (X3l 3 (X1g Tryz.f58)) ⟨fr [(2,(AV.ptr 0 0 0)),(3,(AV.ptr 1 0 0)),(8,(aI .i64 y3_8))],hp ([(0,Ob [(Xe false Xd0)] 9),(1,Ob [(Xe false Xgw)] 9)]),2⟩ (X6q Xd0 Xgw n y3_8):=by
 intro n
 induction n with
 |zero=>intro y3_8 o C h;cases h
 |succ n ih =>
  intro y3_8 o C;rw[X6q];refine rdI<|brI (λh98=>?_) λh98=>λe=>X8 [.el (aI .i64 (Xd0.Rows.length:Int)),Bf] (k:=wC e C);refine bI λe99 h100=>?_;try have qh100:=Xo h100
  refine bI λe101 h102=>?_;try have qh102:=Xo h102
  exact brI (λh103=>λe=>X8 [.el (aI .i64 (Xd0.Rows.length:Int)),Bt,.el (X5m e99),.el (X5m e101),Bt] (k:=wC e C)) λh103=>rnK [.el (aI .i64 (Xd0.Rows.length:Int)),Bt,.el (X5m e99),.el (X5m e101),Bf,.wrap] (k:=wkI [] (ih  _ o C))
theorem Xij {Q:Qt} {μ:Mu} (Xf0:X02) (Xjn:X02):∀ (n:Nat) (y4_9:Int) o,Lq Tryz.prog 165 0 Q μ o (fun|.x0=>(.ret,⟨fr [(4,(aB false))],hp ([]),0⟩)|.x1=>(.exit 8,⟨fr [],hp ([]),0⟩))
  (X3l 4 (X1g Tryz.f58)) ⟨fr [(2,(AV.ptr 0 0 0)),(3,(AV.ptr 1 0 0)),(9,(aI .i64 y4_9))],hp ([(0,Ob [(Xe false Xf0)] 9),(1,Ob [(Xe false Xjn)] 9)]),2⟩ (X6p Xf0 Xjn n y4_9):=by
 intro n
 induction n with
 |zero=>intro y4_9 o C h;cases h
 |succ n ih =>
  intro y4_9 o C;rw[X6p];refine rdI<|brI (λh119=>?_) λh119=>λe=>X8 [.el (aI .i64 (Xf0.Late.length:Int)),Bf] (k:=wC e C);refine bI λe120 h121=>?_;try have qh121:=Xo h121
  refine bI λe122 h123=>?_;try have qh123:=Xo h123
  exact brI (λh124=>λe=>X8 [.el (aI .i64 (Xf0.Late.length:Int)),Bt,.el (X1x e120),.el (X1x e122),Bt] (k:=wC e C)) λh124=>rnK [.el (aI .i64 (Xf0.Late.length:Int)),Bt,.el (X1x e120),.el (X1x e122),Bf,.wrap] (k:=wkI [] (ih  _ o C))
instance X016:PZ 58 (∀ (a0:X02) (a1:X02) (r:Bool),Xbb a0 a1=some r->Pz 58 [(Xe false a0),(Xe false a1)] (aB r)):=⟨λa0 a1 r=>by
 unfold Xbb;refine psI fn58 165<|bI λXxt h20=>rnI [.stop 1] ?_;refine jnI ⟨fr [(2,(AV.ptr 0 0 0)),(3,(AV.ptr 1 0 0)),(74,(aB Xxt))],hp ([(0,Ob [(Xe false a0)] 9),(1,Ob [(Xe false a1)] 9)]),2⟩ h20 ?_ λJ=>?_
 ·
  refine brI (λh21=>λe=>oj e▸X8 [Bt] (k:=fi)) λh21=>bI λo41 h42=>rnI [Bf] ?_;intro h;refine wkT [] (X9.cut (Xin a0 a1 _ _ _ ?_ h42));revert h;rcases o41 with _|_
  ·
   exact lGI rfl λe=>oj e▸X8 [] (k:=fi)
  refine lGI rfl<|bI λo62 h63=>rnI [] ?_;intro h;refine wkT [] (X9.cut (Xim a0 a1 _ _ _ ?_ h63));revert h;rcases o62 with _|_
  ·
   exact lGI rfl λe=>oj e▸X8 [] (k:=fi)
  refine lGI rfl<|bI λo83 h84=>rnI [] ?_;intro h;refine wkT [] (X9.cut (Xil a0 a1 _ _ _ ?_ h84));revert h;rcases o83 with _|_
  ·
   exact lGI rfl λe=>oj e▸X8 [] (k:=fi)
  refine lGI rfl<|bI λo104 h105=>rnI [] ?_;intro h;refine wkT [] (X9.cut (Xik a0 a1 _ _ _ ?_ h105));revert h;rcases o104 with _|_
  ·
   exact lGI rfl λe=>oj e▸X8 [] (k:=fi)
  refine lGI rfl<|bI λo125 h126=>rnI [] ?_;intro h;refine wkT [] (X9.cut (Xij a0 a1 _ _ _ ?_ h126));revert h;rcases o125 with _|_
  ·
   exact lGI rfl λe=>oj e▸X8 [] (k:=fi)
  exact lGI rfl λe=>oj e▸X8 [] (k:=fi)
 refine brI (λh11=>λe=>X8 [Gf,Gf,Gf,Gf,Gf,Gf,Gf,Gf,Gf,Gf,Gf,Gf,Gf,Gf,Gf,Gf,Gf,Gf,Gf,Gf,Gf,Gf,Gf,Gf,Gf,Gf,Gf,Gf,Gf,Gf,Gf,Gf,Gf,Gf,Gf,Gf,Gf,Gf,Gf,Gf,Gf,Gf,Gf,Gf,Gf,Gf] (o:=by repeat' first|apply Ya|exact pcM|exact fq (X5 h11 rfl)|exact fq (X5 (X5 h11 rfl) rfl)|exact fq (X5 (X5 (X5 h11 rfl) rfl) rfl)|exact fq (X5 (X5 (X5 (X5 h11 rfl) rfl) rfl) rfl)|exact fq (X5 (X5 (X5 (X5 (X5 h11 rfl) rfl) rfl) rfl) rfl)|exact fq (X5 (X5 (X5 (X5 (X5 (X5 h11 rfl) rfl) rfl) rfl) rfl) rfl)|exact X0y) (k:=wJ [] J)) λh11=>brI (λh12=>λe=>X8 [Gt,Gt,Gt,Gt,Gt,Gf,Gf,Gf,Gf,Gf,Gf,Gf,Gf,Gf,Gf,Gf,Gf,Gf,Gf,Gf,Gf,Gf,Gf,Gf,Gf,Gf,Gf,Gf,Gf,Gf,Gf,Gf,Gf,Gf,Gf,Gf,Gf,Gf,Gf,Gf,Gf,Gf,Gf,Gf,Gf,Gf] (o:=by repeat' first|apply Ya|exact pcM|exact fq (Xb h11 h12)|exact fq (X5 (Xb h11 h12) rfl)|exact fq (X5 (X5 (Xb h11 h12) rfl) rfl)|exact fq (X5 (X5 (X5 (Xb h11 h12) rfl) rfl) rfl)|exact fq (X5 (X5 (X5 (X5 (Xb h11 h12) rfl) rfl) rfl) rfl)|exact fq (X5 (X5 (X5 (X5 (X5 (Xb h11 h12) rfl) rfl) rfl) rfl) rfl)|exact X0y) (k:=wJ [] J)) λh12=>bI λv13 h14=>brI (λh15=>λe=>X8 [Gt,Gt,Gt,Gt,Gt,Gt,Gt,Gt,Gt,Gt,X4d.pure _ (aB v13),Gt,Gf,Gf,Gf,Gf,Gf,Gf,Gf,Gf,Gf,Gf,Gf,Gf,Gf,Gf,Gf,Gf,Gf,Gf,Gf,Gf,Gf,Gf,Gf,Gf,Gf,Gf,Gf,Gf,Gf,Gf,Gf,Gf,Gf,Gf,Gf] (o:=by repeat' first|apply Ya|exact pcM|exact fq (Xb h11 h12)|exact fq (Xb (Xb h11 h12) h15)|exact fq (X5 (Xb (Xb h11 h12) h15) rfl)|exact fq (X5 (X5 (Xb (Xb h11 h12) h15) rfl) rfl)|exact fq (X5 (X5 (X5 (Xb (Xb h11 h12) h15) rfl) rfl) rfl)|exact fq (X5 (X5 (X5 (X5 (Xb (Xb h11 h12) h15) rfl) rfl) rfl) rfl)|exact X0y) (k:=wJ [] J)) λh15=>rnI [Gt,Gt,Gt,Gt,Gt,Gt,Gt,Gt,Gt,Gt,.pure _ (aB v13),Gt,Gt,Gt,Gt,.el (aI .i64 (a0.Marks.length:Int)),Gt,Gt,Gt,.el (aI .i64 (a1.Marks.length:Int)),Gt,.stop 999999] (o:=by repeat' first|apply Ya|exact pcM|exact fq (Xb h11 h12)|exact fq (Xb (Xb h11 h12) h15)|exact X0y) ?_;refine brI (λh16=>λe=>X8 [Gf,Gf,Gf,Gf,Gf,Gf,Gf,Gf,Gf,Gf,Gf,Gf,Gf,Gf,Gf,Gf,Gf,Gf,Gf,Gf,Gf,Gf,Gf,Gf,Gf,Gf,Gf,Gf] (o:=by repeat' first|apply Ya|exact pcM|exact fq (Xb (Xb (Xb h11 h12) h15) h16)|exact fq (X5 (Xb (Xb (Xb h11 h12) h15) h16) rfl)|exact fq (X5 (X5 (Xb (Xb (Xb h11 h12) h15) h16) rfl) rfl)|exact fq (X5 (X5 (X5 (Xb (Xb (Xb h11 h12) h15) h16) rfl) rfl) rfl)|exact X0y) (k:=wJ [] J)) λh16=>rnI [Gt,Gt,Gt,.el (aI .i64 (a0.Store.length:Int)),Gt,Gt,Gt,.el (aI .i64 (a1.Store.length:Int)),Gt,.stop 999999] (o:=by repeat' first|apply Ya|exact pcM|exact fq (Xb (Xb (Xb h11 h12) h15) h16)|exact X0y) ?_;refine brI (λh17=>λe=>X8 [Gf,Gf,Gf,Gf,Gf,Gf,Gf,Gf,Gf,Gf,Gf,Gf,Gf,Gf,Gf,Gf,Gf,Gf,Gf,Gf,Gf] (o:=by repeat' first|apply Ya|exact pcM|exact fq (Xb (Xb (Xb (Xb h11 h12) h15) h16) h17)|exact fq (X5 (Xb (Xb (Xb (Xb h11 h12) h15) h16) h17) rfl)|exact fq (X5 (X5 (Xb (Xb (Xb (Xb h11 h12) h15) h16) h17) rfl) rfl)|exact X0y) (k:=wJ [] J)) λh17=>rnI [Gt,Gt,Gt,.el (aI .i64 (a0.Events.length:Int)),Gt,Gt,Gt,.el (aI .i64 (a1.Events.length:Int)),Gt,.stop 999999] (o:=by repeat' first|apply Ya|exact pcM|exact fq (Xb (Xb (Xb (Xb h11 h12) h15) h16) h17)|exact X0y) ?_;refine brI (λh18=>λe=>X8 [Gf,Gf,Gf,Gf,Gf,Gf,Gf,Gf,Gf,Gf,Gf,Gf,Gf,Gf] (o:=by repeat' first|apply Ya|exact pcM|exact fq (Xb (Xb (Xb (Xb (Xb h11 h12) h15) h16) h17) h18)|exact fq (X5 (Xb (Xb (Xb (Xb (Xb h11 h12) h15) h16) h17) h18) rfl)|exact X0y) (k:=wJ [] J)) λh18=>rnI [Gt,Gt,Gt,.el (aI .i64 (a0.Rows.length:Int)),Gt,Gt,Gt,.el (aI .i64 (a1.Rows.length:Int)),Gt,.stop 999999] (o:=by repeat' first|apply Ya|exact pcM|exact fq (Xb (Xb (Xb (Xb (Xb h11 h12) h15) h16) h17) h18)|exact X0y) ?_;exact brI (λh19=>λe=>X8 [Gf,Gf,Gf,Gf,Gf,Gf,Gf] (o:=by repeat' first|apply Ya|exact pcM|exact fq (Xb (Xb (Xb (Xb (Xb (Xb h11 h12) h15) h16) h17) h18) h19)|exact X0y) (k:=wJ [] J)) λh19=>λe=>X8 [Gt,Gt,Gt,.el (aI .i64 (a0.Late.length:Int)),Gt,Gt,Gt,.el (aI .i64 (a1.Late.length:Int)),Gt] (o:=by repeat' first|apply Ya|exact pcM|exact fq (Xb (Xb (Xb (Xb (Xb (Xb h11 h12) h15) h16) h17) h18) h19)|exact X0y) (k:=wJ [] J)⟩
theorem Xii {Q:Qt} {μ:Mu} (Xs:Xl) (Xc:Xl):∀ (n:Nat) (Xft:Int) o,Lq Tryz.prog 40 0 Q μ o (fun|.x0=>(.ret,⟨fr [(4,(aB false))],hp ([]),0⟩)|.x1=>(.exit 0,⟨fr [],hp ([]),0⟩))
  (X3l 0 (X1g Tryz.f34)) ⟨fr [(2,(AV.ptr 0 0 0)),(3,(AV.ptr 1 0 0)),(5,(aI .i64 Xft))],hp ([(0,Ob [(Xx false Xs)] 14),(1,Ob [(Xx false Xc)] 14)]),2⟩ (X5d Xs Xc n Xft):=by
 intro n
 induction n with
 |zero=>intro Xft o C h;cases h
 |succ n ih =>
  intro Xft o C;rw[X5d];refine rdI<|brI (λh27=>?_) λh27=>λe=>X8 [.el (aI .i64 (Xs.Tasks.length:Int)),Bf] (k:=wC e C);refine bI λe28 h29=>?_;try have qh29:=Xo h29
  refine bI λe30 h31=>?_;try have qh31:=Xo h31
  exact bI λv32 h33=>brI (λh34=>λe=>X8 [.el (aI .i64 (Xs.Tasks.length:Int)),Bt,.el (Xe false e28),.el (Xe false e30),.pure _ (aB v32),Bt] (k:=wC e C)) λh34=>rnK [.el (aI .i64 (Xs.Tasks.length:Int)),Bt,.el (Xe false e28),.el (Xe false e30),.pure _ (aB v32),Bf,.wrap] (k:=wkI [] (ih  _ o C))
instance X015:PZ 34 (∀ (a0:Xl) (a1:Xl) (r:Bool),Xdz a0 a1=some r->Pz 34 [(Xx false a0),(Xx false a1)] (aB r)):=⟨λa0 a1 r=>by
 unfold Xdz;refine psI fn34 40<|bI λX06z h8=>rnI [.stop 1] ?_;refine jnI ⟨fr [(2,(AV.ptr 0 0 0)),(3,(AV.ptr 1 0 0)),(20,(aB X06z))],hp ([(0,Ob [(Xx false a0)] 14),(1,Ob [(Xx false a1)] 14)]),2⟩ h8 ?_ λJ=>brI (λh5=>λe=>X8 [.el (aI .i64 (a0.Tasks.length:Int)),.el (aI .i64 (a1.Tasks.length:Int)),Gf,Gf,Gf,Gf,Gf,Gf] (k:=wJ [] J)) λh5=>bI λv6 h7=>λe=>X8 [.el (aI .i64 (a0.Tasks.length:Int)),.el (aI .i64 (a1.Tasks.length:Int)),Gt,Gt,Gt,Gt,Gt,.pure _ (aB v6),Gt] (k:=wJ [] J);refine brI (λh9=>λe=>oj e▸X8 [Bt] (k:=fi)) λh9=>bI λo35 h36=>rnI [Bf] ?_;intro h;refine wkT [] (X9.cut (Xii a0 a1 _ _ _ ?_ h36));revert h;rcases o35 with _|_
 ·
  exact lGI rfl λe=>oj e▸X8 [] (k:=fi)
 exact lGI rfl λe=>oj e▸X8 [] (k:=fi)⟩
instance X014:PZ 9 (∀ (a0:Xl) (a1:Xl) (r:Bool),X6e a0 a1=some r->Pz 9 [(Xx false a0),(Xx false a1)] (aB r)):=⟨λa0 a1 r=>by
 unfold X6e;refine psI fn9 22<|bI λj9_4 h18=>rnI [.stop 1] ?_;exact jnI ⟨fr [(4,(aB j9_4))],hp ([]),0⟩ h18 (λe=>oj e▸X8 [] (k:=fi)) λJ=>bI λv10 h11=>brI (λh12=>bI λv13 h14=>brI (λh15=>bI λv16 h17=>λe=>X8 [.pure _ (aB v10),Gt,Gt,Gt,Gt,Gt,.pure _ (aB v13),Gt,Gt,Gt,.pure _ (aB v16)] (o:=by repeat' first|apply Ya|exact pcM|exact fq (X5 h12 h15)|exact X0y) (k:=wJ [] J)) λh15=>λe=>X8 [.pure _ (aB v10),Gt,Gt,Gt,Gt,Gt,.pure _ (aB v13),Gf,Gf,Gf] (o:=by repeat' first|apply Ya|exact pcM|exact fq (X5 h12 h15)|exact X0y) (k:=wJ [] J)) λh12=>λe=>X8 [.pure _ (aB v10),Gf,Gf,Gf,Gf,Gf,Gf,Gf,Gf] (o:=by repeat' first|apply Ya|exact pcM|exact fq (Xb h12 rfl)|exact X0y) (k:=wJ [] J)⟩
end Go.Av.Tryz