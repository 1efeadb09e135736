/- Printed by decomp.py: that the program computes the functions. -/
import Derived.Test.YtkjlgmgfhgamlaaGreatDCert10Z
set_option linter.all false

namespace Go.Av.Tryz
open Go.Proofs Go.D
set_option maxRecDepth 10000
set_option maxHeartbeats 40000000
instance Xw6:PCs Tryz.prog 130 (∀ (a0:(List X05)) (a1:Bool) (r:Int×Int),X7f a0 a1=some r->X0i Tryz.prog 130 [(Lf (a0.map X4)),(aB a1)] (AV.tup [(aI .i64 r.1),(aI .i64 r.2)])):=⟨λa0 a1 r h=>by
 refine X0i.sym X3 X04f (nt:=25) rfl rfl ?_ okM;unfold X7f at h;revert h;exact bI λv1 h2=>brI (λh3=>λe=>oj e▸X7 [.pure _ (AV.tup [(aB v1.1),(aI .i64 v1.2.1),(aI .i64 v1.2.2)]),Bt] (k:=fi)) λh3=>λe=>oj e▸X7 [.pure _ (AV.tup [(aB v1.1),(aI .i64 v1.2.1),(aI .i64 v1.2.2)]),Bf] (k:=fi)⟩
instance Xuv:PCs Tryz.prog 87 (∀ (a0:X08) (r:Int×Int),X97 a0=some r->X0i Tryz.prog 87 [(X06 false a0)] (AV.tup [(aI .i64 r.1),(aI .i64 r.2)])):=⟨λa0 r h=>by
 refine X0i.sym X3 fn87 (nt:=46) rfl rfl ?_ okM;unfold X97 at h;revert h;refine brI (λh1=>?_) λh1=>?_
 ·
  refine bI λv2 h3=>brI (λh4=>?_) λh4=>?_
  ·
   refine bI λe5 h6=>?_;try have qh6:=Xo h6
   exact λe=>oj e▸X7 [.el (aI .i64 (a0.Arg.length:Int)),Bt,.pure _ (AV.tup [(aI .i64 v2.1),(aI .i64 v2.2)]),Bt,.el (X4 e5)] (k:=fi)
  refine rnI [.el (aI .i64 (a0.Arg.length:Int)),Bt,.pure _ (AV.tup [(aI .i64 v2.1),(aI .i64 v2.2)]),Bf,.el (aI .i64 (a0.Where.length:Int))] ?_;refine brI (λh7=>?_) λh7=>λe=>oj e▸X7 [Bf] (k:=fi);refine bI λv8 h9=>brI (λh10=>?_) λh10=>λe=>oj e▸X7 [Bt,.pure _ (AV.tup [(aI .i64 v8.1),(aI .i64 v8.2)]),Bf] (k:=fi);refine bI λe11 h12=>?_;try have qh12:=Xo h12
  exact λe=>oj e▸X7 [Bt,.pure _ (AV.tup [(aI .i64 v8.1),(aI .i64 v8.2)]),Bt,.el (X4 e11)] (k:=fi)
 refine brI (λh13=>?_) λh13=>λe=>oj e▸X7 [.el (aI .i64 (a0.Arg.length:Int)),Bf,.el (aI .i64 (a0.Where.length:Int)),Bf] (k:=fi);refine bI λv14 h15=>rnI [.el (aI .i64 (a0.Arg.length:Int)),Bf,.el (aI .i64 (a0.Where.length:Int)),Bt,.pure _ (AV.tup [(aI .i64 v14.1),(aI .i64 v14.2)])] ?_;refine brI (λh16=>?_) λh16=>λe=>oj e▸X7 [Bf] (k:=fi);refine bI λe17 h18=>?_;try have qh18:=Xo h18
 exact λe=>oj e▸X7 [Bt,.el (X4 e17)] (k:=fi)⟩
instance Xuw:PCs Tryz.prog 49 (∀ (a0:X08) (r:Int×Int),X98 a0=some r->X0i Tryz.prog 49 [(X06 false a0)] (AV.tup [(aI .i64 r.1),(aI .i64 r.2)])):=⟨λa0 r h=>by
 refine X0i.sym X3 fn49 (nt:=13) rfl rfl ?_ okM;unfold X98 at h;revert h;exact bI λv1 h2=>brI (λh3=>λe=>oj e▸X7 [.pure _ (aI .i64 v1),Bt,.pure _ (aI .i64 v1)] (k:=fi)) λh3=>bI λv4 h5=>λe=>oj e▸X7 [.pure _ (aI .i64 v1),Bf,.pure _ (AV.tup [(aI .i64 v4.1),(aI .i64 v4.2)])] (k:=fi)⟩
instance Xqn:PCs Tryz.prog 13 (∀ (a0:X08) (r:Bool),X5l a0=some r->X0i Tryz.prog 13 [(X06 false a0)] (aB r)):=⟨λa0 r h=>by
 refine X0i.sym X3 fn13 (nt:=12) rfl rfl ?_ okM;unfold X5l at h;revert h;exact bI λv1 h2=>λe=>oj e▸X7 [.pure _ (AV.tup [(aI .i64 v1.1),(aI .i64 v1.2)])] (k:=fi)⟩
instance Xw3:PCs Tryz.prog 14 (∀ (a0:Int) (r:Bool),Xai a0=some r->X0i Tryz.prog 14 [(aI .i64 a0)] (aB r)):=⟨λa0 r h=>by
 refine X0i.sym X3 fn14 (nt:=13) rfl rfl ?_ okM;unfold Xai at h;revert h;exact λe=>oj e▸X7 [] (k:=fi)⟩
instance Xuu:PCs Tryz.prog 15 (∀ (a0:X8) (r:Bool),X96 a0=some r->X0i Tryz.prog 15 [(Xm a0)] (aB r)):=⟨λa0 r h=>by
 refine X0i.sym X3 fn15 (nt:=11) rfl rfl ?_ okM;unfold X96 at h;revert h;exact λe=>oj e▸X7 [] (k:=fi)⟩
theorem Xc2 {Q:Xx->St->Mu->Prop} {μ:Mu} (X0u:(List X0a)) (X7w:(List X0a)) (hl:X0u.length<=140737488355328):∀ (xs:List X0a) (k:Nat) (hx:X0u.drop k=xs) (o:X3r) (h:X23 X0u X7w xs k  = some o)
  (C0:o=X3r.x0->X2 Tryz.prog 26 0 Q (.exit (.exit 0)) [] ⟨fr [],hp ([]),0⟩ μ)
  (C1:o=X3r.x1->X2 Tryz.prog 26 0 Q (.exit .ret) [] ⟨fr [(4,(aB false))],hp ([]),0⟩ μ),
  X2 Tryz.prog 26 0 Q (.loop (X48 0 (Xa Tryz.f53))) [] ⟨fr [(0,(Lf (X0u.map Xw))),(1,(Lf (X7w.map Xw))),(5,(aI .i64 (k:Int)))],hp ([]),0⟩ μ:=by
 intro xs
 induction xs with
 |nil =>
  intro k hx  o h C0 C1;have hk:=drop_nil hx;have hc:decide ((k:Int)<(X0u.length:Int))=false:=Yf om;rw[X23] at h;refine X2.round ?_;revert h;exact λe=>X7 [.el (aI .i64 (X0u.length:Int)),Bf] (k:=wkT [] (C0  (oj e).symm))
 |cons x xs ih =>
  intro k hx  o h C0 C1;obtain⟨hk,hg,hx1⟩:=X12 hx;have hc:decide ((k:Int)<(X0u.length:Int))=true:=Yt om;rw[X23] at h;refine X2.round ?_;revert h;refine bI λe11 h12=>?_;try have qh12:=Xo h12
  refine brI (λh13=>λe=>X7 [.el (aI .i64 (X0u.length:Int)),Bt,.el (Xw x),.el (Xw e11),Bt] (k:=wkT [] (C1  (oj e).symm))) λh13=>rnI [.el (aI .i64 (X0u.length:Int)),Bt,.el (Xw x),.el (Xw e11),Bf] ?_;intro h;exact wkT [] (ih (k+1) hx1  o h C0 C1)
instance Xpp:PCs Tryz.prog 53 (∀ (a0:(List X0a)) (a1:(List X0a)) (r:Bool),X4w a0 a1=some r->X0i Tryz.prog 53 [(Lf (a0.map Xw)),(Lf (a1.map Xw))] (aB r)):=⟨λa0 a1 r h=>by
 refine X0i.sym X3 fn53 (nt:=26) rfl rfl ?_ okM;unfold X4w at h;revert h;refine brI (λh1=>λe=>oj e▸X7 [.el (aI .i64 (a0.length:Int)),.el (aI .i64 (a1.length:Int)),Bt] (k:=fi)) λh1=>bI λu2 h3=>?_;have qh3:=X13 h3;refine bI λo14 h15=>rnI [.el (aI .i64 (a0.length:Int)),.el (aI .i64 (a1.length:Int)),Bf] ?_;intro h;refine wkT [] (X2.cut (Xc2 a0 a1 qh3 a0 0 (by simp) _ h15 ?_ ?_))
 ·
  intro eo14;subst eo14;refine X2.glue ?_;try dsimp only at h
  revert h;exact λe=>oj e▸X7 [] (k:=fi)
 intro eo14;subst eo14;refine X2.glue ?_;try dsimp only at h
 revert h;exact λe=>oj e▸X7 [] (k:=fi)⟩
theorem Xgl {Q:Xx->St->Mu->Prop} {μ:Mu} (Xn:Xp) (Xi:Xp):∀ (n:Nat) (Xiy:Int) (o:X6m) (h:X46 Xn Xi n Xiy=some o)
  (C0:o=X6m.x0->X2 Tryz.prog 165 0 Q (.exit .ret) [] ⟨fr [(4,(aB false))],hp ([]),0⟩ μ)
  (C1:o=X6m.x1->X2 Tryz.prog 165 0 Q (.exit (.exit 0)) [] ⟨fr [(2,(AV.ptr 0 0 0)),(3,(AV.ptr 1 0 0))],hp ([(0,Ob [(X9 false Xn)] 9),(1,Ob [(X9 false Xi)] 9)]),2⟩ μ),
  X2 Tryz.prog 165 0 Q (.loop (X48 0 (Xa Tryz.f23))) [] ⟨fr [(2,(AV.ptr 0 0 0)),(3,(AV.ptr 1 0 0)),(5,(aI .i64 Xiy))],hp ([(0,Ob [(X9 false Xn)] 9),(1,Ob [(X9 false Xi)] 9)]),2⟩ μ:=by
 intro n
 induction n with
 |zero=>intro Xiy o h C0 C1;cases h
 |succ n ih =>
  intro Xiy o h C0 C1;rw[X46] at h;refine X2.round ?_;revert h;refine brI (λh35=>?_) λh35=>λe=>X7 [.el (aI .i64 (Xn.Marks.length:Int)),Bf] (k:=wkT [] (C1  (oj e).symm));refine bI λe36 h37=>?_;try have qh37:=Xo h37
  refine bI λe38 h39=>?_;try have qh39:=Xo h39
  refine brI (λh40=>λe=>X7 [.el (aI .i64 (Xn.Marks.length:Int)),Bt,.el (aI .i64 e36),.el (aI .i64 e38),Bt] (k:=wkT [] (C0  (oj e).symm))) λh40=>rnI [.el (aI .i64 (Xn.Marks.length:Int)),Bt,.el (aI .i64 e36),.el (aI .i64 e38),Bf,.wrap] ?_;intro h;exact wkT [] (ih  _ o h C0 C1)
theorem Xgk {Q:Xx->St->Mu->Prop} {μ:Mu} (X8s:Xp) (Xg6:Xp):∀ (n:Nat) (Xvm:Int) (o:X6l) (h:X45 X8s Xg6 n Xvm=some o)
  (C0:o=X6l.x0->X2 Tryz.prog 165 0 Q (.exit .ret) [] ⟨fr [(4,(aB false))],hp ([]),0⟩ μ)
  (C1:o=X6l.x1->X2 Tryz.prog 165 0 Q (.exit (.exit 2)) [] ⟨fr [(2,(AV.ptr 0 0 0)),(3,(AV.ptr 1 0 0))],hp ([(0,Ob [(X9 false X8s)] 9),(1,Ob [(X9 false Xg6)] 9)]),2⟩ μ),
  X2 Tryz.prog 165 0 Q (.loop (X48 1 (Xa Tryz.f23))) [] ⟨fr [(2,(AV.ptr 0 0 0)),(3,(AV.ptr 1 0 0)),(6,(aI .i64 Xvm))],hp ([(0,Ob [(X9 false X8s)] 9),(1,Ob [(X9 false Xg6)] 9)]),2⟩ μ:=by
 intro n
 induction n with
 |zero=>intro Xvm o h C0 C1;cases h
 |succ n ih =>
  intro Xvm o h C0 C1;rw[X45] at h;refine X2.round ?_;revert h;refine brI (λh56=>?_) λh56=>λe=>X7 [.el (aI .i64 (X8s.Store.length:Int)),Bf] (k:=wkT [] (C1  (oj e).symm));refine bI λe57 h58=>?_;try have qh58:=Xo h58
  refine bI λe59 h60=>?_;try have qh60:=Xo h60
  refine brI (λh61=>λe=>X7 [.el (aI .i64 (X8s.Store.length:Int)),Bt,.el (X0 e57),.el (X0 e59),Bt] (k:=wkT [] (C0  (oj e).symm))) λh61=>rnI [.el (aI .i64 (X8s.Store.length:Int)),Bt,.el (X0 e57),.el (X0 e59),Bf,.wrap] ?_;intro h;exact wkT [] (ih  _ o h C0 C1)
theorem Xgj {Q:Xx->St->Mu->Prop} {μ:Mu} (Xbs:Xp) (Xqb:Xp):∀ (n:Nat) (Xlo:Int) (o:X6k) (h:X44 Xbs Xqb n Xlo=some o)
  (C0:o=X6k.x0->X2 Tryz.prog 165 0 Q (.exit .ret) [] ⟨fr [(4,(aB false))],hp ([]),0⟩ μ)
  (C1:o=X6k.x1->X2 Tryz.prog 165 0 Q (.exit (.exit 4)) [] ⟨fr [(2,(AV.ptr 0 0 0)),(3,(AV.ptr 1 0 0))],hp ([(0,Ob [(X9 false Xbs)] 9),(1,Ob [(X9 false Xqb)] 9)]),2⟩ μ),
  X2 Tryz.prog 165 0 Q (.loop (X48 2 (Xa Tryz.f23))) [] ⟨fr [(2,(AV.ptr 0 0 0)),(3,(AV.ptr 1 0 0)),(7,(aI .i64 Xlo))],hp ([(0,Ob [(X9 false Xbs)] 9),(1,Ob [(X9 false Xqb)] 9)]),2⟩ μ:=by
 intro n
 induction n with
 |zero=>intro Xlo o h C0 C1;cases h
 |succ n ih =>
  intro Xlo o h C0 C1;rw[X44] at h;refine X2.round ?_;revert h;refine brI (λh77=>?_) λh77=>λe=>X7 [.el (aI .i64 (Xbs.Events.length:Int)),Bf] (k:=wkT [] (C1  (oj e).symm));refine bI λe78 h79=>?_;try have qh79:=Xo h79
  refine bI λe80 h81=>?_;try have qh81:=Xo h81
  refine brI (λh82=>λe=>X7 [.el (aI .i64 (Xbs.Events.length:Int)),Bt,.el (X00 e78),.el (X00 e80),Bt] (k:=wkT [] (C0  (oj e).symm))) λh82=>rnI [.el (aI .i64 (Xbs.Events.length:Int)),Bt,.el (X00 e78),.el (X00 e80),Bf,.wrap] ?_;intro h;exact wkT [] (ih  _ o h C0 C1)
theorem Xgi {Q:Xx->St->Mu->Prop} {μ:Mu} (Xbq:Xp) (Xqa:Xp):∀ (n:Nat) (Xvl:Int) (o:X6j) (h:X43 Xbq Xqa n Xvl=some o)
  (C0:o=X6j.x0->X2 Tryz.prog 165 0 Q (.exit .ret) [] ⟨fr [(4,(aB false))],hp ([]),0⟩ μ)
  (C1:o=X6j.x1->X2 Tryz.prog 165 0 Q (.exit (.exit 6)) [] ⟨fr [(2,(AV.ptr 0 0 0)),(3,(AV.ptr 1 0 0))],hp ([(0,Ob [(X9 false Xbq)] 9),(1,Ob [(X9 false Xqa)] 9)]),2⟩ μ),
  X2 Tryz.prog 165 0 Q (.loop (X48 3 (Xa Tryz.f23))) [] ⟨fr [(2,(AV.ptr 0 0 0)),(3,(AV.ptr 1 0 0)),(8,(aI .i64 Xvl))],hp ([(0,Ob [(X9 false Xbq)] 9),(1,Ob [(X9 false Xqa)] 9)]),2⟩ μ:=by
 intro n
 induction n with
 |zero=>intro Xvl o h C0 C1;cases h
 |succ n ih =>
  intro Xvl o h C0 C1;rw[X43] at h;refine X2.round ?_;revert h;refine brI (λh98=>?_) λh98=>λe=>X7 [.el (aI .i64 (Xbq.Rows.length:Int)),Bf] (k:=wkT [] (C1  (oj e).symm));refine bI λe99 h100=>?_;try have qh100:=Xo h100
  refine bI λe101 h102=>?_;try have qh102:=Xo h102
  refine brI (λh103=>λe=>X7 [.el (aI .i64 (Xbq.Rows.length:Int)),Bt,.el (Xt e99),.el (Xt e101),Bt] (k:=wkT [] (C0  (oj e).symm))) λh103=>rnI [.el (aI .i64 (Xbq.Rows.length:Int)),Bt,.el (Xt e99),.el (Xt e101),Bf,.wrap] ?_;intro h;exact wkT [] (ih  _ o h C0 C1)
theorem Xgh {Q:Xx->St->Mu->Prop} {μ:Mu} (Xbi:Xp) (Xry:Xp):∀ (n:Nat) (Xvk:Int) (o:X6i) (h:X42 Xbi Xry n Xvk=some o)
  (C0:o=X6i.x0->X2 Tryz.prog 165 0 Q (.exit .ret) [] ⟨fr [(4,(aB false))],hp ([]),0⟩ μ)
  (C1:o=X6i.x1->X2 Tryz.prog 165 0 Q (.exit (.exit 8)) [] ⟨fr [],hp ([]),0⟩ μ),
  X2 Tryz.prog 165 0 Q (.loop (X48 4 (Xa Tryz.f23))) [] ⟨fr [(2,(AV.ptr 0 0 0)),(3,(AV.ptr 1 0 0)),(9,(aI .i64 Xvk))],hp ([(0,Ob [(X9 false Xbi)] 9),(1,Ob [(X9 false Xry)] 9)]),2⟩ μ:=by
 intro n
 induction n with
 |zero=>intro Xvk o h C0 C1;cases h
 |succ n ih =>
  intro Xvk o h C0 C1;rw[X42] at h;refine X2.round ?_;revert h;refine brI (λh119=>?_) λh119=>λe=>X7 [.el (aI .i64 (Xbi.Late.length:Int)),Bf] (k:=wkT [] (C1  (oj e).symm));refine bI λe120 h121=>?_;try have qh121:=Xo h121
  refine bI λe122 h123=>?_;try have qh123:=Xo h123
  refine brI (λh124=>λe=>X7 [.el (aI .i64 (Xbi.Late.length:Int)),Bt,.el (Xm e120),.el (Xm e122),Bt] (k:=wkT [] (C0  (oj e).symm))) λh124=>rnI [.el (aI .i64 (Xbi.Late.length:Int)),Bt,.el (Xm e120),.el (Xm e122),Bf,.wrap] ?_;intro h;exact wkT [] (ih  _ o h C0 C1)
instance Xw2:PCs Tryz.prog 23 (∀ (a0:Xp) (a1:Xp) (r:Bool),Xah a0 a1=some r->X0i Tryz.prog 23 [(X9 false a0),(X9 false a1)] (aB r)):=⟨λa0 a1 r h=>by
 refine X0i.sym X3 fn23 (nt:=165) rfl rfl ?_ okM;unfold Xah at h;revert h;refine bI λXto h20=>rnI [.stop 1] ?_;intro h;refine X2.join (s':=⟨fr [(2,(AV.ptr 0 0 0)),(3,(AV.ptr 1 0 0)),(74,(aB Xto))],hp ([(0,Ob [(X9 false a0)] 9),(1,Ob [(X9 false a1)] 9)]),2⟩) ?_ (λJ=>X2.cut ?_)
 ·
  revert h;refine brI (λh21=>λe=>oj e▸X7 [Bt] (k:=fi)) λh21=>bI λo41 h42=>rnI [Bf] ?_;intro h;refine wkT [] (X2.cut (Xgl a0 a1 _ _ _ h42 ?_ ?_))
  ·
   intro eo41;subst eo41;refine X2.glue ?_;try dsimp only at h
   revert h;exact λe=>oj e▸X7 [] (k:=fi)
  intro eo41;subst eo41;refine X2.glue ?_;try dsimp only at h
  revert h;refine bI λo62 h63=>rnI [] ?_;intro h;refine wkT [] (X2.cut (Xgk a0 a1 _ _ _ h63 ?_ ?_))
  ·
   intro eo62;subst eo62;refine X2.glue ?_;try dsimp only at h
   revert h;exact λe=>oj e▸X7 [] (k:=fi)
  intro eo62;subst eo62;refine X2.glue ?_;try dsimp only at h
  revert h;refine bI λo83 h84=>rnI [] ?_;intro h;refine wkT [] (X2.cut (Xgj a0 a1 _ _ _ h84 ?_ ?_))
  ·
   intro eo83;subst eo83;refine X2.glue ?_;try dsimp only at h
   revert h;exact λe=>oj e▸X7 [] (k:=fi)
  intro eo83;subst eo83;refine X2.glue ?_;try dsimp only at h
  revert h;refine bI λo104 h105=>rnI [] ?_;intro h;refine wkT [] (X2.cut (Xgi a0 a1 _ _ _ h105 ?_ ?_))
  ·
   intro eo104;subst eo104;refine X2.glue ?_;try dsimp only at h
   revert h;exact λe=>oj e▸X7 [] (k:=fi)
  intro eo104;subst eo104;refine X2.glue ?_;try dsimp only at h
  revert h;refine bI λo125 h126=>rnI [] ?_;intro h;refine wkT [] (X2.cut (Xgh a0 a1 _ _ _ h126 ?_ ?_))
  ·
   intro eo125;subst eo125;refine X2.glue ?_;try dsimp only at h
   revert h;exact λe=>oj e▸X7 [] (k:=fi)
  intro eo125;subst eo125;refine X2.glue ?_;try dsimp only at h
  revert h;exact λe=>oj e▸X7 [] (k:=fi)
 clear h;revert h20;refine brI (λh11=>?_) λh11=>?_
 ·
  intro h;obtain rfl:=oj h;exact X7 [Gf,Gf,Gf,Gf,Gf,Gf,Gf,Gf,Gf,Gf,Gf,Gf,Gf,Gf,Gf,Gf,Gf,Gf,Gf,Gf,Gf,Gf,Gf,Gf,Gf,Gf,Gf,Gf,Gf,Gf,Gf,Gf,Gf,Gf,Gf,Gf,Gf,Gf,Gf,Gf,Gf,Gf,Gf,Gf,Gf,Gf] (o:=by repeat' first|apply Ya|exact pcM|exact fq (Xg h11 rfl)|exact fq (Xg (Xg h11 rfl) rfl)|exact fq (Xg (Xg (Xg h11 rfl) rfl) rfl)|exact fq (Xg (Xg (Xg (Xg h11 rfl) rfl) rfl) rfl)|exact fq (Xg (Xg (Xg (Xg (Xg h11 rfl) rfl) rfl) rfl) rfl)|exact fq (Xg (Xg (Xg (Xg (Xg (Xg h11 rfl) rfl) rfl) rfl) rfl) rfl)|exact Xz) (k:=wkT [] (X2.glue J))
 refine brI (λh12=>?_) λh12=>?_
 ·
  intro h;obtain rfl:=oj h;exact X7 [Gt,Gt,Gt,Gt,Gt,Gf,Gf,Gf,Gf,Gf,Gf,Gf,Gf,Gf,Gf,Gf,Gf,Gf,Gf,Gf,Gf,Gf,Gf,Gf,Gf,Gf,Gf,Gf,Gf,Gf,Gf,Gf,Gf,Gf,Gf,Gf,Gf,Gf,Gf,Gf,Gf,Gf,Gf,Gf,Gf,Gf] (o:=by repeat' first|apply Ya|exact pcM|exact fq (Xr h11 h12)|exact fq (Xg (Xr h11 h12) rfl)|exact fq (Xg (Xg (Xr h11 h12) rfl) rfl)|exact fq (Xg (Xg (Xg (Xr h11 h12) rfl) rfl) rfl)|exact fq (Xg (Xg (Xg (Xg (Xr h11 h12) rfl) rfl) rfl) rfl)|exact fq (Xg (Xg (Xg (Xg (Xg (Xr h11 h12) rfl) rfl) rfl) rfl) rfl)|exact Xz) (k:=wkT [] (X2.glue J))
 refine bI λv13 h14=>brI (λh15=>?_) λh15=>?_
 ·
  intro h;obtain rfl:=oj h;exact X7 [Gt,Gt,Gt,Gt,Gt,Gt,Gt,Gt,Gt,Gt,X28.pure _ (aB v13),Gt,Gf,Gf,Gf,Gf,Gf,Gf,Gf,Gf,Gf,Gf,Gf,Gf,Gf,Gf,Gf,Gf,Gf,Gf,Gf,Gf,Gf,Gf,Gf,Gf,Gf,Gf,Gf,Gf,Gf,Gf,Gf,Gf,Gf,Gf,Gf] (o:=by repeat' first|apply Ya|exact pcM|exact fq (Xr h11 h12)|exact fq (Xr (Xr h11 h12) h15)|exact fq (Xg (Xr (Xr h11 h12) h15) rfl)|exact fq (Xg (Xg (Xr (Xr h11 h12) h15) rfl) rfl)|exact fq (Xg (Xg (Xg (Xr (Xr h11 h12) h15) rfl) rfl) rfl)|exact fq (Xg (Xg (Xg (Xg (Xr (Xr h11 h12) h15) rfl) rfl) rfl) rfl)|exact Xz) (k:=wkT [] (X2.glue J))
 refine rnI [Gt,Gt,Gt,Gt,Gt,Gt,Gt,Gt,Gt,Gt,.pure _ (aB v13),Gt,Gt,Gt,Gt,.el (aI .i64 (a0.Marks.length:Int)),Gt,Gt,Gt,.el (aI .i64 (a1.Marks.length:Int)),Gt,.stop 999999] (o:=by repeat' first|apply Ya|exact pcM|exact fq (Xr h11 h12)|exact fq (Xr (Xr h11 h12) h15)|exact Xz) ?_;refine brI (λh16=>?_) λh16=>?_
 ·
  intro h;obtain rfl:=oj h;exact X7 [Gf,Gf,Gf,Gf,Gf,Gf,Gf,Gf,Gf,Gf,Gf,Gf,Gf,Gf,Gf,Gf,Gf,Gf,Gf,Gf,Gf,Gf,Gf,Gf,Gf,Gf,Gf,Gf] (o:=by repeat' first|apply Ya|exact pcM|exact fq (Xr (Xr (Xr h11 h12) h15) h16)|exact fq (Xg (Xr (Xr (Xr h11 h12) h15) h16) rfl)|exact fq (Xg (Xg (Xr (Xr (Xr h11 h12) h15) h16) rfl) rfl)|exact fq (Xg (Xg (Xg (Xr (Xr (Xr h11 h12) h15) h16) rfl) rfl) rfl)|exact Xz) (k:=wkT [] (X2.glue J))
 refine rnI [Gt,Gt,Gt,.el (aI .i64 (a0.Store.length:Int)),Gt,Gt,Gt,.el (aI .i64 (a1.Store.length:Int)),Gt,.stop 999999] (o:=by repeat' first|apply Ya|exact pcM|exact fq (Xr (Xr (Xr h11 h12) h15) h16)|exact Xz) ?_;refine brI (λh17=>?_) λh17=>?_
 ·
  intro h;obtain rfl:=oj h;exact X7 [Gf,Gf,Gf,Gf,Gf,Gf,Gf,Gf,Gf,Gf,Gf,Gf,Gf,Gf,Gf,Gf,Gf,Gf,Gf,Gf,Gf] (o:=by repeat' first|apply Ya|exact pcM|exact fq (Xr (Xr (Xr (Xr h11 h12) h15) h16) h17)|exact fq (Xg (Xr (Xr (Xr (Xr h11 h12) h15) h16) h17) rfl)|exact fq (Xg (Xg (Xr (Xr (Xr (Xr h11 h12) h15) h16) h17) rfl) rfl)|exact Xz) (k:=wkT [] (X2.glue J))
 refine rnI [Gt,Gt,Gt,.el (aI .i64 (a0.Events.length:Int)),Gt,Gt,Gt,.el (aI .i64 (a1.Events.length:Int)),Gt,.stop 999999] (o:=by repeat' first|apply Ya|exact pcM|exact fq (Xr (Xr (Xr (Xr h11 h12) h15) h16) h17)|exact Xz) ?_;refine brI (λh18=>?_) λh18=>?_
 ·
  intro h;obtain rfl:=oj h;exact X7 [Gf,Gf,Gf,Gf,Gf,Gf,Gf,Gf,Gf,Gf,Gf,Gf,Gf,Gf] (o:=by repeat' first|apply Ya|exact pcM|exact fq (Xr (Xr (Xr (Xr (Xr h11 h12) h15) h16) h17) h18)|exact fq (Xg (Xr (Xr (Xr (Xr (Xr h11 h12) h15) h16) h17) h18) rfl)|exact Xz) (k:=wkT [] (X2.glue J))
 refine rnI [Gt,Gt,Gt,.el (aI .i64 (a0.Rows.length:Int)),Gt,Gt,Gt,.el (aI .i64 (a1.Rows.length:Int)),Gt,.stop 999999] (o:=by repeat' first|apply Ya|exact pcM|exact fq (Xr (Xr (Xr (Xr (Xr h11 h12) h15) h16) h17) h18)|exact Xz) ?_;refine brI (λh19=>?_) λh19=>?_
 ·
  intro h;obtain rfl:=oj h;exact X7 [Gf,Gf,Gf,Gf,Gf,Gf,Gf] (o:=by repeat' first|apply Ya|exact pcM|exact fq (Xr (Xr (Xr (Xr (Xr (Xr h11 h12) h15) h16) h17) h18) h19)|exact Xz) (k:=wkT [] (X2.glue J))
 intro h;obtain rfl:=oj h;exact X7 [Gt,Gt,Gt,.el (aI .i64 (a0.Late.length:Int)),Gt,Gt,Gt,.el (aI .i64 (a1.Late.length:Int)),Gt] (o:=by repeat' first|apply Ya|exact pcM|exact fq (Xr (Xr (Xr (Xr (Xr (Xr h11 h12) h15) h16) h17) h18) h19)|exact Xz) (k:=wkT [] (X2.glue J))⟩
theorem Xd3 {Q:Xx->St->Mu->Prop} {μ:Mu} (X7w:(List X8)) (Xjn:Int) (Xn:X08) (y0_7:Bool) (hl:X7w.length<=140737488355328):∀ (xs:List X8) (k:Nat) (hx:X7w.drop k=xs) (Xi:(List Xd)) (X6c:(List Xd)) (X0c:(List Int)) (Xq:Nb Xi) (Xb6:Nb X6c) (X0t:Nb X0c) (o:X4a) (h:X1j X7w Xjn Xn y0_7 xs k Xi X6c X0c=some o)
  (C0:∀ (X09:(List Xd)) (X35:(List Xd)) (X1p:(List Int)) (X0p:Nb X09) (X59:Nb X35) (X1u:Nb X1p),o=X4a.x0 X09 X35 X1p->X2 Tryz.prog 126 0 Q (.exit (.exit 0)) [] ⟨fr [(2,(aI .i64 Xjn)),(3,(AV.ptr 0 0 0)),(7,(aB y0_7)),(8,(slE X0p.1 1 (X09.map Xl))),(9,(slE X59.1 2 (X35.map Xl))),(10,(slE X1u.1 3 (List.map (aI .i64) X1p)))],hp ([(0,Ob [(X06 false Xn)] 10)]++opE X0p.1 1 10 (X09.map Xl)++opE X59.1 2 10 (X35.map Xl)++opE X1u.1 3 1 (List.map (aI .i64) X1p)),4⟩ μ)
  (C1:o=X4a.x1->X2 Tryz.prog 126 0 Q (.exit .ret) [] ⟨fr [(6,(aB y0_7))],hp ([]),0⟩ μ),
  X2 Tryz.prog 126 0 Q (.loop (X48 0 (Xa Tryz.f5))) [] ⟨fr [(1,(Lf (X7w.map Xm))),(2,(aI .i64 Xjn)),(3,(AV.ptr 0 0 0)),(7,(aB y0_7)),(8,(slE Xq.1 1 (Xi.map Xl))),(9,(slE Xb6.1 2 (X6c.map Xl))),(10,(slE X0t.1 3 (List.map (aI .i64) X0c))),(11,(aI .i64 (k:Int)))],hp ([(0,Ob [(X06 false Xn)] 10)]++opE Xq.1 1 10 (Xi.map Xl)++opE Xb6.1 2 10 (X6c.map Xl)++opE X0t.1 3 1 (List.map (aI .i64) X0c)),4⟩ μ:=by
 intro xs
 induction xs with
 |nil =>
  intro k hx Xi X6c X0c Xq Xb6 X0t o h C0 C1;have hk:=drop_nil hx;have hc:decide ((k:Int)<(X7w.length:Int))=false:=Yf om;rw[X1j] at h;rcases Xq with ⟨_|_,X0f⟩
  ·
   rcases Xb6 with ⟨_|_,Xe9⟩
   ·
    rcases X0t with ⟨_|_,X2h⟩
    ·
     refine X2.round ?_;revert h;exact λe=>X7 [.el (aI .i64 (X7w.length:Int)),Bf] (k:=wkT [] (C0 _ _ _  nbF nbF nbF (oj e).symm))
    obtain rfl:=X2h rfl;refine X2.round ?_;revert h;exact λe=>X7 [.el (aI .i64 (X7w.length:Int)),Bf] (k:=wkT [] (C0 _ _ _  nbF nbF nbS (oj e).symm))
   obtain rfl:=Xe9 rfl;rcases X0t with ⟨_|_,X2h⟩
   ·
    refine X2.round ?_;revert h;exact λe=>X7 [.el (aI .i64 (X7w.length:Int)),Bf] (k:=wkT [] (C0 _ _ _  nbF nbS nbF (oj e).symm))
   obtain rfl:=X2h rfl;refine X2.round ?_;revert h;exact λe=>X7 [.el (aI .i64 (X7w.length:Int)),Bf] (k:=wkT [] (C0 _ _ _  nbF nbS nbS (oj e).symm))
  ·
   obtain rfl:=X0f rfl;rcases Xb6 with ⟨_|_,Xe9⟩
   ·
    rcases X0t with ⟨_|_,X2h⟩
    ·
     refine X2.round ?_;revert h;exact λe=>X7 [.el (aI .i64 (X7w.length:Int)),Bf] (k:=wkT [] (C0 _ _ _  nbS nbF nbF (oj e).symm))
    ·
     obtain rfl:=X2h rfl;refine X2.round ?_;revert h;exact λe=>X7 [.el (aI .i64 (X7w.length:Int)),Bf] (k:=wkT [] (C0 _ _ _  nbS nbF nbS (oj e).symm))
   ·
    obtain rfl:=Xe9 rfl;rcases X0t with ⟨_|_,X2h⟩
    ·
     refine X2.round ?_;revert h;exact λe=>X7 [.el (aI .i64 (X7w.length:Int)),Bf] (k:=wkT [] (C0 _ _ _  nbS nbS nbF (oj e).symm))
    ·
     obtain rfl:=X2h rfl;refine X2.round ?_;revert h;exact λe=>X7 [.el (aI .i64 (X7w.length:Int)),Bf] (k:=wkT [] (C0 _ _ _  nbS nbS nbS (oj e).symm))
 |cons x xs ih =>
  intro k hx Xi X6c X0c Xq Xb6 X0t o h C0 C1;obtain⟨hk,hg,hx1⟩:=X12 hx;have hc:decide ((k:Int)<(X7w.length:Int))=true:=Yt om;rw[X1j] at h;rcases Xq with ⟨_|_,X0f⟩<;>(try obtain rfl:=X0f rfl);all_goals
   rcases Xb6 with ⟨_|_,Xe9⟩<;>(try obtain rfl:=Xe9 rfl);all_goals
    rcases X0t with ⟨_|_,X2h⟩<;>(try obtain rfl:=X2h rfl);all_goals
     refine X2.round ?_;revert h;refine bI λv207 h208=>brI (λh209=>λe=>X7 [.el (aI .i64 (X7w.length:Int)),Bt,.el (Xm x),.pure _ (aB v207),Bt] (k:=wkT [] (C1  (oj e).symm))) λh209=>bI λu210 h211=>bI λe212 h213=>?_;try have qh213:=Xo h213
     refine bI λu214 h215=>bI λu216 h217=>rnI [.el (aI .i64 (X7w.length:Int)),Bt,.el (Xm x),.pure _ (aB v207),Bf,.el (Xm x),.no,.el (aI .i64 (X7w.length:Int)),.wrap,.wrap,.el (Xm e212),.no,.no] (o:=by repeat' first|apply Ya|exact pcM|(refine X02 h211 rfl ?_;first|(simp<;>omega)|(simp[hc,h209]<;>omega))|(refine Xk h211 (by decide) ?_;first|(simp<;>omega)|(simp[hc,h209]<;>omega))|(refine X02 h215 rfl ?_;first|(simp<;>omega)|(simp[hc,h209]<;>omega))|(refine Xk h215 (by decide) ?_;first|(simp<;>omega)|(simp[hc,h209]<;>omega))|(refine X02 h217 rfl ?_;first|(simp<;>omega)|(simp[hc,h209]<;>omega))|(refine Xk h217 (by decide) ?_;first|(simp<;>omega)|(simp[hc,h209]<;>omega))|exact Xz) ?_;intro h;exact wkT [(1,5),(2,7),(3,9)] (ih (k+1) hx1 _ _ _ nbF nbF nbF o h C0 C1)
end Go.Av.Tryz