/- Printed by decomp.py: that the program computes the functions. -/
import Derived.Test.YtmkegegjcihooaaGreatDCert15Z
set_option linter.all false

namespace Go.Av.Tryz
open Go.Proofs Go.D
set_option maxRecDepth 100000
set_option maxHeartbeats 40000000
theorem Xio {Q:Xp->St->Mu->Prop} {μ:Mu} (X09:Xf) (Xb6:Int):∀ (n:Nat) (y1_3:Int) (Xjo:Int) (o:Xan) (h:X5p X09 Xb6 n y1_3 Xjo=some o)
  (C0:∀ (Xns:Int),o=Xan.x0 Xns->X0 Tryz.prog 50 0 Q (.exit (.exit 2)) [] ⟨fr [(1,(AV.ptr 0 0 0)),(3,(aI .i64 Xns)),(4,(aI .i64 Xb6))],hp ([(0,Ob [(Xc false X09)] 14)]),1⟩ μ),
  X0 Tryz.prog 50 0 Q (.loop (X0w 1 (Xd Tryz.f44))) [] ⟨fr [(1,(AV.ptr 0 0 0)),(3,(aI .i64 y1_3)),(4,(aI .i64 Xb6)),(6,(aI .i64 Xjo))],hp ([(0,Ob [(Xc false X09)] 14)]),1⟩ μ:=by
 intro n
 induction n with
 |zero=>intro y1_3 Xjo o h C0;cases h
 |succ n ih =>
  intro y1_3 Xjo o h C0;rw[X5p] at h;refine X0.round ?_;revert h;refine bI λe61 h62=>?_;try have qh62:=Xi h62
  refine brI (λh63=>?_) λh63=>λe=>X3 [.el (Xa false e61),.el (aI .i64 (e61.Marks.length:Int)),Bf] (k:=wkT [] (C0 _  (oj e).symm));refine bI λe64 h65=>?_;try have qh65:=Xi h65
  refine rnI [.el (Xa false e61),.el (aI .i64 (e61.Marks.length:Int)),Bt,.el (Xa false e61),.el (aI .i64 e64),.wrap] ?_;intro h;exact wkT [] (ih  _ _ o h C0)
theorem Xip {Q:Xp->St->Mu->Prop} {μ:Mu} (Xe:Xf):∀ (n:Nat) (X6v:Int) (Xgp:Int) (o:Xao) (h:X42 Xe n X6v Xgp=some o)
  (C0:∀ (Xnv:Int),o=Xao.x0 Xnv->X0 Tryz.prog 50 0 Q (.exit (.exit 0)) [] ⟨fr [(3,(aI .i64 Xnv))],hp ([]),0⟩ μ),
  X0 Tryz.prog 50 0 Q (.loop (X0w 0 (Xd Tryz.f44))) [] ⟨fr [(1,(AV.ptr 0 0 0)),(3,(aI .i64 X6v)),(4,(aI .i64 Xgp))],hp ([(0,Ob [(Xc false Xe)] 14)]),1⟩ μ:=by
 intro n
 induction n with
 |zero=>intro X6v Xgp o h C0;cases h
 |succ n ih =>
  intro X6v Xgp o h C0;rw[X42] at h;refine X0.round ?_;revert h;refine brI (λh46=>?_) λh46=>λe=>X3 [.el (aI .i64 (Xe.Tasks.length:Int)),Bf] (k:=wkT [] (C0 _  (oj e).symm));refine bI λe47 h48=>?_;try have qh48:=Xi h48
  refine brI (λh49=>?_) λh49=>?_
  ·
   refine rnI [.el (aI .i64 (Xe.Tasks.length:Int)),Bt,.el (Xa false e47),Bt,.wrap] ?_;intro h;exact wkT [] (ih  _ _ o h C0)
  refine bI λo66 h67=>rnI [.el (aI .i64 (Xe.Tasks.length:Int)),Bt,.el (Xa false e47),Bf] ?_;intro h;refine wkT [] (X0.cut (Xio Xe Xgp _ _ _ _ h67 ?_));intro Xns eo66;subst eo66;refine X0.glue ?_;try dsimp only at h
  exact X3 [.wrap] (k:=wkT [] (ih  _ _ o h C0))
instance X012:PCs Tryz.prog 44 (∀ (a0:Xf) (r:Int),Xe8 a0=some r->X05 Tryz.prog 44 [(Xc false a0)] (aI .i64 r)):=⟨λa0 r h=>by
 refine X05.sym X9 fn44 (nt:=50) rfl rfl ?_ okM;unfold Xe8 at h;revert h;refine bI λo68 h69=>rnI [] ?_;intro h;refine wkT [] (X0.cut (Xip a0 _ _ _ _ h69 ?_));intro Xnv eo68;subst eo68;refine X0.glue ?_;try dsimp only at h
 revert h;exact λe=>oj e▸X3 [] (k:=fi)⟩
instance X02r:PCs Tryz.prog 16 (∀ (a0:Xf) (r:Int×Int),Xg2 a0=some r->X05 Tryz.prog 16 [(Xc false a0)] (AV.tup [(aI .i64 r.1),(aI .i64 r.2)])):=⟨λa0 r h=>by
 refine X05.sym X9 fn16 (nt:=12) rfl rfl ?_ okM;unfold Xg2 at h;revert h;exact bI λv1 h2=>brI (λh3=>λe=>oj e▸X3 [.pure _ (aI .i64 v1),Bt] (k:=fi)) λh3=>bI λv4 h5=>λe=>oj e▸X3 [.pure _ (aI .i64 v1),Bf,.pure _ (aI .i64 v4)] (k:=fi)⟩
theorem Xkl {Q:Xp->St->Mu->Prop} {μ:Mu} (X08:(List Xg)) (X4w:(List Xg)) (hl:X08.length<=140737488355328):∀ (xs:List Xg) (k:Nat) (hx:X08.drop k=xs) (o:X8x) (h:X59 X08 X4w xs k  = some o)
  (C0:o=X8x.x0->X0 Tryz.prog 26 0 Q (.exit (.exit 0)) [] ⟨fr [],hp ([]),0⟩ μ)
  (C1:o=X8x.x1->X0 Tryz.prog 26 0 Q (.exit .ret) [] ⟨fr [(4,(aB false))],hp ([]),0⟩ μ),
  X0 Tryz.prog 26 0 Q (.loop (X0w 0 (Xd Tryz.f17))) [] ⟨fr [(0,(Lf (X08.map X1))),(1,(Lf (X4w.map X1))),(5,(aI .i64 (k:Int)))],hp ([]),0⟩ μ:=by
 intro xs
 induction xs with
 |nil =>
  intro k hx  o h C0 C1;have hk:=X06 hx;have hc:decide ((k:Int)<(X08.length:Int))=false:=Yf om;rw[X59] at h;refine X0.round ?_;revert h;exact λe=>X3 [.el (aI .i64 (X08.length:Int)),Bf] (k:=wkT [] (C0  (oj e).symm))
 |cons x xs ih =>
  intro k hx  o h C0 C1;obtain⟨hk,hg,hx1⟩:=Xy hx;have hc:decide ((k:Int)<(X08.length:Int))=true:=Yt om;rw[X59] at h;refine X0.round ?_;revert h;refine bI λe11 h12=>?_;try have qh12:=Xi h12
  refine brI (λh13=>λe=>X3 [.el (aI .i64 (X08.length:Int)),Bt,.el (X1 x),.el (X1 e11),Bt] (k:=wkT [] (C1  (oj e).symm))) λh13=>rnI [.el (aI .i64 (X08.length:Int)),Bt,.el (X1 x),.el (X1 e11),Bf] ?_;intro h;exact wkT [] (ih (k+1) hx1  o h C0 C1)
instance X033:PCs Tryz.prog 17 (∀ (a0:(List Xg)) (a1:(List Xg)) (r:Bool),Xdq a0 a1=some r->X05 Tryz.prog 17 [(Lf (a0.map X1)),(Lf (a1.map X1))] (aB r)):=⟨λa0 a1 r h=>by
 refine X05.sym X9 fn17 (nt:=26) rfl rfl ?_ okM;unfold Xdq at h;revert h;refine brI (λh1=>λe=>oj e▸X3 [.el (aI .i64 (a0.length:Int)),.el (aI .i64 (a1.length:Int)),Bt] (k:=fi)) λh1=>bI λu2 h3=>?_;have qh3:=X0l h3;refine bI λo14 h15=>rnI [.el (aI .i64 (a0.length:Int)),.el (aI .i64 (a1.length:Int)),Bf] ?_;intro h;refine wkT [] (X0.cut (Xkl a0 a1 qh3 a0 0 (by simp) _ h15 ?_ ?_))
 ·
  intro eo14;subst eo14;refine X0.glue ?_;try dsimp only at h
  revert h;exact λe=>oj e▸X3 [] (k:=fi)
 intro eo14;subst eo14;refine X0.glue ?_;try dsimp only at h
 revert h;exact λe=>oj e▸X3 [] (k:=fi)⟩
theorem Xgd {Q:Xp->St->Mu->Prop} {μ:Mu} (X08:(List Xo)) (X4w:(List Xo)) (hl:X08.length<=140737488355328):∀ (xs:List Xo) (k:Nat) (hx:X08.drop k=xs) (o:X56) (h:X2j X08 X4w xs k  = some o)
  (C0:o=X56.x0->X0 Tryz.prog 26 0 Q (.exit (.exit 0)) [] ⟨fr [],hp ([]),0⟩ μ)
  (C1:o=X56.x1->X0 Tryz.prog 26 0 Q (.exit .ret) [] ⟨fr [(4,(aB false))],hp ([]),0⟩ μ),
  X0 Tryz.prog 26 0 Q (.loop (X0w 0 (Xd Tryz.f30))) [] ⟨fr [(0,(Lf (X08.map Xw))),(1,(Lf (X4w.map Xw))),(5,(aI .i64 (k:Int)))],hp ([]),0⟩ μ:=by
 intro xs
 induction xs with
 |nil =>
  intro k hx  o h C0 C1;have hk:=X06 hx;have hc:decide ((k:Int)<(X08.length:Int))=false:=Yf om;rw[X2j] at h;refine X0.round ?_;revert h;exact λe=>X3 [.el (aI .i64 (X08.length:Int)),Bf] (k:=wkT [] (C0  (oj e).symm))
 |cons x xs ih =>
  intro k hx  o h C0 C1;obtain⟨hk,hg,hx1⟩:=Xy hx;have hc:decide ((k:Int)<(X08.length:Int))=true:=Yt om;rw[X2j] at h;refine X0.round ?_;revert h;refine bI λe11 h12=>?_;try have qh12:=Xi h12
  refine brI (λh13=>λe=>X3 [.el (aI .i64 (X08.length:Int)),Bt,.el (Xw x),.el (Xw e11),Bt] (k:=wkT [] (C1  (oj e).symm))) λh13=>rnI [.el (aI .i64 (X08.length:Int)),Bt,.el (Xw x),.el (Xw e11),Bf] ?_;intro h;exact wkT [] (ih (k+1) hx1  o h C0 C1)
instance Xv7:PCs Tryz.prog 30 (∀ (a0:(List Xo)) (a1:(List Xo)) (r:Bool),Xa4 a0 a1=some r->X05 Tryz.prog 30 [(Lf (a0.map Xw)),(Lf (a1.map Xw))] (aB r)):=⟨λa0 a1 r h=>by
 refine X05.sym X9 fn30 (nt:=26) rfl rfl ?_ okM;unfold Xa4 at h;revert h;refine brI (λh1=>λe=>oj e▸X3 [.el (aI .i64 (a0.length:Int)),.el (aI .i64 (a1.length:Int)),Bt] (k:=fi)) λh1=>bI λu2 h3=>?_;have qh3:=X0l h3;refine bI λo14 h15=>rnI [.el (aI .i64 (a0.length:Int)),.el (aI .i64 (a1.length:Int)),Bf] ?_;intro h;refine wkT [] (X0.cut (Xgd a0 a1 qh3 a0 0 (by simp) _ h15 ?_ ?_))
 ·
  intro eo14;subst eo14;refine X0.glue ?_;try dsimp only at h
  revert h;exact λe=>oj e▸X3 [] (k:=fi)
 intro eo14;subst eo14;refine X0.glue ?_;try dsimp only at h
 revert h;exact λe=>oj e▸X3 [] (k:=fi)⟩
instance X030:PCs Tryz.prog 29 (∀ (a0:X0e) (a1:X0e) (r:Bool),Xdo a0 a1=some r->X05 Tryz.prog 29 [(Xq false a0),(Xq false a1)] (aB r)):=⟨λa0 a1 r h=>by
 refine X05.sym X9 fn29 (nt:=17) rfl rfl ?_ okM;unfold Xdo at h;revert h;refine bI λj4_4 h8=>rnI [.stop 1] ?_;intro h;refine X0.join (s':=⟨fr [(4,(aB j4_4))],hp ([]),0⟩) ?_ (λJ=>X0.cut ?_)
 ·
  revert h;exact λe=>oj e▸X3 [] (k:=fi)
 clear h;revert h8;refine brI (λh5=>?_) λh5=>?_
 ·
  refine bI λv6 h7=>?_;intro h;obtain rfl:=oj h;exact X3 [Gt,Gt,Gt,Gt,Gt,.pure _ (aB v6)] (k:=wkT [] (X0.glue J))
 intro h;obtain rfl:=oj h;exact X3 [Gf,Gf,Gf,Gf,Gf] (k:=wkT [] (X0.glue J))⟩
theorem Xgu {Q:Xp->St->Mu->Prop} {μ:Mu} (X08:(List X0e)) (X4w:(List X0e)) (hl:X08.length<=140737488355328):∀ (xs:List X0e) (k:Nat) (hx:X08.drop k=xs) (o:X5x) (h:X2v X08 X4w xs k  = some o)
  (C0:o=X5x.x0->X0 Tryz.prog 27 0 Q (.exit (.exit 0)) [] ⟨fr [],hp ([]),0⟩ μ)
  (C1:o=X5x.x1->X0 Tryz.prog 27 0 Q (.exit .ret) [] ⟨fr [(4,(aB false))],hp ([]),0⟩ μ),
  X0 Tryz.prog 27 0 Q (.loop (X0w 0 (Xd Tryz.f45))) [] ⟨fr [(0,(Lf (List.map (Xq false) X08))),(1,(Lf (List.map (Xq false) X4w))),(5,(aI .i64 (k:Int)))],hp ([]),0⟩ μ:=by
 intro xs
 induction xs with
 |nil =>
  intro k hx  o h C0 C1;have hk:=X06 hx;have hc:decide ((k:Int)<(X08.length:Int))=false:=Yf om;rw[X2v] at h;refine X0.round ?_;revert h;exact λe=>X3 [.el (aI .i64 (X08.length:Int)),Bf] (k:=wkT [] (C0  (oj e).symm))
 |cons x xs ih =>
  intro k hx  o h C0 C1;obtain⟨hk,hg,hx1⟩:=Xy hx;have hc:decide ((k:Int)<(X08.length:Int))=true:=Yt om;rw[X2v] at h;refine X0.round ?_;revert h;refine bI λe15 h16=>?_;try have qh16:=Xi h16
  refine bI λv17 h18=>brI (λh19=>λe=>X3 [.el (aI .i64 (X08.length:Int)),Bt,.el (Xq false x),.el (Xq false e15),.pure _ (aB v17),Bt] (k:=wkT [] (C1  (oj e).symm))) λh19=>rnI [.el (aI .i64 (X08.length:Int)),Bt,.el (Xq false x),.el (Xq false e15),.pure _ (aB v17),Bf] ?_;intro h;exact wkT [] (ih (k+1) hx1  o h C0 C1)
instance Xwd:PCs Tryz.prog 45 (∀ (a0:(List X0e)) (a1:(List X0e)) (r:Bool),Xaw a0 a1=some r->X05 Tryz.prog 45 [(Lf (List.map (Xq false) a0)),(Lf (List.map (Xq false) a1))] (aB r)):=⟨λa0 a1 r h=>by
 refine X05.sym X9 fn45 (nt:=27) rfl rfl ?_ okM;unfold Xaw at h;revert h;refine brI (λh1=>λe=>oj e▸X3 [.el (aI .i64 (a0.length:Int)),.el (aI .i64 (a1.length:Int)),Bt] (k:=fi)) λh1=>bI λu2 h3=>?_;have qh3:=X0l h3;refine bI λo20 h21=>rnI [.el (aI .i64 (a0.length:Int)),.el (aI .i64 (a1.length:Int)),Bf] ?_;intro h;refine wkT [] (X0.cut (Xgu a0 a1 qh3 a0 0 (by simp) _ h21 ?_ ?_))
 ·
  intro eo20;subst eo20;refine X0.glue ?_;try dsimp only at h
  revert h;exact λe=>oj e▸X3 [] (k:=fi)
 intro eo20;subst eo20;refine X0.glue ?_;try dsimp only at h
 revert h;exact λe=>oj e▸X3 [] (k:=fi)⟩
theorem Xff {Q:Xp->St->Mu->Prop} {μ:Mu} (X08:(List X3i)) (X4w:(List X3i)) (hl:X08.length<=140737488355328):∀ (xs:List X3i) (k:Nat) (hx:X08.drop k=xs) (o:X4n) (h:X26 X08 X4w xs k  = some o)
  (C0:o=X4n.x0->X0 Tryz.prog 26 0 Q (.exit (.exit 0)) [] ⟨fr [],hp ([]),0⟩ μ)
  (C1:o=X4n.x1->X0 Tryz.prog 26 0 Q (.exit .ret) [] ⟨fr [(4,(aB false))],hp ([]),0⟩ μ),
  X0 Tryz.prog 26 0 Q (.loop (X0w 0 (Xd Tryz.f67))) [] ⟨fr [(0,(Lf (X08.map X0i))),(1,(Lf (X4w.map X0i))),(5,(aI .i64 (k:Int)))],hp ([]),0⟩ μ:=by
 intro xs
 induction xs with
 |nil =>
  intro k hx  o h C0 C1;have hk:=X06 hx;have hc:decide ((k:Int)<(X08.length:Int))=false:=Yf om;rw[X26] at h;refine X0.round ?_;revert h;exact λe=>X3 [.el (aI .i64 (X08.length:Int)),Bf] (k:=wkT [] (C0  (oj e).symm))
 |cons x xs ih =>
  intro k hx  o h C0 C1;obtain⟨hk,hg,hx1⟩:=Xy hx;have hc:decide ((k:Int)<(X08.length:Int))=true:=Yt om;rw[X26] at h;refine X0.round ?_;revert h;refine bI λe11 h12=>?_;try have qh12:=Xi h12
  refine brI (λh13=>λe=>X3 [.el (aI .i64 (X08.length:Int)),Bt,.el (X0i x),.el (X0i e11),Bt] (k:=wkT [] (C1  (oj e).symm))) λh13=>rnI [.el (aI .i64 (X08.length:Int)),Bt,.el (X0i x),.el (X0i e11),Bf] ?_;intro h;exact wkT [] (ih (k+1) hx1  o h C0 C1)
instance Xts:PCs Tryz.prog 67 (∀ (a0:(List X3i)) (a1:(List X3i)) (r:Bool),X66 a0 a1=some r->X05 Tryz.prog 67 [(Lf (a0.map X0i)),(Lf (a1.map X0i))] (aB r)):=⟨λa0 a1 r h=>by
 refine X05.sym X9 fn67 (nt:=26) rfl rfl ?_ okM;unfold X66 at h;revert h;refine brI (λh1=>λe=>oj e▸X3 [.el (aI .i64 (a0.length:Int)),.el (aI .i64 (a1.length:Int)),Bt] (k:=fi)) λh1=>bI λu2 h3=>?_;have qh3:=X0l h3;refine bI λo14 h15=>rnI [.el (aI .i64 (a0.length:Int)),.el (aI .i64 (a1.length:Int)),Bf] ?_;intro h;refine wkT [] (X0.cut (Xff a0 a1 qh3 a0 0 (by simp) _ h15 ?_ ?_))
 ·
  intro eo14;subst eo14;refine X0.glue ?_;try dsimp only at h
  revert h;exact λe=>oj e▸X3 [] (k:=fi)
 intro eo14;subst eo14;refine X0.glue ?_;try dsimp only at h
 revert h;exact λe=>oj e▸X3 [] (k:=fi)⟩
theorem Xkk {Q:Xp->St->Mu->Prop} {μ:Mu} (Xe:Xv) (Xj:Xv):∀ (n:Nat) (X87:Int) (o:X8s) (h:X55 Xe Xj n X87=some o)
  (C0:o=X8s.x0->X0 Tryz.prog 165 0 Q (.exit .ret) [] ⟨fr [(4,(aB false))],hp ([]),0⟩ μ)
  (C1:o=X8s.x1->X0 Tryz.prog 165 0 Q (.exit (.exit 0)) [] ⟨fr [(2,(AV.ptr 0 0 0)),(3,(AV.ptr 1 0 0))],hp ([(0,Ob [(Xa false Xe)] 9),(1,Ob [(Xa false Xj)] 9)]),2⟩ μ),
  X0 Tryz.prog 165 0 Q (.loop (X0w 0 (Xd Tryz.f28))) [] ⟨fr [(2,(AV.ptr 0 0 0)),(3,(AV.ptr 1 0 0)),(5,(aI .i64 X87))],hp ([(0,Ob [(Xa false Xe)] 9),(1,Ob [(Xa false Xj)] 9)]),2⟩ μ:=by
 intro n
 induction n with
 |zero=>intro X87 o h C0 C1;cases h
 |succ n ih =>
  intro X87 o h C0 C1;rw[X55] at h;refine X0.round ?_;revert h;refine brI (λh35=>?_) λh35=>λe=>X3 [.el (aI .i64 (Xe.Marks.length:Int)),Bf] (k:=wkT [] (C1  (oj e).symm));refine bI λe36 h37=>?_;try have qh37:=Xi h37
  refine bI λe38 h39=>?_;try have qh39:=Xi h39
  refine brI (λh40=>λe=>X3 [.el (aI .i64 (Xe.Marks.length:Int)),Bt,.el (aI .i64 e36),.el (aI .i64 e38),Bt] (k:=wkT [] (C0  (oj e).symm))) λh40=>rnI [.el (aI .i64 (Xe.Marks.length:Int)),Bt,.el (aI .i64 e36),.el (aI .i64 e38),Bf,.wrap] ?_;intro h;exact wkT [] (ih  _ o h C0 C1)
theorem Xkj {Q:Xp->St->Mu->Prop} {μ:Mu} (X09:Xv) (X2i:Xv):∀ (n:Nat) (Xjo:Int) (o:X8r) (h:X54 X09 X2i n Xjo=some o)
  (C0:o=X8r.x0->X0 Tryz.prog 165 0 Q (.exit .ret) [] ⟨fr [(4,(aB false))],hp ([]),0⟩ μ)
  (C1:o=X8r.x1->X0 Tryz.prog 165 0 Q (.exit (.exit 2)) [] ⟨fr [(2,(AV.ptr 0 0 0)),(3,(AV.ptr 1 0 0))],hp ([(0,Ob [(Xa false X09)] 9),(1,Ob [(Xa false X2i)] 9)]),2⟩ μ),
  X0 Tryz.prog 165 0 Q (.loop (X0w 1 (Xd Tryz.f28))) [] ⟨fr [(2,(AV.ptr 0 0 0)),(3,(AV.ptr 1 0 0)),(6,(aI .i64 Xjo))],hp ([(0,Ob [(Xa false X09)] 9),(1,Ob [(Xa false X2i)] 9)]),2⟩ μ:=by
 intro n
 induction n with
 |zero=>intro Xjo o h C0 C1;cases h
 |succ n ih =>
  intro Xjo o h C0 C1;rw[X54] at h;refine X0.round ?_;revert h;refine brI (λh56=>?_) λh56=>λe=>X3 [.el (aI .i64 (X09.Store.length:Int)),Bf] (k:=wkT [] (C1  (oj e).symm));refine bI λe57 h58=>?_;try have qh58:=Xi h58
  refine bI λe59 h60=>?_;try have qh60:=Xi h60
  refine brI (λh61=>λe=>X3 [.el (aI .i64 (X09.Store.length:Int)),Bt,.el (X1 e57),.el (X1 e59),Bt] (k:=wkT [] (C0  (oj e).symm))) λh61=>rnI [.el (aI .i64 (X09.Store.length:Int)),Bt,.el (X1 e57),.el (X1 e59),Bf,.wrap] ?_;intro h;exact wkT [] (ih  _ o h C0 C1)
theorem Xki {Q:Xp->St->Mu->Prop} {μ:Mu} (X31:Xv) (Xf6:Xv):∀ (n:Nat) (Xcj:Int) (o:X8q) (h:X53 X31 Xf6 n Xcj=some o)
  (C0:o=X8q.x0->X0 Tryz.prog 165 0 Q (.exit .ret) [] ⟨fr [(4,(aB false))],hp ([]),0⟩ μ)
  (C1:o=X8q.x1->X0 Tryz.prog 165 0 Q (.exit (.exit 4)) [] ⟨fr [(2,(AV.ptr 0 0 0)),(3,(AV.ptr 1 0 0))],hp ([(0,Ob [(Xa false X31)] 9),(1,Ob [(Xa false Xf6)] 9)]),2⟩ μ),
  X0 Tryz.prog 165 0 Q (.loop (X0w 2 (Xd Tryz.f28))) [] ⟨fr [(2,(AV.ptr 0 0 0)),(3,(AV.ptr 1 0 0)),(7,(aI .i64 Xcj))],hp ([(0,Ob [(Xa false X31)] 9),(1,Ob [(Xa false Xf6)] 9)]),2⟩ μ:=by
 intro n
 induction n with
 |zero=>intro Xcj o h C0 C1;cases h
 |succ n ih =>
  intro Xcj o h C0 C1;rw[X53] at h;refine X0.round ?_;revert h;refine brI (λh77=>?_) λh77=>λe=>X3 [.el (aI .i64 (X31.Events.length:Int)),Bf] (k:=wkT [] (C1  (oj e).symm));refine bI λe78 h79=>?_;try have qh79:=Xi h79
  refine bI λe80 h81=>?_;try have qh81:=Xi h81
  refine brI (λh82=>λe=>X3 [.el (aI .i64 (X31.Events.length:Int)),Bt,.el (X0u e78),.el (X0u e80),Bt] (k:=wkT [] (C0  (oj e).symm))) λh82=>rnI [.el (aI .i64 (X31.Events.length:Int)),Bt,.el (X0u e78),.el (X0u e80),Bf,.wrap] ?_;intro h;exact wkT [] (ih  _ o h C0 C1)
theorem Xkh {Q:Xp->St->Mu->Prop} {μ:Mu} (X9i:Xv) (Xus:Xv):∀ (n:Nat) (y3_8:Int) (o:X8p) (h:X52 X9i Xus n y3_8=some o)
  (C0:o=X8p.x0->X0 Tryz.prog 165 0 Q (.exit .ret) [] ⟨fr [(4,(aB false))],hp ([]),0⟩ μ)
  (C1:o=X8p.x1->X0 Tryz.prog 165 0 Q (.exit (.exit 6)) [] ⟨fr [(2,(AV.ptr 0 0 0)),(3,(AV.ptr 1 0 0))],hp ([(0,Ob [(Xa false X9i)] 9),(1,Ob [(Xa false Xus)] 9)]),2⟩ μ),
  X0 Tryz.prog 165 0 Q (.loop (X0w 3 (Xd Tryz.f28))) [] ⟨fr [(2,(AV.ptr 0 0 0)),(3,(AV.ptr 1 0 0)),(8,(aI .i64 y3_8))],hp ([(0,Ob [(Xa false X9i)] 9),(1,Ob [(Xa false Xus)] 9)]),2⟩ μ:=by
 intro n
 induction n with
 |zero=>intro y3_8 o h C0 C1;cases h
 |succ n ih =>
  intro y3_8 o h C0 C1;rw[X52] at h;refine X0.round ?_;revert h;refine brI (λh98=>?_) λh98=>λe=>X3 [.el (aI .i64 (X9i.Rows.length:Int)),Bf] (k:=wkT [] (C1  (oj e).symm));refine bI λe99 h100=>?_;try have qh100:=Xi h100
  refine bI λe101 h102=>?_;try have qh102:=Xi h102
  refine brI (λh103=>λe=>X3 [.el (aI .i64 (X9i.Rows.length:Int)),Bt,.el (X3z e99),.el (X3z e101),Bt] (k:=wkT [] (C0  (oj e).symm))) λh103=>rnI [.el (aI .i64 (X9i.Rows.length:Int)),Bt,.el (X3z e99),.el (X3z e101),Bf,.wrap] ?_;intro h;exact wkT [] (ih  _ o h C0 C1)
theorem Xkg {Q:Xp->St->Mu->Prop} {μ:Mu} (Xex:Xv) (Xws:Xv):∀ (n:Nat) (y4_9:Int) (o:X8o) (h:X51 Xex Xws n y4_9=some o)
  (C0:o=X8o.x0->X0 Tryz.prog 165 0 Q (.exit .ret) [] ⟨fr [(4,(aB false))],hp ([]),0⟩ μ)
  (C1:o=X8o.x1->X0 Tryz.prog 165 0 Q (.exit (.exit 8)) [] ⟨fr [],hp ([]),0⟩ μ),
  X0 Tryz.prog 165 0 Q (.loop (X0w 4 (Xd Tryz.f28))) [] ⟨fr [(2,(AV.ptr 0 0 0)),(3,(AV.ptr 1 0 0)),(9,(aI .i64 y4_9))],hp ([(0,Ob [(Xa false Xex)] 9),(1,Ob [(Xa false Xws)] 9)]),2⟩ μ:=by
 intro n
 induction n with
 |zero=>intro y4_9 o h C0 C1;cases h
 |succ n ih =>
  intro y4_9 o h C0 C1;rw[X51] at h;refine X0.round ?_;revert h;refine brI (λh119=>?_) λh119=>λe=>X3 [.el (aI .i64 (Xex.Late.length:Int)),Bf] (k:=wkT [] (C1  (oj e).symm));refine bI λe120 h121=>?_;try have qh121:=Xi h121
  refine bI λe122 h123=>?_;try have qh123:=Xi h123
  refine brI (λh124=>λe=>X3 [.el (aI .i64 (Xex.Late.length:Int)),Bt,.el (X1b e120),.el (X1b e122),Bt] (k:=wkT [] (C0  (oj e).symm))) λh124=>rnI [.el (aI .i64 (Xex.Late.length:Int)),Bt,.el (X1b e120),.el (X1b e122),Bf,.wrap] ?_;intro h;exact wkT [] (ih  _ o h C0 C1)
instance X02y:PCs Tryz.prog 28 (∀ (a0:Xv) (a1:Xv) (r:Bool),Xdm a0 a1=some r->X05 Tryz.prog 28 [(Xa false a0),(Xa false a1)] (aB r)):=⟨λa0 a1 r h=>by
 refine X05.sym X9 fn28 (nt:=165) rfl rfl ?_ okM;unfold Xdm at h;revert h;refine bI λXzl h20=>rnI [.stop 1] ?_;intro h;refine X0.join (s':=⟨fr [(2,(AV.ptr 0 0 0)),(3,(AV.ptr 1 0 0)),(74,(aB Xzl))],hp ([(0,Ob [(Xa false a0)] 9),(1,Ob [(Xa false a1)] 9)]),2⟩) ?_ (λJ=>X0.cut ?_)
 ·
  revert h;refine brI (λh21=>λe=>oj e▸X3 [Bt] (k:=fi)) λh21=>bI λo41 h42=>rnI [Bf] ?_;intro h;refine wkT [] (X0.cut (Xkk a0 a1 _ _ _ h42 ?_ ?_))
  ·
   intro eo41;subst eo41;refine X0.glue ?_;try dsimp only at h
   revert h;exact λe=>oj e▸X3 [] (k:=fi)
  intro eo41;subst eo41;refine X0.glue ?_;try dsimp only at h
  revert h;refine bI λo62 h63=>rnI [] ?_;intro h;refine wkT [] (X0.cut (Xkj a0 a1 _ _ _ h63 ?_ ?_))
  ·
   intro eo62;subst eo62;refine X0.glue ?_;try dsimp only at h
   revert h;exact λe=>oj e▸X3 [] (k:=fi)
  intro eo62;subst eo62;refine X0.glue ?_;try dsimp only at h
  revert h;refine bI λo83 h84=>rnI [] ?_;intro h;refine wkT [] (X0.cut (Xki a0 a1 _ _ _ h84 ?_ ?_))
  ·
   intro eo83;subst eo83;refine X0.glue ?_;try dsimp only at h
   revert h;exact λe=>oj e▸X3 [] (k:=fi)
  intro eo83;subst eo83;refine X0.glue ?_;try dsimp only at h
  revert h;refine bI λo104 h105=>rnI [] ?_;intro h;refine wkT [] (X0.cut (Xkh a0 a1 _ _ _ h105 ?_ ?_))
  ·
   intro eo104;subst eo104;refine X0.glue ?_;try dsimp only at h
   revert h;exact λe=>oj e▸X3 [] (k:=fi)
  intro eo104;subst eo104;refine X0.glue ?_;try dsimp only at h
  revert h;refine bI λo125 h126=>rnI [] ?_;intro h;refine wkT [] (X0.cut (Xkg a0 a1 _ _ _ h126 ?_ ?_))
  ·
   intro eo125;subst eo125;refine X0.glue ?_;try dsimp only at h
   revert h;exact λe=>oj e▸X3 [] (k:=fi)
  intro eo125;subst eo125;refine X0.glue ?_;try dsimp only at h
  revert h;exact λe=>oj e▸X3 [] (k:=fi)
 clear h;revert h20;refine brI (λh11=>?_) λh11=>?_
 ·
  intro h;obtain rfl:=oj h;exact X3 [Gf,Gf,Gf,Gf,Gf,Gf,Gf,Gf,Gf,Gf,Gf,Gf,Gf,Gf,Gf,Gf,Gf,Gf,Gf,Gf,Gf,Gf,Gf,Gf,Gf,Gf,Gf,Gf,Gf,Gf,Gf,Gf,Gf,Gf,Gf,Gf,Gf,Gf,Gf,Gf,Gf,Gf,Gf,Gf,Gf,Gf] (o:=by repeat' first|apply Ya|exact pcM|exact fq (X6 h11 rfl)|exact fq (X6 (X6 h11 rfl) rfl)|exact fq (X6 (X6 (X6 h11 rfl) rfl) rfl)|exact fq (X6 (X6 (X6 (X6 h11 rfl) rfl) rfl) rfl)|exact fq (X6 (X6 (X6 (X6 (X6 h11 rfl) rfl) rfl) rfl) rfl)|exact fq (X6 (X6 (X6 (X6 (X6 (X6 h11 rfl) rfl) rfl) rfl) rfl) rfl)|exact X04) (k:=wkT [] (X0.glue J))
 refine brI (λh12=>?_) λh12=>?_
 ·
  intro h;obtain rfl:=oj h;exact X3 [Gt,Gt,Gt,Gt,Gt,Gf,Gf,Gf,Gf,Gf,Gf,Gf,Gf,Gf,Gf,Gf,Gf,Gf,Gf,Gf,Gf,Gf,Gf,Gf,Gf,Gf,Gf,Gf,Gf,Gf,Gf,Gf,Gf,Gf,Gf,Gf,Gf,Gf,Gf,Gf,Gf,Gf,Gf,Gf,Gf,Gf] (o:=by repeat' first|apply Ya|exact pcM|exact fq (X5 h11 h12)|exact fq (X6 (X5 h11 h12) rfl)|exact fq (X6 (X6 (X5 h11 h12) rfl) rfl)|exact fq (X6 (X6 (X6 (X5 h11 h12) rfl) rfl) rfl)|exact fq (X6 (X6 (X6 (X6 (X5 h11 h12) rfl) rfl) rfl) rfl)|exact fq (X6 (X6 (X6 (X6 (X6 (X5 h11 h12) rfl) rfl) rfl) rfl) rfl)|exact X04) (k:=wkT [] (X0.glue J))
 refine bI λv13 h14=>brI (λh15=>?_) λh15=>?_
 ·
  intro h;obtain rfl:=oj h;exact X3 [Gt,Gt,Gt,Gt,Gt,Gt,Gt,Gt,Gt,Gt,X21.pure _ (aB v13),Gt,Gf,Gf,Gf,Gf,Gf,Gf,Gf,Gf,Gf,Gf,Gf,Gf,Gf,Gf,Gf,Gf,Gf,Gf,Gf,Gf,Gf,Gf,Gf,Gf,Gf,Gf,Gf,Gf,Gf,Gf,Gf,Gf,Gf,Gf,Gf] (o:=by repeat' first|apply Ya|exact pcM|exact fq (X5 h11 h12)|exact fq (X5 (X5 h11 h12) h15)|exact fq (X6 (X5 (X5 h11 h12) h15) rfl)|exact fq (X6 (X6 (X5 (X5 h11 h12) h15) rfl) rfl)|exact fq (X6 (X6 (X6 (X5 (X5 h11 h12) h15) rfl) rfl) rfl)|exact fq (X6 (X6 (X6 (X6 (X5 (X5 h11 h12) h15) rfl) rfl) rfl) rfl)|exact X04) (k:=wkT [] (X0.glue J))
 refine rnI [Gt,Gt,Gt,Gt,Gt,Gt,Gt,Gt,Gt,Gt,.pure _ (aB v13),Gt,Gt,Gt,Gt,.el (aI .i64 (a0.Marks.length:Int)),Gt,Gt,Gt,.el (aI .i64 (a1.Marks.length:Int)),Gt,.stop 999999] (o:=by repeat' first|apply Ya|exact pcM|exact fq (X5 h11 h12)|exact fq (X5 (X5 h11 h12) h15)|exact X04) ?_;refine brI (λh16=>?_) λh16=>?_
 ·
  intro h;obtain rfl:=oj h;exact X3 [Gf,Gf,Gf,Gf,Gf,Gf,Gf,Gf,Gf,Gf,Gf,Gf,Gf,Gf,Gf,Gf,Gf,Gf,Gf,Gf,Gf,Gf,Gf,Gf,Gf,Gf,Gf,Gf] (o:=by repeat' first|apply Ya|exact pcM|exact fq (X5 (X5 (X5 h11 h12) h15) h16)|exact fq (X6 (X5 (X5 (X5 h11 h12) h15) h16) rfl)|exact fq (X6 (X6 (X5 (X5 (X5 h11 h12) h15) h16) rfl) rfl)|exact fq (X6 (X6 (X6 (X5 (X5 (X5 h11 h12) h15) h16) rfl) rfl) rfl)|exact X04) (k:=wkT [] (X0.glue J))
 refine rnI [Gt,Gt,Gt,.el (aI .i64 (a0.Store.length:Int)),Gt,Gt,Gt,.el (aI .i64 (a1.Store.length:Int)),Gt,.stop 999999] (o:=by repeat' first|apply Ya|exact pcM|exact fq (X5 (X5 (X5 h11 h12) h15) h16)|exact X04) ?_;refine brI (λh17=>?_) λh17=>?_
 ·
  intro h;obtain rfl:=oj h;exact X3 [Gf,Gf,Gf,Gf,Gf,Gf,Gf,Gf,Gf,Gf,Gf,Gf,Gf,Gf,Gf,Gf,Gf,Gf,Gf,Gf,Gf] (o:=by repeat' first|apply Ya|exact pcM|exact fq (X5 (X5 (X5 (X5 h11 h12) h15) h16) h17)|exact fq (X6 (X5 (X5 (X5 (X5 h11 h12) h15) h16) h17) rfl)|exact fq (X6 (X6 (X5 (X5 (X5 (X5 h11 h12) h15) h16) h17) rfl) rfl)|exact X04) (k:=wkT [] (X0.glue J))
 refine rnI [Gt,Gt,Gt,.el (aI .i64 (a0.Events.length:Int)),Gt,Gt,Gt,.el (aI .i64 (a1.Events.length:Int)),Gt,.stop 999999] (o:=by repeat' first|apply Ya|exact pcM|exact fq (X5 (X5 (X5 (X5 h11 h12) h15) h16) h17)|exact X04) ?_;refine brI (λh18=>?_) λh18=>?_
 ·
  intro h;obtain rfl:=oj h;exact X3 [Gf,Gf,Gf,Gf,Gf,Gf,Gf,Gf,Gf,Gf,Gf,Gf,Gf,Gf] (o:=by repeat' first|apply Ya|exact pcM|exact fq (X5 (X5 (X5 (X5 (X5 h11 h12) h15) h16) h17) h18)|exact fq (X6 (X5 (X5 (X5 (X5 (X5 h11 h12) h15) h16) h17) h18) rfl)|exact X04) (k:=wkT [] (X0.glue J))
 refine rnI [Gt,Gt,Gt,.el (aI .i64 (a0.Rows.length:Int)),Gt,Gt,Gt,.el (aI .i64 (a1.Rows.length:Int)),Gt,.stop 999999] (o:=by repeat' first|apply Ya|exact pcM|exact fq (X5 (X5 (X5 (X5 (X5 h11 h12) h15) h16) h17) h18)|exact X04) ?_;refine brI (λh19=>?_) λh19=>?_
 ·
  intro h;obtain rfl:=oj h;exact X3 [Gf,Gf,Gf,Gf,Gf,Gf,Gf] (o:=by repeat' first|apply Ya|exact pcM|exact fq (X5 (X5 (X5 (X5 (X5 (X5 h11 h12) h15) h16) h17) h18) h19)|exact X04) (k:=wkT [] (X0.glue J))
 intro h;obtain rfl:=oj h;exact X3 [Gt,Gt,Gt,.el (aI .i64 (a0.Late.length:Int)),Gt,Gt,Gt,.el (aI .i64 (a1.Late.length:Int)),Gt] (o:=by repeat' first|apply Ya|exact pcM|exact fq (X5 (X5 (X5 (X5 (X5 (X5 h11 h12) h15) h16) h17) h18) h19)|exact X04) (k:=wkT [] (X0.glue J))⟩
theorem Xkf {Q:Xp->St->Mu->Prop} {μ:Mu} (Xe:Xf) (Xj:Xf):∀ (n:Nat) (X87:Int) (o:X8m) (h:X6k Xe Xj n X87=some o)
  (C0:o=X8m.x0->X0 Tryz.prog 40 0 Q (.exit .ret) [] ⟨fr [(4,(aB false))],hp ([]),0⟩ μ)
  (C1:o=X8m.x1->X0 Tryz.prog 40 0 Q (.exit (.exit 0)) [] ⟨fr [],hp ([]),0⟩ μ),
  X0 Tryz.prog 40 0 Q (.loop (X0w 0 (Xd Tryz.f18))) [] ⟨fr [(2,(AV.ptr 0 0 0)),(3,(AV.ptr 1 0 0)),(5,(aI .i64 X87))],hp ([(0,Ob [(Xc false Xe)] 14),(1,Ob [(Xc false Xj)] 14)]),2⟩ μ:=by
 intro n
 induction n with
 |zero=>intro X87 o h C0 C1;cases h
 |succ n ih =>
  intro X87 o h C0 C1;rw[X6k] at h;refine X0.round ?_;revert h;refine brI (λh27=>?_) λh27=>λe=>X3 [.el (aI .i64 (Xe.Tasks.length:Int)),Bf] (k:=wkT [] (C1  (oj e).symm));refine bI λe28 h29=>?_;try have qh29:=Xi h29
  refine bI λe30 h31=>?_;try have qh31:=Xi h31
  refine bI λv32 h33=>brI (λh34=>λe=>X3 [.el (aI .i64 (Xe.Tasks.length:Int)),Bt,.el (Xa false e28),.el (Xa false e30),.pure _ (aB v32),Bt] (k:=wkT [] (C0  (oj e).symm))) λh34=>rnI [.el (aI .i64 (Xe.Tasks.length:Int)),Bt,.el (Xa false e28),.el (Xa false e30),.pure _ (aB v32),Bf,.wrap] ?_;intro h;exact wkT [] (ih  _ o h C0 C1)
instance X02t:PCs Tryz.prog 18 (∀ (a0:Xf) (a1:Xf) (r:Bool),Xdi a0 a1=some r->X05 Tryz.prog 18 [(Xc false a0),(Xc false a1)] (aB r)):=⟨λa0 a1 r h=>by
 refine X05.sym X9 fn18 (nt:=40) rfl rfl ?_ okM;unfold Xdi at h;revert h;refine bI λX07a h8=>rnI [.stop 1] ?_;intro h;refine X0.join (s':=⟨fr [(2,(AV.ptr 0 0 0)),(3,(AV.ptr 1 0 0)),(20,(aB X07a))],hp ([(0,Ob [(Xc false a0)] 14),(1,Ob [(Xc false a1)] 14)]),2⟩) ?_ (λJ=>X0.cut ?_)
 ·
  revert h;refine brI (λh9=>λe=>oj e▸X3 [Bt] (k:=fi)) λh9=>bI λo35 h36=>rnI [Bf] ?_;intro h;refine wkT [] (X0.cut (Xkf a0 a1 _ _ _ h36 ?_ ?_))
  ·
   intro eo35;subst eo35;refine X0.glue ?_;try dsimp only at h
   revert h;exact λe=>oj e▸X3 [] (k:=fi)
  intro eo35;subst eo35;refine X0.glue ?_;try dsimp only at h
  revert h;exact λe=>oj e▸X3 [] (k:=fi)
 clear h;revert h8;refine brI (λh5=>?_) λh5=>?_
 ·
  intro h;obtain rfl:=oj h;exact X3 [.el (aI .i64 (a0.Tasks.length:Int)),.el (aI .i64 (a1.Tasks.length:Int)),Gf,Gf,Gf,Gf,Gf,Gf] (k:=wkT [] (X0.glue J))
 refine bI λv6 h7=>?_;intro h;obtain rfl:=oj h;exact X3 [.el (aI .i64 (a0.Tasks.length:Int)),.el (aI .i64 (a1.Tasks.length:Int)),Gt,Gt,Gt,Gt,Gt,.pure _ (aB v6),Gt] (k:=wkT [] (X0.glue J))⟩
end Go.Av.Tryz