/- Printed by decomp.py: that the program computes the functions. -/
import Derived.Test.YtmkegegjcihooaaGreatDCert11Z
set_option linter.all false

namespace Go.Av.Tryz
open Go.Proofs Go.D
set_option maxRecDepth 100000
set_option maxHeartbeats 40000000
instance X01k:PCs Tryz.prog 163 (∀ (a0:X1t) (r:Int×Int),Xc6 a0=some r->X05 Tryz.prog 163 [(X22 false a0)] (AV.tup [(aI .i64 r.1),(aI .i64 r.2)])):=⟨λa0 r h=>by
 refine X05.sym X9 X0d2 (nt:=46) rfl rfl ?_ okM;unfold Xc6 at h;revert h;refine brI (λh1=>?_) λh1=>?_
 ·
  refine bI λv2 h3=>brI (λh4=>?_) λh4=>?_
  ·
   refine bI λe5 h6=>?_;try have qh6:=Xi h6
   exact λe=>oj e▸X3 [.el (aI .i64 (a0.Arg.length:Int)),Bt,.pure _ (AV.tup [(aI .i64 v2.1),(aI .i64 v2.2)]),Bt,.el (X2 e5)] (k:=fi)
  refine rnI [.el (aI .i64 (a0.Arg.length:Int)),Bt,.pure _ (AV.tup [(aI .i64 v2.1),(aI .i64 v2.2)]),Bf,.el (aI .i64 (a0.Where.length:Int))] ?_;refine brI (λh7=>?_) λh7=>λe=>oj e▸X3 [Bf] (k:=fi);refine bI λv8 h9=>brI (λh10=>?_) λh10=>λe=>oj e▸X3 [Bt,.pure _ (AV.tup [(aI .i64 v8.1),(aI .i64 v8.2)]),Bf] (k:=fi);refine bI λe11 h12=>?_;try have qh12:=Xi h12
  exact λe=>oj e▸X3 [Bt,.pure _ (AV.tup [(aI .i64 v8.1),(aI .i64 v8.2)]),Bt,.el (X2 e11)] (k:=fi)
 refine brI (λh13=>?_) λh13=>λe=>oj e▸X3 [.el (aI .i64 (a0.Arg.length:Int)),Bf,.el (aI .i64 (a0.Where.length:Int)),Bf] (k:=fi);refine bI λv14 h15=>rnI [.el (aI .i64 (a0.Arg.length:Int)),Bf,.el (aI .i64 (a0.Where.length:Int)),Bt,.pure _ (AV.tup [(aI .i64 v14.1),(aI .i64 v14.2)])] ?_;refine brI (λh16=>?_) λh16=>λe=>oj e▸X3 [Bf] (k:=fi);refine bI λe17 h18=>?_;try have qh18:=Xi h18
 exact λe=>oj e▸X3 [Bt,.el (X2 e17)] (k:=fi)⟩
instance X01l:PCs Tryz.prog 106 (∀ (a0:X1t) (r:Int×Int),Xc7 a0=some r->X05 Tryz.prog 106 [(X22 false a0)] (AV.tup [(aI .i64 r.1),(aI .i64 r.2)])):=⟨λa0 r h=>by
 refine X05.sym X9 X0dn (nt:=13) rfl rfl ?_ okM;unfold Xc7 at h;revert h;exact bI λv1 h2=>brI (λh3=>λe=>oj e▸X3 [.pure _ (aI .i64 v1),Bt,.pure _ (aI .i64 v1)] (k:=fi)) λh3=>bI λv4 h5=>λe=>oj e▸X3 [.pure _ (aI .i64 v1),Bf,.pure _ (AV.tup [(aI .i64 v4.1),(aI .i64 v4.2)])] (k:=fi)⟩
instance Xv6:PCs Tryz.prog 61 (∀ (a0:X1t) (r:Bool),X6x a0=some r->X05 Tryz.prog 61 [(X22 false a0)] (aB r)):=⟨λa0 r h=>by
 refine X05.sym X9 fn61 (nt:=12) rfl rfl ?_ okM;unfold X6x at h;revert h;exact bI λv1 h2=>λe=>oj e▸X3 [.pure _ (AV.tup [(aI .i64 v1.1),(aI .i64 v1.2)])] (k:=fi)⟩
theorem Xj1 {Q:Xp->St->Mu->Prop} {μ:Mu} (X4w:Int) (Xe:Xt) (Xj:Xk):∀ (n:Nat) (X85:Int) (o:X7d) (h:X5r X4w Xe Xj n X85=some o)
  (C0:o=X7d.x0->X0 Tryz.prog 56 0 Q (.exit .ret) [] ⟨fr [(4,(aB false))],hp ([]),0⟩ μ)
  (C1:o=X7d.x1->X0 Tryz.prog 56 0 Q (.exit (.exit 0)) [] ⟨fr [],hp ([]),0⟩ μ),
  X0 Tryz.prog 56 0 Q (.loop (X0w 0 (Xd Tryz.f164))) [] ⟨fr [(1,(aI .i64 X4w)),(2,(AV.ptr 0 0 0)),(5,(AV.ptr 1 0 0)),(6,(aI .i64 X85))],hp ([(0,Ob [(Xb false Xe)] 2),(1,Ob [(X8 Xj)] 5)]),2⟩ μ:=by
 intro n
 induction n with
 |zero=>intro X85 o h C0 C1;cases h
 |succ n ih =>
  intro X85 o h C0 C1;rw[X5r] at h;refine X0.round ?_;revert h;refine brI (λh12=>?_) λh12=>λe=>X3 [Bf] (k:=wkT [] (C1  (oj e).symm));refine bI λe13 h14=>?_;try have qh14:=Xi h14
  refine brI (λh15=>λe=>X3 [Bt,.el (X8 e13),Bt] (k:=wkT [] (C0  (oj e).symm))) λh15=>rnI [Bt,.el (X8 e13),Bf,.wrap] ?_;intro h;exact wkT [] (ih  _ o h C0 C1)
instance X01f:PCs Tryz.prog 164 (∀ (a0:Xt) (a1:Int) (r:Bool),Xc3 a0 a1=some r->X05 Tryz.prog 164 [(Xb false a0),(aI .i64 a1)] (aB r)):=⟨λa0 a1 r h=>by
 refine X05.sym X9 X0d1 (nt:=56) rfl rfl ?_ okM;unfold Xc3 at h;revert h;refine bI λe1 h2=>?_;try have qh2:=Xi h2
 refine bI λo16 h17=>rnI [.el (X8 e1)] ?_;intro h;refine wkT [] (X0.cut (Xj1 a1 a0 e1 _ _ _ h17 ?_ ?_))
 ·
  intro eo16;subst eo16;refine X0.glue ?_;try dsimp only at h
  revert h;exact λe=>oj e▸X3 [] (k:=fi)
 intro eo16;subst eo16;refine X0.glue ?_;try dsimp only at h
 revert h;exact λe=>oj e▸X3 [] (k:=fi)⟩
theorem Xgx {Q:Xp->St->Mu->Prop} {μ:Mu} (X4w:Int) (Xe:Xt):∀ (n:Nat) (X87:Int) (X85:Int) (o:X8w) (h:X2x X4w Xe n X87 X85=some o)
  (C0:∀ (X7t:Int),o=X8w.x0 X7t->X0 Tryz.prog 25 0 Q (.exit (.exit 0)) [] ⟨fr [(5,(aI .i64 X7t))],hp ([]),0⟩ μ),
  X0 Tryz.prog 25 0 Q (.loop (X0w 0 (Xd Tryz.f165))) [] ⟨fr [(1,(aI .i64 X4w)),(2,(AV.ptr 0 0 0)),(5,(aI .i64 X87)),(6,(aI .i64 X85))],hp ([(0,Ob [(Xb false Xe)] 2)]),1⟩ μ:=by
 intro n
 induction n with
 |zero=>intro X87 X85 o h C0;cases h
 |succ n ih =>
  intro X87 X85 o h C0;rw[X2x] at h;refine X0.round ?_;revert h;refine brI (λh16=>?_) λh16=>λe=>X3 [.el (aI .i64 (Xe.Channels.length:Int)),Bf] (k:=wkT [] (C0 _  (oj e).symm));refine bI λe17 h18=>?_;try have qh18:=Xi h18
  refine bI λXsn h22=>rnI [.el (aI .i64 (Xe.Channels.length:Int)),Bt,.el (X8 e17)] ?_;intro h;refine X0.join (s':=⟨fr [(1,(aI .i64 X4w)),(2,(AV.ptr 0 0 0)),(5,(aI .i64 Xsn)),(6,(aI .i64 X85))],hp ([(0,Ob [(Xb false Xe)] 2)]),1⟩) ?_ (λJ=>X0.cut ?_)
  ·
   exact X3 [.wrap] (k:=wkT [] (ih  _ _ o h C0))
  clear h;revert h22;refine brI (λh21=>?_) λh21=>?_
  ·
   intro h;obtain rfl:=oj h;exact X3 [Bt,.wrap] (k:=wkT [] (X0.glue J))
  intro h;obtain rfl:=oj h;exact X3 [Bf] (k:=wkT [] (X0.glue J))
instance Xwg:PCs Tryz.prog 165 (∀ (a0:Xt) (a1:Int) (r:Int),X58 a0 a1=some r->X05 Tryz.prog 165 [(Xb false a0),(aI .i64 a1)] (aI .i64 r)):=⟨λa0 a1 r h=>by
 refine X05.sym X9 X0d0 (nt:=25) rfl rfl ?_ okM;unfold X58 at h;revert h;refine bI λo23 h24=>rnI [] ?_;intro h;refine wkT [] (X0.cut (Xgx a1 a0 _ _ _ _ h24 ?_));intro X7t eo23;subst eo23;refine X0.glue ?_;try dsimp only at h
 revert h;exact λe=>oj e▸X3 [] (k:=fi)⟩
theorem Xhi {Q:Xp->St->Mu->Prop} {μ:Mu} (X4w:Int) (Xe:Xt):∀ (n:Nat) (X87:Int) (X85:Int) (o:X9s) (h:X3h X4w Xe n X87 X85=some o)
  (C0:∀ (X7t:Int),o=X9s.x0 X7t->X0 Tryz.prog 25 0 Q (.exit (.exit 0)) [] ⟨fr [(5,(aI .i64 X7t))],hp ([]),0⟩ μ),
  X0 Tryz.prog 25 0 Q (.loop (X0w 0 (Xd Tryz.f166))) [] ⟨fr [(1,(aI .i64 X4w)),(2,(AV.ptr 0 0 0)),(5,(aI .i64 X87)),(6,(aI .i64 X85))],hp ([(0,Ob [(Xb false Xe)] 2)]),1⟩ μ:=by
 intro n
 induction n with
 |zero=>intro X87 X85 o h C0;cases h
 |succ n ih =>
  intro X87 X85 o h C0;rw[X3h] at h;refine X0.round ?_;revert h;refine brI (λh16=>?_) λh16=>λe=>X3 [.el (aI .i64 (Xe.Channels.length:Int)),Bf] (k:=wkT [] (C0 _  (oj e).symm));refine bI λe17 h18=>?_;try have qh18:=Xi h18
  refine bI λXsn h22=>rnI [.el (aI .i64 (Xe.Channels.length:Int)),Bt,.el (X8 e17)] ?_;intro h;refine X0.join (s':=⟨fr [(1,(aI .i64 X4w)),(2,(AV.ptr 0 0 0)),(5,(aI .i64 Xsn)),(6,(aI .i64 X85))],hp ([(0,Ob [(Xb false Xe)] 2)]),1⟩) ?_ (λJ=>X0.cut ?_)
  ·
   exact X3 [.wrap] (k:=wkT [] (ih  _ _ o h C0))
  clear h;revert h22;refine brI (λh21=>?_) λh21=>?_
  ·
   intro h;obtain rfl:=oj h;exact X3 [Bt,.wrap] (k:=wkT [] (X0.glue J))
  intro h;obtain rfl:=oj h;exact X3 [Bf] (k:=wkT [] (X0.glue J))
instance Xy2:PCs Tryz.prog 166 (∀ (a0:Xt) (a1:Int) (r:Int),X67 a0 a1=some r->X05 Tryz.prog 166 [(Xb false a0),(aI .i64 a1)] (aI .i64 r)):=⟨λa0 a1 r h=>by
 refine X05.sym X9 X0cz (nt:=25) rfl rfl ?_ okM;unfold X67 at h;revert h;refine bI λo23 h24=>rnI [] ?_;intro h;refine wkT [] (X0.cut (Xhi a1 a0 _ _ _ _ h24 ?_));intro X7t eo23;subst eo23;refine X0.glue ?_;try dsimp only at h
 revert h;exact λe=>oj e▸X3 [] (k:=fi)⟩
instance Xwe:PCs Tryz.prog 224 (∀ (a0:Int) (a1:Int) (a2:Int) (r:Bool),X1y a0 a1 a2=some r->X05 Tryz.prog 224 [(aI .i64 a0),(aI .i64 a1),(aI .i64 a2)] (aB r)):=⟨λa0 a1 a2 r h=>by
 refine X05.sym X9 X0ce (nt:=15) rfl rfl ?_ okM;unfold X1y at h;revert h;exact λe=>oj e▸X3 [] (k:=fi)⟩
instance X032:PCs Tryz.prog 167 (∀ (a0:Int) (a1:Int) (a2:Int) (r:Bool),X3q a0 a1 a2=some r->X05 Tryz.prog 167 [(aI .u8 a0),(aI .i64 a1),(aI .i64 a2)] (aB r)):=⟨λa0 a1 a2 r h=>by
 refine X05.sym X9 X0cy (nt:=66) rfl rfl ?_ okM;unfold X3q at h;revert h;refine brI (λh1=>λe=>oj e▸X3 [Bt] (k:=fi)) λh1=>?_;refine brI (λh2=>?_) λh2=>?_
 ·
  refine bI λj6_6 h10=>rnI [Bf,Bt,.stop 5] ?_;intro h;refine X0.join (s':=⟨fr [(6,(aB j6_6))],hp ([]),0⟩) ?_ (λJ=>X0.cut ?_)
  ·
   revert h;exact λe=>oj e▸X3 [] (k:=fi)
  clear h;revert h10;refine brI (λh7=>?_) λh7=>?_
  ·
   refine bI λv8 h9=>?_;intro h;obtain rfl:=oj h;exact X3 [Gt,Gt,.pure _ (aB v8)] (k:=wkT [] (X0.glue J))
  intro h;obtain rfl:=oj h;exact X3 [Gf,Gf] (k:=wkT [] (X0.glue J))
 refine brI (λh11=>?_) λh11=>?_
 ·
  refine bI λX080 h19=>rnI [Bf,Bf,Bt,.stop 7] ?_;intro h;refine X0.join (s':=⟨fr [(6,(aB X080))],hp ([]),0⟩) ?_ (λJ=>X0.cut ?_)
  ·
   revert h;exact λe=>oj e▸X3 [] (k:=fi)
  clear h;revert h19;refine brI (λh16=>?_) λh16=>?_
  ·
   refine bI λv17 h18=>?_;intro h;obtain rfl:=oj h;exact X3 [Gt,Gt,.pure _ (aB v17)] (k:=wkT [] (X0.glue J))
  intro h;obtain rfl:=oj h;exact X3 [Gf,Gf] (k:=wkT [] (X0.glue J))
 refine brI (λh20=>bI λv21 h22=>λe=>oj e▸X3 [Bf,Bf,Bf,Bt,.pure _ (aB v21)] (k:=fi)) λh20=>brI (λh23=>λe=>oj e▸X3 [Bf,Bf,Bf,Bf,Bt] (k:=fi)) λh23=>brI (λh24=>bI λv25 h26=>λe=>oj e▸X3 [Bf,Bf,Bf,Bf,Bf,Bt,.pure _ (aB v25)] (k:=fi)) λh24=>bI λX07q h36=>rnI [Bf,Bf,Bf,Bf,Bf,Bf,.stop 14] ?_;intro h;refine X0.join (s':=⟨fr [(6,(aB X07q))],hp ([]),0⟩) ?_ (λJ=>X0.cut ?_)
 ·
  revert h;exact λe=>oj e▸X3 [] (k:=fi)
 clear h;revert h36;refine brI (λh32=>?_) λh32=>?_
 ·
  refine bI λv33 h34=>brI (λh35=>?_) λh35=>?_
  ·
   intro h;obtain rfl:=oj h;exact X3 [Gt,Gt,.pure _ (aB v33),Gt,Gt] (o:=by repeat' first|apply Ya|exact pcM|exact fq (X6 h32 h35)|exact X04) (k:=wkT [] (X0.glue J))
  intro h;obtain rfl:=oj h;exact X3 [Gt,Gt,.pure _ (aB v33),Gf,Gf] (o:=by repeat' first|apply Ya|exact pcM|exact fq (X6 h32 h35)|exact X04) (k:=wkT [] (X0.glue J))
 intro h;obtain rfl:=oj h;exact X3 [Gf,Gf,Gf,Gf] (o:=by repeat' first|apply Ya|exact pcM|exact fq (X5 h32 rfl)|exact X04) (k:=wkT [] (X0.glue J))⟩
theorem Xgv {Q:Xp->St->Mu->Prop} {μ:Mu} (Xnw:Int) (X09:Xt) (Xjo:Int):∀ (n:Nat) (X2i:(List Bool)) (y1_7:Int) (o:X8t) (h:X2c Xnw X09 Xjo n X2i y1_7=some o)
  (C0:∀ (X1h:(List Bool)),o=X8t.x0 X1h->X0 Tryz.prog 48 0 Q (.exit (.exit 2)) [] ⟨fr [(1,(aI .i64 Xnw)),(2,(AV.ptr 0 0 0)),(5,(AV.ref 1 0 (X1h.length))),(6,(aI .i64 Xjo))],hp ([(0,Ob [(Xb false X09)] 2),(1,Ob (X1h.map aB) 1)]),2⟩ μ),
  X0 Tryz.prog 48 0 Q (.loop (X0w 1 (Xd Tryz.f168))) [] ⟨fr [(1,(aI .i64 Xnw)),(2,(AV.ptr 0 0 0)),(5,(AV.ref 1 0 (X2i.length))),(6,(aI .i64 Xjo)),(7,(aI .i64 y1_7))],hp ([(0,Ob [(Xb false X09)] 2),(1,Ob (X2i.map aB) 1)]),2⟩ μ:=by
 intro n
 induction n with
 |zero=>intro X2i y1_7 o h C0;cases h
 |succ n ih =>
  intro X2i y1_7 o h C0;rw[X2c] at h;refine X0.round ?_;revert h;refine brI (λh166=>?_) λh166=>λe=>X3 [.el (aI .i64 (X09.Channels.length:Int)),Bf] (k:=wkT [] (C0 _  (oj e).symm));refine bI λe167 h168=>?_;try have qh168:=Xi h168
  refine bI λXsp h176=>rnI [.el (aI .i64 (X09.Channels.length:Int)),Bt,.el (X8 e167),.stop 9] ?_;intro h;refine X0.join (s':=⟨fr [(1,(aI .i64 Xnw)),(2,(AV.ptr 0 0 0)),(5,(AV.ref 1 0 (X2i.length))),(6,(aI .i64 Xjo)),(7,(aI .i64 y1_7)),(8,(AV.ptr 2 0 0)),(42,(aB Xsp))],hp ([(0,Ob [(Xb false X09)] 2),(1,Ob (X2i.map aB) 1),(2,Ob [(X8 e167)] 5)]),3⟩) ?_ (λJ=>X0.cut ?_)
  ·
   revert h;refine bI λXpp h184=>rnI [] ?_;intro h;refine X0.join (s':=⟨fr [(1,(aI .i64 Xnw)),(2,(AV.ptr 0 0 0)),(5,(AV.ref 1 0 (Xpp.length))),(6,(aI .i64 Xjo)),(7,(aI .i64 y1_7))],hp ([(0,Ob [(Xb false X09)] 2),(1,Ob (Xpp.map aB) 1)]),2⟩) ?_ (λJ=>X0.cut ?_)
   ·
    exact X3 [.wrap] (k:=wkT [] (ih  _ _ o h C0))
   clear h;revert h184;refine brI (λh181=>?_) λh181=>?_
   ·
    refine bI λe182 h183=>?_;try have qh183:=Xi h183
    intro h;obtain rfl:=oj h;exact X3 [Bt,.el (aB e182),.ld (aB e182)] (o:=by repeat' first|apply Ya|exact pcM|exact(List.getElem?_set_self (by have hq:=X043 h183;simp;omega)).trans rfl|exact X04) (k:=wkT [] (X0.glue J))
   intro h;obtain rfl:=oj h;exact X3 [Bf] (k:=wkT [] (X0.glue J))
  clear h;revert h176;refine brI (λh173=>?_) λh173=>?_
  ·
   intro h;obtain rfl:=oj h;exact X3 [Gf,Gf,Gf,Gf,Gf] (k:=wkT [] (X0.glue J))
  refine bI λe174 h175=>?_;try have qh175:=Xi h175
  intro h;obtain rfl:=oj h;exact X3 [Gt,Gt,Gt,Gt,.el (aB e174),Gt,.ld (aB e174)] (k:=wkT [] (X0.glue J))
theorem Xgw {Q:Xp->St->Mu->Prop} {μ:Mu} (X4w:Int) (Xe:Xt):∀ (n:Nat) (Xj:(List Bool)) (X85:Int) (o:X8u) (h:X2w X4w Xe n Xj X85=some o)
  (C0:∀ (Xz:(List Bool)),o=X8u.x0 Xz->X0 Tryz.prog 48 0 Q (.exit (.exit 0)) [] ⟨fr [(5,(AV.ref 0 0 (Xz.length)))],hp ([(0,Ob (Xz.map aB) 1)]),1⟩ μ),
  X0 Tryz.prog 48 0 Q (.loop (X0w 0 (Xd Tryz.f168))) [] ⟨fr [(1,(aI .i64 X4w)),(2,(AV.ptr 0 0 0)),(5,(AV.ref 1 0 (Xj.length))),(6,(aI .i64 X85))],hp ([(0,Ob [(Xb false Xe)] 2),(1,Ob (Xj.map aB) 1)]),2⟩ μ:=by
 intro n
 induction n with
 |zero=>intro Xj X85 o h C0;cases h
 |succ n ih =>
  intro Xj X85 o h C0;rw[X2w] at h;refine X0.round ?_;revert h;refine brI (λh126=>?_) λh126=>λe=>X3 [.el (aI .i64 (Xe.Ops.length:Int)),Bf] (k:=wkT [(0,1)] (C0 _  (oj e).symm));refine bI λo185 h186=>rnI [.el (aI .i64 (Xe.Ops.length:Int)),Bt] ?_;intro h;refine wkT [] (X0.cut (Xgv X4w Xe X85 _ _ _ _ h186 ?_));intro X1h eo185;subst eo185;refine X0.glue ?_;try dsimp only at h
  exact X3 [.wrap] (k:=wkT [] (ih  _ _ o h C0))
instance Xwf:PCs Tryz.prog 168 (∀ (a0:Xt) (a1:Int) (r:(List Bool)),X8v a0 a1=some r->X05 Tryz.prog 168 [(Xb false a0),(aI .i64 a1)] (Lt (r.map aB))):=⟨λa0 a1 r h=>by
 refine X05.sym X9 X0cx (nt:=48) rfl rfl ?_ okM;unfold X8v at h;revert h;refine bI λu1 h2=>?_;have qh2:=X06o h2;refine bI λo187 h188=>rnI [.el (aI .i64 (a0.Ops.length:Int))] (o:=by repeat' first|apply Ya|exact pcM|exact(Int.le_trans qh2.2.2 (by decide))|exact om|exact X04) ?_;intro h;refine wkT [] (X0.cut (Xgw a1 a0 _ _ _ _ h188 ?_));intro Xz eo187;subst eo187;refine X0.glue ?_;try dsimp only at h
 revert h;exact λe=>oj e▸X3 [] (k:=fi)⟩
theorem Xj4 {Q:Xp->St->Mu->Prop} {μ:Mu} (Xe:Xt):∀ (n:Nat) (X6v:Int) (o:X7e) (h:X4f Xe n X6v=some o)
  (C0:o=X7e.x0->X0 Tryz.prog 139 0 Q (.exit .ret) [] ⟨fr [(2,(aB false))],hp ([]),0⟩ μ)
  (C1:o=X7e.x1->X0 Tryz.prog 139 0 Q (.exit (.exit 0)) [] ⟨fr [(1,(AV.ptr 0 0 0))],hp ([(0,Ob [(Xb false Xe)] 2)]),1⟩ μ),
  X0 Tryz.prog 139 0 Q (.loop (X0w 0 (Xd Tryz.f107))) [] ⟨fr [(1,(AV.ptr 0 0 0)),(3,(aI .i64 X6v))],hp ([(0,Ob [(Xb false Xe)] 2)]),1⟩ μ:=by
 intro n
 induction n with
 |zero=>intro X6v o h C0 C1;cases h
 |succ n ih =>
  intro X6v o h C0 C1;rw[X4f] at h;refine X0.round ?_;revert h;refine brI (λh34=>?_) λh34=>λe=>X3 [.el (aI .i64 (Xe.Channels.length:Int)),Bf] (k:=wkT [] (C1  (oj e).symm));refine bI λe35 h36=>?_;try have qh36:=Xi h36
  refine bI λXza h48=>rnI [.el (aI .i64 (Xe.Channels.length:Int)),Bt,.el (X8 e35),.stop 5] ?_;intro h;refine X0.join (s':=⟨fr [(1,(AV.ptr 0 0 0)),(3,(aI .i64 X6v)),(54,(aB Xza))],hp ([(0,Ob [(Xb false Xe)] 2)]),1⟩) ?_ (λJ=>X0.cut ?_)
  ·
   revert h;refine brI (λh49=>λe=>X3 [Bt] (k:=wkT [] (C0  (oj e).symm))) λh49=>rnI [Bf,.wrap] ?_;intro h;exact wkT [] (ih  _ o h C0 C1)
  clear h;revert h48;refine brI (λh43=>?_) λh43=>?_
  ·
   intro h;obtain rfl:=oj h;exact X3 [Gf,Gf,Gf,Gf,Gf,Gf,Gf,Gf,Gf,Gf,Gf,Gf,Gf,Gf,Gf,Gf,Gf,Gf,Gf,Gf,Gf] (o:=by repeat' first|apply Ya|exact pcM|exact fq (X6 h43 rfl)|exact fq (X6 (X6 h43 rfl) rfl)|exact fq (X6 (X6 (X6 h43 rfl) rfl) rfl)|exact fq (X6 (X6 (X6 (X6 h43 rfl) rfl) rfl) rfl)|exact X04) (k:=wkT [] (X0.glue J))
  refine brI (λh44=>?_) λh44=>?_
  ·
   intro h;obtain rfl:=oj h;exact X3 [Gt,Gt,Gt,Gf,Gf,Gf,Gf,Gf,Gf,Gf,Gf,Gf,Gf,Gf,Gf,Gf,Gf,Gf,Gf,Gf,Gf] (o:=by repeat' first|apply Ya|exact pcM|exact fq (X5 h43 h44)|exact fq (X6 (X5 h43 h44) rfl)|exact fq (X6 (X6 (X5 h43 h44) rfl) rfl)|exact fq (X6 (X6 (X6 (X5 h43 h44) rfl) rfl) rfl)|exact X04) (k:=wkT [] (X0.glue J))
  refine brI (λh45=>?_) λh45=>?_
  ·
   intro h;obtain rfl:=oj h;exact X3 [Gt,Gt,Gt,Gt,Gt,Gt,Gt,Gt,.el (aI .i64 (Xe.Ops.length:Int)),Gt,Gf,Gf,Gf,Gf,Gf,Gf,Gf,Gf,Gf,Gf,Gf,Gf] (o:=by repeat' first|apply Ya|exact pcM|exact fq (X5 h43 h44)|exact fq (X5 (X5 h43 h44) h45)|exact fq (X6 (X5 (X5 h43 h44) h45) rfl)|exact fq (X6 (X6 (X5 (X5 h43 h44) h45) rfl) rfl)|exact X04) (k:=wkT [] (X0.glue J))
  refine rnI [Gt,Gt,Gt,Gt,Gt,Gt,Gt,Gt,.el (aI .i64 (Xe.Ops.length:Int)),Gt,Gt,Gt,Gt,Gt,Gt,.el (aI .i64 (Xe.Ops.length:Int)),Gt,.stop 999999] (o:=by repeat' first|apply Ya|exact pcM|exact fq (X5 h43 h44)|exact fq (X5 (X5 h43 h44) h45)|exact X04) ?_;refine brI (λh46=>?_) λh46=>?_
  ·
   intro h;obtain rfl:=oj h;exact X3 [Gf,Gf,Gf,Gf,Gf,Gf] (o:=by repeat' first|apply Ya|exact pcM|exact fq (X5 (X5 (X5 h43 h44) h45) h46)|exact fq (X6 (X5 (X5 (X5 h43 h44) h45) h46) rfl)|exact X04) (k:=wkT [] (X0.glue J))
  refine brI (λh47=>?_) λh47=>?_
  ·
   intro h;obtain rfl:=oj h;exact X3 [Gt,Gt,Gt,Gf,Gf,Gf] (o:=by repeat' first|apply Ya|exact pcM|exact fq (X5 (X5 (X5 h43 h44) h45) h46)|exact fq (X5 (X5 (X5 (X5 h43 h44) h45) h46) h47)|exact X04) (k:=wkT [] (X0.glue J))
  intro h;obtain rfl:=oj h;exact X3 [Gt,Gt,Gt,Gt,Gt,Gt] (o:=by repeat' first|apply Ya|exact pcM|exact fq (X5 (X5 (X5 h43 h44) h45) h46)|exact fq (X5 (X5 (X5 (X5 h43 h44) h45) h46) h47)|exact X04) (k:=wkT [] (X0.glue J))
theorem Xj3 {Q:Xp->St->Mu->Prop} {μ:Mu} (X09:Xt):∀ (n:Nat) (Xih:Int) (o:X5g) (h:X4e X09 n Xih=some o)
  (C0:o=X5g.x0->X0 Tryz.prog 139 0 Q (.exit .ret) [] ⟨fr [(2,(aB false))],hp ([]),0⟩ μ)
  (C1:o=X5g.x1->X0 Tryz.prog 139 0 Q (.exit (.exit 2)) [] ⟨fr [(1,(AV.ptr 0 0 0))],hp ([(0,Ob [(Xb false X09)] 2)]),1⟩ μ),
  X0 Tryz.prog 139 0 Q (.loop (X0w 1 (Xd Tryz.f107))) [] ⟨fr [(1,(AV.ptr 0 0 0)),(5,(aI .i64 Xih))],hp ([(0,Ob [(Xb false X09)] 2)]),1⟩ μ:=by
 intro n
 induction n with
 |zero=>intro Xih o h C0 C1;cases h
 |succ n ih =>
  intro Xih o h C0 C1;rw[X4e] at h;refine X0.round ?_;revert h;refine brI (λh105=>?_) λh105=>λe=>X3 [.el (aI .i64 (X09.Channels.length:Int)),Bf] (k:=wkT [] (C1  (oj e).symm));refine bI λe106 h107=>?_;try have qh107:=Xi h107
  refine bI λXss h129=>rnI [.el (aI .i64 (X09.Channels.length:Int)),Bt,.el (X8 e106),.stop 11] ?_;intro h;refine X0.join (s':=⟨fr [(1,(AV.ptr 0 0 0)),(5,(aI .i64 Xih)),(98,(aB Xss))],hp ([(0,Ob [(Xb false X09)] 2)]),1⟩) ?_ (λJ=>X0.cut ?_)
  ·
   revert h;refine brI (λh130=>λe=>X3 [Bt] (k:=wkT [] (C0  (oj e).symm))) λh130=>rnI [Bf,.wrap] ?_;intro h;exact wkT [] (ih  _ o h C0 C1)
  clear h;revert h129;refine bI λv119 h120=>brI (λh121=>?_) λh121=>?_
  ·
   intro h;obtain rfl:=oj h;exact X3 [X21.pure _ (aB v119),Gf,Gf,Gf,Gt,Gf,Gf,Gf,Gf,Gf,Gf,Gf,Gt,Gf,Gf,Gf,Gt,Gf,Gf,Gf,Gf,Gf,Gf,Gf,Gt] (k:=wkT [] (X0.glue J))
  refine brI (λh122=>?_) λh122=>?_
  ·
   intro h;obtain rfl:=oj h;exact X3 [.pure _ (aB v119),Gt,Gt,Gt,Gf,Gf,Gf,Gf,Gf,Gf,Gf,Gt,Gf,Gf,Gf,Gt,Gf,Gf,Gf,Gf,Gf,Gf,Gf,Gt] (o:=by repeat' first|apply Ya|exact pcM|exact fq (X5 h121 h122)|exact X04) (k:=wkT [] (X0.glue J))
  refine bI λv123 h124=>brI (λh125=>?_) λh125=>?_
  ·
   intro h;obtain rfl:=oj h;exact X3 [.pure _ (aB v119),Gt,Gt,Gt,Gt,Gt,Gt,Gt,Gt,Gt,.pure _ (aI .i64 v123),Gt,Gf,Gf,Gf,Gt,Gf,Gf,Gf,Gf,Gf,Gf,Gf,Gt] (o:=by repeat' first|apply Ya|exact pcM|exact fq (X5 h121 h122)|exact fq (X5 (X5 h121 h122) h125)|exact X04) (k:=wkT [] (X0.glue J))
  refine brI (λh126=>?_) λh126=>?_
  ·
   intro h;obtain rfl:=oj h;exact X3 [.pure _ (aB v119),Gt,Gt,Gt,Gt,Gt,Gt,Gt,Gt,Gt,.pure _ (aI .i64 v123),Gt,Gt,Gt,Gt,Gf,Gf,Gf,Gf,Gf,Gf,Gf,Gt] (o:=by repeat' first|apply Ya|exact pcM|exact fq (X5 h121 h122)|exact fq (X5 (X5 h121 h122) h125)|exact fq (X5 (X5 (X5 h121 h122) h125) h126)|exact X04) (k:=wkT [] (X0.glue J))
  refine bI λv127 h128=>?_;intro h;obtain rfl:=oj h;exact X3 [.pure _ (aB v119),Gt,Gt,Gt,Gt,Gt,Gt,Gt,Gt,Gt,.pure _ (aI .i64 v123),Gt,Gt,Gt,Gt,Gt,Gt,Gt,Gt,Gt,Gt,.pure _ (aI .i64 v127),Gt] (o:=by repeat' first|apply Ya|exact pcM|exact fq (X5 h121 h122)|exact fq (X5 (X5 h121 h122) h125)|exact fq (X5 (X5 (X5 h121 h122) h125) h126)|exact X04) (k:=wkT [] (X0.glue J))
theorem Xj2 {Q:Xp->St->Mu->Prop} {μ:Mu} (X31:Xt):∀ (n:Nat) (Xcj:Int) (o:X5f) (h:X4d X31 n Xcj=some o)
  (C0:o=X5f.x0->X0 Tryz.prog 139 0 Q (.exit .ret) [] ⟨fr [(2,(aB false))],hp ([]),0⟩ μ)
  (C1:o=X5f.x1->X0 Tryz.prog 139 0 Q (.exit (.exit 4)) [] ⟨fr [],hp ([]),0⟩ μ),
  X0 Tryz.prog 139 0 Q (.loop (X0w 2 (Xd Tryz.f107))) [] ⟨fr [(1,(AV.ptr 0 0 0)),(7,(aI .i64 Xcj))],hp ([(0,Ob [(Xb false X31)] 2)]),1⟩ μ:=by
 intro n
 induction n with
 |zero=>intro Xcj o h C0 C1;cases h
 |succ n ih =>
  intro Xcj o h C0 C1;rw[X4d] at h;refine X0.round ?_;revert h;refine brI (λh198=>?_) λh198=>λe=>X3 [.el (aI .i64 (X31.Ops.length:Int)),Bf] (k:=wkT [] (C1  (oj e).symm));refine bI λe199 h200=>?_;try have qh200:=Xi h200
  refine bI λXpo h228=>rnI [.el (aI .i64 (X31.Ops.length:Int)),Bt,.el (X2g e199),.stop 17] ?_;intro h;refine X0.join (s':=⟨fr [(1,(AV.ptr 0 0 0)),(7,(aI .i64 Xcj)),(138,(aB Xpo))],hp ([(0,Ob [(Xb false X31)] 2)]),1⟩) ?_ (λJ=>X0.cut ?_)
  ·
   revert h;refine brI (λh229=>λe=>X3 [Bt] (k:=wkT [] (C0  (oj e).symm))) λh229=>rnI [Bf,.wrap] ?_;intro h;exact wkT [] (ih  _ o h C0 C1)
  clear h;revert h228;refine brI (λh215=>?_) λh215=>?_
  ·
   intro h;obtain rfl:=oj h;exact X3 [Gf,Gf,Gf,Gt,Gf,Gf,Gf,Gf,Gf,Gf,Gf,Gf,Gf,Gf,Gt,Gf,Gf,Gf,Gf,Gf,Gf,Gt] (k:=wkT [] (X0.glue J))
  refine brI (λh216=>?_) λh216=>?_
  ·
   intro h;obtain rfl:=oj h;exact X3 [Gt,Gt,Gt,Gf,Gf,Gf,Gf,Gf,Gf,Gf,Gf,Gf,Gf,Gt,Gf,Gf,Gf,Gf,Gf,Gf,Gt] (o:=by repeat' first|apply Ya|exact pcM|exact fq (X5 h215 h216)|exact X04) (k:=wkT [] (X0.glue J))
  refine bI λv217 h218=>bI λv219 h220=>bI λv221 h222=>brI (λh223=>?_) λh223=>?_
  ·
   intro h;obtain rfl:=oj h;exact X3 [Gt,Gt,Gt,Gt,Gt,Gt,Gt,Gt,.pure _ (aI .i64 v217),Gt,Gt,Gt,.pure _ (aI .i64 v219),Gt,.pure _ (aB v221),Gt,Gf,Gf,Gf,Gf,Gf,Gf,Gt] (o:=by repeat' first|apply Ya|exact pcM|exact fq (X5 h215 h216)|exact fq (X5 (X5 h215 h216) h223)|exact X04) (k:=wkT [] (X0.glue J))
  refine bI λv224 h225=>bI λe226 h227=>?_;try have qh227:=Xi h227
  intro h;obtain rfl:=oj h;exact X3 [Gt,Gt,Gt,Gt,Gt,Gt,Gt,Gt,.pure _ (aI .i64 v217),Gt,Gt,Gt,.pure _ (aI .i64 v219),Gt,.pure _ (aB v221),Gt,Gt,Gt,Gt,.pure _ (Lt (v224.map aB)),Gt,Gt,.el (aB e226),Gt] (o:=by repeat' first|apply Ya|exact pcM|exact fq (X5 h215 h216)|exact fq (X5 (X5 h215 h216) h223)|exact X04) (k:=wkT [] (X0.glue J))
instance X01g:PCs Tryz.prog 107 (∀ (a0:Xt) (r:Bool),Xc4 a0=some r->X05 Tryz.prog 107 [(Xb false a0)] (aB r)):=⟨λa0 r h=>by
 refine X05.sym X9 X0dm (nt:=139) rfl rfl ?_ okM;unfold Xc4 at h;revert h;refine bI λo50 h51=>rnI [] ?_;intro h;refine wkT [] (X0.cut (Xj4 a0 _ _ _ h51 ?_ ?_))
 ·
  intro eo50;subst eo50;refine X0.glue ?_;try dsimp only at h
  revert h;exact λe=>oj e▸X3 [] (k:=fi)
 intro eo50;subst eo50;refine X0.glue ?_;try dsimp only at h
 revert h;refine bI λo131 h132=>rnI [] ?_;intro h;refine wkT [] (X0.cut (Xj3 a0 _ _ _ h132 ?_ ?_))
 ·
  intro eo131;subst eo131;refine X0.glue ?_;try dsimp only at h
  revert h;exact λe=>oj e▸X3 [] (k:=fi)
 intro eo131;subst eo131;refine X0.glue ?_;try dsimp only at h
 revert h;refine bI λo230 h231=>rnI [] ?_;intro h;refine wkT [] (X0.cut (Xj2 a0 _ _ _ h231 ?_ ?_))
 ·
  intro eo230;subst eo230;refine X0.glue ?_;try dsimp only at h
  revert h;exact λe=>oj e▸X3 [] (k:=fi)
 intro eo230;subst eo230;refine X0.glue ?_;try dsimp only at h
 revert h;exact λe=>oj e▸X3 [] (k:=fi)⟩
instance X01h:PCs Tryz.prog 62 (∀ (a0:Xt) (r:Int),X7m a0=some r->X05 Tryz.prog 62 [(Xb false a0)] (aI .i64 r)):=⟨λa0 r h=>by
 refine X05.sym X9 fn62 (nt:=16) rfl rfl ?_ okM;unfold X7m at h;revert h;refine bI λX07s h4=>rnI [.stop 1] ?_;intro h;refine X0.join (s':=⟨fr [(1,(AV.ptr 0 0 0)),(12,(aB X07s))],hp ([(0,Ob [(Xb false a0)] 2)]),1⟩) ?_ (λJ=>X0.cut ?_)
 ·
  revert h;exact brI (λh5=>λe=>oj e▸X3 [Bt] (k:=fi)) λh5=>bI λv6 h7=>brI (λh8=>λe=>oj e▸X3 [Bf,.pure _ (aB v6),Bt] (k:=fi)) λh8=>λe=>oj e▸X3 [Bf,.pure _ (aB v6),Bf] (k:=fi)
 clear h;revert h4;refine brI (λh3=>?_) λh3=>?_
 ·
  intro h;obtain rfl:=oj h;exact X3 [.el (aI .i64 (a0.Ops.length:Int)),Gf,Gf,Gf,Gf] (k:=wkT [] (X0.glue J))
 intro h;obtain rfl:=oj h;exact X3 [.el (aI .i64 (a0.Ops.length:Int)),Gt,Gt,Gt,.el (aI .i64 (a0.Channels.length:Int)),Gt] (k:=wkT [] (X0.glue J))⟩
instance X01d:PCs Tryz.prog 169 (∀ (a0:X07) (r:Bool),X57 a0=some r->X05 Tryz.prog 169 [(X1b a0)] (aB r)):=⟨λa0 r h=>by
 refine X05.sym X9 X0cw (nt:=11) rfl rfl ?_ okM;unfold X57 at h;revert h;exact λe=>oj e▸X3 [] (k:=fi)⟩
instance X031:PCs Tryz.prog 170 (∀ (a0:Int) (r:Bool),X9r a0=some r->X05 Tryz.prog 170 [(aI .i64 a0)] (aB r)):=⟨λa0 r h=>by
 refine X05.sym X9 X0cv (nt:=13) rfl rfl ?_ okM;unfold X9r at h;revert h;exact λe=>oj e▸X3 [] (k:=fi)⟩
instance X04y:PCs Tryz.prog 171 (∀ (a0:X9f) (r:Bool),Xdp a0=some r->X05 Tryz.prog 171 [(X3z a0)] (aB r)):=⟨λa0 r h=>by
 refine X05.sym X9 X0cu (nt:=22) rfl rfl ?_ okM;unfold Xdp at h;revert h;exact λe=>oj e▸X3 [] (k:=fi)⟩
end Go.Av.Tryz