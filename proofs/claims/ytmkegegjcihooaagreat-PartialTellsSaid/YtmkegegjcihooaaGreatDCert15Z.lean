/- Printed by decomp.py: that the program computes the functions. -/
import Derived.Test.YtmkegegjcihooaaGreatDCert14Z
set_option linter.all false

namespace Go.Av.Tryz
open Go.Proofs Go.D
set_option maxRecDepth 100000
set_option maxHeartbeats 40000000
theorem Xhh {Q:Xp->St->Mu->Prop} {μ:Mu} (X4w:Int) (y0_2:Bool) (Xe:Xt):∀ (n:Nat) (Xj:(List Int)) (Xk3:Int) (X01:Nb Xj) (o:X9n) (h:X4r X4w y0_2 Xe n Xj Xk3=some o)
  (C0:∀ (Xz:(List Int)) (X0f:Nb Xz),o=X9n.x0 Xz->X0 Tryz.prog 61 0 Q (.exit (.exit 0)) [] ⟨fr [(7,(slE X0f.1 0 (List.map (aI .i64) Xz)))],hp ([]++opE X0f.1 0 1 (List.map (aI .i64) Xz)),1⟩ μ),
  X0 Tryz.prog 61 0 Q (.loop (X0w 0 (Xd Tryz.f68))) [] ⟨fr [(1,(aI .i64 X4w)),(2,(aB y0_2)),(3,(AV.ptr 0 0 0)),(7,(slE X01.1 1 (List.map (aI .i64) Xj))),(8,(aI .i64 Xk3))],hp ([(0,Ob [(Xb false Xe)] 2)]++opE X01.1 1 1 (List.map (aI .i64) Xj)),2⟩ μ:=by
 intro n
 induction n with
 |zero=>intro Xj Xk3 X01 o h C0;cases h
 |succ n ih =>
  intro Xj Xk3 X01 o h C0;rw[X4r] at h;rcases X01 with ⟨_|_,X0x⟩
  ·
   refine X0.round ?_;revert h;refine brI (λh238=>?_) λh238=>λe=>X3 [Bf] (k:=wkT [(0,1)] (C0 _  nbF (oj e).symm));refine bI λo306 h307=>rnI [Bt] ?_;intro h;refine wkT [] (X0.cut (Xcp X4w y0_2 Xe Xk3 _ _ _ nbF _ h307 ?_));intro X1h X3d eo306;subst eo306;refine X0.glue ?_;try dsimp only at h
   rcases X3d with ⟨_|_,X9z⟩
   ·
    exact X3 [.wrap] (k:=wkT [] (ih  _ _ nbF o h C0))
   obtain rfl:=X9z rfl;exact X3 [.wrap] (k:=wkT [] (ih  _ _ nbS o h C0))
  obtain rfl:=X0x rfl;refine X0.round ?_;revert h;refine brI (λh308=>?_) λh308=>λe=>X3 [Bf] (k:=wkT [] (C0 _  nbS (oj e).symm));refine bI λo354 h355=>rnI [Bt] ?_;intro h;refine wkT [] (X0.cut (Xcp X4w y0_2 Xe Xk3 _ _ _ nbS _ h355 ?_));intro X1h X3d eo354;subst eo354;refine X0.glue ?_;try dsimp only at h
  rcases X3d with ⟨_|_,X9z⟩
  ·
   exact X3 [.wrap] (k:=wkT [] (ih  _ _ nbF o h C0))
  obtain rfl:=X9z rfl;exact X3 [.wrap] (k:=wkT [] (ih  _ _ nbS o h C0))
instance Xy1:PCs Tryz.prog 68 (∀ (a0:Xt) (a1:Int) (a2:Bool) (r:(List Int)),X80 a0 a1 a2=some r->X05 Tryz.prog 68 [(Xb false a0),(aI .i64 a1),(aB a2)] (Lt (List.map (aI .i64) r))):=⟨λa0 a1 a2 r h=>by
 refine X05.sym X9 fn68 (nt:=61) rfl rfl ?_ okM;unfold X80 at h;revert h;refine bI λo356 h357=>rnI [] ?_;intro h;refine wkT [] (X0.cut (Xhh a1 a2 a0 _ _ _ nbS _ h357 ?_));intro Xz X0f eo356;subst eo356;refine X0.glue ?_;try dsimp only at h
 rcases X0f with ⟨_|_,X4s⟩<;>(try obtain rfl:=X4s rfl);all_goals
  revert h;exact λe=>oj e▸X3 [] (k:=fi)⟩
instance X02u:PCs Tryz.prog 91 (∀ (a0:Xf) (a1:Int) (r:(List Int)),Xdj a0 a1=some r->X05 Tryz.prog 91 [(Xc false a0),(aI .i64 a1)] (Lt (List.map (aI .i64) r))):=⟨λa0 a1 r h=>by
 refine X05.sym X9 fn91 (nt:=9) rfl rfl ?_ okM;unfold Xdj at h;revert h;exact bI λv1 h2=>λe=>oj e▸X3 [.pure _ (Lt (List.map (aI .i64) v1))] (k:=fi)⟩
instance X04x:PCs Tryz.prog 31 (∀ (a0:Xf) (a1:Int) (r:(List Int)),Xfe a0 a1=some r->X05 Tryz.prog 31 [(Xc false a0),(aI .i64 a1)] (Lt (List.map (aI .i64) r))):=⟨λa0 a1 r h=>by
 refine X05.sym X9 fn31 (nt:=9) rfl rfl ?_ okM;unfold Xfe at h;revert h;exact bI λv1 h2=>λe=>oj e▸X3 [.pure _ (Lt (List.map (aI .i64) v1))] (k:=fi)⟩
theorem Xhg {Q:Xp->St->Mu->Prop} {μ:Mu} (X4w:Int) (Xe:Xf) (Xj:Xv) (X85:Int):∀ (n:Nat) (Xrt:Int) (o:X6i) (h:X4p X4w Xe Xj X85 n Xrt=some o)
  (C0:o=X6i.x0->X0 Tryz.prog 107 0 Q (.exit .ret) [] ⟨fr [(4,(aB false))],hp ([]),0⟩ μ)
  (C1:o=X6i.x1->X0 Tryz.prog 107 0 Q (.exit (.exit 0)) [] ⟨fr [(1,(aI .i64 X4w)),(2,(AV.ptr 0 0 0)),(5,(AV.ptr 1 0 0)),(6,(aI .i64 X85))],hp ([(0,Ob [(Xc false Xe)] 14),(1,Ob [(Xa false Xj)] 9)]),2⟩ μ),
  X0 Tryz.prog 107 0 Q (.loop (X0w 0 (Xd Tryz.f64))) [] ⟨fr [(1,(aI .i64 X4w)),(2,(AV.ptr 0 0 0)),(5,(AV.ptr 1 0 0)),(6,(aI .i64 X85)),(7,(aI .i64 Xrt))],hp ([(0,Ob [(Xc false Xe)] 14),(1,Ob [(Xa false Xj)] 9)]),2⟩ μ:=by
 intro n
 induction n with
 |zero=>intro Xrt o h C0 C1;cases h
 |succ n ih =>
  intro Xrt o h C0 C1;rw[X4p] at h;refine X0.round ?_;revert h;refine brI (λh27=>?_) λh27=>λe=>X3 [.el (aI .i64 (Xj.Pending.length:Int)),Bf] (k:=wkT [] (C1  (oj e).symm));refine bI λe28 h29=>?_;try have qh29:=Xi h29
  refine brI (λh30=>λe=>X3 [.el (aI .i64 (Xj.Pending.length:Int)),Bt,.el (X0i e28),Bt] (k:=wkT [] (C0  (oj e).symm))) λh30=>rnI [.el (aI .i64 (Xj.Pending.length:Int)),Bt,.el (X0i e28),Bf,.wrap] ?_;intro h;exact wkT [] (ih  _ o h C0 C1)
theorem Xky {P:Prop} (h:P:=by repeat' first|apply Ya|exact pcM|exact fq (X6 h44 rfl)|exact X04):P:=h
theorem Xkx {P:Prop} (h:P:=by repeat' first|apply Ya|exact pcM|exact fq (X5 h44 (X6 h47 h48))|exact X04):P:=h
instance Xy0:PCs Tryz.prog 64 (∀ (a0:Xf) (a1:Int) (r:Bool),Xad a0 a1=some r->X05 Tryz.prog 64 [(Xc false a0),(aI .i64 a1)] (aB r)):=⟨λa0 a1 r h=>by
 refine X05.sym X9 fn64 (nt:=107) rfl rfl ?_ okM;unfold Xad at h;revert h;refine bI λe1 h2=>?_;try have qh2:=Xi h2
 refine bI λX073 h14=>rnI [.el (Xa false e1),.stop 2] ?_;intro h;refine X0.join (s':=⟨fr [(1,(aI .i64 a1)),(2,(AV.ptr 0 0 0)),(5,(AV.ptr 1 0 0)),(28,(aB X073))],hp ([(0,Ob [(Xc false a0)] 14),(1,Ob [(Xa false e1)] 9)]),2⟩) ?_ (λJ=>X0.cut ?_)
 ·
  revert h;refine brI (λh15=>λe=>oj e▸X3 [Bt] (k:=fi)) λh15=>bI λv16 h17=>bI λo31 h32=>rnI [Bf,.pure _ (Lt (List.map (aI .i64) v16)),.el (aI .i64 (v16.length:Int))] ?_;intro h;refine wkT [] (X0.cut (Xhg a1 a0 e1 (v16.length:Int) _ _ _ h32 ?_ ?_))
  ·
   intro eo31;subst eo31;refine X0.glue ?_;try dsimp only at h
   revert h;exact λe=>oj e▸X3 [] (k:=fi)
  intro eo31;subst eo31;refine X0.glue ?_;try dsimp only at h
  revert h;refine brI (λh33=>λe=>oj e▸X3 [Bt] (k:=fi)) λh33=>bI λv34 h35=>bI λX07f h51=>rnI [Bf,.pure _ (Lt (List.map (aI .i64) v34)),.el (aI .i64 (v34.length:Int)),.stop 14] ?_;intro h;refine X0.join (s':=⟨fr [(4,(aB X07f))],hp ([]),0⟩) ?_ (λJ=>X0.cut ?_)
  ·
   revert h;exact λe=>oj e▸X3 [] (k:=fi)
  clear h;revert h51;refine brI (λh44=>?_) λh44=>?_
  ·
   refine rnI [Gf,Gf,Gf,Gf,Gf,Gf,Gf,Gf,Gf,Gf,Gf,Gt,Gt,Gt,Gt,Gt,.stop 999999] (o:=Xky) ?_;refine brI (λh45=>?_) λh45=>?_
   ·
    intro h;obtain rfl:=oj h;exact X3 [Gf,Gf,Gf,Gf,Gf,Gf,Gf,Gt] (o:=Xky) (k:=wkT [] (X0.glue J))
   refine brI (λh46=>?_) λh46=>?_
   ·
    intro h;obtain rfl:=oj h;exact X3 [Gt,Gt,Gt,Gt,Gt,Gt,Gt,Gt] (o:=Xky) (k:=wkT [] (X0.glue J))
   intro h;obtain rfl:=oj h;exact X3 [Gt,Gt,Gt,Gf,Gf,Gf,Gt,Gt] (o:=Xky) (k:=wkT [] (X0.glue J))
  refine brI (λh47=>?_) λh47=>?_
  ·
   refine rnI [Gt,Gt,Gt,.el (aI .i64 (e1.Marks.length:Int)),Gt,Gt,Gt,Gt,Gt,Gt,Gt,Gt,.stop 999999] ?_;refine brI (λh48=>?_) λh48=>?_
   ·
    refine brI (λh49=>?_) λh49=>?_
    ·
     intro h;obtain rfl:=oj h;exact X3 [Gt,Gt,Gt,Gt,Gt,Gf,Gf,Gf,Gf,Gf,Gf,Gf,Gt] (o:=Xkx) (k:=wkT [] (X0.glue J))
    refine brI (λh50=>?_) λh50=>?_
    ·
     intro h;obtain rfl:=oj h;exact X3 [Gt,Gt,Gt,Gt,Gt,Gt,Gt,Gt,Gt,Gt,Gt,Gt,Gt] (o:=Xkx) (k:=wkT [] (X0.glue J))
    intro h;obtain rfl:=oj h;exact X3 [Gt,Gt,Gt,Gt,Gt,Gt,Gt,Gt,Gf,Gf,Gf,Gt,Gt] (o:=Xkx) (k:=wkT [] (X0.glue J))
   intro h;obtain rfl:=oj h;exact X3 [Gf,Gf,Gf,Gf,Gf,Gf,Gf,Gf,Gf,Gf,Gf,Gf,Gf] (o:=Xkx) (k:=wkT [] (X0.glue J))
  intro h;obtain rfl:=oj h;exact X3 [Gt,Gt,Gt,X21.el (aI .i64 (e1.Marks.length:Int)),Gt,Gt,Gt,Gf,Gf,Gf,Gf,Gt,Gf,Gf,Gf,Gf,Gf,Gf,Gf,Gf,Gf,Gf,Gf,Gf,Gf] (o:=by repeat' first|apply Ya|exact pcM|exact fq (X5 h44 (X5 h47 rfl))|exact X04) (k:=wkT [] (X0.glue J))
 clear h;revert h14;refine bI λe9 h10=>?_;try have qh10:=Xi h10
 refine brI (λh11=>?_) λh11=>?_
 ·
  intro h;obtain rfl:=oj h;exact X3 [.el (X2g e9),Gf,Gf,Gf,Gt] (k:=wkT [] (X0.glue J))
 refine bI λv12 h13=>?_;intro h;obtain rfl:=oj h;exact X3 [.el (X2g e9),Gt,Gt,.pure _ (aI .i64 v12),Gt] (k:=wkT [] (X0.glue J))⟩
theorem Xit {Q:Xp->St->Mu->Prop} {μ:Mu} (Xe:Xf):∀ (n:Nat) (X6v:Int) (o:X75) (h:X46 Xe n X6v=some o)
  (C0:o=X75.x0->X0 Tryz.prog 76 0 Q (.exit .ret) [] ⟨fr [(2,(aI .i64 8))],hp ([]),0⟩ μ)
  (C1:o=X75.x1->X0 Tryz.prog 76 0 Q (.exit (.exit 0)) [] ⟨fr [(1,(AV.ptr 0 0 0))],hp ([(0,Ob [(Xc false Xe)] 14)]),1⟩ μ),
  X0 Tryz.prog 76 0 Q (.loop (X0w 0 (Xd Tryz.f26))) [] ⟨fr [(1,(AV.ptr 0 0 0)),(3,(aI .i64 X6v))],hp ([(0,Ob [(Xc false Xe)] 14)]),1⟩ μ:=by
 intro n
 induction n with
 |zero=>intro X6v o h C0 C1;cases h
 |succ n ih =>
  intro X6v o h C0 C1;rw[X46] at h;refine X0.round ?_;revert h;refine brI (λh55=>?_) λh55=>λe=>X3 [.el (aI .i64 (Xe.Queues.length:Int)),Bf] (k:=wkT [] (C1  (oj e).symm));refine bI λXz6 h71=>rnI [.el (aI .i64 (Xe.Queues.length:Int)),Bt,.stop 6] ?_;intro h;refine X0.join (s':=⟨fr [(1,(AV.ptr 0 0 0)),(3,(aI .i64 X6v)),(64,(aB Xz6))],hp ([(0,Ob [(Xc false Xe)] 14)]),1⟩) ?_ (λJ=>X0.cut ?_)
  ·
   revert h;refine brI (λh72=>λe=>X3 [Bt] (k:=wkT [] (C0  (oj e).symm))) λh72=>rnI [Bf,.wrap] ?_;intro h;exact wkT [] (ih  _ o h C0 C1)
  clear h;revert h71;refine bI λe64 h65=>?_;try have qh65:=Xi h65
  refine bI λe66 h67=>?_;try have qh67:=Xi h67
  refine brI (λh68=>?_) λh68=>?_
  ·
   intro h;obtain rfl:=oj h;exact X3 [.el (Xq false e64),.el (X8 e66),Gf,Gf,Gf,Gf,Gf,Gf,Gf,Gt] (k:=wkT [] (X0.glue J))
  refine bI λv69 h70=>?_;intro h;obtain rfl:=oj h;exact X3 [.el (Xq false e64),.el (X8 e66),Gt,Gt,Gt,Gt,.el (Xq false e64),Gt,Gt,.pure _ (aI .i64 v69),Gt] (k:=wkT [] (X0.glue J))
theorem Xis {Q:Xp->St->Mu->Prop} {μ:Mu} (X09:Xf):∀ (n:Nat) (Xb6:Int) (o:X74) (h:X45 X09 n Xb6=some o)
  (C0:o=X74.x0->X0 Tryz.prog 76 0 Q (.exit .ret) [] ⟨fr [(2,(aI .i64 8))],hp ([]),0⟩ μ)
  (C1:o=X74.x1->X0 Tryz.prog 76 0 Q (.exit (.exit 2)) [] ⟨fr [],hp ([]),0⟩ μ),
  X0 Tryz.prog 76 0 Q (.loop (X0w 1 (Xd Tryz.f26))) [] ⟨fr [(1,(AV.ptr 0 0 0)),(4,(aI .i64 Xb6))],hp ([(0,Ob [(Xc false X09)] 14)]),1⟩ μ:=by
 intro n
 induction n with
 |zero=>intro Xb6 o h C0 C1;cases h
 |succ n ih =>
  intro Xb6 o h C0 C1;rw[X45] at h;refine X0.round ?_;revert h;refine brI (λh84=>?_) λh84=>λe=>X3 [.el (aI .i64 (X09.Tasks.length:Int)),Bf] (k:=wkT [] (C1  (oj e).symm));refine bI λv85 h86=>brI (λh87=>λe=>X3 [.el (aI .i64 (X09.Tasks.length:Int)),Bt,.pure _ (aB v85),Bt] (k:=wkT [] (C0  (oj e).symm))) λh87=>rnI [.el (aI .i64 (X09.Tasks.length:Int)),Bt,.pure _ (aB v85),Bf,.wrap] ?_;intro h;exact wkT [] (ih  _ o h C0 C1)
instance X014:PCs Tryz.prog 26 (∀ (a0:Xf) (r:Int),X9o a0=some r->X05 Tryz.prog 26 [(Xc false a0)] (aI .i64 r)):=⟨λa0 r h=>by
 refine X05.sym X9 fn26 (nt:=76) rfl rfl ?_ okM;unfold X9o at h;revert h;refine bI λX071 h16=>rnI [.stop 1] ?_;intro h;refine X0.join (s':=⟨fr [(1,(AV.ptr 0 0 0)),(34,(aB X071))],hp ([(0,Ob [(Xc false a0)] 14)]),1⟩) ?_ (λJ=>X0.cut ?_)
 ·
  revert h;refine brI (λh17=>λe=>oj e▸X3 [Bt] (k:=fi)) λh17=>bI λo73 h74=>rnI [Bf] ?_;intro h;refine wkT [] (X0.cut (Xit a0 _ _ _ h74 ?_ ?_))
  ·
   intro eo73;subst eo73;refine X0.glue ?_;try dsimp only at h
   revert h;exact λe=>oj e▸X3 [] (k:=fi)
  intro eo73;subst eo73;refine X0.glue ?_;try dsimp only at h
  revert h;refine bI λo88 h89=>rnI [] ?_;intro h;refine wkT [] (X0.cut (Xis a0 _ _ _ h89 ?_ ?_))
  ·
   intro eo88;subst eo88;refine X0.glue ?_;try dsimp only at h
   revert h;exact λe=>oj e▸X3 [] (k:=fi)
  intro eo88;subst eo88;refine X0.glue ?_;try dsimp only at h
  revert h;exact λe=>oj e▸X3 [] (k:=fi)
 clear h;revert h16;refine bI λv9 h10=>brI (λh11=>?_) λh11=>?_
 ·
  intro h;obtain rfl:=oj h;exact X3 [.pure _ (aB v9),Gf,Gf,Gf,Gf,Gf,Gf,Gf,Gf,Gf,Gf,Gf,Gf,Gf,Gf,Gf,Gf,Gf,Gf,Gf,Gf] (o:=by repeat' first|apply Ya|exact pcM|exact fq (X6 h11 rfl)|exact fq (X6 (X6 h11 rfl) rfl)|exact X04) (k:=wkT [] (X0.glue J))
 refine bI λv12 h13=>brI (λh14=>?_) λh14=>?_
 ·
  intro h;obtain rfl:=oj h;exact X3 [.pure _ (aB v9),Gt,Gt,Gt,.pure _ (aI .i64 v12),Gt,Gf,Gf,Gf,Gf,Gf,Gf,Gf,Gf,Gf,Gf,Gf,Gf,Gf,Gf,Gf,Gf] (o:=by repeat' first|apply Ya|exact pcM|exact fq (X5 h11 h14)|exact fq (X6 (X5 h11 h14) rfl)|exact X04) (k:=wkT [] (X0.glue J))
 refine rnI [.pure _ (aB v9),Gt,Gt,Gt,.pure _ (aI .i64 v12),Gt,Gt,Gt,Gt,.el (aI .i64 (a0.Tasks.length:Int)),Gt,Gt,Gt,Gt,.el (aI .i64 (a0.Graph.Ops.length:Int)),Gt,.stop 999999] (o:=by repeat' first|apply Ya|exact pcM|exact fq (X5 h11 h14)|exact X04) ?_;refine brI (λh15=>?_) λh15=>?_
 ·
  intro h;obtain rfl:=oj h;exact X3 [Gf,Gf,Gf,Gf,Gf,Gf,Gf,Gf] (o:=by repeat' first|apply Ya|exact pcM|exact fq (X5 (X5 h11 h14) h15)|exact X04) (k:=wkT [] (X0.glue J))
 intro h;obtain rfl:=oj h;exact X3 [Gt,Gt,Gt,.el (aI .i64 (a0.Queues.length:Int)),Gt,Gt,Gt,Gt,.el (aI .i64 (a0.Graph.Channels.length:Int)),Gt] (o:=by repeat' first|apply Ya|exact pcM|exact fq (X5 (X5 h11 h14) h15)|exact X04) (k:=wkT [] (X0.glue J))⟩
theorem Xbt {Q:Xp->St->Mu->Prop} {μ:Mu} (X31:Xf) (Xf6:(List Xg)) (y2_4:Int) (Xrn:Int) (Xqa:Xg) (Xpg:Nb Xf6):∀ (n:Nat) (Xcj:Int) (o:X8j) (h:X3o X31 Xf6 y2_4 Xrn Xqa n Xcj=some o)
  (C0:∀ (Xbf:(List Xg)) (Xeo:Int) (Xbb:Nb Xbf),o=X8j.x0 Xbf Xeo->X0 Tryz.prog 61 0 Q (.exit (.exit 4)) [] ⟨fr [(1,(AV.ptr 0 0 0)),(3,(slE Xbb.1 1 (Xbf.map X1))),(4,(aI .i64 y2_4)),(5,(aI .i64 Xrn)),(6,(AV.ptr 2 0 0)),(7,(aI .i64 Xeo))],hp ([(0,Ob [(Xc false X31)] 14),(2,Ob [(X1 Xqa)] 11)]++opE Xbb.1 1 11 (Xbf.map X1)),3⟩ μ),
  X0 Tryz.prog 61 0 Q (.loop (X0w 2 (Xd Tryz.f42))) [] ⟨fr [(1,(AV.ptr 0 0 0)),(3,(slE Xpg.1 1 (Xf6.map X1))),(4,(aI .i64 y2_4)),(5,(aI .i64 Xrn)),(6,(AV.ptr 2 0 0)),(7,(aI .i64 Xcj))],hp ([(0,Ob [(Xc false X31)] 14),(2,Ob [(X1 Xqa)] 11)]++opE Xpg.1 1 11 (Xf6.map X1)),3⟩ μ:=by
 intro n
 induction n with
 |zero=>intro Xcj o h C0;cases h
 |succ n ih =>
  intro Xcj o h C0;rw[X3o] at h;rcases Xpg with ⟨_|_,X041⟩
  ·
   refine X0.round ?_;revert h;refine bI λXpn h2273=>rnI [.stop 10] ?_;intro h;refine X0.join (s':=⟨fr [(1,(AV.ptr 0 0 0)),(3,(AV.ref 1 0 (Xf6.length))),(4,(aI .i64 y2_4)),(5,(aI .i64 Xrn)),(6,(AV.ptr 2 0 0)),(7,(aI .i64 Xcj)),(47,(aB Xpn))],hp ([(0,Ob [(Xc false X31)] 14),(1,Ob (Xf6.map X1) 11),(2,Ob [(X1 Xqa)] 11)]),3⟩) ?_ (λJ=>X0.cut ?_)
   ·
    revert h;refine brI (λh2274=>?_) λh2274=>λe=>X3 [Bf] (k:=wkT [] (C0 _ _  nbF (oj e).symm));refine rnI [Bt,.wrap] ?_;intro h;exact wkT [] (ih  _ o h C0)
   clear h;revert h2273;refine brI (λh2268=>?_) λh2268=>?_
   ·
    refine bI λe2269 h2270=>?_;try have qh2270:=Xi h2270
    refine bI λv2271 h2272=>?_;intro h;obtain rfl:=oj h;exact X3 [Gt,Gt,Gt,Gt,.wrap,Gt,.el (X1 e2269),Gt,.ld (X1 e2269),Gt,.pure _ (aB v2271)] (k:=wkT [] (X0.glue J))
   intro h;obtain rfl:=oj h;exact X3 [Gf,Gf,Gf,Gf,Gf,Gf,Gf,Gf] (k:=wkT [] (X0.glue J))
  obtain rfl:=X041 rfl;refine X0.round ?_;revert h;refine bI λX03v h2282=>rnI [.stop 10] ?_;intro h;refine X0.join (s':=⟨fr [(1,(AV.ptr 0 0 0)),(3,AV.nils),(4,(aI .i64 y2_4)),(5,(aI .i64 Xrn)),(6,(AV.ptr 2 0 0)),(7,(aI .i64 Xcj)),(47,(aB X03v))],hp ([(0,Ob [(Xc false X31)] 14),(2,Ob [(X1 Xqa)] 11)]),3⟩) ?_ (λJ=>X0.cut ?_)
  ·
   revert h;refine brI (λh2283=>?_) λh2283=>λe=>X3 [Bf] (k:=wkT [] (C0 _ _  nbS (oj e).symm));refine rnI [Bt,.wrap] ?_;intro h;exact wkT [] (ih  _ o h C0)
  clear h;revert h2282;refine brI (λh2279=>?_) λh2279=>?_
  ·
   refine bI λe2280 h2281=>?_;try have qh2281:=Xi h2281
   intro h
   first|exact absurd (h2281) (by simp[X14];done)|(simp[X14,h2279] at h;done)|(simp[h2279] at hg;done)|exact absurd (h2281) (by simp[X14,h2279];done)
  intro h;obtain rfl:=oj h;exact X3 [Gf,Gf,Gf,Gf,Gf,Gf,Gf,Gf] (k:=wkT [] (X0.glue J))
end Go.Av.Tryz