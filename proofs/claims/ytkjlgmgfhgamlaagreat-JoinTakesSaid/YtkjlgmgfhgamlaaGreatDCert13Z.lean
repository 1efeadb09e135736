/- Printed by decomp.py: that the program computes the functions. -/
import Derived.Test.YtkjlgmgfhgamlaaGreatDCert12Z
set_option linter.all false

namespace Go.Av.Tryz
open Go.Proofs Go.D
set_option maxRecDepth 10000
set_option maxHeartbeats 40000000
instance X015:PCs Tryz.prog 26 (∀ (a0:Xo) (r:Int),Xb5 a0=some r->X0b Tryz.prog 26 [(Xa false a0)] (aI .i64 r)):=⟨λa0 r h=>by
 refine X0b.sym X3 fn26 (nt:=72) rfl rfl ?_ okM;unfold Xb5 at h;revert h;refine bI λXzd h28=>rnI [.stop 1] ?_;intro h;refine X2.join (s':=⟨fr [(1,(AV.ptr 0 0 0)),(45,(aB Xzd))],hp ([(0,Ob [(Xa false a0)] 9)]),1⟩) ?_ (λJ=>X2.cut ?_)
 ·
  revert h;refine brI (λh29=>λe=>oj e▸X6 [Bt] (k:=fi)) λh29=>bI λv30 h31=>brI (λh32=>λe=>oj e▸X6 [Bf,.pure _ (aI .i64 v30),Bt] (k:=fi)) λh32=>bI λo64 h65=>rnI [Bf,.pure _ (aI .i64 v30),Bf] ?_;intro h;refine wkT [] (X2.cut (Xid a0 _ _ _ h65 ?_ ?_))
  ·
   intro eo64;subst eo64;refine X2.glue ?_;try dsimp only at h
   revert h;exact λe=>oj e▸X6 [] (k:=fi)
  intro eo64;subst eo64;refine X2.glue ?_;try dsimp only at h
  revert h;exact λe=>oj e▸X6 [] (k:=fi)
 clear h;revert h28;refine brI (λh15=>?_) λh15=>?_
 ·
  intro h;obtain rfl:=oj h;exact X6 [Gf,Gf,Gf,Gf,Gf,Gf,Gf,Gf,Gf,Gf,Gf,Gf,Gf,Gf,Gf,Gf,Gf,Gf,Gf,Gf,Gf,Gf,Gf,Gf,Gf] (o:=by repeat' first|apply Ya|exact pcM|exact fq (X7 h15 rfl)|exact fq (X7 (X7 h15 rfl) rfl)|exact fq (X7 (X7 (X7 h15 rfl) rfl) rfl)|exact fq (X7 (X7 (X7 (X7 h15 rfl) rfl) rfl) rfl)|exact fq (X7 (X7 (X7 (X7 (X7 h15 rfl) rfl) rfl) rfl) rfl)|exact fq (X7 (X7 (X7 (X7 (X7 (X7 h15 rfl) rfl) rfl) rfl) rfl) rfl)|exact Xu) (k:=wkT [] (X2.glue J))
 refine brI (λh16=>?_) λh16=>?_
 ·
  intro h;obtain rfl:=oj h;exact X6 [Gt,Gt,Gt,Gf,Gf,Gf,Gf,Gf,Gf,Gf,Gf,Gf,Gf,Gf,Gf,Gf,Gf,Gf,Gf,Gf,Gf,Gf,Gf,Gf,Gf] (o:=by repeat' first|apply Ya|exact pcM|exact fq (Xb h15 h16)|exact fq (X7 (Xb h15 h16) rfl)|exact fq (X7 (X7 (Xb h15 h16) rfl) rfl)|exact fq (X7 (X7 (X7 (Xb h15 h16) rfl) rfl) rfl)|exact fq (X7 (X7 (X7 (X7 (Xb h15 h16) rfl) rfl) rfl) rfl)|exact fq (X7 (X7 (X7 (X7 (X7 (Xb h15 h16) rfl) rfl) rfl) rfl) rfl)|exact Xu) (k:=wkT [] (X2.glue J))
 refine brI (λh17=>?_) λh17=>?_
 ·
  intro h;obtain rfl:=oj h;exact X6 [Gt,Gt,Gt,Gt,Gt,Gt,X2d.el (aI .i64 (a0.Pending.length:Int)),Gt,Gf,Gf,Gf,Gf,Gf,Gf,Gf,Gf,Gf,Gf,Gf,Gf,Gf,Gf,Gf,Gf,Gf,Gf] (o:=by repeat' first|apply Ya|exact pcM|exact fq (Xb h15 h16)|exact fq (Xb (Xb h15 h16) h17)|exact fq (X7 (Xb (Xb h15 h16) h17) rfl)|exact fq (X7 (X7 (Xb (Xb h15 h16) h17) rfl) rfl)|exact fq (X7 (X7 (X7 (Xb (Xb h15 h16) h17) rfl) rfl) rfl)|exact fq (X7 (X7 (X7 (X7 (Xb (Xb h15 h16) h17) rfl) rfl) rfl) rfl)|exact Xu) (k:=wkT [] (X2.glue J))
 refine rnI [Gt,Gt,Gt,Gt,Gt,Gt,.el (aI .i64 (a0.Pending.length:Int)),Gt,Gt,Gt,Gt,Gt,.stop 999999] (o:=by repeat' first|apply Ya|exact pcM|exact fq (Xb h15 h16)|exact fq (Xb (Xb h15 h16) h17)|exact Xu) ?_;refine brI (λh18=>?_) λh18=>?_
 ·
  intro h;obtain rfl:=oj h;exact X6 [Gf,Gf,Gf,Gf,Gf,Gf,Gf,Gf,Gf,Gf,Gf,Gf,Gf,Gf] (o:=by repeat' first|apply Ya|exact pcM|exact fq (Xb (Xb (Xb h15 h16) h17) h18)|exact fq (X7 (Xb (Xb (Xb h15 h16) h17) h18) rfl)|exact fq (X7 (X7 (Xb (Xb (Xb h15 h16) h17) h18) rfl) rfl)|exact fq (X7 (X7 (X7 (Xb (Xb (Xb h15 h16) h17) h18) rfl) rfl) rfl)|exact Xu) (k:=wkT [] (X2.glue J))
 refine brI (λh19=>?_) λh19=>?_
 ·
  intro h;obtain rfl:=oj h;exact X6 [Gt,Gt,Gt,Gt,Gf,Gf,Gf,Gf,Gf,Gf,Gf,Gf,Gf,Gf] (o:=by repeat' first|apply Ya|exact pcM|exact fq (Xb (Xb (Xb h15 h16) h17) h18)|exact fq (Xb (Xb (Xb (Xb h15 h16) h17) h18) h19)|exact fq (X7 (Xb (Xb (Xb (Xb h15 h16) h17) h18) h19) rfl)|exact fq (X7 (X7 (Xb (Xb (Xb (Xb h15 h16) h17) h18) h19) rfl) rfl)|exact Xu) (k:=wkT [] (X2.glue J))
 refine bI λv20 h21=>brI (λh22=>?_) λh22=>?_
 ·
  intro h;obtain rfl:=oj h;exact X6 [Gt,Gt,Gt,Gt,Gt,Gt,.pure _ (aB v20),Gt,Gf,Gf,Gf,Gf,Gf,Gf,Gf] (o:=by repeat' first|apply Ya|exact pcM|exact fq (Xb (Xb (Xb h15 h16) h17) h18)|exact fq (Xb (Xb (Xb (Xb h15 h16) h17) h18) h19)|exact fq (Xb (Xb (Xb (Xb (Xb h15 h16) h17) h18) h19) h22)|exact fq (X7 (Xb (Xb (Xb (Xb (Xb h15 h16) h17) h18) h19) h22) rfl)|exact Xu) (k:=wkT [] (X2.glue J))
 refine bI λv23 h24=>brI (λh25=>?_) λh25=>?_
 ·
  intro h;obtain rfl:=oj h;exact X6 [Gt,Gt,Gt,Gt,Gt,Gt,.pure _ (aB v20),Gt,Gt,Gt,Gt,.pure _ (aB v23),Gt,Gf,Gf,Gf] (o:=by repeat' first|apply Ya|exact pcM|exact fq (Xb (Xb (Xb h15 h16) h17) h18)|exact fq (Xb (Xb (Xb (Xb h15 h16) h17) h18) h19)|exact fq (Xb (Xb (Xb (Xb (Xb h15 h16) h17) h18) h19) h22)|exact fq (Xb (Xb (Xb (Xb (Xb (Xb h15 h16) h17) h18) h19) h22) h25)|exact Xu) (k:=wkT [] (X2.glue J))
 refine bI λv26 h27=>?_;intro h;obtain rfl:=oj h;exact X6 [Gt,Gt,Gt,Gt,Gt,Gt,.pure _ (aB v20),Gt,Gt,Gt,Gt,.pure _ (aB v23),Gt,Gt,Gt,.pure _ (aB v26),Gt] (o:=by repeat' first|apply Ya|exact pcM|exact fq (Xb (Xb (Xb h15 h16) h17) h18)|exact fq (Xb (Xb (Xb (Xb h15 h16) h17) h18) h19)|exact fq (Xb (Xb (Xb (Xb (Xb h15 h16) h17) h18) h19) h22)|exact fq (Xb (Xb (Xb (Xb (Xb (Xb h15 h16) h17) h18) h19) h22) h25)|exact Xu) (k:=wkT [] (X2.glue J))⟩
instance Xwg:PCs Tryz.prog 106 (∀ (a0:Xp) (r:Bool),X7u a0=some r->X0b Tryz.prog 106 [(X0n a0)] (aB r)):=⟨λa0 r h=>by
 refine X0b.sym X3 X0dn (nt:=15) rfl rfl ?_ okM;unfold X7u at h;revert h;exact bI λv1 h2=>λe=>oj e▸X6 [.pure _ (aB v1)] (k:=fi)⟩
instance X010:PCs Tryz.prog 71 (∀ (a0:Xo) (a1:Int) (a2:Int) (a3:Xp) (r:Int),X8q a0 a1 a2 a3=some r->X0b Tryz.prog 71 [(Xa false a0),(aI .u8 a1),(aI .i64 a2),(X0n a3)] (aI .i64 r)):=⟨λa0 a1 a2 a3 r h=>by
 refine X0b.sym X3 fn71 (nt:=38) rfl rfl ?_ okM;unfold X8q at h;revert h;refine bI λv1 h2=>brI (λh3=>λe=>oj e▸X6 [.pure _ (aI .i64 v1),Bt] (k:=fi)) λh3=>bI λX06r h9=>rnI [.pure _ (aI .i64 v1),Bf,.stop 4] ?_;intro h;refine X2.join (s':=⟨fr [(4,(AV.ptr 0 0 0)),(7,(AV.ptr 1 0 0)),(30,(aB X06r))],hp ([(0,Ob [(Xa false a0)] 9),(1,Ob [(X0n a3)] 10)]),2⟩) ?_ (λJ=>X2.cut ?_)
 ·
  revert h;exact brI (λh10=>λe=>oj e▸X6 [Bt] (k:=fi)) λh10=>bI λv11 h12=>brI (λh13=>λe=>oj e▸X6 [Bf,.pure _ (aB v11),Bt] (k:=fi)) λh13=>brI (λh14=>λe=>oj e▸X6 [Bf,.pure _ (aB v11),Bf,.el (aI .i64 (a0.Pending.length:Int)),Bt] (k:=fi)) λh14=>λe=>oj e▸X6 [Bf,.pure _ (aB v11),Bf,.el (aI .i64 (a0.Pending.length:Int)),Bf] (k:=fi)
 clear h;revert h9;refine brI (λh7=>?_) λh7=>?_
 ·
  intro h;obtain rfl:=oj h;exact X6 [Gf,Gf,Gf,Gf,Gf,Gf,Gf] (o:=by repeat' first|apply Ya|exact pcM|exact fq (X7 h7 rfl)|exact Xu) (k:=wkT [] (X2.glue J))
 refine brI (λh8=>?_) λh8=>?_
 ·
  intro h;obtain rfl:=oj h;exact X6 [Gt,Gt,Gf,Gf,Gf,Gf,Gf] (o:=by repeat' first|apply Ya|exact pcM|exact fq (Xb h7 h8)|exact Xu) (k:=wkT [] (X2.glue J))
 intro h;obtain rfl:=oj h;exact X6 [Gt,Gt,Gt,Gt,Gt,Gt,.el (aI .i64 (a0.Marks.length:Int)),Gt] (o:=by repeat' first|apply Ya|exact pcM|exact fq (Xb h7 h8)|exact Xu) (k:=wkT [] (X2.glue J))⟩
instance Xxw:PCs Tryz.prog 107 (∀ (a0:X1z) (r:Int),X9j a0=some r->X0b Tryz.prog 107 [(X1y a0)] (aI .i64 r)):=⟨λa0 r h=>by
 refine X0b.sym X3 X0dm (nt:=6) rfl rfl ?_ okM;unfold X9j at h;revert h;exact bI λv1 h2=>brI (λh3=>λe=>oj e▸X6 [.pure _ (aB v1),Bt] (k:=fi)) λh3=>λe=>oj e▸X6 [.pure _ (aB v1),Bf] (k:=fi)⟩
instance X01d:PCs Tryz.prog 108 (∀ (a0:Int) (a1:Int) (r:Int),X90 a0 a1=some r->X0b Tryz.prog 108 [(aI .i64 a0),(aI .i64 a1)] (aI .i64 r)):=⟨λa0 a1 r h=>by
 refine X0b.sym X3 X0dl (nt:=17) rfl rfl ?_ okM;unfold X90 at h;revert h;exact brI (λh1=>λe=>oj e▸X6 [Bt] (k:=fi)) λh1=>brI (λh2=>λe=>oj e▸X6 [Bf,Bt] (k:=fi)) λh2=>λe=>oj e▸X6 [Bf,Bf] (k:=fi)⟩
instance X01o:PCs Tryz.prog 200 (∀ (a0:Bool) (r:Int),X92 a0=some r->X0b Tryz.prog 200 [(aB a0)] (aI .i64 r)):=⟨λa0 r h=>by
 refine X0b.sym X3 X0bt (nt:=4) rfl rfl ?_ okM;unfold X92 at h;revert h;exact brI (λh1=>λe=>oj e▸X6 [Bt] (k:=fi)) λh1=>λe=>oj e▸X6 [Bf] (k:=fi)⟩
instance X01q:PCs Tryz.prog 202 (∀ (a0:Int) (r:Int),Xdj a0=some r->X0b Tryz.prog 202 [(aI .i64 a0)] (aI .i64 r)):=⟨λa0 r h=>by
 refine X0b.sym X3 X0br (nt:=7) rfl rfl ?_ okM;unfold Xdj at h;revert h;exact λe=>oj e▸X6 [.wrap,.wrap] (k:=fi)⟩
theorem Xii {Q:X03->St->Mu->Prop} {μ:Mu} (X0c:Int):∀ (n:Nat) (X9a:Int) (Xjp:Int) (o:X9u) (h:X9d X0c n X9a Xjp=some o)
  (C0:∀ (X76:Int),o=X9u.x0 X76->X2 Tryz.prog 14 0 Q (.exit (.exit 0)) [] ⟨fr [(3,(aI .i64 X76))],hp ([]),0⟩ μ),
  X2 Tryz.prog 14 0 Q (.loop (X2o 0 (Xd Tryz.f201))) [] ⟨fr [(0,(aI .i64 X0c)),(3,(aI .i64 X9a)),(4,(aI .i64 Xjp))],hp ([]),0⟩ μ:=by
 intro n
 induction n with
 |zero=>intro X9a Xjp o h C0;cases h
 |succ n ih =>
  intro X9a Xjp o h C0;rw[X9d] at h;refine X2.round ?_;revert h;refine brI (λh4=>?_) λh4=>λe=>X6 [Bf] (k:=wkT [] (C0 _  (oj e).symm));refine rnI [Bt,.wrap,.wrap] ?_;intro h;exact wkT [] (ih  _ _ o h C0)
instance X01n:PCs Tryz.prog 201 (∀ (a0:Int) (r:Int),Xgi a0=some r->X0b Tryz.prog 201 [(aI .i64 a0)] (aI .i64 r)):=⟨λa0 r h=>by
 refine X0b.sym X3 X0bs (nt:=14) rfl rfl ?_ okM;unfold Xgi at h;revert h;refine bI λo5 h6=>rnI [] ?_;intro h;refine wkT [] (X2.cut (Xii a0 _ _ _ _ h6 ?_));intro X76 eo5;subst eo5;refine X2.glue ?_;try dsimp only at h
 revert h;exact λe=>oj e▸X6 [] (k:=fi)⟩
instance X034:PCs Tryz.prog 203 (∀ (a0:Int) (r:Int),Xij a0=some r->X0b Tryz.prog 203 [(aI .i64 a0)] (aI .i64 r)):=⟨λa0 r h=>by
 refine X0b.sym X3 X0bq (nt:=11) rfl rfl ?_ okM;unfold Xij at h;revert h;exact brI (λh1=>λe=>oj e▸X6 [Bt,.wrap,.wrap] (k:=fi)) λh1=>λe=>oj e▸X6 [Bf,.wrap] (k:=fi)⟩
instance Xwk:PCs Tryz.prog 204 (∀ (a0:Int) (a1:Int) (a2:Int) (r:Bool),Xdk a0 a1 a2=some r->X0b Tryz.prog 204 [(aI .u8 a0),(aI .i64 a1),(aI .i64 a2)] (aB r)):=⟨λa0 a1 a2 r h=>by
 refine X0b.sym X3 X0bp (nt:=46) rfl rfl ?_ okM;unfold Xdk at h;revert h;exact brI (λh1=>λe=>oj e▸X6 [Bt] (k:=fi)) λh1=>brI (λh2=>λe=>oj e▸X6 [Bf,Bt] (k:=fi)) λh2=>brI (λh3=>λe=>oj e▸X6 [Bf,Bf,Bt] (k:=fi)) λh3=>brI (λh4=>λe=>oj e▸X6 [Bf,Bf,Bf,Bt] (k:=fi)) λh4=>brI (λh5=>λe=>oj e▸X6 [Bf,Bf,Bf,Bf,Bt] (k:=fi)) λh5=>λe=>oj e▸X6 [Bf,Bf,Bf,Bf,Bf] (k:=fi)⟩
theorem Xik {Q:X03->St->Mu->Prop} {μ:Mu} (Xfv:Int):∀ (n:Nat) (Xa8:Int) (Xr2:Int) (o:X9v) (h:X9e Xfv n Xa8 Xr2=some o)
  (C0:∀ (Xn6:Int),o=X9v.x0 Xn6->X2 Tryz.prog 74 0 Q (.exit (.exit 1)) [] ⟨fr [(1,(aI .i64 Xn6))],hp ([]),0⟩ μ),
  X2 Tryz.prog 74 0 Q (.loop (X2o 0 (Xd Tryz.f182))) [] ⟨fr [(1,(aI .i64 Xa8)),(2,(aI .i64 Xfv)),(7,(aI .i64 Xr2))],hp ([]),0⟩ μ:=by
 intro n
 induction n with
 |zero=>intro Xa8 Xr2 o h C0;cases h
 |succ n ih =>
  intro Xa8 Xr2 o h C0;rw[X9e] at h;refine X2.round ?_;revert h;refine bI λv25 h26=>brI (λh27=>?_) λh27=>λe=>X6 [.pure _ (aI .i64 v25),Bf] (k:=wkT [] (C0 _  (oj e).symm));refine bI λv28 h29=>rnI [.pure _ (aI .i64 v25),Bt,.pure _ (aI .i64 v28),.wrap] ?_;intro h;exact wkT [] (ih  _ _ o h C0)
instance X01p:PCs Tryz.prog 182 (∀ (a0:Int) (a1:Int) (a2:Int) (r:Int),Xbf a0 a1 a2=some r->X0b Tryz.prog 182 [(aI .u8 a0),(aI .i64 a1),(aI .i64 a2)] (aI .i64 r)):=⟨λa0 a1 a2 r h=>by
 refine X0b.sym X3 X0c1 (nt:=74) rfl rfl ?_ okM;unfold Xbf at h;revert h;refine brI (λh1=>λe=>oj e▸X6 [Bt,.wrap] (k:=fi)) λh1=>brI (λh2=>bI λv3 h4=>λe=>oj e▸X6 [Bf,Bt,.pure _ (aI .i64 v3)] (k:=fi)) λh2=>brI (λh5=>λe=>oj e▸X6 [Bf,Bf,Bt,.wrap] (k:=fi)) λh5=>brI (λh6=>λe=>oj e▸X6 [Bf,Bf,Bf,Bt,.wrap] (k:=fi)) λh6=>brI (λh7=>λe=>oj e▸X6 [Bf,Bf,Bf,Bf,Bt,.wrap] (k:=fi)) λh7=>brI (λh8=>bI λv9 h10=>bI λv11 h12=>λe=>oj e▸X6 [Bf,Bf,Bf,Bf,Bf,Bt,.pure _ (aI .i64 v9),.pure _ (aI .i64 v11),.wrap] (k:=fi)) λh8=>?_;refine brI (λh13=>?_) λh13=>brI (λh32=>bI λv33 h34=>λe=>oj e▸X6 [Bf,Bf,Bf,Bf,Bf,Bf,Bf,Bt,.pure _ (aI .i64 v33)] (k:=fi)) λh32=>brI (λh35=>bI λv36 h37=>λe=>oj e▸X6 [Bf,Bf,Bf,Bf,Bf,Bf,Bf,Bf,Bt,.pure _ (aI .i64 v36)] (k:=fi)) λh35=>bI λv38 h39=>bI λv40 h41=>λe=>oj e▸X6 [Bf,Bf,Bf,Bf,Bf,Bf,Bf,Bf,Bf,.pure _ (aB v38),.pure _ (aI .i64 v40)] (k:=fi);refine bI λo30 h31=>rnI [Bf,Bf,Bf,Bf,Bf,Bf,Bt] ?_;intro h;refine wkT [] (X2.cut (Xik a2 _ _ _ _ h31 ?_));intro Xn6 eo30;subst eo30;refine X2.glue ?_;try dsimp only at h
 revert h;exact λe=>oj e▸X6 [] (k:=fi)⟩
instance X02y:PCs Tryz.prog 160 (∀ (a0:Xm) (a1:Int) (r:Xm),Xfd a0 a1=some r->X0b Tryz.prog 160 [(Xv a0),(aI .i64 a1)] (Xv r)):=⟨λa0 a1 r h=>by
 refine X0b.sym X3 X0ci (nt:=34) rfl rfl ?_ okM;unfold Xfd at h;revert h;refine bI λXs7 h4=>rnI [] ?_;intro h;refine X2.join (s':=⟨fr [(1,(aI .i64 a1)),(2,(AV.ptr 0 0 0)),(4,(AV.ptr 1 0 0))],hp ([(0,Ob [(Xv Xs7)] 4),(1,Ob [(Xv (Xm.mk 0 0 0 0))] 4)]),2⟩) ?_ (λJ=>X2.cut ?_)
 ·
  revert h;refine bI λXs0 h8=>rnI [] ?_;intro h;refine X2.join (s':=⟨fr [(1,(aI .i64 a1)),(2,(AV.ptr 0 0 0)),(4,(AV.ptr 1 0 0))],hp ([(0,Ob [(Xv Xs0)] 4),(1,Ob [(Xv (Xm.mk 0 0 0 0))] 4)]),2⟩) ?_ (λJ=>X2.cut ?_)
  ·
   revert h;refine bI λXnq h12=>rnI [] ?_;intro h;refine X2.join (s':=⟨fr [(1,(aI .i64 a1)),(2,(AV.ptr 0 0 0)),(4,(AV.ptr 1 0 0))],hp ([(0,Ob [(Xv Xnq)] 4),(1,Ob [(Xv (Xm.mk 0 0 0 0))] 4)]),2⟩) ?_ (λJ=>X2.cut ?_)
   ·
    revert h;exact bI λv13 h14=>λe=>oj e▸X6 [.wrap,.pure _ (aI .i64 v13)] (k:=fi)
   clear h;revert h12;refine brI (λh11=>?_) λh11=>?_
   ·
    intro h;obtain rfl:=oj h;exact X6 [Bt] (k:=wkT [] (X2.glue J))
   intro h;obtain rfl:=oj h;exact X6 [Bf] (k:=wkT [] (X2.glue J))
  clear h;revert h8;refine brI (λh7=>?_) λh7=>?_
  ·
   intro h;obtain rfl:=oj h;exact X6 [Bt] (k:=wkT [] (X2.glue J))
  intro h;obtain rfl:=oj h;exact X6 [Bf] (k:=wkT [] (X2.glue J))
 clear h;revert h4;refine brI (λh3=>?_) λh3=>?_
 ·
  intro h;obtain rfl:=oj h;exact X6 [Bt] (k:=wkT [] (X2.glue J))
 intro h;obtain rfl:=oj h;exact X6 [Bf] (k:=wkT [] (X2.glue J))⟩
instance X069:PCs Tryz.prog 140 (∀ (a0:Int) (r:Xm),Xfe a0=some r->X0b Tryz.prog 140 [(aI .i64 a0)] (Xv r)):=⟨λa0 r h=>by
 refine X0b.sym X3 X0cv (nt:=6) rfl rfl ?_ okM;unfold Xfe at h;revert h;exact bI λv1 h2=>λe=>oj e▸X6 [.pure _ (Xv v1)] (k:=fi)⟩
instance Xwh:PCs Tryz.prog 161 (∀ (a0:Xy) (a1:Xy) (r:Bool),X4w a0 a1=some r->X0b Tryz.prog 161 [(Xr a0),(Xr a1)] (aB r)):=⟨λa0 a1 r h=>by
 refine X0b.sym X3 X0ch (nt:=17) rfl rfl ?_ okM;unfold X4w at h;revert h;exact λe=>oj e▸X6 [] (k:=fi)⟩
instance X030:PCs Tryz.prog 183 (∀ (a0:Xm) (a1:Xm) (r:Xm),Xah a0 a1=some r->X0b Tryz.prog 183 [(Xv a0),(Xv a1)] (Xv r)):=⟨λa0 a1 r h=>by
 refine X0b.sym X3 X0c0 (nt:=46) rfl rfl ?_ okM;unfold Xah at h;revert h;refine brI (λh1=>λe=>oj e▸X6 [Bt] (k:=fi)) λh1=>brI (λh2=>λe=>oj e▸X6 [Bf,Bt] (k:=fi)) λh2=>bI λv3 h4=>bI λXrz h8=>rnI [Bf,Bf,.wrap,.pure _ (aI .i64 v3)] ?_;intro h;refine X2.join (s':=⟨fr [(3,(AV.ptr 0 0 0)),(4,(AV.ptr 1 0 0)),(5,(AV.ptr 2 0 0))],hp ([(0,Ob [(Xv a1)] 4),(1,Ob [(Xv (Xm.mk 0 0 0 0))] 4),(2,Ob [(Xv Xrz)] 4)]),3⟩) ?_ (λJ=>X2.cut ?_)
 ·
  revert h;refine bI λXzf h12=>rnI [] ?_;intro h;refine X2.join (s':=⟨fr [(4,(AV.ptr 0 0 0)),(5,(AV.ptr 1 0 0))],hp ([(0,Ob [(Xv (Xm.mk 0 0 0 0))] 4),(1,Ob [(Xv Xzf)] 4)]),2⟩) ?_ (λJ=>X2.cut ?_)
  ·
   revert h;exact λe=>oj e▸X6 [] (k:=fi)
  clear h;revert h12;refine brI (λh11=>?_) λh11=>?_
  ·
   intro h;obtain rfl:=oj h;exact X6 [Bt] (k:=wkT [(0,1),(1,2)] (X2.glue J))
  intro h;obtain rfl:=oj h;exact X6 [Bf] (k:=wkT [(0,1),(1,2)] (X2.glue J))
 clear h;revert h8;refine brI (λh7=>?_) λh7=>?_
 ·
  intro h;obtain rfl:=oj h;exact X6 [Bt] (k:=wkT [(0,1),(1,2),(2,18)] (X2.glue J))
 intro h;obtain rfl:=oj h;exact X6 [Bf] (k:=wkT [(0,1),(1,2),(2,18)] (X2.glue J))⟩
instance X02x:PCs Tryz.prog 162 (∀ (a0:X1) (a1:X1) (r:X1×Bool),Xd0 a0 a1=some r->X0b Tryz.prog 162 [(X0 a0),(X0 a1)] (AV.tup [(X0 r.1),(aB r.2)])):=⟨λa0 a1 r h=>by
 refine X0b.sym X3 X0cg (nt:=59) rfl rfl ?_ okM;unfold Xd0 at h;refine X0j [] ?_;refine X2.round ?_;revert h;refine bI λv3 h4=>rnI [Bt,Gt,Gt,Gt,.ix 0,Gt,Gt,Gt,Gt,Gt,.ix 0,Gt,Gt,Gt,.wrap,Gt,.ix 0,.ix 0,.pure _ (Xv v3),.ix 0] ?_;intro h;refine X2.round ?_;revert h;refine bI λj6_6 h8=>rnI [Bt,.stop 5] ?_;intro h;refine X2.join (s':=⟨fr [(2,(AV.ptr 0 0 0)),(3,(AV.ptr 1 0 0)),(4,(AV.ptr 2 0 0)),(6,(aB j6_6)),(7,(aI .i64 1))],hp ([(0,Ob [(X0 (X1.mk a0.Key a0.Span (V2.mk v3 a0.Values.e1)))] 11),(1,Ob [(X0 a1)] 11),(2,Ob [(X0 (X1.mk 0 (Xy.mk 0 0) (V2.mk (Xm.mk 0 0 0 0) (Xm.mk 0 0 0 0))))] 11)]),3⟩) ?_ (λJ=>X2.cut ?_)
 ·
  revert h;refine bI λv11 h12=>rnI [.ix 1,.ix 1,.pure _ (Xv v11),.ix 1] ?_;intro h;refine X2.round ?_;revert h;exact λe=>oj e▸X6 [Bf,.see [(51,[1]),(52,[])]] (k:=fi)
 clear h;revert h8;refine brI (λh7=>?_) λh7=>?_
 ·
  intro h;obtain rfl:=oj h;exact X6 [Gt,Gt,Gt,.ix 1,Gt,Gt,Gt,Gt,Gt,.ix 1,Gt,Gt,Gt,.wrap,Gt] (k:=wkT [] (X2.glue J))
 intro h;obtain rfl:=oj h;exact X6 [Gf,Gf,Gf,Gf,Gf,Gf,Gf,Gf,Gf,Gf,Gf,Gf,Gf] (k:=wkT [] (X2.glue J))⟩
theorem Xe0 {Q:X03->St->Mu->Prop} {μ:Mu} (Xwd:Bool) (X9g:(List X1)) (Xkk:Nb X9g) (hl:X9g.length<=140737488355328):∀ (xs:List X1) (k:Nat) (hx:X9g.drop k=xs) (X2c:X1) (Xww:Bool) (Xmg:Bool) (Xgn:(List X1)) (Xc5:Nb Xgn) (o:Xb7) (h:X14 Xwd X9g xs k X2c Xww Xmg Xgn=some o)
  (C0:∀ (X3w:X1) (Xkr:Bool) (Xg2:Bool) (Xdc:(List X1)) (Xak:Nb Xdc),o=Xb7.x0 X3w Xkr Xg2 Xdc->X2 Tryz.prog 74 0 Q (.exit (.exit 2)) [] ⟨fr [(2,(aB Xwd)),(4,(AV.ptr 0 0 0)),(9,(aB Xkr)),(10,(aB Xg2)),(11,(slE Xak.1 1 (Xdc.map X0)))],hp ([(0,Ob [(X0 X3w)] 11)]++opE Xak.1 1 11 (Xdc.map X0)),2⟩ μ),
  X2 Tryz.prog 74 0 Q (.loop (X2o 1 (Xd Tryz.f141))) [] ⟨fr [(2,(aB Xwd)),(4,(AV.ptr 0 0 0)),(8,(slE Xkk.1 1 (X9g.map X0))),(9,(aB Xww)),(10,(aB Xmg)),(11,(slE Xc5.1 2 (Xgn.map X0))),(12,(aI .i64 (k:Int)))],hp ([(0,Ob [(X0 X2c)] 11)]++opE Xkk.1 1 11 (X9g.map X0)++opE Xc5.1 2 11 (Xgn.map X0)),3⟩ μ:=by
 intro xs
 induction xs with
 |nil =>
  intro k hx X2c Xww Xmg Xgn Xc5 o h C0;have hk:=X1g hx;have hc:decide ((k:Int)<(X9g.length:Int))=false:=Yf om;rw[X14] at h;rcases Xkk with ⟨_|_,Xou⟩
  ·
   rcases Xc5 with ⟨_|_,Xdq⟩
   ·
    refine X2.round ?_;revert h;exact λe=>X6 [.el (aI .i64 (X9g.length:Int)),Bf] (k:=wkT [(1,2)] (C0 _ _ _ _  nbF (oj e).symm))
   obtain rfl:=Xdq rfl;refine X2.round ?_;revert h;exact λe=>X6 [.el (aI .i64 (X9g.length:Int)),Bf] (k:=wkT [] (C0 _ _ _ _  nbS (oj e).symm))
  ·
   obtain rfl:=Xou rfl;rcases Xc5 with ⟨_|_,Xdq⟩
   ·
    refine X2.round ?_;revert h;exact λe=>X6 [.el (aI .i64 (List.length ([]:List X1):Int)),Bf] (k:=wkT [(1,2)] (C0 _ _ _ _  nbF (oj e).symm))
   ·
    obtain rfl:=Xdq rfl;refine X2.round ?_;revert h;exact λe=>X6 [.el (aI .i64 (List.length ([]:List X1):Int)),Bf] (k:=wkT [] (C0 _ _ _ _  nbS (oj e).symm))
 |cons x xs ih =>
  intro k hx X2c Xww Xmg Xgn Xc5 o h C0;obtain⟨hk,hg,hx1⟩:=X0u hx;have hc:decide ((k:Int)<(X9g.length:Int))=true:=Yt om;rw[X14] at h;rcases Xkk with ⟨_|_,Xou⟩
  ·
   rcases Xc5 with ⟨_|_,Xdq⟩
   ·
    refine X2.round ?_;revert h;refine bI λXot h1364=>rnI [.el (aI .i64 (X9g.length:Int)),Bt,.el (X0 x),.ld (X0 x),.stop 11] ?_;intro h;refine X2.join (s':=⟨fr [(2,(aB Xwd)),(4,(AV.ptr 0 0 0)),(8,(AV.ref 1 0 (X9g.length))),(9,(aB Xww)),(10,(aB Xmg)),(11,(AV.ref 2 0 (Xgn.length))),(12,(aI .i64 (k:Int))),(13,(AV.ptr 3 0 0)),(51,(aB Xot))],hp ([(0,Ob [(X0 X2c)] 11),(1,Ob (X9g.map X0) 11),(2,Ob (Xgn.map X0) 11),(3,Ob [(X0 x)] 11)]),4⟩) ?_ (λJ=>X2.cut ?_)
    ·
     revert h;refine brI (λh1365=>?_) λh1365=>?_
     ·
      refine bI λv1366 h1367=>rnI [Bt,.pure _ (AV.tup [(X0 v1366.1),(aB v1366.2)])] ?_;intro h;exact wkT [] (ih (k+1) hx1 _ _ _ _ nbF o h C0)
     refine bI λu1368 h1369=>rnI [Bf,.no] (o:=by repeat' first|apply Ya|exact pcM|(refine X0r h1369 rfl ?_;first|(simp<;>omega)|(simp[hc,h1365]<;>omega))|(refine X08 h1369 (by decide) ?_;first|(simp<;>omega)|(simp[hc,h1365]<;>omega))|exact Xu) ?_;intro h;exact wkT [(2,5)] (ih (k+1) hx1 _ _ _ _ nbF o h C0)
    clear h;revert h1364;refine brI (λh1359=>?_) λh1359=>?_
    ·
     refine brI (λh1360=>?_) λh1360=>?_
     ·
      intro h;obtain rfl:=oj h;exact X6 [Gt,Gt,Gt,Gt,Gt,Gt,Gf,Gf,Gf,Gf,Gf,Gf,Gf,Gf,Gt] (k:=wkT [] (X2.glue J))
     refine brI (λh1361=>?_) λh1361=>?_
     ·
      refine bI λv1362 h1363=>?_;intro h;obtain rfl:=oj h;exact X6 [Gt,Gt,Gt,Gt,Gt,Gt,Gt,Gt,Gt,Gt,Gt,Gt,Gt,.pure _ (aB v1362),Gt,Gt] (k:=wkT [] (X2.glue J))
     intro h;obtain rfl:=oj h;exact X6 [Gt,Gt,Gt,Gt,Gt,Gt,Gt,Gt,Gf,Gf,Gf,Gf,Gf,Gt,Gt] (k:=wkT [] (X2.glue J))
    intro h;obtain rfl:=oj h;exact X6 [Gf,Gf,Gf,Gf,Gf,Gf,Gf,Gf,Gf,Gf,Gf,Gf,Gf,Gf,Gf] (k:=wkT [] (X2.glue J))
   obtain rfl:=Xdq rfl;refine X2.round ?_;revert h;refine bI λX03x h1381=>rnI [.el (aI .i64 (X9g.length:Int)),Bt,.el (X0 x),.ld (X0 x),.stop 11] ?_;intro h;refine X2.join (s':=⟨fr [(2,(aB Xwd)),(4,(AV.ptr 0 0 0)),(8,(AV.ref 1 0 (X9g.length))),(9,(aB Xww)),(10,(aB Xmg)),(11,AV.nils),(12,(aI .i64 (k:Int))),(13,(AV.ptr 3 0 0)),(51,(aB X03x))],hp ([(0,Ob [(X0 X2c)] 11),(1,Ob (X9g.map X0) 11),(3,Ob [(X0 x)] 11)]),4⟩) ?_ (λJ=>X2.cut ?_)
   ·
    revert h;refine brI (λh1382=>?_) λh1382=>?_
    ·
     refine bI λv1383 h1384=>rnI [Bt,.pure _ (AV.tup [(X0 v1383.1),(aB v1383.2)])] ?_;intro h;exact wkT [] (ih (k+1) hx1 _ _ _ _ nbS o h C0)
    refine bI λu1385 h1386=>rnI [Bf,.no] (o:=by repeat' first|apply Ya|exact pcM|(refine X0r h1386 rfl ?_;first|(simp<;>omega)|(simp[hc,h1382]<;>omega))|(refine X08 h1386 (by decide) ?_;first|(simp<;>omega)|(simp[hc,h1382]<;>omega))|exact Xu) ?_;intro h;exact wkT [(2,5)] (ih (k+1) hx1 _ _ _ _ nbF o h C0)
   clear h;revert h1381;refine brI (λh1376=>?_) λh1376=>?_
   ·
    refine brI (λh1377=>?_) λh1377=>?_
    ·
     intro h;obtain rfl:=oj h;exact X6 [Gt,Gt,Gt,Gt,Gt,Gt,Gf,Gf,Gf,Gf,Gf,Gf,Gf,Gf,Gt] (k:=wkT [] (X2.glue J))
    refine brI (λh1378=>?_) λh1378=>?_
    ·
     refine bI λv1379 h1380=>?_;intro h;obtain rfl:=oj h;exact X6 [Gt,Gt,Gt,Gt,Gt,Gt,Gt,Gt,Gt,Gt,Gt,Gt,Gt,.pure _ (aB v1379),Gt,Gt] (k:=wkT [] (X2.glue J))
    intro h;obtain rfl:=oj h;exact X6 [Gt,Gt,Gt,Gt,Gt,Gt,Gt,Gt,Gf,Gf,Gf,Gf,Gf,Gt,Gt] (k:=wkT [] (X2.glue J))
   intro h;obtain rfl:=oj h;exact X6 [Gf,Gf,Gf,Gf,Gf,Gf,Gf,Gf,Gf,Gf,Gf,Gf,Gf,Gf,Gf] (k:=wkT [] (X2.glue J))
  obtain rfl:=Xou rfl;rcases Xc5 with ⟨_|_,Xdq⟩<;>(try obtain rfl:=Xdq rfl);all_goals
   refine X2.round ?_;exact absurd hk (by simp)
theorem Xe1 {Q:X03->St->Mu->Prop} {μ:Mu} (Xfv:Bool):∀ (n:Nat) (Xh:X1) (Xn:(List X1)) (Xef:Bool) (Xeh:Bool) (X02:Nb Xn) (o:Xb8) (h:X1k Xfv n Xh Xn Xef Xeh=some o)
  (C0:∀ (Xq:X1) (X0m:(List X1)) (X75:Bool) (X0q:Nb X0m),o=Xb8.x0 Xq X0m X75->X2 Tryz.prog 74 0 Q (.exit (.exit 0)) [] ⟨fr [(4,(AV.ptr 0 0 0)),(8,(slE X0q.1 1 (X0m.map X0))),(9,(aB X75))],hp ([(0,Ob [(X0 Xq)] 11)]++opE X0q.1 1 11 (X0m.map X0)),2⟩ μ),
  X2 Tryz.prog 74 0 Q (.loop (X2o 0 (Xd Tryz.f141))) [] ⟨fr [(2,(aB Xfv)),(4,(AV.ptr 0 0 0)),(8,(slE X02.1 1 (Xn.map X0))),(9,(aB Xef)),(10,(aB Xeh))],hp ([(0,Ob [(X0 Xh)] 11)]++opE X02.1 1 11 (Xn.map X0)),2⟩ μ:=by
 intro n
 induction n with
 |zero=>intro Xh Xn Xef Xeh X02 o h C0;cases h
 |succ n ih =>
  intro Xh Xn Xef Xeh X02 o h C0;rw[X1k] at h;rcases X02 with ⟨_|_,X0o⟩
  ·
   refine X2.round ?_;revert h;refine brI (λh1071=>?_) λh1071=>λe=>X6 [Bf] (k:=wkT [] (C0 _ _ _  nbF (oj e).symm));refine bI λu1177 h1178=>?_;have qh1178:=X0v h1178;refine bI λo1387 h1388=>rnI [Bt] ?_;intro h;refine wkT [] (X2.cut (Xe0 Xfv Xn nbF qh1178 Xn 0 (by simp) _ _ _ _ nbS _ h1388 ?_));intro X3w Xkr Xg2 Xdc Xak eo1387;subst eo1387;refine X2.glue ?_;try dsimp only at h
   rcases Xak with ⟨_|_,Xiq⟩
   ·
    exact X6 [] (k:=wkT [] (ih  _ _ _ _ nbF o h C0))
   obtain rfl:=Xiq rfl;exact X6 [] (k:=wkT [] (ih  _ _ _ _ nbS o h C0))
  obtain rfl:=X0o rfl;refine X2.round ?_;revert h;refine brI (λh1389=>?_) λh1389=>λe=>X6 [Bf] (k:=wkT [] (C0 _ _ _  nbS (oj e).symm));refine bI λu1461 h1462=>?_;have qh1462:=X0v h1462;refine bI λo1603 h1604=>rnI [Bt] ?_;intro h;refine wkT [] (X2.cut (Xe0 Xfv ([]:List X1) nbS qh1462 ([]:List X1) 0 (by simp) _ _ _ _ nbS _ h1604 ?_));intro X3w Xkr Xg2 Xdc Xak eo1603;subst eo1603;refine X2.glue ?_;try dsimp only at h
  rcases Xak with ⟨_|_,Xiq⟩
  ·
   exact X6 [] (k:=wkT [] (ih  _ _ _ _ nbF o h C0))
  obtain rfl:=Xiq rfl;exact X6 [] (k:=wkT [] (ih  _ _ _ _ nbS o h C0))
instance X02v:PCs Tryz.prog 141 (∀ (a0:(List X1)) (a1:X1) (a2:Bool) (r:(List X1)×Bool),X58 a0 a1 a2=some r->X0b Tryz.prog 141 [(Lf (a0.map X0)),(X0 a1),(aB a2)] (AV.tup [(Lt (r.1.map X0)),(aB r.2)])):=⟨λa0 a1 a2 r h=>by
 refine X0b.sym X3 X0cu (nt:=74) rfl rfl ?_ okM;unfold X58 at h;revert h;refine brI (λq=>?_) λq=>?_
 ·
  intro h;have h1:a0=[]:=List.isEmpty_iff.1 q;revert h;refine bI λo1605 h1606=>rnI [.ne false] ?_;intro h;refine wkT [] (X2.cut (Xe1 a2 _ _ _ _ _ nbS _ h1606 ?_));intro Xq X0m X75 X0q eo1605;subst eo1605;refine X2.glue ?_;try dsimp only at h
  rcases X0q with ⟨_|_,X3c⟩<;>(try obtain rfl:=X3c rfl);all_goals
   revert h;exact bI λu1607 h1608=>λe=>oj e▸X6 [.no] (o:=by repeat' first|apply Ya|exact pcM|(refine X0r h1608 rfl ?_;first|(simp<;>omega)|(simp[h1]<;>omega))|(refine X08 h1608 (by decide) ?_;first|(simp<;>omega)|(simp[h1]<;>omega))|exact Xu) (k:=fi)
 intro h;have h1:¬ (a0=[]):=(λe=>by rw[e] at q;cases q);revert h;refine bI λu1611 h1612=>bI λo2478 h2479=>rnI [.via (Lt (a0.map X0))] (o:=by repeat' first|apply Ya|exact pcM|(refine X0r h1612 rfl ?_;first|(simp<;>omega)|(simp[h1]<;>omega))|(refine X08 h1612 (by decide) ?_;first|(simp<;>omega)|(simp[h1]<;>omega))|exact Xu) ?_;intro h;refine wkT [(1,2)] (X2.cut (Xe1 a2 _ _ _ _ _ nbF _ h2479 ?_));intro Xq X0m X75 X0q eo2478;subst eo2478;refine X2.glue ?_;try dsimp only at h
 rcases X0q with ⟨_|_,X3c⟩<;>(try obtain rfl:=X3c rfl);all_goals
  revert h;exact bI λu2480 h2481=>λe=>oj e▸X6 [.no] (o:=by repeat' first|apply Ya|exact pcM|(refine X0r h1612 rfl ?_;first|(simp<;>omega)|(simp[h1]<;>omega))|(refine X08 h1612 (by decide) ?_;first|(simp<;>omega)|(simp[h1]<;>omega))|(refine X0r h2481 rfl ?_;first|(simp<;>omega)|(simp[h1]<;>omega))|(refine X08 h2481 (by decide) ?_;first|(simp<;>omega)|(simp[h1]<;>omega))|exact Xu) (k:=fi)⟩
end Go.Av.Tryz