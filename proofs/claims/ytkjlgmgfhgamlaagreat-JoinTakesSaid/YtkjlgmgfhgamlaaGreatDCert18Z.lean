/- Printed by decomp.py: that the program computes the functions. -/
import Derived.Test.YtkjlgmgfhgamlaaGreatDCert16Z
import Derived.Test.YtkjlgmgfhgamlaaGreatDCert17Z
set_option linter.all false

namespace Go.Av.Tryz
open Go.Proofs Go.D
set_option maxRecDepth 10000
set_option maxHeartbeats 40000000
instance X02t:PCs Tryz.prog 23 (∀ (a0:Xo) (a1:Xo) (r:Bool),X7f a0 a1=some r->X0b Tryz.prog 23 [(Xa false a0),(Xa false a1)] (aB r)):=⟨λa0 a1 r h=>by
 refine X0b.sym X3 fn23 (nt:=165) rfl rfl ?_ okM;unfold X7f at h;revert h;refine bI λXzg h20=>rnI [.stop 1] ?_;intro h;refine X2.join (s':=⟨fr [(2,(AV.ptr 0 0 0)),(3,(AV.ptr 1 0 0)),(74,(aB Xzg))],hp ([(0,Ob [(Xa false a0)] 9),(1,Ob [(Xa false a1)] 9)]),2⟩) ?_ (λJ=>X2.cut ?_)
 ·
  revert h;refine brI (λh21=>λe=>oj e▸X6 [Bt] (k:=fi)) λh21=>bI λo41 h42=>rnI [Bf] ?_;intro h;refine wkT [] (X2.cut (Xk5 a0 a1 _ _ _ h42 ?_ ?_))
  ·
   intro eo41;subst eo41;refine X2.glue ?_;try dsimp only at h
   revert h;exact λe=>oj e▸X6 [] (k:=fi)
  intro eo41;subst eo41;refine X2.glue ?_;try dsimp only at h
  revert h;refine bI λo62 h63=>rnI [] ?_;intro h;refine wkT [] (X2.cut (Xk4 a0 a1 _ _ _ h63 ?_ ?_))
  ·
   intro eo62;subst eo62;refine X2.glue ?_;try dsimp only at h
   revert h;exact λe=>oj e▸X6 [] (k:=fi)
  intro eo62;subst eo62;refine X2.glue ?_;try dsimp only at h
  revert h;refine bI λo83 h84=>rnI [] ?_;intro h;refine wkT [] (X2.cut (Xk3 a0 a1 _ _ _ h84 ?_ ?_))
  ·
   intro eo83;subst eo83;refine X2.glue ?_;try dsimp only at h
   revert h;exact λe=>oj e▸X6 [] (k:=fi)
  intro eo83;subst eo83;refine X2.glue ?_;try dsimp only at h
  revert h;refine bI λo104 h105=>rnI [] ?_;intro h;refine wkT [] (X2.cut (Xk2 a0 a1 _ _ _ h105 ?_ ?_))
  ·
   intro eo104;subst eo104;refine X2.glue ?_;try dsimp only at h
   revert h;exact λe=>oj e▸X6 [] (k:=fi)
  intro eo104;subst eo104;refine X2.glue ?_;try dsimp only at h
  revert h;refine bI λo125 h126=>rnI [] ?_;intro h;refine wkT [] (X2.cut (Xk1 a0 a1 _ _ _ h126 ?_ ?_))
  ·
   intro eo125;subst eo125;refine X2.glue ?_;try dsimp only at h
   revert h;exact λe=>oj e▸X6 [] (k:=fi)
  intro eo125;subst eo125;refine X2.glue ?_;try dsimp only at h
  revert h;exact λe=>oj e▸X6 [] (k:=fi)
 clear h;revert h20;refine brI (λh11=>?_) λh11=>?_
 ·
  intro h;obtain rfl:=oj h;exact X6 [Gf,Gf,Gf,Gf,Gf,Gf,Gf,Gf,Gf,Gf,Gf,Gf,Gf,Gf,Gf,Gf,Gf,Gf,Gf,Gf,Gf,Gf,Gf,Gf,Gf,Gf,Gf,Gf,Gf,Gf,Gf,Gf,Gf,Gf,Gf,Gf,Gf,Gf,Gf,Gf,Gf,Gf,Gf,Gf,Gf,Gf] (o:=by repeat' first|apply Ya|exact pcM|exact fq (X7 h11 rfl)|exact fq (X7 (X7 h11 rfl) rfl)|exact fq (X7 (X7 (X7 h11 rfl) rfl) rfl)|exact fq (X7 (X7 (X7 (X7 h11 rfl) rfl) rfl) rfl)|exact fq (X7 (X7 (X7 (X7 (X7 h11 rfl) rfl) rfl) rfl) rfl)|exact fq (X7 (X7 (X7 (X7 (X7 (X7 h11 rfl) rfl) rfl) rfl) rfl) rfl)|exact Xu) (k:=wkT [] (X2.glue J))
 refine brI (λh12=>?_) λh12=>?_
 ·
  intro h;obtain rfl:=oj h;exact X6 [Gt,Gt,Gt,Gt,Gt,Gf,Gf,Gf,Gf,Gf,Gf,Gf,Gf,Gf,Gf,Gf,Gf,Gf,Gf,Gf,Gf,Gf,Gf,Gf,Gf,Gf,Gf,Gf,Gf,Gf,Gf,Gf,Gf,Gf,Gf,Gf,Gf,Gf,Gf,Gf,Gf,Gf,Gf,Gf,Gf,Gf] (o:=by repeat' first|apply Ya|exact pcM|exact fq (Xb h11 h12)|exact fq (X7 (Xb h11 h12) rfl)|exact fq (X7 (X7 (Xb h11 h12) rfl) rfl)|exact fq (X7 (X7 (X7 (Xb h11 h12) rfl) rfl) rfl)|exact fq (X7 (X7 (X7 (X7 (Xb h11 h12) rfl) rfl) rfl) rfl)|exact fq (X7 (X7 (X7 (X7 (X7 (Xb h11 h12) rfl) rfl) rfl) rfl) rfl)|exact Xu) (k:=wkT [] (X2.glue J))
 refine bI λv13 h14=>brI (λh15=>?_) λh15=>?_
 ·
  intro h;obtain rfl:=oj h;exact X6 [Gt,Gt,Gt,Gt,Gt,Gt,Gt,Gt,Gt,Gt,X2d.pure _ (aB v13),Gt,Gf,Gf,Gf,Gf,Gf,Gf,Gf,Gf,Gf,Gf,Gf,Gf,Gf,Gf,Gf,Gf,Gf,Gf,Gf,Gf,Gf,Gf,Gf,Gf,Gf,Gf,Gf,Gf,Gf,Gf,Gf,Gf,Gf,Gf,Gf] (o:=by repeat' first|apply Ya|exact pcM|exact fq (Xb h11 h12)|exact fq (Xb (Xb h11 h12) h15)|exact fq (X7 (Xb (Xb h11 h12) h15) rfl)|exact fq (X7 (X7 (Xb (Xb h11 h12) h15) rfl) rfl)|exact fq (X7 (X7 (X7 (Xb (Xb h11 h12) h15) rfl) rfl) rfl)|exact fq (X7 (X7 (X7 (X7 (Xb (Xb h11 h12) h15) rfl) rfl) rfl) rfl)|exact Xu) (k:=wkT [] (X2.glue J))
 refine rnI [Gt,Gt,Gt,Gt,Gt,Gt,Gt,Gt,Gt,Gt,.pure _ (aB v13),Gt,Gt,Gt,Gt,.el (aI .i64 (a0.Marks.length:Int)),Gt,Gt,Gt,.el (aI .i64 (a1.Marks.length:Int)),Gt,.stop 999999] (o:=by repeat' first|apply Ya|exact pcM|exact fq (Xb h11 h12)|exact fq (Xb (Xb h11 h12) h15)|exact Xu) ?_;refine brI (λh16=>?_) λh16=>?_
 ·
  intro h;obtain rfl:=oj h;exact X6 [Gf,Gf,Gf,Gf,Gf,Gf,Gf,Gf,Gf,Gf,Gf,Gf,Gf,Gf,Gf,Gf,Gf,Gf,Gf,Gf,Gf,Gf,Gf,Gf,Gf,Gf,Gf,Gf] (o:=by repeat' first|apply Ya|exact pcM|exact fq (Xb (Xb (Xb h11 h12) h15) h16)|exact fq (X7 (Xb (Xb (Xb h11 h12) h15) h16) rfl)|exact fq (X7 (X7 (Xb (Xb (Xb h11 h12) h15) h16) rfl) rfl)|exact fq (X7 (X7 (X7 (Xb (Xb (Xb h11 h12) h15) h16) rfl) rfl) rfl)|exact Xu) (k:=wkT [] (X2.glue J))
 refine rnI [Gt,Gt,Gt,.el (aI .i64 (a0.Store.length:Int)),Gt,Gt,Gt,.el (aI .i64 (a1.Store.length:Int)),Gt,.stop 999999] (o:=by repeat' first|apply Ya|exact pcM|exact fq (Xb (Xb (Xb h11 h12) h15) h16)|exact Xu) ?_;refine brI (λh17=>?_) λh17=>?_
 ·
  intro h;obtain rfl:=oj h;exact X6 [Gf,Gf,Gf,Gf,Gf,Gf,Gf,Gf,Gf,Gf,Gf,Gf,Gf,Gf,Gf,Gf,Gf,Gf,Gf,Gf,Gf] (o:=by repeat' first|apply Ya|exact pcM|exact fq (Xb (Xb (Xb (Xb h11 h12) h15) h16) h17)|exact fq (X7 (Xb (Xb (Xb (Xb h11 h12) h15) h16) h17) rfl)|exact fq (X7 (X7 (Xb (Xb (Xb (Xb h11 h12) h15) h16) h17) rfl) rfl)|exact Xu) (k:=wkT [] (X2.glue J))
 refine rnI [Gt,Gt,Gt,.el (aI .i64 (a0.Events.length:Int)),Gt,Gt,Gt,.el (aI .i64 (a1.Events.length:Int)),Gt,.stop 999999] (o:=by repeat' first|apply Ya|exact pcM|exact fq (Xb (Xb (Xb (Xb h11 h12) h15) h16) h17)|exact Xu) ?_;refine brI (λh18=>?_) λh18=>?_
 ·
  intro h;obtain rfl:=oj h;exact X6 [Gf,Gf,Gf,Gf,Gf,Gf,Gf,Gf,Gf,Gf,Gf,Gf,Gf,Gf] (o:=by repeat' first|apply Ya|exact pcM|exact fq (Xb (Xb (Xb (Xb (Xb h11 h12) h15) h16) h17) h18)|exact fq (X7 (Xb (Xb (Xb (Xb (Xb h11 h12) h15) h16) h17) h18) rfl)|exact Xu) (k:=wkT [] (X2.glue J))
 refine rnI [Gt,Gt,Gt,.el (aI .i64 (a0.Rows.length:Int)),Gt,Gt,Gt,.el (aI .i64 (a1.Rows.length:Int)),Gt,.stop 999999] (o:=by repeat' first|apply Ya|exact pcM|exact fq (Xb (Xb (Xb (Xb (Xb h11 h12) h15) h16) h17) h18)|exact Xu) ?_;refine brI (λh19=>?_) λh19=>?_
 ·
  intro h;obtain rfl:=oj h;exact X6 [Gf,Gf,Gf,Gf,Gf,Gf,Gf] (o:=by repeat' first|apply Ya|exact pcM|exact fq (Xb (Xb (Xb (Xb (Xb (Xb h11 h12) h15) h16) h17) h18) h19)|exact Xu) (k:=wkT [] (X2.glue J))
 intro h;obtain rfl:=oj h;exact X6 [Gt,Gt,Gt,.el (aI .i64 (a0.Late.length:Int)),Gt,Gt,Gt,.el (aI .i64 (a1.Late.length:Int)),Gt] (o:=by repeat' first|apply Ya|exact pcM|exact fq (Xb (Xb (Xb (Xb (Xb (Xb h11 h12) h15) h16) h17) h18) h19)|exact Xu) (k:=wkT [] (X2.glue J))⟩
instance Xhe:PCs Tryz.prog 7 (∀ (a0:X0g) (a1:Xo) (a2:Int) (a3:Xp) (a4:Int) (a5:X1) (r:Bool),X5t a0 a1 a2 a3 a4 a5=some r->X0b Tryz.prog 7 [(X07 false a0),(Xa false a1),(aI .i64 a2),(X0n a3),(aI .i64 a4),(X0 a5)] (aB r)):=⟨λa0 a1 a2 a3 a4 a5 r h=>by
 refine X0b.sym X3 fn7 (nt:=114) rfl rfl ?_ okM;unfold X5t at h;revert h;refine bI λX06q h12=>rnI [.stop 1] ?_;intro h;refine X2.join (s':=⟨fr [(2,(aI .i64 a2)),(4,(aI .i64 a4)),(6,(AV.ptr 0 0 0)),(7,(AV.ptr 1 0 0)),(9,(AV.ptr 2 0 0)),(11,(AV.ptr 3 0 0)),(33,(aB X06q))],hp ([(0,Ob [(X07 false a0)] 10),(1,Ob [(Xa false a1)] 9),(2,Ob [(X0n a3)] 10),(3,Ob [(X0 a5)] 11)]),4⟩) ?_ (λJ=>X2.cut ?_)
 ·
  revert h;refine brI (λh13=>λe=>oj e▸X6 [Bt] (k:=fi)) λh13=>bI λv14 h15=>bI λv16 h17=>bI λv18 h19=>bI λv20 h21=>bI λv22 h23=>bI λv24 h25=>bI λv26 h27=>bI λXz4 h55=>rnI [Bf,.pure _ (Xa false v14),.pure _ (AV.tup [(Xa true v16.1),(aI .i64 v16.2)]),.pure _ (AV.tup [(Xa false v18.1),(aI .i64 v18.2)]),.pure _ (AV.tup [(Xa true v20.1),(aI .i64 v20.2)]),.pure _ (AV.tup [(Xa true v22.1),(aI .i64 v22.2)]),.pure _ (AV.tup [(Xf v24.1),(aB v24.2.1),(aI .i64 v24.2.2)]),.pure _ (AV.tup [(Xf v26.1),(aB v26.2.1),(aI .i64 v26.2.2)]),.stop 10] ?_;intro h;refine X2.join (s':=⟨fr [(12,(aB Xz4))],hp ([]),0⟩) ?_ (λJ=>X2.cut ?_)
  ·
   revert h;exact λe=>oj e▸X6 [] (k:=fi)
  clear h;revert h55;refine bI λv42 h43=>brI (λh44=>?_) λh44=>?_
  ·
   refine brI (λh45=>?_) λh45=>?_
   ·
    refine bI λv46 h47=>brI (λh48=>?_) λh48=>?_
    ·
     refine brI (λh49=>?_) λh49=>?_
     ·
      refine rnI [.pure _ (aB v42),Gt,Gt,Gt,Gt,Gt,Gt,.pure _ (aB v46),Gt,Gt,Gt,Gt,Gt,Gt,.stop 999999] (o:=by repeat' first|apply Ya|exact pcM|exact fq (X7 h44 h45)|exact fq (X7 (X7 h44 h45) h48)|exact fq (X7 (X7 (X7 h44 h45) h48) h49)|exact Xu) ?_;refine brI (λh50=>?_) λh50=>?_
      ·
       refine brI (λh51=>?_) λh51=>?_
       ·
        refine brI (λh52=>?_) λh52=>?_
        ·
         refine bI λv53 h54=>?_;intro h;obtain rfl:=oj h;exact X6 [Gt,Gt,Gt,Gt,Gt,Gt,Gt,Gt,Gt,.pure _ (aB v53)] (o:=by repeat' first|apply Ya|exact pcM|exact fq (X7 (X7 (X7 (X7 h44 h45) h48) h49) h50)|exact fq (X7 (X7 (X7 (X7 (X7 h44 h45) h48) h49) h50) h51)|exact fq (X7 (X7 (X7 (X7 (X7 (X7 h44 h45) h48) h49) h50) h51) h52)|exact Xu) (k:=wkT [] (X2.glue J))
        intro h;obtain rfl:=oj h;exact X6 [Gt,Gt,Gt,Gt,Gt,Gt,Gf,Gf,Gf] (o:=by repeat' first|apply Ya|exact pcM|exact fq (X7 (X7 (X7 (X7 h44 h45) h48) h49) h50)|exact fq (X7 (X7 (X7 (X7 (X7 h44 h45) h48) h49) h50) h51)|exact fq (X7 (X7 (X7 (X7 (X7 (X7 h44 h45) h48) h49) h50) h51) h52)|exact Xu) (k:=wkT [] (X2.glue J))
       intro h;obtain rfl:=oj h;exact X6 [Gt,Gt,Gt,Gf,Gf,Gf,Gf,Gf,Gf] (o:=by repeat' first|apply Ya|exact pcM|exact fq (X7 (X7 (X7 (X7 h44 h45) h48) h49) h50)|exact fq (X7 (X7 (X7 (X7 (X7 h44 h45) h48) h49) h50) h51)|exact fq (Xb (X7 (X7 (X7 (X7 (X7 h44 h45) h48) h49) h50) h51) rfl)|exact Xu) (k:=wkT [] (X2.glue J))
      intro h;obtain rfl:=oj h;exact X6 [Gf,Gf,Gf,Gf,Gf,Gf,Gf,Gf,Gf] (o:=by repeat' first|apply Ya|exact pcM|exact fq (X7 (X7 (X7 (X7 h44 h45) h48) h49) h50)|exact fq (Xb (X7 (X7 (X7 (X7 h44 h45) h48) h49) h50) rfl)|exact fq (Xb (Xb (X7 (X7 (X7 (X7 h44 h45) h48) h49) h50) rfl) rfl)|exact Xu) (k:=wkT [] (X2.glue J))
     intro h;obtain rfl:=oj h;exact X6 [.pure _ (aB v42),Gt,Gt,Gt,Gt,Gt,Gt,.pure _ (aB v46),Gt,Gt,Gt,Gf,Gf,Gf,Gf,Gf,Gf,Gf,Gf,Gf,Gf,Gf,Gf] (o:=by repeat' first|apply Ya|exact pcM|exact fq (X7 h44 h45)|exact fq (X7 (X7 h44 h45) h48)|exact fq (X7 (X7 (X7 h44 h45) h48) h49)|exact fq (Xb (X7 (X7 (X7 h44 h45) h48) h49) rfl)|exact fq (Xb (Xb (X7 (X7 (X7 h44 h45) h48) h49) rfl) rfl)|exact fq (Xb (Xb (Xb (X7 (X7 (X7 h44 h45) h48) h49) rfl) rfl) rfl)|exact Xu) (k:=wkT [] (X2.glue J))
    intro h;obtain rfl:=oj h;exact X6 [.pure _ (aB v42),Gt,Gt,Gt,Gt,Gt,Gt,.pure _ (aB v46),Gf,Gf,Gf,Gf,Gf,Gf,Gf,Gf,Gf,Gf,Gf,Gf,Gf,Gf,Gf] (o:=by repeat' first|apply Ya|exact pcM|exact fq (X7 h44 h45)|exact fq (X7 (X7 h44 h45) h48)|exact fq (Xb (X7 (X7 h44 h45) h48) rfl)|exact fq (Xb (Xb (X7 (X7 h44 h45) h48) rfl) rfl)|exact fq (Xb (Xb (Xb (X7 (X7 h44 h45) h48) rfl) rfl) rfl)|exact fq (Xb (Xb (Xb (Xb (X7 (X7 h44 h45) h48) rfl) rfl) rfl) rfl)|exact Xu) (k:=wkT [] (X2.glue J))
   intro h;obtain rfl:=oj h;exact X6 [.pure _ (aB v42),Gt,Gt,Gt,Gf,Gf,Gf,Gf,Gf,Gf,Gf,Gf,Gf,Gf,Gf,Gf,Gf,Gf,Gf,Gf,Gf,Gf] (o:=by repeat' first|apply Ya|exact pcM|exact fq (X7 h44 h45)|exact fq (Xb (X7 h44 h45) rfl)|exact fq (Xb (Xb (X7 h44 h45) rfl) rfl)|exact fq (Xb (Xb (Xb (X7 h44 h45) rfl) rfl) rfl)|exact fq (Xb (Xb (Xb (Xb (X7 h44 h45) rfl) rfl) rfl) rfl)|exact fq (Xb (Xb (Xb (Xb (Xb (X7 h44 h45) rfl) rfl) rfl) rfl) rfl)|exact Xu) (k:=wkT [] (X2.glue J))
  intro h;obtain rfl:=oj h;exact X6 [.pure _ (aB v42),Gf,Gf,Gf,Gf,Gf,Gf,Gf,Gf,Gf,Gf,Gf,Gf,Gf,Gf,Gf,Gf,Gf,Gf,Gf,Gf,Gf] (o:=by repeat' first|apply Ya|exact pcM|exact fq (Xb h44 rfl)|exact fq (Xb (Xb h44 rfl) rfl)|exact fq (Xb (Xb (Xb h44 rfl) rfl) rfl)|exact fq (Xb (Xb (Xb (Xb h44 rfl) rfl) rfl) rfl)|exact fq (Xb (Xb (Xb (Xb (Xb h44 rfl) rfl) rfl) rfl) rfl)|exact fq (Xb (Xb (Xb (Xb (Xb (Xb h44 rfl) rfl) rfl) rfl) rfl) rfl)|exact Xu) (k:=wkT [] (X2.glue J))
 clear h;revert h12;refine bI λv7 h8=>brI (λh9=>?_) λh9=>?_
 ·
  intro h;obtain rfl:=oj h;exact X6 [.pure _ (aB v7),Gf,Gf] (k:=wkT [] (X2.glue J))
 refine bI λv10 h11=>?_;intro h;obtain rfl:=oj h;exact X6 [.pure _ (aB v7),Gt,Gt,.pure _ (aB v10)] (k:=wkT [] (X2.glue J))⟩
end Go.Av.Tryz