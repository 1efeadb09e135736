/- Printed by decomp.py: that the program computes the functions. -/
import Derived.Test.YtkjlgmgfhgamlaaGreatDCert16Z
import Derived.Test.YtkjlgmgfhgamlaaGreatDCert17Z
set_option linter.all false

namespace Go.Av.Tryz
open Go.Proofs Go.D
set_option maxRecDepth 10000
set_option maxHeartbeats 40000000
instance X02l:PCs Tryz.prog 23 (∀ (a0:Xk) (a1:Xk) (r:Bool),X7a a0 a1=some r->X0a Tryz.prog 23 [(Xa false a0),(Xa false a1)] (aB r)):=⟨λa0 a1 r h=>by
 refine X0a.sym X3 fn23 (nt:=165) rfl rfl ?_ okM;unfold X7a at h;revert h;refine bI λXz8 h20=>rnI [.stop 1] ?_;intro h;refine X2.join (s':=⟨fr [(2,(AV.ptr 0 0 0)),(3,(AV.ptr 1 0 0)),(74,(aB Xz8))],hp ([(0,Ob [(Xa false a0)] 9),(1,Ob [(Xa false a1)] 9)]),2⟩) ?_ (λJ=>X2.cut ?_)
 ·
  revert h;refine brI (λh21=>λe=>oj e▸X6 [Bt] (k:=fi)) λh21=>bI λo41 h42=>rnI [Bf] ?_;intro h;refine wkT [] (X2.cut (Xjz a0 a1 _ _ _ h42 ?_ ?_))
  ·
   intro eo41;subst eo41;refine X2.glue ?_;try dsimp only at h
   revert h;exact λe=>oj e▸X6 [] (k:=fi)
  intro eo41;subst eo41;refine X2.glue ?_;try dsimp only at h
  revert h;refine bI λo62 h63=>rnI [] ?_;intro h;refine wkT [] (X2.cut (Xjy a0 a1 _ _ _ h63 ?_ ?_))
  ·
   intro eo62;subst eo62;refine X2.glue ?_;try dsimp only at h
   revert h;exact λe=>oj e▸X6 [] (k:=fi)
  intro eo62;subst eo62;refine X2.glue ?_;try dsimp only at h
  revert h;refine bI λo83 h84=>rnI [] ?_;intro h;refine wkT [] (X2.cut (Xjx a0 a1 _ _ _ h84 ?_ ?_))
  ·
   intro eo83;subst eo83;refine X2.glue ?_;try dsimp only at h
   revert h;exact λe=>oj e▸X6 [] (k:=fi)
  intro eo83;subst eo83;refine X2.glue ?_;try dsimp only at h
  revert h;refine bI λo104 h105=>rnI [] ?_;intro h;refine wkT [] (X2.cut (Xjw a0 a1 _ _ _ h105 ?_ ?_))
  ·
   intro eo104;subst eo104;refine X2.glue ?_;try dsimp only at h
   revert h;exact λe=>oj e▸X6 [] (k:=fi)
  intro eo104;subst eo104;refine X2.glue ?_;try dsimp only at h
  revert h;refine bI λo125 h126=>rnI [] ?_;intro h;refine wkT [] (X2.cut (Xjv a0 a1 _ _ _ h126 ?_ ?_))
  ·
   intro eo125;subst eo125;refine X2.glue ?_;try dsimp only at h
   revert h;exact λe=>oj e▸X6 [] (k:=fi)
  intro eo125;subst eo125;refine X2.glue ?_;try dsimp only at h
  revert h;exact λe=>oj e▸X6 [] (k:=fi)
 clear h;revert h20;refine brI (λh11=>?_) λh11=>?_
 ·
  intro h;obtain rfl:=oj h;exact X6 [Gf,Gf,Gf,Gf,Gf,Gf,Gf,Gf,Gf,Gf,Gf,Gf,Gf,Gf,Gf,Gf,Gf,Gf,Gf,Gf,Gf,Gf,Gf,Gf,Gf,Gf,Gf,Gf,Gf,Gf,Gf,Gf,Gf,Gf,Gf,Gf,Gf,Gf,Gf,Gf,Gf,Gf,Gf,Gf,Gf,Gf] (o:=by repeat' first|apply Ya|exact pcM|exact fq (X8 h11 rfl)|exact fq (X8 (X8 h11 rfl) rfl)|exact fq (X8 (X8 (X8 h11 rfl) rfl) rfl)|exact fq (X8 (X8 (X8 (X8 h11 rfl) rfl) rfl) rfl)|exact fq (X8 (X8 (X8 (X8 (X8 h11 rfl) rfl) rfl) rfl) rfl)|exact fq (X8 (X8 (X8 (X8 (X8 (X8 h11 rfl) rfl) rfl) rfl) rfl) rfl)|exact Xv) (k:=wkT [] (X2.glue J))
 refine brI (λh12=>?_) λh12=>?_
 ·
  intro h;obtain rfl:=oj h;exact X6 [Gt,Gt,Gt,Gt,Gt,Gf,Gf,Gf,Gf,Gf,Gf,Gf,Gf,Gf,Gf,Gf,Gf,Gf,Gf,Gf,Gf,Gf,Gf,Gf,Gf,Gf,Gf,Gf,Gf,Gf,Gf,Gf,Gf,Gf,Gf,Gf,Gf,Gf,Gf,Gf,Gf,Gf,Gf,Gf,Gf,Gf] (o:=by repeat' first|apply Ya|exact pcM|exact fq (Xb h11 h12)|exact fq (X8 (Xb h11 h12) rfl)|exact fq (X8 (X8 (Xb h11 h12) rfl) rfl)|exact fq (X8 (X8 (X8 (Xb h11 h12) rfl) rfl) rfl)|exact fq (X8 (X8 (X8 (X8 (Xb h11 h12) rfl) rfl) rfl) rfl)|exact fq (X8 (X8 (X8 (X8 (X8 (Xb h11 h12) rfl) rfl) rfl) rfl) rfl)|exact Xv) (k:=wkT [] (X2.glue J))
 refine bI λv13 h14=>brI (λh15=>?_) λh15=>?_
 ·
  intro h;obtain rfl:=oj h;exact X6 [Gt,Gt,Gt,Gt,Gt,Gt,Gt,Gt,Gt,Gt,X2d.pure _ (aB v13),Gt,Gf,Gf,Gf,Gf,Gf,Gf,Gf,Gf,Gf,Gf,Gf,Gf,Gf,Gf,Gf,Gf,Gf,Gf,Gf,Gf,Gf,Gf,Gf,Gf,Gf,Gf,Gf,Gf,Gf,Gf,Gf,Gf,Gf,Gf,Gf] (o:=by repeat' first|apply Ya|exact pcM|exact fq (Xb h11 h12)|exact fq (Xb (Xb h11 h12) h15)|exact fq (X8 (Xb (Xb h11 h12) h15) rfl)|exact fq (X8 (X8 (Xb (Xb h11 h12) h15) rfl) rfl)|exact fq (X8 (X8 (X8 (Xb (Xb h11 h12) h15) rfl) rfl) rfl)|exact fq (X8 (X8 (X8 (X8 (Xb (Xb h11 h12) h15) rfl) rfl) rfl) rfl)|exact Xv) (k:=wkT [] (X2.glue J))
 refine rnI [Gt,Gt,Gt,Gt,Gt,Gt,Gt,Gt,Gt,Gt,.pure _ (aB v13),Gt,Gt,Gt,Gt,.el (aI .i64 (a0.Marks.length:Int)),Gt,Gt,Gt,.el (aI .i64 (a1.Marks.length:Int)),Gt,.stop 999999] (o:=by repeat' first|apply Ya|exact pcM|exact fq (Xb h11 h12)|exact fq (Xb (Xb h11 h12) h15)|exact Xv) ?_;refine brI (λh16=>?_) λh16=>?_
 ·
  intro h;obtain rfl:=oj h;exact X6 [Gf,Gf,Gf,Gf,Gf,Gf,Gf,Gf,Gf,Gf,Gf,Gf,Gf,Gf,Gf,Gf,Gf,Gf,Gf,Gf,Gf,Gf,Gf,Gf,Gf,Gf,Gf,Gf] (o:=by repeat' first|apply Ya|exact pcM|exact fq (Xb (Xb (Xb h11 h12) h15) h16)|exact fq (X8 (Xb (Xb (Xb h11 h12) h15) h16) rfl)|exact fq (X8 (X8 (Xb (Xb (Xb h11 h12) h15) h16) rfl) rfl)|exact fq (X8 (X8 (X8 (Xb (Xb (Xb h11 h12) h15) h16) rfl) rfl) rfl)|exact Xv) (k:=wkT [] (X2.glue J))
 refine rnI [Gt,Gt,Gt,.el (aI .i64 (a0.Store.length:Int)),Gt,Gt,Gt,.el (aI .i64 (a1.Store.length:Int)),Gt,.stop 999999] (o:=by repeat' first|apply Ya|exact pcM|exact fq (Xb (Xb (Xb h11 h12) h15) h16)|exact Xv) ?_;refine brI (λh17=>?_) λh17=>?_
 ·
  intro h;obtain rfl:=oj h;exact X6 [Gf,Gf,Gf,Gf,Gf,Gf,Gf,Gf,Gf,Gf,Gf,Gf,Gf,Gf,Gf,Gf,Gf,Gf,Gf,Gf,Gf] (o:=by repeat' first|apply Ya|exact pcM|exact fq (Xb (Xb (Xb (Xb h11 h12) h15) h16) h17)|exact fq (X8 (Xb (Xb (Xb (Xb h11 h12) h15) h16) h17) rfl)|exact fq (X8 (X8 (Xb (Xb (Xb (Xb h11 h12) h15) h16) h17) rfl) rfl)|exact Xv) (k:=wkT [] (X2.glue J))
 refine rnI [Gt,Gt,Gt,.el (aI .i64 (a0.Events.length:Int)),Gt,Gt,Gt,.el (aI .i64 (a1.Events.length:Int)),Gt,.stop 999999] (o:=by repeat' first|apply Ya|exact pcM|exact fq (Xb (Xb (Xb (Xb h11 h12) h15) h16) h17)|exact Xv) ?_;refine brI (λh18=>?_) λh18=>?_
 ·
  intro h;obtain rfl:=oj h;exact X6 [Gf,Gf,Gf,Gf,Gf,Gf,Gf,Gf,Gf,Gf,Gf,Gf,Gf,Gf] (o:=by repeat' first|apply Ya|exact pcM|exact fq (Xb (Xb (Xb (Xb (Xb h11 h12) h15) h16) h17) h18)|exact fq (X8 (Xb (Xb (Xb (Xb (Xb h11 h12) h15) h16) h17) h18) rfl)|exact Xv) (k:=wkT [] (X2.glue J))
 refine rnI [Gt,Gt,Gt,.el (aI .i64 (a0.Rows.length:Int)),Gt,Gt,Gt,.el (aI .i64 (a1.Rows.length:Int)),Gt,.stop 999999] (o:=by repeat' first|apply Ya|exact pcM|exact fq (Xb (Xb (Xb (Xb (Xb h11 h12) h15) h16) h17) h18)|exact Xv) ?_;refine brI (λh19=>?_) λh19=>?_
 ·
  intro h;obtain rfl:=oj h;exact X6 [Gf,Gf,Gf,Gf,Gf,Gf,Gf] (o:=by repeat' first|apply Ya|exact pcM|exact fq (Xb (Xb (Xb (Xb (Xb (Xb h11 h12) h15) h16) h17) h18) h19)|exact Xv) (k:=wkT [] (X2.glue J))
 intro h;obtain rfl:=oj h;exact X6 [Gt,Gt,Gt,.el (aI .i64 (a0.Late.length:Int)),Gt,Gt,Gt,.el (aI .i64 (a1.Late.length:Int)),Gt] (o:=by repeat' first|apply Ya|exact pcM|exact fq (Xb (Xb (Xb (Xb (Xb (Xb h11 h12) h15) h16) h17) h18) h19)|exact Xv) (k:=wkT [] (X2.glue J))⟩
instance Xif:PCs Tryz.prog 9 (∀ (a0:X0l) (a1:Xk) (a2:Int) (a3:Xo) (a4:Int) (a5:X1) (r:Bool),X6c a0 a1 a2 a3 a4 a5=some r->X0a Tryz.prog 9 [(X0b false a0),(Xa false a1),(aI .i64 a2),(X0k a3),(aI .i64 a4),(X0 a5)] (aB r)):=⟨λa0 a1 a2 a3 a4 a5 r h=>by
 refine X0a.sym X3 fn9 (nt:=107) rfl rfl ?_ okM;unfold X6c at h;revert h;refine bI λX06f h12=>rnI [.stop 1] ?_;intro h;refine X2.join (s':=⟨fr [(2,(aI .i64 a2)),(4,(aI .i64 a4)),(6,(AV.ptr 0 0 0)),(7,(AV.ptr 1 0 0)),(9,(AV.ptr 2 0 0)),(11,(AV.ptr 3 0 0)),(31,(aB X06f))],hp ([(0,Ob [(X0b false a0)] 10),(1,Ob [(Xa false a1)] 9),(2,Ob [(X0k a3)] 10),(3,Ob [(X0 a5)] 11)]),4⟩) ?_ (λJ=>X2.cut ?_)
 ·
  revert h;refine brI (λh13=>λe=>oj e▸X6 [Bt] (k:=fi)) λh13=>bI λv14 h15=>bI λv16 h17=>bI λv18 h19=>bI λv20 h21=>bI λv22 h23=>bI λv24 h25=>bI λv26 h27=>bI λXyw h53=>rnI [Bf,.pure _ (Xa false v14),.pure _ (AV.tup [(Xa true v16.1),(aI .i64 v16.2)]),.pure _ (AV.tup [(Xa false v18.1),(aI .i64 v18.2)]),.pure _ (AV.tup [(Xa true v20.1),(aI .i64 v20.2)]),.pure _ (AV.tup [(Xa true v22.1),(aI .i64 v22.2)]),.pure _ (AV.tup [(Xg v24.1),(aI .i64 v24.2)]),.pure _ (AV.tup [(Xg v26.1),(aI .i64 v26.2)]),.stop 10] ?_;intro h;refine X2.join (s':=⟨fr [(12,(aB Xyw))],hp ([]),0⟩) ?_ (λJ=>X2.cut ?_)
  ·
   revert h;exact λe=>oj e▸X6 [] (k:=fi)
  clear h;revert h53;refine bI λv41 h42=>brI (λh43=>?_) λh43=>?_
  ·
   refine brI (λh44=>?_) λh44=>?_
   ·
    refine bI λv45 h46=>brI (λh47=>?_) λh47=>?_
    ·
     refine brI (λh48=>?_) λh48=>?_
     ·
      refine rnI [.pure _ (aB v41),Gt,Gt,Gt,Gt,Gt,Gt,.pure _ (aB v45),Gt,Gt,Gt,Gt,Gt,Gt,.stop 999999] (o:=by repeat' first|apply Ya|exact pcM|exact fq (X8 h43 h44)|exact fq (X8 (X8 h43 h44) h47)|exact fq (X8 (X8 (X8 h43 h44) h47) h48)|exact Xv) ?_;refine brI (λh49=>?_) λh49=>?_
      ·
       refine brI (λh50=>?_) λh50=>?_
       ·
        refine bI λv51 h52=>?_;intro h;obtain rfl:=oj h;exact X6 [Gt,Gt,Gt,Gt,Gt,Gt,.pure _ (aB v51)] (o:=by repeat' first|apply Ya|exact pcM|exact fq (X8 (X8 (X8 (X8 h43 h44) h47) h48) h49)|exact fq (X8 (X8 (X8 (X8 (X8 h43 h44) h47) h48) h49) h50)|exact Xv) (k:=wkT [] (X2.glue J))
       intro h;obtain rfl:=oj h;exact X6 [Gt,Gt,Gt,Gf,Gf,Gf] (o:=by repeat' first|apply Ya|exact pcM|exact fq (X8 (X8 (X8 (X8 h43 h44) h47) h48) h49)|exact fq (X8 (X8 (X8 (X8 (X8 h43 h44) h47) h48) h49) h50)|exact Xv) (k:=wkT [] (X2.glue J))
      intro h;obtain rfl:=oj h;exact X6 [Gf,Gf,Gf,Gf,Gf,Gf] (o:=by repeat' first|apply Ya|exact pcM|exact fq (X8 (X8 (X8 (X8 h43 h44) h47) h48) h49)|exact fq (Xb (X8 (X8 (X8 (X8 h43 h44) h47) h48) h49) rfl)|exact Xv) (k:=wkT [] (X2.glue J))
     intro h;obtain rfl:=oj h;exact X6 [.pure _ (aB v41),Gt,Gt,Gt,Gt,Gt,Gt,.pure _ (aB v45),Gt,Gt,Gt,Gf,Gf,Gf,Gf,Gf,Gf,Gf,Gf,Gf] (o:=by repeat' first|apply Ya|exact pcM|exact fq (X8 h43 h44)|exact fq (X8 (X8 h43 h44) h47)|exact fq (X8 (X8 (X8 h43 h44) h47) h48)|exact fq (Xb (X8 (X8 (X8 h43 h44) h47) h48) rfl)|exact fq (Xb (Xb (X8 (X8 (X8 h43 h44) h47) h48) rfl) rfl)|exact Xv) (k:=wkT [] (X2.glue J))
    intro h;obtain rfl:=oj h;exact X6 [.pure _ (aB v41),Gt,Gt,Gt,Gt,Gt,Gt,.pure _ (aB v45),Gf,Gf,Gf,Gf,Gf,Gf,Gf,Gf,Gf,Gf,Gf,Gf] (o:=by repeat' first|apply Ya|exact pcM|exact fq (X8 h43 h44)|exact fq (X8 (X8 h43 h44) h47)|exact fq (Xb (X8 (X8 h43 h44) h47) rfl)|exact fq (Xb (Xb (X8 (X8 h43 h44) h47) rfl) rfl)|exact fq (Xb (Xb (Xb (X8 (X8 h43 h44) h47) rfl) rfl) rfl)|exact Xv) (k:=wkT [] (X2.glue J))
   intro h;obtain rfl:=oj h;exact X6 [.pure _ (aB v41),Gt,Gt,Gt,Gf,Gf,Gf,Gf,Gf,Gf,Gf,Gf,Gf,Gf,Gf,Gf,Gf,Gf,Gf] (o:=by repeat' first|apply Ya|exact pcM|exact fq (X8 h43 h44)|exact fq (Xb (X8 h43 h44) rfl)|exact fq (Xb (Xb (X8 h43 h44) rfl) rfl)|exact fq (Xb (Xb (Xb (X8 h43 h44) rfl) rfl) rfl)|exact fq (Xb (Xb (Xb (Xb (X8 h43 h44) rfl) rfl) rfl) rfl)|exact Xv) (k:=wkT [] (X2.glue J))
  intro h;obtain rfl:=oj h;exact X6 [.pure _ (aB v41),Gf,Gf,Gf,Gf,Gf,Gf,Gf,Gf,Gf,Gf,Gf,Gf,Gf,Gf,Gf,Gf,Gf,Gf] (o:=by repeat' first|apply Ya|exact pcM|exact fq (Xb h43 rfl)|exact fq (Xb (Xb h43 rfl) rfl)|exact fq (Xb (Xb (Xb h43 rfl) rfl) rfl)|exact fq (Xb (Xb (Xb (Xb h43 rfl) rfl) rfl) rfl)|exact fq (Xb (Xb (Xb (Xb (Xb h43 rfl) rfl) rfl) rfl) rfl)|exact Xv) (k:=wkT [] (X2.glue J))
 clear h;revert h12;refine bI λv7 h8=>brI (λh9=>?_) λh9=>?_
 ·
  intro h;obtain rfl:=oj h;exact X6 [.pure _ (aB v7),Gf,Gf] (k:=wkT [] (X2.glue J))
 refine bI λv10 h11=>?_;intro h;obtain rfl:=oj h;exact X6 [.pure _ (aB v7),Gt,Gt,.pure _ (aB v10)] (k:=wkT [] (X2.glue J))⟩
end Go.Av.Tryz