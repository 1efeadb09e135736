/- Printed by decomp.py: that the program computes the functions. -/
import Derived.Test.YtkjlgmgfhgamlaaGreatDCert0Z
set_option linter.all false

namespace Go.Av.Tryz
open Go.Proofs Go.D
set_option maxRecDepth 10000
set_option maxHeartbeats 40000000
instance X02j:PCs Tryz.prog 54 (∀ (a0:Xk) (r:Bool),Xcx a0=some r->X0a Tryz.prog 54 [(Xa false a0)] (aB r)):=⟨λa0 r h=>by
 refine X0a.sym X3 fn54 (nt:=69) rfl rfl ?_ okM;unfold Xcx at h;revert h;refine brI (λh1=>?_) λh1=>?_
 ·
  refine bI λj6_2 h11=>rnI [Bt,.stop 19] ?_;intro h;refine X2.join (s':=⟨fr [(2,(aB j6_2))],hp ([]),0⟩) ?_ (λJ=>X2.cut ?_)
  ·
   revert h;exact λe=>oj e▸X6 [] (k:=fi)
  clear h;revert h11;refine brI (λh7=>?_) λh7=>?_
  ·
   refine brI (λh8=>?_) λh8=>?_
   ·
    refine rnI [.el (aI .i64 (a0.Marks.length:Int)),Gt,Gt,Gt,.el (aI .i64 (a0.Store.length:Int)),Gt,Gt,Gt,Gt,Gt,.el (aI .i64 (a0.Events.length:Int)),Gt,Gt,.stop 999999] (o:=by repeat' first|apply Ya|exact pcM|exact fq (X8 h7 h8)|exact Xv) ?_;refine brI (λh9=>?_) λh9=>?_
    ·
     refine brI (λh10=>?_) λh10=>?_
     ·
      intro h;obtain rfl:=oj h;exact X6 [Gt,Gt,Gt,.el (aI .i64 (a0.Rows.length:Int)),Gt,Gt,Gt,Gt,Gt,.el (aI .i64 (a0.Late.length:Int)),Gt,Gt] (o:=by repeat' first|apply Ya|exact pcM|exact fq (X8 (X8 h7 h8) h9)|exact fq (X8 (X8 (X8 h7 h8) h9) h10)|exact Xv) (k:=wkT [] (X2.glue J))
     intro h;obtain rfl:=oj h;exact X6 [Gt,Gt,Gt,.el (aI .i64 (a0.Rows.length:Int)),Gt,Gt,Gf,Gf,Gf,Gf,Gf] (o:=by repeat' first|apply Ya|exact pcM|exact fq (X8 (X8 h7 h8) h9)|exact fq (X8 (X8 (X8 h7 h8) h9) h10)|exact Xv) (k:=wkT [] (X2.glue J))
    intro h;obtain rfl:=oj h;exact X6 [Gf,Gf,Gf,Gf,Gf,Gf,Gf,Gf,Gf,Gf] (o:=by repeat' first|apply Ya|exact pcM|exact fq (X8 (X8 h7 h8) h9)|exact fq (Xb (X8 (X8 h7 h8) h9) rfl)|exact Xv) (k:=wkT [] (X2.glue J))
   intro h;obtain rfl:=oj h;exact X6 [.el (aI .i64 (a0.Marks.length:Int)),Gt,Gt,Gt,.el (aI .i64 (a0.Store.length:Int)),Gt,Gt,Gf,Gf,Gf,Gf,Gf,Gf,Gf,Gf,Gf,Gf,Gf,Gf,Gf,Gf,Gf] (o:=by repeat' first|apply Ya|exact pcM|exact fq (X8 h7 h8)|exact fq (Xb (X8 h7 h8) rfl)|exact fq (Xb (Xb (X8 h7 h8) rfl) rfl)|exact Xv) (k:=wkT [] (X2.glue J))
  intro h;obtain rfl:=oj h;exact X6 [.el (aI .i64 (a0.Marks.length:Int)),Gf,Gf,Gf,Gf,Gf,Gf,Gf,Gf,Gf,Gf,Gf,Gf,Gf,Gf,Gf,Gf,Gf,Gf,Gf,Gf] (o:=by repeat' first|apply Ya|exact pcM|exact fq (Xb h7 rfl)|exact fq (Xb (Xb h7 rfl) rfl)|exact fq (Xb (Xb (Xb h7 rfl) rfl) rfl)|exact Xv) (k:=wkT [] (X2.glue J))
 refine brI (λh12=>?_) λh12=>?_
 ·
  refine bI λX076 h22=>rnI [Bf,Bt,.stop 19] ?_;intro h;refine X2.join (s':=⟨fr [(2,(aB X076))],hp ([]),0⟩) ?_ (λJ=>X2.cut ?_)
  ·
   revert h;exact λe=>oj e▸X6 [] (k:=fi)
  clear h;revert h22;refine brI (λh18=>?_) λh18=>?_
  ·
   refine brI (λh19=>?_) λh19=>?_
   ·
    refine rnI [.el (aI .i64 (a0.Marks.length:Int)),Gt,Gt,Gt,.el (aI .i64 (a0.Store.length:Int)),Gt,Gt,Gt,Gt,Gt,.el (aI .i64 (a0.Events.length:Int)),Gt,Gt,.stop 999999] (o:=by repeat' first|apply Ya|exact pcM|exact fq (X8 h18 h19)|exact Xv) ?_;refine brI (λh20=>?_) λh20=>?_
    ·
     refine brI (λh21=>?_) λh21=>?_
     ·
      intro h;obtain rfl:=oj h;exact X6 [Gt,Gt,Gt,.el (aI .i64 (a0.Rows.length:Int)),Gt,Gt,Gt,Gt,Gt,.el (aI .i64 (a0.Late.length:Int)),Gt,Gt] (o:=by repeat' first|apply Ya|exact pcM|exact fq (X8 (X8 h18 h19) h20)|exact fq (X8 (X8 (X8 h18 h19) h20) h21)|exact Xv) (k:=wkT [] (X2.glue J))
     intro h;obtain rfl:=oj h;exact X6 [Gt,Gt,Gt,.el (aI .i64 (a0.Rows.length:Int)),Gt,Gt,Gf,Gf,Gf,Gf,Gf] (o:=by repeat' first|apply Ya|exact pcM|exact fq (X8 (X8 h18 h19) h20)|exact fq (X8 (X8 (X8 h18 h19) h20) h21)|exact Xv) (k:=wkT [] (X2.glue J))
    intro h;obtain rfl:=oj h;exact X6 [Gf,Gf,Gf,Gf,Gf,Gf,Gf,Gf,Gf,Gf] (o:=by repeat' first|apply Ya|exact pcM|exact fq (X8 (X8 h18 h19) h20)|exact fq (Xb (X8 (X8 h18 h19) h20) rfl)|exact Xv) (k:=wkT [] (X2.glue J))
   intro h;obtain rfl:=oj h;exact X6 [.el (aI .i64 (a0.Marks.length:Int)),Gt,Gt,Gt,.el (aI .i64 (a0.Store.length:Int)),Gt,Gt,Gf,Gf,Gf,Gf,Gf,Gf,Gf,Gf,Gf,Gf,Gf,Gf,Gf,Gf,Gf] (o:=by repeat' first|apply Ya|exact pcM|exact fq (X8 h18 h19)|exact fq (Xb (X8 h18 h19) rfl)|exact fq (Xb (Xb (X8 h18 h19) rfl) rfl)|exact Xv) (k:=wkT [] (X2.glue J))
  intro h;obtain rfl:=oj h;exact X6 [.el (aI .i64 (a0.Marks.length:Int)),Gf,Gf,Gf,Gf,Gf,Gf,Gf,Gf,Gf,Gf,Gf,Gf,Gf,Gf,Gf,Gf,Gf,Gf,Gf,Gf] (o:=by repeat' first|apply Ya|exact pcM|exact fq (Xb h18 rfl)|exact fq (Xb (Xb h18 rfl) rfl)|exact fq (Xb (Xb (Xb h18 rfl) rfl) rfl)|exact Xv) (k:=wkT [] (X2.glue J))
 refine brI (λh23=>?_) λh23=>?_
 ·
  refine bI λX071 h33=>rnI [Bf,Bf,Bt,.stop 19] ?_;intro h;refine X2.join (s':=⟨fr [(2,(aB X071))],hp ([]),0⟩) ?_ (λJ=>X2.cut ?_)
  ·
   revert h;exact λe=>oj e▸X6 [] (k:=fi)
  clear h;revert h33;refine brI (λh29=>?_) λh29=>?_
  ·
   refine brI (λh30=>?_) λh30=>?_
   ·
    refine rnI [.el (aI .i64 (a0.Marks.length:Int)),Gt,Gt,Gt,.el (aI .i64 (a0.Store.length:Int)),Gt,Gt,Gt,Gt,Gt,.el (aI .i64 (a0.Events.length:Int)),Gt,Gt,.stop 999999] (o:=by repeat' first|apply Ya|exact pcM|exact fq (X8 h29 h30)|exact Xv) ?_;refine brI (λh31=>?_) λh31=>?_
    ·
     refine brI (λh32=>?_) λh32=>?_
     ·
      intro h;obtain rfl:=oj h;exact X6 [Gt,Gt,Gt,.el (aI .i64 (a0.Rows.length:Int)),Gt,Gt,Gt,Gt,Gt,.el (aI .i64 (a0.Late.length:Int)),Gt,Gt] (o:=by repeat' first|apply Ya|exact pcM|exact fq (X8 (X8 h29 h30) h31)|exact fq (X8 (X8 (X8 h29 h30) h31) h32)|exact Xv) (k:=wkT [] (X2.glue J))
     intro h;obtain rfl:=oj h;exact X6 [Gt,Gt,Gt,.el (aI .i64 (a0.Rows.length:Int)),Gt,Gt,Gf,Gf,Gf,Gf,Gf] (o:=by repeat' first|apply Ya|exact pcM|exact fq (X8 (X8 h29 h30) h31)|exact fq (X8 (X8 (X8 h29 h30) h31) h32)|exact Xv) (k:=wkT [] (X2.glue J))
    intro h;obtain rfl:=oj h;exact X6 [Gf,Gf,Gf,Gf,Gf,Gf,Gf,Gf,Gf,Gf] (o:=by repeat' first|apply Ya|exact pcM|exact fq (X8 (X8 h29 h30) h31)|exact fq (Xb (X8 (X8 h29 h30) h31) rfl)|exact Xv) (k:=wkT [] (X2.glue J))
   intro h;obtain rfl:=oj h;exact X6 [.el (aI .i64 (a0.Marks.length:Int)),Gt,Gt,Gt,.el (aI .i64 (a0.Store.length:Int)),Gt,Gt,Gf,Gf,Gf,Gf,Gf,Gf,Gf,Gf,Gf,Gf,Gf,Gf,Gf,Gf,Gf] (o:=by repeat' first|apply Ya|exact pcM|exact fq (X8 h29 h30)|exact fq (Xb (X8 h29 h30) rfl)|exact fq (Xb (Xb (X8 h29 h30) rfl) rfl)|exact Xv) (k:=wkT [] (X2.glue J))
  intro h;obtain rfl:=oj h;exact X6 [.el (aI .i64 (a0.Marks.length:Int)),Gf,Gf,Gf,Gf,Gf,Gf,Gf,Gf,Gf,Gf,Gf,Gf,Gf,Gf,Gf,Gf,Gf,Gf,Gf,Gf] (o:=by repeat' first|apply Ya|exact pcM|exact fq (Xb h29 rfl)|exact fq (Xb (Xb h29 rfl) rfl)|exact fq (Xb (Xb (Xb h29 rfl) rfl) rfl)|exact Xv) (k:=wkT [] (X2.glue J))
 refine brI (λh34=>?_) λh34=>?_
 ·
  refine bI λX06w h44=>rnI [Bf,Bf,Bf,Bt,.el (aI .i64 (a0.Marks.length:Int)),.el (aI .i64 (a0.Store.length:Int)),.stop 19] ?_;intro h;refine X2.join (s':=⟨fr [(2,(aB X06w))],hp ([]),0⟩) ?_ (λJ=>X2.cut ?_)
  ·
   revert h;exact λe=>oj e▸X6 [] (k:=fi)
  clear h;revert h44;refine brI (λh40=>?_) λh40=>?_
  ·
   refine brI (λh41=>?_) λh41=>?_
   ·
    refine rnI [.el (aI .i64 (a0.Marks.length:Int)),Gt,Gt,Gt,.el (aI .i64 (a0.Store.length:Int)),Gt,Gt,Gt,Gt,Gt,.el (aI .i64 (a0.Events.length:Int)),Gt,Gt,.stop 999999] (o:=by repeat' first|apply Ya|exact pcM|exact fq (X8 h40 h41)|exact Xv) ?_;refine brI (λh42=>?_) λh42=>?_
    ·
     refine brI (λh43=>?_) λh43=>?_
     ·
      intro h;obtain rfl:=oj h;exact X6 [Gt,Gt,Gt,.el (aI .i64 (a0.Rows.length:Int)),Gt,Gt,Gt,Gt,Gt,.el (aI .i64 (a0.Late.length:Int)),Gt,Gt] (o:=by repeat' first|apply Ya|exact pcM|exact fq (X8 (X8 h40 h41) h42)|exact fq (X8 (X8 (X8 h40 h41) h42) h43)|exact Xv) (k:=wkT [] (X2.glue J))
     intro h;obtain rfl:=oj h;exact X6 [Gt,Gt,Gt,.el (aI .i64 (a0.Rows.length:Int)),Gt,Gt,Gf,Gf,Gf,Gf,Gf] (o:=by repeat' first|apply Ya|exact pcM|exact fq (X8 (X8 h40 h41) h42)|exact fq (X8 (X8 (X8 h40 h41) h42) h43)|exact Xv) (k:=wkT [] (X2.glue J))
    intro h;obtain rfl:=oj h;exact X6 [Gf,Gf,Gf,Gf,Gf,Gf,Gf,Gf,Gf,Gf] (o:=by repeat' first|apply Ya|exact pcM|exact fq (X8 (X8 h40 h41) h42)|exact fq (Xb (X8 (X8 h40 h41) h42) rfl)|exact Xv) (k:=wkT [] (X2.glue J))
   intro h;obtain rfl:=oj h;exact X6 [.el (aI .i64 (a0.Marks.length:Int)),Gt,Gt,Gt,.el (aI .i64 (a0.Store.length:Int)),Gt,Gt,Gf,Gf,Gf,Gf,Gf,Gf,Gf,Gf,Gf,Gf,Gf,Gf,Gf,Gf,Gf] (o:=by repeat' first|apply Ya|exact pcM|exact fq (X8 h40 h41)|exact fq (Xb (X8 h40 h41) rfl)|exact fq (Xb (Xb (X8 h40 h41) rfl) rfl)|exact Xv) (k:=wkT [] (X2.glue J))
  intro h;obtain rfl:=oj h;exact X6 [.el (aI .i64 (a0.Marks.length:Int)),Gf,Gf,Gf,Gf,Gf,Gf,Gf,Gf,Gf,Gf,Gf,Gf,Gf,Gf,Gf,Gf,Gf,Gf,Gf,Gf] (o:=by repeat' first|apply Ya|exact pcM|exact fq (Xb h40 rfl)|exact fq (Xb (Xb h40 rfl) rfl)|exact fq (Xb (Xb (Xb h40 rfl) rfl) rfl)|exact Xv) (k:=wkT [] (X2.glue J))
 refine brI (λh45=>?_) λh45=>?_
 ·
  refine bI λX06l h55=>rnI [Bf,Bf,Bf,Bf,Bt,.el (aI .i64 (a0.Store.length:Int)),.stop 19] ?_;intro h;refine X2.join (s':=⟨fr [(2,(aB X06l))],hp ([]),0⟩) ?_ (λJ=>X2.cut ?_)
  ·
   revert h;exact λe=>oj e▸X6 [] (k:=fi)
  clear h;revert h55;refine brI (λh51=>?_) λh51=>?_
  ·
   refine brI (λh52=>?_) λh52=>?_
   ·
    refine rnI [.el (aI .i64 (a0.Marks.length:Int)),Gt,Gt,Gt,.el (aI .i64 (a0.Store.length:Int)),Gt,Gt,Gt,Gt,Gt,.el (aI .i64 (a0.Events.length:Int)),Gt,Gt,.stop 999999] (o:=by repeat' first|apply Ya|exact pcM|exact fq (X8 h51 h52)|exact Xv) ?_;refine brI (λh53=>?_) λh53=>?_
    ·
     refine brI (λh54=>?_) λh54=>?_
     ·
      intro h;obtain rfl:=oj h;exact X6 [Gt,Gt,Gt,.el (aI .i64 (a0.Rows.length:Int)),Gt,Gt,Gt,Gt,Gt,.el (aI .i64 (a0.Late.length:Int)),Gt,Gt] (o:=by repeat' first|apply Ya|exact pcM|exact fq (X8 (X8 h51 h52) h53)|exact fq (X8 (X8 (X8 h51 h52) h53) h54)|exact Xv) (k:=wkT [] (X2.glue J))
     intro h;obtain rfl:=oj h;exact X6 [Gt,Gt,Gt,.el (aI .i64 (a0.Rows.length:Int)),Gt,Gt,Gf,Gf,Gf,Gf,Gf] (o:=by repeat' first|apply Ya|exact pcM|exact fq (X8 (X8 h51 h52) h53)|exact fq (X8 (X8 (X8 h51 h52) h53) h54)|exact Xv) (k:=wkT [] (X2.glue J))
    intro h;obtain rfl:=oj h;exact X6 [Gf,Gf,Gf,Gf,Gf,Gf,Gf,Gf,Gf,Gf] (o:=by repeat' first|apply Ya|exact pcM|exact fq (X8 (X8 h51 h52) h53)|exact fq (Xb (X8 (X8 h51 h52) h53) rfl)|exact Xv) (k:=wkT [] (X2.glue J))
   intro h;obtain rfl:=oj h;exact X6 [.el (aI .i64 (a0.Marks.length:Int)),Gt,Gt,Gt,.el (aI .i64 (a0.Store.length:Int)),Gt,Gt,Gf,Gf,Gf,Gf,Gf,Gf,Gf,Gf,Gf,Gf,Gf,Gf,Gf,Gf,Gf] (o:=by repeat' first|apply Ya|exact pcM|exact fq (X8 h51 h52)|exact fq (Xb (X8 h51 h52) rfl)|exact fq (Xb (Xb (X8 h51 h52) rfl) rfl)|exact Xv) (k:=wkT [] (X2.glue J))
  intro h;obtain rfl:=oj h;exact X6 [.el (aI .i64 (a0.Marks.length:Int)),Gf,Gf,Gf,Gf,Gf,Gf,Gf,Gf,Gf,Gf,Gf,Gf,Gf,Gf,Gf,Gf,Gf,Gf,Gf,Gf] (o:=by repeat' first|apply Ya|exact pcM|exact fq (Xb h51 rfl)|exact fq (Xb (Xb h51 rfl) rfl)|exact fq (Xb (Xb (Xb h51 rfl) rfl) rfl)|exact Xv) (k:=wkT [] (X2.glue J))
 refine brI (λh56=>?_) λh56=>?_
 ·
  refine bI λX06i h66=>rnI [Bf,Bf,Bf,Bf,Bf,Bt,.stop 19] ?_;intro h;refine X2.join (s':=⟨fr [(2,(aB X06i))],hp ([]),0⟩) ?_ (λJ=>X2.cut ?_)
  ·
   revert h;exact λe=>oj e▸X6 [] (k:=fi)
  clear h;revert h66;refine brI (λh62=>?_) λh62=>?_
  ·
   refine brI (λh63=>?_) λh63=>?_
   ·
    refine rnI [.el (aI .i64 (a0.Marks.length:Int)),Gt,Gt,Gt,.el (aI .i64 (a0.Store.length:Int)),Gt,Gt,Gt,Gt,Gt,.el (aI .i64 (a0.Events.length:Int)),Gt,Gt,.stop 999999] (o:=by repeat' first|apply Ya|exact pcM|exact fq (X8 h62 h63)|exact Xv) ?_;refine brI (λh64=>?_) λh64=>?_
    ·
     refine brI (λh65=>?_) λh65=>?_
     ·
      intro h;obtain rfl:=oj h;exact X6 [Gt,Gt,Gt,.el (aI .i64 (a0.Rows.length:Int)),Gt,Gt,Gt,Gt,Gt,.el (aI .i64 (a0.Late.length:Int)),Gt,Gt] (o:=by repeat' first|apply Ya|exact pcM|exact fq (X8 (X8 h62 h63) h64)|exact fq (X8 (X8 (X8 h62 h63) h64) h65)|exact Xv) (k:=wkT [] (X2.glue J))
     intro h;obtain rfl:=oj h;exact X6 [Gt,Gt,Gt,.el (aI .i64 (a0.Rows.length:Int)),Gt,Gt,Gf,Gf,Gf,Gf,Gf] (o:=by repeat' first|apply Ya|exact pcM|exact fq (X8 (X8 h62 h63) h64)|exact fq (X8 (X8 (X8 h62 h63) h64) h65)|exact Xv) (k:=wkT [] (X2.glue J))
    intro h;obtain rfl:=oj h;exact X6 [Gf,Gf,Gf,Gf,Gf,Gf,Gf,Gf,Gf,Gf] (o:=by repeat' first|apply Ya|exact pcM|exact fq (X8 (X8 h62 h63) h64)|exact fq (Xb (X8 (X8 h62 h63) h64) rfl)|exact Xv) (k:=wkT [] (X2.glue J))
   intro h;obtain rfl:=oj h;exact X6 [.el (aI .i64 (a0.Marks.length:Int)),Gt,Gt,Gt,.el (aI .i64 (a0.Store.length:Int)),Gt,Gt,Gf,Gf,Gf,Gf,Gf,Gf,Gf,Gf,Gf,Gf,Gf,Gf,Gf,Gf,Gf] (o:=by repeat' first|apply Ya|exact pcM|exact fq (X8 h62 h63)|exact fq (Xb (X8 h62 h63) rfl)|exact fq (Xb (Xb (X8 h62 h63) rfl) rfl)|exact Xv) (k:=wkT [] (X2.glue J))
  intro h;obtain rfl:=oj h;exact X6 [.el (aI .i64 (a0.Marks.length:Int)),Gf,Gf,Gf,Gf,Gf,Gf,Gf,Gf,Gf,Gf,Gf,Gf,Gf,Gf,Gf,Gf,Gf,Gf,Gf,Gf] (o:=by repeat' first|apply Ya|exact pcM|exact fq (Xb h62 rfl)|exact fq (Xb (Xb h62 rfl) rfl)|exact fq (Xb (Xb (Xb h62 rfl) rfl) rfl)|exact Xv) (k:=wkT [] (X2.glue J))
 refine brI (λh67=>?_) λh67=>λe=>oj e▸X6 [Bf,Bf,Bf,Bf,Bf,Bf,Bf] (k:=fi);refine bI λX06e h77=>rnI [Bf,Bf,Bf,Bf,Bf,Bf,Bt,.stop 19] ?_;intro h;refine X2.join (s':=⟨fr [(2,(aB X06e))],hp ([]),0⟩) ?_ (λJ=>X2.cut ?_)
 ·
  revert h;exact λe=>oj e▸X6 [] (k:=fi)
 clear h;revert h77;refine brI (λh73=>?_) λh73=>?_
 ·
  refine brI (λh74=>?_) λh74=>?_
  ·
   refine rnI [.el (aI .i64 (a0.Marks.length:Int)),Gt,Gt,Gt,.el (aI .i64 (a0.Store.length:Int)),Gt,Gt,Gt,Gt,Gt,.el (aI .i64 (a0.Events.length:Int)),Gt,Gt,.stop 999999] (o:=by repeat' first|apply Ya|exact pcM|exact fq (X8 h73 h74)|exact Xv) ?_;refine brI (λh75=>?_) λh75=>?_
   ·
    refine brI (λh76=>?_) λh76=>?_
    ·
     intro h;obtain rfl:=oj h;exact X6 [Gt,Gt,Gt,.el (aI .i64 (a0.Rows.length:Int)),Gt,Gt,Gt,Gt,Gt,.el (aI .i64 (a0.Late.length:Int)),Gt,Gt] (o:=by repeat' first|apply Ya|exact pcM|exact fq (X8 (X8 h73 h74) h75)|exact fq (X8 (X8 (X8 h73 h74) h75) h76)|exact Xv) (k:=wkT [] (X2.glue J))
    intro h;obtain rfl:=oj h;exact X6 [Gt,Gt,Gt,.el (aI .i64 (a0.Rows.length:Int)),Gt,Gt,Gf,Gf,Gf,Gf,Gf] (o:=by repeat' first|apply Ya|exact pcM|exact fq (X8 (X8 h73 h74) h75)|exact fq (X8 (X8 (X8 h73 h74) h75) h76)|exact Xv) (k:=wkT [] (X2.glue J))
   intro h;obtain rfl:=oj h;exact X6 [Gf,Gf,Gf,Gf,Gf,Gf,Gf,Gf,Gf,Gf] (o:=by repeat' first|apply Ya|exact pcM|exact fq (X8 (X8 h73 h74) h75)|exact fq (Xb (X8 (X8 h73 h74) h75) rfl)|exact Xv) (k:=wkT [] (X2.glue J))
  intro h;obtain rfl:=oj h;exact X6 [.el (aI .i64 (a0.Marks.length:Int)),Gt,Gt,Gt,.el (aI .i64 (a0.Store.length:Int)),Gt,Gt,Gf,Gf,Gf,Gf,Gf,Gf,Gf,Gf,Gf,Gf,Gf,Gf,Gf,Gf,Gf] (o:=by repeat' first|apply Ya|exact pcM|exact fq (X8 h73 h74)|exact fq (Xb (X8 h73 h74) rfl)|exact fq (Xb (Xb (X8 h73 h74) rfl) rfl)|exact Xv) (k:=wkT [] (X2.glue J))
 intro h;obtain rfl:=oj h;exact X6 [.el (aI .i64 (a0.Marks.length:Int)),Gf,Gf,Gf,Gf,Gf,Gf,Gf,Gf,Gf,Gf,Gf,Gf,Gf,Gf,Gf,Gf,Gf,Gf,Gf,Gf] (o:=by repeat' first|apply Ya|exact pcM|exact fq (Xb h73 rfl)|exact fq (Xb (Xb h73 rfl) rfl)|exact fq (Xb (Xb (Xb h73 rfl) rfl) rfl)|exact Xv) (k:=wkT [] (X2.glue J))⟩
instance X00y:PCs Tryz.prog 15 (∀ (a0:Xc) (r:Bool),X4t a0=some r->X0a Tryz.prog 15 [(X5 a0)] (aB r)):=⟨λa0 r h=>by
 refine X0a.sym X3 fn15 (nt:=11) rfl rfl ?_ okM;unfold X4t at h;revert h;exact λe=>oj e▸X6 [] (k:=fi)⟩
instance X02m:PCs Tryz.prog 14 (∀ (a0:Int) (r:Bool),X8s a0=some r->X0a Tryz.prog 14 [(aI .i64 a0)] (aB r)):=⟨λa0 r h=>by
 refine X0a.sym X3 fn14 (nt:=13) rfl rfl ?_ okM;unfold X8s at h;revert h;exact λe=>oj e▸X6 [] (k:=fi)⟩
instance X04t:PCs Tryz.prog 91 (∀ (a0:X0y) (r:Bool),Xcy a0=some r->X0a Tryz.prog 91 [(Xg a0)] (aB r)):=⟨λa0 r h=>by
 refine X0a.sym X3 fn91 (nt:=22) rfl rfl ?_ okM;unfold Xcy at h;revert h;exact λe=>oj e▸X6 [] (k:=fi)⟩
instance X00x:PCs Tryz.prog 88 (∀ (a0:Xo) (r:Bool),X8r a0=some r->X0a Tryz.prog 88 [(X0k a0)] (aB r)):=⟨λa0 r h=>by
 refine X0a.sym X3 fn88 (nt:=48) rfl rfl ?_ okM;unfold X8r at h;revert h;refine bI λj2_5 h4=>rnI [] ?_;intro h;refine X2.join (s':=⟨fr [(1,(AV.ptr 0 0 0)),(4,(aI .u8 a0.Kind)),(5,(aB j2_5))],hp ([(0,Ob [(X0k a0)] 10)]),1⟩) ?_ (λJ=>X2.cut ?_)
 ·
  revert h;refine brI (λh5=>?_) λh5=>?_
  ·
   refine bI λj9_2 h13=>rnI [Bt,.stop 4] ?_;intro h;refine X2.join (s':=⟨fr [(2,(aB j9_2))],hp ([]),0⟩) ?_ (λJ=>X2.cut ?_)
   ·
    revert h;exact λe=>oj e▸X6 [] (k:=fi)
   clear h;revert h13;refine bI λv10 h11=>brI (λh12=>?_) λh12=>?_
   ·
    intro h;obtain rfl:=oj h;exact X6 [.pure _ (aB v10),Gt,Gt,Gt,Gt,Gt,Gt,Gt] (k:=wkT [] (X2.glue J))
   intro h;obtain rfl:=oj h;exact X6 [.pure _ (aB v10),Gf,Gf,Gf,Gf,Gf,Gf,Gf] (k:=wkT [] (X2.glue J))
  refine brI (λh14=>?_) λh14=>?_
  ·
   refine bI λX075 h22=>rnI [Bf,Bt,.stop 6] ?_;intro h;refine X2.join (s':=⟨fr [(2,(aB X075))],hp ([]),0⟩) ?_ (λJ=>X2.cut ?_)
   ·
    revert h;exact λe=>oj e▸X6 [] (k:=fi)
   clear h;revert h22;refine bI λv19 h20=>brI (λh21=>?_) λh21=>?_
   ·
    intro h;obtain rfl:=oj h;exact X6 [.pure _ (aB v19),Gt,Gt,Gt,Gt,Gt,Gt,Gt] (k:=wkT [] (X2.glue J))
   intro h;obtain rfl:=oj h;exact X6 [.pure _ (aB v19),Gf,Gf,Gf,Gf,Gf,Gf,Gf] (k:=wkT [] (X2.glue J))
  refine brI (λh23=>?_) λh23=>λe=>oj e▸X6 [Bf,Bf,Bf] (k:=fi);refine bI λX073 h31=>rnI [Bf,Bf,Bt,.stop 8] ?_;intro h;refine X2.join (s':=⟨fr [(2,(aB X073))],hp ([]),0⟩) ?_ (λJ=>X2.cut ?_)
  ·
   revert h;exact λe=>oj e▸X6 [] (k:=fi)
  clear h;revert h31;refine bI λv28 h29=>brI (λh30=>?_) λh30=>?_
  ·
   intro h;obtain rfl:=oj h;exact X6 [.pure _ (aB v28),Gt,Gt,Gt,Gt,Gt,Gt,Gt] (k:=wkT [] (X2.glue J))
  intro h;obtain rfl:=oj h;exact X6 [.pure _ (aB v28),Gf,Gf,Gf,Gf,Gf,Gf,Gf] (k:=wkT [] (X2.glue J))
 clear h;revert h4;refine brI (λh3=>?_) λh3=>?_
 ·
  intro h;obtain rfl:=oj h;exact X6 [Bt] (k:=wkT [] (X2.glue J))
 intro h;obtain rfl:=oj h;exact X6 [Bf] (k:=wkT [] (X2.glue J))⟩
theorem Xhx {Q:X04->St->Mu->Prop} {μ:Mu} (X0c:(List X03)) (hl:X0c.length<=140737488355328):∀ (xs:List X03) (k:Nat) (hx:X0c.drop k=xs) (o:X6h) (h:X41 X0c xs k  = some o)
  (C0:o=X6h.x0->X2 Tryz.prog 33 0 Q (.exit (.exit 0)) [] ⟨fr [],hp ([]),0⟩ μ)
  (C1:o=X6h.x1->X2 Tryz.prog 33 0 Q (.exit .ret) [] ⟨fr [(2,(aB false))],hp ([]),0⟩ μ),
  X2 Tryz.prog 33 0 Q (.loop (X2p 0 (Xd Tryz.f55))) [] ⟨fr [(0,(Lf (X0c.map Xf))),(3,(aI .i64 (k:Int)))],hp ([]),0⟩ μ:=by
 intro xs
 induction xs with
 |nil =>
  intro k hx  o h C0 C1;have hk:=X1f hx;have hc:decide ((k:Int)<(X0c.length:Int))=false:=Yf om;rw[X41] at h;refine X2.round ?_;revert h;exact λe=>X6 [.el (aI .i64 (X0c.length:Int)),Bf] (k:=wkT [] (C0  (oj e).symm))
 |cons x xs ih =>
  intro k hx  o h C0 C1;obtain⟨hk,hg,hx1⟩:=X0u hx;have hc:decide ((k:Int)<(X0c.length:Int))=true:=Yt om;rw[X41] at h;refine X2.round ?_;revert h;refine bI λXyx h35=>rnI [.el (aI .i64 (X0c.length:Int)),Bt,.stop 4] ?_;intro h;refine X2.join (s':=⟨fr [(0,(Lf (X0c.map Xf))),(3,(aI .i64 (k:Int))),(32,(aB Xyx))],hp ([]),0⟩) ?_ (λJ=>X2.cut ?_)
  ·
   revert h;refine brI (λh36=>λe=>X6 [Bt] (k:=wkT [] (C1  (oj e).symm))) λh36=>rnI [Bf] ?_;intro h;exact wkT [] (ih (k+1) hx1  o h C0 C1)
  clear h;revert h35;refine brI (λh31=>?_) λh31=>?_
  ·
   intro h;obtain rfl:=oj h;exact X6 [.el (Xf x),Gf,Gf,Gf,Gf,Gf,Gf,Gf,Gf,Gf,Gf,Gf,Gf,Gf] (o:=by repeat' first|apply Ya|exact pcM|exact fq (X8 h31 rfl)|exact Xv) (k:=wkT [] (X2.glue J))
  refine brI (λh32=>?_) λh32=>?_
  ·
   intro h;obtain rfl:=oj h;exact X6 [.el (Xf x),Gt,Gt,Gt,.el (Xf x),Gt,Gt,Gt,Gf,Gf,Gf,Gf,Gf,Gf,Gf] (o:=by repeat' first|apply Ya|exact pcM|exact fq (Xb h31 h32)|exact Xv) (k:=wkT [] (X2.glue J))
  refine bI λv33 h34=>?_;intro h;obtain rfl:=oj h;exact X6 [.el (Xf x),Gt,Gt,Gt,.el (Xf x),Gt,Gt,Gt,Gt,Gt,Gt,.el (Xf x),Gt,Gt,Gt,.pure _ (aB v33),Gt] (o:=by repeat' first|apply Ya|exact pcM|exact fq (Xb h31 h32)|exact Xv) (k:=wkT [] (X2.glue J))
instance X00s:PCs Tryz.prog 55 (∀ (a0:(List X03)) (r:Bool),Xaz a0=some r->X0a Tryz.prog 55 [(Lf (a0.map Xf))] (aB r)):=⟨λa0 r h=>by
 refine X0a.sym X3 fn55 (nt:=33) rfl rfl ?_ okM;unfold Xaz at h;revert h;refine bI λu1 h2=>?_;have qh2:=X0v h2;refine bI λo37 h38=>rnI [] ?_;intro h;refine wkT [] (X2.cut (Xhx a0 qh2 a0 0 (by simp) _ h38 ?_ ?_))
 ·
  intro eo37;subst eo37;refine X2.glue ?_;try dsimp only at h
  revert h;exact λe=>oj e▸X6 [] (k:=fi)
 intro eo37;subst eo37;refine X2.glue ?_;try dsimp only at h
 revert h;exact λe=>oj e▸X6 [] (k:=fi)⟩
instance X00u:PCs Tryz.prog 89 (∀ (a0:Int) (r:Bool),Xb1 a0=some r->X0a Tryz.prog 89 [(aI .i64 a0)] (aB r)):=⟨λa0 r h=>by
 refine X0a.sym X3 fn89 (nt:=9) rfl rfl ?_ okM;unfold Xb1 at h;revert h;refine bI λj4_2 h8=>rnI [.stop 1] ?_;intro h;refine X2.join (s':=⟨fr [(2,(aB j4_2))],hp ([]),0⟩) ?_ (λJ=>X2.cut ?_)
 ·
  revert h;exact λe=>oj e▸X6 [] (k:=fi)
 clear h;revert h8;refine brI (λh5=>?_) λh5=>?_
 ·
  intro h;obtain rfl:=oj h;exact X6 [Gf,Gf] (k:=wkT [] (X2.glue J))
 refine bI λv6 h7=>?_;intro h;obtain rfl:=oj h;exact X6 [Gt,Gt,.pure _ (aB v6)] (k:=wkT [] (X2.glue J))⟩
end Go.Av.Tryz