/- Printed by decomp.py: that the program computes the functions. -/
import Derived.Test.YtnkfdamiiejfdaaGreatDoorAliveA
import Derived.Test.YtnkfdamiiejfdaaGreatDoorDCert11Z
set_option linter.all false

namespace Go.Av.Tryz
open Go.Proofs Go.D Go.Proofs.Tryz
set_option maxRecDepth 10000
set_option maxHeartbeats 40000000
instance Xea:PZ 4 (∀ (r:Bool),Xet=some r->Pz 4 [] (aB r)):=⟨λr h=>by
 obtain rfl:=oj h;exact X0dy⟩
instance Xco:PZ 3 (∀ (a0:X00) (a1:(List (List Xq))) (a2:Int) (a3:Int) (r:Bool),X3j a0 a1 a2 a3=some r->Pz 3 [(Xz false a0),(Lf (List.map (X6v false Xk) a1)),(aI .i64 a2),(aI .i64 a3)] (aB r)):=⟨λa0 a1 a2 a3 r h=>by
 refine X15.sym X2 fn3 (nt:=172) rfl rfl ?_ okM;unfold X3j at h;revert h;refine bI λv1 h2=>bI λv3 h4=>brI (λh5=>?_) λh5=>?_
 ·
  exact λe=>oj e▸X8 [.pure [] (aB v1),.pure _ (aB v3),Bt] (o:=by repeat' first|apply Ya|exact pcM|exact(pn (Xea _ h2) cn)|exact X1i) (k:=fi)
 refine bI λv6 h7=>bI λv8 h9=>bI λv10 h11=>bI λv12 h13=>bI λv14 h15=>rnI [.pure [] (aB v1),.pure _ (aB v3),Bf,.pure _ (AV.tup [(Xb true v6.1),(aI .i64 v6.2)]),.pure _ (AV.tup [(Xb true v8.1),(aI .i64 v8.2)]),.pure _ (AV.tup [(Lt (v10.1.map Xa)),(Lt (v10.2.1.map X0)),(aI .i64 v10.2.2)]),.pure _ (AV.tup [(Xb true v12.1),(aI .i64 v12.2)]),.pure _ (AV.tup [(Xb true v14.1),(aI .i64 v14.2)]),.el (aI .i64 (v6.1.Rows.length:Int)),.el (aI .i64 (v8.1.Rows.length:Int)),.el (aI .i64 (v14.1.Rows.length:Int))] (o:=by repeat' first|apply Ya|exact pcM|exact(pn (Xea _ h2) cn)|exact X1i) ?_;refine brI (λh16=>λe=>oj e▸X8 [Bt] (k:=fi)) λh16=>bI λo66 h67=>rnI [Bf] ?_;intro h;refine wkT [(0,1),(1,2),(2,3),(3,4)] (X5.cut (Xb0 a2 a3 v1 v6.1 v8.1 v10.1 v10.2.1 v12.1 v14.1 _ _ _ h67 ?_));rcases o66 with _|_
 ·
  refine lG rfl ?_;try dsimp only at h
  revert h;exact λe=>oj e▸X8 [] (k:=fi)
 refine lG rfl ?_;try dsimp only at h
 revert h;refine bI λX08l h83=>rnI [.stop 16] ?_;intro h;refine jn [(8,(aB X08l))] ([]) 0 ?_ (λJ=>X5.cut ?_)
 ·
  revert h;exact λe=>oj e▸X8 [] (k:=fi)
 clear h;revert h83;refine brI (λh76=>?_) λh76=>λe=>X8 [Gf,Gf,Gf,Gf,Gf,Gf,Gf,Gf,Gf,Gf,Gf,Gf,Gf,Gf,Gf,Gf,Gf,Gf,Gf,Gf,Gf,Gf] (k:=wJ [] J);refine bI λv77 h78=>bI λv79 h80=>brI (λh81=>?_) λh81=>?_
 ·
  refine brI (λh82=>?_) λh82=>?_
  ·
   exact λe=>X8 [Gt,Gt,Gt,Gt,Gt,Gt,X33.pure _ (Xb true v77),Gt,X33.pure _ (aB v79),Gt,Gt,Gt,X33.el (aI .i64 (v14.1.Late.length:Int)),Gt,Gt,X33.el (aI .i64 (v10.2.1.length:Int)),Gt,Gt,Gt,Gt,X33.el (aI .i64 (v6.1.Late.length:Int)),Gt,Gt,X33.el (aI .i64 (v10.2.1.length:Int)),Gt] (o:=by repeat' first|apply Ya|exact pcM|exact fq (Xh1 h76 h81)|exact fq (Xh1 (Xh1 h76 h81) h82)|exact X1i) (k:=wJ [] J)
  exact λe=>X8 [Gt,Gt,Gt,Gt,Gt,Gt,.pure _ (Xb true v77),Gt,.pure _ (aB v79),Gt,Gt,Gt,.el (aI .i64 (v14.1.Late.length:Int)),Gt,Gt,.el (aI .i64 (v10.2.1.length:Int)),Gt,Gf,Gf,Gf,Gf,Gf,Gf,Gf] (o:=by repeat' first|apply Ya|exact pcM|exact fq (Xh1 h76 h81)|exact fq (Xh1 (Xh1 h76 h81) h82)|exact X1i) (k:=wJ [] J)
 exact λe=>X8 [Gt,Gt,Gt,Gt,Gt,Gt,.pure _ (Xb true v77),Gt,.pure _ (aB v79),Gf,Gf,Gf,Gf,Gf,Gf,Gf,Gf,Gf,Gf,Gf,Gf,Gf,Gf] (o:=by repeat' first|apply Ya|exact pcM|exact fq (Xh1 h76 h81)|exact X1i) (k:=wJ [] J)⟩
end Go.Av.Tryz