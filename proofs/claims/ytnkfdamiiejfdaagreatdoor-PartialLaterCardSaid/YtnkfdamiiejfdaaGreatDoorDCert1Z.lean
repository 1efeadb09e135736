/- Printed by decomp.py: that the program computes the functions. -/
import Derived.Test.YtnkfdamiiejfdaaGreatDoorDCert0Z
set_option linter.all false

namespace Go.Av.Tryz
open Go.Proofs Go.D Go.Proofs.Tryz
set_option maxRecDepth 10000
set_option maxHeartbeats 40000000
instance X01u:PZ 74 (∀ (a0:Xq) (r:Bool),X93 a0=some r->Pz 74 [(Xk a0)] (aB r)):=⟨λa0 r h=>by
 refine X15.sym X2 fn74 (nt:=30) rfl rfl ?_ okM;unfold X93 at h;revert h;refine brI (λh1=>?_) λh1=>?_
 ·
  refine bI λj6_2 h11=>rnI [Bt,.stop 2] ?_;intro h;refine jn [(2,(aB j6_2))] ([]) 0 ?_ (λJ=>X5.cut ?_)
  ·
   revert h;exact λe=>oj e▸X8 [] (k:=fi)
  clear h;revert h11;exact brI (λh7=>brI (λh8=>λe=>X8 [Gt,Gt,Gt,Gt,Gf,Gf,Gf,Gf,Gt] (k:=wJ [] J)) λh8=>bI λv9 h10=>λe=>X8 [Gt,Gt,Gt,Gt,Gt,Gt,Gt,.pure _ (aI .i64 v9),Gt,Gt] (k:=wJ [] J)) λh7=>λe=>X8 [Gf,Gf,Gf,Gf,Gf,Gf,Gf,Gf,Gf] (k:=wJ [] J)
 refine bI λX08y h19=>rnI [Bf,.stop 3] ?_;intro h;refine jn [(2,(aB X08y))] ([]) 0 ?_ (λJ=>X5.cut ?_)
 ·
  revert h;exact λe=>oj e▸X8 [] (k:=fi)
 clear h;revert h19;exact brI (λh16=>bI λv17 h18=>λe=>X8 [Gt,Gt,Gt,Gt,.pure _ (aI .i64 v17),Gt] (k:=wJ [] J)) λh16=>λe=>X8 [Gf,Gf,Gf,Gf,Gf] (k:=wJ [] J)⟩
theorem Xge {Q:Qt} {μ:Mu} (X0e:(List Xq)) (hl:X0e.length<=140737488355328):Dr X0e λxs k=>∀ (o:Xc4) (h:X3s X0e xs k  = some o),Lq Tryz.prog 19 0 Q μ o (fun|.x0=>(.exit 0,⟨fr [],hp ([]),0⟩)|.x1=>(.ret,⟨fr [(2,(aI .i64 8))],hp ([]),0⟩))
  (X5b 0 (X10 Tryz.f36)) ⟨fr [(0,(Lf (X0e.map Xk))),(3,(aI .i64 (k:Int)))],hp ([]),0⟩:=by
 refine drI ?_ ?_
 ·
  intro k hk hc  o h C;rw[X3s] at h;refine X5.round ?_;revert h;exact λe=>X8 [.el (aI .i64 (X0e.length:Int)),Bf] (k:=wC e C)
 ·
  intro x xs k hk hg hc ih  o h C;rw[X3s] at h;refine X5.round ?_;revert h;refine bI λv11 h12=>brI (λh13=>λe=>X8 [.el (aI .i64 (X0e.length:Int)),Bt,.el (Xk x),.pure _ (aB v11),Bt] (k:=wC e C)) λh13=>rnI [.el (aI .i64 (X0e.length:Int)),Bt,.el (Xk x),.pure _ (aB v11),Bf] ?_;intro h;exact wkT [] (ih   o h C)
instance X01v:PZ 36 (∀ (a0:(List Xq)) (r:Int),X94 a0=some r->Pz 36 [(Lf (a0.map Xk))] (aI .i64 r)):=⟨λa0 r h=>by
 refine X15.sym X2 fn36 (nt:=19) rfl rfl ?_ okM;unfold X94 at h;revert h;refine brI (λh1=>λe=>oj e▸X8 [.el (aI .i64 (a0.length:Int)),Bt] (k:=fi)) λh1=>bI λu2 h3=>?_;have qh3:=X05 h3;refine bI λo14 h15=>rnI [.el (aI .i64 (a0.length:Int)),Bf] ?_;intro h;refine wkT [] (X5.cut (drA (Xge a0 qh3) _ h15 ?_));rcases o14 with _|_
 ·
  refine lG rfl ?_;try dsimp only at h
  revert h;exact λe=>oj e▸X8 [] (k:=fi)
 refine lG rfl ?_;try dsimp only at h
 revert h;exact λe=>oj e▸X8 [] (k:=fi)⟩
theorem Xgb {Q:Qt} {μ:Mu} (X9p:(List (List Xq))) (Xdt:Int) (Xh4:Int) (hl:X9p.length<=140737488355328):Dr X9p λxs k=>∀ (o:Xc1) (h:X3p X9p Xdt Xh4 xs k  = some o),Lq Tryz.prog 55 0 Q μ o (fun|.x0=>(.exit 0,⟨fr [(2,(aI .i64 Xdt)),(3,(aI .i64 Xh4))],hp ([]),0⟩)|.x1 Xo2=>(.ret,⟨fr [(8,(aI .i64 Xo2))],hp ([]),0⟩))
  (X5b 0 (X10 Tryz.f16)) ⟨fr [(1,(Lf (List.map (X6v false Xk) X9p))),(2,(aI .i64 Xdt)),(3,(aI .i64 Xh4)),(11,(aI .i64 (k:Int)))],hp ([]),0⟩:=by
 refine drI ?_ ?_
 ·
  intro k hk hc  o h C;rw[X3p] at h;refine X5.round ?_;revert h;exact λe=>X8 [.el (aI .i64 (X9p.length:Int)),Bf] (k:=wC e C)
 ·
  intro x xs k hk hg hc ih  o h C;rw[X3p] at h;refine X5.round ?_;revert h;refine bI λv14 h15=>brI (λh16=>λe=>X8 [.el (aI .i64 (X9p.length:Int)),Bt,.el (X6v false Xk x),.pure _ (aI .i64 v14),Bt] (k:=wC e C)) λh16=>rnI [.el (aI .i64 (X9p.length:Int)),Bt,.el (X6v false Xk x),.pure _ (aI .i64 v14),Bf] ?_;intro h;exact wkT [] (ih   o h C)
instance X01s:PZ 16 (∀ (a0:X00) (a1:(List (List Xq))) (a2:Int) (a3:Int) (r:Int),Xbe a0 a1 a2 a3=some r->Pz 16 [(Xz false a0),(Lf (List.map (X6v false Xk) a1)),(aI .i64 a2),(aI .i64 a3)] (aI .i64 r)):=⟨λa0 a1 a2 a3 r h=>by
 refine X15.sym X2 fn16 (nt:=55) rfl rfl ?_ okM;unfold Xbe at h;revert h;refine bI λv1 h2=>brI (λh3=>λe=>oj e▸X8 [.pure _ (AV.tup [(aI .i64 v1.1),(aI .i64 v1.2)]),Bt] (k:=fi)) λh3=>brI (λh4=>λe=>oj e▸X8 [.pure _ (AV.tup [(aI .i64 v1.1),(aI .i64 v1.2)]),Bf,.el (aI .i64 (a1.length:Int)),.el (aI .i64 (a0.Sources.length:Int)),Bt] (k:=fi)) λh4=>bI λu5 h6=>?_;have qh6:=X05 h6;refine bI λo17 h18=>rnI [.pure _ (AV.tup [(aI .i64 v1.1),(aI .i64 v1.2)]),Bf,.el (aI .i64 (a1.length:Int)),.el (aI .i64 (a0.Sources.length:Int)),Bf] ?_;intro h;refine wkT [] (X5.cut (drA (Xgb a1 a2 a3 qh6) _ h18 ?_));rcases o17 with _|⟨Xo2⟩
 ·
  refine lG rfl ?_;try dsimp only at h
  revert h;exact brI (λh19=>λe=>oj e▸X8 [Bt] (k:=fi)) λh19=>λe=>oj e▸X8 [Bf] (k:=fi)
 refine lG rfl ?_;try dsimp only at h
 revert h;exact λe=>oj e▸X8 [] (k:=fi)⟩
instance X05x:PZ 5 (∀ (a0:X00) (a1:(List (List Xq))) (a2:Int) (a3:Int) (r:Bool),Xcn a0 a1 a2 a3=some r->Pz 5 [(Xz false a0),(Lf (List.map (X6v false Xk) a1)),(aI .i64 a2),(aI .i64 a3)] (aB r)):=⟨λa0 a1 a2 a3 r h=>by
 refine X15.sym X2 fn5 (nt:=21) rfl rfl ?_ okM;unfold Xcn at h;revert h;refine bI λj6_8 h12=>rnI [.stop 1] ?_;intro h;refine jn [(8,(aB j6_8))] ([]) 0 ?_ (λJ=>X5.cut ?_)
 ·
  revert h;exact λe=>oj e▸X8 [] (k:=fi)
 clear h;revert h12;exact bI λv7 h8=>brI (λh9=>bI λv10 h11=>λe=>X8 [.pure _ (aB v7),Gt,Gt,Gt,Gt,Gt,.pure _ (aI .i64 v10),Gt] (k:=wJ [] J)) λh9=>λe=>X8 [.pure _ (aB v7),Gf,Gf,Gf,Gf,Gf,Gf] (k:=wJ [] J)⟩
instance X02b:PZ 267 (∀ (a0:Int) (r:Int×Int),X9c a0=some r->Pz 267 [(aI .u8 a0)] (AV.tup [(aI .i64 r.1),(aI .i64 r.2)])):=⟨λa0 r h=>by
 refine X15.sym X2 X0gn (nt:=25) rfl rfl ?_ okM;unfold X9c at h;revert h;exact brI (λh1=>λe=>oj e▸X8 [Bt] (k:=fi)) λh1=>brI (λh2=>λe=>oj e▸X8 [Bf,Bt] (k:=fi)) λh2=>brI (λh3=>λe=>oj e▸X8 [Bf,Bf,Bt] (k:=fi)) λh3=>λe=>oj e▸X8 [Bf,Bf,Bf] (k:=fi)⟩
end Go.Av.Tryz