/- Printed by decomp.py: that the program computes the functions. -/
import Derived.Test.YtednehploaffcaaGreatDoorDCert0Z
set_option linter.all false

namespace Go.Av.Tryz
open Go.Proofs Go.D Go.Proofs.Tryz
set_option maxRecDepth 10000
set_option maxHeartbeats 40000000
theorem Xh4 {Q:Qt} {μ:Mu} (X3n:(List (List Xv))) (Xsi:Int) (Xrb:Int) (hl:X3n.length<=140737488355328):Dr X3n λxs k=>∀ o,Lq Tryz.prog 55 0 Q μ o (fun|.x0=>(.exit 0,⟨fr [(2,(aI .i64 Xsi)),(3,(aI .i64 Xrb))],hp ([]),0⟩)|.x1 Xph=>(.ret,⟨fr [(8,(aI .i64 Xph))],hp ([]),0⟩))
  (X3l 0 (X1g Tryz.f12)) ⟨fr [(1,(Lf (List.map (X82 false Xd) X3n))),(2,(aI .i64 Xsi)),(3,(aI .i64 Xrb)),(11,(aI .i64 (k:Int)))],hp ([]),0⟩ (X3r X3n Xsi Xrb xs k ):=by
 refine drI ?_ ?_
 ·
  intro k hk hc  o C;rw[X3r];exact rdI<|λe=>X8 [.el (aI .i64 (X3n.length:Int)),Bf] (k:=wC e C)
 ·
  intro x xs k hk hg hc ih  o C;rw[X3r];exact rdI<|bI λv14 h15=>brI (λh16=>λe=>X8 [.el (aI .i64 (X3n.length:Int)),Bt,.el (X82 false Xd x),.pure _ (aI .i64 v14),Bt] (k:=wC e C)) λh16=>rnK [.el (aI .i64 (X3n.length:Int)),Bt,.el (X82 false Xd x),.pure _ (aI .i64 v14),Bf] (k:=wkI [] (ih   o C))
instance Xzp:PZ 12 (∀ (a0:X6) (a1:(List (List Xv))) (a2:Int) (a3:Int) (r:Int),Xc3 a0 a1 a2 a3=some r->Pz 12 [(Xa false a0),(Lf (List.map (X82 false Xd) a1)),(aI .i64 a2),(aI .i64 a3)] (aI .i64 r)):=⟨λa0 a1 a2 a3 r=>by
 unfold Xc3;refine psI fn12 55<|bI λv1 h2=>brI (λh3=>λe=>oj e▸X8 [.pure _ (AV.tup [(aI .i64 v1.1),(aI .i64 v1.2)]),Bt] (k:=fi)) λh3=>brI (λh4=>λe=>oj e▸X8 [.pure _ (AV.tup [(aI .i64 v1.1),(aI .i64 v1.2)]),Bf,.el (aI .i64 (a1.length:Int)),.el (aI .i64 (a0.Sources.length:Int)),Bt] (k:=fi)) λh4=>bI λu5 h6=>?_;have qh6:=X1b h6;refine bI λo17 h18=>rnI [.pure _ (AV.tup [(aI .i64 v1.1),(aI .i64 v1.2)]),Bf,.el (aI .i64 (a1.length:Int)),.el (aI .i64 (a0.Sources.length:Int)),Bf] ?_;intro h;refine wkT [] (X9.cut (drA (Xh4 a1 a2 a3 qh6) _ ?_ h18));revert h;rcases o17 with _|⟨Xph⟩
 ·
  exact lGI rfl<|brI (λh19=>λe=>oj e▸X8 [Bt] (k:=fi)) λh19=>λe=>oj e▸X8 [Bf] (k:=fi)
 exact lGI rfl λe=>oj e▸X8 [] (k:=fi)⟩
instance X03z:PZ 5 (∀ (a0:X6) (a1:(List (List Xv))) (a2:X2u) (r:Bool),Xdd a0 a1 a2=some r->Pz 5 [(Xa false a0),(Lf (List.map (X82 false Xd) a1)),(X4b a2)] (aB r)):=⟨λa0 a1 a2 r=>by
 unfold Xdd;refine psI fn5 21<|bI λj6_6 h12=>rnI [.stop 1] ?_;exact jnI ⟨fr [(6,(aB j6_6))],hp ([]),0⟩ h12 (λe=>oj e▸X8 [] (k:=fi)) λJ=>bI λv7 h8=>brI (λh9=>bI λv10 h11=>λe=>X8 [.pure _ (aB v7),Gt,Gt,Gt,Gt,Gt,Gt,Gt,.pure _ (aI .i64 v10),Gt] (k:=wJ [] J)) λh9=>λe=>X8 [.pure _ (aB v7),Gf,Gf,Gf,Gf,Gf,Gf,Gf,Gf] (k:=wJ [] J)⟩
instance X009:PZ 136 (∀ (a0:Int) (r:Int×Int),X2y a0=some r->Pz 136 [(aI .u8 a0)] (AV.tup [(aI .i64 r.1),(aI .i64 r.2)])):=⟨λa0 r=>by
 unfold X2y;exact psI X0fc 25<|brI (λh1=>λe=>oj e▸X8 [Bt] (k:=fi)) λh1=>brI (λh2=>λe=>oj e▸X8 [Bf,Bt] (k:=fi)) λh2=>brI (λh3=>λe=>oj e▸X8 [Bf,Bf,Bt] (k:=fi)) λh3=>λe=>oj e▸X8 [Bf,Bf,Bf] (k:=fi)⟩
end Go.Av.Tryz