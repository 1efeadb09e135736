/- Printed by decomp.py: that the program computes the functions. -/
import Derived.Test.YtomaojndejpfgaaGreatDoorDCert0Z
set_option linter.all false

namespace Go.Av.Tryz
open Go.Proofs Go.D Go.Proofs.Tryz
set_option maxRecDepth 10000
set_option maxHeartbeats 40000000
instance X036:PZ 27 (∀ (a0:(List Xs)) (r:Int),X9o a0=some r->Pz 27 [(Lf (a0.map Xg))] (aI .i64 r)):=⟨λa0 r=>by
 unfold X9o;refine psI fn27 19<|brI (λh1=>λe=>oj e▸X8 [.el (aI .i64 (a0.length:Int)),Bt] (k:=fi)) λh1=>bI λu2 h3=>?_;have qh3:=X0e h3;refine bI λo14 h15=>rnI [.el (aI .i64 (a0.length:Int)),Bf] ?_;intro h;refine wkT [] (X7.cut (drA (Xgq a0 qh3) _ ?_ h15));revert h;rcases o14 with _|_
 ·
  exact lGI rfl λe=>oj e▸X8 [] (k:=fi)
 exact lGI rfl λe=>oj e▸X8 [] (k:=fi)⟩
theorem Xgo {Q:Qt} {μ:Mu} (X0g:(List (List Xs))) (hl:X0g.length<=140737488355328):Dr X0g λxs k=>∀ o,Lq Tryz.prog 19 0 Q μ o (fun|.x0=>(.exit 0,⟨fr [],hp ([]),0⟩)|.x1 X4z=>(.ret,⟨fr [(2,(aI .i64 X4z))],hp ([]),0⟩))
  (X64 0 (X1l Tryz.f16)) ⟨fr [(0,(Lf (List.map (X6t false Xg) X0g))),(3,(aI .i64 (k:Int)))],hp ([]),0⟩ (X3m X0g xs k):=by
 refine drI ?_ ?_
 ·
  intro k hk hc o C;rw[X3m];exact rdI<|λe=>X8 [.el (aI .i64 (X0g.length:Int)),Bf] (k:=wC e C)
 ·
  intro x xs k hk hg hc ih o C;rw[X3m];exact rdI<|bI λv10 h11=>brI (λh12=>λe=>X8 [.el (aI .i64 (X0g.length:Int)),Bt,.el (X6t false Xg x),.pure _ (aI .i64 v10),Bt] (k:=wC e C)) λh12=>rnK [.el (aI .i64 (X0g.length:Int)),Bt,.el (X6t false Xg x),.pure _ (aI .i64 v10),Bf] (k:=wkI [] (ih o C))
instance X032:PZ 16 (∀ (a0:(List (List Xs))) (r:Int),X9k a0=some r->Pz 16 [(Lf (List.map (X6t false Xg) a0))] (aI .i64 r)):=⟨λa0 r=>by
 unfold X9k;refine psI fn16 19<|bI λu1 h2=>?_;have qh2:=X0e h2;refine bI λo13 h14=>rnI [] ?_;intro h;refine wkT [] (X7.cut (drA (Xgo a0 qh2) _ ?_ h14));revert h;rcases o13 with _|⟨X4z⟩
 ·
  exact lGI rfl λe=>oj e▸X8 [] (k:=fi)
 exact lGI rfl λe=>oj e▸X8 [] (k:=fi)⟩
instance X034:PZ 7 (∀ (a0:Xb) (a1:(List (List Xs))) (r:Int),X9m a0 a1=some r->Pz 7 [(Xc false a0),(Lf (List.map (X6t false Xg) a1))] (aI .i64 r)):=⟨λa0 a1 r=>by
 unfold X9m;exact psI fn7 23<|bI λv1 h2=>brI (λh3=>λe=>oj e▸X8 [.pure _ (AV.tup [(aI .i64 v1.1),(aI .i64 v1.2)]),Bt] (k:=fi)) λh3=>brI (λh4=>λe=>oj e▸X8 [.pure _ (AV.tup [(aI .i64 v1.1),(aI .i64 v1.2)]),Bf,.el (aI .i64 (a1.length:Int)),.el (aI .i64 (a0.Sources.length:Int)),Bt] (k:=fi)) λh4=>bI λv5 h6=>λe=>oj e▸X8 [.pure _ (AV.tup [(aI .i64 v1.1),(aI .i64 v1.2)]),Bf,.el (aI .i64 (a1.length:Int)),.el (aI .i64 (a0.Sources.length:Int)),Bf,.pure _ (aI .i64 v5)] (k:=fi)⟩
instance X03n:PZ 149 (∀ (a0:Int) (r:Int×Int),X2n a0=some r->Pz 149 [(aI .u8 a0)] (AV.tup [(aI .i64 r.1),(aI .i64 r.2)])):=⟨λa0 r=>by
 unfold X2n;exact psI X0iz 25<|brI (λh1=>λe=>oj e▸X8 [Bt] (k:=fi)) λh1=>brI (λh2=>λe=>oj e▸X8 [Bf,Bt] (k:=fi)) λh2=>brI (λh3=>λe=>oj e▸X8 [Bf,Bf,Bt] (k:=fi)) λh3=>λe=>oj e▸X8 [Bf,Bf,Bf] (k:=fi)⟩
end Go.Av.Tryz