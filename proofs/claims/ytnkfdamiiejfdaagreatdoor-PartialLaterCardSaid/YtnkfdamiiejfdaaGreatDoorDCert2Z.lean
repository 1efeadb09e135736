/- Printed by decomp.py: that the program computes the functions. -/
import Derived.Test.YtnkfdamiiejfdaaGreatDoorDCert1Z
set_option linter.all false

namespace Go.Av.Tryz
open Go.Proofs Go.D Go.Proofs.Tryz
set_option maxRecDepth 10000
set_option maxHeartbeats 40000000
theorem Xgn {P:Prop} (h:P:=by repeat' first|apply Ya|exact pcM|(simp at qah296 qbh296 qch296 ⊢;omega)|(simp at qah296 qbh296 qch296 qlh296 ⊢;omega)|(simp;done)|(simp at qah298 qbh298 qch298 ⊢;omega)|(simp at qah298 qbh298 qch298 qlh298 ⊢;have qz:=Xfe h299;omega)|exact X1i):P:=h
theorem Xjl {P:Prop} (h:P:=by repeat' first|apply Ya|exact pcM|(simp at qah296 qbh296 qch296 ⊢;omega)|(simp at qah296 qbh296 qch296 qlh296 ⊢;omega)|(simp;done)|(simp at qah298 qbh298 qch298 ⊢;omega)|(simp at qah298 qbh298 qch298 qlh298 ⊢;have qz:=X3v h299;omega)|(simp at qah298 qbh298 qch298 qlh298 ⊢;omega)|(have hp:=eq_of_beq h309;simp[hp];done)|(have hp:=eq_of_beq h309;simp at hp ⊢;omega)|(have hp:=eq_of_beq h309;subst hp;decide +kernel)|exact X1i):P:=h
theorem Xjk {P:Prop} (h:P:=by repeat' first|apply Ya|exact pcM|(simp at qah296 qbh296 qch296 ⊢;omega)|(simp at qah296 qbh296 qch296 qlh296 ⊢;omega)|(simp;done)|(simp at qah298 qbh298 qch298 ⊢;omega)|(simp at qah298 qbh298 qch298 qlh298 ⊢;have qz:=X3v h299;omega)|(simp at qah298 qbh298 qch298 qlh298 ⊢;omega)|(have hp:=eq_of_beq h321;simp[hp];done)|(have hp:=eq_of_beq h321;simp at hp ⊢;omega)|(have hp:=eq_of_beq h321;subst hp;decide +kernel)|exact X1i):P:=h
theorem Xgm {P:Prop} (h:P:=by repeat' first|apply Ya|exact pcM|(simp at qah344 qbh344 qch344 ⊢;omega)|(simp at qah346 qbh346 qch346 ⊢;omega)|exact X1i):P:=h
theorem Xgl {P:Prop} (h:P:=by repeat' first|apply Ya|exact pcM|(simp at qah366 qbh366 qch366 ⊢;omega)|(simp at qah366 qbh366 qch366 qlh366 ⊢;omega)|(simp;done)|(simp at qah368 qbh368 qch368 ⊢;omega)|(simp at qah368 qbh368 qch368 qlh368 ⊢;have qz:=Xfe h369;omega)|exact X1i):P:=h
theorem Xjj {P:Prop} (h:P:=by repeat' first|apply Ya|exact pcM|(simp at qah366 qbh366 qch366 ⊢;omega)|(simp at qah366 qbh366 qch366 qlh366 ⊢;omega)|(simp;done)|(simp at qah368 qbh368 qch368 ⊢;omega)|(simp at qah368 qbh368 qch368 qlh368 ⊢;have qz:=X3v h369;omega)|(simp at qah368 qbh368 qch368 qlh368 ⊢;omega)|(have hp:=eq_of_beq h379;simp[hp];done)|(have hp:=eq_of_beq h379;simp at hp ⊢;omega)|(have hp:=eq_of_beq h379;subst hp;decide +kernel)|exact X1i):P:=h
theorem Xji {P:Prop} (h:P:=by repeat' first|apply Ya|exact pcM|(simp at qah366 qbh366 qch366 ⊢;omega)|(simp at qah366 qbh366 qch366 qlh366 ⊢;omega)|(simp;done)|(simp at qah368 qbh368 qch368 ⊢;omega)|(simp at qah368 qbh368 qch368 qlh368 ⊢;have qz:=X3v h369;omega)|(simp at qah368 qbh368 qch368 qlh368 ⊢;omega)|(have hp:=eq_of_beq h391;simp[hp];done)|(have hp:=eq_of_beq h391;simp at hp ⊢;omega)|(have hp:=eq_of_beq h391;subst hp;decide +kernel)|exact X1i):P:=h
theorem Xgk {P:Prop} (h:P:=by repeat' first|apply Ya|exact pcM|(simp at qah414 qbh414 qch414 ⊢;omega)|(simp at qah416 qbh416 qch416 ⊢;omega)|exact X1i):P:=h
theorem Xhv {Q:Qt} {μ:Mu} (X5h:(List Xy)) (hl:X5h.length<=140737488355328):∀ (xs:List Xy) (k:Nat) (hx:X5h.drop k=xs) (Xf:(List Xd)) (Xi:(List Xd)) (X04:Nb Xf) (Xn:Nb Xi) (o:X4z) (h:X1m X5h xs k Xf Xi=some o)
  (C0:∀ (Xj:(List Xd)) (X0d:(List Xd)) (Xu:Nb Xj) (X0n:Nb X0d),o=X4z.x0 Xj X0d->Sx 105 Q [(4,(slE Xu.1 0 (Xj.map X7))),(5,(slE X0n.1 1 (X0d.map X7)))] ([]++opE Xu.1 0 3 (Xj.map X7)++opE X0n.1 1 3 (X0d.map X7)) 2 μ)
  (C1:∀ (X09:(List Xd)) (X08:Nb X09),o=X4z.x1 X09->Sr 105 Q [(2,(slE X08.1 0 (X09.map X7))),(3,(aB false))] ([]++opE X08.1 0 3 (X09.map X7)) 1 μ),
  Sl 105 Q f220 [(4,(slE X04.1 0 (Xf.map X7))),(5,(slE Xn.1 1 (Xi.map X7))),(15,(Lf (X5h.map X3))),(16,(aI .i64 (X5h.length:Int))),(17,(aI .i64 (k:Int)))] ([]++opE X04.1 0 3 (Xf.map X7)++opE Xn.1 1 3 (Xi.map X7)) 2 μ:=by
 intro xs
 induction xs with
 |nil =>
  intro k hx Xf Xi X04 Xn o h C0 C1;have hk:=X2n hx;have hc:=lpN hx;rw[X1m] at h;rcases X04 with ⟨_|_,X1v⟩
  ·
   rcases Xn with ⟨_|_,X0a⟩
   ·
    refine X5.round ?_;revert h;exact λe=>X8 [Bf] (k:=wkT [] (C0 _ _  nbF nbF (oj e).symm))
   obtain rfl:=X0a rfl;refine X5.round ?_;revert h;exact λe=>X8 [Bf] (k:=wkT [] (C0 _ _  nbF nbS (oj e).symm))
  ·
   obtain rfl:=X1v rfl;rcases Xn with ⟨_|_,X0a⟩
   ·
    refine X5.round ?_;revert h;exact λe=>X8 [Bf] (k:=wkT [] (C0 _ _  nbS nbF (oj e).symm))
   ·
    obtain rfl:=X0a rfl;refine X5.round ?_;revert h;exact λe=>X8 [Bf] (k:=wkT [] (C0 _ _  nbS nbS (oj e).symm))
 |cons x xs ih =>
  intro k hx Xf Xi X04 Xn o h C0 C1;obtain⟨hk,hg,hx1⟩:=X1w hx;have hc:=lpC hx;rw[X1m] at h;rcases X04 with ⟨_|_,X1v⟩
  ·
   rcases Xn with ⟨_|_,X0a⟩
   ·
    refine X5.round ?_;revert h;refine bI λv286 h287=>brI (λh288=>λe=>X8 [Bt,.el (X3 x),.pure _ (AV.tup [(aI .i64 v286.1),(aI .i64 v286.2)]),.el (aI .i64 (Xi.length:Int)),Bt] (k:=wkT [] (C1 _  nbF (oj e).symm))) λh288=>rnI [Bt,.el (X3 x),.pure _ (AV.tup [(aI .i64 v286.1),(aI .i64 v286.2)]),.el (aI .i64 (Xi.length:Int)),Bf] ?_;intro h;refine X5.inline X2 X04i rfl rfl rfl rfl rfl trivial trivial rfl rfl ?_;revert h;refine bI λm295 h296=>?_;obtain⟨qah296,qbh296,qch296,qh296⟩:=X3f h296;have qlh296:=X8i h296;refine bI λm297 h298=>?_;obtain⟨qah298,qbh298,qch298,qh298⟩:=X3f h298;have qlh298:=X8i h298;refine brI (λh299=>?_) λh299=>?_
    ·
     refine rnI [.el (aI .i64 (Xi.length:Int)),.wrap,.via (.ref 1 0 (m295.length)),.el (aI .i64 (Xi.length:Int)),.wrap,.ne false] (o:=Xgn) ?_;intro h;refine X5.back (by intro id h;cases h) rfl ?_;refine X0f [] (o:=Xgn) ?_;refine X5.round ?_;revert h;refine bI λXro h303=>rnI [Bf] (o:=Xgn) ?_;intro h;refine jn [(4,(AV.ref 0 0 (Xf.length))),(5,(AV.ref 1 0 (m295.length))),(7,(AV.ptr 2 0 0)),(11,(AV.ptr 3 0 0)),(12,(AV.ptr 4 0 0)),(15,(Lf (X5h.map X3))),(16,(aI .i64 (X5h.length:Int))),(17,(aI .i64 (k:Int)))] ([(0,Ob (Xf.map X7) 3),(1,Ob (Xi.map X7) 3),(2,Ob [(X3 x)] 5),(3,Ob [(X3 Xro)] 5),(4,Ob [(X7 (Xd.mk (k:Int) 1 1))] 3)]) 5 ?_ (λJ=>X5.cut ?_)
     ·
      revert h;refine brI (λh304=>?_) λh304=>?_
      ·
       exact λe=>X8 [Bt] (o:=Xgn) (k:=wkT [] (C1 _  nbF (oj e).symm))
      refine bI λu305 h306=>bI λu307 h308=>rnI [Bf,.trunc 1 (m295.map X7),.no,.no] (o:=by repeat' first|apply Ya|exact pcM|(simp at qah296 qbh296 qch296 ⊢;omega)|(simp at qah296 qbh296 qch296 qlh296 ⊢;omega)|(simp;done)|(simp at qah298 qbh298 qch298 ⊢;omega)|(simp at qah298 qbh298 qch298 qlh298 ⊢;have qz:=Xfe h299;omega)|(refine X0g h306 rfl ?_;first|(simp<;>omega)|(simp[hc,h288,h299,h304]<;>omega))|(refine Xv h306 (by decide) ?_;first|(simp<;>omega)|(simp[hc,h288,h299,h304]<;>omega))|exact(X8j (f:=X7) qh296)|(refine X0g h308 rfl ?_;first|(simp<;>omega)|(simp[hc,h288,h299,h304]<;>omega))|(refine Xv h308 (by decide) ?_;first|(simp<;>omega)|(simp[hc,h288,h299,h304]<;>omega))|exact X1i) ?_;intro h;exact wkT [(0,8),(1,6)] (ih (k+1) hx1 _ _ nbF nbF o h C0 C1)
     clear h;revert h303;refine brI (λh302=>?_) λh302=>?_
     ·
      exact λe=>X8 [Bt] (o:=Xgn) (k:=wJ [(3,17),(4,18)] J)
     exact λe=>X8 [Bf] (o:=Xgn) (k:=wJ [(3,17),(4,18)] J)
    refine rnI [.el (aI .i64 (Xi.length:Int)),.wrap,.via (.ref 1 0 (m295.length)),.el (aI .i64 (Xi.length:Int)),.wrap,.via (.ref 1 (Int.toNat (IntKind.i64.wrap ((Xi.length:Int) - v286.1))) (m297.length))] (o:=by repeat' first|apply Ya|exact pcM|(simp at qah296 qbh296 qch296 ⊢;omega)|(simp at qah296 qbh296 qch296 qlh296 ⊢;omega)|(simp;done)|(simp at qah298 qbh298 qch298 ⊢;omega)|(simp at qah298 qbh298 qch298 qlh298 ⊢;have qz:=X3v h299;omega)|(simp at qah298 qbh298 qch298 qlh298 ⊢;omega)|exact X1i) ?_;intro h;refine X5.back (by intro id h;cases h) rfl ?_;revert h;refine brI (λh309=>?_) λh309=>?_
    ·
     refine rnI [.el (aI .i64 (m297.length:Int))] (o:=Xjl) ?_;intro h;refine X5.round ?_;revert h;refine bI λe310 h311=>?_;try have qh311:=Xm h311
     refine rnI [Bt,.el (X7 e310),.ld (X7 e310),Bt,.wrap,.wrap] (o:=by repeat' first|apply Ya|exact pcM|(simp at qah296 qbh296 qch296 ⊢;omega)|(simp at qah296 qbh296 qch296 qlh296 ⊢;omega)|(simp;done)|(simp at qah298 qbh298 qch298 ⊢;omega)|(simp at qah298 qbh298 qch298 qlh298 ⊢;have qz:=X3v h299;omega)|(simp at qah298 qbh298 qch298 qlh298 ⊢;omega)|(have hp:=eq_of_beq h309;simp[hp];done)|(have hp:=eq_of_beq h309;simp at hp ⊢;omega)|(have hp:=eq_of_beq h309;subst hp;decide +kernel)|exact(Xgj (f:=X7) qh298 h311)|exact(Xm h311)|exact(X7p h311)|exact X1i) ?_;intro h;refine X5.round ?_;revert h;refine bI λXrn h315=>rnI [Bf] (o:=Xjl) ?_;intro h;refine jn [(4,(AV.ref 0 0 (Xf.length))),(5,(AV.ref 1 0 (m295.length))),(7,(AV.ptr 2 0 0)),(11,(AV.ptr 3 0 0)),(12,(AV.ptr 4 0 0)),(15,(Lf (X5h.map X3))),(16,(aI .i64 (X5h.length:Int))),(17,(aI .i64 (k:Int)))] ([(0,Ob (Xf.map X7) 3),(1,Ob (Xi.map X7) 3),(2,Ob [(X3 x)] 5),(3,Ob [(X3 Xrn)] 5),(4,Ob [(X7 (Xd.mk (k:Int) (IntKind.i64.wrap (1+e310.size)) (if (IntKind.i64.wrap (e310.depth+1))>1 then (IntKind.i64.wrap (e310.depth+1)) else 1)))] 3)]) 5 ?_ (λJ=>X5.cut ?_)
     ·
      revert h;refine brI (λh316=>?_) λh316=>?_
      ·
       exact λe=>X8 [Bt] (o:=Xjl) (k:=wkT [] (C1 _  nbF (oj e).symm))
      refine bI λu317 h318=>bI λu319 h320=>rnI [Bf,.trunc 1 (m295.map X7),.no,.no] (o:=by repeat' first|apply Ya|exact pcM|(simp at qah296 qbh296 qch296 ⊢;omega)|(simp at qah296 qbh296 qch296 qlh296 ⊢;omega)|(simp;done)|(simp at qah298 qbh298 qch298 ⊢;omega)|(simp at qah298 qbh298 qch298 qlh298 ⊢;have qz:=X3v h299;omega)|(simp at qah298 qbh298 qch298 qlh298 ⊢;omega)|(have hp:=eq_of_beq h309;simp[hp];done)|(have hp:=eq_of_beq h309;simp at hp ⊢;omega)|(have hp:=eq_of_beq h309;subst hp;decide +kernel)|(refine X0g h318 rfl ?_;first|(simp<;>omega)|(simp[hc,h288,h299,h309,h316]<;>omega))|(refine Xv h318 (by decide) ?_;first|(simp<;>omega)|(simp[hc,h288,h299,h309,h316]<;>omega))|exact(X8j (f:=X7) qh296)|(refine X0g h320 rfl ?_;first|(simp<;>omega)|(simp[hc,h288,h299,h309,h316]<;>omega))|(refine Xv h320 (by decide) ?_;first|(simp<;>omega)|(simp[hc,h288,h299,h309,h316]<;>omega))|exact X1i) ?_;intro h;exact wkT [(0,8),(1,6)] (ih (k+1) hx1 _ _ nbF nbF o h C0 C1)
     clear h;revert h315;refine brI (λh314=>?_) λh314=>?_
     ·
      exact λe=>X8 [Bt] (o:=Xjl) (k:=wJ [(3,17),(4,18)] J)
     exact λe=>X8 [Bf] (o:=Xjl) (k:=wJ [(3,17),(4,18)] J)
    refine brI (λh321=>?_) λh321=>?_
    ·
     refine rnI [.el (aI .i64 (m297.length:Int))] (o:=Xjk) ?_;intro h;refine X5.round ?_;revert h;refine bI λe322 h323=>?_;try have qh323:=Xm h323
     refine rnI [Bt,.el (X7 e322),.ld (X7 e322),Bt,.wrap,.wrap] (o:=by repeat' first|apply Ya|exact pcM|(simp at qah296 qbh296 qch296 ⊢;omega)|(simp at qah296 qbh296 qch296 qlh296 ⊢;omega)|(simp;done)|(simp at qah298 qbh298 qch298 ⊢;omega)|(simp at qah298 qbh298 qch298 qlh298 ⊢;have qz:=X3v h299;omega)|(simp at qah298 qbh298 qch298 qlh298 ⊢;omega)|(have hp:=eq_of_beq h321;simp[hp];done)|(have hp:=eq_of_beq h321;simp at hp ⊢;omega)|(have hp:=eq_of_beq h321;subst hp;decide +kernel)|exact(Xgj (f:=X7) qh298 h323)|exact(Xm h323)|exact(X7p h323)|exact X1i) ?_;intro h;refine X5.round ?_;revert h;refine bI λe324 h325=>?_;try have qh325:=Xm h325
     refine rnI [Bt,.el (X7 e324),.ld (X7 e324),Bf,.wrap,.wrap] (o:=by repeat' first|apply Ya|exact pcM|(simp at qah296 qbh296 qch296 ⊢;omega)|(simp at qah296 qbh296 qch296 qlh296 ⊢;omega)|(simp;done)|(simp at qah298 qbh298 qch298 ⊢;omega)|(simp at qah298 qbh298 qch298 qlh298 ⊢;have qz:=X3v h299;omega)|(simp at qah298 qbh298 qch298 qlh298 ⊢;omega)|(have hp:=eq_of_beq h321;simp[hp];done)|(have hp:=eq_of_beq h321;simp at hp ⊢;omega)|(have hp:=eq_of_beq h321;subst hp;decide +kernel)|exact(Xgj (f:=X7) qh298 h325)|exact(Xm h325)|exact(X7p h325)|exact X1i) ?_;intro h;refine X5.round ?_;revert h;refine bI λXrm h329=>rnI [Bf] (o:=Xjk) ?_;intro h;refine jn [(4,(AV.ref 0 0 (Xf.length))),(5,(AV.ref 1 0 (m295.length))),(7,(AV.ptr 2 0 0)),(11,(AV.ptr 3 0 0)),(12,(AV.ptr 4 0 0)),(15,(Lf (X5h.map X3))),(16,(aI .i64 (X5h.length:Int))),(17,(aI .i64 (k:Int)))] ([(0,Ob (Xf.map X7) 3),(1,Ob (Xi.map X7) 3),(2,Ob [(X3 x)] 5),(3,Ob [(X3 Xrm)] 5),(4,Ob [(X7 (Xd.mk (k:Int) (IntKind.i64.wrap ((IntKind.i64.wrap (1+e322.size))+e324.size)) (if (IntKind.i64.wrap (e324.depth+1))>(if (IntKind.i64.wrap (e322.depth+1))>1 then (IntKind.i64.wrap (e322.depth+1)) else 1) then (IntKind.i64.wrap (e324.depth+1)) else (if (IntKind.i64.wrap (e322.depth+1))>1 then (IntKind.i64.wrap (e322.depth+1)) else 1))))] 3)]) 5 ?_ (λJ=>X5.cut ?_)
     ·
      revert h;refine brI (λh330=>?_) λh330=>?_
      ·
       exact λe=>X8 [Bt] (o:=Xjk) (k:=wkT [] (C1 _  nbF (oj e).symm))
      refine bI λu331 h332=>bI λu333 h334=>rnI [Bf,.trunc 1 (m295.map X7),.no,.no] (o:=by repeat' first|apply Ya|exact pcM|(simp at qah296 qbh296 qch296 ⊢;omega)|(simp at qah296 qbh296 qch296 qlh296 ⊢;omega)|(simp;done)|(simp at qah298 qbh298 qch298 ⊢;omega)|(simp at qah298 qbh298 qch298 qlh298 ⊢;have qz:=X3v h299;omega)|(simp at qah298 qbh298 qch298 qlh298 ⊢;omega)|(have hp:=eq_of_beq h321;simp[hp];done)|(have hp:=eq_of_beq h321;simp at hp ⊢;omega)|(have hp:=eq_of_beq h321;subst hp;decide +kernel)|(refine X0g h332 rfl ?_;first|(simp<;>omega)|(simp[hc,h288,h299,h309,h321,h330]<;>omega))|(refine Xv h332 (by decide) ?_;first|(simp<;>omega)|(simp[hc,h288,h299,h309,h321,h330]<;>omega))|exact(X8j (f:=X7) qh296)|(refine X0g h334 rfl ?_;first|(simp<;>omega)|(simp[hc,h288,h299,h309,h321,h330]<;>omega))|(refine Xv h334 (by decide) ?_;first|(simp<;>omega)|(simp[hc,h288,h299,h309,h321,h330]<;>omega))|exact X1i) ?_;intro h;exact wkT [(0,8),(1,6)] (ih (k+1) hx1 _ _ nbF nbF o h C0 C1)
     clear h;revert h329;refine brI (λh328=>?_) λh328=>?_
     ·
      exact λe=>X8 [Bt] (o:=Xjk) (k:=wJ [(3,17),(4,18)] J)
     exact λe=>X8 [Bf] (o:=Xjk) (k:=wJ [(3,17),(4,18)] J)
    intro h;cases h
   obtain rfl:=X0a rfl;refine X5.round ?_;revert h;refine bI λv335 h336=>brI (λh337=>λe=>X8 [Bt,.el (X3 x),.pure _ (AV.tup [(aI .i64 v335.1),(aI .i64 v335.2)]),.el (aI .i64 (List.length ([]:List Xd):Int)),Bt] (k:=wkT [] (C1 _  nbF (oj e).symm))) λh337=>rnI [Bt,.el (X3 x),.pure _ (AV.tup [(aI .i64 v335.1),(aI .i64 v335.2)]),.el (aI .i64 (List.length ([]:List Xd):Int)),Bf] ?_;intro h;refine X5.inline X2 X04i rfl rfl rfl rfl rfl trivial trivial rfl rfl ?_;revert h;refine bI λm343 h344=>?_;obtain⟨qah344,qbh344,qch344,qh344⟩:=X3f h344;obtain rfl:=X8h h344;refine bI λm345 h346=>?_;obtain⟨qah346,qbh346,qch346,qh346⟩:=X3f h346;obtain rfl:=X8h h346;refine brI (λh347=>?_) λh347=>?_
   ·
    refine rnI [.el (aI .i64 (List.length ([]:List Xd):Int)),.wrap,.el (aI .i64 (List.length ([]:List Xd):Int)),.wrap] (o:=Xgm) ?_;intro h;refine X5.back (by intro id h;cases h) rfl ?_;refine X0f [] (o:=Xgm) ?_;refine X5.round ?_;revert h;refine bI λX08u h351=>rnI [Bf] (o:=Xgm) ?_;intro h;refine jn [(4,(AV.ref 0 0 (Xf.length))),(5,AV.nils),(7,(AV.ptr 2 0 0)),(11,(AV.ptr 3 0 0)),(12,(AV.ptr 4 0 0)),(15,(Lf (X5h.map X3))),(16,(aI .i64 (X5h.length:Int))),(17,(aI .i64 (k:Int)))] ([(0,Ob (Xf.map X7) 3),(2,Ob [(X3 x)] 5),(3,Ob [(X3 X08u)] 5),(4,Ob [(X7 (Xd.mk (k:Int) 1 1))] 3)]) 5 ?_ (λJ=>X5.cut ?_)
    ·
     revert h;refine brI (λh352=>?_) λh352=>?_
     ·
      exact λe=>X8 [Bt] (o:=Xgm) (k:=wkT [] (C1 _  nbF (oj e).symm))
     refine bI λu353 h354=>bI λu355 h356=>rnI [Bf,.no,.no] (o:=by repeat' first|apply Ya|exact pcM|(simp at qah344 qbh344 qch344 ⊢;omega)|(simp at qah346 qbh346 qch346 ⊢;omega)|(refine X0g h354 rfl ?_;first|(simp<;>omega)|(simp[hc,h337,h347,h352]<;>omega))|(refine Xv h354 (by decide) ?_;first|(simp<;>omega)|(simp[hc,h337,h347,h352]<;>omega))|(refine X0g h356 rfl ?_;first|(simp<;>omega)|(simp[hc,h337,h347,h352]<;>omega))|(refine Xv h356 (by decide) ?_;first|(simp<;>omega)|(simp[hc,h337,h347,h352]<;>omega))|exact X1i) ?_;intro h;exact wkT [(0,8),(1,6)] (ih (k+1) hx1 _ _ nbF nbF o h C0 C1)
    clear h;revert h351;refine brI (λh350=>?_) λh350=>?_
    ·
     exact λe=>X8 [Bt] (o:=Xgm) (k:=wJ [(3,17),(4,18)] J)
    exact λe=>X8 [Bf] (o:=Xgm) (k:=wJ [(3,17),(4,18)] J)
   intro h;exact absurd h347 (by simp)
  obtain rfl:=X1v rfl;rcases Xn with ⟨_|_,X0a⟩
  ·
   refine X5.round ?_;revert h;refine bI λv357 h358=>brI (λh359=>λe=>X8 [Bt,.el (X3 x),.pure _ (AV.tup [(aI .i64 v357.1),(aI .i64 v357.2)]),.el (aI .i64 (Xi.length:Int)),Bt] (k:=wkT [] (C1 _  nbS (oj e).symm))) λh359=>rnI [Bt,.el (X3 x),.pure _ (AV.tup [(aI .i64 v357.1),(aI .i64 v357.2)]),.el (aI .i64 (Xi.length:Int)),Bf] ?_;intro h;refine X5.inline X2 X04i rfl rfl rfl rfl rfl trivial trivial rfl rfl ?_;revert h;refine bI λm365 h366=>?_;obtain⟨qah366,qbh366,qch366,qh366⟩:=X3f h366;have qlh366:=X8i h366;refine bI λm367 h368=>?_;obtain⟨qah368,qbh368,qch368,qh368⟩:=X3f h368;have qlh368:=X8i h368;refine brI (λh369=>?_) λh369=>?_
   ·
    refine rnI [.el (aI .i64 (Xi.length:Int)),.wrap,.via (.ref 1 0 (m365.length)),.el (aI .i64 (Xi.length:Int)),.wrap,.ne false] (o:=Xgl) ?_;intro h;refine X5.back (by intro id h;cases h) rfl ?_;refine X0f [] (o:=Xgl) ?_;refine X5.round ?_;revert h;refine bI λX08t h373=>rnI [Bf] (o:=Xgl) ?_;intro h;refine jn [(4,AV.nils),(5,(AV.ref 1 0 (m365.length))),(7,(AV.ptr 2 0 0)),(11,(AV.ptr 3 0 0)),(12,(AV.ptr 4 0 0)),(15,(Lf (X5h.map X3))),(16,(aI .i64 (X5h.length:Int))),(17,(aI .i64 (k:Int)))] ([(1,Ob (Xi.map X7) 3),(2,Ob [(X3 x)] 5),(3,Ob [(X3 X08t)] 5),(4,Ob [(X7 (Xd.mk (k:Int) 1 1))] 3)]) 5 ?_ (λJ=>X5.cut ?_)
    ·
     revert h;refine brI (λh374=>?_) λh374=>?_
     ·
      exact λe=>X8 [Bt] (o:=Xgl) (k:=wkT [] (C1 _  nbS (oj e).symm))
     refine bI λu375 h376=>bI λu377 h378=>rnI [Bf,.trunc 1 (m365.map X7),.no,.no] (o:=by repeat' first|apply Ya|exact pcM|(simp at qah366 qbh366 qch366 ⊢;omega)|(simp at qah366 qbh366 qch366 qlh366 ⊢;omega)|(simp;done)|(simp at qah368 qbh368 qch368 ⊢;omega)|(simp at qah368 qbh368 qch368 qlh368 ⊢;have qz:=Xfe h369;omega)|(refine X0g h376 rfl ?_;first|(simp<;>omega)|(simp[hc,h359,h369,h374]<;>omega))|(refine Xv h376 (by decide) ?_;first|(simp<;>omega)|(simp[hc,h359,h369,h374]<;>omega))|exact(X8j (f:=X7) qh366)|(refine X0g h378 rfl ?_;first|(simp<;>omega)|(simp[hc,h359,h369,h374]<;>omega))|(refine Xv h378 (by decide) ?_;first|(simp<;>omega)|(simp[hc,h359,h369,h374]<;>omega))|exact X1i) ?_;intro h;exact wkT [(0,8),(1,6)] (ih (k+1) hx1 _ _ nbF nbF o h C0 C1)
    clear h;revert h373;refine brI (λh372=>?_) λh372=>?_
    ·
     exact λe=>X8 [Bt] (o:=Xgl) (k:=wJ [(3,17),(4,18)] J)
    exact λe=>X8 [Bf] (o:=Xgl) (k:=wJ [(3,17),(4,18)] J)
   refine rnI [.el (aI .i64 (Xi.length:Int)),.wrap,.via (.ref 1 0 (m365.length)),.el (aI .i64 (Xi.length:Int)),.wrap,.via (.ref 1 (Int.toNat (IntKind.i64.wrap ((Xi.length:Int) - v357.1))) (m367.length))] (o:=by repeat' first|apply Ya|exact pcM|(simp at qah366 qbh366 qch366 ⊢;omega)|(simp at qah366 qbh366 qch366 qlh366 ⊢;omega)|(simp;done)|(simp at qah368 qbh368 qch368 ⊢;omega)|(simp at qah368 qbh368 qch368 qlh368 ⊢;have qz:=X3v h369;omega)|(simp at qah368 qbh368 qch368 qlh368 ⊢;omega)|exact X1i) ?_;intro h;refine X5.back (by intro id h;cases h) rfl ?_;revert h;refine brI (λh379=>?_) λh379=>?_
   ·
    refine rnI [.el (aI .i64 (m367.length:Int))] (o:=Xjj) ?_;intro h;refine X5.round ?_;revert h;refine bI λe380 h381=>?_;try have qh381:=Xm h381
    refine rnI [Bt,.el (X7 e380),.ld (X7 e380),Bt,.wrap,.wrap] (o:=by repeat' first|apply Ya|exact pcM|(simp at qah366 qbh366 qch366 ⊢;omega)|(simp at qah366 qbh366 qch366 qlh366 ⊢;omega)|(simp;done)|(simp at qah368 qbh368 qch368 ⊢;omega)|(simp at qah368 qbh368 qch368 qlh368 ⊢;have qz:=X3v h369;omega)|(simp at qah368 qbh368 qch368 qlh368 ⊢;omega)|(have hp:=eq_of_beq h379;simp[hp];done)|(have hp:=eq_of_beq h379;simp at hp ⊢;omega)|(have hp:=eq_of_beq h379;subst hp;decide +kernel)|exact(Xgj (f:=X7) qh368 h381)|exact(Xm h381)|exact(X7p h381)|exact X1i) ?_;intro h;refine X5.round ?_;revert h;refine bI λX08s h385=>rnI [Bf] (o:=Xjj) ?_;intro h;refine jn [(4,AV.nils),(5,(AV.ref 1 0 (m365.length))),(7,(AV.ptr 2 0 0)),(11,(AV.ptr 3 0 0)),(12,(AV.ptr 4 0 0)),(15,(Lf (X5h.map X3))),(16,(aI .i64 (X5h.length:Int))),(17,(aI .i64 (k:Int)))] ([(1,Ob (Xi.map X7) 3),(2,Ob [(X3 x)] 5),(3,Ob [(X3 X08s)] 5),(4,Ob [(X7 (Xd.mk (k:Int) (IntKind.i64.wrap (1+e380.size)) (if (IntKind.i64.wrap (e380.depth+1))>1 then (IntKind.i64.wrap (e380.depth+1)) else 1)))] 3)]) 5 ?_ (λJ=>X5.cut ?_)
    ·
     revert h;refine brI (λh386=>?_) λh386=>?_
     ·
      exact λe=>X8 [Bt] (o:=Xjj) (k:=wkT [] (C1 _  nbS (oj e).symm))
     refine bI λu387 h388=>bI λu389 h390=>rnI [Bf,.trunc 1 (m365.map X7),.no,.no] (o:=by repeat' first|apply Ya|exact pcM|(simp at qah366 qbh366 qch366 ⊢;omega)|(simp at qah366 qbh366 qch366 qlh366 ⊢;omega)|(simp;done)|(simp at qah368 qbh368 qch368 ⊢;omega)|(simp at qah368 qbh368 qch368 qlh368 ⊢;have qz:=X3v h369;omega)|(simp at qah368 qbh368 qch368 qlh368 ⊢;omega)|(have hp:=eq_of_beq h379;simp[hp];done)|(have hp:=eq_of_beq h379;simp at hp ⊢;omega)|(have hp:=eq_of_beq h379;subst hp;decide +kernel)|(refine X0g h388 rfl ?_;first|(simp<;>omega)|(simp[hc,h359,h369,h379,h386]<;>omega))|(refine Xv h388 (by decide) ?_;first|(simp<;>omega)|(simp[hc,h359,h369,h379,h386]<;>omega))|exact(X8j (f:=X7) qh366)|(refine X0g h390 rfl ?_;first|(simp<;>omega)|(simp[hc,h359,h369,h379,h386]<;>omega))|(refine Xv h390 (by decide) ?_;first|(simp<;>omega)|(simp[hc,h359,h369,h379,h386]<;>omega))|exact X1i) ?_;intro h;exact wkT [(0,8),(1,6)] (ih (k+1) hx1 _ _ nbF nbF o h C0 C1)
    clear h;revert h385;refine brI (λh384=>?_) λh384=>?_
    ·
     exact λe=>X8 [Bt] (o:=Xjj) (k:=wJ [(3,17),(4,18)] J)
    exact λe=>X8 [Bf] (o:=Xjj) (k:=wJ [(3,17),(4,18)] J)
   refine brI (λh391=>?_) λh391=>?_
   ·
    refine rnI [.el (aI .i64 (m367.length:Int))] (o:=Xji) ?_;intro h;refine X5.round ?_;revert h;refine bI λe392 h393=>?_;try have qh393:=Xm h393
    refine rnI [Bt,.el (X7 e392),.ld (X7 e392),Bt,.wrap,.wrap] (o:=by repeat' first|apply Ya|exact pcM|(simp at qah366 qbh366 qch366 ⊢;omega)|(simp at qah366 qbh366 qch366 qlh366 ⊢;omega)|(simp;done)|(simp at qah368 qbh368 qch368 ⊢;omega)|(simp at qah368 qbh368 qch368 qlh368 ⊢;have qz:=X3v h369;omega)|(simp at qah368 qbh368 qch368 qlh368 ⊢;omega)|(have hp:=eq_of_beq h391;simp[hp];done)|(have hp:=eq_of_beq h391;simp at hp ⊢;omega)|(have hp:=eq_of_beq h391;subst hp;decide +kernel)|exact(Xgj (f:=X7) qh368 h393)|exact(Xm h393)|exact(X7p h393)|exact X1i) ?_;intro h;refine X5.round ?_;revert h;refine bI λe394 h395=>?_;try have qh395:=Xm h395
    refine rnI [Bt,.el (X7 e394),.ld (X7 e394),Bf,.wrap,.wrap] (o:=by repeat' first|apply Ya|exact pcM|(simp at qah366 qbh366 qch366 ⊢;omega)|(simp at qah366 qbh366 qch366 qlh366 ⊢;omega)|(simp;done)|(simp at qah368 qbh368 qch368 ⊢;omega)|(simp at qah368 qbh368 qch368 qlh368 ⊢;have qz:=X3v h369;omega)|(simp at qah368 qbh368 qch368 qlh368 ⊢;omega)|(have hp:=eq_of_beq h391;simp[hp];done)|(have hp:=eq_of_beq h391;simp at hp ⊢;omega)|(have hp:=eq_of_beq h391;subst hp;decide +kernel)|exact(Xgj (f:=X7) qh368 h395)|exact(Xm h395)|exact(X7p h395)|exact X1i) ?_;intro h;refine X5.round ?_;revert h;refine bI λX08r h399=>rnI [Bf] (o:=Xji) ?_;intro h;refine jn [(4,AV.nils),(5,(AV.ref 1 0 (m365.length))),(7,(AV.ptr 2 0 0)),(11,(AV.ptr 3 0 0)),(12,(AV.ptr 4 0 0)),(15,(Lf (X5h.map X3))),(16,(aI .i64 (X5h.length:Int))),(17,(aI .i64 (k:Int)))] ([(1,Ob (Xi.map X7) 3),(2,Ob [(X3 x)] 5),(3,Ob [(X3 X08r)] 5),(4,Ob [(X7 (Xd.mk (k:Int) (IntKind.i64.wrap ((IntKind.i64.wrap (1+e392.size))+e394.size)) (if (IntKind.i64.wrap (e394.depth+1))>(if (IntKind.i64.wrap (e392.depth+1))>1 then (IntKind.i64.wrap (e392.depth+1)) else 1) then (IntKind.i64.wrap (e394.depth+1)) else (if (IntKind.i64.wrap (e392.depth+1))>1 then (IntKind.i64.wrap (e392.depth+1)) else 1))))] 3)]) 5 ?_ (λJ=>X5.cut ?_)
    ·
     revert h;refine brI (λh400=>?_) λh400=>?_
     ·
      exact λe=>X8 [Bt] (o:=Xji) (k:=wkT [] (C1 _  nbS (oj e).symm))
     refine bI λu401 h402=>bI λu403 h404=>rnI [Bf,.trunc 1 (m365.map X7),.no,.no] (o:=by repeat' first|apply Ya|exact pcM|(simp at qah366 qbh366 qch366 ⊢;omega)|(simp at qah366 qbh366 qch366 qlh366 ⊢;omega)|(simp;done)|(simp at qah368 qbh368 qch368 ⊢;omega)|(simp at qah368 qbh368 qch368 qlh368 ⊢;have qz:=X3v h369;omega)|(simp at qah368 qbh368 qch368 qlh368 ⊢;omega)|(have hp:=eq_of_beq h391;simp[hp];done)|(have hp:=eq_of_beq h391;simp at hp ⊢;omega)|(have hp:=eq_of_beq h391;subst hp;decide +kernel)|(refine X0g h402 rfl ?_;first|(simp<;>omega)|(simp[hc,h359,h369,h379,h391,h400]<;>omega))|(refine Xv h402 (by decide) ?_;first|(simp<;>omega)|(simp[hc,h359,h369,h379,h391,h400]<;>omega))|exact(X8j (f:=X7) qh366)|(refine X0g h404 rfl ?_;first|(simp<;>omega)|(simp[hc,h359,h369,h379,h391,h400]<;>omega))|(refine Xv h404 (by decide) ?_;first|(simp<;>omega)|(simp[hc,h359,h369,h379,h391,h400]<;>omega))|exact X1i) ?_;intro h;exact wkT [(0,8),(1,6)] (ih (k+1) hx1 _ _ nbF nbF o h C0 C1)
    clear h;revert h399;refine brI (λh398=>?_) λh398=>?_
    ·
     exact λe=>X8 [Bt] (o:=Xji) (k:=wJ [(3,17),(4,18)] J)
    exact λe=>X8 [Bf] (o:=Xji) (k:=wJ [(3,17),(4,18)] J)
   intro h;cases h
  obtain rfl:=X0a rfl;refine X5.round ?_;revert h;refine bI λv405 h406=>brI (λh407=>λe=>X8 [Bt,.el (X3 x),.pure _ (AV.tup [(aI .i64 v405.1),(aI .i64 v405.2)]),.el (aI .i64 (List.length ([]:List Xd):Int)),Bt] (k:=wkT [] (C1 _  nbS (oj e).symm))) λh407=>rnI [Bt,.el (X3 x),.pure _ (AV.tup [(aI .i64 v405.1),(aI .i64 v405.2)]),.el (aI .i64 (List.length ([]:List Xd):Int)),Bf] ?_;intro h;refine X5.inline X2 X04i rfl rfl rfl rfl rfl trivial trivial rfl rfl ?_;revert h;refine bI λm413 h414=>?_;obtain⟨qah414,qbh414,qch414,qh414⟩:=X3f h414;obtain rfl:=X8h h414;refine bI λm415 h416=>?_;obtain⟨qah416,qbh416,qch416,qh416⟩:=X3f h416;obtain rfl:=X8h h416;refine brI (λh417=>?_) λh417=>?_
  ·
   refine rnI [.el (aI .i64 (List.length ([]:List Xd):Int)),.wrap,.el (aI .i64 (List.length ([]:List Xd):Int)),.wrap] (o:=Xgk) ?_;intro h;refine X5.back (by intro id h;cases h) rfl ?_;refine X0f [] (o:=Xgk) ?_;refine X5.round ?_;revert h;refine bI λX08q h421=>rnI [Bf] (o:=Xgk) ?_;intro h;refine jn [(4,AV.nils),(5,AV.nils),(7,(AV.ptr 2 0 0)),(11,(AV.ptr 3 0 0)),(12,(AV.ptr 4 0 0)),(15,(Lf (X5h.map X3))),(16,(aI .i64 (X5h.length:Int))),(17,(aI .i64 (k:Int)))] ([(2,Ob [(X3 x)] 5),(3,Ob [(X3 X08q)] 5),(4,Ob [(X7 (Xd.mk (k:Int) 1 1))] 3)]) 5 ?_ (λJ=>X5.cut ?_)
   ·
    revert h;refine brI (λh422=>?_) λh422=>?_
    ·
     exact λe=>X8 [Bt] (o:=Xgk) (k:=wkT [] (C1 _  nbS (oj e).symm))
    refine bI λu423 h424=>bI λu425 h426=>rnI [Bf,.no,.no] (o:=by repeat' first|apply Ya|exact pcM|(simp at qah414 qbh414 qch414 ⊢;omega)|(simp at qah416 qbh416 qch416 ⊢;omega)|(refine X0g h424 rfl ?_;first|(simp<;>omega)|(simp[hc,h407,h417,h422]<;>omega))|(refine Xv h424 (by decide) ?_;first|(simp<;>omega)|(simp[hc,h407,h417,h422]<;>omega))|(refine X0g h426 rfl ?_;first|(simp<;>omega)|(simp[hc,h407,h417,h422]<;>omega))|(refine Xv h426 (by decide) ?_;first|(simp<;>omega)|(simp[hc,h407,h417,h422]<;>omega))|exact X1i) ?_;intro h;exact wkT [(0,8),(1,6)] (ih (k+1) hx1 _ _ nbF nbF o h C0 C1)
   clear h;revert h421;refine brI (λh420=>?_) λh420=>?_
   ·
    exact λe=>X8 [Bt] (o:=Xgk) (k:=wJ [(3,17),(4,18)] J)
   exact λe=>X8 [Bf] (o:=Xgk) (k:=wJ [(3,17),(4,18)] J)
  intro h;exact absurd h417 (by simp)
end Go.Av.Tryz