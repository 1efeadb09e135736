/- Printed by decomp.py: that the program computes the functions. -/
import Derived.Test.YtmkegegjcihooaaGreatDCert2Z
set_option linter.all false

namespace Go.Av.Tryz
open Go.Proofs Go.D
set_option maxRecDepth 100000
set_option maxHeartbeats 40000000
theorem Xjd {P:Prop} (h:P:=by repeat' first|apply Ya|exact pcM|(simp at qah332 qbh332 qch332 ⊢;omega)|(simp at qah332 qbh332 qch332 qlh332 ⊢;omega)|(simp;done)|(simp at qah334 qbh334 qch334 ⊢;omega)|(simp at qah334 qbh334 qch334 qlh334 ⊢;have qz:=Xae h335;omega)|exact X04):P:=h
theorem Xm0 {P:Prop} (h:P:=by repeat' first|apply Ya|exact pcM|(simp at qah332 qbh332 qch332 ⊢;omega)|(simp at qah332 qbh332 qch332 qlh332 ⊢;omega)|(simp;done)|(simp at qah334 qbh334 qch334 ⊢;omega)|(simp at qah334 qbh334 qch334 qlh334 ⊢;have qz:=X1q h335;omega)|(simp at qah334 qbh334 qch334 qlh334 ⊢;omega)|(have hp:=eq_of_beq h345;simp[hp];done)|(have hp:=eq_of_beq h345;simp at hp ⊢;omega)|(have hp:=eq_of_beq h345;subst hp;decide +kernel)|exact X04):P:=h
theorem Xlz {P:Prop} (h:P:=by repeat' first|apply Ya|exact pcM|(simp at qah332 qbh332 qch332 ⊢;omega)|(simp at qah332 qbh332 qch332 qlh332 ⊢;omega)|(simp;done)|(simp at qah334 qbh334 qch334 ⊢;omega)|(simp at qah334 qbh334 qch334 qlh334 ⊢;have qz:=X1q h335;omega)|(simp at qah334 qbh334 qch334 qlh334 ⊢;omega)|(have hp:=eq_of_beq h357;simp[hp];done)|(have hp:=eq_of_beq h357;simp at hp ⊢;omega)|(have hp:=eq_of_beq h357;subst hp;decide +kernel)|exact X04):P:=h
theorem Xjc {P:Prop} (h:P:=by repeat' first|apply Ya|exact pcM|(simp at qah384 qbh384 qch384 ⊢;omega)|(simp at qah386 qbh386 qch386 ⊢;omega)|exact X04):P:=h
theorem Xjb {P:Prop} (h:P:=by repeat' first|apply Ya|exact pcM|(simp at qah410 qbh410 qch410 ⊢;omega)|(simp at qah410 qbh410 qch410 qlh410 ⊢;omega)|(simp;done)|(simp at qah412 qbh412 qch412 ⊢;omega)|(simp at qah412 qbh412 qch412 qlh412 ⊢;have qz:=Xae h413;omega)|exact X04):P:=h
theorem Xly {P:Prop} (h:P:=by repeat' first|apply Ya|exact pcM|(simp at qah410 qbh410 qch410 ⊢;omega)|(simp at qah410 qbh410 qch410 qlh410 ⊢;omega)|(simp;done)|(simp at qah412 qbh412 qch412 ⊢;omega)|(simp at qah412 qbh412 qch412 qlh412 ⊢;have qz:=X1q h413;omega)|(simp at qah412 qbh412 qch412 qlh412 ⊢;omega)|(have hp:=eq_of_beq h423;simp[hp];done)|(have hp:=eq_of_beq h423;simp at hp ⊢;omega)|(have hp:=eq_of_beq h423;subst hp;decide +kernel)|exact X04):P:=h
theorem Xlx {P:Prop} (h:P:=by repeat' first|apply Ya|exact pcM|(simp at qah410 qbh410 qch410 ⊢;omega)|(simp at qah410 qbh410 qch410 qlh410 ⊢;omega)|(simp;done)|(simp at qah412 qbh412 qch412 ⊢;omega)|(simp at qah412 qbh412 qch412 qlh412 ⊢;have qz:=X1q h413;omega)|(simp at qah412 qbh412 qch412 qlh412 ⊢;omega)|(have hp:=eq_of_beq h435;simp[hp];done)|(have hp:=eq_of_beq h435;simp at hp ⊢;omega)|(have hp:=eq_of_beq h435;subst hp;decide +kernel)|exact X04):P:=h
theorem Xja {P:Prop} (h:P:=by repeat' first|apply Ya|exact pcM|(simp at qah462 qbh462 qch462 ⊢;omega)|(simp at qah464 qbh464 qch464 ⊢;omega)|exact X04):P:=h
theorem Xkn {Q:Xp->St->Mu->Prop} {μ:Mu} (X64:(List X02)) (hl:X64.length<=140737488355328):∀ (xs:List X02) (k:Nat) (hx:X64.drop k=xs) (Xe:(List Xh)) (Xj:(List Xh)) (X1r:Nb Xe) (X01:Nb Xj) (o:X69) (h:X1z X64 xs k Xe Xj=some o)
  (C0:∀ (Xz:(List Xh)) (X0y:(List Xh)) (X0f:Nb Xz) (X2k:Nb X0y),o=X69.x0 Xz X0y->X0 Tryz.prog 105 0 Q (.exit (.exit 0)) [] ⟨fr [(4,(slE X0f.1 0 (Xz.map X7))),(5,(slE X2k.1 1 (X0y.map X7)))],hp ([]++opE X0f.1 0 3 (Xz.map X7)++opE X2k.1 1 3 (X0y.map X7)),2⟩ μ)
  (C1:∀ (X2o:(List Xh)) (X2u:Nb X2o),o=X69.x1 X2o->X0 Tryz.prog 105 0 Q (.exit .ret) [] ⟨fr [(2,(slE X2u.1 0 (X2o.map X7))),(3,(aB false))],hp ([]++opE X2u.1 0 3 (X2o.map X7)),1⟩ μ),
  X0 Tryz.prog 105 0 Q (.loop (X0w 0 (Xd Tryz.f254))) [] ⟨fr [(4,(slE X1r.1 0 (Xe.map X7))),(5,(slE X01.1 1 (Xj.map X7))),(15,(Lf (X64.map X2))),(16,(aI .i64 (X64.length:Int))),(17,(aI .i64 (k:Int)))],hp ([]++opE X1r.1 0 3 (Xe.map X7)++opE X01.1 1 3 (Xj.map X7)),2⟩ μ:=by
 intro xs
 induction xs with
 |nil =>
  intro k hx Xe Xj X1r X01 o h C0 C1;have hk:=X06 hx;have hc:decide ((k:Int)<(X64.length:Int))=false:=Yf om;rw[X1z] at h;rcases X1r with ⟨_|_,X6l⟩
  ·
   rcases X01 with ⟨_|_,X0x⟩
   ·
    refine X0.round ?_;revert h;exact λe=>X3 [Bf] (k:=wkT [] (C0 _ _  nbF nbF (oj e).symm))
   obtain rfl:=X0x rfl;refine X0.round ?_;revert h;exact λe=>X3 [Bf] (k:=wkT [] (C0 _ _  nbF nbS (oj e).symm))
  ·
   obtain rfl:=X6l rfl;rcases X01 with ⟨_|_,X0x⟩
   ·
    refine X0.round ?_;revert h;exact λe=>X3 [Bf] (k:=wkT [] (C0 _ _  nbS nbF (oj e).symm))
   ·
    obtain rfl:=X0x rfl;refine X0.round ?_;revert h;exact λe=>X3 [Bf] (k:=wkT [] (C0 _ _  nbS nbS (oj e).symm))
 |cons x xs ih =>
  intro k hx Xe Xj X1r X01 o h C0 C1;obtain⟨hk,hg,hx1⟩:=Xy hx;have hc:decide ((k:Int)<(X64.length:Int))=true:=Yt om;rw[X1z] at h;rcases X1r with ⟨_|_,X6l⟩
  ·
   rcases X01 with ⟨_|_,X0x⟩
   ·
    refine X0.round ?_;revert h;refine bI λv318 h319=>bI λXsl h323=>rnI [Bt,.el (X2 x),.pure _ (AV.tup [(aI .i64 v318.1),(aI .i64 v318.2)]),.stop 6] ?_;intro h;refine X0.join (s':=⟨fr [(4,(AV.ref 0 0 (Xe.length))),(5,(AV.ref 1 0 (Xj.length))),(6,(aI .i64 (k:Int))),(7,(AV.ptr 2 0 0)),(8,(aI .i64 v318.1)),(15,(Lf (X64.map X2))),(16,(aI .i64 (X64.length:Int))),(17,(aI .i64 (k:Int))),(35,(aB Xsl))],hp ([(0,Ob (Xe.map X7) 3),(1,Ob (Xj.map X7) 3),(2,Ob [(X2 x)] 5)]),3⟩) ?_ (λJ=>X0.cut ?_)
    ·
     revert h;refine brI (λh324=>λe=>X3 [Bt] (k:=wkT [] (C1 _  nbF (oj e).symm))) λh324=>rnI [Bf] ?_;intro h;refine X0.inline X9 X044 rfl rfl rfl rfl rfl trivial trivial rfl rfl ?_;revert h;refine bI λm331 h332=>?_;obtain⟨qah332,qbh332,qch332,qh332⟩:=X1l h332;have qlh332:=X3n h332;refine bI λm333 h334=>?_;obtain⟨qah334,qbh334,qch334,qh334⟩:=X1l h334;have qlh334:=X3n h334;refine brI (λh335=>?_) λh335=>?_
     ·
      refine rnI [.el (aI .i64 (Xj.length:Int)),.wrap,.via (.ref 1 0 (m331.length)),.el (aI .i64 (Xj.length:Int)),.wrap,.ne false] (o:=Xjd) ?_;intro h;refine X0.back (by intro id h;cases h) rfl ?_;refine X1f [] (o:=Xjd) ?_;refine X0.round ?_;revert h;refine bI λXsk h339=>rnI [Bf] (o:=Xjd) ?_;intro h;refine X0.join (s':=⟨fr [(4,(AV.ref 0 0 (Xe.length))),(5,(AV.ref 1 0 (m331.length))),(7,(AV.ptr 2 0 0)),(11,(AV.ptr 3 0 0)),(12,(AV.ptr 4 0 0)),(15,(Lf (X64.map X2))),(16,(aI .i64 (X64.length:Int))),(17,(aI .i64 (k:Int)))],hp ([(0,Ob (Xe.map X7) 3),(1,Ob (Xj.map X7) 3),(2,Ob [(X2 x)] 5),(3,Ob [(X2 Xsk)] 5),(4,Ob [(X7 (Xh.mk (k:Int) 1 1))] 3)]),5⟩) ?_ (λJ=>X0.cut ?_)
      ·
       revert h;refine brI (λh340=>?_) λh340=>?_
       ·
        exact λe=>X3 [Bt] (o:=Xjd) (k:=wkT [] (C1 _  nbF (oj e).symm))
       refine bI λu341 h342=>bI λu343 h344=>rnI [Bf,.trunc 1 (m331.map X7),.no,.no] (o:=by repeat' first|apply Ya|exact pcM|(simp at qah332 qbh332 qch332 ⊢;omega)|(simp at qah332 qbh332 qch332 qlh332 ⊢;omega)|(simp;done)|(simp at qah334 qbh334 qch334 ⊢;omega)|(simp at qah334 qbh334 qch334 qlh334 ⊢;have qz:=Xae h335;omega)|(refine X1n h342 rfl ?_;first|(simp<;>omega)|(simp[hc,h324,h335,h340]<;>omega))|(refine X0h h342 (by decide) ?_;first|(simp<;>omega)|(simp[hc,h324,h335,h340]<;>omega))|exact(X2t (f:=X7) qh332)|(refine X1n h344 rfl ?_;first|(simp<;>omega)|(simp[hc,h324,h335,h340]<;>omega))|(refine X0h h344 (by decide) ?_;first|(simp<;>omega)|(simp[hc,h324,h335,h340]<;>omega))|exact X04) ?_;intro h;exact wkT [(0,8),(1,6)] (ih (k+1) hx1 _ _ nbF nbF o h C0 C1)
      clear h;revert h339;refine brI (λh338=>?_) λh338=>?_
      ·
       intro h;obtain rfl:=oj h;exact X3 [Bt] (o:=Xjd) (k:=wkT [(3,17),(4,18)] (X0.glue J))
      intro h;obtain rfl:=oj h;exact X3 [Bf] (o:=Xjd) (k:=wkT [(3,17),(4,18)] (X0.glue J))
     refine rnI [.el (aI .i64 (Xj.length:Int)),.wrap,.via (.ref 1 0 (m331.length)),.el (aI .i64 (Xj.length:Int)),.wrap,.via (.ref 1 (Int.toNat (IntKind.i64.wrap ((Xj.length:Int) - v318.1))) (m333.length))] (o:=by repeat' first|apply Ya|exact pcM|(simp at qah332 qbh332 qch332 ⊢;omega)|(simp at qah332 qbh332 qch332 qlh332 ⊢;omega)|(simp;done)|(simp at qah334 qbh334 qch334 ⊢;omega)|(simp at qah334 qbh334 qch334 qlh334 ⊢;have qz:=X1q h335;omega)|(simp at qah334 qbh334 qch334 qlh334 ⊢;omega)|exact X04) ?_;intro h;refine X0.back (by intro id h;cases h) rfl ?_;revert h;refine brI (λh345=>?_) λh345=>?_
     ·
      refine rnI [.el (aI .i64 (m333.length:Int))] (o:=Xm0) ?_;intro h;refine X0.round ?_;revert h;refine bI λe346 h347=>?_;try have qh347:=Xi h347
      refine rnI [Bt,.el (X7 e346),.ld (X7 e346),Bt,.wrap,.wrap] (o:=by repeat' first|apply Ya|exact pcM|(simp at qah332 qbh332 qch332 ⊢;omega)|(simp at qah332 qbh332 qch332 qlh332 ⊢;omega)|(simp;done)|(simp at qah334 qbh334 qch334 ⊢;omega)|(simp at qah334 qbh334 qch334 qlh334 ⊢;have qz:=X1q h335;omega)|(simp at qah334 qbh334 qch334 qlh334 ⊢;omega)|(have hp:=eq_of_beq h345;simp[hp];done)|(have hp:=eq_of_beq h345;simp at hp ⊢;omega)|(have hp:=eq_of_beq h345;subst hp;decide +kernel)|exact(Xj8 (f:=X7) qh334 h347)|exact(Xi h347)|exact(Xaz h347)|exact X04) ?_;intro h;refine X0.round ?_;revert h;refine bI λXsj h351=>rnI [Bf] (o:=Xm0) ?_;intro h;refine X0.join (s':=⟨fr [(4,(AV.ref 0 0 (Xe.length))),(5,(AV.ref 1 0 (m331.length))),(7,(AV.ptr 2 0 0)),(11,(AV.ptr 3 0 0)),(12,(AV.ptr 4 0 0)),(15,(Lf (X64.map X2))),(16,(aI .i64 (X64.length:Int))),(17,(aI .i64 (k:Int)))],hp ([(0,Ob (Xe.map X7) 3),(1,Ob (Xj.map X7) 3),(2,Ob [(X2 x)] 5),(3,Ob [(X2 Xsj)] 5),(4,Ob [(X7 (Xh.mk (k:Int) (IntKind.i64.wrap (1+e346.size)) (if (IntKind.i64.wrap (e346.depth+1))>1 then (IntKind.i64.wrap (e346.depth+1)) else 1)))] 3)]),5⟩) ?_ (λJ=>X0.cut ?_)
      ·
       revert h;refine brI (λh352=>?_) λh352=>?_
       ·
        exact λe=>X3 [Bt] (o:=Xm0) (k:=wkT [] (C1 _  nbF (oj e).symm))
       refine bI λu353 h354=>bI λu355 h356=>rnI [Bf,.trunc 1 (m331.map X7),.no,.no] (o:=by repeat' first|apply Ya|exact pcM|(simp at qah332 qbh332 qch332 ⊢;omega)|(simp at qah332 qbh332 qch332 qlh332 ⊢;omega)|(simp;done)|(simp at qah334 qbh334 qch334 ⊢;omega)|(simp at qah334 qbh334 qch334 qlh334 ⊢;have qz:=X1q h335;omega)|(simp at qah334 qbh334 qch334 qlh334 ⊢;omega)|(have hp:=eq_of_beq h345;simp[hp];done)|(have hp:=eq_of_beq h345;simp at hp ⊢;omega)|(have hp:=eq_of_beq h345;subst hp;decide +kernel)|(refine X1n h354 rfl ?_;first|(simp<;>omega)|(simp[hc,h324,h335,h345,h352]<;>omega))|(refine X0h h354 (by decide) ?_;first|(simp<;>omega)|(simp[hc,h324,h335,h345,h352]<;>omega))|exact(X2t (f:=X7) qh332)|(refine X1n h356 rfl ?_;first|(simp<;>omega)|(simp[hc,h324,h335,h345,h352]<;>omega))|(refine X0h h356 (by decide) ?_;first|(simp<;>omega)|(simp[hc,h324,h335,h345,h352]<;>omega))|exact X04) ?_;intro h;exact wkT [(0,8),(1,6)] (ih (k+1) hx1 _ _ nbF nbF o h C0 C1)
      clear h;revert h351;refine brI (λh350=>?_) λh350=>?_
      ·
       intro h;obtain rfl:=oj h;exact X3 [Bt] (o:=Xm0) (k:=wkT [(3,17),(4,18)] (X0.glue J))
      intro h;obtain rfl:=oj h;exact X3 [Bf] (o:=Xm0) (k:=wkT [(3,17),(4,18)] (X0.glue J))
     refine brI (λh357=>?_) λh357=>?_
     ·
      refine rnI [.el (aI .i64 (m333.length:Int))] (o:=Xlz) ?_;intro h;refine X0.round ?_;revert h;refine bI λe358 h359=>?_;try have qh359:=Xi h359
      refine rnI [Bt,.el (X7 e358),.ld (X7 e358),Bt,.wrap,.wrap] (o:=by repeat' first|apply Ya|exact pcM|(simp at qah332 qbh332 qch332 ⊢;omega)|(simp at qah332 qbh332 qch332 qlh332 ⊢;omega)|(simp;done)|(simp at qah334 qbh334 qch334 ⊢;omega)|(simp at qah334 qbh334 qch334 qlh334 ⊢;have qz:=X1q h335;omega)|(simp at qah334 qbh334 qch334 qlh334 ⊢;omega)|(have hp:=eq_of_beq h357;simp[hp];done)|(have hp:=eq_of_beq h357;simp at hp ⊢;omega)|(have hp:=eq_of_beq h357;subst hp;decide +kernel)|exact(Xj8 (f:=X7) qh334 h359)|exact(Xi h359)|exact(Xaz h359)|exact X04) ?_;intro h;refine X0.round ?_;revert h;refine bI λe360 h361=>?_;try have qh361:=Xi h361
      refine rnI [Bt,.el (X7 e360),.ld (X7 e360),Bf,.wrap,.wrap] (o:=by repeat' first|apply Ya|exact pcM|(simp at qah332 qbh332 qch332 ⊢;omega)|(simp at qah332 qbh332 qch332 qlh332 ⊢;omega)|(simp;done)|(simp at qah334 qbh334 qch334 ⊢;omega)|(simp at qah334 qbh334 qch334 qlh334 ⊢;have qz:=X1q h335;omega)|(simp at qah334 qbh334 qch334 qlh334 ⊢;omega)|(have hp:=eq_of_beq h357;simp[hp];done)|(have hp:=eq_of_beq h357;simp at hp ⊢;omega)|(have hp:=eq_of_beq h357;subst hp;decide +kernel)|exact(Xj8 (f:=X7) qh334 h361)|exact(Xi h361)|exact(Xaz h361)|exact X04) ?_;intro h;refine X0.round ?_;revert h;refine bI λXsi h365=>rnI [Bf] (o:=Xlz) ?_;intro h;refine X0.join (s':=⟨fr [(4,(AV.ref 0 0 (Xe.length))),(5,(AV.ref 1 0 (m331.length))),(7,(AV.ptr 2 0 0)),(11,(AV.ptr 3 0 0)),(12,(AV.ptr 4 0 0)),(15,(Lf (X64.map X2))),(16,(aI .i64 (X64.length:Int))),(17,(aI .i64 (k:Int)))],hp ([(0,Ob (Xe.map X7) 3),(1,Ob (Xj.map X7) 3),(2,Ob [(X2 x)] 5),(3,Ob [(X2 Xsi)] 5),(4,Ob [(X7 (Xh.mk (k:Int) (IntKind.i64.wrap ((IntKind.i64.wrap (1+e358.size))+e360.size)) (if (IntKind.i64.wrap (e360.depth+1))>(if (IntKind.i64.wrap (e358.depth+1))>1 then (IntKind.i64.wrap (e358.depth+1)) else 1) then (IntKind.i64.wrap (e360.depth+1)) else (if (IntKind.i64.wrap (e358.depth+1))>1 then (IntKind.i64.wrap (e358.depth+1)) else 1))))] 3)]),5⟩) ?_ (λJ=>X0.cut ?_)
      ·
       revert h;refine brI (λh366=>?_) λh366=>?_
       ·
        exact λe=>X3 [Bt] (o:=Xlz) (k:=wkT [] (C1 _  nbF (oj e).symm))
       refine bI λu367 h368=>bI λu369 h370=>rnI [Bf,.trunc 1 (m331.map X7),.no,.no] (o:=by repeat' first|apply Ya|exact pcM|(simp at qah332 qbh332 qch332 ⊢;omega)|(simp at qah332 qbh332 qch332 qlh332 ⊢;omega)|(simp;done)|(simp at qah334 qbh334 qch334 ⊢;omega)|(simp at qah334 qbh334 qch334 qlh334 ⊢;have qz:=X1q h335;omega)|(simp at qah334 qbh334 qch334 qlh334 ⊢;omega)|(have hp:=eq_of_beq h357;simp[hp];done)|(have hp:=eq_of_beq h357;simp at hp ⊢;omega)|(have hp:=eq_of_beq h357;subst hp;decide +kernel)|(refine X1n h368 rfl ?_;first|(simp<;>omega)|(simp[hc,h324,h335,h345,h357,h366]<;>omega))|(refine X0h h368 (by decide) ?_;first|(simp<;>omega)|(simp[hc,h324,h335,h345,h357,h366]<;>omega))|exact(X2t (f:=X7) qh332)|(refine X1n h370 rfl ?_;first|(simp<;>omega)|(simp[hc,h324,h335,h345,h357,h366]<;>omega))|(refine X0h h370 (by decide) ?_;first|(simp<;>omega)|(simp[hc,h324,h335,h345,h357,h366]<;>omega))|exact X04) ?_;intro h;exact wkT [(0,8),(1,6)] (ih (k+1) hx1 _ _ nbF nbF o h C0 C1)
      clear h;revert h365;refine brI (λh364=>?_) λh364=>?_
      ·
       intro h;obtain rfl:=oj h;exact X3 [Bt] (o:=Xlz) (k:=wkT [(3,17),(4,18)] (X0.glue J))
      intro h;obtain rfl:=oj h;exact X3 [Bf] (o:=Xlz) (k:=wkT [(3,17),(4,18)] (X0.glue J))
     intro h;cases h
    clear h;revert h323;refine brI (λh322=>?_) λh322=>?_
    ·
     intro h;obtain rfl:=oj h;exact X3 [Gf,Gf,Gf,Gf] (k:=wkT [] (X0.glue J))
    intro h;obtain rfl:=oj h;exact X3 [Gt,Gt,Gt,.el (aI .i64 (Xj.length:Int)),Gt] (k:=wkT [] (X0.glue J))
   obtain rfl:=X0x rfl;refine X0.round ?_;revert h;refine bI λv371 h372=>bI λX07p h376=>rnI [Bt,.el (X2 x),.pure _ (AV.tup [(aI .i64 v371.1),(aI .i64 v371.2)]),.stop 6] ?_;intro h;refine X0.join (s':=⟨fr [(4,(AV.ref 0 0 (Xe.length))),(5,AV.nils),(6,(aI .i64 (k:Int))),(7,(AV.ptr 2 0 0)),(8,(aI .i64 v371.1)),(15,(Lf (X64.map X2))),(16,(aI .i64 (X64.length:Int))),(17,(aI .i64 (k:Int))),(35,(aB X07p))],hp ([(0,Ob (Xe.map X7) 3),(2,Ob [(X2 x)] 5)]),3⟩) ?_ (λJ=>X0.cut ?_)
   ·
    revert h;refine brI (λh377=>λe=>X3 [Bt] (k:=wkT [] (C1 _  nbF (oj e).symm))) λh377=>rnI [Bf] ?_;intro h;refine X0.inline X9 X044 rfl rfl rfl rfl rfl trivial trivial rfl rfl ?_;revert h;refine bI λm383 h384=>?_;obtain⟨qah384,qbh384,qch384,qh384⟩:=X1l h384;obtain rfl:=X7y h384;refine bI λm385 h386=>?_;obtain⟨qah386,qbh386,qch386,qh386⟩:=X1l h386;obtain rfl:=X7y h386;refine brI (λh387=>?_) λh387=>?_
    ·
     refine rnI [.el (aI .i64 (List.length ([]:List Xh):Int)),.wrap,.el (aI .i64 (List.length ([]:List Xh):Int)),.wrap] (o:=Xjc) ?_;intro h;refine X0.back (by intro id h;cases h) rfl ?_;refine X1f [] (o:=Xjc) ?_;refine X0.round ?_;revert h;refine bI λX07o h391=>rnI [Bf] (o:=Xjc) ?_;intro h;refine X0.join (s':=⟨fr [(4,(AV.ref 0 0 (Xe.length))),(5,AV.nils),(7,(AV.ptr 2 0 0)),(11,(AV.ptr 3 0 0)),(12,(AV.ptr 4 0 0)),(15,(Lf (X64.map X2))),(16,(aI .i64 (X64.length:Int))),(17,(aI .i64 (k:Int)))],hp ([(0,Ob (Xe.map X7) 3),(2,Ob [(X2 x)] 5),(3,Ob [(X2 X07o)] 5),(4,Ob [(X7 (Xh.mk (k:Int) 1 1))] 3)]),5⟩) ?_ (λJ=>X0.cut ?_)
     ·
      revert h;refine brI (λh392=>?_) λh392=>?_
      ·
       exact λe=>X3 [Bt] (o:=Xjc) (k:=wkT [] (C1 _  nbF (oj e).symm))
      refine bI λu393 h394=>bI λu395 h396=>rnI [Bf,.no,.no] (o:=by repeat' first|apply Ya|exact pcM|(simp at qah384 qbh384 qch384 ⊢;omega)|(simp at qah386 qbh386 qch386 ⊢;omega)|(refine X1n h394 rfl ?_;first|(simp<;>omega)|(simp[hc,h377,h387,h392]<;>omega))|(refine X0h h394 (by decide) ?_;first|(simp<;>omega)|(simp[hc,h377,h387,h392]<;>omega))|(refine X1n h396 rfl ?_;first|(simp<;>omega)|(simp[hc,h377,h387,h392]<;>omega))|(refine X0h h396 (by decide) ?_;first|(simp<;>omega)|(simp[hc,h377,h387,h392]<;>omega))|exact X04) ?_;intro h;exact wkT [(0,8),(1,6)] (ih (k+1) hx1 _ _ nbF nbF o h C0 C1)
     clear h;revert h391;refine brI (λh390=>?_) λh390=>?_
     ·
      intro h;obtain rfl:=oj h;exact X3 [Bt] (o:=Xjc) (k:=wkT [(3,17),(4,18)] (X0.glue J))
     intro h;obtain rfl:=oj h;exact X3 [Bf] (o:=Xjc) (k:=wkT [(3,17),(4,18)] (X0.glue J))
    intro h;exact absurd h387 (by simp)
   clear h;revert h376;refine brI (λh375=>?_) λh375=>?_
   ·
    intro h;obtain rfl:=oj h;exact X3 [Gf,Gf,Gf,Gf] (k:=wkT [] (X0.glue J))
   intro h;obtain rfl:=oj h;exact X3 [Gt,Gt,Gt,.el (aI .i64 (List.length ([]:List Xh):Int)),Gt] (k:=wkT [] (X0.glue J))
  obtain rfl:=X6l rfl;rcases X01 with ⟨_|_,X0x⟩
  ·
   refine X0.round ?_;revert h;refine bI λv397 h398=>bI λX07i h402=>rnI [Bt,.el (X2 x),.pure _ (AV.tup [(aI .i64 v397.1),(aI .i64 v397.2)]),.stop 6] ?_;intro h;refine X0.join (s':=⟨fr [(4,AV.nils),(5,(AV.ref 1 0 (Xj.length))),(6,(aI .i64 (k:Int))),(7,(AV.ptr 2 0 0)),(8,(aI .i64 v397.1)),(15,(Lf (X64.map X2))),(16,(aI .i64 (X64.length:Int))),(17,(aI .i64 (k:Int))),(35,(aB X07i))],hp ([(1,Ob (Xj.map X7) 3),(2,Ob [(X2 x)] 5)]),3⟩) ?_ (λJ=>X0.cut ?_)
   ·
    revert h;refine brI (λh403=>λe=>X3 [Bt] (k:=wkT [] (C1 _  nbS (oj e).symm))) λh403=>rnI [Bf] ?_;intro h;refine X0.inline X9 X044 rfl rfl rfl rfl rfl trivial trivial rfl rfl ?_;revert h;refine bI λm409 h410=>?_;obtain⟨qah410,qbh410,qch410,qh410⟩:=X1l h410;have qlh410:=X3n h410;refine bI λm411 h412=>?_;obtain⟨qah412,qbh412,qch412,qh412⟩:=X1l h412;have qlh412:=X3n h412;refine brI (λh413=>?_) λh413=>?_
    ·
     refine rnI [.el (aI .i64 (Xj.length:Int)),.wrap,.via (.ref 1 0 (m409.length)),.el (aI .i64 (Xj.length:Int)),.wrap,.ne false] (o:=Xjb) ?_;intro h;refine X0.back (by intro id h;cases h) rfl ?_;refine X1f [] (o:=Xjb) ?_;refine X0.round ?_;revert h;refine bI λX07h h417=>rnI [Bf] (o:=Xjb) ?_;intro h;refine X0.join (s':=⟨fr [(4,AV.nils),(5,(AV.ref 1 0 (m409.length))),(7,(AV.ptr 2 0 0)),(11,(AV.ptr 3 0 0)),(12,(AV.ptr 4 0 0)),(15,(Lf (X64.map X2))),(16,(aI .i64 (X64.length:Int))),(17,(aI .i64 (k:Int)))],hp ([(1,Ob (Xj.map X7) 3),(2,Ob [(X2 x)] 5),(3,Ob [(X2 X07h)] 5),(4,Ob [(X7 (Xh.mk (k:Int) 1 1))] 3)]),5⟩) ?_ (λJ=>X0.cut ?_)
     ·
      revert h;refine brI (λh418=>?_) λh418=>?_
      ·
       exact λe=>X3 [Bt] (o:=Xjb) (k:=wkT [] (C1 _  nbS (oj e).symm))
      refine bI λu419 h420=>bI λu421 h422=>rnI [Bf,.trunc 1 (m409.map X7),.no,.no] (o:=by repeat' first|apply Ya|exact pcM|(simp at qah410 qbh410 qch410 ⊢;omega)|(simp at qah410 qbh410 qch410 qlh410 ⊢;omega)|(simp;done)|(simp at qah412 qbh412 qch412 ⊢;omega)|(simp at qah412 qbh412 qch412 qlh412 ⊢;have qz:=Xae h413;omega)|(refine X1n h420 rfl ?_;first|(simp<;>omega)|(simp[hc,h403,h413,h418]<;>omega))|(refine X0h h420 (by decide) ?_;first|(simp<;>omega)|(simp[hc,h403,h413,h418]<;>omega))|exact(X2t (f:=X7) qh410)|(refine X1n h422 rfl ?_;first|(simp<;>omega)|(simp[hc,h403,h413,h418]<;>omega))|(refine X0h h422 (by decide) ?_;first|(simp<;>omega)|(simp[hc,h403,h413,h418]<;>omega))|exact X04) ?_;intro h;exact wkT [(0,8),(1,6)] (ih (k+1) hx1 _ _ nbF nbF o h C0 C1)
     clear h;revert h417;refine brI (λh416=>?_) λh416=>?_
     ·
      intro h;obtain rfl:=oj h;exact X3 [Bt] (o:=Xjb) (k:=wkT [(3,17),(4,18)] (X0.glue J))
     intro h;obtain rfl:=oj h;exact X3 [Bf] (o:=Xjb) (k:=wkT [(3,17),(4,18)] (X0.glue J))
    refine rnI [.el (aI .i64 (Xj.length:Int)),.wrap,.via (.ref 1 0 (m409.length)),.el (aI .i64 (Xj.length:Int)),.wrap,.via (.ref 1 (Int.toNat (IntKind.i64.wrap ((Xj.length:Int) - v397.1))) (m411.length))] (o:=by repeat' first|apply Ya|exact pcM|(simp at qah410 qbh410 qch410 ⊢;omega)|(simp at qah410 qbh410 qch410 qlh410 ⊢;omega)|(simp;done)|(simp at qah412 qbh412 qch412 ⊢;omega)|(simp at qah412 qbh412 qch412 qlh412 ⊢;have qz:=X1q h413;omega)|(simp at qah412 qbh412 qch412 qlh412 ⊢;omega)|exact X04) ?_;intro h;refine X0.back (by intro id h;cases h) rfl ?_;revert h;refine brI (λh423=>?_) λh423=>?_
    ·
     refine rnI [.el (aI .i64 (m411.length:Int))] (o:=Xly) ?_;intro h;refine X0.round ?_;revert h;refine bI λe424 h425=>?_;try have qh425:=Xi h425
     refine rnI [Bt,.el (X7 e424),.ld (X7 e424),Bt,.wrap,.wrap] (o:=by repeat' first|apply Ya|exact pcM|(simp at qah410 qbh410 qch410 ⊢;omega)|(simp at qah410 qbh410 qch410 qlh410 ⊢;omega)|(simp;done)|(simp at qah412 qbh412 qch412 ⊢;omega)|(simp at qah412 qbh412 qch412 qlh412 ⊢;have qz:=X1q h413;omega)|(simp at qah412 qbh412 qch412 qlh412 ⊢;omega)|(have hp:=eq_of_beq h423;simp[hp];done)|(have hp:=eq_of_beq h423;simp at hp ⊢;omega)|(have hp:=eq_of_beq h423;subst hp;decide +kernel)|exact(Xj8 (f:=X7) qh412 h425)|exact(Xi h425)|exact(Xaz h425)|exact X04) ?_;intro h;refine X0.round ?_;revert h;refine bI λX07g h429=>rnI [Bf] (o:=Xly) ?_;intro h;refine X0.join (s':=⟨fr [(4,AV.nils),(5,(AV.ref 1 0 (m409.length))),(7,(AV.ptr 2 0 0)),(11,(AV.ptr 3 0 0)),(12,(AV.ptr 4 0 0)),(15,(Lf (X64.map X2))),(16,(aI .i64 (X64.length:Int))),(17,(aI .i64 (k:Int)))],hp ([(1,Ob (Xj.map X7) 3),(2,Ob [(X2 x)] 5),(3,Ob [(X2 X07g)] 5),(4,Ob [(X7 (Xh.mk (k:Int) (IntKind.i64.wrap (1+e424.size)) (if (IntKind.i64.wrap (e424.depth+1))>1 then (IntKind.i64.wrap (e424.depth+1)) else 1)))] 3)]),5⟩) ?_ (λJ=>X0.cut ?_)
     ·
      revert h;refine brI (λh430=>?_) λh430=>?_
      ·
       exact λe=>X3 [Bt] (o:=Xly) (k:=wkT [] (C1 _  nbS (oj e).symm))
      refine bI λu431 h432=>bI λu433 h434=>rnI [Bf,.trunc 1 (m409.map X7),.no,.no] (o:=by repeat' first|apply Ya|exact pcM|(simp at qah410 qbh410 qch410 ⊢;omega)|(simp at qah410 qbh410 qch410 qlh410 ⊢;omega)|(simp;done)|(simp at qah412 qbh412 qch412 ⊢;omega)|(simp at qah412 qbh412 qch412 qlh412 ⊢;have qz:=X1q h413;omega)|(simp at qah412 qbh412 qch412 qlh412 ⊢;omega)|(have hp:=eq_of_beq h423;simp[hp];done)|(have hp:=eq_of_beq h423;simp at hp ⊢;omega)|(have hp:=eq_of_beq h423;subst hp;decide +kernel)|(refine X1n h432 rfl ?_;first|(simp<;>omega)|(simp[hc,h403,h413,h423,h430]<;>omega))|(refine X0h h432 (by decide) ?_;first|(simp<;>omega)|(simp[hc,h403,h413,h423,h430]<;>omega))|exact(X2t (f:=X7) qh410)|(refine X1n h434 rfl ?_;first|(simp<;>omega)|(simp[hc,h403,h413,h423,h430]<;>omega))|(refine X0h h434 (by decide) ?_;first|(simp<;>omega)|(simp[hc,h403,h413,h423,h430]<;>omega))|exact X04) ?_;intro h;exact wkT [(0,8),(1,6)] (ih (k+1) hx1 _ _ nbF nbF o h C0 C1)
     clear h;revert h429;refine brI (λh428=>?_) λh428=>?_
     ·
      intro h;obtain rfl:=oj h;exact X3 [Bt] (o:=Xly) (k:=wkT [(3,17),(4,18)] (X0.glue J))
     intro h;obtain rfl:=oj h;exact X3 [Bf] (o:=Xly) (k:=wkT [(3,17),(4,18)] (X0.glue J))
    refine brI (λh435=>?_) λh435=>?_
    ·
     refine rnI [.el (aI .i64 (m411.length:Int))] (o:=Xlx) ?_;intro h;refine X0.round ?_;revert h;refine bI λe436 h437=>?_;try have qh437:=Xi h437
     refine rnI [Bt,.el (X7 e436),.ld (X7 e436),Bt,.wrap,.wrap] (o:=by repeat' first|apply Ya|exact pcM|(simp at qah410 qbh410 qch410 ⊢;omega)|(simp at qah410 qbh410 qch410 qlh410 ⊢;omega)|(simp;done)|(simp at qah412 qbh412 qch412 ⊢;omega)|(simp at qah412 qbh412 qch412 qlh412 ⊢;have qz:=X1q h413;omega)|(simp at qah412 qbh412 qch412 qlh412 ⊢;omega)|(have hp:=eq_of_beq h435;simp[hp];done)|(have hp:=eq_of_beq h435;simp at hp ⊢;omega)|(have hp:=eq_of_beq h435;subst hp;decide +kernel)|exact(Xj8 (f:=X7) qh412 h437)|exact(Xi h437)|exact(Xaz h437)|exact X04) ?_;intro h;refine X0.round ?_;revert h;refine bI λe438 h439=>?_;try have qh439:=Xi h439
     refine rnI [Bt,.el (X7 e438),.ld (X7 e438),Bf,.wrap,.wrap] (o:=by repeat' first|apply Ya|exact pcM|(simp at qah410 qbh410 qch410 ⊢;omega)|(simp at qah410 qbh410 qch410 qlh410 ⊢;omega)|(simp;done)|(simp at qah412 qbh412 qch412 ⊢;omega)|(simp at qah412 qbh412 qch412 qlh412 ⊢;have qz:=X1q h413;omega)|(simp at qah412 qbh412 qch412 qlh412 ⊢;omega)|(have hp:=eq_of_beq h435;simp[hp];done)|(have hp:=eq_of_beq h435;simp at hp ⊢;omega)|(have hp:=eq_of_beq h435;subst hp;decide +kernel)|exact(Xj8 (f:=X7) qh412 h439)|exact(Xi h439)|exact(Xaz h439)|exact X04) ?_;intro h;refine X0.round ?_;revert h;refine bI λX07e h443=>rnI [Bf] (o:=Xlx) ?_;intro h;refine X0.join (s':=⟨fr [(4,AV.nils),(5,(AV.ref 1 0 (m409.length))),(7,(AV.ptr 2 0 0)),(11,(AV.ptr 3 0 0)),(12,(AV.ptr 4 0 0)),(15,(Lf (X64.map X2))),(16,(aI .i64 (X64.length:Int))),(17,(aI .i64 (k:Int)))],hp ([(1,Ob (Xj.map X7) 3),(2,Ob [(X2 x)] 5),(3,Ob [(X2 X07e)] 5),(4,Ob [(X7 (Xh.mk (k:Int) (IntKind.i64.wrap ((IntKind.i64.wrap (1+e436.size))+e438.size)) (if (IntKind.i64.wrap (e438.depth+1))>(if (IntKind.i64.wrap (e436.depth+1))>1 then (IntKind.i64.wrap (e436.depth+1)) else 1) then (IntKind.i64.wrap (e438.depth+1)) else (if (IntKind.i64.wrap (e436.depth+1))>1 then (IntKind.i64.wrap (e436.depth+1)) else 1))))] 3)]),5⟩) ?_ (λJ=>X0.cut ?_)
     ·
      revert h;refine brI (λh444=>?_) λh444=>?_
      ·
       exact λe=>X3 [Bt] (o:=Xlx) (k:=wkT [] (C1 _  nbS (oj e).symm))
      refine bI λu445 h446=>bI λu447 h448=>rnI [Bf,.trunc 1 (m409.map X7),.no,.no] (o:=by repeat' first|apply Ya|exact pcM|(simp at qah410 qbh410 qch410 ⊢;omega)|(simp at qah410 qbh410 qch410 qlh410 ⊢;omega)|(simp;done)|(simp at qah412 qbh412 qch412 ⊢;omega)|(simp at qah412 qbh412 qch412 qlh412 ⊢;have qz:=X1q h413;omega)|(simp at qah412 qbh412 qch412 qlh412 ⊢;omega)|(have hp:=eq_of_beq h435;simp[hp];done)|(have hp:=eq_of_beq h435;simp at hp ⊢;omega)|(have hp:=eq_of_beq h435;subst hp;decide +kernel)|(refine X1n h446 rfl ?_;first|(simp<;>omega)|(simp[hc,h403,h413,h423,h435,h444]<;>omega))|(refine X0h h446 (by decide) ?_;first|(simp<;>omega)|(simp[hc,h403,h413,h423,h435,h444]<;>omega))|exact(X2t (f:=X7) qh410)|(refine X1n h448 rfl ?_;first|(simp<;>omega)|(simp[hc,h403,h413,h423,h435,h444]<;>omega))|(refine X0h h448 (by decide) ?_;first|(simp<;>omega)|(simp[hc,h403,h413,h423,h435,h444]<;>omega))|exact X04) ?_;intro h;exact wkT [(0,8),(1,6)] (ih (k+1) hx1 _ _ nbF nbF o h C0 C1)
     clear h;revert h443;refine brI (λh442=>?_) λh442=>?_
     ·
      intro h;obtain rfl:=oj h;exact X3 [Bt] (o:=Xlx) (k:=wkT [(3,17),(4,18)] (X0.glue J))
     intro h;obtain rfl:=oj h;exact X3 [Bf] (o:=Xlx) (k:=wkT [(3,17),(4,18)] (X0.glue J))
    intro h;cases h
   clear h;revert h402;refine brI (λh401=>?_) λh401=>?_
   ·
    intro h;obtain rfl:=oj h;exact X3 [Gf,Gf,Gf,Gf] (k:=wkT [] (X0.glue J))
   intro h;obtain rfl:=oj h;exact X3 [Gt,Gt,Gt,.el (aI .i64 (Xj.length:Int)),Gt] (k:=wkT [] (X0.glue J))
  obtain rfl:=X0x rfl;refine X0.round ?_;revert h;refine bI λv449 h450=>bI λX07d h454=>rnI [Bt,.el (X2 x),.pure _ (AV.tup [(aI .i64 v449.1),(aI .i64 v449.2)]),.stop 6] ?_;intro h;refine X0.join (s':=⟨fr [(4,AV.nils),(5,AV.nils),(6,(aI .i64 (k:Int))),(7,(AV.ptr 2 0 0)),(8,(aI .i64 v449.1)),(15,(Lf (X64.map X2))),(16,(aI .i64 (X64.length:Int))),(17,(aI .i64 (k:Int))),(35,(aB X07d))],hp ([(2,Ob [(X2 x)] 5)]),3⟩) ?_ (λJ=>X0.cut ?_)
  ·
   revert h;refine brI (λh455=>λe=>X3 [Bt] (k:=wkT [] (C1 _  nbS (oj e).symm))) λh455=>rnI [Bf] ?_;intro h;refine X0.inline X9 X044 rfl rfl rfl rfl rfl trivial trivial rfl rfl ?_;revert h;refine bI λm461 h462=>?_;obtain⟨qah462,qbh462,qch462,qh462⟩:=X1l h462;obtain rfl:=X7y h462;refine bI λm463 h464=>?_;obtain⟨qah464,qbh464,qch464,qh464⟩:=X1l h464;obtain rfl:=X7y h464;refine brI (λh465=>?_) λh465=>?_
   ·
    refine rnI [.el (aI .i64 (List.length ([]:List Xh):Int)),.wrap,.el (aI .i64 (List.length ([]:List Xh):Int)),.wrap] (o:=Xja) ?_;intro h;refine X0.back (by intro id h;cases h) rfl ?_;refine X1f [] (o:=Xja) ?_;refine X0.round ?_;revert h;refine bI λX07c h469=>rnI [Bf] (o:=Xja) ?_;intro h;refine X0.join (s':=⟨fr [(4,AV.nils),(5,AV.nils),(7,(AV.ptr 2 0 0)),(11,(AV.ptr 3 0 0)),(12,(AV.ptr 4 0 0)),(15,(Lf (X64.map X2))),(16,(aI .i64 (X64.length:Int))),(17,(aI .i64 (k:Int)))],hp ([(2,Ob [(X2 x)] 5),(3,Ob [(X2 X07c)] 5),(4,Ob [(X7 (Xh.mk (k:Int) 1 1))] 3)]),5⟩) ?_ (λJ=>X0.cut ?_)
    ·
     revert h;refine brI (λh470=>?_) λh470=>?_
     ·
      exact λe=>X3 [Bt] (o:=Xja) (k:=wkT [] (C1 _  nbS (oj e).symm))
     refine bI λu471 h472=>bI λu473 h474=>rnI [Bf,.no,.no] (o:=by repeat' first|apply Ya|exact pcM|(simp at qah462 qbh462 qch462 ⊢;omega)|(simp at qah464 qbh464 qch464 ⊢;omega)|(refine X1n h472 rfl ?_;first|(simp<;>omega)|(simp[hc,h455,h465,h470]<;>omega))|(refine X0h h472 (by decide) ?_;first|(simp<;>omega)|(simp[hc,h455,h465,h470]<;>omega))|(refine X1n h474 rfl ?_;first|(simp<;>omega)|(simp[hc,h455,h465,h470]<;>omega))|(refine X0h h474 (by decide) ?_;first|(simp<;>omega)|(simp[hc,h455,h465,h470]<;>omega))|exact X04) ?_;intro h;exact wkT [(0,8),(1,6)] (ih (k+1) hx1 _ _ nbF nbF o h C0 C1)
    clear h;revert h469;refine brI (λh468=>?_) λh468=>?_
    ·
     intro h;obtain rfl:=oj h;exact X3 [Bt] (o:=Xja) (k:=wkT [(3,17),(4,18)] (X0.glue J))
    intro h;obtain rfl:=oj h;exact X3 [Bf] (o:=Xja) (k:=wkT [(3,17),(4,18)] (X0.glue J))
   intro h;exact absurd h465 (by simp)
  clear h;revert h454;refine brI (λh453=>?_) λh453=>?_
  ·
   intro h;obtain rfl:=oj h;exact X3 [Gf,Gf,Gf,Gf] (k:=wkT [] (X0.glue J))
  intro h;obtain rfl:=oj h;exact X3 [Gt,Gt,Gt,.el (aI .i64 (List.length ([]:List Xh):Int)),Gt] (k:=wkT [] (X0.glue J))
end Go.Av.Tryz