/- Printed by decomp.py: that the program computes the functions. -/
import Derived.Test.YtfdfgobnpnoomaaGreatDCert0Z
set_option linter.all false

namespace Go.Av.Tryz
open Go.Proofs Go.D
set_option maxRecDepth 10000
set_option maxHeartbeats 40000000
theorem Xjc {Q:X01->St->Mu->Prop} {μ:Mu} (X5u:(List X03)) (hl:X5u.length<=140737488355328):∀ (xs:List X03) (k:Nat) (hx:X5u.drop k=xs) (Xf:(List Xo)) (Xi:(List Xo)) (X08:Nb Xf) (Xm:Nb Xi) (o:X5y) (h:X22 X5u xs k Xf Xi=some o)
  (C0:∀ (Xg:(List Xo)) (X0r:(List Xo)) (Xl:Nb Xg) (X0t:Nb X0r),o=X5y.x0 Xg X0r->X2 Tryz.prog 105 0 Q (.exit (.exit 0)) [] ⟨fr [(4,(slE Xl.1 0 (Xg.map Xb))),(5,(slE X0t.1 1 (X0r.map Xb)))],hp ([]++opE Xl.1 0 3 (Xg.map Xb)++opE X0t.1 1 3 (X0r.map Xb)),2⟩ μ)
  (C1:∀ (X0d:(List Xo)) (X0b:Nb X0d),o=X5y.x1 X0d->X2 Tryz.prog 105 0 Q (.exit .ret) [] ⟨fr [(2,(slE X0b.1 0 (X0d.map Xb))),(3,(aB false))],hp ([]++opE X0b.1 0 3 (X0d.map Xb)),1⟩ μ),
  X2 Tryz.prog 105 0 Q (.loop (X30 0 (Xj Tryz.f175))) [] ⟨fr [(4,(slE X08.1 0 (Xf.map Xb))),(5,(slE Xm.1 1 (Xi.map Xb))),(15,(Lf (X5u.map X4))),(16,(aI .i64 (X5u.length:Int))),(17,(aI .i64 (k:Int)))],hp ([]++opE X08.1 0 3 (Xf.map Xb)++opE Xm.1 1 3 (Xi.map Xb)),2⟩ μ:=by
 intro xs
 induction xs with
 |nil =>
  intro k hx Xf Xi X08 Xm o h C0 C1
  have hk:=drop_nil hx
  have hc:decide ((k:Int)<(X5u.length:Int))=false:=Yf (by omega)
  rw[X22] at h
  rcases X08 with ⟨_|_,X1o⟩
  ·
   rcases Xm with ⟨_|_,X02⟩
   ·
    refine X2.round ?_
    revert h
    exact fun e=>X7 [Bf] (k:=wkT [] (C0 _ _  nbF nbF (oj e).symm))
   obtain rfl:=X02 rfl
   refine X2.round ?_
   revert h
   exact fun e=>X7 [Bf] (k:=wkT [] (C0 _ _  nbF nbS (oj e).symm))
  ·
   obtain rfl:=X1o rfl
   rcases Xm with ⟨_|_,X02⟩
   ·
    refine X2.round ?_
    revert h
    exact fun e=>X7 [Bf] (k:=wkT [] (C0 _ _  nbS nbF (oj e).symm))
   ·
    obtain rfl:=X02 rfl
    refine X2.round ?_
    revert h
    exact fun e=>X7 [Bf] (k:=wkT [] (C0 _ _  nbS nbS (oj e).symm))
 |cons x xs ih =>
  intro k hx Xf Xi X08 Xm o h C0 C1
  obtain⟨hk,hg,hx1⟩:=drop_cons hx
  have hc:decide ((k:Int)<(X5u.length:Int))=true:=Yt (by omega)
  rw[X22] at h
  rcases X08 with ⟨_|_,X1o⟩
  ·
   rcases Xm with ⟨_|_,X02⟩
   ·
    refine X2.round ?_
    revert h
    refine bI fun v318 h319=>bI fun Xsi h323=>rnI [Bt,.el (X4 x),.pure _ (AV.tup [(aI .i64 v318.1),(aI .i64 v318.2)]),.stop 6] ?_
    intro h
    refine X2.join (s':=⟨fr [(4,(AV.ref 0 0 (Xf.length))),(5,(AV.ref 1 0 (Xi.length))),(6,(aI .i64 (k:Int))),(7,(AV.ptr 2 0 0)),(8,(aI .i64 v318.1)),(15,(Lf (X5u.map X4))),(16,(aI .i64 (X5u.length:Int))),(17,(aI .i64 (k:Int))),(35,(aB Xsi))],hp ([(0,Ob (Xf.map Xb) 3),(1,Ob (Xi.map Xb) 3),(2,Ob [(X4 x)] 5)]),3⟩) ?_ (fun J=>X2.cut ?_)
    ·
     revert h
     refine brI (fun h324=>fun e=>X7 [Bt] (k:=wkT [] (C1 _  nbF (oj e).symm))) fun h324=>rnI [Bf] ?_
     intro h
     refine X2.inline X9 X03u rfl rfl rfl rfl rfl trivial trivial rfl rfl ?_
     revert h
     refine bI fun m331 h332=>?_
     obtain⟨qah332,qbh332,qch332,qh332⟩:=X3c h332
     have qlh332:=X7a h332
     refine bI fun m333 h334=>?_
     obtain⟨qah334,qbh334,qch334,qh334⟩:=X3c h334
     have qlh334:=X7a h334
     refine brI (fun h335=>?_) fun h335=>?_
     ·
      refine rnI [.el (aI .i64 (Xi.length:Int)),.wrap,.via (.ref 1 0 (m331.length)),.el (aI .i64 (Xi.length:Int)),.wrap,.ne false] (o:=by repeat' first|apply Ya|exact pcM|(simp at qah332 qbh332 qch332 ⊢;omega)|(simp at qah332 qbh332 qch332 qlh332 ⊢;omega)|(simp;done)|(simp at qah334 qbh334 qch334 ⊢;omega)|(simp at qah334 qbh334 qch334 qlh334 ⊢;have qz:=X3d h335;omega)|exact X0k) ?_
      intro h
      refine X2.back (by intro id h;cases h) rfl ?_
      refine X10 [] (o:=by repeat' first|apply Ya|exact pcM|(simp at qah332 qbh332 qch332 ⊢;omega)|(simp at qah332 qbh332 qch332 qlh332 ⊢;omega)|(simp;done)|(simp at qah334 qbh334 qch334 ⊢;omega)|(simp at qah334 qbh334 qch334 qlh334 ⊢;have qz:=X3d h335;omega)|exact X0k) ?_
      refine X2.round ?_
      revert h
      refine bI fun Xsh h339=>rnI [Bf] (o:=by repeat' first|apply Ya|exact pcM|(simp at qah332 qbh332 qch332 ⊢;omega)|(simp at qah332 qbh332 qch332 qlh332 ⊢;omega)|(simp;done)|(simp at qah334 qbh334 qch334 ⊢;omega)|(simp at qah334 qbh334 qch334 qlh334 ⊢;have qz:=X3d h335;omega)|exact X0k) ?_
      intro h
      refine X2.join (s':=⟨fr [(4,(AV.ref 0 0 (Xf.length))),(5,(AV.ref 1 0 (m331.length))),(7,(AV.ptr 2 0 0)),(11,(AV.ptr 3 0 0)),(12,(AV.ptr 4 0 0)),(15,(Lf (X5u.map X4))),(16,(aI .i64 (X5u.length:Int))),(17,(aI .i64 (k:Int)))],hp ([(0,Ob (Xf.map Xb) 3),(1,Ob (Xi.map Xb) 3),(2,Ob [(X4 x)] 5),(3,Ob [(X4 Xsh)] 5),(4,Ob [(Xb (Xo.mk (k:Int) 1 1))] 3)]),5⟩) ?_ (fun J=>X2.cut ?_)
      ·
       revert h
       refine brI (fun h340=>?_) fun h340=>?_
       ·
        exact fun e=>X7 [Bt] (o:=by repeat' first|apply Ya|exact pcM|(simp at qah332 qbh332 qch332 ⊢;omega)|(simp at qah332 qbh332 qch332 qlh332 ⊢;omega)|(simp;done)|(simp at qah334 qbh334 qch334 ⊢;omega)|(simp at qah334 qbh334 qch334 qlh334 ⊢;have qz:=X3d h335;omega)|exact X0k) (k:=wkT [] (C1 _  nbF (oj e).symm))
       refine bI fun u341 h342=>bI fun u343 h344=>rnI [Bf,.trunc 1 (m331.map Xb),.no,.no] (o:=by repeat' first|apply Ya|exact pcM|(simp at qah332 qbh332 qch332 ⊢;omega)|(simp at qah332 qbh332 qch332 qlh332 ⊢;omega)|(simp;done)|(simp at qah334 qbh334 qch334 ⊢;omega)|(simp at qah334 qbh334 qch334 qlh334 ⊢;have qz:=X3d h335;omega)|(refine X0g h342 rfl ?_;first|(simp;done)|(simp;omega)|(simp[hc,h324,h335,h340];done)|(simp[hc,h324,h335,h340];omega))|(refine Xz h342 (by decide) ?_;first|(simp;done)|(simp;omega)|(simp[hc,h324,h335,h340];done)|(simp[hc,h324,h335,h340];omega))|exact(X9y (f:=Xb) qh332)|(refine X0g h344 rfl ?_;first|(simp;done)|(simp;omega)|(simp[hc,h324,h335,h340];done)|(simp[hc,h324,h335,h340];omega))|(refine Xz h344 (by decide) ?_;first|(simp;done)|(simp;omega)|(simp[hc,h324,h335,h340];done)|(simp[hc,h324,h335,h340];omega))|exact X0k) ?_
       intro h
       exact wkT [(0,8),(1,6)] (ih (k+1) hx1 _ _ nbF nbF o h C0 C1)
      clear h;revert h339
      refine brI (fun h338=>?_) fun h338=>?_
      ·
       intro h
       obtain rfl:=oj h
       exact X7 [Bt] (o:=by repeat' first|apply Ya|exact pcM|(simp at qah332 qbh332 qch332 ⊢;omega)|(simp at qah332 qbh332 qch332 qlh332 ⊢;omega)|(simp;done)|(simp at qah334 qbh334 qch334 ⊢;omega)|(simp at qah334 qbh334 qch334 qlh334 ⊢;have qz:=X3d h335;omega)|exact X0k) (k:=wkT [(3,17),(4,18)] (X2.glue J))
      intro h
      obtain rfl:=oj h
      exact X7 [Bf] (o:=by repeat' first|apply Ya|exact pcM|(simp at qah332 qbh332 qch332 ⊢;omega)|(simp at qah332 qbh332 qch332 qlh332 ⊢;omega)|(simp;done)|(simp at qah334 qbh334 qch334 ⊢;omega)|(simp at qah334 qbh334 qch334 qlh334 ⊢;have qz:=X3d h335;omega)|exact X0k) (k:=wkT [(3,17),(4,18)] (X2.glue J))
     refine rnI [.el (aI .i64 (Xi.length:Int)),.wrap,.via (.ref 1 0 (m331.length)),.el (aI .i64 (Xi.length:Int)),.wrap,.via (.ref 1 (Int.toNat (IntKind.i64.wrap ((Xi.length:Int) - v318.1))) (m333.length))] (o:=by repeat' first|apply Ya|exact pcM|(simp at qah332 qbh332 qch332 ⊢;omega)|(simp at qah332 qbh332 qch332 qlh332 ⊢;omega)|(simp;done)|(simp at qah334 qbh334 qch334 ⊢;omega)|(simp at qah334 qbh334 qch334 qlh334 ⊢;have qz:=X12 h335;omega)|(simp at qah334 qbh334 qch334 qlh334 ⊢;omega)|exact X0k) ?_
     intro h
     refine X2.back (by intro id h;cases h) rfl ?_
     revert h
     refine brI (fun h345=>?_) fun h345=>?_
     ·
      refine rnI [.el (aI .i64 (m333.length:Int))] (o:=by repeat' first|apply Ya|exact pcM|(simp at qah332 qbh332 qch332 ⊢;omega)|(simp at qah332 qbh332 qch332 qlh332 ⊢;omega)|(simp;done)|(simp at qah334 qbh334 qch334 ⊢;omega)|(simp at qah334 qbh334 qch334 qlh334 ⊢;have qz:=X12 h335;omega)|(simp at qah334 qbh334 qch334 qlh334 ⊢;omega)|(have hp:=eq_of_beq h345;simp[hp];done)|(have hp:=eq_of_beq h345;simp at hp ⊢;omega)|(have hp:=eq_of_beq h345;subst hp;decide +kernel)|exact X0k) ?_
      intro h
      refine X2.round ?_
      revert h
      refine bI fun e346 h347=>?_
      try have qh347:=Xv h347
      refine rnI [Bt,.el (Xb e346),.ld (Xb e346),Bt,.wrap,.wrap] (o:=by repeat' first|apply Ya|exact pcM|(simp at qah332 qbh332 qch332 ⊢;omega)|(simp at qah332 qbh332 qch332 qlh332 ⊢;omega)|(simp;done)|(simp at qah334 qbh334 qch334 ⊢;omega)|(simp at qah334 qbh334 qch334 qlh334 ⊢;have qz:=X12 h335;omega)|(simp at qah334 qbh334 qch334 qlh334 ⊢;omega)|(have hp:=eq_of_beq h345;simp[hp];done)|(have hp:=eq_of_beq h345;simp at hp ⊢;omega)|(have hp:=eq_of_beq h345;subst hp;decide +kernel)|exact(Xhx (f:=Xb) qh334 h347)|exact(Xv h347)|exact(X8z h347)|exact X0k) ?_
      intro h
      refine X2.round ?_
      revert h
      refine bI fun Xsg h351=>rnI [Bf] (o:=by repeat' first|apply Ya|exact pcM|(simp at qah332 qbh332 qch332 ⊢;omega)|(simp at qah332 qbh332 qch332 qlh332 ⊢;omega)|(simp;done)|(simp at qah334 qbh334 qch334 ⊢;omega)|(simp at qah334 qbh334 qch334 qlh334 ⊢;have qz:=X12 h335;omega)|(simp at qah334 qbh334 qch334 qlh334 ⊢;omega)|(have hp:=eq_of_beq h345;simp[hp];done)|(have hp:=eq_of_beq h345;simp at hp ⊢;omega)|(have hp:=eq_of_beq h345;subst hp;decide +kernel)|exact X0k) ?_
      intro h
      refine X2.join (s':=⟨fr [(4,(AV.ref 0 0 (Xf.length))),(5,(AV.ref 1 0 (m331.length))),(7,(AV.ptr 2 0 0)),(11,(AV.ptr 3 0 0)),(12,(AV.ptr 4 0 0)),(15,(Lf (X5u.map X4))),(16,(aI .i64 (X5u.length:Int))),(17,(aI .i64 (k:Int)))],hp ([(0,Ob (Xf.map Xb) 3),(1,Ob (Xi.map Xb) 3),(2,Ob [(X4 x)] 5),(3,Ob [(X4 Xsg)] 5),(4,Ob [(Xb (Xo.mk (k:Int) (IntKind.i64.wrap (1+e346.size)) (if (IntKind.i64.wrap (e346.depth+1))>1 then (IntKind.i64.wrap (e346.depth+1)) else 1)))] 3)]),5⟩) ?_ (fun J=>X2.cut ?_)
      ·
       revert h
       refine brI (fun h352=>?_) fun h352=>?_
       ·
        exact fun e=>X7 [Bt] (o:=by repeat' first|apply Ya|exact pcM|(simp at qah332 qbh332 qch332 ⊢;omega)|(simp at qah332 qbh332 qch332 qlh332 ⊢;omega)|(simp;done)|(simp at qah334 qbh334 qch334 ⊢;omega)|(simp at qah334 qbh334 qch334 qlh334 ⊢;have qz:=X12 h335;omega)|(simp at qah334 qbh334 qch334 qlh334 ⊢;omega)|(have hp:=eq_of_beq h345;simp[hp];done)|(have hp:=eq_of_beq h345;simp at hp ⊢;omega)|(have hp:=eq_of_beq h345;subst hp;decide +kernel)|exact X0k) (k:=wkT [] (C1 _  nbF (oj e).symm))
       refine bI fun u353 h354=>bI fun u355 h356=>rnI [Bf,.trunc 1 (m331.map Xb),.no,.no] (o:=by repeat' first|apply Ya|exact pcM|(simp at qah332 qbh332 qch332 ⊢;omega)|(simp at qah332 qbh332 qch332 qlh332 ⊢;omega)|(simp;done)|(simp at qah334 qbh334 qch334 ⊢;omega)|(simp at qah334 qbh334 qch334 qlh334 ⊢;have qz:=X12 h335;omega)|(simp at qah334 qbh334 qch334 qlh334 ⊢;omega)|(have hp:=eq_of_beq h345;simp[hp];done)|(have hp:=eq_of_beq h345;simp at hp ⊢;omega)|(have hp:=eq_of_beq h345;subst hp;decide +kernel)|(refine X0g h354 rfl ?_;first|(simp;done)|(simp;omega)|(simp[hc,h324,h335,h345,h352];done)|(simp[hc,h324,h335,h345,h352];omega))|(refine Xz h354 (by decide) ?_;first|(simp;done)|(simp;omega)|(simp[hc,h324,h335,h345,h352];done)|(simp[hc,h324,h335,h345,h352];omega))|exact(X9y (f:=Xb) qh332)|(refine X0g h356 rfl ?_;first|(simp;done)|(simp;omega)|(simp[hc,h324,h335,h345,h352];done)|(simp[hc,h324,h335,h345,h352];omega))|(refine Xz h356 (by decide) ?_;first|(simp;done)|(simp;omega)|(simp[hc,h324,h335,h345,h352];done)|(simp[hc,h324,h335,h345,h352];omega))|exact X0k) ?_
       intro h
       exact wkT [(0,8),(1,6)] (ih (k+1) hx1 _ _ nbF nbF o h C0 C1)
      clear h;revert h351
      refine brI (fun h350=>?_) fun h350=>?_
      ·
       intro h
       obtain rfl:=oj h
       exact X7 [Bt] (o:=by repeat' first|apply Ya|exact pcM|(simp at qah332 qbh332 qch332 ⊢;omega)|(simp at qah332 qbh332 qch332 qlh332 ⊢;omega)|(simp;done)|(simp at qah334 qbh334 qch334 ⊢;omega)|(simp at qah334 qbh334 qch334 qlh334 ⊢;have qz:=X12 h335;omega)|(simp at qah334 qbh334 qch334 qlh334 ⊢;omega)|(have hp:=eq_of_beq h345;simp[hp];done)|(have hp:=eq_of_beq h345;simp at hp ⊢;omega)|(have hp:=eq_of_beq h345;subst hp;decide +kernel)|exact X0k) (k:=wkT [(3,17),(4,18)] (X2.glue J))
      intro h
      obtain rfl:=oj h
      exact X7 [Bf] (o:=by repeat' first|apply Ya|exact pcM|(simp at qah332 qbh332 qch332 ⊢;omega)|(simp at qah332 qbh332 qch332 qlh332 ⊢;omega)|(simp;done)|(simp at qah334 qbh334 qch334 ⊢;omega)|(simp at qah334 qbh334 qch334 qlh334 ⊢;have qz:=X12 h335;omega)|(simp at qah334 qbh334 qch334 qlh334 ⊢;omega)|(have hp:=eq_of_beq h345;simp[hp];done)|(have hp:=eq_of_beq h345;simp at hp ⊢;omega)|(have hp:=eq_of_beq h345;subst hp;decide +kernel)|exact X0k) (k:=wkT [(3,17),(4,18)] (X2.glue J))
     refine brI (fun h357=>?_) fun h357=>?_
     ·
      refine rnI [.el (aI .i64 (m333.length:Int))] (o:=by repeat' first|apply Ya|exact pcM|(simp at qah332 qbh332 qch332 ⊢;omega)|(simp at qah332 qbh332 qch332 qlh332 ⊢;omega)|(simp;done)|(simp at qah334 qbh334 qch334 ⊢;omega)|(simp at qah334 qbh334 qch334 qlh334 ⊢;have qz:=X12 h335;omega)|(simp at qah334 qbh334 qch334 qlh334 ⊢;omega)|(have hp:=eq_of_beq h357;simp[hp];done)|(have hp:=eq_of_beq h357;simp at hp ⊢;omega)|(have hp:=eq_of_beq h357;subst hp;decide +kernel)|exact X0k) ?_
      intro h
      refine X2.round ?_
      revert h
      refine bI fun e358 h359=>?_
      try have qh359:=Xv h359
      refine rnI [Bt,.el (Xb e358),.ld (Xb e358),Bt,.wrap,.wrap] (o:=by repeat' first|apply Ya|exact pcM|(simp at qah332 qbh332 qch332 ⊢;omega)|(simp at qah332 qbh332 qch332 qlh332 ⊢;omega)|(simp;done)|(simp at qah334 qbh334 qch334 ⊢;omega)|(simp at qah334 qbh334 qch334 qlh334 ⊢;have qz:=X12 h335;omega)|(simp at qah334 qbh334 qch334 qlh334 ⊢;omega)|(have hp:=eq_of_beq h357;simp[hp];done)|(have hp:=eq_of_beq h357;simp at hp ⊢;omega)|(have hp:=eq_of_beq h357;subst hp;decide +kernel)|exact(Xhx (f:=Xb) qh334 h359)|exact(Xv h359)|exact(X8z h359)|exact X0k) ?_
      intro h
      refine X2.round ?_
      revert h
      refine bI fun e360 h361=>?_
      try have qh361:=Xv h361
      refine rnI [Bt,.el (Xb e360),.ld (Xb e360),Bf,.wrap,.wrap] (o:=by repeat' first|apply Ya|exact pcM|(simp at qah332 qbh332 qch332 ⊢;omega)|(simp at qah332 qbh332 qch332 qlh332 ⊢;omega)|(simp;done)|(simp at qah334 qbh334 qch334 ⊢;omega)|(simp at qah334 qbh334 qch334 qlh334 ⊢;have qz:=X12 h335;omega)|(simp at qah334 qbh334 qch334 qlh334 ⊢;omega)|(have hp:=eq_of_beq h357;simp[hp];done)|(have hp:=eq_of_beq h357;simp at hp ⊢;omega)|(have hp:=eq_of_beq h357;subst hp;decide +kernel)|exact(Xhx (f:=Xb) qh334 h361)|exact(Xv h361)|exact(X8z h361)|exact X0k) ?_
      intro h
      refine X2.round ?_
      revert h
      refine bI fun Xsf h365=>rnI [Bf] (o:=by repeat' first|apply Ya|exact pcM|(simp at qah332 qbh332 qch332 ⊢;omega)|(simp at qah332 qbh332 qch332 qlh332 ⊢;omega)|(simp;done)|(simp at qah334 qbh334 qch334 ⊢;omega)|(simp at qah334 qbh334 qch334 qlh334 ⊢;have qz:=X12 h335;omega)|(simp at qah334 qbh334 qch334 qlh334 ⊢;omega)|(have hp:=eq_of_beq h357;simp[hp];done)|(have hp:=eq_of_beq h357;simp at hp ⊢;omega)|(have hp:=eq_of_beq h357;subst hp;decide +kernel)|exact X0k) ?_
      intro h
      refine X2.join (s':=⟨fr [(4,(AV.ref 0 0 (Xf.length))),(5,(AV.ref 1 0 (m331.length))),(7,(AV.ptr 2 0 0)),(11,(AV.ptr 3 0 0)),(12,(AV.ptr 4 0 0)),(15,(Lf (X5u.map X4))),(16,(aI .i64 (X5u.length:Int))),(17,(aI .i64 (k:Int)))],hp ([(0,Ob (Xf.map Xb) 3),(1,Ob (Xi.map Xb) 3),(2,Ob [(X4 x)] 5),(3,Ob [(X4 Xsf)] 5),(4,Ob [(Xb (Xo.mk (k:Int) (IntKind.i64.wrap ((IntKind.i64.wrap (1+e358.size))+e360.size)) (if (IntKind.i64.wrap (e360.depth+1))>(if (IntKind.i64.wrap (e358.depth+1))>1 then (IntKind.i64.wrap (e358.depth+1)) else 1) then (IntKind.i64.wrap (e360.depth+1)) else (if (IntKind.i64.wrap (e358.depth+1))>1 then (IntKind.i64.wrap (e358.depth+1)) else 1))))] 3)]),5⟩) ?_ (fun J=>X2.cut ?_)
      ·
       revert h
       refine brI (fun h366=>?_) fun h366=>?_
       ·
        exact fun e=>X7 [Bt] (o:=by repeat' first|apply Ya|exact pcM|(simp at qah332 qbh332 qch332 ⊢;omega)|(simp at qah332 qbh332 qch332 qlh332 ⊢;omega)|(simp;done)|(simp at qah334 qbh334 qch334 ⊢;omega)|(simp at qah334 qbh334 qch334 qlh334 ⊢;have qz:=X12 h335;omega)|(simp at qah334 qbh334 qch334 qlh334 ⊢;omega)|(have hp:=eq_of_beq h357;simp[hp];done)|(have hp:=eq_of_beq h357;simp at hp ⊢;omega)|(have hp:=eq_of_beq h357;subst hp;decide +kernel)|exact X0k) (k:=wkT [] (C1 _  nbF (oj e).symm))
       refine bI fun u367 h368=>bI fun u369 h370=>rnI [Bf,.trunc 1 (m331.map Xb),.no,.no] (o:=by repeat' first|apply Ya|exact pcM|(simp at qah332 qbh332 qch332 ⊢;omega)|(simp at qah332 qbh332 qch332 qlh332 ⊢;omega)|(simp;done)|(simp at qah334 qbh334 qch334 ⊢;omega)|(simp at qah334 qbh334 qch334 qlh334 ⊢;have qz:=X12 h335;omega)|(simp at qah334 qbh334 qch334 qlh334 ⊢;omega)|(have hp:=eq_of_beq h357;simp[hp];done)|(have hp:=eq_of_beq h357;simp at hp ⊢;omega)|(have hp:=eq_of_beq h357;subst hp;decide +kernel)|(refine X0g h368 rfl ?_;first|(simp;done)|(simp;omega)|(simp[hc,h324,h335,h345,h357,h366];done)|(simp[hc,h324,h335,h345,h357,h366];omega))|(refine Xz h368 (by decide) ?_;first|(simp;done)|(simp;omega)|(simp[hc,h324,h335,h345,h357,h366];done)|(simp[hc,h324,h335,h345,h357,h366];omega))|exact(X9y (f:=Xb) qh332)|(refine X0g h370 rfl ?_;first|(simp;done)|(simp;omega)|(simp[hc,h324,h335,h345,h357,h366];done)|(simp[hc,h324,h335,h345,h357,h366];omega))|(refine Xz h370 (by decide) ?_;first|(simp;done)|(simp;omega)|(simp[hc,h324,h335,h345,h357,h366];done)|(simp[hc,h324,h335,h345,h357,h366];omega))|exact X0k) ?_
       intro h
       exact wkT [(0,8),(1,6)] (ih (k+1) hx1 _ _ nbF nbF o h C0 C1)
      clear h;revert h365
      refine brI (fun h364=>?_) fun h364=>?_
      ·
       intro h
       obtain rfl:=oj h
       exact X7 [Bt] (o:=by repeat' first|apply Ya|exact pcM|(simp at qah332 qbh332 qch332 ⊢;omega)|(simp at qah332 qbh332 qch332 qlh332 ⊢;omega)|(simp;done)|(simp at qah334 qbh334 qch334 ⊢;omega)|(simp at qah334 qbh334 qch334 qlh334 ⊢;have qz:=X12 h335;omega)|(simp at qah334 qbh334 qch334 qlh334 ⊢;omega)|(have hp:=eq_of_beq h357;simp[hp];done)|(have hp:=eq_of_beq h357;simp at hp ⊢;omega)|(have hp:=eq_of_beq h357;subst hp;decide +kernel)|exact X0k) (k:=wkT [(3,17),(4,18)] (X2.glue J))
      intro h
      obtain rfl:=oj h
      exact X7 [Bf] (o:=by repeat' first|apply Ya|exact pcM|(simp at qah332 qbh332 qch332 ⊢;omega)|(simp at qah332 qbh332 qch332 qlh332 ⊢;omega)|(simp;done)|(simp at qah334 qbh334 qch334 ⊢;omega)|(simp at qah334 qbh334 qch334 qlh334 ⊢;have qz:=X12 h335;omega)|(simp at qah334 qbh334 qch334 qlh334 ⊢;omega)|(have hp:=eq_of_beq h357;simp[hp];done)|(have hp:=eq_of_beq h357;simp at hp ⊢;omega)|(have hp:=eq_of_beq h357;subst hp;decide +kernel)|exact X0k) (k:=wkT [(3,17),(4,18)] (X2.glue J))
     intro h
     cases h
    clear h;revert h323
    refine brI (fun h322=>?_) fun h322=>?_
    ·
     intro h
     obtain rfl:=oj h
     exact X7 [.go false,.go false,.go false,.go false] (k:=wkT [] (X2.glue J))
    intro h
    obtain rfl:=oj h
    exact X7 [.go true,.go true,.go true,.el (aI .i64 (Xi.length:Int)),.go true] (k:=wkT [] (X2.glue J))
   obtain rfl:=X02 rfl
   refine X2.round ?_
   revert h
   refine bI fun v371 h372=>bI fun X073 h376=>rnI [Bt,.el (X4 x),.pure _ (AV.tup [(aI .i64 v371.1),(aI .i64 v371.2)]),.stop 6] ?_
   intro h
   refine X2.join (s':=⟨fr [(4,(AV.ref 0 0 (Xf.length))),(5,AV.nils),(6,(aI .i64 (k:Int))),(7,(AV.ptr 2 0 0)),(8,(aI .i64 v371.1)),(15,(Lf (X5u.map X4))),(16,(aI .i64 (X5u.length:Int))),(17,(aI .i64 (k:Int))),(35,(aB X073))],hp ([(0,Ob (Xf.map Xb) 3),(2,Ob [(X4 x)] 5)]),3⟩) ?_ (fun J=>X2.cut ?_)
   ·
    revert h
    refine brI (fun h377=>fun e=>X7 [Bt] (k:=wkT [] (C1 _  nbF (oj e).symm))) fun h377=>rnI [Bf] ?_
    intro h
    refine X2.inline X9 X03u rfl rfl rfl rfl rfl trivial trivial rfl rfl ?_
    revert h
    refine bI fun m383 h384=>?_
    obtain⟨qah384,qbh384,qch384,qh384⟩:=X3c h384
    obtain rfl:=X9t h384
    refine bI fun m385 h386=>?_
    obtain⟨qah386,qbh386,qch386,qh386⟩:=X3c h386
    obtain rfl:=X9t h386
    refine brI (fun h387=>?_) fun h387=>?_
    ·
     refine rnI [.el (aI .i64 (List.length ([]:List Xo):Int)),.wrap,.el (aI .i64 (List.length ([]:List Xo):Int)),.wrap] (o:=by repeat' first|apply Ya|exact pcM|(simp at qah384 qbh384 qch384 ⊢;omega)|(simp at qah386 qbh386 qch386 ⊢;omega)|exact X0k) ?_
     intro h
     refine X2.back (by intro id h;cases h) rfl ?_
     refine X10 [] (o:=by repeat' first|apply Ya|exact pcM|(simp at qah384 qbh384 qch384 ⊢;omega)|(simp at qah386 qbh386 qch386 ⊢;omega)|exact X0k) ?_
     refine X2.round ?_
     revert h
     refine bI fun X072 h391=>rnI [Bf] (o:=by repeat' first|apply Ya|exact pcM|(simp at qah384 qbh384 qch384 ⊢;omega)|(simp at qah386 qbh386 qch386 ⊢;omega)|exact X0k) ?_
     intro h
     refine X2.join (s':=⟨fr [(4,(AV.ref 0 0 (Xf.length))),(5,AV.nils),(7,(AV.ptr 2 0 0)),(11,(AV.ptr 3 0 0)),(12,(AV.ptr 4 0 0)),(15,(Lf (X5u.map X4))),(16,(aI .i64 (X5u.length:Int))),(17,(aI .i64 (k:Int)))],hp ([(0,Ob (Xf.map Xb) 3),(2,Ob [(X4 x)] 5),(3,Ob [(X4 X072)] 5),(4,Ob [(Xb (Xo.mk (k:Int) 1 1))] 3)]),5⟩) ?_ (fun J=>X2.cut ?_)
     ·
      revert h
      refine brI (fun h392=>?_) fun h392=>?_
      ·
       exact fun e=>X7 [Bt] (o:=by repeat' first|apply Ya|exact pcM|(simp at qah384 qbh384 qch384 ⊢;omega)|(simp at qah386 qbh386 qch386 ⊢;omega)|exact X0k) (k:=wkT [] (C1 _  nbF (oj e).symm))
      refine bI fun u393 h394=>bI fun u395 h396=>rnI [Bf,.no,.no] (o:=by repeat' first|apply Ya|exact pcM|(simp at qah384 qbh384 qch384 ⊢;omega)|(simp at qah386 qbh386 qch386 ⊢;omega)|(refine X0g h394 rfl ?_;first|(simp;done)|(simp;omega)|(simp[hc,h377,h387,h392];done)|(simp[hc,h377,h387,h392];omega))|(refine Xz h394 (by decide) ?_;first|(simp;done)|(simp;omega)|(simp[hc,h377,h387,h392];done)|(simp[hc,h377,h387,h392];omega))|(refine X0g h396 rfl ?_;first|(simp;done)|(simp;omega)|(simp[hc,h377,h387,h392];done)|(simp[hc,h377,h387,h392];omega))|(refine Xz h396 (by decide) ?_;first|(simp;done)|(simp;omega)|(simp[hc,h377,h387,h392];done)|(simp[hc,h377,h387,h392];omega))|exact X0k) ?_
      intro h
      exact wkT [(0,8),(1,6)] (ih (k+1) hx1 _ _ nbF nbF o h C0 C1)
     clear h;revert h391
     refine brI (fun h390=>?_) fun h390=>?_
     ·
      intro h
      obtain rfl:=oj h
      exact X7 [Bt] (o:=by repeat' first|apply Ya|exact pcM|(simp at qah384 qbh384 qch384 ⊢;omega)|(simp at qah386 qbh386 qch386 ⊢;omega)|exact X0k) (k:=wkT [(3,17),(4,18)] (X2.glue J))
     intro h
     obtain rfl:=oj h
     exact X7 [Bf] (o:=by repeat' first|apply Ya|exact pcM|(simp at qah384 qbh384 qch384 ⊢;omega)|(simp at qah386 qbh386 qch386 ⊢;omega)|exact X0k) (k:=wkT [(3,17),(4,18)] (X2.glue J))
    intro h
    exact absurd h387 (by simp)
   clear h;revert h376
   refine brI (fun h375=>?_) fun h375=>?_
   ·
    intro h
    obtain rfl:=oj h
    exact X7 [.go false,.go false,.go false,.go false] (k:=wkT [] (X2.glue J))
   intro h
   obtain rfl:=oj h
   exact X7 [.go true,.go true,.go true,.el (aI .i64 (List.length ([]:List Xo):Int)),.go true] (k:=wkT [] (X2.glue J))
  obtain rfl:=X1o rfl
  rcases Xm with ⟨_|_,X02⟩
  ·
   refine X2.round ?_
   revert h
   refine bI fun v397 h398=>bI fun X070 h402=>rnI [Bt,.el (X4 x),.pure _ (AV.tup [(aI .i64 v397.1),(aI .i64 v397.2)]),.stop 6] ?_
   intro h
   refine X2.join (s':=⟨fr [(4,AV.nils),(5,(AV.ref 1 0 (Xi.length))),(6,(aI .i64 (k:Int))),(7,(AV.ptr 2 0 0)),(8,(aI .i64 v397.1)),(15,(Lf (X5u.map X4))),(16,(aI .i64 (X5u.length:Int))),(17,(aI .i64 (k:Int))),(35,(aB X070))],hp ([(1,Ob (Xi.map Xb) 3),(2,Ob [(X4 x)] 5)]),3⟩) ?_ (fun J=>X2.cut ?_)
   ·
    revert h
    refine brI (fun h403=>fun e=>X7 [Bt] (k:=wkT [] (C1 _  nbS (oj e).symm))) fun h403=>rnI [Bf] ?_
    intro h
    refine X2.inline X9 X03u rfl rfl rfl rfl rfl trivial trivial rfl rfl ?_
    revert h
    refine bI fun m409 h410=>?_
    obtain⟨qah410,qbh410,qch410,qh410⟩:=X3c h410
    have qlh410:=X7a h410
    refine bI fun m411 h412=>?_
    obtain⟨qah412,qbh412,qch412,qh412⟩:=X3c h412
    have qlh412:=X7a h412
    refine brI (fun h413=>?_) fun h413=>?_
    ·
     refine rnI [.el (aI .i64 (Xi.length:Int)),.wrap,.via (.ref 1 0 (m409.length)),.el (aI .i64 (Xi.length:Int)),.wrap,.ne false] (o:=by repeat' first|apply Ya|exact pcM|(simp at qah410 qbh410 qch410 ⊢;omega)|(simp at qah410 qbh410 qch410 qlh410 ⊢;omega)|(simp;done)|(simp at qah412 qbh412 qch412 ⊢;omega)|(simp at qah412 qbh412 qch412 qlh412 ⊢;have qz:=X3d h413;omega)|exact X0k) ?_
     intro h
     refine X2.back (by intro id h;cases h) rfl ?_
     refine X10 [] (o:=by repeat' first|apply Ya|exact pcM|(simp at qah410 qbh410 qch410 ⊢;omega)|(simp at qah410 qbh410 qch410 qlh410 ⊢;omega)|(simp;done)|(simp at qah412 qbh412 qch412 ⊢;omega)|(simp at qah412 qbh412 qch412 qlh412 ⊢;have qz:=X3d h413;omega)|exact X0k) ?_
     refine X2.round ?_
     revert h
     refine bI fun X06z h417=>rnI [Bf] (o:=by repeat' first|apply Ya|exact pcM|(simp at qah410 qbh410 qch410 ⊢;omega)|(simp at qah410 qbh410 qch410 qlh410 ⊢;omega)|(simp;done)|(simp at qah412 qbh412 qch412 ⊢;omega)|(simp at qah412 qbh412 qch412 qlh412 ⊢;have qz:=X3d h413;omega)|exact X0k) ?_
     intro h
     refine X2.join (s':=⟨fr [(4,AV.nils),(5,(AV.ref 1 0 (m409.length))),(7,(AV.ptr 2 0 0)),(11,(AV.ptr 3 0 0)),(12,(AV.ptr 4 0 0)),(15,(Lf (X5u.map X4))),(16,(aI .i64 (X5u.length:Int))),(17,(aI .i64 (k:Int)))],hp ([(1,Ob (Xi.map Xb) 3),(2,Ob [(X4 x)] 5),(3,Ob [(X4 X06z)] 5),(4,Ob [(Xb (Xo.mk (k:Int) 1 1))] 3)]),5⟩) ?_ (fun J=>X2.cut ?_)
     ·
      revert h
      refine brI (fun h418=>?_) fun h418=>?_
      ·
       exact fun e=>X7 [Bt] (o:=by repeat' first|apply Ya|exact pcM|(simp at qah410 qbh410 qch410 ⊢;omega)|(simp at qah410 qbh410 qch410 qlh410 ⊢;omega)|(simp;done)|(simp at qah412 qbh412 qch412 ⊢;omega)|(simp at qah412 qbh412 qch412 qlh412 ⊢;have qz:=X3d h413;omega)|exact X0k) (k:=wkT [] (C1 _  nbS (oj e).symm))
      refine bI fun u419 h420=>bI fun u421 h422=>rnI [Bf,.trunc 1 (m409.map Xb),.no,.no] (o:=by repeat' first|apply Ya|exact pcM|(simp at qah410 qbh410 qch410 ⊢;omega)|(simp at qah410 qbh410 qch410 qlh410 ⊢;omega)|(simp;done)|(simp at qah412 qbh412 qch412 ⊢;omega)|(simp at qah412 qbh412 qch412 qlh412 ⊢;have qz:=X3d h413;omega)|(refine X0g h420 rfl ?_;first|(simp;done)|(simp;omega)|(simp[hc,h403,h413,h418];done)|(simp[hc,h403,h413,h418];omega))|(refine Xz h420 (by decide) ?_;first|(simp;done)|(simp;omega)|(simp[hc,h403,h413,h418];done)|(simp[hc,h403,h413,h418];omega))|exact(X9y (f:=Xb) qh410)|(refine X0g h422 rfl ?_;first|(simp;done)|(simp;omega)|(simp[hc,h403,h413,h418];done)|(simp[hc,h403,h413,h418];omega))|(refine Xz h422 (by decide) ?_;first|(simp;done)|(simp;omega)|(simp[hc,h403,h413,h418];done)|(simp[hc,h403,h413,h418];omega))|exact X0k) ?_
      intro h
      exact wkT [(0,8),(1,6)] (ih (k+1) hx1 _ _ nbF nbF o h C0 C1)
     clear h;revert h417
     refine brI (fun h416=>?_) fun h416=>?_
     ·
      intro h
      obtain rfl:=oj h
      exact X7 [Bt] (o:=by repeat' first|apply Ya|exact pcM|(simp at qah410 qbh410 qch410 ⊢;omega)|(simp at qah410 qbh410 qch410 qlh410 ⊢;omega)|(simp;done)|(simp at qah412 qbh412 qch412 ⊢;omega)|(simp at qah412 qbh412 qch412 qlh412 ⊢;have qz:=X3d h413;omega)|exact X0k) (k:=wkT [(3,17),(4,18)] (X2.glue J))
     intro h
     obtain rfl:=oj h
     exact X7 [Bf] (o:=by repeat' first|apply Ya|exact pcM|(simp at qah410 qbh410 qch410 ⊢;omega)|(simp at qah410 qbh410 qch410 qlh410 ⊢;omega)|(simp;done)|(simp at qah412 qbh412 qch412 ⊢;omega)|(simp at qah412 qbh412 qch412 qlh412 ⊢;have qz:=X3d h413;omega)|exact X0k) (k:=wkT [(3,17),(4,18)] (X2.glue J))
    refine rnI [.el (aI .i64 (Xi.length:Int)),.wrap,.via (.ref 1 0 (m409.length)),.el (aI .i64 (Xi.length:Int)),.wrap,.via (.ref 1 (Int.toNat (IntKind.i64.wrap ((Xi.length:Int) - v397.1))) (m411.length))] (o:=by repeat' first|apply Ya|exact pcM|(simp at qah410 qbh410 qch410 ⊢;omega)|(simp at qah410 qbh410 qch410 qlh410 ⊢;omega)|(simp;done)|(simp at qah412 qbh412 qch412 ⊢;omega)|(simp at qah412 qbh412 qch412 qlh412 ⊢;have qz:=X12 h413;omega)|(simp at qah412 qbh412 qch412 qlh412 ⊢;omega)|exact X0k) ?_
    intro h
    refine X2.back (by intro id h;cases h) rfl ?_
    revert h
    refine brI (fun h423=>?_) fun h423=>?_
    ·
     refine rnI [.el (aI .i64 (m411.length:Int))] (o:=by repeat' first|apply Ya|exact pcM|(simp at qah410 qbh410 qch410 ⊢;omega)|(simp at qah410 qbh410 qch410 qlh410 ⊢;omega)|(simp;done)|(simp at qah412 qbh412 qch412 ⊢;omega)|(simp at qah412 qbh412 qch412 qlh412 ⊢;have qz:=X12 h413;omega)|(simp at qah412 qbh412 qch412 qlh412 ⊢;omega)|(have hp:=eq_of_beq h423;simp[hp];done)|(have hp:=eq_of_beq h423;simp at hp ⊢;omega)|(have hp:=eq_of_beq h423;subst hp;decide +kernel)|exact X0k) ?_
     intro h
     refine X2.round ?_
     revert h
     refine bI fun e424 h425=>?_
     try have qh425:=Xv h425
     refine rnI [Bt,.el (Xb e424),.ld (Xb e424),Bt,.wrap,.wrap] (o:=by repeat' first|apply Ya|exact pcM|(simp at qah410 qbh410 qch410 ⊢;omega)|(simp at qah410 qbh410 qch410 qlh410 ⊢;omega)|(simp;done)|(simp at qah412 qbh412 qch412 ⊢;omega)|(simp at qah412 qbh412 qch412 qlh412 ⊢;have qz:=X12 h413;omega)|(simp at qah412 qbh412 qch412 qlh412 ⊢;omega)|(have hp:=eq_of_beq h423;simp[hp];done)|(have hp:=eq_of_beq h423;simp at hp ⊢;omega)|(have hp:=eq_of_beq h423;subst hp;decide +kernel)|exact(Xhx (f:=Xb) qh412 h425)|exact(Xv h425)|exact(X8z h425)|exact X0k) ?_
     intro h
     refine X2.round ?_
     revert h
     refine bI fun X06x h429=>rnI [Bf] (o:=by repeat' first|apply Ya|exact pcM|(simp at qah410 qbh410 qch410 ⊢;omega)|(simp at qah410 qbh410 qch410 qlh410 ⊢;omega)|(simp;done)|(simp at qah412 qbh412 qch412 ⊢;omega)|(simp at qah412 qbh412 qch412 qlh412 ⊢;have qz:=X12 h413;omega)|(simp at qah412 qbh412 qch412 qlh412 ⊢;omega)|(have hp:=eq_of_beq h423;simp[hp];done)|(have hp:=eq_of_beq h423;simp at hp ⊢;omega)|(have hp:=eq_of_beq h423;subst hp;decide +kernel)|exact X0k) ?_
     intro h
     refine X2.join (s':=⟨fr [(4,AV.nils),(5,(AV.ref 1 0 (m409.length))),(7,(AV.ptr 2 0 0)),(11,(AV.ptr 3 0 0)),(12,(AV.ptr 4 0 0)),(15,(Lf (X5u.map X4))),(16,(aI .i64 (X5u.length:Int))),(17,(aI .i64 (k:Int)))],hp ([(1,Ob (Xi.map Xb) 3),(2,Ob [(X4 x)] 5),(3,Ob [(X4 X06x)] 5),(4,Ob [(Xb (Xo.mk (k:Int) (IntKind.i64.wrap (1+e424.size)) (if (IntKind.i64.wrap (e424.depth+1))>1 then (IntKind.i64.wrap (e424.depth+1)) else 1)))] 3)]),5⟩) ?_ (fun J=>X2.cut ?_)
     ·
      revert h
      refine brI (fun h430=>?_) fun h430=>?_
      ·
       exact fun e=>X7 [Bt] (o:=by repeat' first|apply Ya|exact pcM|(simp at qah410 qbh410 qch410 ⊢;omega)|(simp at qah410 qbh410 qch410 qlh410 ⊢;omega)|(simp;done)|(simp at qah412 qbh412 qch412 ⊢;omega)|(simp at qah412 qbh412 qch412 qlh412 ⊢;have qz:=X12 h413;omega)|(simp at qah412 qbh412 qch412 qlh412 ⊢;omega)|(have hp:=eq_of_beq h423;simp[hp];done)|(have hp:=eq_of_beq h423;simp at hp ⊢;omega)|(have hp:=eq_of_beq h423;subst hp;decide +kernel)|exact X0k) (k:=wkT [] (C1 _  nbS (oj e).symm))
      refine bI fun u431 h432=>bI fun u433 h434=>rnI [Bf,.trunc 1 (m409.map Xb),.no,.no] (o:=by repeat' first|apply Ya|exact pcM|(simp at qah410 qbh410 qch410 ⊢;omega)|(simp at qah410 qbh410 qch410 qlh410 ⊢;omega)|(simp;done)|(simp at qah412 qbh412 qch412 ⊢;omega)|(simp at qah412 qbh412 qch412 qlh412 ⊢;have qz:=X12 h413;omega)|(simp at qah412 qbh412 qch412 qlh412 ⊢;omega)|(have hp:=eq_of_beq h423;simp[hp];done)|(have hp:=eq_of_beq h423;simp at hp ⊢;omega)|(have hp:=eq_of_beq h423;subst hp;decide +kernel)|(refine X0g h432 rfl ?_;first|(simp;done)|(simp;omega)|(simp[hc,h403,h413,h423,h430];done)|(simp[hc,h403,h413,h423,h430];omega))|(refine Xz h432 (by decide) ?_;first|(simp;done)|(simp;omega)|(simp[hc,h403,h413,h423,h430];done)|(simp[hc,h403,h413,h423,h430];omega))|exact(X9y (f:=Xb) qh410)|(refine X0g h434 rfl ?_;first|(simp;done)|(simp;omega)|(simp[hc,h403,h413,h423,h430];done)|(simp[hc,h403,h413,h423,h430];omega))|(refine Xz h434 (by decide) ?_;first|(simp;done)|(simp;omega)|(simp[hc,h403,h413,h423,h430];done)|(simp[hc,h403,h413,h423,h430];omega))|exact X0k) ?_
      intro h
      exact wkT [(0,8),(1,6)] (ih (k+1) hx1 _ _ nbF nbF o h C0 C1)
     clear h;revert h429
     refine brI (fun h428=>?_) fun h428=>?_
     ·
      intro h
      obtain rfl:=oj h
      exact X7 [Bt] (o:=by repeat' first|apply Ya|exact pcM|(simp at qah410 qbh410 qch410 ⊢;omega)|(simp at qah410 qbh410 qch410 qlh410 ⊢;omega)|(simp;done)|(simp at qah412 qbh412 qch412 ⊢;omega)|(simp at qah412 qbh412 qch412 qlh412 ⊢;have qz:=X12 h413;omega)|(simp at qah412 qbh412 qch412 qlh412 ⊢;omega)|(have hp:=eq_of_beq h423;simp[hp];done)|(have hp:=eq_of_beq h423;simp at hp ⊢;omega)|(have hp:=eq_of_beq h423;subst hp;decide +kernel)|exact X0k) (k:=wkT [(3,17),(4,18)] (X2.glue J))
     intro h
     obtain rfl:=oj h
     exact X7 [Bf] (o:=by repeat' first|apply Ya|exact pcM|(simp at qah410 qbh410 qch410 ⊢;omega)|(simp at qah410 qbh410 qch410 qlh410 ⊢;omega)|(simp;done)|(simp at qah412 qbh412 qch412 ⊢;omega)|(simp at qah412 qbh412 qch412 qlh412 ⊢;have qz:=X12 h413;omega)|(simp at qah412 qbh412 qch412 qlh412 ⊢;omega)|(have hp:=eq_of_beq h423;simp[hp];done)|(have hp:=eq_of_beq h423;simp at hp ⊢;omega)|(have hp:=eq_of_beq h423;subst hp;decide +kernel)|exact X0k) (k:=wkT [(3,17),(4,18)] (X2.glue J))
    refine brI (fun h435=>?_) fun h435=>?_
    ·
     refine rnI [.el (aI .i64 (m411.length:Int))] (o:=by repeat' first|apply Ya|exact pcM|(simp at qah410 qbh410 qch410 ⊢;omega)|(simp at qah410 qbh410 qch410 qlh410 ⊢;omega)|(simp;done)|(simp at qah412 qbh412 qch412 ⊢;omega)|(simp at qah412 qbh412 qch412 qlh412 ⊢;have qz:=X12 h413;omega)|(simp at qah412 qbh412 qch412 qlh412 ⊢;omega)|(have hp:=eq_of_beq h435;simp[hp];done)|(have hp:=eq_of_beq h435;simp at hp ⊢;omega)|(have hp:=eq_of_beq h435;subst hp;decide +kernel)|exact X0k) ?_
     intro h
     refine X2.round ?_
     revert h
     refine bI fun e436 h437=>?_
     try have qh437:=Xv h437
     refine rnI [Bt,.el (Xb e436),.ld (Xb e436),Bt,.wrap,.wrap] (o:=by repeat' first|apply Ya|exact pcM|(simp at qah410 qbh410 qch410 ⊢;omega)|(simp at qah410 qbh410 qch410 qlh410 ⊢;omega)|(simp;done)|(simp at qah412 qbh412 qch412 ⊢;omega)|(simp at qah412 qbh412 qch412 qlh412 ⊢;have qz:=X12 h413;omega)|(simp at qah412 qbh412 qch412 qlh412 ⊢;omega)|(have hp:=eq_of_beq h435;simp[hp];done)|(have hp:=eq_of_beq h435;simp at hp ⊢;omega)|(have hp:=eq_of_beq h435;subst hp;decide +kernel)|exact(Xhx (f:=Xb) qh412 h437)|exact(Xv h437)|exact(X8z h437)|exact X0k) ?_
     intro h
     refine X2.round ?_
     revert h
     refine bI fun e438 h439=>?_
     try have qh439:=Xv h439
     refine rnI [Bt,.el (Xb e438),.ld (Xb e438),Bf,.wrap,.wrap] (o:=by repeat' first|apply Ya|exact pcM|(simp at qah410 qbh410 qch410 ⊢;omega)|(simp at qah410 qbh410 qch410 qlh410 ⊢;omega)|(simp;done)|(simp at qah412 qbh412 qch412 ⊢;omega)|(simp at qah412 qbh412 qch412 qlh412 ⊢;have qz:=X12 h413;omega)|(simp at qah412 qbh412 qch412 qlh412 ⊢;omega)|(have hp:=eq_of_beq h435;simp[hp];done)|(have hp:=eq_of_beq h435;simp at hp ⊢;omega)|(have hp:=eq_of_beq h435;subst hp;decide +kernel)|exact(Xhx (f:=Xb) qh412 h439)|exact(Xv h439)|exact(X8z h439)|exact X0k) ?_
     intro h
     refine X2.round ?_
     revert h
     refine bI fun X06w h443=>rnI [Bf] (o:=by repeat' first|apply Ya|exact pcM|(simp at qah410 qbh410 qch410 ⊢;omega)|(simp at qah410 qbh410 qch410 qlh410 ⊢;omega)|(simp;done)|(simp at qah412 qbh412 qch412 ⊢;omega)|(simp at qah412 qbh412 qch412 qlh412 ⊢;have qz:=X12 h413;omega)|(simp at qah412 qbh412 qch412 qlh412 ⊢;omega)|(have hp:=eq_of_beq h435;simp[hp];done)|(have hp:=eq_of_beq h435;simp at hp ⊢;omega)|(have hp:=eq_of_beq h435;subst hp;decide +kernel)|exact X0k) ?_
     intro h
     refine X2.join (s':=⟨fr [(4,AV.nils),(5,(AV.ref 1 0 (m409.length))),(7,(AV.ptr 2 0 0)),(11,(AV.ptr 3 0 0)),(12,(AV.ptr 4 0 0)),(15,(Lf (X5u.map X4))),(16,(aI .i64 (X5u.length:Int))),(17,(aI .i64 (k:Int)))],hp ([(1,Ob (Xi.map Xb) 3),(2,Ob [(X4 x)] 5),(3,Ob [(X4 X06w)] 5),(4,Ob [(Xb (Xo.mk (k:Int) (IntKind.i64.wrap ((IntKind.i64.wrap (1+e436.size))+e438.size)) (if (IntKind.i64.wrap (e438.depth+1))>(if (IntKind.i64.wrap (e436.depth+1))>1 then (IntKind.i64.wrap (e436.depth+1)) else 1) then (IntKind.i64.wrap (e438.depth+1)) else (if (IntKind.i64.wrap (e436.depth+1))>1 then (IntKind.i64.wrap (e436.depth+1)) else 1))))] 3)]),5⟩) ?_ (fun J=>X2.cut ?_)
     ·
      revert h
      refine brI (fun h444=>?_) fun h444=>?_
      ·
       exact fun e=>X7 [Bt] (o:=by repeat' first|apply Ya|exact pcM|(simp at qah410 qbh410 qch410 ⊢;omega)|(simp at qah410 qbh410 qch410 qlh410 ⊢;omega)|(simp;done)|(simp at qah412 qbh412 qch412 ⊢;omega)|(simp at qah412 qbh412 qch412 qlh412 ⊢;have qz:=X12 h413;omega)|(simp at qah412 qbh412 qch412 qlh412 ⊢;omega)|(have hp:=eq_of_beq h435;simp[hp];done)|(have hp:=eq_of_beq h435;simp at hp ⊢;omega)|(have hp:=eq_of_beq h435;subst hp;decide +kernel)|exact X0k) (k:=wkT [] (C1 _  nbS (oj e).symm))
      refine bI fun u445 h446=>bI fun u447 h448=>rnI [Bf,.trunc 1 (m409.map Xb),.no,.no] (o:=by repeat' first|apply Ya|exact pcM|(simp at qah410 qbh410 qch410 ⊢;omega)|(simp at qah410 qbh410 qch410 qlh410 ⊢;omega)|(simp;done)|(simp at qah412 qbh412 qch412 ⊢;omega)|(simp at qah412 qbh412 qch412 qlh412 ⊢;have qz:=X12 h413;omega)|(simp at qah412 qbh412 qch412 qlh412 ⊢;omega)|(have hp:=eq_of_beq h435;simp[hp];done)|(have hp:=eq_of_beq h435;simp at hp ⊢;omega)|(have hp:=eq_of_beq h435;subst hp;decide +kernel)|(refine X0g h446 rfl ?_;first|(simp;done)|(simp;omega)|(simp[hc,h403,h413,h423,h435,h444];done)|(simp[hc,h403,h413,h423,h435,h444];omega))|(refine Xz h446 (by decide) ?_;first|(simp;done)|(simp;omega)|(simp[hc,h403,h413,h423,h435,h444];done)|(simp[hc,h403,h413,h423,h435,h444];omega))|exact(X9y (f:=Xb) qh410)|(refine X0g h448 rfl ?_;first|(simp;done)|(simp;omega)|(simp[hc,h403,h413,h423,h435,h444];done)|(simp[hc,h403,h413,h423,h435,h444];omega))|(refine Xz h448 (by decide) ?_;first|(simp;done)|(simp;omega)|(simp[hc,h403,h413,h423,h435,h444];done)|(simp[hc,h403,h413,h423,h435,h444];omega))|exact X0k) ?_
      intro h
      exact wkT [(0,8),(1,6)] (ih (k+1) hx1 _ _ nbF nbF o h C0 C1)
     clear h;revert h443
     refine brI (fun h442=>?_) fun h442=>?_
     ·
      intro h
      obtain rfl:=oj h
      exact X7 [Bt] (o:=by repeat' first|apply Ya|exact pcM|(simp at qah410 qbh410 qch410 ⊢;omega)|(simp at qah410 qbh410 qch410 qlh410 ⊢;omega)|(simp;done)|(simp at qah412 qbh412 qch412 ⊢;omega)|(simp at qah412 qbh412 qch412 qlh412 ⊢;have qz:=X12 h413;omega)|(simp at qah412 qbh412 qch412 qlh412 ⊢;omega)|(have hp:=eq_of_beq h435;simp[hp];done)|(have hp:=eq_of_beq h435;simp at hp ⊢;omega)|(have hp:=eq_of_beq h435;subst hp;decide +kernel)|exact X0k) (k:=wkT [(3,17),(4,18)] (X2.glue J))
     intro h
     obtain rfl:=oj h
     exact X7 [Bf] (o:=by repeat' first|apply Ya|exact pcM|(simp at qah410 qbh410 qch410 ⊢;omega)|(simp at qah410 qbh410 qch410 qlh410 ⊢;omega)|(simp;done)|(simp at qah412 qbh412 qch412 ⊢;omega)|(simp at qah412 qbh412 qch412 qlh412 ⊢;have qz:=X12 h413;omega)|(simp at qah412 qbh412 qch412 qlh412 ⊢;omega)|(have hp:=eq_of_beq h435;simp[hp];done)|(have hp:=eq_of_beq h435;simp at hp ⊢;omega)|(have hp:=eq_of_beq h435;subst hp;decide +kernel)|exact X0k) (k:=wkT [(3,17),(4,18)] (X2.glue J))
    intro h
    cases h
   clear h;revert h402
   refine brI (fun h401=>?_) fun h401=>?_
   ·
    intro h
    obtain rfl:=oj h
    exact X7 [.go false,.go false,.go false,.go false] (k:=wkT [] (X2.glue J))
   intro h
   obtain rfl:=oj h
   exact X7 [.go true,.go true,.go true,.el (aI .i64 (Xi.length:Int)),.go true] (k:=wkT [] (X2.glue J))
  obtain rfl:=X02 rfl
  refine X2.round ?_
  revert h
  refine bI fun v449 h450=>bI fun X06v h454=>rnI [Bt,.el (X4 x),.pure _ (AV.tup [(aI .i64 v449.1),(aI .i64 v449.2)]),.stop 6] ?_
  intro h
  refine X2.join (s':=⟨fr [(4,AV.nils),(5,AV.nils),(6,(aI .i64 (k:Int))),(7,(AV.ptr 2 0 0)),(8,(aI .i64 v449.1)),(15,(Lf (X5u.map X4))),(16,(aI .i64 (X5u.length:Int))),(17,(aI .i64 (k:Int))),(35,(aB X06v))],hp ([(2,Ob [(X4 x)] 5)]),3⟩) ?_ (fun J=>X2.cut ?_)
  ·
   revert h
   refine brI (fun h455=>fun e=>X7 [Bt] (k:=wkT [] (C1 _  nbS (oj e).symm))) fun h455=>rnI [Bf] ?_
   intro h
   refine X2.inline X9 X03u rfl rfl rfl rfl rfl trivial trivial rfl rfl ?_
   revert h
   refine bI fun m461 h462=>?_
   obtain⟨qah462,qbh462,qch462,qh462⟩:=X3c h462
   obtain rfl:=X9t h462
   refine bI fun m463 h464=>?_
   obtain⟨qah464,qbh464,qch464,qh464⟩:=X3c h464
   obtain rfl:=X9t h464
   refine brI (fun h465=>?_) fun h465=>?_
   ·
    refine rnI [.el (aI .i64 (List.length ([]:List Xo):Int)),.wrap,.el (aI .i64 (List.length ([]:List Xo):Int)),.wrap] (o:=by repeat' first|apply Ya|exact pcM|(simp at qah462 qbh462 qch462 ⊢;omega)|(simp at qah464 qbh464 qch464 ⊢;omega)|exact X0k) ?_
    intro h
    refine X2.back (by intro id h;cases h) rfl ?_
    refine X10 [] (o:=by repeat' first|apply Ya|exact pcM|(simp at qah462 qbh462 qch462 ⊢;omega)|(simp at qah464 qbh464 qch464 ⊢;omega)|exact X0k) ?_
    refine X2.round ?_
    revert h
    refine bI fun X06u h469=>rnI [Bf] (o:=by repeat' first|apply Ya|exact pcM|(simp at qah462 qbh462 qch462 ⊢;omega)|(simp at qah464 qbh464 qch464 ⊢;omega)|exact X0k) ?_
    intro h
    refine X2.join (s':=⟨fr [(4,AV.nils),(5,AV.nils),(7,(AV.ptr 2 0 0)),(11,(AV.ptr 3 0 0)),(12,(AV.ptr 4 0 0)),(15,(Lf (X5u.map X4))),(16,(aI .i64 (X5u.length:Int))),(17,(aI .i64 (k:Int)))],hp ([(2,Ob [(X4 x)] 5),(3,Ob [(X4 X06u)] 5),(4,Ob [(Xb (Xo.mk (k:Int) 1 1))] 3)]),5⟩) ?_ (fun J=>X2.cut ?_)
    ·
     revert h
     refine brI (fun h470=>?_) fun h470=>?_
     ·
      exact fun e=>X7 [Bt] (o:=by repeat' first|apply Ya|exact pcM|(simp at qah462 qbh462 qch462 ⊢;omega)|(simp at qah464 qbh464 qch464 ⊢;omega)|exact X0k) (k:=wkT [] (C1 _  nbS (oj e).symm))
     refine bI fun u471 h472=>bI fun u473 h474=>rnI [Bf,.no,.no] (o:=by repeat' first|apply Ya|exact pcM|(simp at qah462 qbh462 qch462 ⊢;omega)|(simp at qah464 qbh464 qch464 ⊢;omega)|(refine X0g h472 rfl ?_;first|(simp;done)|(simp;omega)|(simp[hc,h455,h465,h470];done)|(simp[hc,h455,h465,h470];omega))|(refine Xz h472 (by decide) ?_;first|(simp;done)|(simp;omega)|(simp[hc,h455,h465,h470];done)|(simp[hc,h455,h465,h470];omega))|(refine X0g h474 rfl ?_;first|(simp;done)|(simp;omega)|(simp[hc,h455,h465,h470];done)|(simp[hc,h455,h465,h470];omega))|(refine Xz h474 (by decide) ?_;first|(simp;done)|(simp;omega)|(simp[hc,h455,h465,h470];done)|(simp[hc,h455,h465,h470];omega))|exact X0k) ?_
     intro h
     exact wkT [(0,8),(1,6)] (ih (k+1) hx1 _ _ nbF nbF o h C0 C1)
    clear h;revert h469
    refine brI (fun h468=>?_) fun h468=>?_
    ·
     intro h
     obtain rfl:=oj h
     exact X7 [Bt] (o:=by repeat' first|apply Ya|exact pcM|(simp at qah462 qbh462 qch462 ⊢;omega)|(simp at qah464 qbh464 qch464 ⊢;omega)|exact X0k) (k:=wkT [(3,17),(4,18)] (X2.glue J))
    intro h
    obtain rfl:=oj h
    exact X7 [Bf] (o:=by repeat' first|apply Ya|exact pcM|(simp at qah462 qbh462 qch462 ⊢;omega)|(simp at qah464 qbh464 qch464 ⊢;omega)|exact X0k) (k:=wkT [(3,17),(4,18)] (X2.glue J))
   intro h
   exact absurd h465 (by simp)
  clear h;revert h454
  refine brI (fun h453=>?_) fun h453=>?_
  ·
   intro h
   obtain rfl:=oj h
   exact X7 [.go false,.go false,.go false,.go false] (k:=wkT [] (X2.glue J))
  intro h
  obtain rfl:=oj h
  exact X7 [.go true,.go true,.go true,.el (aI .i64 (List.length ([]:List Xo):Int)),.go true] (k:=wkT [] (X2.glue J))
end Go.Av.Tryz