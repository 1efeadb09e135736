/- Printed by decomp.py: that the program computes the functions. -/
import Derived.Test.YtfdfgobnpnoomaaGreatDCert0Z
set_option linter.all false

namespace Go.Av.Tryz
open Go.Proofs Go.D
set_option maxRecDepth 10000
set_option maxHeartbeats 40000000
theorem Xkm {Q:X02->St->Mu->Prop} {μ:Mu} (X6d:(List X05)) (hl:X6d.length<=140737488355328):∀ (xs:List X05) (k:Nat) (hx:X6d.drop k=xs) (Xf:(List Xo)) (Xi:(List Xo)) (Xy:Nb Xf) (Xl:Nb Xi) (o:X6i) (h:X2a X6d xs k Xf Xi=some o)
  (C0:∀ (Xe:(List Xo)) (X0s:(List Xo)) (Xj:Nb Xe) (X0v:Nb X0s),o=X6i.x0 Xe X0s->X2 Tryz.prog 105 0 Q (.exit (.exit 0)) [] ⟨fr [(4,(slE Xj.1 0 (Xe.map Xc))),(5,(slE X0v.1 1 (X0s.map Xc)))],hp ([]++opE Xj.1 0 3 (Xe.map Xc)++opE X0v.1 1 3 (X0s.map Xc)),2⟩ μ)
  (C1:∀ (X0e:(List Xo)) (X0c:Nb X0e),o=X6i.x1 X0e->X2 Tryz.prog 105 0 Q (.exit .ret) [] ⟨fr [(2,(slE X0c.1 0 (X0e.map Xc))),(3,(aB false))],hp ([]++opE X0c.1 0 3 (X0e.map Xc)),1⟩ μ),
  X2 Tryz.prog 105 0 Q (.loop (X2v 0 (Xh Tryz.f175))) [] ⟨fr [(4,(slE Xy.1 0 (Xf.map Xc))),(5,(slE Xl.1 1 (Xi.map Xc))),(15,(Lf (X6d.map X4))),(16,(aI .i64 (X6d.length:Int))),(17,(aI .i64 (k:Int)))],hp ([]++opE Xy.1 0 3 (Xf.map Xc)++opE Xl.1 1 3 (Xi.map Xc)),2⟩ μ:=by
 intro xs
 induction xs with
 |nil =>
  intro k hx Xf Xi Xy Xl o h C0 C1
  have hk:=drop_nil hx
  have hc:decide ((k:Int)<(X6d.length:Int))=false:=Yf (by omega)
  rw[X2a] at h
  rcases Xy with ⟨_|_,X1b⟩
  ·
   rcases Xl with ⟨_|_,X04⟩
   ·
    refine X2.round ?_
    revert h
    exact fun e=>X9 [Bf] (k:=wkT [] (C0 _ _  nbF nbF (oj e).symm))
   obtain rfl:=X04 rfl
   refine X2.round ?_
   revert h
   exact fun e=>X9 [Bf] (k:=wkT [] (C0 _ _  nbF nbS (oj e).symm))
  ·
   obtain rfl:=X1b rfl
   rcases Xl with ⟨_|_,X04⟩
   ·
    refine X2.round ?_
    revert h
    exact fun e=>X9 [Bf] (k:=wkT [] (C0 _ _  nbS nbF (oj e).symm))
   ·
    obtain rfl:=X04 rfl
    refine X2.round ?_
    revert h
    exact fun e=>X9 [Bf] (k:=wkT [] (C0 _ _  nbS nbS (oj e).symm))
 |cons x xs ih =>
  intro k hx Xf Xi Xy Xl o h C0 C1
  obtain⟨hk,hg,hx1⟩:=drop_cons hx
  have hc:decide ((k:Int)<(X6d.length:Int))=true:=Yt (by omega)
  rw[X2a] at h
  rcases Xy with ⟨_|_,X1b⟩
  ·
   rcases Xl with ⟨_|_,X04⟩
   ·
    refine X2.round ?_
    revert h
    refine bI fun v318 h319=>bI fun Xuk h323=>rnI [Bt,.el (X4 x),.pure _ (AV.tup [(aI .i64 v318.1),(aI .i64 v318.2)]),.stop 6] ?_
    intro h
    refine X2.join (s':=⟨fr [(4,(AV.ref 0 0 (Xf.length))),(5,(AV.ref 1 0 (Xi.length))),(6,(aI .i64 (k:Int))),(7,(AV.ptr 2 0 0)),(8,(aI .i64 v318.1)),(15,(Lf (X6d.map X4))),(16,(aI .i64 (X6d.length:Int))),(17,(aI .i64 (k:Int))),(35,(aB Xuk))],hp ([(0,Ob (Xf.map Xc) 3),(1,Ob (Xi.map Xc) 3),(2,Ob [(X4 x)] 5)]),3⟩) ?_ (fun J=>X2.cut ?_)
    ·
     revert h
     refine brI (fun h324=>fun e=>X9 [Bt] (k:=wkT [] (C1 _  nbF (oj e).symm))) fun h324=>rnI [Bf] ?_
     intro h
     refine X2.inline Xa X06e rfl rfl rfl rfl rfl trivial trivial rfl rfl ?_
     revert h
     refine bI fun m331 h332=>?_
     obtain⟨qah332,qbh332,qch332,qh332⟩:=X3q h332
     have qlh332:=X7w h332
     refine bI fun m333 h334=>?_
     obtain⟨qah334,qbh334,qch334,qh334⟩:=X3q h334
     have qlh334:=X7w h334
     refine brI (fun h335=>?_) fun h335=>?_
     ·
      refine rnI [.el (aI .i64 (Xi.length:Int)),.wrap,.via (.ref 1 0 (m331.length)),.el (aI .i64 (Xi.length:Int)),.wrap,.ne false] (o:=by repeat' first|apply Ya|exact pcM|(simp at qah332 qbh332 qch332 ⊢;omega)|(simp at qah332 qbh332 qch332 qlh332 ⊢;omega)|(simp;done)|(simp at qah334 qbh334 qch334 ⊢;omega)|(simp at qah334 qbh334 qch334 qlh334 ⊢;have qz:=X3r h335;omega)|exact X0k) ?_
      intro h
      refine X2.back (by intro id h;cases h) rfl ?_
      refine X10 [] (o:=by repeat' first|apply Ya|exact pcM|(simp at qah332 qbh332 qch332 ⊢;omega)|(simp at qah332 qbh332 qch332 qlh332 ⊢;omega)|(simp;done)|(simp at qah334 qbh334 qch334 ⊢;omega)|(simp at qah334 qbh334 qch334 qlh334 ⊢;have qz:=X3r h335;omega)|exact X0k) ?_
      refine X2.round ?_
      revert h
      refine bI fun Xuj h339=>rnI [Bf] (o:=by repeat' first|apply Ya|exact pcM|(simp at qah332 qbh332 qch332 ⊢;omega)|(simp at qah332 qbh332 qch332 qlh332 ⊢;omega)|(simp;done)|(simp at qah334 qbh334 qch334 ⊢;omega)|(simp at qah334 qbh334 qch334 qlh334 ⊢;have qz:=X3r h335;omega)|exact X0k) ?_
      intro h
      refine X2.join (s':=⟨fr [(4,(AV.ref 0 0 (Xf.length))),(5,(AV.ref 1 0 (m331.length))),(7,(AV.ptr 2 0 0)),(11,(AV.ptr 3 0 0)),(12,(AV.ptr 4 0 0)),(15,(Lf (X6d.map X4))),(16,(aI .i64 (X6d.length:Int))),(17,(aI .i64 (k:Int)))],hp ([(0,Ob (Xf.map Xc) 3),(1,Ob (Xi.map Xc) 3),(2,Ob [(X4 x)] 5),(3,Ob [(X4 Xuj)] 5),(4,Ob [(Xc (Xo.mk (k:Int) 1 1))] 3)]),5⟩) ?_ (fun J=>X2.cut ?_)
      ·
       revert h
       refine brI (fun h340=>?_) fun h340=>?_
       ·
        exact fun e=>X9 [Bt] (o:=by repeat' first|apply Ya|exact pcM|(simp at qah332 qbh332 qch332 ⊢;omega)|(simp at qah332 qbh332 qch332 qlh332 ⊢;omega)|(simp;done)|(simp at qah334 qbh334 qch334 ⊢;omega)|(simp at qah334 qbh334 qch334 qlh334 ⊢;have qz:=X3r h335;omega)|exact X0k) (k:=wkT [] (C1 _  nbF (oj e).symm))
       refine bI fun u341 h342=>bI fun u343 h344=>rnI [Bf,.trunc 1 (m331.map Xc),.no,.no] (o:=by repeat' first|apply Ya|exact pcM|(simp at qah332 qbh332 qch332 ⊢;omega)|(simp at qah332 qbh332 qch332 qlh332 ⊢;omega)|(simp;done)|(simp at qah334 qbh334 qch334 ⊢;omega)|(simp at qah334 qbh334 qch334 qlh334 ⊢;have qz:=X3r h335;omega)|(refine X0a h342 rfl ?_;first|(simp;done)|(simp;omega)|(simp[hc,h324,h335,h340];done)|(simp[hc,h324,h335,h340];omega))|(refine Xs h342 (by decide) ?_;first|(simp;done)|(simp;omega)|(simp[hc,h324,h335,h340];done)|(simp[hc,h324,h335,h340];omega))|exact(Xaw (f:=Xc) qh332)|(refine X0a h344 rfl ?_;first|(simp;done)|(simp;omega)|(simp[hc,h324,h335,h340];done)|(simp[hc,h324,h335,h340];omega))|(refine Xs h344 (by decide) ?_;first|(simp;done)|(simp;omega)|(simp[hc,h324,h335,h340];done)|(simp[hc,h324,h335,h340];omega))|exact X0k) ?_
       intro h
       exact wkT [(0,8),(1,6)] (ih (k+1) hx1 _ _ nbF nbF o h C0 C1)
      clear h;revert h339
      refine brI (fun h338=>?_) fun h338=>?_
      ·
       intro h
       obtain rfl:=oj h
       exact X9 [Bt] (o:=by repeat' first|apply Ya|exact pcM|(simp at qah332 qbh332 qch332 ⊢;omega)|(simp at qah332 qbh332 qch332 qlh332 ⊢;omega)|(simp;done)|(simp at qah334 qbh334 qch334 ⊢;omega)|(simp at qah334 qbh334 qch334 qlh334 ⊢;have qz:=X3r h335;omega)|exact X0k) (k:=wkT [(3,17),(4,18)] (X2.glue J))
      intro h
      obtain rfl:=oj h
      exact X9 [Bf] (o:=by repeat' first|apply Ya|exact pcM|(simp at qah332 qbh332 qch332 ⊢;omega)|(simp at qah332 qbh332 qch332 qlh332 ⊢;omega)|(simp;done)|(simp at qah334 qbh334 qch334 ⊢;omega)|(simp at qah334 qbh334 qch334 qlh334 ⊢;have qz:=X3r h335;omega)|exact X0k) (k:=wkT [(3,17),(4,18)] (X2.glue J))
     refine rnI [.el (aI .i64 (Xi.length:Int)),.wrap,.via (.ref 1 0 (m331.length)),.el (aI .i64 (Xi.length:Int)),.wrap,.via (.ref 1 (Int.toNat (IntKind.i64.wrap ((Xi.length:Int) - v318.1))) (m333.length))] (o:=by repeat' first|apply Ya|exact pcM|(simp at qah332 qbh332 qch332 ⊢;omega)|(simp at qah332 qbh332 qch332 qlh332 ⊢;omega)|(simp;done)|(simp at qah334 qbh334 qch334 ⊢;omega)|(simp at qah334 qbh334 qch334 qlh334 ⊢;have qz:=X16 h335;omega)|(simp at qah334 qbh334 qch334 qlh334 ⊢;omega)|exact X0k) ?_
     intro h
     refine X2.back (by intro id h;cases h) rfl ?_
     revert h
     refine brI (fun h345=>?_) fun h345=>?_
     ·
      refine rnI [.el (aI .i64 (m333.length:Int))] (o:=by repeat' first|apply Ya|exact pcM|(simp at qah332 qbh332 qch332 ⊢;omega)|(simp at qah332 qbh332 qch332 qlh332 ⊢;omega)|(simp;done)|(simp at qah334 qbh334 qch334 ⊢;omega)|(simp at qah334 qbh334 qch334 qlh334 ⊢;have qz:=X16 h335;omega)|(simp at qah334 qbh334 qch334 qlh334 ⊢;omega)|(have hp:=eq_of_beq h345;simp[hp];done)|(have hp:=eq_of_beq h345;simp at hp ⊢;omega)|(have hp:=eq_of_beq h345;subst hp;decide +kernel)|exact X0k) ?_
      intro h
      refine X2.round ?_
      revert h
      refine bI fun e346 h347=>?_
      try have qh347:=Xn h347
      refine rnI [Bt,.el (Xc e346),.ld (Xc e346),Bt,.wrap,.wrap] (o:=by repeat' first|apply Ya|exact pcM|(simp at qah332 qbh332 qch332 ⊢;omega)|(simp at qah332 qbh332 qch332 qlh332 ⊢;omega)|(simp;done)|(simp at qah334 qbh334 qch334 ⊢;omega)|(simp at qah334 qbh334 qch334 qlh334 ⊢;have qz:=X16 h335;omega)|(simp at qah334 qbh334 qch334 qlh334 ⊢;omega)|(have hp:=eq_of_beq h345;simp[hp];done)|(have hp:=eq_of_beq h345;simp at hp ⊢;omega)|(have hp:=eq_of_beq h345;subst hp;decide +kernel)|exact(Xjd (f:=Xc) qh334 h347)|exact(Xn h347)|exact(X9x h347)|exact X0k) ?_
      intro h
      refine X2.round ?_
      revert h
      refine bI fun Xui h351=>rnI [Bf] (o:=by repeat' first|apply Ya|exact pcM|(simp at qah332 qbh332 qch332 ⊢;omega)|(simp at qah332 qbh332 qch332 qlh332 ⊢;omega)|(simp;done)|(simp at qah334 qbh334 qch334 ⊢;omega)|(simp at qah334 qbh334 qch334 qlh334 ⊢;have qz:=X16 h335;omega)|(simp at qah334 qbh334 qch334 qlh334 ⊢;omega)|(have hp:=eq_of_beq h345;simp[hp];done)|(have hp:=eq_of_beq h345;simp at hp ⊢;omega)|(have hp:=eq_of_beq h345;subst hp;decide +kernel)|exact X0k) ?_
      intro h
      refine X2.join (s':=⟨fr [(4,(AV.ref 0 0 (Xf.length))),(5,(AV.ref 1 0 (m331.length))),(7,(AV.ptr 2 0 0)),(11,(AV.ptr 3 0 0)),(12,(AV.ptr 4 0 0)),(15,(Lf (X6d.map X4))),(16,(aI .i64 (X6d.length:Int))),(17,(aI .i64 (k:Int)))],hp ([(0,Ob (Xf.map Xc) 3),(1,Ob (Xi.map Xc) 3),(2,Ob [(X4 x)] 5),(3,Ob [(X4 Xui)] 5),(4,Ob [(Xc (Xo.mk (k:Int) (IntKind.i64.wrap (1+e346.size)) (if (IntKind.i64.wrap (e346.depth+1))>1 then (IntKind.i64.wrap (e346.depth+1)) else 1)))] 3)]),5⟩) ?_ (fun J=>X2.cut ?_)
      ·
       revert h
       refine brI (fun h352=>?_) fun h352=>?_
       ·
        exact fun e=>X9 [Bt] (o:=by repeat' first|apply Ya|exact pcM|(simp at qah332 qbh332 qch332 ⊢;omega)|(simp at qah332 qbh332 qch332 qlh332 ⊢;omega)|(simp;done)|(simp at qah334 qbh334 qch334 ⊢;omega)|(simp at qah334 qbh334 qch334 qlh334 ⊢;have qz:=X16 h335;omega)|(simp at qah334 qbh334 qch334 qlh334 ⊢;omega)|(have hp:=eq_of_beq h345;simp[hp];done)|(have hp:=eq_of_beq h345;simp at hp ⊢;omega)|(have hp:=eq_of_beq h345;subst hp;decide +kernel)|exact X0k) (k:=wkT [] (C1 _  nbF (oj e).symm))
       refine bI fun u353 h354=>bI fun u355 h356=>rnI [Bf,.trunc 1 (m331.map Xc),.no,.no] (o:=by repeat' first|apply Ya|exact pcM|(simp at qah332 qbh332 qch332 ⊢;omega)|(simp at qah332 qbh332 qch332 qlh332 ⊢;omega)|(simp;done)|(simp at qah334 qbh334 qch334 ⊢;omega)|(simp at qah334 qbh334 qch334 qlh334 ⊢;have qz:=X16 h335;omega)|(simp at qah334 qbh334 qch334 qlh334 ⊢;omega)|(have hp:=eq_of_beq h345;simp[hp];done)|(have hp:=eq_of_beq h345;simp at hp ⊢;omega)|(have hp:=eq_of_beq h345;subst hp;decide +kernel)|(refine X0a h354 rfl ?_;first|(simp;done)|(simp;omega)|(simp[hc,h324,h335,h345,h352];done)|(simp[hc,h324,h335,h345,h352];omega))|(refine Xs h354 (by decide) ?_;first|(simp;done)|(simp;omega)|(simp[hc,h324,h335,h345,h352];done)|(simp[hc,h324,h335,h345,h352];omega))|exact(Xaw (f:=Xc) qh332)|(refine X0a h356 rfl ?_;first|(simp;done)|(simp;omega)|(simp[hc,h324,h335,h345,h352];done)|(simp[hc,h324,h335,h345,h352];omega))|(refine Xs h356 (by decide) ?_;first|(simp;done)|(simp;omega)|(simp[hc,h324,h335,h345,h352];done)|(simp[hc,h324,h335,h345,h352];omega))|exact X0k) ?_
       intro h
       exact wkT [(0,8),(1,6)] (ih (k+1) hx1 _ _ nbF nbF o h C0 C1)
      clear h;revert h351
      refine brI (fun h350=>?_) fun h350=>?_
      ·
       intro h
       obtain rfl:=oj h
       exact X9 [Bt] (o:=by repeat' first|apply Ya|exact pcM|(simp at qah332 qbh332 qch332 ⊢;omega)|(simp at qah332 qbh332 qch332 qlh332 ⊢;omega)|(simp;done)|(simp at qah334 qbh334 qch334 ⊢;omega)|(simp at qah334 qbh334 qch334 qlh334 ⊢;have qz:=X16 h335;omega)|(simp at qah334 qbh334 qch334 qlh334 ⊢;omega)|(have hp:=eq_of_beq h345;simp[hp];done)|(have hp:=eq_of_beq h345;simp at hp ⊢;omega)|(have hp:=eq_of_beq h345;subst hp;decide +kernel)|exact X0k) (k:=wkT [(3,17),(4,18)] (X2.glue J))
      intro h
      obtain rfl:=oj h
      exact X9 [Bf] (o:=by repeat' first|apply Ya|exact pcM|(simp at qah332 qbh332 qch332 ⊢;omega)|(simp at qah332 qbh332 qch332 qlh332 ⊢;omega)|(simp;done)|(simp at qah334 qbh334 qch334 ⊢;omega)|(simp at qah334 qbh334 qch334 qlh334 ⊢;have qz:=X16 h335;omega)|(simp at qah334 qbh334 qch334 qlh334 ⊢;omega)|(have hp:=eq_of_beq h345;simp[hp];done)|(have hp:=eq_of_beq h345;simp at hp ⊢;omega)|(have hp:=eq_of_beq h345;subst hp;decide +kernel)|exact X0k) (k:=wkT [(3,17),(4,18)] (X2.glue J))
     refine brI (fun h357=>?_) fun h357=>?_
     ·
      refine rnI [.el (aI .i64 (m333.length:Int))] (o:=by repeat' first|apply Ya|exact pcM|(simp at qah332 qbh332 qch332 ⊢;omega)|(simp at qah332 qbh332 qch332 qlh332 ⊢;omega)|(simp;done)|(simp at qah334 qbh334 qch334 ⊢;omega)|(simp at qah334 qbh334 qch334 qlh334 ⊢;have qz:=X16 h335;omega)|(simp at qah334 qbh334 qch334 qlh334 ⊢;omega)|(have hp:=eq_of_beq h357;simp[hp];done)|(have hp:=eq_of_beq h357;simp at hp ⊢;omega)|(have hp:=eq_of_beq h357;subst hp;decide +kernel)|exact X0k) ?_
      intro h
      refine X2.round ?_
      revert h
      refine bI fun e358 h359=>?_
      try have qh359:=Xn h359
      refine rnI [Bt,.el (Xc e358),.ld (Xc e358),Bt,.wrap,.wrap] (o:=by repeat' first|apply Ya|exact pcM|(simp at qah332 qbh332 qch332 ⊢;omega)|(simp at qah332 qbh332 qch332 qlh332 ⊢;omega)|(simp;done)|(simp at qah334 qbh334 qch334 ⊢;omega)|(simp at qah334 qbh334 qch334 qlh334 ⊢;have qz:=X16 h335;omega)|(simp at qah334 qbh334 qch334 qlh334 ⊢;omega)|(have hp:=eq_of_beq h357;simp[hp];done)|(have hp:=eq_of_beq h357;simp at hp ⊢;omega)|(have hp:=eq_of_beq h357;subst hp;decide +kernel)|exact(Xjd (f:=Xc) qh334 h359)|exact(Xn h359)|exact(X9x h359)|exact X0k) ?_
      intro h
      refine X2.round ?_
      revert h
      refine bI fun e360 h361=>?_
      try have qh361:=Xn h361
      refine rnI [Bt,.el (Xc e360),.ld (Xc e360),Bf,.wrap,.wrap] (o:=by repeat' first|apply Ya|exact pcM|(simp at qah332 qbh332 qch332 ⊢;omega)|(simp at qah332 qbh332 qch332 qlh332 ⊢;omega)|(simp;done)|(simp at qah334 qbh334 qch334 ⊢;omega)|(simp at qah334 qbh334 qch334 qlh334 ⊢;have qz:=X16 h335;omega)|(simp at qah334 qbh334 qch334 qlh334 ⊢;omega)|(have hp:=eq_of_beq h357;simp[hp];done)|(have hp:=eq_of_beq h357;simp at hp ⊢;omega)|(have hp:=eq_of_beq h357;subst hp;decide +kernel)|exact(Xjd (f:=Xc) qh334 h361)|exact(Xn h361)|exact(X9x h361)|exact X0k) ?_
      intro h
      refine X2.round ?_
      revert h
      refine bI fun Xuh h365=>rnI [Bf] (o:=by repeat' first|apply Ya|exact pcM|(simp at qah332 qbh332 qch332 ⊢;omega)|(simp at qah332 qbh332 qch332 qlh332 ⊢;omega)|(simp;done)|(simp at qah334 qbh334 qch334 ⊢;omega)|(simp at qah334 qbh334 qch334 qlh334 ⊢;have qz:=X16 h335;omega)|(simp at qah334 qbh334 qch334 qlh334 ⊢;omega)|(have hp:=eq_of_beq h357;simp[hp];done)|(have hp:=eq_of_beq h357;simp at hp ⊢;omega)|(have hp:=eq_of_beq h357;subst hp;decide +kernel)|exact X0k) ?_
      intro h
      refine X2.join (s':=⟨fr [(4,(AV.ref 0 0 (Xf.length))),(5,(AV.ref 1 0 (m331.length))),(7,(AV.ptr 2 0 0)),(11,(AV.ptr 3 0 0)),(12,(AV.ptr 4 0 0)),(15,(Lf (X6d.map X4))),(16,(aI .i64 (X6d.length:Int))),(17,(aI .i64 (k:Int)))],hp ([(0,Ob (Xf.map Xc) 3),(1,Ob (Xi.map Xc) 3),(2,Ob [(X4 x)] 5),(3,Ob [(X4 Xuh)] 5),(4,Ob [(Xc (Xo.mk (k:Int) (IntKind.i64.wrap ((IntKind.i64.wrap (1+e358.size))+e360.size)) (if (IntKind.i64.wrap (e360.depth+1))>(if (IntKind.i64.wrap (e358.depth+1))>1 then (IntKind.i64.wrap (e358.depth+1)) else 1) then (IntKind.i64.wrap (e360.depth+1)) else (if (IntKind.i64.wrap (e358.depth+1))>1 then (IntKind.i64.wrap (e358.depth+1)) else 1))))] 3)]),5⟩) ?_ (fun J=>X2.cut ?_)
      ·
       revert h
       refine brI (fun h366=>?_) fun h366=>?_
       ·
        exact fun e=>X9 [Bt] (o:=by repeat' first|apply Ya|exact pcM|(simp at qah332 qbh332 qch332 ⊢;omega)|(simp at qah332 qbh332 qch332 qlh332 ⊢;omega)|(simp;done)|(simp at qah334 qbh334 qch334 ⊢;omega)|(simp at qah334 qbh334 qch334 qlh334 ⊢;have qz:=X16 h335;omega)|(simp at qah334 qbh334 qch334 qlh334 ⊢;omega)|(have hp:=eq_of_beq h357;simp[hp];done)|(have hp:=eq_of_beq h357;simp at hp ⊢;omega)|(have hp:=eq_of_beq h357;subst hp;decide +kernel)|exact X0k) (k:=wkT [] (C1 _  nbF (oj e).symm))
       refine bI fun u367 h368=>bI fun u369 h370=>rnI [Bf,.trunc 1 (m331.map Xc),.no,.no] (o:=by repeat' first|apply Ya|exact pcM|(simp at qah332 qbh332 qch332 ⊢;omega)|(simp at qah332 qbh332 qch332 qlh332 ⊢;omega)|(simp;done)|(simp at qah334 qbh334 qch334 ⊢;omega)|(simp at qah334 qbh334 qch334 qlh334 ⊢;have qz:=X16 h335;omega)|(simp at qah334 qbh334 qch334 qlh334 ⊢;omega)|(have hp:=eq_of_beq h357;simp[hp];done)|(have hp:=eq_of_beq h357;simp at hp ⊢;omega)|(have hp:=eq_of_beq h357;subst hp;decide +kernel)|(refine X0a h368 rfl ?_;first|(simp;done)|(simp;omega)|(simp[hc,h324,h335,h345,h357,h366];done)|(simp[hc,h324,h335,h345,h357,h366];omega))|(refine Xs h368 (by decide) ?_;first|(simp;done)|(simp;omega)|(simp[hc,h324,h335,h345,h357,h366];done)|(simp[hc,h324,h335,h345,h357,h366];omega))|exact(Xaw (f:=Xc) qh332)|(refine X0a h370 rfl ?_;first|(simp;done)|(simp;omega)|(simp[hc,h324,h335,h345,h357,h366];done)|(simp[hc,h324,h335,h345,h357,h366];omega))|(refine Xs h370 (by decide) ?_;first|(simp;done)|(simp;omega)|(simp[hc,h324,h335,h345,h357,h366];done)|(simp[hc,h324,h335,h345,h357,h366];omega))|exact X0k) ?_
       intro h
       exact wkT [(0,8),(1,6)] (ih (k+1) hx1 _ _ nbF nbF o h C0 C1)
      clear h;revert h365
      refine brI (fun h364=>?_) fun h364=>?_
      ·
       intro h
       obtain rfl:=oj h
       exact X9 [Bt] (o:=by repeat' first|apply Ya|exact pcM|(simp at qah332 qbh332 qch332 ⊢;omega)|(simp at qah332 qbh332 qch332 qlh332 ⊢;omega)|(simp;done)|(simp at qah334 qbh334 qch334 ⊢;omega)|(simp at qah334 qbh334 qch334 qlh334 ⊢;have qz:=X16 h335;omega)|(simp at qah334 qbh334 qch334 qlh334 ⊢;omega)|(have hp:=eq_of_beq h357;simp[hp];done)|(have hp:=eq_of_beq h357;simp at hp ⊢;omega)|(have hp:=eq_of_beq h357;subst hp;decide +kernel)|exact X0k) (k:=wkT [(3,17),(4,18)] (X2.glue J))
      intro h
      obtain rfl:=oj h
      exact X9 [Bf] (o:=by repeat' first|apply Ya|exact pcM|(simp at qah332 qbh332 qch332 ⊢;omega)|(simp at qah332 qbh332 qch332 qlh332 ⊢;omega)|(simp;done)|(simp at qah334 qbh334 qch334 ⊢;omega)|(simp at qah334 qbh334 qch334 qlh334 ⊢;have qz:=X16 h335;omega)|(simp at qah334 qbh334 qch334 qlh334 ⊢;omega)|(have hp:=eq_of_beq h357;simp[hp];done)|(have hp:=eq_of_beq h357;simp at hp ⊢;omega)|(have hp:=eq_of_beq h357;subst hp;decide +kernel)|exact X0k) (k:=wkT [(3,17),(4,18)] (X2.glue J))
     intro h
     cases h
    clear h;revert h323
    refine brI (fun h322=>?_) fun h322=>?_
    ·
     intro h
     obtain rfl:=oj h
     exact X9 [.go false,.go false,.go false,.go false] (k:=wkT [] (X2.glue J))
    intro h
    obtain rfl:=oj h
    exact X9 [.go true,.go true,.go true,.el (aI .i64 (Xi.length:Int)),.go true] (k:=wkT [] (X2.glue J))
   obtain rfl:=X04 rfl
   refine X2.round ?_
   revert h
   refine bI fun v371 h372=>bI fun X09k h376=>rnI [Bt,.el (X4 x),.pure _ (AV.tup [(aI .i64 v371.1),(aI .i64 v371.2)]),.stop 6] ?_
   intro h
   refine X2.join (s':=⟨fr [(4,(AV.ref 0 0 (Xf.length))),(5,AV.nils),(6,(aI .i64 (k:Int))),(7,(AV.ptr 2 0 0)),(8,(aI .i64 v371.1)),(15,(Lf (X6d.map X4))),(16,(aI .i64 (X6d.length:Int))),(17,(aI .i64 (k:Int))),(35,(aB X09k))],hp ([(0,Ob (Xf.map Xc) 3),(2,Ob [(X4 x)] 5)]),3⟩) ?_ (fun J=>X2.cut ?_)
   ·
    revert h
    refine brI (fun h377=>fun e=>X9 [Bt] (k:=wkT [] (C1 _  nbF (oj e).symm))) fun h377=>rnI [Bf] ?_
    intro h
    refine X2.inline Xa X06e rfl rfl rfl rfl rfl trivial trivial rfl rfl ?_
    revert h
    refine bI fun m383 h384=>?_
    obtain⟨qah384,qbh384,qch384,qh384⟩:=X3q h384
    obtain rfl:=Xau h384
    refine bI fun m385 h386=>?_
    obtain⟨qah386,qbh386,qch386,qh386⟩:=X3q h386
    obtain rfl:=Xau h386
    refine brI (fun h387=>?_) fun h387=>?_
    ·
     refine rnI [.el (aI .i64 (List.length ([]:List Xo):Int)),.wrap,.el (aI .i64 (List.length ([]:List Xo):Int)),.wrap] (o:=by repeat' first|apply Ya|exact pcM|(simp at qah384 qbh384 qch384 ⊢;omega)|(simp at qah386 qbh386 qch386 ⊢;omega)|exact X0k) ?_
     intro h
     refine X2.back (by intro id h;cases h) rfl ?_
     refine X10 [] (o:=by repeat' first|apply Ya|exact pcM|(simp at qah384 qbh384 qch384 ⊢;omega)|(simp at qah386 qbh386 qch386 ⊢;omega)|exact X0k) ?_
     refine X2.round ?_
     revert h
     refine bI fun X09j h391=>rnI [Bf] (o:=by repeat' first|apply Ya|exact pcM|(simp at qah384 qbh384 qch384 ⊢;omega)|(simp at qah386 qbh386 qch386 ⊢;omega)|exact X0k) ?_
     intro h
     refine X2.join (s':=⟨fr [(4,(AV.ref 0 0 (Xf.length))),(5,AV.nils),(7,(AV.ptr 2 0 0)),(11,(AV.ptr 3 0 0)),(12,(AV.ptr 4 0 0)),(15,(Lf (X6d.map X4))),(16,(aI .i64 (X6d.length:Int))),(17,(aI .i64 (k:Int)))],hp ([(0,Ob (Xf.map Xc) 3),(2,Ob [(X4 x)] 5),(3,Ob [(X4 X09j)] 5),(4,Ob [(Xc (Xo.mk (k:Int) 1 1))] 3)]),5⟩) ?_ (fun J=>X2.cut ?_)
     ·
      revert h
      refine brI (fun h392=>?_) fun h392=>?_
      ·
       exact fun e=>X9 [Bt] (o:=by repeat' first|apply Ya|exact pcM|(simp at qah384 qbh384 qch384 ⊢;omega)|(simp at qah386 qbh386 qch386 ⊢;omega)|exact X0k) (k:=wkT [] (C1 _  nbF (oj e).symm))
      refine bI fun u393 h394=>bI fun u395 h396=>rnI [Bf,.no,.no] (o:=by repeat' first|apply Ya|exact pcM|(simp at qah384 qbh384 qch384 ⊢;omega)|(simp at qah386 qbh386 qch386 ⊢;omega)|(refine X0a h394 rfl ?_;first|(simp;done)|(simp;omega)|(simp[hc,h377,h387,h392];done)|(simp[hc,h377,h387,h392];omega))|(refine Xs h394 (by decide) ?_;first|(simp;done)|(simp;omega)|(simp[hc,h377,h387,h392];done)|(simp[hc,h377,h387,h392];omega))|(refine X0a h396 rfl ?_;first|(simp;done)|(simp;omega)|(simp[hc,h377,h387,h392];done)|(simp[hc,h377,h387,h392];omega))|(refine Xs h396 (by decide) ?_;first|(simp;done)|(simp;omega)|(simp[hc,h377,h387,h392];done)|(simp[hc,h377,h387,h392];omega))|exact X0k) ?_
      intro h
      exact wkT [(0,8),(1,6)] (ih (k+1) hx1 _ _ nbF nbF o h C0 C1)
     clear h;revert h391
     refine brI (fun h390=>?_) fun h390=>?_
     ·
      intro h
      obtain rfl:=oj h
      exact X9 [Bt] (o:=by repeat' first|apply Ya|exact pcM|(simp at qah384 qbh384 qch384 ⊢;omega)|(simp at qah386 qbh386 qch386 ⊢;omega)|exact X0k) (k:=wkT [(3,17),(4,18)] (X2.glue J))
     intro h
     obtain rfl:=oj h
     exact X9 [Bf] (o:=by repeat' first|apply Ya|exact pcM|(simp at qah384 qbh384 qch384 ⊢;omega)|(simp at qah386 qbh386 qch386 ⊢;omega)|exact X0k) (k:=wkT [(3,17),(4,18)] (X2.glue J))
    intro h
    exact absurd h387 (by simp)
   clear h;revert h376
   refine brI (fun h375=>?_) fun h375=>?_
   ·
    intro h
    obtain rfl:=oj h
    exact X9 [.go false,.go false,.go false,.go false] (k:=wkT [] (X2.glue J))
   intro h
   obtain rfl:=oj h
   exact X9 [.go true,.go true,.go true,.el (aI .i64 (List.length ([]:List Xo):Int)),.go true] (k:=wkT [] (X2.glue J))
  obtain rfl:=X1b rfl
  rcases Xl with ⟨_|_,X04⟩
  ·
   refine X2.round ?_
   revert h
   refine bI fun v397 h398=>bI fun X09h h402=>rnI [Bt,.el (X4 x),.pure _ (AV.tup [(aI .i64 v397.1),(aI .i64 v397.2)]),.stop 6] ?_
   intro h
   refine X2.join (s':=⟨fr [(4,AV.nils),(5,(AV.ref 1 0 (Xi.length))),(6,(aI .i64 (k:Int))),(7,(AV.ptr 2 0 0)),(8,(aI .i64 v397.1)),(15,(Lf (X6d.map X4))),(16,(aI .i64 (X6d.length:Int))),(17,(aI .i64 (k:Int))),(35,(aB X09h))],hp ([(1,Ob (Xi.map Xc) 3),(2,Ob [(X4 x)] 5)]),3⟩) ?_ (fun J=>X2.cut ?_)
   ·
    revert h
    refine brI (fun h403=>fun e=>X9 [Bt] (k:=wkT [] (C1 _  nbS (oj e).symm))) fun h403=>rnI [Bf] ?_
    intro h
    refine X2.inline Xa X06e rfl rfl rfl rfl rfl trivial trivial rfl rfl ?_
    revert h
    refine bI fun m409 h410=>?_
    obtain⟨qah410,qbh410,qch410,qh410⟩:=X3q h410
    have qlh410:=X7w h410
    refine bI fun m411 h412=>?_
    obtain⟨qah412,qbh412,qch412,qh412⟩:=X3q h412
    have qlh412:=X7w h412
    refine brI (fun h413=>?_) fun h413=>?_
    ·
     refine rnI [.el (aI .i64 (Xi.length:Int)),.wrap,.via (.ref 1 0 (m409.length)),.el (aI .i64 (Xi.length:Int)),.wrap,.ne false] (o:=by repeat' first|apply Ya|exact pcM|(simp at qah410 qbh410 qch410 ⊢;omega)|(simp at qah410 qbh410 qch410 qlh410 ⊢;omega)|(simp;done)|(simp at qah412 qbh412 qch412 ⊢;omega)|(simp at qah412 qbh412 qch412 qlh412 ⊢;have qz:=X3r h413;omega)|exact X0k) ?_
     intro h
     refine X2.back (by intro id h;cases h) rfl ?_
     refine X10 [] (o:=by repeat' first|apply Ya|exact pcM|(simp at qah410 qbh410 qch410 ⊢;omega)|(simp at qah410 qbh410 qch410 qlh410 ⊢;omega)|(simp;done)|(simp at qah412 qbh412 qch412 ⊢;omega)|(simp at qah412 qbh412 qch412 qlh412 ⊢;have qz:=X3r h413;omega)|exact X0k) ?_
     refine X2.round ?_
     revert h
     refine bI fun X09g h417=>rnI [Bf] (o:=by repeat' first|apply Ya|exact pcM|(simp at qah410 qbh410 qch410 ⊢;omega)|(simp at qah410 qbh410 qch410 qlh410 ⊢;omega)|(simp;done)|(simp at qah412 qbh412 qch412 ⊢;omega)|(simp at qah412 qbh412 qch412 qlh412 ⊢;have qz:=X3r h413;omega)|exact X0k) ?_
     intro h
     refine X2.join (s':=⟨fr [(4,AV.nils),(5,(AV.ref 1 0 (m409.length))),(7,(AV.ptr 2 0 0)),(11,(AV.ptr 3 0 0)),(12,(AV.ptr 4 0 0)),(15,(Lf (X6d.map X4))),(16,(aI .i64 (X6d.length:Int))),(17,(aI .i64 (k:Int)))],hp ([(1,Ob (Xi.map Xc) 3),(2,Ob [(X4 x)] 5),(3,Ob [(X4 X09g)] 5),(4,Ob [(Xc (Xo.mk (k:Int) 1 1))] 3)]),5⟩) ?_ (fun J=>X2.cut ?_)
     ·
      revert h
      refine brI (fun h418=>?_) fun h418=>?_
      ·
       exact fun e=>X9 [Bt] (o:=by repeat' first|apply Ya|exact pcM|(simp at qah410 qbh410 qch410 ⊢;omega)|(simp at qah410 qbh410 qch410 qlh410 ⊢;omega)|(simp;done)|(simp at qah412 qbh412 qch412 ⊢;omega)|(simp at qah412 qbh412 qch412 qlh412 ⊢;have qz:=X3r h413;omega)|exact X0k) (k:=wkT [] (C1 _  nbS (oj e).symm))
      refine bI fun u419 h420=>bI fun u421 h422=>rnI [Bf,.trunc 1 (m409.map Xc),.no,.no] (o:=by repeat' first|apply Ya|exact pcM|(simp at qah410 qbh410 qch410 ⊢;omega)|(simp at qah410 qbh410 qch410 qlh410 ⊢;omega)|(simp;done)|(simp at qah412 qbh412 qch412 ⊢;omega)|(simp at qah412 qbh412 qch412 qlh412 ⊢;have qz:=X3r h413;omega)|(refine X0a h420 rfl ?_;first|(simp;done)|(simp;omega)|(simp[hc,h403,h413,h418];done)|(simp[hc,h403,h413,h418];omega))|(refine Xs h420 (by decide) ?_;first|(simp;done)|(simp;omega)|(simp[hc,h403,h413,h418];done)|(simp[hc,h403,h413,h418];omega))|exact(Xaw (f:=Xc) qh410)|(refine X0a h422 rfl ?_;first|(simp;done)|(simp;omega)|(simp[hc,h403,h413,h418];done)|(simp[hc,h403,h413,h418];omega))|(refine Xs h422 (by decide) ?_;first|(simp;done)|(simp;omega)|(simp[hc,h403,h413,h418];done)|(simp[hc,h403,h413,h418];omega))|exact X0k) ?_
      intro h
      exact wkT [(0,8),(1,6)] (ih (k+1) hx1 _ _ nbF nbF o h C0 C1)
     clear h;revert h417
     refine brI (fun h416=>?_) fun h416=>?_
     ·
      intro h
      obtain rfl:=oj h
      exact X9 [Bt] (o:=by repeat' first|apply Ya|exact pcM|(simp at qah410 qbh410 qch410 ⊢;omega)|(simp at qah410 qbh410 qch410 qlh410 ⊢;omega)|(simp;done)|(simp at qah412 qbh412 qch412 ⊢;omega)|(simp at qah412 qbh412 qch412 qlh412 ⊢;have qz:=X3r h413;omega)|exact X0k) (k:=wkT [(3,17),(4,18)] (X2.glue J))
     intro h
     obtain rfl:=oj h
     exact X9 [Bf] (o:=by repeat' first|apply Ya|exact pcM|(simp at qah410 qbh410 qch410 ⊢;omega)|(simp at qah410 qbh410 qch410 qlh410 ⊢;omega)|(simp;done)|(simp at qah412 qbh412 qch412 ⊢;omega)|(simp at qah412 qbh412 qch412 qlh412 ⊢;have qz:=X3r h413;omega)|exact X0k) (k:=wkT [(3,17),(4,18)] (X2.glue J))
    refine rnI [.el (aI .i64 (Xi.length:Int)),.wrap,.via (.ref 1 0 (m409.length)),.el (aI .i64 (Xi.length:Int)),.wrap,.via (.ref 1 (Int.toNat (IntKind.i64.wrap ((Xi.length:Int) - v397.1))) (m411.length))] (o:=by repeat' first|apply Ya|exact pcM|(simp at qah410 qbh410 qch410 ⊢;omega)|(simp at qah410 qbh410 qch410 qlh410 ⊢;omega)|(simp;done)|(simp at qah412 qbh412 qch412 ⊢;omega)|(simp at qah412 qbh412 qch412 qlh412 ⊢;have qz:=X16 h413;omega)|(simp at qah412 qbh412 qch412 qlh412 ⊢;omega)|exact X0k) ?_
    intro h
    refine X2.back (by intro id h;cases h) rfl ?_
    revert h
    refine brI (fun h423=>?_) fun h423=>?_
    ·
     refine rnI [.el (aI .i64 (m411.length:Int))] (o:=by repeat' first|apply Ya|exact pcM|(simp at qah410 qbh410 qch410 ⊢;omega)|(simp at qah410 qbh410 qch410 qlh410 ⊢;omega)|(simp;done)|(simp at qah412 qbh412 qch412 ⊢;omega)|(simp at qah412 qbh412 qch412 qlh412 ⊢;have qz:=X16 h413;omega)|(simp at qah412 qbh412 qch412 qlh412 ⊢;omega)|(have hp:=eq_of_beq h423;simp[hp];done)|(have hp:=eq_of_beq h423;simp at hp ⊢;omega)|(have hp:=eq_of_beq h423;subst hp;decide +kernel)|exact X0k) ?_
     intro h
     refine X2.round ?_
     revert h
     refine bI fun e424 h425=>?_
     try have qh425:=Xn h425
     refine rnI [Bt,.el (Xc e424),.ld (Xc e424),Bt,.wrap,.wrap] (o:=by repeat' first|apply Ya|exact pcM|(simp at qah410 qbh410 qch410 ⊢;omega)|(simp at qah410 qbh410 qch410 qlh410 ⊢;omega)|(simp;done)|(simp at qah412 qbh412 qch412 ⊢;omega)|(simp at qah412 qbh412 qch412 qlh412 ⊢;have qz:=X16 h413;omega)|(simp at qah412 qbh412 qch412 qlh412 ⊢;omega)|(have hp:=eq_of_beq h423;simp[hp];done)|(have hp:=eq_of_beq h423;simp at hp ⊢;omega)|(have hp:=eq_of_beq h423;subst hp;decide +kernel)|exact(Xjd (f:=Xc) qh412 h425)|exact(Xn h425)|exact(X9x h425)|exact X0k) ?_
     intro h
     refine X2.round ?_
     revert h
     refine bI fun X09f h429=>rnI [Bf] (o:=by repeat' first|apply Ya|exact pcM|(simp at qah410 qbh410 qch410 ⊢;omega)|(simp at qah410 qbh410 qch410 qlh410 ⊢;omega)|(simp;done)|(simp at qah412 qbh412 qch412 ⊢;omega)|(simp at qah412 qbh412 qch412 qlh412 ⊢;have qz:=X16 h413;omega)|(simp at qah412 qbh412 qch412 qlh412 ⊢;omega)|(have hp:=eq_of_beq h423;simp[hp];done)|(have hp:=eq_of_beq h423;simp at hp ⊢;omega)|(have hp:=eq_of_beq h423;subst hp;decide +kernel)|exact X0k) ?_
     intro h
     refine X2.join (s':=⟨fr [(4,AV.nils),(5,(AV.ref 1 0 (m409.length))),(7,(AV.ptr 2 0 0)),(11,(AV.ptr 3 0 0)),(12,(AV.ptr 4 0 0)),(15,(Lf (X6d.map X4))),(16,(aI .i64 (X6d.length:Int))),(17,(aI .i64 (k:Int)))],hp ([(1,Ob (Xi.map Xc) 3),(2,Ob [(X4 x)] 5),(3,Ob [(X4 X09f)] 5),(4,Ob [(Xc (Xo.mk (k:Int) (IntKind.i64.wrap (1+e424.size)) (if (IntKind.i64.wrap (e424.depth+1))>1 then (IntKind.i64.wrap (e424.depth+1)) else 1)))] 3)]),5⟩) ?_ (fun J=>X2.cut ?_)
     ·
      revert h
      refine brI (fun h430=>?_) fun h430=>?_
      ·
       exact fun e=>X9 [Bt] (o:=by repeat' first|apply Ya|exact pcM|(simp at qah410 qbh410 qch410 ⊢;omega)|(simp at qah410 qbh410 qch410 qlh410 ⊢;omega)|(simp;done)|(simp at qah412 qbh412 qch412 ⊢;omega)|(simp at qah412 qbh412 qch412 qlh412 ⊢;have qz:=X16 h413;omega)|(simp at qah412 qbh412 qch412 qlh412 ⊢;omega)|(have hp:=eq_of_beq h423;simp[hp];done)|(have hp:=eq_of_beq h423;simp at hp ⊢;omega)|(have hp:=eq_of_beq h423;subst hp;decide +kernel)|exact X0k) (k:=wkT [] (C1 _  nbS (oj e).symm))
      refine bI fun u431 h432=>bI fun u433 h434=>rnI [Bf,.trunc 1 (m409.map Xc),.no,.no] (o:=by repeat' first|apply Ya|exact pcM|(simp at qah410 qbh410 qch410 ⊢;omega)|(simp at qah410 qbh410 qch410 qlh410 ⊢;omega)|(simp;done)|(simp at qah412 qbh412 qch412 ⊢;omega)|(simp at qah412 qbh412 qch412 qlh412 ⊢;have qz:=X16 h413;omega)|(simp at qah412 qbh412 qch412 qlh412 ⊢;omega)|(have hp:=eq_of_beq h423;simp[hp];done)|(have hp:=eq_of_beq h423;simp at hp ⊢;omega)|(have hp:=eq_of_beq h423;subst hp;decide +kernel)|(refine X0a h432 rfl ?_;first|(simp;done)|(simp;omega)|(simp[hc,h403,h413,h423,h430];done)|(simp[hc,h403,h413,h423,h430];omega))|(refine Xs h432 (by decide) ?_;first|(simp;done)|(simp;omega)|(simp[hc,h403,h413,h423,h430];done)|(simp[hc,h403,h413,h423,h430];omega))|exact(Xaw (f:=Xc) qh410)|(refine X0a h434 rfl ?_;first|(simp;done)|(simp;omega)|(simp[hc,h403,h413,h423,h430];done)|(simp[hc,h403,h413,h423,h430];omega))|(refine Xs h434 (by decide) ?_;first|(simp;done)|(simp;omega)|(simp[hc,h403,h413,h423,h430];done)|(simp[hc,h403,h413,h423,h430];omega))|exact X0k) ?_
      intro h
      exact wkT [(0,8),(1,6)] (ih (k+1) hx1 _ _ nbF nbF o h C0 C1)
     clear h;revert h429
     refine brI (fun h428=>?_) fun h428=>?_
     ·
      intro h
      obtain rfl:=oj h
      exact X9 [Bt] (o:=by repeat' first|apply Ya|exact pcM|(simp at qah410 qbh410 qch410 ⊢;omega)|(simp at qah410 qbh410 qch410 qlh410 ⊢;omega)|(simp;done)|(simp at qah412 qbh412 qch412 ⊢;omega)|(simp at qah412 qbh412 qch412 qlh412 ⊢;have qz:=X16 h413;omega)|(simp at qah412 qbh412 qch412 qlh412 ⊢;omega)|(have hp:=eq_of_beq h423;simp[hp];done)|(have hp:=eq_of_beq h423;simp at hp ⊢;omega)|(have hp:=eq_of_beq h423;subst hp;decide +kernel)|exact X0k) (k:=wkT [(3,17),(4,18)] (X2.glue J))
     intro h
     obtain rfl:=oj h
     exact X9 [Bf] (o:=by repeat' first|apply Ya|exact pcM|(simp at qah410 qbh410 qch410 ⊢;omega)|(simp at qah410 qbh410 qch410 qlh410 ⊢;omega)|(simp;done)|(simp at qah412 qbh412 qch412 ⊢;omega)|(simp at qah412 qbh412 qch412 qlh412 ⊢;have qz:=X16 h413;omega)|(simp at qah412 qbh412 qch412 qlh412 ⊢;omega)|(have hp:=eq_of_beq h423;simp[hp];done)|(have hp:=eq_of_beq h423;simp at hp ⊢;omega)|(have hp:=eq_of_beq h423;subst hp;decide +kernel)|exact X0k) (k:=wkT [(3,17),(4,18)] (X2.glue J))
    refine brI (fun h435=>?_) fun h435=>?_
    ·
     refine rnI [.el (aI .i64 (m411.length:Int))] (o:=by repeat' first|apply Ya|exact pcM|(simp at qah410 qbh410 qch410 ⊢;omega)|(simp at qah410 qbh410 qch410 qlh410 ⊢;omega)|(simp;done)|(simp at qah412 qbh412 qch412 ⊢;omega)|(simp at qah412 qbh412 qch412 qlh412 ⊢;have qz:=X16 h413;omega)|(simp at qah412 qbh412 qch412 qlh412 ⊢;omega)|(have hp:=eq_of_beq h435;simp[hp];done)|(have hp:=eq_of_beq h435;simp at hp ⊢;omega)|(have hp:=eq_of_beq h435;subst hp;decide +kernel)|exact X0k) ?_
     intro h
     refine X2.round ?_
     revert h
     refine bI fun e436 h437=>?_
     try have qh437:=Xn h437
     refine rnI [Bt,.el (Xc e436),.ld (Xc e436),Bt,.wrap,.wrap] (o:=by repeat' first|apply Ya|exact pcM|(simp at qah410 qbh410 qch410 ⊢;omega)|(simp at qah410 qbh410 qch410 qlh410 ⊢;omega)|(simp;done)|(simp at qah412 qbh412 qch412 ⊢;omega)|(simp at qah412 qbh412 qch412 qlh412 ⊢;have qz:=X16 h413;omega)|(simp at qah412 qbh412 qch412 qlh412 ⊢;omega)|(have hp:=eq_of_beq h435;simp[hp];done)|(have hp:=eq_of_beq h435;simp at hp ⊢;omega)|(have hp:=eq_of_beq h435;subst hp;decide +kernel)|exact(Xjd (f:=Xc) qh412 h437)|exact(Xn h437)|exact(X9x h437)|exact X0k) ?_
     intro h
     refine X2.round ?_
     revert h
     refine bI fun e438 h439=>?_
     try have qh439:=Xn h439
     refine rnI [Bt,.el (Xc e438),.ld (Xc e438),Bf,.wrap,.wrap] (o:=by repeat' first|apply Ya|exact pcM|(simp at qah410 qbh410 qch410 ⊢;omega)|(simp at qah410 qbh410 qch410 qlh410 ⊢;omega)|(simp;done)|(simp at qah412 qbh412 qch412 ⊢;omega)|(simp at qah412 qbh412 qch412 qlh412 ⊢;have qz:=X16 h413;omega)|(simp at qah412 qbh412 qch412 qlh412 ⊢;omega)|(have hp:=eq_of_beq h435;simp[hp];done)|(have hp:=eq_of_beq h435;simp at hp ⊢;omega)|(have hp:=eq_of_beq h435;subst hp;decide +kernel)|exact(Xjd (f:=Xc) qh412 h439)|exact(Xn h439)|exact(X9x h439)|exact X0k) ?_
     intro h
     refine X2.round ?_
     revert h
     refine bI fun X09e h443=>rnI [Bf] (o:=by repeat' first|apply Ya|exact pcM|(simp at qah410 qbh410 qch410 ⊢;omega)|(simp at qah410 qbh410 qch410 qlh410 ⊢;omega)|(simp;done)|(simp at qah412 qbh412 qch412 ⊢;omega)|(simp at qah412 qbh412 qch412 qlh412 ⊢;have qz:=X16 h413;omega)|(simp at qah412 qbh412 qch412 qlh412 ⊢;omega)|(have hp:=eq_of_beq h435;simp[hp];done)|(have hp:=eq_of_beq h435;simp at hp ⊢;omega)|(have hp:=eq_of_beq h435;subst hp;decide +kernel)|exact X0k) ?_
     intro h
     refine X2.join (s':=⟨fr [(4,AV.nils),(5,(AV.ref 1 0 (m409.length))),(7,(AV.ptr 2 0 0)),(11,(AV.ptr 3 0 0)),(12,(AV.ptr 4 0 0)),(15,(Lf (X6d.map X4))),(16,(aI .i64 (X6d.length:Int))),(17,(aI .i64 (k:Int)))],hp ([(1,Ob (Xi.map Xc) 3),(2,Ob [(X4 x)] 5),(3,Ob [(X4 X09e)] 5),(4,Ob [(Xc (Xo.mk (k:Int) (IntKind.i64.wrap ((IntKind.i64.wrap (1+e436.size))+e438.size)) (if (IntKind.i64.wrap (e438.depth+1))>(if (IntKind.i64.wrap (e436.depth+1))>1 then (IntKind.i64.wrap (e436.depth+1)) else 1) then (IntKind.i64.wrap (e438.depth+1)) else (if (IntKind.i64.wrap (e436.depth+1))>1 then (IntKind.i64.wrap (e436.depth+1)) else 1))))] 3)]),5⟩) ?_ (fun J=>X2.cut ?_)
     ·
      revert h
      refine brI (fun h444=>?_) fun h444=>?_
      ·
       exact fun e=>X9 [Bt] (o:=by repeat' first|apply Ya|exact pcM|(simp at qah410 qbh410 qch410 ⊢;omega)|(simp at qah410 qbh410 qch410 qlh410 ⊢;omega)|(simp;done)|(simp at qah412 qbh412 qch412 ⊢;omega)|(simp at qah412 qbh412 qch412 qlh412 ⊢;have qz:=X16 h413;omega)|(simp at qah412 qbh412 qch412 qlh412 ⊢;omega)|(have hp:=eq_of_beq h435;simp[hp];done)|(have hp:=eq_of_beq h435;simp at hp ⊢;omega)|(have hp:=eq_of_beq h435;subst hp;decide +kernel)|exact X0k) (k:=wkT [] (C1 _  nbS (oj e).symm))
      refine bI fun u445 h446=>bI fun u447 h448=>rnI [Bf,.trunc 1 (m409.map Xc),.no,.no] (o:=by repeat' first|apply Ya|exact pcM|(simp at qah410 qbh410 qch410 ⊢;omega)|(simp at qah410 qbh410 qch410 qlh410 ⊢;omega)|(simp;done)|(simp at qah412 qbh412 qch412 ⊢;omega)|(simp at qah412 qbh412 qch412 qlh412 ⊢;have qz:=X16 h413;omega)|(simp at qah412 qbh412 qch412 qlh412 ⊢;omega)|(have hp:=eq_of_beq h435;simp[hp];done)|(have hp:=eq_of_beq h435;simp at hp ⊢;omega)|(have hp:=eq_of_beq h435;subst hp;decide +kernel)|(refine X0a h446 rfl ?_;first|(simp;done)|(simp;omega)|(simp[hc,h403,h413,h423,h435,h444];done)|(simp[hc,h403,h413,h423,h435,h444];omega))|(refine Xs h446 (by decide) ?_;first|(simp;done)|(simp;omega)|(simp[hc,h403,h413,h423,h435,h444];done)|(simp[hc,h403,h413,h423,h435,h444];omega))|exact(Xaw (f:=Xc) qh410)|(refine X0a h448 rfl ?_;first|(simp;done)|(simp;omega)|(simp[hc,h403,h413,h423,h435,h444];done)|(simp[hc,h403,h413,h423,h435,h444];omega))|(refine Xs h448 (by decide) ?_;first|(simp;done)|(simp;omega)|(simp[hc,h403,h413,h423,h435,h444];done)|(simp[hc,h403,h413,h423,h435,h444];omega))|exact X0k) ?_
      intro h
      exact wkT [(0,8),(1,6)] (ih (k+1) hx1 _ _ nbF nbF o h C0 C1)
     clear h;revert h443
     refine brI (fun h442=>?_) fun h442=>?_
     ·
      intro h
      obtain rfl:=oj h
      exact X9 [Bt] (o:=by repeat' first|apply Ya|exact pcM|(simp at qah410 qbh410 qch410 ⊢;omega)|(simp at qah410 qbh410 qch410 qlh410 ⊢;omega)|(simp;done)|(simp at qah412 qbh412 qch412 ⊢;omega)|(simp at qah412 qbh412 qch412 qlh412 ⊢;have qz:=X16 h413;omega)|(simp at qah412 qbh412 qch412 qlh412 ⊢;omega)|(have hp:=eq_of_beq h435;simp[hp];done)|(have hp:=eq_of_beq h435;simp at hp ⊢;omega)|(have hp:=eq_of_beq h435;subst hp;decide +kernel)|exact X0k) (k:=wkT [(3,17),(4,18)] (X2.glue J))
     intro h
     obtain rfl:=oj h
     exact X9 [Bf] (o:=by repeat' first|apply Ya|exact pcM|(simp at qah410 qbh410 qch410 ⊢;omega)|(simp at qah410 qbh410 qch410 qlh410 ⊢;omega)|(simp;done)|(simp at qah412 qbh412 qch412 ⊢;omega)|(simp at qah412 qbh412 qch412 qlh412 ⊢;have qz:=X16 h413;omega)|(simp at qah412 qbh412 qch412 qlh412 ⊢;omega)|(have hp:=eq_of_beq h435;simp[hp];done)|(have hp:=eq_of_beq h435;simp at hp ⊢;omega)|(have hp:=eq_of_beq h435;subst hp;decide +kernel)|exact X0k) (k:=wkT [(3,17),(4,18)] (X2.glue J))
    intro h
    cases h
   clear h;revert h402
   refine brI (fun h401=>?_) fun h401=>?_
   ·
    intro h
    obtain rfl:=oj h
    exact X9 [.go false,.go false,.go false,.go false] (k:=wkT [] (X2.glue J))
   intro h
   obtain rfl:=oj h
   exact X9 [.go true,.go true,.go true,.el (aI .i64 (Xi.length:Int)),.go true] (k:=wkT [] (X2.glue J))
  obtain rfl:=X04 rfl
  refine X2.round ?_
  revert h
  refine bI fun v449 h450=>bI fun X09d h454=>rnI [Bt,.el (X4 x),.pure _ (AV.tup [(aI .i64 v449.1),(aI .i64 v449.2)]),.stop 6] ?_
  intro h
  refine X2.join (s':=⟨fr [(4,AV.nils),(5,AV.nils),(6,(aI .i64 (k:Int))),(7,(AV.ptr 2 0 0)),(8,(aI .i64 v449.1)),(15,(Lf (X6d.map X4))),(16,(aI .i64 (X6d.length:Int))),(17,(aI .i64 (k:Int))),(35,(aB X09d))],hp ([(2,Ob [(X4 x)] 5)]),3⟩) ?_ (fun J=>X2.cut ?_)
  ·
   revert h
   refine brI (fun h455=>fun e=>X9 [Bt] (k:=wkT [] (C1 _  nbS (oj e).symm))) fun h455=>rnI [Bf] ?_
   intro h
   refine X2.inline Xa X06e rfl rfl rfl rfl rfl trivial trivial rfl rfl ?_
   revert h
   refine bI fun m461 h462=>?_
   obtain⟨qah462,qbh462,qch462,qh462⟩:=X3q h462
   obtain rfl:=Xau h462
   refine bI fun m463 h464=>?_
   obtain⟨qah464,qbh464,qch464,qh464⟩:=X3q h464
   obtain rfl:=Xau h464
   refine brI (fun h465=>?_) fun h465=>?_
   ·
    refine rnI [.el (aI .i64 (List.length ([]:List Xo):Int)),.wrap,.el (aI .i64 (List.length ([]:List Xo):Int)),.wrap] (o:=by repeat' first|apply Ya|exact pcM|(simp at qah462 qbh462 qch462 ⊢;omega)|(simp at qah464 qbh464 qch464 ⊢;omega)|exact X0k) ?_
    intro h
    refine X2.back (by intro id h;cases h) rfl ?_
    refine X10 [] (o:=by repeat' first|apply Ya|exact pcM|(simp at qah462 qbh462 qch462 ⊢;omega)|(simp at qah464 qbh464 qch464 ⊢;omega)|exact X0k) ?_
    refine X2.round ?_
    revert h
    refine bI fun X09c h469=>rnI [Bf] (o:=by repeat' first|apply Ya|exact pcM|(simp at qah462 qbh462 qch462 ⊢;omega)|(simp at qah464 qbh464 qch464 ⊢;omega)|exact X0k) ?_
    intro h
    refine X2.join (s':=⟨fr [(4,AV.nils),(5,AV.nils),(7,(AV.ptr 2 0 0)),(11,(AV.ptr 3 0 0)),(12,(AV.ptr 4 0 0)),(15,(Lf (X6d.map X4))),(16,(aI .i64 (X6d.length:Int))),(17,(aI .i64 (k:Int)))],hp ([(2,Ob [(X4 x)] 5),(3,Ob [(X4 X09c)] 5),(4,Ob [(Xc (Xo.mk (k:Int) 1 1))] 3)]),5⟩) ?_ (fun J=>X2.cut ?_)
    ·
     revert h
     refine brI (fun h470=>?_) fun h470=>?_
     ·
      exact fun e=>X9 [Bt] (o:=by repeat' first|apply Ya|exact pcM|(simp at qah462 qbh462 qch462 ⊢;omega)|(simp at qah464 qbh464 qch464 ⊢;omega)|exact X0k) (k:=wkT [] (C1 _  nbS (oj e).symm))
     refine bI fun u471 h472=>bI fun u473 h474=>rnI [Bf,.no,.no] (o:=by repeat' first|apply Ya|exact pcM|(simp at qah462 qbh462 qch462 ⊢;omega)|(simp at qah464 qbh464 qch464 ⊢;omega)|(refine X0a h472 rfl ?_;first|(simp;done)|(simp;omega)|(simp[hc,h455,h465,h470];done)|(simp[hc,h455,h465,h470];omega))|(refine Xs h472 (by decide) ?_;first|(simp;done)|(simp;omega)|(simp[hc,h455,h465,h470];done)|(simp[hc,h455,h465,h470];omega))|(refine X0a h474 rfl ?_;first|(simp;done)|(simp;omega)|(simp[hc,h455,h465,h470];done)|(simp[hc,h455,h465,h470];omega))|(refine Xs h474 (by decide) ?_;first|(simp;done)|(simp;omega)|(simp[hc,h455,h465,h470];done)|(simp[hc,h455,h465,h470];omega))|exact X0k) ?_
     intro h
     exact wkT [(0,8),(1,6)] (ih (k+1) hx1 _ _ nbF nbF o h C0 C1)
    clear h;revert h469
    refine brI (fun h468=>?_) fun h468=>?_
    ·
     intro h
     obtain rfl:=oj h
     exact X9 [Bt] (o:=by repeat' first|apply Ya|exact pcM|(simp at qah462 qbh462 qch462 ⊢;omega)|(simp at qah464 qbh464 qch464 ⊢;omega)|exact X0k) (k:=wkT [(3,17),(4,18)] (X2.glue J))
    intro h
    obtain rfl:=oj h
    exact X9 [Bf] (o:=by repeat' first|apply Ya|exact pcM|(simp at qah462 qbh462 qch462 ⊢;omega)|(simp at qah464 qbh464 qch464 ⊢;omega)|exact X0k) (k:=wkT [(3,17),(4,18)] (X2.glue J))
   intro h
   exact absurd h465 (by simp)
  clear h;revert h454
  refine brI (fun h453=>?_) fun h453=>?_
  ·
   intro h
   obtain rfl:=oj h
   exact X9 [.go false,.go false,.go false,.go false] (k:=wkT [] (X2.glue J))
  intro h
  obtain rfl:=oj h
  exact X9 [.go true,.go true,.go true,.el (aI .i64 (List.length ([]:List Xo):Int)),.go true] (k:=wkT [] (X2.glue J))
end Go.Av.Tryz