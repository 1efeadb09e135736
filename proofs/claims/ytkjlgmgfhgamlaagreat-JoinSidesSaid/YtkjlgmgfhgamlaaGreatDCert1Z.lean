/- Printed by decomp.py: that the program computes the functions. -/
import Derived.Test.YtkjlgmgfhgamlaaGreatDCert0Z
set_option linter.all false

namespace Go.Av.Tryz
open Go.Proofs Go.D
set_option maxRecDepth 10000
set_option maxHeartbeats 40000000
theorem Xfx {Q:X00->St->Mu->Prop} {μ:Mu} (X2z:(List X07)) (hl:X2z.length<=140737488355328):∀ (xs:List X07) (k:Nat) (hx:X2z.drop k=xs) (Xt:(List Xg)) (Xp:(List Xg)) (X22:Nb Xt) (Xv:Nb Xp) (o:X56) (h:X28 X2z xs k Xt Xp=some o)
  (C0:∀ (X0a:(List Xg)) (X09:(List Xg)) (X0r:Nb X0a) (X0m:Nb X09),o=X56.x0 X0a X09->X3 Tryz.prog 105 0 Q (.exit (.exit 0)) [] ⟨fr [(4,(slE X0r.1 0 (X0a.map X8))),(5,(slE X0m.1 1 (X09.map X8)))],hp ([]++opE X0r.1 0 3 (X0a.map X8)++opE X0m.1 1 3 (X09.map X8)),2⟩ μ)
  (C1:∀ (X1l:(List Xg)) (X1g:Nb X1l),o=X56.x1 X1l->X3 Tryz.prog 105 0 Q (.exit .ret) [] ⟨fr [(2,(slE X1g.1 0 (X1l.map X8))),(3,(aB false))],hp ([]++opE X1g.1 0 3 (X1l.map X8)),1⟩ μ),
  X3 Tryz.prog 105 0 Q (.loop (X5f 0 (Xi Tryz.f197))) [] ⟨fr [(4,(slE X22.1 0 (Xt.map X8))),(5,(slE Xv.1 1 (Xp.map X8))),(15,(Lf (X2z.map X5))),(16,(aI .i64 (X2z.length:Int))),(17,(aI .i64 (k:Int)))],hp ([]++opE X22.1 0 3 (Xt.map X8)++opE Xv.1 1 3 (Xp.map X8)),2⟩ μ:=by
 intro xs
 induction xs with
 |nil =>
  intro k hx Xt Xp X22 Xv o h C0 C1
  have hk:=drop_nil hx
  have hc:decide ((k:Int)<(X2z.length:Int))=false:=Yf (by omega)
  rw[X28] at h
  rcases X22 with ⟨_|_,X5i⟩
  ·
   rcases Xv with ⟨_|_,X0h⟩
   ·
    refine X3.round ?_
    revert h
    exact fun e=>X9 [Bf] (k:=wkT [] (C0 _ _  nbF nbF (oj e).symm))
   obtain rfl:=X0h rfl
   refine X3.round ?_
   revert h
   exact fun e=>X9 [Bf] (k:=wkT [] (C0 _ _  nbF nbS (oj e).symm))
  ·
   obtain rfl:=X5i rfl
   rcases Xv with ⟨_|_,X0h⟩
   ·
    refine X3.round ?_
    revert h
    exact fun e=>X9 [Bf] (k:=wkT [] (C0 _ _  nbS nbF (oj e).symm))
   ·
    obtain rfl:=X0h rfl
    refine X3.round ?_
    revert h
    exact fun e=>X9 [Bf] (k:=wkT [] (C0 _ _  nbS nbS (oj e).symm))
 |cons x xs ih =>
  intro k hx Xt Xp X22 Xv o h C0 C1
  obtain⟨hk,hg,hx1⟩:=X15 hx
  have hc:decide ((k:Int)<(X2z.length:Int))=true:=Yt (by omega)
  rw[X28] at h
  rcases X22 with ⟨_|_,X5i⟩
  ·
   rcases Xv with ⟨_|_,X0h⟩
   ·
    refine X3.round ?_
    revert h
    refine bI fun v318 h319=>bI fun Xn9 h323=>rnI [Bt,.el (X5 x),.pure _ (AV.tup [(aI .i64 v318.1),(aI .i64 v318.2)]),.stop 6] ?_
    intro h
    refine X3.join (s':=⟨fr [(4,(AV.ref 0 0 (Xt.length))),(5,(AV.ref 1 0 (Xp.length))),(6,(aI .i64 (k:Int))),(7,(AV.ptr 2 0 0)),(8,(aI .i64 v318.1)),(15,(Lf (X2z.map X5))),(16,(aI .i64 (X2z.length:Int))),(17,(aI .i64 (k:Int))),(35,(aB Xn9))],hp ([(0,Ob (Xt.map X8) 3),(1,Ob (Xp.map X8) 3),(2,Ob [(X5 x)] 5)]),3⟩) ?_ (fun J=>X3.cut ?_)
    ·
     revert h
     refine brI (fun h324=>fun e=>X9 [Bt] (k:=wkT [] (C1 _  nbF (oj e).symm))) fun h324=>rnI [Bf] ?_
     intro h
     refine X3.inline X6 Xwd rfl rfl rfl rfl rfl trivial trivial rfl rfl ?_
     revert h
     refine bI fun m331 h332=>?_
     obtain⟨qah332,qbh332,qch332,qh332⟩:=X3t h332
     have qlh332:=X8d h332
     refine bI fun m333 h334=>?_
     obtain⟨qah334,qbh334,qch334,qh334⟩:=X3t h334
     have qlh334:=X8d h334
     refine brI (fun h335=>?_) fun h335=>?_
     ·
      refine rnI [.el (aI .i64 (Xp.length:Int)),.wrap,.via (.ref 1 0 (m331.length)),.el (aI .i64 (Xp.length:Int)),.wrap,.ne false] (o:=by repeat' first|apply Ya|exact pcM|(simp at qah332 qbh332 qch332 ⊢;omega)|(simp at qah332 qbh332 qch332 qlh332 ⊢;omega)|(simp;done)|(simp at qah334 qbh334 qch334 ⊢;omega)|(simp at qah334 qbh334 qch334 qlh334 ⊢;have qz:=X37 h335;omega)|exact Xu) ?_
      intro h
      refine X3.back (by intro id h;cases h) rfl ?_
      refine X0g [] (o:=by repeat' first|apply Ya|exact pcM|(simp at qah332 qbh332 qch332 ⊢;omega)|(simp at qah332 qbh332 qch332 qlh332 ⊢;omega)|(simp;done)|(simp at qah334 qbh334 qch334 ⊢;omega)|(simp at qah334 qbh334 qch334 qlh334 ⊢;have qz:=X37 h335;omega)|exact Xu) ?_
      refine X3.round ?_
      revert h
      refine bI fun Xn8 h339=>rnI [Bf] (o:=by repeat' first|apply Ya|exact pcM|(simp at qah332 qbh332 qch332 ⊢;omega)|(simp at qah332 qbh332 qch332 qlh332 ⊢;omega)|(simp;done)|(simp at qah334 qbh334 qch334 ⊢;omega)|(simp at qah334 qbh334 qch334 qlh334 ⊢;have qz:=X37 h335;omega)|exact Xu) ?_
      intro h
      refine X3.join (s':=⟨fr [(4,(AV.ref 0 0 (Xt.length))),(5,(AV.ref 1 0 (m331.length))),(7,(AV.ptr 2 0 0)),(11,(AV.ptr 3 0 0)),(12,(AV.ptr 4 0 0)),(15,(Lf (X2z.map X5))),(16,(aI .i64 (X2z.length:Int))),(17,(aI .i64 (k:Int)))],hp ([(0,Ob (Xt.map X8) 3),(1,Ob (Xp.map X8) 3),(2,Ob [(X5 x)] 5),(3,Ob [(X5 Xn8)] 5),(4,Ob [(X8 (Xg.mk (k:Int) 1 1))] 3)]),5⟩) ?_ (fun J=>X3.cut ?_)
      ·
       revert h
       refine brI (fun h340=>?_) fun h340=>?_
       ·
        exact fun e=>X9 [Bt] (o:=by repeat' first|apply Ya|exact pcM|(simp at qah332 qbh332 qch332 ⊢;omega)|(simp at qah332 qbh332 qch332 qlh332 ⊢;omega)|(simp;done)|(simp at qah334 qbh334 qch334 ⊢;omega)|(simp at qah334 qbh334 qch334 qlh334 ⊢;have qz:=X37 h335;omega)|exact Xu) (k:=wkT [] (C1 _  nbF (oj e).symm))
       refine bI fun u341 h342=>bI fun u343 h344=>rnI [Bf,.trunc 1 (m331.map X8),.no,.no] (o:=by repeat' first|apply Ya|exact pcM|(simp at qah332 qbh332 qch332 ⊢;omega)|(simp at qah332 qbh332 qch332 qlh332 ⊢;omega)|(simp;done)|(simp at qah334 qbh334 qch334 ⊢;omega)|(simp at qah334 qbh334 qch334 qlh334 ⊢;have qz:=X37 h335;omega)|(refine Xd h342 rfl ?_;first|(simp;done)|(simp;omega)|(simp[hc,h324,h335,h340];done)|(simp[hc,h324,h335,h340];omega))|(refine X7 h342 (by decide) ?_;first|(simp;done)|(simp;omega)|(simp[hc,h324,h335,h340];done)|(simp[hc,h324,h335,h340];omega))|exact(X8e (f:=X8) qh332)|(refine Xd h344 rfl ?_;first|(simp;done)|(simp;omega)|(simp[hc,h324,h335,h340];done)|(simp[hc,h324,h335,h340];omega))|(refine X7 h344 (by decide) ?_;first|(simp;done)|(simp;omega)|(simp[hc,h324,h335,h340];done)|(simp[hc,h324,h335,h340];omega))|exact Xu) ?_
       intro h
       exact wkT [(0,8),(1,6)] (ih (k+1) hx1 _ _ nbF nbF o h C0 C1)
      clear h;revert h339
      refine brI (fun h338=>?_) fun h338=>?_
      ·
       intro h
       obtain rfl:=oj h
       exact X9 [Bt] (o:=by repeat' first|apply Ya|exact pcM|(simp at qah332 qbh332 qch332 ⊢;omega)|(simp at qah332 qbh332 qch332 qlh332 ⊢;omega)|(simp;done)|(simp at qah334 qbh334 qch334 ⊢;omega)|(simp at qah334 qbh334 qch334 qlh334 ⊢;have qz:=X37 h335;omega)|exact Xu) (k:=wkT [(3,17),(4,18)] (X3.glue J))
      intro h
      obtain rfl:=oj h
      exact X9 [Bf] (o:=by repeat' first|apply Ya|exact pcM|(simp at qah332 qbh332 qch332 ⊢;omega)|(simp at qah332 qbh332 qch332 qlh332 ⊢;omega)|(simp;done)|(simp at qah334 qbh334 qch334 ⊢;omega)|(simp at qah334 qbh334 qch334 qlh334 ⊢;have qz:=X37 h335;omega)|exact Xu) (k:=wkT [(3,17),(4,18)] (X3.glue J))
     refine rnI [.el (aI .i64 (Xp.length:Int)),.wrap,.via (.ref 1 0 (m331.length)),.el (aI .i64 (Xp.length:Int)),.wrap,.via (.ref 1 (Int.toNat (IntKind.i64.wrap ((Xp.length:Int) - v318.1))) (m333.length))] (o:=by repeat' first|apply Ya|exact pcM|(simp at qah332 qbh332 qch332 ⊢;omega)|(simp at qah332 qbh332 qch332 qlh332 ⊢;omega)|(simp;done)|(simp at qah334 qbh334 qch334 ⊢;omega)|(simp at qah334 qbh334 qch334 qlh334 ⊢;have qz:=X0z h335;omega)|(simp at qah334 qbh334 qch334 qlh334 ⊢;omega)|exact Xu) ?_
     intro h
     refine X3.back (by intro id h;cases h) rfl ?_
     revert h
     refine brI (fun h345=>?_) fun h345=>?_
     ·
      refine rnI [.el (aI .i64 (m333.length:Int))] (o:=by repeat' first|apply Ya|exact pcM|(simp at qah332 qbh332 qch332 ⊢;omega)|(simp at qah332 qbh332 qch332 qlh332 ⊢;omega)|(simp;done)|(simp at qah334 qbh334 qch334 ⊢;omega)|(simp at qah334 qbh334 qch334 qlh334 ⊢;have qz:=X0z h335;omega)|(simp at qah334 qbh334 qch334 qlh334 ⊢;omega)|(have hp:=eq_of_beq h345;simp[hp];done)|(have hp:=eq_of_beq h345;simp at hp ⊢;omega)|(have hp:=eq_of_beq h345;subst hp;decide +kernel)|exact Xu) ?_
      intro h
      refine X3.round ?_
      revert h
      refine bI fun e346 h347=>?_
      try have qh347:=Xs h347
      refine rnI [Bt,.el (X8 e346),.ld (X8 e346),Bt,.wrap,.wrap] (o:=by repeat' first|apply Ya|exact pcM|(simp at qah332 qbh332 qch332 ⊢;omega)|(simp at qah332 qbh332 qch332 qlh332 ⊢;omega)|(simp;done)|(simp at qah334 qbh334 qch334 ⊢;omega)|(simp at qah334 qbh334 qch334 qlh334 ⊢;have qz:=X0z h335;omega)|(simp at qah334 qbh334 qch334 qlh334 ⊢;omega)|(have hp:=eq_of_beq h345;simp[hp];done)|(have hp:=eq_of_beq h345;simp at hp ⊢;omega)|(have hp:=eq_of_beq h345;subst hp;decide +kernel)|exact(Xek (f:=X8) qh334 h347)|exact(Xs h347)|exact(X7m h347)|exact Xu) ?_
      intro h
      refine X3.round ?_
      revert h
      refine bI fun Xn7 h351=>rnI [Bf] (o:=by repeat' first|apply Ya|exact pcM|(simp at qah332 qbh332 qch332 ⊢;omega)|(simp at qah332 qbh332 qch332 qlh332 ⊢;omega)|(simp;done)|(simp at qah334 qbh334 qch334 ⊢;omega)|(simp at qah334 qbh334 qch334 qlh334 ⊢;have qz:=X0z h335;omega)|(simp at qah334 qbh334 qch334 qlh334 ⊢;omega)|(have hp:=eq_of_beq h345;simp[hp];done)|(have hp:=eq_of_beq h345;simp at hp ⊢;omega)|(have hp:=eq_of_beq h345;subst hp;decide +kernel)|exact Xu) ?_
      intro h
      refine X3.join (s':=⟨fr [(4,(AV.ref 0 0 (Xt.length))),(5,(AV.ref 1 0 (m331.length))),(7,(AV.ptr 2 0 0)),(11,(AV.ptr 3 0 0)),(12,(AV.ptr 4 0 0)),(15,(Lf (X2z.map X5))),(16,(aI .i64 (X2z.length:Int))),(17,(aI .i64 (k:Int)))],hp ([(0,Ob (Xt.map X8) 3),(1,Ob (Xp.map X8) 3),(2,Ob [(X5 x)] 5),(3,Ob [(X5 Xn7)] 5),(4,Ob [(X8 (Xg.mk (k:Int) (IntKind.i64.wrap (1+e346.size)) (if (IntKind.i64.wrap (e346.depth+1))>1 then (IntKind.i64.wrap (e346.depth+1)) else 1)))] 3)]),5⟩) ?_ (fun J=>X3.cut ?_)
      ·
       revert h
       refine brI (fun h352=>?_) fun h352=>?_
       ·
        exact fun e=>X9 [Bt] (o:=by repeat' first|apply Ya|exact pcM|(simp at qah332 qbh332 qch332 ⊢;omega)|(simp at qah332 qbh332 qch332 qlh332 ⊢;omega)|(simp;done)|(simp at qah334 qbh334 qch334 ⊢;omega)|(simp at qah334 qbh334 qch334 qlh334 ⊢;have qz:=X0z h335;omega)|(simp at qah334 qbh334 qch334 qlh334 ⊢;omega)|(have hp:=eq_of_beq h345;simp[hp];done)|(have hp:=eq_of_beq h345;simp at hp ⊢;omega)|(have hp:=eq_of_beq h345;subst hp;decide +kernel)|exact Xu) (k:=wkT [] (C1 _  nbF (oj e).symm))
       refine bI fun u353 h354=>bI fun u355 h356=>rnI [Bf,.trunc 1 (m331.map X8),.no,.no] (o:=by repeat' first|apply Ya|exact pcM|(simp at qah332 qbh332 qch332 ⊢;omega)|(simp at qah332 qbh332 qch332 qlh332 ⊢;omega)|(simp;done)|(simp at qah334 qbh334 qch334 ⊢;omega)|(simp at qah334 qbh334 qch334 qlh334 ⊢;have qz:=X0z h335;omega)|(simp at qah334 qbh334 qch334 qlh334 ⊢;omega)|(have hp:=eq_of_beq h345;simp[hp];done)|(have hp:=eq_of_beq h345;simp at hp ⊢;omega)|(have hp:=eq_of_beq h345;subst hp;decide +kernel)|(refine Xd h354 rfl ?_;first|(simp;done)|(simp;omega)|(simp[hc,h324,h335,h345,h352];done)|(simp[hc,h324,h335,h345,h352];omega))|(refine X7 h354 (by decide) ?_;first|(simp;done)|(simp;omega)|(simp[hc,h324,h335,h345,h352];done)|(simp[hc,h324,h335,h345,h352];omega))|exact(X8e (f:=X8) qh332)|(refine Xd h356 rfl ?_;first|(simp;done)|(simp;omega)|(simp[hc,h324,h335,h345,h352];done)|(simp[hc,h324,h335,h345,h352];omega))|(refine X7 h356 (by decide) ?_;first|(simp;done)|(simp;omega)|(simp[hc,h324,h335,h345,h352];done)|(simp[hc,h324,h335,h345,h352];omega))|exact Xu) ?_
       intro h
       exact wkT [(0,8),(1,6)] (ih (k+1) hx1 _ _ nbF nbF o h C0 C1)
      clear h;revert h351
      refine brI (fun h350=>?_) fun h350=>?_
      ·
       intro h
       obtain rfl:=oj h
       exact X9 [Bt] (o:=by repeat' first|apply Ya|exact pcM|(simp at qah332 qbh332 qch332 ⊢;omega)|(simp at qah332 qbh332 qch332 qlh332 ⊢;omega)|(simp;done)|(simp at qah334 qbh334 qch334 ⊢;omega)|(simp at qah334 qbh334 qch334 qlh334 ⊢;have qz:=X0z h335;omega)|(simp at qah334 qbh334 qch334 qlh334 ⊢;omega)|(have hp:=eq_of_beq h345;simp[hp];done)|(have hp:=eq_of_beq h345;simp at hp ⊢;omega)|(have hp:=eq_of_beq h345;subst hp;decide +kernel)|exact Xu) (k:=wkT [(3,17),(4,18)] (X3.glue J))
      intro h
      obtain rfl:=oj h
      exact X9 [Bf] (o:=by repeat' first|apply Ya|exact pcM|(simp at qah332 qbh332 qch332 ⊢;omega)|(simp at qah332 qbh332 qch332 qlh332 ⊢;omega)|(simp;done)|(simp at qah334 qbh334 qch334 ⊢;omega)|(simp at qah334 qbh334 qch334 qlh334 ⊢;have qz:=X0z h335;omega)|(simp at qah334 qbh334 qch334 qlh334 ⊢;omega)|(have hp:=eq_of_beq h345;simp[hp];done)|(have hp:=eq_of_beq h345;simp at hp ⊢;omega)|(have hp:=eq_of_beq h345;subst hp;decide +kernel)|exact Xu) (k:=wkT [(3,17),(4,18)] (X3.glue J))
     refine brI (fun h357=>?_) fun h357=>?_
     ·
      refine rnI [.el (aI .i64 (m333.length:Int))] (o:=by repeat' first|apply Ya|exact pcM|(simp at qah332 qbh332 qch332 ⊢;omega)|(simp at qah332 qbh332 qch332 qlh332 ⊢;omega)|(simp;done)|(simp at qah334 qbh334 qch334 ⊢;omega)|(simp at qah334 qbh334 qch334 qlh334 ⊢;have qz:=X0z h335;omega)|(simp at qah334 qbh334 qch334 qlh334 ⊢;omega)|(have hp:=eq_of_beq h357;simp[hp];done)|(have hp:=eq_of_beq h357;simp at hp ⊢;omega)|(have hp:=eq_of_beq h357;subst hp;decide +kernel)|exact Xu) ?_
      intro h
      refine X3.round ?_
      revert h
      refine bI fun e358 h359=>?_
      try have qh359:=Xs h359
      refine rnI [Bt,.el (X8 e358),.ld (X8 e358),Bt,.wrap,.wrap] (o:=by repeat' first|apply Ya|exact pcM|(simp at qah332 qbh332 qch332 ⊢;omega)|(simp at qah332 qbh332 qch332 qlh332 ⊢;omega)|(simp;done)|(simp at qah334 qbh334 qch334 ⊢;omega)|(simp at qah334 qbh334 qch334 qlh334 ⊢;have qz:=X0z h335;omega)|(simp at qah334 qbh334 qch334 qlh334 ⊢;omega)|(have hp:=eq_of_beq h357;simp[hp];done)|(have hp:=eq_of_beq h357;simp at hp ⊢;omega)|(have hp:=eq_of_beq h357;subst hp;decide +kernel)|exact(Xek (f:=X8) qh334 h359)|exact(Xs h359)|exact(X7m h359)|exact Xu) ?_
      intro h
      refine X3.round ?_
      revert h
      refine bI fun e360 h361=>?_
      try have qh361:=Xs h361
      refine rnI [Bt,.el (X8 e360),.ld (X8 e360),Bf,.wrap,.wrap] (o:=by repeat' first|apply Ya|exact pcM|(simp at qah332 qbh332 qch332 ⊢;omega)|(simp at qah332 qbh332 qch332 qlh332 ⊢;omega)|(simp;done)|(simp at qah334 qbh334 qch334 ⊢;omega)|(simp at qah334 qbh334 qch334 qlh334 ⊢;have qz:=X0z h335;omega)|(simp at qah334 qbh334 qch334 qlh334 ⊢;omega)|(have hp:=eq_of_beq h357;simp[hp];done)|(have hp:=eq_of_beq h357;simp at hp ⊢;omega)|(have hp:=eq_of_beq h357;subst hp;decide +kernel)|exact(Xek (f:=X8) qh334 h361)|exact(Xs h361)|exact(X7m h361)|exact Xu) ?_
      intro h
      refine X3.round ?_
      revert h
      refine bI fun Xn6 h365=>rnI [Bf] (o:=by repeat' first|apply Ya|exact pcM|(simp at qah332 qbh332 qch332 ⊢;omega)|(simp at qah332 qbh332 qch332 qlh332 ⊢;omega)|(simp;done)|(simp at qah334 qbh334 qch334 ⊢;omega)|(simp at qah334 qbh334 qch334 qlh334 ⊢;have qz:=X0z h335;omega)|(simp at qah334 qbh334 qch334 qlh334 ⊢;omega)|(have hp:=eq_of_beq h357;simp[hp];done)|(have hp:=eq_of_beq h357;simp at hp ⊢;omega)|(have hp:=eq_of_beq h357;subst hp;decide +kernel)|exact Xu) ?_
      intro h
      refine X3.join (s':=⟨fr [(4,(AV.ref 0 0 (Xt.length))),(5,(AV.ref 1 0 (m331.length))),(7,(AV.ptr 2 0 0)),(11,(AV.ptr 3 0 0)),(12,(AV.ptr 4 0 0)),(15,(Lf (X2z.map X5))),(16,(aI .i64 (X2z.length:Int))),(17,(aI .i64 (k:Int)))],hp ([(0,Ob (Xt.map X8) 3),(1,Ob (Xp.map X8) 3),(2,Ob [(X5 x)] 5),(3,Ob [(X5 Xn6)] 5),(4,Ob [(X8 (Xg.mk (k:Int) (IntKind.i64.wrap ((IntKind.i64.wrap (1+e358.size))+e360.size)) (if (IntKind.i64.wrap (e360.depth+1))>(if (IntKind.i64.wrap (e358.depth+1))>1 then (IntKind.i64.wrap (e358.depth+1)) else 1) then (IntKind.i64.wrap (e360.depth+1)) else (if (IntKind.i64.wrap (e358.depth+1))>1 then (IntKind.i64.wrap (e358.depth+1)) else 1))))] 3)]),5⟩) ?_ (fun J=>X3.cut ?_)
      ·
       revert h
       refine brI (fun h366=>?_) fun h366=>?_
       ·
        exact fun e=>X9 [Bt] (o:=by repeat' first|apply Ya|exact pcM|(simp at qah332 qbh332 qch332 ⊢;omega)|(simp at qah332 qbh332 qch332 qlh332 ⊢;omega)|(simp;done)|(simp at qah334 qbh334 qch334 ⊢;omega)|(simp at qah334 qbh334 qch334 qlh334 ⊢;have qz:=X0z h335;omega)|(simp at qah334 qbh334 qch334 qlh334 ⊢;omega)|(have hp:=eq_of_beq h357;simp[hp];done)|(have hp:=eq_of_beq h357;simp at hp ⊢;omega)|(have hp:=eq_of_beq h357;subst hp;decide +kernel)|exact Xu) (k:=wkT [] (C1 _  nbF (oj e).symm))
       refine bI fun u367 h368=>bI fun u369 h370=>rnI [Bf,.trunc 1 (m331.map X8),.no,.no] (o:=by repeat' first|apply Ya|exact pcM|(simp at qah332 qbh332 qch332 ⊢;omega)|(simp at qah332 qbh332 qch332 qlh332 ⊢;omega)|(simp;done)|(simp at qah334 qbh334 qch334 ⊢;omega)|(simp at qah334 qbh334 qch334 qlh334 ⊢;have qz:=X0z h335;omega)|(simp at qah334 qbh334 qch334 qlh334 ⊢;omega)|(have hp:=eq_of_beq h357;simp[hp];done)|(have hp:=eq_of_beq h357;simp at hp ⊢;omega)|(have hp:=eq_of_beq h357;subst hp;decide +kernel)|(refine Xd h368 rfl ?_;first|(simp;done)|(simp;omega)|(simp[hc,h324,h335,h345,h357,h366];done)|(simp[hc,h324,h335,h345,h357,h366];omega))|(refine X7 h368 (by decide) ?_;first|(simp;done)|(simp;omega)|(simp[hc,h324,h335,h345,h357,h366];done)|(simp[hc,h324,h335,h345,h357,h366];omega))|exact(X8e (f:=X8) qh332)|(refine Xd h370 rfl ?_;first|(simp;done)|(simp;omega)|(simp[hc,h324,h335,h345,h357,h366];done)|(simp[hc,h324,h335,h345,h357,h366];omega))|(refine X7 h370 (by decide) ?_;first|(simp;done)|(simp;omega)|(simp[hc,h324,h335,h345,h357,h366];done)|(simp[hc,h324,h335,h345,h357,h366];omega))|exact Xu) ?_
       intro h
       exact wkT [(0,8),(1,6)] (ih (k+1) hx1 _ _ nbF nbF o h C0 C1)
      clear h;revert h365
      refine brI (fun h364=>?_) fun h364=>?_
      ·
       intro h
       obtain rfl:=oj h
       exact X9 [Bt] (o:=by repeat' first|apply Ya|exact pcM|(simp at qah332 qbh332 qch332 ⊢;omega)|(simp at qah332 qbh332 qch332 qlh332 ⊢;omega)|(simp;done)|(simp at qah334 qbh334 qch334 ⊢;omega)|(simp at qah334 qbh334 qch334 qlh334 ⊢;have qz:=X0z h335;omega)|(simp at qah334 qbh334 qch334 qlh334 ⊢;omega)|(have hp:=eq_of_beq h357;simp[hp];done)|(have hp:=eq_of_beq h357;simp at hp ⊢;omega)|(have hp:=eq_of_beq h357;subst hp;decide +kernel)|exact Xu) (k:=wkT [(3,17),(4,18)] (X3.glue J))
      intro h
      obtain rfl:=oj h
      exact X9 [Bf] (o:=by repeat' first|apply Ya|exact pcM|(simp at qah332 qbh332 qch332 ⊢;omega)|(simp at qah332 qbh332 qch332 qlh332 ⊢;omega)|(simp;done)|(simp at qah334 qbh334 qch334 ⊢;omega)|(simp at qah334 qbh334 qch334 qlh334 ⊢;have qz:=X0z h335;omega)|(simp at qah334 qbh334 qch334 qlh334 ⊢;omega)|(have hp:=eq_of_beq h357;simp[hp];done)|(have hp:=eq_of_beq h357;simp at hp ⊢;omega)|(have hp:=eq_of_beq h357;subst hp;decide +kernel)|exact Xu) (k:=wkT [(3,17),(4,18)] (X3.glue J))
     intro h
     cases h
    clear h;revert h323
    refine brI (fun h322=>?_) fun h322=>?_
    ·
     intro h
     obtain rfl:=oj h
     exact X9 [.go false,.go false,.go false,.go false] (k:=wkT [] (X3.glue J))
    intro h
    obtain rfl:=oj h
    exact X9 [.go true,.go true,.go true,.el (aI .i64 (Xp.length:Int)),.go true] (k:=wkT [] (X3.glue J))
   obtain rfl:=X0h rfl
   refine X3.round ?_
   revert h
   refine bI fun v371 h372=>bI fun Xz4 h376=>rnI [Bt,.el (X5 x),.pure _ (AV.tup [(aI .i64 v371.1),(aI .i64 v371.2)]),.stop 6] ?_
   intro h
   refine X3.join (s':=⟨fr [(4,(AV.ref 0 0 (Xt.length))),(5,AV.nils),(6,(aI .i64 (k:Int))),(7,(AV.ptr 2 0 0)),(8,(aI .i64 v371.1)),(15,(Lf (X2z.map X5))),(16,(aI .i64 (X2z.length:Int))),(17,(aI .i64 (k:Int))),(35,(aB Xz4))],hp ([(0,Ob (Xt.map X8) 3),(2,Ob [(X5 x)] 5)]),3⟩) ?_ (fun J=>X3.cut ?_)
   ·
    revert h
    refine brI (fun h377=>fun e=>X9 [Bt] (k:=wkT [] (C1 _  nbF (oj e).symm))) fun h377=>rnI [Bf] ?_
    intro h
    refine X3.inline X6 Xwd rfl rfl rfl rfl rfl trivial trivial rfl rfl ?_
    revert h
    refine bI fun m383 h384=>?_
    obtain⟨qah384,qbh384,qch384,qh384⟩:=X3t h384
    obtain rfl:=X8c h384
    refine bI fun m385 h386=>?_
    obtain⟨qah386,qbh386,qch386,qh386⟩:=X3t h386
    obtain rfl:=X8c h386
    refine brI (fun h387=>?_) fun h387=>?_
    ·
     refine rnI [.el (aI .i64 (List.length ([]:List Xg):Int)),.wrap,.el (aI .i64 (List.length ([]:List Xg):Int)),.wrap] (o:=by repeat' first|apply Ya|exact pcM|(simp at qah384 qbh384 qch384 ⊢;omega)|(simp at qah386 qbh386 qch386 ⊢;omega)|exact Xu) ?_
     intro h
     refine X3.back (by intro id h;cases h) rfl ?_
     refine X0g [] (o:=by repeat' first|apply Ya|exact pcM|(simp at qah384 qbh384 qch384 ⊢;omega)|(simp at qah386 qbh386 qch386 ⊢;omega)|exact Xu) ?_
     refine X3.round ?_
     revert h
     refine bI fun Xz3 h391=>rnI [Bf] (o:=by repeat' first|apply Ya|exact pcM|(simp at qah384 qbh384 qch384 ⊢;omega)|(simp at qah386 qbh386 qch386 ⊢;omega)|exact Xu) ?_
     intro h
     refine X3.join (s':=⟨fr [(4,(AV.ref 0 0 (Xt.length))),(5,AV.nils),(7,(AV.ptr 2 0 0)),(11,(AV.ptr 3 0 0)),(12,(AV.ptr 4 0 0)),(15,(Lf (X2z.map X5))),(16,(aI .i64 (X2z.length:Int))),(17,(aI .i64 (k:Int)))],hp ([(0,Ob (Xt.map X8) 3),(2,Ob [(X5 x)] 5),(3,Ob [(X5 Xz3)] 5),(4,Ob [(X8 (Xg.mk (k:Int) 1 1))] 3)]),5⟩) ?_ (fun J=>X3.cut ?_)
     ·
      revert h
      refine brI (fun h392=>?_) fun h392=>?_
      ·
       exact fun e=>X9 [Bt] (o:=by repeat' first|apply Ya|exact pcM|(simp at qah384 qbh384 qch384 ⊢;omega)|(simp at qah386 qbh386 qch386 ⊢;omega)|exact Xu) (k:=wkT [] (C1 _  nbF (oj e).symm))
      refine bI fun u393 h394=>bI fun u395 h396=>rnI [Bf,.no,.no] (o:=by repeat' first|apply Ya|exact pcM|(simp at qah384 qbh384 qch384 ⊢;omega)|(simp at qah386 qbh386 qch386 ⊢;omega)|(refine Xd h394 rfl ?_;first|(simp;done)|(simp;omega)|(simp[hc,h377,h387,h392];done)|(simp[hc,h377,h387,h392];omega))|(refine X7 h394 (by decide) ?_;first|(simp;done)|(simp;omega)|(simp[hc,h377,h387,h392];done)|(simp[hc,h377,h387,h392];omega))|(refine Xd h396 rfl ?_;first|(simp;done)|(simp;omega)|(simp[hc,h377,h387,h392];done)|(simp[hc,h377,h387,h392];omega))|(refine X7 h396 (by decide) ?_;first|(simp;done)|(simp;omega)|(simp[hc,h377,h387,h392];done)|(simp[hc,h377,h387,h392];omega))|exact Xu) ?_
      intro h
      exact wkT [(0,8),(1,6)] (ih (k+1) hx1 _ _ nbF nbF o h C0 C1)
     clear h;revert h391
     refine brI (fun h390=>?_) fun h390=>?_
     ·
      intro h
      obtain rfl:=oj h
      exact X9 [Bt] (o:=by repeat' first|apply Ya|exact pcM|(simp at qah384 qbh384 qch384 ⊢;omega)|(simp at qah386 qbh386 qch386 ⊢;omega)|exact Xu) (k:=wkT [(3,17),(4,18)] (X3.glue J))
     intro h
     obtain rfl:=oj h
     exact X9 [Bf] (o:=by repeat' first|apply Ya|exact pcM|(simp at qah384 qbh384 qch384 ⊢;omega)|(simp at qah386 qbh386 qch386 ⊢;omega)|exact Xu) (k:=wkT [(3,17),(4,18)] (X3.glue J))
    intro h
    exact absurd h387 (by simp)
   clear h;revert h376
   refine brI (fun h375=>?_) fun h375=>?_
   ·
    intro h
    obtain rfl:=oj h
    exact X9 [.go false,.go false,.go false,.go false] (k:=wkT [] (X3.glue J))
   intro h
   obtain rfl:=oj h
   exact X9 [.go true,.go true,.go true,.el (aI .i64 (List.length ([]:List Xg):Int)),.go true] (k:=wkT [] (X3.glue J))
  obtain rfl:=X5i rfl
  rcases Xv with ⟨_|_,X0h⟩
  ·
   refine X3.round ?_
   revert h
   refine bI fun v397 h398=>bI fun Xz1 h402=>rnI [Bt,.el (X5 x),.pure _ (AV.tup [(aI .i64 v397.1),(aI .i64 v397.2)]),.stop 6] ?_
   intro h
   refine X3.join (s':=⟨fr [(4,AV.nils),(5,(AV.ref 1 0 (Xp.length))),(6,(aI .i64 (k:Int))),(7,(AV.ptr 2 0 0)),(8,(aI .i64 v397.1)),(15,(Lf (X2z.map X5))),(16,(aI .i64 (X2z.length:Int))),(17,(aI .i64 (k:Int))),(35,(aB Xz1))],hp ([(1,Ob (Xp.map X8) 3),(2,Ob [(X5 x)] 5)]),3⟩) ?_ (fun J=>X3.cut ?_)
   ·
    revert h
    refine brI (fun h403=>fun e=>X9 [Bt] (k:=wkT [] (C1 _  nbS (oj e).symm))) fun h403=>rnI [Bf] ?_
    intro h
    refine X3.inline X6 Xwd rfl rfl rfl rfl rfl trivial trivial rfl rfl ?_
    revert h
    refine bI fun m409 h410=>?_
    obtain⟨qah410,qbh410,qch410,qh410⟩:=X3t h410
    have qlh410:=X8d h410
    refine bI fun m411 h412=>?_
    obtain⟨qah412,qbh412,qch412,qh412⟩:=X3t h412
    have qlh412:=X8d h412
    refine brI (fun h413=>?_) fun h413=>?_
    ·
     refine rnI [.el (aI .i64 (Xp.length:Int)),.wrap,.via (.ref 1 0 (m409.length)),.el (aI .i64 (Xp.length:Int)),.wrap,.ne false] (o:=by repeat' first|apply Ya|exact pcM|(simp at qah410 qbh410 qch410 ⊢;omega)|(simp at qah410 qbh410 qch410 qlh410 ⊢;omega)|(simp;done)|(simp at qah412 qbh412 qch412 ⊢;omega)|(simp at qah412 qbh412 qch412 qlh412 ⊢;have qz:=X37 h413;omega)|exact Xu) ?_
     intro h
     refine X3.back (by intro id h;cases h) rfl ?_
     refine X0g [] (o:=by repeat' first|apply Ya|exact pcM|(simp at qah410 qbh410 qch410 ⊢;omega)|(simp at qah410 qbh410 qch410 qlh410 ⊢;omega)|(simp;done)|(simp at qah412 qbh412 qch412 ⊢;omega)|(simp at qah412 qbh412 qch412 qlh412 ⊢;have qz:=X37 h413;omega)|exact Xu) ?_
     refine X3.round ?_
     revert h
     refine bI fun Xz0 h417=>rnI [Bf] (o:=by repeat' first|apply Ya|exact pcM|(simp at qah410 qbh410 qch410 ⊢;omega)|(simp at qah410 qbh410 qch410 qlh410 ⊢;omega)|(simp;done)|(simp at qah412 qbh412 qch412 ⊢;omega)|(simp at qah412 qbh412 qch412 qlh412 ⊢;have qz:=X37 h413;omega)|exact Xu) ?_
     intro h
     refine X3.join (s':=⟨fr [(4,AV.nils),(5,(AV.ref 1 0 (m409.length))),(7,(AV.ptr 2 0 0)),(11,(AV.ptr 3 0 0)),(12,(AV.ptr 4 0 0)),(15,(Lf (X2z.map X5))),(16,(aI .i64 (X2z.length:Int))),(17,(aI .i64 (k:Int)))],hp ([(1,Ob (Xp.map X8) 3),(2,Ob [(X5 x)] 5),(3,Ob [(X5 Xz0)] 5),(4,Ob [(X8 (Xg.mk (k:Int) 1 1))] 3)]),5⟩) ?_ (fun J=>X3.cut ?_)
     ·
      revert h
      refine brI (fun h418=>?_) fun h418=>?_
      ·
       exact fun e=>X9 [Bt] (o:=by repeat' first|apply Ya|exact pcM|(simp at qah410 qbh410 qch410 ⊢;omega)|(simp at qah410 qbh410 qch410 qlh410 ⊢;omega)|(simp;done)|(simp at qah412 qbh412 qch412 ⊢;omega)|(simp at qah412 qbh412 qch412 qlh412 ⊢;have qz:=X37 h413;omega)|exact Xu) (k:=wkT [] (C1 _  nbS (oj e).symm))
      refine bI fun u419 h420=>bI fun u421 h422=>rnI [Bf,.trunc 1 (m409.map X8),.no,.no] (o:=by repeat' first|apply Ya|exact pcM|(simp at qah410 qbh410 qch410 ⊢;omega)|(simp at qah410 qbh410 qch410 qlh410 ⊢;omega)|(simp;done)|(simp at qah412 qbh412 qch412 ⊢;omega)|(simp at qah412 qbh412 qch412 qlh412 ⊢;have qz:=X37 h413;omega)|(refine Xd h420 rfl ?_;first|(simp;done)|(simp;omega)|(simp[hc,h403,h413,h418];done)|(simp[hc,h403,h413,h418];omega))|(refine X7 h420 (by decide) ?_;first|(simp;done)|(simp;omega)|(simp[hc,h403,h413,h418];done)|(simp[hc,h403,h413,h418];omega))|exact(X8e (f:=X8) qh410)|(refine Xd h422 rfl ?_;first|(simp;done)|(simp;omega)|(simp[hc,h403,h413,h418];done)|(simp[hc,h403,h413,h418];omega))|(refine X7 h422 (by decide) ?_;first|(simp;done)|(simp;omega)|(simp[hc,h403,h413,h418];done)|(simp[hc,h403,h413,h418];omega))|exact Xu) ?_
      intro h
      exact wkT [(0,8),(1,6)] (ih (k+1) hx1 _ _ nbF nbF o h C0 C1)
     clear h;revert h417
     refine brI (fun h416=>?_) fun h416=>?_
     ·
      intro h
      obtain rfl:=oj h
      exact X9 [Bt] (o:=by repeat' first|apply Ya|exact pcM|(simp at qah410 qbh410 qch410 ⊢;omega)|(simp at qah410 qbh410 qch410 qlh410 ⊢;omega)|(simp;done)|(simp at qah412 qbh412 qch412 ⊢;omega)|(simp at qah412 qbh412 qch412 qlh412 ⊢;have qz:=X37 h413;omega)|exact Xu) (k:=wkT [(3,17),(4,18)] (X3.glue J))
     intro h
     obtain rfl:=oj h
     exact X9 [Bf] (o:=by repeat' first|apply Ya|exact pcM|(simp at qah410 qbh410 qch410 ⊢;omega)|(simp at qah410 qbh410 qch410 qlh410 ⊢;omega)|(simp;done)|(simp at qah412 qbh412 qch412 ⊢;omega)|(simp at qah412 qbh412 qch412 qlh412 ⊢;have qz:=X37 h413;omega)|exact Xu) (k:=wkT [(3,17),(4,18)] (X3.glue J))
    refine rnI [.el (aI .i64 (Xp.length:Int)),.wrap,.via (.ref 1 0 (m409.length)),.el (aI .i64 (Xp.length:Int)),.wrap,.via (.ref 1 (Int.toNat (IntKind.i64.wrap ((Xp.length:Int) - v397.1))) (m411.length))] (o:=by repeat' first|apply Ya|exact pcM|(simp at qah410 qbh410 qch410 ⊢;omega)|(simp at qah410 qbh410 qch410 qlh410 ⊢;omega)|(simp;done)|(simp at qah412 qbh412 qch412 ⊢;omega)|(simp at qah412 qbh412 qch412 qlh412 ⊢;have qz:=X0z h413;omega)|(simp at qah412 qbh412 qch412 qlh412 ⊢;omega)|exact Xu) ?_
    intro h
    refine X3.back (by intro id h;cases h) rfl ?_
    revert h
    refine brI (fun h423=>?_) fun h423=>?_
    ·
     refine rnI [.el (aI .i64 (m411.length:Int))] (o:=by repeat' first|apply Ya|exact pcM|(simp at qah410 qbh410 qch410 ⊢;omega)|(simp at qah410 qbh410 qch410 qlh410 ⊢;omega)|(simp;done)|(simp at qah412 qbh412 qch412 ⊢;omega)|(simp at qah412 qbh412 qch412 qlh412 ⊢;have qz:=X0z h413;omega)|(simp at qah412 qbh412 qch412 qlh412 ⊢;omega)|(have hp:=eq_of_beq h423;simp[hp];done)|(have hp:=eq_of_beq h423;simp at hp ⊢;omega)|(have hp:=eq_of_beq h423;subst hp;decide +kernel)|exact Xu) ?_
     intro h
     refine X3.round ?_
     revert h
     refine bI fun e424 h425=>?_
     try have qh425:=Xs h425
     refine rnI [Bt,.el (X8 e424),.ld (X8 e424),Bt,.wrap,.wrap] (o:=by repeat' first|apply Ya|exact pcM|(simp at qah410 qbh410 qch410 ⊢;omega)|(simp at qah410 qbh410 qch410 qlh410 ⊢;omega)|(simp;done)|(simp at qah412 qbh412 qch412 ⊢;omega)|(simp at qah412 qbh412 qch412 qlh412 ⊢;have qz:=X0z h413;omega)|(simp at qah412 qbh412 qch412 qlh412 ⊢;omega)|(have hp:=eq_of_beq h423;simp[hp];done)|(have hp:=eq_of_beq h423;simp at hp ⊢;omega)|(have hp:=eq_of_beq h423;subst hp;decide +kernel)|exact(Xek (f:=X8) qh412 h425)|exact(Xs h425)|exact(X7m h425)|exact Xu) ?_
     intro h
     refine X3.round ?_
     revert h
     refine bI fun Xyz h429=>rnI [Bf] (o:=by repeat' first|apply Ya|exact pcM|(simp at qah410 qbh410 qch410 ⊢;omega)|(simp at qah410 qbh410 qch410 qlh410 ⊢;omega)|(simp;done)|(simp at qah412 qbh412 qch412 ⊢;omega)|(simp at qah412 qbh412 qch412 qlh412 ⊢;have qz:=X0z h413;omega)|(simp at qah412 qbh412 qch412 qlh412 ⊢;omega)|(have hp:=eq_of_beq h423;simp[hp];done)|(have hp:=eq_of_beq h423;simp at hp ⊢;omega)|(have hp:=eq_of_beq h423;subst hp;decide +kernel)|exact Xu) ?_
     intro h
     refine X3.join (s':=⟨fr [(4,AV.nils),(5,(AV.ref 1 0 (m409.length))),(7,(AV.ptr 2 0 0)),(11,(AV.ptr 3 0 0)),(12,(AV.ptr 4 0 0)),(15,(Lf (X2z.map X5))),(16,(aI .i64 (X2z.length:Int))),(17,(aI .i64 (k:Int)))],hp ([(1,Ob (Xp.map X8) 3),(2,Ob [(X5 x)] 5),(3,Ob [(X5 Xyz)] 5),(4,Ob [(X8 (Xg.mk (k:Int) (IntKind.i64.wrap (1+e424.size)) (if (IntKind.i64.wrap (e424.depth+1))>1 then (IntKind.i64.wrap (e424.depth+1)) else 1)))] 3)]),5⟩) ?_ (fun J=>X3.cut ?_)
     ·
      revert h
      refine brI (fun h430=>?_) fun h430=>?_
      ·
       exact fun e=>X9 [Bt] (o:=by repeat' first|apply Ya|exact pcM|(simp at qah410 qbh410 qch410 ⊢;omega)|(simp at qah410 qbh410 qch410 qlh410 ⊢;omega)|(simp;done)|(simp at qah412 qbh412 qch412 ⊢;omega)|(simp at qah412 qbh412 qch412 qlh412 ⊢;have qz:=X0z h413;omega)|(simp at qah412 qbh412 qch412 qlh412 ⊢;omega)|(have hp:=eq_of_beq h423;simp[hp];done)|(have hp:=eq_of_beq h423;simp at hp ⊢;omega)|(have hp:=eq_of_beq h423;subst hp;decide +kernel)|exact Xu) (k:=wkT [] (C1 _  nbS (oj e).symm))
      refine bI fun u431 h432=>bI fun u433 h434=>rnI [Bf,.trunc 1 (m409.map X8),.no,.no] (o:=by repeat' first|apply Ya|exact pcM|(simp at qah410 qbh410 qch410 ⊢;omega)|(simp at qah410 qbh410 qch410 qlh410 ⊢;omega)|(simp;done)|(simp at qah412 qbh412 qch412 ⊢;omega)|(simp at qah412 qbh412 qch412 qlh412 ⊢;have qz:=X0z h413;omega)|(simp at qah412 qbh412 qch412 qlh412 ⊢;omega)|(have hp:=eq_of_beq h423;simp[hp];done)|(have hp:=eq_of_beq h423;simp at hp ⊢;omega)|(have hp:=eq_of_beq h423;subst hp;decide +kernel)|(refine Xd h432 rfl ?_;first|(simp;done)|(simp;omega)|(simp[hc,h403,h413,h423,h430];done)|(simp[hc,h403,h413,h423,h430];omega))|(refine X7 h432 (by decide) ?_;first|(simp;done)|(simp;omega)|(simp[hc,h403,h413,h423,h430];done)|(simp[hc,h403,h413,h423,h430];omega))|exact(X8e (f:=X8) qh410)|(refine Xd h434 rfl ?_;first|(simp;done)|(simp;omega)|(simp[hc,h403,h413,h423,h430];done)|(simp[hc,h403,h413,h423,h430];omega))|(refine X7 h434 (by decide) ?_;first|(simp;done)|(simp;omega)|(simp[hc,h403,h413,h423,h430];done)|(simp[hc,h403,h413,h423,h430];omega))|exact Xu) ?_
      intro h
      exact wkT [(0,8),(1,6)] (ih (k+1) hx1 _ _ nbF nbF o h C0 C1)
     clear h;revert h429
     refine brI (fun h428=>?_) fun h428=>?_
     ·
      intro h
      obtain rfl:=oj h
      exact X9 [Bt] (o:=by repeat' first|apply Ya|exact pcM|(simp at qah410 qbh410 qch410 ⊢;omega)|(simp at qah410 qbh410 qch410 qlh410 ⊢;omega)|(simp;done)|(simp at qah412 qbh412 qch412 ⊢;omega)|(simp at qah412 qbh412 qch412 qlh412 ⊢;have qz:=X0z h413;omega)|(simp at qah412 qbh412 qch412 qlh412 ⊢;omega)|(have hp:=eq_of_beq h423;simp[hp];done)|(have hp:=eq_of_beq h423;simp at hp ⊢;omega)|(have hp:=eq_of_beq h423;subst hp;decide +kernel)|exact Xu) (k:=wkT [(3,17),(4,18)] (X3.glue J))
     intro h
     obtain rfl:=oj h
     exact X9 [Bf] (o:=by repeat' first|apply Ya|exact pcM|(simp at qah410 qbh410 qch410 ⊢;omega)|(simp at qah410 qbh410 qch410 qlh410 ⊢;omega)|(simp;done)|(simp at qah412 qbh412 qch412 ⊢;omega)|(simp at qah412 qbh412 qch412 qlh412 ⊢;have qz:=X0z h413;omega)|(simp at qah412 qbh412 qch412 qlh412 ⊢;omega)|(have hp:=eq_of_beq h423;simp[hp];done)|(have hp:=eq_of_beq h423;simp at hp ⊢;omega)|(have hp:=eq_of_beq h423;subst hp;decide +kernel)|exact Xu) (k:=wkT [(3,17),(4,18)] (X3.glue J))
    refine brI (fun h435=>?_) fun h435=>?_
    ·
     refine rnI [.el (aI .i64 (m411.length:Int))] (o:=by repeat' first|apply Ya|exact pcM|(simp at qah410 qbh410 qch410 ⊢;omega)|(simp at qah410 qbh410 qch410 qlh410 ⊢;omega)|(simp;done)|(simp at qah412 qbh412 qch412 ⊢;omega)|(simp at qah412 qbh412 qch412 qlh412 ⊢;have qz:=X0z h413;omega)|(simp at qah412 qbh412 qch412 qlh412 ⊢;omega)|(have hp:=eq_of_beq h435;simp[hp];done)|(have hp:=eq_of_beq h435;simp at hp ⊢;omega)|(have hp:=eq_of_beq h435;subst hp;decide +kernel)|exact Xu) ?_
     intro h
     refine X3.round ?_
     revert h
     refine bI fun e436 h437=>?_
     try have qh437:=Xs h437
     refine rnI [Bt,.el (X8 e436),.ld (X8 e436),Bt,.wrap,.wrap] (o:=by repeat' first|apply Ya|exact pcM|(simp at qah410 qbh410 qch410 ⊢;omega)|(simp at qah410 qbh410 qch410 qlh410 ⊢;omega)|(simp;done)|(simp at qah412 qbh412 qch412 ⊢;omega)|(simp at qah412 qbh412 qch412 qlh412 ⊢;have qz:=X0z h413;omega)|(simp at qah412 qbh412 qch412 qlh412 ⊢;omega)|(have hp:=eq_of_beq h435;simp[hp];done)|(have hp:=eq_of_beq h435;simp at hp ⊢;omega)|(have hp:=eq_of_beq h435;subst hp;decide +kernel)|exact(Xek (f:=X8) qh412 h437)|exact(Xs h437)|exact(X7m h437)|exact Xu) ?_
     intro h
     refine X3.round ?_
     revert h
     refine bI fun e438 h439=>?_
     try have qh439:=Xs h439
     refine rnI [Bt,.el (X8 e438),.ld (X8 e438),Bf,.wrap,.wrap] (o:=by repeat' first|apply Ya|exact pcM|(simp at qah410 qbh410 qch410 ⊢;omega)|(simp at qah410 qbh410 qch410 qlh410 ⊢;omega)|(simp;done)|(simp at qah412 qbh412 qch412 ⊢;omega)|(simp at qah412 qbh412 qch412 qlh412 ⊢;have qz:=X0z h413;omega)|(simp at qah412 qbh412 qch412 qlh412 ⊢;omega)|(have hp:=eq_of_beq h435;simp[hp];done)|(have hp:=eq_of_beq h435;simp at hp ⊢;omega)|(have hp:=eq_of_beq h435;subst hp;decide +kernel)|exact(Xek (f:=X8) qh412 h439)|exact(Xs h439)|exact(X7m h439)|exact Xu) ?_
     intro h
     refine X3.round ?_
     revert h
     refine bI fun Xyx h443=>rnI [Bf] (o:=by repeat' first|apply Ya|exact pcM|(simp at qah410 qbh410 qch410 ⊢;omega)|(simp at qah410 qbh410 qch410 qlh410 ⊢;omega)|(simp;done)|(simp at qah412 qbh412 qch412 ⊢;omega)|(simp at qah412 qbh412 qch412 qlh412 ⊢;have qz:=X0z h413;omega)|(simp at qah412 qbh412 qch412 qlh412 ⊢;omega)|(have hp:=eq_of_beq h435;simp[hp];done)|(have hp:=eq_of_beq h435;simp at hp ⊢;omega)|(have hp:=eq_of_beq h435;subst hp;decide +kernel)|exact Xu) ?_
     intro h
     refine X3.join (s':=⟨fr [(4,AV.nils),(5,(AV.ref 1 0 (m409.length))),(7,(AV.ptr 2 0 0)),(11,(AV.ptr 3 0 0)),(12,(AV.ptr 4 0 0)),(15,(Lf (X2z.map X5))),(16,(aI .i64 (X2z.length:Int))),(17,(aI .i64 (k:Int)))],hp ([(1,Ob (Xp.map X8) 3),(2,Ob [(X5 x)] 5),(3,Ob [(X5 Xyx)] 5),(4,Ob [(X8 (Xg.mk (k:Int) (IntKind.i64.wrap ((IntKind.i64.wrap (1+e436.size))+e438.size)) (if (IntKind.i64.wrap (e438.depth+1))>(if (IntKind.i64.wrap (e436.depth+1))>1 then (IntKind.i64.wrap (e436.depth+1)) else 1) then (IntKind.i64.wrap (e438.depth+1)) else (if (IntKind.i64.wrap (e436.depth+1))>1 then (IntKind.i64.wrap (e436.depth+1)) else 1))))] 3)]),5⟩) ?_ (fun J=>X3.cut ?_)
     ·
      revert h
      refine brI (fun h444=>?_) fun h444=>?_
      ·
       exact fun e=>X9 [Bt] (o:=by repeat' first|apply Ya|exact pcM|(simp at qah410 qbh410 qch410 ⊢;omega)|(simp at qah410 qbh410 qch410 qlh410 ⊢;omega)|(simp;done)|(simp at qah412 qbh412 qch412 ⊢;omega)|(simp at qah412 qbh412 qch412 qlh412 ⊢;have qz:=X0z h413;omega)|(simp at qah412 qbh412 qch412 qlh412 ⊢;omega)|(have hp:=eq_of_beq h435;simp[hp];done)|(have hp:=eq_of_beq h435;simp at hp ⊢;omega)|(have hp:=eq_of_beq h435;subst hp;decide +kernel)|exact Xu) (k:=wkT [] (C1 _  nbS (oj e).symm))
      refine bI fun u445 h446=>bI fun u447 h448=>rnI [Bf,.trunc 1 (m409.map X8),.no,.no] (o:=by repeat' first|apply Ya|exact pcM|(simp at qah410 qbh410 qch410 ⊢;omega)|(simp at qah410 qbh410 qch410 qlh410 ⊢;omega)|(simp;done)|(simp at qah412 qbh412 qch412 ⊢;omega)|(simp at qah412 qbh412 qch412 qlh412 ⊢;have qz:=X0z h413;omega)|(simp at qah412 qbh412 qch412 qlh412 ⊢;omega)|(have hp:=eq_of_beq h435;simp[hp];done)|(have hp:=eq_of_beq h435;simp at hp ⊢;omega)|(have hp:=eq_of_beq h435;subst hp;decide +kernel)|(refine Xd h446 rfl ?_;first|(simp;done)|(simp;omega)|(simp[hc,h403,h413,h423,h435,h444];done)|(simp[hc,h403,h413,h423,h435,h444];omega))|(refine X7 h446 (by decide) ?_;first|(simp;done)|(simp;omega)|(simp[hc,h403,h413,h423,h435,h444];done)|(simp[hc,h403,h413,h423,h435,h444];omega))|exact(X8e (f:=X8) qh410)|(refine Xd h448 rfl ?_;first|(simp;done)|(simp;omega)|(simp[hc,h403,h413,h423,h435,h444];done)|(simp[hc,h403,h413,h423,h435,h444];omega))|(refine X7 h448 (by decide) ?_;first|(simp;done)|(simp;omega)|(simp[hc,h403,h413,h423,h435,h444];done)|(simp[hc,h403,h413,h423,h435,h444];omega))|exact Xu) ?_
      intro h
      exact wkT [(0,8),(1,6)] (ih (k+1) hx1 _ _ nbF nbF o h C0 C1)
     clear h;revert h443
     refine brI (fun h442=>?_) fun h442=>?_
     ·
      intro h
      obtain rfl:=oj h
      exact X9 [Bt] (o:=by repeat' first|apply Ya|exact pcM|(simp at qah410 qbh410 qch410 ⊢;omega)|(simp at qah410 qbh410 qch410 qlh410 ⊢;omega)|(simp;done)|(simp at qah412 qbh412 qch412 ⊢;omega)|(simp at qah412 qbh412 qch412 qlh412 ⊢;have qz:=X0z h413;omega)|(simp at qah412 qbh412 qch412 qlh412 ⊢;omega)|(have hp:=eq_of_beq h435;simp[hp];done)|(have hp:=eq_of_beq h435;simp at hp ⊢;omega)|(have hp:=eq_of_beq h435;subst hp;decide +kernel)|exact Xu) (k:=wkT [(3,17),(4,18)] (X3.glue J))
     intro h
     obtain rfl:=oj h
     exact X9 [Bf] (o:=by repeat' first|apply Ya|exact pcM|(simp at qah410 qbh410 qch410 ⊢;omega)|(simp at qah410 qbh410 qch410 qlh410 ⊢;omega)|(simp;done)|(simp at qah412 qbh412 qch412 ⊢;omega)|(simp at qah412 qbh412 qch412 qlh412 ⊢;have qz:=X0z h413;omega)|(simp at qah412 qbh412 qch412 qlh412 ⊢;omega)|(have hp:=eq_of_beq h435;simp[hp];done)|(have hp:=eq_of_beq h435;simp at hp ⊢;omega)|(have hp:=eq_of_beq h435;subst hp;decide +kernel)|exact Xu) (k:=wkT [(3,17),(4,18)] (X3.glue J))
    intro h
    cases h
   clear h;revert h402
   refine brI (fun h401=>?_) fun h401=>?_
   ·
    intro h
    obtain rfl:=oj h
    exact X9 [.go false,.go false,.go false,.go false] (k:=wkT [] (X3.glue J))
   intro h
   obtain rfl:=oj h
   exact X9 [.go true,.go true,.go true,.el (aI .i64 (Xp.length:Int)),.go true] (k:=wkT [] (X3.glue J))
  obtain rfl:=X0h rfl
  refine X3.round ?_
  revert h
  refine bI fun v449 h450=>bI fun Xyw h454=>rnI [Bt,.el (X5 x),.pure _ (AV.tup [(aI .i64 v449.1),(aI .i64 v449.2)]),.stop 6] ?_
  intro h
  refine X3.join (s':=⟨fr [(4,AV.nils),(5,AV.nils),(6,(aI .i64 (k:Int))),(7,(AV.ptr 2 0 0)),(8,(aI .i64 v449.1)),(15,(Lf (X2z.map X5))),(16,(aI .i64 (X2z.length:Int))),(17,(aI .i64 (k:Int))),(35,(aB Xyw))],hp ([(2,Ob [(X5 x)] 5)]),3⟩) ?_ (fun J=>X3.cut ?_)
  ·
   revert h
   refine brI (fun h455=>fun e=>X9 [Bt] (k:=wkT [] (C1 _  nbS (oj e).symm))) fun h455=>rnI [Bf] ?_
   intro h
   refine X3.inline X6 Xwd rfl rfl rfl rfl rfl trivial trivial rfl rfl ?_
   revert h
   refine bI fun m461 h462=>?_
   obtain⟨qah462,qbh462,qch462,qh462⟩:=X3t h462
   obtain rfl:=X8c h462
   refine bI fun m463 h464=>?_
   obtain⟨qah464,qbh464,qch464,qh464⟩:=X3t h464
   obtain rfl:=X8c h464
   refine brI (fun h465=>?_) fun h465=>?_
   ·
    refine rnI [.el (aI .i64 (List.length ([]:List Xg):Int)),.wrap,.el (aI .i64 (List.length ([]:List Xg):Int)),.wrap] (o:=by repeat' first|apply Ya|exact pcM|(simp at qah462 qbh462 qch462 ⊢;omega)|(simp at qah464 qbh464 qch464 ⊢;omega)|exact Xu) ?_
    intro h
    refine X3.back (by intro id h;cases h) rfl ?_
    refine X0g [] (o:=by repeat' first|apply Ya|exact pcM|(simp at qah462 qbh462 qch462 ⊢;omega)|(simp at qah464 qbh464 qch464 ⊢;omega)|exact Xu) ?_
    refine X3.round ?_
    revert h
    refine bI fun Xyu h469=>rnI [Bf] (o:=by repeat' first|apply Ya|exact pcM|(simp at qah462 qbh462 qch462 ⊢;omega)|(simp at qah464 qbh464 qch464 ⊢;omega)|exact Xu) ?_
    intro h
    refine X3.join (s':=⟨fr [(4,AV.nils),(5,AV.nils),(7,(AV.ptr 2 0 0)),(11,(AV.ptr 3 0 0)),(12,(AV.ptr 4 0 0)),(15,(Lf (X2z.map X5))),(16,(aI .i64 (X2z.length:Int))),(17,(aI .i64 (k:Int)))],hp ([(2,Ob [(X5 x)] 5),(3,Ob [(X5 Xyu)] 5),(4,Ob [(X8 (Xg.mk (k:Int) 1 1))] 3)]),5⟩) ?_ (fun J=>X3.cut ?_)
    ·
     revert h
     refine brI (fun h470=>?_) fun h470=>?_
     ·
      exact fun e=>X9 [Bt] (o:=by repeat' first|apply Ya|exact pcM|(simp at qah462 qbh462 qch462 ⊢;omega)|(simp at qah464 qbh464 qch464 ⊢;omega)|exact Xu) (k:=wkT [] (C1 _  nbS (oj e).symm))
     refine bI fun u471 h472=>bI fun u473 h474=>rnI [Bf,.no,.no] (o:=by repeat' first|apply Ya|exact pcM|(simp at qah462 qbh462 qch462 ⊢;omega)|(simp at qah464 qbh464 qch464 ⊢;omega)|(refine Xd h472 rfl ?_;first|(simp;done)|(simp;omega)|(simp[hc,h455,h465,h470];done)|(simp[hc,h455,h465,h470];omega))|(refine X7 h472 (by decide) ?_;first|(simp;done)|(simp;omega)|(simp[hc,h455,h465,h470];done)|(simp[hc,h455,h465,h470];omega))|(refine Xd h474 rfl ?_;first|(simp;done)|(simp;omega)|(simp[hc,h455,h465,h470];done)|(simp[hc,h455,h465,h470];omega))|(refine X7 h474 (by decide) ?_;first|(simp;done)|(simp;omega)|(simp[hc,h455,h465,h470];done)|(simp[hc,h455,h465,h470];omega))|exact Xu) ?_
     intro h
     exact wkT [(0,8),(1,6)] (ih (k+1) hx1 _ _ nbF nbF o h C0 C1)
    clear h;revert h469
    refine brI (fun h468=>?_) fun h468=>?_
    ·
     intro h
     obtain rfl:=oj h
     exact X9 [Bt] (o:=by repeat' first|apply Ya|exact pcM|(simp at qah462 qbh462 qch462 ⊢;omega)|(simp at qah464 qbh464 qch464 ⊢;omega)|exact Xu) (k:=wkT [(3,17),(4,18)] (X3.glue J))
    intro h
    obtain rfl:=oj h
    exact X9 [Bf] (o:=by repeat' first|apply Ya|exact pcM|(simp at qah462 qbh462 qch462 ⊢;omega)|(simp at qah464 qbh464 qch464 ⊢;omega)|exact Xu) (k:=wkT [(3,17),(4,18)] (X3.glue J))
   intro h
   exact absurd h465 (by simp)
  clear h;revert h454
  refine brI (fun h453=>?_) fun h453=>?_
  ·
   intro h
   obtain rfl:=oj h
   exact X9 [.go false,.go false,.go false,.go false] (k:=wkT [] (X3.glue J))
  intro h
  obtain rfl:=oj h
  exact X9 [.go true,.go true,.go true,.el (aI .i64 (List.length ([]:List Xg):Int)),.go true] (k:=wkT [] (X3.glue J))
end Go.Av.Tryz