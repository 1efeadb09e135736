/- Printed by decomp.py: that the program computes the functions. -/
import Derived.Test.YtkjlgmgfhgamlaaGreatDCert0Z
set_option linter.all false

namespace Go.Av.Tryz
open Go.Proofs Go.D
set_option maxRecDepth 10000
set_option maxHeartbeats 40000000
theorem Xfu {Q:Xz->St->Mu->Prop} {μ:Mu} (X2z:(List X07)) (hl:X2z.length<=140737488355328):∀ (xs:List X07) (k:Nat) (hx:X2z.drop k=xs) (Xo:(List Xg)) (Xn:(List Xg)) (X22:Nb Xo) (Xt:Nb Xn) (o:X57) (h:X27 X2z xs k Xo Xn=some o)
  (C0:∀ (X09:(List Xg)) (X0b:(List Xg)) (X0r:Nb X09) (X0t:Nb X0b),o=X57.x0 X09 X0b->X3 Tryz.prog 105 0 Q (.exit (.exit 0)) [] ⟨fr [(4,(slE X0r.1 0 (X09.map X8))),(5,(slE X0t.1 1 (X0b.map X8)))],hp ([]++opE X0r.1 0 3 (X09.map X8)++opE X0t.1 1 3 (X0b.map X8)),2⟩ μ)
  (C1:∀ (X1l:(List Xg)) (X1g:Nb X1l),o=X57.x1 X1l->X3 Tryz.prog 105 0 Q (.exit .ret) [] ⟨fr [(2,(slE X1g.1 0 (X1l.map X8))),(3,(aB false))],hp ([]++opE X1g.1 0 3 (X1l.map X8)),1⟩ μ),
  X3 Tryz.prog 105 0 Q (.loop (X5p 0 (Xj Tryz.f197))) [] ⟨fr [(4,(slE X22.1 0 (Xo.map X8))),(5,(slE Xt.1 1 (Xn.map X8))),(15,(Lf (X2z.map X7))),(16,(aI .i64 (X2z.length:Int))),(17,(aI .i64 (k:Int)))],hp ([]++opE X22.1 0 3 (Xo.map X8)++opE Xt.1 1 3 (Xn.map X8)),2⟩ μ:=by
 intro xs
 induction xs with
 |nil =>
  intro k hx Xo Xn X22 Xt o h C0 C1
  have hk:=drop_nil hx
  have hc:decide ((k:Int)<(X2z.length:Int))=false:=Yf (by omega)
  rw[X27] at h
  rcases X22 with ⟨_|_,X5j⟩
  ·
   rcases Xt with ⟨_|_,X0g⟩
   ·
    refine X3.round ?_
    revert h
    exact fun e=>Xa [Bf] (k:=wkT [] (C0 _ _  nbF nbF (oj e).symm))
   obtain rfl:=X0g rfl
   refine X3.round ?_
   revert h
   exact fun e=>Xa [Bf] (k:=wkT [] (C0 _ _  nbF nbS (oj e).symm))
  ·
   obtain rfl:=X5j rfl
   rcases Xt with ⟨_|_,X0g⟩
   ·
    refine X3.round ?_
    revert h
    exact fun e=>Xa [Bf] (k:=wkT [] (C0 _ _  nbS nbF (oj e).symm))
   ·
    obtain rfl:=X0g rfl
    refine X3.round ?_
    revert h
    exact fun e=>Xa [Bf] (k:=wkT [] (C0 _ _  nbS nbS (oj e).symm))
 |cons x xs ih =>
  intro k hx Xo Xn X22 Xt o h C0 C1
  obtain⟨hk,hg,hx1⟩:=X1a hx
  have hc:decide ((k:Int)<(X2z.length:Int))=true:=Yt (by omega)
  rw[X27] at h
  rcases X22 with ⟨_|_,X5j⟩
  ·
   rcases Xt with ⟨_|_,X0g⟩
   ·
    refine X3.round ?_
    revert h
    refine bI fun v318 h319=>bI fun Xn7 h323=>rnI [Bt,.el (X7 x),.pure _ (AV.tup [(aI .i64 v318.1),(aI .i64 v318.2)]),.stop 6] ?_
    intro h
    refine X3.join (s':=⟨fr [(4,(AV.ref 0 0 (Xo.length))),(5,(AV.ref 1 0 (Xn.length))),(6,(aI .i64 (k:Int))),(7,(AV.ptr 2 0 0)),(8,(aI .i64 v318.1)),(15,(Lf (X2z.map X7))),(16,(aI .i64 (X2z.length:Int))),(17,(aI .i64 (k:Int))),(35,(aB Xn7))],hp ([(0,Ob (Xo.map X8) 3),(1,Ob (Xn.map X8) 3),(2,Ob [(X7 x)] 5)]),3⟩) ?_ (fun J=>X3.cut ?_)
    ·
     revert h
     refine brI (fun h324=>fun e=>Xa [Bt] (k:=wkT [] (C1 _  nbF (oj e).symm))) fun h324=>rnI [Bf] ?_
     intro h
     refine X3.inline X6 Xwf rfl rfl rfl rfl rfl trivial trivial rfl rfl ?_
     revert h
     refine bI fun m331 h332=>?_
     obtain⟨qah332,qbh332,qch332,qh332⟩:=X3s h332
     have qlh332:=X8d h332
     refine bI fun m333 h334=>?_
     obtain⟨qah334,qbh334,qch334,qh334⟩:=X3s h334
     have qlh334:=X8d h334
     refine brI (fun h335=>?_) fun h335=>?_
     ·
      refine rnI [.el (aI .i64 (Xn.length:Int)),.wrap,.via (.ref 1 0 (m331.length)),.el (aI .i64 (Xn.length:Int)),.wrap,.ne false] (o:=by repeat' first|apply Ya|exact pcM|(simp at qah332 qbh332 qch332 ⊢;omega)|(simp at qah332 qbh332 qch332 qlh332 ⊢;omega)|(simp;done)|(simp at qah334 qbh334 qch334 ⊢;omega)|(simp at qah334 qbh334 qch334 qlh334 ⊢;have qz:=X37 h335;omega)|exact Xw) ?_
      intro h
      refine X3.back (by intro id h;cases h) rfl ?_
      refine X0i [] (o:=by repeat' first|apply Ya|exact pcM|(simp at qah332 qbh332 qch332 ⊢;omega)|(simp at qah332 qbh332 qch332 qlh332 ⊢;omega)|(simp;done)|(simp at qah334 qbh334 qch334 ⊢;omega)|(simp at qah334 qbh334 qch334 qlh334 ⊢;have qz:=X37 h335;omega)|exact Xw) ?_
      refine X3.round ?_
      revert h
      refine bI fun Xn6 h339=>rnI [Bf] (o:=by repeat' first|apply Ya|exact pcM|(simp at qah332 qbh332 qch332 ⊢;omega)|(simp at qah332 qbh332 qch332 qlh332 ⊢;omega)|(simp;done)|(simp at qah334 qbh334 qch334 ⊢;omega)|(simp at qah334 qbh334 qch334 qlh334 ⊢;have qz:=X37 h335;omega)|exact Xw) ?_
      intro h
      refine X3.join (s':=⟨fr [(4,(AV.ref 0 0 (Xo.length))),(5,(AV.ref 1 0 (m331.length))),(7,(AV.ptr 2 0 0)),(11,(AV.ptr 3 0 0)),(12,(AV.ptr 4 0 0)),(15,(Lf (X2z.map X7))),(16,(aI .i64 (X2z.length:Int))),(17,(aI .i64 (k:Int)))],hp ([(0,Ob (Xo.map X8) 3),(1,Ob (Xn.map X8) 3),(2,Ob [(X7 x)] 5),(3,Ob [(X7 Xn6)] 5),(4,Ob [(X8 (Xg.mk (k:Int) 1 1))] 3)]),5⟩) ?_ (fun J=>X3.cut ?_)
      ·
       revert h
       refine brI (fun h340=>?_) fun h340=>?_
       ·
        exact fun e=>Xa [Bt] (o:=by repeat' first|apply Ya|exact pcM|(simp at qah332 qbh332 qch332 ⊢;omega)|(simp at qah332 qbh332 qch332 qlh332 ⊢;omega)|(simp;done)|(simp at qah334 qbh334 qch334 ⊢;omega)|(simp at qah334 qbh334 qch334 qlh334 ⊢;have qz:=X37 h335;omega)|exact Xw) (k:=wkT [] (C1 _  nbF (oj e).symm))
       refine bI fun u341 h342=>bI fun u343 h344=>rnI [Bf,.trunc 1 (m331.map X8),.no,.no] (o:=by repeat' first|apply Ya|exact pcM|(simp at qah332 qbh332 qch332 ⊢;omega)|(simp at qah332 qbh332 qch332 qlh332 ⊢;omega)|(simp;done)|(simp at qah334 qbh334 qch334 ⊢;omega)|(simp at qah334 qbh334 qch334 qlh334 ⊢;have qz:=X37 h335;omega)|(refine Xv h342 rfl ?_;first|(simp;done)|(simp;omega)|(simp[hc,h324,h335,h340];done)|(simp[hc,h324,h335,h340];omega))|(refine Xf h342 (by decide) ?_;first|(simp;done)|(simp;omega)|(simp[hc,h324,h335,h340];done)|(simp[hc,h324,h335,h340];omega))|exact(X8e (f:=X8) qh332)|(refine Xv h344 rfl ?_;first|(simp;done)|(simp;omega)|(simp[hc,h324,h335,h340];done)|(simp[hc,h324,h335,h340];omega))|(refine Xf h344 (by decide) ?_;first|(simp;done)|(simp;omega)|(simp[hc,h324,h335,h340];done)|(simp[hc,h324,h335,h340];omega))|exact Xw) ?_
       intro h
       exact wkT [(0,8),(1,6)] (ih (k+1) hx1 _ _ nbF nbF o h C0 C1)
      clear h;revert h339
      refine brI (fun h338=>?_) fun h338=>?_
      ·
       intro h
       obtain rfl:=oj h
       exact Xa [Bt] (o:=by repeat' first|apply Ya|exact pcM|(simp at qah332 qbh332 qch332 ⊢;omega)|(simp at qah332 qbh332 qch332 qlh332 ⊢;omega)|(simp;done)|(simp at qah334 qbh334 qch334 ⊢;omega)|(simp at qah334 qbh334 qch334 qlh334 ⊢;have qz:=X37 h335;omega)|exact Xw) (k:=wkT [(3,17),(4,18)] (X3.glue J))
      intro h
      obtain rfl:=oj h
      exact Xa [Bf] (o:=by repeat' first|apply Ya|exact pcM|(simp at qah332 qbh332 qch332 ⊢;omega)|(simp at qah332 qbh332 qch332 qlh332 ⊢;omega)|(simp;done)|(simp at qah334 qbh334 qch334 ⊢;omega)|(simp at qah334 qbh334 qch334 qlh334 ⊢;have qz:=X37 h335;omega)|exact Xw) (k:=wkT [(3,17),(4,18)] (X3.glue J))
     refine rnI [.el (aI .i64 (Xn.length:Int)),.wrap,.via (.ref 1 0 (m331.length)),.el (aI .i64 (Xn.length:Int)),.wrap,.via (.ref 1 (Int.toNat (IntKind.i64.wrap ((Xn.length:Int) - v318.1))) (m333.length))] (o:=by repeat' first|apply Ya|exact pcM|(simp at qah332 qbh332 qch332 ⊢;omega)|(simp at qah332 qbh332 qch332 qlh332 ⊢;omega)|(simp;done)|(simp at qah334 qbh334 qch334 ⊢;omega)|(simp at qah334 qbh334 qch334 qlh334 ⊢;have qz:=X10 h335;omega)|(simp at qah334 qbh334 qch334 qlh334 ⊢;omega)|exact Xw) ?_
     intro h
     refine X3.back (by intro id h;cases h) rfl ?_
     revert h
     refine brI (fun h345=>?_) fun h345=>?_
     ·
      refine rnI [.el (aI .i64 (m333.length:Int))] (o:=by repeat' first|apply Ya|exact pcM|(simp at qah332 qbh332 qch332 ⊢;omega)|(simp at qah332 qbh332 qch332 qlh332 ⊢;omega)|(simp;done)|(simp at qah334 qbh334 qch334 ⊢;omega)|(simp at qah334 qbh334 qch334 qlh334 ⊢;have qz:=X10 h335;omega)|(simp at qah334 qbh334 qch334 qlh334 ⊢;omega)|(have hp:=eq_of_beq h345;simp[hp];done)|(have hp:=eq_of_beq h345;simp at hp ⊢;omega)|(have hp:=eq_of_beq h345;subst hp;decide +kernel)|exact Xw) ?_
      intro h
      refine X3.round ?_
      revert h
      refine bI fun e346 h347=>?_
      try have qh347:=Xc h347
      refine rnI [Bt,.el (X8 e346),.ld (X8 e346),Bt,.wrap,.wrap] (o:=by repeat' first|apply Ya|exact pcM|(simp at qah332 qbh332 qch332 ⊢;omega)|(simp at qah332 qbh332 qch332 qlh332 ⊢;omega)|(simp;done)|(simp at qah334 qbh334 qch334 ⊢;omega)|(simp at qah334 qbh334 qch334 qlh334 ⊢;have qz:=X10 h335;omega)|(simp at qah334 qbh334 qch334 qlh334 ⊢;omega)|(have hp:=eq_of_beq h345;simp[hp];done)|(have hp:=eq_of_beq h345;simp at hp ⊢;omega)|(have hp:=eq_of_beq h345;subst hp;decide +kernel)|exact(Xei (f:=X8) qh334 h347)|exact(Xc h347)|exact(X7l h347)|exact Xw) ?_
      intro h
      refine X3.round ?_
      revert h
      refine bI fun Xn5 h351=>rnI [Bf] (o:=by repeat' first|apply Ya|exact pcM|(simp at qah332 qbh332 qch332 ⊢;omega)|(simp at qah332 qbh332 qch332 qlh332 ⊢;omega)|(simp;done)|(simp at qah334 qbh334 qch334 ⊢;omega)|(simp at qah334 qbh334 qch334 qlh334 ⊢;have qz:=X10 h335;omega)|(simp at qah334 qbh334 qch334 qlh334 ⊢;omega)|(have hp:=eq_of_beq h345;simp[hp];done)|(have hp:=eq_of_beq h345;simp at hp ⊢;omega)|(have hp:=eq_of_beq h345;subst hp;decide +kernel)|exact Xw) ?_
      intro h
      refine X3.join (s':=⟨fr [(4,(AV.ref 0 0 (Xo.length))),(5,(AV.ref 1 0 (m331.length))),(7,(AV.ptr 2 0 0)),(11,(AV.ptr 3 0 0)),(12,(AV.ptr 4 0 0)),(15,(Lf (X2z.map X7))),(16,(aI .i64 (X2z.length:Int))),(17,(aI .i64 (k:Int)))],hp ([(0,Ob (Xo.map X8) 3),(1,Ob (Xn.map X8) 3),(2,Ob [(X7 x)] 5),(3,Ob [(X7 Xn5)] 5),(4,Ob [(X8 (Xg.mk (k:Int) (IntKind.i64.wrap (1+e346.size)) (if (IntKind.i64.wrap (e346.depth+1))>1 then (IntKind.i64.wrap (e346.depth+1)) else 1)))] 3)]),5⟩) ?_ (fun J=>X3.cut ?_)
      ·
       revert h
       refine brI (fun h352=>?_) fun h352=>?_
       ·
        exact fun e=>Xa [Bt] (o:=by repeat' first|apply Ya|exact pcM|(simp at qah332 qbh332 qch332 ⊢;omega)|(simp at qah332 qbh332 qch332 qlh332 ⊢;omega)|(simp;done)|(simp at qah334 qbh334 qch334 ⊢;omega)|(simp at qah334 qbh334 qch334 qlh334 ⊢;have qz:=X10 h335;omega)|(simp at qah334 qbh334 qch334 qlh334 ⊢;omega)|(have hp:=eq_of_beq h345;simp[hp];done)|(have hp:=eq_of_beq h345;simp at hp ⊢;omega)|(have hp:=eq_of_beq h345;subst hp;decide +kernel)|exact Xw) (k:=wkT [] (C1 _  nbF (oj e).symm))
       refine bI fun u353 h354=>bI fun u355 h356=>rnI [Bf,.trunc 1 (m331.map X8),.no,.no] (o:=by repeat' first|apply Ya|exact pcM|(simp at qah332 qbh332 qch332 ⊢;omega)|(simp at qah332 qbh332 qch332 qlh332 ⊢;omega)|(simp;done)|(simp at qah334 qbh334 qch334 ⊢;omega)|(simp at qah334 qbh334 qch334 qlh334 ⊢;have qz:=X10 h335;omega)|(simp at qah334 qbh334 qch334 qlh334 ⊢;omega)|(have hp:=eq_of_beq h345;simp[hp];done)|(have hp:=eq_of_beq h345;simp at hp ⊢;omega)|(have hp:=eq_of_beq h345;subst hp;decide +kernel)|(refine Xv h354 rfl ?_;first|(simp;done)|(simp;omega)|(simp[hc,h324,h335,h345,h352];done)|(simp[hc,h324,h335,h345,h352];omega))|(refine Xf h354 (by decide) ?_;first|(simp;done)|(simp;omega)|(simp[hc,h324,h335,h345,h352];done)|(simp[hc,h324,h335,h345,h352];omega))|exact(X8e (f:=X8) qh332)|(refine Xv h356 rfl ?_;first|(simp;done)|(simp;omega)|(simp[hc,h324,h335,h345,h352];done)|(simp[hc,h324,h335,h345,h352];omega))|(refine Xf h356 (by decide) ?_;first|(simp;done)|(simp;omega)|(simp[hc,h324,h335,h345,h352];done)|(simp[hc,h324,h335,h345,h352];omega))|exact Xw) ?_
       intro h
       exact wkT [(0,8),(1,6)] (ih (k+1) hx1 _ _ nbF nbF o h C0 C1)
      clear h;revert h351
      refine brI (fun h350=>?_) fun h350=>?_
      ·
       intro h
       obtain rfl:=oj h
       exact Xa [Bt] (o:=by repeat' first|apply Ya|exact pcM|(simp at qah332 qbh332 qch332 ⊢;omega)|(simp at qah332 qbh332 qch332 qlh332 ⊢;omega)|(simp;done)|(simp at qah334 qbh334 qch334 ⊢;omega)|(simp at qah334 qbh334 qch334 qlh334 ⊢;have qz:=X10 h335;omega)|(simp at qah334 qbh334 qch334 qlh334 ⊢;omega)|(have hp:=eq_of_beq h345;simp[hp];done)|(have hp:=eq_of_beq h345;simp at hp ⊢;omega)|(have hp:=eq_of_beq h345;subst hp;decide +kernel)|exact Xw) (k:=wkT [(3,17),(4,18)] (X3.glue J))
      intro h
      obtain rfl:=oj h
      exact Xa [Bf] (o:=by repeat' first|apply Ya|exact pcM|(simp at qah332 qbh332 qch332 ⊢;omega)|(simp at qah332 qbh332 qch332 qlh332 ⊢;omega)|(simp;done)|(simp at qah334 qbh334 qch334 ⊢;omega)|(simp at qah334 qbh334 qch334 qlh334 ⊢;have qz:=X10 h335;omega)|(simp at qah334 qbh334 qch334 qlh334 ⊢;omega)|(have hp:=eq_of_beq h345;simp[hp];done)|(have hp:=eq_of_beq h345;simp at hp ⊢;omega)|(have hp:=eq_of_beq h345;subst hp;decide +kernel)|exact Xw) (k:=wkT [(3,17),(4,18)] (X3.glue J))
     refine brI (fun h357=>?_) fun h357=>?_
     ·
      refine rnI [.el (aI .i64 (m333.length:Int))] (o:=by repeat' first|apply Ya|exact pcM|(simp at qah332 qbh332 qch332 ⊢;omega)|(simp at qah332 qbh332 qch332 qlh332 ⊢;omega)|(simp;done)|(simp at qah334 qbh334 qch334 ⊢;omega)|(simp at qah334 qbh334 qch334 qlh334 ⊢;have qz:=X10 h335;omega)|(simp at qah334 qbh334 qch334 qlh334 ⊢;omega)|(have hp:=eq_of_beq h357;simp[hp];done)|(have hp:=eq_of_beq h357;simp at hp ⊢;omega)|(have hp:=eq_of_beq h357;subst hp;decide +kernel)|exact Xw) ?_
      intro h
      refine X3.round ?_
      revert h
      refine bI fun e358 h359=>?_
      try have qh359:=Xc h359
      refine rnI [Bt,.el (X8 e358),.ld (X8 e358),Bt,.wrap,.wrap] (o:=by repeat' first|apply Ya|exact pcM|(simp at qah332 qbh332 qch332 ⊢;omega)|(simp at qah332 qbh332 qch332 qlh332 ⊢;omega)|(simp;done)|(simp at qah334 qbh334 qch334 ⊢;omega)|(simp at qah334 qbh334 qch334 qlh334 ⊢;have qz:=X10 h335;omega)|(simp at qah334 qbh334 qch334 qlh334 ⊢;omega)|(have hp:=eq_of_beq h357;simp[hp];done)|(have hp:=eq_of_beq h357;simp at hp ⊢;omega)|(have hp:=eq_of_beq h357;subst hp;decide +kernel)|exact(Xei (f:=X8) qh334 h359)|exact(Xc h359)|exact(X7l h359)|exact Xw) ?_
      intro h
      refine X3.round ?_
      revert h
      refine bI fun e360 h361=>?_
      try have qh361:=Xc h361
      refine rnI [Bt,.el (X8 e360),.ld (X8 e360),Bf,.wrap,.wrap] (o:=by repeat' first|apply Ya|exact pcM|(simp at qah332 qbh332 qch332 ⊢;omega)|(simp at qah332 qbh332 qch332 qlh332 ⊢;omega)|(simp;done)|(simp at qah334 qbh334 qch334 ⊢;omega)|(simp at qah334 qbh334 qch334 qlh334 ⊢;have qz:=X10 h335;omega)|(simp at qah334 qbh334 qch334 qlh334 ⊢;omega)|(have hp:=eq_of_beq h357;simp[hp];done)|(have hp:=eq_of_beq h357;simp at hp ⊢;omega)|(have hp:=eq_of_beq h357;subst hp;decide +kernel)|exact(Xei (f:=X8) qh334 h361)|exact(Xc h361)|exact(X7l h361)|exact Xw) ?_
      intro h
      refine X3.round ?_
      revert h
      refine bI fun Xn4 h365=>rnI [Bf] (o:=by repeat' first|apply Ya|exact pcM|(simp at qah332 qbh332 qch332 ⊢;omega)|(simp at qah332 qbh332 qch332 qlh332 ⊢;omega)|(simp;done)|(simp at qah334 qbh334 qch334 ⊢;omega)|(simp at qah334 qbh334 qch334 qlh334 ⊢;have qz:=X10 h335;omega)|(simp at qah334 qbh334 qch334 qlh334 ⊢;omega)|(have hp:=eq_of_beq h357;simp[hp];done)|(have hp:=eq_of_beq h357;simp at hp ⊢;omega)|(have hp:=eq_of_beq h357;subst hp;decide +kernel)|exact Xw) ?_
      intro h
      refine X3.join (s':=⟨fr [(4,(AV.ref 0 0 (Xo.length))),(5,(AV.ref 1 0 (m331.length))),(7,(AV.ptr 2 0 0)),(11,(AV.ptr 3 0 0)),(12,(AV.ptr 4 0 0)),(15,(Lf (X2z.map X7))),(16,(aI .i64 (X2z.length:Int))),(17,(aI .i64 (k:Int)))],hp ([(0,Ob (Xo.map X8) 3),(1,Ob (Xn.map X8) 3),(2,Ob [(X7 x)] 5),(3,Ob [(X7 Xn4)] 5),(4,Ob [(X8 (Xg.mk (k:Int) (IntKind.i64.wrap ((IntKind.i64.wrap (1+e358.size))+e360.size)) (if (IntKind.i64.wrap (e360.depth+1))>(if (IntKind.i64.wrap (e358.depth+1))>1 then (IntKind.i64.wrap (e358.depth+1)) else 1) then (IntKind.i64.wrap (e360.depth+1)) else (if (IntKind.i64.wrap (e358.depth+1))>1 then (IntKind.i64.wrap (e358.depth+1)) else 1))))] 3)]),5⟩) ?_ (fun J=>X3.cut ?_)
      ·
       revert h
       refine brI (fun h366=>?_) fun h366=>?_
       ·
        exact fun e=>Xa [Bt] (o:=by repeat' first|apply Ya|exact pcM|(simp at qah332 qbh332 qch332 ⊢;omega)|(simp at qah332 qbh332 qch332 qlh332 ⊢;omega)|(simp;done)|(simp at qah334 qbh334 qch334 ⊢;omega)|(simp at qah334 qbh334 qch334 qlh334 ⊢;have qz:=X10 h335;omega)|(simp at qah334 qbh334 qch334 qlh334 ⊢;omega)|(have hp:=eq_of_beq h357;simp[hp];done)|(have hp:=eq_of_beq h357;simp at hp ⊢;omega)|(have hp:=eq_of_beq h357;subst hp;decide +kernel)|exact Xw) (k:=wkT [] (C1 _  nbF (oj e).symm))
       refine bI fun u367 h368=>bI fun u369 h370=>rnI [Bf,.trunc 1 (m331.map X8),.no,.no] (o:=by repeat' first|apply Ya|exact pcM|(simp at qah332 qbh332 qch332 ⊢;omega)|(simp at qah332 qbh332 qch332 qlh332 ⊢;omega)|(simp;done)|(simp at qah334 qbh334 qch334 ⊢;omega)|(simp at qah334 qbh334 qch334 qlh334 ⊢;have qz:=X10 h335;omega)|(simp at qah334 qbh334 qch334 qlh334 ⊢;omega)|(have hp:=eq_of_beq h357;simp[hp];done)|(have hp:=eq_of_beq h357;simp at hp ⊢;omega)|(have hp:=eq_of_beq h357;subst hp;decide +kernel)|(refine Xv h368 rfl ?_;first|(simp;done)|(simp;omega)|(simp[hc,h324,h335,h345,h357,h366];done)|(simp[hc,h324,h335,h345,h357,h366];omega))|(refine Xf h368 (by decide) ?_;first|(simp;done)|(simp;omega)|(simp[hc,h324,h335,h345,h357,h366];done)|(simp[hc,h324,h335,h345,h357,h366];omega))|exact(X8e (f:=X8) qh332)|(refine Xv h370 rfl ?_;first|(simp;done)|(simp;omega)|(simp[hc,h324,h335,h345,h357,h366];done)|(simp[hc,h324,h335,h345,h357,h366];omega))|(refine Xf h370 (by decide) ?_;first|(simp;done)|(simp;omega)|(simp[hc,h324,h335,h345,h357,h366];done)|(simp[hc,h324,h335,h345,h357,h366];omega))|exact Xw) ?_
       intro h
       exact wkT [(0,8),(1,6)] (ih (k+1) hx1 _ _ nbF nbF o h C0 C1)
      clear h;revert h365
      refine brI (fun h364=>?_) fun h364=>?_
      ·
       intro h
       obtain rfl:=oj h
       exact Xa [Bt] (o:=by repeat' first|apply Ya|exact pcM|(simp at qah332 qbh332 qch332 ⊢;omega)|(simp at qah332 qbh332 qch332 qlh332 ⊢;omega)|(simp;done)|(simp at qah334 qbh334 qch334 ⊢;omega)|(simp at qah334 qbh334 qch334 qlh334 ⊢;have qz:=X10 h335;omega)|(simp at qah334 qbh334 qch334 qlh334 ⊢;omega)|(have hp:=eq_of_beq h357;simp[hp];done)|(have hp:=eq_of_beq h357;simp at hp ⊢;omega)|(have hp:=eq_of_beq h357;subst hp;decide +kernel)|exact Xw) (k:=wkT [(3,17),(4,18)] (X3.glue J))
      intro h
      obtain rfl:=oj h
      exact Xa [Bf] (o:=by repeat' first|apply Ya|exact pcM|(simp at qah332 qbh332 qch332 ⊢;omega)|(simp at qah332 qbh332 qch332 qlh332 ⊢;omega)|(simp;done)|(simp at qah334 qbh334 qch334 ⊢;omega)|(simp at qah334 qbh334 qch334 qlh334 ⊢;have qz:=X10 h335;omega)|(simp at qah334 qbh334 qch334 qlh334 ⊢;omega)|(have hp:=eq_of_beq h357;simp[hp];done)|(have hp:=eq_of_beq h357;simp at hp ⊢;omega)|(have hp:=eq_of_beq h357;subst hp;decide +kernel)|exact Xw) (k:=wkT [(3,17),(4,18)] (X3.glue J))
     intro h
     cases h
    clear h;revert h323
    refine brI (fun h322=>?_) fun h322=>?_
    ·
     intro h
     obtain rfl:=oj h
     exact Xa [.go false,.go false,.go false,.go false] (k:=wkT [] (X3.glue J))
    intro h
    obtain rfl:=oj h
    exact Xa [.go true,.go true,.go true,.el (aI .i64 (Xn.length:Int)),.go true] (k:=wkT [] (X3.glue J))
   obtain rfl:=X0g rfl
   refine X3.round ?_
   revert h
   refine bI fun v371 h372=>bI fun Xyy h376=>rnI [Bt,.el (X7 x),.pure _ (AV.tup [(aI .i64 v371.1),(aI .i64 v371.2)]),.stop 6] ?_
   intro h
   refine X3.join (s':=⟨fr [(4,(AV.ref 0 0 (Xo.length))),(5,AV.nils),(6,(aI .i64 (k:Int))),(7,(AV.ptr 2 0 0)),(8,(aI .i64 v371.1)),(15,(Lf (X2z.map X7))),(16,(aI .i64 (X2z.length:Int))),(17,(aI .i64 (k:Int))),(35,(aB Xyy))],hp ([(0,Ob (Xo.map X8) 3),(2,Ob [(X7 x)] 5)]),3⟩) ?_ (fun J=>X3.cut ?_)
   ·
    revert h
    refine brI (fun h377=>fun e=>Xa [Bt] (k:=wkT [] (C1 _  nbF (oj e).symm))) fun h377=>rnI [Bf] ?_
    intro h
    refine X3.inline X6 Xwf rfl rfl rfl rfl rfl trivial trivial rfl rfl ?_
    revert h
    refine bI fun m383 h384=>?_
    obtain⟨qah384,qbh384,qch384,qh384⟩:=X3s h384
    obtain rfl:=X8c h384
    refine bI fun m385 h386=>?_
    obtain⟨qah386,qbh386,qch386,qh386⟩:=X3s h386
    obtain rfl:=X8c h386
    refine brI (fun h387=>?_) fun h387=>?_
    ·
     refine rnI [.el (aI .i64 (List.length ([]:List Xg):Int)),.wrap,.el (aI .i64 (List.length ([]:List Xg):Int)),.wrap] (o:=by repeat' first|apply Ya|exact pcM|(simp at qah384 qbh384 qch384 ⊢;omega)|(simp at qah386 qbh386 qch386 ⊢;omega)|exact Xw) ?_
     intro h
     refine X3.back (by intro id h;cases h) rfl ?_
     refine X0i [] (o:=by repeat' first|apply Ya|exact pcM|(simp at qah384 qbh384 qch384 ⊢;omega)|(simp at qah386 qbh386 qch386 ⊢;omega)|exact Xw) ?_
     refine X3.round ?_
     revert h
     refine bI fun Xyx h391=>rnI [Bf] (o:=by repeat' first|apply Ya|exact pcM|(simp at qah384 qbh384 qch384 ⊢;omega)|(simp at qah386 qbh386 qch386 ⊢;omega)|exact Xw) ?_
     intro h
     refine X3.join (s':=⟨fr [(4,(AV.ref 0 0 (Xo.length))),(5,AV.nils),(7,(AV.ptr 2 0 0)),(11,(AV.ptr 3 0 0)),(12,(AV.ptr 4 0 0)),(15,(Lf (X2z.map X7))),(16,(aI .i64 (X2z.length:Int))),(17,(aI .i64 (k:Int)))],hp ([(0,Ob (Xo.map X8) 3),(2,Ob [(X7 x)] 5),(3,Ob [(X7 Xyx)] 5),(4,Ob [(X8 (Xg.mk (k:Int) 1 1))] 3)]),5⟩) ?_ (fun J=>X3.cut ?_)
     ·
      revert h
      refine brI (fun h392=>?_) fun h392=>?_
      ·
       exact fun e=>Xa [Bt] (o:=by repeat' first|apply Ya|exact pcM|(simp at qah384 qbh384 qch384 ⊢;omega)|(simp at qah386 qbh386 qch386 ⊢;omega)|exact Xw) (k:=wkT [] (C1 _  nbF (oj e).symm))
      refine bI fun u393 h394=>bI fun u395 h396=>rnI [Bf,.no,.no] (o:=by repeat' first|apply Ya|exact pcM|(simp at qah384 qbh384 qch384 ⊢;omega)|(simp at qah386 qbh386 qch386 ⊢;omega)|(refine Xv h394 rfl ?_;first|(simp;done)|(simp;omega)|(simp[hc,h377,h387,h392];done)|(simp[hc,h377,h387,h392];omega))|(refine Xf h394 (by decide) ?_;first|(simp;done)|(simp;omega)|(simp[hc,h377,h387,h392];done)|(simp[hc,h377,h387,h392];omega))|(refine Xv h396 rfl ?_;first|(simp;done)|(simp;omega)|(simp[hc,h377,h387,h392];done)|(simp[hc,h377,h387,h392];omega))|(refine Xf h396 (by decide) ?_;first|(simp;done)|(simp;omega)|(simp[hc,h377,h387,h392];done)|(simp[hc,h377,h387,h392];omega))|exact Xw) ?_
      intro h
      exact wkT [(0,8),(1,6)] (ih (k+1) hx1 _ _ nbF nbF o h C0 C1)
     clear h;revert h391
     refine brI (fun h390=>?_) fun h390=>?_
     ·
      intro h
      obtain rfl:=oj h
      exact Xa [Bt] (o:=by repeat' first|apply Ya|exact pcM|(simp at qah384 qbh384 qch384 ⊢;omega)|(simp at qah386 qbh386 qch386 ⊢;omega)|exact Xw) (k:=wkT [(3,17),(4,18)] (X3.glue J))
     intro h
     obtain rfl:=oj h
     exact Xa [Bf] (o:=by repeat' first|apply Ya|exact pcM|(simp at qah384 qbh384 qch384 ⊢;omega)|(simp at qah386 qbh386 qch386 ⊢;omega)|exact Xw) (k:=wkT [(3,17),(4,18)] (X3.glue J))
    intro h
    exact absurd h387 (by simp)
   clear h;revert h376
   refine brI (fun h375=>?_) fun h375=>?_
   ·
    intro h
    obtain rfl:=oj h
    exact Xa [.go false,.go false,.go false,.go false] (k:=wkT [] (X3.glue J))
   intro h
   obtain rfl:=oj h
   exact Xa [.go true,.go true,.go true,.el (aI .i64 (List.length ([]:List Xg):Int)),.go true] (k:=wkT [] (X3.glue J))
  obtain rfl:=X5j rfl
  rcases Xt with ⟨_|_,X0g⟩
  ·
   refine X3.round ?_
   revert h
   refine bI fun v397 h398=>bI fun Xyv h402=>rnI [Bt,.el (X7 x),.pure _ (AV.tup [(aI .i64 v397.1),(aI .i64 v397.2)]),.stop 6] ?_
   intro h
   refine X3.join (s':=⟨fr [(4,AV.nils),(5,(AV.ref 1 0 (Xn.length))),(6,(aI .i64 (k:Int))),(7,(AV.ptr 2 0 0)),(8,(aI .i64 v397.1)),(15,(Lf (X2z.map X7))),(16,(aI .i64 (X2z.length:Int))),(17,(aI .i64 (k:Int))),(35,(aB Xyv))],hp ([(1,Ob (Xn.map X8) 3),(2,Ob [(X7 x)] 5)]),3⟩) ?_ (fun J=>X3.cut ?_)
   ·
    revert h
    refine brI (fun h403=>fun e=>Xa [Bt] (k:=wkT [] (C1 _  nbS (oj e).symm))) fun h403=>rnI [Bf] ?_
    intro h
    refine X3.inline X6 Xwf rfl rfl rfl rfl rfl trivial trivial rfl rfl ?_
    revert h
    refine bI fun m409 h410=>?_
    obtain⟨qah410,qbh410,qch410,qh410⟩:=X3s h410
    have qlh410:=X8d h410
    refine bI fun m411 h412=>?_
    obtain⟨qah412,qbh412,qch412,qh412⟩:=X3s h412
    have qlh412:=X8d h412
    refine brI (fun h413=>?_) fun h413=>?_
    ·
     refine rnI [.el (aI .i64 (Xn.length:Int)),.wrap,.via (.ref 1 0 (m409.length)),.el (aI .i64 (Xn.length:Int)),.wrap,.ne false] (o:=by repeat' first|apply Ya|exact pcM|(simp at qah410 qbh410 qch410 ⊢;omega)|(simp at qah410 qbh410 qch410 qlh410 ⊢;omega)|(simp;done)|(simp at qah412 qbh412 qch412 ⊢;omega)|(simp at qah412 qbh412 qch412 qlh412 ⊢;have qz:=X37 h413;omega)|exact Xw) ?_
     intro h
     refine X3.back (by intro id h;cases h) rfl ?_
     refine X0i [] (o:=by repeat' first|apply Ya|exact pcM|(simp at qah410 qbh410 qch410 ⊢;omega)|(simp at qah410 qbh410 qch410 qlh410 ⊢;omega)|(simp;done)|(simp at qah412 qbh412 qch412 ⊢;omega)|(simp at qah412 qbh412 qch412 qlh412 ⊢;have qz:=X37 h413;omega)|exact Xw) ?_
     refine X3.round ?_
     revert h
     refine bI fun Xyu h417=>rnI [Bf] (o:=by repeat' first|apply Ya|exact pcM|(simp at qah410 qbh410 qch410 ⊢;omega)|(simp at qah410 qbh410 qch410 qlh410 ⊢;omega)|(simp;done)|(simp at qah412 qbh412 qch412 ⊢;omega)|(simp at qah412 qbh412 qch412 qlh412 ⊢;have qz:=X37 h413;omega)|exact Xw) ?_
     intro h
     refine X3.join (s':=⟨fr [(4,AV.nils),(5,(AV.ref 1 0 (m409.length))),(7,(AV.ptr 2 0 0)),(11,(AV.ptr 3 0 0)),(12,(AV.ptr 4 0 0)),(15,(Lf (X2z.map X7))),(16,(aI .i64 (X2z.length:Int))),(17,(aI .i64 (k:Int)))],hp ([(1,Ob (Xn.map X8) 3),(2,Ob [(X7 x)] 5),(3,Ob [(X7 Xyu)] 5),(4,Ob [(X8 (Xg.mk (k:Int) 1 1))] 3)]),5⟩) ?_ (fun J=>X3.cut ?_)
     ·
      revert h
      refine brI (fun h418=>?_) fun h418=>?_
      ·
       exact fun e=>Xa [Bt] (o:=by repeat' first|apply Ya|exact pcM|(simp at qah410 qbh410 qch410 ⊢;omega)|(simp at qah410 qbh410 qch410 qlh410 ⊢;omega)|(simp;done)|(simp at qah412 qbh412 qch412 ⊢;omega)|(simp at qah412 qbh412 qch412 qlh412 ⊢;have qz:=X37 h413;omega)|exact Xw) (k:=wkT [] (C1 _  nbS (oj e).symm))
      refine bI fun u419 h420=>bI fun u421 h422=>rnI [Bf,.trunc 1 (m409.map X8),.no,.no] (o:=by repeat' first|apply Ya|exact pcM|(simp at qah410 qbh410 qch410 ⊢;omega)|(simp at qah410 qbh410 qch410 qlh410 ⊢;omega)|(simp;done)|(simp at qah412 qbh412 qch412 ⊢;omega)|(simp at qah412 qbh412 qch412 qlh412 ⊢;have qz:=X37 h413;omega)|(refine Xv h420 rfl ?_;first|(simp;done)|(simp;omega)|(simp[hc,h403,h413,h418];done)|(simp[hc,h403,h413,h418];omega))|(refine Xf h420 (by decide) ?_;first|(simp;done)|(simp;omega)|(simp[hc,h403,h413,h418];done)|(simp[hc,h403,h413,h418];omega))|exact(X8e (f:=X8) qh410)|(refine Xv h422 rfl ?_;first|(simp;done)|(simp;omega)|(simp[hc,h403,h413,h418];done)|(simp[hc,h403,h413,h418];omega))|(refine Xf h422 (by decide) ?_;first|(simp;done)|(simp;omega)|(simp[hc,h403,h413,h418];done)|(simp[hc,h403,h413,h418];omega))|exact Xw) ?_
      intro h
      exact wkT [(0,8),(1,6)] (ih (k+1) hx1 _ _ nbF nbF o h C0 C1)
     clear h;revert h417
     refine brI (fun h416=>?_) fun h416=>?_
     ·
      intro h
      obtain rfl:=oj h
      exact Xa [Bt] (o:=by repeat' first|apply Ya|exact pcM|(simp at qah410 qbh410 qch410 ⊢;omega)|(simp at qah410 qbh410 qch410 qlh410 ⊢;omega)|(simp;done)|(simp at qah412 qbh412 qch412 ⊢;omega)|(simp at qah412 qbh412 qch412 qlh412 ⊢;have qz:=X37 h413;omega)|exact Xw) (k:=wkT [(3,17),(4,18)] (X3.glue J))
     intro h
     obtain rfl:=oj h
     exact Xa [Bf] (o:=by repeat' first|apply Ya|exact pcM|(simp at qah410 qbh410 qch410 ⊢;omega)|(simp at qah410 qbh410 qch410 qlh410 ⊢;omega)|(simp;done)|(simp at qah412 qbh412 qch412 ⊢;omega)|(simp at qah412 qbh412 qch412 qlh412 ⊢;have qz:=X37 h413;omega)|exact Xw) (k:=wkT [(3,17),(4,18)] (X3.glue J))
    refine rnI [.el (aI .i64 (Xn.length:Int)),.wrap,.via (.ref 1 0 (m409.length)),.el (aI .i64 (Xn.length:Int)),.wrap,.via (.ref 1 (Int.toNat (IntKind.i64.wrap ((Xn.length:Int) - v397.1))) (m411.length))] (o:=by repeat' first|apply Ya|exact pcM|(simp at qah410 qbh410 qch410 ⊢;omega)|(simp at qah410 qbh410 qch410 qlh410 ⊢;omega)|(simp;done)|(simp at qah412 qbh412 qch412 ⊢;omega)|(simp at qah412 qbh412 qch412 qlh412 ⊢;have qz:=X10 h413;omega)|(simp at qah412 qbh412 qch412 qlh412 ⊢;omega)|exact Xw) ?_
    intro h
    refine X3.back (by intro id h;cases h) rfl ?_
    revert h
    refine brI (fun h423=>?_) fun h423=>?_
    ·
     refine rnI [.el (aI .i64 (m411.length:Int))] (o:=by repeat' first|apply Ya|exact pcM|(simp at qah410 qbh410 qch410 ⊢;omega)|(simp at qah410 qbh410 qch410 qlh410 ⊢;omega)|(simp;done)|(simp at qah412 qbh412 qch412 ⊢;omega)|(simp at qah412 qbh412 qch412 qlh412 ⊢;have qz:=X10 h413;omega)|(simp at qah412 qbh412 qch412 qlh412 ⊢;omega)|(have hp:=eq_of_beq h423;simp[hp];done)|(have hp:=eq_of_beq h423;simp at hp ⊢;omega)|(have hp:=eq_of_beq h423;subst hp;decide +kernel)|exact Xw) ?_
     intro h
     refine X3.round ?_
     revert h
     refine bI fun e424 h425=>?_
     try have qh425:=Xc h425
     refine rnI [Bt,.el (X8 e424),.ld (X8 e424),Bt,.wrap,.wrap] (o:=by repeat' first|apply Ya|exact pcM|(simp at qah410 qbh410 qch410 ⊢;omega)|(simp at qah410 qbh410 qch410 qlh410 ⊢;omega)|(simp;done)|(simp at qah412 qbh412 qch412 ⊢;omega)|(simp at qah412 qbh412 qch412 qlh412 ⊢;have qz:=X10 h413;omega)|(simp at qah412 qbh412 qch412 qlh412 ⊢;omega)|(have hp:=eq_of_beq h423;simp[hp];done)|(have hp:=eq_of_beq h423;simp at hp ⊢;omega)|(have hp:=eq_of_beq h423;subst hp;decide +kernel)|exact(Xei (f:=X8) qh412 h425)|exact(Xc h425)|exact(X7l h425)|exact Xw) ?_
     intro h
     refine X3.round ?_
     revert h
     refine bI fun Xyt h429=>rnI [Bf] (o:=by repeat' first|apply Ya|exact pcM|(simp at qah410 qbh410 qch410 ⊢;omega)|(simp at qah410 qbh410 qch410 qlh410 ⊢;omega)|(simp;done)|(simp at qah412 qbh412 qch412 ⊢;omega)|(simp at qah412 qbh412 qch412 qlh412 ⊢;have qz:=X10 h413;omega)|(simp at qah412 qbh412 qch412 qlh412 ⊢;omega)|(have hp:=eq_of_beq h423;simp[hp];done)|(have hp:=eq_of_beq h423;simp at hp ⊢;omega)|(have hp:=eq_of_beq h423;subst hp;decide +kernel)|exact Xw) ?_
     intro h
     refine X3.join (s':=⟨fr [(4,AV.nils),(5,(AV.ref 1 0 (m409.length))),(7,(AV.ptr 2 0 0)),(11,(AV.ptr 3 0 0)),(12,(AV.ptr 4 0 0)),(15,(Lf (X2z.map X7))),(16,(aI .i64 (X2z.length:Int))),(17,(aI .i64 (k:Int)))],hp ([(1,Ob (Xn.map X8) 3),(2,Ob [(X7 x)] 5),(3,Ob [(X7 Xyt)] 5),(4,Ob [(X8 (Xg.mk (k:Int) (IntKind.i64.wrap (1+e424.size)) (if (IntKind.i64.wrap (e424.depth+1))>1 then (IntKind.i64.wrap (e424.depth+1)) else 1)))] 3)]),5⟩) ?_ (fun J=>X3.cut ?_)
     ·
      revert h
      refine brI (fun h430=>?_) fun h430=>?_
      ·
       exact fun e=>Xa [Bt] (o:=by repeat' first|apply Ya|exact pcM|(simp at qah410 qbh410 qch410 ⊢;omega)|(simp at qah410 qbh410 qch410 qlh410 ⊢;omega)|(simp;done)|(simp at qah412 qbh412 qch412 ⊢;omega)|(simp at qah412 qbh412 qch412 qlh412 ⊢;have qz:=X10 h413;omega)|(simp at qah412 qbh412 qch412 qlh412 ⊢;omega)|(have hp:=eq_of_beq h423;simp[hp];done)|(have hp:=eq_of_beq h423;simp at hp ⊢;omega)|(have hp:=eq_of_beq h423;subst hp;decide +kernel)|exact Xw) (k:=wkT [] (C1 _  nbS (oj e).symm))
      refine bI fun u431 h432=>bI fun u433 h434=>rnI [Bf,.trunc 1 (m409.map X8),.no,.no] (o:=by repeat' first|apply Ya|exact pcM|(simp at qah410 qbh410 qch410 ⊢;omega)|(simp at qah410 qbh410 qch410 qlh410 ⊢;omega)|(simp;done)|(simp at qah412 qbh412 qch412 ⊢;omega)|(simp at qah412 qbh412 qch412 qlh412 ⊢;have qz:=X10 h413;omega)|(simp at qah412 qbh412 qch412 qlh412 ⊢;omega)|(have hp:=eq_of_beq h423;simp[hp];done)|(have hp:=eq_of_beq h423;simp at hp ⊢;omega)|(have hp:=eq_of_beq h423;subst hp;decide +kernel)|(refine Xv h432 rfl ?_;first|(simp;done)|(simp;omega)|(simp[hc,h403,h413,h423,h430];done)|(simp[hc,h403,h413,h423,h430];omega))|(refine Xf h432 (by decide) ?_;first|(simp;done)|(simp;omega)|(simp[hc,h403,h413,h423,h430];done)|(simp[hc,h403,h413,h423,h430];omega))|exact(X8e (f:=X8) qh410)|(refine Xv h434 rfl ?_;first|(simp;done)|(simp;omega)|(simp[hc,h403,h413,h423,h430];done)|(simp[hc,h403,h413,h423,h430];omega))|(refine Xf h434 (by decide) ?_;first|(simp;done)|(simp;omega)|(simp[hc,h403,h413,h423,h430];done)|(simp[hc,h403,h413,h423,h430];omega))|exact Xw) ?_
      intro h
      exact wkT [(0,8),(1,6)] (ih (k+1) hx1 _ _ nbF nbF o h C0 C1)
     clear h;revert h429
     refine brI (fun h428=>?_) fun h428=>?_
     ·
      intro h
      obtain rfl:=oj h
      exact Xa [Bt] (o:=by repeat' first|apply Ya|exact pcM|(simp at qah410 qbh410 qch410 ⊢;omega)|(simp at qah410 qbh410 qch410 qlh410 ⊢;omega)|(simp;done)|(simp at qah412 qbh412 qch412 ⊢;omega)|(simp at qah412 qbh412 qch412 qlh412 ⊢;have qz:=X10 h413;omega)|(simp at qah412 qbh412 qch412 qlh412 ⊢;omega)|(have hp:=eq_of_beq h423;simp[hp];done)|(have hp:=eq_of_beq h423;simp at hp ⊢;omega)|(have hp:=eq_of_beq h423;subst hp;decide +kernel)|exact Xw) (k:=wkT [(3,17),(4,18)] (X3.glue J))
     intro h
     obtain rfl:=oj h
     exact Xa [Bf] (o:=by repeat' first|apply Ya|exact pcM|(simp at qah410 qbh410 qch410 ⊢;omega)|(simp at qah410 qbh410 qch410 qlh410 ⊢;omega)|(simp;done)|(simp at qah412 qbh412 qch412 ⊢;omega)|(simp at qah412 qbh412 qch412 qlh412 ⊢;have qz:=X10 h413;omega)|(simp at qah412 qbh412 qch412 qlh412 ⊢;omega)|(have hp:=eq_of_beq h423;simp[hp];done)|(have hp:=eq_of_beq h423;simp at hp ⊢;omega)|(have hp:=eq_of_beq h423;subst hp;decide +kernel)|exact Xw) (k:=wkT [(3,17),(4,18)] (X3.glue J))
    refine brI (fun h435=>?_) fun h435=>?_
    ·
     refine rnI [.el (aI .i64 (m411.length:Int))] (o:=by repeat' first|apply Ya|exact pcM|(simp at qah410 qbh410 qch410 ⊢;omega)|(simp at qah410 qbh410 qch410 qlh410 ⊢;omega)|(simp;done)|(simp at qah412 qbh412 qch412 ⊢;omega)|(simp at qah412 qbh412 qch412 qlh412 ⊢;have qz:=X10 h413;omega)|(simp at qah412 qbh412 qch412 qlh412 ⊢;omega)|(have hp:=eq_of_beq h435;simp[hp];done)|(have hp:=eq_of_beq h435;simp at hp ⊢;omega)|(have hp:=eq_of_beq h435;subst hp;decide +kernel)|exact Xw) ?_
     intro h
     refine X3.round ?_
     revert h
     refine bI fun e436 h437=>?_
     try have qh437:=Xc h437
     refine rnI [Bt,.el (X8 e436),.ld (X8 e436),Bt,.wrap,.wrap] (o:=by repeat' first|apply Ya|exact pcM|(simp at qah410 qbh410 qch410 ⊢;omega)|(simp at qah410 qbh410 qch410 qlh410 ⊢;omega)|(simp;done)|(simp at qah412 qbh412 qch412 ⊢;omega)|(simp at qah412 qbh412 qch412 qlh412 ⊢;have qz:=X10 h413;omega)|(simp at qah412 qbh412 qch412 qlh412 ⊢;omega)|(have hp:=eq_of_beq h435;simp[hp];done)|(have hp:=eq_of_beq h435;simp at hp ⊢;omega)|(have hp:=eq_of_beq h435;subst hp;decide +kernel)|exact(Xei (f:=X8) qh412 h437)|exact(Xc h437)|exact(X7l h437)|exact Xw) ?_
     intro h
     refine X3.round ?_
     revert h
     refine bI fun e438 h439=>?_
     try have qh439:=Xc h439
     refine rnI [Bt,.el (X8 e438),.ld (X8 e438),Bf,.wrap,.wrap] (o:=by repeat' first|apply Ya|exact pcM|(simp at qah410 qbh410 qch410 ⊢;omega)|(simp at qah410 qbh410 qch410 qlh410 ⊢;omega)|(simp;done)|(simp at qah412 qbh412 qch412 ⊢;omega)|(simp at qah412 qbh412 qch412 qlh412 ⊢;have qz:=X10 h413;omega)|(simp at qah412 qbh412 qch412 qlh412 ⊢;omega)|(have hp:=eq_of_beq h435;simp[hp];done)|(have hp:=eq_of_beq h435;simp at hp ⊢;omega)|(have hp:=eq_of_beq h435;subst hp;decide +kernel)|exact(Xei (f:=X8) qh412 h439)|exact(Xc h439)|exact(X7l h439)|exact Xw) ?_
     intro h
     refine X3.round ?_
     revert h
     refine bI fun Xys h443=>rnI [Bf] (o:=by repeat' first|apply Ya|exact pcM|(simp at qah410 qbh410 qch410 ⊢;omega)|(simp at qah410 qbh410 qch410 qlh410 ⊢;omega)|(simp;done)|(simp at qah412 qbh412 qch412 ⊢;omega)|(simp at qah412 qbh412 qch412 qlh412 ⊢;have qz:=X10 h413;omega)|(simp at qah412 qbh412 qch412 qlh412 ⊢;omega)|(have hp:=eq_of_beq h435;simp[hp];done)|(have hp:=eq_of_beq h435;simp at hp ⊢;omega)|(have hp:=eq_of_beq h435;subst hp;decide +kernel)|exact Xw) ?_
     intro h
     refine X3.join (s':=⟨fr [(4,AV.nils),(5,(AV.ref 1 0 (m409.length))),(7,(AV.ptr 2 0 0)),(11,(AV.ptr 3 0 0)),(12,(AV.ptr 4 0 0)),(15,(Lf (X2z.map X7))),(16,(aI .i64 (X2z.length:Int))),(17,(aI .i64 (k:Int)))],hp ([(1,Ob (Xn.map X8) 3),(2,Ob [(X7 x)] 5),(3,Ob [(X7 Xys)] 5),(4,Ob [(X8 (Xg.mk (k:Int) (IntKind.i64.wrap ((IntKind.i64.wrap (1+e436.size))+e438.size)) (if (IntKind.i64.wrap (e438.depth+1))>(if (IntKind.i64.wrap (e436.depth+1))>1 then (IntKind.i64.wrap (e436.depth+1)) else 1) then (IntKind.i64.wrap (e438.depth+1)) else (if (IntKind.i64.wrap (e436.depth+1))>1 then (IntKind.i64.wrap (e436.depth+1)) else 1))))] 3)]),5⟩) ?_ (fun J=>X3.cut ?_)
     ·
      revert h
      refine brI (fun h444=>?_) fun h444=>?_
      ·
       exact fun e=>Xa [Bt] (o:=by repeat' first|apply Ya|exact pcM|(simp at qah410 qbh410 qch410 ⊢;omega)|(simp at qah410 qbh410 qch410 qlh410 ⊢;omega)|(simp;done)|(simp at qah412 qbh412 qch412 ⊢;omega)|(simp at qah412 qbh412 qch412 qlh412 ⊢;have qz:=X10 h413;omega)|(simp at qah412 qbh412 qch412 qlh412 ⊢;omega)|(have hp:=eq_of_beq h435;simp[hp];done)|(have hp:=eq_of_beq h435;simp at hp ⊢;omega)|(have hp:=eq_of_beq h435;subst hp;decide +kernel)|exact Xw) (k:=wkT [] (C1 _  nbS (oj e).symm))
      refine bI fun u445 h446=>bI fun u447 h448=>rnI [Bf,.trunc 1 (m409.map X8),.no,.no] (o:=by repeat' first|apply Ya|exact pcM|(simp at qah410 qbh410 qch410 ⊢;omega)|(simp at qah410 qbh410 qch410 qlh410 ⊢;omega)|(simp;done)|(simp at qah412 qbh412 qch412 ⊢;omega)|(simp at qah412 qbh412 qch412 qlh412 ⊢;have qz:=X10 h413;omega)|(simp at qah412 qbh412 qch412 qlh412 ⊢;omega)|(have hp:=eq_of_beq h435;simp[hp];done)|(have hp:=eq_of_beq h435;simp at hp ⊢;omega)|(have hp:=eq_of_beq h435;subst hp;decide +kernel)|(refine Xv h446 rfl ?_;first|(simp;done)|(simp;omega)|(simp[hc,h403,h413,h423,h435,h444];done)|(simp[hc,h403,h413,h423,h435,h444];omega))|(refine Xf h446 (by decide) ?_;first|(simp;done)|(simp;omega)|(simp[hc,h403,h413,h423,h435,h444];done)|(simp[hc,h403,h413,h423,h435,h444];omega))|exact(X8e (f:=X8) qh410)|(refine Xv h448 rfl ?_;first|(simp;done)|(simp;omega)|(simp[hc,h403,h413,h423,h435,h444];done)|(simp[hc,h403,h413,h423,h435,h444];omega))|(refine Xf h448 (by decide) ?_;first|(simp;done)|(simp;omega)|(simp[hc,h403,h413,h423,h435,h444];done)|(simp[hc,h403,h413,h423,h435,h444];omega))|exact Xw) ?_
      intro h
      exact wkT [(0,8),(1,6)] (ih (k+1) hx1 _ _ nbF nbF o h C0 C1)
     clear h;revert h443
     refine brI (fun h442=>?_) fun h442=>?_
     ·
      intro h
      obtain rfl:=oj h
      exact Xa [Bt] (o:=by repeat' first|apply Ya|exact pcM|(simp at qah410 qbh410 qch410 ⊢;omega)|(simp at qah410 qbh410 qch410 qlh410 ⊢;omega)|(simp;done)|(simp at qah412 qbh412 qch412 ⊢;omega)|(simp at qah412 qbh412 qch412 qlh412 ⊢;have qz:=X10 h413;omega)|(simp at qah412 qbh412 qch412 qlh412 ⊢;omega)|(have hp:=eq_of_beq h435;simp[hp];done)|(have hp:=eq_of_beq h435;simp at hp ⊢;omega)|(have hp:=eq_of_beq h435;subst hp;decide +kernel)|exact Xw) (k:=wkT [(3,17),(4,18)] (X3.glue J))
     intro h
     obtain rfl:=oj h
     exact Xa [Bf] (o:=by repeat' first|apply Ya|exact pcM|(simp at qah410 qbh410 qch410 ⊢;omega)|(simp at qah410 qbh410 qch410 qlh410 ⊢;omega)|(simp;done)|(simp at qah412 qbh412 qch412 ⊢;omega)|(simp at qah412 qbh412 qch412 qlh412 ⊢;have qz:=X10 h413;omega)|(simp at qah412 qbh412 qch412 qlh412 ⊢;omega)|(have hp:=eq_of_beq h435;simp[hp];done)|(have hp:=eq_of_beq h435;simp at hp ⊢;omega)|(have hp:=eq_of_beq h435;subst hp;decide +kernel)|exact Xw) (k:=wkT [(3,17),(4,18)] (X3.glue J))
    intro h
    cases h
   clear h;revert h402
   refine brI (fun h401=>?_) fun h401=>?_
   ·
    intro h
    obtain rfl:=oj h
    exact Xa [.go false,.go false,.go false,.go false] (k:=wkT [] (X3.glue J))
   intro h
   obtain rfl:=oj h
   exact Xa [.go true,.go true,.go true,.el (aI .i64 (Xn.length:Int)),.go true] (k:=wkT [] (X3.glue J))
  obtain rfl:=X0g rfl
  refine X3.round ?_
  revert h
  refine bI fun v449 h450=>bI fun Xyr h454=>rnI [Bt,.el (X7 x),.pure _ (AV.tup [(aI .i64 v449.1),(aI .i64 v449.2)]),.stop 6] ?_
  intro h
  refine X3.join (s':=⟨fr [(4,AV.nils),(5,AV.nils),(6,(aI .i64 (k:Int))),(7,(AV.ptr 2 0 0)),(8,(aI .i64 v449.1)),(15,(Lf (X2z.map X7))),(16,(aI .i64 (X2z.length:Int))),(17,(aI .i64 (k:Int))),(35,(aB Xyr))],hp ([(2,Ob [(X7 x)] 5)]),3⟩) ?_ (fun J=>X3.cut ?_)
  ·
   revert h
   refine brI (fun h455=>fun e=>Xa [Bt] (k:=wkT [] (C1 _  nbS (oj e).symm))) fun h455=>rnI [Bf] ?_
   intro h
   refine X3.inline X6 Xwf rfl rfl rfl rfl rfl trivial trivial rfl rfl ?_
   revert h
   refine bI fun m461 h462=>?_
   obtain⟨qah462,qbh462,qch462,qh462⟩:=X3s h462
   obtain rfl:=X8c h462
   refine bI fun m463 h464=>?_
   obtain⟨qah464,qbh464,qch464,qh464⟩:=X3s h464
   obtain rfl:=X8c h464
   refine brI (fun h465=>?_) fun h465=>?_
   ·
    refine rnI [.el (aI .i64 (List.length ([]:List Xg):Int)),.wrap,.el (aI .i64 (List.length ([]:List Xg):Int)),.wrap] (o:=by repeat' first|apply Ya|exact pcM|(simp at qah462 qbh462 qch462 ⊢;omega)|(simp at qah464 qbh464 qch464 ⊢;omega)|exact Xw) ?_
    intro h
    refine X3.back (by intro id h;cases h) rfl ?_
    refine X0i [] (o:=by repeat' first|apply Ya|exact pcM|(simp at qah462 qbh462 qch462 ⊢;omega)|(simp at qah464 qbh464 qch464 ⊢;omega)|exact Xw) ?_
    refine X3.round ?_
    revert h
    refine bI fun Xyq h469=>rnI [Bf] (o:=by repeat' first|apply Ya|exact pcM|(simp at qah462 qbh462 qch462 ⊢;omega)|(simp at qah464 qbh464 qch464 ⊢;omega)|exact Xw) ?_
    intro h
    refine X3.join (s':=⟨fr [(4,AV.nils),(5,AV.nils),(7,(AV.ptr 2 0 0)),(11,(AV.ptr 3 0 0)),(12,(AV.ptr 4 0 0)),(15,(Lf (X2z.map X7))),(16,(aI .i64 (X2z.length:Int))),(17,(aI .i64 (k:Int)))],hp ([(2,Ob [(X7 x)] 5),(3,Ob [(X7 Xyq)] 5),(4,Ob [(X8 (Xg.mk (k:Int) 1 1))] 3)]),5⟩) ?_ (fun J=>X3.cut ?_)
    ·
     revert h
     refine brI (fun h470=>?_) fun h470=>?_
     ·
      exact fun e=>Xa [Bt] (o:=by repeat' first|apply Ya|exact pcM|(simp at qah462 qbh462 qch462 ⊢;omega)|(simp at qah464 qbh464 qch464 ⊢;omega)|exact Xw) (k:=wkT [] (C1 _  nbS (oj e).symm))
     refine bI fun u471 h472=>bI fun u473 h474=>rnI [Bf,.no,.no] (o:=by repeat' first|apply Ya|exact pcM|(simp at qah462 qbh462 qch462 ⊢;omega)|(simp at qah464 qbh464 qch464 ⊢;omega)|(refine Xv h472 rfl ?_;first|(simp;done)|(simp;omega)|(simp[hc,h455,h465,h470];done)|(simp[hc,h455,h465,h470];omega))|(refine Xf h472 (by decide) ?_;first|(simp;done)|(simp;omega)|(simp[hc,h455,h465,h470];done)|(simp[hc,h455,h465,h470];omega))|(refine Xv h474 rfl ?_;first|(simp;done)|(simp;omega)|(simp[hc,h455,h465,h470];done)|(simp[hc,h455,h465,h470];omega))|(refine Xf h474 (by decide) ?_;first|(simp;done)|(simp;omega)|(simp[hc,h455,h465,h470];done)|(simp[hc,h455,h465,h470];omega))|exact Xw) ?_
     intro h
     exact wkT [(0,8),(1,6)] (ih (k+1) hx1 _ _ nbF nbF o h C0 C1)
    clear h;revert h469
    refine brI (fun h468=>?_) fun h468=>?_
    ·
     intro h
     obtain rfl:=oj h
     exact Xa [Bt] (o:=by repeat' first|apply Ya|exact pcM|(simp at qah462 qbh462 qch462 ⊢;omega)|(simp at qah464 qbh464 qch464 ⊢;omega)|exact Xw) (k:=wkT [(3,17),(4,18)] (X3.glue J))
    intro h
    obtain rfl:=oj h
    exact Xa [Bf] (o:=by repeat' first|apply Ya|exact pcM|(simp at qah462 qbh462 qch462 ⊢;omega)|(simp at qah464 qbh464 qch464 ⊢;omega)|exact Xw) (k:=wkT [(3,17),(4,18)] (X3.glue J))
   intro h
   exact absurd h465 (by simp)
  clear h;revert h454
  refine brI (fun h453=>?_) fun h453=>?_
  ·
   intro h
   obtain rfl:=oj h
   exact Xa [.go false,.go false,.go false,.go false] (k:=wkT [] (X3.glue J))
  intro h
  obtain rfl:=oj h
  exact Xa [.go true,.go true,.go true,.el (aI .i64 (List.length ([]:List Xg):Int)),.go true] (k:=wkT [] (X3.glue J))
end Go.Av.Tryz