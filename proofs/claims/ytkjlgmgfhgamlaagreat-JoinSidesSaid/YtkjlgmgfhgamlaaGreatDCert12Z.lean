/- Printed by decomp.py: that the program computes the functions. -/
import Derived.Test.YtkjlgmgfhgamlaaGreatDCert11Z
set_option linter.all false

namespace Go.Av.Tryz
open Go.Proofs Go.D
set_option maxRecDepth 10000
set_option maxHeartbeats 40000000
theorem Xbx {Q:X00->St->Mu->Prop} {μ:Mu} (X8i:(List Int)) (X7j:(List Xm)) (Xcz:Int) (Xt:X06) (Xf4:Bool) (hl:X7j.length<=140737488355328):∀ (xs:List Xm) (k:Nat) (hx:X7j.drop k=xs) (Xp:(List Xn)) (X3k:(List Int)) (X02:(List Int)) (Xv:Nb Xp) (X9i:Nb X3k) (X0c:Nb X02) (o:X49) (h:X19 X8i X7j Xcz Xt Xf4 xs k Xp X3k X02=some o)
  (C0:∀ (X09:(List Xn)) (X2a:(List Int)) (X2d:(List Int)) (X0m:Nb X09) (X2q:Nb X2a) (X1h:Nb X2d),o=X49.x0 X09 X2a X2d->X3 Tryz.prog 207 0 Q (.exit (.exit 0)) [] ⟨fr [(3,(aI .i64 Xcz)),(4,(AV.ptr 0 0 0)),(9,(aB Xf4)),(10,(slE X0m.1 1 (X09.map Xh))),(11,(slE X2q.1 2 (List.map (aI .i64) X2a))),(12,(slE X1h.1 3 (List.map (aI .i64) X2d)))],hp ([(0,Ob [(Xx false Xt)] 10)]++opE X0m.1 1 10 (X09.map Xh)++opE X2q.1 2 1 (List.map (aI .i64) X2a)++opE X1h.1 3 1 (List.map (aI .i64) X2d)),4⟩ μ)
  (C1:o=X49.x1->X3 Tryz.prog 207 0 Q (.exit .ret) [] ⟨fr [(8,(aB Xf4))],hp ([]),0⟩ μ),
  X3 Tryz.prog 207 0 Q (.loop (X5f 0 (Xi Tryz.f3))) [] ⟨fr [(1,(Lf (List.map (aI .i64) X8i))),(2,(Lf (X7j.map Xc))),(3,(aI .i64 Xcz)),(4,(AV.ptr 0 0 0)),(9,(aB Xf4)),(10,(slE Xv.1 1 (Xp.map Xh))),(11,(slE X9i.1 2 (List.map (aI .i64) X3k))),(12,(slE X0c.1 3 (List.map (aI .i64) X02))),(13,(aI .i64 (k:Int)))],hp ([(0,Ob [(Xx false Xt)] 10)]++opE Xv.1 1 10 (Xp.map Xh)++opE X9i.1 2 1 (List.map (aI .i64) X3k)++opE X0c.1 3 1 (List.map (aI .i64) X02)),4⟩ μ:=by
 intro xs
 induction xs with
 |nil =>
  intro k hx Xp X3k X02 Xv X9i X0c o h C0 C1
  have hk:=drop_nil hx
  have hc:decide ((k:Int)<(X7j.length:Int))=false:=Yf (by omega)
  rw[X19] at h
  rcases Xv with ⟨_|_,X0h⟩
  ·
   rcases X9i with ⟨_|_,Xb1⟩
   ·
    rcases X0c with ⟨_|_,X1d⟩
    ·
     refine X3.round ?_
     revert h
     exact fun e=>X9 [.el (aI .i64 (X7j.length:Int)),Bf] (k:=wkT [] (C0 _ _ _  nbF nbF nbF (oj e).symm))
    obtain rfl:=X1d rfl
    refine X3.round ?_
    revert h
    exact fun e=>X9 [.el (aI .i64 (X7j.length:Int)),Bf] (k:=wkT [] (C0 _ _ _  nbF nbF nbS (oj e).symm))
   obtain rfl:=Xb1 rfl
   rcases X0c with ⟨_|_,X1d⟩
   ·
    refine X3.round ?_
    revert h
    exact fun e=>X9 [.el (aI .i64 (X7j.length:Int)),Bf] (k:=wkT [] (C0 _ _ _  nbF nbS nbF (oj e).symm))
   obtain rfl:=X1d rfl
   refine X3.round ?_
   revert h
   exact fun e=>X9 [.el (aI .i64 (X7j.length:Int)),Bf] (k:=wkT [] (C0 _ _ _  nbF nbS nbS (oj e).symm))
  ·
   obtain rfl:=X0h rfl
   rcases X9i with ⟨_|_,Xb1⟩
   ·
    rcases X0c with ⟨_|_,X1d⟩
    ·
     refine X3.round ?_
     revert h
     exact fun e=>X9 [.el (aI .i64 (X7j.length:Int)),Bf] (k:=wkT [] (C0 _ _ _  nbS nbF nbF (oj e).symm))
    ·
     obtain rfl:=X1d rfl
     refine X3.round ?_
     revert h
     exact fun e=>X9 [.el (aI .i64 (X7j.length:Int)),Bf] (k:=wkT [] (C0 _ _ _  nbS nbF nbS (oj e).symm))
   ·
    obtain rfl:=Xb1 rfl
    rcases X0c with ⟨_|_,X1d⟩
    ·
     refine X3.round ?_
     revert h
     exact fun e=>X9 [.el (aI .i64 (X7j.length:Int)),Bf] (k:=wkT [] (C0 _ _ _  nbS nbS nbF (oj e).symm))
    ·
     obtain rfl:=X1d rfl
     refine X3.round ?_
     revert h
     exact fun e=>X9 [.el (aI .i64 (X7j.length:Int)),Bf] (k:=wkT [] (C0 _ _ _  nbS nbS nbS (oj e).symm))
 |cons x xs ih =>
  intro k hx Xp X3k X02 Xv X9i X0c o h C0 C1
  obtain⟨hk,hg,hx1⟩:=X15 hx
  have hc:decide ((k:Int)<(X7j.length:Int))=true:=Yt (by omega)
  rw[X19] at h
  rcases Xv with ⟨_|_,X0h⟩
  ·
   rcases X9i with ⟨_|_,Xb1⟩
   ·
    rcases X0c with ⟨_|_,X1d⟩
    ·
     refine X3.round ?_
     revert h
     refine bI fun Xn5 h414=>rnI [.el (aI .i64 (X7j.length:Int)),Bt,.stop 9] ?_
     intro h
     refine X3.join (s':=⟨fr [(1,(Lf (List.map (aI .i64) X8i))),(2,(Lf (X7j.map Xc))),(3,(aI .i64 Xcz)),(4,(AV.ptr 0 0 0)),(9,(aB Xf4)),(10,(AV.ref 1 0 (Xp.length))),(11,(AV.ref 2 0 (X3k.length))),(12,(AV.ref 3 0 (X02.length))),(13,(aI .i64 (k:Int))),(81,(aB Xn5))],hp ([(0,Ob [(Xx false Xt)] 10),(1,Ob (Xp.map Xh) 10),(2,Ob (List.map (aI .i64) X3k) 1),(3,Ob (List.map (aI .i64) X02) 1)]),4⟩) ?_ (fun J=>X3.cut ?_)
     ·
      revert h
      refine brI (fun h415=>fun e=>X9 [Bt] (k:=wkT [] (C1  (oj e).symm))) fun h415=>bI fun u416 h417=>bI fun e418 h419=>?_
      try have qh419:=Xs h419
      refine bI fun u420 h421=>bI fun u422 h423=>rnI [Bf,.el (Xc x),.no,.el (aI .i64 e418),.no,.el (aI .i64 e418),.wrap,.no] (o:=by repeat' first|apply Ya|exact pcM|(refine Xd h417 rfl ?_;first|(simp;done)|(simp;omega)|(simp[hc,h415];done)|(simp[hc,h415];omega))|(refine X7 h417 (by decide) ?_;first|(simp;done)|(simp;omega)|(simp[hc,h415];done)|(simp[hc,h415];omega))|(refine Xd h421 rfl ?_;first|(simp;done)|(simp;omega)|(simp[hc,h415];done)|(simp[hc,h415];omega))|(refine X7 h421 (by decide) ?_;first|(simp;done)|(simp;omega)|(simp[hc,h415];done)|(simp[hc,h415];omega))|(refine Xd h423 rfl ?_;first|(simp;done)|(simp;omega)|(simp[hc,h415];done)|(simp[hc,h415];omega))|(refine X7 h423 (by decide) ?_;first|(simp;done)|(simp;omega)|(simp[hc,h415];done)|(simp[hc,h415];omega))|exact Xu) ?_
      intro h
      exact wkT [(1,5),(2,12),(3,20)] (ih (k+1) hx1 _ _ _ nbF nbF nbF o h C0 C1)
     clear h;revert h414
     refine bI fun v408 h409=>brI (fun h410=>?_) fun h410=>?_
     ·
      intro h
      obtain rfl:=oj h
      exact X9 [.el (Xc x),.pure _ (aB v408),.go false,.go false,.go false,.go false,.go false,.go false,.go false,.go false,.go false,.go false] (o:=by repeat' first|apply Ya|exact pcM|exact((Xb h410 rfl))|exact(Xf (Xb h410 rfl))|exact(X4e (Xb h410 rfl))|exact Xu) (k:=wkT [] (X3.glue J))
     refine bI fun e411 h412=>?_
     try have qh412:=Xs h412
     refine brI (fun h413=>?_) fun h413=>?_
     ·
      intro h
      obtain rfl:=oj h
      exact X9 [.el (Xc x),.pure _ (aB v408),.go true,.go true,.go true,.el (aI .i64 e411),.go true,.go true,.go false,.go false,.go false,.go false,.go false] (o:=by repeat' first|apply Ya|exact pcM|exact((Xa h410 h413))|exact(Xf (Xa h410 h413))|exact(X4e (Xa h410 h413))|exact Xu) (k:=wkT [] (X3.glue J))
     intro h
     obtain rfl:=oj h
     exact X9 [.el (Xc x),.pure _ (aB v408),.go true,.go true,.go true,.el (aI .i64 e411),.go true,.go true,.go true,.go true,.go true,.el (aI .i64 e411),.go true,.go true] (o:=by repeat' first|apply Ya|exact pcM|exact((Xa h410 h413))|exact(Xf (Xa h410 h413))|exact(Xb6 (Xa h410 h413))|exact Xu) (k:=wkT [] (X3.glue J))
    obtain rfl:=X1d rfl
    refine X3.round ?_
    revert h
    refine bI fun Xyy h437=>rnI [.el (aI .i64 (X7j.length:Int)),Bt,.stop 9] ?_
    intro h
    refine X3.join (s':=⟨fr [(1,(Lf (List.map (aI .i64) X8i))),(2,(Lf (X7j.map Xc))),(3,(aI .i64 Xcz)),(4,(AV.ptr 0 0 0)),(9,(aB Xf4)),(10,(AV.ref 1 0 (Xp.length))),(11,(AV.ref 2 0 (X3k.length))),(12,AV.nils),(13,(aI .i64 (k:Int))),(81,(aB Xyy))],hp ([(0,Ob [(Xx false Xt)] 10),(1,Ob (Xp.map Xh) 10),(2,Ob (List.map (aI .i64) X3k) 1)]),4⟩) ?_ (fun J=>X3.cut ?_)
    ·
     revert h
     refine brI (fun h438=>fun e=>X9 [Bt] (k:=wkT [] (C1  (oj e).symm))) fun h438=>bI fun u439 h440=>bI fun e441 h442=>?_
     try have qh442:=Xs h442
     refine bI fun u443 h444=>bI fun u445 h446=>rnI [Bf,.el (Xc x),.no,.el (aI .i64 e441),.no,.el (aI .i64 e441),.wrap,.no] (o:=by repeat' first|apply Ya|exact pcM|(refine Xd h440 rfl ?_;first|(simp;done)|(simp;omega)|(simp[hc,h438];done)|(simp[hc,h438];omega))|(refine X7 h440 (by decide) ?_;first|(simp;done)|(simp;omega)|(simp[hc,h438];done)|(simp[hc,h438];omega))|(refine Xd h444 rfl ?_;first|(simp;done)|(simp;omega)|(simp[hc,h438];done)|(simp[hc,h438];omega))|(refine X7 h444 (by decide) ?_;first|(simp;done)|(simp;omega)|(simp[hc,h438];done)|(simp[hc,h438];omega))|(refine Xd h446 rfl ?_;first|(simp;done)|(simp;omega)|(simp[hc,h438];done)|(simp[hc,h438];omega))|(refine X7 h446 (by decide) ?_;first|(simp;done)|(simp;omega)|(simp[hc,h438];done)|(simp[hc,h438];omega))|exact Xu) ?_
     intro h
     exact wkT [(1,5),(2,12),(3,20)] (ih (k+1) hx1 _ _ _ nbF nbF nbF o h C0 C1)
    clear h;revert h437
    refine bI fun v431 h432=>brI (fun h433=>?_) fun h433=>?_
    ·
     intro h
     obtain rfl:=oj h
     exact X9 [.el (Xc x),.pure _ (aB v431),.go false,.go false,.go false,.go false,.go false,.go false,.go false,.go false,.go false,.go false] (o:=by repeat' first|apply Ya|exact pcM|exact((Xb h433 rfl))|exact(Xf (Xb h433 rfl))|exact(X4e (Xb h433 rfl))|exact Xu) (k:=wkT [] (X3.glue J))
    refine bI fun e434 h435=>?_
    try have qh435:=Xs h435
    refine brI (fun h436=>?_) fun h436=>?_
    ·
     intro h
     obtain rfl:=oj h
     exact X9 [.el (Xc x),.pure _ (aB v431),.go true,.go true,.go true,.el (aI .i64 e434),.go true,.go true,.go false,.go false,.go false,.go false,.go false] (o:=by repeat' first|apply Ya|exact pcM|exact((Xa h433 h436))|exact(Xf (Xa h433 h436))|exact(X4e (Xa h433 h436))|exact Xu) (k:=wkT [] (X3.glue J))
    intro h
    obtain rfl:=oj h
    exact X9 [.el (Xc x),.pure _ (aB v431),.go true,.go true,.go true,.el (aI .i64 e434),.go true,.go true,.go true,.go true,.go true,.el (aI .i64 e434),.go true,.go true] (o:=by repeat' first|apply Ya|exact pcM|exact((Xa h433 h436))|exact(Xf (Xa h433 h436))|exact(Xb6 (Xa h433 h436))|exact Xu) (k:=wkT [] (X3.glue J))
   obtain rfl:=Xb1 rfl
   rcases X0c with ⟨_|_,X1d⟩
   ·
    refine X3.round ?_
    revert h
    refine bI fun Xyv h460=>rnI [.el (aI .i64 (X7j.length:Int)),Bt,.stop 9] ?_
    intro h
    refine X3.join (s':=⟨fr [(1,(Lf (List.map (aI .i64) X8i))),(2,(Lf (X7j.map Xc))),(3,(aI .i64 Xcz)),(4,(AV.ptr 0 0 0)),(9,(aB Xf4)),(10,(AV.ref 1 0 (Xp.length))),(11,AV.nils),(12,(AV.ref 3 0 (X02.length))),(13,(aI .i64 (k:Int))),(81,(aB Xyv))],hp ([(0,Ob [(Xx false Xt)] 10),(1,Ob (Xp.map Xh) 10),(3,Ob (List.map (aI .i64) X02) 1)]),4⟩) ?_ (fun J=>X3.cut ?_)
    ·
     revert h
     refine brI (fun h461=>fun e=>X9 [Bt] (k:=wkT [] (C1  (oj e).symm))) fun h461=>bI fun u462 h463=>bI fun e464 h465=>?_
     try have qh465:=Xs h465
     refine bI fun u466 h467=>bI fun u468 h469=>rnI [Bf,.el (Xc x),.no,.el (aI .i64 e464),.no,.el (aI .i64 e464),.wrap,.no] (o:=by repeat' first|apply Ya|exact pcM|(refine Xd h463 rfl ?_;first|(simp;done)|(simp;omega)|(simp[hc,h461];done)|(simp[hc,h461];omega))|(refine X7 h463 (by decide) ?_;first|(simp;done)|(simp;omega)|(simp[hc,h461];done)|(simp[hc,h461];omega))|(refine Xd h467 rfl ?_;first|(simp;done)|(simp;omega)|(simp[hc,h461];done)|(simp[hc,h461];omega))|(refine X7 h467 (by decide) ?_;first|(simp;done)|(simp;omega)|(simp[hc,h461];done)|(simp[hc,h461];omega))|(refine Xd h469 rfl ?_;first|(simp;done)|(simp;omega)|(simp[hc,h461];done)|(simp[hc,h461];omega))|(refine X7 h469 (by decide) ?_;first|(simp;done)|(simp;omega)|(simp[hc,h461];done)|(simp[hc,h461];omega))|exact Xu) ?_
     intro h
     exact wkT [(1,5),(2,12),(3,20)] (ih (k+1) hx1 _ _ _ nbF nbF nbF o h C0 C1)
    clear h;revert h460
    refine bI fun v454 h455=>brI (fun h456=>?_) fun h456=>?_
    ·
     intro h
     obtain rfl:=oj h
     exact X9 [.el (Xc x),.pure _ (aB v454),.go false,.go false,.go false,.go false,.go false,.go false,.go false,.go false,.go false,.go false] (o:=by repeat' first|apply Ya|exact pcM|exact((Xb h456 rfl))|exact(Xf (Xb h456 rfl))|exact(X4e (Xb h456 rfl))|exact Xu) (k:=wkT [] (X3.glue J))
    refine bI fun e457 h458=>?_
    try have qh458:=Xs h458
    refine brI (fun h459=>?_) fun h459=>?_
    ·
     intro h
     obtain rfl:=oj h
     exact X9 [.el (Xc x),.pure _ (aB v454),.go true,.go true,.go true,.el (aI .i64 e457),.go true,.go true,.go false,.go false,.go false,.go false,.go false] (o:=by repeat' first|apply Ya|exact pcM|exact((Xa h456 h459))|exact(Xf (Xa h456 h459))|exact(X4e (Xa h456 h459))|exact Xu) (k:=wkT [] (X3.glue J))
    intro h
    obtain rfl:=oj h
    exact X9 [.el (Xc x),.pure _ (aB v454),.go true,.go true,.go true,.el (aI .i64 e457),.go true,.go true,.go true,.go true,.go true,.el (aI .i64 e457),.go true,.go true] (o:=by repeat' first|apply Ya|exact pcM|exact((Xa h456 h459))|exact(Xf (Xa h456 h459))|exact(Xb6 (Xa h456 h459))|exact Xu) (k:=wkT [] (X3.glue J))
   obtain rfl:=X1d rfl
   refine X3.round ?_
   revert h
   refine bI fun Xyt h483=>rnI [.el (aI .i64 (X7j.length:Int)),Bt,.stop 9] ?_
   intro h
   refine X3.join (s':=⟨fr [(1,(Lf (List.map (aI .i64) X8i))),(2,(Lf (X7j.map Xc))),(3,(aI .i64 Xcz)),(4,(AV.ptr 0 0 0)),(9,(aB Xf4)),(10,(AV.ref 1 0 (Xp.length))),(11,AV.nils),(12,AV.nils),(13,(aI .i64 (k:Int))),(81,(aB Xyt))],hp ([(0,Ob [(Xx false Xt)] 10),(1,Ob (Xp.map Xh) 10)]),4⟩) ?_ (fun J=>X3.cut ?_)
   ·
    revert h
    refine brI (fun h484=>fun e=>X9 [Bt] (k:=wkT [] (C1  (oj e).symm))) fun h484=>bI fun u485 h486=>bI fun e487 h488=>?_
    try have qh488:=Xs h488
    refine bI fun u489 h490=>bI fun u491 h492=>rnI [Bf,.el (Xc x),.no,.el (aI .i64 e487),.no,.el (aI .i64 e487),.wrap,.no] (o:=by repeat' first|apply Ya|exact pcM|(refine Xd h486 rfl ?_;first|(simp;done)|(simp;omega)|(simp[hc,h484];done)|(simp[hc,h484];omega))|(refine X7 h486 (by decide) ?_;first|(simp;done)|(simp;omega)|(simp[hc,h484];done)|(simp[hc,h484];omega))|(refine Xd h490 rfl ?_;first|(simp;done)|(simp;omega)|(simp[hc,h484];done)|(simp[hc,h484];omega))|(refine X7 h490 (by decide) ?_;first|(simp;done)|(simp;omega)|(simp[hc,h484];done)|(simp[hc,h484];omega))|(refine Xd h492 rfl ?_;first|(simp;done)|(simp;omega)|(simp[hc,h484];done)|(simp[hc,h484];omega))|(refine X7 h492 (by decide) ?_;first|(simp;done)|(simp;omega)|(simp[hc,h484];done)|(simp[hc,h484];omega))|exact Xu) ?_
    intro h
    exact wkT [(1,5),(2,12),(3,20)] (ih (k+1) hx1 _ _ _ nbF nbF nbF o h C0 C1)
   clear h;revert h483
   refine bI fun v477 h478=>brI (fun h479=>?_) fun h479=>?_
   ·
    intro h
    obtain rfl:=oj h
    exact X9 [.el (Xc x),.pure _ (aB v477),.go false,.go false,.go false,.go false,.go false,.go false,.go false,.go false,.go false,.go false] (o:=by repeat' first|apply Ya|exact pcM|exact((Xb h479 rfl))|exact(Xf (Xb h479 rfl))|exact(X4e (Xb h479 rfl))|exact Xu) (k:=wkT [] (X3.glue J))
   refine bI fun e480 h481=>?_
   try have qh481:=Xs h481
   refine brI (fun h482=>?_) fun h482=>?_
   ·
    intro h
    obtain rfl:=oj h
    exact X9 [.el (Xc x),.pure _ (aB v477),.go true,.go true,.go true,.el (aI .i64 e480),.go true,.go true,.go false,.go false,.go false,.go false,.go false] (o:=by repeat' first|apply Ya|exact pcM|exact((Xa h479 h482))|exact(Xf (Xa h479 h482))|exact(X4e (Xa h479 h482))|exact Xu) (k:=wkT [] (X3.glue J))
   intro h
   obtain rfl:=oj h
   exact X9 [.el (Xc x),.pure _ (aB v477),.go true,.go true,.go true,.el (aI .i64 e480),.go true,.go true,.go true,.go true,.go true,.el (aI .i64 e480),.go true,.go true] (o:=by repeat' first|apply Ya|exact pcM|exact((Xa h479 h482))|exact(Xf (Xa h479 h482))|exact(Xb6 (Xa h479 h482))|exact Xu) (k:=wkT [] (X3.glue J))
  obtain rfl:=X0h rfl
  rcases X9i with ⟨_|_,Xb1⟩
  ·
   rcases X0c with ⟨_|_,X1d⟩
   ·
    refine X3.round ?_
    revert h
    refine bI fun Xys h506=>rnI [.el (aI .i64 (X7j.length:Int)),Bt,.stop 9] ?_
    intro h
    refine X3.join (s':=⟨fr [(1,(Lf (List.map (aI .i64) X8i))),(2,(Lf (X7j.map Xc))),(3,(aI .i64 Xcz)),(4,(AV.ptr 0 0 0)),(9,(aB Xf4)),(10,AV.nils),(11,(AV.ref 2 0 (X3k.length))),(12,(AV.ref 3 0 (X02.length))),(13,(aI .i64 (k:Int))),(81,(aB Xys))],hp ([(0,Ob [(Xx false Xt)] 10),(2,Ob (List.map (aI .i64) X3k) 1),(3,Ob (List.map (aI .i64) X02) 1)]),4⟩) ?_ (fun J=>X3.cut ?_)
    ·
     revert h
     refine brI (fun h507=>fun e=>X9 [Bt] (k:=wkT [] (C1  (oj e).symm))) fun h507=>bI fun u508 h509=>bI fun e510 h511=>?_
     try have qh511:=Xs h511
     refine bI fun u512 h513=>bI fun u514 h515=>rnI [Bf,.el (Xc x),.no,.el (aI .i64 e510),.no,.el (aI .i64 e510),.wrap,.no] (o:=by repeat' first|apply Ya|exact pcM|(refine Xd h509 rfl ?_;first|(simp;done)|(simp;omega)|(simp[hc,h507];done)|(simp[hc,h507];omega))|(refine X7 h509 (by decide) ?_;first|(simp;done)|(simp;omega)|(simp[hc,h507];done)|(simp[hc,h507];omega))|(refine Xd h513 rfl ?_;first|(simp;done)|(simp;omega)|(simp[hc,h507];done)|(simp[hc,h507];omega))|(refine X7 h513 (by decide) ?_;first|(simp;done)|(simp;omega)|(simp[hc,h507];done)|(simp[hc,h507];omega))|(refine Xd h515 rfl ?_;first|(simp;done)|(simp;omega)|(simp[hc,h507];done)|(simp[hc,h507];omega))|(refine X7 h515 (by decide) ?_;first|(simp;done)|(simp;omega)|(simp[hc,h507];done)|(simp[hc,h507];omega))|exact Xu) ?_
     intro h
     exact wkT [(1,5),(2,12),(3,20)] (ih (k+1) hx1 _ _ _ nbF nbF nbF o h C0 C1)
    clear h;revert h506
    refine bI fun v500 h501=>brI (fun h502=>?_) fun h502=>?_
    ·
     intro h
     obtain rfl:=oj h
     exact X9 [.el (Xc x),.pure _ (aB v500),.go false,.go false,.go false,.go false,.go false,.go false,.go false,.go false,.go false,.go false] (o:=by repeat' first|apply Ya|exact pcM|exact((Xb h502 rfl))|exact(Xf (Xb h502 rfl))|exact(X4e (Xb h502 rfl))|exact Xu) (k:=wkT [] (X3.glue J))
    refine bI fun e503 h504=>?_
    try have qh504:=Xs h504
    refine brI (fun h505=>?_) fun h505=>?_
    ·
     intro h
     obtain rfl:=oj h
     exact X9 [.el (Xc x),.pure _ (aB v500),.go true,.go true,.go true,.el (aI .i64 e503),.go true,.go true,.go false,.go false,.go false,.go false,.go false] (o:=by repeat' first|apply Ya|exact pcM|exact((Xa h502 h505))|exact(Xf (Xa h502 h505))|exact(X4e (Xa h502 h505))|exact Xu) (k:=wkT [] (X3.glue J))
    intro h
    obtain rfl:=oj h
    exact X9 [.el (Xc x),.pure _ (aB v500),.go true,.go true,.go true,.el (aI .i64 e503),.go true,.go true,.go true,.go true,.go true,.el (aI .i64 e503),.go true,.go true] (o:=by repeat' first|apply Ya|exact pcM|exact((Xa h502 h505))|exact(Xf (Xa h502 h505))|exact(Xb6 (Xa h502 h505))|exact Xu) (k:=wkT [] (X3.glue J))
   obtain rfl:=X1d rfl
   refine X3.round ?_
   revert h
   refine bI fun Xyq h529=>rnI [.el (aI .i64 (X7j.length:Int)),Bt,.stop 9] ?_
   intro h
   refine X3.join (s':=⟨fr [(1,(Lf (List.map (aI .i64) X8i))),(2,(Lf (X7j.map Xc))),(3,(aI .i64 Xcz)),(4,(AV.ptr 0 0 0)),(9,(aB Xf4)),(10,AV.nils),(11,(AV.ref 2 0 (X3k.length))),(12,AV.nils),(13,(aI .i64 (k:Int))),(81,(aB Xyq))],hp ([(0,Ob [(Xx false Xt)] 10),(2,Ob (List.map (aI .i64) X3k) 1)]),4⟩) ?_ (fun J=>X3.cut ?_)
   ·
    revert h
    refine brI (fun h530=>fun e=>X9 [Bt] (k:=wkT [] (C1  (oj e).symm))) fun h530=>bI fun u531 h532=>bI fun e533 h534=>?_
    try have qh534:=Xs h534
    refine bI fun u535 h536=>bI fun u537 h538=>rnI [Bf,.el (Xc x),.no,.el (aI .i64 e533),.no,.el (aI .i64 e533),.wrap,.no] (o:=by repeat' first|apply Ya|exact pcM|(refine Xd h532 rfl ?_;first|(simp;done)|(simp;omega)|(simp[hc,h530];done)|(simp[hc,h530];omega))|(refine X7 h532 (by decide) ?_;first|(simp;done)|(simp;omega)|(simp[hc,h530];done)|(simp[hc,h530];omega))|(refine Xd h536 rfl ?_;first|(simp;done)|(simp;omega)|(simp[hc,h530];done)|(simp[hc,h530];omega))|(refine X7 h536 (by decide) ?_;first|(simp;done)|(simp;omega)|(simp[hc,h530];done)|(simp[hc,h530];omega))|(refine Xd h538 rfl ?_;first|(simp;done)|(simp;omega)|(simp[hc,h530];done)|(simp[hc,h530];omega))|(refine X7 h538 (by decide) ?_;first|(simp;done)|(simp;omega)|(simp[hc,h530];done)|(simp[hc,h530];omega))|exact Xu) ?_
    intro h
    exact wkT [(1,5),(2,12),(3,20)] (ih (k+1) hx1 _ _ _ nbF nbF nbF o h C0 C1)
   clear h;revert h529
   refine bI fun v523 h524=>brI (fun h525=>?_) fun h525=>?_
   ·
    intro h
    obtain rfl:=oj h
    exact X9 [.el (Xc x),.pure _ (aB v523),.go false,.go false,.go false,.go false,.go false,.go false,.go false,.go false,.go false,.go false] (o:=by repeat' first|apply Ya|exact pcM|exact((Xb h525 rfl))|exact(Xf (Xb h525 rfl))|exact(X4e (Xb h525 rfl))|exact Xu) (k:=wkT [] (X3.glue J))
   refine bI fun e526 h527=>?_
   try have qh527:=Xs h527
   refine brI (fun h528=>?_) fun h528=>?_
   ·
    intro h
    obtain rfl:=oj h
    exact X9 [.el (Xc x),.pure _ (aB v523),.go true,.go true,.go true,.el (aI .i64 e526),.go true,.go true,.go false,.go false,.go false,.go false,.go false] (o:=by repeat' first|apply Ya|exact pcM|exact((Xa h525 h528))|exact(Xf (Xa h525 h528))|exact(X4e (Xa h525 h528))|exact Xu) (k:=wkT [] (X3.glue J))
   intro h
   obtain rfl:=oj h
   exact X9 [.el (Xc x),.pure _ (aB v523),.go true,.go true,.go true,.el (aI .i64 e526),.go true,.go true,.go true,.go true,.go true,.el (aI .i64 e526),.go true,.go true] (o:=by repeat' first|apply Ya|exact pcM|exact((Xa h525 h528))|exact(Xf (Xa h525 h528))|exact(Xb6 (Xa h525 h528))|exact Xu) (k:=wkT [] (X3.glue J))
  obtain rfl:=Xb1 rfl
  rcases X0c with ⟨_|_,X1d⟩
  ·
   refine X3.round ?_
   revert h
   refine bI fun Xyp h552=>rnI [.el (aI .i64 (X7j.length:Int)),Bt,.stop 9] ?_
   intro h
   refine X3.join (s':=⟨fr [(1,(Lf (List.map (aI .i64) X8i))),(2,(Lf (X7j.map Xc))),(3,(aI .i64 Xcz)),(4,(AV.ptr 0 0 0)),(9,(aB Xf4)),(10,AV.nils),(11,AV.nils),(12,(AV.ref 3 0 (X02.length))),(13,(aI .i64 (k:Int))),(81,(aB Xyp))],hp ([(0,Ob [(Xx false Xt)] 10),(3,Ob (List.map (aI .i64) X02) 1)]),4⟩) ?_ (fun J=>X3.cut ?_)
   ·
    revert h
    refine brI (fun h553=>fun e=>X9 [Bt] (k:=wkT [] (C1  (oj e).symm))) fun h553=>bI fun u554 h555=>bI fun e556 h557=>?_
    try have qh557:=Xs h557
    refine bI fun u558 h559=>bI fun u560 h561=>rnI [Bf,.el (Xc x),.no,.el (aI .i64 e556),.no,.el (aI .i64 e556),.wrap,.no] (o:=by repeat' first|apply Ya|exact pcM|(refine Xd h555 rfl ?_;first|(simp;done)|(simp;omega)|(simp[hc,h553];done)|(simp[hc,h553];omega))|(refine X7 h555 (by decide) ?_;first|(simp;done)|(simp;omega)|(simp[hc,h553];done)|(simp[hc,h553];omega))|(refine Xd h559 rfl ?_;first|(simp;done)|(simp;omega)|(simp[hc,h553];done)|(simp[hc,h553];omega))|(refine X7 h559 (by decide) ?_;first|(simp;done)|(simp;omega)|(simp[hc,h553];done)|(simp[hc,h553];omega))|(refine Xd h561 rfl ?_;first|(simp;done)|(simp;omega)|(simp[hc,h553];done)|(simp[hc,h553];omega))|(refine X7 h561 (by decide) ?_;first|(simp;done)|(simp;omega)|(simp[hc,h553];done)|(simp[hc,h553];omega))|exact Xu) ?_
    intro h
    exact wkT [(1,5),(2,12),(3,20)] (ih (k+1) hx1 _ _ _ nbF nbF nbF o h C0 C1)
   clear h;revert h552
   refine bI fun v546 h547=>brI (fun h548=>?_) fun h548=>?_
   ·
    intro h
    obtain rfl:=oj h
    exact X9 [.el (Xc x),.pure _ (aB v546),.go false,.go false,.go false,.go false,.go false,.go false,.go false,.go false,.go false,.go false] (o:=by repeat' first|apply Ya|exact pcM|exact((Xb h548 rfl))|exact(Xf (Xb h548 rfl))|exact(X4e (Xb h548 rfl))|exact Xu) (k:=wkT [] (X3.glue J))
   refine bI fun e549 h550=>?_
   try have qh550:=Xs h550
   refine brI (fun h551=>?_) fun h551=>?_
   ·
    intro h
    obtain rfl:=oj h
    exact X9 [.el (Xc x),.pure _ (aB v546),.go true,.go true,.go true,.el (aI .i64 e549),.go true,.go true,.go false,.go false,.go false,.go false,.go false] (o:=by repeat' first|apply Ya|exact pcM|exact((Xa h548 h551))|exact(Xf (Xa h548 h551))|exact(X4e (Xa h548 h551))|exact Xu) (k:=wkT [] (X3.glue J))
   intro h
   obtain rfl:=oj h
   exact X9 [.el (Xc x),.pure _ (aB v546),.go true,.go true,.go true,.el (aI .i64 e549),.go true,.go true,.go true,.go true,.go true,.el (aI .i64 e549),.go true,.go true] (o:=by repeat' first|apply Ya|exact pcM|exact((Xa h548 h551))|exact(Xf (Xa h548 h551))|exact(Xb6 (Xa h548 h551))|exact Xu) (k:=wkT [] (X3.glue J))
  obtain rfl:=X1d rfl
  refine X3.round ?_
  revert h
  refine bI fun Xyo h575=>rnI [.el (aI .i64 (X7j.length:Int)),Bt,.stop 9] ?_
  intro h
  refine X3.join (s':=⟨fr [(1,(Lf (List.map (aI .i64) X8i))),(2,(Lf (X7j.map Xc))),(3,(aI .i64 Xcz)),(4,(AV.ptr 0 0 0)),(9,(aB Xf4)),(10,AV.nils),(11,AV.nils),(12,AV.nils),(13,(aI .i64 (k:Int))),(81,(aB Xyo))],hp ([(0,Ob [(Xx false Xt)] 10)]),4⟩) ?_ (fun J=>X3.cut ?_)
  ·
   revert h
   refine brI (fun h576=>fun e=>X9 [Bt] (k:=wkT [] (C1  (oj e).symm))) fun h576=>bI fun u577 h578=>bI fun e579 h580=>?_
   try have qh580:=Xs h580
   refine bI fun u581 h582=>bI fun u583 h584=>rnI [Bf,.el (Xc x),.no,.el (aI .i64 e579),.no,.el (aI .i64 e579),.wrap,.no] (o:=by repeat' first|apply Ya|exact pcM|(refine Xd h578 rfl ?_;first|(simp;done)|(simp;omega)|(simp[hc,h576];done)|(simp[hc,h576];omega))|(refine X7 h578 (by decide) ?_;first|(simp;done)|(simp;omega)|(simp[hc,h576];done)|(simp[hc,h576];omega))|(refine Xd h582 rfl ?_;first|(simp;done)|(simp;omega)|(simp[hc,h576];done)|(simp[hc,h576];omega))|(refine X7 h582 (by decide) ?_;first|(simp;done)|(simp;omega)|(simp[hc,h576];done)|(simp[hc,h576];omega))|(refine Xd h584 rfl ?_;first|(simp;done)|(simp;omega)|(simp[hc,h576];done)|(simp[hc,h576];omega))|(refine X7 h584 (by decide) ?_;first|(simp;done)|(simp;omega)|(simp[hc,h576];done)|(simp[hc,h576];omega))|exact Xu) ?_
   intro h
   exact wkT [(1,5),(2,12),(3,20)] (ih (k+1) hx1 _ _ _ nbF nbF nbF o h C0 C1)
  clear h;revert h575
  refine bI fun v569 h570=>brI (fun h571=>?_) fun h571=>?_
  ·
   intro h
   obtain rfl:=oj h
   exact X9 [.el (Xc x),.pure _ (aB v569),.go false,.go false,.go false,.go false,.go false,.go false,.go false,.go false,.go false,.go false] (o:=by repeat' first|apply Ya|exact pcM|exact((Xb h571 rfl))|exact(Xf (Xb h571 rfl))|exact(X4e (Xb h571 rfl))|exact Xu) (k:=wkT [] (X3.glue J))
  refine bI fun e572 h573=>?_
  try have qh573:=Xs h573
  refine brI (fun h574=>?_) fun h574=>?_
  ·
   intro h
   obtain rfl:=oj h
   exact X9 [.el (Xc x),.pure _ (aB v569),.go true,.go true,.go true,.el (aI .i64 e572),.go true,.go true,.go false,.go false,.go false,.go false,.go false] (o:=by repeat' first|apply Ya|exact pcM|exact((Xa h571 h574))|exact(Xf (Xa h571 h574))|exact(X4e (Xa h571 h574))|exact Xu) (k:=wkT [] (X3.glue J))
  intro h
  obtain rfl:=oj h
  exact X9 [.el (Xc x),.pure _ (aB v569),.go true,.go true,.go true,.el (aI .i64 e572),.go true,.go true,.go true,.go true,.go true,.el (aI .i64 e572),.go true,.go true] (o:=by repeat' first|apply Ya|exact pcM|exact((Xa h571 h574))|exact(Xf (Xa h571 h574))|exact(Xb6 (Xa h571 h574))|exact Xu) (k:=wkT [] (X3.glue J))
end Go.Av.Tryz