/- Printed by decomp.py: that the program computes the functions. -/
import Derived.Test.YtfdfgobnpnoomaaGreatDCert12Z
set_option linter.all false

namespace Go.Av.Tryz
open Go.Proofs Go.D
set_option maxRecDepth 10000
set_option maxHeartbeats 40000000
theorem Xfw {Q:X01->St->Mu->Prop} {μ:Mu} (X27:(List Xy)) (Xbp:Int) (Xf:X0h) (hl:X27.length<=140737488355328):∀ (xs:List Xy) (k:Nat) (hx:X27.drop k=xs) (Xi:(List Xr)) (Xm:Nb Xi) (o:X7m) (h:X36 X27 Xbp Xf xs k Xi=some o)
  (C0:∀ (Xg:(List Xr)) (Xl:Nb Xg),o=X7m.x0 Xg->X2 Tryz.prog 49 0 Q (.exit (.exit 0)) [] ⟨fr [(7,(slE Xl.1 0 (Xg.map X3)))],hp ([]++opE Xl.1 0 2 (Xg.map X3)),1⟩ μ),
  X2 Tryz.prog 49 0 Q (.loop (X30 0 (Xj Tryz.f87))) [] ⟨fr [(1,(Lf (X27.map Xe))),(2,(aI .i64 Xbp)),(3,(AV.ptr 0 0 0)),(7,(slE Xm.1 1 (Xi.map X3))),(8,(aI .i64 (k:Int)))],hp ([(0,Ob [(X0s Xf)] 3)]++opE Xm.1 1 2 (Xi.map X3)),2⟩ μ:=by
 intro xs
 induction xs with
 |nil =>
  intro k hx Xi Xm o h C0
  have hk:=drop_nil hx
  have hc:decide ((k:Int)<(X27.length:Int))=false:=Yf (by omega)
  rw[X36] at h
  rcases Xm with ⟨_|_,X02⟩
  ·
   refine X2.round ?_
   revert h
   exact fun e=>X7 [.el (aI .i64 (X27.length:Int)),Bf] (k:=wkT [(0,1)] (C0 _  nbF (oj e).symm))
  ·
   obtain rfl:=X02 rfl
   refine X2.round ?_
   revert h
   exact fun e=>X7 [.el (aI .i64 (X27.length:Int)),Bf] (k:=wkT [] (C0 _  nbS (oj e).symm))
 |cons x xs ih =>
  intro k hx Xi Xm o h C0
  obtain⟨hk,hg,hx1⟩:=drop_cons hx
  have hc:decide ((k:Int)<(X27.length:Int))=true:=Yt (by omega)
  rw[X36] at h
  rcases Xm with ⟨_|_,X02⟩
  ·
   refine X2.round ?_
   revert h
   refine bI fun Xel h11507=>rnI [.el (aI .i64 (X27.length:Int)),Bt,.el (Xe x),.el (Xe x)] ?_
   intro h
   refine X2.joinF (fun(q:Nb Xel)=>⟨fr [(1,(Lf (X27.map Xe))),(2,(aI .i64 Xbp)),(3,(AV.ptr 0 0 0)),(7,(slE q.1 1 (Xel.map X3))),(8,(aI .i64 (k:Int)))],hp ([(0,Ob [(X0s Xf)] 3)]++opE q.1 1 2 (Xel.map X3)),2⟩) ?_ (fun J=>X2.cut ?_)
   ·
    rintro Xpv
    rcases Xpv with ⟨_|_,Xqj⟩
    ·
     exact X7 [] (k:=wkT [] (ih (k+1) hx1 _ nbF o h C0))
    obtain rfl:=Xqj rfl
    exact X7 [] (k:=wkT [] (ih (k+1) hx1 _ nbS o h C0))
   clear h;revert h11507
   refine brI (fun h10204=>?_) fun h10204=>?_
   ·
    intro h
    obtain rfl:=oj h
    exact X7 [Bt] (k:=wkT [] (X2.glue (J nbF)))
   refine brI (fun h10205=>?_) fun h10205=>?_
   ·
    refine bI fun Xek h11501=>rnI [Bf,Bt,.wrap] ?_
    intro h
    refine X2.joinOpF (fun(q:Nb Xek)=>⟨fr [(1,(Lf (X27.map Xe))),(2,(aI .i64 Xbp)),(3,(AV.ptr 0 0 0)),(8,(aI .i64 (k:Int))),(47,(slE q.1 1 (Xek.map X3)))],hp ([(0,Ob [(X0s Xf)] 3)]++opE q.1 1 2 (Xek.map X3)),2⟩) ?_ (fun J=>?_)
    ·
     rintro Xpu
     rcases Xpu with ⟨_|_,Xqi⟩
     ·
      obtain rfl:=oj h
      exact X7 [] (k:=wkT [] (X2.glue (J nbF)))
     obtain rfl:=Xqi rfl
     obtain rfl:=oj h
     exact X7 [] (k:=wkT [] (X2.glue (J nbS)))
    clear h;revert h11501
    intro h
    refine X2.inline X9 X09c rfl rfl rfl rfl rfl trivial trivial rfl rfl ?_
    revert h
    refine bI fun u11069 h11070=>?_
    have qh11070:=X09 h11070
    refine bI fun o11479 h11480=>rnI [] ?_
    intro h
    refine wkT [(2,1),(3,2)] (X2.cut (X4w Xf Xi nbF qh11070 Xi 0 (by simp) _ _ _ nbS nbS _ h11480 ?_))
    intro Xbo X0y X1s X1h X24 eo11479;subst eo11479
    refine X2.glue ?_
    try dsimp only at h
    rcases X1h with ⟨_|_,X4r⟩
    ·
     rcases X24 with ⟨_|_,X2o⟩
     ·
      revert h
      refine bI fun u11481 h11482=>brI (fun q=>?_) fun q=>?_
      ·
       intro h
       have h11483:X1s=[]:=List.isEmpty_iff.1 q
       try rw[h11483,List.append_nil] at h
       obtain rfl:=oj h
       refine X10 [.no,.ne false] (o:=by repeat' first|apply Ya|exact pcM|(refine X0g h11482 rfl ?_;first|(simp;done)|(simp;omega)|(simp[hc,h10204,h10205,h11483];done)|(simp[hc,h10204,h10205,h11483];omega))|(refine Xz h11482 (by decide) ?_;first|(simp;done)|(simp;omega)|(simp[hc,h10204,h10205,h11483];done)|(simp[hc,h10204,h10205,h11483];omega))|exact X0k) ?_
       refine X2.back (by intro id h;cases h) rfl ?_
       exact wkT [(1,6)] ((J nbF))
      intro h
      have h11483:¬ (X1s=[]):=(fun e=>by rw[e] at q;cases q)
      revert h
      refine bI fun u11484 h11485=>?_
      intro h
      obtain rfl:=oj h
      refine X10 [.no,.via (AV.list true (X1s.map X3))] (o:=by repeat' first|apply Ya|exact pcM|(refine X0g h11482 rfl ?_;first|(simp;done)|(simp;omega)|(simp[hc,h10204,h10205,h11483];done)|(simp[hc,h10204,h10205,h11483];omega))|(refine Xz h11482 (by decide) ?_;first|(simp;done)|(simp;omega)|(simp[hc,h10204,h10205,h11483];done)|(simp[hc,h10204,h10205,h11483];omega))|(refine X0g h11485 rfl ?_;first|(simp;done)|(simp;omega)|(simp[hc,h10204,h10205,h11483];done)|(simp[hc,h10204,h10205,h11483];omega))|(refine Xz h11485 (by decide) ?_;first|(simp;done)|(simp;omega)|(simp[hc,h10204,h10205,h11483];done)|(simp[hc,h10204,h10205,h11483];omega))|exact X0k) ?_
      refine X2.back (by intro id h;cases h) rfl ?_
      exact wkT [(1,7)] ((J nbF))
     obtain rfl:=X2o rfl
     revert h
     refine bI fun u11486 h11487=>brI (fun q=>?_) fun q=>?_
     ·
      intro h
      have h11488:([]:List Xr)=[]:=List.isEmpty_iff.1 q
      obtain rfl:=oj h
      refine X10 [.no,.ne false] (o:=by repeat' first|apply Ya|exact pcM|(refine X0g h11487 rfl ?_;first|(simp;done)|(simp;omega)|(simp[hc,h10204,h10205,h11488];done)|(simp[hc,h10204,h10205,h11488];omega))|(refine Xz h11487 (by decide) ?_;first|(simp;done)|(simp;omega)|(simp[hc,h10204,h10205,h11488];done)|(simp[hc,h10204,h10205,h11488];omega))|exact X0k) ?_
      refine X2.back (by intro id h;cases h) rfl ?_
      exact wkT [(1,6)] ((J nbF))
     intro h
     have h11488:¬ (([]:List Xr)=[]):=(fun e=>by rw[e] at q;cases q)
     revert h
     refine bI fun u11489 h11490=>?_
     intro h
     obtain rfl:=oj h
     refine X10 [.no,.via (AV.list true (List.map X3 ([]:List Xr)))] (o:=by repeat' first|apply Ya|exact pcM|(refine X0g h11487 rfl ?_;first|(simp;done)|(simp;omega)|(simp[hc,h10204,h10205,h11488];done)|(simp[hc,h10204,h10205,h11488];omega))|(refine Xz h11487 (by decide) ?_;first|(simp;done)|(simp;omega)|(simp[hc,h10204,h10205,h11488];done)|(simp[hc,h10204,h10205,h11488];omega))|(refine X0g h11490 rfl ?_;first|(simp;done)|(simp;omega)|(simp[hc,h10204,h10205,h11488];done)|(simp[hc,h10204,h10205,h11488];omega))|(refine Xz h11490 (by decide) ?_;first|(simp;done)|(simp;omega)|(simp[hc,h10204,h10205,h11488];done)|(simp[hc,h10204,h10205,h11488];omega))|exact X0k) ?_
     refine X2.back (by intro id h;cases h) rfl ?_
     exact wkT [(1,7)] ((J nbF))
    obtain rfl:=X4r rfl
    rcases X24 with ⟨_|_,X2o⟩
    ·
     revert h
     refine bI fun u11491 h11492=>brI (fun q=>?_) fun q=>?_
     ·
      intro h
      have h11493:X1s=[]:=List.isEmpty_iff.1 q
      try rw[h11493,List.append_nil] at h
      obtain rfl:=oj h
      refine X10 [.no,.ne false] (o:=by repeat' first|apply Ya|exact pcM|(refine X0g h11492 rfl ?_;first|(simp;done)|(simp;omega)|(simp[hc,h10204,h10205,h11493];done)|(simp[hc,h10204,h10205,h11493];omega))|(refine Xz h11492 (by decide) ?_;first|(simp;done)|(simp;omega)|(simp[hc,h10204,h10205,h11493];done)|(simp[hc,h10204,h10205,h11493];omega))|exact X0k) ?_
      refine X2.back (by intro id h;cases h) rfl ?_
      exact wkT [(1,6)] ((J nbF))
     intro h
     have h11493:¬ (X1s=[]):=(fun e=>by rw[e] at q;cases q)
     revert h
     refine bI fun u11494 h11495=>?_
     intro h
     obtain rfl:=oj h
     refine X10 [.no,.via (AV.list true (X1s.map X3))] (o:=by repeat' first|apply Ya|exact pcM|(refine X0g h11492 rfl ?_;first|(simp;done)|(simp;omega)|(simp[hc,h10204,h10205,h11493];done)|(simp[hc,h10204,h10205,h11493];omega))|(refine Xz h11492 (by decide) ?_;first|(simp;done)|(simp;omega)|(simp[hc,h10204,h10205,h11493];done)|(simp[hc,h10204,h10205,h11493];omega))|(refine X0g h11495 rfl ?_;first|(simp;done)|(simp;omega)|(simp[hc,h10204,h10205,h11493];done)|(simp[hc,h10204,h10205,h11493];omega))|(refine Xz h11495 (by decide) ?_;first|(simp;done)|(simp;omega)|(simp[hc,h10204,h10205,h11493];done)|(simp[hc,h10204,h10205,h11493];omega))|exact X0k) ?_
     refine X2.back (by intro id h;cases h) rfl ?_
     exact wkT [(1,7)] ((J nbF))
    obtain rfl:=X2o rfl
    revert h
    refine bI fun u11496 h11497=>brI (fun q=>?_) fun q=>?_
    ·
     intro h
     have h11498:([]:List Xr)=[]:=List.isEmpty_iff.1 q
     obtain rfl:=oj h
     refine X10 [.no,.ne false] (o:=by repeat' first|apply Ya|exact pcM|(refine X0g h11497 rfl ?_;first|(simp;done)|(simp;omega)|(simp[hc,h10204,h10205,h11498];done)|(simp[hc,h10204,h10205,h11498];omega))|(refine Xz h11497 (by decide) ?_;first|(simp;done)|(simp;omega)|(simp[hc,h10204,h10205,h11498];done)|(simp[hc,h10204,h10205,h11498];omega))|exact X0k) ?_
     refine X2.back (by intro id h;cases h) rfl ?_
     exact wkT [(1,6)] ((J nbF))
    intro h
    have h11498:¬ (([]:List Xr)=[]):=(fun e=>by rw[e] at q;cases q)
    revert h
    refine bI fun u11499 h11500=>?_
    intro h
    obtain rfl:=oj h
    refine X10 [.no,.via (AV.list true (List.map X3 ([]:List Xr)))] (o:=by repeat' first|apply Ya|exact pcM|(refine X0g h11497 rfl ?_;first|(simp;done)|(simp;omega)|(simp[hc,h10204,h10205,h11498];done)|(simp[hc,h10204,h10205,h11498];omega))|(refine Xz h11497 (by decide) ?_;first|(simp;done)|(simp;omega)|(simp[hc,h10204,h10205,h11498];done)|(simp[hc,h10204,h10205,h11498];omega))|(refine X0g h11500 rfl ?_;first|(simp;done)|(simp;omega)|(simp[hc,h10204,h10205,h11498];done)|(simp[hc,h10204,h10205,h11498];omega))|(refine Xz h11500 (by decide) ?_;first|(simp;done)|(simp;omega)|(simp[hc,h10204,h10205,h11498];done)|(simp[hc,h10204,h10205,h11498];omega))|exact X0k) ?_
    refine X2.back (by intro id h;cases h) rfl ?_
    exact wkT [(1,7)] ((J nbF))
   refine bI fun v11502 h11503=>brI (fun q=>?_) fun q=>?_
   ·
    intro h
    have h11504:v11502=[]:=List.isEmpty_iff.1 q
    try rw[h11504,List.append_nil] at h
    obtain rfl:=oj h
    exact X7 [Bf,Bf,.pure _ (AV.list true (v11502.map X3)),.ne false] (k:=wkT [] (X2.glue (J nbF)))
   intro h
   have h11504:¬ (v11502=[]):=(fun e=>by rw[e] at q;cases q)
   revert h
   refine bI fun u11505 h11506=>?_
   intro h
   obtain rfl:=oj h
   exact X7 [Bf,Bf,.pure _ (AV.list true (v11502.map X3)),.via (AV.list true (v11502.map X3))] (o:=by repeat' first|apply Ya|exact pcM|(refine X0g h11506 rfl ?_;first|(simp;done)|(simp;omega)|(simp[hc,h10204,h10205,h11504];done)|(simp[hc,h10204,h10205,h11504];omega))|(refine Xz h11506 (by decide) ?_;first|(simp;done)|(simp;omega)|(simp[hc,h10204,h10205,h11504];done)|(simp[hc,h10204,h10205,h11504];omega))|exact X0k) (k:=wkT [(1,2)] (X2.glue (J nbF)))
  obtain rfl:=X02 rfl
  refine X2.round ?_
  revert h
  refine bI fun Xl1 h13347=>rnI [.el (aI .i64 (X27.length:Int)),Bt,.el (Xe x),.el (Xe x)] ?_
  intro h
  refine X2.joinF (fun(q:Nb Xl1)=>⟨fr [(1,(Lf (X27.map Xe))),(2,(aI .i64 Xbp)),(3,(AV.ptr 0 0 0)),(7,(slE q.1 1 (Xl1.map X3))),(8,(aI .i64 (k:Int)))],hp ([(0,Ob [(X0s Xf)] 3)]++opE q.1 1 2 (Xl1.map X3)),2⟩) ?_ (fun J=>X2.cut ?_)
  ·
   rintro Xpp
   rcases Xpp with ⟨_|_,Xqd⟩
   ·
    exact X7 [] (k:=wkT [] (ih (k+1) hx1 _ nbF o h C0))
   obtain rfl:=Xqd rfl
   exact X7 [] (k:=wkT [] (ih (k+1) hx1 _ nbS o h C0))
  clear h;revert h13347
  refine brI (fun h12428=>?_) fun h12428=>?_
  ·
   intro h
   obtain rfl:=oj h
   exact X7 [Bt] (k:=wkT [] (X2.glue (J nbS)))
  refine brI (fun h12429=>?_) fun h12429=>?_
  ·
   refine bI fun Xl0 h13341=>rnI [Bf,Bt,.wrap] ?_
   intro h
   refine X2.joinOpF (fun(q:Nb Xl0)=>⟨fr [(1,(Lf (X27.map Xe))),(2,(aI .i64 Xbp)),(3,(AV.ptr 0 0 0)),(8,(aI .i64 (k:Int))),(47,(slE q.1 1 (Xl0.map X3)))],hp ([(0,Ob [(X0s Xf)] 3)]++opE q.1 1 2 (Xl0.map X3)),2⟩) ?_ (fun J=>?_)
   ·
    rintro Xpo
    rcases Xpo with ⟨_|_,Xqc⟩
    ·
     obtain rfl:=oj h
     exact X7 [] (k:=wkT [] (X2.glue (J nbF)))
    obtain rfl:=Xqc rfl
    obtain rfl:=oj h
    exact X7 [] (k:=wkT [] (X2.glue (J nbS)))
   clear h;revert h13341
   intro h
   refine X2.inline X9 X09c rfl rfl rfl rfl rfl trivial trivial rfl rfl ?_
   revert h
   refine bI fun u13037 h13038=>?_
   have qh13038:=X09 h13038
   refine bI fun o13319 h13320=>rnI [] ?_
   intro h
   refine wkT [(3,2)] (X2.cut (X4w Xf ([]:List Xr) nbS qh13038 ([]:List Xr) 0 (by simp) _ _ _ nbS nbS _ h13320 ?_))
   intro Xbo X0y X1s X1h X24 eo13319;subst eo13319
   refine X2.glue ?_
   try dsimp only at h
   rcases X1h with ⟨_|_,X4r⟩
   ·
    rcases X24 with ⟨_|_,X2o⟩
    ·
     revert h
     refine bI fun u13321 h13322=>brI (fun q=>?_) fun q=>?_
     ·
      intro h
      have h13323:X1s=[]:=List.isEmpty_iff.1 q
      try rw[h13323,List.append_nil] at h
      obtain rfl:=oj h
      refine X10 [.no,.ne false] (o:=by repeat' first|apply Ya|exact pcM|(refine X0g h13322 rfl ?_;first|(simp;done)|(simp;omega)|(simp[hc,h12428,h12429,h13323];done)|(simp[hc,h12428,h12429,h13323];omega))|(refine Xz h13322 (by decide) ?_;first|(simp;done)|(simp;omega)|(simp[hc,h12428,h12429,h13323];done)|(simp[hc,h12428,h12429,h13323];omega))|exact X0k) ?_
      refine X2.back (by intro id h;cases h) rfl ?_
      exact wkT [(1,6)] ((J nbF))
     intro h
     have h13323:¬ (X1s=[]):=(fun e=>by rw[e] at q;cases q)
     revert h
     refine bI fun u13324 h13325=>?_
     intro h
     obtain rfl:=oj h
     refine X10 [.no,.via (AV.list true (X1s.map X3))] (o:=by repeat' first|apply Ya|exact pcM|(refine X0g h13322 rfl ?_;first|(simp;done)|(simp;omega)|(simp[hc,h12428,h12429,h13323];done)|(simp[hc,h12428,h12429,h13323];omega))|(refine Xz h13322 (by decide) ?_;first|(simp;done)|(simp;omega)|(simp[hc,h12428,h12429,h13323];done)|(simp[hc,h12428,h12429,h13323];omega))|(refine X0g h13325 rfl ?_;first|(simp;done)|(simp;omega)|(simp[hc,h12428,h12429,h13323];done)|(simp[hc,h12428,h12429,h13323];omega))|(refine Xz h13325 (by decide) ?_;first|(simp;done)|(simp;omega)|(simp[hc,h12428,h12429,h13323];done)|(simp[hc,h12428,h12429,h13323];omega))|exact X0k) ?_
     refine X2.back (by intro id h;cases h) rfl ?_
     exact wkT [(1,7)] ((J nbF))
    obtain rfl:=X2o rfl
    revert h
    refine bI fun u13326 h13327=>brI (fun q=>?_) fun q=>?_
    ·
     intro h
     have h13328:([]:List Xr)=[]:=List.isEmpty_iff.1 q
     obtain rfl:=oj h
     refine X10 [.no,.ne false] (o:=by repeat' first|apply Ya|exact pcM|(refine X0g h13327 rfl ?_;first|(simp;done)|(simp;omega)|(simp[hc,h12428,h12429,h13328];done)|(simp[hc,h12428,h12429,h13328];omega))|(refine Xz h13327 (by decide) ?_;first|(simp;done)|(simp;omega)|(simp[hc,h12428,h12429,h13328];done)|(simp[hc,h12428,h12429,h13328];omega))|exact X0k) ?_
     refine X2.back (by intro id h;cases h) rfl ?_
     exact wkT [(1,6)] ((J nbF))
    intro h
    have h13328:¬ (([]:List Xr)=[]):=(fun e=>by rw[e] at q;cases q)
    revert h
    refine bI fun u13329 h13330=>?_
    intro h
    obtain rfl:=oj h
    refine X10 [.no,.via (AV.list true (List.map X3 ([]:List Xr)))] (o:=by repeat' first|apply Ya|exact pcM|(refine X0g h13327 rfl ?_;first|(simp;done)|(simp;omega)|(simp[hc,h12428,h12429,h13328];done)|(simp[hc,h12428,h12429,h13328];omega))|(refine Xz h13327 (by decide) ?_;first|(simp;done)|(simp;omega)|(simp[hc,h12428,h12429,h13328];done)|(simp[hc,h12428,h12429,h13328];omega))|(refine X0g h13330 rfl ?_;first|(simp;done)|(simp;omega)|(simp[hc,h12428,h12429,h13328];done)|(simp[hc,h12428,h12429,h13328];omega))|(refine Xz h13330 (by decide) ?_;first|(simp;done)|(simp;omega)|(simp[hc,h12428,h12429,h13328];done)|(simp[hc,h12428,h12429,h13328];omega))|exact X0k) ?_
    refine X2.back (by intro id h;cases h) rfl ?_
    exact wkT [(1,7)] ((J nbF))
   obtain rfl:=X4r rfl
   rcases X24 with ⟨_|_,X2o⟩
   ·
    revert h
    refine bI fun u13331 h13332=>brI (fun q=>?_) fun q=>?_
    ·
     intro h
     have h13333:X1s=[]:=List.isEmpty_iff.1 q
     try rw[h13333,List.append_nil] at h
     obtain rfl:=oj h
     refine X10 [.no,.ne false] (o:=by repeat' first|apply Ya|exact pcM|(refine X0g h13332 rfl ?_;first|(simp;done)|(simp;omega)|(simp[hc,h12428,h12429,h13333];done)|(simp[hc,h12428,h12429,h13333];omega))|(refine Xz h13332 (by decide) ?_;first|(simp;done)|(simp;omega)|(simp[hc,h12428,h12429,h13333];done)|(simp[hc,h12428,h12429,h13333];omega))|exact X0k) ?_
     refine X2.back (by intro id h;cases h) rfl ?_
     exact wkT [(1,6)] ((J nbF))
    intro h
    have h13333:¬ (X1s=[]):=(fun e=>by rw[e] at q;cases q)
    revert h
    refine bI fun u13334 h13335=>?_
    intro h
    obtain rfl:=oj h
    refine X10 [.no,.via (AV.list true (X1s.map X3))] (o:=by repeat' first|apply Ya|exact pcM|(refine X0g h13332 rfl ?_;first|(simp;done)|(simp;omega)|(simp[hc,h12428,h12429,h13333];done)|(simp[hc,h12428,h12429,h13333];omega))|(refine Xz h13332 (by decide) ?_;first|(simp;done)|(simp;omega)|(simp[hc,h12428,h12429,h13333];done)|(simp[hc,h12428,h12429,h13333];omega))|(refine X0g h13335 rfl ?_;first|(simp;done)|(simp;omega)|(simp[hc,h12428,h12429,h13333];done)|(simp[hc,h12428,h12429,h13333];omega))|(refine Xz h13335 (by decide) ?_;first|(simp;done)|(simp;omega)|(simp[hc,h12428,h12429,h13333];done)|(simp[hc,h12428,h12429,h13333];omega))|exact X0k) ?_
    refine X2.back (by intro id h;cases h) rfl ?_
    exact wkT [(1,7)] ((J nbF))
   obtain rfl:=X2o rfl
   revert h
   refine bI fun u13336 h13337=>brI (fun q=>?_) fun q=>?_
   ·
    intro h
    have h13338:([]:List Xr)=[]:=List.isEmpty_iff.1 q
    obtain rfl:=oj h
    refine X10 [.no,.ne false] (o:=by repeat' first|apply Ya|exact pcM|(refine X0g h13337 rfl ?_;first|(simp;done)|(simp;omega)|(simp[hc,h12428,h12429,h13338];done)|(simp[hc,h12428,h12429,h13338];omega))|(refine Xz h13337 (by decide) ?_;first|(simp;done)|(simp;omega)|(simp[hc,h12428,h12429,h13338];done)|(simp[hc,h12428,h12429,h13338];omega))|exact X0k) ?_
    refine X2.back (by intro id h;cases h) rfl ?_
    exact wkT [(1,6)] ((J nbF))
   intro h
   have h13338:¬ (([]:List Xr)=[]):=(fun e=>by rw[e] at q;cases q)
   revert h
   refine bI fun u13339 h13340=>?_
   intro h
   obtain rfl:=oj h
   refine X10 [.no,.via (AV.list true (List.map X3 ([]:List Xr)))] (o:=by repeat' first|apply Ya|exact pcM|(refine X0g h13337 rfl ?_;first|(simp;done)|(simp;omega)|(simp[hc,h12428,h12429,h13338];done)|(simp[hc,h12428,h12429,h13338];omega))|(refine Xz h13337 (by decide) ?_;first|(simp;done)|(simp;omega)|(simp[hc,h12428,h12429,h13338];done)|(simp[hc,h12428,h12429,h13338];omega))|(refine X0g h13340 rfl ?_;first|(simp;done)|(simp;omega)|(simp[hc,h12428,h12429,h13338];done)|(simp[hc,h12428,h12429,h13338];omega))|(refine Xz h13340 (by decide) ?_;first|(simp;done)|(simp;omega)|(simp[hc,h12428,h12429,h13338];done)|(simp[hc,h12428,h12429,h13338];omega))|exact X0k) ?_
   refine X2.back (by intro id h;cases h) rfl ?_
   exact wkT [(1,7)] ((J nbF))
  refine bI fun v13342 h13343=>brI (fun q=>?_) fun q=>?_
  ·
   intro h
   have h13344:v13342=[]:=List.isEmpty_iff.1 q
   try rw[h13344,List.append_nil] at h
   obtain rfl:=oj h
   exact X7 [Bf,Bf,.pure _ (AV.list true (v13342.map X3)),.ne false] (k:=wkT [] (X2.glue (J nbS)))
  intro h
  have h13344:¬ (v13342=[]):=(fun e=>by rw[e] at q;cases q)
  revert h
  refine bI fun u13345 h13346=>?_
  intro h
  obtain rfl:=oj h
  exact X7 [Bf,Bf,.pure _ (AV.list true (v13342.map X3)),.via (AV.list true (v13342.map X3))] (o:=by repeat' first|apply Ya|exact pcM|(refine X0g h13346 rfl ?_;first|(simp;done)|(simp;omega)|(simp[hc,h12428,h12429,h13344];done)|(simp[hc,h12428,h12429,h13344];omega))|(refine Xz h13346 (by decide) ?_;first|(simp;done)|(simp;omega)|(simp[hc,h12428,h12429,h13344];done)|(simp[hc,h12428,h12429,h13344];omega))|exact X0k) (k:=wkT [(1,2)] (X2.glue (J nbF)))
instance Xx7:PCs Tryz.prog 87 (∀ (a0:X0h) (a1:(List Xy)) (a2:Int) (r:(List Xr)),X66 a0 a1 a2=some r->X0j Tryz.prog 87 [(X0s a0),(Lf (a1.map Xe)),(aI .i64 a2)] (AV.list true (r.map X3))):=⟨fun a0 a1 a2 r h=>by
 refine X0j.sym X9 fn87 (nt:=49) rfl rfl ?_ okM
 unfold X66 at h
 revert h
 refine bI fun u1 h2=>?_
 have qh2:=X09 h2
 refine bI fun o13348 h13349=>rnI [] ?_
 intro h
 refine wkT [] (X2.cut (Xfw a1 a2 a0 qh2 a1 0 (by simp) _ nbS _ h13349 ?_))
 intro Xg Xl eo13348;subst eo13348
 refine X2.glue ?_
 try dsimp only at h
 rcases Xl with ⟨_|_,X0q⟩
 ·
  revert h
  exact fun e=>oj e▸X7 [] (k:=fi)
 obtain rfl:=X0q rfl
 revert h
 exact fun e=>oj e▸X7 [] (k:=fi)⟩
theorem Xkf {Q:X01->St->Mu->Prop} {μ:Mu} (X07:(List X1c)) (X27:Int) (Xf:Xr) (hl:X07.length<=140737488355328):∀ (xs:List X1c) (k:Nat) (hx:X07.drop k=xs) (o:X8x) (h:X4x X07 X27 Xf xs k  = some o)
  (C0:o=X8x.x0->X2 Tryz.prog 30 0 Q (.exit (.exit 0)) [] ⟨fr [],hp ([]),0⟩ μ)
  (C1:o=X8x.x1->X2 Tryz.prog 30 0 Q (.exit .ret) [] ⟨fr [(6,(aB true))],hp ([]),0⟩ μ),
  X2 Tryz.prog 30 0 Q (.loop (X30 0 (Xj Tryz.f88))) [] ⟨fr [(0,(Lf (X07.map Xd))),(1,(aI .i64 X27)),(5,(AV.ptr 0 0 0)),(7,(aI .i64 (k:Int)))],hp ([(0,Ob [(X3 Xf)] 2)]),1⟩ μ:=by
 intro xs
 induction xs with
 |nil =>
  intro k hx  o h C0 C1
  have hk:=drop_nil hx
  have hc:decide ((k:Int)<(X07.length:Int))=false:=Yf (by omega)
  rw[X4x] at h
  refine X2.round ?_
  revert h
  exact fun e=>X7 [.el (aI .i64 (X07.length:Int)),Bf] (k:=wkT [] (C0  (oj e).symm))
 |cons x xs ih =>
  intro k hx  o h C0 C1
  obtain⟨hk,hg,hx1⟩:=drop_cons hx
  have hc:decide ((k:Int)<(X07.length:Int))=true:=Yt (by omega)
  rw[X4x] at h
  refine X2.round ?_
  revert h
  refine bI fun Xzm h17=>rnI [.el (aI .i64 (X07.length:Int)),Bt,.stop 4] ?_
  intro h
  refine X2.join (s':=⟨fr [(0,(Lf (X07.map Xd))),(1,(aI .i64 X27)),(5,(AV.ptr 0 0 0)),(7,(aI .i64 (k:Int))),(29,(aB Xzm))],hp ([(0,Ob [(X3 Xf)] 2)]),1⟩) ?_ (fun J=>X2.cut ?_)
  ·
   revert h
   refine brI (fun h18=>fun e=>X7 [Bt] (k:=wkT [] (C1  (oj e).symm))) fun h18=>rnI [Bf] ?_
   intro h
   exact wkT [] (ih (k+1) hx1  o h C0 C1)
  clear h;revert h17
  refine brI (fun h16=>?_) fun h16=>?_
  ·
   intro h
   obtain rfl:=oj h
   exact X7 [.el (Xd x),.go true,.go true,.go true,.el (Xd x),.go true,.go true,.go true,.go true] (k:=wkT [] (X2.glue J))
  intro h
  obtain rfl:=oj h
  exact X7 [.el (Xd x),.go false,.go false,.go false,.go false,.go false,.go false,.go false,.go false] (k:=wkT [] (X2.glue J))
instance X04l:PCs Tryz.prog 88 (∀ (a0:(List X1c)) (a1:Int) (a2:Xr) (r:Bool),Xec a0 a1 a2=some r->X0j Tryz.prog 88 [(Lf (a0.map Xd)),(aI .i64 a1),(X3 a2)] (aB r)):=⟨fun a0 a1 a2 r h=>by
 refine X0j.sym X9 fn88 (nt:=30) rfl rfl ?_ okM
 unfold Xec at h
 revert h
 refine bI fun u1 h2=>?_
 have qh2:=X09 h2
 refine bI fun o19 h20=>rnI [] ?_
 intro h
 refine wkT [] (X2.cut (Xkf a0 a1 a2 qh2 a0 0 (by simp) _ h20 ?_ ?_))
 ·
  intro eo19;subst eo19
  refine X2.glue ?_
  try dsimp only at h
  revert h
  exact fun e=>oj e▸X7 [] (k:=fi)
 intro eo19;subst eo19
 refine X2.glue ?_
 try dsimp only at h
 revert h
 exact fun e=>oj e▸X7 [] (k:=fi)⟩
instance Xd7:PCs Tryz.prog 125 (∀ (a0:X0a) (a1:Int) (r:X0a),X7c a0 a1=some r->X0j Tryz.prog 125 [(X0c a0),(aI .i64 a1)] (X0c r)):=⟨fun a0 a1 r h=>by
 refine X0j.sym X9 X0bo (nt:=34) rfl rfl ?_ okM
 unfold X7c at h
 revert h
 refine bI fun Xsj h4=>rnI [] ?_
 intro h
 refine X2.join (s':=⟨fr [(1,(aI .i64 a1)),(2,(AV.ptr 0 0 0)),(4,(AV.ptr 1 0 0))],hp ([(0,Ob [(X0c Xsj)] 4),(1,Ob [(X0c (X0a.mk 0 0 0 0))] 4)]),2⟩) ?_ (fun J=>X2.cut ?_)
 ·
  revert h
  refine bI fun Xsc h8=>rnI [] ?_
  intro h
  refine X2.join (s':=⟨fr [(1,(aI .i64 a1)),(2,(AV.ptr 0 0 0)),(4,(AV.ptr 1 0 0))],hp ([(0,Ob [(X0c Xsc)] 4),(1,Ob [(X0c (X0a.mk 0 0 0 0))] 4)]),2⟩) ?_ (fun J=>X2.cut ?_)
  ·
   revert h
   refine bI fun Xn2 h12=>rnI [] ?_
   intro h
   refine X2.join (s':=⟨fr [(1,(aI .i64 a1)),(2,(AV.ptr 0 0 0)),(4,(AV.ptr 1 0 0))],hp ([(0,Ob [(X0c Xn2)] 4),(1,Ob [(X0c (X0a.mk 0 0 0 0))] 4)]),2⟩) ?_ (fun J=>X2.cut ?_)
   ·
    revert h
    exact bI fun v13 h14=>fun e=>oj e▸X7 [.wrap,.pure _ (aI .i64 v13)] (k:=fi)
   clear h;revert h12
   refine brI (fun h11=>?_) fun h11=>?_
   ·
    intro h
    obtain rfl:=oj h
    exact X7 [Bt] (k:=wkT [] (X2.glue J))
   intro h
   obtain rfl:=oj h
   exact X7 [Bf] (k:=wkT [] (X2.glue J))
  clear h;revert h8
  refine brI (fun h7=>?_) fun h7=>?_
  ·
   intro h
   obtain rfl:=oj h
   exact X7 [Bt] (k:=wkT [] (X2.glue J))
  intro h
  obtain rfl:=oj h
  exact X7 [Bf] (k:=wkT [] (X2.glue J))
 clear h;revert h4
 refine brI (fun h3=>?_) fun h3=>?_
 ·
  intro h
  obtain rfl:=oj h
  exact X7 [Bt] (k:=wkT [] (X2.glue J))
 intro h
 obtain rfl:=oj h
 exact X7 [Bf] (k:=wkT [] (X2.glue J))⟩
instance X02m:PCs Tryz.prog 126 (∀ (a0:Int) (a1:X0a) (r:Int),X9x a0 a1=some r->X0j Tryz.prog 126 [(aI .u8 a0),(X0c a1)] (aI .i64 r)):=⟨fun a0 a1 r h=>by
 refine X0j.sym X9 X0bn (nt:=20) rfl rfl ?_ okM
 unfold X9x at h
 revert h
 exact brI (fun h1=>fun e=>oj e▸X7 [Bt] (k:=fi)) fun h1=>brI (fun h2=>fun e=>oj e▸X7 [Bf,Bt] (k:=fi)) fun h2=>brI (fun h3=>fun e=>oj e▸X7 [Bf,Bf,Bt] (k:=fi)) fun h3=>fun e=>oj e▸X7 [Bf,Bf,Bf] (k:=fi)⟩
theorem Xke {Q:X01->St->Mu->Prop} {μ:Mu} (X27:(List Xy)) (Xbp:Int) (Xf:Xw) (Xi:Xr) (X2i:X1c) (hl:X27.length<=140737488355328):∀ (xs:List Xy) (k:Nat) (hx:X27.drop k=xs) (X0m:(V2 X0a)) (o:Xbv) (h:X5w X27 Xbp Xf Xi X2i xs k X0m=some o)
  (C0:∀ (X0y:(V2 X0a)),o=Xbv.x0 X0y->X2 Tryz.prog 94 0 Q (.exit (.exit 0)) [] ⟨fr [(2,(aI .i64 Xbp)),(4,(AV.ptr 0 0 0)),(7,(AV.ptr 1 0 0)),(8,(AV.ptr 2 0 0)),(10,(AV.ptr 3 0 0))],hp ([(0,Ob [(Xn false Xf)] 10),(1,Ob [(X3 Xi)] 2),(2,Ob [(Xd X2i)] 5),(3,Ob [(X5a X0y)] 8)]),4⟩ μ),
  X2 Tryz.prog 94 0 Q (.loop (X30 0 (Xj Tryz.f89))) [] ⟨fr [(1,(Lf (X27.map Xe))),(2,(aI .i64 Xbp)),(4,(AV.ptr 0 0 0)),(7,(AV.ptr 1 0 0)),(8,(AV.ptr 2 0 0)),(10,(AV.ptr 3 0 0)),(11,(aI .i64 (k:Int)))],hp ([(0,Ob [(Xn false Xf)] 10),(1,Ob [(X3 Xi)] 2),(2,Ob [(Xd X2i)] 5),(3,Ob [(X5a X0m)] 8)]),4⟩ μ:=by
 intro xs
 induction xs with
 |nil =>
  intro k hx X0m o h C0
  have hk:=drop_nil hx
  have hc:decide ((k:Int)<(X27.length:Int))=false:=Yf (by omega)
  rw[X5w] at h
  refine X2.round ?_
  revert h
  exact fun e=>X7 [.el (aI .i64 (X27.length:Int)),Bf] (k:=wkT [] (C0 _  (oj e).symm))
 |cons x xs ih =>
  intro k hx X0m o h C0
  obtain⟨hk,hg,hx1⟩:=drop_cons hx
  have hc:decide ((k:Int)<(X27.length:Int))=true:=Yt (by omega)
  rw[X5w] at h
  refine X2.round ?_
  revert h
  refine bI fun Xz7 h99=>rnI [.el (aI .i64 (X27.length:Int)),Bt,.el (Xe x)] ?_
  intro h
  refine X2.join (s':=⟨fr [(1,(Lf (X27.map Xe))),(2,(aI .i64 Xbp)),(4,(AV.ptr 0 0 0)),(7,(AV.ptr 1 0 0)),(8,(AV.ptr 2 0 0)),(10,(AV.ptr 3 0 0)),(11,(aI .i64 (k:Int)))],hp ([(0,Ob [(Xn false Xf)] 10),(1,Ob [(X3 Xi)] 2),(2,Ob [(Xd X2i)] 5),(3,Ob [(X5a Xz7)] 8)]),4⟩) ?_ (fun J=>X2.cut ?_)
  ·
   exact X7 [] (k:=wkT [] (ih (k+1) hx1 _ o h C0))
  clear h;revert h99
  refine brI (fun h84=>?_) fun h84=>?_
  ·
   refine bI fun Xz5 h98=>rnI [Bt,.stop 7] ?_
   intro h
   refine X2.join (s':=⟨fr [(1,(Lf (X27.map Xe))),(2,(aI .i64 Xbp)),(4,(AV.ptr 0 0 0)),(7,(AV.ptr 1 0 0)),(8,(AV.ptr 2 0 0)),(10,(AV.ptr 3 0 0)),(11,(aI .i64 (k:Int)))],hp ([(0,Ob [(Xn false Xf)] 10),(1,Ob [(X3 Xi)] 2),(2,Ob [(Xd X2i)] 5),(3,Ob [(X5a Xz5)] 8)]),4⟩) ?_ (fun J=>X2.cut ?_)
   ·
    obtain rfl:=oj h
    exact X7 [] (k:=wkT [] (X2.glue J))
   clear h;revert h98
   refine brI (fun h92=>?_) fun h92=>?_
   ·
    refine bI fun v93 h94=>?_
    intro h
    obtain rfl:=oj h
    exact X7 [.el (Xe x),.el (Xe x),.ix 0,.pure _ (X0c v93),.ix 0] (o:=by repeat' first|apply Ya|exact pcM|exact((eq_of_beq h92))|exact X0k) (k:=wkT [] (X2.glue J))
   refine brI (fun h95=>?_) fun h95=>?_
   ·
    refine bI fun v96 h97=>?_
    intro h
    obtain rfl:=oj h
    exact X7 [.el (Xe x),.el (Xe x),.ix 1,.pure _ (X0c v96),.ix 1] (o:=by repeat' first|apply Ya|exact pcM|exact((eq_of_beq h95))|exact X0k) (k:=wkT [] (X2.glue J))
   intro h
   cases h
  intro h
  obtain rfl:=oj h
  exact X7 [Bf] (k:=wkT [] (X2.glue J))
end Go.Av.Tryz