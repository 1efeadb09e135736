/- Printed by decomp.py: that the program computes the functions. -/
import Derived.Test.YtfdfgobnpnoomaaGreatDCert13Z
set_option linter.all false

namespace Go.Av.Tryz
open Go.Proofs Go.D
set_option maxRecDepth 10000
set_option maxHeartbeats 40000000
theorem Xhb {Q:X02->St->Mu->Prop} {μ:Mu} (X1s:(List Xv)) (X9z:Int) (Xf:X0l) (hl:X1s.length<=140737488355328):∀ (xs:List Xv) (k:Nat) (hx:X1s.drop k=xs) (Xi:(List Xr)) (Xl:Nb Xi) (o:X8c) (h:X3l X1s X9z Xf xs k Xi=some o)
  (C0:∀ (Xe:(List Xr)) (Xj:Nb Xe),o=X8c.x0 Xe->X2 Tryz.prog 49 0 Q (.exit (.exit 0)) [] ⟨fr [(7,(slE Xj.1 0 (Xe.map X3)))],hp ([]++opE Xj.1 0 2 (Xe.map X3)),1⟩ μ),
  X2 Tryz.prog 49 0 Q (.loop (X2v 0 (Xh Tryz.f87))) [] ⟨fr [(1,(Lf (X1s.map Xg))),(2,(aI .i64 X9z)),(3,(AV.ptr 0 0 0)),(7,(slE Xl.1 1 (Xi.map X3))),(8,(aI .i64 (k:Int)))],hp ([(0,Ob [(X0u Xf)] 3)]++opE Xl.1 1 2 (Xi.map X3)),2⟩ μ:=by
 intro xs
 induction xs with
 |nil =>
  intro k hx Xi Xl o h C0
  have hk:=drop_nil hx
  have hc:decide ((k:Int)<(X1s.length:Int))=false:=Yf (by omega)
  rw[X3l] at h
  rcases Xl with ⟨_|_,X04⟩
  ·
   refine X2.round ?_
   revert h
   exact fun e=>X9 [.el (aI .i64 (X1s.length:Int)),Bf] (k:=wkT [(0,1)] (C0 _  nbF (oj e).symm))
  ·
   obtain rfl:=X04 rfl
   refine X2.round ?_
   revert h
   exact fun e=>X9 [.el (aI .i64 (X1s.length:Int)),Bf] (k:=wkT [] (C0 _  nbS (oj e).symm))
 |cons x xs ih =>
  intro k hx Xi Xl o h C0
  obtain⟨hk,hg,hx1⟩:=drop_cons hx
  have hc:decide ((k:Int)<(X1s.length:Int))=true:=Yt (by omega)
  rw[X3l] at h
  rcases Xl with ⟨_|_,X04⟩
  ·
   refine X2.round ?_
   revert h
   refine bI fun Xfl h11507=>rnI [.el (aI .i64 (X1s.length:Int)),Bt,.el (Xg x),.el (Xg x)] ?_
   intro h
   refine X2.joinF (fun(q:Nb Xfl)=>⟨fr [(1,(Lf (X1s.map Xg))),(2,(aI .i64 X9z)),(3,(AV.ptr 0 0 0)),(7,(slE q.1 1 (Xfl.map X3))),(8,(aI .i64 (k:Int)))],hp ([(0,Ob [(X0u Xf)] 3)]++opE q.1 1 2 (Xfl.map X3)),2⟩) ?_ (fun J=>X2.cut ?_)
   ·
    rintro Xrm
    rcases Xrm with ⟨_|_,Xsf⟩
    ·
     exact X9 [] (k:=wkT [] (ih (k+1) hx1 _ nbF o h C0))
    obtain rfl:=Xsf rfl
    exact X9 [] (k:=wkT [] (ih (k+1) hx1 _ nbS o h C0))
   clear h;revert h11507
   refine brI (fun h10204=>?_) fun h10204=>?_
   ·
    intro h
    obtain rfl:=oj h
    exact X9 [Bt] (k:=wkT [] (X2.glue (J nbF)))
   refine brI (fun h10205=>?_) fun h10205=>?_
   ·
    refine bI fun Xfk h11501=>rnI [Bf,Bt,.wrap] ?_
    intro h
    refine X2.joinOpF (fun(q:Nb Xfk)=>⟨fr [(1,(Lf (X1s.map Xg))),(2,(aI .i64 X9z)),(3,(AV.ptr 0 0 0)),(8,(aI .i64 (k:Int))),(47,(slE q.1 1 (Xfk.map X3)))],hp ([(0,Ob [(X0u Xf)] 3)]++opE q.1 1 2 (Xfk.map X3)),2⟩) ?_ (fun J=>?_)
    ·
     rintro Xrl
     rcases Xrl with ⟨_|_,Xse⟩
     ·
      obtain rfl:=oj h
      exact X9 [] (k:=wkT [] (X2.glue (J nbF)))
     obtain rfl:=Xse rfl
     obtain rfl:=oj h
     exact X9 [] (k:=wkT [] (X2.glue (J nbS)))
    clear h;revert h11501
    intro h
    refine X2.inline Xa X0br rfl rfl rfl rfl rfl trivial trivial rfl rfl ?_
    revert h
    refine bI fun u11069 h11070=>?_
    have qh11070:=X08 h11070
    refine bI fun o11479 h11480=>rnI [] ?_
    intro h
    refine wkT [(2,1),(3,2)] (X2.cut (X5b Xf Xi nbF qh11070 Xi 0 (by simp) _ _ _ nbS nbS _ h11480 ?_))
    intro X5f X0q X20 X11 X2e eo11479;subst eo11479
    refine X2.glue ?_
    try dsimp only at h
    rcases X11 with ⟨_|_,X32⟩
    ·
     rcases X2e with ⟨_|_,X31⟩
     ·
      revert h
      refine bI fun u11481 h11482=>brI (fun q=>?_) fun q=>?_
      ·
       intro h
       have h11483:X20=[]:=List.isEmpty_iff.1 q
       try rw[h11483,List.append_nil] at h
       obtain rfl:=oj h
       refine X10 [.no,.ne false] (o:=by repeat' first|apply Ya|exact pcM|(refine X0a h11482 rfl ?_;first|(simp;done)|(simp;omega)|(simp[hc,h10204,h10205,h11483];done)|(simp[hc,h10204,h10205,h11483];omega))|(refine Xs h11482 (by decide) ?_;first|(simp;done)|(simp;omega)|(simp[hc,h10204,h10205,h11483];done)|(simp[hc,h10204,h10205,h11483];omega))|exact X0k) ?_
       refine X2.back (by intro id h;cases h) rfl ?_
       exact wkT [(1,6)] ((J nbF))
      intro h
      have h11483:¬ (X20=[]):=(fun e=>by rw[e] at q;cases q)
      revert h
      refine bI fun u11484 h11485=>?_
      intro h
      obtain rfl:=oj h
      refine X10 [.no,.via (AV.list true (X20.map X3))] (o:=by repeat' first|apply Ya|exact pcM|(refine X0a h11482 rfl ?_;first|(simp;done)|(simp;omega)|(simp[hc,h10204,h10205,h11483];done)|(simp[hc,h10204,h10205,h11483];omega))|(refine Xs h11482 (by decide) ?_;first|(simp;done)|(simp;omega)|(simp[hc,h10204,h10205,h11483];done)|(simp[hc,h10204,h10205,h11483];omega))|(refine X0a h11485 rfl ?_;first|(simp;done)|(simp;omega)|(simp[hc,h10204,h10205,h11483];done)|(simp[hc,h10204,h10205,h11483];omega))|(refine Xs h11485 (by decide) ?_;first|(simp;done)|(simp;omega)|(simp[hc,h10204,h10205,h11483];done)|(simp[hc,h10204,h10205,h11483];omega))|exact X0k) ?_
      refine X2.back (by intro id h;cases h) rfl ?_
      exact wkT [(1,7)] ((J nbF))
     obtain rfl:=X31 rfl
     revert h
     refine bI fun u11486 h11487=>brI (fun q=>?_) fun q=>?_
     ·
      intro h
      have h11488:([]:List Xr)=[]:=List.isEmpty_iff.1 q
      obtain rfl:=oj h
      refine X10 [.no,.ne false] (o:=by repeat' first|apply Ya|exact pcM|(refine X0a h11487 rfl ?_;first|(simp;done)|(simp;omega)|(simp[hc,h10204,h10205,h11488];done)|(simp[hc,h10204,h10205,h11488];omega))|(refine Xs h11487 (by decide) ?_;first|(simp;done)|(simp;omega)|(simp[hc,h10204,h10205,h11488];done)|(simp[hc,h10204,h10205,h11488];omega))|exact X0k) ?_
      refine X2.back (by intro id h;cases h) rfl ?_
      exact wkT [(1,6)] ((J nbF))
     intro h
     have h11488:¬ (([]:List Xr)=[]):=(fun e=>by rw[e] at q;cases q)
     revert h
     refine bI fun u11489 h11490=>?_
     intro h
     obtain rfl:=oj h
     refine X10 [.no,.via (AV.list true (List.map X3 ([]:List Xr)))] (o:=by repeat' first|apply Ya|exact pcM|(refine X0a h11487 rfl ?_;first|(simp;done)|(simp;omega)|(simp[hc,h10204,h10205,h11488];done)|(simp[hc,h10204,h10205,h11488];omega))|(refine Xs h11487 (by decide) ?_;first|(simp;done)|(simp;omega)|(simp[hc,h10204,h10205,h11488];done)|(simp[hc,h10204,h10205,h11488];omega))|(refine X0a h11490 rfl ?_;first|(simp;done)|(simp;omega)|(simp[hc,h10204,h10205,h11488];done)|(simp[hc,h10204,h10205,h11488];omega))|(refine Xs h11490 (by decide) ?_;first|(simp;done)|(simp;omega)|(simp[hc,h10204,h10205,h11488];done)|(simp[hc,h10204,h10205,h11488];omega))|exact X0k) ?_
     refine X2.back (by intro id h;cases h) rfl ?_
     exact wkT [(1,7)] ((J nbF))
    obtain rfl:=X32 rfl
    rcases X2e with ⟨_|_,X31⟩
    ·
     revert h
     refine bI fun u11491 h11492=>brI (fun q=>?_) fun q=>?_
     ·
      intro h
      have h11493:X20=[]:=List.isEmpty_iff.1 q
      try rw[h11493,List.append_nil] at h
      obtain rfl:=oj h
      refine X10 [.no,.ne false] (o:=by repeat' first|apply Ya|exact pcM|(refine X0a h11492 rfl ?_;first|(simp;done)|(simp;omega)|(simp[hc,h10204,h10205,h11493];done)|(simp[hc,h10204,h10205,h11493];omega))|(refine Xs h11492 (by decide) ?_;first|(simp;done)|(simp;omega)|(simp[hc,h10204,h10205,h11493];done)|(simp[hc,h10204,h10205,h11493];omega))|exact X0k) ?_
      refine X2.back (by intro id h;cases h) rfl ?_
      exact wkT [(1,6)] ((J nbF))
     intro h
     have h11493:¬ (X20=[]):=(fun e=>by rw[e] at q;cases q)
     revert h
     refine bI fun u11494 h11495=>?_
     intro h
     obtain rfl:=oj h
     refine X10 [.no,.via (AV.list true (X20.map X3))] (o:=by repeat' first|apply Ya|exact pcM|(refine X0a h11492 rfl ?_;first|(simp;done)|(simp;omega)|(simp[hc,h10204,h10205,h11493];done)|(simp[hc,h10204,h10205,h11493];omega))|(refine Xs h11492 (by decide) ?_;first|(simp;done)|(simp;omega)|(simp[hc,h10204,h10205,h11493];done)|(simp[hc,h10204,h10205,h11493];omega))|(refine X0a h11495 rfl ?_;first|(simp;done)|(simp;omega)|(simp[hc,h10204,h10205,h11493];done)|(simp[hc,h10204,h10205,h11493];omega))|(refine Xs h11495 (by decide) ?_;first|(simp;done)|(simp;omega)|(simp[hc,h10204,h10205,h11493];done)|(simp[hc,h10204,h10205,h11493];omega))|exact X0k) ?_
     refine X2.back (by intro id h;cases h) rfl ?_
     exact wkT [(1,7)] ((J nbF))
    obtain rfl:=X31 rfl
    revert h
    refine bI fun u11496 h11497=>brI (fun q=>?_) fun q=>?_
    ·
     intro h
     have h11498:([]:List Xr)=[]:=List.isEmpty_iff.1 q
     obtain rfl:=oj h
     refine X10 [.no,.ne false] (o:=by repeat' first|apply Ya|exact pcM|(refine X0a h11497 rfl ?_;first|(simp;done)|(simp;omega)|(simp[hc,h10204,h10205,h11498];done)|(simp[hc,h10204,h10205,h11498];omega))|(refine Xs h11497 (by decide) ?_;first|(simp;done)|(simp;omega)|(simp[hc,h10204,h10205,h11498];done)|(simp[hc,h10204,h10205,h11498];omega))|exact X0k) ?_
     refine X2.back (by intro id h;cases h) rfl ?_
     exact wkT [(1,6)] ((J nbF))
    intro h
    have h11498:¬ (([]:List Xr)=[]):=(fun e=>by rw[e] at q;cases q)
    revert h
    refine bI fun u11499 h11500=>?_
    intro h
    obtain rfl:=oj h
    refine X10 [.no,.via (AV.list true (List.map X3 ([]:List Xr)))] (o:=by repeat' first|apply Ya|exact pcM|(refine X0a h11497 rfl ?_;first|(simp;done)|(simp;omega)|(simp[hc,h10204,h10205,h11498];done)|(simp[hc,h10204,h10205,h11498];omega))|(refine Xs h11497 (by decide) ?_;first|(simp;done)|(simp;omega)|(simp[hc,h10204,h10205,h11498];done)|(simp[hc,h10204,h10205,h11498];omega))|(refine X0a h11500 rfl ?_;first|(simp;done)|(simp;omega)|(simp[hc,h10204,h10205,h11498];done)|(simp[hc,h10204,h10205,h11498];omega))|(refine Xs h11500 (by decide) ?_;first|(simp;done)|(simp;omega)|(simp[hc,h10204,h10205,h11498];done)|(simp[hc,h10204,h10205,h11498];omega))|exact X0k) ?_
    refine X2.back (by intro id h;cases h) rfl ?_
    exact wkT [(1,7)] ((J nbF))
   refine bI fun v11502 h11503=>brI (fun q=>?_) fun q=>?_
   ·
    intro h
    have h11504:v11502=[]:=List.isEmpty_iff.1 q
    try rw[h11504,List.append_nil] at h
    obtain rfl:=oj h
    exact X9 [Bf,Bf,.pure _ (AV.list true (v11502.map X3)),.ne false] (k:=wkT [] (X2.glue (J nbF)))
   intro h
   have h11504:¬ (v11502=[]):=(fun e=>by rw[e] at q;cases q)
   revert h
   refine bI fun u11505 h11506=>?_
   intro h
   obtain rfl:=oj h
   exact X9 [Bf,Bf,.pure _ (AV.list true (v11502.map X3)),.via (AV.list true (v11502.map X3))] (o:=by repeat' first|apply Ya|exact pcM|(refine X0a h11506 rfl ?_;first|(simp;done)|(simp;omega)|(simp[hc,h10204,h10205,h11504];done)|(simp[hc,h10204,h10205,h11504];omega))|(refine Xs h11506 (by decide) ?_;first|(simp;done)|(simp;omega)|(simp[hc,h10204,h10205,h11504];done)|(simp[hc,h10204,h10205,h11504];omega))|exact X0k) (k:=wkT [(1,2)] (X2.glue (J nbF)))
  obtain rfl:=X04 rfl
  refine X2.round ?_
  revert h
  refine bI fun Xmi h13347=>rnI [.el (aI .i64 (X1s.length:Int)),Bt,.el (Xg x),.el (Xg x)] ?_
  intro h
  refine X2.joinF (fun(q:Nb Xmi)=>⟨fr [(1,(Lf (X1s.map Xg))),(2,(aI .i64 X9z)),(3,(AV.ptr 0 0 0)),(7,(slE q.1 1 (Xmi.map X3))),(8,(aI .i64 (k:Int)))],hp ([(0,Ob [(X0u Xf)] 3)]++opE q.1 1 2 (Xmi.map X3)),2⟩) ?_ (fun J=>X2.cut ?_)
  ·
   rintro Xrg
   rcases Xrg with ⟨_|_,Xs9⟩
   ·
    exact X9 [] (k:=wkT [] (ih (k+1) hx1 _ nbF o h C0))
   obtain rfl:=Xs9 rfl
   exact X9 [] (k:=wkT [] (ih (k+1) hx1 _ nbS o h C0))
  clear h;revert h13347
  refine brI (fun h12428=>?_) fun h12428=>?_
  ·
   intro h
   obtain rfl:=oj h
   exact X9 [Bt] (k:=wkT [] (X2.glue (J nbS)))
  refine brI (fun h12429=>?_) fun h12429=>?_
  ·
   refine bI fun Xmh h13341=>rnI [Bf,Bt,.wrap] ?_
   intro h
   refine X2.joinOpF (fun(q:Nb Xmh)=>⟨fr [(1,(Lf (X1s.map Xg))),(2,(aI .i64 X9z)),(3,(AV.ptr 0 0 0)),(8,(aI .i64 (k:Int))),(47,(slE q.1 1 (Xmh.map X3)))],hp ([(0,Ob [(X0u Xf)] 3)]++opE q.1 1 2 (Xmh.map X3)),2⟩) ?_ (fun J=>?_)
   ·
    rintro Xrf
    rcases Xrf with ⟨_|_,Xs8⟩
    ·
     obtain rfl:=oj h
     exact X9 [] (k:=wkT [] (X2.glue (J nbF)))
    obtain rfl:=Xs8 rfl
    obtain rfl:=oj h
    exact X9 [] (k:=wkT [] (X2.glue (J nbS)))
   clear h;revert h13341
   intro h
   refine X2.inline Xa X0br rfl rfl rfl rfl rfl trivial trivial rfl rfl ?_
   revert h
   refine bI fun u13037 h13038=>?_
   have qh13038:=X08 h13038
   refine bI fun o13319 h13320=>rnI [] ?_
   intro h
   refine wkT [(3,2)] (X2.cut (X5b Xf ([]:List Xr) nbS qh13038 ([]:List Xr) 0 (by simp) _ _ _ nbS nbS _ h13320 ?_))
   intro X5f X0q X20 X11 X2e eo13319;subst eo13319
   refine X2.glue ?_
   try dsimp only at h
   rcases X11 with ⟨_|_,X32⟩
   ·
    rcases X2e with ⟨_|_,X31⟩
    ·
     revert h
     refine bI fun u13321 h13322=>brI (fun q=>?_) fun q=>?_
     ·
      intro h
      have h13323:X20=[]:=List.isEmpty_iff.1 q
      try rw[h13323,List.append_nil] at h
      obtain rfl:=oj h
      refine X10 [.no,.ne false] (o:=by repeat' first|apply Ya|exact pcM|(refine X0a h13322 rfl ?_;first|(simp;done)|(simp;omega)|(simp[hc,h12428,h12429,h13323];done)|(simp[hc,h12428,h12429,h13323];omega))|(refine Xs h13322 (by decide) ?_;first|(simp;done)|(simp;omega)|(simp[hc,h12428,h12429,h13323];done)|(simp[hc,h12428,h12429,h13323];omega))|exact X0k) ?_
      refine X2.back (by intro id h;cases h) rfl ?_
      exact wkT [(1,6)] ((J nbF))
     intro h
     have h13323:¬ (X20=[]):=(fun e=>by rw[e] at q;cases q)
     revert h
     refine bI fun u13324 h13325=>?_
     intro h
     obtain rfl:=oj h
     refine X10 [.no,.via (AV.list true (X20.map X3))] (o:=by repeat' first|apply Ya|exact pcM|(refine X0a h13322 rfl ?_;first|(simp;done)|(simp;omega)|(simp[hc,h12428,h12429,h13323];done)|(simp[hc,h12428,h12429,h13323];omega))|(refine Xs h13322 (by decide) ?_;first|(simp;done)|(simp;omega)|(simp[hc,h12428,h12429,h13323];done)|(simp[hc,h12428,h12429,h13323];omega))|(refine X0a h13325 rfl ?_;first|(simp;done)|(simp;omega)|(simp[hc,h12428,h12429,h13323];done)|(simp[hc,h12428,h12429,h13323];omega))|(refine Xs h13325 (by decide) ?_;first|(simp;done)|(simp;omega)|(simp[hc,h12428,h12429,h13323];done)|(simp[hc,h12428,h12429,h13323];omega))|exact X0k) ?_
     refine X2.back (by intro id h;cases h) rfl ?_
     exact wkT [(1,7)] ((J nbF))
    obtain rfl:=X31 rfl
    revert h
    refine bI fun u13326 h13327=>brI (fun q=>?_) fun q=>?_
    ·
     intro h
     have h13328:([]:List Xr)=[]:=List.isEmpty_iff.1 q
     obtain rfl:=oj h
     refine X10 [.no,.ne false] (o:=by repeat' first|apply Ya|exact pcM|(refine X0a h13327 rfl ?_;first|(simp;done)|(simp;omega)|(simp[hc,h12428,h12429,h13328];done)|(simp[hc,h12428,h12429,h13328];omega))|(refine Xs h13327 (by decide) ?_;first|(simp;done)|(simp;omega)|(simp[hc,h12428,h12429,h13328];done)|(simp[hc,h12428,h12429,h13328];omega))|exact X0k) ?_
     refine X2.back (by intro id h;cases h) rfl ?_
     exact wkT [(1,6)] ((J nbF))
    intro h
    have h13328:¬ (([]:List Xr)=[]):=(fun e=>by rw[e] at q;cases q)
    revert h
    refine bI fun u13329 h13330=>?_
    intro h
    obtain rfl:=oj h
    refine X10 [.no,.via (AV.list true (List.map X3 ([]:List Xr)))] (o:=by repeat' first|apply Ya|exact pcM|(refine X0a h13327 rfl ?_;first|(simp;done)|(simp;omega)|(simp[hc,h12428,h12429,h13328];done)|(simp[hc,h12428,h12429,h13328];omega))|(refine Xs h13327 (by decide) ?_;first|(simp;done)|(simp;omega)|(simp[hc,h12428,h12429,h13328];done)|(simp[hc,h12428,h12429,h13328];omega))|(refine X0a h13330 rfl ?_;first|(simp;done)|(simp;omega)|(simp[hc,h12428,h12429,h13328];done)|(simp[hc,h12428,h12429,h13328];omega))|(refine Xs h13330 (by decide) ?_;first|(simp;done)|(simp;omega)|(simp[hc,h12428,h12429,h13328];done)|(simp[hc,h12428,h12429,h13328];omega))|exact X0k) ?_
    refine X2.back (by intro id h;cases h) rfl ?_
    exact wkT [(1,7)] ((J nbF))
   obtain rfl:=X32 rfl
   rcases X2e with ⟨_|_,X31⟩
   ·
    revert h
    refine bI fun u13331 h13332=>brI (fun q=>?_) fun q=>?_
    ·
     intro h
     have h13333:X20=[]:=List.isEmpty_iff.1 q
     try rw[h13333,List.append_nil] at h
     obtain rfl:=oj h
     refine X10 [.no,.ne false] (o:=by repeat' first|apply Ya|exact pcM|(refine X0a h13332 rfl ?_;first|(simp;done)|(simp;omega)|(simp[hc,h12428,h12429,h13333];done)|(simp[hc,h12428,h12429,h13333];omega))|(refine Xs h13332 (by decide) ?_;first|(simp;done)|(simp;omega)|(simp[hc,h12428,h12429,h13333];done)|(simp[hc,h12428,h12429,h13333];omega))|exact X0k) ?_
     refine X2.back (by intro id h;cases h) rfl ?_
     exact wkT [(1,6)] ((J nbF))
    intro h
    have h13333:¬ (X20=[]):=(fun e=>by rw[e] at q;cases q)
    revert h
    refine bI fun u13334 h13335=>?_
    intro h
    obtain rfl:=oj h
    refine X10 [.no,.via (AV.list true (X20.map X3))] (o:=by repeat' first|apply Ya|exact pcM|(refine X0a h13332 rfl ?_;first|(simp;done)|(simp;omega)|(simp[hc,h12428,h12429,h13333];done)|(simp[hc,h12428,h12429,h13333];omega))|(refine Xs h13332 (by decide) ?_;first|(simp;done)|(simp;omega)|(simp[hc,h12428,h12429,h13333];done)|(simp[hc,h12428,h12429,h13333];omega))|(refine X0a h13335 rfl ?_;first|(simp;done)|(simp;omega)|(simp[hc,h12428,h12429,h13333];done)|(simp[hc,h12428,h12429,h13333];omega))|(refine Xs h13335 (by decide) ?_;first|(simp;done)|(simp;omega)|(simp[hc,h12428,h12429,h13333];done)|(simp[hc,h12428,h12429,h13333];omega))|exact X0k) ?_
    refine X2.back (by intro id h;cases h) rfl ?_
    exact wkT [(1,7)] ((J nbF))
   obtain rfl:=X31 rfl
   revert h
   refine bI fun u13336 h13337=>brI (fun q=>?_) fun q=>?_
   ·
    intro h
    have h13338:([]:List Xr)=[]:=List.isEmpty_iff.1 q
    obtain rfl:=oj h
    refine X10 [.no,.ne false] (o:=by repeat' first|apply Ya|exact pcM|(refine X0a h13337 rfl ?_;first|(simp;done)|(simp;omega)|(simp[hc,h12428,h12429,h13338];done)|(simp[hc,h12428,h12429,h13338];omega))|(refine Xs h13337 (by decide) ?_;first|(simp;done)|(simp;omega)|(simp[hc,h12428,h12429,h13338];done)|(simp[hc,h12428,h12429,h13338];omega))|exact X0k) ?_
    refine X2.back (by intro id h;cases h) rfl ?_
    exact wkT [(1,6)] ((J nbF))
   intro h
   have h13338:¬ (([]:List Xr)=[]):=(fun e=>by rw[e] at q;cases q)
   revert h
   refine bI fun u13339 h13340=>?_
   intro h
   obtain rfl:=oj h
   refine X10 [.no,.via (AV.list true (List.map X3 ([]:List Xr)))] (o:=by repeat' first|apply Ya|exact pcM|(refine X0a h13337 rfl ?_;first|(simp;done)|(simp;omega)|(simp[hc,h12428,h12429,h13338];done)|(simp[hc,h12428,h12429,h13338];omega))|(refine Xs h13337 (by decide) ?_;first|(simp;done)|(simp;omega)|(simp[hc,h12428,h12429,h13338];done)|(simp[hc,h12428,h12429,h13338];omega))|(refine X0a h13340 rfl ?_;first|(simp;done)|(simp;omega)|(simp[hc,h12428,h12429,h13338];done)|(simp[hc,h12428,h12429,h13338];omega))|(refine Xs h13340 (by decide) ?_;first|(simp;done)|(simp;omega)|(simp[hc,h12428,h12429,h13338];done)|(simp[hc,h12428,h12429,h13338];omega))|exact X0k) ?_
   refine X2.back (by intro id h;cases h) rfl ?_
   exact wkT [(1,7)] ((J nbF))
  refine bI fun v13342 h13343=>brI (fun q=>?_) fun q=>?_
  ·
   intro h
   have h13344:v13342=[]:=List.isEmpty_iff.1 q
   try rw[h13344,List.append_nil] at h
   obtain rfl:=oj h
   exact X9 [Bf,Bf,.pure _ (AV.list true (v13342.map X3)),.ne false] (k:=wkT [] (X2.glue (J nbS)))
  intro h
  have h13344:¬ (v13342=[]):=(fun e=>by rw[e] at q;cases q)
  revert h
  refine bI fun u13345 h13346=>?_
  intro h
  obtain rfl:=oj h
  exact X9 [Bf,Bf,.pure _ (AV.list true (v13342.map X3)),.via (AV.list true (v13342.map X3))] (o:=by repeat' first|apply Ya|exact pcM|(refine X0a h13346 rfl ?_;first|(simp;done)|(simp;omega)|(simp[hc,h12428,h12429,h13344];done)|(simp[hc,h12428,h12429,h13344];omega))|(refine Xs h13346 (by decide) ?_;first|(simp;done)|(simp;omega)|(simp[hc,h12428,h12429,h13344];done)|(simp[hc,h12428,h12429,h13344];omega))|exact X0k) (k:=wkT [(1,2)] (X2.glue (J nbF)))
instance Xz9:PCs Tryz.prog 87 (∀ (a0:X0l) (a1:(List Xv)) (a2:Int) (r:(List Xr)),X6o a0 a1 a2=some r->X0g Tryz.prog 87 [(X0u a0),(Lf (a1.map Xg)),(aI .i64 a2)] (AV.list true (r.map X3))):=⟨fun a0 a1 a2 r h=>by
 refine X0g.sym Xa fn87 (nt:=49) rfl rfl ?_ okM
 unfold X6o at h
 revert h
 refine bI fun u1 h2=>?_
 have qh2:=X08 h2
 refine bI fun o13348 h13349=>rnI [] ?_
 intro h
 refine wkT [] (X2.cut (Xhb a1 a2 a0 qh2 a1 0 (by simp) _ nbS _ h13349 ?_))
 intro Xe Xj eo13348;subst eo13348
 refine X2.glue ?_
 try dsimp only at h
 rcases Xj with ⟨_|_,X0n⟩
 ·
  revert h
  exact fun e=>oj e▸X9 [] (k:=fi)
 obtain rfl:=X0n rfl
 revert h
 exact fun e=>oj e▸X9 [] (k:=fi)⟩
theorem Xls {Q:X02->St->Mu->Prop} {μ:Mu} (X00:(List X0t)) (X1s:Int) (Xf:Xr) (hl:X00.length<=140737488355328):∀ (xs:List X0t) (k:Nat) (hx:X00.drop k=xs) (o:X9v) (h:X5c X00 X1s Xf xs k  = some o)
  (C0:o=X9v.x0->X2 Tryz.prog 30 0 Q (.exit (.exit 0)) [] ⟨fr [],hp ([]),0⟩ μ)
  (C1:o=X9v.x1->X2 Tryz.prog 30 0 Q (.exit .ret) [] ⟨fr [(6,(aB true))],hp ([]),0⟩ μ),
  X2 Tryz.prog 30 0 Q (.loop (X2v 0 (Xh Tryz.f88))) [] ⟨fr [(0,(Lf (X00.map Xb))),(1,(aI .i64 X1s)),(5,(AV.ptr 0 0 0)),(7,(aI .i64 (k:Int)))],hp ([(0,Ob [(X3 Xf)] 2)]),1⟩ μ:=by
 intro xs
 induction xs with
 |nil =>
  intro k hx  o h C0 C1
  have hk:=drop_nil hx
  have hc:decide ((k:Int)<(X00.length:Int))=false:=Yf (by omega)
  rw[X5c] at h
  refine X2.round ?_
  revert h
  exact fun e=>X9 [.el (aI .i64 (X00.length:Int)),Bf] (k:=wkT [] (C0  (oj e).symm))
 |cons x xs ih =>
  intro k hx  o h C0 C1
  obtain⟨hk,hg,hx1⟩:=drop_cons hx
  have hc:decide ((k:Int)<(X00.length:Int))=true:=Yt (by omega)
  rw[X5c] at h
  refine X2.round ?_
  revert h
  refine bI fun X021 h17=>rnI [.el (aI .i64 (X00.length:Int)),Bt,.stop 4] ?_
  intro h
  refine X2.join (s':=⟨fr [(0,(Lf (X00.map Xb))),(1,(aI .i64 X1s)),(5,(AV.ptr 0 0 0)),(7,(aI .i64 (k:Int))),(29,(aB X021))],hp ([(0,Ob [(X3 Xf)] 2)]),1⟩) ?_ (fun J=>X2.cut ?_)
  ·
   revert h
   refine brI (fun h18=>fun e=>X9 [Bt] (k:=wkT [] (C1  (oj e).symm))) fun h18=>rnI [Bf] ?_
   intro h
   exact wkT [] (ih (k+1) hx1  o h C0 C1)
  clear h;revert h17
  refine brI (fun h16=>?_) fun h16=>?_
  ·
   intro h
   obtain rfl:=oj h
   exact X9 [.el (Xb x),.go true,.go true,.go true,.el (Xb x),.go true,.go true,.go true,.go true] (k:=wkT [] (X2.glue J))
  intro h
  obtain rfl:=oj h
  exact X9 [.el (Xb x),.go false,.go false,.go false,.go false,.go false,.go false,.go false,.go false] (k:=wkT [] (X2.glue J))
instance X076:PCs Tryz.prog 88 (∀ (a0:(List X0t)) (a1:Int) (a2:Xr) (r:Bool),Xfh a0 a1 a2=some r->X0g Tryz.prog 88 [(Lf (a0.map Xb)),(aI .i64 a1),(X3 a2)] (aB r)):=⟨fun a0 a1 a2 r h=>by
 refine X0g.sym Xa fn88 (nt:=30) rfl rfl ?_ okM
 unfold Xfh at h
 revert h
 refine bI fun u1 h2=>?_
 have qh2:=X08 h2
 refine bI fun o19 h20=>rnI [] ?_
 intro h
 refine wkT [] (X2.cut (Xls a0 a1 a2 qh2 a0 0 (by simp) _ h20 ?_ ?_))
 ·
  intro eo19;subst eo19
  refine X2.glue ?_
  try dsimp only at h
  revert h
  exact fun e=>oj e▸X9 [] (k:=fi)
 intro eo19;subst eo19
 refine X2.glue ?_
 try dsimp only at h
 revert h
 exact fun e=>oj e▸X9 [] (k:=fi)⟩
instance Xdy:PCs Tryz.prog 125 (∀ (a0:X0b) (a1:Int) (r:X0b),X7y a0 a1=some r->X0g Tryz.prog 125 [(X0d a0),(aI .i64 a1)] (X0d r)):=⟨fun a0 a1 r h=>by
 refine X0g.sym Xa X0e9 (nt:=34) rfl rfl ?_ okM
 unfold X7y at h
 revert h
 refine bI fun Xul h4=>rnI [] ?_
 intro h
 refine X2.join (s':=⟨fr [(1,(aI .i64 a1)),(2,(AV.ptr 0 0 0)),(4,(AV.ptr 1 0 0))],hp ([(0,Ob [(X0d Xul)] 4),(1,Ob [(X0d (X0b.mk 0 0 0 0))] 4)]),2⟩) ?_ (fun J=>X2.cut ?_)
 ·
  revert h
  refine bI fun Xue h8=>rnI [] ?_
  intro h
  refine X2.join (s':=⟨fr [(1,(aI .i64 a1)),(2,(AV.ptr 0 0 0)),(4,(AV.ptr 1 0 0))],hp ([(0,Ob [(X0d Xue)] 4),(1,Ob [(X0d (X0b.mk 0 0 0 0))] 4)]),2⟩) ?_ (fun J=>X2.cut ?_)
  ·
   revert h
   refine bI fun Xok h12=>rnI [] ?_
   intro h
   refine X2.join (s':=⟨fr [(1,(aI .i64 a1)),(2,(AV.ptr 0 0 0)),(4,(AV.ptr 1 0 0))],hp ([(0,Ob [(X0d Xok)] 4),(1,Ob [(X0d (X0b.mk 0 0 0 0))] 4)]),2⟩) ?_ (fun J=>X2.cut ?_)
   ·
    revert h
    exact bI fun v13 h14=>fun e=>oj e▸X9 [.wrap,.pure _ (aI .i64 v13)] (k:=fi)
   clear h;revert h12
   refine brI (fun h11=>?_) fun h11=>?_
   ·
    intro h
    obtain rfl:=oj h
    exact X9 [Bt] (k:=wkT [] (X2.glue J))
   intro h
   obtain rfl:=oj h
   exact X9 [Bf] (k:=wkT [] (X2.glue J))
  clear h;revert h8
  refine brI (fun h7=>?_) fun h7=>?_
  ·
   intro h
   obtain rfl:=oj h
   exact X9 [Bt] (k:=wkT [] (X2.glue J))
  intro h
  obtain rfl:=oj h
  exact X9 [Bf] (k:=wkT [] (X2.glue J))
 clear h;revert h4
 refine brI (fun h3=>?_) fun h3=>?_
 ·
  intro h
  obtain rfl:=oj h
  exact X9 [Bt] (k:=wkT [] (X2.glue J))
 intro h
 obtain rfl:=oj h
 exact X9 [Bf] (k:=wkT [] (X2.glue J))⟩
instance X058:PCs Tryz.prog 126 (∀ (a0:Int) (a1:X0b) (r:Int),Xav a0 a1=some r->X0g Tryz.prog 126 [(aI .u8 a0),(X0d a1)] (aI .i64 r)):=⟨fun a0 a1 r h=>by
 refine X0g.sym Xa X0e8 (nt:=20) rfl rfl ?_ okM
 unfold Xav at h
 revert h
 exact brI (fun h1=>fun e=>oj e▸X9 [Bt] (k:=fi)) fun h1=>brI (fun h2=>fun e=>oj e▸X9 [Bf,Bt] (k:=fi)) fun h2=>brI (fun h3=>fun e=>oj e▸X9 [Bf,Bf,Bt] (k:=fi)) fun h3=>fun e=>oj e▸X9 [Bf,Bf,Bf] (k:=fi)⟩
theorem Xlq {Q:X02->St->Mu->Prop} {μ:Mu} (X1s:(List Xv)) (X9z:Int) (Xf:Xu) (Xi:Xr) (X1t:X0t) (hl:X1s.length<=140737488355328):∀ (xs:List Xv) (k:Nat) (hx:X1s.drop k=xs) (X0h:(V2 X0b)) (o:Xcu) (h:X6h X1s X9z Xf Xi X1t xs k X0h=some o)
  (C0:∀ (X0q:(V2 X0b)),o=Xcu.x0 X0q->X2 Tryz.prog 94 0 Q (.exit (.exit 0)) [] ⟨fr [(2,(aI .i64 X9z)),(4,(AV.ptr 0 0 0)),(7,(AV.ptr 1 0 0)),(8,(AV.ptr 2 0 0)),(10,(AV.ptr 3 0 0))],hp ([(0,Ob [(Xm false Xf)] 10),(1,Ob [(X3 Xi)] 2),(2,Ob [(Xb X1t)] 5),(3,Ob [(X5p X0q)] 8)]),4⟩ μ),
  X2 Tryz.prog 94 0 Q (.loop (X2v 0 (Xh Tryz.f89))) [] ⟨fr [(1,(Lf (X1s.map Xg))),(2,(aI .i64 X9z)),(4,(AV.ptr 0 0 0)),(7,(AV.ptr 1 0 0)),(8,(AV.ptr 2 0 0)),(10,(AV.ptr 3 0 0)),(11,(aI .i64 (k:Int)))],hp ([(0,Ob [(Xm false Xf)] 10),(1,Ob [(X3 Xi)] 2),(2,Ob [(Xb X1t)] 5),(3,Ob [(X5p X0h)] 8)]),4⟩ μ:=by
 intro xs
 induction xs with
 |nil =>
  intro k hx X0h o h C0
  have hk:=drop_nil hx
  have hc:decide ((k:Int)<(X1s.length:Int))=false:=Yf (by omega)
  rw[X6h] at h
  refine X2.round ?_
  revert h
  exact fun e=>X9 [.el (aI .i64 (X1s.length:Int)),Bf] (k:=wkT [] (C0 _  (oj e).symm))
 |cons x xs ih =>
  intro k hx X0h o h C0
  obtain⟨hk,hg,hx1⟩:=drop_cons hx
  have hc:decide ((k:Int)<(X1s.length:Int))=true:=Yt (by omega)
  rw[X6h] at h
  refine X2.round ?_
  revert h
  refine bI fun X01l h99=>rnI [.el (aI .i64 (X1s.length:Int)),Bt,.el (Xg x)] ?_
  intro h
  refine X2.join (s':=⟨fr [(1,(Lf (X1s.map Xg))),(2,(aI .i64 X9z)),(4,(AV.ptr 0 0 0)),(7,(AV.ptr 1 0 0)),(8,(AV.ptr 2 0 0)),(10,(AV.ptr 3 0 0)),(11,(aI .i64 (k:Int)))],hp ([(0,Ob [(Xm false Xf)] 10),(1,Ob [(X3 Xi)] 2),(2,Ob [(Xb X1t)] 5),(3,Ob [(X5p X01l)] 8)]),4⟩) ?_ (fun J=>X2.cut ?_)
  ·
   exact X9 [] (k:=wkT [] (ih (k+1) hx1 _ o h C0))
  clear h;revert h99
  refine brI (fun h84=>?_) fun h84=>?_
  ·
   refine bI fun X01i h98=>rnI [Bt,.stop 7] ?_
   intro h
   refine X2.join (s':=⟨fr [(1,(Lf (X1s.map Xg))),(2,(aI .i64 X9z)),(4,(AV.ptr 0 0 0)),(7,(AV.ptr 1 0 0)),(8,(AV.ptr 2 0 0)),(10,(AV.ptr 3 0 0)),(11,(aI .i64 (k:Int)))],hp ([(0,Ob [(Xm false Xf)] 10),(1,Ob [(X3 Xi)] 2),(2,Ob [(Xb X1t)] 5),(3,Ob [(X5p X01i)] 8)]),4⟩) ?_ (fun J=>X2.cut ?_)
   ·
    obtain rfl:=oj h
    exact X9 [] (k:=wkT [] (X2.glue J))
   clear h;revert h98
   refine brI (fun h92=>?_) fun h92=>?_
   ·
    refine bI fun v93 h94=>?_
    intro h
    obtain rfl:=oj h
    exact X9 [.el (Xg x),.el (Xg x),.ix 0,.pure _ (X0d v93),.ix 0] (o:=by repeat' first|apply Ya|exact pcM|exact((eq_of_beq h92))|exact X0k) (k:=wkT [] (X2.glue J))
   refine brI (fun h95=>?_) fun h95=>?_
   ·
    refine bI fun v96 h97=>?_
    intro h
    obtain rfl:=oj h
    exact X9 [.el (Xg x),.el (Xg x),.ix 1,.pure _ (X0d v96),.ix 1] (o:=by repeat' first|apply Ya|exact pcM|exact((eq_of_beq h95))|exact X0k) (k:=wkT [] (X2.glue J))
   intro h
   cases h
  intro h
  obtain rfl:=oj h
  exact X9 [Bf] (k:=wkT [] (X2.glue J))
end Go.Av.Tryz