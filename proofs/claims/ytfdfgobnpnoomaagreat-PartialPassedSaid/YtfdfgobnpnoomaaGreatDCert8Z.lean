/- Printed by decomp.py: that the program computes the functions. -/
import Derived.Test.YtfdfgobnpnoomaaGreatDCert7Z
set_option linter.all false

namespace Go.Av.Tryz
open Go.Proofs Go.D
set_option maxRecDepth 10000
set_option maxHeartbeats 40000000
instance Xjv:PCs Tryz.prog 51 (∀ (a0:(List X8)) (a1:X0l) (a2:X7) (a3:Int) (r:(List X8)×Int),Xa1 a0 a1 a2 a3=some r->X0g Tryz.prog 51 [(Lf (a0.map X5)),(X0u a1),(X0 a2),(aI .i64 a3)] (AV.tup [(AV.list true (r.1.map X5)),(aI .i64 r.2)])):=⟨fun a0 a1 a2 a3 r h=>by
 refine X0g.sym Xa fn51 (nt:=112) rfl rfl ?_ okM
 unfold Xa1 at h
 revert h
 refine bI fun v1 h2=>brI (fun h3=>fun e=>oj e▸X9 [.pure _ (aI .i64 v1),Bt] (k:=fi)) fun h3=>bI fun v4 h5=>brI (fun h6=>fun e=>oj e▸X9 [.pure _ (aI .i64 v1),Bf,.pure _ (aI .i64 v4),Bt] (k:=fi)) fun h6=>brI (fun h7=>fun e=>oj e▸X9 [.pure _ (aI .i64 v1),Bf,.pure _ (aI .i64 v4),Bf,Bt] (k:=fi)) fun h7=>brI (fun h8=>fun e=>oj e▸X9 [.pure _ (aI .i64 v1),Bf,.pure _ (aI .i64 v4),Bf,Bf,Bt] (k:=fi)) fun h8=>bI fun Xk8 h18=>rnI [.pure _ (aI .i64 v1),Bf,.pure _ (aI .i64 v4),Bf,Bf,Bf,.stop 12] ?_
 intro h
 refine X2.join (s':=⟨fr [(0,(Lf (a0.map X5))),(5,(AV.ptr 0 0 0)),(6,(AV.ptr 1 0 0)),(12,(AV.ptr 2 0 0))],hp ([(0,Ob [(X0u a1)] 3),(1,Ob [(X0 a2)] 3),(2,Ob [(X5 Xk8)] 11)]),3⟩) ?_ (fun J=>X2.cut ?_)
 ·
  revert h
  refine bI fun Xk7 h30=>rnI [] ?_
  intro h
  refine X2.joinOpF (fun(q:Nb Xk7)=>⟨fr [(5,(AV.ptr 0 0 0)),(6,(AV.ptr 1 0 0)),(12,(AV.ptr 2 0 0)),(52,(slE q.1 3 (Xk7.map X5)))],hp ([(0,Ob [(X0u a1)] 3),(1,Ob [(X0 a2)] 3),(2,Ob [(X5 Xk8)] 11)]++opE q.1 3 11 (Xk7.map X5)),4⟩) ?_ (fun J=>?_)
  ·
   rintro X014
   rcases X014 with ⟨_|_,X02k⟩
   ·
    revert h
    refine brI (fun h31=>?_) fun h31=>?_
    ·
     refine bI fun w50 h69=>?_
     intro h
     obtain⟨X01q,X05s⟩:=w50
     try dsimp only at h
     refine X10 [Bt] ?_
     refine X2.joinOpF (fun(q:Nb X01q)=>⟨fr [(12,(AV.ptr 0 0 0)),(13,(AV.ref 1 0 (Xk7.length))),(62,(AV.tup [(slE q.1 2 (X01q.map X3)),(aI .i64 X05s)]))],hp ([(0,Ob [(X5 Xk8)] 11),(1,Ob (Xk7.map X5) 11)]++opE q.1 2 2 (X01q.map X3)),3⟩) ?_ (fun J=>?_)
     ·
      rintro X00z
      rcases X00z with ⟨_|_,X02f⟩
      ·
       revert h
       refine brI (fun h70=>fun e=>oj e▸X9 [Bt] (k:=fi)) fun h70=>bI fun e71 h72=>?_
       try have qh72:=Xn h72
       refine bI fun w811 h1550=>?_
       intro h
       obtain⟨Xm9,X01n⟩:=w811
       try dsimp only at h
       refine X10 [Bf,.el (X3 e71),.ld (X3 e71)] ?_
       refine X2.joinOpF (fun(q:Nb Xm9)=>⟨fr [(75,(AV.tup [(slE q.1 0 (Xm9.map X5)),(aI .i64 X01n)]))],hp ([]++opE q.1 0 11 (Xm9.map X5)),1⟩) ?_ (fun J=>?_)
       ·
        rintro Xxj
        rcases Xxj with ⟨_|_,Xyd⟩
        ·
         revert h
         exact brI (fun h1551=>fun e=>oj e▸X9 [Bt] (k:=fi)) fun h1551=>brI (fun h1552=>fun e=>oj e▸X9 [Bf,.el (aI .i64 (Xm9.length:Int)),Bt] (k:=fi)) fun h1552=>fun e=>oj e▸X9 [Bf,.el (aI .i64 (Xm9.length:Int)),Bf] (k:=fi)
        obtain rfl:=Xyd rfl
        revert h
        exact brI (fun h1553=>fun e=>oj e▸X9 [Bt] (k:=fi)) fun h1553=>brI (fun h1554=>fun e=>oj e▸X9 [Bf,.el (aI .i64 (List.length ([]:List X8):Int)),Bt] (k:=fi)) fun h1554=>fun e=>oj e▸X9 [Bf,.el (aI .i64 (List.length ([]:List X8):Int)),Bf] (k:=fi)
       clear h;revert h1550
       intro h
       refine X2.inline Xa fn82 rfl rfl rfl rfl rfl trivial trivial rfl rfl ?_
       revert h
       refine bI fun o1548 h1549=>rnI [] ?_
       intro h
       refine wkT [(3,1),(4,3)] (X2.cut (X6u _ _ _ nbF _ h1549 ?_))
       intro X0q Xgy X11 eo1548;subst eo1548
       refine X2.glue ?_
       try dsimp only at h
       rcases X11 with ⟨_|_,X32⟩
       ·
        simp only[Option.some.injEq,Prod.mk.injEq] at h
        obtain⟨rfl,rfl⟩:=h
        refine X10 [] ?_
        refine X2.back (by intro id h;cases h) rfl ?_
        exact wkT [(0,3)] ((J nbF))
       obtain rfl:=X32 rfl
       simp only[Option.some.injEq,Prod.mk.injEq] at h
       obtain⟨rfl,rfl⟩:=h
       refine X10 [] ?_
       refine X2.back (by intro id h;cases h) rfl ?_
       exact wkT [] ((J nbS))
      obtain rfl:=X02f rfl
      revert h
      refine brI (fun h1555=>fun e=>oj e▸X9 [Bt] (k:=fi)) fun h1555=>bI fun e1556 h1557=>?_
      try have qh1557:=Xn h1557
      intro h
      exact absurd (h1557) (by simp[X1p])
     clear h;revert h69
     intro h
     refine X2.inline Xa fn81 rfl rfl rfl rfl rfl trivial trivial rfl rfl ?_
     revert h
     refine bI fun v51 h52=>brI (fun h53=>?_) fun h53=>?_
     ·
      intro h
      simp only[Option.some.injEq,Prod.mk.injEq] at h
      obtain⟨rfl,rfl⟩:=h
      refine X10 [.pure _ (aI .i64 v51),Bt] ?_
      refine X2.back (by intro id h;cases h) rfl ?_
      exact wkT [(0,2),(1,3)] ((J nbS))
     refine rnI [.pure _ (aI .i64 v51),Bf,Bf] ?_
     intro h
     refine X2.round ?_
     revert h
     refine bI fun v54 h55=>brI (fun h56=>?_) fun h56=>?_
     ·
      intro h
      simp only[Option.some.injEq,Prod.mk.injEq] at h
      obtain⟨rfl,rfl⟩:=h
      refine X10 [Bt,.el ((aI .i64 a2.Time)),.pure _ (aI .i64 v54),Bt] ?_
      refine X2.back (by intro id h;cases h) rfl ?_
      exact wkT [(0,2),(1,3)] ((J nbS))
     refine rnI [Bt,.el ((aI .i64 a2.Time)),.pure _ (aI .i64 v54),Bf,.wrap,.no] ?_
     intro h
     refine X2.round ?_
     refine X10 [Bf] ?_
     refine X2.inline Xa X0bt rfl rfl rfl rfl rfl trivial trivial rfl rfl ?_
     refine X10 [] ?_
     refine X2.inline Xa X0bq rfl rfl rfl rfl rfl trivial trivial rfl rfl ?_
     refine X10 [] ?_
     refine X2.eqNil Xa (may:=false) rfl rfl rfl rfl rfl rfl trivial rfl fun b64 qb64=>?_
     obtain rfl:=qb64 rfl
     refine X10 [Bf,.no] ?_
     refine X2.back (by intro id h;cases h) rfl ?_
     refine X10 [] ?_
     refine X2.inline Xa X0bp rfl rfl rfl rfl rfl trivial trivial rfl rfl ?_
     revert h
     refine bI fun v67 h68=>rnI [.wrap,.pure _ (aI .i64 v67)] ?_
     intro h
     refine X2.inline Xa X0bn rfl rfl rfl rfl rfl trivial trivial rfl rfl ?_
     refine X10 [] ?_
     refine X2.round ?_
     refine X10 [Bt] ?_
     refine X2.inline Xa X0bl rfl rfl rfl rfl rfl trivial trivial rfl rfl ?_
     refine X10 [] ?_
     refine X2.round ?_
     refine X10 [Bf] ?_
     refine X2.back (by intro id h;cases h) rfl ?_
     refine X10 [] ?_
     refine X2.back (by intro id h;cases h) rfl ?_
     refine X10 [] ?_
     refine X2.back (by intro id h;cases h) rfl ?_
     refine X10 [] ?_
     refine X2.round ?_
     refine X10 [Bt,.el (AV.agg [(aI .i64 a2.Time),(aI .i64 (IntKind.i64.wrap (a2.Time+a1.Size)))]),.go false,.go false,.go false,.go false,.go false,.go false,.go false,.go false,.go false,.go false,Bf,.no] ?_
     refine X2.round ?_
     refine X10 [Bf] ?_
     refine X2.back (by intro id h;cases h) rfl ?_
     simp only[Option.some.injEq,Prod.mk.injEq] at h
     obtain⟨rfl,rfl⟩:=h
     refine X10 [] ?_
     refine X2.back (by intro id h;cases h) rfl ?_
     exact wkT [(0,2),(1,3),(2,24)] ((J nbF))
    refine bI fun v1558 h1559=>brI (fun h1560=>fun e=>oj e▸X9 [Bf,.pure _ (AV.tup [(AV.list true (v1558.1.map X3)),(aI .i64 v1558.2)]),Bt] (k:=fi)) fun h1560=>bI fun u1561 h1562=>?_
    have qh1562:=X08 h1562
    refine bI fun o1984 h1985=>rnI [Bf,.pure _ (AV.tup [(AV.list true (v1558.1.map X3)),(aI .i64 v1558.2)]),Bf,.el (aI .i64 (v1558.1.length:Int))] ?_
    intro h
    refine wkT [(0,2),(1,3)] (X2.cut (Xfa v1558.1 qh1562 v1558.1 0 (by simp) _ _ nbF _ h1985 ?_ ?_))
    ·
     intro Xe Xj eo1984;subst eo1984
     refine X2.glue ?_
     try dsimp only at h
     rcases Xj with ⟨_|_,X0n⟩
     ·
      revert h
      exact brI (fun h1986=>fun e=>oj e▸X9 [.el (aI .i64 (Xe.length:Int)),Bt] (k:=fi)) fun h1986=>fun e=>oj e▸X9 [.el (aI .i64 (Xe.length:Int)),Bf] (k:=fi)
     obtain rfl:=X0n rfl
     revert h
     exact brI (fun h1987=>fun e=>oj e▸X9 [.el (aI .i64 (List.length ([]:List X8):Int)),Bt] (k:=fi)) fun h1987=>fun e=>oj e▸X9 [.el (aI .i64 (List.length ([]:List X8):Int)),Bf] (k:=fi)
    intro X0e Xld X0c eo1984;subst eo1984
    refine X2.glue ?_
    try dsimp only at h
    rcases X0c with ⟨_|_,X30⟩
    ·
     revert h
     exact fun e=>oj e▸X9 [] (k:=fi)
    obtain rfl:=X30 rfl
    revert h
    exact fun e=>oj e▸X9 [] (k:=fi)
   obtain rfl:=X02k rfl
   revert h
   refine brI (fun h1988=>?_) fun h1988=>?_
   ·
    refine bI fun w2007 h2026=>?_
    intro h
    obtain⟨Xpr,Xy4⟩:=w2007
    try dsimp only at h
    refine X10 [Bt] ?_
    refine X2.joinOpF (fun(q:Nb Xpr)=>⟨fr [(12,(AV.ptr 0 0 0)),(13,AV.nils),(62,(AV.tup [(slE q.1 2 (Xpr.map X3)),(aI .i64 Xy4)]))],hp ([(0,Ob [(X5 Xk8)] 11)]++opE q.1 2 2 (Xpr.map X3)),3⟩) ?_ (fun J=>?_)
    ·
     rintro Xtq
     rcases Xtq with ⟨_|_,Xv4⟩
     ·
      revert h
      refine brI (fun h2027=>fun e=>oj e▸X9 [Bt] (k:=fi)) fun h2027=>bI fun e2028 h2029=>?_
      try have qh2029:=Xn h2029
      refine bI fun w2511 h2993=>?_
      intro h
      obtain⟨Xih,Xy3⟩:=w2511
      try dsimp only at h
      refine X10 [Bf,.el (X3 e2028),.ld (X3 e2028)] ?_
      refine X2.joinOpF (fun(q:Nb Xih)=>⟨fr [(75,(AV.tup [(slE q.1 0 (Xih.map X5)),(aI .i64 Xy3)]))],hp ([]++opE q.1 0 11 (Xih.map X5)),1⟩) ?_ (fun J=>?_)
      ·
       rintro Xtp
       rcases Xtp with ⟨_|_,Xv3⟩
       ·
        revert h
        exact brI (fun h2994=>fun e=>oj e▸X9 [Bt] (k:=fi)) fun h2994=>brI (fun h2995=>fun e=>oj e▸X9 [Bf,.el (aI .i64 (Xih.length:Int)),Bt] (k:=fi)) fun h2995=>fun e=>oj e▸X9 [Bf,.el (aI .i64 (Xih.length:Int)),Bf] (k:=fi)
       obtain rfl:=Xv3 rfl
       revert h
       exact brI (fun h2996=>fun e=>oj e▸X9 [Bt] (k:=fi)) fun h2996=>brI (fun h2997=>fun e=>oj e▸X9 [Bf,.el (aI .i64 (List.length ([]:List X8):Int)),Bt] (k:=fi)) fun h2997=>fun e=>oj e▸X9 [Bf,.el (aI .i64 (List.length ([]:List X8):Int)),Bf] (k:=fi)
      clear h;revert h2993
      intro h
      refine X2.inline Xa fn82 rfl rfl rfl rfl rfl trivial trivial rfl rfl ?_
      revert h
      refine bI fun o2991 h2992=>rnI [] ?_
      intro h
      refine wkT [(4,3)] (X2.cut (X6u _ _ _ nbS _ h2992 ?_))
      intro X0q Xgy X11 eo2991;subst eo2991
      refine X2.glue ?_
      try dsimp only at h
      rcases X11 with ⟨_|_,X32⟩
      ·
       simp only[Option.some.injEq,Prod.mk.injEq] at h
       obtain⟨rfl,rfl⟩:=h
       refine X10 [] ?_
       refine X2.back (by intro id h;cases h) rfl ?_
       exact wkT [(0,3)] ((J nbF))
      obtain rfl:=X32 rfl
      simp only[Option.some.injEq,Prod.mk.injEq] at h
      obtain⟨rfl,rfl⟩:=h
      refine X10 [] ?_
      refine X2.back (by intro id h;cases h) rfl ?_
      exact wkT [] ((J nbS))
     obtain rfl:=Xv4 rfl
     revert h
     refine brI (fun h2998=>fun e=>oj e▸X9 [Bt] (k:=fi)) fun h2998=>bI fun e2999 h3000=>?_
     try have qh3000:=Xn h3000
     intro h
     exact absurd (h3000) (by simp[X1p])
    clear h;revert h2026
    intro h
    refine X2.inline Xa fn81 rfl rfl rfl rfl rfl trivial trivial rfl rfl ?_
    revert h
    refine bI fun v2008 h2009=>brI (fun h2010=>?_) fun h2010=>?_
    ·
     intro h
     simp only[Option.some.injEq,Prod.mk.injEq] at h
     obtain⟨rfl,rfl⟩:=h
     refine X10 [.pure _ (aI .i64 v2008),Bt] ?_
     refine X2.back (by intro id h;cases h) rfl ?_
     exact wkT [(0,2)] ((J nbS))
    refine rnI [.pure _ (aI .i64 v2008),Bf,Bf] ?_
    intro h
    refine X2.round ?_
    revert h
    refine bI fun v2011 h2012=>brI (fun h2013=>?_) fun h2013=>?_
    ·
     intro h
     simp only[Option.some.injEq,Prod.mk.injEq] at h
     obtain⟨rfl,rfl⟩:=h
     refine X10 [Bt,.el ((aI .i64 a2.Time)),.pure _ (aI .i64 v2011),Bt] ?_
     refine X2.back (by intro id h;cases h) rfl ?_
     exact wkT [(0,2)] ((J nbS))
    refine rnI [Bt,.el ((aI .i64 a2.Time)),.pure _ (aI .i64 v2011),Bf,.wrap,.no] ?_
    intro h
    refine X2.round ?_
    refine X10 [Bf] ?_
    refine X2.inline Xa X0bt rfl rfl rfl rfl rfl trivial trivial rfl rfl ?_
    refine X10 [] ?_
    refine X2.inline Xa X0bq rfl rfl rfl rfl rfl trivial trivial rfl rfl ?_
    refine X10 [] ?_
    refine X2.eqNil Xa (may:=false) rfl rfl rfl rfl rfl rfl trivial rfl fun b2021 qb2021=>?_
    obtain rfl:=qb2021 rfl
    refine X10 [Bf,.no] ?_
    refine X2.back (by intro id h;cases h) rfl ?_
    refine X10 [] ?_
    refine X2.inline Xa X0bp rfl rfl rfl rfl rfl trivial trivial rfl rfl ?_
    revert h
    refine bI fun v2024 h2025=>rnI [.wrap,.pure _ (aI .i64 v2024)] ?_
    intro h
    refine X2.inline Xa X0bn rfl rfl rfl rfl rfl trivial trivial rfl rfl ?_
    refine X10 [] ?_
    refine X2.round ?_
    refine X10 [Bt] ?_
    refine X2.inline Xa X0bl rfl rfl rfl rfl rfl trivial trivial rfl rfl ?_
    refine X10 [] ?_
    refine X2.round ?_
    refine X10 [Bf] ?_
    refine X2.back (by intro id h;cases h) rfl ?_
    refine X10 [] ?_
    refine X2.back (by intro id h;cases h) rfl ?_
    refine X10 [] ?_
    refine X2.back (by intro id h;cases h) rfl ?_
    refine X10 [] ?_
    refine X2.round ?_
    refine X10 [Bt,.el (AV.agg [(aI .i64 a2.Time),(aI .i64 (IntKind.i64.wrap (a2.Time+a1.Size)))]),.go false,.go false,.go false,.go false,.go false,.go false,.go false,.go false,.go false,.go false,Bf,.no] ?_
    refine X2.round ?_
    refine X10 [Bf] ?_
    refine X2.back (by intro id h;cases h) rfl ?_
    simp only[Option.some.injEq,Prod.mk.injEq] at h
    obtain⟨rfl,rfl⟩:=h
    refine X10 [] ?_
    refine X2.back (by intro id h;cases h) rfl ?_
    exact wkT [(0,2),(2,24)] ((J nbF))
   refine bI fun v3001 h3002=>brI (fun h3003=>fun e=>oj e▸X9 [Bf,.pure _ (AV.tup [(AV.list true (v3001.1.map X3)),(aI .i64 v3001.2)]),Bt] (k:=fi)) fun h3003=>bI fun u3004 h3005=>?_
   have qh3005:=X08 h3005
   refine bI fun o3287 h3288=>rnI [Bf,.pure _ (AV.tup [(AV.list true (v3001.1.map X3)),(aI .i64 v3001.2)]),Bf,.el (aI .i64 (v3001.1.length:Int))] ?_
   intro h
   refine wkT [(0,2)] (X2.cut (Xfa v3001.1 qh3005 v3001.1 0 (by simp) _ _ nbS _ h3288 ?_ ?_))
   ·
    intro Xe Xj eo3287;subst eo3287
    refine X2.glue ?_
    try dsimp only at h
    rcases Xj with ⟨_|_,X0n⟩
    ·
     revert h
     exact brI (fun h3289=>fun e=>oj e▸X9 [.el (aI .i64 (Xe.length:Int)),Bt] (k:=fi)) fun h3289=>fun e=>oj e▸X9 [.el (aI .i64 (Xe.length:Int)),Bf] (k:=fi)
    obtain rfl:=X0n rfl
    revert h
    exact brI (fun h3290=>fun e=>oj e▸X9 [.el (aI .i64 (List.length ([]:List X8):Int)),Bt] (k:=fi)) fun h3290=>fun e=>oj e▸X9 [.el (aI .i64 (List.length ([]:List X8):Int)),Bf] (k:=fi)
   intro X0e Xld X0c eo3287;subst eo3287
   refine X2.glue ?_
   try dsimp only at h
   rcases X0c with ⟨_|_,X30⟩
   ·
    revert h
    exact fun e=>oj e▸X9 [] (k:=fi)
   obtain rfl:=X30 rfl
   revert h
   exact fun e=>oj e▸X9 [] (k:=fi)
  clear h;revert h30
  intro h
  refine X2.inline Xa fn80 rfl rfl rfl rfl rfl trivial trivial rfl rfl ?_
  revert h
  refine brI (fun q=>?_) fun q=>?_
  ·
   intro h
   have h25:a0=[]:=List.isEmpty_iff.1 q
   refine X10 [] ?_
   refine X2.eqNil Xa (may:=true) rfl rfl rfl rfl rfl rfl trivial (by simp[Xh6, *]) fun b26 qb26=>?_
   cases b26
   ·
    obtain rfl:=oj h
    refine X10 [Bf,.ne false] ?_
    refine X2.back (by intro id h;cases h) rfl ?_
    exact wkT [] ((J nbS))
   obtain rfl:=oj h
   refine X10 [Bt] ?_
   refine X2.back (by intro id h;cases h) rfl ?_
   exact wkT [] ((J nbS))
  intro h
  have h25:¬ (a0=[]):=(fun e=>by rw[e] at q;cases q)
  refine X10 [] ?_
  refine X2.eqNil Xa (may:=false) rfl rfl rfl rfl rfl rfl trivial (by simp[Xh6, *]) fun b27 qb27=>?_
  obtain rfl:=qb27 rfl
  revert h
  refine bI fun u28 h29=>?_
  intro h
  obtain rfl:=oj h
  refine X10 [Bf,.via (AV.list true (a0.map X5))] (o:=by repeat' first|apply Ya|exact pcM|(refine X0a h29 rfl ?_;first|(simp;done)|(simp;omega)|(simp[h3,h6,h7,h8,h25];done)|(simp[h3,h6,h7,h8,h25];omega))|(refine Xs h29 (by decide) ?_;first|(simp;done)|(simp;omega)|(simp[h3,h6,h7,h8,h25];done)|(simp[h3,h6,h7,h8,h25];omega))|exact X0k) ?_
  refine X2.back (by intro id h;cases h) rfl ?_
  exact wkT [(3,4)] ((J nbF))
 clear h;revert h18
 refine bI fun v14 h15=>brI (fun h16=>?_) fun h16=>?_
 ·
  intro h
  obtain rfl:=oj h
  exact X9 [.pure _ (X0d v14),.ix 0] (o:=by repeat' first|apply Ya|exact pcM|exact((eq_of_beq h16))|exact X0k) (k:=wkT [] (X2.glue J))
 refine brI (fun h17=>?_) fun h17=>?_
 ·
  intro h
  obtain rfl:=oj h
  exact X9 [.pure _ (X0d v14),.ix 1] (o:=by repeat' first|apply Ya|exact pcM|exact((eq_of_beq h17))|exact X0k) (k:=wkT [] (X2.glue J))
 intro h
 cases h⟩
instance X03h:PCs Tryz.prog 85 (∀ (a0:Int) (a1:X0b) (r:Int×Int),X82 a0 a1=some r->X0g Tryz.prog 85 [(aI .u8 a0),(X0d a1)] (AV.tup [(aI .i64 r.1),(aI .i64 r.2)])):=⟨fun a0 a1 r h=>by
 refine X0g.sym Xa fn85 (nt:=34) rfl rfl ?_ okM
 unfold X82 at h
 revert h
 refine brI (fun h1=>fun e=>oj e▸X9 [Bt] (k:=fi)) fun h1=>bI fun v2 h3=>brI (fun h4=>fun e=>oj e▸X9 [Bf,.pure _ (aI .i64 v2),Bt] (k:=fi)) fun h4=>brI (fun h5=>fun e=>oj e▸X9 [Bf,.pure _ (aI .i64 v2),Bf,Bt] (k:=fi)) fun h5=>bI fun X09s h17=>rnI [Bf,.pure _ (aI .i64 v2),Bf,Bf,.stop 9] ?_
 intro h
 refine X2.join (s':=⟨fr [(4,(aI .i64 X09s)),(5,(aI .i64 0))],hp ([]),0⟩) ?_ (fun J=>X2.cut ?_)
 ·
  revert h
  exact fun e=>oj e▸X9 [] (k:=fi)
 clear h;revert h17
 refine brI (fun h12=>?_) fun h12=>?_
 ·
  intro h
  obtain rfl:=oj h
  exact X9 [.ix 0] (o:=by repeat' first|apply Ya|exact pcM|exact((eq_of_beq h12))|exact X0k) (k:=wkT [] (X2.glue J))
 refine brI (fun h13=>?_) fun h13=>?_
 ·
  intro h
  obtain rfl:=oj h
  exact X9 [.ix 1] (o:=by repeat' first|apply Ya|exact pcM|exact((eq_of_beq h13))|exact X0k) (k:=wkT [] (X2.glue J))
 refine brI (fun h14=>?_) fun h14=>?_
 ·
  intro h
  obtain rfl:=oj h
  exact X9 [.ix 2] (o:=by repeat' first|apply Ya|exact pcM|exact((eq_of_beq h14))|exact X0k) (k:=wkT [] (X2.glue J))
 refine brI (fun h15=>?_) fun h15=>?_
 ·
  intro h
  obtain rfl:=oj h
  exact X9 [.ix 3] (o:=by repeat' first|apply Ya|exact pcM|exact((eq_of_beq h15))|exact X0k) (k:=wkT [] (X2.glue J))
 refine brI (fun h16=>?_) fun h16=>?_
 ·
  intro h
  obtain rfl:=oj h
  exact X9 [.ix 4] (o:=by repeat' first|apply Ya|exact pcM|exact((eq_of_beq h16))|exact X0k) (k:=wkT [] (X2.glue J))
 intro h
 cases h⟩
instance X04j:PCs Tryz.prog 52 (∀ (a0:Xu) (a1:X8) (r:X0t×Bool),Xbv a0 a1=some r->X0g Tryz.prog 52 [(Xm false a0),(X5 a1)] (AV.tup [(Xb r.1),(aB r.2)])):=⟨fun a0 a1 r h=>by
 refine X0g.sym Xa fn52 (nt:=44) rfl rfl ?_ okM
 unfold Xbv at h
 refine X10 [] ?_
 refine X2.round ?_
 revert h
 refine bI fun v3 h4=>brI (fun h5=>fun e=>oj e▸X9 [Bt,.go false,.go false,.go false,Bf,.ix 0,.pure _ (AV.tup [(aI .i64 v3.1),(aI .i64 v3.2)]),Bt] (k:=fi)) fun h5=>rnI [Bt,.go false,.go false,.go false,Bf,.ix 0,.pure _ (AV.tup [(aI .i64 v3.1),(aI .i64 v3.2)]),Bf,.ix 0] ?_
 intro h
 refine X2.round ?_
 revert h
 refine brI (fun h6=>fun e=>oj e▸X9 [Bt,.go true,.go true,.go true,Bt] (k:=fi)) fun h6=>bI fun v9 h10=>brI (fun h11=>fun e=>oj e▸X9 [Bt,.go true,.go true,.go true,Bf,.ix 1,.pure _ (AV.tup [(aI .i64 v9.1),(aI .i64 v9.2)]),Bt] (k:=fi)) fun h11=>rnI [Bt,.go true,.go true,.go true,Bf,.ix 1,.pure _ (AV.tup [(aI .i64 v9.1),(aI .i64 v9.2)]),Bf,.ix 1] ?_
 intro h
 refine X2.round ?_
 revert h
 exact fun e=>oj e▸X9 [Bf] (k:=fi)⟩
theorem X6s {Q:X02->St->Mu->Prop} {μ:Mu} (X1m:Xu) (X3p:(List X7)) (Xql:Int) (Xqk:(List (List Xk))) (Xqj:Int) (Xqi:Int) (Xhs:(List X7)) (X4d:Nb X3p) (hl:Xhs.length<=140737488355328):∀ (xs:List X7) (k:Nat) (hx:Xhs.drop k=xs) (Xle:(List X8)) (o:X7f) (h:X38 X1m X3p Xql Xqk Xqj Xqi Xhs xs k Xle=some o)
  (C0:∀ (Xb0:(List X8)) (X1z:(List X7)) (X17:Nb X1z),o=X7f.x0 Xb0 X1z->X2 Tryz.prog 119 0 Q (.exit (.exit 2)) [] ⟨fr [(2,(AV.ptr 0 0 0)),(10,(AV.list true (Xb0.map X5))),(11,(slE X17.1 1 (X1z.map X0))),(46,(Lf (List.map (X56 false Xd) Xqk))),(47,(aI .i64 Xqj)),(48,(aI .i64 Xqi))],hp ([(0,Ob [(Xm false X1m)] 10)]++opE X17.1 1 3 (X1z.map X0)),2⟩ μ)
  (C1:∀ (X95:(List X0t)) (X94:(List X7)) (Xf2:Int) (X5x:Nb X95) (X3h:Nb X94),o=X7f.x1 X95 X94 Xf2->X2 Tryz.prog 119 0 Q (.exit .ret) [] ⟨fr [(4,(slE X5x.1 0 (X95.map Xb))),(5,(slE X3h.1 1 (X94.map X0))),(6,(aI .i64 Xf2))],hp ([]++opE X5x.1 0 5 (X95.map Xb)++opE X3h.1 1 3 (X94.map X0)),2⟩ μ),
  X2 Tryz.prog 119 0 Q (.loop (X2v 1 (Xh Tryz.f19))) [] ⟨fr [(2,(AV.ptr 0 0 0)),(10,(AV.list true (Xle.map X5))),(11,(slE X4d.1 1 (X3p.map X0))),(12,(aI .i64 Xql)),(46,(Lf (List.map (X56 false Xd) Xqk))),(47,(aI .i64 Xqj)),(48,(aI .i64 Xqi)),(65,(AV.list true (Xhs.map X0))),(66,(aI .i64 (Xhs.length:Int))),(67,(aI .i64 (k:Int)))],hp ([(0,Ob [(Xm false X1m)] 10)]++opE X4d.1 1 3 (X3p.map X0)),2⟩ μ:=by
 intro xs
 induction xs with
 |nil =>
  intro k hx Xle o h C0 C1
  have hk:=drop_nil hx
  have hc:decide ((k:Int)<(Xhs.length:Int))=false:=Yf (by omega)
  rw[X38] at h
  rcases X4d with ⟨_|_,X8m⟩
  ·
   refine X2.round ?_
   revert h
   exact fun e=>X9 [Bf] (k:=wkT [] (C0 _ _  nbF (oj e).symm))
  ·
   obtain rfl:=X8m rfl
   refine X2.round ?_
   revert h
   exact fun e=>X9 [Bf] (k:=wkT [] (C0 _ _  nbS (oj e).symm))
 |cons x xs ih =>
  intro k hx Xle o h C0 C1
  obtain⟨hk,hg,hx1⟩:=drop_cons hx
  have hc:decide ((k:Int)<(Xhs.length:Int))=true:=Yt (by omega)
  rw[X38] at h
  rcases X4d with ⟨_|_,X8m⟩
  ·
   refine X2.round ?_
   revert h
   refine bI fun v482 h483=>brI (fun h484=>?_) fun h484=>?_
   ·
    refine rnI [Bt,.el (X0 x),.pure _ (AV.tup [(X0 v482.1),(aB v482.2)]),Bt] ?_
    intro h
    exact wkT [] (ih (k+1) hx1 _ o h C0 C1)
   refine bI fun Xug h488=>rnI [Bt,.el (X0 x),.pure _ (AV.tup [(X0 v482.1),(aB v482.2)]),Bf] ?_
   intro h
   refine X2.join (s':=⟨fr [(2,(AV.ptr 0 0 0)),(10,(AV.list true (Xle.map X5))),(11,(AV.ref 1 0 (X3p.length))),(12,(aI .i64 Xql)),(19,(AV.ptr 2 0 0)),(21,(aI .i64 Xug)),(46,(Lf (List.map (X56 false Xd) Xqk))),(47,(aI .i64 Xqj)),(48,(aI .i64 Xqi)),(65,(AV.list true (Xhs.map X0))),(66,(aI .i64 (Xhs.length:Int))),(67,(aI .i64 (k:Int)))],hp ([(0,Ob [(Xm false X1m)] 10),(1,Ob (X3p.map X0) 3),(2,Ob [(X0 v482.1)] 3)]),3⟩) ?_ (fun J=>X2.cut ?_)
   ·
    revert h
    refine bI fun v489 h490=>brI (fun h491=>fun e=>X9 [.pure _ (AV.tup [(AV.list true (v489.1.map X5)),(aI .i64 v489.2)]),Bt] (k:=wkT [] (C1 _ _ _  nbS nbS (oj e).symm))) fun h491=>rnI [.pure _ (AV.tup [(AV.list true (v489.1.map X5)),(aI .i64 v489.2)]),Bf] ?_
    intro h
    exact wkT [] (ih (k+1) hx1 _ o h C0 C1)
   clear h;revert h488
   refine brI (fun h487=>?_) fun h487=>?_
   ·
    intro h
    obtain rfl:=oj h
    exact X9 [Bt] (k:=wkT [(2,3)] (X2.glue J))
   intro h
   obtain rfl:=oj h
   exact X9 [Bf] (k:=wkT [(2,3)] (X2.glue J))
  obtain rfl:=X8m rfl
  refine X2.round ?_
  revert h
  refine bI fun v492 h493=>brI (fun h494=>?_) fun h494=>?_
  ·
   refine rnI [Bt,.el (X0 x),.pure _ (AV.tup [(X0 v492.1),(aB v492.2)]),Bt] ?_
   intro h
   exact wkT [] (ih (k+1) hx1 _ o h C0 C1)
  refine bI fun X09b h498=>rnI [Bt,.el (X0 x),.pure _ (AV.tup [(X0 v492.1),(aB v492.2)]),Bf] ?_
  intro h
  refine X2.join (s':=⟨fr [(2,(AV.ptr 0 0 0)),(10,(AV.list true (Xle.map X5))),(11,AV.nils),(12,(aI .i64 Xql)),(19,(AV.ptr 2 0 0)),(21,(aI .i64 X09b)),(46,(Lf (List.map (X56 false Xd) Xqk))),(47,(aI .i64 Xqj)),(48,(aI .i64 Xqi)),(65,(AV.list true (Xhs.map X0))),(66,(aI .i64 (Xhs.length:Int))),(67,(aI .i64 (k:Int)))],hp ([(0,Ob [(Xm false X1m)] 10),(2,Ob [(X0 v492.1)] 3)]),3⟩) ?_ (fun J=>X2.cut ?_)
  ·
   revert h
   refine bI fun v499 h500=>brI (fun h501=>fun e=>X9 [.pure _ (AV.tup [(AV.list true (v499.1.map X5)),(aI .i64 v499.2)]),Bt] (k:=wkT [] (C1 _ _ _  nbS nbS (oj e).symm))) fun h501=>rnI [.pure _ (AV.tup [(AV.list true (v499.1.map X5)),(aI .i64 v499.2)]),Bf] ?_
   intro h
   exact wkT [] (ih (k+1) hx1 _ o h C0 C1)
  clear h;revert h498
  refine brI (fun h497=>?_) fun h497=>?_
  ·
   intro h
   obtain rfl:=oj h
   exact X9 [Bt] (k:=wkT [(2,3)] (X2.glue J))
  intro h
  obtain rfl:=oj h
  exact X9 [Bf] (k:=wkT [(2,3)] (X2.glue J))
end Go.Av.Tryz