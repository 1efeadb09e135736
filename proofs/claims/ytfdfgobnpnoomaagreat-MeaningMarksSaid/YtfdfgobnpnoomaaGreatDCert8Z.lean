/- Printed by decomp.py: that the program computes the functions. -/
import Derived.Test.YtfdfgobnpnoomaaGreatDCert7Z
set_option linter.all false

namespace Go.Av.Tryz
open Go.Proofs Go.D
set_option maxRecDepth 10000
set_option maxHeartbeats 40000000
instance Xgg:PCs Tryz.prog 51 (∀ (a0:(List Xa)) (a1:X0w) (a2:Xm) (a3:Int) (r:(List Xa)×Int),X8n a0 a1 a2 a3=some r->X11 Tryz.prog 51 [(Lf (a0.map X9)),(X3n a1),(X7 a2),(aI .i64 a3)] (AV.tup [(AV.list true (r.1.map X9)),(aI .i64 r.2)])):=⟨fun a0 a1 a2 a3 r h=>by
 refine X11.sym Xh fn51 (nt:=112) rfl rfl ?_ okM
 unfold X8n at h
 revert h
 refine bI fun v1 h2=>brI (fun h3=>fun e=>oj e▸Xc [.pure _ (aI .i64 v1),Bt] (k:=fi)) fun h3=>bI fun v4 h5=>brI (fun h6=>fun e=>oj e▸Xc [.pure _ (aI .i64 v1),Bf,.pure _ (aI .i64 v4),Bt] (k:=fi)) fun h6=>brI (fun h7=>fun e=>oj e▸Xc [.pure _ (aI .i64 v1),Bf,.pure _ (aI .i64 v4),Bf,Bt] (k:=fi)) fun h7=>brI (fun h8=>fun e=>oj e▸Xc [.pure _ (aI .i64 v1),Bf,.pure _ (aI .i64 v4),Bf,Bf,Bt] (k:=fi)) fun h8=>bI fun Xgp h18=>rnI [.pure _ (aI .i64 v1),Bf,.pure _ (aI .i64 v4),Bf,Bf,Bf,.stop 12] ?_
 intro h
 refine X3.join (s':=⟨fr [(0,(Lf (a0.map X9))),(5,(AV.ptr 0 0 0)),(6,(AV.ptr 1 0 0)),(12,(AV.ptr 2 0 0))],hp ([(0,Ob [(X3n a1)] 3),(1,Ob [(X7 a2)] 3),(2,Ob [(X9 Xgp)] 11)]),3⟩) ?_ (fun J=>X3.cut ?_)
 ·
  revert h
  refine bI fun Xgo h30=>rnI [] ?_
  intro h
  refine X3.joinOpF (fun(q:Nb Xgo)=>⟨fr [(5,(AV.ptr 0 0 0)),(6,(AV.ptr 1 0 0)),(12,(AV.ptr 2 0 0)),(52,(slE q.1 3 (Xgo.map X9)))],hp ([(0,Ob [(X3n a1)] 3),(1,Ob [(X7 a2)] 3),(2,Ob [(X9 Xgp)] 11)]++opE q.1 3 11 (Xgo.map X9)),4⟩) ?_ (fun J=>?_)
  ·
   rintro Xw2
   rcases Xw2 with ⟨_|_,Xxa⟩
   ·
    revert h
    refine brI (fun h31=>?_) fun h31=>?_
    ·
     refine bI fun w50 h69=>?_
     intro h
     obtain⟨Xwl,X006⟩:=w50
     try dsimp only at h
     refine X0l [Bt] ?_
     refine X3.joinOpF (fun(q:Nb Xwl)=>⟨fr [(12,(AV.ptr 0 0 0)),(13,(AV.ref 1 0 (Xgo.length))),(62,(AV.tup [(slE q.1 2 (Xwl.map X0d)),(aI .i64 X006)]))],hp ([(0,Ob [(X9 Xgp)] 11),(1,Ob (Xgo.map X9) 11)]++opE q.1 2 2 (Xwl.map X0d)),3⟩) ?_ (fun J=>?_)
     ·
      rintro Xw0
      rcases Xw0 with ⟨_|_,Xx8⟩
      ·
       revert h
       refine brI (fun h70=>fun e=>oj e▸Xc [Bt] (k:=fi)) fun h70=>bI fun e71 h72=>?_
       try have qh72:=Xn h72
       refine bI fun w811 h1550=>?_
       intro h
       obtain⟨Xih,Xwh⟩:=w811
       try dsimp only at h
       refine X0l [Bf,.el (X0d e71),.ld (X0d e71)] ?_
       refine X3.joinOpF (fun(q:Nb Xih)=>⟨fr [(75,(AV.tup [(slE q.1 0 (Xih.map X9)),(aI .i64 Xwh)]))],hp ([]++opE q.1 0 11 (Xih.map X9)),1⟩) ?_ (fun J=>?_)
       ·
        rintro Xt6
        rcases Xt6 with ⟨_|_,Xty⟩
        ·
         revert h
         exact brI (fun h1551=>fun e=>oj e▸Xc [Bt] (k:=fi)) fun h1551=>brI (fun h1552=>fun e=>oj e▸Xc [Bf,.el (aI .i64 (Xih.length:Int)),Bt] (k:=fi)) fun h1552=>fun e=>oj e▸Xc [Bf,.el (aI .i64 (Xih.length:Int)),Bf] (k:=fi)
        obtain rfl:=Xty rfl
        revert h
        exact brI (fun h1553=>fun e=>oj e▸Xc [Bt] (k:=fi)) fun h1553=>brI (fun h1554=>fun e=>oj e▸Xc [Bf,.el (aI .i64 (List.length ([]:List Xa):Int)),Bt] (k:=fi)) fun h1554=>fun e=>oj e▸Xc [Bf,.el (aI .i64 (List.length ([]:List Xa):Int)),Bf] (k:=fi)
       clear h;revert h1550
       intro h
       refine X3.inline Xh fn82 rfl rfl rfl rfl rfl trivial trivial rfl rfl ?_
       revert h
       refine bI fun o1548 h1549=>rnI [] ?_
       intro h
       refine wkT [(3,1),(4,3)] (X3.cut (X6a _ _ _ nbF _ h1549 ?_))
       intro X4w Xa8 X3i eo1548;subst eo1548
       refine X3.glue ?_
       try dsimp only at h
       rcases X3i with ⟨_|_,X8e⟩
       ·
        simp only[Option.some.injEq,Prod.mk.injEq] at h
        obtain⟨rfl,rfl⟩:=h
        refine X0l [] ?_
        refine X3.back (by intro id h;cases h) rfl ?_
        exact wkT [(0,3)] ((J nbF))
       obtain rfl:=X8e rfl
       simp only[Option.some.injEq,Prod.mk.injEq] at h
       obtain⟨rfl,rfl⟩:=h
       refine X0l [] ?_
       refine X3.back (by intro id h;cases h) rfl ?_
       exact wkT [] ((J nbS))
      obtain rfl:=Xx8 rfl
      revert h
      refine brI (fun h1555=>fun e=>oj e▸Xc [Bt] (k:=fi)) fun h1555=>bI fun e1556 h1557=>?_
      try have qh1557:=Xn h1557
      intro h
      exact absurd (h1557) (by simp[X2c])
     clear h;revert h69
     intro h
     refine X3.inline Xh fn81 rfl rfl rfl rfl rfl trivial trivial rfl rfl ?_
     revert h
     refine bI fun v51 h52=>brI (fun h53=>?_) fun h53=>?_
     ·
      intro h
      simp only[Option.some.injEq,Prod.mk.injEq] at h
      obtain⟨rfl,rfl⟩:=h
      refine X0l [.pure _ (aI .i64 v51),Bt] ?_
      refine X3.back (by intro id h;cases h) rfl ?_
      exact wkT [(0,2),(1,3)] ((J nbS))
     refine rnI [.pure _ (aI .i64 v51),Bf,Bf] ?_
     intro h
     refine X3.round ?_
     revert h
     refine bI fun v54 h55=>brI (fun h56=>?_) fun h56=>?_
     ·
      intro h
      simp only[Option.some.injEq,Prod.mk.injEq] at h
      obtain⟨rfl,rfl⟩:=h
      refine X0l [Bt,.el ((aI .i64 a2.Time)),.pure _ (aI .i64 v54),Bt] ?_
      refine X3.back (by intro id h;cases h) rfl ?_
      exact wkT [(0,2),(1,3)] ((J nbS))
     refine rnI [Bt,.el ((aI .i64 a2.Time)),.pure _ (aI .i64 v54),Bf,.wrap,.no] ?_
     intro h
     refine X3.round ?_
     refine X0l [Bf] ?_
     refine X3.inline Xh X062 rfl rfl rfl rfl rfl trivial trivial rfl rfl ?_
     refine X0l [] ?_
     refine X3.inline Xh X060 rfl rfl rfl rfl rfl trivial trivial rfl rfl ?_
     refine X0l [] ?_
     refine X3.eqNil Xh (may:=false) rfl rfl rfl rfl rfl rfl trivial rfl fun b64 qb64=>?_
     obtain rfl:=qb64 rfl
     refine X0l [Bf,.no] ?_
     refine X3.back (by intro id h;cases h) rfl ?_
     refine X0l [] ?_
     refine X3.inline Xh X05z rfl rfl rfl rfl rfl trivial trivial rfl rfl ?_
     revert h
     refine bI fun v67 h68=>rnI [.wrap,.pure _ (aI .i64 v67)] ?_
     intro h
     refine X3.inline Xh X05x rfl rfl rfl rfl rfl trivial trivial rfl rfl ?_
     refine X0l [] ?_
     refine X3.round ?_
     refine X0l [Bt] ?_
     refine X3.inline Xh X05v rfl rfl rfl rfl rfl trivial trivial rfl rfl ?_
     refine X0l [] ?_
     refine X3.round ?_
     refine X0l [Bf] ?_
     refine X3.back (by intro id h;cases h) rfl ?_
     refine X0l [] ?_
     refine X3.back (by intro id h;cases h) rfl ?_
     refine X0l [] ?_
     refine X3.back (by intro id h;cases h) rfl ?_
     refine X0l [] ?_
     refine X3.round ?_
     refine X0l [Bt,.el (AV.agg [(aI .i64 a2.Time),(aI .i64 (IntKind.i64.wrap (a2.Time+a1.Size)))]),.go false,.go false,.go false,.go false,.go false,.go false,.go false,.go false,.go false,.go false,Bf,.no] ?_
     refine X3.round ?_
     refine X0l [Bf] ?_
     refine X3.back (by intro id h;cases h) rfl ?_
     simp only[Option.some.injEq,Prod.mk.injEq] at h
     obtain⟨rfl,rfl⟩:=h
     refine X0l [] ?_
     refine X3.back (by intro id h;cases h) rfl ?_
     exact wkT [(0,2),(1,3),(2,24)] ((J nbF))
    refine bI fun v1558 h1559=>brI (fun h1560=>fun e=>oj e▸Xc [Bf,.pure _ (AV.tup [(AV.list true (v1558.1.map X0d)),(aI .i64 v1558.2)]),Bt] (k:=fi)) fun h1560=>bI fun u1561 h1562=>?_
    have qh1562:=X0u h1562
    refine bI fun o1984 h1985=>rnI [Bf,.pure _ (AV.tup [(AV.list true (v1558.1.map X0d)),(aI .i64 v1558.2)]),Bf,.el (aI .i64 (v1558.1.length:Int))] ?_
    intro h
    refine wkT [(0,2),(1,3)] (X3.cut (Xct v1558.1 qh1562 v1558.1 0 (by simp) _ _ nbF _ h1985 ?_ ?_))
    ·
     intro X02 X0i eo1984;subst eo1984
     refine X3.glue ?_
     try dsimp only at h
     rcases X0i with ⟨_|_,X2q⟩
     ·
      revert h
      exact brI (fun h1986=>fun e=>oj e▸Xc [.el (aI .i64 (X02.length:Int)),Bt] (k:=fi)) fun h1986=>fun e=>oj e▸Xc [.el (aI .i64 (X02.length:Int)),Bf] (k:=fi)
     obtain rfl:=X2q rfl
     revert h
     exact brI (fun h1987=>fun e=>oj e▸Xc [.el (aI .i64 (List.length ([]:List Xa):Int)),Bt] (k:=fi)) fun h1987=>fun e=>oj e▸Xc [.el (aI .i64 (List.length ([]:List Xa):Int)),Bf] (k:=fi)
    intro X0k Xhm X0h eo1984;subst eo1984
    refine X3.glue ?_
    try dsimp only at h
    rcases X0h with ⟨_|_,X2p⟩
    ·
     revert h
     exact fun e=>oj e▸Xc [] (k:=fi)
    obtain rfl:=X2p rfl
    revert h
    exact fun e=>oj e▸Xc [] (k:=fi)
   obtain rfl:=Xxa rfl
   revert h
   refine brI (fun h1988=>?_) fun h1988=>?_
   ·
    refine bI fun w2007 h2026=>?_
    intro h
    obtain⟨Xlt,Xtq⟩:=w2007
    try dsimp only at h
    refine X0l [Bt] ?_
    refine X3.joinOpF (fun(q:Nb Xlt)=>⟨fr [(12,(AV.ptr 0 0 0)),(13,AV.nils),(62,(AV.tup [(slE q.1 2 (Xlt.map X0d)),(aI .i64 Xtq)]))],hp ([(0,Ob [(X9 Xgp)] 11)]++opE q.1 2 2 (Xlt.map X0d)),3⟩) ?_ (fun J=>?_)
    ·
     rintro Xpe
     rcases Xpe with ⟨_|_,Xqz⟩
     ·
      revert h
      refine brI (fun h2027=>fun e=>oj e▸Xc [Bt] (k:=fi)) fun h2027=>bI fun e2028 h2029=>?_
      try have qh2029:=Xn h2029
      refine bI fun w2511 h2993=>?_
      intro h
      obtain⟨Xf4,Xtp⟩:=w2511
      try dsimp only at h
      refine X0l [Bf,.el (X0d e2028),.ld (X0d e2028)] ?_
      refine X3.joinOpF (fun(q:Nb Xf4)=>⟨fr [(75,(AV.tup [(slE q.1 0 (Xf4.map X9)),(aI .i64 Xtp)]))],hp ([]++opE q.1 0 11 (Xf4.map X9)),1⟩) ?_ (fun J=>?_)
      ·
       rintro Xpd
       rcases Xpd with ⟨_|_,Xqy⟩
       ·
        revert h
        exact brI (fun h2994=>fun e=>oj e▸Xc [Bt] (k:=fi)) fun h2994=>brI (fun h2995=>fun e=>oj e▸Xc [Bf,.el (aI .i64 (Xf4.length:Int)),Bt] (k:=fi)) fun h2995=>fun e=>oj e▸Xc [Bf,.el (aI .i64 (Xf4.length:Int)),Bf] (k:=fi)
       obtain rfl:=Xqy rfl
       revert h
       exact brI (fun h2996=>fun e=>oj e▸Xc [Bt] (k:=fi)) fun h2996=>brI (fun h2997=>fun e=>oj e▸Xc [Bf,.el (aI .i64 (List.length ([]:List Xa):Int)),Bt] (k:=fi)) fun h2997=>fun e=>oj e▸Xc [Bf,.el (aI .i64 (List.length ([]:List Xa):Int)),Bf] (k:=fi)
      clear h;revert h2993
      intro h
      refine X3.inline Xh fn82 rfl rfl rfl rfl rfl trivial trivial rfl rfl ?_
      revert h
      refine bI fun o2991 h2992=>rnI [] ?_
      intro h
      refine wkT [(4,3)] (X3.cut (X6a _ _ _ nbS _ h2992 ?_))
      intro X4w Xa8 X3i eo2991;subst eo2991
      refine X3.glue ?_
      try dsimp only at h
      rcases X3i with ⟨_|_,X8e⟩
      ·
       simp only[Option.some.injEq,Prod.mk.injEq] at h
       obtain⟨rfl,rfl⟩:=h
       refine X0l [] ?_
       refine X3.back (by intro id h;cases h) rfl ?_
       exact wkT [(0,3)] ((J nbF))
      obtain rfl:=X8e rfl
      simp only[Option.some.injEq,Prod.mk.injEq] at h
      obtain⟨rfl,rfl⟩:=h
      refine X0l [] ?_
      refine X3.back (by intro id h;cases h) rfl ?_
      exact wkT [] ((J nbS))
     obtain rfl:=Xqz rfl
     revert h
     refine brI (fun h2998=>fun e=>oj e▸Xc [Bt] (k:=fi)) fun h2998=>bI fun e2999 h3000=>?_
     try have qh3000:=Xn h3000
     intro h
     exact absurd (h3000) (by simp[X2c])
    clear h;revert h2026
    intro h
    refine X3.inline Xh fn81 rfl rfl rfl rfl rfl trivial trivial rfl rfl ?_
    revert h
    refine bI fun v2008 h2009=>brI (fun h2010=>?_) fun h2010=>?_
    ·
     intro h
     simp only[Option.some.injEq,Prod.mk.injEq] at h
     obtain⟨rfl,rfl⟩:=h
     refine X0l [.pure _ (aI .i64 v2008),Bt] ?_
     refine X3.back (by intro id h;cases h) rfl ?_
     exact wkT [(0,2)] ((J nbS))
    refine rnI [.pure _ (aI .i64 v2008),Bf,Bf] ?_
    intro h
    refine X3.round ?_
    revert h
    refine bI fun v2011 h2012=>brI (fun h2013=>?_) fun h2013=>?_
    ·
     intro h
     simp only[Option.some.injEq,Prod.mk.injEq] at h
     obtain⟨rfl,rfl⟩:=h
     refine X0l [Bt,.el ((aI .i64 a2.Time)),.pure _ (aI .i64 v2011),Bt] ?_
     refine X3.back (by intro id h;cases h) rfl ?_
     exact wkT [(0,2)] ((J nbS))
    refine rnI [Bt,.el ((aI .i64 a2.Time)),.pure _ (aI .i64 v2011),Bf,.wrap,.no] ?_
    intro h
    refine X3.round ?_
    refine X0l [Bf] ?_
    refine X3.inline Xh X062 rfl rfl rfl rfl rfl trivial trivial rfl rfl ?_
    refine X0l [] ?_
    refine X3.inline Xh X060 rfl rfl rfl rfl rfl trivial trivial rfl rfl ?_
    refine X0l [] ?_
    refine X3.eqNil Xh (may:=false) rfl rfl rfl rfl rfl rfl trivial rfl fun b2021 qb2021=>?_
    obtain rfl:=qb2021 rfl
    refine X0l [Bf,.no] ?_
    refine X3.back (by intro id h;cases h) rfl ?_
    refine X0l [] ?_
    refine X3.inline Xh X05z rfl rfl rfl rfl rfl trivial trivial rfl rfl ?_
    revert h
    refine bI fun v2024 h2025=>rnI [.wrap,.pure _ (aI .i64 v2024)] ?_
    intro h
    refine X3.inline Xh X05x rfl rfl rfl rfl rfl trivial trivial rfl rfl ?_
    refine X0l [] ?_
    refine X3.round ?_
    refine X0l [Bt] ?_
    refine X3.inline Xh X05v rfl rfl rfl rfl rfl trivial trivial rfl rfl ?_
    refine X0l [] ?_
    refine X3.round ?_
    refine X0l [Bf] ?_
    refine X3.back (by intro id h;cases h) rfl ?_
    refine X0l [] ?_
    refine X3.back (by intro id h;cases h) rfl ?_
    refine X0l [] ?_
    refine X3.back (by intro id h;cases h) rfl ?_
    refine X0l [] ?_
    refine X3.round ?_
    refine X0l [Bt,.el (AV.agg [(aI .i64 a2.Time),(aI .i64 (IntKind.i64.wrap (a2.Time+a1.Size)))]),.go false,.go false,.go false,.go false,.go false,.go false,.go false,.go false,.go false,.go false,Bf,.no] ?_
    refine X3.round ?_
    refine X0l [Bf] ?_
    refine X3.back (by intro id h;cases h) rfl ?_
    simp only[Option.some.injEq,Prod.mk.injEq] at h
    obtain⟨rfl,rfl⟩:=h
    refine X0l [] ?_
    refine X3.back (by intro id h;cases h) rfl ?_
    exact wkT [(0,2),(2,24)] ((J nbF))
   refine bI fun v3001 h3002=>brI (fun h3003=>fun e=>oj e▸Xc [Bf,.pure _ (AV.tup [(AV.list true (v3001.1.map X0d)),(aI .i64 v3001.2)]),Bt] (k:=fi)) fun h3003=>bI fun u3004 h3005=>?_
   have qh3005:=X0u h3005
   refine bI fun o3287 h3288=>rnI [Bf,.pure _ (AV.tup [(AV.list true (v3001.1.map X0d)),(aI .i64 v3001.2)]),Bf,.el (aI .i64 (v3001.1.length:Int))] ?_
   intro h
   refine wkT [(0,2)] (X3.cut (Xct v3001.1 qh3005 v3001.1 0 (by simp) _ _ nbS _ h3288 ?_ ?_))
   ·
    intro X02 X0i eo3287;subst eo3287
    refine X3.glue ?_
    try dsimp only at h
    rcases X0i with ⟨_|_,X2q⟩
    ·
     revert h
     exact brI (fun h3289=>fun e=>oj e▸Xc [.el (aI .i64 (X02.length:Int)),Bt] (k:=fi)) fun h3289=>fun e=>oj e▸Xc [.el (aI .i64 (X02.length:Int)),Bf] (k:=fi)
    obtain rfl:=X2q rfl
    revert h
    exact brI (fun h3290=>fun e=>oj e▸Xc [.el (aI .i64 (List.length ([]:List Xa):Int)),Bt] (k:=fi)) fun h3290=>fun e=>oj e▸Xc [.el (aI .i64 (List.length ([]:List Xa):Int)),Bf] (k:=fi)
   intro X0k Xhm X0h eo3287;subst eo3287
   refine X3.glue ?_
   try dsimp only at h
   rcases X0h with ⟨_|_,X2p⟩
   ·
    revert h
    exact fun e=>oj e▸Xc [] (k:=fi)
   obtain rfl:=X2p rfl
   revert h
   exact fun e=>oj e▸Xc [] (k:=fi)
  clear h;revert h30
  intro h
  refine X3.inline Xh fn80 rfl rfl rfl rfl rfl trivial trivial rfl rfl ?_
  revert h
  refine brI (fun q=>?_) fun q=>?_
  ·
   intro h
   have h25:a0=[]:=List.isEmpty_iff.1 q
   refine X0l [] ?_
   refine X3.eqNil Xh (may:=true) rfl rfl rfl rfl rfl rfl trivial (by simp[Xk7, *]) fun b26 qb26=>?_
   cases b26
   ·
    obtain rfl:=oj h
    refine X0l [Bf,.ne false] ?_
    refine X3.back (by intro id h;cases h) rfl ?_
    exact wkT [] ((J nbS))
   obtain rfl:=oj h
   refine X0l [Bt] ?_
   refine X3.back (by intro id h;cases h) rfl ?_
   exact wkT [] ((J nbS))
  intro h
  have h25:¬ (a0=[]):=(fun e=>by rw[e] at q;cases q)
  refine X0l [] ?_
  refine X3.eqNil Xh (may:=false) rfl rfl rfl rfl rfl rfl trivial (by simp[Xk7, *]) fun b27 qb27=>?_
  obtain rfl:=qb27 rfl
  revert h
  refine bI fun u28 h29=>?_
  intro h
  obtain rfl:=oj h
  refine X0l [Bf,.via (AV.list true (a0.map X9))] (o:=by repeat' first|apply Ya|exact pcM|(refine X8 h29 rfl ?_;first|(simp;done)|(simp;omega)|(simp[h3,h6,h7,h8,h25];done)|(simp[h3,h6,h7,h8,h25];omega))|(refine X2 h29 (by decide) ?_;first|(simp;done)|(simp;omega)|(simp[h3,h6,h7,h8,h25];done)|(simp[h3,h6,h7,h8,h25];omega))|exact Xw) ?_
  refine X3.back (by intro id h;cases h) rfl ?_
  exact wkT [(3,4)] ((J nbF))
 clear h;revert h18
 refine bI fun v14 h15=>brI (fun h16=>?_) fun h16=>?_
 ·
  intro h
  obtain rfl:=oj h
  exact Xc [.pure _ (X19 v14),.ix 0] (o:=by repeat' first|apply Ya|exact pcM|exact((eq_of_beq h16))|exact Xw) (k:=wkT [] (X3.glue J))
 refine brI (fun h17=>?_) fun h17=>?_
 ·
  intro h
  obtain rfl:=oj h
  exact Xc [.pure _ (X19 v14),.ix 1] (o:=by repeat' first|apply Ya|exact pcM|exact((eq_of_beq h17))|exact Xw) (k:=wkT [] (X3.glue J))
 intro h
 cases h⟩
instance Xyb:PCs Tryz.prog 85 (∀ (a0:Int) (a1:X1k) (r:Int×Int),X76 a0 a1=some r->X11 Tryz.prog 85 [(aI .u8 a0),(X19 a1)] (AV.tup [(aI .i64 r.1),(aI .i64 r.2)])):=⟨fun a0 a1 r h=>by
 refine X11.sym Xh fn85 (nt:=34) rfl rfl ?_ okM
 unfold X76 at h
 revert h
 refine brI (fun h1=>fun e=>oj e▸Xc [Bt] (k:=fi)) fun h1=>bI fun v2 h3=>brI (fun h4=>fun e=>oj e▸Xc [Bf,.pure _ (aI .i64 v2),Bt] (k:=fi)) fun h4=>brI (fun h5=>fun e=>oj e▸Xc [Bf,.pure _ (aI .i64 v2),Bf,Bt] (k:=fi)) fun h5=>bI fun X03u h17=>rnI [Bf,.pure _ (aI .i64 v2),Bf,Bf,.stop 9] ?_
 intro h
 refine X3.join (s':=⟨fr [(4,(aI .i64 X03u)),(5,(aI .i64 0))],hp ([]),0⟩) ?_ (fun J=>X3.cut ?_)
 ·
  revert h
  exact fun e=>oj e▸Xc [] (k:=fi)
 clear h;revert h17
 refine brI (fun h12=>?_) fun h12=>?_
 ·
  intro h
  obtain rfl:=oj h
  exact Xc [.ix 0] (o:=by repeat' first|apply Ya|exact pcM|exact((eq_of_beq h12))|exact Xw) (k:=wkT [] (X3.glue J))
 refine brI (fun h13=>?_) fun h13=>?_
 ·
  intro h
  obtain rfl:=oj h
  exact Xc [.ix 1] (o:=by repeat' first|apply Ya|exact pcM|exact((eq_of_beq h13))|exact Xw) (k:=wkT [] (X3.glue J))
 refine brI (fun h14=>?_) fun h14=>?_
 ·
  intro h
  obtain rfl:=oj h
  exact Xc [.ix 2] (o:=by repeat' first|apply Ya|exact pcM|exact((eq_of_beq h14))|exact Xw) (k:=wkT [] (X3.glue J))
 refine brI (fun h15=>?_) fun h15=>?_
 ·
  intro h
  obtain rfl:=oj h
  exact Xc [.ix 3] (o:=by repeat' first|apply Ya|exact pcM|exact((eq_of_beq h15))|exact Xw) (k:=wkT [] (X3.glue J))
 refine brI (fun h16=>?_) fun h16=>?_
 ·
  intro h
  obtain rfl:=oj h
  exact Xc [.ix 4] (o:=by repeat' first|apply Ya|exact pcM|exact((eq_of_beq h16))|exact Xw) (k:=wkT [] (X3.glue J))
 intro h
 cases h⟩
instance Xz4:PCs Tryz.prog 52 (∀ (a0:X03) (a1:Xa) (r:X2u×Bool),X9x a0 a1=some r->X11 Tryz.prog 52 [(Xl false a0),(X9 a1)] (AV.tup [(Xg r.1),(aB r.2)])):=⟨fun a0 a1 r h=>by
 refine X11.sym Xh fn52 (nt:=44) rfl rfl ?_ okM
 unfold X9x at h
 refine X0l [] ?_
 refine X3.round ?_
 revert h
 refine bI fun v3 h4=>brI (fun h5=>fun e=>oj e▸Xc [Bt,.go false,.go false,.go false,Bf,.ix 0,.pure _ (AV.tup [(aI .i64 v3.1),(aI .i64 v3.2)]),Bt] (k:=fi)) fun h5=>rnI [Bt,.go false,.go false,.go false,Bf,.ix 0,.pure _ (AV.tup [(aI .i64 v3.1),(aI .i64 v3.2)]),Bf,.ix 0] ?_
 intro h
 refine X3.round ?_
 revert h
 refine brI (fun h6=>fun e=>oj e▸Xc [Bt,.go true,.go true,.go true,Bt] (k:=fi)) fun h6=>bI fun v9 h10=>brI (fun h11=>fun e=>oj e▸Xc [Bt,.go true,.go true,.go true,Bf,.ix 1,.pure _ (AV.tup [(aI .i64 v9.1),(aI .i64 v9.2)]),Bt] (k:=fi)) fun h11=>rnI [Bt,.go true,.go true,.go true,Bf,.ix 1,.pure _ (AV.tup [(aI .i64 v9.1),(aI .i64 v9.2)]),Bf,.ix 1] ?_
 intro h
 refine X3.round ?_
 revert h
 exact fun e=>oj e▸Xc [Bf] (k:=fi)⟩
theorem X66 {Q:X07->St->Mu->Prop} {μ:Mu} (X6:X03) (X3v:(List Xm)) (Xml:Int) (Xmk:(List (List Xb))) (Xmj:Int) (Xmi:Int) (Xek:(List Xm)) (X3p:Nb X3v) (hl:Xek.length<=140737488355328):∀ (xs:List Xm) (k:Nat) (hx:Xek.drop k=xs) (Xhn:(List Xa)) (o:X6o) (h:X2s X6 X3v Xml Xmk Xmj Xmi Xek xs k Xhn=some o)
  (C0:∀ (X9b:(List Xa)) (X22:(List Xm)) (X1i:Nb X22),o=X6o.x0 X9b X22->X3 Tryz.prog 119 0 Q (.exit (.exit 2)) [] ⟨fr [(2,(AV.ptr 0 0 0)),(10,(AV.list true (X9b.map X9))),(11,(slE X1i.1 1 (X22.map X7))),(46,(Lf (List.map (X0e false X0) Xmk))),(47,(aI .i64 Xmj)),(48,(aI .i64 Xmi))],hp ([(0,Ob [(Xl false X6)] 10)]++opE X1i.1 1 3 (X22.map X7)),2⟩ μ)
  (C1:∀ (X7z:(List X2u)) (X7y:(List Xm)) (Xcm:Int) (X5c:Nb X7z) (X30:Nb X7y),o=X6o.x1 X7z X7y Xcm->X3 Tryz.prog 119 0 Q (.exit .ret) [] ⟨fr [(4,(slE X5c.1 0 (X7z.map Xg))),(5,(slE X30.1 1 (X7y.map X7))),(6,(aI .i64 Xcm))],hp ([]++opE X5c.1 0 5 (X7z.map Xg)++opE X30.1 1 3 (X7y.map X7)),2⟩ μ),
  X3 Tryz.prog 119 0 Q (.loop (X4t 1 (Xu Tryz.f19))) [] ⟨fr [(2,(AV.ptr 0 0 0)),(10,(AV.list true (Xhn.map X9))),(11,(slE X3p.1 1 (X3v.map X7))),(12,(aI .i64 Xml)),(46,(Lf (List.map (X0e false X0) Xmk))),(47,(aI .i64 Xmj)),(48,(aI .i64 Xmi)),(65,(AV.list true (Xek.map X7))),(66,(aI .i64 (Xek.length:Int))),(67,(aI .i64 (k:Int)))],hp ([(0,Ob [(Xl false X6)] 10)]++opE X3p.1 1 3 (X3v.map X7)),2⟩ μ:=by
 intro xs
 induction xs with
 |nil =>
  intro k hx Xhn o h C0 C1
  have hk:=X1e hx
  have hc:decide ((k:Int)<(Xek.length:Int))=false:=Yf (by omega)
  rw[X2s] at h
  rcases X3p with ⟨_|_,X7i⟩
  ·
   refine X3.round ?_
   revert h
   exact fun e=>Xc [Bf] (k:=wkT [] (C0 _ _  nbF (oj e).symm))
  ·
   obtain rfl:=X7i rfl
   refine X3.round ?_
   revert h
   exact fun e=>Xc [Bf] (k:=wkT [] (C0 _ _  nbS (oj e).symm))
 |cons x xs ih =>
  intro k hx Xhn o h C0 C1
  obtain⟨hk,hg,hx1⟩:=X0t hx
  have hc:decide ((k:Int)<(Xek.length:Int))=true:=Yt (by omega)
  rw[X2s] at h
  rcases X3p with ⟨_|_,X7i⟩
  ·
   refine X3.round ?_
   revert h
   refine bI fun v482 h483=>brI (fun h484=>?_) fun h484=>?_
   ·
    refine rnI [Bt,.el (X7 x),.pure _ (AV.tup [(X7 v482.1),(aB v482.2)]),Bt] ?_
    intro h
    exact wkT [] (ih (k+1) hx1 _ o h C0 C1)
   refine bI fun Xq1 h488=>rnI [Bt,.el (X7 x),.pure _ (AV.tup [(X7 v482.1),(aB v482.2)]),Bf] ?_
   intro h
   refine X3.join (s':=⟨fr [(2,(AV.ptr 0 0 0)),(10,(AV.list true (Xhn.map X9))),(11,(AV.ref 1 0 (X3v.length))),(12,(aI .i64 Xml)),(19,(AV.ptr 2 0 0)),(21,(aI .i64 Xq1)),(46,(Lf (List.map (X0e false X0) Xmk))),(47,(aI .i64 Xmj)),(48,(aI .i64 Xmi)),(65,(AV.list true (Xek.map X7))),(66,(aI .i64 (Xek.length:Int))),(67,(aI .i64 (k:Int)))],hp ([(0,Ob [(Xl false X6)] 10),(1,Ob (X3v.map X7) 3),(2,Ob [(X7 v482.1)] 3)]),3⟩) ?_ (fun J=>X3.cut ?_)
   ·
    revert h
    refine bI fun v489 h490=>brI (fun h491=>fun e=>Xc [.pure _ (AV.tup [(AV.list true (v489.1.map X9)),(aI .i64 v489.2)]),Bt] (k:=wkT [] (C1 _ _ _  nbS nbS (oj e).symm))) fun h491=>rnI [.pure _ (AV.tup [(AV.list true (v489.1.map X9)),(aI .i64 v489.2)]),Bf] ?_
    intro h
    exact wkT [] (ih (k+1) hx1 _ o h C0 C1)
   clear h;revert h488
   refine brI (fun h487=>?_) fun h487=>?_
   ·
    intro h
    obtain rfl:=oj h
    exact Xc [Bt] (k:=wkT [(2,3)] (X3.glue J))
   intro h
   obtain rfl:=oj h
   exact Xc [Bf] (k:=wkT [(2,3)] (X3.glue J))
  obtain rfl:=X7i rfl
  refine X3.round ?_
  revert h
  refine bI fun v492 h493=>brI (fun h494=>?_) fun h494=>?_
  ·
   refine rnI [Bt,.el (X7 x),.pure _ (AV.tup [(X7 v492.1),(aB v492.2)]),Bt] ?_
   intro h
   exact wkT [] (ih (k+1) hx1 _ o h C0 C1)
  refine bI fun X03g h498=>rnI [Bt,.el (X7 x),.pure _ (AV.tup [(X7 v492.1),(aB v492.2)]),Bf] ?_
  intro h
  refine X3.join (s':=⟨fr [(2,(AV.ptr 0 0 0)),(10,(AV.list true (Xhn.map X9))),(11,AV.nils),(12,(aI .i64 Xml)),(19,(AV.ptr 2 0 0)),(21,(aI .i64 X03g)),(46,(Lf (List.map (X0e false X0) Xmk))),(47,(aI .i64 Xmj)),(48,(aI .i64 Xmi)),(65,(AV.list true (Xek.map X7))),(66,(aI .i64 (Xek.length:Int))),(67,(aI .i64 (k:Int)))],hp ([(0,Ob [(Xl false X6)] 10),(2,Ob [(X7 v492.1)] 3)]),3⟩) ?_ (fun J=>X3.cut ?_)
  ·
   revert h
   refine bI fun v499 h500=>brI (fun h501=>fun e=>Xc [.pure _ (AV.tup [(AV.list true (v499.1.map X9)),(aI .i64 v499.2)]),Bt] (k:=wkT [] (C1 _ _ _  nbS nbS (oj e).symm))) fun h501=>rnI [.pure _ (AV.tup [(AV.list true (v499.1.map X9)),(aI .i64 v499.2)]),Bf] ?_
   intro h
   exact wkT [] (ih (k+1) hx1 _ o h C0 C1)
  clear h;revert h498
  refine brI (fun h497=>?_) fun h497=>?_
  ·
   intro h
   obtain rfl:=oj h
   exact Xc [Bt] (k:=wkT [(2,3)] (X3.glue J))
  intro h
  obtain rfl:=oj h
  exact Xc [Bf] (k:=wkT [(2,3)] (X3.glue J))
end Go.Av.Tryz