/- Printed by decomp.py: that the program computes the functions. -/
import Derived.Test.YtfdfgobnpnoomaaGreatDCert7Z
set_option linter.all false

namespace Go.Av.Tryz
open Go.Proofs Go.D
set_option maxRecDepth 10000
set_option maxHeartbeats 40000000
instance Xew:PCs Tryz.prog 51 (∀ (a0:(List X5)) (a1:X0l) (a2:Xb) (a3:Int) (r:(List X5)×Int),X7k a0 a1 a2 a3=some r->X0o Tryz.prog 51 [(Lf (a0.map X4)),(X30 a1),(X3 a2),(aI .i64 a3)] (AV.tup [(AV.list true (r.1.map X4)),(aI .i64 r.2)])):=⟨fun a0 a1 a2 a3 r h=>by
 refine X0o.sym X9 fn51 (nt:=112) rfl rfl ?_ okM
 unfold X7k at h
 revert h
 refine bI fun v1 h2=>brI (fun h3=>fun e=>oj e▸X8 [.pure _ (aI .i64 v1),Bt] (k:=fi)) fun h3=>bI fun v4 h5=>brI (fun h6=>fun e=>oj e▸X8 [.pure _ (aI .i64 v1),Bf,.pure _ (aI .i64 v4),Bt] (k:=fi)) fun h6=>brI (fun h7=>fun e=>oj e▸X8 [.pure _ (aI .i64 v1),Bf,.pure _ (aI .i64 v4),Bf,Bt] (k:=fi)) fun h7=>brI (fun h8=>fun e=>oj e▸X8 [.pure _ (aI .i64 v1),Bf,.pure _ (aI .i64 v4),Bf,Bf,Bt] (k:=fi)) fun h8=>bI fun Xf4 h18=>rnI [.pure _ (aI .i64 v1),Bf,.pure _ (aI .i64 v4),Bf,Bf,Bf,.stop 12] ?_
 intro h
 refine X2.join (s':=⟨fr [(0,(Lf (a0.map X4))),(5,(AV.ptr 0 0 0)),(6,(AV.ptr 1 0 0)),(12,(AV.ptr 2 0 0))],hp ([(0,Ob [(X30 a1)] 3),(1,Ob [(X3 a2)] 3),(2,Ob [(X4 Xf4)] 11)]),3⟩) ?_ (fun J=>X2.cut ?_)
 ·
  revert h
  refine bI fun Xf3 h30=>rnI [] ?_
  intro h
  refine X2.joinOpF (fun(q:Nb Xf3)=>⟨fr [(5,(AV.ptr 0 0 0)),(6,(AV.ptr 1 0 0)),(12,(AV.ptr 2 0 0)),(52,(slE q.1 3 (Xf3.map X4)))],hp ([(0,Ob [(X30 a1)] 3),(1,Ob [(X3 a2)] 3),(2,Ob [(X4 Xf4)] 11)]++opE q.1 3 11 (Xf3.map X4)),4⟩) ?_ (fun J=>?_)
  ·
   rintro Xtt
   rcases Xtt with ⟨_|_,Xun⟩
   ·
    revert h
    refine brI (fun h31=>?_) fun h31=>?_
    ·
     refine bI fun w50 h69=>?_
     intro h
     obtain⟨Xu7,Xxh⟩:=w50
     try dsimp only at h
     refine X0y [Bt] ?_
     refine X2.joinOpF (fun(q:Nb Xu7)=>⟨fr [(12,(AV.ptr 0 0 0)),(13,(AV.ref 1 0 (Xf3.length))),(62,(AV.tup [(slE q.1 2 (Xu7.map X00)),(aI .i64 Xxh)]))],hp ([(0,Ob [(X4 Xf4)] 11),(1,Ob (Xf3.map X4) 11)]++opE q.1 2 2 (Xu7.map X00)),3⟩) ?_ (fun J=>?_)
     ·
      rintro Xtq
      rcases Xtq with ⟨_|_,Xuk⟩
      ·
       revert h
       refine brI (fun h70=>fun e=>oj e▸X8 [Bt] (k:=fi)) fun h70=>bI fun e71 h72=>?_
       try have qh72:=Xp h72
       refine bI fun w811 h1550=>?_
       intro h
       obtain⟨Xhd,Xu4⟩:=w811
       try dsimp only at h
       refine X0y [Bf,.el (X00 e71),.ld (X00 e71)] ?_
       refine X2.joinOpF (fun(q:Nb Xhd)=>⟨fr [(75,(AV.tup [(slE q.1 0 (Xhd.map X4)),(aI .i64 Xu4)]))],hp ([]++opE q.1 0 11 (Xhd.map X4)),1⟩) ?_ (fun J=>?_)
       ·
        rintro Xqq
        rcases Xqq with ⟨_|_,Xrh⟩
        ·
         revert h
         exact brI (fun h1551=>fun e=>oj e▸X8 [Bt] (k:=fi)) fun h1551=>brI (fun h1552=>fun e=>oj e▸X8 [Bf,.el (aI .i64 (Xhd.length:Int)),Bt] (k:=fi)) fun h1552=>fun e=>oj e▸X8 [Bf,.el (aI .i64 (Xhd.length:Int)),Bf] (k:=fi)
        obtain rfl:=Xrh rfl
        revert h
        exact brI (fun h1553=>fun e=>oj e▸X8 [Bt] (k:=fi)) fun h1553=>brI (fun h1554=>fun e=>oj e▸X8 [Bf,.el (aI .i64 (List.length ([]:List X5):Int)),Bt] (k:=fi)) fun h1554=>fun e=>oj e▸X8 [Bf,.el (aI .i64 (List.length ([]:List X5):Int)),Bf] (k:=fi)
       clear h;revert h1550
       intro h
       refine X2.inline X9 fn82 rfl rfl rfl rfl rfl trivial trivial rfl rfl ?_
       revert h
       refine bI fun o1548 h1549=>rnI [] ?_
       intro h
       refine wkT [(3,1),(4,3)] (X2.cut (X56 _ _ _ nbF _ h1549 ?_))
       intro X1y X94 X13 eo1548;subst eo1548
       refine X2.glue ?_
       try dsimp only at h
       rcases X13 with ⟨_|_,X2c⟩
       ·
        simp only[Option.some.injEq,Prod.mk.injEq] at h
        obtain⟨rfl,rfl⟩:=h
        refine X0y [] ?_
        refine X2.back (by intro id h;cases h) rfl ?_
        exact wkT [(0,3)] ((J nbF))
       obtain rfl:=X2c rfl
       simp only[Option.some.injEq,Prod.mk.injEq] at h
       obtain⟨rfl,rfl⟩:=h
       refine X0y [] ?_
       refine X2.back (by intro id h;cases h) rfl ?_
       exact wkT [] ((J nbS))
      obtain rfl:=Xuk rfl
      revert h
      refine brI (fun h1555=>fun e=>oj e▸X8 [Bt] (k:=fi)) fun h1555=>bI fun e1556 h1557=>?_
      try have qh1557:=Xp h1557
      intro h
      exact absurd (h1557) (by simp[X1w])
     clear h;revert h69
     intro h
     refine X2.inline X9 fn81 rfl rfl rfl rfl rfl trivial trivial rfl rfl ?_
     revert h
     refine bI fun v51 h52=>brI (fun h53=>?_) fun h53=>?_
     ·
      intro h
      simp only[Option.some.injEq,Prod.mk.injEq] at h
      obtain⟨rfl,rfl⟩:=h
      refine X0y [.pure _ (aI .i64 v51),Bt] ?_
      refine X2.back (by intro id h;cases h) rfl ?_
      exact wkT [(0,2),(1,3)] ((J nbS))
     refine rnI [.pure _ (aI .i64 v51),Bf,Bf] ?_
     intro h
     refine X2.round ?_
     revert h
     refine bI fun v54 h55=>brI (fun h56=>?_) fun h56=>?_
     ·
      intro h
      simp only[Option.some.injEq,Prod.mk.injEq] at h
      obtain⟨rfl,rfl⟩:=h
      refine X0y [Bt,.el ((aI .i64 a2.Time)),.pure _ (aI .i64 v54),Bt] ?_
      refine X2.back (by intro id h;cases h) rfl ?_
      exact wkT [(0,2),(1,3)] ((J nbS))
     refine rnI [Bt,.el ((aI .i64 a2.Time)),.pure _ (aI .i64 v54),Bf,.wrap,.no] ?_
     intro h
     refine X2.round ?_
     refine X0y [Bf] ?_
     refine X2.inline X9 X03n rfl rfl rfl rfl rfl trivial trivial rfl rfl ?_
     refine X0y [] ?_
     refine X2.inline X9 X03l rfl rfl rfl rfl rfl trivial trivial rfl rfl ?_
     refine X0y [] ?_
     refine X2.eqNil X9 (may:=false) rfl rfl rfl rfl rfl rfl trivial rfl fun b64 qb64=>?_
     obtain rfl:=qb64 rfl
     refine X0y [Bf,.no] ?_
     refine X2.back (by intro id h;cases h) rfl ?_
     refine X0y [] ?_
     refine X2.inline X9 X03k rfl rfl rfl rfl rfl trivial trivial rfl rfl ?_
     revert h
     refine bI fun v67 h68=>rnI [.wrap,.pure _ (aI .i64 v67)] ?_
     intro h
     refine X2.inline X9 X03i rfl rfl rfl rfl rfl trivial trivial rfl rfl ?_
     refine X0y [] ?_
     refine X2.round ?_
     refine X0y [Bt] ?_
     refine X2.inline X9 X03g rfl rfl rfl rfl rfl trivial trivial rfl rfl ?_
     refine X0y [] ?_
     refine X2.round ?_
     refine X0y [Bf] ?_
     refine X2.back (by intro id h;cases h) rfl ?_
     refine X0y [] ?_
     refine X2.back (by intro id h;cases h) rfl ?_
     refine X0y [] ?_
     refine X2.back (by intro id h;cases h) rfl ?_
     refine X0y [] ?_
     refine X2.round ?_
     refine X0y [Bt,.el (AV.agg [(aI .i64 a2.Time),(aI .i64 (IntKind.i64.wrap (a2.Time+a1.Size)))]),.go false,.go false,.go false,.go false,.go false,.go false,.go false,.go false,.go false,.go false,Bf,.no] ?_
     refine X2.round ?_
     refine X0y [Bf] ?_
     refine X2.back (by intro id h;cases h) rfl ?_
     simp only[Option.some.injEq,Prod.mk.injEq] at h
     obtain⟨rfl,rfl⟩:=h
     refine X0y [] ?_
     refine X2.back (by intro id h;cases h) rfl ?_
     exact wkT [(0,2),(1,3),(2,24)] ((J nbF))
    refine bI fun v1558 h1559=>brI (fun h1560=>fun e=>oj e▸X8 [Bf,.pure _ (AV.tup [(AV.list true (v1558.1.map X00)),(aI .i64 v1558.2)]),Bt] (k:=fi)) fun h1560=>bI fun u1561 h1562=>?_
    have qh1562:=X09 h1562
    refine bI fun o1984 h1985=>rnI [Bf,.pure _ (AV.tup [(AV.list true (v1558.1.map X00)),(aI .i64 v1558.2)]),Bf,.el (aI .i64 (v1558.1.length:Int))] ?_
    intro h
    refine wkT [(0,2),(1,3)] (X2.cut (Xbj v1558.1 qh1562 v1558.1 0 (by simp) _ _ nbF _ h1985 ?_ ?_))
    ·
     intro Xr X03 eo1984;subst eo1984
     refine X2.glue ?_
     try dsimp only at h
     rcases X03 with ⟨_|_,X2e⟩
     ·
      revert h
      exact brI (fun h1986=>fun e=>oj e▸X8 [.el (aI .i64 (Xr.length:Int)),Bt] (k:=fi)) fun h1986=>fun e=>oj e▸X8 [.el (aI .i64 (Xr.length:Int)),Bf] (k:=fi)
     obtain rfl:=X2e rfl
     revert h
     exact brI (fun h1987=>fun e=>oj e▸X8 [.el (aI .i64 (List.length ([]:List X5):Int)),Bt] (k:=fi)) fun h1987=>fun e=>oj e▸X8 [.el (aI .i64 (List.length ([]:List X5):Int)),Bf] (k:=fi)
    intro X04 Xg8 X02 eo1984;subst eo1984
    refine X2.glue ?_
    try dsimp only at h
    rcases X02 with ⟨_|_,X2b⟩
    ·
     revert h
     exact fun e=>oj e▸X8 [] (k:=fi)
    obtain rfl:=X2b rfl
    revert h
    exact fun e=>oj e▸X8 [] (k:=fi)
   obtain rfl:=Xun rfl
   revert h
   refine brI (fun h1988=>?_) fun h1988=>?_
   ·
    refine bI fun w2007 h2026=>?_
    intro h
    obtain⟨Xka,Xr9⟩:=w2007
    try dsimp only at h
    refine X0y [Bt] ?_
    refine X2.joinOpF (fun(q:Nb Xka)=>⟨fr [(12,(AV.ptr 0 0 0)),(13,AV.nils),(62,(AV.tup [(slE q.1 2 (Xka.map X00)),(aI .i64 Xr9)]))],hp ([(0,Ob [(X4 Xf4)] 11)]++opE q.1 2 2 (Xka.map X00)),3⟩) ?_ (fun J=>?_)
    ·
     rintro Xn7
     rcases Xn7 with ⟨_|_,Xoh⟩
     ·
      revert h
      refine brI (fun h2027=>fun e=>oj e▸X8 [Bt] (k:=fi)) fun h2027=>bI fun e2028 h2029=>?_
      try have qh2029:=Xp h2029
      refine bI fun w2511 h2993=>?_
      intro h
      obtain⟨Xdl,Xr8⟩:=w2511
      try dsimp only at h
      refine X0y [Bf,.el (X00 e2028),.ld (X00 e2028)] ?_
      refine X2.joinOpF (fun(q:Nb Xdl)=>⟨fr [(75,(AV.tup [(slE q.1 0 (Xdl.map X4)),(aI .i64 Xr8)]))],hp ([]++opE q.1 0 11 (Xdl.map X4)),1⟩) ?_ (fun J=>?_)
      ·
       rintro Xn6
       rcases Xn6 with ⟨_|_,Xog⟩
       ·
        revert h
        exact brI (fun h2994=>fun e=>oj e▸X8 [Bt] (k:=fi)) fun h2994=>brI (fun h2995=>fun e=>oj e▸X8 [Bf,.el (aI .i64 (Xdl.length:Int)),Bt] (k:=fi)) fun h2995=>fun e=>oj e▸X8 [Bf,.el (aI .i64 (Xdl.length:Int)),Bf] (k:=fi)
       obtain rfl:=Xog rfl
       revert h
       exact brI (fun h2996=>fun e=>oj e▸X8 [Bt] (k:=fi)) fun h2996=>brI (fun h2997=>fun e=>oj e▸X8 [Bf,.el (aI .i64 (List.length ([]:List X5):Int)),Bt] (k:=fi)) fun h2997=>fun e=>oj e▸X8 [Bf,.el (aI .i64 (List.length ([]:List X5):Int)),Bf] (k:=fi)
      clear h;revert h2993
      intro h
      refine X2.inline X9 fn82 rfl rfl rfl rfl rfl trivial trivial rfl rfl ?_
      revert h
      refine bI fun o2991 h2992=>rnI [] ?_
      intro h
      refine wkT [(4,3)] (X2.cut (X56 _ _ _ nbS _ h2992 ?_))
      intro X1y X94 X13 eo2991;subst eo2991
      refine X2.glue ?_
      try dsimp only at h
      rcases X13 with ⟨_|_,X2c⟩
      ·
       simp only[Option.some.injEq,Prod.mk.injEq] at h
       obtain⟨rfl,rfl⟩:=h
       refine X0y [] ?_
       refine X2.back (by intro id h;cases h) rfl ?_
       exact wkT [(0,3)] ((J nbF))
      obtain rfl:=X2c rfl
      simp only[Option.some.injEq,Prod.mk.injEq] at h
      obtain⟨rfl,rfl⟩:=h
      refine X0y [] ?_
      refine X2.back (by intro id h;cases h) rfl ?_
      exact wkT [] ((J nbS))
     obtain rfl:=Xoh rfl
     revert h
     refine brI (fun h2998=>fun e=>oj e▸X8 [Bt] (k:=fi)) fun h2998=>bI fun e2999 h3000=>?_
     try have qh3000:=Xp h3000
     intro h
     exact absurd (h3000) (by simp[X1w])
    clear h;revert h2026
    intro h
    refine X2.inline X9 fn81 rfl rfl rfl rfl rfl trivial trivial rfl rfl ?_
    revert h
    refine bI fun v2008 h2009=>brI (fun h2010=>?_) fun h2010=>?_
    ·
     intro h
     simp only[Option.some.injEq,Prod.mk.injEq] at h
     obtain⟨rfl,rfl⟩:=h
     refine X0y [.pure _ (aI .i64 v2008),Bt] ?_
     refine X2.back (by intro id h;cases h) rfl ?_
     exact wkT [(0,2)] ((J nbS))
    refine rnI [.pure _ (aI .i64 v2008),Bf,Bf] ?_
    intro h
    refine X2.round ?_
    revert h
    refine bI fun v2011 h2012=>brI (fun h2013=>?_) fun h2013=>?_
    ·
     intro h
     simp only[Option.some.injEq,Prod.mk.injEq] at h
     obtain⟨rfl,rfl⟩:=h
     refine X0y [Bt,.el ((aI .i64 a2.Time)),.pure _ (aI .i64 v2011),Bt] ?_
     refine X2.back (by intro id h;cases h) rfl ?_
     exact wkT [(0,2)] ((J nbS))
    refine rnI [Bt,.el ((aI .i64 a2.Time)),.pure _ (aI .i64 v2011),Bf,.wrap,.no] ?_
    intro h
    refine X2.round ?_
    refine X0y [Bf] ?_
    refine X2.inline X9 X03n rfl rfl rfl rfl rfl trivial trivial rfl rfl ?_
    refine X0y [] ?_
    refine X2.inline X9 X03l rfl rfl rfl rfl rfl trivial trivial rfl rfl ?_
    refine X0y [] ?_
    refine X2.eqNil X9 (may:=false) rfl rfl rfl rfl rfl rfl trivial rfl fun b2021 qb2021=>?_
    obtain rfl:=qb2021 rfl
    refine X0y [Bf,.no] ?_
    refine X2.back (by intro id h;cases h) rfl ?_
    refine X0y [] ?_
    refine X2.inline X9 X03k rfl rfl rfl rfl rfl trivial trivial rfl rfl ?_
    revert h
    refine bI fun v2024 h2025=>rnI [.wrap,.pure _ (aI .i64 v2024)] ?_
    intro h
    refine X2.inline X9 X03i rfl rfl rfl rfl rfl trivial trivial rfl rfl ?_
    refine X0y [] ?_
    refine X2.round ?_
    refine X0y [Bt] ?_
    refine X2.inline X9 X03g rfl rfl rfl rfl rfl trivial trivial rfl rfl ?_
    refine X0y [] ?_
    refine X2.round ?_
    refine X0y [Bf] ?_
    refine X2.back (by intro id h;cases h) rfl ?_
    refine X0y [] ?_
    refine X2.back (by intro id h;cases h) rfl ?_
    refine X0y [] ?_
    refine X2.back (by intro id h;cases h) rfl ?_
    refine X0y [] ?_
    refine X2.round ?_
    refine X0y [Bt,.el (AV.agg [(aI .i64 a2.Time),(aI .i64 (IntKind.i64.wrap (a2.Time+a1.Size)))]),.go false,.go false,.go false,.go false,.go false,.go false,.go false,.go false,.go false,.go false,Bf,.no] ?_
    refine X2.round ?_
    refine X0y [Bf] ?_
    refine X2.back (by intro id h;cases h) rfl ?_
    simp only[Option.some.injEq,Prod.mk.injEq] at h
    obtain⟨rfl,rfl⟩:=h
    refine X0y [] ?_
    refine X2.back (by intro id h;cases h) rfl ?_
    exact wkT [(0,2),(2,24)] ((J nbF))
   refine bI fun v3001 h3002=>brI (fun h3003=>fun e=>oj e▸X8 [Bf,.pure _ (AV.tup [(AV.list true (v3001.1.map X00)),(aI .i64 v3001.2)]),Bt] (k:=fi)) fun h3003=>bI fun u3004 h3005=>?_
   have qh3005:=X09 h3005
   refine bI fun o3287 h3288=>rnI [Bf,.pure _ (AV.tup [(AV.list true (v3001.1.map X00)),(aI .i64 v3001.2)]),Bf,.el (aI .i64 (v3001.1.length:Int))] ?_
   intro h
   refine wkT [(0,2)] (X2.cut (Xbj v3001.1 qh3005 v3001.1 0 (by simp) _ _ nbS _ h3288 ?_ ?_))
   ·
    intro Xr X03 eo3287;subst eo3287
    refine X2.glue ?_
    try dsimp only at h
    rcases X03 with ⟨_|_,X2e⟩
    ·
     revert h
     exact brI (fun h3289=>fun e=>oj e▸X8 [.el (aI .i64 (Xr.length:Int)),Bt] (k:=fi)) fun h3289=>fun e=>oj e▸X8 [.el (aI .i64 (Xr.length:Int)),Bf] (k:=fi)
    obtain rfl:=X2e rfl
    revert h
    exact brI (fun h3290=>fun e=>oj e▸X8 [.el (aI .i64 (List.length ([]:List X5):Int)),Bt] (k:=fi)) fun h3290=>fun e=>oj e▸X8 [.el (aI .i64 (List.length ([]:List X5):Int)),Bf] (k:=fi)
   intro X04 Xg8 X02 eo3287;subst eo3287
   refine X2.glue ?_
   try dsimp only at h
   rcases X02 with ⟨_|_,X2b⟩
   ·
    revert h
    exact fun e=>oj e▸X8 [] (k:=fi)
   obtain rfl:=X2b rfl
   revert h
   exact fun e=>oj e▸X8 [] (k:=fi)
  clear h;revert h30
  intro h
  refine X2.inline X9 fn80 rfl rfl rfl rfl rfl trivial trivial rfl rfl ?_
  revert h
  refine brI (fun q=>?_) fun q=>?_
  ·
   intro h
   have h25:a0=[]:=List.isEmpty_iff.1 q
   refine X0y [] ?_
   refine X2.eqNil X9 (may:=true) rfl rfl rfl rfl rfl rfl trivial (by simp[Xj6, *]) fun b26 qb26=>?_
   cases b26
   ·
    obtain rfl:=oj h
    refine X0y [Bf,.ne false] ?_
    refine X2.back (by intro id h;cases h) rfl ?_
    exact wkT [] ((J nbS))
   obtain rfl:=oj h
   refine X0y [Bt] ?_
   refine X2.back (by intro id h;cases h) rfl ?_
   exact wkT [] ((J nbS))
  intro h
  have h25:¬ (a0=[]):=(fun e=>by rw[e] at q;cases q)
  refine X0y [] ?_
  refine X2.eqNil X9 (may:=false) rfl rfl rfl rfl rfl rfl trivial (by simp[Xj6, *]) fun b27 qb27=>?_
  obtain rfl:=qb27 rfl
  revert h
  refine bI fun u28 h29=>?_
  intro h
  obtain rfl:=oj h
  refine X0y [Bf,.via (AV.list true (a0.map X4))] (o:=by repeat' first|apply Ya|exact pcM|(refine X0s h29 rfl ?_;first|(simp;done)|(simp;omega)|(simp[h3,h6,h7,h8,h25];done)|(simp[h3,h6,h7,h8,h25];omega))|(refine X01 h29 (by decide) ?_;first|(simp;done)|(simp;omega)|(simp[h3,h6,h7,h8,h25];done)|(simp[h3,h6,h7,h8,h25];omega))|exact X08) ?_
  refine X2.back (by intro id h;cases h) rfl ?_
  exact wkT [(3,4)] ((J nbF))
 clear h;revert h18
 refine bI fun v14 h15=>brI (fun h16=>?_) fun h16=>?_
 ·
  intro h
  obtain rfl:=oj h
  exact X8 [.pure _ (X0p v14),.ix 0] (o:=by repeat' first|apply Ya|exact pcM|exact((eq_of_beq h16))|exact X08) (k:=wkT [] (X2.glue J))
 refine brI (fun h17=>?_) fun h17=>?_
 ·
  intro h
  obtain rfl:=oj h
  exact X8 [.pure _ (X0p v14),.ix 1] (o:=by repeat' first|apply Ya|exact pcM|exact((eq_of_beq h17))|exact X08) (k:=wkT [] (X2.glue J))
 intro h
 cases h⟩
instance Xvo:PCs Tryz.prog 85 (∀ (a0:Int) (a1:X12) (r:Int×Int),X63 a0 a1=some r->X0o Tryz.prog 85 [(aI .u8 a0),(X0p a1)] (AV.tup [(aI .i64 r.1),(aI .i64 r.2)])):=⟨fun a0 a1 r h=>by
 refine X0o.sym X9 fn85 (nt:=34) rfl rfl ?_ okM
 unfold X63 at h
 revert h
 refine brI (fun h1=>fun e=>oj e▸X8 [Bt] (k:=fi)) fun h1=>bI fun v2 h3=>brI (fun h4=>fun e=>oj e▸X8 [Bf,.pure _ (aI .i64 v2),Bt] (k:=fi)) fun h4=>brI (fun h5=>fun e=>oj e▸X8 [Bf,.pure _ (aI .i64 v2),Bf,Bt] (k:=fi)) fun h5=>bI fun X01a h17=>rnI [Bf,.pure _ (aI .i64 v2),Bf,Bf,.stop 9] ?_
 intro h
 refine X2.join (s':=⟨fr [(4,(aI .i64 X01a)),(5,(aI .i64 0))],hp ([]),0⟩) ?_ (fun J=>X2.cut ?_)
 ·
  revert h
  exact fun e=>oj e▸X8 [] (k:=fi)
 clear h;revert h17
 refine brI (fun h12=>?_) fun h12=>?_
 ·
  intro h
  obtain rfl:=oj h
  exact X8 [.ix 0] (o:=by repeat' first|apply Ya|exact pcM|exact((eq_of_beq h12))|exact X08) (k:=wkT [] (X2.glue J))
 refine brI (fun h13=>?_) fun h13=>?_
 ·
  intro h
  obtain rfl:=oj h
  exact X8 [.ix 1] (o:=by repeat' first|apply Ya|exact pcM|exact((eq_of_beq h13))|exact X08) (k:=wkT [] (X2.glue J))
 refine brI (fun h14=>?_) fun h14=>?_
 ·
  intro h
  obtain rfl:=oj h
  exact X8 [.ix 2] (o:=by repeat' first|apply Ya|exact pcM|exact((eq_of_beq h14))|exact X08) (k:=wkT [] (X2.glue J))
 refine brI (fun h15=>?_) fun h15=>?_
 ·
  intro h
  obtain rfl:=oj h
  exact X8 [.ix 3] (o:=by repeat' first|apply Ya|exact pcM|exact((eq_of_beq h15))|exact X08) (k:=wkT [] (X2.glue J))
 refine brI (fun h16=>?_) fun h16=>?_
 ·
  intro h
  obtain rfl:=oj h
  exact X8 [.ix 4] (o:=by repeat' first|apply Ya|exact pcM|exact((eq_of_beq h16))|exact X08) (k:=wkT [] (X2.glue J))
 intro h
 cases h⟩
instance Xwh:PCs Tryz.prog 52 (∀ (a0:Xu) (a1:X5) (r:X3w×Bool),X8v a0 a1=some r->X0o Tryz.prog 52 [(Xq false a0),(X4 a1)] (AV.tup [(Xc r.1),(aB r.2)])):=⟨fun a0 a1 r h=>by
 refine X0o.sym X9 fn52 (nt:=44) rfl rfl ?_ okM
 unfold X8v at h
 refine X0y [] ?_
 refine X2.round ?_
 revert h
 refine bI fun v3 h4=>brI (fun h5=>fun e=>oj e▸X8 [Bt,.go false,.go false,.go false,Bf,.ix 0,.pure _ (AV.tup [(aI .i64 v3.1),(aI .i64 v3.2)]),Bt] (k:=fi)) fun h5=>rnI [Bt,.go false,.go false,.go false,Bf,.ix 0,.pure _ (AV.tup [(aI .i64 v3.1),(aI .i64 v3.2)]),Bf,.ix 0] ?_
 intro h
 refine X2.round ?_
 revert h
 refine brI (fun h6=>fun e=>oj e▸X8 [Bt,.go true,.go true,.go true,Bt] (k:=fi)) fun h6=>bI fun v9 h10=>brI (fun h11=>fun e=>oj e▸X8 [Bt,.go true,.go true,.go true,Bf,.ix 1,.pure _ (AV.tup [(aI .i64 v9.1),(aI .i64 v9.2)]),Bt] (k:=fi)) fun h11=>rnI [Bt,.go true,.go true,.go true,Bf,.ix 1,.pure _ (AV.tup [(aI .i64 v9.1),(aI .i64 v9.2)]),Bf,.ix 1] ?_
 intro h
 refine X2.round ?_
 revert h
 exact fun e=>oj e▸X8 [Bf] (k:=fi)⟩
theorem X52 {Q:Xy->St->Mu->Prop} {μ:Mu} (Xb8:Xu) (Xi4:(List Xb)) (Xcs:Int) (Xl2:(List (List Xg))) (Xl1:Int) (Xl0:Int) (Xd5:(List Xb)) (Xfz:Nb Xi4) (hl:Xd5.length<=140737488355328):∀ (xs:List Xb) (k:Nat) (hx:Xd5.drop k=xs) (Xga:(List X5)) (o:X5l) (h:X2g Xb8 Xi4 Xcs Xl2 Xl1 Xl0 Xd5 xs k Xga=some o)
  (C0:∀ (X8a:(List X5)) (X6w:(List Xb)) (X49:Nb X6w),o=X5l.x0 X8a X6w->X2 Tryz.prog 119 0 Q (.exit (.exit 2)) [] ⟨fr [(2,(AV.ptr 0 0 0)),(10,(AV.list true (X8a.map X4))),(11,(slE X49.1 1 (X6w.map X3))),(46,(Lf (List.map (X7p false Xa) Xl2))),(47,(aI .i64 Xl1)),(48,(aI .i64 Xl0))],hp ([(0,Ob [(Xq false Xb8)] 10)]++opE X49.1 1 3 (X6w.map X3)),2⟩ μ)
  (C1:∀ (X6v:(List X3w)) (X6u:(List Xb)) (Xbd:Int) (X48:Nb X6v) (X2k:Nb X6u),o=X5l.x1 X6v X6u Xbd->X2 Tryz.prog 119 0 Q (.exit .ret) [] ⟨fr [(4,(slE X48.1 0 (X6v.map Xc))),(5,(slE X2k.1 1 (X6u.map X3))),(6,(aI .i64 Xbd))],hp ([]++opE X48.1 0 5 (X6v.map Xc)++opE X2k.1 1 3 (X6u.map X3)),2⟩ μ),
  X2 Tryz.prog 119 0 Q (.loop (X4k 1 (Xl Tryz.f19))) [] ⟨fr [(2,(AV.ptr 0 0 0)),(10,(AV.list true (Xga.map X4))),(11,(slE Xfz.1 1 (Xi4.map X3))),(12,(aI .i64 Xcs)),(46,(Lf (List.map (X7p false Xa) Xl2))),(47,(aI .i64 Xl1)),(48,(aI .i64 Xl0)),(65,(AV.list true (Xd5.map X3))),(66,(aI .i64 (Xd5.length:Int))),(67,(aI .i64 (k:Int)))],hp ([(0,Ob [(Xq false Xb8)] 10)]++opE Xfz.1 1 3 (Xi4.map X3)),2⟩ μ:=by
 intro xs
 induction xs with
 |nil =>
  intro k hx Xga o h C0 C1
  have hk:=X18 hx
  have hc:decide ((k:Int)<(Xd5.length:Int))=false:=Yf (by omega)
  rw[X2g] at h
  rcases Xfz with ⟨_|_,Xkj⟩
  ·
   refine X2.round ?_
   revert h
   exact fun e=>X8 [Bf] (k:=wkT [] (C0 _ _  nbF (oj e).symm))
  ·
   obtain rfl:=Xkj rfl
   refine X2.round ?_
   revert h
   exact fun e=>X8 [Bf] (k:=wkT [] (C0 _ _  nbS (oj e).symm))
 |cons x xs ih =>
  intro k hx Xga o h C0 C1
  obtain⟨hk,hg,hx1⟩:=X0r hx
  have hc:decide ((k:Int)<(Xd5.length:Int))=true:=Yt (by omega)
  rw[X2g] at h
  rcases Xfz with ⟨_|_,Xkj⟩
  ·
   refine X2.round ?_
   revert h
   refine bI fun v482 h483=>brI (fun h484=>?_) fun h484=>?_
   ·
    refine rnI [Bt,.el (X3 x),.pure _ (AV.tup [(X3 v482.1),(aB v482.2)]),Bt] ?_
    intro h
    exact wkT [] (ih (k+1) hx1 _ o h C0 C1)
   refine bI fun Xnv h488=>rnI [Bt,.el (X3 x),.pure _ (AV.tup [(X3 v482.1),(aB v482.2)]),Bf] ?_
   intro h
   refine X2.join (s':=⟨fr [(2,(AV.ptr 0 0 0)),(10,(AV.list true (Xga.map X4))),(11,(AV.ref 1 0 (Xi4.length))),(12,(aI .i64 Xcs)),(19,(AV.ptr 2 0 0)),(21,(aI .i64 Xnv)),(46,(Lf (List.map (X7p false Xa) Xl2))),(47,(aI .i64 Xl1)),(48,(aI .i64 Xl0)),(65,(AV.list true (Xd5.map X3))),(66,(aI .i64 (Xd5.length:Int))),(67,(aI .i64 (k:Int)))],hp ([(0,Ob [(Xq false Xb8)] 10),(1,Ob (Xi4.map X3) 3),(2,Ob [(X3 v482.1)] 3)]),3⟩) ?_ (fun J=>X2.cut ?_)
   ·
    revert h
    refine bI fun v489 h490=>brI (fun h491=>fun e=>X8 [.pure _ (AV.tup [(AV.list true (v489.1.map X4)),(aI .i64 v489.2)]),Bt] (k:=wkT [] (C1 _ _ _  nbS nbS (oj e).symm))) fun h491=>rnI [.pure _ (AV.tup [(AV.list true (v489.1.map X4)),(aI .i64 v489.2)]),Bf] ?_
    intro h
    exact wkT [] (ih (k+1) hx1 _ o h C0 C1)
   clear h;revert h488
   refine brI (fun h487=>?_) fun h487=>?_
   ·
    intro h
    obtain rfl:=oj h
    exact X8 [Bt] (k:=wkT [(2,3)] (X2.glue J))
   intro h
   obtain rfl:=oj h
   exact X8 [Bf] (k:=wkT [(2,3)] (X2.glue J))
  obtain rfl:=Xkj rfl
  refine X2.round ?_
  revert h
  refine bI fun v492 h493=>brI (fun h494=>?_) fun h494=>?_
  ·
   refine rnI [Bt,.el (X3 x),.pure _ (AV.tup [(X3 v492.1),(aB v492.2)]),Bt] ?_
   intro h
   exact wkT [] (ih (k+1) hx1 _ o h C0 C1)
  refine bI fun X00p h498=>rnI [Bt,.el (X3 x),.pure _ (AV.tup [(X3 v492.1),(aB v492.2)]),Bf] ?_
  intro h
  refine X2.join (s':=⟨fr [(2,(AV.ptr 0 0 0)),(10,(AV.list true (Xga.map X4))),(11,AV.nils),(12,(aI .i64 Xcs)),(19,(AV.ptr 2 0 0)),(21,(aI .i64 X00p)),(46,(Lf (List.map (X7p false Xa) Xl2))),(47,(aI .i64 Xl1)),(48,(aI .i64 Xl0)),(65,(AV.list true (Xd5.map X3))),(66,(aI .i64 (Xd5.length:Int))),(67,(aI .i64 (k:Int)))],hp ([(0,Ob [(Xq false Xb8)] 10),(2,Ob [(X3 v492.1)] 3)]),3⟩) ?_ (fun J=>X2.cut ?_)
  ·
   revert h
   refine bI fun v499 h500=>brI (fun h501=>fun e=>X8 [.pure _ (AV.tup [(AV.list true (v499.1.map X4)),(aI .i64 v499.2)]),Bt] (k:=wkT [] (C1 _ _ _  nbS nbS (oj e).symm))) fun h501=>rnI [.pure _ (AV.tup [(AV.list true (v499.1.map X4)),(aI .i64 v499.2)]),Bf] ?_
   intro h
   exact wkT [] (ih (k+1) hx1 _ o h C0 C1)
  clear h;revert h498
  refine brI (fun h497=>?_) fun h497=>?_
  ·
   intro h
   obtain rfl:=oj h
   exact X8 [Bt] (k:=wkT [(2,3)] (X2.glue J))
  intro h
  obtain rfl:=oj h
  exact X8 [Bf] (k:=wkT [(2,3)] (X2.glue J))
end Go.Av.Tryz