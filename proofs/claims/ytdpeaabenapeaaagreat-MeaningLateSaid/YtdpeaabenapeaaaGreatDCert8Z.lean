/- Printed by decomp.py: that the program computes the functions. -/
import Derived.Test.YtdpeaabenapeaaaGreatDCert7Z
set_option linter.all false

namespace Go.Av.Tryz
open Go.Proofs Go.D
set_option maxRecDepth 10000
set_option maxHeartbeats 40000000
instance Xer:PCs Tryz.prog 22 (∀ (a0:(List X5)) (a1:X0g) (a2:X9) (a3:Int) (r:(List X5)×Int),X7a a0 a1 a2 a3=some r->X0j Tryz.prog 22 [(Lf (a0.map X3)),(X2k a1),(X1 a2),(aI .i64 a3)] (AV.tup [(Lt (r.1.map X3)),(aI .i64 r.2)])):=⟨λa0 a1 a2 a3 r h=>by
 refine X0j.sym X7 fn22 (nt:=112) rfl rfl ?_ okM;unfold X7a at h;revert h;refine bI λv1 h2=>brI (λh3=>λe=>oj e▸X8 [.pure _ (aI .i64 v1),Bt] (k:=fi)) λh3=>bI λv4 h5=>brI (λh6=>λe=>oj e▸X8 [.pure _ (aI .i64 v1),Bf,.pure _ (aI .i64 v4),Bt] (k:=fi)) λh6=>brI (λh7=>λe=>oj e▸X8 [.pure _ (aI .i64 v1),Bf,.pure _ (aI .i64 v4),Bf,Bt] (k:=fi)) λh7=>brI (λh8=>λe=>oj e▸X8 [.pure _ (aI .i64 v1),Bf,.pure _ (aI .i64 v4),Bf,Bf,Bt] (k:=fi)) λh8=>bI λXez h18=>rnI [.pure _ (aI .i64 v1),Bf,.pure _ (aI .i64 v4),Bf,Bf,Bf,.stop 12] ?_;intro h;refine X2.join (s':=⟨fr [(0,(Lf (a0.map X3))),(5,(AV.ptr 0 0 0)),(6,(AV.ptr 1 0 0)),(12,(AV.ptr 2 0 0))],hp ([(0,Ob [(X2k a1)] 3),(1,Ob [(X1 a2)] 3),(2,Ob [(X3 Xez)] 11)]),3⟩) ?_ (λJ=>X2.cut ?_)
 ·
  revert h;refine bI λXey h30=>rnI [] ?_;intro h;refine X2.joinOpF (λ(q:Nb Xey)=>⟨fr [(5,(AV.ptr 0 0 0)),(6,(AV.ptr 1 0 0)),(12,(AV.ptr 2 0 0)),(52,(slE q.1 3 (Xey.map X3)))],hp ([(0,Ob [(X2k a1)] 3),(1,Ob [(X1 a2)] 3),(2,Ob [(X3 Xez)] 11)]++opE q.1 3 11 (Xey.map X3)),4⟩) ?_ (λJ=>?_)
  ·
   rintro Xsq;rcases Xsq with ⟨_|_,Xtj⟩
   ·
    revert h;refine brI (λh31=>?_) λh31=>?_
    ·
     refine bI λw50 h69=>?_;intro h;obtain⟨Xt3,Xwg⟩:=w50;try dsimp only at h
     refine X0z [Bt] ?_;refine X2.joinOpF (λ(q:Nb Xt3)=>⟨fr [(12,(AV.ptr 0 0 0)),(13,(AV.ref 1 0 (Xey.length))),(62,(AV.tup [(slE q.1 2 (Xt3.map Xw)),(aI .i64 Xwg)]))],hp ([(0,Ob [(X3 Xez)] 11),(1,Ob (Xey.map X3) 11)]++opE q.1 2 2 (Xt3.map Xw)),3⟩) ?_ (λJ=>?_)
     ·
      rintro Xso;rcases Xso with ⟨_|_,Xth⟩
      ·
       revert h;refine brI (λh70=>λe=>oj e▸X8 [Bt] (k:=fi)) λh70=>bI λe71 h72=>?_;try have qh72:=Xl h72
       refine bI λw811 h1550=>?_;intro h;obtain⟨Xgs,Xt0⟩:=w811;try dsimp only at h
       refine X0z [Bf,.el (Xw e71),.ld (Xw e71)] ?_;refine X2.joinOpF (λ(q:Nb Xgs)=>⟨fr [(75,(AV.tup [(slE q.1 0 (Xgs.map X3)),(aI .i64 Xt0)]))],hp ([]++opE q.1 0 11 (Xgs.map X3)),1⟩) ?_ (λJ=>?_)
       ·
        rintro Xpo;rcases Xpo with ⟨_|_,Xqi⟩
        ·
         revert h;exact brI (λh1551=>λe=>oj e▸X8 [Bt] (k:=fi)) λh1551=>brI (λh1552=>λe=>oj e▸X8 [Bf,.el (aI .i64 (Xgs.length:Int)),Bt] (k:=fi)) λh1552=>λe=>oj e▸X8 [Bf,.el (aI .i64 (Xgs.length:Int)),Bf] (k:=fi)
        obtain rfl:=Xqi rfl;revert h;exact brI (λh1553=>λe=>oj e▸X8 [Bt] (k:=fi)) λh1553=>brI (λh1554=>λe=>oj e▸X8 [Bf,.el (aI .i64 (List.length ([]:List X5):Int)),Bt] (k:=fi)) λh1554=>λe=>oj e▸X8 [Bf,.el (aI .i64 (List.length ([]:List X5):Int)),Bf] (k:=fi)
       clear h;revert h1550;intro h;refine X2.inline X7 fn41 rfl rfl rfl rfl rfl trivial trivial rfl rfl ?_;revert h;refine bI λo1548 h1549=>rnI [] ?_;intro h;refine wkT [(3,1),(4,3)] (X2.cut (X4z _ _ _ nbF _ h1549 ?_));intro X3i X8q X2e eo1548;subst eo1548;refine X2.glue ?_;try dsimp only at h
       rcases X2e with ⟨_|_,X74⟩
       ·
        simp only[Option.some.injEq,Prod.mk.injEq] at h;obtain⟨rfl,rfl⟩:=h;refine X0z [] ?_;refine X2.back (by intro id h;cases h) rfl ?_;exact wkT [(0,3)] ((J nbF))
       obtain rfl:=X74 rfl;simp only[Option.some.injEq,Prod.mk.injEq] at h;obtain⟨rfl,rfl⟩:=h;refine X0z [] ?_;refine X2.back (by intro id h;cases h) rfl ?_;exact wkT [] ((J nbS))
      obtain rfl:=Xth rfl;revert h;refine brI (λh1555=>λe=>oj e▸X8 [Bt] (k:=fi)) λh1555=>bI λe1556 h1557=>?_;try have qh1557:=Xl h1557
      intro h
      first|exact absurd (h1557) (by simp[X0u];done)|(simp[X0u,h3,h6,h7,h8,h31,h1555] at h;done)|(simp[h3,h6,h7,h8,h31,h1555] at hg;done)|exact absurd (h1557) (by simp[X0u,h3,h6,h7,h8,h31,h1555];done)
     clear h;revert h69;intro h;refine X2.inline X7 fn40 rfl rfl rfl rfl rfl trivial trivial rfl rfl ?_;revert h;refine bI λv51 h52=>brI (λh53=>?_) λh53=>?_
     ·
      intro h;simp only[Option.some.injEq,Prod.mk.injEq] at h;obtain⟨rfl,rfl⟩:=h;refine X0z [.pure _ (aI .i64 v51),Bt] ?_;refine X2.back (by intro id h;cases h) rfl ?_;exact wkT [(0,2),(1,3)] ((J nbS))
     refine rnI [.pure _ (aI .i64 v51),Bf,Bf] ?_;intro h;refine X2.round ?_;revert h;refine bI λv54 h55=>brI (λh56=>?_) λh56=>?_
     ·
      intro h;simp only[Option.some.injEq,Prod.mk.injEq] at h;obtain⟨rfl,rfl⟩:=h;refine X0z [Bt,.el ((aI .i64 a2.Time)),.pure _ (aI .i64 v54),Bt] ?_;refine X2.back (by intro id h;cases h) rfl ?_;exact wkT [(0,2),(1,3)] ((J nbS))
     refine rnI [Bt,.el ((aI .i64 a2.Time)),.pure _ (aI .i64 v54),Bf,.wrap,.no] ?_;intro h;refine X2.round ?_;refine X0z [Bf] ?_;refine X2.inline X7 fn58 rfl rfl rfl rfl rfl trivial trivial rfl rfl ?_;refine X0z [] ?_;refine X2.inline X7 fn81 rfl rfl rfl rfl rfl trivial trivial rfl rfl ?_;refine X0z [] ?_;refine X2.eqNil X7 (may:=false) rfl rfl rfl rfl rfl rfl trivial rfl λb64 qb64=>?_;obtain rfl:=qb64 rfl;refine X0z [Bf,.no] ?_;refine X2.back (by intro id h;cases h) rfl ?_;refine X0z [] ?_;refine X2.inline X7 fn82 rfl rfl rfl rfl rfl trivial trivial rfl rfl ?_;revert h;refine bI λv67 h68=>rnI [.wrap,.pure _ (aI .i64 v67)] ?_;intro h;refine X2.inline X7 fn96 rfl rfl rfl rfl rfl trivial trivial rfl rfl ?_;refine X0z [] ?_;refine X2.round ?_;refine X0z [Bt] ?_;refine X2.inline X7 X01q rfl rfl rfl rfl rfl trivial trivial rfl rfl ?_;refine X0z [] ?_;refine X2.round ?_;refine X0z [Bf] ?_;refine X2.back (by intro id h;cases h) rfl ?_;refine X0z [] ?_;refine X2.back (by intro id h;cases h) rfl ?_;refine X0z [] ?_;refine X2.back (by intro id h;cases h) rfl ?_;refine X0z [] ?_;refine X2.round ?_;refine X0z [Bt,.el (AV.agg [(aI .i64 a2.Time),(aI .i64 (IntKind.i64.wrap (a2.Time+a1.Size)))]),Gf,Gf,Gf,Gf,Gf,Gf,Gf,Gf,Gf,Gf,Bf,.no] ?_;refine X2.round ?_;refine X0z [Bf] ?_;refine X2.back (by intro id h;cases h) rfl ?_;simp only[Option.some.injEq,Prod.mk.injEq] at h;obtain⟨rfl,rfl⟩:=h;refine X0z [] ?_;refine X2.back (by intro id h;cases h) rfl ?_;exact wkT [(0,2),(1,3),(2,24)] ((J nbF))
    refine bI λv1558 h1559=>brI (λh1560=>λe=>oj e▸X8 [Bf,.pure _ (AV.tup [(Lt (v1558.1.map Xw)),(aI .i64 v1558.2)]),Bt] (k:=fi)) λh1560=>bI λu1561 h1562=>?_;have qh1562:=X0b h1562;refine bI λo1984 h1985=>rnI [Bf,.pure _ (AV.tup [(Lt (v1558.1.map Xw)),(aI .i64 v1558.2)]),Bf,.el (aI .i64 (v1558.1.length:Int))] ?_;intro h;refine wkT [(0,2),(1,3)] (X2.cut (Xba v1558.1 qh1562 v1558.1 0 (by simp) _ _ nbF _ h1985 ?_ ?_))
    ·
     intro Xo Xz eo1984;subst eo1984;refine X2.glue ?_;try dsimp only at h
     rcases Xz with ⟨_|_,X1v⟩
     ·
      revert h;exact brI (λh1986=>λe=>oj e▸X8 [.el (aI .i64 (Xo.length:Int)),Bt] (k:=fi)) λh1986=>λe=>oj e▸X8 [.el (aI .i64 (Xo.length:Int)),Bf] (k:=fi)
     obtain rfl:=X1v rfl;revert h;exact brI (λh1987=>λe=>oj e▸X8 [.el (aI .i64 (List.length ([]:List X5):Int)),Bt] (k:=fi)) λh1987=>λe=>oj e▸X8 [.el (aI .i64 (List.length ([]:List X5):Int)),Bf] (k:=fi)
    intro X00 Xfz Xy eo1984;subst eo1984;refine X2.glue ?_;try dsimp only at h
    rcases Xy with ⟨_|_,X1u⟩<;>(try obtain rfl:=X1u rfl);all_goals
     revert h;exact λe=>oj e▸X8 [] (k:=fi)
   obtain rfl:=Xtj rfl;revert h;refine brI (λh1988=>?_) λh1988=>?_
   ·
    refine bI λw2007 h2026=>?_;intro h;obtain⟨Xjm,Xq8⟩:=w2007;try dsimp only at h
    refine X0z [Bt] ?_;refine X2.joinOpF (λ(q:Nb Xjm)=>⟨fr [(12,(AV.ptr 0 0 0)),(13,AV.nils),(62,(AV.tup [(slE q.1 2 (Xjm.map Xw)),(aI .i64 Xq8)]))],hp ([(0,Ob [(X3 Xez)] 11)]++opE q.1 2 2 (Xjm.map Xw)),3⟩) ?_ (λJ=>?_)
    ·
     rintro Xmf;rcases Xmf with ⟨_|_,Xnn⟩
     ·
      revert h;refine brI (λh2027=>λe=>oj e▸X8 [Bt] (k:=fi)) λh2027=>bI λe2028 h2029=>?_;try have qh2029:=Xl h2029
      refine bI λw2511 h2993=>?_;intro h;obtain⟨Xdj,Xq7⟩:=w2511;try dsimp only at h
      refine X0z [Bf,.el (Xw e2028),.ld (Xw e2028)] ?_;refine X2.joinOpF (λ(q:Nb Xdj)=>⟨fr [(75,(AV.tup [(slE q.1 0 (Xdj.map X3)),(aI .i64 Xq7)]))],hp ([]++opE q.1 0 11 (Xdj.map X3)),1⟩) ?_ (λJ=>?_)
      ·
       rintro Xme;rcases Xme with ⟨_|_,Xnm⟩
       ·
        revert h;exact brI (λh2994=>λe=>oj e▸X8 [Bt] (k:=fi)) λh2994=>brI (λh2995=>λe=>oj e▸X8 [Bf,.el (aI .i64 (Xdj.length:Int)),Bt] (k:=fi)) λh2995=>λe=>oj e▸X8 [Bf,.el (aI .i64 (Xdj.length:Int)),Bf] (k:=fi)
       obtain rfl:=Xnm rfl;revert h;exact brI (λh2996=>λe=>oj e▸X8 [Bt] (k:=fi)) λh2996=>brI (λh2997=>λe=>oj e▸X8 [Bf,.el (aI .i64 (List.length ([]:List X5):Int)),Bt] (k:=fi)) λh2997=>λe=>oj e▸X8 [Bf,.el (aI .i64 (List.length ([]:List X5):Int)),Bf] (k:=fi)
      clear h;revert h2993;intro h;refine X2.inline X7 fn41 rfl rfl rfl rfl rfl trivial trivial rfl rfl ?_;revert h;refine bI λo2991 h2992=>rnI [] ?_;intro h;refine wkT [(4,3)] (X2.cut (X4z _ _ _ nbS _ h2992 ?_));intro X3i X8q X2e eo2991;subst eo2991;refine X2.glue ?_;try dsimp only at h
      rcases X2e with ⟨_|_,X74⟩
      ·
       simp only[Option.some.injEq,Prod.mk.injEq] at h;obtain⟨rfl,rfl⟩:=h;refine X0z [] ?_;refine X2.back (by intro id h;cases h) rfl ?_;exact wkT [(0,3)] ((J nbF))
      obtain rfl:=X74 rfl;simp only[Option.some.injEq,Prod.mk.injEq] at h;obtain⟨rfl,rfl⟩:=h;refine X0z [] ?_;refine X2.back (by intro id h;cases h) rfl ?_;exact wkT [] ((J nbS))
     obtain rfl:=Xnn rfl;revert h;refine brI (λh2998=>λe=>oj e▸X8 [Bt] (k:=fi)) λh2998=>bI λe2999 h3000=>?_;try have qh3000:=Xl h3000
     intro h
     first|exact absurd (h3000) (by simp[X0u];done)|(simp[X0u,h3,h6,h7,h8,h1988,h2998] at h;done)|(simp[h3,h6,h7,h8,h1988,h2998] at hg;done)|exact absurd (h3000) (by simp[X0u,h3,h6,h7,h8,h1988,h2998];done)
    clear h;revert h2026;intro h;refine X2.inline X7 fn40 rfl rfl rfl rfl rfl trivial trivial rfl rfl ?_;revert h;refine bI λv2008 h2009=>brI (λh2010=>?_) λh2010=>?_
    ·
     intro h;simp only[Option.some.injEq,Prod.mk.injEq] at h;obtain⟨rfl,rfl⟩:=h;refine X0z [.pure _ (aI .i64 v2008),Bt] ?_;refine X2.back (by intro id h;cases h) rfl ?_;exact wkT [(0,2)] ((J nbS))
    refine rnI [.pure _ (aI .i64 v2008),Bf,Bf] ?_;intro h;refine X2.round ?_;revert h;refine bI λv2011 h2012=>brI (λh2013=>?_) λh2013=>?_
    ·
     intro h;simp only[Option.some.injEq,Prod.mk.injEq] at h;obtain⟨rfl,rfl⟩:=h;refine X0z [Bt,.el ((aI .i64 a2.Time)),.pure _ (aI .i64 v2011),Bt] ?_;refine X2.back (by intro id h;cases h) rfl ?_;exact wkT [(0,2)] ((J nbS))
    refine rnI [Bt,.el ((aI .i64 a2.Time)),.pure _ (aI .i64 v2011),Bf,.wrap,.no] ?_;intro h;refine X2.round ?_;refine X0z [Bf] ?_;refine X2.inline X7 fn58 rfl rfl rfl rfl rfl trivial trivial rfl rfl ?_;refine X0z [] ?_;refine X2.inline X7 fn81 rfl rfl rfl rfl rfl trivial trivial rfl rfl ?_;refine X0z [] ?_;refine X2.eqNil X7 (may:=false) rfl rfl rfl rfl rfl rfl trivial rfl λb2021 qb2021=>?_;obtain rfl:=qb2021 rfl;refine X0z [Bf,.no] ?_;refine X2.back (by intro id h;cases h) rfl ?_;refine X0z [] ?_;refine X2.inline X7 fn82 rfl rfl rfl rfl rfl trivial trivial rfl rfl ?_;revert h;refine bI λv2024 h2025=>rnI [.wrap,.pure _ (aI .i64 v2024)] ?_;intro h;refine X2.inline X7 fn96 rfl rfl rfl rfl rfl trivial trivial rfl rfl ?_;refine X0z [] ?_;refine X2.round ?_;refine X0z [Bt] ?_;refine X2.inline X7 X01q rfl rfl rfl rfl rfl trivial trivial rfl rfl ?_;refine X0z [] ?_;refine X2.round ?_;refine X0z [Bf] ?_;refine X2.back (by intro id h;cases h) rfl ?_;refine X0z [] ?_;refine X2.back (by intro id h;cases h) rfl ?_;refine X0z [] ?_;refine X2.back (by intro id h;cases h) rfl ?_;refine X0z [] ?_;refine X2.round ?_;refine X0z [Bt,.el (AV.agg [(aI .i64 a2.Time),(aI .i64 (IntKind.i64.wrap (a2.Time+a1.Size)))]),Gf,Gf,Gf,Gf,Gf,Gf,Gf,Gf,Gf,Gf,Bf,.no] ?_;refine X2.round ?_;refine X0z [Bf] ?_;refine X2.back (by intro id h;cases h) rfl ?_;simp only[Option.some.injEq,Prod.mk.injEq] at h;obtain⟨rfl,rfl⟩:=h;refine X0z [] ?_;refine X2.back (by intro id h;cases h) rfl ?_;exact wkT [(0,2),(2,24)] ((J nbF))
   refine bI λv3001 h3002=>brI (λh3003=>λe=>oj e▸X8 [Bf,.pure _ (AV.tup [(Lt (v3001.1.map Xw)),(aI .i64 v3001.2)]),Bt] (k:=fi)) λh3003=>bI λu3004 h3005=>?_;have qh3005:=X0b h3005;refine bI λo3287 h3288=>rnI [Bf,.pure _ (AV.tup [(Lt (v3001.1.map Xw)),(aI .i64 v3001.2)]),Bf,.el (aI .i64 (v3001.1.length:Int))] ?_;intro h;refine wkT [(0,2)] (X2.cut (Xba v3001.1 qh3005 v3001.1 0 (by simp) _ _ nbS _ h3288 ?_ ?_))
   ·
    intro Xo Xz eo3287;subst eo3287;refine X2.glue ?_;try dsimp only at h
    rcases Xz with ⟨_|_,X1v⟩
    ·
     revert h;exact brI (λh3289=>λe=>oj e▸X8 [.el (aI .i64 (Xo.length:Int)),Bt] (k:=fi)) λh3289=>λe=>oj e▸X8 [.el (aI .i64 (Xo.length:Int)),Bf] (k:=fi)
    obtain rfl:=X1v rfl;revert h;exact brI (λh3290=>λe=>oj e▸X8 [.el (aI .i64 (List.length ([]:List X5):Int)),Bt] (k:=fi)) λh3290=>λe=>oj e▸X8 [.el (aI .i64 (List.length ([]:List X5):Int)),Bf] (k:=fi)
   intro X00 Xfz Xy eo3287;subst eo3287;refine X2.glue ?_;try dsimp only at h
   rcases Xy with ⟨_|_,X1u⟩<;>(try obtain rfl:=X1u rfl);all_goals
    revert h;exact λe=>oj e▸X8 [] (k:=fi)
  clear h;revert h30;intro h;refine X2.inline X7 fn39 rfl rfl rfl rfl rfl trivial trivial rfl rfl ?_;revert h;refine brI (λq=>?_) λq=>?_
  ·
   intro h;have h25:a0=[]:=List.isEmpty_iff.1 q;refine X0z [] ?_;refine X2.eqNil X7 (may:=true) rfl rfl rfl rfl rfl rfl trivial (by simp[Xig, *]) λb26 qb26=>?_;cases b26
   ·
    obtain rfl:=oj h;refine X0z [Bf,.ne false] ?_;refine X2.back (by intro id h;cases h) rfl ?_;exact wkT [] ((J nbS))
   obtain rfl:=oj h;refine X0z [Bt] ?_;refine X2.back (by intro id h;cases h) rfl ?_;exact wkT [] ((J nbS))
  intro h;have h25:¬ (a0=[]):=(λe=>by rw[e] at q;cases q);refine X0z [] ?_;refine X2.eqNil X7 (may:=false) rfl rfl rfl rfl rfl rfl trivial (by simp[Xig, *]) λb27 qb27=>?_;obtain rfl:=qb27 rfl;revert h;refine bI λu28 h29=>?_;intro h;obtain rfl:=oj h;refine X0z [Bf,.via (Lt (a0.map X3))] (o:=by repeat' first|apply Ya|exact pcM|(refine X03 h29 rfl ?_;first|(simp<;>omega)|(simp[h3,h6,h7,h8,h25]<;>omega))|(refine Xq h29 (by decide) ?_;first|(simp<;>omega)|(simp[h3,h6,h7,h8,h25]<;>omega))|exact X05) ?_;refine X2.back (by intro id h;cases h) rfl ?_;exact wkT [(3,4)] ((J nbF))
 clear h;revert h18;refine bI λv14 h15=>brI (λh16=>?_) λh16=>?_
 ·
  intro h;obtain rfl:=oj h;exact X8 [.pure _ (X0i v14),.ix 0] (o:=by repeat' first|apply Ya|exact pcM|exact((eq_of_beq h16))|exact X05) (k:=wkT [] (X2.glue J))
 refine brI (λh17=>?_) λh17=>?_
 ·
  intro h;obtain rfl:=oj h;exact X8 [.pure _ (X0i v14),.ix 1] (o:=by repeat' first|apply Ya|exact pcM|exact((eq_of_beq h17))|exact X05) (k:=wkT [] (X2.glue J))
 intro h;cases h⟩
instance Xuj:PCs Tryz.prog 44 (∀ (a0:Int) (a1:X0x) (r:Int×Int),X5z a0 a1=some r->X0j Tryz.prog 44 [(aI .u8 a0),(X0i a1)] (AV.tup [(aI .i64 r.1),(aI .i64 r.2)])):=⟨λa0 a1 r h=>by
 refine X0j.sym X7 fn44 (nt:=34) rfl rfl ?_ okM;unfold X5z at h;revert h;refine brI (λh1=>λe=>oj e▸X8 [Bt] (k:=fi)) λh1=>bI λv2 h3=>brI (λh4=>λe=>oj e▸X8 [Bf,.pure _ (aI .i64 v2),Bt] (k:=fi)) λh4=>brI (λh5=>λe=>oj e▸X8 [Bf,.pure _ (aI .i64 v2),Bf,Bt] (k:=fi)) λh5=>bI λXzq h17=>rnI [Bf,.pure _ (aI .i64 v2),Bf,Bf,.stop 9] ?_;intro h;refine X2.join (s':=⟨fr [(4,(aI .i64 Xzq)),(5,(aI .i64 0))],hp ([]),0⟩) ?_ (λJ=>X2.cut ?_)
 ·
  revert h;exact λe=>oj e▸X8 [] (k:=fi)
 clear h;revert h17;refine brI (λh12=>?_) λh12=>?_
 ·
  intro h;obtain rfl:=oj h;exact X8 [.ix 0] (o:=by repeat' first|apply Ya|exact pcM|exact((eq_of_beq h12))|exact X05) (k:=wkT [] (X2.glue J))
 refine brI (λh13=>?_) λh13=>?_
 ·
  intro h;obtain rfl:=oj h;exact X8 [.ix 1] (o:=by repeat' first|apply Ya|exact pcM|exact((eq_of_beq h13))|exact X05) (k:=wkT [] (X2.glue J))
 refine brI (λh14=>?_) λh14=>?_
 ·
  intro h;obtain rfl:=oj h;exact X8 [.ix 2] (o:=by repeat' first|apply Ya|exact pcM|exact((eq_of_beq h14))|exact X05) (k:=wkT [] (X2.glue J))
 refine brI (λh15=>?_) λh15=>?_
 ·
  intro h;obtain rfl:=oj h;exact X8 [.ix 3] (o:=by repeat' first|apply Ya|exact pcM|exact((eq_of_beq h15))|exact X05) (k:=wkT [] (X2.glue J))
 refine brI (λh16=>?_) λh16=>?_
 ·
  intro h;obtain rfl:=oj h;exact X8 [.ix 4] (o:=by repeat' first|apply Ya|exact pcM|exact((eq_of_beq h16))|exact X05) (k:=wkT [] (X2.glue J))
 intro h;cases h⟩
instance Xvb:PCs Tryz.prog 23 (∀ (a0:Xt) (a1:X5) (r:X52×Bool),X8g a0 a1=some r->X0j Tryz.prog 23 [(Xk false a0),(X3 a1)] (AV.tup [(Xi r.1),(aB r.2)])):=⟨λa0 a1 r h=>by
 refine X0j.sym X7 fn23 (nt:=44) rfl rfl ?_ okM;unfold X8g at h;refine X0z [] ?_;refine X2.round ?_;revert h;refine bI λv3 h4=>brI (λh5=>λe=>oj e▸X8 [Bt,Gf,Gf,Gf,Bf,.ix 0,.pure _ (AV.tup [(aI .i64 v3.1),(aI .i64 v3.2)]),Bt] (k:=fi)) λh5=>rnI [Bt,Gf,Gf,Gf,Bf,.ix 0,.pure _ (AV.tup [(aI .i64 v3.1),(aI .i64 v3.2)]),Bf,.ix 0] ?_;intro h;refine X2.round ?_;revert h;refine brI (λh6=>λe=>oj e▸X8 [Bt,Gt,Gt,Gt,Bt] (k:=fi)) λh6=>bI λv9 h10=>brI (λh11=>λe=>oj e▸X8 [Bt,Gt,Gt,Gt,Bf,.ix 1,.pure _ (AV.tup [(aI .i64 v9.1),(aI .i64 v9.2)]),Bt] (k:=fi)) λh11=>rnI [Bt,Gt,Gt,Gt,Bf,.ix 1,.pure _ (AV.tup [(aI .i64 v9.1),(aI .i64 v9.2)]),Bf,.ix 1] ?_;intro h;refine X2.round ?_;revert h;exact λe=>oj e▸X8 [Bf] (k:=fi)⟩
theorem X4v {Q:Xx->St->Mu->Prop} {μ:Mu} (X95:Xt) (X9j:(List X9)) (Xki:Int) (Xkh:(List (List Xa))) (Xkg:Int) (Xkf:Int) (Xd0:(List X9)) (Xfq:Nb X9j) (hl:Xd0.length<=140737488355328):∀ (xs:List X9) (k:Nat) (hx:Xd0.drop k=xs) (Xg1:(List X5)) (o:X5e) (h:X1x X95 X9j Xki Xkh Xkg Xkf Xd0 xs k Xg1=some o)
  (C0:∀ (X7x:(List X5)) (X6p:(List X9)) (X3y:Nb X6p),o=X5e.x0 X7x X6p->X2 Tryz.prog 119 0 Q (.exit (.exit 2)) [] ⟨fr [(2,(AV.ptr 0 0 0)),(10,(Lt (X7x.map X3))),(11,(slE X3y.1 1 (X6p.map X1))),(46,(Lf (List.map (X14 false X0) Xkh))),(47,(aI .i64 Xkg)),(48,(aI .i64 Xkf))],hp ([(0,Ob [(Xk false X95)] 10)]++opE X3y.1 1 3 (X6p.map X1)),2⟩ μ)
  (C1:∀ (X6o:(List X52)) (X6n:(List X9)) (Xb2:Int) (X3x:Nb X6o) (X22:Nb X6n),o=X5e.x1 X6o X6n Xb2->X2 Tryz.prog 119 0 Q (.exit .ret) [] ⟨fr [(4,(slE X3x.1 0 (X6o.map Xi))),(5,(slE X22.1 1 (X6n.map X1))),(6,(aI .i64 Xb2))],hp ([]++opE X3x.1 0 5 (X6o.map Xi)++opE X22.1 1 3 (X6n.map X1)),2⟩ μ),
  X2 Tryz.prog 119 0 Q (.loop (X41 1 (Xh Tryz.f6))) [] ⟨fr [(2,(AV.ptr 0 0 0)),(10,(Lt (Xg1.map X3))),(11,(slE Xfq.1 1 (X9j.map X1))),(12,(aI .i64 Xki)),(46,(Lf (List.map (X14 false X0) Xkh))),(47,(aI .i64 Xkg)),(48,(aI .i64 Xkf)),(65,(Lt (Xd0.map X1))),(66,(aI .i64 (Xd0.length:Int))),(67,(aI .i64 (k:Int)))],hp ([(0,Ob [(Xk false X95)] 10)]++opE Xfq.1 1 3 (X9j.map X1)),2⟩ μ:=by
 intro xs
 induction xs with
 |nil =>
  intro k hx Xg1 o h C0 C1;have hk:=X11 hx;have hc:decide ((k:Int)<(Xd0.length:Int))=false:=Yf om;rw[X1x] at h;rcases Xfq with ⟨_|_,Xjw⟩
  ·
   refine X2.round ?_;revert h;exact λe=>X8 [Bf] (k:=wkT [] (C0 _ _  nbF (oj e).symm))
  ·
   obtain rfl:=Xjw rfl;refine X2.round ?_;revert h;exact λe=>X8 [Bf] (k:=wkT [] (C0 _ _  nbS (oj e).symm))
 |cons x xs ih =>
  intro k hx Xg1 o h C0 C1;obtain⟨hk,hg,hx1⟩:=X0f hx;have hc:decide ((k:Int)<(Xd0.length:Int))=true:=Yt om;rw[X1x] at h;rcases Xfq with ⟨_|_,Xjw⟩
  ·
   refine X2.round ?_;revert h;refine bI λv482 h483=>brI (λh484=>?_) λh484=>?_
   ·
    refine rnI [Bt,.el (X1 x),.pure _ (AV.tup [(X1 v482.1),(aB v482.2)]),Bt] ?_;intro h;exact wkT [] (ih (k+1) hx1 _ o h C0 C1)
   refine bI λXn5 h488=>rnI [Bt,.el (X1 x),.pure _ (AV.tup [(X1 v482.1),(aB v482.2)]),Bf] ?_;intro h;refine X2.join (s':=⟨fr [(2,(AV.ptr 0 0 0)),(10,(Lt (Xg1.map X3))),(11,(AV.ref 1 0 (X9j.length))),(12,(aI .i64 Xki)),(19,(AV.ptr 2 0 0)),(21,(aI .i64 Xn5)),(46,(Lf (List.map (X14 false X0) Xkh))),(47,(aI .i64 Xkg)),(48,(aI .i64 Xkf)),(65,(Lt (Xd0.map X1))),(66,(aI .i64 (Xd0.length:Int))),(67,(aI .i64 (k:Int)))],hp ([(0,Ob [(Xk false X95)] 10),(1,Ob (X9j.map X1) 3),(2,Ob [(X1 v482.1)] 3)]),3⟩) ?_ (λJ=>X2.cut ?_)
   ·
    revert h;refine bI λv489 h490=>brI (λh491=>λe=>X8 [.pure _ (AV.tup [(Lt (v489.1.map X3)),(aI .i64 v489.2)]),Bt] (k:=wkT [] (C1 _ _ _  nbS nbS (oj e).symm))) λh491=>rnI [.pure _ (AV.tup [(Lt (v489.1.map X3)),(aI .i64 v489.2)]),Bf] ?_;intro h;exact wkT [] (ih (k+1) hx1 _ o h C0 C1)
   clear h;revert h488;refine brI (λh487=>?_) λh487=>?_
   ·
    intro h;obtain rfl:=oj h;exact X8 [Bt] (k:=wkT [(2,3)] (X2.glue J))
   intro h;obtain rfl:=oj h;exact X8 [Bf] (k:=wkT [(2,3)] (X2.glue J))
  obtain rfl:=Xjw rfl;refine X2.round ?_;revert h;refine bI λv492 h493=>brI (λh494=>?_) λh494=>?_
  ·
   refine rnI [Bt,.el (X1 x),.pure _ (AV.tup [(X1 v492.1),(aB v492.2)]),Bt] ?_;intro h;exact wkT [] (ih (k+1) hx1 _ o h C0 C1)
  refine bI λXzb h498=>rnI [Bt,.el (X1 x),.pure _ (AV.tup [(X1 v492.1),(aB v492.2)]),Bf] ?_;intro h;refine X2.join (s':=⟨fr [(2,(AV.ptr 0 0 0)),(10,(Lt (Xg1.map X3))),(11,AV.nils),(12,(aI .i64 Xki)),(19,(AV.ptr 2 0 0)),(21,(aI .i64 Xzb)),(46,(Lf (List.map (X14 false X0) Xkh))),(47,(aI .i64 Xkg)),(48,(aI .i64 Xkf)),(65,(Lt (Xd0.map X1))),(66,(aI .i64 (Xd0.length:Int))),(67,(aI .i64 (k:Int)))],hp ([(0,Ob [(Xk false X95)] 10),(2,Ob [(X1 v492.1)] 3)]),3⟩) ?_ (λJ=>X2.cut ?_)
  ·
   revert h;refine bI λv499 h500=>brI (λh501=>λe=>X8 [.pure _ (AV.tup [(Lt (v499.1.map X3)),(aI .i64 v499.2)]),Bt] (k:=wkT [] (C1 _ _ _  nbS nbS (oj e).symm))) λh501=>rnI [.pure _ (AV.tup [(Lt (v499.1.map X3)),(aI .i64 v499.2)]),Bf] ?_;intro h;exact wkT [] (ih (k+1) hx1 _ o h C0 C1)
  clear h;revert h498;refine brI (λh497=>?_) λh497=>?_
  ·
   intro h;obtain rfl:=oj h;exact X8 [Bt] (k:=wkT [(2,3)] (X2.glue J))
  intro h;obtain rfl:=oj h;exact X8 [Bf] (k:=wkT [(2,3)] (X2.glue J))
end Go.Av.Tryz