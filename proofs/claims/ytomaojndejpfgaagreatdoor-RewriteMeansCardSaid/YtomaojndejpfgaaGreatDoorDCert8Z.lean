/- Printed by decomp.py: that the program computes the functions. -/
import Derived.Test.YtomaojndejpfgaaGreatDoorDCert7Z
set_option linter.all false

namespace Go.Av.Tryz
open Go.Proofs Go.D Go.Proofs.Tryz
set_option maxRecDepth 10000
set_option maxHeartbeats 40000000
instance Xhl:PZ 31 (∀ (a0:(List X3)) (a1:Xn) (a2:X9) (a3:Int) (r:(List X3)×Int),X84 a0 a1 a2 a3=some r->Pz 31 [(Lf (a0.map X1)),(X39 a1),(X2 a2),(aI .i64 a3)] (AV.tup [(Lt (r.1.map X1)),(aI .i64 r.2)])):=⟨λa0 a1 a2 a3 r=>by
 unfold X84;refine psI fn31 112<|bI λv1 h2=>brI (λh3=>λe=>oj e▸X8 [.pure _ (aI .i64 v1),Bt] (k:=fi)) λh3=>bI λv4 h5=>brI (λh6=>λe=>oj e▸X8 [.pure _ (aI .i64 v1),Bf,.pure _ (aI .i64 v4),Bt] (k:=fi)) λh6=>brI (λh7=>λe=>oj e▸X8 [.pure _ (aI .i64 v1),Bf,.pure _ (aI .i64 v4),Bf,Bt] (k:=fi)) λh7=>brI (λh8=>λe=>oj e▸X8 [.pure _ (aI .i64 v1),Bf,.pure _ (aI .i64 v4),Bf,Bf,Bt] (k:=fi)) λh8=>bI λXhu h18=>rnI [.pure _ (aI .i64 v1),Bf,.pure _ (aI .i64 v4),Bf,Bf,Bf,.stop 12] ?_;refine jnI ⟨fr [(0,(Lf (a0.map X1))),(5,(AV.ptr 0 0 0)),(6,(AV.ptr 1 0 0)),(12,(AV.ptr 2 0 0))],hp ([(0,Ob [(X39 a1)] 3),(1,Ob [(X2 a2)] 3),(2,Ob [(X1 Xhu)] 11)]),3⟩ h18 ?_ λJ=>?_
 ·
  refine bI λXht h30=>rnI [] ?_;intro h;refine X7.joinOpF (λ(q:Nb Xht)=>⟨fr [(5,(AV.ptr 0 0 0)),(6,(AV.ptr 1 0 0)),(12,(AV.ptr 2 0 0)),(52,(slE q.1 3 (Xht.map X1)))],hp ([(0,Ob [(X39 a1)] 3),(1,Ob [(X2 a2)] 3),(2,Ob [(X1 Xhu)] 11)]++opE q.1 3 11 (Xht.map X1)),4⟩) ?_ (λJ=>?_)
  ·
   rintro Xzw;rcases Xzw with ⟨_|_,X011⟩
   ·
    revert h;refine brI (λh31=>?_) λh31=>?_
    ·
     refine bI λw50 h69=>?_;intro h;obtain⟨X00e,X05d⟩:=w50;try dsimp only at h
     refine X0q [Bt] ?_;refine X7.joinOpF (λ(q:Nb X00e)=>⟨fr [(12,(AV.ptr 0 0 0)),(13,(AV.ref 1 0 (Xht.length))),(62,(AV.tup [(slE q.1 2 (X00e.map X01)),(aI .i64 X05d)]))],hp ([(0,Ob [(X1 Xhu)] 11),(1,Ob (Xht.map X1) 11)]++opE q.1 2 2 (X00e.map X01)),3⟩) ?_ (λJ=>?_)
     ·
      rintro Xzu;rcases Xzu with ⟨_|_,X00z⟩
      ·
       revert h;refine brI (λh70=>λe=>oj e▸X8 [Bt] (k:=fi)) λh70=>bI λe71 h72=>?_;try have qh72:=Xq h72
       refine bI λw811 h1550=>?_;intro h;obtain⟨Xkv,X00a⟩:=w811;try dsimp only at h
       refine X0q [Bf,.el (X01 e71),.ld (X01 e71)] ?_;refine X7.joinOpF (λ(q:Nb Xkv)=>⟨fr [(75,(AV.tup [(slE q.1 0 (Xkv.map X1)),(aI .i64 X00a)]))],hp ([]++opE q.1 0 11 (Xkv.map X1)),1⟩) ?_ (λJ=>?_)
       ·
        rintro Xwa;rcases Xwa with ⟨_|_,Xx3⟩
        ·
         revert h;exact brI (λh1551=>λe=>oj e▸X8 [Bt] (k:=fi)) λh1551=>brI (λh1552=>λe=>oj e▸X8 [Bf,.el (aI .i64 (Xkv.length:Int)),Bt] (k:=fi)) λh1552=>λe=>oj e▸X8 [Bf,.el (aI .i64 (Xkv.length:Int)),Bf] (k:=fi)
        obtain rfl:=Xx3 rfl;revert h;exact brI (λh1553=>λe=>oj e▸X8 [Bt] (k:=fi)) λh1553=>brI (λh1554=>λe=>oj e▸X8 [Bf,.el (aI .i64 (List.length ([]:List X3):Int)),Bt] (k:=fi)) λh1554=>λe=>oj e▸X8 [Bf,.el (aI .i64 (List.length ([]:List X3):Int)),Bf] (k:=fi)
       clear h;revert h1550;intro h;refine X7.inline Xf fn61 rfl rfl rfl rfl rfl trivial trivial rfl rfl ?_;revert h;refine bI λo1548 h1549=>rnI [] ?_;intro h;refine wkT [(3,1),(4,3)] (X7.cut (X5l _ _ _ nbF _ h1549 ?_));intro X44 Xaz X30 eo1548;subst eo1548;refine X7.glue ?_;try dsimp only at h
       rcases X30 with ⟨_|_,X7s⟩
       ·
        simp only[Option.some.injEq,Prod.mk.injEq] at h;obtain⟨rfl,rfl⟩:=h;refine X0q [] ?_;refine X7.back (by intro id h;cases h) rfl ?_;exact wkT [(0,3)] ((J nbF))
       obtain rfl:=X7s rfl;simp only[Option.some.injEq,Prod.mk.injEq] at h;obtain⟨rfl,rfl⟩:=h;refine X0q [] ?_;refine X7.back (by intro id h;cases h) rfl ?_;exact wkT [] ((J nbS))
      obtain rfl:=X00z rfl;revert h;refine brI (λh1555=>λe=>oj e▸X8 [Bt] (k:=fi)) λh1555=>bI λe1556 h1557=>?_;try have qh1557:=Xq h1557
      intro h
      first|exact absurd (h1557) (by simp[getI];done)|(simp[getI,h3,h6,h7,h8,h31,h1555] at h;done)|(simp[h3,h6,h7,h8,h31,h1555] at hg;done)|exact absurd (h1557) (by simp[getI,h3,h6,h7,h8,h31,h1555];done)
     clear h;revert h69;intro h;refine X7.inline Xf fn60 rfl rfl rfl rfl rfl trivial trivial rfl rfl ?_;revert h;refine bI λv51 h52=>brI (λh53=>?_) λh53=>?_
     ·
      intro h;simp only[Option.some.injEq,Prod.mk.injEq] at h;obtain⟨rfl,rfl⟩:=h;refine X0q [.pure _ (aI .i64 v51),Bt] ?_;refine X7.back (by intro id h;cases h) rfl ?_;exact wkT [(0,2),(1,3)] ((J nbS))
     refine rnI [.pure _ (aI .i64 v51),Bf,Bf] ?_;refine rdI<|bI λv54 h55=>brI (λh56=>?_) λh56=>?_
     ·
      intro h;simp only[Option.some.injEq,Prod.mk.injEq] at h;obtain⟨rfl,rfl⟩:=h;refine X0q [Bt,.el ((aI .i64 a2.Time)),.pure _ (aI .i64 v54),Bt] ?_;refine X7.back (by intro id h;cases h) rfl ?_;exact wkT [(0,2),(1,3)] ((J nbS))
     refine rnI [Bt,.el ((aI .i64 a2.Time)),.pure _ (aI .i64 v54),Bf,.wrap,.no] ?_;refine rdI<|rnI [Bf] ?_;intro h;refine X7.inline Xf fn91 rfl rfl rfl rfl rfl trivial trivial rfl rfl ?_;refine X0q [] ?_;refine X7.inline Xf X0fe rfl rfl rfl rfl rfl trivial trivial rfl rfl ?_;refine X0q [] ?_;refine X7.eqNil Xf (may:=false) rfl rfl rfl rfl rfl rfl trivial rfl λb64 qb64=>?_;obtain rfl:=qb64 rfl;refine X0q [Bf,.no] ?_;refine X7.back (by intro id h;cases h) rfl ?_;refine X0q [] ?_;refine X7.inline Xf X0fd rfl rfl rfl rfl rfl trivial trivial rfl rfl ?_;revert h;refine bI λv67 h68=>rnI [.wrap,.pure _ (aI .i64 v67)] ?_;intro h;refine X7.inline Xf X0fa rfl rfl rfl rfl rfl trivial trivial rfl rfl ?_;refine X0q [] ?_;refine X7.round ?_;refine X0q [Bt] ?_;refine X7.inline Xf X0f8 rfl rfl rfl rfl rfl trivial trivial rfl rfl ?_;refine X0q [] ?_;refine X7.round ?_;refine X0q [Bf] ?_;refine X7.back (by intro id h;cases h) rfl ?_;refine X0q [] ?_;refine X7.back (by intro id h;cases h) rfl ?_;refine X0q [] ?_;refine X7.back (by intro id h;cases h) rfl ?_;refine X0q [] ?_;refine X7.round ?_;refine X0q [Bt,.el (AV.agg [(aI .i64 a2.Time),(aI .i64 (IntKind.i64.wrap (a2.Time+a1.Size)))]),Gf,Gf,Gf,Gf,Gf,Gf,Gf,Gf,Gf,Gf,Bf,.no] ?_;refine X7.round ?_;refine X0q [Bf] ?_;refine X7.back (by intro id h;cases h) rfl ?_;simp only[Option.some.injEq,Prod.mk.injEq] at h;obtain⟨rfl,rfl⟩:=h;refine X0q [] ?_;refine X7.back (by intro id h;cases h) rfl ?_;exact wkT [(0,2),(1,3),(2,24)] ((J nbF))
    refine bI λv1558 h1559=>brI (λh1560=>λe=>oj e▸X8 [Bf,.pure _ (AV.tup [(Lt (v1558.1.map X01)),(aI .i64 v1558.2)]),Bt] (k:=fi)) λh1560=>bI λu1561 h1562=>?_;have qh1562:=X0e h1562;refine bI λo1984 h1985=>rnI [Bf,.pure _ (AV.tup [(Lt (v1558.1.map X01)),(aI .i64 v1558.2)]),Bf,.el (aI .i64 (v1558.1.length:Int))] ?_;intro h;refine wkT [(0,2),(1,3)] (X7.cut (Xcs v1558.1 qh1562 v1558.1 0 (by simp) _ _ nbF _ h1985 ?_ ?_))
    ·
     intro Xo X02 eo1984;subst eo1984;refine X7.glue ?_;try dsimp only at h
     rcases X02 with ⟨_|_,X1p⟩
     ·
      revert h;exact brI (λh1986=>λe=>oj e▸X8 [.el (aI .i64 (Xo.length:Int)),Bt] (k:=fi)) λh1986=>λe=>oj e▸X8 [.el (aI .i64 (Xo.length:Int)),Bf] (k:=fi)
     obtain rfl:=X1p rfl;revert h;exact brI (λh1987=>λe=>oj e▸X8 [.el (aI .i64 (List.length ([]:List X3):Int)),Bt] (k:=fi)) λh1987=>λe=>oj e▸X8 [.el (aI .i64 (List.length ([]:List X3):Int)),Bf] (k:=fi)
    intro Xy Xa8 Xx eo1984;subst eo1984;refine X7.glue ?_;try dsimp only at h
    rcases Xx with ⟨_|_,X1o⟩<;>(try obtain rfl:=X1o rfl);all_goals
     revert h;exact λe=>oj e▸X8 [] (k:=fi)
   obtain rfl:=X011 rfl;revert h;refine brI (λh1988=>?_) λh1988=>?_
   ·
    refine bI λw2007 h2026=>?_;intro h;obtain⟨Xoi,Xwu⟩:=w2007;try dsimp only at h
    refine X0q [Bt] ?_;refine X7.joinOpF (λ(q:Nb Xoi)=>⟨fr [(12,(AV.ptr 0 0 0)),(13,AV.nils),(62,(AV.tup [(slE q.1 2 (Xoi.map X01)),(aI .i64 Xwu)]))],hp ([(0,Ob [(X1 Xhu)] 11)]++opE q.1 2 2 (Xoi.map X01)),3⟩) ?_ (λJ=>?_)
    ·
     rintro Xsd;rcases Xsd with ⟨_|_,Xth⟩
     ·
      revert h;refine brI (λh2027=>λe=>oj e▸X8 [Bt] (k:=fi)) λh2027=>bI λe2028 h2029=>?_;try have qh2029:=Xq h2029
      refine bI λw2511 h2993=>?_;intro h;obtain⟨Xg3,Xwt⟩:=w2511;try dsimp only at h
      refine X0q [Bf,.el (X01 e2028),.ld (X01 e2028)] ?_;refine X7.joinOpF (λ(q:Nb Xg3)=>⟨fr [(75,(AV.tup [(slE q.1 0 (Xg3.map X1)),(aI .i64 Xwt)]))],hp ([]++opE q.1 0 11 (Xg3.map X1)),1⟩) ?_ (λJ=>?_)
      ·
       rintro Xsc;rcases Xsc with ⟨_|_,Xtg⟩
       ·
        revert h;exact brI (λh2994=>λe=>oj e▸X8 [Bt] (k:=fi)) λh2994=>brI (λh2995=>λe=>oj e▸X8 [Bf,.el (aI .i64 (Xg3.length:Int)),Bt] (k:=fi)) λh2995=>λe=>oj e▸X8 [Bf,.el (aI .i64 (Xg3.length:Int)),Bf] (k:=fi)
       obtain rfl:=Xtg rfl;revert h;exact brI (λh2996=>λe=>oj e▸X8 [Bt] (k:=fi)) λh2996=>brI (λh2997=>λe=>oj e▸X8 [Bf,.el (aI .i64 (List.length ([]:List X3):Int)),Bt] (k:=fi)) λh2997=>λe=>oj e▸X8 [Bf,.el (aI .i64 (List.length ([]:List X3):Int)),Bf] (k:=fi)
      clear h;revert h2993;intro h;refine X7.inline Xf fn61 rfl rfl rfl rfl rfl trivial trivial rfl rfl ?_;revert h;refine bI λo2991 h2992=>rnI [] ?_;intro h;refine wkT [(4,3)] (X7.cut (X5l _ _ _ nbS _ h2992 ?_));intro X44 Xaz X30 eo2991;subst eo2991;refine X7.glue ?_;try dsimp only at h
      rcases X30 with ⟨_|_,X7s⟩
      ·
       simp only[Option.some.injEq,Prod.mk.injEq] at h;obtain⟨rfl,rfl⟩:=h;refine X0q [] ?_;refine X7.back (by intro id h;cases h) rfl ?_;exact wkT [(0,3)] ((J nbF))
      obtain rfl:=X7s rfl;simp only[Option.some.injEq,Prod.mk.injEq] at h;obtain⟨rfl,rfl⟩:=h;refine X0q [] ?_;refine X7.back (by intro id h;cases h) rfl ?_;exact wkT [] ((J nbS))
     obtain rfl:=Xth rfl;revert h;refine brI (λh2998=>λe=>oj e▸X8 [Bt] (k:=fi)) λh2998=>bI λe2999 h3000=>?_;try have qh3000:=Xq h3000
     intro h
     first|exact absurd (h3000) (by simp[getI];done)|(simp[getI,h3,h6,h7,h8,h1988,h2998] at h;done)|(simp[h3,h6,h7,h8,h1988,h2998] at hg;done)|exact absurd (h3000) (by simp[getI,h3,h6,h7,h8,h1988,h2998];done)
    clear h;revert h2026;intro h;refine X7.inline Xf fn60 rfl rfl rfl rfl rfl trivial trivial rfl rfl ?_;revert h;refine bI λv2008 h2009=>brI (λh2010=>?_) λh2010=>?_
    ·
     intro h;simp only[Option.some.injEq,Prod.mk.injEq] at h;obtain⟨rfl,rfl⟩:=h;refine X0q [.pure _ (aI .i64 v2008),Bt] ?_;refine X7.back (by intro id h;cases h) rfl ?_;exact wkT [(0,2)] ((J nbS))
    refine rnI [.pure _ (aI .i64 v2008),Bf,Bf] ?_;refine rdI<|bI λv2011 h2012=>brI (λh2013=>?_) λh2013=>?_
    ·
     intro h;simp only[Option.some.injEq,Prod.mk.injEq] at h;obtain⟨rfl,rfl⟩:=h;refine X0q [Bt,.el ((aI .i64 a2.Time)),.pure _ (aI .i64 v2011),Bt] ?_;refine X7.back (by intro id h;cases h) rfl ?_;exact wkT [(0,2)] ((J nbS))
    refine rnI [Bt,.el ((aI .i64 a2.Time)),.pure _ (aI .i64 v2011),Bf,.wrap,.no] ?_;refine rdI<|rnI [Bf] ?_;intro h;refine X7.inline Xf fn91 rfl rfl rfl rfl rfl trivial trivial rfl rfl ?_;refine X0q [] ?_;refine X7.inline Xf X0fe rfl rfl rfl rfl rfl trivial trivial rfl rfl ?_;refine X0q [] ?_;refine X7.eqNil Xf (may:=false) rfl rfl rfl rfl rfl rfl trivial rfl λb2021 qb2021=>?_;obtain rfl:=qb2021 rfl;refine X0q [Bf,.no] ?_;refine X7.back (by intro id h;cases h) rfl ?_;refine X0q [] ?_;refine X7.inline Xf X0fd rfl rfl rfl rfl rfl trivial trivial rfl rfl ?_;revert h;refine bI λv2024 h2025=>rnI [.wrap,.pure _ (aI .i64 v2024)] ?_;intro h;refine X7.inline Xf X0fa rfl rfl rfl rfl rfl trivial trivial rfl rfl ?_;refine X0q [] ?_;refine X7.round ?_;refine X0q [Bt] ?_;refine X7.inline Xf X0f8 rfl rfl rfl rfl rfl trivial trivial rfl rfl ?_;refine X0q [] ?_;refine X7.round ?_;refine X0q [Bf] ?_;refine X7.back (by intro id h;cases h) rfl ?_;refine X0q [] ?_;refine X7.back (by intro id h;cases h) rfl ?_;refine X0q [] ?_;refine X7.back (by intro id h;cases h) rfl ?_;refine X0q [] ?_;refine X7.round ?_;refine X0q [Bt,.el (AV.agg [(aI .i64 a2.Time),(aI .i64 (IntKind.i64.wrap (a2.Time+a1.Size)))]),Gf,Gf,Gf,Gf,Gf,Gf,Gf,Gf,Gf,Gf,Bf,.no] ?_;refine X7.round ?_;refine X0q [Bf] ?_;refine X7.back (by intro id h;cases h) rfl ?_;simp only[Option.some.injEq,Prod.mk.injEq] at h;obtain⟨rfl,rfl⟩:=h;refine X0q [] ?_;refine X7.back (by intro id h;cases h) rfl ?_;exact wkT [(0,2),(2,24)] ((J nbF))
   refine bI λv3001 h3002=>brI (λh3003=>λe=>oj e▸X8 [Bf,.pure _ (AV.tup [(Lt (v3001.1.map X01)),(aI .i64 v3001.2)]),Bt] (k:=fi)) λh3003=>bI λu3004 h3005=>?_;have qh3005:=X0e h3005;refine bI λo3287 h3288=>rnI [Bf,.pure _ (AV.tup [(Lt (v3001.1.map X01)),(aI .i64 v3001.2)]),Bf,.el (aI .i64 (v3001.1.length:Int))] ?_;intro h;refine wkT [(0,2)] (X7.cut (Xcs v3001.1 qh3005 v3001.1 0 (by simp) _ _ nbS _ h3288 ?_ ?_))
   ·
    intro Xo X02 eo3287;subst eo3287;refine X7.glue ?_;try dsimp only at h
    rcases X02 with ⟨_|_,X1p⟩
    ·
     revert h;exact brI (λh3289=>λe=>oj e▸X8 [.el (aI .i64 (Xo.length:Int)),Bt] (k:=fi)) λh3289=>λe=>oj e▸X8 [.el (aI .i64 (Xo.length:Int)),Bf] (k:=fi)
    obtain rfl:=X1p rfl;revert h;exact brI (λh3290=>λe=>oj e▸X8 [.el (aI .i64 (List.length ([]:List X3):Int)),Bt] (k:=fi)) λh3290=>λe=>oj e▸X8 [.el (aI .i64 (List.length ([]:List X3):Int)),Bf] (k:=fi)
   intro Xy Xa8 Xx eo3287;subst eo3287;refine X7.glue ?_;try dsimp only at h
   rcases Xx with ⟨_|_,X1o⟩<;>(try obtain rfl:=X1o rfl);all_goals
    revert h;exact λe=>oj e▸X8 [] (k:=fi)
  clear h;revert h30;intro h;refine X7.inline Xf fn59 rfl rfl rfl rfl rfl trivial trivial rfl rfl ?_;revert h;refine brI (λq=>?_) λq=>?_
  ·
   intro h;have h25:a0=[]:=List.isEmpty_iff.1 q;refine X0q [] ?_;refine X7.eqNil Xf (may:=true) rfl rfl rfl rfl rfl rfl trivial (by simp[X6n, *]) λb26 qb26=>?_;cases b26
   ·
    obtain rfl:=oj h;refine X0q [Bf,.ne false] ?_;refine X7.back (by intro id h;cases h) rfl ?_;exact wkT [] ((J nbS))
   obtain rfl:=oj h;refine X0q [Bt] ?_;refine X7.back (by intro id h;cases h) rfl ?_;exact wkT [] ((J nbS))
  intro h;have h25:¬ (a0=[]):=(λe=>by rw[e] at q;cases q);refine X0q [] ?_;refine X7.eqNil Xf (may:=false) rfl rfl rfl rfl rfl rfl trivial (by simp[X6n, *]) λb27 qb27=>?_;obtain rfl:=qb27 rfl;revert h;refine bI λu28 h29=>?_;intro h;obtain rfl:=oj h;refine X0q [Bf,.via (Lt (a0.map X1))] (o:=by repeat' first|apply Ya|exact pcM|(refine X1r h29 rfl ?_;first|(simp<;>omega)|(simp[h3,h6,h7,h8,h25]<;>omega))|(refine X0p h29 (by decide) ?_;first|(simp<;>omega)|(simp[h3,h6,h7,h8,h25]<;>omega))|exact X24) ?_;refine X7.back (by intro id h;cases h) rfl ?_;exact wkT [(3,4)] ((J nbF))
 refine bI λv14 h15=>brI (λh16=>λe=>X8 [.pure _ (X0r v14),.ix 0] (o:=by repeat' first|apply Ya|exact pcM|exact((eq_of_beq h16))|exact X24) (k:=wJ [] J)) λh16=>brI (λh17=>λe=>X8 [.pure _ (X0r v14),.ix 1] (o:=by repeat' first|apply Ya|exact pcM|exact((eq_of_beq h17))|exact X24) (k:=wJ [] J)) λh17=>?_;intro h;cases h⟩
instance X02q:PZ 64 (∀ (a0:Int) (a1:X0z) (r:Int×Int),X6f a0 a1=some r->Pz 64 [(aI .u8 a0),(X0r a1)] (AV.tup [(aI .i64 r.1),(aI .i64 r.2)])):=⟨λa0 a1 r=>by
 unfold X6f;refine psI fn64 34<|brI (λh1=>λe=>oj e▸X8 [Bt] (k:=fi)) λh1=>bI λv2 h3=>brI (λh4=>λe=>oj e▸X8 [Bf,.pure _ (aI .i64 v2),Bt] (k:=fi)) λh4=>brI (λh5=>λe=>oj e▸X8 [Bf,.pure _ (aI .i64 v2),Bf,Bt] (k:=fi)) λh5=>bI λX0aq h17=>rnI [Bf,.pure _ (aI .i64 v2),Bf,Bf,.stop 9] ?_;refine jnI ⟨fr [(4,(aI .i64 X0aq)),(5,(aI .i64 0))],hp ([]),0⟩ h17 (λe=>oj e▸X8 [] (k:=fi)) λJ=>?_;refine brI (λh12=>λe=>X8 [.ix 0] (o:=by repeat' first|apply Ya|exact pcM|exact((eq_of_beq h12))|exact X24) (k:=wJ [] J)) λh12=>brI (λh13=>λe=>X8 [.ix 1] (o:=by repeat' first|apply Ya|exact pcM|exact((eq_of_beq h13))|exact X24) (k:=wJ [] J)) λh13=>brI (λh14=>λe=>X8 [.ix 2] (o:=by repeat' first|apply Ya|exact pcM|exact((eq_of_beq h14))|exact X24) (k:=wJ [] J)) λh14=>brI (λh15=>λe=>X8 [.ix 3] (o:=by repeat' first|apply Ya|exact pcM|exact((eq_of_beq h15))|exact X24) (k:=wJ [] J)) λh15=>brI (λh16=>λe=>X8 [.ix 4] (o:=by repeat' first|apply Ya|exact pcM|exact((eq_of_beq h16))|exact X24) (k:=wJ [] J)) λh16=>?_;intro h;cases h⟩
instance X03q:PZ 32 (∀ (a0:Xb) (a1:X3) (r:X5v×Bool),X9x a0 a1=some r->Pz 32 [(Xc false a0),(X1 a1)] (AV.tup [(Xv r.1),(aB r.2)])):=⟨λa0 a1 r=>by
 unfold X9x;refine psI fn32 44<|rnI [] ?_;refine rdI<|bI λv3 h4=>brI (λh5=>λe=>oj e▸X8 [Bt,Gf,Gf,Gf,Bf,.ix 0,.pure _ (AV.tup [(aI .i64 v3.1),(aI .i64 v3.2)]),Bt] (k:=fi)) λh5=>rnI [Bt,Gf,Gf,Gf,Bf,.ix 0,.pure _ (AV.tup [(aI .i64 v3.1),(aI .i64 v3.2)]),Bf,.ix 0] ?_;refine rdI<|brI (λh6=>λe=>oj e▸X8 [Bt,Gt,Gt,Gt,Bt] (k:=fi)) λh6=>bI λv9 h10=>brI (λh11=>λe=>oj e▸X8 [Bt,Gt,Gt,Gt,Bf,.ix 1,.pure _ (AV.tup [(aI .i64 v9.1),(aI .i64 v9.2)]),Bt] (k:=fi)) λh11=>rnI [Bt,Gt,Gt,Gt,Bf,.ix 1,.pure _ (AV.tup [(aI .i64 v9.1),(aI .i64 v9.2)]),Bf,.ix 1] ?_;exact rdI<|λe=>oj e▸X8 [Bf] (k:=fi)⟩
theorem X5g {Q:Qt} {μ:Mu} (Xjl:Xb) (Xls:(List X9)) (Xps:Int) (Xpr:(List (List Xs))) (Xpq:Int) (Xpp:Int) (Xi6:(List X9)) (Xj7:Nb Xls) (hl:Xi6.length<=140737488355328):∀ (xs:List X9) (k:Nat) (hx:Xi6.drop k=xs) (Xjm:(List X3)) (o:X5x) (h:X2d Xjl Xls Xps Xpr Xpq Xpp Xi6 xs k Xjm=some o)
  (C0:∀ (X99:(List X3)) (X79:(List X9)) (X4n:Nb X79),o=X5x.x0 X99 X79->SK 119 Q (.exit (.exit 2)) [] ⟨fr [(2,(AV.ptr 0 0 0)),(10,(Lt (X99.map X1))),(11,(slE X4n.1 1 (X79.map X2))),(46,(Lf (List.map (X6t false Xg) Xpr))),(47,(aI .i64 Xpq)),(48,(aI .i64 Xpp))],hp ([(0,Ob [(Xc false Xjl)] 10)]++opE X4n.1 1 3 (X79.map X2)),2⟩ μ)
  (C1:∀ (X78:(List X5v)) (X77:(List X9)) (Xco:Int) (X4m:Nb X78) (X2k:Nb X77),o=X5x.x1 X78 X77 Xco->Sr 119 Q [(4,(slE X4m.1 0 (X78.map Xv))),(5,(slE X2k.1 1 (X77.map X2))),(6,(aI .i64 Xco))] ([]++opE X4m.1 0 5 (X78.map Xv)++opE X2k.1 1 3 (X77.map X2)) 2 μ),
  SK 119 Q (.loop (X64 1 (X1l Tryz.f17))) [] ⟨fr [(2,(AV.ptr 0 0 0)),(10,(Lt (Xjm.map X1))),(11,(slE Xj7.1 1 (Xls.map X2))),(12,(aI .i64 Xps)),(46,(Lf (List.map (X6t false Xg) Xpr))),(47,(aI .i64 Xpq)),(48,(aI .i64 Xpp)),(65,(Lt (Xi6.map X2))),(66,(aI .i64 (Xi6.length:Int))),(67,(aI .i64 (k:Int)))],hp ([(0,Ob [(Xc false Xjl)] 10)]++opE Xj7.1 1 3 (Xls.map X2)),2⟩ μ:=by
 intro xs
 induction xs with
 |nil =>
  intro k hx Xjm o h C0 C1;have hk:=drop_nil hx;have hc:=lpN hx;rw[X2d] at h;rcases Xj7 with ⟨_|_,Xot⟩
  ·
   refine X7.round ?_;revert h;exact λe=>X8 [Bf] (k:=wkT [] (C0 _ _  nbF (oj e).symm))
  ·
   obtain rfl:=Xot rfl;refine X7.round ?_;revert h;exact λe=>X8 [Bf] (k:=wkT [] (C0 _ _  nbS (oj e).symm))
 |cons x xs ih =>
  intro k hx Xjm o h C0 C1;obtain⟨hk,hg,hx1⟩:=drop_cons hx;have hc:=lpC hx;rw[X2d] at h;rcases Xj7 with ⟨_|_,Xot⟩
  ·
   refine X7.round ?_;revert h;refine bI λv482 h483=>brI (λh484=>?_) λh484=>?_
   ·
    refine rnI [Bt,.el (X2 x),.pure _ (AV.tup [(X2 v482.1),(aB v482.2)]),Bt] ?_;intro h;exact wkT [] (ih (k+1) hx1 _ o h C0 C1)
   refine bI λXsz h488=>rnI [Bt,.el (X2 x),.pure _ (AV.tup [(X2 v482.1),(aB v482.2)]),Bf] ?_;refine jnI ⟨fr [(2,(AV.ptr 0 0 0)),(10,(Lt (Xjm.map X1))),(11,(AV.ref 1 0 (Xls.length))),(12,(aI .i64 Xps)),(19,(AV.ptr 2 0 0)),(21,(aI .i64 Xsz)),(46,(Lf (List.map (X6t false Xg) Xpr))),(47,(aI .i64 Xpq)),(48,(aI .i64 Xpp)),(65,(Lt (Xi6.map X2))),(66,(aI .i64 (Xi6.length:Int))),(67,(aI .i64 (k:Int)))],hp ([(0,Ob [(Xc false Xjl)] 10),(1,Ob (Xls.map X2) 3),(2,Ob [(X2 v482.1)] 3)]),3⟩ h488 ?_ λJ=>brI (λh487=>λe=>X8 [Bt] (k:=wJ [(2,3)] J)) λh487=>λe=>X8 [Bf] (k:=wJ [(2,3)] J);refine bI λv489 h490=>brI (λh491=>λe=>X8 [.pure _ (AV.tup [(Lt (v489.1.map X1)),(aI .i64 v489.2)]),Bt] (k:=wkT [] (C1 _ _ _  nbS nbS (oj e).symm))) λh491=>rnI [.pure _ (AV.tup [(Lt (v489.1.map X1)),(aI .i64 v489.2)]),Bf] ?_;intro h;exact wkT [] (ih (k+1) hx1 _ o h C0 C1)
  obtain rfl:=Xot rfl;refine X7.round ?_;revert h;refine bI λv492 h493=>brI (λh494=>?_) λh494=>?_
  ·
   refine rnI [Bt,.el (X2 x),.pure _ (AV.tup [(X2 v492.1),(aB v492.2)]),Bt] ?_;intro h;exact wkT [] (ih (k+1) hx1 _ o h C0 C1)
  refine bI λX0ai h498=>rnI [Bt,.el (X2 x),.pure _ (AV.tup [(X2 v492.1),(aB v492.2)]),Bf] ?_;refine jnI ⟨fr [(2,(AV.ptr 0 0 0)),(10,(Lt (Xjm.map X1))),(11,AV.nils),(12,(aI .i64 Xps)),(19,(AV.ptr 2 0 0)),(21,(aI .i64 X0ai)),(46,(Lf (List.map (X6t false Xg) Xpr))),(47,(aI .i64 Xpq)),(48,(aI .i64 Xpp)),(65,(Lt (Xi6.map X2))),(66,(aI .i64 (Xi6.length:Int))),(67,(aI .i64 (k:Int)))],hp ([(0,Ob [(Xc false Xjl)] 10),(2,Ob [(X2 v492.1)] 3)]),3⟩ h498 ?_ λJ=>brI (λh497=>λe=>X8 [Bt] (k:=wJ [(2,3)] J)) λh497=>λe=>X8 [Bf] (k:=wJ [(2,3)] J);refine bI λv499 h500=>brI (λh501=>λe=>X8 [.pure _ (AV.tup [(Lt (v499.1.map X1)),(aI .i64 v499.2)]),Bt] (k:=wkT [] (C1 _ _ _  nbS nbS (oj e).symm))) λh501=>rnI [.pure _ (AV.tup [(Lt (v499.1.map X1)),(aI .i64 v499.2)]),Bf] ?_;intro h;exact wkT [] (ih (k+1) hx1 _ o h C0 C1)
end Go.Av.Tryz