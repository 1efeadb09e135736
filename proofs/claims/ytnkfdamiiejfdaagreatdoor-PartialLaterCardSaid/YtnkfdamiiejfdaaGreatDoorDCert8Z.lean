/- Printed by decomp.py: that the program computes the functions. -/
import Derived.Test.YtnkfdamiiejfdaaGreatDoorDCert7Z
set_option linter.all false

namespace Go.Av.Tryz
open Go.Proofs Go.D Go.Proofs.Tryz
set_option maxRecDepth 10000
set_option maxHeartbeats 40000000
instance Xh7:PZ 23 (∀ (a0:(List X4)) (a1:X0r) (a2:X6) (a3:Int) (r:(List X4)×Int),X7u a0 a1 a2 a3=some r->Pz 23 [(Lf (a0.map X1)),(X39 a1),(X0 a2),(aI .i64 a3)] (AV.tup [(Lt (r.1.map X1)),(aI .i64 r.2)])):=⟨λa0 a1 a2 a3 r h=>by
 refine X15.sym X2 fn23 (nt:=112) rfl rfl ?_ okM;unfold X7u at h;revert h;refine bI λv1 h2=>brI (λh3=>λe=>oj e▸X8 [.pure _ (aI .i64 v1),Bt] (k:=fi)) λh3=>bI λv4 h5=>brI (λh6=>λe=>oj e▸X8 [.pure _ (aI .i64 v1),Bf,.pure _ (aI .i64 v4),Bt] (k:=fi)) λh6=>brI (λh7=>λe=>oj e▸X8 [.pure _ (aI .i64 v1),Bf,.pure _ (aI .i64 v4),Bf,Bt] (k:=fi)) λh7=>brI (λh8=>λe=>oj e▸X8 [.pure _ (aI .i64 v1),Bf,.pure _ (aI .i64 v4),Bf,Bf,Bt] (k:=fi)) λh8=>bI λXhg h18=>rnI [.pure _ (aI .i64 v1),Bf,.pure _ (aI .i64 v4),Bf,Bf,Bf,.stop 12] ?_;intro h;refine jn [(0,(Lf (a0.map X1))),(5,(AV.ptr 0 0 0)),(6,(AV.ptr 1 0 0)),(12,(AV.ptr 2 0 0))] ([(0,Ob [(X39 a1)] 3),(1,Ob [(X0 a2)] 3),(2,Ob [(X1 Xhg)] 11)]) 3 ?_ (λJ=>X5.cut ?_)
 ·
  revert h;refine bI λXhf h30=>rnI [] ?_;intro h;refine X5.joinOpF (λ(q:Nb Xhf)=>⟨fr [(5,(AV.ptr 0 0 0)),(6,(AV.ptr 1 0 0)),(12,(AV.ptr 2 0 0)),(52,(slE q.1 3 (Xhf.map X1)))],hp ([(0,Ob [(X39 a1)] 3),(1,Ob [(X0 a2)] 3),(2,Ob [(X1 Xhg)] 11)]++opE q.1 3 11 (Xhf.map X1)),4⟩) ?_ (λJ=>?_)
  ·
   rintro Xyw;rcases Xyw with ⟨_|_,X000⟩
   ·
    revert h;refine brI (λh31=>?_) λh31=>?_
    ·
     refine bI λw50 h69=>?_;intro h;obtain⟨Xzf,X03u⟩:=w50;try dsimp only at h
     refine X0f [Bt] ?_;refine X5.joinOpF (λ(q:Nb Xzf)=>⟨fr [(12,(AV.ptr 0 0 0)),(13,(AV.ref 1 0 (Xhf.length))),(62,(AV.tup [(slE q.1 2 (Xzf.map Xx)),(aI .i64 X03u)]))],hp ([(0,Ob [(X1 Xhg)] 11),(1,Ob (Xhf.map X1) 11)]++opE q.1 2 2 (Xzf.map Xx)),3⟩) ?_ (λJ=>?_)
     ·
      rintro Xyu;rcases Xyu with ⟨_|_,Xzy⟩
      ·
       revert h;refine brI (λh70=>λe=>oj e▸X8 [Bt] (k:=fi)) λh70=>bI λe71 h72=>?_;try have qh72:=Xm h72
       refine bI λw811 h1550=>?_;intro h;obtain⟨Xjt,Xzd⟩:=w811;try dsimp only at h
       refine X0f [Bf,.el (Xx e71),.ld (Xx e71)] ?_;refine X5.joinOpF (λ(q:Nb Xjt)=>⟨fr [(75,(AV.tup [(slE q.1 0 (Xjt.map X1)),(aI .i64 Xzd)]))],hp ([]++opE q.1 0 11 (Xjt.map X1)),1⟩) ?_ (λJ=>?_)
       ·
        rintro Xv2;rcases Xv2 with ⟨_|_,Xvz⟩
        ·
         revert h;exact brI (λh1551=>λe=>oj e▸X8 [Bt] (k:=fi)) λh1551=>brI (λh1552=>λe=>oj e▸X8 [Bf,.el (aI .i64 (Xjt.length:Int)),Bt] (k:=fi)) λh1552=>λe=>oj e▸X8 [Bf,.el (aI .i64 (Xjt.length:Int)),Bf] (k:=fi)
        obtain rfl:=Xvz rfl;revert h;exact brI (λh1553=>λe=>oj e▸X8 [Bt] (k:=fi)) λh1553=>brI (λh1554=>λe=>oj e▸X8 [Bf,.el (aI .i64 (List.length ([]:List X4):Int)),Bt] (k:=fi)) λh1554=>λe=>oj e▸X8 [Bf,.el (aI .i64 (List.length ([]:List X4):Int)),Bf] (k:=fi)
       clear h;revert h1550;intro h;refine X5.inline X2 fn56 rfl rfl rfl rfl rfl trivial trivial rfl rfl ?_;revert h;refine bI λo1548 h1549=>rnI [] ?_;intro h;refine wkT [(3,1),(4,3)] (X5.cut (X5f _ _ _ nbF _ h1549 ?_));intro X25 Xip X1j eo1548;subst eo1548;refine X5.glue ?_;try dsimp only at h
       rcases X1j with ⟨_|_,X5c⟩
       ·
        simp only[Option.some.injEq,Prod.mk.injEq] at h;obtain⟨rfl,rfl⟩:=h;refine X0f [] ?_;refine X5.back (by intro id h;cases h) rfl ?_;exact wkT [(0,3)] ((J nbF))
       obtain rfl:=X5c rfl;simp only[Option.some.injEq,Prod.mk.injEq] at h;obtain⟨rfl,rfl⟩:=h;refine X0f [] ?_;refine X5.back (by intro id h;cases h) rfl ?_;exact wkT [] ((J nbS))
      obtain rfl:=Xzy rfl;revert h;refine brI (λh1555=>λe=>oj e▸X8 [Bt] (k:=fi)) λh1555=>bI λe1556 h1557=>?_;try have qh1557:=Xm h1557
      intro h
      first|exact absurd (h1557) (by simp[X18];done)|(simp[X18,h3,h6,h7,h8,h31,h1555] at h;done)|(simp[h3,h6,h7,h8,h31,h1555] at hg;done)|exact absurd (h1557) (by simp[X18,h3,h6,h7,h8,h31,h1555];done)
     clear h;revert h69;intro h;refine X5.inline X2 fn55 rfl rfl rfl rfl rfl trivial trivial rfl rfl ?_;revert h;refine bI λv51 h52=>brI (λh53=>?_) λh53=>?_
     ·
      intro h;simp only[Option.some.injEq,Prod.mk.injEq] at h;obtain⟨rfl,rfl⟩:=h;refine X0f [.pure _ (aI .i64 v51),Bt] ?_;refine X5.back (by intro id h;cases h) rfl ?_;exact wkT [(0,2),(1,3)] ((J nbS))
     refine rnI [.pure _ (aI .i64 v51),Bf,Bf] ?_;intro h;refine X5.round ?_;revert h;refine bI λv54 h55=>brI (λh56=>?_) λh56=>?_
     ·
      intro h;simp only[Option.some.injEq,Prod.mk.injEq] at h;obtain⟨rfl,rfl⟩:=h;refine X0f [Bt,.el ((aI .i64 a2.Time)),.pure _ (aI .i64 v54),Bt] ?_;refine X5.back (by intro id h;cases h) rfl ?_;exact wkT [(0,2),(1,3)] ((J nbS))
     refine rnI [Bt,.el ((aI .i64 a2.Time)),.pure _ (aI .i64 v54),Bf,.wrap,.no] ?_;intro h;refine X5.round ?_;refine X0f [Bf] ?_;refine X5.inline X2 fn89 rfl rfl rfl rfl rfl trivial trivial rfl rfl ?_;refine X0f [] ?_;refine X5.inline X2 X0de rfl rfl rfl rfl rfl trivial trivial rfl rfl ?_;refine X0f [] ?_;refine X5.eqNil X2 (may:=false) rfl rfl rfl rfl rfl rfl trivial rfl λb64 qb64=>?_;obtain rfl:=qb64 rfl;refine X0f [Bf,.no] ?_;refine X5.back (by intro id h;cases h) rfl ?_;refine X0f [] ?_;refine X5.inline X2 X0dd rfl rfl rfl rfl rfl trivial trivial rfl rfl ?_;revert h;refine bI λv67 h68=>rnI [.wrap,.pure _ (aI .i64 v67)] ?_;intro h;refine X5.inline X2 X0db rfl rfl rfl rfl rfl trivial trivial rfl rfl ?_;refine X0f [] ?_;refine X5.round ?_;refine X0f [Bt] ?_;refine X5.inline X2 X0d9 rfl rfl rfl rfl rfl trivial trivial rfl rfl ?_;refine X0f [] ?_;refine X5.round ?_;refine X0f [Bf] ?_;refine X5.back (by intro id h;cases h) rfl ?_;refine X0f [] ?_;refine X5.back (by intro id h;cases h) rfl ?_;refine X0f [] ?_;refine X5.back (by intro id h;cases h) rfl ?_;refine X0f [] ?_;refine X5.round ?_;refine X0f [Bt,.el (AV.agg [(aI .i64 a2.Time),(aI .i64 (IntKind.i64.wrap (a2.Time+a1.Size)))]),Gf,Gf,Gf,Gf,Gf,Gf,Gf,Gf,Gf,Gf,Bf,.no] ?_;refine X5.round ?_;refine X0f [Bf] ?_;refine X5.back (by intro id h;cases h) rfl ?_;simp only[Option.some.injEq,Prod.mk.injEq] at h;obtain⟨rfl,rfl⟩:=h;refine X0f [] ?_;refine X5.back (by intro id h;cases h) rfl ?_;exact wkT [(0,2),(1,3),(2,24)] ((J nbF))
    refine bI λv1558 h1559=>brI (λh1560=>λe=>oj e▸X8 [Bf,.pure _ (AV.tup [(Lt (v1558.1.map Xx)),(aI .i64 v1558.2)]),Bt] (k:=fi)) λh1560=>bI λu1561 h1562=>?_;have qh1562:=X05 h1562;refine bI λo1984 h1985=>rnI [Bf,.pure _ (AV.tup [(Lt (v1558.1.map Xx)),(aI .i64 v1558.2)]),Bf,.el (aI .i64 (v1558.1.length:Int))] ?_;intro h;refine wkT [(0,2),(1,3)] (X5.cut (Xce v1558.1 qh1562 v1558.1 0 (by simp) _ _ nbF _ h1985 ?_ ?_))
    ·
     intro Xj Xu eo1984;subst eo1984;refine X5.glue ?_;try dsimp only at h
     rcases Xu with ⟨_|_,X1r⟩
     ·
      revert h;exact brI (λh1986=>λe=>oj e▸X8 [.el (aI .i64 (Xj.length:Int)),Bt] (k:=fi)) λh1986=>λe=>oj e▸X8 [.el (aI .i64 (Xj.length:Int)),Bf] (k:=fi)
     obtain rfl:=X1r rfl;revert h;exact brI (λh1987=>λe=>oj e▸X8 [.el (aI .i64 (List.length ([]:List X4):Int)),Bt] (k:=fi)) λh1987=>λe=>oj e▸X8 [.el (aI .i64 (List.length ([]:List X4):Int)),Bf] (k:=fi)
    intro X09 Xio X08 eo1984;subst eo1984;refine X5.glue ?_;try dsimp only at h
    rcases X08 with ⟨_|_,X31⟩<;>(try obtain rfl:=X31 rfl);all_goals
     revert h;exact λe=>oj e▸X8 [] (k:=fi)
   obtain rfl:=X000 rfl;revert h;refine brI (λh1988=>?_) λh1988=>?_
   ·
    refine bI λw2007 h2026=>?_;intro h;obtain⟨Xn5,Xvq⟩:=w2007;try dsimp only at h
    refine X0f [Bt] ?_;refine X5.joinOpF (λ(q:Nb Xn5)=>⟨fr [(12,(AV.ptr 0 0 0)),(13,AV.nils),(62,(AV.tup [(slE q.1 2 (Xn5.map Xx)),(aI .i64 Xvq)]))],hp ([(0,Ob [(X1 Xhg)] 11)]++opE q.1 2 2 (Xn5.map Xx)),3⟩) ?_ (λJ=>?_)
    ·
     rintro Xqw;rcases Xqw with ⟨_|_,Xs3⟩
     ·
      revert h;refine brI (λh2027=>λe=>oj e▸X8 [Bt] (k:=fi)) λh2027=>bI λe2028 h2029=>?_;try have qh2029:=Xm h2029
      refine bI λw2511 h2993=>?_;intro h;obtain⟨Xfr,Xvp⟩:=w2511;try dsimp only at h
      refine X0f [Bf,.el (Xx e2028),.ld (Xx e2028)] ?_;refine X5.joinOpF (λ(q:Nb Xfr)=>⟨fr [(75,(AV.tup [(slE q.1 0 (Xfr.map X1)),(aI .i64 Xvp)]))],hp ([]++opE q.1 0 11 (Xfr.map X1)),1⟩) ?_ (λJ=>?_)
      ·
       rintro Xqv;rcases Xqv with ⟨_|_,Xs2⟩
       ·
        revert h;exact brI (λh2994=>λe=>oj e▸X8 [Bt] (k:=fi)) λh2994=>brI (λh2995=>λe=>oj e▸X8 [Bf,.el (aI .i64 (Xfr.length:Int)),Bt] (k:=fi)) λh2995=>λe=>oj e▸X8 [Bf,.el (aI .i64 (Xfr.length:Int)),Bf] (k:=fi)
       obtain rfl:=Xs2 rfl;revert h;exact brI (λh2996=>λe=>oj e▸X8 [Bt] (k:=fi)) λh2996=>brI (λh2997=>λe=>oj e▸X8 [Bf,.el (aI .i64 (List.length ([]:List X4):Int)),Bt] (k:=fi)) λh2997=>λe=>oj e▸X8 [Bf,.el (aI .i64 (List.length ([]:List X4):Int)),Bf] (k:=fi)
      clear h;revert h2993;intro h;refine X5.inline X2 fn56 rfl rfl rfl rfl rfl trivial trivial rfl rfl ?_;revert h;refine bI λo2991 h2992=>rnI [] ?_;intro h;refine wkT [(4,3)] (X5.cut (X5f _ _ _ nbS _ h2992 ?_));intro X25 Xip X1j eo2991;subst eo2991;refine X5.glue ?_;try dsimp only at h
      rcases X1j with ⟨_|_,X5c⟩
      ·
       simp only[Option.some.injEq,Prod.mk.injEq] at h;obtain⟨rfl,rfl⟩:=h;refine X0f [] ?_;refine X5.back (by intro id h;cases h) rfl ?_;exact wkT [(0,3)] ((J nbF))
      obtain rfl:=X5c rfl;simp only[Option.some.injEq,Prod.mk.injEq] at h;obtain⟨rfl,rfl⟩:=h;refine X0f [] ?_;refine X5.back (by intro id h;cases h) rfl ?_;exact wkT [] ((J nbS))
     obtain rfl:=Xs3 rfl;revert h;refine brI (λh2998=>λe=>oj e▸X8 [Bt] (k:=fi)) λh2998=>bI λe2999 h3000=>?_;try have qh3000:=Xm h3000
     intro h
     first|exact absurd (h3000) (by simp[X18];done)|(simp[X18,h3,h6,h7,h8,h1988,h2998] at h;done)|(simp[h3,h6,h7,h8,h1988,h2998] at hg;done)|exact absurd (h3000) (by simp[X18,h3,h6,h7,h8,h1988,h2998];done)
    clear h;revert h2026;intro h;refine X5.inline X2 fn55 rfl rfl rfl rfl rfl trivial trivial rfl rfl ?_;revert h;refine bI λv2008 h2009=>brI (λh2010=>?_) λh2010=>?_
    ·
     intro h;simp only[Option.some.injEq,Prod.mk.injEq] at h;obtain⟨rfl,rfl⟩:=h;refine X0f [.pure _ (aI .i64 v2008),Bt] ?_;refine X5.back (by intro id h;cases h) rfl ?_;exact wkT [(0,2)] ((J nbS))
    refine rnI [.pure _ (aI .i64 v2008),Bf,Bf] ?_;intro h;refine X5.round ?_;revert h;refine bI λv2011 h2012=>brI (λh2013=>?_) λh2013=>?_
    ·
     intro h;simp only[Option.some.injEq,Prod.mk.injEq] at h;obtain⟨rfl,rfl⟩:=h;refine X0f [Bt,.el ((aI .i64 a2.Time)),.pure _ (aI .i64 v2011),Bt] ?_;refine X5.back (by intro id h;cases h) rfl ?_;exact wkT [(0,2)] ((J nbS))
    refine rnI [Bt,.el ((aI .i64 a2.Time)),.pure _ (aI .i64 v2011),Bf,.wrap,.no] ?_;intro h;refine X5.round ?_;refine X0f [Bf] ?_;refine X5.inline X2 fn89 rfl rfl rfl rfl rfl trivial trivial rfl rfl ?_;refine X0f [] ?_;refine X5.inline X2 X0de rfl rfl rfl rfl rfl trivial trivial rfl rfl ?_;refine X0f [] ?_;refine X5.eqNil X2 (may:=false) rfl rfl rfl rfl rfl rfl trivial rfl λb2021 qb2021=>?_;obtain rfl:=qb2021 rfl;refine X0f [Bf,.no] ?_;refine X5.back (by intro id h;cases h) rfl ?_;refine X0f [] ?_;refine X5.inline X2 X0dd rfl rfl rfl rfl rfl trivial trivial rfl rfl ?_;revert h;refine bI λv2024 h2025=>rnI [.wrap,.pure _ (aI .i64 v2024)] ?_;intro h;refine X5.inline X2 X0db rfl rfl rfl rfl rfl trivial trivial rfl rfl ?_;refine X0f [] ?_;refine X5.round ?_;refine X0f [Bt] ?_;refine X5.inline X2 X0d9 rfl rfl rfl rfl rfl trivial trivial rfl rfl ?_;refine X0f [] ?_;refine X5.round ?_;refine X0f [Bf] ?_;refine X5.back (by intro id h;cases h) rfl ?_;refine X0f [] ?_;refine X5.back (by intro id h;cases h) rfl ?_;refine X0f [] ?_;refine X5.back (by intro id h;cases h) rfl ?_;refine X0f [] ?_;refine X5.round ?_;refine X0f [Bt,.el (AV.agg [(aI .i64 a2.Time),(aI .i64 (IntKind.i64.wrap (a2.Time+a1.Size)))]),Gf,Gf,Gf,Gf,Gf,Gf,Gf,Gf,Gf,Gf,Bf,.no] ?_;refine X5.round ?_;refine X0f [Bf] ?_;refine X5.back (by intro id h;cases h) rfl ?_;simp only[Option.some.injEq,Prod.mk.injEq] at h;obtain⟨rfl,rfl⟩:=h;refine X0f [] ?_;refine X5.back (by intro id h;cases h) rfl ?_;exact wkT [(0,2),(2,24)] ((J nbF))
   refine bI λv3001 h3002=>brI (λh3003=>λe=>oj e▸X8 [Bf,.pure _ (AV.tup [(Lt (v3001.1.map Xx)),(aI .i64 v3001.2)]),Bt] (k:=fi)) λh3003=>bI λu3004 h3005=>?_;have qh3005:=X05 h3005;refine bI λo3287 h3288=>rnI [Bf,.pure _ (AV.tup [(Lt (v3001.1.map Xx)),(aI .i64 v3001.2)]),Bf,.el (aI .i64 (v3001.1.length:Int))] ?_;intro h;refine wkT [(0,2)] (X5.cut (Xce v3001.1 qh3005 v3001.1 0 (by simp) _ _ nbS _ h3288 ?_ ?_))
   ·
    intro Xj Xu eo3287;subst eo3287;refine X5.glue ?_;try dsimp only at h
    rcases Xu with ⟨_|_,X1r⟩
    ·
     revert h;exact brI (λh3289=>λe=>oj e▸X8 [.el (aI .i64 (Xj.length:Int)),Bt] (k:=fi)) λh3289=>λe=>oj e▸X8 [.el (aI .i64 (Xj.length:Int)),Bf] (k:=fi)
    obtain rfl:=X1r rfl;revert h;exact brI (λh3290=>λe=>oj e▸X8 [.el (aI .i64 (List.length ([]:List X4):Int)),Bt] (k:=fi)) λh3290=>λe=>oj e▸X8 [.el (aI .i64 (List.length ([]:List X4):Int)),Bf] (k:=fi)
   intro X09 Xio X08 eo3287;subst eo3287;refine X5.glue ?_;try dsimp only at h
   rcases X08 with ⟨_|_,X31⟩<;>(try obtain rfl:=X31 rfl);all_goals
    revert h;exact λe=>oj e▸X8 [] (k:=fi)
  clear h;revert h30;intro h;refine X5.inline X2 fn54 rfl rfl rfl rfl rfl trivial trivial rfl rfl ?_;revert h;refine brI (λq=>?_) λq=>?_
  ·
   intro h;have h25:a0=[]:=List.isEmpty_iff.1 q;refine X0f [] ?_;refine X5.eqNil X2 (may:=true) rfl rfl rfl rfl rfl rfl trivial (by simp[X64, *]) λb26 qb26=>?_;cases b26
   ·
    obtain rfl:=oj h;refine X0f [Bf,.ne false] ?_;refine X5.back (by intro id h;cases h) rfl ?_;exact wkT [] ((J nbS))
   obtain rfl:=oj h;refine X0f [Bt] ?_;refine X5.back (by intro id h;cases h) rfl ?_;exact wkT [] ((J nbS))
  intro h;have h25:¬ (a0=[]):=(λe=>by rw[e] at q;cases q);refine X0f [] ?_;refine X5.eqNil X2 (may:=false) rfl rfl rfl rfl rfl rfl trivial (by simp[X64, *]) λb27 qb27=>?_;obtain rfl:=qb27 rfl;revert h;refine bI λu28 h29=>?_;intro h;obtain rfl:=oj h;refine X0f [Bf,.via (Lt (a0.map X1))] (o:=by repeat' first|apply Ya|exact pcM|(refine X0g h29 rfl ?_;first|(simp<;>omega)|(simp[h3,h6,h7,h8,h25]<;>omega))|(refine Xv h29 (by decide) ?_;first|(simp<;>omega)|(simp[h3,h6,h7,h8,h25]<;>omega))|exact X1i) ?_;refine X5.back (by intro id h;cases h) rfl ?_;exact wkT [(3,4)] ((J nbF))
 clear h;revert h18;refine bI λv14 h15=>brI (λh16=>?_) λh16=>?_
 ·
  exact λe=>X8 [.pure _ (X0o v14),.ix 0] (o:=by repeat' first|apply Ya|exact pcM|exact((eq_of_beq h16))|exact X1i) (k:=wJ [] J)
 refine brI (λh17=>?_) λh17=>?_
 ·
  exact λe=>X8 [.pure _ (X0o v14),.ix 1] (o:=by repeat' first|apply Ya|exact pcM|exact((eq_of_beq h17))|exact X1i) (k:=wJ [] J)
 intro h;cases h⟩
instance X01h:PZ 59 (∀ (a0:Int) (a1:X0y) (r:Int×Int),X68 a0 a1=some r->Pz 59 [(aI .u8 a0),(X0o a1)] (AV.tup [(aI .i64 r.1),(aI .i64 r.2)])):=⟨λa0 a1 r h=>by
 refine X15.sym X2 fn59 (nt:=34) rfl rfl ?_ okM;unfold X68 at h;revert h;refine brI (λh1=>λe=>oj e▸X8 [Bt] (k:=fi)) λh1=>bI λv2 h3=>brI (λh4=>λe=>oj e▸X8 [Bf,.pure _ (aI .i64 v2),Bt] (k:=fi)) λh4=>brI (λh5=>λe=>oj e▸X8 [Bf,.pure _ (aI .i64 v2),Bf,Bt] (k:=fi)) λh5=>bI λX08z h17=>rnI [Bf,.pure _ (aI .i64 v2),Bf,Bf,.stop 9] ?_;intro h;refine jn [(4,(aI .i64 X08z)),(5,(aI .i64 0))] ([]) 0 ?_ (λJ=>X5.cut ?_)
 ·
  revert h;exact λe=>oj e▸X8 [] (k:=fi)
 clear h;revert h17;refine brI (λh12=>?_) λh12=>?_
 ·
  exact λe=>X8 [.ix 0] (o:=by repeat' first|apply Ya|exact pcM|exact((eq_of_beq h12))|exact X1i) (k:=wJ [] J)
 refine brI (λh13=>?_) λh13=>?_
 ·
  exact λe=>X8 [.ix 1] (o:=by repeat' first|apply Ya|exact pcM|exact((eq_of_beq h13))|exact X1i) (k:=wJ [] J)
 refine brI (λh14=>?_) λh14=>?_
 ·
  exact λe=>X8 [.ix 2] (o:=by repeat' first|apply Ya|exact pcM|exact((eq_of_beq h14))|exact X1i) (k:=wJ [] J)
 refine brI (λh15=>?_) λh15=>?_
 ·
  exact λe=>X8 [.ix 3] (o:=by repeat' first|apply Ya|exact pcM|exact((eq_of_beq h15))|exact X1i) (k:=wJ [] J)
 refine brI (λh16=>?_) λh16=>?_
 ·
  exact λe=>X8 [.ix 4] (o:=by repeat' first|apply Ya|exact pcM|exact((eq_of_beq h16))|exact X1i) (k:=wJ [] J)
 intro h;cases h⟩
instance X02d:PZ 24 (∀ (a0:X00) (a1:X4) (r:X1z×Bool),X9d a0 a1=some r->Pz 24 [(Xz false a0),(X1 a1)] (AV.tup [(Xa r.1),(aB r.2)])):=⟨λa0 a1 r h=>by
 refine X15.sym X2 fn24 (nt:=44) rfl rfl ?_ okM;unfold X9d at h;refine X0f [] ?_;refine X5.round ?_;revert h;refine bI λv3 h4=>brI (λh5=>λe=>oj e▸X8 [Bt,Gf,Gf,Gf,Bf,.ix 0,.pure _ (AV.tup [(aI .i64 v3.1),(aI .i64 v3.2)]),Bt] (k:=fi)) λh5=>rnI [Bt,Gf,Gf,Gf,Bf,.ix 0,.pure _ (AV.tup [(aI .i64 v3.1),(aI .i64 v3.2)]),Bf,.ix 0] ?_;intro h;refine X5.round ?_;revert h;refine brI (λh6=>λe=>oj e▸X8 [Bt,Gt,Gt,Gt,Bt] (k:=fi)) λh6=>bI λv9 h10=>brI (λh11=>λe=>oj e▸X8 [Bt,Gt,Gt,Gt,Bf,.ix 1,.pure _ (AV.tup [(aI .i64 v9.1),(aI .i64 v9.2)]),Bt] (k:=fi)) λh11=>rnI [Bt,Gt,Gt,Gt,Bf,.ix 1,.pure _ (AV.tup [(aI .i64 v9.1),(aI .i64 v9.2)]),Bf,.ix 1] ?_;intro h;refine X5.round ?_;revert h;exact λe=>oj e▸X8 [Bf] (k:=fi)⟩
theorem X5a {Q:Qt} {μ:Mu} (X4w:X00) (Xkq:(List X6)) (Xo6:Int) (Xo5:(List (List Xq))) (Xo4:Int) (Xo3:Int) (Xhp:(List X6)) (Xib:Nb Xkq) (hl:Xhp.length<=140737488355328):∀ (xs:List X6) (k:Nat) (hx:Xhp.drop k=xs) (Xir:(List X4)) (o:X5n) (h:X2b X4w Xkq Xo6 Xo5 Xo4 Xo3 Xhp xs k Xir=some o)
  (C0:∀ (X8p:(List X4)) (X73:(List X6)) (X4l:Nb X73),o=X5n.x0 X8p X73->SK 119 Q (.exit (.exit 2)) [] ⟨fr [(2,(AV.ptr 0 0 0)),(10,(Lt (X8p.map X1))),(11,(slE X4l.1 1 (X73.map X0))),(46,(Lf (List.map (X6v false Xk) Xo5))),(47,(aI .i64 Xo4)),(48,(aI .i64 Xo3))],hp ([(0,Ob [(Xz false X4w)] 10)]++opE X4l.1 1 3 (X73.map X0)),2⟩ μ)
  (C1:∀ (X72:(List X1z)) (X71:(List X6)) (Xca:Int) (X4k:Nb X72) (X2k:Nb X71),o=X5n.x1 X72 X71 Xca->Sr 119 Q [(4,(slE X4k.1 0 (X72.map Xa))),(5,(slE X2k.1 1 (X71.map X0))),(6,(aI .i64 Xca))] ([]++opE X4k.1 0 5 (X72.map Xa)++opE X2k.1 1 3 (X71.map X0)) 2 μ),
  SK 119 Q (.loop (X5b 1 (X10 Tryz.f7))) [] ⟨fr [(2,(AV.ptr 0 0 0)),(10,(Lt (Xir.map X1))),(11,(slE Xib.1 1 (Xkq.map X0))),(12,(aI .i64 Xo6)),(46,(Lf (List.map (X6v false Xk) Xo5))),(47,(aI .i64 Xo4)),(48,(aI .i64 Xo3)),(65,(Lt (Xhp.map X0))),(66,(aI .i64 (Xhp.length:Int))),(67,(aI .i64 (k:Int)))],hp ([(0,Ob [(Xz false X4w)] 10)]++opE Xib.1 1 3 (Xkq.map X0)),2⟩ μ:=by
 intro xs
 induction xs with
 |nil =>
  intro k hx Xir o h C0 C1;have hk:=X2n hx;have hc:=lpN hx;rw[X2b] at h;rcases Xib with ⟨_|_,Xng⟩
  ·
   refine X5.round ?_;revert h;exact λe=>X8 [Bf] (k:=wkT [] (C0 _ _  nbF (oj e).symm))
  ·
   obtain rfl:=Xng rfl;refine X5.round ?_;revert h;exact λe=>X8 [Bf] (k:=wkT [] (C0 _ _  nbS (oj e).symm))
 |cons x xs ih =>
  intro k hx Xir o h C0 C1;obtain⟨hk,hg,hx1⟩:=X1w hx;have hc:=lpC hx;rw[X2b] at h;rcases Xib with ⟨_|_,Xng⟩
  ·
   refine X5.round ?_;revert h;refine bI λv482 h483=>brI (λh484=>?_) λh484=>?_
   ·
    refine rnI [Bt,.el (X0 x),.pure _ (AV.tup [(X0 v482.1),(aB v482.2)]),Bt] ?_;intro h;exact wkT [] (ih (k+1) hx1 _ o h C0 C1)
   refine bI λXrl h488=>rnI [Bt,.el (X0 x),.pure _ (AV.tup [(X0 v482.1),(aB v482.2)]),Bf] ?_;intro h;refine jn [(2,(AV.ptr 0 0 0)),(10,(Lt (Xir.map X1))),(11,(AV.ref 1 0 (Xkq.length))),(12,(aI .i64 Xo6)),(19,(AV.ptr 2 0 0)),(21,(aI .i64 Xrl)),(46,(Lf (List.map (X6v false Xk) Xo5))),(47,(aI .i64 Xo4)),(48,(aI .i64 Xo3)),(65,(Lt (Xhp.map X0))),(66,(aI .i64 (Xhp.length:Int))),(67,(aI .i64 (k:Int)))] ([(0,Ob [(Xz false X4w)] 10),(1,Ob (Xkq.map X0) 3),(2,Ob [(X0 v482.1)] 3)]) 3 ?_ (λJ=>X5.cut ?_)
   ·
    revert h;refine bI λv489 h490=>brI (λh491=>λe=>X8 [.pure _ (AV.tup [(Lt (v489.1.map X1)),(aI .i64 v489.2)]),Bt] (k:=wkT [] (C1 _ _ _  nbS nbS (oj e).symm))) λh491=>rnI [.pure _ (AV.tup [(Lt (v489.1.map X1)),(aI .i64 v489.2)]),Bf] ?_;intro h;exact wkT [] (ih (k+1) hx1 _ o h C0 C1)
   clear h;revert h488;exact brI (λh487=>λe=>X8 [Bt] (k:=wJ [(2,3)] J)) λh487=>λe=>X8 [Bf] (k:=wJ [(2,3)] J)
  obtain rfl:=Xng rfl;refine X5.round ?_;revert h;refine bI λv492 h493=>brI (λh494=>?_) λh494=>?_
  ·
   refine rnI [Bt,.el (X0 x),.pure _ (AV.tup [(X0 v492.1),(aB v492.2)]),Bt] ?_;intro h;exact wkT [] (ih (k+1) hx1 _ o h C0 C1)
  refine bI λX08p h498=>rnI [Bt,.el (X0 x),.pure _ (AV.tup [(X0 v492.1),(aB v492.2)]),Bf] ?_;intro h;refine jn [(2,(AV.ptr 0 0 0)),(10,(Lt (Xir.map X1))),(11,AV.nils),(12,(aI .i64 Xo6)),(19,(AV.ptr 2 0 0)),(21,(aI .i64 X08p)),(46,(Lf (List.map (X6v false Xk) Xo5))),(47,(aI .i64 Xo4)),(48,(aI .i64 Xo3)),(65,(Lt (Xhp.map X0))),(66,(aI .i64 (Xhp.length:Int))),(67,(aI .i64 (k:Int)))] ([(0,Ob [(Xz false X4w)] 10),(2,Ob [(X0 v492.1)] 3)]) 3 ?_ (λJ=>X5.cut ?_)
  ·
   revert h;refine bI λv499 h500=>brI (λh501=>λe=>X8 [.pure _ (AV.tup [(Lt (v499.1.map X1)),(aI .i64 v499.2)]),Bt] (k:=wkT [] (C1 _ _ _  nbS nbS (oj e).symm))) λh501=>rnI [.pure _ (AV.tup [(Lt (v499.1.map X1)),(aI .i64 v499.2)]),Bf] ?_;intro h;exact wkT [] (ih (k+1) hx1 _ o h C0 C1)
  clear h;revert h498;exact brI (λh497=>λe=>X8 [Bt] (k:=wJ [(2,3)] J)) λh497=>λe=>X8 [Bf] (k:=wJ [(2,3)] J)
end Go.Av.Tryz