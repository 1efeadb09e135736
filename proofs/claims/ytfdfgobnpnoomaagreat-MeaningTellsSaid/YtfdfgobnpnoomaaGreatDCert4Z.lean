/- Printed by decomp.py: that the program computes the functions. -/
import Derived.Test.YtfdfgobnpnoomaaGreatDCert3Z
set_option linter.all false

namespace Go.Av.Tryz
open Go.Proofs Go.D
set_option maxRecDepth 10000
set_option maxHeartbeats 40000000
instance X00j:PCs Tryz.prog 48 (∀ (a0:Xw) (r:Int×Int),X98 a0=some r->X0j Tryz.prog 48 [(Xn false a0)] (AV.tup [(aI .i64 r.1),(aI .i64 r.2)])):=⟨fun a0 r h=>by
 refine X0j.sym X9 fn48 (nt:=20) rfl rfl ?_ okM
 unfold X98 at h
 revert h
 refine bI fun v1 h2=>brI (fun h3=>fun e=>oj e▸X7 [.pure _ (aI .i64 v1),Bt] (k:=fi)) fun h3=>bI fun w22 h41=>?_
 intro h
 obtain⟨X03b,X03a⟩:=w22
 try dsimp only at h
 refine X10 [.pure _ (aI .i64 v1),Bf] ?_
 refine X2.joinOp (s':=⟨fr [(17,(AV.tup [(aI .i64 X03b),(aI .i64 X03a)]))],hp ([]),0⟩) ?_ (fun J=>?_)
 ·
  revert h
  exact fun e=>oj e▸X7 [] (k:=fi)
 clear h;revert h41
 intro h
 refine X2.inline X9 fn74 rfl rfl rfl rfl rfl trivial trivial rfl rfl ?_
 refine X10 [] ?_
 refine X2.round ?_
 revert h
 refine brI (fun h23=>?_) fun h23=>?_
 ·
  refine rnI [Bt,.el (AV.agg [(Lf (a0.Arg.map X4)),(AV.fn 75 [])]),.el (aI .i64 (a0.Arg.length:Int)),Bt] ?_
  intro h
  refine X2.round ?_
  revert h
  refine brI (fun h24=>?_) fun h24=>?_
  ·
   refine rnI [Bt,.el (AV.agg [(Lf (a0.Where.map X4)),(AV.fn 76 [])]),.el (aI .i64 (a0.Where.length:Int)),Bt] ?_
   intro h
   refine X2.round ?_
   simp only[Option.some.injEq,Prod.mk.injEq] at h
   obtain⟨rfl,rfl⟩:=h
   refine X10 [Bf] ?_
   refine X2.back (by intro id h;cases h) rfl ?_
   exact wkT [] (J)
  refine bI fun v25 h26=>rnI [Bt,.el (AV.agg [(Lf (a0.Where.map X4)),(AV.fn 76 [])]),.el (aI .i64 (a0.Where.length:Int)),Bf,.pure _ (AV.tup [(aI .i64 v25.1),(aI .i64 v25.2)])] ?_
  refine brI (fun h27=>?_) fun h27=>?_
  ·
   refine bI fun e28 h29=>?_
   try have qh29:=Xv h29
   intro h
   simp only[Option.some.injEq,Prod.mk.injEq] at h
   obtain⟨rfl,rfl⟩:=h
   refine X10 [Bt,.el (X4 e28)] ?_
   refine X2.back (by intro id h;cases h) rfl ?_
   exact wkT [] (J)
  refine rnI [Bf] ?_
  intro h
  refine X2.round ?_
  simp only[Option.some.injEq,Prod.mk.injEq] at h
  obtain⟨rfl,rfl⟩:=h
  refine X10 [Bf] ?_
  refine X2.back (by intro id h;cases h) rfl ?_
  exact wkT [] (J)
 refine bI fun v30 h31=>rnI [Bt,.el (AV.agg [(Lf (a0.Arg.map X4)),(AV.fn 75 [])]),.el (aI .i64 (a0.Arg.length:Int)),Bf,.pure _ (AV.tup [(aI .i64 v30.1),(aI .i64 v30.2)])] ?_
 refine brI (fun h32=>?_) fun h32=>?_
 ·
  refine bI fun e33 h34=>?_
  try have qh34:=Xv h34
  intro h
  simp only[Option.some.injEq,Prod.mk.injEq] at h
  obtain⟨rfl,rfl⟩:=h
  refine X10 [Bt,.el (X4 e33)] ?_
  refine X2.back (by intro id h;cases h) rfl ?_
  exact wkT [] (J)
 refine rnI [Bf] ?_
 intro h
 refine X2.round ?_
 revert h
 refine brI (fun h35=>?_) fun h35=>?_
 ·
  refine rnI [Bt,.el (AV.agg [(Lf (a0.Where.map X4)),(AV.fn 76 [])]),.el (aI .i64 (a0.Where.length:Int)),Bt] ?_
  intro h
  refine X2.round ?_
  simp only[Option.some.injEq,Prod.mk.injEq] at h
  obtain⟨rfl,rfl⟩:=h
  refine X10 [Bf] ?_
  refine X2.back (by intro id h;cases h) rfl ?_
  exact wkT [] (J)
 refine bI fun v36 h37=>rnI [Bt,.el (AV.agg [(Lf (a0.Where.map X4)),(AV.fn 76 [])]),.el (aI .i64 (a0.Where.length:Int)),Bf,.pure _ (AV.tup [(aI .i64 v36.1),(aI .i64 v36.2)])] ?_
 refine brI (fun h38=>?_) fun h38=>?_
 ·
  refine bI fun e39 h40=>?_
  try have qh40:=Xv h40
  intro h
  simp only[Option.some.injEq,Prod.mk.injEq] at h
  obtain⟨rfl,rfl⟩:=h
  refine X10 [Bt,.el (X4 e39)] ?_
  refine X2.back (by intro id h;cases h) rfl ?_
  exact wkT [] (J)
 refine rnI [Bf] ?_
 intro h
 refine X2.round ?_
 simp only[Option.some.injEq,Prod.mk.injEq] at h
 obtain⟨rfl,rfl⟩:=h
 refine X10 [Bf] ?_
 refine X2.back (by intro id h;cases h) rfl ?_
 exact wkT [] (J)⟩
theorem Xjd {Q:X01->St->Mu->Prop} {μ:Mu} (Xe4:(List Xk)) (hl:Xe4.length<=140737488355328):∀ (xs:List Xk) (k:Nat) (hx:Xe4.drop k=xs) (Xf:(List Xc)) (Xi:(List Xc)) (X2i:Int) (X08:Nb Xf) (Xm:Nb Xi) (o:Xax) (h:X46 Xe4 xs k Xf Xi X2i=some o)
  (C0:∀ (Xg:(List Xc)) (X0r:(List Xc)) (Xl:Nb Xg) (X0t:Nb X0r),o=Xax.x0 Xg X0r->X2 Tryz.prog 47 0 Q (.exit (.exit 0)) [] ⟨fr [(2,(slE Xl.1 0 (Xg.map X0))),(3,(slE X0t.1 1 (X0r.map X0)))],hp ([]++opE Xl.1 0 3 (Xg.map X0)++opE X0t.1 1 3 (X0r.map X0)),2⟩ μ),
  X2 Tryz.prog 47 0 Q (.loop (X30 0 (Xj Tryz.f49))) [] ⟨fr [(2,(slE X08.1 0 (Xf.map X0))),(3,(slE Xm.1 1 (Xi.map X0))),(6,(AV.fn 105 [(AV.ptr 2 0 0)])),(16,(Lf (Xe4.map Xa))),(17,(aI .i64 (Xe4.length:Int))),(18,(aI .i64 (k:Int)))],hp ([(2,Ob [(aI .i64 X2i)] 1)]++opE X08.1 0 3 (Xf.map X0)++opE Xm.1 1 3 (Xi.map X0)),3⟩ μ:=by
 intro xs
 induction xs with
 |nil =>
  intro k hx Xf Xi X2i X08 Xm o h C0
  have hk:=drop_nil hx
  have hc:decide ((k:Int)<(Xe4.length:Int))=false:=Yf (by omega)
  rw[X46] at h
  rcases X08 with ⟨_|_,X1o⟩
  ·
   rcases Xm with ⟨_|_,X02⟩
   ·
    refine X2.round ?_
    revert h
    exact fun e=>X7 [Bf] (k:=wkT [] (C0 _ _  nbF nbF (oj e).symm))
   obtain rfl:=X02 rfl
   refine X2.round ?_
   revert h
   exact fun e=>X7 [Bf] (k:=wkT [] (C0 _ _  nbF nbS (oj e).symm))
  ·
   obtain rfl:=X1o rfl
   rcases Xm with ⟨_|_,X02⟩
   ·
    refine X2.round ?_
    revert h
    exact fun e=>X7 [Bf] (k:=wkT [] (C0 _ _  nbS nbF (oj e).symm))
   ·
    obtain rfl:=X02 rfl
    refine X2.round ?_
    revert h
    exact fun e=>X7 [Bf] (k:=wkT [] (C0 _ _  nbS nbS (oj e).symm))
 |cons x xs ih =>
  intro k hx Xf Xi X2i X08 Xm o h C0
  obtain⟨hk,hg,hx1⟩:=drop_cons hx
  have hc:decide ((k:Int)<(Xe4.length:Int))=true:=Yt (by omega)
  rw[X46] at h
  rcases X08 with ⟨_|_,X1o⟩
  ·
   rcases Xm with ⟨_|_,X02⟩
   ·
    refine X2.round ?_
    refine X10 [Bt,.el (Xa x)] ?_
    refine X2.inline X9 Xwq rfl rfl rfl rfl rfl trivial trivial rfl rfl ?_
    revert h
    refine bI fun Xo9 h190=>rnI [] ?_
    intro h
    refine X2.join (s':=⟨fr [(4,(aI .i64 X2i))],hp ([(0,Ob (Xf.map X0) 3),(1,Ob (Xi.map X0) 3),(2,Ob [(aI .i64 Xo9)] 1),(3,Ob [(Xa x)] 5)]),4⟩) ?_ (fun J=>X2.cut ?_)
    ·
     refine X10 [] ?_
     refine X2.back (by intro id h;cases h) rfl ?_
     revert h
     refine bI fun w197 h204=>?_
     intro h
     obtain⟨Xsr,Xsq⟩:=w197
     try dsimp only at h
     refine X10 [] ?_
     refine X2.joinF (fun(q:Nb Xsr×Nb Xsq)=>⟨fr [(2,(slE q.1.1 0 (Xsr.map X0))),(3,(slE q.2.1 1 (Xsq.map X0))),(6,(AV.fn 105 [(AV.ptr 2 0 0)])),(16,(Lf (Xe4.map Xa))),(17,(aI .i64 (Xe4.length:Int))),(18,(aI .i64 (k:Int)))],hp ([(2,Ob [(aI .i64 Xo9)] 1)]++opE q.1.1 0 3 (Xsr.map X0)++opE q.2.1 1 3 (Xsq.map X0)),3⟩) ?_ (fun J=>X2.cut ?_)
     ·
      rintro⟨Xvq,Xn0⟩
      rcases Xvq with ⟨_|_,Xwk⟩
      ·
       rcases Xn0 with ⟨_|_,Xi6⟩
       ·
        exact X7 [] (k:=wkT [] (ih (k+1) hx1 _ _ _ nbF nbF o h C0))
       obtain rfl:=Xi6 rfl
       exact X7 [] (k:=wkT [] (ih (k+1) hx1 _ _ _ nbF nbS o h C0))
      obtain rfl:=Xwk rfl
      rcases Xn0 with ⟨_|_,Xi6⟩
      ·
       exact X7 [] (k:=wkT [] (ih (k+1) hx1 _ _ _ nbS nbF o h C0))
      obtain rfl:=Xi6 rfl
      exact X7 [] (k:=wkT [] (ih (k+1) hx1 _ _ _ nbS nbS o h C0))
     clear h;revert h204
     refine brI (fun h198=>?_) fun h198=>?_
     ·
      intro h
      simp only[Option.some.injEq,Prod.mk.injEq] at h
      obtain⟨rfl,rfl⟩:=h
      exact X7 [Bt] (k:=wkT [] (X2.glue (J (nbF,nbF))))
     refine brI (fun h199=>?_) fun h199=>?_
     ·
      refine bI fun u200 h201=>?_
      intro h
      simp only[Option.some.injEq,Prod.mk.injEq] at h
      obtain⟨rfl,rfl⟩:=h
      exact X7 [Bf,Bt,.no] (o:=by repeat' first|apply Ya|exact pcM|(refine X0g h201 rfl ?_;first|(simp;done)|(simp;omega)|(simp[hc,h198,h199];done)|(simp[hc,h198,h199];omega))|(refine Xz h201 (by decide) ?_;first|(simp;done)|(simp;omega)|(simp[hc,h198,h199];done)|(simp[hc,h198,h199];omega))|exact X0k) (k:=wkT [(1,5)] (X2.glue (J (nbF,nbF))))
     refine bI fun u202 h203=>?_
     intro h
     simp only[Option.some.injEq,Prod.mk.injEq] at h
     obtain⟨rfl,rfl⟩:=h
     exact X7 [Bf,Bf,.no] (o:=by repeat' first|apply Ya|exact pcM|(refine X0g h203 rfl ?_;first|(simp;done)|(simp;omega)|(simp[hc,h198,h199];done)|(simp[hc,h198,h199];omega))|(refine Xz h203 (by decide) ?_;first|(simp;done)|(simp;omega)|(simp[hc,h198,h199];done)|(simp[hc,h198,h199];omega))|exact X0k) (k:=wkT [(0,5)] (X2.glue (J (nbF,nbF))))
    clear h;revert h190
    refine brI (fun h189=>?_) fun h189=>?_
    ·
     intro h
     obtain rfl:=oj h
     exact X7 [Bt] (k:=wkT [] (X2.glue J))
    intro h
    obtain rfl:=oj h
    exact X7 [Bf] (k:=wkT [] (X2.glue J))
   obtain rfl:=X02 rfl
   refine X2.round ?_
   refine X10 [Bt,.el (Xa x)] ?_
   refine X2.inline X9 Xwq rfl rfl rfl rfl rfl trivial trivial rfl rfl ?_
   revert h
   refine bI fun Xzl h212=>rnI [] ?_
   intro h
   refine X2.join (s':=⟨fr [(4,(aI .i64 X2i))],hp ([(0,Ob (Xf.map X0) 3),(2,Ob [(aI .i64 Xzl)] 1),(3,Ob [(Xa x)] 5)]),4⟩) ?_ (fun J=>X2.cut ?_)
   ·
    refine X10 [] ?_
    refine X2.back (by intro id h;cases h) rfl ?_
    revert h
    refine bI fun w219 h226=>?_
    intro h
    obtain⟨Xsp,Xso⟩:=w219
    try dsimp only at h
    refine X10 [] ?_
    refine X2.joinF (fun(q:Nb Xsp×Nb Xso)=>⟨fr [(2,(slE q.1.1 0 (Xsp.map X0))),(3,(slE q.2.1 1 (Xso.map X0))),(6,(AV.fn 105 [(AV.ptr 2 0 0)])),(16,(Lf (Xe4.map Xa))),(17,(aI .i64 (Xe4.length:Int))),(18,(aI .i64 (k:Int)))],hp ([(2,Ob [(aI .i64 Xzl)] 1)]++opE q.1.1 0 3 (Xsp.map X0)++opE q.2.1 1 3 (Xso.map X0)),3⟩) ?_ (fun J=>X2.cut ?_)
    ·
     rintro⟨Xvp,Xmz⟩
     rcases Xvp with ⟨_|_,Xwj⟩
     ·
      rcases Xmz with ⟨_|_,Xi5⟩
      ·
       exact X7 [] (k:=wkT [] (ih (k+1) hx1 _ _ _ nbF nbF o h C0))
      obtain rfl:=Xi5 rfl
      exact X7 [] (k:=wkT [] (ih (k+1) hx1 _ _ _ nbF nbS o h C0))
     obtain rfl:=Xwj rfl
     rcases Xmz with ⟨_|_,Xi5⟩
     ·
      exact X7 [] (k:=wkT [] (ih (k+1) hx1 _ _ _ nbS nbF o h C0))
     obtain rfl:=Xi5 rfl
     exact X7 [] (k:=wkT [] (ih (k+1) hx1 _ _ _ nbS nbS o h C0))
    clear h;revert h226
    refine brI (fun h220=>?_) fun h220=>?_
    ·
     intro h
     simp only[Option.some.injEq,Prod.mk.injEq] at h
     obtain⟨rfl,rfl⟩:=h
     exact X7 [Bt] (k:=wkT [] (X2.glue (J (nbF,nbS))))
    refine brI (fun h221=>?_) fun h221=>?_
    ·
     refine bI fun u222 h223=>?_
     intro h
     simp only[Option.some.injEq,Prod.mk.injEq] at h
     obtain⟨rfl,rfl⟩:=h
     exact X7 [Bf,Bt,.no] (o:=by repeat' first|apply Ya|exact pcM|(refine X0g h223 rfl ?_;first|(simp;done)|(simp;omega)|(simp[hc,h220,h221];done)|(simp[hc,h220,h221];omega))|(refine Xz h223 (by decide) ?_;first|(simp;done)|(simp;omega)|(simp[hc,h220,h221];done)|(simp[hc,h220,h221];omega))|exact X0k) (k:=wkT [(1,5)] (X2.glue (J (nbF,nbF))))
    refine bI fun u224 h225=>?_
    intro h
    simp only[Option.some.injEq,Prod.mk.injEq] at h
    obtain⟨rfl,rfl⟩:=h
    exact X7 [Bf,Bf,.no] (o:=by repeat' first|apply Ya|exact pcM|(refine X0g h225 rfl ?_;first|(simp;done)|(simp;omega)|(simp[hc,h220,h221];done)|(simp[hc,h220,h221];omega))|(refine Xz h225 (by decide) ?_;first|(simp;done)|(simp;omega)|(simp[hc,h220,h221];done)|(simp[hc,h220,h221];omega))|exact X0k) (k:=wkT [(0,5)] (X2.glue (J (nbF,nbS))))
   clear h;revert h212
   refine brI (fun h211=>?_) fun h211=>?_
   ·
    intro h
    obtain rfl:=oj h
    exact X7 [Bt] (k:=wkT [] (X2.glue J))
   intro h
   obtain rfl:=oj h
   exact X7 [Bf] (k:=wkT [] (X2.glue J))
  obtain rfl:=X1o rfl
  rcases Xm with ⟨_|_,X02⟩
  ·
   refine X2.round ?_
   refine X10 [Bt,.el (Xa x)] ?_
   refine X2.inline X9 Xwq rfl rfl rfl rfl rfl trivial trivial rfl rfl ?_
   revert h
   refine bI fun Xzj h234=>rnI [] ?_
   intro h
   refine X2.join (s':=⟨fr [(4,(aI .i64 X2i))],hp ([(1,Ob (Xi.map X0) 3),(2,Ob [(aI .i64 Xzj)] 1),(3,Ob [(Xa x)] 5)]),4⟩) ?_ (fun J=>X2.cut ?_)
   ·
    refine X10 [] ?_
    refine X2.back (by intro id h;cases h) rfl ?_
    revert h
    refine bI fun w241 h248=>?_
    intro h
    obtain⟨Xsn,Xsm⟩:=w241
    try dsimp only at h
    refine X10 [] ?_
    refine X2.joinF (fun(q:Nb Xsn×Nb Xsm)=>⟨fr [(2,(slE q.1.1 0 (Xsn.map X0))),(3,(slE q.2.1 1 (Xsm.map X0))),(6,(AV.fn 105 [(AV.ptr 2 0 0)])),(16,(Lf (Xe4.map Xa))),(17,(aI .i64 (Xe4.length:Int))),(18,(aI .i64 (k:Int)))],hp ([(2,Ob [(aI .i64 Xzj)] 1)]++opE q.1.1 0 3 (Xsn.map X0)++opE q.2.1 1 3 (Xsm.map X0)),3⟩) ?_ (fun J=>X2.cut ?_)
    ·
     rintro⟨Xvo,Xmy⟩
     rcases Xvo with ⟨_|_,Xwi⟩
     ·
      rcases Xmy with ⟨_|_,Xi4⟩
      ·
       exact X7 [] (k:=wkT [] (ih (k+1) hx1 _ _ _ nbF nbF o h C0))
      obtain rfl:=Xi4 rfl
      exact X7 [] (k:=wkT [] (ih (k+1) hx1 _ _ _ nbF nbS o h C0))
     obtain rfl:=Xwi rfl
     rcases Xmy with ⟨_|_,Xi4⟩
     ·
      exact X7 [] (k:=wkT [] (ih (k+1) hx1 _ _ _ nbS nbF o h C0))
     obtain rfl:=Xi4 rfl
     exact X7 [] (k:=wkT [] (ih (k+1) hx1 _ _ _ nbS nbS o h C0))
    clear h;revert h248
    refine brI (fun h242=>?_) fun h242=>?_
    ·
     intro h
     simp only[Option.some.injEq,Prod.mk.injEq] at h
     obtain⟨rfl,rfl⟩:=h
     exact X7 [Bt] (k:=wkT [] (X2.glue (J (nbS,nbF))))
    refine brI (fun h243=>?_) fun h243=>?_
    ·
     refine bI fun u244 h245=>?_
     intro h
     simp only[Option.some.injEq,Prod.mk.injEq] at h
     obtain⟨rfl,rfl⟩:=h
     exact X7 [Bf,Bt,.no] (o:=by repeat' first|apply Ya|exact pcM|(refine X0g h245 rfl ?_;first|(simp;done)|(simp;omega)|(simp[hc,h242,h243];done)|(simp[hc,h242,h243];omega))|(refine Xz h245 (by decide) ?_;first|(simp;done)|(simp;omega)|(simp[hc,h242,h243];done)|(simp[hc,h242,h243];omega))|exact X0k) (k:=wkT [(1,5)] (X2.glue (J (nbS,nbF))))
    refine bI fun u246 h247=>?_
    intro h
    simp only[Option.some.injEq,Prod.mk.injEq] at h
    obtain⟨rfl,rfl⟩:=h
    exact X7 [Bf,Bf,.no] (o:=by repeat' first|apply Ya|exact pcM|(refine X0g h247 rfl ?_;first|(simp;done)|(simp;omega)|(simp[hc,h242,h243];done)|(simp[hc,h242,h243];omega))|(refine Xz h247 (by decide) ?_;first|(simp;done)|(simp;omega)|(simp[hc,h242,h243];done)|(simp[hc,h242,h243];omega))|exact X0k) (k:=wkT [(0,5)] (X2.glue (J (nbF,nbF))))
   clear h;revert h234
   refine brI (fun h233=>?_) fun h233=>?_
   ·
    intro h
    obtain rfl:=oj h
    exact X7 [Bt] (k:=wkT [] (X2.glue J))
   intro h
   obtain rfl:=oj h
   exact X7 [Bf] (k:=wkT [] (X2.glue J))
  obtain rfl:=X02 rfl
  refine X2.round ?_
  refine X10 [Bt,.el (Xa x)] ?_
  refine X2.inline X9 Xwq rfl rfl rfl rfl rfl trivial trivial rfl rfl ?_
  revert h
  refine bI fun Xzf h256=>rnI [] ?_
  intro h
  refine X2.join (s':=⟨fr [(4,(aI .i64 X2i))],hp ([(2,Ob [(aI .i64 Xzf)] 1),(3,Ob [(Xa x)] 5)]),4⟩) ?_ (fun J=>X2.cut ?_)
  ·
   refine X10 [] ?_
   refine X2.back (by intro id h;cases h) rfl ?_
   revert h
   refine bI fun w263 h270=>?_
   intro h
   obtain⟨Xsl,Xsk⟩:=w263
   try dsimp only at h
   refine X10 [] ?_
   refine X2.joinF (fun(q:Nb Xsl×Nb Xsk)=>⟨fr [(2,(slE q.1.1 0 (Xsl.map X0))),(3,(slE q.2.1 1 (Xsk.map X0))),(6,(AV.fn 105 [(AV.ptr 2 0 0)])),(16,(Lf (Xe4.map Xa))),(17,(aI .i64 (Xe4.length:Int))),(18,(aI .i64 (k:Int)))],hp ([(2,Ob [(aI .i64 Xzf)] 1)]++opE q.1.1 0 3 (Xsl.map X0)++opE q.2.1 1 3 (Xsk.map X0)),3⟩) ?_ (fun J=>X2.cut ?_)
   ·
    rintro⟨Xvn,Xmx⟩
    rcases Xvn with ⟨_|_,Xwh⟩
    ·
     rcases Xmx with ⟨_|_,Xi3⟩
     ·
      exact X7 [] (k:=wkT [] (ih (k+1) hx1 _ _ _ nbF nbF o h C0))
     obtain rfl:=Xi3 rfl
     exact X7 [] (k:=wkT [] (ih (k+1) hx1 _ _ _ nbF nbS o h C0))
    obtain rfl:=Xwh rfl
    rcases Xmx with ⟨_|_,Xi3⟩
    ·
     exact X7 [] (k:=wkT [] (ih (k+1) hx1 _ _ _ nbS nbF o h C0))
    obtain rfl:=Xi3 rfl
    exact X7 [] (k:=wkT [] (ih (k+1) hx1 _ _ _ nbS nbS o h C0))
   clear h;revert h270
   refine brI (fun h264=>?_) fun h264=>?_
   ·
    intro h
    simp only[Option.some.injEq,Prod.mk.injEq] at h
    obtain⟨rfl,rfl⟩:=h
    exact X7 [Bt] (k:=wkT [] (X2.glue (J (nbS,nbS))))
   refine brI (fun h265=>?_) fun h265=>?_
   ·
    refine bI fun u266 h267=>?_
    intro h
    simp only[Option.some.injEq,Prod.mk.injEq] at h
    obtain⟨rfl,rfl⟩:=h
    exact X7 [Bf,Bt,.no] (o:=by repeat' first|apply Ya|exact pcM|(refine X0g h267 rfl ?_;first|(simp;done)|(simp;omega)|(simp[hc,h264,h265];done)|(simp[hc,h264,h265];omega))|(refine Xz h267 (by decide) ?_;first|(simp;done)|(simp;omega)|(simp[hc,h264,h265];done)|(simp[hc,h264,h265];omega))|exact X0k) (k:=wkT [(1,5)] (X2.glue (J (nbS,nbF))))
   refine bI fun u268 h269=>?_
   intro h
   simp only[Option.some.injEq,Prod.mk.injEq] at h
   obtain⟨rfl,rfl⟩:=h
   exact X7 [Bf,Bf,.no] (o:=by repeat' first|apply Ya|exact pcM|(refine X0g h269 rfl ?_;first|(simp;done)|(simp;omega)|(simp[hc,h264,h265];done)|(simp[hc,h264,h265];omega))|(refine Xz h269 (by decide) ?_;first|(simp;done)|(simp;omega)|(simp[hc,h264,h265];done)|(simp[hc,h264,h265];omega))|exact X0k) (k:=wkT [(0,5)] (X2.glue (J (nbF,nbS))))
  clear h;revert h256
  refine brI (fun h255=>?_) fun h255=>?_
  ·
   intro h
   obtain rfl:=oj h
   exact X7 [Bt] (k:=wkT [] (X2.glue J))
  intro h
  obtain rfl:=oj h
  exact X7 [Bf] (k:=wkT [] (X2.glue J))
instance X02z:PCs Tryz.prog 49 (∀ (a0:(List Xk)) (r:(List Xc)×(List Xc)×Int),Xcp a0=some r->X0j Tryz.prog 49 [(Lf (a0.map Xa))] (AV.tup [(AV.list true (r.1.map X0)),(AV.list true (r.2.1.map X0)),(aI .i64 r.2.2)])):=⟨fun a0 r h=>by
 refine X0j.sym X9 fn49 (nt:=47) rfl rfl ?_ okM
 unfold Xcp at h
 revert h
 refine bI fun v1 h2=>brI (fun h3=>fun e=>oj e▸X7 [.pure _ (aI .i64 v1),Bt] (k:=fi)) fun h3=>rnI [.pure _ (aI .i64 v1),Bf] ?_
 intro h
 refine X2.inline X9 fn71 rfl rfl rfl rfl rfl trivial trivial rfl rfl ?_
 refine X10 [] ?_
 refine X2.back (by intro id h;cases h) rfl ?_
 revert h
 refine bI fun u4 h5=>?_
 have qh5:=X09 h5
 refine bI fun o271 h272=>rnI [.el (aI .i64 (a0.length:Int))] ?_
 intro h
 refine wkT [(2,0)] (X2.cut (Xjd a0 qh5 a0 0 (by simp) _ _ _ nbS nbS _ h272 ?_))
 intro Xg X0r Xl X0t eo271;subst eo271
 refine X2.glue ?_
 try dsimp only at h
 rcases Xl with ⟨_|_,X0q⟩
 ·
  rcases X0t with ⟨_|_,X2p⟩
  ·
   revert h
   exact fun e=>oj e▸X7 [] (k:=fi)
  obtain rfl:=X2p rfl
  revert h
  exact fun e=>oj e▸X7 [] (k:=fi)
 obtain rfl:=X0q rfl
 rcases X0t with ⟨_|_,X2p⟩
 ·
  revert h
  exact fun e=>oj e▸X7 [] (k:=fi)
 obtain rfl:=X2p rfl
 revert h
 exact fun e=>oj e▸X7 [] (k:=fi)⟩
instance X022:PCs Tryz.prog 96 (∀ (a0:(List X03)) (r:Int),Xb0 a0=some r->X0j Tryz.prog 96 [(Lf (a0.map X4))] (aI .i64 r)):=⟨fun a0 r h=>by
 refine X0j.sym X9 fn96 (nt:=13) rfl rfl ?_ okM
 unfold Xb0 at h
 revert h
 exact bI fun v1 h2=>fun e=>oj e▸X7 [.pure _ (AV.tup [(aB v1.1),(aI .i64 v1.2.1),(aI .i64 v1.2.2)])] (k:=fi)⟩
instance X03j:PCs Tryz.prog 131 (∀ (a0:Bool) (r:Int),X3z a0=some r->X0j Tryz.prog 131 [(aB a0)] (aI .i64 r)):=⟨fun a0 r h=>by
 refine X0j.sym X9 X0bi (nt:=4) rfl rfl ?_ okM
 unfold X3z at h
 revert h
 exact brI (fun h1=>fun e=>oj e▸X7 [Bt] (k:=fi)) fun h1=>fun e=>oj e▸X7 [Bf] (k:=fi)⟩
instance Xn3:PCs Tryz.prog 97 (∀ (a0:Int) (a1:Int) (a2:Int) (r:Int×Int),Xem a0 a1 a2=some r->X0j Tryz.prog 97 [(aI .u8 a0),(aI .i64 a1),(aI .i64 a2)] (AV.tup [(aI .i64 r.1),(aI .i64 r.2)])):=⟨fun a0 a1 a2 r h=>by
 refine X0j.sym X9 fn97 (nt:=97) rfl rfl ?_ okM
 unfold Xem at h
 revert h
 refine brI (fun h1=>fun e=>oj e▸X7 [Bt,.wrap] (k:=fi)) fun h1=>brI (fun h2=>bI fun v3 h4=>fun e=>oj e▸X7 [Bf,Bt,.pure _ (aI .i64 v3)] (k:=fi)) fun h2=>brI (fun h5=>fun e=>oj e▸X7 [Bf,Bf,Bt,.wrap] (k:=fi)) fun h5=>brI (fun h6=>fun e=>oj e▸X7 [Bf,Bf,Bf,Bt,.wrap] (k:=fi)) fun h6=>brI (fun h7=>fun e=>oj e▸X7 [Bf,Bf,Bf,Bf,Bt,.wrap] (k:=fi)) fun h7=>brI (fun h8=>bI fun u9 h10=>fun e=>oj e▸X7 [Bf,Bf,Bf,Bf,Bf,Bt,.wrap] (k:=fi)) fun h8=>brI (fun h11=>bI fun u12 h13=>fun e=>oj e▸X7 [Bf,Bf,Bf,Bf,Bf,Bf,Bt] (k:=fi)) fun h11=>brI (fun h14=>bI fun v15 h16=>fun e=>oj e▸X7 [Bf,Bf,Bf,Bf,Bf,Bf,Bf,Bt,.pure _ (aI .i64 v15)] (k:=fi)) fun h14=>brI (fun h17=>bI fun v18 h19=>fun e=>oj e▸X7 [Bf,Bf,Bf,Bf,Bf,Bf,Bf,Bf,Bt,.pure _ (aI .i64 v18)] (k:=fi)) fun h17=>brI (fun h20=>bI fun v21 h22=>fun e=>oj e▸X7 [Bf,Bf,Bf,Bf,Bf,Bf,Bf,Bf,Bf,Bt,.pure _ (aI .i64 v21)] (k:=fi)) fun h20=>brI (fun h23=>bI fun v24 h25=>fun e=>oj e▸X7 [Bf,Bf,Bf,Bf,Bf,Bf,Bf,Bf,Bf,Bf,Bt,.pure _ (aI .i64 v24)] (k:=fi)) fun h23=>brI (fun h26=>bI fun v27 h28=>fun e=>oj e▸X7 [Bf,Bf,Bf,Bf,Bf,Bf,Bf,Bf,Bf,Bf,Bf,Bt,.pure _ (aI .i64 v27)] (k:=fi)) fun h26=>brI (fun h29=>bI fun v30 h31=>fun e=>oj e▸X7 [Bf,Bf,Bf,Bf,Bf,Bf,Bf,Bf,Bf,Bf,Bf,Bf,Bt,.pure _ (aI .i64 v30)] (k:=fi)) fun h29=>brI (fun h32=>bI fun v33 h34=>fun e=>oj e▸X7 [Bf,Bf,Bf,Bf,Bf,Bf,Bf,Bf,Bf,Bf,Bf,Bf,Bf,Bt,.pure _ (aI .i64 v33)] (k:=fi)) fun h32=>rnI [Bf,Bf,Bf,Bf,Bf,Bf,Bf,Bf,Bf,Bf,Bf,Bf,Bf,Bf] ?_
 exact brI (fun h35=>bI fun v36 h37=>fun e=>oj e▸X7 [Bt,.pure _ (aI .i64 v36)] (k:=fi)) fun h35=>fun e=>oj e▸X7 [Bf] (k:=fi)⟩
theorem Xli {Q:X01->St->Mu->Prop} {μ:Mu} (Xf:(V5 Int)) (X8e:(List X03)) (hl:X8e.length<=140737488355328):∀ (xs:List X03) (k:Nat) (hx:X8e.drop k=xs) (Xi:(List Int)) (Xm:Nb Xi) (o:X90) (h:X63 Xf X8e xs k Xi=some o)
  (C0:∀ (Xg:(List Int)) (Xl:Nb Xg),o=X90.x0 Xg->X2 Tryz.prog 80 0 Q (.exit (.exit 0)) [] ⟨fr [(8,(slE Xl.1 0 (List.map (aI .i64) Xg)))],hp ([]++opE Xl.1 0 1 (List.map (aI .i64) Xg)),1⟩ μ)
  (C1:∀ (X0d:(List Int)) (Xc8:Int) (X0b:Nb X0d),o=X90.x1 X0d Xc8->X2 Tryz.prog 80 0 Q (.exit .ret) [] ⟨fr [(4,(slE X0b.1 0 (List.map (aI .i64) X0d))),(5,(aI .i64 Xc8))],hp ([]++opE X0b.1 0 1 (List.map (aI .i64) X0d)),1⟩ μ),
  X2 Tryz.prog 80 0 Q (.loop (X30 0 (Xj Tryz.f59))) [] ⟨fr [(7,(AV.ptr 0 0 0)),(8,(slE Xm.1 1 (List.map (aI .i64) Xi))),(28,(Lf (X8e.map X4))),(29,(aI .i64 (X8e.length:Int))),(30,(aI .i64 (k:Int)))],hp ([(0,Ob [(Xa1 Xf)] 5)]++opE Xm.1 1 1 (List.map (aI .i64) Xi)),2⟩ μ:=by
 intro xs
 induction xs with
 |nil =>
  intro k hx Xi Xm o h C0 C1
  have hk:=drop_nil hx
  have hc:decide ((k:Int)<(X8e.length:Int))=false:=Yf (by omega)
  rw[X63] at h
  rcases Xm with ⟨_|_,X02⟩
  ·
   refine X2.round ?_
   revert h
   exact fun e=>X7 [Bf] (k:=wkT [(0,1)] (C0 _  nbF (oj e).symm))
  ·
   obtain rfl:=X02 rfl
   refine X2.round ?_
   revert h
   exact fun e=>X7 [Bf] (k:=wkT [] (C0 _  nbS (oj e).symm))
 |cons x xs ih =>
  intro k hx Xi Xm o h C0 C1
  obtain⟨hk,hg,hx1⟩:=drop_cons hx
  have hc:decide ((k:Int)<(X8e.length:Int))=true:=Yt (by omega)
  rw[X63] at h
  rcases Xm with ⟨_|_,X02⟩
  ·
   refine X2.round ?_
   revert h
   refine brI (fun h150=>?_) fun h150=>?_
   ·
    refine bI fun e151 h152=>?_
    try have qh152:=Xv h152
    refine rnI [Bt,.el (X4 x),Bt,.el (aI .i64 e151),.ld (aI .i64 e151)] (o:=by repeat' first|apply Ya|exact pcM|exact(List.getElem?_set_self (by have hq:=X26 h152;simp;omega)).trans rfl|exact X0k) ?_
    intro h
    exact wkT [] (ih (k+1) hx1 _ nbF o h C0 C1)
   refine brI (fun h153=>?_) fun h153=>?_
   ·
    refine bI fun Xkz h179=>rnI [Bt,.el (X4 x),Bf,Bt,.stop 16] ?_
    intro h
    refine X2.joinF (fun(q:Nb Xkz)=>⟨fr [(7,(AV.ptr 0 0 0)),(8,(slE q.1 1 (List.map (aI .i64) Xkz))),(28,(Lf (X8e.map X4))),(29,(aI .i64 (X8e.length:Int))),(30,(aI .i64 (k:Int)))],hp ([(0,Ob [(Xa1 Xf)] 5)]++opE q.1 1 1 (List.map (aI .i64) Xkz)),2⟩) ?_ (fun J=>X2.cut ?_)
    ·
     rintro Xvr
     rcases Xvr with ⟨_|_,Xwl⟩
     ·
      exact X7 [] (k:=wkT [] (ih (k+1) hx1 _ nbF o h C0 C1))
     obtain rfl:=Xwl rfl
     exact X7 [] (k:=wkT [] (ih (k+1) hx1 _ nbS o h C0 C1))
    clear h;revert h179
    refine brI (fun h167=>?_) fun h167=>?_
    ·
     refine bI fun e168 h169=>?_
     try have qh169:=Xv h169
     intro h
     obtain rfl:=oj h
     exact X7 [.ix 0,.el (aI .i64 e168),.ld (aI .i64 e168)] (o:=by repeat' first|apply Ya|exact pcM|exact((eq_of_beq h167))|exact(List.getElem?_set_self (by have hq:=X26 h169;simp;omega)).trans rfl|exact X0k) (k:=wkT [] (X2.glue (J nbF)))
    refine brI (fun h170=>?_) fun h170=>?_
    ·
     refine bI fun e171 h172=>?_
     try have qh172:=Xv h172
     intro h
     obtain rfl:=oj h
     exact X7 [.ix 2,.el (aI .i64 e171),.ld (aI .i64 e171)] (o:=by repeat' first|apply Ya|exact pcM|exact((eq_of_beq h170))|exact(List.getElem?_set_self (by have hq:=X26 h172;simp;omega)).trans rfl|exact X0k) (k:=wkT [] (X2.glue (J nbF)))
    refine brI (fun h173=>?_) fun h173=>?_
    ·
     refine bI fun e174 h175=>?_
     try have qh175:=Xv h175
     intro h
     obtain rfl:=oj h
     exact X7 [.ix 3,.el (aI .i64 e174),.ld (aI .i64 e174)] (o:=by repeat' first|apply Ya|exact pcM|exact((eq_of_beq h173))|exact(List.getElem?_set_self (by have hq:=X26 h175;simp;omega)).trans rfl|exact X0k) (k:=wkT [] (X2.glue (J nbF)))
    refine brI (fun h176=>?_) fun h176=>?_
    ·
     refine bI fun e177 h178=>?_
     try have qh178:=Xv h178
     intro h
     obtain rfl:=oj h
     exact X7 [.ix 4,.el (aI .i64 e177),.ld (aI .i64 e177)] (o:=by repeat' first|apply Ya|exact pcM|exact((eq_of_beq h176))|exact(List.getElem?_set_self (by have hq:=X26 h178;simp;omega)).trans rfl|exact X0k) (k:=wkT [] (X2.glue (J nbF)))
    intro h
    cases h
   refine bI fun e180 h181=>?_
   try have qh181:=Xv h181
   refine bI fun e182 h183=>?_
   try have qh183:=Xv h183
   refine bI fun v184 h185=>rnI [Bt,.el (X4 x),Bf,Bf,.el (aI .i64 e180),.ld (aI .i64 e180),.el (aI .i64 e182),.ld (aI .i64 e182),.pure _ (AV.tup [(aI .i64 v184.1),(aI .i64 v184.2)])] ?_
   refine brI (fun h186=>fun e=>X7 [Bt] (k:=wkT [] (C1 _ _  nbS (oj e).symm))) fun h186=>bI fun e187 h188=>?_
   try have qh188:=Xv h188
   refine rnI [Bf,.el (aI .i64 e187),.ld (aI .i64 e187)] (o:=by repeat' first|apply Ya|exact pcM|exact(List.getElem?_set_self (by have hq:=X26 h188;simp;omega)).trans rfl|exact X0k) ?_
   intro h
   exact wkT [] (ih (k+1) hx1 _ nbF o h C0 C1)
  obtain rfl:=X02 rfl
  refine X2.round ?_
  revert h
  refine brI (fun h189=>?_) fun h189=>?_
  ·
   refine bI fun e190 h191=>?_
   try have qh191:=Xv h191
   intro h
   exact absurd (h191) (by simp[X1q])
  refine brI (fun h192=>?_) fun h192=>?_
  ·
   refine bI fun _ h205=>?_
   intro h
   clear h;have h:=h205
   revert h
   refine brI (fun h206=>?_) fun h206=>?_
   ·
    refine bI fun e207 h208=>?_
    try have qh208:=Xv h208
    intro h
    exact absurd (h208) (by simp[X1q])
   refine brI (fun h209=>?_) fun h209=>?_
   ·
    refine bI fun e210 h211=>?_
    try have qh211:=Xv h211
    intro h
    exact absurd (h211) (by simp[X1q])
   refine brI (fun h212=>?_) fun h212=>?_
   ·
    refine bI fun e213 h214=>?_
    try have qh214:=Xv h214
    intro h
    exact absurd (h214) (by simp[X1q])
   refine brI (fun h215=>?_) fun h215=>?_
   ·
    refine bI fun e216 h217=>?_
    try have qh217:=Xv h217
    intro h
    exact absurd (h217) (by simp[X1q])
   intro h
   cases h
  refine bI fun e218 h219=>?_
  try have qh219:=Xv h219
  intro h
  exact absurd (h219) (by simp[X1q])
end Go.Av.Tryz