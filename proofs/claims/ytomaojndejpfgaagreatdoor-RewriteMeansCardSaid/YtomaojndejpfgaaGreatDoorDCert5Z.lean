/- Printed by decomp.py: that the program computes the functions. -/
import Derived.Test.YtomaojndejpfgaaGreatDoorDCert4Z
set_option linter.all false

namespace Go.Av.Tryz
open Go.Proofs Go.D Go.Proofs.Tryz
set_option maxRecDepth 10000
set_option maxHeartbeats 40000000
instance X058:PZ 53 (∀ (a0:(List Xs)) (r:Int),X7o a0=some r->Pz 53 [(Lf (a0.map Xg))] (aI .i64 r)):=⟨λa0 r=>by
 unfold X7o;refine psI fn53 55<|brI (λh1=>λe=>oj e▸X8 [.el (aI .i64 (a0.length:Int)),Bt] (k:=fi)) λh1=>bI λu2 h3=>?_;have qh3:=X0e h3;refine bI λo62 h63=>rnI [.el (aI .i64 (a0.length:Int)),Bf,.el (aI .i64 (a0.length:Int))] ?_;intro h;refine wkT [] (X7.cut (drA (Xiq a0 qh3) _ ?_ h63));revert h;rcases o62 with _|_
 ·
  exact lGI rfl λe=>oj e▸X8 [] (k:=fi)
 exact lGI rfl λe=>oj e▸X8 [] (k:=fi)⟩
theorem Xe9 {Q:Qt} {μ:Mu} (Xro:(List (List Xs))) (hl:Xro.length<=140737488355328):Dr Xro λxs k=>∀ o,Lq Tryz.prog 18 0 Q μ o (fun|.x0=>(.exit 0,⟨fr [],hp ([]),0⟩)|.x1 X4z=>(.ret,⟨fr [(2,(aI .i64 X4z))],hp ([]),0⟩))
  (X64 0 (X1l Tryz.f28)) ⟨fr [(6,(Lf (List.map (X6t false Xg) Xro))),(7,(aI .i64 (Xro.length:Int))),(8,(aI .i64 (k:Int)))],hp ([]),0⟩ (X27 Xro xs k):=by
 refine drI ?_ ?_
 ·
  intro k hk hc o C;rw[X27];exact rdI<|λe=>X8 [Bf] (k:=wC e C)
 ·
  intro x xs k hk hg hc ih o C;rw[X27];exact rdI<|bI λv10 h11=>brI (λh12=>λe=>X8 [Bt,.el (X6t false Xg x),.pure _ (aI .i64 v10),Bt] (k:=wC e C)) λh12=>rnK [Bt,.el (X6t false Xg x),.pure _ (aI .i64 v10),Bf] (k:=wkI [] (ih o C))
instance Xwp:PZ 28 (∀ (a0:(List (List Xs))) (r:Int),X4o a0=some r->Pz 28 [(Lf (List.map (X6t false Xg) a0))] (aI .i64 r)):=⟨λa0 r=>by
 unfold X4o;refine psI fn28 18<|bI λu1 h2=>?_;have qh2:=X0e h2;refine bI λo13 h14=>rnI [.el (aI .i64 (a0.length:Int))] ?_;intro h;refine wkT [] (X7.cut (drA (Xe9 a0 qh2) _ ?_ h14));revert h;rcases o13 with _|⟨X4z⟩
 ·
  exact lGI rfl λe=>oj e▸X8 [] (k:=fi)
 exact lGI rfl λe=>oj e▸X8 [] (k:=fi)⟩
theorem Xio {Q:Qt} {μ:Mu} (Xep:(List Xs)) (hl:Xep.length<=140737488355328):∀ (xs:List Xs) (k:Nat) (hx:Xep.drop k=xs) (Xd:(List X9)) (Xe:(List X9)) (X5q:Int) (X0j:Nb Xd) (Xp:Nb Xe) (o:X9z) (h:X3h Xep xs k Xd Xe X5q=some o)
  (C0:∀ (Xo:(List X9)) (X00:(List X9)) (X02:Nb Xo) (X07:Nb X00),o=X9z.x0 Xo X00->Sx 47 Q [(2,(slE X02.1 0 (Xo.map X2))),(3,(slE X07.1 1 (X00.map X2)))] ([]++opE X02.1 0 3 (Xo.map X2)++opE X07.1 1 3 (X00.map X2)) 2 μ),
  Sl 47 Q f29 [(2,(slE X0j.1 0 (Xd.map X2))),(3,(slE Xp.1 1 (Xe.map X2))),(6,(AV.fn 86 [(AV.ptr 2 0 0)])),(16,(Lf (Xep.map Xg))),(17,(aI .i64 (Xep.length:Int))),(18,(aI .i64 (k:Int)))] ([(2,Ob [(aI .i64 X5q)] 1)]++opE X0j.1 0 3 (Xd.map X2)++opE Xp.1 1 3 (Xe.map X2)) 3 μ:=by
 intro xs
 induction xs with
 |nil =>
  intro k hx Xd Xe X5q X0j Xp o h C0;have hk:=drop_nil hx;have hc:=lpN hx;rw[X3h] at h;rcases X0j with ⟨_|_,X2s⟩
  ·
   rcases Xp with ⟨_|_,X06⟩
   ·
    refine X7.round ?_;revert h;exact λe=>X8 [Bf] (k:=wkT [] (C0 _ _  nbF nbF (oj e).symm))
   obtain rfl:=X06 rfl;refine X7.round ?_;revert h;exact λe=>X8 [Bf] (k:=wkT [] (C0 _ _  nbF nbS (oj e).symm))
  ·
   obtain rfl:=X2s rfl;rcases Xp with ⟨_|_,X06⟩
   ·
    refine X7.round ?_;revert h;exact λe=>X8 [Bf] (k:=wkT [] (C0 _ _  nbS nbF (oj e).symm))
   ·
    obtain rfl:=X06 rfl;refine X7.round ?_;revert h;exact λe=>X8 [Bf] (k:=wkT [] (C0 _ _  nbS nbS (oj e).symm))
 |cons x xs ih =>
  intro k hx Xd Xe X5q X0j Xp o h C0;obtain⟨hk,hg,hx1⟩:=drop_cons hx;have hc:=lpC hx;rw[X3h] at h;rcases X0j with ⟨_|_,X2s⟩
  ·
   rcases Xp with ⟨_|_,X06⟩
   ·
    refine X7.round ?_;refine X0q [Bt,.el (Xg x)] ?_;refine X7.inline Xf fn86 rfl rfl rfl rfl rfl trivial trivial rfl rfl ?_;revert h;refine bI λXom h190=>rnI [] ?_;refine jnI ⟨fr [(4,(aI .i64 X5q))],hp ([(0,Ob (Xd.map X2) 3),(1,Ob (Xe.map X2) 3),(2,Ob [(aI .i64 Xom)] 1),(3,Ob [(Xg x)] 5)]),4⟩ h190 ?_ λJ=>brI (λh189=>λe=>X8 [Bt] (k:=wJ [] J)) λh189=>λe=>X8 [Bf] (k:=wJ [] J);refine rnI [] ?_;intro h;refine X7.back (by intro id h;cases h) rfl ?_;revert h;refine bI λw197 h204=>?_;intro h;obtain⟨Xta,Xt9⟩:=w197;try dsimp only at h
    refine X0q [] ?_;refine X7.joinF (λ(q:Nb Xta×Nb Xt9)=>⟨fr [(2,(slE q.1.1 0 (Xta.map X2))),(3,(slE q.2.1 1 (Xt9.map X2))),(6,(AV.fn 86 [(AV.ptr 2 0 0)])),(16,(Lf (Xep.map Xg))),(17,(aI .i64 (Xep.length:Int))),(18,(aI .i64 (k:Int)))],hp ([(2,Ob [(aI .i64 Xom)] 1)]++opE q.1.1 0 3 (Xta.map X2)++opE q.2.1 1 3 (Xt9.map X2)),3⟩) ?_ (λJ=>X7.cut ?_)
    ·
     rintro⟨Xwm,Xn7⟩;rcases Xwm with ⟨_|_,Xxf⟩
     ·
      rcases Xn7 with ⟨_|_,Xha⟩
      ·
       exact X8 [] (k:=wkT [] (ih (k+1) hx1 _ _ _ nbF nbF o h C0))
      obtain rfl:=Xha rfl;exact X8 [] (k:=wkT [] (ih (k+1) hx1 _ _ _ nbF nbS o h C0))
     obtain rfl:=Xxf rfl;rcases Xn7 with ⟨_|_,Xha⟩
     ·
      exact X8 [] (k:=wkT [] (ih (k+1) hx1 _ _ _ nbS nbF o h C0))
     obtain rfl:=Xha rfl;exact X8 [] (k:=wkT [] (ih (k+1) hx1 _ _ _ nbS nbS o h C0))
    clear h;revert h204;refine brI (λh198=>?_) λh198=>?_
    ·
     intro h;cases oj h
     exact X8 [Bt] (k:=wkT [] (X7.glue (J (nbF,nbF))))
    refine brI (λh199=>?_) λh199=>?_
    ·
     refine bI λu200 h201=>?_;intro h;cases oj h
     exact X8 [Bf,Bt,.no] (o:=by repeat' first|apply Ya|exact pcM|(refine X1r h201 rfl ?_;first|(simp<;>omega)|(simp[hc,h198,h199]<;>omega))|(refine X0p h201 (by decide) ?_;first|(simp<;>omega)|(simp[hc,h198,h199]<;>omega))|exact X24) (k:=wkT [(1,5)] (X7.glue (J (nbF,nbF))))
    refine bI λu202 h203=>?_;intro h;cases oj h
    exact X8 [Bf,Bf,.no] (o:=by repeat' first|apply Ya|exact pcM|(refine X1r h203 rfl ?_;first|(simp<;>omega)|(simp[hc,h198,h199]<;>omega))|(refine X0p h203 (by decide) ?_;first|(simp<;>omega)|(simp[hc,h198,h199]<;>omega))|exact X24) (k:=wkT [(0,5)] (X7.glue (J (nbF,nbF))))
   obtain rfl:=X06 rfl;refine X7.round ?_;refine X0q [Bt,.el (Xg x)] ?_;refine X7.inline Xf fn86 rfl rfl rfl rfl rfl trivial trivial rfl rfl ?_;revert h;refine bI λX00n h212=>rnI [] ?_;refine jnI ⟨fr [(4,(aI .i64 X5q))],hp ([(0,Ob (Xd.map X2) 3),(2,Ob [(aI .i64 X00n)] 1),(3,Ob [(Xg x)] 5)]),4⟩ h212 ?_ λJ=>brI (λh211=>λe=>X8 [Bt] (k:=wJ [] J)) λh211=>λe=>X8 [Bf] (k:=wJ [] J);refine rnI [] ?_;intro h;refine X7.back (by intro id h;cases h) rfl ?_;revert h;refine bI λw219 h226=>?_;intro h;obtain⟨Xt8,Xt7⟩:=w219;try dsimp only at h
   refine X0q [] ?_;refine X7.joinF (λ(q:Nb Xt8×Nb Xt7)=>⟨fr [(2,(slE q.1.1 0 (Xt8.map X2))),(3,(slE q.2.1 1 (Xt7.map X2))),(6,(AV.fn 86 [(AV.ptr 2 0 0)])),(16,(Lf (Xep.map Xg))),(17,(aI .i64 (Xep.length:Int))),(18,(aI .i64 (k:Int)))],hp ([(2,Ob [(aI .i64 X00n)] 1)]++opE q.1.1 0 3 (Xt8.map X2)++opE q.2.1 1 3 (Xt7.map X2)),3⟩) ?_ (λJ=>X7.cut ?_)
   ·
    rintro⟨Xwl,Xn6⟩;rcases Xwl with ⟨_|_,Xxe⟩
    ·
     rcases Xn6 with ⟨_|_,Xh9⟩
     ·
      exact X8 [] (k:=wkT [] (ih (k+1) hx1 _ _ _ nbF nbF o h C0))
     obtain rfl:=Xh9 rfl;exact X8 [] (k:=wkT [] (ih (k+1) hx1 _ _ _ nbF nbS o h C0))
    obtain rfl:=Xxe rfl;rcases Xn6 with ⟨_|_,Xh9⟩
    ·
     exact X8 [] (k:=wkT [] (ih (k+1) hx1 _ _ _ nbS nbF o h C0))
    obtain rfl:=Xh9 rfl;exact X8 [] (k:=wkT [] (ih (k+1) hx1 _ _ _ nbS nbS o h C0))
   clear h;revert h226;refine brI (λh220=>?_) λh220=>?_
   ·
    intro h;cases oj h
    exact X8 [Bt] (k:=wkT [] (X7.glue (J (nbF,nbS))))
   refine brI (λh221=>?_) λh221=>?_
   ·
    refine bI λu222 h223=>?_;intro h;cases oj h
    exact X8 [Bf,Bt,.no] (k:=wkT [(1,5)] (X7.glue (J (nbF,nbF))))
   refine bI λu224 h225=>?_;intro h;cases oj h
   exact X8 [Bf,Bf,.no] (o:=by repeat' first|apply Ya|exact pcM|(refine X1r h225 rfl ?_;first|(simp<;>omega)|(simp[hc,h220,h221]<;>omega))|(refine X0p h225 (by decide) ?_;first|(simp<;>omega)|(simp[hc,h220,h221]<;>omega))|exact X24) (k:=wkT [(0,5)] (X7.glue (J (nbF,nbS))))
  obtain rfl:=X2s rfl;rcases Xp with ⟨_|_,X06⟩
  ·
   refine X7.round ?_;refine X0q [Bt,.el (Xg x)] ?_;refine X7.inline Xf fn86 rfl rfl rfl rfl rfl trivial trivial rfl rfl ?_;revert h;refine bI λX00m h234=>rnI [] ?_;refine jnI ⟨fr [(4,(aI .i64 X5q))],hp ([(1,Ob (Xe.map X2) 3),(2,Ob [(aI .i64 X00m)] 1),(3,Ob [(Xg x)] 5)]),4⟩ h234 ?_ λJ=>brI (λh233=>λe=>X8 [Bt] (k:=wJ [] J)) λh233=>λe=>X8 [Bf] (k:=wJ [] J);refine rnI [] ?_;intro h;refine X7.back (by intro id h;cases h) rfl ?_;revert h;refine bI λw241 h248=>?_;intro h;obtain⟨Xt6,Xt5⟩:=w241;try dsimp only at h
   refine X0q [] ?_;refine X7.joinF (λ(q:Nb Xt6×Nb Xt5)=>⟨fr [(2,(slE q.1.1 0 (Xt6.map X2))),(3,(slE q.2.1 1 (Xt5.map X2))),(6,(AV.fn 86 [(AV.ptr 2 0 0)])),(16,(Lf (Xep.map Xg))),(17,(aI .i64 (Xep.length:Int))),(18,(aI .i64 (k:Int)))],hp ([(2,Ob [(aI .i64 X00m)] 1)]++opE q.1.1 0 3 (Xt6.map X2)++opE q.2.1 1 3 (Xt5.map X2)),3⟩) ?_ (λJ=>X7.cut ?_)
   ·
    rintro⟨Xwk,Xn5⟩;rcases Xwk with ⟨_|_,Xxd⟩
    ·
     rcases Xn5 with ⟨_|_,Xh8⟩
     ·
      exact X8 [] (k:=wkT [] (ih (k+1) hx1 _ _ _ nbF nbF o h C0))
     obtain rfl:=Xh8 rfl;exact X8 [] (k:=wkT [] (ih (k+1) hx1 _ _ _ nbF nbS o h C0))
    obtain rfl:=Xxd rfl;rcases Xn5 with ⟨_|_,Xh8⟩
    ·
     exact X8 [] (k:=wkT [] (ih (k+1) hx1 _ _ _ nbS nbF o h C0))
    obtain rfl:=Xh8 rfl;exact X8 [] (k:=wkT [] (ih (k+1) hx1 _ _ _ nbS nbS o h C0))
   clear h;revert h248;refine brI (λh242=>?_) λh242=>?_
   ·
    intro h;cases oj h
    exact X8 [Bt] (k:=wkT [] (X7.glue (J (nbS,nbF))))
   refine brI (λh243=>?_) λh243=>?_
   ·
    refine bI λu244 h245=>?_;intro h;cases oj h
    exact X8 [Bf,Bt,.no] (o:=by repeat' first|apply Ya|exact pcM|(refine X1r h245 rfl ?_;first|(simp<;>omega)|(simp[hc,h242,h243]<;>omega))|(refine X0p h245 (by decide) ?_;first|(simp<;>omega)|(simp[hc,h242,h243]<;>omega))|exact X24) (k:=wkT [(1,5)] (X7.glue (J (nbS,nbF))))
   refine bI λu246 h247=>?_;intro h;cases oj h
   exact X8 [Bf,Bf,.no] (k:=wkT [(0,5)] (X7.glue (J (nbF,nbF))))
  obtain rfl:=X06 rfl;refine X7.round ?_;refine X0q [Bt,.el (Xg x)] ?_;refine X7.inline Xf fn86 rfl rfl rfl rfl rfl trivial trivial rfl rfl ?_;revert h;refine bI λX00j h256=>rnI [] ?_;refine jnI ⟨fr [(4,(aI .i64 X5q))],hp ([(2,Ob [(aI .i64 X00j)] 1),(3,Ob [(Xg x)] 5)]),4⟩ h256 ?_ λJ=>brI (λh255=>λe=>X8 [Bt] (k:=wJ [] J)) λh255=>λe=>X8 [Bf] (k:=wJ [] J);refine rnI [] ?_;intro h;refine X7.back (by intro id h;cases h) rfl ?_;revert h;refine bI λw263 h270=>?_;intro h;obtain⟨Xt4,Xt3⟩:=w263;try dsimp only at h
  refine X0q [] ?_;refine X7.joinF (λ(q:Nb Xt4×Nb Xt3)=>⟨fr [(2,(slE q.1.1 0 (Xt4.map X2))),(3,(slE q.2.1 1 (Xt3.map X2))),(6,(AV.fn 86 [(AV.ptr 2 0 0)])),(16,(Lf (Xep.map Xg))),(17,(aI .i64 (Xep.length:Int))),(18,(aI .i64 (k:Int)))],hp ([(2,Ob [(aI .i64 X00j)] 1)]++opE q.1.1 0 3 (Xt4.map X2)++opE q.2.1 1 3 (Xt3.map X2)),3⟩) ?_ (λJ=>X7.cut ?_)
  ·
   rintro⟨Xwj,Xn4⟩;rcases Xwj with ⟨_|_,Xxc⟩
   ·
    rcases Xn4 with ⟨_|_,Xh7⟩
    ·
     exact X8 [] (k:=wkT [] (ih (k+1) hx1 _ _ _ nbF nbF o h C0))
    obtain rfl:=Xh7 rfl;exact X8 [] (k:=wkT [] (ih (k+1) hx1 _ _ _ nbF nbS o h C0))
   obtain rfl:=Xxc rfl;rcases Xn4 with ⟨_|_,Xh7⟩
   ·
    exact X8 [] (k:=wkT [] (ih (k+1) hx1 _ _ _ nbS nbF o h C0))
   obtain rfl:=Xh7 rfl;exact X8 [] (k:=wkT [] (ih (k+1) hx1 _ _ _ nbS nbS o h C0))
  clear h;revert h270;refine brI (λh264=>?_) λh264=>?_
  ·
   intro h;cases oj h
   exact X8 [Bt] (k:=wkT [] (X7.glue (J (nbS,nbS))))
  refine brI (λh265=>?_) λh265=>?_
  ·
   refine bI λu266 h267=>?_;intro h;cases oj h
   exact X8 [Bf,Bt,.no] (k:=wkT [(1,5)] (X7.glue (J (nbS,nbF))))
  refine bI λu268 h269=>?_;intro h;cases oj h
  exact X8 [Bf,Bf,.no] (k:=wkT [(0,5)] (X7.glue (J (nbF,nbS))))
instance X057:PZ 29 (∀ (a0:(List Xs)) (r:(List X9)×(List X9)×Int),Xbh a0=some r->Pz 29 [(Lf (a0.map Xg))] (AV.tup [(Lt (r.1.map X2)),(Lt (r.2.1.map X2)),(aI .i64 r.2.2)])):=⟨λa0 r=>by
 unfold Xbh;refine psI fn29 47<|bI λv1 h2=>brI (λh3=>λe=>oj e▸X8 [.pure _ (aI .i64 v1),Bt] (k:=fi)) λh3=>rnI [.pure _ (aI .i64 v1),Bf] ?_;intro h;refine X7.inline Xf fn54 rfl rfl rfl rfl rfl trivial trivial rfl rfl ?_;refine X0q [] ?_;refine X7.back (by intro id h;cases h) rfl ?_;revert h;refine bI λu4 h5=>?_;have qh5:=X0e h5;refine bI λo271 h272=>rnI [.el (aI .i64 (a0.length:Int))] ?_;intro h;refine wkT [(2,0)] (X7.cut (Xio a0 qh5 a0 0 (by simp) _ _ _ nbS nbS _ h272 ?_));intro Xo X00 X02 X07 eo271;subst eo271;refine X7.glue ?_;try dsimp only at h
 rcases X02 with ⟨_|_,X1p⟩<;>(try obtain rfl:=X1p rfl);all_goals
  rcases X07 with ⟨_|_,X29⟩<;>(try obtain rfl:=X29 rfl);all_goals
   revert h;exact λe=>oj e▸X8 [] (k:=fi)⟩
instance X03y:PZ 134 (∀ (a0:(List X4)) (r:Int),Xa4 a0=some r->Pz 134 [(Lf (a0.map X0))] (aI .i64 r)):=⟨λa0 r=>by
 unfold Xa4;exact psI X0j8 13<|bI λv1 h2=>λe=>oj e▸X8 [.pure _ (AV.tup [(aB v1.1),(aI .i64 v1.2.1),(aI .i64 v1.2.2)])] (k:=fi)⟩
instance X05t:PZ 171 (∀ (a0:Bool) (r:Int),X3f a0=some r->Pz 171 [(aB a0)] (aI .i64 r)):=⟨λa0 r=>by
 unfold X3f;exact psI X0it 4<|brI (λh1=>λe=>oj e▸X8 [Bt] (k:=fi)) λh1=>λe=>oj e▸X8 [Bf] (k:=fi)⟩
instance Xnb:PZ 135 (∀ (a0:Int) (a1:Int) (a2:Int) (r:Int×Int),Xa2 a0 a1 a2=some r->Pz 135 [(aI .u8 a0),(aI .i64 a1),(aI .i64 a2)] (AV.tup [(aI .i64 r.1),(aI .i64 r.2)])):=⟨λa0 a1 a2 r=>by
 unfold Xa2;refine psI X0j7 97<|brI (λh1=>λe=>oj e▸X8 [Bt,.wrap] (k:=fi)) λh1=>brI (λh2=>bI λv3 h4=>λe=>oj e▸X8 [Bf,Bt,.pure _ (aI .i64 v3)] (k:=fi)) λh2=>brI (λh5=>λe=>oj e▸X8 [Bf,Bf,Bt,.wrap] (k:=fi)) λh5=>brI (λh6=>λe=>oj e▸X8 [Bf,Bf,Bf,Bt,.wrap] (k:=fi)) λh6=>brI (λh7=>λe=>oj e▸X8 [Bf,Bf,Bf,Bf,Bt,.wrap] (k:=fi)) λh7=>brI (λh8=>bI λu9 h10=>λe=>oj e▸X8 [Bf,Bf,Bf,Bf,Bf,Bt,.wrap] (k:=fi)) λh8=>brI (λh11=>bI λu12 h13=>λe=>oj e▸X8 [Bf,Bf,Bf,Bf,Bf,Bf,Bt] (k:=fi)) λh11=>brI (λh14=>bI λv15 h16=>λe=>oj e▸X8 [Bf,Bf,Bf,Bf,Bf,Bf,Bf,Bt,.pure _ (aI .i64 v15)] (k:=fi)) λh14=>brI (λh17=>bI λv18 h19=>λe=>oj e▸X8 [Bf,Bf,Bf,Bf,Bf,Bf,Bf,Bf,Bt,.pure _ (aI .i64 v18)] (k:=fi)) λh17=>brI (λh20=>bI λv21 h22=>λe=>oj e▸X8 [Bf,Bf,Bf,Bf,Bf,Bf,Bf,Bf,Bf,Bt,.pure _ (aI .i64 v21)] (k:=fi)) λh20=>brI (λh23=>bI λv24 h25=>λe=>oj e▸X8 [Bf,Bf,Bf,Bf,Bf,Bf,Bf,Bf,Bf,Bf,Bt,.pure _ (aI .i64 v24)] (k:=fi)) λh23=>brI (λh26=>bI λv27 h28=>λe=>oj e▸X8 [Bf,Bf,Bf,Bf,Bf,Bf,Bf,Bf,Bf,Bf,Bf,Bt,.pure _ (aI .i64 v27)] (k:=fi)) λh26=>brI (λh29=>bI λv30 h31=>λe=>oj e▸X8 [Bf,Bf,Bf,Bf,Bf,Bf,Bf,Bf,Bf,Bf,Bf,Bf,Bt,.pure _ (aI .i64 v30)] (k:=fi)) λh29=>brI (λh32=>bI λv33 h34=>λe=>oj e▸X8 [Bf,Bf,Bf,Bf,Bf,Bf,Bf,Bf,Bf,Bf,Bf,Bf,Bf,Bt,.pure _ (aI .i64 v33)] (k:=fi)) λh32=>rnI [Bf,Bf,Bf,Bf,Bf,Bf,Bf,Bf,Bf,Bf,Bf,Bf,Bf,Bf] ?_;exact brI (λh35=>bI λv36 h37=>λe=>oj e▸X8 [Bt,.pure _ (aI .i64 v36)] (k:=fi)) λh35=>λe=>oj e▸X8 [Bf] (k:=fi)⟩
theorem Xlc {Q:Qt} {μ:Mu} (Xd:(V5 Int)) (Xjr:(List X4)) (hl:Xjr.length<=140737488355328):∀ (xs:List X4) (k:Nat) (hx:Xjr.drop k=xs) (Xe:(List Int)) (o:X81) (h:X1q Xd Xjr xs k Xe=some o)
  (C0:∀ (Xo:(List Int)),o=X81.x0 Xo->Sx 80 Q [(8,(AV.ref 0 0 (Xo.length)))] ([(0,Ob (List.map (aI .i64) Xo) 1)]) 1 μ)
  (C1:∀ (Xy:(List Int)) (Xmn:Int) (Xx:Nb Xy),o=X81.x1 Xy Xmn->Sr 80 Q [(4,(slE Xx.1 0 (List.map (aI .i64) Xy))),(5,(aI .i64 Xmn))] ([]++opE Xx.1 0 1 (List.map (aI .i64) Xy)) 1 μ),
  Sl 80 Q f87 [(7,(AV.ptr 0 0 0)),(8,(AV.ref 1 0 (Xe.length))),(28,(Lf (Xjr.map X0))),(29,(aI .i64 (Xjr.length:Int))),(30,(aI .i64 (k:Int)))] ([(0,Ob [(Xe1 Xd)] 5),(1,Ob (List.map (aI .i64) Xe) 1)]) 2 μ:=by
 intro xs
 induction xs with
 |nil =>
  intro k hx Xe o h C0 C1;have hk:=drop_nil hx;have hc:=lpN hx;rw[X1q] at h;refine X7.round ?_;revert h;exact λe=>X8 [Bf] (k:=wkT [(0,1)] (C0 _  (oj e).symm))
 |cons x xs ih =>
  intro k hx Xe o h C0 C1;obtain⟨hk,hg,hx1⟩:=drop_cons hx;have hc:=lpC hx;rw[X1q] at h;refine X7.round ?_;revert h;refine brI (λh87=>?_) λh87=>?_
  ·
   refine bI λe88 h89=>?_;try have qh89:=Xq h89
   refine rnI [Bt,.el (X0 x),Bt,.el (aI .i64 e88),.ld (aI .i64 e88)] ?_;intro h;exact wkT [] (ih (k+1) hx1 _ o h C0 C1)
  refine brI (λh90=>?_) λh90=>?_
  ·
   refine bI λXoq h116=>rnI [Bt,.el (X0 x),Bf,Bt,.stop 16] ?_;refine jnI ⟨fr [(7,(AV.ptr 0 0 0)),(8,(AV.ref 1 0 (Xoq.length))),(28,(Lf (Xjr.map X0))),(29,(aI .i64 (Xjr.length:Int))),(30,(aI .i64 (k:Int)))],hp ([(0,Ob [(Xe1 Xd)] 5),(1,Ob (List.map (aI .i64) Xoq) 1)]),2⟩ h116 ?_ λJ=>?_
   ·
    refine rnI [] ?_;intro h;exact wkT [] (ih (k+1) hx1 _ o h C0 C1)
   refine brI (λh104=>?_) λh104=>?_
   ·
    refine bI λe105 h106=>?_;try have qh106:=Xq h106
    exact λe=>X8 [.ix 0,.el (aI .i64 e105),.ld (aI .i64 e105)] (k:=wJ [] J)
   refine brI (λh107=>?_) λh107=>?_
   ·
    refine bI λe108 h109=>?_;try have qh109:=Xq h109
    exact λe=>X8 [.ix 2,.el (aI .i64 e108),.ld (aI .i64 e108)] (k:=wJ [] J)
   refine brI (λh110=>?_) λh110=>?_
   ·
    refine bI λe111 h112=>?_;try have qh112:=Xq h112
    exact λe=>X8 [.ix 3,.el (aI .i64 e111),.ld (aI .i64 e111)] (k:=wJ [] J)
   refine brI (λh113=>?_) λh113=>?_
   ·
    refine bI λe114 h115=>?_;try have qh115:=Xq h115
    exact λe=>X8 [.ix 4,.el (aI .i64 e114),.ld (aI .i64 e114)] (k:=wJ [] J)
   intro h;cases h
  refine bI λe117 h118=>?_;try have qh118:=Xq h118
  refine bI λe119 h120=>?_;try have qh120:=Xq h120
  refine bI λv121 h122=>rnI [Bt,.el (X0 x),Bf,Bf,.el (aI .i64 e117),.ld (aI .i64 e117),.el (aI .i64 e119),.ld (aI .i64 e119),.pure _ (AV.tup [(aI .i64 v121.1),(aI .i64 v121.2)])] ?_;refine brI (λh123=>λe=>X8 [Bt] (k:=wkT [] (C1 _ _  nbS (oj e).symm))) λh123=>bI λe124 h125=>?_;try have qh125:=Xq h125
  refine rnI [Bf,.el (aI .i64 e124),.ld (aI .i64 e124)] (o:=by repeat' first|apply Ya|exact pcM|exact X24) ?_;intro h;exact wkT [] (ih (k+1) hx1 _ o h C0 C1)
instance X07x:PZ 87 (∀ (a0:(List X4)) (a1:X9) (r:(List Int)×Int),Xdh a0 a1=some r->Pz 87 [(Lf (a0.map X0)),(X2 a1)] (AV.tup [(Lt (List.map (aI .i64) r.1)),(aI .i64 r.2)])):=⟨λa0 a1 r=>by
 unfold Xdh;refine psI fn87 80<|bI λv1 h2=>brI (λh3=>λe=>oj e▸X8 [.pure _ (aI .i64 v1),Bt] (k:=fi)) λh3=>bI λu4 h5=>?_;have qh5:=Xzz h5;refine bI λu6 h7=>?_;have qh7:=X0e h7;refine bI λo126 h127=>rnI [.pure _ (aI .i64 v1),Bf,.el (aI .i64 (a0.length:Int)),.el (aI .i64 (a0.length:Int))] (o:=by repeat' first|apply Ya|exact pcM|exact(Int.le_trans qh5.2.2 (by decide))|exact om|exact X24) ?_;intro h;refine wkT [(0,1),(1,2)] (X7.cut (Xlc (V5.mk 0 0 a1.Key a1.Time a1.Value) a0 qh7 a0 0 (by simp) _ _ h127 ?_ ?_))
 ·
  intro Xo eo126;subst eo126;refine X7.glue ?_;try dsimp only at h
  revert h;exact λe=>oj e▸X8 [] (k:=fi)
 intro Xy Xmn Xx eo126;subst eo126;refine X7.glue ?_;try dsimp only at h
 rcases Xx with ⟨_|_,X1o⟩<;>(try obtain rfl:=X1o rfl);all_goals
  revert h;exact λe=>oj e▸X8 [] (k:=fi)⟩
instance Xf5:PZ 55 (∀ (a0:(List X4)) (a1:X9) (r:Int×Int),X4b a0 a1=some r->Pz 55 [(Lf (a0.map X0)),(X2 a1)] (AV.tup [(aI .i64 r.1),(aI .i64 r.2)])):=⟨λa0 a1 r=>by
 unfold X4b;refine psI fn55 23<|bI λv1 h2=>brI (λh3=>λe=>oj e▸X8 [.pure _ (AV.tup [(Lt (List.map (aI .i64) v1.1)),(aI .i64 v1.2)]),Bt] (k:=fi)) λh3=>bI λe4 h5=>?_;try have qh5:=Xq h5
 exact λe=>oj e▸X8 [.pure _ (AV.tup [(Lt (List.map (aI .i64) v1.1)),(aI .i64 v1.2)]),Bf,.el (aI .i64 (v1.1.length:Int)),.wrap,.el (aI .i64 e4)] (k:=fi)⟩
instance Xwq:PZ 30 (∀ (a0:Xb) (a1:X9) (r:X9×Bool),X5t a0 a1=some r->Pz 30 [(Xc false a0),(X2 a1)] (AV.tup [(X2 r.1),(aB r.2)])):=⟨λa0 a1 r=>by
 unfold X5t;refine psI fn30 47<|brI (λh1=>?_) λh1=>?_
 ·
  refine bI λv2 h3=>brI (λh4=>λe=>oj e▸X8 [.el (aI .i64 (a0.Where.length:Int)),Bt,.pure _ (AV.tup [(aI .i64 v2.1),(aI .i64 v2.2)]),Bt] (k:=fi)) λh4=>bI λXoc h8=>rnI [.el (aI .i64 (a0.Where.length:Int)),Bt,.pure _ (AV.tup [(aI .i64 v2.1),(aI .i64 v2.2)]),Bf] ?_;refine jnI ⟨fr [(2,(AV.ptr 0 0 0)),(3,(AV.ptr 1 0 0)),(4,(AV.ptr 2 0 0)),(8,(AV.ptr 3 0 0))],hp ([(0,Ob [(Xc false a0)] 10),(1,Ob [(X2 a1)] 3),(2,Ob [(X2 (X9.mk 0 0 0))] 3),(3,Ob [(X2 Xoc)] 3)]),4⟩ h8 ?_ λJ=>brI (λh7=>λe=>X8 [Bt] (k:=wJ [] J)) λh7=>λe=>X8 [Bf] (k:=wJ [] J);refine bI λXg4 h16=>rnI [] ?_;exact jnI ⟨fr [(4,(AV.ptr 0 0 0)),(8,(AV.ptr 1 0 0))],hp ([(0,Ob [(X2 (X9.mk 0 0 0))] 3),(1,Ob [(X2 Xg4)] 3)]),2⟩ h16 (λe=>oj e▸X8 [] (k:=fi)) λJ=>brI (λh13=>bI λv14 h15=>λe=>X8 [Bt,.pure _ (AV.tup [(aI .i64 v14.1),(aI .i64 v14.2)])] (k:=wJ [(0,2),(1,3)] J)) λh13=>λe=>X8 [Bf] (k:=wJ [(0,2),(1,3)] J)
 refine bI λXqp h20=>rnI [.el (aI .i64 (a0.Where.length:Int)),Bf] ?_;refine jnI ⟨fr [(2,(AV.ptr 0 0 0)),(3,(AV.ptr 1 0 0)),(4,(AV.ptr 2 0 0)),(8,(AV.ptr 3 0 0))],hp ([(0,Ob [(Xc false a0)] 10),(1,Ob [(X2 a1)] 3),(2,Ob [(X2 (X9.mk 0 0 0))] 3),(3,Ob [(X2 Xqp)] 3)]),4⟩ h20 ?_ λJ=>brI (λh19=>λe=>X8 [Bt] (k:=wJ [] J)) λh19=>λe=>X8 [Bf] (k:=wJ [] J);refine bI λX00k h28=>rnI [] ?_;exact jnI ⟨fr [(4,(AV.ptr 0 0 0)),(8,(AV.ptr 1 0 0))],hp ([(0,Ob [(X2 (X9.mk 0 0 0))] 3),(1,Ob [(X2 X00k)] 3)]),2⟩ h28 (λe=>oj e▸X8 [] (k:=fi)) λJ=>brI (λh25=>bI λv26 h27=>λe=>X8 [Bt,.pure _ (AV.tup [(aI .i64 v26.1),(aI .i64 v26.2)])] (k:=wJ [(0,2),(1,3)] J)) λh25=>λe=>X8 [Bf] (k:=wJ [(0,2),(1,3)] J)⟩
instance X3y:PZ 100 (∀ (a0:X0z) (r:Int),X2y a0=some r->Pz 100 [(X0r a0)] (aI .i64 r)):=⟨λa0 r=>by
 unfold X2y;refine psI X0jo 43<|bI λj4_3 h8=>rnI [] ?_;exact jnI ⟨fr [(3,(aB j4_3))],hp ([]),0⟩ h8 (brI (λh9=>λe=>oj e▸X8 [Bt] (k:=fi)) λh9=>λe=>oj e▸X8 [Bf] (k:=fi)) λJ=>brI (λh5=>λe=>X8 [Bt] (k:=wJ [] J)) λh5=>brI (λh6=>λe=>X8 [Bf,Bt] (k:=wJ [] J)) λh6=>brI (λh7=>λe=>X8 [Bf,Bf,Bt] (k:=wJ [] J)) λh7=>λe=>X8 [Bf,Bf,Bf] (k:=wJ [] J)⟩
instance Xee:PZ 88 (∀ (a0:X3) (r:Bool),X9e a0=some r->Pz 88 [(X1 a0)] (aB r)):=⟨λa0 r=>by
 unfold X9e;refine psI fn88 46<|brI (λh1=>λe=>oj e▸X8 [Bt] (k:=fi)) λh1=>bI λj8_2 h15=>rnI [Bf,.stop 3] ?_;exact jnI ⟨fr [(2,(aB j8_2))],hp ([]),0⟩ h15 (λe=>oj e▸X8 [] (k:=fi)) λJ=>bI λv9 h10=>brI (λh11=>bI λv12 h13=>brI (λh14=>λe=>X8 [.ix 0,.pure _ (aI .i64 v9),Gt,Gt,.ix 1,Gt,Gt,.pure _ (aI .i64 v12),Gt,Gt,Gt,.ix 0,Gt,Gt,Gt,Gt,.ix 1,Gt,Gt,Gt,.wrap,Gt] (k:=wJ [] J)) λh14=>λe=>X8 [.ix 0,.pure _ (aI .i64 v9),Gt,Gt,.ix 1,Gt,Gt,.pure _ (aI .i64 v12),Gt,Gf,Gf,Gf,Gf,Gf,Gf,Gf,Gf,Gf,Gf] (k:=wJ [] J)) λh11=>λe=>X8 [.ix 0,.pure _ (aI .i64 v9),Gf,Gf,Gf,Gf,Gf,Gf,Gf,Gf,Gf,Gf,Gf,Gf,Gf,Gf,Gf] (k:=wJ [] J)⟩
instance Xvl:PZ 172 (∀ (a0:Int) (r:Bool),X59 a0=some r->Pz 172 [(aI .i64 a0)] (aB r)):=⟨λa0 r=>by
 unfold X59;exact psI X0is 6 λe=>oj e▸X8 [] (k:=fi)⟩
instance Xri:PZ 137 (∀ (a0:Int) (a1:Int) (r:Int),X2b a0 a1=some r->Pz 137 [(aI .i64 a0),(aI .i64 a1)] (aI .i64 r)):=⟨λa0 a1 r=>by
 unfold X2b;exact psI X0j5 20<|bI λv1 h2=>bI λv3 h4=>brI (λh5=>brI (λh6=>λe=>oj e▸X8 [.pure _ (aB v1),.pure _ (aB v3),Bt,Bt] (k:=fi)) λh6=>λe=>oj e▸X8 [.pure _ (aB v1),.pure _ (aB v3),Bt,Bf] (k:=fi)) λh5=>brI (λh7=>λe=>oj e▸X8 [.pure _ (aB v1),.pure _ (aB v3),Bf,Bt] (k:=fi)) λh7=>brI (λh8=>λe=>oj e▸X8 [.pure _ (aB v1),.pure _ (aB v3),Bf,Bf,Bt] (k:=fi)) λh8=>brI (λh9=>λe=>oj e▸X8 [.pure _ (aB v1),.pure _ (aB v3),Bf,Bf,Bf,Bt] (k:=fi)) λh9=>λe=>oj e▸X8 [.pure _ (aB v1),.pure _ (aB v3),Bf,Bf,Bf,Bf] (k:=fi)⟩
end Go.Av.Tryz