/- Printed by decomp.py: that the program computes the functions. -/
import Derived.Test.YtnkfdamiiejfdaaGreatDoorDCert4Z
set_option linter.all false

namespace Go.Av.Tryz
open Go.Proofs Go.D Go.Proofs.Tryz
set_option maxRecDepth 10000
set_option maxHeartbeats 40000000
theorem Xhz {Q:Qt} {μ:Mu} (X5i:(List Xq)) (hl:X5i.length<=140737488355328):Dr X5i λxs k=>∀ (o:Xcq) (h:X4a X5i xs k  = some o),Lq Tryz.prog 55 0 Q μ o (fun|.x0=>(.exit 0,⟨fr [],hp ([]),0⟩)|.x1=>(.ret,⟨fr [(2,(aI .i64 8))],hp ([]),0⟩))
  (X5b 0 (X10 Tryz.f48)) ⟨fr [(10,(Lf (X5i.map Xk))),(11,(aI .i64 (X5i.length:Int))),(12,(aI .i64 (k:Int)))],hp ([]),0⟩:=by
 refine drI ?_ ?_
 ·
  intro k hk hc  o h C;rw[X4a] at h;refine X5.round ?_;revert h;exact λe=>X8 [Bf] (k:=wC e C)
 ·
  intro x xs k hk hg hc ih  o h C;rw[X4a] at h;refine X5.round ?_;revert h;refine bI λX03v h52=>rnI [Bt,.el (Xk x),.stop 6] ?_;intro h;refine jn [(4,(AV.ptr 0 0 0)),(5,(aB X03v)),(10,(Lf (X5i.map Xk))),(11,(aI .i64 (X5i.length:Int))),(12,(aI .i64 (k:Int)))] ([(0,Ob [(Xk x)] 5)]) 1 ?_ (λJ=>X5.cut ?_)
  ·
   revert h;refine bI λX08o h60=>rnI [.stop 7] ?_;intro h;refine jn [(4,(AV.ptr 0 0 0)),(5,(aB X03v)),(6,(aB X08o)),(10,(Lf (X5i.map Xk))),(11,(aI .i64 (X5i.length:Int))),(12,(aI .i64 (k:Int)))] ([(0,Ob [(Xk x)] 5)]) 1 ?_ (λJ=>X5.cut ?_)
   ·
    revert h;refine brI (λh61=>λe=>X8 [Bt] (k:=wC e C)) λh61=>rnI [Bf] ?_;intro h;exact wkT [] (ih   o h C)
   clear h;revert h60;exact brI (λh57=>bI λv58 h59=>λe=>X8 [Gt,Gt,Gt,Gt,.pure _ (aB v58)] (k:=wJ [] J)) λh57=>λe=>X8 [Gf,Gf,Gf,Gf] (k:=wJ [] J)
  clear h;revert h52;exact brI (λh48=>bI λv49 h50=>brI (λh51=>λe=>X8 [Gt,Gt,Gt,.pure _ (aB v49),Gt,Gf,Gf,Gf,Gt] (k:=wJ [] J)) λh51=>λe=>X8 [Gt,Gt,Gt,.pure _ (aB v49),Gt,Gt,Gt,Gt,Gt] (k:=wJ [] J)) λh48=>λe=>X8 [Gf,Gf,Gf,Gf,Gf,Gf,Gf,Gf] (k:=wJ [] J)
instance X03q:PZ 48 (∀ (a0:(List Xq)) (r:Int),X8n a0=some r->Pz 48 [(Lf (a0.map Xk))] (aI .i64 r)):=⟨λa0 r h=>by
 refine X15.sym X2 fn48 (nt:=55) rfl rfl ?_ okM;unfold X8n at h;revert h;refine brI (λh1=>λe=>oj e▸X8 [.el (aI .i64 (a0.length:Int)),Bt] (k:=fi)) λh1=>bI λu2 h3=>?_;have qh3:=X05 h3;refine bI λo62 h63=>rnI [.el (aI .i64 (a0.length:Int)),Bf,.el (aI .i64 (a0.length:Int))] ?_;intro h;refine wkT [] (X5.cut (drA (Xhz a0 qh3) _ h63 ?_));rcases o62 with _|_
 ·
  refine lG rfl ?_;try dsimp only at h
  revert h;exact λe=>oj e▸X8 [] (k:=fi)
 refine lG rfl ?_;try dsimp only at h
 revert h;exact λe=>oj e▸X8 [] (k:=fi)⟩
theorem Xdx {Q:Qt} {μ:Mu} (Xq8:(List (List Xq))) (hl:Xq8.length<=140737488355328):Dr Xq8 λxs k=>∀ (o:X9e) (h:X28 Xq8 xs k  = some o),Lq Tryz.prog 18 0 Q μ o (fun|.x0=>(.exit 0,⟨fr [],hp ([]),0⟩)|.x1 X7r=>(.ret,⟨fr [(2,(aI .i64 X7r))],hp ([]),0⟩))
  (X5b 0 (X10 Tryz.f20)) ⟨fr [(6,(Lf (List.map (X6v false Xk) Xq8))),(7,(aI .i64 (Xq8.length:Int))),(8,(aI .i64 (k:Int)))],hp ([]),0⟩:=by
 refine drI ?_ ?_
 ·
  intro k hk hc  o h C;rw[X28] at h;refine X5.round ?_;revert h;exact λe=>X8 [Bf] (k:=wC e C)
 ·
  intro x xs k hk hg hc ih  o h C;rw[X28] at h;refine X5.round ?_;revert h;refine bI λv10 h11=>brI (λh12=>λe=>X8 [Bt,.el (X6v false Xk x),.pure _ (aI .i64 v10),Bt] (k:=wC e C)) λh12=>rnI [Bt,.el (X6v false Xk x),.pure _ (aI .i64 v10),Bf] ?_;intro h;exact wkT [] (ih   o h C)
instance Xvg:PZ 20 (∀ (a0:(List (List Xq))) (r:Int),X5j a0=some r->Pz 20 [(Lf (List.map (X6v false Xk) a0))] (aI .i64 r)):=⟨λa0 r h=>by
 refine X15.sym X2 fn20 (nt:=18) rfl rfl ?_ okM;unfold X5j at h;revert h;refine bI λu1 h2=>?_;have qh2:=X05 h2;refine bI λo13 h14=>rnI [.el (aI .i64 (a0.length:Int))] ?_;intro h;refine wkT [] (X5.cut (drA (Xdx a0 qh2) _ h14 ?_));rcases o13 with _|⟨X7r⟩
 ·
  refine lG rfl ?_;try dsimp only at h
  revert h;exact λe=>oj e▸X8 [] (k:=fi)
 refine lG rfl ?_;try dsimp only at h
 revert h;exact λe=>oj e▸X8 [] (k:=fi)⟩
theorem Xhx {Q:Qt} {μ:Mu} (Xei:(List Xq)) (hl:Xei.length<=140737488355328):∀ (xs:List Xq) (k:Nat) (hx:Xei.drop k=xs) (Xf:(List X6)) (Xi:(List X6)) (X3w:Int) (X04:Nb Xf) (Xn:Nb Xi) (o:X9h) (h:X3k Xei xs k Xf Xi X3w=some o)
  (C0:∀ (Xj:(List X6)) (X0d:(List X6)) (Xu:Nb Xj) (X0n:Nb X0d),o=X9h.x0 Xj X0d->Sx 47 Q [(2,(slE Xu.1 0 (Xj.map X0))),(3,(slE X0n.1 1 (X0d.map X0)))] ([]++opE Xu.1 0 3 (Xj.map X0)++opE X0n.1 1 3 (X0d.map X0)) 2 μ),
  Sl 47 Q f21 [(2,(slE X04.1 0 (Xf.map X0))),(3,(slE Xn.1 1 (Xi.map X0))),(6,(AV.fn 84 [(AV.ptr 2 0 0)])),(16,(Lf (Xei.map Xk))),(17,(aI .i64 (Xei.length:Int))),(18,(aI .i64 (k:Int)))] ([(2,Ob [(aI .i64 X3w)] 1)]++opE X04.1 0 3 (Xf.map X0)++opE Xn.1 1 3 (Xi.map X0)) 3 μ:=by
 intro xs
 induction xs with
 |nil =>
  intro k hx Xf Xi X3w X04 Xn o h C0;have hk:=X2n hx;have hc:=lpN hx;rw[X3k] at h;rcases X04 with ⟨_|_,X1v⟩
  ·
   rcases Xn with ⟨_|_,X0a⟩
   ·
    refine X5.round ?_;revert h;exact λe=>X8 [Bf] (k:=wkT [] (C0 _ _  nbF nbF (oj e).symm))
   obtain rfl:=X0a rfl;refine X5.round ?_;revert h;exact λe=>X8 [Bf] (k:=wkT [] (C0 _ _  nbF nbS (oj e).symm))
  ·
   obtain rfl:=X1v rfl;rcases Xn with ⟨_|_,X0a⟩
   ·
    refine X5.round ?_;revert h;exact λe=>X8 [Bf] (k:=wkT [] (C0 _ _  nbS nbF (oj e).symm))
   ·
    obtain rfl:=X0a rfl;refine X5.round ?_;revert h;exact λe=>X8 [Bf] (k:=wkT [] (C0 _ _  nbS nbS (oj e).symm))
 |cons x xs ih =>
  intro k hx Xf Xi X3w X04 Xn o h C0;obtain⟨hk,hg,hx1⟩:=X1w hx;have hc:=lpC hx;rw[X3k] at h;rcases X04 with ⟨_|_,X1v⟩
  ·
   rcases Xn with ⟨_|_,X0a⟩
   ·
    refine X5.round ?_;refine X0f [Bt,.el (Xk x)] ?_;refine X5.inline X2 fn84 rfl rfl rfl rfl rfl trivial trivial rfl rfl ?_;revert h;refine bI λXn9 h190=>rnI [] ?_;intro h;refine jn [(4,(aI .i64 X3w))] ([(0,Ob (Xf.map X0) 3),(1,Ob (Xi.map X0) 3),(2,Ob [(aI .i64 Xn9)] 1),(3,Ob [(Xk x)] 5)]) 4 ?_ (λJ=>X5.cut ?_)
    ·
     refine X0f [] ?_;refine X5.back (by intro id h;cases h) rfl ?_;revert h;refine bI λw197 h204=>?_;intro h;obtain⟨Xrw,Xrv⟩:=w197;try dsimp only at h
     refine X0f [] ?_;refine X5.joinF (λ(q:Nb Xrw×Nb Xrv)=>⟨fr [(2,(slE q.1.1 0 (Xrw.map X0))),(3,(slE q.2.1 1 (Xrv.map X0))),(6,(AV.fn 84 [(AV.ptr 2 0 0)])),(16,(Lf (Xei.map Xk))),(17,(aI .i64 (Xei.length:Int))),(18,(aI .i64 (k:Int)))],hp ([(2,Ob [(aI .i64 Xn9)] 1)]++opE q.1.1 0 3 (Xrw.map X0)++opE q.2.1 1 3 (Xrv.map X0)),3⟩) ?_ (λJ=>X5.cut ?_)
     ·
      rintro⟨Xve,Xlz⟩;rcases Xve with ⟨_|_,Xwb⟩
      ·
       rcases Xlz with ⟨_|_,Xgy⟩
       ·
        exact X8 [] (k:=wkT [] (ih (k+1) hx1 _ _ _ nbF nbF o h C0))
       obtain rfl:=Xgy rfl;exact X8 [] (k:=wkT [] (ih (k+1) hx1 _ _ _ nbF nbS o h C0))
      obtain rfl:=Xwb rfl;rcases Xlz with ⟨_|_,Xgy⟩
      ·
       exact X8 [] (k:=wkT [] (ih (k+1) hx1 _ _ _ nbS nbF o h C0))
      obtain rfl:=Xgy rfl;exact X8 [] (k:=wkT [] (ih (k+1) hx1 _ _ _ nbS nbS o h C0))
     clear h;revert h204;refine brI (λh198=>?_) λh198=>?_
     ·
      intro h;simp only[Option.some.injEq,Prod.mk.injEq] at h;obtain⟨rfl,rfl⟩:=h;exact X8 [Bt] (k:=wkT [] (X5.glue (J (nbF,nbF))))
     refine brI (λh199=>?_) λh199=>?_
     ·
      refine bI λu200 h201=>?_;intro h;simp only[Option.some.injEq,Prod.mk.injEq] at h;obtain⟨rfl,rfl⟩:=h;exact X8 [Bf,Bt,.no] (o:=by repeat' first|apply Ya|exact pcM|(refine X0g h201 rfl ?_;first|(simp<;>omega)|(simp[hc,h198,h199]<;>omega))|(refine Xv h201 (by decide) ?_;first|(simp<;>omega)|(simp[hc,h198,h199]<;>omega))|exact X1i) (k:=wkT [(1,5)] (X5.glue (J (nbF,nbF))))
     refine bI λu202 h203=>?_;intro h;simp only[Option.some.injEq,Prod.mk.injEq] at h;obtain⟨rfl,rfl⟩:=h;exact X8 [Bf,Bf,.no] (o:=by repeat' first|apply Ya|exact pcM|(refine X0g h203 rfl ?_;first|(simp<;>omega)|(simp[hc,h198,h199]<;>omega))|(refine Xv h203 (by decide) ?_;first|(simp<;>omega)|(simp[hc,h198,h199]<;>omega))|exact X1i) (k:=wkT [(0,5)] (X5.glue (J (nbF,nbF))))
    clear h;revert h190;exact brI (λh189=>λe=>X8 [Bt] (k:=wJ [] J)) λh189=>λe=>X8 [Bf] (k:=wJ [] J)
   obtain rfl:=X0a rfl;refine X5.round ?_;refine X0f [Bt,.el (Xk x)] ?_;refine X5.inline X2 fn84 rfl rfl rfl rfl rfl trivial trivial rfl rfl ?_;revert h;refine bI λXzk h212=>rnI [] ?_;intro h;refine jn [(4,(aI .i64 X3w))] ([(0,Ob (Xf.map X0) 3),(2,Ob [(aI .i64 Xzk)] 1),(3,Ob [(Xk x)] 5)]) 4 ?_ (λJ=>X5.cut ?_)
   ·
    refine X0f [] ?_;refine X5.back (by intro id h;cases h) rfl ?_;revert h;refine bI λw219 h226=>?_;intro h;obtain⟨Xru,Xrt⟩:=w219;try dsimp only at h
    refine X0f [] ?_;refine X5.joinF (λ(q:Nb Xru×Nb Xrt)=>⟨fr [(2,(slE q.1.1 0 (Xru.map X0))),(3,(slE q.2.1 1 (Xrt.map X0))),(6,(AV.fn 84 [(AV.ptr 2 0 0)])),(16,(Lf (Xei.map Xk))),(17,(aI .i64 (Xei.length:Int))),(18,(aI .i64 (k:Int)))],hp ([(2,Ob [(aI .i64 Xzk)] 1)]++opE q.1.1 0 3 (Xru.map X0)++opE q.2.1 1 3 (Xrt.map X0)),3⟩) ?_ (λJ=>X5.cut ?_)
    ·
     rintro⟨Xvd,Xly⟩;rcases Xvd with ⟨_|_,Xwa⟩
     ·
      rcases Xly with ⟨_|_,Xgx⟩
      ·
       exact X8 [] (k:=wkT [] (ih (k+1) hx1 _ _ _ nbF nbF o h C0))
      obtain rfl:=Xgx rfl;exact X8 [] (k:=wkT [] (ih (k+1) hx1 _ _ _ nbF nbS o h C0))
     obtain rfl:=Xwa rfl;rcases Xly with ⟨_|_,Xgx⟩
     ·
      exact X8 [] (k:=wkT [] (ih (k+1) hx1 _ _ _ nbS nbF o h C0))
     obtain rfl:=Xgx rfl;exact X8 [] (k:=wkT [] (ih (k+1) hx1 _ _ _ nbS nbS o h C0))
    clear h;revert h226;refine brI (λh220=>?_) λh220=>?_
    ·
     intro h;simp only[Option.some.injEq,Prod.mk.injEq] at h;obtain⟨rfl,rfl⟩:=h;exact X8 [Bt] (k:=wkT [] (X5.glue (J (nbF,nbS))))
    refine brI (λh221=>?_) λh221=>?_
    ·
     refine bI λu222 h223=>?_;intro h;simp only[Option.some.injEq,Prod.mk.injEq] at h;obtain⟨rfl,rfl⟩:=h;exact X8 [Bf,Bt,.no] (k:=wkT [(1,5)] (X5.glue (J (nbF,nbF))))
    refine bI λu224 h225=>?_;intro h;simp only[Option.some.injEq,Prod.mk.injEq] at h;obtain⟨rfl,rfl⟩:=h;exact X8 [Bf,Bf,.no] (o:=by repeat' first|apply Ya|exact pcM|(refine X0g h225 rfl ?_;first|(simp<;>omega)|(simp[hc,h220,h221]<;>omega))|(refine Xv h225 (by decide) ?_;first|(simp<;>omega)|(simp[hc,h220,h221]<;>omega))|exact X1i) (k:=wkT [(0,5)] (X5.glue (J (nbF,nbS))))
   clear h;revert h212;exact brI (λh211=>λe=>X8 [Bt] (k:=wJ [] J)) λh211=>λe=>X8 [Bf] (k:=wJ [] J)
  obtain rfl:=X1v rfl;rcases Xn with ⟨_|_,X0a⟩
  ·
   refine X5.round ?_;refine X0f [Bt,.el (Xk x)] ?_;refine X5.inline X2 fn84 rfl rfl rfl rfl rfl trivial trivial rfl rfl ?_;revert h;refine bI λXzj h234=>rnI [] ?_;intro h;refine jn [(4,(aI .i64 X3w))] ([(1,Ob (Xi.map X0) 3),(2,Ob [(aI .i64 Xzj)] 1),(3,Ob [(Xk x)] 5)]) 4 ?_ (λJ=>X5.cut ?_)
   ·
    refine X0f [] ?_;refine X5.back (by intro id h;cases h) rfl ?_;revert h;refine bI λw241 h248=>?_;intro h;obtain⟨Xrs,Xrr⟩:=w241;try dsimp only at h
    refine X0f [] ?_;refine X5.joinF (λ(q:Nb Xrs×Nb Xrr)=>⟨fr [(2,(slE q.1.1 0 (Xrs.map X0))),(3,(slE q.2.1 1 (Xrr.map X0))),(6,(AV.fn 84 [(AV.ptr 2 0 0)])),(16,(Lf (Xei.map Xk))),(17,(aI .i64 (Xei.length:Int))),(18,(aI .i64 (k:Int)))],hp ([(2,Ob [(aI .i64 Xzj)] 1)]++opE q.1.1 0 3 (Xrs.map X0)++opE q.2.1 1 3 (Xrr.map X0)),3⟩) ?_ (λJ=>X5.cut ?_)
    ·
     rintro⟨Xvc,Xlx⟩;rcases Xvc with ⟨_|_,Xw9⟩
     ·
      rcases Xlx with ⟨_|_,Xgw⟩
      ·
       exact X8 [] (k:=wkT [] (ih (k+1) hx1 _ _ _ nbF nbF o h C0))
      obtain rfl:=Xgw rfl;exact X8 [] (k:=wkT [] (ih (k+1) hx1 _ _ _ nbF nbS o h C0))
     obtain rfl:=Xw9 rfl;rcases Xlx with ⟨_|_,Xgw⟩
     ·
      exact X8 [] (k:=wkT [] (ih (k+1) hx1 _ _ _ nbS nbF o h C0))
     obtain rfl:=Xgw rfl;exact X8 [] (k:=wkT [] (ih (k+1) hx1 _ _ _ nbS nbS o h C0))
    clear h;revert h248;refine brI (λh242=>?_) λh242=>?_
    ·
     intro h;simp only[Option.some.injEq,Prod.mk.injEq] at h;obtain⟨rfl,rfl⟩:=h;exact X8 [Bt] (k:=wkT [] (X5.glue (J (nbS,nbF))))
    refine brI (λh243=>?_) λh243=>?_
    ·
     refine bI λu244 h245=>?_;intro h;simp only[Option.some.injEq,Prod.mk.injEq] at h;obtain⟨rfl,rfl⟩:=h;exact X8 [Bf,Bt,.no] (o:=by repeat' first|apply Ya|exact pcM|(refine X0g h245 rfl ?_;first|(simp<;>omega)|(simp[hc,h242,h243]<;>omega))|(refine Xv h245 (by decide) ?_;first|(simp<;>omega)|(simp[hc,h242,h243]<;>omega))|exact X1i) (k:=wkT [(1,5)] (X5.glue (J (nbS,nbF))))
    refine bI λu246 h247=>?_;intro h;simp only[Option.some.injEq,Prod.mk.injEq] at h;obtain⟨rfl,rfl⟩:=h;exact X8 [Bf,Bf,.no] (k:=wkT [(0,5)] (X5.glue (J (nbF,nbF))))
   clear h;revert h234;exact brI (λh233=>λe=>X8 [Bt] (k:=wJ [] J)) λh233=>λe=>X8 [Bf] (k:=wJ [] J)
  obtain rfl:=X0a rfl;refine X5.round ?_;refine X0f [Bt,.el (Xk x)] ?_;refine X5.inline X2 fn84 rfl rfl rfl rfl rfl trivial trivial rfl rfl ?_;revert h;refine bI λXzg h256=>rnI [] ?_;intro h;refine jn [(4,(aI .i64 X3w))] ([(2,Ob [(aI .i64 Xzg)] 1),(3,Ob [(Xk x)] 5)]) 4 ?_ (λJ=>X5.cut ?_)
  ·
   refine X0f [] ?_;refine X5.back (by intro id h;cases h) rfl ?_;revert h;refine bI λw263 h270=>?_;intro h;obtain⟨Xrq,Xrp⟩:=w263;try dsimp only at h
   refine X0f [] ?_;refine X5.joinF (λ(q:Nb Xrq×Nb Xrp)=>⟨fr [(2,(slE q.1.1 0 (Xrq.map X0))),(3,(slE q.2.1 1 (Xrp.map X0))),(6,(AV.fn 84 [(AV.ptr 2 0 0)])),(16,(Lf (Xei.map Xk))),(17,(aI .i64 (Xei.length:Int))),(18,(aI .i64 (k:Int)))],hp ([(2,Ob [(aI .i64 Xzg)] 1)]++opE q.1.1 0 3 (Xrq.map X0)++opE q.2.1 1 3 (Xrp.map X0)),3⟩) ?_ (λJ=>X5.cut ?_)
   ·
    rintro⟨Xvb,Xlw⟩;rcases Xvb with ⟨_|_,Xw8⟩
    ·
     rcases Xlw with ⟨_|_,Xgv⟩
     ·
      exact X8 [] (k:=wkT [] (ih (k+1) hx1 _ _ _ nbF nbF o h C0))
     obtain rfl:=Xgv rfl;exact X8 [] (k:=wkT [] (ih (k+1) hx1 _ _ _ nbF nbS o h C0))
    obtain rfl:=Xw8 rfl;rcases Xlw with ⟨_|_,Xgv⟩
    ·
     exact X8 [] (k:=wkT [] (ih (k+1) hx1 _ _ _ nbS nbF o h C0))
    obtain rfl:=Xgv rfl;exact X8 [] (k:=wkT [] (ih (k+1) hx1 _ _ _ nbS nbS o h C0))
   clear h;revert h270;refine brI (λh264=>?_) λh264=>?_
   ·
    intro h;simp only[Option.some.injEq,Prod.mk.injEq] at h;obtain⟨rfl,rfl⟩:=h;exact X8 [Bt] (k:=wkT [] (X5.glue (J (nbS,nbS))))
   refine brI (λh265=>?_) λh265=>?_
   ·
    refine bI λu266 h267=>?_;intro h;simp only[Option.some.injEq,Prod.mk.injEq] at h;obtain⟨rfl,rfl⟩:=h;exact X8 [Bf,Bt,.no] (k:=wkT [(1,5)] (X5.glue (J (nbS,nbF))))
   refine bI λu268 h269=>?_;intro h;simp only[Option.some.injEq,Prod.mk.injEq] at h;obtain⟨rfl,rfl⟩:=h;exact X8 [Bf,Bf,.no] (k:=wkT [(0,5)] (X5.glue (J (nbF,nbS))))
  clear h;revert h256;exact brI (λh255=>λe=>X8 [Bt] (k:=wJ [] J)) λh255=>λe=>X8 [Bf] (k:=wJ [] J)
instance X03p:PZ 21 (∀ (a0:(List Xq)) (r:(List X6)×(List X6)×Int),Xb2 a0=some r->Pz 21 [(Lf (a0.map Xk))] (AV.tup [(Lt (r.1.map X0)),(Lt (r.2.1.map X0)),(aI .i64 r.2.2)])):=⟨λa0 r h=>by
 refine X15.sym X2 fn21 (nt:=47) rfl rfl ?_ okM;unfold Xb2 at h;revert h;refine bI λv1 h2=>brI (λh3=>λe=>oj e▸X8 [.pure _ (aI .i64 v1),Bt] (k:=fi)) λh3=>rnI [.pure _ (aI .i64 v1),Bf] ?_;intro h;refine X5.inline X2 fn49 rfl rfl rfl rfl rfl trivial trivial rfl rfl ?_;refine X0f [] ?_;refine X5.back (by intro id h;cases h) rfl ?_;revert h;refine bI λu4 h5=>?_;have qh5:=X05 h5;refine bI λo271 h272=>rnI [.el (aI .i64 (a0.length:Int))] ?_;intro h;refine wkT [(2,0)] (X5.cut (Xhx a0 qh5 a0 0 (by simp) _ _ _ nbS nbS _ h272 ?_));intro Xj X0d Xu X0n eo271;subst eo271;refine X5.glue ?_;try dsimp only at h
 rcases Xu with ⟨_|_,X1r⟩<;>(try obtain rfl:=X1r rfl);all_goals
  rcases X0n with ⟨_|_,X3z⟩<;>(try obtain rfl:=X3z rfl);all_goals
   revert h;exact λe=>oj e▸X8 [] (k:=fi)⟩
instance X02h:PZ 148 (∀ (a0:(List Xy)) (r:Int),Xbt a0=some r->Pz 148 [(Lf (a0.map X3))] (aI .i64 r)):=⟨λa0 r h=>by
 refine X15.sym X2 X0h8 (nt:=13) rfl rfl ?_ okM;unfold Xbt at h;revert h;exact bI λv1 h2=>λe=>oj e▸X8 [.pure _ (AV.tup [(aB v1.1),(aI .i64 v1.2.1),(aI .i64 v1.2.2)])] (k:=fi)⟩
instance X04a:PZ 223 (∀ (a0:Bool) (r:Int),X3d a0=some r->Pz 223 [(aB a0)] (aI .i64 r)):=⟨λa0 r h=>by
 refine X15.sym X2 X0gt (nt:=4) rfl rfl ?_ okM;unfold X3d at h;revert h;exact brI (λh1=>λe=>oj e▸X8 [Bt] (k:=fi)) λh1=>λe=>oj e▸X8 [Bf] (k:=fi)⟩
instance Xm1:PZ 149 (∀ (a0:Int) (a1:Int) (a2:Int) (r:Int×Int),Xk0 a0 a1 a2=some r->Pz 149 [(aI .u8 a0),(aI .i64 a1),(aI .i64 a2)] (AV.tup [(aI .i64 r.1),(aI .i64 r.2)])):=⟨λa0 a1 a2 r h=>by
 refine X15.sym X2 X0h7 (nt:=97) rfl rfl ?_ okM;unfold Xk0 at h;revert h;refine brI (λh1=>λe=>oj e▸X8 [Bt,.wrap] (k:=fi)) λh1=>brI (λh2=>bI λv3 h4=>λe=>oj e▸X8 [Bf,Bt,.pure _ (aI .i64 v3)] (k:=fi)) λh2=>brI (λh5=>λe=>oj e▸X8 [Bf,Bf,Bt,.wrap] (k:=fi)) λh5=>brI (λh6=>λe=>oj e▸X8 [Bf,Bf,Bf,Bt,.wrap] (k:=fi)) λh6=>brI (λh7=>λe=>oj e▸X8 [Bf,Bf,Bf,Bf,Bt,.wrap] (k:=fi)) λh7=>brI (λh8=>bI λu9 h10=>λe=>oj e▸X8 [Bf,Bf,Bf,Bf,Bf,Bt,.wrap] (k:=fi)) λh8=>brI (λh11=>bI λu12 h13=>λe=>oj e▸X8 [Bf,Bf,Bf,Bf,Bf,Bf,Bt] (k:=fi)) λh11=>brI (λh14=>bI λv15 h16=>λe=>oj e▸X8 [Bf,Bf,Bf,Bf,Bf,Bf,Bf,Bt,.pure _ (aI .i64 v15)] (k:=fi)) λh14=>brI (λh17=>bI λv18 h19=>λe=>oj e▸X8 [Bf,Bf,Bf,Bf,Bf,Bf,Bf,Bf,Bt,.pure _ (aI .i64 v18)] (k:=fi)) λh17=>brI (λh20=>bI λv21 h22=>λe=>oj e▸X8 [Bf,Bf,Bf,Bf,Bf,Bf,Bf,Bf,Bf,Bt,.pure _ (aI .i64 v21)] (k:=fi)) λh20=>brI (λh23=>bI λv24 h25=>λe=>oj e▸X8 [Bf,Bf,Bf,Bf,Bf,Bf,Bf,Bf,Bf,Bf,Bt,.pure _ (aI .i64 v24)] (k:=fi)) λh23=>brI (λh26=>bI λv27 h28=>λe=>oj e▸X8 [Bf,Bf,Bf,Bf,Bf,Bf,Bf,Bf,Bf,Bf,Bf,Bt,.pure _ (aI .i64 v27)] (k:=fi)) λh26=>brI (λh29=>bI λv30 h31=>λe=>oj e▸X8 [Bf,Bf,Bf,Bf,Bf,Bf,Bf,Bf,Bf,Bf,Bf,Bf,Bt,.pure _ (aI .i64 v30)] (k:=fi)) λh29=>brI (λh32=>bI λv33 h34=>λe=>oj e▸X8 [Bf,Bf,Bf,Bf,Bf,Bf,Bf,Bf,Bf,Bf,Bf,Bf,Bf,Bt,.pure _ (aI .i64 v33)] (k:=fi)) λh32=>rnI [Bf,Bf,Bf,Bf,Bf,Bf,Bf,Bf,Bf,Bf,Bf,Bf,Bf,Bf] ?_;exact brI (λh35=>bI λv36 h37=>λe=>oj e▸X8 [Bt,.pure _ (aI .i64 v36)] (k:=fi)) λh35=>λe=>oj e▸X8 [Bf] (k:=fi)⟩
theorem Xka {Q:Qt} {μ:Mu} (Xf:(V5 Int)) (Xit:(List Xy)) (hl:Xit.length<=140737488355328):∀ (xs:List Xy) (k:Nat) (hx:Xit.drop k=xs) (Xi:(List Int)) (o:X7q) (h:X2y Xf Xit xs k Xi=some o)
  (C0:∀ (Xj:(List Int)),o=X7q.x0 Xj->Sx 80 Q [(8,(AV.ref 0 0 (Xj.length)))] ([(0,Ob (List.map (aI .i64) Xj) 1)]) 1 μ)
  (C1:∀ (X09:(List Int)) (Xli:Int) (X08:Nb X09),o=X7q.x1 X09 Xli->Sr 80 Q [(4,(slE X08.1 0 (List.map (aI .i64) X09))),(5,(aI .i64 Xli))] ([]++opE X08.1 0 1 (List.map (aI .i64) X09)) 1 μ),
  Sl 80 Q f85 [(7,(AV.ptr 0 0 0)),(8,(AV.ref 1 0 (Xi.length))),(28,(Lf (Xit.map X3))),(29,(aI .i64 (Xit.length:Int))),(30,(aI .i64 (k:Int)))] ([(0,Ob [(Xdn Xf)] 5),(1,Ob (List.map (aI .i64) Xi) 1)]) 2 μ:=by
 intro xs
 induction xs with
 |nil =>
  intro k hx Xi o h C0 C1;have hk:=X2n hx;have hc:=lpN hx;rw[X2y] at h;refine X5.round ?_;revert h;exact λe=>X8 [Bf] (k:=wkT [(0,1)] (C0 _  (oj e).symm))
 |cons x xs ih =>
  intro k hx Xi o h C0 C1;obtain⟨hk,hg,hx1⟩:=X1w hx;have hc:=lpC hx;rw[X2y] at h;refine X5.round ?_;revert h;refine brI (λh87=>?_) λh87=>?_
  ·
   refine bI λe88 h89=>?_;try have qh89:=Xm h89
   refine rnI [Bt,.el (X3 x),Bt,.el (aI .i64 e88),.ld (aI .i64 e88)] ?_;intro h;exact wkT [] (ih (k+1) hx1 _ o h C0 C1)
  refine brI (λh90=>?_) λh90=>?_
  ·
   refine bI λXnd h116=>rnI [Bt,.el (X3 x),Bf,Bt,.stop 16] ?_;intro h;refine jn [(7,(AV.ptr 0 0 0)),(8,(AV.ref 1 0 (Xnd.length))),(28,(Lf (Xit.map X3))),(29,(aI .i64 (Xit.length:Int))),(30,(aI .i64 (k:Int)))] ([(0,Ob [(Xdn Xf)] 5),(1,Ob (List.map (aI .i64) Xnd) 1)]) 2 ?_ (λJ=>X5.cut ?_)
   ·
    exact X8 [] (k:=wkT [] (ih (k+1) hx1 _ o h C0 C1))
   clear h;revert h116;refine brI (λh104=>?_) λh104=>?_
   ·
    refine bI λe105 h106=>?_;try have qh106:=Xm h106
    exact λe=>X8 [.ix 0,.el (aI .i64 e105),.ld (aI .i64 e105)] (k:=wJ [] J)
   refine brI (λh107=>?_) λh107=>?_
   ·
    refine bI λe108 h109=>?_;try have qh109:=Xm h109
    exact λe=>X8 [.ix 2,.el (aI .i64 e108),.ld (aI .i64 e108)] (k:=wJ [] J)
   refine brI (λh110=>?_) λh110=>?_
   ·
    refine bI λe111 h112=>?_;try have qh112:=Xm h112
    exact λe=>X8 [.ix 3,.el (aI .i64 e111),.ld (aI .i64 e111)] (k:=wJ [] J)
   refine brI (λh113=>?_) λh113=>?_
   ·
    refine bI λe114 h115=>?_;try have qh115:=Xm h115
    exact λe=>X8 [.ix 4,.el (aI .i64 e114),.ld (aI .i64 e114)] (k:=wJ [] J)
   intro h;cases h
  refine bI λe117 h118=>?_;try have qh118:=Xm h118
  refine bI λe119 h120=>?_;try have qh120:=Xm h120
  refine bI λv121 h122=>rnI [Bt,.el (X3 x),Bf,Bf,.el (aI .i64 e117),.ld (aI .i64 e117),.el (aI .i64 e119),.ld (aI .i64 e119),.pure _ (AV.tup [(aI .i64 v121.1),(aI .i64 v121.2)])] ?_;refine brI (λh123=>λe=>X8 [Bt] (k:=wkT [] (C1 _ _  nbS (oj e).symm))) λh123=>bI λe124 h125=>?_;try have qh125:=Xm h125
  refine rnI [Bf,.el (aI .i64 e124),.ld (aI .i64 e124)] (o:=by repeat' first|apply Ya|exact pcM|exact X1i) ?_;intro h;exact wkT [] (ih (k+1) hx1 _ o h C0 C1)
instance X06a:PZ 85 (∀ (a0:(List Xy)) (a1:X6) (r:(List Int)×Int),Xfz a0 a1=some r->Pz 85 [(Lf (a0.map X3)),(X0 a1)] (AV.tup [(Lt (List.map (aI .i64) r.1)),(aI .i64 r.2)])):=⟨λa0 a1 r h=>by
 refine X15.sym X2 fn85 (nt:=80) rfl rfl ?_ okM;unfold Xfz at h;revert h;refine bI λv1 h2=>brI (λh3=>λe=>oj e▸X8 [.pure _ (aI .i64 v1),Bt] (k:=fi)) λh3=>bI λu4 h5=>?_;have qh5:=X087 h5;refine bI λu6 h7=>?_;have qh7:=X05 h7;refine bI λo126 h127=>rnI [.pure _ (aI .i64 v1),Bf,.el (aI .i64 (a0.length:Int)),.el (aI .i64 (a0.length:Int))] (o:=by repeat' first|apply Ya|exact pcM|exact(Int.le_trans qh5.2.2 (by decide))|exact om|exact X1i) ?_;intro h;refine wkT [(0,1),(1,2)] (X5.cut (Xka (V5.mk 0 0 a1.Key a1.Time a1.Value) a0 qh7 a0 0 (by simp) _ _ h127 ?_ ?_))
 ·
  intro Xj eo126;subst eo126;refine X5.glue ?_;try dsimp only at h
  revert h;exact λe=>oj e▸X8 [] (k:=fi)
 intro X09 Xli X08 eo126;subst eo126;refine X5.glue ?_;try dsimp only at h
 rcases X08 with ⟨_|_,X31⟩<;>(try obtain rfl:=X31 rfl);all_goals
  revert h;exact λe=>oj e▸X8 [] (k:=fi)⟩
instance Xew:PZ 50 (∀ (a0:(List Xy)) (a1:X6) (r:Int×Int),X5p a0 a1=some r->Pz 50 [(Lf (a0.map X3)),(X0 a1)] (AV.tup [(aI .i64 r.1),(aI .i64 r.2)])):=⟨λa0 a1 r h=>by
 refine X15.sym X2 fn50 (nt:=23) rfl rfl ?_ okM;unfold X5p at h;revert h;refine bI λv1 h2=>brI (λh3=>λe=>oj e▸X8 [.pure _ (AV.tup [(Lt (List.map (aI .i64) v1.1)),(aI .i64 v1.2)]),Bt] (k:=fi)) λh3=>bI λe4 h5=>?_;try have qh5:=Xm h5
 exact λe=>oj e▸X8 [.pure _ (AV.tup [(Lt (List.map (aI .i64) v1.1)),(aI .i64 v1.2)]),Bf,.el (aI .i64 (v1.1.length:Int)),.wrap,.el (aI .i64 e4)] (k:=fi)⟩
end Go.Av.Tryz