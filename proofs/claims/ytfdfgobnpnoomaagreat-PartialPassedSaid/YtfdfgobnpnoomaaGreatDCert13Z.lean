/- Printed by decomp.py: that the program computes the functions. -/
import Derived.Test.YtfdfgobnpnoomaaGreatDCert12Z
set_option linter.all false

namespace Go.Av.Tryz
open Go.Proofs Go.D
set_option maxRecDepth 10000
set_option maxHeartbeats 40000000
theorem Xhd {Q:X02->St->Mu->Prop} {μ:Mu} (X00:Int) (X1s:Int) (X9z:Int) (Xt7:Int):∀ (n:Nat) (Xf:(List Xr)) (X84:Int) (Xy:Nb Xf) (o:X8f) (h:X3m X00 X1s X9z Xt7 n Xf X84=some o)
  (C0:∀ (Xe:(List Xr)) (Xj:Nb Xe),o=X8f.x0 Xe->X2 Tryz.prog 48 0 Q (.exit (.exit 0)) [] ⟨fr [(8,(slE Xj.1 0 (Xe.map X3)))],hp ([]++opE Xj.1 0 2 (Xe.map X3)),1⟩ μ),
  X2 Tryz.prog 48 0 Q (.loop (X2v 0 (Xh Tryz.f150))) [] ⟨fr [(0,(aI .i64 X00)),(1,(aI .i64 X1s)),(2,(aI .i64 X9z)),(7,(aI .i64 Xt7)),(8,(slE Xy.1 0 (Xf.map X3))),(9,(aI .i64 X84))],hp ([]++opE Xy.1 0 2 (Xf.map X3)),1⟩ μ:=by
 intro n
 induction n with
 |zero=>intro Xf X84 Xy o h C0;cases h
 |succ n ih =>
  intro Xf X84 Xy o h C0
  rw[X3m] at h
  rcases Xy with ⟨_|_,X1b⟩
  ·
   refine X2.round ?_
   revert h
   refine brI (fun h40=>?_) fun h40=>fun e=>X9 [.wrap,Bf] (k:=wkT [] (C0 _  nbF (oj e).symm))
   refine bI fun Xrz h48=>rnI [.wrap,Bt,.wrap,.wrap,.wrap] ?_
   intro h
   refine X2.joinF (fun(q:Nb Xrz)=>⟨fr [(0,(aI .i64 X00)),(1,(aI .i64 X1s)),(2,(aI .i64 X9z)),(7,(aI .i64 Xt7)),(8,(slE q.1 0 (Xrz.map X3))),(9,(aI .i64 X84))],hp ([]++opE q.1 0 2 (Xrz.map X3)),1⟩) ?_ (fun J=>X2.cut ?_)
   ·
    rintro X011
    rcases X011 with ⟨_|_,X02h⟩
    ·
     exact X9 [.wrap] (k:=wkT [] (ih  _ _ nbF o h C0))
    obtain rfl:=X02h rfl
    exact X9 [.wrap] (k:=wkT [] (ih  _ _ nbS o h C0))
   clear h;revert h48
   refine brI (fun h45=>?_) fun h45=>?_
   ·
    refine bI fun u46 h47=>?_
    intro h
    obtain rfl:=oj h
    exact X9 [Bt,.wrap,.wrap,.wrap,.no] (o:=by repeat' first|apply Ya|exact pcM|(refine X0a h47 rfl ?_;first|(simp;done)|(simp;omega)|(simp[h40,h45];done)|(simp[h40,h45];omega))|(refine Xs h47 (by decide) ?_;first|(simp;done)|(simp;omega)|(simp[h40,h45];done)|(simp[h40,h45];omega))|exact X0k) (k:=wkT [(0,2)] (X2.glue (J nbF)))
   intro h
   obtain rfl:=oj h
   exact X9 [Bf] (k:=wkT [] (X2.glue (J nbF)))
  obtain rfl:=X1b rfl
  refine X2.round ?_
  revert h
  refine brI (fun h49=>?_) fun h49=>fun e=>X9 [.wrap,Bf] (k:=wkT [] (C0 _  nbS (oj e).symm))
  refine bI fun X01o h57=>rnI [.wrap,Bt,.wrap,.wrap,.wrap] ?_
  intro h
  refine X2.joinF (fun(q:Nb X01o)=>⟨fr [(0,(aI .i64 X00)),(1,(aI .i64 X1s)),(2,(aI .i64 X9z)),(7,(aI .i64 Xt7)),(8,(slE q.1 0 (X01o.map X3))),(9,(aI .i64 X84))],hp ([]++opE q.1 0 2 (X01o.map X3)),1⟩) ?_ (fun J=>X2.cut ?_)
  ·
   rintro X00y
   rcases X00y with ⟨_|_,X02e⟩
   ·
    exact X9 [.wrap] (k:=wkT [] (ih  _ _ nbF o h C0))
   obtain rfl:=X02e rfl
   exact X9 [.wrap] (k:=wkT [] (ih  _ _ nbS o h C0))
  clear h;revert h57
  refine brI (fun h54=>?_) fun h54=>?_
  ·
   refine bI fun u55 h56=>?_
   intro h
   obtain rfl:=oj h
   exact X9 [Bt,.wrap,.wrap,.wrap,.no] (o:=by repeat' first|apply Ya|exact pcM|(refine X0a h56 rfl ?_;first|(simp;done)|(simp;omega)|(simp[h49,h54];done)|(simp[h49,h54];omega))|(refine Xs h56 (by decide) ?_;first|(simp;done)|(simp;omega)|(simp[h49,h54];done)|(simp[h49,h54];omega))|exact X0k) (k:=wkT [(0,2)] (X2.glue (J nbF)))
  intro h
  obtain rfl:=oj h
  exact X9 [Bf] (k:=wkT [] (X2.glue (J nbS)))
instance Xzc:PCs Tryz.prog 150 (∀ (a0:Int) (a1:Int) (a2:Int) (r:(List Xr)),X8g a0 a1 a2=some r->X0g Tryz.prog 150 [(aI .i64 a0),(aI .i64 a1),(aI .i64 a2)] (AV.list true (r.map X3))):=⟨fun a0 a1 a2 r h=>by
 refine X0g.sym Xa X0ds (nt:=48) rfl rfl ?_ okM
 unfold X8g at h
 revert h
 refine bI fun v1 h2=>bI fun o58 h59=>rnI [.pure _ (aI .i64 v1),.wrap] ?_
 intro h
 refine wkT [] (X2.cut (Xhd a0 a1 a2 v1 _ _ _ nbS _ h59 ?_))
 intro Xe Xj eo58;subst eo58
 refine X2.glue ?_
 try dsimp only at h
 rcases Xj with ⟨_|_,X0n⟩
 ·
  revert h
  exact fun e=>oj e▸X9 [] (k:=fi)
 obtain rfl:=X0n rfl
 revert h
 exact fun e=>oj e▸X9 [] (k:=fi)⟩
instance X03y:PCs Tryz.prog 124 (∀ (a0:X0l) (a1:Int) (r:(List Xr)),X7n a0 a1=some r->X0g Tryz.prog 124 [(X0u a0),(aI .i64 a1)] (AV.list true (r.map X3))):=⟨fun a0 a1 r h=>by
 refine X0g.sym Xa X0ea (nt:=25) rfl rfl ?_ okM
 unfold X7n at h
 revert h
 exact brI (fun h1=>bI fun v2 h3=>fun e=>oj e▸X9 [Bt,.pure _ (AV.tup [(X3 v2.1),(aI .i64 v2.2)])] (k:=fi)) fun h1=>bI fun v4 h5=>fun e=>oj e▸X9 [Bf,.pure _ (AV.list true (v4.map X3))] (k:=fi)⟩
theorem X5b {Q:X02->St->Mu->Prop} {μ:Mu} (Xf:X0l) (X1t:(List Xr)) (X8j:Nb X1t) (hl:X1t.length<=140737488355328):∀ (xs:List Xr) (k:Nat) (hx:X1t.drop k=xs) (X0h:Xr) (X1a:(List Xr)) (Xiw:(List Xr)) (X6r:Nb X1a) (X7d:Nb Xiw) (o:X3k) (h:X0m Xf X1t xs k X0h X1a Xiw=some o)
  (C0:∀ (X5f:Xr) (X0q:(List Xr)) (X20:(List Xr)) (X11:Nb X0q) (X2e:Nb X20),o=X3k.x0 X5f X0q X20->X2 Tryz.prog 68 2 Q (.exit (.exit 0)) [] ⟨fr [(3,(AV.ptr 2 0 0)),(5,(slE X11.1 3 (X0q.map X3))),(6,(slE X2e.1 4 (X20.map X3)))],hp ([(0,Ob [(X0u Xf)] 3),(2,Ob [(X3 X5f)] 2)]++opE X11.1 3 2 (X0q.map X3)++opE X2e.1 4 2 (X20.map X3)),5⟩ μ),
  X2 Tryz.prog 68 2 Q (.loop (X2v 0 (Xh Tryz.f123))) [] ⟨fr [(0,(slE X8j.1 2 (X1t.map X3))),(3,(AV.ptr 3 0 0)),(5,(slE X6r.1 4 (X1a.map X3))),(6,(slE X7d.1 5 (Xiw.map X3))),(7,(aI .i64 (k:Int)))],hp ([(0,Ob [(X0u Xf)] 3),(3,Ob [(X3 X0h)] 2)]++opE X8j.1 2 2 (X1t.map X3)++opE X6r.1 4 2 (X1a.map X3)++opE X7d.1 5 2 (Xiw.map X3)),6⟩ μ:=by
 intro xs
 induction xs with
 |nil =>
  intro k hx X0h X1a Xiw X6r X7d o h C0
  have hk:=drop_nil hx
  have hc:decide ((k:Int)<(X1t.length:Int))=false:=Yf (by omega)
  rw[X0m] at h
  rcases X8j with ⟨_|_,Xed⟩
  ·
   rcases X6r with ⟨_|_,X8n⟩
   ·
    rcases X7d with ⟨_|_,X5m⟩
    ·
     refine X2.round ?_
     revert h
     exact fun e=>X9 [.el (aI .i64 (X1t.length:Int)),Bf] (k:=wkT [(2,3),(3,4),(4,5)] (C0 _ _ _  nbF nbF (oj e).symm))
    obtain rfl:=X5m rfl
    refine X2.round ?_
    revert h
    exact fun e=>X9 [.el (aI .i64 (X1t.length:Int)),Bf] (k:=wkT [(2,3),(3,4)] (C0 _ _ _  nbF nbS (oj e).symm))
   obtain rfl:=X8n rfl
   rcases X7d with ⟨_|_,X5m⟩
   ·
    refine X2.round ?_
    revert h
    exact fun e=>X9 [.el (aI .i64 (X1t.length:Int)),Bf] (k:=wkT [(2,3),(4,5)] (C0 _ _ _  nbS nbF (oj e).symm))
   obtain rfl:=X5m rfl
   refine X2.round ?_
   revert h
   exact fun e=>X9 [.el (aI .i64 (X1t.length:Int)),Bf] (k:=wkT [(2,3)] (C0 _ _ _  nbS nbS (oj e).symm))
  ·
   obtain rfl:=Xed rfl
   rcases X6r with ⟨_|_,X8n⟩
   ·
    rcases X7d with ⟨_|_,X5m⟩
    ·
     refine X2.round ?_
     revert h
     exact fun e=>X9 [.el (aI .i64 (List.length ([]:List Xr):Int)),Bf] (k:=wkT [(2,3),(3,4),(4,5)] (C0 _ _ _  nbF nbF (oj e).symm))
    ·
     obtain rfl:=X5m rfl
     refine X2.round ?_
     revert h
     exact fun e=>X9 [.el (aI .i64 (List.length ([]:List Xr):Int)),Bf] (k:=wkT [(2,3),(3,4)] (C0 _ _ _  nbF nbS (oj e).symm))
   ·
    obtain rfl:=X8n rfl
    rcases X7d with ⟨_|_,X5m⟩
    ·
     refine X2.round ?_
     revert h
     exact fun e=>X9 [.el (aI .i64 (List.length ([]:List Xr):Int)),Bf] (k:=wkT [(2,3),(4,5)] (C0 _ _ _  nbS nbF (oj e).symm))
    ·
     obtain rfl:=X5m rfl
     refine X2.round ?_
     revert h
     exact fun e=>X9 [.el (aI .i64 (List.length ([]:List Xr):Int)),Bf] (k:=wkT [(2,3)] (C0 _ _ _  nbS nbS (oj e).symm))
 |cons x xs ih =>
  intro k hx X0h X1a Xiw X6r X7d o h C0
  obtain⟨hk,hg,hx1⟩:=drop_cons hx
  have hc:decide ((k:Int)<(X1t.length:Int))=true:=Yt (by omega)
  rw[X0m] at h
  rcases X8j with ⟨_|_,Xed⟩
  ·
   rcases X6r with ⟨_|_,X8n⟩
   ·
    rcases X7d with ⟨_|_,X5m⟩
    ·
     refine X2.round ?_
     revert h
     refine bI fun v11415 h11416=>bI fun w11423 h11430=>?_
     intro h
     obtain⟨X025,Xmq,Xmp⟩:=w11423
     try dsimp only at h
     refine X10 [.el (aI .i64 (X1t.length:Int)),Bt,.el (X3 x),.ld (X3 x),.pure _ (aB v11415)] ?_
     refine X2.joinF (fun(q:Nb Xmq×Nb Xmp)=>⟨fr [(0,(AV.ref 2 0 (X1t.length))),(3,(AV.ptr 3 0 0)),(5,(slE q.1.1 4 (Xmq.map X3))),(6,(slE q.2.1 5 (Xmp.map X3))),(7,(aI .i64 (k:Int)))],hp ([(0,Ob [(X0u Xf)] 3),(2,Ob (X1t.map X3) 2),(3,Ob [(X3 X025)] 2)]++opE q.1.1 4 2 (Xmq.map X3)++opE q.2.1 5 2 (Xmp.map X3)),6⟩) ?_ (fun J=>X2.cut ?_)
     ·
      rintro⟨Xrk,Xk6⟩
      rcases Xrk with ⟨_|_,Xsd⟩
      ·
       rcases Xk6 with ⟨_|_,Xfs⟩
       ·
        exact X9 [] (k:=wkT [] (ih (k+1) hx1 _ _ _ nbF nbF o h C0))
       obtain rfl:=Xfs rfl
       exact X9 [] (k:=wkT [] (ih (k+1) hx1 _ _ _ nbF nbS o h C0))
      obtain rfl:=Xsd rfl
      rcases Xk6 with ⟨_|_,Xfs⟩
      ·
       exact X9 [] (k:=wkT [] (ih (k+1) hx1 _ _ _ nbS nbF o h C0))
      obtain rfl:=Xfs rfl
      exact X9 [] (k:=wkT [] (ih (k+1) hx1 _ _ _ nbS nbS o h C0))
     clear h;revert h11430
     refine brI (fun h11424=>?_) fun h11424=>?_
     ·
      intro h
      simp only[Option.some.injEq,Prod.mk.injEq] at h
      obtain⟨rfl,rfl,rfl⟩:=h
      exact X9 [Bt,.see [(40,[2]),(42,[2]),(43,[])],.el (X3 x),.ld (X3 x),.el (X3 x),.ld (X3 x)] (k:=wkT [] (X2.glue (J (nbF,nbF))))
     refine brI (fun h11425=>?_) fun h11425=>?_
     ·
      refine bI fun u11426 h11427=>?_
      intro h
      simp only[Option.some.injEq,Prod.mk.injEq] at h
      obtain⟨rfl,rfl,rfl⟩:=h
      exact X9 [Bf,.el (X3 x),.ld (X3 x),Bt,.el (X3 x),.ld (X3 x),.no] (o:=by repeat' first|apply Ya|exact pcM|(refine X0a h11427 rfl ?_;first|(simp;done)|(simp;omega)|(simp[hc,h11424,h11425];done)|(simp[hc,h11424,h11425];omega))|(refine Xs h11427 (by decide) ?_;first|(simp;done)|(simp;omega)|(simp[hc,h11424,h11425];done)|(simp[hc,h11424,h11425];omega))|exact X0k) (k:=wkT [(4,23)] (X2.glue (J (nbF,nbF))))
     refine bI fun u11428 h11429=>?_
     intro h
     simp only[Option.some.injEq,Prod.mk.injEq] at h
     obtain⟨rfl,rfl,rfl⟩:=h
     exact X9 [Bf,.el (X3 x),.ld (X3 x),Bf,.el (X3 x),.ld (X3 x),.no] (o:=by repeat' first|apply Ya|exact pcM|(refine X0a h11429 rfl ?_;first|(simp;done)|(simp;omega)|(simp[hc,h11424,h11425];done)|(simp[hc,h11424,h11425];omega))|(refine Xs h11429 (by decide) ?_;first|(simp;done)|(simp;omega)|(simp[hc,h11424,h11425];done)|(simp[hc,h11424,h11425];omega))|exact X0k) (k:=wkT [(5,23)] (X2.glue (J (nbF,nbF))))
    obtain rfl:=X5m rfl
    refine X2.round ?_
    revert h
    refine bI fun v11431 h11432=>bI fun w11439 h11446=>?_
    intro h
    obtain⟨X024,Xmo,Xmn⟩:=w11439
    try dsimp only at h
    refine X10 [.el (aI .i64 (X1t.length:Int)),Bt,.el (X3 x),.ld (X3 x),.pure _ (aB v11431)] ?_
    refine X2.joinF (fun(q:Nb Xmo×Nb Xmn)=>⟨fr [(0,(AV.ref 2 0 (X1t.length))),(3,(AV.ptr 3 0 0)),(5,(slE q.1.1 4 (Xmo.map X3))),(6,(slE q.2.1 5 (Xmn.map X3))),(7,(aI .i64 (k:Int)))],hp ([(0,Ob [(X0u Xf)] 3),(2,Ob (X1t.map X3) 2),(3,Ob [(X3 X024)] 2)]++opE q.1.1 4 2 (Xmo.map X3)++opE q.2.1 5 2 (Xmn.map X3)),6⟩) ?_ (fun J=>X2.cut ?_)
    ·
     rintro⟨Xrj,Xk5⟩
     rcases Xrj with ⟨_|_,Xsc⟩
     ·
      rcases Xk5 with ⟨_|_,Xfr⟩
      ·
       exact X9 [] (k:=wkT [] (ih (k+1) hx1 _ _ _ nbF nbF o h C0))
      obtain rfl:=Xfr rfl
      exact X9 [] (k:=wkT [] (ih (k+1) hx1 _ _ _ nbF nbS o h C0))
     obtain rfl:=Xsc rfl
     rcases Xk5 with ⟨_|_,Xfr⟩
     ·
      exact X9 [] (k:=wkT [] (ih (k+1) hx1 _ _ _ nbS nbF o h C0))
     obtain rfl:=Xfr rfl
     exact X9 [] (k:=wkT [] (ih (k+1) hx1 _ _ _ nbS nbS o h C0))
    clear h;revert h11446
    refine brI (fun h11440=>?_) fun h11440=>?_
    ·
     intro h
     simp only[Option.some.injEq,Prod.mk.injEq] at h
     obtain⟨rfl,rfl,rfl⟩:=h
     exact X9 [Bt,.see [(40,[2]),(42,[2]),(43,[])],.el (X3 x),.ld (X3 x),.el (X3 x),.ld (X3 x)] (k:=wkT [] (X2.glue (J (nbF,nbS))))
    refine brI (fun h11441=>?_) fun h11441=>?_
    ·
     refine bI fun u11442 h11443=>?_
     intro h
     simp only[Option.some.injEq,Prod.mk.injEq] at h
     obtain⟨rfl,rfl,rfl⟩:=h
     exact X9 [Bf,.el (X3 x),.ld (X3 x),Bt,.el (X3 x),.ld (X3 x),.no] (o:=by repeat' first|apply Ya|exact pcM|(refine X0a h11443 rfl ?_;first|(simp;done)|(simp;omega)|(simp[hc,h11440,h11441];done)|(simp[hc,h11440,h11441];omega))|(refine Xs h11443 (by decide) ?_;first|(simp;done)|(simp;omega)|(simp[hc,h11440,h11441];done)|(simp[hc,h11440,h11441];omega))|exact X0k) (k:=wkT [(4,23)] (X2.glue (J (nbF,nbS))))
    refine bI fun u11444 h11445=>?_
    intro h
    simp only[Option.some.injEq,Prod.mk.injEq] at h
    obtain⟨rfl,rfl,rfl⟩:=h
    exact X9 [Bf,.el (X3 x),.ld (X3 x),Bf,.el (X3 x),.ld (X3 x),.no] (o:=by repeat' first|apply Ya|exact pcM|(refine X0a h11445 rfl ?_;first|(simp;done)|(simp;omega)|(simp[hc,h11440,h11441];done)|(simp[hc,h11440,h11441];omega))|(refine Xs h11445 (by decide) ?_;first|(simp;done)|(simp;omega)|(simp[hc,h11440,h11441];done)|(simp[hc,h11440,h11441];omega))|exact X0k) (k:=wkT [(5,23)] (X2.glue (J (nbF,nbF))))
   obtain rfl:=X8n rfl
   rcases X7d with ⟨_|_,X5m⟩
   ·
    refine X2.round ?_
    revert h
    refine bI fun v11447 h11448=>bI fun w11455 h11462=>?_
    intro h
    obtain⟨X023,Xmm,Xml⟩:=w11455
    try dsimp only at h
    refine X10 [.el (aI .i64 (X1t.length:Int)),Bt,.el (X3 x),.ld (X3 x),.pure _ (aB v11447)] ?_
    refine X2.joinF (fun(q:Nb Xmm×Nb Xml)=>⟨fr [(0,(AV.ref 2 0 (X1t.length))),(3,(AV.ptr 3 0 0)),(5,(slE q.1.1 4 (Xmm.map X3))),(6,(slE q.2.1 5 (Xml.map X3))),(7,(aI .i64 (k:Int)))],hp ([(0,Ob [(X0u Xf)] 3),(2,Ob (X1t.map X3) 2),(3,Ob [(X3 X023)] 2)]++opE q.1.1 4 2 (Xmm.map X3)++opE q.2.1 5 2 (Xml.map X3)),6⟩) ?_ (fun J=>X2.cut ?_)
    ·
     rintro⟨Xri,Xk4⟩
     rcases Xri with ⟨_|_,Xsb⟩
     ·
      rcases Xk4 with ⟨_|_,Xfq⟩
      ·
       exact X9 [] (k:=wkT [] (ih (k+1) hx1 _ _ _ nbF nbF o h C0))
      obtain rfl:=Xfq rfl
      exact X9 [] (k:=wkT [] (ih (k+1) hx1 _ _ _ nbF nbS o h C0))
     obtain rfl:=Xsb rfl
     rcases Xk4 with ⟨_|_,Xfq⟩
     ·
      exact X9 [] (k:=wkT [] (ih (k+1) hx1 _ _ _ nbS nbF o h C0))
     obtain rfl:=Xfq rfl
     exact X9 [] (k:=wkT [] (ih (k+1) hx1 _ _ _ nbS nbS o h C0))
    clear h;revert h11462
    refine brI (fun h11456=>?_) fun h11456=>?_
    ·
     intro h
     simp only[Option.some.injEq,Prod.mk.injEq] at h
     obtain⟨rfl,rfl,rfl⟩:=h
     exact X9 [Bt,.see [(40,[2]),(42,[2]),(43,[])],.el (X3 x),.ld (X3 x),.el (X3 x),.ld (X3 x)] (k:=wkT [] (X2.glue (J (nbS,nbF))))
    refine brI (fun h11457=>?_) fun h11457=>?_
    ·
     refine bI fun u11458 h11459=>?_
     intro h
     simp only[Option.some.injEq,Prod.mk.injEq] at h
     obtain⟨rfl,rfl,rfl⟩:=h
     exact X9 [Bf,.el (X3 x),.ld (X3 x),Bt,.el (X3 x),.ld (X3 x),.no] (o:=by repeat' first|apply Ya|exact pcM|(refine X0a h11459 rfl ?_;first|(simp;done)|(simp;omega)|(simp[hc,h11456,h11457];done)|(simp[hc,h11456,h11457];omega))|(refine Xs h11459 (by decide) ?_;first|(simp;done)|(simp;omega)|(simp[hc,h11456,h11457];done)|(simp[hc,h11456,h11457];omega))|exact X0k) (k:=wkT [(4,23)] (X2.glue (J (nbF,nbF))))
    refine bI fun u11460 h11461=>?_
    intro h
    simp only[Option.some.injEq,Prod.mk.injEq] at h
    obtain⟨rfl,rfl,rfl⟩:=h
    exact X9 [Bf,.el (X3 x),.ld (X3 x),Bf,.el (X3 x),.ld (X3 x),.no] (o:=by repeat' first|apply Ya|exact pcM|(refine X0a h11461 rfl ?_;first|(simp;done)|(simp;omega)|(simp[hc,h11456,h11457];done)|(simp[hc,h11456,h11457];omega))|(refine Xs h11461 (by decide) ?_;first|(simp;done)|(simp;omega)|(simp[hc,h11456,h11457];done)|(simp[hc,h11456,h11457];omega))|exact X0k) (k:=wkT [(5,23)] (X2.glue (J (nbS,nbF))))
   obtain rfl:=X5m rfl
   refine X2.round ?_
   revert h
   refine bI fun v11463 h11464=>bI fun w11471 h11478=>?_
   intro h
   obtain⟨X022,Xmk,Xmj⟩:=w11471
   try dsimp only at h
   refine X10 [.el (aI .i64 (X1t.length:Int)),Bt,.el (X3 x),.ld (X3 x),.pure _ (aB v11463)] ?_
   refine X2.joinF (fun(q:Nb Xmk×Nb Xmj)=>⟨fr [(0,(AV.ref 2 0 (X1t.length))),(3,(AV.ptr 3 0 0)),(5,(slE q.1.1 4 (Xmk.map X3))),(6,(slE q.2.1 5 (Xmj.map X3))),(7,(aI .i64 (k:Int)))],hp ([(0,Ob [(X0u Xf)] 3),(2,Ob (X1t.map X3) 2),(3,Ob [(X3 X022)] 2)]++opE q.1.1 4 2 (Xmk.map X3)++opE q.2.1 5 2 (Xmj.map X3)),6⟩) ?_ (fun J=>X2.cut ?_)
   ·
    rintro⟨Xrh,Xk3⟩
    rcases Xrh with ⟨_|_,Xsa⟩
    ·
     rcases Xk3 with ⟨_|_,Xfp⟩
     ·
      exact X9 [] (k:=wkT [] (ih (k+1) hx1 _ _ _ nbF nbF o h C0))
     obtain rfl:=Xfp rfl
     exact X9 [] (k:=wkT [] (ih (k+1) hx1 _ _ _ nbF nbS o h C0))
    obtain rfl:=Xsa rfl
    rcases Xk3 with ⟨_|_,Xfp⟩
    ·
     exact X9 [] (k:=wkT [] (ih (k+1) hx1 _ _ _ nbS nbF o h C0))
    obtain rfl:=Xfp rfl
    exact X9 [] (k:=wkT [] (ih (k+1) hx1 _ _ _ nbS nbS o h C0))
   clear h;revert h11478
   refine brI (fun h11472=>?_) fun h11472=>?_
   ·
    intro h
    simp only[Option.some.injEq,Prod.mk.injEq] at h
    obtain⟨rfl,rfl,rfl⟩:=h
    exact X9 [Bt,.see [(40,[2]),(42,[2]),(43,[])],.el (X3 x),.ld (X3 x),.el (X3 x),.ld (X3 x)] (k:=wkT [] (X2.glue (J (nbS,nbS))))
   refine brI (fun h11473=>?_) fun h11473=>?_
   ·
    refine bI fun u11474 h11475=>?_
    intro h
    simp only[Option.some.injEq,Prod.mk.injEq] at h
    obtain⟨rfl,rfl,rfl⟩:=h
    exact X9 [Bf,.el (X3 x),.ld (X3 x),Bt,.el (X3 x),.ld (X3 x),.no] (o:=by repeat' first|apply Ya|exact pcM|(refine X0a h11475 rfl ?_;first|(simp;done)|(simp;omega)|(simp[hc,h11472,h11473];done)|(simp[hc,h11472,h11473];omega))|(refine Xs h11475 (by decide) ?_;first|(simp;done)|(simp;omega)|(simp[hc,h11472,h11473];done)|(simp[hc,h11472,h11473];omega))|exact X0k) (k:=wkT [(4,23)] (X2.glue (J (nbF,nbS))))
   refine bI fun u11476 h11477=>?_
   intro h
   simp only[Option.some.injEq,Prod.mk.injEq] at h
   obtain⟨rfl,rfl,rfl⟩:=h
   exact X9 [Bf,.el (X3 x),.ld (X3 x),Bf,.el (X3 x),.ld (X3 x),.no] (o:=by repeat' first|apply Ya|exact pcM|(refine X0a h11477 rfl ?_;first|(simp;done)|(simp;omega)|(simp[hc,h11472,h11473];done)|(simp[hc,h11472,h11473];omega))|(refine Xs h11477 (by decide) ?_;first|(simp;done)|(simp;omega)|(simp[hc,h11472,h11473];done)|(simp[hc,h11472,h11473];omega))|exact X0k) (k:=wkT [(5,23)] (X2.glue (J (nbS,nbF))))
  obtain rfl:=Xed rfl
  rcases X6r with ⟨_|_,X8n⟩
  ·
   rcases X7d with ⟨_|_,X5m⟩
   ·
    refine X2.round ?_
    exact absurd hk (by simp)
   obtain rfl:=X5m rfl
   refine X2.round ?_
   exact absurd hk (by simp)
  obtain rfl:=X8n rfl
  rcases X7d with ⟨_|_,X5m⟩
  ·
   refine X2.round ?_
   exact absurd hk (by simp)
  obtain rfl:=X5m rfl
  refine X2.round ?_
  exact absurd hk (by simp)
end Go.Av.Tryz