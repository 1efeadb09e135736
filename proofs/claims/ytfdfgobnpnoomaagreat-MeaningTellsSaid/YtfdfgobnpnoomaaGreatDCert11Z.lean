/- Printed by decomp.py: that the program computes the functions. -/
import Derived.Test.YtfdfgobnpnoomaaGreatDCert10Z
set_option linter.all false

namespace Go.Av.Tryz
open Go.Proofs Go.D
set_option maxRecDepth 10000
set_option maxHeartbeats 40000000
theorem Xdu {Q:X01->St->Mu->Prop} {μ:Mu} (Xtn:(List (List Xk))) (X33:Xw) (Xr9:Int) (Xe3:(List Xc)) (hl:Xe3.length<=140737488355328):∀ (xs:List Xc) (k:Nat) (hx:Xe3.drop k=xs) (X3b:(List Xy)) (X3u:Nb X3b) (o:Xae) (h:X2s Xtn X33 Xr9 Xe3 xs k X3b=some o)
  (C0:∀ (X1r:(List Xy)) (X13:Nb X1r),o=Xae.x0 X1r->X2 Tryz.prog 78 0 Q (.exit (.exit 2)) [] ⟨fr [(1,(Lf (List.map (X6j false Xa) Xtn))),(2,(AV.ptr 0 0 0)),(5,(slE X13.1 1 (X1r.map Xe))),(6,(aI .i64 Xr9))],hp ([(0,Ob [(Xn false X33)] 10)]++opE X13.1 1 4 (X1r.map Xe)),2⟩ μ),
  X2 Tryz.prog 78 0 Q (.loop (X30 1 (Xj Tryz.f86))) [] ⟨fr [(1,(Lf (List.map (X6j false Xa) Xtn))),(2,(AV.ptr 0 0 0)),(5,(slE X3u.1 1 (X3b.map Xe))),(6,(aI .i64 Xr9)),(7,(AV.list true (Xe3.map X0))),(8,(aI .i64 (k:Int)))],hp ([(0,Ob [(Xn false X33)] 10)]++opE X3u.1 1 4 (X3b.map Xe)),2⟩ μ:=by
 intro xs
 induction xs with
 |nil =>
  intro k hx X3b X3u o h C0
  have hk:=drop_nil hx
  have hc:decide ((k:Int)<(Xe3.length:Int))=false:=Yf (by omega)
  rw[X2s] at h
  rcases X3u with ⟨_|_,X7w⟩
  ·
   refine X2.round ?_
   revert h
   exact fun e=>X7 [.el (aI .i64 (Xe3.length:Int)),Bf] (k:=wkT [] (C0 _  nbF (oj e).symm))
  ·
   obtain rfl:=X7w rfl
   refine X2.round ?_
   revert h
   exact fun e=>X7 [.el (aI .i64 (Xe3.length:Int)),Bf] (k:=wkT [] (C0 _  nbS (oj e).symm))
 |cons x xs ih =>
  intro k hx X3b X3u o h C0
  obtain⟨hk,hg,hx1⟩:=drop_cons hx
  have hc:decide ((k:Int)<(Xe3.length:Int))=true:=Yt (by omega)
  rw[X2s] at h
  rcases X3u with ⟨_|_,X7w⟩
  ·
   refine X2.round ?_
   revert h
   refine bI fun Xsd h692=>rnI [.el (aI .i64 (Xe3.length:Int)),Bt,.stop 9] ?_
   intro h
   refine X2.join (s':=⟨fr [(1,(Lf (List.map (X6j false Xa) Xtn))),(2,(AV.ptr 0 0 0)),(5,(AV.ref 1 0 (X3b.length))),(6,(aI .i64 Xr9)),(7,(AV.list true (Xe3.map X0))),(8,(aI .i64 (k:Int))),(40,(aB Xsd))],hp ([(0,Ob [(Xn false X33)] 10),(1,Ob (X3b.map Xe) 4)]),2⟩) ?_ (fun J=>X2.cut ?_)
   ·
    revert h
    refine brI (fun h693=>?_) fun h693=>?_
    ·
     refine rnI [Bt] ?_
     intro h
     exact wkT [] (ih (k+1) hx1 _ nbF o h C0)
    refine bI fun Xaz h697=>rnI [Bf,.el (X0 x)] ?_
    intro h
    refine X2.join (s':=⟨fr [(1,(Lf (List.map (X6j false Xa) Xtn))),(2,(AV.ptr 0 0 0)),(5,(AV.ref 1 0 (X3b.length))),(6,(aI .i64 Xr9)),(7,(AV.list true (Xe3.map X0))),(8,(aI .i64 (k:Int))),(9,(AV.ptr 2 0 0))],hp ([(0,Ob [(Xn false X33)] 10),(1,Ob (X3b.map Xe) 4),(2,Ob [(Xe Xaz)] 4)]),3⟩) ?_ (fun J=>X2.cut ?_)
    ·
     revert h
     refine bI fun Xg9 h705=>rnI [] ?_
     intro h
     refine X2.join (s':=⟨fr [(1,(Lf (List.map (X6j false Xa) Xtn))),(2,(AV.ptr 0 0 0)),(5,(AV.ref 1 0 (X3b.length))),(6,(aI .i64 Xr9)),(7,(AV.list true (Xe3.map X0))),(8,(aI .i64 (k:Int))),(9,(AV.ptr 2 0 0))],hp ([(0,Ob [(Xn false X33)] 10),(1,Ob (X3b.map Xe) 4),(2,Ob [(Xe Xg9)] 4)]),3⟩) ?_ (fun J=>X2.cut ?_)
     ·
      revert h
      refine bI fun Xnw h709=>rnI [] ?_
      intro h
      refine X2.join (s':=⟨fr [(1,(Lf (List.map (X6j false Xa) Xtn))),(2,(AV.ptr 0 0 0)),(5,(AV.ref 1 0 (X3b.length))),(6,(aI .i64 Xr9)),(7,(AV.list true (Xe3.map X0))),(8,(aI .i64 (k:Int))),(9,(AV.ptr 2 0 0))],hp ([(0,Ob [(Xn false X33)] 10),(1,Ob (X3b.map Xe) 4),(2,Ob [(Xe Xnw)] 4)]),3⟩) ?_ (fun J=>X2.cut ?_)
      ·
       revert h
       refine bI fun u710 h711=>rnI [.no] (o:=by repeat' first|apply Ya|exact pcM|(refine X0g h711 rfl ?_;first|(simp;done)|(simp;omega)|(simp[hc,h693];done)|(simp[hc,h693];omega))|(refine Xz h711 (by decide) ?_;first|(simp;done)|(simp;omega)|(simp[hc,h693];done)|(simp[hc,h693];omega))|exact X0k) ?_
       intro h
       exact wkT [(1,4)] (ih (k+1) hx1 _ nbF o h C0)
      clear h;revert h709
      refine brI (fun h708=>?_) fun h708=>?_
      ·
       intro h
       obtain rfl:=oj h
       exact X7 [Bt] (k:=wkT [] (X2.glue J))
      intro h
      obtain rfl:=oj h
      exact X7 [Bf] (k:=wkT [] (X2.glue J))
     clear h;revert h705
     refine brI (fun h702=>?_) fun h702=>?_
     ·
      refine bI fun v703 h704=>?_
      intro h
      obtain rfl:=oj h
      exact X7 [Bt,.el (X0 x),.pure _ (aI .i64 v703)] (k:=wkT [] (X2.glue J))
     intro h
     obtain rfl:=oj h
     exact X7 [Bf] (k:=wkT [] (X2.glue J))
    clear h;revert h697
    refine brI (fun h696=>?_) fun h696=>?_
    ·
     intro h
     obtain rfl:=oj h
     exact X7 [Bt,.el (X0 x)] (k:=wkT [] (X2.glue J))
    intro h
    obtain rfl:=oj h
    exact X7 [Bf] (k:=wkT [] (X2.glue J))
   clear h;revert h692
   refine brI (fun h689=>?_) fun h689=>?_
   ·
    refine bI fun v690 h691=>?_
    intro h
    obtain rfl:=oj h
    exact X7 [.el (aI .i64 (X33.Where.length:Int)),.go true,.go true,.go true,.go true,.go true,.el (X0 x),.go true,.go true,.pure _ (aI .i64 v690),.go true] (k:=wkT [] (X2.glue J))
   intro h
   obtain rfl:=oj h
   exact X7 [.el (aI .i64 (X33.Where.length:Int)),.go false,.go false,.go false,.go false,.go false,.go false,.go false,.go false,.go false] (k:=wkT [] (X2.glue J))
  obtain rfl:=X7w rfl
  refine X2.round ?_
  revert h
  refine bI fun X06o h719=>rnI [.el (aI .i64 (Xe3.length:Int)),Bt,.stop 9] ?_
  intro h
  refine X2.join (s':=⟨fr [(1,(Lf (List.map (X6j false Xa) Xtn))),(2,(AV.ptr 0 0 0)),(5,AV.nils),(6,(aI .i64 Xr9)),(7,(AV.list true (Xe3.map X0))),(8,(aI .i64 (k:Int))),(40,(aB X06o))],hp ([(0,Ob [(Xn false X33)] 10)]),2⟩) ?_ (fun J=>X2.cut ?_)
  ·
   revert h
   refine brI (fun h720=>?_) fun h720=>?_
   ·
    refine rnI [Bt] ?_
    intro h
    exact wkT [] (ih (k+1) hx1 _ nbS o h C0)
   refine bI fun X06n h724=>rnI [Bf,.el (X0 x)] ?_
   intro h
   refine X2.join (s':=⟨fr [(1,(Lf (List.map (X6j false Xa) Xtn))),(2,(AV.ptr 0 0 0)),(5,AV.nils),(6,(aI .i64 Xr9)),(7,(AV.list true (Xe3.map X0))),(8,(aI .i64 (k:Int))),(9,(AV.ptr 2 0 0))],hp ([(0,Ob [(Xn false X33)] 10),(2,Ob [(Xe X06n)] 4)]),3⟩) ?_ (fun J=>X2.cut ?_)
   ·
    revert h
    refine bI fun X06m h732=>rnI [] ?_
    intro h
    refine X2.join (s':=⟨fr [(1,(Lf (List.map (X6j false Xa) Xtn))),(2,(AV.ptr 0 0 0)),(5,AV.nils),(6,(aI .i64 Xr9)),(7,(AV.list true (Xe3.map X0))),(8,(aI .i64 (k:Int))),(9,(AV.ptr 2 0 0))],hp ([(0,Ob [(Xn false X33)] 10),(2,Ob [(Xe X06m)] 4)]),3⟩) ?_ (fun J=>X2.cut ?_)
    ·
     revert h
     refine bI fun X06l h736=>rnI [] ?_
     intro h
     refine X2.join (s':=⟨fr [(1,(Lf (List.map (X6j false Xa) Xtn))),(2,(AV.ptr 0 0 0)),(5,AV.nils),(6,(aI .i64 Xr9)),(7,(AV.list true (Xe3.map X0))),(8,(aI .i64 (k:Int))),(9,(AV.ptr 2 0 0))],hp ([(0,Ob [(Xn false X33)] 10),(2,Ob [(Xe X06l)] 4)]),3⟩) ?_ (fun J=>X2.cut ?_)
     ·
      revert h
      refine bI fun u737 h738=>rnI [.no] (o:=by repeat' first|apply Ya|exact pcM|(refine X0g h738 rfl ?_;first|(simp;done)|(simp;omega)|(simp[hc,h720];done)|(simp[hc,h720];omega))|(refine Xz h738 (by decide) ?_;first|(simp;done)|(simp;omega)|(simp[hc,h720];done)|(simp[hc,h720];omega))|exact X0k) ?_
      intro h
      exact wkT [(1,4)] (ih (k+1) hx1 _ nbF o h C0)
     clear h;revert h736
     refine brI (fun h735=>?_) fun h735=>?_
     ·
      intro h
      obtain rfl:=oj h
      exact X7 [Bt] (k:=wkT [] (X2.glue J))
     intro h
     obtain rfl:=oj h
     exact X7 [Bf] (k:=wkT [] (X2.glue J))
    clear h;revert h732
    refine brI (fun h729=>?_) fun h729=>?_
    ·
     refine bI fun v730 h731=>?_
     intro h
     obtain rfl:=oj h
     exact X7 [Bt,.el (X0 x),.pure _ (aI .i64 v730)] (k:=wkT [] (X2.glue J))
    intro h
    obtain rfl:=oj h
    exact X7 [Bf] (k:=wkT [] (X2.glue J))
   clear h;revert h724
   refine brI (fun h723=>?_) fun h723=>?_
   ·
    intro h
    obtain rfl:=oj h
    exact X7 [Bt,.el (X0 x)] (k:=wkT [] (X2.glue J))
   intro h
   obtain rfl:=oj h
   exact X7 [Bf] (k:=wkT [] (X2.glue J))
  clear h;revert h719
  refine brI (fun h716=>?_) fun h716=>?_
  ·
   refine bI fun v717 h718=>?_
   intro h
   obtain rfl:=oj h
   exact X7 [.el (aI .i64 (X33.Where.length:Int)),.go true,.go true,.go true,.go true,.go true,.el (X0 x),.go true,.go true,.pure _ (aI .i64 v717),.go true] (k:=wkT [] (X2.glue J))
  intro h
  obtain rfl:=oj h
  exact X7 [.el (aI .i64 (X33.Where.length:Int)),.go false,.go false,.go false,.go false,.go false,.go false,.go false,.go false,.go false] (k:=wkT [] (X2.glue J))
theorem Xj7 {Q:X01->St->Mu->Prop} {μ:Mu} (X27:(List (List Xk))) (Xf:Xw) (hl:X27.length<=140737488355328):∀ (xs:List (List Xk)) (k:Nat) (hx:X27.drop k=xs) (Xi:(List Xy)) (Xm:Nb Xi) (o:Xaf) (h:X44 X27 Xf xs k Xi=some o)
  (C0:∀ (Xg:(List Xy)) (Xl:Nb Xg),o=Xaf.x0 Xg->X2 Tryz.prog 78 0 Q (.exit (.exit 0)) [] ⟨fr [(5,(slE Xl.1 0 (Xg.map Xe)))],hp ([]++opE Xl.1 0 4 (Xg.map Xe)),1⟩ μ),
  X2 Tryz.prog 78 0 Q (.loop (X30 0 (Xj Tryz.f86))) [] ⟨fr [(1,(Lf (List.map (X6j false Xa) X27))),(2,(AV.ptr 0 0 0)),(5,(slE Xm.1 1 (Xi.map Xe))),(6,(aI .i64 (k:Int)))],hp ([(0,Ob [(Xn false Xf)] 10)]++opE Xm.1 1 4 (Xi.map Xe)),2⟩ μ:=by
 intro xs
 induction xs with
 |nil =>
  intro k hx Xi Xm o h C0
  have hk:=drop_nil hx
  have hc:decide ((k:Int)<(X27.length:Int))=false:=Yf (by omega)
  rw[X44] at h
  rcases Xm with ⟨_|_,X02⟩
  ·
   refine X2.round ?_
   revert h
   exact fun e=>X7 [.el (aI .i64 (X27.length:Int)),Bf] (k:=wkT [(0,1)] (C0 _  nbF (oj e).symm))
  ·
   obtain rfl:=X02 rfl
   refine X2.round ?_
   revert h
   exact fun e=>X7 [.el (aI .i64 (X27.length:Int)),Bf] (k:=wkT [] (C0 _  nbS (oj e).symm))
 |cons x xs ih =>
  intro k hx Xi Xm o h C0
  obtain⟨hk,hg,hx1⟩:=drop_cons hx
  have hc:decide ((k:Int)<(X27.length:Int))=true:=Yt (by omega)
  rw[X44] at h
  rcases Xm with ⟨_|_,X02⟩
  ·
   refine X2.round ?_
   revert h
   refine bI fun v572 h573=>bI fun u574 h575=>?_
   have qh575:=X09 h575
   refine bI fun o739 h740=>rnI [.el (aI .i64 (X27.length:Int)),Bt,.el (X6j false Xa x),.pure _ (AV.list true (v572.map X0))] ?_
   intro h
   refine wkT [] (X2.cut (Xdu X27 Xf (k:Int) v572 qh575 v572 0 (by simp) _ nbF _ h740 ?_))
   intro X1r X13 eo739;subst eo739
   refine X2.glue ?_
   try dsimp only at h
   rcases X13 with ⟨_|_,X2m⟩
   ·
    exact X7 [] (k:=wkT [] (ih (k+1) hx1 _ nbF o h C0))
   obtain rfl:=X2m rfl
   exact X7 [] (k:=wkT [] (ih (k+1) hx1 _ nbS o h C0))
  obtain rfl:=X02 rfl
  refine X2.round ?_
  revert h
  refine bI fun v741 h742=>bI fun u743 h744=>?_
  have qh744:=X09 h744
  refine bI fun o854 h855=>rnI [.el (aI .i64 (X27.length:Int)),Bt,.el (X6j false Xa x),.pure _ (AV.list true (v741.map X0))] ?_
  intro h
  refine wkT [] (X2.cut (Xdu X27 Xf (k:Int) v741 qh744 v741 0 (by simp) _ nbS _ h855 ?_))
  intro X1r X13 eo854;subst eo854
  refine X2.glue ?_
  try dsimp only at h
  rcases X13 with ⟨_|_,X2m⟩
  ·
   exact X7 [] (k:=wkT [] (ih (k+1) hx1 _ nbF o h C0))
  obtain rfl:=X2m rfl
  exact X7 [] (k:=wkT [] (ih (k+1) hx1 _ nbS o h C0))
instance X02g:PCs Tryz.prog 86 (∀ (a0:Xw) (a1:(List (List Xk))) (r:(List Xy)),Xcf a0 a1=some r->X0j Tryz.prog 86 [(Xn false a0),(Lf (List.map (X6j false Xa) a1))] (AV.list true (r.map Xe))):=⟨fun a0 a1 r h=>by
 refine X0j.sym X9 fn86 (nt:=78) rfl rfl ?_ okM
 unfold Xcf at h
 revert h
 refine bI fun u1 h2=>?_
 have qh2:=X09 h2
 refine bI fun o856 h857=>rnI [] ?_
 intro h
 refine wkT [] (X2.cut (Xj7 a1 a0 qh2 a1 0 (by simp) _ nbS _ h857 ?_))
 intro Xg Xl eo856;subst eo856
 refine X2.glue ?_
 try dsimp only at h
 rcases Xl with ⟨_|_,X0q⟩
 ·
  revert h
  exact fun e=>oj e▸X7 [] (k:=fi)
 obtain rfl:=X0q rfl
 revert h
 exact fun e=>oj e▸X7 [] (k:=fi)⟩
instance Xxa:PCs Tryz.prog 148 (∀ (a0:Xr) (a1:Xr) (r:Bool),X7q a0 a1=some r->X0j Tryz.prog 148 [(X3 a0),(X3 a1)] (aB r)):=⟨fun a0 a1 r h=>by
 refine X0j.sym X9 X0b9 (nt:=17) rfl rfl ?_ okM
 unfold X7q at h
 revert h
 exact fun e=>oj e▸X7 [] (k:=fi)⟩
instance Xg0:PCs Tryz.prog 182 (∀ (a0:Int) (a1:Int) (r:Int),Xf8 a0 a1=some r->X0j Tryz.prog 182 [(aI .i64 a0),(aI .i64 a1)] (aI .i64 r)):=⟨fun a0 a1 r h=>by
 refine X0j.sym X9 X0av (nt:=18) rfl rfl ?_ okM
 unfold Xf8 at h
 revert h
 exact bI fun u1 h2=>fun e=>oj e▸X7 [.wrap,.wrap,.wrap,.wrap,.wrap,.wrap] (k:=fi)⟩
instance X063:PCs Tryz.prog 149 (∀ (a0:Int) (a1:Int) (r:Xr×Int),Xgr a0 a1=some r->X0j Tryz.prog 149 [(aI .i64 a0),(aI .i64 a1)] (AV.tup [(X3 r.1),(aI .i64 r.2)])):=⟨fun a0 a1 r h=>by
 refine X0j.sym X9 X0b8 (nt:=25) rfl rfl ?_ okM
 unfold Xgr at h
 revert h
 exact bI fun v1 h2=>brI (fun h3=>fun e=>oj e▸X7 [.pure _ (aI .i64 v1),Bt,.pure _ (aI .i64 v1)] (k:=fi)) fun h3=>bI fun v4 h5=>fun e=>oj e▸X7 [.pure _ (aI .i64 v1),Bf,.pure _ (aI .i64 v4),.wrap,.wrap] (k:=fi)⟩
theorem Xfz {Q:X01->St->Mu->Prop} {μ:Mu} (X07:Int) (X27:Int) (Xbp:Int) (Xra:Int):∀ (n:Nat) (Xf:(List Xr)) (Xhi:Int) (X08:Nb Xf) (o:X7r) (h:X37 X07 X27 Xbp Xra n Xf Xhi=some o)
  (C0:∀ (Xg:(List Xr)) (Xl:Nb Xg),o=X7r.x0 Xg->X2 Tryz.prog 48 0 Q (.exit (.exit 0)) [] ⟨fr [(8,(slE Xl.1 0 (Xg.map X3)))],hp ([]++opE Xl.1 0 2 (Xg.map X3)),1⟩ μ),
  X2 Tryz.prog 48 0 Q (.loop (X30 0 (Xj Tryz.f150))) [] ⟨fr [(0,(aI .i64 X07)),(1,(aI .i64 X27)),(2,(aI .i64 Xbp)),(7,(aI .i64 Xra)),(8,(slE X08.1 0 (Xf.map X3))),(9,(aI .i64 Xhi))],hp ([]++opE X08.1 0 2 (Xf.map X3)),1⟩ μ:=by
 intro n
 induction n with
 |zero=>intro Xf Xhi X08 o h C0;cases h
 |succ n ih =>
  intro Xf Xhi X08 o h C0
  rw[X37] at h
  rcases X08 with ⟨_|_,X1o⟩
  ·
   refine X2.round ?_
   revert h
   refine brI (fun h40=>?_) fun h40=>fun e=>X7 [.wrap,Bf] (k:=wkT [] (C0 _  nbF (oj e).symm))
   refine bI fun Xq3 h48=>rnI [.wrap,Bt,.wrap,.wrap,.wrap] ?_
   intro h
   refine X2.joinF (fun(q:Nb Xq3)=>⟨fr [(0,(aI .i64 X07)),(1,(aI .i64 X27)),(2,(aI .i64 Xbp)),(7,(aI .i64 Xra)),(8,(slE q.1 0 (Xq3.map X3))),(9,(aI .i64 Xhi))],hp ([]++opE q.1 0 2 (Xq3.map X3)),1⟩) ?_ (fun J=>X2.cut ?_)
   ·
    rintro Xyr
    rcases Xyr with ⟨_|_,Xzz⟩
    ·
     exact X7 [.wrap] (k:=wkT [] (ih  _ _ nbF o h C0))
    obtain rfl:=Xzz rfl
    exact X7 [.wrap] (k:=wkT [] (ih  _ _ nbS o h C0))
   clear h;revert h48
   refine brI (fun h45=>?_) fun h45=>?_
   ·
    refine bI fun u46 h47=>?_
    intro h
    obtain rfl:=oj h
    exact X7 [Bt,.wrap,.wrap,.wrap,.no] (o:=by repeat' first|apply Ya|exact pcM|(refine X0g h47 rfl ?_;first|(simp;done)|(simp;omega)|(simp[h40,h45];done)|(simp[h40,h45];omega))|(refine Xz h47 (by decide) ?_;first|(simp;done)|(simp;omega)|(simp[h40,h45];done)|(simp[h40,h45];omega))|exact X0k) (k:=wkT [(0,2)] (X2.glue (J nbF)))
   intro h
   obtain rfl:=oj h
   exact X7 [Bf] (k:=wkT [] (X2.glue (J nbF)))
  obtain rfl:=X1o rfl
  refine X2.round ?_
  revert h
  refine brI (fun h49=>?_) fun h49=>fun e=>X7 [.wrap,Bf] (k:=wkT [] (C0 _  nbS (oj e).symm))
  refine bI fun Xkv h57=>rnI [.wrap,Bt,.wrap,.wrap,.wrap] ?_
  intro h
  refine X2.joinF (fun(q:Nb Xkv)=>⟨fr [(0,(aI .i64 X07)),(1,(aI .i64 X27)),(2,(aI .i64 Xbp)),(7,(aI .i64 Xra)),(8,(slE q.1 0 (Xkv.map X3))),(9,(aI .i64 Xhi))],hp ([]++opE q.1 0 2 (Xkv.map X3)),1⟩) ?_ (fun J=>X2.cut ?_)
  ·
   rintro Xki
   rcases Xki with ⟨_|_,Xld⟩
   ·
    exact X7 [.wrap] (k:=wkT [] (ih  _ _ nbF o h C0))
   obtain rfl:=Xld rfl
   exact X7 [.wrap] (k:=wkT [] (ih  _ _ nbS o h C0))
  clear h;revert h57
  refine brI (fun h54=>?_) fun h54=>?_
  ·
   refine bI fun u55 h56=>?_
   intro h
   obtain rfl:=oj h
   exact X7 [Bt,.wrap,.wrap,.wrap,.no] (o:=by repeat' first|apply Ya|exact pcM|(refine X0g h56 rfl ?_;first|(simp;done)|(simp;omega)|(simp[h49,h54];done)|(simp[h49,h54];omega))|(refine Xz h56 (by decide) ?_;first|(simp;done)|(simp;omega)|(simp[h49,h54];done)|(simp[h49,h54];omega))|exact X0k) (k:=wkT [(0,2)] (X2.glue (J nbF)))
  intro h
  obtain rfl:=oj h
  exact X7 [Bf] (k:=wkT [] (X2.glue (J nbS)))
instance Xxb:PCs Tryz.prog 150 (∀ (a0:Int) (a1:Int) (a2:Int) (r:(List Xr)),X7s a0 a1 a2=some r->X0j Tryz.prog 150 [(aI .i64 a0),(aI .i64 a1),(aI .i64 a2)] (AV.list true (r.map X3))):=⟨fun a0 a1 a2 r h=>by
 refine X0j.sym X9 X0b7 (nt:=48) rfl rfl ?_ okM
 unfold X7s at h
 revert h
 refine bI fun v1 h2=>bI fun o58 h59=>rnI [.pure _ (aI .i64 v1),.wrap] ?_
 intro h
 refine wkT [] (X2.cut (Xfz a0 a1 a2 v1 _ _ _ nbS _ h59 ?_))
 intro Xg Xl eo58;subst eo58
 refine X2.glue ?_
 try dsimp only at h
 rcases Xl with ⟨_|_,X0q⟩
 ·
  revert h
  exact fun e=>oj e▸X7 [] (k:=fi)
 obtain rfl:=X0q rfl
 revert h
 exact fun e=>oj e▸X7 [] (k:=fi)⟩
instance X01b:PCs Tryz.prog 124 (∀ (a0:X0h) (a1:Int) (r:(List Xr)),X71 a0 a1=some r->X0j Tryz.prog 124 [(X0s a0),(aI .i64 a1)] (AV.list true (r.map X3))):=⟨fun a0 a1 r h=>by
 refine X0j.sym X9 X0bp (nt:=25) rfl rfl ?_ okM
 unfold X71 at h
 revert h
 exact brI (fun h1=>bI fun v2 h3=>fun e=>oj e▸X7 [Bt,.pure _ (AV.tup [(X3 v2.1),(aI .i64 v2.2)])] (k:=fi)) fun h1=>bI fun v4 h5=>fun e=>oj e▸X7 [Bf,.pure _ (AV.list true (v4.map X3))] (k:=fi)⟩
end Go.Av.Tryz