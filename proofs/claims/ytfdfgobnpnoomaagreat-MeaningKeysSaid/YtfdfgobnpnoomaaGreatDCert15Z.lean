/- Printed by decomp.py: that the program computes the functions. -/
import Derived.Test.YtfdfgobnpnoomaaGreatDCert14Z
set_option linter.all false

namespace Go.Av.Tryz
open Go.Proofs Go.D
set_option maxRecDepth 10000
set_option maxHeartbeats 40000000
instance Xdw:PCs Tryz.prog 10 (∀ (a0:X03) (a1:(List (List Xb))) (a2:Int) (r:Bool),X4o a0 a1 a2=some r->X11 Tryz.prog 10 [(Xl false a0),(Lf (List.map (X0e false X0) a1)),(aI .i64 a2)] (aB r)):=⟨fun a0 a1 a2 r h=>by
 refine X11.sym Xh fn10 (nt:=141) rfl rfl ?_ okM
 unfold X4o at h
 revert h
 refine bI fun v1 h2=>bI fun v3 h4=>brI (fun h5=>fun e=>oj e▸Xc [.pure _ (aB v1),.pure _ (aB v3),Bt] (k:=fi)) fun h5=>bI fun v6 h7=>rnI [.pure _ (aB v1),.pure _ (aB v3),Bf,.pure _ (AV.tup [(AV.list true (v6.1.map Xg)),(AV.list true (v6.2.1.map X7)),(aI .i64 v6.2.2)])] ?_
 refine brI (fun h8=>fun e=>oj e▸Xc [Bt] (k:=fi)) fun h8=>bI fun u9 h10=>?_
 have qh10:=X0u h10
 refine bI fun o90 h91=>rnI [Bf] ?_
 intro h
 refine wkT [] (X3.cut (Xbx a1 a2 a0 v1 v6.1 qh10 v6.1 0 (by simp) _ nbS _ h91 ?_ ?_))
 ·
  intro X0n X0o eo90;subst eo90
  refine X3.glue ?_
  try dsimp only at h
  rcases X0o with ⟨_|_,X2a⟩
  ·
   revert h
   refine brI (fun h92=>fun e=>oj e▸Xc [Bt] (k:=fi)) fun h92=>bI fun u93 h94=>?_
   have qh94:=X0u h94
   refine bI fun o5292 h5293=>rnI [Bf] ?_
   intro h
   refine wkT [] (X3.cut (X7g a1 a2 a0 v1 qh94 a1 0 (by simp) _ _ nbF nbS _ h5293 ?_))
   intro X22 X5e X1i X31 eo5292;subst eo5292
   refine X3.glue ?_
   try dsimp only at h
   rcases X1i with ⟨_|_,X3j⟩
   ·
    rcases X31 with ⟨_|_,X4p⟩
    ·
     revert h
     refine bI fun v5294 h5295=>bI fun Xq0 h5305=>rnI [.pure _ (AV.tup [(AV.list true (v5294.1.map Xg)),(AV.list true (v5294.2.1.map X7)),(aI .i64 v5294.2.2)]),.stop 29] ?_
     intro h
     refine X3.join (s':=⟨fr [(6,(aB Xq0))],hp ([]),0⟩) ?_ (fun J=>X3.cut ?_)
     ·
      revert h
      exact fun e=>oj e▸Xc [] (k:=fi)
     clear h;revert h5305
     refine brI (fun h5301=>?_) fun h5301=>?_
     ·
      refine brI (fun h5302=>?_) fun h5302=>?_
      ·
       refine bI fun v5303 h5304=>?_
       intro h
       obtain rfl:=oj h
       exact Xc [.go true,.go true,.go true,.go true,.go true,.pure _ (aB v5303)] (o:=by repeat' first|apply Ya|exact pcM|exact((X5 h5301 h5302))|exact(Xk (X5 h5301 h5302))|exact(X7r (X5 h5301 h5302))|exact Xw) (k:=wkT [] (X3.glue J))
      intro h
      obtain rfl:=oj h
      exact Xc [.go true,.go true,.go false,.go false,.go false] (o:=by repeat' first|apply Ya|exact pcM|exact((X5 h5301 h5302))|exact(Xk (X5 h5301 h5302))|exact(X3f (X5 h5301 h5302))|exact Xw) (k:=wkT [] (X3.glue J))
     intro h
     obtain rfl:=oj h
     exact Xc [.go false,.go false,.go false,.go false,.go false] (o:=by repeat' first|apply Ya|exact pcM|exact((Xf h5301 rfl))|exact(Xk (Xf h5301 rfl))|exact(X3f (Xf h5301 rfl))|exact Xw) (k:=wkT [] (X3.glue J))
    obtain rfl:=X4p rfl
    revert h
    refine bI fun v5306 h5307=>bI fun X03e h5317=>rnI [.pure _ (AV.tup [(AV.list true (v5306.1.map Xg)),(AV.list true (v5306.2.1.map X7)),(aI .i64 v5306.2.2)]),.stop 29] ?_
    intro h
    refine X3.join (s':=⟨fr [(6,(aB X03e))],hp ([]),0⟩) ?_ (fun J=>X3.cut ?_)
    ·
     revert h
     exact fun e=>oj e▸Xc [] (k:=fi)
    clear h;revert h5317
    refine brI (fun h5313=>?_) fun h5313=>?_
    ·
     refine brI (fun h5314=>?_) fun h5314=>?_
     ·
      refine bI fun v5315 h5316=>?_
      intro h
      obtain rfl:=oj h
      exact Xc [.go true,.go true,.go true,.go true,.go true,.pure _ (aB v5315)] (o:=by repeat' first|apply Ya|exact pcM|exact((X5 h5313 h5314))|exact(Xk (X5 h5313 h5314))|exact(X7r (X5 h5313 h5314))|exact Xw) (k:=wkT [] (X3.glue J))
     intro h
     obtain rfl:=oj h
     exact Xc [.go true,.go true,.go false,.go false,.go false] (o:=by repeat' first|apply Ya|exact pcM|exact((X5 h5313 h5314))|exact(Xk (X5 h5313 h5314))|exact(X3f (X5 h5313 h5314))|exact Xw) (k:=wkT [] (X3.glue J))
    intro h
    obtain rfl:=oj h
    exact Xc [.go false,.go false,.go false,.go false,.go false] (o:=by repeat' first|apply Ya|exact pcM|exact((Xf h5313 rfl))|exact(Xk (Xf h5313 rfl))|exact(X3f (Xf h5313 rfl))|exact Xw) (k:=wkT [] (X3.glue J))
   obtain rfl:=X3j rfl
   rcases X31 with ⟨_|_,X4p⟩
   ·
    revert h
    refine bI fun v5318 h5319=>bI fun X03d h5329=>rnI [.pure _ (AV.tup [(AV.list true (v5318.1.map Xg)),(AV.list true (v5318.2.1.map X7)),(aI .i64 v5318.2.2)]),.stop 29] ?_
    intro h
    refine X3.join (s':=⟨fr [(6,(aB X03d))],hp ([]),0⟩) ?_ (fun J=>X3.cut ?_)
    ·
     revert h
     exact fun e=>oj e▸Xc [] (k:=fi)
    clear h;revert h5329
    refine brI (fun h5325=>?_) fun h5325=>?_
    ·
     refine brI (fun h5326=>?_) fun h5326=>?_
     ·
      refine bI fun v5327 h5328=>?_
      intro h
      obtain rfl:=oj h
      exact Xc [.go true,.go true,.go true,.go true,.go true,.pure _ (aB v5327)] (o:=by repeat' first|apply Ya|exact pcM|exact((X5 h5325 h5326))|exact(Xk (X5 h5325 h5326))|exact(X7r (X5 h5325 h5326))|exact Xw) (k:=wkT [] (X3.glue J))
     intro h
     obtain rfl:=oj h
     exact Xc [.go true,.go true,.go false,.go false,.go false] (o:=by repeat' first|apply Ya|exact pcM|exact((X5 h5325 h5326))|exact(Xk (X5 h5325 h5326))|exact(X3f (X5 h5325 h5326))|exact Xw) (k:=wkT [] (X3.glue J))
    intro h
    obtain rfl:=oj h
    exact Xc [.go false,.go false,.go false,.go false,.go false] (o:=by repeat' first|apply Ya|exact pcM|exact((Xf h5325 rfl))|exact(Xk (Xf h5325 rfl))|exact(X3f (Xf h5325 rfl))|exact Xw) (k:=wkT [] (X3.glue J))
   obtain rfl:=X4p rfl
   revert h
   refine bI fun v5330 h5331=>bI fun X03c h5341=>rnI [.pure _ (AV.tup [(AV.list true (v5330.1.map Xg)),(AV.list true (v5330.2.1.map X7)),(aI .i64 v5330.2.2)]),.stop 29] ?_
   intro h
   refine X3.join (s':=⟨fr [(6,(aB X03c))],hp ([]),0⟩) ?_ (fun J=>X3.cut ?_)
   ·
    revert h
    exact fun e=>oj e▸Xc [] (k:=fi)
   clear h;revert h5341
   refine brI (fun h5337=>?_) fun h5337=>?_
   ·
    refine brI (fun h5338=>?_) fun h5338=>?_
    ·
     refine bI fun v5339 h5340=>?_
     intro h
     obtain rfl:=oj h
     exact Xc [.go true,.go true,.go true,.go true,.go true,.pure _ (aB v5339)] (o:=by repeat' first|apply Ya|exact pcM|exact((X5 h5337 h5338))|exact(Xk (X5 h5337 h5338))|exact(X7r (X5 h5337 h5338))|exact Xw) (k:=wkT [] (X3.glue J))
    intro h
    obtain rfl:=oj h
    exact Xc [.go true,.go true,.go false,.go false,.go false] (o:=by repeat' first|apply Ya|exact pcM|exact((X5 h5337 h5338))|exact(Xk (X5 h5337 h5338))|exact(X3f (X5 h5337 h5338))|exact Xw) (k:=wkT [] (X3.glue J))
   intro h
   obtain rfl:=oj h
   exact Xc [.go false,.go false,.go false,.go false,.go false] (o:=by repeat' first|apply Ya|exact pcM|exact((Xf h5337 rfl))|exact(Xk (Xf h5337 rfl))|exact(X3f (Xf h5337 rfl))|exact Xw) (k:=wkT [] (X3.glue J))
  obtain rfl:=X2a rfl
  revert h
  refine brI (fun h5342=>fun e=>oj e▸Xc [Bt] (k:=fi)) fun h5342=>bI fun u5343 h5344=>?_
  have qh5344:=X0u h5344
  refine bI fun o8442 h8443=>rnI [Bf] ?_
  intro h
  refine wkT [] (X3.cut (X7g a1 a2 a0 v1 qh5344 a1 0 (by simp) _ _ nbS nbS _ h8443 ?_))
  intro X22 X5e X1i X31 eo8442;subst eo8442
  refine X3.glue ?_
  try dsimp only at h
  rcases X1i with ⟨_|_,X3j⟩
  ·
   rcases X31 with ⟨_|_,X4p⟩
   ·
    revert h
    refine bI fun v8444 h8445=>bI fun X036 h8455=>rnI [.pure _ (AV.tup [(AV.list true (v8444.1.map Xg)),(AV.list true (v8444.2.1.map X7)),(aI .i64 v8444.2.2)]),.stop 29] ?_
    intro h
    refine X3.join (s':=⟨fr [(6,(aB X036))],hp ([]),0⟩) ?_ (fun J=>X3.cut ?_)
    ·
     revert h
     exact fun e=>oj e▸Xc [] (k:=fi)
    clear h;revert h8455
    refine brI (fun h8451=>?_) fun h8451=>?_
    ·
     refine brI (fun h8452=>?_) fun h8452=>?_
     ·
      refine bI fun v8453 h8454=>?_
      intro h
      obtain rfl:=oj h
      exact Xc [.go true,.go true,.go true,.go true,.go true,.pure _ (aB v8453)] (o:=by repeat' first|apply Ya|exact pcM|exact((X5 h8451 h8452))|exact(Xk (X5 h8451 h8452))|exact(X7r (X5 h8451 h8452))|exact Xw) (k:=wkT [] (X3.glue J))
     intro h
     obtain rfl:=oj h
     exact Xc [.go true,.go true,.go false,.go false,.go false] (o:=by repeat' first|apply Ya|exact pcM|exact((X5 h8451 h8452))|exact(Xk (X5 h8451 h8452))|exact(X3f (X5 h8451 h8452))|exact Xw) (k:=wkT [] (X3.glue J))
    intro h
    obtain rfl:=oj h
    exact Xc [.go false,.go false,.go false,.go false,.go false] (o:=by repeat' first|apply Ya|exact pcM|exact((Xf h8451 rfl))|exact(Xk (Xf h8451 rfl))|exact(X3f (Xf h8451 rfl))|exact Xw) (k:=wkT [] (X3.glue J))
   obtain rfl:=X4p rfl
   revert h
   refine bI fun v8456 h8457=>bI fun X035 h8467=>rnI [.pure _ (AV.tup [(AV.list true (v8456.1.map Xg)),(AV.list true (v8456.2.1.map X7)),(aI .i64 v8456.2.2)]),.stop 29] ?_
   intro h
   refine X3.join (s':=⟨fr [(6,(aB X035))],hp ([]),0⟩) ?_ (fun J=>X3.cut ?_)
   ·
    revert h
    exact fun e=>oj e▸Xc [] (k:=fi)
   clear h;revert h8467
   refine brI (fun h8463=>?_) fun h8463=>?_
   ·
    refine brI (fun h8464=>?_) fun h8464=>?_
    ·
     refine bI fun v8465 h8466=>?_
     intro h
     obtain rfl:=oj h
     exact Xc [.go true,.go true,.go true,.go true,.go true,.pure _ (aB v8465)] (o:=by repeat' first|apply Ya|exact pcM|exact((X5 h8463 h8464))|exact(Xk (X5 h8463 h8464))|exact(X7r (X5 h8463 h8464))|exact Xw) (k:=wkT [] (X3.glue J))
    intro h
    obtain rfl:=oj h
    exact Xc [.go true,.go true,.go false,.go false,.go false] (o:=by repeat' first|apply Ya|exact pcM|exact((X5 h8463 h8464))|exact(Xk (X5 h8463 h8464))|exact(X3f (X5 h8463 h8464))|exact Xw) (k:=wkT [] (X3.glue J))
   intro h
   obtain rfl:=oj h
   exact Xc [.go false,.go false,.go false,.go false,.go false] (o:=by repeat' first|apply Ya|exact pcM|exact((Xf h8463 rfl))|exact(Xk (Xf h8463 rfl))|exact(X3f (Xf h8463 rfl))|exact Xw) (k:=wkT [] (X3.glue J))
  obtain rfl:=X3j rfl
  rcases X31 with ⟨_|_,X4p⟩
  ·
   revert h
   refine bI fun v8468 h8469=>bI fun X034 h8479=>rnI [.pure _ (AV.tup [(AV.list true (v8468.1.map Xg)),(AV.list true (v8468.2.1.map X7)),(aI .i64 v8468.2.2)]),.stop 29] ?_
   intro h
   refine X3.join (s':=⟨fr [(6,(aB X034))],hp ([]),0⟩) ?_ (fun J=>X3.cut ?_)
   ·
    revert h
    exact fun e=>oj e▸Xc [] (k:=fi)
   clear h;revert h8479
   refine brI (fun h8475=>?_) fun h8475=>?_
   ·
    refine brI (fun h8476=>?_) fun h8476=>?_
    ·
     refine bI fun v8477 h8478=>?_
     intro h
     obtain rfl:=oj h
     exact Xc [.go true,.go true,.go true,.go true,.go true,.pure _ (aB v8477)] (o:=by repeat' first|apply Ya|exact pcM|exact((X5 h8475 h8476))|exact(Xk (X5 h8475 h8476))|exact(X7r (X5 h8475 h8476))|exact Xw) (k:=wkT [] (X3.glue J))
    intro h
    obtain rfl:=oj h
    exact Xc [.go true,.go true,.go false,.go false,.go false] (o:=by repeat' first|apply Ya|exact pcM|exact((X5 h8475 h8476))|exact(Xk (X5 h8475 h8476))|exact(X3f (X5 h8475 h8476))|exact Xw) (k:=wkT [] (X3.glue J))
   intro h
   obtain rfl:=oj h
   exact Xc [.go false,.go false,.go false,.go false,.go false] (o:=by repeat' first|apply Ya|exact pcM|exact((Xf h8475 rfl))|exact(Xk (Xf h8475 rfl))|exact(X3f (Xf h8475 rfl))|exact Xw) (k:=wkT [] (X3.glue J))
  obtain rfl:=X4p rfl
  revert h
  refine bI fun v8480 h8481=>bI fun X033 h8491=>rnI [.pure _ (AV.tup [(AV.list true (v8480.1.map Xg)),(AV.list true (v8480.2.1.map X7)),(aI .i64 v8480.2.2)]),.stop 29] ?_
  intro h
  refine X3.join (s':=⟨fr [(6,(aB X033))],hp ([]),0⟩) ?_ (fun J=>X3.cut ?_)
  ·
   revert h
   exact fun e=>oj e▸Xc [] (k:=fi)
  clear h;revert h8491
  refine brI (fun h8487=>?_) fun h8487=>?_
  ·
   refine brI (fun h8488=>?_) fun h8488=>?_
   ·
    refine bI fun v8489 h8490=>?_
    intro h
    obtain rfl:=oj h
    exact Xc [.go true,.go true,.go true,.go true,.go true,.pure _ (aB v8489)] (o:=by repeat' first|apply Ya|exact pcM|exact((X5 h8487 h8488))|exact(Xk (X5 h8487 h8488))|exact(X7r (X5 h8487 h8488))|exact Xw) (k:=wkT [] (X3.glue J))
   intro h
   obtain rfl:=oj h
   exact Xc [.go true,.go true,.go false,.go false,.go false] (o:=by repeat' first|apply Ya|exact pcM|exact((X5 h8487 h8488))|exact(Xk (X5 h8487 h8488))|exact(X3f (X5 h8487 h8488))|exact Xw) (k:=wkT [] (X3.glue J))
  intro h
  obtain rfl:=oj h
  exact Xc [.go false,.go false,.go false,.go false,.go false] (o:=by repeat' first|apply Ya|exact pcM|exact((Xf h8487 rfl))|exact(Xk (Xf h8487 rfl))|exact(X3f (Xf h8487 rfl))|exact Xw) (k:=wkT [] (X3.glue J))
 intro eo90;subst eo90
 refine X3.glue ?_
 try dsimp only at h
 revert h
 exact fun e=>oj e▸Xc [] (k:=fi)⟩
theorem Xbc {Q:X07->St->Mu->Prop} {μ:Mu} (Xel:(List (List Xb))) (Xs:X03) (Xob:Bool) (Xdz:(List X2u)) (Xko:(List X2u)) (Xv3:Int) (hl:Xdz.length<=140737488355328):∀ (xs:List X2u) (k:Nat) (hx:Xdz.drop k=xs) (o:X3a) (h:X1o Xel Xs Xob Xdz Xko Xv3 xs k  = some o)
  (C0:o=X3a.x0->X3 Tryz.prog 188 0 Q (.exit (.exit 0)) [] ⟨fr [(1,(Lf (List.map (X0e false X0) Xel))),(2,(AV.ptr 0 0 0)),(5,(aB Xob)),(6,(AV.list true (Xdz.map Xg)))],hp ([(0,Ob [(Xl false Xs)] 10)]),1⟩ μ)
  (C1:o=X3a.x1->X3 Tryz.prog 188 0 Q (.exit .ret) [] ⟨fr [(4,(aB false))],hp ([]),0⟩ μ),
  X3 Tryz.prog 188 0 Q (.loop (X4t 0 (Xu Tryz.f7))) [] ⟨fr [(1,(Lf (List.map (X0e false X0) Xel))),(2,(AV.ptr 0 0 0)),(5,(aB Xob)),(6,(AV.list true (Xdz.map Xg))),(9,(AV.list true (Xko.map Xg))),(12,(aI .i64 Xv3)),(14,(aI .i64 (k:Int)))],hp ([(0,Ob [(Xl false Xs)] 10)]),1⟩ μ:=by
 intro xs
 induction xs with
 |nil =>
  intro k hx  o h C0 C1
  have hk:=X1e hx
  have hc:decide ((k:Int)<(Xdz.length:Int))=false:=Yf (by omega)
  rw[X1o] at h
  refine X3.round ?_
  revert h
  exact fun e=>Xc [.el (aI .i64 (Xdz.length:Int)),Bf] (k:=wkT [] (C0  (oj e).symm))
 |cons x xs ih =>
  intro k hx  o h C0 C1
  obtain⟨hk,hg,hx1⟩:=X0t hx
  have hc:decide ((k:Int)<(Xdz.length:Int))=true:=Yt (by omega)
  rw[X1o] at h
  refine X3.round ?_
  revert h
  refine brI (fun h36=>fun e=>Xc [.el (aI .i64 (Xdz.length:Int)),Bt,.el (Xg x),.el (aI .i64 (Xko.length:Int)),Bt] (k:=wkT [] (C1  (oj e).symm))) fun h36=>rnI [.el (aI .i64 (Xdz.length:Int)),Bt,.el (Xg x),.el (aI .i64 (Xko.length:Int)),Bf] ?_
  intro h
  exact wkT [] (ih (k+1) hx1  o h C0 C1)
end Go.Av.Tryz