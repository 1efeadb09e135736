/- Printed by decomp.py: that the program computes the functions. -/
import Derived.Test.YtfdfgobnpnoomaaGreatDCert12Z
set_option linter.all false

namespace Go.Av.Tryz
open Go.Proofs Go.D
set_option maxRecDepth 10000
set_option maxHeartbeats 40000000
instance Xbq:PCs Tryz.prog 6 (∀ (a0:Xu) (a1:(List (List Xg))) (r:Bool),X37 a0 a1=some r->X0o Tryz.prog 6 [(Xq false a0),(Lf (List.map (X7p false Xa) a1))] (aB r)):=⟨fun a0 a1 r h=>by
 refine X0o.sym X9 fn6 (nt:=119) rfl rfl ?_ okM
 unfold X37 at h
 revert h
 refine bI fun v1 h2=>bI fun v3 h4=>brI (fun h5=>fun e=>oj e▸X8 [.pure _ (aB v1),.pure _ (aB v3),Bt] (k:=fi)) fun h5=>bI fun Xlw h49=>rnI [.pure _ (aB v1),.pure _ (aB v3),Bf] ?_
 intro h
 refine X2.joinOpF (fun(q:Nb Xlw)=>⟨fr [(1,(Lf (List.map (X7p false Xa) a1))),(2,(AV.ptr 0 0 0)),(5,(aB v1)),(28,(AV.agg [(aI .u8 a0.Agg),(AV.list true (a0.Arg.map X1)),(slE q.1 1 (List.map (aI .i64) Xlw)),(aB a0.Join),(AV.list true (a0.Where.map X1)),(aI .u8 a0.Window.Kind),(aI .i64 a0.Window.Size),(aI .i64 a0.Window.Every),(aB a0.ByKey),(aI .u8 a0.Late)]))],hp ([(0,Ob [(Xq false a0)] 10)]++opE q.1 1 1 (List.map (aI .i64) Xlw)),2⟩) ?_ (fun J=>?_)
 ·
  rintro Xts
  rcases Xts with ⟨_|_,Xum⟩
  ·
   revert h
   refine bI fun o135 h136=>rnI [.el (aI .i64 (a1.length:Int)),.wrap] ?_
   intro h
   refine wkT [(1,2),(2,1)] (X2.cut (X62 a1 a0 v1 a0.Agg a0.Arg a0.Join a0.Where a0.Window.Kind a0.Window.Size a0.Window.Every a0.ByKey a0.Late _ _ _ _ nbF nbS _ h136 ?_))
   intro Xae X1y X87 X13 eo135;subst eo135
   refine X2.glue ?_
   try dsimp only at h
   rcases X87 with ⟨_|_,Xeh⟩
   ·
    rcases X13 with ⟨_|_,X2c⟩
    ·
     revert h
     refine bI fun v137 h138=>bI fun v139 h140=>bI fun Xob h148=>rnI [.pure _ (AV.tup [(AV.list true (v137.1.map Xc)),(AV.list true (v137.2.1.map X3)),(aI .i64 v137.2.2)]),.pure _ (AV.tup [(AV.list true (v139.1.map Xc)),(AV.list true (v139.2.1.map X3)),(aI .i64 v139.2.2)]),.stop 13] ?_
     intro h
     refine X2.join (s':=⟨fr [(2,(AV.ptr 0 0 0)),(5,(aB v1)),(9,(AV.list true (v137.1.map Xc))),(12,(AV.list true (v139.1.map Xc))),(89,(aB Xob))],hp ([(0,Ob [(Xq false a0)] 10)]),1⟩) ?_ (fun J=>X2.cut ?_)
     ·
      revert h
      refine brI (fun h149=>fun e=>oj e▸X8 [Bt] (k:=fi)) fun h149=>bI fun u150 h151=>?_
      have qh151:=X09 h151
      refine bI fun o174 h175=>rnI [Bf] ?_
      intro h
      refine wkT [] (X2.cut (X0m a0 v1 v137.1 v139.1 qh151 v137.1 0 (by simp) _ h175 ?_ ?_))
      ·
       intro eo174;subst eo174
       refine X2.glue ?_
       try dsimp only at h
       revert h
       exact fun e=>oj e▸X8 [] (k:=fi)
      intro eo174;subst eo174
      refine X2.glue ?_
      try dsimp only at h
      revert h
      exact fun e=>oj e▸X8 [] (k:=fi)
     clear h;revert h148
     refine brI (fun h145=>?_) fun h145=>?_
     ·
      intro h
      obtain rfl:=oj h
      exact X8 [.go false,.go false,.go false,.go false,.go false,.go false,.go false,.go false,.go false,.go false,.go false,.go false] (o:=by repeat' first|apply Ya|exact pcM|exact((Xf h145 rfl))|exact(Xt (Xf h145 rfl))|exact(X7h (Xf h145 rfl))|exact((Xf (Xf h145 rfl) rfl))|exact(Xt (Xf (Xf h145 rfl) rfl))|exact(X7h (Xf (Xf h145 rfl) rfl))|exact X08) (k:=wkT [] (X2.glue J))
     refine brI (fun h146=>?_) fun h146=>?_
     ·
      intro h
      obtain rfl:=oj h
      exact X8 [.go true,.go true,.go false,.go false,.go false,.go false,.go false,.go false,.go false,.go false,.go false,.go false] (o:=by repeat' first|apply Ya|exact pcM|exact((Xd h145 h146))|exact(Xt (Xd h145 h146))|exact(X7h (Xd h145 h146))|exact((Xf (Xd h145 h146) rfl))|exact(Xt (Xf (Xd h145 h146) rfl))|exact(X7h (Xf (Xd h145 h146) rfl))|exact X08) (k:=wkT [] (X2.glue J))
     refine rnI [.go true,.go true,.go true,.go true,.el (aI .i64 (v137.2.1.length:Int)),.go true,.go true,.el (aI .i64 (v139.2.1.length:Int)),.go true,.stop 999999] (o:=by repeat' first|apply Ya|exact pcM|exact((Xd h145 h146))|exact(Xt (Xd h145 h146))|exact(Xb7 (Xd h145 h146))|exact X08) ?_
     refine brI (fun h147=>?_) fun h147=>?_
     ·
      intro h
      obtain rfl:=oj h
      exact X8 [.go false,.go false,.go false,.go false,.go false] (o:=by repeat' first|apply Ya|exact pcM|exact((Xd (Xd h145 h146) h147))|exact(Xt (Xd (Xd h145 h146) h147))|exact(X7h (Xd (Xd h145 h146) h147))|exact X08) (k:=wkT [] (X2.glue J))
     intro h
     obtain rfl:=oj h
     exact X8 [.go true,.go true,.el (aI .i64 (v137.1.length:Int)),.go true,.go true,.el (aI .i64 (v139.1.length:Int)),.go true] (o:=by repeat' first|apply Ya|exact pcM|exact((Xd (Xd h145 h146) h147))|exact(Xt (Xd (Xd h145 h146) h147))|exact(Xb7 (Xd (Xd h145 h146) h147))|exact X08) (k:=wkT [] (X2.glue J))
    obtain rfl:=X2c rfl
    revert h
    refine bI fun v176 h177=>bI fun v178 h179=>bI fun X018 h187=>rnI [.pure _ (AV.tup [(AV.list true (v176.1.map Xc)),(AV.list true (v176.2.1.map X3)),(aI .i64 v176.2.2)]),.pure _ (AV.tup [(AV.list true (v178.1.map Xc)),(AV.list true (v178.2.1.map X3)),(aI .i64 v178.2.2)]),.stop 13] ?_
    intro h
    refine X2.join (s':=⟨fr [(2,(AV.ptr 0 0 0)),(5,(aB v1)),(9,(AV.list true (v176.1.map Xc))),(12,(AV.list true (v178.1.map Xc))),(89,(aB X018))],hp ([(0,Ob [(Xq false a0)] 10)]),1⟩) ?_ (fun J=>X2.cut ?_)
    ·
     revert h
     refine brI (fun h188=>fun e=>oj e▸X8 [Bt] (k:=fi)) fun h188=>bI fun u189 h190=>?_
     have qh190:=X09 h190
     refine bI fun o206 h207=>rnI [Bf] ?_
     intro h
     refine wkT [] (X2.cut (X0m a0 v1 v176.1 v178.1 qh190 v176.1 0 (by simp) _ h207 ?_ ?_))
     ·
      intro eo206;subst eo206
      refine X2.glue ?_
      try dsimp only at h
      revert h
      exact fun e=>oj e▸X8 [] (k:=fi)
     intro eo206;subst eo206
     refine X2.glue ?_
     try dsimp only at h
     revert h
     exact fun e=>oj e▸X8 [] (k:=fi)
    clear h;revert h187
    refine brI (fun h184=>?_) fun h184=>?_
    ·
     intro h
     obtain rfl:=oj h
     exact X8 [.go false,.go false,.go false,.go false,.go false,.go false,.go false,.go false,.go false,.go false,.go false,.go false] (o:=by repeat' first|apply Ya|exact pcM|exact((Xf h184 rfl))|exact(Xt (Xf h184 rfl))|exact(X7h (Xf h184 rfl))|exact((Xf (Xf h184 rfl) rfl))|exact(Xt (Xf (Xf h184 rfl) rfl))|exact(X7h (Xf (Xf h184 rfl) rfl))|exact X08) (k:=wkT [] (X2.glue J))
    refine brI (fun h185=>?_) fun h185=>?_
    ·
     intro h
     obtain rfl:=oj h
     exact X8 [.go true,.go true,.go false,.go false,.go false,.go false,.go false,.go false,.go false,.go false,.go false,.go false] (o:=by repeat' first|apply Ya|exact pcM|exact((Xd h184 h185))|exact(Xt (Xd h184 h185))|exact(X7h (Xd h184 h185))|exact((Xf (Xd h184 h185) rfl))|exact(Xt (Xf (Xd h184 h185) rfl))|exact(X7h (Xf (Xd h184 h185) rfl))|exact X08) (k:=wkT [] (X2.glue J))
    refine rnI [.go true,.go true,.go true,.go true,.el (aI .i64 (v176.2.1.length:Int)),.go true,.go true,.el (aI .i64 (v178.2.1.length:Int)),.go true,.stop 999999] (o:=by repeat' first|apply Ya|exact pcM|exact((Xd h184 h185))|exact(Xt (Xd h184 h185))|exact(Xb7 (Xd h184 h185))|exact X08) ?_
    refine brI (fun h186=>?_) fun h186=>?_
    ·
     intro h
     obtain rfl:=oj h
     exact X8 [.go false,.go false,.go false,.go false,.go false] (o:=by repeat' first|apply Ya|exact pcM|exact((Xd (Xd h184 h185) h186))|exact(Xt (Xd (Xd h184 h185) h186))|exact(X7h (Xd (Xd h184 h185) h186))|exact X08) (k:=wkT [] (X2.glue J))
    intro h
    obtain rfl:=oj h
    exact X8 [.go true,.go true,.el (aI .i64 (v176.1.length:Int)),.go true,.go true,.el (aI .i64 (v178.1.length:Int)),.go true] (o:=by repeat' first|apply Ya|exact pcM|exact((Xd (Xd h184 h185) h186))|exact(Xt (Xd (Xd h184 h185) h186))|exact(Xb7 (Xd (Xd h184 h185) h186))|exact X08) (k:=wkT [] (X2.glue J))
   obtain rfl:=Xeh rfl
   rcases X13 with ⟨_|_,X2c⟩
   ·
    revert h
    refine bI fun v208 h209=>bI fun v210 h211=>bI fun X017 h219=>rnI [.pure _ (AV.tup [(AV.list true (v208.1.map Xc)),(AV.list true (v208.2.1.map X3)),(aI .i64 v208.2.2)]),.pure _ (AV.tup [(AV.list true (v210.1.map Xc)),(AV.list true (v210.2.1.map X3)),(aI .i64 v210.2.2)]),.stop 13] ?_
    intro h
    refine X2.join (s':=⟨fr [(2,(AV.ptr 0 0 0)),(5,(aB v1)),(9,(AV.list true (v208.1.map Xc))),(12,(AV.list true (v210.1.map Xc))),(89,(aB X017))],hp ([(0,Ob [(Xq false a0)] 10)]),1⟩) ?_ (fun J=>X2.cut ?_)
    ·
     revert h
     refine brI (fun h220=>fun e=>oj e▸X8 [Bt] (k:=fi)) fun h220=>bI fun u221 h222=>?_
     have qh222:=X09 h222
     refine bI fun o238 h239=>rnI [Bf] ?_
     intro h
     refine wkT [] (X2.cut (X0m a0 v1 v208.1 v210.1 qh222 v208.1 0 (by simp) _ h239 ?_ ?_))
     ·
      intro eo238;subst eo238
      refine X2.glue ?_
      try dsimp only at h
      revert h
      exact fun e=>oj e▸X8 [] (k:=fi)
     intro eo238;subst eo238
     refine X2.glue ?_
     try dsimp only at h
     revert h
     exact fun e=>oj e▸X8 [] (k:=fi)
    clear h;revert h219
    refine brI (fun h216=>?_) fun h216=>?_
    ·
     intro h
     obtain rfl:=oj h
     exact X8 [.go false,.go false,.go false,.go false,.go false,.go false,.go false,.go false,.go false,.go false,.go false,.go false] (o:=by repeat' first|apply Ya|exact pcM|exact((Xf h216 rfl))|exact(Xt (Xf h216 rfl))|exact(X7h (Xf h216 rfl))|exact((Xf (Xf h216 rfl) rfl))|exact(Xt (Xf (Xf h216 rfl) rfl))|exact(X7h (Xf (Xf h216 rfl) rfl))|exact X08) (k:=wkT [] (X2.glue J))
    refine brI (fun h217=>?_) fun h217=>?_
    ·
     intro h
     obtain rfl:=oj h
     exact X8 [.go true,.go true,.go false,.go false,.go false,.go false,.go false,.go false,.go false,.go false,.go false,.go false] (o:=by repeat' first|apply Ya|exact pcM|exact((Xd h216 h217))|exact(Xt (Xd h216 h217))|exact(X7h (Xd h216 h217))|exact((Xf (Xd h216 h217) rfl))|exact(Xt (Xf (Xd h216 h217) rfl))|exact(X7h (Xf (Xd h216 h217) rfl))|exact X08) (k:=wkT [] (X2.glue J))
    refine rnI [.go true,.go true,.go true,.go true,.el (aI .i64 (v208.2.1.length:Int)),.go true,.go true,.el (aI .i64 (v210.2.1.length:Int)),.go true,.stop 999999] (o:=by repeat' first|apply Ya|exact pcM|exact((Xd h216 h217))|exact(Xt (Xd h216 h217))|exact(Xb7 (Xd h216 h217))|exact X08) ?_
    refine brI (fun h218=>?_) fun h218=>?_
    ·
     intro h
     obtain rfl:=oj h
     exact X8 [.go false,.go false,.go false,.go false,.go false] (o:=by repeat' first|apply Ya|exact pcM|exact((Xd (Xd h216 h217) h218))|exact(Xt (Xd (Xd h216 h217) h218))|exact(X7h (Xd (Xd h216 h217) h218))|exact X08) (k:=wkT [] (X2.glue J))
    intro h
    obtain rfl:=oj h
    exact X8 [.go true,.go true,.el (aI .i64 (v208.1.length:Int)),.go true,.go true,.el (aI .i64 (v210.1.length:Int)),.go true] (o:=by repeat' first|apply Ya|exact pcM|exact((Xd (Xd h216 h217) h218))|exact(Xt (Xd (Xd h216 h217) h218))|exact(Xb7 (Xd (Xd h216 h217) h218))|exact X08) (k:=wkT [] (X2.glue J))
   obtain rfl:=X2c rfl
   revert h
   refine bI fun v240 h241=>bI fun v242 h243=>bI fun X016 h251=>rnI [.pure _ (AV.tup [(AV.list true (v240.1.map Xc)),(AV.list true (v240.2.1.map X3)),(aI .i64 v240.2.2)]),.pure _ (AV.tup [(AV.list true (v242.1.map Xc)),(AV.list true (v242.2.1.map X3)),(aI .i64 v242.2.2)]),.stop 13] ?_
   intro h
   refine X2.join (s':=⟨fr [(2,(AV.ptr 0 0 0)),(5,(aB v1)),(9,(AV.list true (v240.1.map Xc))),(12,(AV.list true (v242.1.map Xc))),(89,(aB X016))],hp ([(0,Ob [(Xq false a0)] 10)]),1⟩) ?_ (fun J=>X2.cut ?_)
   ·
    revert h
    refine brI (fun h252=>fun e=>oj e▸X8 [Bt] (k:=fi)) fun h252=>bI fun u253 h254=>?_
    have qh254:=X09 h254
    refine bI fun o270 h271=>rnI [Bf] ?_
    intro h
    refine wkT [] (X2.cut (X0m a0 v1 v240.1 v242.1 qh254 v240.1 0 (by simp) _ h271 ?_ ?_))
    ·
     intro eo270;subst eo270
     refine X2.glue ?_
     try dsimp only at h
     revert h
     exact fun e=>oj e▸X8 [] (k:=fi)
    intro eo270;subst eo270
    refine X2.glue ?_
    try dsimp only at h
    revert h
    exact fun e=>oj e▸X8 [] (k:=fi)
   clear h;revert h251
   refine brI (fun h248=>?_) fun h248=>?_
   ·
    intro h
    obtain rfl:=oj h
    exact X8 [.go false,.go false,.go false,.go false,.go false,.go false,.go false,.go false,.go false,.go false,.go false,.go false] (o:=by repeat' first|apply Ya|exact pcM|exact((Xf h248 rfl))|exact(Xt (Xf h248 rfl))|exact(X7h (Xf h248 rfl))|exact((Xf (Xf h248 rfl) rfl))|exact(Xt (Xf (Xf h248 rfl) rfl))|exact(X7h (Xf (Xf h248 rfl) rfl))|exact X08) (k:=wkT [] (X2.glue J))
   refine brI (fun h249=>?_) fun h249=>?_
   ·
    intro h
    obtain rfl:=oj h
    exact X8 [.go true,.go true,.go false,.go false,.go false,.go false,.go false,.go false,.go false,.go false,.go false,.go false] (o:=by repeat' first|apply Ya|exact pcM|exact((Xd h248 h249))|exact(Xt (Xd h248 h249))|exact(X7h (Xd h248 h249))|exact((Xf (Xd h248 h249) rfl))|exact(Xt (Xf (Xd h248 h249) rfl))|exact(X7h (Xf (Xd h248 h249) rfl))|exact X08) (k:=wkT [] (X2.glue J))
   refine rnI [.go true,.go true,.go true,.go true,.el (aI .i64 (v240.2.1.length:Int)),.go true,.go true,.el (aI .i64 (v242.2.1.length:Int)),.go true,.stop 999999] (o:=by repeat' first|apply Ya|exact pcM|exact((Xd h248 h249))|exact(Xt (Xd h248 h249))|exact(Xb7 (Xd h248 h249))|exact X08) ?_
   refine brI (fun h250=>?_) fun h250=>?_
   ·
    intro h
    obtain rfl:=oj h
    exact X8 [.go false,.go false,.go false,.go false,.go false] (o:=by repeat' first|apply Ya|exact pcM|exact((Xd (Xd h248 h249) h250))|exact(Xt (Xd (Xd h248 h249) h250))|exact(X7h (Xd (Xd h248 h249) h250))|exact X08) (k:=wkT [] (X2.glue J))
   intro h
   obtain rfl:=oj h
   exact X8 [.go true,.go true,.el (aI .i64 (v240.1.length:Int)),.go true,.go true,.el (aI .i64 (v242.1.length:Int)),.go true] (o:=by repeat' first|apply Ya|exact pcM|exact((Xd (Xd h248 h249) h250))|exact(Xt (Xd (Xd h248 h249) h250))|exact(Xb7 (Xd (Xd h248 h249) h250))|exact X08) (k:=wkT [] (X2.glue J))
  obtain rfl:=Xum rfl
  revert h
  refine bI fun o329 h330=>rnI [.el (aI .i64 (a1.length:Int)),.wrap] ?_
  intro h
  refine wkT [(1,2)] (X2.cut (X62 a1 a0 v1 a0.Agg a0.Arg a0.Join a0.Where a0.Window.Kind a0.Window.Size a0.Window.Every a0.ByKey a0.Late _ _ _ _ nbS nbS _ h330 ?_))
  intro Xae X1y X87 X13 eo329;subst eo329
  refine X2.glue ?_
  try dsimp only at h
  rcases X87 with ⟨_|_,Xeh⟩
  ·
   rcases X13 with ⟨_|_,X2c⟩
   ·
    revert h
    refine bI fun v331 h332=>bI fun v333 h334=>bI fun X012 h342=>rnI [.pure _ (AV.tup [(AV.list true (v331.1.map Xc)),(AV.list true (v331.2.1.map X3)),(aI .i64 v331.2.2)]),.pure _ (AV.tup [(AV.list true (v333.1.map Xc)),(AV.list true (v333.2.1.map X3)),(aI .i64 v333.2.2)]),.stop 13] ?_
    intro h
    refine X2.join (s':=⟨fr [(2,(AV.ptr 0 0 0)),(5,(aB v1)),(9,(AV.list true (v331.1.map Xc))),(12,(AV.list true (v333.1.map Xc))),(89,(aB X012))],hp ([(0,Ob [(Xq false a0)] 10)]),1⟩) ?_ (fun J=>X2.cut ?_)
    ·
     revert h
     refine brI (fun h343=>fun e=>oj e▸X8 [Bt] (k:=fi)) fun h343=>bI fun u344 h345=>?_
     have qh345:=X09 h345
     refine bI fun o361 h362=>rnI [Bf] ?_
     intro h
     refine wkT [] (X2.cut (X0m a0 v1 v331.1 v333.1 qh345 v331.1 0 (by simp) _ h362 ?_ ?_))
     ·
      intro eo361;subst eo361
      refine X2.glue ?_
      try dsimp only at h
      revert h
      exact fun e=>oj e▸X8 [] (k:=fi)
     intro eo361;subst eo361
     refine X2.glue ?_
     try dsimp only at h
     revert h
     exact fun e=>oj e▸X8 [] (k:=fi)
    clear h;revert h342
    refine brI (fun h339=>?_) fun h339=>?_
    ·
     intro h
     obtain rfl:=oj h
     exact X8 [.go false,.go false,.go false,.go false,.go false,.go false,.go false,.go false,.go false,.go false,.go false,.go false] (o:=by repeat' first|apply Ya|exact pcM|exact((Xf h339 rfl))|exact(Xt (Xf h339 rfl))|exact(X7h (Xf h339 rfl))|exact((Xf (Xf h339 rfl) rfl))|exact(Xt (Xf (Xf h339 rfl) rfl))|exact(X7h (Xf (Xf h339 rfl) rfl))|exact X08) (k:=wkT [] (X2.glue J))
    refine brI (fun h340=>?_) fun h340=>?_
    ·
     intro h
     obtain rfl:=oj h
     exact X8 [.go true,.go true,.go false,.go false,.go false,.go false,.go false,.go false,.go false,.go false,.go false,.go false] (o:=by repeat' first|apply Ya|exact pcM|exact((Xd h339 h340))|exact(Xt (Xd h339 h340))|exact(X7h (Xd h339 h340))|exact((Xf (Xd h339 h340) rfl))|exact(Xt (Xf (Xd h339 h340) rfl))|exact(X7h (Xf (Xd h339 h340) rfl))|exact X08) (k:=wkT [] (X2.glue J))
    refine rnI [.go true,.go true,.go true,.go true,.el (aI .i64 (v331.2.1.length:Int)),.go true,.go true,.el (aI .i64 (v333.2.1.length:Int)),.go true,.stop 999999] (o:=by repeat' first|apply Ya|exact pcM|exact((Xd h339 h340))|exact(Xt (Xd h339 h340))|exact(Xb7 (Xd h339 h340))|exact X08) ?_
    refine brI (fun h341=>?_) fun h341=>?_
    ·
     intro h
     obtain rfl:=oj h
     exact X8 [.go false,.go false,.go false,.go false,.go false] (o:=by repeat' first|apply Ya|exact pcM|exact((Xd (Xd h339 h340) h341))|exact(Xt (Xd (Xd h339 h340) h341))|exact(X7h (Xd (Xd h339 h340) h341))|exact X08) (k:=wkT [] (X2.glue J))
    intro h
    obtain rfl:=oj h
    exact X8 [.go true,.go true,.el (aI .i64 (v331.1.length:Int)),.go true,.go true,.el (aI .i64 (v333.1.length:Int)),.go true] (o:=by repeat' first|apply Ya|exact pcM|exact((Xd (Xd h339 h340) h341))|exact(Xt (Xd (Xd h339 h340) h341))|exact(Xb7 (Xd (Xd h339 h340) h341))|exact X08) (k:=wkT [] (X2.glue J))
   obtain rfl:=X2c rfl
   revert h
   refine bI fun v363 h364=>bI fun v365 h366=>bI fun X011 h374=>rnI [.pure _ (AV.tup [(AV.list true (v363.1.map Xc)),(AV.list true (v363.2.1.map X3)),(aI .i64 v363.2.2)]),.pure _ (AV.tup [(AV.list true (v365.1.map Xc)),(AV.list true (v365.2.1.map X3)),(aI .i64 v365.2.2)]),.stop 13] ?_
   intro h
   refine X2.join (s':=⟨fr [(2,(AV.ptr 0 0 0)),(5,(aB v1)),(9,(AV.list true (v363.1.map Xc))),(12,(AV.list true (v365.1.map Xc))),(89,(aB X011))],hp ([(0,Ob [(Xq false a0)] 10)]),1⟩) ?_ (fun J=>X2.cut ?_)
   ·
    revert h
    refine brI (fun h375=>fun e=>oj e▸X8 [Bt] (k:=fi)) fun h375=>bI fun u376 h377=>?_
    have qh377:=X09 h377
    refine bI fun o393 h394=>rnI [Bf] ?_
    intro h
    refine wkT [] (X2.cut (X0m a0 v1 v363.1 v365.1 qh377 v363.1 0 (by simp) _ h394 ?_ ?_))
    ·
     intro eo393;subst eo393
     refine X2.glue ?_
     try dsimp only at h
     revert h
     exact fun e=>oj e▸X8 [] (k:=fi)
    intro eo393;subst eo393
    refine X2.glue ?_
    try dsimp only at h
    revert h
    exact fun e=>oj e▸X8 [] (k:=fi)
   clear h;revert h374
   refine brI (fun h371=>?_) fun h371=>?_
   ·
    intro h
    obtain rfl:=oj h
    exact X8 [.go false,.go false,.go false,.go false,.go false,.go false,.go false,.go false,.go false,.go false,.go false,.go false] (o:=by repeat' first|apply Ya|exact pcM|exact((Xf h371 rfl))|exact(Xt (Xf h371 rfl))|exact(X7h (Xf h371 rfl))|exact((Xf (Xf h371 rfl) rfl))|exact(Xt (Xf (Xf h371 rfl) rfl))|exact(X7h (Xf (Xf h371 rfl) rfl))|exact X08) (k:=wkT [] (X2.glue J))
   refine brI (fun h372=>?_) fun h372=>?_
   ·
    intro h
    obtain rfl:=oj h
    exact X8 [.go true,.go true,.go false,.go false,.go false,.go false,.go false,.go false,.go false,.go false,.go false,.go false] (o:=by repeat' first|apply Ya|exact pcM|exact((Xd h371 h372))|exact(Xt (Xd h371 h372))|exact(X7h (Xd h371 h372))|exact((Xf (Xd h371 h372) rfl))|exact(Xt (Xf (Xd h371 h372) rfl))|exact(X7h (Xf (Xd h371 h372) rfl))|exact X08) (k:=wkT [] (X2.glue J))
   refine rnI [.go true,.go true,.go true,.go true,.el (aI .i64 (v363.2.1.length:Int)),.go true,.go true,.el (aI .i64 (v365.2.1.length:Int)),.go true,.stop 999999] (o:=by repeat' first|apply Ya|exact pcM|exact((Xd h371 h372))|exact(Xt (Xd h371 h372))|exact(Xb7 (Xd h371 h372))|exact X08) ?_
   refine brI (fun h373=>?_) fun h373=>?_
   ·
    intro h
    obtain rfl:=oj h
    exact X8 [.go false,.go false,.go false,.go false,.go false] (o:=by repeat' first|apply Ya|exact pcM|exact((Xd (Xd h371 h372) h373))|exact(Xt (Xd (Xd h371 h372) h373))|exact(X7h (Xd (Xd h371 h372) h373))|exact X08) (k:=wkT [] (X2.glue J))
   intro h
   obtain rfl:=oj h
   exact X8 [.go true,.go true,.el (aI .i64 (v363.1.length:Int)),.go true,.go true,.el (aI .i64 (v365.1.length:Int)),.go true] (o:=by repeat' first|apply Ya|exact pcM|exact((Xd (Xd h371 h372) h373))|exact(Xt (Xd (Xd h371 h372) h373))|exact(Xb7 (Xd (Xd h371 h372) h373))|exact X08) (k:=wkT [] (X2.glue J))
  obtain rfl:=Xeh rfl
  rcases X13 with ⟨_|_,X2c⟩
  ·
   revert h
   refine bI fun v395 h396=>bI fun v397 h398=>bI fun X00w h406=>rnI [.pure _ (AV.tup [(AV.list true (v395.1.map Xc)),(AV.list true (v395.2.1.map X3)),(aI .i64 v395.2.2)]),.pure _ (AV.tup [(AV.list true (v397.1.map Xc)),(AV.list true (v397.2.1.map X3)),(aI .i64 v397.2.2)]),.stop 13] ?_
   intro h
   refine X2.join (s':=⟨fr [(2,(AV.ptr 0 0 0)),(5,(aB v1)),(9,(AV.list true (v395.1.map Xc))),(12,(AV.list true (v397.1.map Xc))),(89,(aB X00w))],hp ([(0,Ob [(Xq false a0)] 10)]),1⟩) ?_ (fun J=>X2.cut ?_)
   ·
    revert h
    refine brI (fun h407=>fun e=>oj e▸X8 [Bt] (k:=fi)) fun h407=>bI fun u408 h409=>?_
    have qh409:=X09 h409
    refine bI fun o425 h426=>rnI [Bf] ?_
    intro h
    refine wkT [] (X2.cut (X0m a0 v1 v395.1 v397.1 qh409 v395.1 0 (by simp) _ h426 ?_ ?_))
    ·
     intro eo425;subst eo425
     refine X2.glue ?_
     try dsimp only at h
     revert h
     exact fun e=>oj e▸X8 [] (k:=fi)
    intro eo425;subst eo425
    refine X2.glue ?_
    try dsimp only at h
    revert h
    exact fun e=>oj e▸X8 [] (k:=fi)
   clear h;revert h406
   refine brI (fun h403=>?_) fun h403=>?_
   ·
    intro h
    obtain rfl:=oj h
    exact X8 [.go false,.go false,.go false,.go false,.go false,.go false,.go false,.go false,.go false,.go false,.go false,.go false] (o:=by repeat' first|apply Ya|exact pcM|exact((Xf h403 rfl))|exact(Xt (Xf h403 rfl))|exact(X7h (Xf h403 rfl))|exact((Xf (Xf h403 rfl) rfl))|exact(Xt (Xf (Xf h403 rfl) rfl))|exact(X7h (Xf (Xf h403 rfl) rfl))|exact X08) (k:=wkT [] (X2.glue J))
   refine brI (fun h404=>?_) fun h404=>?_
   ·
    intro h
    obtain rfl:=oj h
    exact X8 [.go true,.go true,.go false,.go false,.go false,.go false,.go false,.go false,.go false,.go false,.go false,.go false] (o:=by repeat' first|apply Ya|exact pcM|exact((Xd h403 h404))|exact(Xt (Xd h403 h404))|exact(X7h (Xd h403 h404))|exact((Xf (Xd h403 h404) rfl))|exact(Xt (Xf (Xd h403 h404) rfl))|exact(X7h (Xf (Xd h403 h404) rfl))|exact X08) (k:=wkT [] (X2.glue J))
   refine rnI [.go true,.go true,.go true,.go true,.el (aI .i64 (v395.2.1.length:Int)),.go true,.go true,.el (aI .i64 (v397.2.1.length:Int)),.go true,.stop 999999] (o:=by repeat' first|apply Ya|exact pcM|exact((Xd h403 h404))|exact(Xt (Xd h403 h404))|exact(Xb7 (Xd h403 h404))|exact X08) ?_
   refine brI (fun h405=>?_) fun h405=>?_
   ·
    intro h
    obtain rfl:=oj h
    exact X8 [.go false,.go false,.go false,.go false,.go false] (o:=by repeat' first|apply Ya|exact pcM|exact((Xd (Xd h403 h404) h405))|exact(Xt (Xd (Xd h403 h404) h405))|exact(X7h (Xd (Xd h403 h404) h405))|exact X08) (k:=wkT [] (X2.glue J))
   intro h
   obtain rfl:=oj h
   exact X8 [.go true,.go true,.el (aI .i64 (v395.1.length:Int)),.go true,.go true,.el (aI .i64 (v397.1.length:Int)),.go true] (o:=by repeat' first|apply Ya|exact pcM|exact((Xd (Xd h403 h404) h405))|exact(Xt (Xd (Xd h403 h404) h405))|exact(Xb7 (Xd (Xd h403 h404) h405))|exact X08) (k:=wkT [] (X2.glue J))
  obtain rfl:=X2c rfl
  revert h
  refine bI fun v427 h428=>bI fun v429 h430=>bI fun X00t h438=>rnI [.pure _ (AV.tup [(AV.list true (v427.1.map Xc)),(AV.list true (v427.2.1.map X3)),(aI .i64 v427.2.2)]),.pure _ (AV.tup [(AV.list true (v429.1.map Xc)),(AV.list true (v429.2.1.map X3)),(aI .i64 v429.2.2)]),.stop 13] ?_
  intro h
  refine X2.join (s':=⟨fr [(2,(AV.ptr 0 0 0)),(5,(aB v1)),(9,(AV.list true (v427.1.map Xc))),(12,(AV.list true (v429.1.map Xc))),(89,(aB X00t))],hp ([(0,Ob [(Xq false a0)] 10)]),1⟩) ?_ (fun J=>X2.cut ?_)
  ·
   revert h
   refine brI (fun h439=>fun e=>oj e▸X8 [Bt] (k:=fi)) fun h439=>bI fun u440 h441=>?_
   have qh441:=X09 h441
   refine bI fun o457 h458=>rnI [Bf] ?_
   intro h
   refine wkT [] (X2.cut (X0m a0 v1 v427.1 v429.1 qh441 v427.1 0 (by simp) _ h458 ?_ ?_))
   ·
    intro eo457;subst eo457
    refine X2.glue ?_
    try dsimp only at h
    revert h
    exact fun e=>oj e▸X8 [] (k:=fi)
   intro eo457;subst eo457
   refine X2.glue ?_
   try dsimp only at h
   revert h
   exact fun e=>oj e▸X8 [] (k:=fi)
  clear h;revert h438
  refine brI (fun h435=>?_) fun h435=>?_
  ·
   intro h
   obtain rfl:=oj h
   exact X8 [.go false,.go false,.go false,.go false,.go false,.go false,.go false,.go false,.go false,.go false,.go false,.go false] (o:=by repeat' first|apply Ya|exact pcM|exact((Xf h435 rfl))|exact(Xt (Xf h435 rfl))|exact(X7h (Xf h435 rfl))|exact((Xf (Xf h435 rfl) rfl))|exact(Xt (Xf (Xf h435 rfl) rfl))|exact(X7h (Xf (Xf h435 rfl) rfl))|exact X08) (k:=wkT [] (X2.glue J))
  refine brI (fun h436=>?_) fun h436=>?_
  ·
   intro h
   obtain rfl:=oj h
   exact X8 [.go true,.go true,.go false,.go false,.go false,.go false,.go false,.go false,.go false,.go false,.go false,.go false] (o:=by repeat' first|apply Ya|exact pcM|exact((Xd h435 h436))|exact(Xt (Xd h435 h436))|exact(X7h (Xd h435 h436))|exact((Xf (Xd h435 h436) rfl))|exact(Xt (Xf (Xd h435 h436) rfl))|exact(X7h (Xf (Xd h435 h436) rfl))|exact X08) (k:=wkT [] (X2.glue J))
  refine rnI [.go true,.go true,.go true,.go true,.el (aI .i64 (v427.2.1.length:Int)),.go true,.go true,.el (aI .i64 (v429.2.1.length:Int)),.go true,.stop 999999] (o:=by repeat' first|apply Ya|exact pcM|exact((Xd h435 h436))|exact(Xt (Xd h435 h436))|exact(Xb7 (Xd h435 h436))|exact X08) ?_
  refine brI (fun h437=>?_) fun h437=>?_
  ·
   intro h
   obtain rfl:=oj h
   exact X8 [.go false,.go false,.go false,.go false,.go false] (o:=by repeat' first|apply Ya|exact pcM|exact((Xd (Xd h435 h436) h437))|exact(Xt (Xd (Xd h435 h436) h437))|exact(X7h (Xd (Xd h435 h436) h437))|exact X08) (k:=wkT [] (X2.glue J))
  intro h
  obtain rfl:=oj h
  exact X8 [.go true,.go true,.el (aI .i64 (v427.1.length:Int)),.go true,.go true,.el (aI .i64 (v429.1.length:Int)),.go true] (o:=by repeat' first|apply Ya|exact pcM|exact((Xd (Xd h435 h436) h437))|exact(Xt (Xd (Xd h435 h436) h437))|exact(Xb7 (Xd (Xd h435 h436) h437))|exact X08) (k:=wkT [] (X2.glue J))
 clear h;revert h49
 intro h
 refine X2.inline X9 fn32 rfl rfl rfl rfl rfl trivial trivial rfl rfl ?_
 revert h
 refine brI (fun q=>?_) fun q=>?_
 ·
  intro h
  have h28:a0.Arg=[]:=List.isEmpty_iff.1 q
  revert h
  refine brI (fun q=>?_) fun q=>?_
  ·
   intro h
   have h29:a0.Where=[]:=List.isEmpty_iff.1 q
   revert h
   refine brI (fun q=>?_) fun q=>?_
   ·
    intro h
    have h30:a0.Sources=[]:=List.isEmpty_iff.1 q
    obtain rfl:=oj h
    refine X0y [.ne false,.ne false,.ne false] ?_
    refine X2.back (by intro id h;cases h) rfl ?_
    refine X2.denilF 28 [false,true,false,false,true] [(aI .u8 a0.Agg),(AV.list true (a0.Arg.map X1)),AV.nils,(aB a0.Join),(AV.list true (a0.Where.map X1)),(aI .u8 a0.Window.Kind),(aI .i64 a0.Window.Size),(aI .i64 a0.Window.Every),(aB a0.ByKey),(aI .u8 a0.Late)] rfl (by first|rfl|(simp[h5,h28,h29,h30];done)|(simp[h5,h28,h29,h30];rfl)) ?_
    exact wkT [] ((J nbS))
   intro h
   have h30:¬ (a0.Sources=[]):=(fun e=>by rw[e] at q;cases q)
   revert h
   refine bI fun u31 h32=>?_
   intro h
   obtain rfl:=oj h
   refine X0y [.ne false,.ne false,.via (AV.list true (List.map (aI .i64) a0.Sources))] (o:=by repeat' first|apply Ya|exact pcM|(refine X0s h32 rfl ?_;first|(simp;done)|(simp;omega)|(simp[h5,h28,h29,h30];done)|(simp[h5,h28,h29,h30];omega))|(refine X01 h32 (by decide) ?_;first|(simp;done)|(simp;omega)|(simp[h5,h28,h29,h30];done)|(simp[h5,h28,h29,h30];omega))|exact X08) ?_
   refine X2.back (by intro id h;cases h) rfl ?_
   refine X2.denilF 28 [false,true,false,false,true] [(aI .u8 a0.Agg),(AV.list true (a0.Arg.map X1)),(AV.ref 8 0 (a0.Sources.length)),(aB a0.Join),(AV.list true (a0.Where.map X1)),(aI .u8 a0.Window.Kind),(aI .i64 a0.Window.Size),(aI .i64 a0.Window.Every),(aB a0.ByKey),(aI .u8 a0.Late)] rfl (by first|rfl|(simp[h5,h28,h29,h30];done)|(simp[h5,h28,h29,h30];rfl)) ?_
   exact wkT [(1,8)] ((J nbF))
  intro h
  have h29:¬ (a0.Where=[]):=(fun e=>by rw[e] at q;cases q)
  revert h
  refine bI fun u33 h34=>brI (fun q=>?_) fun q=>?_
  ·
   intro h
   have h35:a0.Sources=[]:=List.isEmpty_iff.1 q
   obtain rfl:=oj h
   refine X0y [.ne false,.via (AV.list true (a0.Where.map X1)),.ne false] (o:=by repeat' first|apply Ya|exact pcM|(refine X0s h34 rfl ?_;first|(simp;done)|(simp;omega)|(simp[h5,h28,h29,h35];done)|(simp[h5,h28,h29,h35];omega))|(refine X01 h34 (by decide) ?_;first|(simp;done)|(simp;omega)|(simp[h5,h28,h29,h35];done)|(simp[h5,h28,h29,h35];omega))|exact X08) ?_
   refine X2.back (by intro id h;cases h) rfl ?_
   refine X2.freeze 6 (a0.Where.map X1) [1,2,5,28] [(0,Ob [AV.agg [(aI .u8 a0.Agg),(Lf (a0.Arg.map X1)),(Lf (List.map (aI .i64) a0.Sources)),(aB a0.Join),(Lf (a0.Where.map X1)),(aI .u8 a0.Window.Kind),(aI .i64 a0.Window.Size),(aI .i64 a0.Window.Every),(aB a0.ByKey),(aI .u8 a0.Late)]] 10)] rfl (by first|rfl|(simp[h5,h28,h29,h35];done)|(simp[h5,h28,h29,h35];rfl)) (X22 X33 a0.Where) ?_ (by repeat' first|exact Xcj|refine Ya ?_ ?_) (by repeat' first|exact Xcj|refine Ya ?_ ?_)
   refine X2.denilF 28 [false,true] [(aI .u8 a0.Agg),(AV.list true (a0.Arg.map X1)),AV.nils,(aB a0.Join),(AV.list true (a0.Where.map X1)),(aI .u8 a0.Window.Kind),(aI .i64 a0.Window.Size),(aI .i64 a0.Window.Every),(aB a0.ByKey),(aI .u8 a0.Late)] rfl (by first|rfl|(simp[h5,h28,h29,h35];done)|(simp[h5,h28,h29,h35];rfl)) ?_
   exact wkT [] ((J nbS))
  intro h
  have h35:¬ (a0.Sources=[]):=(fun e=>by rw[e] at q;cases q)
  revert h
  refine bI fun u36 h37=>?_
  intro h
  obtain rfl:=oj h
  refine X0y [.ne false,.via (AV.list true (a0.Where.map X1)),.via (AV.list true (List.map (aI .i64) a0.Sources))] (o:=by repeat' first|apply Ya|exact pcM|(refine X0s h34 rfl ?_;first|(simp;done)|(simp;omega)|(simp[h5,h28,h29,h35];done)|(simp[h5,h28,h29,h35];omega))|(refine X01 h34 (by decide) ?_;first|(simp;done)|(simp;omega)|(simp[h5,h28,h29,h35];done)|(simp[h5,h28,h29,h35];omega))|(refine X0s h37 rfl ?_;first|(simp;done)|(simp;omega)|(simp[h5,h28,h29,h35];done)|(simp[h5,h28,h29,h35];omega))|(refine X01 h37 (by decide) ?_;first|(simp;done)|(simp;omega)|(simp[h5,h28,h29,h35];done)|(simp[h5,h28,h29,h35];omega))|exact X08) ?_
  refine X2.back (by intro id h;cases h) rfl ?_
  refine X2.freeze 6 (a0.Where.map X1) [1,2,5,28] [(0,Ob [AV.agg [(aI .u8 a0.Agg),(Lf (a0.Arg.map X1)),(Lf (List.map (aI .i64) a0.Sources)),(aB a0.Join),(Lf (a0.Where.map X1)),(aI .u8 a0.Window.Kind),(aI .i64 a0.Window.Size),(aI .i64 a0.Window.Every),(aB a0.ByKey),(aI .u8 a0.Late)]] 10),(8,Ob (List.map (aI .i64) a0.Sources) 1)] rfl (by first|rfl|(simp[h5,h28,h29,h35];done)|(simp[h5,h28,h29,h35];rfl)) (X22 X33 a0.Where) ?_ (by repeat' first|exact Xcj|refine Ya ?_ ?_) (by repeat' first|exact Xcj|refine Ya ?_ ?_)
  refine X2.denilF 28 [false,true] [(aI .u8 a0.Agg),(AV.list true (a0.Arg.map X1)),(AV.ref 8 0 (a0.Sources.length)),(aB a0.Join),(AV.list true (a0.Where.map X1)),(aI .u8 a0.Window.Kind),(aI .i64 a0.Window.Size),(aI .i64 a0.Window.Every),(aB a0.ByKey),(aI .u8 a0.Late)] rfl (by first|rfl|(simp[h5,h28,h29,h35];done)|(simp[h5,h28,h29,h35];rfl)) ?_
  exact wkT [(1,8)] ((J nbF))
 intro h
 have h28:¬ (a0.Arg=[]):=(fun e=>by rw[e] at q;cases q)
 revert h
 refine bI fun u38 h39=>brI (fun q=>?_) fun q=>?_
 ·
  intro h
  have h40:a0.Where=[]:=List.isEmpty_iff.1 q
  revert h
  refine brI (fun q=>?_) fun q=>?_
  ·
   intro h
   have h41:a0.Sources=[]:=List.isEmpty_iff.1 q
   obtain rfl:=oj h
   refine X0y [.via (AV.list true (a0.Arg.map X1)),.ne false,.ne false] (o:=by repeat' first|apply Ya|exact pcM|(refine X0s h39 rfl ?_;first|(simp;done)|(simp;omega)|(simp[h5,h28,h40,h41];done)|(simp[h5,h28,h40,h41];omega))|(refine X01 h39 (by decide) ?_;first|(simp;done)|(simp;omega)|(simp[h5,h28,h40,h41];done)|(simp[h5,h28,h40,h41];omega))|exact X08) ?_
   refine X2.back (by intro id h;cases h) rfl ?_
   refine X2.freeze 4 (a0.Arg.map X1) [1,2,5,28] [(0,Ob [AV.agg [(aI .u8 a0.Agg),(Lf (a0.Arg.map X1)),(Lf (List.map (aI .i64) a0.Sources)),(aB a0.Join),(Lf (a0.Where.map X1)),(aI .u8 a0.Window.Kind),(aI .i64 a0.Window.Size),(aI .i64 a0.Window.Every),(aB a0.ByKey),(aI .u8 a0.Late)]] 10)] rfl (by first|rfl|(simp[h5,h28,h40,h41];done)|(simp[h5,h28,h40,h41];rfl)) (X22 X33 a0.Arg) ?_ (by repeat' first|exact Xcj|refine Ya ?_ ?_) (by repeat' first|exact Xcj|refine Ya ?_ ?_)
   refine X2.denilF 28 [false,false,false,false,true] [(aI .u8 a0.Agg),(AV.list true (a0.Arg.map X1)),AV.nils,(aB a0.Join),(AV.list true (a0.Where.map X1)),(aI .u8 a0.Window.Kind),(aI .i64 a0.Window.Size),(aI .i64 a0.Window.Every),(aB a0.ByKey),(aI .u8 a0.Late)] rfl (by first|rfl|(simp[h5,h28,h40,h41];done)|(simp[h5,h28,h40,h41];rfl)) ?_
   exact wkT [] ((J nbS))
  intro h
  have h41:¬ (a0.Sources=[]):=(fun e=>by rw[e] at q;cases q)
  revert h
  refine bI fun u42 h43=>?_
  intro h
  obtain rfl:=oj h
  refine X0y [.via (AV.list true (a0.Arg.map X1)),.ne false,.via (AV.list true (List.map (aI .i64) a0.Sources))] (o:=by repeat' first|apply Ya|exact pcM|(refine X0s h39 rfl ?_;first|(simp;done)|(simp;omega)|(simp[h5,h28,h40,h41];done)|(simp[h5,h28,h40,h41];omega))|(refine X01 h39 (by decide) ?_;first|(simp;done)|(simp;omega)|(simp[h5,h28,h40,h41];done)|(simp[h5,h28,h40,h41];omega))|(refine X0s h43 rfl ?_;first|(simp;done)|(simp;omega)|(simp[h5,h28,h40,h41];done)|(simp[h5,h28,h40,h41];omega))|(refine X01 h43 (by decide) ?_;first|(simp;done)|(simp;omega)|(simp[h5,h28,h40,h41];done)|(simp[h5,h28,h40,h41];omega))|exact X08) ?_
  refine X2.back (by intro id h;cases h) rfl ?_
  refine X2.freeze 4 (a0.Arg.map X1) [1,2,5,28] [(0,Ob [AV.agg [(aI .u8 a0.Agg),(Lf (a0.Arg.map X1)),(Lf (List.map (aI .i64) a0.Sources)),(aB a0.Join),(Lf (a0.Where.map X1)),(aI .u8 a0.Window.Kind),(aI .i64 a0.Window.Size),(aI .i64 a0.Window.Every),(aB a0.ByKey),(aI .u8 a0.Late)]] 10),(8,Ob (List.map (aI .i64) a0.Sources) 1)] rfl (by first|rfl|(simp[h5,h28,h40,h41];done)|(simp[h5,h28,h40,h41];rfl)) (X22 X33 a0.Arg) ?_ (by repeat' first|exact Xcj|refine Ya ?_ ?_) (by repeat' first|exact Xcj|refine Ya ?_ ?_)
  refine X2.denilF 28 [false,false,false,false,true] [(aI .u8 a0.Agg),(AV.list true (a0.Arg.map X1)),(AV.ref 8 0 (a0.Sources.length)),(aB a0.Join),(AV.list true (a0.Where.map X1)),(aI .u8 a0.Window.Kind),(aI .i64 a0.Window.Size),(aI .i64 a0.Window.Every),(aB a0.ByKey),(aI .u8 a0.Late)] rfl (by first|rfl|(simp[h5,h28,h40,h41];done)|(simp[h5,h28,h40,h41];rfl)) ?_
  exact wkT [(1,8)] ((J nbF))
 intro h
 have h40:¬ (a0.Where=[]):=(fun e=>by rw[e] at q;cases q)
 revert h
 refine bI fun u44 h45=>brI (fun q=>?_) fun q=>?_
 ·
  intro h
  have h46:a0.Sources=[]:=List.isEmpty_iff.1 q
  obtain rfl:=oj h
  refine X0y [.via (AV.list true (a0.Arg.map X1)),.via (AV.list true (a0.Where.map X1)),.ne false] (o:=by repeat' first|apply Ya|exact pcM|(refine X0s h39 rfl ?_;first|(simp;done)|(simp;omega)|(simp[h5,h28,h40,h46];done)|(simp[h5,h28,h40,h46];omega))|(refine X01 h39 (by decide) ?_;first|(simp;done)|(simp;omega)|(simp[h5,h28,h40,h46];done)|(simp[h5,h28,h40,h46];omega))|(refine X0s h45 rfl ?_;first|(simp;done)|(simp;omega)|(simp[h5,h28,h40,h46];done)|(simp[h5,h28,h40,h46];omega))|(refine X01 h45 (by decide) ?_;first|(simp;done)|(simp;omega)|(simp[h5,h28,h40,h46];done)|(simp[h5,h28,h40,h46];omega))|exact X08) ?_
  refine X2.back (by intro id h;cases h) rfl ?_
  refine X2.freeze 4 (a0.Arg.map X1) [1,2,5,28] [(0,Ob [AV.agg [(aI .u8 a0.Agg),(Lf (a0.Arg.map X1)),(Lf (List.map (aI .i64) a0.Sources)),(aB a0.Join),(Lf (a0.Where.map X1)),(aI .u8 a0.Window.Kind),(aI .i64 a0.Window.Size),(aI .i64 a0.Window.Every),(aB a0.ByKey),(aI .u8 a0.Late)]] 10),(6,Ob (a0.Where.map X1) 5)] rfl (by first|rfl|(simp[h5,h28,h40,h46];done)|(simp[h5,h28,h40,h46];rfl)) (X22 X33 a0.Arg) ?_ (by repeat' first|exact Xcj|refine Ya ?_ ?_) (by repeat' first|exact Xcj|refine Ya ?_ ?_)
  refine X2.freeze 6 (a0.Where.map X1) [1,2,5,28] [(0,Ob [AV.agg [(aI .u8 a0.Agg),(Lf (a0.Arg.map X1)),(Lf (List.map (aI .i64) a0.Sources)),(aB a0.Join),(Lf (a0.Where.map X1)),(aI .u8 a0.Window.Kind),(aI .i64 a0.Window.Size),(aI .i64 a0.Window.Every),(aB a0.ByKey),(aI .u8 a0.Late)]] 10)] rfl (by first|rfl|(simp[h5,h28,h40,h46];done)|(simp[h5,h28,h40,h46];rfl)) (X22 X33 a0.Where) ?_ (by repeat' first|exact Xcj|refine Ya ?_ ?_) (by repeat' first|exact Xcj|refine Ya ?_ ?_)
  exact wkT [] ((J nbS))
 intro h
 have h46:¬ (a0.Sources=[]):=(fun e=>by rw[e] at q;cases q)
 revert h
 refine bI fun u47 h48=>?_
 intro h
 obtain rfl:=oj h
 refine X0y [.via (AV.list true (a0.Arg.map X1)),.via (AV.list true (a0.Where.map X1)),.via (AV.list true (List.map (aI .i64) a0.Sources))] (o:=by repeat' first|apply Ya|exact pcM|(refine X0s h39 rfl ?_;first|(simp;done)|(simp;omega)|(simp[h5,h28,h40,h46];done)|(simp[h5,h28,h40,h46];omega))|(refine X01 h39 (by decide) ?_;first|(simp;done)|(simp;omega)|(simp[h5,h28,h40,h46];done)|(simp[h5,h28,h40,h46];omega))|(refine X0s h45 rfl ?_;first|(simp;done)|(simp;omega)|(simp[h5,h28,h40,h46];done)|(simp[h5,h28,h40,h46];omega))|(refine X01 h45 (by decide) ?_;first|(simp;done)|(simp;omega)|(simp[h5,h28,h40,h46];done)|(simp[h5,h28,h40,h46];omega))|(refine X0s h48 rfl ?_;first|(simp;done)|(simp;omega)|(simp[h5,h28,h40,h46];done)|(simp[h5,h28,h40,h46];omega))|(refine X01 h48 (by decide) ?_;first|(simp;done)|(simp;omega)|(simp[h5,h28,h40,h46];done)|(simp[h5,h28,h40,h46];omega))|exact X08) ?_
 refine X2.back (by intro id h;cases h) rfl ?_
 refine X2.freeze 4 (a0.Arg.map X1) [1,2,5,28] [(0,Ob [AV.agg [(aI .u8 a0.Agg),(Lf (a0.Arg.map X1)),(Lf (List.map (aI .i64) a0.Sources)),(aB a0.Join),(Lf (a0.Where.map X1)),(aI .u8 a0.Window.Kind),(aI .i64 a0.Window.Size),(aI .i64 a0.Window.Every),(aB a0.ByKey),(aI .u8 a0.Late)]] 10),(6,Ob (a0.Where.map X1) 5),(8,Ob (List.map (aI .i64) a0.Sources) 1)] rfl (by first|rfl|(simp[h5,h28,h40,h46];done)|(simp[h5,h28,h40,h46];rfl)) (X22 X33 a0.Arg) ?_ (by repeat' first|exact Xcj|refine Ya ?_ ?_) (by repeat' first|exact Xcj|refine Ya ?_ ?_)
 refine X2.freeze 6 (a0.Where.map X1) [1,2,5,28] [(0,Ob [AV.agg [(aI .u8 a0.Agg),(Lf (a0.Arg.map X1)),(Lf (List.map (aI .i64) a0.Sources)),(aB a0.Join),(Lf (a0.Where.map X1)),(aI .u8 a0.Window.Kind),(aI .i64 a0.Window.Size),(aI .i64 a0.Window.Every),(aB a0.ByKey),(aI .u8 a0.Late)]] 10),(8,Ob (List.map (aI .i64) a0.Sources) 1)] rfl (by first|rfl|(simp[h5,h28,h40,h46];done)|(simp[h5,h28,h40,h46];rfl)) (X22 X33 a0.Where) ?_ (by repeat' first|exact Xcj|refine Ya ?_ ?_) (by repeat' first|exact Xcj|refine Ya ?_ ?_)
 exact wkT [(1,8)] ((J nbF))⟩
end Go.Av.Tryz