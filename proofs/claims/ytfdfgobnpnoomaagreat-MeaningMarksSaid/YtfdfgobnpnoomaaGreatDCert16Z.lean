/- Printed by decomp.py: that the program computes the functions. -/
import Derived.Test.YtfdfgobnpnoomaaGreatDCert12Z
set_option linter.all false

namespace Go.Av.Tryz
open Go.Proofs Go.D
set_option maxRecDepth 10000
set_option maxHeartbeats 40000000
theorem X12 {Q:X07->St->Mu->Prop} {μ:Mu} (Xcg:(List (List Xb))) (X3u:X03) (Xsq:Bool) (Xj7:(List X2u)) (X32:(List (List Xb))) (X2z:(List (List Xb))) (Xej:Int) (X6n:Nb X32) (X3o:Nb X2z):∀ (n:Nat) (X6s:(List Xb)) (Xds:Int) (X40:Nb X6s) (o:X50) (h:X1h Xcg X3u Xsq Xj7 X32 X2z Xej n X6s Xds=some o)
  (C0:∀ (X0j:(List (List Xb))) (X08:(List (List Xb))) (Xi:(List Xb)) (X0g:Nb X0j) (X05:Nb X08) (Xr:Nb Xi),o=X50.x0 X0j X08 Xi->X3 Tryz.prog 188 0 Q (.exit (.exit 4)) [] ⟨fr [(1,(Lf (List.map (X0e false X0) Xcg))),(2,(AV.ptr 0 0 0)),(5,(aB Xsq)),(6,(AV.list true (Xj7.map Xg))),(15,(slE X0g.1 1 (List.map (X0e true X0) X0j))),(16,(slE X05.1 2 (List.map (X0e true X0) X08))),(17,(aI .i64 Xej)),(18,(slE Xr.1 3 (Xi.map X0)))],hp ([(0,Ob [(Xl false X3u)] 10)]++opE X0g.1 1 1 (List.map (X0e true X0) X0j)++opE X05.1 2 1 (List.map (X0e true X0) X08)++opE Xr.1 3 5 (Xi.map X0)),4⟩ μ),
  X3 Tryz.prog 188 0 Q (.loop (X4t 2 (Xu Tryz.f7))) [] ⟨fr [(1,(Lf (List.map (X0e false X0) Xcg))),(2,(AV.ptr 0 0 0)),(5,(aB Xsq)),(6,(AV.list true (Xj7.map Xg))),(15,(slE X6n.1 1 (List.map (X0e true X0) X32))),(16,(slE X3o.1 2 (List.map (X0e true X0) X2z))),(17,(aI .i64 Xej)),(18,(slE X40.1 3 (X6s.map X0))),(19,(aI .i64 Xds))],hp ([(0,Ob [(Xl false X3u)] 10)]++opE X6n.1 1 1 (List.map (X0e true X0) X32)++opE X3o.1 2 1 (List.map (X0e true X0) X2z)++opE X40.1 3 5 (X6s.map X0)),4⟩ μ:=by
 intro n
 induction n with
 |zero=>intro X6s Xds X40 o h C0;cases h
 |succ n ih =>
  intro X6s Xds X40 o h C0
  rw[X1h] at h
  rcases X6n with ⟨_|_,Xc1⟩
  ·
   rcases X3o with ⟨_|_,X54⟩
   ·
    rcases X40 with ⟨_|_,X53⟩
    ·
     refine X3.round ?_
     revert h
     refine bI fun e4218 h4219=>?_
     try have qh4219:=Xn h4219
     refine brI (fun h4220=>?_) fun h4220=>fun e=>Xc [.el (X0e false X0 e4218),.el (aI .i64 (e4218.length:Int)),Bf] (k:=wkT [] (C0 _ _ _  nbF nbF nbF (oj e).symm))
     refine bI fun e4221 h4222=>?_
     try have qh4222:=Xn h4222
     refine bI fun Xf2 h4230=>rnI [.el (X0e false X0 e4218),.el (aI .i64 (e4218.length:Int)),Bt,.el (X0e false X0 e4218),.el (X0 e4221)] ?_
     intro h
     refine X3.joinF (fun(q:Nb Xf2)=>⟨fr [(1,(Lf (List.map (X0e false X0) Xcg))),(2,(AV.ptr 0 0 0)),(5,(aB Xsq)),(6,(AV.list true (Xj7.map Xg))),(15,(AV.ref 1 0 (X32.length))),(16,(AV.ref 2 0 (X2z.length))),(17,(aI .i64 Xej)),(18,(slE q.1 3 (Xf2.map X0))),(19,(aI .i64 Xds))],hp ([(0,Ob [(Xl false X3u)] 10),(1,Ob (List.map (X0e true X0) X32) 1),(2,Ob (List.map (X0e true X0) X2z) 1)]++opE q.1 3 5 (Xf2.map X0)),4⟩) ?_ (fun J=>X3.cut ?_)
     ·
      rintro Xp4
      rcases Xp4 with ⟨_|_,Xqp⟩
      ·
       exact Xc [.wrap] (k:=wkT [] (ih  _ _ nbF o h C0))
      obtain rfl:=Xqp rfl
      exact Xc [.wrap] (k:=wkT [] (ih  _ _ nbS o h C0))
     clear h;revert h4230
     refine brI (fun h4227=>?_) fun h4227=>?_
     ·
      refine bI fun u4228 h4229=>?_
      intro h
      obtain rfl:=oj h
      exact Xc [Bt,.el (X0e false X0 e4218),.el (X0 e4221),.no] (o:=by repeat' first|apply Ya|exact pcM|(refine X8 h4229 rfl ?_;first|(simp;done)|(simp;omega)|(simp[h4220,h4227];done)|(simp[h4220,h4227];omega))|(refine X2 h4229 (by decide) ?_;first|(simp;done)|(simp;omega)|(simp[h4220,h4227];done)|(simp[h4220,h4227];omega))|exact Xw) (k:=wkT [(3,5)] (X3.glue (J nbF)))
     intro h
     obtain rfl:=oj h
     exact Xc [Bf] (k:=wkT [] (X3.glue (J nbF)))
    obtain rfl:=X53 rfl
    refine X3.round ?_
    revert h
    refine bI fun e4231 h4232=>?_
    try have qh4232:=Xn h4232
    refine brI (fun h4233=>?_) fun h4233=>fun e=>Xc [.el (X0e false X0 e4231),.el (aI .i64 (e4231.length:Int)),Bf] (k:=wkT [] (C0 _ _ _  nbF nbF nbS (oj e).symm))
    refine bI fun e4234 h4235=>?_
    try have qh4235:=Xn h4235
    refine bI fun Xlf h4243=>rnI [.el (X0e false X0 e4231),.el (aI .i64 (e4231.length:Int)),Bt,.el (X0e false X0 e4231),.el (X0 e4234)] ?_
    intro h
    refine X3.joinF (fun(q:Nb Xlf)=>⟨fr [(1,(Lf (List.map (X0e false X0) Xcg))),(2,(AV.ptr 0 0 0)),(5,(aB Xsq)),(6,(AV.list true (Xj7.map Xg))),(15,(AV.ref 1 0 (X32.length))),(16,(AV.ref 2 0 (X2z.length))),(17,(aI .i64 Xej)),(18,(slE q.1 3 (Xlf.map X0))),(19,(aI .i64 Xds))],hp ([(0,Ob [(Xl false X3u)] 10),(1,Ob (List.map (X0e true X0) X32) 1),(2,Ob (List.map (X0e true X0) X2z) 1)]++opE q.1 3 5 (Xlf.map X0)),4⟩) ?_ (fun J=>X3.cut ?_)
    ·
     rintro Xp3
     rcases Xp3 with ⟨_|_,Xqo⟩
     ·
      exact Xc [.wrap] (k:=wkT [] (ih  _ _ nbF o h C0))
     obtain rfl:=Xqo rfl
     exact Xc [.wrap] (k:=wkT [] (ih  _ _ nbS o h C0))
    clear h;revert h4243
    refine brI (fun h4240=>?_) fun h4240=>?_
    ·
     refine bI fun u4241 h4242=>?_
     intro h
     obtain rfl:=oj h
     exact Xc [Bt,.el (X0e false X0 e4231),.el (X0 e4234),.no] (o:=by repeat' first|apply Ya|exact pcM|(refine X8 h4242 rfl ?_;first|(simp;done)|(simp;omega)|(simp[h4233,h4240];done)|(simp[h4233,h4240];omega))|(refine X2 h4242 (by decide) ?_;first|(simp;done)|(simp;omega)|(simp[h4233,h4240];done)|(simp[h4233,h4240];omega))|exact Xw) (k:=wkT [(3,5)] (X3.glue (J nbF)))
    intro h
    obtain rfl:=oj h
    exact Xc [Bf] (k:=wkT [] (X3.glue (J nbS)))
   obtain rfl:=X54 rfl
   rcases X40 with ⟨_|_,X53⟩
   ·
    refine X3.round ?_
    revert h
    refine bI fun e4244 h4245=>?_
    try have qh4245:=Xn h4245
    refine brI (fun h4246=>?_) fun h4246=>fun e=>Xc [.el (X0e false X0 e4244),.el (aI .i64 (e4244.length:Int)),Bf] (k:=wkT [] (C0 _ _ _  nbF nbS nbF (oj e).symm))
    refine bI fun e4247 h4248=>?_
    try have qh4248:=Xn h4248
    refine bI fun Xle h4256=>rnI [.el (X0e false X0 e4244),.el (aI .i64 (e4244.length:Int)),Bt,.el (X0e false X0 e4244),.el (X0 e4247)] ?_
    intro h
    refine X3.joinF (fun(q:Nb Xle)=>⟨fr [(1,(Lf (List.map (X0e false X0) Xcg))),(2,(AV.ptr 0 0 0)),(5,(aB Xsq)),(6,(AV.list true (Xj7.map Xg))),(15,(AV.ref 1 0 (X32.length))),(16,AV.nils),(17,(aI .i64 Xej)),(18,(slE q.1 3 (Xle.map X0))),(19,(aI .i64 Xds))],hp ([(0,Ob [(Xl false X3u)] 10),(1,Ob (List.map (X0e true X0) X32) 1)]++opE q.1 3 5 (Xle.map X0)),4⟩) ?_ (fun J=>X3.cut ?_)
    ·
     rintro Xp2
     rcases Xp2 with ⟨_|_,Xqn⟩
     ·
      exact Xc [.wrap] (k:=wkT [] (ih  _ _ nbF o h C0))
     obtain rfl:=Xqn rfl
     exact Xc [.wrap] (k:=wkT [] (ih  _ _ nbS o h C0))
    clear h;revert h4256
    refine brI (fun h4253=>?_) fun h4253=>?_
    ·
     refine bI fun u4254 h4255=>?_
     intro h
     obtain rfl:=oj h
     exact Xc [Bt,.el (X0e false X0 e4244),.el (X0 e4247),.no] (o:=by repeat' first|apply Ya|exact pcM|(refine X8 h4255 rfl ?_;first|(simp;done)|(simp;omega)|(simp[h4246,h4253];done)|(simp[h4246,h4253];omega))|(refine X2 h4255 (by decide) ?_;first|(simp;done)|(simp;omega)|(simp[h4246,h4253];done)|(simp[h4246,h4253];omega))|exact Xw) (k:=wkT [(3,5)] (X3.glue (J nbF)))
    intro h
    obtain rfl:=oj h
    exact Xc [Bf] (k:=wkT [] (X3.glue (J nbF)))
   obtain rfl:=X53 rfl
   refine X3.round ?_
   revert h
   refine bI fun e4257 h4258=>?_
   try have qh4258:=Xn h4258
   refine brI (fun h4259=>?_) fun h4259=>fun e=>Xc [.el (X0e false X0 e4257),.el (aI .i64 (e4257.length:Int)),Bf] (k:=wkT [] (C0 _ _ _  nbF nbS nbS (oj e).symm))
   refine bI fun e4260 h4261=>?_
   try have qh4261:=Xn h4261
   refine bI fun Xld h4269=>rnI [.el (X0e false X0 e4257),.el (aI .i64 (e4257.length:Int)),Bt,.el (X0e false X0 e4257),.el (X0 e4260)] ?_
   intro h
   refine X3.joinF (fun(q:Nb Xld)=>⟨fr [(1,(Lf (List.map (X0e false X0) Xcg))),(2,(AV.ptr 0 0 0)),(5,(aB Xsq)),(6,(AV.list true (Xj7.map Xg))),(15,(AV.ref 1 0 (X32.length))),(16,AV.nils),(17,(aI .i64 Xej)),(18,(slE q.1 3 (Xld.map X0))),(19,(aI .i64 Xds))],hp ([(0,Ob [(Xl false X3u)] 10),(1,Ob (List.map (X0e true X0) X32) 1)]++opE q.1 3 5 (Xld.map X0)),4⟩) ?_ (fun J=>X3.cut ?_)
   ·
    rintro Xp1
    rcases Xp1 with ⟨_|_,Xqm⟩
    ·
     exact Xc [.wrap] (k:=wkT [] (ih  _ _ nbF o h C0))
    obtain rfl:=Xqm rfl
    exact Xc [.wrap] (k:=wkT [] (ih  _ _ nbS o h C0))
   clear h;revert h4269
   refine brI (fun h4266=>?_) fun h4266=>?_
   ·
    refine bI fun u4267 h4268=>?_
    intro h
    obtain rfl:=oj h
    exact Xc [Bt,.el (X0e false X0 e4257),.el (X0 e4260),.no] (o:=by repeat' first|apply Ya|exact pcM|(refine X8 h4268 rfl ?_;first|(simp;done)|(simp;omega)|(simp[h4259,h4266];done)|(simp[h4259,h4266];omega))|(refine X2 h4268 (by decide) ?_;first|(simp;done)|(simp;omega)|(simp[h4259,h4266];done)|(simp[h4259,h4266];omega))|exact Xw) (k:=wkT [(3,5)] (X3.glue (J nbF)))
   intro h
   obtain rfl:=oj h
   exact Xc [Bf] (k:=wkT [] (X3.glue (J nbS)))
  obtain rfl:=Xc1 rfl
  rcases X3o with ⟨_|_,X54⟩
  ·
   rcases X40 with ⟨_|_,X53⟩
   ·
    refine X3.round ?_
    revert h
    refine bI fun e4270 h4271=>?_
    try have qh4271:=Xn h4271
    refine brI (fun h4272=>?_) fun h4272=>fun e=>Xc [.el (X0e false X0 e4270),.el (aI .i64 (e4270.length:Int)),Bf] (k:=wkT [] (C0 _ _ _  nbS nbF nbF (oj e).symm))
    refine bI fun e4273 h4274=>?_
    try have qh4274:=Xn h4274
    refine bI fun Xlc h4282=>rnI [.el (X0e false X0 e4270),.el (aI .i64 (e4270.length:Int)),Bt,.el (X0e false X0 e4270),.el (X0 e4273)] ?_
    intro h
    refine X3.joinF (fun(q:Nb Xlc)=>⟨fr [(1,(Lf (List.map (X0e false X0) Xcg))),(2,(AV.ptr 0 0 0)),(5,(aB Xsq)),(6,(AV.list true (Xj7.map Xg))),(15,AV.nils),(16,(AV.ref 2 0 (X2z.length))),(17,(aI .i64 Xej)),(18,(slE q.1 3 (Xlc.map X0))),(19,(aI .i64 Xds))],hp ([(0,Ob [(Xl false X3u)] 10),(2,Ob (List.map (X0e true X0) X2z) 1)]++opE q.1 3 5 (Xlc.map X0)),4⟩) ?_ (fun J=>X3.cut ?_)
    ·
     rintro Xp0
     rcases Xp0 with ⟨_|_,Xql⟩
     ·
      exact Xc [.wrap] (k:=wkT [] (ih  _ _ nbF o h C0))
     obtain rfl:=Xql rfl
     exact Xc [.wrap] (k:=wkT [] (ih  _ _ nbS o h C0))
    clear h;revert h4282
    refine brI (fun h4279=>?_) fun h4279=>?_
    ·
     refine bI fun u4280 h4281=>?_
     intro h
     obtain rfl:=oj h
     exact Xc [Bt,.el (X0e false X0 e4270),.el (X0 e4273),.no] (o:=by repeat' first|apply Ya|exact pcM|(refine X8 h4281 rfl ?_;first|(simp;done)|(simp;omega)|(simp[h4272,h4279];done)|(simp[h4272,h4279];omega))|(refine X2 h4281 (by decide) ?_;first|(simp;done)|(simp;omega)|(simp[h4272,h4279];done)|(simp[h4272,h4279];omega))|exact Xw) (k:=wkT [(3,5)] (X3.glue (J nbF)))
    intro h
    obtain rfl:=oj h
    exact Xc [Bf] (k:=wkT [] (X3.glue (J nbF)))
   obtain rfl:=X53 rfl
   refine X3.round ?_
   revert h
   refine bI fun e4283 h4284=>?_
   try have qh4284:=Xn h4284
   refine brI (fun h4285=>?_) fun h4285=>fun e=>Xc [.el (X0e false X0 e4283),.el (aI .i64 (e4283.length:Int)),Bf] (k:=wkT [] (C0 _ _ _  nbS nbF nbS (oj e).symm))
   refine bI fun e4286 h4287=>?_
   try have qh4287:=Xn h4287
   refine bI fun Xlb h4295=>rnI [.el (X0e false X0 e4283),.el (aI .i64 (e4283.length:Int)),Bt,.el (X0e false X0 e4283),.el (X0 e4286)] ?_
   intro h
   refine X3.joinF (fun(q:Nb Xlb)=>⟨fr [(1,(Lf (List.map (X0e false X0) Xcg))),(2,(AV.ptr 0 0 0)),(5,(aB Xsq)),(6,(AV.list true (Xj7.map Xg))),(15,AV.nils),(16,(AV.ref 2 0 (X2z.length))),(17,(aI .i64 Xej)),(18,(slE q.1 3 (Xlb.map X0))),(19,(aI .i64 Xds))],hp ([(0,Ob [(Xl false X3u)] 10),(2,Ob (List.map (X0e true X0) X2z) 1)]++opE q.1 3 5 (Xlb.map X0)),4⟩) ?_ (fun J=>X3.cut ?_)
   ·
    rintro Xoz
    rcases Xoz with ⟨_|_,Xqk⟩
    ·
     exact Xc [.wrap] (k:=wkT [] (ih  _ _ nbF o h C0))
    obtain rfl:=Xqk rfl
    exact Xc [.wrap] (k:=wkT [] (ih  _ _ nbS o h C0))
   clear h;revert h4295
   refine brI (fun h4292=>?_) fun h4292=>?_
   ·
    refine bI fun u4293 h4294=>?_
    intro h
    obtain rfl:=oj h
    exact Xc [Bt,.el (X0e false X0 e4283),.el (X0 e4286),.no] (o:=by repeat' first|apply Ya|exact pcM|(refine X8 h4294 rfl ?_;first|(simp;done)|(simp;omega)|(simp[h4285,h4292];done)|(simp[h4285,h4292];omega))|(refine X2 h4294 (by decide) ?_;first|(simp;done)|(simp;omega)|(simp[h4285,h4292];done)|(simp[h4285,h4292];omega))|exact Xw) (k:=wkT [(3,5)] (X3.glue (J nbF)))
   intro h
   obtain rfl:=oj h
   exact Xc [Bf] (k:=wkT [] (X3.glue (J nbS)))
  obtain rfl:=X54 rfl
  rcases X40 with ⟨_|_,X53⟩
  ·
   refine X3.round ?_
   revert h
   refine bI fun e4296 h4297=>?_
   try have qh4297:=Xn h4297
   refine brI (fun h4298=>?_) fun h4298=>fun e=>Xc [.el (X0e false X0 e4296),.el (aI .i64 (e4296.length:Int)),Bf] (k:=wkT [] (C0 _ _ _  nbS nbS nbF (oj e).symm))
   refine bI fun e4299 h4300=>?_
   try have qh4300:=Xn h4300
   refine bI fun Xla h4308=>rnI [.el (X0e false X0 e4296),.el (aI .i64 (e4296.length:Int)),Bt,.el (X0e false X0 e4296),.el (X0 e4299)] ?_
   intro h
   refine X3.joinF (fun(q:Nb Xla)=>⟨fr [(1,(Lf (List.map (X0e false X0) Xcg))),(2,(AV.ptr 0 0 0)),(5,(aB Xsq)),(6,(AV.list true (Xj7.map Xg))),(15,AV.nils),(16,AV.nils),(17,(aI .i64 Xej)),(18,(slE q.1 3 (Xla.map X0))),(19,(aI .i64 Xds))],hp ([(0,Ob [(Xl false X3u)] 10)]++opE q.1 3 5 (Xla.map X0)),4⟩) ?_ (fun J=>X3.cut ?_)
   ·
    rintro Xoy
    rcases Xoy with ⟨_|_,Xqj⟩
    ·
     exact Xc [.wrap] (k:=wkT [] (ih  _ _ nbF o h C0))
    obtain rfl:=Xqj rfl
    exact Xc [.wrap] (k:=wkT [] (ih  _ _ nbS o h C0))
   clear h;revert h4308
   refine brI (fun h4305=>?_) fun h4305=>?_
   ·
    refine bI fun u4306 h4307=>?_
    intro h
    obtain rfl:=oj h
    exact Xc [Bt,.el (X0e false X0 e4296),.el (X0 e4299),.no] (o:=by repeat' first|apply Ya|exact pcM|(refine X8 h4307 rfl ?_;first|(simp;done)|(simp;omega)|(simp[h4298,h4305];done)|(simp[h4298,h4305];omega))|(refine X2 h4307 (by decide) ?_;first|(simp;done)|(simp;omega)|(simp[h4298,h4305];done)|(simp[h4298,h4305];omega))|exact Xw) (k:=wkT [(3,5)] (X3.glue (J nbF)))
   intro h
   obtain rfl:=oj h
   exact Xc [Bf] (k:=wkT [] (X3.glue (J nbF)))
  obtain rfl:=X53 rfl
  refine X3.round ?_
  revert h
  refine bI fun e4309 h4310=>?_
  try have qh4310:=Xn h4310
  refine brI (fun h4311=>?_) fun h4311=>fun e=>Xc [.el (X0e false X0 e4309),.el (aI .i64 (e4309.length:Int)),Bf] (k:=wkT [] (C0 _ _ _  nbS nbS nbS (oj e).symm))
  refine bI fun e4312 h4313=>?_
  try have qh4313:=Xn h4313
  refine bI fun Xl9 h4321=>rnI [.el (X0e false X0 e4309),.el (aI .i64 (e4309.length:Int)),Bt,.el (X0e false X0 e4309),.el (X0 e4312)] ?_
  intro h
  refine X3.joinF (fun(q:Nb Xl9)=>⟨fr [(1,(Lf (List.map (X0e false X0) Xcg))),(2,(AV.ptr 0 0 0)),(5,(aB Xsq)),(6,(AV.list true (Xj7.map Xg))),(15,AV.nils),(16,AV.nils),(17,(aI .i64 Xej)),(18,(slE q.1 3 (Xl9.map X0))),(19,(aI .i64 Xds))],hp ([(0,Ob [(Xl false X3u)] 10)]++opE q.1 3 5 (Xl9.map X0)),4⟩) ?_ (fun J=>X3.cut ?_)
  ·
   rintro Xox
   rcases Xox with ⟨_|_,Xqi⟩
   ·
    exact Xc [.wrap] (k:=wkT [] (ih  _ _ nbF o h C0))
   obtain rfl:=Xqi rfl
   exact Xc [.wrap] (k:=wkT [] (ih  _ _ nbS o h C0))
  clear h;revert h4321
  refine brI (fun h4318=>?_) fun h4318=>?_
  ·
   refine bI fun u4319 h4320=>?_
   intro h
   obtain rfl:=oj h
   exact Xc [Bt,.el (X0e false X0 e4309),.el (X0 e4312),.no] (o:=by repeat' first|apply Ya|exact pcM|(refine X8 h4320 rfl ?_;first|(simp;done)|(simp;omega)|(simp[h4311,h4318];done)|(simp[h4311,h4318];omega))|(refine X2 h4320 (by decide) ?_;first|(simp;done)|(simp;omega)|(simp[h4311,h4318];done)|(simp[h4311,h4318];omega))|exact Xw) (k:=wkT [(3,5)] (X3.glue (J nbF)))
  intro h
  obtain rfl:=oj h
  exact Xc [Bf] (k:=wkT [] (X3.glue (J nbS)))
end Go.Av.Tryz