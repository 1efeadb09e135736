/- Printed by decomp.py: that the program computes the functions. -/
import Derived.Test.YtfdfgobnpnoomaaGreatDCert12Z
set_option linter.all false

namespace Go.Av.Tryz
open Go.Proofs Go.D
set_option maxRecDepth 10000
set_option maxHeartbeats 40000000
theorem X3b {Q:X07->St->Mu->Prop} {μ:Mu} (Xcg:(List (List Xb))) (Xj6:Int) (X3u:X03) (Xei:Bool) (X32:(List X2u)) (X2z:(List (List Xb))) (Xa3:Int) (X6n:Nb X32) (X3o:Nb X2z):∀ (n:Nat) (X6s:(List Xb)) (X8s:Int) (X40:Nb X6s) (o:X5f) (h:X1v Xcg Xj6 X3u Xei X32 X2z Xa3 n X6s X8s=some o)
  (C0:∀ (X0j:(List X2u)) (X08:(List (List Xb))) (Xi:(List Xb)) (X0g:Nb X0j) (X05:Nb X08) (Xr:Nb Xi),o=X5f.x0 X0j X08 Xi->X3 Tryz.prog 141 0 Q (.exit (.exit 4)) [] ⟨fr [(1,(Lf (List.map (X0e false X0) Xcg))),(2,(aI .i64 Xj6)),(3,(AV.ptr 0 0 0)),(7,(aB Xei)),(11,(slE X0g.1 1 (X0j.map Xg))),(13,(slE X05.1 2 (List.map (X0e true X0) X08))),(14,(aI .i64 Xa3)),(15,(slE Xr.1 3 (Xi.map X0)))],hp ([(0,Ob [(Xl false X3u)] 10)]++opE X0g.1 1 5 (X0j.map Xg)++opE X05.1 2 1 (List.map (X0e true X0) X08)++opE Xr.1 3 5 (Xi.map X0)),4⟩ μ),
  X3 Tryz.prog 141 0 Q (.loop (X4t 2 (Xu Tryz.f10))) [] ⟨fr [(1,(Lf (List.map (X0e false X0) Xcg))),(2,(aI .i64 Xj6)),(3,(AV.ptr 0 0 0)),(7,(aB Xei)),(11,(slE X6n.1 1 (X32.map Xg))),(13,(slE X3o.1 2 (List.map (X0e true X0) X2z))),(14,(aI .i64 Xa3)),(15,(slE X40.1 3 (X6s.map X0))),(16,(aI .i64 X8s))],hp ([(0,Ob [(Xl false X3u)] 10)]++opE X6n.1 1 5 (X32.map Xg)++opE X3o.1 2 1 (List.map (X0e true X0) X2z)++opE X40.1 3 5 (X6s.map X0)),4⟩ μ:=by
 intro n
 induction n with
 |zero=>intro X6s X8s X40 o h C0;cases h
 |succ n ih =>
  intro X6s X8s X40 o h C0
  rw[X1v] at h
  rcases X6n with ⟨_|_,Xc1⟩
  ·
   rcases X3o with ⟨_|_,X54⟩
   ·
    rcases X40 with ⟨_|_,X53⟩
    ·
     refine X3.round ?_
     revert h
     refine bI fun e3929 h3930=>?_
     try have qh3930:=Xn h3930
     refine brI (fun h3931=>?_) fun h3931=>fun e=>Xc [.el (X0e false X0 e3929),.el (aI .i64 (e3929.length:Int)),Bf] (k:=wkT [] (C0 _ _ _  nbF nbF nbF (oj e).symm))
     refine bI fun Xik h3939=>rnI [.el (X0e false X0 e3929),.el (aI .i64 (e3929.length:Int)),Bt,.stop 25] ?_
     intro h
     refine X3.join (s':=⟨fr [(1,(Lf (List.map (X0e false X0) Xcg))),(2,(aI .i64 Xj6)),(3,(AV.ptr 0 0 0)),(7,(aB Xei)),(11,(AV.ref 1 0 (X32.length))),(13,(AV.ref 2 0 (X2z.length))),(14,(aI .i64 Xa3)),(15,(AV.ref 3 0 (X6s.length))),(16,(aI .i64 X8s)),(109,(aB Xik))],hp ([(0,Ob [(Xl false X3u)] 10),(1,Ob (X32.map Xg) 5),(2,Ob (List.map (X0e true X0) X2z) 1),(3,Ob (X6s.map X0) 5)]),4⟩) ?_ (fun J=>X3.cut ?_)
     ·
      revert h
      refine bI fun Xf3 h3951=>rnI [] ?_
      intro h
      refine X3.joinF (fun(q:Nb Xf3)=>⟨fr [(1,(Lf (List.map (X0e false X0) Xcg))),(2,(aI .i64 Xj6)),(3,(AV.ptr 0 0 0)),(7,(aB Xei)),(11,(AV.ref 1 0 (X32.length))),(13,(AV.ref 2 0 (X2z.length))),(14,(aI .i64 Xa3)),(15,(slE q.1 3 (Xf3.map X0))),(16,(aI .i64 X8s))],hp ([(0,Ob [(Xl false X3u)] 10),(1,Ob (X32.map Xg) 5),(2,Ob (List.map (X0e true X0) X2z) 1)]++opE q.1 3 5 (Xf3.map X0)),4⟩) ?_ (fun J=>X3.cut ?_)
      ·
       rintro Xpc
       rcases Xpc with ⟨_|_,Xqx⟩
       ·
        exact Xc [.wrap] (k:=wkT [] (ih  _ _ nbF o h C0))
       obtain rfl:=Xqx rfl
       exact Xc [.wrap] (k:=wkT [] (ih  _ _ nbS o h C0))
      clear h;revert h3951
      refine brI (fun h3946=>?_) fun h3946=>?_
      ·
       refine bI fun e3947 h3948=>?_
       try have qh3948:=Xn h3948
       refine bI fun u3949 h3950=>?_
       intro h
       obtain rfl:=oj h
       exact Xc [Bt,.el (X0e false X0 e3929),.el (X0 e3947),.no] (o:=by repeat' first|apply Ya|exact pcM|(refine X8 h3950 rfl ?_;first|(simp;done)|(simp;omega)|(simp[h3931,h3946];done)|(simp[h3931,h3946];omega))|(refine X2 h3950 (by decide) ?_;first|(simp;done)|(simp;omega)|(simp[h3931,h3946];done)|(simp[h3931,h3946];omega))|exact Xw) (k:=wkT [(3,5)] (X3.glue (J nbF)))
      intro h
      obtain rfl:=oj h
      exact Xc [Bf] (k:=wkT [] (X3.glue (J nbF)))
     clear h;revert h3939
     refine bI fun e3936 h3937=>?_
     try have qh3937:=Xn h3937
     refine brI (fun h3938=>?_) fun h3938=>?_
     ·
      intro h
      obtain rfl:=oj h
      exact Xc [.el (X0e false X0 e3929),.el (X0 e3936),.go false,.go false,.go false,.go false,.go false,.go false,.go false,.go false,.go false,.go false,.go false] (k:=wkT [] (X3.glue J))
     intro h
     obtain rfl:=oj h
     exact Xc [.el (X0e false X0 e3929),.el (X0 e3936),.go true,.go true,.go true,.el (X0e false X0 e3929),.go true,.go true,.go true,.el (X0 e3936),.go true,.go true,.go true,.go true,.go true] (k:=wkT [] (X3.glue J))
    obtain rfl:=X53 rfl
    refine X3.round ?_
    revert h
    refine bI fun e3952 h3953=>?_
    try have qh3953:=Xn h3953
    refine brI (fun h3954=>?_) fun h3954=>fun e=>Xc [.el (X0e false X0 e3952),.el (aI .i64 (e3952.length:Int)),Bf] (k:=wkT [] (C0 _ _ _  nbF nbF nbS (oj e).symm))
    refine bI fun Xws h3962=>rnI [.el (X0e false X0 e3952),.el (aI .i64 (e3952.length:Int)),Bt,.stop 25] ?_
    intro h
    refine X3.join (s':=⟨fr [(1,(Lf (List.map (X0e false X0) Xcg))),(2,(aI .i64 Xj6)),(3,(AV.ptr 0 0 0)),(7,(aB Xei)),(11,(AV.ref 1 0 (X32.length))),(13,(AV.ref 2 0 (X2z.length))),(14,(aI .i64 Xa3)),(15,AV.nils),(16,(aI .i64 X8s)),(109,(aB Xws))],hp ([(0,Ob [(Xl false X3u)] 10),(1,Ob (X32.map Xg) 5),(2,Ob (List.map (X0e true X0) X2z) 1)]),4⟩) ?_ (fun J=>X3.cut ?_)
    ·
     revert h
     refine bI fun Xlm h3974=>rnI [] ?_
     intro h
     refine X3.joinF (fun(q:Nb Xlm)=>⟨fr [(1,(Lf (List.map (X0e false X0) Xcg))),(2,(aI .i64 Xj6)),(3,(AV.ptr 0 0 0)),(7,(aB Xei)),(11,(AV.ref 1 0 (X32.length))),(13,(AV.ref 2 0 (X2z.length))),(14,(aI .i64 Xa3)),(15,(slE q.1 3 (Xlm.map X0))),(16,(aI .i64 X8s))],hp ([(0,Ob [(Xl false X3u)] 10),(1,Ob (X32.map Xg) 5),(2,Ob (List.map (X0e true X0) X2z) 1)]++opE q.1 3 5 (Xlm.map X0)),4⟩) ?_ (fun J=>X3.cut ?_)
     ·
      rintro Xpb
      rcases Xpb with ⟨_|_,Xqw⟩
      ·
       exact Xc [.wrap] (k:=wkT [] (ih  _ _ nbF o h C0))
      obtain rfl:=Xqw rfl
      exact Xc [.wrap] (k:=wkT [] (ih  _ _ nbS o h C0))
     clear h;revert h3974
     refine brI (fun h3969=>?_) fun h3969=>?_
     ·
      refine bI fun e3970 h3971=>?_
      try have qh3971:=Xn h3971
      refine bI fun u3972 h3973=>?_
      intro h
      obtain rfl:=oj h
      exact Xc [Bt,.el (X0e false X0 e3952),.el (X0 e3970),.no] (o:=by repeat' first|apply Ya|exact pcM|(refine X8 h3973 rfl ?_;first|(simp;done)|(simp;omega)|(simp[h3954,h3969];done)|(simp[h3954,h3969];omega))|(refine X2 h3973 (by decide) ?_;first|(simp;done)|(simp;omega)|(simp[h3954,h3969];done)|(simp[h3954,h3969];omega))|exact Xw) (k:=wkT [(3,5)] (X3.glue (J nbF)))
     intro h
     obtain rfl:=oj h
     exact Xc [Bf] (k:=wkT [] (X3.glue (J nbS)))
    clear h;revert h3962
    refine bI fun e3959 h3960=>?_
    try have qh3960:=Xn h3960
    refine brI (fun h3961=>?_) fun h3961=>?_
    ·
     intro h
     obtain rfl:=oj h
     exact Xc [.el (X0e false X0 e3952),.el (X0 e3959),.go false,.go false,.go false,.go false,.go false,.go false,.go false,.go false,.go false,.go false,.go false] (k:=wkT [] (X3.glue J))
    intro h
    obtain rfl:=oj h
    exact Xc [.el (X0e false X0 e3952),.el (X0 e3959),.go true,.go true,.go true,.el (X0e false X0 e3952),.go true,.go true,.go true,.el (X0 e3959),.go true,.go true,.go true,.go true,.go true] (k:=wkT [] (X3.glue J))
   obtain rfl:=X54 rfl
   rcases X40 with ⟨_|_,X53⟩
   ·
    refine X3.round ?_
    revert h
    refine bI fun e3975 h3976=>?_
    try have qh3976:=Xn h3976
    refine brI (fun h3977=>?_) fun h3977=>fun e=>Xc [.el (X0e false X0 e3975),.el (aI .i64 (e3975.length:Int)),Bf] (k:=wkT [] (C0 _ _ _  nbF nbS nbF (oj e).symm))
    refine bI fun Xwr h3985=>rnI [.el (X0e false X0 e3975),.el (aI .i64 (e3975.length:Int)),Bt,.stop 25] ?_
    intro h
    refine X3.join (s':=⟨fr [(1,(Lf (List.map (X0e false X0) Xcg))),(2,(aI .i64 Xj6)),(3,(AV.ptr 0 0 0)),(7,(aB Xei)),(11,(AV.ref 1 0 (X32.length))),(13,AV.nils),(14,(aI .i64 Xa3)),(15,(AV.ref 3 0 (X6s.length))),(16,(aI .i64 X8s)),(109,(aB Xwr))],hp ([(0,Ob [(Xl false X3u)] 10),(1,Ob (X32.map Xg) 5),(3,Ob (X6s.map X0) 5)]),4⟩) ?_ (fun J=>X3.cut ?_)
    ·
     revert h
     refine bI fun Xll h3997=>rnI [] ?_
     intro h
     refine X3.joinF (fun(q:Nb Xll)=>⟨fr [(1,(Lf (List.map (X0e false X0) Xcg))),(2,(aI .i64 Xj6)),(3,(AV.ptr 0 0 0)),(7,(aB Xei)),(11,(AV.ref 1 0 (X32.length))),(13,AV.nils),(14,(aI .i64 Xa3)),(15,(slE q.1 3 (Xll.map X0))),(16,(aI .i64 X8s))],hp ([(0,Ob [(Xl false X3u)] 10),(1,Ob (X32.map Xg) 5)]++opE q.1 3 5 (Xll.map X0)),4⟩) ?_ (fun J=>X3.cut ?_)
     ·
      rintro Xpa
      rcases Xpa with ⟨_|_,Xqv⟩
      ·
       exact Xc [.wrap] (k:=wkT [] (ih  _ _ nbF o h C0))
      obtain rfl:=Xqv rfl
      exact Xc [.wrap] (k:=wkT [] (ih  _ _ nbS o h C0))
     clear h;revert h3997
     refine brI (fun h3992=>?_) fun h3992=>?_
     ·
      refine bI fun e3993 h3994=>?_
      try have qh3994:=Xn h3994
      refine bI fun u3995 h3996=>?_
      intro h
      obtain rfl:=oj h
      exact Xc [Bt,.el (X0e false X0 e3975),.el (X0 e3993),.no] (o:=by repeat' first|apply Ya|exact pcM|(refine X8 h3996 rfl ?_;first|(simp;done)|(simp;omega)|(simp[h3977,h3992];done)|(simp[h3977,h3992];omega))|(refine X2 h3996 (by decide) ?_;first|(simp;done)|(simp;omega)|(simp[h3977,h3992];done)|(simp[h3977,h3992];omega))|exact Xw) (k:=wkT [(3,5)] (X3.glue (J nbF)))
     intro h
     obtain rfl:=oj h
     exact Xc [Bf] (k:=wkT [] (X3.glue (J nbF)))
    clear h;revert h3985
    refine bI fun e3982 h3983=>?_
    try have qh3983:=Xn h3983
    refine brI (fun h3984=>?_) fun h3984=>?_
    ·
     intro h
     obtain rfl:=oj h
     exact Xc [.el (X0e false X0 e3975),.el (X0 e3982),.go false,.go false,.go false,.go false,.go false,.go false,.go false,.go false,.go false,.go false,.go false] (k:=wkT [] (X3.glue J))
    intro h
    obtain rfl:=oj h
    exact Xc [.el (X0e false X0 e3975),.el (X0 e3982),.go true,.go true,.go true,.el (X0e false X0 e3975),.go true,.go true,.go true,.el (X0 e3982),.go true,.go true,.go true,.go true,.go true] (k:=wkT [] (X3.glue J))
   obtain rfl:=X53 rfl
   refine X3.round ?_
   revert h
   refine bI fun e3998 h3999=>?_
   try have qh3999:=Xn h3999
   refine brI (fun h4000=>?_) fun h4000=>fun e=>Xc [.el (X0e false X0 e3998),.el (aI .i64 (e3998.length:Int)),Bf] (k:=wkT [] (C0 _ _ _  nbF nbS nbS (oj e).symm))
   refine bI fun Xwq h4008=>rnI [.el (X0e false X0 e3998),.el (aI .i64 (e3998.length:Int)),Bt,.stop 25] ?_
   intro h
   refine X3.join (s':=⟨fr [(1,(Lf (List.map (X0e false X0) Xcg))),(2,(aI .i64 Xj6)),(3,(AV.ptr 0 0 0)),(7,(aB Xei)),(11,(AV.ref 1 0 (X32.length))),(13,AV.nils),(14,(aI .i64 Xa3)),(15,AV.nils),(16,(aI .i64 X8s)),(109,(aB Xwq))],hp ([(0,Ob [(Xl false X3u)] 10),(1,Ob (X32.map Xg) 5)]),4⟩) ?_ (fun J=>X3.cut ?_)
   ·
    revert h
    refine bI fun Xlk h4020=>rnI [] ?_
    intro h
    refine X3.joinF (fun(q:Nb Xlk)=>⟨fr [(1,(Lf (List.map (X0e false X0) Xcg))),(2,(aI .i64 Xj6)),(3,(AV.ptr 0 0 0)),(7,(aB Xei)),(11,(AV.ref 1 0 (X32.length))),(13,AV.nils),(14,(aI .i64 Xa3)),(15,(slE q.1 3 (Xlk.map X0))),(16,(aI .i64 X8s))],hp ([(0,Ob [(Xl false X3u)] 10),(1,Ob (X32.map Xg) 5)]++opE q.1 3 5 (Xlk.map X0)),4⟩) ?_ (fun J=>X3.cut ?_)
    ·
     rintro Xp9
     rcases Xp9 with ⟨_|_,Xqu⟩
     ·
      exact Xc [.wrap] (k:=wkT [] (ih  _ _ nbF o h C0))
     obtain rfl:=Xqu rfl
     exact Xc [.wrap] (k:=wkT [] (ih  _ _ nbS o h C0))
    clear h;revert h4020
    refine brI (fun h4015=>?_) fun h4015=>?_
    ·
     refine bI fun e4016 h4017=>?_
     try have qh4017:=Xn h4017
     refine bI fun u4018 h4019=>?_
     intro h
     obtain rfl:=oj h
     exact Xc [Bt,.el (X0e false X0 e3998),.el (X0 e4016),.no] (o:=by repeat' first|apply Ya|exact pcM|(refine X8 h4019 rfl ?_;first|(simp;done)|(simp;omega)|(simp[h4000,h4015];done)|(simp[h4000,h4015];omega))|(refine X2 h4019 (by decide) ?_;first|(simp;done)|(simp;omega)|(simp[h4000,h4015];done)|(simp[h4000,h4015];omega))|exact Xw) (k:=wkT [(3,5)] (X3.glue (J nbF)))
    intro h
    obtain rfl:=oj h
    exact Xc [Bf] (k:=wkT [] (X3.glue (J nbS)))
   clear h;revert h4008
   refine bI fun e4005 h4006=>?_
   try have qh4006:=Xn h4006
   refine brI (fun h4007=>?_) fun h4007=>?_
   ·
    intro h
    obtain rfl:=oj h
    exact Xc [.el (X0e false X0 e3998),.el (X0 e4005),.go false,.go false,.go false,.go false,.go false,.go false,.go false,.go false,.go false,.go false,.go false] (k:=wkT [] (X3.glue J))
   intro h
   obtain rfl:=oj h
   exact Xc [.el (X0e false X0 e3998),.el (X0 e4005),.go true,.go true,.go true,.el (X0e false X0 e3998),.go true,.go true,.go true,.el (X0 e4005),.go true,.go true,.go true,.go true,.go true] (k:=wkT [] (X3.glue J))
  obtain rfl:=Xc1 rfl
  rcases X3o with ⟨_|_,X54⟩
  ·
   rcases X40 with ⟨_|_,X53⟩
   ·
    refine X3.round ?_
    revert h
    refine bI fun e4021 h4022=>?_
    try have qh4022:=Xn h4022
    refine brI (fun h4023=>?_) fun h4023=>fun e=>Xc [.el (X0e false X0 e4021),.el (aI .i64 (e4021.length:Int)),Bf] (k:=wkT [] (C0 _ _ _  nbS nbF nbF (oj e).symm))
    refine bI fun Xwp h4031=>rnI [.el (X0e false X0 e4021),.el (aI .i64 (e4021.length:Int)),Bt,.stop 25] ?_
    intro h
    refine X3.join (s':=⟨fr [(1,(Lf (List.map (X0e false X0) Xcg))),(2,(aI .i64 Xj6)),(3,(AV.ptr 0 0 0)),(7,(aB Xei)),(11,AV.nils),(13,(AV.ref 2 0 (X2z.length))),(14,(aI .i64 Xa3)),(15,(AV.ref 3 0 (X6s.length))),(16,(aI .i64 X8s)),(109,(aB Xwp))],hp ([(0,Ob [(Xl false X3u)] 10),(2,Ob (List.map (X0e true X0) X2z) 1),(3,Ob (X6s.map X0) 5)]),4⟩) ?_ (fun J=>X3.cut ?_)
    ·
     revert h
     refine bI fun Xlj h4043=>rnI [] ?_
     intro h
     refine X3.joinF (fun(q:Nb Xlj)=>⟨fr [(1,(Lf (List.map (X0e false X0) Xcg))),(2,(aI .i64 Xj6)),(3,(AV.ptr 0 0 0)),(7,(aB Xei)),(11,AV.nils),(13,(AV.ref 2 0 (X2z.length))),(14,(aI .i64 Xa3)),(15,(slE q.1 3 (Xlj.map X0))),(16,(aI .i64 X8s))],hp ([(0,Ob [(Xl false X3u)] 10),(2,Ob (List.map (X0e true X0) X2z) 1)]++opE q.1 3 5 (Xlj.map X0)),4⟩) ?_ (fun J=>X3.cut ?_)
     ·
      rintro Xp8
      rcases Xp8 with ⟨_|_,Xqt⟩
      ·
       exact Xc [.wrap] (k:=wkT [] (ih  _ _ nbF o h C0))
      obtain rfl:=Xqt rfl
      exact Xc [.wrap] (k:=wkT [] (ih  _ _ nbS o h C0))
     clear h;revert h4043
     refine brI (fun h4038=>?_) fun h4038=>?_
     ·
      refine bI fun e4039 h4040=>?_
      try have qh4040:=Xn h4040
      refine bI fun u4041 h4042=>?_
      intro h
      obtain rfl:=oj h
      exact Xc [Bt,.el (X0e false X0 e4021),.el (X0 e4039),.no] (o:=by repeat' first|apply Ya|exact pcM|(refine X8 h4042 rfl ?_;first|(simp;done)|(simp;omega)|(simp[h4023,h4038];done)|(simp[h4023,h4038];omega))|(refine X2 h4042 (by decide) ?_;first|(simp;done)|(simp;omega)|(simp[h4023,h4038];done)|(simp[h4023,h4038];omega))|exact Xw) (k:=wkT [(3,5)] (X3.glue (J nbF)))
     intro h
     obtain rfl:=oj h
     exact Xc [Bf] (k:=wkT [] (X3.glue (J nbF)))
    clear h;revert h4031
    refine bI fun e4028 h4029=>?_
    try have qh4029:=Xn h4029
    refine brI (fun h4030=>?_) fun h4030=>?_
    ·
     intro h
     obtain rfl:=oj h
     exact Xc [.el (X0e false X0 e4021),.el (X0 e4028),.go false,.go false,.go false,.go false,.go false,.go false,.go false,.go false,.go false,.go false,.go false] (k:=wkT [] (X3.glue J))
    intro h
    obtain rfl:=oj h
    exact Xc [.el (X0e false X0 e4021),.el (X0 e4028),.go true,.go true,.go true,.el (X0e false X0 e4021),.go true,.go true,.go true,.el (X0 e4028),.go true,.go true,.go true,.go true,.go true] (k:=wkT [] (X3.glue J))
   obtain rfl:=X53 rfl
   refine X3.round ?_
   revert h
   refine bI fun e4044 h4045=>?_
   try have qh4045:=Xn h4045
   refine brI (fun h4046=>?_) fun h4046=>fun e=>Xc [.el (X0e false X0 e4044),.el (aI .i64 (e4044.length:Int)),Bf] (k:=wkT [] (C0 _ _ _  nbS nbF nbS (oj e).symm))
   refine bI fun Xwo h4054=>rnI [.el (X0e false X0 e4044),.el (aI .i64 (e4044.length:Int)),Bt,.stop 25] ?_
   intro h
   refine X3.join (s':=⟨fr [(1,(Lf (List.map (X0e false X0) Xcg))),(2,(aI .i64 Xj6)),(3,(AV.ptr 0 0 0)),(7,(aB Xei)),(11,AV.nils),(13,(AV.ref 2 0 (X2z.length))),(14,(aI .i64 Xa3)),(15,AV.nils),(16,(aI .i64 X8s)),(109,(aB Xwo))],hp ([(0,Ob [(Xl false X3u)] 10),(2,Ob (List.map (X0e true X0) X2z) 1)]),4⟩) ?_ (fun J=>X3.cut ?_)
   ·
    revert h
    refine bI fun Xli h4066=>rnI [] ?_
    intro h
    refine X3.joinF (fun(q:Nb Xli)=>⟨fr [(1,(Lf (List.map (X0e false X0) Xcg))),(2,(aI .i64 Xj6)),(3,(AV.ptr 0 0 0)),(7,(aB Xei)),(11,AV.nils),(13,(AV.ref 2 0 (X2z.length))),(14,(aI .i64 Xa3)),(15,(slE q.1 3 (Xli.map X0))),(16,(aI .i64 X8s))],hp ([(0,Ob [(Xl false X3u)] 10),(2,Ob (List.map (X0e true X0) X2z) 1)]++opE q.1 3 5 (Xli.map X0)),4⟩) ?_ (fun J=>X3.cut ?_)
    ·
     rintro Xp7
     rcases Xp7 with ⟨_|_,Xqs⟩
     ·
      exact Xc [.wrap] (k:=wkT [] (ih  _ _ nbF o h C0))
     obtain rfl:=Xqs rfl
     exact Xc [.wrap] (k:=wkT [] (ih  _ _ nbS o h C0))
    clear h;revert h4066
    refine brI (fun h4061=>?_) fun h4061=>?_
    ·
     refine bI fun e4062 h4063=>?_
     try have qh4063:=Xn h4063
     refine bI fun u4064 h4065=>?_
     intro h
     obtain rfl:=oj h
     exact Xc [Bt,.el (X0e false X0 e4044),.el (X0 e4062),.no] (o:=by repeat' first|apply Ya|exact pcM|(refine X8 h4065 rfl ?_;first|(simp;done)|(simp;omega)|(simp[h4046,h4061];done)|(simp[h4046,h4061];omega))|(refine X2 h4065 (by decide) ?_;first|(simp;done)|(simp;omega)|(simp[h4046,h4061];done)|(simp[h4046,h4061];omega))|exact Xw) (k:=wkT [(3,5)] (X3.glue (J nbF)))
    intro h
    obtain rfl:=oj h
    exact Xc [Bf] (k:=wkT [] (X3.glue (J nbS)))
   clear h;revert h4054
   refine bI fun e4051 h4052=>?_
   try have qh4052:=Xn h4052
   refine brI (fun h4053=>?_) fun h4053=>?_
   ·
    intro h
    obtain rfl:=oj h
    exact Xc [.el (X0e false X0 e4044),.el (X0 e4051),.go false,.go false,.go false,.go false,.go false,.go false,.go false,.go false,.go false,.go false,.go false] (k:=wkT [] (X3.glue J))
   intro h
   obtain rfl:=oj h
   exact Xc [.el (X0e false X0 e4044),.el (X0 e4051),.go true,.go true,.go true,.el (X0e false X0 e4044),.go true,.go true,.go true,.el (X0 e4051),.go true,.go true,.go true,.go true,.go true] (k:=wkT [] (X3.glue J))
  obtain rfl:=X54 rfl
  rcases X40 with ⟨_|_,X53⟩
  ·
   refine X3.round ?_
   revert h
   refine bI fun e4067 h4068=>?_
   try have qh4068:=Xn h4068
   refine brI (fun h4069=>?_) fun h4069=>fun e=>Xc [.el (X0e false X0 e4067),.el (aI .i64 (e4067.length:Int)),Bf] (k:=wkT [] (C0 _ _ _  nbS nbS nbF (oj e).symm))
   refine bI fun Xwn h4077=>rnI [.el (X0e false X0 e4067),.el (aI .i64 (e4067.length:Int)),Bt,.stop 25] ?_
   intro h
   refine X3.join (s':=⟨fr [(1,(Lf (List.map (X0e false X0) Xcg))),(2,(aI .i64 Xj6)),(3,(AV.ptr 0 0 0)),(7,(aB Xei)),(11,AV.nils),(13,AV.nils),(14,(aI .i64 Xa3)),(15,(AV.ref 3 0 (X6s.length))),(16,(aI .i64 X8s)),(109,(aB Xwn))],hp ([(0,Ob [(Xl false X3u)] 10),(3,Ob (X6s.map X0) 5)]),4⟩) ?_ (fun J=>X3.cut ?_)
   ·
    revert h
    refine bI fun Xlh h4089=>rnI [] ?_
    intro h
    refine X3.joinF (fun(q:Nb Xlh)=>⟨fr [(1,(Lf (List.map (X0e false X0) Xcg))),(2,(aI .i64 Xj6)),(3,(AV.ptr 0 0 0)),(7,(aB Xei)),(11,AV.nils),(13,AV.nils),(14,(aI .i64 Xa3)),(15,(slE q.1 3 (Xlh.map X0))),(16,(aI .i64 X8s))],hp ([(0,Ob [(Xl false X3u)] 10)]++opE q.1 3 5 (Xlh.map X0)),4⟩) ?_ (fun J=>X3.cut ?_)
    ·
     rintro Xp6
     rcases Xp6 with ⟨_|_,Xqr⟩
     ·
      exact Xc [.wrap] (k:=wkT [] (ih  _ _ nbF o h C0))
     obtain rfl:=Xqr rfl
     exact Xc [.wrap] (k:=wkT [] (ih  _ _ nbS o h C0))
    clear h;revert h4089
    refine brI (fun h4084=>?_) fun h4084=>?_
    ·
     refine bI fun e4085 h4086=>?_
     try have qh4086:=Xn h4086
     refine bI fun u4087 h4088=>?_
     intro h
     obtain rfl:=oj h
     exact Xc [Bt,.el (X0e false X0 e4067),.el (X0 e4085),.no] (o:=by repeat' first|apply Ya|exact pcM|(refine X8 h4088 rfl ?_;first|(simp;done)|(simp;omega)|(simp[h4069,h4084];done)|(simp[h4069,h4084];omega))|(refine X2 h4088 (by decide) ?_;first|(simp;done)|(simp;omega)|(simp[h4069,h4084];done)|(simp[h4069,h4084];omega))|exact Xw) (k:=wkT [(3,5)] (X3.glue (J nbF)))
    intro h
    obtain rfl:=oj h
    exact Xc [Bf] (k:=wkT [] (X3.glue (J nbF)))
   clear h;revert h4077
   refine bI fun e4074 h4075=>?_
   try have qh4075:=Xn h4075
   refine brI (fun h4076=>?_) fun h4076=>?_
   ·
    intro h
    obtain rfl:=oj h
    exact Xc [.el (X0e false X0 e4067),.el (X0 e4074),.go false,.go false,.go false,.go false,.go false,.go false,.go false,.go false,.go false,.go false,.go false] (k:=wkT [] (X3.glue J))
   intro h
   obtain rfl:=oj h
   exact Xc [.el (X0e false X0 e4067),.el (X0 e4074),.go true,.go true,.go true,.el (X0e false X0 e4067),.go true,.go true,.go true,.el (X0 e4074),.go true,.go true,.go true,.go true,.go true] (k:=wkT [] (X3.glue J))
  obtain rfl:=X53 rfl
  refine X3.round ?_
  revert h
  refine bI fun e4090 h4091=>?_
  try have qh4091:=Xn h4091
  refine brI (fun h4092=>?_) fun h4092=>fun e=>Xc [.el (X0e false X0 e4090),.el (aI .i64 (e4090.length:Int)),Bf] (k:=wkT [] (C0 _ _ _  nbS nbS nbS (oj e).symm))
  refine bI fun Xwm h4100=>rnI [.el (X0e false X0 e4090),.el (aI .i64 (e4090.length:Int)),Bt,.stop 25] ?_
  intro h
  refine X3.join (s':=⟨fr [(1,(Lf (List.map (X0e false X0) Xcg))),(2,(aI .i64 Xj6)),(3,(AV.ptr 0 0 0)),(7,(aB Xei)),(11,AV.nils),(13,AV.nils),(14,(aI .i64 Xa3)),(15,AV.nils),(16,(aI .i64 X8s)),(109,(aB Xwm))],hp ([(0,Ob [(Xl false X3u)] 10)]),4⟩) ?_ (fun J=>X3.cut ?_)
  ·
   revert h
   refine bI fun Xlg h4112=>rnI [] ?_
   intro h
   refine X3.joinF (fun(q:Nb Xlg)=>⟨fr [(1,(Lf (List.map (X0e false X0) Xcg))),(2,(aI .i64 Xj6)),(3,(AV.ptr 0 0 0)),(7,(aB Xei)),(11,AV.nils),(13,AV.nils),(14,(aI .i64 Xa3)),(15,(slE q.1 3 (Xlg.map X0))),(16,(aI .i64 X8s))],hp ([(0,Ob [(Xl false X3u)] 10)]++opE q.1 3 5 (Xlg.map X0)),4⟩) ?_ (fun J=>X3.cut ?_)
   ·
    rintro Xp5
    rcases Xp5 with ⟨_|_,Xqq⟩
    ·
     exact Xc [.wrap] (k:=wkT [] (ih  _ _ nbF o h C0))
    obtain rfl:=Xqq rfl
    exact Xc [.wrap] (k:=wkT [] (ih  _ _ nbS o h C0))
   clear h;revert h4112
   refine brI (fun h4107=>?_) fun h4107=>?_
   ·
    refine bI fun e4108 h4109=>?_
    try have qh4109:=Xn h4109
    refine bI fun u4110 h4111=>?_
    intro h
    obtain rfl:=oj h
    exact Xc [Bt,.el (X0e false X0 e4090),.el (X0 e4108),.no] (o:=by repeat' first|apply Ya|exact pcM|(refine X8 h4111 rfl ?_;first|(simp;done)|(simp;omega)|(simp[h4092,h4107];done)|(simp[h4092,h4107];omega))|(refine X2 h4111 (by decide) ?_;first|(simp;done)|(simp;omega)|(simp[h4092,h4107];done)|(simp[h4092,h4107];omega))|exact Xw) (k:=wkT [(3,5)] (X3.glue (J nbF)))
   intro h
   obtain rfl:=oj h
   exact Xc [Bf] (k:=wkT [] (X3.glue (J nbS)))
  clear h;revert h4100
  refine bI fun e4097 h4098=>?_
  try have qh4098:=Xn h4098
  refine brI (fun h4099=>?_) fun h4099=>?_
  ·
   intro h
   obtain rfl:=oj h
   exact Xc [.el (X0e false X0 e4090),.el (X0 e4097),.go false,.go false,.go false,.go false,.go false,.go false,.go false,.go false,.go false,.go false,.go false] (k:=wkT [] (X3.glue J))
  intro h
  obtain rfl:=oj h
  exact Xc [.el (X0e false X0 e4090),.el (X0 e4097),.go true,.go true,.go true,.el (X0e false X0 e4090),.go true,.go true,.go true,.el (X0 e4097),.go true,.go true,.go true,.go true,.go true] (k:=wkT [] (X3.glue J))
end Go.Av.Tryz