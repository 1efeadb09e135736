/- Printed by decomp.py: that the program computes the functions. -/
import Derived.Test.YtkjlgmgfhgamlaaGreatDCert9Z
import Derived.Test.YtkjlgmgfhgamlaaGreatDCert11Z
set_option linter.all false

namespace Go.Av.Tryz
open Go.Proofs Go.D
set_option maxRecDepth 10000
set_option maxHeartbeats 40000000
theorem Xbt {Q:Xz->St->Mu->Prop} {μ:Mu} (X75:(List Int)) (X2p:(List Xl)) (Xo:X06) (Xht:Bool) (hl:X2p.length<=140737488355328):∀ (xs:List Xl) (k:Nat) (hx:X2p.drop k=xs) (Xn:(List Xh)) (X2t:(List Xh)) (X02:(List Int)) (X0k:(List Int)) (Xt:Nb Xn) (X9i:Nb X2t) (X0c:Nb X02) (X28:Nb X0k) (o:X46) (h:X1k X75 X2p Xo Xht xs k Xn X2t X02 X0k=some o)
  (C0:∀ (X0b:(List Xh)) (X2a:(List Xh)) (X2d:(List Int)) (X4u:(List Int)) (X0t:Nb X0b) (X31:Nb X2a) (X25:Nb X2d) (X49:Nb X4u),o=X46.x0 X0b X2a X2d X4u->X3 Tryz.prog 164 0 Q (.exit (.exit 0)) [] ⟨fr [(3,(AV.ptr 0 0 0)),(7,(aB Xht)),(8,(slE X0t.1 1 (X0b.map Xe))),(9,(slE X31.1 2 (X2a.map Xe))),(10,(slE X25.1 3 (List.map (aI .i64) X2d))),(11,(slE X49.1 4 (List.map (aI .i64) X4u)))],hp ([(0,Ob [(Xs false Xo)] 10)]++opE X0t.1 1 10 (X0b.map Xe)++opE X31.1 2 10 (X2a.map Xe)++opE X25.1 3 1 (List.map (aI .i64) X2d)++opE X49.1 4 1 (List.map (aI .i64) X4u)),5⟩ μ)
  (C1:o=X46.x1->X3 Tryz.prog 164 0 Q (.exit .ret) [] ⟨fr [(6,(aB Xht))],hp ([]),0⟩ μ),
  X3 Tryz.prog 164 0 Q (.loop (X5p 0 (Xj Tryz.f4))) [] ⟨fr [(1,(Lf (List.map (aI .i64) X75))),(2,(Lf (X2p.map X4))),(3,(AV.ptr 0 0 0)),(7,(aB Xht)),(8,(slE Xt.1 1 (Xn.map Xe))),(9,(slE X9i.1 2 (X2t.map Xe))),(10,(slE X0c.1 3 (List.map (aI .i64) X02))),(11,(slE X28.1 4 (List.map (aI .i64) X0k))),(12,(aI .i64 (k:Int)))],hp ([(0,Ob [(Xs false Xo)] 10)]++opE Xt.1 1 10 (Xn.map Xe)++opE X9i.1 2 10 (X2t.map Xe)++opE X0c.1 3 1 (List.map (aI .i64) X02)++opE X28.1 4 1 (List.map (aI .i64) X0k)),5⟩ μ:=by
 intro xs
 induction xs with
 |nil =>
  intro k hx Xn X2t X02 X0k Xt X9i X0c X28 o h C0 C1
  have hk:=drop_nil hx
  have hc:decide ((k:Int)<(X2p.length:Int))=false:=Yf (by omega)
  rw[X1k] at h
  rcases Xt with ⟨_|_,X0g⟩
  ·
   rcases X9i with ⟨_|_,Xb0⟩
   ·
    rcases X0c with ⟨_|_,X1d⟩
    ·
     rcases X28 with ⟨_|_,X0w⟩
     ·
      refine X3.round ?_
      revert h
      exact fun e=>Xa [.el (aI .i64 (X2p.length:Int)),Bf] (k:=wkT [] (C0 _ _ _ _  nbF nbF nbF nbF (oj e).symm))
     obtain rfl:=X0w rfl
     refine X3.round ?_
     revert h
     exact fun e=>Xa [.el (aI .i64 (X2p.length:Int)),Bf] (k:=wkT [] (C0 _ _ _ _  nbF nbF nbF nbS (oj e).symm))
    obtain rfl:=X1d rfl
    rcases X28 with ⟨_|_,X0w⟩
    ·
     refine X3.round ?_
     revert h
     exact fun e=>Xa [.el (aI .i64 (X2p.length:Int)),Bf] (k:=wkT [] (C0 _ _ _ _  nbF nbF nbS nbF (oj e).symm))
    obtain rfl:=X0w rfl
    refine X3.round ?_
    revert h
    exact fun e=>Xa [.el (aI .i64 (X2p.length:Int)),Bf] (k:=wkT [] (C0 _ _ _ _  nbF nbF nbS nbS (oj e).symm))
   obtain rfl:=Xb0 rfl
   rcases X0c with ⟨_|_,X1d⟩
   ·
    rcases X28 with ⟨_|_,X0w⟩
    ·
     refine X3.round ?_
     revert h
     exact fun e=>Xa [.el (aI .i64 (X2p.length:Int)),Bf] (k:=wkT [] (C0 _ _ _ _  nbF nbS nbF nbF (oj e).symm))
    obtain rfl:=X0w rfl
    refine X3.round ?_
    revert h
    exact fun e=>Xa [.el (aI .i64 (X2p.length:Int)),Bf] (k:=wkT [] (C0 _ _ _ _  nbF nbS nbF nbS (oj e).symm))
   obtain rfl:=X1d rfl
   rcases X28 with ⟨_|_,X0w⟩
   ·
    refine X3.round ?_
    revert h
    exact fun e=>Xa [.el (aI .i64 (X2p.length:Int)),Bf] (k:=wkT [] (C0 _ _ _ _  nbF nbS nbS nbF (oj e).symm))
   obtain rfl:=X0w rfl
   refine X3.round ?_
   revert h
   exact fun e=>Xa [.el (aI .i64 (X2p.length:Int)),Bf] (k:=wkT [] (C0 _ _ _ _  nbF nbS nbS nbS (oj e).symm))
  ·
   obtain rfl:=X0g rfl
   rcases X9i with ⟨_|_,Xb0⟩
   ·
    rcases X0c with ⟨_|_,X1d⟩
    ·
     rcases X28 with ⟨_|_,X0w⟩
     ·
      refine X3.round ?_
      revert h
      exact fun e=>Xa [.el (aI .i64 (X2p.length:Int)),Bf] (k:=wkT [] (C0 _ _ _ _  nbS nbF nbF nbF (oj e).symm))
     ·
      obtain rfl:=X0w rfl
      refine X3.round ?_
      revert h
      exact fun e=>Xa [.el (aI .i64 (X2p.length:Int)),Bf] (k:=wkT [] (C0 _ _ _ _  nbS nbF nbF nbS (oj e).symm))
    ·
     obtain rfl:=X1d rfl
     rcases X28 with ⟨_|_,X0w⟩
     ·
      refine X3.round ?_
      revert h
      exact fun e=>Xa [.el (aI .i64 (X2p.length:Int)),Bf] (k:=wkT [] (C0 _ _ _ _  nbS nbF nbS nbF (oj e).symm))
     ·
      obtain rfl:=X0w rfl
      refine X3.round ?_
      revert h
      exact fun e=>Xa [.el (aI .i64 (X2p.length:Int)),Bf] (k:=wkT [] (C0 _ _ _ _  nbS nbF nbS nbS (oj e).symm))
   ·
    obtain rfl:=Xb0 rfl
    rcases X0c with ⟨_|_,X1d⟩
    ·
     rcases X28 with ⟨_|_,X0w⟩
     ·
      refine X3.round ?_
      revert h
      exact fun e=>Xa [.el (aI .i64 (X2p.length:Int)),Bf] (k:=wkT [] (C0 _ _ _ _  nbS nbS nbF nbF (oj e).symm))
     ·
      obtain rfl:=X0w rfl
      refine X3.round ?_
      revert h
      exact fun e=>Xa [.el (aI .i64 (X2p.length:Int)),Bf] (k:=wkT [] (C0 _ _ _ _  nbS nbS nbF nbS (oj e).symm))
    ·
     obtain rfl:=X1d rfl
     rcases X28 with ⟨_|_,X0w⟩
     ·
      refine X3.round ?_
      revert h
      exact fun e=>Xa [.el (aI .i64 (X2p.length:Int)),Bf] (k:=wkT [] (C0 _ _ _ _  nbS nbS nbS nbF (oj e).symm))
     ·
      obtain rfl:=X0w rfl
      refine X3.round ?_
      revert h
      exact fun e=>Xa [.el (aI .i64 (X2p.length:Int)),Bf] (k:=wkT [] (C0 _ _ _ _  nbS nbS nbS nbS (oj e).symm))
 |cons x xs ih =>
  intro k hx Xn X2t X02 X0k Xt X9i X0c X28 o h C0 C1
  obtain⟨hk,hg,hx1⟩:=X1a hx
  have hc:decide ((k:Int)<(X2p.length:Int))=true:=Yt (by omega)
  rw[X1k] at h
  rcases Xt with ⟨_|_,X0g⟩
  ·
   rcases X9i with ⟨_|_,Xb0⟩
   ·
    rcases X0c with ⟨_|_,X1d⟩
    ·
     rcases X28 with ⟨_|_,X0w⟩
     ·
      refine X3.round ?_
      revert h
      refine bI fun Xn2 h968=>rnI [.el (aI .i64 (X2p.length:Int)),Bt,.el (aI .i64 (X2p.length:Int)),.wrap,.wrap,.stop 10] ?_
      intro h
      refine X3.join (s':=⟨fr [(1,(Lf (List.map (aI .i64) X75))),(2,(Lf (X2p.map X4))),(3,(AV.ptr 0 0 0)),(7,(aB Xht)),(8,(AV.ref 1 0 (Xn.length))),(9,(AV.ref 2 0 (X2t.length))),(10,(AV.ref 3 0 (X02.length))),(11,(AV.ref 4 0 (X0k.length))),(12,(aI .i64 (k:Int))),(13,(aI .i64 (IntKind.i64.wrap ((IntKind.i64.wrap ((X2p.length:Int) - 1)) - (k:Int))))),(81,(aB Xn2))],hp ([(0,Ob [(Xs false Xo)] 10),(1,Ob (Xn.map Xe) 10),(2,Ob (X2t.map Xe) 10),(3,Ob (List.map (aI .i64) X02) 1),(4,Ob (List.map (aI .i64) X0k) 1)]),5⟩) ?_ (fun J=>X3.cut ?_)
      ·
       revert h
       refine brI (fun h969=>fun e=>Xa [Bt] (k:=wkT [] (C1  (oj e).symm))) fun h969=>bI fun u970 h971=>bI fun e972 h973=>?_
       try have qh973:=Xc h973
       refine bI fun u974 h975=>bI fun e976 h977=>?_
       try have qh977:=Xc h977
       refine bI fun u978 h979=>bI fun e980 h981=>?_
       try have qh981:=Xc h981
       refine bI fun u982 h983=>rnI [Bf,.el (X4 x),.no,.el (X4 e972),.no,.el (aI .i64 e976),.no,.el (aI .i64 e980),.no] (o:=by repeat' first|apply Ya|exact pcM|(refine Xv h971 rfl ?_;first|(simp;done)|(simp;omega)|(simp[hc,h969];done)|(simp[hc,h969];omega))|(refine Xf h971 (by decide) ?_;first|(simp;done)|(simp;omega)|(simp[hc,h969];done)|(simp[hc,h969];omega))|(refine Xv h975 rfl ?_;first|(simp;done)|(simp;omega)|(simp[hc,h969];done)|(simp[hc,h969];omega))|(refine Xf h975 (by decide) ?_;first|(simp;done)|(simp;omega)|(simp[hc,h969];done)|(simp[hc,h969];omega))|(refine Xv h979 rfl ?_;first|(simp;done)|(simp;omega)|(simp[hc,h969];done)|(simp[hc,h969];omega))|(refine Xf h979 (by decide) ?_;first|(simp;done)|(simp;omega)|(simp[hc,h969];done)|(simp[hc,h969];omega))|(refine Xv h983 rfl ?_;first|(simp;done)|(simp;omega)|(simp[hc,h969];done)|(simp[hc,h969];omega))|(refine Xf h983 (by decide) ?_;first|(simp;done)|(simp;omega)|(simp[hc,h969];done)|(simp[hc,h969];omega))|exact Xw) ?_
       intro h
       exact wkT [(1,6),(2,8),(3,15),(4,22)] (ih (k+1) hx1 _ _ _ _ nbF nbF nbF nbF o h C0 C1)
      clear h;revert h968
      refine bI fun v962 h963=>brI (fun h964=>?_) fun h964=>?_
      ·
       intro h
       obtain rfl:=oj h
       exact Xa [.el (X4 x),.pure _ (aB v962),.go false,.go false,.go false,.go false,.go false,.go false,.go false,.go false,.go false,.go false] (o:=by repeat' first|apply Ya|exact pcM|exact((X9 h964 rfl))|exact(Xd (X9 h964 rfl))|exact(X47 (X9 h964 rfl))|exact Xw) (k:=wkT [] (X3.glue J))
      refine bI fun e965 h966=>?_
      try have qh966:=Xc h966
      refine brI (fun h967=>?_) fun h967=>?_
      ·
       intro h
       obtain rfl:=oj h
       exact Xa [.el (X4 x),.pure _ (aB v962),.go true,.go true,.go true,.el (aI .i64 e965),.go true,.go true,.go false,.go false,.go false,.go false,.go false] (o:=by repeat' first|apply Ya|exact pcM|exact((Xb h964 h967))|exact(Xd (Xb h964 h967))|exact(X47 (Xb h964 h967))|exact Xw) (k:=wkT [] (X3.glue J))
      intro h
      obtain rfl:=oj h
      exact Xa [.el (X4 x),.pure _ (aB v962),.go true,.go true,.go true,.el (aI .i64 e965),.go true,.go true,.go true,.go true,.go true,.el (aI .i64 e965),.go true,.go true] (o:=by repeat' first|apply Ya|exact pcM|exact((Xb h964 h967))|exact(Xd (Xb h964 h967))|exact(X88 (Xb h964 h967))|exact Xw) (k:=wkT [] (X3.glue J))
     obtain rfl:=X0w rfl
     refine X3.round ?_
     revert h
     refine bI fun Xyl h997=>rnI [.el (aI .i64 (X2p.length:Int)),Bt,.el (aI .i64 (X2p.length:Int)),.wrap,.wrap,.stop 10] ?_
     intro h
     refine X3.join (s':=⟨fr [(1,(Lf (List.map (aI .i64) X75))),(2,(Lf (X2p.map X4))),(3,(AV.ptr 0 0 0)),(7,(aB Xht)),(8,(AV.ref 1 0 (Xn.length))),(9,(AV.ref 2 0 (X2t.length))),(10,(AV.ref 3 0 (X02.length))),(11,AV.nils),(12,(aI .i64 (k:Int))),(13,(aI .i64 (IntKind.i64.wrap ((IntKind.i64.wrap ((X2p.length:Int) - 1)) - (k:Int))))),(81,(aB Xyl))],hp ([(0,Ob [(Xs false Xo)] 10),(1,Ob (Xn.map Xe) 10),(2,Ob (X2t.map Xe) 10),(3,Ob (List.map (aI .i64) X02) 1)]),5⟩) ?_ (fun J=>X3.cut ?_)
     ·
      revert h
      refine brI (fun h998=>fun e=>Xa [Bt] (k:=wkT [] (C1  (oj e).symm))) fun h998=>bI fun u999 h1000=>bI fun e1001 h1002=>?_
      try have qh1002:=Xc h1002
      refine bI fun u1003 h1004=>bI fun e1005 h1006=>?_
      try have qh1006:=Xc h1006
      refine bI fun u1007 h1008=>bI fun e1009 h1010=>?_
      try have qh1010:=Xc h1010
      refine bI fun u1011 h1012=>rnI [Bf,.el (X4 x),.no,.el (X4 e1001),.no,.el (aI .i64 e1005),.no,.el (aI .i64 e1009),.no] (o:=by repeat' first|apply Ya|exact pcM|(refine Xv h1000 rfl ?_;first|(simp;done)|(simp;omega)|(simp[hc,h998];done)|(simp[hc,h998];omega))|(refine Xf h1000 (by decide) ?_;first|(simp;done)|(simp;omega)|(simp[hc,h998];done)|(simp[hc,h998];omega))|(refine Xv h1004 rfl ?_;first|(simp;done)|(simp;omega)|(simp[hc,h998];done)|(simp[hc,h998];omega))|(refine Xf h1004 (by decide) ?_;first|(simp;done)|(simp;omega)|(simp[hc,h998];done)|(simp[hc,h998];omega))|(refine Xv h1008 rfl ?_;first|(simp;done)|(simp;omega)|(simp[hc,h998];done)|(simp[hc,h998];omega))|(refine Xf h1008 (by decide) ?_;first|(simp;done)|(simp;omega)|(simp[hc,h998];done)|(simp[hc,h998];omega))|(refine Xv h1012 rfl ?_;first|(simp;done)|(simp;omega)|(simp[hc,h998];done)|(simp[hc,h998];omega))|(refine Xf h1012 (by decide) ?_;first|(simp;done)|(simp;omega)|(simp[hc,h998];done)|(simp[hc,h998];omega))|exact Xw) ?_
      intro h
      exact wkT [(1,6),(2,8),(3,15),(4,22)] (ih (k+1) hx1 _ _ _ _ nbF nbF nbF nbF o h C0 C1)
     clear h;revert h997
     refine bI fun v991 h992=>brI (fun h993=>?_) fun h993=>?_
     ·
      intro h
      obtain rfl:=oj h
      exact Xa [.el (X4 x),.pure _ (aB v991),.go false,.go false,.go false,.go false,.go false,.go false,.go false,.go false,.go false,.go false] (o:=by repeat' first|apply Ya|exact pcM|exact((X9 h993 rfl))|exact(Xd (X9 h993 rfl))|exact(X47 (X9 h993 rfl))|exact Xw) (k:=wkT [] (X3.glue J))
     refine bI fun e994 h995=>?_
     try have qh995:=Xc h995
     refine brI (fun h996=>?_) fun h996=>?_
     ·
      intro h
      obtain rfl:=oj h
      exact Xa [.el (X4 x),.pure _ (aB v991),.go true,.go true,.go true,.el (aI .i64 e994),.go true,.go true,.go false,.go false,.go false,.go false,.go false] (o:=by repeat' first|apply Ya|exact pcM|exact((Xb h993 h996))|exact(Xd (Xb h993 h996))|exact(X47 (Xb h993 h996))|exact Xw) (k:=wkT [] (X3.glue J))
     intro h
     obtain rfl:=oj h
     exact Xa [.el (X4 x),.pure _ (aB v991),.go true,.go true,.go true,.el (aI .i64 e994),.go true,.go true,.go true,.go true,.go true,.el (aI .i64 e994),.go true,.go true] (o:=by repeat' first|apply Ya|exact pcM|exact((Xb h993 h996))|exact(Xd (Xb h993 h996))|exact(X88 (Xb h993 h996))|exact Xw) (k:=wkT [] (X3.glue J))
    obtain rfl:=X1d rfl
    rcases X28 with ⟨_|_,X0w⟩
    ·
     refine X3.round ?_
     revert h
     refine bI fun Xw9 h1026=>rnI [.el (aI .i64 (X2p.length:Int)),Bt,.el (aI .i64 (X2p.length:Int)),.wrap,.wrap,.stop 10] ?_
     intro h
     refine X3.join (s':=⟨fr [(1,(Lf (List.map (aI .i64) X75))),(2,(Lf (X2p.map X4))),(3,(AV.ptr 0 0 0)),(7,(aB Xht)),(8,(AV.ref 1 0 (Xn.length))),(9,(AV.ref 2 0 (X2t.length))),(10,AV.nils),(11,(AV.ref 4 0 (X0k.length))),(12,(aI .i64 (k:Int))),(13,(aI .i64 (IntKind.i64.wrap ((IntKind.i64.wrap ((X2p.length:Int) - 1)) - (k:Int))))),(81,(aB Xw9))],hp ([(0,Ob [(Xs false Xo)] 10),(1,Ob (Xn.map Xe) 10),(2,Ob (X2t.map Xe) 10),(4,Ob (List.map (aI .i64) X0k) 1)]),5⟩) ?_ (fun J=>X3.cut ?_)
     ·
      revert h
      refine brI (fun h1027=>fun e=>Xa [Bt] (k:=wkT [] (C1  (oj e).symm))) fun h1027=>bI fun u1028 h1029=>bI fun e1030 h1031=>?_
      try have qh1031:=Xc h1031
      refine bI fun u1032 h1033=>bI fun e1034 h1035=>?_
      try have qh1035:=Xc h1035
      refine bI fun u1036 h1037=>bI fun e1038 h1039=>?_
      try have qh1039:=Xc h1039
      refine bI fun u1040 h1041=>rnI [Bf,.el (X4 x),.no,.el (X4 e1030),.no,.el (aI .i64 e1034),.no,.el (aI .i64 e1038),.no] (o:=by repeat' first|apply Ya|exact pcM|(refine Xv h1029 rfl ?_;first|(simp;done)|(simp;omega)|(simp[hc,h1027];done)|(simp[hc,h1027];omega))|(refine Xf h1029 (by decide) ?_;first|(simp;done)|(simp;omega)|(simp[hc,h1027];done)|(simp[hc,h1027];omega))|(refine Xv h1033 rfl ?_;first|(simp;done)|(simp;omega)|(simp[hc,h1027];done)|(simp[hc,h1027];omega))|(refine Xf h1033 (by decide) ?_;first|(simp;done)|(simp;omega)|(simp[hc,h1027];done)|(simp[hc,h1027];omega))|(refine Xv h1037 rfl ?_;first|(simp;done)|(simp;omega)|(simp[hc,h1027];done)|(simp[hc,h1027];omega))|(refine Xf h1037 (by decide) ?_;first|(simp;done)|(simp;omega)|(simp[hc,h1027];done)|(simp[hc,h1027];omega))|(refine Xv h1041 rfl ?_;first|(simp;done)|(simp;omega)|(simp[hc,h1027];done)|(simp[hc,h1027];omega))|(refine Xf h1041 (by decide) ?_;first|(simp;done)|(simp;omega)|(simp[hc,h1027];done)|(simp[hc,h1027];omega))|exact Xw) ?_
      intro h
      exact wkT [(1,6),(2,8),(3,15),(4,22)] (ih (k+1) hx1 _ _ _ _ nbF nbF nbF nbF o h C0 C1)
     clear h;revert h1026
     refine bI fun v1020 h1021=>brI (fun h1022=>?_) fun h1022=>?_
     ·
      intro h
      obtain rfl:=oj h
      exact Xa [.el (X4 x),.pure _ (aB v1020),.go false,.go false,.go false,.go false,.go false,.go false,.go false,.go false,.go false,.go false] (o:=by repeat' first|apply Ya|exact pcM|exact((X9 h1022 rfl))|exact(Xd (X9 h1022 rfl))|exact(X47 (X9 h1022 rfl))|exact Xw) (k:=wkT [] (X3.glue J))
     refine bI fun e1023 h1024=>?_
     try have qh1024:=Xc h1024
     refine brI (fun h1025=>?_) fun h1025=>?_
     ·
      intro h
      obtain rfl:=oj h
      exact Xa [.el (X4 x),.pure _ (aB v1020),.go true,.go true,.go true,.el (aI .i64 e1023),.go true,.go true,.go false,.go false,.go false,.go false,.go false] (o:=by repeat' first|apply Ya|exact pcM|exact((Xb h1022 h1025))|exact(Xd (Xb h1022 h1025))|exact(X47 (Xb h1022 h1025))|exact Xw) (k:=wkT [] (X3.glue J))
     intro h
     obtain rfl:=oj h
     exact Xa [.el (X4 x),.pure _ (aB v1020),.go true,.go true,.go true,.el (aI .i64 e1023),.go true,.go true,.go true,.go true,.go true,.el (aI .i64 e1023),.go true,.go true] (o:=by repeat' first|apply Ya|exact pcM|exact((Xb h1022 h1025))|exact(Xd (Xb h1022 h1025))|exact(X88 (Xb h1022 h1025))|exact Xw) (k:=wkT [] (X3.glue J))
    obtain rfl:=X0w rfl
    refine X3.round ?_
    revert h
    refine bI fun Xw8 h1055=>rnI [.el (aI .i64 (X2p.length:Int)),Bt,.el (aI .i64 (X2p.length:Int)),.wrap,.wrap,.stop 10] ?_
    intro h
    refine X3.join (s':=⟨fr [(1,(Lf (List.map (aI .i64) X75))),(2,(Lf (X2p.map X4))),(3,(AV.ptr 0 0 0)),(7,(aB Xht)),(8,(AV.ref 1 0 (Xn.length))),(9,(AV.ref 2 0 (X2t.length))),(10,AV.nils),(11,AV.nils),(12,(aI .i64 (k:Int))),(13,(aI .i64 (IntKind.i64.wrap ((IntKind.i64.wrap ((X2p.length:Int) - 1)) - (k:Int))))),(81,(aB Xw8))],hp ([(0,Ob [(Xs false Xo)] 10),(1,Ob (Xn.map Xe) 10),(2,Ob (X2t.map Xe) 10)]),5⟩) ?_ (fun J=>X3.cut ?_)
    ·
     revert h
     refine brI (fun h1056=>fun e=>Xa [Bt] (k:=wkT [] (C1  (oj e).symm))) fun h1056=>bI fun u1057 h1058=>bI fun e1059 h1060=>?_
     try have qh1060:=Xc h1060
     refine bI fun u1061 h1062=>bI fun e1063 h1064=>?_
     try have qh1064:=Xc h1064
     refine bI fun u1065 h1066=>bI fun e1067 h1068=>?_
     try have qh1068:=Xc h1068
     refine bI fun u1069 h1070=>rnI [Bf,.el (X4 x),.no,.el (X4 e1059),.no,.el (aI .i64 e1063),.no,.el (aI .i64 e1067),.no] (o:=by repeat' first|apply Ya|exact pcM|(refine Xv h1058 rfl ?_;first|(simp;done)|(simp;omega)|(simp[hc,h1056];done)|(simp[hc,h1056];omega))|(refine Xf h1058 (by decide) ?_;first|(simp;done)|(simp;omega)|(simp[hc,h1056];done)|(simp[hc,h1056];omega))|(refine Xv h1062 rfl ?_;first|(simp;done)|(simp;omega)|(simp[hc,h1056];done)|(simp[hc,h1056];omega))|(refine Xf h1062 (by decide) ?_;first|(simp;done)|(simp;omega)|(simp[hc,h1056];done)|(simp[hc,h1056];omega))|(refine Xv h1066 rfl ?_;first|(simp;done)|(simp;omega)|(simp[hc,h1056];done)|(simp[hc,h1056];omega))|(refine Xf h1066 (by decide) ?_;first|(simp;done)|(simp;omega)|(simp[hc,h1056];done)|(simp[hc,h1056];omega))|(refine Xv h1070 rfl ?_;first|(simp;done)|(simp;omega)|(simp[hc,h1056];done)|(simp[hc,h1056];omega))|(refine Xf h1070 (by decide) ?_;first|(simp;done)|(simp;omega)|(simp[hc,h1056];done)|(simp[hc,h1056];omega))|exact Xw) ?_
     intro h
     exact wkT [(1,6),(2,8),(3,15),(4,22)] (ih (k+1) hx1 _ _ _ _ nbF nbF nbF nbF o h C0 C1)
    clear h;revert h1055
    refine bI fun v1049 h1050=>brI (fun h1051=>?_) fun h1051=>?_
    ·
     intro h
     obtain rfl:=oj h
     exact Xa [.el (X4 x),.pure _ (aB v1049),.go false,.go false,.go false,.go false,.go false,.go false,.go false,.go false,.go false,.go false] (o:=by repeat' first|apply Ya|exact pcM|exact((X9 h1051 rfl))|exact(Xd (X9 h1051 rfl))|exact(X47 (X9 h1051 rfl))|exact Xw) (k:=wkT [] (X3.glue J))
    refine bI fun e1052 h1053=>?_
    try have qh1053:=Xc h1053
    refine brI (fun h1054=>?_) fun h1054=>?_
    ·
     intro h
     obtain rfl:=oj h
     exact Xa [.el (X4 x),.pure _ (aB v1049),.go true,.go true,.go true,.el (aI .i64 e1052),.go true,.go true,.go false,.go false,.go false,.go false,.go false] (o:=by repeat' first|apply Ya|exact pcM|exact((Xb h1051 h1054))|exact(Xd (Xb h1051 h1054))|exact(X47 (Xb h1051 h1054))|exact Xw) (k:=wkT [] (X3.glue J))
    intro h
    obtain rfl:=oj h
    exact Xa [.el (X4 x),.pure _ (aB v1049),.go true,.go true,.go true,.el (aI .i64 e1052),.go true,.go true,.go true,.go true,.go true,.el (aI .i64 e1052),.go true,.go true] (o:=by repeat' first|apply Ya|exact pcM|exact((Xb h1051 h1054))|exact(Xd (Xb h1051 h1054))|exact(X88 (Xb h1051 h1054))|exact Xw) (k:=wkT [] (X3.glue J))
   obtain rfl:=Xb0 rfl
   rcases X0c with ⟨_|_,X1d⟩
   ·
    rcases X28 with ⟨_|_,X0w⟩
    ·
     refine X3.round ?_
     revert h
     refine bI fun Xw7 h1084=>rnI [.el (aI .i64 (X2p.length:Int)),Bt,.el (aI .i64 (X2p.length:Int)),.wrap,.wrap,.stop 10] ?_
     intro h
     refine X3.join (s':=⟨fr [(1,(Lf (List.map (aI .i64) X75))),(2,(Lf (X2p.map X4))),(3,(AV.ptr 0 0 0)),(7,(aB Xht)),(8,(AV.ref 1 0 (Xn.length))),(9,AV.nils),(10,(AV.ref 3 0 (X02.length))),(11,(AV.ref 4 0 (X0k.length))),(12,(aI .i64 (k:Int))),(13,(aI .i64 (IntKind.i64.wrap ((IntKind.i64.wrap ((X2p.length:Int) - 1)) - (k:Int))))),(81,(aB Xw7))],hp ([(0,Ob [(Xs false Xo)] 10),(1,Ob (Xn.map Xe) 10),(3,Ob (List.map (aI .i64) X02) 1),(4,Ob (List.map (aI .i64) X0k) 1)]),5⟩) ?_ (fun J=>X3.cut ?_)
     ·
      revert h
      refine brI (fun h1085=>fun e=>Xa [Bt] (k:=wkT [] (C1  (oj e).symm))) fun h1085=>bI fun u1086 h1087=>bI fun e1088 h1089=>?_
      try have qh1089:=Xc h1089
      refine bI fun u1090 h1091=>bI fun e1092 h1093=>?_
      try have qh1093:=Xc h1093
      refine bI fun u1094 h1095=>bI fun e1096 h1097=>?_
      try have qh1097:=Xc h1097
      refine bI fun u1098 h1099=>rnI [Bf,.el (X4 x),.no,.el (X4 e1088),.no,.el (aI .i64 e1092),.no,.el (aI .i64 e1096),.no] (o:=by repeat' first|apply Ya|exact pcM|(refine Xv h1087 rfl ?_;first|(simp;done)|(simp;omega)|(simp[hc,h1085];done)|(simp[hc,h1085];omega))|(refine Xf h1087 (by decide) ?_;first|(simp;done)|(simp;omega)|(simp[hc,h1085];done)|(simp[hc,h1085];omega))|(refine Xv h1091 rfl ?_;first|(simp;done)|(simp;omega)|(simp[hc,h1085];done)|(simp[hc,h1085];omega))|(refine Xf h1091 (by decide) ?_;first|(simp;done)|(simp;omega)|(simp[hc,h1085];done)|(simp[hc,h1085];omega))|(refine Xv h1095 rfl ?_;first|(simp;done)|(simp;omega)|(simp[hc,h1085];done)|(simp[hc,h1085];omega))|(refine Xf h1095 (by decide) ?_;first|(simp;done)|(simp;omega)|(simp[hc,h1085];done)|(simp[hc,h1085];omega))|(refine Xv h1099 rfl ?_;first|(simp;done)|(simp;omega)|(simp[hc,h1085];done)|(simp[hc,h1085];omega))|(refine Xf h1099 (by decide) ?_;first|(simp;done)|(simp;omega)|(simp[hc,h1085];done)|(simp[hc,h1085];omega))|exact Xw) ?_
      intro h
      exact wkT [(1,6),(2,8),(3,15),(4,22)] (ih (k+1) hx1 _ _ _ _ nbF nbF nbF nbF o h C0 C1)
     clear h;revert h1084
     refine bI fun v1078 h1079=>brI (fun h1080=>?_) fun h1080=>?_
     ·
      intro h
      obtain rfl:=oj h
      exact Xa [.el (X4 x),.pure _ (aB v1078),.go false,.go false,.go false,.go false,.go false,.go false,.go false,.go false,.go false,.go false] (o:=by repeat' first|apply Ya|exact pcM|exact((X9 h1080 rfl))|exact(Xd (X9 h1080 rfl))|exact(X47 (X9 h1080 rfl))|exact Xw) (k:=wkT [] (X3.glue J))
     refine bI fun e1081 h1082=>?_
     try have qh1082:=Xc h1082
     refine brI (fun h1083=>?_) fun h1083=>?_
     ·
      intro h
      obtain rfl:=oj h
      exact Xa [.el (X4 x),.pure _ (aB v1078),.go true,.go true,.go true,.el (aI .i64 e1081),.go true,.go true,.go false,.go false,.go false,.go false,.go false] (o:=by repeat' first|apply Ya|exact pcM|exact((Xb h1080 h1083))|exact(Xd (Xb h1080 h1083))|exact(X47 (Xb h1080 h1083))|exact Xw) (k:=wkT [] (X3.glue J))
     intro h
     obtain rfl:=oj h
     exact Xa [.el (X4 x),.pure _ (aB v1078),.go true,.go true,.go true,.el (aI .i64 e1081),.go true,.go true,.go true,.go true,.go true,.el (aI .i64 e1081),.go true,.go true] (o:=by repeat' first|apply Ya|exact pcM|exact((Xb h1080 h1083))|exact(Xd (Xb h1080 h1083))|exact(X88 (Xb h1080 h1083))|exact Xw) (k:=wkT [] (X3.glue J))
    obtain rfl:=X0w rfl
    refine X3.round ?_
    revert h
    refine bI fun Xw6 h1113=>rnI [.el (aI .i64 (X2p.length:Int)),Bt,.el (aI .i64 (X2p.length:Int)),.wrap,.wrap,.stop 10] ?_
    intro h
    refine X3.join (s':=⟨fr [(1,(Lf (List.map (aI .i64) X75))),(2,(Lf (X2p.map X4))),(3,(AV.ptr 0 0 0)),(7,(aB Xht)),(8,(AV.ref 1 0 (Xn.length))),(9,AV.nils),(10,(AV.ref 3 0 (X02.length))),(11,AV.nils),(12,(aI .i64 (k:Int))),(13,(aI .i64 (IntKind.i64.wrap ((IntKind.i64.wrap ((X2p.length:Int) - 1)) - (k:Int))))),(81,(aB Xw6))],hp ([(0,Ob [(Xs false Xo)] 10),(1,Ob (Xn.map Xe) 10),(3,Ob (List.map (aI .i64) X02) 1)]),5⟩) ?_ (fun J=>X3.cut ?_)
    ·
     revert h
     refine brI (fun h1114=>fun e=>Xa [Bt] (k:=wkT [] (C1  (oj e).symm))) fun h1114=>bI fun u1115 h1116=>bI fun e1117 h1118=>?_
     try have qh1118:=Xc h1118
     refine bI fun u1119 h1120=>bI fun e1121 h1122=>?_
     try have qh1122:=Xc h1122
     refine bI fun u1123 h1124=>bI fun e1125 h1126=>?_
     try have qh1126:=Xc h1126
     refine bI fun u1127 h1128=>rnI [Bf,.el (X4 x),.no,.el (X4 e1117),.no,.el (aI .i64 e1121),.no,.el (aI .i64 e1125),.no] (o:=by repeat' first|apply Ya|exact pcM|(refine Xv h1116 rfl ?_;first|(simp;done)|(simp;omega)|(simp[hc,h1114];done)|(simp[hc,h1114];omega))|(refine Xf h1116 (by decide) ?_;first|(simp;done)|(simp;omega)|(simp[hc,h1114];done)|(simp[hc,h1114];omega))|(refine Xv h1120 rfl ?_;first|(simp;done)|(simp;omega)|(simp[hc,h1114];done)|(simp[hc,h1114];omega))|(refine Xf h1120 (by decide) ?_;first|(simp;done)|(simp;omega)|(simp[hc,h1114];done)|(simp[hc,h1114];omega))|(refine Xv h1124 rfl ?_;first|(simp;done)|(simp;omega)|(simp[hc,h1114];done)|(simp[hc,h1114];omega))|(refine Xf h1124 (by decide) ?_;first|(simp;done)|(simp;omega)|(simp[hc,h1114];done)|(simp[hc,h1114];omega))|(refine Xv h1128 rfl ?_;first|(simp;done)|(simp;omega)|(simp[hc,h1114];done)|(simp[hc,h1114];omega))|(refine Xf h1128 (by decide) ?_;first|(simp;done)|(simp;omega)|(simp[hc,h1114];done)|(simp[hc,h1114];omega))|exact Xw) ?_
     intro h
     exact wkT [(1,6),(2,8),(3,15),(4,22)] (ih (k+1) hx1 _ _ _ _ nbF nbF nbF nbF o h C0 C1)
    clear h;revert h1113
    refine bI fun v1107 h1108=>brI (fun h1109=>?_) fun h1109=>?_
    ·
     intro h
     obtain rfl:=oj h
     exact Xa [.el (X4 x),.pure _ (aB v1107),.go false,.go false,.go false,.go false,.go false,.go false,.go false,.go false,.go false,.go false] (o:=by repeat' first|apply Ya|exact pcM|exact((X9 h1109 rfl))|exact(Xd (X9 h1109 rfl))|exact(X47 (X9 h1109 rfl))|exact Xw) (k:=wkT [] (X3.glue J))
    refine bI fun e1110 h1111=>?_
    try have qh1111:=Xc h1111
    refine brI (fun h1112=>?_) fun h1112=>?_
    ·
     intro h
     obtain rfl:=oj h
     exact Xa [.el (X4 x),.pure _ (aB v1107),.go true,.go true,.go true,.el (aI .i64 e1110),.go true,.go true,.go false,.go false,.go false,.go false,.go false] (o:=by repeat' first|apply Ya|exact pcM|exact((Xb h1109 h1112))|exact(Xd (Xb h1109 h1112))|exact(X47 (Xb h1109 h1112))|exact Xw) (k:=wkT [] (X3.glue J))
    intro h
    obtain rfl:=oj h
    exact Xa [.el (X4 x),.pure _ (aB v1107),.go true,.go true,.go true,.el (aI .i64 e1110),.go true,.go true,.go true,.go true,.go true,.el (aI .i64 e1110),.go true,.go true] (o:=by repeat' first|apply Ya|exact pcM|exact((Xb h1109 h1112))|exact(Xd (Xb h1109 h1112))|exact(X88 (Xb h1109 h1112))|exact Xw) (k:=wkT [] (X3.glue J))
   obtain rfl:=X1d rfl
   rcases X28 with ⟨_|_,X0w⟩
   ·
    refine X3.round ?_
    revert h
    refine bI fun Xw5 h1142=>rnI [.el (aI .i64 (X2p.length:Int)),Bt,.el (aI .i64 (X2p.length:Int)),.wrap,.wrap,.stop 10] ?_
    intro h
    refine X3.join (s':=⟨fr [(1,(Lf (List.map (aI .i64) X75))),(2,(Lf (X2p.map X4))),(3,(AV.ptr 0 0 0)),(7,(aB Xht)),(8,(AV.ref 1 0 (Xn.length))),(9,AV.nils),(10,AV.nils),(11,(AV.ref 4 0 (X0k.length))),(12,(aI .i64 (k:Int))),(13,(aI .i64 (IntKind.i64.wrap ((IntKind.i64.wrap ((X2p.length:Int) - 1)) - (k:Int))))),(81,(aB Xw5))],hp ([(0,Ob [(Xs false Xo)] 10),(1,Ob (Xn.map Xe) 10),(4,Ob (List.map (aI .i64) X0k) 1)]),5⟩) ?_ (fun J=>X3.cut ?_)
    ·
     revert h
     refine brI (fun h1143=>fun e=>Xa [Bt] (k:=wkT [] (C1  (oj e).symm))) fun h1143=>bI fun u1144 h1145=>bI fun e1146 h1147=>?_
     try have qh1147:=Xc h1147
     refine bI fun u1148 h1149=>bI fun e1150 h1151=>?_
     try have qh1151:=Xc h1151
     refine bI fun u1152 h1153=>bI fun e1154 h1155=>?_
     try have qh1155:=Xc h1155
     refine bI fun u1156 h1157=>rnI [Bf,.el (X4 x),.no,.el (X4 e1146),.no,.el (aI .i64 e1150),.no,.el (aI .i64 e1154),.no] (o:=by repeat' first|apply Ya|exact pcM|(refine Xv h1145 rfl ?_;first|(simp;done)|(simp;omega)|(simp[hc,h1143];done)|(simp[hc,h1143];omega))|(refine Xf h1145 (by decide) ?_;first|(simp;done)|(simp;omega)|(simp[hc,h1143];done)|(simp[hc,h1143];omega))|(refine Xv h1149 rfl ?_;first|(simp;done)|(simp;omega)|(simp[hc,h1143];done)|(simp[hc,h1143];omega))|(refine Xf h1149 (by decide) ?_;first|(simp;done)|(simp;omega)|(simp[hc,h1143];done)|(simp[hc,h1143];omega))|(refine Xv h1153 rfl ?_;first|(simp;done)|(simp;omega)|(simp[hc,h1143];done)|(simp[hc,h1143];omega))|(refine Xf h1153 (by decide) ?_;first|(simp;done)|(simp;omega)|(simp[hc,h1143];done)|(simp[hc,h1143];omega))|(refine Xv h1157 rfl ?_;first|(simp;done)|(simp;omega)|(simp[hc,h1143];done)|(simp[hc,h1143];omega))|(refine Xf h1157 (by decide) ?_;first|(simp;done)|(simp;omega)|(simp[hc,h1143];done)|(simp[hc,h1143];omega))|exact Xw) ?_
     intro h
     exact wkT [(1,6),(2,8),(3,15),(4,22)] (ih (k+1) hx1 _ _ _ _ nbF nbF nbF nbF o h C0 C1)
    clear h;revert h1142
    refine bI fun v1136 h1137=>brI (fun h1138=>?_) fun h1138=>?_
    ·
     intro h
     obtain rfl:=oj h
     exact Xa [.el (X4 x),.pure _ (aB v1136),.go false,.go false,.go false,.go false,.go false,.go false,.go false,.go false,.go false,.go false] (o:=by repeat' first|apply Ya|exact pcM|exact((X9 h1138 rfl))|exact(Xd (X9 h1138 rfl))|exact(X47 (X9 h1138 rfl))|exact Xw) (k:=wkT [] (X3.glue J))
    refine bI fun e1139 h1140=>?_
    try have qh1140:=Xc h1140
    refine brI (fun h1141=>?_) fun h1141=>?_
    ·
     intro h
     obtain rfl:=oj h
     exact Xa [.el (X4 x),.pure _ (aB v1136),.go true,.go true,.go true,.el (aI .i64 e1139),.go true,.go true,.go false,.go false,.go false,.go false,.go false] (o:=by repeat' first|apply Ya|exact pcM|exact((Xb h1138 h1141))|exact(Xd (Xb h1138 h1141))|exact(X47 (Xb h1138 h1141))|exact Xw) (k:=wkT [] (X3.glue J))
    intro h
    obtain rfl:=oj h
    exact Xa [.el (X4 x),.pure _ (aB v1136),.go true,.go true,.go true,.el (aI .i64 e1139),.go true,.go true,.go true,.go true,.go true,.el (aI .i64 e1139),.go true,.go true] (o:=by repeat' first|apply Ya|exact pcM|exact((Xb h1138 h1141))|exact(Xd (Xb h1138 h1141))|exact(X88 (Xb h1138 h1141))|exact Xw) (k:=wkT [] (X3.glue J))
   obtain rfl:=X0w rfl
   refine X3.round ?_
   revert h
   refine bI fun Xw4 h1171=>rnI [.el (aI .i64 (X2p.length:Int)),Bt,.el (aI .i64 (X2p.length:Int)),.wrap,.wrap,.stop 10] ?_
   intro h
   refine X3.join (s':=⟨fr [(1,(Lf (List.map (aI .i64) X75))),(2,(Lf (X2p.map X4))),(3,(AV.ptr 0 0 0)),(7,(aB Xht)),(8,(AV.ref 1 0 (Xn.length))),(9,AV.nils),(10,AV.nils),(11,AV.nils),(12,(aI .i64 (k:Int))),(13,(aI .i64 (IntKind.i64.wrap ((IntKind.i64.wrap ((X2p.length:Int) - 1)) - (k:Int))))),(81,(aB Xw4))],hp ([(0,Ob [(Xs false Xo)] 10),(1,Ob (Xn.map Xe) 10)]),5⟩) ?_ (fun J=>X3.cut ?_)
   ·
    revert h
    refine brI (fun h1172=>fun e=>Xa [Bt] (k:=wkT [] (C1  (oj e).symm))) fun h1172=>bI fun u1173 h1174=>bI fun e1175 h1176=>?_
    try have qh1176:=Xc h1176
    refine bI fun u1177 h1178=>bI fun e1179 h1180=>?_
    try have qh1180:=Xc h1180
    refine bI fun u1181 h1182=>bI fun e1183 h1184=>?_
    try have qh1184:=Xc h1184
    refine bI fun u1185 h1186=>rnI [Bf,.el (X4 x),.no,.el (X4 e1175),.no,.el (aI .i64 e1179),.no,.el (aI .i64 e1183),.no] (o:=by repeat' first|apply Ya|exact pcM|(refine Xv h1174 rfl ?_;first|(simp;done)|(simp;omega)|(simp[hc,h1172];done)|(simp[hc,h1172];omega))|(refine Xf h1174 (by decide) ?_;first|(simp;done)|(simp;omega)|(simp[hc,h1172];done)|(simp[hc,h1172];omega))|(refine Xv h1178 rfl ?_;first|(simp;done)|(simp;omega)|(simp[hc,h1172];done)|(simp[hc,h1172];omega))|(refine Xf h1178 (by decide) ?_;first|(simp;done)|(simp;omega)|(simp[hc,h1172];done)|(simp[hc,h1172];omega))|(refine Xv h1182 rfl ?_;first|(simp;done)|(simp;omega)|(simp[hc,h1172];done)|(simp[hc,h1172];omega))|(refine Xf h1182 (by decide) ?_;first|(simp;done)|(simp;omega)|(simp[hc,h1172];done)|(simp[hc,h1172];omega))|(refine Xv h1186 rfl ?_;first|(simp;done)|(simp;omega)|(simp[hc,h1172];done)|(simp[hc,h1172];omega))|(refine Xf h1186 (by decide) ?_;first|(simp;done)|(simp;omega)|(simp[hc,h1172];done)|(simp[hc,h1172];omega))|exact Xw) ?_
    intro h
    exact wkT [(1,6),(2,8),(3,15),(4,22)] (ih (k+1) hx1 _ _ _ _ nbF nbF nbF nbF o h C0 C1)
   clear h;revert h1171
   refine bI fun v1165 h1166=>brI (fun h1167=>?_) fun h1167=>?_
   ·
    intro h
    obtain rfl:=oj h
    exact Xa [.el (X4 x),.pure _ (aB v1165),.go false,.go false,.go false,.go false,.go false,.go false,.go false,.go false,.go false,.go false] (o:=by repeat' first|apply Ya|exact pcM|exact((X9 h1167 rfl))|exact(Xd (X9 h1167 rfl))|exact(X47 (X9 h1167 rfl))|exact Xw) (k:=wkT [] (X3.glue J))
   refine bI fun e1168 h1169=>?_
   try have qh1169:=Xc h1169
   refine brI (fun h1170=>?_) fun h1170=>?_
   ·
    intro h
    obtain rfl:=oj h
    exact Xa [.el (X4 x),.pure _ (aB v1165),.go true,.go true,.go true,.el (aI .i64 e1168),.go true,.go true,.go false,.go false,.go false,.go false,.go false] (o:=by repeat' first|apply Ya|exact pcM|exact((Xb h1167 h1170))|exact(Xd (Xb h1167 h1170))|exact(X47 (Xb h1167 h1170))|exact Xw) (k:=wkT [] (X3.glue J))
   intro h
   obtain rfl:=oj h
   exact Xa [.el (X4 x),.pure _ (aB v1165),.go true,.go true,.go true,.el (aI .i64 e1168),.go true,.go true,.go true,.go true,.go true,.el (aI .i64 e1168),.go true,.go true] (o:=by repeat' first|apply Ya|exact pcM|exact((Xb h1167 h1170))|exact(Xd (Xb h1167 h1170))|exact(X88 (Xb h1167 h1170))|exact Xw) (k:=wkT [] (X3.glue J))
  obtain rfl:=X0g rfl
  rcases X9i with ⟨_|_,Xb0⟩
  ·
   rcases X0c with ⟨_|_,X1d⟩
   ·
    rcases X28 with ⟨_|_,X0w⟩
    ·
     refine X3.round ?_
     revert h
     refine bI fun Xw3 h1200=>rnI [.el (aI .i64 (X2p.length:Int)),Bt,.el (aI .i64 (X2p.length:Int)),.wrap,.wrap,.stop 10] ?_
     intro h
     refine X3.join (s':=⟨fr [(1,(Lf (List.map (aI .i64) X75))),(2,(Lf (X2p.map X4))),(3,(AV.ptr 0 0 0)),(7,(aB Xht)),(8,AV.nils),(9,(AV.ref 2 0 (X2t.length))),(10,(AV.ref 3 0 (X02.length))),(11,(AV.ref 4 0 (X0k.length))),(12,(aI .i64 (k:Int))),(13,(aI .i64 (IntKind.i64.wrap ((IntKind.i64.wrap ((X2p.length:Int) - 1)) - (k:Int))))),(81,(aB Xw3))],hp ([(0,Ob [(Xs false Xo)] 10),(2,Ob (X2t.map Xe) 10),(3,Ob (List.map (aI .i64) X02) 1),(4,Ob (List.map (aI .i64) X0k) 1)]),5⟩) ?_ (fun J=>X3.cut ?_)
     ·
      revert h
      refine brI (fun h1201=>fun e=>Xa [Bt] (k:=wkT [] (C1  (oj e).symm))) fun h1201=>bI fun u1202 h1203=>bI fun e1204 h1205=>?_
      try have qh1205:=Xc h1205
      refine bI fun u1206 h1207=>bI fun e1208 h1209=>?_
      try have qh1209:=Xc h1209
      refine bI fun u1210 h1211=>bI fun e1212 h1213=>?_
      try have qh1213:=Xc h1213
      refine bI fun u1214 h1215=>rnI [Bf,.el (X4 x),.no,.el (X4 e1204),.no,.el (aI .i64 e1208),.no,.el (aI .i64 e1212),.no] (o:=by repeat' first|apply Ya|exact pcM|(refine Xv h1203 rfl ?_;first|(simp;done)|(simp;omega)|(simp[hc,h1201];done)|(simp[hc,h1201];omega))|(refine Xf h1203 (by decide) ?_;first|(simp;done)|(simp;omega)|(simp[hc,h1201];done)|(simp[hc,h1201];omega))|(refine Xv h1207 rfl ?_;first|(simp;done)|(simp;omega)|(simp[hc,h1201];done)|(simp[hc,h1201];omega))|(refine Xf h1207 (by decide) ?_;first|(simp;done)|(simp;omega)|(simp[hc,h1201];done)|(simp[hc,h1201];omega))|(refine Xv h1211 rfl ?_;first|(simp;done)|(simp;omega)|(simp[hc,h1201];done)|(simp[hc,h1201];omega))|(refine Xf h1211 (by decide) ?_;first|(simp;done)|(simp;omega)|(simp[hc,h1201];done)|(simp[hc,h1201];omega))|(refine Xv h1215 rfl ?_;first|(simp;done)|(simp;omega)|(simp[hc,h1201];done)|(simp[hc,h1201];omega))|(refine Xf h1215 (by decide) ?_;first|(simp;done)|(simp;omega)|(simp[hc,h1201];done)|(simp[hc,h1201];omega))|exact Xw) ?_
      intro h
      exact wkT [(1,6),(2,8),(3,15),(4,22)] (ih (k+1) hx1 _ _ _ _ nbF nbF nbF nbF o h C0 C1)
     clear h;revert h1200
     refine bI fun v1194 h1195=>brI (fun h1196=>?_) fun h1196=>?_
     ·
      intro h
      obtain rfl:=oj h
      exact Xa [.el (X4 x),.pure _ (aB v1194),.go false,.go false,.go false,.go false,.go false,.go false,.go false,.go false,.go false,.go false] (o:=by repeat' first|apply Ya|exact pcM|exact((X9 h1196 rfl))|exact(Xd (X9 h1196 rfl))|exact(X47 (X9 h1196 rfl))|exact Xw) (k:=wkT [] (X3.glue J))
     refine bI fun e1197 h1198=>?_
     try have qh1198:=Xc h1198
     refine brI (fun h1199=>?_) fun h1199=>?_
     ·
      intro h
      obtain rfl:=oj h
      exact Xa [.el (X4 x),.pure _ (aB v1194),.go true,.go true,.go true,.el (aI .i64 e1197),.go true,.go true,.go false,.go false,.go false,.go false,.go false] (o:=by repeat' first|apply Ya|exact pcM|exact((Xb h1196 h1199))|exact(Xd (Xb h1196 h1199))|exact(X47 (Xb h1196 h1199))|exact Xw) (k:=wkT [] (X3.glue J))
     intro h
     obtain rfl:=oj h
     exact Xa [.el (X4 x),.pure _ (aB v1194),.go true,.go true,.go true,.el (aI .i64 e1197),.go true,.go true,.go true,.go true,.go true,.el (aI .i64 e1197),.go true,.go true] (o:=by repeat' first|apply Ya|exact pcM|exact((Xb h1196 h1199))|exact(Xd (Xb h1196 h1199))|exact(X88 (Xb h1196 h1199))|exact Xw) (k:=wkT [] (X3.glue J))
    obtain rfl:=X0w rfl
    refine X3.round ?_
    revert h
    refine bI fun Xw2 h1229=>rnI [.el (aI .i64 (X2p.length:Int)),Bt,.el (aI .i64 (X2p.length:Int)),.wrap,.wrap,.stop 10] ?_
    intro h
    refine X3.join (s':=⟨fr [(1,(Lf (List.map (aI .i64) X75))),(2,(Lf (X2p.map X4))),(3,(AV.ptr 0 0 0)),(7,(aB Xht)),(8,AV.nils),(9,(AV.ref 2 0 (X2t.length))),(10,(AV.ref 3 0 (X02.length))),(11,AV.nils),(12,(aI .i64 (k:Int))),(13,(aI .i64 (IntKind.i64.wrap ((IntKind.i64.wrap ((X2p.length:Int) - 1)) - (k:Int))))),(81,(aB Xw2))],hp ([(0,Ob [(Xs false Xo)] 10),(2,Ob (X2t.map Xe) 10),(3,Ob (List.map (aI .i64) X02) 1)]),5⟩) ?_ (fun J=>X3.cut ?_)
    ·
     revert h
     refine brI (fun h1230=>fun e=>Xa [Bt] (k:=wkT [] (C1  (oj e).symm))) fun h1230=>bI fun u1231 h1232=>bI fun e1233 h1234=>?_
     try have qh1234:=Xc h1234
     refine bI fun u1235 h1236=>bI fun e1237 h1238=>?_
     try have qh1238:=Xc h1238
     refine bI fun u1239 h1240=>bI fun e1241 h1242=>?_
     try have qh1242:=Xc h1242
     refine bI fun u1243 h1244=>rnI [Bf,.el (X4 x),.no,.el (X4 e1233),.no,.el (aI .i64 e1237),.no,.el (aI .i64 e1241),.no] (o:=by repeat' first|apply Ya|exact pcM|(refine Xv h1232 rfl ?_;first|(simp;done)|(simp;omega)|(simp[hc,h1230];done)|(simp[hc,h1230];omega))|(refine Xf h1232 (by decide) ?_;first|(simp;done)|(simp;omega)|(simp[hc,h1230];done)|(simp[hc,h1230];omega))|(refine Xv h1236 rfl ?_;first|(simp;done)|(simp;omega)|(simp[hc,h1230];done)|(simp[hc,h1230];omega))|(refine Xf h1236 (by decide) ?_;first|(simp;done)|(simp;omega)|(simp[hc,h1230];done)|(simp[hc,h1230];omega))|(refine Xv h1240 rfl ?_;first|(simp;done)|(simp;omega)|(simp[hc,h1230];done)|(simp[hc,h1230];omega))|(refine Xf h1240 (by decide) ?_;first|(simp;done)|(simp;omega)|(simp[hc,h1230];done)|(simp[hc,h1230];omega))|(refine Xv h1244 rfl ?_;first|(simp;done)|(simp;omega)|(simp[hc,h1230];done)|(simp[hc,h1230];omega))|(refine Xf h1244 (by decide) ?_;first|(simp;done)|(simp;omega)|(simp[hc,h1230];done)|(simp[hc,h1230];omega))|exact Xw) ?_
     intro h
     exact wkT [(1,6),(2,8),(3,15),(4,22)] (ih (k+1) hx1 _ _ _ _ nbF nbF nbF nbF o h C0 C1)
    clear h;revert h1229
    refine bI fun v1223 h1224=>brI (fun h1225=>?_) fun h1225=>?_
    ·
     intro h
     obtain rfl:=oj h
     exact Xa [.el (X4 x),.pure _ (aB v1223),.go false,.go false,.go false,.go false,.go false,.go false,.go false,.go false,.go false,.go false] (o:=by repeat' first|apply Ya|exact pcM|exact((X9 h1225 rfl))|exact(Xd (X9 h1225 rfl))|exact(X47 (X9 h1225 rfl))|exact Xw) (k:=wkT [] (X3.glue J))
    refine bI fun e1226 h1227=>?_
    try have qh1227:=Xc h1227
    refine brI (fun h1228=>?_) fun h1228=>?_
    ·
     intro h
     obtain rfl:=oj h
     exact Xa [.el (X4 x),.pure _ (aB v1223),.go true,.go true,.go true,.el (aI .i64 e1226),.go true,.go true,.go false,.go false,.go false,.go false,.go false] (o:=by repeat' first|apply Ya|exact pcM|exact((Xb h1225 h1228))|exact(Xd (Xb h1225 h1228))|exact(X47 (Xb h1225 h1228))|exact Xw) (k:=wkT [] (X3.glue J))
    intro h
    obtain rfl:=oj h
    exact Xa [.el (X4 x),.pure _ (aB v1223),.go true,.go true,.go true,.el (aI .i64 e1226),.go true,.go true,.go true,.go true,.go true,.el (aI .i64 e1226),.go true,.go true] (o:=by repeat' first|apply Ya|exact pcM|exact((Xb h1225 h1228))|exact(Xd (Xb h1225 h1228))|exact(X88 (Xb h1225 h1228))|exact Xw) (k:=wkT [] (X3.glue J))
   obtain rfl:=X1d rfl
   rcases X28 with ⟨_|_,X0w⟩
   ·
    refine X3.round ?_
    revert h
    refine bI fun Xw1 h1258=>rnI [.el (aI .i64 (X2p.length:Int)),Bt,.el (aI .i64 (X2p.length:Int)),.wrap,.wrap,.stop 10] ?_
    intro h
    refine X3.join (s':=⟨fr [(1,(Lf (List.map (aI .i64) X75))),(2,(Lf (X2p.map X4))),(3,(AV.ptr 0 0 0)),(7,(aB Xht)),(8,AV.nils),(9,(AV.ref 2 0 (X2t.length))),(10,AV.nils),(11,(AV.ref 4 0 (X0k.length))),(12,(aI .i64 (k:Int))),(13,(aI .i64 (IntKind.i64.wrap ((IntKind.i64.wrap ((X2p.length:Int) - 1)) - (k:Int))))),(81,(aB Xw1))],hp ([(0,Ob [(Xs false Xo)] 10),(2,Ob (X2t.map Xe) 10),(4,Ob (List.map (aI .i64) X0k) 1)]),5⟩) ?_ (fun J=>X3.cut ?_)
    ·
     revert h
     refine brI (fun h1259=>fun e=>Xa [Bt] (k:=wkT [] (C1  (oj e).symm))) fun h1259=>bI fun u1260 h1261=>bI fun e1262 h1263=>?_
     try have qh1263:=Xc h1263
     refine bI fun u1264 h1265=>bI fun e1266 h1267=>?_
     try have qh1267:=Xc h1267
     refine bI fun u1268 h1269=>bI fun e1270 h1271=>?_
     try have qh1271:=Xc h1271
     refine bI fun u1272 h1273=>rnI [Bf,.el (X4 x),.no,.el (X4 e1262),.no,.el (aI .i64 e1266),.no,.el (aI .i64 e1270),.no] (o:=by repeat' first|apply Ya|exact pcM|(refine Xv h1261 rfl ?_;first|(simp;done)|(simp;omega)|(simp[hc,h1259];done)|(simp[hc,h1259];omega))|(refine Xf h1261 (by decide) ?_;first|(simp;done)|(simp;omega)|(simp[hc,h1259];done)|(simp[hc,h1259];omega))|(refine Xv h1265 rfl ?_;first|(simp;done)|(simp;omega)|(simp[hc,h1259];done)|(simp[hc,h1259];omega))|(refine Xf h1265 (by decide) ?_;first|(simp;done)|(simp;omega)|(simp[hc,h1259];done)|(simp[hc,h1259];omega))|(refine Xv h1269 rfl ?_;first|(simp;done)|(simp;omega)|(simp[hc,h1259];done)|(simp[hc,h1259];omega))|(refine Xf h1269 (by decide) ?_;first|(simp;done)|(simp;omega)|(simp[hc,h1259];done)|(simp[hc,h1259];omega))|(refine Xv h1273 rfl ?_;first|(simp;done)|(simp;omega)|(simp[hc,h1259];done)|(simp[hc,h1259];omega))|(refine Xf h1273 (by decide) ?_;first|(simp;done)|(simp;omega)|(simp[hc,h1259];done)|(simp[hc,h1259];omega))|exact Xw) ?_
     intro h
     exact wkT [(1,6),(2,8),(3,15),(4,22)] (ih (k+1) hx1 _ _ _ _ nbF nbF nbF nbF o h C0 C1)
    clear h;revert h1258
    refine bI fun v1252 h1253=>brI (fun h1254=>?_) fun h1254=>?_
    ·
     intro h
     obtain rfl:=oj h
     exact Xa [.el (X4 x),.pure _ (aB v1252),.go false,.go false,.go false,.go false,.go false,.go false,.go false,.go false,.go false,.go false] (o:=by repeat' first|apply Ya|exact pcM|exact((X9 h1254 rfl))|exact(Xd (X9 h1254 rfl))|exact(X47 (X9 h1254 rfl))|exact Xw) (k:=wkT [] (X3.glue J))
    refine bI fun e1255 h1256=>?_
    try have qh1256:=Xc h1256
    refine brI (fun h1257=>?_) fun h1257=>?_
    ·
     intro h
     obtain rfl:=oj h
     exact Xa [.el (X4 x),.pure _ (aB v1252),.go true,.go true,.go true,.el (aI .i64 e1255),.go true,.go true,.go false,.go false,.go false,.go false,.go false] (o:=by repeat' first|apply Ya|exact pcM|exact((Xb h1254 h1257))|exact(Xd (Xb h1254 h1257))|exact(X47 (Xb h1254 h1257))|exact Xw) (k:=wkT [] (X3.glue J))
    intro h
    obtain rfl:=oj h
    exact Xa [.el (X4 x),.pure _ (aB v1252),.go true,.go true,.go true,.el (aI .i64 e1255),.go true,.go true,.go true,.go true,.go true,.el (aI .i64 e1255),.go true,.go true] (o:=by repeat' first|apply Ya|exact pcM|exact((Xb h1254 h1257))|exact(Xd (Xb h1254 h1257))|exact(X88 (Xb h1254 h1257))|exact Xw) (k:=wkT [] (X3.glue J))
   obtain rfl:=X0w rfl
   refine X3.round ?_
   revert h
   refine bI fun Xw0 h1287=>rnI [.el (aI .i64 (X2p.length:Int)),Bt,.el (aI .i64 (X2p.length:Int)),.wrap,.wrap,.stop 10] ?_
   intro h
   refine X3.join (s':=⟨fr [(1,(Lf (List.map (aI .i64) X75))),(2,(Lf (X2p.map X4))),(3,(AV.ptr 0 0 0)),(7,(aB Xht)),(8,AV.nils),(9,(AV.ref 2 0 (X2t.length))),(10,AV.nils),(11,AV.nils),(12,(aI .i64 (k:Int))),(13,(aI .i64 (IntKind.i64.wrap ((IntKind.i64.wrap ((X2p.length:Int) - 1)) - (k:Int))))),(81,(aB Xw0))],hp ([(0,Ob [(Xs false Xo)] 10),(2,Ob (X2t.map Xe) 10)]),5⟩) ?_ (fun J=>X3.cut ?_)
   ·
    revert h
    refine brI (fun h1288=>fun e=>Xa [Bt] (k:=wkT [] (C1  (oj e).symm))) fun h1288=>bI fun u1289 h1290=>bI fun e1291 h1292=>?_
    try have qh1292:=Xc h1292
    refine bI fun u1293 h1294=>bI fun e1295 h1296=>?_
    try have qh1296:=Xc h1296
    refine bI fun u1297 h1298=>bI fun e1299 h1300=>?_
    try have qh1300:=Xc h1300
    refine bI fun u1301 h1302=>rnI [Bf,.el (X4 x),.no,.el (X4 e1291),.no,.el (aI .i64 e1295),.no,.el (aI .i64 e1299),.no] (o:=by repeat' first|apply Ya|exact pcM|(refine Xv h1290 rfl ?_;first|(simp;done)|(simp;omega)|(simp[hc,h1288];done)|(simp[hc,h1288];omega))|(refine Xf h1290 (by decide) ?_;first|(simp;done)|(simp;omega)|(simp[hc,h1288];done)|(simp[hc,h1288];omega))|(refine Xv h1294 rfl ?_;first|(simp;done)|(simp;omega)|(simp[hc,h1288];done)|(simp[hc,h1288];omega))|(refine Xf h1294 (by decide) ?_;first|(simp;done)|(simp;omega)|(simp[hc,h1288];done)|(simp[hc,h1288];omega))|(refine Xv h1298 rfl ?_;first|(simp;done)|(simp;omega)|(simp[hc,h1288];done)|(simp[hc,h1288];omega))|(refine Xf h1298 (by decide) ?_;first|(simp;done)|(simp;omega)|(simp[hc,h1288];done)|(simp[hc,h1288];omega))|(refine Xv h1302 rfl ?_;first|(simp;done)|(simp;omega)|(simp[hc,h1288];done)|(simp[hc,h1288];omega))|(refine Xf h1302 (by decide) ?_;first|(simp;done)|(simp;omega)|(simp[hc,h1288];done)|(simp[hc,h1288];omega))|exact Xw) ?_
    intro h
    exact wkT [(1,6),(2,8),(3,15),(4,22)] (ih (k+1) hx1 _ _ _ _ nbF nbF nbF nbF o h C0 C1)
   clear h;revert h1287
   refine bI fun v1281 h1282=>brI (fun h1283=>?_) fun h1283=>?_
   ·
    intro h
    obtain rfl:=oj h
    exact Xa [.el (X4 x),.pure _ (aB v1281),.go false,.go false,.go false,.go false,.go false,.go false,.go false,.go false,.go false,.go false] (o:=by repeat' first|apply Ya|exact pcM|exact((X9 h1283 rfl))|exact(Xd (X9 h1283 rfl))|exact(X47 (X9 h1283 rfl))|exact Xw) (k:=wkT [] (X3.glue J))
   refine bI fun e1284 h1285=>?_
   try have qh1285:=Xc h1285
   refine brI (fun h1286=>?_) fun h1286=>?_
   ·
    intro h
    obtain rfl:=oj h
    exact Xa [.el (X4 x),.pure _ (aB v1281),.go true,.go true,.go true,.el (aI .i64 e1284),.go true,.go true,.go false,.go false,.go false,.go false,.go false] (o:=by repeat' first|apply Ya|exact pcM|exact((Xb h1283 h1286))|exact(Xd (Xb h1283 h1286))|exact(X47 (Xb h1283 h1286))|exact Xw) (k:=wkT [] (X3.glue J))
   intro h
   obtain rfl:=oj h
   exact Xa [.el (X4 x),.pure _ (aB v1281),.go true,.go true,.go true,.el (aI .i64 e1284),.go true,.go true,.go true,.go true,.go true,.el (aI .i64 e1284),.go true,.go true] (o:=by repeat' first|apply Ya|exact pcM|exact((Xb h1283 h1286))|exact(Xd (Xb h1283 h1286))|exact(X88 (Xb h1283 h1286))|exact Xw) (k:=wkT [] (X3.glue J))
  obtain rfl:=Xb0 rfl
  rcases X0c with ⟨_|_,X1d⟩
  ·
   rcases X28 with ⟨_|_,X0w⟩
   ·
    refine X3.round ?_
    revert h
    refine bI fun Xvz h1316=>rnI [.el (aI .i64 (X2p.length:Int)),Bt,.el (aI .i64 (X2p.length:Int)),.wrap,.wrap,.stop 10] ?_
    intro h
    refine X3.join (s':=⟨fr [(1,(Lf (List.map (aI .i64) X75))),(2,(Lf (X2p.map X4))),(3,(AV.ptr 0 0 0)),(7,(aB Xht)),(8,AV.nils),(9,AV.nils),(10,(AV.ref 3 0 (X02.length))),(11,(AV.ref 4 0 (X0k.length))),(12,(aI .i64 (k:Int))),(13,(aI .i64 (IntKind.i64.wrap ((IntKind.i64.wrap ((X2p.length:Int) - 1)) - (k:Int))))),(81,(aB Xvz))],hp ([(0,Ob [(Xs false Xo)] 10),(3,Ob (List.map (aI .i64) X02) 1),(4,Ob (List.map (aI .i64) X0k) 1)]),5⟩) ?_ (fun J=>X3.cut ?_)
    ·
     revert h
     refine brI (fun h1317=>fun e=>Xa [Bt] (k:=wkT [] (C1  (oj e).symm))) fun h1317=>bI fun u1318 h1319=>bI fun e1320 h1321=>?_
     try have qh1321:=Xc h1321
     refine bI fun u1322 h1323=>bI fun e1324 h1325=>?_
     try have qh1325:=Xc h1325
     refine bI fun u1326 h1327=>bI fun e1328 h1329=>?_
     try have qh1329:=Xc h1329
     refine bI fun u1330 h1331=>rnI [Bf,.el (X4 x),.no,.el (X4 e1320),.no,.el (aI .i64 e1324),.no,.el (aI .i64 e1328),.no] (o:=by repeat' first|apply Ya|exact pcM|(refine Xv h1319 rfl ?_;first|(simp;done)|(simp;omega)|(simp[hc,h1317];done)|(simp[hc,h1317];omega))|(refine Xf h1319 (by decide) ?_;first|(simp;done)|(simp;omega)|(simp[hc,h1317];done)|(simp[hc,h1317];omega))|(refine Xv h1323 rfl ?_;first|(simp;done)|(simp;omega)|(simp[hc,h1317];done)|(simp[hc,h1317];omega))|(refine Xf h1323 (by decide) ?_;first|(simp;done)|(simp;omega)|(simp[hc,h1317];done)|(simp[hc,h1317];omega))|(refine Xv h1327 rfl ?_;first|(simp;done)|(simp;omega)|(simp[hc,h1317];done)|(simp[hc,h1317];omega))|(refine Xf h1327 (by decide) ?_;first|(simp;done)|(simp;omega)|(simp[hc,h1317];done)|(simp[hc,h1317];omega))|(refine Xv h1331 rfl ?_;first|(simp;done)|(simp;omega)|(simp[hc,h1317];done)|(simp[hc,h1317];omega))|(refine Xf h1331 (by decide) ?_;first|(simp;done)|(simp;omega)|(simp[hc,h1317];done)|(simp[hc,h1317];omega))|exact Xw) ?_
     intro h
     exact wkT [(1,6),(2,8),(3,15),(4,22)] (ih (k+1) hx1 _ _ _ _ nbF nbF nbF nbF o h C0 C1)
    clear h;revert h1316
    refine bI fun v1310 h1311=>brI (fun h1312=>?_) fun h1312=>?_
    ·
     intro h
     obtain rfl:=oj h
     exact Xa [.el (X4 x),.pure _ (aB v1310),.go false,.go false,.go false,.go false,.go false,.go false,.go false,.go false,.go false,.go false] (o:=by repeat' first|apply Ya|exact pcM|exact((X9 h1312 rfl))|exact(Xd (X9 h1312 rfl))|exact(X47 (X9 h1312 rfl))|exact Xw) (k:=wkT [] (X3.glue J))
    refine bI fun e1313 h1314=>?_
    try have qh1314:=Xc h1314
    refine brI (fun h1315=>?_) fun h1315=>?_
    ·
     intro h
     obtain rfl:=oj h
     exact Xa [.el (X4 x),.pure _ (aB v1310),.go true,.go true,.go true,.el (aI .i64 e1313),.go true,.go true,.go false,.go false,.go false,.go false,.go false] (o:=by repeat' first|apply Ya|exact pcM|exact((Xb h1312 h1315))|exact(Xd (Xb h1312 h1315))|exact(X47 (Xb h1312 h1315))|exact Xw) (k:=wkT [] (X3.glue J))
    intro h
    obtain rfl:=oj h
    exact Xa [.el (X4 x),.pure _ (aB v1310),.go true,.go true,.go true,.el (aI .i64 e1313),.go true,.go true,.go true,.go true,.go true,.el (aI .i64 e1313),.go true,.go true] (o:=by repeat' first|apply Ya|exact pcM|exact((Xb h1312 h1315))|exact(Xd (Xb h1312 h1315))|exact(X88 (Xb h1312 h1315))|exact Xw) (k:=wkT [] (X3.glue J))
   obtain rfl:=X0w rfl
   refine X3.round ?_
   revert h
   refine bI fun Xvy h1345=>rnI [.el (aI .i64 (X2p.length:Int)),Bt,.el (aI .i64 (X2p.length:Int)),.wrap,.wrap,.stop 10] ?_
   intro h
   refine X3.join (s':=⟨fr [(1,(Lf (List.map (aI .i64) X75))),(2,(Lf (X2p.map X4))),(3,(AV.ptr 0 0 0)),(7,(aB Xht)),(8,AV.nils),(9,AV.nils),(10,(AV.ref 3 0 (X02.length))),(11,AV.nils),(12,(aI .i64 (k:Int))),(13,(aI .i64 (IntKind.i64.wrap ((IntKind.i64.wrap ((X2p.length:Int) - 1)) - (k:Int))))),(81,(aB Xvy))],hp ([(0,Ob [(Xs false Xo)] 10),(3,Ob (List.map (aI .i64) X02) 1)]),5⟩) ?_ (fun J=>X3.cut ?_)
   ·
    revert h
    refine brI (fun h1346=>fun e=>Xa [Bt] (k:=wkT [] (C1  (oj e).symm))) fun h1346=>bI fun u1347 h1348=>bI fun e1349 h1350=>?_
    try have qh1350:=Xc h1350
    refine bI fun u1351 h1352=>bI fun e1353 h1354=>?_
    try have qh1354:=Xc h1354
    refine bI fun u1355 h1356=>bI fun e1357 h1358=>?_
    try have qh1358:=Xc h1358
    refine bI fun u1359 h1360=>rnI [Bf,.el (X4 x),.no,.el (X4 e1349),.no,.el (aI .i64 e1353),.no,.el (aI .i64 e1357),.no] (o:=by repeat' first|apply Ya|exact pcM|(refine Xv h1348 rfl ?_;first|(simp;done)|(simp;omega)|(simp[hc,h1346];done)|(simp[hc,h1346];omega))|(refine Xf h1348 (by decide) ?_;first|(simp;done)|(simp;omega)|(simp[hc,h1346];done)|(simp[hc,h1346];omega))|(refine Xv h1352 rfl ?_;first|(simp;done)|(simp;omega)|(simp[hc,h1346];done)|(simp[hc,h1346];omega))|(refine Xf h1352 (by decide) ?_;first|(simp;done)|(simp;omega)|(simp[hc,h1346];done)|(simp[hc,h1346];omega))|(refine Xv h1356 rfl ?_;first|(simp;done)|(simp;omega)|(simp[hc,h1346];done)|(simp[hc,h1346];omega))|(refine Xf h1356 (by decide) ?_;first|(simp;done)|(simp;omega)|(simp[hc,h1346];done)|(simp[hc,h1346];omega))|(refine Xv h1360 rfl ?_;first|(simp;done)|(simp;omega)|(simp[hc,h1346];done)|(simp[hc,h1346];omega))|(refine Xf h1360 (by decide) ?_;first|(simp;done)|(simp;omega)|(simp[hc,h1346];done)|(simp[hc,h1346];omega))|exact Xw) ?_
    intro h
    exact wkT [(1,6),(2,8),(3,15),(4,22)] (ih (k+1) hx1 _ _ _ _ nbF nbF nbF nbF o h C0 C1)
   clear h;revert h1345
   refine bI fun v1339 h1340=>brI (fun h1341=>?_) fun h1341=>?_
   ·
    intro h
    obtain rfl:=oj h
    exact Xa [.el (X4 x),.pure _ (aB v1339),.go false,.go false,.go false,.go false,.go false,.go false,.go false,.go false,.go false,.go false] (o:=by repeat' first|apply Ya|exact pcM|exact((X9 h1341 rfl))|exact(Xd (X9 h1341 rfl))|exact(X47 (X9 h1341 rfl))|exact Xw) (k:=wkT [] (X3.glue J))
   refine bI fun e1342 h1343=>?_
   try have qh1343:=Xc h1343
   refine brI (fun h1344=>?_) fun h1344=>?_
   ·
    intro h
    obtain rfl:=oj h
    exact Xa [.el (X4 x),.pure _ (aB v1339),.go true,.go true,.go true,.el (aI .i64 e1342),.go true,.go true,.go false,.go false,.go false,.go false,.go false] (o:=by repeat' first|apply Ya|exact pcM|exact((Xb h1341 h1344))|exact(Xd (Xb h1341 h1344))|exact(X47 (Xb h1341 h1344))|exact Xw) (k:=wkT [] (X3.glue J))
   intro h
   obtain rfl:=oj h
   exact Xa [.el (X4 x),.pure _ (aB v1339),.go true,.go true,.go true,.el (aI .i64 e1342),.go true,.go true,.go true,.go true,.go true,.el (aI .i64 e1342),.go true,.go true] (o:=by repeat' first|apply Ya|exact pcM|exact((Xb h1341 h1344))|exact(Xd (Xb h1341 h1344))|exact(X88 (Xb h1341 h1344))|exact Xw) (k:=wkT [] (X3.glue J))
  obtain rfl:=X1d rfl
  rcases X28 with ⟨_|_,X0w⟩
  ·
   refine X3.round ?_
   revert h
   refine bI fun Xvx h1374=>rnI [.el (aI .i64 (X2p.length:Int)),Bt,.el (aI .i64 (X2p.length:Int)),.wrap,.wrap,.stop 10] ?_
   intro h
   refine X3.join (s':=⟨fr [(1,(Lf (List.map (aI .i64) X75))),(2,(Lf (X2p.map X4))),(3,(AV.ptr 0 0 0)),(7,(aB Xht)),(8,AV.nils),(9,AV.nils),(10,AV.nils),(11,(AV.ref 4 0 (X0k.length))),(12,(aI .i64 (k:Int))),(13,(aI .i64 (IntKind.i64.wrap ((IntKind.i64.wrap ((X2p.length:Int) - 1)) - (k:Int))))),(81,(aB Xvx))],hp ([(0,Ob [(Xs false Xo)] 10),(4,Ob (List.map (aI .i64) X0k) 1)]),5⟩) ?_ (fun J=>X3.cut ?_)
   ·
    revert h
    refine brI (fun h1375=>fun e=>Xa [Bt] (k:=wkT [] (C1  (oj e).symm))) fun h1375=>bI fun u1376 h1377=>bI fun e1378 h1379=>?_
    try have qh1379:=Xc h1379
    refine bI fun u1380 h1381=>bI fun e1382 h1383=>?_
    try have qh1383:=Xc h1383
    refine bI fun u1384 h1385=>bI fun e1386 h1387=>?_
    try have qh1387:=Xc h1387
    refine bI fun u1388 h1389=>rnI [Bf,.el (X4 x),.no,.el (X4 e1378),.no,.el (aI .i64 e1382),.no,.el (aI .i64 e1386),.no] (o:=by repeat' first|apply Ya|exact pcM|(refine Xv h1377 rfl ?_;first|(simp;done)|(simp;omega)|(simp[hc,h1375];done)|(simp[hc,h1375];omega))|(refine Xf h1377 (by decide) ?_;first|(simp;done)|(simp;omega)|(simp[hc,h1375];done)|(simp[hc,h1375];omega))|(refine Xv h1381 rfl ?_;first|(simp;done)|(simp;omega)|(simp[hc,h1375];done)|(simp[hc,h1375];omega))|(refine Xf h1381 (by decide) ?_;first|(simp;done)|(simp;omega)|(simp[hc,h1375];done)|(simp[hc,h1375];omega))|(refine Xv h1385 rfl ?_;first|(simp;done)|(simp;omega)|(simp[hc,h1375];done)|(simp[hc,h1375];omega))|(refine Xf h1385 (by decide) ?_;first|(simp;done)|(simp;omega)|(simp[hc,h1375];done)|(simp[hc,h1375];omega))|(refine Xv h1389 rfl ?_;first|(simp;done)|(simp;omega)|(simp[hc,h1375];done)|(simp[hc,h1375];omega))|(refine Xf h1389 (by decide) ?_;first|(simp;done)|(simp;omega)|(simp[hc,h1375];done)|(simp[hc,h1375];omega))|exact Xw) ?_
    intro h
    exact wkT [(1,6),(2,8),(3,15),(4,22)] (ih (k+1) hx1 _ _ _ _ nbF nbF nbF nbF o h C0 C1)
   clear h;revert h1374
   refine bI fun v1368 h1369=>brI (fun h1370=>?_) fun h1370=>?_
   ·
    intro h
    obtain rfl:=oj h
    exact Xa [.el (X4 x),.pure _ (aB v1368),.go false,.go false,.go false,.go false,.go false,.go false,.go false,.go false,.go false,.go false] (o:=by repeat' first|apply Ya|exact pcM|exact((X9 h1370 rfl))|exact(Xd (X9 h1370 rfl))|exact(X47 (X9 h1370 rfl))|exact Xw) (k:=wkT [] (X3.glue J))
   refine bI fun e1371 h1372=>?_
   try have qh1372:=Xc h1372
   refine brI (fun h1373=>?_) fun h1373=>?_
   ·
    intro h
    obtain rfl:=oj h
    exact Xa [.el (X4 x),.pure _ (aB v1368),.go true,.go true,.go true,.el (aI .i64 e1371),.go true,.go true,.go false,.go false,.go false,.go false,.go false] (o:=by repeat' first|apply Ya|exact pcM|exact((Xb h1370 h1373))|exact(Xd (Xb h1370 h1373))|exact(X47 (Xb h1370 h1373))|exact Xw) (k:=wkT [] (X3.glue J))
   intro h
   obtain rfl:=oj h
   exact Xa [.el (X4 x),.pure _ (aB v1368),.go true,.go true,.go true,.el (aI .i64 e1371),.go true,.go true,.go true,.go true,.go true,.el (aI .i64 e1371),.go true,.go true] (o:=by repeat' first|apply Ya|exact pcM|exact((Xb h1370 h1373))|exact(Xd (Xb h1370 h1373))|exact(X88 (Xb h1370 h1373))|exact Xw) (k:=wkT [] (X3.glue J))
  obtain rfl:=X0w rfl
  refine X3.round ?_
  revert h
  refine bI fun Xvw h1403=>rnI [.el (aI .i64 (X2p.length:Int)),Bt,.el (aI .i64 (X2p.length:Int)),.wrap,.wrap,.stop 10] ?_
  intro h
  refine X3.join (s':=⟨fr [(1,(Lf (List.map (aI .i64) X75))),(2,(Lf (X2p.map X4))),(3,(AV.ptr 0 0 0)),(7,(aB Xht)),(8,AV.nils),(9,AV.nils),(10,AV.nils),(11,AV.nils),(12,(aI .i64 (k:Int))),(13,(aI .i64 (IntKind.i64.wrap ((IntKind.i64.wrap ((X2p.length:Int) - 1)) - (k:Int))))),(81,(aB Xvw))],hp ([(0,Ob [(Xs false Xo)] 10)]),5⟩) ?_ (fun J=>X3.cut ?_)
  ·
   revert h
   refine brI (fun h1404=>fun e=>Xa [Bt] (k:=wkT [] (C1  (oj e).symm))) fun h1404=>bI fun u1405 h1406=>bI fun e1407 h1408=>?_
   try have qh1408:=Xc h1408
   refine bI fun u1409 h1410=>bI fun e1411 h1412=>?_
   try have qh1412:=Xc h1412
   refine bI fun u1413 h1414=>bI fun e1415 h1416=>?_
   try have qh1416:=Xc h1416
   refine bI fun u1417 h1418=>rnI [Bf,.el (X4 x),.no,.el (X4 e1407),.no,.el (aI .i64 e1411),.no,.el (aI .i64 e1415),.no] (o:=by repeat' first|apply Ya|exact pcM|(refine Xv h1406 rfl ?_;first|(simp;done)|(simp;omega)|(simp[hc,h1404];done)|(simp[hc,h1404];omega))|(refine Xf h1406 (by decide) ?_;first|(simp;done)|(simp;omega)|(simp[hc,h1404];done)|(simp[hc,h1404];omega))|(refine Xv h1410 rfl ?_;first|(simp;done)|(simp;omega)|(simp[hc,h1404];done)|(simp[hc,h1404];omega))|(refine Xf h1410 (by decide) ?_;first|(simp;done)|(simp;omega)|(simp[hc,h1404];done)|(simp[hc,h1404];omega))|(refine Xv h1414 rfl ?_;first|(simp;done)|(simp;omega)|(simp[hc,h1404];done)|(simp[hc,h1404];omega))|(refine Xf h1414 (by decide) ?_;first|(simp;done)|(simp;omega)|(simp[hc,h1404];done)|(simp[hc,h1404];omega))|(refine Xv h1418 rfl ?_;first|(simp;done)|(simp;omega)|(simp[hc,h1404];done)|(simp[hc,h1404];omega))|(refine Xf h1418 (by decide) ?_;first|(simp;done)|(simp;omega)|(simp[hc,h1404];done)|(simp[hc,h1404];omega))|exact Xw) ?_
   intro h
   exact wkT [(1,6),(2,8),(3,15),(4,22)] (ih (k+1) hx1 _ _ _ _ nbF nbF nbF nbF o h C0 C1)
  clear h;revert h1403
  refine bI fun v1397 h1398=>brI (fun h1399=>?_) fun h1399=>?_
  ·
   intro h
   obtain rfl:=oj h
   exact Xa [.el (X4 x),.pure _ (aB v1397),.go false,.go false,.go false,.go false,.go false,.go false,.go false,.go false,.go false,.go false] (o:=by repeat' first|apply Ya|exact pcM|exact((X9 h1399 rfl))|exact(Xd (X9 h1399 rfl))|exact(X47 (X9 h1399 rfl))|exact Xw) (k:=wkT [] (X3.glue J))
  refine bI fun e1400 h1401=>?_
  try have qh1401:=Xc h1401
  refine brI (fun h1402=>?_) fun h1402=>?_
  ·
   intro h
   obtain rfl:=oj h
   exact Xa [.el (X4 x),.pure _ (aB v1397),.go true,.go true,.go true,.el (aI .i64 e1400),.go true,.go true,.go false,.go false,.go false,.go false,.go false] (o:=by repeat' first|apply Ya|exact pcM|exact((Xb h1399 h1402))|exact(Xd (Xb h1399 h1402))|exact(X47 (Xb h1399 h1402))|exact Xw) (k:=wkT [] (X3.glue J))
  intro h
  obtain rfl:=oj h
  exact Xa [.el (X4 x),.pure _ (aB v1397),.go true,.go true,.go true,.el (aI .i64 e1400),.go true,.go true,.go true,.go true,.go true,.el (aI .i64 e1400),.go true,.go true] (o:=by repeat' first|apply Ya|exact pcM|exact((Xb h1399 h1402))|exact(Xd (Xb h1399 h1402))|exact(X88 (Xb h1399 h1402))|exact Xw) (k:=wkT [] (X3.glue J))
end Go.Av.Tryz