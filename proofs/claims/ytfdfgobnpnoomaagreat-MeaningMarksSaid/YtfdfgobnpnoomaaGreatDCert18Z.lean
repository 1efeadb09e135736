/- Printed by decomp.py: that the program computes the functions. -/
import Derived.Test.YtfdfgobnpnoomaaGreatDCert15Z
import Derived.Test.YtfdfgobnpnoomaaGreatDCert17Z
set_option linter.all false

namespace Go.Av.Tryz
open Go.Proofs Go.D
set_option maxRecDepth 10000
set_option maxHeartbeats 40000000
instance Xcz:PCs Tryz.prog 7 (∀ (a0:X03) (a1:(List (List Xb))) (r:Bool),X42 a0 a1=some r->X11 Tryz.prog 7 [(Xl false a0),(Lf (List.map (X0e false X0) a1))] (aB r)):=⟨fun a0 a1 r h=>by
 refine X11.sym Xh fn7 (nt:=188) rfl rfl ?_ okM
 unfold X42 at h
 revert h
 refine bI fun v1 h2=>bI fun v3 h4=>brI (fun h5=>fun e=>oj e▸Xc [.pure _ (aB v1),.pure _ (aB v3),Bt] (k:=fi)) fun h5=>bI fun v6 h7=>bI fun v8 h9=>bI fun v10 h11=>bI fun Xx1 h29=>rnI [.pure _ (aB v1),.pure _ (aB v3),Bf,.pure _ (AV.tup [(AV.list true (v6.1.map Xg)),(AV.list true (v6.2.1.map X7)),(aI .i64 v6.2.2)]),.pure _ (AV.tup [(AV.list true (v8.1.map Xg)),(AV.list true (v8.2.1.map X7)),(aI .i64 v8.2.2)]),.pure _ (AV.tup [(aI .i64 v10.1),(aI .i64 v10.2)]),.stop 7] ?_
 intro h
 refine X3.join (s':=⟨fr [(1,(Lf (List.map (X0e false X0) a1))),(2,(AV.ptr 0 0 0)),(5,(aB v1)),(6,(AV.list true (v6.1.map Xg))),(9,(AV.list true (v8.1.map Xg))),(12,(aI .i64 v10.1)),(80,(aB Xx1))],hp ([(0,Ob [(Xl false a0)] 10)]),1⟩) ?_ (fun J=>X3.cut ?_)
 ·
  revert h
  refine brI (fun h30=>fun e=>oj e▸Xc [Bt] (k:=fi)) fun h30=>bI fun u31 h32=>?_
  have qh32:=X0u h32
  refine bI fun o37 h38=>rnI [Bf] ?_
  intro h
  refine wkT [] (X3.cut (Xbc a1 a0 v1 v6.1 v8.1 v10.1 qh32 v6.1 0 (by simp) _ h38 ?_ ?_))
  ·
   intro eo37;subst eo37
   refine X3.glue ?_
   try dsimp only at h
   revert h
   refine bI fun u39 h40=>?_
   have qh40:=X0u h40
   refine bI fun o5982 h5983=>rnI [] ?_
   intro h
   refine wkT [] (X3.cut (Xbb a1 a0 v1 v6.1 qh40 a1 0 (by simp) _ _ nbS nbS _ h5983 ?_))
   intro X22 X5e X1i X31 eo5982;subst eo5982
   refine X3.glue ?_
   try dsimp only at h
   rcases X1i with ⟨_|_,X3j⟩
   ·
    rcases X31 with ⟨_|_,X4p⟩
    ·
     revert h
     refine bI fun v5984 h5985=>bI fun v5986 h5987=>bI fun Xpz h6003=>rnI [.pure _ (AV.tup [(AV.list true (v5984.1.map Xg)),(AV.list true (v5984.2.1.map X7)),(aI .i64 v5984.2.2)]),.pure _ (AV.tup [(AV.list true (v5986.1.map Xg)),(AV.list true (v5986.2.1.map X7)),(aI .i64 v5986.2.2)]),.stop 28] ?_
     intro h
     refine X3.join (s':=⟨fr [(4,(aB Xpz))],hp ([]),0⟩) ?_ (fun J=>X3.cut ?_)
     ·
      revert h
      exact fun e=>oj e▸Xc [] (k:=fi)
     clear h;revert h6003
     refine brI (fun h5996=>?_) fun h5996=>?_
     ·
      refine brI (fun h5997=>?_) fun h5997=>?_
      ·
       refine bI fun v5998 h5999=>brI (fun h6000=>?_) fun h6000=>?_
       ·
        refine brI (fun h6001=>?_) fun h6001=>?_
        ·
         refine rnI [.go true,.go true,.go true,.go true,.go true,.pure _ (aB v5998),.go true,.go true,.go true,.go true,.el (aI .i64 (v5986.1.length:Int)),.go true,.stop 999999] (o:=by repeat' first|apply Ya|exact pcM|exact((X5 h5996 h5997))|exact(Xk (X5 h5996 h5997))|exact(X7r (X5 h5996 h5997))|exact((X5 (X5 h5996 h5997) h6000))|exact(Xk (X5 (X5 h5996 h5997) h6000))|exact(X7r (X5 (X5 h5996 h5997) h6000))|exact((X5 (X5 (X5 h5996 h5997) h6000) h6001))|exact(Xk (X5 (X5 (X5 h5996 h5997) h6000) h6001))|exact(X7r (X5 (X5 (X5 h5996 h5997) h6000) h6001))|exact Xw) ?_
         refine brI (fun h6002=>?_) fun h6002=>?_
         ·
          intro h
          obtain rfl:=oj h
          exact Xc [.go true,.go true,.el (aI .i64 (v5986.2.1.length:Int)),.go true] (o:=by repeat' first|apply Ya|exact pcM|exact((X5 (X5 (X5 (X5 h5996 h5997) h6000) h6001) h6002))|exact(Xk (X5 (X5 (X5 (X5 h5996 h5997) h6000) h6001) h6002))|exact(X7r (X5 (X5 (X5 (X5 h5996 h5997) h6000) h6001) h6002))|exact Xw) (k:=wkT [] (X3.glue J))
         intro h
         obtain rfl:=oj h
         exact Xc [.go false,.go false,.go false] (o:=by repeat' first|apply Ya|exact pcM|exact((X5 (X5 (X5 (X5 h5996 h5997) h6000) h6001) h6002))|exact(Xk (X5 (X5 (X5 (X5 h5996 h5997) h6000) h6001) h6002))|exact(X3f (X5 (X5 (X5 (X5 h5996 h5997) h6000) h6001) h6002))|exact Xw) (k:=wkT [] (X3.glue J))
        intro h
        obtain rfl:=oj h
        exact Xc [.go true,.go true,.go true,.go true,.go true,.pure _ (aB v5998),.go true,.go true,.go false,.go false,.go false,.go false,.go false,.go false] (o:=by repeat' first|apply Ya|exact pcM|exact((X5 h5996 h5997))|exact(Xk (X5 h5996 h5997))|exact(X7r (X5 h5996 h5997))|exact((X5 (X5 h5996 h5997) h6000))|exact(Xk (X5 (X5 h5996 h5997) h6000))|exact(X7r (X5 (X5 h5996 h5997) h6000))|exact((X5 (X5 (X5 h5996 h5997) h6000) h6001))|exact(Xk (X5 (X5 (X5 h5996 h5997) h6000) h6001))|exact(X3f (X5 (X5 (X5 h5996 h5997) h6000) h6001))|exact((Xf (X5 (X5 (X5 h5996 h5997) h6000) h6001) rfl))|exact(Xk (Xf (X5 (X5 (X5 h5996 h5997) h6000) h6001) rfl))|exact(X3f (Xf (X5 (X5 (X5 h5996 h5997) h6000) h6001) rfl))|exact Xw) (k:=wkT [] (X3.glue J))
       intro h
       obtain rfl:=oj h
       exact Xc [.go true,.go true,.go true,.go true,.go true,.pure _ (aB v5998),.go false,.go false,.go false,.go false,.go false,.go false,.go false,.go false] (o:=by repeat' first|apply Ya|exact pcM|exact((X5 h5996 h5997))|exact(Xk (X5 h5996 h5997))|exact(X7r (X5 h5996 h5997))|exact((X5 (X5 h5996 h5997) h6000))|exact(Xk (X5 (X5 h5996 h5997) h6000))|exact(X3f (X5 (X5 h5996 h5997) h6000))|exact((Xf (X5 (X5 h5996 h5997) h6000) rfl))|exact(Xk (Xf (X5 (X5 h5996 h5997) h6000) rfl))|exact(X3f (Xf (X5 (X5 h5996 h5997) h6000) rfl))|exact((Xf (Xf (X5 (X5 h5996 h5997) h6000) rfl) rfl))|exact(Xk (Xf (Xf (X5 (X5 h5996 h5997) h6000) rfl) rfl))|exact(X3f (Xf (Xf (X5 (X5 h5996 h5997) h6000) rfl) rfl))|exact Xw) (k:=wkT [] (X3.glue J))
      intro h
      obtain rfl:=oj h
      exact Xc [.go true,.go true,.go false,.go false,.go false,.go false,.go false,.go false,.go false,.go false,.go false,.go false,.go false] (o:=by repeat' first|apply Ya|exact pcM|exact((X5 h5996 h5997))|exact(Xk (X5 h5996 h5997))|exact(X3f (X5 h5996 h5997))|exact((Xf (X5 h5996 h5997) rfl))|exact(Xk (Xf (X5 h5996 h5997) rfl))|exact(X3f (Xf (X5 h5996 h5997) rfl))|exact((Xf (Xf (X5 h5996 h5997) rfl) rfl))|exact(Xk (Xf (Xf (X5 h5996 h5997) rfl) rfl))|exact(X3f (Xf (Xf (X5 h5996 h5997) rfl) rfl))|exact((Xf (Xf (Xf (X5 h5996 h5997) rfl) rfl) rfl))|exact(Xk (Xf (Xf (Xf (X5 h5996 h5997) rfl) rfl) rfl))|exact(X3f (Xf (Xf (Xf (X5 h5996 h5997) rfl) rfl) rfl))|exact Xw) (k:=wkT [] (X3.glue J))
     intro h
     obtain rfl:=oj h
     exact Xc [.go false,.go false,.go false,.go false,.go false,.go false,.go false,.go false,.go false,.go false,.go false,.go false,.go false] (o:=by repeat' first|apply Ya|exact pcM|exact((Xf h5996 rfl))|exact(Xk (Xf h5996 rfl))|exact(X3f (Xf h5996 rfl))|exact((Xf (Xf h5996 rfl) rfl))|exact(Xk (Xf (Xf h5996 rfl) rfl))|exact(X3f (Xf (Xf h5996 rfl) rfl))|exact((Xf (Xf (Xf h5996 rfl) rfl) rfl))|exact(Xk (Xf (Xf (Xf h5996 rfl) rfl) rfl))|exact(X3f (Xf (Xf (Xf h5996 rfl) rfl) rfl))|exact((Xf (Xf (Xf (Xf h5996 rfl) rfl) rfl) rfl))|exact(Xk (Xf (Xf (Xf (Xf h5996 rfl) rfl) rfl) rfl))|exact(X3f (Xf (Xf (Xf (Xf h5996 rfl) rfl) rfl) rfl))|exact Xw) (k:=wkT [] (X3.glue J))
    obtain rfl:=X4p rfl
    revert h
    refine bI fun v6004 h6005=>bI fun v6006 h6007=>bI fun X03a h6023=>rnI [.pure _ (AV.tup [(AV.list true (v6004.1.map Xg)),(AV.list true (v6004.2.1.map X7)),(aI .i64 v6004.2.2)]),.pure _ (AV.tup [(AV.list true (v6006.1.map Xg)),(AV.list true (v6006.2.1.map X7)),(aI .i64 v6006.2.2)]),.stop 28] ?_
    intro h
    refine X3.join (s':=⟨fr [(4,(aB X03a))],hp ([]),0⟩) ?_ (fun J=>X3.cut ?_)
    ·
     revert h
     exact fun e=>oj e▸Xc [] (k:=fi)
    clear h;revert h6023
    refine brI (fun h6016=>?_) fun h6016=>?_
    ·
     refine brI (fun h6017=>?_) fun h6017=>?_
     ·
      refine bI fun v6018 h6019=>brI (fun h6020=>?_) fun h6020=>?_
      ·
       refine brI (fun h6021=>?_) fun h6021=>?_
       ·
        refine rnI [.go true,.go true,.go true,.go true,.go true,.pure _ (aB v6018),.go true,.go true,.go true,.go true,.el (aI .i64 (v6006.1.length:Int)),.go true,.stop 999999] (o:=by repeat' first|apply Ya|exact pcM|exact((X5 h6016 h6017))|exact(Xk (X5 h6016 h6017))|exact(X7r (X5 h6016 h6017))|exact((X5 (X5 h6016 h6017) h6020))|exact(Xk (X5 (X5 h6016 h6017) h6020))|exact(X7r (X5 (X5 h6016 h6017) h6020))|exact((X5 (X5 (X5 h6016 h6017) h6020) h6021))|exact(Xk (X5 (X5 (X5 h6016 h6017) h6020) h6021))|exact(X7r (X5 (X5 (X5 h6016 h6017) h6020) h6021))|exact Xw) ?_
        refine brI (fun h6022=>?_) fun h6022=>?_
        ·
         intro h
         obtain rfl:=oj h
         exact Xc [.go true,.go true,.el (aI .i64 (v6006.2.1.length:Int)),.go true] (o:=by repeat' first|apply Ya|exact pcM|exact((X5 (X5 (X5 (X5 h6016 h6017) h6020) h6021) h6022))|exact(Xk (X5 (X5 (X5 (X5 h6016 h6017) h6020) h6021) h6022))|exact(X7r (X5 (X5 (X5 (X5 h6016 h6017) h6020) h6021) h6022))|exact Xw) (k:=wkT [] (X3.glue J))
        intro h
        obtain rfl:=oj h
        exact Xc [.go false,.go false,.go false] (o:=by repeat' first|apply Ya|exact pcM|exact((X5 (X5 (X5 (X5 h6016 h6017) h6020) h6021) h6022))|exact(Xk (X5 (X5 (X5 (X5 h6016 h6017) h6020) h6021) h6022))|exact(X3f (X5 (X5 (X5 (X5 h6016 h6017) h6020) h6021) h6022))|exact Xw) (k:=wkT [] (X3.glue J))
       intro h
       obtain rfl:=oj h
       exact Xc [.go true,.go true,.go true,.go true,.go true,.pure _ (aB v6018),.go true,.go true,.go false,.go false,.go false,.go false,.go false,.go false] (o:=by repeat' first|apply Ya|exact pcM|exact((X5 h6016 h6017))|exact(Xk (X5 h6016 h6017))|exact(X7r (X5 h6016 h6017))|exact((X5 (X5 h6016 h6017) h6020))|exact(Xk (X5 (X5 h6016 h6017) h6020))|exact(X7r (X5 (X5 h6016 h6017) h6020))|exact((X5 (X5 (X5 h6016 h6017) h6020) h6021))|exact(Xk (X5 (X5 (X5 h6016 h6017) h6020) h6021))|exact(X3f (X5 (X5 (X5 h6016 h6017) h6020) h6021))|exact((Xf (X5 (X5 (X5 h6016 h6017) h6020) h6021) rfl))|exact(Xk (Xf (X5 (X5 (X5 h6016 h6017) h6020) h6021) rfl))|exact(X3f (Xf (X5 (X5 (X5 h6016 h6017) h6020) h6021) rfl))|exact Xw) (k:=wkT [] (X3.glue J))
      intro h
      obtain rfl:=oj h
      exact Xc [.go true,.go true,.go true,.go true,.go true,.pure _ (aB v6018),.go false,.go false,.go false,.go false,.go false,.go false,.go false,.go false] (o:=by repeat' first|apply Ya|exact pcM|exact((X5 h6016 h6017))|exact(Xk (X5 h6016 h6017))|exact(X7r (X5 h6016 h6017))|exact((X5 (X5 h6016 h6017) h6020))|exact(Xk (X5 (X5 h6016 h6017) h6020))|exact(X3f (X5 (X5 h6016 h6017) h6020))|exact((Xf (X5 (X5 h6016 h6017) h6020) rfl))|exact(Xk (Xf (X5 (X5 h6016 h6017) h6020) rfl))|exact(X3f (Xf (X5 (X5 h6016 h6017) h6020) rfl))|exact((Xf (Xf (X5 (X5 h6016 h6017) h6020) rfl) rfl))|exact(Xk (Xf (Xf (X5 (X5 h6016 h6017) h6020) rfl) rfl))|exact(X3f (Xf (Xf (X5 (X5 h6016 h6017) h6020) rfl) rfl))|exact Xw) (k:=wkT [] (X3.glue J))
     intro h
     obtain rfl:=oj h
     exact Xc [.go true,.go true,.go false,.go false,.go false,.go false,.go false,.go false,.go false,.go false,.go false,.go false,.go false] (o:=by repeat' first|apply Ya|exact pcM|exact((X5 h6016 h6017))|exact(Xk (X5 h6016 h6017))|exact(X3f (X5 h6016 h6017))|exact((Xf (X5 h6016 h6017) rfl))|exact(Xk (Xf (X5 h6016 h6017) rfl))|exact(X3f (Xf (X5 h6016 h6017) rfl))|exact((Xf (Xf (X5 h6016 h6017) rfl) rfl))|exact(Xk (Xf (Xf (X5 h6016 h6017) rfl) rfl))|exact(X3f (Xf (Xf (X5 h6016 h6017) rfl) rfl))|exact((Xf (Xf (Xf (X5 h6016 h6017) rfl) rfl) rfl))|exact(Xk (Xf (Xf (Xf (X5 h6016 h6017) rfl) rfl) rfl))|exact(X3f (Xf (Xf (Xf (X5 h6016 h6017) rfl) rfl) rfl))|exact Xw) (k:=wkT [] (X3.glue J))
    intro h
    obtain rfl:=oj h
    exact Xc [.go false,.go false,.go false,.go false,.go false,.go false,.go false,.go false,.go false,.go false,.go false,.go false,.go false] (o:=by repeat' first|apply Ya|exact pcM|exact((Xf h6016 rfl))|exact(Xk (Xf h6016 rfl))|exact(X3f (Xf h6016 rfl))|exact((Xf (Xf h6016 rfl) rfl))|exact(Xk (Xf (Xf h6016 rfl) rfl))|exact(X3f (Xf (Xf h6016 rfl) rfl))|exact((Xf (Xf (Xf h6016 rfl) rfl) rfl))|exact(Xk (Xf (Xf (Xf h6016 rfl) rfl) rfl))|exact(X3f (Xf (Xf (Xf h6016 rfl) rfl) rfl))|exact((Xf (Xf (Xf (Xf h6016 rfl) rfl) rfl) rfl))|exact(Xk (Xf (Xf (Xf (Xf h6016 rfl) rfl) rfl) rfl))|exact(X3f (Xf (Xf (Xf (Xf h6016 rfl) rfl) rfl) rfl))|exact Xw) (k:=wkT [] (X3.glue J))
   obtain rfl:=X3j rfl
   rcases X31 with ⟨_|_,X4p⟩
   ·
    revert h
    refine bI fun v6024 h6025=>bI fun v6026 h6027=>bI fun X039 h6043=>rnI [.pure _ (AV.tup [(AV.list true (v6024.1.map Xg)),(AV.list true (v6024.2.1.map X7)),(aI .i64 v6024.2.2)]),.pure _ (AV.tup [(AV.list true (v6026.1.map Xg)),(AV.list true (v6026.2.1.map X7)),(aI .i64 v6026.2.2)]),.stop 28] ?_
    intro h
    refine X3.join (s':=⟨fr [(4,(aB X039))],hp ([]),0⟩) ?_ (fun J=>X3.cut ?_)
    ·
     revert h
     exact fun e=>oj e▸Xc [] (k:=fi)
    clear h;revert h6043
    refine brI (fun h6036=>?_) fun h6036=>?_
    ·
     refine brI (fun h6037=>?_) fun h6037=>?_
     ·
      refine bI fun v6038 h6039=>brI (fun h6040=>?_) fun h6040=>?_
      ·
       refine brI (fun h6041=>?_) fun h6041=>?_
       ·
        refine rnI [.go true,.go true,.go true,.go true,.go true,.pure _ (aB v6038),.go true,.go true,.go true,.go true,.el (aI .i64 (v6026.1.length:Int)),.go true,.stop 999999] (o:=by repeat' first|apply Ya|exact pcM|exact((X5 h6036 h6037))|exact(Xk (X5 h6036 h6037))|exact(X7r (X5 h6036 h6037))|exact((X5 (X5 h6036 h6037) h6040))|exact(Xk (X5 (X5 h6036 h6037) h6040))|exact(X7r (X5 (X5 h6036 h6037) h6040))|exact((X5 (X5 (X5 h6036 h6037) h6040) h6041))|exact(Xk (X5 (X5 (X5 h6036 h6037) h6040) h6041))|exact(X7r (X5 (X5 (X5 h6036 h6037) h6040) h6041))|exact Xw) ?_
        refine brI (fun h6042=>?_) fun h6042=>?_
        ·
         intro h
         obtain rfl:=oj h
         exact Xc [.go true,.go true,.el (aI .i64 (v6026.2.1.length:Int)),.go true] (o:=by repeat' first|apply Ya|exact pcM|exact((X5 (X5 (X5 (X5 h6036 h6037) h6040) h6041) h6042))|exact(Xk (X5 (X5 (X5 (X5 h6036 h6037) h6040) h6041) h6042))|exact(X7r (X5 (X5 (X5 (X5 h6036 h6037) h6040) h6041) h6042))|exact Xw) (k:=wkT [] (X3.glue J))
        intro h
        obtain rfl:=oj h
        exact Xc [.go false,.go false,.go false] (o:=by repeat' first|apply Ya|exact pcM|exact((X5 (X5 (X5 (X5 h6036 h6037) h6040) h6041) h6042))|exact(Xk (X5 (X5 (X5 (X5 h6036 h6037) h6040) h6041) h6042))|exact(X3f (X5 (X5 (X5 (X5 h6036 h6037) h6040) h6041) h6042))|exact Xw) (k:=wkT [] (X3.glue J))
       intro h
       obtain rfl:=oj h
       exact Xc [.go true,.go true,.go true,.go true,.go true,.pure _ (aB v6038),.go true,.go true,.go false,.go false,.go false,.go false,.go false,.go false] (o:=by repeat' first|apply Ya|exact pcM|exact((X5 h6036 h6037))|exact(Xk (X5 h6036 h6037))|exact(X7r (X5 h6036 h6037))|exact((X5 (X5 h6036 h6037) h6040))|exact(Xk (X5 (X5 h6036 h6037) h6040))|exact(X7r (X5 (X5 h6036 h6037) h6040))|exact((X5 (X5 (X5 h6036 h6037) h6040) h6041))|exact(Xk (X5 (X5 (X5 h6036 h6037) h6040) h6041))|exact(X3f (X5 (X5 (X5 h6036 h6037) h6040) h6041))|exact((Xf (X5 (X5 (X5 h6036 h6037) h6040) h6041) rfl))|exact(Xk (Xf (X5 (X5 (X5 h6036 h6037) h6040) h6041) rfl))|exact(X3f (Xf (X5 (X5 (X5 h6036 h6037) h6040) h6041) rfl))|exact Xw) (k:=wkT [] (X3.glue J))
      intro h
      obtain rfl:=oj h
      exact Xc [.go true,.go true,.go true,.go true,.go true,.pure _ (aB v6038),.go false,.go false,.go false,.go false,.go false,.go false,.go false,.go false] (o:=by repeat' first|apply Ya|exact pcM|exact((X5 h6036 h6037))|exact(Xk (X5 h6036 h6037))|exact(X7r (X5 h6036 h6037))|exact((X5 (X5 h6036 h6037) h6040))|exact(Xk (X5 (X5 h6036 h6037) h6040))|exact(X3f (X5 (X5 h6036 h6037) h6040))|exact((Xf (X5 (X5 h6036 h6037) h6040) rfl))|exact(Xk (Xf (X5 (X5 h6036 h6037) h6040) rfl))|exact(X3f (Xf (X5 (X5 h6036 h6037) h6040) rfl))|exact((Xf (Xf (X5 (X5 h6036 h6037) h6040) rfl) rfl))|exact(Xk (Xf (Xf (X5 (X5 h6036 h6037) h6040) rfl) rfl))|exact(X3f (Xf (Xf (X5 (X5 h6036 h6037) h6040) rfl) rfl))|exact Xw) (k:=wkT [] (X3.glue J))
     intro h
     obtain rfl:=oj h
     exact Xc [.go true,.go true,.go false,.go false,.go false,.go false,.go false,.go false,.go false,.go false,.go false,.go false,.go false] (o:=by repeat' first|apply Ya|exact pcM|exact((X5 h6036 h6037))|exact(Xk (X5 h6036 h6037))|exact(X3f (X5 h6036 h6037))|exact((Xf (X5 h6036 h6037) rfl))|exact(Xk (Xf (X5 h6036 h6037) rfl))|exact(X3f (Xf (X5 h6036 h6037) rfl))|exact((Xf (Xf (X5 h6036 h6037) rfl) rfl))|exact(Xk (Xf (Xf (X5 h6036 h6037) rfl) rfl))|exact(X3f (Xf (Xf (X5 h6036 h6037) rfl) rfl))|exact((Xf (Xf (Xf (X5 h6036 h6037) rfl) rfl) rfl))|exact(Xk (Xf (Xf (Xf (X5 h6036 h6037) rfl) rfl) rfl))|exact(X3f (Xf (Xf (Xf (X5 h6036 h6037) rfl) rfl) rfl))|exact Xw) (k:=wkT [] (X3.glue J))
    intro h
    obtain rfl:=oj h
    exact Xc [.go false,.go false,.go false,.go false,.go false,.go false,.go false,.go false,.go false,.go false,.go false,.go false,.go false] (o:=by repeat' first|apply Ya|exact pcM|exact((Xf h6036 rfl))|exact(Xk (Xf h6036 rfl))|exact(X3f (Xf h6036 rfl))|exact((Xf (Xf h6036 rfl) rfl))|exact(Xk (Xf (Xf h6036 rfl) rfl))|exact(X3f (Xf (Xf h6036 rfl) rfl))|exact((Xf (Xf (Xf h6036 rfl) rfl) rfl))|exact(Xk (Xf (Xf (Xf h6036 rfl) rfl) rfl))|exact(X3f (Xf (Xf (Xf h6036 rfl) rfl) rfl))|exact((Xf (Xf (Xf (Xf h6036 rfl) rfl) rfl) rfl))|exact(Xk (Xf (Xf (Xf (Xf h6036 rfl) rfl) rfl) rfl))|exact(X3f (Xf (Xf (Xf (Xf h6036 rfl) rfl) rfl) rfl))|exact Xw) (k:=wkT [] (X3.glue J))
   obtain rfl:=X4p rfl
   revert h
   refine bI fun v6044 h6045=>bI fun v6046 h6047=>bI fun X038 h6063=>rnI [.pure _ (AV.tup [(AV.list true (v6044.1.map Xg)),(AV.list true (v6044.2.1.map X7)),(aI .i64 v6044.2.2)]),.pure _ (AV.tup [(AV.list true (v6046.1.map Xg)),(AV.list true (v6046.2.1.map X7)),(aI .i64 v6046.2.2)]),.stop 28] ?_
   intro h
   refine X3.join (s':=⟨fr [(4,(aB X038))],hp ([]),0⟩) ?_ (fun J=>X3.cut ?_)
   ·
    revert h
    exact fun e=>oj e▸Xc [] (k:=fi)
   clear h;revert h6063
   refine brI (fun h6056=>?_) fun h6056=>?_
   ·
    refine brI (fun h6057=>?_) fun h6057=>?_
    ·
     refine bI fun v6058 h6059=>brI (fun h6060=>?_) fun h6060=>?_
     ·
      refine brI (fun h6061=>?_) fun h6061=>?_
      ·
       refine rnI [.go true,.go true,.go true,.go true,.go true,.pure _ (aB v6058),.go true,.go true,.go true,.go true,.el (aI .i64 (v6046.1.length:Int)),.go true,.stop 999999] (o:=by repeat' first|apply Ya|exact pcM|exact((X5 h6056 h6057))|exact(Xk (X5 h6056 h6057))|exact(X7r (X5 h6056 h6057))|exact((X5 (X5 h6056 h6057) h6060))|exact(Xk (X5 (X5 h6056 h6057) h6060))|exact(X7r (X5 (X5 h6056 h6057) h6060))|exact((X5 (X5 (X5 h6056 h6057) h6060) h6061))|exact(Xk (X5 (X5 (X5 h6056 h6057) h6060) h6061))|exact(X7r (X5 (X5 (X5 h6056 h6057) h6060) h6061))|exact Xw) ?_
       refine brI (fun h6062=>?_) fun h6062=>?_
       ·
        intro h
        obtain rfl:=oj h
        exact Xc [.go true,.go true,.el (aI .i64 (v6046.2.1.length:Int)),.go true] (o:=by repeat' first|apply Ya|exact pcM|exact((X5 (X5 (X5 (X5 h6056 h6057) h6060) h6061) h6062))|exact(Xk (X5 (X5 (X5 (X5 h6056 h6057) h6060) h6061) h6062))|exact(X7r (X5 (X5 (X5 (X5 h6056 h6057) h6060) h6061) h6062))|exact Xw) (k:=wkT [] (X3.glue J))
       intro h
       obtain rfl:=oj h
       exact Xc [.go false,.go false,.go false] (o:=by repeat' first|apply Ya|exact pcM|exact((X5 (X5 (X5 (X5 h6056 h6057) h6060) h6061) h6062))|exact(Xk (X5 (X5 (X5 (X5 h6056 h6057) h6060) h6061) h6062))|exact(X3f (X5 (X5 (X5 (X5 h6056 h6057) h6060) h6061) h6062))|exact Xw) (k:=wkT [] (X3.glue J))
      intro h
      obtain rfl:=oj h
      exact Xc [.go true,.go true,.go true,.go true,.go true,.pure _ (aB v6058),.go true,.go true,.go false,.go false,.go false,.go false,.go false,.go false] (o:=by repeat' first|apply Ya|exact pcM|exact((X5 h6056 h6057))|exact(Xk (X5 h6056 h6057))|exact(X7r (X5 h6056 h6057))|exact((X5 (X5 h6056 h6057) h6060))|exact(Xk (X5 (X5 h6056 h6057) h6060))|exact(X7r (X5 (X5 h6056 h6057) h6060))|exact((X5 (X5 (X5 h6056 h6057) h6060) h6061))|exact(Xk (X5 (X5 (X5 h6056 h6057) h6060) h6061))|exact(X3f (X5 (X5 (X5 h6056 h6057) h6060) h6061))|exact((Xf (X5 (X5 (X5 h6056 h6057) h6060) h6061) rfl))|exact(Xk (Xf (X5 (X5 (X5 h6056 h6057) h6060) h6061) rfl))|exact(X3f (Xf (X5 (X5 (X5 h6056 h6057) h6060) h6061) rfl))|exact Xw) (k:=wkT [] (X3.glue J))
     intro h
     obtain rfl:=oj h
     exact Xc [.go true,.go true,.go true,.go true,.go true,.pure _ (aB v6058),.go false,.go false,.go false,.go false,.go false,.go false,.go false,.go false] (o:=by repeat' first|apply Ya|exact pcM|exact((X5 h6056 h6057))|exact(Xk (X5 h6056 h6057))|exact(X7r (X5 h6056 h6057))|exact((X5 (X5 h6056 h6057) h6060))|exact(Xk (X5 (X5 h6056 h6057) h6060))|exact(X3f (X5 (X5 h6056 h6057) h6060))|exact((Xf (X5 (X5 h6056 h6057) h6060) rfl))|exact(Xk (Xf (X5 (X5 h6056 h6057) h6060) rfl))|exact(X3f (Xf (X5 (X5 h6056 h6057) h6060) rfl))|exact((Xf (Xf (X5 (X5 h6056 h6057) h6060) rfl) rfl))|exact(Xk (Xf (Xf (X5 (X5 h6056 h6057) h6060) rfl) rfl))|exact(X3f (Xf (Xf (X5 (X5 h6056 h6057) h6060) rfl) rfl))|exact Xw) (k:=wkT [] (X3.glue J))
    intro h
    obtain rfl:=oj h
    exact Xc [.go true,.go true,.go false,.go false,.go false,.go false,.go false,.go false,.go false,.go false,.go false,.go false,.go false] (o:=by repeat' first|apply Ya|exact pcM|exact((X5 h6056 h6057))|exact(Xk (X5 h6056 h6057))|exact(X3f (X5 h6056 h6057))|exact((Xf (X5 h6056 h6057) rfl))|exact(Xk (Xf (X5 h6056 h6057) rfl))|exact(X3f (Xf (X5 h6056 h6057) rfl))|exact((Xf (Xf (X5 h6056 h6057) rfl) rfl))|exact(Xk (Xf (Xf (X5 h6056 h6057) rfl) rfl))|exact(X3f (Xf (Xf (X5 h6056 h6057) rfl) rfl))|exact((Xf (Xf (Xf (X5 h6056 h6057) rfl) rfl) rfl))|exact(Xk (Xf (Xf (Xf (X5 h6056 h6057) rfl) rfl) rfl))|exact(X3f (Xf (Xf (Xf (X5 h6056 h6057) rfl) rfl) rfl))|exact Xw) (k:=wkT [] (X3.glue J))
   intro h
   obtain rfl:=oj h
   exact Xc [.go false,.go false,.go false,.go false,.go false,.go false,.go false,.go false,.go false,.go false,.go false,.go false,.go false] (o:=by repeat' first|apply Ya|exact pcM|exact((Xf h6056 rfl))|exact(Xk (Xf h6056 rfl))|exact(X3f (Xf h6056 rfl))|exact((Xf (Xf h6056 rfl) rfl))|exact(Xk (Xf (Xf h6056 rfl) rfl))|exact(X3f (Xf (Xf h6056 rfl) rfl))|exact((Xf (Xf (Xf h6056 rfl) rfl) rfl))|exact(Xk (Xf (Xf (Xf h6056 rfl) rfl) rfl))|exact(X3f (Xf (Xf (Xf h6056 rfl) rfl) rfl))|exact((Xf (Xf (Xf (Xf h6056 rfl) rfl) rfl) rfl))|exact(Xk (Xf (Xf (Xf (Xf h6056 rfl) rfl) rfl) rfl))|exact(X3f (Xf (Xf (Xf (Xf h6056 rfl) rfl) rfl) rfl))|exact Xw) (k:=wkT [] (X3.glue J))
  intro eo37;subst eo37
  refine X3.glue ?_
  try dsimp only at h
  revert h
  exact fun e=>oj e▸Xc [] (k:=fi)
 clear h;revert h29
 refine brI (fun h21=>?_) fun h21=>?_
 ·
  intro h
  obtain rfl:=oj h
  exact Xc [.go false,.go false,.go false,.go false,.go false,.go false,.go false,.go false,.go false,.go false,.go false,.go false,.go false,.go false,.go false,.go false] (o:=by repeat' first|apply Ya|exact pcM|exact((X5 h21 rfl))|exact(Xk (X5 h21 rfl))|exact(X7r (X5 h21 rfl))|exact((X5 (X5 h21 rfl) rfl))|exact(Xk (X5 (X5 h21 rfl) rfl))|exact(X7r (X5 (X5 h21 rfl) rfl))|exact((X5 (X5 (X5 h21 rfl) rfl) rfl))|exact(Xk (X5 (X5 (X5 h21 rfl) rfl) rfl))|exact(X7r (X5 (X5 (X5 h21 rfl) rfl) rfl))|exact Xw) (k:=wkT [] (X3.glue J))
 refine brI (fun h22=>?_) fun h22=>?_
 ·
  intro h
  obtain rfl:=oj h
  exact Xc [.go true,.go true,.go false,.go false,.go false,.go false,.go false,.go false,.go false,.go false,.go false,.go false,.go false,.go false,.go false,.go false] (o:=by repeat' first|apply Ya|exact pcM|exact((Xf h21 h22))|exact(Xk (Xf h21 h22))|exact(X7r (Xf h21 h22))|exact((X5 (Xf h21 h22) rfl))|exact(Xk (X5 (Xf h21 h22) rfl))|exact(X7r (X5 (Xf h21 h22) rfl))|exact((X5 (X5 (Xf h21 h22) rfl) rfl))|exact(Xk (X5 (X5 (Xf h21 h22) rfl) rfl))|exact(X7r (X5 (X5 (Xf h21 h22) rfl) rfl))|exact Xw) (k:=wkT [] (X3.glue J))
 refine brI (fun h23=>?_) fun h23=>?_
 ·
  intro h
  obtain rfl:=oj h
  exact Xc [.go true,.go true,.go true,.go true,.go false,.go false,.go false,.go false,.go false,.go false,.go false,.go false,.go false,.go false,.go false,.go false] (o:=by repeat' first|apply Ya|exact pcM|exact((Xf h21 h22))|exact(Xk (Xf h21 h22))|exact(X3f (Xf h21 h22))|exact((Xf (Xf h21 h22) h23))|exact(Xk (Xf (Xf h21 h22) h23))|exact(X7r (Xf (Xf h21 h22) h23))|exact((X5 (Xf (Xf h21 h22) h23) rfl))|exact(Xk (X5 (Xf (Xf h21 h22) h23) rfl))|exact(X7r (X5 (Xf (Xf h21 h22) h23) rfl))|exact Xw) (k:=wkT [] (X3.glue J))
 refine rnI [.go true,.go true,.go true,.go true,.go true,.go true,.el (aI .i64 (v8.1.length:Int)),.go true,.go true,.el (aI .i64 (v6.1.length:Int)),.go true,.stop 999999] (o:=by repeat' first|apply Ya|exact pcM|exact((Xf h21 h22))|exact(Xk (Xf h21 h22))|exact(X3f (Xf h21 h22))|exact((Xf (Xf h21 h22) h23))|exact(Xk (Xf (Xf h21 h22) h23))|exact(X3f (Xf (Xf h21 h22) h23))|exact Xw) ?_
 refine brI (fun h24=>?_) fun h24=>?_
 ·
  intro h
  obtain rfl:=oj h
  exact Xc [.go false,.go false,.go false,.go false,.go false,.go false,.go false] (o:=by repeat' first|apply Ya|exact pcM|exact((Xf (Xf (Xf h21 h22) h23) h24))|exact(Xk (Xf (Xf (Xf h21 h22) h23) h24))|exact(X7r (Xf (Xf (Xf h21 h22) h23) h24))|exact Xw) (k:=wkT [] (X3.glue J))
 refine bI fun m25 h26=>?_
 obtain⟨qah26,qbh26,qch26,qh26⟩:=X37 h26
 have qlh26:=X70 h26
 refine bI fun v27 h28=>?_
 intro h
 obtain rfl:=oj h
 exact Xc [.go true,.go true,.go true,.go true,.el (aI .i64 (v8.1.length:Int)),.go true,.via (AV.list true (m25.map Xg)),.go true,.pure _ (aB v27),.go true] (o:=by repeat' first|apply Ya|exact pcM|exact((Xf (Xf (Xf h21 h22) h23) h24))|exact(Xk (Xf (Xf (Xf h21 h22) h23) h24))|(simp at qah26 qbh26 qch26 ⊢;omega)|(rw[qh26];simp[Ym,Yd];done)|exact(X3f (Xf (Xf (Xf h21 h22) h23) h24))|exact Xw) (k:=wkT [] (X3.glue J))⟩
end Go.Av.Tryz