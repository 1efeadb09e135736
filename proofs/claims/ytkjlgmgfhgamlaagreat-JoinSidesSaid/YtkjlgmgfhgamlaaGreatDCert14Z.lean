/- Printed by decomp.py: that the program computes the functions. -/
import Derived.Test.YtkjlgmgfhgamlaaGreatDCert12Z
import Derived.Test.YtkjlgmgfhgamlaaGreatDCert13Z
set_option linter.all false

namespace Go.Av.Tryz
open Go.Proofs Go.D
set_option maxRecDepth 10000
set_option maxHeartbeats 40000000
instance Xdq:PCs Tryz.prog 3 (∀ (a0:X06) (a1:(List Int)) (a2:(List Xm)) (a3:Int) (r:Bool),X59 a0 a1 a2 a3=some r->X0l Tryz.prog 3 [(Xx false a0),(Lf (List.map (aI .i64) a1)),(Lf (a2.map Xc)),(aI .i64 a3)] (aB r)):=⟨fun a0 a1 a2 a3 r h=>by
 refine X0l.sym X6 fn3 (nt:=207) rfl rfl ?_ okM
 unfold X59 at h
 revert h
 refine bI fun v1 h2=>bI fun Xss h28=>rnI [.pure _ (aB v1),.stop 2] ?_
 intro h
 refine X3.join (s':=⟨fr [(1,(Lf (List.map (aI .i64) a1))),(2,(Lf (a2.map Xc))),(3,(aI .i64 a3)),(4,(AV.ptr 0 0 0)),(9,(aB v1)),(54,(aB Xss))],hp ([(0,Ob [(Xx false a0)] 10)]),1⟩) ?_ (fun J=>X3.cut ?_)
 ·
  revert h
  refine brI (fun h29=>fun e=>oj e▸X9 [Bt] (k:=fi)) fun h29=>bI fun u30 h31=>?_
  have qh31:=X0k h31
  refine bI fun o585 h586=>rnI [Bf] ?_
  intro h
  refine wkT [] (X3.cut (Xbx a1 a2 a3 a0 v1 qh31 a2 0 (by simp) _ _ _ nbS nbS nbS _ h586 ?_ ?_))
  ·
   intro X09 X2a X2d X0m X2q X1h eo585;subst eo585
   refine X3.glue ?_
   try dsimp only at h
   rcases X0m with ⟨_|_,X2s⟩
   ·
    rcases X2q with ⟨_|_,X7g⟩
    ·
     rcases X1h with ⟨_|_,X2r⟩
     ·
      revert h
      refine bI fun v587 h588=>bI fun u589 h590=>bI fun u591 h592=>bI fun v593 h594=>bI fun u595 h596=>bI fun v597 h598=>bI fun Xjz h604=>rnI [.pure _ (Xh v587),.pure _ (Xh v587),.no,.see [(114,[0])],.no,.pure _ (AV.tup [(Xk true v593.1),(AV.list true (v593.2.1.map Xe)),(aB v593.2.2)]),.see [(124,[0])],.no,.pure _ (AV.tup [(Xk true v597.1),(AV.list true (v597.2.1.map Xe)),(aB v597.2.2)]),.stop 16] (o:=by repeat' first|apply Ya|exact pcM|(refine Xd h590 rfl ?_;first|(simp;done)|(simp;omega)|(simp[h29];done)|(simp[h29];omega))|(refine X7 h590 (by decide) ?_;first|(simp;done)|(simp;omega)|(simp[h29];done)|(simp[h29];omega))|(refine Xd h592 rfl ?_;first|(simp;done)|(simp;omega)|(simp[h29];done)|(simp[h29];omega))|(refine X7 h592 (by decide) ?_;first|(simp;done)|(simp;omega)|(simp[h29];done)|(simp[h29];omega))|(refine Xd h596 rfl ?_;first|(simp;done)|(simp;omega)|(simp[h29];done)|(simp[h29];omega))|(refine X7 h596 (by decide) ?_;first|(simp;done)|(simp;omega)|(simp[h29];done)|(simp[h29];omega))|exact Xu) ?_
      intro h
      refine X3.join (s':=⟨fr [(9,(aB v1)),(15,(AV.list true (v593.2.1.map Xe))),(18,(AV.list true (v597.2.1.map Xe))),(145,(aB Xjz))],hp ([]),0⟩) ?_ (fun J=>X3.cut ?_)
      ·
       revert h
       refine brI (fun h605=>?_) fun h605=>?_
       ·
        exact fun e=>oj e▸X9 [Bt] (o:=by repeat' first|apply Ya|exact pcM|(refine Xd h590 rfl ?_;first|(simp;done)|(simp;omega)|(simp[h29,h605];done)|(simp[h29,h605];omega))|(refine X7 h590 (by decide) ?_;first|(simp;done)|(simp;omega)|(simp[h29,h605];done)|(simp[h29,h605];omega))|(refine Xd h592 rfl ?_;first|(simp;done)|(simp;omega)|(simp[h29,h605];done)|(simp[h29,h605];omega))|(refine X7 h592 (by decide) ?_;first|(simp;done)|(simp;omega)|(simp[h29,h605];done)|(simp[h29,h605];omega))|(refine Xd h596 rfl ?_;first|(simp;done)|(simp;omega)|(simp[h29,h605];done)|(simp[h29,h605];omega))|(refine X7 h596 (by decide) ?_;first|(simp;done)|(simp;omega)|(simp[h29,h605];done)|(simp[h29,h605];omega))|exact Xu) (k:=fi)
       refine bI fun u606 h607=>?_
       have qh607:=X0k h607
       refine bI fun o648 h649=>rnI [Bf] (o:=by repeat' first|apply Ya|exact pcM|(refine Xd h590 rfl ?_;first|(simp;done)|(simp;omega)|(simp[h29,h605];done)|(simp[h29,h605];omega))|(refine X7 h590 (by decide) ?_;first|(simp;done)|(simp;omega)|(simp[h29,h605];done)|(simp[h29,h605];omega))|(refine Xd h592 rfl ?_;first|(simp;done)|(simp;omega)|(simp[h29,h605];done)|(simp[h29,h605];omega))|(refine X7 h592 (by decide) ?_;first|(simp;done)|(simp;omega)|(simp[h29,h605];done)|(simp[h29,h605];omega))|(refine Xd h596 rfl ?_;first|(simp;done)|(simp;omega)|(simp[h29,h605];done)|(simp[h29,h605];omega))|(refine X7 h596 (by decide) ?_;first|(simp;done)|(simp;omega)|(simp[h29,h605];done)|(simp[h29,h605];omega))|exact Xu) ?_
       intro h
       refine wkT [] (X3.cut (X1b v1 v593.2.1 v597.2.1 qh607 v593.2.1 0 (by simp) _ h649 ?_ ?_))
       ·
        intro eo648;subst eo648
        refine X3.glue ?_
        try dsimp only at h
        revert h
        exact fun e=>oj e▸X9 [] (o:=by repeat' first|apply Ya|exact pcM|(refine Xd h590 rfl ?_;first|(simp;done)|(simp;omega)|(simp[h29,h605];done)|(simp[h29,h605];omega))|(refine X7 h590 (by decide) ?_;first|(simp;done)|(simp;omega)|(simp[h29,h605];done)|(simp[h29,h605];omega))|(refine Xd h592 rfl ?_;first|(simp;done)|(simp;omega)|(simp[h29,h605];done)|(simp[h29,h605];omega))|(refine X7 h592 (by decide) ?_;first|(simp;done)|(simp;omega)|(simp[h29,h605];done)|(simp[h29,h605];omega))|(refine Xd h596 rfl ?_;first|(simp;done)|(simp;omega)|(simp[h29,h605];done)|(simp[h29,h605];omega))|(refine X7 h596 (by decide) ?_;first|(simp;done)|(simp;omega)|(simp[h29,h605];done)|(simp[h29,h605];omega))|exact Xu) (k:=fi)
       intro eo648;subst eo648
       refine X3.glue ?_
       try dsimp only at h
       revert h
       exact fun e=>oj e▸X9 [] (o:=by repeat' first|apply Ya|exact pcM|(refine Xd h590 rfl ?_;first|(simp;done)|(simp;omega)|(simp[h29,h605];done)|(simp[h29,h605];omega))|(refine X7 h590 (by decide) ?_;first|(simp;done)|(simp;omega)|(simp[h29,h605];done)|(simp[h29,h605];omega))|(refine Xd h592 rfl ?_;first|(simp;done)|(simp;omega)|(simp[h29,h605];done)|(simp[h29,h605];omega))|(refine X7 h592 (by decide) ?_;first|(simp;done)|(simp;omega)|(simp[h29,h605];done)|(simp[h29,h605];omega))|(refine Xd h596 rfl ?_;first|(simp;done)|(simp;omega)|(simp[h29,h605];done)|(simp[h29,h605];omega))|(refine X7 h596 (by decide) ?_;first|(simp;done)|(simp;omega)|(simp[h29,h605];done)|(simp[h29,h605];omega))|exact Xu) (k:=fi)
      clear h;revert h604
      refine brI (fun h602=>?_) fun h602=>?_
      ·
       intro h
       obtain rfl:=oj h
       exact X9 [.go false,.go false,.go false,.go false,.go false,.go false,.go false] (o:=by repeat' first|apply Ya|exact pcM|(refine Xd h590 rfl ?_;first|(simp;done)|(simp;omega)|(simp[h29,h602];done)|(simp[h29,h602];omega))|(refine X7 h590 (by decide) ?_;first|(simp;done)|(simp;omega)|(simp[h29,h602];done)|(simp[h29,h602];omega))|(refine Xd h592 rfl ?_;first|(simp;done)|(simp;omega)|(simp[h29,h602];done)|(simp[h29,h602];omega))|(refine X7 h592 (by decide) ?_;first|(simp;done)|(simp;omega)|(simp[h29,h602];done)|(simp[h29,h602];omega))|(refine Xd h596 rfl ?_;first|(simp;done)|(simp;omega)|(simp[h29,h602];done)|(simp[h29,h602];omega))|(refine X7 h596 (by decide) ?_;first|(simp;done)|(simp;omega)|(simp[h29,h602];done)|(simp[h29,h602];omega))|exact((Xb h602 rfl))|exact(Xf (Xb h602 rfl))|exact(X4e (Xb h602 rfl))|exact Xu) (k:=wkT [] (X3.glue J))
      refine brI (fun h603=>?_) fun h603=>?_
      ·
       intro h
       obtain rfl:=oj h
       exact X9 [.go true,.go true,.go false,.go false,.go false,.go false,.go false] (o:=by repeat' first|apply Ya|exact pcM|(refine Xd h590 rfl ?_;first|(simp;done)|(simp;omega)|(simp[h29,h602,h603];done)|(simp[h29,h602,h603];omega))|(refine X7 h590 (by decide) ?_;first|(simp;done)|(simp;omega)|(simp[h29,h602,h603];done)|(simp[h29,h602,h603];omega))|(refine Xd h592 rfl ?_;first|(simp;done)|(simp;omega)|(simp[h29,h602,h603];done)|(simp[h29,h602,h603];omega))|(refine X7 h592 (by decide) ?_;first|(simp;done)|(simp;omega)|(simp[h29,h602,h603];done)|(simp[h29,h602,h603];omega))|(refine Xd h596 rfl ?_;first|(simp;done)|(simp;omega)|(simp[h29,h602,h603];done)|(simp[h29,h602,h603];omega))|(refine X7 h596 (by decide) ?_;first|(simp;done)|(simp;omega)|(simp[h29,h602,h603];done)|(simp[h29,h602,h603];omega))|exact((Xa h602 h603))|exact(Xf (Xa h602 h603))|exact(X4e (Xa h602 h603))|exact Xu) (k:=wkT [] (X3.glue J))
      intro h
      obtain rfl:=oj h
      exact X9 [.go true,.go true,.go true,.go true,.el (aI .i64 (v593.2.1.length:Int)),.go true,.go true,.el (aI .i64 (v597.2.1.length:Int)),.go true] (o:=by repeat' first|apply Ya|exact pcM|(refine Xd h590 rfl ?_;first|(simp;done)|(simp;omega)|(simp[h29,h602,h603];done)|(simp[h29,h602,h603];omega))|(refine X7 h590 (by decide) ?_;first|(simp;done)|(simp;omega)|(simp[h29,h602,h603];done)|(simp[h29,h602,h603];omega))|(refine Xd h592 rfl ?_;first|(simp;done)|(simp;omega)|(simp[h29,h602,h603];done)|(simp[h29,h602,h603];omega))|(refine X7 h592 (by decide) ?_;first|(simp;done)|(simp;omega)|(simp[h29,h602,h603];done)|(simp[h29,h602,h603];omega))|(refine Xd h596 rfl ?_;first|(simp;done)|(simp;omega)|(simp[h29,h602,h603];done)|(simp[h29,h602,h603];omega))|(refine X7 h596 (by decide) ?_;first|(simp;done)|(simp;omega)|(simp[h29,h602,h603];done)|(simp[h29,h602,h603];omega))|exact((Xa h602 h603))|exact(Xf (Xa h602 h603))|exact(Xb6 (Xa h602 h603))|exact Xu) (k:=wkT [] (X3.glue J))
     obtain rfl:=X2r rfl
     revert h
     refine bI fun v650 h651=>bI fun u652 h653=>bI fun u654 h655=>bI fun v656 h657=>bI fun u658 h659=>bI fun v660 h661=>bI fun Xvu h667=>rnI [.pure _ (Xh v650),.pure _ (Xh v650),.no,.see [(114,[0])],.no,.pure _ (AV.tup [(Xk true v656.1),(AV.list true (v656.2.1.map Xe)),(aB v656.2.2)]),.see [(124,[0])],.no,.pure _ (AV.tup [(Xk true v660.1),(AV.list true (v660.2.1.map Xe)),(aB v660.2.2)]),.stop 16] (o:=by repeat' first|apply Ya|exact pcM|(refine Xd h653 rfl ?_;first|(simp;done)|(simp;omega)|(simp[h29];done)|(simp[h29];omega))|(refine X7 h653 (by decide) ?_;first|(simp;done)|(simp;omega)|(simp[h29];done)|(simp[h29];omega))|(refine Xd h655 rfl ?_;first|(simp;done)|(simp;omega)|(simp[h29];done)|(simp[h29];omega))|(refine X7 h655 (by decide) ?_;first|(simp;done)|(simp;omega)|(simp[h29];done)|(simp[h29];omega))|(refine Xd h659 rfl ?_;first|(simp;done)|(simp;omega)|(simp[h29];done)|(simp[h29];omega))|(refine X7 h659 (by decide) ?_;first|(simp;done)|(simp;omega)|(simp[h29];done)|(simp[h29];omega))|exact Xu) ?_
     intro h
     refine X3.join (s':=⟨fr [(9,(aB v1)),(15,(AV.list true (v656.2.1.map Xe))),(18,(AV.list true (v660.2.1.map Xe))),(145,(aB Xvu))],hp ([]),0⟩) ?_ (fun J=>X3.cut ?_)
     ·
      revert h
      refine brI (fun h668=>?_) fun h668=>?_
      ·
       exact fun e=>oj e▸X9 [Bt] (o:=by repeat' first|apply Ya|exact pcM|(refine Xd h653 rfl ?_;first|(simp;done)|(simp;omega)|(simp[h29,h668];done)|(simp[h29,h668];omega))|(refine X7 h653 (by decide) ?_;first|(simp;done)|(simp;omega)|(simp[h29,h668];done)|(simp[h29,h668];omega))|(refine Xd h655 rfl ?_;first|(simp;done)|(simp;omega)|(simp[h29,h668];done)|(simp[h29,h668];omega))|(refine X7 h655 (by decide) ?_;first|(simp;done)|(simp;omega)|(simp[h29,h668];done)|(simp[h29,h668];omega))|(refine Xd h659 rfl ?_;first|(simp;done)|(simp;omega)|(simp[h29,h668];done)|(simp[h29,h668];omega))|(refine X7 h659 (by decide) ?_;first|(simp;done)|(simp;omega)|(simp[h29,h668];done)|(simp[h29,h668];omega))|exact Xu) (k:=fi)
      refine bI fun u669 h670=>?_
      have qh670:=X0k h670
      refine bI fun o698 h699=>rnI [Bf] (o:=by repeat' first|apply Ya|exact pcM|(refine Xd h653 rfl ?_;first|(simp;done)|(simp;omega)|(simp[h29,h668];done)|(simp[h29,h668];omega))|(refine X7 h653 (by decide) ?_;first|(simp;done)|(simp;omega)|(simp[h29,h668];done)|(simp[h29,h668];omega))|(refine Xd h655 rfl ?_;first|(simp;done)|(simp;omega)|(simp[h29,h668];done)|(simp[h29,h668];omega))|(refine X7 h655 (by decide) ?_;first|(simp;done)|(simp;omega)|(simp[h29,h668];done)|(simp[h29,h668];omega))|(refine Xd h659 rfl ?_;first|(simp;done)|(simp;omega)|(simp[h29,h668];done)|(simp[h29,h668];omega))|(refine X7 h659 (by decide) ?_;first|(simp;done)|(simp;omega)|(simp[h29,h668];done)|(simp[h29,h668];omega))|exact Xu) ?_
      intro h
      refine wkT [] (X3.cut (X1b v1 v656.2.1 v660.2.1 qh670 v656.2.1 0 (by simp) _ h699 ?_ ?_))
      ·
       intro eo698;subst eo698
       refine X3.glue ?_
       try dsimp only at h
       revert h
       exact fun e=>oj e▸X9 [] (o:=by repeat' first|apply Ya|exact pcM|(refine Xd h653 rfl ?_;first|(simp;done)|(simp;omega)|(simp[h29,h668];done)|(simp[h29,h668];omega))|(refine X7 h653 (by decide) ?_;first|(simp;done)|(simp;omega)|(simp[h29,h668];done)|(simp[h29,h668];omega))|(refine Xd h655 rfl ?_;first|(simp;done)|(simp;omega)|(simp[h29,h668];done)|(simp[h29,h668];omega))|(refine X7 h655 (by decide) ?_;first|(simp;done)|(simp;omega)|(simp[h29,h668];done)|(simp[h29,h668];omega))|(refine Xd h659 rfl ?_;first|(simp;done)|(simp;omega)|(simp[h29,h668];done)|(simp[h29,h668];omega))|(refine X7 h659 (by decide) ?_;first|(simp;done)|(simp;omega)|(simp[h29,h668];done)|(simp[h29,h668];omega))|exact Xu) (k:=fi)
      intro eo698;subst eo698
      refine X3.glue ?_
      try dsimp only at h
      revert h
      exact fun e=>oj e▸X9 [] (o:=by repeat' first|apply Ya|exact pcM|(refine Xd h653 rfl ?_;first|(simp;done)|(simp;omega)|(simp[h29,h668];done)|(simp[h29,h668];omega))|(refine X7 h653 (by decide) ?_;first|(simp;done)|(simp;omega)|(simp[h29,h668];done)|(simp[h29,h668];omega))|(refine Xd h655 rfl ?_;first|(simp;done)|(simp;omega)|(simp[h29,h668];done)|(simp[h29,h668];omega))|(refine X7 h655 (by decide) ?_;first|(simp;done)|(simp;omega)|(simp[h29,h668];done)|(simp[h29,h668];omega))|(refine Xd h659 rfl ?_;first|(simp;done)|(simp;omega)|(simp[h29,h668];done)|(simp[h29,h668];omega))|(refine X7 h659 (by decide) ?_;first|(simp;done)|(simp;omega)|(simp[h29,h668];done)|(simp[h29,h668];omega))|exact Xu) (k:=fi)
     clear h;revert h667
     refine brI (fun h665=>?_) fun h665=>?_
     ·
      intro h
      obtain rfl:=oj h
      exact X9 [.go false,.go false,.go false,.go false,.go false,.go false,.go false] (o:=by repeat' first|apply Ya|exact pcM|(refine Xd h653 rfl ?_;first|(simp;done)|(simp;omega)|(simp[h29,h665];done)|(simp[h29,h665];omega))|(refine X7 h653 (by decide) ?_;first|(simp;done)|(simp;omega)|(simp[h29,h665];done)|(simp[h29,h665];omega))|(refine Xd h655 rfl ?_;first|(simp;done)|(simp;omega)|(simp[h29,h665];done)|(simp[h29,h665];omega))|(refine X7 h655 (by decide) ?_;first|(simp;done)|(simp;omega)|(simp[h29,h665];done)|(simp[h29,h665];omega))|(refine Xd h659 rfl ?_;first|(simp;done)|(simp;omega)|(simp[h29,h665];done)|(simp[h29,h665];omega))|(refine X7 h659 (by decide) ?_;first|(simp;done)|(simp;omega)|(simp[h29,h665];done)|(simp[h29,h665];omega))|exact((Xb h665 rfl))|exact(Xf (Xb h665 rfl))|exact(X4e (Xb h665 rfl))|exact Xu) (k:=wkT [] (X3.glue J))
     refine brI (fun h666=>?_) fun h666=>?_
     ·
      intro h
      obtain rfl:=oj h
      exact X9 [.go true,.go true,.go false,.go false,.go false,.go false,.go false] (o:=by repeat' first|apply Ya|exact pcM|(refine Xd h653 rfl ?_;first|(simp;done)|(simp;omega)|(simp[h29,h665,h666];done)|(simp[h29,h665,h666];omega))|(refine X7 h653 (by decide) ?_;first|(simp;done)|(simp;omega)|(simp[h29,h665,h666];done)|(simp[h29,h665,h666];omega))|(refine Xd h655 rfl ?_;first|(simp;done)|(simp;omega)|(simp[h29,h665,h666];done)|(simp[h29,h665,h666];omega))|(refine X7 h655 (by decide) ?_;first|(simp;done)|(simp;omega)|(simp[h29,h665,h666];done)|(simp[h29,h665,h666];omega))|(refine Xd h659 rfl ?_;first|(simp;done)|(simp;omega)|(simp[h29,h665,h666];done)|(simp[h29,h665,h666];omega))|(refine X7 h659 (by decide) ?_;first|(simp;done)|(simp;omega)|(simp[h29,h665,h666];done)|(simp[h29,h665,h666];omega))|exact((Xa h665 h666))|exact(Xf (Xa h665 h666))|exact(X4e (Xa h665 h666))|exact Xu) (k:=wkT [] (X3.glue J))
     intro h
     obtain rfl:=oj h
     exact X9 [.go true,.go true,.go true,.go true,.el (aI .i64 (v656.2.1.length:Int)),.go true,.go true,.el (aI .i64 (v660.2.1.length:Int)),.go true] (o:=by repeat' first|apply Ya|exact pcM|(refine Xd h653 rfl ?_;first|(simp;done)|(simp;omega)|(simp[h29,h665,h666];done)|(simp[h29,h665,h666];omega))|(refine X7 h653 (by decide) ?_;first|(simp;done)|(simp;omega)|(simp[h29,h665,h666];done)|(simp[h29,h665,h666];omega))|(refine Xd h655 rfl ?_;first|(simp;done)|(simp;omega)|(simp[h29,h665,h666];done)|(simp[h29,h665,h666];omega))|(refine X7 h655 (by decide) ?_;first|(simp;done)|(simp;omega)|(simp[h29,h665,h666];done)|(simp[h29,h665,h666];omega))|(refine Xd h659 rfl ?_;first|(simp;done)|(simp;omega)|(simp[h29,h665,h666];done)|(simp[h29,h665,h666];omega))|(refine X7 h659 (by decide) ?_;first|(simp;done)|(simp;omega)|(simp[h29,h665,h666];done)|(simp[h29,h665,h666];omega))|exact((Xa h665 h666))|exact(Xf (Xa h665 h666))|exact(Xb6 (Xa h665 h666))|exact Xu) (k:=wkT [] (X3.glue J))
    obtain rfl:=X7g rfl
    rcases X1h with ⟨_|_,X2r⟩
    ·
     revert h
     refine bI fun v700 h701=>bI fun u702 h703=>bI fun u704 h705=>bI fun v706 h707=>bI fun u708 h709=>bI fun v710 h711=>bI fun Xvt h717=>rnI [.pure _ (Xh v700),.pure _ (Xh v700),.no,.see [(114,[0])],.no,.pure _ (AV.tup [(Xk true v706.1),(AV.list true (v706.2.1.map Xe)),(aB v706.2.2)]),.see [(124,[0])],.no,.pure _ (AV.tup [(Xk true v710.1),(AV.list true (v710.2.1.map Xe)),(aB v710.2.2)]),.stop 16] (o:=by repeat' first|apply Ya|exact pcM|(refine Xd h703 rfl ?_;first|(simp;done)|(simp;omega)|(simp[h29];done)|(simp[h29];omega))|(refine X7 h703 (by decide) ?_;first|(simp;done)|(simp;omega)|(simp[h29];done)|(simp[h29];omega))|(refine Xd h705 rfl ?_;first|(simp;done)|(simp;omega)|(simp[h29];done)|(simp[h29];omega))|(refine X7 h705 (by decide) ?_;first|(simp;done)|(simp;omega)|(simp[h29];done)|(simp[h29];omega))|(refine Xd h709 rfl ?_;first|(simp;done)|(simp;omega)|(simp[h29];done)|(simp[h29];omega))|(refine X7 h709 (by decide) ?_;first|(simp;done)|(simp;omega)|(simp[h29];done)|(simp[h29];omega))|exact Xu) ?_
     intro h
     refine X3.join (s':=⟨fr [(9,(aB v1)),(15,(AV.list true (v706.2.1.map Xe))),(18,(AV.list true (v710.2.1.map Xe))),(145,(aB Xvt))],hp ([]),0⟩) ?_ (fun J=>X3.cut ?_)
     ·
      revert h
      refine brI (fun h718=>?_) fun h718=>?_
      ·
       exact fun e=>oj e▸X9 [Bt] (o:=by repeat' first|apply Ya|exact pcM|(refine Xd h703 rfl ?_;first|(simp;done)|(simp;omega)|(simp[h29,h718];done)|(simp[h29,h718];omega))|(refine X7 h703 (by decide) ?_;first|(simp;done)|(simp;omega)|(simp[h29,h718];done)|(simp[h29,h718];omega))|(refine Xd h705 rfl ?_;first|(simp;done)|(simp;omega)|(simp[h29,h718];done)|(simp[h29,h718];omega))|(refine X7 h705 (by decide) ?_;first|(simp;done)|(simp;omega)|(simp[h29,h718];done)|(simp[h29,h718];omega))|(refine Xd h709 rfl ?_;first|(simp;done)|(simp;omega)|(simp[h29,h718];done)|(simp[h29,h718];omega))|(refine X7 h709 (by decide) ?_;first|(simp;done)|(simp;omega)|(simp[h29,h718];done)|(simp[h29,h718];omega))|exact Xu) (k:=fi)
      refine bI fun u719 h720=>?_
      have qh720:=X0k h720
      refine bI fun o748 h749=>rnI [Bf] (o:=by repeat' first|apply Ya|exact pcM|(refine Xd h703 rfl ?_;first|(simp;done)|(simp;omega)|(simp[h29,h718];done)|(simp[h29,h718];omega))|(refine X7 h703 (by decide) ?_;first|(simp;done)|(simp;omega)|(simp[h29,h718];done)|(simp[h29,h718];omega))|(refine Xd h705 rfl ?_;first|(simp;done)|(simp;omega)|(simp[h29,h718];done)|(simp[h29,h718];omega))|(refine X7 h705 (by decide) ?_;first|(simp;done)|(simp;omega)|(simp[h29,h718];done)|(simp[h29,h718];omega))|(refine Xd h709 rfl ?_;first|(simp;done)|(simp;omega)|(simp[h29,h718];done)|(simp[h29,h718];omega))|(refine X7 h709 (by decide) ?_;first|(simp;done)|(simp;omega)|(simp[h29,h718];done)|(simp[h29,h718];omega))|exact Xu) ?_
      intro h
      refine wkT [] (X3.cut (X1b v1 v706.2.1 v710.2.1 qh720 v706.2.1 0 (by simp) _ h749 ?_ ?_))
      ·
       intro eo748;subst eo748
       refine X3.glue ?_
       try dsimp only at h
       revert h
       exact fun e=>oj e▸X9 [] (o:=by repeat' first|apply Ya|exact pcM|(refine Xd h703 rfl ?_;first|(simp;done)|(simp;omega)|(simp[h29,h718];done)|(simp[h29,h718];omega))|(refine X7 h703 (by decide) ?_;first|(simp;done)|(simp;omega)|(simp[h29,h718];done)|(simp[h29,h718];omega))|(refine Xd h705 rfl ?_;first|(simp;done)|(simp;omega)|(simp[h29,h718];done)|(simp[h29,h718];omega))|(refine X7 h705 (by decide) ?_;first|(simp;done)|(simp;omega)|(simp[h29,h718];done)|(simp[h29,h718];omega))|(refine Xd h709 rfl ?_;first|(simp;done)|(simp;omega)|(simp[h29,h718];done)|(simp[h29,h718];omega))|(refine X7 h709 (by decide) ?_;first|(simp;done)|(simp;omega)|(simp[h29,h718];done)|(simp[h29,h718];omega))|exact Xu) (k:=fi)
      intro eo748;subst eo748
      refine X3.glue ?_
      try dsimp only at h
      revert h
      exact fun e=>oj e▸X9 [] (o:=by repeat' first|apply Ya|exact pcM|(refine Xd h703 rfl ?_;first|(simp;done)|(simp;omega)|(simp[h29,h718];done)|(simp[h29,h718];omega))|(refine X7 h703 (by decide) ?_;first|(simp;done)|(simp;omega)|(simp[h29,h718];done)|(simp[h29,h718];omega))|(refine Xd h705 rfl ?_;first|(simp;done)|(simp;omega)|(simp[h29,h718];done)|(simp[h29,h718];omega))|(refine X7 h705 (by decide) ?_;first|(simp;done)|(simp;omega)|(simp[h29,h718];done)|(simp[h29,h718];omega))|(refine Xd h709 rfl ?_;first|(simp;done)|(simp;omega)|(simp[h29,h718];done)|(simp[h29,h718];omega))|(refine X7 h709 (by decide) ?_;first|(simp;done)|(simp;omega)|(simp[h29,h718];done)|(simp[h29,h718];omega))|exact Xu) (k:=fi)
     clear h;revert h717
     refine brI (fun h715=>?_) fun h715=>?_
     ·
      intro h
      obtain rfl:=oj h
      exact X9 [.go false,.go false,.go false,.go false,.go false,.go false,.go false] (o:=by repeat' first|apply Ya|exact pcM|(refine Xd h703 rfl ?_;first|(simp;done)|(simp;omega)|(simp[h29,h715];done)|(simp[h29,h715];omega))|(refine X7 h703 (by decide) ?_;first|(simp;done)|(simp;omega)|(simp[h29,h715];done)|(simp[h29,h715];omega))|(refine Xd h705 rfl ?_;first|(simp;done)|(simp;omega)|(simp[h29,h715];done)|(simp[h29,h715];omega))|(refine X7 h705 (by decide) ?_;first|(simp;done)|(simp;omega)|(simp[h29,h715];done)|(simp[h29,h715];omega))|(refine Xd h709 rfl ?_;first|(simp;done)|(simp;omega)|(simp[h29,h715];done)|(simp[h29,h715];omega))|(refine X7 h709 (by decide) ?_;first|(simp;done)|(simp;omega)|(simp[h29,h715];done)|(simp[h29,h715];omega))|exact((Xb h715 rfl))|exact(Xf (Xb h715 rfl))|exact(X4e (Xb h715 rfl))|exact Xu) (k:=wkT [] (X3.glue J))
     refine brI (fun h716=>?_) fun h716=>?_
     ·
      intro h
      obtain rfl:=oj h
      exact X9 [.go true,.go true,.go false,.go false,.go false,.go false,.go false] (o:=by repeat' first|apply Ya|exact pcM|(refine Xd h703 rfl ?_;first|(simp;done)|(simp;omega)|(simp[h29,h715,h716];done)|(simp[h29,h715,h716];omega))|(refine X7 h703 (by decide) ?_;first|(simp;done)|(simp;omega)|(simp[h29,h715,h716];done)|(simp[h29,h715,h716];omega))|(refine Xd h705 rfl ?_;first|(simp;done)|(simp;omega)|(simp[h29,h715,h716];done)|(simp[h29,h715,h716];omega))|(refine X7 h705 (by decide) ?_;first|(simp;done)|(simp;omega)|(simp[h29,h715,h716];done)|(simp[h29,h715,h716];omega))|(refine Xd h709 rfl ?_;first|(simp;done)|(simp;omega)|(simp[h29,h715,h716];done)|(simp[h29,h715,h716];omega))|(refine X7 h709 (by decide) ?_;first|(simp;done)|(simp;omega)|(simp[h29,h715,h716];done)|(simp[h29,h715,h716];omega))|exact((Xa h715 h716))|exact(Xf (Xa h715 h716))|exact(X4e (Xa h715 h716))|exact Xu) (k:=wkT [] (X3.glue J))
     intro h
     obtain rfl:=oj h
     exact X9 [.go true,.go true,.go true,.go true,.el (aI .i64 (v706.2.1.length:Int)),.go true,.go true,.el (aI .i64 (v710.2.1.length:Int)),.go true] (o:=by repeat' first|apply Ya|exact pcM|(refine Xd h703 rfl ?_;first|(simp;done)|(simp;omega)|(simp[h29,h715,h716];done)|(simp[h29,h715,h716];omega))|(refine X7 h703 (by decide) ?_;first|(simp;done)|(simp;omega)|(simp[h29,h715,h716];done)|(simp[h29,h715,h716];omega))|(refine Xd h705 rfl ?_;first|(simp;done)|(simp;omega)|(simp[h29,h715,h716];done)|(simp[h29,h715,h716];omega))|(refine X7 h705 (by decide) ?_;first|(simp;done)|(simp;omega)|(simp[h29,h715,h716];done)|(simp[h29,h715,h716];omega))|(refine Xd h709 rfl ?_;first|(simp;done)|(simp;omega)|(simp[h29,h715,h716];done)|(simp[h29,h715,h716];omega))|(refine X7 h709 (by decide) ?_;first|(simp;done)|(simp;omega)|(simp[h29,h715,h716];done)|(simp[h29,h715,h716];omega))|exact((Xa h715 h716))|exact(Xf (Xa h715 h716))|exact(Xb6 (Xa h715 h716))|exact Xu) (k:=wkT [] (X3.glue J))
    obtain rfl:=X2r rfl
    revert h
    refine bI fun v750 h751=>bI fun u752 h753=>bI fun u754 h755=>bI fun v756 h757=>bI fun u758 h759=>bI fun v760 h761=>bI fun Xvs h767=>rnI [.pure _ (Xh v750),.pure _ (Xh v750),.no,.see [(114,[0])],.no,.pure _ (AV.tup [(Xk true v756.1),(AV.list true (v756.2.1.map Xe)),(aB v756.2.2)]),.see [(124,[0])],.no,.pure _ (AV.tup [(Xk true v760.1),(AV.list true (v760.2.1.map Xe)),(aB v760.2.2)]),.stop 16] (o:=by repeat' first|apply Ya|exact pcM|(refine Xd h753 rfl ?_;first|(simp;done)|(simp;omega)|(simp[h29];done)|(simp[h29];omega))|(refine X7 h753 (by decide) ?_;first|(simp;done)|(simp;omega)|(simp[h29];done)|(simp[h29];omega))|(refine Xd h755 rfl ?_;first|(simp;done)|(simp;omega)|(simp[h29];done)|(simp[h29];omega))|(refine X7 h755 (by decide) ?_;first|(simp;done)|(simp;omega)|(simp[h29];done)|(simp[h29];omega))|(refine Xd h759 rfl ?_;first|(simp;done)|(simp;omega)|(simp[h29];done)|(simp[h29];omega))|(refine X7 h759 (by decide) ?_;first|(simp;done)|(simp;omega)|(simp[h29];done)|(simp[h29];omega))|exact Xu) ?_
    intro h
    refine X3.join (s':=⟨fr [(9,(aB v1)),(15,(AV.list true (v756.2.1.map Xe))),(18,(AV.list true (v760.2.1.map Xe))),(145,(aB Xvs))],hp ([]),0⟩) ?_ (fun J=>X3.cut ?_)
    ·
     revert h
     refine brI (fun h768=>?_) fun h768=>?_
     ·
      exact fun e=>oj e▸X9 [Bt] (o:=by repeat' first|apply Ya|exact pcM|(refine Xd h753 rfl ?_;first|(simp;done)|(simp;omega)|(simp[h29,h768];done)|(simp[h29,h768];omega))|(refine X7 h753 (by decide) ?_;first|(simp;done)|(simp;omega)|(simp[h29,h768];done)|(simp[h29,h768];omega))|(refine Xd h755 rfl ?_;first|(simp;done)|(simp;omega)|(simp[h29,h768];done)|(simp[h29,h768];omega))|(refine X7 h755 (by decide) ?_;first|(simp;done)|(simp;omega)|(simp[h29,h768];done)|(simp[h29,h768];omega))|(refine Xd h759 rfl ?_;first|(simp;done)|(simp;omega)|(simp[h29,h768];done)|(simp[h29,h768];omega))|(refine X7 h759 (by decide) ?_;first|(simp;done)|(simp;omega)|(simp[h29,h768];done)|(simp[h29,h768];omega))|exact Xu) (k:=fi)
     refine bI fun u769 h770=>?_
     have qh770:=X0k h770
     refine bI fun o798 h799=>rnI [Bf] (o:=by repeat' first|apply Ya|exact pcM|(refine Xd h753 rfl ?_;first|(simp;done)|(simp;omega)|(simp[h29,h768];done)|(simp[h29,h768];omega))|(refine X7 h753 (by decide) ?_;first|(simp;done)|(simp;omega)|(simp[h29,h768];done)|(simp[h29,h768];omega))|(refine Xd h755 rfl ?_;first|(simp;done)|(simp;omega)|(simp[h29,h768];done)|(simp[h29,h768];omega))|(refine X7 h755 (by decide) ?_;first|(simp;done)|(simp;omega)|(simp[h29,h768];done)|(simp[h29,h768];omega))|(refine Xd h759 rfl ?_;first|(simp;done)|(simp;omega)|(simp[h29,h768];done)|(simp[h29,h768];omega))|(refine X7 h759 (by decide) ?_;first|(simp;done)|(simp;omega)|(simp[h29,h768];done)|(simp[h29,h768];omega))|exact Xu) ?_
     intro h
     refine wkT [] (X3.cut (X1b v1 v756.2.1 v760.2.1 qh770 v756.2.1 0 (by simp) _ h799 ?_ ?_))
     ·
      intro eo798;subst eo798
      refine X3.glue ?_
      try dsimp only at h
      revert h
      exact fun e=>oj e▸X9 [] (o:=by repeat' first|apply Ya|exact pcM|(refine Xd h753 rfl ?_;first|(simp;done)|(simp;omega)|(simp[h29,h768];done)|(simp[h29,h768];omega))|(refine X7 h753 (by decide) ?_;first|(simp;done)|(simp;omega)|(simp[h29,h768];done)|(simp[h29,h768];omega))|(refine Xd h755 rfl ?_;first|(simp;done)|(simp;omega)|(simp[h29,h768];done)|(simp[h29,h768];omega))|(refine X7 h755 (by decide) ?_;first|(simp;done)|(simp;omega)|(simp[h29,h768];done)|(simp[h29,h768];omega))|(refine Xd h759 rfl ?_;first|(simp;done)|(simp;omega)|(simp[h29,h768];done)|(simp[h29,h768];omega))|(refine X7 h759 (by decide) ?_;first|(simp;done)|(simp;omega)|(simp[h29,h768];done)|(simp[h29,h768];omega))|exact Xu) (k:=fi)
     intro eo798;subst eo798
     refine X3.glue ?_
     try dsimp only at h
     revert h
     exact fun e=>oj e▸X9 [] (o:=by repeat' first|apply Ya|exact pcM|(refine Xd h753 rfl ?_;first|(simp;done)|(simp;omega)|(simp[h29,h768];done)|(simp[h29,h768];omega))|(refine X7 h753 (by decide) ?_;first|(simp;done)|(simp;omega)|(simp[h29,h768];done)|(simp[h29,h768];omega))|(refine Xd h755 rfl ?_;first|(simp;done)|(simp;omega)|(simp[h29,h768];done)|(simp[h29,h768];omega))|(refine X7 h755 (by decide) ?_;first|(simp;done)|(simp;omega)|(simp[h29,h768];done)|(simp[h29,h768];omega))|(refine Xd h759 rfl ?_;first|(simp;done)|(simp;omega)|(simp[h29,h768];done)|(simp[h29,h768];omega))|(refine X7 h759 (by decide) ?_;first|(simp;done)|(simp;omega)|(simp[h29,h768];done)|(simp[h29,h768];omega))|exact Xu) (k:=fi)
    clear h;revert h767
    refine brI (fun h765=>?_) fun h765=>?_
    ·
     intro h
     obtain rfl:=oj h
     exact X9 [.go false,.go false,.go false,.go false,.go false,.go false,.go false] (o:=by repeat' first|apply Ya|exact pcM|(refine Xd h753 rfl ?_;first|(simp;done)|(simp;omega)|(simp[h29,h765];done)|(simp[h29,h765];omega))|(refine X7 h753 (by decide) ?_;first|(simp;done)|(simp;omega)|(simp[h29,h765];done)|(simp[h29,h765];omega))|(refine Xd h755 rfl ?_;first|(simp;done)|(simp;omega)|(simp[h29,h765];done)|(simp[h29,h765];omega))|(refine X7 h755 (by decide) ?_;first|(simp;done)|(simp;omega)|(simp[h29,h765];done)|(simp[h29,h765];omega))|(refine Xd h759 rfl ?_;first|(simp;done)|(simp;omega)|(simp[h29,h765];done)|(simp[h29,h765];omega))|(refine X7 h759 (by decide) ?_;first|(simp;done)|(simp;omega)|(simp[h29,h765];done)|(simp[h29,h765];omega))|exact((Xb h765 rfl))|exact(Xf (Xb h765 rfl))|exact(X4e (Xb h765 rfl))|exact Xu) (k:=wkT [] (X3.glue J))
    refine brI (fun h766=>?_) fun h766=>?_
    ·
     intro h
     obtain rfl:=oj h
     exact X9 [.go true,.go true,.go false,.go false,.go false,.go false,.go false] (o:=by repeat' first|apply Ya|exact pcM|(refine Xd h753 rfl ?_;first|(simp;done)|(simp;omega)|(simp[h29,h765,h766];done)|(simp[h29,h765,h766];omega))|(refine X7 h753 (by decide) ?_;first|(simp;done)|(simp;omega)|(simp[h29,h765,h766];done)|(simp[h29,h765,h766];omega))|(refine Xd h755 rfl ?_;first|(simp;done)|(simp;omega)|(simp[h29,h765,h766];done)|(simp[h29,h765,h766];omega))|(refine X7 h755 (by decide) ?_;first|(simp;done)|(simp;omega)|(simp[h29,h765,h766];done)|(simp[h29,h765,h766];omega))|(refine Xd h759 rfl ?_;first|(simp;done)|(simp;omega)|(simp[h29,h765,h766];done)|(simp[h29,h765,h766];omega))|(refine X7 h759 (by decide) ?_;first|(simp;done)|(simp;omega)|(simp[h29,h765,h766];done)|(simp[h29,h765,h766];omega))|exact((Xa h765 h766))|exact(Xf (Xa h765 h766))|exact(X4e (Xa h765 h766))|exact Xu) (k:=wkT [] (X3.glue J))
    intro h
    obtain rfl:=oj h
    exact X9 [.go true,.go true,.go true,.go true,.el (aI .i64 (v756.2.1.length:Int)),.go true,.go true,.el (aI .i64 (v760.2.1.length:Int)),.go true] (o:=by repeat' first|apply Ya|exact pcM|(refine Xd h753 rfl ?_;first|(simp;done)|(simp;omega)|(simp[h29,h765,h766];done)|(simp[h29,h765,h766];omega))|(refine X7 h753 (by decide) ?_;first|(simp;done)|(simp;omega)|(simp[h29,h765,h766];done)|(simp[h29,h765,h766];omega))|(refine Xd h755 rfl ?_;first|(simp;done)|(simp;omega)|(simp[h29,h765,h766];done)|(simp[h29,h765,h766];omega))|(refine X7 h755 (by decide) ?_;first|(simp;done)|(simp;omega)|(simp[h29,h765,h766];done)|(simp[h29,h765,h766];omega))|(refine Xd h759 rfl ?_;first|(simp;done)|(simp;omega)|(simp[h29,h765,h766];done)|(simp[h29,h765,h766];omega))|(refine X7 h759 (by decide) ?_;first|(simp;done)|(simp;omega)|(simp[h29,h765,h766];done)|(simp[h29,h765,h766];omega))|exact((Xa h765 h766))|exact(Xf (Xa h765 h766))|exact(Xb6 (Xa h765 h766))|exact Xu) (k:=wkT [] (X3.glue J))
   obtain rfl:=X2s rfl
   rcases X2q with ⟨_|_,X7g⟩
   ·
    rcases X1h with ⟨_|_,X2r⟩
    ·
     revert h
     refine bI fun v800 h801=>bI fun u802 h803=>bI fun u804 h805=>bI fun v806 h807=>bI fun u808 h809=>bI fun v810 h811=>bI fun Xvr h817=>rnI [.pure _ (Xh v800),.pure _ (Xh v800),.no,.see [(114,[0])],.no,.pure _ (AV.tup [(Xk true v806.1),(AV.list true (v806.2.1.map Xe)),(aB v806.2.2)]),.see [(124,[0])],.no,.pure _ (AV.tup [(Xk true v810.1),(AV.list true (v810.2.1.map Xe)),(aB v810.2.2)]),.stop 16] (o:=by repeat' first|apply Ya|exact pcM|(refine Xd h803 rfl ?_;first|(simp;done)|(simp;omega)|(simp[h29];done)|(simp[h29];omega))|(refine X7 h803 (by decide) ?_;first|(simp;done)|(simp;omega)|(simp[h29];done)|(simp[h29];omega))|(refine Xd h805 rfl ?_;first|(simp;done)|(simp;omega)|(simp[h29];done)|(simp[h29];omega))|(refine X7 h805 (by decide) ?_;first|(simp;done)|(simp;omega)|(simp[h29];done)|(simp[h29];omega))|(refine Xd h809 rfl ?_;first|(simp;done)|(simp;omega)|(simp[h29];done)|(simp[h29];omega))|(refine X7 h809 (by decide) ?_;first|(simp;done)|(simp;omega)|(simp[h29];done)|(simp[h29];omega))|exact Xu) ?_
     intro h
     refine X3.join (s':=⟨fr [(9,(aB v1)),(15,(AV.list true (v806.2.1.map Xe))),(18,(AV.list true (v810.2.1.map Xe))),(145,(aB Xvr))],hp ([]),0⟩) ?_ (fun J=>X3.cut ?_)
     ·
      revert h
      refine brI (fun h818=>?_) fun h818=>?_
      ·
       exact fun e=>oj e▸X9 [Bt] (o:=by repeat' first|apply Ya|exact pcM|(refine Xd h803 rfl ?_;first|(simp;done)|(simp;omega)|(simp[h29,h818];done)|(simp[h29,h818];omega))|(refine X7 h803 (by decide) ?_;first|(simp;done)|(simp;omega)|(simp[h29,h818];done)|(simp[h29,h818];omega))|(refine Xd h805 rfl ?_;first|(simp;done)|(simp;omega)|(simp[h29,h818];done)|(simp[h29,h818];omega))|(refine X7 h805 (by decide) ?_;first|(simp;done)|(simp;omega)|(simp[h29,h818];done)|(simp[h29,h818];omega))|(refine Xd h809 rfl ?_;first|(simp;done)|(simp;omega)|(simp[h29,h818];done)|(simp[h29,h818];omega))|(refine X7 h809 (by decide) ?_;first|(simp;done)|(simp;omega)|(simp[h29,h818];done)|(simp[h29,h818];omega))|exact Xu) (k:=fi)
      refine bI fun u819 h820=>?_
      have qh820:=X0k h820
      refine bI fun o848 h849=>rnI [Bf] (o:=by repeat' first|apply Ya|exact pcM|(refine Xd h803 rfl ?_;first|(simp;done)|(simp;omega)|(simp[h29,h818];done)|(simp[h29,h818];omega))|(refine X7 h803 (by decide) ?_;first|(simp;done)|(simp;omega)|(simp[h29,h818];done)|(simp[h29,h818];omega))|(refine Xd h805 rfl ?_;first|(simp;done)|(simp;omega)|(simp[h29,h818];done)|(simp[h29,h818];omega))|(refine X7 h805 (by decide) ?_;first|(simp;done)|(simp;omega)|(simp[h29,h818];done)|(simp[h29,h818];omega))|(refine Xd h809 rfl ?_;first|(simp;done)|(simp;omega)|(simp[h29,h818];done)|(simp[h29,h818];omega))|(refine X7 h809 (by decide) ?_;first|(simp;done)|(simp;omega)|(simp[h29,h818];done)|(simp[h29,h818];omega))|exact Xu) ?_
      intro h
      refine wkT [] (X3.cut (X1b v1 v806.2.1 v810.2.1 qh820 v806.2.1 0 (by simp) _ h849 ?_ ?_))
      ·
       intro eo848;subst eo848
       refine X3.glue ?_
       try dsimp only at h
       revert h
       exact fun e=>oj e▸X9 [] (o:=by repeat' first|apply Ya|exact pcM|(refine Xd h803 rfl ?_;first|(simp;done)|(simp;omega)|(simp[h29,h818];done)|(simp[h29,h818];omega))|(refine X7 h803 (by decide) ?_;first|(simp;done)|(simp;omega)|(simp[h29,h818];done)|(simp[h29,h818];omega))|(refine Xd h805 rfl ?_;first|(simp;done)|(simp;omega)|(simp[h29,h818];done)|(simp[h29,h818];omega))|(refine X7 h805 (by decide) ?_;first|(simp;done)|(simp;omega)|(simp[h29,h818];done)|(simp[h29,h818];omega))|(refine Xd h809 rfl ?_;first|(simp;done)|(simp;omega)|(simp[h29,h818];done)|(simp[h29,h818];omega))|(refine X7 h809 (by decide) ?_;first|(simp;done)|(simp;omega)|(simp[h29,h818];done)|(simp[h29,h818];omega))|exact Xu) (k:=fi)
      intro eo848;subst eo848
      refine X3.glue ?_
      try dsimp only at h
      revert h
      exact fun e=>oj e▸X9 [] (o:=by repeat' first|apply Ya|exact pcM|(refine Xd h803 rfl ?_;first|(simp;done)|(simp;omega)|(simp[h29,h818];done)|(simp[h29,h818];omega))|(refine X7 h803 (by decide) ?_;first|(simp;done)|(simp;omega)|(simp[h29,h818];done)|(simp[h29,h818];omega))|(refine Xd h805 rfl ?_;first|(simp;done)|(simp;omega)|(simp[h29,h818];done)|(simp[h29,h818];omega))|(refine X7 h805 (by decide) ?_;first|(simp;done)|(simp;omega)|(simp[h29,h818];done)|(simp[h29,h818];omega))|(refine Xd h809 rfl ?_;first|(simp;done)|(simp;omega)|(simp[h29,h818];done)|(simp[h29,h818];omega))|(refine X7 h809 (by decide) ?_;first|(simp;done)|(simp;omega)|(simp[h29,h818];done)|(simp[h29,h818];omega))|exact Xu) (k:=fi)
     clear h;revert h817
     refine brI (fun h815=>?_) fun h815=>?_
     ·
      intro h
      obtain rfl:=oj h
      exact X9 [.go false,.go false,.go false,.go false,.go false,.go false,.go false] (o:=by repeat' first|apply Ya|exact pcM|(refine Xd h803 rfl ?_;first|(simp;done)|(simp;omega)|(simp[h29,h815];done)|(simp[h29,h815];omega))|(refine X7 h803 (by decide) ?_;first|(simp;done)|(simp;omega)|(simp[h29,h815];done)|(simp[h29,h815];omega))|(refine Xd h805 rfl ?_;first|(simp;done)|(simp;omega)|(simp[h29,h815];done)|(simp[h29,h815];omega))|(refine X7 h805 (by decide) ?_;first|(simp;done)|(simp;omega)|(simp[h29,h815];done)|(simp[h29,h815];omega))|(refine Xd h809 rfl ?_;first|(simp;done)|(simp;omega)|(simp[h29,h815];done)|(simp[h29,h815];omega))|(refine X7 h809 (by decide) ?_;first|(simp;done)|(simp;omega)|(simp[h29,h815];done)|(simp[h29,h815];omega))|exact((Xb h815 rfl))|exact(Xf (Xb h815 rfl))|exact(X4e (Xb h815 rfl))|exact Xu) (k:=wkT [] (X3.glue J))
     refine brI (fun h816=>?_) fun h816=>?_
     ·
      intro h
      obtain rfl:=oj h
      exact X9 [.go true,.go true,.go false,.go false,.go false,.go false,.go false] (o:=by repeat' first|apply Ya|exact pcM|(refine Xd h803 rfl ?_;first|(simp;done)|(simp;omega)|(simp[h29,h815,h816];done)|(simp[h29,h815,h816];omega))|(refine X7 h803 (by decide) ?_;first|(simp;done)|(simp;omega)|(simp[h29,h815,h816];done)|(simp[h29,h815,h816];omega))|(refine Xd h805 rfl ?_;first|(simp;done)|(simp;omega)|(simp[h29,h815,h816];done)|(simp[h29,h815,h816];omega))|(refine X7 h805 (by decide) ?_;first|(simp;done)|(simp;omega)|(simp[h29,h815,h816];done)|(simp[h29,h815,h816];omega))|(refine Xd h809 rfl ?_;first|(simp;done)|(simp;omega)|(simp[h29,h815,h816];done)|(simp[h29,h815,h816];omega))|(refine X7 h809 (by decide) ?_;first|(simp;done)|(simp;omega)|(simp[h29,h815,h816];done)|(simp[h29,h815,h816];omega))|exact((Xa h815 h816))|exact(Xf (Xa h815 h816))|exact(X4e (Xa h815 h816))|exact Xu) (k:=wkT [] (X3.glue J))
     intro h
     obtain rfl:=oj h
     exact X9 [.go true,.go true,.go true,.go true,.el (aI .i64 (v806.2.1.length:Int)),.go true,.go true,.el (aI .i64 (v810.2.1.length:Int)),.go true] (o:=by repeat' first|apply Ya|exact pcM|(refine Xd h803 rfl ?_;first|(simp;done)|(simp;omega)|(simp[h29,h815,h816];done)|(simp[h29,h815,h816];omega))|(refine X7 h803 (by decide) ?_;first|(simp;done)|(simp;omega)|(simp[h29,h815,h816];done)|(simp[h29,h815,h816];omega))|(refine Xd h805 rfl ?_;first|(simp;done)|(simp;omega)|(simp[h29,h815,h816];done)|(simp[h29,h815,h816];omega))|(refine X7 h805 (by decide) ?_;first|(simp;done)|(simp;omega)|(simp[h29,h815,h816];done)|(simp[h29,h815,h816];omega))|(refine Xd h809 rfl ?_;first|(simp;done)|(simp;omega)|(simp[h29,h815,h816];done)|(simp[h29,h815,h816];omega))|(refine X7 h809 (by decide) ?_;first|(simp;done)|(simp;omega)|(simp[h29,h815,h816];done)|(simp[h29,h815,h816];omega))|exact((Xa h815 h816))|exact(Xf (Xa h815 h816))|exact(Xb6 (Xa h815 h816))|exact Xu) (k:=wkT [] (X3.glue J))
    obtain rfl:=X2r rfl
    revert h
    refine bI fun v850 h851=>bI fun u852 h853=>bI fun u854 h855=>bI fun v856 h857=>bI fun u858 h859=>bI fun v860 h861=>bI fun Xvq h867=>rnI [.pure _ (Xh v850),.pure _ (Xh v850),.no,.see [(114,[0])],.no,.pure _ (AV.tup [(Xk true v856.1),(AV.list true (v856.2.1.map Xe)),(aB v856.2.2)]),.see [(124,[0])],.no,.pure _ (AV.tup [(Xk true v860.1),(AV.list true (v860.2.1.map Xe)),(aB v860.2.2)]),.stop 16] (o:=by repeat' first|apply Ya|exact pcM|(refine Xd h853 rfl ?_;first|(simp;done)|(simp;omega)|(simp[h29];done)|(simp[h29];omega))|(refine X7 h853 (by decide) ?_;first|(simp;done)|(simp;omega)|(simp[h29];done)|(simp[h29];omega))|(refine Xd h855 rfl ?_;first|(simp;done)|(simp;omega)|(simp[h29];done)|(simp[h29];omega))|(refine X7 h855 (by decide) ?_;first|(simp;done)|(simp;omega)|(simp[h29];done)|(simp[h29];omega))|(refine Xd h859 rfl ?_;first|(simp;done)|(simp;omega)|(simp[h29];done)|(simp[h29];omega))|(refine X7 h859 (by decide) ?_;first|(simp;done)|(simp;omega)|(simp[h29];done)|(simp[h29];omega))|exact Xu) ?_
    intro h
    refine X3.join (s':=⟨fr [(9,(aB v1)),(15,(AV.list true (v856.2.1.map Xe))),(18,(AV.list true (v860.2.1.map Xe))),(145,(aB Xvq))],hp ([]),0⟩) ?_ (fun J=>X3.cut ?_)
    ·
     revert h
     refine brI (fun h868=>?_) fun h868=>?_
     ·
      exact fun e=>oj e▸X9 [Bt] (o:=by repeat' first|apply Ya|exact pcM|(refine Xd h853 rfl ?_;first|(simp;done)|(simp;omega)|(simp[h29,h868];done)|(simp[h29,h868];omega))|(refine X7 h853 (by decide) ?_;first|(simp;done)|(simp;omega)|(simp[h29,h868];done)|(simp[h29,h868];omega))|(refine Xd h855 rfl ?_;first|(simp;done)|(simp;omega)|(simp[h29,h868];done)|(simp[h29,h868];omega))|(refine X7 h855 (by decide) ?_;first|(simp;done)|(simp;omega)|(simp[h29,h868];done)|(simp[h29,h868];omega))|(refine Xd h859 rfl ?_;first|(simp;done)|(simp;omega)|(simp[h29,h868];done)|(simp[h29,h868];omega))|(refine X7 h859 (by decide) ?_;first|(simp;done)|(simp;omega)|(simp[h29,h868];done)|(simp[h29,h868];omega))|exact Xu) (k:=fi)
     refine bI fun u869 h870=>?_
     have qh870:=X0k h870
     refine bI fun o898 h899=>rnI [Bf] (o:=by repeat' first|apply Ya|exact pcM|(refine Xd h853 rfl ?_;first|(simp;done)|(simp;omega)|(simp[h29,h868];done)|(simp[h29,h868];omega))|(refine X7 h853 (by decide) ?_;first|(simp;done)|(simp;omega)|(simp[h29,h868];done)|(simp[h29,h868];omega))|(refine Xd h855 rfl ?_;first|(simp;done)|(simp;omega)|(simp[h29,h868];done)|(simp[h29,h868];omega))|(refine X7 h855 (by decide) ?_;first|(simp;done)|(simp;omega)|(simp[h29,h868];done)|(simp[h29,h868];omega))|(refine Xd h859 rfl ?_;first|(simp;done)|(simp;omega)|(simp[h29,h868];done)|(simp[h29,h868];omega))|(refine X7 h859 (by decide) ?_;first|(simp;done)|(simp;omega)|(simp[h29,h868];done)|(simp[h29,h868];omega))|exact Xu) ?_
     intro h
     refine wkT [] (X3.cut (X1b v1 v856.2.1 v860.2.1 qh870 v856.2.1 0 (by simp) _ h899 ?_ ?_))
     ·
      intro eo898;subst eo898
      refine X3.glue ?_
      try dsimp only at h
      revert h
      exact fun e=>oj e▸X9 [] (o:=by repeat' first|apply Ya|exact pcM|(refine Xd h853 rfl ?_;first|(simp;done)|(simp;omega)|(simp[h29,h868];done)|(simp[h29,h868];omega))|(refine X7 h853 (by decide) ?_;first|(simp;done)|(simp;omega)|(simp[h29,h868];done)|(simp[h29,h868];omega))|(refine Xd h855 rfl ?_;first|(simp;done)|(simp;omega)|(simp[h29,h868];done)|(simp[h29,h868];omega))|(refine X7 h855 (by decide) ?_;first|(simp;done)|(simp;omega)|(simp[h29,h868];done)|(simp[h29,h868];omega))|(refine Xd h859 rfl ?_;first|(simp;done)|(simp;omega)|(simp[h29,h868];done)|(simp[h29,h868];omega))|(refine X7 h859 (by decide) ?_;first|(simp;done)|(simp;omega)|(simp[h29,h868];done)|(simp[h29,h868];omega))|exact Xu) (k:=fi)
     intro eo898;subst eo898
     refine X3.glue ?_
     try dsimp only at h
     revert h
     exact fun e=>oj e▸X9 [] (o:=by repeat' first|apply Ya|exact pcM|(refine Xd h853 rfl ?_;first|(simp;done)|(simp;omega)|(simp[h29,h868];done)|(simp[h29,h868];omega))|(refine X7 h853 (by decide) ?_;first|(simp;done)|(simp;omega)|(simp[h29,h868];done)|(simp[h29,h868];omega))|(refine Xd h855 rfl ?_;first|(simp;done)|(simp;omega)|(simp[h29,h868];done)|(simp[h29,h868];omega))|(refine X7 h855 (by decide) ?_;first|(simp;done)|(simp;omega)|(simp[h29,h868];done)|(simp[h29,h868];omega))|(refine Xd h859 rfl ?_;first|(simp;done)|(simp;omega)|(simp[h29,h868];done)|(simp[h29,h868];omega))|(refine X7 h859 (by decide) ?_;first|(simp;done)|(simp;omega)|(simp[h29,h868];done)|(simp[h29,h868];omega))|exact Xu) (k:=fi)
    clear h;revert h867
    refine brI (fun h865=>?_) fun h865=>?_
    ·
     intro h
     obtain rfl:=oj h
     exact X9 [.go false,.go false,.go false,.go false,.go false,.go false,.go false] (o:=by repeat' first|apply Ya|exact pcM|(refine Xd h853 rfl ?_;first|(simp;done)|(simp;omega)|(simp[h29,h865];done)|(simp[h29,h865];omega))|(refine X7 h853 (by decide) ?_;first|(simp;done)|(simp;omega)|(simp[h29,h865];done)|(simp[h29,h865];omega))|(refine Xd h855 rfl ?_;first|(simp;done)|(simp;omega)|(simp[h29,h865];done)|(simp[h29,h865];omega))|(refine X7 h855 (by decide) ?_;first|(simp;done)|(simp;omega)|(simp[h29,h865];done)|(simp[h29,h865];omega))|(refine Xd h859 rfl ?_;first|(simp;done)|(simp;omega)|(simp[h29,h865];done)|(simp[h29,h865];omega))|(refine X7 h859 (by decide) ?_;first|(simp;done)|(simp;omega)|(simp[h29,h865];done)|(simp[h29,h865];omega))|exact((Xb h865 rfl))|exact(Xf (Xb h865 rfl))|exact(X4e (Xb h865 rfl))|exact Xu) (k:=wkT [] (X3.glue J))
    refine brI (fun h866=>?_) fun h866=>?_
    ·
     intro h
     obtain rfl:=oj h
     exact X9 [.go true,.go true,.go false,.go false,.go false,.go false,.go false] (o:=by repeat' first|apply Ya|exact pcM|(refine Xd h853 rfl ?_;first|(simp;done)|(simp;omega)|(simp[h29,h865,h866];done)|(simp[h29,h865,h866];omega))|(refine X7 h853 (by decide) ?_;first|(simp;done)|(simp;omega)|(simp[h29,h865,h866];done)|(simp[h29,h865,h866];omega))|(refine Xd h855 rfl ?_;first|(simp;done)|(simp;omega)|(simp[h29,h865,h866];done)|(simp[h29,h865,h866];omega))|(refine X7 h855 (by decide) ?_;first|(simp;done)|(simp;omega)|(simp[h29,h865,h866];done)|(simp[h29,h865,h866];omega))|(refine Xd h859 rfl ?_;first|(simp;done)|(simp;omega)|(simp[h29,h865,h866];done)|(simp[h29,h865,h866];omega))|(refine X7 h859 (by decide) ?_;first|(simp;done)|(simp;omega)|(simp[h29,h865,h866];done)|(simp[h29,h865,h866];omega))|exact((Xa h865 h866))|exact(Xf (Xa h865 h866))|exact(X4e (Xa h865 h866))|exact Xu) (k:=wkT [] (X3.glue J))
    intro h
    obtain rfl:=oj h
    exact X9 [.go true,.go true,.go true,.go true,.el (aI .i64 (v856.2.1.length:Int)),.go true,.go true,.el (aI .i64 (v860.2.1.length:Int)),.go true] (o:=by repeat' first|apply Ya|exact pcM|(refine Xd h853 rfl ?_;first|(simp;done)|(simp;omega)|(simp[h29,h865,h866];done)|(simp[h29,h865,h866];omega))|(refine X7 h853 (by decide) ?_;first|(simp;done)|(simp;omega)|(simp[h29,h865,h866];done)|(simp[h29,h865,h866];omega))|(refine Xd h855 rfl ?_;first|(simp;done)|(simp;omega)|(simp[h29,h865,h866];done)|(simp[h29,h865,h866];omega))|(refine X7 h855 (by decide) ?_;first|(simp;done)|(simp;omega)|(simp[h29,h865,h866];done)|(simp[h29,h865,h866];omega))|(refine Xd h859 rfl ?_;first|(simp;done)|(simp;omega)|(simp[h29,h865,h866];done)|(simp[h29,h865,h866];omega))|(refine X7 h859 (by decide) ?_;first|(simp;done)|(simp;omega)|(simp[h29,h865,h866];done)|(simp[h29,h865,h866];omega))|exact((Xa h865 h866))|exact(Xf (Xa h865 h866))|exact(Xb6 (Xa h865 h866))|exact Xu) (k:=wkT [] (X3.glue J))
   obtain rfl:=X7g rfl
   rcases X1h with ⟨_|_,X2r⟩
   ·
    revert h
    refine bI fun v900 h901=>bI fun u902 h903=>bI fun u904 h905=>bI fun v906 h907=>bI fun u908 h909=>bI fun v910 h911=>bI fun Xvp h917=>rnI [.pure _ (Xh v900),.pure _ (Xh v900),.no,.see [(114,[0])],.no,.pure _ (AV.tup [(Xk true v906.1),(AV.list true (v906.2.1.map Xe)),(aB v906.2.2)]),.see [(124,[0])],.no,.pure _ (AV.tup [(Xk true v910.1),(AV.list true (v910.2.1.map Xe)),(aB v910.2.2)]),.stop 16] (o:=by repeat' first|apply Ya|exact pcM|(refine Xd h903 rfl ?_;first|(simp;done)|(simp;omega)|(simp[h29];done)|(simp[h29];omega))|(refine X7 h903 (by decide) ?_;first|(simp;done)|(simp;omega)|(simp[h29];done)|(simp[h29];omega))|(refine Xd h905 rfl ?_;first|(simp;done)|(simp;omega)|(simp[h29];done)|(simp[h29];omega))|(refine X7 h905 (by decide) ?_;first|(simp;done)|(simp;omega)|(simp[h29];done)|(simp[h29];omega))|(refine Xd h909 rfl ?_;first|(simp;done)|(simp;omega)|(simp[h29];done)|(simp[h29];omega))|(refine X7 h909 (by decide) ?_;first|(simp;done)|(simp;omega)|(simp[h29];done)|(simp[h29];omega))|exact Xu) ?_
    intro h
    refine X3.join (s':=⟨fr [(9,(aB v1)),(15,(AV.list true (v906.2.1.map Xe))),(18,(AV.list true (v910.2.1.map Xe))),(145,(aB Xvp))],hp ([]),0⟩) ?_ (fun J=>X3.cut ?_)
    ·
     revert h
     refine brI (fun h918=>?_) fun h918=>?_
     ·
      exact fun e=>oj e▸X9 [Bt] (o:=by repeat' first|apply Ya|exact pcM|(refine Xd h903 rfl ?_;first|(simp;done)|(simp;omega)|(simp[h29,h918];done)|(simp[h29,h918];omega))|(refine X7 h903 (by decide) ?_;first|(simp;done)|(simp;omega)|(simp[h29,h918];done)|(simp[h29,h918];omega))|(refine Xd h905 rfl ?_;first|(simp;done)|(simp;omega)|(simp[h29,h918];done)|(simp[h29,h918];omega))|(refine X7 h905 (by decide) ?_;first|(simp;done)|(simp;omega)|(simp[h29,h918];done)|(simp[h29,h918];omega))|(refine Xd h909 rfl ?_;first|(simp;done)|(simp;omega)|(simp[h29,h918];done)|(simp[h29,h918];omega))|(refine X7 h909 (by decide) ?_;first|(simp;done)|(simp;omega)|(simp[h29,h918];done)|(simp[h29,h918];omega))|exact Xu) (k:=fi)
     refine bI fun u919 h920=>?_
     have qh920:=X0k h920
     refine bI fun o948 h949=>rnI [Bf] (o:=by repeat' first|apply Ya|exact pcM|(refine Xd h903 rfl ?_;first|(simp;done)|(simp;omega)|(simp[h29,h918];done)|(simp[h29,h918];omega))|(refine X7 h903 (by decide) ?_;first|(simp;done)|(simp;omega)|(simp[h29,h918];done)|(simp[h29,h918];omega))|(refine Xd h905 rfl ?_;first|(simp;done)|(simp;omega)|(simp[h29,h918];done)|(simp[h29,h918];omega))|(refine X7 h905 (by decide) ?_;first|(simp;done)|(simp;omega)|(simp[h29,h918];done)|(simp[h29,h918];omega))|(refine Xd h909 rfl ?_;first|(simp;done)|(simp;omega)|(simp[h29,h918];done)|(simp[h29,h918];omega))|(refine X7 h909 (by decide) ?_;first|(simp;done)|(simp;omega)|(simp[h29,h918];done)|(simp[h29,h918];omega))|exact Xu) ?_
     intro h
     refine wkT [] (X3.cut (X1b v1 v906.2.1 v910.2.1 qh920 v906.2.1 0 (by simp) _ h949 ?_ ?_))
     ·
      intro eo948;subst eo948
      refine X3.glue ?_
      try dsimp only at h
      revert h
      exact fun e=>oj e▸X9 [] (o:=by repeat' first|apply Ya|exact pcM|(refine Xd h903 rfl ?_;first|(simp;done)|(simp;omega)|(simp[h29,h918];done)|(simp[h29,h918];omega))|(refine X7 h903 (by decide) ?_;first|(simp;done)|(simp;omega)|(simp[h29,h918];done)|(simp[h29,h918];omega))|(refine Xd h905 rfl ?_;first|(simp;done)|(simp;omega)|(simp[h29,h918];done)|(simp[h29,h918];omega))|(refine X7 h905 (by decide) ?_;first|(simp;done)|(simp;omega)|(simp[h29,h918];done)|(simp[h29,h918];omega))|(refine Xd h909 rfl ?_;first|(simp;done)|(simp;omega)|(simp[h29,h918];done)|(simp[h29,h918];omega))|(refine X7 h909 (by decide) ?_;first|(simp;done)|(simp;omega)|(simp[h29,h918];done)|(simp[h29,h918];omega))|exact Xu) (k:=fi)
     intro eo948;subst eo948
     refine X3.glue ?_
     try dsimp only at h
     revert h
     exact fun e=>oj e▸X9 [] (o:=by repeat' first|apply Ya|exact pcM|(refine Xd h903 rfl ?_;first|(simp;done)|(simp;omega)|(simp[h29,h918];done)|(simp[h29,h918];omega))|(refine X7 h903 (by decide) ?_;first|(simp;done)|(simp;omega)|(simp[h29,h918];done)|(simp[h29,h918];omega))|(refine Xd h905 rfl ?_;first|(simp;done)|(simp;omega)|(simp[h29,h918];done)|(simp[h29,h918];omega))|(refine X7 h905 (by decide) ?_;first|(simp;done)|(simp;omega)|(simp[h29,h918];done)|(simp[h29,h918];omega))|(refine Xd h909 rfl ?_;first|(simp;done)|(simp;omega)|(simp[h29,h918];done)|(simp[h29,h918];omega))|(refine X7 h909 (by decide) ?_;first|(simp;done)|(simp;omega)|(simp[h29,h918];done)|(simp[h29,h918];omega))|exact Xu) (k:=fi)
    clear h;revert h917
    refine brI (fun h915=>?_) fun h915=>?_
    ·
     intro h
     obtain rfl:=oj h
     exact X9 [.go false,.go false,.go false,.go false,.go false,.go false,.go false] (o:=by repeat' first|apply Ya|exact pcM|(refine Xd h903 rfl ?_;first|(simp;done)|(simp;omega)|(simp[h29,h915];done)|(simp[h29,h915];omega))|(refine X7 h903 (by decide) ?_;first|(simp;done)|(simp;omega)|(simp[h29,h915];done)|(simp[h29,h915];omega))|(refine Xd h905 rfl ?_;first|(simp;done)|(simp;omega)|(simp[h29,h915];done)|(simp[h29,h915];omega))|(refine X7 h905 (by decide) ?_;first|(simp;done)|(simp;omega)|(simp[h29,h915];done)|(simp[h29,h915];omega))|(refine Xd h909 rfl ?_;first|(simp;done)|(simp;omega)|(simp[h29,h915];done)|(simp[h29,h915];omega))|(refine X7 h909 (by decide) ?_;first|(simp;done)|(simp;omega)|(simp[h29,h915];done)|(simp[h29,h915];omega))|exact((Xb h915 rfl))|exact(Xf (Xb h915 rfl))|exact(X4e (Xb h915 rfl))|exact Xu) (k:=wkT [] (X3.glue J))
    refine brI (fun h916=>?_) fun h916=>?_
    ·
     intro h
     obtain rfl:=oj h
     exact X9 [.go true,.go true,.go false,.go false,.go false,.go false,.go false] (o:=by repeat' first|apply Ya|exact pcM|(refine Xd h903 rfl ?_;first|(simp;done)|(simp;omega)|(simp[h29,h915,h916];done)|(simp[h29,h915,h916];omega))|(refine X7 h903 (by decide) ?_;first|(simp;done)|(simp;omega)|(simp[h29,h915,h916];done)|(simp[h29,h915,h916];omega))|(refine Xd h905 rfl ?_;first|(simp;done)|(simp;omega)|(simp[h29,h915,h916];done)|(simp[h29,h915,h916];omega))|(refine X7 h905 (by decide) ?_;first|(simp;done)|(simp;omega)|(simp[h29,h915,h916];done)|(simp[h29,h915,h916];omega))|(refine Xd h909 rfl ?_;first|(simp;done)|(simp;omega)|(simp[h29,h915,h916];done)|(simp[h29,h915,h916];omega))|(refine X7 h909 (by decide) ?_;first|(simp;done)|(simp;omega)|(simp[h29,h915,h916];done)|(simp[h29,h915,h916];omega))|exact((Xa h915 h916))|exact(Xf (Xa h915 h916))|exact(X4e (Xa h915 h916))|exact Xu) (k:=wkT [] (X3.glue J))
    intro h
    obtain rfl:=oj h
    exact X9 [.go true,.go true,.go true,.go true,.el (aI .i64 (v906.2.1.length:Int)),.go true,.go true,.el (aI .i64 (v910.2.1.length:Int)),.go true] (o:=by repeat' first|apply Ya|exact pcM|(refine Xd h903 rfl ?_;first|(simp;done)|(simp;omega)|(simp[h29,h915,h916];done)|(simp[h29,h915,h916];omega))|(refine X7 h903 (by decide) ?_;first|(simp;done)|(simp;omega)|(simp[h29,h915,h916];done)|(simp[h29,h915,h916];omega))|(refine Xd h905 rfl ?_;first|(simp;done)|(simp;omega)|(simp[h29,h915,h916];done)|(simp[h29,h915,h916];omega))|(refine X7 h905 (by decide) ?_;first|(simp;done)|(simp;omega)|(simp[h29,h915,h916];done)|(simp[h29,h915,h916];omega))|(refine Xd h909 rfl ?_;first|(simp;done)|(simp;omega)|(simp[h29,h915,h916];done)|(simp[h29,h915,h916];omega))|(refine X7 h909 (by decide) ?_;first|(simp;done)|(simp;omega)|(simp[h29,h915,h916];done)|(simp[h29,h915,h916];omega))|exact((Xa h915 h916))|exact(Xf (Xa h915 h916))|exact(Xb6 (Xa h915 h916))|exact Xu) (k:=wkT [] (X3.glue J))
   obtain rfl:=X2r rfl
   revert h
   refine bI fun v950 h951=>bI fun u952 h953=>bI fun u954 h955=>bI fun v956 h957=>bI fun u958 h959=>bI fun v960 h961=>bI fun Xvo h967=>rnI [.pure _ (Xh v950),.pure _ (Xh v950),.no,.see [(114,[0])],.no,.pure _ (AV.tup [(Xk true v956.1),(AV.list true (v956.2.1.map Xe)),(aB v956.2.2)]),.see [(124,[0])],.no,.pure _ (AV.tup [(Xk true v960.1),(AV.list true (v960.2.1.map Xe)),(aB v960.2.2)]),.stop 16] (o:=by repeat' first|apply Ya|exact pcM|(refine Xd h953 rfl ?_;first|(simp;done)|(simp;omega)|(simp[h29];done)|(simp[h29];omega))|(refine X7 h953 (by decide) ?_;first|(simp;done)|(simp;omega)|(simp[h29];done)|(simp[h29];omega))|(refine Xd h955 rfl ?_;first|(simp;done)|(simp;omega)|(simp[h29];done)|(simp[h29];omega))|(refine X7 h955 (by decide) ?_;first|(simp;done)|(simp;omega)|(simp[h29];done)|(simp[h29];omega))|(refine Xd h959 rfl ?_;first|(simp;done)|(simp;omega)|(simp[h29];done)|(simp[h29];omega))|(refine X7 h959 (by decide) ?_;first|(simp;done)|(simp;omega)|(simp[h29];done)|(simp[h29];omega))|exact Xu) ?_
   intro h
   refine X3.join (s':=⟨fr [(9,(aB v1)),(15,(AV.list true (v956.2.1.map Xe))),(18,(AV.list true (v960.2.1.map Xe))),(145,(aB Xvo))],hp ([]),0⟩) ?_ (fun J=>X3.cut ?_)
   ·
    revert h
    refine brI (fun h968=>?_) fun h968=>?_
    ·
     exact fun e=>oj e▸X9 [Bt] (o:=by repeat' first|apply Ya|exact pcM|(refine Xd h953 rfl ?_;first|(simp;done)|(simp;omega)|(simp[h29,h968];done)|(simp[h29,h968];omega))|(refine X7 h953 (by decide) ?_;first|(simp;done)|(simp;omega)|(simp[h29,h968];done)|(simp[h29,h968];omega))|(refine Xd h955 rfl ?_;first|(simp;done)|(simp;omega)|(simp[h29,h968];done)|(simp[h29,h968];omega))|(refine X7 h955 (by decide) ?_;first|(simp;done)|(simp;omega)|(simp[h29,h968];done)|(simp[h29,h968];omega))|(refine Xd h959 rfl ?_;first|(simp;done)|(simp;omega)|(simp[h29,h968];done)|(simp[h29,h968];omega))|(refine X7 h959 (by decide) ?_;first|(simp;done)|(simp;omega)|(simp[h29,h968];done)|(simp[h29,h968];omega))|exact Xu) (k:=fi)
    refine bI fun u969 h970=>?_
    have qh970:=X0k h970
    refine bI fun o998 h999=>rnI [Bf] (o:=by repeat' first|apply Ya|exact pcM|(refine Xd h953 rfl ?_;first|(simp;done)|(simp;omega)|(simp[h29,h968];done)|(simp[h29,h968];omega))|(refine X7 h953 (by decide) ?_;first|(simp;done)|(simp;omega)|(simp[h29,h968];done)|(simp[h29,h968];omega))|(refine Xd h955 rfl ?_;first|(simp;done)|(simp;omega)|(simp[h29,h968];done)|(simp[h29,h968];omega))|(refine X7 h955 (by decide) ?_;first|(simp;done)|(simp;omega)|(simp[h29,h968];done)|(simp[h29,h968];omega))|(refine Xd h959 rfl ?_;first|(simp;done)|(simp;omega)|(simp[h29,h968];done)|(simp[h29,h968];omega))|(refine X7 h959 (by decide) ?_;first|(simp;done)|(simp;omega)|(simp[h29,h968];done)|(simp[h29,h968];omega))|exact Xu) ?_
    intro h
    refine wkT [] (X3.cut (X1b v1 v956.2.1 v960.2.1 qh970 v956.2.1 0 (by simp) _ h999 ?_ ?_))
    ·
     intro eo998;subst eo998
     refine X3.glue ?_
     try dsimp only at h
     revert h
     exact fun e=>oj e▸X9 [] (o:=by repeat' first|apply Ya|exact pcM|(refine Xd h953 rfl ?_;first|(simp;done)|(simp;omega)|(simp[h29,h968];done)|(simp[h29,h968];omega))|(refine X7 h953 (by decide) ?_;first|(simp;done)|(simp;omega)|(simp[h29,h968];done)|(simp[h29,h968];omega))|(refine Xd h955 rfl ?_;first|(simp;done)|(simp;omega)|(simp[h29,h968];done)|(simp[h29,h968];omega))|(refine X7 h955 (by decide) ?_;first|(simp;done)|(simp;omega)|(simp[h29,h968];done)|(simp[h29,h968];omega))|(refine Xd h959 rfl ?_;first|(simp;done)|(simp;omega)|(simp[h29,h968];done)|(simp[h29,h968];omega))|(refine X7 h959 (by decide) ?_;first|(simp;done)|(simp;omega)|(simp[h29,h968];done)|(simp[h29,h968];omega))|exact Xu) (k:=fi)
    intro eo998;subst eo998
    refine X3.glue ?_
    try dsimp only at h
    revert h
    exact fun e=>oj e▸X9 [] (o:=by repeat' first|apply Ya|exact pcM|(refine Xd h953 rfl ?_;first|(simp;done)|(simp;omega)|(simp[h29,h968];done)|(simp[h29,h968];omega))|(refine X7 h953 (by decide) ?_;first|(simp;done)|(simp;omega)|(simp[h29,h968];done)|(simp[h29,h968];omega))|(refine Xd h955 rfl ?_;first|(simp;done)|(simp;omega)|(simp[h29,h968];done)|(simp[h29,h968];omega))|(refine X7 h955 (by decide) ?_;first|(simp;done)|(simp;omega)|(simp[h29,h968];done)|(simp[h29,h968];omega))|(refine Xd h959 rfl ?_;first|(simp;done)|(simp;omega)|(simp[h29,h968];done)|(simp[h29,h968];omega))|(refine X7 h959 (by decide) ?_;first|(simp;done)|(simp;omega)|(simp[h29,h968];done)|(simp[h29,h968];omega))|exact Xu) (k:=fi)
   clear h;revert h967
   refine brI (fun h965=>?_) fun h965=>?_
   ·
    intro h
    obtain rfl:=oj h
    exact X9 [.go false,.go false,.go false,.go false,.go false,.go false,.go false] (o:=by repeat' first|apply Ya|exact pcM|(refine Xd h953 rfl ?_;first|(simp;done)|(simp;omega)|(simp[h29,h965];done)|(simp[h29,h965];omega))|(refine X7 h953 (by decide) ?_;first|(simp;done)|(simp;omega)|(simp[h29,h965];done)|(simp[h29,h965];omega))|(refine Xd h955 rfl ?_;first|(simp;done)|(simp;omega)|(simp[h29,h965];done)|(simp[h29,h965];omega))|(refine X7 h955 (by decide) ?_;first|(simp;done)|(simp;omega)|(simp[h29,h965];done)|(simp[h29,h965];omega))|(refine Xd h959 rfl ?_;first|(simp;done)|(simp;omega)|(simp[h29,h965];done)|(simp[h29,h965];omega))|(refine X7 h959 (by decide) ?_;first|(simp;done)|(simp;omega)|(simp[h29,h965];done)|(simp[h29,h965];omega))|exact((Xb h965 rfl))|exact(Xf (Xb h965 rfl))|exact(X4e (Xb h965 rfl))|exact Xu) (k:=wkT [] (X3.glue J))
   refine brI (fun h966=>?_) fun h966=>?_
   ·
    intro h
    obtain rfl:=oj h
    exact X9 [.go true,.go true,.go false,.go false,.go false,.go false,.go false] (o:=by repeat' first|apply Ya|exact pcM|(refine Xd h953 rfl ?_;first|(simp;done)|(simp;omega)|(simp[h29,h965,h966];done)|(simp[h29,h965,h966];omega))|(refine X7 h953 (by decide) ?_;first|(simp;done)|(simp;omega)|(simp[h29,h965,h966];done)|(simp[h29,h965,h966];omega))|(refine Xd h955 rfl ?_;first|(simp;done)|(simp;omega)|(simp[h29,h965,h966];done)|(simp[h29,h965,h966];omega))|(refine X7 h955 (by decide) ?_;first|(simp;done)|(simp;omega)|(simp[h29,h965,h966];done)|(simp[h29,h965,h966];omega))|(refine Xd h959 rfl ?_;first|(simp;done)|(simp;omega)|(simp[h29,h965,h966];done)|(simp[h29,h965,h966];omega))|(refine X7 h959 (by decide) ?_;first|(simp;done)|(simp;omega)|(simp[h29,h965,h966];done)|(simp[h29,h965,h966];omega))|exact((Xa h965 h966))|exact(Xf (Xa h965 h966))|exact(X4e (Xa h965 h966))|exact Xu) (k:=wkT [] (X3.glue J))
   intro h
   obtain rfl:=oj h
   exact X9 [.go true,.go true,.go true,.go true,.el (aI .i64 (v956.2.1.length:Int)),.go true,.go true,.el (aI .i64 (v960.2.1.length:Int)),.go true] (o:=by repeat' first|apply Ya|exact pcM|(refine Xd h953 rfl ?_;first|(simp;done)|(simp;omega)|(simp[h29,h965,h966];done)|(simp[h29,h965,h966];omega))|(refine X7 h953 (by decide) ?_;first|(simp;done)|(simp;omega)|(simp[h29,h965,h966];done)|(simp[h29,h965,h966];omega))|(refine Xd h955 rfl ?_;first|(simp;done)|(simp;omega)|(simp[h29,h965,h966];done)|(simp[h29,h965,h966];omega))|(refine X7 h955 (by decide) ?_;first|(simp;done)|(simp;omega)|(simp[h29,h965,h966];done)|(simp[h29,h965,h966];omega))|(refine Xd h959 rfl ?_;first|(simp;done)|(simp;omega)|(simp[h29,h965,h966];done)|(simp[h29,h965,h966];omega))|(refine X7 h959 (by decide) ?_;first|(simp;done)|(simp;omega)|(simp[h29,h965,h966];done)|(simp[h29,h965,h966];omega))|exact((Xa h965 h966))|exact(Xf (Xa h965 h966))|exact(Xb6 (Xa h965 h966))|exact Xu) (k:=wkT [] (X3.glue J))
  intro eo585;subst eo585
  refine X3.glue ?_
  try dsimp only at h
  revert h
  exact fun e=>oj e▸X9 [] (k:=fi)
 clear h;revert h28
 refine bI fun v16 h17=>brI (fun h18=>?_) fun h18=>?_
 ·
  intro h
  obtain rfl:=oj h
  exact X9 [.pure _ (aB v16),.go false,.go false,.go false,.go false,.go false,.go false,.go false,.go false,.go false,.go false,.go false,.go false,.go false,.go false,.go false,.go false,.go false,.go false,.go false] (o:=by repeat' first|apply Ya|exact pcM|exact((Xb h18 rfl))|exact(Xf (Xb h18 rfl))|exact(X4e (Xb h18 rfl))|exact((Xb (Xb h18 rfl) rfl))|exact(Xf (Xb (Xb h18 rfl) rfl))|exact(X4e (Xb (Xb h18 rfl) rfl))|exact((Xb (Xb (Xb h18 rfl) rfl) rfl))|exact(Xf (Xb (Xb (Xb h18 rfl) rfl) rfl))|exact(X4e (Xb (Xb (Xb h18 rfl) rfl) rfl))|exact((Xb (Xb (Xb (Xb h18 rfl) rfl) rfl) rfl))|exact(Xf (Xb (Xb (Xb (Xb h18 rfl) rfl) rfl) rfl))|exact(X4e (Xb (Xb (Xb (Xb h18 rfl) rfl) rfl) rfl))|exact((Xb (Xb (Xb (Xb (Xb h18 rfl) rfl) rfl) rfl) rfl))|exact(Xf (Xb (Xb (Xb (Xb (Xb h18 rfl) rfl) rfl) rfl) rfl))|exact(X4e (Xb (Xb (Xb (Xb (Xb h18 rfl) rfl) rfl) rfl) rfl))|exact Xu) (k:=wkT [] (X3.glue J))
 refine bI fun v19 h20=>brI (fun h21=>?_) fun h21=>?_
 ·
  intro h
  obtain rfl:=oj h
  exact X9 [.pure _ (aB v16),.go true,.go true,.pure _ (aB v19),.go true,.go false,.go false,.go false,.go false,.go false,.go false,.go false,.go false,.go false,.go false,.go false,.go false,.go false,.go false,.go false,.go false] (o:=by repeat' first|apply Ya|exact pcM|exact((Xa h18 h21))|exact(Xf (Xa h18 h21))|exact(X4e (Xa h18 h21))|exact((Xb (Xa h18 h21) rfl))|exact(Xf (Xb (Xa h18 h21) rfl))|exact(X4e (Xb (Xa h18 h21) rfl))|exact((Xb (Xb (Xa h18 h21) rfl) rfl))|exact(Xf (Xb (Xb (Xa h18 h21) rfl) rfl))|exact(X4e (Xb (Xb (Xa h18 h21) rfl) rfl))|exact((Xb (Xb (Xb (Xa h18 h21) rfl) rfl) rfl))|exact(Xf (Xb (Xb (Xb (Xa h18 h21) rfl) rfl) rfl))|exact(X4e (Xb (Xb (Xb (Xa h18 h21) rfl) rfl) rfl))|exact((Xb (Xb (Xb (Xb (Xa h18 h21) rfl) rfl) rfl) rfl))|exact(Xf (Xb (Xb (Xb (Xb (Xa h18 h21) rfl) rfl) rfl) rfl))|exact(X4e (Xb (Xb (Xb (Xb (Xa h18 h21) rfl) rfl) rfl) rfl))|exact Xu) (k:=wkT [] (X3.glue J))
 refine brI (fun h22=>?_) fun h22=>?_
 ·
  intro h
  obtain rfl:=oj h
  exact X9 [.pure _ (aB v16),.go true,.go true,.pure _ (aB v19),.go true,.go true,.go true,.go true,.go false,.go false,.go false,.go false,.go false,.go false,.go false,.go false,.go false,.go false,.go false,.go false,.go false] (o:=by repeat' first|apply Ya|exact pcM|exact((Xa h18 h21))|exact(Xf (Xa h18 h21))|exact(Xb6 (Xa h18 h21))|exact((Xa (Xa h18 h21) h22))|exact(Xf (Xa (Xa h18 h21) h22))|exact(X4e (Xa (Xa h18 h21) h22))|exact((Xb (Xa (Xa h18 h21) h22) rfl))|exact(Xf (Xb (Xa (Xa h18 h21) h22) rfl))|exact(X4e (Xb (Xa (Xa h18 h21) h22) rfl))|exact((Xb (Xb (Xa (Xa h18 h21) h22) rfl) rfl))|exact(Xf (Xb (Xb (Xa (Xa h18 h21) h22) rfl) rfl))|exact(X4e (Xb (Xb (Xa (Xa h18 h21) h22) rfl) rfl))|exact((Xb (Xb (Xb (Xa (Xa h18 h21) h22) rfl) rfl) rfl))|exact(Xf (Xb (Xb (Xb (Xa (Xa h18 h21) h22) rfl) rfl) rfl))|exact(X4e (Xb (Xb (Xb (Xa (Xa h18 h21) h22) rfl) rfl) rfl))|exact Xu) (k:=wkT [] (X3.glue J))
 refine rnI [.pure _ (aB v16),.go true,.go true,.pure _ (aB v19),.go true,.go true,.go true,.go true,.go true,.go true,.el (aI .i64 (a2.length:Int)),.go true,.stop 999999] (o:=by repeat' first|apply Ya|exact pcM|exact((Xa h18 h21))|exact(Xf (Xa h18 h21))|exact(Xb6 (Xa h18 h21))|exact((Xa (Xa h18 h21) h22))|exact(Xf (Xa (Xa h18 h21) h22))|exact(Xb6 (Xa (Xa h18 h21) h22))|exact Xu) ?_
 refine brI (fun h23=>?_) fun h23=>?_
 ·
  intro h
  obtain rfl:=oj h
  exact X9 [.go false,.go false,.go false,.go false,.go false,.go false,.go false,.go false,.go false,.go false] (o:=by repeat' first|apply Ya|exact pcM|exact((Xa (Xa (Xa h18 h21) h22) h23))|exact(Xf (Xa (Xa (Xa h18 h21) h22) h23))|exact(X4e (Xa (Xa (Xa h18 h21) h22) h23))|exact((Xb (Xa (Xa (Xa h18 h21) h22) h23) rfl))|exact(Xf (Xb (Xa (Xa (Xa h18 h21) h22) h23) rfl))|exact(X4e (Xb (Xa (Xa (Xa h18 h21) h22) h23) rfl))|exact((Xb (Xb (Xa (Xa (Xa h18 h21) h22) h23) rfl) rfl))|exact(Xf (Xb (Xb (Xa (Xa (Xa h18 h21) h22) h23) rfl) rfl))|exact(X4e (Xb (Xb (Xa (Xa (Xa h18 h21) h22) h23) rfl) rfl))|exact Xu) (k:=wkT [] (X3.glue J))
 refine brI (fun h24=>?_) fun h24=>?_
 ·
  intro h
  obtain rfl:=oj h
  exact X9 [.go true,.go true,.el (aI .i64 (a1.length:Int)),.go true,.go true,.el (aI .i64 (a2.length:Int)),.go true,.go false,.go false,.go false,.go false,.go false] (o:=by repeat' first|apply Ya|exact pcM|exact((Xa (Xa (Xa h18 h21) h22) h23))|exact(Xf (Xa (Xa (Xa h18 h21) h22) h23))|exact(Xb6 (Xa (Xa (Xa h18 h21) h22) h23))|exact((Xa (Xa (Xa (Xa h18 h21) h22) h23) h24))|exact(Xf (Xa (Xa (Xa (Xa h18 h21) h22) h23) h24))|exact(X4e (Xa (Xa (Xa (Xa h18 h21) h22) h23) h24))|exact((Xb (Xa (Xa (Xa (Xa h18 h21) h22) h23) h24) rfl))|exact(Xf (Xb (Xa (Xa (Xa (Xa h18 h21) h22) h23) h24) rfl))|exact(X4e (Xb (Xa (Xa (Xa (Xa h18 h21) h22) h23) h24) rfl))|exact Xu) (k:=wkT [] (X3.glue J))
 refine bI fun v25 h26=>rnI [.go true,.go true,.el (aI .i64 (a1.length:Int)),.go true,.go true,.el (aI .i64 (a2.length:Int)),.go true,.go true,.go true,.pure _ (aB v25),.go true,.stop 999999] (o:=by repeat' first|apply Ya|exact pcM|exact((Xa (Xa (Xa h18 h21) h22) h23))|exact(Xf (Xa (Xa (Xa h18 h21) h22) h23))|exact(Xb6 (Xa (Xa (Xa h18 h21) h22) h23))|exact((Xa (Xa (Xa (Xa h18 h21) h22) h23) h24))|exact(Xf (Xa (Xa (Xa (Xa h18 h21) h22) h23) h24))|exact(Xb6 (Xa (Xa (Xa (Xa h18 h21) h22) h23) h24))|exact Xu) ?_
 refine brI (fun h27=>?_) fun h27=>?_
 ·
  intro h
  obtain rfl:=oj h
  exact X9 [.go false,.go false] (o:=by repeat' first|apply Ya|exact pcM|exact((Xa (Xa (Xa (Xa (Xa h18 h21) h22) h23) h24) h27))|exact(Xf (Xa (Xa (Xa (Xa (Xa h18 h21) h22) h23) h24) h27))|exact(X4e (Xa (Xa (Xa (Xa (Xa h18 h21) h22) h23) h24) h27))|exact Xu) (k:=wkT [] (X3.glue J))
 intro h
 obtain rfl:=oj h
 exact X9 [.go true,.go true] (o:=by repeat' first|apply Ya|exact pcM|exact((Xa (Xa (Xa (Xa (Xa h18 h21) h22) h23) h24) h27))|exact(Xf (Xa (Xa (Xa (Xa (Xa h18 h21) h22) h23) h24) h27))|exact(Xb6 (Xa (Xa (Xa (Xa (Xa h18 h21) h22) h23) h24) h27))|exact Xu) (k:=wkT [] (X3.glue J))⟩
end Go.Av.Tryz