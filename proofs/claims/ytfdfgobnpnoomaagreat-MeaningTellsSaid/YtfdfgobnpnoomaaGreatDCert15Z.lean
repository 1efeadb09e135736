/- Printed by decomp.py: that the program computes the functions. -/
import Derived.Test.YtfdfgobnpnoomaaGreatDCert14Z
set_option linter.all false

namespace Go.Av.Tryz
open Go.Proofs Go.D
set_option maxRecDepth 10000
set_option maxHeartbeats 40000000
theorem Xhp {Q:X01->St->Mu->Prop} {μ:Mu} (X07:(List X1c)) (X27:Int) (hl:X07.length<=140737488355328):∀ (xs:List X1c) (k:Nat) (hx:X07.drop k=xs) (Xf:(List X1c)) (X08:Nb Xf) (o:X9b) (h:X3g X07 X27 xs k Xf=some o)
  (C0:∀ (Xg:(List X1c)) (Xl:Nb Xg),o=X9b.x0 Xg->X2 Tryz.prog 29 0 Q (.exit (.exit 0)) [] ⟨fr [(5,(slE Xl.1 0 (Xg.map Xd)))],hp ([]++opE Xl.1 0 5 (Xg.map Xd)),1⟩ μ),
  X2 Tryz.prog 29 0 Q (.loop (X30 0 (Xj Tryz.f40))) [] ⟨fr [(0,(Lf (X07.map Xd))),(1,(aI .i64 X27)),(5,(slE X08.1 0 (Xf.map Xd))),(6,(aI .i64 (k:Int)))],hp ([]++opE X08.1 0 5 (Xf.map Xd)),1⟩ μ:=by
 intro xs
 induction xs with
 |nil =>
  intro k hx Xf X08 o h C0
  have hk:=drop_nil hx
  have hc:decide ((k:Int)<(X07.length:Int))=false:=Yf (by omega)
  rw[X3g] at h
  rcases X08 with ⟨_|_,X1o⟩
  ·
   refine X2.round ?_
   revert h
   exact fun e=>X7 [.el (aI .i64 (X07.length:Int)),Bf] (k:=wkT [] (C0 _  nbF (oj e).symm))
  ·
   obtain rfl:=X1o rfl
   refine X2.round ?_
   revert h
   exact fun e=>X7 [.el (aI .i64 (X07.length:Int)),Bf] (k:=wkT [] (C0 _  nbS (oj e).symm))
 |cons x xs ih =>
  intro k hx Xf X08 o h C0
  obtain⟨hk,hg,hx1⟩:=drop_cons hx
  have hc:decide ((k:Int)<(X07.length:Int))=true:=Yt (by omega)
  rw[X3g] at h
  rcases X08 with ⟨_|_,X1o⟩
  ·
   refine X2.round ?_
   revert h
   refine bI fun Xq4 h43=>rnI [.el (aI .i64 (X07.length:Int)),Bt,.el (Xd x)] ?_
   intro h
   refine X2.joinF (fun(q:Nb Xq4)=>⟨fr [(0,(Lf (X07.map Xd))),(1,(aI .i64 X27)),(5,(slE q.1 0 (Xq4.map Xd))),(6,(aI .i64 (k:Int)))],hp ([]++opE q.1 0 5 (Xq4.map Xd)),1⟩) ?_ (fun J=>X2.cut ?_)
   ·
    rintro Xys
    rcases Xys with ⟨_|_,X000⟩
    ·
     exact X7 [] (k:=wkT [] (ih (k+1) hx1 _ nbF o h C0))
    obtain rfl:=X000 rfl
    exact X7 [] (k:=wkT [] (ih (k+1) hx1 _ nbS o h C0))
   clear h;revert h43
   refine brI (fun h40=>?_) fun h40=>?_
   ·
    refine bI fun u41 h42=>?_
    intro h
    obtain rfl:=oj h
    exact X7 [Bt,.el (Xd x),.no] (o:=by repeat' first|apply Ya|exact pcM|(refine X0g h42 rfl ?_;first|(simp;done)|(simp;omega)|(simp[hc,h40];done)|(simp[hc,h40];omega))|(refine Xz h42 (by decide) ?_;first|(simp;done)|(simp;omega)|(simp[hc,h40];done)|(simp[hc,h40];omega))|exact X0k) (k:=wkT [(0,2)] (X2.glue (J nbF)))
   intro h
   obtain rfl:=oj h
   exact X7 [Bf] (k:=wkT [] (X2.glue (J nbF)))
  obtain rfl:=X1o rfl
  refine X2.round ?_
  revert h
  refine bI fun Xzb h51=>rnI [.el (aI .i64 (X07.length:Int)),Bt,.el (Xd x)] ?_
  intro h
  refine X2.joinF (fun(q:Nb Xzb)=>⟨fr [(0,(Lf (X07.map Xd))),(1,(aI .i64 X27)),(5,(slE q.1 0 (Xzb.map Xd))),(6,(aI .i64 (k:Int)))],hp ([]++opE q.1 0 5 (Xzb.map Xd)),1⟩) ?_ (fun J=>X2.cut ?_)
  ·
   rintro Xyp
   rcases Xyp with ⟨_|_,Xzx⟩
   ·
    exact X7 [] (k:=wkT [] (ih (k+1) hx1 _ nbF o h C0))
   obtain rfl:=Xzx rfl
   exact X7 [] (k:=wkT [] (ih (k+1) hx1 _ nbS o h C0))
  clear h;revert h51
  refine brI (fun h48=>?_) fun h48=>?_
  ·
   refine bI fun u49 h50=>?_
   intro h
   obtain rfl:=oj h
   exact X7 [Bt,.el (Xd x),.no] (o:=by repeat' first|apply Ya|exact pcM|(refine X0g h50 rfl ?_;first|(simp;done)|(simp;omega)|(simp[hc,h48];done)|(simp[hc,h48];omega))|(refine Xz h50 (by decide) ?_;first|(simp;done)|(simp;omega)|(simp[hc,h48];done)|(simp[hc,h48];omega))|exact X0k) (k:=wkT [(0,2)] (X2.glue (J nbF)))
  intro h
  obtain rfl:=oj h
  exact X7 [Bf] (k:=wkT [] (X2.glue (J nbS)))
instance X015:PCs Tryz.prog 40 (∀ (a0:(List X1c)) (a1:Int) (r:(List X1c)),Xd4 a0 a1=some r->X0j Tryz.prog 40 [(Lf (a0.map Xd)),(aI .i64 a1)] (AV.list true (r.map Xd))):=⟨fun a0 a1 r h=>by
 refine X0j.sym X9 fn40 (nt:=29) rfl rfl ?_ okM
 unfold Xd4 at h
 revert h
 refine bI fun u1 h2=>?_
 have qh2:=X09 h2
 refine bI fun o52 h53=>rnI [] ?_
 intro h
 refine wkT [] (X2.cut (Xhp a0 a1 qh2 a0 0 (by simp) _ nbS _ h53 ?_))
 intro Xg Xl eo52;subst eo52
 refine X2.glue ?_
 try dsimp only at h
 rcases Xl with ⟨_|_,X0q⟩
 ·
  revert h
  exact fun e=>oj e▸X7 [] (k:=fi)
 obtain rfl:=X0q rfl
 revert h
 exact fun e=>oj e▸X7 [] (k:=fi)⟩
instance Xx8:PCs Tryz.prog 22 (∀ (a0:Xw) (a1:(List (List Xk))) (r:(List X1c)×(List Xc)×Int),X52 a0 a1=some r->X0j Tryz.prog 22 [(Xn false a0),(Lf (List.map (X6j false Xa) a1))] (AV.tup [(AV.list true (r.1.map Xd)),(AV.list true (r.2.1.map X0)),(aI .i64 r.2.2)])):=⟨fun a0 a1 r h=>by
 refine X0j.sym X9 fn22 (nt:=25) rfl rfl ?_ okM
 unfold X52 at h
 revert h
 exact bI fun v1 h2=>brI (fun h3=>fun e=>oj e▸X7 [.pure _ (AV.tup [(AV.list true (v1.1.map Xd)),(AV.list true (v1.2.1.map X0)),(aI .i64 v1.2.2)]),Bt] (k:=fi)) fun h3=>bI fun v4 h5=>bI fun v6 h7=>fun e=>oj e▸X7 [.pure _ (AV.tup [(AV.list true (v1.1.map Xd)),(AV.list true (v1.2.1.map X0)),(aI .i64 v1.2.2)]),Bf,.pure _ (aI .i64 v4),.pure _ (AV.list true (v6.map Xd))] (k:=fi)⟩
theorem Xj5 {Q:X01->St->Mu->Prop} {μ:Mu} (X07:(List X1c)) (X27:(List X1c)) (hl:X07.length<=140737488355328):∀ (xs:List X1c) (k:Nat) (hx:X07.drop k=xs) (o:X7n) (h:X4z X07 X27 xs k  = some o)
  (C0:o=X7n.x0->X2 Tryz.prog 26 0 Q (.exit (.exit 0)) [] ⟨fr [],hp ([]),0⟩ μ)
  (C1:o=X7n.x1->X2 Tryz.prog 26 0 Q (.exit .ret) [] ⟨fr [(4,(aB false))],hp ([]),0⟩ μ),
  X2 Tryz.prog 26 0 Q (.loop (X30 0 (Xj Tryz.f23))) [] ⟨fr [(0,(Lf (X07.map Xd))),(1,(Lf (X27.map Xd))),(5,(aI .i64 (k:Int)))],hp ([]),0⟩ μ:=by
 intro xs
 induction xs with
 |nil =>
  intro k hx  o h C0 C1
  have hk:=drop_nil hx
  have hc:decide ((k:Int)<(X07.length:Int))=false:=Yf (by omega)
  rw[X4z] at h
  refine X2.round ?_
  revert h
  exact fun e=>X7 [.el (aI .i64 (X07.length:Int)),Bf] (k:=wkT [] (C0  (oj e).symm))
 |cons x xs ih =>
  intro k hx  o h C0 C1
  obtain⟨hk,hg,hx1⟩:=drop_cons hx
  have hc:decide ((k:Int)<(X07.length:Int))=true:=Yt (by omega)
  rw[X4z] at h
  refine X2.round ?_
  revert h
  refine bI fun e11 h12=>?_
  try have qh12:=Xv h12
  refine brI (fun h13=>fun e=>X7 [.el (aI .i64 (X07.length:Int)),Bt,.el (Xd x),.el (Xd e11),Bt] (k:=wkT [] (C1  (oj e).symm))) fun h13=>rnI [.el (aI .i64 (X07.length:Int)),Bt,.el (Xd x),.el (Xd e11),Bf] ?_
  intro h
  exact wkT [] (ih (k+1) hx1  o h C0 C1)
instance X02e:PCs Tryz.prog 23 (∀ (a0:(List X1c)) (a1:(List X1c)) (r:Bool),X9u a0 a1=some r->X0j Tryz.prog 23 [(Lf (a0.map Xd)),(Lf (a1.map Xd))] (aB r)):=⟨fun a0 a1 r h=>by
 refine X0j.sym X9 fn23 (nt:=26) rfl rfl ?_ okM
 unfold X9u at h
 revert h
 refine brI (fun h1=>fun e=>oj e▸X7 [.el (aI .i64 (a0.length:Int)),.el (aI .i64 (a1.length:Int)),Bt] (k:=fi)) fun h1=>bI fun u2 h3=>?_
 have qh3:=X09 h3
 refine bI fun o14 h15=>rnI [.el (aI .i64 (a0.length:Int)),.el (aI .i64 (a1.length:Int)),Bf] ?_
 intro h
 refine wkT [] (X2.cut (Xj5 a0 a1 qh3 a0 0 (by simp) _ h15 ?_ ?_))
 ·
  intro eo14;subst eo14
  refine X2.glue ?_
  try dsimp only at h
  revert h
  exact fun e=>oj e▸X7 [] (k:=fi)
 intro eo14;subst eo14
 refine X2.glue ?_
 try dsimp only at h
 revert h
 exact fun e=>oj e▸X7 [] (k:=fi)⟩
theorem Xja {Q:X01->St->Mu->Prop} {μ:Mu} (X07:(List Xc)) (X27:(List Xc)) (hl:X07.length<=140737488355328):∀ (xs:List Xc) (k:Nat) (hx:X07.drop k=xs) (o:X7o) (h:X53 X07 X27 xs k  = some o)
  (C0:o=X7o.x0->X2 Tryz.prog 26 0 Q (.exit (.exit 0)) [] ⟨fr [],hp ([]),0⟩ μ)
  (C1:o=X7o.x1->X2 Tryz.prog 26 0 Q (.exit .ret) [] ⟨fr [(4,(aB false))],hp ([]),0⟩ μ),
  X2 Tryz.prog 26 0 Q (.loop (X30 0 (Xj Tryz.f24))) [] ⟨fr [(0,(Lf (X07.map X0))),(1,(Lf (X27.map X0))),(5,(aI .i64 (k:Int)))],hp ([]),0⟩ μ:=by
 intro xs
 induction xs with
 |nil =>
  intro k hx  o h C0 C1
  have hk:=drop_nil hx
  have hc:decide ((k:Int)<(X07.length:Int))=false:=Yf (by omega)
  rw[X53] at h
  refine X2.round ?_
  revert h
  exact fun e=>X7 [.el (aI .i64 (X07.length:Int)),Bf] (k:=wkT [] (C0  (oj e).symm))
 |cons x xs ih =>
  intro k hx  o h C0 C1
  obtain⟨hk,hg,hx1⟩:=drop_cons hx
  have hc:decide ((k:Int)<(X07.length:Int))=true:=Yt (by omega)
  rw[X53] at h
  refine X2.round ?_
  revert h
  refine bI fun e11 h12=>?_
  try have qh12:=Xv h12
  refine brI (fun h13=>fun e=>X7 [.el (aI .i64 (X07.length:Int)),Bt,.el (X0 x),.el (X0 e11),Bt] (k:=wkT [] (C1  (oj e).symm))) fun h13=>rnI [.el (aI .i64 (X07.length:Int)),Bt,.el (X0 x),.el (X0 e11),Bf] ?_
  intro h
  exact wkT [] (ih (k+1) hx1  o h C0 C1)
instance X02k:PCs Tryz.prog 24 (∀ (a0:(List Xc)) (a1:(List Xc)) (r:Bool),X9w a0 a1=some r->X0j Tryz.prog 24 [(Lf (a0.map X0)),(Lf (a1.map X0))] (aB r)):=⟨fun a0 a1 r h=>by
 refine X0j.sym X9 fn24 (nt:=26) rfl rfl ?_ okM
 unfold X9w at h
 revert h
 refine brI (fun h1=>fun e=>oj e▸X7 [.el (aI .i64 (a0.length:Int)),.el (aI .i64 (a1.length:Int)),Bt] (k:=fi)) fun h1=>bI fun u2 h3=>?_
 have qh3:=X09 h3
 refine bI fun o14 h15=>rnI [.el (aI .i64 (a0.length:Int)),.el (aI .i64 (a1.length:Int)),Bf] ?_
 intro h
 refine wkT [] (X2.cut (Xja a0 a1 qh3 a0 0 (by simp) _ h15 ?_ ?_))
 ·
  intro eo14;subst eo14
  refine X2.glue ?_
  try dsimp only at h
  revert h
  exact fun e=>oj e▸X7 [] (k:=fi)
 intro eo14;subst eo14
 refine X2.glue ?_
 try dsimp only at h
 revert h
 exact fun e=>oj e▸X7 [] (k:=fi)⟩
instance Xeh:PCs Tryz.prog 4 (∀ (a0:Xw) (a1:(List (List Xk))) (r:Bool),X45 a0 a1=some r->X0j Tryz.prog 4 [(Xn false a0),(Lf (List.map (X6j false Xa) a1))] (aB r)):=⟨fun a0 a1 r h=>by
 refine X0j.sym X9 fn4 (nt:=103) rfl rfl ?_ okM
 unfold X45 at h
 revert h
 refine bI fun X06p h12=>rnI [.stop 1] ?_
 intro h
 refine X2.join (s':=⟨fr [(1,(Lf (List.map (X6j false Xa) a1))),(2,(AV.ptr 0 0 0)),(26,(aB X06p))],hp ([(0,Ob [(Xn false a0)] 10)]),1⟩) ?_ (fun J=>X2.cut ?_)
 ·
  revert h
  refine brI (fun h13=>fun e=>oj e▸X7 [Bt] (k:=fi)) fun h13=>bI fun v14 h15=>bI fun v16 h17=>bI fun v18 h19=>bI fun v20 h21=>bI fun v22 h23=>bI fun v24 h25=>bI fun X06y h57=>rnI [Bf,.pure _ (AV.tup [(aI .i64 v14.1),(aI .i64 v14.2)]),.pure _ (AV.tup [(aI .i64 v16.1),(aI .i64 v16.2)]),.pure _ (AV.tup [(AV.list true (v18.1.map Xd)),(AV.list true (v18.2.1.map X0)),(aI .i64 v18.2.2)]),.pure _ (AV.tup [(AV.list true (v20.1.map Xd)),(AV.list true (v20.2.1.map X0)),(aI .i64 v20.2.2)]),.pure _ (AV.tup [(AV.list true (v22.1.map Xd)),(AV.list true (v22.2.1.map X0)),(aI .i64 v22.2.2)]),.pure _ (AV.tup [(AV.list true (v24.1.map Xd)),(AV.list true (v24.2.1.map X0)),(aI .i64 v24.2.2)]),.stop 9] ?_
  intro h
  refine X2.join (s':=⟨fr [(4,(aB X06y))],hp ([]),0⟩) ?_ (fun J=>X2.cut ?_)
  ·
   revert h
   exact fun e=>oj e▸X7 [] (k:=fi)
  clear h;revert h57
  refine brI (fun h42=>?_) fun h42=>?_
  ·
   refine brI (fun h43=>?_) fun h43=>?_
   ·
    refine bI fun v44 h45=>brI (fun h46=>?_) fun h46=>?_
    ·
     refine bI fun v47 h48=>brI (fun h49=>?_) fun h49=>?_
     ·
      refine rnI [.go true,.go true,.go true,.go true,.go true,.go true,.pure _ (aB v44),.go true,.go true,.go true,.pure _ (aB v47),.go true,.go true,.go true,.stop 999999] (o:=by repeat' first|apply Ya|exact pcM|exact((Xh h42 h43))|exact(X0o (Xh h42 h43))|exact(Xlt (Xh h42 h43))|exact((Xh (Xh h42 h43) h46))|exact(X0o (Xh (Xh h42 h43) h46))|exact(Xlt (Xh (Xh h42 h43) h46))|exact((Xh (Xh (Xh h42 h43) h46) h49))|exact(X0o (Xh (Xh (Xh h42 h43) h46) h49))|exact(Xlt (Xh (Xh (Xh h42 h43) h46) h49))|exact X0k) ?_
      refine brI (fun h50=>?_) fun h50=>?_
      ·
       refine bI fun v51 h52=>brI (fun h53=>?_) fun h53=>?_
       ·
        refine bI fun v54 h55=>brI (fun h56=>?_) fun h56=>?_
        ·
         intro h
         obtain rfl:=oj h
         exact X7 [.go true,.go true,.go true,.pure _ (aB v51),.go true,.go true,.go true,.pure _ (aB v54),.go true,.go true,.go true] (o:=by repeat' first|apply Ya|exact pcM|exact((Xh (Xh (Xh (Xh h42 h43) h46) h49) h50))|exact(X0o (Xh (Xh (Xh (Xh h42 h43) h46) h49) h50))|exact(Xlt (Xh (Xh (Xh (Xh h42 h43) h46) h49) h50))|exact((Xh (Xh (Xh (Xh (Xh h42 h43) h46) h49) h50) h53))|exact(X0o (Xh (Xh (Xh (Xh (Xh h42 h43) h46) h49) h50) h53))|exact(Xlt (Xh (Xh (Xh (Xh (Xh h42 h43) h46) h49) h50) h53))|exact((Xh (Xh (Xh (Xh (Xh (Xh h42 h43) h46) h49) h50) h53) h56))|exact(X0o (Xh (Xh (Xh (Xh (Xh (Xh h42 h43) h46) h49) h50) h53) h56))|exact(Xlt (Xh (Xh (Xh (Xh (Xh (Xh h42 h43) h46) h49) h50) h53) h56))|exact X0k) (k:=wkT [] (X2.glue J))
        intro h
        obtain rfl:=oj h
        exact X7 [.go true,.go true,.go true,.pure _ (aB v51),.go true,.go true,.go true,.pure _ (aB v54),.go false,.go false,.go false] (o:=by repeat' first|apply Ya|exact pcM|exact((Xh (Xh (Xh (Xh h42 h43) h46) h49) h50))|exact(X0o (Xh (Xh (Xh (Xh h42 h43) h46) h49) h50))|exact(Xlt (Xh (Xh (Xh (Xh h42 h43) h46) h49) h50))|exact((Xh (Xh (Xh (Xh (Xh h42 h43) h46) h49) h50) h53))|exact(X0o (Xh (Xh (Xh (Xh (Xh h42 h43) h46) h49) h50) h53))|exact(Xlt (Xh (Xh (Xh (Xh (Xh h42 h43) h46) h49) h50) h53))|exact((Xh (Xh (Xh (Xh (Xh (Xh h42 h43) h46) h49) h50) h53) h56))|exact(X0o (Xh (Xh (Xh (Xh (Xh (Xh h42 h43) h46) h49) h50) h53) h56))|exact(Xf3 (Xh (Xh (Xh (Xh (Xh (Xh h42 h43) h46) h49) h50) h53) h56))|exact X0k) (k:=wkT [] (X2.glue J))
       intro h
       obtain rfl:=oj h
       exact X7 [.go true,.go true,.go true,.pure _ (aB v51),.go false,.go false,.go false,.go false,.go false,.go false] (o:=by repeat' first|apply Ya|exact pcM|exact((Xh (Xh (Xh (Xh h42 h43) h46) h49) h50))|exact(X0o (Xh (Xh (Xh (Xh h42 h43) h46) h49) h50))|exact(Xlt (Xh (Xh (Xh (Xh h42 h43) h46) h49) h50))|exact((Xh (Xh (Xh (Xh (Xh h42 h43) h46) h49) h50) h53))|exact(X0o (Xh (Xh (Xh (Xh (Xh h42 h43) h46) h49) h50) h53))|exact(Xf3 (Xh (Xh (Xh (Xh (Xh h42 h43) h46) h49) h50) h53))|exact((Xx (Xh (Xh (Xh (Xh (Xh h42 h43) h46) h49) h50) h53) rfl))|exact(X0o (Xx (Xh (Xh (Xh (Xh (Xh h42 h43) h46) h49) h50) h53) rfl))|exact(Xf3 (Xx (Xh (Xh (Xh (Xh (Xh h42 h43) h46) h49) h50) h53) rfl))|exact X0k) (k:=wkT [] (X2.glue J))
      intro h
      obtain rfl:=oj h
      exact X7 [.go false,.go false,.go false,.go false,.go false,.go false,.go false,.go false,.go false] (o:=by repeat' first|apply Ya|exact pcM|exact((Xh (Xh (Xh (Xh h42 h43) h46) h49) h50))|exact(X0o (Xh (Xh (Xh (Xh h42 h43) h46) h49) h50))|exact(Xf3 (Xh (Xh (Xh (Xh h42 h43) h46) h49) h50))|exact((Xx (Xh (Xh (Xh (Xh h42 h43) h46) h49) h50) rfl))|exact(X0o (Xx (Xh (Xh (Xh (Xh h42 h43) h46) h49) h50) rfl))|exact(Xf3 (Xx (Xh (Xh (Xh (Xh h42 h43) h46) h49) h50) rfl))|exact((Xx (Xx (Xh (Xh (Xh (Xh h42 h43) h46) h49) h50) rfl) rfl))|exact(X0o (Xx (Xx (Xh (Xh (Xh (Xh h42 h43) h46) h49) h50) rfl) rfl))|exact(Xf3 (Xx (Xx (Xh (Xh (Xh (Xh h42 h43) h46) h49) h50) rfl) rfl))|exact X0k) (k:=wkT [] (X2.glue J))
     intro h
     obtain rfl:=oj h
     exact X7 [.go true,.go true,.go true,.go true,.go true,.go true,.pure _ (aB v44),.go true,.go true,.go true,.pure _ (aB v47),.go false,.go false,.go false,.go false,.go false,.go false,.go false,.go false,.go false,.go false,.go false,.go false] (o:=by repeat' first|apply Ya|exact pcM|exact((Xh h42 h43))|exact(X0o (Xh h42 h43))|exact(Xlt (Xh h42 h43))|exact((Xh (Xh h42 h43) h46))|exact(X0o (Xh (Xh h42 h43) h46))|exact(Xlt (Xh (Xh h42 h43) h46))|exact((Xh (Xh (Xh h42 h43) h46) h49))|exact(X0o (Xh (Xh (Xh h42 h43) h46) h49))|exact(Xf3 (Xh (Xh (Xh h42 h43) h46) h49))|exact((Xx (Xh (Xh (Xh h42 h43) h46) h49) rfl))|exact(X0o (Xx (Xh (Xh (Xh h42 h43) h46) h49) rfl))|exact(Xf3 (Xx (Xh (Xh (Xh h42 h43) h46) h49) rfl))|exact((Xx (Xx (Xh (Xh (Xh h42 h43) h46) h49) rfl) rfl))|exact(X0o (Xx (Xx (Xh (Xh (Xh h42 h43) h46) h49) rfl) rfl))|exact(Xf3 (Xx (Xx (Xh (Xh (Xh h42 h43) h46) h49) rfl) rfl))|exact((Xx (Xx (Xx (Xh (Xh (Xh h42 h43) h46) h49) rfl) rfl) rfl))|exact(X0o (Xx (Xx (Xx (Xh (Xh (Xh h42 h43) h46) h49) rfl) rfl) rfl))|exact(Xf3 (Xx (Xx (Xx (Xh (Xh (Xh h42 h43) h46) h49) rfl) rfl) rfl))|exact X0k) (k:=wkT [] (X2.glue J))
    intro h
    obtain rfl:=oj h
    exact X7 [.go true,.go true,.go true,.go true,.go true,.go true,.pure _ (aB v44),.go false,.go false,.go false,.go false,.go false,.go false,.go false,.go false,.go false,.go false,.go false,.go false,.go false,.go false,.go false] (o:=by repeat' first|apply Ya|exact pcM|exact((Xh h42 h43))|exact(X0o (Xh h42 h43))|exact(Xlt (Xh h42 h43))|exact((Xh (Xh h42 h43) h46))|exact(X0o (Xh (Xh h42 h43) h46))|exact(Xf3 (Xh (Xh h42 h43) h46))|exact((Xx (Xh (Xh h42 h43) h46) rfl))|exact(X0o (Xx (Xh (Xh h42 h43) h46) rfl))|exact(Xf3 (Xx (Xh (Xh h42 h43) h46) rfl))|exact((Xx (Xx (Xh (Xh h42 h43) h46) rfl) rfl))|exact(X0o (Xx (Xx (Xh (Xh h42 h43) h46) rfl) rfl))|exact(Xf3 (Xx (Xx (Xh (Xh h42 h43) h46) rfl) rfl))|exact((Xx (Xx (Xx (Xh (Xh h42 h43) h46) rfl) rfl) rfl))|exact(X0o (Xx (Xx (Xx (Xh (Xh h42 h43) h46) rfl) rfl) rfl))|exact(Xf3 (Xx (Xx (Xx (Xh (Xh h42 h43) h46) rfl) rfl) rfl))|exact((Xx (Xx (Xx (Xx (Xh (Xh h42 h43) h46) rfl) rfl) rfl) rfl))|exact(X0o (Xx (Xx (Xx (Xx (Xh (Xh h42 h43) h46) rfl) rfl) rfl) rfl))|exact(Xf3 (Xx (Xx (Xx (Xx (Xh (Xh h42 h43) h46) rfl) rfl) rfl) rfl))|exact X0k) (k:=wkT [] (X2.glue J))
   intro h
   obtain rfl:=oj h
   exact X7 [.go true,.go true,.go true,.go false,.go false,.go false,.go false,.go false,.go false,.go false,.go false,.go false,.go false,.go false,.go false,.go false,.go false,.go false,.go false,.go false,.go false] (o:=by repeat' first|apply Ya|exact pcM|exact((Xh h42 h43))|exact(X0o (Xh h42 h43))|exact(Xf3 (Xh h42 h43))|exact((Xx (Xh h42 h43) rfl))|exact(X0o (Xx (Xh h42 h43) rfl))|exact(Xf3 (Xx (Xh h42 h43) rfl))|exact((Xx (Xx (Xh h42 h43) rfl) rfl))|exact(X0o (Xx (Xx (Xh h42 h43) rfl) rfl))|exact(Xf3 (Xx (Xx (Xh h42 h43) rfl) rfl))|exact((Xx (Xx (Xx (Xh h42 h43) rfl) rfl) rfl))|exact(X0o (Xx (Xx (Xx (Xh h42 h43) rfl) rfl) rfl))|exact(Xf3 (Xx (Xx (Xx (Xh h42 h43) rfl) rfl) rfl))|exact((Xx (Xx (Xx (Xx (Xh h42 h43) rfl) rfl) rfl) rfl))|exact(X0o (Xx (Xx (Xx (Xx (Xh h42 h43) rfl) rfl) rfl) rfl))|exact(Xf3 (Xx (Xx (Xx (Xx (Xh h42 h43) rfl) rfl) rfl) rfl))|exact((Xx (Xx (Xx (Xx (Xx (Xh h42 h43) rfl) rfl) rfl) rfl) rfl))|exact(X0o (Xx (Xx (Xx (Xx (Xx (Xh h42 h43) rfl) rfl) rfl) rfl) rfl))|exact(Xf3 (Xx (Xx (Xx (Xx (Xx (Xh h42 h43) rfl) rfl) rfl) rfl) rfl))|exact X0k) (k:=wkT [] (X2.glue J))
  intro h
  obtain rfl:=oj h
  exact X7 [.go false,.go false,.go false,.go false,.go false,.go false,.go false,.go false,.go false,.go false,.go false,.go false,.go false,.go false,.go false,.go false,.go false,.go false,.go false,.go false,.go false] (o:=by repeat' first|apply Ya|exact pcM|exact((Xx h42 rfl))|exact(X0o (Xx h42 rfl))|exact(Xf3 (Xx h42 rfl))|exact((Xx (Xx h42 rfl) rfl))|exact(X0o (Xx (Xx h42 rfl) rfl))|exact(Xf3 (Xx (Xx h42 rfl) rfl))|exact((Xx (Xx (Xx h42 rfl) rfl) rfl))|exact(X0o (Xx (Xx (Xx h42 rfl) rfl) rfl))|exact(Xf3 (Xx (Xx (Xx h42 rfl) rfl) rfl))|exact((Xx (Xx (Xx (Xx h42 rfl) rfl) rfl) rfl))|exact(X0o (Xx (Xx (Xx (Xx h42 rfl) rfl) rfl) rfl))|exact(Xf3 (Xx (Xx (Xx (Xx h42 rfl) rfl) rfl) rfl))|exact((Xx (Xx (Xx (Xx (Xx h42 rfl) rfl) rfl) rfl) rfl))|exact(X0o (Xx (Xx (Xx (Xx (Xx h42 rfl) rfl) rfl) rfl) rfl))|exact(Xf3 (Xx (Xx (Xx (Xx (Xx h42 rfl) rfl) rfl) rfl) rfl))|exact((Xx (Xx (Xx (Xx (Xx (Xx h42 rfl) rfl) rfl) rfl) rfl) rfl))|exact(X0o (Xx (Xx (Xx (Xx (Xx (Xx h42 rfl) rfl) rfl) rfl) rfl) rfl))|exact(Xf3 (Xx (Xx (Xx (Xx (Xx (Xx h42 rfl) rfl) rfl) rfl) rfl) rfl))|exact X0k) (k:=wkT [] (X2.glue J))
 clear h;revert h12
 refine bI fun v7 h8=>brI (fun h9=>?_) fun h9=>?_
 ·
  intro h
  obtain rfl:=oj h
  exact X7 [.pure _ (aB v7),.go false,.go false] (k:=wkT [] (X2.glue J))
 refine bI fun v10 h11=>?_
 intro h
 obtain rfl:=oj h
 exact X7 [.pure _ (aB v7),.go true,.go true,.pure _ (aB v10)] (k:=wkT [] (X2.glue J))⟩
end Go.Av.Tryz