/- Printed by decomp.py: that the program computes the functions. -/
import Derived.Test.YtkjlgmgfhgamlaaGreatDCert12Z
set_option linter.all false

namespace Go.Av.Tryz
open Go.Proofs Go.D
set_option maxRecDepth 10000
set_option maxHeartbeats 40000000
theorem Xfd {Q:Xx->St->Mu->Prop} {μ:Mu} (X0r:(List X0g)) (hl:X0r.length<=140737488355328):∀ (xs:List X0g) (k:Nat) (hx:X0r.drop k=xs) (o:X61) (h:X3y X0r xs k  = some o)
  (C0:o=X61.x0->X5 Tryz.prog 33 0 Q (.exit (.exit 0)) [] ⟨fr [],hp ([]),0⟩ μ)
  (C1:o=X61.x1->X5 Tryz.prog 33 0 Q (.exit .ret) [] ⟨fr [(2,(aB false))],hp ([]),0⟩ μ),
  X5 Tryz.prog 33 0 Q (.loop (X4c 0 (Xd Tryz.f55))) [] ⟨fr [(0,(Lf (X0r.map Xs))),(3,(aI .i64 (k:Int)))],hp ([]),0⟩ μ:=by
 intro xs
 induction xs with
 |nil =>
  intro k hx  o h C0 C1
  have hk:=X1u hx
  have hc:decide ((k:Int)<(X0r.length:Int))=false:=Yf (by omega)
  rw[X3y] at h
  refine X5.round ?_
  revert h
  exact fun e=>Xb [.el (aI .i64 (X0r.length:Int)),Bf] (k:=wkT [] (C0  (oj e).symm))
 |cons x xs ih =>
  intro k hx  o h C0 C1
  obtain⟨hk,hg,hx1⟩:=X13 hx
  have hc:decide ((k:Int)<(X0r.length:Int))=true:=Yt (by omega)
  rw[X3y] at h
  refine X5.round ?_
  revert h
  refine bI fun Xub h35=>rnI [.el (aI .i64 (X0r.length:Int)),Bt,.stop 4] ?_
  intro h
  refine X5.join (s':=⟨fr [(0,(Lf (X0r.map Xs))),(3,(aI .i64 (k:Int))),(32,(aB Xub))],hp ([]),0⟩) ?_ (fun J=>X5.cut ?_)
  ·
   revert h
   refine brI (fun h36=>fun e=>Xb [Bt] (k:=wkT [] (C1  (oj e).symm))) fun h36=>rnI [Bf] ?_
   intro h
   exact wkT [] (ih (k+1) hx1  o h C0 C1)
  clear h;revert h35
  refine brI (fun h31=>?_) fun h31=>?_
  ·
   intro h
   obtain rfl:=oj h
   exact Xb [.el (Xs x),.go false,.go false,.go false,.go false,.go false,.go false,.go false,.go false,.go false,.go false,.go false,.go false,.go false] (o:=by repeat' first|apply Ya|exact pcM|exact((X0 h31 rfl))|exact(X6 (X0 h31 rfl))|exact(X24 (X0 h31 rfl))|exact Xr) (k:=wkT [] (X5.glue J))
  refine brI (fun h32=>?_) fun h32=>?_
  ·
   intro h
   obtain rfl:=oj h
   exact Xb [.el (Xs x),.go true,.go true,.go true,.el (Xs x),.go true,.go true,.go true,.go false,.go false,.go false,.go false,.go false,.go false,.go false] (o:=by repeat' first|apply Ya|exact pcM|exact((X1 h31 h32))|exact(X6 (X1 h31 h32))|exact(X24 (X1 h31 h32))|exact Xr) (k:=wkT [] (X5.glue J))
  refine bI fun v33 h34=>?_
  intro h
  obtain rfl:=oj h
  exact Xb [.el (Xs x),.go true,.go true,.go true,.el (Xs x),.go true,.go true,.go true,.go true,.go true,.go true,.el (Xs x),.go true,.go true,.go true,.pure _ (aB v33),.go true] (o:=by repeat' first|apply Ya|exact pcM|exact((X1 h31 h32))|exact(X6 (X1 h31 h32))|exact(X1q (X1 h31 h32))|exact Xr) (k:=wkT [] (X5.glue J))
instance Xvt:PCs Tryz.prog 55 (∀ (a0:(List X0g)) (r:Bool),X9e a0=some r->X0h Tryz.prog 55 [(Lf (a0.map Xs))] (aB r)):=⟨fun a0 r h=>by
 refine X0h.sym X8 fn55 (nt:=33) rfl rfl ?_ okM
 unfold X9e at h
 revert h
 refine bI fun u1 h2=>?_
 have qh2:=X16 h2
 refine bI fun o37 h38=>rnI [] ?_
 intro h
 refine wkT [] (X5.cut (Xfd a0 qh2 a0 0 (by simp) _ h38 ?_ ?_))
 ·
  intro eo37;subst eo37
  refine X5.glue ?_
  try dsimp only at h
  revert h
  exact fun e=>oj e▸Xb [] (k:=fi)
 intro eo37;subst eo37
 refine X5.glue ?_
 try dsimp only at h
 revert h
 exact fun e=>oj e▸Xb [] (k:=fi)⟩
instance Xvv:PCs Tryz.prog 89 (∀ (a0:Int) (r:Bool),X9g a0=some r->X0h Tryz.prog 89 [(aI .i64 a0)] (aB r)):=⟨fun a0 r h=>by
 refine X0h.sym X8 fn89 (nt:=9) rfl rfl ?_ okM
 unfold X9g at h
 revert h
 refine bI fun j4_2 h8=>rnI [.stop 1] ?_
 intro h
 refine X5.join (s':=⟨fr [(2,(aB j4_2))],hp ([]),0⟩) ?_ (fun J=>X5.cut ?_)
 ·
  revert h
  exact fun e=>oj e▸Xb [] (k:=fi)
 clear h;revert h8
 refine brI (fun h5=>?_) fun h5=>?_
 ·
  intro h
  obtain rfl:=oj h
  exact Xb [.go false,.go false] (k:=wkT [] (X5.glue J))
 refine bI fun v6 h7=>?_
 intro h
 obtain rfl:=oj h
 exact Xb [.go true,.go true,.pure _ (aB v6)] (k:=wkT [] (X5.glue J))⟩
instance Xw0:PCs Tryz.prog 90 (∀ (a0:X0c) (r:Int),X9k a0=some r->X0h Tryz.prog 90 [(X01 a0)] (aI .i64 r)):=⟨fun a0 r h=>by
 refine X0h.sym X8 fn90 (nt:=31) rfl rfl ?_ okM
 unfold X9k at h
 revert h
 refine bI fun Xui h36=>rnI [.stop 1] ?_
 intro h
 refine X5.join (s':=⟨fr [(30,(aB Xui))],hp ([]),0⟩) ?_ (fun J=>X5.cut ?_)
 ·
  revert h
  exact brI (fun h37=>fun e=>oj e▸Xb [Bt] (k:=fi)) fun h37=>fun e=>oj e▸Xb [Bf] (k:=fi)
 clear h;revert h36
 refine brI (fun h19=>?_) fun h19=>?_
 ·
  refine bI fun v20 h21=>brI (fun h22=>?_) fun h22=>?_
  ·
   refine brI (fun h23=>?_) fun h23=>?_
   ·
    intro h
    obtain rfl:=oj h
    exact Xb [.go true,.go true,.go true,.pure _ (aB v20),.go true,.go true,.go true,.go true,.go false,.go false,.go false,.go false,.go false,.go false,.go false,.go false,.go false,.go false,.go false,.go false,.go false] (o:=by repeat' first|apply Ya|exact pcM|exact((X0 h19 h22))|exact(X6 (X0 h19 h22))|exact(X24 (X0 h19 h22))|exact((X0 (X0 h19 h22) h23))|exact(X6 (X0 (X0 h19 h22) h23))|exact(X24 (X0 (X0 h19 h22) h23))|exact Xr) (k:=wkT [] (X5.glue J))
   refine brI (fun h24=>?_) fun h24=>?_
   ·
    refine rnI [.go true,.go true,.go true,.pure _ (aB v20),.go true,.go true,.go true,.go true,.go true,.go true,.go true,.go true,.go true,.go true,.go true,.go true,.go true,.stop 999999] (o:=by repeat' first|apply Ya|exact pcM|exact((X0 h19 h22))|exact(X6 (X0 h19 h22))|exact(X24 (X0 h19 h22))|exact((X0 (X0 h19 h22) h23))|exact(X6 (X0 (X0 h19 h22) h23))|exact Xr) ?_
    refine brI (fun h25=>?_) fun h25=>?_
    ·
     refine bI fun v26 h27=>?_
     intro h
     obtain rfl:=oj h
     exact Xb [.go true,.go true,.go true,.pure _ (aB v26),.go true] (o:=by repeat' first|apply Ya|exact pcM|exact((X0 h24 h25))|exact(X6 (X0 h24 h25))|exact((X0 (X0 h19 h22) h23))|exact(X6 (X0 (X0 h19 h22) h23))|exact(X24 (X0 h24 h25))|exact(X1q (X0 (X0 h19 h22) h23))|exact Xr) (k:=wkT [] (X5.glue J))
    intro h
    obtain rfl:=oj h
    exact Xb [.go false,.go false,.go false,.go true] (o:=by repeat' first|apply Ya|exact pcM|exact((X0 h24 h25))|exact(X6 (X0 h24 h25))|exact((X0 (X0 h19 h22) h23))|exact(X6 (X0 (X0 h19 h22) h23))|exact(X1q (X0 h24 h25))|exact(X1q (X0 (X0 h19 h22) h23))|exact Xr) (k:=wkT [] (X5.glue J))
   intro h
   obtain rfl:=oj h
   exact Xb [.go true,.go true,.go true,.pure _ (aB v20),.go true,.go true,.go true,.go true,.go true,.go true,.go true,.go true,.go false,.go false,.go false,.go true,.go true,.go false,.go false,.go false,.go true] (o:=by repeat' first|apply Ya|exact pcM|exact((X0 h19 h22))|exact(X6 (X0 h19 h22))|exact(X24 (X0 h19 h22))|exact((X0 (X0 h19 h22) h23))|exact(X6 (X0 (X0 h19 h22) h23))|exact((X1 h24 rfl))|exact(X6 (X1 h24 rfl))|exact(X1q (X1 h24 rfl))|exact(X1q (X0 (X0 h19 h22) h23))|exact Xr) (k:=wkT [] (X5.glue J))
  refine brI (fun h28=>?_) fun h28=>?_
  ·
   refine rnI [.go true,.go true,.go true,.pure _ (aB v20),.go false,.go false,.go false,.go false,.go true,.go true,.go true,.go true,.go true,.go true,.go true,.go true,.go true,.stop 999999] (o:=by repeat' first|apply Ya|exact pcM|exact((X0 h19 h22))|exact(X6 (X0 h19 h22))|exact(X1q (X0 h19 h22))|exact((X1 (X0 h19 h22) rfl))|exact(X6 (X1 (X0 h19 h22) rfl))|exact Xr) ?_
   refine brI (fun h29=>?_) fun h29=>?_
   ·
    refine bI fun v30 h31=>?_
    intro h
    obtain rfl:=oj h
    exact Xb [.go true,.go true,.go true,.pure _ (aB v30),.go true] (o:=by repeat' first|apply Ya|exact pcM|exact((X0 h28 h29))|exact(X6 (X0 h28 h29))|exact((X1 (X0 h19 h22) rfl))|exact(X6 (X1 (X0 h19 h22) rfl))|exact(X24 (X0 h28 h29))|exact(X1q (X1 (X0 h19 h22) rfl))|exact Xr) (k:=wkT [] (X5.glue J))
   intro h
   obtain rfl:=oj h
   exact Xb [.go false,.go false,.go false,.go true] (o:=by repeat' first|apply Ya|exact pcM|exact((X0 h28 h29))|exact(X6 (X0 h28 h29))|exact((X1 (X0 h19 h22) rfl))|exact(X6 (X1 (X0 h19 h22) rfl))|exact(X1q (X0 h28 h29))|exact(X1q (X1 (X0 h19 h22) rfl))|exact Xr) (k:=wkT [] (X5.glue J))
  intro h
  obtain rfl:=oj h
  exact Xb [.go true,.go true,.go true,.pure _ (aB v20),.go false,.go false,.go false,.go false,.go true,.go true,.go true,.go true,.go false,.go false,.go false,.go true,.go true,.go false,.go false,.go false,.go true] (o:=by repeat' first|apply Ya|exact pcM|exact((X0 h19 h22))|exact(X6 (X0 h19 h22))|exact(X1q (X0 h19 h22))|exact((X1 (X0 h19 h22) rfl))|exact(X6 (X1 (X0 h19 h22) rfl))|exact((X1 h28 rfl))|exact(X6 (X1 h28 rfl))|exact(X1q (X1 h28 rfl))|exact(X1q (X1 (X0 h19 h22) rfl))|exact Xr) (k:=wkT [] (X5.glue J))
 refine brI (fun h32=>?_) fun h32=>?_
 ·
  refine rnI [.go false,.go false,.go false,.go false,.go false,.go false,.go false,.go true,.go true,.go true,.go true,.go true,.go true,.go true,.go true,.go true,.stop 999999] (o:=by repeat' first|apply Ya|exact pcM|exact((X1 h19 rfl))|exact(X6 (X1 h19 rfl))|exact(X1q (X1 h19 rfl))|exact((X1 (X1 h19 rfl) rfl))|exact(X6 (X1 (X1 h19 rfl) rfl))|exact Xr) ?_
  refine brI (fun h33=>?_) fun h33=>?_
  ·
   refine bI fun v34 h35=>?_
   intro h
   obtain rfl:=oj h
   exact Xb [.go true,.go true,.go true,.pure _ (aB v34),.go true] (o:=by repeat' first|apply Ya|exact pcM|exact((X0 h32 h33))|exact(X6 (X0 h32 h33))|exact((X1 (X1 h19 rfl) rfl))|exact(X6 (X1 (X1 h19 rfl) rfl))|exact(X24 (X0 h32 h33))|exact(X1q (X1 (X1 h19 rfl) rfl))|exact Xr) (k:=wkT [] (X5.glue J))
  intro h
  obtain rfl:=oj h
  exact Xb [.go false,.go false,.go false,.go true] (o:=by repeat' first|apply Ya|exact pcM|exact((X0 h32 h33))|exact(X6 (X0 h32 h33))|exact((X1 (X1 h19 rfl) rfl))|exact(X6 (X1 (X1 h19 rfl) rfl))|exact(X1q (X0 h32 h33))|exact(X1q (X1 (X1 h19 rfl) rfl))|exact Xr) (k:=wkT [] (X5.glue J))
 intro h
 obtain rfl:=oj h
 exact Xb [.go false,.go false,.go false,.go false,.go false,.go false,.go false,.go true,.go true,.go true,.go true,.go false,.go false,.go false,.go true,.go true,.go false,.go false,.go false,.go true] (o:=by repeat' first|apply Ya|exact pcM|exact((X1 h19 rfl))|exact(X6 (X1 h19 rfl))|exact(X1q (X1 h19 rfl))|exact((X1 (X1 h19 rfl) rfl))|exact(X6 (X1 (X1 h19 rfl) rfl))|exact((X1 h32 rfl))|exact(X6 (X1 h32 rfl))|exact(X1q (X1 h32 rfl))|exact(X1q (X1 (X1 h19 rfl) rfl))|exact Xr) (k:=wkT [] (X5.glue J))⟩
theorem Xfh {Q:Xx->St->Mu->Prop} {μ:Mu} (Xk:Xo):∀ (n:Nat) (X87:Int) (o:X65) (h:X42 Xk n X87=some o)
  (C0:o=X65.x0->X5 Tryz.prog 63 0 Q (.exit .ret) [] ⟨fr [(2,(aB false))],hp ([]),0⟩ μ)
  (C1:o=X65.x1->X5 Tryz.prog 63 0 Q (.exit (.exit 0)) [] ⟨fr [(1,(AV.ptr 0 0 0))],hp ([(0,Ob [(Xc false Xk)] 9)]),1⟩ μ),
  X5 Tryz.prog 63 0 Q (.loop (X4c 0 (Xd Tryz.f56))) [] ⟨fr [(1,(AV.ptr 0 0 0)),(3,(aI .i64 X87))],hp ([(0,Ob [(Xc false Xk)] 9)]),1⟩ μ:=by
 intro n
 induction n with
 |zero=>intro X87 o h C0 C1;cases h
 |succ n ih =>
  intro X87 o h C0 C1
  rw[X42] at h
  refine X5.round ?_
  revert h
  refine brI (fun h14=>?_) fun h14=>fun e=>Xb [.el (aI .i64 (Xk.Marks.length:Int)),Bf] (k:=wkT [] (C1  (oj e).symm))
  refine bI fun e15 h16=>?_
  try have qh16:=Xp h16
  refine bI fun v17 h18=>brI (fun h19=>fun e=>Xb [.el (aI .i64 (Xk.Marks.length:Int)),Bt,.el (aI .i64 e15),.pure _ (aB v17),Bt] (k:=wkT [] (C0  (oj e).symm))) fun h19=>rnI [.el (aI .i64 (Xk.Marks.length:Int)),Bt,.el (aI .i64 e15),.pure _ (aB v17),Bf,.wrap] ?_
  intro h
  exact wkT [] (ih  _ o h C0 C1)
theorem Xfg {Q:Xx->St->Mu->Prop} {μ:Mu} (X6b:Xo):∀ (n:Nat) (Xyv:Int) (o:X64) (h:X41 X6b n Xyv=some o)
  (C0:o=X64.x0->X5 Tryz.prog 63 0 Q (.exit .ret) [] ⟨fr [(2,(aB false))],hp ([]),0⟩ μ)
  (C1:o=X64.x1->X5 Tryz.prog 63 0 Q (.exit (.exit 2)) [] ⟨fr [(1,(AV.ptr 0 0 0))],hp ([(0,Ob [(Xc false X6b)] 9)]),1⟩ μ),
  X5 Tryz.prog 63 0 Q (.loop (X4c 1 (Xd Tryz.f56))) [] ⟨fr [(1,(AV.ptr 0 0 0)),(4,(aI .i64 Xyv))],hp ([(0,Ob [(Xc false X6b)] 9)]),1⟩ μ:=by
 intro n
 induction n with
 |zero=>intro Xyv o h C0 C1;cases h
 |succ n ih =>
  intro Xyv o h C0 C1
  rw[X41] at h
  refine X5.round ?_
  revert h
  refine brI (fun h35=>?_) fun h35=>fun e=>Xb [.el (aI .i64 (X6b.Events.length:Int)),Bf] (k:=wkT [] (C1  (oj e).symm))
  refine bI fun e36 h37=>?_
  try have qh37:=Xp h37
  refine bI fun v38 h39=>brI (fun h40=>fun e=>Xb [.el (aI .i64 (X6b.Events.length:Int)),Bt,.el (X01 e36),.pure _ (aI .i64 v38),Bt] (k:=wkT [] (C0  (oj e).symm))) fun h40=>rnI [.el (aI .i64 (X6b.Events.length:Int)),Bt,.el (X01 e36),.pure _ (aI .i64 v38),Bf,.wrap] ?_
  intro h
  exact wkT [] (ih  _ o h C0 C1)
theorem Xff {Q:Xx->St->Mu->Prop} {μ:Mu} (Xc9:Xo):∀ (n:Nat) (Xyu:Int) (o:X63) (h:X40 Xc9 n Xyu=some o)
  (C0:o=X63.x0->X5 Tryz.prog 63 0 Q (.exit .ret) [] ⟨fr [(2,(aB false))],hp ([]),0⟩ μ)
  (C1:o=X63.x1->X5 Tryz.prog 63 0 Q (.exit (.exit 4)) [] ⟨fr [(1,(AV.ptr 0 0 0))],hp ([(0,Ob [(Xc false Xc9)] 9)]),1⟩ μ),
  X5 Tryz.prog 63 0 Q (.loop (X4c 2 (Xd Tryz.f56))) [] ⟨fr [(1,(AV.ptr 0 0 0)),(5,(aI .i64 Xyu))],hp ([(0,Ob [(Xc false Xc9)] 9)]),1⟩ μ:=by
 intro n
 induction n with
 |zero=>intro Xyu o h C0 C1;cases h
 |succ n ih =>
  intro Xyu o h C0 C1
  rw[X40] at h
  refine X5.round ?_
  revert h
  refine brI (fun h56=>?_) fun h56=>fun e=>Xb [.el (aI .i64 (Xc9.Rows.length:Int)),Bf] (k:=wkT [] (C1  (oj e).symm))
  refine bI fun e57 h58=>?_
  try have qh58:=Xp h58
  refine bI fun v59 h60=>brI (fun h61=>fun e=>Xb [.el (aI .i64 (Xc9.Rows.length:Int)),Bt,.el (Xw e57),.pure _ (aB v59),Bt] (k:=wkT [] (C0  (oj e).symm))) fun h61=>rnI [.el (aI .i64 (Xc9.Rows.length:Int)),Bt,.el (Xw e57),.pure _ (aB v59),Bf,.wrap] ?_
  intro h
  exact wkT [] (ih  _ o h C0 C1)
theorem Xfe {Q:Xx->St->Mu->Prop} {μ:Mu} (Xdi:Xo):∀ (n:Nat) (Xys:Int) (o:X62) (h:X3z Xdi n Xys=some o)
  (C0:o=X62.x0->X5 Tryz.prog 63 0 Q (.exit .ret) [] ⟨fr [(2,(aB false))],hp ([]),0⟩ μ)
  (C1:o=X62.x1->X5 Tryz.prog 63 0 Q (.exit (.exit 6)) [] ⟨fr [],hp ([]),0⟩ μ),
  X5 Tryz.prog 63 0 Q (.loop (X4c 3 (Xd Tryz.f56))) [] ⟨fr [(1,(AV.ptr 0 0 0)),(6,(aI .i64 Xys))],hp ([(0,Ob [(Xc false Xdi)] 9)]),1⟩ μ:=by
 intro n
 induction n with
 |zero=>intro Xys o h C0 C1;cases h
 |succ n ih =>
  intro Xys o h C0 C1
  rw[X3z] at h
  refine X5.round ?_
  revert h
  refine brI (fun h77=>?_) fun h77=>fun e=>Xb [.el (aI .i64 (Xdi.Late.length:Int)),Bf] (k:=wkT [] (C1  (oj e).symm))
  refine bI fun e78 h79=>?_
  try have qh79:=Xp h79
  refine bI fun v80 h81=>brI (fun h82=>fun e=>Xb [.el (aI .i64 (Xdi.Late.length:Int)),Bt,.el (Xt e78),.pure _ (aB v80),Bt] (k:=wkT [] (C0  (oj e).symm))) fun h82=>rnI [.el (aI .i64 (Xdi.Late.length:Int)),Bt,.el (Xt e78),.pure _ (aB v80),Bf,.wrap] ?_
  intro h
  exact wkT [] (ih  _ o h C0 C1)
instance Xvu:PCs Tryz.prog 56 (∀ (a0:Xo) (r:Bool),X9f a0=some r->X0h Tryz.prog 56 [(Xc false a0)] (aB r)):=⟨fun a0 r h=>by
 refine X0h.sym X8 fn56 (nt:=63) rfl rfl ?_ okM
 unfold X9f at h
 revert h
 refine bI fun o20 h21=>rnI [] ?_
 intro h
 refine wkT [] (X5.cut (Xfh a0 _ _ _ h21 ?_ ?_))
 ·
  intro eo20;subst eo20
  refine X5.glue ?_
  try dsimp only at h
  revert h
  exact fun e=>oj e▸Xb [] (k:=fi)
 intro eo20;subst eo20
 refine X5.glue ?_
 try dsimp only at h
 revert h
 refine bI fun o41 h42=>rnI [] ?_
 intro h
 refine wkT [] (X5.cut (Xfg a0 _ _ _ h42 ?_ ?_))
 ·
  intro eo41;subst eo41
  refine X5.glue ?_
  try dsimp only at h
  revert h
  exact fun e=>oj e▸Xb [] (k:=fi)
 intro eo41;subst eo41
 refine X5.glue ?_
 try dsimp only at h
 revert h
 refine bI fun o62 h63=>rnI [] ?_
 intro h
 refine wkT [] (X5.cut (Xff a0 _ _ _ h63 ?_ ?_))
 ·
  intro eo62;subst eo62
  refine X5.glue ?_
  try dsimp only at h
  revert h
  exact fun e=>oj e▸Xb [] (k:=fi)
 intro eo62;subst eo62
 refine X5.glue ?_
 try dsimp only at h
 revert h
 refine bI fun o83 h84=>rnI [] ?_
 intro h
 refine wkT [] (X5.cut (Xfe a0 _ _ _ h84 ?_ ?_))
 ·
  intro eo83;subst eo83
  refine X5.glue ?_
  try dsimp only at h
  revert h
  exact fun e=>oj e▸Xb [] (k:=fi)
 intro eo83;subst eo83
 refine X5.glue ?_
 try dsimp only at h
 revert h
 exact fun e=>oj e▸Xb [] (k:=fi)⟩
instance Xw2:PCs Tryz.prog 92 (∀ (a0:X0q) (r:Int),X58 a0=some r->X0h Tryz.prog 92 [(X0l a0)] (aI .i64 r)):=⟨fun a0 r h=>by
 refine X0h.sym X8 fn92 (nt:=53) rfl rfl ?_ okM
 unfold X58 at h
 revert h
 refine bI fun j2_3 h4=>rnI [] ?_
 intro h
 refine X5.join (s':=⟨fr [(1,(AV.ptr 0 0 0)),(3,(aB j2_3))],hp ([(0,Ob [(X0l a0)] 4)]),1⟩) ?_ (fun J=>X5.cut ?_)
 ·
  revert h
  exact brI (fun h5=>fun e=>oj e▸Xb [Bt] (k:=fi)) fun h5=>brI (fun h6=>fun e=>oj e▸Xb [Bf,Bt] (k:=fi)) fun h6=>brI (fun h7=>fun e=>oj e▸Xb [Bf,Bf,Bt] (k:=fi)) fun h7=>brI (fun h8=>fun e=>oj e▸Xb [Bf,Bf,Bf,Bt] (k:=fi)) fun h8=>fun e=>oj e▸Xb [Bf,Bf,Bf,Bf] (k:=fi)
 clear h;revert h4
 refine brI (fun h3=>?_) fun h3=>?_
 ·
  intro h
  obtain rfl:=oj h
  exact Xb [Bt] (k:=wkT [] (X5.glue J))
 intro h
 obtain rfl:=oj h
 exact Xb [Bf] (k:=wkT [] (X5.glue J))⟩
instance Xxa:PCs Tryz.prog 93 (∀ (a0:X4) (a1:X4) (r:Bool),X8v a0 a1=some r->X0h Tryz.prog 93 [(X3 a0),(X3 a1)] (aB r)):=⟨fun a0 a1 r h=>by
 refine X0h.sym X8 fn93 (nt:=38) rfl rfl ?_ okM
 unfold X8v at h
 revert h
 exact brI (fun h1=>fun e=>oj e▸Xb [Bt] (k:=fi)) fun h1=>brI (fun h2=>fun e=>oj e▸Xb [Bf,Bt] (k:=fi)) fun h2=>fun e=>oj e▸Xb [Bf,Bf] (k:=fi)⟩
theorem Xfj {Q:Xx->St->Mu->Prop} {μ:Mu} (X0r:(List X4)) (hl:X0r.length<=140737488355328):∀ (xs:List X4) (k:Nat) (hx:X0r.drop k=xs) (o:X67) (h:X44 X0r xs k  = some o)
  (C0:o=X67.x0->X5 Tryz.prog 85 0 Q (.exit (.exit 0)) [] ⟨fr [],hp ([]),0⟩ μ)
  (C1:o=X67.x1->X5 Tryz.prog 85 0 Q (.exit .ret) [] ⟨fr [(2,(aI .i64 8))],hp ([]),0⟩ μ),
  X5 Tryz.prog 85 0 Q (.loop (X4c 0 (Xd Tryz.f57))) [] ⟨fr [(0,(Lf (X0r.map X3))),(3,(aI .i64 (k:Int)))],hp ([]),0⟩ μ:=by
 intro xs
 induction xs with
 |nil =>
  intro k hx  o h C0 C1
  have hk:=X1u hx
  have hc:decide ((k:Int)<(X0r.length:Int))=false:=Yf (by omega)
  rw[X44] at h
  refine X5.round ?_
  revert h
  exact fun e=>Xb [.el (aI .i64 (X0r.length:Int)),Bf] (k:=wkT [] (C0  (oj e).symm))
 |cons x xs ih =>
  intro k hx  o h C0 C1
  obtain⟨hk,hg,hx1⟩:=X13 hx
  have hc:decide ((k:Int)<(X0r.length:Int))=true:=Yt (by omega)
  rw[X44] at h
  refine X5.round ?_
  revert h
  refine bI fun Xon h102=>rnI [.el (aI .i64 (X0r.length:Int)),Bt,.el (X3 x),.stop 8] ?_
  intro h
  refine X5.join (s':=⟨fr [(0,(Lf (X0r.map X3))),(3,(aI .i64 (k:Int))),(4,(AV.ptr 0 0 0)),(5,(aB (bif (bif (decide (x.Span.Start >= ((-1100585369600):Int))) then (decide (x.Span.Start<x.Span.End)) else false) then (decide (x.Span.End<=(1100585369600:Int))) else false))),(6,(aB Xon))],hp ([(0,Ob [(X3 x)] 11)]),1⟩) ?_ (fun J=>X5.cut ?_)
  ·
   revert h
   refine bI fun Xp4 h132=>rnI [.stop 9] ?_
   intro h
   refine X5.join (s':=⟨fr [(0,(Lf (X0r.map X3))),(3,(aI .i64 (k:Int))),(84,(aB Xp4))],hp ([]),0⟩) ?_ (fun J=>X5.cut ?_)
   ·
    revert h
    refine brI (fun h133=>fun e=>Xb [Bt] (k:=wkT [] (C1  (oj e).symm))) fun h133=>rnI [Bf] ?_
    intro h
    exact wkT [] (ih (k+1) hx1  o h C0 C1)
   clear h;revert h132
   refine brI (fun h118=>?_) fun h118=>?_
   ·
    intro h
    obtain rfl:=oj h
    exact Xb [.go false,.go false,.go true,.go false,.go false,.go false,.go false,.go false,.go false,.no,.no,.no,.no,.no,.go false,.go true,.go false,.go false,.go false,.no,.no,.no,.no,.no,.no,.no,.no,.go false,.go true] (k:=wkT [] (X5.glue J))
   refine brI (fun h119=>?_) fun h119=>?_
   ·
    intro h
    obtain rfl:=oj h
    exact Xb [.go true,.go true,.go false,.go false,.go false,.go false,.go false,.go false,.no,.no,.no,.no,.no,.go false,.go true,.go false,.go false,.go false,.no,.no,.no,.no,.no,.no,.no,.no,.go false,.go true] (o:=by repeat' first|apply Ya|exact pcM|exact((X1 h118 h119))|exact(X6 (X1 h118 h119))|exact Xr) (k:=wkT [] (X5.glue J))
   refine brI (fun h120=>?_) fun h120=>?_
   ·
    refine brI (fun h121=>?_) fun h121=>?_
    ·
     intro h
     obtain rfl:=oj h
     exact Xb [.go true,.go true,.go true,.go true,.ix 0,.go true,.go true,.go true,.go true,.go true,.go true,.ix 1,.go true,.go true,.go true,.go true,.go false,.go false,.go false,.no,.no,.no,.no,.no,.no,.no,.no,.go false,.go true] (o:=by repeat' first|apply Ya|exact pcM|exact((X1 h118 h119))|exact(X6 (X1 h118 h119))|exact(X1q (X1 h118 h119))|exact((X1 (X1 h118 h119) (X0 h120 h121)))|exact(X6 (X1 (X1 h118 h119) (X0 h120 h121)))|exact Xr) (k:=wkT [] (X5.glue J))
    refine brI (fun h122=>?_) fun h122=>?_
    ·
     refine bI fun e123 h124=>?_
     try have qh124:=Xp h124
     refine bI fun v125 h126=>?_
     intro h
     obtain rfl:=oj h
     exact Xb [.go true,.go true,.go true,.go true,.ix 0,.go true,.go true,.go true,.go true,.go true,.go true,.ix 1,.go true,.go true,.go true,.go true,.go true,.go true,.go true,.go true,.go true,.go true,.wrap,.go true,X2a.el (X3 e123),.go true,.go true,.go true,X2a.pure _ (aB v125),.go true,.go true] (o:=by repeat' first|apply Ya|exact pcM|exact((X1 h118 h119))|exact(X6 (X1 h118 h119))|exact(X1q (X1 h118 h119))|exact((X1 (X1 h118 h119) (X0 h120 h121)))|exact(X6 (X1 (X1 h118 h119) (X0 h120 h121)))|exact(X1q (X1 (X1 h118 h119) (X0 h120 h121)))|exact Xr) (k:=wkT [] (X5.glue J))
    intro h
    obtain rfl:=oj h
    exact Xb [.go true,.go true,.go true,.go true,.ix 0,.go true,.go true,.go true,.go true,.go true,.go true,.ix 1,.go true,.go true,.go true,.go true,.go true,.go true,.go true,.go false,.go false,.go false,.go false,.go false,.go false,.go false,.go false,.go true,.go false] (o:=by repeat' first|apply Ya|exact pcM|exact((X1 h118 h119))|exact(X6 (X1 h118 h119))|exact(X1q (X1 h118 h119))|exact((X1 (X1 h118 h119) (X0 h120 h121)))|exact(X6 (X1 (X1 h118 h119) (X0 h120 h121)))|exact(X1q (X1 (X1 h118 h119) (X0 h120 h121)))|exact Xr) (k:=wkT [] (X5.glue J))
   refine brI (fun h127=>?_) fun h127=>?_
   ·
    refine bI fun e128 h129=>?_
    try have qh129:=Xp h129
    refine bI fun v130 h131=>?_
    intro h
    obtain rfl:=oj h
    exact Xb [.go true,.go true,.go true,.go true,.ix 0,.go true,.go true,.go true,.go true,.go false,.go false,.go false,.go false,.go false,.go true,.go false,.go true,.go true,.go true,.go true,.go true,.go true,.wrap,.go true,X2a.el (X3 e128),.go true,.go true,.go true,X2a.pure _ (aB v130),.go true,.go true] (o:=by repeat' first|apply Ya|exact pcM|exact((X1 h118 h119))|exact(X6 (X1 h118 h119))|exact(X1q (X1 h118 h119))|exact((X1 (X1 h118 h119) rfl))|exact(X6 (X1 (X1 h118 h119) rfl))|exact(X1q (X1 (X1 h118 h119) rfl))|exact Xr) (k:=wkT [] (X5.glue J))
   intro h
   obtain rfl:=oj h
   exact Xb [.go true,.go true,.go true,.go true,.ix 0,.go true,.go true,.go true,.go true,.go false,.go false,.go false,.go false,.go false,.go true,.go false,.go true,.go true,.go true,.go false,.go false,.go false,.go false,.go false,.go false,.go false,.go false,.go true,.go false] (o:=by repeat' first|apply Ya|exact pcM|exact((X1 h118 h119))|exact(X6 (X1 h118 h119))|exact(X1q (X1 h118 h119))|exact((X1 (X1 h118 h119) rfl))|exact(X6 (X1 (X1 h118 h119) rfl))|exact(X1q (X1 (X1 h118 h119) rfl))|exact Xr) (k:=wkT [] (X5.glue J))
  clear h;revert h102
  refine bI fun v97 h98=>brI (fun h99=>?_) fun h99=>?_
  ·
   refine bI fun v100 h101=>?_
   intro h
   obtain rfl:=oj h
   exact Xb [.ix 0,.pure _ (aI .i64 v97),.go true,.go true,.ix 1,.go true,.go true,.pure _ (aI .i64 v100),.go true] (k:=wkT [] (X5.glue J))
  intro h
  obtain rfl:=oj h
  exact Xb [.ix 0,.pure _ (aI .i64 v97),.go false,.go false,.go false,.go false,.go false] (k:=wkT [] (X5.glue J))
instance Xw1:PCs Tryz.prog 57 (∀ (a0:(List X4)) (r:Int),X9l a0=some r->X0h Tryz.prog 57 [(Lf (a0.map X3))] (aI .i64 r)):=⟨fun a0 r h=>by
 refine X0h.sym X8 fn57 (nt:=85) rfl rfl ?_ okM
 unfold X9l at h
 revert h
 refine brI (fun h1=>fun e=>oj e▸Xb [.el (aI .i64 (a0.length:Int)),Bt] (k:=fi)) fun h1=>bI fun u2 h3=>?_
 have qh3:=X16 h3
 refine bI fun o134 h135=>rnI [.el (aI .i64 (a0.length:Int)),Bf] ?_
 intro h
 refine wkT [] (X5.cut (Xfj a0 qh3 a0 0 (by simp) _ h135 ?_ ?_))
 ·
  intro eo134;subst eo134
  refine X5.glue ?_
  try dsimp only at h
  revert h
  exact fun e=>oj e▸Xb [] (k:=fi)
 intro eo134;subst eo134
 refine X5.glue ?_
 try dsimp only at h
 revert h
 exact fun e=>oj e▸Xb [] (k:=fi)⟩
theorem Xfi {Q:Xx->St->Mu->Prop} {μ:Mu} (Xk:Xo):∀ (n:Nat) (X87:Int) (o:X66) (h:X43 Xk n X87=some o)
  (C0:o=X66.x0->X5 Tryz.prog 72 0 Q (.exit .ret) [] ⟨fr [(2,(aI .i64 8))],hp ([]),0⟩ μ)
  (C1:o=X66.x1->X5 Tryz.prog 72 0 Q (.exit (.exit 0)) [] ⟨fr [],hp ([]),0⟩ μ),
  X5 Tryz.prog 72 0 Q (.loop (X4c 0 (Xd Tryz.f26))) [] ⟨fr [(1,(AV.ptr 0 0 0)),(3,(aI .i64 X87))],hp ([(0,Ob [(Xc false Xk)] 9)]),1⟩ μ:=by
 intro n
 induction n with
 |zero=>intro X87 o h C0 C1;cases h
 |succ n ih =>
  intro X87 o h C0 C1
  rw[X43] at h
  refine X5.round ?_
  revert h
  refine brI (fun h54=>?_) fun h54=>fun e=>Xb [.el (aI .i64 (Xk.Store.length:Int)),Bf] (k:=wkT [] (C1  (oj e).symm))
  refine bI fun Xu8 h62=>rnI [.el (aI .i64 (Xk.Store.length:Int)),Bt,.stop 8] ?_
  intro h
  refine X5.join (s':=⟨fr [(1,(AV.ptr 0 0 0)),(3,(aI .i64 X87)),(71,(aB Xu8))],hp ([(0,Ob [(Xc false Xk)] 9)]),1⟩) ?_ (fun J=>X5.cut ?_)
  ·
   revert h
   refine brI (fun h63=>fun e=>Xb [Bt] (k:=wkT [] (C0  (oj e).symm))) fun h63=>rnI [Bf,.wrap] ?_
   intro h
   exact wkT [] (ih  _ o h C0 C1)
  clear h;revert h62
  refine brI (fun h59=>?_) fun h59=>?_
  ·
   refine bI fun e60 h61=>?_
   try have qh61:=Xp h61
   intro h
   obtain rfl:=oj h
   exact Xb [.go true,.go true,.go true,.go true,.el (X3 e60),.go true,.go true,.ix 1,.go true,.go true,.go true] (k:=wkT [] (X5.glue J))
  intro h
  obtain rfl:=oj h
  exact Xb [.go false,.go false,.go false,.go false,.go false,.go false,.go false,.go false,.go false] (k:=wkT [] (X5.glue J))
end Go.Av.Tryz