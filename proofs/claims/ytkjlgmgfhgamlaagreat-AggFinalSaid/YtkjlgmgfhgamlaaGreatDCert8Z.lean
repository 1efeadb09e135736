/- Printed by decomp.py: that the program computes the functions. -/
import Derived.Test.YtkjlgmgfhgamlaaGreatDCert5Z
set_option linter.all false

namespace Go.Av.Tryz
open Go.Proofs Go.D
set_option maxRecDepth 10000
set_option maxHeartbeats 40000000
instance Xjk:PCs Tryz.prog 136 (∀ (a0:(List X0g)) (r:(List X0g)),X4w a0=some r->X0h Tryz.prog 136 [(Lf (a0.map Xs))] (AV.list true (r.map Xs))):=⟨fun a0 r h=>by
 refine X0h.sym X8 X044 (nt:=8) rfl rfl ?_ okM
 unfold X4w at h
 revert h
 refine brI (fun q=>?_) fun q=>?_
 ·
  intro h
  have h1:a0=[]:=List.isEmpty_iff.1 q
  refine X09 [] ?_
  refine X5.eqNil X8 (may:=true) rfl rfl rfl rfl rfl rfl trivial (by simp[X5u, *]) fun b2 qb2=>?_
  cases b2
  ·
   revert h
   exact fun e=>oj e▸Xb [Bf,.ne false] (k:=fi)
  revert h
  exact fun e=>oj e▸Xb [Bt] (k:=fi)
 intro h
 have h1:¬ (a0=[]):=(fun e=>by rw[e] at q;cases q)
 refine X09 [] ?_
 refine X5.eqNil X8 (may:=false) rfl rfl rfl rfl rfl rfl trivial (by simp[X5u, *]) fun b3 qb3=>?_
 obtain rfl:=qb3 rfl
 revert h
 exact bI fun u4 h5=>fun e=>oj e▸Xb [Bf,.via (AV.list true (a0.map Xs))] (o:=by repeat' first|apply Ya|exact pcM|(refine X1m h5 rfl ?_;first|(simp;done)|(simp;omega)|(simp[h1];done)|(simp[h1];omega))|(refine X0i h5 (by decide) ?_;first|(simp;done)|(simp;omega)|(simp[h1];done)|(simp[h1];omega))|exact Xr) (k:=fi)⟩
theorem Xa0 (a0:List X0g) (h1:a0=[]):X0h Tryz.prog 136 [(Lf (a0.map Xs))] AV.nils:=by
 refine X0h.sym X8 X044 (nt:=8) rfl rfl ?_ (X0x .list X7k)
 refine X09 [] ?_
 refine X5.eqNil X8 (may:=true) rfl rfl rfl rfl rfl rfl trivial (by simp[X5u, *]) fun b2 qb2=>?_
 cases b2
 ·
  refine X09 [Bf,.ne false] ?_
  exact Xlw rfl .nils0
 refine X09 [Bt] ?_
 exact Xlw rfl .nils0
instance Xi5:PCs Tryz.prog 104 (∀ (a0:(List Int)) (r:(List Int)),X1i a0=some r->X0h Tryz.prog 104 [(Lf (List.map (aI .i64) a0))] (AV.list true (List.map (aI .i64) r))):=⟨fun a0 r h=>by
 refine X0h.sym X8 X047 (nt:=8) rfl rfl ?_ okM
 unfold X1i at h
 revert h
 refine brI (fun q=>?_) fun q=>?_
 ·
  intro h
  have h1:a0=[]:=List.isEmpty_iff.1 q
  refine X09 [] ?_
  refine X5.eqNil X8 (may:=true) rfl rfl rfl rfl rfl rfl trivial (by simp[X5u, *]) fun b2 qb2=>?_
  cases b2
  ·
   revert h
   exact fun e=>oj e▸Xb [Bf,.ne false] (k:=fi)
  revert h
  exact fun e=>oj e▸Xb [Bt] (k:=fi)
 intro h
 have h1:¬ (a0=[]):=(fun e=>by rw[e] at q;cases q)
 refine X09 [] ?_
 refine X5.eqNil X8 (may:=false) rfl rfl rfl rfl rfl rfl trivial (by simp[X5u, *]) fun b3 qb3=>?_
 obtain rfl:=qb3 rfl
 revert h
 exact bI fun u4 h5=>fun e=>oj e▸Xb [Bf,.via (AV.list true (List.map (aI .i64) a0))] (o:=by repeat' first|apply Ya|exact pcM|(refine X1m h5 rfl ?_;first|(simp;done)|(simp;omega)|(simp[h1];done)|(simp[h1];omega))|(refine X0i h5 (by decide) ?_;first|(simp;done)|(simp;omega)|(simp[h1];done)|(simp[h1];omega))|exact Xr) (k:=fi)⟩
instance Xi7:PCs Tryz.prog 80 (∀ (a0:(List X4)) (r:(List X4)),X1k a0=some r->X0h Tryz.prog 80 [(Lf (a0.map X3))] (AV.list true (r.map X3))):=⟨fun a0 r h=>by
 refine X0h.sym X8 fn80 (nt:=8) rfl rfl ?_ okM
 unfold X1k at h
 revert h
 refine brI (fun q=>?_) fun q=>?_
 ·
  intro h
  have h1:a0=[]:=List.isEmpty_iff.1 q
  refine X09 [] ?_
  refine X5.eqNil X8 (may:=true) rfl rfl rfl rfl rfl rfl trivial (by simp[X5u, *]) fun b2 qb2=>?_
  cases b2
  ·
   revert h
   exact fun e=>oj e▸Xb [Bf,.ne false] (k:=fi)
  revert h
  exact fun e=>oj e▸Xb [Bt] (k:=fi)
 intro h
 have h1:¬ (a0=[]):=(fun e=>by rw[e] at q;cases q)
 refine X09 [] ?_
 refine X5.eqNil X8 (may:=false) rfl rfl rfl rfl rfl rfl trivial (by simp[X5u, *]) fun b3 qb3=>?_
 obtain rfl:=qb3 rfl
 revert h
 exact bI fun u4 h5=>fun e=>oj e▸Xb [Bf,.via (AV.list true (a0.map X3))] (o:=by repeat' first|apply Ya|exact pcM|(refine X1m h5 rfl ?_;first|(simp;done)|(simp;omega)|(simp[h1];done)|(simp[h1];omega))|(refine X0i h5 (by decide) ?_;first|(simp;done)|(simp;omega)|(simp[h1];done)|(simp[h1];omega))|exact Xr) (k:=fi)⟩
instance Xi6:PCs Tryz.prog 137 (∀ (a0:(List X0c)) (r:(List X0c)),X1j a0=some r->X0h Tryz.prog 137 [(Lf (a0.map X01))] (AV.list true (r.map X01))):=⟨fun a0 r h=>by
 refine X0h.sym X8 X06c (nt:=8) rfl rfl ?_ okM
 unfold X1j at h
 revert h
 refine brI (fun q=>?_) fun q=>?_
 ·
  intro h
  have h1:a0=[]:=List.isEmpty_iff.1 q
  refine X09 [] ?_
  refine X5.eqNil X8 (may:=true) rfl rfl rfl rfl rfl rfl trivial (by simp[X5u, *]) fun b2 qb2=>?_
  cases b2
  ·
   revert h
   exact fun e=>oj e▸Xb [Bf,.ne false] (k:=fi)
  revert h
  exact fun e=>oj e▸Xb [Bt] (k:=fi)
 intro h
 have h1:¬ (a0=[]):=(fun e=>by rw[e] at q;cases q)
 refine X09 [] ?_
 refine X5.eqNil X8 (may:=false) rfl rfl rfl rfl rfl rfl trivial (by simp[X5u, *]) fun b3 qb3=>?_
 obtain rfl:=qb3 rfl
 revert h
 exact bI fun u4 h5=>fun e=>oj e▸Xb [Bf,.via (AV.list true (a0.map X01))] (o:=by repeat' first|apply Ya|exact pcM|(refine X1m h5 rfl ?_;first|(simp;done)|(simp;omega)|(simp[h1];done)|(simp[h1];omega))|(refine X0i h5 (by decide) ?_;first|(simp;done)|(simp;omega)|(simp[h1];done)|(simp[h1];omega))|exact Xr) (k:=fi)⟩
instance Xl2:PCs Tryz.prog 138 (∀ (a0:(List X1g)) (r:(List X1g)),X2h a0=some r->X0h Tryz.prog 138 [(Lf (a0.map Xw))] (AV.list true (r.map Xw))):=⟨fun a0 r h=>by
 refine X0h.sym X8 X06b (nt:=8) rfl rfl ?_ okM
 unfold X2h at h
 revert h
 refine brI (fun q=>?_) fun q=>?_
 ·
  intro h
  have h1:a0=[]:=List.isEmpty_iff.1 q
  refine X09 [] ?_
  refine X5.eqNil X8 (may:=true) rfl rfl rfl rfl rfl rfl trivial (by simp[X5u, *]) fun b2 qb2=>?_
  cases b2
  ·
   revert h
   exact fun e=>oj e▸Xb [Bf,.ne false] (k:=fi)
  revert h
  exact fun e=>oj e▸Xb [Bt] (k:=fi)
 intro h
 have h1:¬ (a0=[]):=(fun e=>by rw[e] at q;cases q)
 refine X09 [] ?_
 refine X5.eqNil X8 (may:=false) rfl rfl rfl rfl rfl rfl trivial (by simp[X5u, *]) fun b3 qb3=>?_
 obtain rfl:=qb3 rfl
 revert h
 exact bI fun u4 h5=>fun e=>oj e▸Xb [Bf,.via (AV.list true (a0.map Xw))] (o:=by repeat' first|apply Ya|exact pcM|(refine X1m h5 rfl ?_;first|(simp;done)|(simp;omega)|(simp[h1];done)|(simp[h1];omega))|(refine X0i h5 (by decide) ?_;first|(simp;done)|(simp;omega)|(simp[h1];done)|(simp[h1];omega))|exact Xr) (k:=fi)⟩
instance Xgv:PCs Tryz.prog 139 (∀ (a0:(List Xe)) (r:(List Xe)),X18 a0=some r->X0h Tryz.prog 139 [(Lf (a0.map Xt))] (AV.list true (r.map Xt))):=⟨fun a0 r h=>by
 refine X0h.sym X8 X06a (nt:=8) rfl rfl ?_ okM
 unfold X18 at h
 revert h
 refine brI (fun q=>?_) fun q=>?_
 ·
  intro h
  have h1:a0=[]:=List.isEmpty_iff.1 q
  refine X09 [] ?_
  refine X5.eqNil X8 (may:=true) rfl rfl rfl rfl rfl rfl trivial (by simp[X5u, *]) fun b2 qb2=>?_
  cases b2
  ·
   revert h
   exact fun e=>oj e▸Xb [Bf,.ne false] (k:=fi)
  revert h
  exact fun e=>oj e▸Xb [Bt] (k:=fi)
 intro h
 have h1:¬ (a0=[]):=(fun e=>by rw[e] at q;cases q)
 refine X09 [] ?_
 refine X5.eqNil X8 (may:=false) rfl rfl rfl rfl rfl rfl trivial (by simp[X5u, *]) fun b3 qb3=>?_
 obtain rfl:=qb3 rfl
 revert h
 exact bI fun u4 h5=>fun e=>oj e▸Xb [Bf,.via (AV.list true (a0.map Xt))] (o:=by repeat' first|apply Ya|exact pcM|(refine X1m h5 rfl ?_;first|(simp;done)|(simp;omega)|(simp[h1];done)|(simp[h1];omega))|(refine X0i h5 (by decide) ?_;first|(simp;done)|(simp;omega)|(simp[h1];done)|(simp[h1];omega))|exact Xr) (k:=fi)⟩
instance Xz1:PCs Tryz.prog 63 (∀ (a0:Xo) (a1:(List X0g)) (r:Xo×Int),X54 a0 a1=some r->X0h Tryz.prog 63 [(Xc false a0),(Lf (a1.map Xs))] (AV.tup [(Xc true r.1),(aI .i64 r.2)])):=⟨fun a0 a1 r h=>by
 refine X0h.sym X8 fn63 (nt:=33) rfl rfl ?_ okM
 unfold X54 at h
 revert h
 refine bI fun v1 h2=>brI (fun h3=>fun e=>oj e▸Xb [.pure _ (aI .i64 v1),Bt] (k:=fi)) fun h3=>bI fun v4 h5=>brI (fun h6=>fun e=>oj e▸Xb [.pure _ (aI .i64 v1),Bf,.pure _ (aB v4),Bt] (k:=fi)) fun h6=>rnI [.pure _ (aI .i64 v1),Bf,.pure _ (aB v4),Bf,.el (aI .i64 (a1.length:Int)),.el (aI .i64 (a0.Pending.length:Int)),.wrap] ?_
 refine brI (fun h7=>fun e=>oj e▸Xb [Bt] (k:=fi)) fun h7=>rnI [Bf] ?_
 intro h
 refine X5.inline X8 X06v rfl rfl rfl rfl rfl trivial trivial rfl rfl ?_
 revert h
 refine brI (fun q=>?_) fun q=>?_
 ·
  intro h
  have h32:a0.Pending=[]:=List.isEmpty_iff.1 q
  revert h
  refine bI fun v33 h34=>bI fun v35 h36=>bI fun v37 h38=>bI fun v39 h40=>bI fun v41 h42=>rnI [.pure [(Lf (a0.Pending.map Xs))] AV.nils,.pure _ (AV.list true (List.map (aI .i64) v33)),.pure _ (AV.list true (v35.map X3)),.pure _ (AV.list true (v37.map X01)),.pure _ (AV.list true (v39.map Xw)),.pure _ (AV.list true (v41.map Xt))] (o:=by repeat' first|apply Ya|exact pcM|exact(pn (Xa0 _ (by simp[*])) (cc (X5r (X2l Xdc a0.Pending)) cn))|exact Xr) ?_
  intro h
  refine X5.back (by intro id h;cases h) rfl ?_
  revert h
  refine brI (fun q=>?_) fun q=>?_
  ·
   intro h
   have h43:a1=[]:=List.isEmpty_iff.1 q
   revert h
   exact fun e=>oj e▸Xb [.ne false] (k:=fi)
  intro h
  have h43:¬ (a1=[]):=(fun e=>by rw[e] at q;cases q)
  revert h
  exact bI fun u44 h45=>fun e=>oj e▸Xb [.via (AV.list true (a1.map Xs))] (o:=by repeat' first|apply Ya|exact pcM|(refine X1m h45 rfl ?_;first|(simp;done)|(simp;omega)|(simp[h3,h6,h7,h32,h43];done)|(simp[h3,h6,h7,h32,h43];omega))|(refine X0i h45 (by decide) ?_;first|(simp;done)|(simp;omega)|(simp[h3,h6,h7,h32,h43];done)|(simp[h3,h6,h7,h32,h43];omega))|exact Xr) (k:=fi)
 intro h
 have h32:¬ (a0.Pending=[]):=(fun e=>by rw[e] at q;cases q)
 revert h
 refine bI fun v46 h47=>bI fun v48 h49=>bI fun v50 h51=>bI fun v52 h53=>bI fun v54 h55=>bI fun v56 h57=>rnI [.pure _ (AV.list true (v46.map Xs)),.pure _ (AV.list true (List.map (aI .i64) v48)),.pure _ (AV.list true (v50.map X3)),.pure _ (AV.list true (v52.map X01)),.pure _ (AV.list true (v54.map Xw)),.pure _ (AV.list true (v56.map Xt))] ?_
 intro h
 refine X5.back (by intro id h;cases h) rfl ?_
 revert h
 refine brI (fun q=>?_) fun q=>?_
 ·
  intro h
  have h58:a1=[]:=List.isEmpty_iff.1 q
  revert h
  exact fun e=>oj e▸Xb [.ne false] (k:=fi)
 intro h
 have h58:¬ (a1=[]):=(fun e=>by rw[e] at q;cases q)
 revert h
 refine bI fun u59 h60=>?_
 intro h
 cases h⟩
instance Xtz:PCs Tryz.prog 94 (∀ (a0:Int) (r:Bool),X6q a0=some r->X0h Tryz.prog 94 [(aI .i64 a0)] (aB r)):=⟨fun a0 r h=>by
 refine X0h.sym X8 fn94 (nt:=7) rfl rfl ?_ okM
 unfold X6q at h
 revert h
 exact bI fun v1 h2=>fun e=>oj e▸Xb [.pure _ (aI .i64 v1)] (k:=fi)⟩
theorem Xfo {Q:Xx->St->Mu->Prop} {μ:Mu} (Xhq:(List Int)) (hl:Xhq.length<=140737488355328):∀ (xs:List Int) (k:Nat) (hx:Xhq.drop k=xs) (o:X69) (h:X47 Xhq xs k  = some o)
  (C0:o=X69.x0->X5 Tryz.prog 27 0 Q (.exit (.exit 0)) [] ⟨fr [],hp ([]),0⟩ μ)
  (C1:o=X69.x1->X5 Tryz.prog 27 0 Q (.exit .ret) [] ⟨fr [(2,(aI .i64 8))],hp ([]),0⟩ μ),
  X5 Tryz.prog 27 0 Q (.loop (X4c 0 (Xd Tryz.f58))) [] ⟨fr [(13,(Lf (List.map (aI .i64) Xhq))),(14,(aI .i64 (Xhq.length:Int))),(15,(aI .i64 (k:Int)))],hp ([]),0⟩ μ:=by
 intro xs
 induction xs with
 |nil =>
  intro k hx  o h C0 C1
  have hk:=X1u hx
  have hc:decide ((k:Int)<(Xhq.length:Int))=false:=Yf (by omega)
  rw[X47] at h
  refine X5.round ?_
  revert h
  exact fun e=>Xb [Bf] (k:=wkT [] (C0  (oj e).symm))
 |cons x xs ih =>
  intro k hx  o h C0 C1
  obtain⟨hk,hg,hx1⟩:=X13 hx
  have hc:decide ((k:Int)<(Xhq.length:Int))=true:=Yt (by omega)
  rw[X47] at h
  refine X5.round ?_
  revert h
  refine bI fun Xuc h34=>rnI [Bt,.el (aI .i64 x),.stop 6] ?_
  intro h
  refine X5.join (s':=⟨fr [(13,(Lf (List.map (aI .i64) Xhq))),(14,(aI .i64 (Xhq.length:Int))),(15,(aI .i64 (k:Int))),(25,(aB Xuc))],hp ([]),0⟩) ?_ (fun J=>X5.cut ?_)
  ·
   revert h
   refine brI (fun h35=>fun e=>Xb [Bt] (k:=wkT [] (C1  (oj e).symm))) fun h35=>rnI [Bf] ?_
   intro h
   exact wkT [] (ih (k+1) hx1  o h C0 C1)
  clear h;revert h34
  refine brI (fun h31=>?_) fun h31=>?_
  ·
   refine bI fun v32 h33=>?_
   intro h
   obtain rfl:=oj h
   exact Xb [.go true,.go true,.pure _ (aB v32),.go true] (k:=wkT [] (X5.glue J))
  intro h
  obtain rfl:=oj h
  exact Xb [.go false,.go false,.go false] (k:=wkT [] (X5.glue J))
instance Xwi:PCs Tryz.prog 58 (∀ (a0:(List Int)) (r:Int),X9u a0=some r->X0h Tryz.prog 58 [(Lf (List.map (aI .i64) a0))] (aI .i64 r)):=⟨fun a0 r h=>by
 refine X0h.sym X8 fn58 (nt:=27) rfl rfl ?_ okM
 unfold X9u at h
 revert h
 refine bI fun X01g h4=>rnI [.stop 1] ?_
 intro h
 refine X5.join (s':=⟨fr [(0,(Lf (List.map (aI .i64) a0))),(12,(aB X01g))],hp ([]),0⟩) ?_ (fun J=>X5.cut ?_)
 ·
  revert h
  refine brI (fun h5=>fun e=>oj e▸Xb [Bt] (k:=fi)) fun h5=>bI fun u6 h7=>?_
  have qh7:=X16 h7
  refine bI fun o36 h37=>rnI [Bf,.el (aI .i64 (a0.length:Int))] ?_
  intro h
  refine wkT [] (X5.cut (Xfo a0 qh7 a0 0 (by simp) _ h37 ?_ ?_))
  ·
   intro eo36;subst eo36
   refine X5.glue ?_
   try dsimp only at h
   revert h
   exact fun e=>oj e▸Xb [] (k:=fi)
  intro eo36;subst eo36
  refine X5.glue ?_
  try dsimp only at h
  revert h
  exact fun e=>oj e▸Xb [] (k:=fi)
 clear h;revert h4
 refine brI (fun h3=>?_) fun h3=>?_
 ·
  intro h
  obtain rfl:=oj h
  exact Xb [.el (aI .i64 (a0.length:Int)),.go false,.go false,.go false] (k:=wkT [] (X5.glue J))
 intro h
 obtain rfl:=oj h
 exact Xb [.el (aI .i64 (a0.length:Int)),.go true,.go true,.el (aI .i64 (a0.length:Int)),.go true] (k:=wkT [] (X5.glue J))⟩
theorem X8j {Q:Xx->St->Mu->Prop} {μ:Mu} (X0r:(List Int)):∀ (n:Nat) (X87:Int) (Xyw:Int) (o:X3b) (h:X0w X0r n X87 Xyw=some o)
  (C0:∀ (Xk2:Int),o=X3b.x0 Xk2->X5 Tryz.prog 25 0 Q (.exit (.exit 0)) [] ⟨fr [(3,(aI .i64 Xk2))],hp ([]),0⟩ μ),
  X5 Tryz.prog 25 0 Q (.loop (X4c 0 (Xd Tryz.f59))) [] ⟨fr [(0,(Lf (List.map (aI .i64) X0r))),(3,(aI .i64 X87)),(4,(aI .i64 Xyw))],hp ([]),0⟩ μ:=by
 intro n
 induction n with
 |zero=>intro X87 Xyw o h C0;cases h
 |succ n ih =>
  intro X87 Xyw o h C0
  rw[X0w] at h
  refine X5.round ?_
  revert h
  refine brI (fun h12=>?_) fun h12=>fun e=>Xb [.el (aI .i64 (X0r.length:Int)),Bf] (k:=wkT [] (C0 _  (oj e).symm))
  refine bI fun e13 h14=>?_
  try have qh14:=Xp h14
  refine rnI [.el (aI .i64 (X0r.length:Int)),Bt,.el (aI .i64 e13),.wrap] ?_
  intro h
  exact wkT [] (ih  _ _ o h C0)
instance Xjj:PCs Tryz.prog 59 (∀ (a0:(List Int)) (r:Int),X23 a0=some r->X0h Tryz.prog 59 [(Lf (List.map (aI .i64) a0))] (aI .i64 r)):=⟨fun a0 r h=>by
 refine X0h.sym X8 fn59 (nt:=25) rfl rfl ?_ okM
 unfold X23 at h
 revert h
 refine brI (fun h2=>?_) fun h2=>?_
 ·
  intro h
  cases h
 refine bI fun e3 h4=>?_
 try have qh4:=Xp h4
 refine bI fun o15 h16=>rnI [.el (aI .i64 (a0.length:Int)),Bf,.el (aI .i64 e3)] ?_
 intro h
 refine wkT [] (X5.cut (X8j a0 _ _ _ _ h16 ?_))
 intro Xk2 eo15;subst eo15
 refine X5.glue ?_
 try dsimp only at h
 revert h
 exact fun e=>oj e▸Xb [] (k:=fi)⟩
instance Xwh:PCs Tryz.prog 27 (∀ (a0:(List Int)) (r:Int×Int),X5b a0=some r->X0h Tryz.prog 27 [(Lf (List.map (aI .i64) a0))] (AV.tup [(aI .i64 r.1),(aI .i64 r.2)])):=⟨fun a0 r h=>by
 refine X0h.sym X8 fn27 (nt:=12) rfl rfl ?_ okM
 unfold X5b at h
 revert h
 exact bI fun v1 h2=>brI (fun h3=>fun e=>oj e▸Xb [.pure _ (aI .i64 v1),Bt] (k:=fi)) fun h3=>bI fun v4 h5=>fun e=>oj e▸Xb [.pure _ (aI .i64 v1),Bf,.pure _ (aI .i64 v4)] (k:=fi)⟩
instance Xwg:PCs Tryz.prog 64 (∀ (a0:(List Int)) (a1:Int) (a2:Int) (r:(List Int)×Bool×Int),X7t a0 a1 a2=some r->X0h Tryz.prog 64 [(Lf (List.map (aI .i64) a0)),(aI .i64 a1),(aI .i64 a2)] (AV.tup [(AV.list true (List.map (aI .i64) r.1)),(aB r.2.1),(aI .i64 r.2.2)])):=⟨fun a0 a1 a2 r h=>by
 refine X0h.sym X8 fn64 (nt:=47) rfl rfl ?_ okM
 unfold X7t at h
 revert h
 refine bI fun v1 h2=>brI (fun h3=>fun e=>oj e▸Xb [.pure _ (AV.tup [(aI .i64 v1.1),(aI .i64 v1.2)]),Bt] (k:=fi)) fun h3=>bI fun X00x h13=>rnI [.pure _ (AV.tup [(aI .i64 v1.1),(aI .i64 v1.2)]),Bf,.stop 4] ?_
 intro h
 refine X5.join (s':=⟨fr [(0,(Lf (List.map (aI .i64) a0))),(1,(aI .i64 a1)),(2,(aI .i64 a2)),(9,(aI .i64 v1.1)),(30,(aB X00x))],hp ([]),0⟩) ?_ (fun J=>X5.cut ?_)
 ·
  revert h
  refine brI (fun h14=>fun e=>oj e▸Xb [Bt] (k:=fi)) fun h14=>bI fun Xiq h26=>rnI [Bf] ?_
  intro h
  refine X5.joinOpF (fun(q:Nb Xiq)=>⟨fr [(1,(aI .i64 a1)),(2,(aI .i64 a2)),(9,(aI .i64 v1.1)),(32,(slE q.1 0 (List.map (aI .i64) Xiq)))],hp ([]++opE q.1 0 1 (List.map (aI .i64) Xiq)),1⟩) ?_ (fun J=>?_)
  ·
   rintro Xtx
   rcases Xtx with ⟨_|_,Xur⟩
   ·
    revert h
    refine bI fun e27 h28=>?_
    try have qh28:=Xp h28
    exact bI fun v29 h30=>fun e=>oj e▸Xb [.el (aI .i64 e27),.ld (aI .i64 e27),.el (aI .i64 e27),.ld (aI .i64 e27),.pure _ (aI .i64 v29)] (o:=by repeat' first|apply Ya|exact pcM|exact(List.getElem?_set_self (by have hq:=X75 h28;simp;omega)).trans rfl|exact Xr) (k:=fi)
   obtain rfl:=Xur rfl
   revert h
   refine bI fun e31 h32=>?_
   try have qh32:=Xp h32
   intro h
   exact absurd (h32) (by simp[X32])
  clear h;revert h26
  intro h
  refine X5.inline X8 X047 rfl rfl rfl rfl rfl trivial trivial rfl rfl ?_
  revert h
  refine brI (fun q=>?_) fun q=>?_
  ·
   intro h
   have h21:a0=[]:=List.isEmpty_iff.1 q
   refine X09 [] ?_
   refine X5.eqNil X8 (may:=true) rfl rfl rfl rfl rfl rfl trivial (by simp[X5u, *]) fun b22 qb22=>?_
   cases b22
   ·
    obtain rfl:=oj h
    refine X09 [Bf,.ne false] ?_
    refine X5.back (by intro id h;cases h) rfl ?_
    exact wkT [] ((J nbS))
   obtain rfl:=oj h
   refine X09 [Bt] ?_
   refine X5.back (by intro id h;cases h) rfl ?_
   exact wkT [] ((J nbS))
  intro h
  have h21:¬ (a0=[]):=(fun e=>by rw[e] at q;cases q)
  refine X09 [] ?_
  refine X5.eqNil X8 (may:=false) rfl rfl rfl rfl rfl rfl trivial (by simp[X5u, *]) fun b23 qb23=>?_
  obtain rfl:=qb23 rfl
  revert h
  refine bI fun u24 h25=>?_
  intro h
  obtain rfl:=oj h
  refine X09 [Bf,.via (AV.list true (List.map (aI .i64) a0))] (o:=by repeat' first|apply Ya|exact pcM|(refine X1m h25 rfl ?_;first|(simp;done)|(simp;omega)|(simp[h3,h14,h21];done)|(simp[h3,h14,h21];omega))|(refine X0i h25 (by decide) ?_;first|(simp;done)|(simp;omega)|(simp[h3,h14,h21];done)|(simp[h3,h14,h21];omega))|exact Xr) ?_
  refine X5.back (by intro id h;cases h) rfl ?_
  exact wkT [(0,1)] ((J nbF))
 clear h;revert h13
 refine brI (fun h9=>?_) fun h9=>?_
 ·
  intro h
  obtain rfl:=oj h
  exact Xb [.go false,.go false,.go false,.go false,.go false,.go false,.go false] (o:=by repeat' first|apply Ya|exact pcM|exact((X0 h9 rfl))|exact(X6 (X0 h9 rfl))|exact(X24 (X0 h9 rfl))|exact Xr) (k:=wkT [] (X5.glue J))
 refine brI (fun h10=>?_) fun h10=>?_
 ·
  intro h
  obtain rfl:=oj h
  exact Xb [.go true,.go true,.go true,.el (aI .i64 (a0.length:Int)),.go true,.go false,.go false,.go false] (o:=by repeat' first|apply Ya|exact pcM|exact((X1 h9 h10))|exact(X6 (X1 h9 h10))|exact(X24 (X1 h9 h10))|exact Xr) (k:=wkT [] (X5.glue J))
 refine bI fun v11 h12=>?_
 intro h
 obtain rfl:=oj h
 exact Xb [.go true,.go true,.go true,.el (aI .i64 (a0.length:Int)),.go true,.go true,.go true,.pure _ (aB v11),.go true] (o:=by repeat' first|apply Ya|exact pcM|exact((X1 h9 h10))|exact(X6 (X1 h9 h10))|exact(X1q (X1 h9 h10))|exact Xr) (k:=wkT [] (X5.glue J))⟩
theorem Xgu {Q:Xx->St->Mu->Prop} {μ:Mu} (Xhr:Int) (X2w:(List X4)) (hl:X2w.length<=140737488355328):∀ (xs:List X4) (k:Nat) (hx:X2w.drop k=xs) (Xk:(List X4)) (Xl:(List X4)) (X21:Nb Xk) (Xy:Nb Xl) (o:X9b) (h:X3p Xhr X2w xs k Xk Xl=some o)
  (C0:∀ (X08:(List X4)) (X0n:(List X4)) (X0t:Nb X08) (X19:Nb X0n),o=X9b.x0 X08 X0n->X5 Tryz.prog 37 0 Q (.exit (.exit 0)) [] ⟨fr [(4,(slE X0t.1 0 (X08.map X3))),(5,(slE X19.1 1 (X0n.map X3)))],hp ([]++opE X0t.1 0 11 (X08.map X3)++opE X19.1 1 11 (X0n.map X3)),2⟩ μ),
  X5 Tryz.prog 37 0 Q (.loop (X4c 0 (Xd Tryz.f65))) [] ⟨fr [(1,(aI .i64 Xhr)),(4,(slE X21.1 0 (Xk.map X3))),(5,(slE Xy.1 1 (Xl.map X3))),(15,(Lf (X2w.map X3))),(16,(aI .i64 (X2w.length:Int))),(17,(aI .i64 (k:Int)))],hp ([]++opE X21.1 0 11 (Xk.map X3)++opE Xy.1 1 11 (Xl.map X3)),2⟩ μ:=by
 intro xs
 induction xs with
 |nil =>
  intro k hx Xk Xl X21 Xy o h C0
  have hk:=X1u hx
  have hc:decide ((k:Int)<(X2w.length:Int))=false:=Yf (by omega)
  rw[X3p] at h
  rcases X21 with ⟨_|_,X5k⟩
  ·
   rcases Xy with ⟨_|_,X0m⟩
   ·
    refine X5.round ?_
    revert h
    exact fun e=>Xb [Bf] (k:=wkT [] (C0 _ _  nbF nbF (oj e).symm))
   obtain rfl:=X0m rfl
   refine X5.round ?_
   revert h
   exact fun e=>Xb [Bf] (k:=wkT [] (C0 _ _  nbF nbS (oj e).symm))
  ·
   obtain rfl:=X5k rfl
   rcases Xy with ⟨_|_,X0m⟩
   ·
    refine X5.round ?_
    revert h
    exact fun e=>Xb [Bf] (k:=wkT [] (C0 _ _  nbS nbF (oj e).symm))
   ·
    obtain rfl:=X0m rfl
    refine X5.round ?_
    revert h
    exact fun e=>Xb [Bf] (k:=wkT [] (C0 _ _  nbS nbS (oj e).symm))
 |cons x xs ih =>
  intro k hx Xk Xl X21 Xy o h C0
  obtain⟨hk,hg,hx1⟩:=X13 hx
  have hc:decide ((k:Int)<(X2w.length:Int))=true:=Yt (by omega)
  rw[X3p] at h
  rcases X21 with ⟨_|_,X5k⟩
  ·
   rcases Xy with ⟨_|_,X0m⟩
   ·
    refine X5.round ?_
    revert h
    refine bI fun w108 h114=>?_
    intro h
    obtain⟨Xp6,Xp5⟩:=w108
    try dsimp only at h
    refine X09 [Bt,.el (X3 x)] ?_
    refine X5.joinF (fun(q:Nb Xp6×Nb Xp5)=>⟨fr [(1,(aI .i64 Xhr)),(4,(slE q.1.1 0 (Xp6.map X3))),(5,(slE q.2.1 1 (Xp5.map X3))),(15,(Lf (X2w.map X3))),(16,(aI .i64 (X2w.length:Int))),(17,(aI .i64 (k:Int)))],hp ([]++opE q.1.1 0 11 (Xp6.map X3)++opE q.2.1 1 11 (Xp5.map X3)),2⟩) ?_ (fun J=>X5.cut ?_)
    ·
     rintro⟨Xrf,Xkh⟩
     rcases Xrf with ⟨_|_,Xry⟩
     ·
      rcases Xkh with ⟨_|_,Xfy⟩
      ·
       exact Xb [] (k:=wkT [] (ih (k+1) hx1 _ _ nbF nbF o h C0))
      obtain rfl:=Xfy rfl
      exact Xb [] (k:=wkT [] (ih (k+1) hx1 _ _ nbF nbS o h C0))
     obtain rfl:=Xry rfl
     rcases Xkh with ⟨_|_,Xfy⟩
     ·
      exact Xb [] (k:=wkT [] (ih (k+1) hx1 _ _ nbS nbF o h C0))
     obtain rfl:=Xfy rfl
     exact Xb [] (k:=wkT [] (ih (k+1) hx1 _ _ nbS nbS o h C0))
    clear h;revert h114
    refine brI (fun h109=>?_) fun h109=>?_
    ·
     refine bI fun u110 h111=>?_
     intro h
     simp only[Option.some.injEq,Prod.mk.injEq] at h
     obtain⟨rfl,rfl⟩:=h
     exact Xb [Bt,.no] (o:=by repeat' first|apply Ya|exact pcM|(refine X1m h111 rfl ?_;first|(simp;done)|(simp;omega)|(simp[hc,h109];done)|(simp[hc,h109];omega))|(refine X0i h111 (by decide) ?_;first|(simp;done)|(simp;omega)|(simp[hc,h109];done)|(simp[hc,h109];omega))|exact Xr) (k:=wkT [(0,4)] (X5.glue (J (nbF,nbF))))
    refine bI fun u112 h113=>?_
    intro h
    simp only[Option.some.injEq,Prod.mk.injEq] at h
    obtain⟨rfl,rfl⟩:=h
    exact Xb [Bf,.no] (o:=by repeat' first|apply Ya|exact pcM|(refine X1m h113 rfl ?_;first|(simp;done)|(simp;omega)|(simp[hc,h109];done)|(simp[hc,h109];omega))|(refine X0i h113 (by decide) ?_;first|(simp;done)|(simp;omega)|(simp[hc,h109];done)|(simp[hc,h109];omega))|exact Xr) (k:=wkT [(1,4)] (X5.glue (J (nbF,nbF))))
   obtain rfl:=X0m rfl
   refine X5.round ?_
   revert h
   refine bI fun w120 h126=>?_
   intro h
   obtain⟨Xp3,Xp2⟩:=w120
   try dsimp only at h
   refine X09 [Bt,.el (X3 x)] ?_
   refine X5.joinF (fun(q:Nb Xp3×Nb Xp2)=>⟨fr [(1,(aI .i64 Xhr)),(4,(slE q.1.1 0 (Xp3.map X3))),(5,(slE q.2.1 1 (Xp2.map X3))),(15,(Lf (X2w.map X3))),(16,(aI .i64 (X2w.length:Int))),(17,(aI .i64 (k:Int)))],hp ([]++opE q.1.1 0 11 (Xp3.map X3)++opE q.2.1 1 11 (Xp2.map X3)),2⟩) ?_ (fun J=>X5.cut ?_)
   ·
    rintro⟨Xre,Xkg⟩
    rcases Xre with ⟨_|_,Xrx⟩
    ·
     rcases Xkg with ⟨_|_,Xfx⟩
     ·
      exact Xb [] (k:=wkT [] (ih (k+1) hx1 _ _ nbF nbF o h C0))
     obtain rfl:=Xfx rfl
     exact Xb [] (k:=wkT [] (ih (k+1) hx1 _ _ nbF nbS o h C0))
    obtain rfl:=Xrx rfl
    rcases Xkg with ⟨_|_,Xfx⟩
    ·
     exact Xb [] (k:=wkT [] (ih (k+1) hx1 _ _ nbS nbF o h C0))
    obtain rfl:=Xfx rfl
    exact Xb [] (k:=wkT [] (ih (k+1) hx1 _ _ nbS nbS o h C0))
   clear h;revert h126
   refine brI (fun h121=>?_) fun h121=>?_
   ·
    refine bI fun u122 h123=>?_
    intro h
    simp only[Option.some.injEq,Prod.mk.injEq] at h
    obtain⟨rfl,rfl⟩:=h
    exact Xb [Bt,.no] (o:=by repeat' first|apply Ya|exact pcM|(refine X1m h123 rfl ?_;first|(simp;done)|(simp;omega)|(simp[hc,h121];done)|(simp[hc,h121];omega))|(refine X0i h123 (by decide) ?_;first|(simp;done)|(simp;omega)|(simp[hc,h121];done)|(simp[hc,h121];omega))|exact Xr) (k:=wkT [(0,4)] (X5.glue (J (nbF,nbS))))
   refine bI fun u124 h125=>?_
   intro h
   simp only[Option.some.injEq,Prod.mk.injEq] at h
   obtain⟨rfl,rfl⟩:=h
   exact Xb [Bf,.no] (o:=by repeat' first|apply Ya|exact pcM|(refine X1m h125 rfl ?_;first|(simp;done)|(simp;omega)|(simp[hc,h121];done)|(simp[hc,h121];omega))|(refine X0i h125 (by decide) ?_;first|(simp;done)|(simp;omega)|(simp[hc,h121];done)|(simp[hc,h121];omega))|exact Xr) (k:=wkT [(1,4)] (X5.glue (J (nbF,nbF))))
  obtain rfl:=X5k rfl
  rcases Xy with ⟨_|_,X0m⟩
  ·
   refine X5.round ?_
   revert h
   refine bI fun w132 h138=>?_
   intro h
   obtain⟨Xp0,Xoz⟩:=w132
   try dsimp only at h
   refine X09 [Bt,.el (X3 x)] ?_
   refine X5.joinF (fun(q:Nb Xp0×Nb Xoz)=>⟨fr [(1,(aI .i64 Xhr)),(4,(slE q.1.1 0 (Xp0.map X3))),(5,(slE q.2.1 1 (Xoz.map X3))),(15,(Lf (X2w.map X3))),(16,(aI .i64 (X2w.length:Int))),(17,(aI .i64 (k:Int)))],hp ([]++opE q.1.1 0 11 (Xp0.map X3)++opE q.2.1 1 11 (Xoz.map X3)),2⟩) ?_ (fun J=>X5.cut ?_)
   ·
    rintro⟨Xrd,Xkf⟩
    rcases Xrd with ⟨_|_,Xrw⟩
    ·
     rcases Xkf with ⟨_|_,Xfw⟩
     ·
      exact Xb [] (k:=wkT [] (ih (k+1) hx1 _ _ nbF nbF o h C0))
     obtain rfl:=Xfw rfl
     exact Xb [] (k:=wkT [] (ih (k+1) hx1 _ _ nbF nbS o h C0))
    obtain rfl:=Xrw rfl
    rcases Xkf with ⟨_|_,Xfw⟩
    ·
     exact Xb [] (k:=wkT [] (ih (k+1) hx1 _ _ nbS nbF o h C0))
    obtain rfl:=Xfw rfl
    exact Xb [] (k:=wkT [] (ih (k+1) hx1 _ _ nbS nbS o h C0))
   clear h;revert h138
   refine brI (fun h133=>?_) fun h133=>?_
   ·
    refine bI fun u134 h135=>?_
    intro h
    simp only[Option.some.injEq,Prod.mk.injEq] at h
    obtain⟨rfl,rfl⟩:=h
    exact Xb [Bt,.no] (o:=by repeat' first|apply Ya|exact pcM|(refine X1m h135 rfl ?_;first|(simp;done)|(simp;omega)|(simp[hc,h133];done)|(simp[hc,h133];omega))|(refine X0i h135 (by decide) ?_;first|(simp;done)|(simp;omega)|(simp[hc,h133];done)|(simp[hc,h133];omega))|exact Xr) (k:=wkT [(0,4)] (X5.glue (J (nbF,nbF))))
   refine bI fun u136 h137=>?_
   intro h
   simp only[Option.some.injEq,Prod.mk.injEq] at h
   obtain⟨rfl,rfl⟩:=h
   exact Xb [Bf,.no] (o:=by repeat' first|apply Ya|exact pcM|(refine X1m h137 rfl ?_;first|(simp;done)|(simp;omega)|(simp[hc,h133];done)|(simp[hc,h133];omega))|(refine X0i h137 (by decide) ?_;first|(simp;done)|(simp;omega)|(simp[hc,h133];done)|(simp[hc,h133];omega))|exact Xr) (k:=wkT [(1,4)] (X5.glue (J (nbS,nbF))))
  obtain rfl:=X0m rfl
  refine X5.round ?_
  revert h
  refine bI fun w144 h150=>?_
  intro h
  obtain⟨Xoy,Xox⟩:=w144
  try dsimp only at h
  refine X09 [Bt,.el (X3 x)] ?_
  refine X5.joinF (fun(q:Nb Xoy×Nb Xox)=>⟨fr [(1,(aI .i64 Xhr)),(4,(slE q.1.1 0 (Xoy.map X3))),(5,(slE q.2.1 1 (Xox.map X3))),(15,(Lf (X2w.map X3))),(16,(aI .i64 (X2w.length:Int))),(17,(aI .i64 (k:Int)))],hp ([]++opE q.1.1 0 11 (Xoy.map X3)++opE q.2.1 1 11 (Xox.map X3)),2⟩) ?_ (fun J=>X5.cut ?_)
  ·
   rintro⟨Xrc,Xke⟩
   rcases Xrc with ⟨_|_,Xrv⟩
   ·
    rcases Xke with ⟨_|_,Xfv⟩
    ·
     exact Xb [] (k:=wkT [] (ih (k+1) hx1 _ _ nbF nbF o h C0))
    obtain rfl:=Xfv rfl
    exact Xb [] (k:=wkT [] (ih (k+1) hx1 _ _ nbF nbS o h C0))
   obtain rfl:=Xrv rfl
   rcases Xke with ⟨_|_,Xfv⟩
   ·
    exact Xb [] (k:=wkT [] (ih (k+1) hx1 _ _ nbS nbF o h C0))
   obtain rfl:=Xfv rfl
   exact Xb [] (k:=wkT [] (ih (k+1) hx1 _ _ nbS nbS o h C0))
  clear h;revert h150
  refine brI (fun h145=>?_) fun h145=>?_
  ·
   refine bI fun u146 h147=>?_
   intro h
   simp only[Option.some.injEq,Prod.mk.injEq] at h
   obtain⟨rfl,rfl⟩:=h
   exact Xb [Bt,.no] (o:=by repeat' first|apply Ya|exact pcM|(refine X1m h147 rfl ?_;first|(simp;done)|(simp;omega)|(simp[hc,h145];done)|(simp[hc,h145];omega))|(refine X0i h147 (by decide) ?_;first|(simp;done)|(simp;omega)|(simp[hc,h145];done)|(simp[hc,h145];omega))|exact Xr) (k:=wkT [(0,4)] (X5.glue (J (nbF,nbS))))
  refine bI fun u148 h149=>?_
  intro h
  simp only[Option.some.injEq,Prod.mk.injEq] at h
  obtain⟨rfl,rfl⟩:=h
  exact Xb [Bf,.no] (o:=by repeat' first|apply Ya|exact pcM|(refine X1m h149 rfl ?_;first|(simp;done)|(simp;omega)|(simp[hc,h145];done)|(simp[hc,h145];omega))|(refine X0i h149 (by decide) ?_;first|(simp;done)|(simp;omega)|(simp[hc,h145];done)|(simp[hc,h145];omega))|exact Xr) (k:=wkT [(1,4)] (X5.glue (J (nbS,nbF))))
end Go.Av.Tryz