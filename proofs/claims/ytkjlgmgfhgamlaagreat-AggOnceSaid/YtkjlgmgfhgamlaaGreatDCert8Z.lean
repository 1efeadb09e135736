/- Printed by decomp.py: that the program computes the functions. -/
import Derived.Test.YtkjlgmgfhgamlaaGreatDCert5Z
set_option linter.all false

namespace Go.Av.Tryz
open Go.Proofs Go.D
set_option maxRecDepth 10000
set_option maxHeartbeats 40000000
instance Xip:PCs Tryz.prog 136 (∀ (a0:(List X0g)) (r:(List X0g)),X4s a0=some r->X0j Tryz.prog 136 [(Lf (a0.map X01))] (AV.list true (r.map X01))):=⟨fun a0 r h=>by
 refine X0j.sym X5 X01n (nt:=8) rfl rfl ?_ okM
 unfold X4s at h
 revert h
 refine brI (fun q=>?_) fun q=>?_
 ·
  intro h
  have h1:a0=[]:=List.isEmpty_iff.1 q
  refine X09 [] ?_
  refine X3.eqNil X5 (may:=true) rfl rfl rfl rfl rfl rfl trivial (by simp[X5t, *]) fun b2 qb2=>?_
  cases b2
  ·
   revert h
   exact fun e=>oj e▸Xa [Bf,.ne false] (k:=fi)
  revert h
  exact fun e=>oj e▸Xa [Bt] (k:=fi)
 intro h
 have h1:¬ (a0=[]):=(fun e=>by rw[e] at q;cases q)
 refine X09 [] ?_
 refine X3.eqNil X5 (may:=false) rfl rfl rfl rfl rfl rfl trivial (by simp[X5t, *]) fun b3 qb3=>?_
 obtain rfl:=qb3 rfl
 revert h
 exact bI fun u4 h5=>fun e=>oj e▸Xa [Bf,.via (AV.list true (a0.map X01))] (o:=by repeat' first|apply Ya|exact pcM|(refine X1o h5 rfl ?_;first|(simp;done)|(simp;omega)|(simp[h1];done)|(simp[h1];omega))|(refine X0d h5 (by decide) ?_;first|(simp;done)|(simp;omega)|(simp[h1];done)|(simp[h1];omega))|exact X04) (k:=fi)⟩
theorem X9j (a0:List X0g) (h1:a0=[]):X0j Tryz.prog 136 [(Lf (a0.map X01))] AV.nils:=by
 refine X0j.sym X5 X01n (nt:=8) rfl rfl ?_ (X10 .list X7b)
 refine X09 [] ?_
 refine X3.eqNil X5 (may:=true) rfl rfl rfl rfl rfl rfl trivial (by simp[X5t, *]) fun b2 qb2=>?_
 cases b2
 ·
  refine X09 [Bf,.ne false] ?_
  exact Xks rfl .nils0
 refine X09 [Bt] ?_
 exact Xks rfl .nils0
instance Xhd:PCs Tryz.prog 104 (∀ (a0:(List Int)) (r:(List Int)),X1j a0=some r->X0j Tryz.prog 104 [(Lf (List.map (aI .i64) a0))] (AV.list true (List.map (aI .i64) r))):=⟨fun a0 r h=>by
 refine X0j.sym X5 X01q (nt:=8) rfl rfl ?_ okM
 unfold X1j at h
 revert h
 refine brI (fun q=>?_) fun q=>?_
 ·
  intro h
  have h1:a0=[]:=List.isEmpty_iff.1 q
  refine X09 [] ?_
  refine X3.eqNil X5 (may:=true) rfl rfl rfl rfl rfl rfl trivial (by simp[X5t, *]) fun b2 qb2=>?_
  cases b2
  ·
   revert h
   exact fun e=>oj e▸Xa [Bf,.ne false] (k:=fi)
  revert h
  exact fun e=>oj e▸Xa [Bt] (k:=fi)
 intro h
 have h1:¬ (a0=[]):=(fun e=>by rw[e] at q;cases q)
 refine X09 [] ?_
 refine X3.eqNil X5 (may:=false) rfl rfl rfl rfl rfl rfl trivial (by simp[X5t, *]) fun b3 qb3=>?_
 obtain rfl:=qb3 rfl
 revert h
 exact bI fun u4 h5=>fun e=>oj e▸Xa [Bf,.via (AV.list true (List.map (aI .i64) a0))] (o:=by repeat' first|apply Ya|exact pcM|(refine X1o h5 rfl ?_;first|(simp;done)|(simp;omega)|(simp[h1];done)|(simp[h1];omega))|(refine X0d h5 (by decide) ?_;first|(simp;done)|(simp;omega)|(simp[h1];done)|(simp[h1];omega))|exact X04) (k:=fi)⟩
instance Xhf:PCs Tryz.prog 80 (∀ (a0:(List X2)) (r:(List X2)),X1l a0=some r->X0j Tryz.prog 80 [(Lf (a0.map X1))] (AV.list true (r.map X1))):=⟨fun a0 r h=>by
 refine X0j.sym X5 fn80 (nt:=8) rfl rfl ?_ okM
 unfold X1l at h
 revert h
 refine brI (fun q=>?_) fun q=>?_
 ·
  intro h
  have h1:a0=[]:=List.isEmpty_iff.1 q
  refine X09 [] ?_
  refine X3.eqNil X5 (may:=true) rfl rfl rfl rfl rfl rfl trivial (by simp[X5t, *]) fun b2 qb2=>?_
  cases b2
  ·
   revert h
   exact fun e=>oj e▸Xa [Bf,.ne false] (k:=fi)
  revert h
  exact fun e=>oj e▸Xa [Bt] (k:=fi)
 intro h
 have h1:¬ (a0=[]):=(fun e=>by rw[e] at q;cases q)
 refine X09 [] ?_
 refine X3.eqNil X5 (may:=false) rfl rfl rfl rfl rfl rfl trivial (by simp[X5t, *]) fun b3 qb3=>?_
 obtain rfl:=qb3 rfl
 revert h
 exact bI fun u4 h5=>fun e=>oj e▸Xa [Bf,.via (AV.list true (a0.map X1))] (o:=by repeat' first|apply Ya|exact pcM|(refine X1o h5 rfl ?_;first|(simp;done)|(simp;omega)|(simp[h1];done)|(simp[h1];omega))|(refine X0d h5 (by decide) ?_;first|(simp;done)|(simp;omega)|(simp[h1];done)|(simp[h1];omega))|exact X04) (k:=fi)⟩
instance Xhe:PCs Tryz.prog 137 (∀ (a0:(List X0e)) (r:(List X0e)),X1k a0=some r->X0j Tryz.prog 137 [(Lf (a0.map X06))] (AV.list true (r.map X06))):=⟨fun a0 r h=>by
 refine X0j.sym X5 X03s (nt:=8) rfl rfl ?_ okM
 unfold X1k at h
 revert h
 refine brI (fun q=>?_) fun q=>?_
 ·
  intro h
  have h1:a0=[]:=List.isEmpty_iff.1 q
  refine X09 [] ?_
  refine X3.eqNil X5 (may:=true) rfl rfl rfl rfl rfl rfl trivial (by simp[X5t, *]) fun b2 qb2=>?_
  cases b2
  ·
   revert h
   exact fun e=>oj e▸Xa [Bf,.ne false] (k:=fi)
  revert h
  exact fun e=>oj e▸Xa [Bt] (k:=fi)
 intro h
 have h1:¬ (a0=[]):=(fun e=>by rw[e] at q;cases q)
 refine X09 [] ?_
 refine X3.eqNil X5 (may:=false) rfl rfl rfl rfl rfl rfl trivial (by simp[X5t, *]) fun b3 qb3=>?_
 obtain rfl:=qb3 rfl
 revert h
 exact bI fun u4 h5=>fun e=>oj e▸Xa [Bf,.via (AV.list true (a0.map X06))] (o:=by repeat' first|apply Ya|exact pcM|(refine X1o h5 rfl ?_;first|(simp;done)|(simp;omega)|(simp[h1];done)|(simp[h1];omega))|(refine X0d h5 (by decide) ?_;first|(simp;done)|(simp;omega)|(simp[h1];done)|(simp[h1];omega))|exact X04) (k:=fi)⟩
instance Xk2:PCs Tryz.prog 138 (∀ (a0:(List X1n)) (r:(List X1n)),X2j a0=some r->X0j Tryz.prog 138 [(Lf (a0.map Xu))] (AV.list true (r.map Xu))):=⟨fun a0 r h=>by
 refine X0j.sym X5 X03r (nt:=8) rfl rfl ?_ okM
 unfold X2j at h
 revert h
 refine brI (fun q=>?_) fun q=>?_
 ·
  intro h
  have h1:a0=[]:=List.isEmpty_iff.1 q
  refine X09 [] ?_
  refine X3.eqNil X5 (may:=true) rfl rfl rfl rfl rfl rfl trivial (by simp[X5t, *]) fun b2 qb2=>?_
  cases b2
  ·
   revert h
   exact fun e=>oj e▸Xa [Bf,.ne false] (k:=fi)
  revert h
  exact fun e=>oj e▸Xa [Bt] (k:=fi)
 intro h
 have h1:¬ (a0=[]):=(fun e=>by rw[e] at q;cases q)
 refine X09 [] ?_
 refine X3.eqNil X5 (may:=false) rfl rfl rfl rfl rfl rfl trivial (by simp[X5t, *]) fun b3 qb3=>?_
 obtain rfl:=qb3 rfl
 revert h
 exact bI fun u4 h5=>fun e=>oj e▸Xa [Bf,.via (AV.list true (a0.map Xu))] (o:=by repeat' first|apply Ya|exact pcM|(refine X1o h5 rfl ?_;first|(simp;done)|(simp;omega)|(simp[h1];done)|(simp[h1];omega))|(refine X0d h5 (by decide) ?_;first|(simp;done)|(simp;omega)|(simp[h1];done)|(simp[h1];omega))|exact X04) (k:=fi)⟩
instance Xg4:PCs Tryz.prog 139 (∀ (a0:(List Xe)) (r:(List Xe)),X19 a0=some r->X0j Tryz.prog 139 [(Lf (a0.map Xx))] (AV.list true (r.map Xx))):=⟨fun a0 r h=>by
 refine X0j.sym X5 X03q (nt:=8) rfl rfl ?_ okM
 unfold X19 at h
 revert h
 refine brI (fun q=>?_) fun q=>?_
 ·
  intro h
  have h1:a0=[]:=List.isEmpty_iff.1 q
  refine X09 [] ?_
  refine X3.eqNil X5 (may:=true) rfl rfl rfl rfl rfl rfl trivial (by simp[X5t, *]) fun b2 qb2=>?_
  cases b2
  ·
   revert h
   exact fun e=>oj e▸Xa [Bf,.ne false] (k:=fi)
  revert h
  exact fun e=>oj e▸Xa [Bt] (k:=fi)
 intro h
 have h1:¬ (a0=[]):=(fun e=>by rw[e] at q;cases q)
 refine X09 [] ?_
 refine X3.eqNil X5 (may:=false) rfl rfl rfl rfl rfl rfl trivial (by simp[X5t, *]) fun b3 qb3=>?_
 obtain rfl:=qb3 rfl
 revert h
 exact bI fun u4 h5=>fun e=>oj e▸Xa [Bf,.via (AV.list true (a0.map Xx))] (o:=by repeat' first|apply Ya|exact pcM|(refine X1o h5 rfl ?_;first|(simp;done)|(simp;omega)|(simp[h1];done)|(simp[h1];omega))|(refine X0d h5 (by decide) ?_;first|(simp;done)|(simp;omega)|(simp[h1];done)|(simp[h1];omega))|exact X04) (k:=fi)⟩
instance Xx6:PCs Tryz.prog 63 (∀ (a0:X00) (a1:(List X0g)) (r:X00×Int),X4m a0 a1=some r->X0j Tryz.prog 63 [(Xj false a0),(Lf (a1.map X01))] (AV.tup [(Xj true r.1),(aI .i64 r.2)])):=⟨fun a0 a1 r h=>by
 refine X0j.sym X5 fn63 (nt:=33) rfl rfl ?_ okM
 unfold X4m at h
 revert h
 refine bI fun v1 h2=>brI (fun h3=>fun e=>oj e▸Xa [.pure _ (aI .i64 v1),Bt] (k:=fi)) fun h3=>bI fun v4 h5=>brI (fun h6=>fun e=>oj e▸Xa [.pure _ (aI .i64 v1),Bf,.pure _ (aB v4),Bt] (k:=fi)) fun h6=>rnI [.pure _ (aI .i64 v1),Bf,.pure _ (aB v4),Bf,.el (aI .i64 (a1.length:Int)),.el (aI .i64 (a0.Pending.length:Int)),.wrap] ?_
 refine brI (fun h7=>fun e=>oj e▸Xa [Bt] (k:=fi)) fun h7=>rnI [Bf] ?_
 intro h
 refine X3.inline X5 X04b rfl rfl rfl rfl rfl trivial trivial rfl rfl ?_
 revert h
 refine brI (fun q=>?_) fun q=>?_
 ·
  intro h
  have h32:a0.Pending=[]:=List.isEmpty_iff.1 q
  revert h
  refine bI fun v33 h34=>bI fun v35 h36=>bI fun v37 h38=>bI fun v39 h40=>bI fun v41 h42=>rnI [.pure [(Lf (a0.Pending.map X01))] AV.nils,.pure _ (AV.list true (List.map (aI .i64) v33)),.pure _ (AV.list true (v35.map X1)),.pure _ (AV.list true (v37.map X06)),.pure _ (AV.list true (v39.map Xu)),.pure _ (AV.list true (v41.map Xx))] (o:=by repeat' first|apply Ya|exact pcM|exact(pn (X9j _ (by simp[*])) (cc (X5o (X2p Xcr a0.Pending)) cn))|exact X04) ?_
  intro h
  refine X3.back (by intro id h;cases h) rfl ?_
  revert h
  refine brI (fun q=>?_) fun q=>?_
  ·
   intro h
   have h43:a1=[]:=List.isEmpty_iff.1 q
   revert h
   exact fun e=>oj e▸Xa [.ne false] (k:=fi)
  intro h
  have h43:¬ (a1=[]):=(fun e=>by rw[e] at q;cases q)
  revert h
  exact bI fun u44 h45=>fun e=>oj e▸Xa [.via (AV.list true (a1.map X01))] (o:=by repeat' first|apply Ya|exact pcM|(refine X1o h45 rfl ?_;first|(simp;done)|(simp;omega)|(simp[h3,h6,h7,h32,h43];done)|(simp[h3,h6,h7,h32,h43];omega))|(refine X0d h45 (by decide) ?_;first|(simp;done)|(simp;omega)|(simp[h3,h6,h7,h32,h43];done)|(simp[h3,h6,h7,h32,h43];omega))|exact X04) (k:=fi)
 intro h
 have h32:¬ (a0.Pending=[]):=(fun e=>by rw[e] at q;cases q)
 revert h
 refine bI fun v46 h47=>bI fun v48 h49=>bI fun v50 h51=>bI fun v52 h53=>bI fun v54 h55=>bI fun v56 h57=>rnI [.pure _ (AV.list true (v46.map X01)),.pure _ (AV.list true (List.map (aI .i64) v48)),.pure _ (AV.list true (v50.map X1)),.pure _ (AV.list true (v52.map X06)),.pure _ (AV.list true (v54.map Xu)),.pure _ (AV.list true (v56.map Xx))] ?_
 intro h
 refine X3.back (by intro id h;cases h) rfl ?_
 revert h
 refine brI (fun q=>?_) fun q=>?_
 ·
  intro h
  have h58:a1=[]:=List.isEmpty_iff.1 q
  revert h
  exact fun e=>oj e▸Xa [.ne false] (k:=fi)
 intro h
 have h58:¬ (a1=[]):=(fun e=>by rw[e] at q;cases q)
 revert h
 refine bI fun u59 h60=>?_
 intro h
 cases h⟩
instance Xsv:PCs Tryz.prog 94 (∀ (a0:Int) (r:Bool),X6i a0=some r->X0j Tryz.prog 94 [(aI .i64 a0)] (aB r)):=⟨fun a0 r h=>by
 refine X0j.sym X5 fn94 (nt:=7) rfl rfl ?_ okM
 unfold X6i at h
 revert h
 exact bI fun v1 h2=>fun e=>oj e▸Xa [.pure _ (aI .i64 v1)] (k:=fi)⟩
theorem Xew {Q:Xv->St->Mu->Prop} {μ:Mu} (Xh4:(List Int)) (hl:Xh4.length<=140737488355328):∀ (xs:List Int) (k:Nat) (hx:Xh4.drop k=xs) (o:X60) (h:X45 Xh4 xs k  = some o)
  (C0:o=X60.x0->X3 Tryz.prog 27 0 Q (.exit (.exit 0)) [] ⟨fr [],hp ([]),0⟩ μ)
  (C1:o=X60.x1->X3 Tryz.prog 27 0 Q (.exit .ret) [] ⟨fr [(2,(aI .i64 8))],hp ([]),0⟩ μ),
  X3 Tryz.prog 27 0 Q (.loop (X4y 0 (Xb Tryz.f58))) [] ⟨fr [(13,(Lf (List.map (aI .i64) Xh4))),(14,(aI .i64 (Xh4.length:Int))),(15,(aI .i64 (k:Int)))],hp ([]),0⟩ μ:=by
 intro xs
 induction xs with
 |nil =>
  intro k hx  o h C0 C1
  have hk:=X1h hx
  have hc:decide ((k:Int)<(Xh4.length:Int))=false:=Yf (by omega)
  rw[X45] at h
  refine X3.round ?_
  revert h
  exact fun e=>Xa [Bf] (k:=wkT [] (C0  (oj e).symm))
 |cons x xs ih =>
  intro k hx  o h C0 C1
  obtain⟨hk,hg,hx1⟩:=X0w hx
  have hc:decide ((k:Int)<(Xh4.length:Int))=true:=Yt (by omega)
  rw[X45] at h
  refine X3.round ?_
  revert h
  refine bI fun Xt7 h34=>rnI [Bt,.el (aI .i64 x),.stop 6] ?_
  intro h
  refine X3.join (s':=⟨fr [(13,(Lf (List.map (aI .i64) Xh4))),(14,(aI .i64 (Xh4.length:Int))),(15,(aI .i64 (k:Int))),(25,(aB Xt7))],hp ([]),0⟩) ?_ (fun J=>X3.cut ?_)
  ·
   revert h
   refine brI (fun h35=>fun e=>Xa [Bt] (k:=wkT [] (C1  (oj e).symm))) fun h35=>rnI [Bf] ?_
   intro h
   exact wkT [] (ih (k+1) hx1  o h C0 C1)
  clear h;revert h34
  refine brI (fun h31=>?_) fun h31=>?_
  ·
   refine bI fun v32 h33=>?_
   intro h
   obtain rfl:=oj h
   exact Xa [.go true,.go true,.pure _ (aB v32),.go true] (k:=wkT [] (X3.glue J))
  intro h
  obtain rfl:=oj h
  exact Xa [.go false,.go false,.go false] (k:=wkT [] (X3.glue J))
instance Xuy:PCs Tryz.prog 58 (∀ (a0:(List Int)) (r:Int),X9f a0=some r->X0j Tryz.prog 58 [(Lf (List.map (aI .i64) a0))] (aI .i64 r)):=⟨fun a0 r h=>by
 refine X0j.sym X5 fn58 (nt:=27) rfl rfl ?_ okM
 unfold X9f at h
 revert h
 refine bI fun Xz8 h4=>rnI [.stop 1] ?_
 intro h
 refine X3.join (s':=⟨fr [(0,(Lf (List.map (aI .i64) a0))),(12,(aB Xz8))],hp ([]),0⟩) ?_ (fun J=>X3.cut ?_)
 ·
  revert h
  refine brI (fun h5=>fun e=>oj e▸Xa [Bt] (k:=fi)) fun h5=>bI fun u6 h7=>?_
  have qh7:=X12 h7
  refine bI fun o36 h37=>rnI [Bf,.el (aI .i64 (a0.length:Int))] ?_
  intro h
  refine wkT [] (X3.cut (Xew a0 qh7 a0 0 (by simp) _ h37 ?_ ?_))
  ·
   intro eo36;subst eo36
   refine X3.glue ?_
   try dsimp only at h
   revert h
   exact fun e=>oj e▸Xa [] (k:=fi)
  intro eo36;subst eo36
  refine X3.glue ?_
  try dsimp only at h
  revert h
  exact fun e=>oj e▸Xa [] (k:=fi)
 clear h;revert h4
 refine brI (fun h3=>?_) fun h3=>?_
 ·
  intro h
  obtain rfl:=oj h
  exact Xa [.el (aI .i64 (a0.length:Int)),.go false,.go false,.go false] (k:=wkT [] (X3.glue J))
 intro h
 obtain rfl:=oj h
 exact Xa [.el (aI .i64 (a0.length:Int)),.go true,.go true,.el (aI .i64 (a0.length:Int)),.go true] (k:=wkT [] (X3.glue J))⟩
theorem X8c {Q:Xv->St->Mu->Prop} {μ:Mu} (X0y:(List Int)):∀ (n:Nat) (X8s:Int) (Xmq:Int) (o:X3f) (h:X0z X0y n X8s Xmq=some o)
  (C0:∀ (Xj8:Int),o=X3f.x0 Xj8->X3 Tryz.prog 25 0 Q (.exit (.exit 0)) [] ⟨fr [(3,(aI .i64 Xj8))],hp ([]),0⟩ μ),
  X3 Tryz.prog 25 0 Q (.loop (X4y 0 (Xb Tryz.f59))) [] ⟨fr [(0,(Lf (List.map (aI .i64) X0y))),(3,(aI .i64 X8s)),(4,(aI .i64 Xmq))],hp ([]),0⟩ μ:=by
 intro n
 induction n with
 |zero=>intro X8s Xmq o h C0;cases h
 |succ n ih =>
  intro X8s Xmq o h C0
  rw[X0z] at h
  refine X3.round ?_
  revert h
  refine brI (fun h12=>?_) fun h12=>fun e=>Xa [.el (aI .i64 (X0y.length:Int)),Bf] (k:=wkT [] (C0 _  (oj e).symm))
  refine bI fun e13 h14=>?_
  try have qh14:=Xq h14
  refine rnI [.el (aI .i64 (X0y.length:Int)),Bt,.el (aI .i64 e13),.wrap] ?_
  intro h
  exact wkT [] (ih  _ _ o h C0)
instance Xio:PCs Tryz.prog 59 (∀ (a0:(List Int)) (r:Int),X22 a0=some r->X0j Tryz.prog 59 [(Lf (List.map (aI .i64) a0))] (aI .i64 r)):=⟨fun a0 r h=>by
 refine X0j.sym X5 fn59 (nt:=25) rfl rfl ?_ okM
 unfold X22 at h
 revert h
 refine brI (fun h2=>?_) fun h2=>?_
 ·
  intro h
  cases h
 refine bI fun e3 h4=>?_
 try have qh4:=Xq h4
 refine bI fun o15 h16=>rnI [.el (aI .i64 (a0.length:Int)),Bf,.el (aI .i64 e3)] ?_
 intro h
 refine wkT [] (X3.cut (X8c a0 _ _ _ _ h16 ?_))
 intro Xj8 eo15;subst eo15
 refine X3.glue ?_
 try dsimp only at h
 revert h
 exact fun e=>oj e▸Xa [] (k:=fi)⟩
instance Xux:PCs Tryz.prog 27 (∀ (a0:(List Int)) (r:Int×Int),X4i a0=some r->X0j Tryz.prog 27 [(Lf (List.map (aI .i64) a0))] (AV.tup [(aI .i64 r.1),(aI .i64 r.2)])):=⟨fun a0 r h=>by
 refine X0j.sym X5 fn27 (nt:=12) rfl rfl ?_ okM
 unfold X4i at h
 revert h
 exact bI fun v1 h2=>brI (fun h3=>fun e=>oj e▸Xa [.pure _ (aI .i64 v1),Bt] (k:=fi)) fun h3=>bI fun v4 h5=>fun e=>oj e▸Xa [.pure _ (aI .i64 v1),Bf,.pure _ (aI .i64 v4)] (k:=fi)⟩
instance Xuw:PCs Tryz.prog 64 (∀ (a0:(List Int)) (a1:Int) (a2:Int) (r:(List Int)×Bool×Int),X7l a0 a1 a2=some r->X0j Tryz.prog 64 [(Lf (List.map (aI .i64) a0)),(aI .i64 a1),(aI .i64 a2)] (AV.tup [(AV.list true (List.map (aI .i64) r.1)),(aB r.2.1),(aI .i64 r.2.2)])):=⟨fun a0 a1 a2 r h=>by
 refine X0j.sym X5 fn64 (nt:=47) rfl rfl ?_ okM
 unfold X7l at h
 revert h
 refine bI fun v1 h2=>brI (fun h3=>fun e=>oj e▸Xa [.pure _ (AV.tup [(aI .i64 v1.1),(aI .i64 v1.2)]),Bt] (k:=fi)) fun h3=>bI fun Xyt h13=>rnI [.pure _ (AV.tup [(aI .i64 v1.1),(aI .i64 v1.2)]),Bf,.stop 4] ?_
 intro h
 refine X3.join (s':=⟨fr [(0,(Lf (List.map (aI .i64) a0))),(1,(aI .i64 a1)),(2,(aI .i64 a2)),(9,(aI .i64 v1.1)),(30,(aB Xyt))],hp ([]),0⟩) ?_ (fun J=>X3.cut ?_)
 ·
  revert h
  refine brI (fun h14=>fun e=>oj e▸Xa [Bt] (k:=fi)) fun h14=>bI fun Xhv h26=>rnI [Bf] ?_
  intro h
  refine X3.joinOpF (fun(q:Nb Xhv)=>⟨fr [(1,(aI .i64 a1)),(2,(aI .i64 a2)),(9,(aI .i64 v1.1)),(32,(slE q.1 0 (List.map (aI .i64) Xhv)))],hp ([]++opE q.1 0 1 (List.map (aI .i64) Xhv)),1⟩) ?_ (fun J=>?_)
  ·
   rintro Xst
   rcases Xst with ⟨_|_,Xtj⟩
   ·
    revert h
    refine bI fun e27 h28=>?_
    try have qh28:=Xq h28
    exact bI fun v29 h30=>fun e=>oj e▸Xa [.el (aI .i64 e27),.ld (aI .i64 e27),.el (aI .i64 e27),.ld (aI .i64 e27),.pure _ (aI .i64 v29)] (o:=by repeat' first|apply Ya|exact pcM|exact(List.getElem?_set_self (by have hq:=X70 h28;simp;omega)).trans rfl|exact X04) (k:=fi)
   obtain rfl:=Xtj rfl
   revert h
   refine bI fun e31 h32=>?_
   try have qh32:=Xq h32
   intro h
   exact absurd (h32) (by simp[X3b])
  clear h;revert h26
  intro h
  refine X3.inline X5 X01q rfl rfl rfl rfl rfl trivial trivial rfl rfl ?_
  revert h
  refine brI (fun q=>?_) fun q=>?_
  ·
   intro h
   have h21:a0=[]:=List.isEmpty_iff.1 q
   refine X09 [] ?_
   refine X3.eqNil X5 (may:=true) rfl rfl rfl rfl rfl rfl trivial (by simp[X5t, *]) fun b22 qb22=>?_
   cases b22
   ·
    obtain rfl:=oj h
    refine X09 [Bf,.ne false] ?_
    refine X3.back (by intro id h;cases h) rfl ?_
    exact wkT [] ((J nbS))
   obtain rfl:=oj h
   refine X09 [Bt] ?_
   refine X3.back (by intro id h;cases h) rfl ?_
   exact wkT [] ((J nbS))
  intro h
  have h21:¬ (a0=[]):=(fun e=>by rw[e] at q;cases q)
  refine X09 [] ?_
  refine X3.eqNil X5 (may:=false) rfl rfl rfl rfl rfl rfl trivial (by simp[X5t, *]) fun b23 qb23=>?_
  obtain rfl:=qb23 rfl
  revert h
  refine bI fun u24 h25=>?_
  intro h
  obtain rfl:=oj h
  refine X09 [Bf,.via (AV.list true (List.map (aI .i64) a0))] (o:=by repeat' first|apply Ya|exact pcM|(refine X1o h25 rfl ?_;first|(simp;done)|(simp;omega)|(simp[h3,h14,h21];done)|(simp[h3,h14,h21];omega))|(refine X0d h25 (by decide) ?_;first|(simp;done)|(simp;omega)|(simp[h3,h14,h21];done)|(simp[h3,h14,h21];omega))|exact X04) ?_
  refine X3.back (by intro id h;cases h) rfl ?_
  exact wkT [(0,1)] ((J nbF))
 clear h;revert h13
 refine brI (fun h9=>?_) fun h9=>?_
 ·
  intro h
  obtain rfl:=oj h
  exact Xa [.go false,.go false,.go false,.go false,.go false,.go false,.go false] (o:=by repeat' first|apply Ya|exact pcM|exact((X9 h9 rfl))|exact(Xi (X9 h9 rfl))|exact(X5k (X9 h9 rfl))|exact X04) (k:=wkT [] (X3.glue J))
 refine brI (fun h10=>?_) fun h10=>?_
 ·
  intro h
  obtain rfl:=oj h
  exact Xa [.go true,.go true,.go true,.el (aI .i64 (a0.length:Int)),.go true,.go false,.go false,.go false] (o:=by repeat' first|apply Ya|exact pcM|exact((X8 h9 h10))|exact(Xi (X8 h9 h10))|exact(X5k (X8 h9 h10))|exact X04) (k:=wkT [] (X3.glue J))
 refine bI fun v11 h12=>?_
 intro h
 obtain rfl:=oj h
 exact Xa [.go true,.go true,.go true,.el (aI .i64 (a0.length:Int)),.go true,.go true,.go true,.pure _ (aB v11),.go true] (o:=by repeat' first|apply Ya|exact pcM|exact((X8 h9 h10))|exact(Xi (X8 h9 h10))|exact(Xd3 (X8 h9 h10))|exact X04) (k:=wkT [] (X3.glue J))⟩
theorem Xg3 {Q:Xv->St->Mu->Prop} {μ:Mu} (Xdk:Int) (X30:(List X2)) (hl:X30.length<=140737488355328):∀ (xs:List X2) (k:Nat) (hx:X30.drop k=xs) (Xn:(List X2)) (Xk:(List X2)) (X20:Nb Xn) (Xs:Nb Xk) (o:X94) (h:X3t Xdk X30 xs k Xn Xk=some o)
  (C0:∀ (X08:(List X2)) (X0l:(List X2)) (X0q:Nb X08) (X1a:Nb X0l),o=X94.x0 X08 X0l->X3 Tryz.prog 37 0 Q (.exit (.exit 0)) [] ⟨fr [(4,(slE X0q.1 0 (X08.map X1))),(5,(slE X1a.1 1 (X0l.map X1)))],hp ([]++opE X0q.1 0 11 (X08.map X1)++opE X1a.1 1 11 (X0l.map X1)),2⟩ μ),
  X3 Tryz.prog 37 0 Q (.loop (X4y 0 (Xb Tryz.f65))) [] ⟨fr [(1,(aI .i64 Xdk)),(4,(slE X20.1 0 (Xn.map X1))),(5,(slE Xs.1 1 (Xk.map X1))),(15,(Lf (X30.map X1))),(16,(aI .i64 (X30.length:Int))),(17,(aI .i64 (k:Int)))],hp ([]++opE X20.1 0 11 (Xn.map X1)++opE Xs.1 1 11 (Xk.map X1)),2⟩ μ:=by
 intro xs
 induction xs with
 |nil =>
  intro k hx Xn Xk X20 Xs o h C0
  have hk:=X1h hx
  have hc:decide ((k:Int)<(X30.length:Int))=false:=Yf (by omega)
  rw[X3t] at h
  rcases X20 with ⟨_|_,X5g⟩
  ·
   rcases Xs with ⟨_|_,X0i⟩
   ·
    refine X3.round ?_
    revert h
    exact fun e=>Xa [Bf] (k:=wkT [] (C0 _ _  nbF nbF (oj e).symm))
   obtain rfl:=X0i rfl
   refine X3.round ?_
   revert h
   exact fun e=>Xa [Bf] (k:=wkT [] (C0 _ _  nbF nbS (oj e).symm))
  ·
   obtain rfl:=X5g rfl
   rcases Xs with ⟨_|_,X0i⟩
   ·
    refine X3.round ?_
    revert h
    exact fun e=>Xa [Bf] (k:=wkT [] (C0 _ _  nbS nbF (oj e).symm))
   ·
    obtain rfl:=X0i rfl
    refine X3.round ?_
    revert h
    exact fun e=>Xa [Bf] (k:=wkT [] (C0 _ _  nbS nbS (oj e).symm))
 |cons x xs ih =>
  intro k hx Xn Xk X20 Xs o h C0
  obtain⟨hk,hg,hx1⟩:=X0w hx
  have hc:decide ((k:Int)<(X30.length:Int))=true:=Yt (by omega)
  rw[X3t] at h
  rcases X20 with ⟨_|_,X5g⟩
  ·
   rcases Xs with ⟨_|_,X0i⟩
   ·
    refine X3.round ?_
    revert h
    refine bI fun w108 h114=>?_
    intro h
    obtain⟨Xo3,Xo2⟩:=w108
    try dsimp only at h
    refine X09 [Bt,.el (X1 x)] ?_
    refine X3.joinF (fun(q:Nb Xo3×Nb Xo2)=>⟨fr [(1,(aI .i64 Xdk)),(4,(slE q.1.1 0 (Xo3.map X1))),(5,(slE q.2.1 1 (Xo2.map X1))),(15,(Lf (X30.map X1))),(16,(aI .i64 (X30.length:Int))),(17,(aI .i64 (k:Int)))],hp ([]++opE q.1.1 0 11 (Xo3.map X1)++opE q.2.1 1 11 (Xo2.map X1)),2⟩) ?_ (fun J=>X3.cut ?_)
    ·
     rintro⟨Xqc,Xjn⟩
     rcases Xqc with ⟨_|_,Xqs⟩
     ·
      rcases Xjn with ⟨_|_,Xf7⟩
      ·
       exact Xa [] (k:=wkT [] (ih (k+1) hx1 _ _ nbF nbF o h C0))
      obtain rfl:=Xf7 rfl
      exact Xa [] (k:=wkT [] (ih (k+1) hx1 _ _ nbF nbS o h C0))
     obtain rfl:=Xqs rfl
     rcases Xjn with ⟨_|_,Xf7⟩
     ·
      exact Xa [] (k:=wkT [] (ih (k+1) hx1 _ _ nbS nbF o h C0))
     obtain rfl:=Xf7 rfl
     exact Xa [] (k:=wkT [] (ih (k+1) hx1 _ _ nbS nbS o h C0))
    clear h;revert h114
    refine brI (fun h109=>?_) fun h109=>?_
    ·
     refine bI fun u110 h111=>?_
     intro h
     simp only[Option.some.injEq,Prod.mk.injEq] at h
     obtain⟨rfl,rfl⟩:=h
     exact Xa [Bt,.no] (o:=by repeat' first|apply Ya|exact pcM|(refine X1o h111 rfl ?_;first|(simp;done)|(simp;omega)|(simp[hc,h109];done)|(simp[hc,h109];omega))|(refine X0d h111 (by decide) ?_;first|(simp;done)|(simp;omega)|(simp[hc,h109];done)|(simp[hc,h109];omega))|exact X04) (k:=wkT [(0,4)] (X3.glue (J (nbF,nbF))))
    refine bI fun u112 h113=>?_
    intro h
    simp only[Option.some.injEq,Prod.mk.injEq] at h
    obtain⟨rfl,rfl⟩:=h
    exact Xa [Bf,.no] (o:=by repeat' first|apply Ya|exact pcM|(refine X1o h113 rfl ?_;first|(simp;done)|(simp;omega)|(simp[hc,h109];done)|(simp[hc,h109];omega))|(refine X0d h113 (by decide) ?_;first|(simp;done)|(simp;omega)|(simp[hc,h109];done)|(simp[hc,h109];omega))|exact X04) (k:=wkT [(1,4)] (X3.glue (J (nbF,nbF))))
   obtain rfl:=X0i rfl
   refine X3.round ?_
   revert h
   refine bI fun w120 h126=>?_
   intro h
   obtain⟨Xo1,Xo0⟩:=w120
   try dsimp only at h
   refine X09 [Bt,.el (X1 x)] ?_
   refine X3.joinF (fun(q:Nb Xo1×Nb Xo0)=>⟨fr [(1,(aI .i64 Xdk)),(4,(slE q.1.1 0 (Xo1.map X1))),(5,(slE q.2.1 1 (Xo0.map X1))),(15,(Lf (X30.map X1))),(16,(aI .i64 (X30.length:Int))),(17,(aI .i64 (k:Int)))],hp ([]++opE q.1.1 0 11 (Xo1.map X1)++opE q.2.1 1 11 (Xo0.map X1)),2⟩) ?_ (fun J=>X3.cut ?_)
   ·
    rintro⟨Xqb,Xjm⟩
    rcases Xqb with ⟨_|_,Xqr⟩
    ·
     rcases Xjm with ⟨_|_,Xf6⟩
     ·
      exact Xa [] (k:=wkT [] (ih (k+1) hx1 _ _ nbF nbF o h C0))
     obtain rfl:=Xf6 rfl
     exact Xa [] (k:=wkT [] (ih (k+1) hx1 _ _ nbF nbS o h C0))
    obtain rfl:=Xqr rfl
    rcases Xjm with ⟨_|_,Xf6⟩
    ·
     exact Xa [] (k:=wkT [] (ih (k+1) hx1 _ _ nbS nbF o h C0))
    obtain rfl:=Xf6 rfl
    exact Xa [] (k:=wkT [] (ih (k+1) hx1 _ _ nbS nbS o h C0))
   clear h;revert h126
   refine brI (fun h121=>?_) fun h121=>?_
   ·
    refine bI fun u122 h123=>?_
    intro h
    simp only[Option.some.injEq,Prod.mk.injEq] at h
    obtain⟨rfl,rfl⟩:=h
    exact Xa [Bt,.no] (o:=by repeat' first|apply Ya|exact pcM|(refine X1o h123 rfl ?_;first|(simp;done)|(simp;omega)|(simp[hc,h121];done)|(simp[hc,h121];omega))|(refine X0d h123 (by decide) ?_;first|(simp;done)|(simp;omega)|(simp[hc,h121];done)|(simp[hc,h121];omega))|exact X04) (k:=wkT [(0,4)] (X3.glue (J (nbF,nbS))))
   refine bI fun u124 h125=>?_
   intro h
   simp only[Option.some.injEq,Prod.mk.injEq] at h
   obtain⟨rfl,rfl⟩:=h
   exact Xa [Bf,.no] (o:=by repeat' first|apply Ya|exact pcM|(refine X1o h125 rfl ?_;first|(simp;done)|(simp;omega)|(simp[hc,h121];done)|(simp[hc,h121];omega))|(refine X0d h125 (by decide) ?_;first|(simp;done)|(simp;omega)|(simp[hc,h121];done)|(simp[hc,h121];omega))|exact X04) (k:=wkT [(1,4)] (X3.glue (J (nbF,nbF))))
  obtain rfl:=X5g rfl
  rcases Xs with ⟨_|_,X0i⟩
  ·
   refine X3.round ?_
   revert h
   refine bI fun w132 h138=>?_
   intro h
   obtain⟨Xny,Xnx⟩:=w132
   try dsimp only at h
   refine X09 [Bt,.el (X1 x)] ?_
   refine X3.joinF (fun(q:Nb Xny×Nb Xnx)=>⟨fr [(1,(aI .i64 Xdk)),(4,(slE q.1.1 0 (Xny.map X1))),(5,(slE q.2.1 1 (Xnx.map X1))),(15,(Lf (X30.map X1))),(16,(aI .i64 (X30.length:Int))),(17,(aI .i64 (k:Int)))],hp ([]++opE q.1.1 0 11 (Xny.map X1)++opE q.2.1 1 11 (Xnx.map X1)),2⟩) ?_ (fun J=>X3.cut ?_)
   ·
    rintro⟨Xqa,Xjl⟩
    rcases Xqa with ⟨_|_,Xqq⟩
    ·
     rcases Xjl with ⟨_|_,Xf5⟩
     ·
      exact Xa [] (k:=wkT [] (ih (k+1) hx1 _ _ nbF nbF o h C0))
     obtain rfl:=Xf5 rfl
     exact Xa [] (k:=wkT [] (ih (k+1) hx1 _ _ nbF nbS o h C0))
    obtain rfl:=Xqq rfl
    rcases Xjl with ⟨_|_,Xf5⟩
    ·
     exact Xa [] (k:=wkT [] (ih (k+1) hx1 _ _ nbS nbF o h C0))
    obtain rfl:=Xf5 rfl
    exact Xa [] (k:=wkT [] (ih (k+1) hx1 _ _ nbS nbS o h C0))
   clear h;revert h138
   refine brI (fun h133=>?_) fun h133=>?_
   ·
    refine bI fun u134 h135=>?_
    intro h
    simp only[Option.some.injEq,Prod.mk.injEq] at h
    obtain⟨rfl,rfl⟩:=h
    exact Xa [Bt,.no] (o:=by repeat' first|apply Ya|exact pcM|(refine X1o h135 rfl ?_;first|(simp;done)|(simp;omega)|(simp[hc,h133];done)|(simp[hc,h133];omega))|(refine X0d h135 (by decide) ?_;first|(simp;done)|(simp;omega)|(simp[hc,h133];done)|(simp[hc,h133];omega))|exact X04) (k:=wkT [(0,4)] (X3.glue (J (nbF,nbF))))
   refine bI fun u136 h137=>?_
   intro h
   simp only[Option.some.injEq,Prod.mk.injEq] at h
   obtain⟨rfl,rfl⟩:=h
   exact Xa [Bf,.no] (o:=by repeat' first|apply Ya|exact pcM|(refine X1o h137 rfl ?_;first|(simp;done)|(simp;omega)|(simp[hc,h133];done)|(simp[hc,h133];omega))|(refine X0d h137 (by decide) ?_;first|(simp;done)|(simp;omega)|(simp[hc,h133];done)|(simp[hc,h133];omega))|exact X04) (k:=wkT [(1,4)] (X3.glue (J (nbS,nbF))))
  obtain rfl:=X0i rfl
  refine X3.round ?_
  revert h
  refine bI fun w144 h150=>?_
  intro h
  obtain⟨Xnw,Xnv⟩:=w144
  try dsimp only at h
  refine X09 [Bt,.el (X1 x)] ?_
  refine X3.joinF (fun(q:Nb Xnw×Nb Xnv)=>⟨fr [(1,(aI .i64 Xdk)),(4,(slE q.1.1 0 (Xnw.map X1))),(5,(slE q.2.1 1 (Xnv.map X1))),(15,(Lf (X30.map X1))),(16,(aI .i64 (X30.length:Int))),(17,(aI .i64 (k:Int)))],hp ([]++opE q.1.1 0 11 (Xnw.map X1)++opE q.2.1 1 11 (Xnv.map X1)),2⟩) ?_ (fun J=>X3.cut ?_)
  ·
   rintro⟨Xq9,Xjk⟩
   rcases Xq9 with ⟨_|_,Xqp⟩
   ·
    rcases Xjk with ⟨_|_,Xf4⟩
    ·
     exact Xa [] (k:=wkT [] (ih (k+1) hx1 _ _ nbF nbF o h C0))
    obtain rfl:=Xf4 rfl
    exact Xa [] (k:=wkT [] (ih (k+1) hx1 _ _ nbF nbS o h C0))
   obtain rfl:=Xqp rfl
   rcases Xjk with ⟨_|_,Xf4⟩
   ·
    exact Xa [] (k:=wkT [] (ih (k+1) hx1 _ _ nbS nbF o h C0))
   obtain rfl:=Xf4 rfl
   exact Xa [] (k:=wkT [] (ih (k+1) hx1 _ _ nbS nbS o h C0))
  clear h;revert h150
  refine brI (fun h145=>?_) fun h145=>?_
  ·
   refine bI fun u146 h147=>?_
   intro h
   simp only[Option.some.injEq,Prod.mk.injEq] at h
   obtain⟨rfl,rfl⟩:=h
   exact Xa [Bt,.no] (o:=by repeat' first|apply Ya|exact pcM|(refine X1o h147 rfl ?_;first|(simp;done)|(simp;omega)|(simp[hc,h145];done)|(simp[hc,h145];omega))|(refine X0d h147 (by decide) ?_;first|(simp;done)|(simp;omega)|(simp[hc,h145];done)|(simp[hc,h145];omega))|exact X04) (k:=wkT [(0,4)] (X3.glue (J (nbF,nbS))))
  refine bI fun u148 h149=>?_
  intro h
  simp only[Option.some.injEq,Prod.mk.injEq] at h
  obtain⟨rfl,rfl⟩:=h
  exact Xa [Bf,.no] (o:=by repeat' first|apply Ya|exact pcM|(refine X1o h149 rfl ?_;first|(simp;done)|(simp;omega)|(simp[hc,h145];done)|(simp[hc,h145];omega))|(refine X0d h149 (by decide) ?_;first|(simp;done)|(simp;omega)|(simp[hc,h145];done)|(simp[hc,h145];omega))|exact X04) (k:=wkT [(1,4)] (X3.glue (J (nbS,nbF))))
end Go.Av.Tryz