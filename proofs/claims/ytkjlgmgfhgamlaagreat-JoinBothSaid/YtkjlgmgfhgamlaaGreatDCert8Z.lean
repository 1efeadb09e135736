/- Printed by decomp.py: that the program computes the functions. -/
import Derived.Test.YtkjlgmgfhgamlaaGreatDCert5Z
set_option linter.all false

namespace Go.Av.Tryz
open Go.Proofs Go.D
set_option maxRecDepth 10000
set_option maxHeartbeats 40000000
instance Xij:PCs Tryz.prog 136 (∀ (a0:(List X0v)) (r:(List X0v)),X4t a0=some r->X0g Tryz.prog 136 [(Lf (a0.map Xz))] (AV.list true (r.map Xz))):=⟨fun a0 r h=>by
 refine X0g.sym X6 X01i (nt:=8) rfl rfl ?_ okM
 unfold X4t at h
 revert h
 refine brI (fun q=>?_) fun q=>?_
 ·
  intro h
  have h1:a0=[]:=List.isEmpty_iff.1 q
  refine X0c [] ?_
  refine X3.eqNil X6 (may:=true) rfl rfl rfl rfl rfl rfl trivial (by simp[X5q, *]) fun b2 qb2=>?_
  cases b2
  ·
   revert h
   exact fun e=>oj e▸X8 [Bf,.ne false] (k:=fi)
  revert h
  exact fun e=>oj e▸X8 [Bt] (k:=fi)
 intro h
 have h1:¬ (a0=[]):=(fun e=>by rw[e] at q;cases q)
 refine X0c [] ?_
 refine X3.eqNil X6 (may:=false) rfl rfl rfl rfl rfl rfl trivial (by simp[X5q, *]) fun b3 qb3=>?_
 obtain rfl:=qb3 rfl
 revert h
 exact bI fun u4 h5=>fun e=>oj e▸X8 [Bf,.via (AV.list true (a0.map Xz))] (o:=by repeat' first|apply Ya|exact pcM|(refine X1t h5 rfl ?_;first|(simp;done)|(simp;omega)|(simp[h1];done)|(simp[h1];omega))|(refine X0f h5 (by decide) ?_;first|(simp;done)|(simp;omega)|(simp[h1];done)|(simp[h1];omega))|exact X07) (k:=fi)⟩
theorem X9k (a0:List X0v) (h1:a0=[]):X0g Tryz.prog 136 [(Lf (a0.map Xz))] AV.nils:=by
 refine X0g.sym X6 X01i (nt:=8) rfl rfl ?_ (X0x .list X77)
 refine X0c [] ?_
 refine X3.eqNil X6 (may:=true) rfl rfl rfl rfl rfl rfl trivial (by simp[X5q, *]) fun b2 qb2=>?_
 cases b2
 ·
  refine X0c [Bf,.ne false] ?_
  exact Xkm rfl .nils0
 refine X0c [Bt] ?_
 exact Xkm rfl .nils0
instance Xh5:PCs Tryz.prog 104 (∀ (a0:(List Int)) (r:(List Int)),X1h a0=some r->X0g Tryz.prog 104 [(Lf (List.map (aI .i64) a0))] (AV.list true (List.map (aI .i64) r))):=⟨fun a0 r h=>by
 refine X0g.sym X6 X01l (nt:=8) rfl rfl ?_ okM
 unfold X1h at h
 revert h
 refine brI (fun q=>?_) fun q=>?_
 ·
  intro h
  have h1:a0=[]:=List.isEmpty_iff.1 q
  refine X0c [] ?_
  refine X3.eqNil X6 (may:=true) rfl rfl rfl rfl rfl rfl trivial (by simp[X5q, *]) fun b2 qb2=>?_
  cases b2
  ·
   revert h
   exact fun e=>oj e▸X8 [Bf,.ne false] (k:=fi)
  revert h
  exact fun e=>oj e▸X8 [Bt] (k:=fi)
 intro h
 have h1:¬ (a0=[]):=(fun e=>by rw[e] at q;cases q)
 refine X0c [] ?_
 refine X3.eqNil X6 (may:=false) rfl rfl rfl rfl rfl rfl trivial (by simp[X5q, *]) fun b3 qb3=>?_
 obtain rfl:=qb3 rfl
 revert h
 exact bI fun u4 h5=>fun e=>oj e▸X8 [Bf,.via (AV.list true (List.map (aI .i64) a0))] (o:=by repeat' first|apply Ya|exact pcM|(refine X1t h5 rfl ?_;first|(simp;done)|(simp;omega)|(simp[h1];done)|(simp[h1];omega))|(refine X0f h5 (by decide) ?_;first|(simp;done)|(simp;omega)|(simp[h1];done)|(simp[h1];omega))|exact X07) (k:=fi)⟩
instance Xh7:PCs Tryz.prog 80 (∀ (a0:(List X2)) (r:(List X2)),X1j a0=some r->X0g Tryz.prog 80 [(Lf (a0.map X1))] (AV.list true (r.map X1))):=⟨fun a0 r h=>by
 refine X0g.sym X6 fn80 (nt:=8) rfl rfl ?_ okM
 unfold X1j at h
 revert h
 refine brI (fun q=>?_) fun q=>?_
 ·
  intro h
  have h1:a0=[]:=List.isEmpty_iff.1 q
  refine X0c [] ?_
  refine X3.eqNil X6 (may:=true) rfl rfl rfl rfl rfl rfl trivial (by simp[X5q, *]) fun b2 qb2=>?_
  cases b2
  ·
   revert h
   exact fun e=>oj e▸X8 [Bf,.ne false] (k:=fi)
  revert h
  exact fun e=>oj e▸X8 [Bt] (k:=fi)
 intro h
 have h1:¬ (a0=[]):=(fun e=>by rw[e] at q;cases q)
 refine X0c [] ?_
 refine X3.eqNil X6 (may:=false) rfl rfl rfl rfl rfl rfl trivial (by simp[X5q, *]) fun b3 qb3=>?_
 obtain rfl:=qb3 rfl
 revert h
 exact bI fun u4 h5=>fun e=>oj e▸X8 [Bf,.via (AV.list true (a0.map X1))] (o:=by repeat' first|apply Ya|exact pcM|(refine X1t h5 rfl ?_;first|(simp;done)|(simp;omega)|(simp[h1];done)|(simp[h1];omega))|(refine X0f h5 (by decide) ?_;first|(simp;done)|(simp;omega)|(simp[h1];done)|(simp[h1];omega))|exact X07) (k:=fi)⟩
instance Xh6:PCs Tryz.prog 137 (∀ (a0:(List X1b)) (r:(List X1b)),X1i a0=some r->X0g Tryz.prog 137 [(Lf (a0.map X05))] (AV.list true (r.map X05))):=⟨fun a0 r h=>by
 refine X0g.sym X6 X03n (nt:=8) rfl rfl ?_ okM
 unfold X1i at h
 revert h
 refine brI (fun q=>?_) fun q=>?_
 ·
  intro h
  have h1:a0=[]:=List.isEmpty_iff.1 q
  refine X0c [] ?_
  refine X3.eqNil X6 (may:=true) rfl rfl rfl rfl rfl rfl trivial (by simp[X5q, *]) fun b2 qb2=>?_
  cases b2
  ·
   revert h
   exact fun e=>oj e▸X8 [Bf,.ne false] (k:=fi)
  revert h
  exact fun e=>oj e▸X8 [Bt] (k:=fi)
 intro h
 have h1:¬ (a0=[]):=(fun e=>by rw[e] at q;cases q)
 refine X0c [] ?_
 refine X3.eqNil X6 (may:=false) rfl rfl rfl rfl rfl rfl trivial (by simp[X5q, *]) fun b3 qb3=>?_
 obtain rfl:=qb3 rfl
 revert h
 exact bI fun u4 h5=>fun e=>oj e▸X8 [Bf,.via (AV.list true (a0.map X05))] (o:=by repeat' first|apply Ya|exact pcM|(refine X1t h5 rfl ?_;first|(simp;done)|(simp;omega)|(simp[h1];done)|(simp[h1];omega))|(refine X0f h5 (by decide) ?_;first|(simp;done)|(simp;omega)|(simp[h1];done)|(simp[h1];omega))|exact X07) (k:=fi)⟩
instance Xjv:PCs Tryz.prog 138 (∀ (a0:(List X28)) (r:(List X28)),X2h a0=some r->X0g Tryz.prog 138 [(Lf (a0.map Xp))] (AV.list true (r.map Xp))):=⟨fun a0 r h=>by
 refine X0g.sym X6 X03m (nt:=8) rfl rfl ?_ okM
 unfold X2h at h
 revert h
 refine brI (fun q=>?_) fun q=>?_
 ·
  intro h
  have h1:a0=[]:=List.isEmpty_iff.1 q
  refine X0c [] ?_
  refine X3.eqNil X6 (may:=true) rfl rfl rfl rfl rfl rfl trivial (by simp[X5q, *]) fun b2 qb2=>?_
  cases b2
  ·
   revert h
   exact fun e=>oj e▸X8 [Bf,.ne false] (k:=fi)
  revert h
  exact fun e=>oj e▸X8 [Bt] (k:=fi)
 intro h
 have h1:¬ (a0=[]):=(fun e=>by rw[e] at q;cases q)
 refine X0c [] ?_
 refine X3.eqNil X6 (may:=false) rfl rfl rfl rfl rfl rfl trivial (by simp[X5q, *]) fun b3 qb3=>?_
 obtain rfl:=qb3 rfl
 revert h
 exact bI fun u4 h5=>fun e=>oj e▸X8 [Bf,.via (AV.list true (a0.map Xp))] (o:=by repeat' first|apply Ya|exact pcM|(refine X1t h5 rfl ?_;first|(simp;done)|(simp;omega)|(simp[h1];done)|(simp[h1];omega))|(refine X0f h5 (by decide) ?_;first|(simp;done)|(simp;omega)|(simp[h1];done)|(simp[h1];omega))|exact X07) (k:=fi)⟩
instance Xg2:PCs Tryz.prog 139 (∀ (a0:(List Xl)) (r:(List Xl)),X18 a0=some r->X0g Tryz.prog 139 [(Lf (a0.map Xy))] (AV.list true (r.map Xy))):=⟨fun a0 r h=>by
 refine X0g.sym X6 X03l (nt:=8) rfl rfl ?_ okM
 unfold X18 at h
 revert h
 refine brI (fun q=>?_) fun q=>?_
 ·
  intro h
  have h1:a0=[]:=List.isEmpty_iff.1 q
  refine X0c [] ?_
  refine X3.eqNil X6 (may:=true) rfl rfl rfl rfl rfl rfl trivial (by simp[X5q, *]) fun b2 qb2=>?_
  cases b2
  ·
   revert h
   exact fun e=>oj e▸X8 [Bf,.ne false] (k:=fi)
  revert h
  exact fun e=>oj e▸X8 [Bt] (k:=fi)
 intro h
 have h1:¬ (a0=[]):=(fun e=>by rw[e] at q;cases q)
 refine X0c [] ?_
 refine X3.eqNil X6 (may:=false) rfl rfl rfl rfl rfl rfl trivial (by simp[X5q, *]) fun b3 qb3=>?_
 obtain rfl:=qb3 rfl
 revert h
 exact bI fun u4 h5=>fun e=>oj e▸X8 [Bf,.via (AV.list true (a0.map Xy))] (o:=by repeat' first|apply Ya|exact pcM|(refine X1t h5 rfl ?_;first|(simp;done)|(simp;omega)|(simp[h1];done)|(simp[h1];omega))|(refine X0f h5 (by decide) ?_;first|(simp;done)|(simp;omega)|(simp[h1];done)|(simp[h1];omega))|exact X07) (k:=fi)⟩
instance Xx2:PCs Tryz.prog 63 (∀ (a0:X08) (a1:(List X0v)) (r:X08×Int),X4m a0 a1=some r->X0g Tryz.prog 63 [(Xe false a0),(Lf (a1.map Xz))] (AV.tup [(Xe true r.1),(aI .i64 r.2)])):=⟨fun a0 a1 r h=>by
 refine X0g.sym X6 fn63 (nt:=33) rfl rfl ?_ okM
 unfold X4m at h
 revert h
 refine bI fun v1 h2=>brI (fun h3=>fun e=>oj e▸X8 [.pure _ (aI .i64 v1),Bt] (k:=fi)) fun h3=>bI fun v4 h5=>brI (fun h6=>fun e=>oj e▸X8 [.pure _ (aI .i64 v1),Bf,.pure _ (aB v4),Bt] (k:=fi)) fun h6=>rnI [.pure _ (aI .i64 v1),Bf,.pure _ (aB v4),Bf,.el (aI .i64 (a1.length:Int)),.el (aI .i64 (a0.Pending.length:Int)),.wrap] ?_
 refine brI (fun h7=>fun e=>oj e▸X8 [Bt] (k:=fi)) fun h7=>rnI [Bf] ?_
 intro h
 refine X3.inline X6 X045 rfl rfl rfl rfl rfl trivial trivial rfl rfl ?_
 revert h
 refine brI (fun q=>?_) fun q=>?_
 ·
  intro h
  have h32:a0.Pending=[]:=List.isEmpty_iff.1 q
  revert h
  refine bI fun v33 h34=>bI fun v35 h36=>bI fun v37 h38=>bI fun v39 h40=>bI fun v41 h42=>rnI [.pure [(Lf (a0.Pending.map Xz))] AV.nils,.pure _ (AV.list true (List.map (aI .i64) v33)),.pure _ (AV.list true (v35.map X1)),.pure _ (AV.list true (v37.map X05)),.pure _ (AV.list true (v39.map Xp)),.pure _ (AV.list true (v41.map Xy))] (o:=by repeat' first|apply Ya|exact pcM|exact(pn (X9k _ (by simp[*])) (cc (X5m (X2m Xcm a0.Pending)) cn))|exact X07) ?_
  intro h
  refine X3.back (by intro id h;cases h) rfl ?_
  revert h
  refine brI (fun q=>?_) fun q=>?_
  ·
   intro h
   have h43:a1=[]:=List.isEmpty_iff.1 q
   revert h
   exact fun e=>oj e▸X8 [.ne false] (k:=fi)
  intro h
  have h43:¬ (a1=[]):=(fun e=>by rw[e] at q;cases q)
  revert h
  exact bI fun u44 h45=>fun e=>oj e▸X8 [.via (AV.list true (a1.map Xz))] (o:=by repeat' first|apply Ya|exact pcM|(refine X1t h45 rfl ?_;first|(simp;done)|(simp;omega)|(simp[h3,h6,h7,h32,h43];done)|(simp[h3,h6,h7,h32,h43];omega))|(refine X0f h45 (by decide) ?_;first|(simp;done)|(simp;omega)|(simp[h3,h6,h7,h32,h43];done)|(simp[h3,h6,h7,h32,h43];omega))|exact X07) (k:=fi)
 intro h
 have h32:¬ (a0.Pending=[]):=(fun e=>by rw[e] at q;cases q)
 revert h
 refine bI fun v46 h47=>bI fun v48 h49=>bI fun v50 h51=>bI fun v52 h53=>bI fun v54 h55=>bI fun v56 h57=>rnI [.pure _ (AV.list true (v46.map Xz)),.pure _ (AV.list true (List.map (aI .i64) v48)),.pure _ (AV.list true (v50.map X1)),.pure _ (AV.list true (v52.map X05)),.pure _ (AV.list true (v54.map Xp)),.pure _ (AV.list true (v56.map Xy))] ?_
 intro h
 refine X3.back (by intro id h;cases h) rfl ?_
 revert h
 refine brI (fun q=>?_) fun q=>?_
 ·
  intro h
  have h58:a1=[]:=List.isEmpty_iff.1 q
  revert h
  exact fun e=>oj e▸X8 [.ne false] (k:=fi)
 intro h
 have h58:¬ (a1=[]):=(fun e=>by rw[e] at q;cases q)
 revert h
 refine bI fun u59 h60=>?_
 intro h
 cases h⟩
instance Xsm:PCs Tryz.prog 94 (∀ (a0:Int) (r:Bool),X6h a0=some r->X0g Tryz.prog 94 [(aI .i64 a0)] (aB r)):=⟨fun a0 r h=>by
 refine X0g.sym X6 fn94 (nt:=7) rfl rfl ?_ okM
 unfold X6h at h
 revert h
 exact bI fun v1 h2=>fun e=>oj e▸X8 [.pure _ (aI .i64 v1)] (k:=fi)⟩
theorem Xet {Q:Xw->St->Mu->Prop} {μ:Mu} (Xgw:(List Int)) (hl:Xgw.length<=140737488355328):∀ (xs:List Int) (k:Nat) (hx:Xgw.drop k=xs) (o:X5y) (h:X44 Xgw xs k  = some o)
  (C0:o=X5y.x0->X3 Tryz.prog 27 0 Q (.exit (.exit 0)) [] ⟨fr [],hp ([]),0⟩ μ)
  (C1:o=X5y.x1->X3 Tryz.prog 27 0 Q (.exit .ret) [] ⟨fr [(2,(aI .i64 8))],hp ([]),0⟩ μ),
  X3 Tryz.prog 27 0 Q (.loop (X56 0 (Xb Tryz.f58))) [] ⟨fr [(13,(Lf (List.map (aI .i64) Xgw))),(14,(aI .i64 (Xgw.length:Int))),(15,(aI .i64 (k:Int)))],hp ([]),0⟩ μ:=by
 intro xs
 induction xs with
 |nil =>
  intro k hx  o h C0 C1
  have hk:=X1l hx
  have hc:decide ((k:Int)<(Xgw.length:Int))=false:=Yf (by omega)
  rw[X44] at h
  refine X3.round ?_
  revert h
  exact fun e=>X8 [Bf] (k:=wkT [] (C0  (oj e).symm))
 |cons x xs ih =>
  intro k hx  o h C0 C1
  obtain⟨hk,hg,hx1⟩:=X10 hx
  have hc:decide ((k:Int)<(Xgw.length:Int))=true:=Yt (by omega)
  rw[X44] at h
  refine X3.round ?_
  revert h
  refine bI fun Xsz h34=>rnI [Bt,.el (aI .i64 x),.stop 6] ?_
  intro h
  refine X3.join (s':=⟨fr [(13,(Lf (List.map (aI .i64) Xgw))),(14,(aI .i64 (Xgw.length:Int))),(15,(aI .i64 (k:Int))),(25,(aB Xsz))],hp ([]),0⟩) ?_ (fun J=>X3.cut ?_)
  ·
   revert h
   refine brI (fun h35=>fun e=>X8 [Bt] (k:=wkT [] (C1  (oj e).symm))) fun h35=>rnI [Bf] ?_
   intro h
   exact wkT [] (ih (k+1) hx1  o h C0 C1)
  clear h;revert h34
  refine brI (fun h31=>?_) fun h31=>?_
  ·
   refine bI fun v32 h33=>?_
   intro h
   obtain rfl:=oj h
   exact X8 [.go true,.go true,.pure _ (aB v32),.go true] (k:=wkT [] (X3.glue J))
  intro h
  obtain rfl:=oj h
  exact X8 [.go false,.go false,.go false] (k:=wkT [] (X3.glue J))
instance Xut:PCs Tryz.prog 58 (∀ (a0:(List Int)) (r:Int),X9f a0=some r->X0g Tryz.prog 58 [(Lf (List.map (aI .i64) a0))] (aI .i64 r)):=⟨fun a0 r h=>by
 refine X0g.sym X6 fn58 (nt:=27) rfl rfl ?_ okM
 unfold X9f at h
 revert h
 refine bI fun Xz6 h4=>rnI [.stop 1] ?_
 intro h
 refine X3.join (s':=⟨fr [(0,(Lf (List.map (aI .i64) a0))),(12,(aB Xz6))],hp ([]),0⟩) ?_ (fun J=>X3.cut ?_)
 ·
  revert h
  refine brI (fun h5=>fun e=>oj e▸X8 [Bt] (k:=fi)) fun h5=>bI fun u6 h7=>?_
  have qh7:=X12 h7
  refine bI fun o36 h37=>rnI [Bf,.el (aI .i64 (a0.length:Int))] ?_
  intro h
  refine wkT [] (X3.cut (Xet a0 qh7 a0 0 (by simp) _ h37 ?_ ?_))
  ·
   intro eo36;subst eo36
   refine X3.glue ?_
   try dsimp only at h
   revert h
   exact fun e=>oj e▸X8 [] (k:=fi)
  intro eo36;subst eo36
  refine X3.glue ?_
  try dsimp only at h
  revert h
  exact fun e=>oj e▸X8 [] (k:=fi)
 clear h;revert h4
 refine brI (fun h3=>?_) fun h3=>?_
 ·
  intro h
  obtain rfl:=oj h
  exact X8 [.el (aI .i64 (a0.length:Int)),.go false,.go false,.go false] (k:=wkT [] (X3.glue J))
 intro h
 obtain rfl:=oj h
 exact X8 [.el (aI .i64 (a0.length:Int)),.go true,.go true,.el (aI .i64 (a0.length:Int)),.go true] (k:=wkT [] (X3.glue J))⟩
theorem X8a {Q:Xw->St->Mu->Prop} {μ:Mu} (X0u:(List Int)):∀ (n:Nat) (Xkz:Int) (Xwz:Int) (o:X3e) (h:X0w X0u n Xkz Xwz=some o)
  (C0:∀ (Xj2:Int),o=X3e.x0 Xj2->X3 Tryz.prog 25 0 Q (.exit (.exit 0)) [] ⟨fr [(3,(aI .i64 Xj2))],hp ([]),0⟩ μ),
  X3 Tryz.prog 25 0 Q (.loop (X56 0 (Xb Tryz.f59))) [] ⟨fr [(0,(Lf (List.map (aI .i64) X0u))),(3,(aI .i64 Xkz)),(4,(aI .i64 Xwz))],hp ([]),0⟩ μ:=by
 intro n
 induction n with
 |zero=>intro Xkz Xwz o h C0;cases h
 |succ n ih =>
  intro Xkz Xwz o h C0
  rw[X0w] at h
  refine X3.round ?_
  revert h
  refine brI (fun h12=>?_) fun h12=>fun e=>X8 [.el (aI .i64 (X0u.length:Int)),Bf] (k:=wkT [] (C0 _  (oj e).symm))
  refine bI fun e13 h14=>?_
  try have qh14:=Xq h14
  refine rnI [.el (aI .i64 (X0u.length:Int)),Bt,.el (aI .i64 e13),.wrap] ?_
  intro h
  exact wkT [] (ih  _ _ o h C0)
instance Xii:PCs Tryz.prog 59 (∀ (a0:(List Int)) (r:Int),X22 a0=some r->X0g Tryz.prog 59 [(Lf (List.map (aI .i64) a0))] (aI .i64 r)):=⟨fun a0 r h=>by
 refine X0g.sym X6 fn59 (nt:=25) rfl rfl ?_ okM
 unfold X22 at h
 revert h
 refine brI (fun h2=>?_) fun h2=>?_
 ·
  intro h
  cases h
 refine bI fun e3 h4=>?_
 try have qh4:=Xq h4
 refine bI fun o15 h16=>rnI [.el (aI .i64 (a0.length:Int)),Bf,.el (aI .i64 e3)] ?_
 intro h
 refine wkT [] (X3.cut (X8a a0 _ _ _ _ h16 ?_))
 intro Xj2 eo15;subst eo15
 refine X3.glue ?_
 try dsimp only at h
 revert h
 exact fun e=>oj e▸X8 [] (k:=fi)⟩
instance Xus:PCs Tryz.prog 27 (∀ (a0:(List Int)) (r:Int×Int),X4g a0=some r->X0g Tryz.prog 27 [(Lf (List.map (aI .i64) a0))] (AV.tup [(aI .i64 r.1),(aI .i64 r.2)])):=⟨fun a0 r h=>by
 refine X0g.sym X6 fn27 (nt:=12) rfl rfl ?_ okM
 unfold X4g at h
 revert h
 exact bI fun v1 h2=>brI (fun h3=>fun e=>oj e▸X8 [.pure _ (aI .i64 v1),Bt] (k:=fi)) fun h3=>bI fun v4 h5=>fun e=>oj e▸X8 [.pure _ (aI .i64 v1),Bf,.pure _ (aI .i64 v4)] (k:=fi)⟩
instance Xur:PCs Tryz.prog 64 (∀ (a0:(List Int)) (a1:Int) (a2:Int) (r:(List Int)×Bool×Int),X7h a0 a1 a2=some r->X0g Tryz.prog 64 [(Lf (List.map (aI .i64) a0)),(aI .i64 a1),(aI .i64 a2)] (AV.tup [(AV.list true (List.map (aI .i64) r.1)),(aB r.2.1),(aI .i64 r.2.2)])):=⟨fun a0 a1 a2 r h=>by
 refine X0g.sym X6 fn64 (nt:=47) rfl rfl ?_ okM
 unfold X7h at h
 revert h
 refine bI fun v1 h2=>brI (fun h3=>fun e=>oj e▸X8 [.pure _ (AV.tup [(aI .i64 v1.1),(aI .i64 v1.2)]),Bt] (k:=fi)) fun h3=>bI fun Xyr h13=>rnI [.pure _ (AV.tup [(aI .i64 v1.1),(aI .i64 v1.2)]),Bf,.stop 4] ?_
 intro h
 refine X3.join (s':=⟨fr [(0,(Lf (List.map (aI .i64) a0))),(1,(aI .i64 a1)),(2,(aI .i64 a2)),(9,(aI .i64 v1.1)),(30,(aB Xyr))],hp ([]),0⟩) ?_ (fun J=>X3.cut ?_)
 ·
  revert h
  refine brI (fun h14=>fun e=>oj e▸X8 [Bt] (k:=fi)) fun h14=>bI fun Xhr h26=>rnI [Bf] ?_
  intro h
  refine X3.joinOpF (fun(q:Nb Xhr)=>⟨fr [(1,(aI .i64 a1)),(2,(aI .i64 a2)),(9,(aI .i64 v1.1)),(32,(slE q.1 0 (List.map (aI .i64) Xhr)))],hp ([]++opE q.1 0 1 (List.map (aI .i64) Xhr)),1⟩) ?_ (fun J=>?_)
  ·
   rintro Xsk
   rcases Xsk with ⟨_|_,Xtd⟩
   ·
    revert h
    refine bI fun e27 h28=>?_
    try have qh28:=Xq h28
    exact bI fun v29 h30=>fun e=>oj e▸X8 [.el (aI .i64 e27),.ld (aI .i64 e27),.el (aI .i64 e27),.ld (aI .i64 e27),.pure _ (aI .i64 v29)] (o:=by repeat' first|apply Ya|exact pcM|exact(List.getElem?_set_self (by have hq:=X6u h28;simp;omega)).trans rfl|exact X07) (k:=fi)
   obtain rfl:=Xtd rfl
   revert h
   refine bI fun e31 h32=>?_
   try have qh32:=Xq h32
   intro h
   exact absurd (h32) (by simp[X3b])
  clear h;revert h26
  intro h
  refine X3.inline X6 X01l rfl rfl rfl rfl rfl trivial trivial rfl rfl ?_
  revert h
  refine brI (fun q=>?_) fun q=>?_
  ·
   intro h
   have h21:a0=[]:=List.isEmpty_iff.1 q
   refine X0c [] ?_
   refine X3.eqNil X6 (may:=true) rfl rfl rfl rfl rfl rfl trivial (by simp[X5q, *]) fun b22 qb22=>?_
   cases b22
   ·
    obtain rfl:=oj h
    refine X0c [Bf,.ne false] ?_
    refine X3.back (by intro id h;cases h) rfl ?_
    exact wkT [] ((J nbS))
   obtain rfl:=oj h
   refine X0c [Bt] ?_
   refine X3.back (by intro id h;cases h) rfl ?_
   exact wkT [] ((J nbS))
  intro h
  have h21:¬ (a0=[]):=(fun e=>by rw[e] at q;cases q)
  refine X0c [] ?_
  refine X3.eqNil X6 (may:=false) rfl rfl rfl rfl rfl rfl trivial (by simp[X5q, *]) fun b23 qb23=>?_
  obtain rfl:=qb23 rfl
  revert h
  refine bI fun u24 h25=>?_
  intro h
  obtain rfl:=oj h
  refine X0c [Bf,.via (AV.list true (List.map (aI .i64) a0))] (o:=by repeat' first|apply Ya|exact pcM|(refine X1t h25 rfl ?_;first|(simp;done)|(simp;omega)|(simp[h3,h14,h21];done)|(simp[h3,h14,h21];omega))|(refine X0f h25 (by decide) ?_;first|(simp;done)|(simp;omega)|(simp[h3,h14,h21];done)|(simp[h3,h14,h21];omega))|exact X07) ?_
  refine X3.back (by intro id h;cases h) rfl ?_
  exact wkT [(0,1)] ((J nbF))
 clear h;revert h13
 refine brI (fun h9=>?_) fun h9=>?_
 ·
  intro h
  obtain rfl:=oj h
  exact X8 [.go false,.go false,.go false,.go false,.go false,.go false,.go false] (o:=by repeat' first|apply Ya|exact pcM|exact((X9 h9 rfl))|exact(Xr (X9 h9 rfl))|exact(X8r (X9 h9 rfl))|exact X07) (k:=wkT [] (X3.glue J))
 refine brI (fun h10=>?_) fun h10=>?_
 ·
  intro h
  obtain rfl:=oj h
  exact X8 [.go true,.go true,.go true,.el (aI .i64 (a0.length:Int)),.go true,.go false,.go false,.go false] (o:=by repeat' first|apply Ya|exact pcM|exact((Xm h9 h10))|exact(Xr (Xm h9 h10))|exact(X8r (Xm h9 h10))|exact X07) (k:=wkT [] (X3.glue J))
 refine bI fun v11 h12=>?_
 intro h
 obtain rfl:=oj h
 exact X8 [.go true,.go true,.go true,.el (aI .i64 (a0.length:Int)),.go true,.go true,.go true,.pure _ (aB v11),.go true] (o:=by repeat' first|apply Ya|exact pcM|exact((Xm h9 h10))|exact(Xr (Xm h9 h10))|exact(Xi8 (Xm h9 h10))|exact X07) (k:=wkT [] (X3.glue J))⟩
theorem Xg1 {Q:Xw->St->Mu->Prop} {μ:Mu} (X8s:Int) (X2y:(List X2)) (hl:X2y.length<=140737488355328):∀ (xs:List X2) (k:Nat) (hx:X2y.drop k=xs) (Xj:(List X2)) (Xh:(List X2)) (X20:Nb Xj) (Xs:Nb Xh) (o:X94) (h:X3p X8s X2y xs k Xj Xh=some o)
  (C0:∀ (X06:(List X2)) (X0i:(List X2)) (X0o:Nb X06) (X19:Nb X0i),o=X94.x0 X06 X0i->X3 Tryz.prog 37 0 Q (.exit (.exit 0)) [] ⟨fr [(4,(slE X0o.1 0 (X06.map X1))),(5,(slE X19.1 1 (X0i.map X1)))],hp ([]++opE X0o.1 0 11 (X06.map X1)++opE X19.1 1 11 (X0i.map X1)),2⟩ μ),
  X3 Tryz.prog 37 0 Q (.loop (X56 0 (Xb Tryz.f65))) [] ⟨fr [(1,(aI .i64 X8s)),(4,(slE X20.1 0 (Xj.map X1))),(5,(slE Xs.1 1 (Xh.map X1))),(15,(Lf (X2y.map X1))),(16,(aI .i64 (X2y.length:Int))),(17,(aI .i64 (k:Int)))],hp ([]++opE X20.1 0 11 (Xj.map X1)++opE Xs.1 1 11 (Xh.map X1)),2⟩ μ:=by
 intro xs
 induction xs with
 |nil =>
  intro k hx Xj Xh X20 Xs o h C0
  have hk:=X1l hx
  have hc:decide ((k:Int)<(X2y.length:Int))=false:=Yf (by omega)
  rw[X3p] at h
  rcases X20 with ⟨_|_,X5g⟩
  ·
   rcases Xs with ⟨_|_,X0h⟩
   ·
    refine X3.round ?_
    revert h
    exact fun e=>X8 [Bf] (k:=wkT [] (C0 _ _  nbF nbF (oj e).symm))
   obtain rfl:=X0h rfl
   refine X3.round ?_
   revert h
   exact fun e=>X8 [Bf] (k:=wkT [] (C0 _ _  nbF nbS (oj e).symm))
  ·
   obtain rfl:=X5g rfl
   rcases Xs with ⟨_|_,X0h⟩
   ·
    refine X3.round ?_
    revert h
    exact fun e=>X8 [Bf] (k:=wkT [] (C0 _ _  nbS nbF (oj e).symm))
   ·
    obtain rfl:=X0h rfl
    refine X3.round ?_
    revert h
    exact fun e=>X8 [Bf] (k:=wkT [] (C0 _ _  nbS nbS (oj e).symm))
 |cons x xs ih =>
  intro k hx Xj Xh X20 Xs o h C0
  obtain⟨hk,hg,hx1⟩:=X10 hx
  have hc:decide ((k:Int)<(X2y.length:Int))=true:=Yt (by omega)
  rw[X3p] at h
  rcases X20 with ⟨_|_,X5g⟩
  ·
   rcases Xs with ⟨_|_,X0h⟩
   ·
    refine X3.round ?_
    revert h
    refine bI fun w108 h114=>?_
    intro h
    obtain⟨Xnw,Xnv⟩:=w108
    try dsimp only at h
    refine X0c [Bt,.el (X1 x)] ?_
    refine X3.joinF (fun(q:Nb Xnw×Nb Xnv)=>⟨fr [(1,(aI .i64 X8s)),(4,(slE q.1.1 0 (Xnw.map X1))),(5,(slE q.2.1 1 (Xnv.map X1))),(15,(Lf (X2y.map X1))),(16,(aI .i64 (X2y.length:Int))),(17,(aI .i64 (k:Int)))],hp ([]++opE q.1.1 0 11 (Xnw.map X1)++opE q.2.1 1 11 (Xnv.map X1)),2⟩) ?_ (fun J=>X3.cut ?_)
    ·
     rintro⟨Xq4,Xjg⟩
     rcases Xq4 with ⟨_|_,Xqi⟩
     ·
      rcases Xjg with ⟨_|_,Xf7⟩
      ·
       exact X8 [] (k:=wkT [] (ih (k+1) hx1 _ _ nbF nbF o h C0))
      obtain rfl:=Xf7 rfl
      exact X8 [] (k:=wkT [] (ih (k+1) hx1 _ _ nbF nbS o h C0))
     obtain rfl:=Xqi rfl
     rcases Xjg with ⟨_|_,Xf7⟩
     ·
      exact X8 [] (k:=wkT [] (ih (k+1) hx1 _ _ nbS nbF o h C0))
     obtain rfl:=Xf7 rfl
     exact X8 [] (k:=wkT [] (ih (k+1) hx1 _ _ nbS nbS o h C0))
    clear h;revert h114
    refine brI (fun h109=>?_) fun h109=>?_
    ·
     refine bI fun u110 h111=>?_
     intro h
     simp only[Option.some.injEq,Prod.mk.injEq] at h
     obtain⟨rfl,rfl⟩:=h
     exact X8 [Bt,.no] (o:=by repeat' first|apply Ya|exact pcM|(refine X1t h111 rfl ?_;first|(simp;done)|(simp;omega)|(simp[hc,h109];done)|(simp[hc,h109];omega))|(refine X0f h111 (by decide) ?_;first|(simp;done)|(simp;omega)|(simp[hc,h109];done)|(simp[hc,h109];omega))|exact X07) (k:=wkT [(0,4)] (X3.glue (J (nbF,nbF))))
    refine bI fun u112 h113=>?_
    intro h
    simp only[Option.some.injEq,Prod.mk.injEq] at h
    obtain⟨rfl,rfl⟩:=h
    exact X8 [Bf,.no] (o:=by repeat' first|apply Ya|exact pcM|(refine X1t h113 rfl ?_;first|(simp;done)|(simp;omega)|(simp[hc,h109];done)|(simp[hc,h109];omega))|(refine X0f h113 (by decide) ?_;first|(simp;done)|(simp;omega)|(simp[hc,h109];done)|(simp[hc,h109];omega))|exact X07) (k:=wkT [(1,4)] (X3.glue (J (nbF,nbF))))
   obtain rfl:=X0h rfl
   refine X3.round ?_
   revert h
   refine bI fun w120 h126=>?_
   intro h
   obtain⟨Xnu,Xnt⟩:=w120
   try dsimp only at h
   refine X0c [Bt,.el (X1 x)] ?_
   refine X3.joinF (fun(q:Nb Xnu×Nb Xnt)=>⟨fr [(1,(aI .i64 X8s)),(4,(slE q.1.1 0 (Xnu.map X1))),(5,(slE q.2.1 1 (Xnt.map X1))),(15,(Lf (X2y.map X1))),(16,(aI .i64 (X2y.length:Int))),(17,(aI .i64 (k:Int)))],hp ([]++opE q.1.1 0 11 (Xnu.map X1)++opE q.2.1 1 11 (Xnt.map X1)),2⟩) ?_ (fun J=>X3.cut ?_)
   ·
    rintro⟨Xq3,Xjf⟩
    rcases Xq3 with ⟨_|_,Xqh⟩
    ·
     rcases Xjf with ⟨_|_,Xf6⟩
     ·
      exact X8 [] (k:=wkT [] (ih (k+1) hx1 _ _ nbF nbF o h C0))
     obtain rfl:=Xf6 rfl
     exact X8 [] (k:=wkT [] (ih (k+1) hx1 _ _ nbF nbS o h C0))
    obtain rfl:=Xqh rfl
    rcases Xjf with ⟨_|_,Xf6⟩
    ·
     exact X8 [] (k:=wkT [] (ih (k+1) hx1 _ _ nbS nbF o h C0))
    obtain rfl:=Xf6 rfl
    exact X8 [] (k:=wkT [] (ih (k+1) hx1 _ _ nbS nbS o h C0))
   clear h;revert h126
   refine brI (fun h121=>?_) fun h121=>?_
   ·
    refine bI fun u122 h123=>?_
    intro h
    simp only[Option.some.injEq,Prod.mk.injEq] at h
    obtain⟨rfl,rfl⟩:=h
    exact X8 [Bt,.no] (o:=by repeat' first|apply Ya|exact pcM|(refine X1t h123 rfl ?_;first|(simp;done)|(simp;omega)|(simp[hc,h121];done)|(simp[hc,h121];omega))|(refine X0f h123 (by decide) ?_;first|(simp;done)|(simp;omega)|(simp[hc,h121];done)|(simp[hc,h121];omega))|exact X07) (k:=wkT [(0,4)] (X3.glue (J (nbF,nbS))))
   refine bI fun u124 h125=>?_
   intro h
   simp only[Option.some.injEq,Prod.mk.injEq] at h
   obtain⟨rfl,rfl⟩:=h
   exact X8 [Bf,.no] (o:=by repeat' first|apply Ya|exact pcM|(refine X1t h125 rfl ?_;first|(simp;done)|(simp;omega)|(simp[hc,h121];done)|(simp[hc,h121];omega))|(refine X0f h125 (by decide) ?_;first|(simp;done)|(simp;omega)|(simp[hc,h121];done)|(simp[hc,h121];omega))|exact X07) (k:=wkT [(1,4)] (X3.glue (J (nbF,nbF))))
  obtain rfl:=X5g rfl
  rcases Xs with ⟨_|_,X0h⟩
  ·
   refine X3.round ?_
   revert h
   refine bI fun w132 h138=>?_
   intro h
   obtain⟨Xnr,Xnq⟩:=w132
   try dsimp only at h
   refine X0c [Bt,.el (X1 x)] ?_
   refine X3.joinF (fun(q:Nb Xnr×Nb Xnq)=>⟨fr [(1,(aI .i64 X8s)),(4,(slE q.1.1 0 (Xnr.map X1))),(5,(slE q.2.1 1 (Xnq.map X1))),(15,(Lf (X2y.map X1))),(16,(aI .i64 (X2y.length:Int))),(17,(aI .i64 (k:Int)))],hp ([]++opE q.1.1 0 11 (Xnr.map X1)++opE q.2.1 1 11 (Xnq.map X1)),2⟩) ?_ (fun J=>X3.cut ?_)
   ·
    rintro⟨Xq2,Xje⟩
    rcases Xq2 with ⟨_|_,Xqg⟩
    ·
     rcases Xje with ⟨_|_,Xf5⟩
     ·
      exact X8 [] (k:=wkT [] (ih (k+1) hx1 _ _ nbF nbF o h C0))
     obtain rfl:=Xf5 rfl
     exact X8 [] (k:=wkT [] (ih (k+1) hx1 _ _ nbF nbS o h C0))
    obtain rfl:=Xqg rfl
    rcases Xje with ⟨_|_,Xf5⟩
    ·
     exact X8 [] (k:=wkT [] (ih (k+1) hx1 _ _ nbS nbF o h C0))
    obtain rfl:=Xf5 rfl
    exact X8 [] (k:=wkT [] (ih (k+1) hx1 _ _ nbS nbS o h C0))
   clear h;revert h138
   refine brI (fun h133=>?_) fun h133=>?_
   ·
    refine bI fun u134 h135=>?_
    intro h
    simp only[Option.some.injEq,Prod.mk.injEq] at h
    obtain⟨rfl,rfl⟩:=h
    exact X8 [Bt,.no] (o:=by repeat' first|apply Ya|exact pcM|(refine X1t h135 rfl ?_;first|(simp;done)|(simp;omega)|(simp[hc,h133];done)|(simp[hc,h133];omega))|(refine X0f h135 (by decide) ?_;first|(simp;done)|(simp;omega)|(simp[hc,h133];done)|(simp[hc,h133];omega))|exact X07) (k:=wkT [(0,4)] (X3.glue (J (nbF,nbF))))
   refine bI fun u136 h137=>?_
   intro h
   simp only[Option.some.injEq,Prod.mk.injEq] at h
   obtain⟨rfl,rfl⟩:=h
   exact X8 [Bf,.no] (o:=by repeat' first|apply Ya|exact pcM|(refine X1t h137 rfl ?_;first|(simp;done)|(simp;omega)|(simp[hc,h133];done)|(simp[hc,h133];omega))|(refine X0f h137 (by decide) ?_;first|(simp;done)|(simp;omega)|(simp[hc,h133];done)|(simp[hc,h133];omega))|exact X07) (k:=wkT [(1,4)] (X3.glue (J (nbS,nbF))))
  obtain rfl:=X0h rfl
  refine X3.round ?_
  revert h
  refine bI fun w144 h150=>?_
  intro h
  obtain⟨Xnp,Xno⟩:=w144
  try dsimp only at h
  refine X0c [Bt,.el (X1 x)] ?_
  refine X3.joinF (fun(q:Nb Xnp×Nb Xno)=>⟨fr [(1,(aI .i64 X8s)),(4,(slE q.1.1 0 (Xnp.map X1))),(5,(slE q.2.1 1 (Xno.map X1))),(15,(Lf (X2y.map X1))),(16,(aI .i64 (X2y.length:Int))),(17,(aI .i64 (k:Int)))],hp ([]++opE q.1.1 0 11 (Xnp.map X1)++opE q.2.1 1 11 (Xno.map X1)),2⟩) ?_ (fun J=>X3.cut ?_)
  ·
   rintro⟨Xq1,Xjd⟩
   rcases Xq1 with ⟨_|_,Xqf⟩
   ·
    rcases Xjd with ⟨_|_,Xf4⟩
    ·
     exact X8 [] (k:=wkT [] (ih (k+1) hx1 _ _ nbF nbF o h C0))
    obtain rfl:=Xf4 rfl
    exact X8 [] (k:=wkT [] (ih (k+1) hx1 _ _ nbF nbS o h C0))
   obtain rfl:=Xqf rfl
   rcases Xjd with ⟨_|_,Xf4⟩
   ·
    exact X8 [] (k:=wkT [] (ih (k+1) hx1 _ _ nbS nbF o h C0))
   obtain rfl:=Xf4 rfl
   exact X8 [] (k:=wkT [] (ih (k+1) hx1 _ _ nbS nbS o h C0))
  clear h;revert h150
  refine brI (fun h145=>?_) fun h145=>?_
  ·
   refine bI fun u146 h147=>?_
   intro h
   simp only[Option.some.injEq,Prod.mk.injEq] at h
   obtain⟨rfl,rfl⟩:=h
   exact X8 [Bt,.no] (o:=by repeat' first|apply Ya|exact pcM|(refine X1t h147 rfl ?_;first|(simp;done)|(simp;omega)|(simp[hc,h145];done)|(simp[hc,h145];omega))|(refine X0f h147 (by decide) ?_;first|(simp;done)|(simp;omega)|(simp[hc,h145];done)|(simp[hc,h145];omega))|exact X07) (k:=wkT [(0,4)] (X3.glue (J (nbF,nbS))))
  refine bI fun u148 h149=>?_
  intro h
  simp only[Option.some.injEq,Prod.mk.injEq] at h
  obtain⟨rfl,rfl⟩:=h
  exact X8 [Bf,.no] (o:=by repeat' first|apply Ya|exact pcM|(refine X1t h149 rfl ?_;first|(simp;done)|(simp;omega)|(simp[hc,h145];done)|(simp[hc,h145];omega))|(refine X0f h149 (by decide) ?_;first|(simp;done)|(simp;omega)|(simp[hc,h145];done)|(simp[hc,h145];omega))|exact X07) (k:=wkT [(1,4)] (X3.glue (J (nbS,nbF))))
end Go.Av.Tryz