/- Printed by decomp.py: that the program computes the functions. -/
import Derived.Test.YtkjlgmgfhgamlaaGreatDCert5Z
set_option linter.all false

namespace Go.Av.Tryz
open Go.Proofs Go.D
set_option maxRecDepth 10000
set_option maxHeartbeats 40000000
instance Xi8:PCs Tryz.prog 136 (∀ (a0:(List X13)) (r:(List X13)),X4u a0=some r->X0l Tryz.prog 136 [(Lf (a0.map X08))] (AV.list true (r.map X08))):=⟨fun a0 r h=>by
 refine X0l.sym X6 X01l (nt:=8) rfl rfl ?_ okM
 unfold X4u at h
 revert h
 refine brI (fun q=>?_) fun q=>?_
 ·
  intro h
  have h1:a0=[]:=List.isEmpty_iff.1 q
  refine X0g [] ?_
  refine X3.eqNil X6 (may:=true) rfl rfl rfl rfl rfl rfl trivial (by simp[X5s, *]) fun b2 qb2=>?_
  cases b2
  ·
   revert h
   exact fun e=>oj e▸X9 [Bf,.ne false] (k:=fi)
  revert h
  exact fun e=>oj e▸X9 [Bt] (k:=fi)
 intro h
 have h1:¬ (a0=[]):=(fun e=>by rw[e] at q;cases q)
 refine X0g [] ?_
 refine X3.eqNil X6 (may:=false) rfl rfl rfl rfl rfl rfl trivial (by simp[X5s, *]) fun b3 qb3=>?_
 obtain rfl:=qb3 rfl
 revert h
 exact bI fun u4 h5=>fun e=>oj e▸X9 [Bf,.via (AV.list true (a0.map X08))] (o:=by repeat' first|apply Ya|exact pcM|(refine Xd h5 rfl ?_;first|(simp;done)|(simp;omega)|(simp[h1];done)|(simp[h1];omega))|(refine X7 h5 (by decide) ?_;first|(simp;done)|(simp;omega)|(simp[h1];done)|(simp[h1];omega))|exact Xu) (k:=fi)⟩
theorem X9b (a0:List X13) (h1:a0=[]):X0l Tryz.prog 136 [(Lf (a0.map X08))] AV.nils:=by
 refine X0l.sym X6 X01l (nt:=8) rfl rfl ?_ (X0y .list X76)
 refine X0g [] ?_
 refine X3.eqNil X6 (may:=true) rfl rfl rfl rfl rfl rfl trivial (by simp[X5s, *]) fun b2 qb2=>?_
 cases b2
 ·
  refine X0g [Bf,.ne false] ?_
  exact Xkh rfl .nils0
 refine X0g [Bt] ?_
 exact Xkh rfl .nils0
instance Xgv:PCs Tryz.prog 104 (∀ (a0:(List Int)) (r:(List Int)),X1m a0=some r->X0l Tryz.prog 104 [(Lf (List.map (aI .i64) a0))] (AV.list true (List.map (aI .i64) r))):=⟨fun a0 r h=>by
 refine X0l.sym X6 X01o (nt:=8) rfl rfl ?_ okM
 unfold X1m at h
 revert h
 refine brI (fun q=>?_) fun q=>?_
 ·
  intro h
  have h1:a0=[]:=List.isEmpty_iff.1 q
  refine X0g [] ?_
  refine X3.eqNil X6 (may:=true) rfl rfl rfl rfl rfl rfl trivial (by simp[X5s, *]) fun b2 qb2=>?_
  cases b2
  ·
   revert h
   exact fun e=>oj e▸X9 [Bf,.ne false] (k:=fi)
  revert h
  exact fun e=>oj e▸X9 [Bt] (k:=fi)
 intro h
 have h1:¬ (a0=[]):=(fun e=>by rw[e] at q;cases q)
 refine X0g [] ?_
 refine X3.eqNil X6 (may:=false) rfl rfl rfl rfl rfl rfl trivial (by simp[X5s, *]) fun b3 qb3=>?_
 obtain rfl:=qb3 rfl
 revert h
 exact bI fun u4 h5=>fun e=>oj e▸X9 [Bf,.via (AV.list true (List.map (aI .i64) a0))] (o:=by repeat' first|apply Ya|exact pcM|(refine Xd h5 rfl ?_;first|(simp;done)|(simp;omega)|(simp[h1];done)|(simp[h1];omega))|(refine X7 h5 (by decide) ?_;first|(simp;done)|(simp;omega)|(simp[h1];done)|(simp[h1];omega))|exact Xu) (k:=fi)⟩
instance Xgx:PCs Tryz.prog 80 (∀ (a0:(List X2)) (r:(List X2)),X1o a0=some r->X0l Tryz.prog 80 [(Lf (a0.map X1))] (AV.list true (r.map X1))):=⟨fun a0 r h=>by
 refine X0l.sym X6 fn80 (nt:=8) rfl rfl ?_ okM
 unfold X1o at h
 revert h
 refine brI (fun q=>?_) fun q=>?_
 ·
  intro h
  have h1:a0=[]:=List.isEmpty_iff.1 q
  refine X0g [] ?_
  refine X3.eqNil X6 (may:=true) rfl rfl rfl rfl rfl rfl trivial (by simp[X5s, *]) fun b2 qb2=>?_
  cases b2
  ·
   revert h
   exact fun e=>oj e▸X9 [Bf,.ne false] (k:=fi)
  revert h
  exact fun e=>oj e▸X9 [Bt] (k:=fi)
 intro h
 have h1:¬ (a0=[]):=(fun e=>by rw[e] at q;cases q)
 refine X0g [] ?_
 refine X3.eqNil X6 (may:=false) rfl rfl rfl rfl rfl rfl trivial (by simp[X5s, *]) fun b3 qb3=>?_
 obtain rfl:=qb3 rfl
 revert h
 exact bI fun u4 h5=>fun e=>oj e▸X9 [Bf,.via (AV.list true (a0.map X1))] (o:=by repeat' first|apply Ya|exact pcM|(refine Xd h5 rfl ?_;first|(simp;done)|(simp;omega)|(simp[h1];done)|(simp[h1];omega))|(refine X7 h5 (by decide) ?_;first|(simp;done)|(simp;omega)|(simp[h1];done)|(simp[h1];omega))|exact Xu) (k:=fi)⟩
instance Xgw:PCs Tryz.prog 137 (∀ (a0:(List X1e)) (r:(List X1e)),X1n a0=some r->X0l Tryz.prog 137 [(Lf (a0.map X0i))] (AV.list true (r.map X0i))):=⟨fun a0 r h=>by
 refine X0l.sym X6 X03r (nt:=8) rfl rfl ?_ okM
 unfold X1n at h
 revert h
 refine brI (fun q=>?_) fun q=>?_
 ·
  intro h
  have h1:a0=[]:=List.isEmpty_iff.1 q
  refine X0g [] ?_
  refine X3.eqNil X6 (may:=true) rfl rfl rfl rfl rfl rfl trivial (by simp[X5s, *]) fun b2 qb2=>?_
  cases b2
  ·
   revert h
   exact fun e=>oj e▸X9 [Bf,.ne false] (k:=fi)
  revert h
  exact fun e=>oj e▸X9 [Bt] (k:=fi)
 intro h
 have h1:¬ (a0=[]):=(fun e=>by rw[e] at q;cases q)
 refine X0g [] ?_
 refine X3.eqNil X6 (may:=false) rfl rfl rfl rfl rfl rfl trivial (by simp[X5s, *]) fun b3 qb3=>?_
 obtain rfl:=qb3 rfl
 revert h
 exact bI fun u4 h5=>fun e=>oj e▸X9 [Bf,.via (AV.list true (a0.map X0i))] (o:=by repeat' first|apply Ya|exact pcM|(refine Xd h5 rfl ?_;first|(simp;done)|(simp;omega)|(simp[h1];done)|(simp[h1];omega))|(refine X7 h5 (by decide) ?_;first|(simp;done)|(simp;omega)|(simp[h1];done)|(simp[h1];omega))|exact Xu) (k:=fi)⟩
instance Xjn:PCs Tryz.prog 138 (∀ (a0:(List X1r)) (r:(List X1r)),X2k a0=some r->X0l Tryz.prog 138 [(Lf (a0.map Xe))] (AV.list true (r.map Xe))):=⟨fun a0 r h=>by
 refine X0l.sym X6 X03q (nt:=8) rfl rfl ?_ okM
 unfold X2k at h
 revert h
 refine brI (fun q=>?_) fun q=>?_
 ·
  intro h
  have h1:a0=[]:=List.isEmpty_iff.1 q
  refine X0g [] ?_
  refine X3.eqNil X6 (may:=true) rfl rfl rfl rfl rfl rfl trivial (by simp[X5s, *]) fun b2 qb2=>?_
  cases b2
  ·
   revert h
   exact fun e=>oj e▸X9 [Bf,.ne false] (k:=fi)
  revert h
  exact fun e=>oj e▸X9 [Bt] (k:=fi)
 intro h
 have h1:¬ (a0=[]):=(fun e=>by rw[e] at q;cases q)
 refine X0g [] ?_
 refine X3.eqNil X6 (may:=false) rfl rfl rfl rfl rfl rfl trivial (by simp[X5s, *]) fun b3 qb3=>?_
 obtain rfl:=qb3 rfl
 revert h
 exact bI fun u4 h5=>fun e=>oj e▸X9 [Bf,.via (AV.list true (a0.map Xe))] (o:=by repeat' first|apply Ya|exact pcM|(refine Xd h5 rfl ?_;first|(simp;done)|(simp;omega)|(simp[h1];done)|(simp[h1];omega))|(refine X7 h5 (by decide) ?_;first|(simp;done)|(simp;omega)|(simp[h1];done)|(simp[h1];omega))|exact Xu) (k:=fi)⟩
instance Xft:PCs Tryz.prog 139 (∀ (a0:(List Xm)) (r:(List Xm)),X1c a0=some r->X0l Tryz.prog 139 [(Lf (a0.map Xc))] (AV.list true (r.map Xc))):=⟨fun a0 r h=>by
 refine X0l.sym X6 X03p (nt:=8) rfl rfl ?_ okM
 unfold X1c at h
 revert h
 refine brI (fun q=>?_) fun q=>?_
 ·
  intro h
  have h1:a0=[]:=List.isEmpty_iff.1 q
  refine X0g [] ?_
  refine X3.eqNil X6 (may:=true) rfl rfl rfl rfl rfl rfl trivial (by simp[X5s, *]) fun b2 qb2=>?_
  cases b2
  ·
   revert h
   exact fun e=>oj e▸X9 [Bf,.ne false] (k:=fi)
  revert h
  exact fun e=>oj e▸X9 [Bt] (k:=fi)
 intro h
 have h1:¬ (a0=[]):=(fun e=>by rw[e] at q;cases q)
 refine X0g [] ?_
 refine X3.eqNil X6 (may:=false) rfl rfl rfl rfl rfl rfl trivial (by simp[X5s, *]) fun b3 qb3=>?_
 obtain rfl:=qb3 rfl
 revert h
 exact bI fun u4 h5=>fun e=>oj e▸X9 [Bf,.via (AV.list true (a0.map Xc))] (o:=by repeat' first|apply Ya|exact pcM|(refine Xd h5 rfl ?_;first|(simp;done)|(simp;omega)|(simp[h1];done)|(simp[h1];omega))|(refine X7 h5 (by decide) ?_;first|(simp;done)|(simp;omega)|(simp[h1];done)|(simp[h1];omega))|exact Xu) (k:=fi)⟩
instance Xww:PCs Tryz.prog 63 (∀ (a0:X0b) (a1:(List X13)) (r:X0b×Int),X3d a0 a1=some r->X0l Tryz.prog 63 [(Xk false a0),(Lf (a1.map X08))] (AV.tup [(Xk true r.1),(aI .i64 r.2)])):=⟨fun a0 a1 r h=>by
 refine X0l.sym X6 fn63 (nt:=33) rfl rfl ?_ okM
 unfold X3d at h
 revert h
 refine bI fun v1 h2=>brI (fun h3=>fun e=>oj e▸X9 [.pure _ (aI .i64 v1),Bt] (k:=fi)) fun h3=>bI fun v4 h5=>brI (fun h6=>fun e=>oj e▸X9 [.pure _ (aI .i64 v1),Bf,.pure _ (aB v4),Bt] (k:=fi)) fun h6=>rnI [.pure _ (aI .i64 v1),Bf,.pure _ (aB v4),Bf,.el (aI .i64 (a1.length:Int)),.el (aI .i64 (a0.Pending.length:Int)),.wrap] ?_
 refine brI (fun h7=>fun e=>oj e▸X9 [Bt] (k:=fi)) fun h7=>rnI [Bf] ?_
 intro h
 refine X3.inline X6 X049 rfl rfl rfl rfl rfl trivial trivial rfl rfl ?_
 revert h
 refine brI (fun q=>?_) fun q=>?_
 ·
  intro h
  have h32:a0.Pending=[]:=List.isEmpty_iff.1 q
  revert h
  refine bI fun v33 h34=>bI fun v35 h36=>bI fun v37 h38=>bI fun v39 h40=>bI fun v41 h42=>rnI [.pure [(Lf (a0.Pending.map X08))] AV.nils,.pure _ (AV.list true (List.map (aI .i64) v33)),.pure _ (AV.list true (v35.map X1)),.pure _ (AV.list true (v37.map X0i)),.pure _ (AV.list true (v39.map Xe)),.pure _ (AV.list true (v41.map Xc))] (o:=by repeat' first|apply Ya|exact pcM|exact(pn (X9b _ (by simp[*])) (cc (X5o (X2o Xck a0.Pending)) cn))|exact Xu) ?_
  intro h
  refine X3.back (by intro id h;cases h) rfl ?_
  revert h
  refine brI (fun q=>?_) fun q=>?_
  ·
   intro h
   have h43:a1=[]:=List.isEmpty_iff.1 q
   revert h
   exact fun e=>oj e▸X9 [.ne false] (k:=fi)
  intro h
  have h43:¬ (a1=[]):=(fun e=>by rw[e] at q;cases q)
  revert h
  exact bI fun u44 h45=>fun e=>oj e▸X9 [.via (AV.list true (a1.map X08))] (o:=by repeat' first|apply Ya|exact pcM|(refine Xd h45 rfl ?_;first|(simp;done)|(simp;omega)|(simp[h3,h6,h7,h32,h43];done)|(simp[h3,h6,h7,h32,h43];omega))|(refine X7 h45 (by decide) ?_;first|(simp;done)|(simp;omega)|(simp[h3,h6,h7,h32,h43];done)|(simp[h3,h6,h7,h32,h43];omega))|exact Xu) (k:=fi)
 intro h
 have h32:¬ (a0.Pending=[]):=(fun e=>by rw[e] at q;cases q)
 revert h
 refine bI fun v46 h47=>bI fun v48 h49=>bI fun v50 h51=>bI fun v52 h53=>bI fun v54 h55=>bI fun v56 h57=>rnI [.pure _ (AV.list true (v46.map X08)),.pure _ (AV.list true (List.map (aI .i64) v48)),.pure _ (AV.list true (v50.map X1)),.pure _ (AV.list true (v52.map X0i)),.pure _ (AV.list true (v54.map Xe)),.pure _ (AV.list true (v56.map Xc))] ?_
 intro h
 refine X3.back (by intro id h;cases h) rfl ?_
 revert h
 refine brI (fun q=>?_) fun q=>?_
 ·
  intro h
  have h58:a1=[]:=List.isEmpty_iff.1 q
  revert h
  exact fun e=>oj e▸X9 [.ne false] (k:=fi)
 intro h
 have h58:¬ (a1=[]):=(fun e=>by rw[e] at q;cases q)
 revert h
 refine bI fun u59 h60=>?_
 intro h
 cases h⟩
instance Xsb:PCs Tryz.prog 94 (∀ (a0:Int) (r:Bool),X6e a0=some r->X0l Tryz.prog 94 [(aI .i64 a0)] (aB r)):=⟨fun a0 r h=>by
 refine X0l.sym X6 fn94 (nt:=7) rfl rfl ?_ okM
 unfold X6e at h
 revert h
 exact bI fun v1 h2=>fun e=>oj e▸X9 [.pure _ (aI .i64 v1)] (k:=fi)⟩
theorem Xem {Q:X00->St->Mu->Prop} {μ:Mu} (Xgl:(List Int)) (hl:Xgl.length<=140737488355328):∀ (xs:List Int) (k:Nat) (hx:Xgl.drop k=xs) (o:X5y) (h:X43 Xgl xs k  = some o)
  (C0:o=X5y.x0->X3 Tryz.prog 27 0 Q (.exit (.exit 0)) [] ⟨fr [],hp ([]),0⟩ μ)
  (C1:o=X5y.x1->X3 Tryz.prog 27 0 Q (.exit .ret) [] ⟨fr [(2,(aI .i64 8))],hp ([]),0⟩ μ),
  X3 Tryz.prog 27 0 Q (.loop (X5f 0 (Xi Tryz.f58))) [] ⟨fr [(13,(Lf (List.map (aI .i64) Xgl))),(14,(aI .i64 (Xgl.length:Int))),(15,(aI .i64 (k:Int)))],hp ([]),0⟩ μ:=by
 intro xs
 induction xs with
 |nil =>
  intro k hx  o h C0 C1
  have hk:=drop_nil hx
  have hc:decide ((k:Int)<(Xgl.length:Int))=false:=Yf (by omega)
  rw[X43] at h
  refine X3.round ?_
  revert h
  exact fun e=>X9 [Bf] (k:=wkT [] (C0  (oj e).symm))
 |cons x xs ih =>
  intro k hx  o h C0 C1
  obtain⟨hk,hg,hx1⟩:=X15 hx
  have hc:decide ((k:Int)<(Xgl.length:Int))=true:=Yt (by omega)
  rw[X43] at h
  refine X3.round ?_
  revert h
  refine bI fun Xso h34=>rnI [Bt,.el (aI .i64 x),.stop 6] ?_
  intro h
  refine X3.join (s':=⟨fr [(13,(Lf (List.map (aI .i64) Xgl))),(14,(aI .i64 (Xgl.length:Int))),(15,(aI .i64 (k:Int))),(25,(aB Xso))],hp ([]),0⟩) ?_ (fun J=>X3.cut ?_)
  ·
   revert h
   refine brI (fun h35=>fun e=>X9 [Bt] (k:=wkT [] (C1  (oj e).symm))) fun h35=>rnI [Bf] ?_
   intro h
   exact wkT [] (ih (k+1) hx1  o h C0 C1)
  clear h;revert h34
  refine brI (fun h31=>?_) fun h31=>?_
  ·
   refine bI fun v32 h33=>?_
   intro h
   obtain rfl:=oj h
   exact X9 [.go true,.go true,.pure _ (aB v32),.go true] (k:=wkT [] (X3.glue J))
  intro h
  obtain rfl:=oj h
  exact X9 [.go false,.go false,.go false] (k:=wkT [] (X3.glue J))
instance Xug:PCs Tryz.prog 58 (∀ (a0:(List Int)) (r:Int),X94 a0=some r->X0l Tryz.prog 58 [(Lf (List.map (aI .i64) a0))] (aI .i64 r)):=⟨fun a0 r h=>by
 refine X0l.sym X6 fn58 (nt:=27) rfl rfl ?_ okM
 unfold X94 at h
 revert h
 refine bI fun Xz5 h4=>rnI [.stop 1] ?_
 intro h
 refine X3.join (s':=⟨fr [(0,(Lf (List.map (aI .i64) a0))),(12,(aB Xz5))],hp ([]),0⟩) ?_ (fun J=>X3.cut ?_)
 ·
  revert h
  refine brI (fun h5=>fun e=>oj e▸X9 [Bt] (k:=fi)) fun h5=>bI fun u6 h7=>?_
  have qh7:=X0k h7
  refine bI fun o36 h37=>rnI [Bf,.el (aI .i64 (a0.length:Int))] ?_
  intro h
  refine wkT [] (X3.cut (Xem a0 qh7 a0 0 (by simp) _ h37 ?_ ?_))
  ·
   intro eo36;subst eo36
   refine X3.glue ?_
   try dsimp only at h
   revert h
   exact fun e=>oj e▸X9 [] (k:=fi)
  intro eo36;subst eo36
  refine X3.glue ?_
  try dsimp only at h
  revert h
  exact fun e=>oj e▸X9 [] (k:=fi)
 clear h;revert h4
 refine brI (fun h3=>?_) fun h3=>?_
 ·
  intro h
  obtain rfl:=oj h
  exact X9 [.el (aI .i64 (a0.length:Int)),.go false,.go false,.go false] (k:=wkT [] (X3.glue J))
 intro h
 obtain rfl:=oj h
 exact X9 [.el (aI .i64 (a0.length:Int)),.go true,.go true,.el (aI .i64 (a0.length:Int)),.go true] (k:=wkT [] (X3.glue J))⟩
theorem X83 {Q:X00->St->Mu->Prop} {μ:Mu} (X16:(List Int)):∀ (n:Nat) (Xcz:Int) (Xwt:Int) (o:X3f) (h:X0x X16 n Xcz Xwt=some o)
  (C0:∀ (Xiq:Int),o=X3f.x0 Xiq->X3 Tryz.prog 25 0 Q (.exit (.exit 0)) [] ⟨fr [(3,(aI .i64 Xiq))],hp ([]),0⟩ μ),
  X3 Tryz.prog 25 0 Q (.loop (X5f 0 (Xi Tryz.f59))) [] ⟨fr [(0,(Lf (List.map (aI .i64) X16))),(3,(aI .i64 Xcz)),(4,(aI .i64 Xwt))],hp ([]),0⟩ μ:=by
 intro n
 induction n with
 |zero=>intro Xcz Xwt o h C0;cases h
 |succ n ih =>
  intro Xcz Xwt o h C0
  rw[X0x] at h
  refine X3.round ?_
  revert h
  refine brI (fun h12=>?_) fun h12=>fun e=>X9 [.el (aI .i64 (X16.length:Int)),Bf] (k:=wkT [] (C0 _  (oj e).symm))
  refine bI fun e13 h14=>?_
  try have qh14:=Xs h14
  refine rnI [.el (aI .i64 (X16.length:Int)),Bt,.el (aI .i64 e13),.wrap] ?_
  intro h
  exact wkT [] (ih  _ _ o h C0)
instance Xi7:PCs Tryz.prog 59 (∀ (a0:(List Int)) (r:Int),X24 a0=some r->X0l Tryz.prog 59 [(Lf (List.map (aI .i64) a0))] (aI .i64 r)):=⟨fun a0 r h=>by
 refine X0l.sym X6 fn59 (nt:=25) rfl rfl ?_ okM
 unfold X24 at h
 revert h
 refine brI (fun h2=>?_) fun h2=>?_
 ·
  intro h
  cases h
 refine bI fun e3 h4=>?_
 try have qh4:=Xs h4
 refine bI fun o15 h16=>rnI [.el (aI .i64 (a0.length:Int)),Bf,.el (aI .i64 e3)] ?_
 intro h
 refine wkT [] (X3.cut (X83 a0 _ _ _ _ h16 ?_))
 intro Xiq eo15;subst eo15
 refine X3.glue ?_
 try dsimp only at h
 revert h
 exact fun e=>oj e▸X9 [] (k:=fi)⟩
instance Xuf:PCs Tryz.prog 27 (∀ (a0:(List Int)) (r:Int×Int),X58 a0=some r->X0l Tryz.prog 27 [(Lf (List.map (aI .i64) a0))] (AV.tup [(aI .i64 r.1),(aI .i64 r.2)])):=⟨fun a0 r h=>by
 refine X0l.sym X6 fn27 (nt:=12) rfl rfl ?_ okM
 unfold X58 at h
 revert h
 exact bI fun v1 h2=>brI (fun h3=>fun e=>oj e▸X9 [.pure _ (aI .i64 v1),Bt] (k:=fi)) fun h3=>bI fun v4 h5=>fun e=>oj e▸X9 [.pure _ (aI .i64 v1),Bf,.pure _ (aI .i64 v4)] (k:=fi)⟩
instance Xue:PCs Tryz.prog 64 (∀ (a0:(List Int)) (a1:Int) (a2:Int) (r:(List Int)×Bool×Int),X68 a0 a1 a2=some r->X0l Tryz.prog 64 [(Lf (List.map (aI .i64) a0)),(aI .i64 a1),(aI .i64 a2)] (AV.tup [(AV.list true (List.map (aI .i64) r.1)),(aB r.2.1),(aI .i64 r.2.2)])):=⟨fun a0 a1 a2 r h=>by
 refine X0l.sym X6 fn64 (nt:=47) rfl rfl ?_ okM
 unfold X68 at h
 revert h
 refine bI fun v1 h2=>brI (fun h3=>fun e=>oj e▸X9 [.pure _ (AV.tup [(aI .i64 v1.1),(aI .i64 v1.2)]),Bt] (k:=fi)) fun h3=>bI fun Xyl h13=>rnI [.pure _ (AV.tup [(aI .i64 v1.1),(aI .i64 v1.2)]),Bf,.stop 4] ?_
 intro h
 refine X3.join (s':=⟨fr [(0,(Lf (List.map (aI .i64) a0))),(1,(aI .i64 a1)),(2,(aI .i64 a2)),(9,(aI .i64 v1.1)),(30,(aB Xyl))],hp ([]),0⟩) ?_ (fun J=>X3.cut ?_)
 ·
  revert h
  refine brI (fun h14=>fun e=>oj e▸X9 [Bt] (k:=fi)) fun h14=>bI fun Xhg h26=>rnI [Bf] ?_
  intro h
  refine X3.joinOpF (fun(q:Nb Xhg)=>⟨fr [(1,(aI .i64 a1)),(2,(aI .i64 a2)),(9,(aI .i64 v1.1)),(32,(slE q.1 0 (List.map (aI .i64) Xhg)))],hp ([]++opE q.1 0 1 (List.map (aI .i64) Xhg)),1⟩) ?_ (fun J=>?_)
  ·
   rintro Xs9
   rcases Xs9 with ⟨_|_,Xt0⟩
   ·
    revert h
    refine bI fun e27 h28=>?_
    try have qh28:=Xs h28
    exact bI fun v29 h30=>fun e=>oj e▸X9 [.el (aI .i64 e27),.ld (aI .i64 e27),.el (aI .i64 e27),.ld (aI .i64 e27),.pure _ (aI .i64 v29)] (o:=by repeat' first|apply Ya|exact pcM|exact(List.getElem?_set_self (by have hq:=X6t h28;simp;omega)).trans rfl|exact Xu) (k:=fi)
   obtain rfl:=Xt0 rfl
   revert h
   refine bI fun e31 h32=>?_
   try have qh32:=Xs h32
   intro h
   exact absurd (h32) (by simp[X3c])
  clear h;revert h26
  intro h
  refine X3.inline X6 X01o rfl rfl rfl rfl rfl trivial trivial rfl rfl ?_
  revert h
  refine brI (fun q=>?_) fun q=>?_
  ·
   intro h
   have h21:a0=[]:=List.isEmpty_iff.1 q
   refine X0g [] ?_
   refine X3.eqNil X6 (may:=true) rfl rfl rfl rfl rfl rfl trivial (by simp[X5s, *]) fun b22 qb22=>?_
   cases b22
   ·
    obtain rfl:=oj h
    refine X0g [Bf,.ne false] ?_
    refine X3.back (by intro id h;cases h) rfl ?_
    exact wkT [] ((J nbS))
   obtain rfl:=oj h
   refine X0g [Bt] ?_
   refine X3.back (by intro id h;cases h) rfl ?_
   exact wkT [] ((J nbS))
  intro h
  have h21:¬ (a0=[]):=(fun e=>by rw[e] at q;cases q)
  refine X0g [] ?_
  refine X3.eqNil X6 (may:=false) rfl rfl rfl rfl rfl rfl trivial (by simp[X5s, *]) fun b23 qb23=>?_
  obtain rfl:=qb23 rfl
  revert h
  refine bI fun u24 h25=>?_
  intro h
  obtain rfl:=oj h
  refine X0g [Bf,.via (AV.list true (List.map (aI .i64) a0))] (o:=by repeat' first|apply Ya|exact pcM|(refine Xd h25 rfl ?_;first|(simp;done)|(simp;omega)|(simp[h3,h14,h21];done)|(simp[h3,h14,h21];omega))|(refine X7 h25 (by decide) ?_;first|(simp;done)|(simp;omega)|(simp[h3,h14,h21];done)|(simp[h3,h14,h21];omega))|exact Xu) ?_
  refine X3.back (by intro id h;cases h) rfl ?_
  exact wkT [(0,1)] ((J nbF))
 clear h;revert h13
 refine brI (fun h9=>?_) fun h9=>?_
 ·
  intro h
  obtain rfl:=oj h
  exact X9 [.go false,.go false,.go false,.go false,.go false,.go false,.go false] (o:=by repeat' first|apply Ya|exact pcM|exact((Xb h9 rfl))|exact(Xf (Xb h9 rfl))|exact(X4e (Xb h9 rfl))|exact Xu) (k:=wkT [] (X3.glue J))
 refine brI (fun h10=>?_) fun h10=>?_
 ·
  intro h
  obtain rfl:=oj h
  exact X9 [.go true,.go true,.go true,.el (aI .i64 (a0.length:Int)),.go true,.go false,.go false,.go false] (o:=by repeat' first|apply Ya|exact pcM|exact((Xa h9 h10))|exact(Xf (Xa h9 h10))|exact(X4e (Xa h9 h10))|exact Xu) (k:=wkT [] (X3.glue J))
 refine bI fun v11 h12=>?_
 intro h
 obtain rfl:=oj h
 exact X9 [.go true,.go true,.go true,.el (aI .i64 (a0.length:Int)),.go true,.go true,.go true,.pure _ (aB v11),.go true] (o:=by repeat' first|apply Ya|exact pcM|exact((Xa h9 h10))|exact(Xf (Xa h9 h10))|exact(Xb6 (Xa h9 h10))|exact Xu) (k:=wkT [] (X3.glue J))⟩
theorem Xfs {Q:X00->St->Mu->Prop} {μ:Mu} (X8i:Int) (X2z:(List X2)) (hl:X2z.length<=140737488355328):∀ (xs:List X2) (k:Nat) (hx:X2z.drop k=xs) (Xt:(List X2)) (Xp:(List X2)) (X22:Nb Xt) (Xv:Nb Xp) (o:X8t) (h:X3s X8i X2z xs k Xt Xp=some o)
  (C0:∀ (X0a:(List X2)) (X09:(List X2)) (X0r:Nb X0a) (X0m:Nb X09),o=X8t.x0 X0a X09->X3 Tryz.prog 37 0 Q (.exit (.exit 0)) [] ⟨fr [(4,(slE X0r.1 0 (X0a.map X1))),(5,(slE X0m.1 1 (X09.map X1)))],hp ([]++opE X0r.1 0 11 (X0a.map X1)++opE X0m.1 1 11 (X09.map X1)),2⟩ μ),
  X3 Tryz.prog 37 0 Q (.loop (X5f 0 (Xi Tryz.f65))) [] ⟨fr [(1,(aI .i64 X8i)),(4,(slE X22.1 0 (Xt.map X1))),(5,(slE Xv.1 1 (Xp.map X1))),(15,(Lf (X2z.map X1))),(16,(aI .i64 (X2z.length:Int))),(17,(aI .i64 (k:Int)))],hp ([]++opE X22.1 0 11 (Xt.map X1)++opE Xv.1 1 11 (Xp.map X1)),2⟩ μ:=by
 intro xs
 induction xs with
 |nil =>
  intro k hx Xt Xp X22 Xv o h C0
  have hk:=drop_nil hx
  have hc:decide ((k:Int)<(X2z.length:Int))=false:=Yf (by omega)
  rw[X3s] at h
  rcases X22 with ⟨_|_,X5i⟩
  ·
   rcases Xv with ⟨_|_,X0h⟩
   ·
    refine X3.round ?_
    revert h
    exact fun e=>X9 [Bf] (k:=wkT [] (C0 _ _  nbF nbF (oj e).symm))
   obtain rfl:=X0h rfl
   refine X3.round ?_
   revert h
   exact fun e=>X9 [Bf] (k:=wkT [] (C0 _ _  nbF nbS (oj e).symm))
  ·
   obtain rfl:=X5i rfl
   rcases Xv with ⟨_|_,X0h⟩
   ·
    refine X3.round ?_
    revert h
    exact fun e=>X9 [Bf] (k:=wkT [] (C0 _ _  nbS nbF (oj e).symm))
   ·
    obtain rfl:=X0h rfl
    refine X3.round ?_
    revert h
    exact fun e=>X9 [Bf] (k:=wkT [] (C0 _ _  nbS nbS (oj e).symm))
 |cons x xs ih =>
  intro k hx Xt Xp X22 Xv o h C0
  obtain⟨hk,hg,hx1⟩:=X15 hx
  have hc:decide ((k:Int)<(X2z.length:Int))=true:=Yt (by omega)
  rw[X3s] at h
  rcases X22 with ⟨_|_,X5i⟩
  ·
   rcases Xv with ⟨_|_,X0h⟩
   ·
    refine X3.round ?_
    revert h
    refine bI fun w108 h114=>?_
    intro h
    obtain⟨Xnm,Xnl⟩:=w108
    try dsimp only at h
    refine X0g [Bt,.el (X1 x)] ?_
    refine X3.joinF (fun(q:Nb Xnm×Nb Xnl)=>⟨fr [(1,(aI .i64 X8i)),(4,(slE q.1.1 0 (Xnm.map X1))),(5,(slE q.2.1 1 (Xnl.map X1))),(15,(Lf (X2z.map X1))),(16,(aI .i64 (X2z.length:Int))),(17,(aI .i64 (k:Int)))],hp ([]++opE q.1.1 0 11 (Xnm.map X1)++opE q.2.1 1 11 (Xnl.map X1)),2⟩) ?_ (fun J=>X3.cut ?_)
    ·
     rintro⟨Xpz,Xj5⟩
     rcases Xpz with ⟨_|_,Xqd⟩
     ·
      rcases Xj5 with ⟨_|_,Xew⟩
      ·
       exact X9 [] (k:=wkT [] (ih (k+1) hx1 _ _ nbF nbF o h C0))
      obtain rfl:=Xew rfl
      exact X9 [] (k:=wkT [] (ih (k+1) hx1 _ _ nbF nbS o h C0))
     obtain rfl:=Xqd rfl
     rcases Xj5 with ⟨_|_,Xew⟩
     ·
      exact X9 [] (k:=wkT [] (ih (k+1) hx1 _ _ nbS nbF o h C0))
     obtain rfl:=Xew rfl
     exact X9 [] (k:=wkT [] (ih (k+1) hx1 _ _ nbS nbS o h C0))
    clear h;revert h114
    refine brI (fun h109=>?_) fun h109=>?_
    ·
     refine bI fun u110 h111=>?_
     intro h
     simp only[Option.some.injEq,Prod.mk.injEq] at h
     obtain⟨rfl,rfl⟩:=h
     exact X9 [Bt,.no] (o:=by repeat' first|apply Ya|exact pcM|(refine Xd h111 rfl ?_;first|(simp;done)|(simp;omega)|(simp[hc,h109];done)|(simp[hc,h109];omega))|(refine X7 h111 (by decide) ?_;first|(simp;done)|(simp;omega)|(simp[hc,h109];done)|(simp[hc,h109];omega))|exact Xu) (k:=wkT [(0,4)] (X3.glue (J (nbF,nbF))))
    refine bI fun u112 h113=>?_
    intro h
    simp only[Option.some.injEq,Prod.mk.injEq] at h
    obtain⟨rfl,rfl⟩:=h
    exact X9 [Bf,.no] (o:=by repeat' first|apply Ya|exact pcM|(refine Xd h113 rfl ?_;first|(simp;done)|(simp;omega)|(simp[hc,h109];done)|(simp[hc,h109];omega))|(refine X7 h113 (by decide) ?_;first|(simp;done)|(simp;omega)|(simp[hc,h109];done)|(simp[hc,h109];omega))|exact Xu) (k:=wkT [(1,4)] (X3.glue (J (nbF,nbF))))
   obtain rfl:=X0h rfl
   refine X3.round ?_
   revert h
   refine bI fun w120 h126=>?_
   intro h
   obtain⟨Xnk,Xnj⟩:=w120
   try dsimp only at h
   refine X0g [Bt,.el (X1 x)] ?_
   refine X3.joinF (fun(q:Nb Xnk×Nb Xnj)=>⟨fr [(1,(aI .i64 X8i)),(4,(slE q.1.1 0 (Xnk.map X1))),(5,(slE q.2.1 1 (Xnj.map X1))),(15,(Lf (X2z.map X1))),(16,(aI .i64 (X2z.length:Int))),(17,(aI .i64 (k:Int)))],hp ([]++opE q.1.1 0 11 (Xnk.map X1)++opE q.2.1 1 11 (Xnj.map X1)),2⟩) ?_ (fun J=>X3.cut ?_)
   ·
    rintro⟨Xpy,Xj4⟩
    rcases Xpy with ⟨_|_,Xqc⟩
    ·
     rcases Xj4 with ⟨_|_,Xev⟩
     ·
      exact X9 [] (k:=wkT [] (ih (k+1) hx1 _ _ nbF nbF o h C0))
     obtain rfl:=Xev rfl
     exact X9 [] (k:=wkT [] (ih (k+1) hx1 _ _ nbF nbS o h C0))
    obtain rfl:=Xqc rfl
    rcases Xj4 with ⟨_|_,Xev⟩
    ·
     exact X9 [] (k:=wkT [] (ih (k+1) hx1 _ _ nbS nbF o h C0))
    obtain rfl:=Xev rfl
    exact X9 [] (k:=wkT [] (ih (k+1) hx1 _ _ nbS nbS o h C0))
   clear h;revert h126
   refine brI (fun h121=>?_) fun h121=>?_
   ·
    refine bI fun u122 h123=>?_
    intro h
    simp only[Option.some.injEq,Prod.mk.injEq] at h
    obtain⟨rfl,rfl⟩:=h
    exact X9 [Bt,.no] (o:=by repeat' first|apply Ya|exact pcM|(refine Xd h123 rfl ?_;first|(simp;done)|(simp;omega)|(simp[hc,h121];done)|(simp[hc,h121];omega))|(refine X7 h123 (by decide) ?_;first|(simp;done)|(simp;omega)|(simp[hc,h121];done)|(simp[hc,h121];omega))|exact Xu) (k:=wkT [(0,4)] (X3.glue (J (nbF,nbS))))
   refine bI fun u124 h125=>?_
   intro h
   simp only[Option.some.injEq,Prod.mk.injEq] at h
   obtain⟨rfl,rfl⟩:=h
   exact X9 [Bf,.no] (o:=by repeat' first|apply Ya|exact pcM|(refine Xd h125 rfl ?_;first|(simp;done)|(simp;omega)|(simp[hc,h121];done)|(simp[hc,h121];omega))|(refine X7 h125 (by decide) ?_;first|(simp;done)|(simp;omega)|(simp[hc,h121];done)|(simp[hc,h121];omega))|exact Xu) (k:=wkT [(1,4)] (X3.glue (J (nbF,nbF))))
  obtain rfl:=X5i rfl
  rcases Xv with ⟨_|_,X0h⟩
  ·
   refine X3.round ?_
   revert h
   refine bI fun w132 h138=>?_
   intro h
   obtain⟨Xnh,Xng⟩:=w132
   try dsimp only at h
   refine X0g [Bt,.el (X1 x)] ?_
   refine X3.joinF (fun(q:Nb Xnh×Nb Xng)=>⟨fr [(1,(aI .i64 X8i)),(4,(slE q.1.1 0 (Xnh.map X1))),(5,(slE q.2.1 1 (Xng.map X1))),(15,(Lf (X2z.map X1))),(16,(aI .i64 (X2z.length:Int))),(17,(aI .i64 (k:Int)))],hp ([]++opE q.1.1 0 11 (Xnh.map X1)++opE q.2.1 1 11 (Xng.map X1)),2⟩) ?_ (fun J=>X3.cut ?_)
   ·
    rintro⟨Xpx,Xj3⟩
    rcases Xpx with ⟨_|_,Xqb⟩
    ·
     rcases Xj3 with ⟨_|_,Xeu⟩
     ·
      exact X9 [] (k:=wkT [] (ih (k+1) hx1 _ _ nbF nbF o h C0))
     obtain rfl:=Xeu rfl
     exact X9 [] (k:=wkT [] (ih (k+1) hx1 _ _ nbF nbS o h C0))
    obtain rfl:=Xqb rfl
    rcases Xj3 with ⟨_|_,Xeu⟩
    ·
     exact X9 [] (k:=wkT [] (ih (k+1) hx1 _ _ nbS nbF o h C0))
    obtain rfl:=Xeu rfl
    exact X9 [] (k:=wkT [] (ih (k+1) hx1 _ _ nbS nbS o h C0))
   clear h;revert h138
   refine brI (fun h133=>?_) fun h133=>?_
   ·
    refine bI fun u134 h135=>?_
    intro h
    simp only[Option.some.injEq,Prod.mk.injEq] at h
    obtain⟨rfl,rfl⟩:=h
    exact X9 [Bt,.no] (o:=by repeat' first|apply Ya|exact pcM|(refine Xd h135 rfl ?_;first|(simp;done)|(simp;omega)|(simp[hc,h133];done)|(simp[hc,h133];omega))|(refine X7 h135 (by decide) ?_;first|(simp;done)|(simp;omega)|(simp[hc,h133];done)|(simp[hc,h133];omega))|exact Xu) (k:=wkT [(0,4)] (X3.glue (J (nbF,nbF))))
   refine bI fun u136 h137=>?_
   intro h
   simp only[Option.some.injEq,Prod.mk.injEq] at h
   obtain⟨rfl,rfl⟩:=h
   exact X9 [Bf,.no] (o:=by repeat' first|apply Ya|exact pcM|(refine Xd h137 rfl ?_;first|(simp;done)|(simp;omega)|(simp[hc,h133];done)|(simp[hc,h133];omega))|(refine X7 h137 (by decide) ?_;first|(simp;done)|(simp;omega)|(simp[hc,h133];done)|(simp[hc,h133];omega))|exact Xu) (k:=wkT [(1,4)] (X3.glue (J (nbS,nbF))))
  obtain rfl:=X0h rfl
  refine X3.round ?_
  revert h
  refine bI fun w144 h150=>?_
  intro h
  obtain⟨Xnf,Xne⟩:=w144
  try dsimp only at h
  refine X0g [Bt,.el (X1 x)] ?_
  refine X3.joinF (fun(q:Nb Xnf×Nb Xne)=>⟨fr [(1,(aI .i64 X8i)),(4,(slE q.1.1 0 (Xnf.map X1))),(5,(slE q.2.1 1 (Xne.map X1))),(15,(Lf (X2z.map X1))),(16,(aI .i64 (X2z.length:Int))),(17,(aI .i64 (k:Int)))],hp ([]++opE q.1.1 0 11 (Xnf.map X1)++opE q.2.1 1 11 (Xne.map X1)),2⟩) ?_ (fun J=>X3.cut ?_)
  ·
   rintro⟨Xpw,Xj2⟩
   rcases Xpw with ⟨_|_,Xqa⟩
   ·
    rcases Xj2 with ⟨_|_,Xet⟩
    ·
     exact X9 [] (k:=wkT [] (ih (k+1) hx1 _ _ nbF nbF o h C0))
    obtain rfl:=Xet rfl
    exact X9 [] (k:=wkT [] (ih (k+1) hx1 _ _ nbF nbS o h C0))
   obtain rfl:=Xqa rfl
   rcases Xj2 with ⟨_|_,Xet⟩
   ·
    exact X9 [] (k:=wkT [] (ih (k+1) hx1 _ _ nbS nbF o h C0))
   obtain rfl:=Xet rfl
   exact X9 [] (k:=wkT [] (ih (k+1) hx1 _ _ nbS nbS o h C0))
  clear h;revert h150
  refine brI (fun h145=>?_) fun h145=>?_
  ·
   refine bI fun u146 h147=>?_
   intro h
   simp only[Option.some.injEq,Prod.mk.injEq] at h
   obtain⟨rfl,rfl⟩:=h
   exact X9 [Bt,.no] (o:=by repeat' first|apply Ya|exact pcM|(refine Xd h147 rfl ?_;first|(simp;done)|(simp;omega)|(simp[hc,h145];done)|(simp[hc,h145];omega))|(refine X7 h147 (by decide) ?_;first|(simp;done)|(simp;omega)|(simp[hc,h145];done)|(simp[hc,h145];omega))|exact Xu) (k:=wkT [(0,4)] (X3.glue (J (nbF,nbS))))
  refine bI fun u148 h149=>?_
  intro h
  simp only[Option.some.injEq,Prod.mk.injEq] at h
  obtain⟨rfl,rfl⟩:=h
  exact X9 [Bf,.no] (o:=by repeat' first|apply Ya|exact pcM|(refine Xd h149 rfl ?_;first|(simp;done)|(simp;omega)|(simp[hc,h145];done)|(simp[hc,h145];omega))|(refine X7 h149 (by decide) ?_;first|(simp;done)|(simp;omega)|(simp[hc,h145];done)|(simp[hc,h145];omega))|exact Xu) (k:=wkT [(1,4)] (X3.glue (J (nbS,nbF))))
end Go.Av.Tryz