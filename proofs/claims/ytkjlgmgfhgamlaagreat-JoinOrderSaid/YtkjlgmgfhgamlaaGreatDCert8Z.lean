/- Printed by decomp.py: that the program computes the functions. -/
import Derived.Test.YtkjlgmgfhgamlaaGreatDCert5Z
set_option linter.all false

namespace Go.Av.Tryz
open Go.Proofs Go.D
set_option maxRecDepth 10000
set_option maxHeartbeats 40000000
instance Xi4:PCs Tryz.prog 136 (∀ (a0:(List X13)) (r:(List X13)),X4v a0=some r->X0l Tryz.prog 136 [(Lf (a0.map X08))] (AV.list true (r.map X08))):=⟨fun a0 r h=>by
 refine X0l.sym X6 X01b (nt:=8) rfl rfl ?_ okM
 unfold X4v at h
 revert h
 refine brI (fun q=>?_) fun q=>?_
 ·
  intro h
  have h1:a0=[]:=List.isEmpty_iff.1 q
  refine X0i [] ?_
  refine X3.eqNil X6 (may:=true) rfl rfl rfl rfl rfl rfl trivial (by simp[X5v, *]) fun b2 qb2=>?_
  cases b2
  ·
   revert h
   exact fun e=>oj e▸Xa [Bf,.ne false] (k:=fi)
  revert h
  exact fun e=>oj e▸Xa [Bt] (k:=fi)
 intro h
 have h1:¬ (a0=[]):=(fun e=>by rw[e] at q;cases q)
 refine X0i [] ?_
 refine X3.eqNil X6 (may:=false) rfl rfl rfl rfl rfl rfl trivial (by simp[X5v, *]) fun b3 qb3=>?_
 obtain rfl:=qb3 rfl
 revert h
 exact bI fun u4 h5=>fun e=>oj e▸Xa [Bf,.via (AV.list true (a0.map X08))] (o:=by repeat' first|apply Ya|exact pcM|(refine Xv h5 rfl ?_;first|(simp;done)|(simp;omega)|(simp[h1];done)|(simp[h1];omega))|(refine Xf h5 (by decide) ?_;first|(simp;done)|(simp;omega)|(simp[h1];done)|(simp[h1];omega))|exact Xw) (k:=fi)⟩
theorem X9b (a0:List X13) (h1:a0=[]):X0l Tryz.prog 136 [(Lf (a0.map X08))] AV.nils:=by
 refine X0l.sym X6 X01b (nt:=8) rfl rfl ?_ (X0z .list X78)
 refine X0i [] ?_
 refine X3.eqNil X6 (may:=true) rfl rfl rfl rfl rfl rfl trivial (by simp[X5v, *]) fun b2 qb2=>?_
 cases b2
 ·
  refine X0i [Bf,.ne false] ?_
  exact Xkd rfl .nils0
 refine X0i [Bt] ?_
 exact Xkd rfl .nils0
instance Xgr:PCs Tryz.prog 104 (∀ (a0:(List Int)) (r:(List Int)),X1m a0=some r->X0l Tryz.prog 104 [(Lf (List.map (aI .i64) a0))] (AV.list true (List.map (aI .i64) r))):=⟨fun a0 r h=>by
 refine X0l.sym X6 X01e (nt:=8) rfl rfl ?_ okM
 unfold X1m at h
 revert h
 refine brI (fun q=>?_) fun q=>?_
 ·
  intro h
  have h1:a0=[]:=List.isEmpty_iff.1 q
  refine X0i [] ?_
  refine X3.eqNil X6 (may:=true) rfl rfl rfl rfl rfl rfl trivial (by simp[X5v, *]) fun b2 qb2=>?_
  cases b2
  ·
   revert h
   exact fun e=>oj e▸Xa [Bf,.ne false] (k:=fi)
  revert h
  exact fun e=>oj e▸Xa [Bt] (k:=fi)
 intro h
 have h1:¬ (a0=[]):=(fun e=>by rw[e] at q;cases q)
 refine X0i [] ?_
 refine X3.eqNil X6 (may:=false) rfl rfl rfl rfl rfl rfl trivial (by simp[X5v, *]) fun b3 qb3=>?_
 obtain rfl:=qb3 rfl
 revert h
 exact bI fun u4 h5=>fun e=>oj e▸Xa [Bf,.via (AV.list true (List.map (aI .i64) a0))] (o:=by repeat' first|apply Ya|exact pcM|(refine Xv h5 rfl ?_;first|(simp;done)|(simp;omega)|(simp[h1];done)|(simp[h1];omega))|(refine Xf h5 (by decide) ?_;first|(simp;done)|(simp;omega)|(simp[h1];done)|(simp[h1];omega))|exact Xw) (k:=fi)⟩
instance Xgt:PCs Tryz.prog 80 (∀ (a0:(List X2)) (r:(List X2)),X1o a0=some r->X0l Tryz.prog 80 [(Lf (a0.map X1))] (AV.list true (r.map X1))):=⟨fun a0 r h=>by
 refine X0l.sym X6 fn80 (nt:=8) rfl rfl ?_ okM
 unfold X1o at h
 revert h
 refine brI (fun q=>?_) fun q=>?_
 ·
  intro h
  have h1:a0=[]:=List.isEmpty_iff.1 q
  refine X0i [] ?_
  refine X3.eqNil X6 (may:=true) rfl rfl rfl rfl rfl rfl trivial (by simp[X5v, *]) fun b2 qb2=>?_
  cases b2
  ·
   revert h
   exact fun e=>oj e▸Xa [Bf,.ne false] (k:=fi)
  revert h
  exact fun e=>oj e▸Xa [Bt] (k:=fi)
 intro h
 have h1:¬ (a0=[]):=(fun e=>by rw[e] at q;cases q)
 refine X0i [] ?_
 refine X3.eqNil X6 (may:=false) rfl rfl rfl rfl rfl rfl trivial (by simp[X5v, *]) fun b3 qb3=>?_
 obtain rfl:=qb3 rfl
 revert h
 exact bI fun u4 h5=>fun e=>oj e▸Xa [Bf,.via (AV.list true (a0.map X1))] (o:=by repeat' first|apply Ya|exact pcM|(refine Xv h5 rfl ?_;first|(simp;done)|(simp;omega)|(simp[h1];done)|(simp[h1];omega))|(refine Xf h5 (by decide) ?_;first|(simp;done)|(simp;omega)|(simp[h1];done)|(simp[h1];omega))|exact Xw) (k:=fi)⟩
instance Xgs:PCs Tryz.prog 137 (∀ (a0:(List X1e)) (r:(List X1e)),X1n a0=some r->X0l Tryz.prog 137 [(Lf (a0.map X0h))] (AV.list true (r.map X0h))):=⟨fun a0 r h=>by
 refine X0l.sym X6 X03h (nt:=8) rfl rfl ?_ okM
 unfold X1n at h
 revert h
 refine brI (fun q=>?_) fun q=>?_
 ·
  intro h
  have h1:a0=[]:=List.isEmpty_iff.1 q
  refine X0i [] ?_
  refine X3.eqNil X6 (may:=true) rfl rfl rfl rfl rfl rfl trivial (by simp[X5v, *]) fun b2 qb2=>?_
  cases b2
  ·
   revert h
   exact fun e=>oj e▸Xa [Bf,.ne false] (k:=fi)
  revert h
  exact fun e=>oj e▸Xa [Bt] (k:=fi)
 intro h
 have h1:¬ (a0=[]):=(fun e=>by rw[e] at q;cases q)
 refine X0i [] ?_
 refine X3.eqNil X6 (may:=false) rfl rfl rfl rfl rfl rfl trivial (by simp[X5v, *]) fun b3 qb3=>?_
 obtain rfl:=qb3 rfl
 revert h
 exact bI fun u4 h5=>fun e=>oj e▸Xa [Bf,.via (AV.list true (a0.map X0h))] (o:=by repeat' first|apply Ya|exact pcM|(refine Xv h5 rfl ?_;first|(simp;done)|(simp;omega)|(simp[h1];done)|(simp[h1];omega))|(refine Xf h5 (by decide) ?_;first|(simp;done)|(simp;omega)|(simp[h1];done)|(simp[h1];omega))|exact Xw) (k:=fi)⟩
instance Xjm:PCs Tryz.prog 138 (∀ (a0:(List X1x)) (r:(List X1x)),X2j a0=some r->X0l Tryz.prog 138 [(Lf (a0.map X01))] (AV.list true (r.map X01))):=⟨fun a0 r h=>by
 refine X0l.sym X6 X03g (nt:=8) rfl rfl ?_ okM
 unfold X2j at h
 revert h
 refine brI (fun q=>?_) fun q=>?_
 ·
  intro h
  have h1:a0=[]:=List.isEmpty_iff.1 q
  refine X0i [] ?_
  refine X3.eqNil X6 (may:=true) rfl rfl rfl rfl rfl rfl trivial (by simp[X5v, *]) fun b2 qb2=>?_
  cases b2
  ·
   revert h
   exact fun e=>oj e▸Xa [Bf,.ne false] (k:=fi)
  revert h
  exact fun e=>oj e▸Xa [Bt] (k:=fi)
 intro h
 have h1:¬ (a0=[]):=(fun e=>by rw[e] at q;cases q)
 refine X0i [] ?_
 refine X3.eqNil X6 (may:=false) rfl rfl rfl rfl rfl rfl trivial (by simp[X5v, *]) fun b3 qb3=>?_
 obtain rfl:=qb3 rfl
 revert h
 exact bI fun u4 h5=>fun e=>oj e▸Xa [Bf,.via (AV.list true (a0.map X01))] (o:=by repeat' first|apply Ya|exact pcM|(refine Xv h5 rfl ?_;first|(simp;done)|(simp;omega)|(simp[h1];done)|(simp[h1];omega))|(refine Xf h5 (by decide) ?_;first|(simp;done)|(simp;omega)|(simp[h1];done)|(simp[h1];omega))|exact Xw) (k:=fi)⟩
instance Xfq:PCs Tryz.prog 139 (∀ (a0:(List Xl)) (r:(List Xl)),X1b a0=some r->X0l Tryz.prog 139 [(Lf (a0.map X4))] (AV.list true (r.map X4))):=⟨fun a0 r h=>by
 refine X0l.sym X6 X03f (nt:=8) rfl rfl ?_ okM
 unfold X1b at h
 revert h
 refine brI (fun q=>?_) fun q=>?_
 ·
  intro h
  have h1:a0=[]:=List.isEmpty_iff.1 q
  refine X0i [] ?_
  refine X3.eqNil X6 (may:=true) rfl rfl rfl rfl rfl rfl trivial (by simp[X5v, *]) fun b2 qb2=>?_
  cases b2
  ·
   revert h
   exact fun e=>oj e▸Xa [Bf,.ne false] (k:=fi)
  revert h
  exact fun e=>oj e▸Xa [Bt] (k:=fi)
 intro h
 have h1:¬ (a0=[]):=(fun e=>by rw[e] at q;cases q)
 refine X0i [] ?_
 refine X3.eqNil X6 (may:=false) rfl rfl rfl rfl rfl rfl trivial (by simp[X5v, *]) fun b3 qb3=>?_
 obtain rfl:=qb3 rfl
 revert h
 exact bI fun u4 h5=>fun e=>oj e▸Xa [Bf,.via (AV.list true (a0.map X4))] (o:=by repeat' first|apply Ya|exact pcM|(refine Xv h5 rfl ?_;first|(simp;done)|(simp;omega)|(simp[h1];done)|(simp[h1];omega))|(refine Xf h5 (by decide) ?_;first|(simp;done)|(simp;omega)|(simp[h1];done)|(simp[h1];omega))|exact Xw) (k:=fi)⟩
instance Xwy:PCs Tryz.prog 63 (∀ (a0:X0a) (a1:(List X13)) (r:X0a×Int),X3d a0 a1=some r->X0l Tryz.prog 63 [(Xr false a0),(Lf (a1.map X08))] (AV.tup [(Xr true r.1),(aI .i64 r.2)])):=⟨fun a0 a1 r h=>by
 refine X0l.sym X6 fn63 (nt:=33) rfl rfl ?_ okM
 unfold X3d at h
 revert h
 refine bI fun v1 h2=>brI (fun h3=>fun e=>oj e▸Xa [.pure _ (aI .i64 v1),Bt] (k:=fi)) fun h3=>bI fun v4 h5=>brI (fun h6=>fun e=>oj e▸Xa [.pure _ (aI .i64 v1),Bf,.pure _ (aB v4),Bt] (k:=fi)) fun h6=>rnI [.pure _ (aI .i64 v1),Bf,.pure _ (aB v4),Bf,.el (aI .i64 (a1.length:Int)),.el (aI .i64 (a0.Pending.length:Int)),.wrap] ?_
 refine brI (fun h7=>fun e=>oj e▸Xa [Bt] (k:=fi)) fun h7=>rnI [Bf] ?_
 intro h
 refine X3.inline X6 X03z rfl rfl rfl rfl rfl trivial trivial rfl rfl ?_
 revert h
 refine brI (fun q=>?_) fun q=>?_
 ·
  intro h
  have h32:a0.Pending=[]:=List.isEmpty_iff.1 q
  revert h
  refine bI fun v33 h34=>bI fun v35 h36=>bI fun v37 h38=>bI fun v39 h40=>bI fun v41 h42=>rnI [.pure [(Lf (a0.Pending.map X08))] AV.nils,.pure _ (AV.list true (List.map (aI .i64) v33)),.pure _ (AV.list true (v35.map X1)),.pure _ (AV.list true (v37.map X0h)),.pure _ (AV.list true (v39.map X01)),.pure _ (AV.list true (v41.map X4))] (o:=by repeat' first|apply Ya|exact pcM|exact(pn (X9b _ (by simp[*])) (cc (X5r (X2o Xcg a0.Pending)) cn))|exact Xw) ?_
  intro h
  refine X3.back (by intro id h;cases h) rfl ?_
  revert h
  refine brI (fun q=>?_) fun q=>?_
  ·
   intro h
   have h43:a1=[]:=List.isEmpty_iff.1 q
   revert h
   exact fun e=>oj e▸Xa [.ne false] (k:=fi)
  intro h
  have h43:¬ (a1=[]):=(fun e=>by rw[e] at q;cases q)
  revert h
  exact bI fun u44 h45=>fun e=>oj e▸Xa [.via (AV.list true (a1.map X08))] (o:=by repeat' first|apply Ya|exact pcM|(refine Xv h45 rfl ?_;first|(simp;done)|(simp;omega)|(simp[h3,h6,h7,h32,h43];done)|(simp[h3,h6,h7,h32,h43];omega))|(refine Xf h45 (by decide) ?_;first|(simp;done)|(simp;omega)|(simp[h3,h6,h7,h32,h43];done)|(simp[h3,h6,h7,h32,h43];omega))|exact Xw) (k:=fi)
 intro h
 have h32:¬ (a0.Pending=[]):=(fun e=>by rw[e] at q;cases q)
 revert h
 refine bI fun v46 h47=>bI fun v48 h49=>bI fun v50 h51=>bI fun v52 h53=>bI fun v54 h55=>bI fun v56 h57=>rnI [.pure _ (AV.list true (v46.map X08)),.pure _ (AV.list true (List.map (aI .i64) v48)),.pure _ (AV.list true (v50.map X1)),.pure _ (AV.list true (v52.map X0h)),.pure _ (AV.list true (v54.map X01)),.pure _ (AV.list true (v56.map X4))] ?_
 intro h
 refine X3.back (by intro id h;cases h) rfl ?_
 revert h
 refine brI (fun q=>?_) fun q=>?_
 ·
  intro h
  have h58:a1=[]:=List.isEmpty_iff.1 q
  revert h
  exact fun e=>oj e▸Xa [.ne false] (k:=fi)
 intro h
 have h58:¬ (a1=[]):=(fun e=>by rw[e] at q;cases q)
 revert h
 refine bI fun u59 h60=>?_
 intro h
 cases h⟩
instance Xs7:PCs Tryz.prog 94 (∀ (a0:Int) (r:Bool),X6g a0=some r->X0l Tryz.prog 94 [(aI .i64 a0)] (aB r)):=⟨fun a0 r h=>by
 refine X0l.sym X6 fn94 (nt:=7) rfl rfl ?_ okM
 unfold X6g at h
 revert h
 exact bI fun v1 h2=>fun e=>oj e▸Xa [.pure _ (aI .i64 v1)] (k:=fi)⟩
theorem Xek {Q:Xz->St->Mu->Prop} {μ:Mu} (Xgh:(List Int)) (hl:Xgh.length<=140737488355328):∀ (xs:List Int) (k:Nat) (hx:Xgh.drop k=xs) (o:X61) (h:X42 Xgh xs k  = some o)
  (C0:o=X61.x0->X3 Tryz.prog 27 0 Q (.exit (.exit 0)) [] ⟨fr [],hp ([]),0⟩ μ)
  (C1:o=X61.x1->X3 Tryz.prog 27 0 Q (.exit .ret) [] ⟨fr [(2,(aI .i64 8))],hp ([]),0⟩ μ),
  X3 Tryz.prog 27 0 Q (.loop (X5p 0 (Xj Tryz.f58))) [] ⟨fr [(13,(Lf (List.map (aI .i64) Xgh))),(14,(aI .i64 (Xgh.length:Int))),(15,(aI .i64 (k:Int)))],hp ([]),0⟩ μ:=by
 intro xs
 induction xs with
 |nil =>
  intro k hx  o h C0 C1
  have hk:=drop_nil hx
  have hc:decide ((k:Int)<(Xgh.length:Int))=false:=Yf (by omega)
  rw[X42] at h
  refine X3.round ?_
  revert h
  exact fun e=>Xa [Bf] (k:=wkT [] (C0  (oj e).symm))
 |cons x xs ih =>
  intro k hx  o h C0 C1
  obtain⟨hk,hg,hx1⟩:=X1a hx
  have hc:decide ((k:Int)<(Xgh.length:Int))=true:=Yt (by omega)
  rw[X42] at h
  refine X3.round ?_
  revert h
  refine bI fun Xsk h34=>rnI [Bt,.el (aI .i64 x),.stop 6] ?_
  intro h
  refine X3.join (s':=⟨fr [(13,(Lf (List.map (aI .i64) Xgh))),(14,(aI .i64 (Xgh.length:Int))),(15,(aI .i64 (k:Int))),(25,(aB Xsk))],hp ([]),0⟩) ?_ (fun J=>X3.cut ?_)
  ·
   revert h
   refine brI (fun h35=>fun e=>Xa [Bt] (k:=wkT [] (C1  (oj e).symm))) fun h35=>rnI [Bf] ?_
   intro h
   exact wkT [] (ih (k+1) hx1  o h C0 C1)
  clear h;revert h34
  refine brI (fun h31=>?_) fun h31=>?_
  ·
   refine bI fun v32 h33=>?_
   intro h
   obtain rfl:=oj h
   exact Xa [.go true,.go true,.pure _ (aB v32),.go true] (k:=wkT [] (X3.glue J))
  intro h
  obtain rfl:=oj h
  exact Xa [.go false,.go false,.go false] (k:=wkT [] (X3.glue J))
instance Xuc:PCs Tryz.prog 58 (∀ (a0:(List Int)) (r:Int),X94 a0=some r->X0l Tryz.prog 58 [(Lf (List.map (aI .i64) a0))] (aI .i64 r)):=⟨fun a0 r h=>by
 refine X0l.sym X6 fn58 (nt:=27) rfl rfl ?_ okM
 unfold X94 at h
 revert h
 refine bI fun Xyz h4=>rnI [.stop 1] ?_
 intro h
 refine X3.join (s':=⟨fr [(0,(Lf (List.map (aI .i64) a0))),(12,(aB Xyz))],hp ([]),0⟩) ?_ (fun J=>X3.cut ?_)
 ·
  revert h
  refine brI (fun h5=>fun e=>oj e▸Xa [Bt] (k:=fi)) fun h5=>bI fun u6 h7=>?_
  have qh7:=X1c h7
  refine bI fun o36 h37=>rnI [Bf,.el (aI .i64 (a0.length:Int))] ?_
  intro h
  refine wkT [] (X3.cut (Xek a0 qh7 a0 0 (by simp) _ h37 ?_ ?_))
  ·
   intro eo36;subst eo36
   refine X3.glue ?_
   try dsimp only at h
   revert h
   exact fun e=>oj e▸Xa [] (k:=fi)
  intro eo36;subst eo36
  refine X3.glue ?_
  try dsimp only at h
  revert h
  exact fun e=>oj e▸Xa [] (k:=fi)
 clear h;revert h4
 refine brI (fun h3=>?_) fun h3=>?_
 ·
  intro h
  obtain rfl:=oj h
  exact Xa [.el (aI .i64 (a0.length:Int)),.go false,.go false,.go false] (k:=wkT [] (X3.glue J))
 intro h
 obtain rfl:=oj h
 exact Xa [.el (aI .i64 (a0.length:Int)),.go true,.go true,.el (aI .i64 (a0.length:Int)),.go true] (k:=wkT [] (X3.glue J))⟩
theorem X82 {Q:Xz->St->Mu->Prop} {μ:Mu} (X19:(List Int)):∀ (n:Nat) (Xkr:Int) (Xwv:Int) (o:X3f) (h:X0y X19 n Xkr Xwv=some o)
  (C0:∀ (Xio:Int),o=X3f.x0 Xio->X3 Tryz.prog 25 0 Q (.exit (.exit 0)) [] ⟨fr [(3,(aI .i64 Xio))],hp ([]),0⟩ μ),
  X3 Tryz.prog 25 0 Q (.loop (X5p 0 (Xj Tryz.f59))) [] ⟨fr [(0,(Lf (List.map (aI .i64) X19))),(3,(aI .i64 Xkr)),(4,(aI .i64 Xwv))],hp ([]),0⟩ μ:=by
 intro n
 induction n with
 |zero=>intro Xkr Xwv o h C0;cases h
 |succ n ih =>
  intro Xkr Xwv o h C0
  rw[X0y] at h
  refine X3.round ?_
  revert h
  refine brI (fun h12=>?_) fun h12=>fun e=>Xa [.el (aI .i64 (X19.length:Int)),Bf] (k:=wkT [] (C0 _  (oj e).symm))
  refine bI fun e13 h14=>?_
  try have qh14:=Xc h14
  refine rnI [.el (aI .i64 (X19.length:Int)),Bt,.el (aI .i64 e13),.wrap] ?_
  intro h
  exact wkT [] (ih  _ _ o h C0)
instance Xi3:PCs Tryz.prog 59 (∀ (a0:(List Int)) (r:Int),X24 a0=some r->X0l Tryz.prog 59 [(Lf (List.map (aI .i64) a0))] (aI .i64 r)):=⟨fun a0 r h=>by
 refine X0l.sym X6 fn59 (nt:=25) rfl rfl ?_ okM
 unfold X24 at h
 revert h
 refine brI (fun h2=>?_) fun h2=>?_
 ·
  intro h
  cases h
 refine bI fun e3 h4=>?_
 try have qh4:=Xc h4
 refine bI fun o15 h16=>rnI [.el (aI .i64 (a0.length:Int)),Bf,.el (aI .i64 e3)] ?_
 intro h
 refine wkT [] (X3.cut (X82 a0 _ _ _ _ h16 ?_))
 intro Xio eo15;subst eo15
 refine X3.glue ?_
 try dsimp only at h
 revert h
 exact fun e=>oj e▸Xa [] (k:=fi)⟩
instance Xub:PCs Tryz.prog 27 (∀ (a0:(List Int)) (r:Int×Int),X59 a0=some r->X0l Tryz.prog 27 [(Lf (List.map (aI .i64) a0))] (AV.tup [(aI .i64 r.1),(aI .i64 r.2)])):=⟨fun a0 r h=>by
 refine X0l.sym X6 fn27 (nt:=12) rfl rfl ?_ okM
 unfold X59 at h
 revert h
 exact bI fun v1 h2=>brI (fun h3=>fun e=>oj e▸Xa [.pure _ (aI .i64 v1),Bt] (k:=fi)) fun h3=>bI fun v4 h5=>fun e=>oj e▸Xa [.pure _ (aI .i64 v1),Bf,.pure _ (aI .i64 v4)] (k:=fi)⟩
instance Xua:PCs Tryz.prog 64 (∀ (a0:(List Int)) (a1:Int) (a2:Int) (r:(List Int)×Bool×Int),X6b a0 a1 a2=some r->X0l Tryz.prog 64 [(Lf (List.map (aI .i64) a0)),(aI .i64 a1),(aI .i64 a2)] (AV.tup [(AV.list true (List.map (aI .i64) r.1)),(aB r.2.1),(aI .i64 r.2.2)])):=⟨fun a0 a1 a2 r h=>by
 refine X0l.sym X6 fn64 (nt:=47) rfl rfl ?_ okM
 unfold X6b at h
 revert h
 refine bI fun v1 h2=>brI (fun h3=>fun e=>oj e▸Xa [.pure _ (AV.tup [(aI .i64 v1.1),(aI .i64 v1.2)]),Bt] (k:=fi)) fun h3=>bI fun Xym h13=>rnI [.pure _ (AV.tup [(aI .i64 v1.1),(aI .i64 v1.2)]),Bf,.stop 4] ?_
 intro h
 refine X3.join (s':=⟨fr [(0,(Lf (List.map (aI .i64) a0))),(1,(aI .i64 a1)),(2,(aI .i64 a2)),(9,(aI .i64 v1.1)),(30,(aB Xym))],hp ([]),0⟩) ?_ (fun J=>X3.cut ?_)
 ·
  revert h
  refine brI (fun h14=>fun e=>oj e▸Xa [Bt] (k:=fi)) fun h14=>bI fun Xhb h26=>rnI [Bf] ?_
  intro h
  refine X3.joinOpF (fun(q:Nb Xhb)=>⟨fr [(1,(aI .i64 a1)),(2,(aI .i64 a2)),(9,(aI .i64 v1.1)),(32,(slE q.1 0 (List.map (aI .i64) Xhb)))],hp ([]++opE q.1 0 1 (List.map (aI .i64) Xhb)),1⟩) ?_ (fun J=>?_)
  ·
   rintro Xs5
   rcases Xs5 with ⟨_|_,Xsw⟩
   ·
    revert h
    refine bI fun e27 h28=>?_
    try have qh28:=Xc h28
    exact bI fun v29 h30=>fun e=>oj e▸Xa [.el (aI .i64 e27),.ld (aI .i64 e27),.el (aI .i64 e27),.ld (aI .i64 e27),.pure _ (aI .i64 v29)] (o:=by repeat' first|apply Ya|exact pcM|exact(List.getElem?_set_self (by have hq:=X6t h28;simp;omega)).trans rfl|exact Xw) (k:=fi)
   obtain rfl:=Xsw rfl
   revert h
   refine bI fun e31 h32=>?_
   try have qh32:=Xc h32
   intro h
   exact absurd (h32) (by simp[X3c])
  clear h;revert h26
  intro h
  refine X3.inline X6 X01e rfl rfl rfl rfl rfl trivial trivial rfl rfl ?_
  revert h
  refine brI (fun q=>?_) fun q=>?_
  ·
   intro h
   have h21:a0=[]:=List.isEmpty_iff.1 q
   refine X0i [] ?_
   refine X3.eqNil X6 (may:=true) rfl rfl rfl rfl rfl rfl trivial (by simp[X5v, *]) fun b22 qb22=>?_
   cases b22
   ·
    obtain rfl:=oj h
    refine X0i [Bf,.ne false] ?_
    refine X3.back (by intro id h;cases h) rfl ?_
    exact wkT [] ((J nbS))
   obtain rfl:=oj h
   refine X0i [Bt] ?_
   refine X3.back (by intro id h;cases h) rfl ?_
   exact wkT [] ((J nbS))
  intro h
  have h21:¬ (a0=[]):=(fun e=>by rw[e] at q;cases q)
  refine X0i [] ?_
  refine X3.eqNil X6 (may:=false) rfl rfl rfl rfl rfl rfl trivial (by simp[X5v, *]) fun b23 qb23=>?_
  obtain rfl:=qb23 rfl
  revert h
  refine bI fun u24 h25=>?_
  intro h
  obtain rfl:=oj h
  refine X0i [Bf,.via (AV.list true (List.map (aI .i64) a0))] (o:=by repeat' first|apply Ya|exact pcM|(refine Xv h25 rfl ?_;first|(simp;done)|(simp;omega)|(simp[h3,h14,h21];done)|(simp[h3,h14,h21];omega))|(refine Xf h25 (by decide) ?_;first|(simp;done)|(simp;omega)|(simp[h3,h14,h21];done)|(simp[h3,h14,h21];omega))|exact Xw) ?_
  refine X3.back (by intro id h;cases h) rfl ?_
  exact wkT [(0,1)] ((J nbF))
 clear h;revert h13
 refine brI (fun h9=>?_) fun h9=>?_
 ·
  intro h
  obtain rfl:=oj h
  exact Xa [.go false,.go false,.go false,.go false,.go false,.go false,.go false] (o:=by repeat' first|apply Ya|exact pcM|exact((X9 h9 rfl))|exact(Xd (X9 h9 rfl))|exact(X47 (X9 h9 rfl))|exact Xw) (k:=wkT [] (X3.glue J))
 refine brI (fun h10=>?_) fun h10=>?_
 ·
  intro h
  obtain rfl:=oj h
  exact Xa [.go true,.go true,.go true,.el (aI .i64 (a0.length:Int)),.go true,.go false,.go false,.go false] (o:=by repeat' first|apply Ya|exact pcM|exact((Xb h9 h10))|exact(Xd (Xb h9 h10))|exact(X47 (Xb h9 h10))|exact Xw) (k:=wkT [] (X3.glue J))
 refine bI fun v11 h12=>?_
 intro h
 obtain rfl:=oj h
 exact Xa [.go true,.go true,.go true,.el (aI .i64 (a0.length:Int)),.go true,.go true,.go true,.pure _ (aB v11),.go true] (o:=by repeat' first|apply Ya|exact pcM|exact((Xb h9 h10))|exact(Xd (Xb h9 h10))|exact(X88 (Xb h9 h10))|exact Xw) (k:=wkT [] (X3.glue J))⟩
theorem Xfp {Q:Xz->St->Mu->Prop} {μ:Mu} (X75:Int) (X2z:(List X2)) (hl:X2z.length<=140737488355328):∀ (xs:List X2) (k:Nat) (hx:X2z.drop k=xs) (Xo:(List X2)) (Xn:(List X2)) (X22:Nb Xo) (Xt:Nb Xn) (o:X8t) (h:X3r X75 X2z xs k Xo Xn=some o)
  (C0:∀ (X09:(List X2)) (X0b:(List X2)) (X0r:Nb X09) (X0t:Nb X0b),o=X8t.x0 X09 X0b->X3 Tryz.prog 37 0 Q (.exit (.exit 0)) [] ⟨fr [(4,(slE X0r.1 0 (X09.map X1))),(5,(slE X0t.1 1 (X0b.map X1)))],hp ([]++opE X0r.1 0 11 (X09.map X1)++opE X0t.1 1 11 (X0b.map X1)),2⟩ μ),
  X3 Tryz.prog 37 0 Q (.loop (X5p 0 (Xj Tryz.f65))) [] ⟨fr [(1,(aI .i64 X75)),(4,(slE X22.1 0 (Xo.map X1))),(5,(slE Xt.1 1 (Xn.map X1))),(15,(Lf (X2z.map X1))),(16,(aI .i64 (X2z.length:Int))),(17,(aI .i64 (k:Int)))],hp ([]++opE X22.1 0 11 (Xo.map X1)++opE Xt.1 1 11 (Xn.map X1)),2⟩ μ:=by
 intro xs
 induction xs with
 |nil =>
  intro k hx Xo Xn X22 Xt o h C0
  have hk:=drop_nil hx
  have hc:decide ((k:Int)<(X2z.length:Int))=false:=Yf (by omega)
  rw[X3r] at h
  rcases X22 with ⟨_|_,X5j⟩
  ·
   rcases Xt with ⟨_|_,X0g⟩
   ·
    refine X3.round ?_
    revert h
    exact fun e=>Xa [Bf] (k:=wkT [] (C0 _ _  nbF nbF (oj e).symm))
   obtain rfl:=X0g rfl
   refine X3.round ?_
   revert h
   exact fun e=>Xa [Bf] (k:=wkT [] (C0 _ _  nbF nbS (oj e).symm))
  ·
   obtain rfl:=X5j rfl
   rcases Xt with ⟨_|_,X0g⟩
   ·
    refine X3.round ?_
    revert h
    exact fun e=>Xa [Bf] (k:=wkT [] (C0 _ _  nbS nbF (oj e).symm))
   ·
    obtain rfl:=X0g rfl
    refine X3.round ?_
    revert h
    exact fun e=>Xa [Bf] (k:=wkT [] (C0 _ _  nbS nbS (oj e).symm))
 |cons x xs ih =>
  intro k hx Xo Xn X22 Xt o h C0
  obtain⟨hk,hg,hx1⟩:=X1a hx
  have hc:decide ((k:Int)<(X2z.length:Int))=true:=Yt (by omega)
  rw[X3r] at h
  rcases X22 with ⟨_|_,X5j⟩
  ·
   rcases Xt with ⟨_|_,X0g⟩
   ·
    refine X3.round ?_
    revert h
    refine bI fun w108 h114=>?_
    intro h
    obtain⟨Xnl,Xnk⟩:=w108
    try dsimp only at h
    refine X0i [Bt,.el (X1 x)] ?_
    refine X3.joinF (fun(q:Nb Xnl×Nb Xnk)=>⟨fr [(1,(aI .i64 X75)),(4,(slE q.1.1 0 (Xnl.map X1))),(5,(slE q.2.1 1 (Xnk.map X1))),(15,(Lf (X2z.map X1))),(16,(aI .i64 (X2z.length:Int))),(17,(aI .i64 (k:Int)))],hp ([]++opE q.1.1 0 11 (Xnl.map X1)++opE q.2.1 1 11 (Xnk.map X1)),2⟩) ?_ (fun J=>X3.cut ?_)
    ·
     rintro⟨Xpu,Xj5⟩
     rcases Xpu with ⟨_|_,Xq8⟩
     ·
      rcases Xj5 with ⟨_|_,Xeu⟩
      ·
       exact Xa [] (k:=wkT [] (ih (k+1) hx1 _ _ nbF nbF o h C0))
      obtain rfl:=Xeu rfl
      exact Xa [] (k:=wkT [] (ih (k+1) hx1 _ _ nbF nbS o h C0))
     obtain rfl:=Xq8 rfl
     rcases Xj5 with ⟨_|_,Xeu⟩
     ·
      exact Xa [] (k:=wkT [] (ih (k+1) hx1 _ _ nbS nbF o h C0))
     obtain rfl:=Xeu rfl
     exact Xa [] (k:=wkT [] (ih (k+1) hx1 _ _ nbS nbS o h C0))
    clear h;revert h114
    refine brI (fun h109=>?_) fun h109=>?_
    ·
     refine bI fun u110 h111=>?_
     intro h
     simp only[Option.some.injEq,Prod.mk.injEq] at h
     obtain⟨rfl,rfl⟩:=h
     exact Xa [Bt,.no] (o:=by repeat' first|apply Ya|exact pcM|(refine Xv h111 rfl ?_;first|(simp;done)|(simp;omega)|(simp[hc,h109];done)|(simp[hc,h109];omega))|(refine Xf h111 (by decide) ?_;first|(simp;done)|(simp;omega)|(simp[hc,h109];done)|(simp[hc,h109];omega))|exact Xw) (k:=wkT [(0,4)] (X3.glue (J (nbF,nbF))))
    refine bI fun u112 h113=>?_
    intro h
    simp only[Option.some.injEq,Prod.mk.injEq] at h
    obtain⟨rfl,rfl⟩:=h
    exact Xa [Bf,.no] (o:=by repeat' first|apply Ya|exact pcM|(refine Xv h113 rfl ?_;first|(simp;done)|(simp;omega)|(simp[hc,h109];done)|(simp[hc,h109];omega))|(refine Xf h113 (by decide) ?_;first|(simp;done)|(simp;omega)|(simp[hc,h109];done)|(simp[hc,h109];omega))|exact Xw) (k:=wkT [(1,4)] (X3.glue (J (nbF,nbF))))
   obtain rfl:=X0g rfl
   refine X3.round ?_
   revert h
   refine bI fun w120 h126=>?_
   intro h
   obtain⟨Xnj,Xni⟩:=w120
   try dsimp only at h
   refine X0i [Bt,.el (X1 x)] ?_
   refine X3.joinF (fun(q:Nb Xnj×Nb Xni)=>⟨fr [(1,(aI .i64 X75)),(4,(slE q.1.1 0 (Xnj.map X1))),(5,(slE q.2.1 1 (Xni.map X1))),(15,(Lf (X2z.map X1))),(16,(aI .i64 (X2z.length:Int))),(17,(aI .i64 (k:Int)))],hp ([]++opE q.1.1 0 11 (Xnj.map X1)++opE q.2.1 1 11 (Xni.map X1)),2⟩) ?_ (fun J=>X3.cut ?_)
   ·
    rintro⟨Xpt,Xj4⟩
    rcases Xpt with ⟨_|_,Xq7⟩
    ·
     rcases Xj4 with ⟨_|_,Xet⟩
     ·
      exact Xa [] (k:=wkT [] (ih (k+1) hx1 _ _ nbF nbF o h C0))
     obtain rfl:=Xet rfl
     exact Xa [] (k:=wkT [] (ih (k+1) hx1 _ _ nbF nbS o h C0))
    obtain rfl:=Xq7 rfl
    rcases Xj4 with ⟨_|_,Xet⟩
    ·
     exact Xa [] (k:=wkT [] (ih (k+1) hx1 _ _ nbS nbF o h C0))
    obtain rfl:=Xet rfl
    exact Xa [] (k:=wkT [] (ih (k+1) hx1 _ _ nbS nbS o h C0))
   clear h;revert h126
   refine brI (fun h121=>?_) fun h121=>?_
   ·
    refine bI fun u122 h123=>?_
    intro h
    simp only[Option.some.injEq,Prod.mk.injEq] at h
    obtain⟨rfl,rfl⟩:=h
    exact Xa [Bt,.no] (o:=by repeat' first|apply Ya|exact pcM|(refine Xv h123 rfl ?_;first|(simp;done)|(simp;omega)|(simp[hc,h121];done)|(simp[hc,h121];omega))|(refine Xf h123 (by decide) ?_;first|(simp;done)|(simp;omega)|(simp[hc,h121];done)|(simp[hc,h121];omega))|exact Xw) (k:=wkT [(0,4)] (X3.glue (J (nbF,nbS))))
   refine bI fun u124 h125=>?_
   intro h
   simp only[Option.some.injEq,Prod.mk.injEq] at h
   obtain⟨rfl,rfl⟩:=h
   exact Xa [Bf,.no] (o:=by repeat' first|apply Ya|exact pcM|(refine Xv h125 rfl ?_;first|(simp;done)|(simp;omega)|(simp[hc,h121];done)|(simp[hc,h121];omega))|(refine Xf h125 (by decide) ?_;first|(simp;done)|(simp;omega)|(simp[hc,h121];done)|(simp[hc,h121];omega))|exact Xw) (k:=wkT [(1,4)] (X3.glue (J (nbF,nbF))))
  obtain rfl:=X5j rfl
  rcases Xt with ⟨_|_,X0g⟩
  ·
   refine X3.round ?_
   revert h
   refine bI fun w132 h138=>?_
   intro h
   obtain⟨Xng,Xnf⟩:=w132
   try dsimp only at h
   refine X0i [Bt,.el (X1 x)] ?_
   refine X3.joinF (fun(q:Nb Xng×Nb Xnf)=>⟨fr [(1,(aI .i64 X75)),(4,(slE q.1.1 0 (Xng.map X1))),(5,(slE q.2.1 1 (Xnf.map X1))),(15,(Lf (X2z.map X1))),(16,(aI .i64 (X2z.length:Int))),(17,(aI .i64 (k:Int)))],hp ([]++opE q.1.1 0 11 (Xng.map X1)++opE q.2.1 1 11 (Xnf.map X1)),2⟩) ?_ (fun J=>X3.cut ?_)
   ·
    rintro⟨Xps,Xj3⟩
    rcases Xps with ⟨_|_,Xq6⟩
    ·
     rcases Xj3 with ⟨_|_,Xes⟩
     ·
      exact Xa [] (k:=wkT [] (ih (k+1) hx1 _ _ nbF nbF o h C0))
     obtain rfl:=Xes rfl
     exact Xa [] (k:=wkT [] (ih (k+1) hx1 _ _ nbF nbS o h C0))
    obtain rfl:=Xq6 rfl
    rcases Xj3 with ⟨_|_,Xes⟩
    ·
     exact Xa [] (k:=wkT [] (ih (k+1) hx1 _ _ nbS nbF o h C0))
    obtain rfl:=Xes rfl
    exact Xa [] (k:=wkT [] (ih (k+1) hx1 _ _ nbS nbS o h C0))
   clear h;revert h138
   refine brI (fun h133=>?_) fun h133=>?_
   ·
    refine bI fun u134 h135=>?_
    intro h
    simp only[Option.some.injEq,Prod.mk.injEq] at h
    obtain⟨rfl,rfl⟩:=h
    exact Xa [Bt,.no] (o:=by repeat' first|apply Ya|exact pcM|(refine Xv h135 rfl ?_;first|(simp;done)|(simp;omega)|(simp[hc,h133];done)|(simp[hc,h133];omega))|(refine Xf h135 (by decide) ?_;first|(simp;done)|(simp;omega)|(simp[hc,h133];done)|(simp[hc,h133];omega))|exact Xw) (k:=wkT [(0,4)] (X3.glue (J (nbF,nbF))))
   refine bI fun u136 h137=>?_
   intro h
   simp only[Option.some.injEq,Prod.mk.injEq] at h
   obtain⟨rfl,rfl⟩:=h
   exact Xa [Bf,.no] (o:=by repeat' first|apply Ya|exact pcM|(refine Xv h137 rfl ?_;first|(simp;done)|(simp;omega)|(simp[hc,h133];done)|(simp[hc,h133];omega))|(refine Xf h137 (by decide) ?_;first|(simp;done)|(simp;omega)|(simp[hc,h133];done)|(simp[hc,h133];omega))|exact Xw) (k:=wkT [(1,4)] (X3.glue (J (nbS,nbF))))
  obtain rfl:=X0g rfl
  refine X3.round ?_
  revert h
  refine bI fun w144 h150=>?_
  intro h
  obtain⟨Xnd,Xnc⟩:=w144
  try dsimp only at h
  refine X0i [Bt,.el (X1 x)] ?_
  refine X3.joinF (fun(q:Nb Xnd×Nb Xnc)=>⟨fr [(1,(aI .i64 X75)),(4,(slE q.1.1 0 (Xnd.map X1))),(5,(slE q.2.1 1 (Xnc.map X1))),(15,(Lf (X2z.map X1))),(16,(aI .i64 (X2z.length:Int))),(17,(aI .i64 (k:Int)))],hp ([]++opE q.1.1 0 11 (Xnd.map X1)++opE q.2.1 1 11 (Xnc.map X1)),2⟩) ?_ (fun J=>X3.cut ?_)
  ·
   rintro⟨Xpr,Xj2⟩
   rcases Xpr with ⟨_|_,Xq5⟩
   ·
    rcases Xj2 with ⟨_|_,Xer⟩
    ·
     exact Xa [] (k:=wkT [] (ih (k+1) hx1 _ _ nbF nbF o h C0))
    obtain rfl:=Xer rfl
    exact Xa [] (k:=wkT [] (ih (k+1) hx1 _ _ nbF nbS o h C0))
   obtain rfl:=Xq5 rfl
   rcases Xj2 with ⟨_|_,Xer⟩
   ·
    exact Xa [] (k:=wkT [] (ih (k+1) hx1 _ _ nbS nbF o h C0))
   obtain rfl:=Xer rfl
   exact Xa [] (k:=wkT [] (ih (k+1) hx1 _ _ nbS nbS o h C0))
  clear h;revert h150
  refine brI (fun h145=>?_) fun h145=>?_
  ·
   refine bI fun u146 h147=>?_
   intro h
   simp only[Option.some.injEq,Prod.mk.injEq] at h
   obtain⟨rfl,rfl⟩:=h
   exact Xa [Bt,.no] (o:=by repeat' first|apply Ya|exact pcM|(refine Xv h147 rfl ?_;first|(simp;done)|(simp;omega)|(simp[hc,h145];done)|(simp[hc,h145];omega))|(refine Xf h147 (by decide) ?_;first|(simp;done)|(simp;omega)|(simp[hc,h145];done)|(simp[hc,h145];omega))|exact Xw) (k:=wkT [(0,4)] (X3.glue (J (nbF,nbS))))
  refine bI fun u148 h149=>?_
  intro h
  simp only[Option.some.injEq,Prod.mk.injEq] at h
  obtain⟨rfl,rfl⟩:=h
  exact Xa [Bf,.no] (o:=by repeat' first|apply Ya|exact pcM|(refine Xv h149 rfl ?_;first|(simp;done)|(simp;omega)|(simp[hc,h145];done)|(simp[hc,h145];omega))|(refine Xf h149 (by decide) ?_;first|(simp;done)|(simp;omega)|(simp[hc,h145];done)|(simp[hc,h145];omega))|exact Xw) (k:=wkT [(1,4)] (X3.glue (J (nbS,nbF))))
instance Xur:PCs Tryz.prog 65 (∀ (a0:(List X2)) (a1:Int) (r:(List X2)×(List X2)×Int),X7a a0 a1=some r->X0l Tryz.prog 65 [(Lf (a0.map X1)),(aI .i64 a1)] (AV.tup [(AV.list true (r.1.map X1)),(AV.list true (r.2.1.map X1)),(aI .i64 r.2.2)])):=⟨fun a0 a1 r h=>by
 refine X0l.sym X6 fn65 (nt:=37) rfl rfl ?_ okM
 unfold X7a at h
 revert h
 refine bI fun v1 h2=>brI (fun h3=>fun e=>oj e▸Xa [.pure _ (aI .i64 v1),Bt] (k:=fi)) fun h3=>bI fun u4 h5=>?_
 have qh5:=X1c h5
 refine bI fun o151 h152=>rnI [.pure _ (aI .i64 v1),Bf,.el (aI .i64 (a0.length:Int))] ?_
 intro h
 refine wkT [] (X3.cut (Xfp a1 a0 qh5 a0 0 (by simp) _ _ nbS nbS _ h152 ?_))
 intro X09 X0b X0r X0t eo151;subst eo151
 refine X3.glue ?_
 try dsimp only at h
 rcases X0r with ⟨_|_,X4b⟩<;>(try obtain rfl:=X4b rfl)
 all_goals
  rcases X0t with ⟨_|_,X4a⟩<;>(try obtain rfl:=X4a rfl)
  all_goals
   revert h
   exact fun e=>oj e▸Xa [] (k:=fi)⟩
end Go.Av.Tryz