/- Printed by decomp.py: that the program computes the functions. -/
import Derived.Test.YtkjlgmgfhgamlaaGreatDCert5Z
set_option linter.all false

namespace Go.Av.Tryz
open Go.Proofs Go.D
set_option maxRecDepth 10000
set_option maxHeartbeats 40000000
instance Xj4:PCs Tryz.prog 136 (∀ (a0:(List X0a)) (r:(List X0a)),X4i a0=some r->X0i Tryz.prog 136 [(Lf (a0.map Xw))] (Lt (r.map Xw))):=⟨λa0 r h=>by
 refine X0i.sym X3 X023 (nt:=8) rfl rfl ?_ okM;unfold X4i at h;revert h;refine brI (λq=>?_) λq=>?_
 ·
  intro h;have h1:a0=[]:=List.isEmpty_iff.1 q;refine X0e [] ?_;refine X2.eqNil X3 (may:=true) rfl rfl rfl rfl rfl rfl trivial (by simp[X5n, *]) λb2 qb2=>?_;cases b2
  ·
   revert h;exact λe=>oj e▸X7 [Bf,.ne false] (k:=fi)
  revert h;exact λe=>oj e▸X7 [Bt] (k:=fi)
 intro h;have h1:¬ (a0=[]):=(λe=>by rw[e] at q;cases q);refine X0e [] ?_;refine X2.eqNil X3 (may:=false) rfl rfl rfl rfl rfl rfl trivial (by simp[X5n, *]) λb3 qb3=>?_;obtain rfl:=qb3 rfl;revert h;exact bI λu4 h5=>λe=>oj e▸X7 [Bf,.via (Lt (a0.map Xw))] (o:=by repeat' first|apply Ya|exact pcM|(refine X02 h5 rfl ?_;first|(simp<;>omega)|(simp[h1]<;>omega))|(refine Xk h5 (by decide) ?_;first|(simp<;>omega)|(simp[h1]<;>omega))|exact Xz) (k:=fi)⟩
theorem X9l (a0:List X0a) (h1:a0=[]):X0i Tryz.prog 136 [(Lf (a0.map Xw))] AV.nils:=by
 refine X0i.sym X3 X023 (nt:=8) rfl rfl ?_ (X0w .list X76);refine X0e [] ?_;refine X2.eqNil X3 (may:=true) rfl rfl rfl rfl rfl rfl trivial (by simp[X5n, *]) λb2 qb2=>?_;cases b2
 ·
  refine X0e [Bf,.ne false] ?_;exact Xlb rfl .nils0
 refine X0e [Bt] ?_;exact Xlb rfl .nils0
instance Xhm:PCs Tryz.prog 104 (∀ (a0:(List Int)) (r:(List Int)),X1b a0=some r->X0i Tryz.prog 104 [(Lf (List.map (aI .i64) a0))] (Lt (List.map (aI .i64) r))):=⟨λa0 r h=>by
 refine X0i.sym X3 X026 (nt:=8) rfl rfl ?_ okM;unfold X1b at h;revert h;refine brI (λq=>?_) λq=>?_
 ·
  intro h;have h1:a0=[]:=List.isEmpty_iff.1 q;refine X0e [] ?_;refine X2.eqNil X3 (may:=true) rfl rfl rfl rfl rfl rfl trivial (by simp[X5n, *]) λb2 qb2=>?_;cases b2
  ·
   revert h;exact λe=>oj e▸X7 [Bf,.ne false] (k:=fi)
  revert h;exact λe=>oj e▸X7 [Bt] (k:=fi)
 intro h;have h1:¬ (a0=[]):=(λe=>by rw[e] at q;cases q);refine X0e [] ?_;refine X2.eqNil X3 (may:=false) rfl rfl rfl rfl rfl rfl trivial (by simp[X5n, *]) λb3 qb3=>?_;obtain rfl:=qb3 rfl;revert h;exact bI λu4 h5=>λe=>oj e▸X7 [Bf,.via (Lt (List.map (aI .i64) a0))] (o:=by repeat' first|apply Ya|exact pcM|(refine X02 h5 rfl ?_;first|(simp<;>omega)|(simp[h1]<;>omega))|(refine Xk h5 (by decide) ?_;first|(simp<;>omega)|(simp[h1]<;>omega))|exact Xz) (k:=fi)⟩
instance Xho:PCs Tryz.prog 80 (∀ (a0:(List X1)) (r:(List X1)),X1d a0=some r->X0i Tryz.prog 80 [(Lf (a0.map X0))] (Lt (r.map X0))):=⟨λa0 r h=>by
 refine X0i.sym X3 fn80 (nt:=8) rfl rfl ?_ okM;unfold X1d at h;revert h;refine brI (λq=>?_) λq=>?_
 ·
  intro h;have h1:a0=[]:=List.isEmpty_iff.1 q;refine X0e [] ?_;refine X2.eqNil X3 (may:=true) rfl rfl rfl rfl rfl rfl trivial (by simp[X5n, *]) λb2 qb2=>?_;cases b2
  ·
   revert h;exact λe=>oj e▸X7 [Bf,.ne false] (k:=fi)
  revert h;exact λe=>oj e▸X7 [Bt] (k:=fi)
 intro h;have h1:¬ (a0=[]):=(λe=>by rw[e] at q;cases q);refine X0e [] ?_;refine X2.eqNil X3 (may:=false) rfl rfl rfl rfl rfl rfl trivial (by simp[X5n, *]) λb3 qb3=>?_;obtain rfl:=qb3 rfl;revert h;exact bI λu4 h5=>λe=>oj e▸X7 [Bf,.via (Lt (a0.map X0))] (o:=by repeat' first|apply Ya|exact pcM|(refine X02 h5 rfl ?_;first|(simp<;>omega)|(simp[h1]<;>omega))|(refine Xk h5 (by decide) ?_;first|(simp<;>omega)|(simp[h1]<;>omega))|exact Xz) (k:=fi)⟩
instance Xhn:PCs Tryz.prog 137 (∀ (a0:(List X0h)) (r:(List X0h)),X1c a0=some r->X0i Tryz.prog 137 [(Lf (a0.map X00))] (Lt (r.map X00))):=⟨λa0 r h=>by
 refine X0i.sym X3 X049 (nt:=8) rfl rfl ?_ okM;unfold X1c at h;revert h;refine brI (λq=>?_) λq=>?_
 ·
  intro h;have h1:a0=[]:=List.isEmpty_iff.1 q;refine X0e [] ?_;refine X2.eqNil X3 (may:=true) rfl rfl rfl rfl rfl rfl trivial (by simp[X5n, *]) λb2 qb2=>?_;cases b2
  ·
   revert h;exact λe=>oj e▸X7 [Bf,.ne false] (k:=fi)
  revert h;exact λe=>oj e▸X7 [Bt] (k:=fi)
 intro h;have h1:¬ (a0=[]):=(λe=>by rw[e] at q;cases q);refine X0e [] ?_;refine X2.eqNil X3 (may:=false) rfl rfl rfl rfl rfl rfl trivial (by simp[X5n, *]) λb3 qb3=>?_;obtain rfl:=qb3 rfl;revert h;exact bI λu4 h5=>λe=>oj e▸X7 [Bf,.via (Lt (a0.map X00))] (o:=by repeat' first|apply Ya|exact pcM|(refine X02 h5 rfl ?_;first|(simp<;>omega)|(simp[h1]<;>omega))|(refine Xk h5 (by decide) ?_;first|(simp<;>omega)|(simp[h1]<;>omega))|exact Xz) (k:=fi)⟩
instance Xkj:PCs Tryz.prog 138 (∀ (a0:(List X19)) (r:(List X19)),X26 a0=some r->X0i Tryz.prog 138 [(Lf (a0.map Xt))] (Lt (r.map Xt))):=⟨λa0 r h=>by
 refine X0i.sym X3 X048 (nt:=8) rfl rfl ?_ okM;unfold X26 at h;revert h;refine brI (λq=>?_) λq=>?_
 ·
  intro h;have h1:a0=[]:=List.isEmpty_iff.1 q;refine X0e [] ?_;refine X2.eqNil X3 (may:=true) rfl rfl rfl rfl rfl rfl trivial (by simp[X5n, *]) λb2 qb2=>?_;cases b2
  ·
   revert h;exact λe=>oj e▸X7 [Bf,.ne false] (k:=fi)
  revert h;exact λe=>oj e▸X7 [Bt] (k:=fi)
 intro h;have h1:¬ (a0=[]):=(λe=>by rw[e] at q;cases q);refine X0e [] ?_;refine X2.eqNil X3 (may:=false) rfl rfl rfl rfl rfl rfl trivial (by simp[X5n, *]) λb3 qb3=>?_;obtain rfl:=qb3 rfl;revert h;exact bI λu4 h5=>λe=>oj e▸X7 [Bf,.via (Lt (a0.map Xt))] (o:=by repeat' first|apply Ya|exact pcM|(refine X02 h5 rfl ?_;first|(simp<;>omega)|(simp[h1]<;>omega))|(refine Xk h5 (by decide) ?_;first|(simp<;>omega)|(simp[h1]<;>omega))|exact Xz) (k:=fi)⟩
instance Xge:PCs Tryz.prog 139 (∀ (a0:(List X8)) (r:(List X8)),X15 a0=some r->X0i Tryz.prog 139 [(Lf (a0.map Xm))] (Lt (r.map Xm))):=⟨λa0 r h=>by
 refine X0i.sym X3 X047 (nt:=8) rfl rfl ?_ okM;unfold X15 at h;revert h;refine brI (λq=>?_) λq=>?_
 ·
  intro h;have h1:a0=[]:=List.isEmpty_iff.1 q;refine X0e [] ?_;refine X2.eqNil X3 (may:=true) rfl rfl rfl rfl rfl rfl trivial (by simp[X5n, *]) λb2 qb2=>?_;cases b2
  ·
   revert h;exact λe=>oj e▸X7 [Bf,.ne false] (k:=fi)
  revert h;exact λe=>oj e▸X7 [Bt] (k:=fi)
 intro h;have h1:¬ (a0=[]):=(λe=>by rw[e] at q;cases q);refine X0e [] ?_;refine X2.eqNil X3 (may:=false) rfl rfl rfl rfl rfl rfl trivial (by simp[X5n, *]) λb3 qb3=>?_;obtain rfl:=qb3 rfl;revert h;exact bI λu4 h5=>λe=>oj e▸X7 [Bf,.via (Lt (a0.map Xm))] (o:=by repeat' first|apply Ya|exact pcM|(refine X02 h5 rfl ?_;first|(simp<;>omega)|(simp[h1]<;>omega))|(refine Xk h5 (by decide) ?_;first|(simp<;>omega)|(simp[h1]<;>omega))|exact Xz) (k:=fi)⟩
instance Xxk:PCs Tryz.prog 63 (∀ (a0:Xp) (a1:(List X0a)) (r:Xp×Int),X2w a0 a1=some r->X0i Tryz.prog 63 [(X9 false a0),(Lf (a1.map Xw))] (AV.tup [(X9 true r.1),(aI .i64 r.2)])):=⟨λa0 a1 r h=>by
 refine X0i.sym X3 fn63 (nt:=33) rfl rfl ?_ okM;unfold X2w at h;revert h;refine bI λv1 h2=>brI (λh3=>λe=>oj e▸X7 [.pure _ (aI .i64 v1),Bt] (k:=fi)) λh3=>bI λv4 h5=>brI (λh6=>λe=>oj e▸X7 [.pure _ (aI .i64 v1),Bf,.pure _ (aB v4),Bt] (k:=fi)) λh6=>rnI [.pure _ (aI .i64 v1),Bf,.pure _ (aB v4),Bf,.el (aI .i64 (a1.length:Int)),.el (aI .i64 (a0.Pending.length:Int)),.wrap] ?_;refine brI (λh7=>λe=>oj e▸X7 [Bt] (k:=fi)) λh7=>rnI [Bf] ?_;intro h;refine X2.inline X3 X04s rfl rfl rfl rfl rfl trivial trivial rfl rfl ?_;revert h;refine brI (λq=>?_) λq=>?_
 ·
  intro h;have h32:a0.Pending=[]:=List.isEmpty_iff.1 q;revert h;refine bI λv33 h34=>bI λv35 h36=>bI λv37 h38=>bI λv39 h40=>bI λv41 h42=>rnI [.pure [(Lf (a0.Pending.map Xw))] AV.nils,.pure _ (Lt (List.map (aI .i64) v33)),.pure _ (Lt (v35.map X0)),.pure _ (Lt (v37.map X00)),.pure _ (Lt (v39.map Xt)),.pure _ (Lt (v41.map Xm))] (o:=by repeat' first|apply Ya|exact pcM|exact(pn (X9l _ (by simp[*])) (cc (X5k (X2c Xcx a0.Pending)) cn))|exact Xz) ?_;intro h;refine X2.back (by intro id h;cases h) rfl ?_;revert h;refine brI (λq=>?_) λq=>?_
  ·
   intro h;have h43:a1=[]:=List.isEmpty_iff.1 q;revert h;exact λe=>oj e▸X7 [.ne false] (k:=fi)
  intro h;have h43:¬ (a1=[]):=(λe=>by rw[e] at q;cases q);revert h;exact bI λu44 h45=>λe=>oj e▸X7 [.via (Lt (a1.map Xw))] (o:=by repeat' first|apply Ya|exact pcM|(refine X02 h45 rfl ?_;first|(simp<;>omega)|(simp[h3,h6,h7,h32,h43]<;>omega))|(refine Xk h45 (by decide) ?_;first|(simp<;>omega)|(simp[h3,h6,h7,h32,h43]<;>omega))|exact Xz) (k:=fi)
 intro h;have h32:¬ (a0.Pending=[]):=(λe=>by rw[e] at q;cases q);revert h;refine bI λv46 h47=>bI λv48 h49=>bI λv50 h51=>bI λv52 h53=>bI λv54 h55=>bI λv56 h57=>rnI [.pure _ (Lt (v46.map Xw)),.pure _ (Lt (List.map (aI .i64) v48)),.pure _ (Lt (v50.map X0)),.pure _ (Lt (v52.map X00)),.pure _ (Lt (v54.map Xt)),.pure _ (Lt (v56.map Xm))] ?_;intro h;refine X2.back (by intro id h;cases h) rfl ?_;revert h;refine brI (λq=>?_) λq=>?_
 ·
  intro h;have h58:a1=[]:=List.isEmpty_iff.1 q;revert h;exact λe=>oj e▸X7 [.ne false] (k:=fi)
 intro h;have h58:¬ (a1=[]):=(λe=>by rw[e] at q;cases q);revert h;refine bI λu59 h60=>?_;intro h;cases h⟩
instance Xt6:PCs Tryz.prog 94 (∀ (a0:Int) (r:Bool),X6b a0=some r->X0i Tryz.prog 94 [(aI .i64 a0)] (aB r)):=⟨λa0 r h=>by
 refine X0i.sym X3 fn94 (nt:=7) rfl rfl ?_ okM;unfold X6b at h;revert h;exact bI λv1 h2=>λe=>oj e▸X7 [.pure _ (aI .i64 v1)] (k:=fi)⟩
theorem Xf2 {Q:Xx->St->Mu->Prop} {μ:Mu} (Xhc:(List Int)) (hl:Xhc.length<=140737488355328):∀ (xs:List Int) (k:Nat) (hx:Xhc.drop k=xs) (o:X5u) (h:X3n Xhc xs k  = some o)
  (C0:o=X5u.x0->X2 Tryz.prog 27 0 Q (.exit (.exit 0)) [] ⟨fr [],hp ([]),0⟩ μ)
  (C1:o=X5u.x1->X2 Tryz.prog 27 0 Q (.exit .ret) [] ⟨fr [(2,(aI .i64 8))],hp ([]),0⟩ μ),
  X2 Tryz.prog 27 0 Q (.loop (X48 0 (Xa Tryz.f58))) [] ⟨fr [(13,(Lf (List.map (aI .i64) Xhc))),(14,(aI .i64 (Xhc.length:Int))),(15,(aI .i64 (k:Int)))],hp ([]),0⟩ μ:=by
 intro xs
 induction xs with
 |nil =>
  intro k hx  o h C0 C1;have hk:=drop_nil hx;have hc:decide ((k:Int)<(Xhc.length:Int))=false:=Yf om;rw[X3n] at h;refine X2.round ?_;revert h;exact λe=>X7 [Bf] (k:=wkT [] (C0  (oj e).symm))
 |cons x xs ih =>
  intro k hx  o h C0 C1;obtain⟨hk,hg,hx1⟩:=X12 hx;have hc:decide ((k:Int)<(Xhc.length:Int))=true:=Yt om;rw[X3n] at h;refine X2.round ?_;revert h;refine bI λXti h34=>rnI [Bt,.el (aI .i64 x),.stop 6] ?_;intro h;refine X2.join (s':=⟨fr [(13,(Lf (List.map (aI .i64) Xhc))),(14,(aI .i64 (Xhc.length:Int))),(15,(aI .i64 (k:Int))),(25,(aB Xti))],hp ([]),0⟩) ?_ (λJ=>X2.cut ?_)
  ·
   revert h;refine brI (λh35=>λe=>X7 [Bt] (k:=wkT [] (C1  (oj e).symm))) λh35=>rnI [Bf] ?_;intro h;exact wkT [] (ih (k+1) hx1  o h C0 C1)
  clear h;revert h34;refine brI (λh31=>?_) λh31=>?_
  ·
   refine bI λv32 h33=>?_;intro h;obtain rfl:=oj h;exact X7 [Gt,Gt,.pure _ (aB v32),Gt] (k:=wkT [] (X2.glue J))
  intro h;obtain rfl:=oj h;exact X7 [Gf,Gf,Gf] (k:=wkT [] (X2.glue J))
instance Xv9:PCs Tryz.prog 58 (∀ (a0:(List Int)) (r:Int),X9e a0=some r->X0i Tryz.prog 58 [(Lf (List.map (aI .i64) a0))] (aI .i64 r)):=⟨λa0 r h=>by
 refine X0i.sym X3 fn58 (nt:=27) rfl rfl ?_ okM;unfold X9e at h;revert h;refine bI λXzj h4=>rnI [.stop 1] ?_;intro h;refine X2.join (s':=⟨fr [(0,(Lf (List.map (aI .i64) a0))),(12,(aB Xzj))],hp ([]),0⟩) ?_ (λJ=>X2.cut ?_)
 ·
  revert h;refine brI (λh5=>λe=>oj e▸X7 [Bt] (k:=fi)) λh5=>bI λu6 h7=>?_;have qh7:=X13 h7;refine bI λo36 h37=>rnI [Bf,.el (aI .i64 (a0.length:Int))] ?_;intro h;refine wkT [] (X2.cut (Xf2 a0 qh7 a0 0 (by simp) _ h37 ?_ ?_))
  ·
   intro eo36;subst eo36;refine X2.glue ?_;try dsimp only at h
   revert h;exact λe=>oj e▸X7 [] (k:=fi)
  intro eo36;subst eo36;refine X2.glue ?_;try dsimp only at h
  revert h;exact λe=>oj e▸X7 [] (k:=fi)
 clear h;revert h4;refine brI (λh3=>?_) λh3=>?_
 ·
  intro h;obtain rfl:=oj h;exact X7 [.el (aI .i64 (a0.length:Int)),Gf,Gf,Gf] (k:=wkT [] (X2.glue J))
 intro h;obtain rfl:=oj h;exact X7 [.el (aI .i64 (a0.length:Int)),Gt,Gt,.el (aI .i64 (a0.length:Int)),Gt] (k:=wkT [] (X2.glue J))⟩
theorem X89 {Q:Xx->St->Mu->Prop} {μ:Mu} (X0u:(List Int)):∀ (n:Nat) (Xd1:Int) (Xxh:Int) (o:X2z) (h:X0v X0u n Xd1 Xxh=some o)
  (C0:∀ (Xjm:Int),o=X2z.x0 Xjm->X2 Tryz.prog 25 0 Q (.exit (.exit 0)) [] ⟨fr [(3,(aI .i64 Xjm))],hp ([]),0⟩ μ),
  X2 Tryz.prog 25 0 Q (.loop (X48 0 (Xa Tryz.f59))) [] ⟨fr [(0,(Lf (List.map (aI .i64) X0u))),(3,(aI .i64 Xd1)),(4,(aI .i64 Xxh))],hp ([]),0⟩ μ:=by
 intro n
 induction n with
 |zero=>intro Xd1 Xxh o h C0;cases h
 |succ n ih =>
  intro Xd1 Xxh o h C0;rw[X0v] at h;refine X2.round ?_;revert h;refine brI (λh12=>?_) λh12=>λe=>X7 [.el (aI .i64 (X0u.length:Int)),Bf] (k:=wkT [] (C0 _  (oj e).symm));refine bI λe13 h14=>?_;try have qh14:=Xo h14
  refine rnI [.el (aI .i64 (X0u.length:Int)),Bt,.el (aI .i64 e13),.wrap] ?_;intro h;exact wkT [] (ih  _ _ o h C0)
instance Xj3:PCs Tryz.prog 59 (∀ (a0:(List Int)) (r:Int),X1t a0=some r->X0i Tryz.prog 59 [(Lf (List.map (aI .i64) a0))] (aI .i64 r)):=⟨λa0 r h=>by
 refine X0i.sym X3 fn59 (nt:=25) rfl rfl ?_ okM;unfold X1t at h;revert h;refine brI (λh2=>?_) λh2=>?_
 ·
  intro h;cases h
 refine bI λe3 h4=>?_;try have qh4:=Xo h4
 refine bI λo15 h16=>rnI [.el (aI .i64 (a0.length:Int)),Bf,.el (aI .i64 e3)] ?_;intro h;refine wkT [] (X2.cut (X89 a0 _ _ _ _ h16 ?_));intro Xjm eo15;subst eo15;refine X2.glue ?_;try dsimp only at h
 revert h;exact λe=>oj e▸X7 [] (k:=fi)⟩
instance Xv8:PCs Tryz.prog 27 (∀ (a0:(List Int)) (r:Int×Int),X4z a0=some r->X0i Tryz.prog 27 [(Lf (List.map (aI .i64) a0))] (AV.tup [(aI .i64 r.1),(aI .i64 r.2)])):=⟨λa0 r h=>by
 refine X0i.sym X3 fn27 (nt:=12) rfl rfl ?_ okM;unfold X4z at h;revert h;exact bI λv1 h2=>brI (λh3=>λe=>oj e▸X7 [.pure _ (aI .i64 v1),Bt] (k:=fi)) λh3=>bI λv4 h5=>λe=>oj e▸X7 [.pure _ (aI .i64 v1),Bf,.pure _ (aI .i64 v4)] (k:=fi)⟩
instance Xv7:PCs Tryz.prog 64 (∀ (a0:(List Int)) (a1:Int) (a2:Int) (r:(List Int)×Bool×Int),X62 a0 a1 a2=some r->X0i Tryz.prog 64 [(Lf (List.map (aI .i64) a0)),(aI .i64 a1),(aI .i64 a2)] (AV.tup [(Lt (List.map (aI .i64) r.1)),(aB r.2.1),(aI .i64 r.2.2)])):=⟨λa0 a1 a2 r h=>by
 refine X0i.sym X3 fn64 (nt:=47) rfl rfl ?_ okM;unfold X62 at h;revert h;refine bI λv1 h2=>brI (λh3=>λe=>oj e▸X7 [.pure _ (AV.tup [(aI .i64 v1.1),(aI .i64 v1.2)]),Bt] (k:=fi)) λh3=>bI λXz6 h13=>rnI [.pure _ (AV.tup [(aI .i64 v1.1),(aI .i64 v1.2)]),Bf,.stop 4] ?_;intro h;refine X2.join (s':=⟨fr [(0,(Lf (List.map (aI .i64) a0))),(1,(aI .i64 a1)),(2,(aI .i64 a2)),(9,(aI .i64 v1.1)),(30,(aB Xz6))],hp ([]),0⟩) ?_ (λJ=>X2.cut ?_)
 ·
  revert h;refine brI (λh14=>λe=>oj e▸X7 [Bt] (k:=fi)) λh14=>bI λXi8 h26=>rnI [Bf] ?_;intro h;refine X2.joinOpF (λ(q:Nb Xi8)=>⟨fr [(1,(aI .i64 a1)),(2,(aI .i64 a2)),(9,(aI .i64 v1.1)),(32,(slE q.1 0 (List.map (aI .i64) Xi8)))],hp ([]++opE q.1 0 1 (List.map (aI .i64) Xi8)),1⟩) ?_ (λJ=>?_)
  ·
   rintro Xt4;rcases Xt4 with ⟨_|_,Xtt⟩
   ·
    revert h;refine bI λe27 h28=>?_;try have qh28:=Xo h28
    exact bI λv29 h30=>λe=>oj e▸X7 [.el (aI .i64 e27),.ld (aI .i64 e27),.el (aI .i64 e27),.ld (aI .i64 e27),.pure _ (aI .i64 v29)] (o:=by repeat' first|apply Ya|exact pcM|exact(List.getElem?_set_self (by have hq:=X6r h28;simp;omega)).trans rfl|exact Xz) (k:=fi)
   obtain rfl:=Xtt rfl;revert h;refine bI λe31 h32=>?_;try have qh32:=Xo h32
   intro h
   first|exact absurd (h32) (by simp[X1o];done)|(simp[X1o,h3,h14] at h;done)|(simp[h3,h14] at hg;done)|exact absurd (h32) (by simp[X1o,h3,h14];done)
  clear h;revert h26;intro h;refine X2.inline X3 X026 rfl rfl rfl rfl rfl trivial trivial rfl rfl ?_;revert h;refine brI (λq=>?_) λq=>?_
  ·
   intro h;have h21:a0=[]:=List.isEmpty_iff.1 q;refine X0e [] ?_;refine X2.eqNil X3 (may:=true) rfl rfl rfl rfl rfl rfl trivial (by simp[X5n, *]) λb22 qb22=>?_;cases b22
   ·
    obtain rfl:=oj h;refine X0e [Bf,.ne false] ?_;refine X2.back (by intro id h;cases h) rfl ?_;exact wkT [] ((J nbS))
   obtain rfl:=oj h;refine X0e [Bt] ?_;refine X2.back (by intro id h;cases h) rfl ?_;exact wkT [] ((J nbS))
  intro h;have h21:¬ (a0=[]):=(λe=>by rw[e] at q;cases q);refine X0e [] ?_;refine X2.eqNil X3 (may:=false) rfl rfl rfl rfl rfl rfl trivial (by simp[X5n, *]) λb23 qb23=>?_;obtain rfl:=qb23 rfl;revert h;refine bI λu24 h25=>?_;intro h;obtain rfl:=oj h;refine X0e [Bf,.via (Lt (List.map (aI .i64) a0))] (o:=by repeat' first|apply Ya|exact pcM|(refine X02 h25 rfl ?_;first|(simp<;>omega)|(simp[h3,h14,h21]<;>omega))|(refine Xk h25 (by decide) ?_;first|(simp<;>omega)|(simp[h3,h14,h21]<;>omega))|exact Xz) ?_;refine X2.back (by intro id h;cases h) rfl ?_;exact wkT [(0,1)] ((J nbF))
 clear h;revert h13;refine brI (λh9=>?_) λh9=>?_
 ·
  intro h;obtain rfl:=oj h;exact X7 [Gf,Gf,Gf,Gf,Gf,Gf,Gf] (o:=by repeat' first|apply Ya|exact pcM|exact fq (Xg h9 rfl)|exact Xz) (k:=wkT [] (X2.glue J))
 refine brI (λh10=>?_) λh10=>?_
 ·
  intro h;obtain rfl:=oj h;exact X7 [Gt,Gt,Gt,.el (aI .i64 (a0.length:Int)),Gt,Gf,Gf,Gf] (o:=by repeat' first|apply Ya|exact pcM|exact fq (Xr h9 h10)|exact Xz) (k:=wkT [] (X2.glue J))
 refine bI λv11 h12=>?_;intro h;obtain rfl:=oj h;exact X7 [Gt,Gt,Gt,.el (aI .i64 (a0.length:Int)),Gt,Gt,Gt,.pure _ (aB v11),Gt] (o:=by repeat' first|apply Ya|exact pcM|exact fq (Xr h9 h10)|exact Xz) (k:=wkT [] (X2.glue J))⟩
theorem Xgd {Q:Xx->St->Mu->Prop} {μ:Mu} (X7w:Int) (X2k:(List X1)) (hl:X2k.length<=140737488355328):∀ (xs:List X1) (k:Nat) (hx:X2k.drop k=xs) (Xn:(List X1)) (Xi:(List X1)) (X1r:Nb Xn) (Xq:Nb Xi) (o:X93) (h:X3d X7w X2k xs k Xn Xi=some o)
  (C0:∀ (X07:(List X1)) (X09:(List X1)) (X0o:Nb X07) (X0p:Nb X09),o=X93.x0 X07 X09->X2 Tryz.prog 37 0 Q (.exit (.exit 0)) [] ⟨fr [(4,(slE X0o.1 0 (X07.map X0))),(5,(slE X0p.1 1 (X09.map X0)))],hp ([]++opE X0o.1 0 11 (X07.map X0)++opE X0p.1 1 11 (X09.map X0)),2⟩ μ),
  X2 Tryz.prog 37 0 Q (.loop (X48 0 (Xa Tryz.f65))) [] ⟨fr [(1,(aI .i64 X7w)),(4,(slE X1r.1 0 (Xn.map X0))),(5,(slE Xq.1 1 (Xi.map X0))),(15,(Lf (X2k.map X0))),(16,(aI .i64 (X2k.length:Int))),(17,(aI .i64 (k:Int)))],hp ([]++opE X1r.1 0 11 (Xn.map X0)++opE Xq.1 1 11 (Xi.map X0)),2⟩ μ:=by
 intro xs
 induction xs with
 |nil =>
  intro k hx Xn Xi X1r Xq o h C0;have hk:=drop_nil hx;have hc:decide ((k:Int)<(X2k.length:Int))=false:=Yf om;rw[X3d] at h;rcases X1r with ⟨_|_,X5d⟩
  ·
   rcases Xq with ⟨_|_,X0f⟩
   ·
    refine X2.round ?_;revert h;exact λe=>X7 [Bf] (k:=wkT [] (C0 _ _  nbF nbF (oj e).symm))
   obtain rfl:=X0f rfl;refine X2.round ?_;revert h;exact λe=>X7 [Bf] (k:=wkT [] (C0 _ _  nbF nbS (oj e).symm))
  ·
   obtain rfl:=X5d rfl;rcases Xq with ⟨_|_,X0f⟩
   ·
    refine X2.round ?_;revert h;exact λe=>X7 [Bf] (k:=wkT [] (C0 _ _  nbS nbF (oj e).symm))
   ·
    obtain rfl:=X0f rfl;refine X2.round ?_;revert h;exact λe=>X7 [Bf] (k:=wkT [] (C0 _ _  nbS nbS (oj e).symm))
 |cons x xs ih =>
  intro k hx Xn Xi X1r Xq o h C0;obtain⟨hk,hg,hx1⟩:=X12 hx;have hc:decide ((k:Int)<(X2k.length:Int))=true:=Yt om;rw[X3d] at h;rcases X1r with ⟨_|_,X5d⟩
  ·
   rcases Xq with ⟨_|_,X0f⟩
   ·
    refine X2.round ?_;revert h;refine bI λw108 h114=>?_;intro h;obtain⟨Xol,Xok⟩:=w108;try dsimp only at h
    refine X0e [Bt,.el (X0 x)] ?_;refine X2.joinF (λ(q:Nb Xol×Nb Xok)=>⟨fr [(1,(aI .i64 X7w)),(4,(slE q.1.1 0 (Xol.map X0))),(5,(slE q.2.1 1 (Xok.map X0))),(15,(Lf (X2k.map X0))),(16,(aI .i64 (X2k.length:Int))),(17,(aI .i64 (k:Int)))],hp ([]++opE q.1.1 0 11 (Xol.map X0)++opE q.2.1 1 11 (Xok.map X0)),2⟩) ?_ (λJ=>X2.cut ?_)
    ·
     rintro⟨Xqu,Xk3⟩;rcases Xqu with ⟨_|_,Xr9⟩
     ·
      rcases Xk3 with ⟨_|_,Xff⟩
      ·
       exact X7 [] (k:=wkT [] (ih (k+1) hx1 _ _ nbF nbF o h C0))
      obtain rfl:=Xff rfl;exact X7 [] (k:=wkT [] (ih (k+1) hx1 _ _ nbF nbS o h C0))
     obtain rfl:=Xr9 rfl;rcases Xk3 with ⟨_|_,Xff⟩
     ·
      exact X7 [] (k:=wkT [] (ih (k+1) hx1 _ _ nbS nbF o h C0))
     obtain rfl:=Xff rfl;exact X7 [] (k:=wkT [] (ih (k+1) hx1 _ _ nbS nbS o h C0))
    clear h;revert h114;refine brI (λh109=>?_) λh109=>?_
    ·
     refine bI λu110 h111=>?_;intro h;simp only[Option.some.injEq,Prod.mk.injEq] at h;obtain⟨rfl,rfl⟩:=h;exact X7 [Bt,.no] (o:=by repeat' first|apply Ya|exact pcM|(refine X02 h111 rfl ?_;first|(simp<;>omega)|(simp[hc,h109]<;>omega))|(refine Xk h111 (by decide) ?_;first|(simp<;>omega)|(simp[hc,h109]<;>omega))|exact Xz) (k:=wkT [(0,4)] (X2.glue (J (nbF,nbF))))
    refine bI λu112 h113=>?_;intro h;simp only[Option.some.injEq,Prod.mk.injEq] at h;obtain⟨rfl,rfl⟩:=h;exact X7 [Bf,.no] (o:=by repeat' first|apply Ya|exact pcM|(refine X02 h113 rfl ?_;first|(simp<;>omega)|(simp[hc,h109]<;>omega))|(refine Xk h113 (by decide) ?_;first|(simp<;>omega)|(simp[hc,h109]<;>omega))|exact Xz) (k:=wkT [(1,4)] (X2.glue (J (nbF,nbF))))
   obtain rfl:=X0f rfl;refine X2.round ?_;revert h;refine bI λw120 h126=>?_;intro h;obtain⟨Xoj,Xoi⟩:=w120;try dsimp only at h
   refine X0e [Bt,.el (X0 x)] ?_;refine X2.joinF (λ(q:Nb Xoj×Nb Xoi)=>⟨fr [(1,(aI .i64 X7w)),(4,(slE q.1.1 0 (Xoj.map X0))),(5,(slE q.2.1 1 (Xoi.map X0))),(15,(Lf (X2k.map X0))),(16,(aI .i64 (X2k.length:Int))),(17,(aI .i64 (k:Int)))],hp ([]++opE q.1.1 0 11 (Xoj.map X0)++opE q.2.1 1 11 (Xoi.map X0)),2⟩) ?_ (λJ=>X2.cut ?_)
   ·
    rintro⟨Xqt,Xk2⟩;rcases Xqt with ⟨_|_,Xr8⟩
    ·
     rcases Xk2 with ⟨_|_,Xfe⟩
     ·
      exact X7 [] (k:=wkT [] (ih (k+1) hx1 _ _ nbF nbF o h C0))
     obtain rfl:=Xfe rfl;exact X7 [] (k:=wkT [] (ih (k+1) hx1 _ _ nbF nbS o h C0))
    obtain rfl:=Xr8 rfl;rcases Xk2 with ⟨_|_,Xfe⟩
    ·
     exact X7 [] (k:=wkT [] (ih (k+1) hx1 _ _ nbS nbF o h C0))
    obtain rfl:=Xfe rfl;exact X7 [] (k:=wkT [] (ih (k+1) hx1 _ _ nbS nbS o h C0))
   clear h;revert h126;refine brI (λh121=>?_) λh121=>?_
   ·
    refine bI λu122 h123=>?_;intro h;simp only[Option.some.injEq,Prod.mk.injEq] at h;obtain⟨rfl,rfl⟩:=h;exact X7 [Bt,.no] (o:=by repeat' first|apply Ya|exact pcM|(refine X02 h123 rfl ?_;first|(simp<;>omega)|(simp[hc,h121]<;>omega))|(refine Xk h123 (by decide) ?_;first|(simp<;>omega)|(simp[hc,h121]<;>omega))|exact Xz) (k:=wkT [(0,4)] (X2.glue (J (nbF,nbS))))
   refine bI λu124 h125=>?_;intro h;simp only[Option.some.injEq,Prod.mk.injEq] at h;obtain⟨rfl,rfl⟩:=h;exact X7 [Bf,.no] (o:=by repeat' first|apply Ya|exact pcM|(refine X02 h125 rfl ?_;first|(simp<;>omega)|(simp[hc,h121]<;>omega))|(refine Xk h125 (by decide) ?_;first|(simp<;>omega)|(simp[hc,h121]<;>omega))|exact Xz) (k:=wkT [(1,4)] (X2.glue (J (nbF,nbF))))
  obtain rfl:=X5d rfl;rcases Xq with ⟨_|_,X0f⟩
  ·
   refine X2.round ?_;revert h;refine bI λw132 h138=>?_;intro h;obtain⟨Xog,Xof⟩:=w132;try dsimp only at h
   refine X0e [Bt,.el (X0 x)] ?_;refine X2.joinF (λ(q:Nb Xog×Nb Xof)=>⟨fr [(1,(aI .i64 X7w)),(4,(slE q.1.1 0 (Xog.map X0))),(5,(slE q.2.1 1 (Xof.map X0))),(15,(Lf (X2k.map X0))),(16,(aI .i64 (X2k.length:Int))),(17,(aI .i64 (k:Int)))],hp ([]++opE q.1.1 0 11 (Xog.map X0)++opE q.2.1 1 11 (Xof.map X0)),2⟩) ?_ (λJ=>X2.cut ?_)
   ·
    rintro⟨Xqs,Xk1⟩;rcases Xqs with ⟨_|_,Xr7⟩
    ·
     rcases Xk1 with ⟨_|_,Xfd⟩
     ·
      exact X7 [] (k:=wkT [] (ih (k+1) hx1 _ _ nbF nbF o h C0))
     obtain rfl:=Xfd rfl;exact X7 [] (k:=wkT [] (ih (k+1) hx1 _ _ nbF nbS o h C0))
    obtain rfl:=Xr7 rfl;rcases Xk1 with ⟨_|_,Xfd⟩
    ·
     exact X7 [] (k:=wkT [] (ih (k+1) hx1 _ _ nbS nbF o h C0))
    obtain rfl:=Xfd rfl;exact X7 [] (k:=wkT [] (ih (k+1) hx1 _ _ nbS nbS o h C0))
   clear h;revert h138;refine brI (λh133=>?_) λh133=>?_
   ·
    refine bI λu134 h135=>?_;intro h;simp only[Option.some.injEq,Prod.mk.injEq] at h;obtain⟨rfl,rfl⟩:=h;exact X7 [Bt,.no] (o:=by repeat' first|apply Ya|exact pcM|(refine X02 h135 rfl ?_;first|(simp<;>omega)|(simp[hc,h133]<;>omega))|(refine Xk h135 (by decide) ?_;first|(simp<;>omega)|(simp[hc,h133]<;>omega))|exact Xz) (k:=wkT [(0,4)] (X2.glue (J (nbF,nbF))))
   refine bI λu136 h137=>?_;intro h;simp only[Option.some.injEq,Prod.mk.injEq] at h;obtain⟨rfl,rfl⟩:=h;exact X7 [Bf,.no] (o:=by repeat' first|apply Ya|exact pcM|(refine X02 h137 rfl ?_;first|(simp<;>omega)|(simp[hc,h133]<;>omega))|(refine Xk h137 (by decide) ?_;first|(simp<;>omega)|(simp[hc,h133]<;>omega))|exact Xz) (k:=wkT [(1,4)] (X2.glue (J (nbS,nbF))))
  obtain rfl:=X0f rfl;refine X2.round ?_;revert h;refine bI λw144 h150=>?_;intro h;obtain⟨Xoe,Xod⟩:=w144;try dsimp only at h
  refine X0e [Bt,.el (X0 x)] ?_;refine X2.joinF (λ(q:Nb Xoe×Nb Xod)=>⟨fr [(1,(aI .i64 X7w)),(4,(slE q.1.1 0 (Xoe.map X0))),(5,(slE q.2.1 1 (Xod.map X0))),(15,(Lf (X2k.map X0))),(16,(aI .i64 (X2k.length:Int))),(17,(aI .i64 (k:Int)))],hp ([]++opE q.1.1 0 11 (Xoe.map X0)++opE q.2.1 1 11 (Xod.map X0)),2⟩) ?_ (λJ=>X2.cut ?_)
  ·
   rintro⟨Xqr,Xk0⟩;rcases Xqr with ⟨_|_,Xr6⟩
   ·
    rcases Xk0 with ⟨_|_,Xfc⟩
    ·
     exact X7 [] (k:=wkT [] (ih (k+1) hx1 _ _ nbF nbF o h C0))
    obtain rfl:=Xfc rfl;exact X7 [] (k:=wkT [] (ih (k+1) hx1 _ _ nbF nbS o h C0))
   obtain rfl:=Xr6 rfl;rcases Xk0 with ⟨_|_,Xfc⟩
   ·
    exact X7 [] (k:=wkT [] (ih (k+1) hx1 _ _ nbS nbF o h C0))
   obtain rfl:=Xfc rfl;exact X7 [] (k:=wkT [] (ih (k+1) hx1 _ _ nbS nbS o h C0))
  clear h;revert h150;refine brI (λh145=>?_) λh145=>?_
  ·
   refine bI λu146 h147=>?_;intro h;simp only[Option.some.injEq,Prod.mk.injEq] at h;obtain⟨rfl,rfl⟩:=h;exact X7 [Bt,.no] (o:=by repeat' first|apply Ya|exact pcM|(refine X02 h147 rfl ?_;first|(simp<;>omega)|(simp[hc,h145]<;>omega))|(refine Xk h147 (by decide) ?_;first|(simp<;>omega)|(simp[hc,h145]<;>omega))|exact Xz) (k:=wkT [(0,4)] (X2.glue (J (nbF,nbS))))
  refine bI λu148 h149=>?_;intro h;simp only[Option.some.injEq,Prod.mk.injEq] at h;obtain⟨rfl,rfl⟩:=h;exact X7 [Bf,.no] (o:=by repeat' first|apply Ya|exact pcM|(refine X02 h149 rfl ?_;first|(simp<;>omega)|(simp[hc,h145]<;>omega))|(refine Xk h149 (by decide) ?_;first|(simp<;>omega)|(simp[hc,h145]<;>omega))|exact Xz) (k:=wkT [(1,4)] (X2.glue (J (nbS,nbF))))
instance Xvs:PCs Tryz.prog 65 (∀ (a0:(List X1)) (a1:Int) (r:(List X1)×(List X1)×Int),X78 a0 a1=some r->X0i Tryz.prog 65 [(Lf (a0.map X0)),(aI .i64 a1)] (AV.tup [(Lt (r.1.map X0)),(Lt (r.2.1.map X0)),(aI .i64 r.2.2)])):=⟨λa0 a1 r h=>by
 refine X0i.sym X3 fn65 (nt:=37) rfl rfl ?_ okM;unfold X78 at h;revert h;refine bI λv1 h2=>brI (λh3=>λe=>oj e▸X7 [.pure _ (aI .i64 v1),Bt] (k:=fi)) λh3=>bI λu4 h5=>?_;have qh5:=X13 h5;refine bI λo151 h152=>rnI [.pure _ (aI .i64 v1),Bf,.el (aI .i64 (a0.length:Int))] ?_;intro h;refine wkT [] (X2.cut (Xgd a1 a0 qh5 a0 0 (by simp) _ _ nbS nbS _ h152 ?_));intro X07 X09 X0o X0p eo151;subst eo151;refine X2.glue ?_;try dsimp only at h
 rcases X0o with ⟨_|_,X3u⟩<;>(try obtain rfl:=X3u rfl);all_goals
  rcases X0p with ⟨_|_,X3t⟩<;>(try obtain rfl:=X3t rfl);all_goals
   revert h;exact λe=>oj e▸X7 [] (k:=fi)⟩
end Go.Av.Tryz