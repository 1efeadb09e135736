/- Printed by decomp.py: that the program computes the functions. -/
import Derived.Test.YtkjlgmgfhgamlaaGreatDCert6Z
set_option linter.all false

namespace Go.Av.Tryz
open Go.Proofs Go.D
set_option maxRecDepth 10000
set_option maxHeartbeats 40000000
instance Xmn:PCs Tryz.prog 136 (∀ (a0:(List X09)) (r:(List X09)),X5c a0=some r->X0b Tryz.prog 136 [(Lf (a0.map Xc))] (Lt (r.map Xc))):=⟨λa0 r h=>by
 refine X0b.sym X3 X0a5 (nt:=8) rfl rfl ?_ okM;unfold X5c at h;revert h;refine brI (λq=>?_) λq=>?_
 ·
  intro h;have h1:a0=[]:=List.isEmpty_iff.1 q;refine X0j [] ?_;refine X2.eqNil X3 (may:=true) rfl rfl rfl rfl rfl rfl trivial (by simp[X6f, *]) λb2 qb2=>?_;cases b2
  ·
   revert h;exact λe=>oj e▸X6 [Bf,.ne false] (k:=fi)
  revert h;exact λe=>oj e▸X6 [Bt] (k:=fi)
 intro h;have h1:¬ (a0=[]):=(λe=>by rw[e] at q;cases q);refine X0j [] ?_;refine X2.eqNil X3 (may:=false) rfl rfl rfl rfl rfl rfl trivial (by simp[X6f, *]) λb3 qb3=>?_;obtain rfl:=qb3 rfl;revert h;exact bI λu4 h5=>λe=>oj e▸X6 [Bf,.via (Lt (a0.map Xc))] (o:=by repeat' first|apply Ya|exact pcM|(refine X0r h5 rfl ?_;first|(simp<;>omega)|(simp[h1]<;>omega))|(refine X08 h5 (by decide) ?_;first|(simp<;>omega)|(simp[h1]<;>omega))|exact Xu) (k:=fi)⟩
theorem Xbv (a0:List X09) (h1:a0=[]):X0b Tryz.prog 136 [(Lf (a0.map Xc))] AV.nils:=by
 refine X0b.sym X3 X0a5 (nt:=8) rfl rfl ?_ (X0z .list X8i);refine X0j [] ?_;refine X2.eqNil X3 (may:=true) rfl rfl rfl rfl rfl rfl trivial (by simp[X6f, *]) λb2 qb2=>?_;cases b2
 ·
  refine X0j [Bf,.ne false] ?_;exact Xp2 rfl .nils0
 refine X0j [Bt] ?_;exact Xp2 rfl .nils0
instance Xl6:PCs Tryz.prog 104 (∀ (a0:(List Int)) (r:(List Int)),X1m a0=some r->X0b Tryz.prog 104 [(Lf (List.map (aI .i64) a0))] (Lt (List.map (aI .i64) r))):=⟨λa0 r h=>by
 refine X0b.sym X3 X0a8 (nt:=8) rfl rfl ?_ okM;unfold X1m at h;revert h;refine brI (λq=>?_) λq=>?_
 ·
  intro h;have h1:a0=[]:=List.isEmpty_iff.1 q;refine X0j [] ?_;refine X2.eqNil X3 (may:=true) rfl rfl rfl rfl rfl rfl trivial (by simp[X6f, *]) λb2 qb2=>?_;cases b2
  ·
   revert h;exact λe=>oj e▸X6 [Bf,.ne false] (k:=fi)
  revert h;exact λe=>oj e▸X6 [Bt] (k:=fi)
 intro h;have h1:¬ (a0=[]):=(λe=>by rw[e] at q;cases q);refine X0j [] ?_;refine X2.eqNil X3 (may:=false) rfl rfl rfl rfl rfl rfl trivial (by simp[X6f, *]) λb3 qb3=>?_;obtain rfl:=qb3 rfl;revert h;exact bI λu4 h5=>λe=>oj e▸X6 [Bf,.via (Lt (List.map (aI .i64) a0))] (o:=by repeat' first|apply Ya|exact pcM|(refine X0r h5 rfl ?_;first|(simp<;>omega)|(simp[h1]<;>omega))|(refine X08 h5 (by decide) ?_;first|(simp<;>omega)|(simp[h1]<;>omega))|exact Xu) (k:=fi)⟩
instance Xl8:PCs Tryz.prog 80 (∀ (a0:(List X1)) (r:(List X1)),X1o a0=some r->X0b Tryz.prog 80 [(Lf (a0.map X0))] (Lt (r.map X0))):=⟨λa0 r h=>by
 refine X0b.sym X3 fn80 (nt:=8) rfl rfl ?_ okM;unfold X1o at h;revert h;refine brI (λq=>?_) λq=>?_
 ·
  intro h;have h1:a0=[]:=List.isEmpty_iff.1 q;refine X0j [] ?_;refine X2.eqNil X3 (may:=true) rfl rfl rfl rfl rfl rfl trivial (by simp[X6f, *]) λb2 qb2=>?_;cases b2
  ·
   revert h;exact λe=>oj e▸X6 [Bf,.ne false] (k:=fi)
  revert h;exact λe=>oj e▸X6 [Bt] (k:=fi)
 intro h;have h1:¬ (a0=[]):=(λe=>by rw[e] at q;cases q);refine X0j [] ?_;refine X2.eqNil X3 (may:=false) rfl rfl rfl rfl rfl rfl trivial (by simp[X6f, *]) λb3 qb3=>?_;obtain rfl:=qb3 rfl;revert h;exact bI λu4 h5=>λe=>oj e▸X6 [Bf,.via (Lt (a0.map X0))] (o:=by repeat' first|apply Ya|exact pcM|(refine X0r h5 rfl ?_;first|(simp<;>omega)|(simp[h1]<;>omega))|(refine X08 h5 (by decide) ?_;first|(simp<;>omega)|(simp[h1]<;>omega))|exact Xu) (k:=fi)⟩
instance Xl7:PCs Tryz.prog 137 (∀ (a0:(List X01)) (r:(List X01)),X1n a0=some r->X0b Tryz.prog 137 [(Lf (a0.map X8))] (Lt (r.map X8))):=⟨λa0 r h=>by
 refine X0b.sym X3 X0cy (nt:=8) rfl rfl ?_ okM;unfold X1n at h;revert h;refine brI (λq=>?_) λq=>?_
 ·
  intro h;have h1:a0=[]:=List.isEmpty_iff.1 q;refine X0j [] ?_;refine X2.eqNil X3 (may:=true) rfl rfl rfl rfl rfl rfl trivial (by simp[X6f, *]) λb2 qb2=>?_;cases b2
  ·
   revert h;exact λe=>oj e▸X6 [Bf,.ne false] (k:=fi)
  revert h;exact λe=>oj e▸X6 [Bt] (k:=fi)
 intro h;have h1:¬ (a0=[]):=(λe=>by rw[e] at q;cases q);refine X0j [] ?_;refine X2.eqNil X3 (may:=false) rfl rfl rfl rfl rfl rfl trivial (by simp[X6f, *]) λb3 qb3=>?_;obtain rfl:=qb3 rfl;revert h;exact bI λu4 h5=>λe=>oj e▸X6 [Bf,.via (Lt (a0.map X8))] (o:=by repeat' first|apply Ya|exact pcM|(refine X0r h5 rfl ?_;first|(simp<;>omega)|(simp[h1]<;>omega))|(refine X08 h5 (by decide) ?_;first|(simp<;>omega)|(simp[h1]<;>omega))|exact Xu) (k:=fi)⟩
instance Xo7:PCs Tryz.prog 138 (∀ (a0:(List X1b)) (r:(List X1b)),X2h a0=some r->X0b Tryz.prog 138 [(Lf (a0.map Xf))] (Lt (r.map Xf))):=⟨λa0 r h=>by
 refine X0b.sym X3 X0cx (nt:=8) rfl rfl ?_ okM;unfold X2h at h;revert h;refine brI (λq=>?_) λq=>?_
 ·
  intro h;have h1:a0=[]:=List.isEmpty_iff.1 q;refine X0j [] ?_;refine X2.eqNil X3 (may:=true) rfl rfl rfl rfl rfl rfl trivial (by simp[X6f, *]) λb2 qb2=>?_;cases b2
  ·
   revert h;exact λe=>oj e▸X6 [Bf,.ne false] (k:=fi)
  revert h;exact λe=>oj e▸X6 [Bt] (k:=fi)
 intro h;have h1:¬ (a0=[]):=(λe=>by rw[e] at q;cases q);refine X0j [] ?_;refine X2.eqNil X3 (may:=false) rfl rfl rfl rfl rfl rfl trivial (by simp[X6f, *]) λb3 qb3=>?_;obtain rfl:=qb3 rfl;revert h;exact bI λu4 h5=>λe=>oj e▸X6 [Bf,.via (Lt (a0.map Xf))] (o:=by repeat' first|apply Ya|exact pcM|(refine X0r h5 rfl ?_;first|(simp<;>omega)|(simp[h1]<;>omega))|(refine X08 h5 (by decide) ?_;first|(simp<;>omega)|(simp[h1]<;>omega))|exact Xu) (k:=fi)⟩
instance Xjx:PCs Tryz.prog 139 (∀ (a0:(List Xg)) (r:(List Xg)),X1c a0=some r->X0b Tryz.prog 139 [(Lf (a0.map X5))] (Lt (r.map X5))):=⟨λa0 r h=>by
 refine X0b.sym X3 X0cw (nt:=8) rfl rfl ?_ okM;unfold X1c at h;revert h;refine brI (λq=>?_) λq=>?_
 ·
  intro h;have h1:a0=[]:=List.isEmpty_iff.1 q;refine X0j [] ?_;refine X2.eqNil X3 (may:=true) rfl rfl rfl rfl rfl rfl trivial (by simp[X6f, *]) λb2 qb2=>?_;cases b2
  ·
   revert h;exact λe=>oj e▸X6 [Bf,.ne false] (k:=fi)
  revert h;exact λe=>oj e▸X6 [Bt] (k:=fi)
 intro h;have h1:¬ (a0=[]):=(λe=>by rw[e] at q;cases q);refine X0j [] ?_;refine X2.eqNil X3 (may:=false) rfl rfl rfl rfl rfl rfl trivial (by simp[X6f, *]) λb3 qb3=>?_;obtain rfl:=qb3 rfl;revert h;exact bI λu4 h5=>λe=>oj e▸X6 [Bf,.via (Lt (a0.map X5))] (o:=by repeat' first|apply Ya|exact pcM|(refine X0r h5 rfl ?_;first|(simp<;>omega)|(simp[h1]<;>omega))|(refine X08 h5 (by decide) ?_;first|(simp<;>omega)|(simp[h1]<;>omega))|exact Xu) (k:=fi)⟩
instance X04r:PCs Tryz.prog 63 (∀ (a0:Xo) (a1:(List X09)) (r:Xo×Int),X52 a0 a1=some r->X0b Tryz.prog 63 [(Xa false a0),(Lf (a1.map Xc))] (AV.tup [(Xa true r.1),(aI .i64 r.2)])):=⟨λa0 a1 r h=>by
 refine X0b.sym X3 fn63 (nt:=33) rfl rfl ?_ okM;unfold X52 at h;revert h;refine bI λv1 h2=>brI (λh3=>λe=>oj e▸X6 [.pure _ (aI .i64 v1),Bt] (k:=fi)) λh3=>bI λv4 h5=>brI (λh6=>λe=>oj e▸X6 [.pure _ (aI .i64 v1),Bf,.pure _ (aB v4),Bt] (k:=fi)) λh6=>rnI [.pure _ (aI .i64 v1),Bf,.pure _ (aB v4),Bf,.el (aI .i64 (a1.length:Int)),.el (aI .i64 (a0.Pending.length:Int)),.wrap] ?_;refine brI (λh7=>λe=>oj e▸X6 [Bt] (k:=fi)) λh7=>rnI [Bf] ?_;intro h;refine X2.inline X3 X0do rfl rfl rfl rfl rfl trivial trivial rfl rfl ?_;revert h;refine brI (λq=>?_) λq=>?_
 ·
  intro h;have h32:a0.Pending=[]:=List.isEmpty_iff.1 q;revert h;refine bI λv33 h34=>bI λv35 h36=>bI λv37 h38=>bI λv39 h40=>bI λv41 h42=>rnI [.pure [(Lf (a0.Pending.map Xc))] AV.nils,.pure _ (Lt (List.map (aI .i64) v33)),.pure _ (Lt (v35.map X0)),.pure _ (Lt (v37.map X8)),.pure _ (Lt (v39.map Xf)),.pure _ (Lt (v41.map X5))] (o:=by repeat' first|apply Ya|exact pcM|exact(pn (Xbv _ (by simp[*])) (cc (X6a (X16 Xd6 a0.Pending)) cn))|exact Xu) ?_;intro h;refine X2.back (by intro id h;cases h) rfl ?_;revert h;refine brI (λq=>?_) λq=>?_
  ·
   intro h;have h43:a1=[]:=List.isEmpty_iff.1 q;revert h;exact λe=>oj e▸X6 [.ne false] (k:=fi)
  intro h;have h43:¬ (a1=[]):=(λe=>by rw[e] at q;cases q);revert h;exact bI λu44 h45=>λe=>oj e▸X6 [.via (Lt (a1.map Xc))] (o:=by repeat' first|apply Ya|exact pcM|(refine X0r h45 rfl ?_;first|(simp<;>omega)|(simp[h3,h6,h7,h32,h43]<;>omega))|(refine X08 h45 (by decide) ?_;first|(simp<;>omega)|(simp[h3,h6,h7,h32,h43]<;>omega))|exact Xu) (k:=fi)
 intro h;have h32:¬ (a0.Pending=[]):=(λe=>by rw[e] at q;cases q);revert h;refine bI λv46 h47=>bI λv48 h49=>bI λv50 h51=>bI λv52 h53=>bI λv54 h55=>bI λv56 h57=>rnI [.pure _ (Lt (v46.map Xc)),.pure _ (Lt (List.map (aI .i64) v48)),.pure _ (Lt (v50.map X0)),.pure _ (Lt (v52.map X8)),.pure _ (Lt (v54.map Xf)),.pure _ (Lt (v56.map X5))] ?_;intro h;refine X2.back (by intro id h;cases h) rfl ?_;revert h;refine brI (λq=>?_) λq=>?_
 ·
  intro h;have h58:a1=[]:=List.isEmpty_iff.1 q;revert h;exact λe=>oj e▸X6 [.ne false] (k:=fi)
 intro h;have h58:¬ (a1=[]):=(λe=>by rw[e] at q;cases q);revert h;refine bI λu59 h60=>?_;intro h;cases h⟩
instance Xym:PCs Tryz.prog 94 (∀ (a0:Int) (r:Bool),X7l a0=some r->X0b Tryz.prog 94 [(aI .i64 a0)] (aB r)):=⟨λa0 r h=>by
 refine X0b.sym X3 fn94 (nt:=7) rfl rfl ?_ okM;unfold X7l at h;revert h;exact bI λv1 h2=>λe=>oj e▸X6 [.pure _ (aI .i64 v1)] (k:=fi)⟩
theorem Xin {Q:X03->St->Mu->Prop} {μ:Mu} (Xbt:(List Int)) (hl:Xbt.length<=140737488355328):∀ (xs:List Int) (k:Nat) (hx:Xbt.drop k=xs) (o:X6t) (h:X4b Xbt xs k  = some o)
  (C0:o=X6t.x0->X2 Tryz.prog 27 0 Q (.exit (.exit 0)) [] ⟨fr [],hp ([]),0⟩ μ)
  (C1:o=X6t.x1->X2 Tryz.prog 27 0 Q (.exit .ret) [] ⟨fr [(2,(aI .i64 8))],hp ([]),0⟩ μ),
  X2 Tryz.prog 27 0 Q (.loop (X2o 0 (Xd Tryz.f58))) [] ⟨fr [(13,(Lf (List.map (aI .i64) Xbt))),(14,(aI .i64 (Xbt.length:Int))),(15,(aI .i64 (k:Int)))],hp ([]),0⟩ μ:=by
 intro xs
 induction xs with
 |nil =>
  intro k hx  o h C0 C1;have hk:=X1g hx;have hc:decide ((k:Int)<(Xbt.length:Int))=false:=Yf om;rw[X4b] at h;refine X2.round ?_;revert h;exact λe=>X6 [Bf] (k:=wkT [] (C0  (oj e).symm))
 |cons x xs ih =>
  intro k hx  o h C0 C1;obtain⟨hk,hg,hx1⟩:=X0u hx;have hc:decide ((k:Int)<(Xbt.length:Int))=true:=Yt om;rw[X4b] at h;refine X2.round ?_;revert h;refine bI λXz6 h34=>rnI [Bt,.el (aI .i64 x),.stop 6] ?_;intro h;refine X2.join (s':=⟨fr [(13,(Lf (List.map (aI .i64) Xbt))),(14,(aI .i64 (Xbt.length:Int))),(15,(aI .i64 (k:Int))),(25,(aB Xz6))],hp ([]),0⟩) ?_ (λJ=>X2.cut ?_)
  ·
   revert h;refine brI (λh35=>λe=>X6 [Bt] (k:=wkT [] (C1  (oj e).symm))) λh35=>rnI [Bf] ?_;intro h;exact wkT [] (ih (k+1) hx1  o h C0 C1)
  clear h;revert h34;refine brI (λh31=>?_) λh31=>?_
  ·
   refine bI λv32 h33=>?_;intro h;obtain rfl:=oj h;exact X6 [Gt,Gt,.pure _ (aB v32),Gt] (k:=wkT [] (X2.glue J))
  intro h;obtain rfl:=oj h;exact X6 [Gf,Gf,Gf] (k:=wkT [] (X2.glue J))
instance X01w:PCs Tryz.prog 58 (∀ (a0:(List Int)) (r:Int),Xbk a0=some r->X0b Tryz.prog 58 [(Lf (List.map (aI .i64) a0))] (aI .i64 r)):=⟨λa0 r h=>by
 refine X0b.sym X3 fn58 (nt:=27) rfl rfl ?_ okM;unfold Xbk at h;revert h;refine bI λX07c h4=>rnI [.stop 1] ?_;intro h;refine X2.join (s':=⟨fr [(0,(Lf (List.map (aI .i64) a0))),(12,(aB X07c))],hp ([]),0⟩) ?_ (λJ=>X2.cut ?_)
 ·
  revert h;refine brI (λh5=>λe=>oj e▸X6 [Bt] (k:=fi)) λh5=>bI λu6 h7=>?_;have qh7:=X0v h7;refine bI λo36 h37=>rnI [Bf,.el (aI .i64 (a0.length:Int))] ?_;intro h;refine wkT [] (X2.cut (Xin a0 qh7 a0 0 (by simp) _ h37 ?_ ?_))
  ·
   intro eo36;subst eo36;refine X2.glue ?_;try dsimp only at h
   revert h;exact λe=>oj e▸X6 [] (k:=fi)
  intro eo36;subst eo36;refine X2.glue ?_;try dsimp only at h
  revert h;exact λe=>oj e▸X6 [] (k:=fi)
 clear h;revert h4;refine brI (λh3=>?_) λh3=>?_
 ·
  intro h;obtain rfl:=oj h;exact X6 [.el (aI .i64 (a0.length:Int)),Gf,Gf,Gf] (k:=wkT [] (X2.glue J))
 intro h;obtain rfl:=oj h;exact X6 [.el (aI .i64 (a0.length:Int)),Gt,Gt,.el (aI .i64 (a0.length:Int)),Gt] (k:=wkT [] (X2.glue J))⟩
theorem Xa2 {Q:X03->St->Mu->Prop} {μ:Mu} (X0c:(List Int)):∀ (n:Nat) (X9a:Int) (Xjp:Int) (o:X3f) (h:X0y X0c n X9a Xjp=some o)
  (C0:∀ (X76:Int),o=X3f.x0 X76->X2 Tryz.prog 25 0 Q (.exit (.exit 0)) [] ⟨fr [(3,(aI .i64 X76))],hp ([]),0⟩ μ),
  X2 Tryz.prog 25 0 Q (.loop (X2o 0 (Xd Tryz.f59))) [] ⟨fr [(0,(Lf (List.map (aI .i64) X0c))),(3,(aI .i64 X9a)),(4,(aI .i64 Xjp))],hp ([]),0⟩ μ:=by
 intro n
 induction n with
 |zero=>intro X9a Xjp o h C0;cases h
 |succ n ih =>
  intro X9a Xjp o h C0;rw[X0y] at h;refine X2.round ?_;revert h;refine brI (λh12=>?_) λh12=>λe=>X6 [.el (aI .i64 (X0c.length:Int)),Bf] (k:=wkT [] (C0 _  (oj e).symm));refine bI λe13 h14=>?_;try have qh14:=Xl h14
  refine rnI [.el (aI .i64 (X0c.length:Int)),Bt,.el (aI .i64 e13),.wrap] ?_;intro h;exact wkT [] (ih  _ _ o h C0)
instance Xmm:PCs Tryz.prog 59 (∀ (a0:(List Int)) (r:Int),X22 a0=some r->X0b Tryz.prog 59 [(Lf (List.map (aI .i64) a0))] (aI .i64 r)):=⟨λa0 r h=>by
 refine X0b.sym X3 fn59 (nt:=25) rfl rfl ?_ okM;unfold X22 at h;revert h;refine brI (λh2=>?_) λh2=>?_
 ·
  intro h;cases h
 refine bI λe3 h4=>?_;try have qh4:=Xl h4
 refine bI λo15 h16=>rnI [.el (aI .i64 (a0.length:Int)),Bf,.el (aI .i64 e3)] ?_;intro h;refine wkT [] (X2.cut (Xa2 a0 _ _ _ _ h16 ?_));intro X76 eo15;subst eo15;refine X2.glue ?_;try dsimp only at h
 revert h;exact λe=>oj e▸X6 [] (k:=fi)⟩
instance X01v:PCs Tryz.prog 27 (∀ (a0:(List Int)) (r:Int×Int),X74 a0=some r->X0b Tryz.prog 27 [(Lf (List.map (aI .i64) a0))] (AV.tup [(aI .i64 r.1),(aI .i64 r.2)])):=⟨λa0 r h=>by
 refine X0b.sym X3 fn27 (nt:=12) rfl rfl ?_ okM;unfold X74 at h;revert h;exact bI λv1 h2=>brI (λh3=>λe=>oj e▸X6 [.pure _ (aI .i64 v1),Bt] (k:=fi)) λh3=>bI λv4 h5=>λe=>oj e▸X6 [.pure _ (aI .i64 v1),Bf,.pure _ (aI .i64 v4)] (k:=fi)⟩
instance X01u:PCs Tryz.prog 64 (∀ (a0:(List Int)) (a1:Int) (a2:Int) (r:(List Int)×Bool×Int),X95 a0 a1 a2=some r->X0b Tryz.prog 64 [(Lf (List.map (aI .i64) a0)),(aI .i64 a1),(aI .i64 a2)] (AV.tup [(Lt (List.map (aI .i64) r.1)),(aB r.2.1),(aI .i64 r.2.2)])):=⟨λa0 a1 a2 r h=>by
 refine X0b.sym X3 fn64 (nt:=47) rfl rfl ?_ okM;unfold X95 at h;revert h;refine bI λv1 h2=>brI (λh3=>λe=>oj e▸X6 [.pure _ (AV.tup [(aI .i64 v1.1),(aI .i64 v1.2)]),Bt] (k:=fi)) λh3=>bI λX06n h13=>rnI [.pure _ (AV.tup [(aI .i64 v1.1),(aI .i64 v1.2)]),Bf,.stop 4] ?_;intro h;refine X2.join (s':=⟨fr [(0,(Lf (List.map (aI .i64) a0))),(1,(aI .i64 a1)),(2,(aI .i64 a2)),(9,(aI .i64 v1.1)),(30,(aB X06n))],hp ([]),0⟩) ?_ (λJ=>X2.cut ?_)
 ·
  revert h;refine brI (λh14=>λe=>oj e▸X6 [Bt] (k:=fi)) λh14=>bI λXlr h26=>rnI [Bf] ?_;intro h;refine X2.joinOpF (λ(q:Nb Xlr)=>⟨fr [(1,(aI .i64 a1)),(2,(aI .i64 a2)),(9,(aI .i64 v1.1)),(32,(slE q.1 0 (List.map (aI .i64) Xlr)))],hp ([]++opE q.1 0 1 (List.map (aI .i64) Xlr)),1⟩) ?_ (λJ=>?_)
  ·
   rintro Xyk;rcases Xyk with ⟨_|_,Xzs⟩
   ·
    revert h;refine bI λe27 h28=>?_;try have qh28:=Xl h28
    exact bI λv29 h30=>λe=>oj e▸X6 [.el (aI .i64 e27),.ld (aI .i64 e27),.el (aI .i64 e27),.ld (aI .i64 e27),.pure _ (aI .i64 v29)] (o:=by repeat' first|apply Ya|exact pcM|exact(List.getElem?_set_self (by have hq:=X3u h28;simp;omega)).trans rfl|exact Xu) (k:=fi)
   obtain rfl:=Xzs rfl;revert h;refine bI λe31 h32=>?_;try have qh32:=Xl h32
   intro h
   first|exact absurd (h32) (by simp[X15];done)|(simp[X15,h3,h14] at h;done)|exact absurd (h32) (by simp[X15,h3,h14];done)
  clear h;revert h26;intro h;refine X2.inline X3 X0a8 rfl rfl rfl rfl rfl trivial trivial rfl rfl ?_;revert h;refine brI (λq=>?_) λq=>?_
  ·
   intro h;have h21:a0=[]:=List.isEmpty_iff.1 q;refine X0j [] ?_;refine X2.eqNil X3 (may:=true) rfl rfl rfl rfl rfl rfl trivial (by simp[X6f, *]) λb22 qb22=>?_;cases b22
   ·
    obtain rfl:=oj h;refine X0j [Bf,.ne false] ?_;refine X2.back (by intro id h;cases h) rfl ?_;exact wkT [] ((J nbS))
   obtain rfl:=oj h;refine X0j [Bt] ?_;refine X2.back (by intro id h;cases h) rfl ?_;exact wkT [] ((J nbS))
  intro h;have h21:¬ (a0=[]):=(λe=>by rw[e] at q;cases q);refine X0j [] ?_;refine X2.eqNil X3 (may:=false) rfl rfl rfl rfl rfl rfl trivial (by simp[X6f, *]) λb23 qb23=>?_;obtain rfl:=qb23 rfl;revert h;refine bI λu24 h25=>?_;intro h;obtain rfl:=oj h;refine X0j [Bf,.via (Lt (List.map (aI .i64) a0))] (o:=by repeat' first|apply Ya|exact pcM|(refine X0r h25 rfl ?_;first|(simp<;>omega)|(simp[h3,h14,h21]<;>omega))|(refine X08 h25 (by decide) ?_;first|(simp<;>omega)|(simp[h3,h14,h21]<;>omega))|exact Xu) ?_;refine X2.back (by intro id h;cases h) rfl ?_;exact wkT [(0,1)] ((J nbF))
 clear h;revert h13;refine brI (λh9=>?_) λh9=>?_
 ·
  intro h;obtain rfl:=oj h;exact X6 [Gf,Gf,Gf,Gf,Gf,Gf,Gf] (o:=by repeat' first|apply Ya|exact pcM|exact fq (X7 h9 rfl)|exact Xu) (k:=wkT [] (X2.glue J))
 refine brI (λh10=>?_) λh10=>?_
 ·
  intro h;obtain rfl:=oj h;exact X6 [Gt,Gt,Gt,.el (aI .i64 (a0.length:Int)),Gt,Gf,Gf,Gf] (o:=by repeat' first|apply Ya|exact pcM|exact fq (Xb h9 h10)|exact Xu) (k:=wkT [] (X2.glue J))
 refine bI λv11 h12=>?_;intro h;obtain rfl:=oj h;exact X6 [Gt,Gt,Gt,.el (aI .i64 (a0.length:Int)),Gt,Gt,Gt,.pure _ (aB v11),Gt] (o:=by repeat' first|apply Ya|exact pcM|exact fq (Xb h9 h10)|exact Xu) (k:=wkT [] (X2.glue J))⟩
theorem Xjw {Q:X03->St->Mu->Prop} {μ:Mu} (Xa8:Int) (X1v:(List X1)) (hl:X1v.length<=140737488355328):∀ (xs:List X1) (k:Nat) (hx:X1v.drop k=xs) (Xh:(List X1)) (Xn:(List X1)) (X0h:Nb Xh) (X02:Nb Xn) (o:Xay) (h:X3r Xa8 X1v xs k Xh Xn=some o)
  (C0:∀ (Xq:(List X1)) (X0m:(List X1)) (X06:Nb Xq) (X0q:Nb X0m),o=Xay.x0 Xq X0m->X2 Tryz.prog 37 0 Q (.exit (.exit 0)) [] ⟨fr [(4,(slE X06.1 0 (Xq.map X0))),(5,(slE X0q.1 1 (X0m.map X0)))],hp ([]++opE X06.1 0 11 (Xq.map X0)++opE X0q.1 1 11 (X0m.map X0)),2⟩ μ),
  X2 Tryz.prog 37 0 Q (.loop (X2o 0 (Xd Tryz.f65))) [] ⟨fr [(1,(aI .i64 Xa8)),(4,(slE X0h.1 0 (Xh.map X0))),(5,(slE X02.1 1 (Xn.map X0))),(15,(Lf (X1v.map X0))),(16,(aI .i64 (X1v.length:Int))),(17,(aI .i64 (k:Int)))],hp ([]++opE X0h.1 0 11 (Xh.map X0)++opE X02.1 1 11 (Xn.map X0)),2⟩ μ:=by
 intro xs
 induction xs with
 |nil =>
  intro k hx Xh Xn X0h X02 o h C0;have hk:=X1g hx;have hc:decide ((k:Int)<(X1v.length:Int))=false:=Yf om;rw[X3r] at h;rcases X0h with ⟨_|_,X2s⟩
  ·
   rcases X02 with ⟨_|_,X0o⟩
   ·
    refine X2.round ?_;revert h;exact λe=>X6 [Bf] (k:=wkT [] (C0 _ _  nbF nbF (oj e).symm))
   obtain rfl:=X0o rfl;refine X2.round ?_;revert h;exact λe=>X6 [Bf] (k:=wkT [] (C0 _ _  nbF nbS (oj e).symm))
  ·
   obtain rfl:=X2s rfl;rcases X02 with ⟨_|_,X0o⟩
   ·
    refine X2.round ?_;revert h;exact λe=>X6 [Bf] (k:=wkT [] (C0 _ _  nbS nbF (oj e).symm))
   ·
    obtain rfl:=X0o rfl;refine X2.round ?_;revert h;exact λe=>X6 [Bf] (k:=wkT [] (C0 _ _  nbS nbS (oj e).symm))
 |cons x xs ih =>
  intro k hx Xh Xn X0h X02 o h C0;obtain⟨hk,hg,hx1⟩:=X0u hx;have hc:decide ((k:Int)<(X1v.length:Int))=true:=Yt om;rw[X3r] at h;rcases X0h with ⟨_|_,X2s⟩
  ·
   rcases X02 with ⟨_|_,X0o⟩
   ·
    refine X2.round ?_;revert h;refine bI λw108 h114=>?_;intro h;obtain⟨Xsm,Xsl⟩:=w108;try dsimp only at h
    refine X0j [Bt,.el (X0 x)] ?_;refine X2.joinF (λ(q:Nb Xsm×Nb Xsl)=>⟨fr [(1,(aI .i64 Xa8)),(4,(slE q.1.1 0 (Xsm.map X0))),(5,(slE q.2.1 1 (Xsl.map X0))),(15,(Lf (X1v.map X0))),(16,(aI .i64 (X1v.length:Int))),(17,(aI .i64 (k:Int)))],hp ([]++opE q.1.1 0 11 (Xsm.map X0)++opE q.2.1 1 11 (Xsl.map X0)),2⟩) ?_ (λJ=>X2.cut ?_)
    ·
     rintro⟨Xvd,Xno⟩;rcases Xvd with ⟨_|_,Xvt⟩
     ·
      rcases Xno with ⟨_|_,Xix⟩
      ·
       exact X6 [] (k:=wkT [] (ih (k+1) hx1 _ _ nbF nbF o h C0))
      obtain rfl:=Xix rfl;exact X6 [] (k:=wkT [] (ih (k+1) hx1 _ _ nbF nbS o h C0))
     obtain rfl:=Xvt rfl;rcases Xno with ⟨_|_,Xix⟩
     ·
      exact X6 [] (k:=wkT [] (ih (k+1) hx1 _ _ nbS nbF o h C0))
     obtain rfl:=Xix rfl;exact X6 [] (k:=wkT [] (ih (k+1) hx1 _ _ nbS nbS o h C0))
    clear h;revert h114;refine brI (λh109=>?_) λh109=>?_
    ·
     refine bI λu110 h111=>?_;intro h;simp only[Option.some.injEq,Prod.mk.injEq] at h;obtain⟨rfl,rfl⟩:=h;exact X6 [Bt,.no] (o:=by repeat' first|apply Ya|exact pcM|(refine X0r h111 rfl ?_;first|(simp<;>omega)|(simp[hc,h109]<;>omega))|(refine X08 h111 (by decide) ?_;first|(simp<;>omega)|(simp[hc,h109]<;>omega))|exact Xu) (k:=wkT [(0,4)] (X2.glue (J (nbF,nbF))))
    refine bI λu112 h113=>?_;intro h;simp only[Option.some.injEq,Prod.mk.injEq] at h;obtain⟨rfl,rfl⟩:=h;exact X6 [Bf,.no] (o:=by repeat' first|apply Ya|exact pcM|(refine X0r h113 rfl ?_;first|(simp<;>omega)|(simp[hc,h109]<;>omega))|(refine X08 h113 (by decide) ?_;first|(simp<;>omega)|(simp[hc,h109]<;>omega))|exact Xu) (k:=wkT [(1,4)] (X2.glue (J (nbF,nbF))))
   obtain rfl:=X0o rfl;refine X2.round ?_;revert h;refine bI λw120 h126=>?_;intro h;obtain⟨Xsj,Xsi⟩:=w120;try dsimp only at h
   refine X0j [Bt,.el (X0 x)] ?_;refine X2.joinF (λ(q:Nb Xsj×Nb Xsi)=>⟨fr [(1,(aI .i64 Xa8)),(4,(slE q.1.1 0 (Xsj.map X0))),(5,(slE q.2.1 1 (Xsi.map X0))),(15,(Lf (X1v.map X0))),(16,(aI .i64 (X1v.length:Int))),(17,(aI .i64 (k:Int)))],hp ([]++opE q.1.1 0 11 (Xsj.map X0)++opE q.2.1 1 11 (Xsi.map X0)),2⟩) ?_ (λJ=>X2.cut ?_)
   ·
    rintro⟨Xvc,Xnn⟩;rcases Xvc with ⟨_|_,Xvs⟩
    ·
     rcases Xnn with ⟨_|_,Xiw⟩
     ·
      exact X6 [] (k:=wkT [] (ih (k+1) hx1 _ _ nbF nbF o h C0))
     obtain rfl:=Xiw rfl;exact X6 [] (k:=wkT [] (ih (k+1) hx1 _ _ nbF nbS o h C0))
    obtain rfl:=Xvs rfl;rcases Xnn with ⟨_|_,Xiw⟩
    ·
     exact X6 [] (k:=wkT [] (ih (k+1) hx1 _ _ nbS nbF o h C0))
    obtain rfl:=Xiw rfl;exact X6 [] (k:=wkT [] (ih (k+1) hx1 _ _ nbS nbS o h C0))
   clear h;revert h126;refine brI (λh121=>?_) λh121=>?_
   ·
    refine bI λu122 h123=>?_;intro h;simp only[Option.some.injEq,Prod.mk.injEq] at h;obtain⟨rfl,rfl⟩:=h;exact X6 [Bt,.no] (o:=by repeat' first|apply Ya|exact pcM|(refine X0r h123 rfl ?_;first|(simp<;>omega)|(simp[hc,h121]<;>omega))|(refine X08 h123 (by decide) ?_;first|(simp<;>omega)|(simp[hc,h121]<;>omega))|exact Xu) (k:=wkT [(0,4)] (X2.glue (J (nbF,nbS))))
   refine bI λu124 h125=>?_;intro h;simp only[Option.some.injEq,Prod.mk.injEq] at h;obtain⟨rfl,rfl⟩:=h;exact X6 [Bf,.no] (o:=by repeat' first|apply Ya|exact pcM|(refine X0r h125 rfl ?_;first|(simp<;>omega)|(simp[hc,h121]<;>omega))|(refine X08 h125 (by decide) ?_;first|(simp<;>omega)|(simp[hc,h121]<;>omega))|exact Xu) (k:=wkT [(1,4)] (X2.glue (J (nbF,nbF))))
  obtain rfl:=X2s rfl;rcases X02 with ⟨_|_,X0o⟩
  ·
   refine X2.round ?_;revert h;refine bI λw132 h138=>?_;intro h;obtain⟨Xsg,Xsf⟩:=w132;try dsimp only at h
   refine X0j [Bt,.el (X0 x)] ?_;refine X2.joinF (λ(q:Nb Xsg×Nb Xsf)=>⟨fr [(1,(aI .i64 Xa8)),(4,(slE q.1.1 0 (Xsg.map X0))),(5,(slE q.2.1 1 (Xsf.map X0))),(15,(Lf (X1v.map X0))),(16,(aI .i64 (X1v.length:Int))),(17,(aI .i64 (k:Int)))],hp ([]++opE q.1.1 0 11 (Xsg.map X0)++opE q.2.1 1 11 (Xsf.map X0)),2⟩) ?_ (λJ=>X2.cut ?_)
   ·
    rintro⟨Xvb,Xnm⟩;rcases Xvb with ⟨_|_,Xvr⟩
    ·
     rcases Xnm with ⟨_|_,Xiv⟩
     ·
      exact X6 [] (k:=wkT [] (ih (k+1) hx1 _ _ nbF nbF o h C0))
     obtain rfl:=Xiv rfl;exact X6 [] (k:=wkT [] (ih (k+1) hx1 _ _ nbF nbS o h C0))
    obtain rfl:=Xvr rfl;rcases Xnm with ⟨_|_,Xiv⟩
    ·
     exact X6 [] (k:=wkT [] (ih (k+1) hx1 _ _ nbS nbF o h C0))
    obtain rfl:=Xiv rfl;exact X6 [] (k:=wkT [] (ih (k+1) hx1 _ _ nbS nbS o h C0))
   clear h;revert h138;refine brI (λh133=>?_) λh133=>?_
   ·
    refine bI λu134 h135=>?_;intro h;simp only[Option.some.injEq,Prod.mk.injEq] at h;obtain⟨rfl,rfl⟩:=h;exact X6 [Bt,.no] (o:=by repeat' first|apply Ya|exact pcM|(refine X0r h135 rfl ?_;first|(simp<;>omega)|(simp[hc,h133]<;>omega))|(refine X08 h135 (by decide) ?_;first|(simp<;>omega)|(simp[hc,h133]<;>omega))|exact Xu) (k:=wkT [(0,4)] (X2.glue (J (nbF,nbF))))
   refine bI λu136 h137=>?_;intro h;simp only[Option.some.injEq,Prod.mk.injEq] at h;obtain⟨rfl,rfl⟩:=h;exact X6 [Bf,.no] (o:=by repeat' first|apply Ya|exact pcM|(refine X0r h137 rfl ?_;first|(simp<;>omega)|(simp[hc,h133]<;>omega))|(refine X08 h137 (by decide) ?_;first|(simp<;>omega)|(simp[hc,h133]<;>omega))|exact Xu) (k:=wkT [(1,4)] (X2.glue (J (nbS,nbF))))
  obtain rfl:=X0o rfl;refine X2.round ?_;revert h;refine bI λw144 h150=>?_;intro h;obtain⟨Xse,Xsd⟩:=w144;try dsimp only at h
  refine X0j [Bt,.el (X0 x)] ?_;refine X2.joinF (λ(q:Nb Xse×Nb Xsd)=>⟨fr [(1,(aI .i64 Xa8)),(4,(slE q.1.1 0 (Xse.map X0))),(5,(slE q.2.1 1 (Xsd.map X0))),(15,(Lf (X1v.map X0))),(16,(aI .i64 (X1v.length:Int))),(17,(aI .i64 (k:Int)))],hp ([]++opE q.1.1 0 11 (Xse.map X0)++opE q.2.1 1 11 (Xsd.map X0)),2⟩) ?_ (λJ=>X2.cut ?_)
  ·
   rintro⟨Xva,Xnl⟩;rcases Xva with ⟨_|_,Xvq⟩
   ·
    rcases Xnl with ⟨_|_,Xiu⟩
    ·
     exact X6 [] (k:=wkT [] (ih (k+1) hx1 _ _ nbF nbF o h C0))
    obtain rfl:=Xiu rfl;exact X6 [] (k:=wkT [] (ih (k+1) hx1 _ _ nbF nbS o h C0))
   obtain rfl:=Xvq rfl;rcases Xnl with ⟨_|_,Xiu⟩
   ·
    exact X6 [] (k:=wkT [] (ih (k+1) hx1 _ _ nbS nbF o h C0))
   obtain rfl:=Xiu rfl;exact X6 [] (k:=wkT [] (ih (k+1) hx1 _ _ nbS nbS o h C0))
  clear h;revert h150;refine brI (λh145=>?_) λh145=>?_
  ·
   refine bI λu146 h147=>?_;intro h;simp only[Option.some.injEq,Prod.mk.injEq] at h;obtain⟨rfl,rfl⟩:=h;exact X6 [Bt,.no] (o:=by repeat' first|apply Ya|exact pcM|(refine X0r h147 rfl ?_;first|(simp<;>omega)|(simp[hc,h145]<;>omega))|(refine X08 h147 (by decide) ?_;first|(simp<;>omega)|(simp[hc,h145]<;>omega))|exact Xu) (k:=wkT [(0,4)] (X2.glue (J (nbF,nbS))))
  refine bI λu148 h149=>?_;intro h;simp only[Option.some.injEq,Prod.mk.injEq] at h;obtain⟨rfl,rfl⟩:=h;exact X6 [Bf,.no] (o:=by repeat' first|apply Ya|exact pcM|(refine X0r h149 rfl ?_;first|(simp<;>omega)|(simp[hc,h145]<;>omega))|(refine X08 h149 (by decide) ?_;first|(simp<;>omega)|(simp[hc,h145]<;>omega))|exact Xu) (k:=wkT [(1,4)] (X2.glue (J (nbS,nbF))))
instance X02f:PCs Tryz.prog 65 (∀ (a0:(List X1)) (a1:Int) (r:(List X1)×(List X1)×Int),Xab a0 a1=some r->X0b Tryz.prog 65 [(Lf (a0.map X0)),(aI .i64 a1)] (AV.tup [(Lt (r.1.map X0)),(Lt (r.2.1.map X0)),(aI .i64 r.2.2)])):=⟨λa0 a1 r h=>by
 refine X0b.sym X3 fn65 (nt:=37) rfl rfl ?_ okM;unfold Xab at h;revert h;refine bI λv1 h2=>brI (λh3=>λe=>oj e▸X6 [.pure _ (aI .i64 v1),Bt] (k:=fi)) λh3=>bI λu4 h5=>?_;have qh5:=X0v h5;refine bI λo151 h152=>rnI [.pure _ (aI .i64 v1),Bf,.el (aI .i64 (a0.length:Int))] ?_;intro h;refine wkT [] (X2.cut (Xjw a1 a0 qh5 a0 0 (by simp) _ _ nbS nbS _ h152 ?_));intro Xq X0m X06 X0q eo151;subst eo151;refine X2.glue ?_;try dsimp only at h
 rcases X06 with ⟨_|_,X29⟩<;>(try obtain rfl:=X29 rfl);all_goals
  rcases X0q with ⟨_|_,X3c⟩<;>(try obtain rfl:=X3c rfl);all_goals
   revert h;exact λe=>oj e▸X6 [] (k:=fi)⟩
end Go.Av.Tryz