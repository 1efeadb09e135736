/- Printed by decomp.py: that the program computes the functions. -/
import Derived.Test.YtomaojndejpfgaaGreatDoorDCert5Z
set_option linter.all false

namespace Go.Av.Tryz
open Go.Proofs Go.D Go.Proofs.Tryz
set_option maxRecDepth 10000
set_option maxHeartbeats 40000000
theorem Xiv {Q:Qt} {μ:Mu} (Xro:(List Int)) (hl:Xro.length<=140737488355328):Dr Xro λxs k=>∀ o,Lq Tryz.prog 18 0 Q μ o (fun|.x0=>(.exit 0,⟨fr [(3,(aI .i64 0))],hp ([]),0⟩)|.x1 X4z=>(.ret,⟨fr [(2,(aI .i64 X4z))],hp ([]),0⟩))
  (X64 0 (X1l Tryz.f136)) ⟨fr [(3,(aI .i64 0)),(6,(Lf (List.map (aI .i64) Xro))),(7,(aI .i64 (Xro.length:Int))),(8,(aI .i64 (k:Int)))],hp ([]),0⟩ (X5j Xro xs k):=by
 refine drI ?_ ?_
 ·
  intro k hk hc o C;rw[X5j];exact rdI<|λe=>X8 [Bf] (k:=wC e C)
 ·
  intro x xs k hk hg hc ih o C;rw[X5j];exact rdI<|brI (λh6=>λe=>X8 [Bt,.el (aI .i64 x),Bt] (k:=wC e C)) λh6=>rnK [Bt,.el (aI .i64 x),Bf] (k:=wkI [] (ih o C))
instance X06r:PZ 136 (∀ (a0:(List Int)) (r:Int),Xe3 a0=some r->Pz 136 [(Lf (List.map (aI .i64) a0))] (aI .i64 r)):=⟨λa0 r=>by
 unfold Xe3;refine psI X0j6 18<|bI λu1 h2=>?_;have qh2:=X0e h2;refine bI λo7 h8=>rnI [.el (aI .i64 (a0.length:Int))] ?_;intro h;refine wkT [] (X7.cut (drA (Xiv a0 qh2) _ ?_ h8));revert h;rcases o7 with _|⟨X4z⟩
 ·
  exact lGI rfl λe=>oj e▸X8 [] (k:=fi)
 exact lGI rfl λe=>oj e▸X8 [] (k:=fi)⟩
instance X02z:PZ 89 (∀ (a0:X3) (a1:X3) (r:Int),X61 a0 a1=some r->Pz 89 [(X1 a0),(X1 a1)] (aI .i64 r)):=⟨λa0 a1 r=>by
 unfold X61;exact psI fn89 26<|bI λv1 h2=>bI λv3 h4=>bI λv5 h6=>bI λv7 h8=>λe=>oj e▸X8 [.pure _ (aI .i64 v1),.pure _ (aI .i64 v3),.pure _ (aI .i64 v5),.pure _ (aI .i64 v7)] (k:=fi)⟩
theorem X7a {Q:Qt} {μ:Mu} (X0g:(List X3)) (hl:X0g.length<=140737488355328):Dr X0g λxs k=>∀ o,Lq Tryz.prog 33 0 Q μ o (fun|.x0=>(.exit 0,⟨fr [],hp ([]),0⟩)|.x1=>(.ret,⟨fr [(2,(aI .i64 8))],hp ([]),0⟩))
  (X64 0 (X1l Tryz.f56)) ⟨fr [(0,(Lf (X0g.map X1))),(8,(Lf (X0g.map X1))),(9,(aI .i64 (X0g.length:Int))),(10,(aI .i64 (k:Int)))],hp ([]),0⟩ (X3i X0g xs k):=by
 refine drI ?_ ?_
 ·
  intro k hk hc o C;rw[X3i];exact rdI<|λe=>X8 [Bf] (k:=wC e C)
 ·
  intro x xs k hk hg hc ih o C;rw[X3i];refine rdI<|bI λX00d h60=>rnI [Bt,.el (X1 x),.stop 6] ?_;refine jnI ⟨fr [(0,(Lf (X0g.map X1))),(8,(Lf (X0g.map X1))),(9,(aI .i64 (X0g.length:Int))),(10,(aI .i64 (k:Int))),(31,(aB X00d))],hp ([]),0⟩ h60 (brI (λh61=>λe=>X8 [Bt] (k:=wC e C)) λh61=>rnK [Bf] (k:=wkI [] (ih o C))) λJ=>?_;refine bI λv52 h53=>brI (λh54=>λe=>X8 [.pure _ (aB v52),Gf,Gf,Gf,.no,.no,.no,.no,.no,.no,.no,.no,Gf,Gt] (k:=wJ [] J)) λh54=>?_;refine brI (λh55=>?_) λh55=>λe=>X8 [.pure _ (aB v52),Gt,Gt,Gt,Gf,Gf,Gf,Gf,Gf,Gf,Gf,Gf,Gt,Gf] (k:=wJ [] J);refine bI λe56 h57=>?_;try have qh57:=Xq h57
  exact bI λv58 h59=>λe=>X8 [.pure _ (aB v52),Gt,Gt,Gt,Gt,Gt,Gt,.wrap,Gt,.el (X1 e56),Gt,Gt,Gt,.pure _ (aI .i64 v58),Gt,Gt] (k:=wJ [] J)
instance Xao:PZ 56 (∀ (a0:(List X3)) (r:Int),X9f a0=some r->Pz 56 [(Lf (a0.map X1))] (aI .i64 r)):=⟨λa0 r=>by
 unfold X9f;refine psI fn56 33<|brI (λh1=>λe=>oj e▸X8 [.el (aI .i64 (a0.length:Int)),Bt] (k:=fi)) λh1=>bI λu2 h3=>?_;have qh3:=X0e h3;refine bI λo62 h63=>rnI [.el (aI .i64 (a0.length:Int)),Bf,.el (aI .i64 (a0.length:Int))] ?_;intro h;refine wkT [] (X7.cut (drA (X7a a0 qh3) _ ?_ h63));revert h;rcases o62 with _|_
 ·
  exact lGI rfl λe=>oj e▸X8 [] (k:=fi)
 exact lGI rfl λe=>oj e▸X8 [] (k:=fi)⟩
instance X08a:PZ 58 (∀ (a0:Int) (r:X0z),Xa6 a0=some r->Pz 58 [(aI .i64 a0)] (X0r r)):=⟨λa0 r=>by
 unfold Xa6;exact psI fn58 7 λe=>oj e▸X8 [] (k:=fi)⟩
instance Xy5:PZ 90 (∀ (a0:Int) (a1:Int) (r:Int),X3g a0 a1=some r->Pz 90 [(aI .i64 a0),(aI .i64 a1)] (aI .i64 r)):=⟨λa0 a1 r=>by
 unfold X3g;exact psI fn90 17<|brI (λh1=>λe=>oj e▸X8 [Bt] (k:=fi)) λh1=>brI (λh2=>λe=>oj e▸X8 [Bf,Bt] (k:=fi)) λh2=>λe=>oj e▸X8 [Bf,Bf] (k:=fi)⟩
instance Xuu:PZ 184 (∀ (a0:Int) (r:Int),X9y a0=some r->Pz 184 [(aI .u64 a0)] (aI .i64 r)):=⟨λa0 r=>by
 unfold X9y;refine psI X0ip 25<|bI λw2 h4=>?_;intro h;obtain⟨j2_0,j2_2⟩:=w2;try dsimp only at h
 refine X0q [] ?_;revert h;refine jnI ⟨fr [(0,(aI .u64 j2_0)),(2,(aI .i64 j2_2))],hp ([]),0⟩ h4 ?_ λJ=>brI (λh3=>λe=>X8 [Bt] (k:=wJ [] J)) λh3=>λe=>X8 [Bf] (k:=wJ [] J);refine bI λw6 h8=>?_;intro h;obtain⟨j6_0,j6_2⟩:=w6;try dsimp only at h
 refine X0q [] ?_;revert h;refine jnI ⟨fr [(0,(aI .u64 j6_0)),(2,(aI .i64 j6_2))],hp ([]),0⟩ h8 ?_ λJ=>brI (λh7=>λe=>X8 [Bt,.wrap] (k:=wJ [] J)) λh7=>λe=>X8 [Bf] (k:=wJ [] J);refine bI λw10 h12=>?_;intro h;obtain⟨X0i9,X0i8⟩:=w10;try dsimp only at h
 refine X0q [] ?_;revert h;exact jnI ⟨fr [(0,(aI .u64 X0i9)),(2,(aI .i64 X0i8))],hp ([]),0⟩ h12 (bI λb13 h14=>λe=>oj e▸X8 [.wrap,.el (aI .u8 b13),.wrap,.wrap] (o:=by repeat' first|apply Ya|exact pcM|exact(X80 h14)|exact(X0db (tab:=Xhk) rfl h14)|exact X24) (k:=fi)) λJ=>brI (λh11=>λe=>X8 [Bt,.wrap] (k:=wJ [] J)) λh11=>λe=>X8 [Bf] (k:=wJ [] J)⟩
instance Xya:PZ 174 (∀ (a0:Int) (r:Int),X8s a0=some r->Pz 174 [(aI .u64 a0)] (aI .i64 r)):=⟨λa0 r=>by
 unfold X8s;exact psI X0ir 8<|bI λv1 h2=>λe=>oj e▸X8 [Bf,.pure _ (aI .i64 v1)] (k:=fi)⟩
theorem X3l {Q:Qt} {μ:Mu} (X0g:(List X3)) (Xd:X3) (Xu4:Int):∀ (n:Nat) (Xyd:Int) (X3c:Int) o,Lq Tryz.prog 49 0 Q μ o (fun|.x0 Xf9=>(.exit 0,⟨fr [(0,(Lf (X0g.map X1))),(2,(AV.fn 89 [])),(4,(AV.ptr 0 0 0)),(8,(aI .i64 Xu4)),(9,(aI .i64 Xf9))],hp ([(0,Ob [(X1 Xd)] 11)]),1⟩))
  (X64 0 (X1l Tryz.f98)) ⟨fr [(0,(Lf (X0g.map X1))),(2,(AV.fn 89 [])),(4,(AV.ptr 0 0 0)),(8,(aI .i64 Xu4)),(9,(aI .i64 Xyd)),(10,(aI .i64 X3c))],hp ([(0,Ob [(X1 Xd)] 11)]),1⟩ (Xu X0g Xd Xu4 n Xyd X3c):=by
 intro n
 induction n with
 |zero=>intro Xyd X3c o C h;cases h
 |succ n ih =>
  intro Xyd X3c o C;rw[Xu];refine rdI<|brI (λh14=>?_) λh14=>λe=>X8 [Bf] (k:=wC e C);refine bI λe15 h16=>?_;try have qh16:=Xq h16
  exact bI λv17 h18=>brI (λh19=>rnK [Bt,.wrap,.wrap,.wrap,.el (X1 e15),.pure _ (aI .i64 v17),Bt,.wrap] (k:=wkI [] (ih  _ _ o C))) λh19=>rnK [Bt,.wrap,.wrap,.wrap,.el (X1 e15),.pure _ (aI .i64 v17),Bf] (k:=wkI [] (ih  _ _ o C))
theorem X04 (a0:(List X3)) (a1:X3) (r:Int×Bool) (h:Xl a0 a1=some r):Pz 98 [(Lf (a0.map X1)),(X1 a1),(AV.fn 89 [])] (AV.tup [(aI .i64 r.1),(aB r.2)]):=by
 refine X76.sym Xf fn98 (nt:=49) rfl rfl ?_ okM;unfold Xl at h;revert h;refine bI λo20 h21=>rnI [.el (aI .i64 (a0.length:Int))] ?_;intro h;refine wkT [] (X7.cut (X3l a0 a1 (a0.length:Int) _ _ _ _ ?_ h21));revert h;rcases o20 with ⟨Xf9⟩;refine lGI rfl<|bI λX0ao h33=>rnI [.stop 8] ?_;refine jnI ⟨fr [(6,(aI .i64 Xf9)),(7,(aB X0ao))],hp ([]),0⟩ h33 (λe=>oj e▸X8 [] (k:=fi)) λJ=>?_;refine brI (λh28=>?_) λh28=>λe=>X8 [Gf,Gf,Gf,Gf,Gf,Gf,Gf,Gf,Gf] (k:=wJ [] J);refine bI λe29 h30=>?_;try have qh30:=Xq h30
 exact bI λv31 h32=>λe=>X8 [Gt,Gt,Gt,Gt,.el (X1 e29),Gt,Gt,Gt,.pure _ (aI .i64 v31),Gt] (k:=wJ [] J)
instance X3r:PZ 141 (∀ (a0:X0z) (a1:X0z) (r:X0z×Int),X20 a0 a1=some r->Pz 141 [(X0r a0),(X0r a1)] (AV.tup [(X0r r.1),(aI .i64 r.2)])):=⟨λa0 a1 r=>by
 unfold X20;refine psI X0j4 53<|bI λX0ag h12=>rnI [.stop 1] ?_;exact jnI ⟨fr [(2,(AV.ptr 0 0 0)),(3,(AV.ptr 1 0 0)),(4,(AV.ptr 2 0 0)),(13,(aB X0ag))],hp ([(0,Ob [(X0r a0)] 4),(1,Ob [(X0r a1)] 4),(2,Ob [(X0r (X0z.mk 0 0 0 0))] 4)]),3⟩ h12 (brI (λh13=>λe=>oj e▸X8 [Bt] (k:=fi)) λh13=>brI (λh14=>λe=>oj e▸X8 [Bf,.wrap,Bt] (k:=fi)) λh14=>brI (λh15=>λe=>oj e▸X8 [Bf,.wrap,Bf,Bt] (k:=fi)) λh15=>brI (λh16=>λe=>oj e▸X8 [Bf,.wrap,Bf,Bf,Bt] (k:=fi)) λh16=>λe=>oj e▸X8 [Bf,.wrap,Bf,Bf,Bf,.wrap,.wrap] (k:=fi)) λJ=>bI λv7 h8=>brI (λh9=>λe=>X8 [.pure _ (aI .i64 v7),Gf,Gf,Gf] (k:=wJ [] J)) λh9=>bI λv10 h11=>λe=>X8 [.pure _ (aI .i64 v7),Gt,Gt,.pure _ (aI .i64 v10),Gt] (k:=wJ [] J)⟩
instance Xym:PZ 175 (∀ (a0:Int) (a1:Int) (r:Int),Xaa a0 a1=some r->Pz 175 [(aI .i64 a0),(aI .i64 a1)] (aI .i64 r)):=⟨λa0 a1 r=>by
 unfold Xaa;exact psI X0iq 17<|brI (λh1=>λe=>oj e▸X8 [Bt] (k:=fi)) λh1=>brI (λh2=>λe=>oj e▸X8 [Bf,Bt] (k:=fi)) λh2=>λe=>oj e▸X8 [Bf,Bf] (k:=fi)⟩
instance Xy4:PZ 142 (∀ (a0:Int) (a1:Int) (r:Int×Int),X6j a0 a1=some r->Pz 142 [(aI .i64 a0),(aI .i64 a1)] (AV.tup [(aI .i64 r.1),(aI .i64 r.2)])):=⟨λa0 a1 r=>by
 unfold X6j;refine psI X0j3 24<|bI λv1 h2=>brI (λh3=>λe=>oj e▸X8 [.pure _ (aI .i64 v1),Bt] (k:=fi)) λh3=>bI λu4 h5=>bI λj7_7 h9=>rnI [.pure _ (aI .i64 v1),Bf,.wrap] ?_;exact jnI ⟨fr [(7,(aI .i64 j7_7))],hp ([]),0⟩ h9 (λe=>oj e▸X8 [] (k:=fi)) λJ=>brI (λh8=>λe=>X8 [Bt,.wrap] (k:=wJ [] J)) λh8=>λe=>X8 [Bf] (k:=wJ [] J)⟩
instance Xcr:PZ 96 (∀ (a0:Int) (a1:Int) (r:X0s×Int),Xb4 a0 a1=some r->Pz 96 [(aI .i64 a0),(aI .i64 a1)] (AV.tup [(X01 r.1),(aI .i64 r.2)])):=⟨λa0 a1 r=>by
 unfold Xb4;exact psI fn96 26<|bI λv1 h2=>brI (λh3=>λe=>oj e▸X8 [.pure _ (AV.tup [(aI .i64 v1.1),(aI .i64 v1.2)]),Bt] (k:=fi)) λh3=>λe=>oj e▸X8 [.pure _ (AV.tup [(aI .i64 v1.1),(aI .i64 v1.2)]),Bf,.wrap,.wrap,.wrap] (k:=fi)⟩
theorem Xjy {Q:Qt} {μ:Mu} (X0g:Int) (Xa7:Int) (y0_2:Int):∀ (n:Nat) (Xd:(List X0s)) (Xbr:Int) (X0j:Nb Xd) (o:Xap) (h:X51 X0g Xa7 y0_2 n Xd Xbr=some o)
  (C0:∀ (Xo:(List X0s)) (X02:Nb Xo),o=Xap.x0 Xo->Sx 70 Q [(10,(slE X02.1 0 (Xo.map X01)))] ([]++opE X02.1 0 2 (Xo.map X01)) 1 μ),
  Sl 70 Q f97 [(0,(aI .i64 X0g)),(1,(aI .i64 Xa7)),(2,(aI .i64 y0_2)),(10,(slE X0j.1 0 (Xd.map X01))),(11,(aI .i64 Xbr))] ([]++opE X0j.1 0 2 (Xd.map X01)) 1 μ:=by
 intro n
 induction n with
 |zero=>intro Xd Xbr X0j o h C0;cases h
 |succ n ih =>
  intro Xd Xbr X0j o h C0;rw[X51] at h;rcases X0j with ⟨_|_,X2s⟩
  ·
   refine X7.round ?_;revert h;refine brI (λh18=>?_) λh18=>λe=>X8 [.wrap,Bf] (k:=wkT [] (C0 _  nbF (oj e).symm));refine bI λu19 h20=>rnI [.wrap,Bt,.wrap,.no,.wrap] (o:=by repeat' first|apply Ya|exact pcM|(refine X1r h20 rfl ?_;first|(simp<;>omega)|(simp[h18]<;>omega))|(refine X0p h20 (by decide) ?_;first|(simp<;>omega)|(simp[h18]<;>omega))|exact X24) ?_;intro h;exact wkT [(0,2)] (ih  _ _ nbF o h C0)
  obtain rfl:=X2s rfl;refine X7.round ?_;revert h;refine brI (λh21=>?_) λh21=>λe=>X8 [.wrap,Bf] (k:=wkT [] (C0 _  nbS (oj e).symm));refine bI λu22 h23=>rnI [.wrap,Bt,.wrap,.no,.wrap] (o:=by repeat' first|apply Ya|exact pcM|(refine X1r h23 rfl ?_;first|(simp<;>omega)|(simp[h21]<;>omega))|(refine X0p h23 (by decide) ?_;first|(simp<;>omega)|(simp[h21]<;>omega))|exact X24) ?_;intro h;exact wkT [(0,2)] (ih  _ _ nbF o h C0)
theorem Xab {Q:Xr->St->Mu->Prop}  {rb rD:Nat} {rr:Loop} (rh1:rr.state=.ready) (rh2:rr.pending=none) (rh3:rr.params=(rfB 0 (X1l Tryz.f97)).1) (rh4:rr.assign=(rfB 0 (X1l Tryz.f97)).2.1) (rh5:rr.body=(rfB 0 (X1l Tryz.f97)).2.2) (X1k:(List X0s)) (Xj8:Nb X1k):∀ (n:Nat) (X0t:(List X0s)) (Xjq:Int) (X3b:Nb X0t) (o:X7e) (h:X35 X1k n X0t Xjq=some o)
  (C0:∀ (X44:(List X0s)) (Xcp:(List X0s)) (X30:Nb X44) (X95:Nb Xcp),o=X7e.x0 X44 Xcp->X7 Tryz.prog 19 3 Q (.exit (.exit 0)) [] ⟨fr [],hp ([(1,Ob [(slE X30.1 3 (X44.map X01))] 1),(2,Ob [(slE X95.1 4 (Xcp.map X01))] 1)]++opE X30.1 3 2 (X44.map X01)++opE X95.1 4 2 (Xcp.map X01)),5⟩ [(rb,MuE.loop rr 70 3 (fr [(12,(AV.ptr 1 0 0)),(62,(AV.fn 176 [(AV.ptr 2 0 0)]))])),(rD,MuE.blk (Go.Obj.deferred (some [])))]),
  X7 Tryz.prog 19 3 Q (.loop (X64 0 (X1l Tryz.f176))) [] ⟨fr [(0,(AV.sc (.func (.yield rb) #[] #[]))),(1,(AV.ptr 2 0 0)),(3,(aI .i64 Xjq))],hp ([(1,Ob [(slE X3b.1 3 (X0t.map X01))] 1),(2,Ob [(slE Xj8.1 4 (X1k.map X01))] 1)]++opE X3b.1 3 2 (X0t.map X01)++opE Xj8.1 4 2 (X1k.map X01)),5⟩ [(rb,MuE.loop rr 70 3 (fr [(12,(AV.ptr 1 0 0)),(62,(AV.fn 176 [(AV.ptr 2 0 0)]))])),(rD,MuE.blk (Go.Obj.deferred (some [])))]:=by
 intro n
 induction n with
 |zero=>intro X0t Xjq X3b o h C0;cases h
 |succ n ih =>
  intro X0t Xjq X3b o h C0;rw[X35] at h;rcases X3b with ⟨_|_,Xca⟩
  ·
   rcases Xj8 with ⟨_|_,Xou⟩
   ·
    refine X7.round ?_;revert h;refine brI (λh67=>?_) λh67=>λe=>X8 [Bf] (k:=wkT [] (C0 _ _  nbF nbF (oj e).symm));refine bI λe68 h69=>?_;try have qh69:=Xq h69
    refine rnI [Bt,.el (X01 e68),.ld (X01 e68)] ?_;intro h;refine X7.yield rfl rfl rfl rfl rfl trivial trivial (.head _) rh1 rh2 rh3 rh4 rh5 rfl rfl ?_;refine X0q [] ?_;refine X7.asg ?_;revert h;refine bI λu72 h73=>rnI [.no] (o:=by repeat' first|apply Ya|exact pcM|(refine X1r h73 rfl ?_;first|(simp<;>omega)|(simp[h67]<;>omega))|(refine X0p h73 (by decide) ?_;first|(simp<;>omega)|(simp[h67]<;>omega))|exact X24) ?_;intro h;refine X7.rndEnd ?_;exact X8 [Bf,.wrap] (k:=wkT [(3,7)] (ih  _ _ nbF o h C0))
   obtain rfl:=Xou rfl;refine X7.round ?_;revert h;refine brI (λh74=>?_) λh74=>λe=>X8 [Bf] (k:=wkT [] (C0 _ _  nbF nbS (oj e).symm));refine bI λe75 h76=>?_;try have qh76:=Xq h76
   intro h
   first|exact absurd (h76) (by simp[getI];done)|(simp[getI,h74] at h;done)|(simp[h74] at hg;done)|exact absurd (h76) (by simp[getI,h74];done)
  obtain rfl:=Xca rfl;rcases Xj8 with ⟨_|_,Xou⟩
  ·
   refine X7.round ?_;revert h;refine brI (λh77=>?_) λh77=>λe=>X8 [Bf] (k:=wkT [] (C0 _ _  nbS nbF (oj e).symm));refine bI λe78 h79=>?_;try have qh79:=Xq h79
   refine rnI [Bt,.el (X01 e78),.ld (X01 e78)] ?_;intro h;refine X7.yield rfl rfl rfl rfl rfl trivial trivial (.head _) rh1 rh2 rh3 rh4 rh5 rfl rfl ?_;refine X0q [] ?_;refine X7.asg ?_;revert h;refine bI λu82 h83=>rnI [.no] (o:=by repeat' first|apply Ya|exact pcM|(refine X1r h83 rfl ?_;first|(simp<;>omega)|(simp[h77]<;>omega))|(refine X0p h83 (by decide) ?_;first|(simp<;>omega)|(simp[h77]<;>omega))|exact X24) ?_;intro h;refine X7.rndEnd ?_;exact X8 [Bf,.wrap] (k:=wkT [(3,7)] (ih  _ _ nbF o h C0))
  obtain rfl:=Xou rfl;refine X7.round ?_;revert h;refine brI (λh84=>?_) λh84=>λe=>X8 [Bf] (k:=wkT [] (C0 _ _  nbS nbS (oj e).symm));refine bI λe85 h86=>?_;try have qh86:=Xq h86
  intro h
  first|exact absurd (h86) (by simp[getI];done)|(simp[getI,h84] at h;done)|(simp[h84] at hg;done)|exact absurd (h86) (by simp[getI,h84];done)
instance X079:PZ 97 (∀ (a0:Int) (a1:Int) (a2:Int) (r:(List X0s)×Int),Xct a0 a1 a2=some r->Pz 97 [(aI .i64 a0),(aI .i64 a1),(aI .i64 a2)] (AV.tup [(Lt (r.1.map X01)),(aI .i64 r.2)])):=⟨λa0 a1 a2 r=>by
 unfold Xct;refine psI fn97 70<|brI (λh1=>λe=>oj e▸X8 [.wrap,Bt] (k:=fi)) λh1=>bI λv2 h3=>brI (λh4=>λe=>oj e▸X8 [.wrap,Bf,.pure _ (AV.tup [(X01 v2.1),(aI .i64 v2.2)]),Bt] (k:=fi)) λh4=>bI λo24 h25=>rnI [.wrap,Bf,.pure _ (AV.tup [(X01 v2.1),(aI .i64 v2.2)]),Bf] ?_;intro h;refine wkT [] (X7.cut (Xjy a0 a1 a2 _ _ _ nbS _ h25 ?_));intro Xo X02 eo24;subst eo24;refine X7.glue ?_;try dsimp only at h
 rcases X02 with ⟨_|_,X1p⟩
 ·
  refine X0q [] ?_;refine X7.inline Xf X0fc rfl rfl rfl rfl rfl trivial trivial rfl rfl ?_;refine X0q [] ?_;refine X7.back (by intro id h;cases h) rfl ?_;refine X0q [] ?_;refine X7.keepL [12,62] ?_;refine X7.rangeFunc rfl trivial X0f9 rfl rfl rfl ?_;intro rb rD rr rh1 rh2 rh3 rh4 rh5;revert h;refine bI λo87 h88=>rnI [.el (aI .i64 (Xo.length:Int)),.wrap] ?_;intro h;refine wkT [(4,0)] (X7.cut (Xab rh1 rh2 rh3 rh4 rh5 Xo nbF _ _ _ nbS _ h88 ?_));intro X44 Xcp X30 X95 eo87;subst eo87;refine X7.glue ?_;try dsimp only at h
  rcases X30 with ⟨_|_,X7s⟩<;>(try obtain rfl:=X7s rfl);all_goals
   rcases X95 with ⟨_|_,Xh6⟩<;>(try obtain rfl:=Xh6 rfl);all_goals
    refine X0q [] ?_;refine X7.rfEnd (by intro id h;cases h) ?_;revert h;exact λe=>oj e▸X8 [] (k:=fi)
 obtain rfl:=X1p rfl;refine X0q [] ?_;refine X7.inline Xf X0fc rfl rfl rfl rfl rfl trivial trivial rfl rfl ?_;refine X0q [] ?_;refine X7.back (by intro id h;cases h) rfl ?_;refine X0q [] ?_;refine X7.keepL [12,62] ?_;refine X7.rangeFunc rfl trivial X0f9 rfl rfl rfl ?_;intro rb rD rr rh1 rh2 rh3 rh4 rh5;revert h;refine bI λo130 h131=>rnI [.el (aI .i64 (List.length ([]:List X0s):Int)),.wrap] ?_;intro h;refine wkT [] (X7.cut (Xab rh1 rh2 rh3 rh4 rh5 ([]:List X0s) nbS _ _ _ nbS _ h131 ?_));intro X44 Xcp X30 X95 eo130;subst eo130;refine X7.glue ?_;try dsimp only at h
 rcases X30 with ⟨_|_,X7s⟩<;>(try obtain rfl:=X7s rfl);all_goals
  rcases X95 with ⟨_|_,Xh6⟩<;>(try obtain rfl:=Xh6 rfl);all_goals
   refine X0q [] ?_;refine X7.rfEnd (by intro id h;cases h) ?_;revert h;exact λe=>oj e▸X8 [] (k:=fi)⟩
instance Xjx:PZ 62 (∀ (a0:Xn) (a1:Int) (r:(List X0s)×Int),Xfi a0 a1=some r->Pz 62 [(X39 a0),(aI .i64 a1)] (AV.tup [(Lt (r.1.map X01)),(aI .i64 r.2)])):=⟨λa0 a1 r=>by
 unfold Xfi;exact psI fn62 40<|bI λv1 h2=>brI (λh3=>λe=>oj e▸X8 [.pure _ (aI .i64 v1),Bt] (k:=fi)) λh3=>brI (λh4=>bI λv5 h6=>brI (λh7=>λe=>oj e▸X8 [.pure _ (aI .i64 v1),Bf,Bt,.pure _ (AV.tup [(X01 v5.1),(aI .i64 v5.2)]),Bt] (k:=fi)) λh7=>λe=>oj e▸X8 [.pure _ (aI .i64 v1),Bf,Bt,.pure _ (AV.tup [(X01 v5.1),(aI .i64 v5.2)]),Bf] (k:=fi)) λh4=>brI (λh8=>bI λv9 h10=>λe=>oj e▸X8 [.pure _ (aI .i64 v1),Bf,Bf,Bt,.pure _ (AV.tup [(Lt (v9.1.map X01)),(aI .i64 v9.2)])] (k:=fi)) λh8=>λe=>oj e▸X8 [.pure _ (aI .i64 v1),Bf,Bf,Bf] (k:=fi)⟩
theorem X10 {Q:Qt} {μ:Mu} (X0t:(List X3)) (X1k:X3) (X3b:Nb X0t) (hl:X0t.length<=140737488355328):Dr X0t λxs k=>∀ o,Lq Tryz.prog 19 5 Q μ o (fun|.x0=>(.exit 0,⟨fr [],hp ([(4,Ob [(X1 X1k)] 11)]++opE X3b.1 3 11 (X0t.map X1)),5⟩)|.x1 X72=>(.ret,⟨fr [(4,(aI .i64 X72))],hp ([(4,Ob [(X1 X1k)] 11)]++opE X3b.1 3 11 (X0t.map X1)),5⟩))
  (X64 0 (X1l Tryz.f92)) ⟨fr [(0,(slE X3b.1 3 (X0t.map X1))),(1,(AV.fn 93 [(AV.ptr 4 0 0)])),(7,(aI .i64 (X0t.length:Int))),(8,(aI .i64 (k:Int)))],hp ([(4,Ob [(X1 X1k)] 11)]++opE X3b.1 3 11 (X0t.map X1)),5⟩ (Xm X0t X1k xs k):=by
 refine drI ?_ ?_
 ·
  intro k hk hc o C;rw[Xm];intro h;rcases X3b with ⟨_|_,Xca⟩<;>(try obtain rfl:=Xca rfl);all_goals
   refine X7.round ?_;revert h;exact λe=>X8 [Bf] (k:=wC e C)
 ·
  intro x xs k hk hg hc ih o C;rw[Xm];intro h;rcases X3b with ⟨_|_,Xca⟩
  ·
   refine X7.round ?_;refine X0q [Bt,.el (X1 x),.ld (X1 x)] ?_;refine X7.inline Xf fn93 rfl rfl rfl rfl rfl trivial trivial rfl rfl ?_;refine X0q [] ?_;refine X7.back (by intro id h;cases h) rfl ?_;revert h;exact brI (λh1341=>λe=>X8 [Bt] (k:=wC e C)) λh1341=>rnK [Bf] (k:=wkI [] (ih o C))
  obtain rfl:=Xca rfl;refine X7.round ?_;exact absurd hk (by simp)
end Go.Av.Tryz