/- Printed by decomp.py: that the program computes the functions. -/
import Derived.Test.YtdpeaabenapeaaaGreatDCert5Z
set_option linter.all false

namespace Go.Av.Tryz
open Go.Proofs Go.D
set_option maxRecDepth 10000
set_option maxHeartbeats 40000000
theorem X31 {Q:Xx->St->Mu->Prop} {μ:Mu} (X0a:(List X5)) (Xb:X5) (Xbu:Int):∀ (n:Nat) (Xbt:Int) (X39:Int) (o:X0p) (h:Xr X0a Xb Xbu n Xbt X39=some o)
  (C0:∀ (Xci:Int),o=X0p.x0 Xci->X2 Tryz.prog 49 0 Q (.exit (.exit 0)) [] ⟨fr [(0,(Lf (X0a.map X3))),(2,(AV.fn 56 [])),(4,(AV.ptr 0 0 0)),(8,(aI .i64 Xbu)),(9,(aI .i64 Xci))],hp ([(0,Ob [(X3 Xb)] 11)]),1⟩ μ),
  X2 Tryz.prog 49 0 Q (.loop (X41 0 (Xh Tryz.f65))) [] ⟨fr [(0,(Lf (X0a.map X3))),(2,(AV.fn 56 [])),(4,(AV.ptr 0 0 0)),(8,(aI .i64 Xbu)),(9,(aI .i64 Xbt)),(10,(aI .i64 X39))],hp ([(0,Ob [(X3 Xb)] 11)]),1⟩ μ:=by
 intro n
 induction n with
 |zero=>intro Xbt X39 o h C0;cases h
 |succ n ih =>
  intro Xbt X39 o h C0;rw[Xr] at h;refine X2.round ?_;revert h;refine brI (λh14=>?_) λh14=>λe=>X8 [Bf] (k:=wkT [] (C0 _  (oj e).symm));refine bI λe15 h16=>?_;try have qh16:=Xl h16
  refine bI λv17 h18=>brI (λh19=>?_) λh19=>?_
  ·
   refine rnI [Bt,.wrap,.wrap,.wrap,.el (X3 e15),.pure _ (aI .i64 v17),Bt,.wrap] ?_;intro h;exact wkT [] (ih  _ _ o h C0)
  refine rnI [Bt,.wrap,.wrap,.wrap,.el (X3 e15),.pure _ (aI .i64 v17),Bf] ?_;intro h;exact wkT [] (ih  _ _ o h C0)
theorem Xj (a0:(List X5)) (a1:X5) (r:Int×Bool) (h:Xf a0 a1=some r):X0j Tryz.prog 65 [(Lf (a0.map X3)),(X3 a1),(AV.fn 56 [])] (AV.tup [(aI .i64 r.1),(aB r.2)]):=by
 refine X0j.sym X7 fn65 (nt:=49) rfl rfl ?_ okM;unfold Xf at h;revert h;refine bI λo20 h21=>rnI [.el (aI .i64 (a0.length:Int))] ?_;intro h;refine wkT [] (X2.cut (X31 a0 a1 (a0.length:Int) _ _ _ _ h21 ?_));intro Xci eo20;subst eo20;refine X2.glue ?_;try dsimp only at h
 revert h;refine bI λXzn h33=>rnI [.stop 8] ?_;intro h;refine X2.join (s':=⟨fr [(6,(aI .i64 Xci)),(7,(aB Xzn))],hp ([]),0⟩) ?_ (λJ=>X2.cut ?_)
 ·
  revert h;exact λe=>oj e▸X8 [] (k:=fi)
 clear h;revert h33;refine brI (λh28=>?_) λh28=>?_
 ·
  refine bI λe29 h30=>?_;try have qh30:=Xl h30
  refine bI λv31 h32=>?_;intro h;obtain rfl:=oj h;exact X8 [Gt,Gt,Gt,Gt,.el (X3 e29),Gt,Gt,Gt,.pure _ (aI .i64 v31),Gt] (k:=wkT [] (X2.glue J))
 intro h;obtain rfl:=oj h;exact X8 [Gf,Gf,Gf,Gf,Gf,Gf,Gf,Gf,Gf] (k:=wkT [] (X2.glue J))
instance X38:PCs Tryz.prog 84 (∀ (a0:X0x) (a1:X0x) (r:X0x×Int),X1l a0 a1=some r->X0j Tryz.prog 84 [(X0i a0),(X0i a1)] (AV.tup [(X0i r.1),(aI .i64 r.2)])):=⟨λa0 a1 r h=>by
 refine X0j.sym X7 fn84 (nt:=53) rfl rfl ?_ okM;unfold X1l at h;revert h;refine bI λXz8 h12=>rnI [.stop 1] ?_;intro h;refine X2.join (s':=⟨fr [(2,(AV.ptr 0 0 0)),(3,(AV.ptr 1 0 0)),(4,(AV.ptr 2 0 0)),(13,(aB Xz8))],hp ([(0,Ob [(X0i a0)] 4),(1,Ob [(X0i a1)] 4),(2,Ob [(X0i (X0x.mk 0 0 0 0))] 4)]),3⟩) ?_ (λJ=>X2.cut ?_)
 ·
  revert h;exact brI (λh13=>λe=>oj e▸X8 [Bt] (k:=fi)) λh13=>brI (λh14=>λe=>oj e▸X8 [Bf,.wrap,Bt] (k:=fi)) λh14=>brI (λh15=>λe=>oj e▸X8 [Bf,.wrap,Bf,Bt] (k:=fi)) λh15=>brI (λh16=>λe=>oj e▸X8 [Bf,.wrap,Bf,Bf,Bt] (k:=fi)) λh16=>λe=>oj e▸X8 [Bf,.wrap,Bf,Bf,Bf,.wrap,.wrap] (k:=fi)
 clear h;revert h12;refine bI λv7 h8=>brI (λh9=>?_) λh9=>?_
 ·
  intro h;obtain rfl:=oj h;exact X8 [.pure _ (aI .i64 v7),Gf,Gf,Gf] (k:=wkT [] (X2.glue J))
 refine bI λv10 h11=>?_;intro h;obtain rfl:=oj h;exact X8 [.pure _ (aI .i64 v7),Gt,Gt,.pure _ (aI .i64 v10),Gt] (k:=wkT [] (X2.glue J))⟩
instance Xrs:PCs Tryz.prog 98 (∀ (a0:Int) (a1:Int) (r:Int),X8s a0 a1=some r->X0j Tryz.prog 98 [(aI .i64 a0),(aI .i64 a1)] (aI .i64 r)):=⟨λa0 a1 r h=>by
 refine X0j.sym X7 fn98 (nt:=17) rfl rfl ?_ okM;unfold X8s at h;revert h;exact brI (λh1=>λe=>oj e▸X8 [Bt] (k:=fi)) λh1=>brI (λh2=>λe=>oj e▸X8 [Bf,Bt] (k:=fi)) λh2=>λe=>oj e▸X8 [Bf,Bf] (k:=fi)⟩
instance Xrd:PCs Tryz.prog 85 (∀ (a0:Int) (a1:Int) (r:Int×Int),X62 a0 a1=some r->X0j Tryz.prog 85 [(aI .i64 a0),(aI .i64 a1)] (AV.tup [(aI .i64 r.1),(aI .i64 r.2)])):=⟨λa0 a1 r h=>by
 refine X0j.sym X7 fn85 (nt:=24) rfl rfl ?_ okM;unfold X62 at h;revert h;refine bI λv1 h2=>brI (λh3=>λe=>oj e▸X8 [.pure _ (aI .i64 v1),Bt] (k:=fi)) λh3=>bI λu4 h5=>bI λj7_7 h9=>rnI [.pure _ (aI .i64 v1),Bf,.wrap] ?_;intro h;refine X2.join (s':=⟨fr [(7,(aI .i64 j7_7))],hp ([]),0⟩) ?_ (λJ=>X2.cut ?_)
 ·
  revert h;exact λe=>oj e▸X8 [] (k:=fi)
 clear h;revert h9;refine brI (λh8=>?_) λh8=>?_
 ·
  intro h;obtain rfl:=oj h;exact X8 [Bt,.wrap] (k:=wkT [] (X2.glue J))
 intro h;obtain rfl:=oj h;exact X8 [Bf] (k:=wkT [] (X2.glue J))⟩
instance Xb9:PCs Tryz.prog 63 (∀ (a0:Int) (a1:Int) (r:X0k×Int),X9l a0 a1=some r->X0j Tryz.prog 63 [(aI .i64 a0),(aI .i64 a1)] (AV.tup [(Xw r.1),(aI .i64 r.2)])):=⟨λa0 a1 r h=>by
 refine X0j.sym X7 fn63 (nt:=26) rfl rfl ?_ okM;unfold X9l at h;revert h;exact bI λv1 h2=>brI (λh3=>λe=>oj e▸X8 [.pure _ (AV.tup [(aI .i64 v1.1),(aI .i64 v1.2)]),Bt] (k:=fi)) λh3=>λe=>oj e▸X8 [.pure _ (AV.tup [(aI .i64 v1.1),(aI .i64 v1.2)]),Bf,.wrap,.wrap,.wrap] (k:=fi)⟩
theorem Xg9 {Q:Xx->St->Mu->Prop} {μ:Mu} (X0a:Int) (X54:Int) (y0_2:Int):∀ (n:Nat) (Xb:(List X0k)) (Xg2:Int) (X0r:Nb Xb) (o:X99) (h:X4g X0a X54 y0_2 n Xb Xg2=some o)
  (C0:∀ (Xo:(List X0k)) (Xz:Nb Xo),o=X99.x0 Xo->X2 Tryz.prog 70 0 Q (.exit (.exit 0)) [] ⟨fr [(10,(slE Xz.1 0 (Xo.map Xw)))],hp ([]++opE Xz.1 0 2 (Xo.map Xw)),1⟩ μ),
  X2 Tryz.prog 70 0 Q (.loop (X41 0 (Xh Tryz.f64))) [] ⟨fr [(0,(aI .i64 X0a)),(1,(aI .i64 X54)),(2,(aI .i64 y0_2)),(10,(slE X0r.1 0 (Xb.map Xw))),(11,(aI .i64 Xg2))],hp ([]++opE X0r.1 0 2 (Xb.map Xw)),1⟩ μ:=by
 intro n
 induction n with
 |zero=>intro Xb Xg2 X0r o h C0;cases h
 |succ n ih =>
  intro Xb Xg2 X0r o h C0;rw[X4g] at h;rcases X0r with ⟨_|_,X2v⟩
  ·
   refine X2.round ?_;revert h;refine brI (λh18=>?_) λh18=>λe=>X8 [.wrap,Bf] (k:=wkT [] (C0 _  nbF (oj e).symm));refine bI λu19 h20=>rnI [.wrap,Bt,.wrap,.no,.wrap] (o:=by repeat' first|apply Ya|exact pcM|(refine X03 h20 rfl ?_;first|(simp<;>omega)|(simp[h18]<;>omega))|(refine Xq h20 (by decide) ?_;first|(simp<;>omega)|(simp[h18]<;>omega))|exact X05) ?_;intro h;exact wkT [(0,2)] (ih  _ _ nbF o h C0)
  obtain rfl:=X2v rfl;refine X2.round ?_;revert h;refine brI (λh21=>?_) λh21=>λe=>X8 [.wrap,Bf] (k:=wkT [] (C0 _  nbS (oj e).symm));refine bI λu22 h23=>rnI [.wrap,Bt,.wrap,.no,.wrap] (o:=by repeat' first|apply Ya|exact pcM|(refine X03 h23 rfl ?_;first|(simp<;>omega)|(simp[h21]<;>omega))|(refine Xq h23 (by decide) ?_;first|(simp<;>omega)|(simp[h21]<;>omega))|exact X05) ?_;intro h;exact wkT [(0,2)] (ih  _ _ nbF o h C0)
theorem X8u {Q:Xx->St->Mu->Prop}  {rb rD:Nat} {rr:Loop} (rh1:rr.state=.ready) (rh2:rr.pending=none) (rh3:rr.params=(rfB 0 (Xh Tryz.f64)).1) (rh4:rr.assign=(rfB 0 (Xh Tryz.f64)).2.1) (rh5:rr.body=(rfB 0 (Xh Tryz.f64)).2.2) (X15:(List X0k)) (Xfr:Nb X15):∀ (n:Nat) (X0q:(List X0k)) (Xcz:Int) (X2l:Nb X0q) (o:X6w) (h:X2g X15 n X0q Xcz=some o)
  (C0:∀ (X3i:(List X0k)) (Xb3:(List X0k)) (X2e:Nb X3i) (X7u:Nb Xb3),o=X6w.x0 X3i Xb3->X2 Tryz.prog 19 3 Q (.exit (.exit 0)) [] ⟨fr [],hp ([(1,Ob [(slE X2e.1 3 (X3i.map Xw))] 1),(2,Ob [(slE X7u.1 4 (Xb3.map Xw))] 1)]++opE X2e.1 3 2 (X3i.map Xw)++opE X7u.1 4 2 (Xb3.map Xw)),5⟩ [(rb,MuE.loop rr 70 3 (fr [(12,(AV.ptr 1 0 0)),(62,(AV.fn 99 [(AV.ptr 2 0 0)]))])),(rD,MuE.blk (Go.Obj.deferred (some [])))]),
  X2 Tryz.prog 19 3 Q (.loop (X41 0 (Xh Tryz.f99))) [] ⟨fr [(0,(AV.sc (.func (.yield rb) #[] #[]))),(1,(AV.ptr 2 0 0)),(3,(aI .i64 Xcz))],hp ([(1,Ob [(slE X2l.1 3 (X0q.map Xw))] 1),(2,Ob [(slE Xfr.1 4 (X15.map Xw))] 1)]++opE X2l.1 3 2 (X0q.map Xw)++opE Xfr.1 4 2 (X15.map Xw)),5⟩ [(rb,MuE.loop rr 70 3 (fr [(12,(AV.ptr 1 0 0)),(62,(AV.fn 99 [(AV.ptr 2 0 0)]))])),(rD,MuE.blk (Go.Obj.deferred (some [])))]:=by
 intro n
 induction n with
 |zero=>intro X0q Xcz X2l o h C0;cases h
 |succ n ih =>
  intro X0q Xcz X2l o h C0;rw[X2g] at h;rcases X2l with ⟨_|_,Xal⟩
  ·
   rcases Xfr with ⟨_|_,Xjx⟩
   ·
    refine X2.round ?_;revert h;refine brI (λh67=>?_) λh67=>λe=>X8 [Bf] (k:=wkT [] (C0 _ _  nbF nbF (oj e).symm));refine bI λe68 h69=>?_;try have qh69:=Xl h69
    refine rnI [Bt,.el (Xw e68),.ld (Xw e68)] ?_;intro h;refine X2.yield rfl rfl rfl rfl rfl trivial trivial (.head _) rh1 rh2 rh3 rh4 rh5 rfl rfl ?_;refine X0z [] ?_;refine X2.asg ?_;revert h;refine bI λu72 h73=>rnI [.no] (o:=by repeat' first|apply Ya|exact pcM|(refine X03 h73 rfl ?_;first|(simp<;>omega)|(simp[h67]<;>omega))|(refine Xq h73 (by decide) ?_;first|(simp<;>omega)|(simp[h67]<;>omega))|exact X05) ?_;intro h;refine X2.rndEnd ?_;exact X8 [Bf,.wrap] (k:=wkT [(3,7)] (ih  _ _ nbF o h C0))
   obtain rfl:=Xjx rfl;refine X2.round ?_;revert h;refine brI (λh74=>?_) λh74=>λe=>X8 [Bf] (k:=wkT [] (C0 _ _  nbF nbS (oj e).symm));refine bI λe75 h76=>?_;try have qh76:=Xl h76
   intro h
   first|exact absurd (h76) (by simp[X0u];done)|(simp[X0u,h74] at h;done)|(simp[h74] at hg;done)|exact absurd (h76) (by simp[X0u,h74];done)
  obtain rfl:=Xal rfl;rcases Xfr with ⟨_|_,Xjx⟩
  ·
   refine X2.round ?_;revert h;refine brI (λh77=>?_) λh77=>λe=>X8 [Bf] (k:=wkT [] (C0 _ _  nbS nbF (oj e).symm));refine bI λe78 h79=>?_;try have qh79:=Xl h79
   refine rnI [Bt,.el (Xw e78),.ld (Xw e78)] ?_;intro h;refine X2.yield rfl rfl rfl rfl rfl trivial trivial (.head _) rh1 rh2 rh3 rh4 rh5 rfl rfl ?_;refine X0z [] ?_;refine X2.asg ?_;revert h;refine bI λu82 h83=>rnI [.no] (o:=by repeat' first|apply Ya|exact pcM|(refine X03 h83 rfl ?_;first|(simp<;>omega)|(simp[h77]<;>omega))|(refine Xq h83 (by decide) ?_;first|(simp<;>omega)|(simp[h77]<;>omega))|exact X05) ?_;intro h;refine X2.rndEnd ?_;exact X8 [Bf,.wrap] (k:=wkT [(3,7)] (ih  _ _ nbF o h C0))
  obtain rfl:=Xjx rfl;refine X2.round ?_;revert h;refine brI (λh84=>?_) λh84=>λe=>X8 [Bf] (k:=wkT [] (C0 _ _  nbS nbS (oj e).symm));refine bI λe85 h86=>?_;try have qh86:=Xl h86
  intro h
  first|exact absurd (h86) (by simp[X0u];done)|(simp[X0u,h84] at h;done)|(simp[h84] at hg;done)|exact absurd (h86) (by simp[X0u,h84];done)
instance Xxi:PCs Tryz.prog 64 (∀ (a0:Int) (a1:Int) (a2:Int) (r:(List X0k)×Int),Xbb a0 a1 a2=some r->X0j Tryz.prog 64 [(aI .i64 a0),(aI .i64 a1),(aI .i64 a2)] (AV.tup [(Lt (r.1.map Xw)),(aI .i64 r.2)])):=⟨λa0 a1 a2 r h=>by
 refine X0j.sym X7 fn64 (nt:=70) rfl rfl ?_ okM;unfold Xbb at h;revert h;refine brI (λh1=>λe=>oj e▸X8 [.wrap,Bt] (k:=fi)) λh1=>bI λv2 h3=>brI (λh4=>λe=>oj e▸X8 [.wrap,Bf,.pure _ (AV.tup [(Xw v2.1),(aI .i64 v2.2)]),Bt] (k:=fi)) λh4=>bI λo24 h25=>rnI [.wrap,Bf,.pure _ (AV.tup [(Xw v2.1),(aI .i64 v2.2)]),Bf] ?_;intro h;refine wkT [] (X2.cut (Xg9 a0 a1 a2 _ _ _ nbS _ h25 ?_));intro Xo Xz eo24;subst eo24;refine X2.glue ?_;try dsimp only at h
 rcases Xz with ⟨_|_,X1v⟩
 ·
  refine X0z [] ?_;refine X2.inline X7 fn86 rfl rfl rfl rfl rfl trivial trivial rfl rfl ?_;refine X0z [] ?_;refine X2.back (by intro id h;cases h) rfl ?_;refine X0z [] ?_;refine X2.keepL [12,62] ?_;refine X2.rangeFunc rfl trivial fn99 rfl rfl rfl ?_;intro rb rD rr rh1 rh2 rh3 rh4 rh5;revert h;refine bI λo87 h88=>rnI [.el (aI .i64 (Xo.length:Int)),.wrap] ?_;intro h;refine wkT [(4,0)] (X2.cut (X8u rh1 rh2 rh3 rh4 rh5 Xo nbF _ _ _ nbS _ h88 ?_));intro X3i Xb3 X2e X7u eo87;subst eo87;refine X2.glue ?_;try dsimp only at h
  rcases X2e with ⟨_|_,X74⟩<;>(try obtain rfl:=X74 rfl);all_goals
   rcases X7u with ⟨_|_,Xef⟩<;>(try obtain rfl:=Xef rfl);all_goals
    refine X0z [] ?_;refine X2.rfEnd (by intro id h;cases h) ?_;revert h;exact λe=>oj e▸X8 [] (k:=fi)
 obtain rfl:=X1v rfl;refine X0z [] ?_;refine X2.inline X7 fn86 rfl rfl rfl rfl rfl trivial trivial rfl rfl ?_;refine X0z [] ?_;refine X2.back (by intro id h;cases h) rfl ?_;refine X0z [] ?_;refine X2.keepL [12,62] ?_;refine X2.rangeFunc rfl trivial fn99 rfl rfl rfl ?_;intro rb rD rr rh1 rh2 rh3 rh4 rh5;revert h;refine bI λo130 h131=>rnI [.el (aI .i64 (List.length ([]:List X0k):Int)),.wrap] ?_;intro h;refine wkT [] (X2.cut (X8u rh1 rh2 rh3 rh4 rh5 ([]:List X0k) nbS _ _ _ nbS _ h131 ?_));intro X3i Xb3 X2e X7u eo130;subst eo130;refine X2.glue ?_;try dsimp only at h
 rcases X2e with ⟨_|_,X74⟩<;>(try obtain rfl:=X74 rfl);all_goals
  rcases X7u with ⟨_|_,Xef⟩<;>(try obtain rfl:=Xef rfl);all_goals
   refine X0z [] ?_;refine X2.rfEnd (by intro id h;cases h) ?_;revert h;exact λe=>oj e▸X8 [] (k:=fi)⟩
instance Xg8:PCs Tryz.prog 42 (∀ (a0:X0g) (a1:Int) (r:(List X0k)×Int),Xd4 a0 a1=some r->X0j Tryz.prog 42 [(X2k a0),(aI .i64 a1)] (AV.tup [(Lt (r.1.map Xw)),(aI .i64 r.2)])):=⟨λa0 a1 r h=>by
 refine X0j.sym X7 fn42 (nt:=40) rfl rfl ?_ okM;unfold Xd4 at h;revert h;exact bI λv1 h2=>brI (λh3=>λe=>oj e▸X8 [.pure _ (aI .i64 v1),Bt] (k:=fi)) λh3=>brI (λh4=>bI λv5 h6=>brI (λh7=>λe=>oj e▸X8 [.pure _ (aI .i64 v1),Bf,Bt,.pure _ (AV.tup [(Xw v5.1),(aI .i64 v5.2)]),Bt] (k:=fi)) λh7=>λe=>oj e▸X8 [.pure _ (aI .i64 v1),Bf,Bt,.pure _ (AV.tup [(Xw v5.1),(aI .i64 v5.2)]),Bf] (k:=fi)) λh4=>brI (λh8=>bI λv9 h10=>λe=>oj e▸X8 [.pure _ (aI .i64 v1),Bf,Bf,Bt,.pure _ (AV.tup [(Lt (v9.1.map Xw)),(aI .i64 v9.2)])] (k:=fi)) λh8=>λe=>oj e▸X8 [.pure _ (aI .i64 v1),Bf,Bf,Bf] (k:=fi)⟩
theorem X0y {Q:Xx->St->Mu->Prop} {μ:Mu} (X0q:(List X5)) (X15:X5) (X2l:Nb X0q) (hl:X0q.length<=140737488355328):∀ (xs:List X5) (k:Nat) (hx:X0q.drop k=xs) (o:X01) (h:Xg X0q X15 xs k  = some o)
  (C0:o=X01.x0->X2 Tryz.prog 19 5 Q (.exit (.exit 0)) [] ⟨fr [],hp ([(4,Ob [(X3 X15)] 11)]++opE X2l.1 3 11 (X0q.map X3)),5⟩ μ)
  (C1:∀ (X8p:Int),o=X01.x1 X8p->X2 Tryz.prog 19 5 Q (.exit .ret) [] ⟨fr [(4,(aI .i64 X8p))],hp ([(4,Ob [(X3 X15)] 11)]++opE X2l.1 3 11 (X0q.map X3)),5⟩ μ),
  X2 Tryz.prog 19 5 Q (.loop (X41 0 (Xh Tryz.f59))) [] ⟨fr [(0,(slE X2l.1 3 (X0q.map X3))),(1,(AV.fn 60 [(AV.ptr 4 0 0)])),(7,(aI .i64 (X0q.length:Int))),(8,(aI .i64 (k:Int)))],hp ([(4,Ob [(X3 X15)] 11)]++opE X2l.1 3 11 (X0q.map X3)),5⟩ μ:=by
 intro xs
 induction xs with
 |nil =>
  intro k hx  o h C0 C1;have hk:=X11 hx;have hc:decide ((k:Int)<(X0q.length:Int))=false:=Yf om;rw[Xg] at h;rcases X2l with ⟨_|_,Xal⟩<;>(try obtain rfl:=Xal rfl);all_goals
   refine X2.round ?_;revert h;exact λe=>X8 [Bf] (k:=wkT [] (C0  (oj e).symm))
 |cons x xs ih =>
  intro k hx  o h C0 C1;obtain⟨hk,hg,hx1⟩:=X0f hx;have hc:decide ((k:Int)<(X0q.length:Int))=true:=Yt om;rw[Xg] at h;rcases X2l with ⟨_|_,Xal⟩
  ·
   refine X2.round ?_;refine X0z [Bt,.el (X3 x),.ld (X3 x)] ?_;refine X2.inline X7 fn60 rfl rfl rfl rfl rfl trivial trivial rfl rfl ?_;refine X0z [] ?_;refine X2.back (by intro id h;cases h) rfl ?_;revert h;refine brI (λh1341=>λe=>X8 [Bt] (k:=wkT [] (C1 _  (oj e).symm))) λh1341=>rnI [Bf] ?_;intro h;exact wkT [] (ih (k+1) hx1  o h C0 C1)
  obtain rfl:=Xal rfl;refine X2.round ?_;exact absurd hk (by simp)
end Go.Av.Tryz