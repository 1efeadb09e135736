/- Printed by decomp.py: that the program computes the functions. -/
import Derived.Test.YtnfamdbgcgjlaaaGreatDoorDCert4Z
set_option linter.all false

namespace Go.Av.Tryz
open Go.Proofs Go.D
set_option maxRecDepth 10000
set_option maxHeartbeats 40000000
instance Xqc:PCs Tryz.prog 18 (∀ (a0:Xa) (r:Int×Int),X4a a0=some r->X06 Tryz.prog 18 [(X8 false a0)] (AV.tup [(aI .i64 r.1),(aI .i64 r.2)])):=⟨λa0 r h=>by
 refine X06.sym X7 fn18 (nt:=20) rfl rfl ?_ okM;unfold X4a at h;revert h;refine bI λv1 h2=>brI (λh3=>λe=>oj e▸Xd [.pure _ (aI .i64 v1),Bt] (k:=fi)) λh3=>bI λw22 h41=>?_;intro h;obtain⟨Xt4,Xt3⟩:=w22;try dsimp only at h
 refine X34 [.pure _ (aI .i64 v1),Bf] ?_;refine X4.joinOp (s':=⟨fr [(17,(AV.tup [(aI .i64 Xt4),(aI .i64 Xt3)]))],hp ([]),0⟩) ?_ (λJ=>?_)
 ·
  revert h;exact λe=>oj e▸Xd [] (k:=fi)
 clear h;revert h41;intro h;refine X4.inline X7 fn32 rfl rfl rfl rfl rfl trivial trivial rfl rfl ?_;refine X34 [] ?_;refine X4.round ?_;revert h;refine brI (λh23=>?_) λh23=>?_
 ·
  refine rnI [Bt,.el (AV.agg [(Lf (a0.Arg.map X0)),(AV.fn 33 [])]),.el (aI .i64 (a0.Arg.length:Int)),Bt] ?_;intro h;refine X4.round ?_;revert h;refine brI (λh24=>?_) λh24=>?_
  ·
   refine rnI [Bt,.el (AV.agg [(Lf (a0.Where.map X0)),(AV.fn 34 [])]),.el (aI .i64 (a0.Where.length:Int)),Bt] ?_;intro h;refine X4.round ?_;simp only[Option.some.injEq,Prod.mk.injEq] at h;obtain⟨rfl,rfl⟩:=h;refine X34 [Bf] ?_;refine X4.back (by intro id h;cases h) rfl ?_;exact wkT [] (J)
  refine bI λv25 h26=>rnI [Bt,.el (AV.agg [(Lf (a0.Where.map X0)),(AV.fn 34 [])]),.el (aI .i64 (a0.Where.length:Int)),Bf,.pure _ (AV.tup [(aI .i64 v25.1),(aI .i64 v25.2)])] ?_;refine brI (λh27=>?_) λh27=>?_
  ·
   refine bI λe28 h29=>?_;try have qh29:=Xm h29
   intro h;simp only[Option.some.injEq,Prod.mk.injEq] at h;obtain⟨rfl,rfl⟩:=h;refine X34 [Bt,.el (X0 e28)] ?_;refine X4.back (by intro id h;cases h) rfl ?_;exact wkT [] (J)
  refine rnI [Bf] ?_;intro h;refine X4.round ?_;simp only[Option.some.injEq,Prod.mk.injEq] at h;obtain⟨rfl,rfl⟩:=h;refine X34 [Bf] ?_;refine X4.back (by intro id h;cases h) rfl ?_;exact wkT [] (J)
 refine bI λv30 h31=>rnI [Bt,.el (AV.agg [(Lf (a0.Arg.map X0)),(AV.fn 33 [])]),.el (aI .i64 (a0.Arg.length:Int)),Bf,.pure _ (AV.tup [(aI .i64 v30.1),(aI .i64 v30.2)])] ?_;refine brI (λh32=>?_) λh32=>?_
 ·
  refine bI λe33 h34=>?_;try have qh34:=Xm h34
  intro h;simp only[Option.some.injEq,Prod.mk.injEq] at h;obtain⟨rfl,rfl⟩:=h;refine X34 [Bt,.el (X0 e33)] ?_;refine X4.back (by intro id h;cases h) rfl ?_;exact wkT [] (J)
 refine rnI [Bf] ?_;intro h;refine X4.round ?_;revert h;refine brI (λh35=>?_) λh35=>?_
 ·
  refine rnI [Bt,.el (AV.agg [(Lf (a0.Where.map X0)),(AV.fn 34 [])]),.el (aI .i64 (a0.Where.length:Int)),Bt] ?_;intro h;refine X4.round ?_;simp only[Option.some.injEq,Prod.mk.injEq] at h;obtain⟨rfl,rfl⟩:=h;refine X34 [Bf] ?_;refine X4.back (by intro id h;cases h) rfl ?_;exact wkT [] (J)
 refine bI λv36 h37=>rnI [Bt,.el (AV.agg [(Lf (a0.Where.map X0)),(AV.fn 34 [])]),.el (aI .i64 (a0.Where.length:Int)),Bf,.pure _ (AV.tup [(aI .i64 v36.1),(aI .i64 v36.2)])] ?_;refine brI (λh38=>?_) λh38=>?_
 ·
  refine bI λe39 h40=>?_;try have qh40:=Xm h40
  intro h;simp only[Option.some.injEq,Prod.mk.injEq] at h;obtain⟨rfl,rfl⟩:=h;refine X34 [Bt,.el (X0 e39)] ?_;refine X4.back (by intro id h;cases h) rfl ?_;exact wkT [] (J)
 refine rnI [Bf] ?_;intro h;refine X4.round ?_;simp only[Option.some.injEq,Prod.mk.injEq] at h;obtain⟨rfl,rfl⟩:=h;refine X34 [Bf] ?_;refine X4.back (by intro id h;cases h) rfl ?_;exact wkT [] (J)⟩
instance Xfw:PCs Tryz.prog 62 (∀ (a0:(List X1)) (r:(List X1)),X1a a0=some r->X06 Tryz.prog 62 [(Lf (a0.map X0))] (Lt (r.map X0))):=⟨λa0 r h=>by
 refine X06.sym X7 fn62 (nt:=8) rfl rfl ?_ okM;unfold X1a at h;revert h;refine brI (λq=>?_) λq=>?_
 ·
  intro h;have h1:a0=[]:=List.isEmpty_iff.1 q;refine X34 [] ?_;refine X4.eqNil X7 (may:=true) rfl rfl rfl rfl rfl rfl trivial (by simp[X6d, *]) λb2 qb2=>?_;cases b2
  ·
   revert h;exact λe=>oj e▸Xd [Bf,.ne false] (k:=fi)
  revert h;exact λe=>oj e▸Xd [Bt] (k:=fi)
 intro h;have h1:¬ (a0=[]):=(λe=>by rw[e] at q;cases q);refine X34 [] ?_;refine X4.eqNil X7 (may:=false) rfl rfl rfl rfl rfl rfl trivial (by simp[X6d, *]) λb3 qb3=>?_;obtain rfl:=qb3 rfl;revert h;exact bI λu4 h5=>λe=>oj e▸Xd [Bf,.via (Lt (a0.map X0))] (o:=by repeat' first|apply Ya|exact pcM|(refine X20 h5 rfl ?_;first|(simp<;>omega)|(simp[h1]<;>omega))|(refine X0p h5 (by decide) ?_;first|(simp<;>omega)|(simp[h1]<;>omega))|exact Xu) (k:=fi)⟩
instance Xh7:PCs Tryz.prog 63 (∀ (a0:(List Int)) (r:(List Int)),X29 a0=some r->X06 Tryz.prog 63 [(Lf (List.map (aI .i64) a0))] (Lt (List.map (aI .i64) r))):=⟨λa0 r h=>by
 refine X06.sym X7 fn63 (nt:=8) rfl rfl ?_ okM;unfold X29 at h;revert h;refine brI (λq=>?_) λq=>?_
 ·
  intro h;have h1:a0=[]:=List.isEmpty_iff.1 q;refine X34 [] ?_;refine X4.eqNil X7 (may:=true) rfl rfl rfl rfl rfl rfl trivial (by simp[X6d, *]) λb2 qb2=>?_;cases b2
  ·
   revert h;exact λe=>oj e▸Xd [Bf,.ne false] (k:=fi)
  revert h;exact λe=>oj e▸Xd [Bt] (k:=fi)
 intro h;have h1:¬ (a0=[]):=(λe=>by rw[e] at q;cases q);refine X34 [] ?_;refine X4.eqNil X7 (may:=false) rfl rfl rfl rfl rfl rfl trivial (by simp[X6d, *]) λb3 qb3=>?_;obtain rfl:=qb3 rfl;revert h;exact bI λu4 h5=>λe=>oj e▸Xd [Bf,.via (Lt (List.map (aI .i64) a0))] (o:=by repeat' first|apply Ya|exact pcM|(refine X20 h5 rfl ?_;first|(simp<;>omega)|(simp[h1]<;>omega))|(refine X0p h5 (by decide) ?_;first|(simp<;>omega)|(simp[h1]<;>omega))|exact Xu) (k:=fi)⟩
instance Xo2:PCs Tryz.prog 35 (∀ (a0:Xa) (r:Xa),X68 a0=some r->X06 Tryz.prog 35 [(X8 false a0)] (X8 true r)):=⟨λa0 r h=>by
 refine X06.sym X7 fn35 (nt:=16) rfl rfl ?_ okM;unfold X68 at h;revert h;exact bI λv1 h2=>bI λv3 h4=>bI λv5 h6=>λe=>oj e▸Xd [.pure _ (Lt (v1.map X0)),.pure _ (Lt (List.map (aI .i64) v3)),.pure _ (Lt (v5.map X0))] (k:=fi)⟩
instance Xv1:PCs Tryz.prog 88 (∀ (a0:(List X1)) (r:(List Bool)×Int),X9r a0=some r->X06 Tryz.prog 88 [(Lf (a0.map X0))] (AV.tup [(Lt (r.1.map aB)),(aI .i64 r.2)])):=⟨λa0 r h=>by
 refine X06.sym X7 fn88 (nt:=24) rfl rfl ?_ okM;unfold X9r at h;revert h;exact bI λv1 h2=>brI (λh3=>λe=>oj e▸Xd [.pure _ (AV.tup [(aB v1.1),(aI .i64 v1.2.1),(aI .i64 v1.2.2)]),Bt] (k:=fi)) λh3=>bI λv4 h5=>λe=>oj e▸Xd [.pure _ (AV.tup [(aB v1.1),(aI .i64 v1.2.1),(aI .i64 v1.2.2)]),Bf,.pure _ (AV.tup [(Lt (v4.1.map aB)),(aI .i64 v4.2)])] (k:=fi)⟩
instance Xsn:PCs Tryz.prog 120 (∀ (a0:(List X1)) (a1:Int) (r:Int×Int),X8c a0 a1=some r->X06 Tryz.prog 120 [(Lf (a0.map X0)),(aI .i64 a1)] (AV.tup [(aI .i64 r.1),(aI .i64 r.2)])):=⟨λa0 a1 r h=>by
 refine X06.sym X7 X059 (nt:=29) rfl rfl ?_ okM;unfold X8c at h;revert h;refine bI λv1 h2=>brI (λh3=>λe=>oj e▸Xd [.pure _ (AV.tup [(Lt (v1.1.map X2)),(aI .i64 v1.2)]),Bt] (k:=fi)) λh3=>bI λXxj h7=>rnI [.pure _ (AV.tup [(Lt (v1.1.map X2)),(aI .i64 v1.2)]),Bf,.stop 4] ?_;intro h;refine X4.join (s':=⟨fr [(1,(aI .i64 a1)),(6,(Lt (v1.1.map X2))),(23,(aB Xxj))],hp ([]),0⟩) ?_ (λJ=>X4.cut ?_)
 ·
  revert h;refine brI (λh8=>λe=>oj e▸Xd [Bt] (k:=fi)) λh8=>bI λe9 h10=>?_;try have qh10:=Xm h10
  exact λe=>oj e▸Xd [Bf,.el (X2 e9)] (k:=fi)
 clear h;revert h7;refine brI (λh6=>?_) λh6=>?_
 ·
  intro h;obtain rfl:=oj h;exact Xd [Gf,Gf,Gf,Gf] (k:=wkT [] (X4.glue J))
 intro h;obtain rfl:=oj h;exact Xd [Gt,Gt,Gt,.el (aI .i64 (v1.1.length:Int)),Gt] (k:=wkT [] (X4.glue J))⟩
theorem X8b {Q:Xi->St->Mu->Prop} {μ:Mu} (X87:Int) (Xia:Int):∀ (n:Nat) (Xr:(List X1)) (Xav:Int) (X2b:Nb Xr) (o:X6g) (h:X2f X87 Xia n Xr Xav=some o)
  (C0:∀ (X01:(List X1)) (X1s:Nb X01),o=X6g.x0 X01->X4 Tryz.prog 49 0 Q (.exit (.exit 0)) [] ⟨fr [(5,(slE X1s.1 0 (X01.map X0)))],hp ([]++opE X1s.1 0 5 (X01.map X0)),1⟩ μ),
  X4 Tryz.prog 49 0 Q (.loop (X7j 0 (X3 Tryz.f121))) [] ⟨fr [(1,(aI .i64 X87)),(5,(slE X2b.1 0 (Xr.map X0))),(12,(aI .i64 Xia)),(13,(aI .i64 Xav))],hp ([]++opE X2b.1 0 5 (Xr.map X0)),1⟩ μ:=by
 intro n
 induction n with
 |zero=>intro Xr Xav X2b o h C0;cases h
 |succ n ih =>
  intro Xr Xav X2b o h C0;rw[X2f] at h;rcases X2b with ⟨_|_,X6p⟩
  ·
   refine X4.round ?_;revert h;refine brI (λh85=>?_) λh85=>λe=>Xd [Bf] (k:=wkT [] (C0 _  nbF (oj e).symm));refine bI λe86 h87=>?_;try have qh87:=Xm h87
   refine bI λv88 h89=>bI λXf2 h93=>rnI [Bt,.el (X0 e86),.ld (X0 e86),.pure _ (AV.tup [(aI .i64 v88.1),(aI .i64 v88.2)])] ?_;intro h;refine X4.joinF (λ(q:Nb Xf2)=>⟨fr [(1,(aI .i64 X87)),(5,(slE q.1 0 (Xf2.map X0))),(6,(aI .i64 Xav)),(7,(aI .i64 v88.1)),(12,(aI .i64 Xia)),(13,(aI .i64 Xav))],hp ([]++opE q.1 0 5 (Xf2.map X0)),1⟩) ?_ (λJ=>X4.cut ?_)
   ·
    rintro Xol;rcases Xol with ⟨_|_,Xpk⟩
    ·
     revert h;refine bI λXit h101=>rnI [] ?_;intro h;refine X4.joinF (λ(q:Nb Xit)=>⟨fr [(1,(aI .i64 X87)),(5,(slE q.1 0 (Xit.map X0))),(12,(aI .i64 Xia)),(13,(aI .i64 Xav))],hp ([]++opE q.1 0 5 (Xit.map X0)),1⟩) ?_ (λJ=>X4.cut ?_)
     ·
      rintro Xok;rcases Xok with ⟨_|_,Xpj⟩
      ·
       exact Xd [.wrap] (k:=wkT [] (ih  _ _ nbF o h C0))
      obtain rfl:=Xpj rfl;exact Xd [.wrap] (k:=wkT [] (ih  _ _ nbS o h C0))
     clear h;revert h101;refine brI (λh98=>?_) λh98=>?_
     ·
      refine bI λe99 h100=>?_;try have qh100:=Xm h100
      intro h;obtain rfl:=oj h;exact Xd [Bt,.el (X0 e99),.ld (X0 e99),.wrap,.el (X0 e99),.ld (X0 e99)] (o:=by repeat' first|apply Ya|exact pcM|exact(List.getElem?_set_self (by have hq:=X61 h100;simp;omega)).trans rfl|exact Xu) (k:=wkT [] (X4.glue (J nbF)))
     intro h;obtain rfl:=oj h;exact Xd [Bf] (k:=wkT [] (X4.glue (J nbF)))
    obtain rfl:=Xpk rfl;revert h;refine bI λXk8 h109=>rnI [] ?_;intro h;refine X4.joinF (λ(q:Nb Xk8)=>⟨fr [(1,(aI .i64 X87)),(5,(slE q.1 0 (Xk8.map X0))),(12,(aI .i64 Xia)),(13,(aI .i64 Xav))],hp ([]++opE q.1 0 5 (Xk8.map X0)),1⟩) ?_ (λJ=>X4.cut ?_)
    ·
     rintro Xmm;rcases Xmm with ⟨_|_,Xmq⟩
     ·
      exact Xd [.wrap] (k:=wkT [] (ih  _ _ nbF o h C0))
     obtain rfl:=Xmq rfl;exact Xd [.wrap] (k:=wkT [] (ih  _ _ nbS o h C0))
    clear h;revert h109;refine brI (λh106=>?_) λh106=>?_
    ·
     refine bI λe107 h108=>?_;try have qh108:=Xm h108
     intro h
     first|exact absurd (h108) (by simp[getI];done)|(simp[getI,h85,h106] at h;done)|(simp[h85,h106] at hg;done)|exact absurd (h108) (by simp[getI,h85,h106];done)
    intro h;obtain rfl:=oj h;exact Xd [Bf] (k:=wkT [] (X4.glue (J nbS)))
   clear h;revert h93;refine brI (λh92=>?_) λh92=>?_
   ·
    intro h;obtain rfl:=oj h;exact Xd [Bt,.el (X0 e86),.ld (X0 e86),.wrap,.el (X0 e86),.ld (X0 e86)] (o:=by repeat' first|apply Ya|exact pcM|exact(List.getElem?_set_self (by have hq:=X61 h87;simp;omega)).trans rfl|exact Xu) (k:=wkT [] (X4.glue (J nbF)))
   intro h;obtain rfl:=oj h;exact Xd [Bf] (k:=wkT [] (X4.glue (J nbF)))
  obtain rfl:=X6p rfl;refine X4.round ?_;revert h;refine brI (λh110=>?_) λh110=>λe=>Xd [Bf] (k:=wkT [] (C0 _  nbS (oj e).symm));refine bI λe111 h112=>?_;try have qh112:=Xm h112
  intro h
  first|exact absurd (h112) (by simp[getI];done)|(simp[getI,h110] at h;done)|(simp[h110] at hg;done)|exact absurd (h112) (by simp[getI,h110];done)
instance Xrg:PCs Tryz.prog 121 (∀ (a0:(List X1)) (a1:Int) (r:(List X1)),X4w a0 a1=some r->X06 Tryz.prog 121 [(Lf (a0.map X0)),(aI .i64 a1)] (Lt (r.map X0))):=⟨λa0 a1 r h=>by
 refine X06.sym X7 X058 (nt:=49) rfl rfl ?_ okM;unfold X4w at h;revert h;refine bI λXiu h12=>rnI [] ?_;intro h;refine X4.joinOpF (λ(q:Nb Xiu)=>⟨fr [(1,(aI .i64 a1)),(10,(slE q.1 0 (Xiu.map X0)))],hp ([]++opE q.1 0 5 (Xiu.map X0)),1⟩) ?_ (λJ=>?_)
 ·
  rintro Xst;rcases Xst with ⟨_|_,Xtf⟩
  ·
   revert h;refine bI λo113 h114=>rnI [.el (aI .i64 (Xiu.length:Int))] ?_;intro h;refine wkT [] (X4.cut (X8b a1 (Xiu.length:Int) _ _ _ nbF _ h114 ?_));intro X01 X1s eo113;subst eo113;refine X4.glue ?_;try dsimp only at h
   rcases X1s with ⟨_|_,X5w⟩<;>(try obtain rfl:=X5w rfl);all_goals
    revert h;exact λe=>oj e▸Xd [] (k:=fi)
  obtain rfl:=Xtf rfl;revert h;refine bI λo187 h188=>rnI [.el (aI .i64 (List.length ([]:List X1):Int))] ?_;intro h;refine wkT [] (X4.cut (X8b a1 (List.length ([]:List X1):Int) _ _ _ nbS _ h188 ?_));intro X01 X1s eo187;subst eo187;refine X4.glue ?_;try dsimp only at h
  rcases X1s with ⟨_|_,X5w⟩<;>(try obtain rfl:=X5w rfl);all_goals
   revert h;exact λe=>oj e▸Xd [] (k:=fi)
 clear h;revert h12;intro h;refine X4.inline X7 fn62 rfl rfl rfl rfl rfl trivial trivial rfl rfl ?_;revert h;refine brI (λq=>?_) λq=>?_
 ·
  intro h;have h7:a0=[]:=List.isEmpty_iff.1 q;refine X34 [] ?_;refine X4.eqNil X7 (may:=true) rfl rfl rfl rfl rfl rfl trivial (by simp[X6d, *]) λb8 qb8=>?_;cases b8
  ·
   obtain rfl:=oj h;refine X34 [Bf,.ne false] ?_;refine X4.back (by intro id h;cases h) rfl ?_;exact wkT [] ((J nbS))
  obtain rfl:=oj h;refine X34 [Bt] ?_;refine X4.back (by intro id h;cases h) rfl ?_;exact wkT [] ((J nbS))
 intro h;have h7:¬ (a0=[]):=(λe=>by rw[e] at q;cases q);refine X34 [] ?_;refine X4.eqNil X7 (may:=false) rfl rfl rfl rfl rfl rfl trivial (by simp[X6d, *]) λb9 qb9=>?_;obtain rfl:=qb9 rfl;revert h;refine bI λu10 h11=>?_;intro h;obtain rfl:=oj h;refine X34 [Bf,.via (Lt (a0.map X0))] (o:=by repeat' first|apply Ya|exact pcM|(refine X20 h11 rfl ?_;first|(simp<;>omega)|(simp[h7]<;>omega))|(refine X0p h11 (by decide) ?_;first|(simp<;>omega)|(simp[h7]<;>omega))|exact Xu) ?_;refine X4.back (by intro id h;cases h) rfl ?_;exact wkT [(0,1)] ((J nbF))⟩
instance Xso:PCs Tryz.prog 91 (∀ (a0:(List X1)) (a1:Int) (r:(List X1)×Int),X8d a0 a1=some r->X06 Tryz.prog 91 [(Lf (a0.map X0)),(aI .i64 a1)] (AV.tup [(Lt (r.1.map X0)),(aI .i64 r.2)])):=⟨λa0 a1 r h=>by
 refine X06.sym X7 fn91 (nt:=30) rfl rfl ?_ okM;unfold X8d at h;revert h;refine bI λv1 h2=>brI (λh3=>λe=>oj e▸Xd [.pure _ (AV.tup [(aI .i64 v1.1),(aI .i64 v1.2)]),Bt] (k:=fi)) λh3=>bI λm4 h5=>?_;obtain⟨qah5,qbh5,qch5,qh5⟩:=X33 h5;have qlh5:=X5o h5;exact bI λv6 h7=>λe=>oj e▸Xd [.pure _ (AV.tup [(aI .i64 v1.1),(aI .i64 v1.2)]),Bf,.wrap,.wrap,.wrap,.via (Lf (m4.map X0)),.wrap,.pure _ (Lt (v6.map X0))] (o:=by repeat' first|apply Ya|exact pcM|(simp at qah5 qbh5 qch5 ⊢;omega)|(rw[qh5];simp[Ym,Yd];done)|exact Xu) (k:=fi)⟩
instance Xjn:PCs Tryz.prog 95 (∀ (a0:X1) (r:Bool),X1v a0=some r->X06 Tryz.prog 95 [(X0 a0)] (aB r)):=⟨λa0 r h=>by
 refine X06.sym X7 fn95 (nt:=17) rfl rfl ?_ okM;unfold X1v at h;revert h;refine bI λj3_2 h6=>rnI [.stop 2] ?_;intro h;refine X4.join (s':=⟨fr [(2,(aB j3_2))],hp ([]),0⟩) ?_ (λJ=>X4.cut ?_)
 ·
  revert h;exact λe=>oj e▸Xd [] (k:=fi)
 clear h;revert h6;refine brI (λh4=>?_) λh4=>?_
 ·
  intro h;obtain rfl:=oj h;exact Xd [Gf,Gf,Gf,Gf,Gf,Gf] (o:=by repeat' first|apply Ya|exact pcM|exact fq (X6 h4 rfl)|exact Xu) (k:=wkT [] (X4.glue J))
 refine brI (λh5=>?_) λh5=>?_
 ·
  intro h;obtain rfl:=oj h;exact Xd [Gt,Gt,Gt,Gf,Gf,Gf] (o:=by repeat' first|apply Ya|exact pcM|exact fq (X9 h4 h5)|exact Xu) (k:=wkT [] (X4.glue J))
 intro h;obtain rfl:=oj h;exact Xd [Gt,Gt,Gt,Gt,Gt,Gt] (o:=by repeat' first|apply Ya|exact pcM|exact fq (X9 h4 h5)|exact Xu) (k:=wkT [] (X4.glue J))⟩
theorem X5i {Q:Xi->St->Mu->Prop} {μ:Mu} (X0l:(List X1)) (hl:X0l.length<=140737488355328):∀ (xs:List X1) (k:Nat) (hx:X0l.drop k=xs) (o:X0y) (h:Xz X0l xs k  = some o)
  (C0:o=X0y.x0->X4 Tryz.prog 19 0 Q (.exit (.exit 0)) [] ⟨fr [],hp ([]),0⟩ μ)
  (C1:∀ (X85:Int),o=X0y.x1 X85->X4 Tryz.prog 19 0 Q (.exit .ret) [] ⟨fr [(4,(aI .i64 X85))],hp ([]),0⟩ μ),
  X4 Tryz.prog 19 0 Q (.loop (X7j 0 (X3 Tryz.f125))) [] ⟨fr [(0,(Lf (X0l.map X0))),(1,(AV.fn 95 [])),(7,(aI .i64 (X0l.length:Int))),(8,(aI .i64 (k:Int)))],hp ([]),0⟩ μ:=by
 intro xs
 induction xs with
 |nil =>
  intro k hx  o h C0 C1;have hk:=drop_nil hx;have hc:decide ((k:Int)<(X0l.length:Int))=false:=Yf om;rw[Xz] at h;refine X4.round ?_;revert h;exact λe=>Xd [Bf] (k:=wkT [] (C0  (oj e).symm))
 |cons x xs ih =>
  intro k hx  o h C0 C1;obtain⟨hk,hg,hx1⟩:=drop_cons hx;have hc:decide ((k:Int)<(X0l.length:Int))=true:=Yt om;rw[Xz] at h;refine X4.round ?_;revert h;refine bI λv10 h11=>brI (λh12=>λe=>Xd [Bt,.el (X0 x),.pure _ (aB v10),Bt] (k:=wkT [] (C1 _  (oj e).symm))) λh12=>rnI [Bt,.el (X0 x),.pure _ (aB v10),Bf] ?_;intro h;exact wkT [] (ih (k+1) hx1  o h C0 C1)
theorem X2w (a0:(List X1)) (r:Int) (h:X08 a0=some r):X06 Tryz.prog 125 [(Lf (a0.map X0)),(AV.fn 95 [])] (aI .i64 r):=by
 refine X06.sym X7 X056 (nt:=19) rfl rfl ?_ okM;unfold X08 at h;revert h;refine bI λu1 h2=>?_;have qh2:=X1x h2;refine bI λo13 h14=>rnI [.el (aI .i64 (a0.length:Int))] ?_;intro h;refine wkT [] (X4.cut (X5i a0 qh2 a0 0 (by simp) _ h14 ?_ ?_))
 ·
  intro eo13;subst eo13;refine X4.glue ?_;try dsimp only at h
  revert h;exact λe=>oj e▸Xd [] (k:=fi)
 intro X85 eo13;subst eo13;refine X4.glue ?_;try dsimp only at h
 revert h;exact λe=>oj e▸Xd [] (k:=fi)
theorem X2l (a0:(List X1)) (r:Bool) (h:X04 a0=some r):X06 Tryz.prog 96 [(Lf (a0.map X0)),(AV.fn 95 [])] (aB r):=by
 refine X06.sym X7 fn96 (nt:=9) rfl rfl ?_ okM;unfold X04 at h;revert h;exact bI λv1 h2=>λe=>oj e▸Xd [.pure [(Lf (a0.map X0)),(AV.fn 95 [])] (aI .i64 v1)] (o:=by repeat' first|apply Ya|exact pcM|exact(pn (X2w _ _ h2) (cc (X48 (X18 X11 a0)) (cc .fn0 cn)))|exact Xu) (k:=fi)
instance Xm6:PCs Tryz.prog 66 (∀ (a0:(List X1)) (r:Bool×Int),X49 a0=some r->X06 Tryz.prog 66 [(Lf (a0.map X0))] (AV.tup [(aB r.1),(aI .i64 r.2)])):=⟨λa0 r h=>by
 refine X06.sym X7 fn66 (nt:=15) rfl rfl ?_ okM;unfold X49 at h;revert h;refine bI λv1 h2=>brI (λh3=>λe=>oj e▸Xd [.pure _ (aI .i64 v1),Bt] (k:=fi)) λh3=>?_;exact bI λv4 h5=>λe=>oj e▸Xd [.pure _ (aI .i64 v1),Bf,.pure [(Lf (a0.map X0)),(AV.fn 95 [])] (aB v4)] (o:=by repeat' first|apply Ya|exact pcM|exact(pn (X2l _ _ h5) (cc (X48 (X18 X11 a0)) (cc .fn0 cn)))|exact Xu) (k:=fi)⟩
instance Xrr:PCs Tryz.prog 126 (∀ (a0:(List X1)) (r:Int),X7e a0=some r->X06 Tryz.prog 126 [(Lf (a0.map X0))] (aI .i64 r)):=⟨λa0 r h=>by
 refine X06.sym X7 X055 (nt:=13) rfl rfl ?_ okM;unfold X7e at h;revert h;exact bI λv1 h2=>λe=>oj e▸Xd [.pure _ (AV.tup [(aB v1.1),(aI .i64 v1.2.1),(aI .i64 v1.2.2)])] (k:=fi)⟩
instance Xt7:PCs Tryz.prog 152 (∀ (a0:Bool) (r:Int),X2q a0=some r->X06 Tryz.prog 152 [(aB a0)] (aI .i64 r)):=⟨λa0 r h=>by
 refine X06.sym X7 X052 (nt:=4) rfl rfl ?_ okM;unfold X2q at h;revert h;exact brI (λh1=>λe=>oj e▸Xd [Bt] (k:=fi)) λh1=>λe=>oj e▸Xd [Bf] (k:=fi)⟩
instance Xgs:PCs Tryz.prog 127 (∀ (a0:Int) (a1:Int) (a2:Int) (r:Int×Int),X6h a0 a1 a2=some r->X06 Tryz.prog 127 [(aI .u8 a0),(aI .i64 a1),(aI .i64 a2)] (AV.tup [(aI .i64 r.1),(aI .i64 r.2)])):=⟨λa0 a1 a2 r h=>by
 refine X06.sym X7 X054 (nt:=97) rfl rfl ?_ okM;unfold X6h at h;revert h;refine brI (λh1=>λe=>oj e▸Xd [Bt,.wrap] (k:=fi)) λh1=>brI (λh2=>bI λv3 h4=>λe=>oj e▸Xd [Bf,Bt,.pure _ (aI .i64 v3)] (k:=fi)) λh2=>brI (λh5=>λe=>oj e▸Xd [Bf,Bf,Bt,.wrap] (k:=fi)) λh5=>brI (λh6=>λe=>oj e▸Xd [Bf,Bf,Bf,Bt,.wrap] (k:=fi)) λh6=>brI (λh7=>λe=>oj e▸Xd [Bf,Bf,Bf,Bf,Bt,.wrap] (k:=fi)) λh7=>brI (λh8=>bI λu9 h10=>λe=>oj e▸Xd [Bf,Bf,Bf,Bf,Bf,Bt,.wrap] (k:=fi)) λh8=>brI (λh11=>bI λu12 h13=>λe=>oj e▸Xd [Bf,Bf,Bf,Bf,Bf,Bf,Bt] (k:=fi)) λh11=>brI (λh14=>bI λv15 h16=>λe=>oj e▸Xd [Bf,Bf,Bf,Bf,Bf,Bf,Bf,Bt,.pure _ (aI .i64 v15)] (k:=fi)) λh14=>brI (λh17=>bI λv18 h19=>λe=>oj e▸Xd [Bf,Bf,Bf,Bf,Bf,Bf,Bf,Bf,Bt,.pure _ (aI .i64 v18)] (k:=fi)) λh17=>brI (λh20=>bI λv21 h22=>λe=>oj e▸Xd [Bf,Bf,Bf,Bf,Bf,Bf,Bf,Bf,Bf,Bt,.pure _ (aI .i64 v21)] (k:=fi)) λh20=>brI (λh23=>bI λv24 h25=>λe=>oj e▸Xd [Bf,Bf,Bf,Bf,Bf,Bf,Bf,Bf,Bf,Bf,Bt,.pure _ (aI .i64 v24)] (k:=fi)) λh23=>brI (λh26=>bI λv27 h28=>λe=>oj e▸Xd [Bf,Bf,Bf,Bf,Bf,Bf,Bf,Bf,Bf,Bf,Bf,Bt,.pure _ (aI .i64 v27)] (k:=fi)) λh26=>brI (λh29=>bI λv30 h31=>λe=>oj e▸Xd [Bf,Bf,Bf,Bf,Bf,Bf,Bf,Bf,Bf,Bf,Bf,Bf,Bt,.pure _ (aI .i64 v30)] (k:=fi)) λh29=>brI (λh32=>bI λv33 h34=>λe=>oj e▸Xd [Bf,Bf,Bf,Bf,Bf,Bf,Bf,Bf,Bf,Bf,Bf,Bf,Bf,Bt,.pure _ (aI .i64 v33)] (k:=fi)) λh32=>rnI [Bf,Bf,Bf,Bf,Bf,Bf,Bf,Bf,Bf,Bf,Bf,Bf,Bf,Bf] ?_;exact brI (λh35=>bI λv36 h37=>λe=>oj e▸Xd [Bt,.pure _ (aI .i64 v36)] (k:=fi)) λh35=>λe=>oj e▸Xd [Bf] (k:=fi)⟩
theorem Xfh {Q:Xi->St->Mu->Prop} {μ:Mu} (Xr:(V5 Int)) (Xc5:(List X1)) (hl:Xc5.length<=140737488355328):∀ (xs:List X1) (k:Nat) (hx:Xc5.drop k=xs) (Xg:(List Int)) (o:X62) (h:X1g Xr Xc5 xs k Xg=some o)
  (C0:∀ (X01:(List Int)),o=X62.x0 X01->X4 Tryz.prog 80 0 Q (.exit (.exit 0)) [] ⟨fr [(8,(AV.ref 0 0 (X01.length)))],hp ([(0,Ob (List.map (aI .i64) X01) 1)]),1⟩ μ)
  (C1:∀ (X05:(List Int)) (Xge:Int) (X07:Nb X05),o=X62.x1 X05 Xge->X4 Tryz.prog 80 0 Q (.exit .ret) [] ⟨fr [(4,(slE X07.1 0 (List.map (aI .i64) X05))),(5,(aI .i64 Xge))],hp ([]++opE X07.1 0 1 (List.map (aI .i64) X05)),1⟩ μ),
  X4 Tryz.prog 80 0 Q (.loop (X7j 0 (X3 Tryz.f97))) [] ⟨fr [(7,(AV.ptr 0 0 0)),(8,(AV.ref 1 0 (Xg.length))),(28,(Lf (Xc5.map X0))),(29,(aI .i64 (Xc5.length:Int))),(30,(aI .i64 (k:Int)))],hp ([(0,Ob [(Xag Xr)] 5),(1,Ob (List.map (aI .i64) Xg) 1)]),2⟩ μ:=by
 intro xs
 induction xs with
 |nil =>
  intro k hx Xg o h C0 C1;have hk:=drop_nil hx;have hc:decide ((k:Int)<(Xc5.length:Int))=false:=Yf om;rw[X1g] at h;refine X4.round ?_;revert h;exact λe=>Xd [Bf] (k:=wkT [(0,1)] (C0 _  (oj e).symm))
 |cons x xs ih =>
  intro k hx Xg o h C0 C1;obtain⟨hk,hg,hx1⟩:=drop_cons hx;have hc:decide ((k:Int)<(Xc5.length:Int))=true:=Yt om;rw[X1g] at h;refine X4.round ?_;revert h;refine brI (λh87=>?_) λh87=>?_
  ·
   refine bI λe88 h89=>?_;try have qh89:=Xm h89
   refine rnI [Bt,.el (X0 x),Bt,.el (aI .i64 e88),.ld (aI .i64 e88)] (o:=by repeat' first|apply Ya|exact pcM|exact(List.getElem?_set_self (by have hq:=X61 h89;simp;omega)).trans rfl|exact Xu) ?_;intro h;exact wkT [] (ih (k+1) hx1 _ o h C0 C1)
  refine brI (λh90=>?_) λh90=>?_
  ·
   refine bI λXho h116=>rnI [Bt,.el (X0 x),Bf,Bt,.stop 16] ?_;intro h;refine X4.join (s':=⟨fr [(7,(AV.ptr 0 0 0)),(8,(AV.ref 1 0 (Xho.length))),(28,(Lf (Xc5.map X0))),(29,(aI .i64 (Xc5.length:Int))),(30,(aI .i64 (k:Int)))],hp ([(0,Ob [(Xag Xr)] 5),(1,Ob (List.map (aI .i64) Xho) 1)]),2⟩) ?_ (λJ=>X4.cut ?_)
   ·
    exact Xd [] (k:=wkT [] (ih (k+1) hx1 _ o h C0 C1))
   clear h;revert h116;refine brI (λh104=>?_) λh104=>?_
   ·
    refine bI λe105 h106=>?_;try have qh106:=Xm h106
    intro h;obtain rfl:=oj h;exact Xd [.ix 0,.el (aI .i64 e105),.ld (aI .i64 e105)] (o:=by repeat' first|apply Ya|exact pcM|exact((eq_of_beq h104))|exact(List.getElem?_set_self (by have hq:=X61 h106;simp;omega)).trans rfl|exact Xu) (k:=wkT [] (X4.glue J))
   refine brI (λh107=>?_) λh107=>?_
   ·
    refine bI λe108 h109=>?_;try have qh109:=Xm h109
    intro h;obtain rfl:=oj h;exact Xd [.ix 2,.el (aI .i64 e108),.ld (aI .i64 e108)] (o:=by repeat' first|apply Ya|exact pcM|exact((eq_of_beq h107))|exact(List.getElem?_set_self (by have hq:=X61 h109;simp;omega)).trans rfl|exact Xu) (k:=wkT [] (X4.glue J))
   refine brI (λh110=>?_) λh110=>?_
   ·
    refine bI λe111 h112=>?_;try have qh112:=Xm h112
    intro h;obtain rfl:=oj h;exact Xd [.ix 3,.el (aI .i64 e111),.ld (aI .i64 e111)] (o:=by repeat' first|apply Ya|exact pcM|exact((eq_of_beq h110))|exact(List.getElem?_set_self (by have hq:=X61 h112;simp;omega)).trans rfl|exact Xu) (k:=wkT [] (X4.glue J))
   refine brI (λh113=>?_) λh113=>?_
   ·
    refine bI λe114 h115=>?_;try have qh115:=Xm h115
    intro h;obtain rfl:=oj h;exact Xd [.ix 4,.el (aI .i64 e114),.ld (aI .i64 e114)] (o:=by repeat' first|apply Ya|exact pcM|exact((eq_of_beq h113))|exact(List.getElem?_set_self (by have hq:=X61 h115;simp;omega)).trans rfl|exact Xu) (k:=wkT [] (X4.glue J))
   intro h;cases h
  refine bI λe117 h118=>?_;try have qh118:=Xm h118
  refine bI λe119 h120=>?_;try have qh120:=Xm h120
  refine bI λv121 h122=>rnI [Bt,.el (X0 x),Bf,Bf,.el (aI .i64 e117),.ld (aI .i64 e117),.el (aI .i64 e119),.ld (aI .i64 e119),.pure _ (AV.tup [(aI .i64 v121.1),(aI .i64 v121.2)])] ?_;refine brI (λh123=>λe=>Xd [Bt] (k:=wkT [] (C1 _ _  nbS (oj e).symm))) λh123=>bI λe124 h125=>?_;try have qh125:=Xm h125
  refine rnI [Bf,.el (aI .i64 e124),.ld (aI .i64 e124)] (o:=by repeat' first|apply Ya|exact pcM|exact(List.getElem?_set_self (by have hq:=X61 h125;simp;omega)).trans rfl|exact Xu) ?_;intro h;exact wkT [] (ih (k+1) hx1 _ o h C0 C1)
instance Xve:PCs Tryz.prog 97 (∀ (a0:(List X1)) (a1:X1w) (r:(List Int)×Int),Xa2 a0 a1=some r->X06 Tryz.prog 97 [(Lf (a0.map X0)),(X7f a1)] (AV.tup [(Lt (List.map (aI .i64) r.1)),(aI .i64 r.2)])):=⟨λa0 a1 r h=>by
 refine X06.sym X7 fn97 (nt:=80) rfl rfl ?_ okM;unfold Xa2 at h;revert h;refine bI λv1 h2=>brI (λh3=>λe=>oj e▸Xd [.pure _ (aI .i64 v1),Bt] (k:=fi)) λh3=>bI λu4 h5=>?_;have qh5:=Xoo h5;refine bI λu6 h7=>?_;have qh7:=X1x h7;refine bI λo126 h127=>rnI [.pure _ (aI .i64 v1),Bf,.el (aI .i64 (a0.length:Int)),.el (aI .i64 (a0.length:Int))] (o:=by repeat' first|apply Ya|exact pcM|exact(Int.le_trans qh5.2.2 (by decide))|exact om|exact Xu) ?_;intro h;refine wkT [(0,1),(1,2)] (X4.cut (Xfh (V5.mk 0 0 a1.Key a1.Time a1.Value) a0 qh7 a0 0 (by simp) _ _ h127 ?_ ?_))
 ·
  intro X01 eo126;subst eo126;refine X4.glue ?_;try dsimp only at h
  revert h;exact λe=>oj e▸Xd [] (k:=fi)
 intro X05 Xge X07 eo126;subst eo126;refine X4.glue ?_;try dsimp only at h
 rcases X07 with ⟨_|_,X35⟩<;>(try obtain rfl:=X35 rfl);all_goals
  revert h;exact λe=>oj e▸Xd [] (k:=fi)⟩
instance Xkf:PCs Tryz.prog 67 (∀ (a0:(List X1)) (a1:X1w) (r:Int×Int),X6r a0 a1=some r->X06 Tryz.prog 67 [(Lf (a0.map X0)),(X7f a1)] (AV.tup [(aI .i64 r.1),(aI .i64 r.2)])):=⟨λa0 a1 r h=>by
 refine X06.sym X7 fn67 (nt:=23) rfl rfl ?_ okM;unfold X6r at h;revert h;refine bI λv1 h2=>brI (λh3=>λe=>oj e▸Xd [.pure _ (AV.tup [(Lt (List.map (aI .i64) v1.1)),(aI .i64 v1.2)]),Bt] (k:=fi)) λh3=>bI λe4 h5=>?_;try have qh5:=Xm h5
 exact λe=>oj e▸Xd [.pure _ (AV.tup [(Lt (List.map (aI .i64) v1.1)),(aI .i64 v1.2)]),Bf,.el (aI .i64 (v1.1.length:Int)),.wrap,.el (aI .i64 e4)] (k:=fi)⟩
instance Xro:PCs Tryz.prog 37 (∀ (a0:(List X1)) (r:Int×Bool×Int),X5y a0=some r->X06 Tryz.prog 37 [(Lf (a0.map X0))] (AV.tup [(aI .i64 r.1),(aB r.2.1),(aI .i64 r.2.2)])):=⟨λa0 r h=>by
 refine X06.sym X7 fn37 (nt:=41) rfl rfl ?_ okM;unfold X5y at h;revert h;exact bI λv1 h2=>brI (λh3=>λe=>oj e▸Xd [.pure _ (AV.tup [(aB v1.1),(aI .i64 v1.2.1),(aI .i64 v1.2.2)]),Bt] (k:=fi)) λh3=>bI λv4 h5=>brI (λh6=>λe=>oj e▸Xd [.pure _ (AV.tup [(aB v1.1),(aI .i64 v1.2.1),(aI .i64 v1.2.2)]),Bf,.pure _ (AV.tup [(aB v4.1),(aI .i64 v4.2)]),Bt] (k:=fi)) λh6=>bI λv7 h8=>λe=>oj e▸Xd [.pure _ (AV.tup [(aB v1.1),(aI .i64 v1.2.1),(aI .i64 v1.2.2)]),Bf,.pure _ (AV.tup [(aB v4.1),(aI .i64 v4.2)]),Bf,.pure _ (AV.tup [(aI .i64 v7.1),(aI .i64 v7.2)])] (k:=fi)⟩
theorem X37 (a0:Int) (a1:Int) (r:(List X1)) (h:X43 a0 a1=some r):X06 Tryz.prog 122 [(aI .i64 a0),(AV.elem false ((aI .i64) a1) 0)] (Lt (r.map X0)):=by
 refine X06.sym X7 X023 (nt:=8) rfl rfl ?_ okM;unfold X43 at h;revert h;exact λe=>oj e▸Xd [] (k:=fi)
end Go.Av.Tryz