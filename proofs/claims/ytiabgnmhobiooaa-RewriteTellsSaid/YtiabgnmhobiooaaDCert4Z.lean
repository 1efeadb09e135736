/- Printed by decomp.py: that the program computes the functions. -/
import Derived.Test.YtiabgnmhobiooaaDCert3Z
set_option linter.all false

namespace Go.Av.Try
open Go.Proofs Go.D
set_option maxRecDepth 10000
set_option maxHeartbeats 40000000
instance Xnh:PCs Try.prog 11 (∀ (a0:X2) (r:Int×Int),X3r a0=some r->X0f Try.prog 11 [(X7 false a0)] (AV.tup [(aI .i64 r.1),(aI .i64 r.2)])):=⟨λa0 r h=>by
 refine X0f.sym X8 Xyq (nt:=20) rfl rfl ?_ okM;unfold X3r at h;revert h;refine bI λv1 h2=>brI (λh3=>λe=>oj e▸Xa [.pure _ (aI .i64 v1),Bt] (k:=fi)) λh3=>bI λw22 h41=>?_;intro h;obtain⟨Xpw,Xpv⟩:=w22;try dsimp only at h
 refine X29 [.pure _ (aI .i64 v1),Bf] ?_;refine X4.joinOp (s':=⟨fr [(17,(AV.tup [(aI .i64 Xpw),(aI .i64 Xpv)]))],hp ([]),0⟩) ?_ (λJ=>?_)
 ·
  revert h;exact λe=>oj e▸Xa [] (k:=fi)
 clear h;revert h41;intro h;refine X4.inline X8 Xyi rfl rfl rfl rfl rfl trivial trivial rfl rfl ?_;refine X29 [] ?_;refine X4.round ?_;revert h;refine brI (λh23=>?_) λh23=>?_
 ·
  refine rnI [Bt,.el (AV.agg [(Lf (a0.Arg.map X0)),(AV.fn 20 [])]),.el (aI .i64 (a0.Arg.length:Int)),Bt] ?_;intro h;refine X4.round ?_;revert h;refine brI (λh24=>?_) λh24=>?_
  ·
   refine rnI [Bt,.el (AV.agg [(Lf (a0.Where.map X0)),(AV.fn 21 [])]),.el (aI .i64 (a0.Where.length:Int)),Bt] ?_;intro h;refine X4.round ?_;simp only[Option.some.injEq,Prod.mk.injEq] at h;obtain⟨rfl,rfl⟩:=h;refine X29 [Bf] ?_;refine X4.back (by intro id h;cases h) rfl ?_;exact wkT [] (J)
  refine bI λv25 h26=>rnI [Bt,.el (AV.agg [(Lf (a0.Where.map X0)),(AV.fn 21 [])]),.el (aI .i64 (a0.Where.length:Int)),Bf,.pure _ (AV.tup [(aI .i64 v25.1),(aI .i64 v25.2)])] ?_;refine brI (λh27=>?_) λh27=>?_
  ·
   refine bI λe28 h29=>?_;try have qh29:=Xf h29
   intro h;simp only[Option.some.injEq,Prod.mk.injEq] at h;obtain⟨rfl,rfl⟩:=h;refine X29 [Bt,.el (X0 e28)] ?_;refine X4.back (by intro id h;cases h) rfl ?_;exact wkT [] (J)
  refine rnI [Bf] ?_;intro h;refine X4.round ?_;simp only[Option.some.injEq,Prod.mk.injEq] at h;obtain⟨rfl,rfl⟩:=h;refine X29 [Bf] ?_;refine X4.back (by intro id h;cases h) rfl ?_;exact wkT [] (J)
 refine bI λv30 h31=>rnI [Bt,.el (AV.agg [(Lf (a0.Arg.map X0)),(AV.fn 20 [])]),.el (aI .i64 (a0.Arg.length:Int)),Bf,.pure _ (AV.tup [(aI .i64 v30.1),(aI .i64 v30.2)])] ?_;refine brI (λh32=>?_) λh32=>?_
 ·
  refine bI λe33 h34=>?_;try have qh34:=Xf h34
  intro h;simp only[Option.some.injEq,Prod.mk.injEq] at h;obtain⟨rfl,rfl⟩:=h;refine X29 [Bt,.el (X0 e33)] ?_;refine X4.back (by intro id h;cases h) rfl ?_;exact wkT [] (J)
 refine rnI [Bf] ?_;intro h;refine X4.round ?_;revert h;refine brI (λh35=>?_) λh35=>?_
 ·
  refine rnI [Bt,.el (AV.agg [(Lf (a0.Where.map X0)),(AV.fn 21 [])]),.el (aI .i64 (a0.Where.length:Int)),Bt] ?_;intro h;refine X4.round ?_;simp only[Option.some.injEq,Prod.mk.injEq] at h;obtain⟨rfl,rfl⟩:=h;refine X29 [Bf] ?_;refine X4.back (by intro id h;cases h) rfl ?_;exact wkT [] (J)
 refine bI λv36 h37=>rnI [Bt,.el (AV.agg [(Lf (a0.Where.map X0)),(AV.fn 21 [])]),.el (aI .i64 (a0.Where.length:Int)),Bf,.pure _ (AV.tup [(aI .i64 v36.1),(aI .i64 v36.2)])] ?_;refine brI (λh38=>?_) λh38=>?_
 ·
  refine bI λe39 h40=>?_;try have qh40:=Xf h40
  intro h;simp only[Option.some.injEq,Prod.mk.injEq] at h;obtain⟨rfl,rfl⟩:=h;refine X29 [Bt,.el (X0 e39)] ?_;refine X4.back (by intro id h;cases h) rfl ?_;exact wkT [] (J)
 refine rnI [Bf] ?_;intro h;refine X4.round ?_;simp only[Option.some.injEq,Prod.mk.injEq] at h;obtain⟨rfl,rfl⟩:=h;refine X29 [Bf] ?_;refine X4.back (by intro id h;cases h) rfl ?_;exact wkT [] (J)⟩
instance Xe5:PCs Try.prog 35 (∀ (a0:(List X1)) (r:(List X1)),X13 a0=some r->X0f Try.prog 35 [(Lf (a0.map X0))] (Lt (r.map X0))):=⟨λa0 r h=>by
 refine X0f.sym X8 Xvp (nt:=8) rfl rfl ?_ okM;unfold X13 at h;revert h;refine brI (λq=>?_) λq=>?_
 ·
  intro h;have h1:a0=[]:=List.isEmpty_iff.1 q;refine X29 [] ?_;refine X4.eqNil X8 (may:=true) rfl rfl rfl rfl rfl rfl trivial (by simp[X7a, *]) λb2 qb2=>?_;cases b2
  ·
   revert h;exact λe=>oj e▸Xa [Bf,.ne false] (k:=fi)
  revert h;exact λe=>oj e▸Xa [Bt] (k:=fi)
 intro h;have h1:¬ (a0=[]):=(λe=>by rw[e] at q;cases q);refine X29 [] ?_;refine X4.eqNil X8 (may:=false) rfl rfl rfl rfl rfl rfl trivial (by simp[X7a, *]) λb3 qb3=>?_;obtain rfl:=qb3 rfl;revert h;exact bI λu4 h5=>λe=>oj e▸Xa [Bf,.via (Lt (a0.map X0))] (o:=by repeat' first|apply Ya|exact pcM|(refine X0s h5 rfl ?_;first|(simp<;>omega)|(simp[h1]<;>omega))|(refine Xw h5 (by decide) ?_;first|(simp<;>omega)|(simp[h1]<;>omega))|exact Xy) (k:=fi)⟩
instance Xfc:PCs Try.prog 36 (∀ (a0:(List Int)) (r:(List Int)),X20 a0=some r->X0f Try.prog 36 [(Lf (List.map (aI .i64) a0))] (Lt (List.map (aI .i64) r))):=⟨λa0 r h=>by
 refine X0f.sym X8 Xw6 (nt:=8) rfl rfl ?_ okM;unfold X20 at h;revert h;refine brI (λq=>?_) λq=>?_
 ·
  intro h;have h1:a0=[]:=List.isEmpty_iff.1 q;refine X29 [] ?_;refine X4.eqNil X8 (may:=true) rfl rfl rfl rfl rfl rfl trivial (by simp[X7a, *]) λb2 qb2=>?_;cases b2
  ·
   revert h;exact λe=>oj e▸Xa [Bf,.ne false] (k:=fi)
  revert h;exact λe=>oj e▸Xa [Bt] (k:=fi)
 intro h;have h1:¬ (a0=[]):=(λe=>by rw[e] at q;cases q);refine X29 [] ?_;refine X4.eqNil X8 (may:=false) rfl rfl rfl rfl rfl rfl trivial (by simp[X7a, *]) λb3 qb3=>?_;obtain rfl:=qb3 rfl;revert h;exact bI λu4 h5=>λe=>oj e▸Xa [Bf,.via (Lt (List.map (aI .i64) a0))] (o:=by repeat' first|apply Ya|exact pcM|(refine X0s h5 rfl ?_;first|(simp<;>omega)|(simp[h1]<;>omega))|(refine Xw h5 (by decide) ?_;first|(simp<;>omega)|(simp[h1]<;>omega))|exact Xy) (k:=fi)⟩
instance Xld:PCs Try.prog 22 (∀ (a0:X2) (r:X2),X5u a0=some r->X0f Try.prog 22 [(X7 false a0)] (X7 true r)):=⟨λa0 r h=>by
 refine X0f.sym X8 Xyf (nt:=16) rfl rfl ?_ okM;unfold X5u at h;revert h;exact bI λv1 h2=>bI λv3 h4=>bI λv5 h6=>λe=>oj e▸Xa [.pure _ (Lt (v1.map X0)),.pure _ (Lt (List.map (aI .i64) v3)),.pure _ (Lt (v5.map X0))] (k:=fi)⟩
instance Xr0:PCs Try.prog 53 (∀ (a0:(List X1)) (r:(List Bool)×Int),X91 a0=some r->X0f Try.prog 53 [(Lf (a0.map X0))] (AV.tup [(Lt (r.1.map aB)),(aI .i64 r.2)])):=⟨λa0 r h=>by
 refine X0f.sym X8 Xxm (nt:=24) rfl rfl ?_ okM;unfold X91 at h;revert h;exact bI λv1 h2=>brI (λh3=>λe=>oj e▸Xa [.pure _ (AV.tup [(aB v1.1),(aI .i64 v1.2.1),(aI .i64 v1.2.2)]),Bt] (k:=fi)) λh3=>bI λv4 h5=>λe=>oj e▸Xa [.pure _ (AV.tup [(aB v1.1),(aI .i64 v1.2.1),(aI .i64 v1.2.2)]),Bf,.pure _ (AV.tup [(Lt (v4.1.map aB)),(aI .i64 v4.2)])] (k:=fi)⟩
instance Xph:PCs Try.prog 73 (∀ (a0:(List X1)) (a1:Int) (r:Int×Int),X7x a0 a1=some r->X0f Try.prog 73 [(Lf (a0.map X0)),(aI .i64 a1)] (AV.tup [(aI .i64 r.1),(aI .i64 r.2)])):=⟨λa0 a1 r h=>by
 refine X0f.sym X8 Xx3 (nt:=29) rfl rfl ?_ okM;unfold X7x at h;revert h;refine bI λv1 h2=>brI (λh3=>λe=>oj e▸Xa [.pure _ (AV.tup [(Lt (v1.1.map X5)),(aI .i64 v1.2)]),Bt] (k:=fi)) λh3=>bI λXse h7=>rnI [.pure _ (AV.tup [(Lt (v1.1.map X5)),(aI .i64 v1.2)]),Bf,.stop 4] ?_;intro h;refine X4.join (s':=⟨fr [(1,(aI .i64 a1)),(6,(Lt (v1.1.map X5))),(23,(aB Xse))],hp ([]),0⟩) ?_ (λJ=>X4.cut ?_)
 ·
  revert h;refine brI (λh8=>λe=>oj e▸Xa [Bt] (k:=fi)) λh8=>bI λe9 h10=>?_;try have qh10:=Xf h10
  exact λe=>oj e▸Xa [Bf,.el (X5 e9)] (k:=fi)
 clear h;revert h7;refine brI (λh6=>?_) λh6=>?_
 ·
  intro h;obtain rfl:=oj h;exact Xa [Gf,Gf,Gf,Gf] (k:=wkT [] (X4.glue J))
 intro h;obtain rfl:=oj h;exact Xa [Gt,Gt,Gt,.el (aI .i64 (v1.1.length:Int)),Gt] (k:=wkT [] (X4.glue J))⟩
theorem X7w {Q:Xr->St->Mu->Prop} {μ:Mu} (X5r:Int) (Xga:Int):∀ (n:Nat) (Xi:(List X1)) (Xa0:Int) (X0n:Nb Xi) (o:X66) (h:X26 X5r Xga n Xi Xa0=some o)
  (C0:∀ (Xm:(List X1)) (X0d:Nb Xm),o=X66.x0 Xm->X4 Try.prog 49 0 Q (.exit (.exit 0)) [] ⟨fr [(5,(slE X0d.1 0 (Xm.map X0)))],hp ([]++opE X0d.1 0 5 (Xm.map X0)),1⟩ μ),
  X4 Try.prog 49 0 Q (.loop (X5l 0 (Xe Try.f74))) [] ⟨fr [(1,(aI .i64 X5r)),(5,(slE X0n.1 0 (Xi.map X0))),(12,(aI .i64 Xga)),(13,(aI .i64 Xa0))],hp ([]++opE X0n.1 0 5 (Xi.map X0)),1⟩ μ:=by
 intro n
 induction n with
 |zero=>intro Xi Xa0 X0n o h C0;cases h
 |succ n ih =>
  intro Xi Xa0 X0n o h C0;rw[X26] at h;rcases X0n with ⟨_|_,X35⟩
  ·
   refine X4.round ?_;revert h;refine brI (λh85=>?_) λh85=>λe=>Xa [Bf] (k:=wkT [] (C0 _  nbF (oj e).symm));refine bI λe86 h87=>?_;try have qh87:=Xf h87
   refine bI λv88 h89=>bI λXde h93=>rnI [Bt,.el (X0 e86),.ld (X0 e86),.pure _ (AV.tup [(aI .i64 v88.1),(aI .i64 v88.2)])] ?_;intro h;refine X4.joinF (λ(q:Nb Xde)=>⟨fr [(1,(aI .i64 X5r)),(5,(slE q.1 0 (Xde.map X0))),(6,(aI .i64 Xa0)),(7,(aI .i64 v88.1)),(12,(aI .i64 Xga)),(13,(aI .i64 Xa0))],hp ([]++opE q.1 0 5 (Xde.map X0)),1⟩) ?_ (λJ=>X4.cut ?_)
   ·
    rintro Xlu;rcases Xlu with ⟨_|_,Xmr⟩
    ·
     revert h;refine bI λXgq h101=>rnI [] ?_;intro h;refine X4.joinF (λ(q:Nb Xgq)=>⟨fr [(1,(aI .i64 X5r)),(5,(slE q.1 0 (Xgq.map X0))),(12,(aI .i64 Xga)),(13,(aI .i64 Xa0))],hp ([]++opE q.1 0 5 (Xgq.map X0)),1⟩) ?_ (λJ=>X4.cut ?_)
     ·
      rintro Xlt;rcases Xlt with ⟨_|_,Xmq⟩
      ·
       exact Xa [.wrap] (k:=wkT [] (ih  _ _ nbF o h C0))
      obtain rfl:=Xmq rfl;exact Xa [.wrap] (k:=wkT [] (ih  _ _ nbS o h C0))
     clear h;revert h101;refine brI (λh98=>?_) λh98=>?_
     ·
      refine bI λe99 h100=>?_;try have qh100:=Xf h100
      intro h;obtain rfl:=oj h;exact Xa [Bt,.el (X0 e99),.ld (X0 e99),.wrap,.el (X0 e99),.ld (X0 e99)] (o:=by repeat' first|apply Ya|exact pcM|exact(List.getElem?_set_self (by have hq:=X5p h100;simp;omega)).trans rfl|exact Xy) (k:=wkT [] (X4.glue (J nbF)))
     intro h;obtain rfl:=oj h;exact Xa [Bf] (k:=wkT [] (X4.glue (J nbF)))
    obtain rfl:=Xmr rfl;revert h;refine bI λXi2 h109=>rnI [] ?_;intro h;refine X4.joinF (λ(q:Nb Xi2)=>⟨fr [(1,(aI .i64 X5r)),(5,(slE q.1 0 (Xi2.map X0))),(12,(aI .i64 Xga)),(13,(aI .i64 Xa0))],hp ([]++opE q.1 0 5 (Xi2.map X0)),1⟩) ?_ (λJ=>X4.cut ?_)
    ·
     rintro Xk5;rcases Xk5 with ⟨_|_,Xk9⟩
     ·
      exact Xa [.wrap] (k:=wkT [] (ih  _ _ nbF o h C0))
     obtain rfl:=Xk9 rfl;exact Xa [.wrap] (k:=wkT [] (ih  _ _ nbS o h C0))
    clear h;revert h109;refine brI (λh106=>?_) λh106=>?_
    ·
     refine bI λe107 h108=>?_;try have qh108:=Xf h108
     intro h
     first|exact absurd (h108) (by simp[getI];done)|(simp[getI,h85,h106] at h;done)|(simp[h85,h106] at hg;done)|exact absurd (h108) (by simp[getI,h85,h106];done)
    intro h;obtain rfl:=oj h;exact Xa [Bf] (k:=wkT [] (X4.glue (J nbS)))
   clear h;revert h93;refine brI (λh92=>?_) λh92=>?_
   ·
    intro h;obtain rfl:=oj h;exact Xa [Bt,.el (X0 e86),.ld (X0 e86),.wrap,.el (X0 e86),.ld (X0 e86)] (o:=by repeat' first|apply Ya|exact pcM|exact(List.getElem?_set_self (by have hq:=X5p h87;simp;omega)).trans rfl|exact Xy) (k:=wkT [] (X4.glue (J nbF)))
   intro h;obtain rfl:=oj h;exact Xa [Bf] (k:=wkT [] (X4.glue (J nbF)))
  obtain rfl:=X35 rfl;refine X4.round ?_;revert h;refine brI (λh110=>?_) λh110=>λe=>Xa [Bf] (k:=wkT [] (C0 _  nbS (oj e).symm));refine bI λe111 h112=>?_;try have qh112:=Xf h112
  intro h
  first|exact absurd (h112) (by simp[getI];done)|(simp[getI,h110] at h;done)|(simp[h110] at hg;done)|exact absurd (h112) (by simp[getI,h110];done)
instance Xoe:PCs Try.prog 74 (∀ (a0:(List X1)) (a1:Int) (r:(List X1)),X4l a0 a1=some r->X0f Try.prog 74 [(Lf (a0.map X0)),(aI .i64 a1)] (Lt (r.map X0))):=⟨λa0 a1 r h=>by
 refine X0f.sym X8 Xx2 (nt:=49) rfl rfl ?_ okM;unfold X4l at h;revert h;refine bI λXgs h12=>rnI [] ?_;intro h;refine X4.joinOpF (λ(q:Nb Xgs)=>⟨fr [(1,(aI .i64 a1)),(10,(slE q.1 0 (Xgs.map X0)))],hp ([]++opE q.1 0 5 (Xgs.map X0)),1⟩) ?_ (λJ=>?_)
 ·
  rintro Xpn;rcases Xpn with ⟨_|_,Xq5⟩
  ·
   revert h;refine bI λo113 h114=>rnI [.el (aI .i64 (Xgs.length:Int))] ?_;intro h;refine wkT [] (X4.cut (X7w a1 (Xgs.length:Int) _ _ _ nbF _ h114 ?_));intro Xm X0d eo113;subst eo113;refine X4.glue ?_;try dsimp only at h
   rcases X0d with ⟨_|_,X2x⟩<;>(try obtain rfl:=X2x rfl);all_goals
    revert h;exact λe=>oj e▸Xa [] (k:=fi)
  obtain rfl:=Xq5 rfl;revert h;refine bI λo187 h188=>rnI [.el (aI .i64 (List.length ([]:List X1):Int))] ?_;intro h;refine wkT [] (X4.cut (X7w a1 (List.length ([]:List X1):Int) _ _ _ nbS _ h188 ?_));intro Xm X0d eo187;subst eo187;refine X4.glue ?_;try dsimp only at h
  rcases X0d with ⟨_|_,X2x⟩<;>(try obtain rfl:=X2x rfl);all_goals
   revert h;exact λe=>oj e▸Xa [] (k:=fi)
 clear h;revert h12;intro h;refine X4.inline X8 Xvp rfl rfl rfl rfl rfl trivial trivial rfl rfl ?_;revert h;refine brI (λq=>?_) λq=>?_
 ·
  intro h;have h7:a0=[]:=List.isEmpty_iff.1 q;refine X29 [] ?_;refine X4.eqNil X8 (may:=true) rfl rfl rfl rfl rfl rfl trivial (by simp[X7a, *]) λb8 qb8=>?_;cases b8
  ·
   obtain rfl:=oj h;refine X29 [Bf,.ne false] ?_;refine X4.back (by intro id h;cases h) rfl ?_;exact wkT [] ((J nbS))
  obtain rfl:=oj h;refine X29 [Bt] ?_;refine X4.back (by intro id h;cases h) rfl ?_;exact wkT [] ((J nbS))
 intro h;have h7:¬ (a0=[]):=(λe=>by rw[e] at q;cases q);refine X29 [] ?_;refine X4.eqNil X8 (may:=false) rfl rfl rfl rfl rfl rfl trivial (by simp[X7a, *]) λb9 qb9=>?_;obtain rfl:=qb9 rfl;revert h;refine bI λu10 h11=>?_;intro h;obtain rfl:=oj h;refine X29 [Bf,.via (Lt (a0.map X0))] (o:=by repeat' first|apply Ya|exact pcM|(refine X0s h11 rfl ?_;first|(simp<;>omega)|(simp[h7]<;>omega))|(refine Xw h11 (by decide) ?_;first|(simp<;>omega)|(simp[h7]<;>omega))|exact Xy) ?_;refine X4.back (by intro id h;cases h) rfl ?_;exact wkT [(0,1)] ((J nbF))⟩
instance Xpi:PCs Try.prog 56 (∀ (a0:(List X1)) (a1:Int) (r:(List X1)×Int),X7y a0 a1=some r->X0f Try.prog 56 [(Lf (a0.map X0)),(aI .i64 a1)] (AV.tup [(Lt (r.1.map X0)),(aI .i64 r.2)])):=⟨λa0 a1 r h=>by
 refine X0f.sym X8 Xxk (nt:=30) rfl rfl ?_ okM;unfold X7y at h;revert h;refine bI λv1 h2=>brI (λh3=>λe=>oj e▸Xa [.pure _ (AV.tup [(aI .i64 v1.1),(aI .i64 v1.2)]),Bt] (k:=fi)) λh3=>bI λm4 h5=>?_;obtain⟨qah5,qbh5,qch5,qh5⟩:=X2t h5;have qlh5:=X5a h5;exact bI λv6 h7=>λe=>oj e▸Xa [.pure _ (AV.tup [(aI .i64 v1.1),(aI .i64 v1.2)]),Bf,.wrap,.wrap,.wrap,.via (Lf (m4.map X0)),.wrap,.pure _ (Lt (v6.map X0))] (o:=by repeat' first|apply Ya|exact pcM|(simp at qah5 qbh5 qch5 ⊢;omega)|(rw[qh5];simp[Ym,Yd];done)|exact Xy) (k:=fi)⟩
instance Xhh:PCs Try.prog 60 (∀ (a0:X1) (r:Bool),X1q a0=some r->X0f Try.prog 60 [(X0 a0)] (aB r)):=⟨λa0 r h=>by
 refine X0f.sym X8 Xxg (nt:=17) rfl rfl ?_ okM;unfold X1q at h;revert h;refine bI λXvn h6=>rnI [.stop 2] ?_;intro h;refine X4.join (s':=⟨fr [(2,(aB Xvn))],hp ([]),0⟩) ?_ (λJ=>X4.cut ?_)
 ·
  revert h;exact λe=>oj e▸Xa [] (k:=fi)
 clear h;revert h6;refine brI (λh4=>?_) λh4=>?_
 ·
  intro h;obtain rfl:=oj h;exact Xa [Gf,Gf,Gf,Gf,Gf,Gf] (o:=by repeat' first|apply Ya|exact pcM|exact fq (Xl h4 rfl)|exact Xy) (k:=wkT [] (X4.glue J))
 refine brI (λh5=>?_) λh5=>?_
 ·
  intro h;obtain rfl:=oj h;exact Xa [Gt,Gt,Gt,Gf,Gf,Gf] (o:=by repeat' first|apply Ya|exact pcM|exact fq (Xo h4 h5)|exact Xy) (k:=wkT [] (X4.glue J))
 intro h;obtain rfl:=oj h;exact Xa [Gt,Gt,Gt,Gt,Gt,Gt] (o:=by repeat' first|apply Ya|exact pcM|exact fq (Xo h4 h5)|exact Xy) (k:=wkT [] (X4.glue J))⟩
theorem X56 {Q:Xr->St->Mu->Prop} {μ:Mu} (X0a:(List X1)) (hl:X0a.length<=140737488355328):∀ (xs:List X1) (k:Nat) (hx:X0a.drop k=xs) (o:X0w) (h:Xt X0a xs k  = some o)
  (C0:o=X0w.x0->X4 Try.prog 19 0 Q (.exit (.exit 0)) [] ⟨fr [],hp ([]),0⟩ μ)
  (C1:∀ (X7q:Int),o=X0w.x1 X7q->X4 Try.prog 19 0 Q (.exit .ret) [] ⟨fr [(4,(aI .i64 X7q))],hp ([]),0⟩ μ),
  X4 Try.prog 19 0 Q (.loop (X5l 0 (Xe Try.f78))) [] ⟨fr [(0,(Lf (X0a.map X0))),(1,(AV.fn 60 [])),(7,(aI .i64 (X0a.length:Int))),(8,(aI .i64 (k:Int)))],hp ([]),0⟩ μ:=by
 intro xs
 induction xs with
 |nil =>
  intro k hx  o h C0 C1;have hk:=drop_nil hx;have hc:decide ((k:Int)<(X0a.length:Int))=false:=Yf om;rw[Xt] at h;refine X4.round ?_;revert h;exact λe=>Xa [Bf] (k:=wkT [] (C0  (oj e).symm))
 |cons x xs ih =>
  intro k hx  o h C0 C1;obtain⟨hk,hg,hx1⟩:=drop_cons hx;have hc:decide ((k:Int)<(X0a.length:Int))=true:=Yt om;rw[Xt] at h;refine X4.round ?_;revert h;refine bI λv10 h11=>brI (λh12=>λe=>Xa [Bt,.el (X0 x),.pure _ (aB v10),Bt] (k:=wkT [] (C1 _  (oj e).symm))) λh12=>rnI [Bt,.el (X0 x),.pure _ (aB v10),Bf] ?_;intro h;exact wkT [] (ih (k+1) hx1  o h C0 C1)
theorem X2k (a0:(List X1)) (r:Int) (h:X04 a0=some r):X0f Try.prog 78 [(Lf (a0.map X0)),(AV.fn 60 [])] (aI .i64 r):=by
 refine X0f.sym X8 Xx0 (nt:=19) rfl rfl ?_ okM;unfold X04 at h;revert h;refine bI λu1 h2=>?_;have qh2:=X1n h2;refine bI λo13 h14=>rnI [.el (aI .i64 (a0.length:Int))] ?_;intro h;refine wkT [] (X4.cut (X56 a0 qh2 a0 0 (by simp) _ h14 ?_ ?_))
 ·
  intro eo13;subst eo13;refine X4.glue ?_;try dsimp only at h
  revert h;exact λe=>oj e▸Xa [] (k:=fi)
 intro X7q eo13;subst eo13;refine X4.glue ?_;try dsimp only at h
 revert h;exact λe=>oj e▸Xa [] (k:=fi)
theorem X2c (a0:(List X1)) (r:Bool) (h:Xx a0=some r):X0f Try.prog 61 [(Lf (a0.map X0)),(AV.fn 60 [])] (aB r):=by
 refine X0f.sym X8 Xxf (nt:=9) rfl rfl ?_ okM;unfold Xx at h;revert h;exact bI λv1 h2=>λe=>oj e▸Xa [.pure [(Lf (a0.map X0)),(AV.fn 60 [])] (aI .i64 v1)] (o:=by repeat' first|apply Ya|exact pcM|exact(pn (X2k _ _ h2) (cc (X1m (X0c Xz a0)) (cc .fn0 cn)))|exact Xy) (k:=fi)
instance Xju:PCs Try.prog 39 (∀ (a0:(List X1)) (r:Bool×Int),X3q a0=some r->X0f Try.prog 39 [(Lf (a0.map X0))] (AV.tup [(aB r.1),(aI .i64 r.2)])):=⟨λa0 r h=>by
 refine X0f.sym X8 Xy0 (nt:=15) rfl rfl ?_ okM;unfold X3q at h;revert h;refine bI λv1 h2=>brI (λh3=>λe=>oj e▸Xa [.pure _ (aI .i64 v1),Bt] (k:=fi)) λh3=>?_;exact bI λv4 h5=>λe=>oj e▸Xa [.pure _ (aI .i64 v1),Bf,.pure [(Lf (a0.map X0)),(AV.fn 60 [])] (aB v4)] (o:=by repeat' first|apply Ya|exact pcM|exact(pn (X2c _ _ h5) (cc (X1m (X0c Xz a0)) (cc .fn0 cn)))|exact Xy) (k:=fi)⟩
instance Xoo:PCs Try.prog 79 (∀ (a0:(List X1)) (r:Int),X75 a0=some r->X0f Try.prog 79 [(Lf (a0.map X0))] (aI .i64 r)):=⟨λa0 r h=>by
 refine X0f.sym X8 Xwz (nt:=13) rfl rfl ?_ okM;unfold X75 at h;revert h;exact bI λv1 h2=>λe=>oj e▸Xa [.pure _ (AV.tup [(aB v1.1),(aI .i64 v1.2.1),(aI .i64 v1.2.2)])] (k:=fi)⟩
instance Xpx:PCs Try.prog 92 (∀ (a0:Bool) (r:Int),X2f a0=some r->X0f Try.prog 92 [(aB a0)] (aI .i64 r)):=⟨λa0 r h=>by
 refine X0f.sym X8 Xwn (nt:=4) rfl rfl ?_ okM;unfold X2f at h;revert h;exact brI (λh1=>λe=>oj e▸Xa [Bt] (k:=fi)) λh1=>λe=>oj e▸Xa [Bf] (k:=fi)⟩
instance Xf2:PCs Try.prog 80 (∀ (a0:Int) (a1:Int) (a2:Int) (r:Int×Int),X67 a0 a1 a2=some r->X0f Try.prog 80 [(aI .u8 a0),(aI .i64 a1),(aI .i64 a2)] (AV.tup [(aI .i64 r.1),(aI .i64 r.2)])):=⟨λa0 a1 a2 r h=>by
 refine X0f.sym X8 Xwy (nt:=97) rfl rfl ?_ okM;unfold X67 at h;revert h;refine brI (λh1=>λe=>oj e▸Xa [Bt,.wrap] (k:=fi)) λh1=>brI (λh2=>bI λv3 h4=>λe=>oj e▸Xa [Bf,Bt,.pure _ (aI .i64 v3)] (k:=fi)) λh2=>brI (λh5=>λe=>oj e▸Xa [Bf,Bf,Bt,.wrap] (k:=fi)) λh5=>brI (λh6=>λe=>oj e▸Xa [Bf,Bf,Bf,Bt,.wrap] (k:=fi)) λh6=>brI (λh7=>λe=>oj e▸Xa [Bf,Bf,Bf,Bf,Bt,.wrap] (k:=fi)) λh7=>brI (λh8=>bI λu9 h10=>λe=>oj e▸Xa [Bf,Bf,Bf,Bf,Bf,Bt,.wrap] (k:=fi)) λh8=>brI (λh11=>bI λu12 h13=>λe=>oj e▸Xa [Bf,Bf,Bf,Bf,Bf,Bf,Bt] (k:=fi)) λh11=>brI (λh14=>bI λv15 h16=>λe=>oj e▸Xa [Bf,Bf,Bf,Bf,Bf,Bf,Bf,Bt,.pure _ (aI .i64 v15)] (k:=fi)) λh14=>brI (λh17=>bI λv18 h19=>λe=>oj e▸Xa [Bf,Bf,Bf,Bf,Bf,Bf,Bf,Bf,Bt,.pure _ (aI .i64 v18)] (k:=fi)) λh17=>brI (λh20=>bI λv21 h22=>λe=>oj e▸Xa [Bf,Bf,Bf,Bf,Bf,Bf,Bf,Bf,Bf,Bt,.pure _ (aI .i64 v21)] (k:=fi)) λh20=>brI (λh23=>bI λv24 h25=>λe=>oj e▸Xa [Bf,Bf,Bf,Bf,Bf,Bf,Bf,Bf,Bf,Bf,Bt,.pure _ (aI .i64 v24)] (k:=fi)) λh23=>brI (λh26=>bI λv27 h28=>λe=>oj e▸Xa [Bf,Bf,Bf,Bf,Bf,Bf,Bf,Bf,Bf,Bf,Bf,Bt,.pure _ (aI .i64 v27)] (k:=fi)) λh26=>brI (λh29=>bI λv30 h31=>λe=>oj e▸Xa [Bf,Bf,Bf,Bf,Bf,Bf,Bf,Bf,Bf,Bf,Bf,Bf,Bt,.pure _ (aI .i64 v30)] (k:=fi)) λh29=>brI (λh32=>bI λv33 h34=>λe=>oj e▸Xa [Bf,Bf,Bf,Bf,Bf,Bf,Bf,Bf,Bf,Bf,Bf,Bf,Bf,Bt,.pure _ (aI .i64 v33)] (k:=fi)) λh32=>rnI [Bf,Bf,Bf,Bf,Bf,Bf,Bf,Bf,Bf,Bf,Bf,Bf,Bf,Bf] ?_;exact brI (λh35=>bI λv36 h37=>λe=>oj e▸Xa [Bt,.pure _ (aI .i64 v36)] (k:=fi)) λh35=>λe=>oj e▸Xa [Bf] (k:=fi)⟩
theorem Xdq {Q:Xr->St->Mu->Prop} {μ:Mu} (Xi:(V5 Int)) (Xb3:(List X1)) (hl:Xb3.length<=140737488355328):∀ (xs:List X1) (k:Nat) (hx:Xb3.drop k=xs) (Xc:(List Int)) (o:X5q) (h:X17 Xi Xb3 xs k Xc=some o)
  (C0:∀ (Xm:(List Int)),o=X5q.x0 Xm->X4 Try.prog 80 0 Q (.exit (.exit 0)) [] ⟨fr [(8,(AV.ref 0 0 (Xm.length)))],hp ([(0,Ob (List.map (aI .i64) Xm) 1)]),1⟩ μ)
  (C1:∀ (X00:(List Int)) (Xeo:Int) (X03:Nb X00),o=X5q.x1 X00 Xeo->X4 Try.prog 80 0 Q (.exit .ret) [] ⟨fr [(4,(slE X03.1 0 (List.map (aI .i64) X00))),(5,(aI .i64 Xeo))],hp ([]++opE X03.1 0 1 (List.map (aI .i64) X00)),1⟩ μ),
  X4 Try.prog 80 0 Q (.loop (X5l 0 (Xe Try.f62))) [] ⟨fr [(7,(AV.ptr 0 0 0)),(8,(AV.ref 1 0 (Xc.length))),(28,(Lf (Xb3.map X0))),(29,(aI .i64 (Xb3.length:Int))),(30,(aI .i64 (k:Int)))],hp ([(0,Ob [(X9p Xi)] 5),(1,Ob (List.map (aI .i64) Xc) 1)]),2⟩ μ:=by
 intro xs
 induction xs with
 |nil =>
  intro k hx Xc o h C0 C1;have hk:=drop_nil hx;have hc:decide ((k:Int)<(Xb3.length:Int))=false:=Yf om;rw[X17] at h;refine X4.round ?_;revert h;exact λe=>Xa [Bf] (k:=wkT [(0,1)] (C0 _  (oj e).symm))
 |cons x xs ih =>
  intro k hx Xc o h C0 C1;obtain⟨hk,hg,hx1⟩:=drop_cons hx;have hc:decide ((k:Int)<(Xb3.length:Int))=true:=Yt om;rw[X17] at h;refine X4.round ?_;revert h;refine brI (λh87=>?_) λh87=>?_
  ·
   refine bI λe88 h89=>?_;try have qh89:=Xf h89
   refine rnI [Bt,.el (X0 x),Bt,.el (aI .i64 e88),.ld (aI .i64 e88)] (o:=by repeat' first|apply Ya|exact pcM|exact(List.getElem?_set_self (by have hq:=X5p h89;simp;omega)).trans rfl|exact Xy) ?_;intro h;exact wkT [] (ih (k+1) hx1 _ o h C0 C1)
  refine brI (λh90=>?_) λh90=>?_
  ·
   refine bI λXbh h116=>rnI [Bt,.el (X0 x),Bf,Bt,.stop 16] ?_;intro h;refine X4.join (s':=⟨fr [(7,(AV.ptr 0 0 0)),(8,(AV.ref 1 0 (Xbh.length))),(28,(Lf (Xb3.map X0))),(29,(aI .i64 (Xb3.length:Int))),(30,(aI .i64 (k:Int)))],hp ([(0,Ob [(X9p Xi)] 5),(1,Ob (List.map (aI .i64) Xbh) 1)]),2⟩) ?_ (λJ=>X4.cut ?_)
   ·
    exact Xa [] (k:=wkT [] (ih (k+1) hx1 _ o h C0 C1))
   clear h;revert h116;refine brI (λh104=>?_) λh104=>?_
   ·
    refine bI λe105 h106=>?_;try have qh106:=Xf h106
    intro h;obtain rfl:=oj h;exact Xa [.ix 0,.el (aI .i64 e105),.ld (aI .i64 e105)] (o:=by repeat' first|apply Ya|exact pcM|exact((eq_of_beq h104))|exact(List.getElem?_set_self (by have hq:=X5p h106;simp;omega)).trans rfl|exact Xy) (k:=wkT [] (X4.glue J))
   refine brI (λh107=>?_) λh107=>?_
   ·
    refine bI λe108 h109=>?_;try have qh109:=Xf h109
    intro h;obtain rfl:=oj h;exact Xa [.ix 2,.el (aI .i64 e108),.ld (aI .i64 e108)] (o:=by repeat' first|apply Ya|exact pcM|exact((eq_of_beq h107))|exact(List.getElem?_set_self (by have hq:=X5p h109;simp;omega)).trans rfl|exact Xy) (k:=wkT [] (X4.glue J))
   refine brI (λh110=>?_) λh110=>?_
   ·
    refine bI λe111 h112=>?_;try have qh112:=Xf h112
    intro h;obtain rfl:=oj h;exact Xa [.ix 3,.el (aI .i64 e111),.ld (aI .i64 e111)] (o:=by repeat' first|apply Ya|exact pcM|exact((eq_of_beq h110))|exact(List.getElem?_set_self (by have hq:=X5p h112;simp;omega)).trans rfl|exact Xy) (k:=wkT [] (X4.glue J))
   refine brI (λh113=>?_) λh113=>?_
   ·
    refine bI λe114 h115=>?_;try have qh115:=Xf h115
    intro h;obtain rfl:=oj h;exact Xa [.ix 4,.el (aI .i64 e114),.ld (aI .i64 e114)] (o:=by repeat' first|apply Ya|exact pcM|exact((eq_of_beq h113))|exact(List.getElem?_set_self (by have hq:=X5p h115;simp;omega)).trans rfl|exact Xy) (k:=wkT [] (X4.glue J))
   intro h;cases h
  refine bI λe117 h118=>?_;try have qh118:=Xf h118
  refine bI λe119 h120=>?_;try have qh120:=Xf h120
  refine bI λv121 h122=>rnI [Bt,.el (X0 x),Bf,Bf,.el (aI .i64 e117),.ld (aI .i64 e117),.el (aI .i64 e119),.ld (aI .i64 e119),.pure _ (AV.tup [(aI .i64 v121.1),(aI .i64 v121.2)])] ?_;refine brI (λh123=>λe=>Xa [Bt] (k:=wkT [] (C1 _ _  nbS (oj e).symm))) λh123=>bI λe124 h125=>?_;try have qh125:=Xf h125
  refine rnI [Bf,.el (aI .i64 e124),.ld (aI .i64 e124)] (o:=by repeat' first|apply Ya|exact pcM|exact(List.getElem?_set_self (by have hq:=X5p h125;simp;omega)).trans rfl|exact Xy) ?_;intro h;exact wkT [] (ih (k+1) hx1 _ o h C0 C1)
instance Xr6:PCs Try.prog 62 (∀ (a0:(List X1)) (a1:X0z) (r:(List Int)×Int),X9d a0 a1=some r->X0f Try.prog 62 [(Lf (a0.map X0)),(X1g a1)] (AV.tup [(Lt (List.map (aI .i64) r.1)),(aI .i64 r.2)])):=⟨λa0 a1 r h=>by
 refine X0f.sym X8 Xxe (nt:=80) rfl rfl ?_ okM;unfold X9d at h;revert h;refine bI λv1 h2=>brI (λh3=>λe=>oj e▸Xa [.pure _ (aI .i64 v1),Bt] (k:=fi)) λh3=>bI λu4 h5=>?_;have qh5:=Xm2 h5;refine bI λu6 h7=>?_;have qh7:=X1n h7;refine bI λo126 h127=>rnI [.pure _ (aI .i64 v1),Bf,.el (aI .i64 (a0.length:Int)),.el (aI .i64 (a0.length:Int))] (o:=by repeat' first|apply Ya|exact pcM|exact(Int.le_trans qh5.2.2 (by decide))|exact om|exact Xy) ?_;intro h;refine wkT [(0,1),(1,2)] (X4.cut (Xdq (V5.mk 0 0 a1.Key a1.Time a1.Value) a0 qh7 a0 0 (by simp) _ _ h127 ?_ ?_))
 ·
  intro Xm eo126;subst eo126;refine X4.glue ?_;try dsimp only at h
  revert h;exact λe=>oj e▸Xa [] (k:=fi)
 intro X00 Xeo X03 eo126;subst eo126;refine X4.glue ?_;try dsimp only at h
 rcases X03 with ⟨_|_,X2v⟩<;>(try obtain rfl:=X2v rfl);all_goals
  revert h;exact λe=>oj e▸Xa [] (k:=fi)⟩
instance Xi7:PCs Try.prog 40 (∀ (a0:(List X1)) (a1:X0z) (r:Int×Int),X6h a0 a1=some r->X0f Try.prog 40 [(Lf (a0.map X0)),(X1g a1)] (AV.tup [(aI .i64 r.1),(aI .i64 r.2)])):=⟨λa0 a1 r h=>by
 refine X0f.sym X8 Xxz (nt:=23) rfl rfl ?_ okM;unfold X6h at h;revert h;refine bI λv1 h2=>brI (λh3=>λe=>oj e▸Xa [.pure _ (AV.tup [(Lt (List.map (aI .i64) v1.1)),(aI .i64 v1.2)]),Bt] (k:=fi)) λh3=>bI λe4 h5=>?_;try have qh5:=Xf h5
 exact λe=>oj e▸Xa [.pure _ (AV.tup [(Lt (List.map (aI .i64) v1.1)),(aI .i64 v1.2)]),Bf,.el (aI .i64 (v1.1.length:Int)),.wrap,.el (aI .i64 e4)] (k:=fi)⟩
instance Xok:PCs Try.prog 24 (∀ (a0:(List X1)) (r:Int×Bool×Int),X5m a0=some r->X0f Try.prog 24 [(Lf (a0.map X0))] (AV.tup [(aI .i64 r.1),(aB r.2.1),(aI .i64 r.2.2)])):=⟨λa0 r h=>by
 refine X0f.sym X8 Xyd (nt:=41) rfl rfl ?_ okM;unfold X5m at h;revert h;exact bI λv1 h2=>brI (λh3=>λe=>oj e▸Xa [.pure _ (AV.tup [(aB v1.1),(aI .i64 v1.2.1),(aI .i64 v1.2.2)]),Bt] (k:=fi)) λh3=>bI λv4 h5=>brI (λh6=>λe=>oj e▸Xa [.pure _ (AV.tup [(aB v1.1),(aI .i64 v1.2.1),(aI .i64 v1.2.2)]),Bf,.pure _ (AV.tup [(aB v4.1),(aI .i64 v4.2)]),Bt] (k:=fi)) λh6=>bI λv7 h8=>λe=>oj e▸Xa [.pure _ (AV.tup [(aB v1.1),(aI .i64 v1.2.1),(aI .i64 v1.2.2)]),Bf,.pure _ (AV.tup [(aB v4.1),(aI .i64 v4.2)]),Bf,.pure _ (AV.tup [(aI .i64 v7.1),(aI .i64 v7.2)])] (k:=fi)⟩
theorem X2y (a0:Int) (a1:Int) (r:(List X1)) (h:X3o a0 a1=some r):X0f Try.prog 75 [(aI .i64 a0),(AV.elem false ((aI .i64) a1) 0)] (Lt (r.map X0)):=by
 refine X0f.sym X8 Xw4 (nt:=8) rfl rfl ?_ okM;unfold X3o at h;revert h;exact λe=>oj e▸Xa [] (k:=fi)
end Go.Av.Try