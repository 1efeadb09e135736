/- Printed by decomp.py: that the program computes the functions. -/
import Derived.Test.YtkjlgmgfhgamlaaGreatDCert14Z
set_option linter.all false

namespace Go.Av.Tryz
open Go.Proofs Go.D
set_option maxRecDepth 10000
set_option maxHeartbeats 40000000
instance Xxv:PCs Tryz.prog 111 (∀ (a0:(List X1)) (a1:Int) (r:(List X1)×(List X1)),X7h a0 a1=some r->X0b Tryz.prog 111 [(Lf (a0.map X0)),(aI .i64 a1)] (AV.tup [(Lt (r.1.map X0)),(Lt (r.2.map X0))])):=⟨λa0 a1 r h=>by
 refine X0b.sym X3 X0di (nt:=33) rfl rfl ?_ okM;unfold X7h at h;revert h;refine bI λo29 h30=>rnI [] ?_;intro h;refine wkT [] (X2.cut (Xh1 a0 a1 _ _ _ h30 ?_));intro Xj6 eo29;subst eo29;refine X2.glue ?_;try dsimp only at h
 revert h;refine bI λm31 h32=>?_;obtain⟨qah32,qbh32,qch32,qh32⟩:=X2y h32;have qlh32:=X60 h32;refine brI (λq=>?_) λq=>?_
 ·
  intro h;have h33:m31=[]:=List.isEmpty_iff.1 q;revert h;refine bI λm34 h35=>?_;obtain⟨qah35,qbh35,qch35,qh35⟩:=X2y h35;have qlh35:=X60 h35;refine brI (λq=>?_) λq=>?_
  ·
   intro h;have h36:m34=[]:=List.isEmpty_iff.1 q;revert h;exact λe=>oj e▸X6 [.via (Lf (m31.map X0)),.ne false,.via (Lf (m34.map X0)),.ne false] (o:=by repeat' first|apply Ya|exact pcM|(simp at qah32 qbh32 qch32 ⊢;omega)|(rw[qh32];simp[Ym,Yd];done)|(simp at qah35 qbh35 qch35 ⊢;omega)|(rw[qh35];simp[Ym,Yd];done)|exact Xu) (k:=fi)
  intro h;have h36:¬ (m34=[]):=(λe=>by rw[e] at q;cases q);revert h;exact bI λu37 h38=>λe=>oj e▸X6 [.via (Lf (m31.map X0)),.ne false,.via (Lf (m34.map X0)),.via (Lt (m34.map X0))] (o:=by repeat' first|apply Ya|exact pcM|(simp at qah32 qbh32 qch32 ⊢;omega)|(rw[qh32];simp[Ym,Yd];done)|(simp at qah35 qbh35 qch35 ⊢;omega)|(rw[qh35];simp[Ym,Yd];done)|(refine X0r h38 rfl ?_;first|(simp<;>omega)|(simp[h33,h36]<;>omega))|(refine X08 h38 (by decide) ?_;first|(simp<;>omega)|(simp[h33,h36]<;>omega))|exact Xu) (k:=fi)
 intro h;have h33:¬ (m31=[]):=(λe=>by rw[e] at q;cases q);revert h;refine bI λu39 h40=>bI λm41 h42=>?_;obtain⟨qah42,qbh42,qch42,qh42⟩:=X2y h42;have qlh42:=X60 h42;refine brI (λq=>?_) λq=>?_
 ·
  intro h;have h43:m41=[]:=List.isEmpty_iff.1 q;revert h;exact λe=>oj e▸X6 [.via (Lf (m31.map X0)),.via (Lt (m31.map X0)),.via (Lf (m41.map X0)),.ne false] (o:=by repeat' first|apply Ya|exact pcM|(simp at qah32 qbh32 qch32 ⊢;omega)|(rw[qh32];simp[Ym,Yd];done)|(refine X0r h40 rfl ?_;first|(simp<;>omega)|(simp[h33,h43]<;>omega))|(refine X08 h40 (by decide) ?_;first|(simp<;>omega)|(simp[h33,h43]<;>omega))|(simp at qah42 qbh42 qch42 ⊢;omega)|(rw[qh42];simp[Ym,Yd];done)|exact Xu) (k:=fi)
 intro h;have h43:¬ (m41=[]):=(λe=>by rw[e] at q;cases q);revert h;exact bI λu44 h45=>λe=>oj e▸X6 [.via (Lf (m31.map X0)),.via (Lt (m31.map X0)),.via (Lf (m41.map X0)),.via (Lt (m41.map X0))] (o:=by repeat' first|apply Ya|exact pcM|(simp at qah32 qbh32 qch32 ⊢;omega)|(rw[qh32];simp[Ym,Yd];done)|(refine X0r h40 rfl ?_;first|(simp<;>omega)|(simp[h33,h43]<;>omega))|(refine X08 h40 (by decide) ?_;first|(simp<;>omega)|(simp[h33,h43]<;>omega))|(simp at qah42 qbh42 qch42 ⊢;omega)|(rw[qh42];simp[Ym,Yd];done)|(refine X0r h45 rfl ?_;first|(simp<;>omega)|(simp[h33,h43]<;>omega))|(refine X08 h45 (by decide) ?_;first|(simp<;>omega)|(simp[h33,h43]<;>omega))|exact Xu) (k:=fi)⟩
instance X02z:PCs Tryz.prog 113 (∀ (a0:Int) (a1:Xm) (r:Int),Xag a0 a1=some r->X0b Tryz.prog 113 [(aI .u8 a0),(Xv a1)] (aI .i64 r)):=⟨λa0 a1 r h=>by
 refine X0b.sym X3 X0dg (nt:=20) rfl rfl ?_ okM;unfold Xag at h;revert h;exact brI (λh1=>λe=>oj e▸X6 [Bt] (k:=fi)) λh1=>brI (λh2=>λe=>oj e▸X6 [Bf,Bt] (k:=fi)) λh2=>brI (λh3=>λe=>oj e▸X6 [Bf,Bf,Bt] (k:=fi)) λh3=>λe=>oj e▸X6 [Bf,Bf,Bf] (k:=fi)⟩
instance X02p:PCs Tryz.prog 74 (∀ (a0:X0g) (a1:X1) (r:X1b×Bool),Xae a0 a1=some r->X0b Tryz.prog 74 [(X07 false a0),(X0 a1)] (AV.tup [(Xf r.1),(aB r.2)])):=⟨λa0 a1 r h=>by
 refine X0b.sym X3 fn74 (nt:=37) rfl rfl ?_ okM;unfold Xae at h;revert h;refine bI λX07b h4=>rnI [.stop 1] ?_;intro h;refine X2.join (s':=⟨fr [(2,(AV.ptr 0 0 0)),(3,(AV.ptr 1 0 0)),(4,(AV.ptr 2 0 0)),(17,(aB X07b))],hp ([(0,Ob [(X07 false a0)] 10),(1,Ob [(X0 a1)] 11),(2,Ob [(Xf (X1b.mk 0 (Xy.mk 0 0) (V2.mk 0 0)))] 5)]),3⟩) ?_ (λJ=>X2.cut ?_)
 ·
  revert h;exact brI (λh5=>λe=>oj e▸X6 [Bt] (k:=fi)) λh5=>bI λv6 h7=>bI λv8 h9=>λe=>oj e▸X6 [Bf,.ix 0,.pure _ (aI .i64 v6),.ix 1,.pure _ (aI .i64 v8)] (k:=fi)
 clear h;revert h4;refine brI (λh3=>?_) λh3=>?_
 ·
  intro h;obtain rfl:=oj h;exact X6 [.ix 0,Gf,Gf,Gf,Gf,Gf] (k:=wkT [] (X2.glue J))
 intro h;obtain rfl:=oj h;exact X6 [.ix 0,Gt,Gt,.ix 1,Gt,Gt,Gt] (k:=wkT [] (X2.glue J))⟩
theorem Xk0 {Q:X03->St->Mu->Prop} {μ:Mu} (Xh:X0g) (Xn:Xo) (Xga:Int) (Xg9:Int) (Xg8:Int) (Xg7:(List Int)) (Xg6:(List X1)) (Xg5:(List X01)) (Xg4:(List X1b)) (Xg3:(List Xg)) (X1v:(List X1)) (hl:X1v.length<=140737488355328):∀ (xs:List X1) (k:Nat) (hx:X1v.drop k=xs) (X0l:(List X09)) (X19:Nb X0l) (o:Xb1) (h:X38 Xh Xn Xga Xg9 Xg8 Xg7 Xg6 Xg5 Xg4 Xg3 X1v xs k X0l=some o)
  (C0:∀ (X4o:(List X09)) (X61:Nb X4o),o=Xb1.x0 X4o->X2 Tryz.prog 94 0 Q (.exit (.exit 0)) [] ⟨fr [(8,(AV.ptr 0 0 0)),(14,(AV.ptr 1 0 0))],hp ([(0,Ob [(Xa true Xn)] 9),(1,Ob [AV.agg [(aI .u8 Xga),(aI .i64 Xg9),(aI .i64 Xg8),(slE X61.1 2 (X4o.map Xc)),(Lt (List.map (aI .i64) Xg7)),(Lt (Xg6.map X0)),(Lt (Xg5.map X8)),(Lt (Xg4.map Xf)),(Lt (Xg3.map X5))]] 9)]++opE X61.1 2 11 (X4o.map Xc)),3⟩ μ),
  X2 Tryz.prog 94 0 Q (.loop (X2o 0 (Xd Tryz.f32))) [] ⟨fr [(4,(AV.ptr 0 0 0)),(8,(AV.ptr 1 0 0)),(14,(AV.ptr 2 0 0)),(15,(Lt (X1v.map X0))),(17,(aI .i64 (k:Int)))],hp ([(0,Ob [(X07 false Xh)] 10),(1,Ob [(Xa true Xn)] 9),(2,Ob [AV.agg [(aI .u8 Xga),(aI .i64 Xg9),(aI .i64 Xg8),(slE X19.1 3 (X0l.map Xc)),(Lt (List.map (aI .i64) Xg7)),(Lt (Xg6.map X0)),(Lt (Xg5.map X8)),(Lt (Xg4.map Xf)),(Lt (Xg3.map X5))]] 9)]++opE X19.1 3 11 (X0l.map Xc)),4⟩ μ:=by
 intro xs
 induction xs with
 |nil =>
  intro k hx X0l X19 o h C0;have hk:=X1g hx;have hc:decide ((k:Int)<(X1v.length:Int))=false:=Yf om;rw[X38] at h;rcases X19 with ⟨_|_,X4y⟩
  ·
   refine X2.round ?_;revert h;exact λe=>X6 [.el (aI .i64 (X1v.length:Int)),Bf] (k:=wkT [(0,1),(1,2),(2,3)] (C0 _  nbF (oj e).symm))
  ·
   obtain rfl:=X4y rfl;refine X2.round ?_;revert h;exact λe=>X6 [.el (aI .i64 (X1v.length:Int)),Bf] (k:=wkT [(0,1),(1,2)] (C0 _  nbS (oj e).symm))
 |cons x xs ih =>
  intro k hx X0l X19 o h C0;obtain⟨hk,hg,hx1⟩:=X0u hx;have hc:decide ((k:Int)<(X1v.length:Int))=true:=Yt om;rw[X38] at h;rcases X19 with ⟨_|_,X4y⟩
  ·
   refine X2.round ?_;revert h;refine bI λv239 h240=>bI λXlq h248=>rnI [.el (aI .i64 (X1v.length:Int)),Bt,.el (X0 x),.pure _ (AV.tup [(Xf v239.1),(aB v239.2)])] ?_;intro h;refine X2.joinF (λ(q:Nb Xlq)=>⟨fr [(4,(AV.ptr 0 0 0)),(8,(AV.ptr 1 0 0)),(14,(AV.ptr 2 0 0)),(15,(Lt (X1v.map X0))),(17,(aI .i64 (k:Int)))],hp ([(0,Ob [(X07 false Xh)] 10),(1,Ob [(Xa true Xn)] 9),(2,Ob [AV.agg [(aI .u8 Xga),(aI .i64 Xg9),(aI .i64 Xg8),(slE q.1 3 (Xlq.map Xc)),(Lt (List.map (aI .i64) Xg7)),(Lt (Xg6.map X0)),(Lt (Xg5.map X8)),(Lt (Xg4.map Xf)),(Lt (Xg3.map X5))]] 9)]++opE q.1 3 11 (Xlq.map Xc)),4⟩) ?_ (λJ=>X2.cut ?_)
   ·
    rintro Xv9;rcases Xv9 with ⟨_|_,Xvp⟩
    ·
     exact X6 [] (k:=wkT [] (ih (k+1) hx1 _ nbF o h C0))
    obtain rfl:=Xvp rfl;exact X6 [] (k:=wkT [] (ih (k+1) hx1 _ nbS o h C0))
   clear h;revert h248;refine brI (λh245=>?_) λh245=>?_
   ·
    refine bI λu246 h247=>?_;intro h;obtain rfl:=oj h;exact X6 [Bt,.no] (o:=by repeat' first|apply Ya|exact pcM|(refine X0r h247 rfl ?_;first|(simp<;>omega)|(simp[hc,h245]<;>omega))|(refine X08 h247 (by decide) ?_;first|(simp<;>omega)|(simp[hc,h245]<;>omega))|exact Xu) (k:=wkT [(3,17)] (X2.glue (J nbF)))
   intro h;obtain rfl:=oj h;exact X6 [Bf] (k:=wkT [] (X2.glue (J nbF)))
  obtain rfl:=X4y rfl;refine X2.round ?_;revert h;refine bI λv249 h250=>bI λXs8 h258=>rnI [.el (aI .i64 (X1v.length:Int)),Bt,.el (X0 x),.pure _ (AV.tup [(Xf v249.1),(aB v249.2)])] ?_;intro h;refine X2.joinF (λ(q:Nb Xs8)=>⟨fr [(4,(AV.ptr 0 0 0)),(8,(AV.ptr 1 0 0)),(14,(AV.ptr 2 0 0)),(15,(Lt (X1v.map X0))),(17,(aI .i64 (k:Int)))],hp ([(0,Ob [(X07 false Xh)] 10),(1,Ob [(Xa true Xn)] 9),(2,Ob [AV.agg [(aI .u8 Xga),(aI .i64 Xg9),(aI .i64 Xg8),(slE q.1 3 (Xs8.map Xc)),(Lt (List.map (aI .i64) Xg7)),(Lt (Xg6.map X0)),(Lt (Xg5.map X8)),(Lt (Xg4.map Xf)),(Lt (Xg3.map X5))]] 9)]++opE q.1 3 11 (Xs8.map Xc)),4⟩) ?_ (λJ=>X2.cut ?_)
  ·
   rintro Xv8;rcases Xv8 with ⟨_|_,Xvo⟩
   ·
    exact X6 [] (k:=wkT [] (ih (k+1) hx1 _ nbF o h C0))
   obtain rfl:=Xvo rfl;exact X6 [] (k:=wkT [] (ih (k+1) hx1 _ nbS o h C0))
  clear h;revert h258;refine brI (λh255=>?_) λh255=>?_
  ·
   refine bI λu256 h257=>?_;intro h;obtain rfl:=oj h;exact X6 [Bt,.no] (o:=by repeat' first|apply Ya|exact pcM|(refine X0r h257 rfl ?_;first|(simp<;>omega)|(simp[hc,h255]<;>omega))|(refine X08 h257 (by decide) ?_;first|(simp<;>omega)|(simp[hc,h255]<;>omega))|exact Xu) (k:=wkT [(3,17)] (X2.glue (J nbF)))
  intro h;obtain rfl:=oj h;exact X6 [Bf] (k:=wkT [] (X2.glue (J nbS)))
end Go.Av.Tryz