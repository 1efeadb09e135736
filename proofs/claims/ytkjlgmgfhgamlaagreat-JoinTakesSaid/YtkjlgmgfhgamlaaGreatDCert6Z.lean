/- Printed by decomp.py: that the program computes the functions. -/
import Derived.Test.YtkjlgmgfhgamlaaGreatDCert5Z
set_option linter.all false

namespace Go.Av.Tryz
open Go.Proofs Go.D
set_option maxRecDepth 10000
set_option maxHeartbeats 40000000
theorem Xjs {Q:X03->St->Mu->Prop} {μ:Mu} (X8j:Xo) (Xec:(List Xg)) (hl:Xec.length<=140737488355328):∀ (xs:List Xg) (k:Nat) (hx:Xec.drop k=xs) (Xmd:Bool) (o:Xau) (h:X3n X8j Xec xs k Xmd=some o)
  (C0:∀ (Xhy:Bool),o=Xau.x0 Xhy->X2 Tryz.prog 202 0 Q (.exit (.exit 6)) [] ⟨fr [(1,(AV.ptr 0 0 0)),(11,(aB Xhy))],hp ([(0,Ob [(Xa false X8j)] 9)]),1⟩ μ),
  X2 Tryz.prog 202 0 Q (.loop (X2o 3 (Xd Tryz.f61))) [] ⟨fr [(1,(AV.ptr 0 0 0)),(11,(aB Xmd)),(164,(Lf (Xec.map X5))),(165,(aI .i64 (Xec.length:Int))),(166,(aI .i64 (k:Int)))],hp ([(0,Ob [(Xa false X8j)] 9)]),1⟩ μ:=by
 intro xs
 induction xs with
 |nil =>
  intro k hx Xmd o h C0;have hk:=X1g hx;have hc:decide ((k:Int)<(Xec.length:Int))=false:=Yf om;rw[X3n] at h;refine X2.round ?_;revert h;exact λe=>X6 [Bf] (k:=wkT [] (C0 _  (oj e).symm))
 |cons x xs ih =>
  intro k hx Xmd o h C0;obtain⟨hk,hg,hx1⟩:=X0u hx;have hc:decide ((k:Int)<(Xec.length:Int))=true:=Yt om;rw[X3n] at h;refine X2.round ?_;revert h;refine bI λXsc h163=>rnI [Bt,.el (X5 x),.stop 25] ?_;intro h;refine X2.join (s':=⟨fr [(1,(AV.ptr 0 0 0)),(11,(aB Xsc)),(164,(Lf (Xec.map X5))),(165,(aI .i64 (Xec.length:Int))),(166,(aI .i64 (k:Int)))],hp ([(0,Ob [(Xa false X8j)] 9)]),1⟩) ?_ (λJ=>X2.cut ?_)
  ·
   exact X6 [] (k:=wkT [] (ih (k+1) hx1 _ o h C0))
  clear h;revert h163;refine brI (λh160=>?_) λh160=>?_
  ·
   refine bI λv161 h162=>?_;intro h;obtain rfl:=oj h;exact X6 [Gt,Gt,Gt,.pure _ (aI .i64 v161),Gt] (k:=wkT [] (X2.glue J))
  intro h;obtain rfl:=oj h;exact X6 [Gf,Gf,Gf,Gf] (k:=wkT [] (X2.glue J))
theorem Xjr {Q:X03->St->Mu->Prop} {μ:Mu} (Xe4:Xo) (Xeb:(List X1)) (hl:Xeb.length<=140737488355328):∀ (xs:List X1) (k:Nat) (hx:Xeb.drop k=xs) (Xku:Bool) (o:Xat) (h:X3m Xe4 Xeb xs k Xku=some o)
  (C0:∀ (Xhx:Bool),o=Xat.x0 Xhx->X2 Tryz.prog 202 0 Q (.exit (.exit 8)) [] ⟨fr [(11,(aB Xhx))],hp ([]),0⟩ μ),
  X2 Tryz.prog 202 0 Q (.loop (X2o 4 (Xd Tryz.f61))) [] ⟨fr [(1,(AV.ptr 0 0 0)),(11,(aB Xku)),(179,(Lf (Xeb.map X0))),(180,(aI .i64 (Xeb.length:Int))),(181,(aI .i64 (k:Int)))],hp ([(0,Ob [(Xa false Xe4)] 9)]),1⟩ μ:=by
 intro xs
 induction xs with
 |nil =>
  intro k hx Xku o h C0;have hk:=X1g hx;have hc:decide ((k:Int)<(Xeb.length:Int))=false:=Yf om;rw[X3m] at h;refine X2.round ?_;revert h;exact λe=>X6 [Bf] (k:=wkT [] (C0 _  (oj e).symm))
 |cons x xs ih =>
  intro k hx Xku o h C0;obtain⟨hk,hg,hx1⟩:=X0u hx;have hc:decide ((k:Int)<(Xeb.length:Int))=true:=Yt om;rw[X3m] at h;refine X2.round ?_;revert h;refine bI λXsb h186=>rnI [Bt,.el (X0 x),.stop 30] ?_;intro h;refine X2.join (s':=⟨fr [(1,(AV.ptr 0 0 0)),(11,(aB Xsb)),(179,(Lf (Xeb.map X0))),(180,(aI .i64 (Xeb.length:Int))),(181,(aI .i64 (k:Int)))],hp ([(0,Ob [(Xa false Xe4)] 9)]),1⟩) ?_ (λJ=>X2.cut ?_)
  ·
   exact X6 [] (k:=wkT [] (ih (k+1) hx1 _ o h C0))
  clear h;revert h186;refine brI (λh184=>?_) λh184=>?_
  ·
   refine brI (λh185=>?_) λh185=>?_
   ·
    intro h;obtain rfl:=oj h;exact X6 [Gt,Gt,Gt,Gt,Gt,Gf,Gf,Gf,Gf,Gf,Gt] (k:=wkT [] (X2.glue J))
   intro h;obtain rfl:=oj h;exact X6 [Gt,Gt,Gt,Gt,Gt,Gt,Gt,.ix 1,Gt,Gt,Gt,Gt] (k:=wkT [] (X2.glue J))
  intro h;obtain rfl:=oj h;exact X6 [Gf,Gf,Gf,Gf,Gf,Gf,Gf,Gf,Gf,Gf,Gf] (k:=wkT [] (X2.glue J))
instance X02e:PCs Tryz.prog 61 (∀ (a0:Xo) (r:Int),Xaa a0=some r->X0b Tryz.prog 61 [(Xa false a0)] (aI .i64 r)):=⟨λa0 r h=>by
 refine X0b.sym X3 fn61 (nt:=202) rfl rfl ?_ okM;unfold Xaa at h;revert h;refine bI λv1 h2=>bI λXnp h32=>rnI [.pure _ (AV.tup [(aI .i64 v1.1),(aI .i64 v1.2.1),(aB v1.2.2.1),(aB v1.2.2.2.1),(aB v1.2.2.2.2.1),(aB v1.2.2.2.2.2)]),.stop 3] ?_;intro h;refine X2.join (s':=⟨fr [(1,(AV.ptr 0 0 0)),(9,(aB (bif (bif (bif (decide (a0.Turn >= (0:Int))) then (decide (a0.Turn<(20:Int))) else false) then (decide (a0.Op.N >= (0:Int))) else false) then (decide (a0.Op.N<(4:Int))) else false))),(10,(aB Xnp))],hp ([(0,Ob [(Xa false a0)] 9)]),1⟩) ?_ (λJ=>X2.cut ?_)
 ·
  revert h;refine bI λXs2 h48=>rnI [.stop 4] ?_;intro h;refine X2.join (s':=⟨fr [(1,(AV.ptr 0 0 0)),(120,(aB Xs2))],hp ([(0,Ob [(Xa false a0)] 9)]),1⟩) ?_ (λJ=>X2.cut ?_)
  ·
   revert h;refine brI (λh49=>λe=>oj e▸X6 [Bt] (k:=fi)) λh49=>bI λu50 h51=>?_;have qh51:=X0v h51;refine bI λo77 h78=>rnI [Bf,.el (aI .i64 (a0.Marks.length:Int))] ?_;intro h;refine wkT [] (X2.cut (Xjv a0 a0.Marks qh51 a0.Marks 0 (by simp) _ _ h78 ?_));intro Xi1 eo77;subst eo77;refine X2.glue ?_;try dsimp only at h
   revert h;refine bI λu79 h80=>?_;have qh80:=X0v h80;refine bI λo106 h107=>rnI [.el (aI .i64 (a0.Events.length:Int))] ?_;intro h;refine wkT [] (X2.cut (Xju a0 a0.Events qh80 a0.Events 0 (by simp) _ _ h107 ?_));intro Xi0 eo106;subst eo106;refine X2.glue ?_;try dsimp only at h
   revert h;refine bI λu108 h109=>?_;have qh109:=X0v h109;refine bI λo135 h136=>rnI [.el (aI .i64 (a0.Rows.length:Int))] ?_;intro h;refine wkT [] (X2.cut (Xjt a0 a0.Rows qh109 a0.Rows 0 (by simp) _ _ h136 ?_));intro Xhz eo135;subst eo135;refine X2.glue ?_;try dsimp only at h
   revert h;refine bI λu137 h138=>?_;have qh138:=X0v h138;refine bI λo164 h165=>rnI [.el (aI .i64 (a0.Late.length:Int))] ?_;intro h;refine wkT [] (X2.cut (Xjs a0 a0.Late qh138 a0.Late 0 (by simp) _ _ h165 ?_));intro Xhy eo164;subst eo164;refine X2.glue ?_;try dsimp only at h
   revert h;refine bI λu166 h167=>?_;have qh167:=X0v h167;refine bI λo187 h188=>rnI [.el (aI .i64 (a0.Store.length:Int))] ?_;intro h;refine wkT [] (X2.cut (Xjr a0 a0.Store qh167 a0.Store 0 (by simp) _ _ h188 ?_));intro Xhx eo187;subst eo187;refine X2.glue ?_;try dsimp only at h
   revert h;exact brI (λh189=>λe=>oj e▸X6 [Bt] (k:=fi)) λh189=>λe=>oj e▸X6 [Bf] (k:=fi)
  clear h;revert h48;refine brI (λh41=>?_) λh41=>?_
  ·
   intro h;obtain rfl:=oj h;exact X6 [Gf,Gf,Gf,Gf,Gf,Gf,Gf,Gf,Gf,Gf] (o:=by repeat' first|apply Ya|exact pcM|exact fq (X7 h41 rfl)|exact fq (X7 (X7 h41 rfl) rfl)|exact Xu) (k:=wkT [] (X2.glue J))
  refine brI (λh42=>?_) λh42=>?_
  ·
   intro h;obtain rfl:=oj h;exact X6 [Gt,Gt,Gf,Gf,Gf,Gf,Gf,Gf,Gf,Gf] (o:=by repeat' first|apply Ya|exact pcM|exact fq (Xb h41 h42)|exact fq (X7 (Xb h41 h42) rfl)|exact Xu) (k:=wkT [] (X2.glue J))
  refine bI λv43 h44=>brI (λh45=>?_) λh45=>?_
  ·
   intro h;obtain rfl:=oj h;exact X6 [Gt,Gt,Gt,Gt,Gt,.pure _ (aB v43),Gt,Gf,Gf,Gf,Gf] (o:=by repeat' first|apply Ya|exact pcM|exact fq (Xb h41 h42)|exact fq (Xb (Xb h41 h42) h45)|exact Xu) (k:=wkT [] (X2.glue J))
  refine bI λv46 h47=>?_;intro h;obtain rfl:=oj h;exact X6 [Gt,Gt,Gt,Gt,Gt,.pure _ (aB v43),Gt,Gt,Gt,Gt,.pure _ (aI .i64 v46),Gt] (o:=by repeat' first|apply Ya|exact pcM|exact fq (Xb h41 h42)|exact fq (Xb (Xb h41 h42) h45)|exact Xu) (k:=wkT [] (X2.glue J))
 clear h;revert h32;refine brI (λh18=>?_) λh18=>?_
 ·
  refine brI (λh19=>?_) λh19=>?_
  ·
   refine brI (λh20=>?_) λh20=>?_
   ·
    refine bI λv21 h22=>brI (λh23=>?_) λh23=>?_
    ·
     refine bI λv24 h25=>brI (λh26=>?_) λh26=>?_
     ·
      refine bI λv27 h28=>brI (λh29=>?_) λh29=>?_
      ·
       refine bI λv30 h31=>?_;intro h;obtain rfl:=oj h;exact X6 [X2d.el (aI .i64 (a0.Pending.length:Int)),Gt,Gt,Gt,X2d.el (aI .i64 (a0.Marks.length:Int)),Gt,Gt,Gt,Gt,Gt,X2d.el (aI .i64 (a0.Marks.length:Int)),Gt,Gt,Gt,Gt,Gt,X2d.el (aI .i64 (a0.Store.length:Int)),Gt,Gt,X2d.pure _ (aI .i64 v21),Gt,Gt,Gt,Gt,X2d.el (aI .i64 (a0.Events.length:Int)),Gt,Gt,X2d.pure _ (aI .i64 v24),Gt,Gt,Gt,Gt,X2d.el (aI .i64 (a0.Rows.length:Int)),Gt,Gt,X2d.pure _ (aI .i64 v27),Gt,Gt,Gt,Gt,X2d.el (aI .i64 (a0.Late.length:Int)),Gt,Gt,X2d.pure _ (aI .i64 v30),Gt] (o:=by repeat' first|apply Ya|exact pcM|exact fq (X7 h18 h19)|exact fq (X7 (X7 h18 h19) h20)|exact fq (X7 (X7 (X7 h18 h19) h20) h23)|exact fq (X7 (X7 (X7 (X7 h18 h19) h20) h23) h26)|exact fq (X7 (X7 (X7 (X7 (X7 h18 h19) h20) h23) h26) h29)|exact Xu) (k:=wkT [] (X2.glue J))
      intro h;obtain rfl:=oj h;exact X6 [X2d.el (aI .i64 (a0.Pending.length:Int)),Gt,Gt,Gt,X2d.el (aI .i64 (a0.Marks.length:Int)),Gt,Gt,Gt,Gt,Gt,X2d.el (aI .i64 (a0.Marks.length:Int)),Gt,Gt,Gt,Gt,Gt,X2d.el (aI .i64 (a0.Store.length:Int)),Gt,Gt,X2d.pure _ (aI .i64 v21),Gt,Gt,Gt,Gt,X2d.el (aI .i64 (a0.Events.length:Int)),Gt,Gt,X2d.pure _ (aI .i64 v24),Gt,Gt,Gt,Gt,X2d.el (aI .i64 (a0.Rows.length:Int)),Gt,Gt,X2d.pure _ (aI .i64 v27),Gt,Gf,Gf,Gf,Gf,Gf,Gf,Gf] (o:=by repeat' first|apply Ya|exact pcM|exact fq (X7 h18 h19)|exact fq (X7 (X7 h18 h19) h20)|exact fq (X7 (X7 (X7 h18 h19) h20) h23)|exact fq (X7 (X7 (X7 (X7 h18 h19) h20) h23) h26)|exact fq (X7 (X7 (X7 (X7 (X7 h18 h19) h20) h23) h26) h29)|exact Xu) (k:=wkT [] (X2.glue J))
     intro h;obtain rfl:=oj h;exact X6 [X2d.el (aI .i64 (a0.Pending.length:Int)),Gt,Gt,Gt,X2d.el (aI .i64 (a0.Marks.length:Int)),Gt,Gt,Gt,Gt,Gt,X2d.el (aI .i64 (a0.Marks.length:Int)),Gt,Gt,Gt,Gt,Gt,X2d.el (aI .i64 (a0.Store.length:Int)),Gt,Gt,X2d.pure _ (aI .i64 v21),Gt,Gt,Gt,Gt,X2d.el (aI .i64 (a0.Events.length:Int)),Gt,Gt,X2d.pure _ (aI .i64 v24),Gt,Gf,Gf,Gf,Gf,Gf,Gf,Gf,Gf,Gf,Gf,Gf,Gf,Gf,Gf] (o:=by repeat' first|apply Ya|exact pcM|exact fq (X7 h18 h19)|exact fq (X7 (X7 h18 h19) h20)|exact fq (X7 (X7 (X7 h18 h19) h20) h23)|exact fq (X7 (X7 (X7 (X7 h18 h19) h20) h23) h26)|exact Xu) (k:=wkT [] (X2.glue J))
    intro h;obtain rfl:=oj h;exact X6 [X2d.el (aI .i64 (a0.Pending.length:Int)),Gt,Gt,Gt,X2d.el (aI .i64 (a0.Marks.length:Int)),Gt,Gt,Gt,Gt,Gt,X2d.el (aI .i64 (a0.Marks.length:Int)),Gt,Gt,Gt,Gt,Gt,X2d.el (aI .i64 (a0.Store.length:Int)),Gt,Gt,X2d.pure _ (aI .i64 v21),Gt,Gf,Gf,Gf,Gf,Gf,Gf,Gf,Gf,Gf,Gf,Gf,Gf,Gf,Gf,Gf,Gf,Gf,Gf,Gf,Gf,Gf] (o:=by repeat' first|apply Ya|exact pcM|exact fq (X7 h18 h19)|exact fq (X7 (X7 h18 h19) h20)|exact fq (X7 (X7 (X7 h18 h19) h20) h23)|exact Xu) (k:=wkT [] (X2.glue J))
   intro h;obtain rfl:=oj h;exact X6 [X2d.el (aI .i64 (a0.Pending.length:Int)),Gt,Gt,Gt,X2d.el (aI .i64 (a0.Marks.length:Int)),Gt,Gt,Gt,Gt,Gt,X2d.el (aI .i64 (a0.Marks.length:Int)),Gt,Gt,Gf,Gf,Gf,Gf,Gf,Gf,Gf,Gf,Gf,Gf,Gf,Gf,Gf,Gf,Gf,Gf,Gf,Gf,Gf,Gf,Gf,Gf,Gf,Gf,Gf,Gf,Gf,Gf] (o:=by repeat' first|apply Ya|exact pcM|exact fq (X7 h18 h19)|exact fq (X7 (X7 h18 h19) h20)|exact Xu) (k:=wkT [] (X2.glue J))
  intro h;obtain rfl:=oj h;exact X6 [X2d.el (aI .i64 (a0.Pending.length:Int)),Gt,Gt,Gt,X2d.el (aI .i64 (a0.Marks.length:Int)),Gt,Gt,Gf,Gf,Gf,Gf,Gf,Gf,Gf,Gf,Gf,Gf,Gf,Gf,Gf,Gf,Gf,Gf,Gf,Gf,Gf,Gf,Gf,Gf,Gf,Gf,Gf,Gf,Gf,Gf,Gf,Gf,Gf,Gf,Gf,Gf] (o:=by repeat' first|apply Ya|exact pcM|exact fq (X7 h18 h19)|exact Xu) (k:=wkT [] (X2.glue J))
 intro h;obtain rfl:=oj h;exact X6 [X2d.el (aI .i64 (a0.Pending.length:Int)),Gf,Gf,Gf,Gf,Gf,Gf,Gf,Gf,Gf,Gf,Gf,Gf,Gf,Gf,Gf,Gf,Gf,Gf,Gf,Gf,Gf,Gf,Gf,Gf,Gf,Gf,Gf,Gf,Gf,Gf,Gf,Gf,Gf,Gf,Gf,Gf,Gf,Gf,Gf,Gf] (k:=wkT [] (X2.glue J))⟩
instance X05f:PCs Tryz.prog 79 (∀ (a0:Int) (r:Xm),Xf7 a0=some r->X0b Tryz.prog 79 [(aI .i64 a0)] (Xv r)):=⟨λa0 r h=>by
 refine X0b.sym X3 fn79 (nt:=7) rfl rfl ?_ okM;unfold Xf7 at h;revert h;exact λe=>oj e▸X6 [] (k:=fi)⟩
instance Xwf:PCs Tryz.prog 117 (∀ (a0:Int) (a1:Int) (r:Int),X3s a0 a1=some r->X0b Tryz.prog 117 [(aI .i64 a0),(aI .i64 a1)] (aI .i64 r)):=⟨λa0 a1 r h=>by
 refine X0b.sym X3 X0dd (nt:=17) rfl rfl ?_ okM;unfold X3s at h;revert h;exact brI (λh1=>λe=>oj e▸X6 [Bt] (k:=fi)) λh1=>brI (λh2=>λe=>oj e▸X6 [Bf,Bt] (k:=fi)) λh2=>λe=>oj e▸X6 [Bf,Bf] (k:=fi)⟩
instance Xu3:PCs Tryz.prog 194 (∀ (a0:Int) (r:Int),Xbj a0=some r->X0b Tryz.prog 194 [(aI .u64 a0)] (aI .i64 r)):=⟨λa0 r h=>by
 refine X0b.sym X3 X0by (nt:=25) rfl rfl ?_ okM;unfold Xbj at h;revert h;refine bI λw2 h4=>?_;intro h;obtain⟨j2_0,j2_2⟩:=w2;try dsimp only at h
 refine X0j [] ?_;refine X2.join (s':=⟨fr [(0,(aI .u64 j2_0)),(2,(aI .i64 j2_2))],hp ([]),0⟩) ?_ (λJ=>X2.cut ?_)
 ·
  revert h;refine bI λw6 h8=>?_;intro h;obtain⟨j6_0,j6_2⟩:=w6;try dsimp only at h
  refine X0j [] ?_;refine X2.join (s':=⟨fr [(0,(aI .u64 j6_0)),(2,(aI .i64 j6_2))],hp ([]),0⟩) ?_ (λJ=>X2.cut ?_)
  ·
   revert h;refine bI λw10 h12=>?_;intro h;obtain⟨X0bm,X0bl⟩:=w10;try dsimp only at h
   refine X0j [] ?_;refine X2.join (s':=⟨fr [(0,(aI .u64 X0bm)),(2,(aI .i64 X0bl))],hp ([]),0⟩) ?_ (λJ=>X2.cut ?_)
   ·
    revert h;exact bI λb13 h14=>λe=>oj e▸X6 [.wrap,.el (aI .u8 b13),.wrap,.wrap] (o:=by repeat' first|apply Ya|exact pcM|exact(X9f h14)|exact(X09a (tab:=Xja) rfl h14)|exact Xu) (k:=fi)
   clear h;revert h12;refine brI (λh11=>?_) λh11=>?_
   ·
    intro h;simp only[Option.some.injEq,Prod.mk.injEq] at h;obtain⟨rfl,rfl⟩:=h;exact X6 [Bt,.wrap] (k:=wkT [] (X2.glue J))
   intro h;simp only[Option.some.injEq,Prod.mk.injEq] at h;obtain⟨rfl,rfl⟩:=h;exact X6 [Bf] (k:=wkT [] (X2.glue J))
  clear h;revert h8;refine brI (λh7=>?_) λh7=>?_
  ·
   intro h;simp only[Option.some.injEq,Prod.mk.injEq] at h;obtain⟨rfl,rfl⟩:=h;exact X6 [Bt,.wrap] (k:=wkT [] (X2.glue J))
  intro h;simp only[Option.some.injEq,Prod.mk.injEq] at h;obtain⟨rfl,rfl⟩:=h;exact X6 [Bf] (k:=wkT [] (X2.glue J))
 clear h;revert h4;refine brI (λh3=>?_) λh3=>?_
 ·
  intro h;simp only[Option.some.injEq,Prod.mk.injEq] at h;obtain⟨rfl,rfl⟩:=h;exact X6 [Bt] (k:=wkT [] (X2.glue J))
 intro h;simp only[Option.some.injEq,Prod.mk.injEq] at h;obtain⟨rfl,rfl⟩:=h;exact X6 [Bf] (k:=wkT [] (X2.glue J))⟩
instance Xwp:PCs Tryz.prog 169 (∀ (a0:Int) (r:Int),Xa4 a0=some r->X0b Tryz.prog 169 [(aI .u64 a0)] (aI .i64 r)):=⟨λa0 r h=>by
 refine X0b.sym X3 X0cc (nt:=8) rfl rfl ?_ okM;unfold Xa4 at h;revert h;exact bI λv1 h2=>λe=>oj e▸X6 [Bf,.pure _ (aI .i64 v1)] (k:=fi)⟩
theorem X3z {Q:X03->St->Mu->Prop} {μ:Mu} (X0c:(List X1)) (Xh:X1) (y0_8:Int):∀ (n:Nat) (Xef:Int) (Xeh:Int) (o:X12) (h:X00 X0c Xh y0_8 n Xef Xeh=some o)
  (C0:∀ (X75:Int),o=X12.x0 X75->X2 Tryz.prog 49 0 Q (.exit (.exit 0)) [] ⟨fr [(0,(Lf (X0c.map X0))),(2,(AV.fn 116 [])),(4,(AV.ptr 0 0 0)),(8,(aI .i64 y0_8)),(9,(aI .i64 X75))],hp ([(0,Ob [(X0 Xh)] 11)]),1⟩ μ),
  X2 Tryz.prog 49 0 Q (.loop (X2o 0 (Xd Tryz.f125))) [] ⟨fr [(0,(Lf (X0c.map X0))),(2,(AV.fn 116 [])),(4,(AV.ptr 0 0 0)),(8,(aI .i64 y0_8)),(9,(aI .i64 Xef)),(10,(aI .i64 Xeh))],hp ([(0,Ob [(X0 Xh)] 11)]),1⟩ μ:=by
 intro n
 induction n with
 |zero=>intro Xef Xeh o h C0;cases h
 |succ n ih =>
  intro Xef Xeh o h C0;rw[X00] at h;refine X2.round ?_;revert h;refine brI (λh14=>?_) λh14=>λe=>X6 [Bf] (k:=wkT [] (C0 _  (oj e).symm));refine bI λe15 h16=>?_;try have qh16:=Xl h16
  refine bI λv17 h18=>brI (λh19=>?_) λh19=>?_
  ·
   refine rnI [Bt,.wrap,.wrap,.wrap,.el (X0 e15),.pure _ (aI .i64 v17),Bt,.wrap] ?_;intro h;exact wkT [] (ih  _ _ o h C0)
  refine rnI [Bt,.wrap,.wrap,.wrap,.el (X0 e15),.pure _ (aI .i64 v17),Bf] ?_;intro h;exact wkT [] (ih  _ _ o h C0)
theorem Xk (a0:(List X1)) (a1:X1) (r:Int×Bool) (h:Xw a0 a1=some r):X0b Tryz.prog 125 [(Lf (a0.map X0)),(X0 a1),(AV.fn 116 [])] (AV.tup [(aI .i64 r.1),(aB r.2)]):=by
 refine X0b.sym X3 X0d8 (nt:=49) rfl rfl ?_ okM;unfold Xw at h;revert h;refine bI λo20 h21=>rnI [.el (aI .i64 (a0.length:Int))] ?_;intro h;refine wkT [] (X2.cut (X3z a0 a1 (a0.length:Int) _ _ _ _ h21 ?_));intro X75 eo20;subst eo20;refine X2.glue ?_;try dsimp only at h
 revert h;refine bI λX07f h33=>rnI [.stop 8] ?_;intro h;refine X2.join (s':=⟨fr [(6,(aI .i64 X75)),(7,(aB X07f))],hp ([]),0⟩) ?_ (λJ=>X2.cut ?_)
 ·
  revert h;exact λe=>oj e▸X6 [] (k:=fi)
 clear h;revert h33;refine brI (λh28=>?_) λh28=>?_
 ·
  refine bI λe29 h30=>?_;try have qh30:=Xl h30
  refine bI λv31 h32=>?_;intro h;obtain rfl:=oj h;exact X6 [Gt,Gt,Gt,Gt,.el (X0 e29),Gt,Gt,Gt,.pure _ (aI .i64 v31),Gt] (k:=wkT [] (X2.glue J))
 intro h;obtain rfl:=oj h;exact X6 [Gf,Gf,Gf,Gf,Gf,Gf,Gf,Gf,Gf] (k:=wkT [] (X2.glue J))
instance X6i:PCs Tryz.prog 150 (∀ (a0:Xm) (a1:Xm) (r:Xm×Int),X34 a0 a1=some r->X0b Tryz.prog 150 [(Xv a0),(Xv a1)] (AV.tup [(Xv r.1),(aI .i64 r.2)])):=⟨λa0 a1 r h=>by
 refine X0b.sym X3 X0cp (nt:=53) rfl rfl ?_ okM;unfold X34 at h;revert h;refine bI λX06t h12=>rnI [.stop 1] ?_;intro h;refine X2.join (s':=⟨fr [(2,(AV.ptr 0 0 0)),(3,(AV.ptr 1 0 0)),(4,(AV.ptr 2 0 0)),(13,(aB X06t))],hp ([(0,Ob [(Xv a0)] 4),(1,Ob [(Xv a1)] 4),(2,Ob [(Xv (Xm.mk 0 0 0 0))] 4)]),3⟩) ?_ (λJ=>X2.cut ?_)
 ·
  revert h;exact brI (λh13=>λe=>oj e▸X6 [Bt] (k:=fi)) λh13=>brI (λh14=>λe=>oj e▸X6 [Bf,.wrap,Bt] (k:=fi)) λh14=>brI (λh15=>λe=>oj e▸X6 [Bf,.wrap,Bf,Bt] (k:=fi)) λh15=>brI (λh16=>λe=>oj e▸X6 [Bf,.wrap,Bf,Bf,Bt] (k:=fi)) λh16=>λe=>oj e▸X6 [Bf,.wrap,Bf,Bf,Bf,.wrap,.wrap] (k:=fi)
 clear h;revert h12;refine bI λv7 h8=>brI (λh9=>?_) λh9=>?_
 ·
  intro h;obtain rfl:=oj h;exact X6 [.pure _ (aI .i64 v7),Gf,Gf,Gf] (k:=wkT [] (X2.glue J))
 refine bI λv10 h11=>?_;intro h;obtain rfl:=oj h;exact X6 [.pure _ (aI .i64 v7),Gt,Gt,.pure _ (aI .i64 v10),Gt] (k:=wkT [] (X2.glue J))⟩
instance Xx2:PCs Tryz.prog 170 (∀ (a0:Int) (a1:Int) (r:Int),Xbz a0 a1=some r->X0b Tryz.prog 170 [(aI .i64 a0),(aI .i64 a1)] (aI .i64 r)):=⟨λa0 a1 r h=>by
 refine X0b.sym X3 X0cb (nt:=17) rfl rfl ?_ okM;unfold Xbz at h;revert h;exact brI (λh1=>λe=>oj e▸X6 [Bt] (k:=fi)) λh1=>brI (λh2=>λe=>oj e▸X6 [Bf,Bt] (k:=fi)) λh2=>λe=>oj e▸X6 [Bf,Bf] (k:=fi)⟩
instance Xwe:PCs Tryz.prog 151 (∀ (a0:Int) (a1:Int) (r:Int×Int),X7o a0 a1=some r->X0b Tryz.prog 151 [(aI .i64 a0),(aI .i64 a1)] (AV.tup [(aI .i64 r.1),(aI .i64 r.2)])):=⟨λa0 a1 r h=>by
 refine X0b.sym X3 X0co (nt:=24) rfl rfl ?_ okM;unfold X7o at h;revert h;refine bI λv1 h2=>brI (λh3=>λe=>oj e▸X6 [.pure _ (aI .i64 v1),Bt] (k:=fi)) λh3=>bI λu4 h5=>bI λj7_7 h9=>rnI [.pure _ (aI .i64 v1),Bf,.wrap] ?_;intro h;refine X2.join (s':=⟨fr [(7,(aI .i64 j7_7))],hp ([]),0⟩) ?_ (λJ=>X2.cut ?_)
 ·
  revert h;exact λe=>oj e▸X6 [] (k:=fi)
 clear h;revert h9;refine brI (λh8=>?_) λh8=>?_
 ·
  intro h;obtain rfl:=oj h;exact X6 [Bt,.wrap] (k:=wkT [] (X2.glue J))
 intro h;obtain rfl:=oj h;exact X6 [Bf] (k:=wkT [] (X2.glue J))⟩
instance Xej:PCs Tryz.prog 123 (∀ (a0:Int) (a1:Int) (r:Xy×Int),Xcs a0 a1=some r->X0b Tryz.prog 123 [(aI .i64 a0),(aI .i64 a1)] (AV.tup [(Xr r.1),(aI .i64 r.2)])):=⟨λa0 a1 r h=>by
 refine X0b.sym X3 X0da (nt:=26) rfl rfl ?_ okM;unfold Xcs at h;revert h;exact bI λv1 h2=>brI (λh3=>λe=>oj e▸X6 [.pure _ (AV.tup [(aI .i64 v1.1),(aI .i64 v1.2)]),Bt] (k:=fi)) λh3=>λe=>oj e▸X6 [.pure _ (AV.tup [(aI .i64 v1.1),(aI .i64 v1.2)]),Bf,.wrap,.wrap,.wrap] (k:=fi)⟩
theorem Xl5 {Q:X03->St->Mu->Prop} {μ:Mu} (X0c:Int) (Xa8:Int) (Xfv:Int):∀ (n:Nat) (Xh:(List Xy)) (Xbu:Int) (X0h:Nb Xh) (o:Xcf) (h:X5l X0c Xa8 Xfv n Xh Xbu=some o)
  (C0:∀ (Xq:(List Xy)) (X06:Nb Xq),o=Xcf.x0 Xq->X2 Tryz.prog 70 0 Q (.exit (.exit 0)) [] ⟨fr [(10,(slE X06.1 0 (Xq.map Xr)))],hp ([]++opE X06.1 0 2 (Xq.map Xr)),1⟩ μ),
  X2 Tryz.prog 70 0 Q (.loop (X2o 0 (Xd Tryz.f124))) [] ⟨fr [(0,(aI .i64 X0c)),(1,(aI .i64 Xa8)),(2,(aI .i64 Xfv)),(10,(slE X0h.1 0 (Xh.map Xr))),(11,(aI .i64 Xbu))],hp ([]++opE X0h.1 0 2 (Xh.map Xr)),1⟩ μ:=by
 intro n
 induction n with
 |zero=>intro Xh Xbu X0h o h C0;cases h
 |succ n ih =>
  intro Xh Xbu X0h o h C0;rw[X5l] at h;rcases X0h with ⟨_|_,X2s⟩
  ·
   refine X2.round ?_;revert h;refine brI (λh18=>?_) λh18=>λe=>X6 [.wrap,Bf] (k:=wkT [] (C0 _  nbF (oj e).symm));refine bI λu19 h20=>rnI [.wrap,Bt,.wrap,.no,.wrap] (o:=by repeat' first|apply Ya|exact pcM|(refine X0r h20 rfl ?_;first|(simp<;>omega)|(simp[h18]<;>omega))|(refine X08 h20 (by decide) ?_;first|(simp<;>omega)|(simp[h18]<;>omega))|exact Xu) ?_;intro h;exact wkT [(0,2)] (ih  _ _ nbF o h C0)
  obtain rfl:=X2s rfl;refine X2.round ?_;revert h;refine brI (λh21=>?_) λh21=>λe=>X6 [.wrap,Bf] (k:=wkT [] (C0 _  nbS (oj e).symm));refine bI λu22 h23=>rnI [.wrap,Bt,.wrap,.no,.wrap] (o:=by repeat' first|apply Ya|exact pcM|(refine X0r h23 rfl ?_;first|(simp<;>omega)|(simp[h21]<;>omega))|(refine X08 h23 (by decide) ?_;first|(simp<;>omega)|(simp[h21]<;>omega))|exact Xu) ?_;intro h;exact wkT [(0,2)] (ih  _ _ nbF o h C0)
theorem Xc2 {Q:X03->St->Mu->Prop}  {rb rD:Nat} {rr:Loop} (rh1:rr.state=.ready) (rh2:rr.pending=none) (rh3:rr.params=(rfB 0 (Xd Tryz.f124)).1) (rh4:rr.assign=(rfB 0 (Xd Tryz.f124)).2.1) (rh5:rr.body=(rfB 0 (Xd Tryz.f124)).2.2) (X1r:(List Xy)) (Xkl:Nb X1r):∀ (n:Nat) (X0l:(List Xy)) (X9a:Int) (X19:Nb X0l) (o:X8p) (h:X3e X1r n X0l X9a=some o)
  (C0:∀ (X4n:(List Xy)) (Xe9:(List Xy)) (X3b:Nb X4n) (Xam:Nb Xe9),o=X8p.x0 X4n Xe9->X2 Tryz.prog 19 3 Q (.exit (.exit 0)) [] ⟨fr [],hp ([(1,Ob [(slE X3b.1 3 (X4n.map Xr))] 1),(2,Ob [(slE Xam.1 4 (Xe9.map Xr))] 1)]++opE X3b.1 3 2 (X4n.map Xr)++opE Xam.1 4 2 (Xe9.map Xr)),5⟩ [(rb,MuE.loop rr 70 3 (fr [(12,(AV.ptr 1 0 0)),(62,(AV.fn 171 [(AV.ptr 2 0 0)]))])),(rD,MuE.blk (Go.Obj.deferred (some [])))]),
  X2 Tryz.prog 19 3 Q (.loop (X2o 0 (Xd Tryz.f171))) [] ⟨fr [(0,(AV.sc (.func (.yield rb) #[] #[]))),(1,(AV.ptr 2 0 0)),(3,(aI .i64 X9a))],hp ([(1,Ob [(slE X19.1 3 (X0l.map Xr))] 1),(2,Ob [(slE Xkl.1 4 (X1r.map Xr))] 1)]++opE X19.1 3 2 (X0l.map Xr)++opE Xkl.1 4 2 (X1r.map Xr)),5⟩ [(rb,MuE.loop rr 70 3 (fr [(12,(AV.ptr 1 0 0)),(62,(AV.fn 171 [(AV.ptr 2 0 0)]))])),(rD,MuE.blk (Go.Obj.deferred (some [])))]:=by
 intro n
 induction n with
 |zero=>intro X0l X9a X19 o h C0;cases h
 |succ n ih =>
  intro X0l X9a X19 o h C0;rw[X3e] at h;rcases X19 with ⟨_|_,X4y⟩
  ·
   rcases Xkl with ⟨_|_,Xov⟩
   ·
    refine X2.round ?_;revert h;refine brI (λh67=>?_) λh67=>λe=>X6 [Bf] (k:=wkT [] (C0 _ _  nbF nbF (oj e).symm));refine bI λe68 h69=>?_;try have qh69:=Xl h69
    refine rnI [Bt,.el (Xr e68),.ld (Xr e68)] ?_;intro h;refine X2.yield rfl rfl rfl rfl rfl trivial trivial (.head _) rh1 rh2 rh3 rh4 rh5 rfl rfl ?_;refine X0j [] ?_;refine X2.asg ?_;revert h;refine bI λu72 h73=>rnI [.no] (o:=by repeat' first|apply Ya|exact pcM|(refine X0r h73 rfl ?_;first|(simp<;>omega)|(simp[h67]<;>omega))|(refine X08 h73 (by decide) ?_;first|(simp<;>omega)|(simp[h67]<;>omega))|exact Xu) ?_;intro h;refine X2.rndEnd ?_;exact X6 [Bf,.wrap] (k:=wkT [(3,7)] (ih  _ _ nbF o h C0))
   obtain rfl:=Xov rfl;refine X2.round ?_;revert h;refine brI (λh74=>?_) λh74=>λe=>X6 [Bf] (k:=wkT [] (C0 _ _  nbF nbS (oj e).symm));refine bI λe75 h76=>?_;try have qh76:=Xl h76
   intro h
   first|exact absurd (h76) (by simp[X15];done)|(simp[X15,h74] at h;done)|exact absurd (h76) (by simp[X15,h74];done)
  obtain rfl:=X4y rfl;rcases Xkl with ⟨_|_,Xov⟩
  ·
   refine X2.round ?_;revert h;refine brI (λh77=>?_) λh77=>λe=>X6 [Bf] (k:=wkT [] (C0 _ _  nbS nbF (oj e).symm));refine bI λe78 h79=>?_;try have qh79:=Xl h79
   refine rnI [Bt,.el (Xr e78),.ld (Xr e78)] ?_;intro h;refine X2.yield rfl rfl rfl rfl rfl trivial trivial (.head _) rh1 rh2 rh3 rh4 rh5 rfl rfl ?_;refine X0j [] ?_;refine X2.asg ?_;revert h;refine bI λu82 h83=>rnI [.no] (o:=by repeat' first|apply Ya|exact pcM|(refine X0r h83 rfl ?_;first|(simp<;>omega)|(simp[h77]<;>omega))|(refine X08 h83 (by decide) ?_;first|(simp<;>omega)|(simp[h77]<;>omega))|exact Xu) ?_;intro h;refine X2.rndEnd ?_;exact X6 [Bf,.wrap] (k:=wkT [(3,7)] (ih  _ _ nbF o h C0))
  obtain rfl:=Xov rfl;refine X2.round ?_;revert h;refine brI (λh84=>?_) λh84=>λe=>X6 [Bf] (k:=wkT [] (C0 _ _  nbS nbS (oj e).symm));refine bI λe85 h86=>?_;try have qh86:=Xl h86
  intro h
  first|exact absurd (h86) (by simp[X15];done)|(simp[X15,h84] at h;done)|exact absurd (h86) (by simp[X15,h84];done)
instance X04w:PCs Tryz.prog 124 (∀ (a0:Int) (a1:Int) (a2:Int) (r:(List Xy)×Int),Xel a0 a1 a2=some r->X0b Tryz.prog 124 [(aI .i64 a0),(aI .i64 a1),(aI .i64 a2)] (AV.tup [(Lt (r.1.map Xr)),(aI .i64 r.2)])):=⟨λa0 a1 a2 r h=>by
 refine X0b.sym X3 X0d9 (nt:=70) rfl rfl ?_ okM;unfold Xel at h;revert h;refine brI (λh1=>λe=>oj e▸X6 [.wrap,Bt] (k:=fi)) λh1=>bI λv2 h3=>brI (λh4=>λe=>oj e▸X6 [.wrap,Bf,.pure _ (AV.tup [(Xr v2.1),(aI .i64 v2.2)]),Bt] (k:=fi)) λh4=>bI λo24 h25=>rnI [.wrap,Bf,.pure _ (AV.tup [(Xr v2.1),(aI .i64 v2.2)]),Bf] ?_;intro h;refine wkT [] (X2.cut (Xl5 a0 a1 a2 _ _ _ nbS _ h25 ?_));intro Xq X06 eo24;subst eo24;refine X2.glue ?_;try dsimp only at h
 rcases X06 with ⟨_|_,X29⟩
 ·
  refine X0j [] ?_;refine X2.inline X3 X0a2 rfl rfl rfl rfl rfl trivial trivial rfl rfl ?_;refine X0j [] ?_;refine X2.back (by intro id h;cases h) rfl ?_;refine X0j [] ?_;refine X2.keepL [12,62] ?_;refine X2.rangeFunc rfl trivial X0a0 rfl rfl rfl ?_;intro rb rD rr rh1 rh2 rh3 rh4 rh5;revert h;refine bI λo87 h88=>rnI [.el (aI .i64 (Xq.length:Int)),.wrap] ?_;intro h;refine wkT [(4,0)] (X2.cut (Xc2 rh1 rh2 rh3 rh4 rh5 Xq nbF _ _ _ nbS _ h88 ?_));intro X4n Xe9 X3b Xam eo87;subst eo87;refine X2.glue ?_;try dsimp only at h
  rcases X3b with ⟨_|_,X97⟩<;>(try obtain rfl:=X97 rfl);all_goals
   rcases Xam with ⟨_|_,Xis⟩<;>(try obtain rfl:=Xis rfl);all_goals
    refine X0j [] ?_;refine X2.rfEnd (by intro id h;cases h) ?_;revert h;exact λe=>oj e▸X6 [] (k:=fi)
 obtain rfl:=X29 rfl;refine X0j [] ?_;refine X2.inline X3 X0a2 rfl rfl rfl rfl rfl trivial trivial rfl rfl ?_;refine X0j [] ?_;refine X2.back (by intro id h;cases h) rfl ?_;refine X0j [] ?_;refine X2.keepL [12,62] ?_;refine X2.rangeFunc rfl trivial X0a0 rfl rfl rfl ?_;intro rb rD rr rh1 rh2 rh3 rh4 rh5;revert h;refine bI λo130 h131=>rnI [.el (aI .i64 (List.length ([]:List Xy):Int)),.wrap] ?_;intro h;refine wkT [] (X2.cut (Xc2 rh1 rh2 rh3 rh4 rh5 ([]:List Xy) nbS _ _ _ nbS _ h131 ?_));intro X4n Xe9 X3b Xam eo130;subst eo130;refine X2.glue ?_;try dsimp only at h
 rcases X3b with ⟨_|_,X97⟩<;>(try obtain rfl:=X97 rfl);all_goals
  rcases Xam with ⟨_|_,Xis⟩<;>(try obtain rfl:=Xis rfl);all_goals
   refine X0j [] ?_;refine X2.rfEnd (by intro id h;cases h) ?_;revert h;exact λe=>oj e▸X6 [] (k:=fi)⟩
instance Xl4:PCs Tryz.prog 83 (∀ (a0:X1z) (a1:Int) (r:(List Xy)×Int),Xgv a0 a1=some r->X0b Tryz.prog 83 [(X1y a0),(aI .i64 a1)] (AV.tup [(Lt (r.1.map Xr)),(aI .i64 r.2)])):=⟨λa0 a1 r h=>by
 refine X0b.sym X3 fn83 (nt:=40) rfl rfl ?_ okM;unfold Xgv at h;revert h;exact bI λv1 h2=>brI (λh3=>λe=>oj e▸X6 [.pure _ (aI .i64 v1),Bt] (k:=fi)) λh3=>brI (λh4=>bI λv5 h6=>brI (λh7=>λe=>oj e▸X6 [.pure _ (aI .i64 v1),Bf,Bt,.pure _ (AV.tup [(Xr v5.1),(aI .i64 v5.2)]),Bt] (k:=fi)) λh7=>λe=>oj e▸X6 [.pure _ (aI .i64 v1),Bf,Bt,.pure _ (AV.tup [(Xr v5.1),(aI .i64 v5.2)]),Bf] (k:=fi)) λh4=>brI (λh8=>bI λv9 h10=>λe=>oj e▸X6 [.pure _ (aI .i64 v1),Bf,Bf,Bt,.pure _ (AV.tup [(Lt (v9.1.map Xr)),(aI .i64 v9.2)])] (k:=fi)) λh8=>λe=>oj e▸X6 [.pure _ (aI .i64 v1),Bf,Bf,Bf] (k:=fi)⟩
end Go.Av.Tryz