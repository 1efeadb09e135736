/- Printed by decomp.py: that the program computes the functions. -/
import Derived.Test.YtkjlgmgfhgamlaaGreatDCert5Z
set_option linter.all false

namespace Go.Av.Tryz
open Go.Proofs Go.D
set_option maxRecDepth 10000
set_option maxHeartbeats 40000000
theorem Xjm {Q:X04->St->Mu->Prop} {μ:Mu} (X8h:Xk) (Xed:(List Xc)) (hl:Xed.length<=140737488355328):∀ (xs:List Xc) (k:Nat) (hx:Xed.drop k=xs) (Xmd:Bool) (o:Xar) (h:X3o X8h Xed xs k Xmd=some o)
  (C0:∀ (Xhn:Bool),o=Xar.x0 Xhn->X2 Tryz.prog 202 0 Q (.exit (.exit 6)) [] ⟨fr [(1,(AV.ptr 0 0 0)),(11,(aB Xhn))],hp ([(0,Ob [(Xa false X8h)] 9)]),1⟩ μ),
  X2 Tryz.prog 202 0 Q (.loop (X2p 3 (Xd Tryz.f61))) [] ⟨fr [(1,(AV.ptr 0 0 0)),(11,(aB Xmd)),(164,(Lf (Xed.map X5))),(165,(aI .i64 (Xed.length:Int))),(166,(aI .i64 (k:Int)))],hp ([(0,Ob [(Xa false X8h)] 9)]),1⟩ μ:=by
 intro xs
 induction xs with
 |nil =>
  intro k hx Xmd o h C0;have hk:=X1f hx;have hc:decide ((k:Int)<(Xed.length:Int))=false:=Yf om;rw[X3o] at h;refine X2.round ?_;revert h;exact λe=>X6 [Bf] (k:=wkT [] (C0 _  (oj e).symm))
 |cons x xs ih =>
  intro k hx Xmd o h C0;obtain⟨hk,hg,hx1⟩:=X0u hx;have hc:decide ((k:Int)<(Xed.length:Int))=true:=Yt om;rw[X3o] at h;refine X2.round ?_;revert h;refine bI λXsb h163=>rnI [Bt,.el (X5 x),.stop 25] ?_;intro h;refine X2.join (s':=⟨fr [(1,(AV.ptr 0 0 0)),(11,(aB Xsb)),(164,(Lf (Xed.map X5))),(165,(aI .i64 (Xed.length:Int))),(166,(aI .i64 (k:Int)))],hp ([(0,Ob [(Xa false X8h)] 9)]),1⟩) ?_ (λJ=>X2.cut ?_)
  ·
   exact X6 [] (k:=wkT [] (ih (k+1) hx1 _ o h C0))
  clear h;revert h163;refine brI (λh160=>?_) λh160=>?_
  ·
   refine bI λv161 h162=>?_;intro h;obtain rfl:=oj h;exact X6 [Gt,Gt,Gt,.pure _ (aI .i64 v161),Gt] (k:=wkT [] (X2.glue J))
  intro h;obtain rfl:=oj h;exact X6 [Gf,Gf,Gf,Gf] (k:=wkT [] (X2.glue J))
theorem Xjl {Q:X04->St->Mu->Prop} {μ:Mu} (Xe4:Xk) (Xec:(List X1)) (hl:Xec.length<=140737488355328):∀ (xs:List X1) (k:Nat) (hx:Xec.drop k=xs) (Xkn:Bool) (o:Xaq) (h:X3n Xe4 Xec xs k Xkn=some o)
  (C0:∀ (Xhm:Bool),o=Xaq.x0 Xhm->X2 Tryz.prog 202 0 Q (.exit (.exit 8)) [] ⟨fr [(11,(aB Xhm))],hp ([]),0⟩ μ),
  X2 Tryz.prog 202 0 Q (.loop (X2p 4 (Xd Tryz.f61))) [] ⟨fr [(1,(AV.ptr 0 0 0)),(11,(aB Xkn)),(179,(Lf (Xec.map X0))),(180,(aI .i64 (Xec.length:Int))),(181,(aI .i64 (k:Int)))],hp ([(0,Ob [(Xa false Xe4)] 9)]),1⟩ μ:=by
 intro xs
 induction xs with
 |nil =>
  intro k hx Xkn o h C0;have hk:=X1f hx;have hc:decide ((k:Int)<(Xec.length:Int))=false:=Yf om;rw[X3n] at h;refine X2.round ?_;revert h;exact λe=>X6 [Bf] (k:=wkT [] (C0 _  (oj e).symm))
 |cons x xs ih =>
  intro k hx Xkn o h C0;obtain⟨hk,hg,hx1⟩:=X0u hx;have hc:decide ((k:Int)<(Xec.length:Int))=true:=Yt om;rw[X3n] at h;refine X2.round ?_;revert h;refine bI λXsa h186=>rnI [Bt,.el (X0 x),.stop 30] ?_;intro h;refine X2.join (s':=⟨fr [(1,(AV.ptr 0 0 0)),(11,(aB Xsa)),(179,(Lf (Xec.map X0))),(180,(aI .i64 (Xec.length:Int))),(181,(aI .i64 (k:Int)))],hp ([(0,Ob [(Xa false Xe4)] 9)]),1⟩) ?_ (λJ=>X2.cut ?_)
  ·
   exact X6 [] (k:=wkT [] (ih (k+1) hx1 _ o h C0))
  clear h;revert h186;refine brI (λh184=>?_) λh184=>?_
  ·
   refine brI (λh185=>?_) λh185=>?_
   ·
    intro h;obtain rfl:=oj h;exact X6 [Gt,Gt,Gt,Gt,Gt,Gf,Gf,Gf,Gf,Gf,Gt] (k:=wkT [] (X2.glue J))
   intro h;obtain rfl:=oj h;exact X6 [Gt,Gt,Gt,Gt,Gt,Gt,Gt,.ix 1,Gt,Gt,Gt,Gt] (k:=wkT [] (X2.glue J))
  intro h;obtain rfl:=oj h;exact X6 [Gf,Gf,Gf,Gf,Gf,Gf,Gf,Gf,Gf,Gf,Gf] (k:=wkT [] (X2.glue J))
instance X026:PCs Tryz.prog 61 (∀ (a0:Xk) (r:Int),Xa8 a0=some r->X0a Tryz.prog 61 [(Xa false a0)] (aI .i64 r)):=⟨λa0 r h=>by
 refine X0a.sym X3 fn61 (nt:=202) rfl rfl ?_ okM;unfold Xa8 at h;revert h;refine bI λv1 h2=>bI λXnp h32=>rnI [.pure _ (AV.tup [(aI .i64 v1.1),(aI .i64 v1.2.1),(aB v1.2.2.1),(aB v1.2.2.2.1),(aB v1.2.2.2.2.1),(aB v1.2.2.2.2.2)]),.stop 3] ?_;intro h;refine X2.join (s':=⟨fr [(1,(AV.ptr 0 0 0)),(9,(aB (bif (bif (bif (decide (a0.Turn >= (0:Int))) then (decide (a0.Turn<(20:Int))) else false) then (decide (a0.Op.N >= (0:Int))) else false) then (decide (a0.Op.N<(4:Int))) else false))),(10,(aB Xnp))],hp ([(0,Ob [(Xa false a0)] 9)]),1⟩) ?_ (λJ=>X2.cut ?_)
 ·
  revert h;refine bI λXs2 h48=>rnI [.stop 4] ?_;intro h;refine X2.join (s':=⟨fr [(1,(AV.ptr 0 0 0)),(120,(aB Xs2))],hp ([(0,Ob [(Xa false a0)] 9)]),1⟩) ?_ (λJ=>X2.cut ?_)
  ·
   revert h;refine brI (λh49=>λe=>oj e▸X6 [Bt] (k:=fi)) λh49=>bI λu50 h51=>?_;have qh51:=X0v h51;refine bI λo77 h78=>rnI [Bf,.el (aI .i64 (a0.Marks.length:Int))] ?_;intro h;refine wkT [] (X2.cut (Xjp a0 a0.Marks qh51 a0.Marks 0 (by simp) _ _ h78 ?_));intro Xhq eo77;subst eo77;refine X2.glue ?_;try dsimp only at h
   revert h;refine bI λu79 h80=>?_;have qh80:=X0v h80;refine bI λo106 h107=>rnI [.el (aI .i64 (a0.Events.length:Int))] ?_;intro h;refine wkT [] (X2.cut (Xjo a0 a0.Events qh80 a0.Events 0 (by simp) _ _ h107 ?_));intro Xhp eo106;subst eo106;refine X2.glue ?_;try dsimp only at h
   revert h;refine bI λu108 h109=>?_;have qh109:=X0v h109;refine bI λo135 h136=>rnI [.el (aI .i64 (a0.Rows.length:Int))] ?_;intro h;refine wkT [] (X2.cut (Xjn a0 a0.Rows qh109 a0.Rows 0 (by simp) _ _ h136 ?_));intro Xho eo135;subst eo135;refine X2.glue ?_;try dsimp only at h
   revert h;refine bI λu137 h138=>?_;have qh138:=X0v h138;refine bI λo164 h165=>rnI [.el (aI .i64 (a0.Late.length:Int))] ?_;intro h;refine wkT [] (X2.cut (Xjm a0 a0.Late qh138 a0.Late 0 (by simp) _ _ h165 ?_));intro Xhn eo164;subst eo164;refine X2.glue ?_;try dsimp only at h
   revert h;refine bI λu166 h167=>?_;have qh167:=X0v h167;refine bI λo187 h188=>rnI [.el (aI .i64 (a0.Store.length:Int))] ?_;intro h;refine wkT [] (X2.cut (Xjl a0 a0.Store qh167 a0.Store 0 (by simp) _ _ h188 ?_));intro Xhm eo187;subst eo187;refine X2.glue ?_;try dsimp only at h
   revert h;exact brI (λh189=>λe=>oj e▸X6 [Bt] (k:=fi)) λh189=>λe=>oj e▸X6 [Bf] (k:=fi)
  clear h;revert h48;refine brI (λh41=>?_) λh41=>?_
  ·
   intro h;obtain rfl:=oj h;exact X6 [Gf,Gf,Gf,Gf,Gf,Gf,Gf,Gf,Gf,Gf] (o:=by repeat' first|apply Ya|exact pcM|exact fq (X8 h41 rfl)|exact fq (X8 (X8 h41 rfl) rfl)|exact Xv) (k:=wkT [] (X2.glue J))
  refine brI (λh42=>?_) λh42=>?_
  ·
   intro h;obtain rfl:=oj h;exact X6 [Gt,Gt,Gf,Gf,Gf,Gf,Gf,Gf,Gf,Gf] (o:=by repeat' first|apply Ya|exact pcM|exact fq (Xb h41 h42)|exact fq (X8 (Xb h41 h42) rfl)|exact Xv) (k:=wkT [] (X2.glue J))
  refine bI λv43 h44=>brI (λh45=>?_) λh45=>?_
  ·
   intro h;obtain rfl:=oj h;exact X6 [Gt,Gt,Gt,Gt,Gt,.pure _ (aB v43),Gt,Gf,Gf,Gf,Gf] (o:=by repeat' first|apply Ya|exact pcM|exact fq (Xb h41 h42)|exact fq (Xb (Xb h41 h42) h45)|exact Xv) (k:=wkT [] (X2.glue J))
  refine bI λv46 h47=>?_;intro h;obtain rfl:=oj h;exact X6 [Gt,Gt,Gt,Gt,Gt,.pure _ (aB v43),Gt,Gt,Gt,Gt,.pure _ (aI .i64 v46),Gt] (o:=by repeat' first|apply Ya|exact pcM|exact fq (Xb h41 h42)|exact fq (Xb (Xb h41 h42) h45)|exact Xv) (k:=wkT [] (X2.glue J))
 clear h;revert h32;refine brI (λh18=>?_) λh18=>?_
 ·
  refine brI (λh19=>?_) λh19=>?_
  ·
   refine brI (λh20=>?_) λh20=>?_
   ·
    refine bI λv21 h22=>brI (λh23=>?_) λh23=>?_
    ·
     refine bI λv24 h25=>brI (λh26=>?_) λh26=>?_
     ·
      refine bI λv27 h28=>brI (λh29=>?_) λh29=>?_
      ·
       refine bI λv30 h31=>?_;intro h;obtain rfl:=oj h;exact X6 [X2d.el (aI .i64 (a0.Pending.length:Int)),Gt,Gt,Gt,X2d.el (aI .i64 (a0.Marks.length:Int)),Gt,Gt,Gt,Gt,Gt,X2d.el (aI .i64 (a0.Marks.length:Int)),Gt,Gt,Gt,Gt,Gt,X2d.el (aI .i64 (a0.Store.length:Int)),Gt,Gt,X2d.pure _ (aI .i64 v21),Gt,Gt,Gt,Gt,X2d.el (aI .i64 (a0.Events.length:Int)),Gt,Gt,X2d.pure _ (aI .i64 v24),Gt,Gt,Gt,Gt,X2d.el (aI .i64 (a0.Rows.length:Int)),Gt,Gt,X2d.pure _ (aI .i64 v27),Gt,Gt,Gt,Gt,X2d.el (aI .i64 (a0.Late.length:Int)),Gt,Gt,X2d.pure _ (aI .i64 v30),Gt] (o:=by repeat' first|apply Ya|exact pcM|exact fq (X8 h18 h19)|exact fq (X8 (X8 h18 h19) h20)|exact fq (X8 (X8 (X8 h18 h19) h20) h23)|exact fq (X8 (X8 (X8 (X8 h18 h19) h20) h23) h26)|exact fq (X8 (X8 (X8 (X8 (X8 h18 h19) h20) h23) h26) h29)|exact Xv) (k:=wkT [] (X2.glue J))
      intro h;obtain rfl:=oj h;exact X6 [X2d.el (aI .i64 (a0.Pending.length:Int)),Gt,Gt,Gt,X2d.el (aI .i64 (a0.Marks.length:Int)),Gt,Gt,Gt,Gt,Gt,X2d.el (aI .i64 (a0.Marks.length:Int)),Gt,Gt,Gt,Gt,Gt,X2d.el (aI .i64 (a0.Store.length:Int)),Gt,Gt,X2d.pure _ (aI .i64 v21),Gt,Gt,Gt,Gt,X2d.el (aI .i64 (a0.Events.length:Int)),Gt,Gt,X2d.pure _ (aI .i64 v24),Gt,Gt,Gt,Gt,X2d.el (aI .i64 (a0.Rows.length:Int)),Gt,Gt,X2d.pure _ (aI .i64 v27),Gt,Gf,Gf,Gf,Gf,Gf,Gf,Gf] (o:=by repeat' first|apply Ya|exact pcM|exact fq (X8 h18 h19)|exact fq (X8 (X8 h18 h19) h20)|exact fq (X8 (X8 (X8 h18 h19) h20) h23)|exact fq (X8 (X8 (X8 (X8 h18 h19) h20) h23) h26)|exact fq (X8 (X8 (X8 (X8 (X8 h18 h19) h20) h23) h26) h29)|exact Xv) (k:=wkT [] (X2.glue J))
     intro h;obtain rfl:=oj h;exact X6 [X2d.el (aI .i64 (a0.Pending.length:Int)),Gt,Gt,Gt,X2d.el (aI .i64 (a0.Marks.length:Int)),Gt,Gt,Gt,Gt,Gt,X2d.el (aI .i64 (a0.Marks.length:Int)),Gt,Gt,Gt,Gt,Gt,X2d.el (aI .i64 (a0.Store.length:Int)),Gt,Gt,X2d.pure _ (aI .i64 v21),Gt,Gt,Gt,Gt,X2d.el (aI .i64 (a0.Events.length:Int)),Gt,Gt,X2d.pure _ (aI .i64 v24),Gt,Gf,Gf,Gf,Gf,Gf,Gf,Gf,Gf,Gf,Gf,Gf,Gf,Gf,Gf] (o:=by repeat' first|apply Ya|exact pcM|exact fq (X8 h18 h19)|exact fq (X8 (X8 h18 h19) h20)|exact fq (X8 (X8 (X8 h18 h19) h20) h23)|exact fq (X8 (X8 (X8 (X8 h18 h19) h20) h23) h26)|exact Xv) (k:=wkT [] (X2.glue J))
    intro h;obtain rfl:=oj h;exact X6 [X2d.el (aI .i64 (a0.Pending.length:Int)),Gt,Gt,Gt,X2d.el (aI .i64 (a0.Marks.length:Int)),Gt,Gt,Gt,Gt,Gt,X2d.el (aI .i64 (a0.Marks.length:Int)),Gt,Gt,Gt,Gt,Gt,X2d.el (aI .i64 (a0.Store.length:Int)),Gt,Gt,X2d.pure _ (aI .i64 v21),Gt,Gf,Gf,Gf,Gf,Gf,Gf,Gf,Gf,Gf,Gf,Gf,Gf,Gf,Gf,Gf,Gf,Gf,Gf,Gf,Gf,Gf] (o:=by repeat' first|apply Ya|exact pcM|exact fq (X8 h18 h19)|exact fq (X8 (X8 h18 h19) h20)|exact fq (X8 (X8 (X8 h18 h19) h20) h23)|exact Xv) (k:=wkT [] (X2.glue J))
   intro h;obtain rfl:=oj h;exact X6 [X2d.el (aI .i64 (a0.Pending.length:Int)),Gt,Gt,Gt,X2d.el (aI .i64 (a0.Marks.length:Int)),Gt,Gt,Gt,Gt,Gt,X2d.el (aI .i64 (a0.Marks.length:Int)),Gt,Gt,Gf,Gf,Gf,Gf,Gf,Gf,Gf,Gf,Gf,Gf,Gf,Gf,Gf,Gf,Gf,Gf,Gf,Gf,Gf,Gf,Gf,Gf,Gf,Gf,Gf,Gf,Gf,Gf] (o:=by repeat' first|apply Ya|exact pcM|exact fq (X8 h18 h19)|exact fq (X8 (X8 h18 h19) h20)|exact Xv) (k:=wkT [] (X2.glue J))
  intro h;obtain rfl:=oj h;exact X6 [X2d.el (aI .i64 (a0.Pending.length:Int)),Gt,Gt,Gt,X2d.el (aI .i64 (a0.Marks.length:Int)),Gt,Gt,Gf,Gf,Gf,Gf,Gf,Gf,Gf,Gf,Gf,Gf,Gf,Gf,Gf,Gf,Gf,Gf,Gf,Gf,Gf,Gf,Gf,Gf,Gf,Gf,Gf,Gf,Gf,Gf,Gf,Gf,Gf,Gf,Gf,Gf] (o:=by repeat' first|apply Ya|exact pcM|exact fq (X8 h18 h19)|exact Xv) (k:=wkT [] (X2.glue J))
 intro h;obtain rfl:=oj h;exact X6 [X2d.el (aI .i64 (a0.Pending.length:Int)),Gf,Gf,Gf,Gf,Gf,Gf,Gf,Gf,Gf,Gf,Gf,Gf,Gf,Gf,Gf,Gf,Gf,Gf,Gf,Gf,Gf,Gf,Gf,Gf,Gf,Gf,Gf,Gf,Gf,Gf,Gf,Gf,Gf,Gf,Gf,Gf,Gf,Gf,Gf,Gf] (k:=wkT [] (X2.glue J))⟩
instance X055:PCs Tryz.prog 79 (∀ (a0:Int) (r:Xn),Xf7 a0=some r->X0a Tryz.prog 79 [(aI .i64 a0)] (Xw r)):=⟨λa0 r h=>by
 refine X0a.sym X3 fn79 (nt:=7) rfl rfl ?_ okM;unfold Xf7 at h;revert h;exact λe=>oj e▸X6 [] (k:=fi)⟩
instance Xwb:PCs Tryz.prog 117 (∀ (a0:Int) (a1:Int) (r:Int),X3t a0 a1=some r->X0a Tryz.prog 117 [(aI .i64 a0),(aI .i64 a1)] (aI .i64 r)):=⟨λa0 a1 r h=>by
 refine X0a.sym X3 X0d4 (nt:=17) rfl rfl ?_ okM;unfold X3t at h;revert h;exact brI (λh1=>λe=>oj e▸X6 [Bt] (k:=fi)) λh1=>brI (λh2=>λe=>oj e▸X6 [Bf,Bt] (k:=fi)) λh2=>λe=>oj e▸X6 [Bf,Bf] (k:=fi)⟩
instance Xu1:PCs Tryz.prog 194 (∀ (a0:Int) (r:Int),Xbg a0=some r->X0a Tryz.prog 194 [(aI .u64 a0)] (aI .i64 r)):=⟨λa0 r h=>by
 refine X0a.sym X3 X0bp (nt:=25) rfl rfl ?_ okM;unfold Xbg at h;revert h;refine bI λw2 h4=>?_;intro h;obtain⟨j2_0,j2_2⟩:=w2;try dsimp only at h
 refine X0g [] ?_;refine X2.join (s':=⟨fr [(0,(aI .u64 j2_0)),(2,(aI .i64 j2_2))],hp ([]),0⟩) ?_ (λJ=>X2.cut ?_)
 ·
  revert h;refine bI λw6 h8=>?_;intro h;obtain⟨j6_0,j6_2⟩:=w6;try dsimp only at h
  refine X0g [] ?_;refine X2.join (s':=⟨fr [(0,(aI .u64 j6_0)),(2,(aI .i64 j6_2))],hp ([]),0⟩) ?_ (λJ=>X2.cut ?_)
  ·
   revert h;refine bI λw10 h12=>?_;intro h;obtain⟨X0bd,X0bc⟩:=w10;try dsimp only at h
   refine X0g [] ?_;refine X2.join (s':=⟨fr [(0,(aI .u64 X0bd)),(2,(aI .i64 X0bc))],hp ([]),0⟩) ?_ (λJ=>X2.cut ?_)
   ·
    revert h;exact bI λb13 h14=>λe=>oj e▸X6 [.wrap,.el (aI .u8 b13),.wrap,.wrap] (o:=by repeat' first|apply Ya|exact pcM|exact(X9d h14)|exact(X092 (tab:=Xj3) rfl h14)|exact Xv) (k:=fi)
   clear h;revert h12;refine brI (λh11=>?_) λh11=>?_
   ·
    intro h;simp only[Option.some.injEq,Prod.mk.injEq] at h;obtain⟨rfl,rfl⟩:=h;exact X6 [Bt,.wrap] (k:=wkT [] (X2.glue J))
   intro h;simp only[Option.some.injEq,Prod.mk.injEq] at h;obtain⟨rfl,rfl⟩:=h;exact X6 [Bf] (k:=wkT [] (X2.glue J))
  clear h;revert h8;refine brI (λh7=>?_) λh7=>?_
  ·
   intro h;simp only[Option.some.injEq,Prod.mk.injEq] at h;obtain⟨rfl,rfl⟩:=h;exact X6 [Bt,.wrap] (k:=wkT [] (X2.glue J))
  intro h;simp only[Option.some.injEq,Prod.mk.injEq] at h;obtain⟨rfl,rfl⟩:=h;exact X6 [Bf] (k:=wkT [] (X2.glue J))
 clear h;revert h4;refine brI (λh3=>?_) λh3=>?_
 ·
  intro h;simp only[Option.some.injEq,Prod.mk.injEq] at h;obtain⟨rfl,rfl⟩:=h;exact X6 [Bt] (k:=wkT [] (X2.glue J))
 intro h;simp only[Option.some.injEq,Prod.mk.injEq] at h;obtain⟨rfl,rfl⟩:=h;exact X6 [Bf] (k:=wkT [] (X2.glue J))⟩
instance Xwl:PCs Tryz.prog 169 (∀ (a0:Int) (r:Int),Xa2 a0=some r->X0a Tryz.prog 169 [(aI .u64 a0)] (aI .i64 r)):=⟨λa0 r h=>by
 refine X0a.sym X3 X0c3 (nt:=8) rfl rfl ?_ okM;unfold Xa2 at h;revert h;exact bI λv1 h2=>λe=>oj e▸X6 [Bf,.pure _ (aI .i64 v1)] (k:=fi)⟩
theorem X3z {Q:X04->St->Mu->Prop} {μ:Mu} (X0c:(List X1)) (Xh:X1) (y0_8:Int):∀ (n:Nat) (Xeg:Int) (Xei:Int) (o:X13) (h:X01 X0c Xh y0_8 n Xeg Xei=some o)
  (C0:∀ (X70:Int),o=X13.x0 X70->X2 Tryz.prog 49 0 Q (.exit (.exit 0)) [] ⟨fr [(0,(Lf (X0c.map X0))),(2,(AV.fn 116 [])),(4,(AV.ptr 0 0 0)),(8,(aI .i64 y0_8)),(9,(aI .i64 X70))],hp ([(0,Ob [(X0 Xh)] 11)]),1⟩ μ),
  X2 Tryz.prog 49 0 Q (.loop (X2p 0 (Xd Tryz.f125))) [] ⟨fr [(0,(Lf (X0c.map X0))),(2,(AV.fn 116 [])),(4,(AV.ptr 0 0 0)),(8,(aI .i64 y0_8)),(9,(aI .i64 Xeg)),(10,(aI .i64 Xei))],hp ([(0,Ob [(X0 Xh)] 11)]),1⟩ μ:=by
 intro n
 induction n with
 |zero=>intro Xeg Xei o h C0;cases h
 |succ n ih =>
  intro Xeg Xei o h C0;rw[X01] at h;refine X2.round ?_;revert h;refine brI (λh14=>?_) λh14=>λe=>X6 [Bf] (k:=wkT [] (C0 _  (oj e).symm));refine bI λe15 h16=>?_;try have qh16:=Xm h16
  refine bI λv17 h18=>brI (λh19=>?_) λh19=>?_
  ·
   refine rnI [Bt,.wrap,.wrap,.wrap,.el (X0 e15),.pure _ (aI .i64 v17),Bt,.wrap] ?_;intro h;exact wkT [] (ih  _ _ o h C0)
  refine rnI [Bt,.wrap,.wrap,.wrap,.el (X0 e15),.pure _ (aI .i64 v17),Bf] ?_;intro h;exact wkT [] (ih  _ _ o h C0)
theorem Xl (a0:(List X1)) (a1:X1) (r:Int×Bool) (h:Xx a0 a1=some r):X0a Tryz.prog 125 [(Lf (a0.map X0)),(X0 a1),(AV.fn 116 [])] (AV.tup [(aI .i64 r.1),(aB r.2)]):=by
 refine X0a.sym X3 X0cz (nt:=49) rfl rfl ?_ okM;unfold Xx at h;revert h;refine bI λo20 h21=>rnI [.el (aI .i64 (a0.length:Int))] ?_;intro h;refine wkT [] (X2.cut (X3z a0 a1 (a0.length:Int) _ _ _ _ h21 ?_));intro X70 eo20;subst eo20;refine X2.glue ?_;try dsimp only at h
 revert h;refine bI λX072 h33=>rnI [.stop 8] ?_;intro h;refine X2.join (s':=⟨fr [(6,(aI .i64 X70)),(7,(aB X072))],hp ([]),0⟩) ?_ (λJ=>X2.cut ?_)
 ·
  revert h;exact λe=>oj e▸X6 [] (k:=fi)
 clear h;revert h33;refine brI (λh28=>?_) λh28=>?_
 ·
  refine bI λe29 h30=>?_;try have qh30:=Xm h30
  refine bI λv31 h32=>?_;intro h;obtain rfl:=oj h;exact X6 [Gt,Gt,Gt,Gt,.el (X0 e29),Gt,Gt,Gt,.pure _ (aI .i64 v31),Gt] (k:=wkT [] (X2.glue J))
 intro h;obtain rfl:=oj h;exact X6 [Gf,Gf,Gf,Gf,Gf,Gf,Gf,Gf,Gf] (k:=wkT [] (X2.glue J))
instance X6e:PCs Tryz.prog 150 (∀ (a0:Xn) (a1:Xn) (r:Xn×Int),X35 a0 a1=some r->X0a Tryz.prog 150 [(Xw a0),(Xw a1)] (AV.tup [(Xw r.1),(aI .i64 r.2)])):=⟨λa0 a1 r h=>by
 refine X0a.sym X3 X0cg (nt:=53) rfl rfl ?_ okM;unfold X35 at h;revert h;refine bI λX06h h12=>rnI [.stop 1] ?_;intro h;refine X2.join (s':=⟨fr [(2,(AV.ptr 0 0 0)),(3,(AV.ptr 1 0 0)),(4,(AV.ptr 2 0 0)),(13,(aB X06h))],hp ([(0,Ob [(Xw a0)] 4),(1,Ob [(Xw a1)] 4),(2,Ob [(Xw (Xn.mk 0 0 0 0))] 4)]),3⟩) ?_ (λJ=>X2.cut ?_)
 ·
  revert h;exact brI (λh13=>λe=>oj e▸X6 [Bt] (k:=fi)) λh13=>brI (λh14=>λe=>oj e▸X6 [Bf,.wrap,Bt] (k:=fi)) λh14=>brI (λh15=>λe=>oj e▸X6 [Bf,.wrap,Bf,Bt] (k:=fi)) λh15=>brI (λh16=>λe=>oj e▸X6 [Bf,.wrap,Bf,Bf,Bt] (k:=fi)) λh16=>λe=>oj e▸X6 [Bf,.wrap,Bf,Bf,Bf,.wrap,.wrap] (k:=fi)
 clear h;revert h12;refine bI λv7 h8=>brI (λh9=>?_) λh9=>?_
 ·
  intro h;obtain rfl:=oj h;exact X6 [.pure _ (aI .i64 v7),Gf,Gf,Gf] (k:=wkT [] (X2.glue J))
 refine bI λv10 h11=>?_;intro h;obtain rfl:=oj h;exact X6 [.pure _ (aI .i64 v7),Gt,Gt,.pure _ (aI .i64 v10),Gt] (k:=wkT [] (X2.glue J))⟩
instance Xwx:PCs Tryz.prog 170 (∀ (a0:Int) (a1:Int) (r:Int),Xbx a0 a1=some r->X0a Tryz.prog 170 [(aI .i64 a0),(aI .i64 a1)] (aI .i64 r)):=⟨λa0 a1 r h=>by
 refine X0a.sym X3 X0c2 (nt:=17) rfl rfl ?_ okM;unfold Xbx at h;revert h;exact brI (λh1=>λe=>oj e▸X6 [Bt] (k:=fi)) λh1=>brI (λh2=>λe=>oj e▸X6 [Bf,Bt] (k:=fi)) λh2=>λe=>oj e▸X6 [Bf,Bf] (k:=fi)⟩
instance Xwa:PCs Tryz.prog 151 (∀ (a0:Int) (a1:Int) (r:Int×Int),X7k a0 a1=some r->X0a Tryz.prog 151 [(aI .i64 a0),(aI .i64 a1)] (AV.tup [(aI .i64 r.1),(aI .i64 r.2)])):=⟨λa0 a1 r h=>by
 refine X0a.sym X3 X0cf (nt:=24) rfl rfl ?_ okM;unfold X7k at h;revert h;refine bI λv1 h2=>brI (λh3=>λe=>oj e▸X6 [.pure _ (aI .i64 v1),Bt] (k:=fi)) λh3=>bI λu4 h5=>bI λj7_7 h9=>rnI [.pure _ (aI .i64 v1),Bf,.wrap] ?_;intro h;refine X2.join (s':=⟨fr [(7,(aI .i64 j7_7))],hp ([]),0⟩) ?_ (λJ=>X2.cut ?_)
 ·
  revert h;exact λe=>oj e▸X6 [] (k:=fi)
 clear h;revert h9;refine brI (λh8=>?_) λh8=>?_
 ·
  intro h;obtain rfl:=oj h;exact X6 [Bt,.wrap] (k:=wkT [] (X2.glue J))
 intro h;obtain rfl:=oj h;exact X6 [Bf] (k:=wkT [] (X2.glue J))⟩
instance Xek:PCs Tryz.prog 123 (∀ (a0:Int) (a1:Int) (r:Xz×Int),Xcq a0 a1=some r->X0a Tryz.prog 123 [(aI .i64 a0),(aI .i64 a1)] (AV.tup [(Xr r.1),(aI .i64 r.2)])):=⟨λa0 a1 r h=>by
 refine X0a.sym X3 X0d1 (nt:=26) rfl rfl ?_ okM;unfold Xcq at h;revert h;exact bI λv1 h2=>brI (λh3=>λe=>oj e▸X6 [.pure _ (AV.tup [(aI .i64 v1.1),(aI .i64 v1.2)]),Bt] (k:=fi)) λh3=>λe=>oj e▸X6 [.pure _ (AV.tup [(aI .i64 v1.1),(aI .i64 v1.2)]),Bf,.wrap,.wrap,.wrap] (k:=fi)⟩
theorem Xl6 {Q:X04->St->Mu->Prop} {μ:Mu} (X0c:Int) (Xa6:Int) (Xfy:Int):∀ (n:Nat) (Xh:(List Xz)) (Xbs:Int) (X0h:Nb Xh) (o:Xce) (h:X5j X0c Xa6 Xfy n Xh Xbs=some o)
  (C0:∀ (Xp:(List Xz)) (X08:Nb Xp),o=Xce.x0 Xp->X2 Tryz.prog 70 0 Q (.exit (.exit 0)) [] ⟨fr [(10,(slE X08.1 0 (Xp.map Xr)))],hp ([]++opE X08.1 0 2 (Xp.map Xr)),1⟩ μ),
  X2 Tryz.prog 70 0 Q (.loop (X2p 0 (Xd Tryz.f124))) [] ⟨fr [(0,(aI .i64 X0c)),(1,(aI .i64 Xa6)),(2,(aI .i64 Xfy)),(10,(slE X0h.1 0 (Xh.map Xr))),(11,(aI .i64 Xbs))],hp ([]++opE X0h.1 0 2 (Xh.map Xr)),1⟩ μ:=by
 intro n
 induction n with
 |zero=>intro Xh Xbs X0h o h C0;cases h
 |succ n ih =>
  intro Xh Xbs X0h o h C0;rw[X5j] at h;rcases X0h with ⟨_|_,X2t⟩
  ·
   refine X2.round ?_;revert h;refine brI (λh18=>?_) λh18=>λe=>X6 [.wrap,Bf] (k:=wkT [] (C0 _  nbF (oj e).symm));refine bI λu19 h20=>rnI [.wrap,Bt,.wrap,.no,.wrap] (o:=by repeat' first|apply Ya|exact pcM|(refine X0t h20 rfl ?_;first|(simp<;>omega)|(simp[h18]<;>omega))|(refine X09 h20 (by decide) ?_;first|(simp<;>omega)|(simp[h18]<;>omega))|exact Xv) ?_;intro h;exact wkT [(0,2)] (ih  _ _ nbF o h C0)
  obtain rfl:=X2t rfl;refine X2.round ?_;revert h;refine brI (λh21=>?_) λh21=>λe=>X6 [.wrap,Bf] (k:=wkT [] (C0 _  nbS (oj e).symm));refine bI λu22 h23=>rnI [.wrap,Bt,.wrap,.no,.wrap] (o:=by repeat' first|apply Ya|exact pcM|(refine X0t h23 rfl ?_;first|(simp<;>omega)|(simp[h21]<;>omega))|(refine X09 h23 (by decide) ?_;first|(simp<;>omega)|(simp[h21]<;>omega))|exact Xv) ?_;intro h;exact wkT [(0,2)] (ih  _ _ nbF o h C0)
theorem Xc0 {Q:X04->St->Mu->Prop}  {rb rD:Nat} {rr:Loop} (rh1:rr.state=.ready) (rh2:rr.pending=none) (rh3:rr.params=(rfB 0 (Xd Tryz.f124)).1) (rh4:rr.assign=(rfB 0 (Xd Tryz.f124)).2.1) (rh5:rr.body=(rfB 0 (Xd Tryz.f124)).2.2) (X1q:(List Xz)) (Xke:Nb X1q):∀ (n:Nat) (X0o:(List Xz)) (X98:Int) (X25:Nb X0o) (o:X8n) (h:X3f X1q n X0o X98=some o)
  (C0:∀ (X4m:(List Xz)) (Xea:(List Xz)) (X3c:Nb X4m) (Xaj:Nb Xea),o=X8n.x0 X4m Xea->X2 Tryz.prog 19 3 Q (.exit (.exit 0)) [] ⟨fr [],hp ([(1,Ob [(slE X3c.1 3 (X4m.map Xr))] 1),(2,Ob [(slE Xaj.1 4 (Xea.map Xr))] 1)]++opE X3c.1 3 2 (X4m.map Xr)++opE Xaj.1 4 2 (Xea.map Xr)),5⟩ [(rb,MuE.loop rr 70 3 (fr [(12,(AV.ptr 1 0 0)),(62,(AV.fn 171 [(AV.ptr 2 0 0)]))])),(rD,MuE.blk (Go.Obj.deferred (some [])))]),
  X2 Tryz.prog 19 3 Q (.loop (X2p 0 (Xd Tryz.f171))) [] ⟨fr [(0,(AV.sc (.func (.yield rb) #[] #[]))),(1,(AV.ptr 2 0 0)),(3,(aI .i64 X98))],hp ([(1,Ob [(slE X25.1 3 (X0o.map Xr))] 1),(2,Ob [(slE Xke.1 4 (X1q.map Xr))] 1)]++opE X25.1 3 2 (X0o.map Xr)++opE Xke.1 4 2 (X1q.map Xr)),5⟩ [(rb,MuE.loop rr 70 3 (fr [(12,(AV.ptr 1 0 0)),(62,(AV.fn 171 [(AV.ptr 2 0 0)]))])),(rD,MuE.blk (Go.Obj.deferred (some [])))]:=by
 intro n
 induction n with
 |zero=>intro X0o X98 X25 o h C0;cases h
 |succ n ih =>
  intro X0o X98 X25 o h C0;rw[X3f] at h;rcases X25 with ⟨_|_,X82⟩
  ·
   rcases Xke with ⟨_|_,Xou⟩
   ·
    refine X2.round ?_;revert h;refine brI (λh67=>?_) λh67=>λe=>X6 [Bf] (k:=wkT [] (C0 _ _  nbF nbF (oj e).symm));refine bI λe68 h69=>?_;try have qh69:=Xm h69
    refine rnI [Bt,.el (Xr e68),.ld (Xr e68)] ?_;intro h;refine X2.yield rfl rfl rfl rfl rfl trivial trivial (.head _) rh1 rh2 rh3 rh4 rh5 rfl rfl ?_;refine X0g [] ?_;refine X2.asg ?_;revert h;refine bI λu72 h73=>rnI [.no] (o:=by repeat' first|apply Ya|exact pcM|(refine X0t h73 rfl ?_;first|(simp<;>omega)|(simp[h67]<;>omega))|(refine X09 h73 (by decide) ?_;first|(simp<;>omega)|(simp[h67]<;>omega))|exact Xv) ?_;intro h;refine X2.rndEnd ?_;exact X6 [Bf,.wrap] (k:=wkT [(3,7)] (ih  _ _ nbF o h C0))
   obtain rfl:=Xou rfl;refine X2.round ?_;revert h;refine brI (λh74=>?_) λh74=>λe=>X6 [Bf] (k:=wkT [] (C0 _ _  nbF nbS (oj e).symm));refine bI λe75 h76=>?_;try have qh76:=Xm h76
   intro h
   first|exact absurd (h76) (by simp[X17];done)|(simp[X17,h74] at h;done)|exact absurd (h76) (by simp[X17,h74];done)
  obtain rfl:=X82 rfl;rcases Xke with ⟨_|_,Xou⟩
  ·
   refine X2.round ?_;revert h;refine brI (λh77=>?_) λh77=>λe=>X6 [Bf] (k:=wkT [] (C0 _ _  nbS nbF (oj e).symm));refine bI λe78 h79=>?_;try have qh79:=Xm h79
   refine rnI [Bt,.el (Xr e78),.ld (Xr e78)] ?_;intro h;refine X2.yield rfl rfl rfl rfl rfl trivial trivial (.head _) rh1 rh2 rh3 rh4 rh5 rfl rfl ?_;refine X0g [] ?_;refine X2.asg ?_;revert h;refine bI λu82 h83=>rnI [.no] (o:=by repeat' first|apply Ya|exact pcM|(refine X0t h83 rfl ?_;first|(simp<;>omega)|(simp[h77]<;>omega))|(refine X09 h83 (by decide) ?_;first|(simp<;>omega)|(simp[h77]<;>omega))|exact Xv) ?_;intro h;refine X2.rndEnd ?_;exact X6 [Bf,.wrap] (k:=wkT [(3,7)] (ih  _ _ nbF o h C0))
  obtain rfl:=Xou rfl;refine X2.round ?_;revert h;refine brI (λh84=>?_) λh84=>λe=>X6 [Bf] (k:=wkT [] (C0 _ _  nbS nbS (oj e).symm));refine bI λe85 h86=>?_;try have qh86:=Xm h86
  intro h
  first|exact absurd (h86) (by simp[X17];done)|(simp[X17,h84] at h;done)|exact absurd (h86) (by simp[X17,h84];done)
instance X04n:PCs Tryz.prog 124 (∀ (a0:Int) (a1:Int) (a2:Int) (r:(List Xz)×Int),Xen a0 a1 a2=some r->X0a Tryz.prog 124 [(aI .i64 a0),(aI .i64 a1),(aI .i64 a2)] (AV.tup [(Lt (r.1.map Xr)),(aI .i64 r.2)])):=⟨λa0 a1 a2 r h=>by
 refine X0a.sym X3 X0d0 (nt:=70) rfl rfl ?_ okM;unfold Xen at h;revert h;refine brI (λh1=>λe=>oj e▸X6 [.wrap,Bt] (k:=fi)) λh1=>bI λv2 h3=>brI (λh4=>λe=>oj e▸X6 [.wrap,Bf,.pure _ (AV.tup [(Xr v2.1),(aI .i64 v2.2)]),Bt] (k:=fi)) λh4=>bI λo24 h25=>rnI [.wrap,Bf,.pure _ (AV.tup [(Xr v2.1),(aI .i64 v2.2)]),Bf] ?_;intro h;refine wkT [] (X2.cut (Xl6 a0 a1 a2 _ _ _ nbS _ h25 ?_));intro Xp X08 eo24;subst eo24;refine X2.glue ?_;try dsimp only at h
 rcases X08 with ⟨_|_,X29⟩
 ·
  refine X0g [] ?_;refine X2.inline X3 X09t rfl rfl rfl rfl rfl trivial trivial rfl rfl ?_;refine X0g [] ?_;refine X2.back (by intro id h;cases h) rfl ?_;refine X0g [] ?_;refine X2.keepL [12,62] ?_;refine X2.rangeFunc rfl trivial X09r rfl rfl rfl ?_;intro rb rD rr rh1 rh2 rh3 rh4 rh5;revert h;refine bI λo87 h88=>rnI [.el (aI .i64 (Xp.length:Int)),.wrap] ?_;intro h;refine wkT [(4,0)] (X2.cut (Xc0 rh1 rh2 rh3 rh4 rh5 Xp nbF _ _ _ nbS _ h88 ?_));intro X4m Xea X3c Xaj eo87;subst eo87;refine X2.glue ?_;try dsimp only at h
  rcases X3c with ⟨_|_,X95⟩<;>(try obtain rfl:=X95 rfl);all_goals
   rcases Xaj with ⟨_|_,Xik⟩<;>(try obtain rfl:=Xik rfl);all_goals
    refine X0g [] ?_;refine X2.rfEnd (by intro id h;cases h) ?_;revert h;exact λe=>oj e▸X6 [] (k:=fi)
 obtain rfl:=X29 rfl;refine X0g [] ?_;refine X2.inline X3 X09t rfl rfl rfl rfl rfl trivial trivial rfl rfl ?_;refine X0g [] ?_;refine X2.back (by intro id h;cases h) rfl ?_;refine X0g [] ?_;refine X2.keepL [12,62] ?_;refine X2.rangeFunc rfl trivial X09r rfl rfl rfl ?_;intro rb rD rr rh1 rh2 rh3 rh4 rh5;revert h;refine bI λo130 h131=>rnI [.el (aI .i64 (List.length ([]:List Xz):Int)),.wrap] ?_;intro h;refine wkT [] (X2.cut (Xc0 rh1 rh2 rh3 rh4 rh5 ([]:List Xz) nbS _ _ _ nbS _ h131 ?_));intro X4m Xea X3c Xaj eo130;subst eo130;refine X2.glue ?_;try dsimp only at h
 rcases X3c with ⟨_|_,X95⟩<;>(try obtain rfl:=X95 rfl);all_goals
  rcases Xaj with ⟨_|_,Xik⟩<;>(try obtain rfl:=Xik rfl);all_goals
   refine X0g [] ?_;refine X2.rfEnd (by intro id h;cases h) ?_;revert h;exact λe=>oj e▸X6 [] (k:=fi)⟩
instance Xl5:PCs Tryz.prog 83 (∀ (a0:X1v) (a1:Int) (r:(List Xz)×Int),Xgo a0 a1=some r->X0a Tryz.prog 83 [(X1y a0),(aI .i64 a1)] (AV.tup [(Lt (r.1.map Xr)),(aI .i64 r.2)])):=⟨λa0 a1 r h=>by
 refine X0a.sym X3 fn83 (nt:=40) rfl rfl ?_ okM;unfold Xgo at h;revert h;exact bI λv1 h2=>brI (λh3=>λe=>oj e▸X6 [.pure _ (aI .i64 v1),Bt] (k:=fi)) λh3=>brI (λh4=>bI λv5 h6=>brI (λh7=>λe=>oj e▸X6 [.pure _ (aI .i64 v1),Bf,Bt,.pure _ (AV.tup [(Xr v5.1),(aI .i64 v5.2)]),Bt] (k:=fi)) λh7=>λe=>oj e▸X6 [.pure _ (aI .i64 v1),Bf,Bt,.pure _ (AV.tup [(Xr v5.1),(aI .i64 v5.2)]),Bf] (k:=fi)) λh4=>brI (λh8=>bI λv9 h10=>λe=>oj e▸X6 [.pure _ (aI .i64 v1),Bf,Bf,Bt,.pure _ (AV.tup [(Lt (v9.1.map Xr)),(aI .i64 v9.2)])] (k:=fi)) λh8=>λe=>oj e▸X6 [.pure _ (aI .i64 v1),Bf,Bf,Bf] (k:=fi)⟩
end Go.Av.Tryz