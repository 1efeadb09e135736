/- Printed by decomp.py: that the program computes the functions. -/
import Derived.Test.YtkjlgmgfhgamlaaGreatDCert4Z
set_option linter.all false

namespace Go.Av.Tryz
open Go.Proofs Go.D
set_option maxRecDepth 10000
set_option maxHeartbeats 40000000
theorem Xg9 {Q:Xx->St->Mu->Prop} {μ:Mu} (Xbq:Xp) (Xbr:(List X8)) (hl:Xbr.length<=140737488355328):∀ (xs:List X8) (k:Nat) (hx:Xbr.drop k=xs) (Xiu:Bool) (o:X8z) (h:X39 Xbq Xbr xs k Xiu=some o)
  (C0:∀ (Xen:Bool),o=X8z.x0 Xen->X2 Tryz.prog 202 0 Q (.exit (.exit 6)) [] ⟨fr [(1,(AV.ptr 0 0 0)),(11,(aB Xen))],hp ([(0,Ob [(X9 false Xbq)] 9)]),1⟩ μ),
  X2 Tryz.prog 202 0 Q (.loop (X48 3 (Xa Tryz.f61))) [] ⟨fr [(1,(AV.ptr 0 0 0)),(11,(aB Xiu)),(164,(Lf (Xbr.map Xm))),(165,(aI .i64 (Xbr.length:Int))),(166,(aI .i64 (k:Int)))],hp ([(0,Ob [(X9 false Xbq)] 9)]),1⟩ μ:=by
 intro xs
 induction xs with
 |nil =>
  intro k hx Xiu o h C0;have hk:=drop_nil hx;have hc:decide ((k:Int)<(Xbr.length:Int))=false:=Yf om;rw[X39] at h;refine X2.round ?_;revert h;exact λe=>X7 [Bf] (k:=wkT [] (C0 _  (oj e).symm))
 |cons x xs ih =>
  intro k hx Xiu o h C0;obtain⟨hk,hg,hx1⟩:=X12 hx;have hc:decide ((k:Int)<(Xbr.length:Int))=true:=Yt om;rw[X39] at h;refine X2.round ?_;revert h;refine bI λXoc h163=>rnI [Bt,.el (Xm x),.stop 25] ?_;intro h;refine X2.join (s':=⟨fr [(1,(AV.ptr 0 0 0)),(11,(aB Xoc)),(164,(Lf (Xbr.map Xm))),(165,(aI .i64 (Xbr.length:Int))),(166,(aI .i64 (k:Int)))],hp ([(0,Ob [(X9 false Xbq)] 9)]),1⟩) ?_ (λJ=>X2.cut ?_)
  ·
   exact X7 [] (k:=wkT [] (ih (k+1) hx1 _ o h C0))
  clear h;revert h163;refine brI (λh160=>?_) λh160=>?_
  ·
   refine bI λv161 h162=>?_;intro h;obtain rfl:=oj h;exact X7 [Gt,Gt,Gt,.pure _ (aI .i64 v161),Gt] (k:=wkT [] (X2.glue J))
  intro h;obtain rfl:=oj h;exact X7 [Gf,Gf,Gf,Gf] (k:=wkT [] (X2.glue J))
theorem Xg8 {Q:Xx->St->Mu->Prop} {μ:Mu} (Xbi:Xp) (Xbp:(List X1)) (hl:Xbp.length<=140737488355328):∀ (xs:List X1) (k:Nat) (hx:Xbp.drop k=xs) (Xh8:Bool) (o:X8y) (h:X38 Xbi Xbp xs k Xh8=some o)
  (C0:∀ (Xem:Bool),o=X8y.x0 Xem->X2 Tryz.prog 202 0 Q (.exit (.exit 8)) [] ⟨fr [(11,(aB Xem))],hp ([]),0⟩ μ),
  X2 Tryz.prog 202 0 Q (.loop (X48 4 (Xa Tryz.f61))) [] ⟨fr [(1,(AV.ptr 0 0 0)),(11,(aB Xh8)),(179,(Lf (Xbp.map X0))),(180,(aI .i64 (Xbp.length:Int))),(181,(aI .i64 (k:Int)))],hp ([(0,Ob [(X9 false Xbi)] 9)]),1⟩ μ:=by
 intro xs
 induction xs with
 |nil =>
  intro k hx Xh8 o h C0;have hk:=drop_nil hx;have hc:decide ((k:Int)<(Xbp.length:Int))=false:=Yf om;rw[X38] at h;refine X2.round ?_;revert h;exact λe=>X7 [Bf] (k:=wkT [] (C0 _  (oj e).symm))
 |cons x xs ih =>
  intro k hx Xh8 o h C0;obtain⟨hk,hg,hx1⟩:=X12 hx;have hc:decide ((k:Int)<(Xbp.length:Int))=true:=Yt om;rw[X38] at h;refine X2.round ?_;revert h;refine bI λXob h186=>rnI [Bt,.el (X0 x),.stop 30] ?_;intro h;refine X2.join (s':=⟨fr [(1,(AV.ptr 0 0 0)),(11,(aB Xob)),(179,(Lf (Xbp.map X0))),(180,(aI .i64 (Xbp.length:Int))),(181,(aI .i64 (k:Int)))],hp ([(0,Ob [(X9 false Xbi)] 9)]),1⟩) ?_ (λJ=>X2.cut ?_)
  ·
   exact X7 [] (k:=wkT [] (ih (k+1) hx1 _ o h C0))
  clear h;revert h186;refine brI (λh184=>?_) λh184=>?_
  ·
   refine brI (λh185=>?_) λh185=>?_
   ·
    intro h;obtain rfl:=oj h;exact X7 [Gt,Gt,Gt,Gt,Gt,Gf,Gf,Gf,Gf,Gf,Gt] (k:=wkT [] (X2.glue J))
   intro h;obtain rfl:=oj h;exact X7 [Gt,Gt,Gt,Gt,Gt,Gt,Gt,.ix 1,Gt,Gt,Gt,Gt] (k:=wkT [] (X2.glue J))
  intro h;obtain rfl:=oj h;exact X7 [Gf,Gf,Gf,Gf,Gf,Gf,Gf,Gf,Gf,Gf,Gf] (k:=wkT [] (X2.glue J))
instance Xvr:PCs Tryz.prog 61 (∀ (a0:Xp) (r:Int),X8h a0=some r->X0i Tryz.prog 61 [(X9 false a0)] (aI .i64 r)):=⟨λa0 r h=>by
 refine X0i.sym X3 fn61 (nt:=202) rfl rfl ?_ okM;unfold X8h at h;revert h;refine bI λv1 h2=>bI λXk5 h32=>rnI [.pure _ (AV.tup [(aI .i64 v1.1),(aI .i64 v1.2.1),(aB v1.2.2.1),(aB v1.2.2.2.1),(aB v1.2.2.2.2.1),(aB v1.2.2.2.2.2)]),.stop 3] ?_;intro h;refine X2.join (s':=⟨fr [(1,(AV.ptr 0 0 0)),(9,(aB (bif (bif (bif (decide (a0.Turn >= (0:Int))) then (decide (a0.Turn<(20:Int))) else false) then (decide (a0.Op.N >= (0:Int))) else false) then (decide (a0.Op.N<(4:Int))) else false))),(10,(aB Xk5))],hp ([(0,Ob [(X9 false a0)] 9)]),1⟩) ?_ (λJ=>X2.cut ?_)
 ·
  revert h;refine bI λXo4 h48=>rnI [.stop 4] ?_;intro h;refine X2.join (s':=⟨fr [(1,(AV.ptr 0 0 0)),(120,(aB Xo4))],hp ([(0,Ob [(X9 false a0)] 9)]),1⟩) ?_ (λJ=>X2.cut ?_)
  ·
   revert h;refine brI (λh49=>λe=>oj e▸X7 [Bt] (k:=fi)) λh49=>bI λu50 h51=>?_;have qh51:=X13 h51;refine bI λo77 h78=>rnI [Bf,.el (aI .i64 (a0.Marks.length:Int))] ?_;intro h;refine wkT [] (X2.cut (Xgc a0 a0.Marks qh51 a0.Marks 0 (by simp) _ _ h78 ?_));intro Xeq eo77;subst eo77;refine X2.glue ?_;try dsimp only at h
   revert h;refine bI λu79 h80=>?_;have qh80:=X13 h80;refine bI λo106 h107=>rnI [.el (aI .i64 (a0.Events.length:Int))] ?_;intro h;refine wkT [] (X2.cut (Xgb a0 a0.Events qh80 a0.Events 0 (by simp) _ _ h107 ?_));intro Xep eo106;subst eo106;refine X2.glue ?_;try dsimp only at h
   revert h;refine bI λu108 h109=>?_;have qh109:=X13 h109;refine bI λo135 h136=>rnI [.el (aI .i64 (a0.Rows.length:Int))] ?_;intro h;refine wkT [] (X2.cut (Xga a0 a0.Rows qh109 a0.Rows 0 (by simp) _ _ h136 ?_));intro Xeo eo135;subst eo135;refine X2.glue ?_;try dsimp only at h
   revert h;refine bI λu137 h138=>?_;have qh138:=X13 h138;refine bI λo164 h165=>rnI [.el (aI .i64 (a0.Late.length:Int))] ?_;intro h;refine wkT [] (X2.cut (Xg9 a0 a0.Late qh138 a0.Late 0 (by simp) _ _ h165 ?_));intro Xen eo164;subst eo164;refine X2.glue ?_;try dsimp only at h
   revert h;refine bI λu166 h167=>?_;have qh167:=X13 h167;refine bI λo187 h188=>rnI [.el (aI .i64 (a0.Store.length:Int))] ?_;intro h;refine wkT [] (X2.cut (Xg8 a0 a0.Store qh167 a0.Store 0 (by simp) _ _ h188 ?_));intro Xem eo187;subst eo187;refine X2.glue ?_;try dsimp only at h
   revert h;exact brI (λh189=>λe=>oj e▸X7 [Bt] (k:=fi)) λh189=>λe=>oj e▸X7 [Bf] (k:=fi)
  clear h;revert h48;refine brI (λh41=>?_) λh41=>?_
  ·
   intro h;obtain rfl:=oj h;exact X7 [Gf,Gf,Gf,Gf,Gf,Gf,Gf,Gf,Gf,Gf] (o:=by repeat' first|apply Ya|exact pcM|exact fq (Xg h41 rfl)|exact fq (Xg (Xg h41 rfl) rfl)|exact Xz) (k:=wkT [] (X2.glue J))
  refine brI (λh42=>?_) λh42=>?_
  ·
   intro h;obtain rfl:=oj h;exact X7 [Gt,Gt,Gf,Gf,Gf,Gf,Gf,Gf,Gf,Gf] (o:=by repeat' first|apply Ya|exact pcM|exact fq (Xr h41 h42)|exact fq (Xg (Xr h41 h42) rfl)|exact Xz) (k:=wkT [] (X2.glue J))
  refine bI λv43 h44=>brI (λh45=>?_) λh45=>?_
  ·
   intro h;obtain rfl:=oj h;exact X7 [Gt,Gt,Gt,Gt,Gt,.pure _ (aB v43),Gt,Gf,Gf,Gf,Gf] (o:=by repeat' first|apply Ya|exact pcM|exact fq (Xr h41 h42)|exact fq (Xr (Xr h41 h42) h45)|exact Xz) (k:=wkT [] (X2.glue J))
  refine bI λv46 h47=>?_;intro h;obtain rfl:=oj h;exact X7 [Gt,Gt,Gt,Gt,Gt,.pure _ (aB v43),Gt,Gt,Gt,Gt,.pure _ (aI .i64 v46),Gt] (o:=by repeat' first|apply Ya|exact pcM|exact fq (Xr h41 h42)|exact fq (Xr (Xr h41 h42) h45)|exact Xz) (k:=wkT [] (X2.glue J))
 clear h;revert h32;refine brI (λh18=>?_) λh18=>?_
 ·
  refine brI (λh19=>?_) λh19=>?_
  ·
   refine brI (λh20=>?_) λh20=>?_
   ·
    refine bI λv21 h22=>brI (λh23=>?_) λh23=>?_
    ·
     refine bI λv24 h25=>brI (λh26=>?_) λh26=>?_
     ·
      refine bI λv27 h28=>brI (λh29=>?_) λh29=>?_
      ·
       refine bI λv30 h31=>?_;intro h;obtain rfl:=oj h;exact X7 [X28.el (aI .i64 (a0.Pending.length:Int)),Gt,Gt,Gt,X28.el (aI .i64 (a0.Marks.length:Int)),Gt,Gt,Gt,Gt,Gt,X28.el (aI .i64 (a0.Marks.length:Int)),Gt,Gt,Gt,Gt,Gt,X28.el (aI .i64 (a0.Store.length:Int)),Gt,Gt,X28.pure _ (aI .i64 v21),Gt,Gt,Gt,Gt,X28.el (aI .i64 (a0.Events.length:Int)),Gt,Gt,X28.pure _ (aI .i64 v24),Gt,Gt,Gt,Gt,X28.el (aI .i64 (a0.Rows.length:Int)),Gt,Gt,X28.pure _ (aI .i64 v27),Gt,Gt,Gt,Gt,X28.el (aI .i64 (a0.Late.length:Int)),Gt,Gt,X28.pure _ (aI .i64 v30),Gt] (o:=by repeat' first|apply Ya|exact pcM|exact fq (Xg h18 h19)|exact fq (Xg (Xg h18 h19) h20)|exact fq (Xg (Xg (Xg h18 h19) h20) h23)|exact fq (Xg (Xg (Xg (Xg h18 h19) h20) h23) h26)|exact fq (Xg (Xg (Xg (Xg (Xg h18 h19) h20) h23) h26) h29)|exact Xz) (k:=wkT [] (X2.glue J))
      intro h;obtain rfl:=oj h;exact X7 [X28.el (aI .i64 (a0.Pending.length:Int)),Gt,Gt,Gt,X28.el (aI .i64 (a0.Marks.length:Int)),Gt,Gt,Gt,Gt,Gt,X28.el (aI .i64 (a0.Marks.length:Int)),Gt,Gt,Gt,Gt,Gt,X28.el (aI .i64 (a0.Store.length:Int)),Gt,Gt,X28.pure _ (aI .i64 v21),Gt,Gt,Gt,Gt,X28.el (aI .i64 (a0.Events.length:Int)),Gt,Gt,X28.pure _ (aI .i64 v24),Gt,Gt,Gt,Gt,X28.el (aI .i64 (a0.Rows.length:Int)),Gt,Gt,X28.pure _ (aI .i64 v27),Gt,Gf,Gf,Gf,Gf,Gf,Gf,Gf] (o:=by repeat' first|apply Ya|exact pcM|exact fq (Xg h18 h19)|exact fq (Xg (Xg h18 h19) h20)|exact fq (Xg (Xg (Xg h18 h19) h20) h23)|exact fq (Xg (Xg (Xg (Xg h18 h19) h20) h23) h26)|exact fq (Xg (Xg (Xg (Xg (Xg h18 h19) h20) h23) h26) h29)|exact Xz) (k:=wkT [] (X2.glue J))
     intro h;obtain rfl:=oj h;exact X7 [X28.el (aI .i64 (a0.Pending.length:Int)),Gt,Gt,Gt,X28.el (aI .i64 (a0.Marks.length:Int)),Gt,Gt,Gt,Gt,Gt,X28.el (aI .i64 (a0.Marks.length:Int)),Gt,Gt,Gt,Gt,Gt,X28.el (aI .i64 (a0.Store.length:Int)),Gt,Gt,X28.pure _ (aI .i64 v21),Gt,Gt,Gt,Gt,X28.el (aI .i64 (a0.Events.length:Int)),Gt,Gt,X28.pure _ (aI .i64 v24),Gt,Gf,Gf,Gf,Gf,Gf,Gf,Gf,Gf,Gf,Gf,Gf,Gf,Gf,Gf] (o:=by repeat' first|apply Ya|exact pcM|exact fq (Xg h18 h19)|exact fq (Xg (Xg h18 h19) h20)|exact fq (Xg (Xg (Xg h18 h19) h20) h23)|exact fq (Xg (Xg (Xg (Xg h18 h19) h20) h23) h26)|exact Xz) (k:=wkT [] (X2.glue J))
    intro h;obtain rfl:=oj h;exact X7 [X28.el (aI .i64 (a0.Pending.length:Int)),Gt,Gt,Gt,X28.el (aI .i64 (a0.Marks.length:Int)),Gt,Gt,Gt,Gt,Gt,X28.el (aI .i64 (a0.Marks.length:Int)),Gt,Gt,Gt,Gt,Gt,X28.el (aI .i64 (a0.Store.length:Int)),Gt,Gt,X28.pure _ (aI .i64 v21),Gt,Gf,Gf,Gf,Gf,Gf,Gf,Gf,Gf,Gf,Gf,Gf,Gf,Gf,Gf,Gf,Gf,Gf,Gf,Gf,Gf,Gf] (o:=by repeat' first|apply Ya|exact pcM|exact fq (Xg h18 h19)|exact fq (Xg (Xg h18 h19) h20)|exact fq (Xg (Xg (Xg h18 h19) h20) h23)|exact Xz) (k:=wkT [] (X2.glue J))
   intro h;obtain rfl:=oj h;exact X7 [X28.el (aI .i64 (a0.Pending.length:Int)),Gt,Gt,Gt,X28.el (aI .i64 (a0.Marks.length:Int)),Gt,Gt,Gt,Gt,Gt,X28.el (aI .i64 (a0.Marks.length:Int)),Gt,Gt,Gf,Gf,Gf,Gf,Gf,Gf,Gf,Gf,Gf,Gf,Gf,Gf,Gf,Gf,Gf,Gf,Gf,Gf,Gf,Gf,Gf,Gf,Gf,Gf,Gf,Gf,Gf,Gf] (o:=by repeat' first|apply Ya|exact pcM|exact fq (Xg h18 h19)|exact fq (Xg (Xg h18 h19) h20)|exact Xz) (k:=wkT [] (X2.glue J))
  intro h;obtain rfl:=oj h;exact X7 [X28.el (aI .i64 (a0.Pending.length:Int)),Gt,Gt,Gt,X28.el (aI .i64 (a0.Marks.length:Int)),Gt,Gt,Gf,Gf,Gf,Gf,Gf,Gf,Gf,Gf,Gf,Gf,Gf,Gf,Gf,Gf,Gf,Gf,Gf,Gf,Gf,Gf,Gf,Gf,Gf,Gf,Gf,Gf,Gf,Gf,Gf,Gf,Gf,Gf,Gf,Gf] (o:=by repeat' first|apply Ya|exact pcM|exact fq (Xg h18 h19)|exact Xz) (k:=wkT [] (X2.glue J))
 intro h;obtain rfl:=oj h;exact X7 [X28.el (aI .i64 (a0.Pending.length:Int)),Gf,Gf,Gf,Gf,Gf,Gf,Gf,Gf,Gf,Gf,Gf,Gf,Gf,Gf,Gf,Gf,Gf,Gf,Gf,Gf,Gf,Gf,Gf,Gf,Gf,Gf,Gf,Gf,Gf,Gf,Gf,Gf,Gf,Gf,Gf,Gf,Gf,Gf,Gf,Gf] (k:=wkT [] (X2.glue J))⟩
instance Xy3:PCs Tryz.prog 79 (∀ (a0:Int) (r:X11),X9i a0=some r->X0i Tryz.prog 79 [(aI .i64 a0)] (X0q r)):=⟨λa0 r h=>by
 refine X0i.sym X3 fn79 (nt:=7) rfl rfl ?_ okM;unfold X9i at h;revert h;exact λe=>oj e▸X7 [] (k:=fi)⟩
instance Xrp:PCs Tryz.prog 117 (∀ (a0:Int) (a1:Int) (r:Int),X3f a0 a1=some r->X0i Tryz.prog 117 [(aI .i64 a0),(aI .i64 a1)] (aI .i64 r)):=⟨λa0 a1 r h=>by
 refine X0i.sym X3 X04o (nt:=17) rfl rfl ?_ okM;unfold X3f at h;revert h;exact brI (λh1=>λe=>oj e▸X7 [Bt] (k:=fi)) λh1=>brI (λh2=>λe=>oj e▸X7 [Bf,Bt] (k:=fi)) λh2=>λe=>oj e▸X7 [Bf,Bf] (k:=fi)⟩
instance Xpu:PCs Tryz.prog 194 (∀ (a0:Int) (r:Int),X9d a0=some r->X0i Tryz.prog 194 [(aI .u64 a0)] (aI .i64 r)):=⟨λa0 r h=>by
 refine X0i.sym X3 X03l (nt:=25) rfl rfl ?_ okM;unfold X9d at h;revert h;refine bI λw2 h4=>?_;intro h;obtain⟨j2_0,j2_2⟩:=w2;try dsimp only at h
 refine X0e [] ?_;refine X2.join (s':=⟨fr [(0,(aI .u64 j2_0)),(2,(aI .i64 j2_2))],hp ([]),0⟩) ?_ (λJ=>X2.cut ?_)
 ·
  revert h;refine bI λw6 h8=>?_;intro h;obtain⟨j6_0,j6_2⟩:=w6;try dsimp only at h
  refine X0e [] ?_;refine X2.join (s':=⟨fr [(0,(aI .u64 j6_0)),(2,(aI .i64 j6_2))],hp ([]),0⟩) ?_ (λJ=>X2.cut ?_)
  ·
   revert h;refine bI λw10 h12=>?_;intro h;obtain⟨X03f,X03e⟩:=w10;try dsimp only at h
   refine X0e [] ?_;refine X2.join (s':=⟨fr [(0,(aI .u64 X03f)),(2,(aI .i64 X03e))],hp ([]),0⟩) ?_ (λJ=>X2.cut ?_)
   ·
    revert h;exact bI λb13 h14=>λe=>oj e▸X7 [.wrap,.el (aI .u8 b13),.wrap,.wrap] (o:=by repeat' first|apply Ya|exact pcM|exact(X7n h14)|exact(X01b (tab:=Xfq) rfl h14)|exact Xz) (k:=fi)
   clear h;revert h12;refine brI (λh11=>?_) λh11=>?_
   ·
    intro h;simp only[Option.some.injEq,Prod.mk.injEq] at h;obtain⟨rfl,rfl⟩:=h;exact X7 [Bt,.wrap] (k:=wkT [] (X2.glue J))
   intro h;simp only[Option.some.injEq,Prod.mk.injEq] at h;obtain⟨rfl,rfl⟩:=h;exact X7 [Bf] (k:=wkT [] (X2.glue J))
  clear h;revert h8;refine brI (λh7=>?_) λh7=>?_
  ·
   intro h;simp only[Option.some.injEq,Prod.mk.injEq] at h;obtain⟨rfl,rfl⟩:=h;exact X7 [Bt,.wrap] (k:=wkT [] (X2.glue J))
  intro h;simp only[Option.some.injEq,Prod.mk.injEq] at h;obtain⟨rfl,rfl⟩:=h;exact X7 [Bf] (k:=wkT [] (X2.glue J))
 clear h;revert h4;refine brI (λh3=>?_) λh3=>?_
 ·
  intro h;simp only[Option.some.injEq,Prod.mk.injEq] at h;obtain⟨rfl,rfl⟩:=h;exact X7 [Bt] (k:=wkT [] (X2.glue J))
 intro h;simp only[Option.some.injEq,Prod.mk.injEq] at h;obtain⟨rfl,rfl⟩:=h;exact X7 [Bf] (k:=wkT [] (X2.glue J))⟩
instance Xrv:PCs Tryz.prog 169 (∀ (a0:Int) (r:Int),X8b a0=some r->X0i Tryz.prog 169 [(aI .u64 a0)] (aI .i64 r)):=⟨λa0 r h=>by
 refine X0i.sym X3 X03w (nt:=8) rfl rfl ?_ okM;unfold X8b at h;revert h;exact bI λv1 h2=>λe=>oj e▸X7 [Bf,.pure _ (aI .i64 v1)] (k:=fi)⟩
theorem X3j {Q:Xx->St->Mu->Prop} {μ:Mu} (X0u:(List X1)) (Xn:X1) (y0_8:Int):∀ (n:Nat) (Xs1:Int) (Xiz:Int) (o:X10) (h:Xs X0u Xn y0_8 n Xs1 Xiz=some o)
  (C0:∀ (Xd4:Int),o=X10.x0 Xd4->X2 Tryz.prog 49 0 Q (.exit (.exit 0)) [] ⟨fr [(0,(Lf (X0u.map X0))),(2,(AV.fn 116 [])),(4,(AV.ptr 0 0 0)),(8,(aI .i64 y0_8)),(9,(aI .i64 Xd4))],hp ([(0,Ob [(X0 Xn)] 11)]),1⟩ μ),
  X2 Tryz.prog 49 0 Q (.loop (X48 0 (Xa Tryz.f125))) [] ⟨fr [(0,(Lf (X0u.map X0))),(2,(AV.fn 116 [])),(4,(AV.ptr 0 0 0)),(8,(aI .i64 y0_8)),(9,(aI .i64 Xs1)),(10,(aI .i64 Xiz))],hp ([(0,Ob [(X0 Xn)] 11)]),1⟩ μ:=by
 intro n
 induction n with
 |zero=>intro Xs1 Xiz o h C0;cases h
 |succ n ih =>
  intro Xs1 Xiz o h C0;rw[Xs] at h;refine X2.round ?_;revert h;refine brI (λh14=>?_) λh14=>λe=>X7 [Bf] (k:=wkT [] (C0 _  (oj e).symm));refine bI λe15 h16=>?_;try have qh16:=Xo h16
  refine bI λv17 h18=>brI (λh19=>?_) λh19=>?_
  ·
   refine rnI [Bt,.wrap,.wrap,.wrap,.el (X0 e15),.pure _ (aI .i64 v17),Bt,.wrap] ?_;intro h;exact wkT [] (ih  _ _ o h C0)
  refine rnI [Bt,.wrap,.wrap,.wrap,.el (X0 e15),.pure _ (aI .i64 v17),Bf] ?_;intro h;exact wkT [] (ih  _ _ o h C0)
theorem Xf (a0:(List X1)) (a1:X1) (r:Int×Bool) (h:Xc a0 a1=some r):X0i Tryz.prog 125 [(Lf (a0.map X0)),(X0 a1),(AV.fn 116 [])] (AV.tup [(aI .i64 r.1),(aB r.2)]):=by
 refine X0i.sym X3 X04j (nt:=49) rfl rfl ?_ okM;unfold Xc at h;revert h;refine bI λo20 h21=>rnI [.el (aI .i64 (a0.length:Int))] ?_;intro h;refine wkT [] (X2.cut (X3j a0 a1 (a0.length:Int) _ _ _ _ h21 ?_));intro Xd4 eo20;subst eo20;refine X2.glue ?_;try dsimp only at h
 revert h;refine bI λXzl h33=>rnI [.stop 8] ?_;intro h;refine X2.join (s':=⟨fr [(6,(aI .i64 Xd4)),(7,(aB Xzl))],hp ([]),0⟩) ?_ (λJ=>X2.cut ?_)
 ·
  revert h;exact λe=>oj e▸X7 [] (k:=fi)
 clear h;revert h33;refine brI (λh28=>?_) λh28=>?_
 ·
  refine bI λe29 h30=>?_;try have qh30:=Xo h30
  refine bI λv31 h32=>?_;intro h;obtain rfl:=oj h;exact X7 [Gt,Gt,Gt,Gt,.el (X0 e29),Gt,Gt,Gt,.pure _ (aI .i64 v31),Gt] (k:=wkT [] (X2.glue J))
 intro h;obtain rfl:=oj h;exact X7 [Gf,Gf,Gf,Gf,Gf,Gf,Gf,Gf,Gf] (k:=wkT [] (X2.glue J))
instance X3q:PCs Tryz.prog 150 (∀ (a0:X11) (a1:X11) (r:X11×Int),X25 a0 a1=some r->X0i Tryz.prog 150 [(X0q a0),(X0q a1)] (AV.tup [(X0q r.1),(aI .i64 r.2)])):=⟨λa0 a1 r h=>by
 refine X0i.sym X3 X044 (nt:=53) rfl rfl ?_ okM;unfold X25 at h;revert h;refine bI λXz7 h12=>rnI [.stop 1] ?_;intro h;refine X2.join (s':=⟨fr [(2,(AV.ptr 0 0 0)),(3,(AV.ptr 1 0 0)),(4,(AV.ptr 2 0 0)),(13,(aB Xz7))],hp ([(0,Ob [(X0q a0)] 4),(1,Ob [(X0q a1)] 4),(2,Ob [(X0q (X11.mk 0 0 0 0))] 4)]),3⟩) ?_ (λJ=>X2.cut ?_)
 ·
  revert h;exact brI (λh13=>λe=>oj e▸X7 [Bt] (k:=fi)) λh13=>brI (λh14=>λe=>oj e▸X7 [Bf,.wrap,Bt] (k:=fi)) λh14=>brI (λh15=>λe=>oj e▸X7 [Bf,.wrap,Bf,Bt] (k:=fi)) λh15=>brI (λh16=>λe=>oj e▸X7 [Bf,.wrap,Bf,Bf,Bt] (k:=fi)) λh16=>λe=>oj e▸X7 [Bf,.wrap,Bf,Bf,Bf,.wrap,.wrap] (k:=fi)
 clear h;revert h12;refine bI λv7 h8=>brI (λh9=>?_) λh9=>?_
 ·
  intro h;obtain rfl:=oj h;exact X7 [.pure _ (aI .i64 v7),Gf,Gf,Gf] (k:=wkT [] (X2.glue J))
 refine bI λv10 h11=>?_;intro h;obtain rfl:=oj h;exact X7 [.pure _ (aI .i64 v7),Gt,Gt,.pure _ (aI .i64 v10),Gt] (k:=wkT [] (X2.glue J))⟩
instance Xs8:PCs Tryz.prog 170 (∀ (a0:Int) (a1:Int) (r:Int),X9o a0 a1=some r->X0i Tryz.prog 170 [(aI .i64 a0),(aI .i64 a1)] (aI .i64 r)):=⟨λa0 a1 r h=>by
 refine X0i.sym X3 X03v (nt:=17) rfl rfl ?_ okM;unfold X9o at h;revert h;exact brI (λh1=>λe=>oj e▸X7 [Bt] (k:=fi)) λh1=>brI (λh2=>λe=>oj e▸X7 [Bf,Bt] (k:=fi)) λh2=>λe=>oj e▸X7 [Bf,Bf] (k:=fi)⟩
instance Xro:PCs Tryz.prog 151 (∀ (a0:Int) (a1:Int) (r:Int×Int),X6e a0 a1=some r->X0i Tryz.prog 151 [(aI .i64 a0),(aI .i64 a1)] (AV.tup [(aI .i64 r.1),(aI .i64 r.2)])):=⟨λa0 a1 r h=>by
 refine X0i.sym X3 X043 (nt:=24) rfl rfl ?_ okM;unfold X6e at h;revert h;refine bI λv1 h2=>brI (λh3=>λe=>oj e▸X7 [.pure _ (aI .i64 v1),Bt] (k:=fi)) λh3=>bI λu4 h5=>bI λj7_7 h9=>rnI [.pure _ (aI .i64 v1),Bf,.wrap] ?_;intro h;refine X2.join (s':=⟨fr [(7,(aI .i64 j7_7))],hp ([]),0⟩) ?_ (λJ=>X2.cut ?_)
 ·
  revert h;exact λe=>oj e▸X7 [] (k:=fi)
 clear h;revert h9;refine brI (λh8=>?_) λh8=>?_
 ·
  intro h;obtain rfl:=oj h;exact X7 [Bt,.wrap] (k:=wkT [] (X2.glue J))
 intro h;obtain rfl:=oj h;exact X7 [Bf] (k:=wkT [] (X2.glue J))⟩
instance Xbx:PCs Tryz.prog 123 (∀ (a0:Int) (a1:Int) (r:X04×Int),Xad a0 a1=some r->X0i Tryz.prog 123 [(aI .i64 a0),(aI .i64 a1)] (AV.tup [(Xy r.1),(aI .i64 r.2)])):=⟨λa0 a1 r h=>by
 refine X0i.sym X3 X04l (nt:=26) rfl rfl ?_ okM;unfold Xad at h;revert h;exact bI λv1 h2=>brI (λh3=>λe=>oj e▸X7 [.pure _ (AV.tup [(aI .i64 v1.1),(aI .i64 v1.2)]),Bt] (k:=fi)) λh3=>λe=>oj e▸X7 [.pure _ (AV.tup [(aI .i64 v1.1),(aI .i64 v1.2)]),Bf,.wrap,.wrap,.wrap] (k:=fi)⟩
theorem Xhl {Q:Xx->St->Mu->Prop} {μ:Mu} (X0u:Int) (X7w:Int) (Xjn:Int):∀ (n:Nat) (Xn:(List X04)) (X9k:Int) (X1r:Nb Xn) (o:Xa3) (h:X4v X0u X7w Xjn n Xn X9k=some o)
  (C0:∀ (X07:(List X04)) (X0o:Nb X07),o=Xa3.x0 X07->X2 Tryz.prog 70 0 Q (.exit (.exit 0)) [] ⟨fr [(10,(slE X0o.1 0 (X07.map Xy)))],hp ([]++opE X0o.1 0 2 (X07.map Xy)),1⟩ μ),
  X2 Tryz.prog 70 0 Q (.loop (X48 0 (Xa Tryz.f124))) [] ⟨fr [(0,(aI .i64 X0u)),(1,(aI .i64 X7w)),(2,(aI .i64 Xjn)),(10,(slE X1r.1 0 (Xn.map Xy))),(11,(aI .i64 X9k))],hp ([]++opE X1r.1 0 2 (Xn.map Xy)),1⟩ μ:=by
 intro n
 induction n with
 |zero=>intro Xn X9k X1r o h C0;cases h
 |succ n ih =>
  intro Xn X9k X1r o h C0;rw[X4v] at h;rcases X1r with ⟨_|_,X5d⟩
  ·
   refine X2.round ?_;revert h;refine brI (λh18=>?_) λh18=>λe=>X7 [.wrap,Bf] (k:=wkT [] (C0 _  nbF (oj e).symm));refine bI λu19 h20=>rnI [.wrap,Bt,.wrap,.no,.wrap] (o:=by repeat' first|apply Ya|exact pcM|(refine X02 h20 rfl ?_;first|(simp<;>omega)|(simp[h18]<;>omega))|(refine Xk h20 (by decide) ?_;first|(simp<;>omega)|(simp[h18]<;>omega))|exact Xz) ?_;intro h;exact wkT [(0,2)] (ih  _ _ nbF o h C0)
  obtain rfl:=X5d rfl;refine X2.round ?_;revert h;refine brI (λh21=>?_) λh21=>λe=>X7 [.wrap,Bf] (k:=wkT [] (C0 _  nbS (oj e).symm));refine bI λu22 h23=>rnI [.wrap,Bt,.wrap,.no,.wrap] (o:=by repeat' first|apply Ya|exact pcM|(refine X02 h23 rfl ?_;first|(simp<;>omega)|(simp[h21]<;>omega))|(refine Xk h23 (by decide) ?_;first|(simp<;>omega)|(simp[h21]<;>omega))|exact Xz) ?_;intro h;exact wkT [(0,2)] (ih  _ _ nbF o h C0)
theorem X9q {Q:Xx->St->Mu->Prop}  {rb rD:Nat} {rr:Loop} (rh1:rr.state=.ready) (rh2:rr.pending=none) (rh3:rr.params=(rfB 0 (Xa Tryz.f124)).1) (rh4:rr.assign=(rfB 0 (Xa Tryz.f124)).2.1) (rh5:rr.body=(rfB 0 (Xa Tryz.f124)).2.2) (X1h:(List X04)) (Xgz:Nb X1h):∀ (n:Nat) (X0c:(List X04)) (Xd1:Int) (X0t:Nb X0c) (o:X7d) (h:X2y X1h n X0c Xd1=some o)
  (C0:∀ (X1p:(List X04)) (Xbo:(List X04)) (X1u:Nb X1p) (X8o:Nb Xbo),o=X7d.x0 X1p Xbo->X2 Tryz.prog 19 3 Q (.exit (.exit 0)) [] ⟨fr [],hp ([(1,Ob [(slE X1u.1 3 (X1p.map Xy))] 1),(2,Ob [(slE X8o.1 4 (Xbo.map Xy))] 1)]++opE X1u.1 3 2 (X1p.map Xy)++opE X8o.1 4 2 (Xbo.map Xy)),5⟩ [(rb,MuE.loop rr 70 3 (fr [(12,(AV.ptr 1 0 0)),(62,(AV.fn 171 [(AV.ptr 2 0 0)]))])),(rD,MuE.blk (Go.Obj.deferred (some [])))]),
  X2 Tryz.prog 19 3 Q (.loop (X48 0 (Xa Tryz.f171))) [] ⟨fr [(0,(AV.sc (.func (.yield rb) #[] #[]))),(1,(AV.ptr 2 0 0)),(3,(aI .i64 Xd1))],hp ([(1,Ob [(slE X0t.1 3 (X0c.map Xy))] 1),(2,Ob [(slE Xgz.1 4 (X1h.map Xy))] 1)]++opE X0t.1 3 2 (X0c.map Xy)++opE Xgz.1 4 2 (X1h.map Xy)),5⟩ [(rb,MuE.loop rr 70 3 (fr [(12,(AV.ptr 1 0 0)),(62,(AV.fn 171 [(AV.ptr 2 0 0)]))])),(rD,MuE.blk (Go.Obj.deferred (some [])))]:=by
 intro n
 induction n with
 |zero=>intro X0c Xd1 X0t o h C0;cases h
 |succ n ih =>
  intro X0c Xd1 X0t o h C0;rw[X2y] at h;rcases X0t with ⟨_|_,X2h⟩
  ·
   rcases Xgz with ⟨_|_,Xl6⟩
   ·
    refine X2.round ?_;revert h;refine brI (λh67=>?_) λh67=>λe=>X7 [Bf] (k:=wkT [] (C0 _ _  nbF nbF (oj e).symm));refine bI λe68 h69=>?_;try have qh69:=Xo h69
    refine rnI [Bt,.el (Xy e68),.ld (Xy e68)] ?_;intro h;refine X2.yield rfl rfl rfl rfl rfl trivial trivial (.head _) rh1 rh2 rh3 rh4 rh5 rfl rfl ?_;refine X0e [] ?_;refine X2.asg ?_;revert h;refine bI λu72 h73=>rnI [.no] (o:=by repeat' first|apply Ya|exact pcM|(refine X02 h73 rfl ?_;first|(simp<;>omega)|(simp[h67]<;>omega))|(refine Xk h73 (by decide) ?_;first|(simp<;>omega)|(simp[h67]<;>omega))|exact Xz) ?_;intro h;refine X2.rndEnd ?_;exact X7 [Bf,.wrap] (k:=wkT [(3,7)] (ih  _ _ nbF o h C0))
   obtain rfl:=Xl6 rfl;refine X2.round ?_;revert h;refine brI (λh74=>?_) λh74=>λe=>X7 [Bf] (k:=wkT [] (C0 _ _  nbF nbS (oj e).symm));refine bI λe75 h76=>?_;try have qh76:=Xo h76
   intro h
   first|exact absurd (h76) (by simp[X1o];done)|(simp[X1o,h74] at h;done)|(simp[h74] at hg;done)|exact absurd (h76) (by simp[X1o,h74];done)
  obtain rfl:=X2h rfl;rcases Xgz with ⟨_|_,Xl6⟩
  ·
   refine X2.round ?_;revert h;refine brI (λh77=>?_) λh77=>λe=>X7 [Bf] (k:=wkT [] (C0 _ _  nbS nbF (oj e).symm));refine bI λe78 h79=>?_;try have qh79:=Xo h79
   refine rnI [Bt,.el (Xy e78),.ld (Xy e78)] ?_;intro h;refine X2.yield rfl rfl rfl rfl rfl trivial trivial (.head _) rh1 rh2 rh3 rh4 rh5 rfl rfl ?_;refine X0e [] ?_;refine X2.asg ?_;revert h;refine bI λu82 h83=>rnI [.no] (o:=by repeat' first|apply Ya|exact pcM|(refine X02 h83 rfl ?_;first|(simp<;>omega)|(simp[h77]<;>omega))|(refine Xk h83 (by decide) ?_;first|(simp<;>omega)|(simp[h77]<;>omega))|exact Xz) ?_;intro h;refine X2.rndEnd ?_;exact X7 [Bf,.wrap] (k:=wkT [(3,7)] (ih  _ _ nbF o h C0))
  obtain rfl:=Xl6 rfl;refine X2.round ?_;revert h;refine brI (λh84=>?_) λh84=>λe=>X7 [Bf] (k:=wkT [] (C0 _ _  nbS nbS (oj e).symm));refine bI λe85 h86=>?_;try have qh86:=Xo h86
  intro h
  first|exact absurd (h86) (by simp[X1o];done)|(simp[X1o,h84] at h;done)|(simp[h84] at hg;done)|exact absurd (h86) (by simp[X1o,h84];done)
instance Xxn:PCs Tryz.prog 124 (∀ (a0:Int) (a1:Int) (a2:Int) (r:(List X04)×Int),Xc0 a0 a1 a2=some r->X0i Tryz.prog 124 [(aI .i64 a0),(aI .i64 a1),(aI .i64 a2)] (AV.tup [(Lt (r.1.map Xy)),(aI .i64 r.2)])):=⟨λa0 a1 a2 r h=>by
 refine X0i.sym X3 X04k (nt:=70) rfl rfl ?_ okM;unfold Xc0 at h;revert h;refine brI (λh1=>λe=>oj e▸X7 [.wrap,Bt] (k:=fi)) λh1=>bI λv2 h3=>brI (λh4=>λe=>oj e▸X7 [.wrap,Bf,.pure _ (AV.tup [(Xy v2.1),(aI .i64 v2.2)]),Bt] (k:=fi)) λh4=>bI λo24 h25=>rnI [.wrap,Bf,.pure _ (AV.tup [(Xy v2.1),(aI .i64 v2.2)]),Bf] ?_;intro h;refine wkT [] (X2.cut (Xhl a0 a1 a2 _ _ _ nbS _ h25 ?_));intro X07 X0o eo24;subst eo24;refine X2.glue ?_;try dsimp only at h
 rcases X0o with ⟨_|_,X3u⟩
 ·
  refine X0e [] ?_;refine X2.inline X3 X020 rfl rfl rfl rfl rfl trivial trivial rfl rfl ?_;refine X0e [] ?_;refine X2.back (by intro id h;cases h) rfl ?_;refine X0e [] ?_;refine X2.keepL [12,62] ?_;refine X2.rangeFunc rfl trivial X01y rfl rfl rfl ?_;intro rb rD rr rh1 rh2 rh3 rh4 rh5;revert h;refine bI λo87 h88=>rnI [.el (aI .i64 (X07.length:Int)),.wrap] ?_;intro h;refine wkT [(4,0)] (X2.cut (X9q rh1 rh2 rh3 rh4 rh5 X07 nbF _ _ _ nbS _ h88 ?_));intro X1p Xbo X1u X8o eo87;subst eo87;refine X2.glue ?_;try dsimp only at h
  rcases X1u with ⟨_|_,X5c⟩<;>(try obtain rfl:=X5c rfl);all_goals
   rcases X8o with ⟨_|_,Xfa⟩<;>(try obtain rfl:=Xfa rfl);all_goals
    refine X0e [] ?_;refine X2.rfEnd (by intro id h;cases h) ?_;revert h;exact λe=>oj e▸X7 [] (k:=fi)
 obtain rfl:=X3u rfl;refine X0e [] ?_;refine X2.inline X3 X020 rfl rfl rfl rfl rfl trivial trivial rfl rfl ?_;refine X0e [] ?_;refine X2.back (by intro id h;cases h) rfl ?_;refine X0e [] ?_;refine X2.keepL [12,62] ?_;refine X2.rangeFunc rfl trivial X01y rfl rfl rfl ?_;intro rb rD rr rh1 rh2 rh3 rh4 rh5;revert h;refine bI λo130 h131=>rnI [.el (aI .i64 (List.length ([]:List X04):Int)),.wrap] ?_;intro h;refine wkT [] (X2.cut (X9q rh1 rh2 rh3 rh4 rh5 ([]:List X04) nbS _ _ _ nbS _ h131 ?_));intro X1p Xbo X1u X8o eo130;subst eo130;refine X2.glue ?_;try dsimp only at h
 rcases X1u with ⟨_|_,X5c⟩<;>(try obtain rfl:=X5c rfl);all_goals
  rcases X8o with ⟨_|_,Xfa⟩<;>(try obtain rfl:=Xfa rfl);all_goals
   refine X0e [] ?_;refine X2.rfEnd (by intro id h;cases h) ?_;revert h;exact λe=>oj e▸X7 [] (k:=fi)⟩
instance Xhk:PCs Tryz.prog 83 (∀ (a0:X0l) (a1:Int) (r:(List X04)×Int),Xdt a0 a1=some r->X0i Tryz.prog 83 [(X33 a0),(aI .i64 a1)] (AV.tup [(Lt (r.1.map Xy)),(aI .i64 r.2)])):=⟨λa0 a1 r h=>by
 refine X0i.sym X3 fn83 (nt:=40) rfl rfl ?_ okM;unfold Xdt at h;revert h;exact bI λv1 h2=>brI (λh3=>λe=>oj e▸X7 [.pure _ (aI .i64 v1),Bt] (k:=fi)) λh3=>brI (λh4=>bI λv5 h6=>brI (λh7=>λe=>oj e▸X7 [.pure _ (aI .i64 v1),Bf,Bt,.pure _ (AV.tup [(Xy v5.1),(aI .i64 v5.2)]),Bt] (k:=fi)) λh7=>λe=>oj e▸X7 [.pure _ (aI .i64 v1),Bf,Bt,.pure _ (AV.tup [(Xy v5.1),(aI .i64 v5.2)]),Bf] (k:=fi)) λh4=>brI (λh8=>bI λv9 h10=>λe=>oj e▸X7 [.pure _ (aI .i64 v1),Bf,Bf,Bt,.pure _ (AV.tup [(Lt (v9.1.map Xy)),(aI .i64 v9.2)])] (k:=fi)) λh8=>λe=>oj e▸X7 [.pure _ (aI .i64 v1),Bf,Bf,Bf] (k:=fi)⟩
end Go.Av.Tryz