/- Printed by decomp.py: that the program computes the functions. -/
import Derived.Test.YtkjlgmgfhgamlaaGreatDCert4Z
set_option linter.all false

namespace Go.Av.Tryz
open Go.Proofs Go.D
set_option maxRecDepth 10000
set_option maxHeartbeats 40000000
theorem Xgq {Q:Xx->St->Mu->Prop} {μ:Mu} (Xdi:Xo) (Xc8:(List Xe)) (hl:Xc8.length<=140737488355328):∀ (xs:List Xe) (k:Nat) (hx:Xc8.drop k=xs) (Xjd:Bool) (o:X97) (h:X3l Xdi Xc8 xs k Xjd=some o)
  (C0:∀ (Xf4:Bool),o=X97.x0 Xf4->X5 Tryz.prog 202 0 Q (.exit (.exit 6)) [] ⟨fr [(1,(AV.ptr 0 0 0)),(11,(aB Xf4))],hp ([(0,Ob [(Xc false Xdi)] 9)]),1⟩ μ),
  X5 Tryz.prog 202 0 Q (.loop (X4c 3 (Xd Tryz.f61))) [] ⟨fr [(1,(AV.ptr 0 0 0)),(11,(aB Xjd)),(164,(Lf (Xc8.map Xt))),(165,(aI .i64 (Xc8.length:Int))),(166,(aI .i64 (k:Int)))],hp ([(0,Ob [(Xc false Xdi)] 9)]),1⟩ μ:=by
 intro xs
 induction xs with
 |nil =>
  intro k hx Xjd o h C0
  have hk:=X1u hx
  have hc:decide ((k:Int)<(Xc8.length:Int))=false:=Yf (by omega)
  rw[X3l] at h
  refine X5.round ?_
  revert h
  exact fun e=>Xb [Bf] (k:=wkT [] (C0 _  (oj e).symm))
 |cons x xs ih =>
  intro k hx Xjd o h C0
  obtain⟨hk,hg,hx1⟩:=X13 hx
  have hc:decide ((k:Int)<(Xc8.length:Int))=true:=Yt (by omega)
  rw[X3l] at h
  refine X5.round ?_
  revert h
  refine bI fun Xow h163=>rnI [Bt,.el (Xt x),.stop 25] ?_
  intro h
  refine X5.join (s':=⟨fr [(1,(AV.ptr 0 0 0)),(11,(aB Xow)),(164,(Lf (Xc8.map Xt))),(165,(aI .i64 (Xc8.length:Int))),(166,(aI .i64 (k:Int)))],hp ([(0,Ob [(Xc false Xdi)] 9)]),1⟩) ?_ (fun J=>X5.cut ?_)
  ·
   exact Xb [] (k:=wkT [] (ih (k+1) hx1 _ o h C0))
  clear h;revert h163
  refine brI (fun h160=>?_) fun h160=>?_
  ·
   refine bI fun v161 h162=>?_
   intro h
   obtain rfl:=oj h
   exact Xb [.go true,.go true,.go true,.pure _ (aI .i64 v161),.go true] (k:=wkT [] (X5.glue J))
  intro h
  obtain rfl:=oj h
  exact Xb [.go false,.go false,.go false,.go false] (k:=wkT [] (X5.glue J))
theorem Xgp {Q:Xx->St->Mu->Prop} {μ:Mu} (Xm8:Xo) (Xc7:(List X4)) (hl:Xc7.length<=140737488355328):∀ (xs:List X4) (k:Nat) (hx:Xc7.drop k=xs) (Xhm:Bool) (o:X96) (h:X3k Xm8 Xc7 xs k Xhm=some o)
  (C0:∀ (Xf3:Bool),o=X96.x0 Xf3->X5 Tryz.prog 202 0 Q (.exit (.exit 8)) [] ⟨fr [(11,(aB Xf3))],hp ([]),0⟩ μ),
  X5 Tryz.prog 202 0 Q (.loop (X4c 4 (Xd Tryz.f61))) [] ⟨fr [(1,(AV.ptr 0 0 0)),(11,(aB Xhm)),(179,(Lf (Xc7.map X3))),(180,(aI .i64 (Xc7.length:Int))),(181,(aI .i64 (k:Int)))],hp ([(0,Ob [(Xc false Xm8)] 9)]),1⟩ μ:=by
 intro xs
 induction xs with
 |nil =>
  intro k hx Xhm o h C0
  have hk:=X1u hx
  have hc:decide ((k:Int)<(Xc7.length:Int))=false:=Yf (by omega)
  rw[X3k] at h
  refine X5.round ?_
  revert h
  exact fun e=>Xb [Bf] (k:=wkT [] (C0 _  (oj e).symm))
 |cons x xs ih =>
  intro k hx Xhm o h C0
  obtain⟨hk,hg,hx1⟩:=X13 hx
  have hc:decide ((k:Int)<(Xc7.length:Int))=true:=Yt (by omega)
  rw[X3k] at h
  refine X5.round ?_
  revert h
  refine bI fun Xov h186=>rnI [Bt,.el (X3 x),.stop 30] ?_
  intro h
  refine X5.join (s':=⟨fr [(1,(AV.ptr 0 0 0)),(11,(aB Xov)),(179,(Lf (Xc7.map X3))),(180,(aI .i64 (Xc7.length:Int))),(181,(aI .i64 (k:Int)))],hp ([(0,Ob [(Xc false Xm8)] 9)]),1⟩) ?_ (fun J=>X5.cut ?_)
  ·
   exact Xb [] (k:=wkT [] (ih (k+1) hx1 _ o h C0))
  clear h;revert h186
  refine brI (fun h184=>?_) fun h184=>?_
  ·
   refine brI (fun h185=>?_) fun h185=>?_
   ·
    intro h
    obtain rfl:=oj h
    exact Xb [.go true,.go true,.go true,.go true,.go true,.go false,.go false,.go false,.go false,.go false,.go true] (k:=wkT [] (X5.glue J))
   intro h
   obtain rfl:=oj h
   exact Xb [.go true,.go true,.go true,.go true,.go true,.go true,.go true,.ix 1,.go true,.go true,.go true,.go true] (k:=wkT [] (X5.glue J))
  intro h
  obtain rfl:=oj h
  exact Xb [.go false,.go false,.go false,.go false,.go false,.go false,.go false,.go false,.go false,.go false,.go false] (k:=wkT [] (X5.glue J))
instance Xwy:PCs Tryz.prog 61 (∀ (a0:Xo) (r:Int),X8r a0=some r->X0h Tryz.prog 61 [(Xc false a0)] (aI .i64 r)):=⟨fun a0 r h=>by
 refine X0h.sym X8 fn61 (nt:=202) rfl rfl ?_ okM
 unfold X8r at h
 revert h
 refine bI fun v1 h2=>bI fun Xkj h32=>rnI [.pure _ (AV.tup [(aI .i64 v1.1),(aI .i64 v1.2.1),(aB v1.2.2.1),(aB v1.2.2.2.1),(aB v1.2.2.2.2.1),(aB v1.2.2.2.2.2)]),.stop 3] ?_
 intro h
 refine X5.join (s':=⟨fr [(1,(AV.ptr 0 0 0)),(9,(aB (bif (bif (bif (decide (a0.Turn >= (0:Int))) then (decide (a0.Turn<(20:Int))) else false) then (decide (a0.Op.N >= (0:Int))) else false) then (decide (a0.Op.N<(4:Int))) else false))),(10,(aB Xkj))],hp ([(0,Ob [(Xc false a0)] 9)]),1⟩) ?_ (fun J=>X5.cut ?_)
 ·
  revert h
  refine bI fun Xoo h48=>rnI [.stop 4] ?_
  intro h
  refine X5.join (s':=⟨fr [(1,(AV.ptr 0 0 0)),(120,(aB Xoo))],hp ([(0,Ob [(Xc false a0)] 9)]),1⟩) ?_ (fun J=>X5.cut ?_)
  ·
   revert h
   refine brI (fun h49=>fun e=>oj e▸Xb [Bt] (k:=fi)) fun h49=>bI fun u50 h51=>?_
   have qh51:=X16 h51
   refine bI fun o77 h78=>rnI [Bf,.el (aI .i64 (a0.Marks.length:Int))] ?_
   intro h
   refine wkT [] (X5.cut (Xgt a0 a0.Marks qh51 a0.Marks 0 (by simp) _ _ h78 ?_))
   intro Xf7 eo77;subst eo77
   refine X5.glue ?_
   try dsimp only at h
   revert h
   refine bI fun u79 h80=>?_
   have qh80:=X16 h80
   refine bI fun o106 h107=>rnI [.el (aI .i64 (a0.Events.length:Int))] ?_
   intro h
   refine wkT [] (X5.cut (Xgs a0 a0.Events qh80 a0.Events 0 (by simp) _ _ h107 ?_))
   intro Xf6 eo106;subst eo106
   refine X5.glue ?_
   try dsimp only at h
   revert h
   refine bI fun u108 h109=>?_
   have qh109:=X16 h109
   refine bI fun o135 h136=>rnI [.el (aI .i64 (a0.Rows.length:Int))] ?_
   intro h
   refine wkT [] (X5.cut (Xgr a0 a0.Rows qh109 a0.Rows 0 (by simp) _ _ h136 ?_))
   intro Xf5 eo135;subst eo135
   refine X5.glue ?_
   try dsimp only at h
   revert h
   refine bI fun u137 h138=>?_
   have qh138:=X16 h138
   refine bI fun o164 h165=>rnI [.el (aI .i64 (a0.Late.length:Int))] ?_
   intro h
   refine wkT [] (X5.cut (Xgq a0 a0.Late qh138 a0.Late 0 (by simp) _ _ h165 ?_))
   intro Xf4 eo164;subst eo164
   refine X5.glue ?_
   try dsimp only at h
   revert h
   refine bI fun u166 h167=>?_
   have qh167:=X16 h167
   refine bI fun o187 h188=>rnI [.el (aI .i64 (a0.Store.length:Int))] ?_
   intro h
   refine wkT [] (X5.cut (Xgp a0 a0.Store qh167 a0.Store 0 (by simp) _ _ h188 ?_))
   intro Xf3 eo187;subst eo187
   refine X5.glue ?_
   try dsimp only at h
   revert h
   exact brI (fun h189=>fun e=>oj e▸Xb [Bt] (k:=fi)) fun h189=>fun e=>oj e▸Xb [Bf] (k:=fi)
  clear h;revert h48
  refine brI (fun h41=>?_) fun h41=>?_
  ·
   intro h
   obtain rfl:=oj h
   exact Xb [.go false,.go false,.go false,.go false,.go false,.go false,.go false,.go false,.go false,.go false] (o:=by repeat' first|apply Ya|exact pcM|exact((X0 h41 rfl))|exact(X6 (X0 h41 rfl))|exact(X24 (X0 h41 rfl))|exact((X0 (X0 h41 rfl) rfl))|exact(X6 (X0 (X0 h41 rfl) rfl))|exact(X24 (X0 (X0 h41 rfl) rfl))|exact Xr) (k:=wkT [] (X5.glue J))
  refine brI (fun h42=>?_) fun h42=>?_
  ·
   intro h
   obtain rfl:=oj h
   exact Xb [.go true,.go true,.go false,.go false,.go false,.go false,.go false,.go false,.go false,.go false] (o:=by repeat' first|apply Ya|exact pcM|exact((X1 h41 h42))|exact(X6 (X1 h41 h42))|exact(X24 (X1 h41 h42))|exact((X0 (X1 h41 h42) rfl))|exact(X6 (X0 (X1 h41 h42) rfl))|exact(X24 (X0 (X1 h41 h42) rfl))|exact Xr) (k:=wkT [] (X5.glue J))
  refine bI fun v43 h44=>brI (fun h45=>?_) fun h45=>?_
  ·
   intro h
   obtain rfl:=oj h
   exact Xb [.go true,.go true,.go true,.go true,.go true,.pure _ (aB v43),.go true,.go false,.go false,.go false,.go false] (o:=by repeat' first|apply Ya|exact pcM|exact((X1 h41 h42))|exact(X6 (X1 h41 h42))|exact(X1q (X1 h41 h42))|exact((X1 (X1 h41 h42) h45))|exact(X6 (X1 (X1 h41 h42) h45))|exact(X24 (X1 (X1 h41 h42) h45))|exact Xr) (k:=wkT [] (X5.glue J))
  refine bI fun v46 h47=>?_
  intro h
  obtain rfl:=oj h
  exact Xb [.go true,.go true,.go true,.go true,.go true,.pure _ (aB v43),.go true,.go true,.go true,.go true,.pure _ (aI .i64 v46),.go true] (o:=by repeat' first|apply Ya|exact pcM|exact((X1 h41 h42))|exact(X6 (X1 h41 h42))|exact(X1q (X1 h41 h42))|exact((X1 (X1 h41 h42) h45))|exact(X6 (X1 (X1 h41 h42) h45))|exact(X1q (X1 (X1 h41 h42) h45))|exact Xr) (k:=wkT [] (X5.glue J))
 clear h;revert h32
 refine brI (fun h18=>?_) fun h18=>?_
 ·
  refine brI (fun h19=>?_) fun h19=>?_
  ·
   refine brI (fun h20=>?_) fun h20=>?_
   ·
    refine bI fun v21 h22=>brI (fun h23=>?_) fun h23=>?_
    ·
     refine bI fun v24 h25=>brI (fun h26=>?_) fun h26=>?_
     ·
      refine bI fun v27 h28=>brI (fun h29=>?_) fun h29=>?_
      ·
       refine bI fun v30 h31=>?_
       intro h
       obtain rfl:=oj h
       exact Xb [X2a.el (aI .i64 (a0.Pending.length:Int)),.go true,.go true,.go true,X2a.el (aI .i64 (a0.Marks.length:Int)),.go true,.go true,.go true,.go true,.go true,X2a.el (aI .i64 (a0.Marks.length:Int)),.go true,.go true,.go true,.go true,.go true,X2a.el (aI .i64 (a0.Store.length:Int)),.go true,.go true,X2a.pure _ (aI .i64 v21),.go true,.go true,.go true,.go true,X2a.el (aI .i64 (a0.Events.length:Int)),.go true,.go true,X2a.pure _ (aI .i64 v24),.go true,.go true,.go true,.go true,X2a.el (aI .i64 (a0.Rows.length:Int)),.go true,.go true,X2a.pure _ (aI .i64 v27),.go true,.go true,.go true,.go true,X2a.el (aI .i64 (a0.Late.length:Int)),.go true,.go true,X2a.pure _ (aI .i64 v30),.go true] (o:=by repeat' first|apply Ya|exact pcM|exact((X0 h18 h19))|exact(X6 (X0 h18 h19))|exact(X24 (X0 h18 h19))|exact((X0 (X0 h18 h19) h20))|exact(X6 (X0 (X0 h18 h19) h20))|exact(X24 (X0 (X0 h18 h19) h20))|exact((X0 (X0 (X0 h18 h19) h20) h23))|exact(X6 (X0 (X0 (X0 h18 h19) h20) h23))|exact(X24 (X0 (X0 (X0 h18 h19) h20) h23))|exact((X0 (X0 (X0 (X0 h18 h19) h20) h23) h26))|exact(X6 (X0 (X0 (X0 (X0 h18 h19) h20) h23) h26))|exact(X24 (X0 (X0 (X0 (X0 h18 h19) h20) h23) h26))|exact((X0 (X0 (X0 (X0 (X0 h18 h19) h20) h23) h26) h29))|exact(X6 (X0 (X0 (X0 (X0 (X0 h18 h19) h20) h23) h26) h29))|exact(X24 (X0 (X0 (X0 (X0 (X0 h18 h19) h20) h23) h26) h29))|exact Xr) (k:=wkT [] (X5.glue J))
      intro h
      obtain rfl:=oj h
      exact Xb [X2a.el (aI .i64 (a0.Pending.length:Int)),.go true,.go true,.go true,X2a.el (aI .i64 (a0.Marks.length:Int)),.go true,.go true,.go true,.go true,.go true,X2a.el (aI .i64 (a0.Marks.length:Int)),.go true,.go true,.go true,.go true,.go true,X2a.el (aI .i64 (a0.Store.length:Int)),.go true,.go true,X2a.pure _ (aI .i64 v21),.go true,.go true,.go true,.go true,X2a.el (aI .i64 (a0.Events.length:Int)),.go true,.go true,X2a.pure _ (aI .i64 v24),.go true,.go true,.go true,.go true,X2a.el (aI .i64 (a0.Rows.length:Int)),.go true,.go true,X2a.pure _ (aI .i64 v27),.go true,.go false,.go false,.go false,.go false,.go false,.go false,.go false] (o:=by repeat' first|apply Ya|exact pcM|exact((X0 h18 h19))|exact(X6 (X0 h18 h19))|exact(X24 (X0 h18 h19))|exact((X0 (X0 h18 h19) h20))|exact(X6 (X0 (X0 h18 h19) h20))|exact(X24 (X0 (X0 h18 h19) h20))|exact((X0 (X0 (X0 h18 h19) h20) h23))|exact(X6 (X0 (X0 (X0 h18 h19) h20) h23))|exact(X24 (X0 (X0 (X0 h18 h19) h20) h23))|exact((X0 (X0 (X0 (X0 h18 h19) h20) h23) h26))|exact(X6 (X0 (X0 (X0 (X0 h18 h19) h20) h23) h26))|exact(X24 (X0 (X0 (X0 (X0 h18 h19) h20) h23) h26))|exact((X0 (X0 (X0 (X0 (X0 h18 h19) h20) h23) h26) h29))|exact(X6 (X0 (X0 (X0 (X0 (X0 h18 h19) h20) h23) h26) h29))|exact Xr) (k:=wkT [] (X5.glue J))
     intro h
     obtain rfl:=oj h
     exact Xb [X2a.el (aI .i64 (a0.Pending.length:Int)),.go true,.go true,.go true,X2a.el (aI .i64 (a0.Marks.length:Int)),.go true,.go true,.go true,.go true,.go true,X2a.el (aI .i64 (a0.Marks.length:Int)),.go true,.go true,.go true,.go true,.go true,X2a.el (aI .i64 (a0.Store.length:Int)),.go true,.go true,X2a.pure _ (aI .i64 v21),.go true,.go true,.go true,.go true,X2a.el (aI .i64 (a0.Events.length:Int)),.go true,.go true,X2a.pure _ (aI .i64 v24),.go true,.go false,.go false,.go false,.go false,.go false,.go false,.go false,.go false,.go false,.go false,.go false,.go false,.go false,.go false] (o:=by repeat' first|apply Ya|exact pcM|exact((X0 h18 h19))|exact(X6 (X0 h18 h19))|exact(X24 (X0 h18 h19))|exact((X0 (X0 h18 h19) h20))|exact(X6 (X0 (X0 h18 h19) h20))|exact(X24 (X0 (X0 h18 h19) h20))|exact((X0 (X0 (X0 h18 h19) h20) h23))|exact(X6 (X0 (X0 (X0 h18 h19) h20) h23))|exact(X24 (X0 (X0 (X0 h18 h19) h20) h23))|exact((X0 (X0 (X0 (X0 h18 h19) h20) h23) h26))|exact(X6 (X0 (X0 (X0 (X0 h18 h19) h20) h23) h26))|exact Xr) (k:=wkT [] (X5.glue J))
    intro h
    obtain rfl:=oj h
    exact Xb [X2a.el (aI .i64 (a0.Pending.length:Int)),.go true,.go true,.go true,X2a.el (aI .i64 (a0.Marks.length:Int)),.go true,.go true,.go true,.go true,.go true,X2a.el (aI .i64 (a0.Marks.length:Int)),.go true,.go true,.go true,.go true,.go true,X2a.el (aI .i64 (a0.Store.length:Int)),.go true,.go true,X2a.pure _ (aI .i64 v21),.go true,.go false,.go false,.go false,.go false,.go false,.go false,.go false,.go false,.go false,.go false,.go false,.go false,.go false,.go false,.go false,.go false,.go false,.go false,.go false,.go false,.go false] (o:=by repeat' first|apply Ya|exact pcM|exact((X0 h18 h19))|exact(X6 (X0 h18 h19))|exact(X24 (X0 h18 h19))|exact((X0 (X0 h18 h19) h20))|exact(X6 (X0 (X0 h18 h19) h20))|exact(X24 (X0 (X0 h18 h19) h20))|exact((X0 (X0 (X0 h18 h19) h20) h23))|exact(X6 (X0 (X0 (X0 h18 h19) h20) h23))|exact Xr) (k:=wkT [] (X5.glue J))
   intro h
   obtain rfl:=oj h
   exact Xb [X2a.el (aI .i64 (a0.Pending.length:Int)),.go true,.go true,.go true,X2a.el (aI .i64 (a0.Marks.length:Int)),.go true,.go true,.go true,.go true,.go true,X2a.el (aI .i64 (a0.Marks.length:Int)),.go true,.go true,.go false,.go false,.go false,.go false,.go false,.go false,.go false,.go false,.go false,.go false,.go false,.go false,.go false,.go false,.go false,.go false,.go false,.go false,.go false,.go false,.go false,.go false,.go false,.go false,.go false,.go false,.go false,.go false] (o:=by repeat' first|apply Ya|exact pcM|exact((X0 h18 h19))|exact(X6 (X0 h18 h19))|exact(X24 (X0 h18 h19))|exact((X0 (X0 h18 h19) h20))|exact(X6 (X0 (X0 h18 h19) h20))|exact Xr) (k:=wkT [] (X5.glue J))
  intro h
  obtain rfl:=oj h
  exact Xb [X2a.el (aI .i64 (a0.Pending.length:Int)),.go true,.go true,.go true,X2a.el (aI .i64 (a0.Marks.length:Int)),.go true,.go true,.go false,.go false,.go false,.go false,.go false,.go false,.go false,.go false,.go false,.go false,.go false,.go false,.go false,.go false,.go false,.go false,.go false,.go false,.go false,.go false,.go false,.go false,.go false,.go false,.go false,.go false,.go false,.go false,.go false,.go false,.go false,.go false,.go false,.go false] (o:=by repeat' first|apply Ya|exact pcM|exact((X0 h18 h19))|exact(X6 (X0 h18 h19))|exact Xr) (k:=wkT [] (X5.glue J))
 intro h
 obtain rfl:=oj h
 exact Xb [X2a.el (aI .i64 (a0.Pending.length:Int)),.go false,.go false,.go false,.go false,.go false,.go false,.go false,.go false,.go false,.go false,.go false,.go false,.go false,.go false,.go false,.go false,.go false,.go false,.go false,.go false,.go false,.go false,.go false,.go false,.go false,.go false,.go false,.go false,.go false,.go false,.go false,.go false,.go false,.go false,.go false,.go false,.go false,.go false,.go false,.go false] (k:=wkT [] (X5.glue J))⟩
instance Xzl:PCs Tryz.prog 79 (∀ (a0:Int) (r:X0q),X9x a0=some r->X0h Tryz.prog 79 [(aI .i64 a0)] (X0l r)):=⟨fun a0 r h=>by
 refine X0h.sym X8 fn79 (nt:=7) rfl rfl ?_ okM
 unfold X9x at h
 revert h
 exact fun e=>oj e▸Xb [] (k:=fi)⟩
instance Xsj:PCs Tryz.prog 117 (∀ (a0:Int) (a1:Int) (r:Int),X3r a0 a1=some r->X0h Tryz.prog 117 [(aI .i64 a0),(aI .i64 a1)] (aI .i64 r)):=⟨fun a0 a1 r h=>by
 refine X0h.sym X8 X06r (nt:=17) rfl rfl ?_ okM
 unfold X3r at h
 revert h
 exact brI (fun h1=>fun e=>oj e▸Xb [Bt] (k:=fi)) fun h1=>brI (fun h2=>fun e=>oj e▸Xb [Bf,Bt] (k:=fi)) fun h2=>fun e=>oj e▸Xb [Bf,Bf] (k:=fi)⟩
instance Xqh:PCs Tryz.prog 194 (∀ (a0:Int) (r:Int),X9t a0=some r->X0h Tryz.prog 194 [(aI .u64 a0)] (aI .i64 r)):=⟨fun a0 r h=>by
 refine X0h.sym X8 X05o (nt:=25) rfl rfl ?_ okM
 unfold X9t at h
 revert h
 refine bI fun w2 h4=>?_
 intro h
 obtain⟨j2_0,j2_2⟩:=w2
 try dsimp only at h
 refine X09 [] ?_
 refine X5.join (s':=⟨fr [(0,(aI .u64 j2_0)),(2,(aI .i64 j2_2))],hp ([]),0⟩) ?_ (fun J=>X5.cut ?_)
 ·
  revert h
  refine bI fun w6 h8=>?_
  intro h
  obtain⟨j6_0,j6_2⟩:=w6
  try dsimp only at h
  refine X09 [] ?_
  refine X5.join (s':=⟨fr [(0,(aI .u64 j6_0)),(2,(aI .i64 j6_2))],hp ([]),0⟩) ?_ (fun J=>X5.cut ?_)
  ·
   revert h
   refine bI fun w10 h12=>?_
   intro h
   obtain⟨X05i,X05h⟩:=w10
   try dsimp only at h
   refine X09 [] ?_
   refine X5.join (s':=⟨fr [(0,(aI .u64 X05i)),(2,(aI .i64 X05h))],hp ([]),0⟩) ?_ (fun J=>X5.cut ?_)
   ·
    revert h
    exact bI fun b13 h14=>fun e=>oj e▸Xb [.wrap,.el (aI .u8 b13),.wrap,.wrap] (o:=by repeat' first|apply Ya|exact pcM|exact(X81 h14)|exact(X03b (tab:=Xg9) rfl h14)|exact Xr) (k:=fi)
   clear h;revert h12
   refine brI (fun h11=>?_) fun h11=>?_
   ·
    intro h
    simp only[Option.some.injEq,Prod.mk.injEq] at h
    obtain⟨rfl,rfl⟩:=h
    exact Xb [Bt,.wrap] (k:=wkT [] (X5.glue J))
   intro h
   simp only[Option.some.injEq,Prod.mk.injEq] at h
   obtain⟨rfl,rfl⟩:=h
   exact Xb [Bf] (k:=wkT [] (X5.glue J))
  clear h;revert h8
  refine brI (fun h7=>?_) fun h7=>?_
  ·
   intro h
   simp only[Option.some.injEq,Prod.mk.injEq] at h
   obtain⟨rfl,rfl⟩:=h
   exact Xb [Bt,.wrap] (k:=wkT [] (X5.glue J))
  intro h
  simp only[Option.some.injEq,Prod.mk.injEq] at h
  obtain⟨rfl,rfl⟩:=h
  exact Xb [Bf] (k:=wkT [] (X5.glue J))
 clear h;revert h4
 refine brI (fun h3=>?_) fun h3=>?_
 ·
  intro h
  simp only[Option.some.injEq,Prod.mk.injEq] at h
  obtain⟨rfl,rfl⟩:=h
  exact Xb [Bt] (k:=wkT [] (X5.glue J))
 intro h
 simp only[Option.some.injEq,Prod.mk.injEq] at h
 obtain⟨rfl,rfl⟩:=h
 exact Xb [Bf] (k:=wkT [] (X5.glue J))⟩
instance Xsp:PCs Tryz.prog 169 (∀ (a0:Int) (r:Int),X8l a0=some r->X0h Tryz.prog 169 [(aI .u64 a0)] (aI .i64 r)):=⟨fun a0 r h=>by
 refine X0h.sym X8 X05z (nt:=8) rfl rfl ?_ okM
 unfold X8l at h
 revert h
 exact bI fun v1 h2=>fun e=>oj e▸Xb [Bf,.pure _ (aI .i64 v1)] (k:=fi)⟩
theorem X3w {Q:Xx->St->Mu->Prop} {μ:Mu} (X0r:(List X4)) (Xk:X4) (Xpy:Int):∀ (n:Nat) (Xst:Int) (Xag:Int) (o:X11) (h:Xq X0r Xk Xpy n Xst Xag=some o)
  (C0:∀ (Xdo:Int),o=X11.x0 Xdo->X5 Tryz.prog 49 0 Q (.exit (.exit 0)) [] ⟨fr [(0,(Lf (X0r.map X3))),(2,(AV.fn 116 [])),(4,(AV.ptr 0 0 0)),(8,(aI .i64 Xpy)),(9,(aI .i64 Xdo))],hp ([(0,Ob [(X3 Xk)] 11)]),1⟩ μ),
  X5 Tryz.prog 49 0 Q (.loop (X4c 0 (Xd Tryz.f125))) [] ⟨fr [(0,(Lf (X0r.map X3))),(2,(AV.fn 116 [])),(4,(AV.ptr 0 0 0)),(8,(aI .i64 Xpy)),(9,(aI .i64 Xst)),(10,(aI .i64 Xag))],hp ([(0,Ob [(X3 Xk)] 11)]),1⟩ μ:=by
 intro n
 induction n with
 |zero=>intro Xst Xag o h C0;cases h
 |succ n ih =>
  intro Xst Xag o h C0
  rw[Xq] at h
  refine X5.round ?_
  revert h
  refine brI (fun h14=>?_) fun h14=>fun e=>Xb [Bf] (k:=wkT [] (C0 _  (oj e).symm))
  refine bI fun e15 h16=>?_
  try have qh16:=Xp h16
  refine bI fun v17 h18=>brI (fun h19=>?_) fun h19=>?_
  ·
   refine rnI [Bt,.wrap,.wrap,.wrap,.el (X3 e15),.pure _ (aI .i64 v17),Bt,.wrap] ?_
   intro h
   exact wkT [] (ih  _ _ o h C0)
  refine rnI [Bt,.wrap,.wrap,.wrap,.el (X3 e15),.pure _ (aI .i64 v17),Bf] ?_
  intro h
  exact wkT [] (ih  _ _ o h C0)
theorem Xi (a0:(List X4)) (a1:X4) (r:Int×Bool) (h:Xg a0 a1=some r):X0h Tryz.prog 125 [(Lf (a0.map X3)),(X3 a1),(AV.fn 116 [])] (AV.tup [(aI .i64 r.1),(aB r.2)]):=by
 refine X0h.sym X8 X06m (nt:=49) rfl rfl ?_ okM
 unfold Xg at h
 revert h
 refine bI fun o20 h21=>rnI [.el (aI .i64 (a0.length:Int))] ?_
 intro h
 refine wkT [] (X5.cut (X3w a0 a1 (a0.length:Int) _ _ _ _ h21 ?_))
 intro Xdo eo20;subst eo20
 refine X5.glue ?_
 try dsimp only at h
 revert h
 refine bI fun X01j h33=>rnI [.stop 8] ?_
 intro h
 refine X5.join (s':=⟨fr [(6,(aI .i64 Xdo)),(7,(aB X01j))],hp ([]),0⟩) ?_ (fun J=>X5.cut ?_)
 ·
  revert h
  exact fun e=>oj e▸Xb [] (k:=fi)
 clear h;revert h33
 refine brI (fun h28=>?_) fun h28=>?_
 ·
  refine bI fun e29 h30=>?_
  try have qh30:=Xp h30
  refine bI fun v31 h32=>?_
  intro h
  obtain rfl:=oj h
  exact Xb [.go true,.go true,.go true,.go true,.el (X3 e29),.go true,.go true,.go true,.pure _ (aI .i64 v31),.go true] (k:=wkT [] (X5.glue J))
 intro h
 obtain rfl:=oj h
 exact Xb [.go false,.go false,.go false,.go false,.go false,.go false,.go false,.go false,.go false] (k:=wkT [] (X5.glue J))
instance X48:PCs Tryz.prog 150 (∀ (a0:X0q) (a1:X0q) (r:X0q×Int),X2g a0 a1=some r->X0h Tryz.prog 150 [(X0l a0),(X0l a1)] (AV.tup [(X0l r.1),(aI .i64 r.2)])):=⟨fun a0 a1 r h=>by
 refine X0h.sym X8 X067 (nt:=53) rfl rfl ?_ okM
 unfold X2g at h
 revert h
 refine bI fun X00z h12=>rnI [.stop 1] ?_
 intro h
 refine X5.join (s':=⟨fr [(2,(AV.ptr 0 0 0)),(3,(AV.ptr 1 0 0)),(4,(AV.ptr 2 0 0)),(13,(aB X00z))],hp ([(0,Ob [(X0l a0)] 4),(1,Ob [(X0l a1)] 4),(2,Ob [(X0l (X0q.mk 0 0 0 0))] 4)]),3⟩) ?_ (fun J=>X5.cut ?_)
 ·
  revert h
  exact brI (fun h13=>fun e=>oj e▸Xb [Bt] (k:=fi)) fun h13=>brI (fun h14=>fun e=>oj e▸Xb [Bf,.wrap,Bt] (k:=fi)) fun h14=>brI (fun h15=>fun e=>oj e▸Xb [Bf,.wrap,Bf,Bt] (k:=fi)) fun h15=>brI (fun h16=>fun e=>oj e▸Xb [Bf,.wrap,Bf,Bf,Bt] (k:=fi)) fun h16=>fun e=>oj e▸Xb [Bf,.wrap,Bf,Bf,Bf,.wrap,.wrap] (k:=fi)
 clear h;revert h12
 refine bI fun v7 h8=>brI (fun h9=>?_) fun h9=>?_
 ·
  intro h
  obtain rfl:=oj h
  exact Xb [.pure _ (aI .i64 v7),.go false,.go false,.go false] (k:=wkT [] (X5.glue J))
 refine bI fun v10 h11=>?_
 intro h
 obtain rfl:=oj h
 exact Xb [.pure _ (aI .i64 v7),.go true,.go true,.pure _ (aI .i64 v10),.go true] (k:=wkT [] (X5.glue J))⟩
instance Xt0:PCs Tryz.prog 170 (∀ (a0:Int) (a1:Int) (r:Int),Xa3 a0 a1=some r->X0h Tryz.prog 170 [(aI .i64 a0),(aI .i64 a1)] (aI .i64 r)):=⟨fun a0 a1 r h=>by
 refine X0h.sym X8 X05y (nt:=17) rfl rfl ?_ okM
 unfold Xa3 at h
 revert h
 exact brI (fun h1=>fun e=>oj e▸Xb [Bt] (k:=fi)) fun h1=>brI (fun h2=>fun e=>oj e▸Xb [Bf,Bt] (k:=fi)) fun h2=>fun e=>oj e▸Xb [Bf,Bf] (k:=fi)⟩
instance Xsi:PCs Tryz.prog 151 (∀ (a0:Int) (a1:Int) (r:Int×Int),X6t a0 a1=some r->X0h Tryz.prog 151 [(aI .i64 a0),(aI .i64 a1)] (AV.tup [(aI .i64 r.1),(aI .i64 r.2)])):=⟨fun a0 a1 r h=>by
 refine X0h.sym X8 X066 (nt:=24) rfl rfl ?_ okM
 unfold X6t at h
 revert h
 refine bI fun v1 h2=>brI (fun h3=>fun e=>oj e▸Xb [.pure _ (aI .i64 v1),Bt] (k:=fi)) fun h3=>bI fun u4 h5=>bI fun j7_7 h9=>rnI [.pure _ (aI .i64 v1),Bf,.wrap] ?_
 intro h
 refine X5.join (s':=⟨fr [(7,(aI .i64 j7_7))],hp ([]),0⟩) ?_ (fun J=>X5.cut ?_)
 ·
  revert h
  exact fun e=>oj e▸Xb [] (k:=fi)
 clear h;revert h9
 refine brI (fun h8=>?_) fun h8=>?_
 ·
  intro h
  obtain rfl:=oj h
  exact Xb [Bt,.wrap] (k:=wkT [] (X5.glue J))
 intro h
 obtain rfl:=oj h
 exact Xb [Bf] (k:=wkT [] (X5.glue J))⟩
instance Xce:PCs Tryz.prog 123 (∀ (a0:Int) (a1:Int) (r:X06×Int),Xav a0 a1=some r->X0h Tryz.prog 123 [(aI .i64 a0),(aI .i64 a1)] (AV.tup [(X02 r.1),(aI .i64 r.2)])):=⟨fun a0 a1 r h=>by
 refine X0h.sym X8 X06o (nt:=26) rfl rfl ?_ okM
 unfold Xav at h
 revert h
 exact bI fun v1 h2=>brI (fun h3=>fun e=>oj e▸Xb [.pure _ (AV.tup [(aI .i64 v1.1),(aI .i64 v1.2)]),Bt] (k:=fi)) fun h3=>fun e=>oj e▸Xb [.pure _ (AV.tup [(aI .i64 v1.1),(aI .i64 v1.2)]),Bf,.wrap,.wrap,.wrap] (k:=fi)⟩
theorem Xi4 {Q:Xx->St->Mu->Prop} {μ:Mu} (X0r:Int) (Xhr:Int) (Xpz:Int):∀ (n:Nat) (Xk:(List X06)) (X9z:Int) (X21:Nb Xk) (o:Xak) (h:X55 X0r Xhr Xpz n Xk X9z=some o)
  (C0:∀ (X08:(List X06)) (X0t:Nb X08),o=Xak.x0 X08->X5 Tryz.prog 70 0 Q (.exit (.exit 0)) [] ⟨fr [(10,(slE X0t.1 0 (X08.map X02)))],hp ([]++opE X0t.1 0 2 (X08.map X02)),1⟩ μ),
  X5 Tryz.prog 70 0 Q (.loop (X4c 0 (Xd Tryz.f124))) [] ⟨fr [(0,(aI .i64 X0r)),(1,(aI .i64 Xhr)),(2,(aI .i64 Xpz)),(10,(slE X21.1 0 (Xk.map X02))),(11,(aI .i64 X9z))],hp ([]++opE X21.1 0 2 (Xk.map X02)),1⟩ μ:=by
 intro n
 induction n with
 |zero=>intro Xk X9z X21 o h C0;cases h
 |succ n ih =>
  intro Xk X9z X21 o h C0
  rw[X55] at h
  rcases X21 with ⟨_|_,X5k⟩
  ·
   refine X5.round ?_
   revert h
   refine brI (fun h18=>?_) fun h18=>fun e=>Xb [.wrap,Bf] (k:=wkT [] (C0 _  nbF (oj e).symm))
   refine bI fun u19 h20=>rnI [.wrap,Bt,.wrap,.no,.wrap] (o:=by repeat' first|apply Ya|exact pcM|(refine X1m h20 rfl ?_;first|(simp;done)|(simp;omega)|(simp[h18];done)|(simp[h18];omega))|(refine X0i h20 (by decide) ?_;first|(simp;done)|(simp;omega)|(simp[h18];done)|(simp[h18];omega))|exact Xr) ?_
   intro h
   exact wkT [(0,2)] (ih  _ _ nbF o h C0)
  obtain rfl:=X5k rfl
  refine X5.round ?_
  revert h
  refine brI (fun h21=>?_) fun h21=>fun e=>Xb [.wrap,Bf] (k:=wkT [] (C0 _  nbS (oj e).symm))
  refine bI fun u22 h23=>rnI [.wrap,Bt,.wrap,.no,.wrap] (o:=by repeat' first|apply Ya|exact pcM|(refine X1m h23 rfl ?_;first|(simp;done)|(simp;omega)|(simp[h21];done)|(simp[h21];omega))|(refine X0i h23 (by decide) ?_;first|(simp;done)|(simp;omega)|(simp[h21];done)|(simp[h21];omega))|exact Xr) ?_
  intro h
  exact wkT [(0,2)] (ih  _ _ nbF o h C0)
theorem Xa5 {Q:Xx->St->Mu->Prop}  {rb rD:Nat} {rr:Loop} (rh1:rr.state=.ready) (rh2:rr.pending=none) (rh3:rr.params=(rfB 0 (Xd Tryz.f124)).1) (rh4:rr.assign=(rfB 0 (Xd Tryz.f124)).2.1) (rh5:rr.body=(rfB 0 (Xd Tryz.f124)).2.2) (X1o:(List X06)) (Xhd:Nb X1o):∀ (n:Nat) (X0k:(List X06)) (X87:Int) (X27:Nb X0k) (o:X7n) (h:X3a X1o n X0k X87=some o)
  (C0:∀ (X4h:(List X06)) (Xc6:(List X06)) (X38:Nb X4h) (X6p:Nb Xc6),o=X7n.x0 X4h Xc6->X5 Tryz.prog 19 3 Q (.exit (.exit 0)) [] ⟨fr [],hp ([(1,Ob [(slE X38.1 3 (X4h.map X02))] 1),(2,Ob [(slE X6p.1 4 (Xc6.map X02))] 1)]++opE X38.1 3 2 (X4h.map X02)++opE X6p.1 4 2 (Xc6.map X02)),5⟩ [(rb,MuE.loop rr 70 3 (fr [(12,(AV.ptr 1 0 0)),(62,(AV.fn 171 [(AV.ptr 2 0 0)]))])),(rD,MuE.blk (Go.Obj.deferred (some [])))]),
  X5 Tryz.prog 19 3 Q (.loop (X4c 0 (Xd Tryz.f171))) [] ⟨fr [(0,(AV.sc (.func (.yield rb) #[] #[]))),(1,(AV.ptr 2 0 0)),(3,(aI .i64 X87))],hp ([(1,Ob [(slE X27.1 3 (X0k.map X02))] 1),(2,Ob [(slE Xhd.1 4 (X1o.map X02))] 1)]++opE X27.1 3 2 (X0k.map X02)++opE Xhd.1 4 2 (X1o.map X02)),5⟩ [(rb,MuE.loop rr 70 3 (fr [(12,(AV.ptr 1 0 0)),(62,(AV.fn 171 [(AV.ptr 2 0 0)]))])),(rD,MuE.blk (Go.Obj.deferred (some [])))]:=by
 intro n
 induction n with
 |zero=>intro X0k X87 X27 o h C0;cases h
 |succ n ih =>
  intro X0k X87 X27 o h C0
  rw[X3a] at h
  rcases X27 with ⟨_|_,X74⟩
  ·
   rcases Xhd with ⟨_|_,Xlr⟩
   ·
    refine X5.round ?_
    revert h
    refine brI (fun h67=>?_) fun h67=>fun e=>Xb [Bf] (k:=wkT [] (C0 _ _  nbF nbF (oj e).symm))
    refine bI fun e68 h69=>?_
    try have qh69:=Xp h69
    refine rnI [Bt,.el (X02 e68),.ld (X02 e68)] ?_
    intro h
    refine X5.yield rfl rfl rfl rfl rfl trivial trivial (.head _) rh1 rh2 rh3 rh4 rh5 rfl rfl ?_
    refine X09 [] ?_
    refine X5.asg ?_
    revert h
    refine bI fun u72 h73=>rnI [.no] (o:=by repeat' first|apply Ya|exact pcM|(refine X1m h73 rfl ?_;first|(simp;done)|(simp;omega)|(simp[h67];done)|(simp[h67];omega))|(refine X0i h73 (by decide) ?_;first|(simp;done)|(simp;omega)|(simp[h67];done)|(simp[h67];omega))|exact Xr) ?_
    intro h
    refine X5.rndEnd ?_
    exact Xb [Bf,.wrap] (o:=by repeat' first|apply Ya|exact pcM|(refine X1m h73 rfl ?_;first|(simp;done)|(simp;omega)|(simp[h67];done)|(simp[h67];omega))|(refine X0i h73 (by decide) ?_;first|(simp;done)|(simp;omega)|(simp[h67];done)|(simp[h67];omega))|exact Xr) (k:=wkT [(3,7)] (ih  _ _ nbF o h C0))
   obtain rfl:=Xlr rfl
   refine X5.round ?_
   revert h
   refine brI (fun h74=>?_) fun h74=>fun e=>Xb [Bf] (k:=wkT [] (C0 _ _  nbF nbS (oj e).symm))
   refine bI fun e75 h76=>?_
   try have qh76:=Xp h76
   intro h
   exact absurd (h76) (by simp[X32])
  obtain rfl:=X74 rfl
  rcases Xhd with ⟨_|_,Xlr⟩
  ·
   refine X5.round ?_
   revert h
   refine brI (fun h77=>?_) fun h77=>fun e=>Xb [Bf] (k:=wkT [] (C0 _ _  nbS nbF (oj e).symm))
   refine bI fun e78 h79=>?_
   try have qh79:=Xp h79
   refine rnI [Bt,.el (X02 e78),.ld (X02 e78)] ?_
   intro h
   refine X5.yield rfl rfl rfl rfl rfl trivial trivial (.head _) rh1 rh2 rh3 rh4 rh5 rfl rfl ?_
   refine X09 [] ?_
   refine X5.asg ?_
   revert h
   refine bI fun u82 h83=>rnI [.no] (o:=by repeat' first|apply Ya|exact pcM|(refine X1m h83 rfl ?_;first|(simp;done)|(simp;omega)|(simp[h77];done)|(simp[h77];omega))|(refine X0i h83 (by decide) ?_;first|(simp;done)|(simp;omega)|(simp[h77];done)|(simp[h77];omega))|exact Xr) ?_
   intro h
   refine X5.rndEnd ?_
   exact Xb [Bf,.wrap] (o:=by repeat' first|apply Ya|exact pcM|(refine X1m h83 rfl ?_;first|(simp;done)|(simp;omega)|(simp[h77];done)|(simp[h77];omega))|(refine X0i h83 (by decide) ?_;first|(simp;done)|(simp;omega)|(simp[h77];done)|(simp[h77];omega))|exact Xr) (k:=wkT [(3,7)] (ih  _ _ nbF o h C0))
  obtain rfl:=Xlr rfl
  refine X5.round ?_
  revert h
  refine brI (fun h84=>?_) fun h84=>fun e=>Xb [Bf] (k:=wkT [] (C0 _ _  nbS nbS (oj e).symm))
  refine bI fun e85 h86=>?_
  try have qh86:=Xp h86
  intro h
  exact absurd (h86) (by simp[X32])
end Go.Av.Tryz