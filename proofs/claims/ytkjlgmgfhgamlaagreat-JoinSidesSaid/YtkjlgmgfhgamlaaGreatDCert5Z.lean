/- Printed by decomp.py: that the program computes the functions. -/
import Derived.Test.YtkjlgmgfhgamlaaGreatDCert4Z
set_option linter.all false

namespace Go.Av.Tryz
open Go.Proofs Go.D
set_option maxRecDepth 10000
set_option maxHeartbeats 40000000
theorem Xfo {Q:X00->St->Mu->Prop} {μ:Mu} (Xpf:X0b) (Xbk:(List Xm)) (hl:Xbk.length<=140737488355328):∀ (xs:List Xm) (k:Nat) (hx:Xbk.drop k=xs) (Xhz:Bool) (o:X8p) (h:X3o Xpf Xbk xs k Xhz=some o)
  (C0:∀ (Xe7:Bool),o=X8p.x0 Xe7->X3 Tryz.prog 202 0 Q (.exit (.exit 6)) [] ⟨fr [(1,(AV.ptr 0 0 0)),(11,(aB Xe7))],hp ([(0,Ob [(Xk false Xpf)] 9)]),1⟩ μ),
  X3 Tryz.prog 202 0 Q (.loop (X5f 3 (Xi Tryz.f61))) [] ⟨fr [(1,(AV.ptr 0 0 0)),(11,(aB Xhz)),(164,(Lf (Xbk.map Xc))),(165,(aI .i64 (Xbk.length:Int))),(166,(aI .i64 (k:Int)))],hp ([(0,Ob [(Xk false Xpf)] 9)]),1⟩ μ:=by
 intro xs
 induction xs with
 |nil =>
  intro k hx Xhz o h C0
  have hk:=drop_nil hx
  have hc:decide ((k:Int)<(Xbk.length:Int))=false:=Yf (by omega)
  rw[X3o] at h
  refine X3.round ?_
  revert h
  exact fun e=>X9 [Bf] (k:=wkT [] (C0 _  (oj e).symm))
 |cons x xs ih =>
  intro k hx Xhz o h C0
  obtain⟨hk,hg,hx1⟩:=X15 hx
  have hc:decide ((k:Int)<(Xbk.length:Int))=true:=Yt (by omega)
  rw[X3o] at h
  refine X3.round ?_
  revert h
  refine bI fun Xnd h163=>rnI [Bt,.el (Xc x),.stop 25] ?_
  intro h
  refine X3.join (s':=⟨fr [(1,(AV.ptr 0 0 0)),(11,(aB Xnd)),(164,(Lf (Xbk.map Xc))),(165,(aI .i64 (Xbk.length:Int))),(166,(aI .i64 (k:Int)))],hp ([(0,Ob [(Xk false Xpf)] 9)]),1⟩) ?_ (fun J=>X3.cut ?_)
  ·
   exact X9 [] (k:=wkT [] (ih (k+1) hx1 _ o h C0))
  clear h;revert h163
  refine brI (fun h160=>?_) fun h160=>?_
  ·
   refine bI fun v161 h162=>?_
   intro h
   obtain rfl:=oj h
   exact X9 [.go true,.go true,.go true,.pure _ (aI .i64 v161),.go true] (k:=wkT [] (X3.glue J))
  intro h
  obtain rfl:=oj h
  exact X9 [.go false,.go false,.go false,.go false] (k:=wkT [] (X3.glue J))
theorem Xfn {Q:X00->St->Mu->Prop} {μ:Mu} (Xkt:X0b) (Xbj:(List X2)) (hl:Xbj.length<=140737488355328):∀ (xs:List X2) (k:Nat) (hx:Xbj.drop k=xs) (Xgj:Bool) (o:X8o) (h:X3n Xkt Xbj xs k Xgj=some o)
  (C0:∀ (Xe6:Bool),o=X8o.x0 Xe6->X3 Tryz.prog 202 0 Q (.exit (.exit 8)) [] ⟨fr [(11,(aB Xe6))],hp ([]),0⟩ μ),
  X3 Tryz.prog 202 0 Q (.loop (X5f 4 (Xi Tryz.f61))) [] ⟨fr [(1,(AV.ptr 0 0 0)),(11,(aB Xgj)),(179,(Lf (Xbj.map X1))),(180,(aI .i64 (Xbj.length:Int))),(181,(aI .i64 (k:Int)))],hp ([(0,Ob [(Xk false Xkt)] 9)]),1⟩ μ:=by
 intro xs
 induction xs with
 |nil =>
  intro k hx Xgj o h C0
  have hk:=drop_nil hx
  have hc:decide ((k:Int)<(Xbj.length:Int))=false:=Yf (by omega)
  rw[X3n] at h
  refine X3.round ?_
  revert h
  exact fun e=>X9 [Bf] (k:=wkT [] (C0 _  (oj e).symm))
 |cons x xs ih =>
  intro k hx Xgj o h C0
  obtain⟨hk,hg,hx1⟩:=X15 hx
  have hc:decide ((k:Int)<(Xbj.length:Int))=true:=Yt (by omega)
  rw[X3n] at h
  refine X3.round ?_
  revert h
  refine bI fun Xnc h186=>rnI [Bt,.el (X1 x),.stop 30] ?_
  intro h
  refine X3.join (s':=⟨fr [(1,(AV.ptr 0 0 0)),(11,(aB Xnc)),(179,(Lf (Xbj.map X1))),(180,(aI .i64 (Xbj.length:Int))),(181,(aI .i64 (k:Int)))],hp ([(0,Ob [(Xk false Xkt)] 9)]),1⟩) ?_ (fun J=>X3.cut ?_)
  ·
   exact X9 [] (k:=wkT [] (ih (k+1) hx1 _ o h C0))
  clear h;revert h186
  refine brI (fun h184=>?_) fun h184=>?_
  ·
   refine brI (fun h185=>?_) fun h185=>?_
   ·
    intro h
    obtain rfl:=oj h
    exact X9 [.go true,.go true,.go true,.go true,.go true,.go false,.go false,.go false,.go false,.go false,.go true] (k:=wkT [] (X3.glue J))
   intro h
   obtain rfl:=oj h
   exact X9 [.go true,.go true,.go true,.go true,.go true,.go true,.go true,.ix 1,.go true,.go true,.go true,.go true] (k:=wkT [] (X3.glue J))
  intro h
  obtain rfl:=oj h
  exact X9 [.go false,.go false,.go false,.go false,.go false,.go false,.go false,.go false,.go false,.go false,.go false] (k:=wkT [] (X3.glue J))
instance Xuu:PCs Tryz.prog 61 (∀ (a0:X0b) (r:Int),X8b a0=some r->X0l Tryz.prog 61 [(Xk false a0)] (aI .i64 r)):=⟨fun a0 r h=>by
 refine X0l.sym X6 fn61 (nt:=202) rfl rfl ?_ okM
 unfold X8b at h
 revert h
 refine bI fun v1 h2=>bI fun Xj7 h32=>rnI [.pure _ (AV.tup [(aI .i64 v1.1),(aI .i64 v1.2.1),(aB v1.2.2.1),(aB v1.2.2.2.1),(aB v1.2.2.2.2.1),(aB v1.2.2.2.2.2)]),.stop 3] ?_
 intro h
 refine X3.join (s':=⟨fr [(1,(AV.ptr 0 0 0)),(9,(aB (bif (bif (bif (decide (a0.Turn >= (0:Int))) then (decide (a0.Turn<(20:Int))) else false) then (decide (a0.Op.N >= (0:Int))) else false) then (decide (a0.Op.N<(4:Int))) else false))),(10,(aB Xj7))],hp ([(0,Ob [(Xk false a0)] 9)]),1⟩) ?_ (fun J=>X3.cut ?_)
 ·
  revert h
  refine bI fun Xn4 h48=>rnI [.stop 4] ?_
  intro h
  refine X3.join (s':=⟨fr [(1,(AV.ptr 0 0 0)),(120,(aB Xn4))],hp ([(0,Ob [(Xk false a0)] 9)]),1⟩) ?_ (fun J=>X3.cut ?_)
  ·
   revert h
   refine brI (fun h49=>fun e=>oj e▸X9 [Bt] (k:=fi)) fun h49=>bI fun u50 h51=>?_
   have qh51:=X0k h51
   refine bI fun o77 h78=>rnI [Bf,.el (aI .i64 (a0.Marks.length:Int))] ?_
   intro h
   refine wkT [] (X3.cut (Xfr a0 a0.Marks qh51 a0.Marks 0 (by simp) _ _ h78 ?_))
   intro Xea eo77;subst eo77
   refine X3.glue ?_
   try dsimp only at h
   revert h
   refine bI fun u79 h80=>?_
   have qh80:=X0k h80
   refine bI fun o106 h107=>rnI [.el (aI .i64 (a0.Events.length:Int))] ?_
   intro h
   refine wkT [] (X3.cut (Xfq a0 a0.Events qh80 a0.Events 0 (by simp) _ _ h107 ?_))
   intro Xe9 eo106;subst eo106
   refine X3.glue ?_
   try dsimp only at h
   revert h
   refine bI fun u108 h109=>?_
   have qh109:=X0k h109
   refine bI fun o135 h136=>rnI [.el (aI .i64 (a0.Rows.length:Int))] ?_
   intro h
   refine wkT [] (X3.cut (Xfp a0 a0.Rows qh109 a0.Rows 0 (by simp) _ _ h136 ?_))
   intro Xe8 eo135;subst eo135
   refine X3.glue ?_
   try dsimp only at h
   revert h
   refine bI fun u137 h138=>?_
   have qh138:=X0k h138
   refine bI fun o164 h165=>rnI [.el (aI .i64 (a0.Late.length:Int))] ?_
   intro h
   refine wkT [] (X3.cut (Xfo a0 a0.Late qh138 a0.Late 0 (by simp) _ _ h165 ?_))
   intro Xe7 eo164;subst eo164
   refine X3.glue ?_
   try dsimp only at h
   revert h
   refine bI fun u166 h167=>?_
   have qh167:=X0k h167
   refine bI fun o187 h188=>rnI [.el (aI .i64 (a0.Store.length:Int))] ?_
   intro h
   refine wkT [] (X3.cut (Xfn a0 a0.Store qh167 a0.Store 0 (by simp) _ _ h188 ?_))
   intro Xe6 eo187;subst eo187
   refine X3.glue ?_
   try dsimp only at h
   revert h
   exact brI (fun h189=>fun e=>oj e▸X9 [Bt] (k:=fi)) fun h189=>fun e=>oj e▸X9 [Bf] (k:=fi)
  clear h;revert h48
  refine brI (fun h41=>?_) fun h41=>?_
  ·
   intro h
   obtain rfl:=oj h
   exact X9 [.go false,.go false,.go false,.go false,.go false,.go false,.go false,.go false,.go false,.go false] (o:=by repeat' first|apply Ya|exact pcM|exact((Xb h41 rfl))|exact(Xf (Xb h41 rfl))|exact(X4e (Xb h41 rfl))|exact((Xb (Xb h41 rfl) rfl))|exact(Xf (Xb (Xb h41 rfl) rfl))|exact(X4e (Xb (Xb h41 rfl) rfl))|exact Xu) (k:=wkT [] (X3.glue J))
  refine brI (fun h42=>?_) fun h42=>?_
  ·
   intro h
   obtain rfl:=oj h
   exact X9 [.go true,.go true,.go false,.go false,.go false,.go false,.go false,.go false,.go false,.go false] (o:=by repeat' first|apply Ya|exact pcM|exact((Xa h41 h42))|exact(Xf (Xa h41 h42))|exact(X4e (Xa h41 h42))|exact((Xb (Xa h41 h42) rfl))|exact(Xf (Xb (Xa h41 h42) rfl))|exact(X4e (Xb (Xa h41 h42) rfl))|exact Xu) (k:=wkT [] (X3.glue J))
  refine bI fun v43 h44=>brI (fun h45=>?_) fun h45=>?_
  ·
   intro h
   obtain rfl:=oj h
   exact X9 [.go true,.go true,.go true,.go true,.go true,.pure _ (aB v43),.go true,.go false,.go false,.go false,.go false] (o:=by repeat' first|apply Ya|exact pcM|exact((Xa h41 h42))|exact(Xf (Xa h41 h42))|exact(Xb6 (Xa h41 h42))|exact((Xa (Xa h41 h42) h45))|exact(Xf (Xa (Xa h41 h42) h45))|exact(X4e (Xa (Xa h41 h42) h45))|exact Xu) (k:=wkT [] (X3.glue J))
  refine bI fun v46 h47=>?_
  intro h
  obtain rfl:=oj h
  exact X9 [.go true,.go true,.go true,.go true,.go true,.pure _ (aB v43),.go true,.go true,.go true,.go true,.pure _ (aI .i64 v46),.go true] (o:=by repeat' first|apply Ya|exact pcM|exact((Xa h41 h42))|exact(Xf (Xa h41 h42))|exact(Xb6 (Xa h41 h42))|exact((Xa (Xa h41 h42) h45))|exact(Xf (Xa (Xa h41 h42) h45))|exact(Xb6 (Xa (Xa h41 h42) h45))|exact Xu) (k:=wkT [] (X3.glue J))
 clear h;revert h32
 refine brI (fun h18=>?_) fun h18=>?_
 ·
  refine brI (fun h19=>?_) fun h19=>?_
  ·
   refine brI (fun h20=>?_) fun h20=>?_
   ·
    refine bI fun v21 h22=>brI (fun h23=>?_) fun h23=>?_
    ·
     refine bI fun v24 h25=>brI (fun h26=>?_) fun h26=>?_
     ·
      refine bI fun v27 h28=>brI (fun h29=>?_) fun h29=>?_
      ·
       refine bI fun v30 h31=>?_
       intro h
       obtain rfl:=oj h
       exact X9 [X25.el (aI .i64 (a0.Pending.length:Int)),.go true,.go true,.go true,X25.el (aI .i64 (a0.Marks.length:Int)),.go true,.go true,.go true,.go true,.go true,X25.el (aI .i64 (a0.Marks.length:Int)),.go true,.go true,.go true,.go true,.go true,X25.el (aI .i64 (a0.Store.length:Int)),.go true,.go true,X25.pure _ (aI .i64 v21),.go true,.go true,.go true,.go true,X25.el (aI .i64 (a0.Events.length:Int)),.go true,.go true,X25.pure _ (aI .i64 v24),.go true,.go true,.go true,.go true,X25.el (aI .i64 (a0.Rows.length:Int)),.go true,.go true,X25.pure _ (aI .i64 v27),.go true,.go true,.go true,.go true,X25.el (aI .i64 (a0.Late.length:Int)),.go true,.go true,X25.pure _ (aI .i64 v30),.go true] (o:=by repeat' first|apply Ya|exact pcM|exact((Xb h18 h19))|exact(Xf (Xb h18 h19))|exact(X4e (Xb h18 h19))|exact((Xb (Xb h18 h19) h20))|exact(Xf (Xb (Xb h18 h19) h20))|exact(X4e (Xb (Xb h18 h19) h20))|exact((Xb (Xb (Xb h18 h19) h20) h23))|exact(Xf (Xb (Xb (Xb h18 h19) h20) h23))|exact(X4e (Xb (Xb (Xb h18 h19) h20) h23))|exact((Xb (Xb (Xb (Xb h18 h19) h20) h23) h26))|exact(Xf (Xb (Xb (Xb (Xb h18 h19) h20) h23) h26))|exact(X4e (Xb (Xb (Xb (Xb h18 h19) h20) h23) h26))|exact((Xb (Xb (Xb (Xb (Xb h18 h19) h20) h23) h26) h29))|exact(Xf (Xb (Xb (Xb (Xb (Xb h18 h19) h20) h23) h26) h29))|exact(X4e (Xb (Xb (Xb (Xb (Xb h18 h19) h20) h23) h26) h29))|exact Xu) (k:=wkT [] (X3.glue J))
      intro h
      obtain rfl:=oj h
      exact X9 [X25.el (aI .i64 (a0.Pending.length:Int)),.go true,.go true,.go true,X25.el (aI .i64 (a0.Marks.length:Int)),.go true,.go true,.go true,.go true,.go true,X25.el (aI .i64 (a0.Marks.length:Int)),.go true,.go true,.go true,.go true,.go true,X25.el (aI .i64 (a0.Store.length:Int)),.go true,.go true,X25.pure _ (aI .i64 v21),.go true,.go true,.go true,.go true,X25.el (aI .i64 (a0.Events.length:Int)),.go true,.go true,X25.pure _ (aI .i64 v24),.go true,.go true,.go true,.go true,X25.el (aI .i64 (a0.Rows.length:Int)),.go true,.go true,X25.pure _ (aI .i64 v27),.go true,.go false,.go false,.go false,.go false,.go false,.go false,.go false] (o:=by repeat' first|apply Ya|exact pcM|exact((Xb h18 h19))|exact(Xf (Xb h18 h19))|exact(X4e (Xb h18 h19))|exact((Xb (Xb h18 h19) h20))|exact(Xf (Xb (Xb h18 h19) h20))|exact(X4e (Xb (Xb h18 h19) h20))|exact((Xb (Xb (Xb h18 h19) h20) h23))|exact(Xf (Xb (Xb (Xb h18 h19) h20) h23))|exact(X4e (Xb (Xb (Xb h18 h19) h20) h23))|exact((Xb (Xb (Xb (Xb h18 h19) h20) h23) h26))|exact(Xf (Xb (Xb (Xb (Xb h18 h19) h20) h23) h26))|exact(X4e (Xb (Xb (Xb (Xb h18 h19) h20) h23) h26))|exact((Xb (Xb (Xb (Xb (Xb h18 h19) h20) h23) h26) h29))|exact(Xf (Xb (Xb (Xb (Xb (Xb h18 h19) h20) h23) h26) h29))|exact Xu) (k:=wkT [] (X3.glue J))
     intro h
     obtain rfl:=oj h
     exact X9 [X25.el (aI .i64 (a0.Pending.length:Int)),.go true,.go true,.go true,X25.el (aI .i64 (a0.Marks.length:Int)),.go true,.go true,.go true,.go true,.go true,X25.el (aI .i64 (a0.Marks.length:Int)),.go true,.go true,.go true,.go true,.go true,X25.el (aI .i64 (a0.Store.length:Int)),.go true,.go true,X25.pure _ (aI .i64 v21),.go true,.go true,.go true,.go true,X25.el (aI .i64 (a0.Events.length:Int)),.go true,.go true,X25.pure _ (aI .i64 v24),.go true,.go false,.go false,.go false,.go false,.go false,.go false,.go false,.go false,.go false,.go false,.go false,.go false,.go false,.go false] (o:=by repeat' first|apply Ya|exact pcM|exact((Xb h18 h19))|exact(Xf (Xb h18 h19))|exact(X4e (Xb h18 h19))|exact((Xb (Xb h18 h19) h20))|exact(Xf (Xb (Xb h18 h19) h20))|exact(X4e (Xb (Xb h18 h19) h20))|exact((Xb (Xb (Xb h18 h19) h20) h23))|exact(Xf (Xb (Xb (Xb h18 h19) h20) h23))|exact(X4e (Xb (Xb (Xb h18 h19) h20) h23))|exact((Xb (Xb (Xb (Xb h18 h19) h20) h23) h26))|exact(Xf (Xb (Xb (Xb (Xb h18 h19) h20) h23) h26))|exact Xu) (k:=wkT [] (X3.glue J))
    intro h
    obtain rfl:=oj h
    exact X9 [X25.el (aI .i64 (a0.Pending.length:Int)),.go true,.go true,.go true,X25.el (aI .i64 (a0.Marks.length:Int)),.go true,.go true,.go true,.go true,.go true,X25.el (aI .i64 (a0.Marks.length:Int)),.go true,.go true,.go true,.go true,.go true,X25.el (aI .i64 (a0.Store.length:Int)),.go true,.go true,X25.pure _ (aI .i64 v21),.go true,.go false,.go false,.go false,.go false,.go false,.go false,.go false,.go false,.go false,.go false,.go false,.go false,.go false,.go false,.go false,.go false,.go false,.go false,.go false,.go false,.go false] (o:=by repeat' first|apply Ya|exact pcM|exact((Xb h18 h19))|exact(Xf (Xb h18 h19))|exact(X4e (Xb h18 h19))|exact((Xb (Xb h18 h19) h20))|exact(Xf (Xb (Xb h18 h19) h20))|exact(X4e (Xb (Xb h18 h19) h20))|exact((Xb (Xb (Xb h18 h19) h20) h23))|exact(Xf (Xb (Xb (Xb h18 h19) h20) h23))|exact Xu) (k:=wkT [] (X3.glue J))
   intro h
   obtain rfl:=oj h
   exact X9 [X25.el (aI .i64 (a0.Pending.length:Int)),.go true,.go true,.go true,X25.el (aI .i64 (a0.Marks.length:Int)),.go true,.go true,.go true,.go true,.go true,X25.el (aI .i64 (a0.Marks.length:Int)),.go true,.go true,.go false,.go false,.go false,.go false,.go false,.go false,.go false,.go false,.go false,.go false,.go false,.go false,.go false,.go false,.go false,.go false,.go false,.go false,.go false,.go false,.go false,.go false,.go false,.go false,.go false,.go false,.go false,.go false] (o:=by repeat' first|apply Ya|exact pcM|exact((Xb h18 h19))|exact(Xf (Xb h18 h19))|exact(X4e (Xb h18 h19))|exact((Xb (Xb h18 h19) h20))|exact(Xf (Xb (Xb h18 h19) h20))|exact Xu) (k:=wkT [] (X3.glue J))
  intro h
  obtain rfl:=oj h
  exact X9 [X25.el (aI .i64 (a0.Pending.length:Int)),.go true,.go true,.go true,X25.el (aI .i64 (a0.Marks.length:Int)),.go true,.go true,.go false,.go false,.go false,.go false,.go false,.go false,.go false,.go false,.go false,.go false,.go false,.go false,.go false,.go false,.go false,.go false,.go false,.go false,.go false,.go false,.go false,.go false,.go false,.go false,.go false,.go false,.go false,.go false,.go false,.go false,.go false,.go false,.go false,.go false] (o:=by repeat' first|apply Ya|exact pcM|exact((Xb h18 h19))|exact(Xf (Xb h18 h19))|exact Xu) (k:=wkT [] (X3.glue J))
 intro h
 obtain rfl:=oj h
 exact X9 [X25.el (aI .i64 (a0.Pending.length:Int)),.go false,.go false,.go false,.go false,.go false,.go false,.go false,.go false,.go false,.go false,.go false,.go false,.go false,.go false,.go false,.go false,.go false,.go false,.go false,.go false,.go false,.go false,.go false,.go false,.go false,.go false,.go false,.go false,.go false,.go false,.go false,.go false,.go false,.go false,.go false,.go false,.go false,.go false,.go false,.go false] (k:=wkT [] (X3.glue J))⟩
instance Xxi:PCs Tryz.prog 79 (∀ (a0:Int) (r:X12),X99 a0=some r->X0l Tryz.prog 79 [(aI .i64 a0)] (X0u r)):=⟨fun a0 r h=>by
 refine X0l.sym X6 fn79 (nt:=7) rfl rfl ?_ okM
 unfold X99 at h
 revert h
 exact fun e=>oj e▸X9 [] (k:=fi)⟩
instance Xqs:PCs Tryz.prog 117 (∀ (a0:Int) (a1:Int) (r:Int),X3u a0 a1=some r->X0l Tryz.prog 117 [(aI .i64 a0),(aI .i64 a1)] (aI .i64 r)):=⟨fun a0 a1 r h=>by
 refine X0l.sym X6 X046 (nt:=17) rfl rfl ?_ okM
 unfold X3u at h
 revert h
 exact brI (fun h1=>fun e=>oj e▸X9 [Bt] (k:=fi)) fun h1=>brI (fun h2=>fun e=>oj e▸X9 [Bf,Bt] (k:=fi)) fun h2=>fun e=>oj e▸X9 [Bf,Bf] (k:=fi)⟩
instance Xoz:PCs Tryz.prog 194 (∀ (a0:Int) (r:Int),X93 a0=some r->X0l Tryz.prog 194 [(aI .u64 a0)] (aI .i64 r)):=⟨fun a0 r h=>by
 refine X0l.sym X6 X033 (nt:=25) rfl rfl ?_ okM
 unfold X93 at h
 revert h
 refine bI fun w2 h4=>?_
 intro h
 obtain⟨j2_0,j2_2⟩:=w2
 try dsimp only at h
 refine X0g [] ?_
 refine X3.join (s':=⟨fr [(0,(aI .u64 j2_0)),(2,(aI .i64 j2_2))],hp ([]),0⟩) ?_ (fun J=>X3.cut ?_)
 ·
  revert h
  refine bI fun w6 h8=>?_
  intro h
  obtain⟨j6_0,j6_2⟩:=w6
  try dsimp only at h
  refine X0g [] ?_
  refine X3.join (s':=⟨fr [(0,(aI .u64 j6_0)),(2,(aI .i64 j6_2))],hp ([]),0⟩) ?_ (fun J=>X3.cut ?_)
  ·
   revert h
   refine bI fun w10 h12=>?_
   intro h
   obtain⟨X02x,X02w⟩:=w10
   try dsimp only at h
   refine X0g [] ?_
   refine X3.join (s':=⟨fr [(0,(aI .u64 X02x)),(2,(aI .i64 X02w))],hp ([]),0⟩) ?_ (fun J=>X3.cut ?_)
   ·
    revert h
    exact bI fun b13 h14=>fun e=>oj e▸X9 [.wrap,.el (aI .u8 b13),.wrap,.wrap] (o:=by repeat' first|apply Ya|exact pcM|exact(X7m h14)|exact(X00u (tab:=Xf7) rfl h14)|exact Xu) (k:=fi)
   clear h;revert h12
   refine brI (fun h11=>?_) fun h11=>?_
   ·
    intro h
    simp only[Option.some.injEq,Prod.mk.injEq] at h
    obtain⟨rfl,rfl⟩:=h
    exact X9 [Bt,.wrap] (k:=wkT [] (X3.glue J))
   intro h
   simp only[Option.some.injEq,Prod.mk.injEq] at h
   obtain⟨rfl,rfl⟩:=h
   exact X9 [Bf] (k:=wkT [] (X3.glue J))
  clear h;revert h8
  refine brI (fun h7=>?_) fun h7=>?_
  ·
   intro h
   simp only[Option.some.injEq,Prod.mk.injEq] at h
   obtain⟨rfl,rfl⟩:=h
   exact X9 [Bt,.wrap] (k:=wkT [] (X3.glue J))
  intro h
  simp only[Option.some.injEq,Prod.mk.injEq] at h
  obtain⟨rfl,rfl⟩:=h
  exact X9 [Bf] (k:=wkT [] (X3.glue J))
 clear h;revert h4
 refine brI (fun h3=>?_) fun h3=>?_
 ·
  intro h
  simp only[Option.some.injEq,Prod.mk.injEq] at h
  obtain⟨rfl,rfl⟩:=h
  exact X9 [Bt] (k:=wkT [] (X3.glue J))
 intro h
 simp only[Option.some.injEq,Prod.mk.injEq] at h
 obtain⟨rfl,rfl⟩:=h
 exact X9 [Bf] (k:=wkT [] (X3.glue J))⟩
instance Xqy:PCs Tryz.prog 169 (∀ (a0:Int) (r:Int),X85 a0=some r->X0l Tryz.prog 169 [(aI .u64 a0)] (aI .i64 r)):=⟨fun a0 r h=>by
 refine X0l.sym X6 X03e (nt:=8) rfl rfl ?_ okM
 unfold X85 at h
 revert h
 exact bI fun v1 h2=>fun e=>oj e▸X9 [Bf,.pure _ (aI .i64 v1)] (k:=fi)⟩
theorem X3z {Q:X00->St->Mu->Prop} {μ:Mu} (X16:(List X2)) (Xt:X2) (y0_8:Int):∀ (n:Nat) (Xf4:Int) (Xi3:Int) (o:X11) (h:Xw X16 Xt y0_8 n Xf4 Xi3=some o)
  (C0:∀ (Xcr:Int),o=X11.x0 Xcr->X3 Tryz.prog 49 0 Q (.exit (.exit 0)) [] ⟨fr [(0,(Lf (X16.map X1))),(2,(AV.fn 116 [])),(4,(AV.ptr 0 0 0)),(8,(aI .i64 y0_8)),(9,(aI .i64 Xcr))],hp ([(0,Ob [(X1 Xt)] 11)]),1⟩ μ),
  X3 Tryz.prog 49 0 Q (.loop (X5f 0 (Xi Tryz.f125))) [] ⟨fr [(0,(Lf (X16.map X1))),(2,(AV.fn 116 [])),(4,(AV.ptr 0 0 0)),(8,(aI .i64 y0_8)),(9,(aI .i64 Xf4)),(10,(aI .i64 Xi3))],hp ([(0,Ob [(X1 Xt)] 11)]),1⟩ μ:=by
 intro n
 induction n with
 |zero=>intro Xf4 Xi3 o h C0;cases h
 |succ n ih =>
  intro Xf4 Xi3 o h C0
  rw[Xw] at h
  refine X3.round ?_
  revert h
  refine brI (fun h14=>?_) fun h14=>fun e=>X9 [Bf] (k:=wkT [] (C0 _  (oj e).symm))
  refine bI fun e15 h16=>?_
  try have qh16:=Xs h16
  refine bI fun v17 h18=>brI (fun h19=>?_) fun h19=>?_
  ·
   refine rnI [Bt,.wrap,.wrap,.wrap,.el (X1 e15),.pure _ (aI .i64 v17),Bt,.wrap] ?_
   intro h
   exact wkT [] (ih  _ _ o h C0)
  refine rnI [Bt,.wrap,.wrap,.wrap,.el (X1 e15),.pure _ (aI .i64 v17),Bf] ?_
  intro h
  exact wkT [] (ih  _ _ o h C0)
theorem Xo (a0:(List X2)) (a1:X2) (r:Int×Bool) (h:Xj a0 a1=some r):X0l Tryz.prog 125 [(Lf (a0.map X1)),(X1 a1),(AV.fn 116 [])] (AV.tup [(aI .i64 r.1),(aB r.2)]):=by
 refine X0l.sym X6 X041 (nt:=49) rfl rfl ?_ okM
 unfold Xj at h
 revert h
 refine bI fun o20 h21=>rnI [.el (aI .i64 (a0.length:Int))] ?_
 intro h
 refine wkT [] (X3.cut (X3z a0 a1 (a0.length:Int) _ _ _ _ h21 ?_))
 intro Xcr eo20;subst eo20
 refine X3.glue ?_
 try dsimp only at h
 revert h
 refine bI fun Xz7 h33=>rnI [.stop 8] ?_
 intro h
 refine X3.join (s':=⟨fr [(6,(aI .i64 Xcr)),(7,(aB Xz7))],hp ([]),0⟩) ?_ (fun J=>X3.cut ?_)
 ·
  revert h
  exact fun e=>oj e▸X9 [] (k:=fi)
 clear h;revert h33
 refine brI (fun h28=>?_) fun h28=>?_
 ·
  refine bI fun e29 h30=>?_
  try have qh30:=Xs h30
  refine bI fun v31 h32=>?_
  intro h
  obtain rfl:=oj h
  exact X9 [.go true,.go true,.go true,.go true,.el (X1 e29),.go true,.go true,.go true,.pure _ (aI .i64 v31),.go true] (k:=wkT [] (X3.glue J))
 intro h
 obtain rfl:=oj h
 exact X9 [.go false,.go false,.go false,.go false,.go false,.go false,.go false,.go false,.go false] (k:=wkT [] (X3.glue J))
instance X45:PCs Tryz.prog 150 (∀ (a0:X12) (a1:X12) (r:X12×Int),X2j a0 a1=some r->X0l Tryz.prog 150 [(X0u a0),(X0u a1)] (AV.tup [(X0u r.1),(aI .i64 r.2)])):=⟨fun a0 a1 r h=>by
 refine X0l.sym X6 X03m (nt:=53) rfl rfl ?_ okM
 unfold X2j at h
 revert h
 refine bI fun Xym h12=>rnI [.stop 1] ?_
 intro h
 refine X3.join (s':=⟨fr [(2,(AV.ptr 0 0 0)),(3,(AV.ptr 1 0 0)),(4,(AV.ptr 2 0 0)),(13,(aB Xym))],hp ([(0,Ob [(X0u a0)] 4),(1,Ob [(X0u a1)] 4),(2,Ob [(X0u (X12.mk 0 0 0 0))] 4)]),3⟩) ?_ (fun J=>X3.cut ?_)
 ·
  revert h
  exact brI (fun h13=>fun e=>oj e▸X9 [Bt] (k:=fi)) fun h13=>brI (fun h14=>fun e=>oj e▸X9 [Bf,.wrap,Bt] (k:=fi)) fun h14=>brI (fun h15=>fun e=>oj e▸X9 [Bf,.wrap,Bf,Bt] (k:=fi)) fun h15=>brI (fun h16=>fun e=>oj e▸X9 [Bf,.wrap,Bf,Bf,Bt] (k:=fi)) fun h16=>fun e=>oj e▸X9 [Bf,.wrap,Bf,Bf,Bf,.wrap,.wrap] (k:=fi)
 clear h;revert h12
 refine bI fun v7 h8=>brI (fun h9=>?_) fun h9=>?_
 ·
  intro h
  obtain rfl:=oj h
  exact X9 [.pure _ (aI .i64 v7),.go false,.go false,.go false] (k:=wkT [] (X3.glue J))
 refine bI fun v10 h11=>?_
 intro h
 obtain rfl:=oj h
 exact X9 [.pure _ (aI .i64 v7),.go true,.go true,.pure _ (aI .i64 v10),.go true] (k:=wkT [] (X3.glue J))⟩
instance Xre:PCs Tryz.prog 170 (∀ (a0:Int) (a1:Int) (r:Int),X9e a0 a1=some r->X0l Tryz.prog 170 [(aI .i64 a0),(aI .i64 a1)] (aI .i64 r)):=⟨fun a0 a1 r h=>by
 refine X0l.sym X6 X03d (nt:=17) rfl rfl ?_ okM
 unfold X9e at h
 revert h
 exact brI (fun h1=>fun e=>oj e▸X9 [Bt] (k:=fi)) fun h1=>brI (fun h2=>fun e=>oj e▸X9 [Bf,Bt] (k:=fi)) fun h2=>fun e=>oj e▸X9 [Bf,Bf] (k:=fi)⟩
instance Xqr:PCs Tryz.prog 151 (∀ (a0:Int) (a1:Int) (r:Int×Int),X6i a0 a1=some r->X0l Tryz.prog 151 [(aI .i64 a0),(aI .i64 a1)] (AV.tup [(aI .i64 r.1),(aI .i64 r.2)])):=⟨fun a0 a1 r h=>by
 refine X0l.sym X6 X03l (nt:=24) rfl rfl ?_ okM
 unfold X6i at h
 revert h
 refine bI fun v1 h2=>brI (fun h3=>fun e=>oj e▸X9 [.pure _ (aI .i64 v1),Bt] (k:=fi)) fun h3=>bI fun u4 h5=>bI fun j7_7 h9=>rnI [.pure _ (aI .i64 v1),Bf,.wrap] ?_
 intro h
 refine X3.join (s':=⟨fr [(7,(aI .i64 j7_7))],hp ([]),0⟩) ?_ (fun J=>X3.cut ?_)
 ·
  revert h
  exact fun e=>oj e▸X9 [] (k:=fi)
 clear h;revert h9
 refine brI (fun h8=>?_) fun h8=>?_
 ·
  intro h
  obtain rfl:=oj h
  exact X9 [Bt,.wrap] (k:=wkT [] (X3.glue J))
 intro h
 obtain rfl:=oj h
 exact X9 [Bf] (k:=wkT [] (X3.glue J))⟩
instance Xbp:PCs Tryz.prog 123 (∀ (a0:Int) (a1:Int) (r:X05×Int),Xa5 a0 a1=some r->X0l Tryz.prog 123 [(aI .i64 a0),(aI .i64 a1)] (AV.tup [(X01 r.1),(aI .i64 r.2)])):=⟨fun a0 a1 r h=>by
 refine X0l.sym X6 X043 (nt:=26) rfl rfl ?_ okM
 unfold Xa5 at h
 revert h
 exact bI fun v1 h2=>brI (fun h3=>fun e=>oj e▸X9 [.pure _ (AV.tup [(aI .i64 v1.1),(aI .i64 v1.2)]),Bt] (k:=fi)) fun h3=>fun e=>oj e▸X9 [.pure _ (AV.tup [(aI .i64 v1.1),(aI .i64 v1.2)]),Bf,.wrap,.wrap,.wrap] (k:=fi)⟩
theorem Xgu {Q:X00->St->Mu->Prop} {μ:Mu} (X16:Int) (X8i:Int) (X7j:Int):∀ (n:Nat) (Xt:(List X05)) (X9a:Int) (X22:Nb Xt) (o:X9u) (h:X54 X16 X8i X7j n Xt X9a=some o)
  (C0:∀ (X0a:(List X05)) (X0r:Nb X0a),o=X9u.x0 X0a->X3 Tryz.prog 70 0 Q (.exit (.exit 0)) [] ⟨fr [(10,(slE X0r.1 0 (X0a.map X01)))],hp ([]++opE X0r.1 0 2 (X0a.map X01)),1⟩ μ),
  X3 Tryz.prog 70 0 Q (.loop (X5f 0 (Xi Tryz.f124))) [] ⟨fr [(0,(aI .i64 X16)),(1,(aI .i64 X8i)),(2,(aI .i64 X7j)),(10,(slE X22.1 0 (Xt.map X01))),(11,(aI .i64 X9a))],hp ([]++opE X22.1 0 2 (Xt.map X01)),1⟩ μ:=by
 intro n
 induction n with
 |zero=>intro Xt X9a X22 o h C0;cases h
 |succ n ih =>
  intro Xt X9a X22 o h C0
  rw[X54] at h
  rcases X22 with ⟨_|_,X5i⟩
  ·
   refine X3.round ?_
   revert h
   refine brI (fun h18=>?_) fun h18=>fun e=>X9 [.wrap,Bf] (k:=wkT [] (C0 _  nbF (oj e).symm))
   refine bI fun u19 h20=>rnI [.wrap,Bt,.wrap,.no,.wrap] (o:=by repeat' first|apply Ya|exact pcM|(refine Xd h20 rfl ?_;first|(simp;done)|(simp;omega)|(simp[h18];done)|(simp[h18];omega))|(refine X7 h20 (by decide) ?_;first|(simp;done)|(simp;omega)|(simp[h18];done)|(simp[h18];omega))|exact Xu) ?_
   intro h
   exact wkT [(0,2)] (ih  _ _ nbF o h C0)
  obtain rfl:=X5i rfl
  refine X3.round ?_
  revert h
  refine brI (fun h21=>?_) fun h21=>fun e=>X9 [.wrap,Bf] (k:=wkT [] (C0 _  nbS (oj e).symm))
  refine bI fun u22 h23=>rnI [.wrap,Bt,.wrap,.no,.wrap] (o:=by repeat' first|apply Ya|exact pcM|(refine Xd h23 rfl ?_;first|(simp;done)|(simp;omega)|(simp[h21];done)|(simp[h21];omega))|(refine X7 h23 (by decide) ?_;first|(simp;done)|(simp;omega)|(simp[h21];done)|(simp[h21];omega))|exact Xu) ?_
  intro h
  exact wkT [(0,2)] (ih  _ _ nbF o h C0)
theorem X9g {Q:X00->St->Mu->Prop}  {rb rD:Nat} {rr:Loop} (rh1:rr.state=.ready) (rh2:rr.pending=none) (rh3:rr.params=(rfB 0 (Xi Tryz.f124)).1) (rh4:rr.assign=(rfB 0 (Xi Tryz.f124)).2.1) (rh5:rr.body=(rfB 0 (Xi Tryz.f124)).2.2) (X1t:(List X05)) (Xg9:Nb X1t):∀ (n:Nat) (X02:(List X05)) (Xcz:Int) (X0c:Nb X02) (o:X7a) (h:X3e X1t n X02 Xcz=some o)
  (C0:∀ (X2d:(List X05)) (Xbi:(List X05)) (X1h:Nb X2d) (X6d:Nb Xbi),o=X7a.x0 X2d Xbi->X3 Tryz.prog 19 3 Q (.exit (.exit 0)) [] ⟨fr [],hp ([(1,Ob [(slE X1h.1 3 (X2d.map X01))] 1),(2,Ob [(slE X6d.1 4 (Xbi.map X01))] 1)]++opE X1h.1 3 2 (X2d.map X01)++opE X6d.1 4 2 (Xbi.map X01)),5⟩ [(rb,MuE.loop rr 70 3 (fr [(12,(AV.ptr 1 0 0)),(62,(AV.fn 171 [(AV.ptr 2 0 0)]))])),(rD,MuE.blk (Go.Obj.deferred (some [])))]),
  X3 Tryz.prog 19 3 Q (.loop (X5f 0 (Xi Tryz.f171))) [] ⟨fr [(0,(AV.sc (.func (.yield rb) #[] #[]))),(1,(AV.ptr 2 0 0)),(3,(aI .i64 Xcz))],hp ([(1,Ob [(slE X0c.1 3 (X02.map X01))] 1),(2,Ob [(slE Xg9.1 4 (X1t.map X01))] 1)]++opE X0c.1 3 2 (X02.map X01)++opE Xg9.1 4 2 (X1t.map X01)),5⟩ [(rb,MuE.loop rr 70 3 (fr [(12,(AV.ptr 1 0 0)),(62,(AV.fn 171 [(AV.ptr 2 0 0)]))])),(rD,MuE.blk (Go.Obj.deferred (some [])))]:=by
 intro n
 induction n with
 |zero=>intro X02 Xcz X0c o h C0;cases h
 |succ n ih =>
  intro X02 Xcz X0c o h C0
  rw[X3e] at h
  rcases X0c with ⟨_|_,X1d⟩
  ·
   rcases Xg9 with ⟨_|_,Xkc⟩
   ·
    refine X3.round ?_
    revert h
    refine brI (fun h67=>?_) fun h67=>fun e=>X9 [Bf] (k:=wkT [] (C0 _ _  nbF nbF (oj e).symm))
    refine bI fun e68 h69=>?_
    try have qh69:=Xs h69
    refine rnI [Bt,.el (X01 e68),.ld (X01 e68)] ?_
    intro h
    refine X3.yield rfl rfl rfl rfl rfl trivial trivial (.head _) rh1 rh2 rh3 rh4 rh5 rfl rfl ?_
    refine X0g [] ?_
    refine X3.asg ?_
    revert h
    refine bI fun u72 h73=>rnI [.no] (o:=by repeat' first|apply Ya|exact pcM|(refine Xd h73 rfl ?_;first|(simp;done)|(simp;omega)|(simp[h67];done)|(simp[h67];omega))|(refine X7 h73 (by decide) ?_;first|(simp;done)|(simp;omega)|(simp[h67];done)|(simp[h67];omega))|exact Xu) ?_
    intro h
    refine X3.rndEnd ?_
    exact X9 [Bf,.wrap] (o:=by repeat' first|apply Ya|exact pcM|(refine Xd h73 rfl ?_;first|(simp;done)|(simp;omega)|(simp[h67];done)|(simp[h67];omega))|(refine X7 h73 (by decide) ?_;first|(simp;done)|(simp;omega)|(simp[h67];done)|(simp[h67];omega))|exact Xu) (k:=wkT [(3,7)] (ih  _ _ nbF o h C0))
   obtain rfl:=Xkc rfl
   refine X3.round ?_
   revert h
   refine brI (fun h74=>?_) fun h74=>fun e=>X9 [Bf] (k:=wkT [] (C0 _ _  nbF nbS (oj e).symm))
   refine bI fun e75 h76=>?_
   try have qh76:=Xs h76
   intro h
   exact absurd (h76) (by simp[X3c])
  obtain rfl:=X1d rfl
  rcases Xg9 with ⟨_|_,Xkc⟩
  ·
   refine X3.round ?_
   revert h
   refine brI (fun h77=>?_) fun h77=>fun e=>X9 [Bf] (k:=wkT [] (C0 _ _  nbS nbF (oj e).symm))
   refine bI fun e78 h79=>?_
   try have qh79:=Xs h79
   refine rnI [Bt,.el (X01 e78),.ld (X01 e78)] ?_
   intro h
   refine X3.yield rfl rfl rfl rfl rfl trivial trivial (.head _) rh1 rh2 rh3 rh4 rh5 rfl rfl ?_
   refine X0g [] ?_
   refine X3.asg ?_
   revert h
   refine bI fun u82 h83=>rnI [.no] (o:=by repeat' first|apply Ya|exact pcM|(refine Xd h83 rfl ?_;first|(simp;done)|(simp;omega)|(simp[h77];done)|(simp[h77];omega))|(refine X7 h83 (by decide) ?_;first|(simp;done)|(simp;omega)|(simp[h77];done)|(simp[h77];omega))|exact Xu) ?_
   intro h
   refine X3.rndEnd ?_
   exact X9 [Bf,.wrap] (o:=by repeat' first|apply Ya|exact pcM|(refine Xd h83 rfl ?_;first|(simp;done)|(simp;omega)|(simp[h77];done)|(simp[h77];omega))|(refine X7 h83 (by decide) ?_;first|(simp;done)|(simp;omega)|(simp[h77];done)|(simp[h77];omega))|exact Xu) (k:=wkT [(3,7)] (ih  _ _ nbF o h C0))
  obtain rfl:=Xkc rfl
  refine X3.round ?_
  revert h
  refine brI (fun h84=>?_) fun h84=>fun e=>X9 [Bf] (k:=wkT [] (C0 _ _  nbS nbS (oj e).symm))
  refine bI fun e85 h86=>?_
  try have qh86:=Xs h86
  intro h
  exact absurd (h86) (by simp[X3c])
end Go.Av.Tryz