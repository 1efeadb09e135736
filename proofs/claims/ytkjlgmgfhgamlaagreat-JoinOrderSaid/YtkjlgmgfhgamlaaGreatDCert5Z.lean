/- Printed by decomp.py: that the program computes the functions. -/
import Derived.Test.YtkjlgmgfhgamlaaGreatDCert4Z
set_option linter.all false

namespace Go.Av.Tryz
open Go.Proofs Go.D
set_option maxRecDepth 10000
set_option maxHeartbeats 40000000
theorem Xfl {Q:Xz->St->Mu->Prop} {μ:Mu} (Xpc:X0a) (Xbh:(List Xl)) (hl:Xbh.length<=140737488355328):∀ (xs:List Xl) (k:Nat) (hx:Xbh.drop k=xs) (Xhv:Bool) (o:X8p) (h:X3n Xpc Xbh xs k Xhv=some o)
  (C0:∀ (Xe6:Bool),o=X8p.x0 Xe6->X3 Tryz.prog 202 0 Q (.exit (.exit 6)) [] ⟨fr [(1,(AV.ptr 0 0 0)),(11,(aB Xe6))],hp ([(0,Ob [(Xr false Xpc)] 9)]),1⟩ μ),
  X3 Tryz.prog 202 0 Q (.loop (X5p 3 (Xj Tryz.f61))) [] ⟨fr [(1,(AV.ptr 0 0 0)),(11,(aB Xhv)),(164,(Lf (Xbh.map X4))),(165,(aI .i64 (Xbh.length:Int))),(166,(aI .i64 (k:Int)))],hp ([(0,Ob [(Xr false Xpc)] 9)]),1⟩ μ:=by
 intro xs
 induction xs with
 |nil =>
  intro k hx Xhv o h C0
  have hk:=drop_nil hx
  have hc:decide ((k:Int)<(Xbh.length:Int))=false:=Yf (by omega)
  rw[X3n] at h
  refine X3.round ?_
  revert h
  exact fun e=>Xa [Bf] (k:=wkT [] (C0 _  (oj e).symm))
 |cons x xs ih =>
  intro k hx Xhv o h C0
  obtain⟨hk,hg,hx1⟩:=X1a hx
  have hc:decide ((k:Int)<(Xbh.length:Int))=true:=Yt (by omega)
  rw[X3n] at h
  refine X3.round ?_
  revert h
  refine bI fun Xnb h163=>rnI [Bt,.el (X4 x),.stop 25] ?_
  intro h
  refine X3.join (s':=⟨fr [(1,(AV.ptr 0 0 0)),(11,(aB Xnb)),(164,(Lf (Xbh.map X4))),(165,(aI .i64 (Xbh.length:Int))),(166,(aI .i64 (k:Int)))],hp ([(0,Ob [(Xr false Xpc)] 9)]),1⟩) ?_ (fun J=>X3.cut ?_)
  ·
   exact Xa [] (k:=wkT [] (ih (k+1) hx1 _ o h C0))
  clear h;revert h163
  refine brI (fun h160=>?_) fun h160=>?_
  ·
   refine bI fun v161 h162=>?_
   intro h
   obtain rfl:=oj h
   exact Xa [.go true,.go true,.go true,.pure _ (aI .i64 v161),.go true] (k:=wkT [] (X3.glue J))
  intro h
  obtain rfl:=oj h
  exact Xa [.go false,.go false,.go false,.go false] (k:=wkT [] (X3.glue J))
theorem Xfk {Q:Xz->St->Mu->Prop} {μ:Mu} (Xkp:X0a) (Xbg:(List X2)) (hl:Xbg.length<=140737488355328):∀ (xs:List X2) (k:Nat) (hx:Xbg.drop k=xs) (Xgf:Bool) (o:X8o) (h:X3m Xkp Xbg xs k Xgf=some o)
  (C0:∀ (Xe5:Bool),o=X8o.x0 Xe5->X3 Tryz.prog 202 0 Q (.exit (.exit 8)) [] ⟨fr [(11,(aB Xe5))],hp ([]),0⟩ μ),
  X3 Tryz.prog 202 0 Q (.loop (X5p 4 (Xj Tryz.f61))) [] ⟨fr [(1,(AV.ptr 0 0 0)),(11,(aB Xgf)),(179,(Lf (Xbg.map X1))),(180,(aI .i64 (Xbg.length:Int))),(181,(aI .i64 (k:Int)))],hp ([(0,Ob [(Xr false Xkp)] 9)]),1⟩ μ:=by
 intro xs
 induction xs with
 |nil =>
  intro k hx Xgf o h C0
  have hk:=drop_nil hx
  have hc:decide ((k:Int)<(Xbg.length:Int))=false:=Yf (by omega)
  rw[X3m] at h
  refine X3.round ?_
  revert h
  exact fun e=>Xa [Bf] (k:=wkT [] (C0 _  (oj e).symm))
 |cons x xs ih =>
  intro k hx Xgf o h C0
  obtain⟨hk,hg,hx1⟩:=X1a hx
  have hc:decide ((k:Int)<(Xbg.length:Int))=true:=Yt (by omega)
  rw[X3m] at h
  refine X3.round ?_
  revert h
  refine bI fun Xna h186=>rnI [Bt,.el (X1 x),.stop 30] ?_
  intro h
  refine X3.join (s':=⟨fr [(1,(AV.ptr 0 0 0)),(11,(aB Xna)),(179,(Lf (Xbg.map X1))),(180,(aI .i64 (Xbg.length:Int))),(181,(aI .i64 (k:Int)))],hp ([(0,Ob [(Xr false Xkp)] 9)]),1⟩) ?_ (fun J=>X3.cut ?_)
  ·
   exact Xa [] (k:=wkT [] (ih (k+1) hx1 _ o h C0))
  clear h;revert h186
  refine brI (fun h184=>?_) fun h184=>?_
  ·
   refine brI (fun h185=>?_) fun h185=>?_
   ·
    intro h
    obtain rfl:=oj h
    exact Xa [.go true,.go true,.go true,.go true,.go true,.go false,.go false,.go false,.go false,.go false,.go true] (k:=wkT [] (X3.glue J))
   intro h
   obtain rfl:=oj h
   exact Xa [.go true,.go true,.go true,.go true,.go true,.go true,.go true,.ix 1,.go true,.go true,.go true,.go true] (k:=wkT [] (X3.glue J))
  intro h
  obtain rfl:=oj h
  exact Xa [.go false,.go false,.go false,.go false,.go false,.go false,.go false,.go false,.go false,.go false,.go false] (k:=wkT [] (X3.glue J))
instance Xuq:PCs Tryz.prog 61 (∀ (a0:X0a) (r:Int),X8b a0=some r->X0l Tryz.prog 61 [(Xr false a0)] (aI .i64 r)):=⟨fun a0 r h=>by
 refine X0l.sym X6 fn61 (nt:=202) rfl rfl ?_ okM
 unfold X8b at h
 revert h
 refine bI fun v1 h2=>bI fun Xj7 h32=>rnI [.pure _ (AV.tup [(aI .i64 v1.1),(aI .i64 v1.2.1),(aB v1.2.2.1),(aB v1.2.2.2.1),(aB v1.2.2.2.2.1),(aB v1.2.2.2.2.2)]),.stop 3] ?_
 intro h
 refine X3.join (s':=⟨fr [(1,(AV.ptr 0 0 0)),(9,(aB (bif (bif (bif (decide (a0.Turn >= (0:Int))) then (decide (a0.Turn<(20:Int))) else false) then (decide (a0.Op.N >= (0:Int))) else false) then (decide (a0.Op.N<(4:Int))) else false))),(10,(aB Xj7))],hp ([(0,Ob [(Xr false a0)] 9)]),1⟩) ?_ (fun J=>X3.cut ?_)
 ·
  revert h
  refine bI fun Xn3 h48=>rnI [.stop 4] ?_
  intro h
  refine X3.join (s':=⟨fr [(1,(AV.ptr 0 0 0)),(120,(aB Xn3))],hp ([(0,Ob [(Xr false a0)] 9)]),1⟩) ?_ (fun J=>X3.cut ?_)
  ·
   revert h
   refine brI (fun h49=>fun e=>oj e▸Xa [Bt] (k:=fi)) fun h49=>bI fun u50 h51=>?_
   have qh51:=X1c h51
   refine bI fun o77 h78=>rnI [Bf,.el (aI .i64 (a0.Marks.length:Int))] ?_
   intro h
   refine wkT [] (X3.cut (Xfo a0 a0.Marks qh51 a0.Marks 0 (by simp) _ _ h78 ?_))
   intro Xe9 eo77;subst eo77
   refine X3.glue ?_
   try dsimp only at h
   revert h
   refine bI fun u79 h80=>?_
   have qh80:=X1c h80
   refine bI fun o106 h107=>rnI [.el (aI .i64 (a0.Events.length:Int))] ?_
   intro h
   refine wkT [] (X3.cut (Xfn a0 a0.Events qh80 a0.Events 0 (by simp) _ _ h107 ?_))
   intro Xe8 eo106;subst eo106
   refine X3.glue ?_
   try dsimp only at h
   revert h
   refine bI fun u108 h109=>?_
   have qh109:=X1c h109
   refine bI fun o135 h136=>rnI [.el (aI .i64 (a0.Rows.length:Int))] ?_
   intro h
   refine wkT [] (X3.cut (Xfm a0 a0.Rows qh109 a0.Rows 0 (by simp) _ _ h136 ?_))
   intro Xe7 eo135;subst eo135
   refine X3.glue ?_
   try dsimp only at h
   revert h
   refine bI fun u137 h138=>?_
   have qh138:=X1c h138
   refine bI fun o164 h165=>rnI [.el (aI .i64 (a0.Late.length:Int))] ?_
   intro h
   refine wkT [] (X3.cut (Xfl a0 a0.Late qh138 a0.Late 0 (by simp) _ _ h165 ?_))
   intro Xe6 eo164;subst eo164
   refine X3.glue ?_
   try dsimp only at h
   revert h
   refine bI fun u166 h167=>?_
   have qh167:=X1c h167
   refine bI fun o187 h188=>rnI [.el (aI .i64 (a0.Store.length:Int))] ?_
   intro h
   refine wkT [] (X3.cut (Xfk a0 a0.Store qh167 a0.Store 0 (by simp) _ _ h188 ?_))
   intro Xe5 eo187;subst eo187
   refine X3.glue ?_
   try dsimp only at h
   revert h
   exact brI (fun h189=>fun e=>oj e▸Xa [Bt] (k:=fi)) fun h189=>fun e=>oj e▸Xa [Bf] (k:=fi)
  clear h;revert h48
  refine brI (fun h41=>?_) fun h41=>?_
  ·
   intro h
   obtain rfl:=oj h
   exact Xa [.go false,.go false,.go false,.go false,.go false,.go false,.go false,.go false,.go false,.go false] (o:=by repeat' first|apply Ya|exact pcM|exact((X9 h41 rfl))|exact(Xd (X9 h41 rfl))|exact(X47 (X9 h41 rfl))|exact((X9 (X9 h41 rfl) rfl))|exact(Xd (X9 (X9 h41 rfl) rfl))|exact(X47 (X9 (X9 h41 rfl) rfl))|exact Xw) (k:=wkT [] (X3.glue J))
  refine brI (fun h42=>?_) fun h42=>?_
  ·
   intro h
   obtain rfl:=oj h
   exact Xa [.go true,.go true,.go false,.go false,.go false,.go false,.go false,.go false,.go false,.go false] (o:=by repeat' first|apply Ya|exact pcM|exact((Xb h41 h42))|exact(Xd (Xb h41 h42))|exact(X47 (Xb h41 h42))|exact((X9 (Xb h41 h42) rfl))|exact(Xd (X9 (Xb h41 h42) rfl))|exact(X47 (X9 (Xb h41 h42) rfl))|exact Xw) (k:=wkT [] (X3.glue J))
  refine bI fun v43 h44=>brI (fun h45=>?_) fun h45=>?_
  ·
   intro h
   obtain rfl:=oj h
   exact Xa [.go true,.go true,.go true,.go true,.go true,.pure _ (aB v43),.go true,.go false,.go false,.go false,.go false] (o:=by repeat' first|apply Ya|exact pcM|exact((Xb h41 h42))|exact(Xd (Xb h41 h42))|exact(X88 (Xb h41 h42))|exact((Xb (Xb h41 h42) h45))|exact(Xd (Xb (Xb h41 h42) h45))|exact(X47 (Xb (Xb h41 h42) h45))|exact Xw) (k:=wkT [] (X3.glue J))
  refine bI fun v46 h47=>?_
  intro h
  obtain rfl:=oj h
  exact Xa [.go true,.go true,.go true,.go true,.go true,.pure _ (aB v43),.go true,.go true,.go true,.go true,.pure _ (aI .i64 v46),.go true] (o:=by repeat' first|apply Ya|exact pcM|exact((Xb h41 h42))|exact(Xd (Xb h41 h42))|exact(X88 (Xb h41 h42))|exact((Xb (Xb h41 h42) h45))|exact(Xd (Xb (Xb h41 h42) h45))|exact(X88 (Xb (Xb h41 h42) h45))|exact Xw) (k:=wkT [] (X3.glue J))
 clear h;revert h32
 refine brI (fun h18=>?_) fun h18=>?_
 ·
  refine brI (fun h19=>?_) fun h19=>?_
  ·
   refine brI (fun h20=>?_) fun h20=>?_
   ·
    refine bI fun v21 h22=>brI (fun h23=>?_) fun h23=>?_
    ·
     refine bI fun v24 h25=>brI (fun h26=>?_) fun h26=>?_
     ·
      refine bI fun v27 h28=>brI (fun h29=>?_) fun h29=>?_
      ·
       refine bI fun v30 h31=>?_
       intro h
       obtain rfl:=oj h
       exact Xa [X2q.el (aI .i64 (a0.Pending.length:Int)),.go true,.go true,.go true,X2q.el (aI .i64 (a0.Marks.length:Int)),.go true,.go true,.go true,.go true,.go true,X2q.el (aI .i64 (a0.Marks.length:Int)),.go true,.go true,.go true,.go true,.go true,X2q.el (aI .i64 (a0.Store.length:Int)),.go true,.go true,X2q.pure _ (aI .i64 v21),.go true,.go true,.go true,.go true,X2q.el (aI .i64 (a0.Events.length:Int)),.go true,.go true,X2q.pure _ (aI .i64 v24),.go true,.go true,.go true,.go true,X2q.el (aI .i64 (a0.Rows.length:Int)),.go true,.go true,X2q.pure _ (aI .i64 v27),.go true,.go true,.go true,.go true,X2q.el (aI .i64 (a0.Late.length:Int)),.go true,.go true,X2q.pure _ (aI .i64 v30),.go true] (o:=by repeat' first|apply Ya|exact pcM|exact((X9 h18 h19))|exact(Xd (X9 h18 h19))|exact(X47 (X9 h18 h19))|exact((X9 (X9 h18 h19) h20))|exact(Xd (X9 (X9 h18 h19) h20))|exact(X47 (X9 (X9 h18 h19) h20))|exact((X9 (X9 (X9 h18 h19) h20) h23))|exact(Xd (X9 (X9 (X9 h18 h19) h20) h23))|exact(X47 (X9 (X9 (X9 h18 h19) h20) h23))|exact((X9 (X9 (X9 (X9 h18 h19) h20) h23) h26))|exact(Xd (X9 (X9 (X9 (X9 h18 h19) h20) h23) h26))|exact(X47 (X9 (X9 (X9 (X9 h18 h19) h20) h23) h26))|exact((X9 (X9 (X9 (X9 (X9 h18 h19) h20) h23) h26) h29))|exact(Xd (X9 (X9 (X9 (X9 (X9 h18 h19) h20) h23) h26) h29))|exact(X47 (X9 (X9 (X9 (X9 (X9 h18 h19) h20) h23) h26) h29))|exact Xw) (k:=wkT [] (X3.glue J))
      intro h
      obtain rfl:=oj h
      exact Xa [X2q.el (aI .i64 (a0.Pending.length:Int)),.go true,.go true,.go true,X2q.el (aI .i64 (a0.Marks.length:Int)),.go true,.go true,.go true,.go true,.go true,X2q.el (aI .i64 (a0.Marks.length:Int)),.go true,.go true,.go true,.go true,.go true,X2q.el (aI .i64 (a0.Store.length:Int)),.go true,.go true,X2q.pure _ (aI .i64 v21),.go true,.go true,.go true,.go true,X2q.el (aI .i64 (a0.Events.length:Int)),.go true,.go true,X2q.pure _ (aI .i64 v24),.go true,.go true,.go true,.go true,X2q.el (aI .i64 (a0.Rows.length:Int)),.go true,.go true,X2q.pure _ (aI .i64 v27),.go true,.go false,.go false,.go false,.go false,.go false,.go false,.go false] (o:=by repeat' first|apply Ya|exact pcM|exact((X9 h18 h19))|exact(Xd (X9 h18 h19))|exact(X47 (X9 h18 h19))|exact((X9 (X9 h18 h19) h20))|exact(Xd (X9 (X9 h18 h19) h20))|exact(X47 (X9 (X9 h18 h19) h20))|exact((X9 (X9 (X9 h18 h19) h20) h23))|exact(Xd (X9 (X9 (X9 h18 h19) h20) h23))|exact(X47 (X9 (X9 (X9 h18 h19) h20) h23))|exact((X9 (X9 (X9 (X9 h18 h19) h20) h23) h26))|exact(Xd (X9 (X9 (X9 (X9 h18 h19) h20) h23) h26))|exact(X47 (X9 (X9 (X9 (X9 h18 h19) h20) h23) h26))|exact((X9 (X9 (X9 (X9 (X9 h18 h19) h20) h23) h26) h29))|exact(Xd (X9 (X9 (X9 (X9 (X9 h18 h19) h20) h23) h26) h29))|exact Xw) (k:=wkT [] (X3.glue J))
     intro h
     obtain rfl:=oj h
     exact Xa [X2q.el (aI .i64 (a0.Pending.length:Int)),.go true,.go true,.go true,X2q.el (aI .i64 (a0.Marks.length:Int)),.go true,.go true,.go true,.go true,.go true,X2q.el (aI .i64 (a0.Marks.length:Int)),.go true,.go true,.go true,.go true,.go true,X2q.el (aI .i64 (a0.Store.length:Int)),.go true,.go true,X2q.pure _ (aI .i64 v21),.go true,.go true,.go true,.go true,X2q.el (aI .i64 (a0.Events.length:Int)),.go true,.go true,X2q.pure _ (aI .i64 v24),.go true,.go false,.go false,.go false,.go false,.go false,.go false,.go false,.go false,.go false,.go false,.go false,.go false,.go false,.go false] (o:=by repeat' first|apply Ya|exact pcM|exact((X9 h18 h19))|exact(Xd (X9 h18 h19))|exact(X47 (X9 h18 h19))|exact((X9 (X9 h18 h19) h20))|exact(Xd (X9 (X9 h18 h19) h20))|exact(X47 (X9 (X9 h18 h19) h20))|exact((X9 (X9 (X9 h18 h19) h20) h23))|exact(Xd (X9 (X9 (X9 h18 h19) h20) h23))|exact(X47 (X9 (X9 (X9 h18 h19) h20) h23))|exact((X9 (X9 (X9 (X9 h18 h19) h20) h23) h26))|exact(Xd (X9 (X9 (X9 (X9 h18 h19) h20) h23) h26))|exact Xw) (k:=wkT [] (X3.glue J))
    intro h
    obtain rfl:=oj h
    exact Xa [X2q.el (aI .i64 (a0.Pending.length:Int)),.go true,.go true,.go true,X2q.el (aI .i64 (a0.Marks.length:Int)),.go true,.go true,.go true,.go true,.go true,X2q.el (aI .i64 (a0.Marks.length:Int)),.go true,.go true,.go true,.go true,.go true,X2q.el (aI .i64 (a0.Store.length:Int)),.go true,.go true,X2q.pure _ (aI .i64 v21),.go true,.go false,.go false,.go false,.go false,.go false,.go false,.go false,.go false,.go false,.go false,.go false,.go false,.go false,.go false,.go false,.go false,.go false,.go false,.go false,.go false,.go false] (o:=by repeat' first|apply Ya|exact pcM|exact((X9 h18 h19))|exact(Xd (X9 h18 h19))|exact(X47 (X9 h18 h19))|exact((X9 (X9 h18 h19) h20))|exact(Xd (X9 (X9 h18 h19) h20))|exact(X47 (X9 (X9 h18 h19) h20))|exact((X9 (X9 (X9 h18 h19) h20) h23))|exact(Xd (X9 (X9 (X9 h18 h19) h20) h23))|exact Xw) (k:=wkT [] (X3.glue J))
   intro h
   obtain rfl:=oj h
   exact Xa [X2q.el (aI .i64 (a0.Pending.length:Int)),.go true,.go true,.go true,X2q.el (aI .i64 (a0.Marks.length:Int)),.go true,.go true,.go true,.go true,.go true,X2q.el (aI .i64 (a0.Marks.length:Int)),.go true,.go true,.go false,.go false,.go false,.go false,.go false,.go false,.go false,.go false,.go false,.go false,.go false,.go false,.go false,.go false,.go false,.go false,.go false,.go false,.go false,.go false,.go false,.go false,.go false,.go false,.go false,.go false,.go false,.go false] (o:=by repeat' first|apply Ya|exact pcM|exact((X9 h18 h19))|exact(Xd (X9 h18 h19))|exact(X47 (X9 h18 h19))|exact((X9 (X9 h18 h19) h20))|exact(Xd (X9 (X9 h18 h19) h20))|exact Xw) (k:=wkT [] (X3.glue J))
  intro h
  obtain rfl:=oj h
  exact Xa [X2q.el (aI .i64 (a0.Pending.length:Int)),.go true,.go true,.go true,X2q.el (aI .i64 (a0.Marks.length:Int)),.go true,.go true,.go false,.go false,.go false,.go false,.go false,.go false,.go false,.go false,.go false,.go false,.go false,.go false,.go false,.go false,.go false,.go false,.go false,.go false,.go false,.go false,.go false,.go false,.go false,.go false,.go false,.go false,.go false,.go false,.go false,.go false,.go false,.go false,.go false,.go false] (o:=by repeat' first|apply Ya|exact pcM|exact((X9 h18 h19))|exact(Xd (X9 h18 h19))|exact Xw) (k:=wkT [] (X3.glue J))
 intro h
 obtain rfl:=oj h
 exact Xa [X2q.el (aI .i64 (a0.Pending.length:Int)),.go false,.go false,.go false,.go false,.go false,.go false,.go false,.go false,.go false,.go false,.go false,.go false,.go false,.go false,.go false,.go false,.go false,.go false,.go false,.go false,.go false,.go false,.go false,.go false,.go false,.go false,.go false,.go false,.go false,.go false,.go false,.go false,.go false,.go false,.go false,.go false,.go false,.go false,.go false,.go false] (k:=wkT [] (X3.glue J))⟩
instance Xxk:PCs Tryz.prog 79 (∀ (a0:Int) (r:X15),X99 a0=some r->X0l Tryz.prog 79 [(aI .i64 a0)] (X0u r)):=⟨fun a0 r h=>by
 refine X0l.sym X6 fn79 (nt:=7) rfl rfl ?_ okM
 unfold X99 at h
 revert h
 exact fun e=>oj e▸Xa [] (k:=fi)⟩
instance Xqo:PCs Tryz.prog 117 (∀ (a0:Int) (a1:Int) (r:Int),X3t a0 a1=some r->X0l Tryz.prog 117 [(aI .i64 a0),(aI .i64 a1)] (aI .i64 r)):=⟨fun a0 a1 r h=>by
 refine X0l.sym X6 X03w (nt:=17) rfl rfl ?_ okM
 unfold X3t at h
 revert h
 exact brI (fun h1=>fun e=>oj e▸Xa [Bt] (k:=fi)) fun h1=>brI (fun h2=>fun e=>oj e▸Xa [Bf,Bt] (k:=fi)) fun h2=>fun e=>oj e▸Xa [Bf,Bf] (k:=fi)⟩
instance Xow:PCs Tryz.prog 194 (∀ (a0:Int) (r:Int),X93 a0=some r->X0l Tryz.prog 194 [(aI .u64 a0)] (aI .i64 r)):=⟨fun a0 r h=>by
 refine X0l.sym X6 X02t (nt:=25) rfl rfl ?_ okM
 unfold X93 at h
 revert h
 refine bI fun w2 h4=>?_
 intro h
 obtain⟨j2_0,j2_2⟩:=w2
 try dsimp only at h
 refine X0i [] ?_
 refine X3.join (s':=⟨fr [(0,(aI .u64 j2_0)),(2,(aI .i64 j2_2))],hp ([]),0⟩) ?_ (fun J=>X3.cut ?_)
 ·
  revert h
  refine bI fun w6 h8=>?_
  intro h
  obtain⟨j6_0,j6_2⟩:=w6
  try dsimp only at h
  refine X0i [] ?_
  refine X3.join (s':=⟨fr [(0,(aI .u64 j6_0)),(2,(aI .i64 j6_2))],hp ([]),0⟩) ?_ (fun J=>X3.cut ?_)
  ·
   revert h
   refine bI fun w10 h12=>?_
   intro h
   obtain⟨X02n,X02m⟩:=w10
   try dsimp only at h
   refine X0i [] ?_
   refine X3.join (s':=⟨fr [(0,(aI .u64 X02n)),(2,(aI .i64 X02m))],hp ([]),0⟩) ?_ (fun J=>X3.cut ?_)
   ·
    revert h
    exact bI fun b13 h14=>fun e=>oj e▸Xa [.wrap,.el (aI .u8 b13),.wrap,.wrap] (o:=by repeat' first|apply Ya|exact pcM|exact(X7l h14)|exact(X00m (tab:=Xf4) rfl h14)|exact Xw) (k:=fi)
   clear h;revert h12
   refine brI (fun h11=>?_) fun h11=>?_
   ·
    intro h
    simp only[Option.some.injEq,Prod.mk.injEq] at h
    obtain⟨rfl,rfl⟩:=h
    exact Xa [Bt,.wrap] (k:=wkT [] (X3.glue J))
   intro h
   simp only[Option.some.injEq,Prod.mk.injEq] at h
   obtain⟨rfl,rfl⟩:=h
   exact Xa [Bf] (k:=wkT [] (X3.glue J))
  clear h;revert h8
  refine brI (fun h7=>?_) fun h7=>?_
  ·
   intro h
   simp only[Option.some.injEq,Prod.mk.injEq] at h
   obtain⟨rfl,rfl⟩:=h
   exact Xa [Bt,.wrap] (k:=wkT [] (X3.glue J))
  intro h
  simp only[Option.some.injEq,Prod.mk.injEq] at h
  obtain⟨rfl,rfl⟩:=h
  exact Xa [Bf] (k:=wkT [] (X3.glue J))
 clear h;revert h4
 refine brI (fun h3=>?_) fun h3=>?_
 ·
  intro h
  simp only[Option.some.injEq,Prod.mk.injEq] at h
  obtain⟨rfl,rfl⟩:=h
  exact Xa [Bt] (k:=wkT [] (X3.glue J))
 intro h
 simp only[Option.some.injEq,Prod.mk.injEq] at h
 obtain⟨rfl,rfl⟩:=h
 exact Xa [Bf] (k:=wkT [] (X3.glue J))⟩
instance Xqu:PCs Tryz.prog 169 (∀ (a0:Int) (r:Int),X84 a0=some r->X0l Tryz.prog 169 [(aI .u64 a0)] (aI .i64 r)):=⟨fun a0 r h=>by
 refine X0l.sym X6 X034 (nt:=8) rfl rfl ?_ okM
 unfold X84 at h
 revert h
 exact bI fun v1 h2=>fun e=>oj e▸Xa [Bf,.pure _ (aI .i64 v1)] (k:=fi)⟩
theorem X3y {Q:Xz->St->Mu->Prop} {μ:Mu} (X19:(List X2)) (Xo:X2) (y0_8:Int):∀ (n:Nat) (Xr2:Int) (Xhz:Int) (o:X12) (h:Xu X19 Xo y0_8 n Xr2 Xhz=some o)
  (C0:∀ (Xcm:Int),o=X12.x0 Xcm->X3 Tryz.prog 49 0 Q (.exit (.exit 0)) [] ⟨fr [(0,(Lf (X19.map X1))),(2,(AV.fn 116 [])),(4,(AV.ptr 0 0 0)),(8,(aI .i64 y0_8)),(9,(aI .i64 Xcm))],hp ([(0,Ob [(X1 Xo)] 11)]),1⟩ μ),
  X3 Tryz.prog 49 0 Q (.loop (X5p 0 (Xj Tryz.f125))) [] ⟨fr [(0,(Lf (X19.map X1))),(2,(AV.fn 116 [])),(4,(AV.ptr 0 0 0)),(8,(aI .i64 y0_8)),(9,(aI .i64 Xr2)),(10,(aI .i64 Xhz))],hp ([(0,Ob [(X1 Xo)] 11)]),1⟩ μ:=by
 intro n
 induction n with
 |zero=>intro Xr2 Xhz o h C0;cases h
 |succ n ih =>
  intro Xr2 Xhz o h C0
  rw[Xu] at h
  refine X3.round ?_
  revert h
  refine brI (fun h14=>?_) fun h14=>fun e=>Xa [Bf] (k:=wkT [] (C0 _  (oj e).symm))
  refine bI fun e15 h16=>?_
  try have qh16:=Xc h16
  refine bI fun v17 h18=>brI (fun h19=>?_) fun h19=>?_
  ·
   refine rnI [Bt,.wrap,.wrap,.wrap,.el (X1 e15),.pure _ (aI .i64 v17),Bt,.wrap] ?_
   intro h
   exact wkT [] (ih  _ _ o h C0)
  refine rnI [Bt,.wrap,.wrap,.wrap,.el (X1 e15),.pure _ (aI .i64 v17),Bf] ?_
  intro h
  exact wkT [] (ih  _ _ o h C0)
theorem Xm (a0:(List X2)) (a1:X2) (r:Int×Bool) (h:Xi a0 a1=some r):X0l Tryz.prog 125 [(Lf (a0.map X1)),(X1 a1),(AV.fn 116 [])] (AV.tup [(aI .i64 r.1),(aB r.2)]):=by
 refine X0l.sym X6 X03r (nt:=49) rfl rfl ?_ okM
 unfold Xi at h
 revert h
 refine bI fun o20 h21=>rnI [.el (aI .i64 (a0.length:Int))] ?_
 intro h
 refine wkT [] (X3.cut (X3y a0 a1 (a0.length:Int) _ _ _ _ h21 ?_))
 intro Xcm eo20;subst eo20
 refine X3.glue ?_
 try dsimp only at h
 revert h
 refine bI fun Xz1 h33=>rnI [.stop 8] ?_
 intro h
 refine X3.join (s':=⟨fr [(6,(aI .i64 Xcm)),(7,(aB Xz1))],hp ([]),0⟩) ?_ (fun J=>X3.cut ?_)
 ·
  revert h
  exact fun e=>oj e▸Xa [] (k:=fi)
 clear h;revert h33
 refine brI (fun h28=>?_) fun h28=>?_
 ·
  refine bI fun e29 h30=>?_
  try have qh30:=Xc h30
  refine bI fun v31 h32=>?_
  intro h
  obtain rfl:=oj h
  exact Xa [.go true,.go true,.go true,.go true,.el (X1 e29),.go true,.go true,.go true,.pure _ (aI .i64 v31),.go true] (k:=wkT [] (X3.glue J))
 intro h
 obtain rfl:=oj h
 exact Xa [.go false,.go false,.go false,.go false,.go false,.go false,.go false,.go false,.go false] (k:=wkT [] (X3.glue J))
instance X44:PCs Tryz.prog 150 (∀ (a0:X15) (a1:X15) (r:X15×Int),X2i a0 a1=some r->X0l Tryz.prog 150 [(X0u a0),(X0u a1)] (AV.tup [(X0u r.1),(aI .i64 r.2)])):=⟨fun a0 a1 r h=>by
 refine X0l.sym X6 X03c (nt:=53) rfl rfl ?_ okM
 unfold X2i at h
 revert h
 refine bI fun Xyn h12=>rnI [.stop 1] ?_
 intro h
 refine X3.join (s':=⟨fr [(2,(AV.ptr 0 0 0)),(3,(AV.ptr 1 0 0)),(4,(AV.ptr 2 0 0)),(13,(aB Xyn))],hp ([(0,Ob [(X0u a0)] 4),(1,Ob [(X0u a1)] 4),(2,Ob [(X0u (X15.mk 0 0 0 0))] 4)]),3⟩) ?_ (fun J=>X3.cut ?_)
 ·
  revert h
  exact brI (fun h13=>fun e=>oj e▸Xa [Bt] (k:=fi)) fun h13=>brI (fun h14=>fun e=>oj e▸Xa [Bf,.wrap,Bt] (k:=fi)) fun h14=>brI (fun h15=>fun e=>oj e▸Xa [Bf,.wrap,Bf,Bt] (k:=fi)) fun h15=>brI (fun h16=>fun e=>oj e▸Xa [Bf,.wrap,Bf,Bf,Bt] (k:=fi)) fun h16=>fun e=>oj e▸Xa [Bf,.wrap,Bf,Bf,Bf,.wrap,.wrap] (k:=fi)
 clear h;revert h12
 refine bI fun v7 h8=>brI (fun h9=>?_) fun h9=>?_
 ·
  intro h
  obtain rfl:=oj h
  exact Xa [.pure _ (aI .i64 v7),.go false,.go false,.go false] (k:=wkT [] (X3.glue J))
 refine bI fun v10 h11=>?_
 intro h
 obtain rfl:=oj h
 exact Xa [.pure _ (aI .i64 v7),.go true,.go true,.pure _ (aI .i64 v10),.go true] (k:=wkT [] (X3.glue J))⟩
instance Xra:PCs Tryz.prog 170 (∀ (a0:Int) (a1:Int) (r:Int),X9e a0 a1=some r->X0l Tryz.prog 170 [(aI .i64 a0),(aI .i64 a1)] (aI .i64 r)):=⟨fun a0 a1 r h=>by
 refine X0l.sym X6 X033 (nt:=17) rfl rfl ?_ okM
 unfold X9e at h
 revert h
 exact brI (fun h1=>fun e=>oj e▸Xa [Bt] (k:=fi)) fun h1=>brI (fun h2=>fun e=>oj e▸Xa [Bf,Bt] (k:=fi)) fun h2=>fun e=>oj e▸Xa [Bf,Bf] (k:=fi)⟩
instance Xqn:PCs Tryz.prog 151 (∀ (a0:Int) (a1:Int) (r:Int×Int),X6k a0 a1=some r->X0l Tryz.prog 151 [(aI .i64 a0),(aI .i64 a1)] (AV.tup [(aI .i64 r.1),(aI .i64 r.2)])):=⟨fun a0 a1 r h=>by
 refine X0l.sym X6 X03b (nt:=24) rfl rfl ?_ okM
 unfold X6k at h
 revert h
 refine bI fun v1 h2=>brI (fun h3=>fun e=>oj e▸Xa [.pure _ (aI .i64 v1),Bt] (k:=fi)) fun h3=>bI fun u4 h5=>bI fun j7_7 h9=>rnI [.pure _ (aI .i64 v1),Bf,.wrap] ?_
 intro h
 refine X3.join (s':=⟨fr [(7,(aI .i64 j7_7))],hp ([]),0⟩) ?_ (fun J=>X3.cut ?_)
 ·
  revert h
  exact fun e=>oj e▸Xa [] (k:=fi)
 clear h;revert h9
 refine brI (fun h8=>?_) fun h8=>?_
 ·
  intro h
  obtain rfl:=oj h
  exact Xa [Bt,.wrap] (k:=wkT [] (X3.glue J))
 intro h
 obtain rfl:=oj h
 exact Xa [Bf] (k:=wkT [] (X3.glue J))⟩
instance Xbm:PCs Tryz.prog 123 (∀ (a0:Int) (a1:Int) (r:X05×Int),Xa4 a0 a1=some r->X0l Tryz.prog 123 [(aI .i64 a0),(aI .i64 a1)] (AV.tup [(X00 r.1),(aI .i64 r.2)])):=⟨fun a0 a1 r h=>by
 refine X0l.sym X6 X03t (nt:=26) rfl rfl ?_ okM
 unfold Xa4 at h
 revert h
 exact bI fun v1 h2=>brI (fun h3=>fun e=>oj e▸Xa [.pure _ (AV.tup [(aI .i64 v1.1),(aI .i64 v1.2)]),Bt] (k:=fi)) fun h3=>fun e=>oj e▸Xa [.pure _ (AV.tup [(aI .i64 v1.1),(aI .i64 v1.2)]),Bf,.wrap,.wrap,.wrap] (k:=fi)⟩
theorem Xgq {Q:Xz->St->Mu->Prop} {μ:Mu} (X19:Int) (X75:Int) (X2p:Int):∀ (n:Nat) (Xo:(List X05)) (X9a:Int) (X22:Nb Xo) (o:X9u) (h:X55 X19 X75 X2p n Xo X9a=some o)
  (C0:∀ (X09:(List X05)) (X0r:Nb X09),o=X9u.x0 X09->X3 Tryz.prog 70 0 Q (.exit (.exit 0)) [] ⟨fr [(10,(slE X0r.1 0 (X09.map X00)))],hp ([]++opE X0r.1 0 2 (X09.map X00)),1⟩ μ),
  X3 Tryz.prog 70 0 Q (.loop (X5p 0 (Xj Tryz.f124))) [] ⟨fr [(0,(aI .i64 X19)),(1,(aI .i64 X75)),(2,(aI .i64 X2p)),(10,(slE X22.1 0 (Xo.map X00))),(11,(aI .i64 X9a))],hp ([]++opE X22.1 0 2 (Xo.map X00)),1⟩ μ:=by
 intro n
 induction n with
 |zero=>intro Xo X9a X22 o h C0;cases h
 |succ n ih =>
  intro Xo X9a X22 o h C0
  rw[X55] at h
  rcases X22 with ⟨_|_,X5j⟩
  ·
   refine X3.round ?_
   revert h
   refine brI (fun h18=>?_) fun h18=>fun e=>Xa [.wrap,Bf] (k:=wkT [] (C0 _  nbF (oj e).symm))
   refine bI fun u19 h20=>rnI [.wrap,Bt,.wrap,.no,.wrap] (o:=by repeat' first|apply Ya|exact pcM|(refine Xv h20 rfl ?_;first|(simp;done)|(simp;omega)|(simp[h18];done)|(simp[h18];omega))|(refine Xf h20 (by decide) ?_;first|(simp;done)|(simp;omega)|(simp[h18];done)|(simp[h18];omega))|exact Xw) ?_
   intro h
   exact wkT [(0,2)] (ih  _ _ nbF o h C0)
  obtain rfl:=X5j rfl
  refine X3.round ?_
  revert h
  refine brI (fun h21=>?_) fun h21=>fun e=>Xa [.wrap,Bf] (k:=wkT [] (C0 _  nbS (oj e).symm))
  refine bI fun u22 h23=>rnI [.wrap,Bt,.wrap,.no,.wrap] (o:=by repeat' first|apply Ya|exact pcM|(refine Xv h23 rfl ?_;first|(simp;done)|(simp;omega)|(simp[h21];done)|(simp[h21];omega))|(refine Xf h23 (by decide) ?_;first|(simp;done)|(simp;omega)|(simp[h21];done)|(simp[h21];omega))|exact Xw) ?_
  intro h
  exact wkT [(0,2)] (ih  _ _ nbF o h C0)
theorem X9g {Q:Xz->St->Mu->Prop}  {rb rD:Nat} {rr:Loop} (rh1:rr.state=.ready) (rh2:rr.pending=none) (rh3:rr.params=(rfB 0 (Xj Tryz.f124)).1) (rh4:rr.assign=(rfB 0 (Xj Tryz.f124)).2.1) (rh5:rr.body=(rfB 0 (Xj Tryz.f124)).2.2) (X0k:(List X05)) (X28:Nb X0k):∀ (n:Nat) (X02:(List X05)) (Xkr:Int) (X0c:Nb X02) (o:X7c) (h:X3e X0k n X02 Xkr=some o)
  (C0:∀ (X2d:(List X05)) (X4u:(List X05)) (X25:Nb X2d) (X49:Nb X4u),o=X7c.x0 X2d X4u->X3 Tryz.prog 19 3 Q (.exit (.exit 0)) [] ⟨fr [],hp ([(1,Ob [(slE X25.1 3 (X2d.map X00))] 1),(2,Ob [(slE X49.1 4 (X4u.map X00))] 1)]++opE X25.1 3 2 (X2d.map X00)++opE X49.1 4 2 (X4u.map X00)),5⟩ [(rb,MuE.loop rr 70 3 (fr [(12,(AV.ptr 1 0 0)),(62,(AV.fn 171 [(AV.ptr 2 0 0)]))])),(rD,MuE.blk (Go.Obj.deferred (some [])))]),
  X3 Tryz.prog 19 3 Q (.loop (X5p 0 (Xj Tryz.f171))) [] ⟨fr [(0,(AV.sc (.func (.yield rb) #[] #[]))),(1,(AV.ptr 2 0 0)),(3,(aI .i64 Xkr))],hp ([(1,Ob [(slE X0c.1 3 (X02.map X00))] 1),(2,Ob [(slE X28.1 4 (X0k.map X00))] 1)]++opE X0c.1 3 2 (X02.map X00)++opE X28.1 4 2 (X0k.map X00)),5⟩ [(rb,MuE.loop rr 70 3 (fr [(12,(AV.ptr 1 0 0)),(62,(AV.fn 171 [(AV.ptr 2 0 0)]))])),(rD,MuE.blk (Go.Obj.deferred (some [])))]:=by
 intro n
 induction n with
 |zero=>intro X02 Xkr X0c o h C0;cases h
 |succ n ih =>
  intro X02 Xkr X0c o h C0
  rw[X3e] at h
  rcases X0c with ⟨_|_,X1d⟩
  ·
   rcases X28 with ⟨_|_,X0w⟩
   ·
    refine X3.round ?_
    revert h
    refine brI (fun h67=>?_) fun h67=>fun e=>Xa [Bf] (k:=wkT [] (C0 _ _  nbF nbF (oj e).symm))
    refine bI fun e68 h69=>?_
    try have qh69:=Xc h69
    refine rnI [Bt,.el (X00 e68),.ld (X00 e68)] ?_
    intro h
    refine X3.yield rfl rfl rfl rfl rfl trivial trivial (.head _) rh1 rh2 rh3 rh4 rh5 rfl rfl ?_
    refine X0i [] ?_
    refine X3.asg ?_
    revert h
    refine bI fun u72 h73=>rnI [.no] (o:=by repeat' first|apply Ya|exact pcM|(refine Xv h73 rfl ?_;first|(simp;done)|(simp;omega)|(simp[h67];done)|(simp[h67];omega))|(refine Xf h73 (by decide) ?_;first|(simp;done)|(simp;omega)|(simp[h67];done)|(simp[h67];omega))|exact Xw) ?_
    intro h
    refine X3.rndEnd ?_
    exact Xa [Bf,.wrap] (k:=wkT [(3,7)] (ih  _ _ nbF o h C0))
   obtain rfl:=X0w rfl
   refine X3.round ?_
   revert h
   refine brI (fun h74=>?_) fun h74=>fun e=>Xa [Bf] (k:=wkT [] (C0 _ _  nbF nbS (oj e).symm))
   refine bI fun e75 h76=>?_
   try have qh76:=Xc h76
   intro h
   exact absurd (h76) (by simp[X3c])
  obtain rfl:=X1d rfl
  rcases X28 with ⟨_|_,X0w⟩
  ·
   refine X3.round ?_
   revert h
   refine brI (fun h77=>?_) fun h77=>fun e=>Xa [Bf] (k:=wkT [] (C0 _ _  nbS nbF (oj e).symm))
   refine bI fun e78 h79=>?_
   try have qh79:=Xc h79
   refine rnI [Bt,.el (X00 e78),.ld (X00 e78)] ?_
   intro h
   refine X3.yield rfl rfl rfl rfl rfl trivial trivial (.head _) rh1 rh2 rh3 rh4 rh5 rfl rfl ?_
   refine X0i [] ?_
   refine X3.asg ?_
   revert h
   refine bI fun u82 h83=>rnI [.no] (o:=by repeat' first|apply Ya|exact pcM|(refine Xv h83 rfl ?_;first|(simp;done)|(simp;omega)|(simp[h77];done)|(simp[h77];omega))|(refine Xf h83 (by decide) ?_;first|(simp;done)|(simp;omega)|(simp[h77];done)|(simp[h77];omega))|exact Xw) ?_
   intro h
   refine X3.rndEnd ?_
   exact Xa [Bf,.wrap] (k:=wkT [(3,7)] (ih  _ _ nbF o h C0))
  obtain rfl:=X0w rfl
  refine X3.round ?_
  revert h
  refine brI (fun h84=>?_) fun h84=>fun e=>Xa [Bf] (k:=wkT [] (C0 _ _  nbS nbS (oj e).symm))
  refine bI fun e85 h86=>?_
  try have qh86:=Xc h86
  intro h
  exact absurd (h86) (by simp[X3c])
end Go.Av.Tryz