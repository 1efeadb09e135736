/- Printed by decomp.py: that the program computes the functions. -/
import Derived.Test.YtkjlgmgfhgamlaaGreatDCert4Z
set_option linter.all false

namespace Go.Av.Tryz
open Go.Proofs Go.D
set_option maxRecDepth 10000
set_option maxHeartbeats 40000000
theorem Xfz {Q:Xv->St->Mu->Prop} {μ:Mu} (Xps:X00) (Xbl:(List Xe)) (hl:Xbl.length<=140737488355328):∀ (xs:List Xe) (k:Nat) (hx:Xbl.drop k=xs) (Xif:Bool) (o:X90) (h:X3p Xps Xbl xs k Xif=some o)
  (C0:∀ (Xej:Bool),o=X90.x0 Xej->X3 Tryz.prog 202 0 Q (.exit (.exit 6)) [] ⟨fr [(1,(AV.ptr 0 0 0)),(11,(aB Xej))],hp ([(0,Ob [(Xj false Xps)] 9)]),1⟩ μ),
  X3 Tryz.prog 202 0 Q (.loop (X4y 3 (Xb Tryz.f61))) [] ⟨fr [(1,(AV.ptr 0 0 0)),(11,(aB Xif)),(164,(Lf (Xbl.map Xx))),(165,(aI .i64 (Xbl.length:Int))),(166,(aI .i64 (k:Int)))],hp ([(0,Ob [(Xj false Xps)] 9)]),1⟩ μ:=by
 intro xs
 induction xs with
 |nil =>
  intro k hx Xif o h C0
  have hk:=X1h hx
  have hc:decide ((k:Int)<(Xbl.length:Int))=false:=Yf (by omega)
  rw[X3p] at h
  refine X3.round ?_
  revert h
  exact fun e=>Xa [Bf] (k:=wkT [] (C0 _  (oj e).symm))
 |cons x xs ih =>
  intro k hx Xif o h C0
  obtain⟨hk,hg,hx1⟩:=X0w hx
  have hc:decide ((k:Int)<(Xbl.length:Int))=true:=Yt (by omega)
  rw[X3p] at h
  refine X3.round ?_
  revert h
  refine bI fun Xnu h163=>rnI [Bt,.el (Xx x),.stop 25] ?_
  intro h
  refine X3.join (s':=⟨fr [(1,(AV.ptr 0 0 0)),(11,(aB Xnu)),(164,(Lf (Xbl.map Xx))),(165,(aI .i64 (Xbl.length:Int))),(166,(aI .i64 (k:Int)))],hp ([(0,Ob [(Xj false Xps)] 9)]),1⟩) ?_ (fun J=>X3.cut ?_)
  ·
   exact Xa [] (k:=wkT [] (ih (k+1) hx1 _ o h C0))
  clear h;revert h163
  refine brI (fun h160=>?_) fun h160=>?_
  ·
   refine bI fun v161 h162=>?_
   intro h
   obtain rfl:=oj h
   exact Xa [.go true,.go true,.go true,.pure _ (aI .i64 v161),.go true] (k:=wkT [] (X3.glue J))
  intro h
  obtain rfl:=oj h
  exact Xa [.go false,.go false,.go false,.go false] (k:=wkT [] (X3.glue J))
theorem Xfy {Q:Xv->St->Mu->Prop} {μ:Mu} (Xl3:X00) (Xbk:(List X2)) (hl:Xbk.length<=140737488355328):∀ (xs:List X2) (k:Nat) (hx:Xbk.drop k=xs) (Xgy:Bool) (o:X8z) (h:X3o Xl3 Xbk xs k Xgy=some o)
  (C0:∀ (Xei:Bool),o=X8z.x0 Xei->X3 Tryz.prog 202 0 Q (.exit (.exit 8)) [] ⟨fr [(11,(aB Xei))],hp ([]),0⟩ μ),
  X3 Tryz.prog 202 0 Q (.loop (X4y 4 (Xb Tryz.f61))) [] ⟨fr [(1,(AV.ptr 0 0 0)),(11,(aB Xgy)),(179,(Lf (Xbk.map X1))),(180,(aI .i64 (Xbk.length:Int))),(181,(aI .i64 (k:Int)))],hp ([(0,Ob [(Xj false Xl3)] 9)]),1⟩ μ:=by
 intro xs
 induction xs with
 |nil =>
  intro k hx Xgy o h C0
  have hk:=X1h hx
  have hc:decide ((k:Int)<(Xbk.length:Int))=false:=Yf (by omega)
  rw[X3o] at h
  refine X3.round ?_
  revert h
  exact fun e=>Xa [Bf] (k:=wkT [] (C0 _  (oj e).symm))
 |cons x xs ih =>
  intro k hx Xgy o h C0
  obtain⟨hk,hg,hx1⟩:=X0w hx
  have hc:decide ((k:Int)<(Xbk.length:Int))=true:=Yt (by omega)
  rw[X3o] at h
  refine X3.round ?_
  revert h
  refine bI fun Xnt h186=>rnI [Bt,.el (X1 x),.stop 30] ?_
  intro h
  refine X3.join (s':=⟨fr [(1,(AV.ptr 0 0 0)),(11,(aB Xnt)),(179,(Lf (Xbk.map X1))),(180,(aI .i64 (Xbk.length:Int))),(181,(aI .i64 (k:Int)))],hp ([(0,Ob [(Xj false Xl3)] 9)]),1⟩) ?_ (fun J=>X3.cut ?_)
  ·
   exact Xa [] (k:=wkT [] (ih (k+1) hx1 _ o h C0))
  clear h;revert h186
  refine brI (fun h184=>?_) fun h184=>?_
  ·
   refine brI (fun h185=>?_) fun h185=>?_
   ·
    intro h
    obtain rfl:=oj h
    exact Xa [.go true,.go true,.go true,.go true,.go true,.go false,.go false,.go false,.go false,.go false,.go true] (k:=wkT [] (X3.glue J))
   intro h
   obtain rfl:=oj h
   exact Xa [.go true,.go true,.go true,.go true,.go true,.go true,.go true,.ix 1,.go true,.go true,.go true,.go true] (k:=wkT [] (X3.glue J))
  intro h
  obtain rfl:=oj h
  exact Xa [.go false,.go false,.go false,.go false,.go false,.go false,.go false,.go false,.go false,.go false,.go false] (k:=wkT [] (X3.glue J))
instance Xvf:PCs Tryz.prog 61 (∀ (a0:X00) (r:Int),X8j a0=some r->X0j Tryz.prog 61 [(Xj false a0)] (aI .i64 r)):=⟨fun a0 r h=>by
 refine X0j.sym X5 fn61 (nt:=202) rfl rfl ?_ okM
 unfold X8j at h
 revert h
 refine bI fun v1 h2=>bI fun Xjp h32=>rnI [.pure _ (AV.tup [(aI .i64 v1.1),(aI .i64 v1.2.1),(aB v1.2.2.1),(aB v1.2.2.2.1),(aB v1.2.2.2.2.1),(aB v1.2.2.2.2.2)]),.stop 3] ?_
 intro h
 refine X3.join (s':=⟨fr [(1,(AV.ptr 0 0 0)),(9,(aB (bif (bif (bif (decide (a0.Turn >= (0:Int))) then (decide (a0.Turn<(20:Int))) else false) then (decide (a0.Op.N >= (0:Int))) else false) then (decide (a0.Op.N<(4:Int))) else false))),(10,(aB Xjp))],hp ([(0,Ob [(Xj false a0)] 9)]),1⟩) ?_ (fun J=>X3.cut ?_)
 ·
  revert h
  refine bI fun Xnm h48=>rnI [.stop 4] ?_
  intro h
  refine X3.join (s':=⟨fr [(1,(AV.ptr 0 0 0)),(120,(aB Xnm))],hp ([(0,Ob [(Xj false a0)] 9)]),1⟩) ?_ (fun J=>X3.cut ?_)
  ·
   revert h
   refine brI (fun h49=>fun e=>oj e▸Xa [Bt] (k:=fi)) fun h49=>bI fun u50 h51=>?_
   have qh51:=X12 h51
   refine bI fun o77 h78=>rnI [Bf,.el (aI .i64 (a0.Marks.length:Int))] ?_
   intro h
   refine wkT [] (X3.cut (Xg2 a0 a0.Marks qh51 a0.Marks 0 (by simp) _ _ h78 ?_))
   intro Xem eo77;subst eo77
   refine X3.glue ?_
   try dsimp only at h
   revert h
   refine bI fun u79 h80=>?_
   have qh80:=X12 h80
   refine bI fun o106 h107=>rnI [.el (aI .i64 (a0.Events.length:Int))] ?_
   intro h
   refine wkT [] (X3.cut (Xg1 a0 a0.Events qh80 a0.Events 0 (by simp) _ _ h107 ?_))
   intro Xel eo106;subst eo106
   refine X3.glue ?_
   try dsimp only at h
   revert h
   refine bI fun u108 h109=>?_
   have qh109:=X12 h109
   refine bI fun o135 h136=>rnI [.el (aI .i64 (a0.Rows.length:Int))] ?_
   intro h
   refine wkT [] (X3.cut (Xg0 a0 a0.Rows qh109 a0.Rows 0 (by simp) _ _ h136 ?_))
   intro Xek eo135;subst eo135
   refine X3.glue ?_
   try dsimp only at h
   revert h
   refine bI fun u137 h138=>?_
   have qh138:=X12 h138
   refine bI fun o164 h165=>rnI [.el (aI .i64 (a0.Late.length:Int))] ?_
   intro h
   refine wkT [] (X3.cut (Xfz a0 a0.Late qh138 a0.Late 0 (by simp) _ _ h165 ?_))
   intro Xej eo164;subst eo164
   refine X3.glue ?_
   try dsimp only at h
   revert h
   refine bI fun u166 h167=>?_
   have qh167:=X12 h167
   refine bI fun o187 h188=>rnI [.el (aI .i64 (a0.Store.length:Int))] ?_
   intro h
   refine wkT [] (X3.cut (Xfy a0 a0.Store qh167 a0.Store 0 (by simp) _ _ h188 ?_))
   intro Xei eo187;subst eo187
   refine X3.glue ?_
   try dsimp only at h
   revert h
   exact brI (fun h189=>fun e=>oj e▸Xa [Bt] (k:=fi)) fun h189=>fun e=>oj e▸Xa [Bf] (k:=fi)
  clear h;revert h48
  refine brI (fun h41=>?_) fun h41=>?_
  ·
   intro h
   obtain rfl:=oj h
   exact Xa [.go false,.go false,.go false,.go false,.go false,.go false,.go false,.go false,.go false,.go false] (o:=by repeat' first|apply Ya|exact pcM|exact((X9 h41 rfl))|exact(Xi (X9 h41 rfl))|exact(X5k (X9 h41 rfl))|exact((X9 (X9 h41 rfl) rfl))|exact(Xi (X9 (X9 h41 rfl) rfl))|exact(X5k (X9 (X9 h41 rfl) rfl))|exact X04) (k:=wkT [] (X3.glue J))
  refine brI (fun h42=>?_) fun h42=>?_
  ·
   intro h
   obtain rfl:=oj h
   exact Xa [.go true,.go true,.go false,.go false,.go false,.go false,.go false,.go false,.go false,.go false] (o:=by repeat' first|apply Ya|exact pcM|exact((X8 h41 h42))|exact(Xi (X8 h41 h42))|exact(X5k (X8 h41 h42))|exact((X9 (X8 h41 h42) rfl))|exact(Xi (X9 (X8 h41 h42) rfl))|exact(X5k (X9 (X8 h41 h42) rfl))|exact X04) (k:=wkT [] (X3.glue J))
  refine bI fun v43 h44=>brI (fun h45=>?_) fun h45=>?_
  ·
   intro h
   obtain rfl:=oj h
   exact Xa [.go true,.go true,.go true,.go true,.go true,.pure _ (aB v43),.go true,.go false,.go false,.go false,.go false] (o:=by repeat' first|apply Ya|exact pcM|exact((X8 h41 h42))|exact(Xi (X8 h41 h42))|exact(Xd3 (X8 h41 h42))|exact((X8 (X8 h41 h42) h45))|exact(Xi (X8 (X8 h41 h42) h45))|exact(X5k (X8 (X8 h41 h42) h45))|exact X04) (k:=wkT [] (X3.glue J))
  refine bI fun v46 h47=>?_
  intro h
  obtain rfl:=oj h
  exact Xa [.go true,.go true,.go true,.go true,.go true,.pure _ (aB v43),.go true,.go true,.go true,.go true,.pure _ (aI .i64 v46),.go true] (o:=by repeat' first|apply Ya|exact pcM|exact((X8 h41 h42))|exact(Xi (X8 h41 h42))|exact(Xd3 (X8 h41 h42))|exact((X8 (X8 h41 h42) h45))|exact(Xi (X8 (X8 h41 h42) h45))|exact(Xd3 (X8 (X8 h41 h42) h45))|exact X04) (k:=wkT [] (X3.glue J))
 clear h;revert h32
 refine brI (fun h18=>?_) fun h18=>?_
 ·
  refine brI (fun h19=>?_) fun h19=>?_
  ·
   refine brI (fun h20=>?_) fun h20=>?_
   ·
    refine bI fun v21 h22=>brI (fun h23=>?_) fun h23=>?_
    ·
     refine bI fun v24 h25=>brI (fun h26=>?_) fun h26=>?_
     ·
      refine bI fun v27 h28=>brI (fun h29=>?_) fun h29=>?_
      ·
       refine bI fun v30 h31=>?_
       intro h
       obtain rfl:=oj h
       exact Xa [X2r.el (aI .i64 (a0.Pending.length:Int)),.go true,.go true,.go true,X2r.el (aI .i64 (a0.Marks.length:Int)),.go true,.go true,.go true,.go true,.go true,X2r.el (aI .i64 (a0.Marks.length:Int)),.go true,.go true,.go true,.go true,.go true,X2r.el (aI .i64 (a0.Store.length:Int)),.go true,.go true,X2r.pure _ (aI .i64 v21),.go true,.go true,.go true,.go true,X2r.el (aI .i64 (a0.Events.length:Int)),.go true,.go true,X2r.pure _ (aI .i64 v24),.go true,.go true,.go true,.go true,X2r.el (aI .i64 (a0.Rows.length:Int)),.go true,.go true,X2r.pure _ (aI .i64 v27),.go true,.go true,.go true,.go true,X2r.el (aI .i64 (a0.Late.length:Int)),.go true,.go true,X2r.pure _ (aI .i64 v30),.go true] (o:=by repeat' first|apply Ya|exact pcM|exact((X9 h18 h19))|exact(Xi (X9 h18 h19))|exact(X5k (X9 h18 h19))|exact((X9 (X9 h18 h19) h20))|exact(Xi (X9 (X9 h18 h19) h20))|exact(X5k (X9 (X9 h18 h19) h20))|exact((X9 (X9 (X9 h18 h19) h20) h23))|exact(Xi (X9 (X9 (X9 h18 h19) h20) h23))|exact(X5k (X9 (X9 (X9 h18 h19) h20) h23))|exact((X9 (X9 (X9 (X9 h18 h19) h20) h23) h26))|exact(Xi (X9 (X9 (X9 (X9 h18 h19) h20) h23) h26))|exact(X5k (X9 (X9 (X9 (X9 h18 h19) h20) h23) h26))|exact((X9 (X9 (X9 (X9 (X9 h18 h19) h20) h23) h26) h29))|exact(Xi (X9 (X9 (X9 (X9 (X9 h18 h19) h20) h23) h26) h29))|exact(X5k (X9 (X9 (X9 (X9 (X9 h18 h19) h20) h23) h26) h29))|exact X04) (k:=wkT [] (X3.glue J))
      intro h
      obtain rfl:=oj h
      exact Xa [X2r.el (aI .i64 (a0.Pending.length:Int)),.go true,.go true,.go true,X2r.el (aI .i64 (a0.Marks.length:Int)),.go true,.go true,.go true,.go true,.go true,X2r.el (aI .i64 (a0.Marks.length:Int)),.go true,.go true,.go true,.go true,.go true,X2r.el (aI .i64 (a0.Store.length:Int)),.go true,.go true,X2r.pure _ (aI .i64 v21),.go true,.go true,.go true,.go true,X2r.el (aI .i64 (a0.Events.length:Int)),.go true,.go true,X2r.pure _ (aI .i64 v24),.go true,.go true,.go true,.go true,X2r.el (aI .i64 (a0.Rows.length:Int)),.go true,.go true,X2r.pure _ (aI .i64 v27),.go true,.go false,.go false,.go false,.go false,.go false,.go false,.go false] (o:=by repeat' first|apply Ya|exact pcM|exact((X9 h18 h19))|exact(Xi (X9 h18 h19))|exact(X5k (X9 h18 h19))|exact((X9 (X9 h18 h19) h20))|exact(Xi (X9 (X9 h18 h19) h20))|exact(X5k (X9 (X9 h18 h19) h20))|exact((X9 (X9 (X9 h18 h19) h20) h23))|exact(Xi (X9 (X9 (X9 h18 h19) h20) h23))|exact(X5k (X9 (X9 (X9 h18 h19) h20) h23))|exact((X9 (X9 (X9 (X9 h18 h19) h20) h23) h26))|exact(Xi (X9 (X9 (X9 (X9 h18 h19) h20) h23) h26))|exact(X5k (X9 (X9 (X9 (X9 h18 h19) h20) h23) h26))|exact((X9 (X9 (X9 (X9 (X9 h18 h19) h20) h23) h26) h29))|exact(Xi (X9 (X9 (X9 (X9 (X9 h18 h19) h20) h23) h26) h29))|exact X04) (k:=wkT [] (X3.glue J))
     intro h
     obtain rfl:=oj h
     exact Xa [X2r.el (aI .i64 (a0.Pending.length:Int)),.go true,.go true,.go true,X2r.el (aI .i64 (a0.Marks.length:Int)),.go true,.go true,.go true,.go true,.go true,X2r.el (aI .i64 (a0.Marks.length:Int)),.go true,.go true,.go true,.go true,.go true,X2r.el (aI .i64 (a0.Store.length:Int)),.go true,.go true,X2r.pure _ (aI .i64 v21),.go true,.go true,.go true,.go true,X2r.el (aI .i64 (a0.Events.length:Int)),.go true,.go true,X2r.pure _ (aI .i64 v24),.go true,.go false,.go false,.go false,.go false,.go false,.go false,.go false,.go false,.go false,.go false,.go false,.go false,.go false,.go false] (o:=by repeat' first|apply Ya|exact pcM|exact((X9 h18 h19))|exact(Xi (X9 h18 h19))|exact(X5k (X9 h18 h19))|exact((X9 (X9 h18 h19) h20))|exact(Xi (X9 (X9 h18 h19) h20))|exact(X5k (X9 (X9 h18 h19) h20))|exact((X9 (X9 (X9 h18 h19) h20) h23))|exact(Xi (X9 (X9 (X9 h18 h19) h20) h23))|exact(X5k (X9 (X9 (X9 h18 h19) h20) h23))|exact((X9 (X9 (X9 (X9 h18 h19) h20) h23) h26))|exact(Xi (X9 (X9 (X9 (X9 h18 h19) h20) h23) h26))|exact X04) (k:=wkT [] (X3.glue J))
    intro h
    obtain rfl:=oj h
    exact Xa [X2r.el (aI .i64 (a0.Pending.length:Int)),.go true,.go true,.go true,X2r.el (aI .i64 (a0.Marks.length:Int)),.go true,.go true,.go true,.go true,.go true,X2r.el (aI .i64 (a0.Marks.length:Int)),.go true,.go true,.go true,.go true,.go true,X2r.el (aI .i64 (a0.Store.length:Int)),.go true,.go true,X2r.pure _ (aI .i64 v21),.go true,.go false,.go false,.go false,.go false,.go false,.go false,.go false,.go false,.go false,.go false,.go false,.go false,.go false,.go false,.go false,.go false,.go false,.go false,.go false,.go false,.go false] (o:=by repeat' first|apply Ya|exact pcM|exact((X9 h18 h19))|exact(Xi (X9 h18 h19))|exact(X5k (X9 h18 h19))|exact((X9 (X9 h18 h19) h20))|exact(Xi (X9 (X9 h18 h19) h20))|exact(X5k (X9 (X9 h18 h19) h20))|exact((X9 (X9 (X9 h18 h19) h20) h23))|exact(Xi (X9 (X9 (X9 h18 h19) h20) h23))|exact X04) (k:=wkT [] (X3.glue J))
   intro h
   obtain rfl:=oj h
   exact Xa [X2r.el (aI .i64 (a0.Pending.length:Int)),.go true,.go true,.go true,X2r.el (aI .i64 (a0.Marks.length:Int)),.go true,.go true,.go true,.go true,.go true,X2r.el (aI .i64 (a0.Marks.length:Int)),.go true,.go true,.go false,.go false,.go false,.go false,.go false,.go false,.go false,.go false,.go false,.go false,.go false,.go false,.go false,.go false,.go false,.go false,.go false,.go false,.go false,.go false,.go false,.go false,.go false,.go false,.go false,.go false,.go false,.go false] (o:=by repeat' first|apply Ya|exact pcM|exact((X9 h18 h19))|exact(Xi (X9 h18 h19))|exact(X5k (X9 h18 h19))|exact((X9 (X9 h18 h19) h20))|exact(Xi (X9 (X9 h18 h19) h20))|exact X04) (k:=wkT [] (X3.glue J))
  intro h
  obtain rfl:=oj h
  exact Xa [X2r.el (aI .i64 (a0.Pending.length:Int)),.go true,.go true,.go true,X2r.el (aI .i64 (a0.Marks.length:Int)),.go true,.go true,.go false,.go false,.go false,.go false,.go false,.go false,.go false,.go false,.go false,.go false,.go false,.go false,.go false,.go false,.go false,.go false,.go false,.go false,.go false,.go false,.go false,.go false,.go false,.go false,.go false,.go false,.go false,.go false,.go false,.go false,.go false,.go false,.go false,.go false] (o:=by repeat' first|apply Ya|exact pcM|exact((X9 h18 h19))|exact(Xi (X9 h18 h19))|exact X04) (k:=wkT [] (X3.glue J))
 intro h
 obtain rfl:=oj h
 exact Xa [X2r.el (aI .i64 (a0.Pending.length:Int)),.go false,.go false,.go false,.go false,.go false,.go false,.go false,.go false,.go false,.go false,.go false,.go false,.go false,.go false,.go false,.go false,.go false,.go false,.go false,.go false,.go false,.go false,.go false,.go false,.go false,.go false,.go false,.go false,.go false,.go false,.go false,.go false,.go false,.go false,.go false,.go false,.go false,.go false,.go false,.go false] (k:=wkT [] (X3.glue J))⟩
instance Xxr:PCs Tryz.prog 79 (∀ (a0:Int) (r:X0r),X5a a0=some r->X0j Tryz.prog 79 [(aI .i64 a0)] (X0t r)):=⟨fun a0 r h=>by
 refine X0j.sym X5 fn79 (nt:=7) rfl rfl ?_ okM
 unfold X5a at h
 revert h
 exact fun e=>oj e▸Xa [] (k:=fi)⟩
instance Xrb:PCs Tryz.prog 117 (∀ (a0:Int) (a1:Int) (r:Int),X25 a0 a1=some r->X0j Tryz.prog 117 [(aI .i64 a0),(aI .i64 a1)] (aI .i64 r)):=⟨fun a0 a1 r h=>by
 refine X0j.sym X5 X047 (nt:=17) rfl rfl ?_ okM
 unfold X25 at h
 revert h
 exact brI (fun h1=>fun e=>oj e▸Xa [Bt] (k:=fi)) fun h1=>brI (fun h2=>fun e=>oj e▸Xa [Bf,Bt] (k:=fi)) fun h2=>fun e=>oj e▸Xa [Bf,Bf] (k:=fi)⟩
instance Xpa:PCs Tryz.prog 194 (∀ (a0:Int) (r:Int),X9e a0=some r->X0j Tryz.prog 194 [(aI .u64 a0)] (aI .i64 r)):=⟨fun a0 r h=>by
 refine X0j.sym X5 X034 (nt:=25) rfl rfl ?_ okM
 unfold X9e at h
 revert h
 refine bI fun w2 h4=>?_
 intro h
 obtain⟨j2_0,j2_2⟩:=w2
 try dsimp only at h
 refine X09 [] ?_
 refine X3.join (s':=⟨fr [(0,(aI .u64 j2_0)),(2,(aI .i64 j2_2))],hp ([]),0⟩) ?_ (fun J=>X3.cut ?_)
 ·
  revert h
  refine bI fun w6 h8=>?_
  intro h
  obtain⟨j6_0,j6_2⟩:=w6
  try dsimp only at h
  refine X09 [] ?_
  refine X3.join (s':=⟨fr [(0,(aI .u64 j6_0)),(2,(aI .i64 j6_2))],hp ([]),0⟩) ?_ (fun J=>X3.cut ?_)
  ·
   revert h
   refine bI fun w10 h12=>?_
   intro h
   obtain⟨X02y,X02x⟩:=w10
   try dsimp only at h
   refine X09 [] ?_
   refine X3.join (s':=⟨fr [(0,(aI .u64 X02y)),(2,(aI .i64 X02x))],hp ([]),0⟩) ?_ (fun J=>X3.cut ?_)
   ·
    revert h
    exact bI fun b13 h14=>fun e=>oj e▸Xa [.wrap,.el (aI .u8 b13),.wrap,.wrap] (o:=by repeat' first|apply Ya|exact pcM|exact(X7t h14)|exact(X00x (tab:=Xfg) rfl h14)|exact X04) (k:=fi)
   clear h;revert h12
   refine brI (fun h11=>?_) fun h11=>?_
   ·
    intro h
    simp only[Option.some.injEq,Prod.mk.injEq] at h
    obtain⟨rfl,rfl⟩:=h
    exact Xa [Bt,.wrap] (k:=wkT [] (X3.glue J))
   intro h
   simp only[Option.some.injEq,Prod.mk.injEq] at h
   obtain⟨rfl,rfl⟩:=h
   exact Xa [Bf] (k:=wkT [] (X3.glue J))
  clear h;revert h8
  refine brI (fun h7=>?_) fun h7=>?_
  ·
   intro h
   simp only[Option.some.injEq,Prod.mk.injEq] at h
   obtain⟨rfl,rfl⟩:=h
   exact Xa [Bt,.wrap] (k:=wkT [] (X3.glue J))
  intro h
  simp only[Option.some.injEq,Prod.mk.injEq] at h
  obtain⟨rfl,rfl⟩:=h
  exact Xa [Bf] (k:=wkT [] (X3.glue J))
 clear h;revert h4
 refine brI (fun h3=>?_) fun h3=>?_
 ·
  intro h
  simp only[Option.some.injEq,Prod.mk.injEq] at h
  obtain⟨rfl,rfl⟩:=h
  exact Xa [Bt] (k:=wkT [] (X3.glue J))
 intro h
 simp only[Option.some.injEq,Prod.mk.injEq] at h
 obtain⟨rfl,rfl⟩:=h
 exact Xa [Bf] (k:=wkT [] (X3.glue J))⟩
instance Xrh:PCs Tryz.prog 169 (∀ (a0:Int) (r:Int),X6v a0=some r->X0j Tryz.prog 169 [(aI .u64 a0)] (aI .i64 r)):=⟨fun a0 r h=>by
 refine X0j.sym X5 X03f (nt:=8) rfl rfl ?_ okM
 unfold X6v at h
 revert h
 exact bI fun v1 h2=>fun e=>oj e▸Xa [Bf,.pure _ (aI .i64 v1)] (k:=fi)⟩
theorem X40 {Q:Xv->St->Mu->Prop} {μ:Mu} (X0y:(List X2)) (Xn:X2) (y0_8:Int):∀ (n:Nat) (Xj9:Int) (Xij:Int) (o:X14) (h:Xp X0y Xn y0_8 n Xj9 Xij=some o)
  (C0:∀ (Xcy:Int),o=X14.x0 Xcy->X3 Tryz.prog 49 0 Q (.exit (.exit 0)) [] ⟨fr [(0,(Lf (X0y.map X1))),(2,(AV.fn 116 [])),(4,(AV.ptr 0 0 0)),(8,(aI .i64 y0_8)),(9,(aI .i64 Xcy))],hp ([(0,Ob [(X1 Xn)] 11)]),1⟩ μ),
  X3 Tryz.prog 49 0 Q (.loop (X4y 0 (Xb Tryz.f125))) [] ⟨fr [(0,(Lf (X0y.map X1))),(2,(AV.fn 116 [])),(4,(AV.ptr 0 0 0)),(8,(aI .i64 y0_8)),(9,(aI .i64 Xj9)),(10,(aI .i64 Xij))],hp ([(0,Ob [(X1 Xn)] 11)]),1⟩ μ:=by
 intro n
 induction n with
 |zero=>intro Xj9 Xij o h C0;cases h
 |succ n ih =>
  intro Xj9 Xij o h C0
  rw[Xp] at h
  refine X3.round ?_
  revert h
  refine brI (fun h14=>?_) fun h14=>fun e=>Xa [Bf] (k:=wkT [] (C0 _  (oj e).symm))
  refine bI fun e15 h16=>?_
  try have qh16:=Xq h16
  refine bI fun v17 h18=>brI (fun h19=>?_) fun h19=>?_
  ·
   refine rnI [Bt,.wrap,.wrap,.wrap,.el (X1 e15),.pure _ (aI .i64 v17),Bt,.wrap] ?_
   intro h
   exact wkT [] (ih  _ _ o h C0)
  refine rnI [Bt,.wrap,.wrap,.wrap,.el (X1 e15),.pure _ (aI .i64 v17),Bf] ?_
  intro h
  exact wkT [] (ih  _ _ o h C0)
theorem Xh (a0:(List X2)) (a1:X2) (r:Int×Bool) (h:Xd a0 a1=some r):X0j Tryz.prog 125 [(Lf (a0.map X1)),(X1 a1),(AV.fn 116 [])] (AV.tup [(aI .i64 r.1),(aB r.2)]):=by
 refine X0j.sym X5 X042 (nt:=49) rfl rfl ?_ okM
 unfold Xd at h
 revert h
 refine bI fun o20 h21=>rnI [.el (aI .i64 (a0.length:Int))] ?_
 intro h
 refine wkT [] (X3.cut (X40 a0 a1 (a0.length:Int) _ _ _ _ h21 ?_))
 intro Xcy eo20;subst eo20
 refine X3.glue ?_
 try dsimp only at h
 revert h
 refine bI fun Xza h33=>rnI [.stop 8] ?_
 intro h
 refine X3.join (s':=⟨fr [(6,(aI .i64 Xcy)),(7,(aB Xza))],hp ([]),0⟩) ?_ (fun J=>X3.cut ?_)
 ·
  revert h
  exact fun e=>oj e▸Xa [] (k:=fi)
 clear h;revert h33
 refine brI (fun h28=>?_) fun h28=>?_
 ·
  refine bI fun e29 h30=>?_
  try have qh30:=Xq h30
  refine bI fun v31 h32=>?_
  intro h
  obtain rfl:=oj h
  exact Xa [.go true,.go true,.go true,.go true,.el (X1 e29),.go true,.go true,.go true,.pure _ (aI .i64 v31),.go true] (k:=wkT [] (X3.glue J))
 intro h
 obtain rfl:=oj h
 exact Xa [.go false,.go false,.go false,.go false,.go false,.go false,.go false,.go false,.go false] (k:=wkT [] (X3.glue J))
instance X1d:PCs Tryz.prog 150 (∀ (a0:X0r) (a1:X0r) (r:X0r×Int),X1v a0 a1=some r->X0j Tryz.prog 150 [(X0t a0),(X0t a1)] (AV.tup [(X0t r.1),(aI .i64 r.2)])):=⟨fun a0 a1 r h=>by
 refine X0j.sym X5 X03n (nt:=53) rfl rfl ?_ okM
 unfold X1v at h
 revert h
 refine bI fun Xyv h12=>rnI [.stop 1] ?_
 intro h
 refine X3.join (s':=⟨fr [(2,(AV.ptr 0 0 0)),(3,(AV.ptr 1 0 0)),(4,(AV.ptr 2 0 0)),(13,(aB Xyv))],hp ([(0,Ob [(X0t a0)] 4),(1,Ob [(X0t a1)] 4),(2,Ob [(X0t (X0r.mk 0 0 0 0))] 4)]),3⟩) ?_ (fun J=>X3.cut ?_)
 ·
  revert h
  exact brI (fun h13=>fun e=>oj e▸Xa [Bt] (k:=fi)) fun h13=>brI (fun h14=>fun e=>oj e▸Xa [Bf,.wrap,Bt] (k:=fi)) fun h14=>brI (fun h15=>fun e=>oj e▸Xa [Bf,.wrap,Bf,Bt] (k:=fi)) fun h15=>brI (fun h16=>fun e=>oj e▸Xa [Bf,.wrap,Bf,Bf,Bt] (k:=fi)) fun h16=>fun e=>oj e▸Xa [Bf,.wrap,Bf,Bf,Bf,.wrap,.wrap] (k:=fi)
 clear h;revert h12
 refine bI fun v7 h8=>brI (fun h9=>?_) fun h9=>?_
 ·
  intro h
  obtain rfl:=oj h
  exact Xa [.pure _ (aI .i64 v7),.go false,.go false,.go false] (k:=wkT [] (X3.glue J))
 refine bI fun v10 h11=>?_
 intro h
 obtain rfl:=oj h
 exact Xa [.pure _ (aI .i64 v7),.go true,.go true,.pure _ (aI .i64 v10),.go true] (k:=wkT [] (X3.glue J))⟩
instance Xrv:PCs Tryz.prog 170 (∀ (a0:Int) (a1:Int) (r:Int),X9m a0 a1=some r->X0j Tryz.prog 170 [(aI .i64 a0),(aI .i64 a1)] (aI .i64 r)):=⟨fun a0 a1 r h=>by
 refine X0j.sym X5 X03e (nt:=17) rfl rfl ?_ okM
 unfold X9m at h
 revert h
 exact brI (fun h1=>fun e=>oj e▸Xa [Bt] (k:=fi)) fun h1=>brI (fun h2=>fun e=>oj e▸Xa [Bf,Bt] (k:=fi)) fun h2=>fun e=>oj e▸Xa [Bf,Bf] (k:=fi)⟩
instance Xr9:PCs Tryz.prog 151 (∀ (a0:Int) (a1:Int) (r:Int×Int),X6m a0 a1=some r->X0j Tryz.prog 151 [(aI .i64 a0),(aI .i64 a1)] (AV.tup [(aI .i64 r.1),(aI .i64 r.2)])):=⟨fun a0 a1 r h=>by
 refine X0j.sym X5 X03m (nt:=24) rfl rfl ?_ okM
 unfold X6m at h
 revert h
 refine bI fun v1 h2=>brI (fun h3=>fun e=>oj e▸Xa [.pure _ (aI .i64 v1),Bt] (k:=fi)) fun h3=>bI fun u4 h5=>bI fun j7_7 h9=>rnI [.pure _ (aI .i64 v1),Bf,.wrap] ?_
 intro h
 refine X3.join (s':=⟨fr [(7,(aI .i64 j7_7))],hp ([]),0⟩) ?_ (fun J=>X3.cut ?_)
 ·
  revert h
  exact fun e=>oj e▸Xa [] (k:=fi)
 clear h;revert h9
 refine brI (fun h8=>?_) fun h8=>?_
 ·
  intro h
  obtain rfl:=oj h
  exact Xa [Bt,.wrap] (k:=wkT [] (X3.glue J))
 intro h
 obtain rfl:=oj h
 exact Xa [Bf] (k:=wkT [] (X3.glue J))⟩
instance Xbq:PCs Tryz.prog 123 (∀ (a0:Int) (a1:Int) (r:Xz×Int),Xac a0 a1=some r->X0j Tryz.prog 123 [(aI .i64 a0),(aI .i64 a1)] (AV.tup [(Xw r.1),(aI .i64 r.2)])):=⟨fun a0 a1 r h=>by
 refine X0j.sym X5 X044 (nt:=26) rfl rfl ?_ okM
 unfold Xac at h
 revert h
 exact bI fun v1 h2=>brI (fun h3=>fun e=>oj e▸Xa [.pure _ (AV.tup [(aI .i64 v1.1),(aI .i64 v1.2)]),Bt] (k:=fi)) fun h3=>fun e=>oj e▸Xa [.pure _ (AV.tup [(aI .i64 v1.1),(aI .i64 v1.2)]),Bf,.wrap,.wrap,.wrap] (k:=fi)⟩
theorem Xhc {Q:Xv->St->Mu->Prop} {μ:Mu} (X0y:Int) (Xdk:Int) (Xh3:Int):∀ (n:Nat) (Xn:(List Xz)) (X5e:Int) (X20:Nb Xn) (o:Xa2) (h:X51 X0y Xdk Xh3 n Xn X5e=some o)
  (C0:∀ (X08:(List Xz)) (X0q:Nb X08),o=Xa2.x0 X08->X3 Tryz.prog 70 0 Q (.exit (.exit 0)) [] ⟨fr [(10,(slE X0q.1 0 (X08.map Xw)))],hp ([]++opE X0q.1 0 2 (X08.map Xw)),1⟩ μ),
  X3 Tryz.prog 70 0 Q (.loop (X4y 0 (Xb Tryz.f124))) [] ⟨fr [(0,(aI .i64 X0y)),(1,(aI .i64 Xdk)),(2,(aI .i64 Xh3)),(10,(slE X20.1 0 (Xn.map Xw))),(11,(aI .i64 X5e))],hp ([]++opE X20.1 0 2 (Xn.map Xw)),1⟩ μ:=by
 intro n
 induction n with
 |zero=>intro Xn X5e X20 o h C0;cases h
 |succ n ih =>
  intro Xn X5e X20 o h C0
  rw[X51] at h
  rcases X20 with ⟨_|_,X5g⟩
  ·
   refine X3.round ?_
   revert h
   refine brI (fun h18=>?_) fun h18=>fun e=>Xa [.wrap,Bf] (k:=wkT [] (C0 _  nbF (oj e).symm))
   refine bI fun u19 h20=>rnI [.wrap,Bt,.wrap,.no,.wrap] (o:=by repeat' first|apply Ya|exact pcM|(refine X1o h20 rfl ?_;first|(simp;done)|(simp;omega)|(simp[h18];done)|(simp[h18];omega))|(refine X0d h20 (by decide) ?_;first|(simp;done)|(simp;omega)|(simp[h18];done)|(simp[h18];omega))|exact X04) ?_
   intro h
   exact wkT [(0,2)] (ih  _ _ nbF o h C0)
  obtain rfl:=X5g rfl
  refine X3.round ?_
  revert h
  refine brI (fun h21=>?_) fun h21=>fun e=>Xa [.wrap,Bf] (k:=wkT [] (C0 _  nbS (oj e).symm))
  refine bI fun u22 h23=>rnI [.wrap,Bt,.wrap,.no,.wrap] (o:=by repeat' first|apply Ya|exact pcM|(refine X1o h23 rfl ?_;first|(simp;done)|(simp;omega)|(simp[h21];done)|(simp[h21];omega))|(refine X0d h23 (by decide) ?_;first|(simp;done)|(simp;omega)|(simp[h21];done)|(simp[h21];omega))|exact X04) ?_
  intro h
  exact wkT [(0,2)] (ih  _ _ nbF o h C0)
theorem X9o {Q:Xv->St->Mu->Prop}  {rb rD:Nat} {rr:Loop} (rh1:rr.state=.ready) (rh2:rr.pending=none) (rh3:rr.params=(rfB 0 (Xb Tryz.f124)).1) (rh4:rr.assign=(rfB 0 (Xb Tryz.f124)).2.1) (rh5:rr.body=(rfB 0 (Xb Tryz.f124)).2.2) (X1q:(List Xz)) (Xgp:Nb X1q):∀ (n:Nat) (X0h:(List Xz)) (X8s:Int) (X27:Nb X0h) (o:X7f) (h:X3e X1q n X0h X8s=some o)
  (C0:∀ (X4e:(List Xz)) (Xbj:(List Xz)) (X3c:Nb X4e) (X6h:Nb Xbj),o=X7f.x0 X4e Xbj->X3 Tryz.prog 19 3 Q (.exit (.exit 0)) [] ⟨fr [],hp ([(1,Ob [(slE X3c.1 3 (X4e.map Xw))] 1),(2,Ob [(slE X6h.1 4 (Xbj.map Xw))] 1)]++opE X3c.1 3 2 (X4e.map Xw)++opE X6h.1 4 2 (Xbj.map Xw)),5⟩ [(rb,MuE.loop rr 70 3 (fr [(12,(AV.ptr 1 0 0)),(62,(AV.fn 171 [(AV.ptr 2 0 0)]))])),(rD,MuE.blk (Go.Obj.deferred (some [])))]),
  X3 Tryz.prog 19 3 Q (.loop (X4y 0 (Xb Tryz.f171))) [] ⟨fr [(0,(AV.sc (.func (.yield rb) #[] #[]))),(1,(AV.ptr 2 0 0)),(3,(aI .i64 X8s))],hp ([(1,Ob [(slE X27.1 3 (X0h.map Xw))] 1),(2,Ob [(slE Xgp.1 4 (X1q.map Xw))] 1)]++opE X27.1 3 2 (X0h.map Xw)++opE Xgp.1 4 2 (X1q.map Xw)),5⟩ [(rb,MuE.loop rr 70 3 (fr [(12,(AV.ptr 1 0 0)),(62,(AV.fn 171 [(AV.ptr 2 0 0)]))])),(rD,MuE.blk (Go.Obj.deferred (some [])))]:=by
 intro n
 induction n with
 |zero=>intro X0h X8s X27 o h C0;cases h
 |succ n ih =>
  intro X0h X8s X27 o h C0
  rw[X3e] at h
  rcases X27 with ⟨_|_,X6z⟩
  ·
   rcases Xgp with ⟨_|_,Xkn⟩
   ·
    refine X3.round ?_
    revert h
    refine brI (fun h67=>?_) fun h67=>fun e=>Xa [Bf] (k:=wkT [] (C0 _ _  nbF nbF (oj e).symm))
    refine bI fun e68 h69=>?_
    try have qh69:=Xq h69
    refine rnI [Bt,.el (Xw e68),.ld (Xw e68)] ?_
    intro h
    refine X3.yield rfl rfl rfl rfl rfl trivial trivial (.head _) rh1 rh2 rh3 rh4 rh5 rfl rfl ?_
    refine X09 [] ?_
    refine X3.asg ?_
    revert h
    refine bI fun u72 h73=>rnI [.no] (o:=by repeat' first|apply Ya|exact pcM|(refine X1o h73 rfl ?_;first|(simp;done)|(simp;omega)|(simp[h67];done)|(simp[h67];omega))|(refine X0d h73 (by decide) ?_;first|(simp;done)|(simp;omega)|(simp[h67];done)|(simp[h67];omega))|exact X04) ?_
    intro h
    refine X3.rndEnd ?_
    exact Xa [Bf,.wrap] (o:=by repeat' first|apply Ya|exact pcM|(refine X1o h73 rfl ?_;first|(simp;done)|(simp;omega)|(simp[h67];done)|(simp[h67];omega))|(refine X0d h73 (by decide) ?_;first|(simp;done)|(simp;omega)|(simp[h67];done)|(simp[h67];omega))|exact X04) (k:=wkT [(3,7)] (ih  _ _ nbF o h C0))
   obtain rfl:=Xkn rfl
   refine X3.round ?_
   revert h
   refine brI (fun h74=>?_) fun h74=>fun e=>Xa [Bf] (k:=wkT [] (C0 _ _  nbF nbS (oj e).symm))
   refine bI fun e75 h76=>?_
   try have qh76:=Xq h76
   intro h
   exact absurd (h76) (by simp[X3b])
  obtain rfl:=X6z rfl
  rcases Xgp with ⟨_|_,Xkn⟩
  ·
   refine X3.round ?_
   revert h
   refine brI (fun h77=>?_) fun h77=>fun e=>Xa [Bf] (k:=wkT [] (C0 _ _  nbS nbF (oj e).symm))
   refine bI fun e78 h79=>?_
   try have qh79:=Xq h79
   refine rnI [Bt,.el (Xw e78),.ld (Xw e78)] ?_
   intro h
   refine X3.yield rfl rfl rfl rfl rfl trivial trivial (.head _) rh1 rh2 rh3 rh4 rh5 rfl rfl ?_
   refine X09 [] ?_
   refine X3.asg ?_
   revert h
   refine bI fun u82 h83=>rnI [.no] (o:=by repeat' first|apply Ya|exact pcM|(refine X1o h83 rfl ?_;first|(simp;done)|(simp;omega)|(simp[h77];done)|(simp[h77];omega))|(refine X0d h83 (by decide) ?_;first|(simp;done)|(simp;omega)|(simp[h77];done)|(simp[h77];omega))|exact X04) ?_
   intro h
   refine X3.rndEnd ?_
   exact Xa [Bf,.wrap] (o:=by repeat' first|apply Ya|exact pcM|(refine X1o h83 rfl ?_;first|(simp;done)|(simp;omega)|(simp[h77];done)|(simp[h77];omega))|(refine X0d h83 (by decide) ?_;first|(simp;done)|(simp;omega)|(simp[h77];done)|(simp[h77];omega))|exact X04) (k:=wkT [(3,7)] (ih  _ _ nbF o h C0))
  obtain rfl:=Xkn rfl
  refine X3.round ?_
  revert h
  refine brI (fun h84=>?_) fun h84=>fun e=>Xa [Bf] (k:=wkT [] (C0 _ _  nbS nbS (oj e).symm))
  refine bI fun e85 h86=>?_
  try have qh86:=Xq h86
  intro h
  exact absurd (h86) (by simp[X3b])
end Go.Av.Tryz