/- Printed by decomp.py: that the program computes the functions. -/
import Derived.Test.YtkjlgmgfhgamlaaGreatDCert4Z
set_option linter.all false

namespace Go.Av.Tryz
open Go.Proofs Go.D
set_option maxRecDepth 10000
set_option maxHeartbeats 40000000
theorem Xfx {Q:Xw->St->Mu->Prop} {μ:Mu} (Xpn:X08) (Xbj:(List Xl)) (hl:Xbj.length<=140737488355328):∀ (xs:List Xl) (k:Nat) (hx:Xbj.drop k=xs) (Xia:Bool) (o:X90) (h:X3l Xpn Xbj xs k Xia=some o)
  (C0:∀ (Xef:Bool),o=X90.x0 Xef->X3 Tryz.prog 202 0 Q (.exit (.exit 6)) [] ⟨fr [(1,(AV.ptr 0 0 0)),(11,(aB Xef))],hp ([(0,Ob [(Xe false Xpn)] 9)]),1⟩ μ),
  X3 Tryz.prog 202 0 Q (.loop (X56 3 (Xb Tryz.f61))) [] ⟨fr [(1,(AV.ptr 0 0 0)),(11,(aB Xia)),(164,(Lf (Xbj.map Xy))),(165,(aI .i64 (Xbj.length:Int))),(166,(aI .i64 (k:Int)))],hp ([(0,Ob [(Xe false Xpn)] 9)]),1⟩ μ:=by
 intro xs
 induction xs with
 |nil =>
  intro k hx Xia o h C0
  have hk:=X1l hx
  have hc:decide ((k:Int)<(Xbj.length:Int))=false:=Yf (by omega)
  rw[X3l] at h
  refine X3.round ?_
  revert h
  exact fun e=>X8 [Bf] (k:=wkT [] (C0 _  (oj e).symm))
 |cons x xs ih =>
  intro k hx Xia o h C0
  obtain⟨hk,hg,hx1⟩:=X10 hx
  have hc:decide ((k:Int)<(Xbj.length:Int))=true:=Yt (by omega)
  rw[X3l] at h
  refine X3.round ?_
  revert h
  refine bI fun Xnn h163=>rnI [Bt,.el (Xy x),.stop 25] ?_
  intro h
  refine X3.join (s':=⟨fr [(1,(AV.ptr 0 0 0)),(11,(aB Xnn)),(164,(Lf (Xbj.map Xy))),(165,(aI .i64 (Xbj.length:Int))),(166,(aI .i64 (k:Int)))],hp ([(0,Ob [(Xe false Xpn)] 9)]),1⟩) ?_ (fun J=>X3.cut ?_)
  ·
   exact X8 [] (k:=wkT [] (ih (k+1) hx1 _ o h C0))
  clear h;revert h163
  refine brI (fun h160=>?_) fun h160=>?_
  ·
   refine bI fun v161 h162=>?_
   intro h
   obtain rfl:=oj h
   exact X8 [.go true,.go true,.go true,.pure _ (aI .i64 v161),.go true] (k:=wkT [] (X3.glue J))
  intro h
  obtain rfl:=oj h
  exact X8 [.go false,.go false,.go false,.go false] (k:=wkT [] (X3.glue J))
theorem Xfw {Q:Xw->St->Mu->Prop} {μ:Mu} (Xkx:X08) (Xbi:(List X2)) (hl:Xbi.length<=140737488355328):∀ (xs:List X2) (k:Nat) (hx:Xbi.drop k=xs) (Xgu:Bool) (o:X8z) (h:X3k Xkx Xbi xs k Xgu=some o)
  (C0:∀ (Xee:Bool),o=X8z.x0 Xee->X3 Tryz.prog 202 0 Q (.exit (.exit 8)) [] ⟨fr [(11,(aB Xee))],hp ([]),0⟩ μ),
  X3 Tryz.prog 202 0 Q (.loop (X56 4 (Xb Tryz.f61))) [] ⟨fr [(1,(AV.ptr 0 0 0)),(11,(aB Xgu)),(179,(Lf (Xbi.map X1))),(180,(aI .i64 (Xbi.length:Int))),(181,(aI .i64 (k:Int)))],hp ([(0,Ob [(Xe false Xkx)] 9)]),1⟩ μ:=by
 intro xs
 induction xs with
 |nil =>
  intro k hx Xgu o h C0
  have hk:=X1l hx
  have hc:decide ((k:Int)<(Xbi.length:Int))=false:=Yf (by omega)
  rw[X3k] at h
  refine X3.round ?_
  revert h
  exact fun e=>X8 [Bf] (k:=wkT [] (C0 _  (oj e).symm))
 |cons x xs ih =>
  intro k hx Xgu o h C0
  obtain⟨hk,hg,hx1⟩:=X10 hx
  have hc:decide ((k:Int)<(Xbi.length:Int))=true:=Yt (by omega)
  rw[X3k] at h
  refine X3.round ?_
  revert h
  refine bI fun Xnm h186=>rnI [Bt,.el (X1 x),.stop 30] ?_
  intro h
  refine X3.join (s':=⟨fr [(1,(AV.ptr 0 0 0)),(11,(aB Xnm)),(179,(Lf (Xbi.map X1))),(180,(aI .i64 (Xbi.length:Int))),(181,(aI .i64 (k:Int)))],hp ([(0,Ob [(Xe false Xkx)] 9)]),1⟩) ?_ (fun J=>X3.cut ?_)
  ·
   exact X8 [] (k:=wkT [] (ih (k+1) hx1 _ o h C0))
  clear h;revert h186
  refine brI (fun h184=>?_) fun h184=>?_
  ·
   refine brI (fun h185=>?_) fun h185=>?_
   ·
    intro h
    obtain rfl:=oj h
    exact X8 [.go true,.go true,.go true,.go true,.go true,.go false,.go false,.go false,.go false,.go false,.go true] (k:=wkT [] (X3.glue J))
   intro h
   obtain rfl:=oj h
   exact X8 [.go true,.go true,.go true,.go true,.go true,.go true,.go true,.ix 1,.go true,.go true,.go true,.go true] (k:=wkT [] (X3.glue J))
  intro h
  obtain rfl:=oj h
  exact X8 [.go false,.go false,.go false,.go false,.go false,.go false,.go false,.go false,.go false,.go false,.go false] (k:=wkT [] (X3.glue J))
instance Xv8:PCs Tryz.prog 61 (∀ (a0:X08) (r:Int),X8i a0=some r->X0g Tryz.prog 61 [(Xe false a0)] (aI .i64 r)):=⟨fun a0 r h=>by
 refine X0g.sym X6 fn61 (nt:=202) rfl rfl ?_ okM
 unfold X8i at h
 revert h
 refine bI fun v1 h2=>bI fun Xji h32=>rnI [.pure _ (AV.tup [(aI .i64 v1.1),(aI .i64 v1.2.1),(aB v1.2.2.1),(aB v1.2.2.2.1),(aB v1.2.2.2.2.1),(aB v1.2.2.2.2.2)]),.stop 3] ?_
 intro h
 refine X3.join (s':=⟨fr [(1,(AV.ptr 0 0 0)),(9,(aB (bif (bif (bif (decide (a0.Turn >= (0:Int))) then (decide (a0.Turn<(20:Int))) else false) then (decide (a0.Op.N >= (0:Int))) else false) then (decide (a0.Op.N<(4:Int))) else false))),(10,(aB Xji))],hp ([(0,Ob [(Xe false a0)] 9)]),1⟩) ?_ (fun J=>X3.cut ?_)
 ·
  revert h
  refine bI fun Xnf h48=>rnI [.stop 4] ?_
  intro h
  refine X3.join (s':=⟨fr [(1,(AV.ptr 0 0 0)),(120,(aB Xnf))],hp ([(0,Ob [(Xe false a0)] 9)]),1⟩) ?_ (fun J=>X3.cut ?_)
  ·
   revert h
   refine brI (fun h49=>fun e=>oj e▸X8 [Bt] (k:=fi)) fun h49=>bI fun u50 h51=>?_
   have qh51:=X12 h51
   refine bI fun o77 h78=>rnI [Bf,.el (aI .i64 (a0.Marks.length:Int))] ?_
   intro h
   refine wkT [] (X3.cut (Xg0 a0 a0.Marks qh51 a0.Marks 0 (by simp) _ _ h78 ?_))
   intro Xej eo77;subst eo77
   refine X3.glue ?_
   try dsimp only at h
   revert h
   refine bI fun u79 h80=>?_
   have qh80:=X12 h80
   refine bI fun o106 h107=>rnI [.el (aI .i64 (a0.Events.length:Int))] ?_
   intro h
   refine wkT [] (X3.cut (Xfz a0 a0.Events qh80 a0.Events 0 (by simp) _ _ h107 ?_))
   intro Xeh eo106;subst eo106
   refine X3.glue ?_
   try dsimp only at h
   revert h
   refine bI fun u108 h109=>?_
   have qh109:=X12 h109
   refine bI fun o135 h136=>rnI [.el (aI .i64 (a0.Rows.length:Int))] ?_
   intro h
   refine wkT [] (X3.cut (Xfy a0 a0.Rows qh109 a0.Rows 0 (by simp) _ _ h136 ?_))
   intro Xeg eo135;subst eo135
   refine X3.glue ?_
   try dsimp only at h
   revert h
   refine bI fun u137 h138=>?_
   have qh138:=X12 h138
   refine bI fun o164 h165=>rnI [.el (aI .i64 (a0.Late.length:Int))] ?_
   intro h
   refine wkT [] (X3.cut (Xfx a0 a0.Late qh138 a0.Late 0 (by simp) _ _ h165 ?_))
   intro Xef eo164;subst eo164
   refine X3.glue ?_
   try dsimp only at h
   revert h
   refine bI fun u166 h167=>?_
   have qh167:=X12 h167
   refine bI fun o187 h188=>rnI [.el (aI .i64 (a0.Store.length:Int))] ?_
   intro h
   refine wkT [] (X3.cut (Xfw a0 a0.Store qh167 a0.Store 0 (by simp) _ _ h188 ?_))
   intro Xee eo187;subst eo187
   refine X3.glue ?_
   try dsimp only at h
   revert h
   exact brI (fun h189=>fun e=>oj e▸X8 [Bt] (k:=fi)) fun h189=>fun e=>oj e▸X8 [Bf] (k:=fi)
  clear h;revert h48
  refine brI (fun h41=>?_) fun h41=>?_
  ·
   intro h
   obtain rfl:=oj h
   exact X8 [.go false,.go false,.go false,.go false,.go false,.go false,.go false,.go false,.go false,.go false] (o:=by repeat' first|apply Ya|exact pcM|exact((X9 h41 rfl))|exact(Xr (X9 h41 rfl))|exact(X8r (X9 h41 rfl))|exact((X9 (X9 h41 rfl) rfl))|exact(Xr (X9 (X9 h41 rfl) rfl))|exact(X8r (X9 (X9 h41 rfl) rfl))|exact X07) (k:=wkT [] (X3.glue J))
  refine brI (fun h42=>?_) fun h42=>?_
  ·
   intro h
   obtain rfl:=oj h
   exact X8 [.go true,.go true,.go false,.go false,.go false,.go false,.go false,.go false,.go false,.go false] (o:=by repeat' first|apply Ya|exact pcM|exact((Xm h41 h42))|exact(Xr (Xm h41 h42))|exact(X8r (Xm h41 h42))|exact((X9 (Xm h41 h42) rfl))|exact(Xr (X9 (Xm h41 h42) rfl))|exact(X8r (X9 (Xm h41 h42) rfl))|exact X07) (k:=wkT [] (X3.glue J))
  refine bI fun v43 h44=>brI (fun h45=>?_) fun h45=>?_
  ·
   intro h
   obtain rfl:=oj h
   exact X8 [.go true,.go true,.go true,.go true,.go true,.pure _ (aB v43),.go true,.go false,.go false,.go false,.go false] (o:=by repeat' first|apply Ya|exact pcM|exact((Xm h41 h42))|exact(Xr (Xm h41 h42))|exact(Xi8 (Xm h41 h42))|exact((Xm (Xm h41 h42) h45))|exact(Xr (Xm (Xm h41 h42) h45))|exact(X8r (Xm (Xm h41 h42) h45))|exact X07) (k:=wkT [] (X3.glue J))
  refine bI fun v46 h47=>?_
  intro h
  obtain rfl:=oj h
  exact X8 [.go true,.go true,.go true,.go true,.go true,.pure _ (aB v43),.go true,.go true,.go true,.go true,.pure _ (aI .i64 v46),.go true] (o:=by repeat' first|apply Ya|exact pcM|exact((Xm h41 h42))|exact(Xr (Xm h41 h42))|exact(Xi8 (Xm h41 h42))|exact((Xm (Xm h41 h42) h45))|exact(Xr (Xm (Xm h41 h42) h45))|exact(Xi8 (Xm (Xm h41 h42) h45))|exact X07) (k:=wkT [] (X3.glue J))
 clear h;revert h32
 refine brI (fun h18=>?_) fun h18=>?_
 ·
  refine brI (fun h19=>?_) fun h19=>?_
  ·
   refine brI (fun h20=>?_) fun h20=>?_
   ·
    refine bI fun v21 h22=>brI (fun h23=>?_) fun h23=>?_
    ·
     refine bI fun v24 h25=>brI (fun h26=>?_) fun h26=>?_
     ·
      refine bI fun v27 h28=>brI (fun h29=>?_) fun h29=>?_
      ·
       refine bI fun v30 h31=>?_
       intro h
       obtain rfl:=oj h
       exact X8 [X2o.el (aI .i64 (a0.Pending.length:Int)),.go true,.go true,.go true,X2o.el (aI .i64 (a0.Marks.length:Int)),.go true,.go true,.go true,.go true,.go true,X2o.el (aI .i64 (a0.Marks.length:Int)),.go true,.go true,.go true,.go true,.go true,X2o.el (aI .i64 (a0.Store.length:Int)),.go true,.go true,X2o.pure _ (aI .i64 v21),.go true,.go true,.go true,.go true,X2o.el (aI .i64 (a0.Events.length:Int)),.go true,.go true,X2o.pure _ (aI .i64 v24),.go true,.go true,.go true,.go true,X2o.el (aI .i64 (a0.Rows.length:Int)),.go true,.go true,X2o.pure _ (aI .i64 v27),.go true,.go true,.go true,.go true,X2o.el (aI .i64 (a0.Late.length:Int)),.go true,.go true,X2o.pure _ (aI .i64 v30),.go true] (o:=by repeat' first|apply Ya|exact pcM|exact((X9 h18 h19))|exact(Xr (X9 h18 h19))|exact(X8r (X9 h18 h19))|exact((X9 (X9 h18 h19) h20))|exact(Xr (X9 (X9 h18 h19) h20))|exact(X8r (X9 (X9 h18 h19) h20))|exact((X9 (X9 (X9 h18 h19) h20) h23))|exact(Xr (X9 (X9 (X9 h18 h19) h20) h23))|exact(X8r (X9 (X9 (X9 h18 h19) h20) h23))|exact((X9 (X9 (X9 (X9 h18 h19) h20) h23) h26))|exact(Xr (X9 (X9 (X9 (X9 h18 h19) h20) h23) h26))|exact(X8r (X9 (X9 (X9 (X9 h18 h19) h20) h23) h26))|exact((X9 (X9 (X9 (X9 (X9 h18 h19) h20) h23) h26) h29))|exact(Xr (X9 (X9 (X9 (X9 (X9 h18 h19) h20) h23) h26) h29))|exact(X8r (X9 (X9 (X9 (X9 (X9 h18 h19) h20) h23) h26) h29))|exact X07) (k:=wkT [] (X3.glue J))
      intro h
      obtain rfl:=oj h
      exact X8 [X2o.el (aI .i64 (a0.Pending.length:Int)),.go true,.go true,.go true,X2o.el (aI .i64 (a0.Marks.length:Int)),.go true,.go true,.go true,.go true,.go true,X2o.el (aI .i64 (a0.Marks.length:Int)),.go true,.go true,.go true,.go true,.go true,X2o.el (aI .i64 (a0.Store.length:Int)),.go true,.go true,X2o.pure _ (aI .i64 v21),.go true,.go true,.go true,.go true,X2o.el (aI .i64 (a0.Events.length:Int)),.go true,.go true,X2o.pure _ (aI .i64 v24),.go true,.go true,.go true,.go true,X2o.el (aI .i64 (a0.Rows.length:Int)),.go true,.go true,X2o.pure _ (aI .i64 v27),.go true,.go false,.go false,.go false,.go false,.go false,.go false,.go false] (o:=by repeat' first|apply Ya|exact pcM|exact((X9 h18 h19))|exact(Xr (X9 h18 h19))|exact(X8r (X9 h18 h19))|exact((X9 (X9 h18 h19) h20))|exact(Xr (X9 (X9 h18 h19) h20))|exact(X8r (X9 (X9 h18 h19) h20))|exact((X9 (X9 (X9 h18 h19) h20) h23))|exact(Xr (X9 (X9 (X9 h18 h19) h20) h23))|exact(X8r (X9 (X9 (X9 h18 h19) h20) h23))|exact((X9 (X9 (X9 (X9 h18 h19) h20) h23) h26))|exact(Xr (X9 (X9 (X9 (X9 h18 h19) h20) h23) h26))|exact(X8r (X9 (X9 (X9 (X9 h18 h19) h20) h23) h26))|exact((X9 (X9 (X9 (X9 (X9 h18 h19) h20) h23) h26) h29))|exact(Xr (X9 (X9 (X9 (X9 (X9 h18 h19) h20) h23) h26) h29))|exact X07) (k:=wkT [] (X3.glue J))
     intro h
     obtain rfl:=oj h
     exact X8 [X2o.el (aI .i64 (a0.Pending.length:Int)),.go true,.go true,.go true,X2o.el (aI .i64 (a0.Marks.length:Int)),.go true,.go true,.go true,.go true,.go true,X2o.el (aI .i64 (a0.Marks.length:Int)),.go true,.go true,.go true,.go true,.go true,X2o.el (aI .i64 (a0.Store.length:Int)),.go true,.go true,X2o.pure _ (aI .i64 v21),.go true,.go true,.go true,.go true,X2o.el (aI .i64 (a0.Events.length:Int)),.go true,.go true,X2o.pure _ (aI .i64 v24),.go true,.go false,.go false,.go false,.go false,.go false,.go false,.go false,.go false,.go false,.go false,.go false,.go false,.go false,.go false] (o:=by repeat' first|apply Ya|exact pcM|exact((X9 h18 h19))|exact(Xr (X9 h18 h19))|exact(X8r (X9 h18 h19))|exact((X9 (X9 h18 h19) h20))|exact(Xr (X9 (X9 h18 h19) h20))|exact(X8r (X9 (X9 h18 h19) h20))|exact((X9 (X9 (X9 h18 h19) h20) h23))|exact(Xr (X9 (X9 (X9 h18 h19) h20) h23))|exact(X8r (X9 (X9 (X9 h18 h19) h20) h23))|exact((X9 (X9 (X9 (X9 h18 h19) h20) h23) h26))|exact(Xr (X9 (X9 (X9 (X9 h18 h19) h20) h23) h26))|exact X07) (k:=wkT [] (X3.glue J))
    intro h
    obtain rfl:=oj h
    exact X8 [X2o.el (aI .i64 (a0.Pending.length:Int)),.go true,.go true,.go true,X2o.el (aI .i64 (a0.Marks.length:Int)),.go true,.go true,.go true,.go true,.go true,X2o.el (aI .i64 (a0.Marks.length:Int)),.go true,.go true,.go true,.go true,.go true,X2o.el (aI .i64 (a0.Store.length:Int)),.go true,.go true,X2o.pure _ (aI .i64 v21),.go true,.go false,.go false,.go false,.go false,.go false,.go false,.go false,.go false,.go false,.go false,.go false,.go false,.go false,.go false,.go false,.go false,.go false,.go false,.go false,.go false,.go false] (o:=by repeat' first|apply Ya|exact pcM|exact((X9 h18 h19))|exact(Xr (X9 h18 h19))|exact(X8r (X9 h18 h19))|exact((X9 (X9 h18 h19) h20))|exact(Xr (X9 (X9 h18 h19) h20))|exact(X8r (X9 (X9 h18 h19) h20))|exact((X9 (X9 (X9 h18 h19) h20) h23))|exact(Xr (X9 (X9 (X9 h18 h19) h20) h23))|exact X07) (k:=wkT [] (X3.glue J))
   intro h
   obtain rfl:=oj h
   exact X8 [X2o.el (aI .i64 (a0.Pending.length:Int)),.go true,.go true,.go true,X2o.el (aI .i64 (a0.Marks.length:Int)),.go true,.go true,.go true,.go true,.go true,X2o.el (aI .i64 (a0.Marks.length:Int)),.go true,.go true,.go false,.go false,.go false,.go false,.go false,.go false,.go false,.go false,.go false,.go false,.go false,.go false,.go false,.go false,.go false,.go false,.go false,.go false,.go false,.go false,.go false,.go false,.go false,.go false,.go false,.go false,.go false,.go false] (o:=by repeat' first|apply Ya|exact pcM|exact((X9 h18 h19))|exact(Xr (X9 h18 h19))|exact(X8r (X9 h18 h19))|exact((X9 (X9 h18 h19) h20))|exact(Xr (X9 (X9 h18 h19) h20))|exact X07) (k:=wkT [] (X3.glue J))
  intro h
  obtain rfl:=oj h
  exact X8 [X2o.el (aI .i64 (a0.Pending.length:Int)),.go true,.go true,.go true,X2o.el (aI .i64 (a0.Marks.length:Int)),.go true,.go true,.go false,.go false,.go false,.go false,.go false,.go false,.go false,.go false,.go false,.go false,.go false,.go false,.go false,.go false,.go false,.go false,.go false,.go false,.go false,.go false,.go false,.go false,.go false,.go false,.go false,.go false,.go false,.go false,.go false,.go false,.go false,.go false,.go false,.go false] (o:=by repeat' first|apply Ya|exact pcM|exact((X9 h18 h19))|exact(Xr (X9 h18 h19))|exact X07) (k:=wkT [] (X3.glue J))
 intro h
 obtain rfl:=oj h
 exact X8 [X2o.el (aI .i64 (a0.Pending.length:Int)),.go false,.go false,.go false,.go false,.go false,.go false,.go false,.go false,.go false,.go false,.go false,.go false,.go false,.go false,.go false,.go false,.go false,.go false,.go false,.go false,.go false,.go false,.go false,.go false,.go false,.go false,.go false,.go false,.go false,.go false,.go false,.go false,.go false,.go false,.go false,.go false,.go false,.go false,.go false,.go false] (k:=wkT [] (X3.glue J))⟩
instance Xxn:PCs Tryz.prog 79 (∀ (a0:Int) (r:X0t),X71 a0=some r->X0g Tryz.prog 79 [(aI .i64 a0)] (X0p r)):=⟨fun a0 r h=>by
 refine X0g.sym X6 fn79 (nt:=7) rfl rfl ?_ okM
 unfold X71 at h
 revert h
 exact fun e=>oj e▸X8 [] (k:=fi)⟩
instance Xqz:PCs Tryz.prog 117 (∀ (a0:Int) (a1:Int) (r:Int),X3s a0 a1=some r->X0g Tryz.prog 117 [(aI .i64 a0),(aI .i64 a1)] (aI .i64 r)):=⟨fun a0 a1 r h=>by
 refine X0g.sym X6 X042 (nt:=17) rfl rfl ?_ okM
 unfold X3s at h
 revert h
 exact brI (fun h1=>fun e=>oj e▸X8 [Bt] (k:=fi)) fun h1=>brI (fun h2=>fun e=>oj e▸X8 [Bf,Bt] (k:=fi)) fun h2=>fun e=>oj e▸X8 [Bf,Bf] (k:=fi)⟩
instance Xp5:PCs Tryz.prog 194 (∀ (a0:Int) (r:Int),X9e a0=some r->X0g Tryz.prog 194 [(aI .u64 a0)] (aI .i64 r)):=⟨fun a0 r h=>by
 refine X0g.sym X6 X02z (nt:=25) rfl rfl ?_ okM
 unfold X9e at h
 revert h
 refine bI fun w2 h4=>?_
 intro h
 obtain⟨j2_0,j2_2⟩:=w2
 try dsimp only at h
 refine X0c [] ?_
 refine X3.join (s':=⟨fr [(0,(aI .u64 j2_0)),(2,(aI .i64 j2_2))],hp ([]),0⟩) ?_ (fun J=>X3.cut ?_)
 ·
  revert h
  refine bI fun w6 h8=>?_
  intro h
  obtain⟨j6_0,j6_2⟩:=w6
  try dsimp only at h
  refine X0c [] ?_
  refine X3.join (s':=⟨fr [(0,(aI .u64 j6_0)),(2,(aI .i64 j6_2))],hp ([]),0⟩) ?_ (fun J=>X3.cut ?_)
  ·
   revert h
   refine bI fun w10 h12=>?_
   intro h
   obtain⟨X02t,X02s⟩:=w10
   try dsimp only at h
   refine X0c [] ?_
   refine X3.join (s':=⟨fr [(0,(aI .u64 X02t)),(2,(aI .i64 X02s))],hp ([]),0⟩) ?_ (fun J=>X3.cut ?_)
   ·
    revert h
    exact bI fun b13 h14=>fun e=>oj e▸X8 [.wrap,.el (aI .u8 b13),.wrap,.wrap] (o:=by repeat' first|apply Ya|exact pcM|exact(X7q h14)|exact(X00u (tab:=Xfg) rfl h14)|exact X07) (k:=fi)
   clear h;revert h12
   refine brI (fun h11=>?_) fun h11=>?_
   ·
    intro h
    simp only[Option.some.injEq,Prod.mk.injEq] at h
    obtain⟨rfl,rfl⟩:=h
    exact X8 [Bt,.wrap] (k:=wkT [] (X3.glue J))
   intro h
   simp only[Option.some.injEq,Prod.mk.injEq] at h
   obtain⟨rfl,rfl⟩:=h
   exact X8 [Bf] (k:=wkT [] (X3.glue J))
  clear h;revert h8
  refine brI (fun h7=>?_) fun h7=>?_
  ·
   intro h
   simp only[Option.some.injEq,Prod.mk.injEq] at h
   obtain⟨rfl,rfl⟩:=h
   exact X8 [Bt,.wrap] (k:=wkT [] (X3.glue J))
  intro h
  simp only[Option.some.injEq,Prod.mk.injEq] at h
  obtain⟨rfl,rfl⟩:=h
  exact X8 [Bf] (k:=wkT [] (X3.glue J))
 clear h;revert h4
 refine brI (fun h3=>?_) fun h3=>?_
 ·
  intro h
  simp only[Option.some.injEq,Prod.mk.injEq] at h
  obtain⟨rfl,rfl⟩:=h
  exact X8 [Bt] (k:=wkT [] (X3.glue J))
 intro h
 simp only[Option.some.injEq,Prod.mk.injEq] at h
 obtain⟨rfl,rfl⟩:=h
 exact X8 [Bf] (k:=wkT [] (X3.glue J))⟩
instance Xr5:PCs Tryz.prog 169 (∀ (a0:Int) (r:Int),X8c a0=some r->X0g Tryz.prog 169 [(aI .u64 a0)] (aI .i64 r)):=⟨fun a0 r h=>by
 refine X0g.sym X6 X03a (nt:=8) rfl rfl ?_ okM
 unfold X8c at h
 revert h
 exact bI fun v1 h2=>fun e=>oj e▸X8 [Bf,.pure _ (aI .i64 v1)] (k:=fi)⟩
theorem X3z {Q:Xw->St->Mu->Prop} {μ:Mu} (X0u:(List X2)) (Xj:X2) (y0_8:Int):∀ (n:Nat) (Xrc:Int) (Xie:Int) (o:X11) (h:Xo X0u Xj y0_8 n Xrc Xie=some o)
  (C0:∀ (Xct:Int),o=X11.x0 Xct->X3 Tryz.prog 49 0 Q (.exit (.exit 0)) [] ⟨fr [(0,(Lf (X0u.map X1))),(2,(AV.fn 116 [])),(4,(AV.ptr 0 0 0)),(8,(aI .i64 y0_8)),(9,(aI .i64 Xct))],hp ([(0,Ob [(X1 Xj)] 11)]),1⟩ μ),
  X3 Tryz.prog 49 0 Q (.loop (X56 0 (Xb Tryz.f125))) [] ⟨fr [(0,(Lf (X0u.map X1))),(2,(AV.fn 116 [])),(4,(AV.ptr 0 0 0)),(8,(aI .i64 y0_8)),(9,(aI .i64 Xrc)),(10,(aI .i64 Xie))],hp ([(0,Ob [(X1 Xj)] 11)]),1⟩ μ:=by
 intro n
 induction n with
 |zero=>intro Xrc Xie o h C0;cases h
 |succ n ih =>
  intro Xrc Xie o h C0
  rw[Xo] at h
  refine X3.round ?_
  revert h
  refine brI (fun h14=>?_) fun h14=>fun e=>X8 [Bf] (k:=wkT [] (C0 _  (oj e).symm))
  refine bI fun e15 h16=>?_
  try have qh16:=Xq h16
  refine bI fun v17 h18=>brI (fun h19=>?_) fun h19=>?_
  ·
   refine rnI [Bt,.wrap,.wrap,.wrap,.el (X1 e15),.pure _ (aI .i64 v17),Bt,.wrap] ?_
   intro h
   exact wkT [] (ih  _ _ o h C0)
  refine rnI [Bt,.wrap,.wrap,.wrap,.el (X1 e15),.pure _ (aI .i64 v17),Bf] ?_
  intro h
  exact wkT [] (ih  _ _ o h C0)
theorem Xf (a0:(List X2)) (a1:X2) (r:Int×Bool) (h:Xc a0 a1=some r):X0g Tryz.prog 125 [(Lf (a0.map X1)),(X1 a1),(AV.fn 116 [])] (AV.tup [(aI .i64 r.1),(aB r.2)]):=by
 refine X0g.sym X6 X03x (nt:=49) rfl rfl ?_ okM
 unfold Xc at h
 revert h
 refine bI fun o20 h21=>rnI [.el (aI .i64 (a0.length:Int))] ?_
 intro h
 refine wkT [] (X3.cut (X3z a0 a1 (a0.length:Int) _ _ _ _ h21 ?_))
 intro Xct eo20;subst eo20
 refine X3.glue ?_
 try dsimp only at h
 revert h
 refine bI fun Xz8 h33=>rnI [.stop 8] ?_
 intro h
 refine X3.join (s':=⟨fr [(6,(aI .i64 Xct)),(7,(aB Xz8))],hp ([]),0⟩) ?_ (fun J=>X3.cut ?_)
 ·
  revert h
  exact fun e=>oj e▸X8 [] (k:=fi)
 clear h;revert h33
 refine brI (fun h28=>?_) fun h28=>?_
 ·
  refine bI fun e29 h30=>?_
  try have qh30:=Xq h30
  refine bI fun v31 h32=>?_
  intro h
  obtain rfl:=oj h
  exact X8 [.go true,.go true,.go true,.go true,.el (X1 e29),.go true,.go true,.go true,.pure _ (aI .i64 v31),.go true] (k:=wkT [] (X3.glue J))
 intro h
 obtain rfl:=oj h
 exact X8 [.go false,.go false,.go false,.go false,.go false,.go false,.go false,.go false,.go false] (k:=wkT [] (X3.glue J))
instance X2w:PCs Tryz.prog 150 (∀ (a0:X0t) (a1:X0t) (r:X0t×Int),X1u a0 a1=some r->X0g Tryz.prog 150 [(X0p a0),(X0p a1)] (AV.tup [(X0p r.1),(aI .i64 r.2)])):=⟨fun a0 a1 r h=>by
 refine X0g.sym X6 X03i (nt:=53) rfl rfl ?_ okM
 unfold X1u at h
 revert h
 refine bI fun Xyt h12=>rnI [.stop 1] ?_
 intro h
 refine X3.join (s':=⟨fr [(2,(AV.ptr 0 0 0)),(3,(AV.ptr 1 0 0)),(4,(AV.ptr 2 0 0)),(13,(aB Xyt))],hp ([(0,Ob [(X0p a0)] 4),(1,Ob [(X0p a1)] 4),(2,Ob [(X0p (X0t.mk 0 0 0 0))] 4)]),3⟩) ?_ (fun J=>X3.cut ?_)
 ·
  revert h
  exact brI (fun h13=>fun e=>oj e▸X8 [Bt] (k:=fi)) fun h13=>brI (fun h14=>fun e=>oj e▸X8 [Bf,.wrap,Bt] (k:=fi)) fun h14=>brI (fun h15=>fun e=>oj e▸X8 [Bf,.wrap,Bf,Bt] (k:=fi)) fun h15=>brI (fun h16=>fun e=>oj e▸X8 [Bf,.wrap,Bf,Bf,Bt] (k:=fi)) fun h16=>fun e=>oj e▸X8 [Bf,.wrap,Bf,Bf,Bf,.wrap,.wrap] (k:=fi)
 clear h;revert h12
 refine bI fun v7 h8=>brI (fun h9=>?_) fun h9=>?_
 ·
  intro h
  obtain rfl:=oj h
  exact X8 [.pure _ (aI .i64 v7),.go false,.go false,.go false] (k:=wkT [] (X3.glue J))
 refine bI fun v10 h11=>?_
 intro h
 obtain rfl:=oj h
 exact X8 [.pure _ (aI .i64 v7),.go true,.go true,.pure _ (aI .i64 v10),.go true] (k:=wkT [] (X3.glue J))⟩
instance Xrl:PCs Tryz.prog 170 (∀ (a0:Int) (a1:Int) (r:Int),X9n a0 a1=some r->X0g Tryz.prog 170 [(aI .i64 a0),(aI .i64 a1)] (aI .i64 r)):=⟨fun a0 a1 r h=>by
 refine X0g.sym X6 X039 (nt:=17) rfl rfl ?_ okM
 unfold X9n at h
 revert h
 exact brI (fun h1=>fun e=>oj e▸X8 [Bt] (k:=fi)) fun h1=>brI (fun h2=>fun e=>oj e▸X8 [Bf,Bt] (k:=fi)) fun h2=>fun e=>oj e▸X8 [Bf,Bf] (k:=fi)⟩
instance Xqy:PCs Tryz.prog 151 (∀ (a0:Int) (a1:Int) (r:Int×Int),X6k a0 a1=some r->X0g Tryz.prog 151 [(aI .i64 a0),(aI .i64 a1)] (AV.tup [(aI .i64 r.1),(aI .i64 r.2)])):=⟨fun a0 a1 r h=>by
 refine X0g.sym X6 X03h (nt:=24) rfl rfl ?_ okM
 unfold X6k at h
 revert h
 refine bI fun v1 h2=>brI (fun h3=>fun e=>oj e▸X8 [.pure _ (aI .i64 v1),Bt] (k:=fi)) fun h3=>bI fun u4 h5=>bI fun j7_7 h9=>rnI [.pure _ (aI .i64 v1),Bf,.wrap] ?_
 intro h
 refine X3.join (s':=⟨fr [(7,(aI .i64 j7_7))],hp ([]),0⟩) ?_ (fun J=>X3.cut ?_)
 ·
  revert h
  exact fun e=>oj e▸X8 [] (k:=fi)
 clear h;revert h9
 refine brI (fun h8=>?_) fun h8=>?_
 ·
  intro h
  obtain rfl:=oj h
  exact X8 [Bt,.wrap] (k:=wkT [] (X3.glue J))
 intro h
 obtain rfl:=oj h
 exact X8 [Bf] (k:=wkT [] (X3.glue J))⟩
instance Xbp:PCs Tryz.prog 123 (∀ (a0:Int) (a1:Int) (r:X00×Int),Xab a0 a1=some r->X0g Tryz.prog 123 [(aI .i64 a0),(aI .i64 a1)] (AV.tup [(Xx r.1),(aI .i64 r.2)])):=⟨fun a0 a1 r h=>by
 refine X0g.sym X6 X03z (nt:=26) rfl rfl ?_ okM
 unfold Xab at h
 revert h
 exact bI fun v1 h2=>brI (fun h3=>fun e=>oj e▸X8 [.pure _ (AV.tup [(aI .i64 v1.1),(aI .i64 v1.2)]),Bt] (k:=fi)) fun h3=>fun e=>oj e▸X8 [.pure _ (AV.tup [(aI .i64 v1.1),(aI .i64 v1.2)]),Bf,.wrap,.wrap,.wrap] (k:=fi)⟩
theorem Xh4 {Q:Xw->St->Mu->Prop} {μ:Mu} (X0u:Int) (X8s:Int) (Xbm:Int):∀ (n:Nat) (Xj:(List X00)) (X4z:Int) (X20:Nb Xj) (o:Xa1) (h:X52 X0u X8s Xbm n Xj X4z=some o)
  (C0:∀ (X06:(List X00)) (X0o:Nb X06),o=Xa1.x0 X06->X3 Tryz.prog 70 0 Q (.exit (.exit 0)) [] ⟨fr [(10,(slE X0o.1 0 (X06.map Xx)))],hp ([]++opE X0o.1 0 2 (X06.map Xx)),1⟩ μ),
  X3 Tryz.prog 70 0 Q (.loop (X56 0 (Xb Tryz.f124))) [] ⟨fr [(0,(aI .i64 X0u)),(1,(aI .i64 X8s)),(2,(aI .i64 Xbm)),(10,(slE X20.1 0 (Xj.map Xx))),(11,(aI .i64 X4z))],hp ([]++opE X20.1 0 2 (Xj.map Xx)),1⟩ μ:=by
 intro n
 induction n with
 |zero=>intro Xj X4z X20 o h C0;cases h
 |succ n ih =>
  intro Xj X4z X20 o h C0
  rw[X52] at h
  rcases X20 with ⟨_|_,X5g⟩
  ·
   refine X3.round ?_
   revert h
   refine brI (fun h18=>?_) fun h18=>fun e=>X8 [.wrap,Bf] (k:=wkT [] (C0 _  nbF (oj e).symm))
   refine bI fun u19 h20=>rnI [.wrap,Bt,.wrap,.no,.wrap] (o:=by repeat' first|apply Ya|exact pcM|(refine X1t h20 rfl ?_;first|(simp;done)|(simp;omega)|(simp[h18];done)|(simp[h18];omega))|(refine X0f h20 (by decide) ?_;first|(simp;done)|(simp;omega)|(simp[h18];done)|(simp[h18];omega))|exact X07) ?_
   intro h
   exact wkT [(0,2)] (ih  _ _ nbF o h C0)
  obtain rfl:=X5g rfl
  refine X3.round ?_
  revert h
  refine brI (fun h21=>?_) fun h21=>fun e=>X8 [.wrap,Bf] (k:=wkT [] (C0 _  nbS (oj e).symm))
  refine bI fun u22 h23=>rnI [.wrap,Bt,.wrap,.no,.wrap] (o:=by repeat' first|apply Ya|exact pcM|(refine X1t h23 rfl ?_;first|(simp;done)|(simp;omega)|(simp[h21];done)|(simp[h21];omega))|(refine X0f h23 (by decide) ?_;first|(simp;done)|(simp;omega)|(simp[h21];done)|(simp[h21];omega))|exact X07) ?_
  intro h
  exact wkT [(0,2)] (ih  _ _ nbF o h C0)
theorem X9p {Q:Xw->St->Mu->Prop}  {rb rD:Nat} {rr:Loop} (rh1:rr.state=.ready) (rh2:rr.pending=none) (rh3:rr.params=(rfB 0 (Xb Tryz.f124)).1) (rh4:rr.assign=(rfB 0 (Xb Tryz.f124)).2.1) (rh5:rr.body=(rfB 0 (Xb Tryz.f124)).2.2) (X1n:(List X00)) (Xgl:Nb X1n):∀ (n:Nat) (X0d:(List X00)) (Xkz:Int) (X16:Nb X0d) (o:X7b) (h:X3d X1n n X0d Xkz=some o)
  (C0:∀ (X4a:(List X00)) (Xbh:(List X00)) (X39:Nb X4a) (X6g:Nb Xbh),o=X7b.x0 X4a Xbh->X3 Tryz.prog 19 3 Q (.exit (.exit 0)) [] ⟨fr [],hp ([(1,Ob [(slE X39.1 3 (X4a.map Xx))] 1),(2,Ob [(slE X6g.1 4 (Xbh.map Xx))] 1)]++opE X39.1 3 2 (X4a.map Xx)++opE X6g.1 4 2 (Xbh.map Xx)),5⟩ [(rb,MuE.loop rr 70 3 (fr [(12,(AV.ptr 1 0 0)),(62,(AV.fn 171 [(AV.ptr 2 0 0)]))])),(rD,MuE.blk (Go.Obj.deferred (some [])))]),
  X3 Tryz.prog 19 3 Q (.loop (X56 0 (Xb Tryz.f171))) [] ⟨fr [(0,(AV.sc (.func (.yield rb) #[] #[]))),(1,(AV.ptr 2 0 0)),(3,(aI .i64 Xkz))],hp ([(1,Ob [(slE X16.1 3 (X0d.map Xx))] 1),(2,Ob [(slE Xgl.1 4 (X1n.map Xx))] 1)]++opE X16.1 3 2 (X0d.map Xx)++opE Xgl.1 4 2 (X1n.map Xx)),5⟩ [(rb,MuE.loop rr 70 3 (fr [(12,(AV.ptr 1 0 0)),(62,(AV.fn 171 [(AV.ptr 2 0 0)]))])),(rD,MuE.blk (Go.Obj.deferred (some [])))]:=by
 intro n
 induction n with
 |zero=>intro X0d Xkz X16 o h C0;cases h
 |succ n ih =>
  intro X0d Xkz X16 o h C0
  rw[X3d] at h
  rcases X16 with ⟨_|_,X4i⟩
  ·
   rcases Xgl with ⟨_|_,Xkg⟩
   ·
    refine X3.round ?_
    revert h
    refine brI (fun h67=>?_) fun h67=>fun e=>X8 [Bf] (k:=wkT [] (C0 _ _  nbF nbF (oj e).symm))
    refine bI fun e68 h69=>?_
    try have qh69:=Xq h69
    refine rnI [Bt,.el (Xx e68),.ld (Xx e68)] ?_
    intro h
    refine X3.yield rfl rfl rfl rfl rfl trivial trivial (.head _) rh1 rh2 rh3 rh4 rh5 rfl rfl ?_
    refine X0c [] ?_
    refine X3.asg ?_
    revert h
    refine bI fun u72 h73=>rnI [.no] (o:=by repeat' first|apply Ya|exact pcM|(refine X1t h73 rfl ?_;first|(simp;done)|(simp;omega)|(simp[h67];done)|(simp[h67];omega))|(refine X0f h73 (by decide) ?_;first|(simp;done)|(simp;omega)|(simp[h67];done)|(simp[h67];omega))|exact X07) ?_
    intro h
    refine X3.rndEnd ?_
    exact X8 [Bf,.wrap] (o:=by repeat' first|apply Ya|exact pcM|(refine X1t h73 rfl ?_;first|(simp;done)|(simp;omega)|(simp[h67];done)|(simp[h67];omega))|(refine X0f h73 (by decide) ?_;first|(simp;done)|(simp;omega)|(simp[h67];done)|(simp[h67];omega))|exact X07) (k:=wkT [(3,7)] (ih  _ _ nbF o h C0))
   obtain rfl:=Xkg rfl
   refine X3.round ?_
   revert h
   refine brI (fun h74=>?_) fun h74=>fun e=>X8 [Bf] (k:=wkT [] (C0 _ _  nbF nbS (oj e).symm))
   refine bI fun e75 h76=>?_
   try have qh76:=Xq h76
   intro h
   exact absurd (h76) (by simp[X3b])
  obtain rfl:=X4i rfl
  rcases Xgl with ⟨_|_,Xkg⟩
  ·
   refine X3.round ?_
   revert h
   refine brI (fun h77=>?_) fun h77=>fun e=>X8 [Bf] (k:=wkT [] (C0 _ _  nbS nbF (oj e).symm))
   refine bI fun e78 h79=>?_
   try have qh79:=Xq h79
   refine rnI [Bt,.el (Xx e78),.ld (Xx e78)] ?_
   intro h
   refine X3.yield rfl rfl rfl rfl rfl trivial trivial (.head _) rh1 rh2 rh3 rh4 rh5 rfl rfl ?_
   refine X0c [] ?_
   refine X3.asg ?_
   revert h
   refine bI fun u82 h83=>rnI [.no] (o:=by repeat' first|apply Ya|exact pcM|(refine X1t h83 rfl ?_;first|(simp;done)|(simp;omega)|(simp[h77];done)|(simp[h77];omega))|(refine X0f h83 (by decide) ?_;first|(simp;done)|(simp;omega)|(simp[h77];done)|(simp[h77];omega))|exact X07) ?_
   intro h
   refine X3.rndEnd ?_
   exact X8 [Bf,.wrap] (o:=by repeat' first|apply Ya|exact pcM|(refine X1t h83 rfl ?_;first|(simp;done)|(simp;omega)|(simp[h77];done)|(simp[h77];omega))|(refine X0f h83 (by decide) ?_;first|(simp;done)|(simp;omega)|(simp[h77];done)|(simp[h77];omega))|exact X07) (k:=wkT [(3,7)] (ih  _ _ nbF o h C0))
  obtain rfl:=Xkg rfl
  refine X3.round ?_
  revert h
  refine brI (fun h84=>?_) fun h84=>fun e=>X8 [Bf] (k:=wkT [] (C0 _ _  nbS nbS (oj e).symm))
  refine bI fun e85 h86=>?_
  try have qh86:=Xq h86
  intro h
  exact absurd (h86) (by simp[X3b])
end Go.Av.Tryz