/- Printed by decomp.py: that the program computes the functions. -/
import Derived.Test.YtfdfgobnpnoomaaGreatDCert15Z
set_option linter.all false

namespace Go.Av.Tryz
open Go.Proofs Go.D
set_option maxRecDepth 10000
set_option maxHeartbeats 40000000
theorem Xj3 {Q:X02->St->Mu->Prop} {μ:Mu} (X00:(List (List Int))) (Xgq:(List Int)) (X84:(List Int)):∀ (n:Nat) (Xf:(List Int)) (X85:Int) (Xf7:Int) (Xy:Nb Xf) (o:Xab) (h:X34 X00 Xgq X84 n Xf X85 Xf7=some o)
  (C0:∀ (Xe:(List Int)) (Xj:Nb Xe),o=Xab.x0 Xe->X2 Tryz.prog 91 0 Q (.exit (.exit 0)) [] ⟨fr [(10,(slE Xj.1 0 (List.map (aI .i64) Xe)))],hp ([]++opE Xj.1 0 1 (List.map (aI .i64) Xe)),1⟩ μ),
  X2 Tryz.prog 91 0 Q (.loop (X2v 0 (Xh Tryz.f68))) [] ⟨fr [(0,(Lf (List.map (X56 false (aI .i64)) X00))),(8,(AV.list true (List.map (aI .i64) Xgq))),(9,(AV.list true (List.map (aI .i64) X84))),(10,(slE Xy.1 0 (List.map (aI .i64) Xf))),(11,(aI .i64 X85)),(12,(aI .i64 Xf7))],hp ([]++opE Xy.1 0 1 (List.map (aI .i64) Xf)),1⟩ μ:=by
 intro n
 induction n with
 |zero=>intro Xf X85 Xf7 Xy o h C0;cases h
 |succ n ih =>
  intro Xf X85 Xf7 Xy o h C0
  rw[X34] at h
  rcases Xy with ⟨_|_,X1b⟩
  ·
   refine X2.round ?_
   revert h
   refine bI fun Xux h171=>rnI [.stop 9] ?_
   intro h
   refine X2.join (s':=⟨fr [(0,(Lf (List.map (X56 false (aI .i64)) X00))),(8,(AV.list true (List.map (aI .i64) Xgq))),(9,(AV.list true (List.map (aI .i64) X84))),(10,(AV.ref 0 0 (Xf.length))),(11,(aI .i64 X85)),(12,(aI .i64 Xf7)),(43,(aB Xux))],hp ([(0,Ob (List.map (aI .i64) Xf) 1)]),1⟩) ?_ (fun J=>X2.cut ?_)
   ·
    revert h
    refine brI (fun h172=>?_) fun h172=>fun e=>X9 [Bf] (k:=wkT [] (C0 _  nbF (oj e).symm))
    refine bI fun Xuw h198=>rnI [Bt,.stop 10] ?_
    intro h
    refine X2.join (s':=⟨fr [(0,(Lf (List.map (X56 false (aI .i64)) X00))),(8,(AV.list true (List.map (aI .i64) Xgq))),(9,(AV.list true (List.map (aI .i64) X84))),(10,(AV.ref 0 0 (Xf.length))),(11,(aI .i64 X85)),(12,(aI .i64 Xf7)),(71,(aB Xuw))],hp ([(0,Ob (List.map (aI .i64) Xf) 1)]),1⟩) ?_ (fun J=>X2.cut ?_)
    ·
     revert h
     refine brI (fun h199=>?_) fun h199=>?_
     ·
      refine bI fun e200 h201=>?_
      try have qh201:=Xn h201
      refine bI fun u202 h203=>rnI [Bt,.el (aI .i64 e200),.no,.wrap] (o:=by repeat' first|apply Ya|exact pcM|(refine X0a h203 rfl ?_;first|(simp;done)|(simp;omega)|(simp[h172,h199];done)|(simp[h172,h199];omega))|(refine Xs h203 (by decide) ?_;first|(simp;done)|(simp;omega)|(simp[h172,h199];done)|(simp[h172,h199];omega))|exact X0k) ?_
      intro h
      exact wkT [(0,2)] (ih  _ _ _ nbF o h C0)
     refine bI fun e204 h205=>?_
     try have qh205:=Xn h205
     refine bI fun u206 h207=>rnI [Bf,.el (aI .i64 e204),.no,.wrap] (o:=by repeat' first|apply Ya|exact pcM|(refine X0a h207 rfl ?_;first|(simp;done)|(simp;omega)|(simp[h172,h199];done)|(simp[h172,h199];omega))|(refine Xs h207 (by decide) ?_;first|(simp;done)|(simp;omega)|(simp[h172,h199];done)|(simp[h172,h199];omega))|exact X0k) ?_
     intro h
     exact wkT [(0,2)] (ih  _ _ _ nbF o h C0)
    clear h;revert h198
    refine brI (fun h186=>?_) fun h186=>?_
    ·
     intro h
     obtain rfl:=oj h
     exact X9 [.el (aI .i64 (X84.length:Int)),.go false,.go false,.go false,.go false,.go false,.no,.no,.no,.no,.no,.no,.no,.no,.no,.no,.no,.no,.no,.no,.no,.no,.go false,.go true] (k:=wkT [] (X2.glue J))
    refine brI (fun h187=>?_) fun h187=>?_
    ·
     refine bI fun e188 h189=>?_
     try have qh189:=Xn h189
     refine bI fun e190 h191=>?_
     try have qh191:=Xn h191
     refine bI fun e192 h193=>?_
     try have qh193:=Xn h193
     refine bI fun e194 h195=>?_
     try have qh195:=Xn h195
     refine bI fun v196 h197=>?_
     intro h
     obtain rfl:=oj h
     exact X9 [.el (aI .i64 (X84.length:Int)),.go true,.go true,.go true,.el (aI .i64 (Xgq.length:Int)),.go true,.go true,.go true,.go true,.go true,.go true,.el (aI .i64 e188),.go true,.go true,.el (X56 false (aI .i64) e190),.go true,.go true,.go true,.go true,.go true,.el (aI .i64 e192),.go true,.go true,.el (X56 false (aI .i64) e194),.go true,.go true,.pure _ (aB v196),.go true,.go true] (k:=wkT [] (X2.glue J))
    intro h
    obtain rfl:=oj h
    exact X9 [.el (aI .i64 (X84.length:Int)),.go true,.go true,.go true,.el (aI .i64 (Xgq.length:Int)),.go true,.go true,.go false,.go false,.go false,.go false,.go false,.go false,.go false,.go false,.go false,.go false,.go false,.go false,.go false,.go false,.go false,.go false,.go true,.go false] (k:=wkT [] (X2.glue J))
   clear h;revert h171
   refine brI (fun h170=>?_) fun h170=>?_
   ·
    intro h
    obtain rfl:=oj h
    exact X9 [.el (aI .i64 (Xgq.length:Int)),.go false,.go false,.go false,.go false] (k:=wkT [] (X2.glue J))
   intro h
   obtain rfl:=oj h
   exact X9 [.el (aI .i64 (Xgq.length:Int)),.go true,.go true,.go true,.el (aI .i64 (X84.length:Int)),.go true] (k:=wkT [] (X2.glue J))
  obtain rfl:=X1b rfl
  refine X2.round ?_
  revert h
  refine bI fun X09o h211=>rnI [.stop 9] ?_
  intro h
  refine X2.join (s':=⟨fr [(0,(Lf (List.map (X56 false (aI .i64)) X00))),(8,(AV.list true (List.map (aI .i64) Xgq))),(9,(AV.list true (List.map (aI .i64) X84))),(10,AV.nils),(11,(aI .i64 X85)),(12,(aI .i64 Xf7)),(43,(aB X09o))],hp ([]),1⟩) ?_ (fun J=>X2.cut ?_)
  ·
   revert h
   refine brI (fun h212=>?_) fun h212=>fun e=>X9 [Bf] (k:=wkT [] (C0 _  nbS (oj e).symm))
   refine bI fun X09n h238=>rnI [Bt,.stop 10] ?_
   intro h
   refine X2.join (s':=⟨fr [(0,(Lf (List.map (X56 false (aI .i64)) X00))),(8,(AV.list true (List.map (aI .i64) Xgq))),(9,(AV.list true (List.map (aI .i64) X84))),(10,AV.nils),(11,(aI .i64 X85)),(12,(aI .i64 Xf7)),(71,(aB X09n))],hp ([]),1⟩) ?_ (fun J=>X2.cut ?_)
   ·
    revert h
    refine brI (fun h239=>?_) fun h239=>?_
    ·
     refine bI fun e240 h241=>?_
     try have qh241:=Xn h241
     refine bI fun u242 h243=>rnI [Bt,.el (aI .i64 e240),.no,.wrap] (o:=by repeat' first|apply Ya|exact pcM|(refine X0a h243 rfl ?_;first|(simp;done)|(simp;omega)|(simp[h212,h239];done)|(simp[h212,h239];omega))|(refine Xs h243 (by decide) ?_;first|(simp;done)|(simp;omega)|(simp[h212,h239];done)|(simp[h212,h239];omega))|exact X0k) ?_
     intro h
     exact wkT [(0,2)] (ih  _ _ _ nbF o h C0)
    refine bI fun e244 h245=>?_
    try have qh245:=Xn h245
    refine bI fun u246 h247=>rnI [Bf,.el (aI .i64 e244),.no,.wrap] (o:=by repeat' first|apply Ya|exact pcM|(refine X0a h247 rfl ?_;first|(simp;done)|(simp;omega)|(simp[h212,h239];done)|(simp[h212,h239];omega))|(refine Xs h247 (by decide) ?_;first|(simp;done)|(simp;omega)|(simp[h212,h239];done)|(simp[h212,h239];omega))|exact X0k) ?_
    intro h
    exact wkT [(0,2)] (ih  _ _ _ nbF o h C0)
   clear h;revert h238
   refine brI (fun h226=>?_) fun h226=>?_
   ·
    intro h
    obtain rfl:=oj h
    exact X9 [.el (aI .i64 (X84.length:Int)),.go false,.go false,.go false,.go false,.go false,.no,.no,.no,.no,.no,.no,.no,.no,.no,.no,.no,.no,.no,.no,.no,.no,.go false,.go true] (k:=wkT [] (X2.glue J))
   refine brI (fun h227=>?_) fun h227=>?_
   ·
    refine bI fun e228 h229=>?_
    try have qh229:=Xn h229
    refine bI fun e230 h231=>?_
    try have qh231:=Xn h231
    refine bI fun e232 h233=>?_
    try have qh233:=Xn h233
    refine bI fun e234 h235=>?_
    try have qh235:=Xn h235
    refine bI fun v236 h237=>?_
    intro h
    obtain rfl:=oj h
    exact X9 [.el (aI .i64 (X84.length:Int)),.go true,.go true,.go true,.el (aI .i64 (Xgq.length:Int)),.go true,.go true,.go true,.go true,.go true,.go true,.el (aI .i64 e228),.go true,.go true,.el (X56 false (aI .i64) e230),.go true,.go true,.go true,.go true,.go true,.el (aI .i64 e232),.go true,.go true,.el (X56 false (aI .i64) e234),.go true,.go true,.pure _ (aB v236),.go true,.go true] (k:=wkT [] (X2.glue J))
   intro h
   obtain rfl:=oj h
   exact X9 [.el (aI .i64 (X84.length:Int)),.go true,.go true,.go true,.el (aI .i64 (Xgq.length:Int)),.go true,.go true,.go false,.go false,.go false,.go false,.go false,.go false,.go false,.go false,.go false,.go false,.go false,.go false,.go false,.go false,.go false,.go false,.go true,.go false] (k:=wkT [] (X2.glue J))
  clear h;revert h211
  refine brI (fun h210=>?_) fun h210=>?_
  ·
   intro h
   obtain rfl:=oj h
   exact X9 [.el (aI .i64 (Xgq.length:Int)),.go false,.go false,.go false,.go false] (k:=wkT [] (X2.glue J))
  intro h
  obtain rfl:=oj h
  exact X9 [.el (aI .i64 (Xgq.length:Int)),.go true,.go true,.go true,.el (aI .i64 (X84.length:Int)),.go true] (k:=wkT [] (X2.glue J))
theorem X9t:∀ (n:Nat) (a0:(List (List Int))) (a1:Int) (a2:Int) (r:(List Int)) (h:X4u n a0 a1 a2=some r),X0g Tryz.prog 68 [(Lf (List.map (X56 false (aI .i64)) a0)),(aI .i64 a1),(aI .i64 a2)] (AV.list true (List.map (aI .i64) r)):=by
 intro n
 induction n with
 |zero=>intro a0 a1 a2 r h;cases h
 |succ n ih =>
  intro a0 a1 a2 r h
  have hrec:=ih
  refine X0g.sym Xa fn68 (nt:=91) rfl rfl ?_ (X1d .list (X1d .sc (X1d .sc X8w)))
  rw[X4u] at h
  revert h
  refine brI (fun h1=>brI (fun h2=>fun e=>oj e▸X9 [.wrap,Bt,Bt] (k:=fi)) fun h2=>fun e=>oj e▸X9 [.wrap,Bt,Bf] (k:=fi)) fun h1=>?_
  refine bI fun v3 h4=>bI fun v5 h6=>bI fun o248 h249=>rnI [.wrap,Bf,.wrap,.wrap,.pure [(Lf (List.map (X56 false (aI .i64)) a0)),(aI .i64 a1),(aI .i64 (IntKind.i64.wrap (Int.tdiv (IntKind.i64.wrap (a1+a2)) 2)))] (AV.list true (List.map (aI .i64) v3)),.pure [(Lf (List.map (X56 false (aI .i64)) a0)),(aI .i64 (IntKind.i64.wrap (Int.tdiv (IntKind.i64.wrap (a1+a2)) 2))),(aI .i64 a2)] (AV.list true (List.map (aI .i64) v5))] (o:=by repeat' first|apply Ya|exact pcM|exact(pn (hrec _ _ _ _ h4) (cc (Xvj (fun _=>rfl) (fun x=>Xeh (X5q (X1x (fun _=>Xcm) _))) a0) (cc .sc (cc .sc cn))))|exact(pn (hrec _ _ _ _ h6) (cc (Xvj (fun _=>rfl) (fun x=>Xeh (X5q (X1x (fun _=>Xcm) _))) a0) (cc .sc (cc .sc cn))))|exact X0k) ?_
  intro h
  refine wkT [] (X2.cut (Xj3 a0 v3 v5 _ _ _ _ nbS _ h249 ?_))
  intro Xe Xj eo248;subst eo248
  refine X2.glue ?_
  try dsimp only at h
  rcases Xj with ⟨_|_,X0n⟩
  ·
   revert h
   exact fun e=>oj e▸X9 [] (k:=fi)
  obtain rfl:=X0n rfl
  revert h
  exact fun e=>oj e▸X9 [] (k:=fi)
theorem Xkh {Q:X02->St->Mu->Prop} {μ:Mu} (X00:(List X7)) (hl:X00.length<=140737488355328):∀ (xs:List X7) (k:Nat) (hx:X00.drop k=xs) (Xf:(List (List Int))) (Xy:Nb Xf) (o:Xba) (h:X4j X00 xs k Xf=some o)
  (C0:∀ (Xe:(List (List Int))) (Xj:Nb Xe),o=Xba.x0 Xe->X2 Tryz.prog 47 0 Q (.exit (.exit 0)) [] ⟨fr [(0,(Lf (X00.map X0))),(4,(slE Xj.1 0 (List.map (X56 true (aI .i64)) Xe)))],hp ([]++opE Xj.1 0 1 (List.map (X56 true (aI .i64)) Xe)),1⟩ μ),
  X2 Tryz.prog 47 0 Q (.loop (X2v 0 (Xh Tryz.f38))) [] ⟨fr [(0,(Lf (X00.map X0))),(4,(slE Xy.1 0 (List.map (X56 true (aI .i64)) Xf))),(5,(aI .i64 (k:Int)))],hp ([]++opE Xy.1 0 1 (List.map (X56 true (aI .i64)) Xf)),1⟩ μ:=by
 intro xs
 induction xs with
 |nil =>
  intro k hx Xf Xy o h C0
  have hk:=drop_nil hx
  have hc:decide ((k:Int)<(X00.length:Int))=false:=Yf (by omega)
  rw[X4j] at h
  rcases Xy with ⟨_|_,X1b⟩
  ·
   refine X2.round ?_
   revert h
   exact fun e=>X9 [.el (aI .i64 (X00.length:Int)),Bf] (k:=wkT [] (C0 _  nbF (oj e).symm))
  ·
   obtain rfl:=X1b rfl
   refine X2.round ?_
   revert h
   exact fun e=>X9 [.el (aI .i64 (X00.length:Int)),Bf] (k:=wkT [] (C0 _  nbS (oj e).symm))
 |cons x xs ih =>
  intro k hx Xf Xy o h C0
  obtain⟨hk,hg,hx1⟩:=drop_cons hx
  have hc:decide ((k:Int)<(X00.length:Int))=true:=Yt (by omega)
  rw[X4j] at h
  rcases Xy with ⟨_|_,X1b⟩
  ·
   refine X2.round ?_
   revert h
   refine bI fun v21 h22=>bI fun u23 h24=>rnI [.el (aI .i64 (X00.length:Int)),Bt,.el (X0 x),.pure _ (AV.list true (List.map (aI .i64) v21)),.no] (o:=by repeat' first|apply Ya|exact pcM|(refine X0a h24 rfl ?_;first|(simp;done)|(simp;omega)|(simp[hc];done)|(simp[hc];omega))|(refine Xs h24 (by decide) ?_;first|(simp;done)|(simp;omega)|(simp[hc];done)|(simp[hc];omega))|exact X0k) ?_
   intro h
   exact wkT [(0,2)] (ih (k+1) hx1 _ nbF o h C0)
  obtain rfl:=X1b rfl
  refine X2.round ?_
  revert h
  refine bI fun v25 h26=>bI fun u27 h28=>rnI [.el (aI .i64 (X00.length:Int)),Bt,.el (X0 x),.pure _ (AV.list true (List.map (aI .i64) v25)),.no] (o:=by repeat' first|apply Ya|exact pcM|(refine X0a h28 rfl ?_;first|(simp;done)|(simp;omega)|(simp[hc];done)|(simp[hc];omega))|(refine Xs h28 (by decide) ?_;first|(simp;done)|(simp;omega)|(simp[hc];done)|(simp[hc];omega))|exact X0k) ?_
  intro h
  exact wkT [(0,2)] (ih (k+1) hx1 _ nbF o h C0)
theorem Xen {Q:X02->St->Mu->Prop} {μ:Mu} (Xky:(List X7)) (Xiu:(List Int)) (hl:Xiu.length<=140737488355328):∀ (xs:List Int) (k:Nat) (hx:Xiu.drop k=xs) (X1m:(List X7)) (X6q:Nb X1m) (o:Xb9) (h:X4i Xky Xiu xs k X1m=some o)
  (C0:∀ (X5e:(List X7)) (X43:Nb X5e),o=Xb9.x0 X5e->X2 Tryz.prog 47 0 Q (.exit (.exit 2)) [] ⟨fr [(7,(slE X43.1 0 (X5e.map X0)))],hp ([]++opE X43.1 0 3 (X5e.map X0)),1⟩ μ),
  X2 Tryz.prog 47 0 Q (.loop (X2v 1 (Xh Tryz.f38))) [] ⟨fr [(0,(Lf (Xky.map X0))),(6,(AV.list true (List.map (aI .i64) Xiu))),(7,(slE X6q.1 0 (X1m.map X0))),(8,(aI .i64 (k:Int)))],hp ([]++opE X6q.1 0 3 (X1m.map X0)),1⟩ μ:=by
 intro xs
 induction xs with
 |nil =>
  intro k hx X1m X6q o h C0
  have hk:=drop_nil hx
  have hc:decide ((k:Int)<(Xiu.length:Int))=false:=Yf (by omega)
  rw[X4i] at h
  rcases X6q with ⟨_|_,Xec⟩
  ·
   refine X2.round ?_
   revert h
   exact fun e=>X9 [.el (aI .i64 (Xiu.length:Int)),Bf] (k:=wkT [] (C0 _  nbF (oj e).symm))
  ·
   obtain rfl:=Xec rfl
   refine X2.round ?_
   revert h
   exact fun e=>X9 [.el (aI .i64 (Xiu.length:Int)),Bf] (k:=wkT [] (C0 _  nbS (oj e).symm))
 |cons x xs ih =>
  intro k hx X1m X6q o h C0
  obtain⟨hk,hg,hx1⟩:=drop_cons hx
  have hc:decide ((k:Int)<(Xiu.length:Int))=true:=Yt (by omega)
  rw[X4i] at h
  rcases X6q with ⟨_|_,Xec⟩
  ·
   refine X2.round ?_
   revert h
   refine bI fun e52 h53=>?_
   try have qh53:=Xn h53
   refine bI fun u54 h55=>rnI [.el (aI .i64 (Xiu.length:Int)),Bt,.el (aI .i64 x),.el (X0 e52),.no] (o:=by repeat' first|apply Ya|exact pcM|(refine X0a h55 rfl ?_;first|(simp;done)|(simp;omega)|(simp[hc];done)|(simp[hc];omega))|(refine Xs h55 (by decide) ?_;first|(simp;done)|(simp;omega)|(simp[hc];done)|(simp[hc];omega))|exact X0k) ?_
   intro h
   exact wkT [(0,2)] (ih (k+1) hx1 _ nbF o h C0)
  obtain rfl:=Xec rfl
  refine X2.round ?_
  revert h
  refine bI fun e56 h57=>?_
  try have qh57:=Xn h57
  refine bI fun u58 h59=>rnI [.el (aI .i64 (Xiu.length:Int)),Bt,.el (aI .i64 x),.el (X0 e56),.no] (o:=by repeat' first|apply Ya|exact pcM|(refine X0a h59 rfl ?_;first|(simp;done)|(simp;omega)|(simp[hc];done)|(simp[hc];omega))|(refine Xs h59 (by decide) ?_;first|(simp;done)|(simp;omega)|(simp[hc];done)|(simp[hc];omega))|exact X0k) ?_
  intro h
  exact wkT [(0,2)] (ih (k+1) hx1 _ nbF o h C0)
instance X052:PCs Tryz.prog 38 (∀ (a0:(List X7)) (r:(List X7)×Int),Xda a0=some r->X0g Tryz.prog 38 [(Lf (a0.map X0))] (AV.tup [(AV.list true (r.1.map X0)),(aI .i64 r.2)])):=⟨fun a0 r h=>by
 refine X0g.sym Xa fn38 (nt:=47) rfl rfl ?_ okM
 unfold Xda at h
 revert h
 refine brI (fun h1=>fun e=>oj e▸X9 [.el (aI .i64 (a0.length:Int)),Bt] (k:=fi)) fun h1=>bI fun u2 h3=>?_
 have qh3:=X08 h3
 refine bI fun o29 h30=>rnI [.el (aI .i64 (a0.length:Int)),Bf] ?_
 intro h
 refine wkT [] (X2.cut (Xkh a0 qh3 a0 0 (by simp) _ nbS _ h30 ?_))
 intro Xe Xj eo29;subst eo29
 refine X2.glue ?_
 try dsimp only at h
 rcases Xj with ⟨_|_,X0n⟩
 ·
  revert h
  refine bI fun v31 h32=>bI fun u33 h34=>?_
  have qh34:=X08 h34
  refine bI fun o60 h61=>rnI [.el (aI .i64 (Xe.length:Int)),.pure [(Lf (List.map (X56 false (aI .i64)) Xe)),(aI .i64 0),(aI .i64 (Xe.length:Int))] (AV.list true (List.map (aI .i64) v31))] (o:=by repeat' first|apply Ya|exact pcM|exact(X5s.lent (X9t FU _ _ _ _ h32) (cc (X031 (f:=(X56 true (aI .i64))) (g:=(X56 false (aI .i64))) (l:=Xe) rfl (by first|rfl|(simp;done)|(simp;rfl)|(simp[h1];done)|(simp[h1];rfl)) (by first|rfl|(simp;done)|(simp;omega)|(simp[h1];done)|(simp[h1];omega)) (fun _=>rfl) (fun x=>Xeh (X5q (X1x (fun _=>Xcm) _)))) (cc .sc (cc (Xoq (by first|rfl|(simp[*];done))) cn))) (Xlw (X1x (fun _=>Xcm) _)))|exact X0k) ?_
  intro h
  refine wkT [] (X2.cut (Xen a0 v31 qh34 v31 0 (by simp) _ nbS _ h61 ?_))
  intro X5e X43 eo60;subst eo60
  refine X2.glue ?_
  try dsimp only at h
  rcases X43 with ⟨_|_,X9o⟩
  ·
   revert h
   exact fun e=>oj e▸X9 [] (k:=fi)
  obtain rfl:=X9o rfl
  revert h
  exact fun e=>oj e▸X9 [] (k:=fi)
 obtain rfl:=X0n rfl
 revert h
 refine bI fun v62 h63=>bI fun u64 h65=>?_
 have qh65:=X08 h65
 refine bI fun o83 h84=>rnI [.el (aI .i64 (List.length ([]:List (List Int)):Int)),.pure [(Lf (List.map (X56 false (aI .i64)) ([]:List (List Int)))),(aI .i64 0),(aI .i64 (List.length ([]:List (List Int)):Int))] (AV.list true (List.map (aI .i64) v62))] (o:=by repeat' first|apply Ya|exact pcM|exact(pn (X9t FU _ _ _ _ h63) (cc (X032 (es:=List.map (X56 true (aI .i64)) ([]:List (List Int))) (by simp[*])) (cc .sc (cc (Xoq (by first|rfl|(simp[*];done))) cn))))|exact X0k) ?_
 intro h
 refine wkT [] (X2.cut (Xen a0 v62 qh65 v62 0 (by simp) _ nbS _ h84 ?_))
 intro X5e X43 eo83;subst eo83
 refine X2.glue ?_
 try dsimp only at h
 rcases X43 with ⟨_|_,X9o⟩
 ·
  revert h
  exact fun e=>oj e▸X9 [] (k:=fi)
 obtain rfl:=X9o rfl
 revert h
 exact fun e=>oj e▸X9 [] (k:=fi)⟩
theorem Xj6 {Q:X02->St->Mu->Prop} {μ:Mu} (X00:(List X0t)) (X1s:Int) (hl:X00.length<=140737488355328):∀ (xs:List X0t) (k:Nat) (hx:X00.drop k=xs) (Xf:(List X0t)) (Xy:Nb Xf) (o:Xac) (h:X3v X00 X1s xs k Xf=some o)
  (C0:∀ (Xe:(List X0t)) (Xj:Nb Xe),o=Xac.x0 Xe->X2 Tryz.prog 29 0 Q (.exit (.exit 0)) [] ⟨fr [(5,(slE Xj.1 0 (Xe.map Xb)))],hp ([]++opE Xj.1 0 5 (Xe.map Xb)),1⟩ μ),
  X2 Tryz.prog 29 0 Q (.loop (X2v 0 (Xh Tryz.f40))) [] ⟨fr [(0,(Lf (X00.map Xb))),(1,(aI .i64 X1s)),(5,(slE Xy.1 0 (Xf.map Xb))),(6,(aI .i64 (k:Int)))],hp ([]++opE Xy.1 0 5 (Xf.map Xb)),1⟩ μ:=by
 intro xs
 induction xs with
 |nil =>
  intro k hx Xf Xy o h C0
  have hk:=drop_nil hx
  have hc:decide ((k:Int)<(X00.length:Int))=false:=Yf (by omega)
  rw[X3v] at h
  rcases Xy with ⟨_|_,X1b⟩
  ·
   refine X2.round ?_
   revert h
   exact fun e=>X9 [.el (aI .i64 (X00.length:Int)),Bf] (k:=wkT [] (C0 _  nbF (oj e).symm))
  ·
   obtain rfl:=X1b rfl
   refine X2.round ?_
   revert h
   exact fun e=>X9 [.el (aI .i64 (X00.length:Int)),Bf] (k:=wkT [] (C0 _  nbS (oj e).symm))
 |cons x xs ih =>
  intro k hx Xf Xy o h C0
  obtain⟨hk,hg,hx1⟩:=drop_cons hx
  have hc:decide ((k:Int)<(X00.length:Int))=true:=Yt (by omega)
  rw[X3v] at h
  rcases Xy with ⟨_|_,X1b⟩
  ·
   refine X2.round ?_
   revert h
   refine bI fun Xs0 h43=>rnI [.el (aI .i64 (X00.length:Int)),Bt,.el (Xb x)] ?_
   intro h
   refine X2.joinF (fun(q:Nb Xs0)=>⟨fr [(0,(Lf (X00.map Xb))),(1,(aI .i64 X1s)),(5,(slE q.1 0 (Xs0.map Xb))),(6,(aI .i64 (k:Int)))],hp ([]++opE q.1 0 5 (Xs0.map Xb)),1⟩) ?_ (fun J=>X2.cut ?_)
   ·
    rintro X012
    rcases X012 with ⟨_|_,X02i⟩
    ·
     exact X9 [] (k:=wkT [] (ih (k+1) hx1 _ nbF o h C0))
    obtain rfl:=X02i rfl
    exact X9 [] (k:=wkT [] (ih (k+1) hx1 _ nbS o h C0))
   clear h;revert h43
   refine brI (fun h40=>?_) fun h40=>?_
   ·
    refine bI fun u41 h42=>?_
    intro h
    obtain rfl:=oj h
    exact X9 [Bt,.el (Xb x),.no] (o:=by repeat' first|apply Ya|exact pcM|(refine X0a h42 rfl ?_;first|(simp;done)|(simp;omega)|(simp[hc,h40];done)|(simp[hc,h40];omega))|(refine Xs h42 (by decide) ?_;first|(simp;done)|(simp;omega)|(simp[hc,h40];done)|(simp[hc,h40];omega))|exact X0k) (k:=wkT [(0,2)] (X2.glue (J nbF)))
   intro h
   obtain rfl:=oj h
   exact X9 [Bf] (k:=wkT [] (X2.glue (J nbF)))
  obtain rfl:=X1b rfl
  refine X2.round ?_
  revert h
  refine bI fun X01r h51=>rnI [.el (aI .i64 (X00.length:Int)),Bt,.el (Xb x)] ?_
  intro h
  refine X2.joinF (fun(q:Nb X01r)=>⟨fr [(0,(Lf (X00.map Xb))),(1,(aI .i64 X1s)),(5,(slE q.1 0 (X01r.map Xb))),(6,(aI .i64 (k:Int)))],hp ([]++opE q.1 0 5 (X01r.map Xb)),1⟩) ?_ (fun J=>X2.cut ?_)
  ·
   rintro X010
   rcases X010 with ⟨_|_,X02g⟩
   ·
    exact X9 [] (k:=wkT [] (ih (k+1) hx1 _ nbF o h C0))
   obtain rfl:=X02g rfl
   exact X9 [] (k:=wkT [] (ih (k+1) hx1 _ nbS o h C0))
  clear h;revert h51
  refine brI (fun h48=>?_) fun h48=>?_
  ·
   refine bI fun u49 h50=>?_
   intro h
   obtain rfl:=oj h
   exact X9 [Bt,.el (Xb x),.no] (o:=by repeat' first|apply Ya|exact pcM|(refine X0a h50 rfl ?_;first|(simp;done)|(simp;omega)|(simp[hc,h48];done)|(simp[hc,h48];omega))|(refine Xs h50 (by decide) ?_;first|(simp;done)|(simp;omega)|(simp[hc,h48];done)|(simp[hc,h48];omega))|exact X0k) (k:=wkT [(0,2)] (X2.glue (J nbF)))
  intro h
  obtain rfl:=oj h
  exact X9 [Bf] (k:=wkT [] (X2.glue (J nbS)))
instance X03u:PCs Tryz.prog 40 (∀ (a0:(List X0t)) (a1:Int) (r:(List X0t)),Xbc a0 a1=some r->X0g Tryz.prog 40 [(Lf (a0.map Xb)),(aI .i64 a1)] (AV.list true (r.map Xb))):=⟨fun a0 a1 r h=>by
 refine X0g.sym Xa fn40 (nt:=29) rfl rfl ?_ okM
 unfold Xbc at h
 revert h
 refine bI fun u1 h2=>?_
 have qh2:=X08 h2
 refine bI fun o52 h53=>rnI [] ?_
 intro h
 refine wkT [] (X2.cut (Xj6 a0 a1 qh2 a0 0 (by simp) _ nbS _ h53 ?_))
 intro Xe Xj eo52;subst eo52
 refine X2.glue ?_
 try dsimp only at h
 rcases Xj with ⟨_|_,X0n⟩
 ·
  revert h
  exact fun e=>oj e▸X9 [] (k:=fi)
 obtain rfl:=X0n rfl
 revert h
 exact fun e=>oj e▸X9 [] (k:=fi)⟩
instance X075:PCs Tryz.prog 69 (∀ (a0:X0t) (r:(List Int)),Xi0 a0=some r->X0g Tryz.prog 69 [(Xb a0)] (AV.list true (List.map (aI .i64) r))):=⟨fun a0 r h=>by
 refine X0g.sym Xa fn69 (nt:=18) rfl rfl ?_ okM
 unfold Xi0 at h
 revert h
 exact fun e=>oj e▸X9 [.ix 0,.ix 1] (k:=fi)⟩
theorem Xi1 {Q:X02->St->Mu->Prop} {μ:Mu} (X00:(List X0t)) (hl:X00.length<=140737488355328):∀ (xs:List X0t) (k:Nat) (hx:X00.drop k=xs) (Xf:(List (List Int))) (Xy:Nb Xf) (o:X9d) (h:X3e X00 xs k Xf=some o)
  (C0:∀ (Xe:(List (List Int))) (Xj:Nb Xe),o=X9d.x0 Xe->X2 Tryz.prog 43 0 Q (.exit (.exit 0)) [] ⟨fr [(0,(Lf (X00.map Xb))),(3,(slE Xj.1 0 (List.map (X56 true (aI .i64)) Xe)))],hp ([]++opE Xj.1 0 1 (List.map (X56 true (aI .i64)) Xe)),1⟩ μ),
  X2 Tryz.prog 43 0 Q (.loop (X2v 0 (Xh Tryz.f39))) [] ⟨fr [(0,(Lf (X00.map Xb))),(3,(slE Xy.1 0 (List.map (X56 true (aI .i64)) Xf))),(4,(aI .i64 (k:Int)))],hp ([]++opE Xy.1 0 1 (List.map (X56 true (aI .i64)) Xf)),1⟩ μ:=by
 intro xs
 induction xs with
 |nil =>
  intro k hx Xf Xy o h C0
  have hk:=drop_nil hx
  have hc:decide ((k:Int)<(X00.length:Int))=false:=Yf (by omega)
  rw[X3e] at h
  rcases Xy with ⟨_|_,X1b⟩
  ·
   refine X2.round ?_
   revert h
   exact fun e=>X9 [.el (aI .i64 (X00.length:Int)),Bf] (k:=wkT [] (C0 _  nbF (oj e).symm))
  ·
   obtain rfl:=X1b rfl
   refine X2.round ?_
   revert h
   exact fun e=>X9 [.el (aI .i64 (X00.length:Int)),Bf] (k:=wkT [] (C0 _  nbS (oj e).symm))
 |cons x xs ih =>
  intro k hx Xf Xy o h C0
  obtain⟨hk,hg,hx1⟩:=drop_cons hx
  have hc:decide ((k:Int)<(X00.length:Int))=true:=Yt (by omega)
  rw[X3e] at h
  rcases Xy with ⟨_|_,X1b⟩
  ·
   refine X2.round ?_
   revert h
   refine bI fun v20 h21=>bI fun u22 h23=>rnI [.el (aI .i64 (X00.length:Int)),Bt,.el (Xb x),.pure _ (AV.list true (List.map (aI .i64) v20)),.no] (o:=by repeat' first|apply Ya|exact pcM|(refine X0a h23 rfl ?_;first|(simp;done)|(simp;omega)|(simp[hc];done)|(simp[hc];omega))|(refine Xs h23 (by decide) ?_;first|(simp;done)|(simp;omega)|(simp[hc];done)|(simp[hc];omega))|exact X0k) ?_
   intro h
   exact wkT [(0,2)] (ih (k+1) hx1 _ nbF o h C0)
  obtain rfl:=X1b rfl
  refine X2.round ?_
  revert h
  refine bI fun v24 h25=>bI fun u26 h27=>rnI [.el (aI .i64 (X00.length:Int)),Bt,.el (Xb x),.pure _ (AV.list true (List.map (aI .i64) v24)),.no] (o:=by repeat' first|apply Ya|exact pcM|(refine X0a h27 rfl ?_;first|(simp;done)|(simp;omega)|(simp[hc];done)|(simp[hc];omega))|(refine Xs h27 (by decide) ?_;first|(simp;done)|(simp;omega)|(simp[hc];done)|(simp[hc];omega))|exact X0k) ?_
  intro h
  exact wkT [(0,2)] (ih (k+1) hx1 _ nbF o h C0)
theorem Xcd {Q:X02->St->Mu->Prop} {μ:Mu} (Xky:(List X0t)) (Xiv:(List Int)) (hl:Xiv.length<=140737488355328):∀ (xs:List Int) (k:Nat) (hx:Xiv.drop k=xs) (X1m:(List X0t)) (X6q:Nb X1m) (o:X9c) (h:X3d Xky Xiv xs k X1m=some o)
  (C0:∀ (X5e:(List X0t)) (X43:Nb X5e),o=X9c.x0 X5e->X2 Tryz.prog 43 0 Q (.exit (.exit 2)) [] ⟨fr [(6,(slE X43.1 0 (X5e.map Xb)))],hp ([]++opE X43.1 0 5 (X5e.map Xb)),1⟩ μ),
  X2 Tryz.prog 43 0 Q (.loop (X2v 1 (Xh Tryz.f39))) [] ⟨fr [(0,(Lf (Xky.map Xb))),(5,(AV.list true (List.map (aI .i64) Xiv))),(6,(slE X6q.1 0 (X1m.map Xb))),(7,(aI .i64 (k:Int)))],hp ([]++opE X6q.1 0 5 (X1m.map Xb)),1⟩ μ:=by
 intro xs
 induction xs with
 |nil =>
  intro k hx X1m X6q o h C0
  have hk:=drop_nil hx
  have hc:decide ((k:Int)<(Xiv.length:Int))=false:=Yf (by omega)
  rw[X3d] at h
  rcases X6q with ⟨_|_,Xec⟩
  ·
   refine X2.round ?_
   revert h
   exact fun e=>X9 [.el (aI .i64 (Xiv.length:Int)),Bf] (k:=wkT [] (C0 _  nbF (oj e).symm))
  ·
   obtain rfl:=Xec rfl
   refine X2.round ?_
   revert h
   exact fun e=>X9 [.el (aI .i64 (Xiv.length:Int)),Bf] (k:=wkT [] (C0 _  nbS (oj e).symm))
 |cons x xs ih =>
  intro k hx X1m X6q o h C0
  obtain⟨hk,hg,hx1⟩:=drop_cons hx
  have hc:decide ((k:Int)<(Xiv.length:Int))=true:=Yt (by omega)
  rw[X3d] at h
  rcases X6q with ⟨_|_,Xec⟩
  ·
   refine X2.round ?_
   revert h
   refine bI fun e51 h52=>?_
   try have qh52:=Xn h52
   refine bI fun u53 h54=>rnI [.el (aI .i64 (Xiv.length:Int)),Bt,.el (aI .i64 x),.el (Xb e51),.no] (o:=by repeat' first|apply Ya|exact pcM|(refine X0a h54 rfl ?_;first|(simp;done)|(simp;omega)|(simp[hc];done)|(simp[hc];omega))|(refine Xs h54 (by decide) ?_;first|(simp;done)|(simp;omega)|(simp[hc];done)|(simp[hc];omega))|exact X0k) ?_
   intro h
   exact wkT [(0,2)] (ih (k+1) hx1 _ nbF o h C0)
  obtain rfl:=Xec rfl
  refine X2.round ?_
  revert h
  refine bI fun e55 h56=>?_
  try have qh56:=Xn h56
  refine bI fun u57 h58=>rnI [.el (aI .i64 (Xiv.length:Int)),Bt,.el (aI .i64 x),.el (Xb e55),.no] (o:=by repeat' first|apply Ya|exact pcM|(refine X0a h58 rfl ?_;first|(simp;done)|(simp;omega)|(simp[hc];done)|(simp[hc];omega))|(refine Xs h58 (by decide) ?_;first|(simp;done)|(simp;omega)|(simp[hc];done)|(simp[hc];omega))|exact X0k) ?_
  intro h
  exact wkT [(0,2)] (ih (k+1) hx1 _ nbF o h C0)
instance X00d:PCs Tryz.prog 39 (∀ (a0:(List X0t)) (r:(List X0t)),Xa4 a0=some r->X0g Tryz.prog 39 [(Lf (a0.map Xb))] (AV.list true (r.map Xb))):=⟨fun a0 r h=>by
 refine X0g.sym Xa fn39 (nt:=43) rfl rfl ?_ okM
 unfold Xa4 at h
 revert h
 refine bI fun u1 h2=>?_
 have qh2:=X08 h2
 refine bI fun o28 h29=>rnI [] ?_
 intro h
 refine wkT [] (X2.cut (Xi1 a0 qh2 a0 0 (by simp) _ nbS _ h29 ?_))
 intro Xe Xj eo28;subst eo28
 refine X2.glue ?_
 try dsimp only at h
 rcases Xj with ⟨_|_,X0n⟩
 ·
  revert h
  refine bI fun v30 h31=>bI fun u32 h33=>?_
  have qh33:=X08 h33
  refine bI fun o59 h60=>rnI [.el (aI .i64 (Xe.length:Int)),.pure [(Lf (List.map (X56 false (aI .i64)) Xe)),(aI .i64 0),(aI .i64 (Xe.length:Int))] (AV.list true (List.map (aI .i64) v30))] (o:=by repeat' first|apply Ya|exact pcM|exact(X5s.lent (X9t FU _ _ _ _ h31) (cc (X031 (f:=(X56 true (aI .i64))) (g:=(X56 false (aI .i64))) (l:=Xe) rfl (by first|rfl|(simp;done)|(simp;rfl)|(simp[];done)|(simp[];rfl)) (by first|rfl|(simp;done)|(simp;omega)|(simp[];done)|(simp[];omega)) (fun _=>rfl) (fun x=>Xeh (X5q (X1x (fun _=>Xcm) _)))) (cc .sc (cc (Xoq (by first|rfl|(simp[*];done))) cn))) (Xlw (X1x (fun _=>Xcm) _)))|exact X0k) ?_
  intro h
  refine wkT [] (X2.cut (Xcd a0 v30 qh33 v30 0 (by simp) _ nbS _ h60 ?_))
  intro X5e X43 eo59;subst eo59
  refine X2.glue ?_
  try dsimp only at h
  rcases X43 with ⟨_|_,X9o⟩
  ·
   revert h
   exact fun e=>oj e▸X9 [] (k:=fi)
  obtain rfl:=X9o rfl
  revert h
  exact fun e=>oj e▸X9 [] (k:=fi)
 obtain rfl:=X0n rfl
 revert h
 refine bI fun v61 h62=>bI fun u63 h64=>?_
 have qh64:=X08 h64
 refine bI fun o82 h83=>rnI [.el (aI .i64 (List.length ([]:List (List Int)):Int)),.pure [(Lf (List.map (X56 false (aI .i64)) ([]:List (List Int)))),(aI .i64 0),(aI .i64 (List.length ([]:List (List Int)):Int))] (AV.list true (List.map (aI .i64) v61))] (o:=by repeat' first|apply Ya|exact pcM|exact(pn (X9t FU _ _ _ _ h62) (cc (X032 (by simp)) (cc .sc (cc (Xoq (by first|rfl|(simp[*];done))) cn))))|exact X0k) ?_
 intro h
 refine wkT [] (X2.cut (Xcd a0 v61 qh64 v61 0 (by simp) _ nbS _ h83 ?_))
 intro X5e X43 eo82;subst eo82
 refine X2.glue ?_
 try dsimp only at h
 rcases X43 with ⟨_|_,X9o⟩
 ·
  revert h
  exact fun e=>oj e▸X9 [] (k:=fi)
 obtain rfl:=X9o rfl
 revert h
 exact fun e=>oj e▸X9 [] (k:=fi)⟩
instance X00b:PCs Tryz.prog 13 (∀ (a0:Xu) (a1:(List (List Xk))) (a2:Int) (r:X2c×Int),X6g a0 a1 a2=some r->X0g Tryz.prog 13 [(Xm false a0),(Lf (List.map (X56 false Xd) a1)),(aI .i64 a2)] (AV.tup [(X14 true r.1),(aI .i64 r.2)])):=⟨fun a0 a1 a2 r h=>by
 refine X0g.sym Xa fn13 (nt:=35) rfl rfl ?_ okM
 unfold X6g at h
 revert h
 exact bI fun v1 h2=>brI (fun h3=>fun e=>oj e▸X9 [.pure _ (AV.tup [(AV.list true (v1.1.map Xb)),(AV.list true (v1.2.1.map X0)),(aI .i64 v1.2.2)]),Bt] (k:=fi)) fun h3=>bI fun v4 h5=>bI fun v6 h7=>bI fun v8 h9=>fun e=>oj e▸X9 [.pure _ (AV.tup [(AV.list true (v1.1.map Xb)),(AV.list true (v1.2.1.map X0)),(aI .i64 v1.2.2)]),Bf,.pure _ (AV.tup [(AV.list true (v4.1.map X0)),(aI .i64 v4.2)]),.pure _ (AV.list true (v6.map Xb)),.pure _ (AV.list true (v8.map Xb))] (k:=fi)⟩
end Go.Av.Tryz