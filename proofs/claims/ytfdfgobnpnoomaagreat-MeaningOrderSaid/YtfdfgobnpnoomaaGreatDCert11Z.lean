/- Printed by decomp.py: that the program computes the functions. -/
import Derived.Test.YtfdfgobnpnoomaaGreatDCert10Z
set_option linter.all false

namespace Go.Av.Tryz
open Go.Proofs Go.D
set_option maxRecDepth 10000
set_option maxHeartbeats 40000000
theorem Xe6 {Q:Xy->St->Mu->Prop} {μ:Mu} (X0i:(List Xw)) (hl:X0i.length<=140737488355328):∀ (xs:List Xw) (k:Nat) (hx:X0i.drop k=xs) (Xm:(List Int)) (Xh:(List Int)) (X0x:Nb Xm) (Xs:Nb Xh) (o:X44) (h:X1b X0i xs k Xm Xh=some o)
  (C0:∀ (Xr:(List Int)) (X0d:(List Int)) (X03:Nb Xr) (X0f:Nb X0d),o=X44.x0 Xr X0d->X2 Tryz.prog 102 0 Q (.exit (.exit 0)) [] ⟨fr [(0,(Lf (X0i.map X1))),(5,(slE X03.1 0 (List.map (aI .i64) Xr))),(6,(slE X0f.1 1 (List.map (aI .i64) X0d)))],hp ([]++opE X03.1 0 1 (List.map (aI .i64) Xr)++opE X0f.1 1 1 (List.map (aI .i64) X0d)),2⟩ μ)
  (C1:∀ (X04:(List Int)) (X4n:(List Int)) (X02:Nb X04) (X3t:Nb X4n),o=X44.x1 X04 X4n->X2 Tryz.prog 102 0 Q (.exit .ret) [] ⟨fr [(2,(slE X02.1 0 (List.map (aI .i64) X04))),(3,(slE X3t.1 1 (List.map (aI .i64) X4n))),(4,(aB false))],hp ([]++opE X02.1 0 1 (List.map (aI .i64) X04)++opE X3t.1 1 1 (List.map (aI .i64) X4n)),2⟩ μ),
  X2 Tryz.prog 102 0 Q (.loop (X4k 0 (Xl Tryz.f128))) [] ⟨fr [(0,(Lf (X0i.map X1))),(5,(slE X0x.1 0 (List.map (aI .i64) Xm))),(6,(slE Xs.1 1 (List.map (aI .i64) Xh))),(7,(aI .i64 (k:Int)))],hp ([]++opE X0x.1 0 1 (List.map (aI .i64) Xm)++opE Xs.1 1 1 (List.map (aI .i64) Xh)),2⟩ μ:=by
 intro xs
 induction xs with
 |nil =>
  intro k hx Xm Xh X0x Xs o h C0 C1
  have hk:=X18 hx
  have hc:decide ((k:Int)<(X0i.length:Int))=false:=Yf (by omega)
  rw[X1b] at h
  rcases X0x with ⟨_|_,X3a⟩
  ·
   rcases Xs with ⟨_|_,X07⟩
   ·
    refine X2.round ?_
    revert h
    exact fun e=>X8 [.el (aI .i64 (X0i.length:Int)),Bf] (k:=wkT [] (C0 _ _  nbF nbF (oj e).symm))
   obtain rfl:=X07 rfl
   refine X2.round ?_
   revert h
   exact fun e=>X8 [.el (aI .i64 (X0i.length:Int)),Bf] (k:=wkT [] (C0 _ _  nbF nbS (oj e).symm))
  ·
   obtain rfl:=X3a rfl
   rcases Xs with ⟨_|_,X07⟩
   ·
    refine X2.round ?_
    revert h
    exact fun e=>X8 [.el (aI .i64 (X0i.length:Int)),Bf] (k:=wkT [] (C0 _ _  nbS nbF (oj e).symm))
   ·
    obtain rfl:=X07 rfl
    refine X2.round ?_
    revert h
    exact fun e=>X8 [.el (aI .i64 (X0i.length:Int)),Bf] (k:=wkT [] (C0 _ _  nbS nbS (oj e).symm))
 |cons x xs ih =>
  intro k hx Xm Xh X0x Xs o h C0 C1
  obtain⟨hk,hg,hx1⟩:=X0r hx
  have hc:decide ((k:Int)<(X0i.length:Int))=true:=Yt (by omega)
  rw[X1b] at h
  rcases X0x with ⟨_|_,X3a⟩
  ·
   rcases Xs with ⟨_|_,X07⟩
   ·
    refine X2.round ?_
    revert h
    refine bI fun v156 h157=>brI (fun h158=>?_) fun h158=>?_
    ·
     refine brI (fun h159=>fun e=>X8 [.el (aI .i64 (X0i.length:Int)),Bt,.el (X1 x),.pure _ (aI .i64 v156),Bt,.wrap,Bt] (k:=wkT [] (C1 _ _  nbS nbS (oj e).symm))) fun h159=>bI fun e160 h161=>?_
     try have qh161:=Xp h161
     refine bI fun e162 h163=>?_
     try have qh163:=Xp h163
     refine rnI [.el (aI .i64 (X0i.length:Int)),Bt,.el (X1 x),.pure _ (aI .i64 v156),Bt,.wrap,Bf,.el (aI .i64 e160),.ld (aI .i64 e160),.wrap,.el (aI .i64 e160),.ld (aI .i64 e160),.wrap,.el (aI .i64 e162),.ld (aI .i64 e162),.wrap] ?_
     refine brI (fun h164=>?_) fun h164=>?_
     ·
      refine brI (fun h165=>fun e=>X8 [Bt,Bt] (k:=wkT [] (C1 _ _  nbS nbS (oj e).symm))) fun h165=>bI fun e166 h167=>?_
      try have qh167:=Xp h167
      refine bI fun e168 h169=>?_
      try have qh169:=Xp h169
      refine bI fun v170 h171=>rnI [Bt,Bf,.el (aI .i64 e166),.ld (aI .i64 e166),.wrap,.el (aI .i64 e168),.ld (aI .i64 e168),.wrap,.el (X1 x),.pure _ (aB v170)] ?_
      refine brI (fun h172=>fun e=>X8 [Bt] (k:=wkT [] (C1 _ _  nbS nbS (oj e).symm))) fun h172=>?_
      refine bI fun u173 h174=>bI fun u175 h176=>rnI [Bf,.no,.no] (o:=by repeat' first|apply Ya|exact pcM|(refine X0s h174 rfl ?_;first|(simp;done)|(simp;omega)|(simp[hc,h158,h159,h164,h165,h172];done)|(simp[hc,h158,h159,h164,h165,h172];omega))|(refine X01 h174 (by decide) ?_;first|(simp;done)|(simp;omega)|(simp[hc,h158,h159,h164,h165,h172];done)|(simp[hc,h158,h159,h164,h165,h172];omega))|(refine X0s h176 rfl ?_;first|(simp;done)|(simp;omega)|(simp[hc,h158,h159,h164,h165,h172];done)|(simp[hc,h158,h159,h164,h165,h172];omega))|(refine X01 h176 (by decide) ?_;first|(simp;done)|(simp;omega)|(simp[hc,h158,h159,h164,h165,h172];done)|(simp[hc,h158,h159,h164,h165,h172];omega))|exact X08) ?_
      intro h
      exact wkT [(0,3),(1,5)] (ih (k+1) hx1 _ _ nbF nbF o h C0 C1)
     refine bI fun v177 h178=>brI (fun h179=>fun e=>X8 [Bf,.el (X1 x),.pure _ (aB v177),Bt] (k:=wkT [] (C1 _ _  nbS nbS (oj e).symm))) fun h179=>?_
     refine bI fun u180 h181=>bI fun u182 h183=>rnI [Bf,.el (X1 x),.pure _ (aB v177),Bf,.no,.no] (o:=by repeat' first|apply Ya|exact pcM|(refine X0s h181 rfl ?_;first|(simp;done)|(simp;omega)|(simp[hc,h158,h159,h164,h179];done)|(simp[hc,h158,h159,h164,h179];omega))|(refine X01 h181 (by decide) ?_;first|(simp;done)|(simp;omega)|(simp[hc,h158,h159,h164,h179];done)|(simp[hc,h158,h159,h164,h179];omega))|(refine X0s h183 rfl ?_;first|(simp;done)|(simp;omega)|(simp[hc,h158,h159,h164,h179];done)|(simp[hc,h158,h159,h164,h179];omega))|(refine X01 h183 (by decide) ?_;first|(simp;done)|(simp;omega)|(simp[hc,h158,h159,h164,h179];done)|(simp[hc,h158,h159,h164,h179];omega))|exact X08) ?_
     intro h
     exact wkT [(0,3),(1,5)] (ih (k+1) hx1 _ _ nbF nbF o h C0 C1)
    refine bI fun v184 h185=>brI (fun h186=>fun e=>X8 [.el (aI .i64 (X0i.length:Int)),Bt,.el (X1 x),.pure _ (aI .i64 v156),Bf,.el (X1 x),.pure _ (aB v184),Bt] (k:=wkT [] (C1 _ _  nbS nbS (oj e).symm))) fun h186=>?_
    refine bI fun u187 h188=>bI fun u189 h190=>rnI [.el (aI .i64 (X0i.length:Int)),Bt,.el (X1 x),.pure _ (aI .i64 v156),Bf,.el (X1 x),.pure _ (aB v184),Bf,.no,.no] (o:=by repeat' first|apply Ya|exact pcM|(refine X0s h188 rfl ?_;first|(simp;done)|(simp;omega)|(simp[hc,h158,h186];done)|(simp[hc,h158,h186];omega))|(refine X01 h188 (by decide) ?_;first|(simp;done)|(simp;omega)|(simp[hc,h158,h186];done)|(simp[hc,h158,h186];omega))|(refine X0s h190 rfl ?_;first|(simp;done)|(simp;omega)|(simp[hc,h158,h186];done)|(simp[hc,h158,h186];omega))|(refine X01 h190 (by decide) ?_;first|(simp;done)|(simp;omega)|(simp[hc,h158,h186];done)|(simp[hc,h158,h186];omega))|exact X08) ?_
    intro h
    exact wkT [(0,3),(1,5)] (ih (k+1) hx1 _ _ nbF nbF o h C0 C1)
   obtain rfl:=X07 rfl
   refine X2.round ?_
   revert h
   refine bI fun v191 h192=>brI (fun h193=>?_) fun h193=>?_
   ·
    refine brI (fun h194=>fun e=>X8 [.el (aI .i64 (X0i.length:Int)),Bt,.el (X1 x),.pure _ (aI .i64 v191),Bt,.wrap,Bt] (k:=wkT [] (C1 _ _  nbS nbS (oj e).symm))) fun h194=>bI fun e195 h196=>?_
    try have qh196:=Xp h196
    refine bI fun e197 h198=>?_
    try have qh198:=Xp h198
    intro h
    exact absurd (h198) (by simp[X1w])
   refine bI fun v199 h200=>brI (fun h201=>fun e=>X8 [.el (aI .i64 (X0i.length:Int)),Bt,.el (X1 x),.pure _ (aI .i64 v191),Bf,.el (X1 x),.pure _ (aB v199),Bt] (k:=wkT [] (C1 _ _  nbS nbS (oj e).symm))) fun h201=>?_
   refine bI fun u202 h203=>bI fun u204 h205=>rnI [.el (aI .i64 (X0i.length:Int)),Bt,.el (X1 x),.pure _ (aI .i64 v191),Bf,.el (X1 x),.pure _ (aB v199),Bf,.no,.no] (o:=by repeat' first|apply Ya|exact pcM|(refine X0s h203 rfl ?_;first|(simp;done)|(simp;omega)|(simp[hc,h193,h201];done)|(simp[hc,h193,h201];omega))|(refine X01 h203 (by decide) ?_;first|(simp;done)|(simp;omega)|(simp[hc,h193,h201];done)|(simp[hc,h193,h201];omega))|(refine X0s h205 rfl ?_;first|(simp;done)|(simp;omega)|(simp[hc,h193,h201];done)|(simp[hc,h193,h201];omega))|(refine X01 h205 (by decide) ?_;first|(simp;done)|(simp;omega)|(simp[hc,h193,h201];done)|(simp[hc,h193,h201];omega))|exact X08) ?_
   intro h
   exact wkT [(0,3),(1,5)] (ih (k+1) hx1 _ _ nbF nbF o h C0 C1)
  obtain rfl:=X3a rfl
  rcases Xs with ⟨_|_,X07⟩
  ·
   refine X2.round ?_
   revert h
   refine bI fun v206 h207=>brI (fun h208=>?_) fun h208=>?_
   ·
    refine brI (fun h209=>fun e=>X8 [.el (aI .i64 (X0i.length:Int)),Bt,.el (X1 x),.pure _ (aI .i64 v206),Bt,.wrap,Bt] (k:=wkT [] (C1 _ _  nbS nbS (oj e).symm))) fun h209=>bI fun e210 h211=>?_
    try have qh211:=Xp h211
    intro h
    exact absurd (h211) (by simp[X1w])
   refine bI fun v212 h213=>brI (fun h214=>fun e=>X8 [.el (aI .i64 (X0i.length:Int)),Bt,.el (X1 x),.pure _ (aI .i64 v206),Bf,.el (X1 x),.pure _ (aB v212),Bt] (k:=wkT [] (C1 _ _  nbS nbS (oj e).symm))) fun h214=>?_
   refine bI fun u215 h216=>bI fun u217 h218=>rnI [.el (aI .i64 (X0i.length:Int)),Bt,.el (X1 x),.pure _ (aI .i64 v206),Bf,.el (X1 x),.pure _ (aB v212),Bf,.no,.no] (o:=by repeat' first|apply Ya|exact pcM|(refine X0s h216 rfl ?_;first|(simp;done)|(simp;omega)|(simp[hc,h208,h214];done)|(simp[hc,h208,h214];omega))|(refine X01 h216 (by decide) ?_;first|(simp;done)|(simp;omega)|(simp[hc,h208,h214];done)|(simp[hc,h208,h214];omega))|(refine X0s h218 rfl ?_;first|(simp;done)|(simp;omega)|(simp[hc,h208,h214];done)|(simp[hc,h208,h214];omega))|(refine X01 h218 (by decide) ?_;first|(simp;done)|(simp;omega)|(simp[hc,h208,h214];done)|(simp[hc,h208,h214];omega))|exact X08) ?_
   intro h
   exact wkT [(0,3),(1,5)] (ih (k+1) hx1 _ _ nbF nbF o h C0 C1)
  obtain rfl:=X07 rfl
  refine X2.round ?_
  revert h
  refine bI fun v219 h220=>brI (fun h221=>?_) fun h221=>?_
  ·
   refine brI (fun h222=>fun e=>X8 [.el (aI .i64 (X0i.length:Int)),Bt,.el (X1 x),.pure _ (aI .i64 v219),Bt,.wrap,Bt] (k:=wkT [] (C1 _ _  nbS nbS (oj e).symm))) fun h222=>bI fun e223 h224=>?_
   try have qh224:=Xp h224
   intro h
   exact absurd (h224) (by simp[X1w])
  refine bI fun v225 h226=>brI (fun h227=>fun e=>X8 [.el (aI .i64 (X0i.length:Int)),Bt,.el (X1 x),.pure _ (aI .i64 v219),Bf,.el (X1 x),.pure _ (aB v225),Bt] (k:=wkT [] (C1 _ _  nbS nbS (oj e).symm))) fun h227=>?_
  refine bI fun u228 h229=>bI fun u230 h231=>rnI [.el (aI .i64 (X0i.length:Int)),Bt,.el (X1 x),.pure _ (aI .i64 v219),Bf,.el (X1 x),.pure _ (aB v225),Bf,.no,.no] (o:=by repeat' first|apply Ya|exact pcM|(refine X0s h229 rfl ?_;first|(simp;done)|(simp;omega)|(simp[hc,h221,h227];done)|(simp[hc,h221,h227];omega))|(refine X01 h229 (by decide) ?_;first|(simp;done)|(simp;omega)|(simp[hc,h221,h227];done)|(simp[hc,h221,h227];omega))|(refine X0s h231 rfl ?_;first|(simp;done)|(simp;omega)|(simp[hc,h221,h227];done)|(simp[hc,h221,h227];omega))|(refine X01 h231 (by decide) ?_;first|(simp;done)|(simp;omega)|(simp[hc,h221,h227];done)|(simp[hc,h221,h227];omega))|exact X08) ?_
  intro h
  exact wkT [(0,3),(1,5)] (ih (k+1) hx1 _ _ nbF nbF o h C0 C1)
instance Xw8:PCs Tryz.prog 128 (∀ (a0:(List Xw)) (r:(List Int)×(List Int)×Bool),Xaj a0=some r->X0o Tryz.prog 128 [(Lf (a0.map X1))] (AV.tup [(AV.list true (List.map (aI .i64) r.1)),(AV.list true (List.map (aI .i64) r.2.1)),(aB r.2.2)])):=⟨fun a0 r h=>by
 refine X0o.sym X9 X05k (nt:=102) rfl rfl ?_ okM
 unfold Xaj at h
 revert h
 refine bI fun u1 h2=>?_
 have qh2:=X09 h2
 refine bI fun o232 h233=>rnI [] ?_
 intro h
 refine wkT [] (X2.cut (Xe6 a0 qh2 a0 0 (by simp) _ _ nbS nbS _ h233 ?_ ?_))
 ·
  intro Xr X0d X03 X0f eo232;subst eo232
  refine X2.glue ?_
  try dsimp only at h
  rcases X03 with ⟨_|_,X2e⟩
  ·
   rcases X0f with ⟨_|_,X2d⟩
   ·
    revert h
    refine bI fun Xud h241=>rnI [.stop 25] ?_
    intro h
    refine X2.join (s':=⟨fr [(2,(AV.ref 0 0 (Xr.length))),(3,(AV.ref 1 0 (X0d.length))),(4,(aB Xud))],hp ([(0,Ob (List.map (aI .i64) Xr) 1),(1,Ob (List.map (aI .i64) X0d) 1)]),2⟩) ?_ (fun J=>X2.cut ?_)
    ·
     revert h
     exact fun e=>oj e▸X8 [] (k:=fi)
    clear h;revert h241
    refine brI (fun h238=>?_) fun h238=>?_
    ·
     refine bI fun e239 h240=>?_
     try have qh240:=Xp h240
     intro h
     obtain rfl:=oj h
     exact X8 [.el (aI .i64 (a0.length:Int)),.go true,.go true,.go true,.el (aI .i64 (a0.length:Int)),.go true,.wrap,.go true,.el (aI .i64 e239),.go true,.ld (aI .i64 e239),.go true,.go true,.el (aI .i64 (a0.length:Int)),.go true] (k:=wkT [] (X2.glue J))
    intro h
    obtain rfl:=oj h
    exact X8 [.el (aI .i64 (a0.length:Int)),.go false,.go false,.go false,.go false,.go false,.go false,.go false,.go false,.go false,.go false] (k:=wkT [] (X2.glue J))
   obtain rfl:=X2d rfl
   revert h
   refine bI fun X03d h249=>rnI [.stop 25] ?_
   intro h
   refine X2.join (s':=⟨fr [(2,(AV.ref 0 0 (Xr.length))),(3,AV.nils),(4,(aB X03d))],hp ([(0,Ob (List.map (aI .i64) Xr) 1)]),2⟩) ?_ (fun J=>X2.cut ?_)
   ·
    revert h
    exact fun e=>oj e▸X8 [] (k:=fi)
   clear h;revert h249
   refine brI (fun h246=>?_) fun h246=>?_
   ·
    refine bI fun e247 h248=>?_
    try have qh248:=Xp h248
    intro h
    obtain rfl:=oj h
    exact X8 [.el (aI .i64 (a0.length:Int)),.go true,.go true,.go true,.el (aI .i64 (a0.length:Int)),.go true,.wrap,.go true,.el (aI .i64 e247),.go true,.ld (aI .i64 e247),.go true,.go true,.el (aI .i64 (a0.length:Int)),.go true] (k:=wkT [] (X2.glue J))
   intro h
   obtain rfl:=oj h
   exact X8 [.el (aI .i64 (a0.length:Int)),.go false,.go false,.go false,.go false,.go false,.go false,.go false,.go false,.go false,.go false] (k:=wkT [] (X2.glue J))
  obtain rfl:=X2e rfl
  rcases X0f with ⟨_|_,X2d⟩
  ·
   revert h
   refine bI fun X03c h257=>rnI [.stop 25] ?_
   intro h
   refine X2.join (s':=⟨fr [(2,AV.nils),(3,(AV.ref 1 0 (X0d.length))),(4,(aB X03c))],hp ([(1,Ob (List.map (aI .i64) X0d) 1)]),2⟩) ?_ (fun J=>X2.cut ?_)
   ·
    revert h
    exact fun e=>oj e▸X8 [] (k:=fi)
   clear h;revert h257
   refine brI (fun h254=>?_) fun h254=>?_
   ·
    refine bI fun e255 h256=>?_
    try have qh256:=Xp h256
    intro h
    exact absurd (h256) (by simp[X1w])
   intro h
   obtain rfl:=oj h
   exact X8 [.el (aI .i64 (a0.length:Int)),.go false,.go false,.go false,.go false,.go false,.go false,.go false,.go false,.go false,.go false] (k:=wkT [] (X2.glue J))
  obtain rfl:=X2d rfl
  revert h
  refine bI fun X03b h265=>rnI [.stop 25] ?_
  intro h
  refine X2.join (s':=⟨fr [(2,AV.nils),(3,AV.nils),(4,(aB X03b))],hp ([]),2⟩) ?_ (fun J=>X2.cut ?_)
  ·
   revert h
   exact fun e=>oj e▸X8 [] (k:=fi)
  clear h;revert h265
  refine brI (fun h262=>?_) fun h262=>?_
  ·
   refine bI fun e263 h264=>?_
   try have qh264:=Xp h264
   intro h
   exact absurd (h264) (by simp[X1w])
  intro h
  obtain rfl:=oj h
  exact X8 [.el (aI .i64 (a0.length:Int)),.go false,.go false,.go false,.go false,.go false,.go false,.go false,.go false,.go false,.go false] (k:=wkT [] (X2.glue J))
 intro X04 X4n X02 X3t eo232;subst eo232
 refine X2.glue ?_
 try dsimp only at h
 rcases X02 with ⟨_|_,X2b⟩
 ·
  rcases X3t with ⟨_|_,X7b⟩
  ·
   revert h
   exact fun e=>oj e▸X8 [] (k:=fi)
  obtain rfl:=X7b rfl
  revert h
  exact fun e=>oj e▸X8 [] (k:=fi)
 obtain rfl:=X2b rfl
 rcases X3t with ⟨_|_,X7b⟩
 ·
  revert h
  exact fun e=>oj e▸X8 [] (k:=fi)
 obtain rfl:=X7b rfl
 revert h
 exact fun e=>oj e▸X8 [] (k:=fi)⟩
instance Xwb:PCs Tryz.prog 92 (∀ (a0:(List Xw)) (r:Int),X3z a0=some r->X0o Tryz.prog 92 [(Lf (a0.map X1))] (aI .i64 r)):=⟨fun a0 r h=>by
 refine X0o.sym X9 fn92 (nt:=24) rfl rfl ?_ okM
 unfold X3z at h
 revert h
 refine brI (fun h1=>fun e=>oj e▸X8 [.el (aI .i64 (a0.length:Int)),Bt] (k:=fi)) fun h1=>bI fun v2 h3=>rnI [.el (aI .i64 (a0.length:Int)),Bf,.pure _ (AV.tup [(AV.list true (List.map (aI .i64) v2.1)),(AV.list true (List.map (aI .i64) v2.2.1)),(aB v2.2.2)])] ?_
 refine brI (fun h4=>fun e=>oj e▸X8 [Bt] (k:=fi)) fun h4=>bI fun e5 h6=>?_
 try have qh6:=Xp h6
 exact brI (fun h7=>fun e=>oj e▸X8 [Bf,.el (aI .i64 (a0.length:Int)),.wrap,.el (aI .i64 e5),Bt] (k:=fi)) fun h7=>fun e=>oj e▸X8 [Bf,.el (aI .i64 (a0.length:Int)),.wrap,.el (aI .i64 e5),Bf] (k:=fi)⟩
theorem Xcx {Q:Xy->St->Mu->Prop} {μ:Mu} (X0i:(List Int)) (hl:X0i.length<=140737488355328):∀ (xs:List Int) (k:Nat) (hx:X0i.drop k=xs) (o:X4f) (h:X2n X0i xs k  = some o)
  (C0:o=X4f.x0->X2 Tryz.prog 60 0 Q (.exit (.exit 0)) [] ⟨fr [(0,(Lf (List.map (aI .i64) X0i)))],hp ([]),0⟩ μ)
  (C1:o=X4f.x1->X2 Tryz.prog 60 0 Q (.exit .ret) [] ⟨fr [(4,(aI .i64 8))],hp ([]),0⟩ μ),
  X2 Tryz.prog 60 0 Q (.loop (X4k 0 (Xl Tryz.f93))) [] ⟨fr [(0,(Lf (List.map (aI .i64) X0i))),(5,(aI .i64 (k:Int)))],hp ([]),0⟩ μ:=by
 intro xs
 induction xs with
 |nil =>
  intro k hx  o h C0 C1
  have hk:=X18 hx
  have hc:decide ((k:Int)<(X0i.length:Int))=false:=Yf (by omega)
  rw[X2n] at h
  refine X2.round ?_
  revert h
  exact fun e=>X8 [.el (aI .i64 (X0i.length:Int)),Bf] (k:=wkT [] (C0  (oj e).symm))
 |cons x xs ih =>
  intro k hx  o h C0 C1
  obtain⟨hk,hg,hx1⟩:=X0r hx
  have hc:decide ((k:Int)<(X0i.length:Int))=true:=Yt (by omega)
  rw[X2n] at h
  refine X2.round ?_
  revert h
  refine bI fun Xuc h25=>rnI [.el (aI .i64 (X0i.length:Int)),Bt,.stop 8] ?_
  intro h
  refine X2.join (s':=⟨fr [(0,(Lf (List.map (aI .i64) X0i))),(5,(aI .i64 (k:Int))),(39,(aB Xuc))],hp ([]),0⟩) ?_ (fun J=>X2.cut ?_)
  ·
   revert h
   refine brI (fun h26=>fun e=>X8 [Bt] (k:=wkT [] (C1  (oj e).symm))) fun h26=>rnI [Bf] ?_
   intro h
   exact wkT [] (ih (k+1) hx1  o h C0 C1)
  clear h;revert h25
  refine brI (fun h24=>?_) fun h24=>?_
  ·
   intro h
   obtain rfl:=oj h
   exact X8 [.el (aI .i64 x),.go false,.go false,.go false,.go false,.go false] (k:=wkT [] (X2.glue J))
  intro h
  obtain rfl:=oj h
  exact X8 [.el (aI .i64 x),.go true,.go true,.go true,.el (aI .i64 x),.go true,.go true] (k:=wkT [] (X2.glue J))
theorem Xcv {Q:Xy->St->Mu->Prop} {μ:Mu} (Xzg:(List Int)) (Xzf:Int):∀ (n:Nat) (Xyn:Int) (o:X4d) (h:X2m Xzg Xzf n Xyn=some o)
  (C0:o=X4d.x0->X2 Tryz.prog 60 0 Q (.exit .ret) [] ⟨fr [(4,(aI .i64 43))],hp ([]),0⟩ μ)
  (C1:o=X4d.x1->X2 Tryz.prog 60 0 Q (.exit (.exit 4)) [] ⟨fr [(0,(Lf (List.map (aI .i64) Xzg))),(6,(aI .i64 Xzf))],hp ([]),0⟩ μ),
  X2 Tryz.prog 60 0 Q (.loop (X4k 2 (Xl Tryz.f93))) [] ⟨fr [(0,(Lf (List.map (aI .i64) Xzg))),(6,(aI .i64 Xzf)),(7,(aI .i64 Xyn))],hp ([]),0⟩ μ:=by
 intro n
 induction n with
 |zero=>intro Xyn o h C0 C1;cases h
 |succ n ih =>
  intro Xyn o h C0 C1
  rw[X2m] at h
  refine X2.round ?_
  revert h
  refine brI (fun h85=>?_) fun h85=>fun e=>X8 [Bf] (k:=wkT [] (C1  (oj e).symm))
  refine bI fun e86 h87=>?_
  try have qh87:=Xp h87
  refine bI fun e88 h89=>?_
  try have qh89:=Xp h89
  refine brI (fun h90=>fun e=>X8 [Bt,.el (aI .i64 e86),.el (aI .i64 e88),Bt] (k:=wkT [] (C0  (oj e).symm))) fun h90=>rnI [Bt,.el (aI .i64 e86),.el (aI .i64 e88),Bf,.wrap] ?_
  intro h
  exact wkT [] (ih  _ o h C0 C1)
theorem Xcw {Q:Xy->St->Mu->Prop} {μ:Mu} (Xsf:(List Int)) (hl:Xsf.length<=140737488355328):∀ (xs:List Int) (k:Nat) (hx:Xsf.drop k=xs) (o:X4e) (h:X26 Xsf xs k  = some o)
  (C0:o=X4e.x0->X2 Tryz.prog 60 0 Q (.exit (.exit 2)) [] ⟨fr [],hp ([]),0⟩ μ)
  (C1:o=X4e.x1->X2 Tryz.prog 60 0 Q (.exit .ret) [] ⟨fr [(4,(aI .i64 43))],hp ([]),0⟩ μ),
  X2 Tryz.prog 60 0 Q (.loop (X4k 1 (Xl Tryz.f93))) [] ⟨fr [(0,(Lf (List.map (aI .i64) Xsf))),(6,(aI .i64 (k:Int)))],hp ([]),0⟩ μ:=by
 intro xs
 induction xs with
 |nil =>
  intro k hx  o h C0 C1
  have hk:=X18 hx
  have hc:decide ((k:Int)<(Xsf.length:Int))=false:=Yf (by omega)
  rw[X26] at h
  refine X2.round ?_
  revert h
  exact fun e=>X8 [.el (aI .i64 (Xsf.length:Int)),Bf] (k:=wkT [] (C0  (oj e).symm))
 |cons x xs ih =>
  intro k hx  o h C0 C1
  obtain⟨hk,hg,hx1⟩:=X0r hx
  have hc:decide ((k:Int)<(Xsf.length:Int))=true:=Yt (by omega)
  rw[X26] at h
  refine X2.round ?_
  revert h
  refine bI fun o91 h92=>rnI [.el (aI .i64 (Xsf.length:Int)),Bt] ?_
  intro h
  refine wkT [] (X2.cut (Xcv Xsf (k:Int) _ _ _ h92 ?_ ?_))
  ·
   intro eo91;subst eo91
   refine X2.glue ?_
   try dsimp only at h
   revert h
   exact fun e=>X8 [] (k:=wkT [] (C1  (oj e).symm))
  intro eo91;subst eo91
  refine X2.glue ?_
  try dsimp only at h
  exact X8 [] (k:=wkT [] (ih (k+1) hx1  o h C0 C1))
instance Xsi:PCs Tryz.prog 93 (∀ (a0:(List Int)) (a1:Bool) (r:Int),X6b a0 a1=some r->X0o Tryz.prog 93 [(Lf (List.map (aI .i64) a0)),(aB a1)] (aI .i64 r)):=⟨fun a0 a1 r h=>by
 refine X0o.sym X9 fn93 (nt:=60) rfl rfl ?_ okM
 unfold X6b at h
 revert h
 refine brI (fun h1=>fun e=>oj e▸X8 [.el (aI .i64 (a0.length:Int)),Bt] (k:=fi)) fun h1=>bI fun X00o h7=>rnI [.el (aI .i64 (a0.length:Int)),Bf,.stop 3] ?_
 intro h
 refine X2.join (s':=⟨fr [(0,(Lf (List.map (aI .i64) a0))),(21,(aB X00o))],hp ([]),0⟩) ?_ (fun J=>X2.cut ?_)
 ·
  revert h
  refine brI (fun h8=>fun e=>oj e▸X8 [Bt] (k:=fi)) fun h8=>bI fun u9 h10=>?_
  have qh10:=X09 h10
  refine bI fun o27 h28=>rnI [Bf] ?_
  intro h
  refine wkT [] (X2.cut (Xcx a0 qh10 a0 0 (by simp) _ h28 ?_ ?_))
  ·
   intro eo27;subst eo27
   refine X2.glue ?_
   try dsimp only at h
   revert h
   refine bI fun o93 h94=>rnI [] ?_
   intro h
   refine wkT [] (X2.cut (Xcw a0 qh10 a0 0 (by simp) _ h94 ?_ ?_))
   ·
    intro eo93;subst eo93
    refine X2.glue ?_
    try dsimp only at h
    revert h
    exact fun e=>oj e▸X8 [] (k:=fi)
   intro eo93;subst eo93
   refine X2.glue ?_
   try dsimp only at h
   revert h
   exact fun e=>oj e▸X8 [] (k:=fi)
  intro eo27;subst eo27
  refine X2.glue ?_
  try dsimp only at h
  revert h
  exact fun e=>oj e▸X8 [] (k:=fi)
 clear h;revert h7
 refine brI (fun h5=>?_) fun h5=>?_
 ·
  intro h
  obtain rfl:=oj h
  exact X8 [.el (aI .i64 (a0.length:Int)),.go false,.go false,.go false,.go false,.go false,.go false] (k:=wkT [] (X2.glue J))
 refine brI (fun h6=>?_) fun h6=>?_
 ·
  intro h
  obtain rfl:=oj h
  exact X8 [.el (aI .i64 (a0.length:Int)),.go true,.go true,.go true,.go true,.el (aI .i64 (a0.length:Int)),.go true,.go true] (k:=wkT [] (X2.glue J))
 intro h
 obtain rfl:=oj h
 exact X8 [.el (aI .i64 (a0.length:Int)),.go true,.go true,.go false,.go false,.go false,.go true] (k:=wkT [] (X2.glue J))⟩
instance Xx0:PCs Tryz.prog 94 (∀ (a0:X0l) (r:Bool),X74 a0=some r->X0o Tryz.prog 94 [(X30 a0)] (aB r)):=⟨fun a0 r h=>by
 refine X0o.sym X9 fn94 (nt:=45) rfl rfl ?_ okM
 unfold X74 at h
 revert h
 exact brI (fun h1=>fun e=>oj e▸X8 [Bt] (k:=fi)) fun h1=>brI (fun h2=>fun e=>oj e▸X8 [Bf,Bt,.wrap] (k:=fi)) fun h2=>fun e=>oj e▸X8 [Bf,Bf] (k:=fi)⟩
instance Xw4:PCs Tryz.prog 56 (∀ (a0:Xu) (r:Int),X8p a0=some r->X0o Tryz.prog 56 [(Xq false a0)] (aI .i64 r)):=⟨fun a0 r h=>by
 refine X0o.sym X9 fn56 (nt:=80) rfl rfl ?_ okM
 unfold X8p at h
 revert h
 refine brI (fun h1=>fun e=>oj e▸X8 [Bt] (k:=fi)) fun h1=>bI fun X00y h5=>rnI [Bf,.stop 3] ?_
 intro h
 refine X2.join (s':=⟨fr [(1,(AV.ptr 0 0 0)),(29,(aB X00y))],hp ([(0,Ob [(Xq false a0)] 10)]),1⟩) ?_ (fun J=>X2.cut ?_)
 ·
  revert h
  refine brI (fun h6=>fun e=>oj e▸X8 [Bt] (k:=fi)) fun h6=>bI fun Xug h14=>rnI [Bf,.stop 5] ?_
  intro h
  refine X2.join (s':=⟨fr [(1,(AV.ptr 0 0 0)),(38,(aB Xug))],hp ([(0,Ob [(Xq false a0)] 10)]),1⟩) ?_ (fun J=>X2.cut ?_)
  ·
   revert h
   refine brI (fun h15=>bI fun v16 h17=>fun e=>oj e▸X8 [Bt,.pure _ (aI .i64 v16)] (k:=fi)) fun h15=>bI fun Xlx h25=>rnI [Bf,.stop 7] ?_
   intro h
   refine X2.join (s':=⟨fr [(1,(AV.ptr 0 0 0)),(51,(aB Xlx))],hp ([(0,Ob [(Xq false a0)] 10)]),1⟩) ?_ (fun J=>X2.cut ?_)
   ·
    revert h
    exact brI (fun h26=>bI fun v27 h28=>fun e=>oj e▸X8 [Bt,.pure _ (aI .i64 v27)] (k:=fi)) fun h26=>bI fun v29 h30=>brI (fun h31=>fun e=>oj e▸X8 [Bf,.pure _ (aI .i64 v29),Bt,.pure _ (aI .i64 v29)] (k:=fi)) fun h31=>bI fun v32 h33=>brI (fun h34=>fun e=>oj e▸X8 [Bf,.pure _ (aI .i64 v29),Bf,.pure _ (aB v32),Bt] (k:=fi)) fun h34=>fun e=>oj e▸X8 [Bf,.pure _ (aI .i64 v29),Bf,.pure _ (aB v32),Bf] (k:=fi)
   clear h;revert h25
   refine brI (fun h22=>?_) fun h22=>?_
   ·
    refine bI fun v23 h24=>?_
    intro h
    obtain rfl:=oj h
    exact X8 [.el (aI .i64 (a0.Where.length:Int)),.go true,.go true,.go true,.pure _ (aI .i64 v23),.go true] (k:=wkT [] (X2.glue J))
   intro h
   obtain rfl:=oj h
   exact X8 [.el (aI .i64 (a0.Where.length:Int)),.go false,.go false,.go false,.go false] (k:=wkT [] (X2.glue J))
  clear h;revert h14
  refine brI (fun h11=>?_) fun h11=>?_
  ·
   refine bI fun v12 h13=>?_
   intro h
   obtain rfl:=oj h
   exact X8 [.go true,.go true,.go true,.pure _ (aI .i64 v12),.go true] (k:=wkT [] (X2.glue J))
  intro h
  obtain rfl:=oj h
  exact X8 [.go false,.go false,.go false,.go false] (k:=wkT [] (X2.glue J))
 clear h;revert h5
 refine brI (fun h4=>?_) fun h4=>?_
 ·
  intro h
  obtain rfl:=oj h
  exact X8 [.go true,.go true,.go true,.el (aI .i64 (a0.Arg.length:Int)),.go true] (k:=wkT [] (X2.glue J))
 intro h
 obtain rfl:=oj h
 exact X8 [.go false,.go false,.go false,.go false] (k:=wkT [] (X2.glue J))⟩
instance Xw6:PCs Tryz.prog 155 (∀ (a0:Int) (r:Bool),X5s a0=some r->X0o Tryz.prog 155 [(aI .u8 a0)] (aB r)):=⟨fun a0 r h=>by
 refine X0o.sym X9 X056 (nt:=9) rfl rfl ?_ okM
 unfold X5s at h
 revert h
 exact fun e=>oj e▸X8 [] (k:=fi)⟩
instance Xx1:PCs Tryz.prog 188 (∀ (a0:(List Xw)) (a1:Int) (r:Bool),Xa0 a0 a1=some r->X0o Tryz.prog 188 [(Lf (a0.map X1)),(aI .i64 a1)] (aB r)):=⟨fun a0 a1 r h=>by
 refine X0o.sym X9 X050 (nt:=67) rfl rfl ?_ okM
 unfold Xa0 at h
 revert h
 refine bI fun e1 h2=>?_
 try have qh2:=Xp h2
 refine bI fun e3 h4=>?_
 try have qh4:=Xp h4
 refine bI fun v5 h6=>bI fun e7 h8=>?_
 try have qh8:=Xp h8
 exact bI fun v9 h10=>brI (fun h11=>fun e=>oj e▸X8 [.el (X1 e1),.el (X1 e3),.pure _ (aB v5),.el (X1 e7),.pure _ (aB v9),Bt] (k:=fi)) fun h11=>brI (fun h12=>fun e=>oj e▸X8 [.el (X1 e1),.el (X1 e3),.pure _ (aB v5),.el (X1 e7),.pure _ (aB v9),Bf,Bt] (k:=fi)) fun h12=>brI (fun h13=>fun e=>oj e▸X8 [.el (X1 e1),.el (X1 e3),.pure _ (aB v5),.el (X1 e7),.pure _ (aB v9),Bf,Bf,Bt] (k:=fi)) fun h13=>brI (fun h14=>fun e=>oj e▸X8 [.el (X1 e1),.el (X1 e3),.pure _ (aB v5),.el (X1 e7),.pure _ (aB v9),Bf,Bf,Bf,Bt] (k:=fi)) fun h14=>brI (fun h15=>fun e=>oj e▸X8 [.el (X1 e1),.el (X1 e3),.pure _ (aB v5),.el (X1 e7),.pure _ (aB v9),Bf,Bf,Bf,Bf,Bt] (k:=fi)) fun h15=>fun e=>oj e▸X8 [.el (X1 e1),.el (X1 e3),.pure _ (aB v5),.el (X1 e7),.pure _ (aB v9),Bf,Bf,Bf,Bf,Bf] (k:=fi)⟩
theorem Xe5 {Q:Xy->St->Mu->Prop} {μ:Mu} (X0i:(List Xw)) (hl:X0i.length<=140737488355328):∀ (xs:List Xw) (k:Nat) (hx:X0i.drop k=xs) (o:X5k) (h:X3m X0i xs k  = some o)
  (C0:o=X5k.x0->X2 Tryz.prog 17 0 Q (.exit (.exit 0)) [] ⟨fr [(0,(Lf (X0i.map X1)))],hp ([]),0⟩ μ)
  (C1:∀ (X3q:Int),o=X5k.x1 X3q->X2 Tryz.prog 17 0 Q (.exit .ret) [] ⟨fr [(2,(aI .i64 X3q))],hp ([]),0⟩ μ),
  X2 Tryz.prog 17 0 Q (.loop (X4k 0 (Xl Tryz.f154))) [] ⟨fr [(0,(Lf (X0i.map X1))),(3,(aI .i64 (k:Int)))],hp ([]),0⟩ μ:=by
 intro xs
 induction xs with
 |nil =>
  intro k hx  o h C0 C1
  have hk:=X18 hx
  have hc:decide ((k:Int)<(X0i.length:Int))=false:=Yf (by omega)
  rw[X3m] at h
  refine X2.round ?_
  revert h
  exact fun e=>X8 [.el (aI .i64 (X0i.length:Int)),Bf] (k:=wkT [] (C0  (oj e).symm))
 |cons x xs ih =>
  intro k hx  o h C0 C1
  obtain⟨hk,hg,hx1⟩:=X0r hx
  have hc:decide ((k:Int)<(X0i.length:Int))=true:=Yt (by omega)
  rw[X3m] at h
  refine X2.round ?_
  revert h
  refine bI fun v10 h11=>brI (fun h12=>fun e=>X8 [.el (aI .i64 (X0i.length:Int)),Bt,.pure _ (aB v10),Bt] (k:=wkT [] (C1 _  (oj e).symm))) fun h12=>rnI [.el (aI .i64 (X0i.length:Int)),Bt,.pure _ (aB v10),Bf] ?_
  intro h
  exact wkT [] (ih (k+1) hx1  o h C0 C1)
instance Xw5:PCs Tryz.prog 154 (∀ (a0:(List Xw)) (r:Int),Xai a0=some r->X0o Tryz.prog 154 [(Lf (a0.map X1))] (aI .i64 r)):=⟨fun a0 r h=>by
 refine X0o.sym X9 X057 (nt:=17) rfl rfl ?_ okM
 unfold Xai at h
 revert h
 refine bI fun u1 h2=>?_
 have qh2:=X09 h2
 refine bI fun o13 h14=>rnI [] ?_
 intro h
 refine wkT [] (X2.cut (Xe5 a0 qh2 a0 0 (by simp) _ h14 ?_ ?_))
 ·
  intro eo13;subst eo13
  refine X2.glue ?_
  try dsimp only at h
  revert h
  exact fun e=>oj e▸X8 [.el (aI .i64 (a0.length:Int))] (k:=fi)
 intro X3q eo13;subst eo13
 refine X2.glue ?_
 try dsimp only at h
 revert h
 exact fun e=>oj e▸X8 [] (k:=fi)⟩
instance X007:PCs Tryz.prog 129 (∀ (a0:(List Xw)) (r:Bool×Int×Int),Xdb a0=some r->X0o Tryz.prog 129 [(Lf (a0.map X1))] (AV.tup [(aB r.1),(aI .i64 r.2.1),(aI .i64 r.2.2)])):=⟨fun a0 r h=>by
 refine X0o.sym X9 X05j (nt:=29) rfl rfl ?_ okM
 unfold Xdb at h
 revert h
 refine bI fun v1 h2=>brI (fun h3=>fun e=>oj e▸X8 [.pure _ (aI .i64 v1),Bt,.pure _ (aI .i64 v1)] (k:=fi)) fun h3=>bI fun v4 h5=>brI (fun h6=>fun e=>oj e▸X8 [.pure _ (aI .i64 v1),Bf,.pure _ (aI .i64 v4),.el (aI .i64 (a0.length:Int)),Bt] (k:=fi)) fun h6=>bI fun e7 h8=>?_
 try have qh8:=Xp h8
 exact bI fun v9 h10=>fun e=>oj e▸X8 [.pure _ (aI .i64 v1),Bf,.pure _ (aI .i64 v4),.el (aI .i64 (a0.length:Int)),Bf,.el (aI .i64 (a0.length:Int)),.wrap,.el (X1 e7),.pure _ (aB v9),.el (aI .i64 (a0.length:Int)),.wrap] (k:=fi)⟩
instance Xx2:PCs Tryz.prog 95 (∀ (a0:(List Xw)) (a1:Bool) (r:Int×Int),X75 a0 a1=some r->X0o Tryz.prog 95 [(Lf (a0.map X1)),(aB a1)] (AV.tup [(aI .i64 r.1),(aI .i64 r.2)])):=⟨fun a0 a1 r h=>by
 refine X0o.sym X9 fn95 (nt:=25) rfl rfl ?_ okM
 unfold X75 at h
 revert h
 exact bI fun v1 h2=>brI (fun h3=>fun e=>oj e▸X8 [.pure _ (AV.tup [(aB v1.1),(aI .i64 v1.2.1),(aI .i64 v1.2.2)]),Bt] (k:=fi)) fun h3=>fun e=>oj e▸X8 [.pure _ (AV.tup [(aB v1.1),(aI .i64 v1.2.1),(aI .i64 v1.2.2)]),Bf] (k:=fi)⟩
end Go.Av.Tryz