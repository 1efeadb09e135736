/- Printed by decomp.py: that the program computes the functions. -/
import Derived.Test.YtfdfgobnpnoomaaGreatDCert10Z
set_option linter.all false

namespace Go.Av.Tryz
open Go.Proofs Go.D
set_option maxRecDepth 10000
set_option maxHeartbeats 40000000
theorem Xfr {Q:X07->St->Mu->Prop} {μ:Mu} (X0y:(List X0c)) (hl:X0y.length<=140737488355328):∀ (xs:List X0c) (k:Nat) (hx:X0y.drop k=xs) (Xs:(List Int)) (Xo:(List Int)) (X1c:Nb Xs) (X00:Nb Xo) (o:X57) (h:X1p X0y xs k Xs Xo=some o)
  (C0:∀ (X02:(List Int)) (X0n:(List Int)) (X0i:Nb X02) (X0o:Nb X0n),o=X57.x0 X02 X0n->X3 Tryz.prog 102 0 Q (.exit (.exit 0)) [] ⟨fr [(0,(Lf (X0y.map X1))),(5,(slE X0i.1 0 (List.map (aI .i64) X02))),(6,(slE X0o.1 1 (List.map (aI .i64) X0n)))],hp ([]++opE X0i.1 0 1 (List.map (aI .i64) X02)++opE X0o.1 1 1 (List.map (aI .i64) X0n)),2⟩ μ)
  (C1:∀ (X0k:(List Int)) (X5r:(List Int)) (X0h:Nb X0k) (X4n:Nb X5r),o=X57.x1 X0k X5r->X3 Tryz.prog 102 0 Q (.exit .ret) [] ⟨fr [(2,(slE X0h.1 0 (List.map (aI .i64) X0k))),(3,(slE X4n.1 1 (List.map (aI .i64) X5r))),(4,(aB false))],hp ([]++opE X0h.1 0 1 (List.map (aI .i64) X0k)++opE X4n.1 1 1 (List.map (aI .i64) X5r)),2⟩ μ),
  X3 Tryz.prog 102 0 Q (.loop (X4t 0 (Xu Tryz.f128))) [] ⟨fr [(0,(Lf (X0y.map X1))),(5,(slE X1c.1 0 (List.map (aI .i64) Xs))),(6,(slE X00.1 1 (List.map (aI .i64) Xo))),(7,(aI .i64 (k:Int)))],hp ([]++opE X1c.1 0 1 (List.map (aI .i64) Xs)++opE X00.1 1 1 (List.map (aI .i64) Xo)),2⟩ μ:=by
 intro xs
 induction xs with
 |nil =>
  intro k hx Xs Xo X1c X00 o h C0 C1
  have hk:=X1e hx
  have hc:decide ((k:Int)<(X0y.length:Int))=false:=Yf (by omega)
  rw[X1p] at h
  rcases X1c with ⟨_|_,X45⟩
  ·
   rcases X00 with ⟨_|_,X0f⟩
   ·
    refine X3.round ?_
    revert h
    exact fun e=>Xc [.el (aI .i64 (X0y.length:Int)),Bf] (k:=wkT [] (C0 _ _  nbF nbF (oj e).symm))
   obtain rfl:=X0f rfl
   refine X3.round ?_
   revert h
   exact fun e=>Xc [.el (aI .i64 (X0y.length:Int)),Bf] (k:=wkT [] (C0 _ _  nbF nbS (oj e).symm))
  ·
   obtain rfl:=X45 rfl
   rcases X00 with ⟨_|_,X0f⟩
   ·
    refine X3.round ?_
    revert h
    exact fun e=>Xc [.el (aI .i64 (X0y.length:Int)),Bf] (k:=wkT [] (C0 _ _  nbS nbF (oj e).symm))
   ·
    obtain rfl:=X0f rfl
    refine X3.round ?_
    revert h
    exact fun e=>Xc [.el (aI .i64 (X0y.length:Int)),Bf] (k:=wkT [] (C0 _ _  nbS nbS (oj e).symm))
 |cons x xs ih =>
  intro k hx Xs Xo X1c X00 o h C0 C1
  obtain⟨hk,hg,hx1⟩:=X0t hx
  have hc:decide ((k:Int)<(X0y.length:Int))=true:=Yt (by omega)
  rw[X1p] at h
  rcases X1c with ⟨_|_,X45⟩
  ·
   rcases X00 with ⟨_|_,X0f⟩
   ·
    refine X3.round ?_
    revert h
    refine bI fun v156 h157=>brI (fun h158=>?_) fun h158=>?_
    ·
     refine brI (fun h159=>fun e=>Xc [.el (aI .i64 (X0y.length:Int)),Bt,.el (X1 x),.pure _ (aI .i64 v156),Bt,.wrap,Bt] (k:=wkT [] (C1 _ _  nbS nbS (oj e).symm))) fun h159=>bI fun e160 h161=>?_
     try have qh161:=Xn h161
     refine bI fun e162 h163=>?_
     try have qh163:=Xn h163
     refine rnI [.el (aI .i64 (X0y.length:Int)),Bt,.el (X1 x),.pure _ (aI .i64 v156),Bt,.wrap,Bf,.el (aI .i64 e160),.ld (aI .i64 e160),.wrap,.el (aI .i64 e160),.ld (aI .i64 e160),.wrap,.el (aI .i64 e162),.ld (aI .i64 e162),.wrap] ?_
     refine brI (fun h164=>?_) fun h164=>?_
     ·
      refine brI (fun h165=>fun e=>Xc [Bt,Bt] (k:=wkT [] (C1 _ _  nbS nbS (oj e).symm))) fun h165=>bI fun e166 h167=>?_
      try have qh167:=Xn h167
      refine bI fun e168 h169=>?_
      try have qh169:=Xn h169
      refine bI fun v170 h171=>rnI [Bt,Bf,.el (aI .i64 e166),.ld (aI .i64 e166),.wrap,.el (aI .i64 e168),.ld (aI .i64 e168),.wrap,.el (X1 x),.pure _ (aB v170)] ?_
      refine brI (fun h172=>fun e=>Xc [Bt] (k:=wkT [] (C1 _ _  nbS nbS (oj e).symm))) fun h172=>?_
      refine bI fun u173 h174=>bI fun u175 h176=>rnI [Bf,.no,.no] (o:=by repeat' first|apply Ya|exact pcM|(refine X8 h174 rfl ?_;first|(simp;done)|(simp;omega)|(simp[hc,h158,h159,h164,h165,h172];done)|(simp[hc,h158,h159,h164,h165,h172];omega))|(refine X2 h174 (by decide) ?_;first|(simp;done)|(simp;omega)|(simp[hc,h158,h159,h164,h165,h172];done)|(simp[hc,h158,h159,h164,h165,h172];omega))|(refine X8 h176 rfl ?_;first|(simp;done)|(simp;omega)|(simp[hc,h158,h159,h164,h165,h172];done)|(simp[hc,h158,h159,h164,h165,h172];omega))|(refine X2 h176 (by decide) ?_;first|(simp;done)|(simp;omega)|(simp[hc,h158,h159,h164,h165,h172];done)|(simp[hc,h158,h159,h164,h165,h172];omega))|exact Xw) ?_
      intro h
      exact wkT [(0,3),(1,5)] (ih (k+1) hx1 _ _ nbF nbF o h C0 C1)
     refine bI fun v177 h178=>brI (fun h179=>fun e=>Xc [Bf,.el (X1 x),.pure _ (aB v177),Bt] (k:=wkT [] (C1 _ _  nbS nbS (oj e).symm))) fun h179=>?_
     refine bI fun u180 h181=>bI fun u182 h183=>rnI [Bf,.el (X1 x),.pure _ (aB v177),Bf,.no,.no] (o:=by repeat' first|apply Ya|exact pcM|(refine X8 h181 rfl ?_;first|(simp;done)|(simp;omega)|(simp[hc,h158,h159,h164,h179];done)|(simp[hc,h158,h159,h164,h179];omega))|(refine X2 h181 (by decide) ?_;first|(simp;done)|(simp;omega)|(simp[hc,h158,h159,h164,h179];done)|(simp[hc,h158,h159,h164,h179];omega))|(refine X8 h183 rfl ?_;first|(simp;done)|(simp;omega)|(simp[hc,h158,h159,h164,h179];done)|(simp[hc,h158,h159,h164,h179];omega))|(refine X2 h183 (by decide) ?_;first|(simp;done)|(simp;omega)|(simp[hc,h158,h159,h164,h179];done)|(simp[hc,h158,h159,h164,h179];omega))|exact Xw) ?_
     intro h
     exact wkT [(0,3),(1,5)] (ih (k+1) hx1 _ _ nbF nbF o h C0 C1)
    refine bI fun v184 h185=>brI (fun h186=>fun e=>Xc [.el (aI .i64 (X0y.length:Int)),Bt,.el (X1 x),.pure _ (aI .i64 v156),Bf,.el (X1 x),.pure _ (aB v184),Bt] (k:=wkT [] (C1 _ _  nbS nbS (oj e).symm))) fun h186=>?_
    refine bI fun u187 h188=>bI fun u189 h190=>rnI [.el (aI .i64 (X0y.length:Int)),Bt,.el (X1 x),.pure _ (aI .i64 v156),Bf,.el (X1 x),.pure _ (aB v184),Bf,.no,.no] (o:=by repeat' first|apply Ya|exact pcM|(refine X8 h188 rfl ?_;first|(simp;done)|(simp;omega)|(simp[hc,h158,h186];done)|(simp[hc,h158,h186];omega))|(refine X2 h188 (by decide) ?_;first|(simp;done)|(simp;omega)|(simp[hc,h158,h186];done)|(simp[hc,h158,h186];omega))|(refine X8 h190 rfl ?_;first|(simp;done)|(simp;omega)|(simp[hc,h158,h186];done)|(simp[hc,h158,h186];omega))|(refine X2 h190 (by decide) ?_;first|(simp;done)|(simp;omega)|(simp[hc,h158,h186];done)|(simp[hc,h158,h186];omega))|exact Xw) ?_
    intro h
    exact wkT [(0,3),(1,5)] (ih (k+1) hx1 _ _ nbF nbF o h C0 C1)
   obtain rfl:=X0f rfl
   refine X3.round ?_
   revert h
   refine bI fun v191 h192=>brI (fun h193=>?_) fun h193=>?_
   ·
    refine brI (fun h194=>fun e=>Xc [.el (aI .i64 (X0y.length:Int)),Bt,.el (X1 x),.pure _ (aI .i64 v191),Bt,.wrap,Bt] (k:=wkT [] (C1 _ _  nbS nbS (oj e).symm))) fun h194=>bI fun e195 h196=>?_
    try have qh196:=Xn h196
    refine bI fun e197 h198=>?_
    try have qh198:=Xn h198
    intro h
    exact absurd (h198) (by simp[X2c])
   refine bI fun v199 h200=>brI (fun h201=>fun e=>Xc [.el (aI .i64 (X0y.length:Int)),Bt,.el (X1 x),.pure _ (aI .i64 v191),Bf,.el (X1 x),.pure _ (aB v199),Bt] (k:=wkT [] (C1 _ _  nbS nbS (oj e).symm))) fun h201=>?_
   refine bI fun u202 h203=>bI fun u204 h205=>rnI [.el (aI .i64 (X0y.length:Int)),Bt,.el (X1 x),.pure _ (aI .i64 v191),Bf,.el (X1 x),.pure _ (aB v199),Bf,.no,.no] (o:=by repeat' first|apply Ya|exact pcM|(refine X8 h203 rfl ?_;first|(simp;done)|(simp;omega)|(simp[hc,h193,h201];done)|(simp[hc,h193,h201];omega))|(refine X2 h203 (by decide) ?_;first|(simp;done)|(simp;omega)|(simp[hc,h193,h201];done)|(simp[hc,h193,h201];omega))|(refine X8 h205 rfl ?_;first|(simp;done)|(simp;omega)|(simp[hc,h193,h201];done)|(simp[hc,h193,h201];omega))|(refine X2 h205 (by decide) ?_;first|(simp;done)|(simp;omega)|(simp[hc,h193,h201];done)|(simp[hc,h193,h201];omega))|exact Xw) ?_
   intro h
   exact wkT [(0,3),(1,5)] (ih (k+1) hx1 _ _ nbF nbF o h C0 C1)
  obtain rfl:=X45 rfl
  rcases X00 with ⟨_|_,X0f⟩
  ·
   refine X3.round ?_
   revert h
   refine bI fun v206 h207=>brI (fun h208=>?_) fun h208=>?_
   ·
    refine brI (fun h209=>fun e=>Xc [.el (aI .i64 (X0y.length:Int)),Bt,.el (X1 x),.pure _ (aI .i64 v206),Bt,.wrap,Bt] (k:=wkT [] (C1 _ _  nbS nbS (oj e).symm))) fun h209=>bI fun e210 h211=>?_
    try have qh211:=Xn h211
    intro h
    exact absurd (h211) (by simp[X2c])
   refine bI fun v212 h213=>brI (fun h214=>fun e=>Xc [.el (aI .i64 (X0y.length:Int)),Bt,.el (X1 x),.pure _ (aI .i64 v206),Bf,.el (X1 x),.pure _ (aB v212),Bt] (k:=wkT [] (C1 _ _  nbS nbS (oj e).symm))) fun h214=>?_
   refine bI fun u215 h216=>bI fun u217 h218=>rnI [.el (aI .i64 (X0y.length:Int)),Bt,.el (X1 x),.pure _ (aI .i64 v206),Bf,.el (X1 x),.pure _ (aB v212),Bf,.no,.no] (o:=by repeat' first|apply Ya|exact pcM|(refine X8 h216 rfl ?_;first|(simp;done)|(simp;omega)|(simp[hc,h208,h214];done)|(simp[hc,h208,h214];omega))|(refine X2 h216 (by decide) ?_;first|(simp;done)|(simp;omega)|(simp[hc,h208,h214];done)|(simp[hc,h208,h214];omega))|(refine X8 h218 rfl ?_;first|(simp;done)|(simp;omega)|(simp[hc,h208,h214];done)|(simp[hc,h208,h214];omega))|(refine X2 h218 (by decide) ?_;first|(simp;done)|(simp;omega)|(simp[hc,h208,h214];done)|(simp[hc,h208,h214];omega))|exact Xw) ?_
   intro h
   exact wkT [(0,3),(1,5)] (ih (k+1) hx1 _ _ nbF nbF o h C0 C1)
  obtain rfl:=X0f rfl
  refine X3.round ?_
  revert h
  refine bI fun v219 h220=>brI (fun h221=>?_) fun h221=>?_
  ·
   refine brI (fun h222=>fun e=>Xc [.el (aI .i64 (X0y.length:Int)),Bt,.el (X1 x),.pure _ (aI .i64 v219),Bt,.wrap,Bt] (k:=wkT [] (C1 _ _  nbS nbS (oj e).symm))) fun h222=>bI fun e223 h224=>?_
   try have qh224:=Xn h224
   intro h
   exact absurd (h224) (by simp[X2c])
  refine bI fun v225 h226=>brI (fun h227=>fun e=>Xc [.el (aI .i64 (X0y.length:Int)),Bt,.el (X1 x),.pure _ (aI .i64 v219),Bf,.el (X1 x),.pure _ (aB v225),Bt] (k:=wkT [] (C1 _ _  nbS nbS (oj e).symm))) fun h227=>?_
  refine bI fun u228 h229=>bI fun u230 h231=>rnI [.el (aI .i64 (X0y.length:Int)),Bt,.el (X1 x),.pure _ (aI .i64 v219),Bf,.el (X1 x),.pure _ (aB v225),Bf,.no,.no] (o:=by repeat' first|apply Ya|exact pcM|(refine X8 h229 rfl ?_;first|(simp;done)|(simp;omega)|(simp[hc,h221,h227];done)|(simp[hc,h221,h227];omega))|(refine X2 h229 (by decide) ?_;first|(simp;done)|(simp;omega)|(simp[hc,h221,h227];done)|(simp[hc,h221,h227];omega))|(refine X8 h231 rfl ?_;first|(simp;done)|(simp;omega)|(simp[hc,h221,h227];done)|(simp[hc,h221,h227];omega))|(refine X2 h231 (by decide) ?_;first|(simp;done)|(simp;omega)|(simp[hc,h221,h227];done)|(simp[hc,h221,h227];omega))|exact Xw) ?_
  intro h
  exact wkT [(0,3),(1,5)] (ih (k+1) hx1 _ _ nbF nbF o h C0 C1)
instance Xyw:PCs Tryz.prog 128 (∀ (a0:(List X0c)) (r:(List Int)×(List Int)×Bool),Xbp a0=some r->X11 Tryz.prog 128 [(Lf (a0.map X1))] (AV.tup [(AV.list true (List.map (aI .i64) r.1)),(AV.list true (List.map (aI .i64) r.2.1)),(aB r.2.2)])):=⟨fun a0 r h=>by
 refine X11.sym Xh X07w (nt:=102) rfl rfl ?_ okM
 unfold Xbp at h
 revert h
 refine bI fun u1 h2=>?_
 have qh2:=X0u h2
 refine bI fun o232 h233=>rnI [] ?_
 intro h
 refine wkT [] (X3.cut (Xfr a0 qh2 a0 0 (by simp) _ _ nbS nbS _ h233 ?_ ?_))
 ·
  intro X02 X0n X0i X0o eo232;subst eo232
  refine X3.glue ?_
  try dsimp only at h
  rcases X0i with ⟨_|_,X2q⟩
  ·
   rcases X0o with ⟨_|_,X2a⟩
   ·
    revert h
    refine bI fun Xwy h241=>rnI [.stop 25] ?_
    intro h
    refine X3.join (s':=⟨fr [(2,(AV.ref 0 0 (X02.length))),(3,(AV.ref 1 0 (X0n.length))),(4,(aB Xwy))],hp ([(0,Ob (List.map (aI .i64) X02) 1),(1,Ob (List.map (aI .i64) X0n) 1)]),2⟩) ?_ (fun J=>X3.cut ?_)
    ·
     revert h
     exact fun e=>oj e▸Xc [] (k:=fi)
    clear h;revert h241
    refine brI (fun h238=>?_) fun h238=>?_
    ·
     refine bI fun e239 h240=>?_
     try have qh240:=Xn h240
     intro h
     obtain rfl:=oj h
     exact Xc [.el (aI .i64 (a0.length:Int)),.go true,.go true,.go true,.el (aI .i64 (a0.length:Int)),.go true,.wrap,.go true,.el (aI .i64 e239),.go true,.ld (aI .i64 e239),.go true,.go true,.el (aI .i64 (a0.length:Int)),.go true] (k:=wkT [] (X3.glue J))
    intro h
    obtain rfl:=oj h
    exact Xc [.el (aI .i64 (a0.length:Int)),.go false,.go false,.go false,.go false,.go false,.go false,.go false,.go false,.go false,.go false] (k:=wkT [] (X3.glue J))
   obtain rfl:=X2a rfl
   revert h
   refine bI fun X05r h249=>rnI [.stop 25] ?_
   intro h
   refine X3.join (s':=⟨fr [(2,(AV.ref 0 0 (X02.length))),(3,AV.nils),(4,(aB X05r))],hp ([(0,Ob (List.map (aI .i64) X02) 1)]),2⟩) ?_ (fun J=>X3.cut ?_)
   ·
    revert h
    exact fun e=>oj e▸Xc [] (k:=fi)
   clear h;revert h249
   refine brI (fun h246=>?_) fun h246=>?_
   ·
    refine bI fun e247 h248=>?_
    try have qh248:=Xn h248
    intro h
    obtain rfl:=oj h
    exact Xc [.el (aI .i64 (a0.length:Int)),.go true,.go true,.go true,.el (aI .i64 (a0.length:Int)),.go true,.wrap,.go true,.el (aI .i64 e247),.go true,.ld (aI .i64 e247),.go true,.go true,.el (aI .i64 (a0.length:Int)),.go true] (k:=wkT [] (X3.glue J))
   intro h
   obtain rfl:=oj h
   exact Xc [.el (aI .i64 (a0.length:Int)),.go false,.go false,.go false,.go false,.go false,.go false,.go false,.go false,.go false,.go false] (k:=wkT [] (X3.glue J))
  obtain rfl:=X2q rfl
  rcases X0o with ⟨_|_,X2a⟩
  ·
   revert h
   refine bI fun X05q h257=>rnI [.stop 25] ?_
   intro h
   refine X3.join (s':=⟨fr [(2,AV.nils),(3,(AV.ref 1 0 (X0n.length))),(4,(aB X05q))],hp ([(1,Ob (List.map (aI .i64) X0n) 1)]),2⟩) ?_ (fun J=>X3.cut ?_)
   ·
    revert h
    exact fun e=>oj e▸Xc [] (k:=fi)
   clear h;revert h257
   refine brI (fun h254=>?_) fun h254=>?_
   ·
    refine bI fun e255 h256=>?_
    try have qh256:=Xn h256
    intro h
    exact absurd (h256) (by simp[X2c])
   intro h
   obtain rfl:=oj h
   exact Xc [.el (aI .i64 (a0.length:Int)),.go false,.go false,.go false,.go false,.go false,.go false,.go false,.go false,.go false,.go false] (k:=wkT [] (X3.glue J))
  obtain rfl:=X2a rfl
  revert h
  refine bI fun X05p h265=>rnI [.stop 25] ?_
  intro h
  refine X3.join (s':=⟨fr [(2,AV.nils),(3,AV.nils),(4,(aB X05p))],hp ([]),2⟩) ?_ (fun J=>X3.cut ?_)
  ·
   revert h
   exact fun e=>oj e▸Xc [] (k:=fi)
  clear h;revert h265
  refine brI (fun h262=>?_) fun h262=>?_
  ·
   refine bI fun e263 h264=>?_
   try have qh264:=Xn h264
   intro h
   exact absurd (h264) (by simp[X2c])
  intro h
  obtain rfl:=oj h
  exact Xc [.el (aI .i64 (a0.length:Int)),.go false,.go false,.go false,.go false,.go false,.go false,.go false,.go false,.go false,.go false] (k:=wkT [] (X3.glue J))
 intro X0k X5r X0h X4n eo232;subst eo232
 refine X3.glue ?_
 try dsimp only at h
 rcases X0h with ⟨_|_,X2p⟩
 ·
  rcases X4n with ⟨_|_,X8c⟩
  ·
   revert h
   exact fun e=>oj e▸Xc [] (k:=fi)
  obtain rfl:=X8c rfl
  revert h
  exact fun e=>oj e▸Xc [] (k:=fi)
 obtain rfl:=X2p rfl
 rcases X4n with ⟨_|_,X8c⟩
 ·
  revert h
  exact fun e=>oj e▸Xc [] (k:=fi)
 obtain rfl:=X8c rfl
 revert h
 exact fun e=>oj e▸Xc [] (k:=fi)⟩
instance Xyz:PCs Tryz.prog 92 (∀ (a0:(List X0c)) (r:Int),X4y a0=some r->X11 Tryz.prog 92 [(Lf (a0.map X1))] (aI .i64 r)):=⟨fun a0 r h=>by
 refine X11.sym Xh fn92 (nt:=24) rfl rfl ?_ okM
 unfold X4y at h
 revert h
 refine brI (fun h1=>fun e=>oj e▸Xc [.el (aI .i64 (a0.length:Int)),Bt] (k:=fi)) fun h1=>bI fun v2 h3=>rnI [.el (aI .i64 (a0.length:Int)),Bf,.pure _ (AV.tup [(AV.list true (List.map (aI .i64) v2.1)),(AV.list true (List.map (aI .i64) v2.2.1)),(aB v2.2.2)])] ?_
 refine brI (fun h4=>fun e=>oj e▸Xc [Bt] (k:=fi)) fun h4=>bI fun e5 h6=>?_
 try have qh6:=Xn h6
 exact brI (fun h7=>fun e=>oj e▸Xc [Bf,.el (aI .i64 (a0.length:Int)),.wrap,.el (aI .i64 e5),Bt] (k:=fi)) fun h7=>fun e=>oj e▸Xc [Bf,.el (aI .i64 (a0.length:Int)),.wrap,.el (aI .i64 e5),Bf] (k:=fi)⟩
theorem Xec {Q:X07->St->Mu->Prop} {μ:Mu} (X0y:(List Int)) (hl:X0y.length<=140737488355328):∀ (xs:List Int) (k:Nat) (hx:X0y.drop k=xs) (o:X5k) (h:X35 X0y xs k  = some o)
  (C0:o=X5k.x0->X3 Tryz.prog 60 0 Q (.exit (.exit 0)) [] ⟨fr [(0,(Lf (List.map (aI .i64) X0y)))],hp ([]),0⟩ μ)
  (C1:o=X5k.x1->X3 Tryz.prog 60 0 Q (.exit .ret) [] ⟨fr [(4,(aI .i64 8))],hp ([]),0⟩ μ),
  X3 Tryz.prog 60 0 Q (.loop (X4t 0 (Xu Tryz.f93))) [] ⟨fr [(0,(Lf (List.map (aI .i64) X0y))),(5,(aI .i64 (k:Int)))],hp ([]),0⟩ μ:=by
 intro xs
 induction xs with
 |nil =>
  intro k hx  o h C0 C1
  have hk:=X1e hx
  have hc:decide ((k:Int)<(X0y.length:Int))=false:=Yf (by omega)
  rw[X35] at h
  refine X3.round ?_
  revert h
  exact fun e=>Xc [.el (aI .i64 (X0y.length:Int)),Bf] (k:=wkT [] (C0  (oj e).symm))
 |cons x xs ih =>
  intro k hx  o h C0 C1
  obtain⟨hk,hg,hx1⟩:=X0t hx
  have hc:decide ((k:Int)<(X0y.length:Int))=true:=Yt (by omega)
  rw[X35] at h
  refine X3.round ?_
  revert h
  refine bI fun Xwx h25=>rnI [.el (aI .i64 (X0y.length:Int)),Bt,.stop 8] ?_
  intro h
  refine X3.join (s':=⟨fr [(0,(Lf (List.map (aI .i64) X0y))),(5,(aI .i64 (k:Int))),(39,(aB Xwx))],hp ([]),0⟩) ?_ (fun J=>X3.cut ?_)
  ·
   revert h
   refine brI (fun h26=>fun e=>Xc [Bt] (k:=wkT [] (C1  (oj e).symm))) fun h26=>rnI [Bf] ?_
   intro h
   exact wkT [] (ih (k+1) hx1  o h C0 C1)
  clear h;revert h25
  refine brI (fun h24=>?_) fun h24=>?_
  ·
   intro h
   obtain rfl:=oj h
   exact Xc [.el (aI .i64 x),.go false,.go false,.go false,.go false,.go false] (k:=wkT [] (X3.glue J))
  intro h
  obtain rfl:=oj h
  exact Xc [.el (aI .i64 x),.go true,.go true,.go true,.el (aI .i64 x),.go true,.go true] (k:=wkT [] (X3.glue J))
theorem Xea {Q:X07->St->Mu->Prop} {μ:Mu} (y2_0:(List Int)) (Xj7:Int):∀ (n:Nat) (Xei:Int) (o:X5i) (h:X34 y2_0 Xj7 n Xei=some o)
  (C0:o=X5i.x0->X3 Tryz.prog 60 0 Q (.exit .ret) [] ⟨fr [(4,(aI .i64 43))],hp ([]),0⟩ μ)
  (C1:o=X5i.x1->X3 Tryz.prog 60 0 Q (.exit (.exit 4)) [] ⟨fr [(0,(Lf (List.map (aI .i64) y2_0))),(6,(aI .i64 Xj7))],hp ([]),0⟩ μ),
  X3 Tryz.prog 60 0 Q (.loop (X4t 2 (Xu Tryz.f93))) [] ⟨fr [(0,(Lf (List.map (aI .i64) y2_0))),(6,(aI .i64 Xj7)),(7,(aI .i64 Xei))],hp ([]),0⟩ μ:=by
 intro n
 induction n with
 |zero=>intro Xei o h C0 C1;cases h
 |succ n ih =>
  intro Xei o h C0 C1
  rw[X34] at h
  refine X3.round ?_
  revert h
  refine brI (fun h85=>?_) fun h85=>fun e=>Xc [Bf] (k:=wkT [] (C1  (oj e).symm))
  refine bI fun e86 h87=>?_
  try have qh87:=Xn h87
  refine bI fun e88 h89=>?_
  try have qh89:=Xn h89
  refine brI (fun h90=>fun e=>Xc [Bt,.el (aI .i64 e86),.el (aI .i64 e88),Bt] (k:=wkT [] (C0  (oj e).symm))) fun h90=>rnI [Bt,.el (aI .i64 e86),.el (aI .i64 e88),Bf,.wrap] ?_
  intro h
  exact wkT [] (ih  _ o h C0 C1)
theorem Xeb {Q:X07->St->Mu->Prop} {μ:Mu} (Xus:(List Int)) (hl:Xus.length<=140737488355328):∀ (xs:List Int) (k:Nat) (hx:Xus.drop k=xs) (o:X5j) (h:X2i Xus xs k  = some o)
  (C0:o=X5j.x0->X3 Tryz.prog 60 0 Q (.exit (.exit 2)) [] ⟨fr [],hp ([]),0⟩ μ)
  (C1:o=X5j.x1->X3 Tryz.prog 60 0 Q (.exit .ret) [] ⟨fr [(4,(aI .i64 43))],hp ([]),0⟩ μ),
  X3 Tryz.prog 60 0 Q (.loop (X4t 1 (Xu Tryz.f93))) [] ⟨fr [(0,(Lf (List.map (aI .i64) Xus))),(6,(aI .i64 (k:Int)))],hp ([]),0⟩ μ:=by
 intro xs
 induction xs with
 |nil =>
  intro k hx  o h C0 C1
  have hk:=X1e hx
  have hc:decide ((k:Int)<(Xus.length:Int))=false:=Yf (by omega)
  rw[X2i] at h
  refine X3.round ?_
  revert h
  exact fun e=>Xc [.el (aI .i64 (Xus.length:Int)),Bf] (k:=wkT [] (C0  (oj e).symm))
 |cons x xs ih =>
  intro k hx  o h C0 C1
  obtain⟨hk,hg,hx1⟩:=X0t hx
  have hc:decide ((k:Int)<(Xus.length:Int))=true:=Yt (by omega)
  rw[X2i] at h
  refine X3.round ?_
  revert h
  refine bI fun o91 h92=>rnI [.el (aI .i64 (Xus.length:Int)),Bt] ?_
  intro h
  refine wkT [] (X3.cut (Xea Xus (k:Int) _ _ _ h92 ?_ ?_))
  ·
   intro eo91;subst eo91
   refine X3.glue ?_
   try dsimp only at h
   revert h
   exact fun e=>Xc [] (k:=wkT [] (C1  (oj e).symm))
  intro eo91;subst eo91
  refine X3.glue ?_
  try dsimp only at h
  exact Xc [] (k:=wkT [] (ih (k+1) hx1  o h C0 C1))
instance Xuv:PCs Tryz.prog 93 (∀ (a0:(List Int)) (a1:Bool) (r:Int),X7e a0 a1=some r->X11 Tryz.prog 93 [(Lf (List.map (aI .i64) a0)),(aB a1)] (aI .i64 r)):=⟨fun a0 a1 r h=>by
 refine X11.sym Xh fn93 (nt:=60) rfl rfl ?_ okM
 unfold X7e at h
 revert h
 refine brI (fun h1=>fun e=>oj e▸Xc [.el (aI .i64 (a0.length:Int)),Bt] (k:=fi)) fun h1=>bI fun X03f h7=>rnI [.el (aI .i64 (a0.length:Int)),Bf,.stop 3] ?_
 intro h
 refine X3.join (s':=⟨fr [(0,(Lf (List.map (aI .i64) a0))),(21,(aB X03f))],hp ([]),0⟩) ?_ (fun J=>X3.cut ?_)
 ·
  revert h
  refine brI (fun h8=>fun e=>oj e▸Xc [Bt] (k:=fi)) fun h8=>bI fun u9 h10=>?_
  have qh10:=X0u h10
  refine bI fun o27 h28=>rnI [Bf] ?_
  intro h
  refine wkT [] (X3.cut (Xec a0 qh10 a0 0 (by simp) _ h28 ?_ ?_))
  ·
   intro eo27;subst eo27
   refine X3.glue ?_
   try dsimp only at h
   revert h
   refine bI fun o93 h94=>rnI [] ?_
   intro h
   refine wkT [] (X3.cut (Xeb a0 qh10 a0 0 (by simp) _ h94 ?_ ?_))
   ·
    intro eo93;subst eo93
    refine X3.glue ?_
    try dsimp only at h
    revert h
    exact fun e=>oj e▸Xc [] (k:=fi)
   intro eo93;subst eo93
   refine X3.glue ?_
   try dsimp only at h
   revert h
   exact fun e=>oj e▸Xc [] (k:=fi)
  intro eo27;subst eo27
  refine X3.glue ?_
  try dsimp only at h
  revert h
  exact fun e=>oj e▸Xc [] (k:=fi)
 clear h;revert h7
 refine brI (fun h5=>?_) fun h5=>?_
 ·
  intro h
  obtain rfl:=oj h
  exact Xc [.el (aI .i64 (a0.length:Int)),.go false,.go false,.go false,.go false,.go false,.go false] (k:=wkT [] (X3.glue J))
 refine brI (fun h6=>?_) fun h6=>?_
 ·
  intro h
  obtain rfl:=oj h
  exact Xc [.el (aI .i64 (a0.length:Int)),.go true,.go true,.go true,.go true,.el (aI .i64 (a0.length:Int)),.go true,.go true] (k:=wkT [] (X3.glue J))
 intro h
 obtain rfl:=oj h
 exact Xc [.el (aI .i64 (a0.length:Int)),.go true,.go true,.go false,.go false,.go false,.go true] (k:=wkT [] (X3.glue J))⟩
instance Xzn:PCs Tryz.prog 94 (∀ (a0:X0w) (r:Bool),X87 a0=some r->X11 Tryz.prog 94 [(X3n a0)] (aB r)):=⟨fun a0 r h=>by
 refine X11.sym Xh fn94 (nt:=45) rfl rfl ?_ okM
 unfold X87 at h
 revert h
 exact brI (fun h1=>fun e=>oj e▸Xc [Bt] (k:=fi)) fun h1=>brI (fun h2=>fun e=>oj e▸Xc [Bf,Bt,.wrap] (k:=fi)) fun h2=>fun e=>oj e▸Xc [Bf,Bf] (k:=fi)⟩
instance Xys:PCs Tryz.prog 56 (∀ (a0:X03) (r:Int),X9s a0=some r->X11 Tryz.prog 56 [(Xl false a0)] (aI .i64 r)):=⟨fun a0 r h=>by
 refine X11.sym Xh fn56 (nt:=80) rfl rfl ?_ okM
 unfold X9s at h
 revert h
 refine brI (fun h1=>fun e=>oj e▸Xc [Bt] (k:=fi)) fun h1=>bI fun X03n h5=>rnI [Bf,.stop 3] ?_
 intro h
 refine X3.join (s':=⟨fr [(1,(AV.ptr 0 0 0)),(29,(aB X03n))],hp ([(0,Ob [(Xl false a0)] 10)]),1⟩) ?_ (fun J=>X3.cut ?_)
 ·
  revert h
  refine brI (fun h6=>fun e=>oj e▸Xc [Bt] (k:=fi)) fun h6=>bI fun Xx2 h14=>rnI [Bf,.stop 5] ?_
  intro h
  refine X3.join (s':=⟨fr [(1,(AV.ptr 0 0 0)),(38,(aB Xx2))],hp ([(0,Ob [(Xl false a0)] 10)]),1⟩) ?_ (fun J=>X3.cut ?_)
  ·
   revert h
   refine brI (fun h15=>bI fun v16 h17=>fun e=>oj e▸Xc [Bt,.pure _ (aI .i64 v16)] (k:=fi)) fun h15=>bI fun Xng h25=>rnI [Bf,.stop 7] ?_
   intro h
   refine X3.join (s':=⟨fr [(1,(AV.ptr 0 0 0)),(51,(aB Xng))],hp ([(0,Ob [(Xl false a0)] 10)]),1⟩) ?_ (fun J=>X3.cut ?_)
   ·
    revert h
    exact brI (fun h26=>bI fun v27 h28=>fun e=>oj e▸Xc [Bt,.pure _ (aI .i64 v27)] (k:=fi)) fun h26=>bI fun v29 h30=>brI (fun h31=>fun e=>oj e▸Xc [Bf,.pure _ (aI .i64 v29),Bt,.pure _ (aI .i64 v29)] (k:=fi)) fun h31=>bI fun v32 h33=>brI (fun h34=>fun e=>oj e▸Xc [Bf,.pure _ (aI .i64 v29),Bf,.pure _ (aB v32),Bt] (k:=fi)) fun h34=>fun e=>oj e▸Xc [Bf,.pure _ (aI .i64 v29),Bf,.pure _ (aB v32),Bf] (k:=fi)
   clear h;revert h25
   refine brI (fun h22=>?_) fun h22=>?_
   ·
    refine bI fun v23 h24=>?_
    intro h
    obtain rfl:=oj h
    exact Xc [.el (aI .i64 (a0.Where.length:Int)),.go true,.go true,.go true,.pure _ (aI .i64 v23),.go true] (k:=wkT [] (X3.glue J))
   intro h
   obtain rfl:=oj h
   exact Xc [.el (aI .i64 (a0.Where.length:Int)),.go false,.go false,.go false,.go false] (k:=wkT [] (X3.glue J))
  clear h;revert h14
  refine brI (fun h11=>?_) fun h11=>?_
  ·
   refine bI fun v12 h13=>?_
   intro h
   obtain rfl:=oj h
   exact Xc [.go true,.go true,.go true,.pure _ (aI .i64 v12),.go true] (k:=wkT [] (X3.glue J))
  intro h
  obtain rfl:=oj h
  exact Xc [.go false,.go false,.go false,.go false] (k:=wkT [] (X3.glue J))
 clear h;revert h5
 refine brI (fun h4=>?_) fun h4=>?_
 ·
  intro h
  obtain rfl:=oj h
  exact Xc [.go true,.go true,.go true,.el (aI .i64 (a0.Arg.length:Int)),.go true] (k:=wkT [] (X3.glue J))
 intro h
 obtain rfl:=oj h
 exact Xc [.go false,.go false,.go false,.go false] (k:=wkT [] (X3.glue J))⟩
instance Xyu:PCs Tryz.prog 155 (∀ (a0:Int) (r:Bool),X6v a0=some r->X11 Tryz.prog 155 [(aI .u8 a0)] (aB r)):=⟨fun a0 r h=>by
 refine X11.sym Xh X07i (nt:=9) rfl rfl ?_ okM
 unfold X6v at h
 revert h
 exact fun e=>oj e▸Xc [] (k:=fi)⟩
instance Xzo:PCs Tryz.prog 188 (∀ (a0:(List X0c)) (a1:Int) (r:Bool),Xb5 a0 a1=some r->X11 Tryz.prog 188 [(Lf (a0.map X1)),(aI .i64 a1)] (aB r)):=⟨fun a0 a1 r h=>by
 refine X11.sym Xh X07c (nt:=67) rfl rfl ?_ okM
 unfold Xb5 at h
 revert h
 refine bI fun e1 h2=>?_
 try have qh2:=Xn h2
 refine bI fun e3 h4=>?_
 try have qh4:=Xn h4
 refine bI fun v5 h6=>bI fun e7 h8=>?_
 try have qh8:=Xn h8
 exact bI fun v9 h10=>brI (fun h11=>fun e=>oj e▸Xc [.el (X1 e1),.el (X1 e3),.pure _ (aB v5),.el (X1 e7),.pure _ (aB v9),Bt] (k:=fi)) fun h11=>brI (fun h12=>fun e=>oj e▸Xc [.el (X1 e1),.el (X1 e3),.pure _ (aB v5),.el (X1 e7),.pure _ (aB v9),Bf,Bt] (k:=fi)) fun h12=>brI (fun h13=>fun e=>oj e▸Xc [.el (X1 e1),.el (X1 e3),.pure _ (aB v5),.el (X1 e7),.pure _ (aB v9),Bf,Bf,Bt] (k:=fi)) fun h13=>brI (fun h14=>fun e=>oj e▸Xc [.el (X1 e1),.el (X1 e3),.pure _ (aB v5),.el (X1 e7),.pure _ (aB v9),Bf,Bf,Bf,Bt] (k:=fi)) fun h14=>brI (fun h15=>fun e=>oj e▸Xc [.el (X1 e1),.el (X1 e3),.pure _ (aB v5),.el (X1 e7),.pure _ (aB v9),Bf,Bf,Bf,Bf,Bt] (k:=fi)) fun h15=>fun e=>oj e▸Xc [.el (X1 e1),.el (X1 e3),.pure _ (aB v5),.el (X1 e7),.pure _ (aB v9),Bf,Bf,Bf,Bf,Bf] (k:=fi)⟩
theorem Xfq {Q:X07->St->Mu->Prop} {μ:Mu} (X0y:(List X0c)) (hl:X0y.length<=140737488355328):∀ (xs:List X0c) (k:Nat) (hx:X0y.drop k=xs) (o:X6m) (h:X4e X0y xs k  = some o)
  (C0:o=X6m.x0->X3 Tryz.prog 17 0 Q (.exit (.exit 0)) [] ⟨fr [(0,(Lf (X0y.map X1)))],hp ([]),0⟩ μ)
  (C1:∀ (X4k:Int),o=X6m.x1 X4k->X3 Tryz.prog 17 0 Q (.exit .ret) [] ⟨fr [(2,(aI .i64 X4k))],hp ([]),0⟩ μ),
  X3 Tryz.prog 17 0 Q (.loop (X4t 0 (Xu Tryz.f154))) [] ⟨fr [(0,(Lf (X0y.map X1))),(3,(aI .i64 (k:Int)))],hp ([]),0⟩ μ:=by
 intro xs
 induction xs with
 |nil =>
  intro k hx  o h C0 C1
  have hk:=X1e hx
  have hc:decide ((k:Int)<(X0y.length:Int))=false:=Yf (by omega)
  rw[X4e] at h
  refine X3.round ?_
  revert h
  exact fun e=>Xc [.el (aI .i64 (X0y.length:Int)),Bf] (k:=wkT [] (C0  (oj e).symm))
 |cons x xs ih =>
  intro k hx  o h C0 C1
  obtain⟨hk,hg,hx1⟩:=X0t hx
  have hc:decide ((k:Int)<(X0y.length:Int))=true:=Yt (by omega)
  rw[X4e] at h
  refine X3.round ?_
  revert h
  refine bI fun v10 h11=>brI (fun h12=>fun e=>Xc [.el (aI .i64 (X0y.length:Int)),Bt,.pure _ (aB v10),Bt] (k:=wkT [] (C1 _  (oj e).symm))) fun h12=>rnI [.el (aI .i64 (X0y.length:Int)),Bt,.pure _ (aB v10),Bf] ?_
  intro h
  exact wkT [] (ih (k+1) hx1  o h C0 C1)
instance Xyt:PCs Tryz.prog 154 (∀ (a0:(List X0c)) (r:Int),Xbo a0=some r->X11 Tryz.prog 154 [(Lf (a0.map X1))] (aI .i64 r)):=⟨fun a0 r h=>by
 refine X11.sym Xh X07j (nt:=17) rfl rfl ?_ okM
 unfold Xbo at h
 revert h
 refine bI fun u1 h2=>?_
 have qh2:=X0u h2
 refine bI fun o13 h14=>rnI [] ?_
 intro h
 refine wkT [] (X3.cut (Xfq a0 qh2 a0 0 (by simp) _ h14 ?_ ?_))
 ·
  intro eo13;subst eo13
  refine X3.glue ?_
  try dsimp only at h
  revert h
  exact fun e=>oj e▸Xc [.el (aI .i64 (a0.length:Int))] (k:=fi)
 intro X4k eo13;subst eo13
 refine X3.glue ?_
 try dsimp only at h
 revert h
 exact fun e=>oj e▸Xc [] (k:=fi)⟩
instance X02l:PCs Tryz.prog 129 (∀ (a0:(List X0c)) (r:Bool×Int×Int),Xes a0=some r->X11 Tryz.prog 129 [(Lf (a0.map X1))] (AV.tup [(aB r.1),(aI .i64 r.2.1),(aI .i64 r.2.2)])):=⟨fun a0 r h=>by
 refine X11.sym Xh X07v (nt:=29) rfl rfl ?_ okM
 unfold Xes at h
 revert h
 refine bI fun v1 h2=>brI (fun h3=>fun e=>oj e▸Xc [.pure _ (aI .i64 v1),Bt,.pure _ (aI .i64 v1)] (k:=fi)) fun h3=>bI fun v4 h5=>brI (fun h6=>fun e=>oj e▸Xc [.pure _ (aI .i64 v1),Bf,.pure _ (aI .i64 v4),.el (aI .i64 (a0.length:Int)),Bt] (k:=fi)) fun h6=>bI fun e7 h8=>?_
 try have qh8:=Xn h8
 exact bI fun v9 h10=>fun e=>oj e▸Xc [.pure _ (aI .i64 v1),Bf,.pure _ (aI .i64 v4),.el (aI .i64 (a0.length:Int)),Bf,.el (aI .i64 (a0.length:Int)),.wrap,.el (X1 e7),.pure _ (aB v9),.el (aI .i64 (a0.length:Int)),.wrap] (k:=fi)⟩
instance Xzp:PCs Tryz.prog 95 (∀ (a0:(List X0c)) (a1:Bool) (r:Int×Int),X88 a0 a1=some r->X11 Tryz.prog 95 [(Lf (a0.map X1)),(aB a1)] (AV.tup [(aI .i64 r.1),(aI .i64 r.2)])):=⟨fun a0 a1 r h=>by
 refine X11.sym Xh fn95 (nt:=25) rfl rfl ?_ okM
 unfold X88 at h
 revert h
 exact bI fun v1 h2=>brI (fun h3=>fun e=>oj e▸Xc [.pure _ (AV.tup [(aB v1.1),(aI .i64 v1.2.1),(aI .i64 v1.2.2)]),Bt] (k:=fi)) fun h3=>fun e=>oj e▸Xc [.pure _ (AV.tup [(aB v1.1),(aI .i64 v1.2.1),(aI .i64 v1.2.2)]),Bf] (k:=fi)⟩
end Go.Av.Tryz