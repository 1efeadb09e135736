/- Printed by decomp.py: that the program computes the functions. -/
import Derived.Test.YtkjlgmgfhgamlaaGreatDCert9Z
set_option linter.all false

namespace Go.Av.Tryz
open Go.Proofs Go.D
set_option maxRecDepth 10000
set_option maxHeartbeats 40000000
instance Xuj:PCs Tryz.prog 11 (∀ (r:Bool),Xay=some r->X0l Tryz.prog 11 [] (aB r)):=⟨fun r h=>by
 refine X0l.sym X6 fn11 (nt:=29) rfl rfl ?_ okM
 unfold Xay at h
 revert h
 refine bI fun v1 h2=>bI fun v3 h4=>bI fun v5 h6=>bI fun v7 h8=>bI fun v9 h10=>bI fun Xz8 h24=>rnI [.pure _ (Xx true v1),.pure _ (Xh v3),.pure _ (Xh v5),.pure _ (Xh v7),.pure _ (Xh v7),.pure _ (AV.tup [(Xk true v9.1),(AV.list true (v9.2.1.map Xe)),(aB v9.2.2)]),.stop 2] ?_
 intro h
 refine X3.join (s':=⟨fr [(0,(aB Xz8))],hp ([]),0⟩) ?_ (fun J=>X3.cut ?_)
 ·
  revert h
  exact fun e=>oj e▸X9 [] (k:=fi)
 clear h;revert h24
 refine brI (fun h18=>?_) fun h18=>?_
 ·
  refine bI fun v19 h20=>bI fun v21 h22=>brI (fun h23=>?_) fun h23=>?_
  ·
   intro h
   obtain rfl:=oj h
   exact X9 [.go true,.go true,.pure _ (Xe v19),.go true,.go true,.pure _ (aB v21),.go true,.go true,.go true,.el (aI .i64 (v9.1.Store.length:Int)),.go true] (o:=by repeat' first|apply Ya|exact pcM|exact((Xb h18 h23))|exact(Xf (Xb h18 h23))|exact(X4e (Xb h18 h23))|exact Xu) (k:=wkT [] (X3.glue J))
  intro h
  obtain rfl:=oj h
  exact X9 [.go true,.go true,.pure _ (Xe v19),.go true,.go true,.pure _ (aB v21),.go false,.go false,.go false,.go false] (o:=by repeat' first|apply Ya|exact pcM|exact((Xb h18 h23))|exact(Xf (Xb h18 h23))|exact(Xb6 (Xb h18 h23))|exact Xu) (k:=wkT [] (X3.glue J))
 intro h
 obtain rfl:=oj h
 exact X9 [.go false,.go false,.go false,.go false,.go false,.go false,.go false,.go false] (o:=by repeat' first|apply Ya|exact pcM|exact((Xa h18 rfl))|exact(Xf (Xa h18 rfl))|exact(Xb6 (Xa h18 rfl))|exact Xu) (k:=wkT [] (X3.glue J))⟩
instance Xui:PCs Tryz.prog 12 (∀ (a0:X06) (r:Bool),X95 a0=some r->X0l Tryz.prog 12 [(Xx false a0)] (aB r)):=⟨fun a0 r h=>by
 refine X0l.sym X6 fn12 (nt:=19) rfl rfl ?_ okM
 unfold X95 at h
 revert h
 refine bI fun j3_2 h6=>rnI [.stop 1] ?_
 intro h
 refine X3.join (s':=⟨fr [(2,(aB j3_2))],hp ([]),0⟩) ?_ (fun J=>X3.cut ?_)
 ·
  revert h
  exact fun e=>oj e▸X9 [] (k:=fi)
 clear h;revert h6
 refine brI (fun h4=>?_) fun h4=>?_
 ·
  intro h
  obtain rfl:=oj h
  exact X9 [.el (aI .i64 (a0.Arg.length:Int)),.go false,.go false,.go false,.go false,.go false,.go false,.go false,.go false] (o:=by repeat' first|apply Ya|exact pcM|exact((Xb h4 rfl))|exact(Xf (Xb h4 rfl))|exact(X4e (Xb h4 rfl))|exact Xu) (k:=wkT [] (X3.glue J))
 refine brI (fun h5=>?_) fun h5=>?_
 ·
  intro h
  obtain rfl:=oj h
  exact X9 [.el (aI .i64 (a0.Arg.length:Int)),.go true,.go true,.go true,.el (aI .i64 (a0.Where.length:Int)),.go true,.go false,.go false,.go false,.go false] (o:=by repeat' first|apply Ya|exact pcM|exact((Xa h4 h5))|exact(Xf (Xa h4 h5))|exact(X4e (Xa h4 h5))|exact Xu) (k:=wkT [] (X3.glue J))
 intro h
 obtain rfl:=oj h
 exact X9 [.el (aI .i64 (a0.Arg.length:Int)),.go true,.go true,.go true,.el (aI .i64 (a0.Where.length:Int)),.go true,.go true,.go true,.go true,.el (aI .i64 (a0.Sources.length:Int)),.go true] (o:=by repeat' first|apply Ya|exact pcM|exact((Xa h4 h5))|exact(Xf (Xa h4 h5))|exact(Xb6 (Xa h4 h5))|exact Xu) (k:=wkT [] (X3.glue J))⟩
instance Xu9:PCs Tryz.prog 173 (∀ (a0:Int) (r:Int),Xau a0=some r->X0l Tryz.prog 173 [(aI .u8 a0)] (aI .i64 r)):=⟨fun a0 r h=>by
 refine X0l.sym X6 X03c (nt:=7) rfl rfl ?_ okM
 unfold Xau at h
 revert h
 exact brI (fun h1=>fun e=>oj e▸X9 [Bt] (k:=fi)) fun h1=>brI (fun h2=>fun e=>oj e▸X9 [Bf,Bt] (k:=fi)) fun h2=>fun e=>oj e▸X9 [Bf,Bf] (k:=fi)⟩
instance Xu7:PCs Tryz.prog 174 (∀ (a0:X07) (a1:Int) (a2:Int) (r:Bool),X66 a0 a1 a2=some r->X0l Tryz.prog 174 [(X5 a0),(aI .i64 a1),(aI .i64 a2)] (aB r)):=⟨fun a0 a1 a2 r h=>by
 refine X0l.sym X6 X03b (nt:=52) rfl rfl ?_ okM
 unfold X66 at h
 revert h
 exact fun e=>oj e▸X9 [] (k:=fi)⟩
theorem Xej {Q:X00->St->Mu->Prop} {μ:Mu} (X16:(List X07)) (hl:X16.length<=140737488355328):∀ (xs:List X07) (k:Nat) (hx:X16.drop k=xs) (Xt:(List Int)) (Xp:(List Int)) (X22:Nb Xt) (Xv:Nb Xp) (o:X4o) (h:X1s X16 xs k Xt Xp=some o)
  (C0:∀ (X0a:(List Int)) (X09:(List Int)) (X0r:Nb X0a) (X0m:Nb X09),o=X4o.x0 X0a X09->X3 Tryz.prog 102 0 Q (.exit (.exit 0)) [] ⟨fr [(0,(Lf (X16.map X5))),(5,(slE X0r.1 0 (List.map (aI .i64) X0a))),(6,(slE X0m.1 1 (List.map (aI .i64) X09)))],hp ([]++opE X0r.1 0 1 (List.map (aI .i64) X0a)++opE X0m.1 1 1 (List.map (aI .i64) X09)),2⟩ μ)
  (C1:∀ (X1l:(List Int)) (X51:(List Int)) (X1g:Nb X1l) (X4r:Nb X51),o=X4o.x1 X1l X51->X3 Tryz.prog 102 0 Q (.exit .ret) [] ⟨fr [(2,(slE X1g.1 0 (List.map (aI .i64) X1l))),(3,(slE X4r.1 1 (List.map (aI .i64) X51))),(4,(aB false))],hp ([]++opE X1g.1 0 1 (List.map (aI .i64) X1l)++opE X4r.1 1 1 (List.map (aI .i64) X51)),2⟩ μ),
  X3 Tryz.prog 102 0 Q (.loop (X5f 0 (Xi Tryz.f155))) [] ⟨fr [(0,(Lf (X16.map X5))),(5,(slE X22.1 0 (List.map (aI .i64) Xt))),(6,(slE Xv.1 1 (List.map (aI .i64) Xp))),(7,(aI .i64 (k:Int)))],hp ([]++opE X22.1 0 1 (List.map (aI .i64) Xt)++opE Xv.1 1 1 (List.map (aI .i64) Xp)),2⟩ μ:=by
 intro xs
 induction xs with
 |nil =>
  intro k hx Xt Xp X22 Xv o h C0 C1
  have hk:=drop_nil hx
  have hc:decide ((k:Int)<(X16.length:Int))=false:=Yf (by omega)
  rw[X1s] at h
  rcases X22 with ⟨_|_,X5i⟩
  ·
   rcases Xv with ⟨_|_,X0h⟩
   ·
    refine X3.round ?_
    revert h
    exact fun e=>X9 [.el (aI .i64 (X16.length:Int)),Bf] (k:=wkT [] (C0 _ _  nbF nbF (oj e).symm))
   obtain rfl:=X0h rfl
   refine X3.round ?_
   revert h
   exact fun e=>X9 [.el (aI .i64 (X16.length:Int)),Bf] (k:=wkT [] (C0 _ _  nbF nbS (oj e).symm))
  ·
   obtain rfl:=X5i rfl
   rcases Xv with ⟨_|_,X0h⟩
   ·
    refine X3.round ?_
    revert h
    exact fun e=>X9 [.el (aI .i64 (X16.length:Int)),Bf] (k:=wkT [] (C0 _ _  nbS nbF (oj e).symm))
   ·
    obtain rfl:=X0h rfl
    refine X3.round ?_
    revert h
    exact fun e=>X9 [.el (aI .i64 (X16.length:Int)),Bf] (k:=wkT [] (C0 _ _  nbS nbS (oj e).symm))
 |cons x xs ih =>
  intro k hx Xt Xp X22 Xv o h C0 C1
  obtain⟨hk,hg,hx1⟩:=X15 hx
  have hc:decide ((k:Int)<(X16.length:Int))=true:=Yt (by omega)
  rw[X1s] at h
  rcases X22 with ⟨_|_,X5i⟩
  ·
   rcases Xv with ⟨_|_,X0h⟩
   ·
    refine X3.round ?_
    revert h
    refine bI fun v156 h157=>brI (fun h158=>?_) fun h158=>?_
    ·
     refine brI (fun h159=>fun e=>X9 [.el (aI .i64 (X16.length:Int)),Bt,.el (X5 x),.pure _ (aI .i64 v156),Bt,.wrap,Bt] (k:=wkT [] (C1 _ _  nbS nbS (oj e).symm))) fun h159=>bI fun e160 h161=>?_
     try have qh161:=Xs h161
     refine bI fun e162 h163=>?_
     try have qh163:=Xs h163
     refine rnI [.el (aI .i64 (X16.length:Int)),Bt,.el (X5 x),.pure _ (aI .i64 v156),Bt,.wrap,Bf,.el (aI .i64 e160),.ld (aI .i64 e160),.wrap,.el (aI .i64 e160),.ld (aI .i64 e160),.wrap,.el (aI .i64 e162),.ld (aI .i64 e162),.wrap] ?_
     refine brI (fun h164=>?_) fun h164=>?_
     ·
      refine brI (fun h165=>fun e=>X9 [Bt,Bt] (k:=wkT [] (C1 _ _  nbS nbS (oj e).symm))) fun h165=>bI fun e166 h167=>?_
      try have qh167:=Xs h167
      refine bI fun e168 h169=>?_
      try have qh169:=Xs h169
      refine bI fun v170 h171=>rnI [Bt,Bf,.el (aI .i64 e166),.ld (aI .i64 e166),.wrap,.el (aI .i64 e168),.ld (aI .i64 e168),.wrap,.el (X5 x),.pure _ (aB v170)] ?_
      refine brI (fun h172=>fun e=>X9 [Bt] (k:=wkT [] (C1 _ _  nbS nbS (oj e).symm))) fun h172=>?_
      refine bI fun u173 h174=>bI fun u175 h176=>rnI [Bf,.no,.no] (o:=by repeat' first|apply Ya|exact pcM|(refine Xd h174 rfl ?_;first|(simp;done)|(simp;omega)|(simp[hc,h158,h159,h164,h165,h172];done)|(simp[hc,h158,h159,h164,h165,h172];omega))|(refine X7 h174 (by decide) ?_;first|(simp;done)|(simp;omega)|(simp[hc,h158,h159,h164,h165,h172];done)|(simp[hc,h158,h159,h164,h165,h172];omega))|(refine Xd h176 rfl ?_;first|(simp;done)|(simp;omega)|(simp[hc,h158,h159,h164,h165,h172];done)|(simp[hc,h158,h159,h164,h165,h172];omega))|(refine X7 h176 (by decide) ?_;first|(simp;done)|(simp;omega)|(simp[hc,h158,h159,h164,h165,h172];done)|(simp[hc,h158,h159,h164,h165,h172];omega))|exact Xu) ?_
      intro h
      exact wkT [(0,3),(1,5)] (ih (k+1) hx1 _ _ nbF nbF o h C0 C1)
     refine bI fun v177 h178=>brI (fun h179=>fun e=>X9 [Bf,.el (X5 x),.pure _ (aB v177),Bt] (k:=wkT [] (C1 _ _  nbS nbS (oj e).symm))) fun h179=>?_
     refine bI fun u180 h181=>bI fun u182 h183=>rnI [Bf,.el (X5 x),.pure _ (aB v177),Bf,.no,.no] (o:=by repeat' first|apply Ya|exact pcM|(refine Xd h181 rfl ?_;first|(simp;done)|(simp;omega)|(simp[hc,h158,h159,h164,h179];done)|(simp[hc,h158,h159,h164,h179];omega))|(refine X7 h181 (by decide) ?_;first|(simp;done)|(simp;omega)|(simp[hc,h158,h159,h164,h179];done)|(simp[hc,h158,h159,h164,h179];omega))|(refine Xd h183 rfl ?_;first|(simp;done)|(simp;omega)|(simp[hc,h158,h159,h164,h179];done)|(simp[hc,h158,h159,h164,h179];omega))|(refine X7 h183 (by decide) ?_;first|(simp;done)|(simp;omega)|(simp[hc,h158,h159,h164,h179];done)|(simp[hc,h158,h159,h164,h179];omega))|exact Xu) ?_
     intro h
     exact wkT [(0,3),(1,5)] (ih (k+1) hx1 _ _ nbF nbF o h C0 C1)
    refine bI fun v184 h185=>brI (fun h186=>fun e=>X9 [.el (aI .i64 (X16.length:Int)),Bt,.el (X5 x),.pure _ (aI .i64 v156),Bf,.el (X5 x),.pure _ (aB v184),Bt] (k:=wkT [] (C1 _ _  nbS nbS (oj e).symm))) fun h186=>?_
    refine bI fun u187 h188=>bI fun u189 h190=>rnI [.el (aI .i64 (X16.length:Int)),Bt,.el (X5 x),.pure _ (aI .i64 v156),Bf,.el (X5 x),.pure _ (aB v184),Bf,.no,.no] (o:=by repeat' first|apply Ya|exact pcM|(refine Xd h188 rfl ?_;first|(simp;done)|(simp;omega)|(simp[hc,h158,h186];done)|(simp[hc,h158,h186];omega))|(refine X7 h188 (by decide) ?_;first|(simp;done)|(simp;omega)|(simp[hc,h158,h186];done)|(simp[hc,h158,h186];omega))|(refine Xd h190 rfl ?_;first|(simp;done)|(simp;omega)|(simp[hc,h158,h186];done)|(simp[hc,h158,h186];omega))|(refine X7 h190 (by decide) ?_;first|(simp;done)|(simp;omega)|(simp[hc,h158,h186];done)|(simp[hc,h158,h186];omega))|exact Xu) ?_
    intro h
    exact wkT [(0,3),(1,5)] (ih (k+1) hx1 _ _ nbF nbF o h C0 C1)
   obtain rfl:=X0h rfl
   refine X3.round ?_
   revert h
   refine bI fun v191 h192=>brI (fun h193=>?_) fun h193=>?_
   ·
    refine brI (fun h194=>fun e=>X9 [.el (aI .i64 (X16.length:Int)),Bt,.el (X5 x),.pure _ (aI .i64 v191),Bt,.wrap,Bt] (k:=wkT [] (C1 _ _  nbS nbS (oj e).symm))) fun h194=>bI fun e195 h196=>?_
    try have qh196:=Xs h196
    refine bI fun e197 h198=>?_
    try have qh198:=Xs h198
    intro h
    exact absurd (h198) (by simp[X3c])
   refine bI fun v199 h200=>brI (fun h201=>fun e=>X9 [.el (aI .i64 (X16.length:Int)),Bt,.el (X5 x),.pure _ (aI .i64 v191),Bf,.el (X5 x),.pure _ (aB v199),Bt] (k:=wkT [] (C1 _ _  nbS nbS (oj e).symm))) fun h201=>?_
   refine bI fun u202 h203=>bI fun u204 h205=>rnI [.el (aI .i64 (X16.length:Int)),Bt,.el (X5 x),.pure _ (aI .i64 v191),Bf,.el (X5 x),.pure _ (aB v199),Bf,.no,.no] (o:=by repeat' first|apply Ya|exact pcM|(refine Xd h203 rfl ?_;first|(simp;done)|(simp;omega)|(simp[hc,h193,h201];done)|(simp[hc,h193,h201];omega))|(refine X7 h203 (by decide) ?_;first|(simp;done)|(simp;omega)|(simp[hc,h193,h201];done)|(simp[hc,h193,h201];omega))|(refine Xd h205 rfl ?_;first|(simp;done)|(simp;omega)|(simp[hc,h193,h201];done)|(simp[hc,h193,h201];omega))|(refine X7 h205 (by decide) ?_;first|(simp;done)|(simp;omega)|(simp[hc,h193,h201];done)|(simp[hc,h193,h201];omega))|exact Xu) ?_
   intro h
   exact wkT [(0,3),(1,5)] (ih (k+1) hx1 _ _ nbF nbF o h C0 C1)
  obtain rfl:=X5i rfl
  rcases Xv with ⟨_|_,X0h⟩
  ·
   refine X3.round ?_
   revert h
   refine bI fun v206 h207=>brI (fun h208=>?_) fun h208=>?_
   ·
    refine brI (fun h209=>fun e=>X9 [.el (aI .i64 (X16.length:Int)),Bt,.el (X5 x),.pure _ (aI .i64 v206),Bt,.wrap,Bt] (k:=wkT [] (C1 _ _  nbS nbS (oj e).symm))) fun h209=>bI fun e210 h211=>?_
    try have qh211:=Xs h211
    intro h
    exact absurd (h211) (by simp[X3c])
   refine bI fun v212 h213=>brI (fun h214=>fun e=>X9 [.el (aI .i64 (X16.length:Int)),Bt,.el (X5 x),.pure _ (aI .i64 v206),Bf,.el (X5 x),.pure _ (aB v212),Bt] (k:=wkT [] (C1 _ _  nbS nbS (oj e).symm))) fun h214=>?_
   refine bI fun u215 h216=>bI fun u217 h218=>rnI [.el (aI .i64 (X16.length:Int)),Bt,.el (X5 x),.pure _ (aI .i64 v206),Bf,.el (X5 x),.pure _ (aB v212),Bf,.no,.no] (o:=by repeat' first|apply Ya|exact pcM|(refine Xd h216 rfl ?_;first|(simp;done)|(simp;omega)|(simp[hc,h208,h214];done)|(simp[hc,h208,h214];omega))|(refine X7 h216 (by decide) ?_;first|(simp;done)|(simp;omega)|(simp[hc,h208,h214];done)|(simp[hc,h208,h214];omega))|(refine Xd h218 rfl ?_;first|(simp;done)|(simp;omega)|(simp[hc,h208,h214];done)|(simp[hc,h208,h214];omega))|(refine X7 h218 (by decide) ?_;first|(simp;done)|(simp;omega)|(simp[hc,h208,h214];done)|(simp[hc,h208,h214];omega))|exact Xu) ?_
   intro h
   exact wkT [(0,3),(1,5)] (ih (k+1) hx1 _ _ nbF nbF o h C0 C1)
  obtain rfl:=X0h rfl
  refine X3.round ?_
  revert h
  refine bI fun v219 h220=>brI (fun h221=>?_) fun h221=>?_
  ·
   refine brI (fun h222=>fun e=>X9 [.el (aI .i64 (X16.length:Int)),Bt,.el (X5 x),.pure _ (aI .i64 v219),Bt,.wrap,Bt] (k:=wkT [] (C1 _ _  nbS nbS (oj e).symm))) fun h222=>bI fun e223 h224=>?_
   try have qh224:=Xs h224
   intro h
   exact absurd (h224) (by simp[X3c])
  refine bI fun v225 h226=>brI (fun h227=>fun e=>X9 [.el (aI .i64 (X16.length:Int)),Bt,.el (X5 x),.pure _ (aI .i64 v219),Bf,.el (X5 x),.pure _ (aB v225),Bt] (k:=wkT [] (C1 _ _  nbS nbS (oj e).symm))) fun h227=>?_
  refine bI fun u228 h229=>bI fun u230 h231=>rnI [.el (aI .i64 (X16.length:Int)),Bt,.el (X5 x),.pure _ (aI .i64 v219),Bf,.el (X5 x),.pure _ (aB v225),Bf,.no,.no] (o:=by repeat' first|apply Ya|exact pcM|(refine Xd h229 rfl ?_;first|(simp;done)|(simp;omega)|(simp[hc,h221,h227];done)|(simp[hc,h221,h227];omega))|(refine X7 h229 (by decide) ?_;first|(simp;done)|(simp;omega)|(simp[hc,h221,h227];done)|(simp[hc,h221,h227];omega))|(refine Xd h231 rfl ?_;first|(simp;done)|(simp;omega)|(simp[hc,h221,h227];done)|(simp[hc,h221,h227];omega))|(refine X7 h231 (by decide) ?_;first|(simp;done)|(simp;omega)|(simp[hc,h221,h227];done)|(simp[hc,h221,h227];omega))|exact Xu) ?_
  intro h
  exact wkT [(0,3),(1,5)] (ih (k+1) hx1 _ _ nbF nbF o h C0 C1)
instance Xu8:PCs Tryz.prog 155 (∀ (a0:(List X07)) (r:(List Int)×(List Int)×Bool),Xat a0=some r->X0l Tryz.prog 155 [(Lf (a0.map X5))] (AV.tup [(AV.list true (List.map (aI .i64) r.1)),(AV.list true (List.map (aI .i64) r.2.1)),(aB r.2.2)])):=⟨fun a0 r h=>by
 refine X0l.sym X6 X03k (nt:=102) rfl rfl ?_ okM
 unfold Xat at h
 revert h
 refine bI fun u1 h2=>?_
 have qh2:=X0k h2
 refine bI fun o232 h233=>rnI [] ?_
 intro h
 refine wkT [] (X3.cut (Xej a0 qh2 a0 0 (by simp) _ _ nbS nbS _ h233 ?_ ?_))
 ·
  intro X0a X09 X0r X0m eo232;subst eo232
  refine X3.glue ?_
  try dsimp only at h
  rcases X0r with ⟨_|_,X4b⟩
  ·
   rcases X0m with ⟨_|_,X2s⟩
   ·
    revert h
    refine bI fun Xsr h241=>rnI [.stop 25] ?_
    intro h
    refine X3.join (s':=⟨fr [(2,(AV.ref 0 0 (X0a.length))),(3,(AV.ref 1 0 (X09.length))),(4,(aB Xsr))],hp ([(0,Ob (List.map (aI .i64) X0a) 1),(1,Ob (List.map (aI .i64) X09) 1)]),2⟩) ?_ (fun J=>X3.cut ?_)
    ·
     revert h
     exact fun e=>oj e▸X9 [] (k:=fi)
    clear h;revert h241
    refine brI (fun h238=>?_) fun h238=>?_
    ·
     refine bI fun e239 h240=>?_
     try have qh240:=Xs h240
     intro h
     obtain rfl:=oj h
     exact X9 [.el (aI .i64 (a0.length:Int)),.go true,.go true,.go true,.el (aI .i64 (a0.length:Int)),.go true,.wrap,.go true,.el (aI .i64 e239),.go true,.ld (aI .i64 e239),.go true,.go true,.el (aI .i64 (a0.length:Int)),.go true] (k:=wkT [] (X3.glue J))
    intro h
    obtain rfl:=oj h
    exact X9 [.el (aI .i64 (a0.length:Int)),.go false,.go false,.go false,.go false,.go false,.go false,.go false,.go false,.go false,.go false] (k:=wkT [] (X3.glue J))
   obtain rfl:=X2s rfl
   revert h
   refine bI fun X01b h249=>rnI [.stop 25] ?_
   intro h
   refine X3.join (s':=⟨fr [(2,(AV.ref 0 0 (X0a.length))),(3,AV.nils),(4,(aB X01b))],hp ([(0,Ob (List.map (aI .i64) X0a) 1)]),2⟩) ?_ (fun J=>X3.cut ?_)
   ·
    revert h
    exact fun e=>oj e▸X9 [] (k:=fi)
   clear h;revert h249
   refine brI (fun h246=>?_) fun h246=>?_
   ·
    refine bI fun e247 h248=>?_
    try have qh248:=Xs h248
    intro h
    obtain rfl:=oj h
    exact X9 [.el (aI .i64 (a0.length:Int)),.go true,.go true,.go true,.el (aI .i64 (a0.length:Int)),.go true,.wrap,.go true,.el (aI .i64 e247),.go true,.ld (aI .i64 e247),.go true,.go true,.el (aI .i64 (a0.length:Int)),.go true] (k:=wkT [] (X3.glue J))
   intro h
   obtain rfl:=oj h
   exact X9 [.el (aI .i64 (a0.length:Int)),.go false,.go false,.go false,.go false,.go false,.go false,.go false,.go false,.go false,.go false] (k:=wkT [] (X3.glue J))
  obtain rfl:=X4b rfl
  rcases X0m with ⟨_|_,X2s⟩
  ·
   revert h
   refine bI fun X01a h257=>rnI [.stop 25] ?_
   intro h
   refine X3.join (s':=⟨fr [(2,AV.nils),(3,(AV.ref 1 0 (X09.length))),(4,(aB X01a))],hp ([(1,Ob (List.map (aI .i64) X09) 1)]),2⟩) ?_ (fun J=>X3.cut ?_)
   ·
    revert h
    exact fun e=>oj e▸X9 [] (k:=fi)
   clear h;revert h257
   refine brI (fun h254=>?_) fun h254=>?_
   ·
    refine bI fun e255 h256=>?_
    try have qh256:=Xs h256
    intro h
    exact absurd (h256) (by simp[X3c])
   intro h
   obtain rfl:=oj h
   exact X9 [.el (aI .i64 (a0.length:Int)),.go false,.go false,.go false,.go false,.go false,.go false,.go false,.go false,.go false,.go false] (k:=wkT [] (X3.glue J))
  obtain rfl:=X2s rfl
  revert h
  refine bI fun X019 h265=>rnI [.stop 25] ?_
  intro h
  refine X3.join (s':=⟨fr [(2,AV.nils),(3,AV.nils),(4,(aB X019))],hp ([]),2⟩) ?_ (fun J=>X3.cut ?_)
  ·
   revert h
   exact fun e=>oj e▸X9 [] (k:=fi)
  clear h;revert h265
  refine brI (fun h262=>?_) fun h262=>?_
  ·
   refine bI fun e263 h264=>?_
   try have qh264:=Xs h264
   intro h
   exact absurd (h264) (by simp[X3c])
  intro h
  obtain rfl:=oj h
  exact X9 [.el (aI .i64 (a0.length:Int)),.go false,.go false,.go false,.go false,.go false,.go false,.go false,.go false,.go false,.go false] (k:=wkT [] (X3.glue J))
 intro X1l X51 X1g X4r eo232;subst eo232
 refine X3.glue ?_
 try dsimp only at h
 rcases X1g with ⟨_|_,X5h⟩
 ·
  rcases X4r with ⟨_|_,Xah⟩
  ·
   revert h
   exact fun e=>oj e▸X9 [] (k:=fi)
  obtain rfl:=Xah rfl
  revert h
  exact fun e=>oj e▸X9 [] (k:=fi)
 obtain rfl:=X5h rfl
 rcases X4r with ⟨_|_,Xah⟩
 ·
  revert h
  exact fun e=>oj e▸X9 [] (k:=fi)
 obtain rfl:=Xah rfl
 revert h
 exact fun e=>oj e▸X9 [] (k:=fi)⟩
instance Xua:PCs Tryz.prog 127 (∀ (a0:(List X07)) (r:Int),X4j a0=some r->X0l Tryz.prog 127 [(Lf (a0.map X5))] (aI .i64 r)):=⟨fun a0 r h=>by
 refine X0l.sym X6 X040 (nt:=24) rfl rfl ?_ okM
 unfold X4j at h
 revert h
 refine brI (fun h1=>fun e=>oj e▸X9 [.el (aI .i64 (a0.length:Int)),Bt] (k:=fi)) fun h1=>bI fun v2 h3=>rnI [.el (aI .i64 (a0.length:Int)),Bf,.pure _ (AV.tup [(AV.list true (List.map (aI .i64) v2.1)),(AV.list true (List.map (aI .i64) v2.2.1)),(aB v2.2.2)])] ?_
 refine brI (fun h4=>fun e=>oj e▸X9 [Bt] (k:=fi)) fun h4=>bI fun e5 h6=>?_
 try have qh6:=Xs h6
 exact brI (fun h7=>fun e=>oj e▸X9 [Bf,.el (aI .i64 (a0.length:Int)),.wrap,.el (aI .i64 e5),Bt] (k:=fi)) fun h7=>fun e=>oj e▸X9 [Bf,.el (aI .i64 (a0.length:Int)),.wrap,.el (aI .i64 e5),Bf] (k:=fi)⟩
theorem Xd4 {Q:X00->St->Mu->Prop} {μ:Mu} (X16:(List Int)) (hl:X16.length<=140737488355328):∀ (xs:List Int) (k:Nat) (hx:X16.drop k=xs) (o:X4z) (h:X34 X16 xs k  = some o)
  (C0:o=X4z.x0->X3 Tryz.prog 60 0 Q (.exit (.exit 0)) [] ⟨fr [(0,(Lf (List.map (aI .i64) X16)))],hp ([]),0⟩ μ)
  (C1:o=X4z.x1->X3 Tryz.prog 60 0 Q (.exit .ret) [] ⟨fr [(4,(aI .i64 8))],hp ([]),0⟩ μ),
  X3 Tryz.prog 60 0 Q (.loop (X5f 0 (Xi Tryz.f128))) [] ⟨fr [(0,(Lf (List.map (aI .i64) X16))),(5,(aI .i64 (k:Int)))],hp ([]),0⟩ μ:=by
 intro xs
 induction xs with
 |nil =>
  intro k hx  o h C0 C1
  have hk:=drop_nil hx
  have hc:decide ((k:Int)<(X16.length:Int))=false:=Yf (by omega)
  rw[X34] at h
  refine X3.round ?_
  revert h
  exact fun e=>X9 [.el (aI .i64 (X16.length:Int)),Bf] (k:=wkT [] (C0  (oj e).symm))
 |cons x xs ih =>
  intro k hx  o h C0 C1
  obtain⟨hk,hg,hx1⟩:=X15 hx
  have hc:decide ((k:Int)<(X16.length:Int))=true:=Yt (by omega)
  rw[X34] at h
  refine X3.round ?_
  revert h
  refine bI fun Xsq h25=>rnI [.el (aI .i64 (X16.length:Int)),Bt,.stop 8] ?_
  intro h
  refine X3.join (s':=⟨fr [(0,(Lf (List.map (aI .i64) X16))),(5,(aI .i64 (k:Int))),(39,(aB Xsq))],hp ([]),0⟩) ?_ (fun J=>X3.cut ?_)
  ·
   revert h
   refine brI (fun h26=>fun e=>X9 [Bt] (k:=wkT [] (C1  (oj e).symm))) fun h26=>rnI [Bf] ?_
   intro h
   exact wkT [] (ih (k+1) hx1  o h C0 C1)
  clear h;revert h25
  refine brI (fun h24=>?_) fun h24=>?_
  ·
   intro h
   obtain rfl:=oj h
   exact X9 [.el (aI .i64 x),.go false,.go false,.go false,.go false,.go false] (k:=wkT [] (X3.glue J))
  intro h
  obtain rfl:=oj h
  exact X9 [.el (aI .i64 x),.go true,.go true,.go true,.el (aI .i64 x),.go true,.go true] (k:=wkT [] (X3.glue J))
theorem Xd2 {Q:X00->St->Mu->Prop} {μ:Mu} (Xxm:(List Int)) (Xxl:Int):∀ (n:Nat) (Xws:Int) (o:X4x) (h:X33 Xxm Xxl n Xws=some o)
  (C0:o=X4x.x0->X3 Tryz.prog 60 0 Q (.exit .ret) [] ⟨fr [(4,(aI .i64 43))],hp ([]),0⟩ μ)
  (C1:o=X4x.x1->X3 Tryz.prog 60 0 Q (.exit (.exit 4)) [] ⟨fr [(0,(Lf (List.map (aI .i64) Xxm))),(6,(aI .i64 Xxl))],hp ([]),0⟩ μ),
  X3 Tryz.prog 60 0 Q (.loop (X5f 2 (Xi Tryz.f128))) [] ⟨fr [(0,(Lf (List.map (aI .i64) Xxm))),(6,(aI .i64 Xxl)),(7,(aI .i64 Xws))],hp ([]),0⟩ μ:=by
 intro n
 induction n with
 |zero=>intro Xws o h C0 C1;cases h
 |succ n ih =>
  intro Xws o h C0 C1
  rw[X33] at h
  refine X3.round ?_
  revert h
  refine brI (fun h85=>?_) fun h85=>fun e=>X9 [Bf] (k:=wkT [] (C1  (oj e).symm))
  refine bI fun e86 h87=>?_
  try have qh87:=Xs h87
  refine bI fun e88 h89=>?_
  try have qh89:=Xs h89
  refine brI (fun h90=>fun e=>X9 [Bt,.el (aI .i64 e86),.el (aI .i64 e88),Bt] (k:=wkT [] (C0  (oj e).symm))) fun h90=>rnI [Bt,.el (aI .i64 e86),.el (aI .i64 e88),Bf,.wrap] ?_
  intro h
  exact wkT [] (ih  _ o h C0 C1)
theorem Xd3 {Q:X00->St->Mu->Prop} {μ:Mu} (Xqq:(List Int)) (hl:Xqq.length<=140737488355328):∀ (xs:List Int) (k:Nat) (hx:Xqq.drop k=xs) (o:X4y) (h:X2m Xqq xs k  = some o)
  (C0:o=X4y.x0->X3 Tryz.prog 60 0 Q (.exit (.exit 2)) [] ⟨fr [],hp ([]),0⟩ μ)
  (C1:o=X4y.x1->X3 Tryz.prog 60 0 Q (.exit .ret) [] ⟨fr [(4,(aI .i64 43))],hp ([]),0⟩ μ),
  X3 Tryz.prog 60 0 Q (.loop (X5f 1 (Xi Tryz.f128))) [] ⟨fr [(0,(Lf (List.map (aI .i64) Xqq))),(6,(aI .i64 (k:Int)))],hp ([]),0⟩ μ:=by
 intro xs
 induction xs with
 |nil =>
  intro k hx  o h C0 C1
  have hk:=drop_nil hx
  have hc:decide ((k:Int)<(Xqq.length:Int))=false:=Yf (by omega)
  rw[X2m] at h
  refine X3.round ?_
  revert h
  exact fun e=>X9 [.el (aI .i64 (Xqq.length:Int)),Bf] (k:=wkT [] (C0  (oj e).symm))
 |cons x xs ih =>
  intro k hx  o h C0 C1
  obtain⟨hk,hg,hx1⟩:=X15 hx
  have hc:decide ((k:Int)<(Xqq.length:Int))=true:=Yt (by omega)
  rw[X2m] at h
  refine X3.round ?_
  revert h
  refine bI fun o91 h92=>rnI [.el (aI .i64 (Xqq.length:Int)),Bt] ?_
  intro h
  refine wkT [] (X3.cut (Xd2 Xqq (k:Int) _ _ _ h92 ?_ ?_))
  ·
   intro eo91;subst eo91
   refine X3.glue ?_
   try dsimp only at h
   revert h
   exact fun e=>X9 [] (k:=wkT [] (C1  (oj e).symm))
  intro eo91;subst eo91
  refine X3.glue ?_
  try dsimp only at h
  exact X9 [] (k:=wkT [] (ih (k+1) hx1  o h C0 C1))
instance Xqt:PCs Tryz.prog 128 (∀ (a0:(List Int)) (a1:Bool) (r:Int),X6n a0 a1=some r->X0l Tryz.prog 128 [(Lf (List.map (aI .i64) a0)),(aB a1)] (aI .i64 r)):=⟨fun a0 a1 r h=>by
 refine X0l.sym X6 X03z (nt:=60) rfl rfl ?_ okM
 unfold X6n at h
 revert h
 refine brI (fun h1=>fun e=>oj e▸X9 [.el (aI .i64 (a0.length:Int)),Bt] (k:=fi)) fun h1=>bI fun Xyr h7=>rnI [.el (aI .i64 (a0.length:Int)),Bf,.stop 3] ?_
 intro h
 refine X3.join (s':=⟨fr [(0,(Lf (List.map (aI .i64) a0))),(21,(aB Xyr))],hp ([]),0⟩) ?_ (fun J=>X3.cut ?_)
 ·
  revert h
  refine brI (fun h8=>fun e=>oj e▸X9 [Bt] (k:=fi)) fun h8=>bI fun u9 h10=>?_
  have qh10:=X0k h10
  refine bI fun o27 h28=>rnI [Bf] ?_
  intro h
  refine wkT [] (X3.cut (Xd4 a0 qh10 a0 0 (by simp) _ h28 ?_ ?_))
  ·
   intro eo27;subst eo27
   refine X3.glue ?_
   try dsimp only at h
   revert h
   refine bI fun o93 h94=>rnI [] ?_
   intro h
   refine wkT [] (X3.cut (Xd3 a0 qh10 a0 0 (by simp) _ h94 ?_ ?_))
   ·
    intro eo93;subst eo93
    refine X3.glue ?_
    try dsimp only at h
    revert h
    exact fun e=>oj e▸X9 [] (k:=fi)
   intro eo93;subst eo93
   refine X3.glue ?_
   try dsimp only at h
   revert h
   exact fun e=>oj e▸X9 [] (k:=fi)
  intro eo27;subst eo27
  refine X3.glue ?_
  try dsimp only at h
  revert h
  exact fun e=>oj e▸X9 [] (k:=fi)
 clear h;revert h7
 refine brI (fun h5=>?_) fun h5=>?_
 ·
  intro h
  obtain rfl:=oj h
  exact X9 [.el (aI .i64 (a0.length:Int)),.go false,.go false,.go false,.go false,.go false,.go false] (k:=wkT [] (X3.glue J))
 refine brI (fun h6=>?_) fun h6=>?_
 ·
  intro h
  obtain rfl:=oj h
  exact X9 [.el (aI .i64 (a0.length:Int)),.go true,.go true,.go true,.go true,.el (aI .i64 (a0.length:Int)),.go true,.go true] (k:=wkT [] (X3.glue J))
 intro h
 obtain rfl:=oj h
 exact X9 [.el (aI .i64 (a0.length:Int)),.go true,.go true,.go false,.go false,.go false,.go true] (k:=wkT [] (X3.glue J))⟩
instance Xv6:PCs Tryz.prog 129 (∀ (a0:X0n) (r:Bool),X7b a0=some r->X0l Tryz.prog 129 [(X3i a0)] (aB r)):=⟨fun a0 r h=>by
 refine X0l.sym X6 X03y (nt:=45) rfl rfl ?_ okM
 unfold X7b at h
 revert h
 exact brI (fun h1=>fun e=>oj e▸X9 [Bt] (k:=fi)) fun h1=>brI (fun h2=>fun e=>oj e▸X9 [Bf,Bt,.wrap] (k:=fi)) fun h2=>fun e=>oj e▸X9 [Bf,Bf] (k:=fi)⟩
instance Xu4:PCs Tryz.prog 86 (∀ (a0:X06) (r:Int),X8z a0=some r->X0l Tryz.prog 86 [(Xx false a0)] (aI .i64 r)):=⟨fun a0 r h=>by
 refine X0l.sym X6 fn86 (nt:=80) rfl rfl ?_ okM
 unfold X8z at h
 revert h
 refine brI (fun h1=>fun e=>oj e▸X9 [Bt] (k:=fi)) fun h1=>bI fun Xz2 h5=>rnI [Bf,.stop 3] ?_
 intro h
 refine X3.join (s':=⟨fr [(1,(AV.ptr 0 0 0)),(29,(aB Xz2))],hp ([(0,Ob [(Xx false a0)] 10)]),1⟩) ?_ (fun J=>X3.cut ?_)
 ·
  revert h
  refine brI (fun h6=>fun e=>oj e▸X9 [Bt] (k:=fi)) fun h6=>bI fun Xsu h14=>rnI [Bf,.stop 5] ?_
  intro h
  refine X3.join (s':=⟨fr [(1,(AV.ptr 0 0 0)),(38,(aB Xsu))],hp ([(0,Ob [(Xx false a0)] 10)]),1⟩) ?_ (fun J=>X3.cut ?_)
  ·
   revert h
   refine brI (fun h15=>bI fun v16 h17=>fun e=>oj e▸X9 [Bt,.pure _ (aI .i64 v16)] (k:=fi)) fun h15=>bI fun Xli h25=>rnI [Bf,.stop 7] ?_
   intro h
   refine X3.join (s':=⟨fr [(1,(AV.ptr 0 0 0)),(51,(aB Xli))],hp ([(0,Ob [(Xx false a0)] 10)]),1⟩) ?_ (fun J=>X3.cut ?_)
   ·
    revert h
    exact brI (fun h26=>bI fun v27 h28=>fun e=>oj e▸X9 [Bt,.pure _ (aI .i64 v27)] (k:=fi)) fun h26=>bI fun v29 h30=>brI (fun h31=>fun e=>oj e▸X9 [Bf,.pure _ (aI .i64 v29),Bt,.pure _ (aI .i64 v29)] (k:=fi)) fun h31=>bI fun v32 h33=>brI (fun h34=>fun e=>oj e▸X9 [Bf,.pure _ (aI .i64 v29),Bf,.pure _ (aB v32),Bt] (k:=fi)) fun h34=>fun e=>oj e▸X9 [Bf,.pure _ (aI .i64 v29),Bf,.pure _ (aB v32),Bf] (k:=fi)
   clear h;revert h25
   refine brI (fun h22=>?_) fun h22=>?_
   ·
    refine bI fun v23 h24=>?_
    intro h
    obtain rfl:=oj h
    exact X9 [.el (aI .i64 (a0.Where.length:Int)),.go true,.go true,.go true,.pure _ (aI .i64 v23),.go true] (k:=wkT [] (X3.glue J))
   intro h
   obtain rfl:=oj h
   exact X9 [.el (aI .i64 (a0.Where.length:Int)),.go false,.go false,.go false,.go false] (k:=wkT [] (X3.glue J))
  clear h;revert h14
  refine brI (fun h11=>?_) fun h11=>?_
  ·
   refine bI fun v12 h13=>?_
   intro h
   obtain rfl:=oj h
   exact X9 [.go true,.go true,.go true,.pure _ (aI .i64 v12),.go true] (k:=wkT [] (X3.glue J))
  intro h
  obtain rfl:=oj h
  exact X9 [.go false,.go false,.go false,.go false] (k:=wkT [] (X3.glue J))
 clear h;revert h5
 refine brI (fun h4=>?_) fun h4=>?_
 ·
  intro h
  obtain rfl:=oj h
  exact X9 [.go true,.go true,.go true,.el (aI .i64 (a0.Arg.length:Int)),.go true] (k:=wkT [] (X3.glue J))
 intro h
 obtain rfl:=oj h
 exact X9 [.go false,.go false,.go false,.go false] (k:=wkT [] (X3.glue J))⟩
instance Xu6:PCs Tryz.prog 176 (∀ (a0:Int) (r:Bool),X65 a0=some r->X0l Tryz.prog 176 [(aI .u8 a0)] (aB r)):=⟨fun a0 r h=>by
 refine X0l.sym X6 X039 (nt:=9) rfl rfl ?_ okM
 unfold X65 at h
 revert h
 exact fun e=>oj e▸X9 [] (k:=fi)⟩
instance Xv7:PCs Tryz.prog 196 (∀ (a0:(List X07)) (a1:Int) (r:Bool),Xab a0 a1=some r->X0l Tryz.prog 196 [(Lf (a0.map X5)),(aI .i64 a1)] (aB r)):=⟨fun a0 a1 r h=>by
 refine X0l.sym X6 X032 (nt:=67) rfl rfl ?_ okM
 unfold Xab at h
 revert h
 refine bI fun e1 h2=>?_
 try have qh2:=Xs h2
 refine bI fun e3 h4=>?_
 try have qh4:=Xs h4
 refine bI fun v5 h6=>bI fun e7 h8=>?_
 try have qh8:=Xs h8
 exact bI fun v9 h10=>brI (fun h11=>fun e=>oj e▸X9 [.el (X5 e1),.el (X5 e3),.pure _ (aB v5),.el (X5 e7),.pure _ (aB v9),Bt] (k:=fi)) fun h11=>brI (fun h12=>fun e=>oj e▸X9 [.el (X5 e1),.el (X5 e3),.pure _ (aB v5),.el (X5 e7),.pure _ (aB v9),Bf,Bt] (k:=fi)) fun h12=>brI (fun h13=>fun e=>oj e▸X9 [.el (X5 e1),.el (X5 e3),.pure _ (aB v5),.el (X5 e7),.pure _ (aB v9),Bf,Bf,Bt] (k:=fi)) fun h13=>brI (fun h14=>fun e=>oj e▸X9 [.el (X5 e1),.el (X5 e3),.pure _ (aB v5),.el (X5 e7),.pure _ (aB v9),Bf,Bf,Bf,Bt] (k:=fi)) fun h14=>brI (fun h15=>fun e=>oj e▸X9 [.el (X5 e1),.el (X5 e3),.pure _ (aB v5),.el (X5 e7),.pure _ (aB v9),Bf,Bf,Bf,Bf,Bt] (k:=fi)) fun h15=>fun e=>oj e▸X9 [.el (X5 e1),.el (X5 e3),.pure _ (aB v5),.el (X5 e7),.pure _ (aB v9),Bf,Bf,Bf,Bf,Bf] (k:=fi)⟩
end Go.Av.Tryz