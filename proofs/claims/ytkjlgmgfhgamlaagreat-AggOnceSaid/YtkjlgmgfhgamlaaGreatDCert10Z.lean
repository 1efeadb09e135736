/- Printed by decomp.py: that the program computes the functions. -/
import Derived.Test.YtkjlgmgfhgamlaaGreatDCert9Z
set_option linter.all false

namespace Go.Av.Tryz
open Go.Proofs Go.D
set_option maxRecDepth 10000
set_option maxHeartbeats 40000000
theorem Xgb {Q:Xv->St->Mu->Prop} {μ:Mu} (X0y:(List X1n)) (Xdk:(List X1n)) (hl:X0y.length<=140737488355328):∀ (xs:List X1n) (k:Nat) (hx:X0y.drop k=xs) (o:X6w) (h:X6x X0y Xdk xs k  = some o)
  (C0:o=X6w.x0->X3 Tryz.prog 26 0 Q (.exit (.exit 0)) [] ⟨fr [],hp ([]),0⟩ μ)
  (C1:o=X6w.x1->X3 Tryz.prog 26 0 Q (.exit .ret) [] ⟨fr [(4,(aB false))],hp ([]),0⟩ μ),
  X3 Tryz.prog 26 0 Q (.loop (X4y 0 (Xb Tryz.f24))) [] ⟨fr [(0,(Lf (X0y.map Xu))),(1,(Lf (Xdk.map Xu))),(5,(aI .i64 (k:Int)))],hp ([]),0⟩ μ:=by
 intro xs
 induction xs with
 |nil =>
  intro k hx  o h C0 C1
  have hk:=X1h hx
  have hc:decide ((k:Int)<(X0y.length:Int))=false:=Yf (by omega)
  rw[X6x] at h
  refine X3.round ?_
  revert h
  exact fun e=>Xa [.el (aI .i64 (X0y.length:Int)),Bf] (k:=wkT [] (C0  (oj e).symm))
 |cons x xs ih =>
  intro k hx  o h C0 C1
  obtain⟨hk,hg,hx1⟩:=X0w hx
  have hc:decide ((k:Int)<(X0y.length:Int))=true:=Yt (by omega)
  rw[X6x] at h
  refine X3.round ?_
  revert h
  refine bI fun e11 h12=>?_
  try have qh12:=Xq h12
  refine brI (fun h13=>fun e=>Xa [.el (aI .i64 (X0y.length:Int)),Bt,.el (Xu x),.el (Xu e11),Bt] (k:=wkT [] (C1  (oj e).symm))) fun h13=>rnI [.el (aI .i64 (X0y.length:Int)),Bt,.el (Xu x),.el (Xu e11),Bf] ?_
  intro h
  exact wkT [] (ih (k+1) hx1  o h C0 C1)
instance Xw2:PCs Tryz.prog 24 (∀ (a0:(List X1n)) (a1:(List X1n)) (r:Bool),Xey a0 a1=some r->X0j Tryz.prog 24 [(Lf (a0.map Xu)),(Lf (a1.map Xu))] (aB r)):=⟨fun a0 a1 r h=>by
 refine X0j.sym X5 fn24 (nt:=26) rfl rfl ?_ okM
 unfold Xey at h
 revert h
 refine brI (fun h1=>fun e=>oj e▸Xa [.el (aI .i64 (a0.length:Int)),.el (aI .i64 (a1.length:Int)),Bt] (k:=fi)) fun h1=>bI fun u2 h3=>?_
 have qh3:=X12 h3
 refine bI fun o14 h15=>rnI [.el (aI .i64 (a0.length:Int)),.el (aI .i64 (a1.length:Int)),Bf] ?_
 intro h
 refine wkT [] (X3.cut (Xgb a0 a1 qh3 a0 0 (by simp) _ h15 ?_ ?_))
 ·
  intro eo14;subst eo14
  refine X3.glue ?_
  try dsimp only at h
  revert h
  exact fun e=>oj e▸Xa [] (k:=fi)
 intro eo14;subst eo14
 refine X3.glue ?_
 try dsimp only at h
 revert h
 exact fun e=>oj e▸Xa [] (k:=fi)⟩
instance Xv3:PCs Tryz.prog 19 (∀ (r:Bool),Xb1=some r->X0j Tryz.prog 19 [] (aB r)):=⟨fun r h=>by
 refine X0j.sym X5 fn19 (nt:=28) rfl rfl ?_ okM
 unfold Xb1 at h
 revert h
 refine bI fun v1 h2=>bI fun v3 h4=>bI fun v5 h6=>bI fun v7 h8=>bI fun v9 h10=>bI fun Xzb h24=>rnI [.pure _ (Xy true v1),.pure _ (Xo v3),.pure _ (Xo v5),.pure _ (Xo v7),.pure _ (AV.tup [(Xj true v9.1),(AV.list true (v9.2.1.map Xu)),(aB v9.2.2)]),.stop 2] ?_
 intro h
 refine X3.join (s':=⟨fr [(0,(aB Xzb))],hp ([]),0⟩) ?_ (fun J=>X3.cut ?_)
 ·
  revert h
  exact fun e=>oj e▸Xa [] (k:=fi)
 clear h;revert h24
 refine brI (fun h18=>?_) fun h18=>?_
 ·
  refine bI fun v19 h20=>bI fun v21 h22=>brI (fun h23=>?_) fun h23=>?_
  ·
   intro h
   obtain rfl:=oj h
   exact Xa [.go true,.go true,.pure _ (Xu v19),.go true,.go true,.pure _ (aB v21),.go true,.go true,.go true,.el (aI .i64 (v9.1.Store.length:Int)),.go true] (o:=by repeat' first|apply Ya|exact pcM|exact((X9 h18 h23))|exact(Xi (X9 h18 h23))|exact(X5k (X9 h18 h23))|exact X04) (k:=wkT [] (X3.glue J))
  intro h
  obtain rfl:=oj h
  exact Xa [.go true,.go true,.pure _ (Xu v19),.go true,.go true,.pure _ (aB v21),.go false,.go false,.go false,.go false] (o:=by repeat' first|apply Ya|exact pcM|exact((X9 h18 h23))|exact(Xi (X9 h18 h23))|exact(Xd3 (X9 h18 h23))|exact X04) (k:=wkT [] (X3.glue J))
 intro h
 obtain rfl:=oj h
 exact Xa [.go false,.go false,.go false,.go false,.go false,.go false,.go false,.go false] (o:=by repeat' first|apply Ya|exact pcM|exact((X8 h18 rfl))|exact(Xi (X8 h18 rfl))|exact(Xd3 (X8 h18 rfl))|exact X04) (k:=wkT [] (X3.glue J))⟩
instance Xv0:PCs Tryz.prog 20 (∀ (a0:X07) (r:Bool),X9g a0=some r->X0j Tryz.prog 20 [(Xy false a0)] (aB r)):=⟨fun a0 r h=>by
 refine X0j.sym X5 fn20 (nt:=19) rfl rfl ?_ okM
 unfold X9g at h
 revert h
 refine bI fun j3_2 h6=>rnI [.stop 1] ?_
 intro h
 refine X3.join (s':=⟨fr [(2,(aB j3_2))],hp ([]),0⟩) ?_ (fun J=>X3.cut ?_)
 ·
  revert h
  exact fun e=>oj e▸Xa [] (k:=fi)
 clear h;revert h6
 refine brI (fun h4=>?_) fun h4=>?_
 ·
  intro h
  obtain rfl:=oj h
  exact Xa [.el (aI .i64 (a0.Arg.length:Int)),.go false,.go false,.go false,.go false,.go false,.go false,.go false,.go false] (o:=by repeat' first|apply Ya|exact pcM|exact((X9 h4 rfl))|exact(Xi (X9 h4 rfl))|exact(X5k (X9 h4 rfl))|exact X04) (k:=wkT [] (X3.glue J))
 refine brI (fun h5=>?_) fun h5=>?_
 ·
  intro h
  obtain rfl:=oj h
  exact Xa [.el (aI .i64 (a0.Arg.length:Int)),.go true,.go true,.go true,.el (aI .i64 (a0.Where.length:Int)),.go true,.go false,.go false,.go false,.go false] (o:=by repeat' first|apply Ya|exact pcM|exact((X8 h4 h5))|exact(Xi (X8 h4 h5))|exact(X5k (X8 h4 h5))|exact X04) (k:=wkT [] (X3.glue J))
 intro h
 obtain rfl:=oj h
 exact Xa [.el (aI .i64 (a0.Arg.length:Int)),.go true,.go true,.go true,.el (aI .i64 (a0.Where.length:Int)),.go true,.go true,.go true,.go true,.el (aI .i64 (a0.Sources.length:Int)),.go true] (o:=by repeat' first|apply Ya|exact pcM|exact((X8 h4 h5))|exact(Xi (X8 h4 h5))|exact(Xd3 (X8 h4 h5))|exact X04) (k:=wkT [] (X3.glue J))⟩
instance Xuq:PCs Tryz.prog 173 (∀ (a0:Int) (r:Int),Xax a0=some r->X0j Tryz.prog 173 [(aI .u8 a0)] (aI .i64 r)):=⟨fun a0 r h=>by
 refine X0j.sym X5 X03d (nt:=7) rfl rfl ?_ okM
 unfold Xax at h
 revert h
 exact brI (fun h1=>fun e=>oj e▸Xa [Bt] (k:=fi)) fun h1=>brI (fun h2=>fun e=>oj e▸Xa [Bf,Bt] (k:=fi)) fun h2=>fun e=>oj e▸Xa [Bf,Bf] (k:=fi)⟩
instance Xuo:PCs Tryz.prog 174 (∀ (a0:X05) (a1:Int) (a2:Int) (r:Bool),X6a a0 a1 a2=some r->X0j Tryz.prog 174 [(X6 a0),(aI .i64 a1),(aI .i64 a2)] (aB r)):=⟨fun a0 a1 a2 r h=>by
 refine X0j.sym X5 X03c (nt:=52) rfl rfl ?_ okM
 unfold X6a at h
 revert h
 exact fun e=>oj e▸Xa [] (k:=fi)⟩
theorem Xet {Q:Xv->St->Mu->Prop} {μ:Mu} (X0y:(List X05)) (hl:X0y.length<=140737488355328):∀ (xs:List X05) (k:Nat) (hx:X0y.drop k=xs) (Xn:(List Int)) (Xk:(List Int)) (X20:Nb Xn) (Xs:Nb Xk) (o:X4n) (h:X1p X0y xs k Xn Xk=some o)
  (C0:∀ (X08:(List Int)) (X0l:(List Int)) (X0q:Nb X08) (X1a:Nb X0l),o=X4n.x0 X08 X0l->X3 Tryz.prog 102 0 Q (.exit (.exit 0)) [] ⟨fr [(0,(Lf (X0y.map X6))),(5,(slE X0q.1 0 (List.map (aI .i64) X08))),(6,(slE X1a.1 1 (List.map (aI .i64) X0l)))],hp ([]++opE X0q.1 0 1 (List.map (aI .i64) X08)++opE X1a.1 1 1 (List.map (aI .i64) X0l)),2⟩ μ)
  (C1:∀ (X1i:(List Int)) (X4z:(List Int)) (X1c:Nb X1i) (X4p:Nb X4z),o=X4n.x1 X1i X4z->X3 Tryz.prog 102 0 Q (.exit .ret) [] ⟨fr [(2,(slE X1c.1 0 (List.map (aI .i64) X1i))),(3,(slE X4p.1 1 (List.map (aI .i64) X4z))),(4,(aB false))],hp ([]++opE X1c.1 0 1 (List.map (aI .i64) X1i)++opE X4p.1 1 1 (List.map (aI .i64) X4z)),2⟩ μ),
  X3 Tryz.prog 102 0 Q (.loop (X4y 0 (Xb Tryz.f155))) [] ⟨fr [(0,(Lf (X0y.map X6))),(5,(slE X20.1 0 (List.map (aI .i64) Xn))),(6,(slE Xs.1 1 (List.map (aI .i64) Xk))),(7,(aI .i64 (k:Int)))],hp ([]++opE X20.1 0 1 (List.map (aI .i64) Xn)++opE Xs.1 1 1 (List.map (aI .i64) Xk)),2⟩ μ:=by
 intro xs
 induction xs with
 |nil =>
  intro k hx Xn Xk X20 Xs o h C0 C1
  have hk:=X1h hx
  have hc:decide ((k:Int)<(X0y.length:Int))=false:=Yf (by omega)
  rw[X1p] at h
  rcases X20 with ⟨_|_,X5g⟩
  ·
   rcases Xs with ⟨_|_,X0i⟩
   ·
    refine X3.round ?_
    revert h
    exact fun e=>Xa [.el (aI .i64 (X0y.length:Int)),Bf] (k:=wkT [] (C0 _ _  nbF nbF (oj e).symm))
   obtain rfl:=X0i rfl
   refine X3.round ?_
   revert h
   exact fun e=>Xa [.el (aI .i64 (X0y.length:Int)),Bf] (k:=wkT [] (C0 _ _  nbF nbS (oj e).symm))
  ·
   obtain rfl:=X5g rfl
   rcases Xs with ⟨_|_,X0i⟩
   ·
    refine X3.round ?_
    revert h
    exact fun e=>Xa [.el (aI .i64 (X0y.length:Int)),Bf] (k:=wkT [] (C0 _ _  nbS nbF (oj e).symm))
   ·
    obtain rfl:=X0i rfl
    refine X3.round ?_
    revert h
    exact fun e=>Xa [.el (aI .i64 (X0y.length:Int)),Bf] (k:=wkT [] (C0 _ _  nbS nbS (oj e).symm))
 |cons x xs ih =>
  intro k hx Xn Xk X20 Xs o h C0 C1
  obtain⟨hk,hg,hx1⟩:=X0w hx
  have hc:decide ((k:Int)<(X0y.length:Int))=true:=Yt (by omega)
  rw[X1p] at h
  rcases X20 with ⟨_|_,X5g⟩
  ·
   rcases Xs with ⟨_|_,X0i⟩
   ·
    refine X3.round ?_
    revert h
    refine bI fun v156 h157=>brI (fun h158=>?_) fun h158=>?_
    ·
     refine brI (fun h159=>fun e=>Xa [.el (aI .i64 (X0y.length:Int)),Bt,.el (X6 x),.pure _ (aI .i64 v156),Bt,.wrap,Bt] (k:=wkT [] (C1 _ _  nbS nbS (oj e).symm))) fun h159=>bI fun e160 h161=>?_
     try have qh161:=Xq h161
     refine bI fun e162 h163=>?_
     try have qh163:=Xq h163
     refine rnI [.el (aI .i64 (X0y.length:Int)),Bt,.el (X6 x),.pure _ (aI .i64 v156),Bt,.wrap,Bf,.el (aI .i64 e160),.ld (aI .i64 e160),.wrap,.el (aI .i64 e160),.ld (aI .i64 e160),.wrap,.el (aI .i64 e162),.ld (aI .i64 e162),.wrap] ?_
     refine brI (fun h164=>?_) fun h164=>?_
     ·
      refine brI (fun h165=>fun e=>Xa [Bt,Bt] (k:=wkT [] (C1 _ _  nbS nbS (oj e).symm))) fun h165=>bI fun e166 h167=>?_
      try have qh167:=Xq h167
      refine bI fun e168 h169=>?_
      try have qh169:=Xq h169
      refine bI fun v170 h171=>rnI [Bt,Bf,.el (aI .i64 e166),.ld (aI .i64 e166),.wrap,.el (aI .i64 e168),.ld (aI .i64 e168),.wrap,.el (X6 x),.pure _ (aB v170)] ?_
      refine brI (fun h172=>fun e=>Xa [Bt] (k:=wkT [] (C1 _ _  nbS nbS (oj e).symm))) fun h172=>?_
      refine bI fun u173 h174=>bI fun u175 h176=>rnI [Bf,.no,.no] (o:=by repeat' first|apply Ya|exact pcM|(refine X1o h174 rfl ?_;first|(simp;done)|(simp;omega)|(simp[hc,h158,h159,h164,h165,h172];done)|(simp[hc,h158,h159,h164,h165,h172];omega))|(refine X0d h174 (by decide) ?_;first|(simp;done)|(simp;omega)|(simp[hc,h158,h159,h164,h165,h172];done)|(simp[hc,h158,h159,h164,h165,h172];omega))|(refine X1o h176 rfl ?_;first|(simp;done)|(simp;omega)|(simp[hc,h158,h159,h164,h165,h172];done)|(simp[hc,h158,h159,h164,h165,h172];omega))|(refine X0d h176 (by decide) ?_;first|(simp;done)|(simp;omega)|(simp[hc,h158,h159,h164,h165,h172];done)|(simp[hc,h158,h159,h164,h165,h172];omega))|exact X04) ?_
      intro h
      exact wkT [(0,3),(1,5)] (ih (k+1) hx1 _ _ nbF nbF o h C0 C1)
     refine bI fun v177 h178=>brI (fun h179=>fun e=>Xa [Bf,.el (X6 x),.pure _ (aB v177),Bt] (k:=wkT [] (C1 _ _  nbS nbS (oj e).symm))) fun h179=>?_
     refine bI fun u180 h181=>bI fun u182 h183=>rnI [Bf,.el (X6 x),.pure _ (aB v177),Bf,.no,.no] (o:=by repeat' first|apply Ya|exact pcM|(refine X1o h181 rfl ?_;first|(simp;done)|(simp;omega)|(simp[hc,h158,h159,h164,h179];done)|(simp[hc,h158,h159,h164,h179];omega))|(refine X0d h181 (by decide) ?_;first|(simp;done)|(simp;omega)|(simp[hc,h158,h159,h164,h179];done)|(simp[hc,h158,h159,h164,h179];omega))|(refine X1o h183 rfl ?_;first|(simp;done)|(simp;omega)|(simp[hc,h158,h159,h164,h179];done)|(simp[hc,h158,h159,h164,h179];omega))|(refine X0d h183 (by decide) ?_;first|(simp;done)|(simp;omega)|(simp[hc,h158,h159,h164,h179];done)|(simp[hc,h158,h159,h164,h179];omega))|exact X04) ?_
     intro h
     exact wkT [(0,3),(1,5)] (ih (k+1) hx1 _ _ nbF nbF o h C0 C1)
    refine bI fun v184 h185=>brI (fun h186=>fun e=>Xa [.el (aI .i64 (X0y.length:Int)),Bt,.el (X6 x),.pure _ (aI .i64 v156),Bf,.el (X6 x),.pure _ (aB v184),Bt] (k:=wkT [] (C1 _ _  nbS nbS (oj e).symm))) fun h186=>?_
    refine bI fun u187 h188=>bI fun u189 h190=>rnI [.el (aI .i64 (X0y.length:Int)),Bt,.el (X6 x),.pure _ (aI .i64 v156),Bf,.el (X6 x),.pure _ (aB v184),Bf,.no,.no] (o:=by repeat' first|apply Ya|exact pcM|(refine X1o h188 rfl ?_;first|(simp;done)|(simp;omega)|(simp[hc,h158,h186];done)|(simp[hc,h158,h186];omega))|(refine X0d h188 (by decide) ?_;first|(simp;done)|(simp;omega)|(simp[hc,h158,h186];done)|(simp[hc,h158,h186];omega))|(refine X1o h190 rfl ?_;first|(simp;done)|(simp;omega)|(simp[hc,h158,h186];done)|(simp[hc,h158,h186];omega))|(refine X0d h190 (by decide) ?_;first|(simp;done)|(simp;omega)|(simp[hc,h158,h186];done)|(simp[hc,h158,h186];omega))|exact X04) ?_
    intro h
    exact wkT [(0,3),(1,5)] (ih (k+1) hx1 _ _ nbF nbF o h C0 C1)
   obtain rfl:=X0i rfl
   refine X3.round ?_
   revert h
   refine bI fun v191 h192=>brI (fun h193=>?_) fun h193=>?_
   ·
    refine brI (fun h194=>fun e=>Xa [.el (aI .i64 (X0y.length:Int)),Bt,.el (X6 x),.pure _ (aI .i64 v191),Bt,.wrap,Bt] (k:=wkT [] (C1 _ _  nbS nbS (oj e).symm))) fun h194=>bI fun e195 h196=>?_
    try have qh196:=Xq h196
    refine bI fun e197 h198=>?_
    try have qh198:=Xq h198
    intro h
    exact absurd (h198) (by simp[X3b])
   refine bI fun v199 h200=>brI (fun h201=>fun e=>Xa [.el (aI .i64 (X0y.length:Int)),Bt,.el (X6 x),.pure _ (aI .i64 v191),Bf,.el (X6 x),.pure _ (aB v199),Bt] (k:=wkT [] (C1 _ _  nbS nbS (oj e).symm))) fun h201=>?_
   refine bI fun u202 h203=>bI fun u204 h205=>rnI [.el (aI .i64 (X0y.length:Int)),Bt,.el (X6 x),.pure _ (aI .i64 v191),Bf,.el (X6 x),.pure _ (aB v199),Bf,.no,.no] (o:=by repeat' first|apply Ya|exact pcM|(refine X1o h203 rfl ?_;first|(simp;done)|(simp;omega)|(simp[hc,h193,h201];done)|(simp[hc,h193,h201];omega))|(refine X0d h203 (by decide) ?_;first|(simp;done)|(simp;omega)|(simp[hc,h193,h201];done)|(simp[hc,h193,h201];omega))|(refine X1o h205 rfl ?_;first|(simp;done)|(simp;omega)|(simp[hc,h193,h201];done)|(simp[hc,h193,h201];omega))|(refine X0d h205 (by decide) ?_;first|(simp;done)|(simp;omega)|(simp[hc,h193,h201];done)|(simp[hc,h193,h201];omega))|exact X04) ?_
   intro h
   exact wkT [(0,3),(1,5)] (ih (k+1) hx1 _ _ nbF nbF o h C0 C1)
  obtain rfl:=X5g rfl
  rcases Xs with ⟨_|_,X0i⟩
  ·
   refine X3.round ?_
   revert h
   refine bI fun v206 h207=>brI (fun h208=>?_) fun h208=>?_
   ·
    refine brI (fun h209=>fun e=>Xa [.el (aI .i64 (X0y.length:Int)),Bt,.el (X6 x),.pure _ (aI .i64 v206),Bt,.wrap,Bt] (k:=wkT [] (C1 _ _  nbS nbS (oj e).symm))) fun h209=>bI fun e210 h211=>?_
    try have qh211:=Xq h211
    intro h
    exact absurd (h211) (by simp[X3b])
   refine bI fun v212 h213=>brI (fun h214=>fun e=>Xa [.el (aI .i64 (X0y.length:Int)),Bt,.el (X6 x),.pure _ (aI .i64 v206),Bf,.el (X6 x),.pure _ (aB v212),Bt] (k:=wkT [] (C1 _ _  nbS nbS (oj e).symm))) fun h214=>?_
   refine bI fun u215 h216=>bI fun u217 h218=>rnI [.el (aI .i64 (X0y.length:Int)),Bt,.el (X6 x),.pure _ (aI .i64 v206),Bf,.el (X6 x),.pure _ (aB v212),Bf,.no,.no] (o:=by repeat' first|apply Ya|exact pcM|(refine X1o h216 rfl ?_;first|(simp;done)|(simp;omega)|(simp[hc,h208,h214];done)|(simp[hc,h208,h214];omega))|(refine X0d h216 (by decide) ?_;first|(simp;done)|(simp;omega)|(simp[hc,h208,h214];done)|(simp[hc,h208,h214];omega))|(refine X1o h218 rfl ?_;first|(simp;done)|(simp;omega)|(simp[hc,h208,h214];done)|(simp[hc,h208,h214];omega))|(refine X0d h218 (by decide) ?_;first|(simp;done)|(simp;omega)|(simp[hc,h208,h214];done)|(simp[hc,h208,h214];omega))|exact X04) ?_
   intro h
   exact wkT [(0,3),(1,5)] (ih (k+1) hx1 _ _ nbF nbF o h C0 C1)
  obtain rfl:=X0i rfl
  refine X3.round ?_
  revert h
  refine bI fun v219 h220=>brI (fun h221=>?_) fun h221=>?_
  ·
   refine brI (fun h222=>fun e=>Xa [.el (aI .i64 (X0y.length:Int)),Bt,.el (X6 x),.pure _ (aI .i64 v219),Bt,.wrap,Bt] (k:=wkT [] (C1 _ _  nbS nbS (oj e).symm))) fun h222=>bI fun e223 h224=>?_
   try have qh224:=Xq h224
   intro h
   exact absurd (h224) (by simp[X3b])
  refine bI fun v225 h226=>brI (fun h227=>fun e=>Xa [.el (aI .i64 (X0y.length:Int)),Bt,.el (X6 x),.pure _ (aI .i64 v219),Bf,.el (X6 x),.pure _ (aB v225),Bt] (k:=wkT [] (C1 _ _  nbS nbS (oj e).symm))) fun h227=>?_
  refine bI fun u228 h229=>bI fun u230 h231=>rnI [.el (aI .i64 (X0y.length:Int)),Bt,.el (X6 x),.pure _ (aI .i64 v219),Bf,.el (X6 x),.pure _ (aB v225),Bf,.no,.no] (o:=by repeat' first|apply Ya|exact pcM|(refine X1o h229 rfl ?_;first|(simp;done)|(simp;omega)|(simp[hc,h221,h227];done)|(simp[hc,h221,h227];omega))|(refine X0d h229 (by decide) ?_;first|(simp;done)|(simp;omega)|(simp[hc,h221,h227];done)|(simp[hc,h221,h227];omega))|(refine X1o h231 rfl ?_;first|(simp;done)|(simp;omega)|(simp[hc,h221,h227];done)|(simp[hc,h221,h227];omega))|(refine X0d h231 (by decide) ?_;first|(simp;done)|(simp;omega)|(simp[hc,h221,h227];done)|(simp[hc,h221,h227];omega))|exact X04) ?_
  intro h
  exact wkT [(0,3),(1,5)] (ih (k+1) hx1 _ _ nbF nbF o h C0 C1)
instance Xup:PCs Tryz.prog 155 (∀ (a0:(List X05)) (r:(List Int)×(List Int)×Bool),Xaw a0=some r->X0j Tryz.prog 155 [(Lf (a0.map X6))] (AV.tup [(AV.list true (List.map (aI .i64) r.1)),(AV.list true (List.map (aI .i64) r.2.1)),(aB r.2.2)])):=⟨fun a0 r h=>by
 refine X0j.sym X5 X03l (nt:=102) rfl rfl ?_ okM
 unfold Xaw at h
 revert h
 refine bI fun u1 h2=>?_
 have qh2:=X12 h2
 refine bI fun o232 h233=>rnI [] ?_
 intro h
 refine wkT [] (X3.cut (Xet a0 qh2 a0 0 (by simp) _ _ nbS nbS _ h233 ?_ ?_))
 ·
  intro X08 X0l X0q X1a eo232;subst eo232
  refine X3.glue ?_
  try dsimp only at h
  rcases X0q with ⟨_|_,X4a⟩
  ·
   rcases X1a with ⟨_|_,X3d⟩
   ·
    revert h
    refine bI fun Xta h241=>rnI [.stop 25] ?_
    intro h
    refine X3.join (s':=⟨fr [(2,(AV.ref 0 0 (X08.length))),(3,(AV.ref 1 0 (X0l.length))),(4,(aB Xta))],hp ([(0,Ob (List.map (aI .i64) X08) 1),(1,Ob (List.map (aI .i64) X0l) 1)]),2⟩) ?_ (fun J=>X3.cut ?_)
    ·
     revert h
     exact fun e=>oj e▸Xa [] (k:=fi)
    clear h;revert h241
    refine brI (fun h238=>?_) fun h238=>?_
    ·
     refine bI fun e239 h240=>?_
     try have qh240:=Xq h240
     intro h
     obtain rfl:=oj h
     exact Xa [.el (aI .i64 (a0.length:Int)),.go true,.go true,.go true,.el (aI .i64 (a0.length:Int)),.go true,.wrap,.go true,.el (aI .i64 e239),.go true,.ld (aI .i64 e239),.go true,.go true,.el (aI .i64 (a0.length:Int)),.go true] (k:=wkT [] (X3.glue J))
    intro h
    obtain rfl:=oj h
    exact Xa [.el (aI .i64 (a0.length:Int)),.go false,.go false,.go false,.go false,.go false,.go false,.go false,.go false,.go false,.go false] (k:=wkT [] (X3.glue J))
   obtain rfl:=X3d rfl
   revert h
   refine bI fun X01d h249=>rnI [.stop 25] ?_
   intro h
   refine X3.join (s':=⟨fr [(2,(AV.ref 0 0 (X08.length))),(3,AV.nils),(4,(aB X01d))],hp ([(0,Ob (List.map (aI .i64) X08) 1)]),2⟩) ?_ (fun J=>X3.cut ?_)
   ·
    revert h
    exact fun e=>oj e▸Xa [] (k:=fi)
   clear h;revert h249
   refine brI (fun h246=>?_) fun h246=>?_
   ·
    refine bI fun e247 h248=>?_
    try have qh248:=Xq h248
    intro h
    obtain rfl:=oj h
    exact Xa [.el (aI .i64 (a0.length:Int)),.go true,.go true,.go true,.el (aI .i64 (a0.length:Int)),.go true,.wrap,.go true,.el (aI .i64 e247),.go true,.ld (aI .i64 e247),.go true,.go true,.el (aI .i64 (a0.length:Int)),.go true] (k:=wkT [] (X3.glue J))
   intro h
   obtain rfl:=oj h
   exact Xa [.el (aI .i64 (a0.length:Int)),.go false,.go false,.go false,.go false,.go false,.go false,.go false,.go false,.go false,.go false] (k:=wkT [] (X3.glue J))
  obtain rfl:=X4a rfl
  rcases X1a with ⟨_|_,X3d⟩
  ·
   revert h
   refine bI fun X01c h257=>rnI [.stop 25] ?_
   intro h
   refine X3.join (s':=⟨fr [(2,AV.nils),(3,(AV.ref 1 0 (X0l.length))),(4,(aB X01c))],hp ([(1,Ob (List.map (aI .i64) X0l) 1)]),2⟩) ?_ (fun J=>X3.cut ?_)
   ·
    revert h
    exact fun e=>oj e▸Xa [] (k:=fi)
   clear h;revert h257
   refine brI (fun h254=>?_) fun h254=>?_
   ·
    refine bI fun e255 h256=>?_
    try have qh256:=Xq h256
    intro h
    exact absurd (h256) (by simp[X3b])
   intro h
   obtain rfl:=oj h
   exact Xa [.el (aI .i64 (a0.length:Int)),.go false,.go false,.go false,.go false,.go false,.go false,.go false,.go false,.go false,.go false] (k:=wkT [] (X3.glue J))
  obtain rfl:=X3d rfl
  revert h
  refine bI fun X01b h265=>rnI [.stop 25] ?_
  intro h
  refine X3.join (s':=⟨fr [(2,AV.nils),(3,AV.nils),(4,(aB X01b))],hp ([]),2⟩) ?_ (fun J=>X3.cut ?_)
  ·
   revert h
   exact fun e=>oj e▸Xa [] (k:=fi)
  clear h;revert h265
  refine brI (fun h262=>?_) fun h262=>?_
  ·
   refine bI fun e263 h264=>?_
   try have qh264:=Xq h264
   intro h
   exact absurd (h264) (by simp[X3b])
  intro h
  obtain rfl:=oj h
  exact Xa [.el (aI .i64 (a0.length:Int)),.go false,.go false,.go false,.go false,.go false,.go false,.go false,.go false,.go false,.go false] (k:=wkT [] (X3.glue J))
 intro X1i X4z X1c X4p eo232;subst eo232
 refine X3.glue ?_
 try dsimp only at h
 rcases X1c with ⟨_|_,X5f⟩
 ·
  rcases X4p with ⟨_|_,Xam⟩
  ·
   revert h
   exact fun e=>oj e▸Xa [] (k:=fi)
  obtain rfl:=Xam rfl
  revert h
  exact fun e=>oj e▸Xa [] (k:=fi)
 obtain rfl:=X5f rfl
 rcases X4p with ⟨_|_,Xam⟩
 ·
  revert h
  exact fun e=>oj e▸Xa [] (k:=fi)
 obtain rfl:=Xam rfl
 revert h
 exact fun e=>oj e▸Xa [] (k:=fi)⟩
instance Xur:PCs Tryz.prog 127 (∀ (a0:(List X05)) (r:Int),X4h a0=some r->X0j Tryz.prog 127 [(Lf (a0.map X6))] (aI .i64 r)):=⟨fun a0 r h=>by
 refine X0j.sym X5 X041 (nt:=24) rfl rfl ?_ okM
 unfold X4h at h
 revert h
 refine brI (fun h1=>fun e=>oj e▸Xa [.el (aI .i64 (a0.length:Int)),Bt] (k:=fi)) fun h1=>bI fun v2 h3=>rnI [.el (aI .i64 (a0.length:Int)),Bf,.pure _ (AV.tup [(AV.list true (List.map (aI .i64) v2.1)),(AV.list true (List.map (aI .i64) v2.2.1)),(aB v2.2.2)])] ?_
 refine brI (fun h4=>fun e=>oj e▸Xa [Bt] (k:=fi)) fun h4=>bI fun e5 h6=>?_
 try have qh6:=Xq h6
 exact brI (fun h7=>fun e=>oj e▸Xa [Bf,.el (aI .i64 (a0.length:Int)),.wrap,.el (aI .i64 e5),Bt] (k:=fi)) fun h7=>fun e=>oj e▸Xa [Bf,.el (aI .i64 (a0.length:Int)),.wrap,.el (aI .i64 e5),Bf] (k:=fi)⟩
theorem Xd9 {Q:Xv->St->Mu->Prop} {μ:Mu} (X0y:(List Int)) (hl:X0y.length<=140737488355328):∀ (xs:List Int) (k:Nat) (hx:X0y.drop k=xs) (o:X4w) (h:X34 X0y xs k  = some o)
  (C0:o=X4w.x0->X3 Tryz.prog 60 0 Q (.exit (.exit 0)) [] ⟨fr [(0,(Lf (List.map (aI .i64) X0y)))],hp ([]),0⟩ μ)
  (C1:o=X4w.x1->X3 Tryz.prog 60 0 Q (.exit .ret) [] ⟨fr [(4,(aI .i64 8))],hp ([]),0⟩ μ),
  X3 Tryz.prog 60 0 Q (.loop (X4y 0 (Xb Tryz.f128))) [] ⟨fr [(0,(Lf (List.map (aI .i64) X0y))),(5,(aI .i64 (k:Int)))],hp ([]),0⟩ μ:=by
 intro xs
 induction xs with
 |nil =>
  intro k hx  o h C0 C1
  have hk:=X1h hx
  have hc:decide ((k:Int)<(X0y.length:Int))=false:=Yf (by omega)
  rw[X34] at h
  refine X3.round ?_
  revert h
  exact fun e=>Xa [.el (aI .i64 (X0y.length:Int)),Bf] (k:=wkT [] (C0  (oj e).symm))
 |cons x xs ih =>
  intro k hx  o h C0 C1
  obtain⟨hk,hg,hx1⟩:=X0w hx
  have hc:decide ((k:Int)<(X0y.length:Int))=true:=Yt (by omega)
  rw[X34] at h
  refine X3.round ?_
  revert h
  refine bI fun Xt9 h25=>rnI [.el (aI .i64 (X0y.length:Int)),Bt,.stop 8] ?_
  intro h
  refine X3.join (s':=⟨fr [(0,(Lf (List.map (aI .i64) X0y))),(5,(aI .i64 (k:Int))),(39,(aB Xt9))],hp ([]),0⟩) ?_ (fun J=>X3.cut ?_)
  ·
   revert h
   refine brI (fun h26=>fun e=>Xa [Bt] (k:=wkT [] (C1  (oj e).symm))) fun h26=>rnI [Bf] ?_
   intro h
   exact wkT [] (ih (k+1) hx1  o h C0 C1)
  clear h;revert h25
  refine brI (fun h24=>?_) fun h24=>?_
  ·
   intro h
   obtain rfl:=oj h
   exact Xa [.el (aI .i64 x),.go false,.go false,.go false,.go false,.go false] (k:=wkT [] (X3.glue J))
  intro h
  obtain rfl:=oj h
  exact Xa [.el (aI .i64 x),.go true,.go true,.go true,.el (aI .i64 x),.go true,.go true] (k:=wkT [] (X3.glue J))
theorem Xd7 {Q:Xv->St->Mu->Prop} {μ:Mu} (Xxv:(List Int)) (Xxu:Int):∀ (n:Nat) (Xx3:Int) (o:X4u) (h:X33 Xxv Xxu n Xx3=some o)
  (C0:o=X4u.x0->X3 Tryz.prog 60 0 Q (.exit .ret) [] ⟨fr [(4,(aI .i64 43))],hp ([]),0⟩ μ)
  (C1:o=X4u.x1->X3 Tryz.prog 60 0 Q (.exit (.exit 4)) [] ⟨fr [(0,(Lf (List.map (aI .i64) Xxv))),(6,(aI .i64 Xxu))],hp ([]),0⟩ μ),
  X3 Tryz.prog 60 0 Q (.loop (X4y 2 (Xb Tryz.f128))) [] ⟨fr [(0,(Lf (List.map (aI .i64) Xxv))),(6,(aI .i64 Xxu)),(7,(aI .i64 Xx3))],hp ([]),0⟩ μ:=by
 intro n
 induction n with
 |zero=>intro Xx3 o h C0 C1;cases h
 |succ n ih =>
  intro Xx3 o h C0 C1
  rw[X33] at h
  refine X3.round ?_
  revert h
  refine brI (fun h85=>?_) fun h85=>fun e=>Xa [Bf] (k:=wkT [] (C1  (oj e).symm))
  refine bI fun e86 h87=>?_
  try have qh87:=Xq h87
  refine bI fun e88 h89=>?_
  try have qh89:=Xq h89
  refine brI (fun h90=>fun e=>Xa [Bt,.el (aI .i64 e86),.el (aI .i64 e88),Bt] (k:=wkT [] (C0  (oj e).symm))) fun h90=>rnI [Bt,.el (aI .i64 e86),.el (aI .i64 e88),Bf,.wrap] ?_
  intro h
  exact wkT [] (ih  _ o h C0 C1)
theorem Xd8 {Q:Xv->St->Mu->Prop} {μ:Mu} (Xr8:(List Int)) (hl:Xr8.length<=140737488355328):∀ (xs:List Int) (k:Nat) (hx:Xr8.drop k=xs) (o:X4v) (h:X2m Xr8 xs k  = some o)
  (C0:o=X4v.x0->X3 Tryz.prog 60 0 Q (.exit (.exit 2)) [] ⟨fr [],hp ([]),0⟩ μ)
  (C1:o=X4v.x1->X3 Tryz.prog 60 0 Q (.exit .ret) [] ⟨fr [(4,(aI .i64 43))],hp ([]),0⟩ μ),
  X3 Tryz.prog 60 0 Q (.loop (X4y 1 (Xb Tryz.f128))) [] ⟨fr [(0,(Lf (List.map (aI .i64) Xr8))),(6,(aI .i64 (k:Int)))],hp ([]),0⟩ μ:=by
 intro xs
 induction xs with
 |nil =>
  intro k hx  o h C0 C1
  have hk:=X1h hx
  have hc:decide ((k:Int)<(Xr8.length:Int))=false:=Yf (by omega)
  rw[X2m] at h
  refine X3.round ?_
  revert h
  exact fun e=>Xa [.el (aI .i64 (Xr8.length:Int)),Bf] (k:=wkT [] (C0  (oj e).symm))
 |cons x xs ih =>
  intro k hx  o h C0 C1
  obtain⟨hk,hg,hx1⟩:=X0w hx
  have hc:decide ((k:Int)<(Xr8.length:Int))=true:=Yt (by omega)
  rw[X2m] at h
  refine X3.round ?_
  revert h
  refine bI fun o91 h92=>rnI [.el (aI .i64 (Xr8.length:Int)),Bt] ?_
  intro h
  refine wkT [] (X3.cut (Xd7 Xr8 (k:Int) _ _ _ h92 ?_ ?_))
  ·
   intro eo91;subst eo91
   refine X3.glue ?_
   try dsimp only at h
   revert h
   exact fun e=>Xa [] (k:=wkT [] (C1  (oj e).symm))
  intro eo91;subst eo91
  refine X3.glue ?_
  try dsimp only at h
  exact Xa [] (k:=wkT [] (ih (k+1) hx1  o h C0 C1))
instance Xrc:PCs Tryz.prog 128 (∀ (a0:(List Int)) (a1:Bool) (r:Int),X6s a0 a1=some r->X0j Tryz.prog 128 [(Lf (List.map (aI .i64) a0)),(aB a1)] (aI .i64 r)):=⟨fun a0 a1 r h=>by
 refine X0j.sym X5 X040 (nt:=60) rfl rfl ?_ okM
 unfold X6s at h
 revert h
 refine brI (fun h1=>fun e=>oj e▸Xa [.el (aI .i64 (a0.length:Int)),Bt] (k:=fi)) fun h1=>bI fun Xyy h7=>rnI [.el (aI .i64 (a0.length:Int)),Bf,.stop 3] ?_
 intro h
 refine X3.join (s':=⟨fr [(0,(Lf (List.map (aI .i64) a0))),(21,(aB Xyy))],hp ([]),0⟩) ?_ (fun J=>X3.cut ?_)
 ·
  revert h
  refine brI (fun h8=>fun e=>oj e▸Xa [Bt] (k:=fi)) fun h8=>bI fun u9 h10=>?_
  have qh10:=X12 h10
  refine bI fun o27 h28=>rnI [Bf] ?_
  intro h
  refine wkT [] (X3.cut (Xd9 a0 qh10 a0 0 (by simp) _ h28 ?_ ?_))
  ·
   intro eo27;subst eo27
   refine X3.glue ?_
   try dsimp only at h
   revert h
   refine bI fun o93 h94=>rnI [] ?_
   intro h
   refine wkT [] (X3.cut (Xd8 a0 qh10 a0 0 (by simp) _ h94 ?_ ?_))
   ·
    intro eo93;subst eo93
    refine X3.glue ?_
    try dsimp only at h
    revert h
    exact fun e=>oj e▸Xa [] (k:=fi)
   intro eo93;subst eo93
   refine X3.glue ?_
   try dsimp only at h
   revert h
   exact fun e=>oj e▸Xa [] (k:=fi)
  intro eo27;subst eo27
  refine X3.glue ?_
  try dsimp only at h
  revert h
  exact fun e=>oj e▸Xa [] (k:=fi)
 clear h;revert h7
 refine brI (fun h5=>?_) fun h5=>?_
 ·
  intro h
  obtain rfl:=oj h
  exact Xa [.el (aI .i64 (a0.length:Int)),.go false,.go false,.go false,.go false,.go false,.go false] (k:=wkT [] (X3.glue J))
 refine brI (fun h6=>?_) fun h6=>?_
 ·
  intro h
  obtain rfl:=oj h
  exact Xa [.el (aI .i64 (a0.length:Int)),.go true,.go true,.go true,.go true,.el (aI .i64 (a0.length:Int)),.go true,.go true] (k:=wkT [] (X3.glue J))
 intro h
 obtain rfl:=oj h
 exact Xa [.el (aI .i64 (a0.length:Int)),.go true,.go true,.go false,.go false,.go false,.go true] (k:=wkT [] (X3.glue J))⟩
instance Xvo:PCs Tryz.prog 129 (∀ (a0:X0s) (r:Bool),X7h a0=some r->X0j Tryz.prog 129 [(X3i a0)] (aB r)):=⟨fun a0 r h=>by
 refine X0j.sym X5 X03z (nt:=45) rfl rfl ?_ okM
 unfold X7h at h
 revert h
 exact brI (fun h1=>fun e=>oj e▸Xa [Bt] (k:=fi)) fun h1=>brI (fun h2=>fun e=>oj e▸Xa [Bf,Bt,.wrap] (k:=fi)) fun h2=>fun e=>oj e▸Xa [Bf,Bf] (k:=fi)⟩
instance Xul:PCs Tryz.prog 86 (∀ (a0:X07) (r:Int),X9a a0=some r->X0j Tryz.prog 86 [(Xy false a0)] (aI .i64 r)):=⟨fun a0 r h=>by
 refine X0j.sym X5 fn86 (nt:=80) rfl rfl ?_ okM
 unfold X9a at h
 revert h
 refine brI (fun h1=>fun e=>oj e▸Xa [Bt] (k:=fi)) fun h1=>bI fun Xz5 h5=>rnI [Bf,.stop 3] ?_
 intro h
 refine X3.join (s':=⟨fr [(1,(AV.ptr 0 0 0)),(29,(aB Xz5))],hp ([(0,Ob [(Xy false a0)] 10)]),1⟩) ?_ (fun J=>X3.cut ?_)
 ·
  revert h
  refine brI (fun h6=>fun e=>oj e▸Xa [Bt] (k:=fi)) fun h6=>bI fun Xte h14=>rnI [Bf,.stop 5] ?_
  intro h
  refine X3.join (s':=⟨fr [(1,(AV.ptr 0 0 0)),(38,(aB Xte))],hp ([(0,Ob [(Xy false a0)] 10)]),1⟩) ?_ (fun J=>X3.cut ?_)
  ·
   revert h
   refine brI (fun h15=>bI fun v16 h17=>fun e=>oj e▸Xa [Bt,.pure _ (aI .i64 v16)] (k:=fi)) fun h15=>bI fun Xlu h25=>rnI [Bf,.stop 7] ?_
   intro h
   refine X3.join (s':=⟨fr [(1,(AV.ptr 0 0 0)),(51,(aB Xlu))],hp ([(0,Ob [(Xy false a0)] 10)]),1⟩) ?_ (fun J=>X3.cut ?_)
   ·
    revert h
    exact brI (fun h26=>bI fun v27 h28=>fun e=>oj e▸Xa [Bt,.pure _ (aI .i64 v27)] (k:=fi)) fun h26=>bI fun v29 h30=>brI (fun h31=>fun e=>oj e▸Xa [Bf,.pure _ (aI .i64 v29),Bt,.pure _ (aI .i64 v29)] (k:=fi)) fun h31=>bI fun v32 h33=>brI (fun h34=>fun e=>oj e▸Xa [Bf,.pure _ (aI .i64 v29),Bf,.pure _ (aB v32),Bt] (k:=fi)) fun h34=>fun e=>oj e▸Xa [Bf,.pure _ (aI .i64 v29),Bf,.pure _ (aB v32),Bf] (k:=fi)
   clear h;revert h25
   refine brI (fun h22=>?_) fun h22=>?_
   ·
    refine bI fun v23 h24=>?_
    intro h
    obtain rfl:=oj h
    exact Xa [.el (aI .i64 (a0.Where.length:Int)),.go true,.go true,.go true,.pure _ (aI .i64 v23),.go true] (k:=wkT [] (X3.glue J))
   intro h
   obtain rfl:=oj h
   exact Xa [.el (aI .i64 (a0.Where.length:Int)),.go false,.go false,.go false,.go false] (k:=wkT [] (X3.glue J))
  clear h;revert h14
  refine brI (fun h11=>?_) fun h11=>?_
  ·
   refine bI fun v12 h13=>?_
   intro h
   obtain rfl:=oj h
   exact Xa [.go true,.go true,.go true,.pure _ (aI .i64 v12),.go true] (k:=wkT [] (X3.glue J))
  intro h
  obtain rfl:=oj h
  exact Xa [.go false,.go false,.go false,.go false] (k:=wkT [] (X3.glue J))
 clear h;revert h5
 refine brI (fun h4=>?_) fun h4=>?_
 ·
  intro h
  obtain rfl:=oj h
  exact Xa [.go true,.go true,.go true,.el (aI .i64 (a0.Arg.length:Int)),.go true] (k:=wkT [] (X3.glue J))
 intro h
 obtain rfl:=oj h
 exact Xa [.go false,.go false,.go false,.go false] (k:=wkT [] (X3.glue J))⟩
end Go.Av.Tryz