/- Printed by decomp.py: that the program computes the functions. -/
import Derived.Test.YtkjlgmgfhgamlaaGreatDCert0Z
set_option linter.all false

namespace Go.Av.Tryz
open Go.Proofs Go.D
set_option maxRecDepth 10000
set_option maxHeartbeats 40000000
instance Xue:PCs Tryz.prog 12 (∀ (a0:X06) (r:Bool),X95 a0=some r->X0l Tryz.prog 12 [(Xs false a0)] (aB r)):=⟨fun a0 r h=>by
 refine X0l.sym X6 fn12 (nt:=19) rfl rfl ?_ okM
 unfold X95 at h
 revert h
 refine bI fun j3_2 h6=>rnI [.stop 1] ?_
 intro h
 refine X3.join (s':=⟨fr [(2,(aB j3_2))],hp ([]),0⟩) ?_ (fun J=>X3.cut ?_)
 ·
  revert h
  exact fun e=>oj e▸Xa [] (k:=fi)
 clear h;revert h6
 refine brI (fun h4=>?_) fun h4=>?_
 ·
  intro h
  obtain rfl:=oj h
  exact Xa [.el (aI .i64 (a0.Arg.length:Int)),.go false,.go false,.go false,.go false,.go false,.go false,.go false,.go false] (o:=by repeat' first|apply Ya|exact pcM|exact((X9 h4 rfl))|exact(Xd (X9 h4 rfl))|exact(X47 (X9 h4 rfl))|exact Xw) (k:=wkT [] (X3.glue J))
 refine brI (fun h5=>?_) fun h5=>?_
 ·
  intro h
  obtain rfl:=oj h
  exact Xa [.el (aI .i64 (a0.Arg.length:Int)),.go true,.go true,.go true,.el (aI .i64 (a0.Where.length:Int)),.go true,.go false,.go false,.go false,.go false] (o:=by repeat' first|apply Ya|exact pcM|exact((Xb h4 h5))|exact(Xd (Xb h4 h5))|exact(X47 (Xb h4 h5))|exact Xw) (k:=wkT [] (X3.glue J))
 intro h
 obtain rfl:=oj h
 exact Xa [.el (aI .i64 (a0.Arg.length:Int)),.go true,.go true,.go true,.el (aI .i64 (a0.Where.length:Int)),.go true,.go true,.go true,.go true,.el (aI .i64 (a0.Sources.length:Int)),.go true] (o:=by repeat' first|apply Ya|exact pcM|exact((Xb h4 h5))|exact(Xd (Xb h4 h5))|exact(X88 (Xb h4 h5))|exact Xw) (k:=wkT [] (X3.glue J))⟩
instance Xu5:PCs Tryz.prog 173 (∀ (a0:Int) (r:Int),Xat a0=some r->X0l Tryz.prog 173 [(aI .u8 a0)] (aI .i64 r)):=⟨fun a0 r h=>by
 refine X0l.sym X6 X032 (nt:=7) rfl rfl ?_ okM
 unfold Xat at h
 revert h
 exact brI (fun h1=>fun e=>oj e▸Xa [Bt] (k:=fi)) fun h1=>brI (fun h2=>fun e=>oj e▸Xa [Bf,Bt] (k:=fi)) fun h2=>fun e=>oj e▸Xa [Bf,Bf] (k:=fi)⟩
instance Xu3:PCs Tryz.prog 174 (∀ (a0:X07) (a1:Int) (a2:Int) (r:Bool),X69 a0 a1 a2=some r->X0l Tryz.prog 174 [(X7 a0),(aI .i64 a1),(aI .i64 a2)] (aB r)):=⟨fun a0 a1 a2 r h=>by
 refine X0l.sym X6 X031 (nt:=52) rfl rfl ?_ okM
 unfold X69 at h
 revert h
 exact fun e=>oj e▸Xa [] (k:=fi)⟩
theorem Xeh {Q:Xz->St->Mu->Prop} {μ:Mu} (X19:(List X07)) (hl:X19.length<=140737488355328):∀ (xs:List X07) (k:Nat) (hx:X19.drop k=xs) (Xo:(List Int)) (Xn:(List Int)) (X22:Nb Xo) (Xt:Nb Xn) (o:X4o) (h:X1q X19 xs k Xo Xn=some o)
  (C0:∀ (X09:(List Int)) (X0b:(List Int)) (X0r:Nb X09) (X0t:Nb X0b),o=X4o.x0 X09 X0b->X3 Tryz.prog 102 0 Q (.exit (.exit 0)) [] ⟨fr [(0,(Lf (X19.map X7))),(5,(slE X0r.1 0 (List.map (aI .i64) X09))),(6,(slE X0t.1 1 (List.map (aI .i64) X0b)))],hp ([]++opE X0r.1 0 1 (List.map (aI .i64) X09)++opE X0t.1 1 1 (List.map (aI .i64) X0b)),2⟩ μ)
  (C1:∀ (X1l:(List Int)) (X52:(List Int)) (X1g:Nb X1l) (X5g:Nb X52),o=X4o.x1 X1l X52->X3 Tryz.prog 102 0 Q (.exit .ret) [] ⟨fr [(2,(slE X1g.1 0 (List.map (aI .i64) X1l))),(3,(slE X5g.1 1 (List.map (aI .i64) X52))),(4,(aB false))],hp ([]++opE X1g.1 0 1 (List.map (aI .i64) X1l)++opE X5g.1 1 1 (List.map (aI .i64) X52)),2⟩ μ),
  X3 Tryz.prog 102 0 Q (.loop (X5p 0 (Xj Tryz.f155))) [] ⟨fr [(0,(Lf (X19.map X7))),(5,(slE X22.1 0 (List.map (aI .i64) Xo))),(6,(slE Xt.1 1 (List.map (aI .i64) Xn))),(7,(aI .i64 (k:Int)))],hp ([]++opE X22.1 0 1 (List.map (aI .i64) Xo)++opE Xt.1 1 1 (List.map (aI .i64) Xn)),2⟩ μ:=by
 intro xs
 induction xs with
 |nil =>
  intro k hx Xo Xn X22 Xt o h C0 C1
  have hk:=drop_nil hx
  have hc:decide ((k:Int)<(X19.length:Int))=false:=Yf (by omega)
  rw[X1q] at h
  rcases X22 with ⟨_|_,X5j⟩
  ·
   rcases Xt with ⟨_|_,X0g⟩
   ·
    refine X3.round ?_
    revert h
    exact fun e=>Xa [.el (aI .i64 (X19.length:Int)),Bf] (k:=wkT [] (C0 _ _  nbF nbF (oj e).symm))
   obtain rfl:=X0g rfl
   refine X3.round ?_
   revert h
   exact fun e=>Xa [.el (aI .i64 (X19.length:Int)),Bf] (k:=wkT [] (C0 _ _  nbF nbS (oj e).symm))
  ·
   obtain rfl:=X5j rfl
   rcases Xt with ⟨_|_,X0g⟩
   ·
    refine X3.round ?_
    revert h
    exact fun e=>Xa [.el (aI .i64 (X19.length:Int)),Bf] (k:=wkT [] (C0 _ _  nbS nbF (oj e).symm))
   ·
    obtain rfl:=X0g rfl
    refine X3.round ?_
    revert h
    exact fun e=>Xa [.el (aI .i64 (X19.length:Int)),Bf] (k:=wkT [] (C0 _ _  nbS nbS (oj e).symm))
 |cons x xs ih =>
  intro k hx Xo Xn X22 Xt o h C0 C1
  obtain⟨hk,hg,hx1⟩:=X1a hx
  have hc:decide ((k:Int)<(X19.length:Int))=true:=Yt (by omega)
  rw[X1q] at h
  rcases X22 with ⟨_|_,X5j⟩
  ·
   rcases Xt with ⟨_|_,X0g⟩
   ·
    refine X3.round ?_
    revert h
    refine bI fun v156 h157=>brI (fun h158=>?_) fun h158=>?_
    ·
     refine brI (fun h159=>fun e=>Xa [.el (aI .i64 (X19.length:Int)),Bt,.el (X7 x),.pure _ (aI .i64 v156),Bt,.wrap,Bt] (k:=wkT [] (C1 _ _  nbS nbS (oj e).symm))) fun h159=>bI fun e160 h161=>?_
     try have qh161:=Xc h161
     refine bI fun e162 h163=>?_
     try have qh163:=Xc h163
     refine rnI [.el (aI .i64 (X19.length:Int)),Bt,.el (X7 x),.pure _ (aI .i64 v156),Bt,.wrap,Bf,.el (aI .i64 e160),.ld (aI .i64 e160),.wrap,.el (aI .i64 e160),.ld (aI .i64 e160),.wrap,.el (aI .i64 e162),.ld (aI .i64 e162),.wrap] ?_
     refine brI (fun h164=>?_) fun h164=>?_
     ·
      refine brI (fun h165=>fun e=>Xa [Bt,Bt] (k:=wkT [] (C1 _ _  nbS nbS (oj e).symm))) fun h165=>bI fun e166 h167=>?_
      try have qh167:=Xc h167
      refine bI fun e168 h169=>?_
      try have qh169:=Xc h169
      refine bI fun v170 h171=>rnI [Bt,Bf,.el (aI .i64 e166),.ld (aI .i64 e166),.wrap,.el (aI .i64 e168),.ld (aI .i64 e168),.wrap,.el (X7 x),.pure _ (aB v170)] ?_
      refine brI (fun h172=>fun e=>Xa [Bt] (k:=wkT [] (C1 _ _  nbS nbS (oj e).symm))) fun h172=>?_
      refine bI fun u173 h174=>bI fun u175 h176=>rnI [Bf,.no,.no] (o:=by repeat' first|apply Ya|exact pcM|(refine Xv h174 rfl ?_;first|(simp;done)|(simp;omega)|(simp[hc,h158,h159,h164,h165,h172];done)|(simp[hc,h158,h159,h164,h165,h172];omega))|(refine Xf h174 (by decide) ?_;first|(simp;done)|(simp;omega)|(simp[hc,h158,h159,h164,h165,h172];done)|(simp[hc,h158,h159,h164,h165,h172];omega))|(refine Xv h176 rfl ?_;first|(simp;done)|(simp;omega)|(simp[hc,h158,h159,h164,h165,h172];done)|(simp[hc,h158,h159,h164,h165,h172];omega))|(refine Xf h176 (by decide) ?_;first|(simp;done)|(simp;omega)|(simp[hc,h158,h159,h164,h165,h172];done)|(simp[hc,h158,h159,h164,h165,h172];omega))|exact Xw) ?_
      intro h
      exact wkT [(0,3),(1,5)] (ih (k+1) hx1 _ _ nbF nbF o h C0 C1)
     refine bI fun v177 h178=>brI (fun h179=>fun e=>Xa [Bf,.el (X7 x),.pure _ (aB v177),Bt] (k:=wkT [] (C1 _ _  nbS nbS (oj e).symm))) fun h179=>?_
     refine bI fun u180 h181=>bI fun u182 h183=>rnI [Bf,.el (X7 x),.pure _ (aB v177),Bf,.no,.no] (o:=by repeat' first|apply Ya|exact pcM|(refine Xv h181 rfl ?_;first|(simp;done)|(simp;omega)|(simp[hc,h158,h159,h164,h179];done)|(simp[hc,h158,h159,h164,h179];omega))|(refine Xf h181 (by decide) ?_;first|(simp;done)|(simp;omega)|(simp[hc,h158,h159,h164,h179];done)|(simp[hc,h158,h159,h164,h179];omega))|(refine Xv h183 rfl ?_;first|(simp;done)|(simp;omega)|(simp[hc,h158,h159,h164,h179];done)|(simp[hc,h158,h159,h164,h179];omega))|(refine Xf h183 (by decide) ?_;first|(simp;done)|(simp;omega)|(simp[hc,h158,h159,h164,h179];done)|(simp[hc,h158,h159,h164,h179];omega))|exact Xw) ?_
     intro h
     exact wkT [(0,3),(1,5)] (ih (k+1) hx1 _ _ nbF nbF o h C0 C1)
    refine bI fun v184 h185=>brI (fun h186=>fun e=>Xa [.el (aI .i64 (X19.length:Int)),Bt,.el (X7 x),.pure _ (aI .i64 v156),Bf,.el (X7 x),.pure _ (aB v184),Bt] (k:=wkT [] (C1 _ _  nbS nbS (oj e).symm))) fun h186=>?_
    refine bI fun u187 h188=>bI fun u189 h190=>rnI [.el (aI .i64 (X19.length:Int)),Bt,.el (X7 x),.pure _ (aI .i64 v156),Bf,.el (X7 x),.pure _ (aB v184),Bf,.no,.no] (o:=by repeat' first|apply Ya|exact pcM|(refine Xv h188 rfl ?_;first|(simp;done)|(simp;omega)|(simp[hc,h158,h186];done)|(simp[hc,h158,h186];omega))|(refine Xf h188 (by decide) ?_;first|(simp;done)|(simp;omega)|(simp[hc,h158,h186];done)|(simp[hc,h158,h186];omega))|(refine Xv h190 rfl ?_;first|(simp;done)|(simp;omega)|(simp[hc,h158,h186];done)|(simp[hc,h158,h186];omega))|(refine Xf h190 (by decide) ?_;first|(simp;done)|(simp;omega)|(simp[hc,h158,h186];done)|(simp[hc,h158,h186];omega))|exact Xw) ?_
    intro h
    exact wkT [(0,3),(1,5)] (ih (k+1) hx1 _ _ nbF nbF o h C0 C1)
   obtain rfl:=X0g rfl
   refine X3.round ?_
   revert h
   refine bI fun v191 h192=>brI (fun h193=>?_) fun h193=>?_
   ·
    refine brI (fun h194=>fun e=>Xa [.el (aI .i64 (X19.length:Int)),Bt,.el (X7 x),.pure _ (aI .i64 v191),Bt,.wrap,Bt] (k:=wkT [] (C1 _ _  nbS nbS (oj e).symm))) fun h194=>bI fun e195 h196=>?_
    try have qh196:=Xc h196
    refine bI fun e197 h198=>?_
    try have qh198:=Xc h198
    intro h
    exact absurd (h198) (by simp[X3c])
   refine bI fun v199 h200=>brI (fun h201=>fun e=>Xa [.el (aI .i64 (X19.length:Int)),Bt,.el (X7 x),.pure _ (aI .i64 v191),Bf,.el (X7 x),.pure _ (aB v199),Bt] (k:=wkT [] (C1 _ _  nbS nbS (oj e).symm))) fun h201=>?_
   refine bI fun u202 h203=>bI fun u204 h205=>rnI [.el (aI .i64 (X19.length:Int)),Bt,.el (X7 x),.pure _ (aI .i64 v191),Bf,.el (X7 x),.pure _ (aB v199),Bf,.no,.no] (o:=by repeat' first|apply Ya|exact pcM|(refine Xv h203 rfl ?_;first|(simp;done)|(simp;omega)|(simp[hc,h193,h201];done)|(simp[hc,h193,h201];omega))|(refine Xf h203 (by decide) ?_;first|(simp;done)|(simp;omega)|(simp[hc,h193,h201];done)|(simp[hc,h193,h201];omega))|(refine Xv h205 rfl ?_;first|(simp;done)|(simp;omega)|(simp[hc,h193,h201];done)|(simp[hc,h193,h201];omega))|(refine Xf h205 (by decide) ?_;first|(simp;done)|(simp;omega)|(simp[hc,h193,h201];done)|(simp[hc,h193,h201];omega))|exact Xw) ?_
   intro h
   exact wkT [(0,3),(1,5)] (ih (k+1) hx1 _ _ nbF nbF o h C0 C1)
  obtain rfl:=X5j rfl
  rcases Xt with ⟨_|_,X0g⟩<;>(try obtain rfl:=X0g rfl)
  all_goals
   refine X3.round ?_
   revert h
   refine bI fun v206 h207=>brI (fun h208=>?_) fun h208=>?_
   ·
    refine brI (fun h209=>fun e=>Xa [.el (aI .i64 (X19.length:Int)),Bt,.el (X7 x),.pure _ (aI .i64 v206),Bt,.wrap,Bt] (k:=wkT [] (C1 _ _  nbS nbS (oj e).symm))) fun h209=>bI fun e210 h211=>?_
    try have qh211:=Xc h211
    intro h
    exact absurd (h211) (by simp[X3c])
   refine bI fun v212 h213=>brI (fun h214=>fun e=>Xa [.el (aI .i64 (X19.length:Int)),Bt,.el (X7 x),.pure _ (aI .i64 v206),Bf,.el (X7 x),.pure _ (aB v212),Bt] (k:=wkT [] (C1 _ _  nbS nbS (oj e).symm))) fun h214=>?_
   refine bI fun u215 h216=>bI fun u217 h218=>rnI [.el (aI .i64 (X19.length:Int)),Bt,.el (X7 x),.pure _ (aI .i64 v206),Bf,.el (X7 x),.pure _ (aB v212),Bf,.no,.no] (o:=by repeat' first|apply Ya|exact pcM|(refine Xv h216 rfl ?_;first|(simp;done)|(simp;omega)|(simp[hc,h208,h214];done)|(simp[hc,h208,h214];omega))|(refine Xf h216 (by decide) ?_;first|(simp;done)|(simp;omega)|(simp[hc,h208,h214];done)|(simp[hc,h208,h214];omega))|(refine Xv h218 rfl ?_;first|(simp;done)|(simp;omega)|(simp[hc,h208,h214];done)|(simp[hc,h208,h214];omega))|(refine Xf h218 (by decide) ?_;first|(simp;done)|(simp;omega)|(simp[hc,h208,h214];done)|(simp[hc,h208,h214];omega))|exact Xw) ?_
   intro h
   exact wkT [(0,3),(1,5)] (ih (k+1) hx1 _ _ nbF nbF o h C0 C1)
instance Xu4:PCs Tryz.prog 155 (∀ (a0:(List X07)) (r:(List Int)×(List Int)×Bool),Xas a0=some r->X0l Tryz.prog 155 [(Lf (a0.map X7))] (AV.tup [(AV.list true (List.map (aI .i64) r.1)),(AV.list true (List.map (aI .i64) r.2.1)),(aB r.2.2)])):=⟨fun a0 r h=>by
 refine X0l.sym X6 X03a (nt:=102) rfl rfl ?_ okM
 unfold Xas at h
 revert h
 refine bI fun u1 h2=>?_
 have qh2:=X1c h2
 refine bI fun o232 h233=>rnI [] ?_
 intro h
 refine wkT [] (X3.cut (Xeh a0 qh2 a0 0 (by simp) _ _ nbS nbS _ h233 ?_ ?_))
 ·
  intro X09 X0b X0r X0t eo232;subst eo232
  refine X3.glue ?_
  try dsimp only at h
  rcases X0r with ⟨_|_,X4b⟩
  ·
   rcases X0t with ⟨_|_,X4a⟩
   ·
    revert h
    refine bI fun Xsn h241=>rnI [.stop 25] ?_
    intro h
    refine X3.join (s':=⟨fr [(2,(AV.ref 0 0 (X09.length))),(3,(AV.ref 1 0 (X0b.length))),(4,(aB Xsn))],hp ([(0,Ob (List.map (aI .i64) X09) 1),(1,Ob (List.map (aI .i64) X0b) 1)]),2⟩) ?_ (fun J=>X3.cut ?_)
    ·
     revert h
     exact fun e=>oj e▸Xa [] (k:=fi)
    clear h;revert h241
    refine brI (fun h238=>?_) fun h238=>?_
    ·
     refine bI fun e239 h240=>?_
     try have qh240:=Xc h240
     intro h
     obtain rfl:=oj h
     exact Xa [.el (aI .i64 (a0.length:Int)),.go true,.go true,.go true,.el (aI .i64 (a0.length:Int)),.go true,.wrap,.go true,.el (aI .i64 e239),.go true,.ld (aI .i64 e239),.go true,.go true,.el (aI .i64 (a0.length:Int)),.go true] (k:=wkT [] (X3.glue J))
    intro h
    obtain rfl:=oj h
    exact Xa [.el (aI .i64 (a0.length:Int)),.go false,.go false,.go false,.go false,.go false,.go false,.go false,.go false,.go false,.go false] (k:=wkT [] (X3.glue J))
   obtain rfl:=X4a rfl
   revert h
   refine bI fun X011 h249=>rnI [.stop 25] ?_
   intro h
   refine X3.join (s':=⟨fr [(2,(AV.ref 0 0 (X09.length))),(3,AV.nils),(4,(aB X011))],hp ([(0,Ob (List.map (aI .i64) X09) 1)]),2⟩) ?_ (fun J=>X3.cut ?_)
   ·
    revert h
    exact fun e=>oj e▸Xa [] (k:=fi)
   clear h;revert h249
   refine brI (fun h246=>?_) fun h246=>?_
   ·
    refine bI fun e247 h248=>?_
    try have qh248:=Xc h248
    intro h
    obtain rfl:=oj h
    exact Xa [.el (aI .i64 (a0.length:Int)),.go true,.go true,.go true,.el (aI .i64 (a0.length:Int)),.go true,.wrap,.go true,.el (aI .i64 e247),.go true,.ld (aI .i64 e247),.go true,.go true,.el (aI .i64 (a0.length:Int)),.go true] (k:=wkT [] (X3.glue J))
   intro h
   obtain rfl:=oj h
   exact Xa [.el (aI .i64 (a0.length:Int)),.go false,.go false,.go false,.go false,.go false,.go false,.go false,.go false,.go false,.go false] (k:=wkT [] (X3.glue J))
  obtain rfl:=X4b rfl
  rcases X0t with ⟨_|_,X4a⟩
  ·
   revert h
   refine bI fun X010 h257=>rnI [.stop 25] ?_
   intro h
   refine X3.join (s':=⟨fr [(2,AV.nils),(3,(AV.ref 1 0 (X0b.length))),(4,(aB X010))],hp ([(1,Ob (List.map (aI .i64) X0b) 1)]),2⟩) ?_ (fun J=>X3.cut ?_)
   ·
    revert h
    exact fun e=>oj e▸Xa [] (k:=fi)
   clear h;revert h257
   refine brI (fun h254=>?_) fun h254=>?_
   ·
    refine bI fun e255 h256=>?_
    try have qh256:=Xc h256
    intro h
    exact absurd (h256) (by simp[X3c])
   intro h
   obtain rfl:=oj h
   exact Xa [.el (aI .i64 (a0.length:Int)),.go false,.go false,.go false,.go false,.go false,.go false,.go false,.go false,.go false,.go false] (k:=wkT [] (X3.glue J))
  obtain rfl:=X4a rfl
  revert h
  refine bI fun X00z h265=>rnI [.stop 25] ?_
  intro h
  refine X3.join (s':=⟨fr [(2,AV.nils),(3,AV.nils),(4,(aB X00z))],hp ([]),2⟩) ?_ (fun J=>X3.cut ?_)
  ·
   revert h
   exact fun e=>oj e▸Xa [] (k:=fi)
  clear h;revert h265
  refine brI (fun h262=>?_) fun h262=>?_
  ·
   refine bI fun e263 h264=>?_
   try have qh264:=Xc h264
   intro h
   exact absurd (h264) (by simp[X3c])
  intro h
  obtain rfl:=oj h
  exact Xa [.el (aI .i64 (a0.length:Int)),.go false,.go false,.go false,.go false,.go false,.go false,.go false,.go false,.go false,.go false] (k:=wkT [] (X3.glue J))
 intro X1l X52 X1g X5g eo232;subst eo232
 refine X3.glue ?_
 try dsimp only at h
 rcases X1g with ⟨_|_,X5h⟩<;>(try obtain rfl:=X5h rfl)
 all_goals
  rcases X5g with ⟨_|_,Xeq⟩<;>(try obtain rfl:=Xeq rfl)
  all_goals
   revert h
   exact fun e=>oj e▸Xa [] (k:=fi)⟩
instance Xu6:PCs Tryz.prog 127 (∀ (a0:(List X07)) (r:Int),X4i a0=some r->X0l Tryz.prog 127 [(Lf (a0.map X7))] (aI .i64 r)):=⟨fun a0 r h=>by
 refine X0l.sym X6 X03q (nt:=24) rfl rfl ?_ okM
 unfold X4i at h
 revert h
 refine brI (fun h1=>fun e=>oj e▸Xa [.el (aI .i64 (a0.length:Int)),Bt] (k:=fi)) fun h1=>bI fun v2 h3=>rnI [.el (aI .i64 (a0.length:Int)),Bf,.pure _ (AV.tup [(AV.list true (List.map (aI .i64) v2.1)),(AV.list true (List.map (aI .i64) v2.2.1)),(aB v2.2.2)])] ?_
 refine brI (fun h4=>fun e=>oj e▸Xa [Bt] (k:=fi)) fun h4=>bI fun e5 h6=>?_
 try have qh6:=Xc h6
 exact brI (fun h7=>fun e=>oj e▸Xa [Bf,.el (aI .i64 (a0.length:Int)),.wrap,.el (aI .i64 e5),Bt] (k:=fi)) fun h7=>fun e=>oj e▸Xa [Bf,.el (aI .i64 (a0.length:Int)),.wrap,.el (aI .i64 e5),Bf] (k:=fi)⟩
theorem Xcy {Q:Xz->St->Mu->Prop} {μ:Mu} (X19:(List Int)) (hl:X19.length<=140737488355328):∀ (xs:List Int) (k:Nat) (hx:X19.drop k=xs) (o:X50) (h:X34 X19 xs k  = some o)
  (C0:o=X50.x0->X3 Tryz.prog 60 0 Q (.exit (.exit 0)) [] ⟨fr [(0,(Lf (List.map (aI .i64) X19)))],hp ([]),0⟩ μ)
  (C1:o=X50.x1->X3 Tryz.prog 60 0 Q (.exit .ret) [] ⟨fr [(4,(aI .i64 8))],hp ([]),0⟩ μ),
  X3 Tryz.prog 60 0 Q (.loop (X5p 0 (Xj Tryz.f128))) [] ⟨fr [(0,(Lf (List.map (aI .i64) X19))),(5,(aI .i64 (k:Int)))],hp ([]),0⟩ μ:=by
 intro xs
 induction xs with
 |nil =>
  intro k hx  o h C0 C1
  have hk:=drop_nil hx
  have hc:decide ((k:Int)<(X19.length:Int))=false:=Yf (by omega)
  rw[X34] at h
  refine X3.round ?_
  revert h
  exact fun e=>Xa [.el (aI .i64 (X19.length:Int)),Bf] (k:=wkT [] (C0  (oj e).symm))
 |cons x xs ih =>
  intro k hx  o h C0 C1
  obtain⟨hk,hg,hx1⟩:=X1a hx
  have hc:decide ((k:Int)<(X19.length:Int))=true:=Yt (by omega)
  rw[X34] at h
  refine X3.round ?_
  revert h
  refine bI fun Xsm h25=>rnI [.el (aI .i64 (X19.length:Int)),Bt,.stop 8] ?_
  intro h
  refine X3.join (s':=⟨fr [(0,(Lf (List.map (aI .i64) X19))),(5,(aI .i64 (k:Int))),(39,(aB Xsm))],hp ([]),0⟩) ?_ (fun J=>X3.cut ?_)
  ·
   revert h
   refine brI (fun h26=>fun e=>Xa [Bt] (k:=wkT [] (C1  (oj e).symm))) fun h26=>rnI [Bf] ?_
   intro h
   exact wkT [] (ih (k+1) hx1  o h C0 C1)
  clear h;revert h25
  refine brI (fun h24=>?_) fun h24=>?_
  ·
   intro h
   obtain rfl:=oj h
   exact Xa [.el (aI .i64 x),.go false,.go false,.go false,.go false,.go false] (k:=wkT [] (X3.glue J))
  intro h
  obtain rfl:=oj h
  exact Xa [.el (aI .i64 x),.go true,.go true,.go true,.el (aI .i64 x),.go true,.go true] (k:=wkT [] (X3.glue J))
theorem Xcw {Q:Xz->St->Mu->Prop} {μ:Mu} (Xxp:(List Int)) (Xxo:Int):∀ (n:Nat) (Xwu:Int) (o:X4y) (h:X33 Xxp Xxo n Xwu=some o)
  (C0:o=X4y.x0->X3 Tryz.prog 60 0 Q (.exit .ret) [] ⟨fr [(4,(aI .i64 43))],hp ([]),0⟩ μ)
  (C1:o=X4y.x1->X3 Tryz.prog 60 0 Q (.exit (.exit 4)) [] ⟨fr [(0,(Lf (List.map (aI .i64) Xxp))),(6,(aI .i64 Xxo))],hp ([]),0⟩ μ),
  X3 Tryz.prog 60 0 Q (.loop (X5p 2 (Xj Tryz.f128))) [] ⟨fr [(0,(Lf (List.map (aI .i64) Xxp))),(6,(aI .i64 Xxo)),(7,(aI .i64 Xwu))],hp ([]),0⟩ μ:=by
 intro n
 induction n with
 |zero=>intro Xwu o h C0 C1;cases h
 |succ n ih =>
  intro Xwu o h C0 C1
  rw[X33] at h
  refine X3.round ?_
  revert h
  refine brI (fun h85=>?_) fun h85=>fun e=>Xa [Bf] (k:=wkT [] (C1  (oj e).symm))
  refine bI fun e86 h87=>?_
  try have qh87:=Xc h87
  refine bI fun e88 h89=>?_
  try have qh89:=Xc h89
  refine brI (fun h90=>fun e=>Xa [Bt,.el (aI .i64 e86),.el (aI .i64 e88),Bt] (k:=wkT [] (C0  (oj e).symm))) fun h90=>rnI [Bt,.el (aI .i64 e86),.el (aI .i64 e88),Bf,.wrap] ?_
  intro h
  exact wkT [] (ih  _ o h C0 C1)
theorem Xcx {Q:Xz->St->Mu->Prop} {μ:Mu} (Xqm:(List Int)) (hl:Xqm.length<=140737488355328):∀ (xs:List Int) (k:Nat) (hx:Xqm.drop k=xs) (o:X4z) (h:X2l Xqm xs k  = some o)
  (C0:o=X4z.x0->X3 Tryz.prog 60 0 Q (.exit (.exit 2)) [] ⟨fr [],hp ([]),0⟩ μ)
  (C1:o=X4z.x1->X3 Tryz.prog 60 0 Q (.exit .ret) [] ⟨fr [(4,(aI .i64 43))],hp ([]),0⟩ μ),
  X3 Tryz.prog 60 0 Q (.loop (X5p 1 (Xj Tryz.f128))) [] ⟨fr [(0,(Lf (List.map (aI .i64) Xqm))),(6,(aI .i64 (k:Int)))],hp ([]),0⟩ μ:=by
 intro xs
 induction xs with
 |nil =>
  intro k hx  o h C0 C1
  have hk:=drop_nil hx
  have hc:decide ((k:Int)<(Xqm.length:Int))=false:=Yf (by omega)
  rw[X2l] at h
  refine X3.round ?_
  revert h
  exact fun e=>Xa [.el (aI .i64 (Xqm.length:Int)),Bf] (k:=wkT [] (C0  (oj e).symm))
 |cons x xs ih =>
  intro k hx  o h C0 C1
  obtain⟨hk,hg,hx1⟩:=X1a hx
  have hc:decide ((k:Int)<(Xqm.length:Int))=true:=Yt (by omega)
  rw[X2l] at h
  refine X3.round ?_
  revert h
  refine bI fun o91 h92=>rnI [.el (aI .i64 (Xqm.length:Int)),Bt] ?_
  intro h
  refine wkT [] (X3.cut (Xcw Xqm (k:Int) _ _ _ h92 ?_ ?_))
  ·
   intro eo91;subst eo91
   refine X3.glue ?_
   try dsimp only at h
   revert h
   exact fun e=>Xa [] (k:=wkT [] (C1  (oj e).symm))
  intro eo91;subst eo91
  refine X3.glue ?_
  try dsimp only at h
  exact Xa [] (k:=wkT [] (ih (k+1) hx1  o h C0 C1))
instance Xqp:PCs Tryz.prog 128 (∀ (a0:(List Int)) (a1:Bool) (r:Int),X6o a0 a1=some r->X0l Tryz.prog 128 [(Lf (List.map (aI .i64) a0)),(aB a1)] (aI .i64 r)):=⟨fun a0 a1 r h=>by
 refine X0l.sym X6 X03p (nt:=60) rfl rfl ?_ okM
 unfold X6o at h
 revert h
 refine brI (fun h1=>fun e=>oj e▸Xa [.el (aI .i64 (a0.length:Int)),Bt] (k:=fi)) fun h1=>bI fun Xyp h7=>rnI [.el (aI .i64 (a0.length:Int)),Bf,.stop 3] ?_
 intro h
 refine X3.join (s':=⟨fr [(0,(Lf (List.map (aI .i64) a0))),(21,(aB Xyp))],hp ([]),0⟩) ?_ (fun J=>X3.cut ?_)
 ·
  revert h
  refine brI (fun h8=>fun e=>oj e▸Xa [Bt] (k:=fi)) fun h8=>bI fun u9 h10=>?_
  have qh10:=X1c h10
  refine bI fun o27 h28=>rnI [Bf] ?_
  intro h
  refine wkT [] (X3.cut (Xcy a0 qh10 a0 0 (by simp) _ h28 ?_ ?_))
  ·
   intro eo27;subst eo27
   refine X3.glue ?_
   try dsimp only at h
   revert h
   refine bI fun o93 h94=>rnI [] ?_
   intro h
   refine wkT [] (X3.cut (Xcx a0 qh10 a0 0 (by simp) _ h94 ?_ ?_))
   ·
    intro eo93;subst eo93
    refine X3.glue ?_
    try dsimp only at h
    revert h
    exact fun e=>oj e▸Xa [] (k:=fi)
   intro eo93;subst eo93
   refine X3.glue ?_
   try dsimp only at h
   revert h
   exact fun e=>oj e▸Xa [] (k:=fi)
  intro eo27;subst eo27
  refine X3.glue ?_
  try dsimp only at h
  revert h
  exact fun e=>oj e▸Xa [] (k:=fi)
 clear h;revert h7
 refine brI (fun h5=>?_) fun h5=>?_
 ·
  intro h
  obtain rfl:=oj h
  exact Xa [.el (aI .i64 (a0.length:Int)),.go false,.go false,.go false,.go false,.go false,.go false] (k:=wkT [] (X3.glue J))
 refine brI (fun h6=>?_) fun h6=>?_
 ·
  intro h
  obtain rfl:=oj h
  exact Xa [.el (aI .i64 (a0.length:Int)),.go true,.go true,.go true,.go true,.el (aI .i64 (a0.length:Int)),.go true,.go true] (k:=wkT [] (X3.glue J))
 intro h
 obtain rfl:=oj h
 exact Xa [.el (aI .i64 (a0.length:Int)),.go true,.go true,.go false,.go false,.go false,.go true] (k:=wkT [] (X3.glue J))⟩
instance Xv1:PCs Tryz.prog 129 (∀ (a0:X0n) (r:Bool),X7d a0=some r->X0l Tryz.prog 129 [(X3i a0)] (aB r)):=⟨fun a0 r h=>by
 refine X0l.sym X6 X03o (nt:=45) rfl rfl ?_ okM
 unfold X7d at h
 revert h
 exact brI (fun h1=>fun e=>oj e▸Xa [Bt] (k:=fi)) fun h1=>brI (fun h2=>fun e=>oj e▸Xa [Bf,Bt,.wrap] (k:=fi)) fun h2=>fun e=>oj e▸Xa [Bf,Bf] (k:=fi)⟩
instance Xu0:PCs Tryz.prog 86 (∀ (a0:X06) (r:Int),X8z a0=some r->X0l Tryz.prog 86 [(Xs false a0)] (aI .i64 r)):=⟨fun a0 r h=>by
 refine X0l.sym X6 fn86 (nt:=80) rfl rfl ?_ okM
 unfold X8z at h
 revert h
 refine brI (fun h1=>fun e=>oj e▸Xa [Bt] (k:=fi)) fun h1=>bI fun Xyw h5=>rnI [Bf,.stop 3] ?_
 intro h
 refine X3.join (s':=⟨fr [(1,(AV.ptr 0 0 0)),(29,(aB Xyw))],hp ([(0,Ob [(Xs false a0)] 10)]),1⟩) ?_ (fun J=>X3.cut ?_)
 ·
  revert h
  refine brI (fun h6=>fun e=>oj e▸Xa [Bt] (k:=fi)) fun h6=>bI fun Xsq h14=>rnI [Bf,.stop 5] ?_
  intro h
  refine X3.join (s':=⟨fr [(1,(AV.ptr 0 0 0)),(38,(aB Xsq))],hp ([(0,Ob [(Xs false a0)] 10)]),1⟩) ?_ (fun J=>X3.cut ?_)
  ·
   revert h
   refine brI (fun h15=>bI fun v16 h17=>fun e=>oj e▸Xa [Bt,.pure _ (aI .i64 v16)] (k:=fi)) fun h15=>bI fun Xlj h25=>rnI [Bf,.stop 7] ?_
   intro h
   refine X3.join (s':=⟨fr [(1,(AV.ptr 0 0 0)),(51,(aB Xlj))],hp ([(0,Ob [(Xs false a0)] 10)]),1⟩) ?_ (fun J=>X3.cut ?_)
   ·
    revert h
    exact brI (fun h26=>bI fun v27 h28=>fun e=>oj e▸Xa [Bt,.pure _ (aI .i64 v27)] (k:=fi)) fun h26=>bI fun v29 h30=>brI (fun h31=>fun e=>oj e▸Xa [Bf,.pure _ (aI .i64 v29),Bt,.pure _ (aI .i64 v29)] (k:=fi)) fun h31=>bI fun v32 h33=>brI (fun h34=>fun e=>oj e▸Xa [Bf,.pure _ (aI .i64 v29),Bf,.pure _ (aB v32),Bt] (k:=fi)) fun h34=>fun e=>oj e▸Xa [Bf,.pure _ (aI .i64 v29),Bf,.pure _ (aB v32),Bf] (k:=fi)
   clear h;revert h25
   refine brI (fun h22=>?_) fun h22=>?_
   ·
    refine bI fun v23 h24=>?_
    intro h
    obtain rfl:=oj h
    exact Xa [.el (aI .i64 (a0.Where.length:Int)),.go true,.go true,.go true,.pure _ (aI .i64 v23),.go true] (k:=wkT [] (X3.glue J))
   intro h
   obtain rfl:=oj h
   exact Xa [.el (aI .i64 (a0.Where.length:Int)),.go false,.go false,.go false,.go false] (k:=wkT [] (X3.glue J))
  clear h;revert h14
  refine brI (fun h11=>?_) fun h11=>?_
  ·
   refine bI fun v12 h13=>?_
   intro h
   obtain rfl:=oj h
   exact Xa [.go true,.go true,.go true,.pure _ (aI .i64 v12),.go true] (k:=wkT [] (X3.glue J))
  intro h
  obtain rfl:=oj h
  exact Xa [.go false,.go false,.go false,.go false] (k:=wkT [] (X3.glue J))
 clear h;revert h5
 refine brI (fun h4=>?_) fun h4=>?_
 ·
  intro h
  obtain rfl:=oj h
  exact Xa [.go true,.go true,.go true,.el (aI .i64 (a0.Arg.length:Int)),.go true] (k:=wkT [] (X3.glue J))
 intro h
 obtain rfl:=oj h
 exact Xa [.go false,.go false,.go false,.go false] (k:=wkT [] (X3.glue J))⟩
instance Xu2:PCs Tryz.prog 176 (∀ (a0:Int) (r:Bool),X68 a0=some r->X0l Tryz.prog 176 [(aI .u8 a0)] (aB r)):=⟨fun a0 r h=>by
 refine X0l.sym X6 X02z (nt:=9) rfl rfl ?_ okM
 unfold X68 at h
 revert h
 exact fun e=>oj e▸Xa [] (k:=fi)⟩
instance Xv2:PCs Tryz.prog 196 (∀ (a0:(List X07)) (a1:Int) (r:Bool),Xa9 a0 a1=some r->X0l Tryz.prog 196 [(Lf (a0.map X7)),(aI .i64 a1)] (aB r)):=⟨fun a0 a1 r h=>by
 refine X0l.sym X6 X02s (nt:=67) rfl rfl ?_ okM
 unfold Xa9 at h
 revert h
 refine bI fun e1 h2=>?_
 try have qh2:=Xc h2
 refine bI fun e3 h4=>?_
 try have qh4:=Xc h4
 refine bI fun v5 h6=>bI fun e7 h8=>?_
 try have qh8:=Xc h8
 exact bI fun v9 h10=>brI (fun h11=>fun e=>oj e▸Xa [.el (X7 e1),.el (X7 e3),.pure _ (aB v5),.el (X7 e7),.pure _ (aB v9),Bt] (k:=fi)) fun h11=>brI (fun h12=>fun e=>oj e▸Xa [.el (X7 e1),.el (X7 e3),.pure _ (aB v5),.el (X7 e7),.pure _ (aB v9),Bf,Bt] (k:=fi)) fun h12=>brI (fun h13=>fun e=>oj e▸Xa [.el (X7 e1),.el (X7 e3),.pure _ (aB v5),.el (X7 e7),.pure _ (aB v9),Bf,Bf,Bt] (k:=fi)) fun h13=>brI (fun h14=>fun e=>oj e▸Xa [.el (X7 e1),.el (X7 e3),.pure _ (aB v5),.el (X7 e7),.pure _ (aB v9),Bf,Bf,Bf,Bt] (k:=fi)) fun h14=>brI (fun h15=>fun e=>oj e▸Xa [.el (X7 e1),.el (X7 e3),.pure _ (aB v5),.el (X7 e7),.pure _ (aB v9),Bf,Bf,Bf,Bf,Bt] (k:=fi)) fun h15=>fun e=>oj e▸Xa [.el (X7 e1),.el (X7 e3),.pure _ (aB v5),.el (X7 e7),.pure _ (aB v9),Bf,Bf,Bf,Bf,Bf] (k:=fi)⟩
theorem Xeg {Q:Xz->St->Mu->Prop} {μ:Mu} (X19:(List X07)) (hl:X19.length<=140737488355328):∀ (xs:List X07) (k:Nat) (hx:X19.drop k=xs) (o:X60) (h:X40 X19 xs k  = some o)
  (C0:o=X60.x0->X3 Tryz.prog 17 0 Q (.exit (.exit 0)) [] ⟨fr [(0,(Lf (X19.map X7)))],hp ([]),0⟩ μ)
  (C1:∀ (Xa1:Int),o=X60.x1 Xa1->X3 Tryz.prog 17 0 Q (.exit .ret) [] ⟨fr [(2,(aI .i64 Xa1))],hp ([]),0⟩ μ),
  X3 Tryz.prog 17 0 Q (.loop (X5p 0 (Xj Tryz.f175))) [] ⟨fr [(0,(Lf (X19.map X7))),(3,(aI .i64 (k:Int)))],hp ([]),0⟩ μ:=by
 intro xs
 induction xs with
 |nil =>
  intro k hx  o h C0 C1
  have hk:=drop_nil hx
  have hc:decide ((k:Int)<(X19.length:Int))=false:=Yf (by omega)
  rw[X40] at h
  refine X3.round ?_
  revert h
  exact fun e=>Xa [.el (aI .i64 (X19.length:Int)),Bf] (k:=wkT [] (C0  (oj e).symm))
 |cons x xs ih =>
  intro k hx  o h C0 C1
  obtain⟨hk,hg,hx1⟩:=X1a hx
  have hc:decide ((k:Int)<(X19.length:Int))=true:=Yt (by omega)
  rw[X40] at h
  refine X3.round ?_
  revert h
  refine bI fun v10 h11=>brI (fun h12=>fun e=>Xa [.el (aI .i64 (X19.length:Int)),Bt,.pure _ (aB v10),Bt] (k:=wkT [] (C1 _  (oj e).symm))) fun h12=>rnI [.el (aI .i64 (X19.length:Int)),Bt,.pure _ (aB v10),Bf] ?_
  intro h
  exact wkT [] (ih (k+1) hx1  o h C0 C1)
instance Xu1:PCs Tryz.prog 175 (∀ (a0:(List X07)) (r:Int),Xar a0=some r->X0l Tryz.prog 175 [(Lf (a0.map X7))] (aI .i64 r)):=⟨fun a0 r h=>by
 refine X0l.sym X6 X030 (nt:=17) rfl rfl ?_ okM
 unfold Xar at h
 revert h
 refine bI fun u1 h2=>?_
 have qh2:=X1c h2
 refine bI fun o13 h14=>rnI [] ?_
 intro h
 refine wkT [] (X3.cut (Xeg a0 qh2 a0 0 (by simp) _ h14 ?_ ?_))
 ·
  intro eo13;subst eo13
  refine X3.glue ?_
  try dsimp only at h
  revert h
  exact fun e=>oj e▸Xa [.el (aI .i64 (a0.length:Int))] (k:=fi)
 intro Xa1 eo13;subst eo13
 refine X3.glue ?_
 try dsimp only at h
 revert h
 exact fun e=>oj e▸Xa [] (k:=fi)⟩
instance Xy7:PCs Tryz.prog 156 (∀ (a0:(List X07)) (r:Bool×Int×Int),Xdg a0=some r->X0l Tryz.prog 156 [(Lf (a0.map X7))] (AV.tup [(aB r.1),(aI .i64 r.2.1),(aI .i64 r.2.2)])):=⟨fun a0 r h=>by
 refine X0l.sym X6 X039 (nt:=29) rfl rfl ?_ okM
 unfold Xdg at h
 revert h
 refine bI fun v1 h2=>brI (fun h3=>fun e=>oj e▸Xa [.pure _ (aI .i64 v1),Bt,.pure _ (aI .i64 v1)] (k:=fi)) fun h3=>bI fun v4 h5=>brI (fun h6=>fun e=>oj e▸Xa [.pure _ (aI .i64 v1),Bf,.pure _ (aI .i64 v4),.el (aI .i64 (a0.length:Int)),Bt] (k:=fi)) fun h6=>bI fun e7 h8=>?_
 try have qh8:=Xc h8
 exact bI fun v9 h10=>fun e=>oj e▸Xa [.pure _ (aI .i64 v1),Bf,.pure _ (aI .i64 v4),.el (aI .i64 (a0.length:Int)),Bf,.el (aI .i64 (a0.length:Int)),.wrap,.el (X7 e7),.pure _ (aB v9),.el (aI .i64 (a0.length:Int)),.wrap] (k:=fi)⟩
instance Xv3:PCs Tryz.prog 130 (∀ (a0:(List X07)) (a1:Bool) (r:Int×Int),X7e a0 a1=some r->X0l Tryz.prog 130 [(Lf (a0.map X7)),(aB a1)] (AV.tup [(aI .i64 r.1),(aI .i64 r.2)])):=⟨fun a0 a1 r h=>by
 refine X0l.sym X6 X03n (nt:=25) rfl rfl ?_ okM
 unfold X7e at h
 revert h
 exact bI fun v1 h2=>brI (fun h3=>fun e=>oj e▸Xa [.pure _ (AV.tup [(aB v1.1),(aI .i64 v1.2.1),(aI .i64 v1.2.2)]),Bt] (k:=fi)) fun h3=>fun e=>oj e▸Xa [.pure _ (AV.tup [(aB v1.1),(aI .i64 v1.2.1),(aI .i64 v1.2.2)]),Bf] (k:=fi)⟩
end Go.Av.Tryz