/- Printed by decomp.py: that the program computes the functions. -/
import Derived.Test.YtfdfgobnpnoomaaGreatDCert8Z
set_option linter.all false

namespace Go.Av.Tryz
open Go.Proofs Go.D
set_option maxRecDepth 10000
set_option maxHeartbeats 40000000
instance X01x:PCs Tryz.prog 19 (∀ (a0:Xw) (a1:(List (List Xk))) (r:(List X1c)×(List Xc)×Int),X3r a0 a1=some r->X0j Tryz.prog 19 [(Xn false a0),(Lf (List.map (X6j false Xa) a1))] (AV.tup [(AV.list true (r.1.map Xd)),(AV.list true (r.2.1.map X0)),(aI .i64 r.2.2)])):=⟨fun a0 a1 r h=>by
 refine X0j.sym X9 fn19 (nt:=119) rfl rfl ?_ okM
 unfold X3r at h
 revert h
 refine bI fun v1 h2=>brI (fun h3=>fun e=>oj e▸X7 [.pure _ (AV.tup [(aI .i64 v1.1),(aI .i64 v1.2)]),Bt] (k:=fi)) fun h3=>brI (fun h4=>fun e=>oj e▸X7 [.pure _ (AV.tup [(aI .i64 v1.1),(aI .i64 v1.2)]),Bf,.el (aI .i64 (a1.length:Int)),.el (aI .i64 (a0.Sources.length:Int)),Bt] (k:=fi)) fun h4=>bI fun v5 h6=>rnI [.pure _ (AV.tup [(aI .i64 v1.1),(aI .i64 v1.2)]),Bf,.el (aI .i64 (a1.length:Int)),.el (aI .i64 (a0.Sources.length:Int)),Bf,.pure _ (aI .i64 v5)] ?_
 refine brI (fun h7=>fun e=>oj e▸X7 [Bt] (k:=fi)) fun h7=>rnI [Bf,.el (aI .i64 (a1.length:Int))] ?_
 intro h
 refine X2.nilsList 10 true rfl ?_
 revert h
 refine bI fun u8 h9=>?_
 have qh9:=X09 h9
 refine bI fun o647 h648=>rnI [] ?_
 intro h
 refine wkT [] (X2.cut (Xhz a0 a1 qh9 a1 0 (by simp) _ _ nbS _ h648 ?_ ?_))
 ·
  intro X7h X0r X0t eo647;subst eo647
  refine X2.glue ?_
  try dsimp only at h
  rcases X0t with ⟨_|_,X2p⟩
  ·
   revert h
   refine bI fun u649 h650=>?_
   have qh650:=X09 h650
   refine bI fun o772 h773=>rnI [.el (aI .i64 (X7h.length:Int))] ?_
   intro h
   refine wkT [] (X2.cut (Xcm a0 X0r X7h nbF qh650 X7h 0 (by simp) _ nbS _ h773 ?_))
   intro X4y X5s X3m X7e eo772;subst eo772
   refine X2.glue ?_
   try dsimp only at h
   rcases X3m with ⟨_|_,X8r⟩
   ·
    rcases X7e with ⟨_|_,X8q⟩
    ·
     revert h
     refine bI fun Xkt h777=>rnI [] ?_
     intro h
     refine X2.joinF (fun(q:Nb Xkt)=>⟨fr [(11,(slE q.1 0 (Xkt.map X0))),(22,(AV.ref 1 0 (X5s.length)))],hp ([(1,Ob (X5s.map Xd) 5)]++opE q.1 0 3 (Xkt.map X0)),2⟩) ?_ (fun J=>X2.cut ?_)
     ·
      rintro Xvi
      rcases Xvi with ⟨_|_,Xwc⟩
      ·
       revert h
       exact fun e=>oj e▸X7 [] (k:=fi)
      obtain rfl:=Xwc rfl
      revert h
      exact fun e=>oj e▸X7 [] (k:=fi)
     clear h;revert h777
     refine brI (fun h776=>?_) fun h776=>?_
     ·
      intro h
      obtain rfl:=oj h
      exact X7 [Bt] (k:=wkT [(1,2)] (X2.glue (J nbS)))
     intro h
     obtain rfl:=oj h
     exact X7 [Bf] (k:=wkT [(0,1),(1,2)] (X2.glue (J nbF)))
    obtain rfl:=X8q rfl
    revert h
    refine bI fun Xs8 h781=>rnI [] ?_
    intro h
    refine X2.joinF (fun(q:Nb Xs8)=>⟨fr [(11,(slE q.1 0 (Xs8.map X0))),(22,AV.nils)],hp ([]++opE q.1 0 3 (Xs8.map X0)),2⟩) ?_ (fun J=>X2.cut ?_)
    ·
     rintro Xvh
     rcases Xvh with ⟨_|_,Xwb⟩
     ·
      revert h
      exact fun e=>oj e▸X7 [] (k:=fi)
     obtain rfl:=Xwb rfl
     revert h
     exact fun e=>oj e▸X7 [] (k:=fi)
    clear h;revert h781
    refine brI (fun h780=>?_) fun h780=>?_
    ·
     intro h
     obtain rfl:=oj h
     exact X7 [Bt] (k:=wkT [] (X2.glue (J nbS)))
    intro h
    obtain rfl:=oj h
    exact X7 [Bf] (k:=wkT [(0,1)] (X2.glue (J nbF)))
   obtain rfl:=X8r rfl
   rcases X7e with ⟨_|_,X8q⟩
   ·
    revert h
    refine bI fun Xs7 h785=>rnI [] ?_
    intro h
    refine X2.joinF (fun(q:Nb Xs7)=>⟨fr [(11,(slE q.1 0 (Xs7.map X0))),(22,(AV.ref 1 0 (X5s.length)))],hp ([(1,Ob (X5s.map Xd) 5)]++opE q.1 0 3 (Xs7.map X0)),2⟩) ?_ (fun J=>X2.cut ?_)
    ·
     rintro Xvg
     rcases Xvg with ⟨_|_,Xwa⟩
     ·
      revert h
      exact fun e=>oj e▸X7 [] (k:=fi)
     obtain rfl:=Xwa rfl
     revert h
     exact fun e=>oj e▸X7 [] (k:=fi)
    clear h;revert h785
    refine brI (fun h784=>?_) fun h784=>?_
    ·
     intro h
     obtain rfl:=oj h
     exact X7 [Bt] (k:=wkT [(1,2)] (X2.glue (J nbS)))
    intro h
    obtain rfl:=oj h
    exact X7 [Bf] (k:=wkT [(1,2)] (X2.glue (J nbS)))
   obtain rfl:=X8q rfl
   revert h
   refine bI fun Xs6 h789=>rnI [] ?_
   intro h
   refine X2.joinF (fun(q:Nb Xs6)=>⟨fr [(11,(slE q.1 0 (Xs6.map X0))),(22,AV.nils)],hp ([]++opE q.1 0 3 (Xs6.map X0)),2⟩) ?_ (fun J=>X2.cut ?_)
   ·
    rintro Xvf
    rcases Xvf with ⟨_|_,Xw9⟩
    ·
     revert h
     exact fun e=>oj e▸X7 [] (k:=fi)
    obtain rfl:=Xw9 rfl
    revert h
    exact fun e=>oj e▸X7 [] (k:=fi)
   clear h;revert h789
   refine brI (fun h788=>?_) fun h788=>?_
   ·
    intro h
    obtain rfl:=oj h
    exact X7 [Bt] (k:=wkT [] (X2.glue (J nbS)))
   intro h
   obtain rfl:=oj h
   exact X7 [Bf] (k:=wkT [] (X2.glue (J nbS)))
  obtain rfl:=X2p rfl
  revert h
  refine bI fun u790 h791=>?_
  have qh791:=X09 h791
  refine bI fun o873 h874=>rnI [.el (aI .i64 (X7h.length:Int))] ?_
  intro h
  refine wkT [] (X2.cut (Xcm a0 ([]:List Xc) X7h nbS qh791 X7h 0 (by simp) _ nbS _ h874 ?_))
  intro X4y X5s X3m X7e eo873;subst eo873
  refine X2.glue ?_
  try dsimp only at h
  rcases X3m with ⟨_|_,X8r⟩
  ·
   rcases X7e with ⟨_|_,X8q⟩
   ·
    revert h
    refine bI fun Xs5 h878=>rnI [] ?_
    intro h
    refine X2.joinF (fun(q:Nb Xs5)=>⟨fr [(11,(slE q.1 0 (Xs5.map X0))),(22,(AV.ref 1 0 (X5s.length)))],hp ([(1,Ob (X5s.map Xd) 5)]++opE q.1 0 3 (Xs5.map X0)),2⟩) ?_ (fun J=>X2.cut ?_)
    ·
     rintro Xvd
     rcases Xvd with ⟨_|_,Xw7⟩
     ·
      revert h
      exact fun e=>oj e▸X7 [] (k:=fi)
     obtain rfl:=Xw7 rfl
     revert h
     exact fun e=>oj e▸X7 [] (k:=fi)
    clear h;revert h878
    refine brI (fun h877=>?_) fun h877=>?_
    ·
     intro h
     obtain rfl:=oj h
     exact X7 [Bt] (k:=wkT [(1,2)] (X2.glue (J nbS)))
    intro h
    obtain rfl:=oj h
    exact X7 [Bf] (k:=wkT [(0,1),(1,2)] (X2.glue (J nbF)))
   obtain rfl:=X8q rfl
   revert h
   refine bI fun Xs4 h882=>rnI [] ?_
   intro h
   refine X2.joinF (fun(q:Nb Xs4)=>⟨fr [(11,(slE q.1 0 (Xs4.map X0))),(22,AV.nils)],hp ([]++opE q.1 0 3 (Xs4.map X0)),2⟩) ?_ (fun J=>X2.cut ?_)
   ·
    rintro Xvc
    rcases Xvc with ⟨_|_,Xw6⟩
    ·
     revert h
     exact fun e=>oj e▸X7 [] (k:=fi)
    obtain rfl:=Xw6 rfl
    revert h
    exact fun e=>oj e▸X7 [] (k:=fi)
   clear h;revert h882
   refine brI (fun h881=>?_) fun h881=>?_
   ·
    intro h
    obtain rfl:=oj h
    exact X7 [Bt] (k:=wkT [] (X2.glue (J nbS)))
   intro h
   obtain rfl:=oj h
   exact X7 [Bf] (k:=wkT [(0,1)] (X2.glue (J nbF)))
  obtain rfl:=X8r rfl
  rcases X7e with ⟨_|_,X8q⟩
  ·
   revert h
   refine bI fun Xs3 h886=>rnI [] ?_
   intro h
   refine X2.joinF (fun(q:Nb Xs3)=>⟨fr [(11,(slE q.1 0 (Xs3.map X0))),(22,(AV.ref 1 0 (X5s.length)))],hp ([(1,Ob (X5s.map Xd) 5)]++opE q.1 0 3 (Xs3.map X0)),2⟩) ?_ (fun J=>X2.cut ?_)
   ·
    rintro Xvb
    rcases Xvb with ⟨_|_,Xw5⟩
    ·
     revert h
     exact fun e=>oj e▸X7 [] (k:=fi)
    obtain rfl:=Xw5 rfl
    revert h
    exact fun e=>oj e▸X7 [] (k:=fi)
   clear h;revert h886
   refine brI (fun h885=>?_) fun h885=>?_
   ·
    intro h
    obtain rfl:=oj h
    exact X7 [Bt] (k:=wkT [(1,2)] (X2.glue (J nbS)))
   intro h
   obtain rfl:=oj h
   exact X7 [Bf] (k:=wkT [(1,2)] (X2.glue (J nbS)))
  obtain rfl:=X8q rfl
  revert h
  refine bI fun Xs2 h890=>rnI [] ?_
  intro h
  refine X2.joinF (fun(q:Nb Xs2)=>⟨fr [(11,(slE q.1 0 (Xs2.map X0))),(22,AV.nils)],hp ([]++opE q.1 0 3 (Xs2.map X0)),2⟩) ?_ (fun J=>X2.cut ?_)
  ·
   rintro Xva
   rcases Xva with ⟨_|_,Xw4⟩
   ·
    revert h
    exact fun e=>oj e▸X7 [] (k:=fi)
   obtain rfl:=Xw4 rfl
   revert h
   exact fun e=>oj e▸X7 [] (k:=fi)
  clear h;revert h890
  refine brI (fun h889=>?_) fun h889=>?_
  ·
   intro h
   obtain rfl:=oj h
   exact X7 [Bt] (k:=wkT [] (X2.glue (J nbS)))
  intro h
  obtain rfl:=oj h
  exact X7 [Bf] (k:=wkT [] (X2.glue (J nbS)))
 intro X0d X5t Xmi X0b X4q eo647;subst eo647
 refine X2.glue ?_
 try dsimp only at h
 rcases X0b with ⟨_|_,X2n⟩
 ·
  rcases X4q with ⟨_|_,X8t⟩
  ·
   revert h
   exact fun e=>oj e▸X7 [] (k:=fi)
  obtain rfl:=X8t rfl
  revert h
  exact fun e=>oj e▸X7 [] (k:=fi)
 obtain rfl:=X2n rfl
 rcases X4q with ⟨_|_,X8t⟩
 ·
  revert h
  exact fun e=>oj e▸X7 [] (k:=fi)
 obtain rfl:=X8t rfl
 revert h
 exact fun e=>oj e▸X7 [] (k:=fi)⟩
instance X01m:PCs Tryz.prog 152 (∀ (a0:Int) (r:Int),X2b a0=some r->X0j Tryz.prog 152 [(aI .u8 a0)] (aI .i64 r)):=⟨fun a0 r h=>by
 refine X0j.sym X9 X0b5 (nt:=7) rfl rfl ?_ okM
 unfold X2b at h
 revert h
 exact brI (fun h1=>fun e=>oj e▸X7 [Bt] (k:=fi)) fun h1=>brI (fun h2=>fun e=>oj e▸X7 [Bf,Bt] (k:=fi)) fun h2=>fun e=>oj e▸X7 [Bf,Bf] (k:=fi)⟩
instance X01j:PCs Tryz.prog 153 (∀ (a0:X03) (a1:Int) (a2:Int) (r:Bool),X73 a0 a1 a2=some r->X0j Tryz.prog 153 [(X4 a0),(aI .i64 a1),(aI .i64 a2)] (aB r)):=⟨fun a0 a1 a2 r h=>by
 refine X0j.sym X9 X0b4 (nt:=52) rfl rfl ?_ okM
 unfold X73 at h
 revert h
 exact fun e=>oj e▸X7 [] (k:=fi)⟩
theorem Xhu {Q:X01->St->Mu->Prop} {μ:Mu} (X07:(List X03)) (hl:X07.length<=140737488355328):∀ (xs:List X03) (k:Nat) (hx:X07.drop k=xs) (Xf:(List Int)) (Xi:(List Int)) (X08:Nb Xf) (Xm:Nb Xi) (o:X5b) (h:X1k X07 xs k Xf Xi=some o)
  (C0:∀ (Xg:(List Int)) (X0r:(List Int)) (Xl:Nb Xg) (X0t:Nb X0r),o=X5b.x0 Xg X0r->X2 Tryz.prog 102 0 Q (.exit (.exit 0)) [] ⟨fr [(0,(Lf (X07.map X4))),(5,(slE Xl.1 0 (List.map (aI .i64) Xg))),(6,(slE X0t.1 1 (List.map (aI .i64) X0r)))],hp ([]++opE Xl.1 0 1 (List.map (aI .i64) Xg)++opE X0t.1 1 1 (List.map (aI .i64) X0r)),2⟩ μ)
  (C1:∀ (X0d:(List Int)) (X5t:(List Int)) (X0b:Nb X0d) (X4q:Nb X5t),o=X5b.x1 X0d X5t->X2 Tryz.prog 102 0 Q (.exit .ret) [] ⟨fr [(2,(slE X0b.1 0 (List.map (aI .i64) X0d))),(3,(slE X4q.1 1 (List.map (aI .i64) X5t))),(4,(aB false))],hp ([]++opE X0b.1 0 1 (List.map (aI .i64) X0d)++opE X4q.1 1 1 (List.map (aI .i64) X5t)),2⟩ μ),
  X2 Tryz.prog 102 0 Q (.loop (X30 0 (Xj Tryz.f128))) [] ⟨fr [(0,(Lf (X07.map X4))),(5,(slE X08.1 0 (List.map (aI .i64) Xf))),(6,(slE Xm.1 1 (List.map (aI .i64) Xi))),(7,(aI .i64 (k:Int)))],hp ([]++opE X08.1 0 1 (List.map (aI .i64) Xf)++opE Xm.1 1 1 (List.map (aI .i64) Xi)),2⟩ μ:=by
 intro xs
 induction xs with
 |nil =>
  intro k hx Xf Xi X08 Xm o h C0 C1
  have hk:=drop_nil hx
  have hc:decide ((k:Int)<(X07.length:Int))=false:=Yf (by omega)
  rw[X1k] at h
  rcases X08 with ⟨_|_,X1o⟩
  ·
   rcases Xm with ⟨_|_,X02⟩
   ·
    refine X2.round ?_
    revert h
    exact fun e=>X7 [.el (aI .i64 (X07.length:Int)),Bf] (k:=wkT [] (C0 _ _  nbF nbF (oj e).symm))
   obtain rfl:=X02 rfl
   refine X2.round ?_
   revert h
   exact fun e=>X7 [.el (aI .i64 (X07.length:Int)),Bf] (k:=wkT [] (C0 _ _  nbF nbS (oj e).symm))
  ·
   obtain rfl:=X1o rfl
   rcases Xm with ⟨_|_,X02⟩
   ·
    refine X2.round ?_
    revert h
    exact fun e=>X7 [.el (aI .i64 (X07.length:Int)),Bf] (k:=wkT [] (C0 _ _  nbS nbF (oj e).symm))
   ·
    obtain rfl:=X02 rfl
    refine X2.round ?_
    revert h
    exact fun e=>X7 [.el (aI .i64 (X07.length:Int)),Bf] (k:=wkT [] (C0 _ _  nbS nbS (oj e).symm))
 |cons x xs ih =>
  intro k hx Xf Xi X08 Xm o h C0 C1
  obtain⟨hk,hg,hx1⟩:=drop_cons hx
  have hc:decide ((k:Int)<(X07.length:Int))=true:=Yt (by omega)
  rw[X1k] at h
  rcases X08 with ⟨_|_,X1o⟩
  ·
   rcases Xm with ⟨_|_,X02⟩
   ·
    refine X2.round ?_
    revert h
    refine bI fun v156 h157=>brI (fun h158=>?_) fun h158=>?_
    ·
     refine brI (fun h159=>fun e=>X7 [.el (aI .i64 (X07.length:Int)),Bt,.el (X4 x),.pure _ (aI .i64 v156),Bt,.wrap,Bt] (k:=wkT [] (C1 _ _  nbS nbS (oj e).symm))) fun h159=>bI fun e160 h161=>?_
     try have qh161:=Xv h161
     refine bI fun e162 h163=>?_
     try have qh163:=Xv h163
     refine rnI [.el (aI .i64 (X07.length:Int)),Bt,.el (X4 x),.pure _ (aI .i64 v156),Bt,.wrap,Bf,.el (aI .i64 e160),.ld (aI .i64 e160),.wrap,.el (aI .i64 e160),.ld (aI .i64 e160),.wrap,.el (aI .i64 e162),.ld (aI .i64 e162),.wrap] ?_
     refine brI (fun h164=>?_) fun h164=>?_
     ·
      refine brI (fun h165=>fun e=>X7 [Bt,Bt] (k:=wkT [] (C1 _ _  nbS nbS (oj e).symm))) fun h165=>bI fun e166 h167=>?_
      try have qh167:=Xv h167
      refine bI fun e168 h169=>?_
      try have qh169:=Xv h169
      refine bI fun v170 h171=>rnI [Bt,Bf,.el (aI .i64 e166),.ld (aI .i64 e166),.wrap,.el (aI .i64 e168),.ld (aI .i64 e168),.wrap,.el (X4 x),.pure _ (aB v170)] ?_
      refine brI (fun h172=>fun e=>X7 [Bt] (k:=wkT [] (C1 _ _  nbS nbS (oj e).symm))) fun h172=>?_
      refine bI fun u173 h174=>bI fun u175 h176=>rnI [Bf,.no,.no] (o:=by repeat' first|apply Ya|exact pcM|(refine X0g h174 rfl ?_;first|(simp;done)|(simp;omega)|(simp[hc,h158,h159,h164,h165,h172];done)|(simp[hc,h158,h159,h164,h165,h172];omega))|(refine Xz h174 (by decide) ?_;first|(simp;done)|(simp;omega)|(simp[hc,h158,h159,h164,h165,h172];done)|(simp[hc,h158,h159,h164,h165,h172];omega))|(refine X0g h176 rfl ?_;first|(simp;done)|(simp;omega)|(simp[hc,h158,h159,h164,h165,h172];done)|(simp[hc,h158,h159,h164,h165,h172];omega))|(refine Xz h176 (by decide) ?_;first|(simp;done)|(simp;omega)|(simp[hc,h158,h159,h164,h165,h172];done)|(simp[hc,h158,h159,h164,h165,h172];omega))|exact X0k) ?_
      intro h
      exact wkT [(0,3),(1,5)] (ih (k+1) hx1 _ _ nbF nbF o h C0 C1)
     refine bI fun v177 h178=>brI (fun h179=>fun e=>X7 [Bf,.el (X4 x),.pure _ (aB v177),Bt] (k:=wkT [] (C1 _ _  nbS nbS (oj e).symm))) fun h179=>?_
     refine bI fun u180 h181=>bI fun u182 h183=>rnI [Bf,.el (X4 x),.pure _ (aB v177),Bf,.no,.no] (o:=by repeat' first|apply Ya|exact pcM|(refine X0g h181 rfl ?_;first|(simp;done)|(simp;omega)|(simp[hc,h158,h159,h164,h179];done)|(simp[hc,h158,h159,h164,h179];omega))|(refine Xz h181 (by decide) ?_;first|(simp;done)|(simp;omega)|(simp[hc,h158,h159,h164,h179];done)|(simp[hc,h158,h159,h164,h179];omega))|(refine X0g h183 rfl ?_;first|(simp;done)|(simp;omega)|(simp[hc,h158,h159,h164,h179];done)|(simp[hc,h158,h159,h164,h179];omega))|(refine Xz h183 (by decide) ?_;first|(simp;done)|(simp;omega)|(simp[hc,h158,h159,h164,h179];done)|(simp[hc,h158,h159,h164,h179];omega))|exact X0k) ?_
     intro h
     exact wkT [(0,3),(1,5)] (ih (k+1) hx1 _ _ nbF nbF o h C0 C1)
    refine bI fun v184 h185=>brI (fun h186=>fun e=>X7 [.el (aI .i64 (X07.length:Int)),Bt,.el (X4 x),.pure _ (aI .i64 v156),Bf,.el (X4 x),.pure _ (aB v184),Bt] (k:=wkT [] (C1 _ _  nbS nbS (oj e).symm))) fun h186=>?_
    refine bI fun u187 h188=>bI fun u189 h190=>rnI [.el (aI .i64 (X07.length:Int)),Bt,.el (X4 x),.pure _ (aI .i64 v156),Bf,.el (X4 x),.pure _ (aB v184),Bf,.no,.no] (o:=by repeat' first|apply Ya|exact pcM|(refine X0g h188 rfl ?_;first|(simp;done)|(simp;omega)|(simp[hc,h158,h186];done)|(simp[hc,h158,h186];omega))|(refine Xz h188 (by decide) ?_;first|(simp;done)|(simp;omega)|(simp[hc,h158,h186];done)|(simp[hc,h158,h186];omega))|(refine X0g h190 rfl ?_;first|(simp;done)|(simp;omega)|(simp[hc,h158,h186];done)|(simp[hc,h158,h186];omega))|(refine Xz h190 (by decide) ?_;first|(simp;done)|(simp;omega)|(simp[hc,h158,h186];done)|(simp[hc,h158,h186];omega))|exact X0k) ?_
    intro h
    exact wkT [(0,3),(1,5)] (ih (k+1) hx1 _ _ nbF nbF o h C0 C1)
   obtain rfl:=X02 rfl
   refine X2.round ?_
   revert h
   refine bI fun v191 h192=>brI (fun h193=>?_) fun h193=>?_
   ·
    refine brI (fun h194=>fun e=>X7 [.el (aI .i64 (X07.length:Int)),Bt,.el (X4 x),.pure _ (aI .i64 v191),Bt,.wrap,Bt] (k:=wkT [] (C1 _ _  nbS nbS (oj e).symm))) fun h194=>bI fun e195 h196=>?_
    try have qh196:=Xv h196
    refine bI fun e197 h198=>?_
    try have qh198:=Xv h198
    intro h
    exact absurd (h198) (by simp[X1q])
   refine bI fun v199 h200=>brI (fun h201=>fun e=>X7 [.el (aI .i64 (X07.length:Int)),Bt,.el (X4 x),.pure _ (aI .i64 v191),Bf,.el (X4 x),.pure _ (aB v199),Bt] (k:=wkT [] (C1 _ _  nbS nbS (oj e).symm))) fun h201=>?_
   refine bI fun u202 h203=>bI fun u204 h205=>rnI [.el (aI .i64 (X07.length:Int)),Bt,.el (X4 x),.pure _ (aI .i64 v191),Bf,.el (X4 x),.pure _ (aB v199),Bf,.no,.no] (o:=by repeat' first|apply Ya|exact pcM|(refine X0g h203 rfl ?_;first|(simp;done)|(simp;omega)|(simp[hc,h193,h201];done)|(simp[hc,h193,h201];omega))|(refine Xz h203 (by decide) ?_;first|(simp;done)|(simp;omega)|(simp[hc,h193,h201];done)|(simp[hc,h193,h201];omega))|(refine X0g h205 rfl ?_;first|(simp;done)|(simp;omega)|(simp[hc,h193,h201];done)|(simp[hc,h193,h201];omega))|(refine Xz h205 (by decide) ?_;first|(simp;done)|(simp;omega)|(simp[hc,h193,h201];done)|(simp[hc,h193,h201];omega))|exact X0k) ?_
   intro h
   exact wkT [(0,3),(1,5)] (ih (k+1) hx1 _ _ nbF nbF o h C0 C1)
  obtain rfl:=X1o rfl
  rcases Xm with ⟨_|_,X02⟩
  ·
   refine X2.round ?_
   revert h
   refine bI fun v206 h207=>brI (fun h208=>?_) fun h208=>?_
   ·
    refine brI (fun h209=>fun e=>X7 [.el (aI .i64 (X07.length:Int)),Bt,.el (X4 x),.pure _ (aI .i64 v206),Bt,.wrap,Bt] (k:=wkT [] (C1 _ _  nbS nbS (oj e).symm))) fun h209=>bI fun e210 h211=>?_
    try have qh211:=Xv h211
    intro h
    exact absurd (h211) (by simp[X1q])
   refine bI fun v212 h213=>brI (fun h214=>fun e=>X7 [.el (aI .i64 (X07.length:Int)),Bt,.el (X4 x),.pure _ (aI .i64 v206),Bf,.el (X4 x),.pure _ (aB v212),Bt] (k:=wkT [] (C1 _ _  nbS nbS (oj e).symm))) fun h214=>?_
   refine bI fun u215 h216=>bI fun u217 h218=>rnI [.el (aI .i64 (X07.length:Int)),Bt,.el (X4 x),.pure _ (aI .i64 v206),Bf,.el (X4 x),.pure _ (aB v212),Bf,.no,.no] (o:=by repeat' first|apply Ya|exact pcM|(refine X0g h216 rfl ?_;first|(simp;done)|(simp;omega)|(simp[hc,h208,h214];done)|(simp[hc,h208,h214];omega))|(refine Xz h216 (by decide) ?_;first|(simp;done)|(simp;omega)|(simp[hc,h208,h214];done)|(simp[hc,h208,h214];omega))|(refine X0g h218 rfl ?_;first|(simp;done)|(simp;omega)|(simp[hc,h208,h214];done)|(simp[hc,h208,h214];omega))|(refine Xz h218 (by decide) ?_;first|(simp;done)|(simp;omega)|(simp[hc,h208,h214];done)|(simp[hc,h208,h214];omega))|exact X0k) ?_
   intro h
   exact wkT [(0,3),(1,5)] (ih (k+1) hx1 _ _ nbF nbF o h C0 C1)
  obtain rfl:=X02 rfl
  refine X2.round ?_
  revert h
  refine bI fun v219 h220=>brI (fun h221=>?_) fun h221=>?_
  ·
   refine brI (fun h222=>fun e=>X7 [.el (aI .i64 (X07.length:Int)),Bt,.el (X4 x),.pure _ (aI .i64 v219),Bt,.wrap,Bt] (k:=wkT [] (C1 _ _  nbS nbS (oj e).symm))) fun h222=>bI fun e223 h224=>?_
   try have qh224:=Xv h224
   intro h
   exact absurd (h224) (by simp[X1q])
  refine bI fun v225 h226=>brI (fun h227=>fun e=>X7 [.el (aI .i64 (X07.length:Int)),Bt,.el (X4 x),.pure _ (aI .i64 v219),Bf,.el (X4 x),.pure _ (aB v225),Bt] (k:=wkT [] (C1 _ _  nbS nbS (oj e).symm))) fun h227=>?_
  refine bI fun u228 h229=>bI fun u230 h231=>rnI [.el (aI .i64 (X07.length:Int)),Bt,.el (X4 x),.pure _ (aI .i64 v219),Bf,.el (X4 x),.pure _ (aB v225),Bf,.no,.no] (o:=by repeat' first|apply Ya|exact pcM|(refine X0g h229 rfl ?_;first|(simp;done)|(simp;omega)|(simp[hc,h221,h227];done)|(simp[hc,h221,h227];omega))|(refine Xz h229 (by decide) ?_;first|(simp;done)|(simp;omega)|(simp[hc,h221,h227];done)|(simp[hc,h221,h227];omega))|(refine X0g h231 rfl ?_;first|(simp;done)|(simp;omega)|(simp[hc,h221,h227];done)|(simp[hc,h221,h227];omega))|(refine Xz h231 (by decide) ?_;first|(simp;done)|(simp;omega)|(simp[hc,h221,h227];done)|(simp[hc,h221,h227];omega))|exact X0k) ?_
  intro h
  exact wkT [(0,3),(1,5)] (ih (k+1) hx1 _ _ nbF nbF o h C0 C1)
instance X01k:PCs Tryz.prog 128 (∀ (a0:(List X03)) (r:(List Int)×(List Int)×Bool),Xda a0=some r->X0j Tryz.prog 128 [(Lf (a0.map X4))] (AV.tup [(AV.list true (List.map (aI .i64) r.1)),(AV.list true (List.map (aI .i64) r.2.1)),(aB r.2.2)])):=⟨fun a0 r h=>by
 refine X0j.sym X9 X0bl (nt:=102) rfl rfl ?_ okM
 unfold Xda at h
 revert h
 refine bI fun u1 h2=>?_
 have qh2:=X09 h2
 refine bI fun o232 h233=>rnI [] ?_
 intro h
 refine wkT [] (X2.cut (Xhu a0 qh2 a0 0 (by simp) _ _ nbS nbS _ h233 ?_ ?_))
 ·
  intro Xg X0r Xl X0t eo232;subst eo232
  refine X2.glue ?_
  try dsimp only at h
  rcases Xl with ⟨_|_,X0q⟩
  ·
   rcases X0t with ⟨_|_,X2p⟩
   ·
    revert h
    refine bI fun Xzi h241=>rnI [.stop 25] ?_
    intro h
    refine X2.join (s':=⟨fr [(2,(AV.ref 0 0 (Xg.length))),(3,(AV.ref 1 0 (X0r.length))),(4,(aB Xzi))],hp ([(0,Ob (List.map (aI .i64) Xg) 1),(1,Ob (List.map (aI .i64) X0r) 1)]),2⟩) ?_ (fun J=>X2.cut ?_)
    ·
     revert h
     exact fun e=>oj e▸X7 [] (k:=fi)
    clear h;revert h241
    refine brI (fun h238=>?_) fun h238=>?_
    ·
     refine bI fun e239 h240=>?_
     try have qh240:=Xv h240
     intro h
     obtain rfl:=oj h
     exact X7 [.el (aI .i64 (a0.length:Int)),.go true,.go true,.go true,.el (aI .i64 (a0.length:Int)),.go true,.wrap,.go true,.el (aI .i64 e239),.go true,.ld (aI .i64 e239),.go true,.go true,.el (aI .i64 (a0.length:Int)),.go true] (k:=wkT [] (X2.glue J))
    intro h
    obtain rfl:=oj h
    exact X7 [.el (aI .i64 (a0.length:Int)),.go false,.go false,.go false,.go false,.go false,.go false,.go false,.go false,.go false,.go false] (k:=wkT [] (X2.glue J))
   obtain rfl:=X2p rfl
   revert h
   refine bI fun X092 h249=>rnI [.stop 25] ?_
   intro h
   refine X2.join (s':=⟨fr [(2,(AV.ref 0 0 (Xg.length))),(3,AV.nils),(4,(aB X092))],hp ([(0,Ob (List.map (aI .i64) Xg) 1)]),2⟩) ?_ (fun J=>X2.cut ?_)
   ·
    revert h
    exact fun e=>oj e▸X7 [] (k:=fi)
   clear h;revert h249
   refine brI (fun h246=>?_) fun h246=>?_
   ·
    refine bI fun e247 h248=>?_
    try have qh248:=Xv h248
    intro h
    obtain rfl:=oj h
    exact X7 [.el (aI .i64 (a0.length:Int)),.go true,.go true,.go true,.el (aI .i64 (a0.length:Int)),.go true,.wrap,.go true,.el (aI .i64 e247),.go true,.ld (aI .i64 e247),.go true,.go true,.el (aI .i64 (a0.length:Int)),.go true] (k:=wkT [] (X2.glue J))
   intro h
   obtain rfl:=oj h
   exact X7 [.el (aI .i64 (a0.length:Int)),.go false,.go false,.go false,.go false,.go false,.go false,.go false,.go false,.go false,.go false] (k:=wkT [] (X2.glue J))
  obtain rfl:=X0q rfl
  rcases X0t with ⟨_|_,X2p⟩
  ·
   revert h
   refine bI fun X091 h257=>rnI [.stop 25] ?_
   intro h
   refine X2.join (s':=⟨fr [(2,AV.nils),(3,(AV.ref 1 0 (X0r.length))),(4,(aB X091))],hp ([(1,Ob (List.map (aI .i64) X0r) 1)]),2⟩) ?_ (fun J=>X2.cut ?_)
   ·
    revert h
    exact fun e=>oj e▸X7 [] (k:=fi)
   clear h;revert h257
   refine brI (fun h254=>?_) fun h254=>?_
   ·
    refine bI fun e255 h256=>?_
    try have qh256:=Xv h256
    intro h
    exact absurd (h256) (by simp[X1q])
   intro h
   obtain rfl:=oj h
   exact X7 [.el (aI .i64 (a0.length:Int)),.go false,.go false,.go false,.go false,.go false,.go false,.go false,.go false,.go false,.go false] (k:=wkT [] (X2.glue J))
  obtain rfl:=X2p rfl
  revert h
  refine bI fun X090 h265=>rnI [.stop 25] ?_
  intro h
  refine X2.join (s':=⟨fr [(2,AV.nils),(3,AV.nils),(4,(aB X090))],hp ([]),2⟩) ?_ (fun J=>X2.cut ?_)
  ·
   revert h
   exact fun e=>oj e▸X7 [] (k:=fi)
  clear h;revert h265
  refine brI (fun h262=>?_) fun h262=>?_
  ·
   refine bI fun e263 h264=>?_
   try have qh264:=Xv h264
   intro h
   exact absurd (h264) (by simp[X1q])
  intro h
  obtain rfl:=oj h
  exact X7 [.el (aI .i64 (a0.length:Int)),.go false,.go false,.go false,.go false,.go false,.go false,.go false,.go false,.go false,.go false] (k:=wkT [] (X2.glue J))
 intro X0d X5t X0b X4q eo232;subst eo232
 refine X2.glue ?_
 try dsimp only at h
 rcases X0b with ⟨_|_,X2n⟩
 ·
  rcases X4q with ⟨_|_,X8t⟩
  ·
   revert h
   exact fun e=>oj e▸X7 [] (k:=fi)
  obtain rfl:=X8t rfl
  revert h
  exact fun e=>oj e▸X7 [] (k:=fi)
 obtain rfl:=X2n rfl
 rcases X4q with ⟨_|_,X8t⟩
 ·
  revert h
  exact fun e=>oj e▸X7 [] (k:=fi)
 obtain rfl:=X8t rfl
 revert h
 exact fun e=>oj e▸X7 [] (k:=fi)⟩
instance X01n:PCs Tryz.prog 92 (∀ (a0:(List X03)) (r:Int),X55 a0=some r->X0j Tryz.prog 92 [(Lf (a0.map X4))] (aI .i64 r)):=⟨fun a0 r h=>by
 refine X0j.sym X9 fn92 (nt:=24) rfl rfl ?_ okM
 unfold X55 at h
 revert h
 refine brI (fun h1=>fun e=>oj e▸X7 [.el (aI .i64 (a0.length:Int)),Bt] (k:=fi)) fun h1=>bI fun v2 h3=>rnI [.el (aI .i64 (a0.length:Int)),Bf,.pure _ (AV.tup [(AV.list true (List.map (aI .i64) v2.1)),(AV.list true (List.map (aI .i64) v2.2.1)),(aB v2.2.2)])] ?_
 refine brI (fun h4=>fun e=>oj e▸X7 [Bt] (k:=fi)) fun h4=>bI fun e5 h6=>?_
 try have qh6:=Xv h6
 exact brI (fun h7=>fun e=>oj e▸X7 [Bf,.el (aI .i64 (a0.length:Int)),.wrap,.el (aI .i64 e5),Bt] (k:=fi)) fun h7=>fun e=>oj e▸X7 [Bf,.el (aI .i64 (a0.length:Int)),.wrap,.el (aI .i64 e5),Bf] (k:=fi)⟩
theorem Xg3 {Q:X01->St->Mu->Prop} {μ:Mu} (X07:(List Int)) (hl:X07.length<=140737488355328):∀ (xs:List Int) (k:Nat) (hx:X07.drop k=xs) (o:X5m) (h:X39 X07 xs k  = some o)
  (C0:o=X5m.x0->X2 Tryz.prog 60 0 Q (.exit (.exit 0)) [] ⟨fr [(0,(Lf (List.map (aI .i64) X07)))],hp ([]),0⟩ μ)
  (C1:o=X5m.x1->X2 Tryz.prog 60 0 Q (.exit .ret) [] ⟨fr [(4,(aI .i64 8))],hp ([]),0⟩ μ),
  X2 Tryz.prog 60 0 Q (.loop (X30 0 (Xj Tryz.f93))) [] ⟨fr [(0,(Lf (List.map (aI .i64) X07))),(5,(aI .i64 (k:Int)))],hp ([]),0⟩ μ:=by
 intro xs
 induction xs with
 |nil =>
  intro k hx  o h C0 C1
  have hk:=drop_nil hx
  have hc:decide ((k:Int)<(X07.length:Int))=false:=Yf (by omega)
  rw[X39] at h
  refine X2.round ?_
  revert h
  exact fun e=>X7 [.el (aI .i64 (X07.length:Int)),Bf] (k:=wkT [] (C0  (oj e).symm))
 |cons x xs ih =>
  intro k hx  o h C0 C1
  obtain⟨hk,hg,hx1⟩:=drop_cons hx
  have hc:decide ((k:Int)<(X07.length:Int))=true:=Yt (by omega)
  rw[X39] at h
  refine X2.round ?_
  revert h
  refine bI fun Xzh h25=>rnI [.el (aI .i64 (X07.length:Int)),Bt,.stop 8] ?_
  intro h
  refine X2.join (s':=⟨fr [(0,(Lf (List.map (aI .i64) X07))),(5,(aI .i64 (k:Int))),(39,(aB Xzh))],hp ([]),0⟩) ?_ (fun J=>X2.cut ?_)
  ·
   revert h
   refine brI (fun h26=>fun e=>X7 [Bt] (k:=wkT [] (C1  (oj e).symm))) fun h26=>rnI [Bf] ?_
   intro h
   exact wkT [] (ih (k+1) hx1  o h C0 C1)
  clear h;revert h25
  refine brI (fun h24=>?_) fun h24=>?_
  ·
   intro h
   obtain rfl:=oj h
   exact X7 [.el (aI .i64 x),.go false,.go false,.go false,.go false,.go false] (k:=wkT [] (X2.glue J))
  intro h
  obtain rfl:=oj h
  exact X7 [.el (aI .i64 x),.go true,.go true,.go true,.el (aI .i64 x),.go true,.go true] (k:=wkT [] (X2.glue J))
theorem Xg1 {Q:X01->St->Mu->Prop} {μ:Mu} (y2_0:(List Int)) (y2_6:Int):∀ (n:Nat) (Xr2:Int) (o:X5k) (h:X38 y2_0 y2_6 n Xr2=some o)
  (C0:o=X5k.x0->X2 Tryz.prog 60 0 Q (.exit .ret) [] ⟨fr [(4,(aI .i64 43))],hp ([]),0⟩ μ)
  (C1:o=X5k.x1->X2 Tryz.prog 60 0 Q (.exit (.exit 4)) [] ⟨fr [(0,(Lf (List.map (aI .i64) y2_0))),(6,(aI .i64 y2_6))],hp ([]),0⟩ μ),
  X2 Tryz.prog 60 0 Q (.loop (X30 2 (Xj Tryz.f93))) [] ⟨fr [(0,(Lf (List.map (aI .i64) y2_0))),(6,(aI .i64 y2_6)),(7,(aI .i64 Xr2))],hp ([]),0⟩ μ:=by
 intro n
 induction n with
 |zero=>intro Xr2 o h C0 C1;cases h
 |succ n ih =>
  intro Xr2 o h C0 C1
  rw[X38] at h
  refine X2.round ?_
  revert h
  refine brI (fun h85=>?_) fun h85=>fun e=>X7 [Bf] (k:=wkT [] (C1  (oj e).symm))
  refine bI fun e86 h87=>?_
  try have qh87:=Xv h87
  refine bI fun e88 h89=>?_
  try have qh89:=Xv h89
  refine brI (fun h90=>fun e=>X7 [Bt,.el (aI .i64 e86),.el (aI .i64 e88),Bt] (k:=wkT [] (C0  (oj e).symm))) fun h90=>rnI [Bt,.el (aI .i64 e86),.el (aI .i64 e88),Bf,.wrap] ?_
  intro h
  exact wkT [] (ih  _ o h C0 C1)
theorem Xg2 {Q:X01->St->Mu->Prop} {μ:Mu} (Xx3:(List Int)) (hl:Xx3.length<=140737488355328):∀ (xs:List Int) (k:Nat) (hx:Xx3.drop k=xs) (o:X5l) (h:X2g Xx3 xs k  = some o)
  (C0:o=X5l.x0->X2 Tryz.prog 60 0 Q (.exit (.exit 2)) [] ⟨fr [],hp ([]),0⟩ μ)
  (C1:o=X5l.x1->X2 Tryz.prog 60 0 Q (.exit .ret) [] ⟨fr [(4,(aI .i64 43))],hp ([]),0⟩ μ),
  X2 Tryz.prog 60 0 Q (.loop (X30 1 (Xj Tryz.f93))) [] ⟨fr [(0,(Lf (List.map (aI .i64) Xx3))),(6,(aI .i64 (k:Int)))],hp ([]),0⟩ μ:=by
 intro xs
 induction xs with
 |nil =>
  intro k hx  o h C0 C1
  have hk:=drop_nil hx
  have hc:decide ((k:Int)<(Xx3.length:Int))=false:=Yf (by omega)
  rw[X2g] at h
  refine X2.round ?_
  revert h
  exact fun e=>X7 [.el (aI .i64 (Xx3.length:Int)),Bf] (k:=wkT [] (C0  (oj e).symm))
 |cons x xs ih =>
  intro k hx  o h C0 C1
  obtain⟨hk,hg,hx1⟩:=drop_cons hx
  have hc:decide ((k:Int)<(Xx3.length:Int))=true:=Yt (by omega)
  rw[X2g] at h
  refine X2.round ?_
  revert h
  refine bI fun o91 h92=>rnI [.el (aI .i64 (Xx3.length:Int)),Bt] ?_
  intro h
  refine wkT [] (X2.cut (Xg1 Xx3 (k:Int) _ _ _ h92 ?_ ?_))
  ·
   intro eo91;subst eo91
   refine X2.glue ?_
   try dsimp only at h
   revert h
   exact fun e=>X7 [] (k:=wkT [] (C1  (oj e).symm))
  intro eo91;subst eo91
  refine X2.glue ?_
  try dsimp only at h
  exact X7 [] (k:=wkT [] (ih (k+1) hx1  o h C0 C1))
end Go.Av.Tryz