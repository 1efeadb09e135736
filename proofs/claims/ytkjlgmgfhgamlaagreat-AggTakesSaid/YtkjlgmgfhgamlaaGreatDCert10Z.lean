/- Printed by decomp.py: that the program computes the functions. -/
import Derived.Test.YtkjlgmgfhgamlaaGreatDCert8Z
import Derived.Test.YtkjlgmgfhgamlaaGreatDCert9Z
set_option linter.all false

namespace Go.Av.Tryz
open Go.Proofs Go.D
set_option maxRecDepth 10000
set_option maxHeartbeats 40000000
instance X00k:PCs Tryz.prog 29 (∀ (a0:Int) (a1:Xn) (r:Int×Int),X7i a0 a1=some r->X0a Tryz.prog 29 [(aI .u8 a0),(Xw a1)] (AV.tup [(aI .i64 r.1),(aI .i64 r.2)])):=⟨λa0 a1 r h=>by
 refine X0a.sym X3 fn29 (nt:=34) rfl rfl ?_ okM;unfold X7i at h;revert h;refine brI (λh1=>λe=>oj e▸X6 [Bt] (k:=fi)) λh1=>bI λv2 h3=>brI (λh4=>λe=>oj e▸X6 [Bf,.pure _ (aI .i64 v2),Bt] (k:=fi)) λh4=>brI (λh5=>λe=>oj e▸X6 [Bf,.pure _ (aI .i64 v2),Bf,Bt] (k:=fi)) λh5=>bI λX077 h17=>rnI [Bf,.pure _ (aI .i64 v2),Bf,Bf,.stop 9] ?_;intro h;refine X2.join (s':=⟨fr [(4,(aI .i64 X077)),(5,(aI .i64 0))],hp ([]),0⟩) ?_ (λJ=>X2.cut ?_)
 ·
  revert h;exact λe=>oj e▸X6 [] (k:=fi)
 clear h;revert h17;refine brI (λh12=>?_) λh12=>?_
 ·
  intro h;obtain rfl:=oj h;exact X6 [.ix 0] (o:=by repeat' first|apply Ya|exact pcM|exact((eq_of_beq h12))|exact Xv) (k:=wkT [] (X2.glue J))
 refine brI (λh13=>?_) λh13=>?_
 ·
  intro h;obtain rfl:=oj h;exact X6 [.ix 1] (o:=by repeat' first|apply Ya|exact pcM|exact((eq_of_beq h13))|exact Xv) (k:=wkT [] (X2.glue J))
 refine brI (λh14=>?_) λh14=>?_
 ·
  intro h;obtain rfl:=oj h;exact X6 [.ix 2] (o:=by repeat' first|apply Ya|exact pcM|exact((eq_of_beq h14))|exact Xv) (k:=wkT [] (X2.glue J))
 refine brI (λh15=>?_) λh15=>?_
 ·
  intro h;obtain rfl:=oj h;exact X6 [.ix 3] (o:=by repeat' first|apply Ya|exact pcM|exact((eq_of_beq h15))|exact Xv) (k:=wkT [] (X2.glue J))
 refine brI (λh16=>?_) λh16=>?_
 ·
  intro h;obtain rfl:=oj h;exact X6 [.ix 4] (o:=by repeat' first|apply Ya|exact pcM|exact((eq_of_beq h16))|exact Xv) (k:=wkT [] (X2.glue J))
 intro h;cases h⟩
theorem Xiw {Q:X04->St->Mu->Prop}  {rb rD:Nat} {rr:Loop} (rh1:rr.state=.ready) (rh2:rr.pending=none) (rh3:rr.params=(rfB 0 (Xd Tryz.f28)).1) (rh4:rr.assign=(rfB 0 (Xd Tryz.f28)).2.1) (rh5:rr.body=(rfB 0 (Xd Tryz.f28)).2.2) (Xq:Xk) (X0o:Xk) (Xuq:X0l) (Xkp:(List X1)) (hl:Xkp.length<=140737488355328):∀ (xs:List X1) (k:Nat) (hx:Xkp.drop k=xs) (Xko:(List X03)) (Xfk:Nb Xko) (o:X9w) (h:X2w Xq X0o Xuq Xkp xs k Xko=some o)
  (C0:∀ (Xe9:(List X03)) (Xfi:Nb Xe9),o=X9w.x0 Xe9->X2 Tryz.prog 34 8 Q (.exit (.exit 0)) [] ⟨fr [],hp ([(1,Ob [(Xa false Xq)] 9),(3,Ob [(Xa true X0o)] 9),(4,Ob [(slE Xfi.1 8 (Xe9.map Xf))] 1),(5,Ob [(AV.fn 66 [(AV.ptr 4 0 0)])] 1),(6,Ob [(X0b false Xuq)] 10),(7,Ob [(Lt (Xkp.map X0))] 1)]++opE Xfi.1 8 11 (Xe9.map Xf)),9⟩ [(rb,MuE.loop rr 141 8 (fr [(5,(AV.ptr 1 0 0)),(8,(AV.ptr 3 0 0)),(21,(AV.ptr 4 0 0)),(22,(AV.ptr 5 0 0)),(131,(AV.fn 105 [(AV.ptr 7 0 0),(AV.ptr 6 0 0)]))])),(rD,MuE.blk (Go.Obj.deferred (some [])))]),
  X2 Tryz.prog 34 8 Q (.loop (X2p 0 (Xd Tryz.f105))) [] ⟨fr [(0,(AV.sc (.func (.yield rb) #[] #[]))),(2,(AV.ptr 6 0 0)),(8,(Lt (Xkp.map X0))),(9,(aI .i64 (Xkp.length:Int))),(10,(aI .i64 (k:Int)))],hp ([(1,Ob [(Xa false Xq)] 9),(3,Ob [(Xa true X0o)] 9),(4,Ob [(slE Xfk.1 8 (Xko.map Xf))] 1),(5,Ob [(AV.fn 66 [(AV.ptr 4 0 0)])] 1),(6,Ob [(X0b false Xuq)] 10),(7,Ob [(Lt (Xkp.map X0))] 1)]++opE Xfk.1 8 11 (Xko.map Xf)),9⟩ [(rb,MuE.loop rr 141 8 (fr [(5,(AV.ptr 1 0 0)),(8,(AV.ptr 3 0 0)),(21,(AV.ptr 4 0 0)),(22,(AV.ptr 5 0 0)),(131,(AV.fn 105 [(AV.ptr 7 0 0),(AV.ptr 6 0 0)]))])),(rD,MuE.blk (Go.Obj.deferred (some [])))]:=by
 intro xs
 induction xs with
 |nil =>
  intro k hx Xko Xfk o h C0;have hk:=X1f hx;have hc:decide ((k:Int)<(Xkp.length:Int))=false:=Yf om;rw[X2w] at h;rcases Xfk with ⟨_|_,Xot⟩
  ·
   refine X2.round ?_;revert h;exact λe=>X6 [Bf] (k:=wkT [] (C0 _  nbF (oj e).symm))
  ·
   obtain rfl:=Xot rfl;refine X2.round ?_;revert h;exact λe=>X6 [Bf] (k:=wkT [] (C0 _  nbS (oj e).symm))
 |cons x xs ih =>
  intro k hx Xko Xfk o h C0;obtain⟨hk,hg,hx1⟩:=X0u hx;have hc:decide ((k:Int)<(Xkp.length:Int))=true:=Yt om;rw[X2w] at h;rcases Xfk with ⟨_|_,Xot⟩<;>(try obtain rfl:=Xot rfl);all_goals
   refine X2.round ?_;revert h;refine bI λv76 h77=>rnI [Bt,.el (X0 x),.ix 0,.pure _ (AV.tup [(aI .i64 v76.1),(aI .i64 v76.2)])] ?_;intro h;refine X2.yield rfl rfl rfl rfl rfl trivial trivial (.head _) rh1 rh2 rh3 rh4 rh5 rfl rfl ?_;refine X0g [] ?_;refine X2.asg ?_;refine X0g [] ?_;refine X2.inline X3 fn66 rfl rfl rfl rfl rfl trivial trivial rfl rfl ?_;revert h;refine bI λu84 h85=>rnI [.no] (o:=by repeat' first|apply Ya|exact pcM|(refine X0t h85 rfl ?_;first|(simp<;>omega)|(simp[hc]<;>omega))|(refine X09 h85 (by decide) ?_;first|(simp<;>omega)|(simp[hc]<;>omega))|exact Xv) ?_;intro h;refine X2.back (by intro id h;cases h) rfl ?_;refine X0g [] ?_;refine X2.rndEnd ?_;exact X6 [Bf] (k:=wkT [(8,13)] (ih (k+1) hx1 _ nbF o h C0))
instance X086:PCs Tryz.prog 28 (∀ (a0:X0l) (a1:Xk) (a2:Int) (a3:Xo) (r:Xk×Int),X63 a0 a1 a2 a3=some r->X0a Tryz.prog 28 [(X0b false a0),(Xa false a1),(aI .i64 a2),(X0k a3)] (AV.tup [(Xa true r.1),(aI .i64 r.2)])):=⟨λa0 a1 a2 a3 r h=>by
 refine X0a.sym X3 fn28 (nt:=141) rfl rfl ?_ okM;unfold X63 at h;revert h;refine bI λv1 h2=>brI (λh3=>λe=>oj e▸X6 [.pure _ (aB v1),Bt] (k:=fi)) λh3=>bI λv4 h5=>brI (λh6=>λe=>oj e▸X6 [.pure _ (aB v1),Bf,.pure _ (aI .i64 v4),Bt] (k:=fi)) λh6=>bI λX069 h12=>rnI [.pure _ (aB v1),Bf,.pure _ (aI .i64 v4),Bf,.stop 6] ?_;intro h;refine X2.join (s':=⟨fr [(2,(aI .i64 a2)),(4,(AV.ptr 0 0 0)),(5,(AV.ptr 1 0 0)),(7,(AV.ptr 2 0 0)),(8,(AV.ptr 3 0 0)),(34,(aB X069))],hp ([(0,Ob [(X0b false a0)] 10),(1,Ob [(Xa false a1)] 9),(2,Ob [(X0k a3)] 10),(3,Ob [(Xa true (Xk.mk (GOp.mk 0 0) 0 ([]:List X03) ([]:List Int) ([]:List X1) ([]:List Xs) ([]:List X0y) ([]:List Xc)))] 9)]),4⟩) ?_ (λJ=>X2.cut ?_)
 ·
  revert h;refine brI (λh13=>λe=>oj e▸X6 [Bt] (k:=fi)) λh13=>bI λv14 h15=>brI (λh16=>λe=>oj e▸X6 [Bf,.pure _ (aI .i64 v14),Bt] (k:=fi)) λh16=>brI (λh17=>λe=>oj e▸X6 [Bf,.pure _ (aI .i64 v14),Bf,.el (aI .i64 (a1.Pending.length:Int)),Bt] (k:=fi)) λh17=>?_;refine brI (λh18=>?_) λh18=>?_
  ·
   refine bI λv19 h20=>rnI [Bf,.pure _ (aI .i64 v14),Bf,.el (aI .i64 (a1.Pending.length:Int)),Bf,Bt,.pure _ (AV.tup [(Lt (v19.1.map X0)),(aI .i64 v19.2)])] ?_;exact brI (λh21=>λe=>oj e▸X6 [Bt] (k:=fi)) λh21=>bI λv22 h23=>λe=>oj e▸X6 [Bf,.pure _ (AV.tup [(Xa true v22.1),(aI .i64 v22.2)])] (k:=fi)
  refine bI λv24 h25=>rnI [Bf,.pure _ (aI .i64 v14),Bf,.el (aI .i64 (a1.Pending.length:Int)),Bf,Bf,.pure _ (AV.tup [(Lt (List.map (aI .i64) v24.1)),(aB v24.2.1),(aI .i64 v24.2.2)])] ?_;refine brI (λh26=>bI λv27 h28=>λe=>oj e▸X6 [Bt,.pure _ (AV.tup [(Xa true v27.1),(aI .i64 v27.2)])] (k:=fi)) λh26=>bI λv29 h30=>bI λv31 h32=>rnI [Bf,.pure _ (AV.tup [(aI .i64 v29.1),(aI .i64 v29.2)]),.pure _ (AV.tup [(Lt (v31.1.map X0)),(Lt (v31.2.1.map X0)),(aI .i64 v31.2.2)])] ?_;intro h;refine X2.inline X3 fn67 rfl rfl rfl rfl rfl trivial trivial rfl rfl ?_;refine X0g [] ?_;refine X2.back (by intro id h;cases h) rfl ?_;refine X0g [] ?_;refine X2.unown 1 [AV.agg [(aI .u8 a1.Op.Kind),(aI .i64 a1.Op.N),(aI .i64 a1.Turn),(Lf (a1.Pending.map Xf)),(Lf (List.map (aI .i64) v24.1)),(Lf (v31.2.1.map X0)),(Lf (a1.Events.map X7)),(Lf (a1.Rows.map Xg)),(Lf (a1.Late.map X5))]] rfl rfl ?_;refine X2.keepL [5,8,21,22,131] ?_;refine X2.rangeFunc rfl trivial X0df rfl rfl rfl ?_;intro rb rD rr rh1 rh2 rh3 rh4 rh5;revert h;refine bI λu33 h34=>?_;have qh34:=X0v h34;refine bI λo96 h97=>rnI [.el (aI .i64 (v31.1.length:Int))] ?_;intro h;refine wkT [] (X2.cut (Xiw rh1 rh2 rh3 rh4 rh5 (Xk.mk a1.Op a1.Turn a1.Pending v24.1 v31.2.1 a1.Events a1.Rows a1.Late) (Xk.mk ((Xk.mk (GOp.mk 0 0) 0 ([]:List X03) ([]:List Int) ([]:List X1) ([]:List Xs) ([]:List X0y) ([]:List Xc)).Op) ((Xk.mk (GOp.mk 0 0) 0 ([]:List X03) ([]:List Int) ([]:List X1) ([]:List Xs) ([]:List X0y) ([]:List Xc)).Turn) ((Xk.mk (GOp.mk 0 0) 0 ([]:List X03) ([]:List Int) ([]:List X1) ([]:List Xs) ([]:List X0y) ([]:List Xc)).Pending) ((Xk.mk (GOp.mk 0 0) 0 ([]:List X03) ([]:List Int) ([]:List X1) ([]:List Xs) ([]:List X0y) ([]:List Xc)).Marks) ((Xk.mk (GOp.mk 0 0) 0 ([]:List X03) ([]:List Int) ([]:List X1) ([]:List Xs) ([]:List X0y) ([]:List Xc)).Store) ((Xk.mk (GOp.mk 0 0) 0 ([]:List X03) ([]:List Int) ([]:List X1) ([]:List Xs) ([]:List X0y) ([]:List Xc)).Events) ((Xk.mk (GOp.mk 0 0) 0 ([]:List X03) ([]:List Int) ([]:List X1) ([]:List Xs) ([]:List X0y) ([]:List Xc)).Rows) ((Xk.mk (GOp.mk 0 0) 0 ([]:List X03) ([]:List Int) ([]:List X1) ([]:List Xs) ([]:List X0y) ([]:List Xc)).Late)) a0 v31.1 qh34 v31.1 0 (by simp) _ nbS _ h97 ?_));intro Xe9 Xfi eo96;subst eo96;refine X2.glue ?_;try dsimp only at h
  rcases Xfi with ⟨_|_,Xvj⟩<;>(try obtain rfl:=Xvj rfl);all_goals
   refine X0g [] ?_;refine X2.rfEnd (by intro id h;cases h) ?_;revert h;exact bI λv98 h99=>λe=>oj e▸X6 [.pure _ (AV.tup [(Xa true v98.1),(aI .i64 v98.2)])] (k:=fi)
 clear h;revert h12;refine brI (λh10=>?_) λh10=>?_
 ·
  intro h;obtain rfl:=oj h;refine X0g [Gf,Gf,Gf,Gf,Gf,Gf,Gf] (o:=by repeat' first|apply Ya|exact pcM|exact fq (X8 h10 rfl)|exact Xv) ?_;refine X2.denil 3 [AV.agg [(aI .u8 0),(aI .i64 0),(aI .i64 0),(Lt (List.map Xf ([]:List X03))),(Lt (List.map (aI .i64) ([]:List Int))),(Lt (List.map X0 ([]:List X1))),(Lt (List.map X7 ([]:List Xs))),(Lt (List.map Xg ([]:List X0y))),(Lt (List.map X5 ([]:List Xc)))]] rfl rfl ?_;exact wkT [] (X2.glue J)
 refine brI (λh11=>?_) λh11=>?_
 ·
  intro h;obtain rfl:=oj h;refine X0g [Gt,Gt,Gf,Gf,Gf,Gf,Gf] (o:=by repeat' first|apply Ya|exact pcM|exact fq (Xb h10 h11)|exact Xv) ?_;refine X2.denil 3 [AV.agg [(aI .u8 0),(aI .i64 0),(aI .i64 0),(Lt (List.map Xf ([]:List X03))),(Lt (List.map (aI .i64) ([]:List Int))),(Lt (List.map X0 ([]:List X1))),(Lt (List.map X7 ([]:List Xs))),(Lt (List.map Xg ([]:List X0y))),(Lt (List.map X5 ([]:List Xc)))]] rfl rfl ?_;exact wkT [] (X2.glue J)
 intro h;obtain rfl:=oj h;refine X0g [Gt,Gt,Gt,Gt,Gt,Gt,.el (aI .i64 (a1.Marks.length:Int)),Gt] (o:=by repeat' first|apply Ya|exact pcM|exact fq (Xb h10 h11)|exact Xv) ?_;refine X2.denil 3 [AV.agg [(aI .u8 0),(aI .i64 0),(aI .i64 0),(Lt (List.map Xf ([]:List X03))),(Lt (List.map (aI .i64) ([]:List Int))),(Lt (List.map X0 ([]:List X1))),(Lt (List.map X7 ([]:List Xs))),(Lt (List.map Xg ([]:List X0y))),(Lt (List.map X5 ([]:List Xc)))]] rfl rfl ?_;exact wkT [] (X2.glue J)⟩
instance X01c:PCs Tryz.prog 173 (∀ (a0:Int) (r:Int),Xdj a0=some r->X0a Tryz.prog 173 [(aI .u8 a0)] (aI .i64 r)):=⟨λa0 r h=>by
 refine X0a.sym X3 X0c1 (nt:=7) rfl rfl ?_ okM;unfold Xdj at h;revert h;exact brI (λh1=>λe=>oj e▸X6 [Bt] (k:=fi)) λh1=>brI (λh2=>λe=>oj e▸X6 [Bf,Bt] (k:=fi)) λh2=>λe=>oj e▸X6 [Bf,Bf] (k:=fi)⟩
instance X01a:PCs Tryz.prog 174 (∀ (a0:X0f) (a1:Int) (a2:Int) (r:Bool),X6x a0 a1 a2=some r->X0a Tryz.prog 174 [(X4 a0),(aI .i64 a1),(aI .i64 a2)] (aB r)):=⟨λa0 a1 a2 r h=>by
 refine X0a.sym X3 X0c0 (nt:=52) rfl rfl ?_ okM;unfold X6x at h;revert h;exact λe=>oj e▸X6 [] (k:=fi)⟩
theorem Xi6 {Q:X04->St->Mu->Prop} {μ:Mu} (X0c:(List X0f)) (hl:X0c.length<=140737488355328):∀ (xs:List X0f) (k:Nat) (hx:X0c.drop k=xs) (Xh:(List Int)) (Xq:(List Int)) (X0h:Nb Xh) (X02:Nb Xq) (o:X50) (h:X1p X0c xs k Xh Xq=some o)
  (C0:∀ (Xp:(List Int)) (X0m:(List Int)) (X08:Nb Xp) (X0q:Nb X0m),o=X50.x0 Xp X0m->X2 Tryz.prog 102 0 Q (.exit (.exit 0)) [] ⟨fr [(0,(Lf (X0c.map X4))),(5,(slE X08.1 0 (List.map (aI .i64) Xp))),(6,(slE X0q.1 1 (List.map (aI .i64) X0m)))],hp ([]++opE X08.1 0 1 (List.map (aI .i64) Xp)++opE X0q.1 1 1 (List.map (aI .i64) X0m)),2⟩ μ)
  (C1:∀ (X1k:(List Int)) (Xe8:(List Int)) (X1g:Nb X1k) (Xfh:Nb Xe8),o=X50.x1 X1k Xe8->X2 Tryz.prog 102 0 Q (.exit .ret) [] ⟨fr [(2,(slE X1g.1 0 (List.map (aI .i64) X1k))),(3,(slE Xfh.1 1 (List.map (aI .i64) Xe8))),(4,(aB false))],hp ([]++opE X1g.1 0 1 (List.map (aI .i64) X1k)++opE Xfh.1 1 1 (List.map (aI .i64) Xe8)),2⟩ μ),
  X2 Tryz.prog 102 0 Q (.loop (X2p 0 (Xd Tryz.f155))) [] ⟨fr [(0,(Lf (X0c.map X4))),(5,(slE X0h.1 0 (List.map (aI .i64) Xh))),(6,(slE X02.1 1 (List.map (aI .i64) Xq))),(7,(aI .i64 (k:Int)))],hp ([]++opE X0h.1 0 1 (List.map (aI .i64) Xh)++opE X02.1 1 1 (List.map (aI .i64) Xq)),2⟩ μ:=by
 intro xs
 induction xs with
 |nil =>
  intro k hx Xh Xq X0h X02 o h C0 C1;have hk:=X1f hx;have hc:decide ((k:Int)<(X0c.length:Int))=false:=Yf om;rw[X1p] at h;rcases X0h with ⟨_|_,X2t⟩
  ·
   rcases X02 with ⟨_|_,X0n⟩
   ·
    refine X2.round ?_;revert h;exact λe=>X6 [.el (aI .i64 (X0c.length:Int)),Bf] (k:=wkT [] (C0 _ _  nbF nbF (oj e).symm))
   obtain rfl:=X0n rfl;refine X2.round ?_;revert h;exact λe=>X6 [.el (aI .i64 (X0c.length:Int)),Bf] (k:=wkT [] (C0 _ _  nbF nbS (oj e).symm))
  ·
   obtain rfl:=X2t rfl;rcases X02 with ⟨_|_,X0n⟩
   ·
    refine X2.round ?_;revert h;exact λe=>X6 [.el (aI .i64 (X0c.length:Int)),Bf] (k:=wkT [] (C0 _ _  nbS nbF (oj e).symm))
   ·
    obtain rfl:=X0n rfl;refine X2.round ?_;revert h;exact λe=>X6 [.el (aI .i64 (X0c.length:Int)),Bf] (k:=wkT [] (C0 _ _  nbS nbS (oj e).symm))
 |cons x xs ih =>
  intro k hx Xh Xq X0h X02 o h C0 C1;obtain⟨hk,hg,hx1⟩:=X0u hx;have hc:decide ((k:Int)<(X0c.length:Int))=true:=Yt om;rw[X1p] at h;rcases X0h with ⟨_|_,X2t⟩
  ·
   rcases X02 with ⟨_|_,X0n⟩
   ·
    refine X2.round ?_;revert h;refine bI λv156 h157=>brI (λh158=>?_) λh158=>?_
    ·
     refine brI (λh159=>λe=>X6 [.el (aI .i64 (X0c.length:Int)),Bt,.el (X4 x),.pure _ (aI .i64 v156),Bt,.wrap,Bt] (k:=wkT [] (C1 _ _  nbS nbS (oj e).symm))) λh159=>bI λe160 h161=>?_;try have qh161:=Xm h161
     refine bI λe162 h163=>?_;try have qh163:=Xm h163
     refine rnI [.el (aI .i64 (X0c.length:Int)),Bt,.el (X4 x),.pure _ (aI .i64 v156),Bt,.wrap,Bf,.el (aI .i64 e160),.ld (aI .i64 e160),.wrap,.el (aI .i64 e160),.ld (aI .i64 e160),.wrap,.el (aI .i64 e162),.ld (aI .i64 e162),.wrap] ?_;refine brI (λh164=>?_) λh164=>?_
     ·
      refine brI (λh165=>λe=>X6 [Bt,Bt] (k:=wkT [] (C1 _ _  nbS nbS (oj e).symm))) λh165=>bI λe166 h167=>?_;try have qh167:=Xm h167
      refine bI λe168 h169=>?_;try have qh169:=Xm h169
      refine bI λv170 h171=>rnI [Bt,Bf,.el (aI .i64 e166),.ld (aI .i64 e166),.wrap,.el (aI .i64 e168),.ld (aI .i64 e168),.wrap,.el (X4 x),.pure _ (aB v170)] ?_;refine brI (λh172=>λe=>X6 [Bt] (k:=wkT [] (C1 _ _  nbS nbS (oj e).symm))) λh172=>?_;refine bI λu173 h174=>bI λu175 h176=>rnI [Bf,.no,.no] (o:=by repeat' first|apply Ya|exact pcM|(refine X0t h174 rfl ?_;first|(simp<;>omega)|(simp[hc,h158,h159,h164,h165,h172]<;>omega))|(refine X09 h174 (by decide) ?_;first|(simp<;>omega)|(simp[hc,h158,h159,h164,h165,h172]<;>omega))|(refine X0t h176 rfl ?_;first|(simp<;>omega)|(simp[hc,h158,h159,h164,h165,h172]<;>omega))|(refine X09 h176 (by decide) ?_;first|(simp<;>omega)|(simp[hc,h158,h159,h164,h165,h172]<;>omega))|exact Xv) ?_;intro h;exact wkT [(0,3),(1,5)] (ih (k+1) hx1 _ _ nbF nbF o h C0 C1)
     refine bI λv177 h178=>brI (λh179=>λe=>X6 [Bf,.el (X4 x),.pure _ (aB v177),Bt] (k:=wkT [] (C1 _ _  nbS nbS (oj e).symm))) λh179=>?_;refine bI λu180 h181=>bI λu182 h183=>rnI [Bf,.el (X4 x),.pure _ (aB v177),Bf,.no,.no] (o:=by repeat' first|apply Ya|exact pcM|(refine X0t h181 rfl ?_;first|(simp<;>omega)|(simp[hc,h158,h159,h164,h179]<;>omega))|(refine X09 h181 (by decide) ?_;first|(simp<;>omega)|(simp[hc,h158,h159,h164,h179]<;>omega))|(refine X0t h183 rfl ?_;first|(simp<;>omega)|(simp[hc,h158,h159,h164,h179]<;>omega))|(refine X09 h183 (by decide) ?_;first|(simp<;>omega)|(simp[hc,h158,h159,h164,h179]<;>omega))|exact Xv) ?_;intro h;exact wkT [(0,3),(1,5)] (ih (k+1) hx1 _ _ nbF nbF o h C0 C1)
    refine bI λv184 h185=>brI (λh186=>λe=>X6 [.el (aI .i64 (X0c.length:Int)),Bt,.el (X4 x),.pure _ (aI .i64 v156),Bf,.el (X4 x),.pure _ (aB v184),Bt] (k:=wkT [] (C1 _ _  nbS nbS (oj e).symm))) λh186=>?_;refine bI λu187 h188=>bI λu189 h190=>rnI [.el (aI .i64 (X0c.length:Int)),Bt,.el (X4 x),.pure _ (aI .i64 v156),Bf,.el (X4 x),.pure _ (aB v184),Bf,.no,.no] (o:=by repeat' first|apply Ya|exact pcM|(refine X0t h188 rfl ?_;first|(simp<;>omega)|(simp[hc,h158,h186]<;>omega))|(refine X09 h188 (by decide) ?_;first|(simp<;>omega)|(simp[hc,h158,h186]<;>omega))|(refine X0t h190 rfl ?_;first|(simp<;>omega)|(simp[hc,h158,h186]<;>omega))|(refine X09 h190 (by decide) ?_;first|(simp<;>omega)|(simp[hc,h158,h186]<;>omega))|exact Xv) ?_;intro h;exact wkT [(0,3),(1,5)] (ih (k+1) hx1 _ _ nbF nbF o h C0 C1)
   obtain rfl:=X0n rfl;refine X2.round ?_;revert h;refine bI λv191 h192=>brI (λh193=>?_) λh193=>?_
   ·
    refine brI (λh194=>λe=>X6 [.el (aI .i64 (X0c.length:Int)),Bt,.el (X4 x),.pure _ (aI .i64 v191),Bt,.wrap,Bt] (k:=wkT [] (C1 _ _  nbS nbS (oj e).symm))) λh194=>bI λe195 h196=>?_;try have qh196:=Xm h196
    refine bI λe197 h198=>?_;try have qh198:=Xm h198
    intro h
    first|exact absurd (h198) (by simp[X17];done)|(simp[X17,hc,h193,h194] at h;done)|exact absurd (h198) (by simp[X17,hc,h193,h194];done)
   refine bI λv199 h200=>brI (λh201=>λe=>X6 [.el (aI .i64 (X0c.length:Int)),Bt,.el (X4 x),.pure _ (aI .i64 v191),Bf,.el (X4 x),.pure _ (aB v199),Bt] (k:=wkT [] (C1 _ _  nbS nbS (oj e).symm))) λh201=>?_;refine bI λu202 h203=>bI λu204 h205=>rnI [.el (aI .i64 (X0c.length:Int)),Bt,.el (X4 x),.pure _ (aI .i64 v191),Bf,.el (X4 x),.pure _ (aB v199),Bf,.no,.no] (o:=by repeat' first|apply Ya|exact pcM|(refine X0t h203 rfl ?_;first|(simp<;>omega)|(simp[hc,h193,h201]<;>omega))|(refine X09 h203 (by decide) ?_;first|(simp<;>omega)|(simp[hc,h193,h201]<;>omega))|(refine X0t h205 rfl ?_;first|(simp<;>omega)|(simp[hc,h193,h201]<;>omega))|(refine X09 h205 (by decide) ?_;first|(simp<;>omega)|(simp[hc,h193,h201]<;>omega))|exact Xv) ?_;intro h;exact wkT [(0,3),(1,5)] (ih (k+1) hx1 _ _ nbF nbF o h C0 C1)
  obtain rfl:=X2t rfl;rcases X02 with ⟨_|_,X0n⟩<;>(try obtain rfl:=X0n rfl);all_goals
   refine X2.round ?_;revert h;refine bI λv206 h207=>brI (λh208=>?_) λh208=>?_
   ·
    refine brI (λh209=>λe=>X6 [.el (aI .i64 (X0c.length:Int)),Bt,.el (X4 x),.pure _ (aI .i64 v206),Bt,.wrap,Bt] (k:=wkT [] (C1 _ _  nbS nbS (oj e).symm))) λh209=>bI λe210 h211=>?_;try have qh211:=Xm h211
    intro h
    first|exact absurd (h211) (by simp[X17];done)|(simp[X17,hc,h208,h209] at h;done)|exact absurd (h211) (by simp[X17,hc,h208,h209];done)
   refine bI λv212 h213=>brI (λh214=>λe=>X6 [.el (aI .i64 (X0c.length:Int)),Bt,.el (X4 x),.pure _ (aI .i64 v206),Bf,.el (X4 x),.pure _ (aB v212),Bt] (k:=wkT [] (C1 _ _  nbS nbS (oj e).symm))) λh214=>?_;refine bI λu215 h216=>bI λu217 h218=>rnI [.el (aI .i64 (X0c.length:Int)),Bt,.el (X4 x),.pure _ (aI .i64 v206),Bf,.el (X4 x),.pure _ (aB v212),Bf,.no,.no] (o:=by repeat' first|apply Ya|exact pcM|(refine X0t h216 rfl ?_;first|(simp<;>omega)|(simp[hc,h208,h214]<;>omega))|(refine X09 h216 (by decide) ?_;first|(simp<;>omega)|(simp[hc,h208,h214]<;>omega))|(refine X0t h218 rfl ?_;first|(simp<;>omega)|(simp[hc,h208,h214]<;>omega))|(refine X09 h218 (by decide) ?_;first|(simp<;>omega)|(simp[hc,h208,h214]<;>omega))|exact Xv) ?_;intro h;exact wkT [(0,3),(1,5)] (ih (k+1) hx1 _ _ nbF nbF o h C0 C1)
instance X01b:PCs Tryz.prog 155 (∀ (a0:(List X0f)) (r:(List Int)×(List Int)×Bool),Xdi a0=some r->X0a Tryz.prog 155 [(Lf (a0.map X4))] (AV.tup [(Lt (List.map (aI .i64) r.1)),(Lt (List.map (aI .i64) r.2.1)),(aB r.2.2)])):=⟨λa0 r h=>by
 refine X0a.sym X3 X0ce (nt:=102) rfl rfl ?_ okM;unfold Xdi at h;revert h;refine bI λu1 h2=>?_;have qh2:=X0v h2;refine bI λo232 h233=>rnI [] ?_;intro h;refine wkT [] (X2.cut (Xi6 a0 qh2 a0 0 (by simp) _ _ nbS nbS _ h233 ?_ ?_))
 ·
  intro Xp X0m X08 X0q eo232;subst eo232;refine X2.glue ?_;try dsimp only at h
  rcases X08 with ⟨_|_,X29⟩
  ·
   rcases X0q with ⟨_|_,X3d⟩
   ·
    revert h;refine bI λXz2 h241=>rnI [.stop 25] ?_;intro h;refine X2.join (s':=⟨fr [(2,(AV.ref 0 0 (Xp.length))),(3,(AV.ref 1 0 (X0m.length))),(4,(aB Xz2))],hp ([(0,Ob (List.map (aI .i64) Xp) 1),(1,Ob (List.map (aI .i64) X0m) 1)]),2⟩) ?_ (λJ=>X2.cut ?_)
    ·
     revert h;exact λe=>oj e▸X6 [] (k:=fi)
    clear h;revert h241;refine brI (λh238=>?_) λh238=>?_
    ·
     refine bI λe239 h240=>?_;try have qh240:=Xm h240
     intro h;obtain rfl:=oj h;exact X6 [.el (aI .i64 (a0.length:Int)),Gt,Gt,Gt,.el (aI .i64 (a0.length:Int)),Gt,.wrap,Gt,.el (aI .i64 e239),Gt,.ld (aI .i64 e239),Gt,Gt,.el (aI .i64 (a0.length:Int)),Gt] (k:=wkT [] (X2.glue J))
    intro h;obtain rfl:=oj h;exact X6 [.el (aI .i64 (a0.length:Int)),Gf,Gf,Gf,Gf,Gf,Gf,Gf,Gf,Gf,Gf] (k:=wkT [] (X2.glue J))
   obtain rfl:=X3d rfl;revert h;refine bI λX09l h249=>rnI [.stop 25] ?_;intro h;refine X2.join (s':=⟨fr [(2,(AV.ref 0 0 (Xp.length))),(3,AV.nils),(4,(aB X09l))],hp ([(0,Ob (List.map (aI .i64) Xp) 1)]),2⟩) ?_ (λJ=>X2.cut ?_)
   ·
    revert h;exact λe=>oj e▸X6 [] (k:=fi)
   clear h;revert h249;refine brI (λh246=>?_) λh246=>?_
   ·
    refine bI λe247 h248=>?_;try have qh248:=Xm h248
    intro h;obtain rfl:=oj h;exact X6 [.el (aI .i64 (a0.length:Int)),Gt,Gt,Gt,.el (aI .i64 (a0.length:Int)),Gt,.wrap,Gt,.el (aI .i64 e247),Gt,.ld (aI .i64 e247),Gt,Gt,.el (aI .i64 (a0.length:Int)),Gt] (k:=wkT [] (X2.glue J))
   intro h;obtain rfl:=oj h;exact X6 [.el (aI .i64 (a0.length:Int)),Gf,Gf,Gf,Gf,Gf,Gf,Gf,Gf,Gf,Gf] (k:=wkT [] (X2.glue J))
  obtain rfl:=X29 rfl;rcases X0q with ⟨_|_,X3d⟩
  ·
   revert h;refine bI λX09k h257=>rnI [.stop 25] ?_;intro h;refine X2.join (s':=⟨fr [(2,AV.nils),(3,(AV.ref 1 0 (X0m.length))),(4,(aB X09k))],hp ([(1,Ob (List.map (aI .i64) X0m) 1)]),2⟩) ?_ (λJ=>X2.cut ?_)
   ·
    revert h;exact λe=>oj e▸X6 [] (k:=fi)
   clear h;revert h257;refine brI (λh254=>?_) λh254=>?_
   ·
    refine bI λe255 h256=>?_;try have qh256:=Xm h256
    intro h
    first|exact absurd (h256) (by simp[X17];done)|(simp[X17,h254] at h;done)|exact absurd (h256) (by simp[X17,h254];done)
   intro h;obtain rfl:=oj h;exact X6 [.el (aI .i64 (a0.length:Int)),Gf,Gf,Gf,Gf,Gf,Gf,Gf,Gf,Gf,Gf] (k:=wkT [] (X2.glue J))
  obtain rfl:=X3d rfl;revert h;refine bI λX09j h265=>rnI [.stop 25] ?_;intro h;refine X2.join (s':=⟨fr [(2,AV.nils),(3,AV.nils),(4,(aB X09j))],hp ([]),2⟩) ?_ (λJ=>X2.cut ?_)
  ·
   revert h;exact λe=>oj e▸X6 [] (k:=fi)
  clear h;revert h265;refine brI (λh262=>?_) λh262=>?_
  ·
   refine bI λe263 h264=>?_;try have qh264:=Xm h264
   intro h
   first|exact absurd (h264) (by simp[X17];done)|(simp[X17,h262] at h;done)|exact absurd (h264) (by simp[X17,h262];done)
  intro h;obtain rfl:=oj h;exact X6 [.el (aI .i64 (a0.length:Int)),Gf,Gf,Gf,Gf,Gf,Gf,Gf,Gf,Gf,Gf] (k:=wkT [] (X2.glue J))
 intro X1k Xe8 X1g Xfh eo232;subst eo232;refine X2.glue ?_;try dsimp only at h
 rcases X1g with ⟨_|_,X5z⟩<;>(try obtain rfl:=X5z rfl);all_goals
  rcases Xfh with ⟨_|_,Xvi⟩<;>(try obtain rfl:=Xvi rfl);all_goals
   revert h;exact λe=>oj e▸X6 [] (k:=fi)⟩
instance X01d:PCs Tryz.prog 127 (∀ (a0:(List X0f)) (r:Int),X4v a0=some r->X0a Tryz.prog 127 [(Lf (a0.map X4))] (aI .i64 r)):=⟨λa0 r h=>by
 refine X0a.sym X3 X0cy (nt:=24) rfl rfl ?_ okM;unfold X4v at h;revert h;refine brI (λh1=>λe=>oj e▸X6 [.el (aI .i64 (a0.length:Int)),Bt] (k:=fi)) λh1=>bI λv2 h3=>rnI [.el (aI .i64 (a0.length:Int)),Bf,.pure _ (AV.tup [(Lt (List.map (aI .i64) v2.1)),(Lt (List.map (aI .i64) v2.2.1)),(aB v2.2.2)])] ?_;refine brI (λh4=>λe=>oj e▸X6 [Bt] (k:=fi)) λh4=>bI λe5 h6=>?_;try have qh6:=Xm h6
 exact brI (λh7=>λe=>oj e▸X6 [Bf,.el (aI .i64 (a0.length:Int)),.wrap,.el (aI .i64 e5),Bt] (k:=fi)) λh7=>λe=>oj e▸X6 [Bf,.el (aI .i64 (a0.length:Int)),.wrap,.el (aI .i64 e5),Bf] (k:=fi)⟩
theorem Xgd {Q:X04->St->Mu->Prop} {μ:Mu} (X0c:(List Int)) (hl:X0c.length<=140737488355328):∀ (xs:List Int) (k:Nat) (hx:X0c.drop k=xs) (o:X5g) (h:X33 X0c xs k  = some o)
  (C0:o=X5g.x0->X2 Tryz.prog 60 0 Q (.exit (.exit 0)) [] ⟨fr [(0,(Lf (List.map (aI .i64) X0c)))],hp ([]),0⟩ μ)
  (C1:o=X5g.x1->X2 Tryz.prog 60 0 Q (.exit .ret) [] ⟨fr [(4,(aI .i64 8))],hp ([]),0⟩ μ),
  X2 Tryz.prog 60 0 Q (.loop (X2p 0 (Xd Tryz.f128))) [] ⟨fr [(0,(Lf (List.map (aI .i64) X0c))),(5,(aI .i64 (k:Int)))],hp ([]),0⟩ μ:=by
 intro xs
 induction xs with
 |nil =>
  intro k hx  o h C0 C1;have hk:=X1f hx;have hc:decide ((k:Int)<(X0c.length:Int))=false:=Yf om;rw[X33] at h;refine X2.round ?_;revert h;exact λe=>X6 [.el (aI .i64 (X0c.length:Int)),Bf] (k:=wkT [] (C0  (oj e).symm))
 |cons x xs ih =>
  intro k hx  o h C0 C1;obtain⟨hk,hg,hx1⟩:=X0u hx;have hc:decide ((k:Int)<(X0c.length:Int))=true:=Yt om;rw[X33] at h;refine X2.round ?_;revert h;refine bI λXz0 h25=>rnI [.el (aI .i64 (X0c.length:Int)),Bt,.stop 8] ?_;intro h;refine X2.join (s':=⟨fr [(0,(Lf (List.map (aI .i64) X0c))),(5,(aI .i64 (k:Int))),(39,(aB Xz0))],hp ([]),0⟩) ?_ (λJ=>X2.cut ?_)
  ·
   revert h;refine brI (λh26=>λe=>X6 [Bt] (k:=wkT [] (C1  (oj e).symm))) λh26=>rnI [Bf] ?_;intro h;exact wkT [] (ih (k+1) hx1  o h C0 C1)
  clear h;revert h25;refine brI (λh24=>?_) λh24=>?_
  ·
   intro h;obtain rfl:=oj h;exact X6 [.el (aI .i64 x),Gf,Gf,Gf,Gf,Gf] (k:=wkT [] (X2.glue J))
  intro h;obtain rfl:=oj h;exact X6 [.el (aI .i64 x),Gt,Gt,Gt,.el (aI .i64 x),Gt,Gt] (k:=wkT [] (X2.glue J))
theorem Xgb {Q:X04->St->Mu->Prop} {μ:Mu} (Xup:(List Int)) (Xpc:Int):∀ (n:Nat) (Xpb:Int) (o:X5e) (h:X32 Xup Xpc n Xpb=some o)
  (C0:o=X5e.x0->X2 Tryz.prog 60 0 Q (.exit .ret) [] ⟨fr [(4,(aI .i64 43))],hp ([]),0⟩ μ)
  (C1:o=X5e.x1->X2 Tryz.prog 60 0 Q (.exit (.exit 4)) [] ⟨fr [(0,(Lf (List.map (aI .i64) Xup))),(6,(aI .i64 Xpc))],hp ([]),0⟩ μ),
  X2 Tryz.prog 60 0 Q (.loop (X2p 2 (Xd Tryz.f128))) [] ⟨fr [(0,(Lf (List.map (aI .i64) Xup))),(6,(aI .i64 Xpc)),(7,(aI .i64 Xpb))],hp ([]),0⟩ μ:=by
 intro n
 induction n with
 |zero=>intro Xpb o h C0 C1;cases h
 |succ n ih =>
  intro Xpb o h C0 C1;rw[X32] at h;refine X2.round ?_;revert h;refine brI (λh85=>?_) λh85=>λe=>X6 [Bf] (k:=wkT [] (C1  (oj e).symm));refine bI λe86 h87=>?_;try have qh87:=Xm h87
  refine bI λe88 h89=>?_;try have qh89:=Xm h89
  refine brI (λh90=>λe=>X6 [Bt,.el (aI .i64 e86),.el (aI .i64 e88),Bt] (k:=wkT [] (C0  (oj e).symm))) λh90=>rnI [Bt,.el (aI .i64 e86),.el (aI .i64 e88),Bf,.wrap] ?_;intro h;exact wkT [] (ih  _ o h C0 C1)
theorem Xgc {Q:X04->St->Mu->Prop} {μ:Mu} (Xmh:(List Int)) (hl:Xmh.length<=140737488355328):∀ (xs:List Int) (k:Nat) (hx:Xmh.drop k=xs) (o:X5f) (h:X2j Xmh xs k  = some o)
  (C0:o=X5f.x0->X2 Tryz.prog 60 0 Q (.exit (.exit 2)) [] ⟨fr [],hp ([]),0⟩ μ)
  (C1:o=X5f.x1->X2 Tryz.prog 60 0 Q (.exit .ret) [] ⟨fr [(4,(aI .i64 43))],hp ([]),0⟩ μ),
  X2 Tryz.prog 60 0 Q (.loop (X2p 1 (Xd Tryz.f128))) [] ⟨fr [(0,(Lf (List.map (aI .i64) Xmh))),(6,(aI .i64 (k:Int)))],hp ([]),0⟩ μ:=by
 intro xs
 induction xs with
 |nil =>
  intro k hx  o h C0 C1;have hk:=X1f hx;have hc:decide ((k:Int)<(Xmh.length:Int))=false:=Yf om;rw[X2j] at h;refine X2.round ?_;revert h;exact λe=>X6 [.el (aI .i64 (Xmh.length:Int)),Bf] (k:=wkT [] (C0  (oj e).symm))
 |cons x xs ih =>
  intro k hx  o h C0 C1;obtain⟨hk,hg,hx1⟩:=X0u hx;have hc:decide ((k:Int)<(Xmh.length:Int))=true:=Yt om;rw[X2j] at h;refine X2.round ?_;revert h;refine bI λo91 h92=>rnI [.el (aI .i64 (Xmh.length:Int)),Bt] ?_;intro h;refine wkT [] (X2.cut (Xgb Xmh (k:Int) _ _ _ h92 ?_ ?_))
  ·
   intro eo91;subst eo91;refine X2.glue ?_;try dsimp only at h
   revert h;exact λe=>X6 [] (k:=wkT [] (C1  (oj e).symm))
  intro eo91;subst eo91;refine X2.glue ?_;try dsimp only at h
  exact X6 [] (k:=wkT [] (ih (k+1) hx1  o h C0 C1))
end Go.Av.Tryz