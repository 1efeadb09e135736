/- Printed by decomp.py: that the program computes the functions. -/
import Derived.Test.YtkjlgmgfhgamlaaGreatDCert8Z
import Derived.Test.YtkjlgmgfhgamlaaGreatDCert9Z
set_option linter.all false

namespace Go.Av.Tryz
open Go.Proofs Go.D
set_option maxRecDepth 10000
set_option maxHeartbeats 40000000
instance X00t:PCs Tryz.prog 29 (∀ (a0:Int) (a1:Xm) (r:Int×Int),X7m a0 a1=some r->X0b Tryz.prog 29 [(aI .u8 a0),(Xv a1)] (AV.tup [(aI .i64 r.1),(aI .i64 r.2)])):=⟨λa0 a1 r h=>by
 refine X0b.sym X3 fn29 (nt:=34) rfl rfl ?_ okM;unfold X7m at h;revert h;refine brI (λh1=>λe=>oj e▸X6 [Bt] (k:=fi)) λh1=>bI λv2 h3=>brI (λh4=>λe=>oj e▸X6 [Bf,.pure _ (aI .i64 v2),Bt] (k:=fi)) λh4=>brI (λh5=>λe=>oj e▸X6 [Bf,.pure _ (aI .i64 v2),Bf,Bt] (k:=fi)) λh5=>bI λX07k h17=>rnI [Bf,.pure _ (aI .i64 v2),Bf,Bf,.stop 9] ?_;intro h;refine X2.join (s':=⟨fr [(4,(aI .i64 X07k)),(5,(aI .i64 0))],hp ([]),0⟩) ?_ (λJ=>X2.cut ?_)
 ·
  revert h;exact λe=>oj e▸X6 [] (k:=fi)
 clear h;revert h17;refine brI (λh12=>?_) λh12=>?_
 ·
  intro h;obtain rfl:=oj h;exact X6 [.ix 0] (o:=by repeat' first|apply Ya|exact pcM|exact((eq_of_beq h12))|exact Xu) (k:=wkT [] (X2.glue J))
 refine brI (λh13=>?_) λh13=>?_
 ·
  intro h;obtain rfl:=oj h;exact X6 [.ix 1] (o:=by repeat' first|apply Ya|exact pcM|exact((eq_of_beq h13))|exact Xu) (k:=wkT [] (X2.glue J))
 refine brI (λh14=>?_) λh14=>?_
 ·
  intro h;obtain rfl:=oj h;exact X6 [.ix 2] (o:=by repeat' first|apply Ya|exact pcM|exact((eq_of_beq h14))|exact Xu) (k:=wkT [] (X2.glue J))
 refine brI (λh15=>?_) λh15=>?_
 ·
  intro h;obtain rfl:=oj h;exact X6 [.ix 3] (o:=by repeat' first|apply Ya|exact pcM|exact((eq_of_beq h15))|exact Xu) (k:=wkT [] (X2.glue J))
 refine brI (λh16=>?_) λh16=>?_
 ·
  intro h;obtain rfl:=oj h;exact X6 [.ix 4] (o:=by repeat' first|apply Ya|exact pcM|exact((eq_of_beq h16))|exact Xu) (k:=wkT [] (X2.glue J))
 intro h;cases h⟩
instance X06j:PCs Tryz.prog 70 (∀ (a0:X0g) (a1:X1) (r:X1b×Bool),Xfk a0 a1=some r->X0b Tryz.prog 70 [(X07 false a0),(X0 a1)] (AV.tup [(Xf r.1),(aB r.2)])):=⟨λa0 a1 r h=>by
 refine X0b.sym X3 fn70 (nt:=43) rfl rfl ?_ okM;unfold Xfk at h;revert h;exact bI λv1 h2=>bI λv3 h4=>brI (λh5=>λe=>oj e▸X6 [.ix 0,.pure _ (AV.tup [(aI .i64 v1.1),(aI .i64 v1.2)]),.ix 1,.pure _ (AV.tup [(aI .i64 v3.1),(aI .i64 v3.2)]),Bt] (k:=fi)) λh5=>λe=>oj e▸X6 [.ix 0,.pure _ (AV.tup [(aI .i64 v1.1),(aI .i64 v1.2)]),.ix 1,.pure _ (AV.tup [(aI .i64 v3.1),(aI .i64 v3.2)]),Bf] (k:=fi)⟩
theorem Xll {Q:X03->St->Mu->Prop} {μ:Mu} (Xh:X0g) (Xn:Xo) (Xgo:Xo) (Xcp:(List X1)) (hl:Xcp.length<=140737488355328):∀ (xs:List X1) (k:Nat) (hx:Xcp.drop k=xs) (X0l:(List X09)) (X19:Nb X0l) (o:Xcl) (h:X3t Xh Xn Xgo Xcp xs k X0l=some o)
  (C0:∀ (X4o:(List X09)) (X61:Nb X4o),o=Xcl.x0 X4o->X2 Tryz.prog 153 0 Q (.exit (.exit 1)) [] ⟨fr [(5,(AV.ptr 0 0 0)),(8,(AV.ptr 1 0 0)),(21,(slE X61.1 2 (X4o.map Xc)))],hp ([(0,Ob [(Xa false Xn)] 9),(1,Ob [(Xa true Xgo)] 9)]++opE X61.1 2 11 (X4o.map Xc)),3⟩ μ),
  X2 Tryz.prog 153 0 Q (.loop (X2o 0 (Xd Tryz.f31))) [] ⟨fr [(4,(AV.ptr 0 0 0)),(5,(AV.ptr 1 0 0)),(8,(AV.ptr 2 0 0)),(21,(slE X19.1 3 (X0l.map Xc))),(128,(Lt (Xcp.map X0))),(129,(aI .i64 (Xcp.length:Int))),(130,(aI .i64 (k:Int)))],hp ([(0,Ob [(X07 false Xh)] 10),(1,Ob [(Xa false Xn)] 9),(2,Ob [(Xa true Xgo)] 9)]++opE X19.1 3 11 (X0l.map Xc)),4⟩ μ:=by
 intro xs
 induction xs with
 |nil =>
  intro k hx X0l X19 o h C0;have hk:=X1g hx;have hc:decide ((k:Int)<(Xcp.length:Int))=false:=Yf om;rw[X3t] at h;rcases X19 with ⟨_|_,X4y⟩
  ·
   refine X2.round ?_;revert h;exact λe=>X6 [Bf] (k:=wkT [(0,1),(1,2),(2,3)] (C0 _  nbF (oj e).symm))
  ·
   obtain rfl:=X4y rfl;refine X2.round ?_;revert h;exact λe=>X6 [Bf] (k:=wkT [(0,1),(1,2)] (C0 _  nbS (oj e).symm))
 |cons x xs ih =>
  intro k hx X0l X19 o h C0;obtain⟨hk,hg,hx1⟩:=X0u hx;have hc:decide ((k:Int)<(Xcp.length:Int))=true:=Yt om;rw[X3t] at h;rcases X19 with ⟨_|_,X4y⟩
  ·
   refine X2.round ?_;revert h;refine bI λv70 h71=>bI λXq7 h79=>rnI [Bt,.el (X0 x),.pure _ (AV.tup [(Xf v70.1),(aB v70.2)])] ?_;intro h;refine X2.joinF (λ(q:Nb Xq7)=>⟨fr [(4,(AV.ptr 0 0 0)),(5,(AV.ptr 1 0 0)),(8,(AV.ptr 2 0 0)),(21,(slE q.1 3 (Xq7.map Xc))),(128,(Lt (Xcp.map X0))),(129,(aI .i64 (Xcp.length:Int))),(130,(aI .i64 (k:Int)))],hp ([(0,Ob [(X07 false Xh)] 10),(1,Ob [(Xa false Xn)] 9),(2,Ob [(Xa true Xgo)] 9)]++opE q.1 3 11 (Xq7.map Xc)),4⟩) ?_ (λJ=>X2.cut ?_)
   ·
    rintro Xyf;rcases Xyf with ⟨_|_,Xzn⟩
    ·
     exact X6 [] (k:=wkT [] (ih (k+1) hx1 _ nbF o h C0))
    obtain rfl:=Xzn rfl;exact X6 [] (k:=wkT [] (ih (k+1) hx1 _ nbS o h C0))
   clear h;revert h79;refine brI (λh76=>?_) λh76=>?_
   ·
    refine bI λu77 h78=>?_;intro h;obtain rfl:=oj h;exact X6 [Bt,.no] (o:=by repeat' first|apply Ya|exact pcM|(refine X0r h78 rfl ?_;first|(simp<;>omega)|(simp[hc,h76]<;>omega))|(refine X08 h78 (by decide) ?_;first|(simp<;>omega)|(simp[hc,h76]<;>omega))|exact Xu) (k:=wkT [(3,7)] (X2.glue (J nbF)))
   intro h;obtain rfl:=oj h;exact X6 [Bf] (k:=wkT [] (X2.glue (J nbF)))
  obtain rfl:=X4y rfl;refine X2.round ?_;revert h;refine bI λv80 h81=>bI λXyx h89=>rnI [Bt,.el (X0 x),.pure _ (AV.tup [(Xf v80.1),(aB v80.2)])] ?_;intro h;refine X2.joinF (λ(q:Nb Xyx)=>⟨fr [(4,(AV.ptr 0 0 0)),(5,(AV.ptr 1 0 0)),(8,(AV.ptr 2 0 0)),(21,(slE q.1 3 (Xyx.map Xc))),(128,(Lt (Xcp.map X0))),(129,(aI .i64 (Xcp.length:Int))),(130,(aI .i64 (k:Int)))],hp ([(0,Ob [(X07 false Xh)] 10),(1,Ob [(Xa false Xn)] 9),(2,Ob [(Xa true Xgo)] 9)]++opE q.1 3 11 (Xyx.map Xc)),4⟩) ?_ (λJ=>X2.cut ?_)
  ·
   rintro Xye;rcases Xye with ⟨_|_,Xzm⟩
   ·
    exact X6 [] (k:=wkT [] (ih (k+1) hx1 _ nbF o h C0))
   obtain rfl:=Xzm rfl;exact X6 [] (k:=wkT [] (ih (k+1) hx1 _ nbS o h C0))
  clear h;revert h89;refine brI (λh86=>?_) λh86=>?_
  ·
   refine bI λu87 h88=>?_;intro h;obtain rfl:=oj h;exact X6 [Bt,.no] (o:=by repeat' first|apply Ya|exact pcM|(refine X0r h88 rfl ?_;first|(simp<;>omega)|(simp[hc,h86]<;>omega))|(refine X08 h88 (by decide) ?_;first|(simp<;>omega)|(simp[hc,h86]<;>omega))|exact Xu) (k:=wkT [(3,7)] (X2.glue (J nbF)))
  intro h;obtain rfl:=oj h;exact X6 [Bf] (k:=wkT [] (X2.glue (J nbS)))
instance X059:PCs Tryz.prog 31 (∀ (a0:X0g) (a1:Xo) (a2:Int) (a3:Xp) (r:Xo×Int),X4h a0 a1 a2 a3=some r->X0b Tryz.prog 31 [(X07 false a0),(Xa false a1),(aI .i64 a2),(X0n a3)] (AV.tup [(Xa true r.1),(aI .i64 r.2)])):=⟨λa0 a1 a2 a3 r h=>by
 refine X0b.sym X3 fn31 (nt:=153) rfl rfl ?_ okM;unfold X4h at h;revert h;refine bI λv1 h2=>brI (λh3=>λe=>oj e▸X6 [.pure _ (aB v1),Bt] (k:=fi)) λh3=>bI λv4 h5=>brI (λh6=>λe=>oj e▸X6 [.pure _ (aB v1),Bf,.pure _ (aI .i64 v4),Bt] (k:=fi)) λh6=>brI (λh7=>λe=>oj e▸X6 [.pure _ (aB v1),Bf,.pure _ (aI .i64 v4),Bf,Bt] (k:=fi)) λh7=>bI λv8 h9=>brI (λh10=>λe=>oj e▸X6 [.pure _ (aB v1),Bf,.pure _ (aI .i64 v4),Bf,Bf,.pure _ (aI .i64 v8),Bt] (k:=fi)) λh10=>rnI [.pure _ (aB v1),Bf,.pure _ (aI .i64 v4),Bf,Bf,.pure _ (aI .i64 v8),Bf,.el (aI .i64 (a1.Pending.length:Int))] ?_;refine brI (λh11=>λe=>oj e▸X6 [Bt] (k:=fi)) λh11=>brI (λh12=>bI λv13 h14=>brI (λh15=>λe=>oj e▸X6 [Bf,Bt,.pure _ (AV.tup [(Lt (v13.1.map X0)),(aI .i64 v13.2)]),Bt] (k:=fi)) λh15=>bI λv16 h17=>λe=>oj e▸X6 [Bf,Bt,.pure _ (AV.tup [(Lt (v13.1.map X0)),(aI .i64 v13.2)]),Bf,.pure _ (AV.tup [(Xa true v16.1),(aI .i64 v16.2)])] (k:=fi)) λh12=>bI λv18 h19=>brI (λh20=>bI λv21 h22=>λe=>oj e▸X6 [Bf,Bf,.pure _ (AV.tup [(Lt (List.map (aI .i64) v18.1)),(aB v18.2.1),(aI .i64 v18.2.2)]),Bt,.pure _ (AV.tup [(Xa true v21.1),(aI .i64 v21.2)])] (k:=fi)) λh20=>bI λv23 h24=>bI λv25 h26=>bI λu27 h28=>?_;have qh28:=X0v h28;refine rnI [Bf,Bf,.pure _ (AV.tup [(Lt (List.map (aI .i64) v18.1)),(aB v18.2.1),(aI .i64 v18.2.2)]),Bf,.pure _ (AV.tup [(aI .i64 v23.1),(aI .i64 v23.2)]),.pure _ (AV.tup [(Lt (v25.1.map X0)),(Lt (v25.2.1.map X0)),(aI .i64 v25.2.2)]),.el (aI .i64 (v25.1.length:Int))] ?_;intro h;refine X2.unown 1 [AV.agg [(aI .u8 a1.Op.Kind),(aI .i64 a1.Op.N),(aI .i64 a1.Turn),(Lf (a1.Pending.map Xc)),(Lf (List.map (aI .i64) v18.1)),(Lf (v25.2.1.map X0)),(Lf (a1.Events.map X8)),(Lf (a1.Rows.map Xf)),(Lf (a1.Late.map X5))]] rfl rfl ?_;refine X2.denil 3 [AV.agg [(aI .u8 0),(aI .i64 0),(aI .i64 0),(Lt (List.map Xc ([]:List X09))),(Lt (List.map (aI .i64) ([]:List Int))),(Lt (List.map X0 ([]:List X1))),(Lt (List.map X8 ([]:List X01))),(Lt (List.map Xf ([]:List X1b))),(Lt (List.map X5 ([]:List Xg)))]] rfl rfl ?_;revert h;refine bI λo90 h91=>rnI [] ?_;intro h;refine wkT [(2,3)] (X2.cut (Xll a0 (Xo.mk a1.Op a1.Turn a1.Pending v18.1 v25.2.1 a1.Events a1.Rows a1.Late) (Xo.mk (GOp.mk 0 0) 0 ([]:List X09) ([]:List Int) ([]:List X1) ([]:List X01) ([]:List X1b) ([]:List Xg)) v25.1 qh28 v25.1 0 (by simp) _ nbS _ h91 ?_));intro X4o X61 eo90;subst eo90;refine X2.glue ?_;try dsimp only at h
 rcases X61 with ⟨_|_,Xit⟩<;>(try obtain rfl:=Xit rfl);all_goals
  revert h;exact bI λv92 h93=>λe=>oj e▸X6 [.pure _ (AV.tup [(Xa true v92.1),(aI .i64 v92.2)])] (k:=fi)⟩
instance X01l:PCs Tryz.prog 173 (∀ (a0:Int) (r:Int),Xdi a0=some r->X0b Tryz.prog 173 [(aI .u8 a0)] (aI .i64 r)):=⟨λa0 r h=>by
 refine X0b.sym X3 X0ca (nt:=7) rfl rfl ?_ okM;unfold Xdi at h;revert h;exact brI (λh1=>λe=>oj e▸X6 [Bt] (k:=fi)) λh1=>brI (λh2=>λe=>oj e▸X6 [Bf,Bt] (k:=fi)) λh2=>λe=>oj e▸X6 [Bf,Bf] (k:=fi)⟩
instance X01j:PCs Tryz.prog 174 (∀ (a0:X0f) (a1:Int) (a2:Int) (r:Bool),X72 a0 a1 a2=some r->X0b Tryz.prog 174 [(X4 a0),(aI .i64 a1),(aI .i64 a2)] (aB r)):=⟨λa0 a1 a2 r h=>by
 refine X0b.sym X3 X0c9 (nt:=52) rfl rfl ?_ okM;unfold X72 at h;revert h;exact λe=>oj e▸X6 [] (k:=fi)⟩
theorem Xih {Q:X03->St->Mu->Prop} {μ:Mu} (X0c:(List X0f)) (hl:X0c.length<=140737488355328):∀ (xs:List X0f) (k:Nat) (hx:X0c.drop k=xs) (Xh:(List Int)) (Xn:(List Int)) (X0h:Nb Xh) (X02:Nb Xn) (o:X53) (h:X1q X0c xs k Xh Xn=some o)
  (C0:∀ (Xq:(List Int)) (X0m:(List Int)) (X06:Nb Xq) (X0q:Nb X0m),o=X53.x0 Xq X0m->X2 Tryz.prog 102 0 Q (.exit (.exit 0)) [] ⟨fr [(0,(Lf (X0c.map X4))),(5,(slE X06.1 0 (List.map (aI .i64) Xq))),(6,(slE X0q.1 1 (List.map (aI .i64) X0m)))],hp ([]++opE X06.1 0 1 (List.map (aI .i64) Xq)++opE X0q.1 1 1 (List.map (aI .i64) X0m)),2⟩ μ)
  (C1:∀ (X1l:(List Int)) (Xe8:(List Int)) (X1h:Nb X1l) (Xfh:Nb Xe8),o=X53.x1 X1l Xe8->X2 Tryz.prog 102 0 Q (.exit .ret) [] ⟨fr [(2,(slE X1h.1 0 (List.map (aI .i64) X1l))),(3,(slE Xfh.1 1 (List.map (aI .i64) Xe8))),(4,(aB false))],hp ([]++opE X1h.1 0 1 (List.map (aI .i64) X1l)++opE Xfh.1 1 1 (List.map (aI .i64) Xe8)),2⟩ μ),
  X2 Tryz.prog 102 0 Q (.loop (X2o 0 (Xd Tryz.f155))) [] ⟨fr [(0,(Lf (X0c.map X4))),(5,(slE X0h.1 0 (List.map (aI .i64) Xh))),(6,(slE X02.1 1 (List.map (aI .i64) Xn))),(7,(aI .i64 (k:Int)))],hp ([]++opE X0h.1 0 1 (List.map (aI .i64) Xh)++opE X02.1 1 1 (List.map (aI .i64) Xn)),2⟩ μ:=by
 intro xs
 induction xs with
 |nil =>
  intro k hx Xh Xn X0h X02 o h C0 C1;have hk:=X1g hx;have hc:decide ((k:Int)<(X0c.length:Int))=false:=Yf om;rw[X1q] at h;rcases X0h with ⟨_|_,X2s⟩
  ·
   rcases X02 with ⟨_|_,X0o⟩
   ·
    refine X2.round ?_;revert h;exact λe=>X6 [.el (aI .i64 (X0c.length:Int)),Bf] (k:=wkT [] (C0 _ _  nbF nbF (oj e).symm))
   obtain rfl:=X0o rfl;refine X2.round ?_;revert h;exact λe=>X6 [.el (aI .i64 (X0c.length:Int)),Bf] (k:=wkT [] (C0 _ _  nbF nbS (oj e).symm))
  ·
   obtain rfl:=X2s rfl;rcases X02 with ⟨_|_,X0o⟩
   ·
    refine X2.round ?_;revert h;exact λe=>X6 [.el (aI .i64 (X0c.length:Int)),Bf] (k:=wkT [] (C0 _ _  nbS nbF (oj e).symm))
   ·
    obtain rfl:=X0o rfl;refine X2.round ?_;revert h;exact λe=>X6 [.el (aI .i64 (X0c.length:Int)),Bf] (k:=wkT [] (C0 _ _  nbS nbS (oj e).symm))
 |cons x xs ih =>
  intro k hx Xh Xn X0h X02 o h C0 C1;obtain⟨hk,hg,hx1⟩:=X0u hx;have hc:decide ((k:Int)<(X0c.length:Int))=true:=Yt om;rw[X1q] at h;rcases X0h with ⟨_|_,X2s⟩
  ·
   rcases X02 with ⟨_|_,X0o⟩
   ·
    refine X2.round ?_;revert h;refine bI λv156 h157=>brI (λh158=>?_) λh158=>?_
    ·
     refine brI (λh159=>λe=>X6 [.el (aI .i64 (X0c.length:Int)),Bt,.el (X4 x),.pure _ (aI .i64 v156),Bt,.wrap,Bt] (k:=wkT [] (C1 _ _  nbS nbS (oj e).symm))) λh159=>bI λe160 h161=>?_;try have qh161:=Xl h161
     refine bI λe162 h163=>?_;try have qh163:=Xl h163
     refine rnI [.el (aI .i64 (X0c.length:Int)),Bt,.el (X4 x),.pure _ (aI .i64 v156),Bt,.wrap,Bf,.el (aI .i64 e160),.ld (aI .i64 e160),.wrap,.el (aI .i64 e160),.ld (aI .i64 e160),.wrap,.el (aI .i64 e162),.ld (aI .i64 e162),.wrap] ?_;refine brI (λh164=>?_) λh164=>?_
     ·
      refine brI (λh165=>λe=>X6 [Bt,Bt] (k:=wkT [] (C1 _ _  nbS nbS (oj e).symm))) λh165=>bI λe166 h167=>?_;try have qh167:=Xl h167
      refine bI λe168 h169=>?_;try have qh169:=Xl h169
      refine bI λv170 h171=>rnI [Bt,Bf,.el (aI .i64 e166),.ld (aI .i64 e166),.wrap,.el (aI .i64 e168),.ld (aI .i64 e168),.wrap,.el (X4 x),.pure _ (aB v170)] ?_;refine brI (λh172=>λe=>X6 [Bt] (k:=wkT [] (C1 _ _  nbS nbS (oj e).symm))) λh172=>?_;refine bI λu173 h174=>bI λu175 h176=>rnI [Bf,.no,.no] (o:=by repeat' first|apply Ya|exact pcM|(refine X0r h174 rfl ?_;first|(simp<;>omega)|(simp[hc,h158,h159,h164,h165,h172]<;>omega))|(refine X08 h174 (by decide) ?_;first|(simp<;>omega)|(simp[hc,h158,h159,h164,h165,h172]<;>omega))|(refine X0r h176 rfl ?_;first|(simp<;>omega)|(simp[hc,h158,h159,h164,h165,h172]<;>omega))|(refine X08 h176 (by decide) ?_;first|(simp<;>omega)|(simp[hc,h158,h159,h164,h165,h172]<;>omega))|exact Xu) ?_;intro h;exact wkT [(0,3),(1,5)] (ih (k+1) hx1 _ _ nbF nbF o h C0 C1)
     refine bI λv177 h178=>brI (λh179=>λe=>X6 [Bf,.el (X4 x),.pure _ (aB v177),Bt] (k:=wkT [] (C1 _ _  nbS nbS (oj e).symm))) λh179=>?_;refine bI λu180 h181=>bI λu182 h183=>rnI [Bf,.el (X4 x),.pure _ (aB v177),Bf,.no,.no] (o:=by repeat' first|apply Ya|exact pcM|(refine X0r h181 rfl ?_;first|(simp<;>omega)|(simp[hc,h158,h159,h164,h179]<;>omega))|(refine X08 h181 (by decide) ?_;first|(simp<;>omega)|(simp[hc,h158,h159,h164,h179]<;>omega))|(refine X0r h183 rfl ?_;first|(simp<;>omega)|(simp[hc,h158,h159,h164,h179]<;>omega))|(refine X08 h183 (by decide) ?_;first|(simp<;>omega)|(simp[hc,h158,h159,h164,h179]<;>omega))|exact Xu) ?_;intro h;exact wkT [(0,3),(1,5)] (ih (k+1) hx1 _ _ nbF nbF o h C0 C1)
    refine bI λv184 h185=>brI (λh186=>λe=>X6 [.el (aI .i64 (X0c.length:Int)),Bt,.el (X4 x),.pure _ (aI .i64 v156),Bf,.el (X4 x),.pure _ (aB v184),Bt] (k:=wkT [] (C1 _ _  nbS nbS (oj e).symm))) λh186=>?_;refine bI λu187 h188=>bI λu189 h190=>rnI [.el (aI .i64 (X0c.length:Int)),Bt,.el (X4 x),.pure _ (aI .i64 v156),Bf,.el (X4 x),.pure _ (aB v184),Bf,.no,.no] (o:=by repeat' first|apply Ya|exact pcM|(refine X0r h188 rfl ?_;first|(simp<;>omega)|(simp[hc,h158,h186]<;>omega))|(refine X08 h188 (by decide) ?_;first|(simp<;>omega)|(simp[hc,h158,h186]<;>omega))|(refine X0r h190 rfl ?_;first|(simp<;>omega)|(simp[hc,h158,h186]<;>omega))|(refine X08 h190 (by decide) ?_;first|(simp<;>omega)|(simp[hc,h158,h186]<;>omega))|exact Xu) ?_;intro h;exact wkT [(0,3),(1,5)] (ih (k+1) hx1 _ _ nbF nbF o h C0 C1)
   obtain rfl:=X0o rfl;refine X2.round ?_;revert h;refine bI λv191 h192=>brI (λh193=>?_) λh193=>?_
   ·
    refine brI (λh194=>λe=>X6 [.el (aI .i64 (X0c.length:Int)),Bt,.el (X4 x),.pure _ (aI .i64 v191),Bt,.wrap,Bt] (k:=wkT [] (C1 _ _  nbS nbS (oj e).symm))) λh194=>bI λe195 h196=>?_;try have qh196:=Xl h196
    refine bI λe197 h198=>?_;try have qh198:=Xl h198
    intro h
    first|exact absurd (h198) (by simp[X15];done)|(simp[X15,hc,h193,h194] at h;done)|exact absurd (h198) (by simp[X15,hc,h193,h194];done)
   refine bI λv199 h200=>brI (λh201=>λe=>X6 [.el (aI .i64 (X0c.length:Int)),Bt,.el (X4 x),.pure _ (aI .i64 v191),Bf,.el (X4 x),.pure _ (aB v199),Bt] (k:=wkT [] (C1 _ _  nbS nbS (oj e).symm))) λh201=>?_;refine bI λu202 h203=>bI λu204 h205=>rnI [.el (aI .i64 (X0c.length:Int)),Bt,.el (X4 x),.pure _ (aI .i64 v191),Bf,.el (X4 x),.pure _ (aB v199),Bf,.no,.no] (o:=by repeat' first|apply Ya|exact pcM|(refine X0r h203 rfl ?_;first|(simp<;>omega)|(simp[hc,h193,h201]<;>omega))|(refine X08 h203 (by decide) ?_;first|(simp<;>omega)|(simp[hc,h193,h201]<;>omega))|(refine X0r h205 rfl ?_;first|(simp<;>omega)|(simp[hc,h193,h201]<;>omega))|(refine X08 h205 (by decide) ?_;first|(simp<;>omega)|(simp[hc,h193,h201]<;>omega))|exact Xu) ?_;intro h;exact wkT [(0,3),(1,5)] (ih (k+1) hx1 _ _ nbF nbF o h C0 C1)
  obtain rfl:=X2s rfl;rcases X02 with ⟨_|_,X0o⟩<;>(try obtain rfl:=X0o rfl);all_goals
   refine X2.round ?_;revert h;refine bI λv206 h207=>brI (λh208=>?_) λh208=>?_
   ·
    refine brI (λh209=>λe=>X6 [.el (aI .i64 (X0c.length:Int)),Bt,.el (X4 x),.pure _ (aI .i64 v206),Bt,.wrap,Bt] (k:=wkT [] (C1 _ _  nbS nbS (oj e).symm))) λh209=>bI λe210 h211=>?_;try have qh211:=Xl h211
    intro h
    first|exact absurd (h211) (by simp[X15];done)|(simp[X15,hc,h208,h209] at h;done)|exact absurd (h211) (by simp[X15,hc,h208,h209];done)
   refine bI λv212 h213=>brI (λh214=>λe=>X6 [.el (aI .i64 (X0c.length:Int)),Bt,.el (X4 x),.pure _ (aI .i64 v206),Bf,.el (X4 x),.pure _ (aB v212),Bt] (k:=wkT [] (C1 _ _  nbS nbS (oj e).symm))) λh214=>?_;refine bI λu215 h216=>bI λu217 h218=>rnI [.el (aI .i64 (X0c.length:Int)),Bt,.el (X4 x),.pure _ (aI .i64 v206),Bf,.el (X4 x),.pure _ (aB v212),Bf,.no,.no] (o:=by repeat' first|apply Ya|exact pcM|(refine X0r h216 rfl ?_;first|(simp<;>omega)|(simp[hc,h208,h214]<;>omega))|(refine X08 h216 (by decide) ?_;first|(simp<;>omega)|(simp[hc,h208,h214]<;>omega))|(refine X0r h218 rfl ?_;first|(simp<;>omega)|(simp[hc,h208,h214]<;>omega))|(refine X08 h218 (by decide) ?_;first|(simp<;>omega)|(simp[hc,h208,h214]<;>omega))|exact Xu) ?_;intro h;exact wkT [(0,3),(1,5)] (ih (k+1) hx1 _ _ nbF nbF o h C0 C1)
instance X01k:PCs Tryz.prog 155 (∀ (a0:(List X0f)) (r:(List Int)×(List Int)×Bool),Xdh a0=some r->X0b Tryz.prog 155 [(Lf (a0.map X4))] (AV.tup [(Lt (List.map (aI .i64) r.1)),(Lt (List.map (aI .i64) r.2.1)),(aB r.2.2)])):=⟨λa0 r h=>by
 refine X0b.sym X3 X0cn (nt:=102) rfl rfl ?_ okM;unfold Xdh at h;revert h;refine bI λu1 h2=>?_;have qh2:=X0v h2;refine bI λo232 h233=>rnI [] ?_;intro h;refine wkT [] (X2.cut (Xih a0 qh2 a0 0 (by simp) _ _ nbS nbS _ h233 ?_ ?_))
 ·
  intro Xq X0m X06 X0q eo232;subst eo232;refine X2.glue ?_;try dsimp only at h
  rcases X06 with ⟨_|_,X29⟩
  ·
   rcases X0q with ⟨_|_,X3c⟩
   ·
    revert h;refine bI λXza h241=>rnI [.stop 25] ?_;intro h;refine X2.join (s':=⟨fr [(2,(AV.ref 0 0 (Xq.length))),(3,(AV.ref 1 0 (X0m.length))),(4,(aB Xza))],hp ([(0,Ob (List.map (aI .i64) Xq) 1),(1,Ob (List.map (aI .i64) X0m) 1)]),2⟩) ?_ (λJ=>X2.cut ?_)
    ·
     revert h;exact λe=>oj e▸X6 [] (k:=fi)
    clear h;revert h241;refine brI (λh238=>?_) λh238=>?_
    ·
     refine bI λe239 h240=>?_;try have qh240:=Xl h240
     intro h;obtain rfl:=oj h;exact X6 [.el (aI .i64 (a0.length:Int)),Gt,Gt,Gt,.el (aI .i64 (a0.length:Int)),Gt,.wrap,Gt,.el (aI .i64 e239),Gt,.ld (aI .i64 e239),Gt,Gt,.el (aI .i64 (a0.length:Int)),Gt] (k:=wkT [] (X2.glue J))
    intro h;obtain rfl:=oj h;exact X6 [.el (aI .i64 (a0.length:Int)),Gf,Gf,Gf,Gf,Gf,Gf,Gf,Gf,Gf,Gf] (k:=wkT [] (X2.glue J))
   obtain rfl:=X3c rfl;revert h;refine bI λX09u h249=>rnI [.stop 25] ?_;intro h;refine X2.join (s':=⟨fr [(2,(AV.ref 0 0 (Xq.length))),(3,AV.nils),(4,(aB X09u))],hp ([(0,Ob (List.map (aI .i64) Xq) 1)]),2⟩) ?_ (λJ=>X2.cut ?_)
   ·
    revert h;exact λe=>oj e▸X6 [] (k:=fi)
   clear h;revert h249;refine brI (λh246=>?_) λh246=>?_
   ·
    refine bI λe247 h248=>?_;try have qh248:=Xl h248
    intro h;obtain rfl:=oj h;exact X6 [.el (aI .i64 (a0.length:Int)),Gt,Gt,Gt,.el (aI .i64 (a0.length:Int)),Gt,.wrap,Gt,.el (aI .i64 e247),Gt,.ld (aI .i64 e247),Gt,Gt,.el (aI .i64 (a0.length:Int)),Gt] (k:=wkT [] (X2.glue J))
   intro h;obtain rfl:=oj h;exact X6 [.el (aI .i64 (a0.length:Int)),Gf,Gf,Gf,Gf,Gf,Gf,Gf,Gf,Gf,Gf] (k:=wkT [] (X2.glue J))
  obtain rfl:=X29 rfl;rcases X0q with ⟨_|_,X3c⟩
  ·
   revert h;refine bI λX09t h257=>rnI [.stop 25] ?_;intro h;refine X2.join (s':=⟨fr [(2,AV.nils),(3,(AV.ref 1 0 (X0m.length))),(4,(aB X09t))],hp ([(1,Ob (List.map (aI .i64) X0m) 1)]),2⟩) ?_ (λJ=>X2.cut ?_)
   ·
    revert h;exact λe=>oj e▸X6 [] (k:=fi)
   clear h;revert h257;refine brI (λh254=>?_) λh254=>?_
   ·
    refine bI λe255 h256=>?_;try have qh256:=Xl h256
    intro h
    first|exact absurd (h256) (by simp[X15];done)|(simp[X15,h254] at h;done)|exact absurd (h256) (by simp[X15,h254];done)
   intro h;obtain rfl:=oj h;exact X6 [.el (aI .i64 (a0.length:Int)),Gf,Gf,Gf,Gf,Gf,Gf,Gf,Gf,Gf,Gf] (k:=wkT [] (X2.glue J))
  obtain rfl:=X3c rfl;revert h;refine bI λX09s h265=>rnI [.stop 25] ?_;intro h;refine X2.join (s':=⟨fr [(2,AV.nils),(3,AV.nils),(4,(aB X09s))],hp ([]),2⟩) ?_ (λJ=>X2.cut ?_)
  ·
   revert h;exact λe=>oj e▸X6 [] (k:=fi)
  clear h;revert h265;refine brI (λh262=>?_) λh262=>?_
  ·
   refine bI λe263 h264=>?_;try have qh264:=Xl h264
   intro h
   first|exact absurd (h264) (by simp[X15];done)|(simp[X15,h262] at h;done)|exact absurd (h264) (by simp[X15,h262];done)
  intro h;obtain rfl:=oj h;exact X6 [.el (aI .i64 (a0.length:Int)),Gf,Gf,Gf,Gf,Gf,Gf,Gf,Gf,Gf,Gf] (k:=wkT [] (X2.glue J))
 intro X1l Xe8 X1h Xfh eo232;subst eo232;refine X2.glue ?_;try dsimp only at h
 rcases X1h with ⟨_|_,X63⟩<;>(try obtain rfl:=X63 rfl);all_goals
  rcases Xfh with ⟨_|_,Xvm⟩<;>(try obtain rfl:=Xvm rfl);all_goals
   revert h;exact λe=>oj e▸X6 [] (k:=fi)⟩
instance X01m:PCs Tryz.prog 127 (∀ (a0:(List X0f)) (r:Int),X4x a0=some r->X0b Tryz.prog 127 [(Lf (a0.map X4))] (aI .i64 r)):=⟨λa0 r h=>by
 refine X0b.sym X3 X0d7 (nt:=24) rfl rfl ?_ okM;unfold X4x at h;revert h;refine brI (λh1=>λe=>oj e▸X6 [.el (aI .i64 (a0.length:Int)),Bt] (k:=fi)) λh1=>bI λv2 h3=>rnI [.el (aI .i64 (a0.length:Int)),Bf,.pure _ (AV.tup [(Lt (List.map (aI .i64) v2.1)),(Lt (List.map (aI .i64) v2.2.1)),(aB v2.2.2)])] ?_;refine brI (λh4=>λe=>oj e▸X6 [Bt] (k:=fi)) λh4=>bI λe5 h6=>?_;try have qh6:=Xl h6
 exact brI (λh7=>λe=>oj e▸X6 [Bf,.el (aI .i64 (a0.length:Int)),.wrap,.el (aI .i64 e5),Bt] (k:=fi)) λh7=>λe=>oj e▸X6 [Bf,.el (aI .i64 (a0.length:Int)),.wrap,.el (aI .i64 e5),Bf] (k:=fi)⟩
theorem Xgh {Q:X03->St->Mu->Prop} {μ:Mu} (X0c:(List Int)) (hl:X0c.length<=140737488355328):∀ (xs:List Int) (k:Nat) (hx:X0c.drop k=xs) (o:X5j) (h:X32 X0c xs k  = some o)
  (C0:o=X5j.x0->X2 Tryz.prog 60 0 Q (.exit (.exit 0)) [] ⟨fr [(0,(Lf (List.map (aI .i64) X0c)))],hp ([]),0⟩ μ)
  (C1:o=X5j.x1->X2 Tryz.prog 60 0 Q (.exit .ret) [] ⟨fr [(4,(aI .i64 8))],hp ([]),0⟩ μ),
  X2 Tryz.prog 60 0 Q (.loop (X2o 0 (Xd Tryz.f128))) [] ⟨fr [(0,(Lf (List.map (aI .i64) X0c))),(5,(aI .i64 (k:Int)))],hp ([]),0⟩ μ:=by
 intro xs
 induction xs with
 |nil =>
  intro k hx  o h C0 C1;have hk:=X1g hx;have hc:decide ((k:Int)<(X0c.length:Int))=false:=Yf om;rw[X32] at h;refine X2.round ?_;revert h;exact λe=>X6 [.el (aI .i64 (X0c.length:Int)),Bf] (k:=wkT [] (C0  (oj e).symm))
 |cons x xs ih =>
  intro k hx  o h C0 C1;obtain⟨hk,hg,hx1⟩:=X0u hx;have hc:decide ((k:Int)<(X0c.length:Int))=true:=Yt om;rw[X32] at h;refine X2.round ?_;revert h;refine bI λXz8 h25=>rnI [.el (aI .i64 (X0c.length:Int)),Bt,.stop 8] ?_;intro h;refine X2.join (s':=⟨fr [(0,(Lf (List.map (aI .i64) X0c))),(5,(aI .i64 (k:Int))),(39,(aB Xz8))],hp ([]),0⟩) ?_ (λJ=>X2.cut ?_)
  ·
   revert h;refine brI (λh26=>λe=>X6 [Bt] (k:=wkT [] (C1  (oj e).symm))) λh26=>rnI [Bf] ?_;intro h;exact wkT [] (ih (k+1) hx1  o h C0 C1)
  clear h;revert h25;refine brI (λh24=>?_) λh24=>?_
  ·
   intro h;obtain rfl:=oj h;exact X6 [.el (aI .i64 x),Gf,Gf,Gf,Gf,Gf] (k:=wkT [] (X2.glue J))
  intro h;obtain rfl:=oj h;exact X6 [.el (aI .i64 x),Gt,Gt,Gt,.el (aI .i64 x),Gt,Gt] (k:=wkT [] (X2.glue J))
theorem Xgf {Q:X03->St->Mu->Prop} {μ:Mu} (Xur:(List Int)) (Xpc:Int):∀ (n:Nat) (Xpb:Int) (o:X5h) (h:X31 Xur Xpc n Xpb=some o)
  (C0:o=X5h.x0->X2 Tryz.prog 60 0 Q (.exit .ret) [] ⟨fr [(4,(aI .i64 43))],hp ([]),0⟩ μ)
  (C1:o=X5h.x1->X2 Tryz.prog 60 0 Q (.exit (.exit 4)) [] ⟨fr [(0,(Lf (List.map (aI .i64) Xur))),(6,(aI .i64 Xpc))],hp ([]),0⟩ μ),
  X2 Tryz.prog 60 0 Q (.loop (X2o 2 (Xd Tryz.f128))) [] ⟨fr [(0,(Lf (List.map (aI .i64) Xur))),(6,(aI .i64 Xpc)),(7,(aI .i64 Xpb))],hp ([]),0⟩ μ:=by
 intro n
 induction n with
 |zero=>intro Xpb o h C0 C1;cases h
 |succ n ih =>
  intro Xpb o h C0 C1;rw[X31] at h;refine X2.round ?_;revert h;refine brI (λh85=>?_) λh85=>λe=>X6 [Bf] (k:=wkT [] (C1  (oj e).symm));refine bI λe86 h87=>?_;try have qh87:=Xl h87
  refine bI λe88 h89=>?_;try have qh89:=Xl h89
  refine brI (λh90=>λe=>X6 [Bt,.el (aI .i64 e86),.el (aI .i64 e88),Bt] (k:=wkT [] (C0  (oj e).symm))) λh90=>rnI [Bt,.el (aI .i64 e86),.el (aI .i64 e88),Bf,.wrap] ?_;intro h;exact wkT [] (ih  _ o h C0 C1)
theorem Xgg {Q:X03->St->Mu->Prop} {μ:Mu} (Xmh:(List Int)) (hl:Xmh.length<=140737488355328):∀ (xs:List Int) (k:Nat) (hx:Xmh.drop k=xs) (o:X5i) (h:X2j Xmh xs k  = some o)
  (C0:o=X5i.x0->X2 Tryz.prog 60 0 Q (.exit (.exit 2)) [] ⟨fr [],hp ([]),0⟩ μ)
  (C1:o=X5i.x1->X2 Tryz.prog 60 0 Q (.exit .ret) [] ⟨fr [(4,(aI .i64 43))],hp ([]),0⟩ μ),
  X2 Tryz.prog 60 0 Q (.loop (X2o 1 (Xd Tryz.f128))) [] ⟨fr [(0,(Lf (List.map (aI .i64) Xmh))),(6,(aI .i64 (k:Int)))],hp ([]),0⟩ μ:=by
 intro xs
 induction xs with
 |nil =>
  intro k hx  o h C0 C1;have hk:=X1g hx;have hc:decide ((k:Int)<(Xmh.length:Int))=false:=Yf om;rw[X2j] at h;refine X2.round ?_;revert h;exact λe=>X6 [.el (aI .i64 (Xmh.length:Int)),Bf] (k:=wkT [] (C0  (oj e).symm))
 |cons x xs ih =>
  intro k hx  o h C0 C1;obtain⟨hk,hg,hx1⟩:=X0u hx;have hc:decide ((k:Int)<(Xmh.length:Int))=true:=Yt om;rw[X2j] at h;refine X2.round ?_;revert h;refine bI λo91 h92=>rnI [.el (aI .i64 (Xmh.length:Int)),Bt] ?_;intro h;refine wkT [] (X2.cut (Xgf Xmh (k:Int) _ _ _ h92 ?_ ?_))
  ·
   intro eo91;subst eo91;refine X2.glue ?_;try dsimp only at h
   revert h;exact λe=>X6 [] (k:=wkT [] (C1  (oj e).symm))
  intro eo91;subst eo91;refine X2.glue ?_;try dsimp only at h
  exact X6 [] (k:=wkT [] (ih (k+1) hx1  o h C0 C1))
instance Xwj:PCs Tryz.prog 128 (∀ (a0:(List Int)) (a1:Bool) (r:Int),X82 a0 a1=some r->X0b Tryz.prog 128 [(Lf (List.map (aI .i64) a0)),(aB a1)] (aI .i64 r)):=⟨λa0 a1 r h=>by
 refine X0b.sym X3 X0d6 (nt:=60) rfl rfl ?_ okM;unfold X82 at h;revert h;refine brI (λh1=>λe=>oj e▸X6 [.el (aI .i64 (a0.length:Int)),Bt] (k:=fi)) λh1=>bI λX06y h7=>rnI [.el (aI .i64 (a0.length:Int)),Bf,.stop 3] ?_;intro h;refine X2.join (s':=⟨fr [(0,(Lf (List.map (aI .i64) a0))),(21,(aB X06y))],hp ([]),0⟩) ?_ (λJ=>X2.cut ?_)
 ·
  revert h;refine brI (λh8=>λe=>oj e▸X6 [Bt] (k:=fi)) λh8=>bI λu9 h10=>?_;have qh10:=X0v h10;refine bI λo27 h28=>rnI [Bf] ?_;intro h;refine wkT [] (X2.cut (Xgh a0 qh10 a0 0 (by simp) _ h28 ?_ ?_))
  ·
   intro eo27;subst eo27;refine X2.glue ?_;try dsimp only at h
   revert h;refine bI λo93 h94=>rnI [] ?_;intro h;refine wkT [] (X2.cut (Xgg a0 qh10 a0 0 (by simp) _ h94 ?_ ?_))
   ·
    intro eo93;subst eo93;refine X2.glue ?_;try dsimp only at h
    revert h;exact λe=>oj e▸X6 [] (k:=fi)
   intro eo93;subst eo93;refine X2.glue ?_;try dsimp only at h
   revert h;exact λe=>oj e▸X6 [] (k:=fi)
  intro eo27;subst eo27;refine X2.glue ?_;try dsimp only at h
  revert h;exact λe=>oj e▸X6 [] (k:=fi)
 clear h;revert h7;refine brI (λh5=>?_) λh5=>?_
 ·
  intro h;obtain rfl:=oj h;exact X6 [.el (aI .i64 (a0.length:Int)),Gf,Gf,Gf,Gf,Gf,Gf] (k:=wkT [] (X2.glue J))
 refine brI (λh6=>?_) λh6=>?_
 ·
  intro h;obtain rfl:=oj h;exact X6 [.el (aI .i64 (a0.length:Int)),Gt,Gt,Gt,Gt,.el (aI .i64 (a0.length:Int)),Gt,Gt] (k:=wkT [] (X2.glue J))
 intro h;obtain rfl:=oj h;exact X6 [.el (aI .i64 (a0.length:Int)),Gt,Gt,Gf,Gf,Gf,Gt] (k:=wkT [] (X2.glue J))⟩
end Go.Av.Tryz