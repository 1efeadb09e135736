/- Printed by decomp.py: that the program computes the functions. -/
import Derived.Test.YtomaojndejpfgaaGreatDoorDCert10Z
set_option linter.all false

namespace Go.Av.Tryz
open Go.Proofs Go.D Go.Proofs.Tryz
set_option maxRecDepth 10000
set_option maxHeartbeats 40000000
theorem Xum {P:Prop} (h:P:=by repeat' first|apply Ya|exact pcM|(refine X1r h106 rfl ?_;first|(simp<;>omega)|(simp[h3,h109]<;>omega))|(refine X0p h106 (by decide) ?_;first|(simp<;>omega)|(simp[h3,h109]<;>omega))|exact X24):P:=h
instance X04x:PZ 153 (∀ (a0:Int) (a1:Int) (a2:Int) (a3:(List (List X4))) (r:(List X4)×Int),X2z a0 a1 a2 a3=some r->Pz 153 [(aI .u8 a0),(aI .i64 a1),(aI .i64 a2),(Lf (List.map (X6t false X0) a3))] (AV.tup [(Lt (r.1.map X0)),(aI .i64 r.2)])):=⟨λa0 a1 a2 a3 r=>by
 unfold X2z;refine psI X0iw 94<|bI λv1 h2=>brI (λh3=>λe=>oj e▸X8 [.pure _ (AV.tup [(aI .i64 v1.1),(aI .i64 v1.2)]),.el (aI .i64 (a3.length:Int)),Bt] (k:=fi)) λh3=>bI λu4 h5=>?_;have qh5:=X0e h5;refine bI λo103 h104=>rnI [.pure _ (AV.tup [(aI .i64 v1.1),(aI .i64 v1.2)]),.el (aI .i64 (a3.length:Int)),Bf,.el (aI .i64 (a3.length:Int))] ?_;intro h;refine wkT [] (X7.cut (Xim a3 qh5 a3 0 (by simp) _ _ nbS _ h104 ?_ ?_))
 ·
  intro Xo X00 X07 eo103;subst eo103;refine X7.glue ?_;try dsimp only at h
  rcases X07 with ⟨_|_,X29⟩<;>(try obtain rfl:=X29 rfl);all_goals
   revert h;exact bI λu105 h106=>bI λv107 h108=>brI (λh109=>λe=>oj e▸X8 [.no,.pure _ (aI .i64 v107),Bt] (o:=Xum) (k:=fi)) λh109=>λe=>oj e▸X8 [.no,.pure _ (aI .i64 v107),Bf] (o:=Xum) (k:=fi)
 intro Xy Xa8 Xx eo103;subst eo103;refine X7.glue ?_;try dsimp only at h
 rcases Xx with ⟨_|_,X1o⟩<;>(try obtain rfl:=X1o rfl);all_goals
  revert h;exact λe=>oj e▸X8 [] (k:=fi)⟩
instance X066:PZ 109 (∀ (a0:Int) (a1:Bool) (a2:Int) (r:Xj),Xbk a0 a1 a2=some r->Pz 109 [(aI .i64 a0),(aB a1),(aI .i64 a2)] (X6 true r)):=⟨λa0 a1 a2 r=>by
 unfold Xbk;refine psI X0jh 56<|brI (λh17=>?_) λh17=>?_
 ·
  refine bI λXqo h21=>rnI [Bt] ?_;refine jnI ⟨fr [(5,(AV.ptr 0 0 0)),(6,(AV.ptr 1 0 0)),(7,(AV.fn 152 [(AV.ptr 0 0 0)])),(10,(aI .u8 Xqo))],hp ([(0,Ob [(aI .i64 a2)] 1),(1,Ob [(X6 true (Xj.mk ([]:List X4) false))] 2)]),2⟩ h21 (bI λv22 h23=>bI λv24 h25=>λe=>oj e▸X8 [.pure [(aI .i64 0),(AV.elem false ((aI .i64) a2) 0)] (Lt (v22.map X0)),.pure [(aI .i64 0),(AV.elem false ((aI .i64) a2) 0)] (Lt (v22.map X0)),.pure _ (AV.tup [(Lt (v24.1.map X0)),(aI .i64 v24.2)]),.el (aI .i64 (v24.1.length:Int))] (o:=by repeat' first|apply Ya|exact pcM|exact(X4e.lent (Xdb _ _ _ h23) (cc .sc (cc (X01y rfl rfl) cn)) (Xft (X1s X2a _)))|exact X24) (k:=fi)) λJ=>?_;refine brI (λh20=>?_) λh20=>?_
  ·
   intro h;obtain rfl:=oj h;refine X0q [Bt] ?_;refine X7.denil 1 [AV.agg [(Lt (List.map X0 ([]:List X4))),(aB false)]] rfl rfl ?_;exact wkT [] (X7.glue J)
  intro h;obtain rfl:=oj h;refine X0q [Bf] ?_;refine X7.denil 1 [AV.agg [(Lt (List.map X0 ([]:List X4))),(aB false)]] rfl rfl ?_;exact wkT [] (X7.glue J)
 refine brI (λh33=>?_) λh33=>brI (λh40=>bI λv41 h42=>bI λv43 h44=>λe=>oj e▸X8 [Bf,Bf,.wrap,Bt,.wrap,.pure [(aI .i64 (IntKind.i64.wrap (0 - a0))),(AV.elem false ((aI .i64) a2) 0)] (Lt (v41.map X0)),.pure _ (AV.tup [(Lt (v43.1.map X0)),(aI .i64 v43.2)]),.el (aI .i64 (v43.1.length:Int))] (o:=by repeat' first|apply Ya|exact pcM|exact(X4e.lent (Xdb _ _ _ h42) (cc .sc (cc (X01y rfl rfl) cn)) (Xft (X1s X2a _)))|exact X24) (k:=fi)) λh40=>λe=>oj e▸X8 [Bf,Bf,.wrap,Bf,Gt,Gt,Gt] (k:=fi);refine rnI [Bf,Bt] ?_;intro h;refine X7.inline Xf X0fb rfl rfl rfl rfl rfl trivial trivial rfl rfl ?_;refine X0q [] ?_;refine X7.back (by intro id h;cases h) rfl ?_;revert h;exact λe=>oj e▸X8 [Gt,Gt,Gt] (k:=fi)⟩
theorem Xhd {Q:Qt} {μ:Mu} (rec:(List X4)->(List Xj)->Int->Option ((List X4)×Int)) (hrec:∀ (a0:(List X4)) (a1:(List Xj)) (a2:Int) (r:(List X4)×Int) (h:rec a0 a1 a2=some r),Pz 110 [(Lf (a0.map X0)),(Lf (List.map (X6 false) a1)),(aI .i64 a2)] (AV.tup [(Lt (r.1.map X0)),(aI .i64 r.2)])) (X0g:(List X4)) (Xa7:(List Xj)) (Xd:X4) (X3c:Int) (Xrp:(List Int)) (hl:Xrp.length<=140737488355328):∀ (xs:List Int) (k:Nat) (hx:Xrp.drop k=xs) (Xe:(List (List X4))) (Xp:Nb Xe) (o:X5z) (h:X4p rec X0g Xa7 Xd X3c Xrp xs k Xe=some o)
  (C0:∀ (X00:(List (List X4))) (X07:Nb X00),o=X5z.x0 X00->Sx 77 Q [(8,(AV.ptr 0 0 0)),(10,(aI .i64 X3c)),(11,(slE X07.1 1 (List.map (X6t true X0) X00)))] ([(0,Ob [(X0 Xd)] 5)]++opE X07.1 1 1 (List.map (X6t true X0) X00)) 2 μ)
  (C1:∀ (Xy:(List X4)) (Xml:Int) (Xx:Nb Xy),o=X5z.x1 Xy Xml->Sr 77 Q [(6,(slE Xx.1 0 (Xy.map X0))),(7,(aI .i64 Xml))] ([]++opE Xx.1 0 5 (Xy.map X0)) 1 μ),
  Sl 77 Q f110 [(0,(Lf (X0g.map X0))),(1,(Lf (List.map (X6 false) Xa7))),(8,(AV.ptr 0 0 0)),(10,(aI .i64 X3c)),(11,(slE Xp.1 1 (List.map (X6t true X0) Xe))),(43,(Lt (List.map (aI .i64) Xrp))),(44,(aI .i64 (Xrp.length:Int))),(45,(aI .i64 (k:Int)))] ([(0,Ob [(X0 Xd)] 5)]++opE Xp.1 1 1 (List.map (X6t true X0) Xe)) 2 μ:=by
 intro xs
 induction xs with
 |nil =>
  intro k hx Xe Xp o h C0 C1;have hk:=drop_nil hx;have hc:=lpN hx;rw[X4p] at h;rcases Xp with ⟨_|_,X06⟩
  ·
   refine X7.round ?_;revert h;exact λe=>X8 [Bf] (k:=wkT [] (C0 _  nbF (oj e).symm))
  ·
   obtain rfl:=X06 rfl;refine X7.round ?_;revert h;exact λe=>X8 [Bf] (k:=wkT [] (C0 _  nbS (oj e).symm))
 |cons x xs ih =>
  intro k hx Xe Xp o h C0 C1;obtain⟨hk,hg,hx1⟩:=drop_cons hx;have hc:=lpC hx;rw[X4p] at h;rcases Xp with ⟨_|_,X06⟩<;>(try obtain rfl:=X06 rfl);all_goals
   refine X7.round ?_;revert h;refine bI λv44 h45=>rnI [Bt,.el (aI .i64 x),.pure [(Lf (X0g.map X0)),(Lf (List.map (X6 false) Xa7)),(aI .i64 x)] (AV.tup [(Lt (v44.1.map X0)),(aI .i64 v44.2)])] (o:=by repeat' first|apply Ya|exact pcM|exact(pn (hrec _ _ _ _ h45) (cc (X58 (X1s X2a X0g)) (cc (Xlg (λ_=>rfl) (λx=>X8w X1y) Xa7) (cc .sc cn))))|exact X24) ?_;refine brI (λh46=>λe=>X8 [Bt] (k:=wkT [] (C1 _ _  nbS (oj e).symm))) λh46=>bI λu47 h48=>rnI [Bf,.no] (o:=by repeat' first|apply Ya|exact pcM|(refine X1r h48 rfl ?_;first|(simp<;>omega)|(simp[hc,h46]<;>omega))|(refine X0p h48 (by decide) ?_;first|(simp<;>omega)|(simp[hc,h46]<;>omega))|exact X24) ?_;intro h;exact wkT [(1,3)] (ih (k+1) hx1 _ nbF o h C0 C1)
theorem Xmf:∀ (n:Nat) (a0:(List X4)) (a1:(List Xj)) (a2:Int) (r:(List X4)×Int) (h:X1x n a0 a1 a2=some r),Pz 110 [(Lf (a0.map X0)),(Lf (List.map (X6 false) a1)),(aI .i64 a2)] (AV.tup [(Lt (r.1.map X0)),(aI .i64 r.2)]):=by
 intro n
 induction n with
 |zero=>intro a0 a1 a2 r h;cases h
 |succ n ih =>
  intro a0 a1 a2 r h;have hrec:=ih;refine X76.sym Xf X0jg (nt:=77) rfl rfl ?_ (X14 .list (X14 .list (X14 .sc X74)));rw[X1x] at h;revert h;refine bI λe1 h2=>?_;try have qh2:=Xq h2
  refine brI (λh3=>?_) λh3=>?_
  ·
   refine bI λX008 h15=>rnI [.el (X6 false e1),Bt,.el (X6 false e1)] ?_;intro h;refine X7.joinOpF (λ(q:Nb X008)=>⟨fr [(26,(slE q.1 0 (X008.map X0)))],hp ([]++opE q.1 0 5 (X008.map X0)),1⟩) ?_ (λJ=>?_)
   ·
    rintro X053;rcases X053 with ⟨_|_,X061⟩<;>(try obtain rfl:=X061 rfl);all_goals
     revert h;exact λe=>oj e▸X8 [] (k:=fi)
   clear h;revert h15;intro h;refine X7.inline Xf fn68 rfl rfl rfl rfl rfl trivial trivial rfl rfl ?_;revert h;refine brI (λq=>?_) λq=>?_
   ·
    intro h;have h10:e1.value=[]:=List.isEmpty_iff.1 q;refine X0q [] ?_;refine X7.eqNil Xf (may:=true) rfl rfl rfl rfl rfl rfl trivial (by simp[X6n, *]) λb11 qb11=>?_;cases b11
    ·
     obtain rfl:=oj h;refine X0q [Bf,.ne false] ?_;refine X7.back (by intro id h;cases h) rfl ?_;exact wkT [] ((J nbS))
    obtain rfl:=oj h;refine X0q [Bt] ?_;refine X7.back (by intro id h;cases h) rfl ?_;exact wkT [] ((J nbS))
   intro h;have h10:¬ (e1.value=[]):=(λe=>by rw[e] at q;cases q);refine X0q [] ?_;refine X7.eqNil Xf (may:=false) rfl rfl rfl rfl rfl rfl trivial (by simp[X6n, *]) λb12 qb12=>?_;obtain rfl:=qb12 rfl;revert h;refine bI λu13 h14=>?_;intro h;obtain rfl:=oj h;refine X0q [Bf,.via (Lt (e1.value.map X0))] (o:=by repeat' first|apply Ya|exact pcM|(refine X1r h14 rfl ?_;first|(simp<;>omega)|(simp[h3,h10]<;>omega))|(refine X0p h14 (by decide) ?_;first|(simp<;>omega)|(simp[h3,h10]<;>omega))|exact X24) ?_;refine X7.back (by intro id h;cases h) rfl ?_;exact wkT [(0,1)] ((J nbF))
  refine bI λe16 h17=>?_;try have qh17:=Xq h17
  refine bI λv18 h19=>brI (λh20=>?_) λh20=>?_
  ·
   refine bI λu21 h22=>?_;have qh22:=X0e h22;refine bI λo54 h55=>rnI [.el (X6 false e1),Bf,.el (X0 e16),.pure _ (AV.tup [(aI .i64 v18.1),(aI .i64 v18.2)]),.ne false,.el (aI .i64 (List.length ([]:List Int):Int))] ?_;intro h;refine wkT [] (X7.cut (Xhd (X1x n) hrec a0 a1 e16 v18.2 [] qh22 [] 0 (by simp) _ nbS _ h55 ?_ ?_))
   ·
    intro X00 X07 eo54;subst eo54;refine X7.glue ?_;try dsimp only at h
    rcases X07 with ⟨_|_,X29⟩<;>(try obtain rfl:=X29 rfl);all_goals
     revert h;exact brI (λh56=>λe=>oj e▸X8 [Bt] (k:=fi)) λh56=>bI λv57 h58=>λe=>oj e▸X8 [Bf,.pure _ (AV.tup [(Lt (v57.1.map X0)),(aI .i64 v57.2)])] (k:=fi)
   intro Xy Xml Xx eo54;subst eo54;refine X7.glue ?_;try dsimp only at h
   rcases Xx with ⟨_|_,X1o⟩<;>(try obtain rfl:=X1o rfl);all_goals
    revert h;exact λe=>oj e▸X8 [] (k:=fi)
  refine brI (λh62=>?_) λh62=>?_
  ·
   refine rnI [.el (X6 false e1),Bf,.el (X0 e16),.pure _ (AV.tup [(aI .i64 v18.1),(aI .i64 v18.2)])] ?_;refine rdI<|bI λv63 h64=>rnI [Bt,.el ((aI .i64 e16.A)),.pure [(Lf (a0.map X0)),(Lf (List.map (X6 false) a1)),(aI .i64 e16.A)] (AV.tup [(Lt (v63.1.map X0)),(aI .i64 v63.2)])] (o:=by repeat' first|apply Ya|exact pcM|exact(pn (hrec _ _ _ _ h64) (cc (X58 (X1s X2a a0)) (cc (Xlg (λ_=>rfl) (λx=>X8w X1y) a1) (cc .sc cn))))|exact X24) ?_;refine brI (λh65=>λe=>oj e▸X8 [Bt] (k:=fi)) λh65=>rnI [Bf,.no] ?_;exact rdI<|brI (λh66=>λe=>oj e▸X8 [Bf,Bt] (k:=fi)) λh66=>bI λv67 h68=>λe=>oj e▸X8 [Bf,Bf,.pure _ (AV.tup [(Lt (v67.1.map X0)),(aI .i64 v67.2)])] (k:=fi)
  refine brI (λh69=>?_) λh69=>?_
  ·
   refine rnI [.el (X6 false e1),Bf,.el (X0 e16),.pure _ (AV.tup [(aI .i64 v18.1),(aI .i64 v18.2)])] ?_;refine rdI<|bI λv70 h71=>rnI [Bt,.el ((aI .i64 e16.A)),.pure [(Lf (a0.map X0)),(Lf (List.map (X6 false) a1)),(aI .i64 e16.A)] (AV.tup [(Lt (v70.1.map X0)),(aI .i64 v70.2)])] (o:=by repeat' first|apply Ya|exact pcM|exact(pn (hrec _ _ _ _ h71) (cc (X58 (X1s X2a a0)) (cc (Xlg (λ_=>rfl) (λx=>X8w X1y) a1) (cc .sc cn))))|exact X24) ?_;refine brI (λh72=>λe=>oj e▸X8 [Bt] (k:=fi)) λh72=>rnI [Bf,.no] ?_;refine rdI<|bI λv73 h74=>rnI [Bt,.el ((aI .i64 e16.B)),.pure [(Lf (a0.map X0)),(Lf (List.map (X6 false) a1)),(aI .i64 e16.B)] (AV.tup [(Lt (v73.1.map X0)),(aI .i64 v73.2)])] (o:=by repeat' first|apply Ya|exact pcM|exact(pn (hrec _ _ _ _ h74) (cc (X58 (X1s X2a a0)) (cc (Xlg (λ_=>rfl) (λx=>X8w X1y) a1) (cc .sc cn))))|exact X24) ?_;refine brI (λh75=>λe=>oj e▸X8 [Bt] (k:=fi)) λh75=>rnI [Bf,.no] ?_;exact rdI<|brI (λh76=>λe=>oj e▸X8 [Bf,Bt] (k:=fi)) λh76=>bI λv77 h78=>λe=>oj e▸X8 [Bf,Bf,.pure _ (AV.tup [(Lt (v77.1.map X0)),(aI .i64 v77.2)])] (k:=fi)
  intro h;cases h
theorem Xf3 {Q:Xr->St->Mu->Prop}  {rb rD:Nat} {rr:Loop} (rh1:rr.state=.ready) (rh2:rr.pending=none) (rh3:rr.params=(rfB 0 (X1l Tryz.f70)).1) (rh4:rr.assign=(rfB 0 (X1l Tryz.f70)).2.1) (rh5:rr.body=(rfB 0 (X1l Tryz.f70)).2.2) (Xd:(List X4)) (Xi7:(List X4)) (X5q:Int) (X0t:(List Bool)) (Xjn:(List X4)) (Xo6:Nb Xi7):∀ (n:Nat) (Xlt:(List Xj)) (X5r:(List Int)) (o:X6s) (h:X03 Xd Xi7 X5q X0t Xjn n Xlt X5r=some o)
  (C0:∀ (Xen:(List X4)) (Xbq:(List Xj)) (Xdu:Nb Xen),o=X6s.x0 Xen Xbq->X7 Tryz.prog 69 8 Q (.exit (.exit 0)) [] ⟨fr [],hp ([(0,Ob [(Lf (Xd.map X0))] 1),(1,Ob [(slE Xdu.1 8 (Xen.map X0))] 1),(2,Ob [(aI .i64 X5q)] 1),(3,Ob [(Lt (X0t.map aB))] 1),(5,Ob [(AV.ref 9 0 (Xbq.length))] 1),(6,Ob [(Lf (Xjn.map X0))] 1),(7,Ob [(AV.fn 107 [(AV.ptr 5 0 0)])] 1),(9,Ob (List.map (X6 true) Xbq) 2)]++opE Xdu.1 8 5 (Xen.map X0)),10⟩ [(rb,MuE.loop rr 70 8 (fr [(1,(AV.ptr 0 0 0)),(2,(AV.ptr 1 0 0)),(3,(AV.ptr 2 0 0)),(4,(AV.ptr 3 0 0)),(6,(AV.ptr 5 0 0)),(26,(AV.fn 148 [(AV.ptr 6 0 0),(AV.ptr 7 0 0)]))])),(rD,MuE.blk (Go.Obj.deferred (some [])))]),
  X7 Tryz.prog 69 8 Q (.loop (X64 0 (X1l Tryz.f148))) [] ⟨fr [(0,(AV.sc (.func (.yield rb) #[] #[]))),(1,(AV.ptr 6 0 0)),(2,(AV.ptr 7 0 0)),(4,(AV.ref 10 0 (X5r.length)))],hp ([(0,Ob [(Lf (Xd.map X0))] 1),(1,Ob [(slE Xo6.1 8 (Xi7.map X0))] 1),(2,Ob [(aI .i64 X5q)] 1),(3,Ob [(Lt (X0t.map aB))] 1),(5,Ob [(AV.ref 9 0 (Xlt.length))] 1),(6,Ob [(Lf (Xjn.map X0))] 1),(7,Ob [(AV.fn 107 [(AV.ptr 5 0 0)])] 1),(9,Ob (List.map (X6 true) Xlt) 2),(10,Ob (List.map (aI .i64) X5r) 1)]++opE Xo6.1 8 5 (Xi7.map X0)),11⟩ [(rb,MuE.loop rr 70 8 (fr [(1,(AV.ptr 0 0 0)),(2,(AV.ptr 1 0 0)),(3,(AV.ptr 2 0 0)),(4,(AV.ptr 3 0 0)),(6,(AV.ptr 5 0 0)),(26,(AV.fn 148 [(AV.ptr 6 0 0),(AV.ptr 7 0 0)]))])),(rD,MuE.blk (Go.Obj.deferred (some [])))]:=by
 intro n
 induction n with
 |zero=>intro Xlt X5r o h C0;cases h
 |succ n ih =>
  intro Xlt X5r o h C0;rw[X03] at h;rcases Xo6 with ⟨_|_,X05z⟩
  ·
   refine X7.round ?_;revert h;refine brI (λh207=>?_) λh207=>λe=>X8 [.el (aI .i64 (X5r.length:Int)),Bf] (k:=wkT [] (C0 _ _  nbF (oj e).symm));refine bI λe208 h209=>?_;try have qh209:=Xq h209
   refine bI λm210 h211=>?_;obtain⟨qah211,qbh211,qch211,qh211⟩:=X2h h211;have qlh211:=X5e h211;refine bI λXd3 h241=>rnI [.el (aI .i64 (X5r.length:Int)),Bt,.el (aI .i64 (X5r.length:Int)),.wrap,.el (aI .i64 e208),.ld (aI .i64 e208),.el (aI .i64 (X5r.length:Int)),.wrap,.via (.ref 10 0 (m210.length))] ?_;intro h;refine X7.joinOp (s':=⟨fr [(0,(AV.sc (.func (.yield rb) #[] #[]))),(1,(AV.ptr 6 0 0)),(2,(AV.ptr 7 0 0)),(4,(AV.ref 10 0 (m210.length))),(5,(aI .i64 e208)),(28,(aB true))],hp ([(0,Ob [(Lf (Xd.map X0))] 1),(1,Ob [(AV.ref 8 0 (Xi7.length))] 1),(2,Ob [(aI .i64 X5q)] 1),(3,Ob [(Lt (X0t.map aB))] 1),(5,Ob [(AV.ref 9 0 (Xd3.length))] 1),(6,Ob [(Lf (Xjn.map X0))] 1),(7,Ob [(AV.fn 107 [(AV.ptr 5 0 0)])] 1),(8,Ob (Xi7.map X0) 5),(9,Ob (List.map (X6 true) Xd3) 2),(10,Ob (List.map (aI .i64) X5r) 1)]),11⟩) ?_ (λJ=>?_)
   ·
    refine X0q [Bf] ?_;refine X7.inline Xf X0ff rfl rfl rfl rfl rfl trivial trivial rfl rfl ?_;revert h;refine bI λe244 h245=>?_;try have qh245:=Xq h245
    refine rnI [.el (X6 true e244),.ld (X6 true e244)] ?_;intro h;refine X7.back (by intro id h;cases h) rfl ?_;revert h;refine brI (λh246=>?_) λh246=>?_
    ·
     refine rnI [Bt] ?_;intro h;refine X7.trunc 10 (List.map (aI .i64) m210) rfl (X2j (f:=(aI .i64)) qh211) ?_;exact wkT [] (ih  _ _ o h C0)
    refine bI λe247 h248=>?_;try have qh248:=Xq h248
    refine bI λv249 h250=>brI (λh251=>?_) λh251=>?_
    ·
     refine bI λu252 h253=>rnI [Bf,.el (X0 e247),.pure _ (AV.tup [(aI .i64 v249.1),(aI .i64 v249.2)]),Bt,.el (X0 e247),.trunc 10 (List.map (aI .i64) m210),.no] (o:=by repeat' first|apply Ya|exact pcM|(simp;done)|(refine X1r h253 rfl ?_;first|(simp<;>omega)|(simp[h207,h246,h251]<;>omega))|(refine X0p h253 (by decide) ?_;first|(simp<;>omega)|(simp[h207,h246,h251]<;>omega))|exact(X2j (f:=(aI .i64)) qh211)|exact X24) ?_;intro h;exact wkT [(10,12)] (ih  _ _ o h C0)
    refine brI (λh254=>?_) λh254=>?_
    ·
     refine rnI [Bf,.el (X0 e247),.pure _ (AV.tup [(aI .i64 v249.1),(aI .i64 v249.2)]),Bf,Bt,.stop 11] ?_;intro h;refine X7.trunc 10 (List.map (aI .i64) m210) rfl (X2j (f:=(aI .i64)) qh211) ?_;revert h;refine bI λu255 h256=>rnI [.el (X0 e247),.el (X0 e247),.no] (o:=by repeat' first|apply Ya|exact pcM|(simp;done)|(refine X1r h256 rfl ?_;first|(simp<;>omega)|(simp[h207,h246,h251,h254]<;>omega))|(refine X0p h256 (by decide) ?_;first|(simp<;>omega)|(simp[h207,h246,h251,h254]<;>omega))|exact X24) ?_;intro h;exact wkT [(10,23)] (ih  _ _ o h C0)
    refine rnI [Bf,.el (X0 e247),.pure _ (AV.tup [(aI .i64 v249.1),(aI .i64 v249.2)]),Bf,Bf] ?_;intro h;refine X7.trunc 10 (List.map (aI .i64) m210) rfl (X2j (f:=(aI .i64)) qh211) ?_;exact wkT [] (ih  _ _ o h C0)
   clear h;revert h241;intro h;refine X7.yield rfl rfl rfl rfl rfl trivial trivial (.head _) rh1 rh2 rh3 rh4 rh5 rfl rfl ?_;refine X0q [] ?_;refine X7.asg ?_;revert h;refine bI λv227 h228=>brI (λh229=>?_) λh229=>?_
   ·
    intro h;cases h
   refine bI λv230 h231=>rnI [.pure _ (AV.tup [(Lt (v227.1.map X0)),(aI .i64 v227.2)]),Bf,.pure _ (AV.tup [(aI .i64 v230.1),(aB v230.2.1),(aI .i64 v230.2.2)])] ?_;refine brI (λh232=>?_) λh232=>?_
   ·
    refine bI λe233 h234=>?_;try have qh234:=Xq h234
    refine bI λe235 h236=>?_;try have qh236:=Xq h236
    refine bI λv237 h238=>bI λe239 h240=>?_;try have qh240:=Xq h240
    intro h;obtain rfl:=oj h;refine X0q [Bt,.el (aB e233),.el (X0 e235),.pure _ (X6 true v237),.el (X6 true e239),.ld (X6 true e239)] ?_;refine X7.rndEnd ?_;exact wkT [] (J)
   intro h;obtain rfl:=oj h;refine X0q [Bf] ?_;refine X7.rndEnd ?_;exact wkT [] (J)
  obtain rfl:=X05z rfl;refine X7.round ?_;revert h;refine brI (λh257=>?_) λh257=>λe=>X8 [.el (aI .i64 (X5r.length:Int)),Bf] (k:=wkT [] (C0 _ _  nbS (oj e).symm));refine bI λe258 h259=>?_;try have qh259:=Xq h259
  refine bI λm260 h261=>?_;obtain⟨qah261,qbh261,qch261,qh261⟩:=X2h h261;have qlh261:=X5e h261;refine bI λX00h h291=>rnI [.el (aI .i64 (X5r.length:Int)),Bt,.el (aI .i64 (X5r.length:Int)),.wrap,.el (aI .i64 e258),.ld (aI .i64 e258),.el (aI .i64 (X5r.length:Int)),.wrap,.via (.ref 10 0 (m260.length))] ?_;intro h;refine X7.joinOp (s':=⟨fr [(0,(AV.sc (.func (.yield rb) #[] #[]))),(1,(AV.ptr 6 0 0)),(2,(AV.ptr 7 0 0)),(4,(AV.ref 10 0 (m260.length))),(5,(aI .i64 e258)),(28,(aB true))],hp ([(0,Ob [(Lf (Xd.map X0))] 1),(1,Ob [AV.nils] 1),(2,Ob [(aI .i64 X5q)] 1),(3,Ob [(Lt (X0t.map aB))] 1),(5,Ob [(AV.ref 9 0 (X00h.length))] 1),(6,Ob [(Lf (Xjn.map X0))] 1),(7,Ob [(AV.fn 107 [(AV.ptr 5 0 0)])] 1),(9,Ob (List.map (X6 true) X00h) 2),(10,Ob (List.map (aI .i64) X5r) 1)]),11⟩) ?_ (λJ=>?_)
  ·
   refine X0q [Bf] ?_;refine X7.inline Xf X0ff rfl rfl rfl rfl rfl trivial trivial rfl rfl ?_;revert h;refine bI λe294 h295=>?_;try have qh295:=Xq h295
   refine rnI [.el (X6 true e294),.ld (X6 true e294)] ?_;intro h;refine X7.back (by intro id h;cases h) rfl ?_;revert h;refine brI (λh296=>?_) λh296=>?_
   ·
    refine rnI [Bt] ?_;intro h;refine X7.trunc 10 (List.map (aI .i64) m260) rfl (X2j (f:=(aI .i64)) qh261) ?_;exact wkT [] (ih  _ _ o h C0)
   refine bI λe297 h298=>?_;try have qh298:=Xq h298
   refine bI λv299 h300=>brI (λh301=>?_) λh301=>?_
   ·
    refine bI λu302 h303=>rnI [Bf,.el (X0 e297),.pure _ (AV.tup [(aI .i64 v299.1),(aI .i64 v299.2)]),Bt,.el (X0 e297),.trunc 10 (List.map (aI .i64) m260),.no] (o:=by repeat' first|apply Ya|exact pcM|(simp;done)|(refine X1r h303 rfl ?_;first|(simp<;>omega)|(simp[h257,h296,h301]<;>omega))|(refine X0p h303 (by decide) ?_;first|(simp<;>omega)|(simp[h257,h296,h301]<;>omega))|exact(X2j (f:=(aI .i64)) qh261)|exact X24) ?_;intro h;exact wkT [(10,12)] (ih  _ _ o h C0)
   refine brI (λh304=>?_) λh304=>?_
   ·
    refine rnI [Bf,.el (X0 e297),.pure _ (AV.tup [(aI .i64 v299.1),(aI .i64 v299.2)]),Bf,Bt,.stop 11] ?_;intro h;refine X7.trunc 10 (List.map (aI .i64) m260) rfl (X2j (f:=(aI .i64)) qh261) ?_;revert h;refine bI λu305 h306=>rnI [.el (X0 e297),.el (X0 e297),.no] (o:=by repeat' first|apply Ya|exact pcM|(simp;done)|(refine X1r h306 rfl ?_;first|(simp<;>omega)|(simp[h257,h296,h301,h304]<;>omega))|(refine X0p h306 (by decide) ?_;first|(simp<;>omega)|(simp[h257,h296,h301,h304]<;>omega))|exact X24) ?_;intro h;exact wkT [(10,23)] (ih  _ _ o h C0)
   refine rnI [Bf,.el (X0 e297),.pure _ (AV.tup [(aI .i64 v299.1),(aI .i64 v299.2)]),Bf,Bf] ?_;intro h;refine X7.trunc 10 (List.map (aI .i64) m260) rfl (X2j (f:=(aI .i64)) qh261) ?_;exact wkT [] (ih  _ _ o h C0)
  clear h;revert h291;intro h;refine X7.yield rfl rfl rfl rfl rfl trivial trivial (.head _) rh1 rh2 rh3 rh4 rh5 rfl rfl ?_;refine X0q [] ?_;refine X7.asg ?_;revert h;refine bI λv277 h278=>brI (λh279=>?_) λh279=>?_
  ·
   intro h;cases h
  refine bI λv280 h281=>rnI [.pure _ (AV.tup [(Lt (v277.1.map X0)),(aI .i64 v277.2)]),Bf,.pure _ (AV.tup [(aI .i64 v280.1),(aB v280.2.1),(aI .i64 v280.2.2)])] ?_;refine brI (λh282=>?_) λh282=>?_
  ·
   refine bI λe283 h284=>?_;try have qh284:=Xq h284
   refine bI λe285 h286=>?_;try have qh286:=Xq h286
   refine bI λv287 h288=>bI λe289 h290=>?_;try have qh290:=Xq h290
   intro h;obtain rfl:=oj h;refine X0q [Bt,.el (aB e283),.el (X0 e285),.pure _ (X6 true v287),.el (X6 true e289),.ld (X6 true e289)] ?_;refine X7.rndEnd ?_;exact wkT [] (J)
  intro h;obtain rfl:=oj h;refine X0q [Bf] ?_;refine X7.rndEnd ?_;exact wkT [] (J)
end Go.Av.Tryz