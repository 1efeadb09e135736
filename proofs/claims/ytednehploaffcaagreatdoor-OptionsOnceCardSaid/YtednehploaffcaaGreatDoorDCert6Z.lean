/- Printed by decomp.py: that the program computes the functions. -/
import Derived.Test.YtednehploaffcaaGreatDoorDCert5Z
set_option linter.all false

namespace Go.Av.Tryz
open Go.Proofs Go.D Go.Proofs.Tryz
set_option maxRecDepth 10000
set_option maxHeartbeats 40000000
theorem Xwz {P:Prop} (h:P:=by repeat' first|apply Ya|exact pcM|(refine X14 h106 rfl ?_;first|(simp<;>omega)|(simp[h3,h109]<;>omega))|(refine X03 h106 (by decide) ?_;first|(simp<;>omega)|(simp[h3,h109]<;>omega))|exact X0y):P:=h
theorem Xo0 {P:Prop} (h:P:=by repeat' first|apply Ya|exact pcM|(have hp:=eq_of_beq h20;simp[hp];done)|(have hp:=eq_of_beq h20;simp at hp ⊢;omega)|(have hp:=eq_of_beq h20;subst hp;decide +kernel)|exact X0y):P:=h
theorem Xkm {P:Prop} (h:P:=by repeat' first|apply Ya|exact pcM|(have hp:=eq_of_beq h62;simp[hp];done)|(have hp:=eq_of_beq h62;simp at hp ⊢;omega)|(have hp:=eq_of_beq h62;subst hp;decide +kernel)|exact X0y):P:=h
theorem Xfh {P:Prop} (h:P:=by repeat' first|apply Ya|exact pcM|(have hp:=eq_of_beq h69;simp[hp];done)|(have hp:=eq_of_beq h69;simp at hp ⊢;omega)|(have hp:=eq_of_beq h69;subst hp;decide +kernel)|exact X0y):P:=h
theorem Xcd {P:Prop} (h:P:=by repeat' first|apply Ya|exact pcM|(simp at qah211 qbh211 qch211 ⊢;omega)|(simp at qah211 qbh211 qch211 qlh211 ⊢;omega)|(simp;done)|exact X0y):P:=h
theorem Xcc {P:Prop} (h:P:=by repeat' first|apply Ya|exact pcM|(simp at qah261 qbh261 qch261 ⊢;omega)|(simp at qah261 qbh261 qch261 qlh261 ⊢;omega)|(simp;done)|exact X0y):P:=h
instance X01n:PZ 140 (∀ (a0:Int) (a1:Int) (a2:Int) (a3:(List (List X1))) (r:(List X1)×Int),X36 a0 a1 a2 a3=some r->Pz 140 [(aI .u8 a0),(aI .i64 a1),(aI .i64 a2),(Lf (List.map (X82 false X0) a3))] (AV.tup [(Lt (r.1.map X0)),(aI .i64 r.2)])):=⟨λa0 a1 a2 a3 r=>by
 unfold X36;refine psI X0f9 94<|bI λv1 h2=>brI (λh3=>λe=>oj e▸X8 [.pure _ (AV.tup [(aI .i64 v1.1),(aI .i64 v1.2)]),.el (aI .i64 (a3.length:Int)),Bt] (k:=fi)) λh3=>bI λu4 h5=>?_;have qh5:=X1b h5;refine bI λo103 h104=>rnI [.pure _ (AV.tup [(aI .i64 v1.1),(aI .i64 v1.2)]),.el (aI .i64 (a3.length:Int)),Bf,.el (aI .i64 (a3.length:Int))] ?_;intro h;refine wkT [] (X9.cut (Xix a3 qh5 a3 0 (by simp) _ _ nbS _ h104 ?_ ?_))
 ·
  intro X0n X0j X10 eo103;subst eo103;refine X9.glue ?_;try dsimp only at h
  rcases X10 with ⟨_|_,X46⟩<;>(try obtain rfl:=X46 rfl);all_goals
   revert h;exact bI λu105 h106=>bI λv107 h108=>brI (λh109=>λe=>oj e▸X8 [.no,.pure _ (aI .i64 v107),Bt] (o:=Xwz) (k:=fi)) λh109=>λe=>oj e▸X8 [.no,.pure _ (aI .i64 v107),Bf] (o:=Xwz) (k:=fi)
 intro X0e Xcs X0g eo103;subst eo103;refine X9.glue ?_;try dsimp only at h
 rcases X0g with ⟨_|_,X45⟩<;>(try obtain rfl:=X45 rfl);all_goals
  revert h;exact λe=>oj e▸X8 [] (k:=fi)⟩
instance X02m:PZ 112 (∀ (a0:Int) (a1:Bool) (a2:Int) (r:Xj),Xbm a0 a1 a2=some r->Pz 112 [(aI .i64 a0),(aB a1),(aI .i64 a2)] (X4 true r)):=⟨λa0 a1 a2 r=>by
 unfold Xbm;refine psI X0fp 56<|brI (λh17=>?_) λh17=>?_
 ·
  refine bI λXq9 h21=>rnI [Bt] ?_;refine jnI ⟨fr [(5,(AV.ptr 0 0 0)),(6,(AV.ptr 1 0 0)),(7,(AV.fn 139 [(AV.ptr 0 0 0)])),(10,(aI .u8 Xq9))],hp ([(0,Ob [(aI .i64 a2)] 1),(1,Ob [(X4 true (Xj.mk ([]:List X1) false))] 2)]),2⟩ h21 (bI λv22 h23=>bI λv24 h25=>λe=>oj e▸X8 [.pure [(aI .i64 0),(AV.elem false ((aI .i64) a2) 0)] (Lt (v22.map X0)),.pure [(aI .i64 0),(AV.elem false ((aI .i64) a2) 0)] (Lt (v22.map X0)),.pure _ (AV.tup [(Lt (v24.1.map X0)),(aI .i64 v24.2)]),.el (aI .i64 (v24.1.length:Int))] (o:=by repeat' first|apply Ya|exact pcM|exact(X3m.lent (Xdm _ _ _ h23) (cc .sc (cc (Xyw rfl rfl) cn)) (X1a (Xr X1e _)))|exact X0y) (k:=fi)) λJ=>?_;refine brI (λh20=>?_) λh20=>?_
  ·
   intro h;obtain rfl:=oj h;refine X1j [Bt] ?_;refine X9.denil 1 [AV.agg [(Lt (List.map X0 ([]:List X1))),(aB false)]] rfl rfl ?_;exact wkT [] (X9.glue J)
  intro h;obtain rfl:=oj h;refine X1j [Bf] ?_;refine X9.denil 1 [AV.agg [(Lt (List.map X0 ([]:List X1))),(aB false)]] rfl rfl ?_;exact wkT [] (X9.glue J)
 refine brI (λh33=>?_) λh33=>brI (λh40=>bI λv41 h42=>bI λv43 h44=>λe=>oj e▸X8 [Bf,Bf,.wrap,Bt,.wrap,.pure [(aI .i64 (IntKind.i64.wrap (0 - a0))),(AV.elem false ((aI .i64) a2) 0)] (Lt (v41.map X0)),.pure _ (AV.tup [(Lt (v43.1.map X0)),(aI .i64 v43.2)]),.el (aI .i64 (v43.1.length:Int))] (o:=by repeat' first|apply Ya|exact pcM|exact(X3m.lent (Xdm _ _ _ h42) (cc .sc (cc (Xyw rfl rfl) cn)) (X1a (Xr X1e _)))|exact X0y) (k:=fi)) λh40=>λe=>oj e▸X8 [Bf,Bf,.wrap,Bf,Gt,Gt,Gt] (k:=fi);refine rnI [Bf,Bt] ?_;intro h;refine X9.inline Xh X0br rfl rfl rfl rfl rfl trivial trivial rfl rfl ?_;refine X1j [] ?_;refine X9.back (by intro id h;cases h) rfl ?_;revert h;exact λe=>oj e▸X8 [Gt,Gt,Gt] (k:=fi)⟩
theorem Xhm {Q:Qt} {μ:Mu} (rec:(List X1)->(List Xj)->Int->Option ((List X1)×Int)) (hrec:∀ (a0:(List X1)) (a1:(List Xj)) (a2:Int) (r:(List X1)×Int) (h:rec a0 a1 a2=some r),Pz 113 [(Lf (a0.map X0)),(Lf (List.map (X4 false) a1)),(aI .i64 a2)] (AV.tup [(Lt (r.1.map X0)),(aI .i64 r.2)])) (X0f:(List X1)) (X3n:(List Xj)) (Xs:X1) (Xd6:Int) (Xra:(List Int)) (hl:Xra.length<=140737488355328):∀ (xs:List Int) (k:Nat) (hx:Xra.drop k=xs) (Xc:(List (List X1))) (X00:Nb Xc) (o:X60) (h:X50 rec X0f X3n Xs Xd6 Xra xs k Xc=some o)
  (C0:∀ (X0j:(List (List X1))) (X10:Nb X0j),o=X60.x0 X0j->Sx 77 Q [(8,(AV.ptr 0 0 0)),(10,(aI .i64 Xd6)),(11,(slE X10.1 1 (List.map (X82 true X0) X0j)))] ([(0,Ob [(X0 Xs)] 5)]++opE X10.1 1 1 (List.map (X82 true X0) X0j)) 2 μ)
  (C1:∀ (X0e:(List X1)) (Xmj:Int) (X0g:Nb X0e),o=X60.x1 X0e Xmj->Sr 77 Q [(6,(slE X0g.1 0 (X0e.map X0))),(7,(aI .i64 Xmj))] ([]++opE X0g.1 0 5 (X0e.map X0)) 1 μ),
  Sl 77 Q f113 [(0,(Lf (X0f.map X0))),(1,(Lf (List.map (X4 false) X3n))),(8,(AV.ptr 0 0 0)),(10,(aI .i64 Xd6)),(11,(slE X00.1 1 (List.map (X82 true X0) Xc))),(43,(Lt (List.map (aI .i64) Xra))),(44,(aI .i64 (Xra.length:Int))),(45,(aI .i64 (k:Int)))] ([(0,Ob [(X0 Xs)] 5)]++opE X00.1 1 1 (List.map (X82 true X0) Xc)) 2 μ:=by
 intro xs
 induction xs with
 |nil =>
  intro k hx Xc X00 o h C0 C1;have hk:=drop_nil hx;have hc:=lpN hx;rw[X50] at h;rcases X00 with ⟨_|_,X12⟩
  ·
   refine X9.round ?_;revert h;exact λe=>X8 [Bf] (k:=wkT [] (C0 _  nbF (oj e).symm))
  ·
   obtain rfl:=X12 rfl;refine X9.round ?_;revert h;exact λe=>X8 [Bf] (k:=wkT [] (C0 _  nbS (oj e).symm))
 |cons x xs ih =>
  intro k hx Xc X00 o h C0 C1;obtain⟨hk,hg,hx1⟩:=drop_cons hx;have hc:=lpC hx;rw[X50] at h;rcases X00 with ⟨_|_,X12⟩<;>(try obtain rfl:=X12 rfl);all_goals
   refine X9.round ?_;revert h;refine bI λv44 h45=>rnI [Bt,.el (aI .i64 x),.pure [(Lf (X0f.map X0)),(Lf (List.map (X4 false) X3n)),(aI .i64 x)] (AV.tup [(Lt (v44.1.map X0)),(aI .i64 v44.2)])] (o:=by repeat' first|apply Ya|exact pcM|exact(pn (hrec _ _ _ _ h45) (cc (X0z (Xr X1e X0f)) (cc (Xb4 (λ_=>rfl) (λx=>X4n X2b) X3n) (cc .sc cn))))|exact X0y) ?_;refine brI (λh46=>λe=>X8 [Bt] (k:=wkT [] (C1 _ _  nbS (oj e).symm))) λh46=>bI λu47 h48=>rnI [Bf,.no] (o:=by repeat' first|apply Ya|exact pcM|(refine X14 h48 rfl ?_;first|(simp<;>omega)|(simp[hc,h46]<;>omega))|(refine X03 h48 (by decide) ?_;first|(simp<;>omega)|(simp[hc,h46]<;>omega))|exact X0y) ?_;intro h;exact wkT [(1,3)] (ih (k+1) hx1 _ nbF o h C0 C1)
theorem Xmc:∀ (n:Nat) (a0:(List X1)) (a1:(List Xj)) (a2:Int) (r:(List X1)×Int) (h:X29 n a0 a1 a2=some r),Pz 113 [(Lf (a0.map X0)),(Lf (List.map (X4 false) a1)),(aI .i64 a2)] (AV.tup [(Lt (r.1.map X0)),(aI .i64 r.2)]):=by
 intro n
 induction n with
 |zero=>intro a0 a1 a2 r h;cases h
 |succ n ih =>
  intro a0 a1 a2 r h;have hrec:=ih;refine X8t.sym Xh X0fo (nt:=77) rfl rfl ?_ (Xg .list (Xg .list (Xg .sc X3d)));rw[X29] at h;revert h;refine bI λe1 h2=>?_;try have qh2:=Xo h2
  refine brI (λh3=>?_) λh3=>?_
  ·
   refine bI λXxj h15=>rnI [.el (X4 false e1),Bt,.el (X4 false e1)] ?_;intro h;refine X9.joinOpF (λ(q:Nb Xxj)=>⟨fr [(26,(slE q.1 0 (Xxj.map X0)))],hp ([]++opE q.1 0 5 (Xxj.map X0)),1⟩) ?_ (λJ=>?_)
   ·
    rintro X01t;rcases X01t with ⟨_|_,X02h⟩<;>(try obtain rfl:=X02h rfl);all_goals
     revert h;exact λe=>oj e▸X8 [] (k:=fi)
   clear h;revert h15;intro h;refine X9.inline Xh fn19 rfl rfl rfl rfl rfl trivial trivial rfl rfl ?_;revert h;refine brI (λq=>?_) λq=>?_
   ·
    intro h;have h10:e1.value=[]:=List.isEmpty_iff.1 q;refine X1j [] ?_;refine X9.eqNil Xh (may:=true) rfl rfl rfl rfl rfl rfl trivial (by simp[X6y, *]) λb11 qb11=>?_;cases b11
    ·
     obtain rfl:=oj h;refine X1j [Bf,.ne false] ?_;refine X9.back (by intro id h;cases h) rfl ?_;exact wkT [] ((J nbS))
    obtain rfl:=oj h;refine X1j [Bt] ?_;refine X9.back (by intro id h;cases h) rfl ?_;exact wkT [] ((J nbS))
   intro h;have h10:¬ (e1.value=[]):=(λe=>by rw[e] at q;cases q);refine X1j [] ?_;refine X9.eqNil Xh (may:=false) rfl rfl rfl rfl rfl rfl trivial (by simp[X6y, *]) λb12 qb12=>?_;obtain rfl:=qb12 rfl;revert h;refine bI λu13 h14=>?_;intro h;obtain rfl:=oj h;refine X1j [Bf,.via (Lt (e1.value.map X0))] (o:=by repeat' first|apply Ya|exact pcM|(refine X14 h14 rfl ?_;first|(simp<;>omega)|(simp[h3,h10]<;>omega))|(refine X03 h14 (by decide) ?_;first|(simp<;>omega)|(simp[h3,h10]<;>omega))|exact X0y) ?_;refine X9.back (by intro id h;cases h) rfl ?_;exact wkT [(0,1)] ((J nbF))
  refine bI λe16 h17=>?_;try have qh17:=Xo h17
  refine bI λv18 h19=>brI (λh20=>?_) λh20=>?_
  ·
   refine bI λu21 h22=>?_;have qh22:=X1b h22;refine bI λo54 h55=>rnI [.el (X4 false e1),Bf,.el (X0 e16),.pure _ (AV.tup [(aI .i64 v18.1),(aI .i64 v18.2)]),.ne false,.el (aI .i64 (List.length ([]:List Int):Int))] (o:=Xo0) ?_;intro h;refine wkT [] (X9.cut (Xhm (X29 n) hrec a0 a1 e16 v18.2 [] qh22 [] 0 (by simp) _ nbS _ h55 ?_ ?_))
   ·
    intro X0j X10 eo54;subst eo54;refine X9.glue ?_;try dsimp only at h
    rcases X10 with ⟨_|_,X46⟩<;>(try obtain rfl:=X46 rfl);all_goals
     revert h;exact brI (λh56=>λe=>oj e▸X8 [Bt] (o:=Xo0) (k:=fi)) λh56=>bI λv57 h58=>λe=>oj e▸X8 [Bf,.pure _ (AV.tup [(Lt (v57.1.map X0)),(aI .i64 v57.2)])] (o:=Xo0) (k:=fi)
   intro X0e Xmj X0g eo54;subst eo54;refine X9.glue ?_;try dsimp only at h
   rcases X0g with ⟨_|_,X45⟩<;>(try obtain rfl:=X45 rfl);all_goals
    revert h;exact λe=>oj e▸X8 [] (o:=Xo0) (k:=fi)
  refine brI (λh62=>?_) λh62=>?_
  ·
   refine rnI [.el (X4 false e1),Bf,.el (X0 e16),.pure _ (AV.tup [(aI .i64 v18.1),(aI .i64 v18.2)])] (o:=Xkm) ?_;refine rdI<|bI λv63 h64=>rnI [Bt,.el ((aI .i64 e16.A)),.pure [(Lf (a0.map X0)),(Lf (List.map (X4 false) a1)),(aI .i64 e16.A)] (AV.tup [(Lt (v63.1.map X0)),(aI .i64 v63.2)])] (o:=by repeat' first|apply Ya|exact pcM|(have hp:=eq_of_beq h62;simp[hp];done)|(have hp:=eq_of_beq h62;simp at hp ⊢;omega)|(have hp:=eq_of_beq h62;subst hp;decide +kernel)|exact(pn (hrec _ _ _ _ h64) (cc (X0z (Xr X1e a0)) (cc (Xb4 (λ_=>rfl) (λx=>X4n X2b) a1) (cc .sc cn))))|exact X0y) ?_;refine brI (λh65=>λe=>oj e▸X8 [Bt] (o:=Xkm) (k:=fi)) λh65=>rnI [Bf,.no] (o:=Xkm) ?_;exact rdI<|brI (λh66=>λe=>oj e▸X8 [Bf,Bt] (o:=Xkm) (k:=fi)) λh66=>bI λv67 h68=>λe=>oj e▸X8 [Bf,Bf,.pure _ (AV.tup [(Lt (v67.1.map X0)),(aI .i64 v67.2)])] (o:=Xkm) (k:=fi)
  refine brI (λh69=>?_) λh69=>?_
  ·
   refine rnI [.el (X4 false e1),Bf,.el (X0 e16),.pure _ (AV.tup [(aI .i64 v18.1),(aI .i64 v18.2)])] (o:=Xfh) ?_;refine rdI<|bI λv70 h71=>rnI [Bt,.el ((aI .i64 e16.A)),.pure [(Lf (a0.map X0)),(Lf (List.map (X4 false) a1)),(aI .i64 e16.A)] (AV.tup [(Lt (v70.1.map X0)),(aI .i64 v70.2)])] (o:=by repeat' first|apply Ya|exact pcM|(have hp:=eq_of_beq h69;simp[hp];done)|(have hp:=eq_of_beq h69;simp at hp ⊢;omega)|(have hp:=eq_of_beq h69;subst hp;decide +kernel)|exact(pn (hrec _ _ _ _ h71) (cc (X0z (Xr X1e a0)) (cc (Xb4 (λ_=>rfl) (λx=>X4n X2b) a1) (cc .sc cn))))|exact X0y) ?_;refine brI (λh72=>λe=>oj e▸X8 [Bt] (o:=Xfh) (k:=fi)) λh72=>rnI [Bf,.no] (o:=Xfh) ?_;refine rdI<|bI λv73 h74=>rnI [Bt,.el ((aI .i64 e16.B)),.pure [(Lf (a0.map X0)),(Lf (List.map (X4 false) a1)),(aI .i64 e16.B)] (AV.tup [(Lt (v73.1.map X0)),(aI .i64 v73.2)])] (o:=by repeat' first|apply Ya|exact pcM|(have hp:=eq_of_beq h69;simp[hp];done)|(have hp:=eq_of_beq h69;simp at hp ⊢;omega)|(have hp:=eq_of_beq h69;subst hp;decide +kernel)|exact(pn (hrec _ _ _ _ h74) (cc (X0z (Xr X1e a0)) (cc (Xb4 (λ_=>rfl) (λx=>X4n X2b) a1) (cc .sc cn))))|exact X0y) ?_;refine brI (λh75=>λe=>oj e▸X8 [Bt] (o:=Xfh) (k:=fi)) λh75=>rnI [Bf,.no] (o:=Xfh) ?_;exact rdI<|brI (λh76=>λe=>oj e▸X8 [Bf,Bt] (o:=Xfh) (k:=fi)) λh76=>bI λv77 h78=>λe=>oj e▸X8 [Bf,Bf,.pure _ (AV.tup [(Lt (v77.1.map X0)),(aI .i64 v77.2)])] (o:=Xfh) (k:=fi)
  intro h;cases h
theorem Xfm {Q:Xp->St->Mu->Prop}  {rb rD:Nat} {rr:Loop} (rh1:rr.state=.ready) (rh2:rr.pending=none) (rh3:rr.params=(rfB 0 (X1g Tryz.f85)).1) (rh4:rr.assign=(rfB 0 (X1g Tryz.f85)).2.1) (rh5:rr.body=(rfB 0 (X1g Tryz.f85)).2.2) (Xs:(List X1)) (Xic:(List X1)) (X40:Int) (X6i:(List Bool)) (X63:(List X1)) (Xo3:Nb Xic):∀ (n:Nat) (Xlq:(List Xj)) (X5r:(List Int)) (o:X72) (h:X01 Xs Xic X40 X6i X63 n Xlq X5r=some o)
  (C0:∀ (Xez:(List X1)) (Xbu:(List Xj)) (Xe4:Nb Xez),o=X72.x0 Xez Xbu->X9 Tryz.prog 69 8 Q (.exit (.exit 0)) [] ⟨fr [],hp ([(0,Ob [(Lf (Xs.map X0))] 1),(1,Ob [(slE Xe4.1 8 (Xez.map X0))] 1),(2,Ob [(aI .i64 X40)] 1),(3,Ob [(Lt (X6i.map aB))] 1),(5,Ob [(AV.ref 9 0 (Xbu.length))] 1),(6,Ob [(Lf (X63.map X0))] 1),(7,Ob [(AV.fn 110 [(AV.ptr 5 0 0)])] 1),(9,Ob (List.map (X4 true) Xbu) 2)]++opE Xe4.1 8 5 (Xez.map X0)),10⟩ [(rb,MuE.loop rr 70 8 (fr [(1,(AV.ptr 0 0 0)),(2,(AV.ptr 1 0 0)),(3,(AV.ptr 2 0 0)),(4,(AV.ptr 3 0 0)),(6,(AV.ptr 5 0 0)),(26,(AV.fn 135 [(AV.ptr 6 0 0),(AV.ptr 7 0 0)]))])),(rD,MuE.blk (Go.Obj.deferred (some [])))]),
  X9 Tryz.prog 69 8 Q (.loop (X3l 0 (X1g Tryz.f135))) [] ⟨fr [(0,(AV.sc (.func (.yield rb) #[] #[]))),(1,(AV.ptr 6 0 0)),(2,(AV.ptr 7 0 0)),(4,(AV.ref 10 0 (X5r.length)))],hp ([(0,Ob [(Lf (Xs.map X0))] 1),(1,Ob [(slE Xo3.1 8 (Xic.map X0))] 1),(2,Ob [(aI .i64 X40)] 1),(3,Ob [(Lt (X6i.map aB))] 1),(5,Ob [(AV.ref 9 0 (Xlq.length))] 1),(6,Ob [(Lf (X63.map X0))] 1),(7,Ob [(AV.fn 110 [(AV.ptr 5 0 0)])] 1),(9,Ob (List.map (X4 true) Xlq) 2),(10,Ob (List.map (aI .i64) X5r) 1)]++opE Xo3.1 8 5 (Xic.map X0)),11⟩ [(rb,MuE.loop rr 70 8 (fr [(1,(AV.ptr 0 0 0)),(2,(AV.ptr 1 0 0)),(3,(AV.ptr 2 0 0)),(4,(AV.ptr 3 0 0)),(6,(AV.ptr 5 0 0)),(26,(AV.fn 135 [(AV.ptr 6 0 0),(AV.ptr 7 0 0)]))])),(rD,MuE.blk (Go.Obj.deferred (some [])))]:=by
 intro n
 induction n with
 |zero=>intro Xlq X5r o h C0;cases h
 |succ n ih =>
  intro Xlq X5r o h C0;rw[X01] at h;rcases Xo3 with ⟨_|_,X02f⟩
  ·
   refine X9.round ?_;revert h;refine brI (λh207=>?_) λh207=>λe=>X8 [.el (aI .i64 (X5r.length:Int)),Bf] (k:=wkT [] (C0 _ _  nbF (oj e).symm));refine bI λe208 h209=>?_;try have qh209:=Xo h209
   refine bI λm210 h211=>?_;obtain⟨qah211,qbh211,qch211,qh211⟩:=X42 h211;have qlh211:=X7l h211;refine bI λXdg h241=>rnI [.el (aI .i64 (X5r.length:Int)),Bt,.el (aI .i64 (X5r.length:Int)),.wrap,.el (aI .i64 e208),.ld (aI .i64 e208),.el (aI .i64 (X5r.length:Int)),.wrap,.via (.ref 10 0 (m210.length))] (o:=Xcd) ?_;intro h;refine X9.joinOp (s':=⟨fr [(0,(AV.sc (.func (.yield rb) #[] #[]))),(1,(AV.ptr 6 0 0)),(2,(AV.ptr 7 0 0)),(4,(AV.ref 10 0 (m210.length))),(5,(aI .i64 e208)),(28,(aB true))],hp ([(0,Ob [(Lf (Xs.map X0))] 1),(1,Ob [(AV.ref 8 0 (Xic.length))] 1),(2,Ob [(aI .i64 X40)] 1),(3,Ob [(Lt (X6i.map aB))] 1),(5,Ob [(AV.ref 9 0 (Xdg.length))] 1),(6,Ob [(Lf (X63.map X0))] 1),(7,Ob [(AV.fn 110 [(AV.ptr 5 0 0)])] 1),(8,Ob (Xic.map X0) 5),(9,Ob (List.map (X4 true) Xdg) 2),(10,Ob (List.map (aI .i64) X5r) 1)]),11⟩) ?_ (λJ=>?_)
   ·
    refine X1j [Bf] (o:=Xcd) ?_;refine X9.inline Xh X0bs rfl rfl rfl rfl rfl trivial trivial rfl rfl ?_;revert h;refine bI λe244 h245=>?_;try have qh245:=Xo h245
    refine rnI [.el (X4 true e244),.ld (X4 true e244)] (o:=Xcd) ?_;intro h;refine X9.back (by intro id h;cases h) rfl ?_;revert h;refine brI (λh246=>?_) λh246=>?_
    ·
     refine rnI [Bt] (o:=Xcd) ?_;intro h;refine X9.trunc 10 (List.map (aI .i64) m210) rfl (X2q (f:=(aI .i64)) qh211) ?_;exact wkT [] (ih  _ _ o h C0)
    refine bI λe247 h248=>?_;try have qh248:=Xo h248
    refine bI λv249 h250=>brI (λh251=>?_) λh251=>?_
    ·
     refine bI λu252 h253=>rnI [Bf,.el (X0 e247),.pure _ (AV.tup [(aI .i64 v249.1),(aI .i64 v249.2)]),Bt,.el (X0 e247),.trunc 10 (List.map (aI .i64) m210),.no] (o:=by repeat' first|apply Ya|exact pcM|(simp at qah211 qbh211 qch211 ⊢;omega)|(simp at qah211 qbh211 qch211 qlh211 ⊢;omega)|(simp;done)|(refine X14 h253 rfl ?_;first|(simp<;>omega)|(simp[h207,h246,h251]<;>omega))|(refine X03 h253 (by decide) ?_;first|(simp<;>omega)|(simp[h207,h246,h251]<;>omega))|exact(X2q (f:=(aI .i64)) qh211)|exact X0y) ?_;intro h;exact wkT [(10,12)] (ih  _ _ o h C0)
    refine brI (λh254=>?_) λh254=>?_
    ·
     refine rnI [Bf,.el (X0 e247),.pure _ (AV.tup [(aI .i64 v249.1),(aI .i64 v249.2)]),Bf,Bt,.stop 11] (o:=Xcd) ?_;intro h;refine X9.trunc 10 (List.map (aI .i64) m210) rfl (X2q (f:=(aI .i64)) qh211) ?_;revert h;refine bI λu255 h256=>rnI [.el (X0 e247),.el (X0 e247),.no] (o:=by repeat' first|apply Ya|exact pcM|(simp at qah211 qbh211 qch211 ⊢;omega)|(simp at qah211 qbh211 qch211 qlh211 ⊢;omega)|(simp;done)|(refine X14 h256 rfl ?_;first|(simp<;>omega)|(simp[h207,h246,h251,h254]<;>omega))|(refine X03 h256 (by decide) ?_;first|(simp<;>omega)|(simp[h207,h246,h251,h254]<;>omega))|exact X0y) ?_;intro h;exact wkT [(10,23)] (ih  _ _ o h C0)
    refine rnI [Bf,.el (X0 e247),.pure _ (AV.tup [(aI .i64 v249.1),(aI .i64 v249.2)]),Bf,Bf] (o:=Xcd) ?_;intro h;refine X9.trunc 10 (List.map (aI .i64) m210) rfl (X2q (f:=(aI .i64)) qh211) ?_;exact wkT [] (ih  _ _ o h C0)
   clear h;revert h241;intro h;refine X9.yield rfl rfl rfl rfl rfl trivial trivial (.head _) rh1 rh2 rh3 rh4 rh5 rfl rfl ?_;refine X1j [] (o:=Xcd) ?_;refine X9.asg ?_;revert h;refine bI λv227 h228=>brI (λh229=>?_) λh229=>?_
   ·
    intro h;cases h
   refine bI λv230 h231=>rnI [.pure _ (AV.tup [(Lt (v227.1.map X0)),(aI .i64 v227.2)]),Bf,.pure _ (AV.tup [(aI .i64 v230.1),(aB v230.2.1),(aI .i64 v230.2.2)])] (o:=Xcd) ?_;refine brI (λh232=>?_) λh232=>?_
   ·
    refine bI λe233 h234=>?_;try have qh234:=Xo h234
    refine bI λe235 h236=>?_;try have qh236:=Xo h236
    refine bI λv237 h238=>bI λe239 h240=>?_;try have qh240:=Xo h240
    intro h;obtain rfl:=oj h;refine X1j [Bt,.el (aB e233),.el (X0 e235),.pure _ (X4 true v237),.el (X4 true e239),.ld (X4 true e239)] (o:=by repeat' first|apply Ya|exact pcM|(simp at qah211 qbh211 qch211 ⊢;omega)|(simp at qah211 qbh211 qch211 qlh211 ⊢;omega)|(simp;done)|exact(List.getElem?_set_self (by have hq:=X80 h240;simp;omega)).trans rfl|exact X0y) ?_;refine X9.rndEnd ?_;exact wkT [] (J)
   intro h;obtain rfl:=oj h;refine X1j [Bf] (o:=Xcd) ?_;refine X9.rndEnd ?_;exact wkT [] (J)
  obtain rfl:=X02f rfl;refine X9.round ?_;revert h;refine brI (λh257=>?_) λh257=>λe=>X8 [.el (aI .i64 (X5r.length:Int)),Bf] (k:=wkT [] (C0 _ _  nbS (oj e).symm));refine bI λe258 h259=>?_;try have qh259:=Xo h259
  refine bI λm260 h261=>?_;obtain⟨qah261,qbh261,qch261,qh261⟩:=X42 h261;have qlh261:=X7l h261;refine bI λXxm h291=>rnI [.el (aI .i64 (X5r.length:Int)),Bt,.el (aI .i64 (X5r.length:Int)),.wrap,.el (aI .i64 e258),.ld (aI .i64 e258),.el (aI .i64 (X5r.length:Int)),.wrap,.via (.ref 10 0 (m260.length))] (o:=Xcc) ?_;intro h;refine X9.joinOp (s':=⟨fr [(0,(AV.sc (.func (.yield rb) #[] #[]))),(1,(AV.ptr 6 0 0)),(2,(AV.ptr 7 0 0)),(4,(AV.ref 10 0 (m260.length))),(5,(aI .i64 e258)),(28,(aB true))],hp ([(0,Ob [(Lf (Xs.map X0))] 1),(1,Ob [AV.nils] 1),(2,Ob [(aI .i64 X40)] 1),(3,Ob [(Lt (X6i.map aB))] 1),(5,Ob [(AV.ref 9 0 (Xxm.length))] 1),(6,Ob [(Lf (X63.map X0))] 1),(7,Ob [(AV.fn 110 [(AV.ptr 5 0 0)])] 1),(9,Ob (List.map (X4 true) Xxm) 2),(10,Ob (List.map (aI .i64) X5r) 1)]),11⟩) ?_ (λJ=>?_)
  ·
   refine X1j [Bf] (o:=Xcc) ?_;refine X9.inline Xh X0bs rfl rfl rfl rfl rfl trivial trivial rfl rfl ?_;revert h;refine bI λe294 h295=>?_;try have qh295:=Xo h295
   refine rnI [.el (X4 true e294),.ld (X4 true e294)] (o:=Xcc) ?_;intro h;refine X9.back (by intro id h;cases h) rfl ?_;revert h;refine brI (λh296=>?_) λh296=>?_
   ·
    refine rnI [Bt] (o:=Xcc) ?_;intro h;refine X9.trunc 10 (List.map (aI .i64) m260) rfl (X2q (f:=(aI .i64)) qh261) ?_;exact wkT [] (ih  _ _ o h C0)
   refine bI λe297 h298=>?_;try have qh298:=Xo h298
   refine bI λv299 h300=>brI (λh301=>?_) λh301=>?_
   ·
    refine bI λu302 h303=>rnI [Bf,.el (X0 e297),.pure _ (AV.tup [(aI .i64 v299.1),(aI .i64 v299.2)]),Bt,.el (X0 e297),.trunc 10 (List.map (aI .i64) m260),.no] (o:=by repeat' first|apply Ya|exact pcM|(simp at qah261 qbh261 qch261 ⊢;omega)|(simp at qah261 qbh261 qch261 qlh261 ⊢;omega)|(simp;done)|(refine X14 h303 rfl ?_;first|(simp<;>omega)|(simp[h257,h296,h301]<;>omega))|(refine X03 h303 (by decide) ?_;first|(simp<;>omega)|(simp[h257,h296,h301]<;>omega))|exact(X2q (f:=(aI .i64)) qh261)|exact X0y) ?_;intro h;exact wkT [(10,12)] (ih  _ _ o h C0)
   refine brI (λh304=>?_) λh304=>?_
   ·
    refine rnI [Bf,.el (X0 e297),.pure _ (AV.tup [(aI .i64 v299.1),(aI .i64 v299.2)]),Bf,Bt,.stop 11] (o:=Xcc) ?_;intro h;refine X9.trunc 10 (List.map (aI .i64) m260) rfl (X2q (f:=(aI .i64)) qh261) ?_;revert h;refine bI λu305 h306=>rnI [.el (X0 e297),.el (X0 e297),.no] (o:=by repeat' first|apply Ya|exact pcM|(simp at qah261 qbh261 qch261 ⊢;omega)|(simp at qah261 qbh261 qch261 qlh261 ⊢;omega)|(simp;done)|(refine X14 h306 rfl ?_;first|(simp<;>omega)|(simp[h257,h296,h301,h304]<;>omega))|(refine X03 h306 (by decide) ?_;first|(simp<;>omega)|(simp[h257,h296,h301,h304]<;>omega))|exact X0y) ?_;intro h;exact wkT [(10,23)] (ih  _ _ o h C0)
   refine rnI [Bf,.el (X0 e297),.pure _ (AV.tup [(aI .i64 v299.1),(aI .i64 v299.2)]),Bf,Bf] (o:=Xcc) ?_;intro h;refine X9.trunc 10 (List.map (aI .i64) m260) rfl (X2q (f:=(aI .i64)) qh261) ?_;exact wkT [] (ih  _ _ o h C0)
  clear h;revert h291;intro h;refine X9.yield rfl rfl rfl rfl rfl trivial trivial (.head _) rh1 rh2 rh3 rh4 rh5 rfl rfl ?_;refine X1j [] (o:=Xcc) ?_;refine X9.asg ?_;revert h;refine bI λv277 h278=>brI (λh279=>?_) λh279=>?_
  ·
   intro h;cases h
  refine bI λv280 h281=>rnI [.pure _ (AV.tup [(Lt (v277.1.map X0)),(aI .i64 v277.2)]),Bf,.pure _ (AV.tup [(aI .i64 v280.1),(aB v280.2.1),(aI .i64 v280.2.2)])] (o:=Xcc) ?_;refine brI (λh282=>?_) λh282=>?_
  ·
   refine bI λe283 h284=>?_;try have qh284:=Xo h284
   refine bI λe285 h286=>?_;try have qh286:=Xo h286
   refine bI λv287 h288=>bI λe289 h290=>?_;try have qh290:=Xo h290
   intro h;obtain rfl:=oj h;refine X1j [Bt,.el (aB e283),.el (X0 e285),.pure _ (X4 true v287),.el (X4 true e289),.ld (X4 true e289)] (o:=by repeat' first|apply Ya|exact pcM|(simp at qah261 qbh261 qch261 ⊢;omega)|(simp at qah261 qbh261 qch261 qlh261 ⊢;omega)|(simp;done)|exact(List.getElem?_set_self (by have hq:=X80 h290;simp;omega)).trans rfl|exact X0y) ?_;refine X9.rndEnd ?_;exact wkT [] (J)
  intro h;obtain rfl:=oj h;refine X1j [Bf] (o:=Xcc) ?_;refine X9.rndEnd ?_;exact wkT [] (J)
end Go.Av.Tryz