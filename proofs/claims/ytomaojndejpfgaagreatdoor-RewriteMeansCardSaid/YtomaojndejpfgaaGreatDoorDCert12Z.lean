/- Printed by decomp.py: that the program computes the functions. -/
import Derived.Test.YtomaojndejpfgaaGreatDoorAliveA
import Derived.Test.YtomaojndejpfgaaGreatDoorDCert11Z
set_option linter.all false

namespace Go.Av.Tryz
open Go.Proofs Go.D Go.Proofs.Tryz
set_option maxRecDepth 10000
set_option maxHeartbeats 40000000
instance X03t:PZ 4 (∀ (r:Bool),Xf1=some r->Pz 4 [] (aB r)):=⟨λr h=>by
 obtain rfl:=oj h;exact X0g7⟩
instance X067:PZ 70 (∀ (a0:(List X4)) (r:(List X4)×Int),X3w a0=some r->Pz 70 [(Lf (a0.map X0))] (AV.tup [(Lt (r.1.map X0)),(aI .i64 r.2)])):=⟨λa0 r=>by
 unfold X3w;refine psI fn70 70<|bI λv1 h2=>brI (λh3=>λe=>oj e▸X8 [.pure _ (AV.tup [(Lt (v1.1.map aB)),(aI .i64 v1.2)]),Bt] (k:=fi)) λh3=>bI λu4 h5=>?_;have qh5:=Xzz h5;refine rnI [.pure _ (AV.tup [(Lt (v1.1.map aB)),(aI .i64 v1.2)]),Bf,.el (aI .i64 (a0.length:Int))] (o:=by repeat' first|apply Ya|exact pcM|exact(Int.le_trans qh5.2.2 (by decide))|exact om|exact X24) ?_;intro h;refine X7.inline Xf X0jj rfl rfl rfl rfl rfl trivial trivial rfl rfl ?_;refine X0q [] ?_;refine X7.back (by intro id h;cases h) rfl ?_;refine X0q [] ?_;refine X7.denil 4 (List.map (X6 true) (List.replicate (Int.toNat (a0.length:Int)) (Xj.mk ([]:List X4) false))) rfl (by rw[List.map_replicate,List.map_replicate];rfl) ?_;refine X7.keepL [1,2,3,4,6,26] ?_;refine X7.rangeFunc rfl trivial X0j0 rfl rfl rfl ?_;intro rb rD rr rh1 rh2 rh3 rh4 rh5;revert h;refine bI λo307 h308=>rnI [.el (aI .i64 (a0.length:Int)),.wrap] ?_;intro h;refine wkT [(9,4),(10,8)] (X7.cut (Xf3 rh1 rh2 rh3 rh4 rh5 a0 ([]:List X4) 0 v1.1 a0 nbS _ _ _ _ h308 ?_));intro Xen Xbq Xdu eo307;subst eo307;refine X7.glue ?_;try dsimp only at h
 rcases Xdu with ⟨_|_,Xwy⟩<;>(try obtain rfl:=Xwy rfl);all_goals
  refine X0q [] ?_;refine X7.rfEnd (by intro id h;cases h) ?_;revert h;exact bI λv309 h310=>λe=>oj e▸X8 [.el (aI .i64 (a0.length:Int)),.wrap,.pure [(Lf (a0.map X0)),(Lf (List.map (X6 false) Xbq)),(aI .i64 (IntKind.i64.wrap ((a0.length:Int) - 1)))] (AV.tup [(Lt (v309.1.map X0)),(aI .i64 v309.2)])] (o:=by repeat' first|apply Ya|exact pcM|exact(X4e.lent (Xmf FU _ _ _ _ h310) (cc (X58 (X1s X2a a0)) (cc (X01w (f:=(X6 true)) (g:=(X6 false)) (l:=Xbq) rfl (by first|rfl|(simp;done)|(simp;rfl)|(simp[h3];done)|(simp[h3];rfl)) (by first|rfl|(simp;done)|(simp;omega)|(simp[h3];done)|(simp[h3];omega)) (λ_=>rfl) (λx=>X8w X1y)) (cc (X085 (by first|rfl|(simp[*];done))) cn))) (Xuj (X14 (Xft (X1s X2a _)) (X14 .sc X74))))|exact X24) (k:=fi)⟩
instance X03w:PZ 39 (∀ (a0:Xb) (r:Xb×Int),X7u a0=some r->Pz 39 [(Xc false a0)] (AV.tup [(Xc false r.1),(aI .i64 r.2)])):=⟨λa0 r=>by
 unfold X7u;refine psI fn39 52<|bI λv1 h2=>brI (λh3=>λe=>oj e▸X8 [.pure _ (AV.tup [(aI .i64 v1.1),(aI .i64 v1.2)]),Bt] (k:=fi)) λh3=>bI λXqk h15=>rnI [.pure _ (AV.tup [(aI .i64 v1.1),(aI .i64 v1.2)]),Bf] ?_;intro h;refine X7.joinOpF (λ(q:Nb Xqk)=>⟨fr [(1,(AV.ptr 0 0 0)),(2,(AV.ptr 1 0 0)),(21,(slE q.1 2 (List.map (aI .i64) Xqk)))],hp ([(0,Ob [(Xc false a0)] 10),(1,Ob [(Xc true (Xb.mk 0 ([]:List X4) ([]:List Int) false ([]:List X4) (Xn.mk 0 0 0) false 0))] 10)]++opE q.1 2 1 (List.map (aI .i64) Xqk)),3⟩) ?_ (λJ=>?_)
 ·
  rintro X052;rcases X052 with ⟨_|_,X060⟩<;>(try obtain rfl:=X060 rfl);all_goals
   refine X0q [] ?_;refine X7.round ?_;revert h;refine brI (λh16=>?_) λh16=>?_
   ·
    refine rnI [Bt,.el ((AV.ptr 0 0 1)),.el (aI .i64 (a0.Arg.length:Int)),Bt] ?_;refine rdI<|brI (λh17=>?_) λh17=>?_
    ·
     refine rnI [Bt,.el ((AV.ptr 0 0 4)),.el (aI .i64 (a0.Where.length:Int)),Bt] ?_;exact rdI<|λe=>oj e▸X8 [Bf] (k:=fi)
    refine bI λv18 h19=>rnI [Bt,.el ((AV.ptr 0 0 4)),.el (aI .i64 (a0.Where.length:Int)),Bf,.pure _ (AV.tup [(Lt (v18.1.map X0)),(aI .i64 v18.2)])] ?_;refine brI (λh20=>λe=>oj e▸X8 [Bt] (k:=fi)) λh20=>rnI [Bf] ?_;exact rdI<|λe=>oj e▸X8 [Bf] (k:=fi)
   refine bI λv21 h22=>rnI [Bt,.el ((AV.ptr 0 0 1)),.el (aI .i64 (a0.Arg.length:Int)),Bf,.pure _ (AV.tup [(Lt (v21.1.map X0)),(aI .i64 v21.2)])] ?_;refine brI (λh23=>λe=>oj e▸X8 [Bt] (k:=fi)) λh23=>rnI [Bf] ?_;refine rdI<|brI (λh24=>?_) λh24=>?_
   ·
    refine rnI [Bt,.el ((AV.ptr 0 0 4)),.el (aI .i64 (a0.Where.length:Int)),Bt] ?_;exact rdI<|λe=>oj e▸X8 [Bf] (k:=fi)
   refine bI λv25 h26=>rnI [Bt,.el ((AV.ptr 0 0 4)),.el (aI .i64 (a0.Where.length:Int)),Bf,.pure _ (AV.tup [(Lt (v25.1.map X0)),(aI .i64 v25.2)])] ?_;refine brI (λh27=>λe=>oj e▸X8 [Bt] (k:=fi)) λh27=>rnI [Bf] ?_;exact rdI<|λe=>oj e▸X8 [Bf] (k:=fi)
 clear h;revert h15;intro h;refine X7.inline Xf fn69 rfl rfl rfl rfl rfl trivial trivial rfl rfl ?_;revert h;refine brI (λq=>?_) λq=>?_
 ·
  intro h;have h10:a0.Sources=[]:=List.isEmpty_iff.1 q;refine X0q [] ?_;refine X7.eqNil Xf (may:=true) rfl rfl rfl rfl rfl rfl trivial (by simp[X6n, *]) λb11 qb11=>?_;cases b11
  ·
   obtain rfl:=oj h;refine X0q [Bf,.ne false] ?_;refine X7.back (by intro id h;cases h) rfl ?_;refine X7.denil 1 [AV.agg [(aI .u8 0),(Lt (List.map X0 ([]:List X4))),(Lt (List.map (aI .i64) ([]:List Int))),(aB false),(Lt (List.map X0 ([]:List X4))),(aI .u8 0),(aI .i64 0),(aI .i64 0),(aB false),(aI .u8 0)]] rfl rfl ?_;exact wkT [] ((J nbS))
  obtain rfl:=oj h;refine X0q [Bt] ?_;refine X7.back (by intro id h;cases h) rfl ?_;refine X7.denil 1 [AV.agg [(aI .u8 0),(Lt (List.map X0 ([]:List X4))),(Lt (List.map (aI .i64) ([]:List Int))),(aB false),(Lt (List.map X0 ([]:List X4))),(aI .u8 0),(aI .i64 0),(aI .i64 0),(aB false),(aI .u8 0)]] rfl rfl ?_;exact wkT [] ((J nbS))
 intro h;have h10:¬ (a0.Sources=[]):=(λe=>by rw[e] at q;cases q);refine X0q [] ?_;refine X7.eqNil Xf (may:=false) rfl rfl rfl rfl rfl rfl trivial (by simp[X6n, *]) λb12 qb12=>?_;obtain rfl:=qb12 rfl;revert h;refine bI λu13 h14=>?_;intro h;obtain rfl:=oj h;refine X0q [Bf,.via (Lt (List.map (aI .i64) a0.Sources))] (o:=by repeat' first|apply Ya|exact pcM|(refine X1r h14 rfl ?_;first|(simp<;>omega)|(simp[h3,h10]<;>omega))|(refine X0p h14 (by decide) ?_;first|(simp<;>omega)|(simp[h3,h10]<;>omega))|exact X24) ?_;refine X7.back (by intro id h;cases h) rfl ?_;refine X7.denil 1 [AV.agg [(aI .u8 0),(Lt (List.map X0 ([]:List X4))),(Lt (List.map (aI .i64) ([]:List Int))),(aB false),(Lt (List.map X0 ([]:List X4))),(aI .u8 0),(aI .i64 0),(aI .i64 0),(aB false),(aI .u8 0)]] rfl rfl ?_;exact wkT [(2,3)] ((J nbF))⟩
instance Xz5:PZ 20 (∀ (a0:Xb) (a1:Int) (r:Xb×Int),X88 a0 a1=some r->Pz 20 [(Xc false a0),(aI .i64 a1)] (AV.tup [(Xc false r.1),(aI .i64 r.2)])):=⟨λa0 a1 r=>by
 unfold X88;refine psI fn20 62<|bI λv1 h2=>brI (λh3=>bI λv4 h5=>λe=>oj e▸X8 [.pure _ (Xc true v1),Bt,.pure _ (AV.tup [(Xc false v4.1),(aI .i64 v4.2)])] (k:=fi)) λh3=>?_;refine brI (λh6=>?_) λh6=>?_
 ·
  refine brI (λh7=>λe=>oj e▸X8 [.pure _ (Xc true v1),Bf,Bt,.el (aI .i64 (a0.Where.length:Int)),Bt] (k:=fi)) λh7=>bI λv8 h9=>rnI [.pure _ (Xc true v1),Bf,Bt,.el (aI .i64 (a0.Where.length:Int)),Bf,.pure _ (AV.tup [(aI .i64 v8.1),(aB v8.2.1),(aI .i64 v8.2.2)])] ?_;refine brI (λh10=>λe=>oj e▸X8 [Bt] (k:=fi)) λh10=>bI λXg4 h14=>rnI [Bf] ?_;refine jnI ⟨fr [(4,(AV.ptr 0 0 0)),(6,(AV.ptr 1 0 0))],hp ([(0,Ob [(Xc true (Xb.mk 0 ([]:List X4) ([]:List Int) false ([]:List X4) (Xn.mk 0 0 0) false 0))] 10),(1,Ob [(Xc true Xg4)] 10)]),2⟩ h14 (λe=>oj e▸X8 [] (k:=fi)) λJ=>?_;refine brI (λh13=>?_) λh13=>?_
  ·
   intro h;obtain rfl:=oj h;refine X0q [Bt] ?_;refine X7.denil 1 [AV.agg [(aI .u8 0),(Lt (List.map X0 ([]:List X4))),(Lt (List.map (aI .i64) ([]:List Int))),(aB false),(Lt (List.map X0 ([]:List X4))),(aI .u8 0),(aI .i64 0),(aI .i64 0),(aB false),(aI .u8 0)]] rfl rfl ?_;refine X7.denil 2 [AV.agg [(aI .u8 v1.Agg),(Lt (v1.Arg.map X0)),(Lt (List.map (aI .i64) v1.Sources)),(aB v1.Join),(Lt (List.map X0 ([]:List X4))),(aI .u8 v1.Window.Kind),(aI .i64 v1.Window.Size),(aI .i64 v1.Window.Every),(aB v1.ByKey),(aI .u8 v1.Late)]] rfl rfl ?_;exact wkT [(0,1),(1,2)] (X7.glue J)
  intro h;obtain rfl:=oj h;refine X0q [Bf] ?_;refine X7.denil 1 [AV.agg [(aI .u8 0),(Lt (List.map X0 ([]:List X4))),(Lt (List.map (aI .i64) ([]:List Int))),(aB false),(Lt (List.map X0 ([]:List X4))),(aI .u8 0),(aI .i64 0),(aI .i64 0),(aB false),(aI .u8 0)]] rfl rfl ?_;exact wkT [(0,1),(1,2)] (X7.glue J)
 refine bI λX00o h20=>rnI [.pure _ (Xc true v1),Bf,Bf] ?_;refine jnI ⟨fr [(4,(AV.ptr 0 0 0)),(6,(AV.ptr 1 0 0))],hp ([(0,Ob [(Xc true (Xb.mk 0 ([]:List X4) ([]:List Int) false ([]:List X4) (Xn.mk 0 0 0) false 0))] 10),(1,Ob [(Xc true X00o)] 10)]),2⟩ h20 (λe=>oj e▸X8 [] (k:=fi)) λJ=>?_;refine brI (λh18=>?_) λh18=>?_
 ·
  refine brI (λh19=>?_) λh19=>?_
  ·
   intro h;obtain rfl:=oj h;refine X0q [Bt,Bt] ?_;refine X7.denil 1 [AV.agg [(aI .u8 0),(Lt (List.map X0 ([]:List X4))),(Lt (List.map (aI .i64) ([]:List Int))),(aB false),(Lt (List.map X0 ([]:List X4))),(aI .u8 0),(aI .i64 0),(aI .i64 0),(aB false),(aI .u8 0)]] rfl rfl ?_;exact wkT [(0,1),(1,2)] (X7.glue J)
  intro h;obtain rfl:=oj h;refine X0q [Bt,Bf] ?_;refine X7.denil 1 [AV.agg [(aI .u8 0),(Lt (List.map X0 ([]:List X4))),(Lt (List.map (aI .i64) ([]:List Int))),(aB false),(Lt (List.map X0 ([]:List X4))),(aI .u8 0),(aI .i64 0),(aI .i64 0),(aB false),(aI .u8 0)]] rfl rfl ?_;exact wkT [(0,1),(1,2)] (X7.glue J)
 intro h;obtain rfl:=oj h;refine X0q [Bf] ?_;refine X7.denil 1 [AV.agg [(aI .u8 0),(Lt (List.map X0 ([]:List X4))),(Lt (List.map (aI .i64) ([]:List Int))),(aB false),(Lt (List.map X0 ([]:List X4))),(aI .u8 0),(aI .i64 0),(aI .i64 0),(aB false),(aI .u8 0)]] rfl rfl ?_;exact wkT [(0,1),(1,2)] (X7.glue J)⟩
theorem X8n {Q:Qt} {μ:Mu} (X0g:(List X4)) (Xa7:(List X4)) (hl:X0g.length<=140737488355328):Dr X0g λxs k=>∀ o,Lq Tryz.prog 26 0 Q μ o (fun|.x0=>(.exit 0,⟨fr [],hp ([]),0⟩)|.x1=>(.ret,⟨fr [(4,(aB false))],hp ([]),0⟩))
  (X64 0 (X1l Tryz.f41)) ⟨fr [(0,(Lf (X0g.map X0))),(1,(Lf (Xa7.map X0))),(12,(aI .i64 (X0g.length:Int))),(13,(aI .i64 (k:Int)))],hp ([]),0⟩ (X0k X0g Xa7 xs k):=by
 refine drI ?_ ?_
 ·
  intro k hk hc o C;rw[X0k];exact rdI<|λe=>X8 [Bf] (k:=wC e C)
 ·
  intro x xs k hk hg hc ih o C;rw[X0k];refine rdI<|bI λe11 h12=>?_;try have qh12:=Xq h12
  exact brI (λh13=>λe=>X8 [Bt,.el (X0 x),.el (X0 e11),Bt] (k:=wC e C)) λh13=>rnK [Bt,.el (X0 x),.el (X0 e11),Bf] (k:=wkI [] (ih o C))
instance Xlv:PZ 41 (∀ (a0:(List X4)) (a1:(List X4)) (r:Bool),X1i a0 a1=some r->Pz 41 [(Lf (a0.map X0)),(Lf (a1.map X0))] (aB r)):=⟨λa0 a1 r=>by
 unfold X1i;refine psI fn41 26<|brI (λh1=>λe=>oj e▸X8 [.el (aI .i64 (a0.length:Int)),.el (aI .i64 (a1.length:Int)),Bt] (k:=fi)) λh1=>bI λu2 h3=>?_;have qh3:=X0e h3;refine bI λo14 h15=>rnI [.el (aI .i64 (a0.length:Int)),.el (aI .i64 (a1.length:Int)),Bf,.el (aI .i64 (a0.length:Int))] ?_;intro h;refine wkT [] (X7.cut (drA (X8n a0 a1 qh3) _ ?_ h15));revert h;rcases o14 with _|_
 ·
  exact lGI rfl λe=>oj e▸X8 [] (k:=fi)
 exact lGI rfl λe=>oj e▸X8 [] (k:=fi)⟩
instance Xz4:PZ 21 (∀ (a0:Xb) (a1:Xb) (r:Bool),X87 a0 a1=some r->Pz 21 [(Xc false a0),(Xc false a1)] (aB r)):=⟨λa0 a1 r=>by
 unfold X87;refine psI fn21 24<|bI λj7_4 h14=>rnI [.stop 1] ?_;exact jnI ⟨fr [(4,(aB j7_4))],hp ([]),0⟩ h14 (λe=>oj e▸X8 [] (k:=fi)) λJ=>bI λv8 h9=>brI (λh10=>bI λv11 h12=>brI (λh13=>λe=>X8 [.pure _ (aB v8),Gt,Gt,Gt,Gt,Gt,.pure _ (aB v11),Gt,Gt,Gt,Gt,Gt] (k:=wJ [] J)) λh13=>λe=>X8 [.pure _ (aB v8),Gt,Gt,Gt,Gt,Gt,.pure _ (aB v11),Gf,Gf,Gf,Gf,Gf] (k:=wJ [] J)) λh10=>λe=>X8 [.pure _ (aB v8),Gf,Gf,Gf,Gf,Gf,Gf,Gf,Gf,Gf,Gf] (k:=wJ [] J)⟩
instance Xy6:PZ 12 (∀ (a0:Xb) (a1:Int) (r:Xb×Bool×Int),X19 a0 a1=some r->Pz 12 [(Xc false a0),(aI .i64 a1)] (AV.tup [(Xc false r.1),(aB r.2.1),(aI .i64 r.2.2)])):=⟨λa0 a1 r=>by
 unfold X19;exact psI fn12 42<|bI λv1 h2=>brI (λh3=>λe=>oj e▸X8 [.pure _ (AV.tup [(aI .i64 v1.1),(aI .i64 v1.2)]),Bt] (k:=fi)) λh3=>brI (λh4=>λe=>oj e▸X8 [.pure _ (AV.tup [(aI .i64 v1.1),(aI .i64 v1.2)]),Bf,Bt] (k:=fi)) λh4=>bI λv5 h6=>brI (λh7=>λe=>oj e▸X8 [.pure _ (AV.tup [(aI .i64 v1.1),(aI .i64 v1.2)]),Bf,Bf,.pure _ (AV.tup [(Xc false v5.1),(aI .i64 v5.2)]),Bt] (k:=fi)) λh7=>bI λv8 h9=>λe=>oj e▸X8 [.pure _ (AV.tup [(aI .i64 v1.1),(aI .i64 v1.2)]),Bf,Bf,.pure _ (AV.tup [(Xc false v5.1),(aI .i64 v5.2)]),Bf,.pure _ (aB v8)] (k:=fi)⟩
theorem Xgn {Q:Qt} {μ:Mu} (Xd:Xb):∀ (n:Nat) (Xe:Xb) (Xbr:Int) o,Lq Tryz.prog 37 0 Q μ o (fun|.x0 Xhi=>(.ret,⟨fr [(2,(AV.ptr 0 0 0)),(3,(aI .i64 Xhi))],hp ([(0,Ob [(Xc true (Xb.mk 0 ([]:List X4) ([]:List Int) false ([]:List X4) (Xn.mk 0 0 0) false 0))] 10)]),1⟩)|.x1 X32=>(.exit 0,⟨fr [(2,(AV.ptr 0 0 0)),(4,(AV.ptr 1 0 0))],hp ([(0,Ob [(Xc true Xd)] 10),(1,Ob [(Xc false X32)] 10)]),2⟩))
  (X64 0 (X1l Tryz.f9)) ⟨fr [(2,(AV.ptr 0 0 0)),(4,(AV.ptr 1 0 0)),(11,(aI .i64 Xbr))],hp ([(0,Ob [(Xc true Xd)] 10),(1,Ob [(Xc false Xe)] 10)]),2⟩ (X4j Xd n Xe Xbr):=by
 intro n
 induction n with
 |zero=>intro Xe Xbr o C h;cases h
 |succ n ih =>
  intro Xe Xbr o C;rw[X4j];refine rdI<|brI (λh24=>?_) λh24=>λe=>X8 [Bf] (k:=wC e C);refine rnI [Bt] ?_;refine rdI<|bI λv25 h26=>brI (λh27=>?_) λh27=>?_
  ·
   refine λe=>X0q [Bt,.pure _ (AV.tup [(Xc false v25.1),(aB v25.2.1),(aI .i64 v25.2.2)]),Bt] ?_;refine X7.denil 0 [AV.agg [(aI .u8 0),(Lt (List.map X0 ([]:List X4))),(Lt (List.map (aI .i64) ([]:List Int))),(aB false),(Lt (List.map X0 ([]:List X4))),(aI .u8 0),(aI .i64 0),(aI .i64 0),(aB false),(aI .u8 0)]] rfl rfl ?_;exact wC e C
  refine rnI [Bt,.pure _ (AV.tup [(Xc false v25.1),(aB v25.2.1),(aI .i64 v25.2.2)]),Bf,Gt] ?_;refine rdI<|bI λv28 h29=>brI (λh30=>?_) λh30=>?_
  ·
   refine λe=>X0q [Bt,.pure _ (AV.tup [(Xc false v28.1),(aB v28.2.1),(aI .i64 v28.2.2)]),Bt] ?_;refine X7.denil 0 [AV.agg [(aI .u8 0),(Lt (List.map X0 ([]:List X4))),(Lt (List.map (aI .i64) ([]:List Int))),(aB false),(Lt (List.map X0 ([]:List X4))),(aI .u8 0),(aI .i64 0),(aI .i64 0),(aB false),(aI .u8 0)]] rfl rfl ?_;exact wC e C
  refine rnI [Bt,.pure _ (AV.tup [(Xc false v28.1),(aB v28.2.1),(aI .i64 v28.2.2)]),Bf] ?_;refine rdI<|bI λv31 h32=>brI (λh33=>?_) λh33=>?_
  ·
   refine λe=>X0q [Bt,.pure _ (AV.tup [(Xc false v31.1),(aB v31.2.1),(aI .i64 v31.2.2)]),Bt] ?_;refine X7.denil 0 [AV.agg [(aI .u8 0),(Lt (List.map X0 ([]:List X4))),(Lt (List.map (aI .i64) ([]:List Int))),(aB false),(Lt (List.map X0 ([]:List X4))),(aI .u8 0),(aI .i64 0),(aI .i64 0),(aB false),(aI .u8 0)]] rfl rfl ?_;exact wC e C
  refine rnI [Bt,.pure _ (AV.tup [(Xc false v31.1),(aB v31.2.1),(aI .i64 v31.2.2)]),Bf] ?_;exact rdI<|brI (λh34=>λe=>X8 [Bf,Bt] (k:=wC e C)) λh34=>rnK [Bf,Bf,.wrap] (k:=wkI [] (ih  _ _ o C))
instance X030:PZ 9 (∀ (a0:Xb) (r:Xb×Int),X9j a0=some r->Pz 9 [(Xc false a0)] (AV.tup [(Xc false r.1),(aI .i64 r.2)])):=⟨λa0 r=>by
 unfold X9j;refine psI fn9 37<|rnI [] ?_;intro h;refine X7.denil 1 [AV.agg [(aI .u8 0),(Lt (List.map X0 ([]:List X4))),(Lt (List.map (aI .i64) ([]:List Int))),(aB false),(Lt (List.map X0 ([]:List X4))),(aI .u8 0),(aI .i64 0),(aI .i64 0),(aB false),(aI .u8 0)]] rfl rfl ?_;revert h;refine bI λo35 h36=>rnI [] ?_;intro h;refine wkT [(0,1),(1,2)] (X7.cut (Xgn (Xb.mk 0 ([]:List X4) ([]:List Int) false ([]:List X4) (Xn.mk 0 0 0) false 0) _ _ _ _ ?_ h36));revert h;rcases o35 with ⟨Xhi⟩|⟨X32⟩
 ·
  exact lGI rfl λe=>oj e▸X8 [] (k:=fi)
 exact lGI rfl λe=>oj e▸X8 [] (k:=fi)⟩
theorem Xid {Q:Qt} {μ:Mu} (X0g:(List X5v)) (Xa7:(List X5v)) (hl:X0g.length<=140737488355328):Dr X0g λxs k=>∀ o,Lq Tryz.prog 26 0 Q μ o (fun|.x0=>(.exit 0,⟨fr [],hp ([]),0⟩)|.x1=>(.ret,⟨fr [(4,(aB false))],hp ([]),0⟩))
  (X64 0 (X1l Tryz.f10)) ⟨fr [(0,(Lf (X0g.map Xv))),(1,(Lf (Xa7.map Xv))),(5,(aI .i64 (k:Int)))],hp ([]),0⟩ (X45 X0g Xa7 xs k):=by
 refine drI ?_ ?_
 ·
  intro k hk hc o C;rw[X45];exact rdI<|λe=>X8 [.el (aI .i64 (X0g.length:Int)),Bf] (k:=wC e C)
 ·
  intro x xs k hk hg hc ih o C;rw[X45];refine rdI<|bI λe11 h12=>?_;try have qh12:=Xq h12
  exact brI (λh13=>λe=>X8 [.el (aI .i64 (X0g.length:Int)),Bt,.el (Xv x),.el (Xv e11),Bt] (k:=wC e C)) λh13=>rnK [.el (aI .i64 (X0g.length:Int)),Bt,.el (Xv x),.el (Xv e11),Bf] (k:=wkI [] (ih o C))
instance X04i:PZ 10 (∀ (a0:(List X5v)) (a1:(List X5v)) (r:Bool),X90 a0 a1=some r->Pz 10 [(Lf (a0.map Xv)),(Lf (a1.map Xv))] (aB r)):=⟨λa0 a1 r=>by
 unfold X90;refine psI fn10 26<|brI (λh1=>λe=>oj e▸X8 [.el (aI .i64 (a0.length:Int)),.el (aI .i64 (a1.length:Int)),Bt] (k:=fi)) λh1=>bI λu2 h3=>?_;have qh3:=X0e h3;refine bI λo14 h15=>rnI [.el (aI .i64 (a0.length:Int)),.el (aI .i64 (a1.length:Int)),Bf] ?_;intro h;refine wkT [] (X7.cut (drA (Xid a0 a1 qh3) _ ?_ h15));revert h;rcases o14 with _|_
 ·
  exact lGI rfl λe=>oj e▸X8 [] (k:=fi)
 exact lGI rfl λe=>oj e▸X8 [] (k:=fi)⟩
theorem Xif {Q:Qt} {μ:Mu} (X0g:(List X9)) (Xa7:(List X9)) (hl:X0g.length<=140737488355328):Dr X0g λxs k=>∀ o,Lq Tryz.prog 26 0 Q μ o (fun|.x0=>(.exit 0,⟨fr [],hp ([]),0⟩)|.x1=>(.ret,⟨fr [(4,(aB false))],hp ([]),0⟩))
  (X64 0 (X1l Tryz.f11)) ⟨fr [(0,(Lf (X0g.map X2))),(1,(Lf (Xa7.map X2))),(5,(aI .i64 (k:Int)))],hp ([]),0⟩ (X46 X0g Xa7 xs k):=by
 refine drI ?_ ?_
 ·
  intro k hk hc o C;rw[X46];exact rdI<|λe=>X8 [.el (aI .i64 (X0g.length:Int)),Bf] (k:=wC e C)
 ·
  intro x xs k hk hg hc ih o C;rw[X46];refine rdI<|bI λe11 h12=>?_;try have qh12:=Xq h12
  exact brI (λh13=>λe=>X8 [.el (aI .i64 (X0g.length:Int)),Bt,.el (X2 x),.el (X2 e11),Bt] (k:=wC e C)) λh13=>rnK [.el (aI .i64 (X0g.length:Int)),Bt,.el (X2 x),.el (X2 e11),Bf] (k:=wkI [] (ih o C))
instance X04j:PZ 11 (∀ (a0:(List X9)) (a1:(List X9)) (r:Bool),X91 a0 a1=some r->Pz 11 [(Lf (a0.map X2)),(Lf (a1.map X2))] (aB r)):=⟨λa0 a1 r=>by
 unfold X91;refine psI fn11 26<|brI (λh1=>λe=>oj e▸X8 [.el (aI .i64 (a0.length:Int)),.el (aI .i64 (a1.length:Int)),Bt] (k:=fi)) λh1=>bI λu2 h3=>?_;have qh3:=X0e h3;refine bI λo14 h15=>rnI [.el (aI .i64 (a0.length:Int)),.el (aI .i64 (a1.length:Int)),Bf] ?_;intro h;refine wkT [] (X7.cut (drA (Xif a0 a1 qh3) _ ?_ h15));revert h;rcases o14 with _|_
 ·
  exact lGI rfl λe=>oj e▸X8 [] (k:=fi)
 exact lGI rfl λe=>oj e▸X8 [] (k:=fi)⟩
instance Xcy:PZ 3 (∀ (a0:Xb) (a1:(List (List Xs))) (a2:Int) (r:Bool),X4u a0 a1 a2=some r->Pz 3 [(Xc false a0),(Lf (List.map (X6t false Xg) a1)),(aI .i64 a2)] (aB r)):=⟨λa0 a1 a2 r=>by
 unfold X4u;refine psI fn3 131<|bI λv1 h2=>bI λX00r h22=>rnI [.pure [] (aB v1),.stop 2] ?_;refine jnI ⟨fr [(1,(Lf (List.map (X6t false Xg) a1))),(2,(aI .i64 a2)),(3,(AV.ptr 0 0 0)),(7,(aB v1)),(39,(aB X00r))],hp ([(0,Ob [(Xc false a0)] 10)]),1⟩ h22 ?_ λJ=>bI λv13 h14=>brI (λh15=>λe=>X8 [.pure _ (aB v13),Gf,Gf,Gf,Gf,Gf,Gf,Gf,Gf] (k:=wJ [] J)) λh15=>bI λv16 h17=>brI (λh18=>λe=>X8 [.pure _ (aB v13),Gt,Gt,.pure _ (aB v16),Gf,Gf,Gf,Gf,Gf,Gf] (k:=wJ [] J)) λh18=>bI λv19 h20=>brI (λh21=>λe=>X8 [.pure _ (aB v13),Gt,Gt,.pure _ (aB v16),Gt,Gt,Gt,.pure _ (aI .i64 v19),Gt,Gf,Gf] (k:=wJ [] J)) λh21=>λe=>X8 [.pure _ (aB v13),Gt,Gt,.pure _ (aB v16),Gt,Gt,Gt,.pure _ (aI .i64 v19),Gt,Gt,Gt] (k:=wJ [] J);refine brI (λh23=>λe=>oj e▸X8 [Bt] (k:=fi)) λh23=>bI λv24 h25=>bI λv26 h27=>bI λv28 h29=>bI λX00f h53=>rnI [Bf,.pure _ (AV.tup [(Lt (v24.1.map Xv)),(Lt (v24.2.1.map X2)),(aI .i64 v24.2.2)]),.pure _ (AV.tup [(Xc false v26.1),(aI .i64 v26.2)]),.pure _ (AV.tup [(Lt (v28.1.map Xv)),(Lt (v28.2.1.map X2)),(aI .i64 v28.2.2)]),.stop 7] ?_;refine jnI ⟨fr [(1,(Lf (List.map (X6t false Xg) a1))),(2,(aI .i64 a2)),(3,(AV.ptr 0 0 0)),(7,(aB v1)),(8,(Lt (v24.1.map Xv))),(9,(Lt (v24.2.1.map X2))),(86,(aB X00f))],hp ([(0,Ob [(Xc false a0)] 10)]),1⟩ h53 ?_ λJ=>brI (λh42=>λe=>X8 [Gf,Gf,Gf,Gf,Gf,Gf,Gf,Gf,Gf,Gf,Gf,Gf,Gf,Gf,Gf] (k:=wJ [] J)) λh42=>brI (λh43=>λe=>X8 [Gt,Gt,Gf,Gf,Gf,Gf,Gf,Gf,Gf,Gf,Gf,Gf,Gf,Gf,Gf] (k:=wJ [] J)) λh43=>brI (λh44=>λe=>X8 [Gt,Gt,Gt,Gt,Gf,Gf,Gf,Gf,Gf,Gf,Gf,Gf,Gf,Gf,Gf] (k:=wJ [] J)) λh44=>bI λv45 h46=>brI (λh47=>λe=>X8 [Gt,Gt,Gt,Gt,Gt,Gt,.pure _ (aB v45),Gt,Gf,Gf,Gf,Gf,Gf,Gf,Gf,Gf] (k:=wJ [] J)) λh47=>bI λv48 h49=>brI (λh50=>λe=>X8 [Gt,Gt,Gt,Gt,Gt,Gt,.pure _ (aB v45),Gt,Gt,Gt,Gt,.pure _ (aB v48),Gt,Gf,Gf,Gf,Gf] (k:=wJ [] J)) λh50=>bI λv51 h52=>λe=>X8 [Gt,Gt,Gt,Gt,Gt,Gt,.pure _ (aB v45),Gt,Gt,Gt,Gt,.pure _ (aB v48),Gt,Gt,Gt,Gt,.pure _ (aB v51),Gt] (k:=wJ [] J);refine brI (λh54=>λe=>oj e▸X8 [Bt] (k:=fi)) λh54=>bI λv55 h56=>brI (λh57=>λe=>oj e▸X8 [Bf,.pure _ (AV.tup [(Xc false v55.1),(aB v55.2.1),(aI .i64 v55.2.2)]),Bt] (k:=fi)) λh57=>bI λv58 h59=>bI λX0ae h81=>rnI [Bf,.pure _ (AV.tup [(Xc false v55.1),(aB v55.2.1),(aI .i64 v55.2.2)]),Bf,.pure _ (AV.tup [(Lt (v58.1.map Xv)),(Lt (v58.2.1.map X2)),(aI .i64 v58.2.2)]),.stop 13] ?_;exact jnI ⟨fr [(6,(aB X0ae))],hp ([]),0⟩ h81 (λe=>oj e▸X8 [] (k:=fi)) λJ=>brI (λh71=>brI (λh72=>bI λv73 h74=>brI (λh75=>bI λv76 h77=>brI (λh78=>bI λv79 h80=>λe=>X8 [Gt,Gt,Gt,Gt,.pure _ (aB v73),Gt,Gt,Gt,.pure _ (aB v76),Gt,Gt,Gt,.pure _ (aB v79)] (k:=wJ [] J)) λh78=>λe=>X8 [Gt,Gt,Gt,Gt,.pure _ (aB v73),Gt,Gt,Gt,.pure _ (aB v76),Gf,Gf,Gf] (k:=wJ [] J)) λh75=>λe=>X8 [Gt,Gt,Gt,Gt,.pure _ (aB v73),Gf,Gf,Gf,Gf,Gf,Gf] (k:=wJ [] J)) λh72=>λe=>X8 [Gt,Gt,Gf,Gf,Gf,Gf,Gf,Gf,Gf,Gf] (k:=wJ [] J)) λh71=>λe=>X8 [Gf,Gf,Gf,Gf,Gf,Gf,Gf,Gf,Gf,Gf] (k:=wJ [] J)⟩
end Go.Av.Tryz