/- Printed by decomp.py: that the program computes the functions. -/
import Derived.Test.YtednehploaffcaaGreatDoorDCert6Z
set_option linter.all false

namespace Go.Av.Tryz
open Go.Proofs Go.D Go.Proofs.Tryz
set_option maxRecDepth 10000
set_option maxHeartbeats 40000000
instance X02n:PZ 85 (∀ (a0:(List X1)) (r:(List X1)×Int),X48 a0=some r->Pz 85 [(Lf (a0.map X0))] (AV.tup [(Lt (r.1.map X0)),(aI .i64 r.2)])):=⟨λa0 r=>by
 unfold X48;refine psI fn85 70<|bI λv1 h2=>brI (λh3=>λe=>oj e▸X8 [.pure _ (AV.tup [(Lt (v1.1.map aB)),(aI .i64 v1.2)]),Bt] (k:=fi)) λh3=>bI λu4 h5=>?_;have qh5:=Xxd h5;refine rnI [.pure _ (AV.tup [(Lt (v1.1.map aB)),(aI .i64 v1.2)]),Bf,.el (aI .i64 (a0.length:Int))] (o:=by repeat' first|apply Ya|exact pcM|exact(Int.le_trans qh5.2.2 (by decide))|exact om|exact X0y) ?_;intro h;refine X9.inline Xh X0fr rfl rfl rfl rfl rfl trivial trivial rfl rfl ?_;refine X1j [] ?_;refine X9.back (by intro id h;cases h) rfl ?_;refine X1j [] ?_;refine X9.denil 4 (List.map (X4 true) (List.replicate (Int.toNat (a0.length:Int)) (Xj.mk ([]:List X1) false))) rfl (by rw[List.map_replicate,List.map_replicate];rfl) ?_;refine X9.keepL [1,2,3,4,6,26] ?_;refine X9.rangeFunc rfl trivial X0fd rfl rfl rfl ?_;intro rb rD rr rh1 rh2 rh3 rh4 rh5;revert h;refine bI λo307 h308=>rnI [.el (aI .i64 (a0.length:Int)),.wrap] ?_;intro h;refine wkT [(9,4),(10,8)] (X9.cut (Xfm rh1 rh2 rh3 rh4 rh5 a0 ([]:List X1) 0 v1.1 a0 nbS _ _ _ _ h308 ?_));intro Xez Xbu Xe4 eo307;subst eo307;refine X9.glue ?_;try dsimp only at h
 rcases Xe4 with ⟨_|_,Xuo⟩<;>(try obtain rfl:=Xuo rfl);all_goals
  refine X1j [] ?_;refine X9.rfEnd (by intro id h;cases h) ?_;revert h;exact bI λv309 h310=>λe=>oj e▸X8 [.el (aI .i64 (a0.length:Int)),.wrap,.pure [(Lf (a0.map X0)),(Lf (List.map (X4 false) Xbu)),(aI .i64 (IntKind.i64.wrap ((a0.length:Int) - 1)))] (AV.tup [(Lt (v309.1.map X0)),(aI .i64 v309.2)])] (o:=by repeat' first|apply Ya|exact pcM|exact(X3m.lent (Xmc FU _ _ _ _ h310) (cc (X0z (Xr X1e a0)) (cc (Xsc (f:=(X4 true)) (g:=(X4 false)) (l:=Xbu) rfl (by first|rfl|(simp;done)|(simp;rfl)|(simp[h3];done)|(simp[h3];rfl)) (by first|rfl|(simp;done)|(simp;omega)|(simp[h3];done)|(simp[h3];omega)) (λ_=>rfl) (λx=>X4n X2b)) (cc (X04k (by first|rfl|(simp[*];done))) cn))) (Xmx (Xg (X1a (Xr X1e _)) (Xg .sc X3d))))|exact X0y) (k:=fi)⟩
instance X00e:PZ 65 (∀ (a0:X6) (r:X6×Int),X7v a0=some r->Pz 65 [(Xa false a0)] (AV.tup [(Xa false r.1),(aI .i64 r.2)])):=⟨λa0 r=>by
 unfold X7v;refine psI fn65 52<|bI λv1 h2=>brI (λh3=>λe=>oj e▸X8 [.pure _ (AV.tup [(aI .i64 v1.1),(aI .i64 v1.2)]),Bt] (k:=fi)) λh3=>bI λXq5 h15=>rnI [.pure _ (AV.tup [(aI .i64 v1.1),(aI .i64 v1.2)]),Bf] ?_;intro h;refine X9.joinOpF (λ(q:Nb Xq5)=>⟨fr [(1,(AV.ptr 0 0 0)),(2,(AV.ptr 1 0 0)),(21,(slE q.1 2 (List.map (aI .i64) Xq5)))],hp ([(0,Ob [(Xa false a0)] 10),(1,Ob [(Xa true (X6.mk 0 ([]:List X1) ([]:List Int) false ([]:List X1) (Xi.mk 0 0 0) false 0))] 10)]++opE q.1 2 1 (List.map (aI .i64) Xq5)),3⟩) ?_ (λJ=>?_)
 ·
  rintro X01s;rcases X01s with ⟨_|_,X02g⟩<;>(try obtain rfl:=X02g rfl);all_goals
   refine X1j [] ?_;refine X9.round ?_;revert h;refine brI (λh16=>?_) λh16=>?_
   ·
    refine rnI [Bt,.el ((AV.ptr 0 0 1)),.el (aI .i64 (a0.Arg.length:Int)),Bt] ?_;refine rdI<|brI (λh17=>?_) λh17=>?_
    ·
     refine rnI [Bt,.el ((AV.ptr 0 0 4)),.el (aI .i64 (a0.Where.length:Int)),Bt] ?_;exact rdI<|λe=>oj e▸X8 [Bf] (k:=fi)
    refine bI λv18 h19=>rnI [Bt,.el ((AV.ptr 0 0 4)),.el (aI .i64 (a0.Where.length:Int)),Bf,.pure _ (AV.tup [(Lt (v18.1.map X0)),(aI .i64 v18.2)])] ?_;refine brI (λh20=>λe=>oj e▸X8 [Bt] (k:=fi)) λh20=>rnI [Bf] ?_;exact rdI<|λe=>oj e▸X8 [Bf] (k:=fi)
   refine bI λv21 h22=>rnI [Bt,.el ((AV.ptr 0 0 1)),.el (aI .i64 (a0.Arg.length:Int)),Bf,.pure _ (AV.tup [(Lt (v21.1.map X0)),(aI .i64 v21.2)])] ?_;refine brI (λh23=>λe=>oj e▸X8 [Bt] (k:=fi)) λh23=>rnI [Bf] ?_;refine rdI<|brI (λh24=>?_) λh24=>?_
   ·
    refine rnI [Bt,.el ((AV.ptr 0 0 4)),.el (aI .i64 (a0.Where.length:Int)),Bt] ?_;exact rdI<|λe=>oj e▸X8 [Bf] (k:=fi)
   refine bI λv25 h26=>rnI [Bt,.el ((AV.ptr 0 0 4)),.el (aI .i64 (a0.Where.length:Int)),Bf,.pure _ (AV.tup [(Lt (v25.1.map X0)),(aI .i64 v25.2)])] ?_;refine brI (λh27=>λe=>oj e▸X8 [Bt] (k:=fi)) λh27=>rnI [Bf] ?_;exact rdI<|λe=>oj e▸X8 [Bf] (k:=fi)
 clear h;revert h15;intro h;refine X9.inline Xh fn20 rfl rfl rfl rfl rfl trivial trivial rfl rfl ?_;revert h;refine brI (λq=>?_) λq=>?_
 ·
  intro h;have h10:a0.Sources=[]:=List.isEmpty_iff.1 q;refine X1j [] ?_;refine X9.eqNil Xh (may:=true) rfl rfl rfl rfl rfl rfl trivial (by simp[X6y, *]) λb11 qb11=>?_;cases b11
  ·
   obtain rfl:=oj h;refine X1j [Bf,.ne false] ?_;refine X9.back (by intro id h;cases h) rfl ?_;refine X9.denil 1 [AV.agg [(aI .u8 0),(Lt (List.map X0 ([]:List X1))),(Lt (List.map (aI .i64) ([]:List Int))),(aB false),(Lt (List.map X0 ([]:List X1))),(aI .u8 0),(aI .i64 0),(aI .i64 0),(aB false),(aI .u8 0)]] rfl rfl ?_;exact wkT [] ((J nbS))
  obtain rfl:=oj h;refine X1j [Bt] ?_;refine X9.back (by intro id h;cases h) rfl ?_;refine X9.denil 1 [AV.agg [(aI .u8 0),(Lt (List.map X0 ([]:List X1))),(Lt (List.map (aI .i64) ([]:List Int))),(aB false),(Lt (List.map X0 ([]:List X1))),(aI .u8 0),(aI .i64 0),(aI .i64 0),(aB false),(aI .u8 0)]] rfl rfl ?_;exact wkT [] ((J nbS))
 intro h;have h10:¬ (a0.Sources=[]):=(λe=>by rw[e] at q;cases q);refine X1j [] ?_;refine X9.eqNil Xh (may:=false) rfl rfl rfl rfl rfl rfl trivial (by simp[X6y, *]) λb12 qb12=>?_;obtain rfl:=qb12 rfl;revert h;refine bI λu13 h14=>?_;intro h;obtain rfl:=oj h;refine X1j [Bf,.via (Lt (List.map (aI .i64) a0.Sources))] (o:=by repeat' first|apply Ya|exact pcM|(refine X14 h14 rfl ?_;first|(simp<;>omega)|(simp[h3,h10]<;>omega))|(refine X03 h14 (by decide) ?_;first|(simp<;>omega)|(simp[h3,h10]<;>omega))|exact X0y) ?_;refine X9.back (by intro id h;cases h) rfl ?_;refine X9.denil 1 [AV.agg [(aI .u8 0),(Lt (List.map X0 ([]:List X1))),(Lt (List.map (aI .i64) ([]:List Int))),(aB false),(Lt (List.map X0 ([]:List X1))),(aI .u8 0),(aI .i64 0),(aI .i64 0),(aB false),(aI .u8 0)]] rfl rfl ?_;exact wkT [(2,3)] ((J nbF))⟩
instance Xwi:PZ 39 (∀ (a0:X6) (a1:Int) (r:X6×Int),X8d a0 a1=some r->Pz 39 [(Xa false a0),(aI .i64 a1)] (AV.tup [(Xa false r.1),(aI .i64 r.2)])):=⟨λa0 a1 r=>by
 unfold X8d;refine psI fn39 62<|bI λv1 h2=>brI (λh3=>bI λv4 h5=>λe=>oj e▸X8 [.pure _ (Xa true v1),Bt,.pure _ (AV.tup [(Xa false v4.1),(aI .i64 v4.2)])] (k:=fi)) λh3=>?_;refine brI (λh6=>?_) λh6=>?_
 ·
  refine brI (λh7=>λe=>oj e▸X8 [.pure _ (Xa true v1),Bf,Bt,.el (aI .i64 (a0.Where.length:Int)),Bt] (k:=fi)) λh7=>bI λv8 h9=>rnI [.pure _ (Xa true v1),Bf,Bt,.el (aI .i64 (a0.Where.length:Int)),Bf,.pure _ (AV.tup [(aI .i64 v8.1),(aB v8.2.1),(aI .i64 v8.2.2)])] ?_;refine brI (λh10=>λe=>oj e▸X8 [Bt] (k:=fi)) λh10=>bI λXxs h14=>rnI [Bf] ?_;refine jnI ⟨fr [(4,(AV.ptr 0 0 0)),(6,(AV.ptr 1 0 0))],hp ([(0,Ob [(Xa true (X6.mk 0 ([]:List X1) ([]:List Int) false ([]:List X1) (Xi.mk 0 0 0) false 0))] 10),(1,Ob [(Xa true Xxs)] 10)]),2⟩ h14 (λe=>oj e▸X8 [] (k:=fi)) λJ=>?_;refine brI (λh13=>?_) λh13=>?_
  ·
   intro h;obtain rfl:=oj h;refine X1j [Bt] ?_;refine X9.denil 1 [AV.agg [(aI .u8 0),(Lt (List.map X0 ([]:List X1))),(Lt (List.map (aI .i64) ([]:List Int))),(aB false),(Lt (List.map X0 ([]:List X1))),(aI .u8 0),(aI .i64 0),(aI .i64 0),(aB false),(aI .u8 0)]] rfl rfl ?_;refine X9.denil 2 [AV.agg [(aI .u8 v1.Agg),(Lt (v1.Arg.map X0)),(Lt (List.map (aI .i64) v1.Sources)),(aB v1.Join),(Lt (List.map X0 ([]:List X1))),(aI .u8 v1.Window.Kind),(aI .i64 v1.Window.Size),(aI .i64 v1.Window.Every),(aB v1.ByKey),(aI .u8 v1.Late)]] rfl rfl ?_;exact wkT [(0,1),(1,2)] (X9.glue J)
  intro h;obtain rfl:=oj h;refine X1j [Bf] ?_;refine X9.denil 1 [AV.agg [(aI .u8 0),(Lt (List.map X0 ([]:List X1))),(Lt (List.map (aI .i64) ([]:List Int))),(aB false),(Lt (List.map X0 ([]:List X1))),(aI .u8 0),(aI .i64 0),(aI .i64 0),(aB false),(aI .u8 0)]] rfl rfl ?_;exact wkT [(0,1),(1,2)] (X9.glue J)
 refine bI λXxo h20=>rnI [.pure _ (Xa true v1),Bf,Bf] ?_;refine jnI ⟨fr [(4,(AV.ptr 0 0 0)),(6,(AV.ptr 1 0 0))],hp ([(0,Ob [(Xa true (X6.mk 0 ([]:List X1) ([]:List Int) false ([]:List X1) (Xi.mk 0 0 0) false 0))] 10),(1,Ob [(Xa true Xxo)] 10)]),2⟩ h20 (λe=>oj e▸X8 [] (k:=fi)) λJ=>?_;refine brI (λh18=>?_) λh18=>?_
 ·
  refine brI (λh19=>?_) λh19=>?_
  ·
   intro h;obtain rfl:=oj h;refine X1j [Bt,Bt] ?_;refine X9.denil 1 [AV.agg [(aI .u8 0),(Lt (List.map X0 ([]:List X1))),(Lt (List.map (aI .i64) ([]:List Int))),(aB false),(Lt (List.map X0 ([]:List X1))),(aI .u8 0),(aI .i64 0),(aI .i64 0),(aB false),(aI .u8 0)]] rfl rfl ?_;exact wkT [(0,1),(1,2)] (X9.glue J)
  intro h;obtain rfl:=oj h;refine X1j [Bt,Bf] ?_;refine X9.denil 1 [AV.agg [(aI .u8 0),(Lt (List.map X0 ([]:List X1))),(Lt (List.map (aI .i64) ([]:List Int))),(aB false),(Lt (List.map X0 ([]:List X1))),(aI .u8 0),(aI .i64 0),(aI .i64 0),(aB false),(aI .u8 0)]] rfl rfl ?_;exact wkT [(0,1),(1,2)] (X9.glue J)
 intro h;obtain rfl:=oj h;refine X1j [Bf] ?_;refine X9.denil 1 [AV.agg [(aI .u8 0),(Lt (List.map X0 ([]:List X1))),(Lt (List.map (aI .i64) ([]:List Int))),(aB false),(Lt (List.map X0 ([]:List X1))),(aI .u8 0),(aI .i64 0),(aI .i64 0),(aB false),(aI .u8 0)]] rfl rfl ?_;exact wkT [(0,1),(1,2)] (X9.glue J)⟩
theorem X8y {Q:Qt} {μ:Mu} (X0f:(List X1)) (X3n:(List X1)) (hl:X0f.length<=140737488355328):Dr X0f λxs k=>∀ o,Lq Tryz.prog 26 0 Q μ o (fun|.x0=>(.exit 0,⟨fr [],hp ([]),0⟩)|.x1=>(.ret,⟨fr [(4,(aB false))],hp ([]),0⟩))
  (X3l 0 (X1g Tryz.f67)) ⟨fr [(0,(Lf (X0f.map X0))),(1,(Lf (X3n.map X0))),(12,(aI .i64 (X0f.length:Int))),(13,(aI .i64 (k:Int)))],hp ([]),0⟩ (X0p X0f X3n xs k ):=by
 refine drI ?_ ?_
 ·
  intro k hk hc  o C;rw[X0p];exact rdI<|λe=>X8 [Bf] (k:=wC e C)
 ·
  intro x xs k hk hg hc ih  o C;rw[X0p];refine rdI<|bI λe11 h12=>?_;try have qh12:=Xo h12
  exact brI (λh13=>λe=>X8 [Bt,.el (X0 x),.el (X0 e11),Bt] (k:=wC e C)) λh13=>rnK [Bt,.el (X0 x),.el (X0 e11),Bf] (k:=wkI [] (ih   o C))
instance Xls:PZ 67 (∀ (a0:(List X1)) (a1:(List X1)) (r:Bool),X21 a0 a1=some r->Pz 67 [(Lf (a0.map X0)),(Lf (a1.map X0))] (aB r)):=⟨λa0 a1 r=>by
 unfold X21;refine psI fn67 26<|brI (λh1=>λe=>oj e▸X8 [.el (aI .i64 (a0.length:Int)),.el (aI .i64 (a1.length:Int)),Bt] (k:=fi)) λh1=>bI λu2 h3=>?_;have qh3:=X1b h3;refine bI λo14 h15=>rnI [.el (aI .i64 (a0.length:Int)),.el (aI .i64 (a1.length:Int)),Bf,.el (aI .i64 (a0.length:Int))] ?_;intro h;refine wkT [] (X9.cut (drA (X8y a0 a1 qh3) _ ?_ h15));revert h;rcases o14 with _|_
 ·
  exact lGI rfl λe=>oj e▸X8 [] (k:=fi)
 exact lGI rfl λe=>oj e▸X8 [] (k:=fi)⟩
instance Xwh:PZ 40 (∀ (a0:X6) (a1:X6) (r:Bool),X8c a0 a1=some r->Pz 40 [(Xa false a0),(Xa false a1)] (aB r)):=⟨λa0 a1 r=>by
 unfold X8c;refine psI fn40 24<|bI λj7_4 h14=>rnI [.stop 1] ?_;exact jnI ⟨fr [(4,(aB j7_4))],hp ([]),0⟩ h14 (λe=>oj e▸X8 [] (k:=fi)) λJ=>bI λv8 h9=>brI (λh10=>bI λv11 h12=>brI (λh13=>λe=>X8 [.pure _ (aB v8),Gt,Gt,Gt,Gt,Gt,.pure _ (aB v11),Gt,Gt,Gt,Gt,Gt] (o:=by repeat' first|apply Ya|exact pcM|exact fq (X5 h10 h13)|exact X0y) (k:=wJ [] J)) λh13=>λe=>X8 [.pure _ (aB v8),Gt,Gt,Gt,Gt,Gt,.pure _ (aB v11),Gf,Gf,Gf,Gf,Gf] (o:=by repeat' first|apply Ya|exact pcM|exact fq (X5 h10 h13)|exact X0y) (k:=wJ [] J)) λh10=>λe=>X8 [.pure _ (aB v8),Gf,Gf,Gf,Gf,Gf,Gf,Gf,Gf,Gf,Gf] (o:=by repeat' first|apply Ya|exact pcM|exact fq (Xb h10 rfl)|exact X0y) (k:=wJ [] J)⟩
instance Xvf:PZ 13 (∀ (a0:X6) (a1:Int) (r:X6×Bool×Int),X2l a0 a1=some r->Pz 13 [(Xa false a0),(aI .i64 a1)] (AV.tup [(Xa false r.1),(aB r.2.1),(aI .i64 r.2.2)])):=⟨λa0 a1 r=>by
 unfold X2l;exact psI fn13 42<|bI λv1 h2=>brI (λh3=>λe=>oj e▸X8 [.pure _ (AV.tup [(aI .i64 v1.1),(aI .i64 v1.2)]),Bt] (k:=fi)) λh3=>brI (λh4=>λe=>oj e▸X8 [.pure _ (AV.tup [(aI .i64 v1.1),(aI .i64 v1.2)]),Bf,Bt] (k:=fi)) λh4=>bI λv5 h6=>brI (λh7=>λe=>oj e▸X8 [.pure _ (AV.tup [(aI .i64 v1.1),(aI .i64 v1.2)]),Bf,Bf,.pure _ (AV.tup [(Xa false v5.1),(aI .i64 v5.2)]),Bt] (k:=fi)) λh7=>bI λv8 h9=>λe=>oj e▸X8 [.pure _ (AV.tup [(aI .i64 v1.1),(aI .i64 v1.2)]),Bf,Bf,.pure _ (AV.tup [(Xa false v5.1),(aI .i64 v5.2)]),Bf,.pure _ (aB v8)] (k:=fi)⟩
theorem Xh2 {Q:Qt} {μ:Mu} (Xs:X6):∀ (n:Nat) (Xc:X6) (X64:Int) o,Lq Tryz.prog 37 0 Q μ o (fun|.x0 Xhv=>(.ret,⟨fr [(2,(AV.ptr 0 0 0)),(3,(aI .i64 Xhv))],hp ([(0,Ob [(Xa true (X6.mk 0 ([]:List X1) ([]:List Int) false ([]:List X1) (Xi.mk 0 0 0) false 0))] 10)]),1⟩)|.x1 X6l=>(.exit 0,⟨fr [(2,(AV.ptr 0 0 0)),(4,(AV.ptr 1 0 0))],hp ([(0,Ob [(Xa true Xs)] 10),(1,Ob [(Xa false X6l)] 10)]),2⟩))
  (X3l 0 (X1g Tryz.f6)) ⟨fr [(2,(AV.ptr 0 0 0)),(4,(AV.ptr 1 0 0)),(11,(aI .i64 X64))],hp ([(0,Ob [(Xa true Xs)] 10),(1,Ob [(Xa false Xc)] 10)]),2⟩ (X4w Xs n Xc X64):=by
 intro n
 induction n with
 |zero=>intro Xc X64 o C h;cases h
 |succ n ih =>
  intro Xc X64 o C;rw[X4w];refine rdI<|brI (λh24=>?_) λh24=>λe=>X8 [Bf] (k:=wC e C);refine rnI [Bt] ?_;refine rdI<|bI λv25 h26=>brI (λh27=>?_) λh27=>?_
  ·
   refine λe=>X1j [Bt,.pure _ (AV.tup [(Xa false v25.1),(aB v25.2.1),(aI .i64 v25.2.2)]),Bt] ?_;refine X9.denil 0 [AV.agg [(aI .u8 0),(Lt (List.map X0 ([]:List X1))),(Lt (List.map (aI .i64) ([]:List Int))),(aB false),(Lt (List.map X0 ([]:List X1))),(aI .u8 0),(aI .i64 0),(aI .i64 0),(aB false),(aI .u8 0)]] rfl rfl ?_;exact wC e C
  refine rnI [Bt,.pure _ (AV.tup [(Xa false v25.1),(aB v25.2.1),(aI .i64 v25.2.2)]),Bf,Gt] ?_;refine rdI<|bI λv28 h29=>brI (λh30=>?_) λh30=>?_
  ·
   refine λe=>X1j [Bt,.pure _ (AV.tup [(Xa false v28.1),(aB v28.2.1),(aI .i64 v28.2.2)]),Bt] ?_;refine X9.denil 0 [AV.agg [(aI .u8 0),(Lt (List.map X0 ([]:List X1))),(Lt (List.map (aI .i64) ([]:List Int))),(aB false),(Lt (List.map X0 ([]:List X1))),(aI .u8 0),(aI .i64 0),(aI .i64 0),(aB false),(aI .u8 0)]] rfl rfl ?_;exact wC e C
  refine rnI [Bt,.pure _ (AV.tup [(Xa false v28.1),(aB v28.2.1),(aI .i64 v28.2.2)]),Bf] ?_;refine rdI<|bI λv31 h32=>brI (λh33=>?_) λh33=>?_
  ·
   refine λe=>X1j [Bt,.pure _ (AV.tup [(Xa false v31.1),(aB v31.2.1),(aI .i64 v31.2.2)]),Bt] ?_;refine X9.denil 0 [AV.agg [(aI .u8 0),(Lt (List.map X0 ([]:List X1))),(Lt (List.map (aI .i64) ([]:List Int))),(aB false),(Lt (List.map X0 ([]:List X1))),(aI .u8 0),(aI .i64 0),(aI .i64 0),(aB false),(aI .u8 0)]] rfl rfl ?_;exact wC e C
  refine rnI [Bt,.pure _ (AV.tup [(Xa false v31.1),(aB v31.2.1),(aI .i64 v31.2.2)]),Bf] ?_;exact rdI<|brI (λh34=>λe=>X8 [Bf,Bt] (k:=wC e C)) λh34=>rnK [Bf,Bf,.wrap] (k:=wkI [] (ih  _ _ o C))
instance Xzm:PZ 6 (∀ (a0:X6) (r:X6×Int),X66 a0=some r->Pz 6 [(Xa false a0)] (AV.tup [(Xa false r.1),(aI .i64 r.2)])):=⟨λa0 r=>by
 unfold X66;refine psI fn6 37<|rnI [] ?_;intro h;refine X9.denil 1 [AV.agg [(aI .u8 0),(Lt (List.map X0 ([]:List X1))),(Lt (List.map (aI .i64) ([]:List Int))),(aB false),(Lt (List.map X0 ([]:List X1))),(aI .u8 0),(aI .i64 0),(aI .i64 0),(aB false),(aI .u8 0)]] rfl rfl ?_;revert h;refine bI λo35 h36=>rnI [] ?_;intro h;refine wkT [(0,1),(1,2)] (X9.cut (Xh2 (X6.mk 0 ([]:List X1) ([]:List Int) false ([]:List X1) (Xi.mk 0 0 0) false 0) _ _ _ _ ?_ h36));revert h;rcases o35 with ⟨Xhv⟩|⟨X6l⟩
 ·
  exact lGI rfl λe=>oj e▸X8 [] (k:=fi)
 exact lGI rfl λe=>oj e▸X8 [] (k:=fi)⟩
instance Xvj:PZ 15 (∀ (a0:X2u) (r:Int),X6w a0=some r->Pz 15 [(X4b a0)] (aI .i64 r)):=⟨λa0 r=>by
 unfold X6w;exact psI fn15 21<|brI (λh1=>λe=>oj e▸X8 [Bt] (k:=fi)) λh1=>λe=>oj e▸X8 [Bf] (k:=fi)⟩
instance X040:PZ 45 (∀ (a0:Int) (r:Bool),Xbi a0=some r->Pz 45 [(aI .i64 a0)] (aB r)):=⟨λa0 r=>by
 unfold Xbi;exact psI fn45 9 λe=>oj e▸X8 [] (k:=fi)⟩
theorem Xiy {Q:Qt} {μ:Mu} (Xd6:(List Xv)) (hl:Xd6.length<=140737488355328):Dr Xd6 λxs k=>∀ o,Lq Tryz.prog 55 0 Q μ o (fun|.x0=>(.exit 0,⟨fr [],hp ([]),0⟩)|.x1=>(.ret,⟨fr [(2,(aI .i64 8))],hp ([]),0⟩))
  (X3l 0 (X1g Tryz.f16)) ⟨fr [(10,(Lf (Xd6.map Xd))),(11,(aI .i64 (Xd6.length:Int))),(12,(aI .i64 (k:Int)))],hp ([]),0⟩ (X4i Xd6 xs k ):=by
 refine drI ?_ ?_
 ·
  intro k hk hc  o C;rw[X4i];exact rdI<|λe=>X8 [Bf] (k:=wC e C)
 ·
  intro x xs k hk hg hc ih  o C;rw[X4i];refine rdI<|bI λX022 h52=>rnI [Bt,.el (Xd x),.stop 6] ?_;refine jnI ⟨fr [(4,(AV.ptr 0 0 0)),(5,(aB X022)),(10,(Lf (Xd6.map Xd))),(11,(aI .i64 (Xd6.length:Int))),(12,(aI .i64 (k:Int)))],hp ([(0,Ob [(Xd x)] 5)]),1⟩ h52 ?_ λJ=>brI (λh48=>bI λv49 h50=>brI (λh51=>λe=>X8 [Gt,Gt,Gt,.pure _ (aB v49),Gt,Gf,Gf,Gf,Gt] (k:=wJ [] J)) λh51=>λe=>X8 [Gt,Gt,Gt,.pure _ (aB v49),Gt,Gt,Gt,Gt,Gt] (k:=wJ [] J)) λh48=>λe=>X8 [Gf,Gf,Gf,Gf,Gf,Gf,Gf,Gf] (k:=wJ [] J);refine bI λX06y h60=>rnI [.stop 7] ?_;exact jnI ⟨fr [(4,(AV.ptr 0 0 0)),(5,(aB X022)),(6,(aB X06y)),(10,(Lf (Xd6.map Xd))),(11,(aI .i64 (Xd6.length:Int))),(12,(aI .i64 (k:Int)))],hp ([(0,Ob [(Xd x)] 5)]),1⟩ h60 (brI (λh61=>λe=>X8 [Bt] (k:=wC e C)) λh61=>rnK [Bf] (k:=wkI [] (ih   o C))) λJ=>brI (λh57=>bI λv58 h59=>λe=>X8 [Gt,Gt,Gt,Gt,.pure _ (aB v58)] (k:=wJ [] J)) λh57=>λe=>X8 [Gf,Gf,Gf,Gf] (k:=wJ [] J)
instance X01y:PZ 16 (∀ (a0:(List Xv)) (r:Int),Xbj a0=some r->Pz 16 [(Lf (a0.map Xd))] (aI .i64 r)):=⟨λa0 r=>by
 unfold Xbj;refine psI fn16 55<|brI (λh1=>λe=>oj e▸X8 [.el (aI .i64 (a0.length:Int)),Bt] (k:=fi)) λh1=>bI λu2 h3=>?_;have qh3:=X1b h3;refine bI λo62 h63=>rnI [.el (aI .i64 (a0.length:Int)),Bf,.el (aI .i64 (a0.length:Int))] ?_;intro h;refine wkT [] (X9.cut (drA (Xiy a0 qh3) _ ?_ h63));revert h;rcases o62 with _|_
 ·
  exact lGI rfl λe=>oj e▸X8 [] (k:=fi)
 exact lGI rfl λe=>oj e▸X8 [] (k:=fi)⟩
theorem Xwy {P:Prop} (h:P:=by repeat' first|apply Ya|exact pcM|(refine X14 h6 rfl ?_;first|(simp<;>omega))|(refine X03 h6 (by decide) ?_;first|(simp<;>omega))|(refine X14 h16 rfl ?_;first|(simp<;>omega))|(refine X03 h16 (by decide) ?_;first|(simp<;>omega))|(refine X14 h30 rfl ?_;first|(simp<;>omega))|(refine X03 h30 (by decide) ?_;first|(simp<;>omega))|exact X0y):P:=h
instance X01g:PZ 46 (∀ (a0:X6) (r:(List Int)),X9g a0=some r->Pz 46 [(Xa false a0)] (Lt (List.map (aI .u8) r))):=⟨λa0 r=>by
 unfold X9g;refine psI fn46 41<|bI λXrz h4=>rnI [.el (aI .i64 (a0.Where.length:Int))] ?_;refine jnI ⟨fr [(1,(AV.ptr 0 0 0)),(3,(AV.ref 1 0 (Xrz.length)))],hp ([(0,Ob [(Xa false a0)] 10),(1,Ob (List.map (aI .u8) Xrz) 1)]),2⟩ h4 ?_ λJ=>brI (λh3=>λe=>X8 [Bt,.no] (k:=wJ [(1,3)] J)) λh3=>λe=>X8 [Bf] (k:=wJ [] J);refine bI λu5 h6=>bI λXi2 h14=>rnI [.no] (o:=by repeat' first|apply Ya|exact pcM|(refine X14 h6 rfl ?_;first|(simp<;>omega))|(refine X03 h6 (by decide) ?_;first|(simp<;>omega))|exact X0y) ?_;refine jnI ⟨fr [(1,(AV.ptr 0 0 0)),(3,(AV.ref 1 0 (Xi2.length)))],hp ([(0,Ob [(Xa false a0)] 10),(1,Ob (List.map (aI .u8) Xi2) 1)]),2⟩ h14 ?_ λJ=>brI (λh11=>bI λu12 h13=>λe=>X8 [Bt,.no] (o:=by repeat' first|apply Ya|exact pcM|(refine X14 h6 rfl ?_;first|(simp<;>omega)|(simp[h11]<;>omega))|(refine X03 h6 (by decide) ?_;first|(simp<;>omega)|(simp[h11]<;>omega))|(refine X14 h13 rfl ?_;first|(simp<;>omega)|(simp[h11]<;>omega))|(refine X03 h13 (by decide) ?_;first|(simp<;>omega)|(simp[h11]<;>omega))|exact X0y) (k:=wJ [(1,5)] J)) λh11=>λe=>X8 [Bf] (o:=by repeat' first|apply Ya|exact pcM|(refine X14 h6 rfl ?_;first|(simp<;>omega)|(simp[h11]<;>omega))|(refine X03 h6 (by decide) ?_;first|(simp<;>omega)|(simp[h11]<;>omega))|exact X0y) (k:=wJ [(1,3)] J);refine bI λu15 h16=>bI λXl2 h28=>rnI [.no] (o:=by repeat' first|apply Ya|exact pcM|(refine X14 h6 rfl ?_;first|(simp<;>omega))|(refine X03 h6 (by decide) ?_;first|(simp<;>omega))|(refine X14 h16 rfl ?_;first|(simp<;>omega))|(refine X03 h16 (by decide) ?_;first|(simp<;>omega))|exact X0y) ?_;refine jnI ⟨fr [(1,(AV.ptr 0 0 0)),(3,(AV.ref 1 0 (Xl2.length)))],hp ([(0,Ob [(Xa false a0)] 10),(1,Ob (List.map (aI .u8) Xl2) 1)]),2⟩ h28 ?_ λJ=>brI (λh23=>bI λu24 h25=>λe=>X8 [Bt,.no] (o:=by repeat' first|apply Ya|exact pcM|(refine X14 h6 rfl ?_;first|(simp<;>omega)|(simp[h23]<;>omega))|(refine X03 h6 (by decide) ?_;first|(simp<;>omega)|(simp[h23]<;>omega))|(refine X14 h16 rfl ?_;first|(simp<;>omega)|(simp[h23]<;>omega))|(refine X03 h16 (by decide) ?_;first|(simp<;>omega)|(simp[h23]<;>omega))|(refine X14 h25 rfl ?_;first|(simp<;>omega)|(simp[h23]<;>omega))|(refine X03 h25 (by decide) ?_;first|(simp<;>omega)|(simp[h23]<;>omega))|exact X0y) (k:=wJ [(1,5)] J)) λh23=>bI λu26 h27=>λe=>X8 [Bf,.no] (o:=by repeat' first|apply Ya|exact pcM|(refine X14 h6 rfl ?_;first|(simp<;>omega)|(simp[h23]<;>omega))|(refine X03 h6 (by decide) ?_;first|(simp<;>omega)|(simp[h23]<;>omega))|(refine X14 h16 rfl ?_;first|(simp<;>omega)|(simp[h23]<;>omega))|(refine X03 h16 (by decide) ?_;first|(simp<;>omega)|(simp[h23]<;>omega))|(refine X14 h27 rfl ?_;first|(simp<;>omega)|(simp[h23]<;>omega))|(refine X03 h27 (by decide) ?_;first|(simp<;>omega)|(simp[h23]<;>omega))|exact X0y) (k:=wJ [(1,5)] J);refine bI λu29 h30=>bI λXt9 h38=>rnI [.no] (o:=Xwy) ?_;exact jnI ⟨fr [(3,(AV.ref 0 0 (Xt9.length)))],hp ([(0,Ob (List.map (aI .u8) Xt9) 1)]),1⟩ h38 (λe=>oj e▸X8 [] (o:=Xwy) (k:=fi)) λJ=>brI (λh35=>bI λu36 h37=>λe=>X8 [Bt,.no] (o:=by repeat' first|apply Ya|exact pcM|(refine X14 h6 rfl ?_;first|(simp<;>omega)|(simp[h35]<;>omega))|(refine X03 h6 (by decide) ?_;first|(simp<;>omega)|(simp[h35]<;>omega))|(refine X14 h16 rfl ?_;first|(simp<;>omega)|(simp[h35]<;>omega))|(refine X03 h16 (by decide) ?_;first|(simp<;>omega)|(simp[h35]<;>omega))|(refine X14 h30 rfl ?_;first|(simp<;>omega)|(simp[h35]<;>omega))|(refine X03 h30 (by decide) ?_;first|(simp<;>omega)|(simp[h35]<;>omega))|(refine X14 h37 rfl ?_;first|(simp<;>omega)|(simp[h35]<;>omega))|(refine X03 h37 (by decide) ?_;first|(simp<;>omega)|(simp[h35]<;>omega))|exact X0y) (k:=wJ [(0,5)] J)) λh35=>λe=>X8 [Bf] (o:=by repeat' first|apply Ya|exact pcM|(refine X14 h6 rfl ?_;first|(simp<;>omega)|(simp[h35]<;>omega))|(refine X03 h6 (by decide) ?_;first|(simp<;>omega)|(simp[h35]<;>omega))|(refine X14 h16 rfl ?_;first|(simp<;>omega)|(simp[h35]<;>omega))|(refine X03 h16 (by decide) ?_;first|(simp<;>omega)|(simp[h35]<;>omega))|(refine X14 h30 rfl ?_;first|(simp<;>omega)|(simp[h35]<;>omega))|(refine X03 h30 (by decide) ?_;first|(simp<;>omega)|(simp[h35]<;>omega))|exact X0y) (k:=wJ [(0,3)] J)⟩
instance X094:PZ 17 (∀ (a0:X6) (r:X5y×Int),Xkl a0=some r->Pz 17 [(Xa false a0)] (AV.tup [(X0b true r.1),(aI .i64 r.2)])):=⟨λa0 r=>by
 unfold Xkl;exact psI fn17 31<|bI λv1 h2=>brI (λh3=>λe=>oj e▸X8 [.pure _ (AV.tup [(aI .i64 v1.1),(aI .i64 v1.2)]),Bt] (k:=fi)) λh3=>bI λv4 h5=>bI λv6 h7=>bI λv8 h9=>bI λv10 h11=>λe=>oj e▸X8 [.pure _ (AV.tup [(aI .i64 v1.1),(aI .i64 v1.2)]),Bf,.pure _ (Lt (v4.map X0)),.pure _ (Lt (List.map (aI .i64) v6)),.pure _ (Lt (v8.map X0)),.pure _ (Lt (List.map (aI .u8) v10))] (k:=fi)⟩
theorem X8a {Q:Qt} {μ:Mu} (X0f:(List Int)) (X3n:(List Int)) (hl:X0f.length<=140737488355328):Dr X0f λxs k=>∀ o,Lq Tryz.prog 26 0 Q μ o (fun|.x0=>(.exit 0,⟨fr [],hp ([]),0⟩)|.x1=>(.ret,⟨fr [(4,(aB false))],hp ([]),0⟩))
  (X3l 0 (X1g Tryz.f72)) ⟨fr [(0,(Lf (List.map (aI .u8) X0f))),(1,(Lf (List.map (aI .u8) X3n))),(12,(aI .i64 (X0f.length:Int))),(13,(aI .i64 (k:Int)))],hp ([]),0⟩ (X0t X0f X3n xs k ):=by
 refine drI ?_ ?_
 ·
  intro k hk hc  o C;rw[X0t];exact rdI<|λe=>X8 [Bf] (k:=wC e C)
 ·
  intro x xs k hk hg hc ih  o C;rw[X0t];refine rdI<|bI λe11 h12=>?_;try have qh12:=Xo h12
  exact brI (λh13=>λe=>X8 [Bt,.el (aI .u8 x),.el (aI .u8 e11),Bt] (k:=wC e C)) λh13=>rnK [Bt,.el (aI .u8 x),.el (aI .u8 e11),Bf] (k:=wkI [] (ih   o C))
instance Xk6:PZ 72 (∀ (a0:(List Int)) (a1:(List Int)) (r:Bool),X2p a0 a1=some r->Pz 72 [(Lf (List.map (aI .u8) a0)),(Lf (List.map (aI .u8) a1))] (aB r)):=⟨λa0 a1 r=>by
 unfold X2p;refine psI fn72 26<|brI (λh1=>λe=>oj e▸X8 [.el (aI .i64 (a0.length:Int)),.el (aI .i64 (a1.length:Int)),Bt] (k:=fi)) λh1=>bI λu2 h3=>?_;have qh3:=X1b h3;refine bI λo14 h15=>rnI [.el (aI .i64 (a0.length:Int)),.el (aI .i64 (a1.length:Int)),Bf,.el (aI .i64 (a0.length:Int))] ?_;intro h;refine wkT [] (X9.cut (drA (X8a a0 a1 qh3) _ ?_ h15));revert h;rcases o14 with _|_
 ·
  exact lGI rfl λe=>oj e▸X8 [] (k:=fi)
 exact lGI rfl λe=>oj e▸X8 [] (k:=fi)⟩
instance X01h:PZ 47 (∀ (a0:X5y) (r:Int),X9h a0=some r->Pz 47 [(X0b false a0)] (aI .i64 r)):=⟨λa0 r=>by
 unfold X9h;exact psI fn47 21<|bI λv1 h2=>brI (λh3=>λe=>oj e▸X8 [.pure _ (AV.tup [(aI .i64 v1.1),(aI .i64 v1.2)]),Bt] (k:=fi)) λh3=>bI λv4 h5=>bI λv6 h7=>brI (λh8=>λe=>oj e▸X8 [.pure _ (AV.tup [(aI .i64 v1.1),(aI .i64 v1.2)]),Bf,.pure _ (Lt (List.map (aI .u8) v4)),.pure _ (aB v6),Bt] (k:=fi)) λh8=>λe=>oj e▸X8 [.pure _ (AV.tup [(aI .i64 v1.1),(aI .i64 v1.2)]),Bf,.pure _ (Lt (List.map (aI .u8) v4)),.pure _ (aB v6),Bf] (k:=fi)⟩
theorem Xb1 {Q:Qt} {μ:Mu} (Xs:X5y) (Xc:Int) (X40:Xu) (X64:Int):∀ (n:Nat) (X6h:(List GOp)) (X35:Int) (X6z:Nb X6h) (o:X47) (h:X3e Xs Xc X40 X64 n X6h X35=some o)
  (C0:∀ (z0i0_0_o4:(List GOp)) (nb_z0i0_0_o4:Nb z0i0_0_o4),o=X47.x0 z0i0_0_o4->X9 Tryz.prog 25 4 Q (.exit (.exit 0)) [] ⟨fr [(6,(aI .i64 0))],hp ([(0,Ob [(X0b false Xs)] 11),(1,Ob [(aI .i64 Xc)] 1),(2,Ob [(Xw true X40)] 2),(3,Ob [AV.agg [(slE nb_z0i0_0_o4.1 4 (z0i0_0_o4.map X0d)),AV.nils]] 2)]++opE nb_z0i0_0_o4.1 4 2 (z0i0_0_o4.map X0d)),5⟩ μ),
  X9 Tryz.prog 25 4 Q (.loop (X3l 0 (X1g Tryz.f48))) [] ⟨fr [(0,(aI .u8 1)),(2,(AV.ptr 3 0 0)),(6,(aI .i64 0)),(11,(aI .i64 X64)),(12,(aI .i64 X35))],hp ([(0,Ob [(X0b false Xs)] 11),(1,Ob [(aI .i64 Xc)] 1),(2,Ob [(Xw true X40)] 2),(3,Ob [AV.agg [(slE X6z.1 4 (X6h.map X0d)),AV.nils]] 2)]++opE X6z.1 4 2 (X6h.map X0d)),5⟩ μ:=by
 intro n
 induction n with
 |zero=>intro X6h X35 X6z o h C0;cases h
 |succ n ih =>
  intro X6h X35 X6z o h C0;rw[X3e] at h;rcases X6z with ⟨_|_,Xol⟩
  ·
   refine X9.round ?_;revert h;refine brI (λh40=>?_) λh40=>λe=>X8 [Bf] (k:=wkT [] (C0 _  nbF (oj e).symm));refine bI λu41 h42=>rnI [Bt,.no,.wrap] (o:=by repeat' first|apply Ya|exact pcM|(refine X14 h42 rfl ?_;first|(simp<;>omega)|(simp[h40]<;>omega))|(refine X03 h42 (by decide) ?_;first|(simp<;>omega)|(simp[h40]<;>omega))|exact X0y) ?_;intro h;exact wkT [(4,6)] (ih  _ _ nbF o h C0)
  obtain rfl:=Xol rfl;refine X9.round ?_;revert h;refine brI (λh43=>?_) λh43=>λe=>X8 [Bf] (k:=wkT [] (C0 _  nbS (oj e).symm));refine bI λu44 h45=>rnI [Bt,.no,.wrap] (o:=by repeat' first|apply Ya|exact pcM|(refine X14 h45 rfl ?_;first|(simp<;>omega)|(simp[h43]<;>omega))|(refine X03 h45 (by decide) ?_;first|(simp<;>omega)|(simp[h43]<;>omega))|exact X0y) ?_;intro h;exact wkT [(4,6)] (ih  _ _ nbF o h C0)
theorem Xab {Q:Qt} {μ:Mu} (Xs:X5y) (Xc:Int) (X40:Xu) (Xpo:Int) (X64:Int):∀ (n:Nat) (X9p:(List GOp)) (X35:Int) o,Lq Tryz.prog 25 5 Q μ o (fun|.x0 z0i1_0_o5=>(.exit 0,⟨fr [(6,(aI .i64 Xpo))],hp ([(0,Ob [(X0b false Xs)] 11),(1,Ob [(aI .i64 Xc)] 1),(2,Ob [(Xw true X40)] 2),(3,Ob [AV.agg [(AV.ref 5 0 (z0i1_0_o5.length)),AV.nils]] 2),(5,Ob (z0i1_0_o5.map X0d) 2)]),6⟩))
  (X3l 0 (X1g Tryz.f48)) ⟨fr [(0,(aI .u8 2)),(2,(AV.ptr 3 0 0)),(6,(aI .i64 Xpo)),(11,(aI .i64 X64)),(12,(aI .i64 X35))],hp ([(0,Ob [(X0b false Xs)] 11),(1,Ob [(aI .i64 Xc)] 1),(2,Ob [(Xw true X40)] 2),(3,Ob [AV.agg [(AV.ref 5 0 (X9p.length)),AV.nils]] 2),(5,Ob (X9p.map X0d) 2)]),6⟩ (X2t Xs Xc X40 Xpo X64 n X9p X35):=by
 intro n
 induction n with
 |zero=>intro X9p X35 o C h;cases h
 |succ n ih =>
  intro X9p X35 o C;rw[X2t];exact rdI<|brI (λh68=>bI λu69 h70=>rnK [Bt,.no,.wrap] (o:=by repeat' first|apply Ya|exact pcM|(refine X14 h70 rfl ?_;first|(simp<;>omega)|(simp[h68]<;>omega))|(refine X03 h70 (by decide) ?_;first|(simp<;>omega)|(simp[h68]<;>omega))|exact X0y) (k:=wkI [(5,7)] (ih  _ _ o C))) λh68=>λe=>X8 [Bf] (k:=wC e C)
end Go.Av.Tryz