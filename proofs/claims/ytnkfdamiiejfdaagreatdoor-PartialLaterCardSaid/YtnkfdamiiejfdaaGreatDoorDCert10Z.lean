/- Printed by decomp.py: that the program computes the functions. -/
import Derived.Test.YtnkfdamiiejfdaaGreatDoorDCert9Z
set_option linter.all false

namespace Go.Av.Tryz
open Go.Proofs Go.D Go.Proofs.Tryz
set_option maxRecDepth 10000
set_option maxHeartbeats 40000000
instance X05l:PZ 17 (∀ (a0:(List X1z)) (r:(List X1z)×Int),Xch a0=some r->Pz 17 [(Lf (a0.map Xa))] (AV.tup [(Lt (r.1.map Xa)),(aI .i64 r.2)])):=⟨λa0 r h=>by
 refine X15.sym X2 fn17 (nt:=10) rfl rfl ?_ okM;unfold Xch at h;revert h;refine bI λw18 h36=>?_;intro h;obtain⟨Xzl,X08x⟩:=w18;try dsimp only at h
 refine X0f [] ?_;refine X5.joinOpF (λ(q:Nb Xzl)=>⟨fr [(7,(AV.tup [(slE q.1 0 (Xzl.map Xa)),(aI .i64 X08x)]))],hp ([]++opE q.1 0 5 (Xzl.map Xa)),1⟩) ?_ (λJ=>?_)
 ·
  rintro Xyx;rcases Xyx with ⟨_|_,X001⟩<;>(try obtain rfl:=X001 rfl);all_goals
   revert h;exact λe=>oj e▸X8 [] (k:=fi)
 clear h;revert h36;intro h;refine X5.inline X2 fn38 rfl rfl rfl rfl rfl trivial trivial rfl rfl ?_;revert h;refine brI (λh19=>?_) λh19=>?_
 ·
  intro h;simp only[Option.some.injEq,Prod.mk.injEq] at h;obtain⟨rfl,rfl⟩:=h;refine X0f [.el (aI .i64 (a0.length:Int)),Bt] ?_;refine X5.back (by intro id h;cases h) rfl ?_;exact wkT [] ((J nbS))
 refine bI λXjx h31=>rnI [.el (aI .i64 (a0.length:Int)),Bf] ?_;intro h;refine X5.joinOpF (λ(q:Nb Xjx)=>⟨fr [(1,(AV.fn 39 [(AV.ptr 1 0 0)])),(11,(slE q.1 2 (Xjx.map Xa)))],hp ([(1,Ob [(AV.fn 37 [])] 1)]++opE q.1 2 5 (Xjx.map Xa)),3⟩) ?_ (λJ=>?_)
 ·
  rintro Xyv;rcases Xyv with ⟨_|_,Xzz⟩
  ·
   revert h;refine bI λm32 h33=>rnI [] ?_;intro h;refine X5.hcall rfl rfl rfl rfl rfl trivial trivial (X05i (enc:=Xa) (λ_=>rfl) (λ_=>rfl) (λ_=>X05u rfl) Tryz.sortLay76 rfl Tryz.isAgg44 Tryz.sizeOf44 Xp cvM (λx y r h=>X79 x y r h) (l:=Xjx) h33 rfl (by first|rfl|simp) ⟨_,_,fn76⟩ ⟨_,_,fn39⟩) ?_;have qlh33:(m32).length=(Xjx).length:=Xoj h33;simp only[Option.some.injEq,Prod.mk.injEq] at h;obtain⟨rfl,rfl⟩:=h;refine X0f [] (o:=by repeat' first|apply Ya|exact pcM|(simp[qlh33];done)|(simp[qlh33];omega)|exact X1i) ?_;refine X5.back (by intro id h;cases h) rfl ?_;exact wkT [(0,2)] ((J nbF))
  obtain rfl:=Xzz rfl;revert h;refine bI λm34 h35=>rnI [] ?_;intro h;obtain rfl:=Xoi h35;refine X5.hcall rfl rfl rfl rfl rfl trivial trivial (Xt3 (cap:=0) Tryz.sortLay76 rfl ⟨_,_,fn76⟩) ?_;simp only[Option.some.injEq,Prod.mk.injEq] at h;obtain⟨rfl,rfl⟩:=h;refine X0f [] ?_;refine X5.back (by intro id h;cases h) rfl ?_;exact wkT [] ((J nbS))
 clear h;revert h31;intro h;refine X5.inline X2 fn75 rfl rfl rfl rfl rfl trivial trivial rfl rfl ?_;revert h;refine brI (λq=>?_) λq=>?_
 ·
  intro h;have h26:a0=[]:=List.isEmpty_iff.1 q;refine X0f [] ?_;refine X5.eqNil X2 (may:=true) rfl rfl rfl rfl rfl rfl trivial (by simp[X64, *]) λb27 qb27=>?_;cases b27
  ·
   obtain rfl:=oj h;refine X0f [Bf,.ne false] ?_;refine X5.back (by intro id h;cases h) rfl ?_;exact wkT [(1,0)] ((J nbS))
  obtain rfl:=oj h;refine X0f [Bt] ?_;refine X5.back (by intro id h;cases h) rfl ?_;exact wkT [(1,0)] ((J nbS))
 intro h;have h26:¬ (a0=[]):=(λe=>by rw[e] at q;cases q);refine X0f [] ?_;refine X5.eqNil X2 (may:=false) rfl rfl rfl rfl rfl rfl trivial (by simp[X64, *]) λb28 qb28=>?_;obtain rfl:=qb28 rfl;revert h;refine bI λu29 h30=>?_;intro h;obtain rfl:=oj h;refine X0f [Bf,.via (Lt (a0.map Xa))] (o:=by repeat' first|apply Ya|exact pcM|(refine X0g h30 rfl ?_;first|(simp<;>omega)|(simp[h19,h26]<;>omega))|(refine Xv h30 (by decide) ?_;first|(simp<;>omega)|(simp[h19,h26]<;>omega))|exact X1i) ?_;refine X5.back (by intro id h;cases h) rfl ?_;exact wkT [(1,0)] ((J nbF))⟩
instance Xks:PZ 41 (∀ (a0:X6) (a1:X6) (r:Int),X26 a0 a1=some r->Pz 41 [(X0 a0),(X0 a1)] (aI .i64 r)):=⟨λa0 a1 r h=>by
 refine X15.sym X2 fn41 (nt:=22) rfl rfl ?_ okM;unfold X26 at h;revert h;exact bI λv1 h2=>bI λv3 h4=>bI λv5 h6=>bI λv7 h8=>λe=>oj e▸X8 [.pure _ (aI .i64 v1),.pure _ (aI .i64 v3),.pure _ (aI .i64 v5),.pure _ (aI .i64 v7)] (k:=fi)⟩
theorem X6h (a0:(List X6)) (r:(List X6)×Int) (h:X1h a0=some r):Pz 40 [(Lf (a0.map X0)),(AV.fn 41 [])] (AV.tup [(Lt (r.1.map X0)),(aI .i64 r.2)]):=by
 refine X15.sym X2 fn40 (nt:=16) rfl rfl ?_ okM;unfold X1h at h;revert h;refine brI (λh1=>λe=>oj e▸X8 [.el (aI .i64 (a0.length:Int)),Bt] (k:=fi)) λh1=>bI λXrd h13=>rnI [.el (aI .i64 (a0.length:Int)),Bf] ?_;intro h;refine X5.joinOpF (λ(q:Nb Xrd)=>⟨fr [(1,(AV.fn 41 [])),(11,(slE q.1 0 (Xrd.map X0)))],hp ([]++opE q.1 0 3 (Xrd.map X0)),1⟩) ?_ (λJ=>?_)
 ·
  rintro X03i;rcases X03i with ⟨_|_,X04e⟩
  ·
   revert h;refine bI λm14 h15=>rnI [] ?_;intro h;refine X5.hcall rfl rfl rfl rfl rfl trivial trivial (X05i (enc:=X0) (λ_=>rfl) (λ_=>rfl) (λ_=>X05u rfl) Tryz.sortLay78 rfl Tryz.isAgg59 Tryz.sizeOf59 X26 cvM (λx y r h=>Xks.ok x y r h) (l:=Xrd) h15 rfl (by first|rfl|simp) ⟨_,_,fn78⟩ ⟨_,_,fn41⟩) ?_;have qlh15:(m14).length=(Xrd).length:=Xoj h15;revert h;exact λe=>oj e▸X8 [] (o:=by repeat' first|apply Ya|exact pcM|(simp[qlh15];done)|(simp[qlh15];omega)|exact X1i) (k:=fi)
  obtain rfl:=X04e rfl;revert h;refine bI λm16 h17=>rnI [] ?_;intro h;obtain rfl:=Xoi h17;refine X5.hcall rfl rfl rfl rfl rfl trivial trivial (Xt3 (cap:=0) Tryz.sortLay78 rfl ⟨_,_,fn78⟩) ?_;revert h;exact λe=>oj e▸X8 [] (k:=fi)
 clear h;revert h13;intro h;refine X5.inline X2 fn77 rfl rfl rfl rfl rfl trivial trivial rfl rfl ?_;revert h;refine brI (λq=>?_) λq=>?_
 ·
  intro h;have h8:a0=[]:=List.isEmpty_iff.1 q;refine X0f [] ?_;refine X5.eqNil X2 (may:=true) rfl rfl rfl rfl rfl rfl trivial (by simp[X64, *]) λb9 qb9=>?_;cases b9
  ·
   obtain rfl:=oj h;refine X0f [Bf,.ne false] ?_;refine X5.back (by intro id h;cases h) rfl ?_;exact wkT [] ((J nbS))
  obtain rfl:=oj h;refine X0f [Bt] ?_;refine X5.back (by intro id h;cases h) rfl ?_;exact wkT [] ((J nbS))
 intro h;have h8:¬ (a0=[]):=(λe=>by rw[e] at q;cases q);refine X0f [] ?_;refine X5.eqNil X2 (may:=false) rfl rfl rfl rfl rfl rfl trivial (by simp[X64, *]) λb10 qb10=>?_;obtain rfl:=qb10 rfl;revert h;refine bI λu11 h12=>?_;intro h;obtain rfl:=oj h;refine X0f [Bf,.via (Lt (a0.map X0))] (o:=by repeat' first|apply Ya|exact pcM|(refine X0g h12 rfl ?_;first|(simp<;>omega)|(simp[h1,h8]<;>omega))|(refine Xv h12 (by decide) ?_;first|(simp<;>omega)|(simp[h1,h8]<;>omega))|exact X1i) ?_;refine X5.back (by intro id h;cases h) rfl ?_;exact wkT [(0,1)] ((J nbF))
instance X05m:PZ 18 (∀ (a0:(List X6)) (r:(List X6)×Int),Xci a0=some r->Pz 18 [(Lf (a0.map X0))] (AV.tup [(Lt (r.1.map X0)),(aI .i64 r.2)])):=⟨λa0 r h=>by
 refine X15.sym X2 fn18 (nt:=8) rfl rfl ?_ okM;unfold Xci at h;revert h;exact bI λv1 h2=>λe=>oj e▸X8 [.pure [(Lf (a0.map X0)),(AV.fn 41 [])] (AV.tup [(Lt (v1.1.map X0)),(aI .i64 v1.2)])] (o:=by repeat' first|apply Ya|exact pcM|exact(pn (X6h _ _ h2) (cc (X4o (X1s Xa6 a0)) (cc .fn0 cn)))|exact X1i) (k:=fi)⟩
theorem Xdv {Q:Qt} {μ:Mu} (Xdt:Int) (Xf:Xr) (X7z:(List X6)) (X0j:(List X6)) (Xeg:(List X1z)) (X1n:Nb X0j) (hl:Xeg.length<=140737488355328):∀ (xs:List X1z) (k:Nat) (hx:Xeg.drop k=xs) (X3w:(List X1z)) (Xdc:Nb X3w) (o:X5u) (h:X1q Xdt Xf X7z X0j Xeg xs k X3w=some o)
  (C0:∀ (Xcc:(List X1z)) (X25:(List X6)) (Xdb:Nb Xcc) (X1j:Nb X25),o=X5u.x0 Xcc X25->Sx 65 Q [(6,(AV.ptr 0 0 0)),(9,(Lt (X7z.map X0))),(11,(AV.ptr 1 0 0))] ([(0,Ob [(Xb true Xf)] 2),(1,Ob [AV.agg [(slE Xdb.1 2 (Xcc.map Xa)),(slE X1j.1 3 (X25.map X0))]] 2)]++opE Xdb.1 2 5 (Xcc.map Xa)++opE X1j.1 3 3 (X25.map X0)) 4 μ),
  Sl 65 Q f6 [(2,(aI .i64 Xdt)),(6,(AV.ptr 0 0 0)),(9,(Lt (X7z.map X0))),(11,(AV.ptr 1 0 0)),(25,(Lt (Xeg.map Xa))),(26,(aI .i64 (Xeg.length:Int))),(27,(aI .i64 (k:Int)))] ([(0,Ob [(Xb true Xf)] 2),(1,Ob [AV.agg [(slE Xdc.1 2 (X3w.map Xa)),(slE X1n.1 3 (X0j.map X0))]] 2)]++opE Xdc.1 2 5 (X3w.map Xa)++opE X1n.1 3 3 (X0j.map X0)) 4 μ:=by
 intro xs
 induction xs with
 |nil =>
  intro k hx X3w Xdc o h C0;have hk:=X2n hx;have hc:=lpN hx;rw[X1q] at h;rcases Xdc with ⟨_|_,Xni⟩
  ·
   rcases X1n with ⟨_|_,X4c⟩
   ·
    refine X5.round ?_;revert h;exact λe=>X8 [Bf] (k:=wkT [] (C0 _ _  nbF nbF (oj e).symm))
   obtain rfl:=X4c rfl;refine X5.round ?_;revert h;exact λe=>X8 [Bf] (k:=wkT [] (C0 _ _  nbF nbS (oj e).symm))
  ·
   obtain rfl:=Xni rfl;rcases X1n with ⟨_|_,X4c⟩
   ·
    refine X5.round ?_;revert h;exact λe=>X8 [Bf] (k:=wkT [] (C0 _ _  nbS nbF (oj e).symm))
   ·
    obtain rfl:=X4c rfl;refine X5.round ?_;revert h;exact λe=>X8 [Bf] (k:=wkT [] (C0 _ _  nbS nbS (oj e).symm))
 |cons x xs ih =>
  intro k hx X3w Xdc o h C0;obtain⟨hk,hg,hx1⟩:=X1w hx;have hc:=lpC hx;rw[X1q] at h;rcases Xdc with ⟨_|_,Xni⟩
  ·
   rcases X1n with ⟨_|_,X4c⟩
   ·
    refine X5.round ?_;revert h;refine bI λXp6 h78=>rnI [Bt,.el (Xa x)] ?_;intro h;refine X5.joinF (λ(q:Nb Xp6)=>⟨fr [(2,(aI .i64 Xdt)),(6,(AV.ptr 0 0 0)),(9,(Lt (X7z.map X0))),(11,(AV.ptr 1 0 0)),(25,(Lt (Xeg.map Xa))),(26,(aI .i64 (Xeg.length:Int))),(27,(aI .i64 (k:Int)))],hp ([(0,Ob [(Xb true Xf)] 2),(1,Ob [AV.agg [(slE q.1 2 (Xp6.map Xa)),(AV.ref 3 0 (X0j.length))]] 2),(3,Ob (X0j.map X0) 3)]++opE q.1 2 5 (Xp6.map Xa)),4⟩) ?_ (λJ=>X5.cut ?_)
    ·
     rintro Xyt;rcases Xyt with ⟨_|_,Xzx⟩
     ·
      exact X8 [] (k:=wkT [] (ih (k+1) hx1 _ nbF o h C0))
     obtain rfl:=Xzx rfl;exact X8 [] (k:=wkT [] (ih (k+1) hx1 _ nbS o h C0))
    clear h;revert h78;refine brI (λh75=>?_) λh75=>?_
    ·
     refine bI λu76 h77=>?_;intro h;obtain rfl:=oj h;exact X8 [Bt,.no] (o:=by repeat' first|apply Ya|exact pcM|(refine X0g h77 rfl ?_;first|(simp<;>omega)|(simp[hc,h75]<;>omega))|(refine Xv h77 (by decide) ?_;first|(simp<;>omega)|(simp[hc,h75]<;>omega))|exact X1i) (k:=wkT [(2,6)] (X5.glue (J nbF)))
    intro h;obtain rfl:=oj h;exact X8 [Bf] (k:=wkT [] (X5.glue (J nbF)))
   obtain rfl:=X4c rfl;refine X5.round ?_;revert h;refine bI λXzc h86=>rnI [Bt,.el (Xa x)] ?_;intro h;refine X5.joinF (λ(q:Nb Xzc)=>⟨fr [(2,(aI .i64 Xdt)),(6,(AV.ptr 0 0 0)),(9,(Lt (X7z.map X0))),(11,(AV.ptr 1 0 0)),(25,(Lt (Xeg.map Xa))),(26,(aI .i64 (Xeg.length:Int))),(27,(aI .i64 (k:Int)))],hp ([(0,Ob [(Xb true Xf)] 2),(1,Ob [AV.agg [(slE q.1 2 (Xzc.map Xa)),AV.nils]] 2)]++opE q.1 2 5 (Xzc.map Xa)),4⟩) ?_ (λJ=>X5.cut ?_)
   ·
    rintro Xys;rcases Xys with ⟨_|_,Xzw⟩
    ·
     exact X8 [] (k:=wkT [] (ih (k+1) hx1 _ nbF o h C0))
    obtain rfl:=Xzw rfl;exact X8 [] (k:=wkT [] (ih (k+1) hx1 _ nbS o h C0))
   clear h;revert h86;refine brI (λh83=>?_) λh83=>?_
   ·
    refine bI λu84 h85=>?_;intro h;obtain rfl:=oj h;exact X8 [Bt,.no] (o:=by repeat' first|apply Ya|exact pcM|(refine X0g h85 rfl ?_;first|(simp<;>omega)|(simp[hc,h83]<;>omega))|(refine Xv h85 (by decide) ?_;first|(simp<;>omega)|(simp[hc,h83]<;>omega))|exact X1i) (k:=wkT [(2,6)] (X5.glue (J nbF)))
   intro h;obtain rfl:=oj h;exact X8 [Bf] (k:=wkT [] (X5.glue (J nbF)))
  obtain rfl:=Xni rfl;rcases X1n with ⟨_|_,X4c⟩
  ·
   refine X5.round ?_;revert h;refine bI λXzb h94=>rnI [Bt,.el (Xa x)] ?_;intro h;refine X5.joinF (λ(q:Nb Xzb)=>⟨fr [(2,(aI .i64 Xdt)),(6,(AV.ptr 0 0 0)),(9,(Lt (X7z.map X0))),(11,(AV.ptr 1 0 0)),(25,(Lt (Xeg.map Xa))),(26,(aI .i64 (Xeg.length:Int))),(27,(aI .i64 (k:Int)))],hp ([(0,Ob [(Xb true Xf)] 2),(1,Ob [AV.agg [(slE q.1 2 (Xzb.map Xa)),(AV.ref 3 0 (X0j.length))]] 2),(3,Ob (X0j.map X0) 3)]++opE q.1 2 5 (Xzb.map Xa)),4⟩) ?_ (λJ=>X5.cut ?_)
   ·
    rintro Xyr;rcases Xyr with ⟨_|_,Xzv⟩
    ·
     exact X8 [] (k:=wkT [] (ih (k+1) hx1 _ nbF o h C0))
    obtain rfl:=Xzv rfl;exact X8 [] (k:=wkT [] (ih (k+1) hx1 _ nbS o h C0))
   clear h;revert h94;refine brI (λh91=>?_) λh91=>?_
   ·
    refine bI λu92 h93=>?_;intro h;obtain rfl:=oj h;exact X8 [Bt,.no] (o:=by repeat' first|apply Ya|exact pcM|(refine X0g h93 rfl ?_;first|(simp<;>omega)|(simp[hc,h91]<;>omega))|(refine Xv h93 (by decide) ?_;first|(simp<;>omega)|(simp[hc,h91]<;>omega))|exact X1i) (k:=wkT [(2,6)] (X5.glue (J nbF)))
   intro h;obtain rfl:=oj h;exact X8 [Bf] (k:=wkT [] (X5.glue (J nbS)))
  obtain rfl:=X4c rfl;refine X5.round ?_;revert h;refine bI λXza h102=>rnI [Bt,.el (Xa x)] ?_;intro h;refine X5.joinF (λ(q:Nb Xza)=>⟨fr [(2,(aI .i64 Xdt)),(6,(AV.ptr 0 0 0)),(9,(Lt (X7z.map X0))),(11,(AV.ptr 1 0 0)),(25,(Lt (Xeg.map Xa))),(26,(aI .i64 (Xeg.length:Int))),(27,(aI .i64 (k:Int)))],hp ([(0,Ob [(Xb true Xf)] 2),(1,Ob [AV.agg [(slE q.1 2 (Xza.map Xa)),AV.nils]] 2)]++opE q.1 2 5 (Xza.map Xa)),4⟩) ?_ (λJ=>X5.cut ?_)
  ·
   rintro Xyq;rcases Xyq with ⟨_|_,Xzu⟩
   ·
    exact X8 [] (k:=wkT [] (ih (k+1) hx1 _ nbF o h C0))
   obtain rfl:=Xzu rfl;exact X8 [] (k:=wkT [] (ih (k+1) hx1 _ nbS o h C0))
  clear h;revert h102;refine brI (λh99=>?_) λh99=>?_
  ·
   refine bI λu100 h101=>?_;intro h;obtain rfl:=oj h;exact X8 [Bt,.no] (o:=by repeat' first|apply Ya|exact pcM|(refine X0g h101 rfl ?_;first|(simp<;>omega)|(simp[hc,h99]<;>omega))|(refine Xv h101 (by decide) ?_;first|(simp<;>omega)|(simp[hc,h99]<;>omega))|exact X1i) (k:=wkT [(2,6)] (X5.glue (J nbF)))
  intro h;obtain rfl:=oj h;exact X8 [Bf] (k:=wkT [] (X5.glue (J nbS)))
instance Xuw:PZ 6 (∀ (a0:X00) (a1:(List (List Xq))) (a2:Int) (r:Xr×Int),X2v a0 a1 a2=some r->Pz 6 [(Xz false a0),(Lf (List.map (X6v false Xk) a1)),(aI .i64 a2)] (AV.tup [(Xb true r.1),(aI .i64 r.2)])):=⟨λa0 a1 a2 r h=>by
 refine X15.sym X2 fn6 (nt:=65) rfl rfl ?_ okM;unfold X2v at h;revert h;refine bI λv1 h2=>brI (λh3=>λe=>oj e▸X8 [.pure _ (AV.tup [(Lt (v1.1.map Xa)),(Lt (v1.2.1.map X0)),(aI .i64 v1.2.2)]),Bt] (k:=fi)) λh3=>bI λu4 h5=>?_;have qh5:=X05 h5;refine rnI [.pure _ (AV.tup [(Lt (v1.1.map Xa)),(Lt (v1.2.1.map X0)),(aI .i64 v1.2.2)]),Bf,.el (aI .i64 (v1.1.length:Int))] ?_;intro h;refine X5.denil 1 [AV.agg [(Lt (List.map Xa ([]:List X1z))),(Lt (List.map X0 ([]:List X6)))]] rfl rfl ?_;revert h;refine bI λo103 h104=>rnI [] ?_;intro h;refine wkT [(0,1),(1,2)] (X5.cut (Xdv a2 (Xr.mk ([]:List X1z) ([]:List X6)) v1.2.1 ([]:List X6) v1.1 nbS qh5 v1.1 0 (by simp) _ nbS _ h104 ?_));intro Xcc X25 Xdb X1j eo103;subst eo103;refine X5.glue ?_;try dsimp only at h
 rcases Xdb with ⟨_|_,Xvu⟩<;>(try obtain rfl:=Xvu rfl);all_goals
  rcases X1j with ⟨_|_,X5c⟩<;>(try obtain rfl:=X5c rfl);all_goals
   revert h;refine bI λv105 h106=>brI (λh107=>λe=>oj e▸X8 [.pure _ (AV.tup [(Lt (v105.1.map Xa)),(aI .i64 v105.2)]),Bt] (k:=fi)) λh107=>bI λv108 h109=>rnI [.pure _ (AV.tup [(Lt (v105.1.map Xa)),(aI .i64 v105.2)]),Bf,.pure _ (AV.tup [(Lt (v108.1.map X0)),(aI .i64 v108.2)])] ?_;exact brI (λh110=>λe=>oj e▸X8 [Bt] (k:=fi)) λh110=>λe=>oj e▸X8 [Bf] (k:=fi)⟩
instance Xy6:PZ 99 (∀ (a0:X6) (r:(List Int)),X9t a0=some r->Pz 99 [(X0 a0)] (Lt (List.map (aI .i64) r))):=⟨λa0 r h=>by
 refine X15.sym X2 fn99 (nt:=10) rfl rfl ?_ okM;unfold X9t at h;revert h;exact λe=>oj e▸X8 [] (k:=fi)⟩
theorem Xgd {Q:Qt} {μ:Mu} (X0e:(List Int)) (X9p:(List Int)) (hl:X0e.length<=140737488355328):Dr X0e λxs k=>∀ (o:Xc2) (h:X3r X0e X9p xs k  = some o),Lq Tryz.prog 30 0 Q μ o (fun|.x0=>(.exit 0,⟨fr [],hp ([]),0⟩)|.x1 X6w=>(.ret,⟨fr [(4,(aB X6w))],hp ([]),0⟩))
  (X5b 0 (X10 Tryz.f158)) ⟨fr [(0,(Lf (List.map (aI .i64) X0e))),(1,(Lf (List.map (aI .i64) X9p))),(5,(aI .i64 (k:Int)))],hp ([]),0⟩:=by
 refine drI ?_ ?_
 ·
  intro k hk hc  o h C;rw[X3r] at h;refine X5.round ?_;revert h;exact λe=>X8 [.el (aI .i64 (X0e.length:Int)),Bf] (k:=wC e C)
 ·
  intro x xs k hk hg hc ih  o h C;rw[X3r] at h;refine X5.round ?_;revert h;refine bI λe10 h11=>?_;try have qh11:=Xm h11
  refine brI (λh12=>λe=>X8 [.el (aI .i64 (X0e.length:Int)),Bt,.el (aI .i64 x),.el (aI .i64 e10),Bt,.el (aI .i64 x),.el (aI .i64 e10)] (k:=wC e C)) λh12=>rnI [.el (aI .i64 (X0e.length:Int)),Bt,.el (aI .i64 x),.el (aI .i64 e10),Bf] ?_;intro h;exact wkT [] (ih   o h C)
instance X01t:PZ 158 (∀ (a0:(List Int)) (a1:(List Int)) (r:Bool),X8z a0 a1=some r->Pz 158 [(Lf (List.map (aI .i64) a0)),(Lf (List.map (aI .i64) a1))] (aB r)):=⟨λa0 a1 r h=>by
 refine X15.sym X2 X0h4 (nt:=30) rfl rfl ?_ okM;unfold X8z at h;revert h;refine bI λu1 h2=>?_;have qh2:=X05 h2;refine bI λo13 h14=>rnI [] ?_;intro h;refine wkT [] (X5.cut (drA (Xgd a0 a1 qh2) _ h14 ?_));rcases o13 with _|⟨X6w⟩
 ·
  refine lG rfl ?_;try dsimp only at h
  revert h;exact λe=>oj e▸X8 [] (k:=fi)
 refine lG rfl ?_;try dsimp only at h
 revert h;exact λe=>oj e▸X8 [] (k:=fi)⟩
theorem Xgc {Q:Qt} {μ:Mu} (X0e:(List (List Int))) (Xg5:(List Int)) (X7z:(List Int)):∀ (n:Nat) (Xf:(List Int)) (X7s:Int) (Xej:Int) (X04:Nb Xf) (o:X83) (h:X2a X0e Xg5 X7z n Xf X7s Xej=some o)
  (C0:∀ (Xj:(List Int)) (Xu:Nb Xj),o=X83.x0 Xj->Sx 91 Q [(10,(slE Xu.1 0 (List.map (aI .i64) Xj)))] ([]++opE Xu.1 0 1 (List.map (aI .i64) Xj)) 1 μ),
  Sl 91 Q f100 [(0,(Lf (List.map (X6v false (aI .i64)) X0e))),(8,(Lt (List.map (aI .i64) Xg5))),(9,(Lt (List.map (aI .i64) X7z))),(10,(slE X04.1 0 (List.map (aI .i64) Xf))),(11,(aI .i64 X7s)),(12,(aI .i64 Xej))] ([]++opE X04.1 0 1 (List.map (aI .i64) Xf)) 1 μ:=by
 intro n
 induction n with
 |zero=>intro Xf X7s Xej X04 o h C0;cases h
 |succ n ih =>
  intro Xf X7s Xej X04 o h C0;rw[X2a] at h;rcases X04 with ⟨_|_,X1v⟩
  ·
   refine X5.round ?_;revert h;refine brI (λh152=>?_) λh152=>λe=>X8 [.el (aI .i64 (Xg5.length:Int)),.el (aI .i64 (X7z.length:Int)),Bf] (k:=wkT [] (C0 _  nbF (oj e).symm));refine bI λXrz h178=>rnI [.el (aI .i64 (Xg5.length:Int)),.el (aI .i64 (X7z.length:Int)),Bt,.stop 10] ?_;intro h;refine jn [(0,(Lf (List.map (X6v false (aI .i64)) X0e))),(8,(Lt (List.map (aI .i64) Xg5))),(9,(Lt (List.map (aI .i64) X7z))),(10,(AV.ref 0 0 (Xf.length))),(11,(aI .i64 X7s)),(12,(aI .i64 Xej)),(71,(aB Xrz))] ([(0,Ob (List.map (aI .i64) Xf) 1)]) 1 ?_ (λJ=>X5.cut ?_)
   ·
    revert h;refine brI (λh179=>?_) λh179=>?_
    ·
     refine bI λe180 h181=>?_;try have qh181:=Xm h181
     refine bI λu182 h183=>rnI [Bt,.el (aI .i64 e180),.no,.wrap] (o:=by repeat' first|apply Ya|exact pcM|(refine X0g h183 rfl ?_;first|(simp<;>omega)|(simp[h152,h179]<;>omega))|(refine Xv h183 (by decide) ?_;first|(simp<;>omega)|(simp[h152,h179]<;>omega))|exact X1i) ?_;intro h;exact wkT [(0,2)] (ih  _ _ _ nbF o h C0)
    refine bI λe184 h185=>?_;try have qh185:=Xm h185
    refine bI λu186 h187=>rnI [Bf,.el (aI .i64 e184),.no,.wrap] (o:=by repeat' first|apply Ya|exact pcM|(refine X0g h187 rfl ?_;first|(simp<;>omega)|(simp[h152,h179]<;>omega))|(refine Xv h187 (by decide) ?_;first|(simp<;>omega)|(simp[h152,h179]<;>omega))|exact X1i) ?_;intro h;exact wkT [(0,2)] (ih  _ _ _ nbF o h C0)
   clear h;revert h178;refine brI (λh166=>λe=>X8 [.el (aI .i64 (X7z.length:Int)),Gf,Gf,Gf,Gf,Gf,.no,.no,.no,.no,.no,.no,.no,.no,.no,.no,.no,.no,.no,.no,.no,.no,Gf,Gt] (k:=wJ [] J)) λh166=>?_;refine brI (λh167=>?_) λh167=>λe=>X8 [X33.el (aI .i64 (X7z.length:Int)),Gt,Gt,Gt,X33.el (aI .i64 (Xg5.length:Int)),Gt,Gt,Gf,Gf,Gf,Gf,Gf,Gf,Gf,Gf,Gf,Gf,Gf,Gf,Gf,Gf,Gf,Gf,Gt,Gf] (k:=wJ [] J);refine bI λe168 h169=>?_;try have qh169:=Xm h169
   refine bI λe170 h171=>?_;try have qh171:=Xm h171
   refine bI λe172 h173=>?_;try have qh173:=Xm h173
   refine bI λe174 h175=>?_;try have qh175:=Xm h175
   exact bI λv176 h177=>λe=>X8 [X33.el (aI .i64 (X7z.length:Int)),Gt,Gt,Gt,X33.el (aI .i64 (Xg5.length:Int)),Gt,Gt,Gt,Gt,Gt,Gt,X33.el (aI .i64 e168),Gt,Gt,X33.el (X6v false (aI .i64) e170),Gt,Gt,Gt,Gt,Gt,X33.el (aI .i64 e172),Gt,Gt,X33.el (X6v false (aI .i64) e174),Gt,Gt,X33.pure _ (aB v176),Gt,Gt] (k:=wJ [] J)
  obtain rfl:=X1v rfl;refine X5.round ?_;revert h;refine brI (λh188=>?_) λh188=>λe=>X8 [.el (aI .i64 (Xg5.length:Int)),.el (aI .i64 (X7z.length:Int)),Bf] (k:=wkT [] (C0 _  nbS (oj e).symm));refine bI λX08w h214=>rnI [.el (aI .i64 (Xg5.length:Int)),.el (aI .i64 (X7z.length:Int)),Bt,.stop 10] ?_;intro h;refine jn [(0,(Lf (List.map (X6v false (aI .i64)) X0e))),(8,(Lt (List.map (aI .i64) Xg5))),(9,(Lt (List.map (aI .i64) X7z))),(10,AV.nils),(11,(aI .i64 X7s)),(12,(aI .i64 Xej)),(71,(aB X08w))] ([]) 1 ?_ (λJ=>X5.cut ?_)
  ·
   revert h;refine brI (λh215=>?_) λh215=>?_
   ·
    refine bI λe216 h217=>?_;try have qh217:=Xm h217
    refine bI λu218 h219=>rnI [Bt,.el (aI .i64 e216),.no,.wrap] (o:=by repeat' first|apply Ya|exact pcM|(refine X0g h219 rfl ?_;first|(simp<;>omega)|(simp[h188,h215]<;>omega))|(refine Xv h219 (by decide) ?_;first|(simp<;>omega)|(simp[h188,h215]<;>omega))|exact X1i) ?_;intro h;exact wkT [(0,2)] (ih  _ _ _ nbF o h C0)
   refine bI λe220 h221=>?_;try have qh221:=Xm h221
   refine bI λu222 h223=>rnI [Bf,.el (aI .i64 e220),.no,.wrap] (o:=by repeat' first|apply Ya|exact pcM|(refine X0g h223 rfl ?_;first|(simp<;>omega)|(simp[h188,h215]<;>omega))|(refine Xv h223 (by decide) ?_;first|(simp<;>omega)|(simp[h188,h215]<;>omega))|exact X1i) ?_;intro h;exact wkT [(0,2)] (ih  _ _ _ nbF o h C0)
  clear h;revert h214;refine brI (λh202=>λe=>X8 [.el (aI .i64 (X7z.length:Int)),Gf,Gf,Gf,Gf,Gf,.no,.no,.no,.no,.no,.no,.no,.no,.no,.no,.no,.no,.no,.no,.no,.no,Gf,Gt] (k:=wJ [] J)) λh202=>?_;refine brI (λh203=>?_) λh203=>λe=>X8 [X33.el (aI .i64 (X7z.length:Int)),Gt,Gt,Gt,X33.el (aI .i64 (Xg5.length:Int)),Gt,Gt,Gf,Gf,Gf,Gf,Gf,Gf,Gf,Gf,Gf,Gf,Gf,Gf,Gf,Gf,Gf,Gf,Gt,Gf] (k:=wJ [] J);refine bI λe204 h205=>?_;try have qh205:=Xm h205
  refine bI λe206 h207=>?_;try have qh207:=Xm h207
  refine bI λe208 h209=>?_;try have qh209:=Xm h209
  refine bI λe210 h211=>?_;try have qh211:=Xm h211
  exact bI λv212 h213=>λe=>X8 [X33.el (aI .i64 (X7z.length:Int)),Gt,Gt,Gt,X33.el (aI .i64 (Xg5.length:Int)),Gt,Gt,Gt,Gt,Gt,Gt,X33.el (aI .i64 e204),Gt,Gt,X33.el (X6v false (aI .i64) e206),Gt,Gt,Gt,Gt,Gt,X33.el (aI .i64 e208),Gt,Gt,X33.el (X6v false (aI .i64) e210),Gt,Gt,X33.pure _ (aB v212),Gt,Gt] (k:=wJ [] J)
theorem X7m:∀ (n:Nat) (a0:(List (List Int))) (a1:Int) (a2:Int) (r:(List Int)) (h:X3q n a0 a1 a2=some r),Pz 100 [(Lf (List.map (X6v false (aI .i64)) a0)),(aI .i64 a1),(aI .i64 a2)] (Lt (List.map (aI .i64) r)):=by
 intro n
 induction n with
 |zero=>intro a0 a1 a2 r h;cases h
 |succ n ih =>
  intro a0 a1 a2 r h;have hrec:=ih;refine X15.sym X2 X0hm (nt:=91) rfl rfl ?_ (X13 .list (X13 .sc (X13 .sc X70)));rw[X3q] at h;revert h;refine brI (λh1=>brI (λh2=>λe=>oj e▸X8 [.wrap,Bt,Bt] (k:=fi)) λh2=>λe=>oj e▸X8 [.wrap,Bt,Bf] (k:=fi)) λh1=>?_;refine bI λv3 h4=>bI λv5 h6=>bI λo224 h225=>rnI [.wrap,Bf,.wrap,.wrap,.pure [(Lf (List.map (X6v false (aI .i64)) a0)),(aI .i64 a1),(aI .i64 (IntKind.i64.wrap (Int.tdiv (IntKind.i64.wrap (a1+a2)) 2)))] (Lt (List.map (aI .i64) v3)),.pure [(Lf (List.map (X6v false (aI .i64)) a0)),(aI .i64 (IntKind.i64.wrap (Int.tdiv (IntKind.i64.wrap (a1+a2)) 2))),(aI .i64 a2)] (Lt (List.map (aI .i64) v5))] (o:=by repeat' first|apply Ya|exact pcM|exact(pn (hrec _ _ _ _ h4) (cc (Xsk (λ_=>rfl) (λx=>Xbu (X4o (X1s (λ_=>Xa7) _))) a0) (cc .sc (cc .sc cn))))|exact(pn (hrec _ _ _ _ h6) (cc (Xsk (λ_=>rfl) (λx=>Xbu (X4o (X1s (λ_=>Xa7) _))) a0) (cc .sc (cc .sc cn))))|exact X1i) ?_;intro h;refine wkT [] (X5.cut (Xgc a0 v3 v5 _ _ _ _ nbS _ h225 ?_));intro Xj Xu eo224;subst eo224;refine X5.glue ?_;try dsimp only at h
  rcases Xu with ⟨_|_,X1r⟩<;>(try obtain rfl:=X1r rfl);all_goals
   revert h;exact λe=>oj e▸X8 [] (k:=fi)
theorem Xhs {Q:Qt} {μ:Mu} (X0e:(List X6)) (hl:X0e.length<=140737488355328):∀ (xs:List X6) (k:Nat) (hx:X0e.drop k=xs) (Xf:(List (List Int))) (X04:Nb Xf) (o:X92) (h:X3i X0e xs k Xf=some o)
  (C0:∀ (Xj:(List (List Int))) (Xu:Nb Xj),o=X92.x0 Xj->Sx 47 Q [(0,(Lf (X0e.map X0))),(4,(slE Xu.1 0 (List.map (X6v true (aI .i64)) Xj)))] ([]++opE Xu.1 0 1 (List.map (X6v true (aI .i64)) Xj)) 1 μ),
  Sl 47 Q f60 [(0,(Lf (X0e.map X0))),(4,(slE X04.1 0 (List.map (X6v true (aI .i64)) Xf))),(5,(aI .i64 (k:Int)))] ([]++opE X04.1 0 1 (List.map (X6v true (aI .i64)) Xf)) 1 μ:=by
 intro xs
 induction xs with
 |nil =>
  intro k hx Xf X04 o h C0;have hk:=X2n hx;have hc:=lpN hx;rw[X3i] at h;rcases X04 with ⟨_|_,X1v⟩
  ·
   refine X5.round ?_;revert h;exact λe=>X8 [.el (aI .i64 (X0e.length:Int)),Bf] (k:=wkT [] (C0 _  nbF (oj e).symm))
  ·
   obtain rfl:=X1v rfl;refine X5.round ?_;revert h;exact λe=>X8 [.el (aI .i64 (X0e.length:Int)),Bf] (k:=wkT [] (C0 _  nbS (oj e).symm))
 |cons x xs ih =>
  intro k hx Xf X04 o h C0;obtain⟨hk,hg,hx1⟩:=X1w hx;have hc:=lpC hx;rw[X3i] at h;rcases X04 with ⟨_|_,X1v⟩<;>(try obtain rfl:=X1v rfl);all_goals
   refine X5.round ?_;revert h;refine bI λv21 h22=>bI λu23 h24=>rnI [.el (aI .i64 (X0e.length:Int)),Bt,.el (X0 x),.pure _ (Lt (List.map (aI .i64) v21)),.no] (o:=by repeat' first|apply Ya|exact pcM|(refine X0g h24 rfl ?_;first|(simp<;>omega)|(simp[hc]<;>omega))|(refine Xv h24 (by decide) ?_;first|(simp<;>omega)|(simp[hc]<;>omega))|exact X1i) ?_;intro h;exact wkT [(0,2)] (ih (k+1) hx1 _ nbF o h C0)
theorem Xc3 {Q:Qt} {μ:Mu} (Xko:(List X6)) (y1_6:(List Int)) (hl:y1_6.length<=140737488355328):∀ (xs:List Int) (k:Nat) (hx:y1_6.drop k=xs) (X4w:(List X6)) (X59:Nb X4w) (o:X91) (h:X3h Xko y1_6 xs k X4w=some o)
  (C0:∀ (X47:(List X6)) (X30:Nb X47),o=X91.x0 X47->SK 47 Q (.exit (.exit 2)) [] ⟨fr [(7,(slE X30.1 0 (X47.map X0)))],hp ([]++opE X30.1 0 3 (X47.map X0)),1⟩ μ),
  SK 47 Q (.loop (X5b 1 (X10 Tryz.f60))) [] ⟨fr [(0,(Lf (Xko.map X0))),(6,(Lt (List.map (aI .i64) y1_6))),(7,(slE X59.1 0 (X4w.map X0))),(8,(aI .i64 (k:Int)))],hp ([]++opE X59.1 0 3 (X4w.map X0)),1⟩ μ:=by
 intro xs
 induction xs with
 |nil =>
  intro k hx X4w X59 o h C0;have hk:=X2n hx;have hc:=lpN hx;rw[X3h] at h;rcases X59 with ⟨_|_,Xbp⟩
  ·
   refine X5.round ?_;revert h;exact λe=>X8 [.el (aI .i64 (y1_6.length:Int)),Bf] (k:=wkT [] (C0 _  nbF (oj e).symm))
  ·
   obtain rfl:=Xbp rfl;refine X5.round ?_;revert h;exact λe=>X8 [.el (aI .i64 (y1_6.length:Int)),Bf] (k:=wkT [] (C0 _  nbS (oj e).symm))
 |cons x xs ih =>
  intro k hx X4w X59 o h C0;obtain⟨hk,hg,hx1⟩:=X1w hx;have hc:=lpC hx;rw[X3h] at h;rcases X59 with ⟨_|_,Xbp⟩<;>(try obtain rfl:=Xbp rfl);all_goals
   refine X5.round ?_;revert h;refine bI λe52 h53=>?_;try have qh53:=Xm h53
   refine bI λu54 h55=>rnI [.el (aI .i64 (y1_6.length:Int)),Bt,.el (aI .i64 x),.el (X0 e52),.no] (o:=by repeat' first|apply Ya|exact pcM|(refine X0g h55 rfl ?_;first|(simp<;>omega)|(simp[hc]<;>omega))|(refine Xv h55 (by decide) ?_;first|(simp<;>omega)|(simp[hc]<;>omega))|exact X1i) ?_;intro h;exact wkT [(0,2)] (ih (k+1) hx1 _ nbF o h C0)
end Go.Av.Tryz