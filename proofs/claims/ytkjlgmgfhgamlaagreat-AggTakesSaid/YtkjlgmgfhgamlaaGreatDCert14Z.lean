/- Printed by decomp.py: that the program computes the functions. -/
import Derived.Test.YtkjlgmgfhgamlaaGreatDCert13Z
set_option linter.all false

namespace Go.Av.Tryz
open Go.Proofs Go.D
set_option maxRecDepth 10000
set_option maxHeartbeats 40000000
instance X02w:PCs Tryz.prog 203 (∀ (a0:Int) (r:Int),Xi8 a0=some r->X0a Tryz.prog 203 [(aI .i64 a0)] (aI .i64 r)):=⟨λa0 r h=>by
 refine X0a.sym X3 X0bh (nt:=11) rfl rfl ?_ okM;unfold Xi8 at h;revert h;exact brI (λh1=>λe=>oj e▸X6 [Bt,.wrap,.wrap] (k:=fi)) λh1=>λe=>oj e▸X6 [Bf,.wrap] (k:=fi)⟩
instance Xwg:PCs Tryz.prog 204 (∀ (a0:Int) (a1:Int) (a2:Int) (r:Bool),Xdl a0 a1 a2=some r->X0a Tryz.prog 204 [(aI .u8 a0),(aI .i64 a1),(aI .i64 a2)] (aB r)):=⟨λa0 a1 a2 r h=>by
 refine X0a.sym X3 X0bg (nt:=46) rfl rfl ?_ okM;unfold Xdl at h;revert h;exact brI (λh1=>λe=>oj e▸X6 [Bt] (k:=fi)) λh1=>brI (λh2=>λe=>oj e▸X6 [Bf,Bt] (k:=fi)) λh2=>brI (λh3=>λe=>oj e▸X6 [Bf,Bf,Bt] (k:=fi)) λh3=>brI (λh4=>λe=>oj e▸X6 [Bf,Bf,Bf,Bt] (k:=fi)) λh4=>brI (λh5=>λe=>oj e▸X6 [Bf,Bf,Bf,Bf,Bt] (k:=fi)) λh5=>λe=>oj e▸X6 [Bf,Bf,Bf,Bf,Bf] (k:=fi)⟩
theorem Xi9 {Q:X04->St->Mu->Prop} {μ:Mu} (Xfy:Int):∀ (n:Nat) (Xa6:Int) (Xr0:Int) (o:X9t) (h:X9c Xfy n Xa6 Xr0=some o)
  (C0:∀ (Xn5:Int),o=X9t.x0 Xn5->X2 Tryz.prog 74 0 Q (.exit (.exit 1)) [] ⟨fr [(1,(aI .i64 Xn5))],hp ([]),0⟩ μ),
  X2 Tryz.prog 74 0 Q (.loop (X2p 0 (Xd Tryz.f182))) [] ⟨fr [(1,(aI .i64 Xa6)),(2,(aI .i64 Xfy)),(7,(aI .i64 Xr0))],hp ([]),0⟩ μ:=by
 intro n
 induction n with
 |zero=>intro Xa6 Xr0 o h C0;cases h
 |succ n ih =>
  intro Xa6 Xr0 o h C0;rw[X9c] at h;refine X2.round ?_;revert h;refine bI λv25 h26=>brI (λh27=>?_) λh27=>λe=>X6 [.pure _ (aI .i64 v25),Bf] (k:=wkT [] (C0 _  (oj e).symm));refine bI λv28 h29=>rnI [.pure _ (aI .i64 v25),Bt,.pure _ (aI .i64 v28),.wrap] ?_;intro h;exact wkT [] (ih  _ _ o h C0)
instance X01g:PCs Tryz.prog 182 (∀ (a0:Int) (a1:Int) (a2:Int) (r:Int),Xbc a0 a1 a2=some r->X0a Tryz.prog 182 [(aI .u8 a0),(aI .i64 a1),(aI .i64 a2)] (aI .i64 r)):=⟨λa0 a1 a2 r h=>by
 refine X0a.sym X3 X0bs (nt:=74) rfl rfl ?_ okM;unfold Xbc at h;revert h;refine brI (λh1=>λe=>oj e▸X6 [Bt,.wrap] (k:=fi)) λh1=>brI (λh2=>bI λv3 h4=>λe=>oj e▸X6 [Bf,Bt,.pure _ (aI .i64 v3)] (k:=fi)) λh2=>brI (λh5=>λe=>oj e▸X6 [Bf,Bf,Bt,.wrap] (k:=fi)) λh5=>brI (λh6=>λe=>oj e▸X6 [Bf,Bf,Bf,Bt,.wrap] (k:=fi)) λh6=>brI (λh7=>λe=>oj e▸X6 [Bf,Bf,Bf,Bf,Bt,.wrap] (k:=fi)) λh7=>brI (λh8=>bI λv9 h10=>bI λv11 h12=>λe=>oj e▸X6 [Bf,Bf,Bf,Bf,Bf,Bt,.pure _ (aI .i64 v9),.pure _ (aI .i64 v11),.wrap] (k:=fi)) λh8=>?_;refine brI (λh13=>?_) λh13=>brI (λh32=>bI λv33 h34=>λe=>oj e▸X6 [Bf,Bf,Bf,Bf,Bf,Bf,Bf,Bt,.pure _ (aI .i64 v33)] (k:=fi)) λh32=>brI (λh35=>bI λv36 h37=>λe=>oj e▸X6 [Bf,Bf,Bf,Bf,Bf,Bf,Bf,Bf,Bt,.pure _ (aI .i64 v36)] (k:=fi)) λh35=>bI λv38 h39=>bI λv40 h41=>λe=>oj e▸X6 [Bf,Bf,Bf,Bf,Bf,Bf,Bf,Bf,Bf,.pure _ (aB v38),.pure _ (aI .i64 v40)] (k:=fi);refine bI λo30 h31=>rnI [Bf,Bf,Bf,Bf,Bf,Bf,Bt] ?_;intro h;refine wkT [] (X2.cut (Xi9 a2 _ _ _ _ h31 ?_));intro Xn5 eo30;subst eo30;refine X2.glue ?_;try dsimp only at h
 revert h;exact λe=>oj e▸X6 [] (k:=fi)⟩
instance X02q:PCs Tryz.prog 160 (∀ (a0:Xn) (a1:Int) (r:Xn),Xfd a0 a1=some r->X0a Tryz.prog 160 [(Xw a0),(aI .i64 a1)] (Xw r)):=⟨λa0 a1 r h=>by
 refine X0a.sym X3 X0c9 (nt:=34) rfl rfl ?_ okM;unfold Xfd at h;revert h;refine bI λXs7 h4=>rnI [] ?_;intro h;refine X2.join (s':=⟨fr [(1,(aI .i64 a1)),(2,(AV.ptr 0 0 0)),(4,(AV.ptr 1 0 0))],hp ([(0,Ob [(Xw Xs7)] 4),(1,Ob [(Xw (Xn.mk 0 0 0 0))] 4)]),2⟩) ?_ (λJ=>X2.cut ?_)
 ·
  revert h;refine bI λXs0 h8=>rnI [] ?_;intro h;refine X2.join (s':=⟨fr [(1,(aI .i64 a1)),(2,(AV.ptr 0 0 0)),(4,(AV.ptr 1 0 0))],hp ([(0,Ob [(Xw Xs0)] 4),(1,Ob [(Xw (Xn.mk 0 0 0 0))] 4)]),2⟩) ?_ (λJ=>X2.cut ?_)
  ·
   revert h;refine bI λXnq h12=>rnI [] ?_;intro h;refine X2.join (s':=⟨fr [(1,(aI .i64 a1)),(2,(AV.ptr 0 0 0)),(4,(AV.ptr 1 0 0))],hp ([(0,Ob [(Xw Xnq)] 4),(1,Ob [(Xw (Xn.mk 0 0 0 0))] 4)]),2⟩) ?_ (λJ=>X2.cut ?_)
   ·
    revert h;exact bI λv13 h14=>λe=>oj e▸X6 [.wrap,.pure _ (aI .i64 v13)] (k:=fi)
   clear h;revert h12;refine brI (λh11=>?_) λh11=>?_
   ·
    intro h;obtain rfl:=oj h;exact X6 [Bt] (k:=wkT [] (X2.glue J))
   intro h;obtain rfl:=oj h;exact X6 [Bf] (k:=wkT [] (X2.glue J))
  clear h;revert h8;refine brI (λh7=>?_) λh7=>?_
  ·
   intro h;obtain rfl:=oj h;exact X6 [Bt] (k:=wkT [] (X2.glue J))
  intro h;obtain rfl:=oj h;exact X6 [Bf] (k:=wkT [] (X2.glue J))
 clear h;revert h4;refine brI (λh3=>?_) λh3=>?_
 ·
  intro h;obtain rfl:=oj h;exact X6 [Bt] (k:=wkT [] (X2.glue J))
 intro h;obtain rfl:=oj h;exact X6 [Bf] (k:=wkT [] (X2.glue J))⟩
instance X05z:PCs Tryz.prog 140 (∀ (a0:Int) (r:Xn),Xfe a0=some r->X0a Tryz.prog 140 [(aI .i64 a0)] (Xw r)):=⟨λa0 r h=>by
 refine X0a.sym X3 X0cm (nt:=6) rfl rfl ?_ okM;unfold Xfe at h;revert h;exact bI λv1 h2=>λe=>oj e▸X6 [.pure _ (Xw v1)] (k:=fi)⟩
instance Xwd:PCs Tryz.prog 161 (∀ (a0:Xz) (a1:Xz) (r:Bool),X4u a0 a1=some r->X0a Tryz.prog 161 [(Xr a0),(Xr a1)] (aB r)):=⟨λa0 a1 r h=>by
 refine X0a.sym X3 X0c8 (nt:=17) rfl rfl ?_ okM;unfold X4u at h;revert h;exact λe=>oj e▸X6 [] (k:=fi)⟩
instance X02s:PCs Tryz.prog 183 (∀ (a0:Xn) (a1:Xn) (r:Xn),Xae a0 a1=some r->X0a Tryz.prog 183 [(Xw a0),(Xw a1)] (Xw r)):=⟨λa0 a1 r h=>by
 refine X0a.sym X3 X0br (nt:=46) rfl rfl ?_ okM;unfold Xae at h;revert h;refine brI (λh1=>λe=>oj e▸X6 [Bt] (k:=fi)) λh1=>brI (λh2=>λe=>oj e▸X6 [Bf,Bt] (k:=fi)) λh2=>bI λv3 h4=>bI λXrz h8=>rnI [Bf,Bf,.wrap,.pure _ (aI .i64 v3)] ?_;intro h;refine X2.join (s':=⟨fr [(3,(AV.ptr 0 0 0)),(4,(AV.ptr 1 0 0)),(5,(AV.ptr 2 0 0))],hp ([(0,Ob [(Xw a1)] 4),(1,Ob [(Xw (Xn.mk 0 0 0 0))] 4),(2,Ob [(Xw Xrz)] 4)]),3⟩) ?_ (λJ=>X2.cut ?_)
 ·
  revert h;refine bI λXz7 h12=>rnI [] ?_;intro h;refine X2.join (s':=⟨fr [(4,(AV.ptr 0 0 0)),(5,(AV.ptr 1 0 0))],hp ([(0,Ob [(Xw (Xn.mk 0 0 0 0))] 4),(1,Ob [(Xw Xz7)] 4)]),2⟩) ?_ (λJ=>X2.cut ?_)
  ·
   revert h;exact λe=>oj e▸X6 [] (k:=fi)
  clear h;revert h12;refine brI (λh11=>?_) λh11=>?_
  ·
   intro h;obtain rfl:=oj h;exact X6 [Bt] (k:=wkT [(0,1),(1,2)] (X2.glue J))
  intro h;obtain rfl:=oj h;exact X6 [Bf] (k:=wkT [(0,1),(1,2)] (X2.glue J))
 clear h;revert h8;refine brI (λh7=>?_) λh7=>?_
 ·
  intro h;obtain rfl:=oj h;exact X6 [Bt] (k:=wkT [(0,1),(1,2),(2,18)] (X2.glue J))
 intro h;obtain rfl:=oj h;exact X6 [Bf] (k:=wkT [(0,1),(1,2),(2,18)] (X2.glue J))⟩
instance X02p:PCs Tryz.prog 162 (∀ (a0:X1) (a1:X1) (r:X1×Bool),Xd0 a0 a1=some r->X0a Tryz.prog 162 [(X0 a0),(X0 a1)] (AV.tup [(X0 r.1),(aB r.2)])):=⟨λa0 a1 r h=>by
 refine X0a.sym X3 X0c7 (nt:=59) rfl rfl ?_ okM;unfold Xd0 at h;refine X0g [] ?_;refine X2.round ?_;revert h;refine bI λv3 h4=>rnI [Bt,Gt,Gt,Gt,.ix 0,Gt,Gt,Gt,Gt,Gt,.ix 0,Gt,Gt,Gt,.wrap,Gt,.ix 0,.ix 0,.pure _ (Xw v3),.ix 0] ?_;intro h;refine X2.round ?_;revert h;refine bI λj6_6 h8=>rnI [Bt,.stop 5] ?_;intro h;refine X2.join (s':=⟨fr [(2,(AV.ptr 0 0 0)),(3,(AV.ptr 1 0 0)),(4,(AV.ptr 2 0 0)),(6,(aB j6_6)),(7,(aI .i64 1))],hp ([(0,Ob [(X0 (X1.mk a0.Key a0.Span (V2.mk v3 a0.Values.e1)))] 11),(1,Ob [(X0 a1)] 11),(2,Ob [(X0 (X1.mk 0 (Xz.mk 0 0) (V2.mk (Xn.mk 0 0 0 0) (Xn.mk 0 0 0 0))))] 11)]),3⟩) ?_ (λJ=>X2.cut ?_)
 ·
  revert h;refine bI λv11 h12=>rnI [.ix 1,.ix 1,.pure _ (Xw v11),.ix 1] ?_;intro h;refine X2.round ?_;revert h;exact λe=>oj e▸X6 [Bf,.see [(51,[1]),(52,[])]] (k:=fi)
 clear h;revert h8;refine brI (λh7=>?_) λh7=>?_
 ·
  intro h;obtain rfl:=oj h;exact X6 [Gt,Gt,Gt,.ix 1,Gt,Gt,Gt,Gt,Gt,.ix 1,Gt,Gt,Gt,.wrap,Gt] (k:=wkT [] (X2.glue J))
 intro h;obtain rfl:=oj h;exact X6 [Gf,Gf,Gf,Gf,Gf,Gf,Gf,Gf,Gf,Gf,Gf,Gf,Gf] (k:=wkT [] (X2.glue J))⟩
theorem Xe0 {Q:X04->St->Mu->Prop} {μ:Mu} (Xw9:Bool) (X9e:(List X1)) (Xkd:Nb X9e) (hl:X9e.length<=140737488355328):∀ (xs:List X1) (k:Nat) (hx:X9e.drop k=xs) (X2c:X1) (Xwr:Bool) (Xmg:Bool) (Xgj:(List X1)) (Xc3:Nb Xgj) (o:Xb4) (h:X16 Xw9 X9e xs k X2c Xwr Xmg Xgj=some o)
  (C0:∀ (X3w:X1) (Xkk:Bool) (Xg6:Bool) (Xdd:(List X1)) (Xah:Nb Xdd),o=Xb4.x0 X3w Xkk Xg6 Xdd->X2 Tryz.prog 74 0 Q (.exit (.exit 2)) [] ⟨fr [(2,(aB Xw9)),(4,(AV.ptr 0 0 0)),(9,(aB Xkk)),(10,(aB Xg6)),(11,(slE Xah.1 1 (Xdd.map X0)))],hp ([(0,Ob [(X0 X3w)] 11)]++opE Xah.1 1 11 (Xdd.map X0)),2⟩ μ),
  X2 Tryz.prog 74 0 Q (.loop (X2p 1 (Xd Tryz.f141))) [] ⟨fr [(2,(aB Xw9)),(4,(AV.ptr 0 0 0)),(8,(slE Xkd.1 1 (X9e.map X0))),(9,(aB Xwr)),(10,(aB Xmg)),(11,(slE Xc3.1 2 (Xgj.map X0))),(12,(aI .i64 (k:Int)))],hp ([(0,Ob [(X0 X2c)] 11)]++opE Xkd.1 1 11 (X9e.map X0)++opE Xc3.1 2 11 (Xgj.map X0)),3⟩ μ:=by
 intro xs
 induction xs with
 |nil =>
  intro k hx X2c Xwr Xmg Xgj Xc3 o h C0;have hk:=X1f hx;have hc:decide ((k:Int)<(X9e.length:Int))=false:=Yf om;rw[X16] at h;rcases Xkd with ⟨_|_,Xos⟩
  ·
   rcases Xc3 with ⟨_|_,Xdr⟩
   ·
    refine X2.round ?_;revert h;exact λe=>X6 [.el (aI .i64 (X9e.length:Int)),Bf] (k:=wkT [(1,2)] (C0 _ _ _ _  nbF (oj e).symm))
   obtain rfl:=Xdr rfl;refine X2.round ?_;revert h;exact λe=>X6 [.el (aI .i64 (X9e.length:Int)),Bf] (k:=wkT [] (C0 _ _ _ _  nbS (oj e).symm))
  ·
   obtain rfl:=Xos rfl;rcases Xc3 with ⟨_|_,Xdr⟩
   ·
    refine X2.round ?_;revert h;exact λe=>X6 [.el (aI .i64 (List.length ([]:List X1):Int)),Bf] (k:=wkT [(1,2)] (C0 _ _ _ _  nbF (oj e).symm))
   ·
    obtain rfl:=Xdr rfl;refine X2.round ?_;revert h;exact λe=>X6 [.el (aI .i64 (List.length ([]:List X1):Int)),Bf] (k:=wkT [] (C0 _ _ _ _  nbS (oj e).symm))
 |cons x xs ih =>
  intro k hx X2c Xwr Xmg Xgj Xc3 o h C0;obtain⟨hk,hg,hx1⟩:=X0u hx;have hc:decide ((k:Int)<(X9e.length:Int))=true:=Yt om;rw[X16] at h;rcases Xkd with ⟨_|_,Xos⟩
  ·
   rcases Xc3 with ⟨_|_,Xdr⟩
   ·
    refine X2.round ?_;revert h;refine bI λXor h1364=>rnI [.el (aI .i64 (X9e.length:Int)),Bt,.el (X0 x),.ld (X0 x),.stop 11] ?_;intro h;refine X2.join (s':=⟨fr [(2,(aB Xw9)),(4,(AV.ptr 0 0 0)),(8,(AV.ref 1 0 (X9e.length))),(9,(aB Xwr)),(10,(aB Xmg)),(11,(AV.ref 2 0 (Xgj.length))),(12,(aI .i64 (k:Int))),(13,(AV.ptr 3 0 0)),(51,(aB Xor))],hp ([(0,Ob [(X0 X2c)] 11),(1,Ob (X9e.map X0) 11),(2,Ob (Xgj.map X0) 11),(3,Ob [(X0 x)] 11)]),4⟩) ?_ (λJ=>X2.cut ?_)
    ·
     revert h;refine brI (λh1365=>?_) λh1365=>?_
     ·
      refine bI λv1366 h1367=>rnI [Bt,.pure _ (AV.tup [(X0 v1366.1),(aB v1366.2)])] ?_;intro h;exact wkT [] (ih (k+1) hx1 _ _ _ _ nbF o h C0)
     refine bI λu1368 h1369=>rnI [Bf,.no] (o:=by repeat' first|apply Ya|exact pcM|(refine X0t h1369 rfl ?_;first|(simp<;>omega)|(simp[hc,h1365]<;>omega))|(refine X09 h1369 (by decide) ?_;first|(simp<;>omega)|(simp[hc,h1365]<;>omega))|exact Xv) ?_;intro h;exact wkT [(2,5)] (ih (k+1) hx1 _ _ _ _ nbF o h C0)
    clear h;revert h1364;refine brI (λh1359=>?_) λh1359=>?_
    ·
     refine brI (λh1360=>?_) λh1360=>?_
     ·
      intro h;obtain rfl:=oj h;exact X6 [Gt,Gt,Gt,Gt,Gt,Gt,Gf,Gf,Gf,Gf,Gf,Gf,Gf,Gf,Gt] (k:=wkT [] (X2.glue J))
     refine brI (λh1361=>?_) λh1361=>?_
     ·
      refine bI λv1362 h1363=>?_;intro h;obtain rfl:=oj h;exact X6 [Gt,Gt,Gt,Gt,Gt,Gt,Gt,Gt,Gt,Gt,Gt,Gt,Gt,.pure _ (aB v1362),Gt,Gt] (k:=wkT [] (X2.glue J))
     intro h;obtain rfl:=oj h;exact X6 [Gt,Gt,Gt,Gt,Gt,Gt,Gt,Gt,Gf,Gf,Gf,Gf,Gf,Gt,Gt] (k:=wkT [] (X2.glue J))
    intro h;obtain rfl:=oj h;exact X6 [Gf,Gf,Gf,Gf,Gf,Gf,Gf,Gf,Gf,Gf,Gf,Gf,Gf,Gf,Gf] (k:=wkT [] (X2.glue J))
   obtain rfl:=Xdr rfl;refine X2.round ?_;revert h;refine bI λX03q h1381=>rnI [.el (aI .i64 (X9e.length:Int)),Bt,.el (X0 x),.ld (X0 x),.stop 11] ?_;intro h;refine X2.join (s':=⟨fr [(2,(aB Xw9)),(4,(AV.ptr 0 0 0)),(8,(AV.ref 1 0 (X9e.length))),(9,(aB Xwr)),(10,(aB Xmg)),(11,AV.nils),(12,(aI .i64 (k:Int))),(13,(AV.ptr 3 0 0)),(51,(aB X03q))],hp ([(0,Ob [(X0 X2c)] 11),(1,Ob (X9e.map X0) 11),(3,Ob [(X0 x)] 11)]),4⟩) ?_ (λJ=>X2.cut ?_)
   ·
    revert h;refine brI (λh1382=>?_) λh1382=>?_
    ·
     refine bI λv1383 h1384=>rnI [Bt,.pure _ (AV.tup [(X0 v1383.1),(aB v1383.2)])] ?_;intro h;exact wkT [] (ih (k+1) hx1 _ _ _ _ nbS o h C0)
    refine bI λu1385 h1386=>rnI [Bf,.no] (o:=by repeat' first|apply Ya|exact pcM|(refine X0t h1386 rfl ?_;first|(simp<;>omega)|(simp[hc,h1382]<;>omega))|(refine X09 h1386 (by decide) ?_;first|(simp<;>omega)|(simp[hc,h1382]<;>omega))|exact Xv) ?_;intro h;exact wkT [(2,5)] (ih (k+1) hx1 _ _ _ _ nbF o h C0)
   clear h;revert h1381;refine brI (λh1376=>?_) λh1376=>?_
   ·
    refine brI (λh1377=>?_) λh1377=>?_
    ·
     intro h;obtain rfl:=oj h;exact X6 [Gt,Gt,Gt,Gt,Gt,Gt,Gf,Gf,Gf,Gf,Gf,Gf,Gf,Gf,Gt] (k:=wkT [] (X2.glue J))
    refine brI (λh1378=>?_) λh1378=>?_
    ·
     refine bI λv1379 h1380=>?_;intro h;obtain rfl:=oj h;exact X6 [Gt,Gt,Gt,Gt,Gt,Gt,Gt,Gt,Gt,Gt,Gt,Gt,Gt,.pure _ (aB v1379),Gt,Gt] (k:=wkT [] (X2.glue J))
    intro h;obtain rfl:=oj h;exact X6 [Gt,Gt,Gt,Gt,Gt,Gt,Gt,Gt,Gf,Gf,Gf,Gf,Gf,Gt,Gt] (k:=wkT [] (X2.glue J))
   intro h;obtain rfl:=oj h;exact X6 [Gf,Gf,Gf,Gf,Gf,Gf,Gf,Gf,Gf,Gf,Gf,Gf,Gf,Gf,Gf] (k:=wkT [] (X2.glue J))
  obtain rfl:=Xos rfl;rcases Xc3 with ⟨_|_,Xdr⟩<;>(try obtain rfl:=Xdr rfl);all_goals
   refine X2.round ?_;exact absurd hk (by simp)
theorem Xe1 {Q:X04->St->Mu->Prop} {μ:Mu} (Xfy:Bool):∀ (n:Nat) (Xh:X1) (Xq:(List X1)) (Xeg:Bool) (Xei:Bool) (X02:Nb Xq) (o:Xb5) (h:X1j Xfy n Xh Xq Xeg Xei=some o)
  (C0:∀ (Xp:X1) (X0m:(List X1)) (X70:Bool) (X0q:Nb X0m),o=Xb5.x0 Xp X0m X70->X2 Tryz.prog 74 0 Q (.exit (.exit 0)) [] ⟨fr [(4,(AV.ptr 0 0 0)),(8,(slE X0q.1 1 (X0m.map X0))),(9,(aB X70))],hp ([(0,Ob [(X0 Xp)] 11)]++opE X0q.1 1 11 (X0m.map X0)),2⟩ μ),
  X2 Tryz.prog 74 0 Q (.loop (X2p 0 (Xd Tryz.f141))) [] ⟨fr [(2,(aB Xfy)),(4,(AV.ptr 0 0 0)),(8,(slE X02.1 1 (Xq.map X0))),(9,(aB Xeg)),(10,(aB Xei))],hp ([(0,Ob [(X0 Xh)] 11)]++opE X02.1 1 11 (Xq.map X0)),2⟩ μ:=by
 intro n
 induction n with
 |zero=>intro Xh Xq Xeg Xei X02 o h C0;cases h
 |succ n ih =>
  intro Xh Xq Xeg Xei X02 o h C0;rw[X1j] at h;rcases X02 with ⟨_|_,X0n⟩
  ·
   refine X2.round ?_;revert h;refine brI (λh1071=>?_) λh1071=>λe=>X6 [Bf] (k:=wkT [] (C0 _ _ _  nbF (oj e).symm));refine bI λu1177 h1178=>?_;have qh1178:=X0v h1178;refine bI λo1387 h1388=>rnI [Bt] ?_;intro h;refine wkT [] (X2.cut (Xe0 Xfy Xq nbF qh1178 Xq 0 (by simp) _ _ _ _ nbS _ h1388 ?_));intro X3w Xkk Xg6 Xdd Xah eo1387;subst eo1387;refine X2.glue ?_;try dsimp only at h
   rcases Xah with ⟨_|_,Xii⟩
   ·
    exact X6 [] (k:=wkT [] (ih  _ _ _ _ nbF o h C0))
   obtain rfl:=Xii rfl;exact X6 [] (k:=wkT [] (ih  _ _ _ _ nbS o h C0))
  obtain rfl:=X0n rfl;refine X2.round ?_;revert h;refine brI (λh1389=>?_) λh1389=>λe=>X6 [Bf] (k:=wkT [] (C0 _ _ _  nbS (oj e).symm));refine bI λu1461 h1462=>?_;have qh1462:=X0v h1462;refine bI λo1603 h1604=>rnI [Bt] ?_;intro h;refine wkT [] (X2.cut (Xe0 Xfy ([]:List X1) nbS qh1462 ([]:List X1) 0 (by simp) _ _ _ _ nbS _ h1604 ?_));intro X3w Xkk Xg6 Xdd Xah eo1603;subst eo1603;refine X2.glue ?_;try dsimp only at h
  rcases Xah with ⟨_|_,Xii⟩
  ·
   exact X6 [] (k:=wkT [] (ih  _ _ _ _ nbF o h C0))
  obtain rfl:=Xii rfl;exact X6 [] (k:=wkT [] (ih  _ _ _ _ nbS o h C0))
instance X02n:PCs Tryz.prog 141 (∀ (a0:(List X1)) (a1:X1) (a2:Bool) (r:(List X1)×Bool),X55 a0 a1 a2=some r->X0a Tryz.prog 141 [(Lf (a0.map X0)),(X0 a1),(aB a2)] (AV.tup [(Lt (r.1.map X0)),(aB r.2)])):=⟨λa0 a1 a2 r h=>by
 refine X0a.sym X3 X0cl (nt:=74) rfl rfl ?_ okM;unfold X55 at h;revert h;refine brI (λq=>?_) λq=>?_
 ·
  intro h;have h1:a0=[]:=List.isEmpty_iff.1 q;revert h;refine bI λo1605 h1606=>rnI [.ne false] ?_;intro h;refine wkT [] (X2.cut (Xe1 a2 _ _ _ _ _ nbS _ h1606 ?_));intro Xp X0m X70 X0q eo1605;subst eo1605;refine X2.glue ?_;try dsimp only at h
  rcases X0q with ⟨_|_,X3d⟩<;>(try obtain rfl:=X3d rfl);all_goals
   revert h;exact bI λu1607 h1608=>λe=>oj e▸X6 [.no] (o:=by repeat' first|apply Ya|exact pcM|(refine X0t h1608 rfl ?_;first|(simp<;>omega)|(simp[h1]<;>omega))|(refine X09 h1608 (by decide) ?_;first|(simp<;>omega)|(simp[h1]<;>omega))|exact Xv) (k:=fi)
 intro h;have h1:¬ (a0=[]):=(λe=>by rw[e] at q;cases q);revert h;refine bI λu1611 h1612=>bI λo2478 h2479=>rnI [.via (Lt (a0.map X0))] (o:=by repeat' first|apply Ya|exact pcM|(refine X0t h1612 rfl ?_;first|(simp<;>omega)|(simp[h1]<;>omega))|(refine X09 h1612 (by decide) ?_;first|(simp<;>omega)|(simp[h1]<;>omega))|exact Xv) ?_;intro h;refine wkT [(1,2)] (X2.cut (Xe1 a2 _ _ _ _ _ nbF _ h2479 ?_));intro Xp X0m X70 X0q eo2478;subst eo2478;refine X2.glue ?_;try dsimp only at h
 rcases X0q with ⟨_|_,X3d⟩<;>(try obtain rfl:=X3d rfl);all_goals
  revert h;exact bI λu2480 h2481=>λe=>oj e▸X6 [.no] (o:=by repeat' first|apply Ya|exact pcM|(refine X0t h1612 rfl ?_;first|(simp<;>omega)|(simp[h1]<;>omega))|(refine X09 h1612 (by decide) ?_;first|(simp<;>omega)|(simp[h1]<;>omega))|(refine X0t h2481 rfl ?_;first|(simp<;>omega)|(simp[h1]<;>omega))|(refine X09 h2481 (by decide) ?_;first|(simp<;>omega)|(simp[h1]<;>omega))|exact Xv) (k:=fi)⟩
theorem Xc2 {Q:X04->St->Mu->Prop} {μ:Mu} (Xmh:(List X1)) (X2c:(List X1)) (Xpe:Int) (Xoc:Nb X2c):∀ (n:Nat) (Xw8:Int) (o:X8u) (h:X4g Xmh X2c Xpe n Xw8=some o)
  (C0:∀ (X3w:(List X1)) (Xcm:Int) (Xai:Nb X3w),o=X8u.x0 X3w Xcm->X2 Tryz.prog 59 0 Q (.exit (.exit 2)) [] ⟨fr [(0,(Lf (Xmh.map X0))),(3,(slE Xai.1 0 (X3w.map X0))),(4,(aI .i64 Xpe)),(5,(aI .i64 Xcm))],hp ([]++opE Xai.1 0 11 (X3w.map X0)),1⟩ μ),
  X2 Tryz.prog 59 0 Q (.loop (X2p 1 (Xd Tryz.f142))) [] ⟨fr [(0,(Lf (Xmh.map X0))),(3,(slE Xoc.1 0 (X2c.map X0))),(4,(aI .i64 Xpe)),(5,(aI .i64 Xw8))],hp ([]++opE Xoc.1 0 11 (X2c.map X0)),1⟩ μ:=by
 intro n
 induction n with
 |zero=>intro Xw8 o h C0;cases h
 |succ n ih =>
  intro Xw8 o h C0;rw[X4g] at h;rcases Xoc with ⟨_|_,X03w⟩
  ·
   refine X2.round ?_;revert h;refine bI λXs1 h608=>rnI [.stop 6] ?_;intro h;refine X2.join (s':=⟨fr [(0,(Lf (Xmh.map X0))),(3,(AV.ref 0 0 (X2c.length))),(4,(aI .i64 Xpe)),(5,(aI .i64 Xw8)),(28,(aB Xs1))],hp ([(0,Ob (X2c.map X0) 11)]),1⟩) ?_ (λJ=>X2.cut ?_)
   ·
    revert h;refine brI (λh609=>?_) λh609=>λe=>X6 [Bf] (k:=wkT [] (C0 _ _  nbF (oj e).symm));refine rnI [Bt,.wrap] ?_;intro h;exact wkT [] (ih  _ o h C0)
   clear h;revert h608;refine brI (λh601=>?_) λh601=>?_
   ·
    refine bI λe602 h603=>?_;try have qh603:=Xm h603
    refine bI λe604 h605=>?_;try have qh605:=Xm h605
    refine bI λv606 h607=>?_;intro h;obtain rfl:=oj h;exact X6 [Gt,Gt,Gt,.el (X0 e602),Gt,Gt,Gt,Gt,.wrap,Gt,.el (X0 e604),Gt,.ld (X0 e604),Gt,.pure _ (aB v606)] (k:=wkT [] (X2.glue J))
   intro h;obtain rfl:=oj h;exact X6 [Gf,Gf,Gf,Gf,Gf,Gf,Gf,Gf,Gf,Gf,Gf] (k:=wkT [] (X2.glue J))
  obtain rfl:=X03w rfl;refine X2.round ?_;revert h;refine bI λX06j h621=>rnI [.stop 6] ?_;intro h;refine X2.join (s':=⟨fr [(0,(Lf (Xmh.map X0))),(3,AV.nils),(4,(aI .i64 Xpe)),(5,(aI .i64 Xw8)),(28,(aB X06j))],hp ([]),1⟩) ?_ (λJ=>X2.cut ?_)
  ·
   revert h;refine brI (λh622=>?_) λh622=>λe=>X6 [Bf] (k:=wkT [] (C0 _ _  nbS (oj e).symm));refine rnI [Bt,.wrap] ?_;intro h;exact wkT [] (ih  _ o h C0)
  clear h;revert h621;refine brI (λh616=>?_) λh616=>?_
  ·
   refine bI λe617 h618=>?_;try have qh618:=Xm h618
   refine bI λe619 h620=>?_;try have qh620:=Xm h620
   intro h
   first|exact absurd (h620) (by simp[X17];done)|(simp[X17,h616] at h;done)|exact absurd (h620) (by simp[X17,h616];done)
  intro h;obtain rfl:=oj h;exact X6 [Gf,Gf,Gf,Gf,Gf,Gf,Gf,Gf,Gf,Gf,Gf] (k:=wkT [] (X2.glue J))
theorem X5d {Q:X04->St->Mu->Prop} {μ:Mu} (Xup:(List X1)) (y2_4:Int) (Xqz:Int):∀ (n:Nat) (X4j:(List X1)) (Xpc:Int) (Xh3:Nb X4j) (o:X8t) (h:X4f Xup y2_4 Xqz n X4j Xpc=some o)
  (C0:∀ (X9l:(List X1)) (X56:Nb X9l),o=X8t.x0 X9l->X2 Tryz.prog 59 0 Q (.exit (.exit 4)) [] ⟨fr [(0,(Lf (Xup.map X0))),(3,(slE X56.1 0 (X9l.map X0))),(4,(aI .i64 y2_4)),(5,(aI .i64 Xqz))],hp ([]++opE X56.1 0 11 (X9l.map X0)),1⟩ μ),
  X2 Tryz.prog 59 0 Q (.loop (X2p 2 (Xd Tryz.f142))) [] ⟨fr [(0,(Lf (Xup.map X0))),(3,(slE Xh3.1 0 (X4j.map X0))),(4,(aI .i64 y2_4)),(5,(aI .i64 Xqz)),(6,(aI .i64 Xpc))],hp ([]++opE Xh3.1 0 11 (X4j.map X0)),1⟩ μ:=by
 intro n
 induction n with
 |zero=>intro X4j Xpc Xh3 o h C0;cases h
 |succ n ih =>
  intro X4j Xpc Xh3 o h C0;rw[X4f] at h;rcases Xh3 with ⟨_|_,X03v⟩
  ·
   refine X2.round ?_;revert h;refine brI (λh644=>?_) λh644=>λe=>X6 [Bf] (k:=wkT [] (C0 _  nbF (oj e).symm));refine bI λe645 h646=>?_;try have qh646:=Xm h646
   refine bI λe647 h648=>?_;try have qh648:=Xm h648
   refine rnI [Bt,.wrap,.el (X0 e645),.ld (X0 e645),.el (X0 e647),.ld (X0 e647),.wrap] (o:=by repeat' first|apply Ya|exact pcM|exact(List.getElem?_set_self (by have hq:=X3u h648;simp;omega)).trans rfl|exact Xv) ?_;intro h;exact wkT [] (ih  _ _ nbF o h C0)
  obtain rfl:=X03v rfl;refine X2.round ?_;revert h;refine brI (λh649=>?_) λh649=>λe=>X6 [Bf] (k:=wkT [] (C0 _  nbS (oj e).symm));refine bI λe650 h651=>?_;try have qh651:=Xm h651
  intro h
  first|exact absurd (h651) (by simp[X17];done)|(simp[X17,h649] at h;done)|exact absurd (h651) (by simp[X17,h649];done)
end Go.Av.Tryz