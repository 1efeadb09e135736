/- Printed by decomp.py: that the program computes the functions. -/
import Derived.Test.YtfdfgobnpnoomaaGreatDCert5Z
set_option linter.all false

namespace Go.Av.Tryz
open Go.Proofs Go.D
set_option maxRecDepth 10000
set_option maxHeartbeats 40000000
theorem Xn (a0:(List X5)) (a1:X5) (r:Int×Bool) (h:Xi a0 a1=some r):X0o Tryz.prog 119 [(Lf (a0.map X4)),(X4 a1),(AV.fn 110 [])] (AV.tup [(aI .i64 r.1),(aB r.2)]):=by
 refine X0o.sym X9 X05m (nt:=49) rfl rfl ?_ okM
 unfold Xi at h
 revert h
 refine bI fun o20 h21=>rnI [.el (aI .i64 (a0.length:Int))] ?_
 intro h
 refine wkT [] (X2.cut (X3h a0 a1 (a0.length:Int) _ _ _ _ h21 ?_))
 intro Xck eo20;subst eo20
 refine X2.glue ?_
 try dsimp only at h
 revert h
 refine bI fun X015 h33=>rnI [.stop 8] ?_
 intro h
 refine X2.join (s':=⟨fr [(6,(aI .i64 Xck)),(7,(aB X015))],hp ([]),0⟩) ?_ (fun J=>X2.cut ?_)
 ·
  revert h
  exact fun e=>oj e▸X8 [] (k:=fi)
 clear h;revert h33
 refine brI (fun h28=>?_) fun h28=>?_
 ·
  refine bI fun e29 h30=>?_
  try have qh30:=Xp h30
  refine bI fun v31 h32=>?_
  intro h
  obtain rfl:=oj h
  exact X8 [.go true,.go true,.go true,.go true,.el (X4 e29),.go true,.go true,.go true,.pure _ (aI .i64 v31),.go true] (k:=wkT [] (X2.glue J))
 intro h
 obtain rfl:=oj h
 exact X8 [.go false,.go false,.go false,.go false,.go false,.go false,.go false,.go false,.go false] (k:=wkT [] (X2.glue J))
instance X3o:PCs Tryz.prog 142 (∀ (a0:X12) (a1:X12) (r:X12×Int),X24 a0 a1=some r->X0o Tryz.prog 142 [(X0p a0),(X0p a1)] (AV.tup [(X0p r.1),(aI .i64 r.2)])):=⟨fun a0 a1 r h=>by
 refine X0o.sym X9 X05b (nt:=53) rfl rfl ?_ okM
 unfold X24 at h
 revert h
 refine bI fun X00m h12=>rnI [.stop 1] ?_
 intro h
 refine X2.join (s':=⟨fr [(2,(AV.ptr 0 0 0)),(3,(AV.ptr 1 0 0)),(4,(AV.ptr 2 0 0)),(13,(aB X00m))],hp ([(0,Ob [(X0p a0)] 4),(1,Ob [(X0p a1)] 4),(2,Ob [(X0p (X12.mk 0 0 0 0))] 4)]),3⟩) ?_ (fun J=>X2.cut ?_)
 ·
  revert h
  exact brI (fun h13=>fun e=>oj e▸X8 [Bt] (k:=fi)) fun h13=>brI (fun h14=>fun e=>oj e▸X8 [Bf,.wrap,Bt] (k:=fi)) fun h14=>brI (fun h15=>fun e=>oj e▸X8 [Bf,.wrap,Bf,Bt] (k:=fi)) fun h15=>brI (fun h16=>fun e=>oj e▸X8 [Bf,.wrap,Bf,Bf,Bt] (k:=fi)) fun h16=>fun e=>oj e▸X8 [Bf,.wrap,Bf,Bf,Bf,.wrap,.wrap] (k:=fi)
 clear h;revert h12
 refine bI fun v7 h8=>brI (fun h9=>?_) fun h9=>?_
 ·
  intro h
  obtain rfl:=oj h
  exact X8 [.pure _ (aI .i64 v7),.go false,.go false,.go false] (k:=wkT [] (X2.glue J))
 refine bI fun v10 h11=>?_
 intro h
 obtain rfl:=oj h
 exact X8 [.pure _ (aI .i64 v7),.go true,.go true,.pure _ (aI .i64 v10),.go true] (k:=wkT [] (X2.glue J))⟩
instance Xsy:PCs Tryz.prog 178 (∀ (a0:Int) (a1:Int) (r:Int),X97 a0 a1=some r->X0o Tryz.prog 178 [(aI .i64 a0),(aI .i64 a1)] (aI .i64 r)):=⟨fun a0 a1 r h=>by
 refine X0o.sym X9 X051 (nt:=17) rfl rfl ?_ okM
 unfold X97 at h
 revert h
 exact brI (fun h1=>fun e=>oj e▸X8 [Bt] (k:=fi)) fun h1=>brI (fun h2=>fun e=>oj e▸X8 [Bf,Bt] (k:=fi)) fun h2=>fun e=>oj e▸X8 [Bf,Bf] (k:=fi)⟩
instance Xsg:PCs Tryz.prog 143 (∀ (a0:Int) (a1:Int) (r:Int×Int),X66 a0 a1=some r->X0o Tryz.prog 143 [(aI .i64 a0),(aI .i64 a1)] (AV.tup [(aI .i64 r.1),(aI .i64 r.2)])):=⟨fun a0 a1 r h=>by
 refine X0o.sym X9 X05a (nt:=24) rfl rfl ?_ okM
 unfold X66 at h
 revert h
 refine bI fun v1 h2=>brI (fun h3=>fun e=>oj e▸X8 [.pure _ (aI .i64 v1),Bt] (k:=fi)) fun h3=>bI fun u4 h5=>bI fun j7_7 h9=>rnI [.pure _ (aI .i64 v1),Bf,.wrap] ?_
 intro h
 refine X2.join (s':=⟨fr [(7,(aI .i64 j7_7))],hp ([]),0⟩) ?_ (fun J=>X2.cut ?_)
 ·
  revert h
  exact fun e=>oj e▸X8 [] (k:=fi)
 clear h;revert h9
 refine brI (fun h8=>?_) fun h8=>?_
 ·
  intro h
  obtain rfl:=oj h
  exact X8 [Bt,.wrap] (k:=wkT [] (X2.glue J))
 intro h
 obtain rfl:=oj h
 exact X8 [Bf] (k:=wkT [] (X2.glue J))⟩
instance Xbi:PCs Tryz.prog 117 (∀ (a0:Int) (a1:Int) (r:X0n×Int),X9x a0 a1=some r->X0o Tryz.prog 117 [(aI .i64 a0),(aI .i64 a1)] (AV.tup [(X00 r.1),(aI .i64 r.2)])):=⟨fun a0 a1 r h=>by
 refine X0o.sym X9 X05o (nt:=26) rfl rfl ?_ okM
 unfold X9x at h
 revert h
 exact bI fun v1 h2=>brI (fun h3=>fun e=>oj e▸X8 [.pure _ (AV.tup [(aI .i64 v1.1),(aI .i64 v1.2)]),Bt] (k:=fi)) fun h3=>fun e=>oj e▸X8 [.pure _ (AV.tup [(aI .i64 v1.1),(aI .i64 v1.2)]),Bf,.wrap,.wrap,.wrap] (k:=fi)⟩
theorem Xgt {Q:Xy->St->Mu->Prop} {μ:Mu} (X0i:Int) (Xft:Int) (y0_2:Int):∀ (n:Nat) (Xm:(List X0n)) (Xgk:Int) (X0x:Nb Xm) (o:X9m) (h:X4q X0i Xft y0_2 n Xm Xgk=some o)
  (C0:∀ (Xr:(List X0n)) (X03:Nb Xr),o=X9m.x0 Xr->X2 Tryz.prog 70 0 Q (.exit (.exit 0)) [] ⟨fr [(10,(slE X03.1 0 (Xr.map X00)))],hp ([]++opE X03.1 0 2 (Xr.map X00)),1⟩ μ),
  X2 Tryz.prog 70 0 Q (.loop (X4k 0 (Xl Tryz.f118))) [] ⟨fr [(0,(aI .i64 X0i)),(1,(aI .i64 Xft)),(2,(aI .i64 y0_2)),(10,(slE X0x.1 0 (Xm.map X00))),(11,(aI .i64 Xgk))],hp ([]++opE X0x.1 0 2 (Xm.map X00)),1⟩ μ:=by
 intro n
 induction n with
 |zero=>intro Xm Xgk X0x o h C0;cases h
 |succ n ih =>
  intro Xm Xgk X0x o h C0
  rw[X4q] at h
  rcases X0x with ⟨_|_,X3a⟩
  ·
   refine X2.round ?_
   revert h
   refine brI (fun h18=>?_) fun h18=>fun e=>X8 [.wrap,Bf] (k:=wkT [] (C0 _  nbF (oj e).symm))
   refine bI fun u19 h20=>rnI [.wrap,Bt,.wrap,.no,.wrap] (o:=by repeat' first|apply Ya|exact pcM|(refine X0s h20 rfl ?_;first|(simp;done)|(simp;omega)|(simp[h18];done)|(simp[h18];omega))|(refine X01 h20 (by decide) ?_;first|(simp;done)|(simp;omega)|(simp[h18];done)|(simp[h18];omega))|exact X08) ?_
   intro h
   exact wkT [(0,2)] (ih  _ _ nbF o h C0)
  obtain rfl:=X3a rfl
  refine X2.round ?_
  revert h
  refine brI (fun h21=>?_) fun h21=>fun e=>X8 [.wrap,Bf] (k:=wkT [] (C0 _  nbS (oj e).symm))
  refine bI fun u22 h23=>rnI [.wrap,Bt,.wrap,.no,.wrap] (o:=by repeat' first|apply Ya|exact pcM|(refine X0s h23 rfl ?_;first|(simp;done)|(simp;omega)|(simp[h21];done)|(simp[h21];omega))|(refine X01 h23 (by decide) ?_;first|(simp;done)|(simp;omega)|(simp[h21];done)|(simp[h21];omega))|exact X08) ?_
  intro h
  exact wkT [(0,2)] (ih  _ _ nbF o h C0)
theorem X98 {Q:Xy->St->Mu->Prop}  {rb rD:Nat} {rr:Loop} (rh1:rr.state=.ready) (rh2:rr.pending=none) (rh3:rr.params=(rfB 0 (Xl Tryz.f118)).1) (rh4:rr.assign=(rfB 0 (Xl Tryz.f118)).2.1) (rh5:rr.body=(rfB 0 (Xl Tryz.f118)).2.2) (X1c:(List X0n)) (Xg0:Nb X1c):∀ (n:Nat) (X0j:(List X0n)) (Xjk:Int) (X1q:Nb X0j) (o:X71) (h:X2x X1c n X0j Xjk=some o)
  (C0:∀ (X1y:(List X0n)) (Xbe:(List X0n)) (X13:Nb X1y) (X61:Nb Xbe),o=X71.x0 X1y Xbe->X2 Tryz.prog 19 3 Q (.exit (.exit 0)) [] ⟨fr [],hp ([(1,Ob [(slE X13.1 3 (X1y.map X00))] 1),(2,Ob [(slE X61.1 4 (Xbe.map X00))] 1)]++opE X13.1 3 2 (X1y.map X00)++opE X61.1 4 2 (Xbe.map X00)),5⟩ [(rb,MuE.loop rr 70 3 (fr [(12,(AV.ptr 1 0 0)),(62,(AV.fn 179 [(AV.ptr 2 0 0)]))])),(rD,MuE.blk (Go.Obj.deferred (some [])))]),
  X2 Tryz.prog 19 3 Q (.loop (X4k 0 (Xl Tryz.f179))) [] ⟨fr [(0,(AV.sc (.func (.yield rb) #[] #[]))),(1,(AV.ptr 2 0 0)),(3,(aI .i64 Xjk))],hp ([(1,Ob [(slE X1q.1 3 (X0j.map X00))] 1),(2,Ob [(slE Xg0.1 4 (X1c.map X00))] 1)]++opE X1q.1 3 2 (X0j.map X00)++opE Xg0.1 4 2 (X1c.map X00)),5⟩ [(rb,MuE.loop rr 70 3 (fr [(12,(AV.ptr 1 0 0)),(62,(AV.fn 179 [(AV.ptr 2 0 0)]))])),(rD,MuE.blk (Go.Obj.deferred (some [])))]:=by
 intro n
 induction n with
 |zero=>intro X0j Xjk X1q o h C0;cases h
 |succ n ih =>
  intro X0j Xjk X1q o h C0
  rw[X2x] at h
  rcases X1q with ⟨_|_,X6f⟩
  ·
   rcases Xg0 with ⟨_|_,Xkk⟩
   ·
    refine X2.round ?_
    revert h
    refine brI (fun h67=>?_) fun h67=>fun e=>X8 [Bf] (k:=wkT [] (C0 _ _  nbF nbF (oj e).symm))
    refine bI fun e68 h69=>?_
    try have qh69:=Xp h69
    refine rnI [Bt,.el (X00 e68),.ld (X00 e68)] ?_
    intro h
    refine X2.yield rfl rfl rfl rfl rfl trivial trivial (.head _) rh1 rh2 rh3 rh4 rh5 rfl rfl ?_
    refine X0y [] ?_
    refine X2.asg ?_
    revert h
    refine bI fun u72 h73=>rnI [.no] (o:=by repeat' first|apply Ya|exact pcM|(refine X0s h73 rfl ?_;first|(simp;done)|(simp;omega)|(simp[h67];done)|(simp[h67];omega))|(refine X01 h73 (by decide) ?_;first|(simp;done)|(simp;omega)|(simp[h67];done)|(simp[h67];omega))|exact X08) ?_
    intro h
    refine X2.rndEnd ?_
    exact X8 [Bf,.wrap] (o:=by repeat' first|apply Ya|exact pcM|(refine X0s h73 rfl ?_;first|(simp;done)|(simp;omega)|(simp[h67];done)|(simp[h67];omega))|(refine X01 h73 (by decide) ?_;first|(simp;done)|(simp;omega)|(simp[h67];done)|(simp[h67];omega))|exact X08) (k:=wkT [(3,7)] (ih  _ _ nbF o h C0))
   obtain rfl:=Xkk rfl
   refine X2.round ?_
   revert h
   refine brI (fun h74=>?_) fun h74=>fun e=>X8 [Bf] (k:=wkT [] (C0 _ _  nbF nbS (oj e).symm))
   refine bI fun e75 h76=>?_
   try have qh76:=Xp h76
   intro h
   exact absurd (h76) (by simp[X1w])
  obtain rfl:=X6f rfl
  rcases Xg0 with ⟨_|_,Xkk⟩
  ·
   refine X2.round ?_
   revert h
   refine brI (fun h77=>?_) fun h77=>fun e=>X8 [Bf] (k:=wkT [] (C0 _ _  nbS nbF (oj e).symm))
   refine bI fun e78 h79=>?_
   try have qh79:=Xp h79
   refine rnI [Bt,.el (X00 e78),.ld (X00 e78)] ?_
   intro h
   refine X2.yield rfl rfl rfl rfl rfl trivial trivial (.head _) rh1 rh2 rh3 rh4 rh5 rfl rfl ?_
   refine X0y [] ?_
   refine X2.asg ?_
   revert h
   refine bI fun u82 h83=>rnI [.no] (o:=by repeat' first|apply Ya|exact pcM|(refine X0s h83 rfl ?_;first|(simp;done)|(simp;omega)|(simp[h77];done)|(simp[h77];omega))|(refine X01 h83 (by decide) ?_;first|(simp;done)|(simp;omega)|(simp[h77];done)|(simp[h77];omega))|exact X08) ?_
   intro h
   refine X2.rndEnd ?_
   exact X8 [Bf,.wrap] (o:=by repeat' first|apply Ya|exact pcM|(refine X0s h83 rfl ?_;first|(simp;done)|(simp;omega)|(simp[h77];done)|(simp[h77];omega))|(refine X01 h83 (by decide) ?_;first|(simp;done)|(simp;omega)|(simp[h77];done)|(simp[h77];omega))|exact X08) (k:=wkT [(3,7)] (ih  _ _ nbF o h C0))
  obtain rfl:=Xkk rfl
  refine X2.round ?_
  revert h
  refine brI (fun h84=>?_) fun h84=>fun e=>X8 [Bf] (k:=wkT [] (C0 _ _  nbS nbS (oj e).symm))
  refine bI fun e85 h86=>?_
  try have qh86:=Xp h86
  intro h
  exact absurd (h86) (by simp[X1w])
instance Xyt:PCs Tryz.prog 118 (∀ (a0:Int) (a1:Int) (a2:Int) (r:(List X0n)×Int),Xbk a0 a1 a2=some r->X0o Tryz.prog 118 [(aI .i64 a0),(aI .i64 a1),(aI .i64 a2)] (AV.tup [(AV.list true (r.1.map X00)),(aI .i64 r.2)])):=⟨fun a0 a1 a2 r h=>by
 refine X0o.sym X9 X05n (nt:=70) rfl rfl ?_ okM
 unfold Xbk at h
 revert h
 refine brI (fun h1=>fun e=>oj e▸X8 [.wrap,Bt] (k:=fi)) fun h1=>bI fun v2 h3=>brI (fun h4=>fun e=>oj e▸X8 [.wrap,Bf,.pure _ (AV.tup [(X00 v2.1),(aI .i64 v2.2)]),Bt] (k:=fi)) fun h4=>bI fun o24 h25=>rnI [.wrap,Bf,.pure _ (AV.tup [(X00 v2.1),(aI .i64 v2.2)]),Bf] ?_
 intro h
 refine wkT [] (X2.cut (Xgt a0 a1 a2 _ _ _ nbS _ h25 ?_))
 intro Xr X03 eo24;subst eo24
 refine X2.glue ?_
 try dsimp only at h
 rcases X03 with ⟨_|_,X2e⟩
 ·
  refine X0y [] ?_
  refine X2.inline X9 X03j rfl rfl rfl rfl rfl trivial trivial rfl rfl ?_
  refine X0y [] ?_
  refine X2.back (by intro id h;cases h) rfl ?_
  refine X0y [] ?_
  refine X2.keepL [12,62] ?_
  refine X2.rangeFunc rfl trivial X03h rfl rfl rfl ?_
  intro rb rD rr rh1 rh2 rh3 rh4 rh5
  revert h
  refine bI fun o87 h88=>rnI [.el (aI .i64 (Xr.length:Int)),.wrap] ?_
  intro h
  refine wkT [(4,0)] (X2.cut (X98 rh1 rh2 rh3 rh4 rh5 Xr nbF _ _ _ nbS _ h88 ?_))
  intro X1y Xbe X13 X61 eo87;subst eo87
  refine X2.glue ?_
  try dsimp only at h
  rcases X13 with ⟨_|_,X2c⟩
  ·
   rcases X61 with ⟨_|_,X7c⟩
   ·
    refine X0y [] ?_
    refine X2.rfEnd (by intro id h;cases h) ?_
    revert h
    exact fun e=>oj e▸X8 [] (k:=fi)
   obtain rfl:=X7c rfl
   refine X0y [] ?_
   refine X2.rfEnd (by intro id h;cases h) ?_
   revert h
   exact fun e=>oj e▸X8 [] (k:=fi)
  obtain rfl:=X2c rfl
  rcases X61 with ⟨_|_,X7c⟩
  ·
   refine X0y [] ?_
   refine X2.rfEnd (by intro id h;cases h) ?_
   revert h
   exact fun e=>oj e▸X8 [] (k:=fi)
  obtain rfl:=X7c rfl
  refine X0y [] ?_
  refine X2.rfEnd (by intro id h;cases h) ?_
  revert h
  exact fun e=>oj e▸X8 [] (k:=fi)
 obtain rfl:=X2e rfl
 refine X0y [] ?_
 refine X2.inline X9 X03j rfl rfl rfl rfl rfl trivial trivial rfl rfl ?_
 refine X0y [] ?_
 refine X2.back (by intro id h;cases h) rfl ?_
 refine X0y [] ?_
 refine X2.keepL [12,62] ?_
 refine X2.rangeFunc rfl trivial X03h rfl rfl rfl ?_
 intro rb rD rr rh1 rh2 rh3 rh4 rh5
 revert h
 refine bI fun o130 h131=>rnI [.el (aI .i64 (List.length ([]:List X0n):Int)),.wrap] ?_
 intro h
 refine wkT [] (X2.cut (X98 rh1 rh2 rh3 rh4 rh5 ([]:List X0n) nbS _ _ _ nbS _ h131 ?_))
 intro X1y Xbe X13 X61 eo130;subst eo130
 refine X2.glue ?_
 try dsimp only at h
 rcases X13 with ⟨_|_,X2c⟩
 ·
  rcases X61 with ⟨_|_,X7c⟩
  ·
   refine X0y [] ?_
   refine X2.rfEnd (by intro id h;cases h) ?_
   revert h
   exact fun e=>oj e▸X8 [] (k:=fi)
  obtain rfl:=X7c rfl
  refine X0y [] ?_
  refine X2.rfEnd (by intro id h;cases h) ?_
  revert h
  exact fun e=>oj e▸X8 [] (k:=fi)
 obtain rfl:=X2c rfl
 rcases X61 with ⟨_|_,X7c⟩
 ·
  refine X0y [] ?_
  refine X2.rfEnd (by intro id h;cases h) ?_
  revert h
  exact fun e=>oj e▸X8 [] (k:=fi)
 obtain rfl:=X7c rfl
 refine X0y [] ?_
 refine X2.rfEnd (by intro id h;cases h) ?_
 revert h
 exact fun e=>oj e▸X8 [] (k:=fi)⟩
instance Xgs:PCs Tryz.prog 83 (∀ (a0:X0l) (a1:Int) (r:(List X0n)×Int),Xd8 a0 a1=some r->X0o Tryz.prog 83 [(X30 a0),(aI .i64 a1)] (AV.tup [(AV.list true (r.1.map X00)),(aI .i64 r.2)])):=⟨fun a0 a1 r h=>by
 refine X0o.sym X9 fn83 (nt:=40) rfl rfl ?_ okM
 unfold Xd8 at h
 revert h
 exact bI fun v1 h2=>brI (fun h3=>fun e=>oj e▸X8 [.pure _ (aI .i64 v1),Bt] (k:=fi)) fun h3=>brI (fun h4=>bI fun v5 h6=>brI (fun h7=>fun e=>oj e▸X8 [.pure _ (aI .i64 v1),Bf,Bt,.pure _ (AV.tup [(X00 v5.1),(aI .i64 v5.2)]),Bt] (k:=fi)) fun h7=>fun e=>oj e▸X8 [.pure _ (aI .i64 v1),Bf,Bt,.pure _ (AV.tup [(X00 v5.1),(aI .i64 v5.2)]),Bf] (k:=fi)) fun h4=>brI (fun h8=>bI fun v9 h10=>fun e=>oj e▸X8 [.pure _ (aI .i64 v1),Bf,Bf,Bt,.pure _ (AV.tup [(AV.list true (v9.1.map X00)),(aI .i64 v9.2)])] (k:=fi)) fun h8=>fun e=>oj e▸X8 [.pure _ (aI .i64 v1),Bf,Bf,Bf] (k:=fi)⟩
theorem X14 {Q:Xy->St->Mu->Prop} {μ:Mu} (X0j:(List X5)) (X1c:X5) (X1q:Nb X0j) (hl:X0j.length<=140737488355328):∀ (xs:List X5) (k:Nat) (hx:X0j.drop k=xs) (o:X05) (h:Xj X0j X1c xs k  = some o)
  (C0:o=X05.x0->X2 Tryz.prog 19 5 Q (.exit (.exit 0)) [] ⟨fr [],hp ([(4,Ob [(X4 X1c)] 11)]++opE X1q.1 3 11 (X0j.map X4)),5⟩ μ)
  (C1:∀ (X93:Int),o=X05.x1 X93->X2 Tryz.prog 19 5 Q (.exit .ret) [] ⟨fr [(4,(aI .i64 X93))],hp ([(4,Ob [(X4 X1c)] 11)]++opE X1q.1 3 11 (X0j.map X4)),5⟩ μ),
  X2 Tryz.prog 19 5 Q (.loop (X4k 0 (Xl Tryz.f113))) [] ⟨fr [(0,(slE X1q.1 3 (X0j.map X4))),(1,(AV.fn 114 [(AV.ptr 4 0 0)])),(7,(aI .i64 (X0j.length:Int))),(8,(aI .i64 (k:Int)))],hp ([(4,Ob [(X4 X1c)] 11)]++opE X1q.1 3 11 (X0j.map X4)),5⟩ μ:=by
 intro xs
 induction xs with
 |nil =>
  intro k hx  o h C0 C1
  have hk:=X18 hx
  have hc:decide ((k:Int)<(X0j.length:Int))=false:=Yf (by omega)
  rw[Xj] at h
  rcases X1q with ⟨_|_,X6f⟩
  ·
   refine X2.round ?_
   revert h
   exact fun e=>X8 [Bf] (k:=wkT [] (C0  (oj e).symm))
  ·
   obtain rfl:=X6f rfl
   refine X2.round ?_
   revert h
   exact fun e=>X8 [Bf] (k:=wkT [] (C0  (oj e).symm))
 |cons x xs ih =>
  intro k hx  o h C0 C1
  obtain⟨hk,hg,hx1⟩:=X0r hx
  have hc:decide ((k:Int)<(X0j.length:Int))=true:=Yt (by omega)
  rw[Xj] at h
  rcases X1q with ⟨_|_,X6f⟩
  ·
   refine X2.round ?_
   refine X0y [Bt,.el (X4 x),.ld (X4 x)] ?_
   refine X2.inline X9 X05q rfl rfl rfl rfl rfl trivial trivial rfl rfl ?_
   refine X0y [] ?_
   refine X2.back (by intro id h;cases h) rfl ?_
   revert h
   refine brI (fun h1341=>fun e=>X8 [Bt] (k:=wkT [] (C1 _  (oj e).symm))) fun h1341=>rnI [Bf] ?_
   intro h
   exact wkT [] (ih (k+1) hx1  o h C0 C1)
  obtain rfl:=X6f rfl
  refine X2.round ?_
  exact absurd hk (by simp)
end Go.Av.Tryz