/- Printed by decomp.py: that the program computes the functions. -/
import Derived.Test.YtfdfgobnpnoomaaGreatDCert5Z
set_option linter.all false

namespace Go.Av.Tryz
open Go.Proofs Go.D
set_option maxRecDepth 10000
set_option maxHeartbeats 40000000
theorem Xt (a0:(List X8)) (a1:X8) (r:Int×Bool) (h:Xp a0 a1=some r):X0g Tryz.prog 119 [(Lf (a0.map X5)),(X5 a1),(AV.fn 110 [])] (AV.tup [(aI .i64 r.1),(aB r.2)]):=by
 refine X0g.sym Xa X0ed (nt:=49) rfl rfl ?_ okM
 unfold Xp at h
 revert h
 refine bI fun o20 h21=>rnI [.el (aI .i64 (a0.length:Int))] ?_
 intro h
 refine wkT [] (X2.cut (X4r a0 a1 (a0.length:Int) _ _ _ _ h21 ?_))
 intro Xgx eo20;subst eo20
 refine X2.glue ?_
 try dsimp only at h
 revert h
 refine bI fun X09l h33=>rnI [.stop 8] ?_
 intro h
 refine X2.join (s':=⟨fr [(6,(aI .i64 Xgx)),(7,(aB X09l))],hp ([]),0⟩) ?_ (fun J=>X2.cut ?_)
 ·
  revert h
  exact fun e=>oj e▸X9 [] (k:=fi)
 clear h;revert h33
 refine brI (fun h28=>?_) fun h28=>?_
 ·
  refine bI fun e29 h30=>?_
  try have qh30:=Xn h30
  refine bI fun v31 h32=>?_
  intro h
  obtain rfl:=oj h
  exact X9 [.go true,.go true,.go true,.go true,.el (X5 e29),.go true,.go true,.go true,.pure _ (aI .i64 v31),.go true] (k:=wkT [] (X2.glue J))
 intro h
 obtain rfl:=oj h
 exact X9 [.go false,.go false,.go false,.go false,.go false,.go false,.go false,.go false,.go false] (k:=wkT [] (X2.glue J))
instance X51:PCs Tryz.prog 142 (∀ (a0:X0b) (a1:X0b) (r:X0b×Int),X2m a0 a1=some r->X0g Tryz.prog 142 [(X0d a0),(X0d a1)] (AV.tup [(X0d r.1),(aI .i64 r.2)])):=⟨fun a0 a1 r h=>by
 refine X0g.sym Xa X0dx (nt:=53) rfl rfl ?_ okM
 unfold X2m at h
 revert h
 refine bI fun X097 h12=>rnI [.stop 1] ?_
 intro h
 refine X2.join (s':=⟨fr [(2,(AV.ptr 0 0 0)),(3,(AV.ptr 1 0 0)),(4,(AV.ptr 2 0 0)),(13,(aB X097))],hp ([(0,Ob [(X0d a0)] 4),(1,Ob [(X0d a1)] 4),(2,Ob [(X0d (X0b.mk 0 0 0 0))] 4)]),3⟩) ?_ (fun J=>X2.cut ?_)
 ·
  revert h
  exact brI (fun h13=>fun e=>oj e▸X9 [Bt] (k:=fi)) fun h13=>brI (fun h14=>fun e=>oj e▸X9 [Bf,.wrap,Bt] (k:=fi)) fun h14=>brI (fun h15=>fun e=>oj e▸X9 [Bf,.wrap,Bf,Bt] (k:=fi)) fun h15=>brI (fun h16=>fun e=>oj e▸X9 [Bf,.wrap,Bf,Bf,Bt] (k:=fi)) fun h16=>fun e=>oj e▸X9 [Bf,.wrap,Bf,Bf,Bf,.wrap,.wrap] (k:=fi)
 clear h;revert h12
 refine bI fun v7 h8=>brI (fun h9=>?_) fun h9=>?_
 ·
  intro h
  obtain rfl:=oj h
  exact X9 [.pure _ (aI .i64 v7),.go false,.go false,.go false] (k:=wkT [] (X2.glue J))
 refine bI fun v10 h11=>?_
 intro h
 obtain rfl:=oj h
 exact X9 [.pure _ (aI .i64 v7),.go true,.go true,.pure _ (aI .i64 v10),.go true] (k:=wkT [] (X2.glue J))⟩
instance Xzr:PCs Tryz.prog 178 (∀ (a0:Int) (a1:Int) (r:Int),Xc7 a0 a1=some r->X0g Tryz.prog 178 [(aI .i64 a0),(aI .i64 a1)] (aI .i64 r)):=⟨fun a0 a1 r h=>by
 refine X0g.sym Xa X0di (nt:=17) rfl rfl ?_ okM
 unfold Xc7 at h
 revert h
 exact brI (fun h1=>fun e=>oj e▸X9 [Bt] (k:=fi)) fun h1=>brI (fun h2=>fun e=>oj e▸X9 [Bf,Bt] (k:=fi)) fun h2=>fun e=>oj e▸X9 [Bf,Bf] (k:=fi)⟩
instance Xz6:PCs Tryz.prog 143 (∀ (a0:Int) (a1:Int) (r:Int×Int),X88 a0 a1=some r->X0g Tryz.prog 143 [(aI .i64 a0),(aI .i64 a1)] (AV.tup [(aI .i64 r.1),(aI .i64 r.2)])):=⟨fun a0 a1 r h=>by
 refine X0g.sym Xa X0dw (nt:=24) rfl rfl ?_ okM
 unfold X88 at h
 revert h
 refine bI fun v1 h2=>brI (fun h3=>fun e=>oj e▸X9 [.pure _ (aI .i64 v1),Bt] (k:=fi)) fun h3=>bI fun u4 h5=>bI fun j7_7 h9=>rnI [.pure _ (aI .i64 v1),Bf,.wrap] ?_
 intro h
 refine X2.join (s':=⟨fr [(7,(aI .i64 j7_7))],hp ([]),0⟩) ?_ (fun J=>X2.cut ?_)
 ·
  revert h
  exact fun e=>oj e▸X9 [] (k:=fi)
 clear h;revert h9
 refine brI (fun h8=>?_) fun h8=>?_
 ·
  intro h
  obtain rfl:=oj h
  exact X9 [Bt,.wrap] (k:=wkT [] (X2.glue J))
 intro h
 obtain rfl:=oj h
 exact X9 [Bf] (k:=wkT [] (X2.glue J))⟩
instance Xf9:PCs Tryz.prog 117 (∀ (a0:Int) (a1:Int) (r:Xr×Int),Xd7 a0 a1=some r->X0g Tryz.prog 117 [(aI .i64 a0),(aI .i64 a1)] (AV.tup [(X3 r.1),(aI .i64 r.2)])):=⟨fun a0 a1 r h=>by
 refine X0g.sym Xa X0ef (nt:=26) rfl rfl ?_ okM
 unfold Xd7 at h
 revert h
 exact bI fun v1 h2=>brI (fun h3=>fun e=>oj e▸X9 [.pure _ (AV.tup [(aI .i64 v1.1),(aI .i64 v1.2)]),Bt] (k:=fi)) fun h3=>fun e=>oj e▸X9 [.pure _ (AV.tup [(aI .i64 v1.1),(aI .i64 v1.2)]),Bf,.wrap,.wrap,.wrap] (k:=fi)⟩
theorem Xlk {Q:X02->St->Mu->Prop} {μ:Mu} (X00:Int) (X1s:Int) (X9z:Int):∀ (n:Nat) (Xf:(List Xr)) (X85:Int) (Xy:Nb Xf) (o:Xct) (h:X6e X00 X1s X9z n Xf X85=some o)
  (C0:∀ (Xe:(List Xr)) (Xj:Nb Xe),o=Xct.x0 Xe->X2 Tryz.prog 70 0 Q (.exit (.exit 0)) [] ⟨fr [(10,(slE Xj.1 0 (Xe.map X3)))],hp ([]++opE Xj.1 0 2 (Xe.map X3)),1⟩ μ),
  X2 Tryz.prog 70 0 Q (.loop (X2v 0 (Xh Tryz.f118))) [] ⟨fr [(0,(aI .i64 X00)),(1,(aI .i64 X1s)),(2,(aI .i64 X9z)),(10,(slE Xy.1 0 (Xf.map X3))),(11,(aI .i64 X85))],hp ([]++opE Xy.1 0 2 (Xf.map X3)),1⟩ μ:=by
 intro n
 induction n with
 |zero=>intro Xf X85 Xy o h C0;cases h
 |succ n ih =>
  intro Xf X85 Xy o h C0
  rw[X6e] at h
  rcases Xy with ⟨_|_,X1b⟩
  ·
   refine X2.round ?_
   revert h
   refine brI (fun h18=>?_) fun h18=>fun e=>X9 [.wrap,Bf] (k:=wkT [] (C0 _  nbF (oj e).symm))
   refine bI fun u19 h20=>rnI [.wrap,Bt,.wrap,.no,.wrap] (o:=by repeat' first|apply Ya|exact pcM|(refine X0a h20 rfl ?_;first|(simp;done)|(simp;omega)|(simp[h18];done)|(simp[h18];omega))|(refine Xs h20 (by decide) ?_;first|(simp;done)|(simp;omega)|(simp[h18];done)|(simp[h18];omega))|exact X0k) ?_
   intro h
   exact wkT [(0,2)] (ih  _ _ nbF o h C0)
  obtain rfl:=X1b rfl
  refine X2.round ?_
  revert h
  refine brI (fun h21=>?_) fun h21=>fun e=>X9 [.wrap,Bf] (k:=wkT [] (C0 _  nbS (oj e).symm))
  refine bI fun u22 h23=>rnI [.wrap,Bt,.wrap,.no,.wrap] (o:=by repeat' first|apply Ya|exact pcM|(refine X0a h23 rfl ?_;first|(simp;done)|(simp;omega)|(simp[h21];done)|(simp[h21];omega))|(refine Xs h23 (by decide) ?_;first|(simp;done)|(simp;omega)|(simp[h21];done)|(simp[h21];omega))|exact X0k) ?_
  intro h
  exact wkT [(0,2)] (ih  _ _ nbF o h C0)
theorem Xca {Q:X02->St->Mu->Prop}  {rb rD:Nat} {rr:Loop} (rh1:rr.state=.ready) (rh2:rr.pending=none) (rh3:rr.params=(rfB 0 (Xh Tryz.f118)).1) (rh4:rr.assign=(rfB 0 (Xh Tryz.f118)).2.1) (rh5:rr.body=(rfB 0 (Xh Tryz.f118)).2.2) (X1a:(List Xr)) (X6r:Nb X1a):∀ (n:Nat) (X0h:(List Xr)) (Xgz:Int) (X2b:Nb X0h) (o:X99) (h:X45 X1a n X0h Xgz=some o)
  (C0:∀ (X0q:(List Xr)) (X20:(List Xr)) (X11:Nb X0q) (X2e:Nb X20),o=X99.x0 X0q X20->X2 Tryz.prog 19 3 Q (.exit (.exit 0)) [] ⟨fr [],hp ([(1,Ob [(slE X11.1 3 (X0q.map X3))] 1),(2,Ob [(slE X2e.1 4 (X20.map X3))] 1)]++opE X11.1 3 2 (X0q.map X3)++opE X2e.1 4 2 (X20.map X3)),5⟩ [(rb,MuE.loop rr 70 3 (fr [(12,(AV.ptr 1 0 0)),(62,(AV.fn 179 [(AV.ptr 2 0 0)]))])),(rD,MuE.blk (Go.Obj.deferred (some [])))]),
  X2 Tryz.prog 19 3 Q (.loop (X2v 0 (Xh Tryz.f179))) [] ⟨fr [(0,(AV.sc (.func (.yield rb) #[] #[]))),(1,(AV.ptr 2 0 0)),(3,(aI .i64 Xgz))],hp ([(1,Ob [(slE X2b.1 3 (X0h.map X3))] 1),(2,Ob [(slE X6r.1 4 (X1a.map X3))] 1)]++opE X2b.1 3 2 (X0h.map X3)++opE X6r.1 4 2 (X1a.map X3)),5⟩ [(rb,MuE.loop rr 70 3 (fr [(12,(AV.ptr 1 0 0)),(62,(AV.fn 179 [(AV.ptr 2 0 0)]))])),(rD,MuE.blk (Go.Obj.deferred (some [])))]:=by
 intro n
 induction n with
 |zero=>intro X0h Xgz X2b o h C0;cases h
 |succ n ih =>
  intro X0h Xgz X2b o h C0
  rw[X45] at h
  rcases X2b with ⟨_|_,X5n⟩
  ·
   rcases X6r with ⟨_|_,X8n⟩
   ·
    refine X2.round ?_
    revert h
    refine brI (fun h67=>?_) fun h67=>fun e=>X9 [Bf] (k:=wkT [] (C0 _ _  nbF nbF (oj e).symm))
    refine bI fun e68 h69=>?_
    try have qh69:=Xn h69
    refine rnI [Bt,.el (X3 e68),.ld (X3 e68)] ?_
    intro h
    refine X2.yield rfl rfl rfl rfl rfl trivial trivial (.head _) rh1 rh2 rh3 rh4 rh5 rfl rfl ?_
    refine X10 [] ?_
    refine X2.asg ?_
    revert h
    refine bI fun u72 h73=>rnI [.no] (o:=by repeat' first|apply Ya|exact pcM|(refine X0a h73 rfl ?_;first|(simp;done)|(simp;omega)|(simp[h67];done)|(simp[h67];omega))|(refine Xs h73 (by decide) ?_;first|(simp;done)|(simp;omega)|(simp[h67];done)|(simp[h67];omega))|exact X0k) ?_
    intro h
    refine X2.rndEnd ?_
    exact X9 [Bf,.wrap] (o:=by repeat' first|apply Ya|exact pcM|(refine X0a h73 rfl ?_;first|(simp;done)|(simp;omega)|(simp[h67];done)|(simp[h67];omega))|(refine Xs h73 (by decide) ?_;first|(simp;done)|(simp;omega)|(simp[h67];done)|(simp[h67];omega))|exact X0k) (k:=wkT [(3,7)] (ih  _ _ nbF o h C0))
   obtain rfl:=X8n rfl
   refine X2.round ?_
   revert h
   refine brI (fun h74=>?_) fun h74=>fun e=>X9 [Bf] (k:=wkT [] (C0 _ _  nbF nbS (oj e).symm))
   refine bI fun e75 h76=>?_
   try have qh76:=Xn h76
   intro h
   exact absurd (h76) (by simp[X1p])
  obtain rfl:=X5n rfl
  rcases X6r with ⟨_|_,X8n⟩
  ·
   refine X2.round ?_
   revert h
   refine brI (fun h77=>?_) fun h77=>fun e=>X9 [Bf] (k:=wkT [] (C0 _ _  nbS nbF (oj e).symm))
   refine bI fun e78 h79=>?_
   try have qh79:=Xn h79
   refine rnI [Bt,.el (X3 e78),.ld (X3 e78)] ?_
   intro h
   refine X2.yield rfl rfl rfl rfl rfl trivial trivial (.head _) rh1 rh2 rh3 rh4 rh5 rfl rfl ?_
   refine X10 [] ?_
   refine X2.asg ?_
   revert h
   refine bI fun u82 h83=>rnI [.no] (o:=by repeat' first|apply Ya|exact pcM|(refine X0a h83 rfl ?_;first|(simp;done)|(simp;omega)|(simp[h77];done)|(simp[h77];omega))|(refine Xs h83 (by decide) ?_;first|(simp;done)|(simp;omega)|(simp[h77];done)|(simp[h77];omega))|exact X0k) ?_
   intro h
   refine X2.rndEnd ?_
   exact X9 [Bf,.wrap] (o:=by repeat' first|apply Ya|exact pcM|(refine X0a h83 rfl ?_;first|(simp;done)|(simp;omega)|(simp[h77];done)|(simp[h77];omega))|(refine Xs h83 (by decide) ?_;first|(simp;done)|(simp;omega)|(simp[h77];done)|(simp[h77];omega))|exact X0k) (k:=wkT [(3,7)] (ih  _ _ nbF o h C0))
  obtain rfl:=X8n rfl
  refine X2.round ?_
  revert h
  refine brI (fun h84=>?_) fun h84=>fun e=>X9 [Bf] (k:=wkT [] (C0 _ _  nbS nbS (oj e).symm))
  refine bI fun e85 h86=>?_
  try have qh86:=Xn h86
  intro h
  exact absurd (h86) (by simp[X1p])
instance X06y:PCs Tryz.prog 118 (∀ (a0:Int) (a1:Int) (a2:Int) (r:(List Xr)×Int),Xfb a0 a1 a2=some r->X0g Tryz.prog 118 [(aI .i64 a0),(aI .i64 a1),(aI .i64 a2)] (AV.tup [(AV.list true (r.1.map X3)),(aI .i64 r.2)])):=⟨fun a0 a1 a2 r h=>by
 refine X0g.sym Xa X0ee (nt:=70) rfl rfl ?_ okM
 unfold Xfb at h
 revert h
 refine brI (fun h1=>fun e=>oj e▸X9 [.wrap,Bt] (k:=fi)) fun h1=>bI fun v2 h3=>brI (fun h4=>fun e=>oj e▸X9 [.wrap,Bf,.pure _ (AV.tup [(X3 v2.1),(aI .i64 v2.2)]),Bt] (k:=fi)) fun h4=>bI fun o24 h25=>rnI [.wrap,Bf,.pure _ (AV.tup [(X3 v2.1),(aI .i64 v2.2)]),Bf] ?_
 intro h
 refine wkT [] (X2.cut (Xlk a0 a1 a2 _ _ _ nbS _ h25 ?_))
 intro Xe Xj eo24;subst eo24
 refine X2.glue ?_
 try dsimp only at h
 rcases Xj with ⟨_|_,X0n⟩
 ·
  refine X10 [] ?_
  refine X2.inline Xa X0bo rfl rfl rfl rfl rfl trivial trivial rfl rfl ?_
  refine X10 [] ?_
  refine X2.back (by intro id h;cases h) rfl ?_
  refine X10 [] ?_
  refine X2.keepL [12,62] ?_
  refine X2.rangeFunc rfl trivial X0bm rfl rfl rfl ?_
  intro rb rD rr rh1 rh2 rh3 rh4 rh5
  revert h
  refine bI fun o87 h88=>rnI [.el (aI .i64 (Xe.length:Int)),.wrap] ?_
  intro h
  refine wkT [(4,0)] (X2.cut (Xca rh1 rh2 rh3 rh4 rh5 Xe nbF _ _ _ nbS _ h88 ?_))
  intro X0q X20 X11 X2e eo87;subst eo87
  refine X2.glue ?_
  try dsimp only at h
  rcases X11 with ⟨_|_,X32⟩
  ·
   rcases X2e with ⟨_|_,X31⟩
   ·
    refine X10 [] ?_
    refine X2.rfEnd (by intro id h;cases h) ?_
    revert h
    exact fun e=>oj e▸X9 [] (k:=fi)
   obtain rfl:=X31 rfl
   refine X10 [] ?_
   refine X2.rfEnd (by intro id h;cases h) ?_
   revert h
   exact fun e=>oj e▸X9 [] (k:=fi)
  obtain rfl:=X32 rfl
  rcases X2e with ⟨_|_,X31⟩
  ·
   refine X10 [] ?_
   refine X2.rfEnd (by intro id h;cases h) ?_
   revert h
   exact fun e=>oj e▸X9 [] (k:=fi)
  obtain rfl:=X31 rfl
  refine X10 [] ?_
  refine X2.rfEnd (by intro id h;cases h) ?_
  revert h
  exact fun e=>oj e▸X9 [] (k:=fi)
 obtain rfl:=X0n rfl
 refine X10 [] ?_
 refine X2.inline Xa X0bo rfl rfl rfl rfl rfl trivial trivial rfl rfl ?_
 refine X10 [] ?_
 refine X2.back (by intro id h;cases h) rfl ?_
 refine X10 [] ?_
 refine X2.keepL [12,62] ?_
 refine X2.rangeFunc rfl trivial X0bm rfl rfl rfl ?_
 intro rb rD rr rh1 rh2 rh3 rh4 rh5
 revert h
 refine bI fun o130 h131=>rnI [.el (aI .i64 (List.length ([]:List Xr):Int)),.wrap] ?_
 intro h
 refine wkT [] (X2.cut (Xca rh1 rh2 rh3 rh4 rh5 ([]:List Xr) nbS _ _ _ nbS _ h131 ?_))
 intro X0q X20 X11 X2e eo130;subst eo130
 refine X2.glue ?_
 try dsimp only at h
 rcases X11 with ⟨_|_,X32⟩
 ·
  rcases X2e with ⟨_|_,X31⟩
  ·
   refine X10 [] ?_
   refine X2.rfEnd (by intro id h;cases h) ?_
   revert h
   exact fun e=>oj e▸X9 [] (k:=fi)
  obtain rfl:=X31 rfl
  refine X10 [] ?_
  refine X2.rfEnd (by intro id h;cases h) ?_
  revert h
  exact fun e=>oj e▸X9 [] (k:=fi)
 obtain rfl:=X32 rfl
 rcases X2e with ⟨_|_,X31⟩
 ·
  refine X10 [] ?_
  refine X2.rfEnd (by intro id h;cases h) ?_
  revert h
  exact fun e=>oj e▸X9 [] (k:=fi)
 obtain rfl:=X31 rfl
 refine X10 [] ?_
 refine X2.rfEnd (by intro id h;cases h) ?_
 revert h
 exact fun e=>oj e▸X9 [] (k:=fi)⟩
instance Xlj:PCs Tryz.prog 83 (∀ (a0:X0l) (a1:Int) (r:(List Xr)×Int),Xhy a0 a1=some r->X0g Tryz.prog 83 [(X0u a0),(aI .i64 a1)] (AV.tup [(AV.list true (r.1.map X3)),(aI .i64 r.2)])):=⟨fun a0 a1 r h=>by
 refine X0g.sym Xa fn83 (nt:=40) rfl rfl ?_ okM
 unfold Xhy at h
 revert h
 exact bI fun v1 h2=>brI (fun h3=>fun e=>oj e▸X9 [.pure _ (aI .i64 v1),Bt] (k:=fi)) fun h3=>brI (fun h4=>bI fun v5 h6=>brI (fun h7=>fun e=>oj e▸X9 [.pure _ (aI .i64 v1),Bf,Bt,.pure _ (AV.tup [(X3 v5.1),(aI .i64 v5.2)]),Bt] (k:=fi)) fun h7=>fun e=>oj e▸X9 [.pure _ (aI .i64 v1),Bf,Bt,.pure _ (AV.tup [(X3 v5.1),(aI .i64 v5.2)]),Bf] (k:=fi)) fun h4=>brI (fun h8=>bI fun v9 h10=>fun e=>oj e▸X9 [.pure _ (aI .i64 v1),Bf,Bf,Bt,.pure _ (AV.tup [(AV.list true (v9.1.map X3)),(aI .i64 v9.2)])] (k:=fi)) fun h8=>fun e=>oj e▸X9 [.pure _ (aI .i64 v1),Bf,Bf,Bf] (k:=fi)⟩
theorem X1i {Q:X02->St->Mu->Prop} {μ:Mu} (X0h:(List X8)) (X1a:X8) (X2b:Nb X0h) (hl:X0h.length<=140737488355328):∀ (xs:List X8) (k:Nat) (hx:X0h.drop k=xs) (o:X0f) (h:Xq X0h X1a xs k  = some o)
  (C0:o=X0f.x0->X2 Tryz.prog 19 5 Q (.exit (.exit 0)) [] ⟨fr [],hp ([(4,Ob [(X5 X1a)] 11)]++opE X2b.1 3 11 (X0h.map X5)),5⟩ μ)
  (C1:∀ (X6z:Int),o=X0f.x1 X6z->X2 Tryz.prog 19 5 Q (.exit .ret) [] ⟨fr [(4,(aI .i64 X6z))],hp ([(4,Ob [(X5 X1a)] 11)]++opE X2b.1 3 11 (X0h.map X5)),5⟩ μ),
  X2 Tryz.prog 19 5 Q (.loop (X2v 0 (Xh Tryz.f113))) [] ⟨fr [(0,(slE X2b.1 3 (X0h.map X5))),(1,(AV.fn 114 [(AV.ptr 4 0 0)])),(7,(aI .i64 (X0h.length:Int))),(8,(aI .i64 (k:Int)))],hp ([(4,Ob [(X5 X1a)] 11)]++opE X2b.1 3 11 (X0h.map X5)),5⟩ μ:=by
 intro xs
 induction xs with
 |nil =>
  intro k hx  o h C0 C1
  have hk:=drop_nil hx
  have hc:decide ((k:Int)<(X0h.length:Int))=false:=Yf (by omega)
  rw[Xq] at h
  rcases X2b with ⟨_|_,X5n⟩
  ·
   refine X2.round ?_
   revert h
   exact fun e=>X9 [Bf] (k:=wkT [] (C0  (oj e).symm))
  ·
   obtain rfl:=X5n rfl
   refine X2.round ?_
   revert h
   exact fun e=>X9 [Bf] (k:=wkT [] (C0  (oj e).symm))
 |cons x xs ih =>
  intro k hx  o h C0 C1
  obtain⟨hk,hg,hx1⟩:=drop_cons hx
  have hc:decide ((k:Int)<(X0h.length:Int))=true:=Yt (by omega)
  rw[Xq] at h
  rcases X2b with ⟨_|_,X5n⟩
  ·
   refine X2.round ?_
   refine X10 [Bt,.el (X5 x),.ld (X5 x)] ?_
   refine X2.inline Xa X0eh rfl rfl rfl rfl rfl trivial trivial rfl rfl ?_
   refine X10 [] ?_
   refine X2.back (by intro id h;cases h) rfl ?_
   revert h
   refine brI (fun h1341=>fun e=>X9 [Bt] (k:=wkT [] (C1 _  (oj e).symm))) fun h1341=>rnI [Bf] ?_
   intro h
   exact wkT [] (ih (k+1) hx1  o h C0 C1)
  obtain rfl:=X5n rfl
  refine X2.round ?_
  exact absurd hk (by simp)
end Go.Av.Tryz