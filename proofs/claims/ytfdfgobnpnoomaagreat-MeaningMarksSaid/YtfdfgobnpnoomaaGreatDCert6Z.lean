/- Printed by decomp.py: that the program computes the functions. -/
import Derived.Test.YtfdfgobnpnoomaaGreatDCert5Z
set_option linter.all false

namespace Go.Av.Tryz
open Go.Proofs Go.D
set_option maxRecDepth 10000
set_option maxHeartbeats 40000000
theorem Xy (a0:(List Xa)) (a1:Xa) (r:Int×Bool) (h:Xt a0 a1=some r):X11 Tryz.prog 119 [(Lf (a0.map X9)),(X9 a1),(AV.fn 110 [])] (AV.tup [(aI .i64 r.1),(aB r.2)]):=by
 refine X11.sym Xh X07y (nt:=49) rfl rfl ?_ okM
 unfold Xt at h
 revert h
 refine bI fun o20 h21=>rnI [.el (aI .i64 (a0.length:Int))] ?_
 intro h
 refine wkT [] (X3.cut (X49 a0 a1 (a0.length:Int) _ _ _ _ h21 ?_))
 intro Xdy eo20;subst eo20
 refine X3.glue ?_
 try dsimp only at h
 revert h
 refine bI fun X03s h33=>rnI [.stop 8] ?_
 intro h
 refine X3.join (s':=⟨fr [(6,(aI .i64 Xdy)),(7,(aB X03s))],hp ([]),0⟩) ?_ (fun J=>X3.cut ?_)
 ·
  revert h
  exact fun e=>oj e▸Xc [] (k:=fi)
 clear h;revert h33
 refine brI (fun h28=>?_) fun h28=>?_
 ·
  refine bI fun e29 h30=>?_
  try have qh30:=Xn h30
  refine bI fun v31 h32=>?_
  intro h
  obtain rfl:=oj h
  exact Xc [.go true,.go true,.go true,.go true,.el (X9 e29),.go true,.go true,.go true,.pure _ (aI .i64 v31),.go true] (k:=wkT [] (X3.glue J))
 intro h
 obtain rfl:=oj h
 exact Xc [.go false,.go false,.go false,.go false,.go false,.go false,.go false,.go false,.go false] (k:=wkT [] (X3.glue J))
instance X4h:PCs Tryz.prog 142 (∀ (a0:X1k) (a1:X1k) (r:X1k×Int),X2g a0 a1=some r->X11 Tryz.prog 142 [(X19 a0),(X19 a1)] (AV.tup [(X19 r.1),(aI .i64 r.2)])):=⟨fun a0 a1 r h=>by
 refine X11.sym Xh X07n (nt:=53) rfl rfl ?_ okM
 unfold X2g at h
 revert h
 refine bI fun X037 h12=>rnI [.stop 1] ?_
 intro h
 refine X3.join (s':=⟨fr [(2,(AV.ptr 0 0 0)),(3,(AV.ptr 1 0 0)),(4,(AV.ptr 2 0 0)),(13,(aB X037))],hp ([(0,Ob [(X19 a0)] 4),(1,Ob [(X19 a1)] 4),(2,Ob [(X19 (X1k.mk 0 0 0 0))] 4)]),3⟩) ?_ (fun J=>X3.cut ?_)
 ·
  revert h
  exact brI (fun h13=>fun e=>oj e▸Xc [Bt] (k:=fi)) fun h13=>brI (fun h14=>fun e=>oj e▸Xc [Bf,.wrap,Bt] (k:=fi)) fun h14=>brI (fun h15=>fun e=>oj e▸Xc [Bf,.wrap,Bf,Bt] (k:=fi)) fun h15=>brI (fun h16=>fun e=>oj e▸Xc [Bf,.wrap,Bf,Bf,Bt] (k:=fi)) fun h16=>fun e=>oj e▸Xc [Bf,.wrap,Bf,Bf,Bf,.wrap,.wrap] (k:=fi)
 clear h;revert h12
 refine bI fun v7 h8=>brI (fun h9=>?_) fun h9=>?_
 ·
  intro h
  obtain rfl:=oj h
  exact Xc [.pure _ (aI .i64 v7),.go false,.go false,.go false] (k:=wkT [] (X3.glue J))
 refine bI fun v10 h11=>?_
 intro h
 obtain rfl:=oj h
 exact Xc [.pure _ (aI .i64 v7),.go true,.go true,.pure _ (aI .i64 v10),.go true] (k:=wkT [] (X3.glue J))⟩
instance Xva:PCs Tryz.prog 178 (∀ (a0:Int) (a1:Int) (r:Int),Xab a0 a1=some r->X11 Tryz.prog 178 [(aI .i64 a0),(aI .i64 a1)] (aI .i64 r)):=⟨fun a0 a1 r h=>by
 refine X11.sym Xh X07d (nt:=17) rfl rfl ?_ okM
 unfold Xab at h
 revert h
 exact brI (fun h1=>fun e=>oj e▸Xc [Bt] (k:=fi)) fun h1=>brI (fun h2=>fun e=>oj e▸Xc [Bf,Bt] (k:=fi)) fun h2=>fun e=>oj e▸Xc [Bf,Bf] (k:=fi)⟩
instance Xut:PCs Tryz.prog 143 (∀ (a0:Int) (a1:Int) (r:Int×Int),X79 a0 a1=some r->X11 Tryz.prog 143 [(aI .i64 a0),(aI .i64 a1)] (AV.tup [(aI .i64 r.1),(aI .i64 r.2)])):=⟨fun a0 a1 r h=>by
 refine X11.sym Xh X07m (nt:=24) rfl rfl ?_ okM
 unfold X79 at h
 revert h
 refine bI fun v1 h2=>brI (fun h3=>fun e=>oj e▸Xc [.pure _ (aI .i64 v1),Bt] (k:=fi)) fun h3=>bI fun u4 h5=>bI fun j7_7 h9=>rnI [.pure _ (aI .i64 v1),Bf,.wrap] ?_
 intro h
 refine X3.join (s':=⟨fr [(7,(aI .i64 j7_7))],hp ([]),0⟩) ?_ (fun J=>X3.cut ?_)
 ·
  revert h
  exact fun e=>oj e▸Xc [] (k:=fi)
 clear h;revert h9
 refine brI (fun h8=>?_) fun h8=>?_
 ·
  intro h
  obtain rfl:=oj h
  exact Xc [Bt,.wrap] (k:=wkT [] (X3.glue J))
 intro h
 obtain rfl:=oj h
 exact Xc [Bf] (k:=wkT [] (X3.glue J))⟩
instance Xcs:PCs Tryz.prog 117 (∀ (a0:Int) (a1:Int) (r:X13×Int),Xb2 a0 a1=some r->X11 Tryz.prog 117 [(aI .i64 a0),(aI .i64 a1)] (AV.tup [(X0d r.1),(aI .i64 r.2)])):=⟨fun a0 a1 r h=>by
 refine X11.sym Xh X080 (nt:=26) rfl rfl ?_ okM
 unfold Xb2 at h
 revert h
 exact bI fun v1 h2=>brI (fun h3=>fun e=>oj e▸Xc [.pure _ (AV.tup [(aI .i64 v1.1),(aI .i64 v1.2)]),Bt] (k:=fi)) fun h3=>fun e=>oj e▸Xc [.pure _ (AV.tup [(aI .i64 v1.1),(aI .i64 v1.2)]),Bf,.wrap,.wrap,.wrap] (k:=fi)⟩
theorem Xhv {Q:X07->St->Mu->Prop} {μ:Mu} (X0y:Int) (Xel:Int) (Xo7:Int):∀ (n:Nat) (Xs:(List X13)) (Xho:Int) (X1c:Nb Xs) (o:Xaq) (h:X5u X0y Xel Xo7 n Xs Xho=some o)
  (C0:∀ (X02:(List X13)) (X0i:Nb X02),o=Xaq.x0 X02->X3 Tryz.prog 70 0 Q (.exit (.exit 0)) [] ⟨fr [(10,(slE X0i.1 0 (X02.map X0d)))],hp ([]++opE X0i.1 0 2 (X02.map X0d)),1⟩ μ),
  X3 Tryz.prog 70 0 Q (.loop (X4t 0 (Xu Tryz.f118))) [] ⟨fr [(0,(aI .i64 X0y)),(1,(aI .i64 Xel)),(2,(aI .i64 Xo7)),(10,(slE X1c.1 0 (Xs.map X0d))),(11,(aI .i64 Xho))],hp ([]++opE X1c.1 0 2 (Xs.map X0d)),1⟩ μ:=by
 intro n
 induction n with
 |zero=>intro Xs Xho X1c o h C0;cases h
 |succ n ih =>
  intro Xs Xho X1c o h C0
  rw[X5u] at h
  rcases X1c with ⟨_|_,X45⟩
  ·
   refine X3.round ?_
   revert h
   refine brI (fun h18=>?_) fun h18=>fun e=>Xc [.wrap,Bf] (k:=wkT [] (C0 _  nbF (oj e).symm))
   refine bI fun u19 h20=>rnI [.wrap,Bt,.wrap,.no,.wrap] (o:=by repeat' first|apply Ya|exact pcM|(refine X8 h20 rfl ?_;first|(simp;done)|(simp;omega)|(simp[h18];done)|(simp[h18];omega))|(refine X2 h20 (by decide) ?_;first|(simp;done)|(simp;omega)|(simp[h18];done)|(simp[h18];omega))|exact Xw) ?_
   intro h
   exact wkT [(0,2)] (ih  _ _ nbF o h C0)
  obtain rfl:=X45 rfl
  refine X3.round ?_
  revert h
  refine brI (fun h21=>?_) fun h21=>fun e=>Xc [.wrap,Bf] (k:=wkT [] (C0 _  nbS (oj e).symm))
  refine bI fun u22 h23=>rnI [.wrap,Bt,.wrap,.no,.wrap] (o:=by repeat' first|apply Ya|exact pcM|(refine X8 h23 rfl ?_;first|(simp;done)|(simp;omega)|(simp[h21];done)|(simp[h21];omega))|(refine X2 h23 (by decide) ?_;first|(simp;done)|(simp;omega)|(simp[h21];done)|(simp[h21];omega))|exact Xw) ?_
  intro h
  exact wkT [(0,2)] (ih  _ _ nbF o h C0)
theorem Xac {Q:X07->St->Mu->Prop}  {rb rD:Nat} {rr:Loop} (rh1:rr.state=.ready) (rh2:rr.pending=none) (rh3:rr.params=(rfB 0 (Xu Tryz.f118)).1) (rh4:rr.assign=(rfB 0 (Xu Tryz.f118)).2.1) (rh5:rr.body=(rfB 0 (Xu Tryz.f118)).2.2) (X1q:(List X13)) (Xhf:Nb X1q):∀ (n:Nat) (X1b:(List X13)) (Xkp:Int) (X3q:Nb X1b) (o:X85) (h:X3l X1q n X1b Xkp=some o)
  (C0:∀ (X4w:(List X13)) (Xcn:(List X13)) (X3i:Nb X4w) (X75:Nb Xcn),o=X85.x0 X4w Xcn->X3 Tryz.prog 19 3 Q (.exit (.exit 0)) [] ⟨fr [],hp ([(1,Ob [(slE X3i.1 3 (X4w.map X0d))] 1),(2,Ob [(slE X75.1 4 (Xcn.map X0d))] 1)]++opE X3i.1 3 2 (X4w.map X0d)++opE X75.1 4 2 (Xcn.map X0d)),5⟩ [(rb,MuE.loop rr 70 3 (fr [(12,(AV.ptr 1 0 0)),(62,(AV.fn 179 [(AV.ptr 2 0 0)]))])),(rD,MuE.blk (Go.Obj.deferred (some [])))]),
  X3 Tryz.prog 19 3 Q (.loop (X4t 0 (Xu Tryz.f179))) [] ⟨fr [(0,(AV.sc (.func (.yield rb) #[] #[]))),(1,(AV.ptr 2 0 0)),(3,(aI .i64 Xkp))],hp ([(1,Ob [(slE X3q.1 3 (X1b.map X0d))] 1),(2,Ob [(slE Xhf.1 4 (X1q.map X0d))] 1)]++opE X3q.1 3 2 (X1b.map X0d)++opE Xhf.1 4 2 (X1q.map X0d)),5⟩ [(rb,MuE.loop rr 70 3 (fr [(12,(AV.ptr 1 0 0)),(62,(AV.fn 179 [(AV.ptr 2 0 0)]))])),(rD,MuE.blk (Go.Obj.deferred (some [])))]:=by
 intro n
 induction n with
 |zero=>intro X1b Xkp X3q o h C0;cases h
 |succ n ih =>
  intro X1b Xkp X3q o h C0
  rw[X3l] at h
  rcases X3q with ⟨_|_,Xc2⟩
  ·
   rcases Xhf with ⟨_|_,Xm1⟩
   ·
    refine X3.round ?_
    revert h
    refine brI (fun h67=>?_) fun h67=>fun e=>Xc [Bf] (k:=wkT [] (C0 _ _  nbF nbF (oj e).symm))
    refine bI fun e68 h69=>?_
    try have qh69:=Xn h69
    refine rnI [Bt,.el (X0d e68),.ld (X0d e68)] ?_
    intro h
    refine X3.yield rfl rfl rfl rfl rfl trivial trivial (.head _) rh1 rh2 rh3 rh4 rh5 rfl rfl ?_
    refine X0l [] ?_
    refine X3.asg ?_
    revert h
    refine bI fun u72 h73=>rnI [.no] (o:=by repeat' first|apply Ya|exact pcM|(refine X8 h73 rfl ?_;first|(simp;done)|(simp;omega)|(simp[h67];done)|(simp[h67];omega))|(refine X2 h73 (by decide) ?_;first|(simp;done)|(simp;omega)|(simp[h67];done)|(simp[h67];omega))|exact Xw) ?_
    intro h
    refine X3.rndEnd ?_
    exact Xc [Bf,.wrap] (o:=by repeat' first|apply Ya|exact pcM|(refine X8 h73 rfl ?_;first|(simp;done)|(simp;omega)|(simp[h67];done)|(simp[h67];omega))|(refine X2 h73 (by decide) ?_;first|(simp;done)|(simp;omega)|(simp[h67];done)|(simp[h67];omega))|exact Xw) (k:=wkT [(3,7)] (ih  _ _ nbF o h C0))
   obtain rfl:=Xm1 rfl
   refine X3.round ?_
   revert h
   refine brI (fun h74=>?_) fun h74=>fun e=>Xc [Bf] (k:=wkT [] (C0 _ _  nbF nbS (oj e).symm))
   refine bI fun e75 h76=>?_
   try have qh76:=Xn h76
   intro h
   exact absurd (h76) (by simp[X2c])
  obtain rfl:=Xc2 rfl
  rcases Xhf with ⟨_|_,Xm1⟩
  ·
   refine X3.round ?_
   revert h
   refine brI (fun h77=>?_) fun h77=>fun e=>Xc [Bf] (k:=wkT [] (C0 _ _  nbS nbF (oj e).symm))
   refine bI fun e78 h79=>?_
   try have qh79:=Xn h79
   refine rnI [Bt,.el (X0d e78),.ld (X0d e78)] ?_
   intro h
   refine X3.yield rfl rfl rfl rfl rfl trivial trivial (.head _) rh1 rh2 rh3 rh4 rh5 rfl rfl ?_
   refine X0l [] ?_
   refine X3.asg ?_
   revert h
   refine bI fun u82 h83=>rnI [.no] (o:=by repeat' first|apply Ya|exact pcM|(refine X8 h83 rfl ?_;first|(simp;done)|(simp;omega)|(simp[h77];done)|(simp[h77];omega))|(refine X2 h83 (by decide) ?_;first|(simp;done)|(simp;omega)|(simp[h77];done)|(simp[h77];omega))|exact Xw) ?_
   intro h
   refine X3.rndEnd ?_
   exact Xc [Bf,.wrap] (o:=by repeat' first|apply Ya|exact pcM|(refine X8 h83 rfl ?_;first|(simp;done)|(simp;omega)|(simp[h77];done)|(simp[h77];omega))|(refine X2 h83 (by decide) ?_;first|(simp;done)|(simp;omega)|(simp[h77];done)|(simp[h77];omega))|exact Xw) (k:=wkT [(3,7)] (ih  _ _ nbF o h C0))
  obtain rfl:=Xm1 rfl
  refine X3.round ?_
  revert h
  refine brI (fun h84=>?_) fun h84=>fun e=>Xc [Bf] (k:=wkT [] (C0 _ _  nbS nbS (oj e).symm))
  refine bI fun e85 h86=>?_
  try have qh86:=Xn h86
  intro h
  exact absurd (h86) (by simp[X2c])
instance X01d:PCs Tryz.prog 118 (∀ (a0:Int) (a1:Int) (a2:Int) (r:(List X13)×Int),Xcu a0 a1 a2=some r->X11 Tryz.prog 118 [(aI .i64 a0),(aI .i64 a1),(aI .i64 a2)] (AV.tup [(AV.list true (r.1.map X0d)),(aI .i64 r.2)])):=⟨fun a0 a1 a2 r h=>by
 refine X11.sym Xh X07z (nt:=70) rfl rfl ?_ okM
 unfold Xcu at h
 revert h
 refine brI (fun h1=>fun e=>oj e▸Xc [.wrap,Bt] (k:=fi)) fun h1=>bI fun v2 h3=>brI (fun h4=>fun e=>oj e▸Xc [.wrap,Bf,.pure _ (AV.tup [(X0d v2.1),(aI .i64 v2.2)]),Bt] (k:=fi)) fun h4=>bI fun o24 h25=>rnI [.wrap,Bf,.pure _ (AV.tup [(X0d v2.1),(aI .i64 v2.2)]),Bf] ?_
 intro h
 refine wkT [] (X3.cut (Xhv a0 a1 a2 _ _ _ nbS _ h25 ?_))
 intro X02 X0i eo24;subst eo24
 refine X3.glue ?_
 try dsimp only at h
 rcases X0i with ⟨_|_,X2q⟩
 ·
  refine X0l [] ?_
  refine X3.inline Xh X05y rfl rfl rfl rfl rfl trivial trivial rfl rfl ?_
  refine X0l [] ?_
  refine X3.back (by intro id h;cases h) rfl ?_
  refine X0l [] ?_
  refine X3.keepL [12,62] ?_
  refine X3.rangeFunc rfl trivial X05w rfl rfl rfl ?_
  intro rb rD rr rh1 rh2 rh3 rh4 rh5
  revert h
  refine bI fun o87 h88=>rnI [.el (aI .i64 (X02.length:Int)),.wrap] ?_
  intro h
  refine wkT [(4,0)] (X3.cut (Xac rh1 rh2 rh3 rh4 rh5 X02 nbF _ _ _ nbS _ h88 ?_))
  intro X4w Xcn X3i X75 eo87;subst eo87
  refine X3.glue ?_
  try dsimp only at h
  rcases X3i with ⟨_|_,X8e⟩
  ·
   rcases X75 with ⟨_|_,X8d⟩
   ·
    refine X0l [] ?_
    refine X3.rfEnd (by intro id h;cases h) ?_
    revert h
    exact fun e=>oj e▸Xc [] (k:=fi)
   obtain rfl:=X8d rfl
   refine X0l [] ?_
   refine X3.rfEnd (by intro id h;cases h) ?_
   revert h
   exact fun e=>oj e▸Xc [] (k:=fi)
  obtain rfl:=X8e rfl
  rcases X75 with ⟨_|_,X8d⟩
  ·
   refine X0l [] ?_
   refine X3.rfEnd (by intro id h;cases h) ?_
   revert h
   exact fun e=>oj e▸Xc [] (k:=fi)
  obtain rfl:=X8d rfl
  refine X0l [] ?_
  refine X3.rfEnd (by intro id h;cases h) ?_
  revert h
  exact fun e=>oj e▸Xc [] (k:=fi)
 obtain rfl:=X2q rfl
 refine X0l [] ?_
 refine X3.inline Xh X05y rfl rfl rfl rfl rfl trivial trivial rfl rfl ?_
 refine X0l [] ?_
 refine X3.back (by intro id h;cases h) rfl ?_
 refine X0l [] ?_
 refine X3.keepL [12,62] ?_
 refine X3.rangeFunc rfl trivial X05w rfl rfl rfl ?_
 intro rb rD rr rh1 rh2 rh3 rh4 rh5
 revert h
 refine bI fun o130 h131=>rnI [.el (aI .i64 (List.length ([]:List X13):Int)),.wrap] ?_
 intro h
 refine wkT [] (X3.cut (Xac rh1 rh2 rh3 rh4 rh5 ([]:List X13) nbS _ _ _ nbS _ h131 ?_))
 intro X4w Xcn X3i X75 eo130;subst eo130
 refine X3.glue ?_
 try dsimp only at h
 rcases X3i with ⟨_|_,X8e⟩
 ·
  rcases X75 with ⟨_|_,X8d⟩
  ·
   refine X0l [] ?_
   refine X3.rfEnd (by intro id h;cases h) ?_
   revert h
   exact fun e=>oj e▸Xc [] (k:=fi)
  obtain rfl:=X8d rfl
  refine X0l [] ?_
  refine X3.rfEnd (by intro id h;cases h) ?_
  revert h
  exact fun e=>oj e▸Xc [] (k:=fi)
 obtain rfl:=X8e rfl
 rcases X75 with ⟨_|_,X8d⟩
 ·
  refine X0l [] ?_
  refine X3.rfEnd (by intro id h;cases h) ?_
  revert h
  exact fun e=>oj e▸Xc [] (k:=fi)
 obtain rfl:=X8d rfl
 refine X0l [] ?_
 refine X3.rfEnd (by intro id h;cases h) ?_
 revert h
 exact fun e=>oj e▸Xc [] (k:=fi)⟩
instance Xhu:PCs Tryz.prog 83 (∀ (a0:X0w) (a1:Int) (r:(List X13)×Int),Xen a0 a1=some r->X11 Tryz.prog 83 [(X3n a0),(aI .i64 a1)] (AV.tup [(AV.list true (r.1.map X0d)),(aI .i64 r.2)])):=⟨fun a0 a1 r h=>by
 refine X11.sym Xh fn83 (nt:=40) rfl rfl ?_ okM
 unfold Xen at h
 revert h
 exact bI fun v1 h2=>brI (fun h3=>fun e=>oj e▸Xc [.pure _ (aI .i64 v1),Bt] (k:=fi)) fun h3=>brI (fun h4=>bI fun v5 h6=>brI (fun h7=>fun e=>oj e▸Xc [.pure _ (aI .i64 v1),Bf,Bt,.pure _ (AV.tup [(X0d v5.1),(aI .i64 v5.2)]),Bt] (k:=fi)) fun h7=>fun e=>oj e▸Xc [.pure _ (aI .i64 v1),Bf,Bt,.pure _ (AV.tup [(X0d v5.1),(aI .i64 v5.2)]),Bf] (k:=fi)) fun h4=>brI (fun h8=>bI fun v9 h10=>fun e=>oj e▸Xc [.pure _ (aI .i64 v1),Bf,Bf,Bt,.pure _ (AV.tup [(AV.list true (v9.1.map X0d)),(aI .i64 v9.2)])] (k:=fi)) fun h8=>fun e=>oj e▸Xc [.pure _ (aI .i64 v1),Bf,Bf,Bf] (k:=fi)⟩
theorem X1j {Q:X07->St->Mu->Prop} {μ:Mu} (X1b:(List Xa)) (X1q:Xa) (X3q:Nb X1b) (hl:X1b.length<=140737488355328):∀ (xs:List Xa) (k:Nat) (hx:X1b.drop k=xs) (o:X0m) (h:Xv X1b X1q xs k  = some o)
  (C0:o=X0m.x0->X3 Tryz.prog 19 5 Q (.exit (.exit 0)) [] ⟨fr [],hp ([(4,Ob [(X9 X1q)] 11)]++opE X3q.1 3 11 (X1b.map X9)),5⟩ μ)
  (C1:∀ (Xa7:Int),o=X0m.x1 Xa7->X3 Tryz.prog 19 5 Q (.exit .ret) [] ⟨fr [(4,(aI .i64 Xa7))],hp ([(4,Ob [(X9 X1q)] 11)]++opE X3q.1 3 11 (X1b.map X9)),5⟩ μ),
  X3 Tryz.prog 19 5 Q (.loop (X4t 0 (Xu Tryz.f113))) [] ⟨fr [(0,(slE X3q.1 3 (X1b.map X9))),(1,(AV.fn 114 [(AV.ptr 4 0 0)])),(7,(aI .i64 (X1b.length:Int))),(8,(aI .i64 (k:Int)))],hp ([(4,Ob [(X9 X1q)] 11)]++opE X3q.1 3 11 (X1b.map X9)),5⟩ μ:=by
 intro xs
 induction xs with
 |nil =>
  intro k hx  o h C0 C1
  have hk:=X1e hx
  have hc:decide ((k:Int)<(X1b.length:Int))=false:=Yf (by omega)
  rw[Xv] at h
  rcases X3q with ⟨_|_,Xc2⟩
  ·
   refine X3.round ?_
   revert h
   exact fun e=>Xc [Bf] (k:=wkT [] (C0  (oj e).symm))
  ·
   obtain rfl:=Xc2 rfl
   refine X3.round ?_
   revert h
   exact fun e=>Xc [Bf] (k:=wkT [] (C0  (oj e).symm))
 |cons x xs ih =>
  intro k hx  o h C0 C1
  obtain⟨hk,hg,hx1⟩:=X0t hx
  have hc:decide ((k:Int)<(X1b.length:Int))=true:=Yt (by omega)
  rw[Xv] at h
  rcases X3q with ⟨_|_,Xc2⟩
  ·
   refine X3.round ?_
   refine X0l [Bt,.el (X9 x),.ld (X9 x)] ?_
   refine X3.inline Xh X082 rfl rfl rfl rfl rfl trivial trivial rfl rfl ?_
   refine X0l [] ?_
   refine X3.back (by intro id h;cases h) rfl ?_
   revert h
   refine brI (fun h1341=>fun e=>Xc [Bt] (k:=wkT [] (C1 _  (oj e).symm))) fun h1341=>rnI [Bf] ?_
   intro h
   exact wkT [] (ih (k+1) hx1  o h C0 C1)
  obtain rfl:=Xc2 rfl
  refine X3.round ?_
  exact absurd hk (by simp)
end Go.Av.Tryz