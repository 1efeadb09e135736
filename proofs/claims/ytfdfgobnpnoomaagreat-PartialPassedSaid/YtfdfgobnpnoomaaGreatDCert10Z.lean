/- Printed by decomp.py: that the program computes the functions. -/
import Derived.Test.YtfdfgobnpnoomaaGreatDCert9Z
set_option linter.all false

namespace Go.Av.Tryz
open Go.Proofs Go.D
set_option maxRecDepth 10000
set_option maxHeartbeats 40000000
theorem X9a (a0:X0t) (a1:X0t) (r:Int) (h:X07 a0 a1=some r):X0g Tryz.prog 62 [(Xb a0),(Xb a1),(AV.elem false (AV.fn 60 []) 0)] (aI .i64 r):=by
 refine X0g.sym Xa fn62 (nt:=10) rfl rfl ?_ okM
 unfold X07 at h
 revert h
 exact bI fun v1 h2=>fun e=>oj e▸X9 [.pure _ (aI .i64 v1)] (k:=fi)
instance X070:PCs Tryz.prog 36 (∀ (a0:(List X0t)) (r:(List X0t)×Int),Xfd a0=some r->X0g Tryz.prog 36 [(Lf (a0.map Xb))] (AV.tup [(AV.list true (r.1.map Xb)),(aI .i64 r.2)])):=⟨fun a0 r h=>by
 refine X0g.sym Xa fn36 (nt:=10) rfl rfl ?_ okM
 unfold Xfd at h
 revert h
 refine bI fun w18 h36=>?_
 intro h
 obtain⟨X020,X09p⟩:=w18
 try dsimp only at h
 refine X10 [] ?_
 refine X2.joinOpF (fun(q:Nb X020)=>⟨fr [(7,(AV.tup [(slE q.1 0 (X020.map Xb)),(aI .i64 X09p)]))],hp ([]++opE q.1 0 5 (X020.map Xb)),1⟩) ?_ (fun J=>?_)
 ·
  rintro X015
  rcases X015 with ⟨_|_,X02l⟩
  ·
   revert h
   exact fun e=>oj e▸X9 [] (k:=fi)
  obtain rfl:=X02l rfl
  revert h
  exact fun e=>oj e▸X9 [] (k:=fi)
 clear h;revert h36
 intro h
 refine X2.inline Xa fn61 rfl rfl rfl rfl rfl trivial trivial rfl rfl ?_
 revert h
 refine brI (fun h19=>?_) fun h19=>?_
 ·
  intro h
  simp only[Option.some.injEq,Prod.mk.injEq] at h
  obtain⟨rfl,rfl⟩:=h
  refine X10 [.el (aI .i64 (a0.length:Int)),Bt] ?_
  refine X2.back (by intro id h;cases h) rfl ?_
  exact wkT [] ((J nbS))
 refine bI fun Xmd h31=>rnI [.el (aI .i64 (a0.length:Int)),Bf] ?_
 intro h
 refine X2.joinOpF (fun(q:Nb Xmd)=>⟨fr [(1,(AV.fn 62 [(AV.ptr 1 0 0)])),(11,(slE q.1 2 (Xmd.map Xb)))],hp ([(1,Ob [(AV.fn 60 [])] 1)]++opE q.1 2 5 (Xmd.map Xb)),3⟩) ?_ (fun J=>?_)
 ·
  rintro X013
  rcases X013 with ⟨_|_,X02j⟩
  ·
   revert h
   refine bI fun m32 h33=>rnI [] ?_
   intro h
   refine X2.hcall rfl rfl rfl rfl rfl trivial trivial (X06x (enc:=Xb) (fun _=>rfl) (fun _=>rfl) (fun _=>X07d rfl) Tryz.sortLay99 rfl Tryz.isAgg65 Tryz.sizeOf65 X07 cvM (fun x y r h=>X9a x y r h) (l:=Xmd) h33 rfl (by first|rfl|simp) ⟨_,_,fn99⟩ ⟨_,_,fn62⟩) ?_
   have qlh33:(m32).length=(Xmd).length:=Xqx h33
   simp only[Option.some.injEq,Prod.mk.injEq] at h
   obtain⟨rfl,rfl⟩:=h
   refine X10 [] (o:=by repeat' first|apply Ya|exact pcM|(simp[qlh33];done)|(simp[qlh33];omega)|exact X0k) ?_
   refine X2.back (by intro id h;cases h) rfl ?_
   exact wkT [(0,2)] ((J nbF))
  obtain rfl:=X02j rfl
  revert h
  refine bI fun m34 h35=>rnI [] ?_
  intro h
  obtain rfl:=Xqw h35
  refine X2.hcall rfl rfl rfl rfl rfl trivial trivial (Xvz (cap:=0) Tryz.sortLay99 rfl ⟨_,_,fn99⟩) ?_
  simp only[Option.some.injEq,Prod.mk.injEq] at h
  obtain⟨rfl,rfl⟩:=h
  refine X10 [] ?_
  refine X2.back (by intro id h;cases h) rfl ?_
  exact wkT [] ((J nbS))
 clear h;revert h31
 intro h
 refine X2.inline Xa fn98 rfl rfl rfl rfl rfl trivial trivial rfl rfl ?_
 revert h
 refine brI (fun q=>?_) fun q=>?_
 ·
  intro h
  have h26:a0=[]:=List.isEmpty_iff.1 q
  refine X10 [] ?_
  refine X2.eqNil Xa (may:=true) rfl rfl rfl rfl rfl rfl trivial (by simp[Xh6, *]) fun b27 qb27=>?_
  cases b27
  ·
   obtain rfl:=oj h
   refine X10 [Bf,.ne false] ?_
   refine X2.back (by intro id h;cases h) rfl ?_
   exact wkT [(1,0)] ((J nbS))
  obtain rfl:=oj h
  refine X10 [Bt] ?_
  refine X2.back (by intro id h;cases h) rfl ?_
  exact wkT [(1,0)] ((J nbS))
 intro h
 have h26:¬ (a0=[]):=(fun e=>by rw[e] at q;cases q)
 refine X10 [] ?_
 refine X2.eqNil Xa (may:=false) rfl rfl rfl rfl rfl rfl trivial (by simp[Xh6, *]) fun b28 qb28=>?_
 obtain rfl:=qb28 rfl
 revert h
 refine bI fun u29 h30=>?_
 intro h
 obtain rfl:=oj h
 refine X10 [Bf,.via (AV.list true (a0.map Xb))] (o:=by repeat' first|apply Ya|exact pcM|(refine X0a h30 rfl ?_;first|(simp;done)|(simp;omega)|(simp[h19,h26];done)|(simp[h19,h26];omega))|(refine Xs h30 (by decide) ?_;first|(simp;done)|(simp;omega)|(simp[h19,h26];done)|(simp[h19,h26];omega))|exact X0k) ?_
 refine X2.back (by intro id h;cases h) rfl ?_
 exact wkT [(1,0)] ((J nbF))⟩
instance Xnc:PCs Tryz.prog 64 (∀ (a0:X7) (a1:X7) (r:Int),X46 a0 a1=some r->X0g Tryz.prog 64 [(X0 a0),(X0 a1)] (aI .i64 r)):=⟨fun a0 a1 r h=>by
 refine X0g.sym Xa fn64 (nt:=22) rfl rfl ?_ okM
 unfold X46 at h
 revert h
 exact bI fun v1 h2=>bI fun v3 h4=>bI fun v5 h6=>bI fun v7 h8=>fun e=>oj e▸X9 [.pure _ (aI .i64 v1),.pure _ (aI .i64 v3),.pure _ (aI .i64 v5),.pure _ (aI .i64 v7)] (k:=fi)⟩
theorem X8b (a0:(List X7)) (r:(List X7)×Int) (h:X26 a0=some r):X0g Tryz.prog 63 [(Lf (a0.map X0)),(AV.fn 64 [])] (AV.tup [(AV.list true (r.1.map X0)),(aI .i64 r.2)]):=by
 refine X0g.sym Xa fn63 (nt:=16) rfl rfl ?_ okM
 unfold X26 at h
 revert h
 refine brI (fun h1=>fun e=>oj e▸X9 [.el (aI .i64 (a0.length:Int)),Bt] (k:=fi)) fun h1=>bI fun Xu7 h13=>rnI [.el (aI .i64 (a0.length:Int)),Bf] ?_
 intro h
 refine X2.joinOpF (fun(q:Nb Xu7)=>⟨fr [(1,(AV.fn 64 [])),(11,(slE q.1 0 (Xu7.map X0)))],hp ([]++opE q.1 0 3 (Xu7.map X0)),1⟩) ?_ (fun J=>?_)
 ·
  rintro X05k
  rcases X05k with ⟨_|_,X06c⟩
  ·
   revert h
   refine bI fun m14 h15=>rnI [] ?_
   intro h
   refine X2.hcall rfl rfl rfl rfl rfl trivial trivial (X06x (enc:=X0) (fun _=>rfl) (fun _=>rfl) (fun _=>X07d rfl) Tryz.sortLay101 rfl Tryz.isAgg55 Tryz.sizeOf55 X46 cvM (fun x y r h=>Xnc.ok x y r h) (l:=Xu7) h15 rfl (by first|rfl|simp) ⟨_,_,X0bu⟩ ⟨_,_,fn64⟩) ?_
   have qlh15:(m14).length=(Xu7).length:=Xqx h15
   revert h
   exact fun e=>oj e▸X9 [] (o:=by repeat' first|apply Ya|exact pcM|(simp[qlh15];done)|(simp[qlh15];omega)|exact X0k) (k:=fi)
  obtain rfl:=X06c rfl
  revert h
  refine bI fun m16 h17=>rnI [] ?_
  intro h
  obtain rfl:=Xqw h17
  refine X2.hcall rfl rfl rfl rfl rfl trivial trivial (Xvz (cap:=0) Tryz.sortLay101 rfl ⟨_,_,X0bu⟩) ?_
  revert h
  exact fun e=>oj e▸X9 [] (k:=fi)
 clear h;revert h13
 intro h
 refine X2.inline Xa X0er rfl rfl rfl rfl rfl trivial trivial rfl rfl ?_
 revert h
 refine brI (fun q=>?_) fun q=>?_
 ·
  intro h
  have h8:a0=[]:=List.isEmpty_iff.1 q
  refine X10 [] ?_
  refine X2.eqNil Xa (may:=true) rfl rfl rfl rfl rfl rfl trivial (by simp[Xh6, *]) fun b9 qb9=>?_
  cases b9
  ·
   obtain rfl:=oj h
   refine X10 [Bf,.ne false] ?_
   refine X2.back (by intro id h;cases h) rfl ?_
   exact wkT [] ((J nbS))
  obtain rfl:=oj h
  refine X10 [Bt] ?_
  refine X2.back (by intro id h;cases h) rfl ?_
  exact wkT [] ((J nbS))
 intro h
 have h8:¬ (a0=[]):=(fun e=>by rw[e] at q;cases q)
 refine X10 [] ?_
 refine X2.eqNil Xa (may:=false) rfl rfl rfl rfl rfl rfl trivial (by simp[Xh6, *]) fun b10 qb10=>?_
 obtain rfl:=qb10 rfl
 revert h
 refine bI fun u11 h12=>?_
 intro h
 obtain rfl:=oj h
 refine X10 [Bf,.via (AV.list true (a0.map X0))] (o:=by repeat' first|apply Ya|exact pcM|(refine X0a h12 rfl ?_;first|(simp;done)|(simp;omega)|(simp[h1,h8];done)|(simp[h1,h8];omega))|(refine Xs h12 (by decide) ?_;first|(simp;done)|(simp;omega)|(simp[h1,h8];done)|(simp[h1,h8];omega))|exact X0k) ?_
 refine X2.back (by intro id h;cases h) rfl ?_
 exact wkT [(0,1)] ((J nbF))
instance X071:PCs Tryz.prog 37 (∀ (a0:(List X7)) (r:(List X7)×Int),Xfe a0=some r->X0g Tryz.prog 37 [(Lf (a0.map X0))] (AV.tup [(AV.list true (r.1.map X0)),(aI .i64 r.2)])):=⟨fun a0 r h=>by
 refine X0g.sym Xa fn37 (nt:=8) rfl rfl ?_ okM
 unfold Xfe at h
 revert h
 exact bI fun v1 h2=>fun e=>oj e▸X9 [.pure [(Lf (a0.map X0)),(AV.fn 64 [])] (AV.tup [(AV.list true (v1.1.map X0)),(aI .i64 v1.2)])] (o:=by repeat' first|apply Ya|exact pcM|exact(pn (X8b _ _ h2) (cc (X5q (X1x Xa7 a0)) (cc .fn0 cn)))|exact X0k) (k:=fi)⟩
theorem Xgs {Q:X02->St->Mu->Prop} {μ:Mu} (X9z:Int) (Xf:X2c) (X84:(List X7)) (X0h:(List X7)) (Xf5:(List X0t)) (X2b:Nb X0h) (hl:Xf5.length<=140737488355328):∀ (xs:List X0t) (k:Nat) (hx:Xf5.drop k=xs) (X1t:(List X0t)) (X8j:Nb X1t) (o:X7r) (h:X2d X9z Xf X84 X0h Xf5 xs k X1t=some o)
  (C0:∀ (X5f:(List X0t)) (X0q:(List X7)) (Xgf:Nb X5f) (X11:Nb X0q),o=X7r.x0 X5f X0q->X2 Tryz.prog 65 0 Q (.exit (.exit 0)) [] ⟨fr [(6,(AV.ptr 0 0 0)),(9,(AV.list true (X84.map X0))),(11,(AV.ptr 1 0 0))],hp ([(0,Ob [(X14 true Xf)] 2),(1,Ob [AV.agg [(slE Xgf.1 2 (X5f.map Xb)),(slE X11.1 3 (X0q.map X0))]] 2)]++opE Xgf.1 2 5 (X5f.map Xb)++opE X11.1 3 3 (X0q.map X0)),4⟩ μ),
  X2 Tryz.prog 65 0 Q (.loop (X2v 0 (Xh Tryz.f12))) [] ⟨fr [(2,(aI .i64 X9z)),(6,(AV.ptr 0 0 0)),(9,(AV.list true (X84.map X0))),(11,(AV.ptr 1 0 0)),(25,(AV.list true (Xf5.map Xb))),(26,(aI .i64 (Xf5.length:Int))),(27,(aI .i64 (k:Int)))],hp ([(0,Ob [(X14 true Xf)] 2),(1,Ob [AV.agg [(slE X8j.1 2 (X1t.map Xb)),(slE X2b.1 3 (X0h.map X0))]] 2)]++opE X8j.1 2 5 (X1t.map Xb)++opE X2b.1 3 3 (X0h.map X0)),4⟩ μ:=by
 intro xs
 induction xs with
 |nil =>
  intro k hx X1t X8j o h C0
  have hk:=drop_nil hx
  have hc:decide ((k:Int)<(Xf5.length:Int))=false:=Yf (by omega)
  rw[X2d] at h
  rcases X8j with ⟨_|_,Xed⟩
  ·
   rcases X2b with ⟨_|_,X5n⟩
   ·
    refine X2.round ?_
    revert h
    exact fun e=>X9 [Bf] (k:=wkT [] (C0 _ _  nbF nbF (oj e).symm))
   obtain rfl:=X5n rfl
   refine X2.round ?_
   revert h
   exact fun e=>X9 [Bf] (k:=wkT [] (C0 _ _  nbF nbS (oj e).symm))
  ·
   obtain rfl:=Xed rfl
   rcases X2b with ⟨_|_,X5n⟩
   ·
    refine X2.round ?_
    revert h
    exact fun e=>X9 [Bf] (k:=wkT [] (C0 _ _  nbS nbF (oj e).symm))
   ·
    obtain rfl:=X5n rfl
    refine X2.round ?_
    revert h
    exact fun e=>X9 [Bf] (k:=wkT [] (C0 _ _  nbS nbS (oj e).symm))
 |cons x xs ih =>
  intro k hx X1t X8j o h C0
  obtain⟨hk,hg,hx1⟩:=drop_cons hx
  have hc:decide ((k:Int)<(Xf5.length:Int))=true:=Yt (by omega)
  rw[X2d] at h
  rcases X8j with ⟨_|_,Xed⟩
  ·
   rcases X2b with ⟨_|_,X5n⟩
   ·
    refine X2.round ?_
    revert h
    refine bI fun Xry h78=>rnI [Bt,.el (Xb x)] ?_
    intro h
    refine X2.joinF (fun(q:Nb Xry)=>⟨fr [(2,(aI .i64 X9z)),(6,(AV.ptr 0 0 0)),(9,(AV.list true (X84.map X0))),(11,(AV.ptr 1 0 0)),(25,(AV.list true (Xf5.map Xb))),(26,(aI .i64 (Xf5.length:Int))),(27,(aI .i64 (k:Int)))],hp ([(0,Ob [(X14 true Xf)] 2),(1,Ob [AV.agg [(slE q.1 2 (Xry.map Xb)),(AV.ref 3 0 (X0h.length))]] 2),(3,Ob (X0h.map X0) 3)]++opE q.1 2 5 (Xry.map Xb)),4⟩) ?_ (fun J=>X2.cut ?_)
    ·
     rintro X00x
     rcases X00x with ⟨_|_,X02d⟩
     ·
      exact X9 [] (k:=wkT [] (ih (k+1) hx1 _ nbF o h C0))
     obtain rfl:=X02d rfl
     exact X9 [] (k:=wkT [] (ih (k+1) hx1 _ nbS o h C0))
    clear h;revert h78
    refine brI (fun h75=>?_) fun h75=>?_
    ·
     refine bI fun u76 h77=>?_
     intro h
     obtain rfl:=oj h
     exact X9 [Bt,.no] (o:=by repeat' first|apply Ya|exact pcM|(refine X0a h77 rfl ?_;first|(simp;done)|(simp;omega)|(simp[hc,h75];done)|(simp[hc,h75];omega))|(refine Xs h77 (by decide) ?_;first|(simp;done)|(simp;omega)|(simp[hc,h75];done)|(simp[hc,h75];omega))|exact X0k) (k:=wkT [(2,6)] (X2.glue (J nbF)))
    intro h
    obtain rfl:=oj h
    exact X9 [Bf] (k:=wkT [] (X2.glue (J nbF)))
   obtain rfl:=X5n rfl
   refine X2.round ?_
   revert h
   refine bI fun X01m h86=>rnI [Bt,.el (Xb x)] ?_
   intro h
   refine X2.joinF (fun(q:Nb X01m)=>⟨fr [(2,(aI .i64 X9z)),(6,(AV.ptr 0 0 0)),(9,(AV.list true (X84.map X0))),(11,(AV.ptr 1 0 0)),(25,(AV.list true (Xf5.map Xb))),(26,(aI .i64 (Xf5.length:Int))),(27,(aI .i64 (k:Int)))],hp ([(0,Ob [(X14 true Xf)] 2),(1,Ob [AV.agg [(slE q.1 2 (X01m.map Xb)),AV.nils]] 2)]++opE q.1 2 5 (X01m.map Xb)),4⟩) ?_ (fun J=>X2.cut ?_)
   ·
    rintro X00w
    rcases X00w with ⟨_|_,X02c⟩
    ·
     exact X9 [] (k:=wkT [] (ih (k+1) hx1 _ nbF o h C0))
    obtain rfl:=X02c rfl
    exact X9 [] (k:=wkT [] (ih (k+1) hx1 _ nbS o h C0))
   clear h;revert h86
   refine brI (fun h83=>?_) fun h83=>?_
   ·
    refine bI fun u84 h85=>?_
    intro h
    obtain rfl:=oj h
    exact X9 [Bt,.no] (o:=by repeat' first|apply Ya|exact pcM|(refine X0a h85 rfl ?_;first|(simp;done)|(simp;omega)|(simp[hc,h83];done)|(simp[hc,h83];omega))|(refine Xs h85 (by decide) ?_;first|(simp;done)|(simp;omega)|(simp[hc,h83];done)|(simp[hc,h83];omega))|exact X0k) (k:=wkT [(2,6)] (X2.glue (J nbF)))
   intro h
   obtain rfl:=oj h
   exact X9 [Bf] (k:=wkT [] (X2.glue (J nbF)))
  obtain rfl:=Xed rfl
  rcases X2b with ⟨_|_,X5n⟩
  ·
   refine X2.round ?_
   revert h
   refine bI fun X01j h94=>rnI [Bt,.el (Xb x)] ?_
   intro h
   refine X2.joinF (fun(q:Nb X01j)=>⟨fr [(2,(aI .i64 X9z)),(6,(AV.ptr 0 0 0)),(9,(AV.list true (X84.map X0))),(11,(AV.ptr 1 0 0)),(25,(AV.list true (Xf5.map Xb))),(26,(aI .i64 (Xf5.length:Int))),(27,(aI .i64 (k:Int)))],hp ([(0,Ob [(X14 true Xf)] 2),(1,Ob [AV.agg [(slE q.1 2 (X01j.map Xb)),(AV.ref 3 0 (X0h.length))]] 2),(3,Ob (X0h.map X0) 3)]++opE q.1 2 5 (X01j.map Xb)),4⟩) ?_ (fun J=>X2.cut ?_)
   ·
    rintro X00v
    rcases X00v with ⟨_|_,X02b⟩
    ·
     exact X9 [] (k:=wkT [] (ih (k+1) hx1 _ nbF o h C0))
    obtain rfl:=X02b rfl
    exact X9 [] (k:=wkT [] (ih (k+1) hx1 _ nbS o h C0))
   clear h;revert h94
   refine brI (fun h91=>?_) fun h91=>?_
   ·
    refine bI fun u92 h93=>?_
    intro h
    obtain rfl:=oj h
    exact X9 [Bt,.no] (o:=by repeat' first|apply Ya|exact pcM|(refine X0a h93 rfl ?_;first|(simp;done)|(simp;omega)|(simp[hc,h91];done)|(simp[hc,h91];omega))|(refine Xs h93 (by decide) ?_;first|(simp;done)|(simp;omega)|(simp[hc,h91];done)|(simp[hc,h91];omega))|exact X0k) (k:=wkT [(2,6)] (X2.glue (J nbF)))
   intro h
   obtain rfl:=oj h
   exact X9 [Bf] (k:=wkT [] (X2.glue (J nbS)))
  obtain rfl:=X5n rfl
  refine X2.round ?_
  revert h
  refine bI fun X01h h102=>rnI [Bt,.el (Xb x)] ?_
  intro h
  refine X2.joinF (fun(q:Nb X01h)=>⟨fr [(2,(aI .i64 X9z)),(6,(AV.ptr 0 0 0)),(9,(AV.list true (X84.map X0))),(11,(AV.ptr 1 0 0)),(25,(AV.list true (Xf5.map Xb))),(26,(aI .i64 (Xf5.length:Int))),(27,(aI .i64 (k:Int)))],hp ([(0,Ob [(X14 true Xf)] 2),(1,Ob [AV.agg [(slE q.1 2 (X01h.map Xb)),AV.nils]] 2)]++opE q.1 2 5 (X01h.map Xb)),4⟩) ?_ (fun J=>X2.cut ?_)
  ·
   rintro X00u
   rcases X00u with ⟨_|_,X02a⟩
   ·
    exact X9 [] (k:=wkT [] (ih (k+1) hx1 _ nbF o h C0))
   obtain rfl:=X02a rfl
   exact X9 [] (k:=wkT [] (ih (k+1) hx1 _ nbS o h C0))
  clear h;revert h102
  refine brI (fun h99=>?_) fun h99=>?_
  ·
   refine bI fun u100 h101=>?_
   intro h
   obtain rfl:=oj h
   exact X9 [Bt,.no] (o:=by repeat' first|apply Ya|exact pcM|(refine X0a h101 rfl ?_;first|(simp;done)|(simp;omega)|(simp[hc,h99];done)|(simp[hc,h99];omega))|(refine Xs h101 (by decide) ?_;first|(simp;done)|(simp;omega)|(simp[hc,h99];done)|(simp[hc,h99];omega))|exact X0k) (k:=wkT [(2,6)] (X2.glue (J nbF)))
  intro h
  obtain rfl:=oj h
  exact X9 [Bf] (k:=wkT [] (X2.glue (J nbS)))
instance Xxb:PCs Tryz.prog 12 (∀ (a0:Xu) (a1:(List (List Xk))) (a2:Int) (r:X2c×Int),X50 a0 a1 a2=some r->X0g Tryz.prog 12 [(Xm false a0),(Lf (List.map (X56 false Xd) a1)),(aI .i64 a2)] (AV.tup [(X14 true r.1),(aI .i64 r.2)])):=⟨fun a0 a1 a2 r h=>by
 refine X0g.sym Xa fn12 (nt:=65) rfl rfl ?_ okM
 unfold X50 at h
 revert h
 refine bI fun v1 h2=>brI (fun h3=>fun e=>oj e▸X9 [.pure _ (AV.tup [(AV.list true (v1.1.map Xb)),(AV.list true (v1.2.1.map X0)),(aI .i64 v1.2.2)]),Bt] (k:=fi)) fun h3=>bI fun u4 h5=>?_
 have qh5:=X08 h5
 refine rnI [.pure _ (AV.tup [(AV.list true (v1.1.map Xb)),(AV.list true (v1.2.1.map X0)),(aI .i64 v1.2.2)]),Bf,.el (aI .i64 (v1.1.length:Int))] ?_
 intro h
 refine X2.denil 1 [AV.agg [(AV.list true (List.map Xb ([]:List X0t))),(AV.list true (List.map X0 ([]:List X7)))]] rfl rfl ?_
 revert h
 refine bI fun o103 h104=>rnI [] ?_
 intro h
 refine wkT [(0,1),(1,2)] (X2.cut (Xgs a2 (X2c.mk ([]:List X0t) ([]:List X7)) v1.2.1 ([]:List X7) v1.1 nbS qh5 v1.1 0 (by simp) _ nbS _ h104 ?_))
 intro X5f X0q Xgf X11 eo103;subst eo103
 refine X2.glue ?_
 try dsimp only at h
 rcases Xgf with ⟨_|_,Xy8⟩
 ·
  rcases X11 with ⟨_|_,X32⟩
  ·
   revert h
   refine bI fun v105 h106=>brI (fun h107=>fun e=>oj e▸X9 [.pure _ (AV.tup [(AV.list true (v105.1.map Xb)),(aI .i64 v105.2)]),Bt] (k:=fi)) fun h107=>bI fun v108 h109=>rnI [.pure _ (AV.tup [(AV.list true (v105.1.map Xb)),(aI .i64 v105.2)]),Bf,.pure _ (AV.tup [(AV.list true (v108.1.map X0)),(aI .i64 v108.2)])] ?_
   exact brI (fun h110=>fun e=>oj e▸X9 [Bt] (k:=fi)) fun h110=>fun e=>oj e▸X9 [Bf] (k:=fi)
  obtain rfl:=X32 rfl
  revert h
  refine bI fun v111 h112=>brI (fun h113=>fun e=>oj e▸X9 [.pure _ (AV.tup [(AV.list true (v111.1.map Xb)),(aI .i64 v111.2)]),Bt] (k:=fi)) fun h113=>bI fun v114 h115=>rnI [.pure _ (AV.tup [(AV.list true (v111.1.map Xb)),(aI .i64 v111.2)]),Bf,.pure _ (AV.tup [(AV.list true (v114.1.map X0)),(aI .i64 v114.2)])] ?_
  exact brI (fun h116=>fun e=>oj e▸X9 [Bt] (k:=fi)) fun h116=>fun e=>oj e▸X9 [Bf] (k:=fi)
 obtain rfl:=Xy8 rfl
 rcases X11 with ⟨_|_,X32⟩
 ·
  revert h
  refine bI fun v117 h118=>brI (fun h119=>fun e=>oj e▸X9 [.pure _ (AV.tup [(AV.list true (v117.1.map Xb)),(aI .i64 v117.2)]),Bt] (k:=fi)) fun h119=>bI fun v120 h121=>rnI [.pure _ (AV.tup [(AV.list true (v117.1.map Xb)),(aI .i64 v117.2)]),Bf,.pure _ (AV.tup [(AV.list true (v120.1.map X0)),(aI .i64 v120.2)])] ?_
  exact brI (fun h122=>fun e=>oj e▸X9 [Bt] (k:=fi)) fun h122=>fun e=>oj e▸X9 [Bf] (k:=fi)
 obtain rfl:=X32 rfl
 revert h
 refine bI fun v123 h124=>brI (fun h125=>fun e=>oj e▸X9 [.pure _ (AV.tup [(AV.list true (v123.1.map Xb)),(aI .i64 v123.2)]),Bt] (k:=fi)) fun h125=>bI fun v126 h127=>rnI [.pure _ (AV.tup [(AV.list true (v123.1.map Xb)),(aI .i64 v123.2)]),Bf,.pure _ (AV.tup [(AV.list true (v126.1.map X0)),(aI .i64 v126.2)])] ?_
 exact brI (fun h128=>fun e=>oj e▸X9 [Bt] (k:=fi)) fun h128=>fun e=>oj e▸X9 [Bf] (k:=fi)⟩
instance X049:PCs Tryz.prog 152 (∀ (a0:Int) (r:Int),X2k a0=some r->X0g Tryz.prog 152 [(aI .u8 a0)] (aI .i64 r)):=⟨fun a0 r h=>by
 refine X0g.sym Xa X0dq (nt:=7) rfl rfl ?_ okM
 unfold X2k at h
 revert h
 exact brI (fun h1=>fun e=>oj e▸X9 [Bt] (k:=fi)) fun h1=>brI (fun h2=>fun e=>oj e▸X9 [Bf,Bt] (k:=fi)) fun h2=>fun e=>oj e▸X9 [Bf,Bf] (k:=fi)⟩
instance X046:PCs Tryz.prog 153 (∀ (a0:X05) (a1:Int) (a2:Int) (r:Bool),X7p a0 a1 a2=some r->X0g Tryz.prog 153 [(X4 a0),(aI .i64 a1),(aI .i64 a2)] (aB r)):=⟨fun a0 a1 a2 r h=>by
 refine X0g.sym Xa X0dp (nt:=52) rfl rfl ?_ okM
 unfold X7p at h
 revert h
 exact fun e=>oj e▸X9 [] (k:=fi)⟩
theorem Xja {Q:X02->St->Mu->Prop} {μ:Mu} (X00:(List X05)) (hl:X00.length<=140737488355328):∀ (xs:List X05) (k:Nat) (hx:X00.drop k=xs) (Xf:(List Int)) (Xi:(List Int)) (Xy:Nb Xf) (Xl:Nb Xi) (o:X5u) (h:X1r X00 xs k Xf Xi=some o)
  (C0:∀ (Xe:(List Int)) (X0s:(List Int)) (Xj:Nb Xe) (X0v:Nb X0s),o=X5u.x0 Xe X0s->X2 Tryz.prog 102 0 Q (.exit (.exit 0)) [] ⟨fr [(0,(Lf (X00.map X4))),(5,(slE Xj.1 0 (List.map (aI .i64) Xe))),(6,(slE X0v.1 1 (List.map (aI .i64) X0s)))],hp ([]++opE Xj.1 0 1 (List.map (aI .i64) Xe)++opE X0v.1 1 1 (List.map (aI .i64) X0s)),2⟩ μ)
  (C1:∀ (X0e:(List Int)) (X6c:(List Int)) (X0c:Nb X0e) (X55:Nb X6c),o=X5u.x1 X0e X6c->X2 Tryz.prog 102 0 Q (.exit .ret) [] ⟨fr [(2,(slE X0c.1 0 (List.map (aI .i64) X0e))),(3,(slE X55.1 1 (List.map (aI .i64) X6c))),(4,(aB false))],hp ([]++opE X0c.1 0 1 (List.map (aI .i64) X0e)++opE X55.1 1 1 (List.map (aI .i64) X6c)),2⟩ μ),
  X2 Tryz.prog 102 0 Q (.loop (X2v 0 (Xh Tryz.f128))) [] ⟨fr [(0,(Lf (X00.map X4))),(5,(slE Xy.1 0 (List.map (aI .i64) Xf))),(6,(slE Xl.1 1 (List.map (aI .i64) Xi))),(7,(aI .i64 (k:Int)))],hp ([]++opE Xy.1 0 1 (List.map (aI .i64) Xf)++opE Xl.1 1 1 (List.map (aI .i64) Xi)),2⟩ μ:=by
 intro xs
 induction xs with
 |nil =>
  intro k hx Xf Xi Xy Xl o h C0 C1
  have hk:=drop_nil hx
  have hc:decide ((k:Int)<(X00.length:Int))=false:=Yf (by omega)
  rw[X1r] at h
  rcases Xy with ⟨_|_,X1b⟩
  ·
   rcases Xl with ⟨_|_,X04⟩
   ·
    refine X2.round ?_
    revert h
    exact fun e=>X9 [.el (aI .i64 (X00.length:Int)),Bf] (k:=wkT [] (C0 _ _  nbF nbF (oj e).symm))
   obtain rfl:=X04 rfl
   refine X2.round ?_
   revert h
   exact fun e=>X9 [.el (aI .i64 (X00.length:Int)),Bf] (k:=wkT [] (C0 _ _  nbF nbS (oj e).symm))
  ·
   obtain rfl:=X1b rfl
   rcases Xl with ⟨_|_,X04⟩
   ·
    refine X2.round ?_
    revert h
    exact fun e=>X9 [.el (aI .i64 (X00.length:Int)),Bf] (k:=wkT [] (C0 _ _  nbS nbF (oj e).symm))
   ·
    obtain rfl:=X04 rfl
    refine X2.round ?_
    revert h
    exact fun e=>X9 [.el (aI .i64 (X00.length:Int)),Bf] (k:=wkT [] (C0 _ _  nbS nbS (oj e).symm))
 |cons x xs ih =>
  intro k hx Xf Xi Xy Xl o h C0 C1
  obtain⟨hk,hg,hx1⟩:=drop_cons hx
  have hc:decide ((k:Int)<(X00.length:Int))=true:=Yt (by omega)
  rw[X1r] at h
  rcases Xy with ⟨_|_,X1b⟩
  ·
   rcases Xl with ⟨_|_,X04⟩
   ·
    refine X2.round ?_
    revert h
    refine bI fun v156 h157=>brI (fun h158=>?_) fun h158=>?_
    ·
     refine brI (fun h159=>fun e=>X9 [.el (aI .i64 (X00.length:Int)),Bt,.el (X4 x),.pure _ (aI .i64 v156),Bt,.wrap,Bt] (k:=wkT [] (C1 _ _  nbS nbS (oj e).symm))) fun h159=>bI fun e160 h161=>?_
     try have qh161:=Xn h161
     refine bI fun e162 h163=>?_
     try have qh163:=Xn h163
     refine rnI [.el (aI .i64 (X00.length:Int)),Bt,.el (X4 x),.pure _ (aI .i64 v156),Bt,.wrap,Bf,.el (aI .i64 e160),.ld (aI .i64 e160),.wrap,.el (aI .i64 e160),.ld (aI .i64 e160),.wrap,.el (aI .i64 e162),.ld (aI .i64 e162),.wrap] ?_
     refine brI (fun h164=>?_) fun h164=>?_
     ·
      refine brI (fun h165=>fun e=>X9 [Bt,Bt] (k:=wkT [] (C1 _ _  nbS nbS (oj e).symm))) fun h165=>bI fun e166 h167=>?_
      try have qh167:=Xn h167
      refine bI fun e168 h169=>?_
      try have qh169:=Xn h169
      refine bI fun v170 h171=>rnI [Bt,Bf,.el (aI .i64 e166),.ld (aI .i64 e166),.wrap,.el (aI .i64 e168),.ld (aI .i64 e168),.wrap,.el (X4 x),.pure _ (aB v170)] ?_
      refine brI (fun h172=>fun e=>X9 [Bt] (k:=wkT [] (C1 _ _  nbS nbS (oj e).symm))) fun h172=>?_
      refine bI fun u173 h174=>bI fun u175 h176=>rnI [Bf,.no,.no] (o:=by repeat' first|apply Ya|exact pcM|(refine X0a h174 rfl ?_;first|(simp;done)|(simp;omega)|(simp[hc,h158,h159,h164,h165,h172];done)|(simp[hc,h158,h159,h164,h165,h172];omega))|(refine Xs h174 (by decide) ?_;first|(simp;done)|(simp;omega)|(simp[hc,h158,h159,h164,h165,h172];done)|(simp[hc,h158,h159,h164,h165,h172];omega))|(refine X0a h176 rfl ?_;first|(simp;done)|(simp;omega)|(simp[hc,h158,h159,h164,h165,h172];done)|(simp[hc,h158,h159,h164,h165,h172];omega))|(refine Xs h176 (by decide) ?_;first|(simp;done)|(simp;omega)|(simp[hc,h158,h159,h164,h165,h172];done)|(simp[hc,h158,h159,h164,h165,h172];omega))|exact X0k) ?_
      intro h
      exact wkT [(0,3),(1,5)] (ih (k+1) hx1 _ _ nbF nbF o h C0 C1)
     refine bI fun v177 h178=>brI (fun h179=>fun e=>X9 [Bf,.el (X4 x),.pure _ (aB v177),Bt] (k:=wkT [] (C1 _ _  nbS nbS (oj e).symm))) fun h179=>?_
     refine bI fun u180 h181=>bI fun u182 h183=>rnI [Bf,.el (X4 x),.pure _ (aB v177),Bf,.no,.no] (o:=by repeat' first|apply Ya|exact pcM|(refine X0a h181 rfl ?_;first|(simp;done)|(simp;omega)|(simp[hc,h158,h159,h164,h179];done)|(simp[hc,h158,h159,h164,h179];omega))|(refine Xs h181 (by decide) ?_;first|(simp;done)|(simp;omega)|(simp[hc,h158,h159,h164,h179];done)|(simp[hc,h158,h159,h164,h179];omega))|(refine X0a h183 rfl ?_;first|(simp;done)|(simp;omega)|(simp[hc,h158,h159,h164,h179];done)|(simp[hc,h158,h159,h164,h179];omega))|(refine Xs h183 (by decide) ?_;first|(simp;done)|(simp;omega)|(simp[hc,h158,h159,h164,h179];done)|(simp[hc,h158,h159,h164,h179];omega))|exact X0k) ?_
     intro h
     exact wkT [(0,3),(1,5)] (ih (k+1) hx1 _ _ nbF nbF o h C0 C1)
    refine bI fun v184 h185=>brI (fun h186=>fun e=>X9 [.el (aI .i64 (X00.length:Int)),Bt,.el (X4 x),.pure _ (aI .i64 v156),Bf,.el (X4 x),.pure _ (aB v184),Bt] (k:=wkT [] (C1 _ _  nbS nbS (oj e).symm))) fun h186=>?_
    refine bI fun u187 h188=>bI fun u189 h190=>rnI [.el (aI .i64 (X00.length:Int)),Bt,.el (X4 x),.pure _ (aI .i64 v156),Bf,.el (X4 x),.pure _ (aB v184),Bf,.no,.no] (o:=by repeat' first|apply Ya|exact pcM|(refine X0a h188 rfl ?_;first|(simp;done)|(simp;omega)|(simp[hc,h158,h186];done)|(simp[hc,h158,h186];omega))|(refine Xs h188 (by decide) ?_;first|(simp;done)|(simp;omega)|(simp[hc,h158,h186];done)|(simp[hc,h158,h186];omega))|(refine X0a h190 rfl ?_;first|(simp;done)|(simp;omega)|(simp[hc,h158,h186];done)|(simp[hc,h158,h186];omega))|(refine Xs h190 (by decide) ?_;first|(simp;done)|(simp;omega)|(simp[hc,h158,h186];done)|(simp[hc,h158,h186];omega))|exact X0k) ?_
    intro h
    exact wkT [(0,3),(1,5)] (ih (k+1) hx1 _ _ nbF nbF o h C0 C1)
   obtain rfl:=X04 rfl
   refine X2.round ?_
   revert h
   refine bI fun v191 h192=>brI (fun h193=>?_) fun h193=>?_
   ·
    refine brI (fun h194=>fun e=>X9 [.el (aI .i64 (X00.length:Int)),Bt,.el (X4 x),.pure _ (aI .i64 v191),Bt,.wrap,Bt] (k:=wkT [] (C1 _ _  nbS nbS (oj e).symm))) fun h194=>bI fun e195 h196=>?_
    try have qh196:=Xn h196
    refine bI fun e197 h198=>?_
    try have qh198:=Xn h198
    intro h
    exact absurd (h198) (by simp[X1p])
   refine bI fun v199 h200=>brI (fun h201=>fun e=>X9 [.el (aI .i64 (X00.length:Int)),Bt,.el (X4 x),.pure _ (aI .i64 v191),Bf,.el (X4 x),.pure _ (aB v199),Bt] (k:=wkT [] (C1 _ _  nbS nbS (oj e).symm))) fun h201=>?_
   refine bI fun u202 h203=>bI fun u204 h205=>rnI [.el (aI .i64 (X00.length:Int)),Bt,.el (X4 x),.pure _ (aI .i64 v191),Bf,.el (X4 x),.pure _ (aB v199),Bf,.no,.no] (o:=by repeat' first|apply Ya|exact pcM|(refine X0a h203 rfl ?_;first|(simp;done)|(simp;omega)|(simp[hc,h193,h201];done)|(simp[hc,h193,h201];omega))|(refine Xs h203 (by decide) ?_;first|(simp;done)|(simp;omega)|(simp[hc,h193,h201];done)|(simp[hc,h193,h201];omega))|(refine X0a h205 rfl ?_;first|(simp;done)|(simp;omega)|(simp[hc,h193,h201];done)|(simp[hc,h193,h201];omega))|(refine Xs h205 (by decide) ?_;first|(simp;done)|(simp;omega)|(simp[hc,h193,h201];done)|(simp[hc,h193,h201];omega))|exact X0k) ?_
   intro h
   exact wkT [(0,3),(1,5)] (ih (k+1) hx1 _ _ nbF nbF o h C0 C1)
  obtain rfl:=X1b rfl
  rcases Xl with ⟨_|_,X04⟩
  ·
   refine X2.round ?_
   revert h
   refine bI fun v206 h207=>brI (fun h208=>?_) fun h208=>?_
   ·
    refine brI (fun h209=>fun e=>X9 [.el (aI .i64 (X00.length:Int)),Bt,.el (X4 x),.pure _ (aI .i64 v206),Bt,.wrap,Bt] (k:=wkT [] (C1 _ _  nbS nbS (oj e).symm))) fun h209=>bI fun e210 h211=>?_
    try have qh211:=Xn h211
    intro h
    exact absurd (h211) (by simp[X1p])
   refine bI fun v212 h213=>brI (fun h214=>fun e=>X9 [.el (aI .i64 (X00.length:Int)),Bt,.el (X4 x),.pure _ (aI .i64 v206),Bf,.el (X4 x),.pure _ (aB v212),Bt] (k:=wkT [] (C1 _ _  nbS nbS (oj e).symm))) fun h214=>?_
   refine bI fun u215 h216=>bI fun u217 h218=>rnI [.el (aI .i64 (X00.length:Int)),Bt,.el (X4 x),.pure _ (aI .i64 v206),Bf,.el (X4 x),.pure _ (aB v212),Bf,.no,.no] (o:=by repeat' first|apply Ya|exact pcM|(refine X0a h216 rfl ?_;first|(simp;done)|(simp;omega)|(simp[hc,h208,h214];done)|(simp[hc,h208,h214];omega))|(refine Xs h216 (by decide) ?_;first|(simp;done)|(simp;omega)|(simp[hc,h208,h214];done)|(simp[hc,h208,h214];omega))|(refine X0a h218 rfl ?_;first|(simp;done)|(simp;omega)|(simp[hc,h208,h214];done)|(simp[hc,h208,h214];omega))|(refine Xs h218 (by decide) ?_;first|(simp;done)|(simp;omega)|(simp[hc,h208,h214];done)|(simp[hc,h208,h214];omega))|exact X0k) ?_
   intro h
   exact wkT [(0,3),(1,5)] (ih (k+1) hx1 _ _ nbF nbF o h C0 C1)
  obtain rfl:=X04 rfl
  refine X2.round ?_
  revert h
  refine bI fun v219 h220=>brI (fun h221=>?_) fun h221=>?_
  ·
   refine brI (fun h222=>fun e=>X9 [.el (aI .i64 (X00.length:Int)),Bt,.el (X4 x),.pure _ (aI .i64 v219),Bt,.wrap,Bt] (k:=wkT [] (C1 _ _  nbS nbS (oj e).symm))) fun h222=>bI fun e223 h224=>?_
   try have qh224:=Xn h224
   intro h
   exact absurd (h224) (by simp[X1p])
  refine bI fun v225 h226=>brI (fun h227=>fun e=>X9 [.el (aI .i64 (X00.length:Int)),Bt,.el (X4 x),.pure _ (aI .i64 v219),Bf,.el (X4 x),.pure _ (aB v225),Bt] (k:=wkT [] (C1 _ _  nbS nbS (oj e).symm))) fun h227=>?_
  refine bI fun u228 h229=>bI fun u230 h231=>rnI [.el (aI .i64 (X00.length:Int)),Bt,.el (X4 x),.pure _ (aI .i64 v219),Bf,.el (X4 x),.pure _ (aB v225),Bf,.no,.no] (o:=by repeat' first|apply Ya|exact pcM|(refine X0a h229 rfl ?_;first|(simp;done)|(simp;omega)|(simp[hc,h221,h227];done)|(simp[hc,h221,h227];omega))|(refine Xs h229 (by decide) ?_;first|(simp;done)|(simp;omega)|(simp[hc,h221,h227];done)|(simp[hc,h221,h227];omega))|(refine X0a h231 rfl ?_;first|(simp;done)|(simp;omega)|(simp[hc,h221,h227];done)|(simp[hc,h221,h227];omega))|(refine Xs h231 (by decide) ?_;first|(simp;done)|(simp;omega)|(simp[hc,h221,h227];done)|(simp[hc,h221,h227];omega))|exact X0k) ?_
  intro h
  exact wkT [(0,3),(1,5)] (ih (k+1) hx1 _ _ nbF nbF o h C0 C1)
end Go.Av.Tryz