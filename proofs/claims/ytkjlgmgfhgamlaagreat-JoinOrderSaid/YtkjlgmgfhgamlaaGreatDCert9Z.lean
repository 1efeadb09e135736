/- Printed by decomp.py: that the program computes the functions. -/
import Derived.Test.YtkjlgmgfhgamlaaGreatDCert7Z
import Derived.Test.YtkjlgmgfhgamlaaGreatDCert8Z
set_option linter.all false

namespace Go.Av.Tryz
open Go.Proofs Go.D
set_option maxRecDepth 10000
set_option maxHeartbeats 40000000
instance Xto:PCs Tryz.prog 29 (∀ (a0:Int) (a1:X15) (r:Int×Int),X6h a0 a1=some r->X0l Tryz.prog 29 [(aI .u8 a0),(X0u a1)] (AV.tup [(aI .i64 r.1),(aI .i64 r.2)])):=⟨fun a0 a1 r h=>by
 refine X0l.sym X6 fn29 (nt:=34) rfl rfl ?_ okM
 unfold X6h at h
 revert h
 refine brI (fun h1=>fun e=>oj e▸Xa [Bt] (k:=fi)) fun h1=>bI fun v2 h3=>brI (fun h4=>fun e=>oj e▸Xa [Bf,.pure _ (aI .i64 v2),Bt] (k:=fi)) fun h4=>brI (fun h5=>fun e=>oj e▸Xa [Bf,.pure _ (aI .i64 v2),Bf,Bt] (k:=fi)) fun h5=>bI fun Xz3 h17=>rnI [Bf,.pure _ (aI .i64 v2),Bf,Bf,.stop 9] ?_
 intro h
 refine X3.join (s':=⟨fr [(4,(aI .i64 Xz3)),(5,(aI .i64 0))],hp ([]),0⟩) ?_ (fun J=>X3.cut ?_)
 ·
  revert h
  exact fun e=>oj e▸Xa [] (k:=fi)
 clear h;revert h17
 refine brI (fun h12=>?_) fun h12=>?_
 ·
  intro h
  obtain rfl:=oj h
  exact Xa [.ix 0] (o:=by repeat' first|apply Ya|exact pcM|exact((eq_of_beq h12))|exact Xw) (k:=wkT [] (X3.glue J))
 refine brI (fun h13=>?_) fun h13=>?_
 ·
  intro h
  obtain rfl:a0=1:=eq_of_beq h13
  obtain rfl:=oj h
  exact Xa [.ix 1] (k:=wkT [] (X3.glue J))
 refine brI (fun h14=>?_) fun h14=>?_
 ·
  intro h
  obtain rfl:a0=2:=eq_of_beq h14
  obtain rfl:=oj h
  exact Xa [.ix 2] (k:=wkT [] (X3.glue J))
 refine brI (fun h15=>?_) fun h15=>?_
 ·
  intro h
  obtain rfl:a0=3:=eq_of_beq h15
  obtain rfl:=oj h
  exact Xa [.ix 3] (k:=wkT [] (X3.glue J))
 refine brI (fun h16=>?_) fun h16=>?_
 ·
  intro h
  obtain rfl:a0=4:=eq_of_beq h16
  obtain rfl:=oj h
  exact Xa [.ix 4] (k:=wkT [] (X3.glue J))
 intro h
 cases h⟩
instance Xyi:PCs Tryz.prog 70 (∀ (a0:X06) (a1:X2) (r:X1x×Bool),Xdq a0 a1=some r->X0l Tryz.prog 70 [(Xs false a0),(X1 a1)] (AV.tup [(X01 r.1),(aB r.2)])):=⟨fun a0 a1 r h=>by
 refine X0l.sym X6 fn70 (nt:=43) rfl rfl ?_ okM
 unfold Xdq at h
 revert h
 exact bI fun v1 h2=>bI fun v3 h4=>brI (fun h5=>fun e=>oj e▸Xa [.ix 0,.pure _ (AV.tup [(aI .i64 v1.1),(aI .i64 v1.2)]),.ix 1,.pure _ (AV.tup [(aI .i64 v3.1),(aI .i64 v3.2)]),Bt] (k:=fi)) fun h5=>fun e=>oj e▸Xa [.ix 0,.pure _ (AV.tup [(aI .i64 v1.1),(aI .i64 v1.2)]),.ix 1,.pure _ (AV.tup [(aI .i64 v3.1),(aI .i64 v3.2)]),Bf] (k:=fi)⟩
theorem Xh7 {Q:Xz->St->Mu->Prop} {μ:Mu} (Xo:X06) (Xn:X0a) (X2t:X0a) (Xa2:(List X2)) (hl:Xa2.length<=140737488355328):∀ (xs:List X2) (k:Nat) (hx:Xa2.drop k=xs) (X02:(List X13)) (X0c:Nb X02) (o:X9y) (h:X3b Xo Xn X2t Xa2 xs k X02=some o)
  (C0:∀ (X2a:(List X13)) (X31:Nb X2a),o=X9y.x0 X2a->X3 Tryz.prog 153 0 Q (.exit (.exit 1)) [] ⟨fr [(5,(AV.ptr 0 0 0)),(8,(AV.ptr 1 0 0)),(21,(slE X31.1 2 (X2a.map X08)))],hp ([(0,Ob [(Xr false Xn)] 9),(1,Ob [(Xr true X2t)] 9)]++opE X31.1 2 11 (X2a.map X08)),3⟩ μ),
  X3 Tryz.prog 153 0 Q (.loop (X5p 0 (Xj Tryz.f31))) [] ⟨fr [(4,(AV.ptr 0 0 0)),(5,(AV.ptr 1 0 0)),(8,(AV.ptr 2 0 0)),(21,(slE X0c.1 3 (X02.map X08))),(128,(AV.list true (Xa2.map X1))),(129,(aI .i64 (Xa2.length:Int))),(130,(aI .i64 (k:Int)))],hp ([(0,Ob [(Xs false Xo)] 10),(1,Ob [(Xr false Xn)] 9),(2,Ob [(Xr true X2t)] 9)]++opE X0c.1 3 11 (X02.map X08)),4⟩ μ:=by
 intro xs
 induction xs with
 |nil =>
  intro k hx X02 X0c o h C0
  have hk:=drop_nil hx
  have hc:decide ((k:Int)<(Xa2.length:Int))=false:=Yf (by omega)
  rw[X3b] at h
  rcases X0c with ⟨_|_,X1d⟩
  ·
   refine X3.round ?_
   revert h
   exact fun e=>Xa [Bf] (k:=wkT [(0,1),(1,2),(2,3)] (C0 _  nbF (oj e).symm))
  ·
   obtain rfl:=X1d rfl
   refine X3.round ?_
   revert h
   exact fun e=>Xa [Bf] (k:=wkT [(0,1),(1,2)] (C0 _  nbS (oj e).symm))
 |cons x xs ih =>
  intro k hx X02 X0c o h C0
  obtain⟨hk,hg,hx1⟩:=X1a hx
  have hc:decide ((k:Int)<(Xa2.length:Int))=true:=Yt (by omega)
  rw[X3b] at h
  rcases X0c with ⟨_|_,X1d⟩
  ·
   refine X3.round ?_
   revert h
   refine bI fun v70 h71=>bI fun Xli h79=>rnI [Bt,.el (X1 x),.pure _ (AV.tup [(X01 v70.1),(aB v70.2)])] ?_
   intro h
   refine X3.joinF (fun(q:Nb Xli)=>⟨fr [(4,(AV.ptr 0 0 0)),(5,(AV.ptr 1 0 0)),(8,(AV.ptr 2 0 0)),(21,(slE q.1 3 (Xli.map X08))),(128,(AV.list true (Xa2.map X1))),(129,(aI .i64 (Xa2.length:Int))),(130,(aI .i64 (k:Int)))],hp ([(0,Ob [(Xs false Xo)] 10),(1,Ob [(Xr false Xn)] 9),(2,Ob [(Xr true X2t)] 9)]++opE q.1 3 11 (Xli.map X08)),4⟩) ?_ (fun J=>X3.cut ?_)
   ·
    rintro Xs2
    rcases Xs2 with ⟨_|_,Xst⟩
    ·
     exact Xa [] (k:=wkT [] (ih (k+1) hx1 _ nbF o h C0))
    obtain rfl:=Xst rfl
    exact Xa [] (k:=wkT [] (ih (k+1) hx1 _ nbS o h C0))
   clear h;revert h79
   refine brI (fun h76=>?_) fun h76=>?_
   ·
    refine bI fun u77 h78=>?_
    intro h
    obtain rfl:=oj h
    exact Xa [Bt,.no] (o:=by repeat' first|apply Ya|exact pcM|(refine Xv h78 rfl ?_;first|(simp;done)|(simp;omega)|(simp[hc,h76];done)|(simp[hc,h76];omega))|(refine Xf h78 (by decide) ?_;first|(simp;done)|(simp;omega)|(simp[hc,h76];done)|(simp[hc,h76];omega))|exact Xw) (k:=wkT [(3,7)] (X3.glue (J nbF)))
   intro h
   obtain rfl:=oj h
   exact Xa [Bf] (k:=wkT [] (X3.glue (J nbF)))
  obtain rfl:=X1d rfl
  refine X3.round ?_
  revert h
  refine bI fun v80 h81=>bI fun Xsf h89=>rnI [Bt,.el (X1 x),.pure _ (AV.tup [(X01 v80.1),(aB v80.2)])] ?_
  intro h
  refine X3.joinF (fun(q:Nb Xsf)=>⟨fr [(4,(AV.ptr 0 0 0)),(5,(AV.ptr 1 0 0)),(8,(AV.ptr 2 0 0)),(21,(slE q.1 3 (Xsf.map X08))),(128,(AV.list true (Xa2.map X1))),(129,(aI .i64 (Xa2.length:Int))),(130,(aI .i64 (k:Int)))],hp ([(0,Ob [(Xs false Xo)] 10),(1,Ob [(Xr false Xn)] 9),(2,Ob [(Xr true X2t)] 9)]++opE q.1 3 11 (Xsf.map X08)),4⟩) ?_ (fun J=>X3.cut ?_)
  ·
   rintro Xs1
   rcases Xs1 with ⟨_|_,Xss⟩
   ·
    exact Xa [] (k:=wkT [] (ih (k+1) hx1 _ nbF o h C0))
   obtain rfl:=Xss rfl
   exact Xa [] (k:=wkT [] (ih (k+1) hx1 _ nbS o h C0))
  clear h;revert h89
  refine brI (fun h86=>?_) fun h86=>?_
  ·
   refine bI fun u87 h88=>?_
   intro h
   obtain rfl:=oj h
   exact Xa [Bt,.no] (o:=by repeat' first|apply Ya|exact pcM|(refine Xv h88 rfl ?_;first|(simp;done)|(simp;omega)|(simp[hc,h86];done)|(simp[hc,h86];omega))|(refine Xf h88 (by decide) ?_;first|(simp;done)|(simp;omega)|(simp[hc,h86];done)|(simp[hc,h86];omega))|exact Xw) (k:=wkT [(3,7)] (X3.glue (J nbF)))
  intro h
  obtain rfl:=oj h
  exact Xa [Bf] (k:=wkT [] (X3.glue (J nbS)))
def Xgl:AV->AV
 |.list true es=>.list false es
 |a=>a
def Xd7:AV->AV
 |.agg cs=>.agg (cs.map Xgl)
 |a=>Xgl a
theorem Xgk (e:AV):(Xd7 e).cells=e.cells.map Xgl:=by
 cases e<;>try rfl
 rename_i own es;cases own<;>rfl
theorem Xpe {c:Ctx} {d:Bool} {a:AV} {v:Value} (h:X16 c d a v):X16 c d (Xgl a) v:=by
 unfold Xgl
 split
 ·cases h with
  |listNil=>exact .listNil
  |list vf hne hS hn hcap hsz hc h1 hr=>exact .list vf hne (.inr (hS.resolve_left fun h=>by cases h.1)) hn hcap hsz hc h1 hr
 exact h
theorem Xr9 {M:Nat->Prop} {a:AV} (h:a.Ok M):(Xgl a).Ok M:=by
 unfold Xgl
 split
 ·exact .list
 exact h
theorem Xr8 {c:Ctx} {p:Pl} {y:Obj} (h:Xm4 c p y):Xm4 c p { y with es:=y.es.map Xd7 }:=by
 obtain⟨⟨cur,h1,h2,h3⟩,h4,h5,h6⟩:=h
 refine⟨⟨cur,h1,h2,fun i e he=>?_⟩,by simpa using h4,h5,h6⟩
 simp only[List.getElem?_map,Option.map_eq_some_iff] at he
 obtain⟨e0,he0,rfl⟩:=he
 obtain⟨g1,g2⟩:=h3 i e0 he0
 rw[Xgk]
 refine⟨by simpa using g1,fun k a ha=>?_⟩
 simp only[List.getElem?_map,Option.map_eq_some_iff] at ha
 obtain⟨a0,ha0,rfl⟩:=ha
 obtain⟨v,v1,v2,v3⟩:=g2 k a0 ha0
 exact⟨v,v1,Xpe v2,v3⟩
theorem X3.unown {P:Program} {nt n0 n:Nat} {Q:Xz->St->Mu->Prop} {cf:Cf} {K:List Kn} {μ:Mu} {L:List (Nat×AV)} {G:List (Nat×Obj)} {y:Obj} (q:Nat) (es':List AV) (hy:hp G q=some y) (he:y.es.map Xd7=es')
  (h:X3 P nt n0 Q cf K ⟨fr L,hp ((q,{ y with es:=es' })::G),n⟩ μ):X3 P nt n0 Q cf K ⟨fr L,hp G,n⟩ μ:=by
 subst he
 have hd:∀ o x',hp ((q,{ y with es:=y.es.map Xd7 })::G) o=some x'->∃ x,hp G o=some x/\x'.esz=x.esz/\x'.solo=x.solo/\x'.spent=x.spent/\x'.es.length=x.es.length/\(x'=x\/(o=q/\x=y/\x'={ y with es:=y.es.map Xd7 })):=by
  intro o x' hx
  by_cases ho:o=q
  ·subst ho
   rw[show hp ((o,{ y with es:=y.es.map Xd7 })::G) o=some { y with es:=y.es.map Xd7 } by simp[hp,Xeo hy]] at hx
   cases hx
   exact⟨y,hy,rfl,rfl,rfl,by simp,.inr ⟨rfl,rfl,rfl⟩⟩
  ·have:hp ((q,{ y with es:=y.es.map Xd7 })::G) o=hp G o:=by
    have hb:Nat.beq o q=false:=by rw[<-Bool.not_eq_true,Nat.beq_eq];exact ho
    simp[hp,hb]
   rw[this] at hx
   exact⟨x',hx,rfl,rfl,rfl,rfl,.inl rfl⟩
 refine X3.sub (s':=⟨fr L,hp ((q,{ y with es:=y.es.map Xd7 })::G),n⟩) (fun c0 H0 c act μ g hm=>⟨?_,?_⟩) h
 ·refine⟨⟨fun o x' hx=>?_,fun o o' x1 x2 h1 h2 hne hb=>?_,fun o x' hx=>?_,g.inv.lt,g.inv.base,g.inv.own,fun o x' hx=>?_⟩,fun o x' hx=>?_,g.frame,g.ok,g.size,?_,g.le0⟩
  ·obtain⟨x,hx0,_,_,_,_,hc⟩:=hd o x' hx
   obtain⟨i1,i2,i3⟩:=g.inv.obj o x hx0
   rcases hc with rfl|⟨rfl,rfl,rfl⟩
   ·exact⟨i1,i2,i3⟩
   refine⟨i1,Xr8 i2,fun e he a ha=>?_⟩
   obtain⟨e0,he0,rfl⟩:=List.mem_map.1 he
   rw[Xgk] at ha
   obtain⟨a0,ha0,rfl⟩:=List.mem_map.1 ha
   exact Xr9 (i3 e0 he0 a0 ha0)
  ·obtain⟨y1,hy1,e1,s1,p1,l1,_⟩:=hd o x1 h1
   obtain⟨y2,hy2,e2,s2,p2,l2,_⟩:=hd o' x2 h2
   have:=g.inv.sep o o' y1 y2 hy1 hy2 hne hb
   rw[s1,p1,p2,l1,l2,e1,e2];exact this
  ·obtain⟨x,hx0,_⟩:=hd o x' hx;exact g.inv.stab o x hx0
  ·obtain⟨x,hx0,_⟩:=hd o x' hx;exact g.inv.low o x hx0
  ·obtain⟨x,hx0,_,s1,p1,_⟩:=hd o x' hx;rw[s1,p1];exact g.solo o x hx0
  ·have r:=g.reach
   exact⟨r.rho,r.os,r.tape,r.output,r.size,r.block,r.stable,r.sa,r.so1,r.so2,r.B,fun o x' hx=>by obtain⟨x,hx0,_⟩:=hd o x' hx;exact r.own o x hx0⟩
 ·exact⟨hm.is,fun p hp=>by
   obtain⟨a1,a2,a3,a4⟩:=hm.away p hp
   exact⟨a1,a2,fun o x' hx=>by obtain⟨x,hx0,_⟩:=hd o x' hx;exact a3 o x hx0,a4⟩,hm.nodup,hm.ds⟩
instance Xxd:PCs Tryz.prog 31 (∀ (a0:X06) (a1:X0a) (a2:Int) (a3:Xh) (r:X0a×Int),X4q a0 a1 a2 a3=some r->X0l Tryz.prog 31 [(Xs false a0),(Xr false a1),(aI .i64 a2),(Xe a3)] (AV.tup [(Xr true r.1),(aI .i64 r.2)])):=⟨fun a0 a1 a2 a3 r h=>by
 refine X0l.sym X6 fn31 (nt:=153) rfl rfl ?_ okM
 unfold X4q at h
 revert h
 refine bI fun v1 h2=>brI (fun h3=>fun e=>oj e▸Xa [.pure _ (aB v1),Bt] (k:=fi)) fun h3=>bI fun v4 h5=>brI (fun h6=>fun e=>oj e▸Xa [.pure _ (aB v1),Bf,.pure _ (aI .i64 v4),Bt] (k:=fi)) fun h6=>brI (fun h7=>fun e=>oj e▸Xa [.pure _ (aB v1),Bf,.pure _ (aI .i64 v4),Bf,Bt] (k:=fi)) fun h7=>bI fun v8 h9=>brI (fun h10=>fun e=>oj e▸Xa [.pure _ (aB v1),Bf,.pure _ (aI .i64 v4),Bf,Bf,.pure _ (aI .i64 v8),Bt] (k:=fi)) fun h10=>rnI [.pure _ (aB v1),Bf,.pure _ (aI .i64 v4),Bf,Bf,.pure _ (aI .i64 v8),Bf,.el (aI .i64 (a1.Pending.length:Int))] ?_
 refine brI (fun h11=>fun e=>oj e▸Xa [Bt] (k:=fi)) fun h11=>brI (fun h12=>bI fun v13 h14=>brI (fun h15=>fun e=>oj e▸Xa [Bf,Bt,.pure _ (AV.tup [(AV.list true (v13.1.map X1)),(aI .i64 v13.2)]),Bt] (k:=fi)) fun h15=>bI fun v16 h17=>fun e=>oj e▸Xa [Bf,Bt,.pure _ (AV.tup [(AV.list true (v13.1.map X1)),(aI .i64 v13.2)]),Bf,.pure _ (AV.tup [(Xr true v16.1),(aI .i64 v16.2)])] (k:=fi)) fun h12=>bI fun v18 h19=>brI (fun h20=>bI fun v21 h22=>fun e=>oj e▸Xa [Bf,Bf,.pure _ (AV.tup [(AV.list true (List.map (aI .i64) v18.1)),(aB v18.2.1),(aI .i64 v18.2.2)]),Bt,.pure _ (AV.tup [(Xr true v21.1),(aI .i64 v21.2)])] (k:=fi)) fun h20=>bI fun v23 h24=>bI fun v25 h26=>bI fun u27 h28=>?_
 have qh28:=X1c h28
 refine rnI [Bf,Bf,.pure _ (AV.tup [(AV.list true (List.map (aI .i64) v18.1)),(aB v18.2.1),(aI .i64 v18.2.2)]),Bf,.pure _ (AV.tup [(aI .i64 v23.1),(aI .i64 v23.2)]),.pure _ (AV.tup [(AV.list true (v25.1.map X1)),(AV.list true (v25.2.1.map X1)),(aI .i64 v25.2.2)]),.el (aI .i64 (v25.1.length:Int))] ?_
 intro h
 refine X3.unown 1 [AV.agg [(aI .u8 a1.Op.Kind),(aI .i64 a1.Op.N),(aI .i64 a1.Turn),(Lf (a1.Pending.map X08)),(Lf (List.map (aI .i64) v18.1)),(Lf (v25.2.1.map X1)),(Lf (a1.Events.map X0h)),(Lf (a1.Rows.map X01)),(Lf (a1.Late.map X4))]] rfl rfl ?_
 refine X3.denil 3 [AV.agg [(aI .u8 0),(aI .i64 0),(aI .i64 0),(AV.list true (List.map X08 ([]:List X13))),(AV.list true (List.map (aI .i64) ([]:List Int))),(AV.list true (List.map X1 ([]:List X2))),(AV.list true (List.map X0h ([]:List X1e))),(AV.list true (List.map X01 ([]:List X1x))),(AV.list true (List.map X4 ([]:List Xl)))]] rfl rfl ?_
 revert h
 refine bI fun o90 h91=>rnI [] ?_
 intro h
 refine wkT [(2,3)] (X3.cut (Xh7 a0 (X0a.mk a1.Op a1.Turn a1.Pending v18.1 v25.2.1 a1.Events a1.Rows a1.Late) (X0a.mk (GOp.mk 0 0) 0 ([]:List X13) ([]:List Int) ([]:List X2) ([]:List X1e) ([]:List X1x) ([]:List Xl)) v25.1 qh28 v25.1 0 (by simp) _ nbS _ h91 ?_))
 intro X2a X31 eo90;subst eo90
 refine X3.glue ?_
 try dsimp only at h
 rcases X31 with ⟨_|_,Xag⟩<;>(try obtain rfl:=Xag rfl)
 all_goals
  revert h
  exact bI fun v92 h93=>fun e=>oj e▸Xa [.pure _ (AV.tup [(Xr true v92.1),(aI .i64 v92.2)])] (k:=fi)⟩
theorem Xad {Q:Xz->St->Mu->Prop} {μ:Mu} (y1_1:(List Int)) (y1_2:(List Xh)) (Xfi:X06) (Xr0:X0a) (Xqz:X0a) (Xr1:Int) (Xgg:X0a):∀ (n:Nat) (Xhx:(List X1x)) (Xkq:Int) (Xdi:Nb Xhx) (o:X7y) (h:X43 y1_1 y1_2 Xfi Xr0 Xqz Xr1 Xgg n Xhx Xkq=some o)
  (C0:∀ (Xam:(List X1x)) (X8g:Nb Xam),o=X7y.x0 Xam->X3 Tryz.prog 67 0 Q (.exit (.exit 2)) [] ⟨fr [(1,(Lf (List.map (aI .i64) y1_1))),(2,(Lf (y1_2.map Xe))),(3,(AV.ptr 0 0 0)),(6,(AV.ptr 1 0 0)),(9,(AV.ptr 2 0 0)),(11,(slE X8g.1 3 (Xam.map X01))),(12,(aI .i64 Xr1)),(13,(AV.ptr 4 0 0))],hp ([(0,Ob [(Xs false Xfi)] 10),(1,Ob [(Xr true Xr0)] 9),(2,Ob [(Xr true Xqz)] 9),(4,Ob [(Xr true Xgg)] 9)]++opE X8g.1 3 5 (Xam.map X01)),5⟩ μ),
  X3 Tryz.prog 67 0 Q (.loop (X5p 1 (Xj Tryz.f17))) [] ⟨fr [(1,(Lf (List.map (aI .i64) y1_1))),(2,(Lf (y1_2.map Xe))),(3,(AV.ptr 0 0 0)),(6,(AV.ptr 1 0 0)),(9,(AV.ptr 2 0 0)),(11,(slE Xdi.1 3 (Xhx.map X01))),(12,(aI .i64 Xr1)),(13,(AV.ptr 4 0 0)),(15,(aI .i64 Xkq))],hp ([(0,Ob [(Xs false Xfi)] 10),(1,Ob [(Xr true Xr0)] 9),(2,Ob [(Xr true Xqz)] 9),(4,Ob [(Xr true Xgg)] 9)]++opE Xdi.1 3 5 (Xhx.map X01)),5⟩ μ:=by
 intro n
 induction n with
 |zero=>intro Xhx Xkq Xdi o h C0;cases h
 |succ n ih =>
  intro Xhx Xkq Xdi o h C0
  rw[X43] at h
  rcases Xdi with ⟨_|_,Xwe⟩
  ·
   refine X3.round ?_
   revert h
   refine brI (fun h165=>?_) fun h165=>fun e=>Xa [.el (aI .i64 (Xgg.Pending.length:Int)),Bf] (k:=wkT [] (C0 _  nbF (oj e).symm))
   refine bI fun e166 h167=>?_
   try have qh167:=Xc h167
   refine bI fun u168 h169=>rnI [.el (aI .i64 (Xgg.Pending.length:Int)),Bt,.el (X08 e166),.no,.wrap] (o:=by repeat' first|apply Ya|exact pcM|(refine Xv h169 rfl ?_;first|(simp;done)|(simp;omega)|(simp[h165];done)|(simp[h165];omega))|(refine Xf h169 (by decide) ?_;first|(simp;done)|(simp;omega)|(simp[h165];done)|(simp[h165];omega))|exact Xw) ?_
   intro h
   exact wkT [(3,6)] (ih  _ _ nbF o h C0)
  obtain rfl:=Xwe rfl
  refine X3.round ?_
  revert h
  refine brI (fun h170=>?_) fun h170=>fun e=>Xa [.el (aI .i64 (Xgg.Pending.length:Int)),Bf] (k:=wkT [] (C0 _  nbS (oj e).symm))
  refine bI fun e171 h172=>?_
  try have qh172:=Xc h172
  refine bI fun u173 h174=>rnI [.el (aI .i64 (Xgg.Pending.length:Int)),Bt,.el (X08 e171),.no,.wrap] (o:=by repeat' first|apply Ya|exact pcM|(refine Xv h174 rfl ?_;first|(simp;done)|(simp;omega)|(simp[h170];done)|(simp[h170];omega))|(refine Xf h174 (by decide) ?_;first|(simp;done)|(simp;omega)|(simp[h170];done)|(simp[h170];omega))|exact Xw) ?_
  intro h
  exact wkT [(3,6)] (ih  _ _ nbF o h C0)
theorem Xem {Q:Xz->St->Mu->Prop} {μ:Mu} (X75:(List Int)) (X2p:(List Xh)) (Xo:X06) (Xn:X0a) (hl:X2p.length<=140737488355328):∀ (xs:List Xh) (k:Nat) (hx:X2p.drop k=xs) (X2t:X0a) (X02:(List X1x)) (X0c:Nb X02) (o:X62) (h:X0s X75 X2p Xo Xn xs k X2t X02=some o)
  (C0:∀ (X0b:X0a) (X2a:(List X1x)) (X31:Nb X2a),o=X62.x0 X0b X2a->X3 Tryz.prog 67 0 Q (.exit (.exit 0)) [] ⟨fr [(6,(AV.ptr 0 0 0)),(9,(AV.ptr 1 0 0)),(11,(slE X31.1 2 (X2a.map X01)))],hp ([(0,Ob [(Xr true Xn)] 9),(1,Ob [(Xr true X0b)] 9)]++opE X31.1 2 5 (X2a.map X01)),3⟩ μ)
  (C1:∀ (X52:(List X1x)) (X5g:Nb X52),o=X62.x1 X52->X3 Tryz.prog 67 0 Q (.exit .ret) [] ⟨fr [(6,(AV.ptr 0 0 0)),(7,(slE X5g.1 1 (X52.map X01))),(8,(aB false))],hp ([(0,Ob [(Xr true (X0a.mk (GOp.mk 0 0) 0 ([]:List X13) ([]:List Int) ([]:List X2) ([]:List X1e) ([]:List X1x) ([]:List Xl)))] 9)]++opE X5g.1 1 5 (X52.map X01)),2⟩ μ),
  X3 Tryz.prog 67 0 Q (.loop (X5p 0 (Xj Tryz.f17))) [] ⟨fr [(1,(Lf (List.map (aI .i64) X75))),(2,(Lf (X2p.map Xe))),(3,(AV.ptr 0 0 0)),(6,(AV.ptr 1 0 0)),(9,(AV.ptr 2 0 0)),(11,(slE X0c.1 3 (X02.map X01))),(12,(aI .i64 (k:Int)))],hp ([(0,Ob [(Xs false Xo)] 10),(1,Ob [(Xr true Xn)] 9),(2,Ob [(Xr true X2t)] 9)]++opE X0c.1 3 5 (X02.map X01)),4⟩ μ:=by
 intro xs
 induction xs with
 |nil =>
  intro k hx X2t X02 X0c o h C0 C1
  have hk:=drop_nil hx
  have hc:decide ((k:Int)<(X2p.length:Int))=false:=Yf (by omega)
  rw[X0s] at h
  rcases X0c with ⟨_|_,X1d⟩
  ·
   refine X3.round ?_
   revert h
   exact fun e=>Xa [.el (aI .i64 (X2p.length:Int)),Bf] (k:=wkT [(0,1),(1,2),(2,3)] (C0 _ _  nbF (oj e).symm))
  ·
   obtain rfl:=X1d rfl
   refine X3.round ?_
   revert h
   exact fun e=>Xa [.el (aI .i64 (X2p.length:Int)),Bf] (k:=wkT [(0,1),(1,2)] (C0 _ _  nbS (oj e).symm))
 |cons x xs ih =>
  intro k hx X2t X02 X0c o h C0 C1
  obtain⟨hk,hg,hx1⟩:=X1a hx
  have hc:decide ((k:Int)<(X2p.length:Int))=true:=Yt (by omega)
  rw[X0s] at h
  rcases X0c with ⟨_|_,X1d⟩
  ·
   refine X3.round ?_
   revert h
   refine bI fun e139 h140=>?_
   try have qh140:=Xc h140
   refine bI fun v141 h142=>rnI [.el (aI .i64 (X2p.length:Int)),Bt,.el (aI .i64 e139),.el (Xe x),.pure _ (AV.tup [(Xr true v141.1),(aI .i64 v141.2)])] ?_
   refine brI (fun h143=>?_) fun h143=>?_
   ·
    refine fun e=>X0i [Bt] ?_
    refine X3.denil 1 [AV.agg [(aI .u8 0),(aI .i64 0),(aI .i64 0),(AV.list true (List.map X08 ([]:List X13))),(AV.list true (List.map (aI .i64) ([]:List Int))),(AV.list true (List.map X1 ([]:List X2))),(AV.list true (List.map X0h ([]:List X1e))),(AV.list true (List.map X01 ([]:List X1x))),(AV.list true (List.map X4 ([]:List Xl)))]] rfl rfl ?_
    exact wkT [(0,1)] (C1 _  nbS (oj e).symm)
   refine bI fun o175 h176=>rnI [Bf] ?_
   intro h
   refine wkT [(4,18)] (X3.cut (Xad X75 X2p Xo Xn X2t (k:Int) v141.1 _ _ _ nbF _ h176 ?_))
   intro Xam X8g eo175;subst eo175
   refine X3.glue ?_
   try dsimp only at h
   rcases X8g with ⟨_|_,Xep⟩
   ·
    refine X0i [] ?_
    refine X3.denil 2 [AV.agg [(aI .u8 v141.1.Op.Kind),(aI .i64 v141.1.Op.N),(aI .i64 v141.1.Turn),(AV.list true (List.map X08 ([]:List X13))),(AV.list true (List.map (aI .i64) v141.1.Marks)),(AV.list true (v141.1.Store.map X1)),(AV.list true (v141.1.Events.map X0h)),(AV.list true (v141.1.Rows.map X01)),(AV.list true (v141.1.Late.map X4))]] rfl rfl ?_
    refine X3.denil 4 [AV.agg [(aI .u8 v141.1.Op.Kind),(aI .i64 v141.1.Op.N),(aI .i64 v141.1.Turn),(AV.list true (List.map X08 ([]:List X13))),(AV.list true (List.map (aI .i64) v141.1.Marks)),(AV.list true (v141.1.Store.map X1)),(AV.list true (v141.1.Events.map X0h)),(AV.list true (v141.1.Rows.map X01)),(AV.list true (v141.1.Late.map X4))]] rfl rfl ?_
    exact wkT [] (ih (k+1) hx1 _ _ nbF o h C0 C1)
   obtain rfl:=Xep rfl
   refine X0i [] ?_
   refine X3.denil 2 [AV.agg [(aI .u8 v141.1.Op.Kind),(aI .i64 v141.1.Op.N),(aI .i64 v141.1.Turn),(AV.list true (List.map X08 ([]:List X13))),(AV.list true (List.map (aI .i64) v141.1.Marks)),(AV.list true (v141.1.Store.map X1)),(AV.list true (v141.1.Events.map X0h)),(AV.list true (v141.1.Rows.map X01)),(AV.list true (v141.1.Late.map X4))]] rfl rfl ?_
   refine X3.denil 4 [AV.agg [(aI .u8 v141.1.Op.Kind),(aI .i64 v141.1.Op.N),(aI .i64 v141.1.Turn),(AV.list true (List.map X08 ([]:List X13))),(AV.list true (List.map (aI .i64) v141.1.Marks)),(AV.list true (v141.1.Store.map X1)),(AV.list true (v141.1.Events.map X0h)),(AV.list true (v141.1.Rows.map X01)),(AV.list true (v141.1.Late.map X4))]] rfl rfl ?_
   exact wkT [] (ih (k+1) hx1 _ _ nbS o h C0 C1)
  obtain rfl:=X1d rfl
  refine X3.round ?_
  revert h
  refine bI fun e177 h178=>?_
  try have qh178:=Xc h178
  refine bI fun v179 h180=>rnI [.el (aI .i64 (X2p.length:Int)),Bt,.el (aI .i64 e177),.el (Xe x),.pure _ (AV.tup [(Xr true v179.1),(aI .i64 v179.2)])] ?_
  refine brI (fun h181=>?_) fun h181=>?_
  ·
   refine fun e=>X0i [Bt] ?_
   refine X3.denil 1 [AV.agg [(aI .u8 0),(aI .i64 0),(aI .i64 0),(AV.list true (List.map X08 ([]:List X13))),(AV.list true (List.map (aI .i64) ([]:List Int))),(AV.list true (List.map X1 ([]:List X2))),(AV.list true (List.map X0h ([]:List X1e))),(AV.list true (List.map X01 ([]:List X1x))),(AV.list true (List.map X4 ([]:List Xl)))]] rfl rfl ?_
   exact wkT [(0,1)] (C1 _  nbS (oj e).symm)
  refine bI fun o203 h204=>rnI [Bf] ?_
  intro h
  refine wkT [(4,18)] (X3.cut (Xad X75 X2p Xo Xn X2t (k:Int) v179.1 _ _ _ nbS _ h204 ?_))
  intro Xam X8g eo203;subst eo203
  refine X3.glue ?_
  try dsimp only at h
  rcases X8g with ⟨_|_,Xep⟩
  ·
   refine X0i [] ?_
   refine X3.denil 2 [AV.agg [(aI .u8 v179.1.Op.Kind),(aI .i64 v179.1.Op.N),(aI .i64 v179.1.Turn),(AV.list true (List.map X08 ([]:List X13))),(AV.list true (List.map (aI .i64) v179.1.Marks)),(AV.list true (v179.1.Store.map X1)),(AV.list true (v179.1.Events.map X0h)),(AV.list true (v179.1.Rows.map X01)),(AV.list true (v179.1.Late.map X4))]] rfl rfl ?_
   refine X3.denil 4 [AV.agg [(aI .u8 v179.1.Op.Kind),(aI .i64 v179.1.Op.N),(aI .i64 v179.1.Turn),(AV.list true (List.map X08 ([]:List X13))),(AV.list true (List.map (aI .i64) v179.1.Marks)),(AV.list true (v179.1.Store.map X1)),(AV.list true (v179.1.Events.map X0h)),(AV.list true (v179.1.Rows.map X01)),(AV.list true (v179.1.Late.map X4))]] rfl rfl ?_
   exact wkT [] (ih (k+1) hx1 _ _ nbF o h C0 C1)
  obtain rfl:=Xep rfl
  refine X0i [] ?_
  refine X3.denil 2 [AV.agg [(aI .u8 v179.1.Op.Kind),(aI .i64 v179.1.Op.N),(aI .i64 v179.1.Turn),(AV.list true (List.map X08 ([]:List X13))),(AV.list true (List.map (aI .i64) v179.1.Marks)),(AV.list true (v179.1.Store.map X1)),(AV.list true (v179.1.Events.map X0h)),(AV.list true (v179.1.Rows.map X01)),(AV.list true (v179.1.Late.map X4))]] rfl rfl ?_
  refine X3.denil 4 [AV.agg [(aI .u8 v179.1.Op.Kind),(aI .i64 v179.1.Op.N),(aI .i64 v179.1.Turn),(AV.list true (List.map X08 ([]:List X13))),(AV.list true (List.map (aI .i64) v179.1.Marks)),(AV.list true (v179.1.Store.map X1)),(AV.list true (v179.1.Events.map X0h)),(AV.list true (v179.1.Rows.map X01)),(AV.list true (v179.1.Late.map X4))]] rfl rfl ?_
  exact wkT [] (ih (k+1) hx1 _ _ nbS o h C0 C1)
instance Xud:PCs Tryz.prog 17 (∀ (a0:X06) (a1:(List Int)) (a2:(List Xh)) (r:X0a×(List X1x)×Bool),X4j a0 a1 a2=some r->X0l Tryz.prog 17 [(Xs false a0),(Lf (List.map (aI .i64) a1)),(Lf (a2.map Xe))] (AV.tup [(Xr true r.1),(AV.list true (r.2.1.map X01)),(aB r.2.2)])):=⟨fun a0 a1 a2 r h=>by
 refine X0l.sym X6 fn17 (nt:=67) rfl rfl ?_ okM
 unfold X4j at h
 revert h
 refine bI fun v1 h2=>brI (fun h3=>fun e=>oj e▸Xa [.pure _ (AV.tup [(Xr true v1.1),(aI .i64 v1.2)]),Bt] (k:=fi)) fun h3=>bI fun u4 h5=>?_
 have qh5:=X1c h5
 refine rnI [.pure _ (AV.tup [(Xr true v1.1),(aI .i64 v1.2)]),Bf] ?_
 intro h
 refine X3.denil 1 [AV.agg [(aI .u8 0),(aI .i64 0),(aI .i64 0),(AV.list true (List.map X08 ([]:List X13))),(AV.list true (List.map (aI .i64) ([]:List Int))),(AV.list true (List.map X1 ([]:List X2))),(AV.list true (List.map X0h ([]:List X1e))),(AV.list true (List.map X01 ([]:List X1x))),(AV.list true (List.map X4 ([]:List Xl)))]] rfl rfl ?_
 revert h
 refine bI fun o205 h206=>rnI [] ?_
 intro h
 refine wkT [] (X3.cut (Xem a1 a2 a0 (X0a.mk (GOp.mk 0 0) 0 ([]:List X13) ([]:List Int) ([]:List X2) ([]:List X1e) ([]:List X1x) ([]:List Xl)) qh5 a2 0 (by simp) _ _ nbS _ h206 ?_ ?_))
 ·
  intro X0b X2a X31 eo205;subst eo205
  refine X3.glue ?_
  try dsimp only at h
  rcases X31 with ⟨_|_,Xag⟩<;>(try obtain rfl:=Xag rfl)
  all_goals
   revert h
   exact fun e=>oj e▸Xa [] (k:=fi)
 intro X52 X5g eo205;subst eo205
 refine X3.glue ?_
 try dsimp only at h
 rcases X5g with ⟨_|_,Xeq⟩<;>(try obtain rfl:=Xeq rfl)
 all_goals
  revert h
  exact fun e=>oj e▸Xa [] (k:=fi)⟩
instance Xxb:PCs Tryz.prog 48 (∀ (a0:Int) (a1:Int) (a2:Int) (a3:Int) (r:X1x),Xh6 a0 a1 a2 a3=some r->X0l Tryz.prog 48 [(aI .i64 a0),(aI .i64 a1),(aI .i64 a2),(aI .i64 a3)] (X01 r)):=⟨fun a0 a1 a2 a3 r h=>by
 refine X0l.sym X6 fn48 (nt:=18) rfl rfl ?_ okM
 unfold Xh6 at h
 revert h
 exact fun e=>oj e▸Xa [.wrap] (k:=fi)⟩
theorem Xfw {Q:Xz->St->Mu->Prop} {μ:Mu} (X19:(List X1x)) (X75:(List X1x)) (hl:X19.length<=140737488355328):∀ (xs:List X1x) (k:Nat) (hx:X19.drop k=xs) (o:X6r) (h:X4k X19 X75 xs k  = some o)
  (C0:o=X6r.x0->X3 Tryz.prog 26 0 Q (.exit (.exit 0)) [] ⟨fr [],hp ([]),0⟩ μ)
  (C1:o=X6r.x1->X3 Tryz.prog 26 0 Q (.exit .ret) [] ⟨fr [(4,(aB false))],hp ([]),0⟩ μ),
  X3 Tryz.prog 26 0 Q (.loop (X5p 0 (Xj Tryz.f18))) [] ⟨fr [(0,(Lf (X19.map X01))),(1,(Lf (X75.map X01))),(5,(aI .i64 (k:Int)))],hp ([]),0⟩ μ:=by
 intro xs
 induction xs with
 |nil =>
  intro k hx  o h C0 C1
  have hk:=drop_nil hx
  have hc:decide ((k:Int)<(X19.length:Int))=false:=Yf (by omega)
  rw[X4k] at h
  refine X3.round ?_
  revert h
  exact fun e=>Xa [.el (aI .i64 (X19.length:Int)),Bf] (k:=wkT [] (C0  (oj e).symm))
 |cons x xs ih =>
  intro k hx  o h C0 C1
  obtain⟨hk,hg,hx1⟩:=X1a hx
  have hc:decide ((k:Int)<(X19.length:Int))=true:=Yt (by omega)
  rw[X4k] at h
  refine X3.round ?_
  revert h
  refine bI fun e11 h12=>?_
  try have qh12:=Xc h12
  refine brI (fun h13=>fun e=>Xa [.el (aI .i64 (X19.length:Int)),Bt,.el (X01 x),.el (X01 e11),Bt] (k:=wkT [] (C1  (oj e).symm))) fun h13=>rnI [.el (aI .i64 (X19.length:Int)),Bt,.el (X01 x),.el (X01 e11),Bf] ?_
  intro h
  exact wkT [] (ih (k+1) hx1  o h C0 C1)
instance Xvd:PCs Tryz.prog 18 (∀ (a0:(List X1x)) (a1:(List X1x)) (r:Bool),X8h a0 a1=some r->X0l Tryz.prog 18 [(Lf (a0.map X01)),(Lf (a1.map X01))] (aB r)):=⟨fun a0 a1 r h=>by
 refine X0l.sym X6 fn18 (nt:=26) rfl rfl ?_ okM
 unfold X8h at h
 revert h
 refine brI (fun h1=>fun e=>oj e▸Xa [.el (aI .i64 (a0.length:Int)),.el (aI .i64 (a1.length:Int)),Bt] (k:=fi)) fun h1=>bI fun u2 h3=>?_
 have qh3:=X1c h3
 refine bI fun o14 h15=>rnI [.el (aI .i64 (a0.length:Int)),.el (aI .i64 (a1.length:Int)),Bf] ?_
 intro h
 refine wkT [] (X3.cut (Xfw a0 a1 qh3 a0 0 (by simp) _ h15 ?_ ?_))
 ·
  intro eo14;subst eo14
  refine X3.glue ?_
  try dsimp only at h
  revert h
  exact fun e=>oj e▸Xa [] (k:=fi)
 intro eo14;subst eo14
 refine X3.glue ?_
 try dsimp only at h
 revert h
 exact fun e=>oj e▸Xa [] (k:=fi)⟩
instance Xuf:PCs Tryz.prog 11 (∀ (r:Bool),Xax=some r->X0l Tryz.prog 11 [] (aB r)):=⟨fun r h=>by
 refine X0l.sym X6 fn11 (nt:=29) rfl rfl ?_ okM
 unfold Xax at h
 revert h
 refine bI fun v1 h2=>bI fun v3 h4=>bI fun v5 h6=>bI fun v7 h8=>bI fun v9 h10=>bI fun Xz2 h24=>rnI [.pure _ (Xs true v1),.pure _ (Xe v3),.pure _ (Xe v5),.pure _ (Xe v7),.pure _ (Xe v7),.pure _ (AV.tup [(Xr true v9.1),(AV.list true (v9.2.1.map X01)),(aB v9.2.2)]),.stop 2] ?_
 intro h
 refine X3.join (s':=⟨fr [(0,(aB Xz2))],hp ([]),0⟩) ?_ (fun J=>X3.cut ?_)
 ·
  revert h
  exact fun e=>oj e▸Xa [] (k:=fi)
 clear h;revert h24
 refine brI (fun h18=>?_) fun h18=>?_
 ·
  refine bI fun v19 h20=>bI fun v21 h22=>brI (fun h23=>?_) fun h23=>?_
  ·
   intro h
   obtain rfl:=oj h
   exact Xa [.go true,.go true,.pure _ (X01 v19),.go true,.go true,.pure _ (aB v21),.go true,.go true,.go true,.el (aI .i64 (v9.1.Store.length:Int)),.go true] (o:=by repeat' first|apply Ya|exact pcM|exact((X9 h18 h23))|exact(Xd (X9 h18 h23))|exact(X47 (X9 h18 h23))|exact Xw) (k:=wkT [] (X3.glue J))
  intro h
  obtain rfl:=oj h
  exact Xa [.go true,.go true,.pure _ (X01 v19),.go true,.go true,.pure _ (aB v21),.go false,.go false,.go false,.go false] (o:=by repeat' first|apply Ya|exact pcM|exact((X9 h18 h23))|exact(Xd (X9 h18 h23))|exact(X88 (X9 h18 h23))|exact Xw) (k:=wkT [] (X3.glue J))
 intro h
 obtain rfl:=oj h
 exact Xa [.go false,.go false,.go false,.go false,.go false,.go false,.go false,.go false] (o:=by repeat' first|apply Ya|exact pcM|exact((Xb h18 rfl))|exact(Xd (Xb h18 rfl))|exact(X88 (Xb h18 rfl))|exact Xw) (k:=wkT [] (X3.glue J))⟩
end Go.Av.Tryz