/- Printed by decomp.py: that the program computes the functions. -/
import Derived.Test.YtkjlgmgfhgamlaaGreatDCert7Z
import Derived.Test.YtkjlgmgfhgamlaaGreatDCert8Z
set_option linter.all false

namespace Go.Av.Tryz
open Go.Proofs Go.D
set_option maxRecDepth 10000
set_option maxHeartbeats 40000000
instance Xuv:PCs Tryz.prog 65 (∀ (a0:(List X2)) (a1:Int) (r:(List X2)×(List X2)×Int),X78 a0 a1=some r->X0l Tryz.prog 65 [(Lf (a0.map X1)),(aI .i64 a1)] (AV.tup [(AV.list true (r.1.map X1)),(AV.list true (r.2.1.map X1)),(aI .i64 r.2.2)])):=⟨fun a0 a1 r h=>by
 refine X0l.sym X6 fn65 (nt:=37) rfl rfl ?_ okM
 unfold X78 at h
 revert h
 refine bI fun v1 h2=>brI (fun h3=>fun e=>oj e▸X9 [.pure _ (aI .i64 v1),Bt] (k:=fi)) fun h3=>bI fun u4 h5=>?_
 have qh5:=X0k h5
 refine bI fun o151 h152=>rnI [.pure _ (aI .i64 v1),Bf,.el (aI .i64 (a0.length:Int))] ?_
 intro h
 refine wkT [] (X3.cut (Xfs a1 a0 qh5 a0 0 (by simp) _ _ nbS nbS _ h152 ?_))
 intro X0a X09 X0r X0m eo151;subst eo151
 refine X3.glue ?_
 try dsimp only at h
 rcases X0r with ⟨_|_,X4b⟩
 ·
  rcases X0m with ⟨_|_,X2s⟩
  ·
   revert h
   exact fun e=>oj e▸X9 [] (k:=fi)
  obtain rfl:=X2s rfl
  revert h
  exact fun e=>oj e▸X9 [] (k:=fi)
 obtain rfl:=X4b rfl
 rcases X0m with ⟨_|_,X2s⟩
 ·
  revert h
  exact fun e=>oj e▸X9 [] (k:=fi)
 obtain rfl:=X2s rfl
 revert h
 exact fun e=>oj e▸X9 [] (k:=fi)⟩
instance Xts:PCs Tryz.prog 29 (∀ (a0:Int) (a1:X12) (r:Int×Int),X6f a0 a1=some r->X0l Tryz.prog 29 [(aI .u8 a0),(X0u a1)] (AV.tup [(aI .i64 r.1),(aI .i64 r.2)])):=⟨fun a0 a1 r h=>by
 refine X0l.sym X6 fn29 (nt:=34) rfl rfl ?_ okM
 unfold X6f at h
 revert h
 refine brI (fun h1=>fun e=>oj e▸X9 [Bt] (k:=fi)) fun h1=>bI fun v2 h3=>brI (fun h4=>fun e=>oj e▸X9 [Bf,.pure _ (aI .i64 v2),Bt] (k:=fi)) fun h4=>brI (fun h5=>fun e=>oj e▸X9 [Bf,.pure _ (aI .i64 v2),Bf,Bt] (k:=fi)) fun h5=>bI fun Xz9 h17=>rnI [Bf,.pure _ (aI .i64 v2),Bf,Bf,.stop 9] ?_
 intro h
 refine X3.join (s':=⟨fr [(4,(aI .i64 Xz9)),(5,(aI .i64 0))],hp ([]),0⟩) ?_ (fun J=>X3.cut ?_)
 ·
  revert h
  exact fun e=>oj e▸X9 [] (k:=fi)
 clear h;revert h17
 refine brI (fun h12=>?_) fun h12=>?_
 ·
  intro h
  obtain rfl:=oj h
  exact X9 [.ix 0] (o:=by repeat' first|apply Ya|exact pcM|exact((eq_of_beq h12))|exact Xu) (k:=wkT [] (X3.glue J))
 refine brI (fun h13=>?_) fun h13=>?_
 ·
  intro h
  obtain rfl:a0=1:=eq_of_beq h13
  obtain rfl:=oj h
  exact X9 [.ix 1] (k:=wkT [] (X3.glue J))
 refine brI (fun h14=>?_) fun h14=>?_
 ·
  intro h
  obtain rfl:a0=2:=eq_of_beq h14
  obtain rfl:=oj h
  exact X9 [.ix 2] (k:=wkT [] (X3.glue J))
 refine brI (fun h15=>?_) fun h15=>?_
 ·
  intro h
  obtain rfl:a0=3:=eq_of_beq h15
  obtain rfl:=oj h
  exact X9 [.ix 3] (k:=wkT [] (X3.glue J))
 refine brI (fun h16=>?_) fun h16=>?_
 ·
  intro h
  obtain rfl:a0=4:=eq_of_beq h16
  obtain rfl:=oj h
  exact X9 [.ix 4] (k:=wkT [] (X3.glue J))
 intro h
 cases h⟩
instance Xyi:PCs Tryz.prog 70 (∀ (a0:X06) (a1:X2) (r:X1r×Bool),Xdu a0 a1=some r->X0l Tryz.prog 70 [(Xx false a0),(X1 a1)] (AV.tup [(Xe r.1),(aB r.2)])):=⟨fun a0 a1 r h=>by
 refine X0l.sym X6 fn70 (nt:=43) rfl rfl ?_ okM
 unfold Xdu at h
 revert h
 exact bI fun v1 h2=>bI fun v3 h4=>brI (fun h5=>fun e=>oj e▸X9 [.ix 0,.pure _ (AV.tup [(aI .i64 v1.1),(aI .i64 v1.2)]),.ix 1,.pure _ (AV.tup [(aI .i64 v3.1),(aI .i64 v3.2)]),Bt] (k:=fi)) fun h5=>fun e=>oj e▸X9 [.ix 0,.pure _ (AV.tup [(aI .i64 v1.1),(aI .i64 v1.2)]),.ix 1,.pure _ (AV.tup [(aI .i64 v3.1),(aI .i64 v3.2)]),Bf] (k:=fi)⟩
theorem Xhc {Q:X00->St->Mu->Prop} {μ:Mu} (Xt:X06) (Xp:X0b) (X3k:X0b) (Xa3:(List X2)) (hl:Xa3.length<=140737488355328):∀ (xs:List X2) (k:Nat) (hx:Xa3.drop k=xs) (X02:(List X13)) (X0c:Nb X02) (o:X9y) (h:X3b Xt Xp X3k Xa3 xs k X02=some o)
  (C0:∀ (X2a:(List X13)) (X2q:Nb X2a),o=X9y.x0 X2a->X3 Tryz.prog 153 0 Q (.exit (.exit 1)) [] ⟨fr [(5,(AV.ptr 0 0 0)),(8,(AV.ptr 1 0 0)),(21,(slE X2q.1 2 (X2a.map X08)))],hp ([(0,Ob [(Xk false Xp)] 9),(1,Ob [(Xk true X3k)] 9)]++opE X2q.1 2 11 (X2a.map X08)),3⟩ μ),
  X3 Tryz.prog 153 0 Q (.loop (X5f 0 (Xi Tryz.f31))) [] ⟨fr [(4,(AV.ptr 0 0 0)),(5,(AV.ptr 1 0 0)),(8,(AV.ptr 2 0 0)),(21,(slE X0c.1 3 (X02.map X08))),(128,(AV.list true (Xa3.map X1))),(129,(aI .i64 (Xa3.length:Int))),(130,(aI .i64 (k:Int)))],hp ([(0,Ob [(Xx false Xt)] 10),(1,Ob [(Xk false Xp)] 9),(2,Ob [(Xk true X3k)] 9)]++opE X0c.1 3 11 (X02.map X08)),4⟩ μ:=by
 intro xs
 induction xs with
 |nil =>
  intro k hx X02 X0c o h C0
  have hk:=drop_nil hx
  have hc:decide ((k:Int)<(Xa3.length:Int))=false:=Yf (by omega)
  rw[X3b] at h
  rcases X0c with ⟨_|_,X1d⟩
  ·
   refine X3.round ?_
   revert h
   exact fun e=>X9 [Bf] (k:=wkT [(0,1),(1,2),(2,3)] (C0 _  nbF (oj e).symm))
  ·
   obtain rfl:=X1d rfl
   refine X3.round ?_
   revert h
   exact fun e=>X9 [Bf] (k:=wkT [(0,1),(1,2)] (C0 _  nbS (oj e).symm))
 |cons x xs ih =>
  intro k hx X02 X0c o h C0
  obtain⟨hk,hg,hx1⟩:=X15 hx
  have hc:decide ((k:Int)<(Xa3.length:Int))=true:=Yt (by omega)
  rw[X3b] at h
  rcases X0c with ⟨_|_,X1d⟩
  ·
   refine X3.round ?_
   revert h
   refine bI fun v70 h71=>bI fun Xlh h79=>rnI [Bt,.el (X1 x),.pure _ (AV.tup [(Xe v70.1),(aB v70.2)])] ?_
   intro h
   refine X3.joinF (fun(q:Nb Xlh)=>⟨fr [(4,(AV.ptr 0 0 0)),(5,(AV.ptr 1 0 0)),(8,(AV.ptr 2 0 0)),(21,(slE q.1 3 (Xlh.map X08))),(128,(AV.list true (Xa3.map X1))),(129,(aI .i64 (Xa3.length:Int))),(130,(aI .i64 (k:Int)))],hp ([(0,Ob [(Xx false Xt)] 10),(1,Ob [(Xk false Xp)] 9),(2,Ob [(Xk true X3k)] 9)]++opE q.1 3 11 (Xlh.map X08)),4⟩) ?_ (fun J=>X3.cut ?_)
   ·
    rintro Xs6
    rcases Xs6 with ⟨_|_,Xsx⟩
    ·
     exact X9 [] (k:=wkT [] (ih (k+1) hx1 _ nbF o h C0))
    obtain rfl:=Xsx rfl
    exact X9 [] (k:=wkT [] (ih (k+1) hx1 _ nbS o h C0))
   clear h;revert h79
   refine brI (fun h76=>?_) fun h76=>?_
   ·
    refine bI fun u77 h78=>?_
    intro h
    obtain rfl:=oj h
    exact X9 [Bt,.no] (o:=by repeat' first|apply Ya|exact pcM|(refine Xd h78 rfl ?_;first|(simp;done)|(simp;omega)|(simp[hc,h76];done)|(simp[hc,h76];omega))|(refine X7 h78 (by decide) ?_;first|(simp;done)|(simp;omega)|(simp[hc,h76];done)|(simp[hc,h76];omega))|exact Xu) (k:=wkT [(3,7)] (X3.glue (J nbF)))
   intro h
   obtain rfl:=oj h
   exact X9 [Bf] (k:=wkT [] (X3.glue (J nbF)))
  obtain rfl:=X1d rfl
  refine X3.round ?_
  revert h
  refine bI fun v80 h81=>bI fun Xsj h89=>rnI [Bt,.el (X1 x),.pure _ (AV.tup [(Xe v80.1),(aB v80.2)])] ?_
  intro h
  refine X3.joinF (fun(q:Nb Xsj)=>⟨fr [(4,(AV.ptr 0 0 0)),(5,(AV.ptr 1 0 0)),(8,(AV.ptr 2 0 0)),(21,(slE q.1 3 (Xsj.map X08))),(128,(AV.list true (Xa3.map X1))),(129,(aI .i64 (Xa3.length:Int))),(130,(aI .i64 (k:Int)))],hp ([(0,Ob [(Xx false Xt)] 10),(1,Ob [(Xk false Xp)] 9),(2,Ob [(Xk true X3k)] 9)]++opE q.1 3 11 (Xsj.map X08)),4⟩) ?_ (fun J=>X3.cut ?_)
  ·
   rintro Xs5
   rcases Xs5 with ⟨_|_,Xsw⟩
   ·
    exact X9 [] (k:=wkT [] (ih (k+1) hx1 _ nbF o h C0))
   obtain rfl:=Xsw rfl
   exact X9 [] (k:=wkT [] (ih (k+1) hx1 _ nbS o h C0))
  clear h;revert h89
  refine brI (fun h86=>?_) fun h86=>?_
  ·
   refine bI fun u87 h88=>?_
   intro h
   obtain rfl:=oj h
   exact X9 [Bt,.no] (o:=by repeat' first|apply Ya|exact pcM|(refine Xd h88 rfl ?_;first|(simp;done)|(simp;omega)|(simp[hc,h86];done)|(simp[hc,h86];omega))|(refine X7 h88 (by decide) ?_;first|(simp;done)|(simp;omega)|(simp[hc,h86];done)|(simp[hc,h86];omega))|exact Xu) (k:=wkT [(3,7)] (X3.glue (J nbF)))
  intro h
  obtain rfl:=oj h
  exact X9 [Bf] (k:=wkT [] (X3.glue (J nbS)))
def Xgp:AV->AV
 |.list true es=>.list false es
 |a=>a
def Xdb:AV->AV
 |.agg cs=>.agg (cs.map Xgp)
 |a=>Xgp a
theorem Xgo (e:AV):(Xdb e).cells=e.cells.map Xgp:=by
 cases e<;>try rfl
 rename_i own es;cases own<;>rfl
theorem Xpi {c:Ctx} {d:Bool} {a:AV} {v:Value} (h:X17 c d a v):X17 c d (Xgp a) v:=by
 unfold Xgp
 split
 ·cases h with
  |listNil=>exact .listNil
  |list vf hne hS hn hcap hsz hc h1 hr=>exact .list vf hne (.inr (hS.resolve_left fun h=>by cases h.1)) hn hcap hsz hc h1 hr
 exact h
theorem Xrd {M:Nat->Prop} {a:AV} (h:a.Ok M):(Xgp a).Ok M:=by
 unfold Xgp
 split
 ·exact .list
 exact h
theorem Xrc {c:Ctx} {p:Pl} {y:Obj} (h:Xm6 c p y):Xm6 c p { y with es:=y.es.map Xdb }:=by
 obtain⟨⟨cur,h1,h2,h3⟩,h4,h5,h6⟩:=h
 refine⟨⟨cur,h1,h2,fun i e he=>?_⟩,by simpa using h4,h5,h6⟩
 simp only[List.getElem?_map,Option.map_eq_some_iff] at he
 obtain⟨e0,he0,rfl⟩:=he
 obtain⟨g1,g2⟩:=h3 i e0 he0
 rw[Xgo]
 refine⟨by simpa using g1,fun k a ha=>?_⟩
 simp only[List.getElem?_map,Option.map_eq_some_iff] at ha
 obtain⟨a0,ha0,rfl⟩:=ha
 obtain⟨v,v1,v2,v3⟩:=g2 k a0 ha0
 exact⟨v,v1,Xpi v2,v3⟩
theorem X3.unown {P:Program} {nt n0 n:Nat} {Q:X00->St->Mu->Prop} {cf:Cf} {K:List Kn} {μ:Mu} {L:List (Nat×AV)} {G:List (Nat×Obj)} {y:Obj} (q:Nat) (es':List AV) (hy:hp G q=some y) (he:y.es.map Xdb=es')
  (h:X3 P nt n0 Q cf K ⟨fr L,hp ((q,{ y with es:=es' })::G),n⟩ μ):X3 P nt n0 Q cf K ⟨fr L,hp G,n⟩ μ:=by
 subst he
 have hd:∀ o x',hp ((q,{ y with es:=y.es.map Xdb })::G) o=some x'->∃ x,hp G o=some x/\x'.esz=x.esz/\x'.solo=x.solo/\x'.spent=x.spent/\x'.es.length=x.es.length/\(x'=x\/(o=q/\x=y/\x'={ y with es:=y.es.map Xdb })):=by
  intro o x' hx
  by_cases ho:o=q
  ·subst ho
   rw[show hp ((o,{ y with es:=y.es.map Xdb })::G) o=some { y with es:=y.es.map Xdb } by simp[hp,Xer hy]] at hx
   cases hx
   exact⟨y,hy,rfl,rfl,rfl,by simp,.inr ⟨rfl,rfl,rfl⟩⟩
  ·have:hp ((q,{ y with es:=y.es.map Xdb })::G) o=hp G o:=by
    have hb:Nat.beq o q=false:=by rw[<-Bool.not_eq_true,Nat.beq_eq];exact ho
    simp[hp,hb]
   rw[this] at hx
   exact⟨x',hx,rfl,rfl,rfl,rfl,.inl rfl⟩
 refine X3.sub (s':=⟨fr L,hp ((q,{ y with es:=y.es.map Xdb })::G),n⟩) (fun c0 H0 c act μ g hm=>⟨?_,?_⟩) h
 ·refine⟨⟨fun o x' hx=>?_,fun o o' x1 x2 h1 h2 hne hb=>?_,fun o x' hx=>?_,g.inv.lt,g.inv.base,g.inv.own,fun o x' hx=>?_⟩,fun o x' hx=>?_,g.frame,g.ok,g.size,?_,g.le0⟩
  ·obtain⟨x,hx0,_,_,_,_,hc⟩:=hd o x' hx
   obtain⟨i1,i2,i3⟩:=g.inv.obj o x hx0
   rcases hc with rfl|⟨rfl,rfl,rfl⟩
   ·exact⟨i1,i2,i3⟩
   refine⟨i1,Xrc i2,fun e he a ha=>?_⟩
   obtain⟨e0,he0,rfl⟩:=List.mem_map.1 he
   rw[Xgo] at ha
   obtain⟨a0,ha0,rfl⟩:=List.mem_map.1 ha
   exact Xrd (i3 e0 he0 a0 ha0)
  ·obtain⟨y1,hy1,e1,s1,p1,l1,_⟩:=hd o x1 h1
   obtain⟨y2,hy2,e2,s2,p2,l2,_⟩:=hd o' x2 h2
   have:=g.inv.sep o o' y1 y2 hy1 hy2 hne hb
   rw[s1,p1,p2,l1,l2,e1,e2];exact this
  ·obtain⟨x,hx0,_⟩:=hd o x' hx;exact g.inv.stab o x hx0
  ·obtain⟨x,hx0,_⟩:=hd o x' hx;exact g.inv.low o x hx0
  ·obtain⟨x,hx0,_,s1,p1,_⟩:=hd o x' hx;rw[s1,p1];exact g.solo o x hx0
  ·have r:=g.reach
   exact⟨r.rho,r.os,r.tape,r.output,r.size,r.block,r.stable,r.sa,r.so1,r.so2,r.B,fun o x' hx=>by obtain⟨x,hx0,_⟩:=hd o x' hx;exact r.own o x hx0⟩
 ·exact⟨hm.is,fun p hp=>by
   obtain⟨a1,a2,a3,a4⟩:=hm.away p hp
   exact⟨a1,a2,fun o x' hx=>by obtain⟨x,hx0,_⟩:=hd o x' hx;exact a3 o x hx0,a4⟩,hm.nodup,hm.ds⟩
instance Xxb:PCs Tryz.prog 31 (∀ (a0:X06) (a1:X0b) (a2:Int) (a3:Xn) (r:X0b×Int),X4q a0 a1 a2 a3=some r->X0l Tryz.prog 31 [(Xx false a0),(Xk false a1),(aI .i64 a2),(Xh a3)] (AV.tup [(Xk true r.1),(aI .i64 r.2)])):=⟨fun a0 a1 a2 a3 r h=>by
 refine X0l.sym X6 fn31 (nt:=153) rfl rfl ?_ okM
 unfold X4q at h
 revert h
 refine bI fun v1 h2=>brI (fun h3=>fun e=>oj e▸X9 [.pure _ (aB v1),Bt] (k:=fi)) fun h3=>bI fun v4 h5=>brI (fun h6=>fun e=>oj e▸X9 [.pure _ (aB v1),Bf,.pure _ (aI .i64 v4),Bt] (k:=fi)) fun h6=>brI (fun h7=>fun e=>oj e▸X9 [.pure _ (aB v1),Bf,.pure _ (aI .i64 v4),Bf,Bt] (k:=fi)) fun h7=>bI fun v8 h9=>brI (fun h10=>fun e=>oj e▸X9 [.pure _ (aB v1),Bf,.pure _ (aI .i64 v4),Bf,Bf,.pure _ (aI .i64 v8),Bt] (k:=fi)) fun h10=>rnI [.pure _ (aB v1),Bf,.pure _ (aI .i64 v4),Bf,Bf,.pure _ (aI .i64 v8),Bf,.el (aI .i64 (a1.Pending.length:Int))] ?_
 refine brI (fun h11=>fun e=>oj e▸X9 [Bt] (k:=fi)) fun h11=>brI (fun h12=>bI fun v13 h14=>brI (fun h15=>fun e=>oj e▸X9 [Bf,Bt,.pure _ (AV.tup [(AV.list true (v13.1.map X1)),(aI .i64 v13.2)]),Bt] (k:=fi)) fun h15=>bI fun v16 h17=>fun e=>oj e▸X9 [Bf,Bt,.pure _ (AV.tup [(AV.list true (v13.1.map X1)),(aI .i64 v13.2)]),Bf,.pure _ (AV.tup [(Xk true v16.1),(aI .i64 v16.2)])] (k:=fi)) fun h12=>bI fun v18 h19=>brI (fun h20=>bI fun v21 h22=>fun e=>oj e▸X9 [Bf,Bf,.pure _ (AV.tup [(AV.list true (List.map (aI .i64) v18.1)),(aB v18.2.1),(aI .i64 v18.2.2)]),Bt,.pure _ (AV.tup [(Xk true v21.1),(aI .i64 v21.2)])] (k:=fi)) fun h20=>bI fun v23 h24=>bI fun v25 h26=>bI fun u27 h28=>?_
 have qh28:=X0k h28
 refine rnI [Bf,Bf,.pure _ (AV.tup [(AV.list true (List.map (aI .i64) v18.1)),(aB v18.2.1),(aI .i64 v18.2.2)]),Bf,.pure _ (AV.tup [(aI .i64 v23.1),(aI .i64 v23.2)]),.pure _ (AV.tup [(AV.list true (v25.1.map X1)),(AV.list true (v25.2.1.map X1)),(aI .i64 v25.2.2)]),.el (aI .i64 (v25.1.length:Int))] ?_
 intro h
 refine X3.unown 1 [AV.agg [(aI .u8 a1.Op.Kind),(aI .i64 a1.Op.N),(aI .i64 a1.Turn),(Lf (a1.Pending.map X08)),(Lf (List.map (aI .i64) v18.1)),(Lf (v25.2.1.map X1)),(Lf (a1.Events.map X0i)),(Lf (a1.Rows.map Xe)),(Lf (a1.Late.map Xc))]] rfl rfl ?_
 refine X3.denil 3 [AV.agg [(aI .u8 0),(aI .i64 0),(aI .i64 0),(AV.list true (List.map X08 ([]:List X13))),(AV.list true (List.map (aI .i64) ([]:List Int))),(AV.list true (List.map X1 ([]:List X2))),(AV.list true (List.map X0i ([]:List X1e))),(AV.list true (List.map Xe ([]:List X1r))),(AV.list true (List.map Xc ([]:List Xm)))]] rfl rfl ?_
 revert h
 refine bI fun o90 h91=>rnI [] ?_
 intro h
 refine wkT [(2,3)] (X3.cut (Xhc a0 (X0b.mk a1.Op a1.Turn a1.Pending v18.1 v25.2.1 a1.Events a1.Rows a1.Late) (X0b.mk (GOp.mk 0 0) 0 ([]:List X13) ([]:List Int) ([]:List X2) ([]:List X1e) ([]:List X1r) ([]:List Xm)) v25.1 qh28 v25.1 0 (by simp) _ nbS _ h91 ?_))
 intro X2a X2q eo90;subst eo90
 refine X3.glue ?_
 try dsimp only at h
 rcases X2q with ⟨_|_,X7g⟩
 ·
  revert h
  exact bI fun v92 h93=>fun e=>oj e▸X9 [.pure _ (AV.tup [(Xk true v92.1),(aI .i64 v92.2)])] (k:=fi)
 obtain rfl:=X7g rfl
 revert h
 exact bI fun v94 h95=>fun e=>oj e▸X9 [.pure _ (AV.tup [(Xk true v94.1),(aI .i64 v94.2)])] (k:=fi)⟩
theorem Xaf {Q:X00->St->Mu->Prop} {μ:Mu} (y1_1:(List Int)) (y1_2:(List Xn)) (Xfl:X06) (Xr4:X0b) (Xr3:X0b) (Xr5:Int) (Xgk:X0b):∀ (n:Nat) (Xi1:(List X1r)) (Xa2:Int) (Xdm:Nb Xi1) (o:X7z) (h:X44 y1_1 y1_2 Xfl Xr4 Xr3 Xr5 Xgk n Xi1 Xa2=some o)
  (C0:∀ (Xao:(List X1r)) (X8g:Nb Xao),o=X7z.x0 Xao->X3 Tryz.prog 67 0 Q (.exit (.exit 2)) [] ⟨fr [(1,(Lf (List.map (aI .i64) y1_1))),(2,(Lf (y1_2.map Xh))),(3,(AV.ptr 0 0 0)),(6,(AV.ptr 1 0 0)),(9,(AV.ptr 2 0 0)),(11,(slE X8g.1 3 (Xao.map Xe))),(12,(aI .i64 Xr5)),(13,(AV.ptr 4 0 0))],hp ([(0,Ob [(Xx false Xfl)] 10),(1,Ob [(Xk true Xr4)] 9),(2,Ob [(Xk true Xr3)] 9),(4,Ob [(Xk true Xgk)] 9)]++opE X8g.1 3 5 (Xao.map Xe)),5⟩ μ),
  X3 Tryz.prog 67 0 Q (.loop (X5f 1 (Xi Tryz.f17))) [] ⟨fr [(1,(Lf (List.map (aI .i64) y1_1))),(2,(Lf (y1_2.map Xh))),(3,(AV.ptr 0 0 0)),(6,(AV.ptr 1 0 0)),(9,(AV.ptr 2 0 0)),(11,(slE Xdm.1 3 (Xi1.map Xe))),(12,(aI .i64 Xr5)),(13,(AV.ptr 4 0 0)),(15,(aI .i64 Xa2))],hp ([(0,Ob [(Xx false Xfl)] 10),(1,Ob [(Xk true Xr4)] 9),(2,Ob [(Xk true Xr3)] 9),(4,Ob [(Xk true Xgk)] 9)]++opE Xdm.1 3 5 (Xi1.map Xe)),5⟩ μ:=by
 intro n
 induction n with
 |zero=>intro Xi1 Xa2 Xdm o h C0;cases h
 |succ n ih =>
  intro Xi1 Xa2 Xdm o h C0
  rw[X44] at h
  rcases Xdm with ⟨_|_,Xwc⟩
  ·
   refine X3.round ?_
   revert h
   refine brI (fun h165=>?_) fun h165=>fun e=>X9 [.el (aI .i64 (Xgk.Pending.length:Int)),Bf] (k:=wkT [] (C0 _  nbF (oj e).symm))
   refine bI fun e166 h167=>?_
   try have qh167:=Xs h167
   refine bI fun u168 h169=>rnI [.el (aI .i64 (Xgk.Pending.length:Int)),Bt,.el (X08 e166),.no,.wrap] (o:=by repeat' first|apply Ya|exact pcM|(refine Xd h169 rfl ?_;first|(simp;done)|(simp;omega)|(simp[h165];done)|(simp[h165];omega))|(refine X7 h169 (by decide) ?_;first|(simp;done)|(simp;omega)|(simp[h165];done)|(simp[h165];omega))|exact Xu) ?_
   intro h
   exact wkT [(3,6)] (ih  _ _ nbF o h C0)
  obtain rfl:=Xwc rfl
  refine X3.round ?_
  revert h
  refine brI (fun h170=>?_) fun h170=>fun e=>X9 [.el (aI .i64 (Xgk.Pending.length:Int)),Bf] (k:=wkT [] (C0 _  nbS (oj e).symm))
  refine bI fun e171 h172=>?_
  try have qh172:=Xs h172
  refine bI fun u173 h174=>rnI [.el (aI .i64 (Xgk.Pending.length:Int)),Bt,.el (X08 e171),.no,.wrap] (o:=by repeat' first|apply Ya|exact pcM|(refine Xd h174 rfl ?_;first|(simp;done)|(simp;omega)|(simp[h170];done)|(simp[h170];omega))|(refine X7 h174 (by decide) ?_;first|(simp;done)|(simp;omega)|(simp[h170];done)|(simp[h170];omega))|exact Xu) ?_
  intro h
  exact wkT [(3,6)] (ih  _ _ nbF o h C0)
theorem Xeo {Q:X00->St->Mu->Prop} {μ:Mu} (X8i:(List Int)) (X7j:(List Xn)) (Xt:X06) (Xp:X0b) (hl:X7j.length<=140737488355328):∀ (xs:List Xn) (k:Nat) (hx:X7j.drop k=xs) (X3k:X0b) (X02:(List X1r)) (X0c:Nb X02) (o:X5z) (h:X0t X8i X7j Xt Xp xs k X3k X02=some o)
  (C0:∀ (X09:X0b) (X2a:(List X1r)) (X2q:Nb X2a),o=X5z.x0 X09 X2a->X3 Tryz.prog 67 0 Q (.exit (.exit 0)) [] ⟨fr [(6,(AV.ptr 0 0 0)),(9,(AV.ptr 1 0 0)),(11,(slE X2q.1 2 (X2a.map Xe)))],hp ([(0,Ob [(Xk true Xp)] 9),(1,Ob [(Xk true X09)] 9)]++opE X2q.1 2 5 (X2a.map Xe)),3⟩ μ)
  (C1:∀ (X51:(List X1r)) (X4r:Nb X51),o=X5z.x1 X51->X3 Tryz.prog 67 0 Q (.exit .ret) [] ⟨fr [(6,(AV.ptr 0 0 0)),(7,(slE X4r.1 1 (X51.map Xe))),(8,(aB false))],hp ([(0,Ob [(Xk true (X0b.mk (GOp.mk 0 0) 0 ([]:List X13) ([]:List Int) ([]:List X2) ([]:List X1e) ([]:List X1r) ([]:List Xm)))] 9)]++opE X4r.1 1 5 (X51.map Xe)),2⟩ μ),
  X3 Tryz.prog 67 0 Q (.loop (X5f 0 (Xi Tryz.f17))) [] ⟨fr [(1,(Lf (List.map (aI .i64) X8i))),(2,(Lf (X7j.map Xh))),(3,(AV.ptr 0 0 0)),(6,(AV.ptr 1 0 0)),(9,(AV.ptr 2 0 0)),(11,(slE X0c.1 3 (X02.map Xe))),(12,(aI .i64 (k:Int)))],hp ([(0,Ob [(Xx false Xt)] 10),(1,Ob [(Xk true Xp)] 9),(2,Ob [(Xk true X3k)] 9)]++opE X0c.1 3 5 (X02.map Xe)),4⟩ μ:=by
 intro xs
 induction xs with
 |nil =>
  intro k hx X3k X02 X0c o h C0 C1
  have hk:=drop_nil hx
  have hc:decide ((k:Int)<(X7j.length:Int))=false:=Yf (by omega)
  rw[X0t] at h
  rcases X0c with ⟨_|_,X1d⟩
  ·
   refine X3.round ?_
   revert h
   exact fun e=>X9 [.el (aI .i64 (X7j.length:Int)),Bf] (k:=wkT [(0,1),(1,2),(2,3)] (C0 _ _  nbF (oj e).symm))
  ·
   obtain rfl:=X1d rfl
   refine X3.round ?_
   revert h
   exact fun e=>X9 [.el (aI .i64 (X7j.length:Int)),Bf] (k:=wkT [(0,1),(1,2)] (C0 _ _  nbS (oj e).symm))
 |cons x xs ih =>
  intro k hx X3k X02 X0c o h C0 C1
  obtain⟨hk,hg,hx1⟩:=X15 hx
  have hc:decide ((k:Int)<(X7j.length:Int))=true:=Yt (by omega)
  rw[X0t] at h
  rcases X0c with ⟨_|_,X1d⟩
  ·
   refine X3.round ?_
   revert h
   refine bI fun e139 h140=>?_
   try have qh140:=Xs h140
   refine bI fun v141 h142=>rnI [.el (aI .i64 (X7j.length:Int)),Bt,.el (aI .i64 e139),.el (Xh x),.pure _ (AV.tup [(Xk true v141.1),(aI .i64 v141.2)])] ?_
   refine brI (fun h143=>?_) fun h143=>?_
   ·
    refine fun e=>X0g [Bt] ?_
    refine X3.denil 1 [AV.agg [(aI .u8 0),(aI .i64 0),(aI .i64 0),(AV.list true (List.map X08 ([]:List X13))),(AV.list true (List.map (aI .i64) ([]:List Int))),(AV.list true (List.map X1 ([]:List X2))),(AV.list true (List.map X0i ([]:List X1e))),(AV.list true (List.map Xe ([]:List X1r))),(AV.list true (List.map Xc ([]:List Xm)))]] rfl rfl ?_
    exact wkT [(0,1)] (C1 _  nbS (oj e).symm)
   refine bI fun o175 h176=>rnI [Bf] ?_
   intro h
   refine wkT [(4,18)] (X3.cut (Xaf X8i X7j Xt Xp X3k (k:Int) v141.1 _ _ _ nbF _ h176 ?_))
   intro Xao X8g eo175;subst eo175
   refine X3.glue ?_
   try dsimp only at h
   rcases X8g with ⟨_|_,Xes⟩
   ·
    refine X0g [] ?_
    refine X3.denil 2 [AV.agg [(aI .u8 v141.1.Op.Kind),(aI .i64 v141.1.Op.N),(aI .i64 v141.1.Turn),(AV.list true (List.map X08 ([]:List X13))),(AV.list true (List.map (aI .i64) v141.1.Marks)),(AV.list true (v141.1.Store.map X1)),(AV.list true (v141.1.Events.map X0i)),(AV.list true (v141.1.Rows.map Xe)),(AV.list true (v141.1.Late.map Xc))]] rfl rfl ?_
    refine X3.denil 4 [AV.agg [(aI .u8 v141.1.Op.Kind),(aI .i64 v141.1.Op.N),(aI .i64 v141.1.Turn),(AV.list true (List.map X08 ([]:List X13))),(AV.list true (List.map (aI .i64) v141.1.Marks)),(AV.list true (v141.1.Store.map X1)),(AV.list true (v141.1.Events.map X0i)),(AV.list true (v141.1.Rows.map Xe)),(AV.list true (v141.1.Late.map Xc))]] rfl rfl ?_
    exact wkT [] (ih (k+1) hx1 _ _ nbF o h C0 C1)
   obtain rfl:=Xes rfl
   refine X0g [] ?_
   refine X3.denil 2 [AV.agg [(aI .u8 v141.1.Op.Kind),(aI .i64 v141.1.Op.N),(aI .i64 v141.1.Turn),(AV.list true (List.map X08 ([]:List X13))),(AV.list true (List.map (aI .i64) v141.1.Marks)),(AV.list true (v141.1.Store.map X1)),(AV.list true (v141.1.Events.map X0i)),(AV.list true (v141.1.Rows.map Xe)),(AV.list true (v141.1.Late.map Xc))]] rfl rfl ?_
   refine X3.denil 4 [AV.agg [(aI .u8 v141.1.Op.Kind),(aI .i64 v141.1.Op.N),(aI .i64 v141.1.Turn),(AV.list true (List.map X08 ([]:List X13))),(AV.list true (List.map (aI .i64) v141.1.Marks)),(AV.list true (v141.1.Store.map X1)),(AV.list true (v141.1.Events.map X0i)),(AV.list true (v141.1.Rows.map Xe)),(AV.list true (v141.1.Late.map Xc))]] rfl rfl ?_
   exact wkT [] (ih (k+1) hx1 _ _ nbS o h C0 C1)
  obtain rfl:=X1d rfl
  refine X3.round ?_
  revert h
  refine bI fun e177 h178=>?_
  try have qh178:=Xs h178
  refine bI fun v179 h180=>rnI [.el (aI .i64 (X7j.length:Int)),Bt,.el (aI .i64 e177),.el (Xh x),.pure _ (AV.tup [(Xk true v179.1),(aI .i64 v179.2)])] ?_
  refine brI (fun h181=>?_) fun h181=>?_
  ·
   refine fun e=>X0g [Bt] ?_
   refine X3.denil 1 [AV.agg [(aI .u8 0),(aI .i64 0),(aI .i64 0),(AV.list true (List.map X08 ([]:List X13))),(AV.list true (List.map (aI .i64) ([]:List Int))),(AV.list true (List.map X1 ([]:List X2))),(AV.list true (List.map X0i ([]:List X1e))),(AV.list true (List.map Xe ([]:List X1r))),(AV.list true (List.map Xc ([]:List Xm)))]] rfl rfl ?_
   exact wkT [(0,1)] (C1 _  nbS (oj e).symm)
  refine bI fun o203 h204=>rnI [Bf] ?_
  intro h
  refine wkT [(4,18)] (X3.cut (Xaf X8i X7j Xt Xp X3k (k:Int) v179.1 _ _ _ nbS _ h204 ?_))
  intro Xao X8g eo203;subst eo203
  refine X3.glue ?_
  try dsimp only at h
  rcases X8g with ⟨_|_,Xes⟩
  ·
   refine X0g [] ?_
   refine X3.denil 2 [AV.agg [(aI .u8 v179.1.Op.Kind),(aI .i64 v179.1.Op.N),(aI .i64 v179.1.Turn),(AV.list true (List.map X08 ([]:List X13))),(AV.list true (List.map (aI .i64) v179.1.Marks)),(AV.list true (v179.1.Store.map X1)),(AV.list true (v179.1.Events.map X0i)),(AV.list true (v179.1.Rows.map Xe)),(AV.list true (v179.1.Late.map Xc))]] rfl rfl ?_
   refine X3.denil 4 [AV.agg [(aI .u8 v179.1.Op.Kind),(aI .i64 v179.1.Op.N),(aI .i64 v179.1.Turn),(AV.list true (List.map X08 ([]:List X13))),(AV.list true (List.map (aI .i64) v179.1.Marks)),(AV.list true (v179.1.Store.map X1)),(AV.list true (v179.1.Events.map X0i)),(AV.list true (v179.1.Rows.map Xe)),(AV.list true (v179.1.Late.map Xc))]] rfl rfl ?_
   exact wkT [] (ih (k+1) hx1 _ _ nbF o h C0 C1)
  obtain rfl:=Xes rfl
  refine X0g [] ?_
  refine X3.denil 2 [AV.agg [(aI .u8 v179.1.Op.Kind),(aI .i64 v179.1.Op.N),(aI .i64 v179.1.Turn),(AV.list true (List.map X08 ([]:List X13))),(AV.list true (List.map (aI .i64) v179.1.Marks)),(AV.list true (v179.1.Store.map X1)),(AV.list true (v179.1.Events.map X0i)),(AV.list true (v179.1.Rows.map Xe)),(AV.list true (v179.1.Late.map Xc))]] rfl rfl ?_
  refine X3.denil 4 [AV.agg [(aI .u8 v179.1.Op.Kind),(aI .i64 v179.1.Op.N),(aI .i64 v179.1.Turn),(AV.list true (List.map X08 ([]:List X13))),(AV.list true (List.map (aI .i64) v179.1.Marks)),(AV.list true (v179.1.Store.map X1)),(AV.list true (v179.1.Events.map X0i)),(AV.list true (v179.1.Rows.map Xe)),(AV.list true (v179.1.Late.map Xc))]] rfl rfl ?_
  exact wkT [] (ih (k+1) hx1 _ _ nbS o h C0 C1)
instance Xuh:PCs Tryz.prog 17 (∀ (a0:X06) (a1:(List Int)) (a2:(List Xn)) (r:X0b×(List X1r)×Bool),X4k a0 a1 a2=some r->X0l Tryz.prog 17 [(Xx false a0),(Lf (List.map (aI .i64) a1)),(Lf (a2.map Xh))] (AV.tup [(Xk true r.1),(AV.list true (r.2.1.map Xe)),(aB r.2.2)])):=⟨fun a0 a1 a2 r h=>by
 refine X0l.sym X6 fn17 (nt:=67) rfl rfl ?_ okM
 unfold X4k at h
 revert h
 refine bI fun v1 h2=>brI (fun h3=>fun e=>oj e▸X9 [.pure _ (AV.tup [(Xk true v1.1),(aI .i64 v1.2)]),Bt] (k:=fi)) fun h3=>bI fun u4 h5=>?_
 have qh5:=X0k h5
 refine rnI [.pure _ (AV.tup [(Xk true v1.1),(aI .i64 v1.2)]),Bf] ?_
 intro h
 refine X3.denil 1 [AV.agg [(aI .u8 0),(aI .i64 0),(aI .i64 0),(AV.list true (List.map X08 ([]:List X13))),(AV.list true (List.map (aI .i64) ([]:List Int))),(AV.list true (List.map X1 ([]:List X2))),(AV.list true (List.map X0i ([]:List X1e))),(AV.list true (List.map Xe ([]:List X1r))),(AV.list true (List.map Xc ([]:List Xm)))]] rfl rfl ?_
 revert h
 refine bI fun o205 h206=>rnI [] ?_
 intro h
 refine wkT [] (X3.cut (Xeo a1 a2 a0 (X0b.mk (GOp.mk 0 0) 0 ([]:List X13) ([]:List Int) ([]:List X2) ([]:List X1e) ([]:List X1r) ([]:List Xm)) qh5 a2 0 (by simp) _ _ nbS _ h206 ?_ ?_))
 ·
  intro X09 X2a X2q eo205;subst eo205
  refine X3.glue ?_
  try dsimp only at h
  rcases X2q with ⟨_|_,X7g⟩
  ·
   revert h
   exact fun e=>oj e▸X9 [] (k:=fi)
  obtain rfl:=X7g rfl
  revert h
  exact fun e=>oj e▸X9 [] (k:=fi)
 intro X51 X4r eo205;subst eo205
 refine X3.glue ?_
 try dsimp only at h
 rcases X4r with ⟨_|_,Xah⟩
 ·
  revert h
  exact fun e=>oj e▸X9 [] (k:=fi)
 obtain rfl:=Xah rfl
 revert h
 exact fun e=>oj e▸X9 [] (k:=fi)⟩
instance Xx9:PCs Tryz.prog 48 (∀ (a0:Int) (a1:Int) (a2:Int) (a3:Int) (r:X1r),Xhb a0 a1 a2 a3=some r->X0l Tryz.prog 48 [(aI .i64 a0),(aI .i64 a1),(aI .i64 a2),(aI .i64 a3)] (Xe r)):=⟨fun a0 a1 a2 a3 r h=>by
 refine X0l.sym X6 fn48 (nt:=18) rfl rfl ?_ okM
 unfold Xhb at h
 revert h
 exact fun e=>oj e▸X9 [.wrap] (k:=fi)⟩
theorem Xfz {Q:X00->St->Mu->Prop} {μ:Mu} (X16:(List X1r)) (X8i:(List X1r)) (hl:X16.length<=140737488355328):∀ (xs:List X1r) (k:Nat) (hx:X16.drop k=xs) (o:X6q) (h:X6r X16 X8i xs k  = some o)
  (C0:o=X6q.x0->X3 Tryz.prog 26 0 Q (.exit (.exit 0)) [] ⟨fr [],hp ([]),0⟩ μ)
  (C1:o=X6q.x1->X3 Tryz.prog 26 0 Q (.exit .ret) [] ⟨fr [(4,(aB false))],hp ([]),0⟩ μ),
  X3 Tryz.prog 26 0 Q (.loop (X5f 0 (Xi Tryz.f18))) [] ⟨fr [(0,(Lf (X16.map Xe))),(1,(Lf (X8i.map Xe))),(5,(aI .i64 (k:Int)))],hp ([]),0⟩ μ:=by
 intro xs
 induction xs with
 |nil =>
  intro k hx  o h C0 C1
  have hk:=drop_nil hx
  have hc:decide ((k:Int)<(X16.length:Int))=false:=Yf (by omega)
  rw[X6r] at h
  refine X3.round ?_
  revert h
  exact fun e=>X9 [.el (aI .i64 (X16.length:Int)),Bf] (k:=wkT [] (C0  (oj e).symm))
 |cons x xs ih =>
  intro k hx  o h C0 C1
  obtain⟨hk,hg,hx1⟩:=X15 hx
  have hc:decide ((k:Int)<(X16.length:Int))=true:=Yt (by omega)
  rw[X6r] at h
  refine X3.round ?_
  revert h
  refine bI fun e11 h12=>?_
  try have qh12:=Xs h12
  refine brI (fun h13=>fun e=>X9 [.el (aI .i64 (X16.length:Int)),Bt,.el (Xe x),.el (Xe e11),Bt] (k:=wkT [] (C1  (oj e).symm))) fun h13=>rnI [.el (aI .i64 (X16.length:Int)),Bt,.el (Xe x),.el (Xe e11),Bf] ?_
  intro h
  exact wkT [] (ih (k+1) hx1  o h C0 C1)
instance Xvi:PCs Tryz.prog 18 (∀ (a0:(List X1r)) (a1:(List X1r)) (r:Bool),Xeq a0 a1=some r->X0l Tryz.prog 18 [(Lf (a0.map Xe)),(Lf (a1.map Xe))] (aB r)):=⟨fun a0 a1 r h=>by
 refine X0l.sym X6 fn18 (nt:=26) rfl rfl ?_ okM
 unfold Xeq at h
 revert h
 refine brI (fun h1=>fun e=>oj e▸X9 [.el (aI .i64 (a0.length:Int)),.el (aI .i64 (a1.length:Int)),Bt] (k:=fi)) fun h1=>bI fun u2 h3=>?_
 have qh3:=X0k h3
 refine bI fun o14 h15=>rnI [.el (aI .i64 (a0.length:Int)),.el (aI .i64 (a1.length:Int)),Bf] ?_
 intro h
 refine wkT [] (X3.cut (Xfz a0 a1 qh3 a0 0 (by simp) _ h15 ?_ ?_))
 ·
  intro eo14;subst eo14
  refine X3.glue ?_
  try dsimp only at h
  revert h
  exact fun e=>oj e▸X9 [] (k:=fi)
 intro eo14;subst eo14
 refine X3.glue ?_
 try dsimp only at h
 revert h
 exact fun e=>oj e▸X9 [] (k:=fi)⟩
end Go.Av.Tryz