/- Printed by decomp.py: that the program computes the functions. -/
import Derived.Test.YtkjlgmgfhgamlaaGreatDCert7Z
import Derived.Test.YtkjlgmgfhgamlaaGreatDCert8Z
set_option linter.all false

namespace Go.Av.Tryz
open Go.Proofs Go.D
set_option maxRecDepth 10000
set_option maxHeartbeats 40000000
instance Xv9:PCs Tryz.prog 65 (∀ (a0:(List X2)) (a1:Int) (r:(List X2)×(List X2)×Int),X79 a0 a1=some r->X0g Tryz.prog 65 [(Lf (a0.map X1)),(aI .i64 a1)] (AV.tup [(AV.list true (r.1.map X1)),(AV.list true (r.2.1.map X1)),(aI .i64 r.2.2)])):=⟨fun a0 a1 r h=>by
 refine X0g.sym X6 fn65 (nt:=37) rfl rfl ?_ okM
 unfold X79 at h
 revert h
 refine bI fun v1 h2=>brI (fun h3=>fun e=>oj e▸X8 [.pure _ (aI .i64 v1),Bt] (k:=fi)) fun h3=>bI fun u4 h5=>?_
 have qh5:=X12 h5
 refine bI fun o151 h152=>rnI [.pure _ (aI .i64 v1),Bf,.el (aI .i64 (a0.length:Int))] ?_
 intro h
 refine wkT [] (X3.cut (Xg1 a1 a0 qh5 a0 0 (by simp) _ _ nbS nbS _ h152 ?_))
 intro X06 X0i X0o X19 eo151;subst eo151
 refine X3.glue ?_
 try dsimp only at h
 rcases X0o with ⟨_|_,X48⟩
 ·
  rcases X19 with ⟨_|_,X3a⟩
  ·
   revert h
   exact fun e=>oj e▸X8 [] (k:=fi)
  obtain rfl:=X3a rfl
  revert h
  exact fun e=>oj e▸X8 [] (k:=fi)
 obtain rfl:=X48 rfl
 rcases X19 with ⟨_|_,X3a⟩
 ·
  revert h
  exact fun e=>oj e▸X8 [] (k:=fi)
 obtain rfl:=X3a rfl
 revert h
 exact fun e=>oj e▸X8 [] (k:=fi)⟩
instance Xu5:PCs Tryz.prog 29 (∀ (a0:Int) (a1:X0t) (r:Int×Int),X6i a0 a1=some r->X0g Tryz.prog 29 [(aI .u8 a0),(X0p a1)] (AV.tup [(aI .i64 r.1),(aI .i64 r.2)])):=⟨fun a0 a1 r h=>by
 refine X0g.sym X6 fn29 (nt:=34) rfl rfl ?_ okM
 unfold X6i at h
 revert h
 refine brI (fun h1=>fun e=>oj e▸X8 [Bt] (k:=fi)) fun h1=>bI fun v2 h3=>brI (fun h4=>fun e=>oj e▸X8 [Bf,.pure _ (aI .i64 v2),Bt] (k:=fi)) fun h4=>brI (fun h5=>fun e=>oj e▸X8 [Bf,.pure _ (aI .i64 v2),Bf,Bt] (k:=fi)) fun h5=>bI fun Xza h17=>rnI [Bf,.pure _ (aI .i64 v2),Bf,Bf,.stop 9] ?_
 intro h
 refine X3.join (s':=⟨fr [(4,(aI .i64 Xza)),(5,(aI .i64 0))],hp ([]),0⟩) ?_ (fun J=>X3.cut ?_)
 ·
  revert h
  exact fun e=>oj e▸X8 [] (k:=fi)
 clear h;revert h17
 refine brI (fun h12=>?_) fun h12=>?_
 ·
  intro h
  obtain rfl:=oj h
  exact X8 [.ix 0] (o:=by repeat' first|apply Ya|exact pcM|exact((eq_of_beq h12))|exact X07) (k:=wkT [] (X3.glue J))
 refine brI (fun h13=>?_) fun h13=>?_
 ·
  intro h
  obtain rfl:a0=1:=eq_of_beq h13
  obtain rfl:=oj h
  exact X8 [.ix 1] (k:=wkT [] (X3.glue J))
 refine brI (fun h14=>?_) fun h14=>?_
 ·
  intro h
  obtain rfl:a0=2:=eq_of_beq h14
  obtain rfl:=oj h
  exact X8 [.ix 2] (k:=wkT [] (X3.glue J))
 refine brI (fun h15=>?_) fun h15=>?_
 ·
  intro h
  obtain rfl:a0=3:=eq_of_beq h15
  obtain rfl:=oj h
  exact X8 [.ix 3] (k:=wkT [] (X3.glue J))
 refine brI (fun h16=>?_) fun h16=>?_
 ·
  intro h
  obtain rfl:a0=4:=eq_of_beq h16
  obtain rfl:=oj h
  exact X8 [.ix 4] (k:=wkT [] (X3.glue J))
 intro h
 cases h⟩
instance Xyn:PCs Tryz.prog 70 (∀ (a0:X03) (a1:X2) (r:X28×Bool),Xcg a0 a1=some r->X0g Tryz.prog 70 [(Xu false a0),(X1 a1)] (AV.tup [(Xp r.1),(aB r.2)])):=⟨fun a0 a1 r h=>by
 refine X0g.sym X6 fn70 (nt:=43) rfl rfl ?_ okM
 unfold Xcg at h
 revert h
 exact bI fun v1 h2=>bI fun v3 h4=>brI (fun h5=>fun e=>oj e▸X8 [.ix 0,.pure _ (AV.tup [(aI .i64 v1.1),(aI .i64 v1.2)]),.ix 1,.pure _ (AV.tup [(aI .i64 v3.1),(aI .i64 v3.2)]),Bt] (k:=fi)) fun h5=>fun e=>oj e▸X8 [.ix 0,.pure _ (AV.tup [(aI .i64 v1.1),(aI .i64 v1.2)]),.ix 1,.pure _ (AV.tup [(aI .i64 v3.1),(aI .i64 v3.2)]),Bf] (k:=fi)⟩
theorem Xhn {Q:Xw->St->Mu->Prop} {μ:Mu} (Xj:X03) (Xh:X08) (X7r:X08) (Xa9:(List X2)) (hl:Xa9.length<=140737488355328):∀ (xs:List X2) (k:Nat) (hx:Xa9.drop k=xs) (X0d:(List X0v)) (X16:Nb X0d) (o:Xa5) (h:X3t Xj Xh X7r Xa9 xs k X0d=some o)
  (C0:∀ (X4b:(List X0v)) (X5c:Nb X4b),o=Xa5.x0 X4b->X3 Tryz.prog 153 0 Q (.exit (.exit 1)) [] ⟨fr [(5,(AV.ptr 0 0 0)),(8,(AV.ptr 1 0 0)),(21,(slE X5c.1 2 (X4b.map Xz)))],hp ([(0,Ob [(Xe false Xh)] 9),(1,Ob [(Xe true X7r)] 9)]++opE X5c.1 2 11 (X4b.map Xz)),3⟩ μ),
  X3 Tryz.prog 153 0 Q (.loop (X56 0 (Xb Tryz.f31))) [] ⟨fr [(4,(AV.ptr 0 0 0)),(5,(AV.ptr 1 0 0)),(8,(AV.ptr 2 0 0)),(21,(slE X16.1 3 (X0d.map Xz))),(128,(AV.list true (Xa9.map X1))),(129,(aI .i64 (Xa9.length:Int))),(130,(aI .i64 (k:Int)))],hp ([(0,Ob [(Xu false Xj)] 10),(1,Ob [(Xe false Xh)] 9),(2,Ob [(Xe true X7r)] 9)]++opE X16.1 3 11 (X0d.map Xz)),4⟩ μ:=by
 intro xs
 induction xs with
 |nil =>
  intro k hx X0d X16 o h C0
  have hk:=X1l hx
  have hc:decide ((k:Int)<(Xa9.length:Int))=false:=Yf (by omega)
  rw[X3t] at h
  rcases X16 with ⟨_|_,X4i⟩
  ·
   refine X3.round ?_
   revert h
   exact fun e=>X8 [Bf] (k:=wkT [(0,1),(1,2),(2,3)] (C0 _  nbF (oj e).symm))
  ·
   obtain rfl:=X4i rfl
   refine X3.round ?_
   revert h
   exact fun e=>X8 [Bf] (k:=wkT [(0,1),(1,2)] (C0 _  nbS (oj e).symm))
 |cons x xs ih =>
  intro k hx X0d X16 o h C0
  obtain⟨hk,hg,hx1⟩:=X10 hx
  have hc:decide ((k:Int)<(Xa9.length:Int))=true:=Yt (by omega)
  rw[X3t] at h
  rcases X16 with ⟨_|_,X4i⟩
  ·
   refine X3.round ?_
   revert h
   refine bI fun v70 h71=>bI fun Xlo h79=>rnI [Bt,.el (X1 x),.pure _ (AV.tup [(Xp v70.1),(aB v70.2)])] ?_
   intro h
   refine X3.joinF (fun(q:Nb Xlo)=>⟨fr [(4,(AV.ptr 0 0 0)),(5,(AV.ptr 1 0 0)),(8,(AV.ptr 2 0 0)),(21,(slE q.1 3 (Xlo.map Xz))),(128,(AV.list true (Xa9.map X1))),(129,(aI .i64 (Xa9.length:Int))),(130,(aI .i64 (k:Int)))],hp ([(0,Ob [(Xu false Xj)] 10),(1,Ob [(Xe false Xh)] 9),(2,Ob [(Xe true X7r)] 9)]++opE q.1 3 11 (Xlo.map Xz)),4⟩) ?_ (fun J=>X3.cut ?_)
   ·
    rintro Xsh
    rcases Xsh with ⟨_|_,Xta⟩
    ·
     exact X8 [] (k:=wkT [] (ih (k+1) hx1 _ nbF o h C0))
    obtain rfl:=Xta rfl
    exact X8 [] (k:=wkT [] (ih (k+1) hx1 _ nbS o h C0))
   clear h;revert h79
   refine brI (fun h76=>?_) fun h76=>?_
   ·
    refine bI fun u77 h78=>?_
    intro h
    obtain rfl:=oj h
    exact X8 [Bt,.no] (o:=by repeat' first|apply Ya|exact pcM|(refine X1t h78 rfl ?_;first|(simp;done)|(simp;omega)|(simp[hc,h76];done)|(simp[hc,h76];omega))|(refine X0f h78 (by decide) ?_;first|(simp;done)|(simp;omega)|(simp[hc,h76];done)|(simp[hc,h76];omega))|exact X07) (k:=wkT [(3,7)] (X3.glue (J nbF)))
   intro h
   obtain rfl:=oj h
   exact X8 [Bf] (k:=wkT [] (X3.glue (J nbF)))
  obtain rfl:=X4i rfl
  refine X3.round ?_
  revert h
  refine bI fun v80 h81=>bI fun Xst h89=>rnI [Bt,.el (X1 x),.pure _ (AV.tup [(Xp v80.1),(aB v80.2)])] ?_
  intro h
  refine X3.joinF (fun(q:Nb Xst)=>⟨fr [(4,(AV.ptr 0 0 0)),(5,(AV.ptr 1 0 0)),(8,(AV.ptr 2 0 0)),(21,(slE q.1 3 (Xst.map Xz))),(128,(AV.list true (Xa9.map X1))),(129,(aI .i64 (Xa9.length:Int))),(130,(aI .i64 (k:Int)))],hp ([(0,Ob [(Xu false Xj)] 10),(1,Ob [(Xe false Xh)] 9),(2,Ob [(Xe true X7r)] 9)]++opE q.1 3 11 (Xst.map Xz)),4⟩) ?_ (fun J=>X3.cut ?_)
  ·
   rintro Xsg
   rcases Xsg with ⟨_|_,Xt9⟩
   ·
    exact X8 [] (k:=wkT [] (ih (k+1) hx1 _ nbF o h C0))
   obtain rfl:=Xt9 rfl
   exact X8 [] (k:=wkT [] (ih (k+1) hx1 _ nbS o h C0))
  clear h;revert h89
  refine brI (fun h86=>?_) fun h86=>?_
  ·
   refine bI fun u87 h88=>?_
   intro h
   obtain rfl:=oj h
   exact X8 [Bt,.no] (o:=by repeat' first|apply Ya|exact pcM|(refine X1t h88 rfl ?_;first|(simp;done)|(simp;omega)|(simp[hc,h86];done)|(simp[hc,h86];omega))|(refine X0f h88 (by decide) ?_;first|(simp;done)|(simp;omega)|(simp[hc,h86];done)|(simp[hc,h86];omega))|exact X07) (k:=wkT [(3,7)] (X3.glue (J nbF)))
  intro h
  obtain rfl:=oj h
  exact X8 [Bf] (k:=wkT [] (X3.glue (J nbS)))
def Xh1:AV->AV
 |.list true es=>.list false es
 |a=>a
def Xdf:AV->AV
 |.agg cs=>.agg (cs.map Xh1)
 |a=>Xh1 a
theorem Xh0 (e:AV):(Xdf e).cells=e.cells.map Xh1:=by
 cases e<;>try rfl
 rename_i own es;cases own<;>rfl
theorem Xpp {c:Ctx} {d:Bool} {a:AV} {v:Value} (h:X14 c d a v):X14 c d (Xh1 a) v:=by
 unfold Xh1
 split
 ·cases h with
  |listNil=>exact .listNil
  |list vf hne hS hn hcap hsz hc h1 hr=>exact .list vf hne (.inr (hS.resolve_left fun h=>by cases h.1)) hn hcap hsz hc h1 hr
 exact h
theorem Xrk {M:Nat->Prop} {a:AV} (h:a.Ok M):(Xh1 a).Ok M:=by
 unfold Xh1
 split
 ·exact .list
 exact h
theorem Xrj {c:Ctx} {p:Pl} {y:Obj} (h:Xme c p y):Xme c p { y with es:=y.es.map Xdf }:=by
 obtain⟨⟨cur,h1,h2,h3⟩,h4,h5,h6⟩:=h
 refine⟨⟨cur,h1,h2,fun i e he=>?_⟩,by simpa using h4,h5,h6⟩
 simp only[List.getElem?_map,Option.map_eq_some_iff] at he
 obtain⟨e0,he0,rfl⟩:=he
 obtain⟨g1,g2⟩:=h3 i e0 he0
 rw[Xh0]
 refine⟨by simpa using g1,fun k a ha=>?_⟩
 simp only[List.getElem?_map,Option.map_eq_some_iff] at ha
 obtain⟨a0,ha0,rfl⟩:=ha
 obtain⟨v,v1,v2,v3⟩:=g2 k a0 ha0
 exact⟨v,v1,Xpp v2,v3⟩
theorem X3.unown {P:Program} {nt n0 n:Nat} {Q:Xw->St->Mu->Prop} {cf:Cf} {K:List Kn} {μ:Mu} {L:List (Nat×AV)} {G:List (Nat×Obj)} {y:Obj} (q:Nat) (es':List AV) (hy:hp G q=some y) (he:y.es.map Xdf=es')
  (h:X3 P nt n0 Q cf K ⟨fr L,hp ((q,{ y with es:=es' })::G),n⟩ μ):X3 P nt n0 Q cf K ⟨fr L,hp G,n⟩ μ:=by
 subst he
 have hd:∀ o x',hp ((q,{ y with es:=y.es.map Xdf })::G) o=some x'->∃ x,hp G o=some x/\x'.esz=x.esz/\x'.solo=x.solo/\x'.spent=x.spent/\x'.es.length=x.es.length/\(x'=x\/(o=q/\x=y/\x'={ y with es:=y.es.map Xdf })):=by
  intro o x' hx
  by_cases ho:o=q
  ·subst ho
   rw[show hp ((o,{ y with es:=y.es.map Xdf })::G) o=some { y with es:=y.es.map Xdf } by simp[hp,Xf1 hy]] at hx
   cases hx
   exact⟨y,hy,rfl,rfl,rfl,by simp,.inr ⟨rfl,rfl,rfl⟩⟩
  ·have:hp ((q,{ y with es:=y.es.map Xdf })::G) o=hp G o:=by
    have hb:Nat.beq o q=false:=by rw[<-Bool.not_eq_true,Nat.beq_eq];exact ho
    simp[hp,hb]
   rw[this] at hx
   exact⟨x',hx,rfl,rfl,rfl,rfl,.inl rfl⟩
 refine X3.sub (s':=⟨fr L,hp ((q,{ y with es:=y.es.map Xdf })::G),n⟩) (fun c0 H0 c act μ g hm=>⟨?_,?_⟩) h
 ·refine⟨⟨fun o x' hx=>?_,fun o o' x1 x2 h1 h2 hne hb=>?_,fun o x' hx=>?_,g.inv.lt,g.inv.base,g.inv.own,fun o x' hx=>?_⟩,fun o x' hx=>?_,g.frame,g.ok,g.size,?_,g.le0⟩
  ·obtain⟨x,hx0,_,_,_,_,hc⟩:=hd o x' hx
   obtain⟨i1,i2,i3⟩:=g.inv.obj o x hx0
   rcases hc with rfl|⟨rfl,rfl,rfl⟩
   ·exact⟨i1,i2,i3⟩
   refine⟨i1,Xrj i2,fun e he a ha=>?_⟩
   obtain⟨e0,he0,rfl⟩:=List.mem_map.1 he
   rw[Xh0] at ha
   obtain⟨a0,ha0,rfl⟩:=List.mem_map.1 ha
   exact Xrk (i3 e0 he0 a0 ha0)
  ·obtain⟨y1,hy1,e1,s1,p1,l1,_⟩:=hd o x1 h1
   obtain⟨y2,hy2,e2,s2,p2,l2,_⟩:=hd o' x2 h2
   have:=g.inv.sep o o' y1 y2 hy1 hy2 hne hb
   rw[s1,p1,p2,l1,l2,e1,e2];exact this
  ·obtain⟨x,hx0,_⟩:=hd o x' hx;exact g.inv.stab o x hx0
  ·obtain⟨x,hx0,_⟩:=hd o x' hx;exact g.inv.low o x hx0
  ·obtain⟨x,hx0,_,s1,p1,_⟩:=hd o x' hx;rw[s1,p1];exact g.solo o x hx0
  ·have r:=g.reach
   exact⟨r.rho,r.os,r.tape,r.output,r.size,r.block,r.stable,r.sa,r.so1,r.so2,r.B,fun o x' hx=>by obtain⟨x,hx0,_⟩:=hd o x' hx;exact r.own o x hx0⟩
 ·exact⟨hm.is,fun p hp=>by
   obtain⟨a1,a2,a3,a4⟩:=hm.away p hp
   exact⟨a1,a2,fun o x' hx=>by obtain⟨x,hx0,_⟩:=hd o x' hx;exact a3 o x hx0,a4⟩,hm.nodup,hm.ds⟩
instance Xxg:PCs Tryz.prog 31 (∀ (a0:X03) (a1:X08) (a2:Int) (a3:Xg) (r:X08×Int),X2n a0 a1 a2 a3=some r->X0g Tryz.prog 31 [(Xu false a0),(Xe false a1),(aI .i64 a2),(Xn a3)] (AV.tup [(Xe true r.1),(aI .i64 r.2)])):=⟨fun a0 a1 a2 a3 r h=>by
 refine X0g.sym X6 fn31 (nt:=153) rfl rfl ?_ okM
 unfold X2n at h
 revert h
 refine bI fun v1 h2=>brI (fun h3=>fun e=>oj e▸X8 [.pure _ (aB v1),Bt] (k:=fi)) fun h3=>bI fun v4 h5=>brI (fun h6=>fun e=>oj e▸X8 [.pure _ (aB v1),Bf,.pure _ (aI .i64 v4),Bt] (k:=fi)) fun h6=>brI (fun h7=>fun e=>oj e▸X8 [.pure _ (aB v1),Bf,.pure _ (aI .i64 v4),Bf,Bt] (k:=fi)) fun h7=>bI fun v8 h9=>brI (fun h10=>fun e=>oj e▸X8 [.pure _ (aB v1),Bf,.pure _ (aI .i64 v4),Bf,Bf,.pure _ (aI .i64 v8),Bt] (k:=fi)) fun h10=>rnI [.pure _ (aB v1),Bf,.pure _ (aI .i64 v4),Bf,Bf,.pure _ (aI .i64 v8),Bf,.el (aI .i64 (a1.Pending.length:Int))] ?_
 refine brI (fun h11=>fun e=>oj e▸X8 [Bt] (k:=fi)) fun h11=>brI (fun h12=>bI fun v13 h14=>brI (fun h15=>fun e=>oj e▸X8 [Bf,Bt,.pure _ (AV.tup [(AV.list true (v13.1.map X1)),(aI .i64 v13.2)]),Bt] (k:=fi)) fun h15=>bI fun v16 h17=>fun e=>oj e▸X8 [Bf,Bt,.pure _ (AV.tup [(AV.list true (v13.1.map X1)),(aI .i64 v13.2)]),Bf,.pure _ (AV.tup [(Xe true v16.1),(aI .i64 v16.2)])] (k:=fi)) fun h12=>bI fun v18 h19=>brI (fun h20=>bI fun v21 h22=>fun e=>oj e▸X8 [Bf,Bf,.pure _ (AV.tup [(AV.list true (List.map (aI .i64) v18.1)),(aB v18.2.1),(aI .i64 v18.2.2)]),Bt,.pure _ (AV.tup [(Xe true v21.1),(aI .i64 v21.2)])] (k:=fi)) fun h20=>bI fun v23 h24=>bI fun v25 h26=>bI fun u27 h28=>?_
 have qh28:=X12 h28
 refine rnI [Bf,Bf,.pure _ (AV.tup [(AV.list true (List.map (aI .i64) v18.1)),(aB v18.2.1),(aI .i64 v18.2.2)]),Bf,.pure _ (AV.tup [(aI .i64 v23.1),(aI .i64 v23.2)]),.pure _ (AV.tup [(AV.list true (v25.1.map X1)),(AV.list true (v25.2.1.map X1)),(aI .i64 v25.2.2)]),.el (aI .i64 (v25.1.length:Int))] ?_
 intro h
 refine X3.unown 1 [AV.agg [(aI .u8 a1.Op.Kind),(aI .i64 a1.Op.N),(aI .i64 a1.Turn),(Lf (a1.Pending.map Xz)),(Lf (List.map (aI .i64) v18.1)),(Lf (v25.2.1.map X1)),(Lf (a1.Events.map X05)),(Lf (a1.Rows.map Xp)),(Lf (a1.Late.map Xy))]] rfl rfl ?_
 refine X3.denil 3 [AV.agg [(aI .u8 0),(aI .i64 0),(aI .i64 0),(AV.list true (List.map Xz ([]:List X0v))),(AV.list true (List.map (aI .i64) ([]:List Int))),(AV.list true (List.map X1 ([]:List X2))),(AV.list true (List.map X05 ([]:List X1b))),(AV.list true (List.map Xp ([]:List X28))),(AV.list true (List.map Xy ([]:List Xl)))]] rfl rfl ?_
 revert h
 refine bI fun o90 h91=>rnI [] ?_
 intro h
 refine wkT [(2,3)] (X3.cut (Xhn a0 (X08.mk a1.Op a1.Turn a1.Pending v18.1 v25.2.1 a1.Events a1.Rows a1.Late) (X08.mk (GOp.mk 0 0) 0 ([]:List X0v) ([]:List Int) ([]:List X2) ([]:List X1b) ([]:List X28) ([]:List Xl)) v25.1 qh28 v25.1 0 (by simp) _ nbS _ h91 ?_))
 intro X4b X5c eo90;subst eo90
 refine X3.glue ?_
 try dsimp only at h
 rcases X5c with ⟨_|_,Xf3⟩
 ·
  revert h
  exact bI fun v92 h93=>fun e=>oj e▸X8 [.pure _ (AV.tup [(Xe true v92.1),(aI .i64 v92.2)])] (k:=fi)
 obtain rfl:=Xf3 rfl
 revert h
 exact bI fun v94 h95=>fun e=>oj e▸X8 [.pure _ (AV.tup [(Xe true v94.1),(aI .i64 v94.2)])] (k:=fi)⟩
theorem Xaj {Q:Xw->St->Mu->Prop} {μ:Mu} (y1_1:(List Int)) (y1_2:(List Xg)) (Xfu:X03) (Xra:X08) (Xr9:X08) (Xrb:Int) (Xgv:X08):∀ (n:Nat) (Xic:(List X28)) (Xky:Int) (Xdr:Nb Xic) (o:X86) (h:X7p y1_1 y1_2 Xfu Xra Xr9 Xrb Xgv n Xic Xky=some o)
  (C0:∀ (Xar:(List X28)) (X8o:Nb Xar),o=X86.x0 Xar->X3 Tryz.prog 67 0 Q (.exit (.exit 2)) [] ⟨fr [(1,(Lf (List.map (aI .i64) y1_1))),(2,(Lf (y1_2.map Xn))),(3,(AV.ptr 0 0 0)),(6,(AV.ptr 1 0 0)),(9,(AV.ptr 2 0 0)),(11,(slE X8o.1 3 (Xar.map Xp))),(12,(aI .i64 Xrb)),(13,(AV.ptr 4 0 0))],hp ([(0,Ob [(Xu false Xfu)] 10),(1,Ob [(Xe true Xra)] 9),(2,Ob [(Xe true Xr9)] 9),(4,Ob [(Xe true Xgv)] 9)]++opE X8o.1 3 5 (Xar.map Xp)),5⟩ μ),
  X3 Tryz.prog 67 0 Q (.loop (X56 1 (Xb Tryz.f17))) [] ⟨fr [(1,(Lf (List.map (aI .i64) y1_1))),(2,(Lf (y1_2.map Xn))),(3,(AV.ptr 0 0 0)),(6,(AV.ptr 1 0 0)),(9,(AV.ptr 2 0 0)),(11,(slE Xdr.1 3 (Xic.map Xp))),(12,(aI .i64 Xrb)),(13,(AV.ptr 4 0 0)),(15,(aI .i64 Xky))],hp ([(0,Ob [(Xu false Xfu)] 10),(1,Ob [(Xe true Xra)] 9),(2,Ob [(Xe true Xr9)] 9),(4,Ob [(Xe true Xgv)] 9)]++opE Xdr.1 3 5 (Xic.map Xp)),5⟩ μ:=by
 intro n
 induction n with
 |zero=>intro Xic Xky Xdr o h C0;cases h
 |succ n ih =>
  intro Xic Xky Xdr o h C0
  rw[X7p] at h
  rcases Xdr with ⟨_|_,Xwg⟩
  ·
   refine X3.round ?_
   revert h
   refine brI (fun h165=>?_) fun h165=>fun e=>X8 [.el (aI .i64 (Xgv.Pending.length:Int)),Bf] (k:=wkT [] (C0 _  nbF (oj e).symm))
   refine bI fun e166 h167=>?_
   try have qh167:=Xq h167
   refine bI fun u168 h169=>rnI [.el (aI .i64 (Xgv.Pending.length:Int)),Bt,.el (Xz e166),.no,.wrap] (o:=by repeat' first|apply Ya|exact pcM|(refine X1t h169 rfl ?_;first|(simp;done)|(simp;omega)|(simp[h165];done)|(simp[h165];omega))|(refine X0f h169 (by decide) ?_;first|(simp;done)|(simp;omega)|(simp[h165];done)|(simp[h165];omega))|exact X07) ?_
   intro h
   exact wkT [(3,6)] (ih  _ _ nbF o h C0)
  obtain rfl:=Xwg rfl
  refine X3.round ?_
  revert h
  refine brI (fun h170=>?_) fun h170=>fun e=>X8 [.el (aI .i64 (Xgv.Pending.length:Int)),Bf] (k:=wkT [] (C0 _  nbS (oj e).symm))
  refine bI fun e171 h172=>?_
  try have qh172:=Xq h172
  refine bI fun u173 h174=>rnI [.el (aI .i64 (Xgv.Pending.length:Int)),Bt,.el (Xz e171),.no,.wrap] (o:=by repeat' first|apply Ya|exact pcM|(refine X1t h174 rfl ?_;first|(simp;done)|(simp;omega)|(simp[h170];done)|(simp[h170];omega))|(refine X0f h174 (by decide) ?_;first|(simp;done)|(simp;omega)|(simp[h170];done)|(simp[h170];omega))|exact X07) ?_
  intro h
  exact wkT [(3,6)] (ih  _ _ nbF o h C0)
theorem Xeu {Q:Xw->St->Mu->Prop} {μ:Mu} (X8s:(List Int)) (Xbm:(List Xg)) (Xj:X03) (Xh:X08) (hl:Xbm.length<=140737488355328):∀ (xs:List Xg) (k:Nat) (hx:Xbm.drop k=xs) (X7r:X08) (X0d:(List X28)) (X16:Nb X0d) (o:X5z) (h:X5s X8s Xbm Xj Xh xs k X7r X0d=some o)
  (C0:∀ (X0i:X08) (X4b:(List X28)) (X5c:Nb X4b),o=X5z.x0 X0i X4b->X3 Tryz.prog 67 0 Q (.exit (.exit 0)) [] ⟨fr [(6,(AV.ptr 0 0 0)),(9,(AV.ptr 1 0 0)),(11,(slE X5c.1 2 (X4b.map Xp)))],hp ([(0,Ob [(Xe true Xh)] 9),(1,Ob [(Xe true X0i)] 9)]++opE X5c.1 2 5 (X4b.map Xp)),3⟩ μ)
  (C1:∀ (X50:(List X28)) (X4q:Nb X50),o=X5z.x1 X50->X3 Tryz.prog 67 0 Q (.exit .ret) [] ⟨fr [(6,(AV.ptr 0 0 0)),(7,(slE X4q.1 1 (X50.map Xp))),(8,(aB false))],hp ([(0,Ob [(Xe true (X08.mk (GOp.mk 0 0) 0 ([]:List X0v) ([]:List Int) ([]:List X2) ([]:List X1b) ([]:List X28) ([]:List Xl)))] 9)]++opE X4q.1 1 5 (X50.map Xp)),2⟩ μ),
  X3 Tryz.prog 67 0 Q (.loop (X56 0 (Xb Tryz.f17))) [] ⟨fr [(1,(Lf (List.map (aI .i64) X8s))),(2,(Lf (Xbm.map Xn))),(3,(AV.ptr 0 0 0)),(6,(AV.ptr 1 0 0)),(9,(AV.ptr 2 0 0)),(11,(slE X16.1 3 (X0d.map Xp))),(12,(aI .i64 (k:Int)))],hp ([(0,Ob [(Xu false Xj)] 10),(1,Ob [(Xe true Xh)] 9),(2,Ob [(Xe true X7r)] 9)]++opE X16.1 3 5 (X0d.map Xp)),4⟩ μ:=by
 intro xs
 induction xs with
 |nil =>
  intro k hx X7r X0d X16 o h C0 C1
  have hk:=X1l hx
  have hc:decide ((k:Int)<(Xbm.length:Int))=false:=Yf (by omega)
  rw[X5s] at h
  rcases X16 with ⟨_|_,X4i⟩
  ·
   refine X3.round ?_
   revert h
   exact fun e=>X8 [.el (aI .i64 (Xbm.length:Int)),Bf] (k:=wkT [(0,1),(1,2),(2,3)] (C0 _ _  nbF (oj e).symm))
  ·
   obtain rfl:=X4i rfl
   refine X3.round ?_
   revert h
   exact fun e=>X8 [.el (aI .i64 (Xbm.length:Int)),Bf] (k:=wkT [(0,1),(1,2)] (C0 _ _  nbS (oj e).symm))
 |cons x xs ih =>
  intro k hx X7r X0d X16 o h C0 C1
  obtain⟨hk,hg,hx1⟩:=X10 hx
  have hc:decide ((k:Int)<(Xbm.length:Int))=true:=Yt (by omega)
  rw[X5s] at h
  rcases X16 with ⟨_|_,X4i⟩
  ·
   refine X3.round ?_
   revert h
   refine bI fun e139 h140=>?_
   try have qh140:=Xq h140
   refine bI fun v141 h142=>rnI [.el (aI .i64 (Xbm.length:Int)),Bt,.el (aI .i64 e139),.el (Xn x),.pure _ (AV.tup [(Xe true v141.1),(aI .i64 v141.2)])] ?_
   refine brI (fun h143=>?_) fun h143=>?_
   ·
    refine fun e=>X0c [Bt] ?_
    refine X3.denil 1 [AV.agg [(aI .u8 0),(aI .i64 0),(aI .i64 0),(AV.list true (List.map Xz ([]:List X0v))),(AV.list true (List.map (aI .i64) ([]:List Int))),(AV.list true (List.map X1 ([]:List X2))),(AV.list true (List.map X05 ([]:List X1b))),(AV.list true (List.map Xp ([]:List X28))),(AV.list true (List.map Xy ([]:List Xl)))]] rfl rfl ?_
    exact wkT [(0,1)] (C1 _  nbS (oj e).symm)
   refine bI fun o175 h176=>rnI [Bf] ?_
   intro h
   refine wkT [(4,18)] (X3.cut (Xaj X8s Xbm Xj Xh X7r (k:Int) v141.1 _ _ _ nbF _ h176 ?_))
   intro Xar X8o eo175;subst eo175
   refine X3.glue ?_
   try dsimp only at h
   rcases X8o with ⟨_|_,Xf2⟩
   ·
    refine X0c [] ?_
    refine X3.denil 2 [AV.agg [(aI .u8 v141.1.Op.Kind),(aI .i64 v141.1.Op.N),(aI .i64 v141.1.Turn),(AV.list true (List.map Xz ([]:List X0v))),(AV.list true (List.map (aI .i64) v141.1.Marks)),(AV.list true (v141.1.Store.map X1)),(AV.list true (v141.1.Events.map X05)),(AV.list true (v141.1.Rows.map Xp)),(AV.list true (v141.1.Late.map Xy))]] rfl rfl ?_
    refine X3.denil 4 [AV.agg [(aI .u8 v141.1.Op.Kind),(aI .i64 v141.1.Op.N),(aI .i64 v141.1.Turn),(AV.list true (List.map Xz ([]:List X0v))),(AV.list true (List.map (aI .i64) v141.1.Marks)),(AV.list true (v141.1.Store.map X1)),(AV.list true (v141.1.Events.map X05)),(AV.list true (v141.1.Rows.map Xp)),(AV.list true (v141.1.Late.map Xy))]] rfl rfl ?_
    exact wkT [] (ih (k+1) hx1 _ _ nbF o h C0 C1)
   obtain rfl:=Xf2 rfl
   refine X0c [] ?_
   refine X3.denil 2 [AV.agg [(aI .u8 v141.1.Op.Kind),(aI .i64 v141.1.Op.N),(aI .i64 v141.1.Turn),(AV.list true (List.map Xz ([]:List X0v))),(AV.list true (List.map (aI .i64) v141.1.Marks)),(AV.list true (v141.1.Store.map X1)),(AV.list true (v141.1.Events.map X05)),(AV.list true (v141.1.Rows.map Xp)),(AV.list true (v141.1.Late.map Xy))]] rfl rfl ?_
   refine X3.denil 4 [AV.agg [(aI .u8 v141.1.Op.Kind),(aI .i64 v141.1.Op.N),(aI .i64 v141.1.Turn),(AV.list true (List.map Xz ([]:List X0v))),(AV.list true (List.map (aI .i64) v141.1.Marks)),(AV.list true (v141.1.Store.map X1)),(AV.list true (v141.1.Events.map X05)),(AV.list true (v141.1.Rows.map Xp)),(AV.list true (v141.1.Late.map Xy))]] rfl rfl ?_
   exact wkT [] (ih (k+1) hx1 _ _ nbS o h C0 C1)
  obtain rfl:=X4i rfl
  refine X3.round ?_
  revert h
  refine bI fun e177 h178=>?_
  try have qh178:=Xq h178
  refine bI fun v179 h180=>rnI [.el (aI .i64 (Xbm.length:Int)),Bt,.el (aI .i64 e177),.el (Xn x),.pure _ (AV.tup [(Xe true v179.1),(aI .i64 v179.2)])] ?_
  refine brI (fun h181=>?_) fun h181=>?_
  ·
   refine fun e=>X0c [Bt] ?_
   refine X3.denil 1 [AV.agg [(aI .u8 0),(aI .i64 0),(aI .i64 0),(AV.list true (List.map Xz ([]:List X0v))),(AV.list true (List.map (aI .i64) ([]:List Int))),(AV.list true (List.map X1 ([]:List X2))),(AV.list true (List.map X05 ([]:List X1b))),(AV.list true (List.map Xp ([]:List X28))),(AV.list true (List.map Xy ([]:List Xl)))]] rfl rfl ?_
   exact wkT [(0,1)] (C1 _  nbS (oj e).symm)
  refine bI fun o203 h204=>rnI [Bf] ?_
  intro h
  refine wkT [(4,18)] (X3.cut (Xaj X8s Xbm Xj Xh X7r (k:Int) v179.1 _ _ _ nbS _ h204 ?_))
  intro Xar X8o eo203;subst eo203
  refine X3.glue ?_
  try dsimp only at h
  rcases X8o with ⟨_|_,Xf2⟩
  ·
   refine X0c [] ?_
   refine X3.denil 2 [AV.agg [(aI .u8 v179.1.Op.Kind),(aI .i64 v179.1.Op.N),(aI .i64 v179.1.Turn),(AV.list true (List.map Xz ([]:List X0v))),(AV.list true (List.map (aI .i64) v179.1.Marks)),(AV.list true (v179.1.Store.map X1)),(AV.list true (v179.1.Events.map X05)),(AV.list true (v179.1.Rows.map Xp)),(AV.list true (v179.1.Late.map Xy))]] rfl rfl ?_
   refine X3.denil 4 [AV.agg [(aI .u8 v179.1.Op.Kind),(aI .i64 v179.1.Op.N),(aI .i64 v179.1.Turn),(AV.list true (List.map Xz ([]:List X0v))),(AV.list true (List.map (aI .i64) v179.1.Marks)),(AV.list true (v179.1.Store.map X1)),(AV.list true (v179.1.Events.map X05)),(AV.list true (v179.1.Rows.map Xp)),(AV.list true (v179.1.Late.map Xy))]] rfl rfl ?_
   exact wkT [] (ih (k+1) hx1 _ _ nbF o h C0 C1)
  obtain rfl:=Xf2 rfl
  refine X0c [] ?_
  refine X3.denil 2 [AV.agg [(aI .u8 v179.1.Op.Kind),(aI .i64 v179.1.Op.N),(aI .i64 v179.1.Turn),(AV.list true (List.map Xz ([]:List X0v))),(AV.list true (List.map (aI .i64) v179.1.Marks)),(AV.list true (v179.1.Store.map X1)),(AV.list true (v179.1.Events.map X05)),(AV.list true (v179.1.Rows.map Xp)),(AV.list true (v179.1.Late.map Xy))]] rfl rfl ?_
  refine X3.denil 4 [AV.agg [(aI .u8 v179.1.Op.Kind),(aI .i64 v179.1.Op.N),(aI .i64 v179.1.Turn),(AV.list true (List.map Xz ([]:List X0v))),(AV.list true (List.map (aI .i64) v179.1.Marks)),(AV.list true (v179.1.Store.map X1)),(AV.list true (v179.1.Events.map X05)),(AV.list true (v179.1.Rows.map Xp)),(AV.list true (v179.1.Late.map Xy))]] rfl rfl ?_
  exact wkT [] (ih (k+1) hx1 _ _ nbS o h C0 C1)
instance Xuu:PCs Tryz.prog 17 (∀ (a0:X03) (a1:(List Int)) (a2:(List Xg)) (r:X08×(List X28)×Bool),Xd6 a0 a1 a2=some r->X0g Tryz.prog 17 [(Xu false a0),(Lf (List.map (aI .i64) a1)),(Lf (a2.map Xn))] (AV.tup [(Xe true r.1),(AV.list true (r.2.1.map Xp)),(aB r.2.2)])):=⟨fun a0 a1 a2 r h=>by
 refine X0g.sym X6 fn17 (nt:=67) rfl rfl ?_ okM
 unfold Xd6 at h
 revert h
 refine bI fun v1 h2=>brI (fun h3=>fun e=>oj e▸X8 [.pure _ (AV.tup [(Xe true v1.1),(aI .i64 v1.2)]),Bt] (k:=fi)) fun h3=>bI fun u4 h5=>?_
 have qh5:=X12 h5
 refine rnI [.pure _ (AV.tup [(Xe true v1.1),(aI .i64 v1.2)]),Bf] ?_
 intro h
 refine X3.denil 1 [AV.agg [(aI .u8 0),(aI .i64 0),(aI .i64 0),(AV.list true (List.map Xz ([]:List X0v))),(AV.list true (List.map (aI .i64) ([]:List Int))),(AV.list true (List.map X1 ([]:List X2))),(AV.list true (List.map X05 ([]:List X1b))),(AV.list true (List.map Xp ([]:List X28))),(AV.list true (List.map Xy ([]:List Xl)))]] rfl rfl ?_
 revert h
 refine bI fun o205 h206=>rnI [] ?_
 intro h
 refine wkT [] (X3.cut (Xeu a1 a2 a0 (X08.mk (GOp.mk 0 0) 0 ([]:List X0v) ([]:List Int) ([]:List X2) ([]:List X1b) ([]:List X28) ([]:List Xl)) qh5 a2 0 (by simp) _ _ nbS _ h206 ?_ ?_))
 ·
  intro X0i X4b X5c eo205;subst eo205
  refine X3.glue ?_
  try dsimp only at h
  rcases X5c with ⟨_|_,Xf3⟩
  ·
   revert h
   exact fun e=>oj e▸X8 [] (k:=fi)
  obtain rfl:=Xf3 rfl
  revert h
  exact fun e=>oj e▸X8 [] (k:=fi)
 intro X50 X4q eo205;subst eo205
 refine X3.glue ?_
 try dsimp only at h
 rcases X4q with ⟨_|_,Xak⟩
 ·
  revert h
  exact fun e=>oj e▸X8 [] (k:=fi)
 obtain rfl:=Xak rfl
 revert h
 exact fun e=>oj e▸X8 [] (k:=fi)⟩
instance Xxe:PCs Tryz.prog 48 (∀ (a0:Int) (a1:Int) (a2:Int) (a3:Int) (r:X28),Xhk a0 a1 a2 a3=some r->X0g Tryz.prog 48 [(aI .i64 a0),(aI .i64 a1),(aI .i64 a2),(aI .i64 a3)] (Xp r)):=⟨fun a0 a1 a2 a3 r h=>by
 refine X0g.sym X6 fn48 (nt:=18) rfl rfl ?_ okM
 unfold Xhk at h
 revert h
 exact fun e=>oj e▸X8 [.wrap] (k:=fi)⟩
theorem Xg9 {Q:Xw->St->Mu->Prop} {μ:Mu} (X0u:(List X28)) (X8s:(List X28)) (hl:X0u.length<=140737488355328):∀ (xs:List X28) (k:Nat) (hx:X0u.drop k=xs) (o:X6s) (h:X6t X0u X8s xs k  = some o)
  (C0:o=X6s.x0->X3 Tryz.prog 26 0 Q (.exit (.exit 0)) [] ⟨fr [],hp ([]),0⟩ μ)
  (C1:o=X6s.x1->X3 Tryz.prog 26 0 Q (.exit .ret) [] ⟨fr [(4,(aB false))],hp ([]),0⟩ μ),
  X3 Tryz.prog 26 0 Q (.loop (X56 0 (Xb Tryz.f18))) [] ⟨fr [(0,(Lf (X0u.map Xp))),(1,(Lf (X8s.map Xp))),(5,(aI .i64 (k:Int)))],hp ([]),0⟩ μ:=by
 intro xs
 induction xs with
 |nil =>
  intro k hx  o h C0 C1
  have hk:=X1l hx
  have hc:decide ((k:Int)<(X0u.length:Int))=false:=Yf (by omega)
  rw[X6t] at h
  refine X3.round ?_
  revert h
  exact fun e=>X8 [.el (aI .i64 (X0u.length:Int)),Bf] (k:=wkT [] (C0  (oj e).symm))
 |cons x xs ih =>
  intro k hx  o h C0 C1
  obtain⟨hk,hg,hx1⟩:=X10 hx
  have hc:decide ((k:Int)<(X0u.length:Int))=true:=Yt (by omega)
  rw[X6t] at h
  refine X3.round ?_
  revert h
  refine bI fun e11 h12=>?_
  try have qh12:=Xq h12
  refine brI (fun h13=>fun e=>X8 [.el (aI .i64 (X0u.length:Int)),Bt,.el (Xp x),.el (Xp e11),Bt] (k:=wkT [] (C1  (oj e).symm))) fun h13=>rnI [.el (aI .i64 (X0u.length:Int)),Bt,.el (Xp x),.el (Xp e11),Bf] ?_
  intro h
  exact wkT [] (ih (k+1) hx1  o h C0 C1)
instance Xvw:PCs Tryz.prog 18 (∀ (a0:(List X28)) (a1:(List X28)) (r:Bool),Xew a0 a1=some r->X0g Tryz.prog 18 [(Lf (a0.map Xp)),(Lf (a1.map Xp))] (aB r)):=⟨fun a0 a1 r h=>by
 refine X0g.sym X6 fn18 (nt:=26) rfl rfl ?_ okM
 unfold Xew at h
 revert h
 refine brI (fun h1=>fun e=>oj e▸X8 [.el (aI .i64 (a0.length:Int)),.el (aI .i64 (a1.length:Int)),Bt] (k:=fi)) fun h1=>bI fun u2 h3=>?_
 have qh3:=X12 h3
 refine bI fun o14 h15=>rnI [.el (aI .i64 (a0.length:Int)),.el (aI .i64 (a1.length:Int)),Bf] ?_
 intro h
 refine wkT [] (X3.cut (Xg9 a0 a1 qh3 a0 0 (by simp) _ h15 ?_ ?_))
 ·
  intro eo14;subst eo14
  refine X3.glue ?_
  try dsimp only at h
  revert h
  exact fun e=>oj e▸X8 [] (k:=fi)
 intro eo14;subst eo14
 refine X3.glue ?_
 try dsimp only at h
 revert h
 exact fun e=>oj e▸X8 [] (k:=fi)⟩
end Go.Av.Tryz