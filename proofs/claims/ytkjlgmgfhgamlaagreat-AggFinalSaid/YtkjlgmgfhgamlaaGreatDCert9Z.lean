/- Printed by decomp.py: that the program computes the functions. -/
import Derived.Test.YtkjlgmgfhgamlaaGreatDCert7Z
import Derived.Test.YtkjlgmgfhgamlaaGreatDCert8Z
set_option linter.all false

namespace Go.Av.Tryz
open Go.Proofs Go.D
set_option maxRecDepth 10000
set_option maxHeartbeats 40000000
instance Xwz:PCs Tryz.prog 65 (∀ (a0:(List X4)) (a1:Int) (r:(List X4)×(List X4)×Int),X8s a0 a1=some r->X0h Tryz.prog 65 [(Lf (a0.map X3)),(aI .i64 a1)] (AV.tup [(AV.list true (r.1.map X3)),(AV.list true (r.2.1.map X3)),(aI .i64 r.2.2)])):=⟨fun a0 a1 r h=>by
 refine X0h.sym X8 fn65 (nt:=37) rfl rfl ?_ okM
 unfold X8s at h
 revert h
 refine bI fun v1 h2=>brI (fun h3=>fun e=>oj e▸Xb [.pure _ (aI .i64 v1),Bt] (k:=fi)) fun h3=>bI fun u4 h5=>?_
 have qh5:=X16 h5
 refine bI fun o151 h152=>rnI [.pure _ (aI .i64 v1),Bf,.el (aI .i64 (a0.length:Int))] ?_
 intro h
 refine wkT [] (X5.cut (Xgu a1 a0 qh5 a0 0 (by simp) _ _ nbS nbS _ h152 ?_))
 intro X08 X0n X0t X19 eo151;subst eo151
 refine X5.glue ?_
 try dsimp only at h
 rcases X0t with ⟨_|_,X4d⟩
 ·
  rcases X19 with ⟨_|_,X39⟩
  ·
   revert h
   exact fun e=>oj e▸Xb [] (k:=fi)
  obtain rfl:=X39 rfl
  revert h
  exact fun e=>oj e▸Xb [] (k:=fi)
 obtain rfl:=X4d rfl
 rcases X19 with ⟨_|_,X39⟩
 ·
  revert h
  exact fun e=>oj e▸Xb [] (k:=fi)
 obtain rfl:=X39 rfl
 revert h
 exact fun e=>oj e▸Xb [] (k:=fi)⟩
instance Xvj:PCs Tryz.prog 29 (∀ (a0:Int) (a1:X0q) (r:Int×Int),X6r a0 a1=some r->X0h Tryz.prog 29 [(aI .u8 a0),(X0l a1)] (AV.tup [(aI .i64 r.1),(aI .i64 r.2)])):=⟨fun a0 a1 r h=>by
 refine X0h.sym X8 fn29 (nt:=34) rfl rfl ?_ okM
 unfold X6r at h
 revert h
 refine brI (fun h1=>fun e=>oj e▸Xb [Bt] (k:=fi)) fun h1=>bI fun v2 h3=>brI (fun h4=>fun e=>oj e▸Xb [Bf,.pure _ (aI .i64 v2),Bt] (k:=fi)) fun h4=>brI (fun h5=>fun e=>oj e▸Xb [Bf,.pure _ (aI .i64 v2),Bf,Bt] (k:=fi)) fun h5=>bI fun X01p h17=>rnI [Bf,.pure _ (aI .i64 v2),Bf,Bf,.stop 9] ?_
 intro h
 refine X5.join (s':=⟨fr [(4,(aI .i64 X01p)),(5,(aI .i64 0))],hp ([]),0⟩) ?_ (fun J=>X5.cut ?_)
 ·
  revert h
  exact fun e=>oj e▸Xb [] (k:=fi)
 clear h;revert h17
 refine brI (fun h12=>?_) fun h12=>?_
 ·
  intro h
  obtain rfl:=oj h
  exact Xb [.ix 0] (o:=by repeat' first|apply Ya|exact pcM|exact((eq_of_beq h12))|exact Xr) (k:=wkT [] (X5.glue J))
 refine brI (fun h13=>?_) fun h13=>?_
 ·
  intro h
  obtain rfl:a0=1:=eq_of_beq h13
  obtain rfl:=oj h
  exact Xb [.ix 1] (k:=wkT [] (X5.glue J))
 refine brI (fun h14=>?_) fun h14=>?_
 ·
  intro h
  obtain rfl:a0=2:=eq_of_beq h14
  obtain rfl:=oj h
  exact Xb [.ix 2] (k:=wkT [] (X5.glue J))
 refine brI (fun h15=>?_) fun h15=>?_
 ·
  intro h
  obtain rfl:a0=3:=eq_of_beq h15
  obtain rfl:=oj h
  exact Xb [.ix 3] (k:=wkT [] (X5.glue J))
 refine brI (fun h16=>?_) fun h16=>?_
 ·
  intro h
  obtain rfl:a0=4:=eq_of_beq h16
  obtain rfl:=oj h
  exact Xb [.ix 4] (k:=wkT [] (X5.glue J))
 intro h
 cases h⟩
theorem Xg5 {Q:Xx->St->Mu->Prop}  {rb rD:Nat} {rr:Loop} (rh1:rr.state=.ready) (rh2:rr.pending=none) (rh3:rr.params=(rfB 0 (Xd Tryz.f28)).1) (rh4:rr.assign=(rfB 0 (Xd Tryz.f28)).2.1) (rh5:rr.body=(rfB 0 (Xd Tryz.f28)).2.2) (Xl:Xo) (X0k:Xo) (Xqz:X0b) (Xhp:(List X4)) (hl:Xhp.length<=140737488355328):∀ (xs:List X4) (k:Nat) (hx:Xhp.drop k=xs) (Xho:(List X0g)) (Xd4:Nb Xho) (o:X8g) (h:X2v Xl X0k Xqz Xhp xs k Xho=some o)
  (C0:∀ (Xc5:(List X0g)) (Xd2:Nb Xc5),o=X8g.x0 Xc5->X5 Tryz.prog 34 8 Q (.exit (.exit 0)) [] ⟨fr [],hp ([(1,Ob [(Xc false Xl)] 9),(3,Ob [(Xc true X0k)] 9),(4,Ob [(slE Xd2.1 8 (Xc5.map Xs))] 1),(5,Ob [(AV.fn 66 [(AV.ptr 4 0 0)])] 1),(6,Ob [(X05 false Xqz)] 10),(7,Ob [(AV.list true (Xhp.map X3))] 1)]++opE Xd2.1 8 11 (Xc5.map Xs)),9⟩ [(rb,MuE.loop rr 141 8 (fr [(5,(AV.ptr 1 0 0)),(8,(AV.ptr 3 0 0)),(21,(AV.ptr 4 0 0)),(22,(AV.ptr 5 0 0)),(131,(AV.fn 105 [(AV.ptr 7 0 0),(AV.ptr 6 0 0)]))])),(rD,MuE.blk (Go.Obj.deferred (some [])))]),
  X5 Tryz.prog 34 8 Q (.loop (X4c 0 (Xd Tryz.f105))) [] ⟨fr [(0,(AV.sc (.func (.yield rb) #[] #[]))),(2,(AV.ptr 6 0 0)),(8,(AV.list true (Xhp.map X3))),(9,(aI .i64 (Xhp.length:Int))),(10,(aI .i64 (k:Int)))],hp ([(1,Ob [(Xc false Xl)] 9),(3,Ob [(Xc true X0k)] 9),(4,Ob [(slE Xd4.1 8 (Xho.map Xs))] 1),(5,Ob [(AV.fn 66 [(AV.ptr 4 0 0)])] 1),(6,Ob [(X05 false Xqz)] 10),(7,Ob [(AV.list true (Xhp.map X3))] 1)]++opE Xd4.1 8 11 (Xho.map Xs)),9⟩ [(rb,MuE.loop rr 141 8 (fr [(5,(AV.ptr 1 0 0)),(8,(AV.ptr 3 0 0)),(21,(AV.ptr 4 0 0)),(22,(AV.ptr 5 0 0)),(131,(AV.fn 105 [(AV.ptr 7 0 0),(AV.ptr 6 0 0)]))])),(rD,MuE.blk (Go.Obj.deferred (some [])))]:=by
 intro xs
 induction xs with
 |nil =>
  intro k hx Xho Xd4 o h C0
  have hk:=X1u hx
  have hc:decide ((k:Int)<(Xhp.length:Int))=false:=Yf (by omega)
  rw[X2v] at h
  rcases Xd4 with ⟨_|_,Xlq⟩
  ·
   refine X5.round ?_
   revert h
   exact fun e=>Xb [Bf] (k:=wkT [] (C0 _  nbF (oj e).symm))
  ·
   obtain rfl:=Xlq rfl
   refine X5.round ?_
   revert h
   exact fun e=>Xb [Bf] (k:=wkT [] (C0 _  nbS (oj e).symm))
 |cons x xs ih =>
  intro k hx Xho Xd4 o h C0
  obtain⟨hk,hg,hx1⟩:=X13 hx
  have hc:decide ((k:Int)<(Xhp.length:Int))=true:=Yt (by omega)
  rw[X2v] at h
  rcases Xd4 with ⟨_|_,Xlq⟩
  ·
   refine X5.round ?_
   revert h
   refine bI fun v76 h77=>rnI [Bt,.el (X3 x),.ix 0,.pure _ (AV.tup [(aI .i64 v76.1),(aI .i64 v76.2)])] ?_
   intro h
   refine X5.yield rfl rfl rfl rfl rfl trivial trivial (.head _) rh1 rh2 rh3 rh4 rh5 rfl rfl ?_
   refine X09 [] ?_
   refine X5.asg ?_
   refine X09 [] ?_
   refine X5.inline X8 fn66 rfl rfl rfl rfl rfl trivial trivial rfl rfl ?_
   revert h
   refine bI fun u84 h85=>rnI [.no] (o:=by repeat' first|apply Ya|exact pcM|(refine X1m h85 rfl ?_;first|(simp;done)|(simp;omega)|(simp[hc];done)|(simp[hc];omega))|(refine X0i h85 (by decide) ?_;first|(simp;done)|(simp;omega)|(simp[hc];done)|(simp[hc];omega))|exact Xr) ?_
   intro h
   refine X5.back (by intro id h;cases h) rfl ?_
   refine X09 [] (o:=by repeat' first|apply Ya|exact pcM|(refine X1m h85 rfl ?_;first|(simp;done)|(simp;omega)|(simp[hc];done)|(simp[hc];omega))|(refine X0i h85 (by decide) ?_;first|(simp;done)|(simp;omega)|(simp[hc];done)|(simp[hc];omega))|exact Xr) ?_
   refine X5.rndEnd ?_
   exact Xb [Bf] (o:=by repeat' first|apply Ya|exact pcM|(refine X1m h85 rfl ?_;first|(simp;done)|(simp;omega)|(simp[hc];done)|(simp[hc];omega))|(refine X0i h85 (by decide) ?_;first|(simp;done)|(simp;omega)|(simp[hc];done)|(simp[hc];omega))|exact Xr) (k:=wkT [(8,13)] (ih (k+1) hx1 _ nbF o h C0))
  obtain rfl:=Xlq rfl
  refine X5.round ?_
  revert h
  refine bI fun v86 h87=>rnI [Bt,.el (X3 x),.ix 0,.pure _ (AV.tup [(aI .i64 v86.1),(aI .i64 v86.2)])] ?_
  intro h
  refine X5.yield rfl rfl rfl rfl rfl trivial trivial (.head _) rh1 rh2 rh3 rh4 rh5 rfl rfl ?_
  refine X09 [] ?_
  refine X5.asg ?_
  refine X09 [] ?_
  refine X5.inline X8 fn66 rfl rfl rfl rfl rfl trivial trivial rfl rfl ?_
  revert h
  refine bI fun u94 h95=>rnI [.no] (o:=by repeat' first|apply Ya|exact pcM|(refine X1m h95 rfl ?_;first|(simp;done)|(simp;omega)|(simp[hc];done)|(simp[hc];omega))|(refine X0i h95 (by decide) ?_;first|(simp;done)|(simp;omega)|(simp[hc];done)|(simp[hc];omega))|exact Xr) ?_
  intro h
  refine X5.back (by intro id h;cases h) rfl ?_
  refine X09 [] (o:=by repeat' first|apply Ya|exact pcM|(refine X1m h95 rfl ?_;first|(simp;done)|(simp;omega)|(simp[hc];done)|(simp[hc];omega))|(refine X0i h95 (by decide) ?_;first|(simp;done)|(simp;omega)|(simp[hc];done)|(simp[hc];omega))|exact Xr) ?_
  refine X5.rndEnd ?_
  exact Xb [Bf] (o:=by repeat' first|apply Ya|exact pcM|(refine X1m h95 rfl ?_;first|(simp;done)|(simp;omega)|(simp[hc];done)|(simp[hc];omega))|(refine X0i h95 (by decide) ?_;first|(simp;done)|(simp;omega)|(simp[hc];done)|(simp[hc];omega))|exact Xr) (k:=wkT [(8,13)] (ih (k+1) hx1 _ nbF o h C0))
def Xi0:AV->AV
 |.list true es=>.list false es
 |a=>a
def Xe9:AV->AV
 |.agg cs=>.agg (cs.map Xi0)
 |a=>Xi0 a
theorem Xhz (e:AV):(Xe9 e).cells=e.cells.map Xi0:=by
 cases e<;>try rfl
 rename_i own es;cases own<;>rfl
theorem Xr0 {c:Ctx} {d:Bool} {a:AV} {v:Value} (h:X14 c d a v):X14 c d (Xi0 a) v:=by
 unfold Xi0
 split
 ·cases h with
  |listNil=>exact .listNil
  |list vf hne hS hn hcap hsz hc h1 hr=>exact .list vf hne (.inr (hS.resolve_left fun h=>by cases h.1)) hn hcap hsz hc h1 hr
 exact h
theorem Xsz {M:Nat->Prop} {a:AV} (h:a.Ok M):(Xi0 a).Ok M:=by
 unfold Xi0
 split
 ·exact .list
 exact h
theorem Xsy {c:Ctx} {p:Pl} {y:Obj} (h:Xnl c p y):Xnl c p { y with es:=y.es.map Xe9 }:=by
 obtain⟨⟨cur,h1,h2,h3⟩,h4,h5,h6⟩:=h
 refine⟨⟨cur,h1,h2,fun i e he=>?_⟩,by simpa using h4,h5,h6⟩
 simp only[List.getElem?_map,Option.map_eq_some_iff] at he
 obtain⟨e0,he0,rfl⟩:=he
 obtain⟨g1,g2⟩:=h3 i e0 he0
 rw[Xhz]
 refine⟨by simpa using g1,fun k a ha=>?_⟩
 simp only[List.getElem?_map,Option.map_eq_some_iff] at ha
 obtain⟨a0,ha0,rfl⟩:=ha
 obtain⟨v,v1,v2,v3⟩:=g2 k a0 ha0
 exact⟨v,v1,Xr0 v2,v3⟩
theorem X5.unown {P:Program} {nt n0 n:Nat} {Q:Xx->St->Mu->Prop} {cf:Cf} {K:List Kn} {μ:Mu} {L:List (Nat×AV)} {G:List (Nat×Obj)} {y:Obj} (q:Nat) (es':List AV) (hy:hp G q=some y) (he:y.es.map Xe9=es')
  (h:X5 P nt n0 Q cf K ⟨fr L,hp ((q,{ y with es:=es' })::G),n⟩ μ):X5 P nt n0 Q cf K ⟨fr L,hp G,n⟩ μ:=by
 subst he
 have hd:∀ o x',hp ((q,{ y with es:=y.es.map Xe9 })::G) o=some x'->∃ x,hp G o=some x/\x'.esz=x.esz/\x'.solo=x.solo/\x'.spent=x.spent/\x'.es.length=x.es.length/\(x'=x\/(o=q/\x=y/\x'={ y with es:=y.es.map Xe9 })):=by
  intro o x' hx
  by_cases ho:o=q
  ·subst ho
   rw[show hp ((o,{ y with es:=y.es.map Xe9 })::G) o=some { y with es:=y.es.map Xe9 } by simp[hp,Xft hy]] at hx
   cases hx
   exact⟨y,hy,rfl,rfl,rfl,by simp,.inr ⟨rfl,rfl,rfl⟩⟩
  ·have:hp ((q,{ y with es:=y.es.map Xe9 })::G) o=hp G o:=by
    have hb:Nat.beq o q=false:=by rw[<-Bool.not_eq_true,Nat.beq_eq];exact ho
    simp[hp,hb]
   rw[this] at hx
   exact⟨x',hx,rfl,rfl,rfl,rfl,.inl rfl⟩
 refine X5.sub (s':=⟨fr L,hp ((q,{ y with es:=y.es.map Xe9 })::G),n⟩) (fun c0 H0 c act μ g hm=>⟨?_,?_⟩) h
 ·refine⟨⟨fun o x' hx=>?_,fun o o' x1 x2 h1 h2 hne hb=>?_,fun o x' hx=>?_,g.inv.lt,g.inv.base,g.inv.own,fun o x' hx=>?_⟩,fun o x' hx=>?_,g.frame,g.ok,g.size,?_,g.le0⟩
  ·obtain⟨x,hx0,_,_,_,_,hc⟩:=hd o x' hx
   obtain⟨i1,i2,i3⟩:=g.inv.obj o x hx0
   rcases hc with rfl|⟨rfl,rfl,rfl⟩
   ·exact⟨i1,i2,i3⟩
   refine⟨i1,Xsy i2,fun e he a ha=>?_⟩
   obtain⟨e0,he0,rfl⟩:=List.mem_map.1 he
   rw[Xhz] at ha
   obtain⟨a0,ha0,rfl⟩:=List.mem_map.1 ha
   exact Xsz (i3 e0 he0 a0 ha0)
  ·obtain⟨y1,hy1,e1,s1,p1,l1,_⟩:=hd o x1 h1
   obtain⟨y2,hy2,e2,s2,p2,l2,_⟩:=hd o' x2 h2
   have:=g.inv.sep o o' y1 y2 hy1 hy2 hne hb
   rw[s1,p1,p2,l1,l2,e1,e2];exact this
  ·obtain⟨x,hx0,_⟩:=hd o x' hx;exact g.inv.stab o x hx0
  ·obtain⟨x,hx0,_⟩:=hd o x' hx;exact g.inv.low o x hx0
  ·obtain⟨x,hx0,_,s1,p1,_⟩:=hd o x' hx;rw[s1,p1];exact g.solo o x hx0
  ·have r:=g.reach
   exact⟨r.rho,r.os,r.tape,r.output,r.size,r.block,r.stable,r.sa,r.so1,r.so2,r.B,fun o x' hx=>by obtain⟨x,hx0,_⟩:=hd o x' hx;exact r.own o x hx0⟩
 ·exact⟨hm.is,fun p hp=>by
   obtain⟨a1,a2,a3,a4⟩:=hm.away p hp
   exact⟨a1,a2,fun o x' hx=>by obtain⟨x,hx0,_⟩:=hd o x' hx;exact a3 o x hx0,a4⟩,hm.nodup,hm.ds⟩
instance X02l:PCs Tryz.prog 28 (∀ (a0:X0b) (a1:Xo) (a2:Int) (a3:Xj) (r:Xo×Int),Xae a0 a1 a2 a3=some r->X0h Tryz.prog 28 [(X05 false a0),(Xc false a1),(aI .i64 a2),(X00 a3)] (AV.tup [(Xc true r.1),(aI .i64 r.2)])):=⟨fun a0 a1 a2 a3 r h=>by
 refine X0h.sym X8 fn28 (nt:=141) rfl rfl ?_ okM
 unfold Xae at h
 revert h
 refine bI fun v1 h2=>brI (fun h3=>fun e=>oj e▸Xb [.pure _ (aB v1),Bt] (k:=fi)) fun h3=>bI fun v4 h5=>brI (fun h6=>fun e=>oj e▸Xb [.pure _ (aB v1),Bf,.pure _ (aI .i64 v4),Bt] (k:=fi)) fun h6=>bI fun X00v h12=>rnI [.pure _ (aB v1),Bf,.pure _ (aI .i64 v4),Bf,.stop 6] ?_
 intro h
 refine X5.join (s':=⟨fr [(2,(aI .i64 a2)),(4,(AV.ptr 0 0 0)),(5,(AV.ptr 1 0 0)),(7,(AV.ptr 2 0 0)),(8,(AV.ptr 3 0 0)),(34,(aB X00v))],hp ([(0,Ob [(X05 false a0)] 10),(1,Ob [(Xc false a1)] 9),(2,Ob [(X00 a3)] 10),(3,Ob [(Xc true (Xo.mk (GOp.mk 0 0) 0 ([]:List X0g) ([]:List Int) ([]:List X4) ([]:List X0c) ([]:List X1g) ([]:List Xe)))] 9)]),4⟩) ?_ (fun J=>X5.cut ?_)
 ·
  revert h
  refine brI (fun h13=>fun e=>oj e▸Xb [Bt] (k:=fi)) fun h13=>bI fun v14 h15=>brI (fun h16=>fun e=>oj e▸Xb [Bf,.pure _ (aI .i64 v14),Bt] (k:=fi)) fun h16=>brI (fun h17=>fun e=>oj e▸Xb [Bf,.pure _ (aI .i64 v14),Bf,.el (aI .i64 (a1.Pending.length:Int)),Bt] (k:=fi)) fun h17=>?_
  refine brI (fun h18=>?_) fun h18=>?_
  ·
   refine bI fun v19 h20=>rnI [Bf,.pure _ (aI .i64 v14),Bf,.el (aI .i64 (a1.Pending.length:Int)),Bf,Bt,.pure _ (AV.tup [(AV.list true (v19.1.map X3)),(aI .i64 v19.2)])] ?_
   exact brI (fun h21=>fun e=>oj e▸Xb [Bt] (k:=fi)) fun h21=>bI fun v22 h23=>fun e=>oj e▸Xb [Bf,.pure _ (AV.tup [(Xc true v22.1),(aI .i64 v22.2)])] (k:=fi)
  refine bI fun v24 h25=>rnI [Bf,.pure _ (aI .i64 v14),Bf,.el (aI .i64 (a1.Pending.length:Int)),Bf,Bf,.pure _ (AV.tup [(AV.list true (List.map (aI .i64) v24.1)),(aB v24.2.1),(aI .i64 v24.2.2)])] ?_
  refine brI (fun h26=>bI fun v27 h28=>fun e=>oj e▸Xb [Bt,.pure _ (AV.tup [(Xc true v27.1),(aI .i64 v27.2)])] (k:=fi)) fun h26=>bI fun v29 h30=>bI fun v31 h32=>rnI [Bf,.pure _ (AV.tup [(aI .i64 v29.1),(aI .i64 v29.2)]),.pure _ (AV.tup [(AV.list true (v31.1.map X3)),(AV.list true (v31.2.1.map X3)),(aI .i64 v31.2.2)])] ?_
  intro h
  refine X5.inline X8 fn67 rfl rfl rfl rfl rfl trivial trivial rfl rfl ?_
  refine X09 [] ?_
  refine X5.back (by intro id h;cases h) rfl ?_
  refine X09 [] ?_
  refine X5.unown 1 [AV.agg [(aI .u8 a1.Op.Kind),(aI .i64 a1.Op.N),(aI .i64 a1.Turn),(Lf (a1.Pending.map Xs)),(Lf (List.map (aI .i64) v24.1)),(Lf (v31.2.1.map X3)),(Lf (a1.Events.map X01)),(Lf (a1.Rows.map Xw)),(Lf (a1.Late.map Xt))]] rfl rfl ?_
  refine X5.keepL [5,8,21,22,131] ?_
  refine X5.rangeFunc rfl trivial X06u rfl rfl rfl ?_
  intro rb rD rr rh1 rh2 rh3 rh4 rh5
  revert h
  refine bI fun u33 h34=>?_
  have qh34:=X16 h34
  refine bI fun o96 h97=>rnI [.el (aI .i64 (v31.1.length:Int))] ?_
  intro h
  refine wkT [] (X5.cut (Xg5 rh1 rh2 rh3 rh4 rh5 (Xo.mk a1.Op a1.Turn a1.Pending v24.1 v31.2.1 a1.Events a1.Rows a1.Late) (Xo.mk ((Xo.mk (GOp.mk 0 0) 0 ([]:List X0g) ([]:List Int) ([]:List X4) ([]:List X0c) ([]:List X1g) ([]:List Xe)).Op) ((Xo.mk (GOp.mk 0 0) 0 ([]:List X0g) ([]:List Int) ([]:List X4) ([]:List X0c) ([]:List X1g) ([]:List Xe)).Turn) ((Xo.mk (GOp.mk 0 0) 0 ([]:List X0g) ([]:List Int) ([]:List X4) ([]:List X0c) ([]:List X1g) ([]:List Xe)).Pending) ((Xo.mk (GOp.mk 0 0) 0 ([]:List X0g) ([]:List Int) ([]:List X4) ([]:List X0c) ([]:List X1g) ([]:List Xe)).Marks) ((Xo.mk (GOp.mk 0 0) 0 ([]:List X0g) ([]:List Int) ([]:List X4) ([]:List X0c) ([]:List X1g) ([]:List Xe)).Store) ((Xo.mk (GOp.mk 0 0) 0 ([]:List X0g) ([]:List Int) ([]:List X4) ([]:List X0c) ([]:List X1g) ([]:List Xe)).Events) ((Xo.mk (GOp.mk 0 0) 0 ([]:List X0g) ([]:List Int) ([]:List X4) ([]:List X0c) ([]:List X1g) ([]:List Xe)).Rows) ((Xo.mk (GOp.mk 0 0) 0 ([]:List X0g) ([]:List Int) ([]:List X4) ([]:List X0c) ([]:List X1g) ([]:List Xe)).Late)) a0 v31.1 qh34 v31.1 0 (by simp) _ nbS _ h97 ?_))
  intro Xc5 Xd2 eo96;subst eo96
  refine X5.glue ?_
  try dsimp only at h
  rcases Xd2 with ⟨_|_,Xrs⟩
  ·
   refine X09 [] ?_
   refine X5.rfEnd (by intro id h;cases h) ?_
   revert h
   exact bI fun v98 h99=>fun e=>oj e▸Xb [.pure _ (AV.tup [(Xc true v98.1),(aI .i64 v98.2)])] (k:=fi)
  obtain rfl:=Xrs rfl
  refine X09 [] ?_
  refine X5.rfEnd (by intro id h;cases h) ?_
  revert h
  exact bI fun v100 h101=>fun e=>oj e▸Xb [.pure _ (AV.tup [(Xc true v100.1),(aI .i64 v100.2)])] (k:=fi)
 clear h;revert h12
 refine brI (fun h10=>?_) fun h10=>?_
 ·
  intro h
  obtain rfl:=oj h
  refine X09 [.go false,.go false,.go false,.go false,.go false,.go false,.go false] (o:=by repeat' first|apply Ya|exact pcM|exact((X0 h10 rfl))|exact(X6 (X0 h10 rfl))|exact(X24 (X0 h10 rfl))|exact Xr) ?_
  refine X5.denil 3 [AV.agg [(aI .u8 0),(aI .i64 0),(aI .i64 0),(AV.list true (List.map Xs ([]:List X0g))),(AV.list true (List.map (aI .i64) ([]:List Int))),(AV.list true (List.map X3 ([]:List X4))),(AV.list true (List.map X01 ([]:List X0c))),(AV.list true (List.map Xw ([]:List X1g))),(AV.list true (List.map Xt ([]:List Xe)))]] rfl rfl ?_
  exact wkT [] (X5.glue J)
 refine brI (fun h11=>?_) fun h11=>?_
 ·
  intro h
  obtain rfl:=oj h
  refine X09 [.go true,.go true,.go false,.go false,.go false,.go false,.go false] (o:=by repeat' first|apply Ya|exact pcM|exact((X1 h10 h11))|exact(X6 (X1 h10 h11))|exact(X24 (X1 h10 h11))|exact Xr) ?_
  refine X5.denil 3 [AV.agg [(aI .u8 0),(aI .i64 0),(aI .i64 0),(AV.list true (List.map Xs ([]:List X0g))),(AV.list true (List.map (aI .i64) ([]:List Int))),(AV.list true (List.map X3 ([]:List X4))),(AV.list true (List.map X01 ([]:List X0c))),(AV.list true (List.map Xw ([]:List X1g))),(AV.list true (List.map Xt ([]:List Xe)))]] rfl rfl ?_
  exact wkT [] (X5.glue J)
 intro h
 obtain rfl:=oj h
 refine X09 [.go true,.go true,.go true,.go true,.go true,.go true,.el (aI .i64 (a1.Marks.length:Int)),.go true] (o:=by repeat' first|apply Ya|exact pcM|exact((X1 h10 h11))|exact(X6 (X1 h10 h11))|exact(X1q (X1 h10 h11))|exact Xr) ?_
 refine X5.denil 3 [AV.agg [(aI .u8 0),(aI .i64 0),(aI .i64 0),(AV.list true (List.map Xs ([]:List X0g))),(AV.list true (List.map (aI .i64) ([]:List Int))),(AV.list true (List.map X3 ([]:List X4))),(AV.list true (List.map X01 ([]:List X0c))),(AV.list true (List.map Xw ([]:List X1g))),(AV.list true (List.map Xt ([]:List Xe)))]] rfl rfl ?_
 exact wkT [] (X5.glue J)⟩
theorem Xb6 {Q:Xx->St->Mu->Prop} {μ:Mu} (y1_2:(List Int)) (y1_3:(List Xj)) (X6b:X0b) (Xdj:Xo) (Xgn:Xo) (Xss:Int) (Xhn:Xo):∀ (n:Nat) (X9y:(List X1g)) (Xm9:Int) (Xej:Nb X9y) (o:X8e) (h:X80 y1_2 y1_3 X6b Xdj Xgn Xss Xhn n X9y Xm9=some o)
  (C0:∀ (Xbe:(List X1g)) (X8y:Nb Xbe),o=X8e.x0 Xbe->X5 Tryz.prog 70 0 Q (.exit (.exit 2)) [] ⟨fr [(2,(Lf (List.map (aI .i64) y1_2))),(3,(Lf (y1_3.map X00))),(4,(AV.ptr 0 0 0)),(8,(AV.ptr 1 0 0)),(11,(AV.ptr 2 0 0)),(13,(slE X8y.1 3 (Xbe.map Xw))),(14,(aI .i64 Xss)),(15,(AV.ptr 4 0 0))],hp ([(0,Ob [(X05 false X6b)] 10),(1,Ob [(Xc true Xdj)] 9),(2,Ob [(Xc true Xgn)] 9),(4,Ob [(Xc true Xhn)] 9)]++opE X8y.1 3 5 (Xbe.map Xw)),5⟩ μ),
  X5 Tryz.prog 70 0 Q (.loop (X4c 1 (Xd Tryz.f21))) [] ⟨fr [(2,(Lf (List.map (aI .i64) y1_2))),(3,(Lf (y1_3.map X00))),(4,(AV.ptr 0 0 0)),(8,(AV.ptr 1 0 0)),(11,(AV.ptr 2 0 0)),(13,(slE Xej.1 3 (X9y.map Xw))),(14,(aI .i64 Xss)),(15,(AV.ptr 4 0 0)),(17,(aI .i64 Xm9))],hp ([(0,Ob [(X05 false X6b)] 10),(1,Ob [(Xc true Xdj)] 9),(2,Ob [(Xc true Xgn)] 9),(4,Ob [(Xc true Xhn)] 9)]++opE Xej.1 3 5 (X9y.map Xw)),5⟩ μ:=by
 intro n
 induction n with
 |zero=>intro X9y Xm9 Xej o h C0;cases h
 |succ n ih =>
  intro X9y Xm9 Xej o h C0
  rw[X80] at h
  rcases Xej with ⟨_|_,Xyb⟩
  ·
   refine X5.round ?_
   revert h
   refine brI (fun h165=>?_) fun h165=>fun e=>Xb [.el (aI .i64 (Xhn.Pending.length:Int)),Bf] (k:=wkT [] (C0 _  nbF (oj e).symm))
   refine bI fun e166 h167=>?_
   try have qh167:=Xp h167
   refine bI fun u168 h169=>rnI [.el (aI .i64 (Xhn.Pending.length:Int)),Bt,.el (Xs e166),.no,.wrap] (o:=by repeat' first|apply Ya|exact pcM|(refine X1m h169 rfl ?_;first|(simp;done)|(simp;omega)|(simp[h165];done)|(simp[h165];omega))|(refine X0i h169 (by decide) ?_;first|(simp;done)|(simp;omega)|(simp[h165];done)|(simp[h165];omega))|exact Xr) ?_
   intro h
   exact wkT [(3,6)] (ih  _ _ nbF o h C0)
  obtain rfl:=Xyb rfl
  refine X5.round ?_
  revert h
  refine brI (fun h170=>?_) fun h170=>fun e=>Xb [.el (aI .i64 (Xhn.Pending.length:Int)),Bf] (k:=wkT [] (C0 _  nbS (oj e).symm))
  refine bI fun e171 h172=>?_
  try have qh172:=Xp h172
  refine bI fun u173 h174=>rnI [.el (aI .i64 (Xhn.Pending.length:Int)),Bt,.el (Xs e171),.no,.wrap] (o:=by repeat' first|apply Ya|exact pcM|(refine X1m h174 rfl ?_;first|(simp;done)|(simp;omega)|(simp[h170];done)|(simp[h170];omega))|(refine X0i h174 (by decide) ?_;first|(simp;done)|(simp;omega)|(simp[h170];done)|(simp[h170];omega))|exact Xr) ?_
  intro h
  exact wkT [(3,6)] (ih  _ _ nbF o h C0)
theorem Xfp {Q:Xx->St->Mu->Prop} {μ:Mu} (Xpz:(List Int)) (X87:(List Xj)) (Xk:X0b) (Xl:Xo) (hl:X87.length<=140737488355328):∀ (xs:List Xj) (k:Nat) (hx:X87.drop k=xs) (X7g:Xo) (X0k:(List X1g)) (X27:Nb X0k) (o:X6a) (h:X5w Xpz X87 Xk Xl xs k X7g X0k=some o)
  (C0:∀ (X0n:Xo) (Xaf:(List X1g)) (Xd3:Nb Xaf),o=X6a.x0 X0n Xaf->X5 Tryz.prog 70 0 Q (.exit (.exit 0)) [] ⟨fr [(8,(AV.ptr 0 0 0)),(11,(AV.ptr 1 0 0)),(13,(slE Xd3.1 2 (Xaf.map Xw)))],hp ([(0,Ob [(Xc true Xl)] 9),(1,Ob [(Xc true X0n)] 9)]++opE Xd3.1 2 5 (Xaf.map Xw)),3⟩ μ)
  (C1:∀ (X2y:(List X1g)) (X4t:Nb X2y),o=X6a.x1 X2y->X5 Tryz.prog 70 0 Q (.exit .ret) [] ⟨fr [(8,(AV.ptr 0 0 0)),(9,(slE X4t.1 1 (X2y.map Xw))),(10,(aB false))],hp ([(0,Ob [(Xc true (Xo.mk (GOp.mk 0 0) 0 ([]:List X0g) ([]:List Int) ([]:List X4) ([]:List X0c) ([]:List X1g) ([]:List Xe)))] 9)]++opE X4t.1 1 5 (X2y.map Xw)),2⟩ μ),
  X5 Tryz.prog 70 0 Q (.loop (X4c 0 (Xd Tryz.f21))) [] ⟨fr [(2,(Lf (List.map (aI .i64) Xpz))),(3,(Lf (X87.map X00))),(4,(AV.ptr 0 0 0)),(8,(AV.ptr 1 0 0)),(11,(AV.ptr 2 0 0)),(13,(slE X27.1 3 (X0k.map Xw))),(14,(aI .i64 (k:Int)))],hp ([(0,Ob [(X05 false Xk)] 10),(1,Ob [(Xc true Xl)] 9),(2,Ob [(Xc true X7g)] 9)]++opE X27.1 3 5 (X0k.map Xw)),4⟩ μ:=by
 intro xs
 induction xs with
 |nil =>
  intro k hx X7g X0k X27 o h C0 C1
  have hk:=X1u hx
  have hc:decide ((k:Int)<(X87.length:Int))=false:=Yf (by omega)
  rw[X5w] at h
  rcases X27 with ⟨_|_,X74⟩
  ·
   refine X5.round ?_
   revert h
   exact fun e=>Xb [.el (aI .i64 (X87.length:Int)),Bf] (k:=wkT [(0,1),(1,2),(2,3)] (C0 _ _  nbF (oj e).symm))
  ·
   obtain rfl:=X74 rfl
   refine X5.round ?_
   revert h
   exact fun e=>Xb [.el (aI .i64 (X87.length:Int)),Bf] (k:=wkT [(0,1),(1,2)] (C0 _ _  nbS (oj e).symm))
 |cons x xs ih =>
  intro k hx X7g X0k X27 o h C0 C1
  obtain⟨hk,hg,hx1⟩:=X13 hx
  have hc:decide ((k:Int)<(X87.length:Int))=true:=Yt (by omega)
  rw[X5w] at h
  rcases X27 with ⟨_|_,X74⟩
  ·
   refine X5.round ?_
   revert h
   refine bI fun e139 h140=>?_
   try have qh140:=Xp h140
   refine bI fun v141 h142=>rnI [.el (aI .i64 (X87.length:Int)),Bt,.el (aI .i64 e139),.el (X00 x),.pure _ (AV.tup [(Xc true v141.1),(aI .i64 v141.2)])] ?_
   refine brI (fun h143=>?_) fun h143=>?_
   ·
    refine fun e=>X09 [Bt] ?_
    refine X5.denil 1 [AV.agg [(aI .u8 0),(aI .i64 0),(aI .i64 0),(AV.list true (List.map Xs ([]:List X0g))),(AV.list true (List.map (aI .i64) ([]:List Int))),(AV.list true (List.map X3 ([]:List X4))),(AV.list true (List.map X01 ([]:List X0c))),(AV.list true (List.map Xw ([]:List X1g))),(AV.list true (List.map Xt ([]:List Xe)))]] rfl rfl ?_
    exact wkT [(0,1)] (C1 _  nbS (oj e).symm)
   refine bI fun o175 h176=>rnI [Bf] ?_
   intro h
   refine wkT [(4,18)] (X5.cut (Xb6 Xpz X87 Xk Xl X7g (k:Int) v141.1 _ _ _ nbF _ h176 ?_))
   intro Xbe X8y eo175;subst eo175
   refine X5.glue ?_
   try dsimp only at h
   rcases X8y with ⟨_|_,Xfu⟩
   ·
    refine X09 [] ?_
    refine X5.denil 2 [AV.agg [(aI .u8 v141.1.Op.Kind),(aI .i64 v141.1.Op.N),(aI .i64 v141.1.Turn),(AV.list true (List.map Xs ([]:List X0g))),(AV.list true (List.map (aI .i64) v141.1.Marks)),(AV.list true (v141.1.Store.map X3)),(AV.list true (v141.1.Events.map X01)),(AV.list true (v141.1.Rows.map Xw)),(AV.list true (v141.1.Late.map Xt))]] rfl rfl ?_
    refine X5.denil 4 [AV.agg [(aI .u8 v141.1.Op.Kind),(aI .i64 v141.1.Op.N),(aI .i64 v141.1.Turn),(AV.list true (List.map Xs ([]:List X0g))),(AV.list true (List.map (aI .i64) v141.1.Marks)),(AV.list true (v141.1.Store.map X3)),(AV.list true (v141.1.Events.map X01)),(AV.list true (v141.1.Rows.map Xw)),(AV.list true (v141.1.Late.map Xt))]] rfl rfl ?_
    exact wkT [] (ih (k+1) hx1 _ _ nbF o h C0 C1)
   obtain rfl:=Xfu rfl
   refine X09 [] ?_
   refine X5.denil 2 [AV.agg [(aI .u8 v141.1.Op.Kind),(aI .i64 v141.1.Op.N),(aI .i64 v141.1.Turn),(AV.list true (List.map Xs ([]:List X0g))),(AV.list true (List.map (aI .i64) v141.1.Marks)),(AV.list true (v141.1.Store.map X3)),(AV.list true (v141.1.Events.map X01)),(AV.list true (v141.1.Rows.map Xw)),(AV.list true (v141.1.Late.map Xt))]] rfl rfl ?_
   refine X5.denil 4 [AV.agg [(aI .u8 v141.1.Op.Kind),(aI .i64 v141.1.Op.N),(aI .i64 v141.1.Turn),(AV.list true (List.map Xs ([]:List X0g))),(AV.list true (List.map (aI .i64) v141.1.Marks)),(AV.list true (v141.1.Store.map X3)),(AV.list true (v141.1.Events.map X01)),(AV.list true (v141.1.Rows.map Xw)),(AV.list true (v141.1.Late.map Xt))]] rfl rfl ?_
   exact wkT [] (ih (k+1) hx1 _ _ nbS o h C0 C1)
  obtain rfl:=X74 rfl
  refine X5.round ?_
  revert h
  refine bI fun e177 h178=>?_
  try have qh178:=Xp h178
  refine bI fun v179 h180=>rnI [.el (aI .i64 (X87.length:Int)),Bt,.el (aI .i64 e177),.el (X00 x),.pure _ (AV.tup [(Xc true v179.1),(aI .i64 v179.2)])] ?_
  refine brI (fun h181=>?_) fun h181=>?_
  ·
   refine fun e=>X09 [Bt] ?_
   refine X5.denil 1 [AV.agg [(aI .u8 0),(aI .i64 0),(aI .i64 0),(AV.list true (List.map Xs ([]:List X0g))),(AV.list true (List.map (aI .i64) ([]:List Int))),(AV.list true (List.map X3 ([]:List X4))),(AV.list true (List.map X01 ([]:List X0c))),(AV.list true (List.map Xw ([]:List X1g))),(AV.list true (List.map Xt ([]:List Xe)))]] rfl rfl ?_
   exact wkT [(0,1)] (C1 _  nbS (oj e).symm)
  refine bI fun o203 h204=>rnI [Bf] ?_
  intro h
  refine wkT [(4,18)] (X5.cut (Xb6 Xpz X87 Xk Xl X7g (k:Int) v179.1 _ _ _ nbS _ h204 ?_))
  intro Xbe X8y eo203;subst eo203
  refine X5.glue ?_
  try dsimp only at h
  rcases X8y with ⟨_|_,Xfu⟩
  ·
   refine X09 [] ?_
   refine X5.denil 2 [AV.agg [(aI .u8 v179.1.Op.Kind),(aI .i64 v179.1.Op.N),(aI .i64 v179.1.Turn),(AV.list true (List.map Xs ([]:List X0g))),(AV.list true (List.map (aI .i64) v179.1.Marks)),(AV.list true (v179.1.Store.map X3)),(AV.list true (v179.1.Events.map X01)),(AV.list true (v179.1.Rows.map Xw)),(AV.list true (v179.1.Late.map Xt))]] rfl rfl ?_
   refine X5.denil 4 [AV.agg [(aI .u8 v179.1.Op.Kind),(aI .i64 v179.1.Op.N),(aI .i64 v179.1.Turn),(AV.list true (List.map Xs ([]:List X0g))),(AV.list true (List.map (aI .i64) v179.1.Marks)),(AV.list true (v179.1.Store.map X3)),(AV.list true (v179.1.Events.map X01)),(AV.list true (v179.1.Rows.map Xw)),(AV.list true (v179.1.Late.map Xt))]] rfl rfl ?_
   exact wkT [] (ih (k+1) hx1 _ _ nbF o h C0 C1)
  obtain rfl:=Xfu rfl
  refine X09 [] ?_
  refine X5.denil 2 [AV.agg [(aI .u8 v179.1.Op.Kind),(aI .i64 v179.1.Op.N),(aI .i64 v179.1.Turn),(AV.list true (List.map Xs ([]:List X0g))),(AV.list true (List.map (aI .i64) v179.1.Marks)),(AV.list true (v179.1.Store.map X3)),(AV.list true (v179.1.Events.map X01)),(AV.list true (v179.1.Rows.map Xw)),(AV.list true (v179.1.Late.map Xt))]] rfl rfl ?_
  refine X5.denil 4 [AV.agg [(aI .u8 v179.1.Op.Kind),(aI .i64 v179.1.Op.N),(aI .i64 v179.1.Turn),(AV.list true (List.map Xs ([]:List X0g))),(AV.list true (List.map (aI .i64) v179.1.Marks)),(AV.list true (v179.1.Store.map X3)),(AV.list true (v179.1.Events.map X01)),(AV.list true (v179.1.Rows.map Xw)),(AV.list true (v179.1.Late.map Xt))]] rfl rfl ?_
  exact wkT [] (ih (k+1) hx1 _ _ nbS o h C0 C1)
instance Xwj:PCs Tryz.prog 21 (∀ (a0:X0b) (a1:Int) (a2:(List Int)) (a3:(List Xj)) (r:Xo×(List X1g)×Bool),Xe2 a0 a1 a2 a3=some r->X0h Tryz.prog 21 [(X05 false a0),(aI .i64 a1),(Lf (List.map (aI .i64) a2)),(Lf (a3.map X00))] (AV.tup [(Xc true r.1),(AV.list true (r.2.1.map Xw)),(aB r.2.2)])):=⟨fun a0 a1 a2 a3 r h=>by
 refine X0h.sym X8 fn21 (nt:=70) rfl rfl ?_ okM
 unfold Xe2 at h
 revert h
 refine bI fun v1 h2=>brI (fun h3=>fun e=>oj e▸Xb [.pure _ (AV.tup [(Xc true v1.1),(aI .i64 v1.2)]),Bt] (k:=fi)) fun h3=>bI fun u4 h5=>?_
 have qh5:=X16 h5
 refine rnI [.pure _ (AV.tup [(Xc true v1.1),(aI .i64 v1.2)]),Bf] ?_
 intro h
 refine X5.denil 1 [AV.agg [(aI .u8 0),(aI .i64 0),(aI .i64 0),(AV.list true (List.map Xs ([]:List X0g))),(AV.list true (List.map (aI .i64) ([]:List Int))),(AV.list true (List.map X3 ([]:List X4))),(AV.list true (List.map X01 ([]:List X0c))),(AV.list true (List.map Xw ([]:List X1g))),(AV.list true (List.map Xt ([]:List Xe)))]] rfl rfl ?_
 revert h
 refine bI fun o205 h206=>rnI [] ?_
 intro h
 refine wkT [] (X5.cut (Xfp a2 a3 a0 (Xo.mk (GOp.mk 0 0) 0 ([]:List X0g) ([]:List Int) ([]:List X4) ([]:List X0c) ([]:List X1g) ([]:List Xe)) qh5 a3 0 (by simp) _ _ nbS _ h206 ?_ ?_))
 ·
  intro X0n Xaf Xd3 eo205;subst eo205
  refine X5.glue ?_
  try dsimp only at h
  rcases Xd3 with ⟨_|_,Xrt⟩
  ·
   revert h
   exact fun e=>oj e▸Xb [] (k:=fi)
  obtain rfl:=Xrt rfl
  revert h
  exact fun e=>oj e▸Xb [] (k:=fi)
 intro X2y X4t eo205;subst eo205
 refine X5.glue ?_
 try dsimp only at h
 rcases X4t with ⟨_|_,Xb8⟩
 ·
  revert h
  exact fun e=>oj e▸Xb [] (k:=fi)
 obtain rfl:=Xb8 rfl
 revert h
 exact fun e=>oj e▸Xb [] (k:=fi)⟩
instance Xzd:PCs Tryz.prog 52 (∀ (a0:Int) (a1:Int) (a2:Int) (r:X1g),Xim a0 a1 a2=some r->X0h Tryz.prog 52 [(aI .i64 a0),(aI .i64 a1),(aI .i64 a2)] (Xw r)):=⟨fun a0 a1 a2 r h=>by
 refine X0h.sym X8 fn52 (nt:=15) rfl rfl ?_ okM
 unfold Xim at h
 revert h
 exact fun e=>oj e▸Xb [.wrap] (k:=fi)⟩
end Go.Av.Tryz