/- Printed by decomp.py: that the program computes the functions. -/
import Derived.Test.YtkjlgmgfhgamlaaGreatDCert7Z
import Derived.Test.YtkjlgmgfhgamlaaGreatDCert8Z
set_option linter.all false

namespace Go.Av.Tryz
open Go.Proofs Go.D
set_option maxRecDepth 10000
set_option maxHeartbeats 40000000
instance Xvg:PCs Tryz.prog 65 (∀ (a0:(List X2)) (a1:Int) (r:(List X2)×(List X2)×Int),X7d a0 a1=some r->X0j Tryz.prog 65 [(Lf (a0.map X1)),(aI .i64 a1)] (AV.tup [(AV.list true (r.1.map X1)),(AV.list true (r.2.1.map X1)),(aI .i64 r.2.2)])):=⟨fun a0 a1 r h=>by
 refine X0j.sym X5 fn65 (nt:=37) rfl rfl ?_ okM
 unfold X7d at h
 revert h
 refine bI fun v1 h2=>brI (fun h3=>fun e=>oj e▸Xa [.pure _ (aI .i64 v1),Bt] (k:=fi)) fun h3=>bI fun u4 h5=>?_
 have qh5:=X12 h5
 refine bI fun o151 h152=>rnI [.pure _ (aI .i64 v1),Bf,.el (aI .i64 (a0.length:Int))] ?_
 intro h
 refine wkT [] (X3.cut (Xg3 a1 a0 qh5 a0 0 (by simp) _ _ nbS nbS _ h152 ?_))
 intro X08 X0l X0q X1a eo151;subst eo151
 refine X3.glue ?_
 try dsimp only at h
 rcases X0q with ⟨_|_,X4a⟩
 ·
  rcases X1a with ⟨_|_,X3d⟩
  ·
   revert h
   exact fun e=>oj e▸Xa [] (k:=fi)
  obtain rfl:=X3d rfl
  revert h
  exact fun e=>oj e▸Xa [] (k:=fi)
 obtain rfl:=X4a rfl
 rcases X1a with ⟨_|_,X3d⟩
 ·
  revert h
  exact fun e=>oj e▸Xa [] (k:=fi)
 obtain rfl:=X3d rfl
 revert h
 exact fun e=>oj e▸Xa [] (k:=fi)⟩
instance Xua:PCs Tryz.prog 29 (∀ (a0:Int) (a1:X0r) (r:Int×Int),X6k a0 a1=some r->X0j Tryz.prog 29 [(aI .u8 a0),(X0t a1)] (AV.tup [(aI .i64 r.1),(aI .i64 r.2)])):=⟨fun a0 a1 r h=>by
 refine X0j.sym X5 fn29 (nt:=34) rfl rfl ?_ okM
 unfold X6k at h
 revert h
 refine brI (fun h1=>fun e=>oj e▸Xa [Bt] (k:=fi)) fun h1=>bI fun v2 h3=>brI (fun h4=>fun e=>oj e▸Xa [Bf,.pure _ (aI .i64 v2),Bt] (k:=fi)) fun h4=>brI (fun h5=>fun e=>oj e▸Xa [Bf,.pure _ (aI .i64 v2),Bf,Bt] (k:=fi)) fun h5=>bI fun Xzc h17=>rnI [Bf,.pure _ (aI .i64 v2),Bf,Bf,.stop 9] ?_
 intro h
 refine X3.join (s':=⟨fr [(4,(aI .i64 Xzc)),(5,(aI .i64 0))],hp ([]),0⟩) ?_ (fun J=>X3.cut ?_)
 ·
  revert h
  exact fun e=>oj e▸Xa [] (k:=fi)
 clear h;revert h17
 refine brI (fun h12=>?_) fun h12=>?_
 ·
  intro h
  obtain rfl:=oj h
  exact Xa [.ix 0] (o:=by repeat' first|apply Ya|exact pcM|exact((eq_of_beq h12))|exact X04) (k:=wkT [] (X3.glue J))
 refine brI (fun h13=>?_) fun h13=>?_
 ·
  intro h
  obtain rfl:a0=1:=eq_of_beq h13
  obtain rfl:=oj h
  exact Xa [.ix 1] (k:=wkT [] (X3.glue J))
 refine brI (fun h14=>?_) fun h14=>?_
 ·
  intro h
  obtain rfl:a0=2:=eq_of_beq h14
  obtain rfl:=oj h
  exact Xa [.ix 2] (k:=wkT [] (X3.glue J))
 refine brI (fun h15=>?_) fun h15=>?_
 ·
  intro h
  obtain rfl:a0=3:=eq_of_beq h15
  obtain rfl:=oj h
  exact Xa [.ix 3] (k:=wkT [] (X3.glue J))
 refine brI (fun h16=>?_) fun h16=>?_
 ·
  intro h
  obtain rfl:a0=4:=eq_of_beq h16
  obtain rfl:=oj h
  exact Xa [.ix 4] (k:=wkT [] (X3.glue J))
 intro h
 cases h⟩
theorem Xfd {Q:Xv->St->Mu->Prop}  {rb rD:Nat} {rr:Loop} (rh1:rr.state=.ready) (rh2:rr.pending=none) (rh3:rr.params=(rfB 0 (Xb Tryz.f28)).1) (rh4:rr.assign=(rfB 0 (Xb Tryz.f28)).2.1) (rh5:rr.body=(rfB 0 (Xb Tryz.f28)).2.2) (Xk:X00) (X0h:X00) (Xpu:X07) (Xh2:(List X2)) (hl:Xh2.length<=140737488355328):∀ (xs:List X2) (k:Nat) (hx:Xh2.drop k=xs) (Xh1:(List X0g)) (Xcj:Nb Xh1) (o:X89) (h:X2z Xk X0h Xpu Xh2 xs k Xh1=some o)
  (C0:∀ (Xbi:(List X0g)) (Xch:Nb Xbi),o=X89.x0 Xbi->X3 Tryz.prog 34 8 Q (.exit (.exit 0)) [] ⟨fr [],hp ([(1,Ob [(Xj false Xk)] 9),(3,Ob [(Xj true X0h)] 9),(4,Ob [(slE Xch.1 8 (Xbi.map X01))] 1),(5,Ob [(AV.fn 66 [(AV.ptr 4 0 0)])] 1),(6,Ob [(Xy false Xpu)] 10),(7,Ob [(AV.list true (Xh2.map X1))] 1)]++opE Xch.1 8 11 (Xbi.map X01)),9⟩ [(rb,MuE.loop rr 141 8 (fr [(5,(AV.ptr 1 0 0)),(8,(AV.ptr 3 0 0)),(21,(AV.ptr 4 0 0)),(22,(AV.ptr 5 0 0)),(131,(AV.fn 105 [(AV.ptr 7 0 0),(AV.ptr 6 0 0)]))])),(rD,MuE.blk (Go.Obj.deferred (some [])))]),
  X3 Tryz.prog 34 8 Q (.loop (X4y 0 (Xb Tryz.f105))) [] ⟨fr [(0,(AV.sc (.func (.yield rb) #[] #[]))),(2,(AV.ptr 6 0 0)),(8,(AV.list true (Xh2.map X1))),(9,(aI .i64 (Xh2.length:Int))),(10,(aI .i64 (k:Int)))],hp ([(1,Ob [(Xj false Xk)] 9),(3,Ob [(Xj true X0h)] 9),(4,Ob [(slE Xcj.1 8 (Xh1.map X01))] 1),(5,Ob [(AV.fn 66 [(AV.ptr 4 0 0)])] 1),(6,Ob [(Xy false Xpu)] 10),(7,Ob [(AV.list true (Xh2.map X1))] 1)]++opE Xcj.1 8 11 (Xh1.map X01)),9⟩ [(rb,MuE.loop rr 141 8 (fr [(5,(AV.ptr 1 0 0)),(8,(AV.ptr 3 0 0)),(21,(AV.ptr 4 0 0)),(22,(AV.ptr 5 0 0)),(131,(AV.fn 105 [(AV.ptr 7 0 0),(AV.ptr 6 0 0)]))])),(rD,MuE.blk (Go.Obj.deferred (some [])))]:=by
 intro xs
 induction xs with
 |nil =>
  intro k hx Xh1 Xcj o h C0
  have hk:=X1h hx
  have hc:decide ((k:Int)<(Xh2.length:Int))=false:=Yf (by omega)
  rw[X2z] at h
  rcases Xcj with ⟨_|_,Xkm⟩
  ·
   refine X3.round ?_
   revert h
   exact fun e=>Xa [Bf] (k:=wkT [] (C0 _  nbF (oj e).symm))
  ·
   obtain rfl:=Xkm rfl
   refine X3.round ?_
   revert h
   exact fun e=>Xa [Bf] (k:=wkT [] (C0 _  nbS (oj e).symm))
 |cons x xs ih =>
  intro k hx Xh1 Xcj o h C0
  obtain⟨hk,hg,hx1⟩:=X0w hx
  have hc:decide ((k:Int)<(Xh2.length:Int))=true:=Yt (by omega)
  rw[X2z] at h
  rcases Xcj with ⟨_|_,Xkm⟩
  ·
   refine X3.round ?_
   revert h
   refine bI fun v76 h77=>rnI [Bt,.el (X1 x),.ix 0,.pure _ (AV.tup [(aI .i64 v76.1),(aI .i64 v76.2)])] ?_
   intro h
   refine X3.yield rfl rfl rfl rfl rfl trivial trivial (.head _) rh1 rh2 rh3 rh4 rh5 rfl rfl ?_
   refine X09 [] ?_
   refine X3.asg ?_
   refine X09 [] ?_
   refine X3.inline X5 fn66 rfl rfl rfl rfl rfl trivial trivial rfl rfl ?_
   revert h
   refine bI fun u84 h85=>rnI [.no] (o:=by repeat' first|apply Ya|exact pcM|(refine X1o h85 rfl ?_;first|(simp;done)|(simp;omega)|(simp[hc];done)|(simp[hc];omega))|(refine X0d h85 (by decide) ?_;first|(simp;done)|(simp;omega)|(simp[hc];done)|(simp[hc];omega))|exact X04) ?_
   intro h
   refine X3.back (by intro id h;cases h) rfl ?_
   refine X09 [] (o:=by repeat' first|apply Ya|exact pcM|(refine X1o h85 rfl ?_;first|(simp;done)|(simp;omega)|(simp[hc];done)|(simp[hc];omega))|(refine X0d h85 (by decide) ?_;first|(simp;done)|(simp;omega)|(simp[hc];done)|(simp[hc];omega))|exact X04) ?_
   refine X3.rndEnd ?_
   exact Xa [Bf] (o:=by repeat' first|apply Ya|exact pcM|(refine X1o h85 rfl ?_;first|(simp;done)|(simp;omega)|(simp[hc];done)|(simp[hc];omega))|(refine X0d h85 (by decide) ?_;first|(simp;done)|(simp;omega)|(simp[hc];done)|(simp[hc];omega))|exact X04) (k:=wkT [(8,13)] (ih (k+1) hx1 _ nbF o h C0))
  obtain rfl:=Xkm rfl
  refine X3.round ?_
  revert h
  refine bI fun v86 h87=>rnI [Bt,.el (X1 x),.ix 0,.pure _ (AV.tup [(aI .i64 v86.1),(aI .i64 v86.2)])] ?_
  intro h
  refine X3.yield rfl rfl rfl rfl rfl trivial trivial (.head _) rh1 rh2 rh3 rh4 rh5 rfl rfl ?_
  refine X09 [] ?_
  refine X3.asg ?_
  refine X09 [] ?_
  refine X3.inline X5 fn66 rfl rfl rfl rfl rfl trivial trivial rfl rfl ?_
  revert h
  refine bI fun u94 h95=>rnI [.no] (o:=by repeat' first|apply Ya|exact pcM|(refine X1o h95 rfl ?_;first|(simp;done)|(simp;omega)|(simp[hc];done)|(simp[hc];omega))|(refine X0d h95 (by decide) ?_;first|(simp;done)|(simp;omega)|(simp[hc];done)|(simp[hc];omega))|exact X04) ?_
  intro h
  refine X3.back (by intro id h;cases h) rfl ?_
  refine X09 [] (o:=by repeat' first|apply Ya|exact pcM|(refine X1o h95 rfl ?_;first|(simp;done)|(simp;omega)|(simp[hc];done)|(simp[hc];omega))|(refine X0d h95 (by decide) ?_;first|(simp;done)|(simp;omega)|(simp[hc];done)|(simp[hc];omega))|exact X04) ?_
  refine X3.rndEnd ?_
  exact Xa [Bf] (o:=by repeat' first|apply Ya|exact pcM|(refine X1o h95 rfl ?_;first|(simp;done)|(simp;omega)|(simp[hc];done)|(simp[hc];omega))|(refine X0d h95 (by decide) ?_;first|(simp;done)|(simp;omega)|(simp[hc];done)|(simp[hc];omega))|exact X04) (k:=wkT [(8,13)] (ih (k+1) hx1 _ nbF o h C0))
def Xh9:AV->AV
 |.list true es=>.list false es
 |a=>a
def Xdl:AV->AV
 |.agg cs=>.agg (cs.map Xh9)
 |a=>Xh9 a
theorem Xh8 (e:AV):(Xdl e).cells=e.cells.map Xh9:=by
 cases e<;>try rfl
 rename_i own es;cases own<;>rfl
theorem Xpw {c:Ctx} {d:Bool} {a:AV} {v:Value} (h:X16 c d a v):X16 c d (Xh9 a) v:=by
 unfold Xh9
 split
 ·cases h with
  |listNil=>exact .listNil
  |list vf hne hS hn hcap hsz hc h1 hr=>exact .list vf hne (.inr (hS.resolve_left fun h=>by cases h.1)) hn hcap hsz hc h1 hr
 exact h
theorem Xru {M:Nat->Prop} {a:AV} (h:a.Ok M):(Xh9 a).Ok M:=by
 unfold Xh9
 split
 ·exact .list
 exact h
theorem Xrt {c:Ctx} {p:Pl} {y:Obj} (h:Xmn c p y):Xmn c p { y with es:=y.es.map Xdl }:=by
 obtain⟨⟨cur,h1,h2,h3⟩,h4,h5,h6⟩:=h
 refine⟨⟨cur,h1,h2,fun i e he=>?_⟩,by simpa using h4,h5,h6⟩
 simp only[List.getElem?_map,Option.map_eq_some_iff] at he
 obtain⟨e0,he0,rfl⟩:=he
 obtain⟨g1,g2⟩:=h3 i e0 he0
 rw[Xh8]
 refine⟨by simpa using g1,fun k a ha=>?_⟩
 simp only[List.getElem?_map,Option.map_eq_some_iff] at ha
 obtain⟨a0,ha0,rfl⟩:=ha
 obtain⟨v,v1,v2,v3⟩:=g2 k a0 ha0
 exact⟨v,v1,Xpw v2,v3⟩
theorem X3.unown {P:Program} {nt n0 n:Nat} {Q:Xv->St->Mu->Prop} {cf:Cf} {K:List Kn} {μ:Mu} {L:List (Nat×AV)} {G:List (Nat×Obj)} {y:Obj} (q:Nat) (es':List AV) (hy:hp G q=some y) (he:y.es.map Xdl=es')
  (h:X3 P nt n0 Q cf K ⟨fr L,hp ((q,{ y with es:=es' })::G),n⟩ μ):X3 P nt n0 Q cf K ⟨fr L,hp G,n⟩ μ:=by
 subst he
 have hd:∀ o x',hp ((q,{ y with es:=y.es.map Xdl })::G) o=some x'->∃ x,hp G o=some x/\x'.esz=x.esz/\x'.solo=x.solo/\x'.spent=x.spent/\x'.es.length=x.es.length/\(x'=x\/(o=q/\x=y/\x'={ y with es:=y.es.map Xdl })):=by
  intro o x' hx
  by_cases ho:o=q
  ·subst ho
   rw[show hp ((o,{ y with es:=y.es.map Xdl })::G) o=some { y with es:=y.es.map Xdl } by simp[hp,Xf2 hy]] at hx
   cases hx
   exact⟨y,hy,rfl,rfl,rfl,by simp,.inr ⟨rfl,rfl,rfl⟩⟩
  ·have:hp ((q,{ y with es:=y.es.map Xdl })::G) o=hp G o:=by
    have hb:Nat.beq o q=false:=by rw[<-Bool.not_eq_true,Nat.beq_eq];exact ho
    simp[hp,hb]
   rw[this] at hx
   exact⟨x',hx,rfl,rfl,rfl,rfl,.inl rfl⟩
 refine X3.sub (s':=⟨fr L,hp ((q,{ y with es:=y.es.map Xdl })::G),n⟩) (fun c0 H0 c act μ g hm=>⟨?_,?_⟩) h
 ·refine⟨⟨fun o x' hx=>?_,fun o o' x1 x2 h1 h2 hne hb=>?_,fun o x' hx=>?_,g.inv.lt,g.inv.base,g.inv.own,fun o x' hx=>?_⟩,fun o x' hx=>?_,g.frame,g.ok,g.size,?_,g.le0⟩
  ·obtain⟨x,hx0,_,_,_,_,hc⟩:=hd o x' hx
   obtain⟨i1,i2,i3⟩:=g.inv.obj o x hx0
   rcases hc with rfl|⟨rfl,rfl,rfl⟩
   ·exact⟨i1,i2,i3⟩
   refine⟨i1,Xrt i2,fun e he a ha=>?_⟩
   obtain⟨e0,he0,rfl⟩:=List.mem_map.1 he
   rw[Xh8] at ha
   obtain⟨a0,ha0,rfl⟩:=List.mem_map.1 ha
   exact Xru (i3 e0 he0 a0 ha0)
  ·obtain⟨y1,hy1,e1,s1,p1,l1,_⟩:=hd o x1 h1
   obtain⟨y2,hy2,e2,s2,p2,l2,_⟩:=hd o' x2 h2
   have:=g.inv.sep o o' y1 y2 hy1 hy2 hne hb
   rw[s1,p1,p2,l1,l2,e1,e2];exact this
  ·obtain⟨x,hx0,_⟩:=hd o x' hx;exact g.inv.stab o x hx0
  ·obtain⟨x,hx0,_⟩:=hd o x' hx;exact g.inv.low o x hx0
  ·obtain⟨x,hx0,_,s1,p1,_⟩:=hd o x' hx;rw[s1,p1];exact g.solo o x hx0
  ·have r:=g.reach
   exact⟨r.rho,r.os,r.tape,r.output,r.size,r.block,r.stable,r.sa,r.so1,r.so2,r.B,fun o x' hx=>by obtain⟨x,hx0,_⟩:=hd o x' hx;exact r.own o x hx0⟩
 ·exact⟨hm.is,fun p hp=>by
   obtain⟨a1,a2,a3,a4⟩:=hm.away p hp
   exact⟨a1,a2,fun o x' hx=>by obtain⟨x,hx0,_⟩:=hd o x' hx;exact a3 o x hx0,a4⟩,hm.nodup,hm.ds⟩
instance X006:PCs Tryz.prog 28 (∀ (a0:X07) (a1:X00) (a2:Int) (a3:Xg) (r:X00×Int),X3k a0 a1 a2 a3=some r->X0j Tryz.prog 28 [(Xy false a0),(Xj false a1),(aI .i64 a2),(Xo a3)] (AV.tup [(Xj true r.1),(aI .i64 r.2)])):=⟨fun a0 a1 a2 a3 r h=>by
 refine X0j.sym X5 fn28 (nt:=141) rfl rfl ?_ okM
 unfold X3k at h
 revert h
 refine bI fun v1 h2=>brI (fun h3=>fun e=>oj e▸Xa [.pure _ (aB v1),Bt] (k:=fi)) fun h3=>bI fun v4 h5=>brI (fun h6=>fun e=>oj e▸Xa [.pure _ (aB v1),Bf,.pure _ (aI .i64 v4),Bt] (k:=fi)) fun h6=>bI fun Xyr h12=>rnI [.pure _ (aB v1),Bf,.pure _ (aI .i64 v4),Bf,.stop 6] ?_
 intro h
 refine X3.join (s':=⟨fr [(2,(aI .i64 a2)),(4,(AV.ptr 0 0 0)),(5,(AV.ptr 1 0 0)),(7,(AV.ptr 2 0 0)),(8,(AV.ptr 3 0 0)),(34,(aB Xyr))],hp ([(0,Ob [(Xy false a0)] 10),(1,Ob [(Xj false a1)] 9),(2,Ob [(Xo a3)] 10),(3,Ob [(Xj true (X00.mk (GOp.mk 0 0) 0 ([]:List X0g) ([]:List Int) ([]:List X2) ([]:List X0e) ([]:List X1n) ([]:List Xe)))] 9)]),4⟩) ?_ (fun J=>X3.cut ?_)
 ·
  revert h
  refine brI (fun h13=>fun e=>oj e▸Xa [Bt] (k:=fi)) fun h13=>bI fun v14 h15=>brI (fun h16=>fun e=>oj e▸Xa [Bf,.pure _ (aI .i64 v14),Bt] (k:=fi)) fun h16=>brI (fun h17=>fun e=>oj e▸Xa [Bf,.pure _ (aI .i64 v14),Bf,.el (aI .i64 (a1.Pending.length:Int)),Bt] (k:=fi)) fun h17=>?_
  refine brI (fun h18=>?_) fun h18=>?_
  ·
   refine bI fun v19 h20=>rnI [Bf,.pure _ (aI .i64 v14),Bf,.el (aI .i64 (a1.Pending.length:Int)),Bf,Bt,.pure _ (AV.tup [(AV.list true (v19.1.map X1)),(aI .i64 v19.2)])] ?_
   exact brI (fun h21=>fun e=>oj e▸Xa [Bt] (k:=fi)) fun h21=>bI fun v22 h23=>fun e=>oj e▸Xa [Bf,.pure _ (AV.tup [(Xj true v22.1),(aI .i64 v22.2)])] (k:=fi)
  refine bI fun v24 h25=>rnI [Bf,.pure _ (aI .i64 v14),Bf,.el (aI .i64 (a1.Pending.length:Int)),Bf,Bf,.pure _ (AV.tup [(AV.list true (List.map (aI .i64) v24.1)),(aB v24.2.1),(aI .i64 v24.2.2)])] ?_
  refine brI (fun h26=>bI fun v27 h28=>fun e=>oj e▸Xa [Bt,.pure _ (AV.tup [(Xj true v27.1),(aI .i64 v27.2)])] (k:=fi)) fun h26=>bI fun v29 h30=>bI fun v31 h32=>rnI [Bf,.pure _ (AV.tup [(aI .i64 v29.1),(aI .i64 v29.2)]),.pure _ (AV.tup [(AV.list true (v31.1.map X1)),(AV.list true (v31.2.1.map X1)),(aI .i64 v31.2.2)])] ?_
  intro h
  refine X3.inline X5 fn67 rfl rfl rfl rfl rfl trivial trivial rfl rfl ?_
  refine X09 [] ?_
  refine X3.back (by intro id h;cases h) rfl ?_
  refine X09 [] ?_
  refine X3.unown 1 [AV.agg [(aI .u8 a1.Op.Kind),(aI .i64 a1.Op.N),(aI .i64 a1.Turn),(Lf (a1.Pending.map X01)),(Lf (List.map (aI .i64) v24.1)),(Lf (v31.2.1.map X1)),(Lf (a1.Events.map X06)),(Lf (a1.Rows.map Xu)),(Lf (a1.Late.map Xx))]] rfl rfl ?_
  refine X3.keepL [5,8,21,22,131] ?_
  refine X3.rangeFunc rfl trivial X04a rfl rfl rfl ?_
  intro rb rD rr rh1 rh2 rh3 rh4 rh5
  revert h
  refine bI fun u33 h34=>?_
  have qh34:=X12 h34
  refine bI fun o96 h97=>rnI [.el (aI .i64 (v31.1.length:Int))] ?_
  intro h
  refine wkT [] (X3.cut (Xfd rh1 rh2 rh3 rh4 rh5 (X00.mk a1.Op a1.Turn a1.Pending v24.1 v31.2.1 a1.Events a1.Rows a1.Late) (X00.mk ((X00.mk (GOp.mk 0 0) 0 ([]:List X0g) ([]:List Int) ([]:List X2) ([]:List X0e) ([]:List X1n) ([]:List Xe)).Op) ((X00.mk (GOp.mk 0 0) 0 ([]:List X0g) ([]:List Int) ([]:List X2) ([]:List X0e) ([]:List X1n) ([]:List Xe)).Turn) ((X00.mk (GOp.mk 0 0) 0 ([]:List X0g) ([]:List Int) ([]:List X2) ([]:List X0e) ([]:List X1n) ([]:List Xe)).Pending) ((X00.mk (GOp.mk 0 0) 0 ([]:List X0g) ([]:List Int) ([]:List X2) ([]:List X0e) ([]:List X1n) ([]:List Xe)).Marks) ((X00.mk (GOp.mk 0 0) 0 ([]:List X0g) ([]:List Int) ([]:List X2) ([]:List X0e) ([]:List X1n) ([]:List Xe)).Store) ((X00.mk (GOp.mk 0 0) 0 ([]:List X0g) ([]:List Int) ([]:List X2) ([]:List X0e) ([]:List X1n) ([]:List Xe)).Events) ((X00.mk (GOp.mk 0 0) 0 ([]:List X0g) ([]:List Int) ([]:List X2) ([]:List X0e) ([]:List X1n) ([]:List Xe)).Rows) ((X00.mk (GOp.mk 0 0) 0 ([]:List X0g) ([]:List Int) ([]:List X2) ([]:List X0e) ([]:List X1n) ([]:List Xe)).Late)) a0 v31.1 qh34 v31.1 0 (by simp) _ nbS _ h97 ?_))
  intro Xbi Xch eo96;subst eo96
  refine X3.glue ?_
  try dsimp only at h
  rcases Xch with ⟨_|_,Xqm⟩
  ·
   refine X09 [] ?_
   refine X3.rfEnd (by intro id h;cases h) ?_
   revert h
   exact bI fun v98 h99=>fun e=>oj e▸Xa [.pure _ (AV.tup [(Xj true v98.1),(aI .i64 v98.2)])] (k:=fi)
  obtain rfl:=Xqm rfl
  refine X09 [] ?_
  refine X3.rfEnd (by intro id h;cases h) ?_
  revert h
  exact bI fun v100 h101=>fun e=>oj e▸Xa [.pure _ (AV.tup [(Xj true v100.1),(aI .i64 v100.2)])] (k:=fi)
 clear h;revert h12
 refine brI (fun h10=>?_) fun h10=>?_
 ·
  intro h
  obtain rfl:=oj h
  refine X09 [.go false,.go false,.go false,.go false,.go false,.go false,.go false] (o:=by repeat' first|apply Ya|exact pcM|exact((X9 h10 rfl))|exact(Xi (X9 h10 rfl))|exact(X5k (X9 h10 rfl))|exact X04) ?_
  refine X3.denil 3 [AV.agg [(aI .u8 0),(aI .i64 0),(aI .i64 0),(AV.list true (List.map X01 ([]:List X0g))),(AV.list true (List.map (aI .i64) ([]:List Int))),(AV.list true (List.map X1 ([]:List X2))),(AV.list true (List.map X06 ([]:List X0e))),(AV.list true (List.map Xu ([]:List X1n))),(AV.list true (List.map Xx ([]:List Xe)))]] rfl rfl ?_
  exact wkT [] (X3.glue J)
 refine brI (fun h11=>?_) fun h11=>?_
 ·
  intro h
  obtain rfl:=oj h
  refine X09 [.go true,.go true,.go false,.go false,.go false,.go false,.go false] (o:=by repeat' first|apply Ya|exact pcM|exact((X8 h10 h11))|exact(Xi (X8 h10 h11))|exact(X5k (X8 h10 h11))|exact X04) ?_
  refine X3.denil 3 [AV.agg [(aI .u8 0),(aI .i64 0),(aI .i64 0),(AV.list true (List.map X01 ([]:List X0g))),(AV.list true (List.map (aI .i64) ([]:List Int))),(AV.list true (List.map X1 ([]:List X2))),(AV.list true (List.map X06 ([]:List X0e))),(AV.list true (List.map Xu ([]:List X1n))),(AV.list true (List.map Xx ([]:List Xe)))]] rfl rfl ?_
  exact wkT [] (X3.glue J)
 intro h
 obtain rfl:=oj h
 refine X09 [.go true,.go true,.go true,.go true,.go true,.go true,.el (aI .i64 (a1.Marks.length:Int)),.go true] (o:=by repeat' first|apply Ya|exact pcM|exact((X8 h10 h11))|exact(Xi (X8 h10 h11))|exact(Xd3 (X8 h10 h11))|exact X04) ?_
 refine X3.denil 3 [AV.agg [(aI .u8 0),(aI .i64 0),(aI .i64 0),(AV.list true (List.map X01 ([]:List X0g))),(AV.list true (List.map (aI .i64) ([]:List Int))),(AV.list true (List.map X1 ([]:List X2))),(AV.list true (List.map X06 ([]:List X0e))),(AV.list true (List.map Xu ([]:List X1n))),(AV.list true (List.map Xx ([]:List Xe)))]] rfl rfl ?_
 exact wkT [] (X3.glue J)⟩
theorem Xal {Q:Xv->St->Mu->Prop} {μ:Mu} (y1_2:(List Int)) (y1_3:(List Xg)) (Xfw:X07) (Xrl:X00) (Xrk:X00) (Xrm:Int) (Xgz:X00):∀ (n:Nat) (Xih:(List X1n)) (Xl4:Int) (Xdv:Nb Xih) (o:X87) (h:X7s y1_2 y1_3 Xfw Xrl Xrk Xrm Xgz n Xih Xl4=some o)
  (C0:∀ (Xas:(List X1n)) (X8p:Nb Xas),o=X87.x0 Xas->X3 Tryz.prog 70 0 Q (.exit (.exit 2)) [] ⟨fr [(2,(Lf (List.map (aI .i64) y1_2))),(3,(Lf (y1_3.map Xo))),(4,(AV.ptr 0 0 0)),(8,(AV.ptr 1 0 0)),(11,(AV.ptr 2 0 0)),(13,(slE X8p.1 3 (Xas.map Xu))),(14,(aI .i64 Xrm)),(15,(AV.ptr 4 0 0))],hp ([(0,Ob [(Xy false Xfw)] 10),(1,Ob [(Xj true Xrl)] 9),(2,Ob [(Xj true Xrk)] 9),(4,Ob [(Xj true Xgz)] 9)]++opE X8p.1 3 5 (Xas.map Xu)),5⟩ μ),
  X3 Tryz.prog 70 0 Q (.loop (X4y 1 (Xb Tryz.f21))) [] ⟨fr [(2,(Lf (List.map (aI .i64) y1_2))),(3,(Lf (y1_3.map Xo))),(4,(AV.ptr 0 0 0)),(8,(AV.ptr 1 0 0)),(11,(AV.ptr 2 0 0)),(13,(slE Xdv.1 3 (Xih.map Xu))),(14,(aI .i64 Xrm)),(15,(AV.ptr 4 0 0)),(17,(aI .i64 Xl4))],hp ([(0,Ob [(Xy false Xfw)] 10),(1,Ob [(Xj true Xrl)] 9),(2,Ob [(Xj true Xrk)] 9),(4,Ob [(Xj true Xgz)] 9)]++opE Xdv.1 3 5 (Xih.map Xu)),5⟩ μ:=by
 intro n
 induction n with
 |zero=>intro Xih Xl4 Xdv o h C0;cases h
 |succ n ih =>
  intro Xih Xl4 Xdv o h C0
  rw[X7s] at h
  rcases Xdv with ⟨_|_,Xwl⟩
  ·
   refine X3.round ?_
   revert h
   refine brI (fun h165=>?_) fun h165=>fun e=>Xa [.el (aI .i64 (Xgz.Pending.length:Int)),Bf] (k:=wkT [] (C0 _  nbF (oj e).symm))
   refine bI fun e166 h167=>?_
   try have qh167:=Xq h167
   refine bI fun u168 h169=>rnI [.el (aI .i64 (Xgz.Pending.length:Int)),Bt,.el (X01 e166),.no,.wrap] (o:=by repeat' first|apply Ya|exact pcM|(refine X1o h169 rfl ?_;first|(simp;done)|(simp;omega)|(simp[h165];done)|(simp[h165];omega))|(refine X0d h169 (by decide) ?_;first|(simp;done)|(simp;omega)|(simp[h165];done)|(simp[h165];omega))|exact X04) ?_
   intro h
   exact wkT [(3,6)] (ih  _ _ nbF o h C0)
  obtain rfl:=Xwl rfl
  refine X3.round ?_
  revert h
  refine brI (fun h170=>?_) fun h170=>fun e=>Xa [.el (aI .i64 (Xgz.Pending.length:Int)),Bf] (k:=wkT [] (C0 _  nbS (oj e).symm))
  refine bI fun e171 h172=>?_
  try have qh172:=Xq h172
  refine bI fun u173 h174=>rnI [.el (aI .i64 (Xgz.Pending.length:Int)),Bt,.el (X01 e171),.no,.wrap] (o:=by repeat' first|apply Ya|exact pcM|(refine X1o h174 rfl ?_;first|(simp;done)|(simp;omega)|(simp[h170];done)|(simp[h170];omega))|(refine X0d h174 (by decide) ?_;first|(simp;done)|(simp;omega)|(simp[h170];done)|(simp[h170];omega))|exact X04) ?_
  intro h
  exact wkT [(3,6)] (ih  _ _ nbF o h C0)
theorem Xex {Q:Xv->St->Mu->Prop} {μ:Mu} (Xh3:(List Int)) (X8s:(List Xg)) (Xn:X07) (Xk:X00) (hl:X8s.length<=140737488355328):∀ (xs:List Xg) (k:Nat) (hx:X8s.drop k=xs) (Xbe:X00) (X0h:(List X1n)) (X27:Nb X0h) (o:X61) (h:X5v Xh3 X8s Xn Xk xs k Xbe X0h=some o)
  (C0:∀ (X0l:X00) (X9y:(List X1n)) (Xci:Nb X9y),o=X61.x0 X0l X9y->X3 Tryz.prog 70 0 Q (.exit (.exit 0)) [] ⟨fr [(8,(AV.ptr 0 0 0)),(11,(AV.ptr 1 0 0)),(13,(slE Xci.1 2 (X9y.map Xu)))],hp ([(0,Ob [(Xj true Xk)] 9),(1,Ob [(Xj true X0l)] 9)]++opE Xci.1 2 5 (X9y.map Xu)),3⟩ μ)
  (C1:∀ (X4z:(List X1n)) (X4p:Nb X4z),o=X61.x1 X4z->X3 Tryz.prog 70 0 Q (.exit .ret) [] ⟨fr [(8,(AV.ptr 0 0 0)),(9,(slE X4p.1 1 (X4z.map Xu))),(10,(aB false))],hp ([(0,Ob [(Xj true (X00.mk (GOp.mk 0 0) 0 ([]:List X0g) ([]:List Int) ([]:List X2) ([]:List X0e) ([]:List X1n) ([]:List Xe)))] 9)]++opE X4p.1 1 5 (X4z.map Xu)),2⟩ μ),
  X3 Tryz.prog 70 0 Q (.loop (X4y 0 (Xb Tryz.f21))) [] ⟨fr [(2,(Lf (List.map (aI .i64) Xh3))),(3,(Lf (X8s.map Xo))),(4,(AV.ptr 0 0 0)),(8,(AV.ptr 1 0 0)),(11,(AV.ptr 2 0 0)),(13,(slE X27.1 3 (X0h.map Xu))),(14,(aI .i64 (k:Int)))],hp ([(0,Ob [(Xy false Xn)] 10),(1,Ob [(Xj true Xk)] 9),(2,Ob [(Xj true Xbe)] 9)]++opE X27.1 3 5 (X0h.map Xu)),4⟩ μ:=by
 intro xs
 induction xs with
 |nil =>
  intro k hx Xbe X0h X27 o h C0 C1
  have hk:=X1h hx
  have hc:decide ((k:Int)<(X8s.length:Int))=false:=Yf (by omega)
  rw[X5v] at h
  rcases X27 with ⟨_|_,X6z⟩
  ·
   refine X3.round ?_
   revert h
   exact fun e=>Xa [.el (aI .i64 (X8s.length:Int)),Bf] (k:=wkT [(0,1),(1,2),(2,3)] (C0 _ _  nbF (oj e).symm))
  ·
   obtain rfl:=X6z rfl
   refine X3.round ?_
   revert h
   exact fun e=>Xa [.el (aI .i64 (X8s.length:Int)),Bf] (k:=wkT [(0,1),(1,2)] (C0 _ _  nbS (oj e).symm))
 |cons x xs ih =>
  intro k hx Xbe X0h X27 o h C0 C1
  obtain⟨hk,hg,hx1⟩:=X0w hx
  have hc:decide ((k:Int)<(X8s.length:Int))=true:=Yt (by omega)
  rw[X5v] at h
  rcases X27 with ⟨_|_,X6z⟩
  ·
   refine X3.round ?_
   revert h
   refine bI fun e139 h140=>?_
   try have qh140:=Xq h140
   refine bI fun v141 h142=>rnI [.el (aI .i64 (X8s.length:Int)),Bt,.el (aI .i64 e139),.el (Xo x),.pure _ (AV.tup [(Xj true v141.1),(aI .i64 v141.2)])] ?_
   refine brI (fun h143=>?_) fun h143=>?_
   ·
    refine fun e=>X09 [Bt] ?_
    refine X3.denil 1 [AV.agg [(aI .u8 0),(aI .i64 0),(aI .i64 0),(AV.list true (List.map X01 ([]:List X0g))),(AV.list true (List.map (aI .i64) ([]:List Int))),(AV.list true (List.map X1 ([]:List X2))),(AV.list true (List.map X06 ([]:List X0e))),(AV.list true (List.map Xu ([]:List X1n))),(AV.list true (List.map Xx ([]:List Xe)))]] rfl rfl ?_
    exact wkT [(0,1)] (C1 _  nbS (oj e).symm)
   refine bI fun o175 h176=>rnI [Bf] ?_
   intro h
   refine wkT [(4,18)] (X3.cut (Xal Xh3 X8s Xn Xk Xbe (k:Int) v141.1 _ _ _ nbF _ h176 ?_))
   intro Xas X8p eo175;subst eo175
   refine X3.glue ?_
   try dsimp only at h
   rcases X8p with ⟨_|_,Xf3⟩
   ·
    refine X09 [] ?_
    refine X3.denil 2 [AV.agg [(aI .u8 v141.1.Op.Kind),(aI .i64 v141.1.Op.N),(aI .i64 v141.1.Turn),(AV.list true (List.map X01 ([]:List X0g))),(AV.list true (List.map (aI .i64) v141.1.Marks)),(AV.list true (v141.1.Store.map X1)),(AV.list true (v141.1.Events.map X06)),(AV.list true (v141.1.Rows.map Xu)),(AV.list true (v141.1.Late.map Xx))]] rfl rfl ?_
    refine X3.denil 4 [AV.agg [(aI .u8 v141.1.Op.Kind),(aI .i64 v141.1.Op.N),(aI .i64 v141.1.Turn),(AV.list true (List.map X01 ([]:List X0g))),(AV.list true (List.map (aI .i64) v141.1.Marks)),(AV.list true (v141.1.Store.map X1)),(AV.list true (v141.1.Events.map X06)),(AV.list true (v141.1.Rows.map Xu)),(AV.list true (v141.1.Late.map Xx))]] rfl rfl ?_
    exact wkT [] (ih (k+1) hx1 _ _ nbF o h C0 C1)
   obtain rfl:=Xf3 rfl
   refine X09 [] ?_
   refine X3.denil 2 [AV.agg [(aI .u8 v141.1.Op.Kind),(aI .i64 v141.1.Op.N),(aI .i64 v141.1.Turn),(AV.list true (List.map X01 ([]:List X0g))),(AV.list true (List.map (aI .i64) v141.1.Marks)),(AV.list true (v141.1.Store.map X1)),(AV.list true (v141.1.Events.map X06)),(AV.list true (v141.1.Rows.map Xu)),(AV.list true (v141.1.Late.map Xx))]] rfl rfl ?_
   refine X3.denil 4 [AV.agg [(aI .u8 v141.1.Op.Kind),(aI .i64 v141.1.Op.N),(aI .i64 v141.1.Turn),(AV.list true (List.map X01 ([]:List X0g))),(AV.list true (List.map (aI .i64) v141.1.Marks)),(AV.list true (v141.1.Store.map X1)),(AV.list true (v141.1.Events.map X06)),(AV.list true (v141.1.Rows.map Xu)),(AV.list true (v141.1.Late.map Xx))]] rfl rfl ?_
   exact wkT [] (ih (k+1) hx1 _ _ nbS o h C0 C1)
  obtain rfl:=X6z rfl
  refine X3.round ?_
  revert h
  refine bI fun e177 h178=>?_
  try have qh178:=Xq h178
  refine bI fun v179 h180=>rnI [.el (aI .i64 (X8s.length:Int)),Bt,.el (aI .i64 e177),.el (Xo x),.pure _ (AV.tup [(Xj true v179.1),(aI .i64 v179.2)])] ?_
  refine brI (fun h181=>?_) fun h181=>?_
  ·
   refine fun e=>X09 [Bt] ?_
   refine X3.denil 1 [AV.agg [(aI .u8 0),(aI .i64 0),(aI .i64 0),(AV.list true (List.map X01 ([]:List X0g))),(AV.list true (List.map (aI .i64) ([]:List Int))),(AV.list true (List.map X1 ([]:List X2))),(AV.list true (List.map X06 ([]:List X0e))),(AV.list true (List.map Xu ([]:List X1n))),(AV.list true (List.map Xx ([]:List Xe)))]] rfl rfl ?_
   exact wkT [(0,1)] (C1 _  nbS (oj e).symm)
  refine bI fun o203 h204=>rnI [Bf] ?_
  intro h
  refine wkT [(4,18)] (X3.cut (Xal Xh3 X8s Xn Xk Xbe (k:Int) v179.1 _ _ _ nbS _ h204 ?_))
  intro Xas X8p eo203;subst eo203
  refine X3.glue ?_
  try dsimp only at h
  rcases X8p with ⟨_|_,Xf3⟩
  ·
   refine X09 [] ?_
   refine X3.denil 2 [AV.agg [(aI .u8 v179.1.Op.Kind),(aI .i64 v179.1.Op.N),(aI .i64 v179.1.Turn),(AV.list true (List.map X01 ([]:List X0g))),(AV.list true (List.map (aI .i64) v179.1.Marks)),(AV.list true (v179.1.Store.map X1)),(AV.list true (v179.1.Events.map X06)),(AV.list true (v179.1.Rows.map Xu)),(AV.list true (v179.1.Late.map Xx))]] rfl rfl ?_
   refine X3.denil 4 [AV.agg [(aI .u8 v179.1.Op.Kind),(aI .i64 v179.1.Op.N),(aI .i64 v179.1.Turn),(AV.list true (List.map X01 ([]:List X0g))),(AV.list true (List.map (aI .i64) v179.1.Marks)),(AV.list true (v179.1.Store.map X1)),(AV.list true (v179.1.Events.map X06)),(AV.list true (v179.1.Rows.map Xu)),(AV.list true (v179.1.Late.map Xx))]] rfl rfl ?_
   exact wkT [] (ih (k+1) hx1 _ _ nbF o h C0 C1)
  obtain rfl:=Xf3 rfl
  refine X09 [] ?_
  refine X3.denil 2 [AV.agg [(aI .u8 v179.1.Op.Kind),(aI .i64 v179.1.Op.N),(aI .i64 v179.1.Turn),(AV.list true (List.map X01 ([]:List X0g))),(AV.list true (List.map (aI .i64) v179.1.Marks)),(AV.list true (v179.1.Store.map X1)),(AV.list true (v179.1.Events.map X06)),(AV.list true (v179.1.Rows.map Xu)),(AV.list true (v179.1.Late.map Xx))]] rfl rfl ?_
  refine X3.denil 4 [AV.agg [(aI .u8 v179.1.Op.Kind),(aI .i64 v179.1.Op.N),(aI .i64 v179.1.Turn),(AV.list true (List.map X01 ([]:List X0g))),(AV.list true (List.map (aI .i64) v179.1.Marks)),(AV.list true (v179.1.Store.map X1)),(AV.list true (v179.1.Events.map X06)),(AV.list true (v179.1.Rows.map Xu)),(AV.list true (v179.1.Late.map Xx))]] rfl rfl ?_
  exact wkT [] (ih (k+1) hx1 _ _ nbS o h C0 C1)
instance Xuz:PCs Tryz.prog 21 (∀ (a0:X07) (a1:Int) (a2:(List Int)) (a3:(List Xg)) (r:X00×(List X1n)×Bool),Xdb a0 a1 a2 a3=some r->X0j Tryz.prog 21 [(Xy false a0),(aI .i64 a1),(Lf (List.map (aI .i64) a2)),(Lf (a3.map Xo))] (AV.tup [(Xj true r.1),(AV.list true (r.2.1.map Xu)),(aB r.2.2)])):=⟨fun a0 a1 a2 a3 r h=>by
 refine X0j.sym X5 fn21 (nt:=70) rfl rfl ?_ okM
 unfold Xdb at h
 revert h
 refine bI fun v1 h2=>brI (fun h3=>fun e=>oj e▸Xa [.pure _ (AV.tup [(Xj true v1.1),(aI .i64 v1.2)]),Bt] (k:=fi)) fun h3=>bI fun u4 h5=>?_
 have qh5:=X12 h5
 refine rnI [.pure _ (AV.tup [(Xj true v1.1),(aI .i64 v1.2)]),Bf] ?_
 intro h
 refine X3.denil 1 [AV.agg [(aI .u8 0),(aI .i64 0),(aI .i64 0),(AV.list true (List.map X01 ([]:List X0g))),(AV.list true (List.map (aI .i64) ([]:List Int))),(AV.list true (List.map X1 ([]:List X2))),(AV.list true (List.map X06 ([]:List X0e))),(AV.list true (List.map Xu ([]:List X1n))),(AV.list true (List.map Xx ([]:List Xe)))]] rfl rfl ?_
 revert h
 refine bI fun o205 h206=>rnI [] ?_
 intro h
 refine wkT [] (X3.cut (Xex a2 a3 a0 (X00.mk (GOp.mk 0 0) 0 ([]:List X0g) ([]:List Int) ([]:List X2) ([]:List X0e) ([]:List X1n) ([]:List Xe)) qh5 a3 0 (by simp) _ _ nbS _ h206 ?_ ?_))
 ·
  intro X0l X9y Xci eo205;subst eo205
  refine X3.glue ?_
  try dsimp only at h
  rcases Xci with ⟨_|_,Xqn⟩
  ·
   revert h
   exact fun e=>oj e▸Xa [] (k:=fi)
  obtain rfl:=Xqn rfl
  revert h
  exact fun e=>oj e▸Xa [] (k:=fi)
 intro X4z X4p eo205;subst eo205
 refine X3.glue ?_
 try dsimp only at h
 rcases X4p with ⟨_|_,Xam⟩
 ·
  revert h
  exact fun e=>oj e▸Xa [] (k:=fi)
 obtain rfl:=Xam rfl
 revert h
 exact fun e=>oj e▸Xa [] (k:=fi)⟩
instance Xxi:PCs Tryz.prog 52 (∀ (a0:Int) (a1:Int) (a2:Int) (r:X1n),Xhr a0 a1 a2=some r->X0j Tryz.prog 52 [(aI .i64 a0),(aI .i64 a1),(aI .i64 a2)] (Xu r)):=⟨fun a0 a1 a2 r h=>by
 refine X0j.sym X5 fn52 (nt:=15) rfl rfl ?_ okM
 unfold Xhr at h
 revert h
 exact fun e=>oj e▸Xa [.wrap] (k:=fi)⟩
end Go.Av.Tryz