/- Printed by decomp.py: that the program computes the functions. -/
import Derived.Test.YtkjlgmgfhgamlaaGreatDCert7Z
import Derived.Test.YtkjlgmgfhgamlaaGreatDCert8Z
set_option linter.all false

namespace Go.Av.Tryz
open Go.Proofs Go.D
set_option maxRecDepth 10000
set_option maxHeartbeats 40000000
instance Xum:PCs Tryz.prog 29 (∀ (a0:Int) (a1:X11) (r:Int×Int),X7v a0 a1=some r->X0i Tryz.prog 29 [(aI .u8 a0),(X0q a1)] (AV.tup [(aI .i64 r.1),(aI .i64 r.2)])):=⟨λa0 a1 r h=>by
 refine X0i.sym X3 fn29 (nt:=34) rfl rfl ?_ okM;unfold X7v at h;revert h;refine brI (λh1=>λe=>oj e▸X7 [Bt] (k:=fi)) λh1=>bI λv2 h3=>brI (λh4=>λe=>oj e▸X7 [Bf,.pure _ (aI .i64 v2),Bt] (k:=fi)) λh4=>brI (λh5=>λe=>oj e▸X7 [Bf,.pure _ (aI .i64 v2),Bf,Bt] (k:=fi)) λh5=>bI λXzn h17=>rnI [Bf,.pure _ (aI .i64 v2),Bf,Bf,.stop 9] ?_;intro h;refine X2.join (s':=⟨fr [(4,(aI .i64 Xzn)),(5,(aI .i64 0))],hp ([]),0⟩) ?_ (λJ=>X2.cut ?_)
 ·
  revert h;exact λe=>oj e▸X7 [] (k:=fi)
 clear h;revert h17;refine brI (λh12=>?_) λh12=>?_
 ·
  intro h;obtain rfl:=oj h;exact X7 [.ix 0] (o:=by repeat' first|apply Ya|exact pcM|exact((eq_of_beq h12))|exact Xz) (k:=wkT [] (X2.glue J))
 refine brI (λh13=>?_) λh13=>?_
 ·
  intro h;obtain rfl:a0=1:=eq_of_beq h13;obtain rfl:=oj h;exact X7 [.ix 1] (k:=wkT [] (X2.glue J))
 refine brI (λh14=>?_) λh14=>?_
 ·
  intro h;obtain rfl:a0=2:=eq_of_beq h14;obtain rfl:=oj h;exact X7 [.ix 2] (k:=wkT [] (X2.glue J))
 refine brI (λh15=>?_) λh15=>?_
 ·
  intro h;obtain rfl:a0=3:=eq_of_beq h15;obtain rfl:=oj h;exact X7 [.ix 3] (k:=wkT [] (X2.glue J))
 refine brI (λh16=>?_) λh16=>?_
 ·
  intro h;obtain rfl:a0=4:=eq_of_beq h16;obtain rfl:=oj h;exact X7 [.ix 4] (k:=wkT [] (X2.glue J))
 intro h;cases h⟩
theorem Xfm {Q:Xx->St->Mu->Prop}  {rb rD:Nat} {rr:Loop} (rh1:rr.state=.ready) (rh2:rr.pending=none) (rh3:rr.params=(rfB 0 (Xa Tryz.f28)).1) (rh4:rr.assign=(rfB 0 (Xa Tryz.f28)).2.1) (rh5:rr.body=(rfB 0 (Xa Tryz.f28)).2.2) (Xi:Xp) (X0c:Xp) (Xqc:X08) (Xhb:(List X1)) (hl:Xhb.length<=140737488355328):∀ (xs:List X1) (k:Nat) (hx:Xhb.drop k=xs) (Xha:(List X0a)) (Xcp:Nb Xha) (o:X86) (h:X21 Xi X0c Xqc Xhb xs k Xha=some o)
  (C0:∀ (Xbn:(List X0a)) (Xco:Nb Xbn),o=X86.x0 Xbn->X2 Tryz.prog 34 8 Q (.exit (.exit 0)) [] ⟨fr [],hp ([(1,Ob [(X9 false Xi)] 9),(3,Ob [(X9 true X0c)] 9),(4,Ob [(slE Xco.1 8 (Xbn.map Xw))] 1),(5,Ob [(AV.fn 66 [(AV.ptr 4 0 0)])] 1),(6,Ob [(X06 false Xqc)] 10),(7,Ob [(Lt (Xhb.map X0))] 1)]++opE Xco.1 8 11 (Xbn.map Xw)),9⟩ [(rb,MuE.loop rr 141 8 (fr [(5,(AV.ptr 1 0 0)),(8,(AV.ptr 3 0 0)),(21,(AV.ptr 4 0 0)),(22,(AV.ptr 5 0 0)),(131,(AV.fn 105 [(AV.ptr 7 0 0),(AV.ptr 6 0 0)]))])),(rD,MuE.blk (Go.Obj.deferred (some [])))]),
  X2 Tryz.prog 34 8 Q (.loop (X48 0 (Xa Tryz.f105))) [] ⟨fr [(0,(AV.sc (.func (.yield rb) #[] #[]))),(2,(AV.ptr 6 0 0)),(8,(Lt (Xhb.map X0))),(9,(aI .i64 (Xhb.length:Int))),(10,(aI .i64 (k:Int)))],hp ([(1,Ob [(X9 false Xi)] 9),(3,Ob [(X9 true X0c)] 9),(4,Ob [(slE Xcp.1 8 (Xha.map Xw))] 1),(5,Ob [(AV.fn 66 [(AV.ptr 4 0 0)])] 1),(6,Ob [(X06 false Xqc)] 10),(7,Ob [(Lt (Xhb.map X0))] 1)]++opE Xcp.1 8 11 (Xha.map Xw)),9⟩ [(rb,MuE.loop rr 141 8 (fr [(5,(AV.ptr 1 0 0)),(8,(AV.ptr 3 0 0)),(21,(AV.ptr 4 0 0)),(22,(AV.ptr 5 0 0)),(131,(AV.fn 105 [(AV.ptr 7 0 0),(AV.ptr 6 0 0)]))])),(rD,MuE.blk (Go.Obj.deferred (some [])))]:=by
 intro xs
 induction xs with
 |nil =>
  intro k hx Xha Xcp o h C0;have hk:=drop_nil hx;have hc:decide ((k:Int)<(Xhb.length:Int))=false:=Yf om;rw[X21] at h;rcases Xcp with ⟨_|_,Xl5⟩
  ·
   refine X2.round ?_;revert h;exact λe=>X7 [Bf] (k:=wkT [] (C0 _  nbF (oj e).symm))
  ·
   obtain rfl:=Xl5 rfl;refine X2.round ?_;revert h;exact λe=>X7 [Bf] (k:=wkT [] (C0 _  nbS (oj e).symm))
 |cons x xs ih =>
  intro k hx Xha Xcp o h C0;obtain⟨hk,hg,hx1⟩:=X12 hx;have hc:decide ((k:Int)<(Xhb.length:Int))=true:=Yt om;rw[X21] at h;rcases Xcp with ⟨_|_,Xl5⟩<;>(try obtain rfl:=Xl5 rfl);all_goals
   refine X2.round ?_;revert h;refine bI λv76 h77=>rnI [Bt,.el (X0 x),.ix 0,.pure _ (AV.tup [(aI .i64 v76.1),(aI .i64 v76.2)])] ?_;intro h;refine X2.yield rfl rfl rfl rfl rfl trivial trivial (.head _) rh1 rh2 rh3 rh4 rh5 rfl rfl ?_;refine X0e [] ?_;refine X2.asg ?_;refine X0e [] ?_;refine X2.inline X3 fn66 rfl rfl rfl rfl rfl trivial trivial rfl rfl ?_;revert h;refine bI λu84 h85=>rnI [.no] (o:=by repeat' first|apply Ya|exact pcM|(refine X02 h85 rfl ?_;first|(simp<;>omega)|(simp[hc]<;>omega))|(refine Xk h85 (by decide) ?_;first|(simp<;>omega)|(simp[hc]<;>omega))|exact Xz) ?_;intro h;refine X2.back (by intro id h;cases h) rfl ?_;refine X0e [] ?_;refine X2.rndEnd ?_;exact X7 [Bf] (k:=wkT [(8,13)] (ih (k+1) hx1 _ nbF o h C0))
def Xhf:AV->AV
 |.list true es=>.list false es
 |a=>a
def Xdp:AV->AV
 |.agg cs=>.agg (cs.map Xhf)
 |a=>Xhf a
theorem Xhe (e:AV):(Xdp e).cells=e.cells.map Xhf:=by
 cases e<;>try rfl
 rename_i own es;cases own<;>rfl
theorem Xqd {c:Ctx} {d:Bool} {a:AV} {v:Value} (h:X0z c d a v):X0z c d (Xhf a) v:=by
 unfold Xhf;split
 ·cases h with
  |listNil=>exact .listNil
  |list vf hne hS hn hcap hsz hc h1 hr=>exact .list vf hne (.inr (hS.resolve_left λh=>by cases h.1)) hn hcap hsz hc h1 hr
 exact h
theorem Xs7 {M:Nat->Prop} {a:AV} (h:a.Ok M):(Xhf a).Ok M:=by
 unfold Xhf;split
 ·exact .list
 exact h
theorem Xs6 {c:Ctx} {p:Pl} {y:Obj} (h:Xn4 c p y):Xn4 c p { y with es:=y.es.map Xdp }:=by
 obtain⟨⟨cur,h1,h2,h3⟩,h4,h5,h6⟩:=h;refine⟨⟨cur,h1,h2,λi e he=>?_⟩,by simpa using h4,h5,h6⟩;simp only[List.getElem?_map,Option.map_eq_some_iff] at he;obtain⟨e0,he0,rfl⟩:=he;obtain⟨g1,g2⟩:=h3 i e0 he0;rw[Xhe];refine⟨by simpa using g1,λk a ha=>?_⟩;simp only[List.getElem?_map,Option.map_eq_some_iff] at ha;obtain⟨a0,ha0,rfl⟩:=ha;obtain⟨v,v1,v2,v3⟩:=g2 k a0 ha0;exact⟨v,v1,Xqd v2,v3⟩
theorem X2.unown {P:Program} {nt n0 n:Nat} {Q:Xx->St->Mu->Prop} {cf:Cf} {K:List Kn} {μ:Mu} {L:List (Nat×AV)} {G:List (Nat×Obj)} {y:Obj} (q:Nat) (es':List AV) (hy:hp G q=some y) (he:y.es.map Xdp=es')
  (h:X2 P nt n0 Q cf K ⟨fr L,hp ((q,{ y with es:=es' })::G),n⟩ μ):X2 P nt n0 Q cf K ⟨fr L,hp G,n⟩ μ:=by
 subst he;have hd:∀ o x',hp ((q,{ y with es:=y.es.map Xdp })::G) o=some x'->∃ x,hp G o=some x/\x'.esz=x.esz/\x'.solo=x.solo/\x'.spent=x.spent/\x'.es.length=x.es.length/\(x'=x\/(o=q/\x=y/\x'={ y with es:=y.es.map Xdp })):=by
  intro o x' hx;by_cases ho:o=q
  ·subst ho;rw[show hp ((o,{ y with es:=y.es.map Xdp })::G) o=some { y with es:=y.es.map Xdp } by simp[hp,Xf7 hy]] at hx;cases hx
   exact⟨y,hy,rfl,rfl,rfl,by simp,.inr ⟨rfl,rfl,rfl⟩⟩
  ·have:hp ((q,{ y with es:=y.es.map Xdp })::G) o=hp G o:=by
    have hb:Nat.beq o q=false:=by rw[<-Bool.not_eq_true,Nat.beq_eq];exact ho
    simp[hp,hb]
   rw[this] at hx;exact⟨x',hx,rfl,rfl,rfl,rfl,.inl rfl⟩
 refine X2.sub (s':=⟨fr L,hp ((q,{ y with es:=y.es.map Xdp })::G),n⟩) (λc0 H0 c act μ g hm=>⟨?_,?_⟩) h
 ·refine⟨⟨λo x' hx=>?_,λo o' x1 x2 h1 h2 hne hb=>?_,λo x' hx=>?_,g.inv.lt,g.inv.base,g.inv.own,λo x' hx=>?_⟩,λo x' hx=>?_,g.frame,g.ok,g.size,?_,g.le0⟩
  ·obtain⟨x,hx0,_,_,_,_,hc⟩:=hd o x' hx;obtain⟨i1,i2,i3⟩:=g.inv.obj o x hx0;rcases hc with rfl|⟨rfl,rfl,rfl⟩
   ·exact⟨i1,i2,i3⟩
   refine⟨i1,Xs6 i2,λe he a ha=>?_⟩;obtain⟨e0,he0,rfl⟩:=List.mem_map.1 he;rw[Xhe] at ha;obtain⟨a0,ha0,rfl⟩:=List.mem_map.1 ha;exact Xs7 (i3 e0 he0 a0 ha0)
  ·obtain⟨y1,hy1,e1,s1,p1,l1,_⟩:=hd o x1 h1;obtain⟨y2,hy2,e2,s2,p2,l2,_⟩:=hd o' x2 h2;have:=g.inv.sep o o' y1 y2 hy1 hy2 hne hb;rw[s1,p1,p2,l1,l2,e1,e2];exact this
  ·obtain⟨x,hx0,_⟩:=hd o x' hx;exact g.inv.stab o x hx0
  ·obtain⟨x,hx0,_⟩:=hd o x' hx;exact g.inv.low o x hx0
  ·obtain⟨x,hx0,_,s1,p1,_⟩:=hd o x' hx;rw[s1,p1];exact g.solo o x hx0
  ·have r:=g.reach;exact⟨r.rho,r.os,r.tape,r.output,r.size,r.block,r.stable,r.sa,r.so1,r.so2,r.B,λo x' hx=>by obtain⟨x,hx0,_⟩:=hd o x' hx;exact r.own o x hx0⟩
 ·exact⟨hm.is,λp hp=>by
   obtain⟨a1,a2,a3,a4⟩:=hm.away p hp;exact⟨a1,a2,λo x' hx=>by obtain⟨x,hx0,_⟩:=hd o x' hx;exact a3 o x hx0,a4⟩,hm.nodup,hm.ds⟩
instance X00j:PCs Tryz.prog 28 (∀ (a0:X08) (a1:Xp) (a2:Int) (a3:Xd) (r:Xp×Int),X6y a0 a1 a2 a3=some r->X0i Tryz.prog 28 [(X06 false a0),(X9 false a1),(aI .i64 a2),(Xl a3)] (AV.tup [(X9 true r.1),(aI .i64 r.2)])):=⟨λa0 a1 a2 a3 r h=>by
 refine X0i.sym X3 fn28 (nt:=141) rfl rfl ?_ okM;unfold X6y at h;revert h;refine bI λv1 h2=>brI (λh3=>λe=>oj e▸X7 [.pure _ (aB v1),Bt] (k:=fi)) λh3=>bI λv4 h5=>brI (λh6=>λe=>oj e▸X7 [.pure _ (aB v1),Bf,.pure _ (aI .i64 v4),Bt] (k:=fi)) λh6=>bI λXz4 h12=>rnI [.pure _ (aB v1),Bf,.pure _ (aI .i64 v4),Bf,.stop 6] ?_;intro h;refine X2.join (s':=⟨fr [(2,(aI .i64 a2)),(4,(AV.ptr 0 0 0)),(5,(AV.ptr 1 0 0)),(7,(AV.ptr 2 0 0)),(8,(AV.ptr 3 0 0)),(34,(aB Xz4))],hp ([(0,Ob [(X06 false a0)] 10),(1,Ob [(X9 false a1)] 9),(2,Ob [(Xl a3)] 10),(3,Ob [(X9 true (Xp.mk (GOp.mk 0 0) 0 ([]:List X0a) ([]:List Int) ([]:List X1) ([]:List X0h) ([]:List X19) ([]:List X8)))] 9)]),4⟩) ?_ (λJ=>X2.cut ?_)
 ·
  revert h;refine brI (λh13=>λe=>oj e▸X7 [Bt] (k:=fi)) λh13=>bI λv14 h15=>brI (λh16=>λe=>oj e▸X7 [Bf,.pure _ (aI .i64 v14),Bt] (k:=fi)) λh16=>brI (λh17=>λe=>oj e▸X7 [Bf,.pure _ (aI .i64 v14),Bf,.el (aI .i64 (a1.Pending.length:Int)),Bt] (k:=fi)) λh17=>?_;refine brI (λh18=>?_) λh18=>?_
  ·
   refine bI λv19 h20=>rnI [Bf,.pure _ (aI .i64 v14),Bf,.el (aI .i64 (a1.Pending.length:Int)),Bf,Bt,.pure _ (AV.tup [(Lt (v19.1.map X0)),(aI .i64 v19.2)])] ?_;exact brI (λh21=>λe=>oj e▸X7 [Bt] (k:=fi)) λh21=>bI λv22 h23=>λe=>oj e▸X7 [Bf,.pure _ (AV.tup [(X9 true v22.1),(aI .i64 v22.2)])] (k:=fi)
  refine bI λv24 h25=>rnI [Bf,.pure _ (aI .i64 v14),Bf,.el (aI .i64 (a1.Pending.length:Int)),Bf,Bf,.pure _ (AV.tup [(Lt (List.map (aI .i64) v24.1)),(aB v24.2.1),(aI .i64 v24.2.2)])] ?_;refine brI (λh26=>bI λv27 h28=>λe=>oj e▸X7 [Bt,.pure _ (AV.tup [(X9 true v27.1),(aI .i64 v27.2)])] (k:=fi)) λh26=>bI λv29 h30=>bI λv31 h32=>rnI [Bf,.pure _ (AV.tup [(aI .i64 v29.1),(aI .i64 v29.2)]),.pure _ (AV.tup [(Lt (v31.1.map X0)),(Lt (v31.2.1.map X0)),(aI .i64 v31.2.2)])] ?_;intro h;refine X2.inline X3 fn67 rfl rfl rfl rfl rfl trivial trivial rfl rfl ?_;refine X0e [] ?_;refine X2.back (by intro id h;cases h) rfl ?_;refine X0e [] ?_;refine X2.unown 1 [AV.agg [(aI .u8 a1.Op.Kind),(aI .i64 a1.Op.N),(aI .i64 a1.Turn),(Lf (a1.Pending.map Xw)),(Lf (List.map (aI .i64) v24.1)),(Lf (v31.2.1.map X0)),(Lf (a1.Events.map X00)),(Lf (a1.Rows.map Xt)),(Lf (a1.Late.map Xm))]] rfl rfl ?_;refine X2.keepL [5,8,21,22,131] ?_;refine X2.rangeFunc rfl trivial X04r rfl rfl rfl ?_;intro rb rD rr rh1 rh2 rh3 rh4 rh5;revert h;refine bI λu33 h34=>?_;have qh34:=X13 h34;refine bI λo96 h97=>rnI [.el (aI .i64 (v31.1.length:Int))] ?_;intro h;refine wkT [] (X2.cut (Xfm rh1 rh2 rh3 rh4 rh5 (Xp.mk a1.Op a1.Turn a1.Pending v24.1 v31.2.1 a1.Events a1.Rows a1.Late) (Xp.mk ((Xp.mk (GOp.mk 0 0) 0 ([]:List X0a) ([]:List Int) ([]:List X1) ([]:List X0h) ([]:List X19) ([]:List X8)).Op) ((Xp.mk (GOp.mk 0 0) 0 ([]:List X0a) ([]:List Int) ([]:List X1) ([]:List X0h) ([]:List X19) ([]:List X8)).Turn) ((Xp.mk (GOp.mk 0 0) 0 ([]:List X0a) ([]:List Int) ([]:List X1) ([]:List X0h) ([]:List X19) ([]:List X8)).Pending) ((Xp.mk (GOp.mk 0 0) 0 ([]:List X0a) ([]:List Int) ([]:List X1) ([]:List X0h) ([]:List X19) ([]:List X8)).Marks) ((Xp.mk (GOp.mk 0 0) 0 ([]:List X0a) ([]:List Int) ([]:List X1) ([]:List X0h) ([]:List X19) ([]:List X8)).Store) ((Xp.mk (GOp.mk 0 0) 0 ([]:List X0a) ([]:List Int) ([]:List X1) ([]:List X0h) ([]:List X19) ([]:List X8)).Events) ((Xp.mk (GOp.mk 0 0) 0 ([]:List X0a) ([]:List Int) ([]:List X1) ([]:List X0h) ([]:List X19) ([]:List X8)).Rows) ((Xp.mk (GOp.mk 0 0) 0 ([]:List X0a) ([]:List Int) ([]:List X1) ([]:List X0h) ([]:List X19) ([]:List X8)).Late)) a0 v31.1 qh34 v31.1 0 (by simp) _ nbS _ h97 ?_));intro Xbn Xco eo96;subst eo96;refine X2.glue ?_;try dsimp only at h
  rcases Xco with ⟨_|_,Xr4⟩<;>(try obtain rfl:=Xr4 rfl);all_goals
   refine X0e [] ?_;refine X2.rfEnd (by intro id h;cases h) ?_;revert h;exact bI λv98 h99=>λe=>oj e▸X7 [.pure _ (AV.tup [(X9 true v98.1),(aI .i64 v98.2)])] (k:=fi)
 clear h;revert h12;refine brI (λh10=>?_) λh10=>?_
 ·
  intro h;obtain rfl:=oj h;refine X0e [Gf,Gf,Gf,Gf,Gf,Gf,Gf] (o:=by repeat' first|apply Ya|exact pcM|exact fq (Xg h10 rfl)|exact Xz) ?_;refine X2.denil 3 [AV.agg [(aI .u8 0),(aI .i64 0),(aI .i64 0),(Lt (List.map Xw ([]:List X0a))),(Lt (List.map (aI .i64) ([]:List Int))),(Lt (List.map X0 ([]:List X1))),(Lt (List.map X00 ([]:List X0h))),(Lt (List.map Xt ([]:List X19))),(Lt (List.map Xm ([]:List X8)))]] rfl rfl ?_;exact wkT [] (X2.glue J)
 refine brI (λh11=>?_) λh11=>?_
 ·
  intro h;obtain rfl:=oj h;refine X0e [Gt,Gt,Gf,Gf,Gf,Gf,Gf] (o:=by repeat' first|apply Ya|exact pcM|exact fq (Xr h10 h11)|exact Xz) ?_;refine X2.denil 3 [AV.agg [(aI .u8 0),(aI .i64 0),(aI .i64 0),(Lt (List.map Xw ([]:List X0a))),(Lt (List.map (aI .i64) ([]:List Int))),(Lt (List.map X0 ([]:List X1))),(Lt (List.map X00 ([]:List X0h))),(Lt (List.map Xt ([]:List X19))),(Lt (List.map Xm ([]:List X8)))]] rfl rfl ?_;exact wkT [] (X2.glue J)
 intro h;obtain rfl:=oj h;refine X0e [Gt,Gt,Gt,Gt,Gt,Gt,.el (aI .i64 (a1.Marks.length:Int)),Gt] (o:=by repeat' first|apply Ya|exact pcM|exact fq (Xr h10 h11)|exact Xz) ?_;refine X2.denil 3 [AV.agg [(aI .u8 0),(aI .i64 0),(aI .i64 0),(Lt (List.map Xw ([]:List X0a))),(Lt (List.map (aI .i64) ([]:List Int))),(Lt (List.map X0 ([]:List X1))),(Lt (List.map X00 ([]:List X0h))),(Lt (List.map Xt ([]:List X19))),(Lt (List.map Xm ([]:List X8)))]] rfl rfl ?_;exact wkT [] (X2.glue J)⟩
theorem Xan {Q:Xx->St->Mu->Prop} {μ:Mu} (y1_2:(List Int)) (y1_3:(List Xd)) (X8s:X08) (Xg6:Xp) (Xrz:Xp) (Xs0:Int) (Xh9:Xp):∀ (n:Nat) (Xiw:(List X19)) (Xlq:Int) (Xe0:Nb Xiw) (o:X84) (h:X3o y1_2 y1_3 X8s Xg6 Xrz Xs0 Xh9 n Xiw Xlq=some o)
  (C0:∀ (Xau:(List X19)) (X8n:Nb Xau),o=X84.x0 Xau->X2 Tryz.prog 70 0 Q (.exit (.exit 2)) [] ⟨fr [(2,(Lf (List.map (aI .i64) y1_2))),(3,(Lf (y1_3.map Xl))),(4,(AV.ptr 0 0 0)),(8,(AV.ptr 1 0 0)),(11,(AV.ptr 2 0 0)),(13,(slE X8n.1 3 (Xau.map Xt))),(14,(aI .i64 Xs0)),(15,(AV.ptr 4 0 0))],hp ([(0,Ob [(X06 false X8s)] 10),(1,Ob [(X9 true Xg6)] 9),(2,Ob [(X9 true Xrz)] 9),(4,Ob [(X9 true Xh9)] 9)]++opE X8n.1 3 5 (Xau.map Xt)),5⟩ μ),
  X2 Tryz.prog 70 0 Q (.loop (X48 1 (Xa Tryz.f21))) [] ⟨fr [(2,(Lf (List.map (aI .i64) y1_2))),(3,(Lf (y1_3.map Xl))),(4,(AV.ptr 0 0 0)),(8,(AV.ptr 1 0 0)),(11,(AV.ptr 2 0 0)),(13,(slE Xe0.1 3 (Xiw.map Xt))),(14,(aI .i64 Xs0)),(15,(AV.ptr 4 0 0)),(17,(aI .i64 Xlq))],hp ([(0,Ob [(X06 false X8s)] 10),(1,Ob [(X9 true Xg6)] 9),(2,Ob [(X9 true Xrz)] 9),(4,Ob [(X9 true Xh9)] 9)]++opE Xe0.1 3 5 (Xiw.map Xt)),5⟩ μ:=by
 intro n
 induction n with
 |zero=>intro Xiw Xlq Xe0 o h C0;cases h
 |succ n ih =>
  intro Xiw Xlq Xe0 o h C0;rw[X3o] at h;rcases Xe0 with ⟨_|_,Xx1⟩
  ·
   refine X2.round ?_;revert h;refine brI (λh165=>?_) λh165=>λe=>X7 [.el (aI .i64 (Xh9.Pending.length:Int)),Bf] (k:=wkT [] (C0 _  nbF (oj e).symm));refine bI λe166 h167=>?_;try have qh167:=Xo h167
   refine bI λu168 h169=>rnI [.el (aI .i64 (Xh9.Pending.length:Int)),Bt,.el (Xw e166),.no,.wrap] (o:=by repeat' first|apply Ya|exact pcM|(refine X02 h169 rfl ?_;first|(simp<;>omega)|(simp[h165]<;>omega))|(refine Xk h169 (by decide) ?_;first|(simp<;>omega)|(simp[h165]<;>omega))|exact Xz) ?_;intro h;exact wkT [(3,6)] (ih  _ _ nbF o h C0)
  obtain rfl:=Xx1 rfl;refine X2.round ?_;revert h;refine brI (λh170=>?_) λh170=>λe=>X7 [.el (aI .i64 (Xh9.Pending.length:Int)),Bf] (k:=wkT [] (C0 _  nbS (oj e).symm));refine bI λe171 h172=>?_;try have qh172:=Xo h172
  refine bI λu173 h174=>rnI [.el (aI .i64 (Xh9.Pending.length:Int)),Bt,.el (Xw e171),.no,.wrap] (o:=by repeat' first|apply Ya|exact pcM|(refine X02 h174 rfl ?_;first|(simp<;>omega)|(simp[h170]<;>omega))|(refine Xk h174 (by decide) ?_;first|(simp<;>omega)|(simp[h170]<;>omega))|exact Xz) ?_;intro h;exact wkT [(3,6)] (ih  _ _ nbF o h C0)
theorem Xf4 {Q:Xx->St->Mu->Prop} {μ:Mu} (Xjn:(List Int)) (Xd1:(List Xd)) (Xn:X08) (Xi:Xp) (hl:Xd1.length<=140737488355328):∀ (xs:List Xd) (k:Nat) (hx:Xd1.drop k=xs) (X6c:Xp) (X0c:(List X19)) (X0t:Nb X0c) (o:X5v) (h:X1g Xjn Xd1 Xn Xi xs k X6c X0c=some o)
  (C0:∀ (X09:Xp) (X35:(List X19)) (X59:Nb X35),o=X5v.x0 X09 X35->X2 Tryz.prog 70 0 Q (.exit (.exit 0)) [] ⟨fr [(8,(AV.ptr 0 0 0)),(11,(AV.ptr 1 0 0)),(13,(slE X59.1 2 (X35.map Xt)))],hp ([(0,Ob [(X9 true Xi)] 9),(1,Ob [(X9 true X09)] 9)]++opE X59.1 2 5 (X35.map Xt)),3⟩ μ)
  (C1:∀ (X4q:(List X19)) (X58:Nb X4q),o=X5v.x1 X4q->X2 Tryz.prog 70 0 Q (.exit .ret) [] ⟨fr [(8,(AV.ptr 0 0 0)),(9,(slE X58.1 1 (X4q.map Xt))),(10,(aB false))],hp ([(0,Ob [(X9 true (Xp.mk (GOp.mk 0 0) 0 ([]:List X0a) ([]:List Int) ([]:List X1) ([]:List X0h) ([]:List X19) ([]:List X8)))] 9)]++opE X58.1 1 5 (X4q.map Xt)),2⟩ μ),
  X2 Tryz.prog 70 0 Q (.loop (X48 0 (Xa Tryz.f21))) [] ⟨fr [(2,(Lf (List.map (aI .i64) Xjn))),(3,(Lf (Xd1.map Xl))),(4,(AV.ptr 0 0 0)),(8,(AV.ptr 1 0 0)),(11,(AV.ptr 2 0 0)),(13,(slE X0t.1 3 (X0c.map Xt))),(14,(aI .i64 (k:Int)))],hp ([(0,Ob [(X06 false Xn)] 10),(1,Ob [(X9 true Xi)] 9),(2,Ob [(X9 true X6c)] 9)]++opE X0t.1 3 5 (X0c.map Xt)),4⟩ μ:=by
 intro xs
 induction xs with
 |nil =>
  intro k hx X6c X0c X0t o h C0 C1;have hk:=drop_nil hx;have hc:decide ((k:Int)<(Xd1.length:Int))=false:=Yf om;rw[X1g] at h;rcases X0t with ⟨_|_,X2h⟩
  ·
   refine X2.round ?_;revert h;exact λe=>X7 [.el (aI .i64 (Xd1.length:Int)),Bf] (k:=wkT [(0,1),(1,2),(2,3)] (C0 _ _  nbF (oj e).symm))
  ·
   obtain rfl:=X2h rfl;refine X2.round ?_;revert h;exact λe=>X7 [.el (aI .i64 (Xd1.length:Int)),Bf] (k:=wkT [(0,1),(1,2)] (C0 _ _  nbS (oj e).symm))
 |cons x xs ih =>
  intro k hx X6c X0c X0t o h C0 C1;obtain⟨hk,hg,hx1⟩:=X12 hx;have hc:decide ((k:Int)<(Xd1.length:Int))=true:=Yt om;rw[X1g] at h;rcases X0t with ⟨_|_,X2h⟩
  ·
   refine X2.round ?_;revert h;refine bI λe139 h140=>?_;try have qh140:=Xo h140
   refine bI λv141 h142=>rnI [.el (aI .i64 (Xd1.length:Int)),Bt,.el (aI .i64 e139),.el (Xl x),.pure _ (AV.tup [(X9 true v141.1),(aI .i64 v141.2)])] ?_;refine brI (λh143=>?_) λh143=>?_
   ·
    refine λe=>X0e [Bt] ?_;refine X2.denil 1 [AV.agg [(aI .u8 0),(aI .i64 0),(aI .i64 0),(Lt (List.map Xw ([]:List X0a))),(Lt (List.map (aI .i64) ([]:List Int))),(Lt (List.map X0 ([]:List X1))),(Lt (List.map X00 ([]:List X0h))),(Lt (List.map Xt ([]:List X19))),(Lt (List.map Xm ([]:List X8)))]] rfl rfl ?_;exact wkT [(0,1)] (C1 _  nbS (oj e).symm)
   refine bI λo175 h176=>rnI [Bf] ?_;intro h;refine wkT [(4,18)] (X2.cut (Xan Xjn Xd1 Xn Xi X6c (k:Int) v141.1 _ _ _ nbF _ h176 ?_));intro Xau X8n eo175;subst eo175;refine X2.glue ?_;try dsimp only at h
   rcases X8n with ⟨_|_,Xf8⟩
   ·
    refine X0e [] ?_;refine X2.denil 2 [AV.agg [(aI .u8 v141.1.Op.Kind),(aI .i64 v141.1.Op.N),(aI .i64 v141.1.Turn),(Lt (List.map Xw ([]:List X0a))),(Lt (List.map (aI .i64) v141.1.Marks)),(Lt (v141.1.Store.map X0)),(Lt (v141.1.Events.map X00)),(Lt (v141.1.Rows.map Xt)),(Lt (v141.1.Late.map Xm))]] rfl rfl ?_;refine X2.denil 4 [AV.agg [(aI .u8 v141.1.Op.Kind),(aI .i64 v141.1.Op.N),(aI .i64 v141.1.Turn),(Lt (List.map Xw ([]:List X0a))),(Lt (List.map (aI .i64) v141.1.Marks)),(Lt (v141.1.Store.map X0)),(Lt (v141.1.Events.map X00)),(Lt (v141.1.Rows.map Xt)),(Lt (v141.1.Late.map Xm))]] rfl rfl ?_;exact wkT [] (ih (k+1) hx1 _ _ nbF o h C0 C1)
   obtain rfl:=Xf8 rfl;refine X0e [] ?_;refine X2.denil 2 [AV.agg [(aI .u8 v141.1.Op.Kind),(aI .i64 v141.1.Op.N),(aI .i64 v141.1.Turn),(Lt (List.map Xw ([]:List X0a))),(Lt (List.map (aI .i64) v141.1.Marks)),(Lt (v141.1.Store.map X0)),(Lt (v141.1.Events.map X00)),(Lt (v141.1.Rows.map Xt)),(Lt (v141.1.Late.map Xm))]] rfl rfl ?_;refine X2.denil 4 [AV.agg [(aI .u8 v141.1.Op.Kind),(aI .i64 v141.1.Op.N),(aI .i64 v141.1.Turn),(Lt (List.map Xw ([]:List X0a))),(Lt (List.map (aI .i64) v141.1.Marks)),(Lt (v141.1.Store.map X0)),(Lt (v141.1.Events.map X00)),(Lt (v141.1.Rows.map Xt)),(Lt (v141.1.Late.map Xm))]] rfl rfl ?_;exact wkT [] (ih (k+1) hx1 _ _ nbS o h C0 C1)
  obtain rfl:=X2h rfl;refine X2.round ?_;revert h;refine bI λe177 h178=>?_;try have qh178:=Xo h178
  refine bI λv179 h180=>rnI [.el (aI .i64 (Xd1.length:Int)),Bt,.el (aI .i64 e177),.el (Xl x),.pure _ (AV.tup [(X9 true v179.1),(aI .i64 v179.2)])] ?_;refine brI (λh181=>?_) λh181=>?_
  ·
   refine λe=>X0e [Bt] ?_;refine X2.denil 1 [AV.agg [(aI .u8 0),(aI .i64 0),(aI .i64 0),(Lt (List.map Xw ([]:List X0a))),(Lt (List.map (aI .i64) ([]:List Int))),(Lt (List.map X0 ([]:List X1))),(Lt (List.map X00 ([]:List X0h))),(Lt (List.map Xt ([]:List X19))),(Lt (List.map Xm ([]:List X8)))]] rfl rfl ?_;exact wkT [(0,1)] (C1 _  nbS (oj e).symm)
  refine bI λo203 h204=>rnI [Bf] ?_;intro h;refine wkT [(4,18)] (X2.cut (Xan Xjn Xd1 Xn Xi X6c (k:Int) v179.1 _ _ _ nbS _ h204 ?_));intro Xau X8n eo203;subst eo203;refine X2.glue ?_;try dsimp only at h
  rcases X8n with ⟨_|_,Xf8⟩
  ·
   refine X0e [] ?_;refine X2.denil 2 [AV.agg [(aI .u8 v179.1.Op.Kind),(aI .i64 v179.1.Op.N),(aI .i64 v179.1.Turn),(Lt (List.map Xw ([]:List X0a))),(Lt (List.map (aI .i64) v179.1.Marks)),(Lt (v179.1.Store.map X0)),(Lt (v179.1.Events.map X00)),(Lt (v179.1.Rows.map Xt)),(Lt (v179.1.Late.map Xm))]] rfl rfl ?_;refine X2.denil 4 [AV.agg [(aI .u8 v179.1.Op.Kind),(aI .i64 v179.1.Op.N),(aI .i64 v179.1.Turn),(Lt (List.map Xw ([]:List X0a))),(Lt (List.map (aI .i64) v179.1.Marks)),(Lt (v179.1.Store.map X0)),(Lt (v179.1.Events.map X00)),(Lt (v179.1.Rows.map Xt)),(Lt (v179.1.Late.map Xm))]] rfl rfl ?_;exact wkT [] (ih (k+1) hx1 _ _ nbF o h C0 C1)
  obtain rfl:=Xf8 rfl;refine X0e [] ?_;refine X2.denil 2 [AV.agg [(aI .u8 v179.1.Op.Kind),(aI .i64 v179.1.Op.N),(aI .i64 v179.1.Turn),(Lt (List.map Xw ([]:List X0a))),(Lt (List.map (aI .i64) v179.1.Marks)),(Lt (v179.1.Store.map X0)),(Lt (v179.1.Events.map X00)),(Lt (v179.1.Rows.map Xt)),(Lt (v179.1.Late.map Xm))]] rfl rfl ?_;refine X2.denil 4 [AV.agg [(aI .u8 v179.1.Op.Kind),(aI .i64 v179.1.Op.N),(aI .i64 v179.1.Turn),(Lt (List.map Xw ([]:List X0a))),(Lt (List.map (aI .i64) v179.1.Marks)),(Lt (v179.1.Store.map X0)),(Lt (v179.1.Events.map X00)),(Lt (v179.1.Rows.map Xt)),(Lt (v179.1.Late.map Xm))]] rfl rfl ?_;exact wkT [] (ih (k+1) hx1 _ _ nbS o h C0 C1)
instance Xva:PCs Tryz.prog 21 (∀ (a0:X08) (a1:Int) (a2:(List Int)) (a3:(List Xd)) (r:Xp×(List X19)×Bool),X63 a0 a1 a2 a3=some r->X0i Tryz.prog 21 [(X06 false a0),(aI .i64 a1),(Lf (List.map (aI .i64) a2)),(Lf (a3.map Xl))] (AV.tup [(X9 true r.1),(Lt (r.2.1.map Xt)),(aB r.2.2)])):=⟨λa0 a1 a2 a3 r h=>by
 refine X0i.sym X3 fn21 (nt:=70) rfl rfl ?_ okM;unfold X63 at h;revert h;refine bI λv1 h2=>brI (λh3=>λe=>oj e▸X7 [.pure _ (AV.tup [(X9 true v1.1),(aI .i64 v1.2)]),Bt] (k:=fi)) λh3=>bI λu4 h5=>?_;have qh5:=X13 h5;refine rnI [.pure _ (AV.tup [(X9 true v1.1),(aI .i64 v1.2)]),Bf] ?_;intro h;refine X2.denil 1 [AV.agg [(aI .u8 0),(aI .i64 0),(aI .i64 0),(Lt (List.map Xw ([]:List X0a))),(Lt (List.map (aI .i64) ([]:List Int))),(Lt (List.map X0 ([]:List X1))),(Lt (List.map X00 ([]:List X0h))),(Lt (List.map Xt ([]:List X19))),(Lt (List.map Xm ([]:List X8)))]] rfl rfl ?_;revert h;refine bI λo205 h206=>rnI [] ?_;intro h;refine wkT [] (X2.cut (Xf4 a2 a3 a0 (Xp.mk (GOp.mk 0 0) 0 ([]:List X0a) ([]:List Int) ([]:List X1) ([]:List X0h) ([]:List X19) ([]:List X8)) qh5 a3 0 (by simp) _ _ nbS _ h206 ?_ ?_))
 ·
  intro X09 X35 X59 eo205;subst eo205;refine X2.glue ?_;try dsimp only at h
  rcases X59 with ⟨_|_,Xfb⟩<;>(try obtain rfl:=Xfb rfl);all_goals
   revert h;exact λe=>oj e▸X7 [] (k:=fi)
 intro X4q X58 eo205;subst eo205;refine X2.glue ?_;try dsimp only at h
 rcases X58 with ⟨_|_,Xf9⟩<;>(try obtain rfl:=Xf9 rfl);all_goals
  revert h;exact λe=>oj e▸X7 [] (k:=fi)⟩
instance Xxw:PCs Tryz.prog 52 (∀ (a0:Int) (a1:Int) (a2:Int) (r:X19),Xi4 a0 a1 a2=some r->X0i Tryz.prog 52 [(aI .i64 a0),(aI .i64 a1),(aI .i64 a2)] (Xt r)):=⟨λa0 a1 a2 r h=>by
 refine X0i.sym X3 fn52 (nt:=15) rfl rfl ?_ okM;unfold Xi4 at h;revert h;exact λe=>oj e▸X7 [.wrap] (k:=fi)⟩
theorem Xgp {Q:Xx->St->Mu->Prop} {μ:Mu} (X0u:(List X19)) (X7w:(List X19)) (hl:X0u.length<=140737488355328):∀ (xs:List X19) (k:Nat) (hx:X0u.drop k=xs) (o:X6q) (h:X49 X0u X7w xs k  = some o)
  (C0:o=X6q.x0->X2 Tryz.prog 26 0 Q (.exit (.exit 0)) [] ⟨fr [],hp ([]),0⟩ μ)
  (C1:o=X6q.x1->X2 Tryz.prog 26 0 Q (.exit .ret) [] ⟨fr [(4,(aB false))],hp ([]),0⟩ μ),
  X2 Tryz.prog 26 0 Q (.loop (X48 0 (Xa Tryz.f24))) [] ⟨fr [(0,(Lf (X0u.map Xt))),(1,(Lf (X7w.map Xt))),(5,(aI .i64 (k:Int)))],hp ([]),0⟩ μ:=by
 intro xs
 induction xs with
 |nil =>
  intro k hx  o h C0 C1;have hk:=drop_nil hx;have hc:decide ((k:Int)<(X0u.length:Int))=false:=Yf om;rw[X49] at h;refine X2.round ?_;revert h;exact λe=>X7 [.el (aI .i64 (X0u.length:Int)),Bf] (k:=wkT [] (C0  (oj e).symm))
 |cons x xs ih =>
  intro k hx  o h C0 C1;obtain⟨hk,hg,hx1⟩:=X12 hx;have hc:decide ((k:Int)<(X0u.length:Int))=true:=Yt om;rw[X49] at h;refine X2.round ?_;revert h;refine bI λe11 h12=>?_;try have qh12:=Xo h12
  refine brI (λh13=>λe=>X7 [.el (aI .i64 (X0u.length:Int)),Bt,.el (Xt x),.el (Xt e11),Bt] (k:=wkT [] (C1  (oj e).symm))) λh13=>rnI [.el (aI .i64 (X0u.length:Int)),Bt,.el (Xt x),.el (Xt e11),Bf] ?_;intro h;exact wkT [] (ih (k+1) hx1  o h C0 C1)
instance Xwf:PCs Tryz.prog 24 (∀ (a0:(List X19)) (a1:(List X19)) (r:Bool),X8p a0 a1=some r->X0i Tryz.prog 24 [(Lf (a0.map Xt)),(Lf (a1.map Xt))] (aB r)):=⟨λa0 a1 r h=>by
 refine X0i.sym X3 fn24 (nt:=26) rfl rfl ?_ okM;unfold X8p at h;revert h;refine brI (λh1=>λe=>oj e▸X7 [.el (aI .i64 (a0.length:Int)),.el (aI .i64 (a1.length:Int)),Bt] (k:=fi)) λh1=>bI λu2 h3=>?_;have qh3:=X13 h3;refine bI λo14 h15=>rnI [.el (aI .i64 (a0.length:Int)),.el (aI .i64 (a1.length:Int)),Bf] ?_;intro h;refine wkT [] (X2.cut (Xgp a0 a1 qh3 a0 0 (by simp) _ h15 ?_ ?_))
 ·
  intro eo14;subst eo14;refine X2.glue ?_;try dsimp only at h
  revert h;exact λe=>oj e▸X7 [] (k:=fi)
 intro eo14;subst eo14;refine X2.glue ?_;try dsimp only at h
 revert h;exact λe=>oj e▸X7 [] (k:=fi)⟩
end Go.Av.Tryz