/- Printed by decomp.py: that the program computes the functions. -/
import Derived.Test.YtiabgnmhobiooaaDCert8Z
set_option linter.all false

namespace Go.Av.Try
open Go.Proofs Go.D
set_option maxRecDepth 10000
set_option maxHeartbeats 40000000
instance Xp3:PCs Try.prog 83 (∀ (a0:Int) (a1:Bool) (a2:Int) (r:(List X1)×Bool),X3x a0 a1 a2=some r->X0f Try.prog 83 [(aI .i64 a0),(aB a1),(aI .i64 a2)] (AV.tup [(Lt (r.1.map X0)),(aB r.2)])):=⟨λa0 a1 a2 r h=>by
 refine X0f.sym X8 Xwv (nt:=44) rfl rfl ?_ okM;unfold X3x at h;revert h;exact bI λv1 h2=>brI (λh3=>bI λv4 h5=>λe=>oj e▸Xa [.pure _ (Lt (v1.map X0)),.pure _ (Lt (v1.map X0)),Bt,.pure _ (Lt (v4.map X0))] (k:=fi)) λh3=>brI (λh6=>bI λv7 h8=>λe=>oj e▸Xa [.pure _ (Lt (v1.map X0)),.pure _ (Lt (v1.map X0)),Bf,Bt,.pure _ (Lt (v7.map X0))] (k:=fi)) λh6=>brI (λh9=>bI λv10 h11=>λe=>oj e▸Xa [.pure _ (Lt (v1.map X0)),.pure _ (Lt (v1.map X0)),Bf,Bf,Bt,.pure _ (Lt (v10.map X0))] (k:=fi)) λh9=>brI (λh12=>bI λv13 h14=>bI λv15 h16=>λe=>oj e▸Xa [.pure _ (Lt (v1.map X0)),.pure _ (Lt (v1.map X0)),Bf,Bf,Bf,Bt,.wrap,.pure _ (Lt (v13.map X0)),.pure _ (Lt (v15.map X0))] (k:=fi)) λh12=>λe=>oj e▸Xa [.pure _ (Lt (v1.map X0)),.pure _ (Lt (v1.map X0)),Bf,Bf,Bf,Bf] (k:=fi)⟩
theorem Xd3:∀ (n:Nat) (a0:(List X1)) (a1:Int) (r:(List X1)) (h:X1u n a0 a1=some r),X0f Try.prog 64 [(Lf (a0.map X0)),(aI .i64 a1)] (Lt (r.map X0)):=by
 intro n
 induction n with
 |zero=>intro a0 a1 r h;cases h
 |succ n ih =>
  intro a0 a1 r h;have hrec:=ih;refine X0f.sym X8 Xxc (nt:=66) rfl rfl ?_ (X0q .list (X0q .sc X61));rw[X1u] at h;revert h;refine bI λe1 h2=>?_;try have qh2:=Xf h2
  refine bI λv3 h4=>bI λv5 h6=>brI (λh7=>?_) λh7=>?_
  ·
   refine bI λv8 h9=>bI λv10 h11=>bI λv12 h13=>rnI [.el (X0 e1),.pure _ (Lt (v3.map X0)),.pure _ (aB v5),Bt,.pure [(Lf (a0.map X0)),(aI .i64 a1),(X1g (X0z.mk 0 0 0))] (aI .i64 v8),.pure _ (aB v10),.pure _ (AV.tup [(Lt (v12.1.map X0)),(aB v12.2)])] (o:=by repeat' first|apply Ya|exact pcM|exact(pn (X9u FU _ _ _ _ h9) (cc (X1m (X0c Xz a0)) (cc .sc (cc (X8l (x:=(X0z.mk 0 0 0))) cn))))|exact Xy) ?_;refine brI (λh14=>λe=>oj e▸Xa [Bt] (k:=fi)) λh14=>bI λv15 h16=>bI λXdi h24=>rnI [Bf,.pure _ (aI .i64 v15)] ?_;intro h;refine X4.joinF (λ(q:Nb Xdi)=>⟨fr [(0,(Lf (a0.map X0))),(5,(AV.ptr 0 0 0)),(10,(slE q.1 1 (List.map (X5z true X0) Xdi))),(11,(aI .i64 v15))],hp ([(0,Ob [(X0 e1)] 5)]++opE q.1 1 1 (List.map (X5z true X0) Xdi)),2⟩) ?_ (λJ=>X4.cut ?_)
   ·
    rintro Xm0;rcases Xm0 with ⟨_|_,Xmx⟩
    ·
     revert h;refine bI λXgt h36=>rnI [] ?_;intro h;refine X4.joinF (λ(q:Nb Xgt)=>⟨fr [(5,(AV.ptr 0 0 0)),(10,(slE q.1 1 (List.map (X5z true X0) Xgt)))],hp ([(0,Ob [(X0 e1)] 5)]++opE q.1 1 1 (List.map (X5z true X0) Xgt)),2⟩) ?_ (λJ=>X4.cut ?_)
     ·
      rintro Xlz;rcases Xlz with ⟨_|_,Xmw⟩<;>(try obtain rfl:=Xmw rfl);all_goals
       revert h;exact bI λv37 h38=>λe=>oj e▸Xa [.pure _ (Lt (v37.map X0))] (k:=fi)
     clear h;revert h36;refine brI (λh31=>?_) λh31=>?_
     ·
      refine bI λv32 h33=>bI λu34 h35=>?_;intro h;obtain rfl:=oj h;exact Xa [Bt,.pure [(Lf (a0.map X0)),(aI .i64 e1.B)] (Lt (v32.map X0)),.no] (o:=by repeat' first|apply Ya|exact pcM|exact(pn (hrec _ _ _ h33) (cc (X1m (X0c Xz a0)) (cc .sc cn)))|(refine X0s h35 rfl ?_;first|(simp<;>omega)|(simp[h7,h14,h31]<;>omega))|(refine Xw h35 (by decide) ?_;first|(simp<;>omega)|(simp[h7,h14,h31]<;>omega))|exact Xy) (k:=wkT [(1,3)] (X4.glue (J nbF)))
     intro h;obtain rfl:=oj h;exact Xa [Bf] (k:=wkT [] (X4.glue (J nbF)))
    obtain rfl:=Xmx rfl;revert h;refine bI λXmb h52=>rnI [] ?_;intro h;refine X4.joinF (λ(q:Nb Xmb)=>⟨fr [(5,(AV.ptr 0 0 0)),(10,(slE q.1 1 (List.map (X5z true X0) Xmb)))],hp ([(0,Ob [(X0 e1)] 5)]++opE q.1 1 1 (List.map (X5z true X0) Xmb)),2⟩) ?_ (λJ=>X4.cut ?_)
    ·
     rintro Xly;rcases Xly with ⟨_|_,Xmv⟩<;>(try obtain rfl:=Xmv rfl);all_goals
      revert h;exact bI λv53 h54=>λe=>oj e▸Xa [.pure _ (Lt (v53.map X0))] (k:=fi)
    clear h;revert h52;refine brI (λh47=>?_) λh47=>?_
    ·
     refine bI λv48 h49=>bI λu50 h51=>?_;intro h;obtain rfl:=oj h;exact Xa [Bt,.pure [(Lf (a0.map X0)),(aI .i64 e1.B)] (Lt (v48.map X0)),.no] (o:=by repeat' first|apply Ya|exact pcM|exact(pn (hrec _ _ _ h49) (cc (X1m (X0c Xz a0)) (cc .sc cn)))|(refine X0s h51 rfl ?_;first|(simp<;>omega)|(simp[h7,h14,h47]<;>omega))|(refine Xw h51 (by decide) ?_;first|(simp<;>omega)|(simp[h7,h14,h47]<;>omega))|exact Xy) (k:=wkT [(1,3)] (X4.glue (J nbF)))
    intro h;obtain rfl:=oj h;exact Xa [Bf] (k:=wkT [] (X4.glue (J nbS)))
   clear h;revert h24;refine brI (λh21=>?_) λh21=>?_
   ·
    refine bI λv22 h23=>?_;intro h;obtain rfl:=oj h;exact Xa [Bt,.pure [(Lf (a0.map X0)),(aI .i64 e1.A)] (Lt (v22.map X0)),.no] (o:=by repeat' first|apply Ya|exact pcM|exact(pn (hrec _ _ _ h23) (cc (X1m (X0c Xz a0)) (cc .sc cn)))|exact Xy) (k:=wkT [(1,14)] (X4.glue (J nbF)))
   intro h;obtain rfl:=oj h;exact Xa [Bf] (k:=wkT [] (X4.glue (J nbS)))
  refine bI λv57 h58=>bI λXdf h66=>rnI [.el (X0 e1),.pure _ (Lt (v3.map X0)),.pure _ (aB v5),Bf,.pure _ (aI .i64 v57)] ?_;intro h;refine X4.joinF (λ(q:Nb Xdf)=>⟨fr [(0,(Lf (a0.map X0))),(5,(AV.ptr 0 0 0)),(10,(slE q.1 1 (List.map (X5z true X0) Xdf))),(11,(aI .i64 v57))],hp ([(0,Ob [(X0 e1)] 5)]++opE q.1 1 1 (List.map (X5z true X0) Xdf)),2⟩) ?_ (λJ=>X4.cut ?_)
  ·
   rintro Xlx;rcases Xlx with ⟨_|_,Xmu⟩
   ·
    revert h;refine bI λXgr h78=>rnI [] ?_;intro h;refine X4.joinF (λ(q:Nb Xgr)=>⟨fr [(5,(AV.ptr 0 0 0)),(10,(slE q.1 1 (List.map (X5z true X0) Xgr)))],hp ([(0,Ob [(X0 e1)] 5)]++opE q.1 1 1 (List.map (X5z true X0) Xgr)),2⟩) ?_ (λJ=>X4.cut ?_)
    ·
     rintro Xlw;rcases Xlw with ⟨_|_,Xmt⟩<;>(try obtain rfl:=Xmt rfl);all_goals
      revert h;exact bI λv79 h80=>λe=>oj e▸Xa [.pure _ (Lt (v79.map X0))] (k:=fi)
    clear h;revert h78;refine brI (λh73=>?_) λh73=>?_
    ·
     refine bI λv74 h75=>bI λu76 h77=>?_;intro h;obtain rfl:=oj h;exact Xa [Bt,.pure [(Lf (a0.map X0)),(aI .i64 e1.B)] (Lt (v74.map X0)),.no] (o:=by repeat' first|apply Ya|exact pcM|exact(pn (hrec _ _ _ h75) (cc (X1m (X0c Xz a0)) (cc .sc cn)))|(refine X0s h77 rfl ?_;first|(simp<;>omega)|(simp[h7,h73]<;>omega))|(refine Xw h77 (by decide) ?_;first|(simp<;>omega)|(simp[h7,h73]<;>omega))|exact Xy) (k:=wkT [(1,3)] (X4.glue (J nbF)))
    intro h;obtain rfl:=oj h;exact Xa [Bf] (k:=wkT [] (X4.glue (J nbF)))
   obtain rfl:=Xmu rfl;revert h;refine bI λXm9 h94=>rnI [] ?_;intro h;refine X4.joinF (λ(q:Nb Xm9)=>⟨fr [(5,(AV.ptr 0 0 0)),(10,(slE q.1 1 (List.map (X5z true X0) Xm9)))],hp ([(0,Ob [(X0 e1)] 5)]++opE q.1 1 1 (List.map (X5z true X0) Xm9)),2⟩) ?_ (λJ=>X4.cut ?_)
   ·
    rintro Xlv;rcases Xlv with ⟨_|_,Xms⟩<;>(try obtain rfl:=Xms rfl);all_goals
     revert h;exact bI λv95 h96=>λe=>oj e▸Xa [.pure _ (Lt (v95.map X0))] (k:=fi)
   clear h;revert h94;refine brI (λh89=>?_) λh89=>?_
   ·
    refine bI λv90 h91=>bI λu92 h93=>?_;intro h;obtain rfl:=oj h;exact Xa [Bt,.pure [(Lf (a0.map X0)),(aI .i64 e1.B)] (Lt (v90.map X0)),.no] (o:=by repeat' first|apply Ya|exact pcM|exact(pn (hrec _ _ _ h91) (cc (X1m (X0c Xz a0)) (cc .sc cn)))|(refine X0s h93 rfl ?_;first|(simp<;>omega)|(simp[h7,h89]<;>omega))|(refine Xw h93 (by decide) ?_;first|(simp<;>omega)|(simp[h7,h89]<;>omega))|exact Xy) (k:=wkT [(1,3)] (X4.glue (J nbF)))
   intro h;obtain rfl:=oj h;exact Xa [Bf] (k:=wkT [] (X4.glue (J nbS)))
  clear h;revert h66;refine brI (λh63=>?_) λh63=>?_
  ·
   refine bI λv64 h65=>?_;intro h;obtain rfl:=oj h;exact Xa [Bt,.pure [(Lf (a0.map X0)),(aI .i64 e1.A)] (Lt (v64.map X0)),.no] (o:=by repeat' first|apply Ya|exact pcM|exact(pn (hrec _ _ _ h65) (cc (X1m (X0c Xz a0)) (cc .sc cn)))|exact Xy) (k:=wkT [(1,2)] (X4.glue (J nbF)))
  intro h;obtain rfl:=oj h;exact Xa [Bf] (k:=wkT [] (X4.glue (J nbS)))
instance Xp4:PCs Try.prog 45 (∀ (a0:(List X1)) (r:(List X1)×Int),X3y a0=some r->X0f Try.prog 45 [(Lf (a0.map X0))] (AV.tup [(Lt (r.1.map X0)),(aI .i64 r.2)])):=⟨λa0 r h=>by
 refine X0f.sym X8 Xxu (nt:=21) rfl rfl ?_ okM;unfold X3y at h;revert h;refine bI λv1 h2=>brI (λh3=>λe=>oj e▸Xa [.pure _ (AV.tup [(aB v1.1),(aI .i64 v1.2.1),(aI .i64 v1.2.2)]),Bt] (k:=fi)) λh3=>?_;exact bI λv4 h5=>λe=>oj e▸Xa [.pure _ (AV.tup [(aB v1.1),(aI .i64 v1.2.1),(aI .i64 v1.2.2)]),Bf,.el (aI .i64 (a0.length:Int)),.wrap,.pure [(Lf (a0.map X0)),(aI .i64 (IntKind.i64.wrap ((a0.length:Int) - 1)))] (Lt (v4.map X0))] (o:=by repeat' first|apply Ya|exact pcM|exact(pn (Xd3 FU _ _ _ h5) (cc (X1m (X0c Xz a0)) (cc (Xjr (by first|rfl|(simp[*];done))) cn)))|exact Xy) (k:=fi)⟩
def Xcx:AV->AV
 |.list true es=>.list false es
 |a=>a
def Xai:AV->AV
 |.agg cs=>.agg (cs.map Xcx)
 |a=>Xcx a
theorem Xcw (e:AV):(Xai e).cells=e.cells.map Xcx:=by
 cases e<;>try rfl
 rename_i own es;cases own<;>rfl
theorem Xjy {c:Ctx} {d:Bool} {a:AV} {v:Value} (h:X0l c d a v):X0l c d (Xcx a) v:=by
 unfold Xcx;split
 ·cases h with
  |listNil=>exact .listNil
  |list vf hne hS hn hcap hsz hc h1 hr=>exact .list vf hne (.inr (hS.resolve_left λh=>by cases h.1)) hn hcap hsz hc h1 hr
 exact h
theorem Xkx {M:Nat->Prop} {a:AV} (h:a.Ok M):(Xcx a).Ok M:=by
 unfold Xcx;split
 ·exact .list
 exact h
theorem Xkw {c:Ctx} {p:Pl} {y:Obj} (h:Xhd c p y):Xhd c p { y with es:=y.es.map Xai }:=by
 obtain⟨⟨cur,h1,h2,h3⟩,h4,h5,h6⟩:=h;refine⟨⟨cur,h1,h2,λi e he=>?_⟩,by simpa using h4,h5,h6⟩;simp only[List.getElem?_map,Option.map_eq_some_iff] at he;obtain⟨e0,he0,rfl⟩:=he;obtain⟨g1,g2⟩:=h3 i e0 he0;rw[Xcw];refine⟨by simpa using g1,λk a ha=>?_⟩;simp only[List.getElem?_map,Option.map_eq_some_iff] at ha;obtain⟨a0,ha0,rfl⟩:=ha;obtain⟨v,v1,v2,v3⟩:=g2 k a0 ha0;exact⟨v,v1,Xjy v2,v3⟩
theorem X4.unown {P:Program} {nt n0 n:Nat} {Q:Xr->St->Mu->Prop} {cf:Cf} {K:List Kn} {μ:Mu} {L:List (Nat×AV)} {G:List (Nat×Obj)} {y:Obj} (q:Nat) (es':List AV) (hy:hp G q=some y) (he:y.es.map Xai=es')
  (h:X4 P nt n0 Q cf K ⟨fr L,hp ((q,{ y with es:=es' })::G),n⟩ μ):X4 P nt n0 Q cf K ⟨fr L,hp G,n⟩ μ:=by
 subst he;have hd:∀ o x',hp ((q,{ y with es:=y.es.map Xai })::G) o=some x'->∃ x,hp G o=some x/\x'.esz=x.esz/\x'.solo=x.solo/\x'.spent=x.spent/\x'.es.length=x.es.length/\(x'=x\/(o=q/\x=y/\x'={ y with es:=y.es.map Xai })):=by
  intro o x' hx;by_cases ho:o=q
  ·subst ho;rw[show hp ((o,{ y with es:=y.es.map Xai })::G) o=some { y with es:=y.es.map Xai } by simp[hp,Xbi hy]] at hx;cases hx
   exact⟨y,hy,rfl,rfl,rfl,by simp,.inr ⟨rfl,rfl,rfl⟩⟩
  ·have:hp ((q,{ y with es:=y.es.map Xai })::G) o=hp G o:=by
    have hb:Nat.beq o q=false:=by rw[<-Bool.not_eq_true,Nat.beq_eq];exact ho
    simp[hp,hb]
   rw[this] at hx;exact⟨x',hx,rfl,rfl,rfl,rfl,.inl rfl⟩
 refine X4.sub (s':=⟨fr L,hp ((q,{ y with es:=y.es.map Xai })::G),n⟩) (λc0 H0 c act μ g hm=>⟨?_,?_⟩) h
 ·refine⟨⟨λo x' hx=>?_,λo o' x1 x2 h1 h2 hne hb=>?_,λo x' hx=>?_,g.inv.lt,g.inv.base,g.inv.own,λo x' hx=>?_⟩,λo x' hx=>?_,g.frame,g.ok,g.size,?_,g.le0⟩
  ·obtain⟨x,hx0,_,_,_,_,hc⟩:=hd o x' hx;obtain⟨i1,i2,i3⟩:=g.inv.obj o x hx0;rcases hc with rfl|⟨rfl,rfl,rfl⟩
   ·exact⟨i1,i2,i3⟩
   refine⟨i1,Xkw i2,λe he a ha=>?_⟩;obtain⟨e0,he0,rfl⟩:=List.mem_map.1 he;rw[Xcw] at ha;obtain⟨a0,ha0,rfl⟩:=List.mem_map.1 ha;exact Xkx (i3 e0 he0 a0 ha0)
  ·obtain⟨y1,hy1,e1,s1,p1,l1,_⟩:=hd o x1 h1;obtain⟨y2,hy2,e2,s2,p2,l2,_⟩:=hd o' x2 h2;have:=g.inv.sep o o' y1 y2 hy1 hy2 hne hb;rw[s1,p1,p2,l1,l2,e1,e2];exact this
  ·obtain⟨x,hx0,_⟩:=hd o x' hx;exact g.inv.stab o x hx0
  ·obtain⟨x,hx0,_⟩:=hd o x' hx;exact g.inv.low o x hx0
  ·obtain⟨x,hx0,_,s1,p1,_⟩:=hd o x' hx;rw[s1,p1];exact g.solo o x hx0
  ·have r:=g.reach;exact⟨r.rho,r.os,r.tape,r.output,r.size,r.block,r.stable,r.sa,r.so1,r.so2,r.B,λo x' hx=>by obtain⟨x,hx0,_⟩:=hd o x' hx;exact r.own o x hx0⟩
 ·exact⟨hm.is,λp hp=>by
   obtain⟨a1,a2,a3,a4⟩:=hm.away p hp;exact⟨a1,a2,λo x' hx=>by obtain⟨x,hx0,_⟩:=hd o x' hx;exact a3 o x hx0,a4⟩,hm.nodup,hm.ds⟩
instance Xnx:PCs Try.prog 29 (∀ (a0:X2) (r:X2×Int),X6s a0=some r->X0f Try.prog 29 [(X7 false a0)] (AV.tup [(X7 false r.1),(aI .i64 r.2)])):=⟨λa0 r h=>by
 refine X0f.sym X8 Xy8 (nt:=43) rfl rfl ?_ okM;unfold X6s at h;revert h;refine bI λv1 h2=>brI (λh3=>λe=>oj e▸Xa [.pure _ (AV.tup [(aI .i64 v1.1),(aI .i64 v1.2)]),Bt] (k:=fi)) λh3=>bI λX76 h11=>rnI [.pure _ (AV.tup [(aI .i64 v1.1),(aI .i64 v1.2)]),Bf,.el (aI .i64 (a0.Arg.length:Int))] ?_;intro h;refine X4.join (s':=⟨fr [(1,(AV.ptr 0 0 0)),(2,(AV.ptr 1 0 0))],hp ([(0,Ob [(X7 false X76)] 10),(1,Ob [(X7 true (X2.mk 0 ([]:List X1) ([]:List Int) false ([]:List X1) (X3.mk 0 0 0) false 0))] 10)]),2⟩) ?_ (λJ=>X4.cut ?_)
 ·
  revert h;refine bI λXau h19=>rnI [.el (aI .i64 (X76.Where.length:Int))] ?_;intro h;refine X4.join (s':=⟨fr [(1,(AV.ptr 0 0 0)),(2,(AV.ptr 1 0 0))],hp ([(0,Ob [(X7 false Xau)] 10),(1,Ob [(X7 true (X2.mk ((X2.mk 0 ([]:List X1) ([]:List Int) false ([]:List X1) (X3.mk 0 0 0) false 0).Agg) ((X2.mk 0 ([]:List X1) ([]:List Int) false ([]:List X1) (X3.mk 0 0 0) false 0).Arg) ((X2.mk 0 ([]:List X1) ([]:List Int) false ([]:List X1) (X3.mk 0 0 0) false 0).Sources) ((X2.mk 0 ([]:List X1) ([]:List Int) false ([]:List X1) (X3.mk 0 0 0) false 0).Join) ((X2.mk 0 ([]:List X1) ([]:List Int) false ([]:List X1) (X3.mk 0 0 0) false 0).Where) ((X2.mk 0 ([]:List X1) ([]:List Int) false ([]:List X1) (X3.mk 0 0 0) false 0).Window) ((X2.mk 0 ([]:List X1) ([]:List Int) false ([]:List X1) (X3.mk 0 0 0) false 0).ByKey) ((X2.mk 0 ([]:List X1) ([]:List Int) false ([]:List X1) (X3.mk 0 0 0) false 0).Late)))] 10)]),2⟩) ?_ (λJ=>X4.cut ?_)
  ·
   revert h;refine brI (λq=>?_) λq=>?_
   ·
    intro h;have h20:Xau.Sources=[]:=List.isEmpty_iff.1 q;revert h;exact λe=>oj e▸Xa [.ne false] (k:=fi)
   intro h;have h20:¬ (Xau.Sources=[]):=(λe=>by rw[e] at q;cases q);revert h;exact bI λu21 h22=>λe=>oj e▸Xa [.via (Lt (List.map (aI .i64) Xau.Sources))] (o:=by repeat' first|apply Ya|exact pcM|(refine X0s h22 rfl ?_;first|(simp<;>omega)|(simp[h3,h20]<;>omega))|(refine Xw h22 (by decide) ?_;first|(simp<;>omega)|(simp[h3,h20]<;>omega))|exact Xy) (k:=fi)
  clear h;revert h19;refine brI (λh16=>?_) λh16=>?_
  ·
   refine bI λv17 h18=>?_;intro h;obtain rfl:=oj h;refine X29 [Bt,.pure _ (AV.tup [(Lt (v17.1.map X0)),(aI .i64 v17.2)])] ?_;refine X4.unown 0 [AV.agg [(aI .u8 X76.Agg),(Lf (X76.Arg.map X0)),(Lf (List.map (aI .i64) X76.Sources)),(aB X76.Join),(Lf (v17.1.map X0)),(aI .u8 X76.Window.Kind),(aI .i64 X76.Window.Size),(aI .i64 X76.Window.Every),(aB X76.ByKey),(aI .u8 X76.Late)]] rfl rfl ?_;exact wkT [] (X4.glue J)
  intro h;obtain rfl:=oj h;exact Xa [Bf] (k:=wkT [] (X4.glue J))
 clear h;revert h11;refine brI (λh8=>?_) λh8=>?_
 ·
  refine bI λv9 h10=>?_;intro h;obtain rfl:=oj h;refine X29 [Bt,.pure _ (AV.tup [(Lt (v9.1.map X0)),(aI .i64 v9.2)])] ?_;refine X4.unown 0 [AV.agg [(aI .u8 a0.Agg),(Lf (v9.1.map X0)),(Lf (List.map (aI .i64) a0.Sources)),(aB a0.Join),(Lf (a0.Where.map X0)),(aI .u8 a0.Window.Kind),(aI .i64 a0.Window.Size),(aI .i64 a0.Window.Every),(aB a0.ByKey),(aI .u8 a0.Late)]] rfl rfl ?_;refine X4.denil 1 [AV.agg [(aI .u8 0),(Lt (List.map X0 ([]:List X1))),(Lt (List.map (aI .i64) ([]:List Int))),(aB false),(Lt (List.map X0 ([]:List X1))),(aI .u8 0),(aI .i64 0),(aI .i64 0),(aB false),(aI .u8 0)]] rfl rfl ?_;exact wkT [] (X4.glue J)
 intro h;obtain rfl:=oj h;refine X29 [Bf] ?_;refine X4.denil 1 [AV.agg [(aI .u8 0),(Lt (List.map X0 ([]:List X1))),(Lt (List.map (aI .i64) ([]:List Int))),(aB false),(Lt (List.map X0 ([]:List X1))),(aI .u8 0),(aI .i64 0),(aI .i64 0),(aB false),(aI .u8 0)]] rfl rfl ?_;exact wkT [] (X4.glue J)⟩
instance Xnw:PCs Try.prog 30 (∀ (a0:(List X1)) (r:Int×Bool×Int),X5c a0=some r->X0f Try.prog 30 [(Lf (a0.map X0))] (AV.tup [(aI .i64 r.1),(aB r.2.1),(aI .i64 r.2.2)])):=⟨λa0 r h=>by
 refine X0f.sym X8 Xy7 (nt:=26) rfl rfl ?_ okM;unfold X5c at h;revert h;refine bI λv1 h2=>brI (λh3=>λe=>oj e▸Xa [.pure _ (AV.tup [(aB v1.1),(aI .i64 v1.2.1),(aI .i64 v1.2.2)]),Bt] (k:=fi)) λh3=>bI λv4 h5=>brI (λh6=>λe=>oj e▸Xa [.pure _ (AV.tup [(aB v1.1),(aI .i64 v1.2.1),(aI .i64 v1.2.2)]),Bf,.pure _ (aB v4),Bt] (k:=fi)) λh6=>?_;exact bI λv7 h8=>λe=>oj e▸Xa [.pure _ (AV.tup [(aB v1.1),(aI .i64 v1.2.1),(aI .i64 v1.2.2)]),Bf,.pure _ (aB v4),Bf,.el (aI .i64 (a0.length:Int)),.wrap,.pure [(Lf (a0.map X0)),(aI .i64 (IntKind.i64.wrap ((a0.length:Int) - 1))),(X1g (X0z.mk 0 0 0))] (aI .i64 v7)] (o:=by repeat' first|apply Ya|exact pcM|exact(pn (X9u FU _ _ _ _ h8) (cc (X1m (X0c Xz a0)) (cc (Xjr (by first|rfl|(simp[*];done))) (cc (X8l (x:=(X0z.mk 0 0 0))) cn))))|exact Xy) (k:=fi)⟩
end Go.Av.Try