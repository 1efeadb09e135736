/- Parts of the proof, laid together. -/
import Derived.Test.YtednehploaffcaaGreatDoorAvc
import GoSem.ClaimGoes
import Derived.LaidMore
import Derived.LaidSub
set_option linter.all false
set_option maxHeartbeats 4000000
noncomputable section

namespace Go.Av
variable [Gls]
def zipA:List Nat->List AV->(Nat->AV)->(Nat->AV)
 |p::ps,a::as,A=>zipA ps as (upd A p a)
 |_,_,A=>A
theorem X00k {c:Ctx} {n:Nat}:∀ (ps:List Nat) (as:List AV) (vs:List Value) (A:Nat->AV) (tmps:Array Value),as.length=vs.length->(∀ (i:Nat) a v,as[i]?=some a->vs[i]?=some v->X0m c false a v/\a.Ok (·<n)) ->
  (∀ p∈ps,p<tmps.size)->(∀ t,X0m c false (A t) (tmps.getD t undef)/\(A t).Ok (·<n)) ->
  (∀ t,X0m c false (zipA ps as A t) (((ps.zip vs).foldl (λt (p,v)=>t.setIfInBounds p v) tmps).getD t undef)/\(zipA ps as A t).Ok (·<n))/\((ps.zip vs).foldl (λt (p,v)=>t.setIfInBounds p v) tmps).size=tmps.size:=by
 intro ps
 induction ps with
 |nil=>intro as vs A tmps _ _ _ h;trivial
 |cons p ps ih =>
  intro as vs A tmps hl ha hp h
  cases as with
  |nil =>
   have:vs=[]:=List.eq_nil_of_length_eq_zero (by grind);subst this;trivial
  |cons a as =>
   cases vs with
   |nil=>simp at hl
   |cons v vs =>
    have h0:=ha 0 a v rfl rfl;obtain⟨k1,k2⟩:=ih as vs (upd A p a) (tmps.setIfInBounds p v) (by grind) (λi a v h1 h2=>ha (i+1) a v (by grind) (by grind)) (λq hq=>by grind) (λt=>by
     rw[Xgk (hp p List.mem_cons_self)];by_cases ht:t=p
     ·subst ht;rw[if_pos rfl,Xk];exact h0
     simp_all [if_neg,Xm])
    exact⟨k1,by simp_all⟩
def Xgh:Xp->Option Code
 |.normal=>none
 |.exit id=>some (.exit id)
 |.ret=>some .ret
def Xqx (r:Loop) (e:Xp):Loop:={ r with state:=if (Xgh e).isNone then .ready else .done,pending:=Xgh e }
theorem Xk9 {r:Loop} (h1:r.state=.ready) (h2:r.pending=none):Xqx r .normal=r:=by
 obtain⟨st,pe,fn,tm,pa,asg,bd,de⟩:=r;simp only at h1 h2;subst h1 h2;rfl
theorem Xpz (w:World) (b:Nat) (x y:Go.Obj):(w.putObj b x).putObj b y=w.putObj b y:=by
 simp[World.putObj]
theorem MOk.turn {n0:Nat} {c0 c:Ctx} {H0 H:Xz} {μr:Mu} {act:Act} {b ntc m:Nat} {A:Nat->AV} {r r2:Loop} (h:MOk n0 c0 H0 c H ((b,.loop r ntc m A)::μr) act) (ht:r2.tmps=r.tmps)
  (hle:c.Le (λ_=>True) { c with w:=c.w.putObj b (.loop r2) }):MOk n0 c0 H0 { c with w:=c.w.putObj b (.loop r2) } H ((b,.loop r2 ntc m A)::μr) act:=by
 have hlt:b<c.w.heap.size:=(h.is _ List.mem_cons_self).lt;refine⟨λp hp=>?_,λp hp=>?_,h.nodup,h.ds⟩
 ·rcases List.mem_cons.1 hp with rfl|hp
  ·obtain⟨⟨h1,h2⟩,h3,h4,h5⟩:=h.is _ List.mem_cons_self;exact⟨⟨World.putObj_heap_same hlt,by grind⟩,h3,h4,λt=>by rw[ht];exact(h5 t).mono hle (.inr ((h4 t).mono λ_ _=>trivial))⟩
  ·have hne:p.1≠b:=λe=>by
    have:=h.nodup
    grind
   exact(h.is p (List.mem_cons_of_mem _ hp)).le (World.putObj_heap_other hne) (hle.weaken λ_ _=>trivial)
 ·rcases List.mem_cons.1 hp with rfl|hp
  ·exact h.away (b,.loop r ntc m A) List.mem_cons_self
  ·exact h.away p (List.mem_cons_of_mem _ hp)
theorem X2m.yield {P:Program} {nt n0 n b ntc m:Nat} {ops:Array Oper} {l:List Oper} {o:Oper} {K:St->Mu->Prop} {A Ac:Nat->AV} {H:Xz} {μr:Mu} {x:Operand} {args:Array Operand} {ts:Array Nat} {r:Loop} {as:List AV}
  (ho:o.op=.call { callee:=.value x,args:=args,argTypes:=ts }) (hg:o.guard=none) (hd:Xen nt o.dst=true)
  (hx:evA A x=.sc (.func (.yield b) #[] #[])) (has:args.toList.map (evA A)=as) (h1:r.state=.ready) (h2:r.pending=none)
  (hp1:as.length=r.params.size) (hp2:∀ p∈r.params.toList,p<ntc) (ht:X2g r.assign=false/\X2g r.body=false)
  (h:X2i P ntc n r.assign (λe s μ1=>e=.normal/\μ1=[]/\X2i P ntc n r.body (λe s _=>X2m P nt n0 ops l K ⟨X65 A o.dst (.sc (.bool (Xgh e).isNone)),s.H,s.n⟩ ((b,.loop (Xqx r e) ntc m Ac)::μr)) s []) ⟨zipA r.params.toList as Ac,H,n⟩ []) :
  X2m P nt n0 ops (o::l) K ⟨A,H,n⟩ ((b,.loop r ntc m Ac)::μr):=by
 subst has;obtain⟨htA,htB⟩:=ht;have hμ:(b,MuE.loop r ntc m Ac)∈((b,.loop r ntc m Ac)::μr:Mu):=List.mem_cons_self;intro c0 H0 c act g hm Qx hQ R hR
 cases R with
 |none=>rw[Xn1 hμ] at hR;grind
 |some R =>
 refine X4a λK' hK'=>?_;rw[if_pos (by simp[Region.wanted,hg])];obtain⟨⟨hrec,hsz⟩,hmn,hAok,hA⟩:=hm.is _ hμ;obtain⟨w1,w2,w3,w4⟩:=hm.away _ hμ;have haw:Xsh c H b:=⟨w1,w2,w3⟩;have hlt:b<c.w.heap.size:=(Array.getElem?_eq_some_iff.1 hrec).1;have ex:act.eval x=.func (.yield b) #[] #[]:=by have:=g.ev x;rw[show evA (St.A ⟨A,H,n⟩) x=_ from hx] at this;exact this.sc_inv
 have hy:=run_yield (P:=P) (args:=args.map act.eval) hrec (by grind);have hrun:(execOp act.eval o).run P c.w=.ok (.round b r.fn ((r.params.zip (args.map act.eval)).foldl (λtmps (t,a)=>tmps.setIfInBounds t a) r.tmps) r.assign r.body) c.w:=by
  simp only[execOp,ho,resolve,ex,Deferred.ofValue,Sem.run_bind,Sem.run_pure,Result.andThen_ok,invoke,Array.empty_append,Array.append_empty];exact hy
 show Oper.wpIn (FR R) 0 P o act c.w K' Qx;refine⟨λ_ _=>trivial,?_⟩;rw[Oper.semAt_eq _ _ _ (λd hd=>by grind),hrun,Oper.uponIn_round];refine⟨λh=>Bool.noConfusion h,roundIn_of_wpIn trivial ?_⟩;have hz:(r.params.zip (args.map act.eval)).foldl (λtmps (t,a)=>tmps.setIfInBounds t a) r.tmps=(r.params.toList.zip (args.toList.map act.eval)).foldl (λt (p,v)=>t.setIfInBounds p v) r.tmps:=by
  rw[<-Array.foldl_toList];simp
 have hzip:=X00k (c:=c) (n:=n) r.params.toList (args.toList.map (evA A)) (args.toList.map act.eval) Ac r.tmps (by simp) (λi a v h1 h2=>by
   rw[List.getElem?_map] at h1;rw[List.getElem?_map] at h2
   cases hq:args.toList[i]? with
   |none=>grind
   |some q =>
    simp only[hq,Option.map_some,Option.some.injEq] at h1 h2;subst h1 h2;exact⟨g.ev q,g.evOk q⟩) (λp hp=>by grind) (λt=>⟨hA t,(hAok t).mono λq hq=>Nat.lt_of_lt_of_le hq (Nat.le_trans hmn g.le0)⟩)
 rw[<-hz] at hzip;have gB:X38 ntc c H n c ⟨zipA r.params.toList (args.toList.map (evA A)) Ac,H,n⟩ { tmps:=(r.params.zip (args.map act.eval)).foldl (λtmps (t,a)=>tmps.setIfInBounds t a) r.tmps,defers:=[] } :=
  ⟨g.inv,g.solo,λt=>(hzip.1 t).1,λt=>(hzip.1 t).2,hzip.2.trans hsz,.refl _ _ _,Nat.le_refl _⟩
 refine wpIn_mono (h c H c _ gB (.nil rfl) (some b) (λh=>by grind)) ?_;rintro e a1 w' ⟨c1,s1,ae,μ1,rfl,g1,hm1,rfl,rfl,rfl,hbody⟩;have hrec1:c1.w.heap[b]?=some (.loop r):=(g1.reach.block b hlt haw.ob).trans hrec;refine⟨_,run_beginRound hrec1 h1,?_⟩;have aw1:Xsh c1 s1.H b:=haw.kept hlt g1.reach;obtain⟨g1',_⟩:=g1.turn0 (.loop { r with state:=.busy }) aw1;refine wpIn_mono (hbody _ s1.H _ a1 g1' (.nil hm1.ds) (some b) (λh=>by grind)) ?_;rintro e a2 w' ⟨c2,s2,ae,μ2,rfl,g2,hm2,rfl,hk⟩;have hlt1:b<c1.w.heap.size:=(Array.getElem?_eq_some_iff.1 hrec1).1;have hrec2:c2.w.heap[b]?=some (.loop { r with state:=.busy }) :=
  (g2.reach.block b (by simp_all) aw1.ob).trans (World.putObj_heap_same hlt1)
 have hend:∀ j,(Instr.endRound b j).run P c2.w=.ok (.bool j.isNone) (c2.w.putObj b (.loop { r with state:=if j.isNone then .ready else .done,pending:=j })):=λj=>run_endRound (P:=P) (r:={ r with state:=.busy }) j hrec2;have aw2:Xsh c2 s2.H b:=(Xsh.mk aw1.sa aw1.so aw1.ob:Xsh { c1 with w:=c1.w.putObj b (.loop { r with state:=.busy }) } s1.H b).kept (by simp_all) g2.reach;obtain⟨g3,_⟩:=g2.turn0 (.loop r) aw2;have rt:Reach c H n { c2 with w:=c2.w.putObj b (.loop r) } s2.H:=Reach.turnBack g1.reach g2.reach hrec haw;have gf:=g.next (X5n hd) rt.le rt.sa rt.so2 rt.fr rt.own g3.inv g3.solo g3.le0 (a:=.sc (.bool (Xgh ae).isNone)) (v:=.bool (Xgh ae).isNone) .sc .sc;have mk:=hm.kept (rt.weaken g.le0) (act':=act.put o.dst (.bool (Xgh ae).isNone));obtain⟨gt,hle⟩:=gf.turn (.loop (Xqx r ae)) aw2.sa aw2.so aw2.ob w4;have mt:=mk.turn (r2:=Xqx r ae) rfl hle;have hw:({ c2 with w:=c2.w.putObj b (.loop (Xqx r ae)) }:Ctx)={ { c2 with w:=c2.w.putObj b (.loop r) } with w:=(c2.w.putObj b (.loop r)).putObj b (.loop (Xqx r ae)) }:=by rw[Xpz]
 rw[<-hw] at gt mt;have fin:=hK' _ _ (hk c0 H0 _ _ gt mt Qx hQ (some R) (λh=>by cases h))
 cases ae with
 |normal=>exact⟨_,_,hend none,fin⟩
 |exit id=>exact⟨_,_,hend (some (.exit id)),fin⟩
 |ret=>exact⟨_,_,hend (some .ret),fin⟩
theorem X2i.rangeFunc {P:Program} {nt n0 n gf nti:Nat} {Q:Xp->St->Mu->Prop} {A:Nat->AV} {H:Xz} {μ:Mu} {g:Operand} {ps:Array Nat} {assign body codeI:Code} {fnI:Func} {caps:List AV}
  (hg:evA A g=.fn gf caps) (hfn:Xmg P gf fnI codeI) (hnt:fnI.ntmps=nti) (hle:caps.length+1<=nti) (hres:fnI.results=#[])
  (h:∀ (b D:Nat) (r:Loop),r.state=.ready->r.pending=none->r.params=ps->r.assign=assign->r.body=body ->
   X2i P nti n codeI (λe s μ'=>(∀ id,e≠.exit id)/\∃ pe,μ'=[(b,.loop (Xqx r pe) nt n A),(D,.blk (.deferred (some [])))]/\Q pe ⟨A,s.H,s.n⟩ ((D,.mark)::μ)) ⟨Xjl (.sc (.func (.yield b) #[] #[])::caps),H,n⟩ [(b,.loop r nt n A),(D,.blk (.deferred (some [])))]) :
  X2i P nt n0 (.rangeFunc g ps assign body) Q ⟨A,H,n⟩ μ:=by
 intro c0 H0 c act gd hm R hR;obtain rfl:=hR rfl;have hv:=gd.ev g;rw[show evA (St.A ⟨A,H,n⟩) g=_ from hg] at hv;have hvo:=gd.evOk g;rw[show evA (St.A ⟨A,H,n⟩) g=_ from hg] at hvo;obtain⟨cv,hcv,hcl,hcr⟩:=hv.fn_inv;refine wpIn_rangeFunc ?_;intro fn _;let D:=c.w.heap.size
 let b:=c.w.heap.size+1
 let rec0:Loop:={ state:=.ready,pending:=none,fn,tmps:=act.tmps,params:=ps,assign,body,defers:=c.w.heap.size }
 let W1:World:=(c.w.alloc (.deferred (some []))).alloc (.loop rec0)
 let c1:Ctx:={ c with w:=W1 }
 have hL1:W1.heap[b]?=some (.loop rec0):=by
  grind [World.alloc_heap_new,loop,World.size_alloc]
 have hK1:W1.heap[D]?=some (.deferred (some [])):=(RowKit.Below.heap_alloc _ _ _ (by simp[D])).trans (World.alloc_heap_new c.w _);have hs1:W1.heap.size=c.w.heap.size+2:=by simp[W1]
 have g1:X38 nt c H n0 c1 ⟨A,H,n⟩ act:=(gd.rebase.alloc (.deferred (some []))).alloc (.loop rec0);have hold:∀ k,k<c.w.heap.size->W1.heap[k]?=c.w.heap[k]?:=λk hk=>(RowKit.Below.heap_alloc _ _ _ (by simp;omega)).trans (RowKit.Below.heap_alloc _ _ _ hk);have r1:Reach c H n c1 H:=⟨λ_ _=>rfl,rfl,rfl,⟨rfl,Nat.le_refl _⟩,by grind,λk hk _=>hold k hk,λk hk=>hold k (gd.inv.lt k hk),rfl,λ_ h=>h,λ_ h=>.inl h,rfl,λo x hx=>.inr ⟨o,x,hx,rfl⟩⟩;have hob:∀ o x,H o=some x->(c.ρ o).blk<c.w.heap.size:=λo x hx=>by
  obtain⟨_,⟨⟨cur,hcb,_⟩,_⟩,_⟩:=gd.inv.obj o x hx
  grind
 let vs:Array Value:=#[.func (.yield b) #[] #[]]++cv
 have hvs:vs.size=caps.length+1:=by grind
 have gI:X38 nti c H n c1 ⟨Xjl (.sc (.func (.yield b) #[] #[])::caps),H,n⟩ { tmps:=vs++Array.replicate (fnI.ntmps - vs.size) undef,defers:=[] }:=by
  have hrel:Xbr c1 false (.sc (.func (.yield b) #[] #[])::caps) vs:=by
   refine⟨by grind,λi a v ha hv=>?_⟩
   cases i with
   |zero =>
    have hv':vs[0]?=some (.func (.yield b) #[] #[]):=by grind
    rw[hv'] at hv;simp only[List.getElem?_cons_zero,Option.some.injEq] at ha hv;subst ha hv;exact .sc
   |succ i =>
    have hv':cv[i]?=some v:=by
     grind
    simp only[List.getElem?_cons_succ] at ha;refine(hcr i a v ha hv').mono r1.le (.inr ?_)
    cases hvo with|fn hvo=>grind
  have hok:∀ a∈(.sc (.func (.yield b) #[] #[])::caps:List AV),a.Ok (·<n):=by
   intro a ha;rcases List.mem_cons.1 ha with rfl|ha
   ·exact .sc
   ·cases hvo with|fn hvo=>grind
  have:X38 nti c H n c1 ⟨Xjl (.sc (.func (.yield b) #[] #[])::caps),H,n⟩ { tmps:=vs++Array.replicate (fnI.ntmps - vs.size) undef,defers:=[] } :=
   ⟨g1.inv,g1.solo,λt=>Xbl hrel _ t,λt=>Xll hok t,by grind,r1,Nat.le_refl _⟩
  exact this
 have mI:MOk n c H c1 H [(b,.loop rec0 nt n A),(D,.blk (.deferred (some [])))] { tmps:=vs++Array.replicate (fnI.ntmps - vs.size) undef,defers:=[] }:=by
  refine⟨λp hp=>?_,λp hp=>?_,by simp[b,D],rfl⟩
  ·simp only[List.mem_cons,List.not_mem_nil,or_false] at hp;rcases hp with rfl|rfl
   ·exact⟨⟨hL1,gd.size⟩,Nat.le_refl _,λt=>gd.ok t,λt=>g1.frame t⟩
   ·exact hK1
  ·simp only[List.mem_cons,List.not_mem_nil,or_false] at hp;have key:∀ k,c.w.heap.size<=k->¬ c1.Sa k/\¬ c1.So k/\(∀ o x,H o=some x->(c1.ρ o).blk≠k)/\NewB c H k:=λk hk =>
    ⟨λhs=>by have:=gd.inv.lt k (.inl hs);omega,λhs=>by have:=gd.inv.lt k (.inr hs);omega,λo x hx e=>by grind,⟨Nat.le_trans gd.inv.base hk,.inl hk⟩⟩
   grind
 refine⟨b,[{ target:=.collected D,args:=#[] }],W1,{ target:=.fn (.func gf) cv,args:=#[.func (.yield b) #[] #[]] },W1,gf,vs,W1,run_enterLoop_outer _ _ _ _ _,?_,λ_ _=>trivial,?_,λh=>Bool.noConfusion h,?_⟩
 ·simp only[resolve,hcv];simp[go_sem]
 ·simp only[invoke,callFunc,Sem.run_bind,run_program,Result.andThen_ok,hfn.here,hfn.name,hfn.body,Option.isNone_some,Bool.false_eq_true,if_false];rfl
 refine callsIn_of_wp hfn.here hfn.body trivial ?_ rfl;refine wpIn_mono (h b D rec0 rfl rfl rfl rfl rfl c H c1 _ gI mI none .none) ?_;rintro e a w' ⟨c2,s2,ae,μ2,rfl,g2,hm2,rfl,hne,pe,rfl,hk⟩;have hds:a.defers=[]:=hm2.ds;have fin:a.defers=[]/\∃ v,(results fnI a.tmps).run P c2.w=.ok v c2.w/\rangePost (FR none) 0 P b (MQ nt c0 H0 n0 Q) { act with defers:=[{ target:=.collected D,args:=#[] }]++act.defers } (.returned v) c2.w:=by
  obtain⟨⟨hrec,_⟩,_⟩:=hm2.is (b,.loop (Xqx rec0 pe) nt n A) (by simp);have hDk:c2.w.heap[D]?=some (.deferred (some [])):=hm2.is (D,.blk (.deferred (some []))) (by simp);obtain⟨x1,x2,x3,x4⟩:=hm2.away (b,.loop (Xqx rec0 pe) nt n A) (by simp);obtain⟨y1,y2,y3,y4⟩:=hm2.away (D,.blk (.deferred (some []))) (by simp);obtain⟨g3,hle3⟩:=g2.turn (.loop { Xqx rec0 pe with state:=.exhausted }) x1 x2 x3 x4;refine⟨hds,.tuple #[],by simp[results,hres,go_sem],?_⟩;refine⟨Xgh pe,_,run_endLoop hrec (by cases pe<;>simp[Xqx,Xgh]),?_⟩;have rt:=g3.reach;have gc:=gd.next (dst:=none) (a:=.sc undef) (v:=undef) (λd h=>by cases h) rt.le rt.sa rt.so2 rt.fr rt.own g3.inv g3.solo g3.le0 .sc .sc;have gc2:X38 nt c0 H0 n0 { c2 with w:=c2.w.putObj b (.loop { Xqx rec0 pe with state:=.exhausted }) } ⟨A,s2.H,s2.n⟩ { act with defers:=[{ target:=.collected D,args:=#[] }]++act.defers } :=
   ⟨gc.inv,gc.solo,gc.frame,gc.ok,gc.size,gc.reach,gc.le0⟩
  have hmk:=hm.kept (rt.weaken gd.le0) (act':=act) rfl;have last:MQ nt c0 H0 n0 Q pe.of { act with defers:=[{ target:=.collected D,args:=#[] }]++act.defers } (c2.w.putObj b (.loop { Xqx rec0 pe with state:=.exhausted })):=by
   refine⟨_,⟨A,s2.H,s2.n⟩,pe,(D,.mark)::μ,rfl,gc2,⟨λp hp=>?_,λp hp=>?_,?_,?_⟩,rfl,hk⟩
   ·rcases List.mem_cons.1 hp with rfl|hp
    ·exact(World.putObj_heap_other (by simp[b,D])).trans hDk
    ·exact hmk.is p hp
   ·rcases List.mem_cons.1 hp with rfl|hp
    ·exact⟨y1,y2,y3,⟨by rw[<-gd.reach.B];exact gd.inv.base,.inl gd.reach.size⟩⟩
    ·exact hmk.away p hp
   ·refine List.nodup_cons.2 ⟨λhmem=>?_,hm.nodup⟩;obtain⟨p,hp,he⟩:=List.mem_map.1 hmem;have:=(hm.is p hp).lt
    grind
   ·show[_]++act.defers=_::dsOf μ;rw[hm.ds];rfl
  cases pe with
  |normal=>exact last
  |exit id=>exact wpIn_exit last
  |ret=>exact wpIn_ret last
 cases ae with
 |exit id=>grind
 |normal=>exact fin
 |ret=>exact fin
end Go.Av


namespace Go.Av
variable [Gls]
section
variable {P:Program} {ops:Array Oper} {keep:Nat->Bool} {v0:Nat->Value}
def Kept (keep:Nat->Bool) (v0:Nat->Value) (a:Act):Prop:=∀ t,keep t=true->a.tmps.getD t undef=v0 t
theorem Kept.put {a:Act} {d:Option Nat} {v:Value} (h:Kept keep v0 a) (hd:∀ t,d=some t->keep t=false):Kept keep v0 (a.put d v):=by
 intro t ht;rw[<-h t ht]
 cases d with
 |none=>rfl
 |some d =>
  show(a.tmps.setIfInBounds d v).getD t undef=_;have hne:d≠t:=λe=>by grind
  simp_all
theorem Oper.wp_keep {o:Oper} {a:Act} {w:World} {K K':Act->World->Prop} {Q Q':Exit->Act->World->Prop} (hno:∀ a w,¬ Q .outgrown a w) (hd:∀ t,o.dst=some t->keep t=false) (ha:Kept keep v0 a)
  (hK:∀ a w,Kept keep v0 a->K a w->K' a w) (hQ:∀ e a w,Kept keep v0 a->Q e a w->Q' e a w) (h:o.wp P a w K Q):o.wp P a w K' Q':=by
 have hl:¬ LetsOut Q:=λ⟨a,w,h⟩=>hno a w h;unfold Oper.wp at *;generalize (execOp a.eval o).run P w=r at *
 cases r with
 |ok n w' =>
  cases n<;>simp only[Oper.upon] at h ⊢ <;>
   first
    |exact hK _ _ (ha.put hd) h
    |exact hK _ _ (Kept.put (a:={ a with defers:=_::a.defers }) ha hd) h
    |exact Calls.mono h (λe w'' he=>by cases e<;>first|exact hK _ _ (ha.put hd) he|exact hQ _ _ _ ha he|exact(hl he).elim)
    |exact Rows.mono h (λ_ _ he=>hK _ _ (ha.put hd) he)
    |exact h
 |halt x w'=>cases x<;>simp only[Oper.upon] at h ⊢<;>first|exact hQ _ _ _ ha h|exact h
theorem Xu5 {md:Region.Mode} {Q Q':Exit->Act->World->Prop} (hno:∀ a w,¬ Q .outgrown a w) (hk:∀ o∈ops.toList,∀ d,o.dst=some d->keep d=false) (hQ:∀ e a w,Kept keep v0 a->Q e a w->Q' e a w) :
  ∀ (fuel:Nat) (listed:Array Bool) (a:Act) (w:World),Kept keep v0 a->wpAny P md ops Q fuel listed a w->wpAny P md ops Q' fuel listed a w:=by
 intro fuel
 induction fuel with
 |zero=>intro listed a w ha h;exact⟨h.1,hQ _ _ _ ha h.2⟩
 |succ fuel ih =>
  intro listed a w ha h;refine⟨λhr=>hQ _ _ _ ha (h.1 hr),λi hi=>?_⟩;have hh:=h.2 i hi;unfold wpOp at hh ⊢
  cases ho:ops[i]? with
  |none=>grind
  |some o =>
   rw[ho] at hh;have hm:o∈ops.toList:=by grind
   simp only at hh ⊢;by_cases hw:Region.wanted o (yielded ops a.tmps)=true
   ·rw[if_pos hw] at hh ⊢;rcases hh with hh|⟨_,a,w,hq⟩
    ·exact .inl (Oper.wp_keep hno (hk o hm) ha (λa w ha h=>ih _ a w ha h) hQ hh)
    ·exact(hno a w hq).elim
   ·rw[if_neg hw] at hh ⊢;exact ih _ _ _ (ha.put (hk o hm)) hh
end
section
variable {hz:Oper->Nat->Bool} {P:Program} {T:Ty} {nt n0:Nat} {ops:Array Oper}
theorem Xr1.drawnK {id n:Nat} {Q:Xp->St->Prop} {A A0 A':Nat->AV} {H H':Xz} {keep:Nat->Bool} (hm:P.follows .mixedOrders=true) (hT:X7a P T) (hpre:X7g 0 ops.toList=true)
  (hk:∀ o∈ops.toList,∀ d,o.dst=some d->keep d=false) (hA0:∀ t,A0 t=A t\/A0 t=.junk)
  (hrun:Xve hz P T nt n ops (X1h ops.toList) 0 ops.toList A0 H [] A' H') (hQ:Q .normal ⟨λt=>bif keep t then A t else A' t,H',n+ops.toList.length⟩):Xr1 P nt n0 (.region id ops true) Q ⟨A,H,n⟩:=by
 obtain⟨rs,hall,hA,hH⟩:=hrun.all A0 H [] (Nat.zero_le _) rfl rfl rfl rfl rfl (λk o r _ hr=>by simp at hr);subst hA hH;intro c0 HH c act gA R hR;have g1:X38 nt c0 HH n0 c ⟨A0,H,n⟩ act:=by
  refine⟨gA.inv,gA.solo,λt=>?_,λt=>?_,gA.size,gA.reach,gA.le0⟩
  ·show X0m c false (A0 t) _;rcases hA0 t with h|h
   ·rw[h];exact gA.frame t
   ·rw[h];exact .junk
  ·show(A0 t).Ok _;rcases hA0 t with h|h
   ·rw[h];exact gA.ok t
   ·rw[h];exact .junk
 have g:=g1.drew;have hno:∀ (Q:Xp->St->Prop) a w,¬ CQ nt c HH n0 act.defers Q .outgrown a w:=by rintro Q a w ⟨c,s,ae,_,_,_,h,_⟩;cases ae<;>cases h
 refine Xax hm hR (by rintro a w ⟨c,s,ae,_,_,_,h,_⟩;cases ae<;>cases h) ?_;have hzz:∀ k,(Array.replicate ops.size false).getD k false=false:=by
  intro k;simp only[Array.getD_eq_getD_getElem?,Array.getElem?_replicate];split<;>rfl
 have hfn:(λk=>(Array.replicate ops.size false).getD k false)=(λ_=>false):=funext hzz;let cb:Ctx:={ c with w:={ c.w with drawn:=c.w.drawn+1 } }
 have gb:X38 nt cb H n cb ⟨A0,H,n⟩ act:=⟨g.inv,g.solo,g.frame,g.ok,g.size,.refl _ _ _,Nat.le_refl _⟩;refine Xu5 (keep:=keep) (v0:=λt=>act.tmps.getD t undef) (Q:=CQ nt cb H n act.defers (λe s=>e=.normal/\s=⟨_,_,n+ops.toList.length⟩)) (by rintro a w ⟨c,s,ae,_,_,_,h,_⟩;cases ae<;>cases h) hk ?_ _ _ _ _ (λt _=>rfl)
  (Xp3 hT hpre hall (Q:=λe s=>e=.normal/\s=⟨_,_,n+ops.toList.length⟩) ⟨rfl,rfl⟩ (Nat.le_refl n) ops.size _ (List.range ops.size) cb act (by simp) (by simp) (λk hk _=>List.mem_range.2 hk) (λi o _ h=>by grind) ?_ rfl)
 ·rintro e a w hkept ⟨c',s',ae,rfl,g',hds,rfl,rfl,rfl⟩;have hr:Reach c0 HH n0 c' _:=g.reach.trans (g'.reach.weaken gA.le0);refine⟨c',⟨λt=>bif keep t then A t else X1k (X6j ops.toList rs) (λx=>true) ops.toList.length A0 t,_,_⟩,.normal,rfl,⟨g'.inv,g'.solo,λt=>?_,λt=>?_,g'.size,hr,Nat.le_trans gA.le0 g'.le0⟩,hds,rfl,hQ⟩
  ·show X0m c' false (bif keep t then A t else _) _
   cases ht:keep t with
   |false=>exact g'.frame t
   |true =>
    rw[hkept t ht];have h0:X0m cb false (A t) (act.tmps.getD t undef):=by
     have:=gA.drew.frame t;exact this
    exact h0.mono g'.reach.le (.inr (gA.ok t))
  ·show(bif keep t then A t else _:AV).Ok _
   cases ht:keep t with
   |false=>exact g'.ok t
   |true=>exact(gA.ok t).mono λq hq=>Nat.lt_of_lt_of_le hq g'.le0
 ·rw[hfn,X7w,X7w];have hM:∀ q,q<n->AtS n (λ_=>false) q:=λq h=>.inl h;exact⟨gb.inv.more hM,gb.solo,gb.frame,λt=>(gb.ok t).mono hM,gb.size,gb.reach,λq hq=>hM q (Nat.lt_of_lt_of_le hq (Nat.le_refl _))⟩
end
end Go.Av


namespace Go.Av.X
variable [Gls]
open Go.Av
def sgn:AV:=.cond false .nils
def isG (a:AV):Bool:=match a with
 |.cond false .nils=>true
 |_=>false
theorem X042 {a:AV} (h:isG a=true):a=sgn:=by
 unfold isG at h;split at h
 ·rfl
 ·cases h
theorem Xqc {a:AV} (h:isG a=true):X52 a=.junk:=by rw[X042 h];rfl
abbrev YC:=List AV->HX->Nat->(Xp->HX->Nat->Prop)->Prop
def Xb7 (b:Nat):AV:=.sc (.func (.yield b) #[] #[])
def sfA (b:Nat) (A:Nat->AV) (t:Nat):AV:=bif isG (A t) then Xb7 b else A t
def sf (yo:Option YC) (b:Nat) (A:Nat->AV):Nat->AV:=match yo with
 |none=>A
 |some _=>sfA b A
def jnA (A:Nat->AV) (t:Nat):AV:=bif isG (A t) then .junk else A t
def jn (yo:Option YC) (A:Nat->AV):Nat->AV:=match yo with
 |none=>A
 |some _=>jnA A
theorem X0ee (yo:Option YC) (A:Nat->AV):evA (jn yo A)=evA A:=by
 cases yo with
 |none=>rfl
 |some y =>
  funext x
  cases x with
  |tmp t =>
   show X52 (jnA A t)=X52 (A t);unfold jnA
   cases h:isG (A t) with
   |true=>rw[cond_true,Xqc h];rfl
   |false=>grind
  |_=>rfl
theorem OpR.hide {P:Program} {nt:Nat} {o:Oper} {A A':Nat->AV} {H:Xz} {n:Nat} {R:AV->Xz->Nat->Prop} (hA:∀ t,A' t=A t\/(A' t=.junk/\∃ v,A t=.sc v)) (h:OpR P nt o ⟨A',H,n⟩ R):OpR P nt o ⟨A,H,n⟩ R:=by
  intro c0 H0 n0 c act g K Q hK Rm;have g':X38 nt c0 H0 n0 c ⟨A',H,n⟩ act:=by
    refine⟨g.inv,g.solo,λt=>?_,λt=>?_,g.size,g.reach,g.le0⟩
    · show X0m c false (A' t) _
      rcases hA t with h|⟨h,_⟩
      · rw[h];exact g.frame t
      · rw[h];exact .junk
    · show(A' t).Ok _
      rcases hA t with h|⟨h,_⟩
      · rw[h];exact g.ok t
      · rw[h];exact .junk
  refine h c0 H0 n0 c act g' K Q (λc' a H' n' v hR hgood=>hK c' a H' n' v hR λdst hd=>?_) Rm;have g2:=hgood dst hd;have keep:∀ t,(∀ d,dst=some d->t≠d)->(act.put dst v).tmps.getD t undef=act.tmps.getD t undef:=by
    intro t ht
    cases dst with
    |none=>rfl
    |some d =>
      have hlt:d<act.tmps.size:=by rw[g.size];grind
      show(act.tmps.setIfInBounds d v).getD t undef=_;rw[Xgk hlt,if_neg (ht d rfl)]
  refine⟨g2.inv,g2.solo,λt=>?_,λt=>?_,g2.size,g2.reach,g2.le0⟩
  · have h2:=g2.frame t
    show X0m c' false (X65 A dst a t) _;rcases hA t with he|⟨he,u,hu⟩
    · have:X65 A dst a t=X65 A' dst a t:=by
        cases dst with
        |none=>exact he.symm
        | some d => by_cases htd : t = d
                    · subst htd;simp only[X65,Xk]
                    · simp only[X65,Xm _ _ htd];exact he.symm
      rw[this];exact h2
    · by_cases hdt:∃ d,dst=some d/\t=d
      · obtain⟨d,rfl,rfl⟩:=hdt
        simp_all [X65,Xk]
      · have hne:∀ d,dst=some d->t≠d:=λd hd he=>hdt ⟨d,hd,he⟩
        have e:X65 A dst a t=A t:=by
          cases dst with
          |none=>rfl
          |some d=>simp only[X65,Xm _ _ (hne d rfl)]
        rw[e,keep t hne,hu];have:=g.frame t;have h0:X0m c false (A t) (act.tmps.getD t undef):=this;rw[hu] at h0;rw[h0.sc_inv];exact .sc
  · have h2:=g2.ok t
    show(X65 A dst a t).Ok _;rcases hA t with he|⟨he,u,hu⟩
    · have:X65 A dst a t=X65 A' dst a t:=by
        cases dst with
        |none=>exact he.symm
        | some d => by_cases htd : t = d
                    · subst htd;simp only[X65,Xk]
                    · simp only[X65,Xm _ _ htd];exact he.symm
      rw[this];exact h2
    · by_cases hdt:∃ d,dst=some d/\t=d
      · obtain⟨d,rfl,rfl⟩:=hdt
        simp_all [X65,Xk]
      · have e:X65 A dst a t=A t:=by
          cases dst with
          |none=>rfl
          |some d=>simp only[X65,Xm _ _ (λhe=>hdt ⟨d,rfl,he⟩)]
        rw[e,hu];exact .sc
theorem X0ed (yo:Option YC) (b:Nat) (A:Nat->AV) (t:Nat):jn yo A t=sf yo b A t\/(jn yo A t=.junk/\∃ v,sf yo b A t=.sc v):=by
 cases yo with
 |none=>exact .inl rfl
 |some y =>
  show jnA A t=sfA b A t\/(jnA A t=.junk/\∃ v,sfA b A t=.sc v);unfold jnA sfA
  cases h:isG (A t) with
  |true=>exact .inr ⟨rfl,_,rfl⟩
  |false=>grind
theorem Xwb (yo:Option YC) (b:Nat) (A:Nat->AV) (d:Option Nat) (a:AV) (ha:isG a=false):X65 (sf yo b A) d a=sf yo b (X65 A d a):=by
 cases yo with
 |none=>rfl
 |some y =>
  cases d with
  |none=>rfl
  |some d =>
   funext t
   show upd (sfA b A) d a t=sfA b (upd A d a) t
   grind [sfA,upd,Xk,Xm]
theorem X0a4 (b:Nat) (A:Nat->AV) (d:Option Nat):X65 (sfA b A) d (Xb7 b)=sfA b (X65 A d sgn):=by
 cases d with
 |none=>rfl
 |some d =>
  funext t
  show upd (sfA b A) d (Xb7 b) t=sfA b (upd A d sgn) t;by_cases h:t=d
  ·subst h;have:sfA b (upd A t sgn) t=Xb7 b:=by unfold sfA;rw[Xk];rfl
   rw[Xk,this]
  grind [sfA,upd,sgn,Xm]
theorem X05g (yo:Option YC) (b:Nat) (A:Nat->AV) {t:Nat} {v:AV} (h:X52 (A t)=v) (hv:v≠.junk):sf yo b A t=A t:=by
 cases yo with
 |none=>rfl
 |some y =>
  show sfA b A t=A t
  grind [sfA,isG,Xqc,absurd]
def YcOk (P:Program) (yc:YC) (ps:Array Nat) (assign body:Code) (ntc:Nat) (A:Nat->AV):Prop :=
 ∀ as H n k,yc as H n k->as.length=ps.size/\(∀ p∈ps.toList,p<ntc)/\X2g assign=false/\X2g body=false/\∃ e H' n',k e H' n' /\
  X2i P ntc n assign (λe1 s μ1=>e1=.normal/\μ1=[]/\X2i P ntc n body (λe2 s _=>e2=e/\s.H=hpX H'/\s.n=n') s []) ⟨zipA ps.toList as A,hpX H,n⟩ []
structure Rd where
 ps:Array Nat
 assign:Code
 body:Code
 ntc:Nat
 A:Nat->AV
def RdOk (d:Rd) (r:Loop):Prop:=r.state=.ready/\r.pending=none/\r.params=d.ps/\r.assign=d.assign/\r.body=d.body
def Xr3 (yo:Option YC) (d:Rd) (b m:Nat) (r:Loop) (pe:Xp) (μr:Mu):Mu:=match yo with
 |none=>μr
 |some _=>(b,.loop (Xqx r pe) d.ntc m d.A)::μr
def YOk (P:Program) (yo:Option YC) (d:Rd):Prop:=∀ yc,yo=some yc->YcOk P yc d.ps d.assign d.body d.ntc d.A
def noJ (l:List AV):Bool:=List.rec (motive:=λ_=>Bool) true (λa _ ih=>AV.casesOn (motive_1:=λ_=>Bool) a false (λ_=>ih) ih (λ_=>ih) (λ_=>ih) (λ_ _=>ih) (λ_ _ _=>ih) (λ_ _ _=>ih) (λ_ _ _=>ih) (λ_ _=>ih) (λ_ _=>ih) (λ_ _=>ih) (λ_ _=>ih)) l
theorem X0aq:∀ (l:List AV),noJ l=true->∀ a∈l,a≠.junk:=by
 intro l
 induction l with
 |nil=>grind
 |cons b l ih =>
  intro h a ha;have h2:b≠.junk/\noJ l=true:=by
   cases b<;>first|(cases h;done)|exact⟨(λe=>by cases e),h⟩
  grind
def ckG (k:AV->HX->Nat->Prop) (a:AV) (H:HX) (n:Nat):Prop:=Bool.rec (motive:=λ_=>Prop) (k a H n) (stk 113) (isG a)
theorem X0ce {k:AV->HX->Nat->Prop} {a:AV} {H:HX} {n:Nat} (h:ckG k a H n):isG a=false/\k a H n:=by
 unfold ckG at h
 cases hg:isG a with
 |true=>rw[hg] at h;cases h
 |false=>simp_all
abbrev KP:=AV->HX->Nat->Xp->Prop
def kpe (k:KP) (pe:Xp) (a:AV) (H:HX) (n:Nat):Prop:=k a H n pe
def ykP (k:KP) (e:Xp) (H:HX) (n:Nat):Prop:=Xp.rec (motive:=λ_=>Prop) (k (.sc (.bool true)) H n .normal) (λi=>k (.sc (.bool false)) H n (.exit i)) (k (.sc (.bool false)) H n .ret) e
theorem X09l (k:KP) (e:Xp) (H:HX) (n:Nat):ykP k e H n=k (.sc (.bool (Xgh e).isNone)) H n e:=by cases e<;>rfl
def nrm (e:Xp) (p:Prop):Prop:=Xp.rec (motive:=λ_=>Prop) p (λ_=>stk 122) (stk 123) e
theorem X03v {e:Xp} {p:Prop} (h:nrm e p):e=.normal/\p:=by
 cases e with
 |normal=>trivial
 |exit i=>cases h
 |ret=>cases h
def opY (T:Ty) (rec:Xdw) (pe:Xp) (F:FX) (H:HX) (n:Nat) (o:Oper) (yc:YC) (k:KP):Prop :=
 match o.op with
 |.move (.tmp t)=>Bool.rec (motive:=λ_=>Prop) (opX T rec F H n o (ckG (kpe k pe))) (k sgn H n pe) (isG (frX F t))
 |.assign (.tmp t)=>Bool.rec (motive:=λ_=>Prop) (opX T rec F H n o (ckG (kpe k pe))) (k sgn H n pe) (isG (frX F t))
 |.call { callee:=.value (.tmp t),args:=args,argTypes:=_ }=>Bool.rec (motive:=λ_=>Prop) (opX T rec F H n o (ckG (kpe k pe)))
   (match o.guard with
   |none=>nrm pe (fL (args.toList.map (evA (frX F))) λas=>Bool.rec (motive:=λ_=>Prop) (stk 111) (yc as H n (ykP k)) (noJ as))
   |some _=>stk 112) (isG (frX F t))
 |_=>opX T rec F H n o (ckG (kpe k pe))
def opZ (T:Ty) (rec:Xdw) (yo:Option YC) (pe:Xp) (F:FX) (H:HX) (n:Nat) (o:Oper) (k:KP):Prop :=
 Option.rec (motive:=λ_=>Prop) (opX T rec F H n o (kpe k pe)) (λyc=>opY T rec pe F H n o yc k) yo
def gz1 (nt:Nat) (ops:Array Oper) (A:Nat->AV) (run skip:Prop) (p:Nat×Bool):Prop :=
 match (ops[p.1]?).bind (·.dst) with
  |some t=>Bool.rec (motive:=λ_=>Prop) (stk 51) (match gdS p.2 (A t) with
   |some g=>Bool.rec (motive:=λ_=>Prop) skip run g
   |none=>stk 52) (Nat.blt t nt)
  |none=>stk 53
def gdZ (nt:Nat) (ops:Array Oper) (A:Nat->AV) (o:Oper) (run skip:Prop):Prop:=Option.rec (motive:=λ_=>Prop) run (gz1 nt ops A run skip) o.guard
theorem X0bl {nt:Nat} {ops:Array Oper} {A:Nat->AV} {o:Oper} {run skip:Prop} (h:gdZ nt ops A o run skip) :
  (run/\(o.guard=none\/∃ j want t,o.guard=some (j,want)/\(ops[j]?).bind (·.dst)=some t/\Nat.blt t nt=true/\gdS want (A t)=some true)) \/
  (skip/\∃ j want t,o.guard=some (j,want)/\(ops[j]?).bind (·.dst)=some t/\Nat.blt t nt=true/\gdS want (A t)=some false):=by
 unfold gdZ at h
 cases hg:o.guard with
 |none=>simp_all
 |some p =>
  obtain⟨j,want⟩:=p;rw[hg] at h;have h:gz1 nt ops A run skip (j,want):=h;unfold gz1 at h;split at h
  ·rename_i t hj
   cases ht:Nat.blt t nt with
   |false=>rw[ht] at h;cases h
   |true =>
    rw[ht] at h;have h:(match gdS want (A t) with
     |some g=>Bool.rec (motive:=λ_=>Prop) skip run g
     |none=>stk 52):=h
    split at h
    ·rename_i g hv
     cases g with
     |false=>grind
     |true=>grind
    ·cases h
  ·cases h
theorem X046 (yo:Option YC) (b:Nat) (A:Nat->AV) {want:Bool} {t:Nat} {q:Bool} (h:gdS want (A t)=some q):gdS want (sf yo b A t)=some q:=by
 have:sf yo b A t=A t:=by
  cases yo with
  |none=>rfl
  |some y =>
   show sfA b A t=A t;unfold sfA
   cases hg:isG (A t) with
   |false=>rfl
   |true=>rw[X042 hg] at h;cases h
 grind
def opsZ (T:Ty) (rec:Xdw) (yo:Option YC) (nt:Nat) (ops:Array Oper) (l:List Oper):Xp->FX->HX->Nat->(Xp->FX->HX->Nat->Prop)->Prop :=
 List.rec (motive:=λ_=>Xp->FX->HX->Nat->(Xp->FX->HX->Nat->Prop)->Prop) (λpe F H n k=>k pe F H n) (λo _ ih pe F H n k =>
  Bool.rec (motive:=λ_=>Prop) (stk 61) (gdZ nt ops (frX F) o (opZ T rec yo pe F H n o λa H n pe=>Xh1 F o.dst a λF=>ih pe F H n k) (Xh1 F o.dst (.cond false (.sc (.bool false))) λF=>ih pe F H n k)) (Xen nt o.dst)) l
theorem Xyc {yo:Option YC} {b:Nat} {A:Nat->AV} {x:Operand} (h:evA A x≠.junk):evA (sf yo b A) x=evA A x:=by
 cases x with
 |tmp t =>
  show X52 (sf yo b A t)=X52 (A t);rw[X05g yo b A (v:=X52 (A t)) rfl h]
 |_=>rfl
theorem X0ak {P:Program} {T:Ty} {rec:Xdw} {yo:Option YC} {nt:Nat} {ops:Array Oper} {l:List Oper} {pe:Xp} {F:FX} {H:HX} {n:Nat} {o:Oper} {k:KP} {d:Rd} (hT:X7a P T) (hr:Xnc P rec) (hy:YOk P yo d) (hd:Xen nt o.dst=true)
  (h:opZ T rec yo pe F H n o k):∃ a H' n' pe',k a H' n' pe'/\∀ n0 b m r μr (K:St->Mu->Prop),(yo≠none->RdOk d r) ->
   (∀ (c0 c:Ctx) (H0:Xz) (act:Act),X38 nt c0 H0 n0 c ⟨sf yo b (frX F),hpX H,n⟩ act->Region.wanted o (yielded ops act.tmps)=true) ->
   X2m P nt n0 ops l K ⟨sf yo b (X65 (frX F) o.dst a),hpX H',n'⟩ (Xr3 yo d b m r pe' μr)->X2m P nt n0 ops (o::l) K ⟨sf yo b (frX F),hpX H,n⟩ (Xr3 yo d b m r pe μr):=by
 have plain:∀ k',opX T rec F H n o k'->∃ a H' n',k' a H' n'/\∀ n0 b μ (K:St->Mu->Prop),(isG a=false\/yo=none) ->
   (∀ (c0 c:Ctx) (H0:Xz) (act:Act),X38 nt c0 H0 n0 c ⟨sf yo b (frX F),hpX H,n⟩ act->Region.wanted o (yielded ops act.tmps)=true) ->
   X2m P nt n0 ops l K ⟨sf yo b (X65 (frX F) o.dst a),hpX H',n'⟩ μ->X2m P nt n0 ops (o::l) K ⟨sf yo b (frX F),hpX H,n⟩ μ:=by
  intro k' h;obtain⟨a,H',n',hR,hk⟩:=X0al (nt:=nt) (A:=jn yo (frX F)) (X0ee yo _) hT hr h;refine⟨a,H',n',hk,λn0 b μ K hg hw hn=>?_⟩;refine X2m.step hw (X5n hd) (OpR.hide (λt=>X0ed yo b (frX F) t) hR) ?_;rintro a' H2 n2 ⟨rfl,rfl,rfl⟩
  grind [X2m,X65,sf,frX,hpX,Xwb]
 cases yo with
 |none =>
  obtain⟨a,H',n',hk,hs⟩:=plain _ h;exact⟨a,H',n',pe,hk,λn0 b m r μr K _ hw hn=>hs n0 b _ K (.inr rfl) hw hn⟩
 |some yc =>
  have h:opY T rec pe F H n o yc k:=h;have plain2:opX T rec F H n o (ckG (kpe k pe))->∃ a H' n' pe',k a H' n' pe'/\∀ n0 b m r μr (K:St->Mu->Prop),(some yc≠none->RdOk d r) ->
    (∀ (c0 c:Ctx) (H0:Xz) (act:Act),X38 nt c0 H0 n0 c ⟨sf (some yc) b (frX F),hpX H,n⟩ act->Region.wanted o (yielded ops act.tmps)=true) ->
    X2m P nt n0 ops l K ⟨sf (some yc) b (X65 (frX F) o.dst a),hpX H',n'⟩ (Xr3 (some yc) d b m r pe' μr)->X2m P nt n0 ops (o::l) K ⟨sf (some yc) b (frX F),hpX H,n⟩ (Xr3 (some yc) d b m r pe μr):=by
   intro h;obtain⟨a,H',n',hk,hs⟩:=plain _ h;obtain⟨hg,hk⟩:=X0ce hk;exact⟨a,H',n',pe,hk,λn0 b m r μr K _ hw hn=>hs n0 b _ K (.inl hg) hw hn⟩
  have mv:∀ (x:Operand) (t:Nat),x=.tmp t->isG (frX F t)=true->(o.op=.move x\/o.op=.assign x)->k sgn H n pe->∃ a H' n' pe',k a H' n' pe'/\∀ n0 b m r μr (K:St->Mu->Prop),(some yc≠none->RdOk d r) ->
    (∀ (c0 c:Ctx) (H0:Xz) (act:Act),X38 nt c0 H0 n0 c ⟨sf (some yc) b (frX F),hpX H,n⟩ act->Region.wanted o (yielded ops act.tmps)=true) ->
    X2m P nt n0 ops l K ⟨sf (some yc) b (X65 (frX F) o.dst a),hpX H',n'⟩ (Xr3 (some yc) d b m r pe' μr)->X2m P nt n0 ops (o::l) K ⟨sf (some yc) b (frX F),hpX H,n⟩ (Xr3 (some yc) d b m r pe μr):=by
   intro x t hx hg ho hk;refine⟨_,_,_,_,hk,λn0 b m r μr K _ hw hn=>?_⟩;have he:evA (sf (some yc) b (frX F)) x=Xb7 b:=by
    rw[hx];show X52 (sfA b (frX F) t)=_;unfold sfA;rw[hg];rfl
   have hR:OpR P nt o ⟨sf (some yc) b (frX F),hpX H,n⟩ (λa' H' n'=>a'=Xb7 b/\H'=hpX H/\n'=n):=by
    refine OpR.pu hT (s:=⟨sf (some yc) b (frX F),hpX H,n⟩) ?_;rw[<-he];rcases ho with ho|ho
    ·rw[ho];exact .move
    ·rw[ho];exact .assign
   refine X2m.step hw (X5n hd) hR ?_;rintro a' H2 n2 ⟨rfl,rfl,rfl⟩;show X2m P nt n0 ops l K ⟨X65 (sfA b (frX F)) o.dst (Xb7 b),hpX H,n2⟩ _;rw[X0a4];exact hn
  unfold opY at h;split at h
  ·rename_i t ho
   cases hg:isG (frX F t) with
   |false=>simp_all
   |true=>rw[hg] at h;grind
  ·rename_i t ho
   cases hg:isG (frX F t) with
   |false=>simp_all
   |true=>rw[hg] at h;grind
  ·rename_i t args ts ho
   cases hg:isG (frX F t) with
   |false=>simp_all
   |true =>
    rw[hg] at h;have h:(match o.guard with
     |none=>nrm pe (fL (args.toList.map (evA (frX F))) λas=>Bool.rec (motive:=λ_=>Prop) (stk 111) (yc as H n (ykP k)) (noJ as))
     |some _=>stk 112):=h
    split at h
    ·rename_i hgd;obtain⟨rfl,h⟩:=X03v h;rw[Xp2] at h
     cases hj:noJ (args.toList.map (evA (frX F))) with
     |false=>rw[hj] at h;cases h
     |true =>
      rw[hj] at h;obtain⟨p1,p2,p3,p4,e,H',n',hk,hs⟩:=hy yc rfl _ _ _ _ h;rw[X09l] at hk;refine⟨_,H',n',e,hk,λn0 b m r μr K hrd hw hn=>?_⟩;obtain⟨r1,r2,r3,r4,r5⟩:=hrd (by simp);have hx:evA (sf (some yc) b (frX F)) (.tmp t)=Xb7 b:=by
       show X52 (sfA b (frX F) t)=_;unfold sfA;rw[hg];rfl
      have has:args.toList.map (evA (sf (some yc) b (frX F)))=args.toList.map (evA (frX F)):=by
       grind [List.map_congr_left,Xyc,X0aq,List.mem_map_of_mem]
      show X2m P nt n0 ops (o::l) K _ ((b,.loop (Xqx r .normal) d.ntc m d.A)::μr);rw[Xk9 r1 r2];refine X2m.yield (r:=r) (ntc:=d.ntc) (m:=m) (Ac:=d.A) ho hgd hd hx has r1 r2 (by grind) (by grind) (by grind) ?_;rw[r3,r4,r5];refine hs.mono ?_;rintro e1 s μ1 ⟨rfl,rfl,hb⟩;refine⟨rfl,rfl,hb.mono ?_⟩;rintro e2 s _ ⟨rfl,e1,e2⟩;rw[e1,e2,Xwb (some yc) b _ _ _ rfl];exact hn
    ·cases h
  grind
theorem X06g {P:Program} {T:Ty} {rec:Xdw} {yo:Option YC} {nt:Nat} {ops:Array Oper} {d:Rd} (hnt:nt<=343) (hT:X7a P T) (hr:Xnc P rec) (hy:YOk P yo d):∀ (l:List Oper) (pe:Xp) (F:FX) (H:HX) (n:Nat) (k:Xp->FX->HX->Nat->Prop),opsZ T rec yo nt ops l pe F H n k ->
  ∃ pe' F' H' n',k pe' F' H' n'/\∀ n0 b m r μr,(yo≠none->RdOk d r)->X2m P nt n0 ops l (λs' μ'=>μ'=Xr3 yo d b m r pe' μr/\s'=⟨sf yo b (frX F'),hpX H',n'⟩) ⟨sf yo b (frX F),hpX H,n⟩ (Xr3 yo d b m r pe μr):=by
 intro l
 induction l with
 |nil=>intro pe F H n k h;exact⟨pe,F,H,n,h,λn0 b m r μr _=>X2m.nil ⟨rfl,rfl⟩⟩
 |cons o l ih =>
  intro pe F H n k h;have h:Bool.rec (motive:=λ_=>Prop) (stk 61) (gdZ nt ops (frX F) o (opZ T rec yo pe F H n o λa H n pe=>Xh1 F o.dst a λF=>opsZ T rec yo nt ops l pe F H n k) (Xh1 F o.dst (.cond false (.sc (.bool false))) λF=>opsZ T rec yo nt ops l pe F H n k)) (Xen nt o.dst):=h
  cases hd:Xen nt o.dst with
  |false=>rw[hd] at h;cases h
  |true =>
   rw[hd] at h;have h:gdZ nt ops (frX F) o (opZ T rec yo pe F H n o λa H n pe=>Xh1 F o.dst a λF=>opsZ T rec yo nt ops l pe F H n k) (Xh1 F o.dst (.cond false (.sc (.bool false))) λF=>opsZ T rec yo nt ops l pe F H n k):=h;have hdlt:=X5n hd;have hd2:∀ t,o.dst=some t->t<343:=λt ht=>Nat.lt_of_lt_of_le (hdlt t ht) hnt;rcases X0bl h with ⟨h,hg⟩|⟨h,j,want,t,hg,hj,ht,hb⟩
   ·obtain⟨a,H1,n1,pe1,h,hs⟩:=X0ak (ops:=ops) (l:=l) hT hr hy hd h;obtain⟨F1,hF,h⟩:=Xg0 hd2 h;obtain⟨pe',F',H',n',hk,hsem⟩:=ih _ _ _ _ _ h;refine⟨pe',F',H',n',hk,λn0 b m r μr hin=>hs n0 b m r μr _ hin ?_ ?_⟩
    ·intro c0 c H0 act g;rcases hg with hgn|⟨j,want,t,hg,hj,ht,hv⟩
     ·simp[Region.wanted,hgn]
     ·exact Xb8 hg hj ht (X046 yo b _ hv) g
    grind
   ·obtain⟨F1,hF,h⟩:=Xg0 hd2 h;obtain⟨pe',F',H',n',hk,hsem⟩:=ih _ _ _ _ _ h;refine⟨pe',F',H',n',hk,λn0 b m r μr hin=>X2m.skip hg hj ht (X046 yo b _ hb) hdlt ?_⟩;show X2m P nt n0 ops l _ ⟨X65 (sf yo b (frX F)) o.dst _,hpX H,n⟩ _;rw[Xwb yo b _ _ _ rfl,<-hF];grind
abbrev KZ:=Xp->Xp->FX->HX->Nat->Prop
abbrev CY:=Option YC->Xp->FX->HX->Nat->KZ->Prop
abbrev RecY:=Option YC->Xdw
def zipX (ps:List Nat):List AV->FX->(FX->Prop)->Prop :=
 List.rec (motive:=λ_=>List AV->FX->(FX->Prop)->Prop) (λ_ F k=>k F) (λp _ ih as F k=>List.rec (motive:=λ_=>Prop) (k F) (λa as _=>Bool.rec (motive:=λ_=>Prop) (stk 121) (Xro F p a λF=>ih as F k) (Nat.blt p 343)) as) ps
theorem X04r:∀ (ps:List Nat) (as:List AV) (F:FX) (k:FX->Prop),zipX ps as F k->∃ F',frX F'=zipA ps as (frX F)/\k F':=by
 intro ps
 induction ps with
 |nil=>intro as F k h;exact⟨F,by rfl,h⟩
 |cons p ps ih =>
  intro as F k h
  cases as with
  |nil=>exact⟨F,rfl,h⟩
  |cons a as =>
   have h:Bool.rec (motive:=λ_=>Prop) (stk 121) (Xro F p a λF=>zipX ps as F k) (Nat.blt p 343):=h
   cases hp:Nat.blt p 343 with
   |false=>rw[hp] at h;cases h
   |true =>
    rw[hp] at h;have h:Xro F p a (λF=>zipX ps as F k):=h;rw[Xk8] at h;obtain⟨F',h1,h2⟩:=ih _ _ _ h;refine⟨F',?_,h2⟩;rw[h1,Xhk F p (by simp_all)];rfl
def Xze (nt:Nat) (l:List Nat):Bool:=List.rec (motive:=λ_=>Bool) true (λp _ ih=>Bool.rec (motive:=λ_=>Bool) false ih (Nat.blt p nt)) l
theorem X03c {nt:Nat}:∀ l:List Nat,Xze nt l=true->∀ p∈l,p<nt:=by
 intro l
 induction l with
 |nil=>grind
 |cons a l ih =>
  intro h p hp;have h:Bool.rec (motive:=λ_=>Bool) false (Xze nt l) (Nat.blt a nt)=true:=h
  cases ha:Nat.blt a nt with
  |false=>rw[ha] at h;cases h
  |true =>
   rw[ha] at h;rcases List.mem_cons.1 hp with rfl|hp
   ·simpa using ha
   ·exact ih h p hp
def rndX (nt:Nat) (ps:List Nat) (assign body:CY) (F:FX):YC:=λas H n k =>
 Bool.rec (motive:=λ_=>Prop) (stk 124) (zipX ps as F λF=>assign none .normal F H n λe _ F H n=>nrm e (body none .normal F H n λe _ _ H n=>k e H n)) (Nat.beq as.length ps.length)
def encP (e:Xp):AV:=Xp.rec (motive:=λ_=>AV) (.tup []) (λi=>.ptr i 0 0) .nils e
def decP (a:AV) (k:Xp->Prop):Prop :=
 AV.casesOn (motive_1:=λ_=>(Xp->Prop)->Prop) a (λ_=>stk 135) (λ_ _=>stk 135) (λk=>k .ret) (λ_ _=>stk 135) (λ_ k=>k .normal) (λ_ _ _=>stk 135) (λ_ _ _ _=>stk 135) (λi _ _ k=>k (.exit i)) (λ_ _ _ _=>stk 135) (λ_ _ _=>stk 135) (λ_ _ _=>stk 135) (λ_ _ _=>stk 135) (λ_ _ _=>stk 135) k
theorem Xys (e:Xp) (k:Xp->Prop):decP (encP e) k=k e:=by cases e<;>rfl
def rfX (rec:RecY) (nt:Nat) (g:Operand) (ps:Array Nat) (ca cb:Code) (assign body:CY):CY:=λyo pe F H n k =>
 Option.rec (motive:=λ_=>Prop) (match evA (frX F) g with
  |.fn gf caps=>Bool.rec (motive:=λ_=>Prop) (stk 131) (rec (some (rndX nt ps.toList assign body F)) gf (sgn::caps) H n λa H n=>decP a λe=>k e pe F H n) (Bool.not (X2g ca)&&(Bool.not (X2g cb)&&Xze nt ps.toList))
  |a=>StkA 132 a) (λ_=>stk 133) yo
abbrev BZ:=Xp->FX->HX->Nat->KZ->Prop
def X01w (b:BZ) (m:Nat):BZ :=
 Nat.rec (motive:=λ_=>BZ) (λ_ _ _ _ _=>stk 91) (λ_ ih pe F H n k=>b pe F H n λe pe F H n=>Xp.rec (motive:=λ_=>Prop) (ih pe F H n k) (λi=>k (.exit i) pe F H n) (k .ret pe F H n) e) m
def clrX (m:Nat):FX->(FX->Prop)->Prop :=
 Nat.rec (motive:=λ_=>FX->(FX->Prop)->Prop) (λF k=>k F) (λi ih F k=>Bool.rec (motive:=λ_=>Prop) (ih F k) (Xro F i .junk λF=>ih F k) (isG (frX F i))) m
theorem X08g:∀ (m:Nat) (F:FX) (k:FX->Prop),m<=343->clrX m F k->∃ F',k F'/\∀ t,frX F' t=bif Nat.blt t m&&isG (frX F t) then .junk else frX F t:=by
 intro m
 induction m with
 |zero=>intro F k _ h;exact⟨F,h,λt=>rfl⟩
 |succ m ih =>
  intro F k hm h;have h:Bool.rec (motive:=λ_=>Prop) (clrX m F k) (Xro F m .junk λF=>clrX m F k) (isG (frX F m)):=h
  cases hg:isG (frX F m) with
  |false =>
   rw[hg] at h;obtain⟨F',hk,hF⟩:=ih _ _ om h;refine⟨F',hk,λt=>?_⟩;rw[hF];by_cases ht:t=m
   ·grind
   ·have:Nat.blt t (m+1)=Nat.blt t m:=by
     rw[Bool.eq_iff_iff];simp;omega
    rw[this]
  |true =>
   rw[hg] at h;have h:Xro F m .junk (λF=>clrX m F k):=h;rw[Xk8] at h;obtain⟨F',hk,hF⟩:=ih _ _ om h;refine⟨F',hk,λt=>?_⟩;rw[hF,Xhk F m om];by_cases ht:t=m
   ·subst ht;rw[hg,Xk,show Nat.blt t (t+1)=true by simp];simp
   ·rw[Xm _ _ ht];have:Nat.blt t (m+1)=Nat.blt t m:=by
     rw[Bool.eq_iff_iff];simp;omega
    rw[this]
def rstX (G:FX) (m:Nat):FX->(FX->Prop)->Prop :=
 Nat.rec (motive:=λ_=>FX->(FX->Prop)->Prop) (λF k=>k F) (λi ih F k=>Bool.rec (motive:=λ_=>Prop) (Bool.rec (motive:=λ_=>Prop) (ih F k) (stk 136) (isG (frX F i))) (Xro F i sgn λF=>ih F k) (isG (frX G i))) m
theorem X062 {G:FX}:∀ (m:Nat) (F:FX) (k:FX->Prop),m<=343->rstX G m F k->∃ F',k F'/\(∀ t,frX F' t=bif Nat.blt t m&&isG (frX G t) then sgn else frX F t)/\∀ t,t<m->isG (frX G t)=false->isG (frX F t)=false:=by
 intro m
 induction m with
 |zero=>intro F k _ h;exact⟨F,h,λt=>rfl,λt ht=>by omega⟩
 |succ m ih =>
  intro F k hm h;have h:Bool.rec (motive:=λ_=>Prop) (Bool.rec (motive:=λ_=>Prop) (rstX G m F k) (stk 136) (isG (frX F m))) (Xro F m sgn λF=>rstX G m F k) (isG (frX G m)):=h;have hb:∀ t,t≠m->Nat.blt t (m+1)=Nat.blt t m:=λt ht=>by rw[Bool.eq_iff_iff];simp;omega
  cases hg:isG (frX G m) with
  |false =>
   rw[hg] at h;have h:Bool.rec (motive:=λ_=>Prop) (rstX G m F k) (stk 136) (isG (frX F m)):=h
   cases hf:isG (frX F m) with
   |true=>rw[hf] at h;cases h
   |false =>
    rw[hf] at h
    grind
  |true =>
   rw[hg] at h;have h:Xro F m sgn (λF=>rstX G m F k):=h;rw[Xk8] at h;obtain⟨F',hk,hF,hn⟩:=ih _ _ om h;refine⟨F',hk,λt=>?_,λt ht hgt=>?_⟩
   ·rw[hF,Xhk F m om];by_cases ht:t=m
    ·subst ht;rw[hg,Xk,show Nat.blt t (t+1)=true by simp];simp
    ·rw[Xm _ _ ht,hb t ht]
   ·by_cases h2:t=m
    ·grind
    ·have:=hn t om hgt;rw[Xhk F m om,Xm _ _ h2] at this;exact this
def Xs7 (F:FX) (l:List Oper):Bool:=List.rec (motive:=λ_=>Bool) true (λo _ ih=>Option.rec (motive:=λ_=>Bool) ih (λd=>Bool.rec (motive:=λ_=>Bool) ih false (isG (frX F d))) o.dst) l
theorem X033 {F:FX}:∀ l:List Oper,Xs7 F l=true->∀ o∈l,∀ d,o.dst=some d->isG (frX F d)=false:=by
 intro l
 induction l with
 |nil=>grind
 |cons o l ih =>
  intro h q hq d hd;have h:Option.rec (motive:=λ_=>Bool) (Xs7 F l) (λd=>Bool.rec (motive:=λ_=>Bool) (Xs7 F l) false (isG (frX F d))) o.dst=true:=h;have h2:Xs7 F l=true/\∀ d,o.dst=some d->isG (frX F d)=false:=by
   cases ho:o.dst with
   |none=>simp_all
   |some e =>
    rw[ho] at h;have h:Bool.rec (motive:=λ_=>Bool) (Xs7 F l) false (isG (frX F e))=true:=h
    cases hg:isG (frX F e) with
    |true=>simp_all
    |false=>simp_all
  grind
def drY (T:Ty) (rec:Xdw) (nt:Nat) (ops:Array Oper) (pe:Xp) (F:FX) (H:HX) (n:Nat) (k:KZ):Prop :=
 Bool.rec (motive:=λ_=>Prop) (stk 134) (clrX 343 F λF0=>hzK ops.toList F0 λhz=>drX T rec hz nt n ops (X1h ops.toList) ((X1h ops.toList).zip (ops.toList.map hz)) ops.toList 0 F0 H [] λF1 H=>rstX F 343 F1 λF2=>fN (n+ops.toList.length) λn=>k .normal pe F2 H n) (Xs7 F ops.toList)
def X0a6 (ops:List Oper) (n:Nat):Operand->Option Operand :=
 Nat.rec (motive:=λ_=>Operand->Option Operand) (λ_=>none) (λ_ ih x=>match x with
  |.tmp t=>match ops.find? (λo=>match o.dst with|some d=>Nat.beq d t|none=>false) with
   |none=>some x
   |some o=>match o.op with
    |.move y=>ih y
    |.assign y=>ih y
    |_=>none
  |_=>none) n
def cut1 (ops:List Oper) (ev:Operand->AV) (o:Oper) (H:HX) (k:HX->Prop):Prop :=
 match o.op with
 |.call { callee:=.builtin .append,args:=⟨[s,_]⟩,argTypes:=_ }=>match X0a6 ops 6 s with
  |some x=>match ev x with
   |.ref q 0 m=>match hpX H q with
    |some y=>Bool.rec (motive:=λ_=>Prop) (k H) (fO sh { y with es:=y.es.take m } λy=>X3a H q (some y) k) (Nat.blt m y.es.length)
    |none=>k H
   |_=>k H
  |none=>k H
 |_=>k H
def cutD (ev:Operand->AV) (l:List Oper):List Oper->HX->(HX->Prop)->Prop :=
 List.rec (motive:=λ_=>List Oper->HX->(HX->Prop)->Prop) (λ_ H k=>k H) (λo _ ih pre H k=>cut1 pre ev o H λH=>ih (o::pre) H k) l
inductive Cut:Xz->Xz->Prop
 |refl {H}:Cut H H
 |step {H H' q y m} (hy:H q=some y) (h:Cut (upd H q (some { y with es:=y.es.take m })) H'):Cut H H'
theorem Cut.trans {H H' H'':Xz} (h:Cut H H') (k:Cut H' H''):Cut H H'':=by
 induction h with
 |refl=>exact k
 |step hy _ ih=>exact .step hy (ih k)
theorem X088 {ev:Operand->AV}:∀ (l pre:List Oper) (H:HX) (k:HX->Prop),cutD ev l pre H k->∃ H',Cut (hpX H) (hpX H')/\k H':=by
 intro l
 induction l with
 |nil=>intro pre H k h;exact⟨H,.refl,h⟩
 |cons o l ih =>
  intro pre H k h;have h:cut1 pre ev o H (λH=>cutD ev l (o::pre) H k):=h;have same:cutD ev l (o::pre) H k->∃ H',Cut (hpX H) (hpX H')/\k H':=λh=>ih _ H k h;unfold cut1 at h;split at h
  ·split at h
   ·split at h
    ·split at h
     ·rename_i q m _ _ y hy
      cases hb:Nat.blt m y.es.length with
      |false=>simp_all
      |true =>
       rw[hb] at h;have h:fO sh { y with es:=y.es.take m } (λy=>X3a H q (some y) λH=>cutD ev l (o::pre) H k):=h;rw[Xel X8z] at h;obtain⟨H1,h1,h2⟩:=X39 h;obtain⟨H',h3,h4⟩:=ih _ _ _ h2;exact⟨H',.step hy (by rw[<-h1];exact h3),h4⟩
     grind
    grind
   grind
  grind
theorem X2i.cutH {P:Program} {nt n0 n:Nat} {code:Code} {Q:Xp->St->Mu->Prop} {A:Nat->AV} {H H':Xz} {μ:Mu} (hc:Cut H H') (h:X2i P nt n0 code Q ⟨A,H',n⟩ μ):X2i P nt n0 code Q ⟨A,H,n⟩ μ:=by
 induction hc with
 |refl=>exact h
 |@step H H' q y m hy _ ih =>
  have h:=ih h;intro c0 H0 c act g hm;refine h c0 H0 c act (g.trunc hy m) ⟨hm.is,λp hp=>?_,hm.nodup,hm.ds⟩;obtain⟨a1,a2,a3,a4⟩:=hm.away p hp
  grind [upd,Xm]
inductive Fz:(Nat->AV)->Xz->(Nat->AV)->Xz->Prop
 |refl {A H}:Fz A H A H
 |step {A H A' H' t q y} (ht:A t=.ref q 0 y.es.length) (hy:H q=some y) (hf:∀ e∈y.es,∀ a∈e.cells,∃ v,a=.sc v) (h:Fz (upd A t (.list true y.es)) (upd H q none) A' H'):Fz A H A' H'
theorem X2i.fz {P:Program} {nt n0 n:Nat} {code:Code} {Q:Xp->St->Mu->Prop} {A A':Nat->AV} {H H':Xz} {μ:Mu} (hc:Fz A H A' H') (h:X2i P nt n0 code Q ⟨A',H',n⟩ μ):X2i P nt n0 code Q ⟨A,H,n⟩ μ:=by
 induction hc with
 |refl=>exact h
 |@step A H A' H' t q y ht hy hf _ ih =>
  have h:=ih h;intro c0 H0 c act g hm R hR;obtain⟨c',hw,g',hfrz,hle,hρ,hSa,hSo⟩:=X38.frz g hy hf;rw[<-hw];refine h c0 H0 c' act ⟨g'.inv,g'.solo,λt'=>?_,λt'=>?_,g'.size,g'.reach,g'.le0⟩ ⟨λp hp=>(hm.is p hp).le (by rw[hw]) (hle _),λp hp=>?_,hm.nodup,hm.ds⟩ R hR
  ·show X0m c' false (upd A t (.list true y.es) t') _;by_cases e:t'=t
   ·subst e;rw[Xk];have:=g.frame t'
    grind
   ·rw[Xm _ _ e];exact g'.frame t'
  ·show(upd A t (.list true y.es) t').Ok _;by_cases e:t'=t
   ·subst e;rw[Xk];exact .list
   ·rw[Xm _ _ e];exact g'.ok t'
  ·obtain⟨a1,a2,a3,a4⟩:=hm.away p hp
   grind [upd,Xk,Xm]
def r3L (ops:List Oper):List Nat:=ops.filterMap λo=>match o.op with
 |.slice _ x _ (some _) (some _)=>match X0a6 ops 8 x with
  |some (.tmp t)=>some t
  |_=>none
 |_=>none
def fzD (l:List Nat):FX->HX->(FX->HX->Prop)->Prop :=
 List.rec (motive:=λ_=>FX->HX->(FX->HX->Prop)->Prop) (λF H k=>k F H) (λt _ ih F H k=>match frX F t with
  |.ref q 0 len=>match hpX H q with
   |some y=>bif Nat.blt t 343&&(Nat.beq y.es.length len&&flB y.es) then fA (.list true y.es) λa=>Xh1 F (some t) a λF=>X3a H q none λH=>ih F H k else ih F H k
   |none=>ih F H k
  |_=>ih F H k) l
theorem X0bo:∀ (l:List Nat) (F:FX) (H:HX) (k:FX->HX->Prop),fzD l F H k->∃ F' H',Fz (frX F) (hpX H) (frX F') (hpX H')/\k F' H':=by
 intro l
 induction l with
 |nil=>intro F H k h;exact⟨F,H,.refl,h⟩
 |cons t l ih =>
  intro F H k h;have h:(match frX F t with
   |.ref q 0 len=>match hpX H q with
    |some y=>bif Nat.blt t 343&&(Nat.beq y.es.length len&&flB y.es) then fA (.list true y.es) λa=>Xh1 F (some t) a λF=>X3a H q none λH=>fzD l F H k else fzD l F H k
    |none=>fzD l F H k
   |_=>fzD l F H k):=h
  split at h
  ·rename_i q len ht;split at h
   ·rename_i y hy
    cases hc:(Nat.blt t 343&&(Nat.beq y.es.length len&&flB y.es)) with
    |false=>grind
    |true =>
     rw[hc,cond_true,Xb2] at h;simp only[Bool.and_eq_true,Nat.beq_eq] at hc;obtain⟨c1,rfl,c3⟩:=hc;have c1:t<343:=by simp_all
     obtain⟨F1,e1,h⟩:=Xg0 (λt' ht'=>by grind) h;obtain⟨H1,e2,h⟩:=X39 h;obtain⟨F',H',h1,h2⟩:=ih _ _ _ h;refine⟨F',H',.step ht hy (X048 c3) ?_,h2⟩;rw[e1,e2] at h1;exact h1
   grind
  grind
def Xad (T:Ty) (X:Nat->Option (List AV->Option AV)) (rec:RecY) (nt fuel:Nat) (c:Code):CY :=
 Code.rec (motive:=λ_=>CY) (λ_ pe F H n k=>k .normal pe F H n)
  (λ_ ops draw yo pe F H n k=>Bool.rec (motive:=λ_=>Prop) (opsZ T (extR X (rec none)) yo nt ops ops.toList pe F H n λpe F H n=>k .normal pe F H n)
   (Bool.rec (motive:=λ_=>Prop) (stk 94) (cutD (evA (frX F)) ops.toList [] H λH=>Option.rec (motive:=λ_=>Prop) (fzD (r3L ops.toList) F H λF H=>hzK ops.toList F λhz=>drX T (rec none) hz nt n ops (X1h ops.toList) ((X1h ops.toList).zip (ops.toList.map hz)) ops.toList 0 F H [] λF H=>fN (n+ops.toList.length) λn=>k .normal pe F H n) (λ_=>drY T (rec none) nt ops pe F H n k) yo) (X7g 0 ops.toList)) draw)
  (λ_ _ iha ihb yo pe F H n k=>iha yo pe F H n λe pe F H n=>Xp.rec (motive:=λ_=>Prop) (ihb yo pe F H n k) (λi=>k (.exit i) pe F H n) (k .ret pe F H n) e)
  (λc _ _ iha ihb yo pe F H n k=>X08d (evA (frX F) c) (iha yo pe F H n k) (ihb yo pe F H n k))
  (λid _ ih yo pe F H n k=>ih yo pe F H n λe pe F H n=>Xp.rec (motive:=λ_=>Prop) (k .normal pe F H n) (λi=>Bool.rec (motive:=λ_=>Prop) (k (.exit i) pe F H n) (k .normal pe F H n) (Nat.beq i id)) (k .ret pe F H n) e)
  (λ_ ih yo pe F H n k=>X01w (ih yo) fuel pe F H n k)
  (λg ps ca cb iha ihb=>rfX rec nt g ps ca cb iha ihb)
  (λi _ pe F H n k=>k (.exit i) pe F H n)
  (λ_ ih yo pe F H n k=>ih yo pe F H n k) (λ_ _ pe F H n k=>k .normal pe F H n) (λ_ _ _ _ _ _ _=>stk 96) (λ_ pe F H n k=>k .ret pe F H n) (λ_ _ _ _ _ _ _=>stk 97) c
def Xtz (P:Program) (rec:RecY):Prop:=∀ (yc:YC) f caps H n k d,YOk P (some yc) d->rec (some yc) f (sgn::caps) H n k ->
 ∃ fn code pe H' n',Xmg P f fn code/\fn.results=#[]/\caps.length+1<=fn.ntmps/\k (encP pe) H' n'/\∀ b m r μr,RdOk d r ->
  X2i P fn.ntmps n code (λe s μ'=>(∀ id,e≠.exit id)/\μ'=Xr3 (some yc) d b m r pe μr/\s.H=hpX H'/\s.n=n') ⟨Xjl (Xb7 b::caps),hpX H,n⟩ (Xr3 (some yc) d b m r .normal μr)
def Fix (c:Code) (yo:Option YC):Prop:=X2g c=false\/yo≠none
def EndZ (yo:Option YC) (d:Rd) (c:Code) (b m:Nat) (r:Loop) (μr:Mu) (e:Xp) (pe':Xp) (F':FX) (H':HX) (n':Nat):Xp->St->Mu->Prop :=
 λe2 s μ'=>e2=e/\(∃ μr',(Fix c yo->μr'=μr)/\μ'=Xr3 yo d b m r pe' μr')/\s=⟨sf yo b (frX F'),hpX H',n'⟩
def SemZ (P:Program) (yo:Option YC) (d:Rd) (nt:Nat) (c:Code) (pe:Xp) (F:FX) (H:HX) (n:Nat) (e:Xp) (pe':Xp) (F':FX) (H':HX) (n':Nat):Prop :=
 ∀ n0 b m r μr,(yo≠none->RdOk d r)->X2i P nt n0 c (EndZ yo d c b m r μr e pe' F' H' n') ⟨sf yo b (frX F),hpX H,n⟩ (Xr3 yo d b m r pe μr)
theorem EndZ.here {yo:Option YC} {d:Rd} {c:Code} {b m:Nat} {r:Loop} {μr:Mu} {e pe:Xp} {F:FX} {H:HX} {n:Nat}:EndZ yo d c b m r μr e pe F H n e ⟨sf yo b (frX F),hpX H,n⟩ (Xr3 yo d b m r pe μr) :=
 ⟨rfl,⟨μr,λ_=>rfl,rfl⟩,rfl⟩
theorem EndZ.on {P:Program} {yo:Option YC} {d:Rd} {nt n0:Nat} {c x y:Code} {b m:Nat} {r:Loop} {μr:Mu} {e pe:Xp} {F:FX} {H:HX} {n:Nat} {e' pe':Xp} {F':FX} {H':HX} {n':Nat} {μr1:Mu}
  (hx:Fix c yo->μr1=μr) (hy:Fix c yo->Fix y yo) (hin:yo≠none->RdOk d r) (h:SemZ P yo d nt y pe F H n e' pe' F' H' n') :
  X2i P nt n0 y (EndZ yo d c b m r μr e' pe' F' H' n') ⟨sf yo b (frX F),hpX H,n⟩ (Xr3 yo d b m r pe μr1):=by
 refine(h n0 b m r μr1 hin).mono ?_;rintro e2 s μ2 ⟨rfl,⟨μr2,hf,rfl⟩,rfl⟩;exact⟨rfl,⟨μr2,λhc=>(hf (hy hc)).trans (hx hc),rfl⟩,rfl⟩
inductive Xvc (P:Program) (yo:Option YC) (d:Rd) (nt:Nat) (b:Code) (e:Xp) (pe':Xp) (F':FX) (H':HX) (n':Nat):Nat->Xp->FX->HX->Nat->Prop
 |more {m pe F H n pe1 F1 H1 n1} (h:SemZ P yo d nt b pe F H n .normal pe1 F1 H1 n1) (hs:Xvc P yo d nt b e pe' F' H' n' m pe1 F1 H1 n1):Xvc P yo d nt b e pe' F' H' n' (m+1) pe F H n
 |last {m pe F H n} (h:SemZ P yo d nt b pe F H n e pe' F' H' n') (hne:e≠.normal):Xvc P yo d nt b e pe' F' H' n' (m+1) pe F H n
theorem Xvc.sem {P:Program} {yo:Option YC} {d:Rd} {nt:Nat} {c:Code} {e:Xp} {pe':Xp} {F':FX} {H':HX} {n':Nat} {k:Nat} {pe:Xp} {F:FX} {H:HX} {n:Nat} (h:Xvc P yo d nt c e pe' F' H' n' k pe F H n) :
  ∀ n0 b m r μr,(yo≠none->RdOk d r)->X6b P nt n0 c (EndZ yo d c b m r μr e pe' F' H' n') ⟨sf yo b (frX F),hpX H,n⟩ (Xr3 yo d b m r pe μr):=by
 induction h with
 |more h _ ih =>
  intro n0 b m r μr hin;refine X6b.round ((h n0 b m r μr hin).mono ?_);rintro e2 s μ1 ⟨rfl,⟨μr1,hf,rfl⟩,rfl⟩;have:=ih n0 b m r μr1 hin;intro c0 H0 c act g hm R hR;have h2:=this c0 H0 c act g hm R hR;intro b' k cs hro;obtain⟨e,a',w',hq,harr⟩:=h2 b' k cs hro;obtain⟨c',s',ae,μ',e1,e2,e3,e4,e5,⟨μr2,e6,e7⟩,e8⟩:=hq;exact⟨e,a',w',⟨c',s',ae,μ',e1,e2,e3,e4,e5,⟨μr2,λhx=>(e6 hx).trans (hf hx),e7⟩,e8⟩,harr⟩
 |last h hne =>
  intro n0 b m r μr hin;refine X6b.round ((h n0 b m r μr hin).mono ?_);rintro e2 s μ1 ⟨rfl,hf,rfl⟩
  cases e2 with
  |normal=>grind
  |exit id=>trivial
  |ret=>trivial
theorem Xtq {P:Program} {T:Ty} {X:Nat->Option (List AV->Option AV)} {rec:RecY} {nt fuel:Nat} (hm:P.follows .mixedOrders=true) (hnt:nt<=343) (hX:Xvd P X) (hT:X7a P T) (hr:Xht P (rec none)) (hit:Xtz P rec):∀ (code:Code) (yo:Option YC) (d:Rd) (pe:Xp) (F:FX) (H:HX) (n:Nat) (k:KZ),YOk P yo d->Xad T X rec nt fuel code yo pe F H n k ->
  ∃ e pe' F' H' n',k e pe' F' H' n'/\SemZ P yo d nt code pe F H n e pe' F' H' n':=by
 intro code
 induction code with
 |skip=>intro yo d pe F H n k hy h;exact⟨.normal,pe,F,H,n,h,λn0 b m r μr _=>X2i.skip .here⟩
 |label l=>intro yo d pe F H n k hy h;exact⟨.normal,pe,F,H,n,h,λn0 b m r μr _=>X2i.label .here⟩
 |exit id=>intro yo d pe F H n k hy h;exact⟨.exit id,pe,F,H,n,h,λn0 b m r μr _=>X2i.exit .here⟩
 |ret=>intro yo d pe F H n k hy h;exact⟨.ret,pe,F,H,n,h,λn0 b m r μr _=>X2i.ret .here⟩
 |seq x y iha ihb =>
  intro yo d pe F H n k hy h;have h:Xad T X rec nt fuel x yo pe F H n (λe pe F H n=>Xp.rec (motive:=λ_=>Prop) (Xad T X rec nt fuel y yo pe F H n k) (λi=>k (.exit i) pe F H n) (k .ret pe F H n) e):=h;obtain⟨e,pe1,F1,H1,n1,h1,s1⟩:=iha _ _ _ _ _ _ _ hy h;have fx:Fix (.seq x y) yo->Fix x yo:=λhf=>hf.imp (λh=>by grind [X2g,Bool.or_eq_false_iff]) id;have fy:Fix (.seq x y) yo->Fix y yo:=λhf=>hf.imp (λh=>by grind [X2g,Bool.or_eq_false_iff]) id
  cases e with
  |normal =>
   obtain⟨e,pe2,F2,H2,n2,h2,s2⟩:=ihb _ _ _ _ _ _ _ hy h1;refine⟨e,pe2,F2,H2,n2,h2,λn0 b m r μr hin=>X2i.seq ((s1 n0 b m r μr hin).mono ?_)⟩;rintro e' s μ1 ⟨rfl,⟨μr1,hf,rfl⟩,rfl⟩;exact EndZ.on (x:=x) (e:=e) (λhc=>hf (fx hc)) fy hin s2
  |exit i =>
   refine⟨.exit i,pe1,F1,H1,n1,h1,λn0 b m r μr hin=>X2i.seq ((s1 n0 b m r μr hin).mono ?_)⟩;rintro e' s μ1 ⟨rfl,⟨μr1,hf,rfl⟩,rfl⟩;exact⟨rfl,⟨μr1,λhx=>hf (fx hx),rfl⟩,rfl⟩
  |ret =>
   refine⟨.ret,pe1,F1,H1,n1,h1,λn0 b m r μr hin=>X2i.seq ((s1 n0 b m r μr hin).mono ?_)⟩;rintro e' s μ1 ⟨rfl,⟨μr1,hf,rfl⟩,rfl⟩;exact⟨rfl,⟨μr1,λhx=>hf (fx hx),rfl⟩,rfl⟩
 |cond x p q iha ihb =>
  intro yo d pe F H n k hy h;have h:X08d (evA (frX F) x) (Xad T X rec nt fuel p yo pe F H n k) (Xad T X rec nt fuel q yo pe F H n k):=h;have fx:Fix (.cond x p q) yo->Fix p yo:=λhf=>hf.imp (λh=>by grind [X2g,Bool.or_eq_false_iff]) id;have fy:Fix (.cond x p q) yo->Fix q yo:=λhf=>hf.imp (λh=>by grind [X2g,Bool.or_eq_false_iff]) id;rcases X038 h with ⟨hx,h⟩|⟨hx,h⟩
  ·obtain⟨e,pe1,F1,H1,n1,h1,s1⟩:=iha _ _ _ _ _ _ _ hy h;refine⟨e,pe1,F1,H1,n1,h1,λn0 b m r μr hin=>X2i.cond (s:=⟨sf yo b (frX F),hpX H,n⟩) (t:=true) ?_ (λ_=>(s1 n0 b m r μr hin).mono ?_) (λh=>by cases h)⟩
   ·grind [evA,sf,frX,Xyc]
   ·rintro e' s μ1 ⟨rfl,⟨μr1,hf,rfl⟩,rfl⟩;exact⟨rfl,⟨μr1,λhx=>hf (fx hx),rfl⟩,rfl⟩
  ·obtain⟨e,pe1,F1,H1,n1,h1,s1⟩:=ihb _ _ _ _ _ _ _ hy h;refine⟨e,pe1,F1,H1,n1,h1,λn0 b m r μr hin=>X2i.cond (s:=⟨sf yo b (frX F),hpX H,n⟩) (t:=false) ?_ (λh=>by cases h) (λ_=>(s1 n0 b m r μr hin).mono ?_)⟩
   ·grind [evA,sf,frX,Xyc]
   ·rintro e' s μ1 ⟨rfl,⟨μr1,hf,rfl⟩,rfl⟩;exact⟨rfl,⟨μr1,λhx=>hf (fy hx),rfl⟩,rfl⟩
 |block id c ih =>
  intro yo d pe F H n k hy h;have h:Xad T X rec nt fuel c yo pe F H n (λe pe F H n=>Xp.rec (motive:=λ_=>Prop) (k .normal pe F H n) (λi=>Bool.rec (motive:=λ_=>Prop) (k (.exit i) pe F H n) (k .normal pe F H n) (Nat.beq i id)) (k .ret pe F H n) e):=h;obtain⟨e,pe1,F1,H1,n1,h1,s1⟩:=ih _ _ _ _ _ _ _ hy h
  cases e with
  |normal =>
   refine⟨.normal,pe1,F1,H1,n1,h1,λn0 b m r μr hin=>X2i.block ((s1 n0 b m r μr hin).mono ?_)⟩;rintro e' s μ1 ⟨rfl,hf,rfl⟩;trivial
  |ret =>
   refine⟨.ret,pe1,F1,H1,n1,h1,λn0 b m r μr hin=>X2i.block ((s1 n0 b m r μr hin).mono ?_)⟩;rintro e' s μ1 ⟨rfl,hf,rfl⟩;trivial
  |exit i =>
   have h1:Bool.rec (motive:=λ_=>Prop) (k (.exit i) pe1 F1 H1 n1) (k .normal pe1 F1 H1 n1) (Nat.beq i id):=h1
   cases hb:Nat.beq i id with
   |true =>
    rw[hb] at h1;refine⟨.normal,pe1,F1,H1,n1,h1,λn0 b m r μr hin=>X2i.block ((s1 n0 b m r μr hin).mono ?_)⟩;rintro e' s μ1 ⟨rfl,hf,rfl⟩;show bif Nat.beq i id then _ else _;rw[hb];trivial
   |false =>
    rw[hb] at h1;refine⟨.exit i,pe1,F1,H1,n1,h1,λn0 b m r μr hin=>X2i.block ((s1 n0 b m r μr hin).mono ?_)⟩;rintro e' s μ1 ⟨rfl,hf,rfl⟩;show bif Nat.beq i id then _ else _;rw[hb];trivial
 |loop c ih =>
  intro yo d pe F H n k hy h;have h:X01w (Xad T X rec nt fuel c yo) fuel pe F H n k:=h;have key:∀ m pe F H n,X01w (Xad T X rec nt fuel c yo) m pe F H n k->∃ e pe' F' H' n',k e pe' F' H' n'/\Xvc P yo d nt c e pe' F' H' n' m pe F H n:=by
   intro m
   induction m with
   |zero=>intro pe F H n h;cases h
   |succ m ihm =>
    intro pe F H n h;have h:Xad T X rec nt fuel c yo pe F H n (λe pe F H n=>Xp.rec (motive:=λ_=>Prop) (X01w (Xad T X rec nt fuel c yo) m pe F H n k) (λi=>k (.exit i) pe F H n) (k .ret pe F H n) e):=h;obtain⟨e,pe1,F1,H1,n1,h1,s1⟩:=ih _ _ _ _ _ _ _ hy h
    cases e with
    |normal =>
     obtain⟨e,pe2,F2,H2,n2,h2,s2⟩:=ihm _ _ _ _ h1;exact⟨e,pe2,F2,H2,n2,h2,.more s1 s2⟩
    |exit i=>exact⟨_,pe1,F1,H1,n1,h1,.last s1 (by simp)⟩
    |ret=>exact⟨_,pe1,F1,H1,n1,h1,.last s1 (by simp)⟩
  obtain⟨e,pe',F',H',n',hk,hl⟩:=key _ _ _ _ _ h;exact⟨e,pe',F',H',n',hk,λn0 b m r μr hin=>X2i.loop (hl.sem n0 b m r μr hin)⟩
 |scope c ih =>
  intro yo d pe F H n k hy h;obtain⟨e,pe1,F1,H1,n1,h1,s1⟩:=ih yo d pe F H n k hy h;refine⟨e,pe1,F1,H1,n1,h1,λn0 b m r μr hin=>X2i.scope ((s1 n0 b m r μr hin).mono ?_)⟩;rintro e' s μ1 ⟨rfl,⟨μr1,hf,rfl⟩,rfl⟩;exact⟨rfl,⟨μr1,λhx=>hf (hx.imp (λh=>by cases h) id),rfl⟩,rfl⟩
 |region id ops draw =>
  intro yo d pe F H n k hy h
  cases draw with
  |false =>
   have h:opsZ T (extR X (rec none)) yo nt ops ops.toList pe F H n (λpe F H n=>k .normal pe F H n):=h;obtain⟨pe',F',H',n',hk,hs⟩:=X06g hnt hT (X07v hX hr) hy _ _ _ _ _ _ h;refine⟨.normal,pe',F',H',n',hk,λn0 b m r μr hin=>X2i.region ?_⟩;intro c0 H0 c act g hmo Qx hQ;exact hs n0 b m r μr hin c0 H0 c act g hmo Qx λc' s' act' μ' g' hm' hq=>hQ c' s' act' μ' g' hm' ⟨rfl,⟨μr,λ_=>rfl,hq.1⟩,hq.2⟩
  |true =>
   cases hp:X7g 0 ops.toList with
   |false =>
    have h:Bool.rec (motive:=λ_=>Prop) (stk 94) (cutD (evA (frX F)) ops.toList [] H λH=>Option.rec (motive:=λ_=>Prop) (fzD (r3L ops.toList) F H λF H=>hzK ops.toList F λhz=>drX T (rec none) hz nt n ops (X1h ops.toList) ((X1h ops.toList).zip (ops.toList.map hz)) ops.toList 0 F H [] λF H=>fN (n+ops.toList.length) λn=>k .normal pe F H n) (λ_=>drY T (rec none) nt ops pe F H n k) yo) (X7g 0 ops.toList):=h;rw[hp] at h;cases h
   |true =>
    have h:Bool.rec (motive:=λ_=>Prop) (stk 94) (cutD (evA (frX F)) ops.toList [] H λH=>Option.rec (motive:=λ_=>Prop) (fzD (r3L ops.toList) F H λF H=>hzK ops.toList F λhz=>drX T (rec none) hz nt n ops (X1h ops.toList) ((X1h ops.toList).zip (ops.toList.map hz)) ops.toList 0 F H [] λF H=>fN (n+ops.toList.length) λn=>k .normal pe F H n) (λ_=>drY T (rec none) nt ops pe F H n k) yo) (X7g 0 ops.toList):=h;rw[hp] at h;obtain⟨Hc,hcut,h⟩:=X088 _ _ _ _ h
    cases yo with
    |some y =>
     have h:drY T (rec none) nt ops pe F Hc n k:=h;unfold drY at h
     cases hds:Xs7 F ops.toList with
     |false=>rw[hds] at h;cases h
     |true =>
      rw[hds] at h;obtain⟨F0,h,hF0⟩:=X08g 343 _ _ (Nat.le_refl _) h;obtain⟨hz,h⟩:=X044 h;obtain⟨F1,H',h,hrun⟩:=X04i hnt hr _ _ _ _ _ _ h;obtain⟨F2,hk,hF2,hno⟩:=X062 343 _ _ (Nat.le_refl _) h;rw[X5l] at hk;have lo:∀ t,isG (frX F t)=true->Nat.blt t 343=true:=by
       intro t ht
       cases hb:Nat.blt t 343 with
       |true=>rfl
       |false =>
        rw[Xn4] at ht;have:Nat.ble 343 t=true:=by
         have h1:¬ Nat.blt t 343=true:=by rw[hb];simp
         simp_all
        rw[this] at ht;cases ht
      refine⟨.normal,pe,F2,H',_,hk,λn0 b m r μr _=>X2i.cutH hcut (X2i.of (Xr1.drawnK (A:=sf (some y) b (frX F)) (A0:=frX F0) (keep:=λt=>isG (frX F t)) hm hT hp (X033 _ hds) (λt=>?_) hrun ⟨rfl,⟨μr,λ_=>rfl,rfl⟩,?_⟩))⟩
      ·rw[hF0];show _=sfA b (frX F) t\/_;unfold sfA
       grind
      ·congr 1
       funext t
       show(bif isG (frX F t) then sfA b (frX F) t else frX F1 t)=sfA b (frX F2) t;unfold sfA;rw[hF2]
       cases hg:isG (frX F t) with
       |true=>rw[lo t hg];rfl
       |false =>
        rw[Bool.and_false,cond_false,cond_false]
        cases hb:Nat.blt t 343 with
        |true=>simp_all
        |false =>
         have:frX F1 t=.sc undef:=by
          rw[Xn4];have:Nat.ble 343 t=true:=by
           have h1:¬ Nat.blt t 343=true:=by rw[hb];simp
           simp_all
          grind
         rw[this];rfl
    |none =>
     obtain⟨Ff,Hf,hfz,h⟩:=X0bo _ _ _ _ h;obtain⟨hz,h⟩:=X044 h;obtain⟨F',H',hk,hrun⟩:=X04i hnt hr _ _ _ _ _ _ h;rw[X5l] at hk;exact⟨.normal,pe,F',H',_,hk,λn0 b m r μr _=>X2i.cutH hcut (X2i.fz hfz (X2i.of (Xr1.drawn (s:=⟨frX Ff,hpX Hf,n⟩) hm hT hp hrun ⟨rfl,⟨μr,λ_=>rfl,rfl⟩,rfl⟩)))⟩
 |rangeFunc g ps ca cb iha ihb =>
  intro yo d pe F H n k hy h;have h:rfX rec nt g ps ca cb (Xad T X rec nt fuel ca) (Xad T X rec nt fuel cb) yo pe F H n k:=h
  cases yo with
  |some y=>cases h
  |none =>
   have h:(match evA (frX F) g with
    |.fn gf caps=>Bool.rec (motive:=λ_=>Prop) (stk 131) (rec (some (rndX nt ps.toList (Xad T X rec nt fuel ca) (Xad T X rec nt fuel cb) F)) gf (sgn::caps) H n λa H n=>decP a λe=>k e pe F H n) (Bool.not (X2g ca)&&(Bool.not (X2g cb)&&Xze nt ps.toList))
    |a=>StkA 132 a):=h
   split at h
   ·rename_i gf caps hg
    cases hc:(Bool.not (X2g ca)&&(Bool.not (X2g cb)&&Xze nt ps.toList)) with
    |false=>rw[hc] at h;cases h
    |true =>
     rw[hc] at h;simp only[Bool.and_eq_true,Bool.not_eq_true'] at hc;obtain⟨c1,c2,c3⟩:=hc;let d2:Rd:=⟨ps,ca,cb,nt,frX F⟩
     have hyc:YOk P (some (rndX nt ps.toList (Xad T X rec nt fuel ca) (Xad T X rec nt fuel cb) F)) d2:=by
      intro yc he;cases he
      intro as H n k h;have h:Bool.rec (motive:=λ_=>Prop) (stk 124) (zipX ps.toList as F λF=>Xad T X rec nt fuel ca none .normal F H n λe _ F H n=>nrm e (Xad T X rec nt fuel cb none .normal F H n λe _ _ H n=>k e H n)) (Nat.beq as.length ps.toList.length):=h
      cases hl:Nat.beq as.length ps.toList.length with
      |false=>rw[hl] at h;cases h
      |true =>
       rw[hl] at h;obtain⟨F1,hF,h⟩:=X04r _ _ _ _ h;obtain⟨e,pe2,F2,H2,n2,h,s1⟩:=iha none d2 _ _ _ _ _ (λ_ h=>by cases h) h;obtain⟨rfl,h⟩:=X03v h;obtain⟨e,pe3,F3,H3,n3,h,s2⟩:=ihb none d2 _ _ _ _ _ (λ_ h=>by cases h) h;refine⟨by simpa using hl,X03c _ c3,c1,c2,e,H3,n3,h,?_⟩;have r0:∀ r,((none:Option YC)≠none->RdOk d2 r):=λr h=>absurd rfl h;have e1:=s1 n 0 0 { state:=.ready,pending:=none,fn:=0,tmps:=#[],params:=ps,assign:=ca,body:=cb,defers:=0 } [] (r0 _);rw[show sf none 0 (frX F1)=zipA ps.toList as (frX F) from hF] at e1;refine e1.mono ?_;rintro e1 s μ1 ⟨rfl,⟨μr1,hf,rfl⟩,rfl⟩;refine⟨rfl,hf (.inl c1),(s2 n 0 0 { state:=.ready,pending:=none,fn:=0,tmps:=#[],params:=ps,assign:=ca,body:=cb,defers:=0 } [] (r0 _)).mono ?_⟩;rintro e2 s μ1 ⟨rfl,hf,rfl⟩
       grind
     obtain⟨fn,codeI,pe1,H',n',hfn,hres,hle,hk,hs⟩:=hit _ _ _ _ _ _ d2 hyc h;rw[Xys] at hk;refine⟨pe1,pe,F,H',n',hk,λn0 b m r μr _=>?_⟩;refine X2i.rangeFunc hg hfn rfl hle hres ?_;intro b D r r1 r2 r3 r4 r5;have:=hs b n r [(D,.blk (.deferred (some [])))] ⟨r1,r2,r3,r4,r5⟩;rw[show Xr3 (some (rndX nt ps.toList (Xad T X rec nt fuel ca) (Xad T X rec nt fuel cb) F)) d2 b n r .normal [(D,.blk (.deferred (some [])))]=[(b,.loop r nt n (frX F)),(D,.blk (.deferred (some [])))] from by show[(b,MuE.loop (Xqx r .normal) nt n (frX F)),_]=_;rw[Xk9 r1 r2]] at this;refine this.mono ?_;rintro e s μ1 ⟨he,rfl,e1,e2⟩;refine⟨he,pe1,rfl,rfl,⟨(D,.mark)::μr,λhf=>?_,rfl⟩,?_⟩
     ·rcases hf with hf|hf
      ·cases hf
      ·exact absurd rfl hf
     ·rw[e1,e2]
   ·cases h
 |_=>intro yo d pe F H n k hy h;cases h
def noG (l:List AV):Bool:=List.rec (motive:=λ_=>Bool) true (λa _ ih=>Bool.rec (motive:=λ_=>Bool) ih false (isG a)) l
theorem X0ar:∀ l:List AV,noG l=true->∀ a∈l,isG a=false:=by
 intro l
 induction l with
 |nil=>grind
 |cons b l ih =>
  intro h a ha;have h:Bool.rec (motive:=λ_=>Bool) (noG l) false (isG b)=true:=h
  cases hb:isG b with
  |true=>simp_all
  |false =>
   rw[hb] at h
   grind
def retY (T:Ty) (l:List ResultVar) (yo:Option YC) (pe:Xp) (F:FX) (H:HX) (n:Nat) (k:AV->HX->Nat->Prop):Prop :=
 Option.rec (motive:=λ_=>Prop) (retX T l F H n k) (λ_=>List.rec (motive:=λ_=>Prop) (k (encP pe) H n) (λ_ _ _=>stk 141) l) yo
def X0gg (as:List AV) (yo:Option YC):Bool:=Option.rec (motive:=λ_=>Bool) true (λ_=>noG as.tail) yo
def Xrm (T:Ty) (X:Nat->Option (List AV->Option AV)) (E:Env) (fuel:Nat) (rec:RecY):RecY:=λyo f as H n k =>
  match E f with
  |some (fn,code)=>Bool.rec (motive:=λ_=>Prop) (stk 103) (argX as 0 f4 λF=>Xad T X rec fn.ntmps fuel code yo .normal F H n λe pe F H n =>
    Xp.rec (motive:=λ_=>Prop) (retY T fn.results.toList yo pe F H n k) (λ_=>stk 104) (retY T fn.results.toList yo pe F H n k) e) (X0gg as yo&&(Nat.ble as.length fn.ntmps&&Nat.ble fn.ntmps 343))
  |none=>stk (1000+f)
abbrev Xlo:=List (List AV×AV)
def X02u (l:Xlo) (bs:List AV):Option AV :=
 List.rec (motive:=λ_=>Option AV) none (λp _ ih=>Bool.rec (motive:=λ_=>Option AV) ih (some p.2) (eqL (eqA 60) p.1 bs)) l
theorem Xti {bs:List AV} {r:AV}:∀ l:Xlo,X02u l bs=some r->(bs,r)∈l:=by
 intro l
 induction l with
 |nil=>intro h;cases h
 |cons p l ih =>
  intro h;have h:Bool.rec (motive:=λ_=>Option AV) (X02u l bs) (some p.2) (eqL (eqA 60) p.1 bs)=some r:=h
  cases hb:eqL (eqA 60) p.1 bs with
  |false=>simp_all
  |true =>
   rw[hb] at h
   grind [Xtm,Xyh,List.mem_cons_self]
def meX (M:Nat->Option Xlo) (nx:Xdw):Xdw:=λf as H n k =>
 match M f with
 |none=>nx f as H n k
 |some l=>match Xrt (cvF false noH 100) as with
  |some bs=>fDs bs λbs=>match X02u l bs with
   |none=>nx f as H n k
   |some r=>k r H n
  |none=>match Xrt (cvF false (hpX H) 100) as with
   |none=>nx f as H n k
   |some bs=>fDs bs λbs=>match X02u l bs with
    |none=>nx f as H n k
    |some r=>Bool.rec (motive:=λ_=>Prop) (nx f as H n k) (k r H n) (ownF 60 r)
def Xty (P:Program) (M:Nat->Option Xlo):Prop:=∀ f l,M f=some l->∀ p∈l,X8t P f p.1 p.2
theorem X0av {P:Program} {M:Nat->Option Xlo} {nx:Xdw} (hM:Xty P M) (hn:Xht P nx):Xht P (meX M nx):=by
 intro f as H n k h;unfold meX at h;split at h
 ·exact hn _ _ _ _ _ h
 ·rename_i l hf;split at h
  ·rename_i bs hm;rw[Xn7] at h;split at h
   ·exact hn _ _ _ _ _ h
   ·rename_i r hr;have h1:=hM f l hf _ (Xti l hr);obtain⟨m1,m2⟩:=X8r hm;exact⟨r,H,n,HC.of_pure (H:=hpX H) (Hr:=noH) (n:=n) h1 ⟨m1,λi a b ha hb=>Xgq _ _ _ (m2 i a b ha hb)⟩ (λ_ _ h=>by cases h) (.inr λ_=>rfl),h⟩
  ·split at h
   ·exact hn _ _ _ _ _ h
   ·rename_i bs hm;rw[Xn7] at h;split at h
    ·exact hn _ _ _ _ _ h
    ·rename_i r hr;have h1:=hM f l hf _ (Xti l hr);obtain⟨m1,m2⟩:=X8r hm
     cases ho:ownF 60 r with
     |false=>rw[ho] at h;exact hn _ _ _ _ _ h
     |true =>
      rw[ho] at h;exact⟨r,H,n,HC.of_pure (H:=hpX H) (n:=n) h1 ⟨m1,λi a b ha hb=>Xgq _ _ _ (m2 i a b ha hb)⟩ (λ_ _ h=>h) (.inl (Xwu _ _ ho)),h⟩
def AllM (P:Program) (f:Nat):Xlo->Prop
 |[]=>True
 |p::l=>X8t P f p.1 p.2/\AllM P f l
theorem X08r {P:Program} {f:Nat}:∀ l:Xlo,AllM P f l->∀ p∈l,X8t P f p.1 p.2:=by
 intro l
 induction l with
 |nil=>grind
 |cons q l ih =>
  intro h p hp;rcases List.mem_cons.1 hp with rfl|hp
  ·exact h.1
  ·exact ih h.2 p hp
def all2 (f:AV->AV->Bool):List AV->List AV->Bool
 |[],[]=>true
 |a::l,b::m=>f a b&&all2 f l m
 |_,_=>false
theorem Xpb {f:AV->AV->Bool}:∀ {l m:List AV},all2 f l m=true->l.length=m.length/\∀ (i:Nat) a b,l[i]?=some a->m[i]?=some b->f a b=true:=by
 intro l
 induction l with
 |nil=>intro m h;cases m with
  |nil=>grind
  |cons b m=>cases h
 |cons a l ih=>intro m h;cases m with
  |nil=>cases h
  |cons b m =>
   simp only[all2,Bool.and_eq_true] at h
   grind
def wkB:Nat->AV->AV->Bool
 |0,_,_=>false
 |n+1,a,b=>match a,b with
  |.list o es,.list o' es'=>(!o'||o)&&all2 (λe e'=>all2 (wkB n) e.cells e'.cells) es es'
  |.agg cs,.agg cs'=>all2 (wkB n) cs cs'
  |.tup cs,.tup cs'=>all2 (wkB n) cs cs'
  |.nils,.list _ []=>true
  |a,b=>eqA 60 a b
theorem X09o {c:Ctx}:∀ (n:Nat) (a b:AV) (d:Bool) (v:Value),wkB n a b=true->X0m c d a v->X0m c d b v:=by
 intro n
 induction n with
 |zero=>intro a b d v h;cases h
 |succ n ih =>
  intro a b d v h hr;unfold wkB at h;split at h
  ·rename_i o es o' es';simp only[Bool.and_eq_true,Bool.or_eq_true,Bool.not_eq_true'] at h;obtain⟨ho,h⟩:=h;obtain⟨hl,hE⟩:=Xpb h;have hback:∀ (i:Nat) e',es'[i]?=some e'->∃ e,es[i]?=some e/\e.cells.length=e'.cells.length/\∀ (k:Nat) x',e'.cells[k]?=some x'->∃ x,e.cells[k]?=some x/\wkB n x x'=true:=λi e' he'=>by
    have hlt:i<es.length:=by rw[hl];exact(List.getElem?_eq_some_iff.1 he').1
    obtain⟨g1,g2⟩:=Xpb (hE i _ e' (List.getElem?_eq_getElem hlt) he');refine⟨_,List.getElem?_eq_getElem hlt,g1,λk x' hx'=>?_⟩;have hk:k<es[i].cells.length:=by rw[g1];exact(List.getElem?_eq_some_iff.1 hx').1
    exact⟨_,List.getElem?_eq_getElem hk,g2 k _ x' (List.getElem?_eq_getElem hk) hx'⟩
   cases hr with
   |listNil =>
    have:es'=[]:=List.eq_nil_of_length_eq_zero (by rw[<-hl];rfl);subst this;exact .listNil
   |@list _ _ _ _ _ _ esz _ vf hne hS hn hcap hsz hcell h1 h =>
    refine .list (esz:=esz) vf (λe=>hne (List.eq_nil_of_length_eq_zero (by rw[hl,e];rfl))) ?_ (hn.trans hl) (by rw[<-hl];exact hcap) (λi e' he'=>?_) (λi e' k x' he' hx'=>?_) (λi e' k x' he' hx'=>?_) (λi e' k x' he' hx'=>?_)
    ·rcases ho with ho|ho
     ·subst ho;exact hS.elim (λq=>.inl ⟨rfl,q.2⟩) .inr
     ·subst ho;exact hS.elim (λq=>by cases q.1) .inr
    ·obtain⟨e,he,g,_⟩:=hback i e' he';rw[<-g];exact hsz i e he
    ·obtain⟨e,he,_,g⟩:=hback i e' he';obtain⟨x,hx,_⟩:=g k x' hx';exact hcell i e k x he hx
    ·obtain⟨e,he,_,g⟩:=hback i e' he';obtain⟨x,hx,_⟩:=g k x' hx';exact h1 i e k x he hx
    ·obtain⟨e,he,_,g⟩:=hback i e' he';obtain⟨x,hx,hw⟩:=g k x' hx';exact ih x x' true _ hw (h i e k x he hx)
  ·rename_i cs cs';obtain⟨hl,hE⟩:=Xpb h
   cases hr with
   |agg hls hoc hrl =>
    refine .agg (hl.symm.trans hls) hoc λi x' v hx' hv=>?_
    grind
  ·rename_i cs cs';obtain⟨hl,hE⟩:=Xpb h
   cases hr with
   |tup hls hrl =>
    refine .tup (hl.symm.trans hls) λi x' v hx' hv=>?_
    grind
  ·obtain⟨p,rfl⟩:=hr.nils_inv;exact .listNil
  ·rw[<-Xyh 60 _ _ h];exact hr
theorem X8t.weaken {P:Program} {f:Nat} {as:List AV} {r r':AV} (hp:X8t P f as r) (h:wkB 100 r r'=true):X8t P f as r' :=
 ⟨hp.1,λw S vs hS hG hv=>(hp.2 w S vs hS hG hv).mono λ_ _ ⟨v,he,hr,hb⟩=>⟨v,he,X09o _ _ _ _ _ h hr,hb⟩⟩
def wkO (a:Option AV) (r:AV):Bool:=match a with
 |some a=>wkB 100 a r
 |none=>false
theorem X03j {a:Option AV} {r:AV} (h:wkO a r=true):∃ a',a=some a'/\wkB 100 a' r=true:=by
 cases a with
 |none=>cases h
 |some a=>exact⟨a,rfl,h⟩
def callM (T:Ty) (X:Nat->Option (List AV->Option AV)) (E:Env) (M:Nat->Option Xlo) (fuel d:Nat):RecY :=
 Nat.rec (motive:=λ_=>RecY) (λ_ _ _ _ _ _=>stk 102) (λ_ ih yo=>Option.rec (motive:=λ_=>Xdw) (meX M (Xrm T X E fuel ih none)) (λyc=>Xrm T X E fuel ih (some yc)) yo) d
theorem Xwk {P:Program} {T:Ty} {l:List ResultVar} {F:FX} {H:HX} {n:Nat} {k:AV->HX->Nat->Prop} (h:retX T l F H n k):∃ r,k r H n/\∃ rs,Xfo T ⟨frX F,hpX H,n⟩ l rs/\Xei rs=r:=by
 unfold retX at h;split at h
 ·rename_i rs hrs;rw[Xy4 Xb2,X8z] at h;exact⟨_,h,rs,X066 (s:=⟨frX F,hpX H,n⟩) _ _ hrs,rfl⟩
 ·cases h
theorem HC.of_bodyA {P:Program} {T:Ty} (hT:X7a P T) {f:Nat} {fn:Func} {code:Code} (hfn:Xmg P f fn code) {as:List AV} {H:Xz} {n nt:Nat} {K:AV->Xz->Nat->Prop} (hnt:fn.ntmps=nt)
  (hle:as.length<=nt) (h:X2i P nt n code (retM T fn K) ⟨Xjl as,H,n⟩ []):HC P f as H n K:=by
 refine⟨⟨fn,code,hfn⟩,λc vs hI hs hv ho=>?_⟩;have g:X38 nt c H n c ⟨Xjl as,H,n⟩ { tmps:=vs++Array.replicate (fn.ntmps - vs.size) undef,defers:=[] }:=by
  refine⟨hI,hs,λt=>Xbl hv _ t,λt=>Xll ho t,?_,.refl c H n,Nat.le_refl _⟩;have:=hv.len
  grind
 refine Xcq hfn g h ?_;intro e s' μ hq;have fin:(∃ rs,Xfo T s' fn.results.toList rs/\K (Xei rs) s'.H s'.n)->∀ c' act',X38 nt c H n c' s' act'->∃ v,(results fn act'.tmps).run P c'.w=.ok v c'.w/\∃ v' r H' n' c2,K r H' n'/\Ending.returned v=.returned v'/\c2.w=c'.w/\c.Le (·<n) c2/\c2.Sa=c.Sa/\(∀ b,c2.So b->c.So b\/c.w.heap.size<=b\/∃ o x,H o=some x/\(c.ρ o).blk=b) /\
   Fr c H c'.w/\Xaf c H c2 H'/\Inv c2 H' (·<n')/\(∀ o x,H' o=some x->x.solo=true/\x.spent=false)/\n<=n'/\X0m c2 false r v'/\r.Ok (·<n'):=by
  rintro⟨rs,hrs,hk⟩ c' act' g';obtain⟨v,h1,h2,h3⟩:=Xwl hT g' hrs;exact⟨v,h1,v,_,s'.H,s'.n,c',hk,rfl,rfl,g'.reach.le,g'.reach.sa,g'.reach.so2,g'.reach.fr,g'.reach.own,g'.inv,g'.solo,g'.le0,h2,h3⟩
 cases e with
 |exit id=>exact hq.elim
 |normal=>exact⟨(λ_ h=>by cases h),fin hq⟩
 |ret=>exact⟨(λ_ h=>by cases h),fin hq⟩
theorem Xns {P:Program} {T:Ty} {X:Nat->Option (List AV->Option AV)} {E:Env} {fuel:Nat} {rec:RecY} (hm:P.follows .mixedOrders=true) (hX:Xvd P X) (hT:X7a P T) (hE:Xzj P E) (ihr:Xht P (rec none)) (ihi:Xtz P rec):Xht P (Xrm T X E fuel rec none)/\Xtz P (Xrm T X E fuel rec):=by
  refine⟨λf as H n k h=>?_,λyc f caps H n k d hy h=>?_⟩
  ·have h:(match E f with
    |some (fn,code)=>Bool.rec (motive:=λ_=>Prop) (stk 103) (argX as 0 f4 λF=>Xad T X rec fn.ntmps fuel code none .normal F H n λe _ F H n =>
      Xp.rec (motive:=λ_=>Prop) (retX T fn.results.toList F H n k) (λ_=>stk 104) (retX T fn.results.toList F H n k) e) (true&&(Nat.ble as.length fn.ntmps&&Nat.ble fn.ntmps 343))
    |none=>stk (1000+f)):=h
   split at h
   ·rename_i fn code hf
    cases hle:(true&&(Nat.ble as.length fn.ntmps&&Nat.ble fn.ntmps 343)) with
    |false=>rw[hle] at h;cases h
    |true =>
     rw[hle] at h;simp only[Bool.true_and,Bool.and_eq_true,Nat.ble_eq] at hle;obtain⟨F0,h,hF0⟩:=Xza om h;obtain⟨e,pe,F',H',n',h1,hsem⟩:=Xtq hm hle.2 hX hT ihr ihi code none ⟨#[],.skip,.skip,0,λ_=>.junk⟩ _ _ _ _ _ (λ_ h=>by cases h) h;have hs:=hsem n 0 0 { state:=.ready,pending:=none,fn:=0,tmps:=#[],params:=#[],assign:=.skip,body:=.skip,defers:=0 } [] (λh=>absurd rfl h);rw[show sf none 0 (frX F0)=Xjl as from hF0] at hs
     cases e with
     |exit i=>cases h1
     |normal =>
      obtain⟨r,hk,rs,hrs,hpk⟩:=Xwk (P:=P) h1;refine⟨r,H',n',?_,hk⟩;refine HC.of_bodyA hT (hE _ _ _ hf) rfl hle.1 (hs.mono ?_);rintro e' s' μ' ⟨rfl,_,rfl⟩;exact⟨rs,hrs,hpk,rfl,rfl⟩
     |ret =>
      obtain⟨r,hk,rs,hrs,hpk⟩:=Xwk (P:=P) h1;refine⟨r,H',n',?_,hk⟩;refine HC.of_bodyA hT (hE _ _ _ hf) rfl hle.1 (hs.mono ?_);rintro e' s' μ' ⟨rfl,_,rfl⟩;exact⟨rs,hrs,hpk,rfl,rfl⟩
   ·cases h
  ·have h:(match E f with
    |some (fn,code)=>Bool.rec (motive:=λ_=>Prop) (stk 103) (argX (sgn::caps) 0 f4 λF=>Xad T X rec fn.ntmps fuel code (some yc) .normal F H n λe pe F H n =>
      Xp.rec (motive:=λ_=>Prop) (retY T fn.results.toList (some yc) pe F H n k) (λ_=>stk 104) (retY T fn.results.toList (some yc) pe F H n k) e) (noG caps&&(Nat.ble (caps.length+1) fn.ntmps&&Nat.ble fn.ntmps 343))
    |none=>stk (1000+f)):=h
   split at h
   ·rename_i fn code hf
    cases hle:(noG caps&&(Nat.ble (caps.length+1) fn.ntmps&&Nat.ble fn.ntmps 343)) with
    |false=>rw[hle] at h;cases h
    |true =>
     rw[hle] at h;simp only[Bool.and_eq_true,Nat.ble_eq] at hle;obtain⟨hng,hl1,hl2⟩:=hle;obtain⟨F0,h,hF0⟩:=Xza (by grind) h;obtain⟨e,pe,F',H',n',h1,hsem⟩:=Xtq hm hl2 hX hT ihr ihi code (some yc) d _ _ _ _ _ hy h;have hfr:∀ b,sf (some yc) b (frX F0)=Xjl (Xb7 b::caps):=by
      intro b;rw[hF0];funext t
      show sfA b (Xjl (sgn::caps)) t=_;unfold sfA
      cases t with
      |zero=>rfl
      |succ t =>
       have e1:Xjl (sgn::caps) (t+1)=Xjl (Xb7 b::caps) (t+1):=rfl;rw[e1];have:isG (Xjl (Xb7 b::caps) (t+1))=false:=by
        show isG (((Xb7 b::caps)[t+1]?).getD (.sc undef))=false;rw[List.getElem?_cons_succ]
        cases hq:caps[t]? with
        |none=>rfl
        |some a=>grind [X0ar,List.mem_of_getElem?]
       grind
     have fin:retY T fn.results.toList (some yc) pe F' H' n' k->fn.results=#[]/\k (encP pe) H' n':=by
      intro h;have h:List.rec (motive:=λ_=>Prop) (k (encP pe) H' n') (λ_ _ _=>stk 141) fn.results.toList:=h
      cases hrs:fn.results.toList with
      |nil =>
       simp_all
      |cons r l=>rw[hrs] at h;cases h
     cases e with
     |exit i=>cases h1
     |normal =>
      obtain⟨g1,g2⟩:=fin h1;refine⟨fn,code,pe,H',n',hE _ _ _ hf,g1,hl1,g2,λb m r μr hin=>?_⟩;have:=hsem n b m r μr (λ_=>hin);rw[hfr] at this;refine this.mono ?_;rintro e' s' μ' ⟨rfl,⟨μr1,hf,rfl⟩,rfl⟩;exact⟨(λ_ h=>by cases h),by rw[hf (.inr (by simp))],rfl,rfl⟩
     |ret =>
      obtain⟨g1,g2⟩:=fin h1;refine⟨fn,code,pe,H',n',hE _ _ _ hf,g1,hl1,g2,λb m r μr hin=>?_⟩;have:=hsem n b m r μr (λ_=>hin);rw[hfr] at this;refine this.mono ?_;rintro e' s' μ' ⟨rfl,⟨μr1,hf,rfl⟩,rfl⟩;exact⟨(λ_ h=>by cases h),by rw[hf (.inr (by simp))],rfl,rfl⟩
   ·cases h
theorem Xtu {P:Program} {T:Ty} {X:Nat->Option (List AV->Option AV)} {E:Env} {M:Nat->Option Xlo} {fuel:Nat} (hm:P.follows .mixedOrders=true) (hX:Xvd P X) (hT:X7a P T) (hE:Xzj P E) (hM:Xty P M):∀ d,Xht P (callM T X E M fuel d none)/\Xtz P (callM T X E M fuel d):=by
 intro d
 induction d with
 |zero =>
  refine⟨?_,?_⟩
  ·intro f as H n k h;cases h
  ·intro yc f caps H n k d _ h;cases h
 |succ m ih =>
  obtain⟨h1,h2⟩:=Xns (fuel:=fuel) hm hX hT hE ih.1 ih.2;exact⟨X0av hM h1,λyc f caps H n k d hy h=>h2 yc f caps H n k d hy h⟩
theorem Xwd {P:Program} {T:Ty} {X:Nat->Option (List AV->Option AV)} {E:Env} {M:Nat->Option Xlo} {fuel d f:Nat} {as:List AV} {r:AV} (hm:P.follows .mixedOrders=true) (hX:Xvd P X) (hT:X7a P T) (hE:Xzj P E) (hM:Xty P M)
  (h:Xrm T X E fuel (callM T X E M fuel d) none f as g8 0 (λa H _=>wkO (cvF true (hpX H) 100 a) r=true)=(true=true)):X8t P f as r:=by
 have ok:=Xtu (fuel:=fuel) hm hX hT hE hM d;obtain⟨r',H',n',h1,h2⟩:=(Xns (fuel:=fuel) hm hX hT hE ok.1 ok.2).1 _ _ _ _ _ (cast h.symm rfl);rw[Xl4] at h1;obtain⟨a',e1,e2⟩:=X03j h2;exact X8t.weaken (X8t.of_hc h1 (Xgq _ _ _ e1)) e2
end Go.Av.X


namespace Go.Av
open Go.ChangeShapes Go.RowKit
section
variable {H:Type} {enc:TypeId×Value->H} {P:Program} {w:World}
theorem law_contractG [Gls] {f:Nat} {fn:Func} {s:ChangeSpec} {n tb:Nat} (hl:laidOutB P=true) (hpl:∀ t∈fn.params.toList,plainTy P n t=true)
  (hrd:∀ t∈fn.params.toList,P.readableRec t=true/\t<P.types.size) (hres:fn.resultTypes=#[tb]) (htb:P.underlying tb=some .bool) (hsv:s.vars=[])
  (hs:∀ ds:List (DataW H),ds.length=fn.params.size->s.fn H ds={ results:=[.lit (.bool true)],args:=ds })
  (hp:∀ as,Xr2 (λt a=>X3y P n t a) fn.params.toList as->X8t P f as (.sc (.bool true)))
  (W:World) (hG:GF (lawCtx W)) (base:Nat) (args:Array Value) (ds gs:List (DataW H)) (before:List MemPlace)
  (hval:∀ (j:Nat) t v,fn.params[j]?=some t->args[j]?=some v->Value.okWide P W .any base t v)
  (hW:DataW.Whole enc P fn.params.toList s.vars false W args.toList ds gs before) :
  Calls P f args W λe W'=>∃ v,e=.returned v/\s.post enc P fn false true false false W args v W':=by
 have hlt:=hW.lt;have hW0:=hW;obtain⟨p,q,hA,hV,rfl,hfz,hnd⟩:=hW;rw[hsv] at hV;obtain⟨rfl,rfl⟩:=trodVars_none hV;simp only[List.append_nil] at hlt hW0;have hlen:ds.length=fn.params.size:=by
  have:∀ (ts:List Nat) (vs:List Value) (ds:List (DataW H)) (ps:List MemPlace),DataW.TrodAll enc P W 0 (λ_=>true) true ts vs ds ps->ds.length=ts.length:=by
   intro ts
   induction ts with
   |nil=>intro vs ds ps h;cases vs<;>cases ds<;>simp_all [DataW.TrodAll]
   |cons t ts ih =>
    intro vs ds ps h
    cases vs with
    |nil=>simp[DataW.TrodAll] at h
    |cons v vs=>cases ds with
     |nil=>simp[DataW.TrodAll] at h
     |cons d ds=>simp only[DataW.TrodAll] at h;obtain⟨_,q,_,h2,_⟩:=h;simp[ih vs ds q h2]
  simpa using this _ _ _ _ hA
 obtain⟨as,h1,h2,h3⟩:=Xfx (n:=n) fn.params.toList args.toList ds p hpl (λj t v hj hv=>by
  have:=hval j t v (by simpa using hj) (by simpa using hv);exact Value.okWide_any_base this) hA
 have hrel:Xbr (lawCtx W) true as args:=⟨by simpa using h2,λi a v ha hv=>h3 i a v ha (by simpa using hv)⟩;refine((hp as h1).2 W (λb=>b<W.heap.size) args (λb hb=>hb) hG hrel).mono ?_;rintro e W' ⟨v,rfl,hv,hb⟩;have hvt:v=.bool true:=hv.sc_inv;subst hvt;refine⟨_,rfl,ds,[],p,[],p,[],hW0,?_,?_,?_,?_,λh=>by cases h⟩
 ·rw[List.append_nil,hs ds hlen,hres];exact trodAll_cons_mk (shut_bool htb _) trodAll_mk0
 ·rw[List.append_nil,hs ds hlen];exact Xfw hl hb.toBelow _ _ _ _ hrd hlt hA
 ·rw[List.append_nil,hs ds hlen,hsv];simp[DataW.TrodVars]
 ·exact hb.frame _
end
theorem byteRow_of_laid {P:Program} {name:String} {g t tb n:Nat} {l:List (String×DataW Unit)} {zs:List Int} {W:World} (h:laidMetH P l W)
  (hf:l.filter (λx=>x.1==name)=[(name,.agg (zs.map λz=>.lit (.int .u8 z)))]) (hh:((DataW.agg (zs.map λz=>.lit (.int .u8 z)):DataW Unit).handleName?)=none)
  (hg:P.globalNamed name=some g) (ht:(P.globals[g]?).map (·.type)=some t) (hu:P.underlying t=some (.array n tb)) (hb:P.underlying tb=some (.int .u8)) (hc:P.cellsOf tb=1) (hn:zs.length=n) :
  ∀ (k:Nat) v,(zs.map λz=>Value.int .u8 z)[k]?=some v->W.cell? ⟨g,k,none⟩=some v/\v.oneCell'=true:=by
 have h1:=h.filter λx=>x.1==name;rw[hf] at h1;rw[MakeChecks.laidMetH_plain _ _ _ (by simp[hh])] at h1;obtain⟨ps,⟨g0,t0,cs,fuel,p,q,hg0,ht0,hv,hd,_,_⟩,_,_⟩:=h1;obtain rfl:=Option.some.inj (hg.symm.trans hg0);obtain rfl:=Option.some.inj (ht.symm.trans ht0);obtain⟨xs,m,_,ex,_,hl,hel⟩:=DataW.trod_array hu hd;intro r v hr;have hr1:r<zs.length:=by simpa using(List.getElem?_eq_some_iff.1 hr).1
 have hE:=hel r om;rw[hc,Nat.mul_one,List.getElem?_eq_getElem om] at hE;obtain⟨z,e1,e2,_⟩:=DataW.trod_int hb hE;have e3:(xs.map (·.1))=zs.map λz=>.lit (.int .u8 z):=(DataW.agg.inj (Prod.mk.inj ex).1).symm;have e4:(xs.map (·.1))[r]?=(zs.map λz=>(DataW.lit (.int .u8 z):DataW Unit))[r]?:=by rw[e3]
 rw[List.getElem?_map,List.getElem?_map,List.getElem?_eq_getElem (by omega:r<xs.length),List.getElem?_eq_getElem hr1,e2] at e4;have hz:z=zs[r]:=by simpa using e4
 rw[List.getElem?_map,List.getElem?_eq_getElem hr1] at hr;have hv':v=.int .u8 z:=by rw[hz];exact(Option.some.inj hr).symm
 subst hv';refine⟨?_,rfl⟩;rw[World.var?_cell hg hv r];have:cs.toList[r]?=some (.int .u8 z):=by
  have h0:((cs.toList.drop r).take 1)[0]?=some (.int .u8 z):=by rw[e1];rfl
  simpa using h0
 simpa using this
theorem goesBy_none {P:Program} {c:OpenClaim} (h:P.funcs.any Func.goes=false) (hs:c.start=.entering):false=c.goesBy P:=by
 have h1:∀ g:Nat,(P.funcs[g]?).any Func.goes=false:=by
  intro g
  cases hg:P.funcs[g]? with
  |none=>rfl
  |some fn =>
   obtain⟨hlt,he⟩:=Array.getElem?_eq_some_iff.1 hg;have:=(Array.any_eq_false.1 h) g hlt;rw[he] at this;simpa using this
 have h2:∀ f,P.goes f=false:=by
  intro f;unfold Program.goes;rw[h,Bool.and_false,Bool.or_false];simp only[h1];simp
 unfold OpenClaim.goesBy Program.goesAt Program.goesFrom;rw[hs]
 cases P.funcNamed c.func with
 |none=>rfl
 |some f=>simp[h2]
end Go.Av
end
