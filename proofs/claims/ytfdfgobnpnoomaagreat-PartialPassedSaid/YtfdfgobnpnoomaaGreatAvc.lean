/- Parts of the proof, laid together. -/
import Derived.Test.YtfdfgobnpnoomaaGreatAvb
import Derived.RangeFuncIn
set_option linter.all false

namespace Go.Av
structure Away (c:Ctx) (H:X0r) (b:Nat):Prop where
 sa:¬ c.Sa b
 so:¬ c.So b
 ob:∀ o x,H o=some x->(c.ρ o).blk≠b
theorem Away.kept {c c':Ctx} {H H':X0r} {n b:Nat} (h:Away c H b) (hb:b<c.w.heap.size) (r:Reach c H n c' H'):Away c' H' b:=by
 refine⟨by rw[r.sa];exact h.sa,fun hs=>?_,fun o x hx he=>?_⟩
 ·rcases r.so2 _ hs with h1|h1|⟨o,x,h1,h2⟩
  ·exact h.so h1
  ·omega
  ·exact h.ob o x h1 h2
 ·rcases r.own o x hx with h1|⟨o',x',h1,h2⟩
  ·omega
  ·exact h.ob o' x' h1 (h2.trans he)
theorem Reach.weaken {c c':Ctx} {H H':X0r} {n n':Nat} (r:Reach c H n c' H') (h:n'<=n):Reach c H n' c' H' :=
 ⟨fun o ho=>r.rho o (Nat.lt_of_lt_of_le ho h),r.os,r.tape,r.output,r.size,r.block,r.stable,r.sa,r.so1,r.so2,r.B,r.own⟩
theorem X52.turn0 {nt n0:Nat} {c0 c:Ctx} {H0:X0r} {s:St} {act:Act} {b:Nat} (o:Go.Obj) (g:X52 nt c0 H0 n0 c s act) (h:Away c s.H b) :
  X52 nt { c with w:=c.w.putObj b o } s.H n0 { c with w:=c.w.putObj b o } s act/\c.Le (fun _=>True) { c with w:=c.w.putObj b o }:=by
 have hother:∀ k,k≠b->(c.w.putObj b o).heap[k]?=c.w.heap[k]?:=fun k hk=>World.putObj_heap_other hk
 have hle:c.Le (fun _=>True) { c with w:=c.w.putObj b o } :=
  ⟨fun _ _=>rfl,fun _ h=>h,fun _ h=>h,fun k hk=>hother k (fun e=>by subst e;exact hk.elim h.sa h.so),rfl⟩
 have all:∀ {a:AV} {M:Nat->Prop},a.Ok M->a.Ok (fun _=>True):=fun h=>h.mono fun _ _=>trivial
 refine⟨⟨⟨fun q x hx=>?_,g.inv.sep,g.inv.stab,fun k hk=>?_,?_,g.inv.own,g.inv.low⟩,g.solo,fun t=>(g.frame t).mono hle (.inr (all (g.ok t))),g.ok,g.size,.refl _ _ _,g.le0⟩,hle⟩
 ·obtain⟨i1,⟨⟨cur,hb,hs,hc⟩,i3,i4,i5⟩,i6⟩:=g.inv.obj q x hx
  refine⟨i1,⟨⟨cur,(hother _ (h.ob q x hx)).trans hb,hs,fun i e he=>?_⟩,i3,i4,i5⟩,i6⟩
  obtain⟨g1,g2⟩:=hc i e he
  exact⟨g1,fun k a ha=>by obtain⟨v,hv,hr,h7⟩:=g2 k a ha;exact⟨v,hv,hr.mono hle (.inr (all (i6 e (List.mem_of_getElem? he) a (List.mem_of_getElem? ha)))),h7⟩⟩
 ·show k<(c.w.putObj b o).heap.size
  rw[World.putObj_size];exact g.inv.lt k hk
 ·show c.B<=(c.w.putObj b o).heap.size
  rw[World.putObj_size];exact g.inv.base
theorem Reach.turnBack {c c1 c2:Ctx} {H H1 H2:X0r} {n b:Nat} {o0 o1:Go.Obj} (r1:Reach c H n c1 H1) (r2:Reach { c1 with w:=c1.w.putObj b o1 } H1 n c2 H2) (hb:c.w.heap[b]?=some o0) (h:Away c H b) :
  Reach c H n { c2 with w:=c2.w.putObj b o0 } H2:=by
 have hlt:b<c.w.heap.size:=(Array.getElem?_eq_some_iff.1 hb).1
 have hs2:c.w.heap.size<=c2.w.heap.size:=by
  have h1:=r1.size
  have h2:(c1.w.putObj b o1).heap.size<=c2.w.heap.size:=r2.size
  rw[World.putObj_size] at h2;omega
 refine⟨fun o ho=>(r2.rho o ho).trans (r1.rho o ho),r2.os.trans r1.os,r2.tape.trans r1.tape,⟨r2.output.1.trans r1.output.1,Nat.le_trans r1.output.2 r2.output.2⟩,?_,fun k hk hn=>?_,fun k hk=>?_,r2.sa.trans r1.sa,fun k hk=>r2.so1 k (r1.so1 k hk),fun k hk=>?_,r2.B.trans r1.B,fun o x hx=>?_⟩
 ·show c.w.heap.size<=(c2.w.putObj b o0).heap.size
  rw[World.putObj_size];exact hs2
 ·show(c2.w.putObj b o0).heap[k]?=_
  by_cases e:k=b
  ·subst e;rw[World.putObj_heap_same (by omega)];exact hb.symm
  ·rw[World.putObj_heap_other e]
   have h2:c2.w.heap[k]?=(c1.w.putObj b o1).heap[k]?:=r2.block k (by show k<(c1.w.putObj b o1).heap.size;rw[World.putObj_size];exact Nat.lt_of_lt_of_le hk r1.size) fun o x hx he=>by
    rcases r1.own o x hx with h1|⟨o',x',h1,h2⟩
    ·have he':(c1.ρ o).blk=k:=he
     omega
    ·exact hn o' x' h1 (h2.trans he)
   rw[h2,World.putObj_heap_other e]
   exact r1.block k hk hn
 ·show(c2.w.putObj b o0).heap[k]?=_
  have e:k≠b:=fun e=>by subst e;exact hk.elim h.sa h.so
  rw[World.putObj_heap_other e]
  have h2:c2.w.heap[k]?=(c1.w.putObj b o1).heap[k]?:=r2.stable k (hk.imp (fun x=>by show c1.Sa k;rw[r1.sa];exact x) (r1.so1 k))
  rw[h2,World.putObj_heap_other e]
  exact r1.stable k hk
 ·rcases r2.so2 k hk with h1|h1|⟨q,y,h1,h2⟩
  ·exact r1.so2 k h1
  ·right;left
   have h3:(c1.w.putObj b o1).heap.size<=k:=h1
   rw[World.putObj_size] at h3
   exact Nat.le_trans r1.size h3
  ·have h2':(c1.ρ q).blk=k:=h2
   rcases r1.own q y h1 with h3|⟨q',y',h3,h4⟩
   ·exact .inr (.inl (by omega))
   ·exact .inr (.inr ⟨q',y',h3,h4.trans h2'⟩)
 ·rcases r2.own o x hx with h1|⟨q,y,h1,h2⟩
  ·left
   have h3:(c1.w.putObj b o1).heap.size<=(c2.ρ o).blk:=h1
   rw[World.putObj_size] at h3
   exact Nat.le_trans r1.size h3
  ·rcases r1.own q y h1 with h3|⟨q',y',h3,h4⟩
   ·left
    have:(c1.ρ q).blk=(c2.ρ o).blk:=h2
    show c.w.heap.size<=(c2.ρ o).blk
    omega
   ·exact .inr ⟨q',y',h3,h4.trans h2⟩
def zipL:List Nat->List AV->List (Nat×AV)->List (Nat×AV)
 |p::ps,a::as,L=>zipL ps as ((p,a)::L)
 |_,_,L=>L
theorem X04s {c:Ctx} {n:Nat}:∀ (ps:List Nat) (as:List AV) (vs:List Value) (L:List (Nat×AV)) (tmps:Array Value),as.length=vs.length->(∀ (i:Nat) a v,as[i]?=some a->vs[i]?=some v->X1e c false a v/\a.Ok (·<n)) ->
  (∀ p∈ps,p<tmps.size)->(∀ t,X1e c false (fr L t) (tmps.getD t undef)/\(fr L t).Ok (·<n)) ->
  (∀ t,X1e c false (fr (zipL ps as L) t) (((ps.zip vs).foldl (fun t (p,v)=>t.setIfInBounds p v) tmps).getD t undef)/\(fr (zipL ps as L) t).Ok (·<n))/\((ps.zip vs).foldl (fun t (p,v)=>t.setIfInBounds p v) tmps).size=tmps.size:=by
 intro ps
 induction ps with
 |nil=>intro as vs L tmps _ _ _ h;cases as<;>exact⟨h,rfl⟩
 |cons p ps ih =>
  intro as vs L tmps hl ha hp h
  cases as with
  |nil =>
   have:vs=[]:=List.eq_nil_of_length_eq_zero (by rw[<-hl];rfl)
   subst this
   exact⟨h,rfl⟩
  |cons a as =>
   cases vs with
   |nil=>simp at hl
   |cons v vs =>
    have h0:=ha 0 a v rfl rfl
    obtain⟨k1,k2⟩:=ih as vs ((p,a)::L) (tmps.setIfInBounds p v) (by simpa using hl) (fun i a v h1 h2=>ha (i+1) a v (by simpa using h1) (by simpa using h2)) (fun q hq=>by simpa using hp q (List.mem_cons_of_mem _ hq)) (fun t=>by
     rw[Xq4 (hp p List.mem_cons_self)]
     by_cases ht:t=p
     ·subst ht;rw[if_pos rfl]
      have:fr ((t,a)::L) t=a:=by simp[fr]
      rw[this];exact h0
     ·rw[if_neg ht]
      have:fr ((p,a)::L) t=fr L t:=by
       have hb:Nat.beq t p=false:=by rw[<-Bool.not_eq_true,Nat.beq_eq];exact ht
       simp[fr,hb]
      rw[this];exact h t)
    exact⟨k1,by simpa using k2⟩
def asgQ (P:Program) (nt n:Nat) (body:Code) (RQ:X02->St->Mu->Prop):X02->St->Mu->Prop:=fun e s μ=>e=.normal/\μ=[]/\X6a P nt n body RQ s []
theorem X2.asg {P:Program} {nt n:Nat} {body:Code} {RQ:X02->St->Mu->Prop} {s:St} (h:X2 P nt n RQ (.code body) [] s []):X2 P nt n (asgQ P nt n body RQ) (.exit .normal) [] s [] :=
 Cl.mk ⟨rfl,rfl,X6a.ofCl h⟩
theorem Xxe {μ:Mu} {b:Nat} {r:Loop} {nt m:Nat} {A:Nat->AV} (h:(b,.loop r nt m A)∈μ):Xly μ=false:=by
 induction μ with
 |nil=>cases h
 |cons p μ ih =>
  obtain⟨q,x⟩:=p
  rcases List.mem_cons.1 h with h|h2
  ·cases h;rfl
  ·cases x with
   |loop=>rfl
   |mark=>exact ih h2
   |map=>exact ih h2
   |blk=>exact ih h2
def rndQ (P:Program) (nt n0:Nat) (Q:X02->St->Mu->Prop) (ops:Array Oper) (l:List Oper) (K:List Kn) (L:List (Nat×AV)) (d:Option Nat) (μ:Mu):X02->St->Mu->Prop :=
 fun e s _=>e=.normal/\X2 P nt n0 Q (.ops ops l) K ⟨Xex (fr L) d (.sc (.bool true)),s.H,s.n⟩ μ
theorem X2.rndEnd {P:Program} {nt n0 nt' n1:Nat} {Q:X02->St->Mu->Prop} {ops:Array Oper} {l:List Oper} {K:List Kn} {L L1:List (Nat×AV)} {d:Option Nat} {μ μ1:Mu} {G:List (Nat×Obj)} {n:Nat}
  (h:X2 P nt n0 Q (.ops ops l) K ⟨fr (putO d (.sc (.bool true)) L),hp G,n⟩ μ):X2 P nt' n1 (rndQ P nt n0 Q ops l K L d μ) (.exit .normal) [] ⟨fr L1,hp G,n⟩ μ1 :=
 Cl.mk ⟨rfl,by show X2 P nt n0 Q (.ops ops l) K ⟨Xex (fr L) d (.sc (.bool true)),hp G,n⟩ μ;rw[<-X8i];exact h⟩
theorem X2.yield {P:Program} {nt n0 n b ntc m:Nat} {Q:X02->St->Mu->Prop} {ops:Array Oper} {l:List Oper} {o:Oper} {K:List Kn} {L Lc:List (Nat×AV)} {G:List (Nat×Obj)} {μ:Mu} {x:Operand} {args:Array Operand} {ts:Array Nat} {r:Loop}
  {as:List AV} {qx qa:List Prop} {ps:Array Nat} {assign body:Code} (ho:o.op=.call { callee:=.value x,args:=args,argTypes:=ts }) (hg:o.guard=none) (hd:Xnz nt o.dst=true)
  (hx:rd L x=(.sc (.func (.yield b) #[] #[]),qx)) (ha:rds L args.toList=(as,qa)) (hqx:X68 qx) (hqa:X68 qa)
  (hμ:(b,.loop r ntc m (fr Lc))∈μ) (h1:r.state=.ready) (h2:r.pending=none) (h3:r.params=ps) (h4:r.assign=assign) (h5:r.body=body)
  (hps:(Nat.beq as.length ps.size&&ps.toList.all fun p=>Nat.blt p ntc)=true) (ht:(X97 assign||X97 body)=false)
  (h:X2 P ntc n (asgQ P ntc n body (rndQ P nt n0 Q ops l K L o.dst μ)) (.code assign) [] ⟨fr (zipL ps.toList as Lc),hp G,n⟩ []):X2 P nt n0 Q (.ops ops (o::l)) K ⟨fr L,hp G,n⟩ μ:=by
 subst h3 h4 h5
 simp only[Bool.and_eq_true,Nat.beq_eq,List.all_eq_true,Nat.blt_eq] at hps
 obtain⟨hp1,hp2⟩:=hps
 simp only[Bool.or_eq_false_iff] at ht
 intro c0 H0 c act g hm Qx hQ R hR
 cases R with
 |none=>rw[Xxe hμ] at hR;exact absurd (hR rfl) (by simp)
 |some R =>
 refine X4g fun K' hK'=>?_
 rw[if_pos (by simp[Region.wanted,hg])]
 obtain⟨⟨hrec,hsz⟩,hmn,hAok,hA⟩:=hm.is _ hμ
 obtain⟨w1,w2,w3,w4⟩:=hm.away _ hμ
 have haw:Away c (hp G) b:=⟨w1,w2,w3⟩
 have hlt:b<c.w.heap.size:=(Array.getElem?_eq_some_iff.1 hrec).1
 have ex:act.eval x=.func (.yield b) #[] #[]:=by have:=g.ev x;rw[show evA (St.A ⟨fr L,hp G,n⟩) x=_ from X1g hx hqx] at this;exact this.sc_inv
 have hargs:args.toList.map (evA (fr L))=as:=Xk1 ha hqa
 have hlen:as.length=args.size:=by rw[<-hargs];simp
 have hy:=run_yield (P:=P) (args:=args.map act.eval) hrec (by rw[Array.size_map,<-hlen];exact hp1)
 have hrun:(execOp act.eval o).run P c.w=.ok (.round b r.fn ((r.params.zip (args.map act.eval)).foldl (fun tmps (t,a)=>tmps.setIfInBounds t a) r.tmps) r.assign r.body) c.w:=by
  simp only[execOp,ho,resolve,ex,Deferred.ofValue,Sem.run_bind,Sem.run_pure,Result.andThen_ok,invoke,Array.empty_append,Array.append_empty]
  exact hy
 show Oper.wpIn (FR R) 0 P o act c.w K' Qx
 refine⟨fun _ _=>trivial,?_⟩
 rw[Oper.semAt_eq _ _ _ (fun d hd=>by rw[hd] at ho;cases ho),hrun,Oper.uponIn_round]
 refine⟨fun h=>Bool.noConfusion h,roundIn_of_wpIn trivial ?_⟩
 have hz:(r.params.zip (args.map act.eval)).foldl (fun tmps (t,a)=>tmps.setIfInBounds t a) r.tmps=(r.params.toList.zip (args.toList.map act.eval)).foldl (fun t (p,v)=>t.setIfInBounds p v) r.tmps:=by
  rw[<-Array.foldl_toList];simp
 have hzip:=X04s (c:=c) (n:=n) r.params.toList as (args.toList.map act.eval) Lc r.tmps (by rw[<-hargs];simp) (fun i a v h1 h2=>by
   rw[<-hargs,List.getElem?_map] at h1
   rw[List.getElem?_map] at h2
   cases hq:args.toList[i]? with
   |none=>simp[hq] at h1
   |some q =>
    simp only[hq,Option.map_some,Option.some.injEq] at h1 h2
    subst h1 h2
    exact⟨g.ev q,g.evOk q⟩) (fun p hp=>by rw[hsz];exact hp2 p hp) (fun t=>⟨hA t,(hAok t).mono fun q hq=>Nat.lt_of_lt_of_le hq (Nat.le_trans hmn g.le0)⟩)
 rw[<-hz] at hzip
 have gB:X52 ntc c (hp G) n c ⟨fr (zipL r.params.toList as Lc),hp G,n⟩ { tmps:=(r.params.zip (args.map act.eval)).foldl (fun tmps (t,a)=>tmps.setIfInBounds t a) r.tmps,defers:=[] } :=
  ⟨g.inv,g.solo,fun t=>(hzip.1 t).1,fun t=>(hzip.1 t).2,hzip.2.trans hsz,.refl _ _ _,Nat.le_refl _⟩
 refine wpIn_mono (X6a.ofCl h c (hp G) c _ gB (.nil rfl) (some b) (fun h=>by rw[ht.1] at h;cases h)) ?_
 rintro e a1 w' ⟨c1,s1,ae,μ1,rfl,g1,hm1,rfl,rfl,rfl,hbody⟩
 have hrec1:c1.w.heap[b]?=some (.loop r):=(g1.reach.block b hlt haw.ob).trans hrec
 refine⟨_,run_beginRound hrec1 h1,?_⟩
 have aw1:Away c1 s1.H b:=haw.kept hlt g1.reach
 obtain⟨g1',_⟩:=g1.turn0 (.loop { r with state:=.busy }) aw1
 refine wpIn_mono (hbody _ s1.H _ a1 g1' (.nil hm1.ds) (some b) (fun h=>by rw[ht.2] at h;cases h)) ?_
 rintro e a2 w' ⟨c2,s2,ae,μ2,rfl,g2,hm2,rfl,rfl,hk⟩
 have hlt1:b<c1.w.heap.size:=(Array.getElem?_eq_some_iff.1 hrec1).1
 have hrec2:c2.w.heap[b]?=some (.loop { r with state:=.busy }) :=
  (g2.reach.block b (by show b<(c1.w.putObj b _).heap.size;rw[World.putObj_size];exact hlt1) aw1.ob).trans (World.putObj_heap_same hlt1)
 have hr:({ r with state:=.ready,pending:=none }:Loop)=r:=by
  obtain⟨st,pe,fn,tm,pa,asg,bd,de⟩:=r
  simp only at h1 h2
  subst h1 h2;rfl
 have hend:=run_endRound (P:=P) none hrec2
 simp only[Option.isNone_none,if_true] at hend
 rw[hr] at hend
 refine⟨_,_,hend,?_⟩
 have aw2:Away c2 s2.H b:=(Away.mk aw1.sa aw1.so aw1.ob:Away { c1 with w:=c1.w.putObj b (.loop { r with state:=.busy }) } s1.H b).kept (by show b<(c1.w.putObj b _).heap.size;rw[World.putObj_size];exact hlt1) g2.reach
 obtain⟨g3,_⟩:=g2.turn0 (.loop r) aw2
 have rt:Reach c (hp G) n { c2 with w:=c2.w.putObj b (.loop r) } s2.H:=Reach.turnBack g1.reach g2.reach hrec haw
 have gf:=g.next (Xcn hd) rt.le rt.sa rt.so2 rt.fr rt.own g3.inv g3.solo g3.le0 (a:=.sc (.bool true)) (v:=.bool true) .sc .sc
 exact hK' _ _ (hk c0 H0 _ _ gf (hm.kept (rt.weaken g.le0)) Qx hQ (some R) (fun h=>by cases h))
def Xne:Code->List (Array Nat×Code×Code)
 |.loop b=>Xne b
 |.seq a b=>Xne a++Xne b
 |.block _ c=>Xne c
 |.scope c=>Xne c
 |.cond _ a b=>Xne a++Xne b
 |.rangeFunc _ ps a b=>(ps,a,b)::(Xne a++Xne b)
 |_=>[]
def rfB (i:Nat) (c:Code):Array Nat×Code×Code:=((Xne c)[i]?).getD (#[],.skip,.skip)
def Xnq (slots:List Nat) (L:List (Nat×AV)):List (Nat×AV):=slots.map fun t=>(t,fr L t)
theorem Xw6 (L:List (Nat×AV)):∀ (slots:List Nat) (t:Nat),fr (Xnq slots L) t=fr L t\/fr (Xnq slots L) t=.junk:=by
 intro slots
 induction slots with
 |nil=>intro t;exact .inr rfl
 |cons q r ih =>
  intro t
  show fr ((q,fr L q)::Xnq r L) t=_\/fr ((q,fr L q)::Xnq r L) t=_
  simp only[fr]
  cases hb:Nat.beq t q with
  |true=>rw[Nat.eq_of_beq_eq_true hb];exact .inl rfl
  |false=>exact ih t
theorem X2.keepL {P:Program} {nt n0 n:Nat} {Q:X02->St->Mu->Prop} {cf:Cf} {K:List Kn} {L:List (Nat×AV)} {G:List (Nat×Obj)} {μ:Mu} (slots:List Nat) (h:X2 P nt n0 Q cf K ⟨fr (Xnq slots L),hp G,n⟩ μ):X2 P nt n0 Q cf K ⟨fr L,hp G,n⟩ μ:=by
 refine X2.sub (s':=⟨fr (Xnq slots L),hp G,n⟩) (fun c0 H0 c act μ g hm=>⟨⟨g.inv,g.solo,fun t=>?_,fun t=>?_,g.size,g.reach,g.le0⟩,hm⟩) h
 ·rcases Xw6 L slots t with h|h
  ·show X1e c false (fr (Xnq slots L) t) _;rw[h];exact g.frame t
  ·show X1e c false (fr (Xnq slots L) t) _;rw[h];exact .junk
 ·rcases Xw6 L slots t with h|h
  ·show(fr (Xnq slots L) t).Ok _;rw[h];exact g.ok t
  ·show(fr (Xnq slots L) t).Ok _;rw[h];exact .junk
def rfQ (P:Program) (nt n0:Nat) (Q:X02->St->Mu->Prop) (K:List Kn) (L:List (Nat×AV)) (μ:Mu) (D:Nat) (μi:Mu):X02->St->Mu->Prop :=
 fun e s μ'=>(∀ id,e≠.exit id)/\μ'=μi/\X2 P nt n0 Q (.exit .normal) K ⟨fr L,s.H,s.n⟩ ((D,.mark)::μ)
theorem X2.rfEnd {P:Program} {nt n0 nt' n1:Nat} {Q:X02->St->Mu->Prop} {K:List Kn} {L L1:List (Nat×AV)} {μ μi:Mu} {D:Nat} {G:List (Nat×Obj)} {n:Nat} {e:X02} (he:∀ id,e≠.exit id)
  (h:X2 P nt n0 Q (.exit .normal) K ⟨fr L,hp G,n⟩ ((D,.mark)::μ)):X2 P nt' n1 (rfQ P nt n0 Q K L μ D μi) (.exit e) [] ⟨fr L1,hp G,n⟩ μi :=
 Cl.mk ⟨he,rfl,h⟩
theorem X52.alloc {nt n0:Nat} {c0 c:Ctx} {H0:X0r} {s:St} {act:Act} (o:Go.Obj) (g:X52 nt c0 H0 n0 c s act):X52 nt c0 H0 n0 { c with w:=c.w.alloc o } s act:=by
 obtain⟨h1,h2,h3⟩:=g.inv.waste (w':=c.w.alloc o) o rfl rfl rfl ⟨rfl,Nat.le_refl _⟩
 have:=g.next (c':={ c with w:=c.w.alloc o }) (dst:=none) (a:=.sc undef) (v:=undef) (fun d h=>by cases h) h1 rfl (fun b hb=>.inl hb) h3 (fun q x hx=>.inr ⟨q,x,hx,rfl⟩) h2 g.solo (Nat.le_refl _) .sc .sc
 exact this
theorem X2.rangeFunc {P:Program} {nt n0 n gf nti:Nat} {Q:X02->St->Mu->Prop} {K:List Kn} {L:List (Nat×AV)} {G:List (Nat×Obj)} {μ:Mu} {g:Operand} {ps:Array Nat} {assign body codeI:Code} {fnI:Func} {caps:List AV} {q:List Prop}
  (hg:rd L g=(.fn gf caps,q)) (hq:X68 q) (hfn:X1h P gf fnI codeI) (hnt:fnI.ntmps=nti) (hle:Nat.ble (caps.length+1) nti=true) (hres:fnI.results=#[])
  (h:∀ (b D:Nat) (r:Loop),r.state=.ready->r.pending=none->r.params=ps->r.assign=assign->r.body=body ->
   X2 P nti n (rfQ P nt n0 Q K L μ D [(b,.loop r nt n (fr L)),(D,.blk (.deferred (some [])))]) (.code codeI) [] ⟨fr (argL 0 (.sc (.func (.yield b) #[] #[])::caps)),hp G,n⟩ [(b,.loop r nt n (fr L)),(D,.blk (.deferred (some [])))]) :
  X2 P nt n0 Q (.code (.rangeFunc g ps assign body)) K ⟨fr L,hp G,n⟩ μ:=by
 intro c0 H0 c act gd hm R hR
 obtain rfl:=hR rfl
 have hv:=gd.ev g
 rw[show evA (St.A ⟨fr L,hp G,n⟩) g=_ from X1g hg hq] at hv
 have hvo:=gd.evOk g
 rw[show evA (St.A ⟨fr L,hp G,n⟩) g=_ from X1g hg hq] at hvo
 obtain⟨cv,hcv,hcl,hcr⟩:=hv.fn_inv
 refine wpIn_rangeFunc ?_
 intro fn _
 let D:=c.w.heap.size
 let b:=c.w.heap.size+1
 let rec0:Loop:={ state:=.ready,pending:=none,fn,tmps:=act.tmps,params:=ps,assign,body,defers:=c.w.heap.size }
 let W1:World:=(c.w.alloc (.deferred (some []))).alloc (.loop rec0)
 let c1:Ctx:={ c with w:=W1 }
 have hL1:W1.heap[b]?=some (.loop rec0):=by
  have:=World.alloc_heap_new (c.w.alloc (.deferred (some []))) (.loop rec0);rwa [World.size_alloc] at this
 have hK1:W1.heap[D]?=some (.deferred (some [])):=(RowKit.Below.heap_alloc _ _ _ (by simp[D])).trans (World.alloc_heap_new c.w _)
 have hs1:W1.heap.size=c.w.heap.size+2:=by simp[W1]
 have g1:X52 nt c (hp G) n0 c1 ⟨fr L,hp G,n⟩ act:=(gd.rebase.alloc (.deferred (some []))).alloc (.loop rec0)
 have hold:∀ k,k<c.w.heap.size->W1.heap[k]?=c.w.heap[k]?:=fun k hk=>(RowKit.Below.heap_alloc _ _ _ (by simp;omega)).trans (RowKit.Below.heap_alloc _ _ _ hk)
 have r1:Reach c (hp G) n c1 (hp G):=⟨fun _ _=>rfl,rfl,rfl,⟨rfl,Nat.le_refl _⟩,by show c.w.heap.size<=W1.heap.size;omega,fun k hk _=>hold k hk,fun k hk=>hold k (gd.inv.lt k hk),rfl,fun _ h=>h,fun _ h=>.inl h,rfl,fun o x hx=>.inr ⟨o,x,hx,rfl⟩⟩
 have hob:∀ o x,hp G o=some x->(c.ρ o).blk<c.w.heap.size:=fun o x hx=>by
  obtain⟨_,⟨⟨cur,hcb,_⟩,_⟩,_⟩:=gd.inv.obj o x hx
  exact(Array.getElem?_eq_some_iff.1 hcb).1
 let vs:Array Value:=#[.func (.yield b) #[] #[]]++cv
 have hvs:vs.size=caps.length+1:=by simp[vs,<-hcl];omega
 have gI:X52 nti c (hp G) n c1 ⟨fr (argL 0 (.sc (.func (.yield b) #[] #[])::caps)),hp G,n⟩ { tmps:=vs++Array.replicate (fnI.ntmps - vs.size) undef,defers:=[] }:=by
  have hrel:Xkw c1 false (.sc (.func (.yield b) #[] #[])::caps) vs:=by
   refine⟨by rw[hvs];simp,fun i a v ha hv=>?_⟩
   cases i with
   |zero =>
    have hv':vs[0]?=some (.func (.yield b) #[] #[]):=by simp only[vs];rw[Array.getElem?_append_left (by simp)];rfl
    rw[hv'] at hv
    simp only[List.getElem?_cons_zero,Option.some.injEq] at ha hv
    subst ha hv;exact .sc
   |succ i =>
    have hv':cv[i]?=some v:=by
     simp only[vs] at hv
     rw[Array.getElem?_append_right (by simp)] at hv
     simpa using hv
    simp only[List.getElem?_cons_succ] at ha
    refine(hcr i a v ha hv').mono r1.le (.inr ?_)
    cases hvo with|fn hvo=>exact hvo a (List.mem_of_getElem? ha)
  have hok:∀ a∈(.sc (.func (.yield b) #[] #[])::caps:List AV),a.Ok (·<n):=by
   intro a ha
   rcases List.mem_cons.1 ha with rfl|ha
   ·exact .sc
   ·cases hvo with|fn hvo=>exact hvo a ha
  have:X52 nti c (hp G) n c1 ⟨argA (.sc (.func (.yield b) #[] #[])::caps),hp G,n⟩ { tmps:=vs++Array.replicate (fnI.ntmps - vs.size) undef,defers:=[] } :=
   ⟨g1.inv,g1.solo,fun t=>Xjn hrel _ t,fun t=>Xvn hok t,by have:=Nat.le_of_ble_eq_true hle;simp only[Array.size_append,Array.size_replicate];omega,r1,Nat.le_refl _⟩
  exact this.argL
 have mI:MOk n c c1 (hp G) [(b,.loop rec0 nt n (fr L)),(D,.blk (.deferred (some [])))] { tmps:=vs++Array.replicate (fnI.ntmps - vs.size) undef,defers:=[] }:=by
  refine⟨fun p hp=>?_,fun p hp=>?_,by simp[b,D],rfl⟩
  ·simp only[List.mem_cons,List.not_mem_nil,or_false] at hp
   rcases hp with rfl|rfl
   ·exact⟨⟨hL1,gd.size⟩,Nat.le_refl _,fun t=>gd.ok t,fun t=>g1.frame t⟩
   ·exact hK1
  ·simp only[List.mem_cons,List.not_mem_nil,or_false] at hp
   have key:∀ k,c.w.heap.size<=k->¬ c1.Sa k/\¬ c1.So k/\(∀ o x,Av.hp G o=some x->(c1.ρ o).blk≠k)/\c.w.heap.size<=k:=fun k hk =>
    ⟨fun hs=>by have:=gd.inv.lt k (.inl hs);omega,fun hs=>by have:=gd.inv.lt k (.inr hs);omega,fun o x hx e=>by have h1:=hob o x hx;have h2:(c.ρ o).blk=k:=e;omega,hk⟩
   rcases hp with rfl|rfl
   ·exact key b (by simp[b])
   ·exact key D (Nat.le_refl _)
 refine⟨b,[{ target:=.collected D,args:=#[] }],W1,{ target:=.fn (.func gf) cv,args:=#[.func (.yield b) #[] #[]] },W1,gf,vs,W1,run_enterLoop_outer _ _ _ _ _,?_,fun _ _=>trivial,?_,fun h=>Bool.noConfusion h,?_⟩
 ·simp only[resolve,hcv]
  simp[go_sem]
 ·simp only[invoke,callFunc,Sem.run_bind,run_program,Result.andThen_ok,hfn.here,hfn.name,hfn.body,Option.isNone_some,Bool.false_eq_true,if_false]
  rfl
 refine callsIn_of_wp hfn.here hfn.body trivial ?_ rfl
 refine wpIn_mono (X6a.ofCl (h b D rec0 rfl rfl rfl rfl rfl) c (hp G) c1 _ gI mI none .none) ?_
 rintro e a w' ⟨c2,s2,ae,μ2,rfl,g2,hm2,rfl,hne,rfl,hk⟩
 have hds:a.defers=[]:=hm2.ds
 have fin:a.defers=[]/\∃ v,(results fnI a.tmps).run P c2.w=.ok v c2.w/\rangePost (FR none) 0 P b (MQ nt c0 H0 n0 (Xhq P nt n0 Q K)) { act with defers:=[{ target:=.collected D,args:=#[] }]++act.defers } (.returned v) c2.w:=by
  obtain⟨⟨hrec,_⟩,_⟩:=hm2.is (b,.loop rec0 nt n (fr L)) (by simp)
  have hDk:c2.w.heap[D]?=some (.deferred (some [])):=hm2.is (D,.blk (.deferred (some []))) (by simp)
  obtain⟨x1,x2,x3,x4⟩:=hm2.away (b,.loop rec0 nt n (fr L)) (by simp)
  obtain⟨y1,y2,y3,y4⟩:=hm2.away (D,.blk (.deferred (some []))) (by simp)
  obtain⟨g3,hle3⟩:=g2.turn (.loop { rec0 with state:=.exhausted }) x1 x2 x3 x4
  refine⟨hds,.tuple #[],by simp[results,hres,go_sem],?_⟩
  refine⟨none,_,run_endLoop hrec (by simp[rec0]),?_⟩
  have rt:=g3.reach
  have gc:=gd.next (dst:=none) (a:=.sc undef) (v:=undef) (fun d h=>by cases h) rt.le rt.sa rt.so2 rt.fr rt.own g3.inv g3.solo g3.le0 .sc .sc
  have gc2:X52 nt c0 H0 n0 { c2 with w:=c2.w.putObj b (.loop { rec0 with state:=.exhausted }) } ⟨fr L,s2.H,s2.n⟩ { act with defers:=[{ target:=.collected D,args:=#[] }]++act.defers } :=
   ⟨gc.inv,gc.solo,gc.frame,gc.ok,gc.size,gc.reach,gc.le0⟩
  have hmk:=hm.kept (rt.weaken gd.le0) (act':=act) rfl
  refine⟨_,⟨fr L,s2.H,s2.n⟩,.normal,(D,.mark)::μ,rfl,gc2,⟨fun p hp=>?_,fun p hp=>?_,?_,?_⟩,rfl,hk⟩
  ·rcases List.mem_cons.1 hp with rfl|hp
   ·exact(World.putObj_heap_other (by simp[b,D])).trans hDk
   ·exact hmk.is p hp
  ·rcases List.mem_cons.1 hp with rfl|hp
   ·exact⟨y1,y2,y3,Nat.le_trans gd.reach.size y4⟩
   ·exact hmk.away p hp
  ·refine List.nodup_cons.2 ⟨fun hmem=>?_,hm.nodup⟩
   obtain⟨p,hp,he⟩:=List.mem_map.1 hmem
   have:=(hm.is p hp).lt
   simp only[D] at he
   omega
  ·show[_]++act.defers=_::dsOf μ
   rw[hm.ds];rfl
 cases ae with
 |exit id=>exact(hne id rfl).elim
 |normal=>exact fin
 |ret=>exact fin
end Go.Av


namespace Go.Av
def StTo (nt n0:Nat) (s s':St):Prop:=∀ (c0:Ctx) (H0:X0r) (c:Ctx) (act:Act) (μ:Mu),X52 nt c0 H0 n0 c s act->MOk n0 c0 c s.H μ act->∃ c',c'.w=c.w/\X52 nt c0 H0 n0 c' s' act/\MOk n0 c0 c' s'.H μ act
section
variable {P:Program} {nt n0:Nat} {s s':St} {Q:X02->St->Mu->Prop} {μ:Mu}
theorem StTo.loop (hw:StTo nt n0 s s') {b:Code} (h:Xah P nt n0 b Q s' μ):Xah P nt n0 b Q s μ:=by
 intro c0 H0 c act g hm R hR
 obtain⟨c',hc,g',hm'⟩:=hw c0 H0 c act μ g hm
 have:=h c0 H0 c' act g' hm' R hR
 rwa [hc] at this
theorem StTo.semM (hw:StTo nt n0 s s') {c:Code} (h:X6a P nt n0 c Q s' μ):X6a P nt n0 c Q s μ:=by
 intro c0 H0 c act g hm R hR
 obtain⟨c',hc,g',hm'⟩:=hw c0 H0 c act μ g hm
 have:=h c0 H0 c' act g' hm' R hR
 rwa [hc] at this
end
end Go.Av


namespace Go.D
def X70 {α:Type} (c:α->α->Option Int) (l:List α):List α:=l.mergeSort fun x y=>!(decide ((c y x).getD 0<0))
def Xp1 {α:Type} (c:α->α->Option Int) (l:List α):Option (List α):=if l.length<=140737488355328 then some (X70 c l) else none
theorem Xp0 {α:Type} {c:α->α->Option Int} {l m:List α} (h:Xp1 c l=some m):l.length<=140737488355328/\m=X70 c l:=by
 unfold Xp1 at h
 split at h
 ·rename_i hl;cases h;exact⟨hl,rfl⟩
 ·cases h
theorem Xqw {α:Type} {c:α->α->Option Int} {m:List α} (h:Xp1 c []=some m):m=[]:=by
 rw[(Xp0 h).2];simp[X70]
theorem Xqx {α:Type} {c:α->α->Option Int} {l m:List α} (h:Xp1 c l=some m):m.length=l.length:=by
 rw[(Xp0 h).2];simp[X70]
end Go.D
namespace Go.Av
open Go.D
class Xat {α:Type} (f:α->AV):Prop where
 flat:∀ x,Xc3 (f x)
 whole:∀ x,(f x).whole=true
 still:∀ x,X83 (f x)
instance iInt {k:IntKind}:Xat (aI k):=⟨fun _=>Xcm,fun _=>rfl,fun _=>X7k⟩
instance X0fv:Xat aB:=⟨fun _=>Xcm,fun _=>rfl,fun _=>X7k⟩
class X0ah {α:Type} (g:Bool->α->AV):Prop where
 cva:∀ {H:X0r} {o:Bool} {x:α},Cv false H (g o x) (g false x)
 cvt:∀ {H:X0r} {o:Bool} {x:α},Cv true H (g o x) (g o x)
 len:∀ (o o':Bool) (x:α),(g o x).cells.length=(g o' x).cells.length
 free:∀ (o:Bool) (x:α),Xc5 (g o x)
 still:∀ (o:Bool) (x:α),X83 (g o x)
theorem cvLf {α:Type} {f:α->AV} [i:Xat f] {H:X0r} {o:Bool} {l:List α}:Cv false H (.list o (l.map f)) (.list false (l.map f)):=X5q (X1x i.flat l)
theorem cvLe {α:Type} {f:α->AV} [i:Xat f] {H:X0r} {o p:Bool} {l:List (List α)}:Cv false H (.list o (l.map (X56 p f))) (.list false (l.map (X56 false f))) :=
 Xvj (f:=X56 p f) (g:=X56 false f) (fun _=>rfl) (fun x=>Xeh (show Cv false H (.list p (x.map f)) (.list false (x.map f)) from cvLf)) l
theorem cvR {α:Type} {f:α->AV} [i:Xat f] {m:Bool} {H:X0r} {o n:Nat} {x:Obj} {l:List α} (hH:H o=some x) (he:x.es=l.map f) (hn:n=(l.map f).length):Cv m H (.ref o 0 n) (.list m (l.map f)) :=
 Xss hH he hn (X1x i.flat l)
theorem ownL {α:Type} {f:α->AV} [i:Xat f] {l:List α}:Xna (.list true (l.map f)):=Xlw (X1x i.flat l)
def CvE (m:Bool) (H:X0r) (e e':AV):Prop:=e.cells.length=e'.cells.length/\∀ (k:Nat) a b,e.cells[k]?=some a->e'.cells[k]?=some b->Cv m H a b
def CvL (m:Bool) (H:X0r) (l l':List AV):Prop:=l.length=l'.length/\∀ (i:Nat) e e',l[i]?=some e->l'[i]?=some e'->CvE m H e e'
theorem CvL.nil {m:Bool} {H:X0r}:CvL m H [] []:=⟨rfl,fun i e e' h=>by simp at h⟩
theorem CvL.cons {m:Bool} {H:X0r} {e e':AV} {l l':List AV} (h:CvE m H e e') (t:CvL m H l l'):CvL m H (e::l) (e'::l'):=by
 refine⟨by simp[t.1],fun i a b ha hb=>?_⟩
 cases i with
 |zero=>simp at ha hb;subst ha;subst hb;exact h
 |succ i=>simp at ha hb;exact t.2 i a b ha hb
theorem cvM {P:Prop} (h:P:=by
 repeat' first
  |exact Cvs.nil
  |refine Cvs.cons ?_ ?_
  |exact Cv.sc
  |exact Cv.fn0
  |exact Cv.listS rfl
  |exact cvLf
  |exact cvW
  |exact cvGt
  |exact cvG
  |exact cvLg
  |exact cvLe
  |refine X0c0 ?_
  |exact Cv.nils
  |exact cvNil (by first|rfl|assumption|(simp;done)|(simp[*];done)|fail)
  |exact cvR rfl (by first|rfl|(simp;done)|(simp;rfl)|(simp[*];done)|(simp[*];rfl)|fail) (by first|rfl|(simp;done)|(simp;omega)|(simp[*];done)|(simp[*];omega)|fail)
  |exact cvRt rfl (by first|rfl|(simp;done)|(simp;rfl)|(simp[*];done)|fail) (by first|rfl|(simp;done)|(simp;omega)|(simp[*];done)|fail)
  |exact cvRg true rfl (by first|rfl|(simp;done)|(simp;rfl)|(simp[*];done)|fail) (by first|rfl|(simp;done)|(simp;omega)|(simp[*];done)|fail)
  |exact cvRg false rfl (by first|rfl|(simp;done)|(simp;rfl)|(simp[*];done)|fail) (by first|rfl|(simp;done)|(simp;omega)|(simp[*];done)|fail)
  |exact cvRe true rfl (by first|rfl|(simp;done)|(simp;rfl)|(simp[*];done)|fail) (by first|rfl|(simp;done)|(simp;omega)|(simp[*];done)|fail)
  |exact cvRe false rfl (by first|rfl|(simp;done)|(simp;rfl)|(simp[*];done)|fail) (by first|rfl|(simp;done)|(simp;omega)|(simp[*];done)|fail)
  |exact cvRf rfl (by first|rfl|(simp;done)|(simp;rfl)|(simp[*];done)|fail) (by first|rfl|(simp;done)|(simp;omega)|(simp[*];done)|fail)
  |exact cvLq (by first|rfl|(simp;done)|(simp[*];done)|fail)
  |exact cv_leqS (by first|rfl|(simp;done)|(simp[*];done)|fail)
  |exact Xoq (by first|rfl|(simp;done)|(simp[*];done)|fail)
  |refine Xst ?_
  |exact Cv.nils0
  |refine cv_refs rfl ?_ rfl
  |exact CvL.nil
  |refine CvL.cons ?_ ?_
  |refine cvE_agg ?_
  |refine cvE_one ?_ rfl rfl
  |refine Cv.ptrL rfl rfl rfl rfl (Xeh ?_)
  |refine Cv.elemD rfl rfl (Xeh ?_)
  |refine Cv.weak ?_
 first|done|fail):P:=h
theorem ownM {P:Prop} (h:P:=by
 repeat' first
  |exact .sc
  |exact ownL
  |exact ownW
  |refine Xra ?_
  |refine X1d ?_ ?_
  |exact X8w
  |refine Xna.agg ?_
 first|done|fail):P:=h
class PCs (P:Program) (f:Nat) (S:outParam Prop):Prop where
 ok:S
theorem pcN {P:Program} {f:Nat} {H:X0r} {as bs:List AV} {r:AV} {S:Prop} [i:PCs P f S] (k:S->X0g P f bs r) (hc:Cvs false (fun _=>none) as bs):X5s P f H as bs r:=.none (k i.ok) hc
theorem pcL {P:Program} {f:Nat} {H:X0r} {as bs:List AV} {r:AV} {S:Prop} [i:PCs P f S] (k:S->X0g P f bs r) (hc:Cvs false H as bs) (ho:Xna r):X5s P f H as bs r:=.lent (k i.ok) hc ho
theorem pcM {P:Prop} (h:P:=by
 first
  |exact pcN (by intro K;apply K;assumption) cvM
  |exact pcL (by intro K;apply K;assumption) cvM ownM):P:=h
theorem X0k {P:Prop} (h:P:=by
 repeat' first
  |refine And.intro ?_ ?_
  |exact trivial
  |exact pcM
  |exact oblA
 first|done|fail):P:=h
theorem X0cu {cs:List AV} {M:Nat->Prop} (h:∀ a∈cs,a.Ok M):∀ e∈[AV.agg cs],∀ a∈e.cells,a.Ok M:=fun e he=>by rw[List.mem_singleton.1 he];exact h
def X051 (f:Nat->Nat):List AV->List AV->Prop
 |[],[]=>True
 |a::r,b::s=>a=b.ren f/\X051 f r s
 |_,_=>False
theorem Xw3 {f:Nat->Nat}:∀ {cs cs':List AV},X051 f cs cs'->cs=AV.rens f cs'
 |[],[],_=>rfl
 |a::r,b::s,h=>by
  show a::r=AV.ren f b::AV.rens f s
  rw[<-h.1,<-Xw3 h.2]
 |[],_::_,h=>h.elim
 |_::_,[],h=>h.elim
theorem aggV {f:Nat->Nat} {cs cs':List AV} (h:X051 f cs cs'):AV.agg cs=(AV.agg cs').ren f:=by rw[Xw3 h];rfl
theorem aggR {f:Nat->Nat} {cs cs':List AV} (h:X051 f cs cs'):[AV.agg cs]=[AV.agg cs'].map (AV.ren f):=by rw[aggV h];rfl
theorem refR {f:Nat->Nat} {i j n m:Nat} (hi:j=f i) (h:n=m):AV.ref j 0 n=(AV.ref i 0 m).ren f:=by rw[hi,h];rfl
class TmD (P:Program) (T:outParam Ty):Prop where
 ok:Xf1 P T/\P.follows .mixedOrders=true
abbrev nbS {α:Type} {l:List α} (h:l=[]:=by first|rfl|simp[*]):Nb l:=nbT h
theorem okF {α:Type} {f:α->AV} [i:Xat f] {x:α} {M:Nat->Prop}:(f x).Ok M:=(X4o (i.flat x) (i.whole x) M).1
theorem okG {α:Type} {g:Bool->α->AV} [i:X0ah g] {o:Bool} {x:α} {M:Nat->Prop}:(g o x).Ok M:=(i.free o x M).1
theorem okM {P:Prop} (h:P:=by
 repeat' first
  |exact X8w
  |refine X1d ?_ ?_
  |exact .sc
  |exact .list
  |exact X00n
  |exact .elem
  |exact okF
  |exact okG
 first|done|fail):P:=h
theorem bI {α β:Type} {x:Option α} {f:α->Option β} {r:β} {G:Prop} (k:∀ v,x=some v->f v=some r->G):x.bind f=some r->G:=fun h=>X0c4 h k
theorem brI {α:Type} {c:Bool} {a b:Option α} {r:α} {G:Prop} (h1:c=true->a=some r->G) (h2:c=false->b=some r->G):(bif c then a else b)=some r->G:=fun h=>brE h h1 h2
theorem oj {α:Type} {a b:α} (h:some a=some b):a=b:=Option.some.inj h
theorem X10 {P:Program} {T:Ty} {nt n0:Nat} {μ:Mu} {Q:X02->St->Mu->Prop} {cf cf':Cf} {K K':List Kn} {L L':List (Nat×AV)} {G G':List (Nat×Obj)} {n n':Nat} {hs':List X6v} {ps':List Prop} [hT:TmD P T] (hs:List X6v)
  (k:X2 P nt n0 Q cf' K' ⟨fr L',hp G',n'⟩ μ) (h:Xd9 P T nt 4000 cf K L G n hs []=some (cf',K',L',G',n',hs',ps'):=by exact rfl) (o:X68 ps':=by exact X0k):X2 P nt n0 Q cf K ⟨fr L,hp G,n⟩ μ:=Xw2 hT.ok 4000 hs h o k
theorem rnI {A:Prop} {P:Program} {T:Ty} {nt n0:Nat} {μ:Mu} {Q:X02->St->Mu->Prop} {cf cf':Cf} {K K':List Kn} {L L':List (Nat×AV)} {G G':List (Nat×Obj)} {n n':Nat} {hs':List X6v} {ps':List Prop} [hT:TmD P T] (hs:List X6v)
  (k:A->X2 P nt n0 Q cf' K' ⟨fr L',hp G',n'⟩ μ) (h:Xd9 P T nt 4000 cf K L G n hs []=some (cf',K',L',G',n',hs',ps'):=by exact rfl) (o:X68 ps':=by exact X0k):A->X2 P nt n0 Q cf K ⟨fr L,hp G,n⟩ μ:=fun a=>Xw2 hT.ok 4000 hs h o (k a)
theorem X9 {P:Program} {T:Ty} {nt n0:Nat} {μ:Mu} {Q:X02->St->Mu->Prop} {cf cf':Cf} {K K':List Kn} {L L':List (Nat×AV)} {G G':List (Nat×Obj)} {n n':Nat} {hs':List X6v} {ps':List Prop} [hT:TmD P T] (hs:List X6v)
  (h:Xd9 P T nt 4000 cf K L G n hs []=some (cf',K',L',G',n',hs',ps'):=by exact rfl) (o:X68 ps':=by exact X0k) (k:X2 P nt n0 Q cf' K' ⟨fr L',hp G',n'⟩ μ):X2 P nt n0 Q cf K ⟨fr L,hp G,n⟩ μ:=Xw2 hT.ok 4000 hs h o k
theorem fi {P:Program} {T:Ty} {nt n0:Nat} {fn:Func} {r:AV} {L:List (Nat×AV)} {G:List (Nat×Obj)} {n:Nat} {μ:Mu} {rs:List AV} (hr:resS T L G fn.results.toList=some rs:=by exact rfl) (hc:Cv true (hp G) (Xje rs) r:=by exact cvM):X2 P nt n0 (X05e T fn r) (.exit .ret) [] ⟨fr L,hp G,n⟩ μ:=X02p hr hc
end Go.Av


namespace Go.Av
inductive Tab (V:Type) where
 |leaf
 |node (k:Nat) (v:V) (l r:Tab V)
noncomputable def Tab.find {V:Type} (t:Tab V):Nat->Option V :=
 Tab.rec (motive:=fun _=>Nat->Option V) (fun _=>none) (fun k v _ _ ihl ihr n=>bif Nat.beq n k then some v else bif Nat.blt n k then ihl n else ihr n) t
theorem Tab.find_node {V:Type} (k:Nat) (v:V) (l r:Tab V) (t:Nat):(Tab.node k v l r).find t=bif Nat.beq t k then some v else bif Nat.blt t k then l.find t else r.find t:=rfl
def Tab.All {V:Type} (p:Nat->V->Prop):Tab V->Prop
 |.leaf=>True
 |.node k v l r=>p k v/\l.All p/\r.All p
theorem Tab.find_all {V:Type} {p:Nat->V->Prop}:∀ (t:Tab V),t.All p->∀ k v,t.find k=some v->p k v:=by
 intro t
 induction t with
 |leaf=>intro _ k v h;cases h
 |node k' v' l r ihl ihr =>
  intro h k v hf
  obtain⟨h1,h2,h3⟩:=h
  rw[Tab.find_node] at hf
  cases hb:Nat.beq k k' with
  |true =>
   rw[hb,cond_true] at hf
   cases hf
   have:k=k':=Nat.eq_of_beq_eq_true hb
   subst this;exact h1
  |false =>
   rw[hb,cond_false] at hf
   cases hlt:Nat.blt k k' with
   |true=>rw[hlt,cond_true] at hf;exact ihl h2 k v hf
   |false=>rw[hlt,cond_false] at hf;exact ihr h3 k v hf
theorem X04v {P:Program} {t:Tab TI} (h:t.All (X2n P)):Xf1 P t.find:=fun k v hf=>t.find_all h k v hf
theorem X5t {P:Program} {t:Nat} {i:TypeInfo} {d:TypeDesc} {z:Value} (hi:P.info? t=some i) (hd:P.underlying t=some d) (hz:i.zero=some z)
  (hw:((X49 z).whole&&Nat.beq (X49 z).cells.length i.size)=true):X2n P t ⟨X01 d,i.size,i.bytes,z,false⟩:=by
 simp only[Bool.and_eq_true] at hw
 exact⟨⟨i,d,hi,hd,hz,rfl,rfl,rfl⟩,⟨hw.1,Nat.eq_of_beq_eq_true hw.2⟩,fun h=>by cases h⟩
theorem Xha {P:Program} {t:Nat} {i:TypeInfo} {d:TypeDesc} {z:Value} (hi:P.info? t=some i) (hd:P.underlying t=some d) (hz:i.zero=some z)
  (hw:((X49 z).whole&&Nat.beq (X49 z).cells.length i.size)=true) (h1:P.stoodInHeld t=false) (h2:P.eqGuardType P.depth t=false)
  (h3 : (match d with | .struct fs => fs.toList.all (fun f => !(f.name == "_")) | _ => true) = true) : X2n P t ⟨X01 d, i.size, i.bytes, z, true⟩ := by
 simp only[Bool.and_eq_true] at hw
 refine⟨⟨i,d,hi,hd,hz,rfl,rfl,rfl⟩,⟨hw.1,Nat.eq_of_beq_eq_true hw.2⟩,fun _=>⟨h1,h2,fun fs hfs f hf=>?_⟩⟩
 rw[hd] at hfs
 cases hfs
 have:=List.all_eq_true.1 h3 f (by simpa using hf)
 simpa using this
def Xh (fn:Func):Code:=fn.body.getD .skip
end Go.Av
