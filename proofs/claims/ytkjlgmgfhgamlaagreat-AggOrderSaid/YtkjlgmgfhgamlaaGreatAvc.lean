/- Parts of the proof, laid together. -/
import Derived.Test.YtkjlgmgfhgamlaaGreatAvb
import Derived.RangeFuncIn
set_option linter.all false

namespace Go.Av
structure Xvh (c:Ctx) (H:X0j) (b:Nat):Prop where
 sa:¬ c.Sa b
 so:¬ c.So b
 ob:∀ o x,H o=some x->(c.ρ o).blk≠b
theorem Xvh.kept {c c':Ctx} {H H':X0j} {n b:Nat} (h:Xvh c H b) (hb:b<c.w.heap.size) (r:Reach c H n c' H'):Xvh c' H' b:=by
 refine⟨by rw[r.sa];exact h.sa,λhs=>?_,λo x hx he=>?_⟩
 ·rcases r.so2 _ hs with h1|h1|⟨o,x,h1,h2⟩
  ·exact h.so h1
  ·omega
  ·exact h.ob o x h1 h2
 ·rcases r.own o x hx with h1|⟨o',x',h1,h2⟩
  ·omega
  ·exact h.ob o' x' h1 (h2.trans he)
theorem Reach.weaken {c c':Ctx} {H H':X0j} {n n':Nat} (r:Reach c H n c' H') (h:n'<=n):Reach c H n' c' H' :=
 ⟨λo ho=>r.rho o (Nat.lt_of_lt_of_le ho h),r.os,r.tape,r.output,r.size,r.block,r.stable,r.sa,r.so1,r.so2,r.B,r.own⟩
theorem X4c.turn0 {nt n0:Nat} {c0 c:Ctx} {H0:X0j} {s:St} {act:Act} {b:Nat} (o:Go.Obj) (g:X4c nt c0 H0 n0 c s act) (h:Xvh c s.H b) :
  X4c nt { c with w:=c.w.putObj b o } s.H n0 { c with w:=c.w.putObj b o } s act/\c.Le (λ_=>True) { c with w:=c.w.putObj b o }:=by
 have hother:∀ k,k≠b->(c.w.putObj b o).heap[k]?=c.w.heap[k]?:=λk hk=>World.putObj_heap_other hk;have hle:c.Le (λ_=>True) { c with w:=c.w.putObj b o } :=
  ⟨λ_ _=>rfl,λ_ h=>h,λ_ h=>h,λk hk=>hother k (λe=>by subst e;exact hk.elim h.sa h.so),rfl⟩
 have all:∀ {a:AV} {M:Nat->Prop},a.Ok M->a.Ok (λ_=>True):=λh=>h.mono λ_ _=>trivial;refine⟨⟨⟨λq x hx=>?_,g.inv.sep,g.inv.stab,λk hk=>?_,?_,g.inv.own,g.inv.low⟩,g.solo,λt=>(g.frame t).mono hle (.inr (all (g.ok t))),g.ok,g.size,.refl _ _ _,g.le0⟩,hle⟩
 ·obtain⟨i1,⟨⟨cur,hb,hs,hc⟩,i3,i4,i5⟩,i6⟩:=g.inv.obj q x hx;refine⟨i1,⟨⟨cur,(hother _ (h.ob q x hx)).trans hb,hs,λi e he=>?_⟩,i3,i4,i5⟩,i6⟩;obtain⟨g1,g2⟩:=hc i e he;exact⟨g1,λk a ha=>by obtain⟨v,hv,hr,h7⟩:=g2 k a ha;exact⟨v,hv,hr.mono hle (.inr (all (i6 e (List.mem_of_getElem? he) a (List.mem_of_getElem? ha)))),h7⟩⟩
 ·show k<(c.w.putObj b o).heap.size;rw[World.putObj_size];exact g.inv.lt k hk
 ·show c.B<=(c.w.putObj b o).heap.size;rw[World.putObj_size];exact g.inv.base
theorem Reach.turnBack {c c1 c2:Ctx} {H H1 H2:X0j} {n b:Nat} {o0 o1:Go.Obj} (r1:Reach c H n c1 H1) (r2:Reach { c1 with w:=c1.w.putObj b o1 } H1 n c2 H2) (hb:c.w.heap[b]?=some o0) (h:Xvh c H b) :
  Reach c H n { c2 with w:=c2.w.putObj b o0 } H2:=by
 have hlt:b<c.w.heap.size:=(Array.getElem?_eq_some_iff.1 hb).1;have hs2:c.w.heap.size<=c2.w.heap.size:=by
  have h1:=r1.size;have h2:(c1.w.putObj b o1).heap.size<=c2.w.heap.size:=r2.size;rw[World.putObj_size] at h2;omega
 refine⟨λo ho=>(r2.rho o ho).trans (r1.rho o ho),r2.os.trans r1.os,r2.tape.trans r1.tape,⟨r2.output.1.trans r1.output.1,Nat.le_trans r1.output.2 r2.output.2⟩,?_,λk hk hn=>?_,λk hk=>?_,r2.sa.trans r1.sa,λk hk=>r2.so1 k (r1.so1 k hk),λk hk=>?_,r2.B.trans r1.B,λo x hx=>?_⟩
 ·show c.w.heap.size<=(c2.w.putObj b o0).heap.size;rw[World.putObj_size];exact hs2
 ·show(c2.w.putObj b o0).heap[k]?=_;by_cases e:k=b
  ·subst e;rw[World.putObj_heap_same om];exact hb.symm
  ·rw[World.putObj_heap_other e];have h2:c2.w.heap[k]?=(c1.w.putObj b o1).heap[k]?:=r2.block k (by show k<(c1.w.putObj b o1).heap.size;rw[World.putObj_size];exact Nat.lt_of_lt_of_le hk r1.size) λo x hx he=>by
    rcases r1.own o x hx with h1|⟨o',x',h1,h2⟩
    ·have he':(c1.ρ o).blk=k:=he;omega
    ·exact hn o' x' h1 (h2.trans he)
   rw[h2,World.putObj_heap_other e];exact r1.block k hk hn
 ·show(c2.w.putObj b o0).heap[k]?=_;have e:k≠b:=λe=>by subst e;exact hk.elim h.sa h.so
  rw[World.putObj_heap_other e];have h2:c2.w.heap[k]?=(c1.w.putObj b o1).heap[k]?:=r2.stable k (hk.imp (λx=>by show c1.Sa k;rw[r1.sa];exact x) (r1.so1 k));rw[h2,World.putObj_heap_other e];exact r1.stable k hk
 ·rcases r2.so2 k hk with h1|h1|⟨q,y,h1,h2⟩
  ·exact r1.so2 k h1
  ·right;left
   have h3:(c1.w.putObj b o1).heap.size<=k:=h1;rw[World.putObj_size] at h3;exact Nat.le_trans r1.size h3
  ·have h2':(c1.ρ q).blk=k:=h2;rcases r1.own q y h1 with h3|⟨q',y',h3,h4⟩
   ·exact .inr (.inl om)
   ·exact .inr (.inr ⟨q',y',h3,h4.trans h2'⟩)
 ·rcases r2.own o x hx with h1|⟨q,y,h1,h2⟩
  ·left;have h3:(c1.w.putObj b o1).heap.size<=(c2.ρ o).blk:=h1;rw[World.putObj_size] at h3;exact Nat.le_trans r1.size h3
  ·rcases r1.own q y h1 with h3|⟨q',y',h3,h4⟩
   ·left;have:(c1.ρ q).blk=(c2.ρ o).blk:=h2;show c.w.heap.size<=(c2.ρ o).blk;omega
   ·exact .inr ⟨q',y',h3,h4.trans h2⟩
def zipL:List Nat->List AV->List (Nat×AV)->List (Nat×AV)
 |p::ps,a::as,L=>zipL ps as ((p,a)::L)
 |_,_,L=>L
theorem Xvi {c:Ctx} {n:Nat}:∀ (ps:List Nat) (as:List AV) (vs:List Value) (L:List (Nat×AV)) (tmps:Array Value),as.length=vs.length->(∀ (i:Nat) a v,as[i]?=some a->vs[i]?=some v->X0z c false a v/\a.Ok (·<n)) ->
  (∀ p∈ps,p<tmps.size)->(∀ t,X0z c false (fr L t) (tmps.getD t undef)/\(fr L t).Ok (·<n)) ->
  (∀ t,X0z c false (fr (zipL ps as L) t) (((ps.zip vs).foldl (λt (p,v)=>t.setIfInBounds p v) tmps).getD t undef)/\(fr (zipL ps as L) t).Ok (·<n))/\((ps.zip vs).foldl (λt (p,v)=>t.setIfInBounds p v) tmps).size=tmps.size:=by
 intro ps
 induction ps with
 |nil=>intro as vs L tmps _ _ _ h;cases as<;>exact⟨h,rfl⟩
 |cons p ps ih =>
  intro as vs L tmps hl ha hp h
  cases as with
  |nil =>
   have:vs=[]:=List.eq_nil_of_length_eq_zero (by rw[<-hl];rfl);subst this;exact⟨h,rfl⟩
  |cons a as =>
   cases vs with
   |nil=>simp at hl
   |cons v vs =>
    have h0:=ha 0 a v rfl rfl;obtain⟨k1,k2⟩:=ih as vs ((p,a)::L) (tmps.setIfInBounds p v) (by simpa using hl) (λi a v h1 h2=>ha (i+1) a v (by simpa using h1) (by simpa using h2)) (λq hq=>by simpa using hp q (List.mem_cons_of_mem _ hq)) (λt=>by
     rw[Xl9 (hp p List.mem_cons_self)];by_cases ht:t=p
     ·subst ht;rw[if_pos rfl];have:fr ((t,a)::L) t=a:=by simp[fr]
      rw[this];exact h0
     ·rw[if_neg ht];have:fr ((p,a)::L) t=fr L t:=by
       have hb:Nat.beq t p=false:=by rw[<-Bool.not_eq_true,Nat.beq_eq];exact ht
       simp[fr,hb]
      rw[this];exact h t)
    exact⟨k1,by simpa using k2⟩
def asgQ (P:Program) (nt n:Nat) (body:Code) (RQ:Xx->St->Mu->Prop):Xx->St->Mu->Prop:=λe s μ=>e=.normal/\μ=[]/\X4h P nt n body RQ s []
theorem X2.asg {P:Program} {nt n:Nat} {body:Code} {RQ:Xx->St->Mu->Prop} {s:St} (h:X2 P nt n RQ (.code body) [] s []):X2 P nt n (asgQ P nt n body RQ) (.exit .normal) [] s [] :=
 Cl.mk ⟨rfl,rfl,X4h.ofCl h⟩
theorem Xqp {μ:Mu} {b:Nat} {r:Loop} {nt m:Nat} {A:Nat->AV} (h:(b,.loop r nt m A)∈μ):Xd8 μ=false:=by
 induction μ with
 |nil=>cases h
 |cons p μ ih =>
  obtain⟨q,x⟩:=p;rcases List.mem_cons.1 h with h|h2
  ·cases h;rfl
  ·cases x with
   |loop=>rfl
   |mark=>exact ih h2
   |map=>exact ih h2
   |blk=>exact ih h2
def rndQ (P:Program) (nt n0:Nat) (Q:Xx->St->Mu->Prop) (ops:Array Oper) (l:List Oper) (K:List Kn) (L:List (Nat×AV)) (d:Option Nat) (μ:Mu):Xx->St->Mu->Prop :=
 λe s _=>e=.normal/\X2 P nt n0 Q (.ops ops l) K ⟨Xcl (fr L) d (.sc (.bool true)),s.H,s.n⟩ μ
theorem X2.rndEnd {P:Program} {nt n0 nt' n1:Nat} {Q:Xx->St->Mu->Prop} {ops:Array Oper} {l:List Oper} {K:List Kn} {L L1:List (Nat×AV)} {d:Option Nat} {μ μ1:Mu} {G:List (Nat×Obj)} {n:Nat}
  (h:X2 P nt n0 Q (.ops ops l) K ⟨fr (Xw7 d (.sc (.bool true)) L),hp G,n⟩ μ):X2 P nt' n1 (rndQ P nt n0 Q ops l K L d μ) (.exit .normal) [] ⟨fr L1,hp G,n⟩ μ1 :=
 Cl.mk ⟨rfl,by show X2 P nt n0 Q (.ops ops l) K ⟨Xcl (fr L) d (.sc (.bool true)),hp G,n⟩ μ;rw[<-X61];exact h⟩
theorem X2.yield {P:Program} {nt n0 n b ntc m:Nat} {Q:Xx->St->Mu->Prop} {ops:Array Oper} {l:List Oper} {o:Oper} {K:List Kn} {L Lc:List (Nat×AV)} {G:List (Nat×Obj)} {μ:Mu} {x:Operand} {args:Array Operand} {ts:Array Nat} {r:Loop}
  {as:List AV} {qx qa:List Prop} {ps:Array Nat} {assign body:Code} (ho:o.op=.call { callee:=.value x,args:=args,argTypes:=ts }) (hg:o.guard=none) (hd:Xii nt o.dst=true)
  (hx:rd L x=(.sc (.func (.yield b) #[] #[]),qx)) (ha:rds L args.toList=(as,qa)) (hqx:X3z qx) (hqa:X3z qa)
  (hμ:(b,.loop r ntc m (fr Lc))∈μ) (h1:r.state=.ready) (h2:r.pending=none) (h3:r.params=ps) (h4:r.assign=assign) (h5:r.body=body)
  (hps:(Nat.beq as.length ps.size&&ps.toList.all λp=>Nat.blt p ntc)=true) (ht:(X77 assign||X77 body)=false)
  (h:X2 P ntc n (asgQ P ntc n body (rndQ P nt n0 Q ops l K L o.dst μ)) (.code assign) [] ⟨fr (zipL ps.toList as Lc),hp G,n⟩ []):X2 P nt n0 Q (.ops ops (o::l)) K ⟨fr L,hp G,n⟩ μ:=by
 subst h3 h4 h5;simp only[Bool.and_eq_true,Nat.beq_eq,List.all_eq_true,Nat.blt_eq] at hps;obtain⟨hp1,hp2⟩:=hps;simp only[Bool.or_eq_false_iff] at ht;intro c0 H0 c act g hm Qx hQ R hR
 cases R with
 |none=>rw[Xqp hμ] at hR;exact absurd (hR rfl) (by simp)
 |some R =>
 refine X4r λK' hK'=>?_;rw[if_pos (by simp[Region.wanted,hg])];obtain⟨⟨hrec,hsz⟩,hmn,hAok,hA⟩:=hm.is _ hμ;obtain⟨w1,w2,w3,w4⟩:=hm.away _ hμ;have haw:Xvh c (hp G) b:=⟨w1,w2,w3⟩;have hlt:b<c.w.heap.size:=(Array.getElem?_eq_some_iff.1 hrec).1;have ex:act.eval x=.func (.yield b) #[] #[]:=by have:=g.ev x;rw[show evA (St.A ⟨fr L,hp G,n⟩) x=_ from X0s hx hqx] at this;exact this.sc_inv
 have hargs:args.toList.map (evA (fr L))=as:=Xfw ha hqa;have hlen:as.length=args.size:=by rw[<-hargs];simp
 have hy:=run_yield (P:=P) (args:=args.map act.eval) hrec (by rw[Array.size_map,<-hlen];exact hp1);have hrun:(execOp act.eval o).run P c.w=.ok (.round b r.fn ((r.params.zip (args.map act.eval)).foldl (λtmps (t,a)=>tmps.setIfInBounds t a) r.tmps) r.assign r.body) c.w:=by
  simp only[execOp,ho,resolve,ex,Deferred.ofValue,Sem.run_bind,Sem.run_pure,Result.andThen_ok,invoke,Array.empty_append,Array.append_empty];exact hy
 show Oper.wpIn (FR R) 0 P o act c.w K' Qx;refine⟨λ_ _=>trivial,?_⟩;rw[Oper.semAt_eq _ _ _ (λd hd=>by rw[hd] at ho;cases ho),hrun,Oper.uponIn_round];refine⟨λh=>Bool.noConfusion h,roundIn_of_wpIn trivial ?_⟩;have hz:(r.params.zip (args.map act.eval)).foldl (λtmps (t,a)=>tmps.setIfInBounds t a) r.tmps=(r.params.toList.zip (args.toList.map act.eval)).foldl (λt (p,v)=>t.setIfInBounds p v) r.tmps:=by
  rw[<-Array.foldl_toList];simp
 have hzip:=Xvi (c:=c) (n:=n) r.params.toList as (args.toList.map act.eval) Lc r.tmps (by rw[<-hargs];simp) (λi a v h1 h2=>by
   rw[<-hargs,List.getElem?_map] at h1;rw[List.getElem?_map] at h2
   cases hq:args.toList[i]? with
   |none=>simp[hq] at h1
   |some q =>
    simp only[hq,Option.map_some,Option.some.injEq] at h1 h2;subst h1 h2;exact⟨g.ev q,g.evOk q⟩) (λp hp=>by rw[hsz];exact hp2 p hp) (λt=>⟨hA t,(hAok t).mono λq hq=>Nat.lt_of_lt_of_le hq (Nat.le_trans hmn g.le0)⟩)
 rw[<-hz] at hzip;have gB:X4c ntc c (hp G) n c ⟨fr (zipL r.params.toList as Lc),hp G,n⟩ { tmps:=(r.params.zip (args.map act.eval)).foldl (λtmps (t,a)=>tmps.setIfInBounds t a) r.tmps,defers:=[] } :=
  ⟨g.inv,g.solo,λt=>(hzip.1 t).1,λt=>(hzip.1 t).2,hzip.2.trans hsz,.refl _ _ _,Nat.le_refl _⟩
 refine wpIn_mono (X4h.ofCl h c (hp G) c _ gB (.nil rfl) (some b) (λh=>by rw[ht.1] at h;cases h)) ?_;rintro e a1 w' ⟨c1,s1,ae,μ1,rfl,g1,hm1,rfl,rfl,rfl,hbody⟩;have hrec1:c1.w.heap[b]?=some (.loop r):=(g1.reach.block b hlt haw.ob).trans hrec;refine⟨_,run_beginRound hrec1 h1,?_⟩;have aw1:Xvh c1 s1.H b:=haw.kept hlt g1.reach;obtain⟨g1',_⟩:=g1.turn0 (.loop { r with state:=.busy }) aw1;refine wpIn_mono (hbody _ s1.H _ a1 g1' (.nil hm1.ds) (some b) (λh=>by rw[ht.2] at h;cases h)) ?_;rintro e a2 w' ⟨c2,s2,ae,μ2,rfl,g2,hm2,rfl,rfl,hk⟩;have hlt1:b<c1.w.heap.size:=(Array.getElem?_eq_some_iff.1 hrec1).1;have hrec2:c2.w.heap[b]?=some (.loop { r with state:=.busy }) :=
  (g2.reach.block b (by show b<(c1.w.putObj b _).heap.size;rw[World.putObj_size];exact hlt1) aw1.ob).trans (World.putObj_heap_same hlt1)
 have hr:({ r with state:=.ready,pending:=none }:Loop)=r:=by
  obtain⟨st,pe,fn,tm,pa,asg,bd,de⟩:=r;simp only at h1 h2;subst h1 h2;rfl
 have hend:=run_endRound (P:=P) none hrec2;simp only[Option.isNone_none,if_true] at hend;rw[hr] at hend;refine⟨_,_,hend,?_⟩;have aw2:Xvh c2 s2.H b:=(Xvh.mk aw1.sa aw1.so aw1.ob:Xvh { c1 with w:=c1.w.putObj b (.loop { r with state:=.busy }) } s1.H b).kept (by show b<(c1.w.putObj b _).heap.size;rw[World.putObj_size];exact hlt1) g2.reach;obtain⟨g3,_⟩:=g2.turn0 (.loop r) aw2;have rt:Reach c (hp G) n { c2 with w:=c2.w.putObj b (.loop r) } s2.H:=Reach.turnBack g1.reach g2.reach hrec haw;have gf:=g.next (X8e hd) rt.le rt.sa rt.so2 rt.fr rt.own g3.inv g3.solo g3.le0 (a:=.sc (.bool true)) (v:=.bool true) .sc .sc;exact hK' _ _ (hk c0 H0 _ _ gf (hm.kept (rt.weaken g.le0)) Qx hQ (some R) (λh=>by cases h))
def Xj6:Code->List (Array Nat×Code×Code)
 |.loop b=>Xj6 b
 |.seq a b=>Xj6 a++Xj6 b
 |.block _ c=>Xj6 c
 |.scope c=>Xj6 c
 |.cond _ a b=>Xj6 a++Xj6 b
 |.rangeFunc _ ps a b=>(ps,a,b)::(Xj6 a++Xj6 b)
 |_=>[]
def rfB (i:Nat) (c:Code):Array Nat×Code×Code:=((Xj6 c)[i]?).getD (#[],.skip,.skip)
def Xja (slots:List Nat) (L:List (Nat×AV)):List (Nat×AV):=slots.map λt=>(t,fr L t)
theorem Xpq (L:List (Nat×AV)):∀ (slots:List Nat) (t:Nat),fr (Xja slots L) t=fr L t\/fr (Xja slots L) t=.junk:=by
 intro slots
 induction slots with
 |nil=>intro t;exact .inr rfl
 |cons q r ih =>
  intro t;show fr ((q,fr L q)::Xja r L) t=_\/fr ((q,fr L q)::Xja r L) t=_;simp only[fr]
  cases hb:Nat.beq t q with
  |true=>rw[Nat.eq_of_beq_eq_true hb];exact .inl rfl
  |false=>exact ih t
theorem X2.keepL {P:Program} {nt n0 n:Nat} {Q:Xx->St->Mu->Prop} {cf:Cf} {K:List Kn} {L:List (Nat×AV)} {G:List (Nat×Obj)} {μ:Mu} (slots:List Nat) (h:X2 P nt n0 Q cf K ⟨fr (Xja slots L),hp G,n⟩ μ):X2 P nt n0 Q cf K ⟨fr L,hp G,n⟩ μ:=by
 refine X2.sub (s':=⟨fr (Xja slots L),hp G,n⟩) (λc0 H0 c act μ g hm=>⟨⟨g.inv,g.solo,λt=>?_,λt=>?_,g.size,g.reach,g.le0⟩,hm⟩) h
 ·rcases Xpq L slots t with h|h
  ·show X0z c false (fr (Xja slots L) t) _;rw[h];exact g.frame t
  ·show X0z c false (fr (Xja slots L) t) _;rw[h];exact .junk
 ·rcases Xpq L slots t with h|h
  ·show(fr (Xja slots L) t).Ok _;rw[h];exact g.ok t
  ·show(fr (Xja slots L) t).Ok _;rw[h];exact .junk
def rfQ (P:Program) (nt n0:Nat) (Q:Xx->St->Mu->Prop) (K:List Kn) (L:List (Nat×AV)) (μ:Mu) (D:Nat) (μi:Mu):Xx->St->Mu->Prop :=
 λe s μ'=>(∀ id,e≠.exit id)/\μ'=μi/\X2 P nt n0 Q (.exit .normal) K ⟨fr L,s.H,s.n⟩ ((D,.mark)::μ)
theorem X2.rfEnd {P:Program} {nt n0 nt' n1:Nat} {Q:Xx->St->Mu->Prop} {K:List Kn} {L L1:List (Nat×AV)} {μ μi:Mu} {D:Nat} {G:List (Nat×Obj)} {n:Nat} {e:Xx} (he:∀ id,e≠.exit id)
  (h:X2 P nt n0 Q (.exit .normal) K ⟨fr L,hp G,n⟩ ((D,.mark)::μ)):X2 P nt' n1 (rfQ P nt n0 Q K L μ D μi) (.exit e) [] ⟨fr L1,hp G,n⟩ μi :=
 Cl.mk ⟨he,rfl,h⟩
theorem X4c.alloc {nt n0:Nat} {c0 c:Ctx} {H0:X0j} {s:St} {act:Act} (o:Go.Obj) (g:X4c nt c0 H0 n0 c s act):X4c nt c0 H0 n0 { c with w:=c.w.alloc o } s act:=by
 obtain⟨h1,h2,h3⟩:=g.inv.waste (w':=c.w.alloc o) o rfl rfl rfl ⟨rfl,Nat.le_refl _⟩;have:=g.next (c':={ c with w:=c.w.alloc o }) (dst:=none) (a:=.sc undef) (v:=undef) (λd h=>by cases h) h1 rfl (λb hb=>.inl hb) h3 (λq x hx=>.inr ⟨q,x,hx,rfl⟩) h2 g.solo (Nat.le_refl _) .sc .sc;exact this
theorem X2.rangeFunc {P:Program} {nt n0 n gf nti:Nat} {Q:Xx->St->Mu->Prop} {K:List Kn} {L:List (Nat×AV)} {G:List (Nat×Obj)} {μ:Mu} {g:Operand} {ps:Array Nat} {assign body codeI:Code} {fnI:Func} {caps:List AV} {q:List Prop}
  (hg:rd L g=(.fn gf caps,q)) (hq:X3z q) (hfn:X1w P gf fnI codeI) (hnt:fnI.ntmps=nti) (hle:Nat.ble (caps.length+1) nti=true) (hres:fnI.results=#[])
  (h:∀ (b D:Nat) (r:Loop),r.state=.ready->r.pending=none->r.params=ps->r.assign=assign->r.body=body ->
   X2 P nti n (rfQ P nt n0 Q K L μ D [(b,.loop r nt n (fr L)),(D,.blk (.deferred (some [])))]) (.code codeI) [] ⟨fr (argL 0 (.sc (.func (.yield b) #[] #[])::caps)),hp G,n⟩ [(b,.loop r nt n (fr L)),(D,.blk (.deferred (some [])))]) :
  X2 P nt n0 Q (.code (.rangeFunc g ps assign body)) K ⟨fr L,hp G,n⟩ μ:=by
 intro c0 H0 c act gd hm R hR;obtain rfl:=hR rfl;have hv:=gd.ev g;rw[show evA (St.A ⟨fr L,hp G,n⟩) g=_ from X0s hg hq] at hv;have hvo:=gd.evOk g;rw[show evA (St.A ⟨fr L,hp G,n⟩) g=_ from X0s hg hq] at hvo;obtain⟨cv,hcv,hcl,hcr⟩:=hv.fn_inv;refine wpIn_rangeFunc ?_;intro fn _;let D:=c.w.heap.size
 let b:=c.w.heap.size+1
 let Xma:Loop:={ state:=.ready,pending:=none,fn,tmps:=act.tmps,params:=ps,assign,body,defers:=c.w.heap.size }
 let W1:World:=(c.w.alloc (.deferred (some []))).alloc (.loop Xma)
 let c1:Ctx:={ c with w:=W1 }
 have hL1:W1.heap[b]?=some (.loop Xma):=by
  have:=World.alloc_heap_new (c.w.alloc (.deferred (some []))) (.loop Xma);rwa [World.size_alloc] at this
 have hK1:W1.heap[D]?=some (.deferred (some [])):=(RowKit.Below.heap_alloc _ _ _ (by simp[D])).trans (World.alloc_heap_new c.w _);have hs1:W1.heap.size=c.w.heap.size+2:=by simp[W1]
 have g1:X4c nt c (hp G) n0 c1 ⟨fr L,hp G,n⟩ act:=(gd.rebase.alloc (.deferred (some []))).alloc (.loop Xma);have hold:∀ k,k<c.w.heap.size->W1.heap[k]?=c.w.heap[k]?:=λk hk=>(RowKit.Below.heap_alloc _ _ _ (by simp;omega)).trans (RowKit.Below.heap_alloc _ _ _ hk);have r1:Reach c (hp G) n c1 (hp G):=⟨λ_ _=>rfl,rfl,rfl,⟨rfl,Nat.le_refl _⟩,by show c.w.heap.size<=W1.heap.size;omega,λk hk _=>hold k hk,λk hk=>hold k (gd.inv.lt k hk),rfl,λ_ h=>h,λ_ h=>.inl h,rfl,λo x hx=>.inr ⟨o,x,hx,rfl⟩⟩;have hob:∀ o x,hp G o=some x->(c.ρ o).blk<c.w.heap.size:=λo x hx=>by
  obtain⟨_,⟨⟨cur,hcb,_⟩,_⟩,_⟩:=gd.inv.obj o x hx;exact(Array.getElem?_eq_some_iff.1 hcb).1
 let vs:Array Value:=#[.func (.yield b) #[] #[]]++cv
 have hvs:vs.size=caps.length+1:=by simp[vs,<-hcl];omega
 have gI:X4c nti c (hp G) n c1 ⟨fr (argL 0 (.sc (.func (.yield b) #[] #[])::caps)),hp G,n⟩ { tmps:=vs++Array.replicate (fnI.ntmps - vs.size) undef,defers:=[] }:=by
  have hrel:Xir c1 false (.sc (.func (.yield b) #[] #[])::caps) vs:=by
   refine⟨by rw[hvs];simp,λi a v ha hv=>?_⟩
   cases i with
   |zero =>
    have hv':vs[0]?=some (.func (.yield b) #[] #[]):=by simp only[vs];rw[Array.getElem?_append_left (by simp)];rfl
    rw[hv'] at hv;simp only[List.getElem?_cons_zero,Option.some.injEq] at ha hv;subst ha hv;exact .sc
   |succ i =>
    have hv':cv[i]?=some v:=by
     simp only[vs] at hv;rw[Array.getElem?_append_right (by simp)] at hv;simpa using hv
    simp only[List.getElem?_cons_succ] at ha;refine(hcr i a v ha hv').mono r1.le (.inr ?_)
    cases hvo with|fn hvo=>exact hvo a (List.mem_of_getElem? ha)
  have hok:∀ a∈(.sc (.func (.yield b) #[] #[])::caps:List AV),a.Ok (·<n):=by
   intro a ha;rcases List.mem_cons.1 ha with rfl|ha
   ·exact .sc
   ·cases hvo with|fn hvo=>exact hvo a ha
  have:X4c nti c (hp G) n c1 ⟨Xvg (.sc (.func (.yield b) #[] #[])::caps),hp G,n⟩ { tmps:=vs++Array.replicate (fnI.ntmps - vs.size) undef,defers:=[] } :=
   ⟨g1.inv,g1.solo,λt=>Xfg hrel _ t,λt=>Xp9 hok t,by have:=Nat.le_of_ble_eq_true hle;simp only[Array.size_append,Array.size_replicate];omega,r1,Nat.le_refl _⟩
  exact this.argL
 have mI:MOk n c c1 (hp G) [(b,.loop Xma nt n (fr L)),(D,.blk (.deferred (some [])))] { tmps:=vs++Array.replicate (fnI.ntmps - vs.size) undef,defers:=[] }:=by
  refine⟨λp hp=>?_,λp hp=>?_,by simp[b,D],rfl⟩
  ·simp only[List.mem_cons,List.not_mem_nil,or_false] at hp;rcases hp with rfl|rfl
   ·exact⟨⟨hL1,gd.size⟩,Nat.le_refl _,λt=>gd.ok t,λt=>g1.frame t⟩
   ·exact hK1
  ·simp only[List.mem_cons,List.not_mem_nil,or_false] at hp;have key:∀ k,c.w.heap.size<=k->¬ c1.Sa k/\¬ c1.So k/\(∀ o x,Av.hp G o=some x->(c1.ρ o).blk≠k)/\c.w.heap.size<=k:=λk hk =>
    ⟨λhs=>by have:=gd.inv.lt k (.inl hs);omega,λhs=>by have:=gd.inv.lt k (.inr hs);omega,λo x hx e=>by have h1:=hob o x hx;have h2:(c.ρ o).blk=k:=e;omega,hk⟩
   rcases hp with rfl|rfl
   ·exact key b (by simp[b])
   ·exact key D (Nat.le_refl _)
 refine⟨b,[{ target:=.collected D,args:=#[] }],W1,{ target:=.fn (.func gf) cv,args:=#[.func (.yield b) #[] #[]] },W1,gf,vs,W1,run_enterLoop_outer _ _ _ _ _,?_,λ_ _=>trivial,?_,λh=>Bool.noConfusion h,?_⟩
 ·simp only[resolve,hcv];simp[go_sem]
 ·simp only[invoke,callFunc,Sem.run_bind,run_program,Result.andThen_ok,hfn.here,hfn.name,hfn.body,Option.isNone_some,Bool.false_eq_true,if_false];rfl
 refine callsIn_of_wp hfn.here hfn.body trivial ?_ rfl;refine wpIn_mono (X4h.ofCl (h b D Xma rfl rfl rfl rfl rfl) c (hp G) c1 _ gI mI none .none) ?_;rintro e a w' ⟨c2,s2,ae,μ2,rfl,g2,hm2,rfl,hne,rfl,hk⟩;have hds:a.defers=[]:=hm2.ds;have fin:a.defers=[]/\∃ v,(results fnI a.tmps).run P c2.w=.ok v c2.w/\rangePost (FR none) 0 P b (MQ nt c0 H0 n0 (Xdl P nt n0 Q K)) { act with defers:=[{ target:=.collected D,args:=#[] }]++act.defers } (.returned v) c2.w:=by
  obtain⟨⟨hrec,_⟩,_⟩:=hm2.is (b,.loop Xma nt n (fr L)) (by simp);have hDk:c2.w.heap[D]?=some (.deferred (some [])):=hm2.is (D,.blk (.deferred (some []))) (by simp);obtain⟨x1,x2,x3,x4⟩:=hm2.away (b,.loop Xma nt n (fr L)) (by simp);obtain⟨y1,y2,y3,y4⟩:=hm2.away (D,.blk (.deferred (some []))) (by simp);obtain⟨g3,hle3⟩:=g2.turn (.loop { Xma with state:=.exhausted }) x1 x2 x3 x4;refine⟨hds,.tuple #[],by simp[results,hres,go_sem],?_⟩;refine⟨none,_,run_endLoop hrec (by simp[Xma]),?_⟩;have rt:=g3.reach;have gc:=gd.next (dst:=none) (a:=.sc undef) (v:=undef) (λd h=>by cases h) rt.le rt.sa rt.so2 rt.fr rt.own g3.inv g3.solo g3.le0 .sc .sc;have gc2:X4c nt c0 H0 n0 { c2 with w:=c2.w.putObj b (.loop { Xma with state:=.exhausted }) } ⟨fr L,s2.H,s2.n⟩ { act with defers:=[{ target:=.collected D,args:=#[] }]++act.defers } :=
   ⟨gc.inv,gc.solo,gc.frame,gc.ok,gc.size,gc.reach,gc.le0⟩
  have hmk:=hm.kept (rt.weaken gd.le0) (act':=act) rfl;refine⟨_,⟨fr L,s2.H,s2.n⟩,.normal,(D,.mark)::μ,rfl,gc2,⟨λp hp=>?_,λp hp=>?_,?_,?_⟩,rfl,hk⟩
  ·rcases List.mem_cons.1 hp with rfl|hp
   ·exact(World.putObj_heap_other (by simp[b,D])).trans hDk
   ·exact hmk.is p hp
  ·rcases List.mem_cons.1 hp with rfl|hp
   ·exact⟨y1,y2,y3,Nat.le_trans gd.reach.size y4⟩
   ·exact hmk.away p hp
  ·refine List.nodup_cons.2 ⟨λhmem=>?_,hm.nodup⟩;obtain⟨p,hp,he⟩:=List.mem_map.1 hmem;have:=(hm.is p hp).lt;simp only[D] at he;omega
  ·show[_]++act.defers=_::Xzy μ;rw[hm.ds];rfl
 cases ae with
 |exit id=>exact(hne id rfl).elim
 |normal=>exact fin
 |ret=>exact fin
end Go.Av


namespace Go.Av
def StTo (nt n0:Nat) (s s':St):Prop:=∀ (c0:Ctx) (H0:X0j) (c:Ctx) (act:Act) (μ:Mu),X4c nt c0 H0 n0 c s act->MOk n0 c0 c s.H μ act->∃ c',c'.w=c.w/\X4c nt c0 H0 n0 c' s' act/\MOk n0 c0 c' s'.H μ act
section
variable {P:Program} {nt n0:Nat} {s s':St} {Q:Xx->St->Mu->Prop} {μ:Mu}
theorem StTo.loop (hw:StTo nt n0 s s') {b:Code} (h:X87 P nt n0 b Q s' μ):X87 P nt n0 b Q s μ:=by
 intro c0 H0 c act g hm R hR;obtain⟨c',hc,g',hm'⟩:=hw c0 H0 c act μ g hm;have:=h c0 H0 c' act g' hm' R hR
 rwa [hc] at this
theorem StTo.semM (hw:StTo nt n0 s s') {c:Code} (h:X4h P nt n0 c Q s' μ):X4h P nt n0 c Q s μ:=by
 intro c0 H0 c act g hm R hR;obtain⟨c',hc,g',hm'⟩:=hw c0 H0 c act μ g hm;have:=h c0 H0 c' act g' hm' R hR
 rwa [hc] at this
end
end Go.Av


namespace Go.D
end Go.D
namespace Go.Av
open Go.D
class Xck {α:Type} (f:α->AV):Prop where
 flat:∀ x,Xa8 (f x)
 whole:∀ x,(f x).whole=true
 still:∀ x,X6z (f x)
instance iInt {k:IntKind}:Xck (aI k):=⟨λ_=>Xef,λ_=>rfl,λ_=>Xdc⟩
instance X063:Xck aB:=⟨λ_=>Xef,λ_=>rfl,λ_=>Xdc⟩
class X00m {α:Type} (g:Bool->α->AV):Prop where
 cva:∀ {H:X0j} {o:Bool} {x:α},Cv false H (g o x) (g false x)
 cvt:∀ {H:X0j} {o:Bool} {x:α},Cv true H (g o x) (g o x)
 len:∀ (o o':Bool) (x:α),(g o x).cells.length=(g o' x).cells.length
 free:∀ (o:Bool) (x:α),Xa7 (g o x)
 still:∀ (o:Bool) (x:α),X6z (g o x)
theorem cvLf {α:Type} {f:α->AV} [i:Xck f] {H:X0j} {o:Bool} {l:List α}:Cv false H (.list o (l.map f)) (.list false (l.map f)):=X5k (X2c i.flat l)
theorem cvR {α:Type} {f:α->AV} [i:Xck f] {m:Bool} {H:X0j} {o n:Nat} {x:Obj} {l:List α} (hH:H o=some x) (he:x.es=l.map f) (hn:n=(l.map f).length):Cv m H (.ref o 0 n) (.list m (l.map f)) :=
 Xmw hH he hn (X2c i.flat l)
theorem X04y {α:Type} {f:α->AV} {m:Bool} {H:X0j} {l:List α} (h:l=[]):Cv m H .nils (.list m (l.map f)):=X001 (by rw[h];rfl)
theorem ownL {α:Type} {f:α->AV} [i:Xck f] {l:List α}:Xit (.list true (l.map f)):=Xsv (X2c i.flat l)
def CvE (m:Bool) (H:X0j) (e e':AV):Prop:=e.cells.length=e'.cells.length/\∀ (k:Nat) a b,e.cells[k]?=some a->e'.cells[k]?=some b->Cv m H a b
def CvL (m:Bool) (H:X0j) (l l':List AV):Prop:=l.length=l'.length/\∀ (i:Nat) e e',l[i]?=some e->l'[i]?=some e'->CvE m H e e'
theorem CvL.nil {m:Bool} {H:X0j}:CvL m H [] []:=⟨rfl,λi e e' h=>by simp at h⟩
theorem CvL.cons {m:Bool} {H:X0j} {e e':AV} {l l':List AV} (h:CvE m H e e') (t:CvL m H l l'):CvL m H (e::l) (e'::l'):=by
 refine⟨by simp[t.1],λi a b ha hb=>?_⟩
 cases i with
 |zero=>simp at ha hb;subst ha;subst hb;exact h
 |succ i=>simp at ha hb;exact t.2 i a b ha hb
theorem cvM {P:Prop} (h:P:=by
 repeat' first
  |exact Cvs.nil
  |refine Cvs.cons ?_ ?_
  |exact Cv.sc
  |exact Cv.fn0
  |exact Cv.listS rfl
  |exact cvLf
  |exact cvW
  |exact cvGt
  |exact cvG
  |exact cvLg
  |exact cvLe
  |refine X02c ?_
  |exact Cv.nils
  |exact X04y (by first|rfl|assumption|(simp;done)|(simp[*];done)|fail)
  |exact cvR rfl (by first|rfl|(simp;done)|(simp;rfl)|(simp[*];done)|(simp[*];rfl)|fail) (by first|rfl|(simp;done)|(simp;omega)|(simp[*];done)|(simp[*];omega)|fail)
  |exact cvRt rfl (by first|rfl|(simp;done)|(simp;rfl)|(simp[*];done)|fail) (by first|rfl|(simp;done)|(simp;omega)|(simp[*];done)|fail)
  |exact cvRg true rfl (by first|rfl|(simp;done)|(simp;rfl)|(simp[*];done)|fail) (by first|rfl|(simp;done)|(simp;omega)|(simp[*];done)|fail)
  |exact cvRg false rfl (by first|rfl|(simp;done)|(simp;rfl)|(simp[*];done)|fail) (by first|rfl|(simp;done)|(simp;omega)|(simp[*];done)|fail)
  |exact cvRe true rfl (by first|rfl|(simp;done)|(simp;rfl)|(simp[*];done)|fail) (by first|rfl|(simp;done)|(simp;omega)|(simp[*];done)|fail)
  |exact cvRe false rfl (by first|rfl|(simp;done)|(simp;rfl)|(simp[*];done)|fail) (by first|rfl|(simp;done)|(simp;omega)|(simp[*];done)|fail)
  |exact cvRf rfl (by first|rfl|(simp;done)|(simp;rfl)|(simp[*];done)|fail) (by first|rfl|(simp;done)|(simp;omega)|(simp[*];done)|fail)
  |exact cvLq (by first|rfl|(simp;done)|(simp[*];done)|fail)
  |exact cv_leqS (by first|rfl|(simp;done)|(simp[*];done)|fail)
  |exact cv_scE (by first|rfl|(simp;done)|(simp[*];done)|fail)
  |refine Xmx ?_
  |exact Cv.nils0
  |refine cv_refs rfl ?_ rfl
  |exact CvL.nil
  |refine CvL.cons ?_ ?_
  |refine cvE_agg ?_
  |refine cvE_one ?_ rfl rfl
  |refine Cv.ptrL rfl rfl rfl rfl (cv_cells ?_)
  |refine Cv.elemD rfl rfl (cv_cells ?_)
  |refine Cv.weak ?_
 first|done|fail):P:=h
theorem ownM {P:Prop} (h:P:=by
 repeat' first
  |exact .sc
  |exact ownL
  |exact ownW
  |refine Xmc ?_
  |refine X0w ?_ ?_
  |exact X76
  |refine Xit.agg ?_
 first|done|fail):P:=h
class PCs (P:Program) (f:Nat) (S:outParam Prop):Prop where
 ok:S
theorem pcN {P:Program} {f:Nat} {H:X0j} {as bs:List AV} {r:AV} {S:Prop} [i:PCs P f S] (k:S->X0i P f bs r) (hc:Cvs false (λ_=>none) as bs):X5h P f H as bs r:=.none (k i.ok) hc
theorem pcL {P:Program} {f:Nat} {H:X0j} {as bs:List AV} {r:AV} {S:Prop} [i:PCs P f S] (k:S->X0i P f bs r) (hc:Cvs false H as bs) (ho:Xit r):X5h P f H as bs r:=.lent (k i.ok) hc ho
theorem pcM {P:Prop} (h:P:=by
 first
  |exact pcN (by intro K;apply K;assumption) cvM
  |exact pcL (by intro K;apply K;assumption) cvM ownM):P:=h
theorem fq {p:Prop} (h:p) {P:Prop} (k:p->P:=by first|exact id|exact X00e|exact absT|exact absN):P:=k h
theorem Xz {P:Prop} (h:P:=by
 repeat' first
  |refine And.intro ?_ ?_
  |exact trivial
  |exact pcM
  |exact oblA
 first|done|fail):P:=h
class TmD (P:Program) (T:outParam Ty):Prop where
 ok:Xat P T/\P.follows .mixedOrders=true
abbrev nbS {α:Type} {l:List α} (h:l=[]:=by first|rfl|simp[*]):Nb l:=nbT h
theorem okF {α:Type} {f:α->AV} [i:Xck f] {x:α} {M:Nat->Prop}:(f x).Ok M:=(X3v (i.flat x) (i.whole x) M).1
theorem okG {α:Type} {g:Bool->α->AV} [i:X00m g] {o:Bool} {x:α} {M:Nat->Prop}:(g o x).Ok M:=(i.free o x M).1
theorem okM {P:Prop} (h:P:=by
 repeat' first
  |exact X76
  |refine X0w ?_ ?_
  |exact .sc
  |exact .list
  |exact Xsw
  |exact .elem
  |exact okF
  |exact okG
 first|done|fail):P:=h
theorem bI {α β:Type} {x:Option α} {f:α->Option β} {r:β} {G:Prop} (k:∀ v,x=some v->f v=some r->G):x.bind f=some r->G:=λh=>X02g h k
theorem brI {α:Type} {c:Bool} {a b:Option α} {r:α} {G:Prop} (h1:c=true->a=some r->G) (h2:c=false->b=some r->G):(bif c then a else b)=some r->G:=λh=>brE h h1 h2
theorem oj {α:Type} {a b:α} (h:some a=some b):a=b:=Option.some.inj h
theorem X0e {P:Program} {T:Ty} {nt n0:Nat} {μ:Mu} {Q:Xx->St->Mu->Prop} {cf cf':Cf} {K K':List Kn} {L L':List (Nat×AV)} {G G':List (Nat×Obj)} {n n':Nat} {hs':List X28} {ps':List Prop} [hT:TmD P T] (hs:List X28)
  (k:X2 P nt n0 Q cf' K' ⟨fr L',hp G',n'⟩ μ) (h:Xag P T nt 4000 cf K L G n hs []=some (cf',K',L',G',n',hs',ps'):=by exact rfl) (o:X3z ps':=by exact Xz):X2 P nt n0 Q cf K ⟨fr L,hp G,n⟩ μ:=Xpn hT.ok 4000 hs h o k
theorem rnI {A:Prop} {P:Program} {T:Ty} {nt n0:Nat} {μ:Mu} {Q:Xx->St->Mu->Prop} {cf cf':Cf} {K K':List Kn} {L L':List (Nat×AV)} {G G':List (Nat×Obj)} {n n':Nat} {hs':List X28} {ps':List Prop} [hT:TmD P T] (hs:List X28)
  (k:A->X2 P nt n0 Q cf' K' ⟨fr L',hp G',n'⟩ μ) (h:Xag P T nt 4000 cf K L G n hs []=some (cf',K',L',G',n',hs',ps'):=by exact rfl) (o:X3z ps':=by exact Xz):A->X2 P nt n0 Q cf K ⟨fr L,hp G,n⟩ μ:=λa=>Xpn hT.ok 4000 hs h o (k a)
theorem X7 {P:Program} {T:Ty} {nt n0:Nat} {μ:Mu} {Q:Xx->St->Mu->Prop} {cf cf':Cf} {K K':List Kn} {L L':List (Nat×AV)} {G G':List (Nat×Obj)} {n n':Nat} {hs':List X28} {ps':List Prop} [hT:TmD P T] (hs:List X28)
  (h:Xag P T nt 4000 cf K L G n hs []=some (cf',K',L',G',n',hs',ps'):=by exact rfl) (o:X3z ps':=by exact Xz) (k:X2 P nt n0 Q cf' K' ⟨fr L',hp G',n'⟩ μ):X2 P nt n0 Q cf K ⟨fr L,hp G,n⟩ μ:=Xpn hT.ok 4000 hs h o k
theorem fi {P:Program} {T:Ty} {nt n0:Nat} {fn:Func} {r:AV} {L:List (Nat×AV)} {G:List (Nat×Obj)} {n:Nat} {μ:Mu} {rs:List AV} (hr:Xut T L G fn.results.toList=some rs:=by exact rfl) (hc:Cv true (hp G) (Xf0 rs) r:=by exact cvM):X2 P nt n0 (Xw9 T fn r) (.exit .ret) [] ⟨fr L,hp G,n⟩ μ:=Xlb hr hc
end Go.Av


namespace Go.Av
theorem X2.copyS {P:Program} {T:Ty} {nt n0:Nat} {Q:Xx->St->Mu->Prop} {ops:Array Oper} {l:List Oper} {o:Oper} {K:List Kn} {L:List (Nat×AV)} {G:List (Nat×Obj)} {n:Nat} {μ:Mu} {d x:Operand} {t t' q off len et:Nat} {y:Obj} {xa:AV} {xs:List AV} {te ti:TI} {qd qx:List Prop}
  (es':List AV) (m:Nat) (hT:Xat P T) (ho:o.op=.call { callee:=.builtin .copy,args:=#[d,x],argTypes:=#[t,t'] }) (hg:o.guard=none) (hdst:Xii nt o.dst=true) (hd:rd L d=(.ref q off len,qd)) (hqd:X3z qd) (hH:hp G q=some y) (hle:Nat.ble (off+len) y.es.length=true)
  (hx:rd L x=(xa,qx)) (hqx:X3z qx) (hsrc:Xln (hp G) xa xs) (hm:min xs.length len=m) (hn0:Nat.ble 1 m=true) (ht:T t=some ti) (hk:ti.kind=.slice et) (hte:T et=some te) (hsz:(xs.all λe=>Nat.beq e.cells.length te.size)=true) (hes:y.esz=te.size)
  (hsp:splice y.es off (xs.take m)=es')
  (h:X2 P nt n0 Q (.ops ops l) K ⟨fr (Xw7 o.dst (.sc (.int .i64 m)) L),hp ((q,{ y with es:=es' })::G),n⟩ μ):X2 P nt n0 Q (.ops ops (o::l)) K ⟨fr L,hp G,n⟩ μ:=by
 subst hm hsp;refine X54.plain (s:=⟨fr L,hp G,n⟩) hg (X8e hdst) (OpR.copy (s:=⟨fr L,hp G,n⟩) hT ho (X0s hd hqd) hH (by simpa using hle) (by rw[show evA (St.A ⟨fr L,hp G,n⟩) x=_ from X0s hx hqx];exact hsrc) (by simp at hn0;omega) ht hk hte (λe he=>by
  have:=List.all_eq_true.1 hsz e he;simpa using this) hes) ?_
 rintro _ _ _ ⟨rfl,rfl,rfl⟩;rw[X61] at h;have e:goInt (min (xs.length:Int) (len:Int))=.int .i64 ((min xs.length len:Nat):Int):=by unfold goInt;congr 1;omega
 rw[e];have hgn:=Xf7 hH;rw[Xc6] at h
 ·exact h
 ·exact hgn
end Go.Av


namespace Go.Av
open Go
def Xg5 (o:Oper):Oper:={ o with after:=o.after.push { on:=0,ground:=.data } }
def X0y (ops:Array Oper) (c:Nat):Array Oper:=ops.modify c Xg5
theorem Xc4 (o:Oper):∀ j,j∈X83 (Xg5 o)↔j∈X83 o\/j=0:=by
 intro j;simp only[X83,Xg5,Array.toList_push,List.filter_append,List.map_append,List.mem_append];constructor
 ·rintro(h|h)
  ·exact .inl h
  ·right;obtain⟨e,he,rfl⟩:=List.mem_map.1 h;rw[List.mem_singleton.1 (List.mem_filter.1 he).1]
 ·rintro(h|rfl)
  ·exact .inl h
  ·right;exact List.mem_map.2 ⟨_,List.mem_filter.2 ⟨List.mem_singleton.2 rfl,rfl⟩,rfl⟩
section
variable {P:Program} {ops:Array Oper} {Q:Exit->Act->World->Prop}
theorem Oper.wp_put {o:Oper} {a a2:Act} {w:World} {K K2:Act->World->Prop} (hQ:(∀ ch a w,¬ Q (.panic ch) a w)/\∀ a w,¬ Q .outgrown a w) (he:execOp a2.eval o=execOp a.eval o) (hr:∀ n w',(execOp a.eval o).run P w=.ok n w'->∃ v,n=.value v) (hK:∀ v w',K (a2.put o.dst v) w'->K2 (a.put o.dst v) w')
  (hh:o.wp P a2 w K Q):o.wp P a w K2 Q:=by
 unfold Oper.wp at *;rw[he] at hh;generalize (execOp a.eval o).run P w=r at *
 cases r with
 |ok n w' =>
  obtain⟨v,rfl⟩:=hr n w' rfl;simp only[Oper.upon] at hh ⊢;exact hK _ _ hh
 |halt x w'=>cases x<;>simp only[Oper.upon] at hh ⊢<;>first|exact hh|exact absurd hh (hQ.1 _ _ _)|exact absurd hh (hQ.2 _ _)
theorem Xls {o:Oper} {a:Act} {w:World} {K:Act->World->Prop} (h:(Xg5 o).wp P a w K Q):o.wp P a w K Q:=h
theorem Xkb {i:Nat} {o:Oper} {K:Act->World->Prop} {a:Act} {w:World} (hQ:(∀ ch a w,¬ Q (.panic ch) a w)/\∀ a w,¬ Q .outgrown a w) (ho:ops[i]?=some o) (hg:o.guard=none) (h:wpOp P ops Q i K a w):o.wp P a w K Q:=by
 unfold wpOp at h;rw[ho] at h;simp only at h;rw[if_pos (by simp[Region.wanted,hg])] at h;rcases h with h|⟨_,a0,w0,h⟩
 ·exact h
 ·exact absurd h (hQ.2 _ _)
theorem Xkc {i:Nat} {o:Oper} {K:Act->World->Prop} {a:Act} {w:World} (ho:ops[i]?=some o) (hg:o.guard=none) (h:o.wp P a w K Q):wpOp P ops Q i K a w:=by
 unfold wpOp;rw[ho];simp only;rw[if_pos (by simp[Region.wanted,hg])];exact .inl h
theorem Xed {c:Nat} {oc:Oper} (hc:ops[c]?=some oc) (i:Nat):(X0y ops c)[i]?=if i=c then some (Xg5 oc) else ops[i]?:=by
 unfold X0y;rw[Array.getElem?_modify];by_cases h:i=c
 ·subst h;simp[hc]
 ·rw[if_neg (λe=>h e.symm),if_neg h]
theorem X00k (a:Act) {d d':Nat} (v v':Value) (h:d≠d'):(a.put (some d) v).put (some d') v'=(a.put (some d') v').put (some d) v:=by
 simp only[Act.put];rw[Array.setIfInBounds_comm _ _ (by exact h)]
theorem Xnc {c d0 dc src:Nat} {o0 oc:Oper} (hQ:(∀ ch a w,¬ Q (.panic ch) a w)/\∀ a w,¬ Q .outgrown a w) (hpre:X5m 0 ops.toList=true)
  (h0:ops[0]?=some o0) (hop:o0.op=.move (.tmp src)) (hg0:o0.guard=none) (hd0:o0.dst=some d0) (hp0:X83 o0=[]) (hc:ops[c]?=some oc) (hc0:c≠0) (hgc:oc.guard=none) (hdc:oc.dst=some dc) (hne:dc≠d0) (hns:dc≠src)
  (hg:∀ (i:Nat) (o:Oper),ops[i]?=some o->o.guard=none) (hres:∀ (a:Act) w n w',(execOp a.eval oc).run P w=.ok n w'->∃ v,n=.value v)
  (hex:∀ (a:Act) v,execOp (a.put (some d0) v).eval oc=execOp a.eval oc)
  (hall:∀ i,i<ops.size->i≠0->i≠c->((X18 ops.toList).getD c 0).testBit i=true\/((X18 ops.toList).getD i 0).testBit 0=true) :
  ∀ (f:Nat) (L:Array Bool) (a:Act) (w:World),L.size=ops.size->Xdm ops L->wpAny P .any (X0y ops c) Q f L a w->wpAny P .any ops Q f L a w:=by
 have hsz':(X0y ops c).size=ops.size:=by simp[X0y]
 have hlt0:0<ops.size:=(Array.getElem?_eq_some_iff.1 h0).1;have hltc:c<ops.size:=(Array.getElem?_eq_some_iff.1 hc).1;have h0':(X0y ops c)[0]?=some o0:=by rw[Xed hc,if_neg (Ne.symm hc0)];exact h0
 have hc':(X0y ops c)[c]?=some (Xg5 oc):=by rw[Xed hc,if_pos rfl]
 have rd:∀ (L:Array Bool) i,L.size=ops.size->i∈Region.ready .any ops L->(i=c->L.getD 0 false=true)->i∈Region.ready .any (X0y ops c) L:=by
  intro L i hL hi hic;have hio:=(X1n.1 hi).1;have ho:ops.toList[i]?=some ops[i]:=by simp[hio]
  have hnl:L.getD i false=false:=by
   have h1:=(X1n.1 hi).2.1;have hil:i<L.size:=by omega
   simp only[Array.getD_eq_getD_getElem?,Array.getElem?_eq_getElem hil,Option.getD_some] at h1 ⊢;exact h1
  have hp:=X6o hi ho;by_cases h:i=c
  ·subst h;refine X5o (o:=Xg5 oc) om (by simpa using hc') hnl λj hj=>?_;rcases(Xc4 oc j).1 hj with h1|rfl
   ·have:ops[i]=oc:=by have:=hc;rw[Array.getElem?_eq_getElem hio] at this;exact Option.some.inj this
    rw[this] at hp;exact hp j h1
   ·exact hic rfl
  ·refine X5o (o:=ops[i]) om ?_ hnl hp;have:=Xed hc i;rw[if_neg h] at this;simpa[hio] using this
 have rd0:∀ (L:Array Bool),L.size=ops.size->L.getD 0 false=false->0∈Region.ready .any ops L/\0∈Region.ready .any (X0y ops c) L:=by
  intro L hL hl;have h1:0∈Region.ready .any ops L:=X5o (o:=o0) hL (by simpa using h0) hl (λj hj=>by rw[hp0] at hj;cases hj);exact⟨h1,rd L 0 hL h1 (λe=>absurd e.symm hc0)⟩
 have hmove:∀ (a:Act) (w:World),(execOp a.eval o0).run P w=.ok (.value (a.eval (.tmp src))) w:=by
  intro a w;obtain⟨dst,op,type,pos,after,guard⟩:=o0;simp only at hop;subst hop;simp[execOp]
 have mv:∀ (opsx:Array Oper) (K:Act->World->Prop) (a:Act) (w:World),opsx[0]?=some o0->(wpOp P opsx Q 0 K a w↔K (a.put (some d0) (a.eval (.tmp src))) w):=by
  intro opsx K a w hx;constructor
  ·intro h;have h1:=Xkb hQ hx hg0 h;unfold Oper.wp at h1;rw[hmove] at h1;have h2:K (a.put o0.dst (a.eval (.tmp src))) w:=h1
   rwa [hd0] at h2
  ·intro h;refine Xkc hx hg0 ?_;unfold Oper.wp;rw[hmove];show K (a.put o0.dst (a.eval (.tmp src))) w;rw[hd0];exact h
 have hcl:∀ (L:Array Bool) i,L.size=ops.size->Xdm ops L->i∈Region.ready .any ops L->Xdm ops (L.setIfInBounds i true):=by
  intro L i hL hC hi k o ho hk q hq;have hio:=(X1n.1 hi).1;rw[X3h om] at hk ⊢;rcases Bool.or_eq_true_iff.1 hk with hk|hk
  ·rw[hC k o ho hk q hq];rfl
  ·have:k=i:=by simpa using hk
   subst this;rw[X6o hi ho q hq];rfl
 intro f
 induction f using Nat.strongRecOn with
 |_ f ih =>
  intro L a w hL hC h
  cases f with
  |zero =>
   obtain⟨h1,h2⟩:=h;refine⟨?_,h2⟩;rw[List.eq_nil_iff_forall_not_mem];intro i hi
   cases hl0:L.getD 0 false with
   |true=>have:=rd L i hL hi (λ_=>hl0);rw[h1] at this;cases this
   |false=>have:=(rd0 L hL hl0).2;rw[h1] at this;cases this
  |succ f =>
   obtain⟨h1,h2⟩:=h;refine⟨λhr=>h1 ?_,λi hi=>?_⟩
   ·rw[List.eq_nil_iff_forall_not_mem];intro i hi;have hio:=(X1n.1 hi).1;have hnl:L.getD i false=false:=by
     have h3:=(X1n.1 hi).2.1;have hil:i<L.size:=by omega
     simp only[Array.getD_eq_getD_getElem?,Array.getElem?_eq_getElem hil,Option.getD_some] at h3 ⊢;exact h3
    have:i∈Region.ready .any ops L:=by
     by_cases hic:i=c
     ·subst hic;refine X5o (o:=oc) hL (by simpa using hc) hnl λj hj=>?_;exact X6o hi (by simpa using hc') j ((Xc4 oc j).2 (.inl hj))
     ·have hx:=Xed hc i;rw[if_neg hic] at hx;have hlt:i<ops.size:=by omega
      refine X5o (o:=ops[i]) hL (by simp[hlt]) hnl λj hj=>?_;exact X6o hi (o:=ops[i]) (by rw[Array.getElem?_toList,hx];simp[hlt]) j hj
    rw[hr] at this;cases this
   ·have hio:=(X1n.1 hi).1;by_cases hs:i=c/\L.getD 0 false=false
    ·obtain⟨rfl,hl0⟩:=hs;obtain⟨_,r0⟩:=rd0 L hL hl0;have s1:=(mv _ _ a w h0').1 (h2 0 r0);have hL0:(L.setIfInBounds 0 true).size=ops.size:=by simpa using hL
     have hi0:i∈Region.ready .any (X0y ops i) (L.setIfInBounds 0 true):=by
      have ho:ops.toList[i]?=some oc:=by simpa using hc
      refine X5o (o:=Xg5 oc) om (by simpa using hc') ?_ λj hj=>?_
      ·rw[X3h om];have h3:=(X1n.1 hi).2.1;have hil:i<L.size:=by omega
       simp only[Array.getD_eq_getD_getElem?,Array.getElem?_eq_getElem hil,Option.getD_some] at h3 ⊢;have hb:Nat.beq i 0=false:=by rw[<-Bool.not_eq_true,Nat.beq_eq];exact hc0
       rw[h3,hb];rfl
      ·rw[X3h om];rcases(Xc4 oc j).1 hj with h3|rfl
       ·rw[X6o hi ho j h3];rfl
       ·simp
     cases f with
     |zero=>exact absurd hi0 (by rw[s1.1];exact λh=>by cases h)
     |succ f =>
      have s2:=Xkb hQ hc' (by exact hgc) (s1.2 i hi0);refine Xkc hc hgc (Oper.wp_put hQ (a2:=a.put (some d0) (a.eval (.tmp src))) (hex _ _) (hres a w) (λv w' hk=>?_) (Xls s2));rw[hdc] at hk ⊢;have hLi:(L.setIfInBounds i true).size=ops.size:=by simpa using hL
      have hCi:=hcl L i hL hC hi;have hl0i:(L.setIfInBounds i true).getD 0 false=false:=by
       have hb:Nat.beq 0 i=false:=by rw[<-Bool.not_eq_true,Nat.beq_eq];exact Ne.symm hc0
       rw[X3h om,hl0,hb];rfl
      refine⟨λhr=>(by have:=(rd0 _ hLi hl0i).1;rw[hr] at this;cases this),λk hk2=>?_⟩;have hk0:k=0:=by
       refine Classical.byContradiction λhk0=>?_;have hks:=(X1n.1 hk2).1;have hki:k≠i:=by
        rintro rfl;have h3:=(X1n.1 hk2).2.1;have hil:k<L.size:=by omega
        simp[Array.getD_eq_getD_getElem?,hil] at h3
       rcases hall k hks hk0 hki with h3|h3
       ·have h4:=Xdz hpre hC hi h3;have h5:=(X1n.1 hk2).2.1;have hkl:k<L.size:=by omega
        rw[Array.getD_eq_getD_getElem?,Array.getElem?_setIfInBounds_ne (λe=>hki e.symm),Array.getElem?_eq_getElem hkl] at h5;rw[Array.getD_eq_getD_getElem?,Array.getElem?_eq_getElem hkl] at h4;simp only[Option.getD_some] at h4 h5;rw[h4] at h5;cases h5
       ·have h4:=Xdz hpre hCi hk2 h3;rw[hl0i] at h4;cases h4
      subst hk0;refine(mv _ _ _ _ h0).2 ?_;have hev:(a.put (some dc) v).eval (.tmp src)=a.eval (.tmp src):=by
       simp[Act.put,Act.eval,Array.getD_eq_getD_getElem?,Array.getElem?_setIfInBounds_ne hns]
      rw[hev,X00k _ _ _ hne];have hco:(L.setIfInBounds i true).setIfInBounds 0 true=(L.setIfInBounds 0 true).setIfInBounds i true:=by rw[Array.setIfInBounds_comm _ _ hc0]
      rw[hco];refine ih f om _ _ _ (by simpa using hL) ?_ hk;rw[<-hco];exact hcl _ 0 hLi hCi (rd0 _ hLi hl0i).1
    ·have hr':=rd L i hL hi (λe=>by
      cases hl0:L.getD 0 false with
      |true=>rfl
      |false=>exact absurd ⟨e,hl0⟩ hs)
     have h3:=h2 i hr';have hgo:ops[i].guard=none:=hg i _ (by simp[hio]);have hLi:(L.setIfInBounds i true).size=ops.size:=by simpa using hL
     have hio':ops[i]?=some ops[i]:=by simp[hio]
     by_cases hic:i=c
     ·subst hic;have hoc:ops[i]=oc:=by rw[hio'] at hc;exact Option.some.inj hc
      refine Xkc hc hgc (Oper.wp_mono (λv w' hk=>ih f om _ _ _ hLi (hcl L i hL hC hi) hk) (Xls (Xkb hQ hc' (by exact hgc) h3)))
     ·have hx:=Xed hc i;rw[if_neg hic,hio'] at hx;refine Xkc hio' hgo (Oper.wp_mono (λv w' hk=>ih f om _ _ _ hLi (hcl L i hL hC hi) hk) (Xkb hQ hx hgo h3))
end
theorem X054 {nt n0:Nat} {c0:Ctx} {H0:X0j} {Q:Xx->St->Mu->Prop}:(∀ ch a w,¬ MQ nt c0 H0 n0 Q (.panic ch) a w)/\∀ a w,¬ MQ nt c0 H0 n0 Q .outgrown a w:=by
 constructor
 ·rintro ch a w ⟨c,s,ae,μ,_,_,_,h,_⟩;cases ae<;>cases h
 ·rintro a w ⟨c,s,ae,μ,_,_,_,h,_⟩;cases ae<;>cases h
theorem X00h {P:Program} {T:Ty} {nt n0 j n:Nat} {ops:Array Oper} {L L':List (Nat×AV)} {G G':List (Nat×Obj)} {Q:Xx->St->Mu->Prop} {μ:Mu} (hT:Xat P T/\P.follows .mixedOrders=true) (hpre:X5m 0 ops.toList=true)
  (hjl:Nat.ble j ops.size=true) (hbar:Xn0 j ops.toList=true) (hgd:Xct (ops.toList.take j)=true) (hs:List X28) {hs':List X28} {ps':List Prop}
  (h:Xfl hz0 P T nt n ⟨ops.toList.take j⟩ (X18 (ops.toList.take j)) ((X18 (ops.toList.take j)).zip ((ops.toList.take j).map hz0)) 0 (ops.toList.take j) L G [] hs []=some (L',G',hs',ps')) (hp':X3z ps')
  (k:X54 P nt n0 ops (ops.toList.drop j) (λs μ=>Q .normal s μ) ⟨fr L',hp G',n+j⟩ μ) (hμ:Xd8 μ=true):∀ (c0:Ctx) (HH:X0j) (c:Ctx) (act:Act),X4c nt c0 HH n0 c ⟨fr L,hp G,n⟩ act->MOk n0 c0 c (hp G) μ act->wpAny P .any ops (MQ nt c0 HH n0 Q) ops.size (Array.replicate ops.size false) act { c.w with drawn:=c.w.drawn+1 }:=by
 have hjl':j<=ops.size:=by simpa using hjl
 obtain⟨_,hrun⟩:=Xlf _ _ _ _ _ _ _ _ _ _ _ h hp';obtain⟨rs,hall,hA,hH⟩:=hrun.all (fr L) (hp G) [] (Nat.zero_le _) rfl rfl rfl rfl rfl (λk o r _ hr=>by simp at hr);have hpl:X5m 0 (ops.toList.take j)=true:=by
  have key:∀ (l:List Oper) (i k:Nat),X5m i l=true->X5m i (l.take k)=true:=by
   intro l
   induction l with
   |nil=>intro i k _;simp[X5m]
   |cons a l ih =>
    intro i k h
    cases k with
    |zero=>rfl
    |succ k =>
     simp only[X5m,Bool.and_eq_true,List.take_succ_cons] at h ⊢;exact⟨h.1,ih _ _ h.2⟩
  exact key _ _ _ hpre
 have hlenp:(ops.toList.take j).length=j:=by rw[List.length_take,Array.length_toList];omega
 intro c0 HH c act g0 hm;have g:=g0.rebase.drew;have hz:∀ m k,(Array.replicate m false).getD k false=false:=by
  intro m k;simp only[Array.getD_eq_getD_getElem?,Array.getElem?_replicate];split<;>rfl
 have hfn:∀ m,(λk=>(Array.replicate m false).getD k false)=(λ_=>false):=λm=>funext (hz m);have hM:∀ q,q<n->AtS n (λ_=>false) q:=λq h=>.inl h;have hdg:=Xle (n0:=n0) (Q:=λe s=>e=.normal/\s=⟨fr L',hp G',n+j⟩) hT.1 (ops:=⟨ops.toList.take j⟩) hpl hall ⟨rfl,by rw[hA,hH];congr 1;simp only[hlenp]⟩ (c0:=c) (HH:=hp G) g.le0 j (Array.replicate j false) (List.range j)
  { c with w:={ c.w with drawn:=c.w.drawn+1 } } act (by simp[hlenp]) (by simp) (λk hk _=>List.mem_range.2 (by simpa[hlenp] using hk)) (λi o _ h=>by rw[hz] at h;cases h) (by
   rw[hfn,X7i,X7i];exact⟨g.inv.more hM,g.solo,g.frame,λt=>(g.ok t).mono hM,g.size,g.reach,λq hq=>hM q (Nat.lt_of_lt_of_le hq g.le0)⟩) rfl
 have:=Xlu (Q:=MQ nt c0 HH n0 Q) (pre:=⟨ops.toList.take j⟩) (R:=CQ nt c (hp G) n0 act.defers (λe s=>e=.normal/\s=⟨fr L',hp G',n+j⟩)) (j:=j) rfl hjl' hpre hbar hgd
  (by rintro e a w hne ⟨c',s',ae,_,_,_,rfl,rfl,_⟩;exact absurd rfl hne) (ops.size - j) (by
   rintro listed a w hsz hl ⟨c',s',ae,rfl,g',hd',_,rfl,rfl⟩;refine Xlt hpre hbar (ops.size - j) j listed a c'.w hsz (Nat.le_refl _) om hl ?_;exact k c0 HH c' a (.join g0.reach g') (hm.kept g'.reach hd') _ (λc2 s2 a2 μ2 g2 hm2 hq=>⟨c2,s2,.normal,μ2,rfl,g2,hm2,rfl,hq⟩) none (λ_=>hμ))
  j (Array.replicate j false) (Array.replicate ops.size false) act { c.w with drawn:=c.w.drawn+1 } (by simp[hlenp]) (by simp) (λk=>by rw[hz,hz];rfl) (λi o _ h=>by rw[hz] at h;cases h) hdg
 rwa [show j+(ops.size - j)=ops.size by omega] at this
theorem X4h.drawnCutF {P:Program} {T:Ty} {nt n0 id j n:Nat} {ops0:Array Oper} {L L':List (Nat×AV)} {G G':List (Nat×Obj)} {Q:Xx->St->Mu->Prop} {μ:Mu} (hT:Xat P T/\P.follows .mixedOrders=true)
  {d0 dc src x y:Nat} {o0 oc:Oper} {ts:Array TypeId} (hpre0:X5m 0 ops0.toList=true) (h0:ops0[0]?=some o0) (hop:o0.op=.move (.tmp src)) (hg0:o0.guard=none) (hd0:o0.dst=some d0) (hp0:X83 o0=[])
  (hc:ops0[j]?=some oc) (hc0:j≠0) (hoc:oc.op=.call { callee:=.builtin .copy,args:=#[.tmp x,.tmp y],argTypes:=ts }) (hgc:oc.guard=none) (hdc:oc.dst=some dc) (hne:dc≠d0) (hns:dc≠src) (hx0:x≠d0) (hy0:y≠d0)
  (hgs':(ops0.toList.all λo=>o.guard.isNone)=true) (hall':((List.range ops0.size).all λi=>Nat.beq i 0||Nat.beq i j||((X18 ops0.toList).getD j 0).testBit i||((X18 ops0.toList).getD i 0).testBit 0)=true)
  (hpre:X5m 0 (X0y ops0 j).toList=true)
  (hjl:Nat.ble j (X0y ops0 j).size=true) (hbar:Xn0 j (X0y ops0 j).toList=true) (hgd:Xct ((X0y ops0 j).toList.take j)=true) (hs:List X28) {hs':List X28} {ps':List Prop}
  (h:Xfl hz0 P T nt n ⟨(X0y ops0 j).toList.take j⟩ (X18 ((X0y ops0 j).toList.take j)) ((X18 ((X0y ops0 j).toList.take j)).zip (((X0y ops0 j).toList.take j).map hz0)) 0 ((X0y ops0 j).toList.take j) L G [] hs []=some (L',G',hs',ps')) (hp':X3z ps')
  (k:X54 P nt n0 (X0y ops0 j) ((X0y ops0 j).toList.drop j) (λs μ=>Q .normal s μ) ⟨fr L',hp G',n+j⟩ μ) (hμ:Xd8 μ=true:=by rfl):X4h P nt n0 (.region id ops0 true) Q ⟨fr L,hp G,n⟩ μ:=by
 have hgs:∀ (i:Nat) (o:Oper),ops0[i]?=some o->o.guard=none:=λi o ho=>by
  have:=List.all_eq_true.1 hgs' o (List.mem_of_getElem? (i:=i) (by simpa using ho));simpa using this
 have hall:∀ i,i<ops0.size->i≠0->i≠j->((X18 ops0.toList).getD j 0).testBit i=true\/((X18 ops0.toList).getD i 0).testBit 0=true:=λi hi h1 h2=>by
  have:=List.all_eq_true.1 hall' i (List.mem_range.2 hi);simp only[Bool.or_eq_true,Nat.beq_eq] at this;rcases this with ((h3|h3)|h3)|h3
  ·exact absurd h3 h1
  ·exact absurd h3 h2
  ·exact .inl h3
  ·exact .inr h3
 have hex:∀ (a:Act) v,execOp (a.put (some d0) v).eval oc=execOp a.eval oc:=λa v=>by
  obtain⟨dst,op,type,pos,after,guard⟩:=oc;simp only at hoc;subst hoc;have e1:(a.put (some d0) v).eval (.tmp x)=a.eval (.tmp x):=by simp[Act.put,Act.eval,Array.getD_eq_getD_getElem?,Array.getElem?_setIfInBounds_ne (Ne.symm hx0)]
  have e2:(a.put (some d0) v).eval (.tmp y)=a.eval (.tmp y):=by simp[Act.put,Act.eval,Array.getD_eq_getD_getElem?,Array.getElem?_setIfInBounds_ne (Ne.symm hy0)]
  simp[execOp,resolve,e1,e2]
 have hres:∀ (a:Act) w n w',(execOp a.eval oc).run P w=.ok n w'->∃ v,n=.value v:=λa w n w' hr=>by
  obtain⟨dst,op,type,pos,after,guard⟩:=oc;simp only at hoc;subst hoc;simp[execOp,resolve,invoke,builtin] at hr
  cases hq:Sem.run P (Builtin.copy_ ts type #[a.eval (.tmp x),a.eval (.tmp y)]) w with
  |ok v w2=>rw[hq] at hr;simp at hr;exact⟨v,hr.1.symm⟩
  |halt e w2=>rw[hq] at hr;simp[Result.andThen] at hr
 intro c0 HH c act g hm R0 hR0;obtain rfl:=hR0 rfl;refine Xav.2 (wp_region_any hT.2 ?_);refine Xnc (ops:=ops0) (c:=j) X054 hpre0 h0 hop hg0 hd0 hp0 hc hc0 hgc hdc hne hns hgs hres hex hall ops0.size (Array.replicate ops0.size false) act _ (by simp) (λi o _ hi=>by
  simp only[Array.getD_eq_getD_getElem?,Array.getElem?_replicate] at hi;split at hi<;>cases hi) ?_
 have:=X00h (L:=L) (G:=G) (n:=n) hT hpre hjl hbar hgd hs h hp' k hμ c0 HH c act g hm
 rwa [show(X0y ops0 j).size=ops0.size by simp[X0y]] at this
theorem X2.drawnCutF {P:Program} {T:Ty} {nt n0 id n:Nat} {ops0:Array Oper} {L L':List (Nat×AV)} {G G':List (Nat×Obj)} {K:List Kn} {Q:Xx->St->Mu->Prop} {μ:Mu} (j:Nat) (hT:Xat P T/\P.follows .mixedOrders=true) (hs:List X28) {hs':List X28} {ps':List Prop}
  {d0 dc src x y:Nat} {o0 oc:Oper} {ts:Array TypeId} (hpre0:X5m 0 ops0.toList=true) (h0:ops0[0]?=some o0) (hop:o0.op=.move (.tmp src)) (hg0:o0.guard=none) (hd0:o0.dst=some d0) (hp0:X83 o0=[])
  (hc:ops0[j]?=some oc) (hc0:j≠0) (hoc:oc.op=.call { callee:=.builtin .copy,args:=#[.tmp x,.tmp y],argTypes:=ts }) (hgc:oc.guard=none) (hdc:oc.dst=some dc) (hne:dc≠d0) (hns:dc≠src) (hx0:x≠d0) (hy0:y≠d0)
  (hgs':(ops0.toList.all λo=>o.guard.isNone)=true) (hall':((List.range ops0.size).all λi=>Nat.beq i 0||Nat.beq i j||((X18 ops0.toList).getD j 0).testBit i||((X18 ops0.toList).getD i 0).testBit 0)=true)
  (hpre:X5m 0 (X0y ops0 j).toList=true)
  (hjl:Nat.ble j (X0y ops0 j).size=true) (hbar:Xn0 j (X0y ops0 j).toList=true) (hgd:Xct ((X0y ops0 j).toList.take j)=true)
  (h:Xfl hz0 P T nt n ⟨(X0y ops0 j).toList.take j⟩ (X18 ((X0y ops0 j).toList.take j)) ((X18 ((X0y ops0 j).toList.take j)).zip (((X0y ops0 j).toList.take j).map hz0)) 0 ((X0y ops0 j).toList.take j) L G [] hs []=some (L',G',hs',ps')) (hp':X3z ps')
  (k:X2 P nt n0 Q (.ops (X0y ops0 j) ((X0y ops0 j).toList.drop j)) K ⟨fr L',hp G',n+j⟩ μ) (hμ:Xd8 μ=true:=by rfl):X2 P nt n0 Q (.code (.region id ops0 true)) K ⟨fr L,hp G,n⟩ μ :=
 X4h.drawnCutF hT hpre0 h0 hop hg0 hd0 hp0 hc hc0 hoc hgc hdc hne hns hx0 hy0 hgs' hall' hpre hjl hbar hgd hs h hp' k hμ
end Go.Av


namespace Go.Av
def scs:List AV->Bool
 |[]=>true
 |.sc _::r=>scs r
 |_=>false
theorem X01h {M:Nat->Prop}:∀ {es:List AV},scs es=true->∀ e∈es,∀ a∈e.cells,AV.Ok M a
 |[],_=>λe he=>by cases he
 |.sc v::r,h=>λe he a ha=>by
  rcases List.mem_cons.1 he with rfl|he
  ·rw[List.mem_singleton.1 ha];exact .sc
  ·exact X01h (es:=r) h e he a ha
 |.list _ _::_,h=>by cases h
end Go.Av


namespace Go.Av
end Go.Av


namespace Go.Av
open Go.D
def WkC (a a':AV):Prop:=a'=a\/(∃ l,a=.list true l/\a'=.list false l)\/(a=.nils/\∃ b,a'=.list b [])
theorem WkC.rel {c:Ctx} {a a':AV} {v:Value} (h:WkC a a') (r:X0z c false a v):X0z c false a' v:=by
 rcases h with rfl|⟨l,rfl,rfl⟩|⟨rfl,b,rfl⟩
 ·exact r
 ·cases r with
  |listNil=>exact .listNil
  |list vf hne hS hn hcap hsz hcell h1 h=>exact .list vf hne (hS.elim (λq=>.inl ⟨rfl,q.2⟩) .inr) hn hcap hsz hcell h1 h
 ·obtain⟨p,rfl⟩:=r.nils_inv;exact .listNil
theorem WkC.ok {M:Nat->Prop} {a a':AV} (h:WkC a a') (r:a.Ok M):a'.Ok M:=by
 rcases h with rfl|⟨l,rfl,rfl⟩|⟨rfl,b,rfl⟩
 ·exact r
 ·exact .list
 ·exact .list
end Go.Av


namespace Go.Av
theorem Xrj {α:Type} {f:α->AV} {l:List α} {x:α} {xs:List AV} {n:Nat} (h:xs=[f x]) (hn:n=l.length:=by simp):(List.map f l).take n++xs++(List.map f l).drop (n+xs.length)=List.map f (l++[x]):=by
 subst h hn;rw[List.take_of_length_le (by simp),List.drop_eq_nil_of_le (by simp)];simp
theorem Xri {α:Type} {f:α->AV} {l:List α} {x z:α} {xs:List AV} {n:Nat} (h:xs=[f x]) (hn:n=l.length:=by simp):(List.map f (l++[z])).take n++xs++(List.map f (l++[z])).drop (n+xs.length)=List.map f (l++[x]):=by
 subst h hn;rw[<-List.map_take,List.take_left' rfl,List.drop_eq_nil_of_le (by simp)];simp
theorem X2.caps {P:Program} {nt n0 n:Nat} {Q:Xx->St->Mu->Prop} {code:Code} {K:List Kn} {μ:Mu} {L:List (Nat×AV)} {G:List (Nat×Obj)} {y:Obj} (t o m:Nat) (hy:hp G o=some y) (ht:Nat.ble nt t=true) (hm:y.es.length=m)
  (h1:X2 P nt n0 Q (.code code) K ⟨fr ((t,.mref o m)::L),hp G,n⟩ μ) (h2:∀ j,X2 P nt n0 Q (.code code) K ⟨fr ((t,.mref o (m+1+j))::L),hp G,n⟩ μ):X2 P nt n0 Q (.code code) K ⟨fr L,hp G,n⟩ μ:=by
 intro c0 H0 c act g hμ;have hge:m<=(c.ρ o).cap:=by
  obtain⟨_,⟨_,h,_,_⟩,_⟩:=g.inv.obj o y hy;omega
 have key:∀ k,(c.ρ o).cap=k->X4c nt c0 H0 n0 c ⟨fr ((t,.mref o k)::L),hp G,n⟩ act:=by
  intro k hk;have hfr:∀ q,fr ((t,.mref o k)::L) q=if q=t then .mref o k else fr L q:=by
   intro q;simp only[fr];by_cases hq:q=t
   ·subst hq;simp
   ·have:Nat.beq q t=false:=by rw[<-Bool.not_eq_true,Nat.beq_eq];exact hq
    rw[this,if_neg hq];rfl
  refine⟨g.inv,g.solo,λq=>?_,λq=>?_,g.size,g.reach,g.le0⟩
  ·show X0z c false (fr ((t,.mref o k)::L) q) _;rw[hfr];by_cases hq:q=t
   ·subst hq;rw[if_pos rfl];have:act.tmps.getD q undef=undef:=by
     have:=g.size;have:=Nat.le_of_ble_eq_true ht;simp only[Array.getD_eq_getD_getElem?];rw[Array.getElem?_eq_none om];rfl
    rw[this];exact .mref hk
   ·rw[if_neg hq];exact g.frame q
  ·show(fr ((t,.mref o k)::L) q).Ok _;rw[hfr];by_cases hq:q=t
   ·rw[if_pos hq];exact .mref (g.inv.obj o y hy).1
   ·rw[if_neg hq];exact g.ok q
 by_cases hc:(c.ρ o).cap=m
 ·exact h1 c0 H0 c act (key m hc) hμ
 ·exact h2 ((c.ρ o).cap - m - 1) c0 H0 c act (key _ om) hμ
end Go.Av


namespace Go.Av
inductive Tab (V:Type) where
 |leaf
 |node (k:Nat) (v:V) (l r:Tab V)
noncomputable def Tab.find {V:Type} (t:Tab V):Nat->Option V :=
 Tab.rec (motive:=λ_=>Nat->Option V) (λ_=>none) (λk v _ _ ihl ihr n=>bif Nat.beq n k then some v else bif Nat.blt n k then ihl n else ihr n) t
theorem Tab.find_node {V:Type} (k:Nat) (v:V) (l r:Tab V) (t:Nat):(Tab.node k v l r).find t=bif Nat.beq t k then some v else bif Nat.blt t k then l.find t else r.find t:=rfl
def Tab.All {V:Type} (p:Nat->V->Prop):Tab V->Prop
 |.leaf=>True
 |.node k v l r=>p k v/\l.All p/\r.All p
theorem Tab.find_all {V:Type} {p:Nat->V->Prop}:∀ (t:Tab V),t.All p->∀ k v,t.find k=some v->p k v:=by
 intro t
 induction t with
 |leaf=>intro _ k v h;cases h
 |node k' v' l r ihl ihr =>
  intro h k v hf;obtain⟨h1,h2,h3⟩:=h;rw[Tab.find_node] at hf
  cases hb:Nat.beq k k' with
  |true =>
   rw[hb,cond_true] at hf;cases hf
   have:k=k':=Nat.eq_of_beq_eq_true hb;subst this;exact h1
  |false =>
   rw[hb,cond_false] at hf
   cases hlt:Nat.blt k k' with
   |true=>rw[hlt,cond_true] at hf;exact ihl h2 k v hf
   |false=>rw[hlt,cond_false] at hf;exact ihr h3 k v hf
theorem Xvp {P:Program} {t:Tab TI} (h:t.All (X2d P)):Xat P t.find:=λk v hf=>t.find_all h k v hf
theorem X55 {P:Program} {t:Nat} {i:TypeInfo} {d:TypeDesc} {z:Value} (hi:P.info? t=some i) (hd:P.underlying t=some d) (hz:i.zero=some z)
  (hw:((X31 z).whole&&Nat.beq (X31 z).cells.length i.size)=true):X2d P t ⟨Xu d,i.size,i.bytes,z,false⟩:=by
 simp only[Bool.and_eq_true] at hw;exact⟨⟨i,d,hi,hd,hz,rfl,rfl,rfl⟩,⟨hw.1,Nat.eq_of_beq_eq_true hw.2⟩,λh=>by cases h⟩
theorem Xd2 {P:Program} {t:Nat} {i:TypeInfo} {d:TypeDesc} {z:Value} (hi:P.info? t=some i) (hd:P.underlying t=some d) (hz:i.zero=some z)
  (hw:((X31 z).whole&&Nat.beq (X31 z).cells.length i.size)=true) (h1:P.stoodInHeld t=false) (h2:P.eqGuardType P.depth t=false)
  (h3 : (match d with | .struct fs => fs.toList.all (λf => !(f.name == "_")) | _ => true) = true) : X2d P t ⟨Xu d, i.size, i.bytes, z, true⟩ := by
 simp only[Bool.and_eq_true] at hw;refine⟨⟨i,d,hi,hd,hz,rfl,rfl,rfl⟩,⟨hw.1,Nat.eq_of_beq_eq_true hw.2⟩,λ_=>⟨h1,h2,λfs hfs f hf=>?_⟩⟩;rw[hd] at hfs;cases hfs
 have:=List.all_eq_true.1 h3 f (by simpa using hf);simpa using this
def Xa (fn:Func):Code:=fn.body.getD .skip
end Go.Av
