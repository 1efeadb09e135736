/- Parts of the proof, laid together. -/
import Derived.Test.YtdpeaabenapeaaaGreatAvb
import Derived.RangeFuncIn
set_option linter.all false

namespace Go.Av
structure Xvi (c:Ctx) (H:X08) (b:Nat):Prop where
 sa:¬ c.Sa b
 so:¬ c.So b
 ob:∀ o x,H o=some x->(c.ρ o).blk≠b
theorem Xvi.kept {c c':Ctx} {H H':X08} {n b:Nat} (h:Xvi c H b) (hb:b<c.w.heap.size) (r:Reach c H n c' H'):Xvi c' H' b:=by
 refine⟨by rw[r.sa];exact h.sa,λhs=>?_,λo x hx he=>?_⟩
 ·rcases r.so2 _ hs with h1|h1|⟨o,x,h1,h2⟩
  ·exact h.so h1
  ·omega
  ·exact h.ob o x h1 h2
 ·rcases r.own o x hx with h1|⟨o',x',h1,h2⟩
  ·omega
  ·exact h.ob o' x' h1 (h2.trans he)
theorem Reach.weaken {c c':Ctx} {H H':X08} {n n':Nat} (r:Reach c H n c' H') (h:n'<=n):Reach c H n' c' H' :=
 ⟨λo ho=>r.rho o (Nat.lt_of_lt_of_le ho h),r.os,r.tape,r.output,r.size,r.block,r.stable,r.sa,r.so1,r.so2,r.B,r.own⟩
theorem X40.turn0 {nt n0:Nat} {c0 c:Ctx} {H0:X08} {s:St} {act:Act} {b:Nat} (o:Go.Obj) (g:X40 nt c0 H0 n0 c s act) (h:Xvi c s.H b) :
  X40 nt { c with w:=c.w.putObj b o } s.H n0 { c with w:=c.w.putObj b o } s act/\c.Le (λ_=>True) { c with w:=c.w.putObj b o }:=by
 have hother:∀ k,k≠b->(c.w.putObj b o).heap[k]?=c.w.heap[k]?:=λk hk=>World.putObj_heap_other hk;have hle:c.Le (λ_=>True) { c with w:=c.w.putObj b o } :=
  ⟨λ_ _=>rfl,λ_ h=>h,λ_ h=>h,λk hk=>hother k (λe=>by subst e;exact hk.elim h.sa h.so),rfl⟩
 have all:∀ {a:AV} {M:Nat->Prop},a.Ok M->a.Ok (λ_=>True):=λh=>h.mono λ_ _=>trivial;refine⟨⟨⟨λq x hx=>?_,g.inv.sep,g.inv.stab,λk hk=>?_,?_,g.inv.own,g.inv.low⟩,g.solo,λt=>(g.frame t).mono hle (.inr (all (g.ok t))),g.ok,g.size,.refl _ _ _,g.le0⟩,hle⟩
 ·obtain⟨i1,⟨⟨cur,hb,hs,hc⟩,i3,i4,i5⟩,i6⟩:=g.inv.obj q x hx;refine⟨i1,⟨⟨cur,(hother _ (h.ob q x hx)).trans hb,hs,λi e he=>?_⟩,i3,i4,i5⟩,i6⟩;obtain⟨g1,g2⟩:=hc i e he;exact⟨g1,λk a ha=>by obtain⟨v,hv,hr,h7⟩:=g2 k a ha;exact⟨v,hv,hr.mono hle (.inr (all (i6 e (List.mem_of_getElem? he) a (List.mem_of_getElem? ha)))),h7⟩⟩
 ·show k<(c.w.putObj b o).heap.size;rw[World.putObj_size];exact g.inv.lt k hk
 ·show c.B<=(c.w.putObj b o).heap.size;rw[World.putObj_size];exact g.inv.base
theorem Reach.turnBack {c c1 c2:Ctx} {H H1 H2:X08} {n b:Nat} {o0 o1:Go.Obj} (r1:Reach c H n c1 H1) (r2:Reach { c1 with w:=c1.w.putObj b o1 } H1 n c2 H2) (hb:c.w.heap[b]?=some o0) (h:Xvi c H b) :
  Reach c H n { c2 with w:=c2.w.putObj b o0 } H2:=by
 have hlt:b<c.w.heap.size:=(Array.getElem?_eq_some_iff.1 hb).1;have hs2:c.w.heap.size<=c2.w.heap.size:=by
  have h1:=r1.size;have h2:(c1.w.putObj b o1).heap.size<=c2.w.heap.size:=r2.size;rw[World.putObj_size] at h2;omega
 refine⟨λo ho=>(r2.rho o ho).trans (r1.rho o ho),r2.os.trans r1.os,r2.tape.trans r1.tape,⟨r2.output.1.trans r1.output.1,Nat.le_trans r1.output.2 r2.output.2⟩,?_,λk hk hn=>?_,λk hk=>?_,r2.sa.trans r1.sa,λk hk=>r2.so1 k (r1.so1 k hk),λk hk=>?_,r2.B.trans r1.B,λo x hx=>?_⟩
 ·show c.w.heap.size<=(c2.w.putObj b o0).heap.size;rw[World.putObj_size];exact hs2
 ·show(c2.w.putObj b o0).heap[k]?=_;by_cases e:k=b
  ·subst e;rw[World.putObj_heap_same om];exact hb.symm
  ·rw[World.putObj_heap_other e];have h2:c2.w.heap[k]?=(c1.w.putObj b o1).heap[k]?:=r2.block k (by show k<(c1.w.putObj b o1).heap.size;rw[World.putObj_size];exact Nat.lt_of_lt_of_le hk r1.size) λo x hx he=>by
    rcases r1.own o x hx with h1|⟨o',x',h1,h2⟩
    ·have he':(c1.ρ o).blk=k:=he;omega
    ·exact hn o' x' h1 (h2.trans he)
   rw[h2,World.putObj_heap_other e];exact r1.block k hk hn
 ·show(c2.w.putObj b o0).heap[k]?=_;have e:k≠b:=λe=>by subst e;exact hk.elim h.sa h.so
  rw[World.putObj_heap_other e];have h2:c2.w.heap[k]?=(c1.w.putObj b o1).heap[k]?:=r2.stable k (hk.imp (λx=>by show c1.Sa k;rw[r1.sa];exact x) (r1.so1 k));rw[h2,World.putObj_heap_other e];exact r1.stable k hk
 ·rcases r2.so2 k hk with h1|h1|⟨q,y,h1,h2⟩
  ·exact r1.so2 k h1
  ·right;left
   have h3:(c1.w.putObj b o1).heap.size<=k:=h1;rw[World.putObj_size] at h3;exact Nat.le_trans r1.size h3
  ·have h2':(c1.ρ q).blk=k:=h2;rcases r1.own q y h1 with h3|⟨q',y',h3,h4⟩
   ·exact .inr (.inl om)
   ·exact .inr (.inr ⟨q',y',h3,h4.trans h2'⟩)
 ·rcases r2.own o x hx with h1|⟨q,y,h1,h2⟩
  ·left;have h3:(c1.w.putObj b o1).heap.size<=(c2.ρ o).blk:=h1;rw[World.putObj_size] at h3;exact Nat.le_trans r1.size h3
  ·rcases r1.own q y h1 with h3|⟨q',y',h3,h4⟩
   ·left;have:(c1.ρ q).blk=(c2.ρ o).blk:=h2;show c.w.heap.size<=(c2.ρ o).blk;omega
   ·exact .inr ⟨q',y',h3,h4.trans h2⟩
def zipL:List Nat->List AV->List (Nat×AV)->List (Nat×AV)
 |p::ps,a::as,L=>zipL ps as ((p,a)::L)
 |_,_,L=>L
theorem Xvj {c:Ctx} {n:Nat}:∀ (ps:List Nat) (as:List AV) (vs:List Value) (L:List (Nat×AV)) (tmps:Array Value),as.length=vs.length->(∀ (i:Nat) a v,as[i]?=some a->vs[i]?=some v->X0t c false a v/\a.Ok (·<n)) ->
  (∀ p∈ps,p<tmps.size)->(∀ t,X0t c false (fr L t) (tmps.getD t undef)/\(fr L t).Ok (·<n)) ->
  (∀ t,X0t c false (fr (zipL ps as L) t) (((ps.zip vs).foldl (λt (p,v)=>t.setIfInBounds p v) tmps).getD t undef)/\(fr (zipL ps as L) t).Ok (·<n))/\((ps.zip vs).foldl (λt (p,v)=>t.setIfInBounds p v) tmps).size=tmps.size:=by
 intro ps
 induction ps with
 |nil=>intro as vs L tmps _ _ _ h;cases as<;>exact⟨h,rfl⟩
 |cons p ps ih =>
  intro as vs L tmps hl ha hp h
  cases as with
  |nil =>
   have:vs=[]:=List.eq_nil_of_length_eq_zero (by rw[<-hl];rfl);subst this;exact⟨h,rfl⟩
  |cons a as =>
   cases vs with
   |nil=>simp at hl
   |cons v vs =>
    have h0:=ha 0 a v rfl rfl;obtain⟨k1,k2⟩:=ih as vs ((p,a)::L) (tmps.setIfInBounds p v) (by simpa using hl) (λi a v h1 h2=>ha (i+1) a v (by simpa using h1) (by simpa using h2)) (λq hq=>by simpa using hp q (List.mem_cons_of_mem _ hq)) (λt=>by
     rw[Xk0 (hp p List.mem_cons_self)];by_cases ht:t=p
     ·subst ht;rw[if_pos rfl];have:fr ((t,a)::L) t=a:=by simp[fr]
      rw[this];exact h0
     ·rw[if_neg ht];have:fr ((p,a)::L) t=fr L t:=by
       have hb:Nat.beq t p=false:=by rw[<-Bool.not_eq_true,Nat.beq_eq];exact ht
       simp[fr,hb]
      rw[this];exact h t)
    exact⟨k1,by simpa using k2⟩
def asgQ (P:Program) (nt n:Nat) (body:Code) (RQ:Xx->St->Mu->Prop):Xx->St->Mu->Prop:=λe s μ=>e=.normal/\μ=[]/\X4a P nt n body RQ s []
theorem X2.asg {P:Program} {nt n:Nat} {body:Code} {RQ:Xx->St->Mu->Prop} {s:St} (h:X2 P nt n RQ (.code body) [] s []):X2 P nt n (asgQ P nt n body RQ) (.exit .normal) [] s [] :=
 Cl.mk ⟨rfl,rfl,X4a.ofCl h⟩
theorem Xpi {μ:Mu} {b:Nat} {r:Loop} {nt m:Nat} {A:Nat->AV} (h:(b,.loop r nt m A)∈μ):Xgi μ=false:=by
 induction μ with
 |nil=>cases h
 |cons p μ ih =>
  obtain⟨q,x⟩:=p;rcases List.mem_cons.1 h with h|h2
  ·cases h;rfl
  ·cases x with
   |loop=>rfl
   |mark=>exact ih h2
   |map=>exact ih h2
   |blk=>exact ih h2
def rndQ (P:Program) (nt n0:Nat) (Q:Xx->St->Mu->Prop) (ops:Array Oper) (l:List Oper) (K:List Kn) (L:List (Nat×AV)) (d:Option Nat) (μ:Mu):Xx->St->Mu->Prop :=
 λe s _=>e=.normal/\X2 P nt n0 Q (.ops ops l) K ⟨Xbw (fr L) d (.sc (.bool true)),s.H,s.n⟩ μ
theorem X2.rndEnd {P:Program} {nt n0 nt' n1:Nat} {Q:Xx->St->Mu->Prop} {ops:Array Oper} {l:List Oper} {K:List Kn} {L L1:List (Nat×AV)} {d:Option Nat} {μ μ1:Mu} {G:List (Nat×Obj)} {n:Nat}
  (h:X2 P nt n0 Q (.ops ops l) K ⟨fr (Xxm d (.sc (.bool true)) L),hp G,n⟩ μ):X2 P nt' n1 (rndQ P nt n0 Q ops l K L d μ) (.exit .normal) [] ⟨fr L1,hp G,n⟩ μ1 :=
 Cl.mk ⟨rfl,by show X2 P nt n0 Q (.ops ops l) K ⟨Xbw (fr L) d (.sc (.bool true)),hp G,n⟩ μ;rw[<-X69];exact h⟩
theorem X2.yield {P:Program} {nt n0 n b ntc m:Nat} {Q:Xx->St->Mu->Prop} {ops:Array Oper} {l:List Oper} {o:Oper} {K:List Kn} {L Lc:List (Nat×AV)} {G:List (Nat×Obj)} {μ:Mu} {x:Operand} {args:Array Operand} {ts:Array Nat} {r:Loop}
  {as:List AV} {qx qa:List Prop} {ps:Array Nat} {assign body:Code} (ho:o.op=.call { callee:=.value x,args:=args,argTypes:=ts }) (hg:o.guard=none) (hd:Xi1 nt o.dst=true)
  (hx:rd L x=(.sc (.func (.yield b) #[] #[]),qx)) (ha:rds L args.toList=(as,qa)) (hqx:X48 qx) (hqa:X48 qa)
  (hμ:(b,.loop r ntc m (fr Lc))∈μ) (h1:r.state=.ready) (h2:r.pending=none) (h3:r.params=ps) (h4:r.assign=assign) (h5:r.body=body)
  (hps:(Nat.beq as.length ps.size&&ps.toList.all λp=>Nat.blt p ntc)=true) (ht:(X6r assign||X6r body)=false)
  (h:X2 P ntc n (asgQ P ntc n body (rndQ P nt n0 Q ops l K L o.dst μ)) (.code assign) [] ⟨fr (zipL ps.toList as Lc),hp G,n⟩ []):X2 P nt n0 Q (.ops ops (o::l)) K ⟨fr L,hp G,n⟩ μ:=by
 subst h3 h4 h5;simp only[Bool.and_eq_true,Nat.beq_eq,List.all_eq_true,Nat.blt_eq] at hps;obtain⟨hp1,hp2⟩:=hps;simp only[Bool.or_eq_false_iff] at ht;intro c0 H0 c act g hm Qx hQ R hR
 cases R with
 |none=>rw[Xpi hμ] at hR;exact absurd (hR rfl) (by simp)
 |some R =>
 refine X4e λK' hK'=>?_;rw[if_pos (by simp[Region.wanted,hg])];obtain⟨⟨hrec,hsz⟩,hmn,hAok,hA⟩:=hm.is _ hμ;obtain⟨w1,w2,w3,w4⟩:=hm.away _ hμ;have haw:Xvi c (hp G) b:=⟨w1,w2,w3⟩;have hlt:b<c.w.heap.size:=(Array.getElem?_eq_some_iff.1 hrec).1;have ex:act.eval x=.func (.yield b) #[] #[]:=by have:=g.ev x;rw[show evA (St.A ⟨fr L,hp G,n⟩) x=_ from X0w hx hqx] at this;exact this.sc_inv
 have hargs:args.toList.map (evA (fr L))=as:=Xew ha hqa;have hlen:as.length=args.size:=by rw[<-hargs];simp
 have hy:=run_yield (P:=P) (args:=args.map act.eval) hrec (by rw[Array.size_map,<-hlen];exact hp1);have hrun:(execOp act.eval o).run P c.w=.ok (.round b r.fn ((r.params.zip (args.map act.eval)).foldl (λtmps (t,a)=>tmps.setIfInBounds t a) r.tmps) r.assign r.body) c.w:=by
  simp only[execOp,ho,resolve,ex,Deferred.ofValue,Sem.run_bind,Sem.run_pure,Result.andThen_ok,invoke,Array.empty_append,Array.append_empty];exact hy
 show Oper.wpIn (FR R) 0 P o act c.w K' Qx;refine⟨λ_ _=>trivial,?_⟩;rw[Oper.semAt_eq _ _ _ (λd hd=>by rw[hd] at ho;cases ho),hrun,Oper.uponIn_round];refine⟨λh=>Bool.noConfusion h,roundIn_of_wpIn trivial ?_⟩;have hz:(r.params.zip (args.map act.eval)).foldl (λtmps (t,a)=>tmps.setIfInBounds t a) r.tmps=(r.params.toList.zip (args.toList.map act.eval)).foldl (λt (p,v)=>t.setIfInBounds p v) r.tmps:=by
  rw[<-Array.foldl_toList];simp
 have hzip:=Xvj (c:=c) (n:=n) r.params.toList as (args.toList.map act.eval) Lc r.tmps (by rw[<-hargs];simp) (λi a v h1 h2=>by
   rw[<-hargs,List.getElem?_map] at h1;rw[List.getElem?_map] at h2
   cases hq:args.toList[i]? with
   |none=>simp[hq] at h1
   |some q =>
    simp only[hq,Option.map_some,Option.some.injEq] at h1 h2;subst h1 h2;exact⟨g.ev q,g.evOk q⟩) (λp hp=>by rw[hsz];exact hp2 p hp) (λt=>⟨hA t,(hAok t).mono λq hq=>Nat.lt_of_lt_of_le hq (Nat.le_trans hmn g.le0)⟩)
 rw[<-hz] at hzip;have gB:X40 ntc c (hp G) n c ⟨fr (zipL r.params.toList as Lc),hp G,n⟩ { tmps:=(r.params.zip (args.map act.eval)).foldl (λtmps (t,a)=>tmps.setIfInBounds t a) r.tmps,defers:=[] } :=
  ⟨g.inv,g.solo,λt=>(hzip.1 t).1,λt=>(hzip.1 t).2,hzip.2.trans hsz,.refl _ _ _,Nat.le_refl _⟩
 refine wpIn_mono (X4a.ofCl h c (hp G) c _ gB (.nil rfl) (some b) (λh=>by rw[ht.1] at h;cases h)) ?_;rintro e a1 w' ⟨c1,s1,ae,μ1,rfl,g1,hm1,rfl,rfl,rfl,hbody⟩;have hrec1:c1.w.heap[b]?=some (.loop r):=(g1.reach.block b hlt haw.ob).trans hrec;refine⟨_,run_beginRound hrec1 h1,?_⟩;have aw1:Xvi c1 s1.H b:=haw.kept hlt g1.reach;obtain⟨g1',_⟩:=g1.turn0 (.loop { r with state:=.busy }) aw1;refine wpIn_mono (hbody _ s1.H _ a1 g1' (.nil hm1.ds) (some b) (λh=>by rw[ht.2] at h;cases h)) ?_;rintro e a2 w' ⟨c2,s2,ae,μ2,rfl,g2,hm2,rfl,rfl,hk⟩;have hlt1:b<c1.w.heap.size:=(Array.getElem?_eq_some_iff.1 hrec1).1;have hrec2:c2.w.heap[b]?=some (.loop { r with state:=.busy }) :=
  (g2.reach.block b (by show b<(c1.w.putObj b _).heap.size;rw[World.putObj_size];exact hlt1) aw1.ob).trans (World.putObj_heap_same hlt1)
 have hr:({ r with state:=.ready,pending:=none }:Loop)=r:=by
  obtain⟨st,pe,fn,tm,pa,asg,bd,de⟩:=r;simp only at h1 h2;subst h1 h2;rfl
 have hend:=run_endRound (P:=P) none hrec2;simp only[Option.isNone_none,if_true] at hend;rw[hr] at hend;refine⟨_,_,hend,?_⟩;have aw2:Xvi c2 s2.H b:=(Xvi.mk aw1.sa aw1.so aw1.ob:Xvi { c1 with w:=c1.w.putObj b (.loop { r with state:=.busy }) } s1.H b).kept (by show b<(c1.w.putObj b _).heap.size;rw[World.putObj_size];exact hlt1) g2.reach;obtain⟨g3,_⟩:=g2.turn0 (.loop r) aw2;have rt:Reach c (hp G) n { c2 with w:=c2.w.putObj b (.loop r) } s2.H:=Reach.turnBack g1.reach g2.reach hrec haw;have gf:=g.next (X92 hd) rt.le rt.sa rt.so2 rt.fr rt.own g3.inv g3.solo g3.le0 (a:=.sc (.bool true)) (v:=.bool true) .sc .sc;exact hK' _ _ (hk c0 H0 _ _ gf (hm.kept (rt.weaken g.le0)) Qx hQ (some R) (λh=>by cases h))
def Xhi:Code->List (Array Nat×Code×Code)
 |.loop b=>Xhi b
 |.seq a b=>Xhi a++Xhi b
 |.block _ c=>Xhi c
 |.scope c=>Xhi c
 |.cond _ a b=>Xhi a++Xhi b
 |.rangeFunc _ ps a b=>(ps,a,b)::(Xhi a++Xhi b)
 |_=>[]
def rfB (i:Nat) (c:Code):Array Nat×Code×Code:=((Xhi c)[i]?).getD (#[],.skip,.skip)
def Xht (slots:List Nat) (L:List (Nat×AV)):List (Nat×AV):=slots.map λt=>(t,fr L t)
theorem Xoi (L:List (Nat×AV)):∀ (slots:List Nat) (t:Nat),fr (Xht slots L) t=fr L t\/fr (Xht slots L) t=.junk:=by
 intro slots
 induction slots with
 |nil=>intro t;exact .inr rfl
 |cons q r ih =>
  intro t;show fr ((q,fr L q)::Xht r L) t=_\/fr ((q,fr L q)::Xht r L) t=_;simp only[fr]
  cases hb:Nat.beq t q with
  |true=>rw[Nat.eq_of_beq_eq_true hb];exact .inl rfl
  |false=>exact ih t
theorem X2.keepL {P:Program} {nt n0 n:Nat} {Q:Xx->St->Mu->Prop} {cf:Cf} {K:List Kn} {L:List (Nat×AV)} {G:List (Nat×Obj)} {μ:Mu} (slots:List Nat) (h:X2 P nt n0 Q cf K ⟨fr (Xht slots L),hp G,n⟩ μ):X2 P nt n0 Q cf K ⟨fr L,hp G,n⟩ μ:=by
 refine X2.sub (s':=⟨fr (Xht slots L),hp G,n⟩) (λc0 H0 c act μ g hm=>⟨⟨g.inv,g.solo,λt=>?_,λt=>?_,g.size,g.reach,g.le0⟩,hm⟩) h
 ·rcases Xoi L slots t with h|h
  ·show X0t c false (fr (Xht slots L) t) _;rw[h];exact g.frame t
  ·show X0t c false (fr (Xht slots L) t) _;rw[h];exact .junk
 ·rcases Xoi L slots t with h|h
  ·show(fr (Xht slots L) t).Ok _;rw[h];exact g.ok t
  ·show(fr (Xht slots L) t).Ok _;rw[h];exact .junk
def rfQ (P:Program) (nt n0:Nat) (Q:Xx->St->Mu->Prop) (K:List Kn) (L:List (Nat×AV)) (μ:Mu) (D:Nat) (μi:Mu):Xx->St->Mu->Prop :=
 λe s μ'=>(∀ id,e≠.exit id)/\μ'=μi/\X2 P nt n0 Q (.exit .normal) K ⟨fr L,s.H,s.n⟩ ((D,.mark)::μ)
theorem X2.rfEnd {P:Program} {nt n0 nt' n1:Nat} {Q:Xx->St->Mu->Prop} {K:List Kn} {L L1:List (Nat×AV)} {μ μi:Mu} {D:Nat} {G:List (Nat×Obj)} {n:Nat} {e:Xx} (he:∀ id,e≠.exit id)
  (h:X2 P nt n0 Q (.exit .normal) K ⟨fr L,hp G,n⟩ ((D,.mark)::μ)):X2 P nt' n1 (rfQ P nt n0 Q K L μ D μi) (.exit e) [] ⟨fr L1,hp G,n⟩ μi :=
 Cl.mk ⟨he,rfl,h⟩
theorem X40.alloc {nt n0:Nat} {c0 c:Ctx} {H0:X08} {s:St} {act:Act} (o:Go.Obj) (g:X40 nt c0 H0 n0 c s act):X40 nt c0 H0 n0 { c with w:=c.w.alloc o } s act:=by
 obtain⟨h1,h2,h3⟩:=g.inv.waste (w':=c.w.alloc o) o rfl rfl rfl ⟨rfl,Nat.le_refl _⟩;have:=g.next (c':={ c with w:=c.w.alloc o }) (dst:=none) (a:=.sc undef) (v:=undef) (λd h=>by cases h) h1 rfl (λb hb=>.inl hb) h3 (λq x hx=>.inr ⟨q,x,hx,rfl⟩) h2 g.solo (Nat.le_refl _) .sc .sc;exact this
theorem X2.rangeFunc {P:Program} {nt n0 n gf nti:Nat} {Q:Xx->St->Mu->Prop} {K:List Kn} {L:List (Nat×AV)} {G:List (Nat×Obj)} {μ:Mu} {g:Operand} {ps:Array Nat} {assign body codeI:Code} {fnI:Func} {caps:List AV} {q:List Prop}
  (hg:rd L g=(.fn gf caps,q)) (hq:X48 q) (hfn:X1m P gf fnI codeI) (hnt:fnI.ntmps=nti) (hle:Nat.ble (caps.length+1) nti=true) (hres:fnI.results=#[])
  (h:∀ (b D:Nat) (r:Loop),r.state=.ready->r.pending=none->r.params=ps->r.assign=assign->r.body=body ->
   X2 P nti n (rfQ P nt n0 Q K L μ D [(b,.loop r nt n (fr L)),(D,.blk (.deferred (some [])))]) (.code codeI) [] ⟨fr (argL 0 (.sc (.func (.yield b) #[] #[])::caps)),hp G,n⟩ [(b,.loop r nt n (fr L)),(D,.blk (.deferred (some [])))]) :
  X2 P nt n0 Q (.code (.rangeFunc g ps assign body)) K ⟨fr L,hp G,n⟩ μ:=by
 intro c0 H0 c act gd hm R hR;obtain rfl:=hR rfl;have hv:=gd.ev g;rw[show evA (St.A ⟨fr L,hp G,n⟩) g=_ from X0w hg hq] at hv;have hvo:=gd.evOk g;rw[show evA (St.A ⟨fr L,hp G,n⟩) g=_ from X0w hg hq] at hvo;obtain⟨cv,hcv,hcl,hcr⟩:=hv.fn_inv;refine wpIn_rangeFunc ?_;intro fn _;let D:=c.w.heap.size
 let b:=c.w.heap.size+1
 let rec0:Loop:={ state:=.ready,pending:=none,fn,tmps:=act.tmps,params:=ps,assign,body,defers:=c.w.heap.size }
 let W1:World:=(c.w.alloc (.deferred (some []))).alloc (.loop rec0)
 let c1:Ctx:={ c with w:=W1 }
 have hL1:W1.heap[b]?=some (.loop rec0):=by
  have:=World.alloc_heap_new (c.w.alloc (.deferred (some []))) (.loop rec0);rwa [World.size_alloc] at this
 have hK1:W1.heap[D]?=some (.deferred (some [])):=(RowKit.Below.heap_alloc _ _ _ (by simp[D])).trans (World.alloc_heap_new c.w _);have hs1:W1.heap.size=c.w.heap.size+2:=by simp[W1]
 have g1:X40 nt c (hp G) n0 c1 ⟨fr L,hp G,n⟩ act:=(gd.rebase.alloc (.deferred (some []))).alloc (.loop rec0);have hold:∀ k,k<c.w.heap.size->W1.heap[k]?=c.w.heap[k]?:=λk hk=>(RowKit.Below.heap_alloc _ _ _ (by simp;omega)).trans (RowKit.Below.heap_alloc _ _ _ hk);have r1:Reach c (hp G) n c1 (hp G):=⟨λ_ _=>rfl,rfl,rfl,⟨rfl,Nat.le_refl _⟩,by show c.w.heap.size<=W1.heap.size;omega,λk hk _=>hold k hk,λk hk=>hold k (gd.inv.lt k hk),rfl,λ_ h=>h,λ_ h=>.inl h,rfl,λo x hx=>.inr ⟨o,x,hx,rfl⟩⟩;have hob:∀ o x,hp G o=some x->(c.ρ o).blk<c.w.heap.size:=λo x hx=>by
  obtain⟨_,⟨⟨cur,hcb,_⟩,_⟩,_⟩:=gd.inv.obj o x hx;exact(Array.getElem?_eq_some_iff.1 hcb).1
 let vs:Array Value:=#[.func (.yield b) #[] #[]]++cv
 have hvs:vs.size=caps.length+1:=by simp[vs,<-hcl];omega
 have gI:X40 nti c (hp G) n c1 ⟨fr (argL 0 (.sc (.func (.yield b) #[] #[])::caps)),hp G,n⟩ { tmps:=vs++Array.replicate (fnI.ntmps - vs.size) undef,defers:=[] }:=by
  have hrel:Xhd c1 false (.sc (.func (.yield b) #[] #[])::caps) vs:=by
   refine⟨by rw[hvs];simp,λi a v ha hv=>?_⟩
   cases i with
   |zero =>
    have hv':vs[0]?=some (.func (.yield b) #[] #[]):=by simp only[vs];rw[Array.getElem?_append_left (by simp)];rfl
    rw[hv'] at hv;simp only[List.getElem?_cons_zero,Option.some.injEq] at ha hv;subst ha hv;exact .sc
   |succ i =>
    have hv':cv[i]?=some v:=by
     simp only[vs] at hv;rw[Array.getElem?_append_right (by simp)] at hv;simpa using hv
    simp only[List.getElem?_cons_succ] at ha;refine(hcr i a v ha hv').mono r1.le (.inr ?_)
    cases hvo with|fn hvo=>exact hvo a (List.mem_of_getElem? ha)
  have hok:∀ a∈(.sc (.func (.yield b) #[] #[])::caps:List AV),a.Ok (·<n):=by
   intro a ha;rcases List.mem_cons.1 ha with rfl|ha
   ·exact .sc
   ·cases hvo with|fn hvo=>exact hvo a ha
  have:X40 nti c (hp G) n c1 ⟨Xvh (.sc (.func (.yield b) #[] #[])::caps),hp G,n⟩ { tmps:=vs++Array.replicate (fnI.ntmps - vs.size) undef,defers:=[] } :=
   ⟨g1.inv,g1.solo,λt=>Xek hrel _ t,λt=>Xo4 hok t,by have:=Nat.le_of_ble_eq_true hle;simp only[Array.size_append,Array.size_replicate];omega,r1,Nat.le_refl _⟩
  exact this.argL
 have mI:MOk n c c1 (hp G) [(b,.loop rec0 nt n (fr L)),(D,.blk (.deferred (some [])))] { tmps:=vs++Array.replicate (fnI.ntmps - vs.size) undef,defers:=[] }:=by
  refine⟨λp hp=>?_,λp hp=>?_,by simp[b,D],rfl⟩
  ·simp only[List.mem_cons,List.not_mem_nil,or_false] at hp;rcases hp with rfl|rfl
   ·exact⟨⟨hL1,gd.size⟩,Nat.le_refl _,λt=>gd.ok t,λt=>g1.frame t⟩
   ·exact hK1
  ·simp only[List.mem_cons,List.not_mem_nil,or_false] at hp;have key:∀ k,c.w.heap.size<=k->¬ c1.Sa k/\¬ c1.So k/\(∀ o x,Av.hp G o=some x->(c1.ρ o).blk≠k)/\c.w.heap.size<=k:=λk hk =>
    ⟨λhs=>by have:=gd.inv.lt k (.inl hs);omega,λhs=>by have:=gd.inv.lt k (.inr hs);omega,λo x hx e=>by have h1:=hob o x hx;have h2:(c.ρ o).blk=k:=e;omega,hk⟩
   rcases hp with rfl|rfl
   ·exact key b (by simp[b])
   ·exact key D (Nat.le_refl _)
 refine⟨b,[{ target:=.collected D,args:=#[] }],W1,{ target:=.fn (.func gf) cv,args:=#[.func (.yield b) #[] #[]] },W1,gf,vs,W1,run_enterLoop_outer _ _ _ _ _,?_,λ_ _=>trivial,?_,λh=>Bool.noConfusion h,?_⟩
 ·simp only[resolve,hcv];simp[go_sem]
 ·simp only[invoke,callFunc,Sem.run_bind,run_program,Result.andThen_ok,hfn.here,hfn.name,hfn.body,Option.isNone_some,Bool.false_eq_true,if_false];rfl
 refine callsIn_of_wp hfn.here hfn.body trivial ?_ rfl;refine wpIn_mono (X4a.ofCl (h b D rec0 rfl rfl rfl rfl rfl) c (hp G) c1 _ gI mI none .none) ?_;rintro e a w' ⟨c2,s2,ae,μ2,rfl,g2,hm2,rfl,hne,rfl,hk⟩;have hds:a.defers=[]:=hm2.ds;have fin:a.defers=[]/\∃ v,(results fnI a.tmps).run P c2.w=.ok v c2.w/\rangePost (FR none) 0 P b (MQ nt c0 H0 n0 (Xaz P nt n0 Q K)) { act with defers:=[{ target:=.collected D,args:=#[] }]++act.defers } (.returned v) c2.w:=by
  obtain⟨⟨hrec,_⟩,_⟩:=hm2.is (b,.loop rec0 nt n (fr L)) (by simp);have hDk:c2.w.heap[D]?=some (.deferred (some [])):=hm2.is (D,.blk (.deferred (some []))) (by simp);obtain⟨x1,x2,x3,x4⟩:=hm2.away (b,.loop rec0 nt n (fr L)) (by simp);obtain⟨y1,y2,y3,y4⟩:=hm2.away (D,.blk (.deferred (some []))) (by simp);obtain⟨g3,hle3⟩:=g2.turn (.loop { rec0 with state:=.exhausted }) x1 x2 x3 x4;refine⟨hds,.tuple #[],by simp[results,hres,go_sem],?_⟩;refine⟨none,_,run_endLoop hrec (by simp[rec0]),?_⟩;have rt:=g3.reach;have gc:=gd.next (dst:=none) (a:=.sc undef) (v:=undef) (λd h=>by cases h) rt.le rt.sa rt.so2 rt.fr rt.own g3.inv g3.solo g3.le0 .sc .sc;have gc2:X40 nt c0 H0 n0 { c2 with w:=c2.w.putObj b (.loop { rec0 with state:=.exhausted }) } ⟨fr L,s2.H,s2.n⟩ { act with defers:=[{ target:=.collected D,args:=#[] }]++act.defers } :=
   ⟨gc.inv,gc.solo,gc.frame,gc.ok,gc.size,gc.reach,gc.le0⟩
  have hmk:=hm.kept (rt.weaken gd.le0) (act':=act) rfl;refine⟨_,⟨fr L,s2.H,s2.n⟩,.normal,(D,.mark)::μ,rfl,gc2,⟨λp hp=>?_,λp hp=>?_,?_,?_⟩,rfl,hk⟩
  ·rcases List.mem_cons.1 hp with rfl|hp
   ·exact(World.putObj_heap_other (by simp[b,D])).trans hDk
   ·exact hmk.is p hp
  ·rcases List.mem_cons.1 hp with rfl|hp
   ·exact⟨y1,y2,y3,Nat.le_trans gd.reach.size y4⟩
   ·exact hmk.away p hp
  ·refine List.nodup_cons.2 ⟨λhmem=>?_,hm.nodup⟩;obtain⟨p,hp,he⟩:=List.mem_map.1 hmem;have:=(hm.is p hp).lt;simp only[D] at he;omega
  ·show[_]++act.defers=_::dsOf μ;rw[hm.ds];rfl
 cases ae with
 |exit id=>exact(hne id rfl).elim
 |normal=>exact fin
 |ret=>exact fin
end Go.Av


namespace Go.Av
def StTo (nt n0:Nat) (s s':St):Prop:=∀ (c0:Ctx) (H0:X08) (c:Ctx) (act:Act) (μ:Mu),X40 nt c0 H0 n0 c s act->MOk n0 c0 c s.H μ act->∃ c',c'.w=c.w/\X40 nt c0 H0 n0 c' s' act/\MOk n0 c0 c' s'.H μ act
section
variable {P:Program} {nt n0:Nat} {s s':St} {Q:Xx->St->Mu->Prop} {μ:Mu}
theorem StTo.loop (hw:StTo nt n0 s s') {b:Code} (h:X7i P nt n0 b Q s' μ):X7i P nt n0 b Q s μ:=by
 intro c0 H0 c act g hm R hR;obtain⟨c',hc,g',hm'⟩:=hw c0 H0 c act μ g hm;have:=h c0 H0 c' act g' hm' R hR
 rwa [hc] at this
theorem StTo.semM (hw:StTo nt n0 s s') {c:Code} (h:X4a P nt n0 c Q s' μ):X4a P nt n0 c Q s μ:=by
 intro c0 H0 c act g hm R hR;obtain⟨c',hc,g',hm'⟩:=hw c0 H0 c act μ g hm;have:=h c0 H0 c' act g' hm' R hR
 rwa [hc] at this
theorem Xaz.to (hw:StTo nt n0 s s'):∀ (K:List Kn) (e:Xx),Xaz P nt n0 Q K e s' μ->Xaz P nt n0 Q K e s μ:=by
 intro K
 induction K with
 |nil =>
  intro e h c0 H0 c act g hm;obtain⟨c',hc,g',hm'⟩:=hw c0 H0 c act μ g hm;obtain⟨c2,s2,h1,h2⟩:=h c0 H0 c' act g' hm';exact⟨c2,s2,h1.trans hc,h2⟩
 |cons k K ih =>
  intro e h
  cases k with
  |seq c =>
   cases e with
   |normal=>exact hw.semM h
   |exit i=>exact ih _ h
   |ret=>exact ih _ h
  |block id =>
   cases e with
   |normal=>exact ih _ h
   |ret=>exact ih _ h
   |exit i =>
    have h':X6h id (Xaz P nt n0 Q K) (.exit i) s' μ:=h;show X6h id (Xaz P nt n0 Q K) (.exit i) s μ;simp only[X6h] at h' ⊢
    cases hb:Nat.beq i id with
    |true=>rw[hb,cond_true] at h';exact ih _ h'
    |false=>rw[hb,cond_false] at h';exact ih _ h'
  |loop b =>
   cases e with
   |normal=>exact hw.loop h
   |exit i=>exact ih _ h
   |ret=>exact ih _ h
theorem X2.to {cf:Cf} {K:List Kn} (hw:StTo nt n0 s s') (h:X2 P nt n0 Q cf K s' μ):X2 P nt n0 Q cf K s μ:=by
 cases cf with
 |code c=>exact hw.semM h
 |exit e=>exact Xaz.to hw K e h
 |ops ops l =>
  intro c0 H0 c act g hm Qx hQ R hR;obtain⟨c',hc,g',hm'⟩:=hw c0 H0 c act μ g hm;have:=h c0 H0 c' act g' hm' Qx hQ R hR
  rwa [hc] at this
 |loop b=>exact hw.loop h
end
def FrzC (o n:Nat) (es:List AV) (a a':AV):Prop:=a'=a\/(a=.ref o 0 n/\a'=.list true es)
def FrzE (o n:Nat) (es:List AV) (e e':AV):Prop:=e.cells.length=e'.cells.length/\∀ (k:Nat) a a',e.cells[k]?=some a->e'.cells[k]?=some a'->FrzC o n es a a'
def Xkb (o n:Nat) (es l l':List AV):Prop:=l.length=l'.length/\∀ (i:Nat) e e',l[i]?=some e->l'[i]?=some e'->FrzE o n es e e'
theorem Xli {o n:Nat} {es:List AV} {e:AV}:FrzE o n es e e:=⟨rfl,λk a a' h h'=>.inl (by rw[h] at h';exact(Option.some.inj h').symm)⟩
theorem Xou {o n:Nat} {es l:List AV}:Xkb o n es l l:=⟨rfl,λi e e' h h'=>by rw[h] at h';cases h';exact Xli⟩
theorem Xzu {o n:Nat} {es:List AV}:Xkb o n es [] []:=Xou
theorem Xx0 {o n:Nat} {es l l':List AV} {e e':AV} (h:FrzE o n es e e') (t:Xkb o n es l l'):Xkb o n es (e::l) (e'::l'):=by
 refine⟨by simp[t.1],λi a b ha hb=>?_⟩
 cases i with
 |zero=>simp at ha hb;subst ha hb;exact h
 |succ i=>simp at ha hb;exact t.2 i a b ha hb
theorem Xov {o n m:Nat} {es:List AV} (h:m=n):FrzE o n es (.ref o 0 m) (.list true es):=by
 subst h;refine⟨rfl,λk a a' ha ha'=>?_⟩
 cases k with
 |zero=>simp[AV.cells] at ha ha';subst ha ha';exact .inr ⟨rfl,rfl⟩
 |succ k=>simp[AV.cells] at ha
def FrzV (o n:Nat) (es:List AV) (a a':AV):Prop:=FrzC o n es a a'\/∃ cs cs',a=.agg cs/\a'=.agg cs'/\cs.length=cs'.length/\∀ (k:Nat) b b',cs[k]?=some b->cs'[k]?=some b'->FrzC o n es b b'
def Xzw (o:Nat) (es:List AV) (a:AV):AV:=match a with
 |.ref q off len=>bif Nat.beq q o then .list true es else .ref q off len
 |a=>a
def Xlh (o:Nat):List AV->Bool
 |[]=>false
 |.ref q _ _::r=>bif Nat.beq q o then true else Xlh o r
 |_::r=>Xlh o r
def frzA (o:Nat) (es:List AV) (a:AV):AV:=match a with
 |.ref q off len=>bif Nat.beq q o then .list true es else .ref q off len
 |.agg cs=>bif Xlh o cs then .agg (cs.map (Xzw o es)) else a
 |a=>a
def Xk2 (o n:Nat) (a:AV):Prop:=match a with
 |.ref q off len=>bif Nat.beq q o then (off=0/\len=n) else True
 |_=>True
def Xtk (o n:Nat):List AV->Prop
 |[]=>True
 |a::r=>Xk2 o n a/\Xtk o n r
def Xtl (o n:Nat) (a:AV):Prop:=match a with
 |.ref q off len=>bif Nat.beq q o then (off=0/\len=n) else True
 |.agg cs=>bif Xlh o cs then Xtk o n cs else True
 |_=>True
theorem Xtn {o n:Nat} {es:List AV} {a:AV} (h:Xk2 o n a):FrzC o n es a (Xzw o es a):=by
 unfold Xzw;split
 ·rename_i q off len;simp only[Xk2] at h
  cases hqo:Nat.beq q o with
  |false=>rw[cond_false];exact .inl rfl
  |true =>
   rw[hqo,cond_true] at h;obtain rfl:=Nat.eq_of_beq_eq_true hqo;obtain⟨rfl,rfl⟩:=h;rw[cond_true];exact .inr ⟨rfl,rfl⟩
 ·exact .inl rfl
theorem Xqy {o n:Nat}:∀ {cs:List AV},Xtk o n cs->∀ (k:Nat) b,cs[k]?=some b->Xk2 o n b:=by
 intro cs
 induction cs with
 |nil=>intro _ k b h;simp at h
 |cons a r ih =>
  rintro⟨h1,h2⟩ k b hb
  cases k with
  |zero=>simp at hb;subst hb;exact h1
  |succ k=>simp at hb;exact ih h2 k b hb
def Xgz (slots:List Nat) (o:Nat) (es:List AV) (L:List (Nat×AV)):List (Nat×AV):=slots.map λt=>(t,frzA o es (fr L t))
def Xk1 (o n:Nat) (L:List (Nat×AV)):List Nat->Prop
 |[]=>True
 |t::r=>Xtl o n (fr L t)/\Xk1 o n L r
def Xzv (G:List (Nat×Obj)) (o n:Nat) (es:List AV):List (Nat×Obj)->Prop
 |[]=>True
 |(q,x')::r=>(Nat.beq q o=false/\wkG1 x'.gone (∃ x,hp G q=some x/\x'.esz=x.esz/\x'.solo=true/\x'.spent=false/\Xkb o n es x.es x'.es))/\Xzv G o n es r
theorem Xqx {o n:Nat} {es:List AV} {L:List (Nat×AV)}:∀ {slots:List Nat},Xk1 o n L slots->∀ t,fr (Xgz slots o es L) t=.junk\/FrzV o n es (fr L t) (fr (Xgz slots o es L) t):=by
 intro slots
 induction slots with
 |nil=>intro _ t;exact .inl rfl
 |cons q r ih =>
  rintro⟨h1,h2⟩ t;have he:fr (Xgz (q::r) o es L) t=bif Nat.beq t q then frzA o es (fr L q) else fr (Xgz r o es L) t:=rfl
  cases hb:Nat.beq t q with
  |false=>rw[he,hb,cond_false];exact ih h2 t
  |true =>
   obtain rfl:=Nat.eq_of_beq_eq_true hb;rw[he,hb,cond_true];refine .inr ?_;unfold frzA;split
   ·rename_i q off len hq;rw[hq];simp only[Xtl,hq] at h1;exact .inl (Xtn (a:=.ref q off len) h1)
   ·rename_i cs hq;simp only[Xtl,hq] at h1
    cases hh:Xlh o cs with
    |false=>rw[cond_false];exact .inl (.inl rfl)
    |true =>
     rw[hh,cond_true] at h1;rw[cond_true];refine .inr ⟨cs,_,hq,rfl,by simp,λk b b' hk hk'=>?_⟩;rw[List.getElem?_map,hk] at hk';simp only[Option.map_some,Option.some.injEq] at hk';subst hk';exact Xtn (Xqy h1 k b hk)
   ·exact .inl (.inl rfl)
theorem Xtm {G:List (Nat×Obj)} {o n:Nat} {es:List AV}:∀ {G':List (Nat×Obj)},Xzv G o n es G'->∀ q x',hp G' q=some x'->q≠o/\∃ x,hp G q=some x/\x'.esz=x.esz/\x'.solo=true/\x'.spent=false/\Xkb o n es x.es x'.es:=by
 intro G'
 induction G' with
 |nil=>intro _ q x' h;cases h
 |cons p r ih =>
  obtain⟨d,y⟩:=p;rintro⟨h1,h2⟩ q x' hx;have he:hp ((d,y)::r) q=bif Nat.beq q d then (bif y.gone then none else some y) else hp r q:=rfl
  cases hb:Nat.beq q d with
  |false=>rw[he,hb,cond_false] at hx;exact ih h2 q x' hx
  |true =>
   obtain rfl:=Nat.eq_of_beq_eq_true hb;rw[he,hb,cond_true] at hx
   cases hg:y.gone with
   |true=>rw[hg] at hx;cases hx
   |false =>
    have h1b:=h1.2;rw[hg] at hx h1b;cases hx
    exact⟨(λe=>by subst e;have h3:=h1.1;rw[Nat.beq_refl] at h3;cases h3),h1b⟩
theorem Xto {nt n0 n o:Nat} {L L':List (Nat×AV)} {G G':List (Nat×Obj)} {y:Obj} (hy:hp G o=some y) (hf:∀ e∈y.es,X8o e)
  (hL:∀ t,fr L' t=.junk\/FrzV o y.es.length y.es (fr L t) (fr L' t))
  (hG:∀ q x',hp G' q=some x'->q≠o/\∃ x,hp G q=some x/\x'.esz=x.esz/\x'.solo=true/\x'.spent=false/\Xkb o y.es.length y.es x.es x'.es):StTo nt n0 ⟨fr L,hp G,n⟩ ⟨fr L',hp G',n⟩:=by
 intro c0 H0 c act μ g hm;let c':Ctx:={ c with So:=λb=>c.So b\/b=(c.ρ o).blk }
 have hle:∀ {M:Nat->Prop},c.Le M c':=⟨λ_ _=>rfl,λ_ h=>h,λ_ h=>.inl h,λ_ _=>rfl,rfl⟩;obtain⟨hoM,hor,hok⟩:=g.inv.obj o y hy;have hblk:(c.ρ o).blk<c.w.heap.size:=by
  obtain⟨⟨cur,hb,_⟩,_⟩:=hor;exact(Array.getElem?_eq_some_iff.1 hb).1
 let Hr:X08:=λq=>if q=o then some y else none
 have hIr:Inv c Hr (·<n):=by
  refine g.inv.forget (λq x hx=>?_) (λq q' x x' hx hx' hne hb=>?_)
  ·by_cases hq:q=o
   ·have hx2:y=x:=by simpa[Hr,hq] using hx
    exact⟨y,by rw[hq];exact hy,by rw[hx2],by rw[hx2],λh=>by rw[hx2];exact h⟩
   ·simp[Hr,hq] at hx
  ·exfalso;by_cases hq:q=o
   ·by_cases hq':q'=o
    ·exact hne (hq.trans hq'.symm)
    ·simp[Hr,hq'] at hx'
   ·simp[Hr,hq] at hx
 have hcv:Cv true Hr (.ref o 0 y.es.length) (.list true y.es):=by
  refine .ref (x:=y) (by simp[Hr]) om rfl (λi e e' he he'=>?_) (λi e e' k a b he he' ha hb=>?_)
  ·rw[Nat.zero_add] at he;rw[he] at he';cases he';rfl
  ·rw[Nat.zero_add] at he;rw[he] at he';cases he';rw[ha] at hb;cases hb;obtain⟨v,rfl⟩:=hf e (List.mem_of_getElem? he) a (List.mem_of_getElem? ha);exact .sc
 have hfrz:∀ {v:Value},X0t c false (.ref o 0 y.es.length) v->X0t c' false (.list true y.es) v:=λ{v} hv =>
  (X008 hIr (c':=c') rfl (λb hb=>hb.elim (λh=>.inl ⟨rfl,h⟩) (λh=>.inr (.inl h))) (λ_ b hb=>.inl hb) (λq x hx=>by
   by_cases hq:q=o
   ·subst hq;exact .inr (.inr rfl)
   ·simp[Hr,hq] at hx) hcv hv).shallow
 have hsep:∀ q x,hp G q=some x->q≠o->(c.ρ q).blk≠(c.ρ o).blk:=λq x hx hne hb=>by
  have:=(g.inv.sep q o x y hx hy hne hb).1;rw[(g.solo q x hx).1] at this;cases this
 have hcell:∀ {a a':AV} {v:Value},FrzC o y.es.length y.es a a'->X0t c false a v->a.Ok (·<n)->X0t c' false a' v/\a'.Ok (·<n):=by
  rintro a a' v (rfl|⟨rfl,rfl⟩) hv hk
  ·exact⟨hv.mono (M:=(·<n)) hle (.inr hk),hk⟩
  ·exact⟨hfrz hv,.list⟩
 have gI:Inv c' (hp G') (·<n):=by
  refine⟨λq x' hx'=>?_,λq q' x1 x2 h1 h2 hne hb=>?_,λq x' hx'=>?_,λb hb=>?_,g.inv.base,λb hb=>?_,λq x' hx'=>?_⟩
  ·obtain⟨hne,x,hx,hz,_,_,hF⟩:=hG q x' hx';obtain⟨i1,⟨⟨cur,hb,hs,hc⟩,i3,i4,i5⟩,i6⟩:=g.inv.obj q x hx;have hget:∀ (i:Nat) e',x'.es[i]?=some e'->∃ e,x.es[i]?=some e/\FrzE o y.es.length y.es e e':=λi e' he'=>by
    have hlt:i<x.es.length:=by rw[hF.1];exact(List.getElem?_eq_some_iff.1 he').1
    exact⟨_,List.getElem?_eq_getElem hlt,hF.2 i _ e' (List.getElem?_eq_getElem hlt) he'⟩
   refine⟨i1,⟨⟨cur,hb,hs,λi e' he'=>?_⟩,by rw[<-hF.1];exact i3,i4,by rw[hz];exact i5⟩,λe' he' a' ha'=>?_⟩
   ·obtain⟨e,he,hfe⟩:=hget i e' he';obtain⟨k1,k2⟩:=hc i e he;refine⟨hfe.1.symm.trans k1,λk a' ha'=>?_⟩;have hlt:k<e.cells.length:=by rw[hfe.1];exact(List.getElem?_eq_some_iff.1 ha').1
    obtain⟨v,v1,v2,v3⟩:=k2 k _ (List.getElem?_eq_getElem hlt);exact⟨v,v1,(hcell (hfe.2 k _ a' (List.getElem?_eq_getElem hlt) ha') v2 (i6 e (List.mem_of_getElem? he) _ (List.getElem_mem hlt))).1,v3⟩
   ·obtain⟨i,hi⟩:=List.getElem?_of_mem he';obtain⟨e,he,hfe⟩:=hget i e' hi;obtain⟨k,hk⟩:=List.getElem?_of_mem ha';have hlt:k<e.cells.length:=by rw[hfe.1];exact(List.getElem?_eq_some_iff.1 hk).1
    rcases hfe.2 k _ a' (List.getElem?_eq_getElem hlt) hk with h|⟨_,h⟩
    ·rw[h];exact i6 e (List.mem_of_getElem? he) _ (List.getElem_mem hlt)
    ·rw[h];exact .list
  ·obtain⟨_,y1,hy1,_⟩:=hG q x1 h1;obtain⟨_,y2,hy2,_⟩:=hG q' x2 h2;have:=(g.inv.sep q q' y1 y2 hy1 hy2 hne hb).1;rw[(g.solo q y1 hy1).1] at this;cases this
  ·obtain⟨hne,x,hx,_⟩:=hG q x' hx';have:=g.inv.stab q x hx;exact⟨this.1,λh=>h.elim this.2 (hsep q x hx hne)⟩
  ·rcases hb with hb|hb|hb
   ·exact g.inv.lt b (.inl hb)
   ·exact g.inv.lt b (.inr hb)
   ·show b<c.w.heap.size;rw[hb];exact hblk
  ·rcases hb with hb|hb
   ·exact g.inv.own b hb
   ·show c.B<=b;rw[hb];exact g.inv.low o y hy
  ·obtain⟨_,x,hx,_⟩:=hG q x' hx';exact g.inv.low q x hx
 have r:=g.reach;refine⟨c',rfl,⟨gI,λq x' hx'=>?_,λt=>?_,λt=>?_,g.size,⟨r.rho,r.os,r.tape,r.output,r.size,r.block,r.stable,r.sa,λb hb=>.inl (r.so1 b hb),λb hb=>?_,r.B,λq x' hx'=>?_⟩,g.le0⟩,⟨λp hp=>(hm.is p hp).le rfl hle,λp hp=>?_,hm.nodup,hm.ds⟩⟩
 ·obtain⟨_,_,_,_,h1,h2,_⟩:=hG q x' hx';exact⟨h1,h2⟩
 ·show X0t c' false (fr L' t) _;rcases hL t with h|h|⟨cs,cs',h1,h2,hl,hc⟩
  ·rw[h];exact .junk
  ·exact(hcell h (g.frame t) (g.ok t)).1
  ·rw[h2];have hfv:=g.frame t;have hfo:=g.ok t;rw[show St.A ⟨fr L,hp G,n⟩ t=_ from h1] at hfv hfo
   cases hfo with
   |agg hko =>
    generalize hvv:act.tmps.getD _ undef=vv at hfv
    cases hfv with
    |agg hls hoc hrl =>
     refine .agg om hoc λi a' v ha' hv=>?_;have hlt:i<cs.length:=by rw[hl];exact(List.getElem?_eq_some_iff.1 ha').1
     exact(hcell (hc i _ a' (List.getElem?_eq_getElem hlt) ha') (hrl i _ v (List.getElem?_eq_getElem hlt) hv) (hko _ (List.getElem_mem hlt))).1
 ·show(fr L' t).Ok _;rcases hL t with h|h|⟨cs,cs',h1,h2,hl,hc⟩
  ·rw[h];exact .junk
  ·exact(hcell h (g.frame t) (g.ok t)).2
  ·rw[h2];have hfv:=g.frame t;have hfo:=g.ok t;rw[show St.A ⟨fr L,hp G,n⟩ t=_ from h1] at hfv hfo
   cases hfo with
   |agg hko =>
    refine .agg λa' ha'=>?_;obtain⟨i,hi⟩:=List.getElem?_of_mem ha';have hlt:i<cs.length:=by rw[hl];exact(List.getElem?_eq_some_iff.1 hi).1
    rcases hc i _ a' (List.getElem?_eq_getElem hlt) hi with h|⟨_,h⟩
    ·rw[h];exact hko _ (List.getElem_mem hlt)
    ·rw[h];exact .list
 ·rcases hb with hb|hb
  ·exact r.so2 b hb
  ·rw[hb];exact .inr (r.own o y hy)
 ·obtain⟨_,x,hx,_⟩:=hG q x' hx';exact r.own q x hx
 ·obtain⟨a1,a2,a3,a4⟩:=hm.away p hp;exact⟨a1,λh=>h.elim a2 (λh=>a3 o y hy h.symm),λq x' hx'=>by obtain⟨_,x,hx,_⟩:=hG q x' hx';exact a3 q x hx,a4⟩
theorem X2.freeze {P:Program} {nt n0 n:Nat} {Q:Xx->St->Mu->Prop} {cf:Cf} {K:List Kn} {L:List (Nat×AV)} {G:List (Nat×Obj)} {μ:Mu} (o:Nat) (es:List AV) (slots:List Nat) (G':List (Nat×Obj)) {y:Obj} (hy:hp G o=some y) (he:y.es=es) (hf:∀ e∈es,X8o e)
  (h:X2 P nt n0 Q cf K ⟨fr (Xgz slots o es L),hp G',n⟩ μ) (hL:Xk1 o es.length L slots) (hG:Xzv G o es.length es G'):X2 P nt n0 Q cf K ⟨fr L,hp G,n⟩ μ:=by
 subst he;exact X2.to (Xto hy hf (Xqx hL) (Xtm hG)) h
theorem Xhy {P:Prop} (h:P:=by
 first
  |exact trivial
  |rfl
  |exact⟨rfl,rfl⟩
  |(refine⟨rfl,?_⟩;first|rfl|(simp;done)|(simp;rfl)|(simp[*];done))
  |exact⟨rfl,_,rfl,rfl,rfl,rfl,Xou⟩
  |(refine⟨rfl,_,rfl,rfl,rfl,rfl,Xx0 (Xov ?_) Xzu⟩;first|rfl|(simp;done)|(simp[*];done))):P:=h
end Go.Av


namespace Go.D
end Go.D
namespace Go.Av
open Go.D
class Xbr {α:Type} (f:α->AV):Prop where
 flat:∀ x,X8o (f x)
 whole:∀ x,(f x).whole=true
 still:∀ x,X6i (f x)
instance iInt {k:IntKind}:Xbr (aI k):=⟨λ_=>Xf4,λ_=>rfl,λ_=>Xco⟩
instance X04j:Xbr aB:=⟨λ_=>Xf4,λ_=>rfl,λ_=>Xco⟩
class X023 {α:Type} (g:Bool->α->AV):Prop where
 cva:∀ {H:X08} {o:Bool} {x:α},Cv false H (g o x) (g false x)
 cvt:∀ {H:X08} {o:Bool} {x:α},Cv true H (g o x) (g o x)
 len:∀ (o o':Bool) (x:α),(g o x).cells.length=(g o' x).cells.length
 free:∀ (o:Bool) (x:α),Xat (g o x)
 still:∀ (o:Bool) (x:α),X6i (g o x)
theorem cvLf {α:Type} {f:α->AV} [i:Xbr f] {H:X08} {o:Bool} {l:List α}:Cv false H (.list o (l.map f)) (.list false (l.map f)):=Xaq (X23 i.flat l)
theorem cvLe {α:Type} {f:α->AV} [i:Xbr f] {H:X08} {o p:Bool} {l:List (List α)}:Cv false H (.list o (l.map (X14 p f))) (.list false (l.map (X14 false f))) :=
 X009 (f:=X14 p f) (g:=X14 false f) (λ_=>rfl) (λx=>Xfw (show Cv false H (.list p (x.map f)) (.list false (x.map f)) from cvLf)) l
theorem cvRe {α:Type} {f:α->AV} [i:Xbr f] (p:Bool) {H:X08} {o n:Nat} {x:Obj} {l:List (List α)} (hH:H o=some x) (he:x.es=l.map (X14 p f)) (hn:n=l.length):Cv false H (.ref o 0 n) (.list false (l.map (X14 false f))) :=
 X007 (f:=X14 p f) (g:=X14 false f) hH he hn (λ_=>rfl) (λx=>Xfw (show Cv false H (.list p (x.map f)) (.list false (x.map f)) from cvLf))
theorem cvR {α:Type} {f:α->AV} [i:Xbr f] {m:Bool} {H:X08} {o n:Nat} {x:Obj} {l:List α} (hH:H o=some x) (he:x.es=l.map f) (hn:n=(l.map f).length):Cv m H (.ref o 0 n) (.list m (l.map f)) :=
 Xlr hH he hn (X23 i.flat l)
theorem ownL {α:Type} {f:α->AV} [i:Xbr f] {l:List α}:Xhf (.list true (l.map f)):=Xsf (X23 i.flat l)
def CvE (m:Bool) (H:X08) (e e':AV):Prop:=e.cells.length=e'.cells.length/\∀ (k:Nat) a b,e.cells[k]?=some a->e'.cells[k]?=some b->Cv m H a b
def CvL (m:Bool) (H:X08) (l l':List AV):Prop:=l.length=l'.length/\∀ (i:Nat) e e',l[i]?=some e->l'[i]?=some e'->CvE m H e e'
theorem CvL.nil {m:Bool} {H:X08}:CvL m H [] []:=⟨rfl,λi e e' h=>by simp at h⟩
theorem CvL.cons {m:Bool} {H:X08} {e e':AV} {l l':List AV} (h:CvE m H e e') (t:CvL m H l l'):CvL m H (e::l) (e'::l'):=by
 refine⟨by simp[t.1],λi a b ha hb=>?_⟩
 cases i with
 |zero=>simp at ha hb;subst ha;subst hb;exact h
 |succ i=>simp at ha hb;exact t.2 i a b ha hb
theorem X00b {m:Bool} {H:X08} {cs cs':List AV} (h:Cvs m H cs cs'):CvE m H (.agg cs) (.agg cs'):=⟨h.len,h.rel⟩
theorem X006 {m:Bool} {H:X08} {o n:Nat} {x:Obj} {es:List AV} (hH:H o=some x) (h:CvL m H x.es es) (hn:n=es.length):Cv m H (.ref o 0 n) (.list m es):=by
 subst hn;refine .ref hH (by rw[h.1];omega) rfl (λi e e' he he'=>?_) (λi e e' k a b he he' ha hb=>?_)
 ·rw[Nat.zero_add] at he;exact(h.2 i e e' he he').1
 ·rw[Nat.zero_add] at he;exact(h.2 i e e' he he').2 k a b ha hb
theorem cvM {P:Prop} (h:P:=by
 repeat' first
  |exact Cvs.nil
  |refine Cvs.cons ?_ ?_
  |exact Cv.sc
  |exact Cv.fn0
  |exact Cv.listS rfl
  |exact cvLf
  |exact cvW
  |exact cvGt
  |exact cvG
  |exact cvLg
  |exact cvLe
  |refine X01v ?_
  |exact Cv.nils
  |exact cvNil (by first|rfl|assumption|(simp;done)|(simp[*];done)|fail)
  |exact cvR rfl (by first|rfl|(simp;done)|(simp;rfl)|(simp[*];done)|(simp[*];rfl)|fail) (by first|rfl|(simp;done)|(simp;omega)|(simp[*];done)|(simp[*];omega)|fail)
  |exact cvRt rfl (by first|rfl|(simp;done)|(simp;rfl)|(simp[*];done)|fail) (by first|rfl|(simp;done)|(simp;omega)|(simp[*];done)|fail)
  |exact cvRg true rfl (by first|rfl|(simp;done)|(simp;rfl)|(simp[*];done)|fail) (by first|rfl|(simp;done)|(simp;omega)|(simp[*];done)|fail)
  |exact cvRg false rfl (by first|rfl|(simp;done)|(simp;rfl)|(simp[*];done)|fail) (by first|rfl|(simp;done)|(simp;omega)|(simp[*];done)|fail)
  |exact cvRe true rfl (by first|rfl|(simp;done)|(simp;rfl)|(simp[*];done)|fail) (by first|rfl|(simp;done)|(simp;omega)|(simp[*];done)|fail)
  |exact cvRe false rfl (by first|rfl|(simp;done)|(simp;rfl)|(simp[*];done)|fail) (by first|rfl|(simp;done)|(simp;omega)|(simp[*];done)|fail)
  |exact cvRf rfl (by first|rfl|(simp;done)|(simp;rfl)|(simp[*];done)|fail) (by first|rfl|(simp;done)|(simp;omega)|(simp[*];done)|fail)
  |exact cvLq (by first|rfl|(simp;done)|(simp[*];done)|fail)
  |exact cv_leqS (by first|rfl|(simp;done)|(simp[*];done)|fail)
  |exact cv_scE (by first|rfl|(simp;done)|(simp[*];done)|fail)
  |refine Xu4 ?_
  |exact Cv.nils0
  |refine X006 rfl ?_ rfl
  |exact CvL.nil
  |refine CvL.cons ?_ ?_
  |refine X00b ?_
  |refine cvE_one ?_ rfl rfl
  |refine Cv.ptrL rfl rfl rfl rfl (Xfw ?_)
  |refine Cv.elemD rfl rfl (Xfw ?_)
  |refine Cv.weak ?_
 first|done|fail):P:=h
theorem ownM {P:Prop} (h:P:=by
 repeat' first
  |exact .sc
  |exact ownL
  |exact ownW
  |refine Xkz ?_
  |refine X1a ?_ ?_
  |exact X7j
  |refine Xhf.agg ?_
 first|done|fail):P:=h
class PCs (P:Program) (f:Nat) (S:outParam Prop):Prop where
 ok:S
theorem pcN {P:Program} {f:Nat} {H:X08} {as bs:List AV} {r:AV} {S:Prop} [i:PCs P f S] (k:S->X0j P f bs r) (hc:Cvs false (λ_=>none) as bs):X4y P f H as bs r:=.none (k i.ok) hc
theorem pcL {P:Program} {f:Nat} {H:X08} {as bs:List AV} {r:AV} {S:Prop} [i:PCs P f S] (k:S->X0j P f bs r) (hc:Cvs false H as bs) (ho:Xhf r):X4y P f H as bs r:=.lent (k i.ok) hc ho
theorem pcM {P:Prop} (h:P:=by
 first
  |exact pcN (by intro K;apply K;assumption) cvM
  |exact pcL (by intro K;apply K;assumption) cvM ownM):P:=h
theorem fq {p:Prop} (h:p) {P:Prop} (k:p->P:=by first|exact id|exact X00h|exact absT|exact absN):P:=k h
theorem X05 {P:Prop} (h:P:=by
 repeat' first
  |refine And.intro ?_ ?_
  |exact trivial
  |exact pcM
  |exact oblA
 first|done|fail):P:=h
theorem okSl {b:Bool} {i n:Nat} {es:List AV} (h:i<n):(slE b i es).Ok (·<n):=by
 cases b with
 |true=>exact .nils
 |false=>exact .ref h
class TmD (P:Program) (T:outParam Ty):Prop where
 ok:Xb0 P T/\P.follows .mixedOrders=true
abbrev nbS {α:Type} {l:List α} (h:l=[]:=by first|rfl|simp[*]):Nb l:=nbT h
theorem okF {α:Type} {f:α->AV} [i:Xbr f] {x:α} {M:Nat->Prop}:(f x).Ok M:=(X3v (i.flat x) (i.whole x) M).1
theorem okG {α:Type} {g:Bool->α->AV} [i:X023 g] {o:Bool} {x:α} {M:Nat->Prop}:(g o x).Ok M:=(i.free o x M).1
theorem okM {P:Prop} (h:P:=by
 repeat' first
  |exact X7j
  |refine X1a ?_ ?_
  |exact .sc
  |exact .list
  |exact Xsg
  |exact .elem
  |exact okF
  |exact okG
 first|done|fail):P:=h
theorem bI {α β:Type} {x:Option α} {f:α->Option β} {r:β} {G:Prop} (k:∀ v,x=some v->f v=some r->G):x.bind f=some r->G:=λh=>X01z h k
theorem brI {α:Type} {c:Bool} {a b:Option α} {r:α} {G:Prop} (h1:c=true->a=some r->G) (h2:c=false->b=some r->G):(bif c then a else b)=some r->G:=λh=>brE h h1 h2
theorem oj {α:Type} {a b:α} (h:some a=some b):a=b:=Option.some.inj h
theorem X0z {P:Program} {T:Ty} {nt n0:Nat} {μ:Mu} {Q:Xx->St->Mu->Prop} {cf cf':Cf} {K K':List Kn} {L L':List (Nat×AV)} {G G':List (Nat×Obj)} {n n':Nat} {hs':List X4q} {ps':List Prop} [hT:TmD P T] (hs:List X4q)
  (k:X2 P nt n0 Q cf' K' ⟨fr L',hp G',n'⟩ μ) (h:X9n P T nt 4000 cf K L G n hs []=some (cf',K',L',G',n',hs',ps'):=by exact rfl) (o:X48 ps':=by exact X05):X2 P nt n0 Q cf K ⟨fr L,hp G,n⟩ μ:=Xog hT.ok 4000 hs h o k
theorem rnI {A:Prop} {P:Program} {T:Ty} {nt n0:Nat} {μ:Mu} {Q:Xx->St->Mu->Prop} {cf cf':Cf} {K K':List Kn} {L L':List (Nat×AV)} {G G':List (Nat×Obj)} {n n':Nat} {hs':List X4q} {ps':List Prop} [hT:TmD P T] (hs:List X4q)
  (k:A->X2 P nt n0 Q cf' K' ⟨fr L',hp G',n'⟩ μ) (h:X9n P T nt 4000 cf K L G n hs []=some (cf',K',L',G',n',hs',ps'):=by exact rfl) (o:X48 ps':=by exact X05):A->X2 P nt n0 Q cf K ⟨fr L,hp G,n⟩ μ:=λa=>Xog hT.ok 4000 hs h o (k a)
theorem X8 {P:Program} {T:Ty} {nt n0:Nat} {μ:Mu} {Q:Xx->St->Mu->Prop} {cf cf':Cf} {K K':List Kn} {L L':List (Nat×AV)} {G G':List (Nat×Obj)} {n n':Nat} {hs':List X4q} {ps':List Prop} [hT:TmD P T] (hs:List X4q)
  (h:X9n P T nt 4000 cf K L G n hs []=some (cf',K',L',G',n',hs',ps'):=by exact rfl) (o:X48 ps':=by exact X05) (k:X2 P nt n0 Q cf' K' ⟨fr L',hp G',n'⟩ μ):X2 P nt n0 Q cf K ⟨fr L,hp G,n⟩ μ:=Xog hT.ok 4000 hs h o k
theorem fi {P:Program} {T:Ty} {nt n0:Nat} {fn:Func} {r:AV} {L:List (Nat×AV)} {G:List (Nat×Obj)} {n:Nat} {μ:Mu} {rs:List AV} (hr:Xup T L G fn.results.toList=some rs:=by exact rfl) (hc:Cv true (hp G) (Xe5 rs) r:=by exact cvM):X2 P nt n0 (Xw2 T fn r) (.exit .ret) [] ⟨fr L,hp G,n⟩ μ:=Xts hr hc
end Go.Av


namespace Go.Av
end Go.Av


namespace Go.Av
open Go
section
variable {P:Program} {ops:Array Oper} {Q:Exit->Act->World->Prop}
end
end Go.Av


namespace Go.Av
end Go.Av


namespace Go.Av
open Go.D
def WkC (a a':AV):Prop:=a'=a\/(∃ l,a=.list true l/\a'=.list false l)\/(a=.nils/\∃ b,a'=.list b [])
def WkEs (l l':List AV):Prop:=l.length=l'.length/\∀ (i:Nat) e e',l[i]?=some e->l'[i]?=some e'->e.cells.length=e'.cells.length/\∀ (k:Nat) a a',e.cells[k]?=some a->e'.cells[k]?=some a'->WkC a a'
theorem WkC.rel {c:Ctx} {a a':AV} {v:Value} (h:WkC a a') (r:X0t c false a v):X0t c false a' v:=by
 rcases h with rfl|⟨l,rfl,rfl⟩|⟨rfl,b,rfl⟩
 ·exact r
 ·cases r with
  |listNil=>exact .listNil
  |list vf hne hS hn hcap hsz hcell h1 h=>exact .list vf hne (hS.elim (λq=>.inl ⟨rfl,q.2⟩) .inr) hn hcap hsz hcell h1 h
 ·obtain⟨p,rfl⟩:=r.nils_inv;exact .listNil
theorem WkC.ok {M:Nat->Prop} {a a':AV} (h:WkC a a') (r:a.Ok M):a'.Ok M:=by
 rcases h with rfl|⟨l,rfl,rfl⟩|⟨rfl,b,rfl⟩
 ·exact r
 ·exact .list
 ·exact .list
theorem AV.cells_leaf {a:AV} (h:∀ cs,a≠.agg cs):a.cells=[a]:=by
 cases a<;>first|rfl|exact absurd rfl (h _)
theorem Xxe {l:List AV} {i:Nat} {a a':AV} (h:WkC a a') (ha:∀ cs,a≠.agg cs) (ha':∀ cs,a'≠.agg cs):WkEs (l.set i a) (l.set i a'):=by
 refine⟨by simp,λj e e' he he'=>?_⟩;by_cases hj:i=j
 ·subst hj;by_cases hl:i<l.length
  ·rw[List.getElem?_set_self hl] at he he';cases he;cases he'
   rw[AV.cells_leaf ha,AV.cells_leaf ha'];refine⟨rfl,λk b b' hb hb'=>?_⟩
   cases k with
   |zero=>simp at hb hb';subst hb hb';exact h
   |succ k=>simp at hb
  ·rw[List.getElem?_eq_none (by simp;omega)] at he;cases he
 ·rw[List.getElem?_set_ne hj] at he he';rw[he] at he';cases he';exact⟨rfl,λk a a' ha ha'=>by rw[ha] at ha';cases ha';exact .inl rfl⟩
theorem Xzt {o n m:Nat} {es l:List AV} {i:Nat} (h:m=n):Xkb o n es (l.set i (.ref o 0 m)) (l.set i (.list true es)):=by
 refine⟨by simp,λj e e' he he'=>?_⟩;by_cases hj:i=j
 ·subst hj;by_cases hl:i<l.length
  ·rw[List.getElem?_set_self hl] at he he';cases he;cases he'
   exact Xov h
  ·rw[List.getElem?_eq_none (by simp;omega)] at he;cases he
 ·rw[List.getElem?_set_ne hj] at he he';rw[he] at he';cases he';exact Xli
theorem X2.wkObj {P:Program} {nt n0 n:Nat} {Q:Xx->St->Mu->Prop} {cf:Cf} {K:List Kn} {μ:Mu} {L:List (Nat×AV)} {G:List (Nat×Obj)} {y:Obj} (q:Nat) (es':List AV) (hy:hp G q=some y) (he:WkEs y.es es')
  (h:X2 P nt n0 Q cf K ⟨fr L,hp ((q,{ y with es:=es' })::G),n⟩ μ):X2 P nt n0 Q cf K ⟨fr L,hp G,n⟩ μ:=by
 have hd:∀ o x',hp ((q,{ y with es:=es' })::G) o=some x'->∃ x,hp G o=some x/\x'.esz=x.esz/\x'.solo=x.solo/\x'.spent=x.spent/\x'.es.length=x.es.length/\(x'=x\/(o=q/\x=y/\x'={ y with es:=es' })):=by
  intro o x' hx;by_cases ho:o=q
  ·subst ho;rw[show hp ((o,{ y with es:=es' })::G) o=some { y with es:=es' } by simp[hp,Xju hy]] at hx;cases hx
   exact⟨y,hy,rfl,rfl,rfl,he.1.symm,.inr ⟨rfl,rfl,rfl⟩⟩
  ·have:hp ((q,{ y with es:=es' })::G) o=hp G o:=by
    have hb:Nat.beq o q=false:=by rw[<-Bool.not_eq_true,Nat.beq_eq];exact ho
    simp[hp,hb]
   rw[this] at hx;exact⟨x',hx,rfl,rfl,rfl,rfl,.inl rfl⟩
 refine X2.sub (s':=⟨fr L,hp ((q,{ y with es:=es' })::G),n⟩) (λc0 H0 c act μ g hm=>⟨?_,?_⟩) h
 ·refine⟨⟨λo x' hx=>?_,λo o' x1 x2 h1 h2 hne hb=>?_,λo x' hx=>?_,g.inv.lt,g.inv.base,g.inv.own,λo x' hx=>?_⟩,λo x' hx=>?_,g.frame,g.ok,g.size,?_,g.le0⟩
  ·obtain⟨x,hx0,_,_,_,_,hc⟩:=hd o x' hx;obtain⟨i1,i2,i3⟩:=g.inv.obj o x hx0;rcases hc with rfl|⟨rfl,rfl,rfl⟩
   ·exact⟨i1,i2,i3⟩
   ·have hback:∀ (i:Nat) e',es'[i]?=some e'->∃ e,x.es[i]?=some e:=λi e' h'=>by
     have hl:=(List.getElem?_eq_some_iff.1 h').1;rw[<-he.1] at hl;exact⟨_,List.getElem?_eq_getElem hl⟩
    refine⟨i1,?_,λe' he' a' ha'=>?_⟩
    ·obtain⟨⟨cur,k1,k2,k3⟩,k4,k5,k6⟩:=i2;refine⟨⟨cur,k1,k2,λi e' h'=>?_⟩,by rw[show({ x with es:=es' }:Obj).es.length=x.es.length from he.1.symm];exact k4,k5,k6⟩;obtain⟨e,h0⟩:=hback i e' h';obtain⟨g1,g2⟩:=k3 i e h0;obtain⟨w1,w2⟩:=he.2 i e e' h0 h';refine⟨by rw[<-w1];exact g1,λk a' ha'=>?_⟩;have hl:=(List.getElem?_eq_some_iff.1 ha').1;rw[<-w1] at hl;obtain⟨v,v1,v2,v3⟩:=g2 k _ (List.getElem?_eq_getElem hl);exact⟨v,v1,(w2 k _ a' (List.getElem?_eq_getElem hl) ha').rel v2,v3⟩
    ·obtain⟨i,hi⟩:=List.getElem?_of_mem he';obtain⟨k,hk⟩:=List.getElem?_of_mem ha';obtain⟨e,h0⟩:=hback i e' hi;obtain⟨w1,w2⟩:=he.2 i e e' h0 hi;have hl:=(List.getElem?_eq_some_iff.1 hk).1;rw[<-w1] at hl;exact(w2 k _ a' (List.getElem?_eq_getElem hl) hk).ok (i3 e (List.mem_of_getElem? h0) _ (List.getElem_mem hl))
  ·obtain⟨y1,hy1,e1,s1,p1,l1,_⟩:=hd o x1 h1;obtain⟨y2,hy2,e2,s2,p2,l2,_⟩:=hd o' x2 h2;have:=g.inv.sep o o' y1 y2 hy1 hy2 hne hb;rw[s1,p1,p2,l1,l2,e1,e2];exact this
  ·obtain⟨x,hx0,_⟩:=hd o x' hx;exact g.inv.stab o x hx0
  ·obtain⟨x,hx0,_⟩:=hd o x' hx;exact g.inv.low o x hx0
  ·obtain⟨x,hx0,_,s1,p1,_⟩:=hd o x' hx;rw[s1,p1];exact g.solo o x hx0
  ·have r:=g.reach;exact⟨r.rho,r.os,r.tape,r.output,r.size,r.block,r.stable,r.sa,r.so1,r.so2,r.B,λo x' hx=>by obtain⟨x,hx0,_⟩:=hd o x' hx;exact r.own o x hx0⟩
 ·exact⟨hm.is,λp hp=>by
   obtain⟨a1,a2,a3,a4⟩:=hm.away p hp;exact⟨a1,a2,λo x' hx=>by obtain⟨x,hx0,_⟩:=hd o x' hx;exact a3 o x hx0,a4⟩,hm.nodup,hm.ds⟩
theorem focK {α:Type} {l:List α} {k:Nat} {x:α} (h:l[k]?=some x):X0u l ((k:Nat):Int)=some x:=by simp[X0u,h]
theorem Xzx {α:Type} {l:List α} {i:Int} {v:α} (h:X0u l i=some v) {L:List AV} {a b:Nat} {c:AV} (hL:L.length=l.length:=by simp) (ha:a=Int.toNat i:=by simp) (hb:b=Int.toNat i:=by simp):(L.set a c)[b]?=some c:=by
 have hq:=X1j h;subst ha hb;exact List.getElem?_set_self om
theorem focR {α:Type} {f:α->AV} {θ:Nat->Nat} {W:List α} {i j:Nat} {c c':AV} (hs:∀ x,X6i (f x)) (hj:j=i) (hc:c=AV.ren θ c'):(List.set (List.map f W) j c)=List.map (AV.ren θ) (List.set (List.map f W) i c'):=by
 rw[List.map_set,<-Xd (X07 hs W) θ,hj,hc]
theorem X033 {α:Type} {f:α->AV} {θ:Nat->Nat} {W:List α} {i j k:Nat} {b c c':AV} (hs:∀ x,X6i (f x)) (hj:j=i) (hk:k=i) (hc:c=AV.ren θ c'):(List.set (List.set (List.map f W) k b) j c)=List.map (AV.ren θ) (List.set (List.map f W) i c'):=by
 rw[hj,hk,List.set_set];exact focR hs rfl hc
theorem focF {o n m:Nat} {es l:List AV} {i j:Nat} (h:m=n) (hj:j=i:=by simp):Xkb o n es (l.set j (.ref o 0 m)) (l.set i (.list true es)):=by rw[hj];exact Xzt h
theorem focL {β:Type} {g:β->AV} {f:List β->AV} {W:List (List β)} {i j:Nat} {a:List β} (hj:j=i) (hf:∀ x,f x=.list false (x.map g):=by intro x;rfl):WkEs (List.set (List.map f W) j (.list true (a.map g))) (List.map f (List.set W i a)):=by
 rw[List.map_set,hf a,hj];exact Xxe (.inr (.inl ⟨_,rfl,rfl⟩)) (λ_ h=>by cases h) (λ_ h=>by cases h)
theorem focN {β:Type} {g:β->AV} {f:List β->AV} {W:List (List β)} {i j:Nat} (hj:j=i) (hf:∀ x,f x=.list false (x.map g):=by intro x;rfl):WkEs (List.set (List.map f W) j .nils) (List.map f (List.set W i [])):=by
 rw[List.map_set,hf [],hj];exact Xxe (.inr (.inr ⟨rfl,false,rfl⟩)) (λ_ h=>by cases h) (λ_ h=>by cases h)
theorem focO {β:Type} {g:β->AV} {W:List (List β)} {i:Nat} {c:AV} {M:Nat->Prop} (hc:c.Ok M) (hl:c.cells=[c]):∀ e∈List.set (List.map (X14 false g) W) i c,∀ a∈e.cells,a.Ok M:=by
 intro e he a ha;rcases List.mem_or_eq_of_mem_set he with h|h
 ·obtain⟨x,_,rfl⟩:=List.mem_map.1 h;have ha:a∈[AV.list false (x.map g)]:=ha;rw[List.mem_singleton.1 ha];exact .list
 ·rw[h,hl] at ha;rw[List.mem_singleton.1 ha];exact hc
theorem focC {θ:Nat->Nat} {o o' n n':Nat} (h:o=θ o') (hn:n=n'):AV.ref o 0 n=AV.ren θ (AV.ref o' 0 n'):=by rw[h,hn];rfl
end Go.Av


namespace Go.Av
inductive Tab (V:Type) where
 |leaf
 |node (k:Nat) (v:V) (l r:Tab V)
noncomputable def Tab.find {V:Type} (t:Tab V):Nat->Option V :=
 Tab.rec (motive:=λ_=>Nat->Option V) (λ_=>none) (λk v _ _ ihl ihr n=>bif Nat.beq n k then some v else bif Nat.blt n k then ihl n else ihr n) t
theorem Tab.find_node {V:Type} (k:Nat) (v:V) (l r:Tab V) (t:Nat):(Tab.node k v l r).find t=bif Nat.beq t k then some v else bif Nat.blt t k then l.find t else r.find t:=rfl
def Tab.All {V:Type} (p:Nat->V->Prop):Tab V->Prop
 |.leaf=>True
 |.node k v l r=>p k v/\l.All p/\r.All p
theorem Tab.find_all {V:Type} {p:Nat->V->Prop}:∀ (t:Tab V),t.All p->∀ k v,t.find k=some v->p k v:=by
 intro t
 induction t with
 |leaf=>intro _ k v h;cases h
 |node k' v' l r ihl ihr =>
  intro h k v hf;obtain⟨h1,h2,h3⟩:=h;rw[Tab.find_node] at hf
  cases hb:Nat.beq k k' with
  |true =>
   rw[hb,cond_true] at hf;cases hf
   have:k=k':=Nat.eq_of_beq_eq_true hb;subst this;exact h1
  |false =>
   rw[hb,cond_false] at hf
   cases hlt:Nat.blt k k' with
   |true=>rw[hlt,cond_true] at hf;exact ihl h2 k v hf
   |false=>rw[hlt,cond_false] at hf;exact ihr h3 k v hf
theorem Xvq {P:Program} {t:Tab TI} (h:t.All (X21 P)):Xb0 P t.find:=λk v hf=>t.find_all h k v hf
theorem X53 {P:Program} {t:Nat} {i:TypeInfo} {d:TypeDesc} {z:Value} (hi:P.info? t=some i) (hd:P.underlying t=some d) (hz:i.zero=some z)
  (hw:((X2i z).whole&&Nat.beq (X2i z).cells.length i.size)=true):X21 P t ⟨Xv d,i.size,i.bytes,z,false⟩:=by
 simp only[Bool.and_eq_true] at hw;exact⟨⟨i,d,hi,hd,hz,rfl,rfl,rfl⟩,⟨hw.1,Nat.eq_of_beq_eq_true hw.2⟩,λh=>by cases h⟩
theorem Xd2 {P:Program} {t:Nat} {i:TypeInfo} {d:TypeDesc} {z:Value} (hi:P.info? t=some i) (hd:P.underlying t=some d) (hz:i.zero=some z)
  (hw:((X2i z).whole&&Nat.beq (X2i z).cells.length i.size)=true) (h1:P.stoodInHeld t=false) (h2:P.eqGuardType P.depth t=false)
  (h3 : (match d with | .struct fs => fs.toList.all (λf => !(f.name == "_")) | _ => true) = true) : X21 P t ⟨Xv d, i.size, i.bytes, z, true⟩ := by
 simp only[Bool.and_eq_true] at hw;refine⟨⟨i,d,hi,hd,hz,rfl,rfl,rfl⟩,⟨hw.1,Nat.eq_of_beq_eq_true hw.2⟩,λ_=>⟨h1,h2,λfs hfs f hf=>?_⟩⟩;rw[hd] at hfs;cases hfs
 have:=List.all_eq_true.1 h3 f (by simpa using hf);simpa using this
def Xh (fn:Func):Code:=fn.body.getD .skip
end Go.Av
