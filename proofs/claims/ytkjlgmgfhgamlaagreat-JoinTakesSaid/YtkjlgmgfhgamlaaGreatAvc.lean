/- Parts of the proof, laid together. -/
import Derived.Test.YtkjlgmgfhgamlaaGreatAvb
import Derived.RangeFuncIn
set_option linter.all false

namespace Go.Av
structure Away (c:Ctx) (H:X0p) (b:Nat):Prop where
 sa:¬ c.Sa b
 so:¬ c.So b
 ob:∀ o x,H o=some x->(c.ρ o).blk≠b
theorem Away.kept {c c':Ctx} {H H':X0p} {n b:Nat} (h:Away c H b) (hb:b<c.w.heap.size) (r:Reach c H n c' H'):Away c' H' b:=by
 refine⟨by rw[r.sa];exact h.sa,λhs=>?_,λo x hx he=>?_⟩
 ·rcases r.so2 _ hs with h1|h1|⟨o,x,h1,h2⟩
  ·exact h.so h1
  ·omega
  ·exact h.ob o x h1 h2
 ·rcases r.own o x hx with h1|⟨o',x',h1,h2⟩
  ·omega
  ·exact h.ob o' x' h1 (h2.trans he)
theorem Reach.weaken {c c':Ctx} {H H':X0p} {n n':Nat} (r:Reach c H n c' H') (h:n'<=n):Reach c H n' c' H' :=
 ⟨λo ho=>r.rho o (Nat.lt_of_lt_of_le ho h),r.os,r.tape,r.output,r.size,r.block,r.stable,r.sa,r.so1,r.so2,r.B,r.own⟩
theorem X55.turn0 {nt n0:Nat} {c0 c:Ctx} {H0:X0p} {s:St} {act:Act} {b:Nat} (o:Go.Obj) (g:X55 nt c0 H0 n0 c s act) (h:Away c s.H b) :
  X55 nt { c with w:=c.w.putObj b o } s.H n0 { c with w:=c.w.putObj b o } s act/\c.Le (λ_=>True) { c with w:=c.w.putObj b o }:=by
 have hother:∀ k,k≠b->(c.w.putObj b o).heap[k]?=c.w.heap[k]?:=λk hk=>World.putObj_heap_other hk;have hle:c.Le (λ_=>True) { c with w:=c.w.putObj b o } :=
  ⟨λ_ _=>rfl,λ_ h=>h,λ_ h=>h,λk hk=>hother k (λe=>by subst e;exact hk.elim h.sa h.so),rfl⟩
 have all:∀ {a:AV} {M:Nat->Prop},a.Ok M->a.Ok (λ_=>True):=λh=>h.mono λ_ _=>trivial;refine⟨⟨⟨λq x hx=>?_,g.inv.sep,g.inv.stab,λk hk=>?_,?_,g.inv.own,g.inv.low⟩,g.solo,λt=>(g.frame t).mono hle (.inr (all (g.ok t))),g.ok,g.size,.refl _ _ _,g.le0⟩,hle⟩
 ·obtain⟨i1,⟨⟨cur,hb,hs,hc⟩,i3,i4,i5⟩,i6⟩:=g.inv.obj q x hx;refine⟨i1,⟨⟨cur,(hother _ (h.ob q x hx)).trans hb,hs,λi e he=>?_⟩,i3,i4,i5⟩,i6⟩;obtain⟨g1,g2⟩:=hc i e he;exact⟨g1,λk a ha=>by obtain⟨v,hv,hr,h7⟩:=g2 k a ha;exact⟨v,hv,hr.mono hle (.inr (all (i6 e (List.mem_of_getElem? he) a (List.mem_of_getElem? ha)))),h7⟩⟩
 ·show k<(c.w.putObj b o).heap.size;rw[World.putObj_size];exact g.inv.lt k hk
 ·show c.B<=(c.w.putObj b o).heap.size;rw[World.putObj_size];exact g.inv.base
theorem Reach.turnBack {c c1 c2:Ctx} {H H1 H2:X0p} {n b:Nat} {o0 o1:Go.Obj} (r1:Reach c H n c1 H1) (r2:Reach { c1 with w:=c1.w.putObj b o1 } H1 n c2 H2) (hb:c.w.heap[b]?=some o0) (h:Away c H b) :
  Reach c H n { c2 with w:=c2.w.putObj b o0 } H2:=by
 have hlt:b<c.w.heap.size:=(Array.getElem?_eq_some_iff.1 hb).1;have hs2:c.w.heap.size<=c2.w.heap.size:=by
  have h1:=r1.size;have h2:(c1.w.putObj b o1).heap.size<=c2.w.heap.size:=r2.size;rw[World.putObj_size] at h2;omega
 refine⟨λo ho=>(r2.rho o ho).trans (r1.rho o ho),r2.os.trans r1.os,r2.tape.trans r1.tape,⟨r2.output.1.trans r1.output.1,Nat.le_trans r1.output.2 r2.output.2⟩,?_,λk hk hn=>?_,λk hk=>?_,r2.sa.trans r1.sa,λk hk=>r2.so1 k (r1.so1 k hk),λk hk=>?_,r2.B.trans r1.B,λo x hx=>?_⟩
 ·show c.w.heap.size<=(c2.w.putObj b o0).heap.size;rw[World.putObj_size];exact hs2
 ·show(c2.w.putObj b o0).heap[k]?=_;by_cases e:k=b
  ·subst e;rw[World.putObj_heap_same om];exact hb.symm
  ·rw[World.putObj_heap_other e];have h2:c2.w.heap[k]?=(c1.w.putObj b o1).heap[k]?:=r2.block k (by show k<(c1.w.putObj b o1).heap.size;rw[World.putObj_size];exact Nat.lt_of_lt_of_le hk r1.size) λo x hx he=>by
    rcases r1.own o x hx with h1|⟨o',x',h1,h2⟩
    ·have he':(c1.ρ o).blk=k:=he;omega
    ·exact hn o' x' h1 (h2.trans he)
   rw[h2,World.putObj_heap_other e];exact r1.block k hk hn
 ·show(c2.w.putObj b o0).heap[k]?=_;have e:k≠b:=λe=>by subst e;exact hk.elim h.sa h.so
  rw[World.putObj_heap_other e];have h2:c2.w.heap[k]?=(c1.w.putObj b o1).heap[k]?:=r2.stable k (hk.imp (λx=>by show c1.Sa k;rw[r1.sa];exact x) (r1.so1 k));rw[h2,World.putObj_heap_other e];exact r1.stable k hk
 ·rcases r2.so2 k hk with h1|h1|⟨q,y,h1,h2⟩
  ·exact r1.so2 k h1
  ·right;left
   have h3:(c1.w.putObj b o1).heap.size<=k:=h1;rw[World.putObj_size] at h3;exact Nat.le_trans r1.size h3
  ·have h2':(c1.ρ q).blk=k:=h2;rcases r1.own q y h1 with h3|⟨q',y',h3,h4⟩
   ·exact .inr (.inl om)
   ·exact .inr (.inr ⟨q',y',h3,h4.trans h2'⟩)
 ·rcases r2.own o x hx with h1|⟨q,y,h1,h2⟩
  ·left;have h3:(c1.w.putObj b o1).heap.size<=(c2.ρ o).blk:=h1;rw[World.putObj_size] at h3;exact Nat.le_trans r1.size h3
  ·rcases r1.own q y h1 with h3|⟨q',y',h3,h4⟩
   ·left;have:(c1.ρ q).blk=(c2.ρ o).blk:=h2;show c.w.heap.size<=(c2.ρ o).blk;omega
   ·exact .inr ⟨q',y',h3,h4.trans h2⟩
def zipL:List Nat->List AV->List (Nat×AV)->List (Nat×AV)
 |p::ps,a::as,L=>zipL ps as ((p,a)::L)
 |_,_,L=>L
theorem X022 {c:Ctx} {n:Nat}:∀ (ps:List Nat) (as:List AV) (vs:List Value) (L:List (Nat×AV)) (tmps:Array Value),as.length=vs.length->(∀ (i:Nat) a v,as[i]?=some a->vs[i]?=some v->X13 c false a v/\a.Ok (·<n)) ->
  (∀ p∈ps,p<tmps.size)->(∀ t,X13 c false (fr L t) (tmps.getD t undef)/\(fr L t).Ok (·<n)) ->
  (∀ t,X13 c false (fr (zipL ps as L) t) (((ps.zip vs).foldl (λt (p,v)=>t.setIfInBounds p v) tmps).getD t undef)/\(fr (zipL ps as L) t).Ok (·<n))/\((ps.zip vs).foldl (λt (p,v)=>t.setIfInBounds p v) tmps).size=tmps.size:=by
 intro ps
 induction ps with
 |nil=>intro as vs L tmps _ _ _ h;cases as<;>exact⟨h,rfl⟩
 |cons p ps ih =>
  intro as vs L tmps hl ha hp h
  cases as with
  |nil =>
   have:vs=[]:=List.eq_nil_of_length_eq_zero (by rw[<-hl];rfl);subst this;exact⟨h,rfl⟩
  |cons a as =>
   cases vs with
   |nil=>simp at hl
   |cons v vs =>
    have h0:=ha 0 a v rfl rfl;obtain⟨k1,k2⟩:=ih as vs ((p,a)::L) (tmps.setIfInBounds p v) (by simpa using hl) (λi a v h1 h2=>ha (i+1) a v (by simpa using h1) (by simpa using h2)) (λq hq=>by simpa using hp q (List.mem_cons_of_mem _ hq)) (λt=>by
     rw[Xoy (hp p List.mem_cons_self)];by_cases ht:t=p
     ·subst ht;rw[if_pos rfl];have:fr ((t,a)::L) t=a:=by simp[fr]
      rw[this];exact h0
     ·rw[if_neg ht];have:fr ((p,a)::L) t=fr L t:=by
       have hb:Nat.beq t p=false:=by rw[<-Bool.not_eq_true,Nat.beq_eq];exact ht
       simp[fr,hb]
      rw[this];exact h t)
    exact⟨k1,by simpa using k2⟩
def asgQ (P:Program) (nt n:Nat) (body:Code) (RQ:X03->St->Mu->Prop):X03->St->Mu->Prop:=λe s μ=>e=.normal/\μ=[]/\X5b P nt n body RQ s []
theorem X2.asg {P:Program} {nt n:Nat} {body:Code} {RQ:X03->St->Mu->Prop} {s:St} (h:X2 P nt n RQ (.code body) [] s []):X2 P nt n (asgQ P nt n body RQ) (.exit .normal) [] s [] :=
 Cl.mk ⟨rfl,rfl,X5b.ofCl h⟩
theorem Xv6 {μ:Mu} {b:Nat} {r:Loop} {nt m:Nat} {A:Nat->AV} (h:(b,.loop r nt m A)∈μ):Xg0 μ=false:=by
 induction μ with
 |nil=>cases h
 |cons p μ ih =>
  obtain⟨q,x⟩:=p;rcases List.mem_cons.1 h with h|h2
  ·cases h;rfl
  ·cases x with
   |loop=>rfl
   |mark=>exact ih h2
   |map=>exact ih h2
   |blk=>exact ih h2
def rndQ (P:Program) (nt n0:Nat) (Q:X03->St->Mu->Prop) (ops:Array Oper) (l:List Oper) (K:List Kn) (L:List (Nat×AV)) (d:Option Nat) (μ:Mu):X03->St->Mu->Prop :=
 λe s _=>e=.normal/\X2 P nt n0 Q (.ops ops l) K ⟨Xfb (fr L) d (.sc (.bool true)),s.H,s.n⟩ μ
theorem X2.rndEnd {P:Program} {nt n0 nt' n1:Nat} {Q:X03->St->Mu->Prop} {ops:Array Oper} {l:List Oper} {K:List Kn} {L L1:List (Nat×AV)} {d:Option Nat} {μ μ1:Mu} {G:List (Nat×Obj)} {n:Nat}
  (h:X2 P nt n0 Q (.ops ops l) K ⟨fr (putO d (.sc (.bool true)) L),hp G,n⟩ μ):X2 P nt' n1 (rndQ P nt n0 Q ops l K L d μ) (.exit .normal) [] ⟨fr L1,hp G,n⟩ μ1 :=
 Cl.mk ⟨rfl,by show X2 P nt n0 Q (.ops ops l) K ⟨Xfb (fr L) d (.sc (.bool true)),hp G,n⟩ μ;rw[<-X73];exact h⟩
theorem X2.yield {P:Program} {nt n0 n b ntc m:Nat} {Q:X03->St->Mu->Prop} {ops:Array Oper} {l:List Oper} {o:Oper} {K:List Kn} {L Lc:List (Nat×AV)} {G:List (Nat×Obj)} {μ:Mu} {x:Operand} {args:Array Operand} {ts:Array Nat} {r:Loop}
  {as:List AV} {qx qa:List Prop} {ps:Array Nat} {assign body:Code} (ho:o.op=.call { callee:=.value x,args:=args,argTypes:=ts }) (hg:o.guard=none) (hd:Xm1 nt o.dst=true)
  (hx:rd L x=(.sc (.func (.yield b) #[] #[]),qx)) (ha:rds L args.toList=(as,qa)) (hqx:X50 qx) (hqa:X50 qa)
  (hμ:(b,.loop r ntc m (fr Lc))∈μ) (h1:r.state=.ready) (h2:r.pending=none) (h3:r.params=ps) (h4:r.assign=assign) (h5:r.body=body)
  (hps:(Nat.beq as.length ps.size&&ps.toList.all λp=>Nat.blt p ntc)=true) (ht:(X8k assign||X8k body)=false)
  (h:X2 P ntc n (asgQ P ntc n body (rndQ P nt n0 Q ops l K L o.dst μ)) (.code assign) [] ⟨fr (zipL ps.toList as Lc),hp G,n⟩ []):X2 P nt n0 Q (.ops ops (o::l)) K ⟨fr L,hp G,n⟩ μ:=by
 subst h3 h4 h5;simp only[Bool.and_eq_true,Nat.beq_eq,List.all_eq_true,Nat.blt_eq] at hps;obtain⟨hp1,hp2⟩:=hps;simp only[Bool.or_eq_false_iff] at ht;intro c0 H0 c act g hm Qx hQ R hR
 cases R with
 |none=>rw[Xv6 hμ] at hR;exact absurd (hR rfl) (by simp)
 |some R =>
 refine X5k λK' hK'=>?_;rw[if_pos (by simp[Region.wanted,hg])];obtain⟨⟨hrec,hsz⟩,hmn,hAok,hA⟩:=hm.is _ hμ;obtain⟨w1,w2,w3,w4⟩:=hm.away _ hμ;have haw:Away c (hp G) b:=⟨w1,w2,w3⟩;have hlt:b<c.w.heap.size:=(Array.getElem?_eq_some_iff.1 hrec).1;have ex:act.eval x=.func (.yield b) #[] #[]:=by have:=g.ev x;rw[show evA (St.A ⟨fr L,hp G,n⟩) x=_ from X18 hx hqx] at this;exact this.sc_inv
 have hargs:args.toList.map (evA (fr L))=as:=Xjf ha hqa;have hlen:as.length=args.size:=by rw[<-hargs];simp
 have hy:=run_yield (P:=P) (args:=args.map act.eval) hrec (by rw[Array.size_map,<-hlen];exact hp1);have hrun:(execOp act.eval o).run P c.w=.ok (.round b r.fn ((r.params.zip (args.map act.eval)).foldl (λtmps (t,a)=>tmps.setIfInBounds t a) r.tmps) r.assign r.body) c.w:=by
  simp only[execOp,ho,resolve,ex,Deferred.ofValue,Sem.run_bind,Sem.run_pure,Result.andThen_ok,invoke,Array.empty_append,Array.append_empty];exact hy
 show Oper.wpIn (FR R) 0 P o act c.w K' Qx;refine⟨λ_ _=>trivial,?_⟩;rw[Oper.semAt_eq _ _ _ (λd hd=>by rw[hd] at ho;cases ho),hrun,Oper.uponIn_round];refine⟨λh=>Bool.noConfusion h,roundIn_of_wpIn trivial ?_⟩;have hz:(r.params.zip (args.map act.eval)).foldl (λtmps (t,a)=>tmps.setIfInBounds t a) r.tmps=(r.params.toList.zip (args.toList.map act.eval)).foldl (λt (p,v)=>t.setIfInBounds p v) r.tmps:=by
  rw[<-Array.foldl_toList];simp
 have hzip:=X022 (c:=c) (n:=n) r.params.toList as (args.toList.map act.eval) Lc r.tmps (by rw[<-hargs];simp) (λi a v h1 h2=>by
   rw[<-hargs,List.getElem?_map] at h1;rw[List.getElem?_map] at h2
   cases hq:args.toList[i]? with
   |none=>simp[hq] at h1
   |some q =>
    simp only[hq,Option.map_some,Option.some.injEq] at h1 h2;subst h1 h2;exact⟨g.ev q,g.evOk q⟩) (λp hp=>by rw[hsz];exact hp2 p hp) (λt=>⟨hA t,(hAok t).mono λq hq=>Nat.lt_of_lt_of_le hq (Nat.le_trans hmn g.le0)⟩)
 rw[<-hz] at hzip;have gB:X55 ntc c (hp G) n c ⟨fr (zipL r.params.toList as Lc),hp G,n⟩ { tmps:=(r.params.zip (args.map act.eval)).foldl (λtmps (t,a)=>tmps.setIfInBounds t a) r.tmps,defers:=[] } :=
  ⟨g.inv,g.solo,λt=>(hzip.1 t).1,λt=>(hzip.1 t).2,hzip.2.trans hsz,.refl _ _ _,Nat.le_refl _⟩
 refine wpIn_mono (X5b.ofCl h c (hp G) c _ gB (.nil rfl) (some b) (λh=>by rw[ht.1] at h;cases h)) ?_;rintro e a1 w' ⟨c1,s1,ae,μ1,rfl,g1,hm1,rfl,rfl,rfl,hbody⟩;have hrec1:c1.w.heap[b]?=some (.loop r):=(g1.reach.block b hlt haw.ob).trans hrec;refine⟨_,run_beginRound hrec1 h1,?_⟩;have aw1:Away c1 s1.H b:=haw.kept hlt g1.reach;obtain⟨g1',_⟩:=g1.turn0 (.loop { r with state:=.busy }) aw1;refine wpIn_mono (hbody _ s1.H _ a1 g1' (.nil hm1.ds) (some b) (λh=>by rw[ht.2] at h;cases h)) ?_;rintro e a2 w' ⟨c2,s2,ae,μ2,rfl,g2,hm2,rfl,rfl,hk⟩;have hlt1:b<c1.w.heap.size:=(Array.getElem?_eq_some_iff.1 hrec1).1;have hrec2:c2.w.heap[b]?=some (.loop { r with state:=.busy }) :=
  (g2.reach.block b (by show b<(c1.w.putObj b _).heap.size;rw[World.putObj_size];exact hlt1) aw1.ob).trans (World.putObj_heap_same hlt1)
 have hr:({ r with state:=.ready,pending:=none }:Loop)=r:=by
  obtain⟨st,pe,fn,tm,pa,asg,bd,de⟩:=r;simp only at h1 h2;subst h1 h2;rfl
 have hend:=run_endRound (P:=P) none hrec2;simp only[Option.isNone_none,if_true] at hend;rw[hr] at hend;refine⟨_,_,hend,?_⟩;have aw2:Away c2 s2.H b:=(Away.mk aw1.sa aw1.so aw1.ob:Away { c1 with w:=c1.w.putObj b (.loop { r with state:=.busy }) } s1.H b).kept (by show b<(c1.w.putObj b _).heap.size;rw[World.putObj_size];exact hlt1) g2.reach;obtain⟨g3,_⟩:=g2.turn0 (.loop r) aw2;have rt:Reach c (hp G) n { c2 with w:=c2.w.putObj b (.loop r) } s2.H:=Reach.turnBack g1.reach g2.reach hrec haw;have gf:=g.next (Xa7 hd) rt.le rt.sa rt.so2 rt.fr rt.own g3.inv g3.solo g3.le0 (a:=.sc (.bool true)) (v:=.bool true) .sc .sc;exact hK' _ _ (hk c0 H0 _ _ gf (hm.kept (rt.weaken g.le0)) Qx hQ (some R) (λh=>by cases h))
def Xmp:Code->List (Array Nat×Code×Code)
 |.loop b=>Xmp b
 |.seq a b=>Xmp a++Xmp b
 |.block _ c=>Xmp c
 |.scope c=>Xmp c
 |.cond _ a b=>Xmp a++Xmp b
 |.rangeFunc _ ps a b=>(ps,a,b)::(Xmp a++Xmp b)
 |_=>[]
def rfB (i:Nat) (c:Code):Array Nat×Code×Code:=((Xmp c)[i]?).getD (#[],.skip,.skip)
def Xmt (slots:List Nat) (L:List (Nat×AV)):List (Nat×AV):=slots.map λt=>(t,fr L t)
theorem Xtw (L:List (Nat×AV)):∀ (slots:List Nat) (t:Nat),fr (Xmt slots L) t=fr L t\/fr (Xmt slots L) t=.junk:=by
 intro slots
 induction slots with
 |nil=>intro t;exact .inr rfl
 |cons q r ih =>
  intro t;show fr ((q,fr L q)::Xmt r L) t=_\/fr ((q,fr L q)::Xmt r L) t=_;simp only[fr]
  cases hb:Nat.beq t q with
  |true=>rw[Nat.eq_of_beq_eq_true hb];exact .inl rfl
  |false=>exact ih t
theorem X2.keepL {P:Program} {nt n0 n:Nat} {Q:X03->St->Mu->Prop} {cf:Cf} {K:List Kn} {L:List (Nat×AV)} {G:List (Nat×Obj)} {μ:Mu} (slots:List Nat) (h:X2 P nt n0 Q cf K ⟨fr (Xmt slots L),hp G,n⟩ μ):X2 P nt n0 Q cf K ⟨fr L,hp G,n⟩ μ:=by
 refine X2.sub (s':=⟨fr (Xmt slots L),hp G,n⟩) (λc0 H0 c act μ g hm=>⟨⟨g.inv,g.solo,λt=>?_,λt=>?_,g.size,g.reach,g.le0⟩,hm⟩) h
 ·rcases Xtw L slots t with h|h
  ·show X13 c false (fr (Xmt slots L) t) _;rw[h];exact g.frame t
  ·show X13 c false (fr (Xmt slots L) t) _;rw[h];exact .junk
 ·rcases Xtw L slots t with h|h
  ·show(fr (Xmt slots L) t).Ok _;rw[h];exact g.ok t
  ·show(fr (Xmt slots L) t).Ok _;rw[h];exact .junk
def rfQ (P:Program) (nt n0:Nat) (Q:X03->St->Mu->Prop) (K:List Kn) (L:List (Nat×AV)) (μ:Mu) (D:Nat) (μi:Mu):X03->St->Mu->Prop :=
 λe s μ'=>(∀ id,e≠.exit id)/\μ'=μi/\X2 P nt n0 Q (.exit .normal) K ⟨fr L,s.H,s.n⟩ ((D,.mark)::μ)
theorem X2.rfEnd {P:Program} {nt n0 nt' n1:Nat} {Q:X03->St->Mu->Prop} {K:List Kn} {L L1:List (Nat×AV)} {μ μi:Mu} {D:Nat} {G:List (Nat×Obj)} {n:Nat} {e:X03} (he:∀ id,e≠.exit id)
  (h:X2 P nt n0 Q (.exit .normal) K ⟨fr L,hp G,n⟩ ((D,.mark)::μ)):X2 P nt' n1 (rfQ P nt n0 Q K L μ D μi) (.exit e) [] ⟨fr L1,hp G,n⟩ μi :=
 Cl.mk ⟨he,rfl,h⟩
theorem X55.alloc {nt n0:Nat} {c0 c:Ctx} {H0:X0p} {s:St} {act:Act} (o:Go.Obj) (g:X55 nt c0 H0 n0 c s act):X55 nt c0 H0 n0 { c with w:=c.w.alloc o } s act:=by
 obtain⟨h1,h2,h3⟩:=g.inv.waste (w':=c.w.alloc o) o rfl rfl rfl ⟨rfl,Nat.le_refl _⟩;have:=g.next (c':={ c with w:=c.w.alloc o }) (dst:=none) (a:=.sc undef) (v:=undef) (λd h=>by cases h) h1 rfl (λb hb=>.inl hb) h3 (λq x hx=>.inr ⟨q,x,hx,rfl⟩) h2 g.solo (Nat.le_refl _) .sc .sc;exact this
theorem X2.rangeFunc {P:Program} {nt n0 n gf nti:Nat} {Q:X03->St->Mu->Prop} {K:List Kn} {L:List (Nat×AV)} {G:List (Nat×Obj)} {μ:Mu} {g:Operand} {ps:Array Nat} {assign body codeI:Code} {fnI:Func} {caps:List AV} {q:List Prop}
  (hg:rd L g=(.fn gf caps,q)) (hq:X50 q) (hfn:X17 P gf fnI codeI) (hnt:fnI.ntmps=nti) (hle:Nat.ble (caps.length+1) nti=true) (hres:fnI.results=#[])
  (h:∀ (b D:Nat) (r:Loop),r.state=.ready->r.pending=none->r.params=ps->r.assign=assign->r.body=body ->
   X2 P nti n (rfQ P nt n0 Q K L μ D [(b,.loop r nt n (fr L)),(D,.blk (.deferred (some [])))]) (.code codeI) [] ⟨fr (argL 0 (.sc (.func (.yield b) #[] #[])::caps)),hp G,n⟩ [(b,.loop r nt n (fr L)),(D,.blk (.deferred (some [])))]) :
  X2 P nt n0 Q (.code (.rangeFunc g ps assign body)) K ⟨fr L,hp G,n⟩ μ:=by
 intro c0 H0 c act gd hm R hR;obtain rfl:=hR rfl;have hv:=gd.ev g;rw[show evA (St.A ⟨fr L,hp G,n⟩) g=_ from X18 hg hq] at hv;have hvo:=gd.evOk g;rw[show evA (St.A ⟨fr L,hp G,n⟩) g=_ from X18 hg hq] at hvo;obtain⟨cv,hcv,hcl,hcr⟩:=hv.fn_inv;refine wpIn_rangeFunc ?_;intro fn _;let D:=c.w.heap.size
 let b:=c.w.heap.size+1
 let Xob:Loop:={ state:=.ready,pending:=none,fn,tmps:=act.tmps,params:=ps,assign,body,defers:=c.w.heap.size }
 let W1:World:=(c.w.alloc (.deferred (some []))).alloc (.loop Xob)
 let c1:Ctx:={ c with w:=W1 }
 have hL1:W1.heap[b]?=some (.loop Xob):=by
  have:=World.alloc_heap_new (c.w.alloc (.deferred (some []))) (.loop Xob);rwa [World.size_alloc] at this
 have hK1:W1.heap[D]?=some (.deferred (some [])):=(RowKit.Below.heap_alloc _ _ _ (by simp[D])).trans (World.alloc_heap_new c.w _);have hs1:W1.heap.size=c.w.heap.size+2:=by simp[W1]
 have g1:X55 nt c (hp G) n0 c1 ⟨fr L,hp G,n⟩ act:=(gd.rebase.alloc (.deferred (some []))).alloc (.loop Xob);have hold:∀ k,k<c.w.heap.size->W1.heap[k]?=c.w.heap[k]?:=λk hk=>(RowKit.Below.heap_alloc _ _ _ (by simp;omega)).trans (RowKit.Below.heap_alloc _ _ _ hk);have r1:Reach c (hp G) n c1 (hp G):=⟨λ_ _=>rfl,rfl,rfl,⟨rfl,Nat.le_refl _⟩,by show c.w.heap.size<=W1.heap.size;omega,λk hk _=>hold k hk,λk hk=>hold k (gd.inv.lt k hk),rfl,λ_ h=>h,λ_ h=>.inl h,rfl,λo x hx=>.inr ⟨o,x,hx,rfl⟩⟩;have hob:∀ o x,hp G o=some x->(c.ρ o).blk<c.w.heap.size:=λo x hx=>by
  obtain⟨_,⟨⟨cur,hcb,_⟩,_⟩,_⟩:=gd.inv.obj o x hx;exact(Array.getElem?_eq_some_iff.1 hcb).1
 let vs:Array Value:=#[.func (.yield b) #[] #[]]++cv
 have hvs:vs.size=caps.length+1:=by simp[vs,<-hcl];omega
 have gI:X55 nti c (hp G) n c1 ⟨fr (argL 0 (.sc (.func (.yield b) #[] #[])::caps)),hp G,n⟩ { tmps:=vs++Array.replicate (fnI.ntmps - vs.size) undef,defers:=[] }:=by
  have hrel:Xm8 c1 false (.sc (.func (.yield b) #[] #[])::caps) vs:=by
   refine⟨by rw[hvs];simp,λi a v ha hv=>?_⟩
   cases i with
   |zero =>
    have hv':vs[0]?=some (.func (.yield b) #[] #[]):=by simp only[vs];rw[Array.getElem?_append_left (by simp)];rfl
    rw[hv'] at hv;simp only[List.getElem?_cons_zero,Option.some.injEq] at ha hv;subst ha hv;exact .sc
   |succ i =>
    have hv':cv[i]?=some v:=by
     simp only[vs] at hv;rw[Array.getElem?_append_right (by simp)] at hv;simpa using hv
    simp only[List.getElem?_cons_succ] at ha;refine(hcr i a v ha hv').mono r1.le (.inr ?_)
    cases hvo with|fn hvo=>exact hvo a (List.mem_of_getElem? ha)
  have hok:∀ a∈(.sc (.func (.yield b) #[] #[])::caps:List AV),a.Ok (·<n):=by
   intro a ha;rcases List.mem_cons.1 ha with rfl|ha
   ·exact .sc
   ·cases hvo with|fn hvo=>exact hvo a ha
  have:X55 nti c (hp G) n c1 ⟨argA (.sc (.func (.yield b) #[] #[])::caps),hp G,n⟩ { tmps:=vs++Array.replicate (fnI.ntmps - vs.size) undef,defers:=[] } :=
   ⟨g1.inv,g1.solo,λt=>Xiy hrel _ t,λt=>Xtd hok t,by have:=Nat.le_of_ble_eq_true hle;simp only[Array.size_append,Array.size_replicate];omega,r1,Nat.le_refl _⟩
  exact this.argL
 have mI:MOk n c c1 (hp G) [(b,.loop Xob nt n (fr L)),(D,.blk (.deferred (some [])))] { tmps:=vs++Array.replicate (fnI.ntmps - vs.size) undef,defers:=[] }:=by
  refine⟨λp hp=>?_,λp hp=>?_,by simp[b,D],rfl⟩
  ·simp only[List.mem_cons,List.not_mem_nil,or_false] at hp;rcases hp with rfl|rfl
   ·exact⟨⟨hL1,gd.size⟩,Nat.le_refl _,λt=>gd.ok t,λt=>g1.frame t⟩
   ·exact hK1
  ·simp only[List.mem_cons,List.not_mem_nil,or_false] at hp;have key:∀ k,c.w.heap.size<=k->¬ c1.Sa k/\¬ c1.So k/\(∀ o x,Av.hp G o=some x->(c1.ρ o).blk≠k)/\c.w.heap.size<=k:=λk hk =>
    ⟨λhs=>by have:=gd.inv.lt k (.inl hs);omega,λhs=>by have:=gd.inv.lt k (.inr hs);omega,λo x hx e=>by have h1:=hob o x hx;have h2:(c.ρ o).blk=k:=e;omega,hk⟩
   rcases hp with rfl|rfl
   ·exact key b (by simp[b])
   ·exact key D (Nat.le_refl _)
 refine⟨b,[{ target:=.collected D,args:=#[] }],W1,{ target:=.fn (.func gf) cv,args:=#[.func (.yield b) #[] #[]] },W1,gf,vs,W1,run_enterLoop_outer _ _ _ _ _,?_,λ_ _=>trivial,?_,λh=>Bool.noConfusion h,?_⟩
 ·simp only[resolve,hcv];simp[go_sem]
 ·simp only[invoke,callFunc,Sem.run_bind,run_program,Result.andThen_ok,hfn.here,hfn.name,hfn.body,Option.isNone_some,Bool.false_eq_true,if_false];rfl
 refine callsIn_of_wp hfn.here hfn.body trivial ?_ rfl;refine wpIn_mono (X5b.ofCl (h b D Xob rfl rfl rfl rfl rfl) c (hp G) c1 _ gI mI none .none) ?_;rintro e a w' ⟨c2,s2,ae,μ2,rfl,g2,hm2,rfl,hne,rfl,hk⟩;have hds:a.defers=[]:=hm2.ds;have fin:a.defers=[]/\∃ v,(results fnI a.tmps).run P c2.w=.ok v c2.w/\rangePost (FR none) 0 P b (MQ nt c0 H0 n0 (Xe6 P nt n0 Q K)) { act with defers:=[{ target:=.collected D,args:=#[] }]++act.defers } (.returned v) c2.w:=by
  obtain⟨⟨hrec,_⟩,_⟩:=hm2.is (b,.loop Xob nt n (fr L)) (by simp);have hDk:c2.w.heap[D]?=some (.deferred (some [])):=hm2.is (D,.blk (.deferred (some []))) (by simp);obtain⟨x1,x2,x3,x4⟩:=hm2.away (b,.loop Xob nt n (fr L)) (by simp);obtain⟨y1,y2,y3,y4⟩:=hm2.away (D,.blk (.deferred (some []))) (by simp);obtain⟨g3,hle3⟩:=g2.turn (.loop { Xob with state:=.exhausted }) x1 x2 x3 x4;refine⟨hds,.tuple #[],by simp[results,hres,go_sem],?_⟩;refine⟨none,_,run_endLoop hrec (by simp[Xob]),?_⟩;have rt:=g3.reach;have gc:=gd.next (dst:=none) (a:=.sc undef) (v:=undef) (λd h=>by cases h) rt.le rt.sa rt.so2 rt.fr rt.own g3.inv g3.solo g3.le0 .sc .sc;have gc2:X55 nt c0 H0 n0 { c2 with w:=c2.w.putObj b (.loop { Xob with state:=.exhausted }) } ⟨fr L,s2.H,s2.n⟩ { act with defers:=[{ target:=.collected D,args:=#[] }]++act.defers } :=
   ⟨gc.inv,gc.solo,gc.frame,gc.ok,gc.size,gc.reach,gc.le0⟩
  have hmk:=hm.kept (rt.weaken gd.le0) (act':=act) rfl;refine⟨_,⟨fr L,s2.H,s2.n⟩,.normal,(D,.mark)::μ,rfl,gc2,⟨λp hp=>?_,λp hp=>?_,?_,?_⟩,rfl,hk⟩
  ·rcases List.mem_cons.1 hp with rfl|hp
   ·exact(World.putObj_heap_other (by simp[b,D])).trans hDk
   ·exact hmk.is p hp
  ·rcases List.mem_cons.1 hp with rfl|hp
   ·exact⟨y1,y2,y3,Nat.le_trans gd.reach.size y4⟩
   ·exact hmk.away p hp
  ·refine List.nodup_cons.2 ⟨λhmem=>?_,hm.nodup⟩;obtain⟨p,hp,he⟩:=List.mem_map.1 hmem;have:=(hm.is p hp).lt;simp only[D] at he;omega
  ·show[_]++act.defers=_::dsOf μ;rw[hm.ds];rfl
 cases ae with
 |exit id=>exact(hne id rfl).elim
 |normal=>exact fin
 |ret=>exact fin
end Go.Av


namespace Go.Av
def StTo (nt n0:Nat) (s s':St):Prop:=∀ (c0:Ctx) (H0:X0p) (c:Ctx) (act:Act) (μ:Mu),X55 nt c0 H0 n0 c s act->MOk n0 c0 c s.H μ act->∃ c',c'.w=c.w/\X55 nt c0 H0 n0 c' s' act/\MOk n0 c0 c' s'.H μ act
section
variable {P:Program} {nt n0:Nat} {s s':St} {Q:X03->St->Mu->Prop} {μ:Mu}
theorem StTo.loop (hw:StTo nt n0 s s') {b:Code} (h:X9z P nt n0 b Q s' μ):X9z P nt n0 b Q s μ:=by
 intro c0 H0 c act g hm R hR;obtain⟨c',hc,g',hm'⟩:=hw c0 H0 c act μ g hm;have:=h c0 H0 c' act g' hm' R hR
 rwa [hc] at this
theorem StTo.semM (hw:StTo nt n0 s s') {c:Code} (h:X5b P nt n0 c Q s' μ):X5b P nt n0 c Q s μ:=by
 intro c0 H0 c act g hm R hR;obtain⟨c',hc,g',hm'⟩:=hw c0 H0 c act μ g hm;have:=h c0 H0 c' act g' hm' R hR
 rwa [hc] at this
theorem Xe6.to (hw:StTo nt n0 s s'):∀ (K:List Kn) (e:X03),Xe6 P nt n0 Q K e s' μ->Xe6 P nt n0 Q K e s μ:=by
 intro K
 induction K with
 |nil =>
  intro e h c0 H0 c act g hm;obtain⟨c',hc,g',hm'⟩:=hw c0 H0 c act μ g hm;obtain⟨c2,s2,h1,h2⟩:=h c0 H0 c' act g' hm';exact⟨c2,s2,h1.trans hc,h2⟩
 |cons k K ih =>
  intro e h
  cases k with
  |seq c =>
   cases e with
   |normal=>exact hw.semM h
   |exit i=>exact ih _ h
   |ret=>exact ih _ h
  |block id =>
   cases e with
   |normal=>exact ih _ h
   |ret=>exact ih _ h
   |exit i =>
    have h':X8c id (Xe6 P nt n0 Q K) (.exit i) s' μ:=h;show X8c id (Xe6 P nt n0 Q K) (.exit i) s μ;simp only[X8c] at h' ⊢
    cases hb:Nat.beq i id with
    |true=>rw[hb,cond_true] at h';exact ih _ h'
    |false=>rw[hb,cond_false] at h';exact ih _ h'
  |loop b =>
   cases e with
   |normal=>exact hw.loop h
   |exit i=>exact ih _ h
   |ret=>exact ih _ h
theorem X2.to {cf:Cf} {K:List Kn} (hw:StTo nt n0 s s') (h:X2 P nt n0 Q cf K s' μ):X2 P nt n0 Q cf K s μ:=by
 cases cf with
 |code c=>exact hw.semM h
 |exit e=>exact Xe6.to hw K e h
 |ops ops l =>
  intro c0 H0 c act g hm Qx hQ R hR;obtain⟨c',hc,g',hm'⟩:=hw c0 H0 c act μ g hm;have:=h c0 H0 c' act g' hm' Qx hQ R hR
  rwa [hc] at this
 |loop b=>exact hw.loop h
end
def FrzC (o n:Nat) (es:List AV) (a a':AV):Prop:=a'=a\/(a=.ref o 0 n/\a'=.list true es)
def FrzE (o n:Nat) (es:List AV) (e e':AV):Prop:=e.cells.length=e'.cells.length/\∀ (k:Nat) a a',e.cells[k]?=some a->e'.cells[k]?=some a'->FrzC o n es a a'
def Xqw (o n:Nat) (es l l':List AV):Prop:=l.length=l'.length/\∀ (i:Nat) e e',l[i]?=some e->l'[i]?=some e'->FrzE o n es e e'
theorem Xzz {o n:Nat} {es:List AV} {e:AV}:FrzE o n es e e:=⟨rfl,λk a a' h h'=>.inl (by rw[h] at h';exact(Option.some.inj h').symm)⟩
theorem Xuc {o n:Nat} {es l:List AV}:Xqw o n es l l:=⟨rfl,λi e e' h h'=>by rw[h] at h';cases h';exact Xzz⟩
theorem Xzv {o n:Nat} {es:List AV}:Xqw o n es [] []:=Xuc
theorem Xud {o n:Nat} {es l l':List AV} {e e':AV} (h:FrzE o n es e e') (t:Xqw o n es l l'):Xqw o n es (e::l) (e'::l'):=by
 refine⟨by simp[t.1],λi a b ha hb=>?_⟩
 cases i with
 |zero=>simp at ha hb;subst ha hb;exact h
 |succ i=>simp at ha hb;exact t.2 i a b ha hb
theorem X044 {o n m:Nat} {es:List AV} (h:m=n):FrzE o n es (.ref o 0 m) (.list true es):=by
 subst h;refine⟨rfl,λk a a' ha ha'=>?_⟩
 cases k with
 |zero=>simp[AV.cells] at ha ha';subst ha ha';exact .inr ⟨rfl,rfl⟩
 |succ k=>simp[AV.cells] at ha
def FrzV (o n:Nat) (es:List AV) (a a':AV):Prop:=FrzC o n es a a'\/∃ cs cs',a=.agg cs/\a'=.agg cs'/\cs.length=cs'.length/\∀ (k:Nat) b b',cs[k]?=some b->cs'[k]?=some b'->FrzC o n es b b'
def X07q (o:Nat) (es:List AV) (a:AV):AV:=match a with
 |.ref q off len=>bif Nat.beq q o then .list true es else .ref q off len
 |a=>a
def Xqf (o:Nat):List AV->Bool
 |[]=>false
 |.ref q _ _::r=>bif Nat.beq q o then true else Xqf o r
 |_::r=>Xqf o r
def frzA (o:Nat) (es:List AV) (a:AV):AV:=match a with
 |.ref q off len=>bif Nat.beq q o then .list true es else .ref q off len
 |.agg cs=>bif Xqf o cs then .agg (cs.map (X07q o es)) else a
 |a=>a
def Xp0 (o n:Nat) (a:AV):Prop:=match a with
 |.ref q off len=>bif Nat.beq q o then (off=0/\len=n) else True
 |_=>True
def Xzw (o n:Nat):List AV->Prop
 |[]=>True
 |a::r=>Xp0 o n a/\Xzw o n r
def Xzx (o n:Nat) (a:AV):Prop:=match a with
 |.ref q off len=>bif Nat.beq q o then (off=0/\len=n) else True
 |.agg cs=>bif Xqf o cs then Xzw o n cs else True
 |_=>True
theorem X000 {o n:Nat} {es:List AV} {a:AV} (h:Xp0 o n a):FrzC o n es a (X07q o es a):=by
 unfold X07q;split
 ·rename_i q off len;simp only[Xp0] at h
  cases hqo:Nat.beq q o with
  |false=>rw[cond_false];exact .inl rfl
  |true =>
   rw[hqo,cond_true] at h;obtain rfl:=Nat.eq_of_beq_eq_true hqo;obtain⟨rfl,rfl⟩:=h;rw[cond_true];exact .inr ⟨rfl,rfl⟩
 ·exact .inl rfl
theorem Xvw {o n:Nat}:∀ {cs:List AV},Xzw o n cs->∀ (k:Nat) b,cs[k]?=some b->Xp0 o n b:=by
 intro cs
 induction cs with
 |nil=>intro _ k b h;simp at h
 |cons a r ih =>
  rintro⟨h1,h2⟩ k b hb
  cases k with
  |zero=>simp at hb;subst hb;exact h1
  |succ k=>simp at hb;exact ih h2 k b hb
def Xlu (slots:List Nat) (o:Nat) (es:List AV) (L:List (Nat×AV)):List (Nat×AV):=slots.map λt=>(t,frzA o es (fr L t))
def Xoz (o n:Nat) (L:List (Nat×AV)):List Nat->Prop
 |[]=>True
 |t::r=>Xzx o n (fr L t)/\Xoz o n L r
def X07o (G:List (Nat×Obj)) (o n:Nat) (es:List AV):List (Nat×Obj)->Prop
 |[]=>True
 |(q,x')::r=>(Nat.beq q o=false/\wkG1 x'.gone (∃ x,hp G q=some x/\x'.esz=x.esz/\x'.solo=true/\x'.spent=false/\Xqw o n es x.es x'.es))/\X07o G o n es r
theorem Xvv {o n:Nat} {es:List AV} {L:List (Nat×AV)}:∀ {slots:List Nat},Xoz o n L slots->∀ t,fr (Xlu slots o es L) t=.junk\/FrzV o n es (fr L t) (fr (Xlu slots o es L) t):=by
 intro slots
 induction slots with
 |nil=>intro _ t;exact .inl rfl
 |cons q r ih =>
  rintro⟨h1,h2⟩ t;have he:fr (Xlu (q::r) o es L) t=bif Nat.beq t q then frzA o es (fr L q) else fr (Xlu r o es L) t:=rfl
  cases hb:Nat.beq t q with
  |false=>rw[he,hb,cond_false];exact ih h2 t
  |true =>
   obtain rfl:=Nat.eq_of_beq_eq_true hb;rw[he,hb,cond_true];refine .inr ?_;unfold frzA;split
   ·rename_i q off len hq;rw[hq];simp only[Xzx,hq] at h1;exact .inl (X000 (a:=.ref q off len) h1)
   ·rename_i cs hq;simp only[Xzx,hq] at h1
    cases hh:Xqf o cs with
    |false=>rw[cond_false];exact .inl (.inl rfl)
    |true =>
     rw[hh,cond_true] at h1;rw[cond_true];refine .inr ⟨cs,_,hq,rfl,by simp,λk b b' hk hk'=>?_⟩;rw[List.getElem?_map,hk] at hk';simp only[Option.map_some,Option.some.injEq] at hk';subst hk';exact X000 (Xvw h1 k b hk)
   ·exact .inl (.inl rfl)
theorem Xzy {G:List (Nat×Obj)} {o n:Nat} {es:List AV}:∀ {G':List (Nat×Obj)},X07o G o n es G'->∀ q x',hp G' q=some x'->q≠o/\∃ x,hp G q=some x/\x'.esz=x.esz/\x'.solo=true/\x'.spent=false/\Xqw o n es x.es x'.es:=by
 intro G'
 induction G' with
 |nil=>intro _ q x' h;cases h
 |cons p r ih =>
  obtain⟨d,y⟩:=p;rintro⟨h1,h2⟩ q x' hx;have he:hp ((d,y)::r) q=bif Nat.beq q d then (bif y.gone then none else some y) else hp r q:=rfl
  cases hb:Nat.beq q d with
  |false=>rw[he,hb,cond_false] at hx;exact ih h2 q x' hx
  |true =>
   obtain rfl:=Nat.eq_of_beq_eq_true hb;rw[he,hb,cond_true] at hx
   cases hg:y.gone with
   |true=>rw[hg] at hx;cases hx
   |false =>
    have h1b:=h1.2;rw[hg] at hx h1b;cases hx
    exact⟨(λe=>by subst e;have h3:=h1.1;rw[Nat.beq_refl] at h3;cases h3),h1b⟩
theorem X001 {nt n0 n o:Nat} {L L':List (Nat×AV)} {G G':List (Nat×Obj)} {y:Obj} (hy:hp G o=some y) (hf:∀ e∈y.es,Xbr e)
  (hL:∀ t,fr L' t=.junk\/FrzV o y.es.length y.es (fr L t) (fr L' t))
  (hG:∀ q x',hp G' q=some x'->q≠o/\∃ x,hp G q=some x/\x'.esz=x.esz/\x'.solo=true/\x'.spent=false/\Xqw o y.es.length y.es x.es x'.es):StTo nt n0 ⟨fr L,hp G,n⟩ ⟨fr L',hp G',n⟩:=by
 intro c0 H0 c act μ g hm;let c':Ctx:={ c with So:=λb=>c.So b\/b=(c.ρ o).blk }
 have hle:∀ {M:Nat->Prop},c.Le M c':=⟨λ_ _=>rfl,λ_ h=>h,λ_ h=>.inl h,λ_ _=>rfl,rfl⟩;obtain⟨hoM,hor,hok⟩:=g.inv.obj o y hy;have hblk:(c.ρ o).blk<c.w.heap.size:=by
  obtain⟨⟨cur,hb,_⟩,_⟩:=hor;exact(Array.getElem?_eq_some_iff.1 hb).1
 let Hr:X0p:=λq=>if q=o then some y else none
 have hIr:Inv c Hr (·<n):=by
  refine g.inv.forget (λq x hx=>?_) (λq q' x x' hx hx' hne hb=>?_)
  ·by_cases hq:q=o
   ·have hx2:y=x:=by simpa[Hr,hq] using hx
    exact⟨y,by rw[hq];exact hy,by rw[hx2],by rw[hx2],λh=>by rw[hx2];exact h⟩
   ·simp[Hr,hq] at hx
  ·exfalso;by_cases hq:q=o
   ·by_cases hq':q'=o
    ·exact hne (hq.trans hq'.symm)
    ·simp[Hr,hq'] at hx'
   ·simp[Hr,hq] at hx
 have hcv:Cv true Hr (.ref o 0 y.es.length) (.list true y.es):=by
  refine .ref (x:=y) (by simp[Hr]) om rfl (λi e e' he he'=>?_) (λi e e' k a b he he' ha hb=>?_)
  ·rw[Nat.zero_add] at he;rw[he] at he';cases he';rfl
  ·rw[Nat.zero_add] at he;rw[he] at he';cases he';rw[ha] at hb;cases hb;obtain⟨v,rfl⟩:=hf e (List.mem_of_getElem? he) a (List.mem_of_getElem? ha);exact .sc
 have hfrz:∀ {v:Value},X13 c false (.ref o 0 y.es.length) v->X13 c' false (.list true y.es) v:=λ{v} hv =>
  (X081 hIr (c':=c') rfl (λb hb=>hb.elim (λh=>.inl ⟨rfl,h⟩) (λh=>.inr (.inl h))) (λ_ b hb=>.inl hb) (λq x hx=>by
   by_cases hq:q=o
   ·subst hq;exact .inr (.inr rfl)
   ·simp[Hr,hq] at hx) hcv hv).shallow
 have hsep:∀ q x,hp G q=some x->q≠o->(c.ρ q).blk≠(c.ρ o).blk:=λq x hx hne hb=>by
  have:=(g.inv.sep q o x y hx hy hne hb).1;rw[(g.solo q x hx).1] at this;cases this
 have hcell:∀ {a a':AV} {v:Value},FrzC o y.es.length y.es a a'->X13 c false a v->a.Ok (·<n)->X13 c' false a' v/\a'.Ok (·<n):=by
  rintro a a' v (rfl|⟨rfl,rfl⟩) hv hk
  ·exact⟨hv.mono (M:=(·<n)) hle (.inr hk),hk⟩
  ·exact⟨hfrz hv,.list⟩
 have gI:Inv c' (hp G') (·<n):=by
  refine⟨λq x' hx'=>?_,λq q' x1 x2 h1 h2 hne hb=>?_,λq x' hx'=>?_,λb hb=>?_,g.inv.base,λb hb=>?_,λq x' hx'=>?_⟩
  ·obtain⟨hne,x,hx,hz,_,_,hF⟩:=hG q x' hx';obtain⟨i1,⟨⟨cur,hb,hs,hc⟩,i3,i4,i5⟩,i6⟩:=g.inv.obj q x hx;have hget:∀ (i:Nat) e',x'.es[i]?=some e'->∃ e,x.es[i]?=some e/\FrzE o y.es.length y.es e e':=λi e' he'=>by
    have hlt:i<x.es.length:=by rw[hF.1];exact(List.getElem?_eq_some_iff.1 he').1
    exact⟨_,List.getElem?_eq_getElem hlt,hF.2 i _ e' (List.getElem?_eq_getElem hlt) he'⟩
   refine⟨i1,⟨⟨cur,hb,hs,λi e' he'=>?_⟩,by rw[<-hF.1];exact i3,i4,by rw[hz];exact i5⟩,λe' he' a' ha'=>?_⟩
   ·obtain⟨e,he,hfe⟩:=hget i e' he';obtain⟨k1,k2⟩:=hc i e he;refine⟨hfe.1.symm.trans k1,λk a' ha'=>?_⟩;have hlt:k<e.cells.length:=by rw[hfe.1];exact(List.getElem?_eq_some_iff.1 ha').1
    obtain⟨v,v1,v2,v3⟩:=k2 k _ (List.getElem?_eq_getElem hlt);exact⟨v,v1,(hcell (hfe.2 k _ a' (List.getElem?_eq_getElem hlt) ha') v2 (i6 e (List.mem_of_getElem? he) _ (List.getElem_mem hlt))).1,v3⟩
   ·obtain⟨i,hi⟩:=List.getElem?_of_mem he';obtain⟨e,he,hfe⟩:=hget i e' hi;obtain⟨k,hk⟩:=List.getElem?_of_mem ha';have hlt:k<e.cells.length:=by rw[hfe.1];exact(List.getElem?_eq_some_iff.1 hk).1
    rcases hfe.2 k _ a' (List.getElem?_eq_getElem hlt) hk with h|⟨_,h⟩
    ·rw[h];exact i6 e (List.mem_of_getElem? he) _ (List.getElem_mem hlt)
    ·rw[h];exact .list
  ·obtain⟨_,y1,hy1,_⟩:=hG q x1 h1;obtain⟨_,y2,hy2,_⟩:=hG q' x2 h2;have:=(g.inv.sep q q' y1 y2 hy1 hy2 hne hb).1;rw[(g.solo q y1 hy1).1] at this;cases this
  ·obtain⟨hne,x,hx,_⟩:=hG q x' hx';have:=g.inv.stab q x hx;exact⟨this.1,λh=>h.elim this.2 (hsep q x hx hne)⟩
  ·rcases hb with hb|hb|hb
   ·exact g.inv.lt b (.inl hb)
   ·exact g.inv.lt b (.inr hb)
   ·show b<c.w.heap.size;rw[hb];exact hblk
  ·rcases hb with hb|hb
   ·exact g.inv.own b hb
   ·show c.B<=b;rw[hb];exact g.inv.low o y hy
  ·obtain⟨_,x,hx,_⟩:=hG q x' hx';exact g.inv.low q x hx
 have r:=g.reach;refine⟨c',rfl,⟨gI,λq x' hx'=>?_,λt=>?_,λt=>?_,g.size,⟨r.rho,r.os,r.tape,r.output,r.size,r.block,r.stable,r.sa,λb hb=>.inl (r.so1 b hb),λb hb=>?_,r.B,λq x' hx'=>?_⟩,g.le0⟩,⟨λp hp=>(hm.is p hp).le rfl hle,λp hp=>?_,hm.nodup,hm.ds⟩⟩
 ·obtain⟨_,_,_,_,h1,h2,_⟩:=hG q x' hx';exact⟨h1,h2⟩
 ·show X13 c' false (fr L' t) _;rcases hL t with h|h|⟨cs,cs',h1,h2,hl,hc⟩
  ·rw[h];exact .junk
  ·exact(hcell h (g.frame t) (g.ok t)).1
  ·rw[h2];have hfv:=g.frame t;have hfo:=g.ok t;rw[show St.A ⟨fr L,hp G,n⟩ t=_ from h1] at hfv hfo
   cases hfo with
   |agg hko =>
    generalize hvv:act.tmps.getD _ undef=vv at hfv
    cases hfv with
    |agg hls hoc hrl =>
     refine .agg om hoc λi a' v ha' hv=>?_;have hlt:i<cs.length:=by rw[hl];exact(List.getElem?_eq_some_iff.1 ha').1
     exact(hcell (hc i _ a' (List.getElem?_eq_getElem hlt) ha') (hrl i _ v (List.getElem?_eq_getElem hlt) hv) (hko _ (List.getElem_mem hlt))).1
 ·show(fr L' t).Ok _;rcases hL t with h|h|⟨cs,cs',h1,h2,hl,hc⟩
  ·rw[h];exact .junk
  ·exact(hcell h (g.frame t) (g.ok t)).2
  ·rw[h2];have hfv:=g.frame t;have hfo:=g.ok t;rw[show St.A ⟨fr L,hp G,n⟩ t=_ from h1] at hfv hfo
   cases hfo with
   |agg hko =>
    refine .agg λa' ha'=>?_;obtain⟨i,hi⟩:=List.getElem?_of_mem ha';have hlt:i<cs.length:=by rw[hl];exact(List.getElem?_eq_some_iff.1 hi).1
    rcases hc i _ a' (List.getElem?_eq_getElem hlt) hi with h|⟨_,h⟩
    ·rw[h];exact hko _ (List.getElem_mem hlt)
    ·rw[h];exact .list
 ·rcases hb with hb|hb
  ·exact r.so2 b hb
  ·rw[hb];exact .inr (r.own o y hy)
 ·obtain⟨_,x,hx,_⟩:=hG q x' hx';exact r.own q x hx
 ·obtain⟨a1,a2,a3,a4⟩:=hm.away p hp;exact⟨a1,λh=>h.elim a2 (λh=>a3 o y hy h.symm),λq x' hx'=>by obtain⟨_,x,hx,_⟩:=hG q x' hx';exact a3 q x hx,a4⟩
theorem X2.freeze {P:Program} {nt n0 n:Nat} {Q:X03->St->Mu->Prop} {cf:Cf} {K:List Kn} {L:List (Nat×AV)} {G:List (Nat×Obj)} {μ:Mu} (o:Nat) (es:List AV) (slots:List Nat) (G':List (Nat×Obj)) {y:Obj} (hy:hp G o=some y) (he:y.es=es) (hf:∀ e∈es,Xbr e)
  (h:X2 P nt n0 Q cf K ⟨fr (Xlu slots o es L),hp G',n⟩ μ) (hL:Xoz o es.length L slots) (hG:X07o G o es.length es G'):X2 P nt n0 Q cf K ⟨fr L,hp G,n⟩ μ:=by
 subst he;exact X2.to (X001 hy hf (Xvv hL) (Xzy hG)) h
def X8g:List Bool->List AV->List AV
 |true::m,c::cs=>denC c::X8g m cs
 |false::m,c::cs=>c::X8g m cs
 |_,cs=>cs
theorem Xw3:∀ (m:List Bool) (cs:List AV),(X8g m cs).length=cs.length/\∀ (k:Nat) a',(X8g m cs)[k]?=some a'->∃ a,cs[k]?=some a/\(a'=a\/a'=denC a):=by
 intro m
 induction m with
 |nil=>intro cs;exact⟨rfl,λk a' h=>⟨a',h,.inl rfl⟩⟩
 |cons b m ih =>
  intro cs
  cases cs with
  |nil=>cases b<;>exact⟨rfl,λk a' h=>⟨a',h,.inl rfl⟩⟩
  |cons c cs =>
   obtain⟨h1,h2⟩:=ih cs
   cases b with
   |true =>
    refine⟨by simp[X8g,h1],λk a' h=>?_⟩
    cases k with
    |zero=>simp[X8g] at h;exact⟨c,rfl,.inr h.symm⟩
    |succ k=>simp[X8g] at h;simpa using h2 k a' h
   |false =>
    refine⟨by simp[X8g,h1],λk a' h=>?_⟩
    cases k with
    |zero=>simp[X8g] at h;exact⟨c,rfl,.inl h.symm⟩
    |succ k=>simp[X8g] at h;simpa using h2 k a' h
theorem Xbw {P:Prop} (h:P:=by
 first
  |exact trivial
  |rfl
  |exact⟨rfl,rfl⟩
  |(refine⟨rfl,?_⟩;first|rfl|(simp;done)|(simp;rfl)|(simp[*];done))
  |exact⟨rfl,_,rfl,rfl,rfl,rfl,Xuc⟩
  |(refine⟨rfl,_,rfl,rfl,rfl,rfl,Xud (X044 ?_) Xzv⟩;first|rfl|(simp;done)|(simp[*];done))):P:=h
end Go.Av


namespace Go.D
end Go.D
namespace Go.Av
open Go.D
class Xf9 {α:Type} (f:α->AV):Prop where
 flat:∀ x,Xbr (f x)
 whole:∀ x,(f x).whole=true
 still:∀ x,X8d (f x)
instance iInt {k:IntKind}:Xf9 (aI k):=⟨λ_=>Xf3,λ_=>rfl,λ_=>Xgc⟩
instance X0f0:Xf9 aB:=⟨λ_=>Xf3,λ_=>rfl,λ_=>Xgc⟩
class X08k {α:Type} (g:Bool->α->AV):Prop where
 cva:∀ {H:X0p} {o:Bool} {x:α},Cv false H (g o x) (g false x)
 cvt:∀ {H:X0p} {o:Bool} {x:α},Cv true H (g o x) (g o x)
 len:∀ (o o':Bool) (x:α),(g o x).cells.length=(g o' x).cells.length
 free:∀ (o:Bool) (x:α),Xda (g o x)
 still:∀ (o:Bool) (x:α),X8d (g o x)
theorem cvLf {α:Type} {f:α->AV} [i:Xf9 f] {H:X0p} {o:Bool} {l:List α}:Cv false H (.list o (l.map f)) (.list false (l.map f)):=X6a (X16 i.flat l)
theorem cvR {α:Type} {f:α->AV} [i:Xf9 f] {m:Bool} {H:X0p} {o n:Nat} {x:Obj} {l:List α} (hH:H o=some x) (he:x.es=l.map f) (hn:n=(l.map f).length):Cv m H (.ref o 0 n) (.list m (l.map f)) :=
 Xqn hH he hn (X16 i.flat l)
theorem X0du {α:Type} {f:α->AV} {m:Bool} {H:X0p} {l:List α} (h:l=[]):Cv m H .nils (.list m (l.map f)):=X082 (by rw[h];rfl)
theorem ownL {α:Type} {f:α->AV} [i:Xf9 f] {l:List α}:Xmc (.list true (l.map f)):=Xy5 (X16 i.flat l)
def CvE (m:Bool) (H:X0p) (e e':AV):Prop:=e.cells.length=e'.cells.length/\∀ (k:Nat) a b,e.cells[k]?=some a->e'.cells[k]?=some b->Cv m H a b
def CvL (m:Bool) (H:X0p) (l l':List AV):Prop:=l.length=l'.length/\∀ (i:Nat) e e',l[i]?=some e->l'[i]?=some e'->CvE m H e e'
theorem CvL.nil {m:Bool} {H:X0p}:CvL m H [] []:=⟨rfl,λi e e' h=>by simp at h⟩
theorem CvL.cons {m:Bool} {H:X0p} {e e':AV} {l l':List AV} (h:CvE m H e e') (t:CvL m H l l'):CvL m H (e::l) (e'::l'):=by
 refine⟨by simp[t.1],λi a b ha hb=>?_⟩
 cases i with
 |zero=>simp at ha hb;subst ha;subst hb;exact h
 |succ i=>simp at ha hb;exact t.2 i a b ha hb
theorem cvM {P:Prop} (h:P:=by
 repeat' first
  |exact Cvs.nil
  |refine Cvs.cons ?_ ?_
  |exact Cv.sc
  |exact Cv.fn0
  |exact Cv.listS rfl
  |exact cvLf
  |exact cvW
  |exact cvGt
  |exact cvG
  |exact cvLg
  |exact cvLe
  |refine X0ad ?_
  |exact Cv.nils
  |exact X0du (by first|rfl|assumption|(simp;done)|(simp[*];done)|fail)
  |exact cvR rfl (by first|rfl|(simp;done)|(simp;rfl)|(simp[*];done)|(simp[*];rfl)|fail) (by first|rfl|(simp;done)|(simp;omega)|(simp[*];done)|(simp[*];omega)|fail)
  |exact cvRt rfl (by first|rfl|(simp;done)|(simp;rfl)|(simp[*];done)|fail) (by first|rfl|(simp;done)|(simp;omega)|(simp[*];done)|fail)
  |exact cvRg true rfl (by first|rfl|(simp;done)|(simp;rfl)|(simp[*];done)|fail) (by first|rfl|(simp;done)|(simp;omega)|(simp[*];done)|fail)
  |exact cvRg false rfl (by first|rfl|(simp;done)|(simp;rfl)|(simp[*];done)|fail) (by first|rfl|(simp;done)|(simp;omega)|(simp[*];done)|fail)
  |exact cvRe true rfl (by first|rfl|(simp;done)|(simp;rfl)|(simp[*];done)|fail) (by first|rfl|(simp;done)|(simp;omega)|(simp[*];done)|fail)
  |exact cvRe false rfl (by first|rfl|(simp;done)|(simp;rfl)|(simp[*];done)|fail) (by first|rfl|(simp;done)|(simp;omega)|(simp[*];done)|fail)
  |exact cvRf rfl (by first|rfl|(simp;done)|(simp;rfl)|(simp[*];done)|fail) (by first|rfl|(simp;done)|(simp;omega)|(simp[*];done)|fail)
  |exact cvLq (by first|rfl|(simp;done)|(simp[*];done)|fail)
  |exact cv_leqS (by first|rfl|(simp;done)|(simp[*];done)|fail)
  |exact cv_scE (by first|rfl|(simp;done)|(simp[*];done)|fail)
  |refine Xqo ?_
  |exact Cv.nils0
  |refine cv_refs rfl ?_ rfl
  |exact CvL.nil
  |refine CvL.cons ?_ ?_
  |refine cvE_agg ?_
  |refine cvE_one ?_ rfl rfl
  |refine Cv.ptrL rfl rfl rfl rfl (cv_cells ?_)
  |refine Cv.elemD rfl rfl (cv_cells ?_)
  |refine Cv.weak ?_
 first|done|fail):P:=h
theorem ownM {P:Prop} (h:P:=by
 repeat' first
  |exact .sc
  |exact ownL
  |exact ownW
  |refine Xq1 ?_
  |refine X0z ?_ ?_
  |exact X8i
  |refine Xmc.agg ?_
 first|done|fail):P:=h
class PCs (P:Program) (f:Nat) (S:outParam Prop):Prop where
 ok:S
theorem pcN {P:Program} {f:Nat} {H:X0p} {as bs:List AV} {r:AV} {S:Prop} [i:PCs P f S] (k:S->X0b P f bs r) (hc:Cvs false (λ_=>none) as bs):X67 P f H as bs r:=.none (k i.ok) hc
theorem pcL {P:Program} {f:Nat} {H:X0p} {as bs:List AV} {r:AV} {S:Prop} [i:PCs P f S] (k:S->X0b P f bs r) (hc:Cvs false H as bs) (ho:Xmc r):X67 P f H as bs r:=.lent (k i.ok) hc ho
theorem pcM {P:Prop} (h:P:=by
 first
  |exact pcN (by intro K;apply K;assumption) cvM
  |exact pcL (by intro K;apply K;assumption) cvM ownM):P:=h
theorem fq {p:Prop} (h:p) {P:Prop} (k:p->P:=by first|exact id|exact X08d|exact absT|exact absN):P:=k h
theorem Xu {P:Prop} (h:P:=by
 repeat' first
  |refine And.intro ?_ ?_
  |exact trivial
  |exact pcM
  |exact oblA
 first|done|fail):P:=h
theorem X0b2 {cs:List AV} {M:Nat->Prop} (h:∀ a∈cs,a.Ok M):∀ e∈[AV.agg cs],∀ a∈e.cells,a.Ok M:=λe he=>by rw[List.mem_singleton.1 he];exact h
def X02o (f:Nat->Nat):List AV->List AV->Prop
 |[],[]=>True
 |a::r,b::s=>a=b.ren f/\X02o f r s
 |_,_=>False
theorem Xts {f:Nat->Nat}:∀ {cs cs':List AV},X02o f cs cs'->cs=AV.rens f cs'
 |[],[],_=>rfl
 |a::r,b::s,h=>by
  show a::r=AV.ren f b::AV.rens f s;rw[<-h.1,<-Xts h.2]
 |[],_::_,h=>h.elim
 |_::_,[],h=>h.elim
theorem aggV {f:Nat->Nat} {cs cs':List AV} (h:X02o f cs cs'):AV.agg cs=(AV.agg cs').ren f:=by rw[Xts h];rfl
theorem aggR {f:Nat->Nat} {cs cs':List AV} (h:X02o f cs cs'):[AV.agg cs]=[AV.agg cs'].map (AV.ren f):=by rw[aggV h];rfl
theorem refR {f:Nat->Nat} {i j n m:Nat} (hi:j=f i) (h:n=m):AV.ref j 0 n=(AV.ref i 0 m).ren f:=by rw[hi,h];rfl
class TmD (P:Program) (T:outParam Ty):Prop where
 ok:Xdb P T/\P.follows .mixedOrders=true
abbrev nbS {α:Type} {l:List α} (h:l=[]:=by first|rfl|simp[*]):Nb l:=nbT h
theorem okF {α:Type} {f:α->AV} [i:Xf9 f] {x:α} {M:Nat->Prop}:(f x).Ok M:=(X4i (i.flat x) (i.whole x) M).1
theorem okG {α:Type} {g:Bool->α->AV} [i:X08k g] {o:Bool} {x:α} {M:Nat->Prop}:(g o x).Ok M:=(i.free o x M).1
theorem okM {P:Prop} (h:P:=by
 repeat' first
  |exact X8i
  |refine X0z ?_ ?_
  |exact .sc
  |exact .list
  |exact Xy7
  |exact .elem
  |exact okF
  |exact okG
 first|done|fail):P:=h
theorem bI {α β:Type} {x:Option α} {f:α->Option β} {r:β} {G:Prop} (k:∀ v,x=some v->f v=some r->G):x.bind f=some r->G:=λh=>X0ah h k
theorem brI {α:Type} {c:Bool} {a b:Option α} {r:α} {G:Prop} (h1:c=true->a=some r->G) (h2:c=false->b=some r->G):(bif c then a else b)=some r->G:=λh=>brE h h1 h2
theorem oj {α:Type} {a b:α} (h:some a=some b):a=b:=Option.some.inj h
theorem X0j {P:Program} {T:Ty} {nt n0:Nat} {μ:Mu} {Q:X03->St->Mu->Prop} {cf cf':Cf} {K K':List Kn} {L L':List (Nat×AV)} {G G':List (Nat×Obj)} {n n':Nat} {hs':List X2d} {ps':List Prop} [hT:TmD P T] (hs:List X2d)
  (k:X2 P nt n0 Q cf' K' ⟨fr L',hp G',n'⟩ μ) (h:Xcv P T nt 4000 cf K L G n hs []=some (cf',K',L',G',n',hs',ps'):=by exact rfl) (o:X50 ps':=by exact Xu):X2 P nt n0 Q cf K ⟨fr L,hp G,n⟩ μ:=Xtp hT.ok 4000 hs h o k
theorem rnI {A:Prop} {P:Program} {T:Ty} {nt n0:Nat} {μ:Mu} {Q:X03->St->Mu->Prop} {cf cf':Cf} {K K':List Kn} {L L':List (Nat×AV)} {G G':List (Nat×Obj)} {n n':Nat} {hs':List X2d} {ps':List Prop} [hT:TmD P T] (hs:List X2d)
  (k:A->X2 P nt n0 Q cf' K' ⟨fr L',hp G',n'⟩ μ) (h:Xcv P T nt 4000 cf K L G n hs []=some (cf',K',L',G',n',hs',ps'):=by exact rfl) (o:X50 ps':=by exact Xu):A->X2 P nt n0 Q cf K ⟨fr L,hp G,n⟩ μ:=λa=>Xtp hT.ok 4000 hs h o (k a)
theorem X6 {P:Program} {T:Ty} {nt n0:Nat} {μ:Mu} {Q:X03->St->Mu->Prop} {cf cf':Cf} {K K':List Kn} {L L':List (Nat×AV)} {G G':List (Nat×Obj)} {n n':Nat} {hs':List X2d} {ps':List Prop} [hT:TmD P T] (hs:List X2d)
  (h:Xcv P T nt 4000 cf K L G n hs []=some (cf',K',L',G',n',hs',ps'):=by exact rfl) (o:X50 ps':=by exact Xu) (k:X2 P nt n0 Q cf' K' ⟨fr L',hp G',n'⟩ μ):X2 P nt n0 Q cf K ⟨fr L,hp G,n⟩ μ:=Xtp hT.ok 4000 hs h o k
theorem fi {P:Program} {T:Ty} {nt n0:Nat} {fn:Func} {r:AV} {L:List (Nat×AV)} {G:List (Nat×Obj)} {n:Nat} {μ:Mu} {rs:List AV} (hr:resS T L G fn.results.toList=some rs:=by exact rfl) (hc:Cv true (hp G) (Xim rs) r:=by exact cvM):X2 P nt n0 (X038 T fn r) (.exit .ret) [] ⟨fr L,hp G,n⟩ μ:=Xp2 hr hc
end Go.Av


namespace Go.Av
theorem X2.copyS {P:Program} {T:Ty} {nt n0:Nat} {Q:X03->St->Mu->Prop} {ops:Array Oper} {l:List Oper} {o:Oper} {K:List Kn} {L:List (Nat×AV)} {G:List (Nat×Obj)} {n:Nat} {μ:Mu} {d x:Operand} {t t' q off len et:Nat} {y:Obj} {xa:AV} {xs:List AV} {te ti:TI} {qd qx:List Prop}
  (es':List AV) (m:Nat) (hT:Xdb P T) (ho:o.op=.call { callee:=.builtin .copy,args:=#[d,x],argTypes:=#[t,t'] }) (hg:o.guard=none) (hdst:Xm1 nt o.dst=true) (hd:rd L d=(.ref q off len,qd)) (hqd:X50 qd) (hH:hp G q=some y) (hle:Nat.ble (off+len) y.es.length=true)
  (hx:rd L x=(xa,qx)) (hqx:X50 qx) (hsrc:Xte (hp G) xa xs) (hm:min xs.length len=m) (hn0:Nat.ble 1 m=true) (ht:T t=some ti) (hk:ti.kind=.slice et) (hte:T et=some te) (hsz:(xs.all λe=>Nat.beq e.cells.length te.size)=true) (hes:y.esz=te.size)
  (hsp:splice y.es off (xs.take m)=es')
  (h:X2 P nt n0 Q (.ops ops l) K ⟨fr (putO o.dst (.sc (.int .i64 m)) L),hp ((q,{ y with es:=es' })::G),n⟩ μ):X2 P nt n0 Q (.ops ops (o::l)) K ⟨fr L,hp G,n⟩ μ:=by
 subst hm hsp;refine X5x.plain (s:=⟨fr L,hp G,n⟩) hg (Xa7 hdst) (OpR.copy (s:=⟨fr L,hp G,n⟩) hT ho (X18 hd hqd) hH (by simpa using hle) (by rw[show evA (St.A ⟨fr L,hp G,n⟩) x=_ from X18 hx hqx];exact hsrc) (by simp at hn0;omega) ht hk hte (λe he=>by
  have:=List.all_eq_true.1 hsz e he;simpa using this) hes) ?_
 rintro _ _ _ ⟨rfl,rfl,rfl⟩;rw[X73] at h;have e:goInt (min (xs.length:Int) (len:Int))=.int .i64 ((min xs.length len:Nat):Int):=by unfold goInt;congr 1;omega
 rw[e];have hgn:=Xgk hH;rw[Xew] at h
 ·exact h
 ·exact hgn
end Go.Av


namespace Go.Av
open Go
def Xjo (o:Oper):Oper:={ o with after:=o.after.push { on:=0,ground:=.data } }
def X11 (ops:Array Oper) (c:Nat):Array Oper:=ops.modify c Xjo
theorem Xes (o:Oper):∀ j,j∈X9w (Xjo o)↔j∈X9w o\/j=0:=by
 intro j;simp only[X9w,Xjo,Array.toList_push,List.filter_append,List.map_append,List.mem_append];constructor
 ·rintro(h|h)
  ·exact .inl h
  ·right;obtain⟨e,he,rfl⟩:=List.mem_map.1 h;rw[List.mem_singleton.1 (List.mem_filter.1 he).1]
 ·rintro(h|rfl)
  ·exact .inl h
  ·right;exact List.mem_map.2 ⟨_,List.mem_filter.2 ⟨List.mem_singleton.2 rfl,rfl⟩,rfl⟩
section
variable {P:Program} {ops:Array Oper} {Q:Exit->Act->World->Prop}
theorem Oper.wp_put {o:Oper} {a a2:Act} {w:World} {K K2:Act->World->Prop} (hQ:(∀ ch a w,¬ Q (.panic ch) a w)/\∀ a w,¬ Q .outgrown a w) (he:execOp a2.eval o=execOp a.eval o) (hr:∀ n w',(execOp a.eval o).run P w=.ok n w'->∃ v,n=.value v) (hK:∀ v w',K (a2.put o.dst v) w'->K2 (a.put o.dst v) w')
  (hh:o.wp P a2 w K Q):o.wp P a w K2 Q:=by
 unfold Oper.wp at *;rw[he] at hh;generalize (execOp a.eval o).run P w=r at *
 cases r with
 |ok n w' =>
  obtain⟨v,rfl⟩:=hr n w' rfl;simp only[Oper.upon] at hh ⊢;exact hK _ _ hh
 |halt x w'=>cases x<;>simp only[Oper.upon] at hh ⊢<;>first|exact hh|exact absurd hh (hQ.1 _ _ _)|exact absurd hh (hQ.2 _ _)
theorem Xph {o:Oper} {a:Act} {w:World} {K:Act->World->Prop} (h:(Xjo o).wp P a w K Q):o.wp P a w K Q:=h
theorem Xnw {i:Nat} {o:Oper} {K:Act->World->Prop} {a:Act} {w:World} (hQ:(∀ ch a w,¬ Q (.panic ch) a w)/\∀ a w,¬ Q .outgrown a w) (ho:ops[i]?=some o) (hg:o.guard=none) (h:wpOp P ops Q i K a w):o.wp P a w K Q:=by
 unfold wpOp at h;rw[ho] at h;simp only at h;rw[if_pos (by simp[Region.wanted,hg])] at h;rcases h with h|⟨_,a0,w0,h⟩
 ·exact h
 ·exact absurd h (hQ.2 _ _)
theorem Xnx {i:Nat} {o:Oper} {K:Act->World->Prop} {a:Act} {w:World} (ho:ops[i]?=some o) (hg:o.guard=none) (h:o.wp P a w K Q):wpOp P ops Q i K a w:=by
 unfold wpOp;rw[ho];simp only;rw[if_pos (by simp[Region.wanted,hg])];exact .inl h
theorem Xho {c:Nat} {oc:Oper} (hc:ops[c]?=some oc) (i:Nat):(X11 ops c)[i]?=if i=c then some (Xjo oc) else ops[i]?:=by
 unfold X11;rw[Array.getElem?_modify];by_cases h:i=c
 ·subst h;simp[hc]
 ·rw[if_neg (λe=>h e.symm),if_neg h]
theorem X08i (a:Act) {d d':Nat} (v v':Value) (h:d≠d'):(a.put (some d) v).put (some d') v'=(a.put (some d') v').put (some d) v:=by
 simp only[Act.put];rw[Array.setIfInBounds_comm _ _ (by exact h)]
theorem Xr6 {c d0 dc src:Nat} {o0 oc:Oper} (hQ:(∀ ch a w,¬ Q (.panic ch) a w)/\∀ a w,¬ Q .outgrown a w) (hpre:X6e 0 ops.toList=true)
  (h0:ops[0]?=some o0) (hop:o0.op=.move (.tmp src)) (hg0:o0.guard=none) (hd0:o0.dst=some d0) (hp0:X9w o0=[]) (hc:ops[c]?=some oc) (hc0:c≠0) (hgc:oc.guard=none) (hdc:oc.dst=some dc) (hne:dc≠d0) (hns:dc≠src)
  (hg:∀ (i:Nat) (o:Oper),ops[i]?=some o->o.guard=none) (hres:∀ (a:Act) w n w',(execOp a.eval oc).run P w=.ok n w'->∃ v,n=.value v)
  (hex:∀ (a:Act) v,execOp (a.put (some d0) v).eval oc=execOp a.eval oc)
  (hall:∀ i,i<ops.size->i≠0->i≠c->((X1i ops.toList).getD c 0).testBit i=true\/((X1i ops.toList).getD i 0).testBit 0=true) :
  ∀ (f:Nat) (L:Array Bool) (a:Act) (w:World),L.size=ops.size->Xgm ops L->wpAny P .any (X11 ops c) Q f L a w->wpAny P .any ops Q f L a w:=by
 have hsz':(X11 ops c).size=ops.size:=by simp[X11]
 have hlt0:0<ops.size:=(Array.getElem?_eq_some_iff.1 h0).1;have hltc:c<ops.size:=(Array.getElem?_eq_some_iff.1 hc).1;have h0':(X11 ops c)[0]?=some o0:=by rw[Xho hc,if_neg (Ne.symm hc0)];exact h0
 have hc':(X11 ops c)[c]?=some (Xjo oc):=by rw[Xho hc,if_pos rfl]
 have rd:∀ (L:Array Bool) i,L.size=ops.size->i∈Region.ready .any ops L->(i=c->L.getD 0 false=true)->i∈Region.ready .any (X11 ops c) L:=by
  intro L i hL hi hic;have hio:=(X1w.1 hi).1;have ho:ops.toList[i]?=some ops[i]:=by simp[hio]
  have hnl:L.getD i false=false:=by
   have h1:=(X1w.1 hi).2.1;have hil:i<L.size:=by omega
   simp only[Array.getD_eq_getD_getElem?,Array.getElem?_eq_getElem hil,Option.getD_some] at h1 ⊢;exact h1
  have hp:=X83 hi ho;by_cases h:i=c
  ·subst h;refine X6g (o:=Xjo oc) om (by simpa using hc') hnl λj hj=>?_;rcases(Xes oc j).1 hj with h1|rfl
   ·have:ops[i]=oc:=by have:=hc;rw[Array.getElem?_eq_getElem hio] at this;exact Option.some.inj this
    rw[this] at hp;exact hp j h1
   ·exact hic rfl
  ·refine X6g (o:=ops[i]) om ?_ hnl hp;have:=Xho hc i;rw[if_neg h] at this;simpa[hio] using this
 have rd0:∀ (L:Array Bool),L.size=ops.size->L.getD 0 false=false->0∈Region.ready .any ops L/\0∈Region.ready .any (X11 ops c) L:=by
  intro L hL hl;have h1:0∈Region.ready .any ops L:=X6g (o:=o0) hL (by simpa using h0) hl (λj hj=>by rw[hp0] at hj;cases hj);exact⟨h1,rd L 0 hL h1 (λe=>absurd e.symm hc0)⟩
 have hmove:∀ (a:Act) (w:World),(execOp a.eval o0).run P w=.ok (.value (a.eval (.tmp src))) w:=by
  intro a w;obtain⟨dst,op,type,pos,after,guard⟩:=o0;simp only at hop;subst hop;simp[execOp]
 have mv:∀ (opsx:Array Oper) (K:Act->World->Prop) (a:Act) (w:World),opsx[0]?=some o0->(wpOp P opsx Q 0 K a w↔K (a.put (some d0) (a.eval (.tmp src))) w):=by
  intro opsx K a w hx;constructor
  ·intro h;have h1:=Xnw hQ hx hg0 h;unfold Oper.wp at h1;rw[hmove] at h1;have h2:K (a.put o0.dst (a.eval (.tmp src))) w:=h1
   rwa [hd0] at h2
  ·intro h;refine Xnx hx hg0 ?_;unfold Oper.wp;rw[hmove];show K (a.put o0.dst (a.eval (.tmp src))) w;rw[hd0];exact h
 have hcl:∀ (L:Array Bool) i,L.size=ops.size->Xgm ops L->i∈Region.ready .any ops L->Xgm ops (L.setIfInBounds i true):=by
  intro L i hL hC hi k o ho hk q hq;have hio:=(X1w.1 hi).1;rw[X3v om] at hk ⊢;rcases Bool.or_eq_true_iff.1 hk with hk|hk
  ·rw[hC k o ho hk q hq];rfl
  ·have:k=i:=by simpa using hk
   subst this;rw[X83 hi ho q hq];rfl
 intro f
 induction f using Nat.strongRecOn with
 |_ f ih =>
  intro L a w hL hC h
  cases f with
  |zero =>
   obtain⟨h1,h2⟩:=h;refine⟨?_,h2⟩;rw[List.eq_nil_iff_forall_not_mem];intro i hi
   cases hl0:L.getD 0 false with
   |true=>have:=rd L i hL hi (λ_=>hl0);rw[h1] at this;cases this
   |false=>have:=(rd0 L hL hl0).2;rw[h1] at this;cases this
  |succ f =>
   obtain⟨h1,h2⟩:=h;refine⟨λhr=>h1 ?_,λi hi=>?_⟩
   ·rw[List.eq_nil_iff_forall_not_mem];intro i hi;have hio:=(X1w.1 hi).1;have hnl:L.getD i false=false:=by
     have h3:=(X1w.1 hi).2.1;have hil:i<L.size:=by omega
     simp only[Array.getD_eq_getD_getElem?,Array.getElem?_eq_getElem hil,Option.getD_some] at h3 ⊢;exact h3
    have:i∈Region.ready .any ops L:=by
     by_cases hic:i=c
     ·subst hic;refine X6g (o:=oc) hL (by simpa using hc) hnl λj hj=>?_;exact X83 hi (by simpa using hc') j ((Xes oc j).2 (.inl hj))
     ·have hx:=Xho hc i;rw[if_neg hic] at hx;have hlt:i<ops.size:=by omega
      refine X6g (o:=ops[i]) hL (by simp[hlt]) hnl λj hj=>?_;exact X83 hi (o:=ops[i]) (by rw[Array.getElem?_toList,hx];simp[hlt]) j hj
    rw[hr] at this;cases this
   ·have hio:=(X1w.1 hi).1;by_cases hs:i=c/\L.getD 0 false=false
    ·obtain⟨rfl,hl0⟩:=hs;obtain⟨_,r0⟩:=rd0 L hL hl0;have s1:=(mv _ _ a w h0').1 (h2 0 r0);have hL0:(L.setIfInBounds 0 true).size=ops.size:=by simpa using hL
     have hi0:i∈Region.ready .any (X11 ops i) (L.setIfInBounds 0 true):=by
      have ho:ops.toList[i]?=some oc:=by simpa using hc
      refine X6g (o:=Xjo oc) om (by simpa using hc') ?_ λj hj=>?_
      ·rw[X3v om];have h3:=(X1w.1 hi).2.1;have hil:i<L.size:=by omega
       simp only[Array.getD_eq_getD_getElem?,Array.getElem?_eq_getElem hil,Option.getD_some] at h3 ⊢;have hb:Nat.beq i 0=false:=by rw[<-Bool.not_eq_true,Nat.beq_eq];exact hc0
       rw[h3,hb];rfl
      ·rw[X3v om];rcases(Xes oc j).1 hj with h3|rfl
       ·rw[X83 hi ho j h3];rfl
       ·simp
     cases f with
     |zero=>exact absurd hi0 (by rw[s1.1];exact λh=>by cases h)
     |succ f =>
      have s2:=Xnw hQ hc' (by exact hgc) (s1.2 i hi0);refine Xnx hc hgc (Oper.wp_put hQ (a2:=a.put (some d0) (a.eval (.tmp src))) (hex _ _) (hres a w) (λv w' hk=>?_) (Xph s2));rw[hdc] at hk ⊢;have hLi:(L.setIfInBounds i true).size=ops.size:=by simpa using hL
      have hCi:=hcl L i hL hC hi;have hl0i:(L.setIfInBounds i true).getD 0 false=false:=by
       have hb:Nat.beq 0 i=false:=by rw[<-Bool.not_eq_true,Nat.beq_eq];exact Ne.symm hc0
       rw[X3v om,hl0,hb];rfl
      refine⟨λhr=>(by have:=(rd0 _ hLi hl0i).1;rw[hr] at this;cases this),λk hk2=>?_⟩;have hk0:k=0:=by
       refine Classical.byContradiction λhk0=>?_;have hks:=(X1w.1 hk2).1;have hki:k≠i:=by
        rintro rfl;have h3:=(X1w.1 hk2).2.1;have hil:k<L.size:=by omega
        simp[Array.getD_eq_getD_getElem?,hil] at h3
       rcases hall k hks hk0 hki with h3|h3
       ·have h4:=Xh9 hpre hC hi h3;have h5:=(X1w.1 hk2).2.1;have hkl:k<L.size:=by omega
        rw[Array.getD_eq_getD_getElem?,Array.getElem?_setIfInBounds_ne (λe=>hki e.symm),Array.getElem?_eq_getElem hkl] at h5;rw[Array.getD_eq_getD_getElem?,Array.getElem?_eq_getElem hkl] at h4;simp only[Option.getD_some] at h4 h5;rw[h4] at h5;cases h5
       ·have h4:=Xh9 hpre hCi hk2 h3;rw[hl0i] at h4;cases h4
      subst hk0;refine(mv _ _ _ _ h0).2 ?_;have hev:(a.put (some dc) v).eval (.tmp src)=a.eval (.tmp src):=by
       simp[Act.put,Act.eval,Array.getD_eq_getD_getElem?,Array.getElem?_setIfInBounds_ne hns]
      rw[hev,X08i _ _ _ hne];have hco:(L.setIfInBounds i true).setIfInBounds 0 true=(L.setIfInBounds 0 true).setIfInBounds i true:=by rw[Array.setIfInBounds_comm _ _ hc0]
      rw[hco];refine ih f om _ _ _ (by simpa using hL) ?_ hk;rw[<-hco];exact hcl _ 0 hLi hCi (rd0 _ hLi hl0i).1
    ·have hr':=rd L i hL hi (λe=>by
      cases hl0:L.getD 0 false with
      |true=>rfl
      |false=>exact absurd ⟨e,hl0⟩ hs)
     have h3:=h2 i hr';have hgo:ops[i].guard=none:=hg i _ (by simp[hio]);have hLi:(L.setIfInBounds i true).size=ops.size:=by simpa using hL
     have hio':ops[i]?=some ops[i]:=by simp[hio]
     by_cases hic:i=c
     ·subst hic;have hoc:ops[i]=oc:=by rw[hio'] at hc;exact Option.some.inj hc
      refine Xnx hc hgc (Oper.wp_mono (λv w' hk=>ih f om _ _ _ hLi (hcl L i hL hC hi) hk) (Xph (Xnw hQ hc' (by exact hgc) h3)))
     ·have hx:=Xho hc i;rw[if_neg hic,hio'] at hx;refine Xnx hio' hgo (Oper.wp_mono (λv w' hk=>ih f om _ _ _ hLi (hcl L i hL hC hi) hk) (Xnw hQ hx hgo h3))
end
theorem X0dz {nt n0:Nat} {c0:Ctx} {H0:X0p} {Q:X03->St->Mu->Prop}:(∀ ch a w,¬ MQ nt c0 H0 n0 Q (.panic ch) a w)/\∀ a w,¬ MQ nt c0 H0 n0 Q .outgrown a w:=by
 constructor
 ·rintro ch a w ⟨c,s,ae,μ,_,_,_,h,_⟩;cases ae<;>cases h
 ·rintro a w ⟨c,s,ae,μ,_,_,_,h,_⟩;cases ae<;>cases h
theorem X08h {P:Program} {T:Ty} {nt n0 j n:Nat} {ops:Array Oper} {L L':List (Nat×AV)} {G G':List (Nat×Obj)} {Q:X03->St->Mu->Prop} {μ:Mu} (hT:Xdb P T/\P.follows .mixedOrders=true) (hpre:X6e 0 ops.toList=true)
  (hjl:Nat.ble j ops.size=true) (hbar:Xqr j ops.toList=true) (hgd:Xfm (ops.toList.take j)=true) (hs:List X2d) {hs':List X2d} {ps':List Prop}
  (h:Xj4 hz0 P T nt n ⟨ops.toList.take j⟩ (X1i (ops.toList.take j)) ((X1i (ops.toList.take j)).zip ((ops.toList.take j).map hz0)) 0 (ops.toList.take j) L G [] hs []=some (L',G',hs',ps')) (hp':X50 ps')
  (k:X5x P nt n0 ops (ops.toList.drop j) (λs μ=>Q .normal s μ) ⟨fr L',hp G',n+j⟩ μ) (hμ:Xg0 μ=true):∀ (c0:Ctx) (HH:X0p) (c:Ctx) (act:Act),X55 nt c0 HH n0 c ⟨fr L,hp G,n⟩ act->MOk n0 c0 c (hp G) μ act->wpAny P .any ops (MQ nt c0 HH n0 Q) ops.size (Array.replicate ops.size false) act { c.w with drawn:=c.w.drawn+1 }:=by
 have hjl':j<=ops.size:=by simpa using hjl
 obtain⟨_,hrun⟩:=Xp7 _ _ _ _ _ _ _ _ _ _ _ h hp';obtain⟨rs,hall,hA,hH⟩:=hrun.all (fr L) (hp G) [] (Nat.zero_le _) rfl rfl rfl rfl rfl (λk o r _ hr=>by simp at hr);have hpl:X6e 0 (ops.toList.take j)=true:=by
  have key:∀ (l:List Oper) (i k:Nat),X6e i l=true->X6e i (l.take k)=true:=by
   intro l
   induction l with
   |nil=>intro i k _;simp[X6e]
   |cons a l ih =>
    intro i k h
    cases k with
    |zero=>rfl
    |succ k =>
     simp only[X6e,Bool.and_eq_true,List.take_succ_cons] at h ⊢;exact⟨h.1,ih _ _ h.2⟩
  exact key _ _ _ hpre
 have hlenp:(ops.toList.take j).length=j:=by rw[List.length_take,Array.length_toList];omega
 intro c0 HH c act g0 hm;have g:=g0.rebase.drew;have hz:∀ m k,(Array.replicate m false).getD k false=false:=by
  intro m k;simp only[Array.getD_eq_getD_getElem?,Array.getElem?_replicate];split<;>rfl
 have hfn:∀ m,(λk=>(Array.replicate m false).getD k false)=(λ_=>false):=λm=>funext (hz m);have hM:∀ q,q<n->AtS n (λ_=>false) q:=λq h=>.inl h;have hdg:=Xp6 (n0:=n0) (Q:=λe s=>e=.normal/\s=⟨fr L',hp G',n+j⟩) hT.1 (ops:=⟨ops.toList.take j⟩) hpl hall ⟨rfl,by rw[hA,hH];congr 1;simp only[hlenp]⟩ (c0:=c) (HH:=hp G) g.le0 j (Array.replicate j false) (List.range j)
  { c with w:={ c.w with drawn:=c.w.drawn+1 } } act (by simp[hlenp]) (by simp) (λk hk _=>List.mem_range.2 (by simpa[hlenp] using hk)) (λi o _ h=>by rw[hz] at h;cases h) (by
   rw[hfn,X98,X98];exact⟨g.inv.more hM,g.solo,g.frame,λt=>(g.ok t).mono hM,g.size,g.reach,λq hq=>hM q (Nat.lt_of_lt_of_le hq g.le0)⟩) rfl
 have:=Xpj (Q:=MQ nt c0 HH n0 Q) (pre:=⟨ops.toList.take j⟩) (R:=CQ nt c (hp G) n0 act.defers (λe s=>e=.normal/\s=⟨fr L',hp G',n+j⟩)) (j:=j) rfl hjl' hpre hbar hgd
  (by rintro e a w hne ⟨c',s',ae,_,_,_,rfl,rfl,_⟩;exact absurd rfl hne) (ops.size - j) (by
   rintro listed a w hsz hl ⟨c',s',ae,rfl,g',hd',_,rfl,rfl⟩;refine Xpi hpre hbar (ops.size - j) j listed a c'.w hsz (Nat.le_refl _) om hl ?_;exact k c0 HH c' a (.join g0.reach g') (hm.kept g'.reach hd') _ (λc2 s2 a2 μ2 g2 hm2 hq=>⟨c2,s2,.normal,μ2,rfl,g2,hm2,rfl,hq⟩) none (λ_=>hμ))
  j (Array.replicate j false) (Array.replicate ops.size false) act { c.w with drawn:=c.w.drawn+1 } (by simp[hlenp]) (by simp) (λk=>by rw[hz,hz];rfl) (λi o _ h=>by rw[hz] at h;cases h) hdg
 rwa [show j+(ops.size - j)=ops.size by omega] at this
theorem X5b.drawnCutF {P:Program} {T:Ty} {nt n0 id j n:Nat} {ops0:Array Oper} {L L':List (Nat×AV)} {G G':List (Nat×Obj)} {Q:X03->St->Mu->Prop} {μ:Mu} (hT:Xdb P T/\P.follows .mixedOrders=true)
  {d0 dc src x y:Nat} {o0 oc:Oper} {ts:Array TypeId} (hpre0:X6e 0 ops0.toList=true) (h0:ops0[0]?=some o0) (hop:o0.op=.move (.tmp src)) (hg0:o0.guard=none) (hd0:o0.dst=some d0) (hp0:X9w o0=[])
  (hc:ops0[j]?=some oc) (hc0:j≠0) (hoc:oc.op=.call { callee:=.builtin .copy,args:=#[.tmp x,.tmp y],argTypes:=ts }) (hgc:oc.guard=none) (hdc:oc.dst=some dc) (hne:dc≠d0) (hns:dc≠src) (hx0:x≠d0) (hy0:y≠d0)
  (hgs':(ops0.toList.all λo=>o.guard.isNone)=true) (hall':((List.range ops0.size).all λi=>Nat.beq i 0||Nat.beq i j||((X1i ops0.toList).getD j 0).testBit i||((X1i ops0.toList).getD i 0).testBit 0)=true)
  (hpre:X6e 0 (X11 ops0 j).toList=true)
  (hjl:Nat.ble j (X11 ops0 j).size=true) (hbar:Xqr j (X11 ops0 j).toList=true) (hgd:Xfm ((X11 ops0 j).toList.take j)=true) (hs:List X2d) {hs':List X2d} {ps':List Prop}
  (h:Xj4 hz0 P T nt n ⟨(X11 ops0 j).toList.take j⟩ (X1i ((X11 ops0 j).toList.take j)) ((X1i ((X11 ops0 j).toList.take j)).zip (((X11 ops0 j).toList.take j).map hz0)) 0 ((X11 ops0 j).toList.take j) L G [] hs []=some (L',G',hs',ps')) (hp':X50 ps')
  (k:X5x P nt n0 (X11 ops0 j) ((X11 ops0 j).toList.drop j) (λs μ=>Q .normal s μ) ⟨fr L',hp G',n+j⟩ μ) (hμ:Xg0 μ=true:=by rfl):X5b P nt n0 (.region id ops0 true) Q ⟨fr L,hp G,n⟩ μ:=by
 have hgs:∀ (i:Nat) (o:Oper),ops0[i]?=some o->o.guard=none:=λi o ho=>by
  have:=List.all_eq_true.1 hgs' o (List.mem_of_getElem? (i:=i) (by simpa using ho));simpa using this
 have hall:∀ i,i<ops0.size->i≠0->i≠j->((X1i ops0.toList).getD j 0).testBit i=true\/((X1i ops0.toList).getD i 0).testBit 0=true:=λi hi h1 h2=>by
  have:=List.all_eq_true.1 hall' i (List.mem_range.2 hi);simp only[Bool.or_eq_true,Nat.beq_eq] at this;rcases this with ((h3|h3)|h3)|h3
  ·exact absurd h3 h1
  ·exact absurd h3 h2
  ·exact .inl h3
  ·exact .inr h3
 have hex:∀ (a:Act) v,execOp (a.put (some d0) v).eval oc=execOp a.eval oc:=λa v=>by
  obtain⟨dst,op,type,pos,after,guard⟩:=oc;simp only at hoc;subst hoc;have e1:(a.put (some d0) v).eval (.tmp x)=a.eval (.tmp x):=by simp[Act.put,Act.eval,Array.getD_eq_getD_getElem?,Array.getElem?_setIfInBounds_ne (Ne.symm hx0)]
  have e2:(a.put (some d0) v).eval (.tmp y)=a.eval (.tmp y):=by simp[Act.put,Act.eval,Array.getD_eq_getD_getElem?,Array.getElem?_setIfInBounds_ne (Ne.symm hy0)]
  simp[execOp,resolve,e1,e2]
 have hres:∀ (a:Act) w n w',(execOp a.eval oc).run P w=.ok n w'->∃ v,n=.value v:=λa w n w' hr=>by
  obtain⟨dst,op,type,pos,after,guard⟩:=oc;simp only at hoc;subst hoc;simp[execOp,resolve,invoke,builtin] at hr
  cases hq:Sem.run P (Builtin.copy_ ts type #[a.eval (.tmp x),a.eval (.tmp y)]) w with
  |ok v w2=>rw[hq] at hr;simp at hr;exact⟨v,hr.1.symm⟩
  |halt e w2=>rw[hq] at hr;simp[Result.andThen] at hr
 intro c0 HH c act g hm R0 hR0;obtain rfl:=hR0 rfl;refine Xdd.2 (wp_region_any hT.2 ?_);refine Xr6 (ops:=ops0) (c:=j) X0dz hpre0 h0 hop hg0 hd0 hp0 hc hc0 hgc hdc hne hns hgs hres hex hall ops0.size (Array.replicate ops0.size false) act _ (by simp) (λi o _ hi=>by
  simp only[Array.getD_eq_getD_getElem?,Array.getElem?_replicate] at hi;split at hi<;>cases hi) ?_
 have:=X08h (L:=L) (G:=G) (n:=n) hT hpre hjl hbar hgd hs h hp' k hμ c0 HH c act g hm
 rwa [show(X11 ops0 j).size=ops0.size by simp[X11]] at this
theorem X2.drawnCutF {P:Program} {T:Ty} {nt n0 id n:Nat} {ops0:Array Oper} {L L':List (Nat×AV)} {G G':List (Nat×Obj)} {K:List Kn} {Q:X03->St->Mu->Prop} {μ:Mu} (j:Nat) (hT:Xdb P T/\P.follows .mixedOrders=true) (hs:List X2d) {hs':List X2d} {ps':List Prop}
  {d0 dc src x y:Nat} {o0 oc:Oper} {ts:Array TypeId} (hpre0:X6e 0 ops0.toList=true) (h0:ops0[0]?=some o0) (hop:o0.op=.move (.tmp src)) (hg0:o0.guard=none) (hd0:o0.dst=some d0) (hp0:X9w o0=[])
  (hc:ops0[j]?=some oc) (hc0:j≠0) (hoc:oc.op=.call { callee:=.builtin .copy,args:=#[.tmp x,.tmp y],argTypes:=ts }) (hgc:oc.guard=none) (hdc:oc.dst=some dc) (hne:dc≠d0) (hns:dc≠src) (hx0:x≠d0) (hy0:y≠d0)
  (hgs':(ops0.toList.all λo=>o.guard.isNone)=true) (hall':((List.range ops0.size).all λi=>Nat.beq i 0||Nat.beq i j||((X1i ops0.toList).getD j 0).testBit i||((X1i ops0.toList).getD i 0).testBit 0)=true)
  (hpre:X6e 0 (X11 ops0 j).toList=true)
  (hjl:Nat.ble j (X11 ops0 j).size=true) (hbar:Xqr j (X11 ops0 j).toList=true) (hgd:Xfm ((X11 ops0 j).toList.take j)=true)
  (h:Xj4 hz0 P T nt n ⟨(X11 ops0 j).toList.take j⟩ (X1i ((X11 ops0 j).toList.take j)) ((X1i ((X11 ops0 j).toList.take j)).zip (((X11 ops0 j).toList.take j).map hz0)) 0 ((X11 ops0 j).toList.take j) L G [] hs []=some (L',G',hs',ps')) (hp':X50 ps')
  (k:X2 P nt n0 Q (.ops (X11 ops0 j) ((X11 ops0 j).toList.drop j)) K ⟨fr L',hp G',n+j⟩ μ) (hμ:Xg0 μ=true:=by rfl):X2 P nt n0 Q (.code (.region id ops0 true)) K ⟨fr L,hp G,n⟩ μ :=
 X5b.drawnCutF hT hpre0 h0 hop hg0 hd0 hp0 hc hc0 hoc hgc hdc hne hns hx0 hy0 hgs' hall' hpre hjl hbar hgd hs h hp' k hμ
end Go.Av


namespace Go.Av
def scs:List AV->Bool
 |[]=>true
 |.sc _::r=>scs r
 |_=>false
theorem X09i {M:Nat->Prop}:∀ {es:List AV},scs es=true->∀ e∈es,∀ a∈e.cells,AV.Ok M a
 |[],_=>λe he=>by cases he
 |.sc v::r,h=>λe he a ha=>by
  rcases List.mem_cons.1 he with rfl|he
  ·rw[List.mem_singleton.1 ha];exact .sc
  ·exact X09i (es:=r) h e he a ha
 |.list _ _::_,h=>by cases h
end Go.Av


namespace Go.Av
theorem X2.denilO {P:Program} {nt n0 n:Nat} {Q:X03->St->Mu->Prop} {cf:Cf} {K:List Kn} {μ:Mu} {L:List (Nat×AV)} {G:List (Nat×Obj)} {y:Obj} {cs:List AV} (q:Nat) (m:List Bool) (cs':List AV) (hy:hp G q=some y) (hes:y.es=[.agg cs]) (he:X8g m cs=cs')
  (h:X2 P nt n0 Q cf K ⟨fr L,hp ((q,{ y with es:=[.agg cs'] })::G),n⟩ μ):X2 P nt n0 Q cf K ⟨fr L,hp G,n⟩ μ:=by
 subst he;obtain⟨hml,hmg⟩:=Xw3 m cs;have hd:∀ o x',hp ((q,{ y with es:=[.agg (X8g m cs)] })::G) o=some x'->∃ x,hp G o=some x/\x'.esz=x.esz/\x'.solo=x.solo/\x'.spent=x.spent/\x'.es.length=x.es.length/\(x'=x\/(o=q/\x=y/\x'={ y with es:=[.agg (X8g m cs)] })):=by
  intro o x' hx;by_cases ho:o=q
  ·subst ho;rw[show hp ((o,{ y with es:=[.agg (X8g m cs)] })::G) o=some { y with es:=[.agg (X8g m cs)] } by simp[hp,Xgk hy]] at hx;cases hx
   exact⟨y,hy,rfl,rfl,rfl,by simp[hes],.inr ⟨rfl,rfl,rfl⟩⟩
  ·have:hp ((q,{ y with es:=[.agg (X8g m cs)] })::G) o=hp G o:=by
    have hb:Nat.beq o q=false:=by rw[<-Bool.not_eq_true,Nat.beq_eq];exact ho
    simp[hp,hb]
   rw[this] at hx;exact⟨x',hx,rfl,rfl,rfl,rfl,.inl rfl⟩
 refine X2.sub (s':=⟨fr L,hp ((q,{ y with es:=[.agg (X8g m cs)] })::G),n⟩) (λc0 H0 c act μ g hm=>⟨?_,?_⟩) h
 ·refine⟨⟨λo x' hx=>?_,λo o' x1 x2 h1 h2 hne hb=>?_,λo x' hx=>?_,g.inv.lt,g.inv.base,g.inv.own,λo x' hx=>?_⟩,λo x' hx=>?_,g.frame,g.ok,g.size,?_,g.le0⟩
  ·obtain⟨x,hx0,_,_,_,_,hc⟩:=hd o x' hx;obtain⟨i1,i2,i3⟩:=g.inv.obj o x hx0;rcases hc with rfl|⟨rfl,rfl,rfl⟩
   ·exact⟨i1,i2,i3⟩
   ·refine⟨i1,?_,λe he a ha=>?_⟩
    ·obtain⟨⟨cur,k1,k2,k3⟩,k4,k5,k6⟩:=i2;refine⟨⟨cur,k1,k2,λi e he=>?_⟩,by simpa[hes] using k4,k5,k6⟩
     cases i with
     |succ i=>simp at he
     |zero =>
      simp at he;subst he;obtain⟨g1,g2⟩:=k3 0 (.agg cs) (by rw[hes];rfl);refine⟨by show(X8g m cs).length=_;rw[hml];exact g1,λk a' ha'=>?_⟩;obtain⟨a,ha,hc⟩:=hmg k a' ha';obtain⟨v,v1,v2,v3⟩:=g2 k a ha;rcases hc with rfl|rfl
      ·exact⟨v,v1,v2,v3⟩
      ·exact⟨v,v1,Xuk v2,v3⟩
    ·rw[List.mem_singleton.1 he] at ha;obtain⟨k,hk⟩:=List.getElem?_of_mem ha;obtain⟨a0,ha0,hc⟩:=hmg k a hk;have:=i3 (.agg cs) (by rw[hes];exact List.mem_singleton_self _) a0 (List.mem_of_getElem? ha0);rcases hc with rfl|rfl
     ·exact this
     ·exact X00h this
  ·obtain⟨y1,hy1,e1,s1,p1,l1,_⟩:=hd o x1 h1;obtain⟨y2,hy2,e2,s2,p2,l2,_⟩:=hd o' x2 h2;have:=g.inv.sep o o' y1 y2 hy1 hy2 hne hb;rw[s1,p1,p2,l1,l2,e1,e2];exact this
  ·obtain⟨x,hx0,_⟩:=hd o x' hx;exact g.inv.stab o x hx0
  ·obtain⟨x,hx0,_⟩:=hd o x' hx;exact g.inv.low o x hx0
  ·obtain⟨x,hx0,_,s1,p1,_⟩:=hd o x' hx;rw[s1,p1];exact g.solo o x hx0
  ·have r:=g.reach;exact⟨r.rho,r.os,r.tape,r.output,r.size,r.block,r.stable,r.sa,r.so1,r.so2,r.B,λo x' hx=>by obtain⟨x,hx0,_⟩:=hd o x' hx;exact r.own o x hx0⟩
 ·exact⟨hm.is,λp hp=>by
   obtain⟨a1,a2,a3,a4⟩:=hm.away p hp;exact⟨a1,a2,λo x' hx=>by obtain⟨x,hx0,_⟩:=hd o x' hx;exact a3 o x hx0,a4⟩,hm.nodup,hm.ds⟩
theorem X07p {o n m:Nat} {es cs cs':List AV} (k:Nat) (h:m=n) (h1:cs[k]?=some (.ref o 0 m)) (h2:cs.set k (.list true es)=cs'):FrzE o n es (.agg cs) (.agg cs'):=by
 subst h h2;refine⟨by show cs.length=(cs.set k _).length;rw[List.length_set],λj a a' ha ha'=>?_⟩;have ha:cs[j]?=some a:=ha;have ha':(cs.set k (.list true es))[j]?=some a':=ha';by_cases hj:k=j
 ·subst hj;rw[h1] at ha;cases ha;have hl:k<cs.length:=(List.getElem?_eq_some_iff.1 h1).1;rw[List.getElem?_set_self hl] at ha';cases ha';exact .inr ⟨rfl,rfl⟩
 ·rw[List.getElem?_set_ne hj,ha] at ha';cases ha';exact .inl rfl
theorem Xlv (k:Nat) {o n m:Nat} {es cs:List AV} (h:m=n) (h1:cs[k]?=some (.ref o 0 m)):∀ {cs':List AV},cs.set k (.list true es)=cs'->Xqw o n es [.agg cs] [.agg cs']:=λh2=>Xud (X07p k h h1 h2) Xzv
end Go.Av


namespace Go.Av
inductive Tab (V:Type) where
 |leaf
 |node (k:Nat) (v:V) (l r:Tab V)
noncomputable def Tab.find {V:Type} (t:Tab V):Nat->Option V :=
 Tab.rec (motive:=λ_=>Nat->Option V) (λ_=>none) (λk v _ _ ihl ihr n=>bif Nat.beq n k then some v else bif Nat.blt n k then ihl n else ihr n) t
theorem Tab.find_node {V:Type} (k:Nat) (v:V) (l r:Tab V) (t:Nat):(Tab.node k v l r).find t=bif Nat.beq t k then some v else bif Nat.blt t k then l.find t else r.find t:=rfl
def Tab.All {V:Type} (p:Nat->V->Prop):Tab V->Prop
 |.leaf=>True
 |.node k v l r=>p k v/\l.All p/\r.All p
theorem Tab.find_all {V:Type} {p:Nat->V->Prop}:∀ (t:Tab V),t.All p->∀ k v,t.find k=some v->p k v:=by
 intro t
 induction t with
 |leaf=>intro _ k v h;cases h
 |node k' v' l r ihl ihr =>
  intro h k v hf;obtain⟨h1,h2,h3⟩:=h;rw[Tab.find_node] at hf
  cases hb:Nat.beq k k' with
  |true =>
   rw[hb,cond_true] at hf;cases hf
   have:k=k':=Nat.eq_of_beq_eq_true hb;subst this;exact h1
  |false =>
   rw[hb,cond_false] at hf
   cases hlt:Nat.blt k k' with
   |true=>rw[hlt,cond_true] at hf;exact ihl h2 k v hf
   |false=>rw[hlt,cond_false] at hf;exact ihr h3 k v hf
theorem X02c {P:Program} {t:Tab TI} (h:t.All (X2v P)):Xdb P t.find:=λk v hf=>t.find_all h k v hf
theorem X6b {P:Program} {t:Nat} {i:TypeInfo} {d:TypeDesc} {z:Value} (hi:P.info? t=some i) (hd:P.underlying t=some d) (hz:i.zero=some z)
  (hw:((X3k z).whole&&Nat.beq (X3k z).cells.length i.size)=true):X2v P t ⟨X0a d,i.size,i.bytes,z,false⟩:=by
 simp only[Bool.and_eq_true] at hw;exact⟨⟨i,d,hi,hd,hz,rfl,rfl,rfl⟩,⟨hw.1,Nat.eq_of_beq_eq_true hw.2⟩,λh=>by cases h⟩
theorem Xft {P:Program} {t:Nat} {i:TypeInfo} {d:TypeDesc} {z:Value} (hi:P.info? t=some i) (hd:P.underlying t=some d) (hz:i.zero=some z)
  (hw:((X3k z).whole&&Nat.beq (X3k z).cells.length i.size)=true) (h1:P.stoodInHeld t=false) (h2:P.eqGuardType P.depth t=false)
  (h3 : (match d with | .struct fs => fs.toList.all (λf => !(f.name == "_")) | _ => true) = true) : X2v P t ⟨X0a d, i.size, i.bytes, z, true⟩ := by
 simp only[Bool.and_eq_true] at hw;refine⟨⟨i,d,hi,hd,hz,rfl,rfl,rfl⟩,⟨hw.1,Nat.eq_of_beq_eq_true hw.2⟩,λ_=>⟨h1,h2,λfs hfs f hf=>?_⟩⟩;rw[hd] at hfs;cases hfs
 have:=List.all_eq_true.1 h3 f (by simpa using hf);simpa using this
def Xd (fn:Func):Code:=fn.body.getD .skip
end Go.Av
