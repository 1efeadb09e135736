/- Parts of the proof, laid together. -/
import Derived.Test.YtoodllakhlkekaaGreatDoorAva
set_option linter.all false

namespace Go.Av
variable [Gls]
def Xy {V:Type} (f:Nat->V->V) (S:Nat->Bool):Nat->V->V
 |0,v=>v
 |n+1,v=>bif S n then f n (Xy f S n v) else Xy f S n v
theorem X18 {V:Type} {f:Nat->V->V} {S S':Nat->Bool}:∀ (n:Nat) (v:V),(∀ k,k<n->(∀ u,f k u=u)\/S k=S' k)->Xy f S n v=Xy f S' n v:=by
 intro n
 induction n with
 |zero=>intro v _;rfl
 |succ n ih =>
  intro v h;have:=ih v (λk hk=>h k om);simp only[Xy,this];rcases h n om with h1|h1
  ·cases S n<;>cases S' n<;>simp[h1]
  ·rw[h1]
theorem X7c {V:Type} {f:Nat->V->V} {S:Nat->Bool} {i:Nat} (hi:S i=false):∀ (n:Nat) (v:V),i<n->(∀ k,k<n->S k=true->(∀ u,f k u=u)\/k<i) ->
  Xy f (λk=>S k||Nat.beq k i) n v=f i (Xy f S n v):=by
 intro n
 induction n with
 |zero=>intro v h;omega
 |succ n ih =>
  intro v hlt h;simp only[Xy];by_cases hn:n=i
  ·subst hn;have hb:Nat.beq n n=true:=by simp
   rw[hi,hb,Bool.false_or,cond_true,cond_false];congr 1
   refine X18 n v λk hk=>.inr ?_;have:Nat.beq k n=false:=by rw[<-Bool.not_eq_true,Nat.beq_eq];omega
   simp[this]
  ·have hb:Nat.beq n i=false:=by rw[<-Bool.not_eq_true,Nat.beq_eq];exact hn
   have:=ih v om (λk hk=>h k om);rw[this,hb,Bool.or_false]
   cases hs:S n with
   |false=>rfl
   |true =>
    rcases h n om hs with h1|h1
    ·simp[h1]
    ·omega
theorem X28 {V:Type} {f:Nat->V->V}:∀ (n:Nat) (v:V),Xy f (λ_=>false) n v=v
 |0,_=>rfl
 |n+1,v=>X28 n v
def X3s (o:Oper):List Nat:=(o.after.toList.filter (Region.binds .any)).map (·.on)
def X5n:List Nat->List Oper->List Nat
 |done,[]=>done
 |done,o::r=>X5n (done++[(X3s o).foldl (λm j=>m |||2 ^ j |||done.getD j 0) 0]) r
def Xz (ops:List Oper):List Nat:=X5n [] ops
structure Xkm (l:List Oper) (ms:List Nat):Prop where
 len:ms.length=l.length
 step:∀ (i:Nat) o m,l[i]?=some o->ms[i]?=some m->(∀ j∈X3s o,j<i)->∀ q,m.testBit q=true->∃ j∈X3s o,q=j\/(ms.getD j 0).testBit q=true
theorem Xdw (done:List Nat):∀ (l:List Nat) (m q:Nat),(l.foldl (λm j=>m ||| 2 ^ j ||| done.getD j 0) m).testBit q=true->m.testBit q=true\/∃ j∈l,q=j\/(done.getD j 0).testBit q=true:=by
 intro l
 induction l with
 |nil=>intro m q h;exact .inl h
 |cons a l ih =>
  intro m q h;rw[List.foldl_cons] at h;rcases ih _ q h with h1|⟨j,hj,h2⟩
  ·rw[Nat.testBit_or,Nat.testBit_or,Nat.testBit_two_pow] at h1;simp only[Bool.or_eq_true,decide_eq_true_eq] at h1;rcases h1 with (h1|h1)|h1
   ·exact .inl h1
   ·exact .inr ⟨a,List.mem_cons_self ..,.inl h1.symm⟩
   ·exact .inr ⟨a,List.mem_cons_self ..,.inr h1⟩
  ·exact .inr ⟨j,List.mem_cons_of_mem _ hj,h2⟩
theorem Xdr:∀ (r pre:List Oper) (done:List Nat),Xkm pre done->Xkm (pre++r) (X5n done r):=by
 intro r
 induction r with
 |nil=>intro pre done h;simpa[X5n] using h
 |cons o r ih =>
  intro pre done h;have:=ih (pre++[o]) (done++[(X3s o).foldl (λm j=>m ||| 2 ^ j ||| done.getD j 0) 0]) ?_
  ·simpa[X5n] using this
  ·refine⟨by simp[h.len],λi o' m ho hm hlt q hq=>?_⟩;have hget:∀ j,j<done.length->(done++[(X3s o).foldl (λm j=>m ||| 2 ^ j ||| done.getD j 0) 0]).getD j 0=done.getD j 0:=by
    intro j hj;simp[List.getD,List.getElem?_append_left hj]
   by_cases hi:i<pre.length
   ·rw[List.getElem?_append_left hi] at ho;rw[List.getElem?_append_left (by rw[h.len];exact hi)] at hm;obtain⟨j,hj,h2⟩:=h.step i o' m ho hm hlt q hq;refine⟨j,hj,?_⟩;rw[hget j (by rw[h.len];have:=hlt j hj;omega)];exact h2
   ·have hie:i=pre.length:=by
     have:=(List.getElem?_eq_some_iff.1 ho).1;simp at this;omega
    subst hie;simp at ho;subst ho;rw[<-h.len] at hm;simp at hm;subst hm;rcases Xdw done _ 0 q hq with h1|⟨j,hj,h2⟩
    ·simp at h1
    ·refine⟨j,hj,?_⟩;rw[hget j (by rw[h.len];exact hlt j hj)];exact h2
theorem X69 (l:List Oper):Xkm l (Xz l):=by
 have:=Xdr l [] [] ⟨rfl,λi o m h=>by simp at h⟩;simpa[Xz] using this
theorem X7e {l:List Oper} {S:Nat->Bool} (hpre:∀ (i:Nat) o,l[i]?=some o->∀ j∈X3s o,j<i) (hS:∀ (i:Nat) o,l[i]?=some o->S i=true->∀ j∈X3s o,S j=true) :
  ∀ (i:Nat) o,l[i]?=some o->(∀ j∈X3s o,S j=true)->∀ q,((Xz l).getD i 0).testBit q=true->S q=true/\q<i:=by
 intro i
 induction i using Nat.strongRecOn with
 |_ i ih =>
  intro o ho hj q hq;have hlt:i<(Xz l).length:=by rw[(X69 l).len];exact(List.getElem?_eq_some_iff.1 ho).1
  have hm:(Xz l)[i]?=some ((Xz l).getD i 0):=by simp[List.getD,hlt]
  obtain⟨j,hjm,h2⟩:=(X69 l).step i o _ ho hm (hpre i o ho) q hq;have hji:=hpre i o ho j hjm;rcases h2 with rfl|h2
  ·exact⟨hj q hjm,hji⟩
  ·have hjl:j<l.length:=by have:=(List.getElem?_eq_some_iff.1 ho).1;omega
   obtain⟨h3,h4⟩:=ih j hji l[j] (List.getElem?_eq_getElem hjl) (hS j _ (List.getElem?_eq_getElem hjl) (hj j hjm)) q h2;exact⟨h3,by omega⟩
end Go.Av


namespace Go.Av
variable [Gls]
structure X4h (nt:Nat) (c0:Ctx) (H0:Xh) (n0:Nat) (c:Ctx) (A:Nat->AV) (H:Xh) (M:Nat->Prop) (act:Act):Prop where
 inv:Inv c H M
 solo:∀ o x,H o=some x->x.solo=true/\x.spent=false
 frame:∀ t,Xn c false (A t) (act.tmps.getD t undef)
 ok:∀ t,(A t).Ok M
 size:act.tmps.size=nt
 reach:Reach c0 H0 n0 c H
 le0:∀ q,q<n0->M q
inductive X06 where
 |none
 |new (x:Obj)
 |app (old:Nat) (x:Obj)
 |set (o:Nat) (x:Obj)
def X06.at (id:Nat) (o:Nat):X06->Option (Option Obj)
 |.none=>.none
 |.new x=>bif Nat.beq o id then some (some x) else .none
 |.app old x=>bif Nat.beq o id then some (some x) else bif Nat.beq o old then some .none else .none
 |.set o' x=>bif Nat.beq o o' then some (some x) else .none
def X06.objs (id:Nat):X06->List Nat
 |.none=>[]
 |.new _=>[id]
 |.app old _=>[id,old]
 |.set o _=>[o]
theorem X06.at_objs {id o:Nat} {e:X06} (h:o ∉ e.objs id):e.at id o=Option.none:=by
 cases e<;>simp only[X06.objs,List.mem_cons,List.not_mem_nil,or_false,not_or,not_false_eq_true,X06.at] at h ⊢
 ·have:Nat.beq o id=false:=by rw[<-Bool.not_eq_true,Nat.beq_eq];exact h
  rw[this];rfl
 ·rename_i old _;have h1:Nat.beq o id=false:=by rw[<-Bool.not_eq_true,Nat.beq_eq];exact h.1
  have h2:Nat.beq o old=false:=by rw[<-Bool.not_eq_true,Nat.beq_eq];exact h.2
  rw[h1,h2];rfl
 ·rename_i q _;have:Nat.beq o q=false:=by rw[<-Bool.not_eq_true,Nat.beq_eq];exact h
  rw[this];rfl
def X06.go (id:Nat) (e:X06) (H:Xh):Xh:=λo=>(e.at id o).getD (H o)
theorem X06.go_none (id:Nat) (H:Xh):X06.go id .none H=H:=rfl
theorem X06.go_new (id:Nat) (x:Obj) (H:Xh):X06.go id (.new x) H=upd H id (some x):=by
 funext o
 simp only[X06.go,X06.at];by_cases h:o=id
 ·subst h;rw[X7];simp
 ·have:Nat.beq o id=false:=by rw[<-Bool.not_eq_true,Nat.beq_eq];exact h
  rw[this,X5 _ _ h];rfl
theorem X06.go_app (id old:Nat) (x:Obj) (H:Xh):X06.go id (.app old x) H=upd (upd H old Option.none) id (some x):=by
 funext o
 simp only[X06.go,X06.at];by_cases h:o=id
 ·subst h;rw[X7];simp
 ·have h1:Nat.beq o id=false:=by rw[<-Bool.not_eq_true,Nat.beq_eq];exact h
  rw[h1,X5 _ _ h,cond_false];by_cases h2:o=old
  ·subst h2;rw[X7];simp
  ·have h3:Nat.beq o old=false:=by rw[<-Bool.not_eq_true,Nat.beq_eq];exact h2
   rw[h3,X5 _ _ h2];rfl
theorem X06.go_set (id o':Nat) (x:Obj) (H:Xh):X06.go id (.set o' x) H=upd H o' (some x):=by
 funext o
 simp only[X06.go,X06.at];by_cases h:o=o'
 ·subst h;rw[X7];simp
 ·have:Nat.beq o o'=false:=by rw[<-Bool.not_eq_true,Nat.beq_eq];exact h
  rw[this,X5 _ _ h];rfl
inductive DOp (P:Program) (T:Ty) (A:Nat->AV) (V:Xh) (id:Nat) (o:Oper):AV->X06->Prop
 |pu {a} (h:Pu T (evA A) V o.op a):DOp P T A V id o a .none
 |zero {a} (h:Mk T (evA A) V id o.op a .none):DOp P T A V id o a .none
 |new {a x} (h:Mk T (evA A) V id o.op a (.new x)) (h1:x.solo=true) (h2:x.spent=false):DOp P T A V id o a (.new x)
 |app {a old x} (h:Mk T (evA A) V id o.op a (.app old x)) (h1:x.solo=true) (h2:x.spent=false):DOp P T A V id o a (.app old x)
 |store {t p x q i k y e ti} (ho:o.op=.store t p x) (hdst:o.dst=none) (hp:evA A p=.ptr q i k) (hH:V q=some y) (he:y.es[i]?=some e) (ht:T t=some ti) (hw:(evA A x).whole=true)
   (hsz:(evA A x).cells.length=ti.size) (hle:k+ti.size<=e.cells.length) (hpos:ti.size≠0):DOp P T A V id o (.sc undef) (.set q { y with es:=y.es.set i (X16 e k (evA A x)) })
 |room {s x g t et n m b ti te xs y} (ho:o.op=.call { callee:=.builtin .append,args:=#[s,x],argTypes:=#[t,t] }) (hs:evA A s=.ref b 0 n) (hg:evA A g=.mref b m) (hH:V b=some y)
   (hn:n<=y.es.length) (hroom:n+xs.length<=m) (hes:y.esz=te.size) (hx:Xae V (evA A x) xs) (hne:xs≠[]) (ht:T t=some ti) (hk:ti.kind=.slice et) (hte:T et=some te)
   (hsz:∀ e∈xs,e.cells.length=te.size):DOp P T A V id o (.ref b 0 (n+xs.length)) (.set b { y with es:=y.es.take n++xs++y.es.drop (n+xs.length) })
 |pure {x args ts f caps bs r Vr} (ho:o.op=.call { callee:=.value x,args:=args,argTypes:=ts }) (hx:evA A x=.fn f caps)
   (hcv:Cvs false Vr (args.toList.map (evA A)++caps) bs) (hp:Xu P f bs r) (hsub:∀ o x,Vr o=some x->V o=some x) (hr:X96 r\/((∀ o,Vr o=none)/\∀ M,r.Ok M)):DOp P T A V id o r .none
 |callNew {x args ts f caps bs q len y} (ho:o.op=.call { callee:=.value x,args:=args,argTypes:=ts }) (hx:evA A x=.fn f caps)
   (hcv:Cvs false (λ_=>none) (args.toList.map (evA A)++caps) bs) (hbs:∀ b∈bs,∀ M,b.Ok M) (hp:HC P f bs (λ_=>none) 0 (λr H' _=>r=.ref q 0 len/\H' q=some y)) (hfree:∀ e∈y.es,∀ a∈e.cells,∀ M,a.Ok M)
   (h1:y.solo=true) (h2:y.spent=false):DOp P T A V id o (.ref id 0 len) (.new y)
 |callNewV {x args ts f caps q len y n V'} (ho:o.op=.call { callee:=.value x,args:=args,argTypes:=ts }) (hx:evA A x=.fn f caps)
   (hV':∀ o x,V' o=some x->V o=some x/\o<n/\∀ e∈x.es,∀ a∈e.cells,a.Ok (λq=>∃ z,V' q=some z)) (has:∀ a∈args.toList.map (evA A)++caps,a.Ok (λq=>∃ z,V' q=some z))
   (hp:HC P f (args.toList.map (evA A)++caps) V' n (λr H' _=>r=.ref q 0 len/\H' q=some y/\n<=q/\∀ o x,V' o=some x->H' o=some x)) (hfree:∀ e∈y.es,∀ a∈e.cells,a.Ok (λq=>∃ z,V' q=some z))
   (h1:y.solo=true) (h2:y.spent=false):DOp P T A V id o (.ref id 0 len) (.new y)
 |callSet {x args ts f caps q len as y y' v} (ho:o.op=.call { callee:=.value x,args:=args,argTypes:=ts }) (hx:evA A x=.fn f caps) (hq:V q=some y)
   (hargs:args.toList.map (evA A)++caps=.ref q 0 len::as) (has:∀ a∈as,∀ M,a.Ok M) (hfree:∀ e∈y.es,∀ a∈e.cells,∀ M,a.Ok M) (hfree':∀ e∈y'.es,∀ a∈e.cells,∀ M,a.Ok M)
   (hp:HC P f (.ref 0 0 len::as) (λp=>bif Nat.beq p 0 then some y else Option.none) 1 (λr H' _=>r=.sc v/\H' 0=some y')) (h1:y'.solo=true) (h2:y'.spent=false):DOp P T A V id o (.sc v) (.set q y')
theorem X96.ok {a:AV} (h:X96 a) (M:Nat->Prop):a.Ok M:=by
 induction h with
 |sc=>exact .sc
 |nils=>exact .nils
 |agg _ ih=>exact .agg ih
 |tup _ ih=>exact .tup ih
 |listNil=>exact .list
 |list=>exact .list
theorem X4h.next {nt n0:Nat} {c0 c c':Ctx} {H0 H:Xh} {A:Nat->AV} {M M':Nat->Prop} {act:Act} (g:X4h nt c0 H0 n0 c A H M act) {H':Xh} {dst:Option Nat} {a:AV} {v:Value}
  (hd:∀ d,dst=some d->d<nt) (hle:c.Le M c') (hsa:c'.Sa=c.Sa) (hso:∀ b,c'.So b->c.So b\/c.w.heap.size<=b\/∃ o x,H o=some x/\(c.ρ o).blk=b) (hfr:Fr c H c'.w) (hown:X37 c H c' H')
  (hI:Inv c' H' M') (hs:∀ o x,H' o=some x->x.solo=true/\x.spent=false) (hn:∀ q,M q->M' q) (hv:Xn c' false a v) (hok:a.Ok M') :
  X4h nt c0 H0 n0 c' (X1b A dst a) H' M' (act.put dst v):=by
 refine⟨hI,hs,?_,?_,?_,g.reach.step hle (λq hq=>g.le0 q hq) hsa hso hfr hown,λq hq=>hn q (g.le0 q hq)⟩
 ·intro t
  cases dst with
  |none=>exact(g.frame t).mono hle (.inr (g.ok t))
  |some d =>
   simp only[X1b,Act.put];rw[X6e (by rw[g.size];exact hd d rfl)];by_cases h:t=d
   ·subst h;rw[if_pos rfl,X7];exact hv
   ·rw[if_neg h,X5 _ _ h];exact(g.frame t).mono hle (.inr (g.ok t))
 ·intro t
  cases dst with
  |none=>exact(g.ok t).mono hn
  |some d =>
   simp only[X1b];by_cases h:t=d
   ·subst h;rw[X7];exact hok
   ·rw[X5 _ _ h];exact(g.ok t).mono hn
 ·cases dst with
  |none=>exact g.size
  |some d=>simpa[Act.put] using g.size
section
variable {nt n0:Nat} {c0 c:Ctx} {H0 H:Xh} {A:Nat->AV} {M:Nat->Prop} {act:Act}
theorem X4h.junk (g:X4h nt c0 H0 n0 c A H M act) {A':Nat->AV} (hA:∀ t,A' t=A t\/A' t=.junk):X4h nt c0 H0 n0 c A' H M act :=
 ⟨g.inv,g.solo,λt=>by rcases hA t with h|h<;>rw[h];exact g.frame t;exact .junk,λt=>by rcases hA t with h|h<;>rw[h];exact g.ok t;exact .junk,g.size,g.reach,g.le0⟩
theorem X4h.ev (g:X4h nt c0 H0 n0 c A H M act) (x:Operand):Xn c false (evA A x) (act.eval x):=by
 cases x with
 |tmp t=>exact Xan (g.frame t)
 |const v=>exact X25 c false v
 |global k=>exact .sc
 |func f=>exact .fn (λ_=>rfl) (by simp) (λi a v ha _=>by simp at ha)
theorem X4h.evOk (g:X4h nt c0 H0 n0 c A H M act) (x:Operand):(evA A x).Ok M:=by
 cases x with
 |tmp t=>exact Xca (g.ok t)
 |const v=>exact X2s _ v
 |global k=>exact .sc
 |func f=>exact .fn (λa ha=>by simp at ha)
theorem Inv.view (hI:Inv c H M) {V:Xh} (hV:∀ o x,V o=some x->H o=some x):Inv c V M :=
 hI.forget (λo x hx=>⟨x,hV o x hx,rfl,rfl,λh=>h⟩) (λo o' x x' hx hx' hne hb=>by
   have:=hI.sep o o' x x' (hV o x hx) (hV o' x' hx') hne hb;exact⟨this.1,λh=>(this.2 h).1⟩)
theorem Xhd {P:Program} {T:Ty} {o:Oper} {a:AV} {e:Eff} {A':Nat->AV} {V:Xh} {id:Nat} (hT:X1h P T) (g:X4h nt c0 H0 n0 c A H M act) (hA:∀ t,A' t=A t\/A' t=.junk)
  (hV:∀ o x,V o=some x->H o=some x) (hid:¬ M id) (h:Mk T (evA A') V id o.op a e) (hx:∀ old x,e=.app old x\/e=.new x->x.solo=true/\x.spent=false) (hd:∀ d,o.dst=some d->d<nt)
  (K:Act->World->Prop) (Q:Exit->Act->World->Prop)
  (hK:∀ c' v,X4h nt c0 H0 n0 c' (X1b A o.dst a) (e.seq id H) (λq=>M q\/q=id) (act.put o.dst v)->K (act.put o.dst v) c'.w):o.wp P act c.w K Q:=by
 have g':=g.junk hA;obtain⟨v,c',h1,hle,hsa,hso,hv,hok,hI1,hfr,hown⟩:=Xu1 hT g.inv hV hid g'.ev g'.evOk h;unfold Oper.wp;rw[h1];have key:Inv c' (e.seq id H) (λq=>M q\/q=id)/\(∀ o x,e.seq id H o=some x->x.solo=true/\x.spent=false)/\X37 c H c' (e.seq id H):=by
  cases e with
  |none=>exact⟨hI1,g.solo,hown⟩
  |new x =>
   refine⟨hI1,λo y hy=>?_,hown⟩;simp only[Eff.seq] at hy;by_cases ho:o=id
   ·subst ho;rw[X7] at hy;cases hy;exact hx 0 x (.inr rfl)
   ·rw[X5 _ _ ho] at hy;exact g.solo o y hy
  |app old x =>
   have hxs:=hx old x (.inl rfl);have hcase:∀ o y,(Eff.app old x).seq id H o=some y->(o=id/\y=x)\/(o≠id/\o≠old/\H o=some y):=by
    intro o y hy;simp only[Eff.seq] at hy;by_cases ho:o=id
    ·subst ho;rw[X7] at hy;cases hy;exact .inl ⟨rfl,rfl⟩
    ·rw[X5 _ _ ho] at hy;by_cases hoo:o=old
     ·subst hoo;rw[X7] at hy;cases hy
     ·rw[X5 _ _ hoo] at hy;exact .inr ⟨ho,hoo,hy⟩
   have hback:∀ o y,(Eff.app old x).seq id H o=some y->∃ z,(Eff.app old x).apply id H o=some z/\z.es=y.es/\z.esz=y.esz/\(y.spent=false->z.spent=false):=by
    intro o y hy;rcases hcase o y hy with ⟨rfl,rfl⟩|⟨h1,h2,h3⟩
    ·exact⟨_,X7 _ _ _,rfl,rfl,λh=>h⟩
    ·exact⟨y,by simp only[Eff.apply,X5 _ _ h1,X5 _ _ h2];exact h3,rfl,rfl,λh=>h⟩
   have hsep:∀ o o' y y',(Eff.app old x).seq id H o=some y->(Eff.app old x).seq id H o'=some y'->o≠o'->(c'.ρ o).blk≠(c'.ρ o').blk:=by
    intro o o' y y' hy hy' hne hb;obtain⟨z,hz,_,_,hsp⟩:=hback o y hy;obtain⟨z',hz',_,_,hsp'⟩:=hback o' y' hy';have hy0:y.spent=false:=by rcases hcase o y hy with ⟨_,rfl⟩|⟨_,_,h3⟩;exact hxs.2;exact(g.solo o y h3).2
    have hy0':y'.spent=false:=by rcases hcase o' y' hy' with ⟨_,rfl⟩|⟨_,_,h3⟩;exact hxs.2;exact(g.solo o' y' h3).2
    have:=((hI1.sep o o' z z' hz hz' hne hb).2 (hsp hy0)).1;rw[hsp' hy0'] at this;cases this
   refine⟨hI1.forget hback λo o' y y' hy hy' hne hb=>absurd hb (hsep o o' y y' hy hy' hne),λo y hy=>?_,λo y hy=>?_⟩
   ·rcases hcase o y hy with ⟨_,rfl⟩|⟨_,_,h3⟩
    ·exact hxs
    ·exact g.solo o y h3
   ·obtain⟨z,hz,_⟩:=hback o y hy;exact hown o z hz
 exact hK c' v (g.next hd hle hsa (λb hb=>.inl (by rw[hso] at hb;exact hb)) hfr key.2.2 key.1 key.2.1 (λq=>.inl) hv hok)
theorem DOp.step {P:Program} {T:Ty} {o:Oper} {a:AV} {e:X06} {A':Nat->AV} {V:Xh} {id b:Nat} (hT:X1h P T) (g:X4h nt c0 H0 n0 c A H M act) (hM:∀ q,M q->q<b) (hA:∀ t,A' t=A t\/A' t=.junk)
  (hV:∀ o x,V o=some x->H o=some x) (hid:¬ M id) (h:DOp P T A' V id o a e) (hd:∀ d,o.dst=some d->d<nt)
  (K:Act->World->Prop) (Q:Exit->Act->World->Prop)
  (hK:∀ c' v,X4h nt c0 H0 n0 c' (X1b A o.dst a) (e.go id H) (λq=>M q\/q=id) (act.put o.dst v)->K (act.put o.dst v) c'.w):o.wp P act c.w K Q:=by
 have g':=g.junk hA;have more:∀ {q},M q->M q\/q=id:=λh=>.inl h
 cases h with
 |pu h =>
  obtain⟨v,h1,h2,h3⟩:=Xpy hT (g.inv.view hV) g'.ev g'.evOk h;unfold Oper.wp;rw[h1];exact hK c v (g.next hd (.refl c) rfl (λb hb=>.inl hb) (.refl c H) (λq x hx=>.inr ⟨q,x,hx,rfl⟩) (g.inv.more λq h=>.inl h) g.solo (λq=>.inl) h2 (h3.mono λq h=>.inl h))
 |zero h =>
  refine Xhd hT g hA hV hid h (λold x hx=>by rcases hx with hx|hx<;>cases hx) hd K Q λc' v hg=>hK c' v ?_;exact hg
 |@new a x h hs1 hs2 =>
  refine Xhd hT g hA hV hid h (λold y hx=>by rcases hx with hx|hx<;>cases hx;exact⟨hs1,hs2⟩) hd K Q λc' v hg=>hK c' v ?_;rw[X06.go_new];exact hg
 |@app a old x h hs1 hs2 =>
  refine Xhd hT g hA hV hid h (λold' y hx=>by rcases hx with hx|hx<;>cases hx;exact⟨hs1,hs2⟩) hd K Q λc' v hg=>hK c' v ?_;rw[X06.go_app];exact hg
 |@store t p x q i k y e ti ho hdst hp hH he ht hw hsz hle hpos =>
  have hst:StR T (evA A') H o.op (upd H q (some { y with es:=y.es.set i (X16 e k (evA A' x)) })):=by
   rw[ho];exact .store hp (hV _ _ hH) (g.solo _ _ (hV _ _ hH)).1 he ht hw hsz hle hpos
  obtain⟨c',h1,hle',hsa,hso,hI,hfr,hown⟩:=Xsu hT g.inv g'.ev g'.evOk hst;unfold Oper.wp;rw[h1];have hsolo:=hst.solo g.solo;have:=hK c' undef;rw[hdst,X06.go_set] at this;show K (act.put o.dst undef) c'.w;rw[hdst];exact this (g.next (dst:=none) (λd h=>by cases h) hle' hsa (λb hb=>.inl (by rw[hso] at hb;exact hb)) hfr hown (hI.more λq h=>.inl h) hsolo (λq=>.inl) (a:=.sc undef) .sc .sc)
 |@room s x gg t et n m b ti te xs y ho hs hg hH hn hroom hes hx hne ht hk hte hsz =>
  have hx':Xae H (evA A' x) xs:=by
   revert hx;generalize evA A' x=u;intro hx
   cases hx with
   |list=>exact .list
   |nils=>exact .nils
   |ref h1 h2=>exact .ref (hV _ _ h1) h2
  obtain⟨v,c',h1,hle',hsa,hso,hv,hok,hI,hfr,hown⟩:=Xpr hT g.inv g'.ev g'.evOk ho hs hg (hV _ _ hH) (g.solo _ _ (hV _ _ hH)).1 hn hroom hes hx' hne ht hk hte hsz;unfold Oper.wp;rw[h1];have hsolo:∀ q z,upd H b (some { y with es:=y.es.take n++xs++y.es.drop (n+xs.length) }) q=some z->z.solo=true/\z.spent=false:=by
   intro q z hz;by_cases hq:q=b
   ·subst hq;rw[X7] at hz;cases hz;exact g.solo q y (hV _ _ hH)
   ·rw[X5 _ _ hq] at hz;exact g.solo q z hz
  refine hK c' v ?_;rw[X06.go_set];exact g.next hd hle' hsa (λb hb=>.inl (by rw[hso] at hb;exact hb)) hfr hown (hI.more λq h=>.inl h) hsolo (λq=>.inl) hv (hok.mono λq h=>.inl h)
 |@pure x args ts f caps bs r Vr ho hx hcv hp hsub hr =>
  have hcall:=HC.of_pure (H:=H) (n:=b) hp hcv (λo x h=>hV o x (hsub o x h)) (hr.imp (λh=>h) (·.1));let s:St:=⟨A',H,b⟩
  obtain⟨⟨fn,code,hfn⟩,hc⟩:=hcall;have hfx:=g'.ev x;rw[hx] at hfx;have hfo:=g'.evOk x;rw[hx] at hfo;obtain⟨cv,hcv',hcl,hcr⟩:=hfx.fn_inv;let vs:Array Value:=args.map act.eval++cv
  have hrun:(execOp act.eval o).run P c.w=.ok (.enter f vs) c.w:=by
   simp only[execOp,ho,resolve,hcv',Deferred.ofValue,Sem.run_bind,Sem.run_pure,Result.andThen_ok,invoke,callFunc,run_program,hfn.here,hfn.name,hfn.body,Option.isNone_some,Bool.false_eq_true,if_false,Array.empty_append];rfl
  unfold Oper.wp;rw[hrun,Oper.upon_enter];have hrel:X36 c false (args.toList.map (evA A')++caps) vs:=by
   refine⟨by simp[vs,hcl],λi a v ha hv=>?_⟩;rw[List.getElem?_append] at ha;simp only[vs,Array.getElem?_append,Array.size_map] at hv;simp only[List.length_map,Array.length_toList] at ha;by_cases hi:i<args.size
   ·rw[if_pos hi] at ha hv;rw[List.getElem?_map] at ha;rw[Array.getElem?_map] at hv
    cases hq:args[i]? with
    |none=>simp[hq] at hv
    |some q =>
     have hq':args.toList[i]?=some q:=by simpa using hq
     simp only[hq',Option.map_some,Option.some.injEq] at ha;simp only[hq,Option.map_some,Option.some.injEq] at hv;subst ha hv;exact g'.ev q
   ·rw[if_neg hi] at ha hv;exact hcr _ a v ha hv
  have hoks:∀ a∈args.toList.map (evA A')++caps,a.Ok (·<b):=by
   intro a ha;rcases List.mem_append.1 ha with ha|ha
   ·obtain⟨q,_,rfl⟩:=List.mem_map.1 ha;exact(g'.evOk q).mono hM
   ·cases hfo with|fn hfo=>exact(hfo a ha).mono hM
  refine(hc c vs (g.inv.more hM) g.solo hrel hoks).mono ?_;rintro e w' ⟨v,r',H',n',c',⟨rfl,rfl,rfl⟩,rfl,rfl,hle,hsa,hso,hfr,hown,hI,hs,hn,hv,hok⟩;have hrefs:r'.Ok M:=by
   rcases hr with h1|h1
   ·exact h1.ok M
   ·exact h1.2 M
  refine hK c' v (g.next hd (hle.weaken hM) hsa hso hfr hown ?_ hs (λq=>.inl) hv (hrefs.mono λq h=>.inl h));refine⟨λo x hx=>?_,hI.sep,hI.stab,hI.lt,hI.base,hI.own,hI.low,hI.glob⟩;obtain⟨h1,_,h3⟩:=g.inv.obj o x hx;exact⟨.inl h1,(hI.obj o x hx).2.1,λe he a ha=>(h3 e he a ha).mono λq h=>.inl h⟩
 |@callNew x args ts f caps bs q len y ho hx hcv hbs hp hfree hs1 hs2 =>
  obtain⟨⟨fn,code,hfn⟩,hc⟩:=hp;have hfx:=g'.ev x;rw[hx] at hfx;obtain⟨cv,hcv',hcl,hcr⟩:=hfx.fn_inv;let vs:Array Value:=args.map act.eval++cv
  have hrun:(execOp act.eval o).run P c.w=.ok (.enter f vs) c.w:=by
   simp only[execOp,ho,resolve,hcv',Deferred.ofValue,Sem.run_bind,Sem.run_pure,Result.andThen_ok,invoke,callFunc,run_program,hfn.here,hfn.name,hfn.body,Option.isNone_some,Bool.false_eq_true,if_false,Array.empty_append];rfl
  unfold Oper.wp;rw[hrun,Oper.upon_enter];have hI0:Inv c (λ_=>none) (·<0):=⟨(λo x hx=>by cases hx),(λo o' x x' hx=>by cases hx),(λo x hx=>by cases hx),g.inv.lt,g.inv.base,g.inv.own,(λo x hx=>by cases hx),g.inv.glob⟩;have hrel0:X36 c false (args.toList.map (evA A')++caps) vs:=by
   refine⟨by simp[vs,hcl],λi a v ha hv=>?_⟩;rw[List.getElem?_append] at ha;simp only[vs,Array.getElem?_append,Array.size_map] at hv;simp only[List.length_map,Array.length_toList] at ha;by_cases hi:i<args.size
   ·rw[if_pos hi] at ha hv;rw[List.getElem?_map] at ha;rw[Array.getElem?_map] at hv
    cases hq:args[i]? with
    |none=>simp[hq] at hv
    |some q =>
     have hq':args.toList[i]?=some q:=by simpa using hq
     simp only[hq',Option.map_some,Option.some.injEq] at ha;simp only[hq,Option.map_some,Option.some.injEq] at hv;subst ha hv;exact g'.ev q
   ·rw[if_neg hi] at ha hv;exact hcr _ a v ha hv
  have hrel:X36 c false bs vs:=by
   refine⟨by rw[<-hcv.len];exact hrel0.len,λi b v hb hvv=>?_⟩;have hlt:i<(args.toList.map (evA A')++caps).length:=by rw[hcv.len];exact(List.getElem?_eq_some_iff.1 hb).1
   have ha:=List.getElem?_eq_getElem hlt;exact(Xe6 hI0 (c':=c) rfl (λb hb=>Ctx.S_of_or hb) (λh=>by cases h) (λo x hx=>by cases hx) (hcv.rel i _ b ha hb) (hrel0.rel i _ v ha hvv)).shallow
  refine(hc c vs hI0 (λo x hx=>by cases hx) hrel (λa ha=>hbs a ha _)).mono ?_;rintro e w' ⟨v,r',H',n',c',⟨rfl,hy⟩,rfl,rfl,hle,hsa,hso,hfr,hown,hI,hs,hn,hv,hok⟩;have hold:∀ p,p<c.w.heap.size->c'.w.heap[p]?=c.w.heap[p]?:=λp hp=>hfr.block p hp (λo x hx=>by cases hx);have hblk:∀ o x,H o=some x->(c.ρ o).blk<c.w.heap.size:=by
   intro o x hx;obtain⟨_,⟨⟨cur,hcb,_⟩,_⟩,_⟩:=g.inv.obj o x hx;exact(Array.getElem?_eq_some_iff.1 hcb).1
  have hnew:c.w.heap.size<=(c'.ρ q).blk:=by
   rcases hown q y hy with h|⟨o',x',h,_⟩
   ·exact h
   ·cases h
  have hso':∀ p,c'.So p->c.So p\/c.w.heap.size<=p:=λp hp=>by
   rcases hso p hp with h|h|⟨o,x,h,_⟩
   ·exact .inl h
   ·exact .inr h
   ·cases h
  let c2:Ctx:=⟨c'.w,upd c.ρ id (c'.ρ q),c.Sa,c'.So,c.B⟩
  have hρ:∀ o,o≠id->c2.ρ o=c.ρ o:=λo ho=>X5 _ _ ho;have hρid:c2.ρ id=c'.ρ q:=X7 _ _ _;have hMid:∀ o,M o->o≠id:=λo ho e=>hid (e▸ho);have hle2:c.Le M c2:=⟨λo ho=>hρ o (hMid o ho),λ_ h=>h,λp hp=>hle.so p hp,λp hp=>hold p (g.inv.lt p hp),rfl⟩;have hB:c'.B=c.B:=hle.B;have hle3:c'.Le (λ_=>False) c2:=⟨λo ho=>ho.elim,λp hp=>by show c.Sa p;rw[<-hsa];exact hp,λ_ h=>h,λ_ _=>rfl,hB.symm⟩;have hcase:∀ o x,upd H id (some y) o=some x->(o=id/\x=y)\/(o≠id/\H o=some x):=by
   intro o x hx;by_cases ho:o=id
   ·subst ho;rw[X7] at hx;cases hx;exact .inl ⟨rfl,rfl⟩
   ·rw[X5 _ _ ho] at hx;exact .inr ⟨ho,hx⟩
  have hI2:Inv c2 (upd H id (some y)) (λq=>M q\/q=id):=by
   refine⟨λo x hx=>?_,λo o' x x' hx hx' hne hb=>?_,λo x hx=>?_,λp hp=>?_,by show c.B<=_;rw[<-hB];exact hI.base,λp hp=>by show c.B<=_;rw[<-hB];exact hI.own p hp,λo x hx=>?_,?_⟩
   ·rcases hcase o x hx with ⟨rfl,rfl⟩|⟨hne,hx⟩
    ·obtain⟨_,⟨⟨cur,hb,hss,hcl⟩,h3,h4,h5⟩,_⟩:=hI.obj q x hy;refine⟨.inr rfl,?_,λe he a ha=>hfree e he a ha _⟩;rw[hρid];refine⟨⟨cur,hb,hss,λi e he=>?_⟩,h3,h4,h5⟩;obtain⟨k1,k2⟩:=hcl i e he;exact⟨k1,λk a ha=>by obtain⟨v,hv,hr,h7⟩:=k2 k a ha;exact⟨v,hv,hr.mono hle3 (.inr (hfree e (List.mem_of_getElem? he) a (List.mem_of_getElem? ha) _)),h7⟩⟩
    ·obtain⟨i1,⟨⟨cur,hb,hss,hcl⟩,h3,h4,h5⟩,h6⟩:=g.inv.obj o x hx;refine⟨.inl i1,?_,λe he a ha=>(h6 e he a ha).mono λq h=>.inl h⟩;rw[hρ o hne];refine⟨⟨cur,by show c'.w.heap[(c.ρ o).blk]?=_;rw[hold _ (hblk o x hx)];exact hb,hss,λi e he=>?_⟩,h3,h4,h5⟩;obtain⟨k1,k2⟩:=hcl i e he;exact⟨k1,λk a ha=>by obtain⟨v,hv,hr,h7⟩:=k2 k a ha;exact⟨v,hv,hr.mono hle2 (.inr (h6 e (List.mem_of_getElem? he) a (List.mem_of_getElem? ha))),h7⟩⟩
   ·exfalso;rcases hcase o x hx with ⟨rfl,rfl⟩|⟨hn1,hx⟩<;>rcases hcase o' x' hx' with ⟨rfl,rfl⟩|⟨hn2,hx'⟩
    ·exact hne rfl
    ·rw[hρid,hρ o' hn2] at hb;have:=hblk o' x' ‹H o'=some x'›;omega
    ·rw[hρid,hρ o hn1] at hb;have:=hblk o x ‹H o=some x›;omega
    ·rw[hρ o hn1,hρ o' hn2] at hb;have:=(g.inv.sep o o' x x' ‹H o=some x› ‹H o'=some x'› hne hb).1;rw[(g.solo o x ‹H o=some x›).1] at this;cases this
   ·rcases hcase o x hx with ⟨rfl,rfl⟩|⟨hne,hx⟩
    ·rw[hρid];have:=hI.stab q x hy;exact⟨λh=>this.1 (by rw[hsa];exact h),this.2⟩
    ·rw[hρ o hne];have:=g.inv.stab o x hx;exact⟨this.1,λh=>(hso' _ h).elim this.2 λh=>by have:=hblk o x hx;omega⟩
   ·refine hI.lt p (hp.imp (λh=>by rw[hsa];exact h) λh=>h)
   ·rcases hcase o x hx with ⟨rfl,rfl⟩|⟨hne,hx⟩
    ·rw[hρid];show c.B<=_;rw[<-hB];exact hI.low q x hy
    ·rw[hρ o hne];exact g.inv.low o x hx
   ·exact hI.glob.of (λp hp=>by show c.Sa p;rw[<-hsa];exact hp) λ_ _=>rfl
  refine hK c2 v ?_;rw[X06.go_new];refine g.next (c':=c2) hd hle2 rfl (λp hp=>(hso' p hp).imp (λh=>h) .inl) ⟨hfr.os,hfr.tape,hfr.output,hfr.size,λp hp _=>hold p hp⟩ (λo x hx=>?_) hI2 (λo x hx=>?_) (λq=>.inl) ?_ (.ref (.inr rfl))
  ·rcases hcase o x hx with ⟨rfl,rfl⟩|⟨hne,hx⟩
   ·rw[hρid];exact .inl hnew
   ·exact .inr ⟨o,x,hx,by rw[hρ o hne]⟩
  ·rcases hcase o x hx with ⟨rfl,rfl⟩|⟨hne,hx⟩
   ·exact⟨hs1,hs2⟩
   ·exact g.solo o x hx
  ·obtain⟨hp,hle'⟩:=hv.ref_inv;rw[hp];have:Xn c2 false (.ref id 0 len) (.slice (some ⟨(c2.ρ id).blk,0*(c2.ρ id).esz,none⟩) len ((c2.ρ id).cap - 0)):=.ref (by rw[hρid];exact hle');rw[hρid] at this;exact this
 |@callSet x args ts f caps q len as y y' v ho hx hq hargs has hfree hfree' hp hs1 hs2 =>
  obtain⟨⟨fn,code,hfn⟩,hc⟩:=hp;have hfx:=g'.ev x;rw[hx] at hfx;obtain⟨cv,hcv',hcl,hcr⟩:=hfx.fn_inv;let vs:Array Value:=args.map act.eval++cv
  have hrun:(execOp act.eval o).run P c.w=.ok (.enter f vs) c.w:=by
   simp only[execOp,ho,resolve,hcv',Deferred.ofValue,Sem.run_bind,Sem.run_pure,Result.andThen_ok,invoke,callFunc,run_program,hfn.here,hfn.name,hfn.body,Option.isNone_some,Bool.false_eq_true,if_false,Array.empty_append];rfl
  unfold Oper.wp;rw[hrun,Oper.upon_enter];have hqH:H q=some y:=hV _ _ hq;have hrel0:X36 c false (args.toList.map (evA A')++caps) vs:=by
   refine⟨by simp[vs,hcl],λi a v ha hv=>?_⟩;rw[List.getElem?_append] at ha;simp only[vs,Array.getElem?_append,Array.size_map] at hv;simp only[List.length_map,Array.length_toList] at ha;by_cases hi:i<args.size
   ·rw[if_pos hi] at ha hv;rw[List.getElem?_map] at ha;rw[Array.getElem?_map] at hv
    cases hq:args[i]? with
    |none=>simp[hq] at hv
    |some q =>
     have hq':args.toList[i]?=some q:=by simpa using hq
     simp only[hq',Option.map_some,Option.some.injEq] at ha;simp only[hq,Option.map_some,Option.some.injEq] at hv;subst ha hv;exact g'.ev q
   ·rw[if_neg hi] at ha hv;exact hcr _ a v ha hv
  rw[hargs] at hrel0;let c1:Ctx:={ c with ρ:=λ_=>c.ρ q }
  have hle1:c.Le (λ_=>False) c1:=⟨λo ho=>ho.elim,λ_ h=>h,λ_ h=>h,λ_ _=>rfl,rfl⟩;let H1:Xh:=λp=>bif Nat.beq p 0 then some y else none
  have hH1:∀ o z,H1 o=some z->o=0/\z=y:=by
   intro o z hz;simp only[H1] at hz
   cases hb:Nat.beq o 0 with
   |true=>rw[hb,cond_true] at hz;cases hz;exact⟨Nat.eq_of_beq_eq_true hb,rfl⟩
   |false=>rw[hb] at hz;cases hz
  obtain⟨i1,⟨⟨cur,hcb,hcs,hcc⟩,hfit,hpos,hsame⟩,_⟩:=g.inv.obj q y hqH;have hI0:Inv c1 H1 (·<1):=by
   refine⟨λo z hz=>?_,λo o' z z' hz hz' hne=>?_,λo z hz=>?_,g.inv.lt,g.inv.base,g.inv.own,λo z hz=>?_,g.inv.glob.rho _⟩
   ·obtain⟨rfl,rfl⟩:=hH1 o z hz;refine⟨Nat.one_pos,⟨⟨cur,hcb,hcs,λi e he=>?_⟩,hfit,hpos,hsame⟩,λe he a ha=>hfree e he a ha _⟩;obtain⟨k1,k2⟩:=hcc i e he;exact⟨k1,λk a ha=>by obtain⟨v,hv,hr,h7⟩:=k2 k a ha;exact⟨v,hv,hr.mono hle1 (.inr (hfree e (List.mem_of_getElem? he) a (List.mem_of_getElem? ha) _)),h7⟩⟩
   ·exact absurd ((hH1 o z hz).1.trans (hH1 o' z' hz').1.symm) hne
   ·obtain⟨rfl,rfl⟩:=hH1 o z hz;exact g.inv.stab q z hqH
   ·obtain⟨rfl,rfl⟩:=hH1 o z hz;exact g.inv.low q z hqH
  have hrel:X36 c1 false (.ref 0 0 len::as) vs:=by
   refine⟨hrel0.len,λi a v ha hv=>?_⟩
   cases i with
   |zero =>
    have ha:some (AV.ref 0 0 len)=some a:=ha;cases ha
    have h0:=hrel0.rel 0 _ v rfl hv
    cases h0 with|ref hle=>exact .ref (c:=c1) (o:=0) hle
   |succ i =>
    have ha:as[i]?=some a:=ha;exact(hrel0.rel (i+1) a v ha hv).mono hle1 (.inr (has a (List.mem_of_getElem? ha) _))
  refine(hc c1 vs hI0 (λo z hz=>by obtain⟨rfl,rfl⟩:=hH1 o z hz;exact g.solo q z hqH) hrel (λa ha=>by
   rcases List.mem_cons.1 ha with rfl|ha
   ·exact .ref Nat.one_pos
   ·exact has a ha _)).mono ?_
  rintro e w' ⟨u,r',H',n',c',⟨rfl,hy⟩,rfl,rfl,hle,hsa,hso,hfr,hown,hI,hs,hn,hv,hok⟩;have hρ0:c'.ρ 0=c.ρ q:=hle.rho 0 Nat.one_pos;have hblk:∀ o x,H o=some x->(c.ρ o).blk<c.w.heap.size:=by
   intro o x hx;obtain⟨_,⟨⟨cur,hcb,_⟩,_⟩,_⟩:=g.inv.obj o x hx;exact(Array.getElem?_eq_some_iff.1 hcb).1
  have hsep:∀ o x,H o=some x->o≠q->(c.ρ o).blk≠(c.ρ q).blk:=λo x hx hne hb=>by
   have:=(g.inv.sep o q x y hx hqH hne hb).1;rw[(g.solo o x hx).1] at this;cases this
  have hso':∀ p,c'.So p->c.So p\/c.w.heap.size<=p:=λp hp=>by
   rcases hso p hp with h|h|⟨o,z,h,h2⟩
   ·exact .inl h
   ·exact .inr h
   ·exfalso;have h2:(c.ρ q).blk=p:=h2;have:=(hI.stab 0 y' hy).2;rw[hρ0,h2] at this;exact this hp
  have hold:∀ p,p<c.w.heap.size->(c.ρ q).blk≠p->c'.w.heap[p]?=c.w.heap[p]?:=λp hp hn=>hfr.block p hp λo z _=>hn;have holdS:∀ p,c.Sa p\/c.So p->c'.w.heap[p]?=c.w.heap[p]?:=hle.heap;let c2:Ctx:=⟨c'.w,c.ρ,c.Sa,c'.So,c.B⟩
  have hle2:c.Le M c2:=⟨λo ho=>rfl,λ_ h=>h,λp hp=>hle.so p hp,holdS,rfl⟩;have hB:c'.B=c.B:=hle.B;have hle3:c'.Le (λ_=>False) c2:=⟨λo ho=>ho.elim,λp hp=>by show c.Sa p;rw[<-(show c'.Sa=c.Sa from hsa)];exact hp,λ_ h=>h,λ_ _=>rfl,hB.symm⟩;have hcase:∀ o x,upd H q (some y') o=some x->(o=q/\x=y')\/(o≠q/\H o=some x):=by
   intro o x hx;by_cases ho:o=q
   ·subst ho;rw[X7] at hx;cases hx;exact .inl ⟨rfl,rfl⟩
   ·rw[X5 _ _ ho] at hx;exact .inr ⟨ho,hx⟩
  have hI2:Inv c2 (upd H q (some y')) (λp=>M p\/p=id):=by
   refine⟨λo x hx=>?_,λo o' x x' hx hx' hne hb=>?_,λo x hx=>?_,λp hp=>?_,by show c.B<=_;rw[<-hB];exact hI.base,λp hp=>by show c.B<=_;rw[<-hB];exact hI.own p hp,λo x hx=>?_,?_⟩
   ·rcases hcase o x hx with ⟨rfl,rfl⟩|⟨hne,hx⟩
    ·obtain⟨_,⟨⟨cur',hb,hss,hcl⟩,h3,h4,h5⟩,_⟩:=hI.obj 0 x hy;rw[hρ0] at hb hss hcl h3 h4 h5;refine⟨.inl i1,⟨⟨cur',hb,hss,λi e he=>?_⟩,h3,h4,h5⟩,λe he a ha=>hfree' e he a ha _⟩;obtain⟨k1,k2⟩:=hcl i e he;exact⟨k1,λk a ha=>by obtain⟨v,hv,hr,h7⟩:=k2 k a ha;exact⟨v,hv,hr.mono hle3 (.inr (hfree' e (List.mem_of_getElem? he) a (List.mem_of_getElem? ha) _)),h7⟩⟩
    ·obtain⟨j1,⟨⟨cur',hb,hss,hcl⟩,h3,h4,h5⟩,h6⟩:=g.inv.obj o x hx;refine⟨.inl j1,⟨⟨cur',by show c'.w.heap[(c.ρ o).blk]?=_;rw[hold _ (hblk o x hx) (λe=>hsep o x hx hne e.symm)];exact hb,hss,λi e he=>?_⟩,h3,h4,h5⟩,λe he a ha=>(h6 e he a ha).mono λq h=>.inl h⟩;obtain⟨k1,k2⟩:=hcl i e he;exact⟨k1,λk a ha=>by obtain⟨v,hv,hr,h7⟩:=k2 k a ha;exact⟨v,hv,hr.mono hle2 (.inr (h6 e (List.mem_of_getElem? he) a (List.mem_of_getElem? ha))),h7⟩⟩
   ·exfalso;rcases hcase o x hx with ⟨rfl,rfl⟩|⟨hn1,hx⟩<;>rcases hcase o' x' hx' with ⟨rfl,rfl⟩|⟨hn2,hx'⟩
    ·exact hne rfl
    ·exact hsep o' x' ‹H o'=some x'› hn2 hb.symm
    ·exact hsep o x ‹H o=some x› hn1 hb
    ·have:=(g.inv.sep o o' x x' ‹H o=some x› ‹H o'=some x'› hne hb).1;rw[(g.solo o x ‹H o=some x›).1] at this;cases this
   ·have hold1:∀ o z,H o=some z->¬ c2.Sa (c2.ρ o).blk/\¬ c2.So (c2.ρ o).blk:=λo z hz=>by
     have:=g.inv.stab o z hz;exact⟨this.1,λh=>(hso' _ h).elim this.2 λh=>by have:=hblk o z hz;have h:c.w.heap.size<=(c.ρ o).blk:=h;omega⟩
    rcases hcase o x hx with ⟨rfl,rfl⟩|⟨hne,hx⟩
    ·exact hold1 o y hqH
    ·exact hold1 o x hx
   ·refine hI.lt p (hp.imp (λh=>by rw[show c'.Sa=c.Sa from hsa];exact h) λh=>h)
   ·rcases hcase o x hx with ⟨rfl,rfl⟩|⟨hne,hx⟩
    ·exact g.inv.low o y hqH
    ·exact g.inv.low o x hx
   ·exact hI.glob.of (λp hp=>by show c.Sa p;rw[<-(show c'.Sa=c.Sa from hsa)];exact hp) λ_ _=>rfl
  refine hK c2 u ?_;rw[X06.go_set];have hu:=hv.sc_inv;refine g.next (c':=c2) hd hle2 rfl (λp hp=>(hso' p hp).imp (λh=>h) .inl) ⟨hfr.os,hfr.tape,hfr.output,hfr.size,λp hp hn=>hold p hp (hn q y hqH)⟩ (λo x hx=>?_) hI2 (λo x hx=>?_) (λq=>.inl) (by rw[<-hu];exact .sc) .sc
  ·rcases hcase o x hx with ⟨rfl,rfl⟩|⟨hne,hx⟩
   ·exact .inr ⟨o,y,hqH,rfl⟩
   ·exact .inr ⟨o,x,hx,rfl⟩
  ·rcases hcase o x hx with ⟨rfl,rfl⟩|⟨hne,hx⟩
   ·exact⟨hs1,hs2⟩
   ·exact g.solo o x hx
 |@callNewV x args ts f caps q len y n V' ho hx hV' has hp hfree hs1 hs2 =>
  obtain⟨⟨fn,code,hfn⟩,hc⟩:=hp;have hfx:=g'.ev x;rw[hx] at hfx;obtain⟨cv,hcv',hcl,hcr⟩:=hfx.fn_inv;let vs:Array Value:=args.map act.eval++cv
  have hrun:(execOp act.eval o).run P c.w=.ok (.enter f vs) c.w:=by
   simp only[execOp,ho,resolve,hcv',Deferred.ofValue,Sem.run_bind,Sem.run_pure,Result.andThen_ok,invoke,callFunc,run_program,hfn.here,hfn.name,hfn.body,Option.isNone_some,Bool.false_eq_true,if_false,Array.empty_append];rfl
  unfold Oper.wp;rw[hrun,Oper.upon_enter];have hVH:∀ o x,V' o=some x->H o=some x:=λo x hx=>hV _ _ (hV' o x hx).1;have hVM:∀ o,(∃ z,V' o=some z)->M o:=λo ⟨z,hz⟩=>(g.inv.obj o z (hVH o z hz)).1;have hI0:Inv c V' (·<n):=by
   have h:=g.inv.view hVH;refine⟨λo x hx=>?_,h.sep,h.stab,h.lt,h.base,h.own,h.low,h.glob⟩;obtain⟨_,h2,_⟩:=h.obj o x hx;exact⟨(hV' o x hx).2.1,h2,λe he a ha=>((hV' o x hx).2.2 e he a ha).mono λq ⟨z,hz⟩=>(hV' q z hz).2.1⟩
  have hrel:X36 c false (args.toList.map (evA A')++caps) vs:=by
   refine⟨by simp[vs,hcl],λi a v ha hv=>?_⟩;rw[List.getElem?_append] at ha;simp only[vs,Array.getElem?_append,Array.size_map] at hv;simp only[List.length_map,Array.length_toList] at ha;by_cases hi:i<args.size
   ·rw[if_pos hi] at ha hv;rw[List.getElem?_map] at ha;rw[Array.getElem?_map] at hv
    cases hq:args[i]? with
    |none=>simp[hq] at hv
    |some q =>
     have hq':args.toList[i]?=some q:=by simpa using hq
     simp only[hq',Option.map_some,Option.some.injEq] at ha;simp only[hq,Option.map_some,Option.some.injEq] at hv;subst ha hv;exact g'.ev q
   ·rw[if_neg hi] at ha hv;exact hcr _ a v ha hv
  refine(hc c vs hI0 (λo x hx=>g.solo o x (hVH o x hx)) hrel (λa ha=>(has a ha).mono λq ⟨z,hz⟩=>(hV' q z hz).2.1)).mono ?_;rintro e w' ⟨v,r',H',n',c',⟨rfl,hy,hqn,hkeep⟩,rfl,rfl,hle,hsa,hso,hfr,hown,hI,hs,hn,hv,hok⟩;have hblk:∀ o x,H o=some x->(c.ρ o).blk<c.w.heap.size:=by
   intro o x hx;obtain⟨_,⟨⟨cur,hcb,_⟩,_⟩,_⟩:=g.inv.obj o x hx;exact(Array.getElem?_eq_some_iff.1 hcb).1
  have hρn:∀ o,(∃ z,V' o=some z)->c'.ρ o=c.ρ o:=λo ⟨z,hz⟩=>hle.rho o (hV' o z hz).2.1;have hqV:∀ o x,V' o=some x->(c'.ρ q).blk≠(c.ρ o).blk:=λo x hx hb=>by
   have hne:q≠o:=λe=>by have:=(hV' o x hx).2.1;omega
   rw[<-hρn o ⟨x,hx⟩] at hb;have:=(hI.sep q o y x hy (hkeep o x hx) hne hb).1;rw[hs1] at this;cases this
  have hnew:c.w.heap.size<=(c'.ρ q).blk:=by
   rcases hown q y hy with h|⟨o',x',h,h2⟩
   ·exact h
   ·exact absurd h2.symm (hqV o' x' h)
  have hso':∀ p,c'.So p->c.So p\/c.w.heap.size<=p:=λp hp=>by
   rcases hso p hp with h|h|⟨o,x,h,h2⟩
   ·exact .inl h
   ·exact .inr h
   ·exfalso;have:=(hI.stab o x (hkeep o x h)).2;rw[hρn o ⟨x,h⟩,h2] at this;exact this hp
  have hold:∀ p,p<c.w.heap.size->(∀ o x,V' o=some x->(c.ρ o).blk≠p)->c'.w.heap[p]?=c.w.heap[p]?:=λp hp hn=>hfr.block p hp hn;have holdS:∀ p,c.Sa p\/c.So p->c'.w.heap[p]?=c.w.heap[p]?:=hle.heap;let c2:Ctx:=⟨c'.w,upd c.ρ id (c'.ρ q),c.Sa,c'.So,c.B⟩
  have hρ:∀ o,o≠id->c2.ρ o=c.ρ o:=λo ho=>X5 _ _ ho;have hρid:c2.ρ id=c'.ρ q:=X7 _ _ _;have hMid:∀ o,M o->o≠id:=λo ho e=>hid (e▸ho);have hle2:c.Le M c2:=⟨λo ho=>hρ o (hMid o ho),λ_ h=>h,λp hp=>hle.so p hp,holdS,rfl⟩;have hB:c'.B=c.B:=hle.B;have hle3:c'.Le (λo=>∃ z,V' o=some z) c2:=⟨λo ho=>(hρ o (hMid o (hVM o ho))).trans (hρn o ho).symm,λp hp=>by show c.Sa p;rw[<-hsa];exact hp,λ_ h=>h,λ_ _=>rfl,hB.symm⟩;have hcase:∀ o x,upd H id (some y) o=some x->(o=id/\x=y)\/(o≠id/\H o=some x):=by
   intro o x hx;by_cases ho:o=id
   ·subst ho;rw[X7] at hx;cases hx;exact .inl ⟨rfl,rfl⟩
   ·rw[X5 _ _ ho] at hx;exact .inr ⟨ho,hx⟩
  have hI2:Inv c2 (upd H id (some y)) (λq=>M q\/q=id):=by
   refine⟨λo x hx=>?_,λo o' x x' hx hx' hne hb=>?_,λo x hx=>?_,λp hp=>?_,by show c.B<=_;rw[<-hB];exact hI.base,λp hp=>by show c.B<=_;rw[<-hB];exact hI.own p hp,λo x hx=>?_,?_⟩
   ·rcases hcase o x hx with ⟨rfl,rfl⟩|⟨hne,hx⟩
    ·obtain⟨_,⟨⟨cur,hb,hss,hcl⟩,h3,h4,h5⟩,_⟩:=hI.obj q x hy;refine⟨.inr rfl,?_,λe he a ha=>(hfree e he a ha).mono λq hq=>.inl (hVM q hq)⟩;rw[hρid];refine⟨⟨cur,hb,hss,λi e he=>?_⟩,h3,h4,h5⟩;obtain⟨k1,k2⟩:=hcl i e he;exact⟨k1,λk a ha=>by obtain⟨v,hv,hr,h7⟩:=k2 k a ha;exact⟨v,hv,hr.mono hle3 (.inr (hfree e (List.mem_of_getElem? he) a (List.mem_of_getElem? ha))),h7⟩⟩
    ·obtain⟨i1,⟨⟨cur,hb,hss,hcl⟩,h3,h4,h5⟩,h6⟩:=g.inv.obj o x hx;refine⟨.inl i1,?_,λe he a ha=>(h6 e he a ha).mono λq h=>.inl h⟩;rw[hρ o hne];by_cases hin:∃ z,V' o=some z
     ·obtain⟨z,hz⟩:=hin;have hzx:z=x:=by have:=hVH o z hz;rw[hx] at this;exact(Option.some.inj this).symm
      subst hzx;obtain⟨_,⟨⟨cur',hb',hss',hcl'⟩,h3',h4',h5'⟩,_⟩:=hI.obj o z (hkeep o z hz);rw[hρn o ⟨z,hz⟩] at hb' hss' hcl' h3' h4' h5';refine⟨⟨cur',hb',hss',λi e he=>?_⟩,h3',h4',h5'⟩;obtain⟨k1,k2⟩:=hcl' i e he;exact⟨k1,λk a ha=>by obtain⟨v,hv,hr,h7⟩:=k2 k a ha;exact⟨v,hv,hr.mono hle3 (.inr ((hV' o z hz).2.2 e (List.mem_of_getElem? he) a (List.mem_of_getElem? ha))),h7⟩⟩
     ·have hnb:∀ o' x',V' o'=some x'->(c.ρ o').blk≠(c.ρ o).blk:=λo' x' hx' hb=>by
       have hne':o'≠o:=λe=>hin ⟨x',e▸hx'⟩;have:=(g.inv.sep o' o x' x (hVH o' x' hx') hx hne' hb).1;rw[(g.solo o' x' (hVH o' x' hx')).1] at this;cases this
      refine⟨⟨cur,by show c'.w.heap[(c.ρ o).blk]?=_;rw[hold _ (hblk o x hx) hnb];exact hb,hss,λi e he=>?_⟩,h3,h4,h5⟩;obtain⟨k1,k2⟩:=hcl i e he;exact⟨k1,λk a ha=>by obtain⟨v,hv,hr,h7⟩:=k2 k a ha;exact⟨v,hv,hr.mono hle2 (.inr (h6 e (List.mem_of_getElem? he) a (List.mem_of_getElem? ha))),h7⟩⟩
   ·exfalso;rcases hcase o x hx with ⟨rfl,rfl⟩|⟨hn1,hx⟩<;>rcases hcase o' x' hx' with ⟨rfl,rfl⟩|⟨hn2,hx'⟩
    ·exact hne rfl
    ·rw[hρid,hρ o' hn2] at hb;have:=hblk o' x' ‹H o'=some x'›;omega
    ·rw[hρid,hρ o hn1] at hb;have:=hblk o x ‹H o=some x›;omega
    ·rw[hρ o hn1,hρ o' hn2] at hb;have:=(g.inv.sep o o' x x' ‹H o=some x› ‹H o'=some x'› hne hb).1;rw[(g.solo o x ‹H o=some x›).1] at this;cases this
   ·rcases hcase o x hx with ⟨rfl,rfl⟩|⟨hne,hx⟩
    ·rw[hρid];have:=hI.stab q x hy;exact⟨λh=>this.1 (by rw[hsa];exact h),this.2⟩
    ·rw[hρ o hne];have:=g.inv.stab o x hx;exact⟨this.1,λh=>(hso' _ h).elim this.2 λh=>by have:=hblk o x hx;omega⟩
   ·refine hI.lt p (hp.imp (λh=>by rw[hsa];exact h) λh=>h)
   ·rcases hcase o x hx with ⟨rfl,rfl⟩|⟨hne,hx⟩
    ·rw[hρid];show c.B<=_;rw[<-hB];exact hI.low q x hy
    ·rw[hρ o hne];exact g.inv.low o x hx
   ·exact hI.glob.of (λp hp=>by show c.Sa p;rw[<-hsa];exact hp) λ_ _=>rfl
  refine hK c2 v ?_;rw[X06.go_new];refine g.next (c':=c2) hd hle2 rfl (λp hp=>(hso' p hp).imp (λh=>h) .inl) ⟨hfr.os,hfr.tape,hfr.output,hfr.size,λp hp hn=>hold p hp λo x hx=>hn o x (hVH o x hx)⟩ (λo x hx=>?_) hI2 (λo x hx=>?_) (λq=>.inl) ?_ (.ref (.inr rfl))
  ·rcases hcase o x hx with ⟨rfl,rfl⟩|⟨hne,hx⟩
   ·rw[hρid];exact .inl hnew
   ·exact .inr ⟨o,x,hx,by rw[hρ o hne]⟩
  ·rcases hcase o x hx with ⟨rfl,rfl⟩|⟨hne,hx⟩
   ·exact⟨hs1,hs2⟩
   ·exact g.solo o x hx
  ·obtain⟨hp,hle'⟩:=hv.ref_inv;rw[hp];have:Xn c2 false (.ref id 0 len) (.slice (some ⟨(c2.ρ id).blk,0*(c2.ρ id).esz,none⟩) len ((c2.ρ id).cap - 0)):=.ref (by rw[hρid];exact hle');rw[hρid] at this;exact this
end
end Go.Av


namespace Go.Av
variable [Gls]
def X7s:Op->Bool
 |.move _|.assign _|.pick ..|.binOp ..|.unOp ..|.convert ..|.fieldAddr ..|.field ..|.extract ..|.nilCheck _|.index ..|.slice _ _ none (some (.const _)) none=>true
 |_=>false
def X12 (i mi:Nat):Nat->List Oper->List Nat->List Nat
 |k,o::r,m::ms =>
  let rest:=X12 i mi (k+1) r ms
  match o.dst with
  |none=>rest
  |some d=>bif Nat.beq k i then rest else bif Nat.blt k i then (bif Nat.testBit mi k then rest else d::rest) else (bif Nat.testBit m i then rest else d::rest)
 |_,_,_=>[]
def X8v (t:Nat):List Nat->Bool
 |[]=>false
 |a::r=>Nat.beq t a||X8v t r
theorem X7o {t:Nat} {l:List Nat}:X8v t l=true↔t∈l:=by
 induction l with
 |nil=>simp[X8v]
 |cons a r ih=>simp only[X8v,Bool.or_eq_true,Nat.beq_eq,ih,List.mem_cons]
theorem Xc2 {i mi : Nat} : ∀ (l : List Oper) (ms : List Nat) (k0 k : Nat) (o : Oper) (m d : Nat), l[k]? = some o -> ms[k]? = some m -> o.dst = some d -> k0 + k ≠ i ->
    (k0+k<i->Nat.testBit mi (k0+k)=false)->(i<k0+k->Nat.testBit m i=false)->d∈X12 i mi k0 l ms:=by
  intro l
  induction l with
  |nil=>intro ms k0 k o m d ho;simp at ho
  |cons a l ih =>
    intro ms k0 k o m d ho hm hd hne h1 h2
    cases ms with
    |nil=>simp at hm
    |cons b ms =>
      cases k with
      |zero =>
        simp at ho hm;subst ho hm;simp only[X12,hd];have hb:Nat.beq k0 i=false:=by rw[<-Bool.not_eq_true,Nat.beq_eq];simpa using hne
        rw[hb,cond_false];by_cases hlt:k0<i
        · have:Nat.blt k0 i=true:=by simpa using hlt
          have h1':Nat.testBit mi k0=false:=h1 (by simpa using hlt);rw[this,cond_true,h1'];exact List.mem_cons_self ..
        · have:Nat.blt k0 i=false:=by rw[<-Bool.not_eq_true];simpa using hlt
          rw[this,cond_false,h2 (by simp at hne;omega)];exact List.mem_cons_self ..
      |succ k =>
        simp at ho hm;have:=ih ms (k0+1) k o m d ho hm hd om (λh=>by have:=h1 om;rwa [show k0+1+k=k0+(k+1) by omega]) (λh=>h2 om);simp only[X12]
        cases a.dst with
        |none=>exact this
        |some d' =>
          simp only[];cases Nat.beq k0 i<;>simp only[cond_true,cond_false]<;>first
            |exact this
            | (cases Nat.blt k0 i <;> simp only [cond_true, cond_false]
               · cases Nat.testBit b i<;>simp only[cond_true,cond_false]
                 · exact List.mem_cons_of_mem _ this
                 · exact this
               · cases Nat.testBit mi k0<;>simp only[cond_true,cond_false]
                 · exact List.mem_cons_of_mem _ this
                 · exact this)
def frD (bad:List Nat) (A:Nat->AV):Nat->AV:=λt=>bif X8v t bad then .junk else A t
def X54 (base mi o:Nat):Nat->List X06->Bool
 |k,e::es=>(X8v o (e.objs (base+k))&&!Nat.testBit mi k)||X54 base mi o (k+1) es
 |_,[]=>false
def X2g (base mi:Nat) (hf:Nat->Bool) (es:List X06) (o:Nat):Bool :=
 hf o||(Nat.ble base o&&!Nat.testBit mi (o - base))||X54 base mi o 0 es
def hpD (base mi:Nat) (hf:Nat->Bool) (es:List X06) (H:Xh):Xh:=λo=>bif X2g base mi hf es o then none else H o
def X0z (base mk:Nat) (os:List Nat):Nat->List (Nat×(Nat->Bool))->List X06->List X06->Bool
 |i,(mi,hf)::ms,pre,e::es =>
  (Nat.testBit mk i||os.all (λo=>X2g base mi hf pre o&&!X8v o (e.objs (base+i))))&&X0z base mk os (i+1) ms (pre++[e]) es
 |_,_,_,_=>true
theorem X8y {base mi o:Nat}:∀ (es:List X06) (k0 k:Nat) (e:X06),es[k]?=some e->X54 base mi o k0 es=false->o∈e.objs (base+(k0+k))->Nat.testBit mi (k0+k)=true:=by
 intro es
 induction es with
 |nil=>intro k0 k e he;simp at he
 |cons a es ih =>
  intro k0 k e he h ho;simp only[X54,Bool.or_eq_false_iff] at h
  cases k with
  |zero =>
   simp at he;subst he;have hm:X8v o (a.objs (base+k0))=true:=X7o.2 (by simpa using ho);have:=h.1;rw[hm,Bool.true_and] at this;simpa using this
  |succ k =>
   simp at he;have:=ih (k0+1) k e he h.2 (by rwa [show k0+1+k=k0+(k+1) by omega])
   rwa [show k0+(k+1)=k0+1+k by omega]
theorem Xai {base mk:Nat} {os:List Nat}:∀ (es:List X06) (i0:Nat) (ms:List (Nat×(Nat->Bool))) (pre:List X06),X0z base mk os i0 ms pre es=true->ms.length=es.length ->
  ∀ (i:Nat) (e:X06) (m:Nat×(Nat->Bool)),es[i]?=some e->ms[i]?=some m->Nat.testBit mk (i0+i)=true\/∀ o∈os,X2g base m.1 m.2 (pre++es.take i) o=true/\o ∉ e.objs (base+(i0+i)):=by
 intro es
 induction es with
 |nil=>intro i0 ms pre h hl i e m he;simp at he
 |cons a es ih =>
  intro i0 ms pre h hl i e m he hm
  cases ms with
  |nil=>simp at hl
  |cons b ms =>
   obtain⟨mi,hf⟩:=b;simp only[X0z,Bool.and_eq_true] at h
   cases i with
   |zero =>
    simp at he hm;subst he hm;rcases Bool.or_eq_true_iff.1 h.1 with h1|h1
    ·exact .inl h1
    ·right;intro o ho;have:=List.all_eq_true.1 h1 o ho;simp only[Bool.and_eq_true,Bool.not_eq_true',<-Bool.not_eq_true,X7o] at this;refine⟨by simpa using this.1,by simpa using this.2⟩
   |succ i =>
    simp at he hm;have:=ih (i0+1) ms (pre++[a]) h.2 (by simpa using hl) i e m he hm;rw[show i0+(i+1)=i0+1+i by omega];simpa using this
def X22 (nt:Nat) (bad:List Nat):Option Nat->Bool
 |some d=>Nat.blt d nt&&!X8v d bad
 |none=>true
def X34 (want:Bool):Value->Bool
 |.bool b=>b==want
 |_=>false
def hz0 (o:Oper) (_:Nat):Bool:=X7s o.op
inductive Xd5 (hz:Oper->Nat->Bool) (P:Program) (T:Ty) (nt base:Nat) (ops:Array Oper) (ms:List Nat):Nat->List Oper->(Nat->AV)->Xh->List X06->(Nat->AV)->Xh->Prop
 |nil {i A H es}:Xd5 hz P T nt base ops ms i [] A H es A H
 |op {i o l A H es a e A' H'} (hg:o.guard=none) (hd:X22 nt (X12 i (ms.getD i 0) 0 ops.toList ms) o.dst=true)
   (h:DOp P T (frD (X12 i (ms.getD i 0) 0 ops.toList ms) A) (hpD base (ms.getD i 0) (hz o) es H) (base+i) o a e)
   (hw:X0z base (ms.getD i 0) (e.objs (base+i)) 0 ((ms.zip (ops.toList.map hz)).take i) [] es=true)
   (k:Xd5 hz P T nt base ops ms (i+1) l (X1b A o.dst a) (e.go (base+i) H) (es++[e]) A' H'):Xd5 hz P T nt base ops ms i (o::l) A H es A' H'
 |run {i o l A H es a e A' H' j t want} (hg:o.guard=some (j,want)) (hd:X22 nt (X12 i (ms.getD i 0) 0 ops.toList ms) o.dst=true) (hj:(ops[j]?).bind (·.dst)=some t) (ht:Nat.blt t nt=true)
   (hb:X0q (frD (X12 i (ms.getD i 0) 0 ops.toList ms) A t)=.sc (.bool want))
   (h:DOp P T (frD (X12 i (ms.getD i 0) 0 ops.toList ms) A) (hpD base (ms.getD i 0) (hz o) es H) (base+i) o a e)
   (hw:X0z base (ms.getD i 0) (e.objs (base+i)) 0 ((ms.zip (ops.toList.map hz)).take i) [] es=true)
   (k:Xd5 hz P T nt base ops ms (i+1) l (X1b A o.dst a) (e.go (base+i) H) (es++[e]) A' H'):Xd5 hz P T nt base ops ms i (o::l) A H es A' H'
 |skip {i o l A H es A' H' j t want v} (hg:o.guard=some (j,want)) (hd:X22 nt (X12 i (ms.getD i 0) 0 ops.toList ms) o.dst=true) (hj:(ops[j]?).bind (·.dst)=some t) (ht:Nat.blt t nt=true)
   (hb:X0q (frD (X12 i (ms.getD i 0) 0 ops.toList ms) A t)=.sc v) (hbw:X34 want v=false)
   (k:Xd5 hz P T nt base ops ms (i+1) l (X1b A o.dst (.sc undef)) H (es++[.none]) A' H'):Xd5 hz P T nt base ops ms i (o::l) A H es A' H'
inductive Xrs (hz:Oper->Nat->Bool) (P:Program) (T:Ty) (nt base:Nat) (ops:Array Oper) (ms:List Nat) (i:Nat) (o:Oper) (A:Nat->AV) (H:Xh) (es:List X06):AV->X06->Prop
 |run {a e} (hg:o.guard=none\/∃ j t want,o.guard=some (j,want)/\(ops[j]?).bind (·.dst)=some t/\t<nt/\X0q (frD (X12 i (ms.getD i 0) 0 ops.toList ms) A t)=.sc (.bool want))
   (h:DOp P T (frD (X12 i (ms.getD i 0) 0 ops.toList ms) A) (hpD base (ms.getD i 0) (hz o) es H) (base+i) o a e):Xrs hz P T nt base ops ms i o A H es a e
 |skip {j t want v} (hg:o.guard=some (j,want)) (hj:(ops[j]?).bind (·.dst)=some t) (ht:t<nt)
   (hb:X0q (frD (X12 i (ms.getD i 0) 0 ops.toList ms) A t)=.sc v) (hbw:X34 want v=false):Xrs hz P T nt base ops ms i o A H es (.sc undef) .none
def X1p (l:List Oper) (rs:List (AV×X06)) (k:Nat) (A:Nat->AV):Nat->AV :=
 match l[k]?,rs[k]? with
 |some o,some r=>X1b A o.dst r.1
 |_,_=>A
def X1w (base:Nat) (rs:List (AV×X06)) (k:Nat) (H:Xh):Xh :=
 match rs[k]? with
 |some r=>r.2.go (base+k) H
 |none=>H
structure Xrt (hz:Oper->Nat->Bool) (P:Program) (T:Ty) (nt base:Nat) (ops:Array Oper) (ms:List Nat) (A:Nat->AV) (H:Xh) (rs:List (AV×X06)):Prop where
 len:rs.length=ops.toList.length
 one:∀ (i:Nat) o r,ops.toList[i]?=some o->rs[i]?=some r->X22 nt (X12 i (ms.getD i 0) 0 ops.toList ms) o.dst=true /\
  Xrs hz P T nt base ops ms i o (Xy (X1p ops.toList rs) (λ_=>true) i A) (Xy (X1w base rs) (λ_=>true) i H) ((rs.take i).map (·.2)) r.1 r.2 /\
  X0z base (ms.getD i 0) (r.2.objs (base+i)) 0 ((ms.zip (ops.toList.map hz)).take i) [] ((rs.take i).map (·.2))=true
theorem X7u {base mk i:Nat}:∀ (es:List X06) (k:Nat) (ms:List (Nat×(Nat->Bool))) (pre:List X06),X0z base mk [] k ms pre es=true:=by
 intro es
 induction es with
 |nil=>intro k ms pre;cases ms<;>simp[X0z]
 |cons a es ih=>intro k ms pre;cases ms<;>simp[X0z,ih]
theorem X8f {V:Type} {f g:Nat->V->V} {S:Nat->Bool}:∀ (n:Nat) (v:V),(∀ k,k<n->∀ u,f k u=g k u)->Xy f S n v=Xy g S n v
 |0,_,_=>rfl
 |n+1,v,h=>by simp only[Xy,X8f n v (λk hk=>h k om),h n om]
theorem Xd5.all {hz:Oper->Nat->Bool} {P:Program} {T:Ty} {nt base:Nat} {ops:Array Oper} {ms:List Nat} {i:Nat} {l:List Oper} {A:Nat->AV} {H:Xh} {es:List X06} {A':Nat->AV} {H':Xh}
  (h:Xd5 hz P T nt base ops ms i l A H es A' H'):∀ (A0:Nat->AV) (H0:Xh) (rs:List (AV×X06)),i<=ops.toList.length->rs.length=i->es=rs.map (·.2)->ops.toList.drop i=l->A=Xy (X1p ops.toList rs) (λ_=>true) i A0->H=Xy (X1w base rs) (λ_=>true) i H0 ->
   (∀ (k:Nat) o r,ops.toList[k]?=some o->rs[k]?=some r->X22 nt (X12 k (ms.getD k 0) 0 ops.toList ms) o.dst=true /\
    Xrs hz P T nt base ops ms k o (Xy (X1p ops.toList rs) (λ_=>true) k A0) (Xy (X1w base rs) (λ_=>true) k H0) ((rs.take k).map (·.2)) r.1 r.2 /\
    X0z base (ms.getD k 0) (r.2.objs (base+k)) 0 ((ms.zip (ops.toList.map hz)).take k) [] ((rs.take k).map (·.2))=true) ->
   ∃ rs',Xrt hz P T nt base ops ms A0 H0 rs'/\A'=Xy (X1p ops.toList rs') (λ_=>true) ops.toList.length A0/\H'=Xy (X1w base rs') (λ_=>true) ops.toList.length H0:=by
 have ext:∀ (i:Nat) (o:Oper) (l:List Oper) (A:Nat->AV) (H:Xh) (a:AV) (e:X06) (A0:Nat->AV) (H0:Xh) (rs:List (AV×X06)),rs.length=i->ops.toList.drop i=o::l ->
   A=Xy (X1p ops.toList rs) (λ_=>true) i A0->H=Xy (X1w base rs) (λ_=>true) i H0 ->
   X22 nt (X12 i (ms.getD i 0) 0 ops.toList ms) o.dst=true->Xrs hz P T nt base ops ms i o A H (rs.map (·.2)) a e->X0z base (ms.getD i 0) (e.objs (base+i)) 0 ((ms.zip (ops.toList.map hz)).take i) [] (rs.map (·.2))=true ->
   (∀ (k:Nat) o r,ops.toList[k]?=some o->rs[k]?=some r->X22 nt (X12 k (ms.getD k 0) 0 ops.toList ms) o.dst=true /\
    Xrs hz P T nt base ops ms k o (Xy (X1p ops.toList rs) (λ_=>true) k A0) (Xy (X1w base rs) (λ_=>true) k H0) ((rs.take k).map (·.2)) r.1 r.2 /\
    X0z base (ms.getD k 0) (r.2.objs (base+k)) 0 ((ms.zip (ops.toList.map hz)).take k) [] ((rs.take k).map (·.2))=true) ->
   i+1<=ops.toList.length/\(rs++[(a,e)]).length=i+1/\ops.toList.drop (i+1)=l/\X1b A o.dst a=Xy (X1p ops.toList (rs++[(a,e)])) (λ_=>true) (i+1) A0/\e.go (base+i) H=Xy (X1w base (rs++[(a,e)])) (λ_=>true) (i+1) H0 /\
   (∀ (k:Nat) o r,ops.toList[k]?=some o->(rs++[(a,e)])[k]?=some r->X22 nt (X12 k (ms.getD k 0) 0 ops.toList ms) o.dst=true /\
    Xrs hz P T nt base ops ms k o (Xy (X1p ops.toList (rs++[(a,e)])) (λ_=>true) k A0) (Xy (X1w base (rs++[(a,e)])) (λ_=>true) k H0) (((rs++[(a,e)]).take k).map (·.2)) r.1 r.2 /\
    X0z base (ms.getD k 0) (r.2.objs (base+k)) 0 ((ms.zip (ops.toList.map hz)).take k) [] (((rs++[(a,e)]).take k).map (·.2))=true):=by
  intro i o l A H a e A0 H0 rs hlen hdrop hA hH hd hone hw hall;have hoi:ops.toList[i]?=some o:=by
   have:=List.getElem?_drop (xs:=ops.toList) (i:=i) (j:=0);rw[hdrop] at this;simpa using this.symm
  have hget:∀ k,k<i->(rs++[(a,e)])[k]?=rs[k]?:=λk hk=>List.getElem?_append_left om;have hA1:∀ k,k<=i->Xy (X1p ops.toList (rs++[(a,e)])) (λ_=>true) k A0=Xy (X1p ops.toList rs) (λ_=>true) k A0:=by
   intro k hk;refine X8f k A0 λq hq u=>?_;simp only[X1p,hget q om]
  have hH1:∀ k,k<=i->Xy (X1w base (rs++[(a,e)])) (λ_=>true) k H0=Xy (X1w base rs) (λ_=>true) k H0:=by
   intro k hk;refine X8f k H0 λq hq u=>?_;simp only[X1w,hget q om]
  have hlast:(rs++[(a,e)])[i]?=some (a,e):=by rw[<-hlen];simp
  refine⟨(List.getElem?_eq_some_iff.1 hoi).1,by simp[hlen],?_,?_,?_,?_⟩
  ·have:=congrArg List.tail hdrop;rw[List.tail_drop] at this;simpa using this
  ·show _=bif true then X1p ops.toList (rs++[(a,e)]) i (Xy _ _ i A0) else _;rw[hA1 i (Nat.le_refl _),<-hA,cond_true];simp only[X1p,hoi,hlast]
  ·show _=bif true then X1w base (rs++[(a,e)]) i (Xy _ _ i H0) else _;rw[hH1 i (Nat.le_refl _),<-hH,cond_true];simp only[X1w,hlast]
  ·intro k o' r ho' hr;by_cases hk:k<i
   ·rw[hget k hk] at hr;have:=hall k o' r ho' hr;rw[hA1 k om,hH1 k om,List.take_append_of_le_length om];exact this
   ·have hke:k=i:=by
     have:=(List.getElem?_eq_some_iff.1 hr).1;simp at this;omega
    subst hke;rw[hlast] at hr;cases hr
    rw[hoi] at ho';cases ho'
    have ht:(rs++[(a,e)]).take k=rs:=by rw[<-hlen];simp
    rw[hA1 k (Nat.le_refl _),hH1 k (Nat.le_refl _),<-hA,<-hH,ht];exact⟨hd,hone,hw⟩
 induction h with
 |@nil i A H es =>
  intro A0 H0 rs hile hlen hes hdrop hA hH hall;have hle:ops.toList.length<=i:=List.drop_eq_nil_iff.1 hdrop;have hi:i=ops.toList.length:=by omega
  subst hi;exact⟨rs,⟨hlen,hall⟩,hA,hH⟩
 |@op i o l A H es a e A' H' hg hd h hw k ih =>
  intro A0 H0 rs hile hlen hes hdrop hA hH hall;subst hes;obtain⟨h0,h1,h2,h3,h4,h5⟩:=ext i o l A H a e A0 H0 rs hlen hdrop hA hH hd (.run (.inl hg) h) hw hall;exact ih A0 H0 _ h0 h1 (by simp) h2 h3 h4 h5
 |@run i o l A H es a e A' H' j t want hg hd hj ht hb h hw k ih =>
  intro A0 H0 rs hile hlen hes hdrop hA hH hall;subst hes;obtain⟨h0,h1,h2,h3,h4,h5⟩:=ext i o l A H a e A0 H0 rs hlen hdrop hA hH hd (.run (.inr ⟨j,t,want,hg,hj,by simpa using ht,hb⟩) h) hw hall;exact ih A0 H0 _ h0 h1 (by simp) h2 h3 h4 h5
 |@skip i o l A H es A' H' j t want v hg hd hj ht hb hbw k ih =>
  intro A0 H0 rs hile hlen hes hdrop hA hH hall;subst hes;obtain⟨h0,h1,h2,h3,h4,h5⟩:=ext i o l A H (.sc undef) .none A0 H0 rs hlen hdrop hA hH hd (.skip hg hj (by simpa using ht) hb hbw) (X7u (i:=0) _ _ _ _) hall;exact ih A0 H0 _ h0 h1 (by simp) h2 h3 h4 h5
end Go.Av


namespace Go.Av
variable [Gls]
theorem Xcs {V:Type} {f:Nat->V->V} {i:Nat}:∀ (n:Nat) (v:V),i<=n->Xy f (λk=>Nat.blt k i) n v=Xy f (λ_=>true) i v:=by
  intro n
  induction n with
  | zero => intro v h; have : i = 0 := by omega
            subst this;rfl
  |succ n ih =>
    intro v h;by_cases hi:i=n+1
    · subst hi
      refine X18 _ v λk hk=>.inr ?_;simpa using hk
    · have:Nat.blt n i=false:=by rw[<-Bool.not_eq_true];simp;omega
      simp only[Xy,this,cond_false];exact ih v om
def gA (l:List Oper) (rs:List (AV×X06)) (t:Nat) (k:Nat) (v:AV):AV :=
 match l[k]?,rs[k]? with
 |some o,some r=>if o.dst=some t then r.1 else v
 |_,_=>v
def gH (base:Nat) (rs:List (AV×X06)) (o:Nat) (k:Nat) (u:Option Obj):Option Obj :=
 match rs[k]? with
 |some r=>(r.2.at (base+k) o).getD u
 |none=>u
theorem X7l (l:List Oper) (rs:List (AV×X06)) (S:Nat->Bool) (A0:Nat->AV) (t:Nat):∀ n,Xy (X1p l rs) S n A0 t=Xy (gA l rs t) S n (A0 t):=by
 intro n
 induction n with
 |zero=>rfl
 |succ n ih =>
  simp only[Xy]
  cases S n with
  |false=>simpa using ih
  |true =>
   simp only[cond_true];rw[<-ih];unfold X1p gA
   cases l[n]? with
   |none=>rfl
   |some o =>
    cases rs[n]? with
    |none=>rfl
    |some r =>
     simp only[]
     cases hd:o.dst with
     |none=>simp[X1b]
     |some d =>
      simp only[X1b,Option.some.injEq];by_cases h:t=d
      ·subst h;rw[X7,if_pos rfl]
      ·rw[X5 _ _ h,if_neg (λe=>h e.symm)]
theorem X61 (base:Nat) (rs:List (AV×X06)) (S:Nat->Bool) (H0:Xh) (o:Nat):∀ n,Xy (X1w base rs) S n H0 o=Xy (gH base rs o) S n (H0 o):=by
 intro n
 induction n with
 |zero=>rfl
 |succ n ih =>
  simp only[Xy]
  cases S n with
  |false=>simpa using ih
  |true =>
   simp only[cond_true];rw[<-ih];unfold X1w gH
   cases rs[n]? with
   |none=>rfl
   |some r=>rfl
def X2f:Nat->List Oper->Bool
 |i,o::l=>(X3s o).all (λj=>Nat.blt j i)&&X2f (i+1) l
 |_,[]=>true
theorem X2r:∀ (l:List Oper) (i0:Nat),X2f i0 l=true->∀ (i:Nat) o,l[i]?=some o->∀ j∈X3s o,j<i0+i:=by
 intro l
 induction l with
 |nil=>intro i0 h i o ho;simp at ho
 |cons a l ih =>
  intro i0 h i o ho j hj;simp only[X2f,Bool.and_eq_true] at h
  cases i with
  |zero =>
   simp at ho;subst ho;simpa using List.all_eq_true.1 h.1 j hj
  |succ i =>
   have:=ih (i0+1) h.2 i o (by simpa using ho) j hj;omega
section
variable {hz:Oper->Nat->Bool} {P:Program} {T:Ty} {nt n0 base:Nat} {ops:Array Oper} {A0:Nat->AV} {H0:Xh} {rs:List (AV×X06)}
structure Xvl (l:List Oper) (S:Nat->Bool):Prop where
 lt:∀ k,S k=true->k<l.length
 pre:∀ (k:Nat),S k=true->∀ q,((Xz l).getD k 0).testBit q=true->S q=true
theorem Xsr (hall:Xrt hz P T nt base ops (Xz ops.toList) A0 H0 rs) {S:Nat->Bool} (hS:Xvl ops.toList S) {i:Nat} (hi:i<ops.toList.length) (hn:S i=false)
  (hr:∀ q,((Xz ops.toList).getD i 0).testBit q=true->S q=true) {t:Nat} (ht:X8v t (X12 i ((Xz ops.toList).getD i 0) 0 ops.toList (Xz ops.toList))=false) :
  Xy (X1p ops.toList rs) (λ_=>true) i A0 t=Xy (X1p ops.toList rs) S ops.toList.length A0 t:=by
 rw[X7l,X7l,<-Xcs ops.toList.length _ om];refine X18 _ _ λk hk=>?_;have ho:=List.getElem?_eq_getElem hk;have hml:k<(Xz ops.toList).length:=by rw[(X69 _).len];exact hk
 by_cases hd:(ops.toList[k]).dst=some t
 ·right;have hnot:t ∉ X12 i ((Xz ops.toList).getD i 0) 0 ops.toList (Xz ops.toList):=λh=>by rw[X7o.2 h] at ht;cases ht
  have hmk:(Xz ops.toList)[k]?=some ((Xz ops.toList).getD k 0):=by simp[List.getD,hml]
  by_cases hki:k=i
  ·subst hki;rw[hn];exact(show Nat.blt k k=false by rw[<-Bool.not_eq_true,Nat.blt_eq];omega)
  ·by_cases hlt:k<i
   ·have hb:Nat.blt k i=true:=by simpa using hlt
    rw[hb]
    cases hq:Nat.testBit ((Xz ops.toList).getD i 0) k with
    |true=>exact(hr k hq).symm
    |false =>
     exact absurd (Xc2 (i:=i) (mi:=(Xz ops.toList).getD i 0) _ _ 0 k _ _ t ho hmk hd om (λ_=>by simpa using hq) (λh=>by omega)) hnot
   ·have hb:Nat.blt k i=false:=by rw[<-Bool.not_eq_true];simpa using hlt
    rw[hb]
    cases hq:Nat.testBit ((Xz ops.toList).getD k 0) i with
    |true =>
     cases hs:S k with
     |false=>rfl
     |true=>have:=hS.pre k hs i hq;rw[hn] at this;cases this
    |false =>
     exact absurd (Xc2 (i:=i) (mi:=(Xz ops.toList).getD i 0) _ _ 0 k _ _ t ho hmk hd om (λh=>by omega) (λ_=>hq)) hnot
 ·left;intro u;unfold gA;rw[ho]
  cases rs[k]? with
  |none=>rfl
  |some r=>simp only[if_neg hd]
theorem X9b (hall:Xrt hz P T nt base ops (Xz ops.toList) A0 H0 rs) {k i o:Nat} {r ri:AV×X06} (hr:rs[k]?=some r) (hri:rs[i]?=some ri) (hik:i<k) (ho:o∈r.2.objs (base+k)) :
  Nat.testBit ((Xz ops.toList).getD k 0) i=true \/
   (X2g base ((Xz ops.toList).getD i 0) ((ops.toList[i]?).elim (λ_=>false) hz) ((rs.take i).map (·.2)) o=true/\o ∉ ri.2.objs (base+i)):=by
 have hk:k<rs.length:=(List.getElem?_eq_some_iff.1 hr).1;have hkl:k<ops.toList.length:=by rw[<-hall.len];exact hk
 obtain⟨_,_,hw⟩:=hall.one k _ r (List.getElem?_eq_getElem hkl) hr;have hml:(Xz ops.toList).length=ops.toList.length:=(X69 _).len;have hil:i<ops.toList.length:=by omega
 have:=Xai _ 0 _ [] hw (by simp[hml,hall.len]) i ri.2 ((Xz ops.toList).getD i 0,hz (ops.toList[i])) ?_ ?_
 ·simp only[Nat.zero_add,List.nil_append] at this;refine this.imp id λh=>?_;have:=h o ho;rw[<-List.map_take,List.take_take,Nat.min_eq_left om] at this;rw[List.getElem?_eq_getElem hil];exact this
 ·rw[List.getElem?_map,List.getElem?_take,if_pos hik,hri];rfl
 ·rw[List.getElem?_take,if_pos hik,List.getElem?_zip_eq_some];refine⟨?_,?_⟩
  ·have:i<(Xz ops.toList).length:=by omega
   simp only[List.getD,List.getElem?_eq_getElem this,Option.getD_some]
  ·rw[List.getElem?_map,List.getElem?_eq_getElem hil];rfl
theorem Xsq (hall:Xrt hz P T nt base ops (Xz ops.toList) A0 H0 rs) {S:Nat->Bool} (hS:Xvl ops.toList S) {i:Nat} (hi:i<ops.toList.length) (hn:S i=false)
  (hr:∀ q,((Xz ops.toList).getD i 0).testBit q=true->S q=true) {o:Nat}
  (ht:X2g base ((Xz ops.toList).getD i 0) (hz (ops.toList[i])) ((rs.take i).map (·.2)) o=false) :
  Xy (X1w base rs) (λ_=>true) i H0 o=Xy (X1w base rs) S ops.toList.length H0 o:=by
 rw[X61,X61,<-Xcs ops.toList.length _ om];refine X18 _ _ λk hk=>?_;have hkr:k<rs.length:=by rw[hall.len];exact hk
 have hir:i<rs.length:=by rw[hall.len];exact hi
 have hrk:=List.getElem?_eq_getElem hkr;by_cases hd:o∈(rs[k]).2.objs (base+k)
 ·right;by_cases hki:k=i
  ·subst hki;rw[hn];exact(show Nat.blt k k=false by rw[<-Bool.not_eq_true,Nat.blt_eq];omega)
  ·by_cases hlt:k<i
   ·have hb:Nat.blt k i=true:=by simpa using hlt
    rw[hb];simp only[X2g,Bool.or_eq_false_iff] at ht;have:=X8y _ 0 k (rs[k]).2 (by rw[List.getElem?_map,List.getElem?_take,if_pos hlt,hrk];rfl) ht.2 (by simpa using hd);exact(hr k (by simpa using this)).symm
   ·have hb:Nat.blt k i=false:=by rw[<-Bool.not_eq_true];simpa using hlt
    rw[hb];rcases X9b hall hrk (List.getElem?_eq_getElem hir) om hd with h|h
    ·cases hs:S k with
     |false=>rfl
     |true=>have:=hS.pre k hs i h;rw[hn] at this;cases this
    ·rw[List.getElem?_eq_getElem hi] at h;have h1:X2g base ((Xz ops.toList).getD i 0) (hz (ops.toList[i])) ((rs.take i).map (·.2)) o=true:=h.1;rw[ht] at h1;cases h1
 ·left;intro u;unfold gH;rw[hrk];simp only[X06.at_objs hd,Option.getD_none]
theorem Xme (hall:Xrt hz P T nt base ops (Xz ops.toList) A0 H0 rs) {S:Nat->Bool} (hS:Xvl ops.toList S) {i:Nat} (hi:i<ops.toList.length) (hn:S i=false)
  {r:AV×X06} (hri:rs[i]?=some r) (hdst:X22 nt (X12 i ((Xz ops.toList).getD i 0) 0 ops.toList (Xz ops.toList)) (ops.toList[i]).dst=true) :
  Xy (X1p ops.toList rs) (λk=>S k||Nat.beq k i) ops.toList.length A0=X1b (Xy (X1p ops.toList rs) S ops.toList.length A0) (ops.toList[i]).dst r.1:=by
 funext t
 rw[X7l];have hoi:=List.getElem?_eq_getElem hi;by_cases hd:(ops.toList[i]).dst=some t
 ·rw[X7c hn _ _ hi]
  ·rw[hd];simp only[X1b,X7];unfold gA;rw[hoi,hri];simp only[if_pos hd]
  ·intro k hk hs;by_cases hki:k<i
   ·exact .inr hki
   ·left;intro u;have hne:k≠i:=λh=>by subst h;rw[hn] at hs;cases hs
    have hok:=List.getElem?_eq_getElem hk;have hml:k<(Xz ops.toList).length:=by rw[(X69 _).len];exact hk
    have hmk:(Xz ops.toList)[k]?=some ((Xz ops.toList).getD k 0):=by simp[List.getD,hml]
    have hdk:(ops.toList[k]).dst≠some t:=by
     intro hdk;rw[hd] at hdst;simp only[X22,Bool.and_eq_true,Bool.not_eq_true'] at hdst;have hnot:t ∉ X12 i ((Xz ops.toList).getD i 0) 0 ops.toList (Xz ops.toList):=λh=>by rw[X7o.2 h] at hdst;cases hdst.2
     cases hq:Nat.testBit ((Xz ops.toList).getD k 0) i with
     |true=>have:=hS.pre k hs i hq;rw[hn] at this;cases this
     |false=>exact hnot (Xc2 (i:=i) (mi:=(Xz ops.toList).getD i 0) _ _ 0 k _ _ t hok hmk hdk om (λh=>by omega) (λ_=>hq))
    unfold gA;rw[hok]
    cases rs[k]? with
    |none=>rfl
    |some r=>simp only[if_neg hdk]
 ·have:X1b (Xy (X1p ops.toList rs) S ops.toList.length A0) (ops.toList[i]).dst r.1 t=Xy (X1p ops.toList rs) S ops.toList.length A0 t:=by
   cases h:(ops.toList[i]).dst with
   |none=>rfl
   |some d=>simp only[X1b];exact X5 _ _ (λe=>hd (by rw[h,e]))
  rw[this,X7l];refine X18 _ _ λk hk=>?_;by_cases hki:k=i
  ·subst hki;left;intro u;unfold gA;rw[hoi,hri];simp only[if_neg hd]
  ·right;have:Nat.beq k i=false:=by rw[<-Bool.not_eq_true,Nat.beq_eq];exact hki
   simp[this]
theorem Xmd (hall:Xrt hz P T nt base ops (Xz ops.toList) A0 H0 rs) {S:Nat->Bool} (hS:Xvl ops.toList S) {i:Nat} (hi:i<ops.toList.length) (hn:S i=false)
  {r:AV×X06} (hri:rs[i]?=some r) :
  Xy (X1w base rs) (λk=>S k||Nat.beq k i) ops.toList.length H0=r.2.go (base+i) (Xy (X1w base rs) S ops.toList.length H0):=by
 funext o
 rw[X61];by_cases hd:o∈r.2.objs (base+i)
 ·rw[X7c hn _ _ hi]
  ·unfold gH;rw[hri];simp only[X06.go];rw[X61];rfl
  ·intro k hk hs;by_cases hki:k<i
   ·exact .inr hki
   ·left;intro u;have hne:k≠i:=λh=>by subst h;rw[hn] at hs;cases hs
    have hkr:k<rs.length:=by rw[hall.len];exact hk
    have hrk:=List.getElem?_eq_getElem hkr;have hdk:o ∉ (rs[k]).2.objs (base+k):=by
     intro hdk;rcases X9b hall hrk hri om hdk with h|h
     ·have:=hS.pre k hs i h;rw[hn] at this;cases this
     ·exact h.2 hd
    unfold gH;rw[hrk];simp only[X06.at_objs hdk,Option.getD_none]
 ·have:r.2.go (base+i) (Xy (X1w base rs) S ops.toList.length H0) o=Xy (X1w base rs) S ops.toList.length H0 o:=by
   simp only[X06.go,X06.at_objs hd,Option.getD_none]
  rw[this,X61];refine X18 _ _ λk hk=>?_;by_cases hki:k=i
  ·subst hki;left;intro u;unfold gH;rw[hri];simp only[X06.at_objs hd,Option.getD_none]
  ·right;have:Nat.beq k i=false:=by rw[<-Bool.not_eq_true,Nat.beq_eq];exact hki
   simp[this]
theorem Xky {c0 c:Ctx} {H0 H:Xh} {A:Nat->AV} {M:Nat->Prop} {act:Act} (g:X4h nt c0 H0 n0 c A H M act) {j t:Nat} {b:Bool} (hj:(ops[j]?).bind (·.dst)=some t) (ht:t<nt)
  (hb:X0q (A t)=.sc (.bool b)):yielded ops act.tmps j=some b:=by
 have h1:=g.ev (.tmp t);simp only[evA,hb] at h1;have h2:=h1.sc_inv;simp only[Act.eval] at h2;have hlt:t<act.tmps.size:=by rw[g.size];exact ht
 unfold yielded;rw[hj];simp only[Option.bind_some,Array.getElem?_eq_getElem hlt];have:act.tmps[t]=.bool b:=by simpa[hlt] using h2
 rw[this]
def AtS (base:Nat) (S:Nat->Bool) (q:Nat):Prop:=q<base\/∃ k,S k=true/\q=base+k
theorem X1j {md:Region.Mode} {listed:Array Bool} {i:Nat}:i∈Region.ready md ops listed ↔
  i<ops.size/\listed.getD i true=false/\((ops[i]?).map (·.after.all λe=>!Region.binds md e||listed.getD e.on false)).getD false=true:=by
 simp[Region.ready]
theorem Xau {c0 c:Ctx} {H0 H:Xh} {A:Nat->AV} {M:Nat->Prop} {act:Act} (g:X4h nt c0 H0 n0 c A H M act) {o:Oper} {j t:Nat} {want:Bool} {v:Value} (hg:o.guard=some (j,want)) (hj:(ops[j]?).bind (·.dst)=some t) (ht:t<nt)
  (hb:X0q (A t)=.sc v) (hv:X34 want v=false):Region.wanted o (yielded ops act.tmps)=false:=by
 have h1:=g.ev (.tmp t);simp only[evA,hb] at h1;have h2:=h1.sc_inv;simp only[Act.eval] at h2;have hlt:t<act.tmps.size:=by rw[g.size];exact ht
 have h3:act.tmps[t]=v:=by simpa[hlt] using h2
 unfold Region.wanted yielded;rw[hg];simp only[hj,Option.bind_some,Array.getElem?_eq_getElem hlt,h3];cases v<;>first|rfl|(simp only[X34] at hv;simpa using hv)
theorem Xdq {c0 c:Ctx} {H0:Xh} {s:St} {act:Act} (g:X0b nt c0 H0 n0 c s act) {o:Oper} {j t:Nat} {want:Bool} {v:Value} (hg:o.guard=some (j,want)) (hj:(ops[j]?).bind (·.dst)=some t) (ht:t<nt)
  (hb:X0q (s.A t)=.sc v) (hv:X34 want v=false):Region.wanted o (yielded ops act.tmps)=false :=
 Xau (M:=(·<s.n)) ⟨g.inv,g.solo,g.frame,g.ok,g.size,g.reach,λq hq=>Nat.lt_of_lt_of_le hq g.le0⟩ hg hj ht hb hv
theorem Xsw {s:St} {l:List Oper} {o:Oper} {K:St->Prop} {j t:Nat} {want:Bool} {v:Value} (hg:o.guard=some (j,want)) (hj:(ops[j]?).bind (·.dst)=some t) (ht:Nat.blt t nt=true) (hb:X0q (s.A t)=.sc v) (hd:X3n nt o.dst=true)
  (hv:X34 want v=false) (hn:X8m P nt n0 ops l K ⟨X1b s.A o.dst (.sc undef),s.H,s.n⟩):X8m P nt n0 ops (o::l) K s:=by
 intro c0 H0 c act g Qx hQ R;have hw:=Xdq g hg hj (by simpa using ht) hb hv;have:=hn c0 H0 c _ (g.next (X0i hd) (.refl c) rfl (λb hb=>.inl hb) (.refl c s.H) (λq x hx=>.inr ⟨q,x,hx,rfl⟩) g.inv g.solo (Nat.le_refl _) (v:=undef) .sc .sc) Qx (λc' s' act' g' hd'=>hQ c' s' act' g' (hd'.trans (put_defers _ _ _))) R;exact X74 hw this
theorem Xbp {o:Oper} {ys:Nat->Option Bool} (h:o.guard=none):Region.wanted o ys=true:=by simp[Region.wanted,h]
theorem Xbo {o:Oper} {ys:Nat->Option Bool} {j:Nat} {want b:Bool} (h:o.guard=some (j,want)) (hy:ys j=some b):Region.wanted o ys=(b==want):=by
 simp[Region.wanted,h,hy]
theorem Xa8 (hT:X1h P T) (hpre:X2f 0 ops.toList=true) (hall:Xrt hz P T nt base ops (Xz ops.toList) A0 H0 rs) {Q:Xc->St->Prop}
  (hQ:Q .normal ⟨Xy (X1p ops.toList rs) (λ_=>true) ops.toList.length A0,Xy (X1w base rs) (λ_=>true) ops.toList.length H0,base+ops.toList.length⟩)
  {c0:Ctx} {HH:Xh} {ds:List Deferred} (hb0:n0<=base) :
  ∀ (fuel:Nat) (listed:Array Bool) (L:List Nat) (c:Ctx) (act:Act),listed.size=ops.size->L.length<=fuel->(∀ k,k<ops.size->listed.getD k false=false->k∈L) ->
   (∀ (i:Nat) o,ops.toList[i]?=some o->listed.getD i false=true->∀ j∈X3s o,listed.getD j false=true) ->
   X4h nt c0 HH n0 c (Xy (X1p ops.toList rs) (λk=>listed.getD k false) ops.toList.length A0) (Xy (X1w base rs) (λk=>listed.getD k false) ops.toList.length H0)
    (AtS base (λk=>listed.getD k false)) act ->
   act.defers=ds->wpAny P .any ops (CQ nt c0 HH n0 ds Q) fuel listed act c.w:=by
 have hlen:ops.toList.length=ops.size:=Array.length_toList;have fin:∀ (listed:Array Bool) (c:Ctx) (act:Act),listed.size=ops.size->(∀ (i:Nat) o,ops.toList[i]?=some o->listed.getD i false=true->∀ j∈X3s o,listed.getD j false=true) ->
   X4h nt c0 HH n0 c (Xy (X1p ops.toList rs) (λk=>listed.getD k false) ops.toList.length A0) (Xy (X1w base rs) (λk=>listed.getD k false) ops.toList.length H0)
    (AtS base (λk=>listed.getD k false)) act->Region.ready .any ops listed=[]->act.defers=ds->CQ nt c0 HH n0 ds Q .normal act c.w:=by
  intro listed c act hsz hdown g hr hds;have hfull:∀ k,k<ops.size->listed.getD k false=true:=by
   intro k
   induction k using Nat.strongRecOn with
   |_ k ih =>
    intro hk
    cases hl:listed.getD k false with
    |true=>rfl
    |false =>
     have hkl:k<listed.size:=by omega
     have hmem:k∈Region.ready .any ops listed:=by
      rw[X1j];refine⟨hk,?_,?_⟩
      ·simp only[Array.getD_eq_getD_getElem?,Array.getElem?_eq_getElem hkl,Option.getD_some] at hl ⊢;exact hl
      ·rw[Array.getElem?_eq_getElem hk];simp only[Option.map_some,Option.getD_some];rw[Array.all_eq_true_iff_forall_mem];intro e he
       cases hbd:Region.binds .any e with
       |false=>rfl
       |true =>
        have hpk:ops.toList[k]?=some ops[k]:=by simp[hk]
        have hin:e.on∈X3s ops[k]:=List.mem_map.2 ⟨e,List.mem_filter.2 ⟨by simpa using he,hbd⟩,rfl⟩;have hlt:=X2r _ 0 hpre k _ hpk e.on hin;rw[ih e.on om om];rfl
     rw[hr] at hmem;cases hmem
  have hcongr:∀ k,k<ops.toList.length->listed.getD k false=true:=λk hk=>hfull k om;refine⟨c,⟨_,_,_⟩,.normal,rfl,?_,hds,rfl,hQ⟩;have hA:Xy (X1p ops.toList rs) (λk=>listed.getD k false) ops.toList.length A0=Xy (X1p ops.toList rs) (λ_=>true) ops.toList.length A0 :=
   X18 _ _ λk hk=>.inr (hcongr k hk)
  have hH:Xy (X1w base rs) (λk=>listed.getD k false) ops.toList.length H0=Xy (X1w base rs) (λ_=>true) ops.toList.length H0 :=
   X18 _ _ λk hk=>.inr (hcongr k hk)
  rw[hA,hH] at g;have hM:∀ q,AtS base (λk=>listed.getD k false) q->q<base+ops.toList.length:=by
   rintro q (h|⟨k,hk,rfl⟩)
   ·omega
   ·have:k<listed.size:=by
     cases Nat.lt_or_ge k listed.size with
     |inl h=>exact h
     |inr h=>simp[Array.getD_eq_getD_getElem?,Array.getElem?_eq_none h] at hk
    omega
  exact⟨g.inv.more hM,g.solo,g.frame,λt=>(g.ok t).mono hM,g.size,g.reach,by show n0<=base+_;omega⟩
 intro fuel
 induction fuel with
 |zero =>
  intro listed L c act hsz hL hin hdown g hds;have hnil:L=[]:=List.length_eq_zero_iff.1 om;subst hnil;have hr:Region.ready .any ops listed=[]:=by
   rw[List.eq_nil_iff_forall_not_mem];intro i hi;rw[X1j] at hi;obtain⟨h1,h2,_⟩:=hi;have:=hin i h1 (by
    have hil:i<listed.size:=by omega
    simp only[Array.getD_eq_getD_getElem?,Array.getElem?_eq_getElem hil,Option.getD_some] at h2 ⊢;exact h2)
   cases this
  exact⟨hr,fin listed c act hsz hdown g hr hds⟩
 |succ fuel ih =>
  intro listed L c act hsz hL hin hdown g hds;refine⟨λhr=>fin listed c act hsz hdown g hr hds,λi hi=>?_⟩;rw[X1j] at hi;obtain⟨h1,h2,h3⟩:=hi;have hil:i<listed.size:=by omega
  have hli:listed.getD i false=false:=by
   simp only[Array.getD_eq_getD_getElem?,Array.getElem?_eq_getElem hil,Option.getD_some] at h2 ⊢;exact h2
  have hi':i<ops.toList.length:=by omega
  have hoi:ops.toList[i]?=some ops.toList[i]:=List.getElem?_eq_getElem hi';have hoa:ops[i]?=some ops.toList[i]:=by rw[<-Array.getElem?_toList];exact hoi
  have hprei:∀ j∈X3s ops.toList[i],listed.getD j false=true:=by
   intro j hj;obtain⟨e,he,rfl⟩:=List.mem_map.1 hj;obtain⟨he1,he2⟩:=List.mem_filter.1 he;rw[hoa] at h3;simp only[Option.map_some,Option.getD_some] at h3;rw[Array.all_eq_true_iff_forall_mem] at h3;have:=h3 e (by simpa using he1);rw[he2] at this;simpa using this
  have hpl:∀ (i:Nat) o,ops.toList[i]?=some o->∀ j∈X3s o,j<i:=λi o ho j hj=>by
   have:=X2r _ 0 hpre i o ho j hj;omega
  have hcm:=X7e (S:=λk=>listed.getD k false) hpl hdown;have hS:Xvl ops.toList (λk=>listed.getD k false):=by
   refine⟨λk hk=>?_,λk hk q hq=>?_⟩
   ·cases Nat.lt_or_ge k listed.size with
    |inl h=>omega
    |inr h=>simp[Array.getD_eq_getD_getElem?,Array.getElem?_eq_none h] at hk
   ·have hkl:k<ops.toList.length:=by
     cases Nat.lt_or_ge k listed.size with
     |inl h=>omega
     |inr h=>simp[Array.getD_eq_getD_getElem?,Array.getElem?_eq_none h] at hk
    exact(hcm k _ (List.getElem?_eq_getElem hkl) (hdown k _ (List.getElem?_eq_getElem hkl) hk) q hq).1
  have hri:∀ q,((Xz ops.toList).getD i 0).testBit q=true->listed.getD q false=true:=λq hq=>(hcm i _ hoi hprei q hq).1;have hirs:i<rs.length:=by rw[hall.len];exact hi'
  obtain⟨hdst,hone,_⟩:=hall.one i _ _ hoi (List.getElem?_eq_getElem hirs);have hdlt:∀ d,(ops.toList[i]).dst=some d->d<nt:=by
   intro d hd;rw[hd] at hdst;simp only[X22,Bool.and_eq_true] at hdst;simpa using hdst.1
  have hA:∀ t,frD (X12 i ((Xz ops.toList).getD i 0) 0 ops.toList (Xz ops.toList)) (Xy (X1p ops.toList rs) (λ_=>true) i A0) t=Xy (X1p ops.toList rs) (λk=>listed.getD k false) ops.toList.length A0 t \/
    frD (X12 i ((Xz ops.toList).getD i 0) 0 ops.toList (Xz ops.toList)) (Xy (X1p ops.toList rs) (λ_=>true) i A0) t=.junk:=by
   intro t;unfold frD
   cases ht:X8v t (X12 i ((Xz ops.toList).getD i 0) 0 ops.toList (Xz ops.toList)) with
   |true=>exact .inr rfl
   |false=>exact .inl (Xsr hall hS hi' hli hri ht)
  have hV:∀ o x,hpD base ((Xz ops.toList).getD i 0) (hz (ops.toList[i])) ((rs.take i).map (·.2)) (Xy (X1w base rs) (λ_=>true) i H0) o=some x ->
    Xy (X1w base rs) (λk=>listed.getD k false) ops.toList.length H0 o=some x:=by
   intro o x hx;unfold hpD at hx
   cases ht:X2g base ((Xz ops.toList).getD i 0) (hz (ops.toList[i])) ((rs.take i).map (·.2)) o with
   |true=>rw[ht] at hx;cases hx
   |false =>
    rw[ht,cond_false] at hx;rw[<-Xsq hall hS hi' hli hri ht];exact hx
  have hid:¬ AtS base (λk=>listed.getD k false) (base+i):=by
   rintro(h|⟨k,hk,h⟩)
   ·omega
   ·have:k=i:=by omega
    subst this;have hk':listed.getD k false=true:=hk;rw[hli] at hk';cases hk'
  have hMb:∀ q,AtS base (λk=>listed.getD k false) q->q<base+ops.toList.length:=by
   rintro q (h|⟨k,hk,rfl⟩)
   ·omega
   ·have:=hS.lt k hk;omega
  have hset:∀ k,(listed.setIfInBounds i true).getD k false=(listed.getD k false||Nat.beq k i):=by
   intro k;simp only[Array.getD_eq_getD_getElem?];by_cases hk:k=i
   ·subst hk;rw[Array.getElem?_setIfInBounds_self,if_pos hil];simp
   ·rw[Array.getElem?_setIfInBounds_ne (λe=>hk e.symm)];have:Nat.beq k i=false:=by rw[<-Bool.not_eq_true,Nat.beq_eq];exact hk
    rw[this,Bool.or_false]
  have hfn:(λk=>(listed.setIfInBounds i true).getD k false)=(λk=>listed.getD k false||Nat.beq k i):=funext hset;have after:∀ (c':Ctx) (v:Value) (e:X06),e=(rs[i]).2 ->
    X4h nt c0 HH n0 c' (X1b (Xy (X1p ops.toList rs) (λk=>listed.getD k false) ops.toList.length A0) (ops.toList[i]).dst (rs[i]).1)
     (e.go (base+i) (Xy (X1w base rs) (λk=>listed.getD k false) ops.toList.length H0)) (λq=>AtS base (λk=>listed.getD k false) q\/q=base+i) (act.put (ops.toList[i]).dst v) ->
    wpAny P .any ops (CQ nt c0 HH n0 ds Q) fuel (listed.setIfInBounds i true) (act.put (ops.toList[i]).dst v) c'.w:=by
   rintro c' v _ rfl g';have hiL:i∈L:=hin i h1 hli;refine ih _ (L.erase i) c' _ (by simpa using hsz) (by rw[List.length_erase_of_mem hiL];omega) ?_ ?_ ?_ ((put_defers _ _ _).trans hds)
   ·intro k hk hlk;rw[hset] at hlk;have h4:=Bool.or_eq_false_iff.1 hlk;have hne:k≠i:=λh=>by subst h;simp at h4
    exact(List.mem_erase_of_ne hne).2 (hin k hk h4.1)
   ·intro k o ho hk j hj;rw[hset] at hk ⊢;rcases Bool.or_eq_true_iff.1 hk with hk|hk
    ·rw[hdown k o ho hk j hj];rfl
    ·have:k=i:=by simpa using hk
     subst this;rw[hoi] at ho;cases ho;rw[hprei j hj];rfl
   ·rw[hfn,Xme hall hS hi' hli (List.getElem?_eq_getElem hirs) hdst,Xmd hall hS hi' hli (List.getElem?_eq_getElem hirs)];have hMM:(AtS base λk=>listed.getD k false||Nat.beq k i)=(λq=>AtS base (λk=>listed.getD k false) q\/q=base+i):=by
     funext q
     apply propext;constructor
     ·rintro(h|⟨k,hk,rfl⟩)
      ·exact .inl (.inl h)
      ·rcases Bool.or_eq_true_iff.1 hk with hk|hk
       ·exact .inl (.inr ⟨k,hk,rfl⟩)
       ·have:k=i:=by simpa using hk
        exact .inr (by rw[this])
     ·rintro((h|⟨k,hk,rfl⟩)|rfl)
      ·exact .inl h
      ·exact .inr ⟨k,by simp[hk],rfl⟩
      ·exact .inr ⟨i,by simp,rfl⟩
    rw[hMM];exact g'
  unfold wpOp;rw[hoa];simp only[];have gj:=g.junk hA;generalize hre:(rs[i]).2=ef at hone after;generalize hra:(rs[i]).1=av at hone after
  cases hone with
  |@run a e hg h =>
   have hw:Region.wanted (ops.toList[i]) (yielded ops act.tmps)=true:=by
    rcases hg with hg|⟨j,t,want,hg,hj,ht,hb⟩
    ·exact Xbp hg
    ·rw[Xbo hg (Xky gj hj ht hb)];simp
   rw[if_pos hw];left;refine DOp.step hT g hMb hA hV hid h hdlt _ _ λc' v g'=>?_;exact after c' v _ rfl g'
  |@skip j t want v hg hj ht hb hbw =>
   have hw:Region.wanted (ops.toList[i]) (yielded ops act.tmps)=false:=Xau gj hg hj ht hb hbw;rw[if_neg (by rw[hw];simp)];refine after c undef _ rfl ?_;rw[X06.go_none];exact g.next hdlt (.refl c) rfl (λb hb=>.inl hb) (.refl c _) (λq x hx=>.inr ⟨q,x,hx,rfl⟩) (g.inv.more λq h=>.inl h) g.solo (λq=>.inl) .sc .sc
theorem X0b.drew {c0 c:Ctx} {s:St} {act:Act} {HH:Xh} (g:X0b nt c0 HH n0 c s act):X0b nt c0 HH n0 { c with w:={ c.w with drawn:=c.w.drawn+1 } } s act:=by
 have hle:c.Le (λ_=>True) { c with w:={ c.w with drawn:=c.w.drawn+1 } }:=⟨λ_ _=>rfl,λ_ h=>h,λ_ h=>h,λ_ _=>rfl,rfl⟩;have all:∀ {a:AV} {M:Nat->Prop},a.Ok M->a.Ok (λ_=>True):=λh=>h.mono λ_ _=>trivial;have r:=g.reach;refine⟨⟨λo x hx=>?_,g.inv.sep,g.inv.stab,g.inv.lt,g.inv.base,g.inv.own,g.inv.low,g.inv.glob.mono hle⟩,g.solo,λt=>(g.frame t).mono hle (.inr (all (g.ok t))),g.ok,g.size,⟨r.rho,r.os,r.tape,⟨r.output.1,Nat.le_trans r.output.2 (X5u (Nat.le_succ _))⟩,r.size,r.block,r.stable,r.sa,r.so1,r.so2,r.B,r.own⟩,g.le0⟩;obtain⟨h1,⟨⟨cur,hb,hs,hc⟩,h3,h4,h5⟩,h6⟩:=g.inv.obj o x hx;refine⟨h1,⟨⟨cur,hb,hs,λi e he=>?_⟩,h3,h4,h5⟩,h6⟩;obtain⟨g1,g2⟩:=hc i e he;exact⟨g1,λk a ha=>by obtain⟨v,hv,hr,h7⟩:=g2 k a ha;exact⟨v,hv,hr.mono hle (.inr (all (h6 e (List.mem_of_getElem? he) a (List.mem_of_getElem? ha)))),h7⟩⟩
theorem X21.drawn {s:St} {id:Nat} {Q:Xc->St->Prop} {A':Nat->AV} {H':Xh} (hm:P.follows .mixedOrders=true) (hT:X1h P T) (hpre:X2f 0 ops.toList=true)
  (hrun:Xd5 hz P T nt s.n ops (Xz ops.toList) 0 ops.toList s.A s.H [] A' H') (hQ:Q .normal ⟨A',H',s.n+ops.toList.length⟩):X21 P nt n0 (.region id ops true) Q s:=by
 obtain⟨rs,hall,hA,hH⟩:=hrun.all s.A s.H [] (Nat.zero_le _) rfl rfl rfl rfl rfl (λk o r _ hr=>by simp at hr);subst hA hH;intro c0 HH c act g0 R hR;have g:=g0.drew;refine X3j hm hR (by rintro a w ⟨c,s,ae,_,_,_,h,_⟩;cases ae<;>cases h) ?_;have hzz:∀ k,(Array.replicate ops.size false).getD k false=false:=by
  intro k;simp only[Array.getD_eq_getD_getElem?,Array.getElem?_replicate];split<;>rfl
 have hfn:(λk=>(Array.replicate ops.size false).getD k false)=(λ_=>false):=funext hzz;refine Xa8 hT hpre hall hQ g.le0 ops.size _ (List.range ops.size) { c with w:={ c.w with drawn:=c.w.drawn+1 } } act (by simp) (by simp) (λk hk _=>List.mem_range.2 hk) (λi o _ h=>by rw[hzz] at h;cases h) ?_ rfl;rw[hfn,X28,X28];have hM:∀ q,q<s.n->AtS s.n (λ_=>false) q:=λq h=>.inl h;exact⟨g.inv.more hM,g.solo,g.frame,λt=>(g.ok t).mono hM,g.size,g.reach,λq hq=>hM q (Nat.lt_of_lt_of_le hq g.le0)⟩
end
end Go.Av


namespace Go.Av
variable [Gls]
def X9p (H:Xh):AV->Option (AV×Nat)
 |.ptr o i k=>match H o with
  |some x=>match x.es[i]? with
   |some e=>some (e,k)
   |none=>none
  |none=>none
 |.elem _ e k=>some (e,k)
 |_=>none
theorem X8k {H:Xh} {p e:AV} {k:Nat} (h:X9p H p=some (e,k)):Xbg H p e k:=by
 unfold X9p at h;split at h
 ·split at h
  ·split at h
   ·cases h;exact .ptr (by assumption) (by assumption)
   ·cases h
  ·cases h
 ·cases h;exact .elem
 ·cases h
def Xv7 (T:Ty) (op:BinOp) (t:Nat):AV->AV->Option AV
 |.sc (.int k a),.sc (.int k' b) =>
  match op with
  |.quo=>if k=k' then (if b≠0 then some (.sc (.int k (k.wrap (a.tdiv b)))) else none) else none
  |.rem=>if k=k' then (if b≠0 then some (.sc (.int k (a.tmod b))) else none) else none
  |.shl=>if 0<=b then some (.sc (.int k (k.wrap (a*2 ^ (min b.toNat k.bits))))) else none
  |.shr=>if 0<=b then some (.sc (.int k (a.fdiv (2 ^ (min b.toNat k.bits))))) else none
  |op=>if k=k' then (match X8b op k a b with|some v=>some (.sc v)|none=>none) else none
 |.sc (.bool a),.sc (.bool b)=>match T t with
  |some ti=>match ti.kind with
   |.bool=>match op with
    |.eql=>some (.sc (.bool (a==b)))
    |.neq=>some (.sc (.bool (!(a==b))))
    |_=>none
   |_=>none
  |none=>none
 |.agg xs,.agg ys=>match T t with
  |some ti=>if ti.eqok=true then (match op with
   |.eql=>match eqT T 10000 t (.agg xs) (.agg ys) with|some r=>some (.sc (.bool r))|none=>none
   |.neq=>match eqT T 10000 t (.agg xs) (.agg ys) with|some r=>some (.sc (.bool (!r)))|none=>none
   |_=>none) else none
  |none=>none
 |_,_=>none
theorem Xiy {T:Ty} {ev:Operand->AV} {H:Xh} {op:BinOp} {t yt:Nat} {x y:Operand} {a:AV} (h:Xv7 T op t (ev x) (ev y)=some a):Pu T ev H (.binOp op t x y yt) a:=by
 generalize hx:ev x=u at h;generalize hy:ev y=v at h;unfold Xv7 at h;split at h
 ·split at h
  ·split at h
   ·rename_i hk;subst hk;split at h
    ·cases h;exact .quo hx hy (by assumption)
    ·cases h
   ·cases h
  ·split at h
   ·rename_i hk;subst hk;split at h
    ·cases h;exact .rem hx hy (by assumption)
    ·cases h
   ·cases h
  ·split at h
   ·cases h;exact .shl hx hy (by assumption)
   ·cases h
  ·split at h
   ·cases h;exact .shr hx hy (by assumption)
   ·cases h
  ·split at h
   ·rename_i hk;subst hk;split at h
    ·cases h;exact .binInt hx hy (by assumption)
    ·cases h
   ·cases h
 ·split at h
  ·split at h
   ·split at h
    ·cases h;exact .boolEq hx hy (by assumption) (by assumption)
    ·cases h;exact .boolNe hx hy (by assumption) (by assumption)
    ·cases h
   ·cases h
  ·cases h
 ·split at h
  ·split at h
   ·split at h
    ·split at h
     ·cases h;exact .aggEq hx hy (by assumption) (by assumption) (by assumption)
     ·cases h
    ·split at h
     ·cases h;exact .aggNe hx hy (by assumption) (by assumption) (by assumption)
     ·cases h
    ·cases h
   ·cases h
  ·cases h
 ·cases h
def unF (op:UnOp):AV->Option AV
 |.sc (.int k n)=>match op with
  |.neg=>some (.sc (.int k (k.wrap (0 - n))))
  |_=>none
 |.sc (.bool b)=>match op with
  |.not=>some (.sc (.bool (!b)))
  |_=>none
 |_=>none
def Xmv (T:Ty) (src dst:Nat):AV->Option AV
 |.sc (.int _ n)=>match T src with
  |some _=>match T dst with
   |some td=>match td.kind with
    |.int k'=>some (.sc (.int k' (k'.wrap n)))
    |_=>none
   |none=>none
  |none=>none
 |.sc (.string s)=>match T src with
  |some _=>match T dst with
   |some td=>match td.kind with
    |.string=>some (.sc (.string s))
    |_=>none
   |none=>none
  |none=>none
 |_=>none
def X5j (T:Ty) (s f:Nat):Option (Nat×TI) :=
 match T s with
 |some ti=>match ti.kind with
  |.struct fs=>match fs[f]? with
   |some (off,ft)=>match T ft with
    |some tf=>some (off,tf)
    |none=>none
   |none=>none
  |_=>none
 |none=>none
theorem X4w {T:Ty} {s f off:Nat} {tf:TI} (h:X5j T s f=some (off,tf)):∃ ti fs ft,T s=some ti/\ti.kind=.struct fs/\fs[f]?=some (off,ft)/\T ft=some tf:=by
 unfold X5j at h;split at h
 ·split at h
  ·split at h
   ·split at h
    ·cases h;exact⟨_,_,_,by assumption,by assumption,by assumption,by assumption⟩
    ·cases h
   ·cases h
  ·cases h
 ·cases h
def X0e (T:Ty) (t:Nat):Option TI :=
 match T t with
 |some ti=>match ti.kind with
  |.slice et=>T et
  |_=>none
 |none=>none
theorem Xs {T:Ty} {t:Nat} {te:TI} (h:X0e T t=some te):∃ ti et,T t=some ti/\ti.kind=.slice et/\T et=some te:=by
 unfold X0e at h;split at h
 ·split at h
  ·exact⟨_,_,by assumption,by assumption,h⟩
  ·cases h
 ·cases h
def X8l (T:Ty) (t:Nat):Option (Nat×TI) :=
 match T t with
 |some ti=>match ti.kind with
  |.array n et=>match T et with
   |some te=>some (n,te)
   |none=>none
  |_=>none
 |none=>none
theorem X3g {T:Ty} {t n:Nat} {te:TI} (h:X8l T t=some (n,te)):∃ ti et,T t=some ti/\ti.kind=.array n et/\T et=some te:=by
 unfold X8l at h;split at h
 ·split at h
  ·split at h
   ·cases h;exact⟨_,_,by assumption,by assumption,by assumption⟩
   ·cases h
  ·cases h
 ·cases h
def ixF (T:Ty) (H:Xh) (t:Nat) (x:AV) (i:Int):Option AV :=
 match x with
 |.list own es=>match X0e T t with
  |some te=>match es[i.toNat]? with
   |some e=>if e.cells.length=te.size then some (.elem own e 0) else none
   |none=>none
  |none=>none
 |.ref o off len=>match X0e T t with
  |some te=>if i<len then (match H o with
   |some y=>match y.es[off+i.toNat]? with
    |some e=>if e.cells.length=te.size then some (.ptr o (off+i.toNat) 0) else none
    |none=>none
   |none=>none) else none
  |none=>none
 |.ptr o j q=>match X8l T t with
  |some (n,te)=>if i<n then some (.ptr o j (q+i.toNat*te.size)) else none
  |none=>none
 |.elem own e q=>match X8l T t with
  |some (n,te)=>if i<n then some (.elem own e (q+i.toNat*te.size)) else none
  |none=>none
 |_=>none
def bdF (ev:Operand->AV):Option Operand->Nat->Option Nat
 |none,d=>some d
 |some x,_=>match ev x with
  |.sc (.int _ z)=>if 0<=z then some z.toNat else none
  |_=>none
theorem X15 {ev:Operand->AV} {o:Option Operand} {d n:Nat} (h:bdF ev o d=some n):Bd ev o d n:=by
 unfold bdF at h;split at h
 ·cases h;exact .dflt
 ·split at h
  ·split at h
   ·cases h;exact .given (by assumption) (by assumption)
   ·cases h
  ·cases h
def Xo3 (T:Ty) (ev:Operand->AV) (H:Xh) (t:Nat) (x:AV) (lo hi:Option Operand):Option AV :=
 match x with
 |.list own es=>match X0e T t with
  |some te=>match bdF ev lo 0,bdF ev hi es.length with
   |some l,some h=>if l<=h then (if h<=es.length then (if es.all (λe=>e.cells.length==te.size) then some (.list own ((es.drop l).take (h - l))) else none) else none) else none
   |_,_=>none
  |none=>none
 |.ref o off len=>match X0e T t with
  |some te=>match bdF ev lo 0,bdF ev hi len with
   |some l,some h=>if h<=len then (if l<h then (match H o with
     |some y=>if y.es.any (λe=>e.cells.length==te.size) then some (.ref o (off+l) (h - l)) else none
     |none=>none)
    else if l=h then some (.list true []) else none) else none
   |_,_=>none
  |none=>none
 |.nils=>match X0e T t with
  |some _=>match bdF ev lo 0,bdF ev hi 0 with
   |some 0,some 0=>some .nils
   |_,_=>none
  |none=>none
 |_=>none
def puF (T:Ty) (ev:Operand->AV) (H:Xh):Op->Option AV
 |.move x=>some (ev x)
 |.assign x=>some (ev x)
 |.pick c a b=>match ev c with
  |.sc (.bool true)=>some (ev a)
  |.sc (.bool false)=>some (ev b)
  |_=>none
 |.load t x=>match T t with
  |some ti=>match X9p H (ev x) with
   |some (e,k)=>X5o ti e k
   |none=>none
  |none=>none
 |.nilCheck x=>match ev x with
  |.ptr o i k=>some (.ptr o i k)
  |.elem own e k=>some (.elem own e k)
  |.fn f caps=>some (.fn f caps)
  |_=>none
 |.binOp op t x y _=>Xv7 T op t (ev x) (ev y)
 |.unOp op _ x=>unF op (ev x)
 |.convert src dst x=>Xmv T src dst (ev x)
 |.fieldAddr s x f=>match X5j T s f with
  |some (off,tf)=>if tf.size≠0 then (match ev x with
   |.ptr o i k=>some (.ptr o i (k+off))
   |.elem own e k=>some (.elem own e (k+off))
   |_=>none) else none
  |none=>none
 |.field s x f=>match X5j T s f with
  |some (off,tf)=>match ev x with
   |.agg cs=>eqT.partA tf cs off
   |_=>none
  |none=>none
 |.indexAddr t x ix=>match ev ix with
  |.sc (.int _ i)=>if 0<=i then ixF T H t (ev x) i else none
  |_=>none
 |.index t x ix=>match ev ix with
  |.sc (.int _ i)=>if 0<=i then (match ev x with
   |.agg cs=>match X8l T t with
    |some (n,te)=>if i<n then eqT.partA te cs (i.toNat*te.size) else none
    |none=>none
   |_=>none) else none
  |_=>none
 |.slice t x lo hi none=>Xo3 T ev H t (ev x) lo hi
 |.slice t x none (some hi) (some mx)=>match X0e T t with
  |some _=>match bdF ev (some hi) 0,bdF ev (some mx) 0 with
   |some 0,some 0=>match ev x with
    |.list _ _=>some .nils
    |.ref _ _ _=>some .nils
    |.nils=>some .nils
    |_=>none
   |_,_=>none
  |none=>none
 |.extract x i=>match ev x with
  |.tup cs=>cs[i]?
  |_=>none
 |.makeFunc (.func f) ⟨[]⟩ caps=>some (.fn f (caps.toList.map ev))
 |.call { callee:=.builtin .len,args:=⟨[x]⟩,argTypes:=⟨[t]⟩ }=>match T t with
  |some ti=>match ti.kind with
   |.slice _=>match ev x with
    |.list own es=>some (.sc (.int .i64 es.length))
    |.ref _ _ n=>some (.sc (.int .i64 n))
    |.nils=>some (.sc (.int .i64 (0:Nat)))
    |_=>none
   |.string=>match ev x with
    |.sc (.string s)=>some (.sc (.int .i64 s.size))
    |_=>none
   |.array n _=>some (.sc (.int .i64 n))
   |_=>none
  |none=>none
 |.call { callee:=.builtin .min,args:=⟨[x,y]⟩,argTypes:=_ }=>match ev x,ev y with
  |.sc (.int k a),.sc (.int k' b)=>if k=k' then some (.sc (.int k (if b<a then b else a))) else none
  |_,_=>none
 |.call { callee:=.builtin .max,args:=⟨[x,y]⟩,argTypes:=_ }=>match ev x,ev y with
  |.sc (.int k a),.sc (.int k' b)=>if k=k' then some (.sc (.int k (if b>a then b else a))) else none
  |_,_=>none
 |.build t ps=>match T t with
  |some ti=>match X05 ti.zero with
   |.agg cs=>match ti.kind with
    |.struct fs=>if fs.all (λp=>(T p.2).isSome) then (match X7i (λi=>(fs[i]?).map λp=>(p.1,((T p.2).map (·.size)).getD 0)) cs (ps.toList.map λp=>(p.1,ev p.2)) with
     |some r=>some (.agg r)
     |none=>none) else none
    |.array _ et=>match T et with
     |some te=>match X7i (λi=>some (i*te.size,te.size)) cs (ps.toList.map λp=>(p.1,ev p.2)) with
      |some r=>some (.agg r)
      |none=>none
     |none=>none
    |_=>none
   |_=>none
  |none=>none
 |_=>none
theorem X5h {T:Ty} {ev:Operand->AV} {H:Xh} {op:Op} {a:AV} (h:puF T ev H op=some a):Pu T ev H op a:=by
 unfold puF at h;split at h
 ·cases h;exact .move
 ·cases h;exact .assign
 ·split at h
  ·cases h;exact .pick (by assumption) (λ_=>rfl) (λh=>by cases h)
  ·cases h;exact .pick (by assumption) (λh=>by cases h) (λ_=>rfl)
  ·cases h
 ·split at h
  ·split at h
   ·exact .load (by assumption) (X8k (by assumption)) h
   ·cases h
  ·cases h
 ·split at h
  ·rename_i hx;cases h;rw[<-hx];exact .nilCheckPtr hx
  ·rename_i hx;cases h;rw[<-hx];exact .nilCheckElem hx
  ·rename_i hx;cases h;rw[<-hx];exact .nilCheckFn hx
  ·cases h
 ·exact Xiy h
 ·unfold unF at h;split at h
  ·split at h
   ·cases h;exact .neg (by assumption)
   ·cases h
  ·split at h
   ·cases h;exact .not (by assumption)
   ·cases h
  ·cases h
 ·unfold Xmv at h;split at h
  ·split at h
   ·split at h
    ·split at h
     ·cases h;exact .conv (by assumption) (by assumption) (by assumption) (by assumption)
     ·cases h
    ·cases h
   ·cases h
  ·split at h
   ·split at h
    ·split at h
     ·cases h;exact .convStr (by assumption) (by assumption) (by assumption) (by assumption)
     ·cases h
    ·cases h
   ·cases h
  ·cases h
 ·split at h
  ·rename_i hf;obtain⟨ti,fs,ft,h1,h2,h3,h4⟩:=X4w hf;split at h
   ·split at h
    ·cases h;exact .fieldAddrPtr (by assumption) h1 h2 h3 h4 (by assumption)
    ·cases h;exact .fieldAddrElem (by assumption) h1 h2 h3 h4 (by assumption)
    ·cases h
   ·cases h
  ·cases h
 ·split at h
  ·rename_i hf;obtain⟨ti,fs,ft,h1,h2,h3,h4⟩:=X4w hf;split at h
   ·exact .field (by assumption) h1 h2 h3 h4 h
   ·cases h
  ·cases h
 ·split at h
  ·rename_i hix;split at h
   ·rename_i h0;unfold ixF at h;split at h
    ·split at h
     ·rename_i hs;obtain⟨ti,et,h1,h2,h3⟩:=Xs hs;split at h
      ·split at h
       ·cases h;exact .indexList (by assumption) hix h0 h1 h2 h3 (by assumption) (by assumption)
       ·cases h
      ·cases h
     ·cases h
    ·split at h
     ·rename_i hs;obtain⟨ti,et,h1,h2,h3⟩:=Xs hs;split at h
      ·split at h
       ·split at h
        ·split at h
         ·cases h;exact .indexRef (by assumption) hix h0 (by assumption) h1 h2 h3 (by assumption) (by assumption) (by assumption)
         ·cases h
        ·cases h
       ·cases h
      ·cases h
     ·cases h
    ·split at h
     ·rename_i hs;obtain⟨ti,et,h1,h2,h3⟩:=X3g hs;split at h
      ·cases h;exact .indexArr (by assumption) hix h0 (by assumption) h1 h2 h3
      ·cases h
     ·cases h
    ·split at h
     ·rename_i hs;obtain⟨ti,et,h1,h2,h3⟩:=X3g hs;split at h
      ·cases h;exact .indexArrElem (by assumption) hix h0 (by assumption) h1 h2 h3
      ·cases h
     ·cases h
    ·cases h
   ·cases h
  ·cases h
 ·split at h
  ·rename_i hix;split at h
   ·rename_i h0;split at h
    ·split at h
     ·rename_i hs;obtain⟨ti,et,h1,h2,h3⟩:=X3g hs;split at h
      ·exact .indexAgg (by assumption) hix h0 (by assumption) h1 h2 h3 h
      ·cases h
     ·cases h
    ·cases h
   ·cases h
  ·cases h
 ·unfold Xo3 at h;split at h
  ·split at h
   ·rename_i hs;obtain⟨ti,et,h1,h2,h3⟩:=Xs hs;split at h
    ·split at h
     ·split at h
      ·split at h
       ·rename_i hall;cases h
        exact .sliceList (by assumption) (X15 (by assumption)) (X15 (by assumption)) (by assumption) (by assumption) h1 h2 h3 (λe he=>by simpa using List.all_eq_true.1 hall e he)
       ·cases h
      ·cases h
     ·cases h
    ·cases h
   ·cases h
  ·split at h
   ·rename_i hs;obtain⟨ti,et,h1,h2,h3⟩:=Xs hs;split at h
    ·split at h
     ·split at h
      ·split at h
       ·split at h
        ·rename_i hany;cases h
         obtain⟨e,he,hc⟩:=List.any_eq_true.1 hany;exact .sliceRef (by assumption) (X15 (by assumption)) (X15 (by assumption)) (by assumption) (by assumption) h1 h2 h3 (by assumption) ⟨e,he,by simpa using hc⟩
        ·cases h
       ·cases h
      ·split at h
       ·rename_i hl hh hle _ heq;cases h
        subst heq;exact .sliceRef0 (by assumption) (X15 hl) (X15 hh) hle h1 h2 h3
       ·cases h
     ·cases h
    ·cases h
   ·cases h
  ·split at h
   ·rename_i hs;obtain⟨ti,et,h1,h2,h3⟩:=Xs hs;split at h
    ·cases h;exact .sliceNils (by assumption) (X15 (by assumption)) (X15 (by assumption)) h1 h2 h3
    ·cases h
   ·cases h
  ·cases h
 ·split at h
  ·rename_i hs;obtain⟨ti,et,h1,h2,h3⟩:=Xs hs;split at h
   ·split at h
    ·rename_i hx;cases h;exact .sliceClone (by rw[hx];rfl) (λs=>by rw[hx];simp) (X15 (by assumption)) (X15 (by assumption)) h1 h2 h3
    ·rename_i hx;cases h;exact .sliceClone (by rw[hx];rfl) (λs=>by rw[hx];simp) (X15 (by assumption)) (X15 (by assumption)) h1 h2 h3
    ·rename_i hx;cases h;exact .sliceClone (by rw[hx];rfl) (λs=>by rw[hx];simp) (X15 (by assumption)) (X15 (by assumption)) h1 h2 h3
    ·cases h
   ·cases h
  ·cases h
 ·split at h
  ·exact .extract (by assumption) h
  ·cases h
 ·cases h;exact .makeFunc
 ·split at h
  ·split at h
   ·split at h
    ·rename_i hx;cases h;exact .lenSlice (by rw[hx];rfl) (by assumption) (by assumption) (λs=>by rw[hx];simp)
    ·rename_i hx;cases h;exact .lenSlice (by rw[hx];rfl) (by assumption) (by assumption) (λs=>by rw[hx];simp)
    ·rename_i hx;cases h;exact .lenSlice (by rw[hx];rfl) (by assumption) (by assumption) (λs=>by rw[hx];simp)
    ·cases h
   ·split at h
    ·cases h;exact .lenStr (by assumption) (by assumption) (by assumption)
    ·cases h
   ·cases h;exact .lenArr (by assumption) (by assumption)
   ·cases h
  ·cases h
 ·split at h
  ·split at h
   ·rename_i hk;subst hk;cases h;exact .min2 (by assumption) (by assumption)
   ·cases h
  ·cases h
 ·split at h
  ·split at h
   ·rename_i hk;subst hk;cases h;exact .max2 (by assumption) (by assumption)
   ·cases h
  ·cases h
 ·split at h
  ·split at h
   ·split at h
    ·split at h
     ·rename_i hall;split at h
      ·cases h
       refine .buildS (by assumption) (by assumption) (by assumption) (λp hp0=>?_) (by assumption);have:=List.all_eq_true.1 hall p hp0;exact Option.isSome_iff_exists.1 this
      ·cases h
     ·cases h
    ·split at h
     ·split at h
      ·cases h;exact .buildA (by assumption) (by assumption) (by assumption) (by assumption) (by assumption)
      ·cases h
     ·cases h
    ·cases h
   ·cases h
  ·cases h
 ·cases h
end Go.Av


namespace Go.Av
variable [Gls]
def Xvo (H:Xh):AV->Option (List AV)
 |.list _ es=>some es
 |.nils=>some []
 |.ref o off len=>match H o with
  |some x=>if off+len<=x.es.length then some ((x.es.drop off).take len) else none
  |none=>none
 |_=>none
theorem X6r {H:Xh} {a:AV} {xs:List AV} (h:Xvo H a=some xs):Xae H a xs:=by
 unfold Xvo at h;split at h
 ·cases h;exact .list
 ·cases h;exact .nils
 ·split at h
  ·split at h
   ·cases h;exact .ref (by assumption) (by assumption)
   ·cases h
  ·cases h
 ·cases h
def mkF (T:Ty) (ev:Operand->AV) (H:Xh) (id:Nat):Op->Option (AV×Eff)
 |.box _ x=>if (ev x).whole=true then (match (ev x).cells with
   |[]=>none
   |a::r=>some (.ptr id 0 0,.new { es:=[ev x],esz:=(a::r).length })) else none
 |.alloc elem=>match T elem with
  |some ti=>if ti.size≠0 then some (.ptr id 0 0,.new { es:=[X05 ti.zero],esz:=ti.size }) else none
  |none=>none
 |.buildSlice t len ps=>match X0e T t with
  |some te=>if len=0 then (match ps with
    |⟨[]⟩=>some (.nils,.none)
    |_=>none)
   else if te.size≠0 then (if len*te.size<=2 ^ 24 then (match X3z te.size (List.replicate len (X05 te.zero)) (ps.toList.map λp=>(p.1,ev p.2)) with
    |some es=>some (.ref id 0 len,.new { es:=es,esz:=te.size })
    |none=>none) else none) else none
  |none=>none
 |.makeSlice t l cc=>match X0e T t with
  |some te=>match ev l,ev cc with
   |.sc (.int _ n),.sc (.int _ m)=>if n=0/\m=0 then some (.nils,.none) else
     if 0<=n/\n<=m/\0<m/\te.size≠0/\te.bytes*m<=2 ^ 48/\m<2 ^ 62 then some (.ref id 0 n.toNat,.new { es:=List.replicate n.toNat (X05 te.zero),esz:=te.size }) else none
   |_,_=>none
  |none=>none
 |.call { callee:=.builtin .append,args:=⟨[s,x]⟩,argTypes:=⟨[t,t']⟩ }=>if t=t' then (match X0e T t with
  |some te=>match Xvo H (ev x) with
   |some []=>match ev s with
    |.list own es=>some (.list own es,.none)
    |.ref o off n=>some (.ref o off n,.none)
    |.nils=>some (.nils,.none)
    |_=>none
   |some (e::r)=>if (e::r).all (λe=>e.cells.length==te.size) then (match ev s with
    |.nils=>if te.size≠0/\(e::r).length<=maxLen/\(e::r).length*te.bytes<=140737488355328 then some (.ref id 0 (e::r).length,.new { es:=e::r,esz:=te.size }) else none
    |.ref o 0 n=>match H o with
     |some y=>if y.es.length=n/\y.spent=false/\y.esz=te.size/\n+(e::r).length<=maxLen/\(n+(e::r).length)*te.bytes<=140737488355328 then
       some (.ref id 0 (n+(e::r).length),.app o { es:=y.es++(e::r),esz:=te.size }) else none
     |none=>none
    |_=>none) else none
   |none=>none
  |none=>none) else (match ev s,ev x,X0e T t,T t' with
  |.nils,.sc (.int _ n),some te,some tin=>match tin.kind with
   |.int _=>if 0<n/\te.size≠0/\n.toNat<=maxLen/\n.toNat*te.bytes<=140737488355328 then some (.ref id 0 n.toNat,.new { es:=List.replicate n.toNat (X05 te.zero),esz:=te.size }) else none
   |_=>none
  |_,_,_,_=>none)
 |_=>none
theorem X79 {T:Ty} {ev:Operand->AV} {H:Xh} {id:Nat} {op:Op} {a:AV} {e:Eff} (h:mkF T ev H id op=some (a,e)) :
  Mk T ev H id op a e/\∀ old x,e=.app old x\/e=.new x->x.solo=true/\x.spent=false:=by
 unfold mkF at h;split at h
 ·split at h
  ·rename_i hw;split at h
   ·cases h
   ·rename_i hc;cases h
    refine⟨?_,λold y hy=>?_⟩
    ·rw[<-hc];exact .box hw (by rw[hc];simp)
    ·rcases hy with hy|hy<;>cases hy;exact⟨rfl,rfl⟩
  ·cases h
 ·split at h
  ·split at h
   ·cases h
    exact⟨.alloc (by assumption) (by assumption),λold y hy=>by rcases hy with hy|hy<;>cases hy;exact⟨rfl,rfl⟩⟩
   ·cases h
  ·cases h
 ·split at h
  ·rename_i hs;obtain⟨ti,et,h1,h2,h3⟩:=Xs hs;split at h
   ·rename_i h0;subst h0;split at h
    ·cases h;exact⟨.slice0 h1 h2 h3,λold y hy=>by rcases hy with hy|hy<;>cases hy⟩
    ·cases h
   ·split at h
    ·split at h
     ·split at h
      ·cases h;exact⟨.buildSlice h1 h2 h3 (by assumption) (by assumption) (by assumption) (by assumption),λold y hy=>by rcases hy with hy|hy<;>cases hy;exact⟨rfl,rfl⟩⟩
      ·cases h
     ·cases h
    ·cases h
  ·cases h
 ·split at h
  ·rename_i hs;obtain⟨ti,et,h1,h2,h3⟩:=Xs hs;split at h
   ·rename_i hl hc;split at h
    ·rename_i h0;obtain⟨rfl,rfl⟩:=h0
     cases h;exact⟨.make0 hl hc h1 h2 h3,λold y hy=>by rcases hy with hy|hy<;>cases hy⟩
    ·split at h
     ·rename_i hh;obtain⟨g1,g2,g3,g4,g5,g6⟩:=hh
      cases h;exact⟨.make hl hc g1 g2 g3 h1 h2 h3 g4 g5 g6,λold y hy=>by rcases hy with hy|hy<;>cases hy;exact⟨rfl,rfl⟩⟩
     ·cases h
   ·cases h
  ·cases h
 ·split at h
  ·rename_i ht;subst ht;split at h
   ·rename_i hs;obtain⟨ti,et,h1,h2,h3⟩:=Xs hs;split at h
    ·rename_i hx;split at h
     ·rename_i hv;cases h;rw[<-hv];exact⟨.append0 (n:=_) (by rw[hv];rfl) (λu=>by rw[hv];simp) (X6r hx) h1 h2 h3,λold y hy=>by rcases hy with hy|hy<;>cases hy⟩
     ·rename_i hv;cases h;rw[<-hv];exact⟨.append0 (n:=_) (by rw[hv];rfl) (λu=>by rw[hv];simp) (X6r hx) h1 h2 h3,λold y hy=>by rcases hy with hy|hy<;>cases hy⟩
     ·rename_i hv;cases h;rw[<-hv];exact⟨.append0 (n:=_) (by rw[hv];rfl) (λu=>by rw[hv];simp) (X6r hx) h1 h2 h3,λold y hy=>by rcases hy with hy|hy<;>cases hy⟩
     ·cases h
    ·rename_i e r hx;split at h
     ·rename_i hall;have hsz:∀ e'∈e::r,e'.cells.length=_:=λe' he=>by simpa using List.all_eq_true.1 hall e' he
      split at h
      ·split at h
       ·rename_i hv hh;obtain⟨g1,g2,g3⟩:=hh;cases h
        exact⟨.appendNil hv (X6r hx) (by simp) h1 h2 h3 hsz g1 g2 g3,λold y hy=>by rcases hy with hy|hy<;>cases hy;exact⟨rfl,rfl⟩⟩
       ·cases h
      ·split at h
       ·split at h
        ·rename_i hv _ _ hH hh;obtain⟨g1,g2,g3,g4,g5⟩:=hh;cases h
         exact⟨.append hv hH g1 g2 g3 (X6r hx) (by simp) h1 h2 h3 hsz g4 g5,λold y hy=>by rcases hy with hy|hy<;>cases hy;exact⟨rfl,rfl⟩⟩
        ·cases h
       ·cases h
      ·cases h
     ·cases h
    ·cases h
   ·cases h
  ·split at h
   ·rename_i hs hx hst htn;obtain⟨ti,et,h1,h2,h3⟩:=Xs hst;split at h
    ·rename_i hkn;split at h
     ·rename_i hh;obtain⟨g1,g2,g3,g4⟩:=hh;cases h
      exact⟨.appendZeros hs hx g1 htn hkn h1 h2 h3 g2 g3 g4,λold y hy=>by rcases hy with hy|hy<;>cases hy;exact⟨rfl,rfl⟩⟩
     ·cases h
    ·cases h
   ·cases h
 ·cases h
def X7h:List AV->Nat->AV
 |[],_=>.sc undef
 |a::_,0=>a
 |_::l,n+1=>X7h l n
def Xpc:List AV->Nat->AV->List AV
 |[],0,a=>[a]
 |[],n+1,a=>.sc undef::Xpc [] n a
 |_::l,0,a=>a::l
 |b::l,n+1,a=>b::Xpc l n a
theorem Xmk (a:AV):∀ (d:Nat) (l:List AV) (t:Nat),X7h (Xpc l d a) t=if t=d then a else X7h l t:=by
 intro d
 induction d with
 |zero=>intro l t;cases l<;>cases t<;>simp[Xpc,X7h]
 |succ d ih=>intro l t;cases l<;>cases t<;>simp[Xpc,X7h,ih]
theorem Xmj (l:List AV) (d:Nat) (a:AV):X7h (Xpc l d a)=upd (X7h l) d a:=by
 funext t
 rw[Xmk];by_cases h:t=d
 ·subst h;rw[if_pos rfl,X7]
 ·rw[if_neg h,X5 _ _ h]
def Xpa (l:List AV):Option Nat->AV->List AV
 |some d,a=>Xpc l d a
 |none,_=>l
theorem X6d (l:List AV) (d:Option Nat) (a:AV):X7h (Xpa l d a)=X1b (X7h l) d a:=by
 cases d with
 |none=>rfl
 |some d=>exact Xmj l d a
theorem Xhx (as:List AV):X7h as=X5w as:=by
 funext t
 unfold X5w
 induction as generalizing t with
 |nil=>rfl
 |cons a l ih =>
  cases t with
  |zero=>rfl
  |succ t=>simpa[X7h] using ih t
def Xii (o:Nat):List (Nat×Obj)->List (Nat×Obj)
 |[]=>[]
 |(q,x)::l=>bif Nat.beq o q then Xii o l else (q,x)::Xii o l
theorem Xby (o:Nat) (l:List (Nat×Obj)):hp0 (Xii o l)=upd (hp0 l) o none:=by
 funext q
 induction l with
 |nil =>
  by_cases h:q=o
  ·subst h;rw[X7];rfl
  ·rw[X5 _ _ h];rfl
 |cons p l ih =>
  obtain⟨d,x⟩:=p;simp only[Xii];by_cases hd:o=d
  ·subst hd;rw[show Nat.beq o o=true by simp,cond_true,ih];by_cases h:q=o
   ·subst h;rw[X7,X7]
   ·rw[X5 _ _ h,X5 _ _ h];have:Nat.beq q o=false:=by rw[<-Bool.not_eq_true,Nat.beq_eq];exact h
    simp only[hp0,this,cond_false]
  ·have hb:Nat.beq o d=false:=by rw[<-Bool.not_eq_true,Nat.beq_eq];exact hd
   rw[hb,cond_false];simp only[hp0,ih];by_cases h:q=o
   ·subst h;rw[X7,X7,hb];rfl
   ·rw[X5 _ _ h,X5 _ _ h]
theorem X8c (o:Nat) (x:Obj) (l:List (Nat×Obj)):hp0 ((o,x)::l)=upd (hp0 l) o (some x):=by
 funext q
 simp only[hp0];by_cases h:q=o
 ·subst h;rw[X7];simp
 ·have:Nat.beq q o=false:=by rw[<-Bool.not_eq_true,Nat.beq_eq];exact h
  rw[X5 _ _ h,this];rfl
theorem Xht (o:Nat) (x:Obj) (l:List (Nat×Obj)):hp0 ((o,x)::Xii o l)=upd (hp0 l) o (some x):=by
 rw[X8c,Xby];funext q
 by_cases h:q=o
 ·subst h;rw[X7,X7]
 ·rw[X5 _ _ h,X5 _ _ h,X5 _ _ h]
def Xyk (id:Nat) (l:List (Nat×Obj)):Eff->List (Nat×Obj)
 |.none=>l
 |.new x=>(id,x)::l
 |.app old x=>(id,x)::Xii old l
theorem Xqo (id:Nat) (l:List (Nat×Obj)) (e:Eff):hp0 (Xyk id l e)=e.seq id (hp0 l):=by
 cases e with
 |none=>rfl
 |new x=>exact X8c id x l
 |app old x =>
  show hp0 ((id,x)::Xii old l)=upd (upd (hp0 l) old none) id (some x);rw[X8c,Xby]
def Xsp (id:Nat) (l:List (Nat×Obj)):X06->List (Nat×Obj)
 |.none=>l
 |.new x=>(id,x)::l
 |.app old x=>(id,x)::Xii old l
 |.set o x=>(o,x)::Xii o l
theorem Xmf (id:Nat) (l:List (Nat×Obj)) (e:X06):hp0 (Xsp id l e)=e.go id (hp0 l):=by
 cases e with
 |none=>rfl
 |new x=>rw[X06.go_new];exact X8c id x l
 |app old x =>
  rw[X06.go_app];show hp0 ((id,x)::Xii old l)=upd (upd (hp0 l) old none) id (some x);rw[X8c,Xby]
 |set o x=>rw[X06.go_set];exact Xht o x l
def stF (T:Ty) (ev:Operand->AV) (H:Xh) (t:Nat) (p x:Operand):Option (Nat×Obj) :=
 match T t with
 |some ti=>match ev p with
  |.ptr o i k=>match H o with
   |some y=>match y.es[i]? with
    |some e=>if y.solo=true/\(ev x).whole=true/\(ev x).cells.length=ti.size/\k+ti.size<=e.cells.length/\ti.size≠0 then
      some (o,{ y with es:=y.es.set i (X16 e k (ev x)) }) else none
    |none=>none
   |none=>none
  |_=>none
 |none=>none
theorem Xcc {T:Ty} {ev:Operand->AV} {H:Xh} {t:Nat} {p x:Operand} {q:Nat} {z:Obj} (h:stF T ev H t p x=some (q,z)) :
  ∃ i k y e ti,ev p=.ptr q i k/\H q=some y/\y.solo=true/\y.es[i]?=some e/\T t=some ti/\(ev x).whole=true/\(ev x).cells.length=ti.size/\k+ti.size<=e.cells.length/\ti.size≠0 /\
   z={ y with es:=y.es.set i (X16 e k (ev x)) }:=by
 unfold stF at h;split at h
 ·split at h
  ·split at h
   ·split at h
    ·split at h
     ·rename_i hh;obtain⟨g1,g2,g3,g4,g5⟩:=hh;cases h
      exact⟨_,_,_,_,_,by assumption,by assumption,g1,by assumption,by assumption,g2,g3,g4,g5,rfl⟩
     ·cases h
    ·cases h
   ·cases h
  ·cases h
 ·cases h
def Xbi (f:AV->Option AV):List AV->Option (List AV)
 |[]=>some []
 |a::l=>match f a with
  |some b=>match Xbi f l with
   |some r=>some (b::r)
   |none=>none
  |none=>none
theorem X26 {f:AV->Option AV}:∀ {l r:List AV},Xbi f l=some r->l.length=r.length/\∀ (i:Nat) a b,l[i]?=some a->r[i]?=some b->f a=some b:=by
 intro l
 induction l with
 |nil=>intro r h;simp[Xbi] at h;subst h;exact⟨rfl,λi a b ha=>by simp at ha⟩
 |cons x l ih =>
  intro r h;simp only[Xbi] at h;split at h
  ·split at h
   ·rename_i hx _ _ hr;cases h
    obtain⟨h1,h2⟩:=ih hr;refine⟨by simp[h1],λi a b ha hb=>?_⟩
    cases i with
    |zero=>simp at ha hb;subst ha hb;exact hx
    |succ i=>simp at ha hb;exact h2 i a b ha hb
   ·cases h
  ·cases h
def elF (f:AV->Option AV) (e:AV):Option AV :=
 match e with
 |.agg cs=>match Xbi f cs with
  |some r=>some (.agg r)
  |none=>none
 |e=>match f e with
  |some (.agg _)=>none
  |r=>r
theorem X7d {f:AV->Option AV} {e e':AV} (h:elF f e=some e'):e.cells.length=e'.cells.length/\∀ (k:Nat) a b,e.cells[k]?=some a->e'.cells[k]?=some b->f a=some b:=by
 unfold elF at h;split at h
 ·split at h
  ·rename_i hm;cases h
   exact X26 hm
  ·cases h
 ·rename_i e0 hne;split at h
  ·cases h
  ·rename_i r hna;have h1:e.cells=[e]:=by cases e<;>first|rfl|exact(hne _ rfl).elim
   have h2:e'.cells=[e']:=by
    cases e'<;>first|rfl|exact(hna _ h).elim
   rw[h1,h2];refine⟨rfl,λk a b ha hb=>?_⟩
   cases k with
   |zero=>simp at ha hb;subst ha hb;exact h
   |succ k=>simp at ha
def cvF (m:Bool) (H:Xh):Nat->AV->Option AV
 |0,_=>none
 |n+1,a=>match a with
  |.sc v=>some (.sc v)
  |.nils=>some (.list m [])
  |.agg cs=>match Xbi (cvF m H n) cs with
   |some r=>some (.agg r)
   |none=>none
  |.tup cs=>match Xbi (cvF m H n) cs with
   |some r=>some (.tup r)
   |none=>none
  |.list own es=>match m with
   |true=>some (.list own es)
   |false=>match Xbi (elF (cvF false H n)) es with
    |some r=>some (.list false r)
    |none=>none
  |.ref o off len=>match H o with
   |some x=>if off+len<=x.es.length then (match Xbi (elF (cvF m H n)) ((x.es.drop off).take len) with
    |some r=>some (.list m r)
    |none=>none) else none
   |none=>none
  |.fn f []=>some (.fn f [])
  |.ptr o i k=>match m with
   |true=>none
   |false=>match H o with
    |some x=>match x.es[i]? with
     |some e=>match elF (cvF false H n) e with
      |some e'=>some (.elem false e' k)
      |none=>none
     |none=>none
    |none=>none
  |.elem _ e k=>match m with
   |true=>none
   |false=>match elF (cvF false H n) e with
    |some e'=>some (.elem false e' k)
    |none=>none
  |_=>none
theorem X5k {m:Bool} {H:Xh}:∀ (n:Nat) (a b:AV),cvF m H n a=some b->Cv m H a b:=by
 intro n
 induction n with
 |zero=>intro a b h;cases h
 |succ n ih =>
  intro a b h;unfold cvF at h;split at h
  ·cases h;exact .sc
  ·cases h;exact .nils
  ·split at h
   ·rename_i hm;cases h
    obtain⟨h1,h2⟩:=X26 hm;exact .agg h1 λi a b ha hb=>ih a b (h2 i a b ha hb)
   ·cases h
  ·split at h
   ·rename_i hm;cases h
    obtain⟨h1,h2⟩:=X26 hm;exact .tup h1 λi a b ha hb=>ih a b (h2 i a b ha hb)
   ·cases h
  ·split at h
   ·cases h;exact .listS rfl
   ·split at h
    ·rename_i hm;cases h
     obtain⟨h1,h2⟩:=X26 hm;exact .listD rfl h1 (λi e e' he he'=>(X7d (h2 i e e' he he')).1) (λi e e' k a b he he' ha hb=>ih a b ((X7d (h2 i e e' he he')).2 k a b ha hb))
    ·cases h
  ·rename_i o off len;split at h
   ·rename_i x hH;split at h
    ·rename_i hle;split at h
     ·rename_i r hm;cases h
      obtain⟨h1,h2⟩:=X26 hm;have hlen:∀ (i:Nat) e',r[i]?=some e'->i<len:=λi e' he'=>by
       have:=(List.getElem?_eq_some_iff.1 he').1;rw[<-h1] at this;simp at this;omega
      have hget:∀ (i:Nat) e,i<len->x.es[off+i]?=some e->((x.es.drop off).take len)[i]?=some e:=λi e hi he=>by
       rw[List.getElem?_take,if_pos hi,List.getElem?_drop];exact he
      refine .ref hH hle ?_ (λi e e' he he'=>?_) (λi e e' k a b he he' ha hb=>?_)
      ·rw[<-h1];simp;omega
      ·exact(X7d (h2 i e e' (hget i e (hlen i e' he') he) he')).1
      ·exact ih a b ((X7d (h2 i e e' (hget i e (hlen i e' he') he) he')).2 k a b ha hb)
     ·cases h
    ·cases h
   ·cases h
  ·cases h;exact .fn0
  ·split at h
   ·cases h
   ·split at h
    ·rename_i hH;split at h
     ·rename_i he;split at h
      ·rename_i hm;cases h
       exact .ptrL rfl hH he (X7d hm).1 λk a b ha hb=>ih a b ((X7d hm).2 k a b ha hb)
      ·cases h
     ·cases h
    ·cases h
  ·split at h
   ·cases h
   ·split at h
    ·rename_i hm;cases h
     exact .elemD rfl (X7d hm).1 λk a b ha hb=>ih a b ((X7d hm).2 k a b ha hb)
    ·cases h
  ·cases h
def Xks:Nat->AV->Bool
 |0,_=>false
 |n+1,a=>match a with
  |.sc _=>true
  |.nils=>true
  |.agg cs=>cs.all (Xks n)
  |.tup cs=>cs.all (Xks n)
  |.list _ []=>true
  |.list own es=>own&&es.all (λe=>e.cells.all (Xks n))
  |_=>false
theorem Xbv:∀ (n:Nat) (a:AV),Xks n a=true->X96 a:=by
 intro n
 induction n with
 |zero=>intro a h;cases h
 |succ n ih =>
  intro a h;unfold Xks at h;split at h
  ·exact .sc
  ·exact .nils
  ·exact .agg λa ha=>ih a (List.all_eq_true.1 h a ha)
  ·exact .tup λa ha=>ih a (List.all_eq_true.1 h a ha)
  ·exact .listNil
  ·simp only[Bool.and_eq_true] at h;obtain⟨h1,h2⟩:=h;subst h1;exact .list λe he a ha=>ih a (List.all_eq_true.1 (List.all_eq_true.1 h2 e he) a ha)
  ·cases h
end Go.Av


namespace Go.Av
variable [Gls]
structure RS where
 F:List AV
 H:List (Nat×Obj)
 n:Nat
def RS.st (s:RS):St:=⟨X7h s.F,hp0 s.H,s.n⟩
abbrev Rec:=Nat->List AV->List (Nat×Obj)->Nat->Option (AV×List (Nat×Obj)×Nat)
def X4g (P:Program) (rec:Rec):Prop :=
 ∀ f as H n r H' n',rec f as H n=some (r,H',n')->HC P f as (hp0 H) n (λr2 H2 n2=>r2=r/\H2=hp0 H'/\n2=n')
def opF (T:Ty) (rec:Rec) (s:RS) (o:Oper):Option (AV×List (Nat×Obj)×Nat) :=
 match puF T (evA (X7h s.F)) (hp0 s.H) o.op with
 |some a=>some (a,s.H,s.n)
 |none=>match mkF T (evA (X7h s.F)) (hp0 s.H) s.n o.op with
  |some (a,e)=>some (a,Xyk s.n s.H e,s.n+1)
  |none=>match o.op with
   |.store t p x=>match stF T (evA (X7h s.F)) (hp0 s.H) t p x with
    |some (q,z)=>some (.sc undef,(q,z)::Xii q s.H,s.n)
    |none=>none
   |.call { callee:=.value x,args:=args,argTypes:=_ }=>match evA (X7h s.F) x with
    |.fn f caps=>rec f (args.toList.map (evA (X7h s.F))++caps) s.H s.n
    |_=>none
   |_=>none
theorem Xtx {P:Program} {T:Ty} {rec:Rec} {nt:Nat} {s:RS} {o:Oper} {a:AV} {H:List (Nat×Obj)} {n:Nat} (hT:X1h P T) (hr:X4g P rec) (h:opF T rec s o=some (a,H,n)) :
  OpR P nt o s.st (λa' H' n'=>a'=a/\H'=hp0 H/\n'=n):=by
 unfold opF at h;split at h
 ·rename_i hp';cases h
  exact OpR.pu hT (s:=s.st) (X5h hp')
 ·split at h
  ·rename_i hm;cases h
   obtain⟨h1,h2⟩:=X79 hm;rw[Xqo];exact OpR.mk hT (s:=s.st) h1 h2
  ·split at h
   ·rename_i ho;split at h
    ·rename_i hs;cases h
     obtain⟨i,k,y,e,ti,g1,g2,g3,g4,g5,g6,g7,g8,g9,rfl⟩:=Xcc hs;rw[Xht];refine OpR.st hT (s:=s.st) ?_;rw[ho];exact .store g1 g2 g3 g4 g5 g6 g7 g8 g9
    ·cases h
   ·rename_i ho;split at h
    ·rename_i hx;exact OpR.call (s:=s.st) ho hx (hr _ _ _ _ _ _ _ h)
    ·cases h
   ·cases h
def X9k (nt:Nat) (ops:Array Oper) (A:Nat->AV) (o:Oper):Option Bool :=
 match o.guard with
 |none=>some true
 |some (j,want)=>match (ops[j]?).bind (·.dst) with
  |some t=>if Nat.blt t nt=true then (match X0q (A t) with
   |.sc v=>some (X34 want v)
   |_=>none) else none
  |none=>none
def Xry (T:Ty) (rec:Rec) (nt:Nat) (ops:Array Oper):List Oper->RS->Option RS
 |[],s=>some s
 |o::l,s=>if X3n nt o.dst=true then (match X9k nt ops (X7h s.F) o with
  |some true=>match opF T rec s o with
   |some (a,H,n)=>Xry T rec nt ops l ⟨Xpa s.F o.dst a,H,n⟩
   |none=>none
  |some false=>Xry T rec nt ops l ⟨Xpa s.F o.dst (.sc undef),s.H,s.n⟩
  |none=>none) else none
theorem Xq2 {P:Program} {T:Ty} {rec:Rec} {nt n0:Nat} {ops:Array Oper} (hT:X1h P T) (hr:X4g P rec):∀ (l:List Oper) (s r:RS),Xry T rec nt ops l s=some r ->
  X8m P nt n0 ops l (λs'=>s'=r.st) s.st:=by
 intro l
 induction l with
 |nil=>intro s r h;simp[Xry] at h;subst h;exact X8m.nil rfl
 |cons o l ih =>
  intro s r h;simp only[Xry] at h;split at h
  ·rename_i hd;have hdlt:=X0i hd;split at h
   ·rename_i hg;split at h
    ·rename_i a H n hop;have hR:=Xtx (nt:=nt) hT hr hop;have hk:=ih _ _ h;have key:X8m P nt n0 ops ({ o with guard:=none }::l) (λs'=>s'=r.st) s.st:=by
      refine X8m.step (R:=λa' H' n'=>a'=a/\H'=hp0 H/\n'=n) rfl hdlt hR.noGuard ?_;rintro a' H' n' ⟨rfl,rfl,rfl⟩;have:(⟨X1b s.st.A o.dst a',hp0 H,n'⟩:St)=(RS.mk (Xpa s.F o.dst a') H n').st:=by simp only[RS.st,X6d]
      show X8m P nt n0 ops l (λs'=>s'=r.st) ⟨X1b s.st.A o.dst a',hp0 H,n'⟩;rw[this];exact hk
     unfold X9k at hg;split at hg
     ·rename_i hgn;have ho:({ o with guard:=none }:Oper)=o:=by cases o;simp at hgn;subst hgn;rfl
      rw[ho] at key;exact key
     ·rename_i j want hgs;split at hg
      ·rename_i t hj;split at hg
       ·rename_i ht;split at hg
        ·rename_i v hb;have hv:v=.bool want:=by
          cases v<;>simp[X34] at hg
          rw[hg]
         rw[hv] at hb;exact Xp2 (b:=want) hgs hj ht hb hd (λ_=>key) (λhne=>absurd rfl hne)
        ·cases hg
       ·cases hg
      ·cases hg
    ·cases h
   ·rename_i hg;unfold X9k at hg;split at hg
    ·cases hg
    ·rename_i j want hgs;split at hg
     ·rename_i t hj;split at hg
      ·rename_i ht;split at hg
       ·rename_i v hb;refine Xsw hgs hj ht hb hd (by simpa using hg) ?_;have hk:=ih _ _ h;have:(⟨X1b s.st.A o.dst (.sc undef),s.st.H,s.st.n⟩:St)=(RS.mk (Xpa s.F o.dst (.sc undef)) s.H s.n).st:=by simp only[RS.st,X6d]
        rw[this];exact hk
       ·cases hg
      ·cases hg
     ·cases hg
   ·cases h
  ·cases h
def Xm4 (b:RS->Option (Xc×RS)):Nat->RS->Option (Xc×RS)
 |0,_=>none
 |m+1,s=>match b s with
  |some (.normal,s')=>Xm4 b m s'
  |r=>r
open Classical in
theorem X21.loop0 {P:Program} {nt n0:Nat} {s:St} {Q:Xc->St->Prop} {body:Code} (J:Nat->St->Prop) (h0:∃ m,J m s)
  (hr:∀ m s,J m s->X21 P nt n0 body (λe s'=>match e with|.normal=>∃ m',J m' s'/\m'<m|e=>Q e s') s):X21 P nt n0 (.loop body) Q s:=by
 intro c0 H0 c act g R hR;let ds:=act.defers
 let I':Nat->Act->World->Prop:=λm act w=>∃ c s,c.w=w/\X0b nt c0 H0 n0 c s act/\act.defers=ds/\J m s
 let I:Act->World->Prop:=λact w=>∃ m,I' m act w
 let μ:Act->World->Nat:=λact w=>if h:∃ m,I' m act w then Classical.choose (X8w h) else 0
 obtain⟨m,hJ⟩:=h0;refine wpIn_loop I μ ⟨m,c,s,rfl,g,rfl,hJ⟩ ?_;intro a w hI;have hm:μ a w=Classical.choose (X8w hI):=dif_pos hI;obtain⟨c1,s2,rfl,g1,hd1,hJ1⟩:=(Classical.choose_spec (X8w hI)).1;refine wpIn_mono (hr _ _ hJ1 c0 H0 c1 a g1 R hR.loop) ?_;rintro e a' w' ⟨c2,s3,ae,rfl,g2,hd2,rfl,hq⟩;have hd3:a'.defers=ds:=hd2.trans hd1
 cases ae with
 |normal =>
  obtain⟨m',hJ4,hlt⟩:=hq;have hI4:I' m' a' c2.w:=⟨c2,s3,rfl,g2,hd3,hJ4⟩;refine⟨⟨m',hI4⟩,?_⟩;have:μ a' c2.w=Classical.choose (X8w (⟨m',hI4⟩:∃ m,I' m a' c2.w)):=dif_pos (⟨m',hI4⟩:∃ m,I' m a' c2.w);rw[this,hm];exact Nat.lt_of_le_of_lt ((Classical.choose_spec (X8w (⟨m',hI4⟩:∃ m,I' m a' c2.w))).2 m' hI4) hlt
 |exit id=>exact⟨c2,s3,.exit id,rfl,g2,hd3,rfl,hq⟩
 |ret=>exact⟨c2,s3,.ret,rfl,g2,hd3,rfl,hq⟩
def Xxq (T:Ty) (rec:Rec) (A:Nat->AV) (V:Xh) (id:Nat) (o:Oper):Option (AV×X06) :=
 match puF T (evA A) V o.op with
 |some a=>some (a,.none)
 |none=>match mkF T (evA A) V id o.op with
  |some (a,.none)=>some (a,.none)
  |some (a,.new x)=>some (a,.new x)
  |some (a,.app old x)=>some (a,.app old x)
  |none=>match o.op with
   |.store t p x=>match o.dst with
    |none=>match stF T (evA A) V t p x with
     |some (q,z)=>some (.sc undef,.set q z)
     |none=>none
    |some _=>none
   |.call { callee:=.value x,args:=args,argTypes:=_ }=>match evA A x with
    |.fn f []=>match Xbi (cvF false V 100) (args.toList.map (evA A)) with
     |some bs=>match rec f bs [] 0 with
      |some (r,H',_)=>match cvF true (hp0 H') 100 r with
       |some r'=>if Xks 100 r'=true then some (r',.none) else none
       |none=>none
      |none=>none
     |none=>none
    |_=>none
   |_=>none
theorem Xu.of_hc {P:Program} {f:Nat} {bs:List AV} {r r':AV} {H':Xh} {n':Nat} (h:HC P f bs (λ_=>none) 0 (λr2 H2 n2=>r2=r/\H2=H'/\n2=n')) (hc:Cv true H' r r'):Xu P f bs r':=by
 refine⟨h.1,λw S vs hS hG hv=>?_⟩;let c:Ctx:=⟨w,pl0,S,λ_=>False,w.heap.size⟩
 have hI:Inv c (λ_=>none) (·<0) :=
  ⟨λo x h=>(by cases h),λo o' x x' h=>(by cases h),λo x h=>(by cases h),λb hb=>hb.elim (hS b) False.elim,Nat.le_refl _,λb hb=>hb.elim,λo x h=>(by cases h),hG⟩
 have hvs:X36 c false bs vs:=⟨hv.len,λi a v ha hvv=>(hv.rel i a v ha hvv).shallow⟩;have hok:∀ a∈bs,a.Ok (·<0):=by
  intro a ha;obtain⟨i,hi⟩:=List.getElem?_of_mem ha;have:i<vs.size:=by rw[<-hv.len];exact(List.getElem?_eq_some_iff.1 hi).1
  exact(hv.rel i a _ hi (Array.getElem?_eq_getElem this)).okDeep
 refine(h.2 c vs hI (λo x h=>by cases h) hvs hok).mono ?_;rintro e w' ⟨v,r2,H2,n2,c',⟨rfl,rfl,rfl⟩,rfl,rfl,hle,hsa,hso,hfr,hown,hI',hs,hn,hvr,hokr⟩;refine⟨v,rfl,?_,⟨⟨hfr.os,hfr.tape,hfr.output.1,hfr.size,λk hk=>hfr.block k hk (λo x hx=>(by cases hx))⟩,hfr.output.2⟩⟩;have hB:c'.B=w.heap.size:=hle.B;refine Xe6 hI' (c':=⟨c'.w,pl0,S,λb=>w.heap.size<=b/\b<c'.w.heap.size,w.heap.size⟩) rfl (λb hb=>?_) (λ_ b hb=>?_) (λo x hx=>?_) hc hvr
 ·rcases hb with hb|hb
  ·exact .inl ⟨rfl,by rw[hsa] at hb;exact hb⟩
  ·exact .inr ⟨by rw[<-hB];exact hI'.own b hb,hI'.lt b (.inr hb)⟩
 ·exact⟨by rw[<-hB];exact hI'.own b hb,hI'.lt b (.inr hb)⟩
 ·obtain⟨_,⟨⟨cur,hcb,_⟩,_⟩,_⟩:=hI'.obj o x hx;exact .inr ⟨by rw[<-hB];exact hI'.low o x hx,(Array.getElem?_eq_some_iff.1 hcb).1⟩
theorem Xr1 {P:Program} {T:Ty} {rec:Rec} {A:Nat->AV} {V:Xh} {id:Nat} {o:Oper} {a:AV} {e:X06} (hr:X4g P rec) (h:Xxq T rec A V id o=some (a,e)):DOp P T A V id o a e:=by
 unfold Xxq at h;split at h
 ·cases h;exact .pu (X5h (by assumption))
 ·split at h
  ·rename_i hm;cases h;exact .zero (X79 hm).1
  ·rename_i hm;cases h;obtain⟨h1,h2⟩:=X79 hm;have:=h2 0 _ (.inr rfl);exact .new h1 this.1 this.2
  ·rename_i hm;cases h;obtain⟨h1,h2⟩:=X79 hm;have:=h2 _ _ (.inl rfl);exact .app h1 this.1 this.2
  ·split at h
   ·rename_i ho;split at h
    ·rename_i hd;split at h
     ·rename_i hs;cases h
      obtain⟨i,k,y,e,ti,g1,g2,g3,g4,g5,g6,g7,g8,g9,rfl⟩:=Xcc hs;exact .store ho hd g1 g2 g4 g5 g6 g7 g8 g9
     ·cases h
    ·cases h
   ·rename_i ho;split at h
    ·rename_i hx;split at h
     ·rename_i hm;split at h
      ·rename_i hrec;split at h
       ·rename_i hc;split at h
        ·rename_i hown;cases h
         obtain⟨m1,m2⟩:=X26 hm;exact .pure ho hx (by rw[List.append_nil];exact⟨m1,λi a b ha hb=>X5k _ _ _ (m2 i a b ha hb)⟩) (Xu.of_hc (hr _ _ _ _ _ _ _ hrec) (X5k _ _ _ hc)) (λ_ _ h=>h) (.inl (Xbv _ _ hown))
        ·cases h
       ·cases h
      ·cases h
     ·cases h
    ·cases h
   ·cases h
def Xe2 (T:Ty) (rec:Rec) (nt base:Nat) (ops:Array Oper) (ms:List Nat) (hs:List (Nat×(Nat->Bool))):Nat->List Oper->List AV->List (Nat×Obj)->List X06->Option (List AV×List (Nat×Obj))
 |_,[],F,H,_=>some (F,H)
 |i,o::l,F,H,es =>
  if X22 nt (X12 i (ms.getD i 0) 0 ops.toList ms) o.dst=true then
   (match X9k nt ops (frD (X12 i (ms.getD i 0) 0 ops.toList ms) (X7h F)) o with
   |some true=>match Xxq T rec (frD (X12 i (ms.getD i 0) 0 ops.toList ms) (X7h F)) (hpD base (ms.getD i 0) (hz0 o) es (hp0 H)) (base+i) o with
    |some (a,e)=>if X0z base (ms.getD i 0) (e.objs (base+i)) 0 (hs.take i) [] es=true then
      Xe2 T rec nt base ops ms hs (i+1) l (Xpa F o.dst a) (Xsp (base+i) H e) (es++[e]) else none
    |none=>none
   |some false=>Xe2 T rec nt base ops ms hs (i+1) l (Xpa F o.dst (.sc undef)) H (es++[.none])
   |none=>none) else none
theorem Xmt {P:Program} {T:Ty} {rec:Rec} {nt base:Nat} {ops:Array Oper} {ms:List Nat} (hr:X4g P rec):∀ (l:List Oper) (i:Nat) (F:List AV) (H:List (Nat×Obj)) (es:List X06) (F':List AV) (H':List (Nat×Obj)),
  Xe2 T rec nt base ops ms (ms.zip (ops.toList.map hz0)) i l F H es=some (F',H')->Xd5 hz0 P T nt base ops ms i l (X7h F) (hp0 H) es (X7h F') (hp0 H'):=by
 intro l
 induction l with
 |nil=>intro i F H es F' H' h;simp[Xe2] at h;obtain⟨rfl,rfl⟩:=h;exact .nil
 |cons o l ih =>
  intro i F H es F' H' h;simp only[Xe2] at h;split at h
  ·rename_i hd;split at h
   ·rename_i hg;split at h
    ·rename_i a e hop;split at h
     ·rename_i hw;have hk:=ih _ _ _ _ _ _ h;rw[X6d,Xmf] at hk;have hop':=Xr1 hr hop;unfold X9k at hg;split at hg
      ·rename_i hgn;exact .op hgn hd hop' hw hk
      ·rename_i j want hgs;split at hg
       ·rename_i t hj;split at hg
        ·rename_i ht;split at hg
         ·rename_i v hb;have hv:v=.bool want:=by
           cases v<;>simp[X34] at hg
           rw[hg]
          rw[hv] at hb;exact .run hgs hd hj ht hb hop' hw hk
         ·cases hg
        ·cases hg
       ·cases hg
     ·cases h
    ·cases h
   ·rename_i hg;have hk:=ih _ _ _ _ _ _ h;rw[X6d] at hk;unfold X9k at hg;split at hg
    ·cases hg
    ·rename_i j want hgs;split at hg
     ·rename_i t hj;split at hg
      ·rename_i ht;split at hg
       ·rename_i v hb;exact .skip hgs hd hj ht hb (by simpa using hg) hk
       ·cases hg
      ·cases hg
     ·cases hg
   ·cases h
  ·cases h
end Go.Av


namespace Go.Av
variable [Gls]
def X3o (P:Program) (T:Ty) (rec:Rec) (nt k:Nat):Code->RS->Option (Xc×RS)
 |.skip,s=>some (.normal,s)
 |.label _,s=>some (.normal,s)
 |.exit id,s=>some (.exit id,s)
 |.ret,s=>some (.ret,s)
 |.seq a b,s=>match X3o P T rec nt k a s with
  |some (.normal,s')=>X3o P T rec nt k b s'
  |r=>r
 |.cond x a b,s=>match evA (X7h s.F) x with
  |.sc (.bool true)=>X3o P T rec nt k a s
  |.sc (.bool false)=>X3o P T rec nt k b s
  |_=>none
 |.block id c,s=>match X3o P T rec nt k c s with
  |some (.exit i,s')=>bif Nat.beq i id then some (.normal,s') else some (.exit i,s')
  |r=>r
 |.loop b,s=>Xm4 (X3o P T rec nt k b) k s
 |.region _ ops false,s=>match Xry T rec nt ops ops.toList s with
  |some s'=>some (.normal,s')
  |none=>none
 |.region _ ops true,s=>if P.follows .mixedOrders=true/\X2f 0 ops.toList=true then
   (match Xe2 T rec nt s.n ops (Xz ops.toList) ((Xz ops.toList).zip (ops.toList.map hz0)) 0 ops.toList s.F s.H [] with
   |some (F,H)=>some (.normal,⟨F,H,s.n+ops.toList.length⟩)
   |none=>none) else none
 |_,_=>none
theorem Xmx {P:Program} {T:Ty} {rec:Rec} {nt k n0:Nat} (hT:X1h P T) (hr:X4g P rec):∀ (code:Code) (s:RS) (e:Xc) (r:RS),X3o P T rec nt k code s=some (e,r) ->
  X21 P nt n0 code (λe' s'=>e'=e/\s'=r.st) s.st:=by
 intro code
 induction code with
 |skip=>intro s e r h;simp only[X3o] at h;cases h;exact X21.skip ⟨rfl,rfl⟩
 |label l=>intro s e r h;simp only[X3o] at h;cases h;exact X21.label ⟨rfl,rfl⟩
 |exit id=>intro s e r h;simp only[X3o] at h;cases h;exact X21.exit ⟨rfl,rfl⟩
 |ret=>intro s e r h;simp only[X3o] at h;cases h;exact X21.ret ⟨rfl,rfl⟩
 |seq a b iha ihb =>
  intro s e r h;simp only[X3o] at h;refine X21.seq ?_;split at h
  ·rename_i s' ha;refine(iha _ _ _ ha).mono ?_;rintro e' s2 ⟨rfl,rfl⟩;exact ihb _ _ _ h
  ·rename_i hne;refine(iha _ _ _ h).mono ?_;rintro e' s2 ⟨rfl,rfl⟩
   cases e' with
   |normal=>exact absurd h (hne _)
   |exit id=>exact⟨rfl,rfl⟩
   |ret=>exact⟨rfl,rfl⟩
 |cond x a b iha ihb =>
  intro s e r h;simp only[X3o] at h;split at h
  ·rename_i hx;exact X21.cond (s:=s.st) hx (λ_=>iha _ _ _ h) (λh=>by cases h)
  ·rename_i hx;exact X21.cond (s:=s.st) hx (λh=>by cases h) (λ_=>ihb _ _ _ h)
  ·cases h
 |block id c ih =>
  intro s e r h;simp only[X3o] at h;refine X21.block ?_;split at h
  ·rename_i i s' hc;refine(ih _ _ _ hc).mono ?_;rintro e' s2 ⟨rfl,rfl⟩;simp only[Xix]
   cases hb:Nat.beq i id with
   |true=>rw[hb,cond_true] at h;cases h;exact⟨rfl,rfl⟩
   |false=>rw[hb,cond_false] at h;cases h;exact⟨rfl,rfl⟩
  ·rename_i hne;refine(ih _ _ _ h).mono ?_;rintro e' s2 ⟨rfl,rfl⟩
   cases e' with
   |normal=>exact⟨rfl,rfl⟩
   |exit id=>exact absurd h (hne _ _)
   |ret=>exact⟨rfl,rfl⟩
 |loop b ih =>
  intro s e r h;simp only[X3o] at h;refine X21.loop0 (λm s'=>∃ q:RS,s'=q.st/\Xm4 (X3o P T rec nt k b) m q=some (e,r)) ⟨k,s,rfl,h⟩ ?_;rintro m _ ⟨q,rfl,hq⟩
  cases m with
  |zero=>cases hq
  |succ m =>
   simp only[Xm4] at hq;split at hq
   ·rename_i s' hb;refine(ih _ _ _ hb).mono ?_;rintro e' s2 ⟨rfl,rfl⟩;exact⟨m,⟨s',rfl,hq⟩,Nat.lt_succ_self m⟩
   ·rename_i hne;refine(ih _ _ _ hq).mono ?_;rintro e' s2 ⟨rfl,rfl⟩
    cases e' with
    |normal=>exact absurd hq (hne _)
    |exit id=>exact⟨rfl,rfl⟩
    |ret=>exact⟨rfl,rfl⟩
 |region id ops draw =>
  intro s e r h
  cases draw with
  |false =>
   simp only[X3o] at h;split at h
   ·rename_i s' hs;cases h
    refine X21.region ?_;intro c0 H0 c act g Qx hQ;exact Xq2 hT hr _ _ _ hs c0 H0 c act g Qx λc' s'' act' g' hd hq=>hQ c' s'' act' g' hd ⟨rfl,hq⟩
   ·cases h
  |true =>
   simp only[X3o] at h;split at h
   ·rename_i hh;split at h
    ·rename_i F H hd;cases h
     exact X21.drawn hh.1 hT hh.2 (Xmt hr _ _ _ _ _ _ _ hd) ⟨rfl,rfl⟩
    ·cases h
   ·cases h
 |_=>intro s e r h;simp only[X3o] at h;cases h
def Xo4 (T:Ty) (s:RS):List ResultVar->Option (List AV)
 |[]=>some []
 |.tmp t::l=>match Xo4 T s l with
  |some r=>some (X0q (X7h s.F t)::r)
  |none=>none
 |.cell p t::l=>match T t with
  |some ti=>match X9p (hp0 s.H) (X0q (X7h s.F p)) with
   |some (e,k)=>match X5o ti e k with
    |some a=>match Xo4 T s l with
     |some r=>some (a::r)
     |none=>none
    |none=>none
   |none=>none
  |none=>none
theorem Xpv {T:Ty} {s:RS}:∀ (l:List ResultVar) (r:List AV),Xo4 T s l=some r->X4z T s.st l r:=by
 intro l
 induction l with
 |nil=>intro r h;simp[Xo4] at h;subst h;exact .nil
 |cons v l ih =>
  intro r h
  cases v with
  |tmp t =>
   simp only[Xo4] at h;split at h
   ·rename_i hr;cases h;exact .cons .tmp (ih _ hr)
   ·cases h
  |cell p t =>
   simp only[Xo4] at h;split at h
   ·split at h
    ·split at h
     ·split at h
      ·rename_i ht _ _ _ hd _ _ hl _ _ hr;cases h
       exact .cons (.cell ht (X8k hd) hl) (ih _ hr)
      ·cases h
     ·cases h
    ·cases h
   ·cases h
abbrev Env:=Nat->Option (Func×Code)
def Xit (P:Program) (T:Ty) (E:Env) (k:Nat):Nat->Rec
 |0=>λ_ _ _ _=>none
 |d+1=>λf as H n=>match E f with
  |some (fn,code)=>if Nat.ble as.length fn.ntmps=true then (match X3o P T (Xit P T E k d) fn.ntmps k code ⟨as,H,n⟩ with
   |some (.exit _,_)=>none
   |some (_,s)=>match Xo4 T s fn.results.toList with
    |some rs=>some (X46 rs,s.H,s.n)
    |none=>none
   |none=>none) else none
  |none=>none
def Xc3 (P:Program) (E:Env):Prop:=∀ f fn code,E f=some (fn,code)->X5d P f fn code
theorem Xn1 {P:Program} {T:Ty} {E:Env} {k:Nat} (hT:X1h P T) (hE:Xc3 P E):∀ d,X4g P (Xit P T E k d):=by
 intro d
 induction d with
 |zero=>intro f as H n r H' n' h;cases h
 |succ d ih =>
  intro f as H n r H' n' h;simp only[Xit] at h;split at h
  ·rename_i fn code hf;split at h
   ·rename_i hle;have body:∀ (e:Xc) (s:RS),X3o P T (Xit P T E k d) fn.ntmps k code ⟨as,H,n⟩=some (e,s)->(∀ id,e≠.exit id)->(match Xo4 T s fn.results.toList with
      |some rs=>some (X46 rs,s.H,s.n)
      |none=>none)=some (r,H',n')->HC P f as (hp0 H) n (λr2 H2 n2=>r2=r/\H2=hp0 H'/\n2=n'):=by
     intro e s hc hne hres;split at hres
     ·rename_i rs hrs;cases hres
      have hsem:=Xmx (n0:=n) hT ih _ _ _ _ hc;have hst:(RS.mk as H n).st=⟨X5w as,hp0 H,n⟩:=by simp only[RS.st,Xhx]
      rw[hst] at hsem;refine HC.of_body hT (hE _ _ _ hf) rfl (by simpa using hle) (hsem.mono ?_);rintro e' s' ⟨rfl,rfl⟩;have hq:∃ rs',X4z T s.st fn.results.toList rs'/\(X46 rs'=X46 rs/\s.st.H=hp0 s.H/\s.st.n=s.n):=⟨rs,Xpv _ _ hrs,rfl,rfl,rfl⟩
      cases e' with
      |exit id=>exact absurd rfl (hne id)
      |normal=>exact hq
      |ret=>exact hq
     ·cases hres
    split at h
    ·cases h
    ·rename_i e s hne hc;exact body e s hc (λid he=>by subst he;exact hne id rfl) h
    ·cases h
   ·cases h
  ·cases h
theorem run_pure {P:Program} {T:Ty} {E:Env} {k d f:Nat} {as:List AV} {v:Value} (hT:X1h P T) (hE:Xc3 P E)
  (h:(match Xit P T E k d f as [] 0 with|some (.sc u,_,_)=>some u|_=>none)=some v):Xu P f as (.sc v):=by
 split at h
 ·rename_i u H' n' hc;cases h
  exact Xu.of_hc (Xn1 hT hE d _ _ _ _ _ _ _ hc) .sc
 ·cases h
end Go.Av


namespace Go.Av
variable [Gls]
theorem X21.scope {P:Program} {nt n0:Nat} {s:St} {Q:Xc->St->Prop} {c:Code} (h:X21 P nt n0 c Q s):X21 P nt n0 (.scope c) Q s:=by
 intro c0 H0 cx act g R hR;have hR2:=hR.scope;obtain rfl:=hR rfl;refine X3w.2 (wp_scope_straight (Code.wp_mono ?_ (X3w.1 (h c0 H0 cx act g none hR2))));rintro e a w ⟨c',s',ae,rfl,g',hd,rfl,hq⟩
 cases ae with
 |normal=>exact⟨c',s',.normal,rfl,g',hd,rfl,hq⟩
 |exit id=>exact⟨c',s',.exit id,rfl,g',hd,rfl,hq⟩
 |ret=>exact⟨c',s',.ret,rfl,g',hd,rfl,hq⟩
end Go.Av


namespace Go.Av
variable [Gls]
def X97 (w:World) (b:Nat) (l:List (Value×Value)):Prop :=
 ∃ es clock,w.heap[b]?=some (.map es clock)/\es.toList.map (λe=>(e.key,e.val))=l/\es.toList.Pairwise (λx y=>x.born<y.born)/\∀ e∈es.toList,e.born<clock
theorem X97.lt {w:World} {b:Nat} {l:List (Value×Value)} (h:X97 w b l):b<w.heap.size:=by
 obtain⟨es,clock,hb,_⟩:=h;exact(Array.getElem?_eq_some_iff.1 hb).1
inductive MuE where
 |map (l:List (Value×Value))
 |mark
 |blk (o:Go.Obj)
 |loop (r:Loop) (nt m:Nat) (A:Nat->AV)
instance:Coe (List (Value×Value)) MuE:=⟨.map⟩
abbrev Mu:=List (Nat×MuE)
def Xnu (n0:Nat) (c:Ctx) (b:Nat):MuE->Prop
 |.map l=>X97 c.w b l
 |.mark=>c.w.heap[b]?=some (.deferred (some []))
 |.blk o=>c.w.heap[b]?=some o
 |.loop r nt m A=>(c.w.heap[b]?=some (.loop r)/\r.tmps.size=nt)/\m<=n0/\(∀ t,(A t).Ok (·<m))/\∀ t,Xn c false (A t) (r.tmps.getD t undef)
theorem Xnu.lt {n0:Nat} {c:Ctx} {b:Nat} {x:MuE} (h:Xnu n0 c b x):b<c.w.heap.size:=by
 cases x with
 |map l=>exact X97.lt h
 |mark=>exact(Array.getElem?_eq_some_iff.1 h).1
 |blk o=>exact(Array.getElem?_eq_some_iff.1 h).1
 |loop r nt m A=>exact(Array.getElem?_eq_some_iff.1 h.1.1).1
theorem Xnu.le {n0:Nat} {c c':Ctx} {b:Nat} {x:MuE} (h:Xnu n0 c b x) (hb:c'.w.heap[b]?=c.w.heap[b]?) (hle:c.Le (·<n0) c'):Xnu n0 c' b x:=by
 cases x with
 |map l=>obtain⟨es,clock,h1,h2⟩:=h;exact⟨es,clock,hb.trans h1,h2⟩
 |mark=>exact hb.trans h
 |blk o=>exact hb.trans h
 |loop r nt m A=>exact⟨⟨hb.trans h.1.1,h.1.2⟩,h.2.1,h.2.2.1,λt=>(h.2.2.2 t).mono hle (.inr ((h.2.2.1 t).mono λq hq=>Nat.lt_of_lt_of_le hq h.2.1))⟩
def Xkv:Mu->List Deferred
 |[]=>[]
 |(D,.mark)::μ=>{ target:=.collected D,args:=#[] }::Xkv μ
 |(_,.map _)::μ=>Xkv μ
 |(_,.blk _)::μ=>Xkv μ
 |(_,.loop ..)::μ=>Xkv μ
def Xav:Mu->Bool
 |[]=>true
 |(_,.loop ..)::_=>false
 |(_,.mark)::μ=>Xav μ
 |(_,.map _)::μ=>Xav μ
 |(_,.blk _)::μ=>Xav μ
def Xrp (c0:Ctx) (H0:Xh) (b:Nat):Prop:=c0.B<=b/\(c0.w.heap.size<=b\/∃ o x,H0 o=some x/\(c0.ρ o).blk=b)
theorem Xrp.no {c0:Ctx} {H0:Xh} {b:Nat} (h:Xrp c0 H0 b) (h1:b<c0.w.heap.size) (h2:∀ o x,H0 o=some x->(c0.ρ o).blk≠b):False :=
 h.2.elim (λh=>by omega) λ⟨o,x,h3,h4⟩=>h2 o x h3 h4
structure MOk (n0:Nat) (c0:Ctx) (H0:Xh) (c:Ctx) (H:Xh) (μ:Mu) (act:Act):Prop where
 is:∀ p∈μ,Xnu n0 c p.1 p.2
 away:∀ p∈μ,¬ c.Sa p.1/\¬ c.So p.1/\(∀ o x,H o=some x->(c.ρ o).blk≠p.1)/\Xrp c0 H0 p.1
 nodup:(μ.map (·.1)).Nodup
 ds:act.defers=Xkv μ
theorem MOk.nil {n0:Nat} {c0 c:Ctx} {H0 H:Xh} {act:Act} (h:act.defers=[]):MOk n0 c0 H0 c H [] act:=⟨(λ_ h=>by cases h),(λ_ h=>by cases h),List.nodup_nil,h⟩
theorem MOk.kept {c0 c c':Ctx} {H0 H H':Xh} {n0:Nat} {μ:Mu} {act act':Act} (h:MOk n0 c0 H0 c H μ act) (r:Reach c H n0 c' H') (hd:act'.defers=act.defers:=by first|rfl|exact put_defers _ _ _):MOk n0 c0 H0 c' H' μ act':=by
 have hlt:∀ p∈μ,p.1<c.w.heap.size:=λp hp=>(h.is p hp).lt;have hb:∀ p∈μ,c'.w.heap[p.1]?=c.w.heap[p.1]?:=λp hp=>r.block _ (hlt p hp) (h.away p hp).2.2.1;refine⟨λp hp=>(h.is p hp).le (hb p hp) r.le,λp hp=>?_,h.nodup,hd.trans h.ds⟩;obtain⟨a1,a2,a3,a4⟩:=h.away p hp;refine⟨by rw[r.sa];exact a1,λhs=>?_,λo x hx he=>?_,a4⟩
 ·rcases r.so2 _ hs with h1|h1|⟨o,x,h1,h2⟩
  ·exact a2 h1
  ·have:=hlt p hp;omega
  ·exact a3 o x h1 h2
 ·rcases r.own o x hx with h1|⟨o',x',h1,h2⟩
  ·have:=hlt p hp;omega
  ·exact a3 o' x' h1 (h2.trans he)
theorem MOk.act {n0:Nat} {c0 c:Ctx} {H0 H:Xh} {μ:Mu} {act act':Act} (h:MOk n0 c0 H0 c H μ act) (hd:act'.defers=act.defers:=by first|rfl|exact put_defers _ _ _):MOk n0 c0 H0 c H μ act':=⟨h.is,h.away,h.nodup,hd.trans h.ds⟩
theorem Reach.trans {c0 c c':Ctx} {H0 H H':Xh} {n0:Nat} (h:Reach c0 H0 n0 c H) (k:Reach c H n0 c' H'):Reach c0 H0 n0 c' H':=by
 refine⟨λo ho=>(k.rho o ho).trans (h.rho o ho),k.os.trans h.os,k.tape.trans h.tape,⟨k.output.1.trans h.output.1,Nat.le_trans h.output.2 k.output.2⟩,Nat.le_trans h.size k.size,?_,?_,k.sa.trans h.sa,λb hb=>k.so1 b (h.so1 b hb),?_,k.B.trans h.B,?_⟩
 ·intro b hb hn;rw[k.block b (Nat.lt_of_lt_of_le hb h.size) ?_]
  ·exact h.block b hb hn
  ·intro o x hx he;rcases h.own o x hx with h1|⟨o',x',h1,h2⟩
   ·omega
   ·exact hn o' x' h1 (h2.trans he)
 ·intro b hb;rw[k.stable b (hb.imp (λx=>by rw[h.sa];exact x) (h.so1 b))];exact h.stable b hb
 ·intro b hb;rcases k.so2 b hb with h1|h1|⟨q,y,h1,h2⟩
  ·exact h.so2 b h1
  ·exact .inr (.inl (Nat.le_trans h.size h1))
  ·rcases h.own q y h1 with h3|⟨q',y',h3,h4⟩
   ·exact .inr (.inl om)
   ·exact .inr (.inr ⟨q',y',h3,h4.trans h2⟩)
 ·intro o x hx;rcases k.own o x hx with h1|⟨q,y,h1,h2⟩
  ·exact .inl (Nat.le_trans h.size h1)
  ·rw[<-h2];exact h.own q y h1
theorem X0b.rebase {nt n0:Nat} {c0 c:Ctx} {H0:Xh} {s:St} {act:Act} (g:X0b nt c0 H0 n0 c s act):X0b nt c s.H n0 c s act :=
 ⟨g.inv,g.solo,g.frame,g.ok,g.size,.refl _ _ _,g.le0⟩
theorem X0b.join {nt n0:Nat} {c0 c c':Ctx} {H0 H:Xh} {s:St} {act:Act} (r:Reach c0 H0 n0 c H) (g:X0b nt c H n0 c' s act):X0b nt c0 H0 n0 c' s act :=
 ⟨g.inv,g.solo,g.frame,g.ok,g.size,r.trans g.reach,g.le0⟩
def MQ (nt:Nat) (c0:Ctx) (H0:Xh) (n0:Nat) (Q:Xc->St->Mu->Prop):Exit->Act->World->Prop :=
 λe act w=>∃ c s ae μ,c.w=w/\X0b nt c0 H0 n0 c s act/\MOk n0 c0 H0 c s.H μ act/\ae.of=e/\Q ae s μ
def X0c (P:Program) (nt n0:Nat) (code:Code) (Q:Xc->St->Mu->Prop) (s:St) (μ:Mu):Prop :=
 ∀ (c0:Ctx) (H0:Xh) (c:Ctx) (act:Act),X0b nt c0 H0 n0 c s act->MOk n0 c0 H0 c s.H μ act->∀ R,RG code R->wpR R P code (MQ nt c0 H0 n0 Q) act c.w
def X0j (P:Program) (nt n0:Nat) (ops:Array Oper) (l:List Oper) (K:St->Mu->Prop) (s:St) (μ:Mu):Prop :=
 ∀ (c0:Ctx) (H0:Xh) (c:Ctx) (act:Act),X0b nt c0 H0 n0 c s act->MOk n0 c0 H0 c s.H μ act->∀ Qx:Exit->Act->World->Prop,
  (∀ c' s' act' μ',X0b nt c0 H0 n0 c' s' act'->MOk n0 c0 H0 c' s'.H μ' act'->K s' μ'->Qx .normal act' c'.w)->∀ R,(R=none->Xav μ=true)->X2u R P ops Qx l act c.w
section
variable {P:Program} {nt n0:Nat} {s:St} {μ:Mu} {Q:Xc->St->Mu->Prop}
theorem X0c.of {code:Code} (h:X21 P nt n0 code (λe s'=>Q e s' μ) s):X0c P nt n0 code Q s μ:=by
 intro c0 H0 c act g hm R hR;refine wpIn_mono (h c s.H c act g.rebase R hR) ?_;rintro e a w ⟨c',s',ae,rfl,g2,hd,rfl,hq⟩;exact⟨c',s',ae,μ,rfl,.join g.reach g2,hm.kept g2.reach hd,rfl,hq⟩
theorem X0c.mono {code:Code} {Q':Xc->St->Mu->Prop} (h:X0c P nt n0 code Q s μ) (hq:∀ e s μ,Q e s μ->Q' e s μ):X0c P nt n0 code Q' s μ :=
 λc0 H0 c act g hm R hR=>wpIn_mono (h c0 H0 c act g hm R hR) (λ_ _ _ ⟨c,s,ae,μ,h1,h2,h3,h4,h5⟩=>⟨c,s,ae,μ,h1,h2,h3,h4,hq _ _ _ h5⟩)
theorem X0c.skip (h:Q .normal s μ):X0c P nt n0 .skip Q s μ:=.of (.skip h)
theorem X0c.label {l:Nat} (h:Q .normal s μ):X0c P nt n0 (.label l) Q s μ:=.of (.label h)
theorem X0c.exit {id:Nat} (h:Q (.exit id) s μ):X0c P nt n0 (.exit id) Q s μ:=.of (.exit h)
theorem X0c.ret (h:Q .ret s μ):X0c P nt n0 .ret Q s μ:=.of (.ret h)
def Xy9 (P:Program) (nt n0:Nat) (y:Code) (Q:Xc->St->Mu->Prop):Xc->St->Mu->Prop
 |.normal,s,μ=>X0c P nt n0 y Q s μ
 |e,s,μ=>Q e s μ
theorem X0c.seq {x y:Code} (h:X0c P nt n0 x (Xy9 P nt n0 y Q) s μ):X0c P nt n0 (.seq x y) Q s μ:=by
 intro c0 H0 c act g hm R hR;refine wpIn_seq (wpIn_mono (h c0 H0 c act g hm R hR.seq1) ?_);rintro e a w ⟨c',s',ae,μ',rfl,g',hm',rfl,hq⟩
 cases ae with
 |normal=>exact hq c0 H0 c' a g' hm' R hR.seq2
 |exit id=>exact⟨c',s',.exit id,μ',rfl,g',hm',rfl,hq⟩
 |ret=>exact⟨c',s',.ret,μ',rfl,g',hm',rfl,hq⟩
theorem X0c.cond {x:Operand} {a b:Code} {t:Bool} (hx:evA s.A x=.sc (.bool t)) (ht:t=true->X0c P nt n0 a Q s μ) (hf:t=false->X0c P nt n0 b Q s μ):X0c P nt n0 (.cond x a b) Q s μ:=by
 intro c0 H0 c act g hm R hR;have h1:=g.ev x;rw[hx] at h1;exact wpIn_cond_split h1.sc_inv (λh=>ht h c0 H0 c act g hm R hR.cond1) (λh=>hf h c0 H0 c act g hm R hR.cond2)
def X2m (id:Nat) (Q:Xc->St->Mu->Prop):Xc->St->Mu->Prop
 |.exit id',s,μ=>bif Nat.beq id' id then Q .normal s μ else Q (.exit id') s μ
 |e,s,μ=>Q e s μ
theorem X0c.block {id:Nat} {code:Code} (h:X0c P nt n0 code (X2m id Q) s μ):X0c P nt n0 (.block id code) Q s μ:=by
 intro c0 H0 c act g hm R hR;refine wpIn_block (wpIn_mono (h c0 H0 c act g hm R hR.block) ?_);rintro e a w ⟨c',s',ae,μ',rfl,g',hm',rfl,hq⟩
 cases ae with
 |normal=>exact⟨c',s',.normal,μ',rfl,g',hm',rfl,hq⟩
 |exit id' =>
  simp only[X2m] at hq;simp only[Xc.of,Exit.inBlock];by_cases he:id'=id
  ·subst he;simp only[Nat.beq_refl,cond_true] at hq;rw[if_pos rfl];exact⟨c',s',.normal,μ',rfl,g',hm',rfl,hq⟩
  ·have:Nat.beq id' id=false:=by rw[<-Bool.not_eq_true,Nat.beq_eq];exact he
   rw[this,cond_false] at hq;rw[if_neg he];exact⟨c',s',.exit id',μ',rfl,g',hm',rfl,hq⟩
 |ret=>exact⟨c',s',.ret,μ',rfl,g',hm',rfl,hq⟩
theorem X0c.scope {code:Code} (h:X0c P nt n0 code Q s μ):X0c P nt n0 (.scope code) Q s μ:=by
 intro c0 H0 c act g hm R hR;have hR2:=hR.scope;obtain rfl:=hR rfl;refine X3w.2 (wp_scope_straight (Code.wp_mono ?_ (X3w.1 (h c0 H0 c act g hm none hR2))));rintro e a w ⟨c',s',ae,μ',rfl,g',hm',rfl,hq⟩
 cases ae with
 |normal=>exact⟨c',s',.normal,μ',rfl,g',hm',rfl,hq⟩
 |exit id=>exact⟨c',s',.exit id,μ',rfl,g',hm',rfl,hq⟩
 |ret=>exact⟨c',s',.ret,μ',rfl,g',hm',rfl,hq⟩
theorem MOk.weak {c0 c c':Ctx} {H0:Xh} {s s':St} {θ:Nat->Nat} {act:Act} (hw:Xd0 θ n0 s s') (hc:c'={ c with ρ:=λo=>c.ρ (θ o) }) (h:MOk n0 c0 H0 c s.H μ act):MOk n0 c0 H0 c' s'.H μ act:=by
 subst hc;refine⟨λp hp=>(h.is p hp).le rfl ⟨λo ho=>?_,λ_ hb=>hb,λ_ hb=>hb,λ_ _=>rfl,rfl⟩,λp hp=>?_,h.nodup,h.ds⟩
 ·show c.ρ (θ o)=c.ρ o;rw[hw.fix o ho]
 obtain⟨a1,a2,a3,a4⟩:=h.away p hp;refine⟨a1,a2,λo x' hx'=>?_,a4⟩;obtain⟨x,hx,_⟩:=hw.heap o x' hx';exact a3 _ x hx
end
end Go.Av


namespace Go.Av
variable [Gls]
section
variable {P:Program} {T:Ty} {c:Ctx} {H:Xh} {M:Nat->Prop} {ev:Operand->AV} {σ:Operand->Value}
theorem Xr8 (hT:X1h P T) (hI:Inv c H M) (hE:∀ x,Xn c false (ev x) (σ x)) {d x:Operand} {t t':Nat} {o off len:Nat} {y:Obj} {xs:List AV} {te:TI} {ti:TI} {et:Nat} (ty:TypeId)
  (hd:ev d=.ref o off len) (hH:H o=some y) (hs:y.solo=true) (hle:off+len<=y.es.length) (hx:Xae H (ev x) xs) (hn0:min xs.length len≠0)
  (ht:T t=some ti) (hk:ti.kind=.slice et) (hte:T et=some te) (hsz:∀ e∈xs,e.cells.length=te.size) (hes:y.esz=te.size) :
  ∃ c',(Builtin.copy_ #[t,t'] ty #[σ d,σ x]).run P c.w=.ok (goInt (min xs.length len)) c'.w/\c.Le M c'/\c'.Sa=c.Sa/\c'.So=c.So /\
   Inv c' (upd H o (some { y with es:=splice y.es off (xs.take (min xs.length len)) })) M/\Fr c H c'.w/\X37 c H c' (upd H o (some { y with es:=splice y.es off (xs.take (min xs.length len)) })):=by
 have hdv:=hE d;rw[hd] at hdv;obtain⟨hdv,_⟩:=hdv.ref_inv;have hne:xs≠[]:=λh=>by subst h;simp at hn0
 obtain⟨b,so,cap,esz,hsv,hcells⟩:=Xao hI hx (hE x) hne;obtain⟨hMo,⟨⟨cur,hcb,hcs,hcc⟩,hfits,hpos',hsame⟩,hoks⟩:=hI.obj o y hH;have hesz:esz=te.size:=by
  obtain⟨e,he⟩:=List.exists_mem_of_ne_nil xs hne;obtain⟨i,hi⟩:=List.getElem?_of_mem he;rw[<-(hcells i e hi).1,hsz e he]
 have hρ:(c.ρ o).esz=te.size:=by rw[<-hsame,hes]
 subst hesz;have htake:∀ (i:Nat) e,(xs.take (min xs.length len))[i]?=some e->e.cells.length=te.size/\EAt c M e b (so+i*te.size):=by
  intro i e he;rw[List.getElem?_take] at he;split at he
  ·exact hcells i e he
  ·cases he
 have hlt:(xs.take (min xs.length len)).length=min xs.length len:=by simp
 obtain⟨news,hnl,hnc,hn1,hnr⟩:=X8g om htake;rw[hlt] at hnl;have hbound:(off+min xs.length len)*(c.ρ o).esz<=(c.ρ o).cap*(c.ρ o).esz:=Nat.mul_le_mul_right _ om;rw[Nat.add_mul,hρ] at hbound;have hl:=run_loadCells_list (P:=P) c.w ⟨b,so,none⟩ news hnc;rw[hnl] at hl;have hst:=run_storeCells_at P (c.ρ o).blk (off*te.size) (c.ρ o).ety news 0 cur c.w hcb (by rw[hnl,hcs,hρ];omega) hn1;simp only[Nat.add_zero] at hst;let new:Array Value:=(cur.toList.take (off*te.size)++news++cur.toList.drop (off*te.size+news.length)).toArray
 have hrun:(Builtin.copy_ #[t,t'] ty #[σ d,σ x]).run P c.w=.ok (goInt (min xs.length len)) (c.w.setRow (c.ρ o).blk new):=by
  rw[hdv,hsv,hρ];obtain⟨i,dd,hi,hu,_,_,hsi,_⟩:=Xr (hT et te hte);have hu':=Xw (hT t ti ht) hk;have hmin:Nat.min xs.length len=min xs.length len:=rfl;rw[hsi] at hl hst;simp[Builtin.copy_,run_underlying hu',Builtin.lenOf,Builtin.firstCells,Go.sizeOf,typeInfo,hi,hsi,hmin,hl,hst,new];exact congrArg goInt om
 have hnsz:new.size=cur.size:=by
  simp only[new,List.size_toArray,List.length_append,List.length_take,List.length_drop,Array.length_toList,hnl];rw[hcs,hρ];omega
 have hget:∀ j,new[j]?=if off*te.size<=j/\j<off*te.size+min xs.length len*te.size then news[j - off*te.size]? else cur[j]?:=by
  intro j;simp only[new,List.append_assoc,List.getElem?_toArray];rw[List.getElem?_append,List.getElem?_append];simp only[List.length_take,Array.length_toList,Nat.min_eq_left (show off*te.size<=cur.size by rw[hcs,hρ];omega)];by_cases h1:j<off*te.size
  ·rw[if_pos h1,if_neg om,List.getElem?_take,if_pos h1];simp
  ·rw[if_neg h1];by_cases h2:j - off*te.size<news.length
   ·rw[if_pos h2,if_pos om]
   ·rw[if_neg h2,if_neg om,List.getElem?_drop];simp only[Array.getElem?_toList];congr 1;omega
 have hsp:off+(xs.take (min xs.length len)).length<=y.es.length:=by rw[hlt];omega
 have hw:=Xat hI hH hs hcb hnsz (es':=splice y.es off (xs.take (min xs.length len))) ?_ ?_
 ·obtain⟨g1,g2,g3,g4⟩:=hw;exact⟨_,hrun,g1,rfl,rfl,g2,g3,g4⟩
 ·unfold splice;simp only[List.length_append,List.length_take,List.length_drop];omega
 ·intro i e he;rw[getElem?_splice hsp,hlt] at he;rw[hρ];by_cases h1:off<=i/\i<off+min xs.length len
  ·rw[if_pos h1] at he;refine⟨(htake _ e he).1,λk a ha=>?_⟩;obtain⟨h3,v,h4,h5,h6⟩:=hnr _ e k a he ha;have hk':k<te.size:=by rw[<-(htake _ e he).1];exact(List.getElem?_eq_some_iff.1 ha).1
   have hm1:(i - off)*te.size+off*te.size=i*te.size:=by rw[<-Nat.add_mul];congr 1;omega
   have hm2:(i - off+1)*te.size<=min xs.length len*te.size:=Nat.mul_le_mul_right _ om;rw[Nat.add_mul] at hm2;refine⟨h3,v,?_,h5,h6⟩;rw[hget,if_pos om,<-h4];congr 1;omega
  ·rw[if_neg h1] at he;obtain⟨g1,g2⟩:=hcc i e he;rw[hρ] at g1;refine⟨g1,λk a ha=>?_⟩;obtain⟨v,h3,h4,h5⟩:=g2 k a ha;rw[hρ] at h3;have hk':k<te.size:=by rw[<-g1];exact(List.getElem?_eq_some_iff.1 ha).1
   refine⟨hoks e (List.mem_of_getElem? he) a (List.mem_of_getElem? ha),v,?_,h4,h5⟩;rw[hget,if_neg ?_]
   ·exact h3
   ·by_cases h2:i<off
    ·have:(i+1)*te.size<=off*te.size:=Nat.mul_le_mul_right _ h2;rw[Nat.add_mul] at this;omega
    ·have:(off+min xs.length len)*te.size<=i*te.size:=Nat.mul_le_mul_right _ om;rw[Nat.add_mul] at this;omega
end
end Go.Av


namespace Go.Av
variable [Gls]
section
variable {P:Program} {T:Ty} {nt:Nat} {o:Oper} {s:St}
theorem OpR.copy (hT:X1h P T) {d x:Operand} {t t' q off len:Nat} {y:Obj} {xs:List AV} {te:TI} {ti:TI} {et:Nat} (ho:o.op=.call { callee:=.builtin .copy,args:=#[d,x],argTypes:=#[t,t'] })
  (hd:evA s.A d=.ref q off len) (hH:s.H q=some y) (hle:off+len<=y.es.length) (hx:Xae s.H (evA s.A x) xs) (hn0:min xs.length len≠0)
  (ht:T t=some ti) (hk:ti.kind=.slice et) (hte:T et=some te) (hsz:∀ e∈xs,e.cells.length=te.size) (hes:y.esz=te.size) :
  OpR P nt o s (λa' H' n'=>a'=.sc (goInt (min xs.length len))/\H'=upd s.H q (some { y with es:=splice y.es off (xs.take (min xs.length len)) })/\n'=s.n):=by
 intro c0 H0 n0 c act g K Q hK R;obtain⟨c',h1,hle',hsa,hso,hI,hfr,hown⟩:=Xr8 (σ:=act.eval) hT g.inv g.ev o.type hd hH (g.solo q y hH).1 hle hx hn0 ht hk hte hsz hes (t':=t');have hrun:(execOp act.eval o).run P c.w=.ok (.value (goInt (min xs.length len))) c'.w:=by
  simp[execOp,ho,resolve,invoke,builtin,h1]
 refine Oper.wpR (λd hd=>by rw[hd] at ho;cases ho) ?_;unfold Oper.wp;rw[hrun];have hs:∀ r z,upd s.H q (some { y with es:=splice y.es off (xs.take (min xs.length len)) }) r=some z->z.solo=true/\z.spent=false:=by
  intro r z hz;by_cases hr:r=q
  ·subst hr;rw[X7] at hz;cases hz;exact g.solo r y hH
  ·rw[X5 _ _ hr] at hz;exact g.solo r z hz
 exact hK c' _ _ _ _ ⟨rfl,rfl,rfl⟩ λdst hd=>g.next hd hle' hsa (λb hb=>.inl (by rw[hso] at hb;exact hb)) hfr hown hI hs (Nat.le_refl _) .sc .sc
end
end Go.Av


namespace Go.Av
variable [Gls]
section
variable {P:Program} {T:Ty} {nt:Nat} {o:Oper} {s:St}
theorem OpR.copy0 (hT:X1h P T) {d x:Operand} {t t' n1 n2:Nat} {te:TI} {ti:TI} {et:Nat} (ho:o.op=.call { callee:=.builtin .copy,args:=#[d,x],argTypes:=#[t,t'] })
  (hd:X9z (evA s.A d)=some n1) (hd':∀ u,evA s.A d≠.sc (.string u)) (hx:X9z (evA s.A x)=some n2) (hx':∀ u,evA s.A x≠.sc (.string u)) (hn0:min n2 n1=0)
  (ht:T t=some ti) (hk:ti.kind=.slice et) (hte:T et=some te):OpR P nt o s (λa' H' n'=>a'=.sc (goInt 0)/\H'=s.H/\n'=s.n):=by
 intro c0 H0 n0 c act g K Q hK R;obtain⟨p1,q1,h1⟩:=(g.ev d).len_inv hd hd';obtain⟨p2,q2,h2⟩:=(g.ev x).len_inv hx hx';have hmin:Nat.min n2 n1=0:=hn0;have hrun:(execOp act.eval o).run P c.w=.ok (.value (goInt 0)) c.w:=by
  have hu:=Xw (hT t ti ht) hk;cases p1<;>cases p2 <;>
   simp[execOp,ho,resolve,invoke,builtin,Builtin.copy_,h1,h2,run_underlying hu,Builtin.lenOf,hmin,Xq c.w (hT et te hte),Builtin.firstCells,loadCells,loadCellsFrom,storeCells]<;>(try omega)
 refine Oper.wpR (λd hd=>by rw[hd] at ho;cases ho) ?_;unfold Oper.wp;rw[hrun];exact hK c _ _ _ _ ⟨rfl,rfl,rfl⟩ λdst hd=>g.next hd (.refl c) rfl (λb hb=>.inl hb) (.refl c s.H) (λq x hx=>.inr ⟨q,x,hx,rfl⟩) g.inv g.solo (Nat.le_refl _) .sc .sc
end
end Go.Av


namespace Go.Av
variable [Gls]
def Xwj (ev:Operand->AV) (c a b:Operand):Option AV :=
 match ev c with
 |.sc (.bool true)=>some (ev a)
 |.sc (.bool false)=>some (ev b)
 |_=>none
def Xtk (ti:TI) (H:Xh) (p:AV):Option AV :=
 match X9p H p with
 |some (e,k)=>X5o ti e k
 |none=>none
def Xwk (T:Ty) (ev:Operand->AV) (H:Xh) (t:Nat) (x:Operand):Option AV :=
 match T t with
 |some ti=>Xtk ti H (ev x)
 |none=>none
def qNil:AV->Option AV
 |.ptr o i k=>some (.ptr o i k)
 |.elem own e k=>some (.elem own e k)
 |.fn f caps=>some (.fn f caps)
 |_=>none
def Xbu (off:Nat):AV->Option AV
 |.ptr o i k=>some (.ptr o i (k+off))
 |.elem own e k=>some (.elem own e (k+off))
 |_=>none
def Xdo (T:Ty) (ev:Operand->AV) (s:Nat) (x:Operand) (f:Nat):Option AV :=
 match X5j T s f with
 |some (off,tf)=>if tf.size≠0 then Xbu off (ev x) else none
 |none=>none
def Xh7 (T:Ty) (ev:Operand->AV) (s:Nat) (x:Operand) (f:Nat):Option AV :=
 match X5j T s f with
 |some (off,tf)=>match ev x with
  |.agg cs=>eqT.partA tf cs off
  |_=>none
 |none=>none
def X6v (T:Ty) (ev:Operand->AV) (H:Xh) (t:Nat) (x ix:Operand):Option AV :=
 match ev ix with
 |.sc (.int _ i)=>if 0<=i then ixF T H t (ev x) i else none
 |_=>none
def Xtl (T:Ty) (ev:Operand->AV) (t:Nat) (x ix:Operand):Option AV :=
 match ev ix with
 |.sc (.int _ i)=>if 0<=i then (match ev x with
  |.agg cs=>match X8l T t with
   |some (n,te)=>if i<n then eqT.partA te cs (i.toNat*te.size) else none
   |none=>none
  |_=>none) else none
 |_=>none
def Xlv (ev:Operand->AV) (x:Operand) (i:Nat):Option AV :=
 match ev x with
 |.tup cs=>cs[i]?
 |_=>none
def Xwm (x:AV):Option AV :=
 match x with
 |.list _ es=>some (.sc (.int .i64 es.length))
 |.ref _ _ n=>some (.sc (.int .i64 n))
 |.nils=>some (.sc (.int .i64 (0:Nat)))
 |_=>none
def Xwl (x:AV):Option AV :=
 match x with
 |.sc (.string s)=>some (.sc (.int .i64 s.size))
 |_=>none
def qLen (T:Ty) (ev:Operand->AV) (x:Operand) (t:Nat):Option AV :=
 match T t with
 |some ti=>match ti.kind with
  |.slice _=>Xwm (ev x)
  |.string=>Xwl (ev x)
  |.array n _=>some (.sc (.int .i64 n))
  |_=>none
 |none=>none
def Xtm (T:Ty) (ev:Operand->AV) (t:Nat) (ps:Array (Nat×Operand)):Option AV :=
 match T t with
 |some ti=>match X05 ti.zero with
  |.agg cs=>match ti.kind with
   |.struct fs=>if fs.all (λp=>(T p.2).isSome) then (match X7i (λi=>(fs[i]?).map λp=>(p.1,((T p.2).map (·.size)).getD 0)) cs (ps.toList.map λp=>(p.1,ev p.2)) with
    |some r=>some (.agg r)
    |none=>none) else none
   |.array _ et=>match T et with
    |some te=>match X7i (λi=>some (i*te.size,te.size)) cs (ps.toList.map λp=>(p.1,ev p.2)) with
     |some r=>some (.agg r)
     |none=>none
    |none=>none
   |_=>none
  |_=>none
 |none=>none
def qPu (T:Ty) (ev:Operand->AV) (H:Xh) (op:Op):Option AV :=
 match op with
 |.move x=>some (ev x)
 |.assign x=>some (ev x)
 |.pick c a b=>Xwj ev c a b
 |.load t x=>Xwk T ev H t x
 |.nilCheck x=>qNil (ev x)
 |.binOp op t x y _=>Xv7 T op t (ev x) (ev y)
 |.unOp op _ x=>unF op (ev x)
 |.convert src dst x=>Xmv T src dst (ev x)
 |.fieldAddr s x f=>Xdo T ev s x f
 |.field s x f=>Xh7 T ev s x f
 |.indexAddr t x ix=>X6v T ev H t x ix
 |.index t x ix=>Xtl T ev t x ix
 |.extract x i=>Xlv ev x i
 |.build t ps=>Xtm T ev t ps
 |.slice t x lo hi mx=>puF T ev H (.slice t x lo hi mx)
 |.makeFunc f ts caps=>puF T ev H (.makeFunc f ts caps)
 |.call c=>match c.callee with
  |.builtin .len=>match c.args.toList,c.argTypes.toList with
   |[x],[t]=>qLen T ev x t
   |_,_=>none
  |.builtin .append=>none
  |.builtin _=>puF T ev H (.call c)
  |_=>none
 |_=>none
theorem X5g {T:Ty} {ev:Operand->AV} {H:Xh} {op:Op} {a:AV} (h:qPu T ev H op=some a):Pu T ev H op a:=by
 refine X5h ?_;unfold qPu at h;split at h
 all_goals first
  |exact h
  |skip
 ·rename_i c;obtain⟨callee,args,ts⟩:=c;simp only at h;split at h
  ·split at h
   ·rename_i x t ha ht;obtain⟨l⟩:=args;obtain⟨m⟩:=ts;simp only at ha ht;subst ha ht;exact h
   ·cases h
  ·cases h
  ·exact h
  ·cases h
 ·cases h
end Go.Av


namespace Go.Av
variable [Gls]
def hp:List (Nat×Obj)->Xh
 |[],_=>none
 |(d,x)::l,o=>bif Nat.beq o d then (bif x.gone then none else some x) else hp l o
theorem Xa1:∀ {G:List (Nat×Obj)} {o:Nat} {y:Obj},hp G o=some y->y.gone=false:=by
 intro G
 induction G with
 |nil=>intro o y h;cases h
 |cons p l ih =>
  intro o y h;obtain⟨d,x⟩:=p;simp only[hp] at h
  cases hb:Nat.beq o d with
  |false=>rw[hb] at h;exact ih h
  |true =>
   rw[hb,cond_true] at h
   cases hg:x.gone with
   |true=>rw[hg] at h;cases h
   |false=>rw[hg] at h;cases h;exact hg
inductive X11 where
 |el (e:AV)
 |ld (e:AV)
 |no
 |pure (bs:List AV) (r:AV)
 |call (r:AV) (G:List (Nat×Obj)) (n:Nat)
 |go (b:Bool)
 |br (b:Bool)
 |ne (b:Bool)
 |wrap
 |ix (j:Nat)
 |stop (j:Nat)
 |via (a:AV)
 |trunc (o:Nat) (es:List AV)
 |see (l:List (Nat×List Nat))
def X0w:List Prop->Prop
 |[]=>True
 |p::r=>p/\X0w r
theorem Xl {a b:List Prop}:X0w (a++b)↔X0w a/\X0w b:=by
 induction a with
 |nil=>simp[X0w]
 |cons p a ih=>simp[X0w,ih,and_assoc]
def Xal (g:Bool):List Prop->List Prop
 |[]=>[]
 |p::r=>(g=true->p)::Xal g r
theorem X7z {g:Bool} {l:List Prop} (h:X0w (Xal g l)) (hg:g=true):X0w l:=by
 induction l with
 |nil=>trivial
 |cons p l ih=>exact⟨h.1 hg,ih h.2⟩
def X48 (v:Value):AV :=
 match v with
 |.agg ⟨vs⟩=>match vs.all (λv=>v.oneCell') with
  |true=>.agg (vs.map X78)
  |false=>.sc (.agg ⟨vs⟩)
 |v=>X78 v
theorem X2y (v:Value):X48 v=X05 v:=by
 cases v with
 |agg vs =>
  obtain⟨vs⟩:=vs;simp only[X48,X05];have h1:(Array.all ⟨vs⟩ λv=>v.oneCell')=vs.all λv=>v.oneCell':=by simp
  rw[h1];cases vs.all λv=>v.oneCell'<;>rfl
 |_=>rfl
def rdA (a:AV):AV×List Prop :=
 match a with
 |.cond g v=>(v,[g=true])
 |.junk=>(.junk,[])
 |.sc v=>(.sc v,[])
 |.nils=>(.nils,[])
 |.agg cs=>(.agg cs,[])
 |.tup cs=>(.tup cs,[])
 |.list o es=>(.list o es,[])
 |.ref o f l=>(.ref o f l,[])
 |.ptr o i n=>(.ptr o i n,[])
 |.elem o e n=>(.elem o e n,[])
 |.fn f cs=>(.fn f cs,[])
 |.mref o m=>(.mref o m,[])
 |.mv f a=>(.mv f a,[])
theorem Xta {a b:AV} {ps:List Prop} (h:rdA a=(b,ps)) (hp:X0w ps):X0q a=b:=by
 cases a with
 |cond g v =>
  cases h
  simp only[X0w,and_true] at hp;simp[X0q,hp]
 |_=>cases h;rfl
def rd (L:List (Nat×AV)) (x:Operand):AV×List Prop :=
 match x with
 |.tmp t=>rdA (fr L t)
 |.const v=>(X48 v,[])
 |.global g=>(.sc (.pointer (some ⟨g,0,none⟩)),[])
 |.func f=>(.fn f [],[])
theorem Xp {L:List (Nat×AV)} {x:Operand} {a:AV} {ps:List Prop} (h:rd L x=(a,ps)) (hp:X0w ps):evA (fr L) x=a:=by
 unfold rd at h;split at h
 ·exact Xta h hp
 ·cases h;exact(X2y _).symm
 ·cases h;rfl
 ·cases h;rfl
def rds (L:List (Nat×AV)):List Operand->List AV×List Prop
 |[]=>([],[])
 |x::r=>match rd L x,rds L r with
  |(a,p),(l,q)=>(a::l,p++q)
theorem X84 {L:List (Nat×AV)}:∀ {xs:List Operand} {as:List AV} {ps:List Prop},rds L xs=(as,ps)->X0w ps->xs.map (evA (fr L))=as:=by
 intro xs
 induction xs with
 |nil=>intro as ps h _;simp[rds] at h;simp[<-h.1]
 |cons x r ih =>
  intro as ps h hp;simp only[rds] at h;cases h
  obtain⟨h1,h2⟩:=Xl.1 hp;simp only[List.map_cons];rw[Xp (a:=(rd L x).1) (ps:=(rd L x).2) rfl h1,ih (as:=(rds L r).1) (ps:=(rds L r).2) rfl h2]
def Xom {β:Type} (v:Value) (k:Value->Option β):Option β :=
 match v with
 |.int q z=>k (.int q z)
 |.bool b=>k (.bool b)
 |.string s=>k (.string s)
 |v=>k v
theorem Xi0 {β:Type} (v:Value) (k:Value->Option β):Xom v k=k v:=by cases v<;>rfl
def Xcr {β:Type} (a:AV) (k:AV->Option β):Option β :=
 match a with
 |.junk=>k .junk
 |.sc v=>Xom v λv=>k (.sc v)
 |.nils=>k .nils
 |.agg cs=>k (.agg cs)
 |.tup cs=>k (.tup cs)
 |.list o es=>k (.list o es)
 |.ref o f l=>k (.ref o f l)
 |.ptr o i n=>k (.ptr o i n)
 |.elem o e n=>k (.elem o e n)
 |.fn f cs=>k (.fn f cs)
 |.mref o m=>k (.mref o m)
 |.mv f a=>k (.mv f a)
 |.cond b v=>k (.cond b v)
theorem Xb4 {β:Type} (a:AV) (k:AV->Option β):Xcr a k=k a:=by cases a<;>simp[Xcr,Xi0]
def X71 {β:Type}:List AV->(List AV->Option β)->Option β
 |[],k=>k []
 |a::r,k=>Xcr a λa=>X71 r λr=>k (a::r)
theorem Xdv {β:Type}:∀ (l:List AV) (k:List AV->Option β),X71 l k=k l:=by
 intro l
 induction l with
 |nil=>intro k;rfl
 |cons a r ih=>intro k;simp[X71,Xb4,ih]
def Xcq {β:Type} (a:AV) (k:AV->Option β):Option β :=
 match a with
 |.agg cs=>X71 cs λcs=>k (.agg cs)
 |.tup cs=>X71 cs λcs=>k (.tup cs)
 |.fn f cs=>X71 cs λcs=>k (.fn f cs)
 |a=>Xcr a k
theorem Xb3 {β:Type} (a:AV) (k:AV->Option β):Xcq a k=k a:=by cases a<;>simp[Xcq,Xdv,Xb4]
def X6h {β:Type}:List AV->(List AV->Option β)->Option β
 |[],k=>k []
 |a::r,k=>Xcq a λa=>X6h r λr=>k (a::r)
theorem X4t {β:Type}:∀ (l:List AV) (k:List AV->Option β),X6h l k=k l:=by
 intro l
 induction l with
 |nil=>intro k;rfl
 |cons a r ih=>intro k;simp[X6h,Xb3,ih]
def X4v {β:Type} (a:AV) (k:AV->Option β):Option β :=
 match a with
 |.agg cs=>X6h cs λcs=>k (.agg cs)
 |.tup cs=>X6h cs λcs=>k (.tup cs)
 |a=>Xcq a k
theorem X1y {β:Type} (a:AV) (k:AV->Option β):X4v a k=k a:=by
 cases a<;>simp[X4v,X4t,Xb3]
abbrev PR:=Option (AV×List X11×List Prop)
def Xyi:List X11->Bool
 |.wrap::_=>true
 |_=>false
def Xmn (k:IntKind) (z:Int) (hs:List X11) (ps:List Prop):PR :=
 match hs with
 |.wrap::hs=>some (.sc (.int k (k.wrap z)),hs,ps)
 |hs=>some (.sc (.int k z),hs,(k.wrap z=z)::ps)
theorem X5t {k:IntKind} {z:Int} {hs hs':List X11} {ps ps':List Prop} {a:AV} (h:Xmn k z hs ps=some (a,hs',ps')) (hp:X0w ps'):a=.sc (.int k (k.wrap z))/\X0w ps:=by
 unfold Xmn at h;split at h
 ·cases h;exact⟨rfl,hp⟩
 ·cases h;exact⟨by rw[hp.1],hp.2⟩
def Xxy (T:Ty) (op:BinOp) (t:Nat) (x y:AV) (hs:List X11) (ps:List Prop):PR :=
 match op,x,y with
 |.add,.sc (.int k a),.sc (.int k' b)=>if k=k' then Xmn k (a+b) hs ps else none
 |.sub,.sc (.int k a),.sc (.int k' b)=>if k=k' then Xmn k (a - b) hs ps else none
 |.mul,.sc (.int k a),.sc (.int k' b)=>if k=k' then Xmn k (a*b) hs ps else none
 |.quo,.sc (.int k a),.sc (.int k' b)=>if k=k' then Xmn k (a.tdiv b) hs ((b≠0)::ps) else none
 |.rem,.sc (.int k a),.sc (.int k' b)=>if k=k' then some (.sc (.int k (a.tmod b)),hs,(b≠0)::ps) else none
 |.shl,.sc (.int k a),.sc (.int _ b)=>Xmn k (a*2 ^ (min b.toNat k.bits)) hs ((0<=b)::ps)
 |.shr,.sc (.int k a),.sc (.int _ b)=>some (.sc (.int k (a.fdiv (2 ^ (min b.toNat k.bits)))),hs,(0<=b)::ps)
 |op,x,y=>match Xv7 T op t x y with
  |some a=>some (a,hs,ps)
  |none=>none
theorem Xri {T:Ty} {ev:Operand->AV} {H:Xh} {op:BinOp} {t yt:Nat} {x y:Operand} {u v:AV} {hs hs':List X11} {ps ps':List Prop} {a:AV} (hx:X0w ps->ev x=u) (hy:X0w ps->ev y=v)
  (h:Xxy T op t u v hs ps=some (a,hs',ps')) (hp:X0w ps'):Pu T ev H (.binOp op t x y yt) a:=by
 unfold Xxy at h;split at h
 ·split at h
  ·rename_i hk;subst hk;obtain⟨rfl,h2⟩:=X5t h hp;exact .binInt (hx h2) (hy h2) rfl
  ·cases h
 ·split at h
  ·rename_i hk;subst hk;obtain⟨rfl,h2⟩:=X5t h hp;exact .binInt (hx h2) (hy h2) rfl
  ·cases h
 ·split at h
  ·rename_i hk;subst hk;obtain⟨rfl,h2⟩:=X5t h hp;exact .binInt (hx h2) (hy h2) rfl
  ·cases h
 ·split at h
  ·rename_i hk;subst hk;obtain⟨rfl,h2⟩:=X5t h hp;exact .quo (hx h2.2) (hy h2.2) h2.1
  ·cases h
 ·split at h
  ·rename_i hk;subst hk;cases h;exact .rem (hx hp.2) (hy hp.2) hp.1
  ·cases h
 ·obtain⟨rfl,h2⟩:=X5t h hp;exact .shl (hx h2.2) (hy h2.2) h2.1
 ·cases h;exact .shr (hx hp.2) (hy hp.2) hp.1
 ·split at h
  ·rename_i hb;cases h
   rw[<-hx hp,<-hy hp] at hb;exact Xiy hb
  ·cases h
def Xr9 (T:Ty) (src dst:Nat) (x:AV) (hs:List X11) (ps:List Prop):PR :=
 match x with
 |.sc (.int _ n)=>match T src with
  |some _=>match T dst with
   |some td=>match td.kind with
    |.int k'=>Xmn k' n hs ps
    |_=>none
   |none=>none
  |none=>none
 |x=>match Xmv T src dst x with
  |some a=>some (a,hs,ps)
  |none=>none
def unS (op:UnOp) (x:AV) (hs:List X11) (ps:List Prop):PR :=
 match op,x with
 |.neg,.sc (.int k n)=>Xmn k (0 - n) hs ps
 |.not,.sc (.bool b)=>some (.sc (.bool (!b)),hs,ps)
 |_,_=>none
def Xig (H:Xh) (p:AV) (hs:List X11) (ps:List Prop):Option (AV×Nat×List X11×List Prop) :=
 match p with
 |.elem _ e k=>some (e,k,hs,ps)
 |.ptr o i k=>match H o with
  |some y=>match hs with
   |.ld e::hs=>some (e,k,hs,(y.es[i]?=some e)::ps)
   |hs=>match y.es[i]? with
    |some e=>some (e,k,hs,ps)
    |none=>none
  |none=>none
 |_=>none
theorem Xif {H:Xh} {p e:AV} {k:Nat} {hs hs':List X11} {ps ps':List Prop} (h:Xig H p hs ps=some (e,k,hs',ps')) (hp:X0w ps'):Xbg H p e k/\X0w ps:=by
 unfold Xig at h;split at h
 ·cases h;exact⟨.elem,hp⟩
 ·split at h
  ·rename_i hH;split at h
   ·cases h;exact⟨.ptr hH hp.1,hp.2⟩
   ·split at h
    ·rename_i he;cases h;exact⟨.ptr hH he,hp⟩
    ·cases h
  ·cases h
 ·cases h
def ixS (T:Ty) (H:Xh) (t:Nat) (x:AV) (i:Int) (hs:List X11) (ps:List Prop):PR :=
 match x,hs with
 |.list own es,.el e::hs=>match X0e T t with
  |some te=>if e.cells.length=te.size then some (.elem own e 0,hs,(0<=i)::(es[i.toNat]?=some e)::ps) else none
  |none=>none
 |.ref o off len,.el e::hs=>match X0e T t with
  |some te=>match H o with
   |some y=>if e.cells.length=te.size then some (.ptr o (off+i.toNat) 0,hs,(0<=i)::(i<len)::(y.es[off+i.toNat]?=some e)::ps) else none
   |none=>none
  |none=>none
 |.ptr o j q,.ix m::hs=>match X8l T t with
  |some (n,te)=>some (.ptr o j (q+m*te.size),hs,(i=(m:Int))::(m<n)::ps)
  |none=>none
 |.elem own e q,.ix m::hs=>match X8l T t with
  |some (n,te)=>some (.elem own e (q+m*te.size),hs,(i=(m:Int))::(m<n)::ps)
  |none=>none
 |.ptr o j q,hs=>match X8l T t with
  |some (n,te)=>some (.ptr o j (q+i.toNat*te.size),hs,(0<=i)::(i<n)::ps)
  |none=>none
 |.elem own e q,hs=>match X8l T t with
  |some (n,te)=>some (.elem own e (q+i.toNat*te.size),hs,(0<=i)::(i<n)::ps)
  |none=>none
 |x,hs=>match ixF T H t x i with
  |some a=>some (a,hs,(0<=i)::ps)
  |none=>none
def bdS (L:List (Nat×AV)) (o:Option Operand) (d:Nat) (ps:List Prop):Option (Nat×List Prop) :=
 match o with
 |none=>some (d,ps)
 |some x=>match rd L x with
  |(.sc (.int _ z),qs)=>some (z.toNat,(0<=z)::(qs++ps))
  |_=>none
theorem X23 {L:List (Nat×AV)} {o:Option Operand} {d n:Nat} {ps ps':List Prop} (h:bdS L o d ps=some (n,ps')) (hp:X0w ps'):Bd (evA (fr L)) o d n/\X0w ps:=by
 unfold bdS at h;split at h
 ·cases h;exact⟨.dflt,hp⟩
 ·split at h
  ·rename_i hr;cases h
   obtain⟨h1,h2⟩:=hp;obtain⟨h3,h4⟩:=Xl.1 h2;exact⟨.given (Xp hr h3) h1,h4⟩
  ·cases h
def Xfc (T:Ty) (L:List (Nat×AV)) (H:Xh) (t:Nat) (x:AV) (lo hi:Option Operand) (hs:List X11) (ps:List Prop):PR :=
 match x with
 |.list own es=>match X0e T t with
  |some te=>match bdS L lo 0 ps with
   |some (l,ps)=>match bdS L hi es.length ps with
    |some (h,ps)=>match hs with
     |.via (.list _ es')::hs=>some (.list own es',hs,((es.drop l).take (h - l)=es')::(l<=h)::(h<=es.length)::(∀ e∈es,e.cells.length=te.size)::ps)
     |hs=>some (.list own ((es.drop l).take (h - l)),hs,(l<=h)::(h<=es.length)::(∀ e∈es,e.cells.length=te.size)::ps)
    |none=>none
   |none=>none
  |none=>none
 |.ref o off len=>match X0e T t with
  |some te=>match bdS L lo 0 ps with
   |some (l,ps)=>match bdS L hi len ps with
    |some (h,ps)=>match hs with
     |.ne false::hs=>some (.list true [],hs,(l=h)::(l<=len)::ps)
     |.via (.ref _ off' h')::hs=>match H o with
      |some y=>if y.esz=te.size then some (.ref o off' h',hs,(off+l=off')::(h - l=h')::(l<=h)::(l=0\/l<h)::(h<=len\/off+h<=y.es.length)::ps) else none
      |none=>some (.ref o off' h',hs,(off+l=off')::(h - l=h')::(l=0)::(h<=len)::ps)
     |hs=>match H o with
      |some y=>some (.ref o (off+l) (h - l),hs,(l<h)::(h<=len)::(∃ e∈y.es,e.cells.length=te.size)::ps)
      |none=>some (.ref o (off+l) (h - l),hs,(l=0)::(h<=len)::ps)
    |none=>none
   |none=>none
  |none=>none
 |.nils=>match X0e T t with
  |some _=>match bdS L lo 0 ps with
   |some (l,ps)=>match bdS L hi 0 ps with
    |some (h,ps)=>some (.nils,hs,(l=0)::(h=0)::ps)
    |none=>none
   |none=>none
  |none=>none
 |_=>none
theorem Xfb {T:Ty} {L:List (Nat×AV)} {H:Xh} {t:Nat} {x:Operand} {u:AV} {lo hi:Option Operand} {hs hs':List X11} {ps ps':List Prop} {a:AV} (hx:X0w ps->evA (fr L) x=u)
  (h:Xfc T L H t u lo hi hs ps=some (a,hs',ps')) (hp:X0w ps'):Pu T (evA (fr L)) H (.slice t x lo hi none) a:=by
 unfold Xfc at h;split at h
 ·split at h
  ·rename_i hs;obtain⟨ti,et,h1,h2,h3⟩:=Xs hs;split at h
   ·rename_i hl;split at h
    ·rename_i hh;split at h
     ·cases h
      obtain⟨p0,p1,p2,p3,p4⟩:=hp;obtain⟨b2,q2⟩:=X23 hh p4;obtain⟨b1,q1⟩:=X23 hl q2;rw[<-p0];exact .sliceList (hx q1) b1 b2 p1 p2 h1 h2 h3 p3
     ·cases h
      obtain⟨p1,p2,p3,p4⟩:=hp;obtain⟨b2,q2⟩:=X23 hh p4;obtain⟨b1,q1⟩:=X23 hl q2;exact .sliceList (hx q1) b1 b2 p1 p2 h1 h2 h3 p3
    ·cases h
   ·cases h
  ·cases h
 ·split at h
  ·rename_i hs;obtain⟨ti,et,h1,h2,h3⟩:=Xs hs;split at h
   ·rename_i hl;split at h
    ·rename_i hh;split at h
     ·cases h
      obtain⟨rfl,p2,p4⟩:=hp;obtain⟨b2,q2⟩:=X23 hh p4;obtain⟨b1,q1⟩:=X23 hl q2;exact .sliceRef0 (hx q1) b1 b2 p2 h1 h2 h3
     ·split at h
      ·rename_i hH;split at h
       ·rename_i hes;cases h
        obtain⟨rfl,rfl,p1,p2,p3,p4⟩:=hp;obtain⟨b2,q2⟩:=X23 hh p4;obtain⟨b1,q1⟩:=X23 hl q2;exact .sliceRefV (hx q1) b1 b2 p1 p2 hH p3 h1 h2 h3 hes
       ·cases h
      ·cases h
       obtain⟨rfl,rfl,p1,p2,p4⟩:=hp;obtain⟨b2,q2⟩:=X23 hh p4;obtain⟨b1,q1⟩:=X23 hl q2;exact .sliceRefZ (hx q1) b1 b2 p1 p2 h1 h2 h3
     ·split at h
      ·rename_i hH;cases h
       obtain⟨p1,p2,p3,p4⟩:=hp;obtain⟨b2,q2⟩:=X23 hh p4;obtain⟨b1,q1⟩:=X23 hl q2;exact .sliceRef (hx q1) b1 b2 p1 p2 h1 h2 h3 hH p3
      ·cases h
       obtain⟨p1,p2,p4⟩:=hp;obtain⟨b2,q2⟩:=X23 hh p4;obtain⟨b1,q1⟩:=X23 hl q2;exact .sliceRefZ (hx q1) b1 b2 p1 p2 h1 h2 h3
    ·cases h
   ·cases h
  ·cases h
 ·split at h
  ·rename_i hs;obtain⟨ti,et,h1,h2,h3⟩:=Xs hs;split at h
   ·rename_i hl;split at h
    ·rename_i hh;cases h
     obtain⟨rfl,rfl,p4⟩:=hp;obtain⟨b2,q2⟩:=X23 hh p4;obtain⟨b1,q1⟩:=X23 hl q2;exact .sliceNils (hx q1) b1 b2 h1 h2 h3
    ·cases h
   ·cases h
  ·cases h
 ·cases h
theorem Xhp {T:Ty} {ev:Operand->AV} {H:Xh} {t:Nat} {x ix:Operand} {u:AV} {q:IntKind} {i:Int} {hs hs':List X11} {ps ps':List Prop} {a:AV} (hx:X0w ps->ev x=u) (hi:X0w ps->ev ix=.sc (.int q i))
  (h:ixS T H t u i hs ps=some (a,hs',ps')) (hp:X0w ps'):Pu T ev H (.indexAddr t x ix) a:=by
 unfold ixS at h;split at h
 ·split at h
  ·rename_i hs;obtain⟨ti,et,h1,h2,h3⟩:=Xs hs;split at h
   ·rename_i hsz;cases h
    exact .indexList (hx hp.2.2) (hi hp.2.2) hp.1 h1 h2 h3 hp.2.1 hsz
   ·cases h
  ·cases h
 ·split at h
  ·rename_i hs;obtain⟨ti,et,h1,h2,h3⟩:=Xs hs;split at h
   ·rename_i hH;split at h
    ·rename_i hsz;cases h
     exact .indexRef (hx hp.2.2.2) (hi hp.2.2.2) hp.1 hp.2.1 h1 h2 h3 hH hp.2.2.1 hsz
    ·cases h
   ·cases h
  ·cases h
 ·split at h
  ·rename_i hs;obtain⟨ti,et,h1,h2,h3⟩:=X3g hs;cases h
   have he:=hp.1;subst he;exact .indexArr (hx hp.2.2) (hi hp.2.2) (Int.natCast_nonneg _) (Int.ofNat_lt.2 hp.2.1) h1 h2 h3
  ·cases h
 ·split at h
  ·rename_i hs;obtain⟨ti,et,h1,h2,h3⟩:=X3g hs;cases h
   have he:=hp.1;subst he;exact .indexArrElem (hx hp.2.2) (hi hp.2.2) (Int.natCast_nonneg _) (Int.ofNat_lt.2 hp.2.1) h1 h2 h3
  ·cases h
 ·split at h
  ·rename_i hs;obtain⟨ti,et,h1,h2,h3⟩:=X3g hs;cases h
   exact .indexArr (hx hp.2.2) (hi hp.2.2) hp.1 hp.2.1 h1 h2 h3
  ·cases h
 ·split at h
  ·rename_i hs;obtain⟨ti,et,h1,h2,h3⟩:=X3g hs;cases h
   exact .indexArrElem (hx hp.2.2) (hi hp.2.2) hp.1 hp.2.1 h1 h2 h3
  ·cases h
 ·split at h
  ·rename_i hix;cases h
   refine X5h ?_;simp only[puF,hi hp.2,hx hp.2,if_pos hp.1];exact hix
  ·cases h
def Xwu (T:Ty) (t:Nat) (x:AV):Option AV :=
 match T t with
 |some ti=>match ti.kind with
  |.slice _=>match x with
   |.list _ es=>some (.sc (.int .i64 es.length))
   |.ref _ _ n=>some (.sc (.int .i64 n))
   |.nils=>some (.sc (.int .i64 (0:Nat)))
   |_=>none
  |.string=>match x with
   |.sc (.string s)=>some (.sc (.int .i64 s.size))
   |_=>none
  |.array n _=>some (.sc (.int .i64 n))
  |_=>none
 |none=>none
def Xs1 (hi:Bool) (x y:AV):Option AV :=
 match x,y with
 |.sc (.int k a),.sc (.int k' b)=>if k=k' then some (.sc (.int k (bif hi then (if b>a then b else a) else (if b<a then b else a)))) else none
 |_,_=>none
def Xo5 (L:List (Nat×AV)):List (Nat×Operand)->List (Nat×AV)×List Prop
 |[]=>([],[])
 |(i,x)::r=>match rd L x,Xo5 L r with
  |(a,p),(l,q)=>((i,a)::l,p++q)
theorem Xfn {L:List (Nat×AV)}:∀ {xs:List (Nat×Operand)} {as:List (Nat×AV)} {ps:List Prop},Xo5 L xs=(as,ps)->X0w ps->(xs.map λp=>(p.1,evA (fr L) p.2))=as:=by
 intro xs
 induction xs with
 |nil=>intro as ps h _;simp[Xo5] at h;simp[<-h.1]
 |cons x r ih =>
  intro as ps h hp;obtain⟨i,x⟩:=x;simp only[Xo5] at h;cases h
  obtain⟨h1,h2⟩:=Xl.1 hp;simp only[List.map_cons];rw[Xp (a:=(rd L x).1) (ps:=(rd L x).2) rfl h1,ih (as:=(Xo5 L r).1) (ps:=(Xo5 L r).2) rfl h2]
def buildS (T:Ty) (t:Nat) (vs:List (Nat×AV)):Option AV :=
 match T t with
 |some ti=>match X48 ti.zero with
  |.agg cs=>match ti.kind with
   |.struct fs=>if fs.all (λp=>(T p.2).isSome) then (match X7i (λi=>(fs[i]?).map λp=>(p.1,((T p.2).map (·.size)).getD 0)) cs vs with
    |some r=>some (.agg r)
    |none=>none) else none
   |.array _ et=>match T et with
    |some te=>match X7i (λi=>some (i*te.size,te.size)) cs vs with
     |some r=>some (.agg r)
     |none=>none
    |none=>none
   |_=>none
  |_=>none
 |none=>none
def Xpz (L:List (Nat×AV)) (c a b:Operand) (hs:List X11):PR :=
 match rd L c with
 |(.sc (.bool t),pc)=>match rd L a,rd L b with
  |(.sc (.bool x),pa),(.sc (.bool y),pb)=>some (.sc (.bool (bif t then x else y)),hs,pc++(Xal t pa++Xal (!t) pb))
  |(u,pa),(v,pb)=>match hs with
   |.go true::hs=>some (u,hs,(t=true)::(pc++pa))
   |.go false::hs=>some (v,hs,(t=false)::(pc++pb))
   |_=>none
 |_=>none
def puS (T:Ty) (L:List (Nat×AV)) (H:Xh) (op:Op) (hs:List X11):PR :=
 match op with
 |.move x=>match rd L x with
  |(a,ps)=>some (a,hs,ps)
 |.assign x=>match rd L x with
  |(a,ps)=>some (a,hs,ps)
 |.pick c a b=>Xpz L c a b hs
 |.load t x=>match T t with
  |some ti=>match rd L x with
   |(p,ps)=>match Xig H p hs ps with
    |some (e,k,hs,ps)=>match X5o ti e k with
     |some a=>some (a,hs,ps)
     |none=>none
    |none=>none
  |none=>none
 |.nilCheck x=>match rd L x with
  |(.ptr o i k,ps)=>some (.ptr o i k,hs,ps)
  |(.elem own e k,ps)=>some (.elem own e k,hs,ps)
  |(.fn f caps,ps)=>some (.fn f caps,hs,ps)
  |_=>none
 |.binOp op t x y _=>match rd L x,rd L y with
  |(a,p),(b,q)=>Xxy T op t a b hs (p++q)
 |.unOp op _ x=>match rd L x with
  |(a,p)=>unS op a hs p
 |.convert src dst x=>match rd L x with
  |(a,p)=>Xr9 T src dst a hs p
 |.fieldAddr s x f=>match X5j T s f with
  |some (off,tf)=>if tf.size≠0 then (match rd L x with
   |(.ptr o i k,ps)=>some (.ptr o i (k+off),hs,ps)
   |(.elem own e k,ps)=>some (.elem own e (k+off),hs,ps)
   |_=>none) else none
  |none=>none
 |.field s x f=>match X5j T s f with
  |some (off,tf)=>match rd L x with
   |(.agg cs,ps)=>match eqT.partA tf cs off with
    |some a=>some (a,hs,ps)
    |none=>none
   |_=>none
  |none=>none
 |.indexAddr t x ix=>match rd L ix with
  |(.sc (.int _ i),p)=>match rd L x with
   |(a,q)=>ixS T H t a i hs (p++q)
  |_=>none
 |.index t x ix=>match rd L ix with
  |(.sc (.int _ i),p)=>match rd L x with
   |(.agg cs,q)=>match X8l T t with
    |some (n,te)=>match hs with
     |.ix m::hs=>match eqT.partA te cs (m*te.size) with
      |some a=>some (a,hs,(i=(m:Int))::(m<n)::(p++q))
      |none=>none
     |hs=>match eqT.partA te cs (i.toNat*te.size) with
      |some a=>some (a,hs,(0<=i)::(i<n)::(p++q))
      |none=>none
    |none=>none
   |(.sc (.string s),q)=>match T t with
    |some ti=>match ti.kind with
     |.string=>match hs with
      |.el (.sc (.int .u8 b))::hs=>some (.sc (.int .u8 b),hs,(0<=i)::(∃ c,s[i.toNat]?=some c/\b=c.toNat)::(p++q))
      |hs=>match s[i.toNat]? with
       |some b=>some (.sc (.int .u8 b.toNat),hs,(0<=i)::(p++q))
       |none=>none
     |_=>none
    |none=>none
   |_=>none
  |_=>none
 |.slice t x lo hi none=>match rd L x with
  |(a,p)=>Xfc T L H t a lo hi hs p
 |.slice t x none (some hi) (some mx)=>match X0e T t with
  |some _=>match rd L x with
   |(a,p)=>match bdS L (some hi) 0 p with
    |some (h,p)=>match bdS L (some mx) 0 p with
     |some (m,p)=>match a with
      |.list _ _=>some (.nils,hs,(h=0)::(m=0)::p)
      |.ref _ _ _=>some (.nils,hs,(h=0)::(m=0)::p)
      |.nils=>some (.nils,hs,(h=0)::(m=0)::p)
      |_=>none
     |none=>none
    |none=>none
  |none=>none
 |.extract x i=>match rd L x with
  |(.tup cs,p)=>match cs[i]? with
   |some a=>some (a,hs,p)
   |none=>none
  |_=>none
 |.makeFunc (.func f) ⟨[]⟩ caps=>match rds L caps.toList with
  |(l,p)=>some (.fn f l,hs,p)
 |.call { callee:=.builtin .len,args:=⟨[x]⟩,argTypes:=⟨[t]⟩ }=>match rd L x with
  |(a,p)=>match Xwu T t a with
   |some r=>match hs with
    |.el r'::hs=>some (r',hs,(r=r')::p)
    |hs=>some (r,hs,p)
   |none=>none
 |.call { callee:=.builtin .min,args:=⟨[x,y]⟩,argTypes:=_ }=>match rd L x,rd L y with
  |(a,p),(b,q)=>match Xs1 false a b with
   |some r=>some (r,hs,p++q)
   |none=>none
 |.call { callee:=.builtin .max,args:=⟨[x,y]⟩,argTypes:=_ }=>match rd L x,rd L y with
  |(a,p),(b,q)=>match Xs1 true a b with
   |some r=>some (r,hs,p++q)
   |none=>none
 |.build t ps=>match Xo5 L ps.toList with
  |(l,p)=>match buildS T t l with
   |some r=>some (r,hs,p)
   |none=>none
 |_=>none
theorem Xly {T:Ty} {L:List (Nat×AV)} {H:Xh} {c a b:Operand} {hs hs':List X11} {ps:List Prop} {r:AV} (h:Xpz L c a b hs=some (r,hs',ps)) (hp:X0w ps):Pu T (evA (fr L)) H (.pick c a b) r:=by
 unfold Xpz at h;split at h
 ·rename_i t pc hc;split at h
  ·rename_i x pa y pb ha hb;cases h
   obtain⟨h1,h2⟩:=Xl.1 hp;obtain⟨h3,h4⟩:=Xl.1 h2;exact .pickB (Xp hc h1) (λht=>Xp ha (X7z h3 ht)) (λht=>Xp hb (X7z h4 (by rw[ht];rfl)))
  ·rename_i u pa v pb _ ha hb;split at h
   ·cases h
    obtain⟨h0,h1⟩:=hp;obtain⟨h3,h4⟩:=Xl.1 h1;exact .pick (Xp hc h3) (λ_=>Xp ha h4) (λht=>by rw[h0] at ht;cases ht)
   ·cases h
    obtain⟨h0,h1⟩:=hp;obtain⟨h3,h4⟩:=Xl.1 h1;exact .pick (Xp hc h3) (λht=>by rw[h0] at ht;cases ht) (λ_=>Xp hb h4)
   ·cases h
 ·cases h
theorem Xhg {T:Ty} {ev:Operand->AV} {H:Xh} {t:Nat} {x:Operand} {r:AV} (h:Xwu T t (ev x)=some r):Pu T ev H (.call { callee:=.builtin .len,args:=⟨[x]⟩,argTypes:=⟨[t]⟩ }) r:=by
 refine X5h ?_;unfold Xwu at h;simp only[puF];exact h
theorem Xq7 {T:Ty} {ev:Operand->AV} {H:Xh} {x y:Operand} {ts:Array Nat} {r:AV} (h:Xs1 false (ev x) (ev y)=some r):Pu T ev H (.call { callee:=.builtin .min,args:=⟨[x,y]⟩,argTypes:=ts }) r:=by
 refine X5h ?_;simp only[puF];unfold Xs1 at h;split at h
 ·rename_i h1 h2;first|(rw[h1,h2];exact h)|exact h
 ·cases h
theorem Xq8 {T:Ty} {ev:Operand->AV} {H:Xh} {x y:Operand} {ts:Array Nat} {r:AV} (h:Xs1 true (ev x) (ev y)=some r):Pu T ev H (.call { callee:=.builtin .max,args:=⟨[x,y]⟩,argTypes:=ts }) r:=by
 refine X5h ?_;simp only[puF];unfold Xs1 at h;split at h
 ·rename_i h1 h2;first|(rw[h1,h2];exact h)|exact h
 ·cases h
theorem Xiu {T:Ty} {ev:Operand->AV} {H:Xh} {t:Nat} {ps:Array (Nat×Operand)} {r:AV} (h:buildS T t (ps.toList.map λp=>(p.1,ev p.2))=some r):Pu T ev H (.build t ps) r:=by
 refine X5h ?_;unfold buildS at h;simp only[puF];simp only[X2y] at h;exact h
theorem Xmu {T:Ty} {ev:Operand->AV} {H:Xh} {src dst:Nat} {x:Operand} {u:AV} {hs hs':List X11} {ps ps':List Prop} {a:AV} (hx:X0w ps->ev x=u) (h:Xr9 T src dst u hs ps=some (a,hs',ps')) (hp:X0w ps') :
  Pu T ev H (.convert src dst x) a:=by
 unfold Xr9 at h;split at h
 ·split at h
  ·split at h
   ·split at h
    ·obtain⟨rfl,h2⟩:=X5t h hp;exact .conv (hx h2) (by assumption) (by assumption) (by assumption)
    ·cases h
   ·cases h
  ·cases h
 ·split at h
  ·rename_i hc;cases h
   refine X5h ?_;simp only[puF,hx hp];exact hc
  ·cases h
theorem Xst {T:Ty} {ev:Operand->AV} {H:Xh} {op:UnOp} {t:Nat} {x:Operand} {u:AV} {hs hs':List X11} {ps ps':List Prop} {a:AV} (hx:X0w ps->ev x=u) (h:unS op u hs ps=some (a,hs',ps')) (hp:X0w ps') :
  Pu T ev H (.unOp op t x) a:=by
 unfold unS at h;split at h
 ·obtain⟨rfl,h2⟩:=X5t h hp;exact .neg (hx h2)
 ·cases h;exact .not (hx hp)
 ·cases h
theorem Xo7 {T:Ty} {L:List (Nat×AV)} {H:Xh} {op:Op} {hs hs':List X11} {ps:List Prop} {a:AV} (h:puS T L H op hs=some (a,hs',ps)) (hp:X0w ps):Pu T (evA (fr L)) H op a:=by
  unfold puS at h;split at h
  · rename_i x
    rcases hr:rd L x with ⟨a1,p1⟩;rw[hr] at h;cases h
    rw[<-Xp hr hp];exact .move
  · rename_i x
    rcases hr:rd L x with ⟨a1,p1⟩;rw[hr] at h;cases h
    rw[<-Xp hr hp];exact .assign
  · exact Xly h hp
  · split at h
    · rename_i ht
      split at h
      rename_i hr;split at h
      · rename_i hd
        split at h
        · rename_i hl
          cases h
          obtain⟨h1,h2⟩:=Xif hd hp;rw[<-Xp hr h2] at h1;exact .load ht h1 hl
        · cases h
      · cases h
    · cases h
  · split at h
    · rename_i hr;cases h
      have:=Xp hr hp;rw[<-this];exact .nilCheckPtr this
    · rename_i hr;cases h
      have:=Xp hr hp;rw[<-this];exact .nilCheckElem this
    · rename_i hr;cases h
      have:=Xp hr hp;rw[<-this];exact .nilCheckFn this
    · cases h
  · exact Xri (λhq=>Xp rfl (Xl.1 hq).1) (λhq=>Xp rfl (Xl.1 hq).2) h hp
  · exact Xst (λhq=>Xp rfl hq) h hp
  · exact Xmu (λhq=>Xp rfl hq) h hp
  · split at h
    · rename_i hf
      obtain⟨ti,fs,ft,g1,g2,g3,g4⟩:=X4w hf;split at h
      · rename_i hz
        split at h
        · rename_i hr;cases h;exact .fieldAddrPtr (Xp hr hp) g1 g2 g3 g4 hz
        · rename_i hr;cases h;exact .fieldAddrElem (Xp hr hp) g1 g2 g3 g4 hz
        · cases h
      · cases h
    · cases h
  · split at h
    · rename_i hf
      obtain⟨ti,fs,ft,g1,g2,g3,g4⟩:=X4w hf;split at h
      · rename_i hr
        split at h
        · rename_i ha;cases h;exact .field (Xp hr hp) g1 g2 g3 g4 ha
        · cases h
      · cases h
    · cases h
  · split at h
    · rename_i hr
      exact Xhp (λhq=>Xp rfl (Xl.1 hq).2) (λhq=>Xp hr (Xl.1 hq).1) h hp
    · cases h
  · split at h
    · rename_i hi
      split at h
      · rename_i hr
        split at h
        · rename_i ha
          obtain⟨ti,et,h1,h2,h3⟩:=X3g ha;split at h
          · split at h
            · rename_i hpa
              cases h
              obtain⟨p1,p2,p3⟩:=hp;obtain⟨p4,p5⟩:=Xl.1 p3;subst p1;exact .indexAgg (Xp hr p5) (Xp hi p4) (Int.natCast_nonneg _) (Int.ofNat_lt.2 p2) h1 h2 h3 hpa
            · cases h
          · split at h
            · rename_i hpa
              cases h
              obtain⟨p1,p2,p3⟩:=hp;obtain⟨p4,p5⟩:=Xl.1 p3;exact .indexAgg (Xp hr p5) (Xp hi p4) p1 p2 h1 h2 h3 hpa
            · cases h
        · cases h
      · rename_i hr
        split at h
        · rename_i ht
          split at h
          · rename_i hk
            split at h
            · cases h
              obtain⟨p1,⟨c,p2,rfl⟩,p3⟩:=hp;obtain⟨p4,p5⟩:=Xl.1 p3;exact .indexStr (Xp hr p5) (Xp hi p4) p1 ht hk p2
            · split at h
              · rename_i hb
                cases h
                obtain⟨p1,p3⟩:=hp;obtain⟨p4,p5⟩:=Xl.1 p3;exact .indexStr (Xp hr p5) (Xp hi p4) p1 ht hk hb
              · cases h
          · cases h
        · cases h
      · cases h
    · cases h
  · exact Xfb (λhq=>Xp rfl hq) h hp
  · split at h
    · rename_i hs
      obtain⟨ti,et,h1,h2,h3⟩:=Xs hs;split at h
      rename_i a1 p1 hr;split at h
      · rename_i hb1
        split at h
        · rename_i hb2
          split at h
          all_goals first
            | (cases h
               obtain⟨rfl,rfl,p4⟩:=hp;obtain⟨b2,q2⟩:=X23 hb2 p4;obtain⟨b1,q1⟩:=X23 hb1 q2;have hx:=Xp hr q1;exact .sliceClone (by rw[hx];rfl) (λs hs=>by rw[hx] at hs;cases hs) b1 b2 h1 h2 h3)
            |cases h
        · cases h
      · cases h
    · cases h
  · split at h
    · rename_i hr
      split at h
      · rename_i hi
        cases h
        exact .extract (Xp hr hp) hi
      · cases h
    · cases h
  · split at h
    rename_i hr;cases h
    have:=X84 hr hp;refine X5h ?_;simp only[puF,this]
  · split at h
    rename_i hr;split at h
    · rename_i hl
      split at h
      · cases h
        obtain⟨rfl,hp⟩:=hp;rw[<-Xp hr hp] at hl;exact Xhg hl
      · cases h
        rw[<-Xp hr hp] at hl;exact Xhg hl
    · cases h
  · split at h
    rename_i hx hy;split at h
    · rename_i hl
      cases h
      obtain⟨p1,p2⟩:=Xl.1 hp;rw[<-Xp hx p1,<-Xp hy p2] at hl;exact Xq7 hl
    · cases h
  · split at h
    rename_i hx hy;split at h
    · rename_i hl
      cases h
      obtain⟨p1,p2⟩:=Xl.1 hp;rw[<-Xp hx p1,<-Xp hy p2] at hl;exact Xq8 hl
    · cases h
  · split at h
    rename_i hr;split at h
    · rename_i hl
      cases h
      rw[<-Xfn hr hp] at hl;exact Xiu hl
    · cases h
  · cases h
end Go.Av


namespace Go.Av
variable [Gls]
def Xvn (H:Xh) (a:AV) (ps:List Prop):Option (List AV×List Prop) :=
 match a with
 |.list _ es=>some (es,ps)
 |.nils=>some ([],ps)
 |.ref o off len=>match H o with
  |some x=>some ((x.es.drop off).take len,(off+len<=x.es.length)::ps)
  |none=>none
 |_=>none
theorem X17 {H:Xh} {a:AV} {xs:List AV} {ps ps':List Prop} (h:Xvn H a ps=some (xs,ps')) (hp:X0w ps'):Xae H a xs/\X0w ps:=by
 unfold Xvn at h;split at h
 ·cases h;exact⟨.list,hp⟩
 ·cases h;exact⟨.nils,hp⟩
 ·split at h
  ·rename_i hH;cases h;exact⟨.ref hH hp.1,hp.2⟩
  ·cases h
 ·cases h
abbrev MR:=Option (AV×Eff×List X11×List Prop)
def Xs8 (H:Xh) (id:Nat) (te:TI) (s:AV) (xs:List AV) (hs:List X11) (ps:List Prop):MR :=
 match s with
 |.nils=>if te.size≠0 then some (.ref id 0 xs.length,.new { es:=xs,esz:=te.size },hs,
   (xs≠[])::(xs.length<=maxLen)::(xs.length*te.bytes<=140737488355328)::(∀ e∈xs,e.cells.length=te.size)::ps) else none
 |.ref o 0 n=>match H o with
  |some y=>match y.spent with
   |false=>if y.esz=te.size then some (.ref id 0 (n+xs.length),.app o { es:=y.es++xs,esz:=te.size },hs,
     (y.es.length=n)::(xs≠[])::(n+xs.length<=maxLen)::((n+xs.length)*te.bytes<=140737488355328)::(∀ e∈xs,e.cells.length=te.size)::ps) else none
   |true=>none
  |none=>none
 |_=>none
def X4p:AV->Bool
 |.list ..|.ref ..|.nils=>true
 |_=>false
theorem X3y {a:AV} (h:X4p a=true):(∃ n,X9z a=some n)/\∀ u,a≠.sc (.string u):=by
 cases a<;>simp[X4p] at h<;>exact⟨⟨_,rfl⟩,λu hu=>by cases hu⟩
def mkS (T:Ty) (L:List (Nat×AV)) (H:Xh) (id:Nat) (op:Op) (hs:List X11):MR :=
 match op with
 |.box _ x=>match rd L x with
  |(a,ps)=>match a.whole with
   |true=>match a.cells with
    |[]=>none
    |_::_=>some (.ptr id 0 0,.new { es:=[a],esz:=a.cells.length },hs,ps)
   |false=>none
 |.alloc elem=>match T elem with
  |some ti=>if ti.size≠0 then X4v (X48 ti.zero) λz=>some (.ptr id 0 0,.new { es:=[z],esz:=ti.size },hs,[]) else none
  |none=>none
 |.buildSlice t len ps=>match X0e T t with
  |some te=>if len=0 then (match ps with
    |⟨[]⟩=>some (.nils,.none,hs,[])
    |_=>none)
   else if te.size≠0 then (if len*te.size<=2 ^ 24 then (match Xo5 L ps.toList with
    |(vs,qs)=>match X3z te.size (List.replicate len (X48 te.zero)) vs with
     |some es=>X6h es λes=>some (.ref id 0 len,.new { es:=es,esz:=te.size },hs,qs)
     |none=>none) else none) else none
  |none=>none
 |.makeSlice t l cc=>match X0e T t with
  |some te=>match rd L l,rd L cc with
   |(.sc (.int _ n),p),(.sc (.int _ m),q)=>match hs with
    |.ne false::hs=>some (.nils,.none,hs,(n=0)::(m=0)::(p++q))
    |hs=>if te.size≠0 then some (.ref id 0 n.toNat,.new { es:=List.replicate n.toNat (X48 te.zero),esz:=te.size },hs,
      (0<=n)::(n<=m)::(0<m)::(te.bytes*m<=2 ^ 48)::(m<2 ^ 62)::(p++q)) else none
   |_,_=>none
  |none=>none
 |.call { callee:=.builtin .append,args:=⟨[s,x]⟩,argTypes:=⟨[t,t']⟩ }=>if t=t' then (match X0e T t with
  |some te=>match rd L s,rd L x with
   |(a,p),(b,q)=>match Xvn H b (p++q) with
    |some (xs,ps)=>match hs with
     |.ne false::hs=>match X4p a with
      |true=>some (a,.none,hs,(xs=[])::ps)
      |false=>none
     |.ne true::hs=>Xs8 H id te a xs hs ps
     |.via (.list _ xs')::hs=>Xs8 H id te a xs' hs ((xs=xs')::ps)
     |.stop _::_=>none
     |.no::hs=>X6h xs λxs=>match xs with
      |[]=>match X4p a with
       |true=>some (a,.none,hs,ps)
       |false=>none
      |e::r=>Xs8 H id te a (e::r) hs ps
     |hs=>X6h xs λxs=>match xs with
      |[]=>match X4p a with
       |true=>some (a,.none,hs,ps)
       |false=>none
      |e::r=>Xs8 H id te a (e::r) hs ps
    |none=>none
  |none=>none) else none
 |_=>none
theorem Xac {T:Ty} {ev:Operand->AV} {H:Xh} {id:Nat} {s x:Operand} {t:Nat} {ti te:TI} {et:Nat} {u:AV} {xs:List AV} {hs hs':List X11} {ps ps':List Prop} {a:AV} {e:Eff}
  (ht:T t=some ti) (hk:ti.kind=.slice et) (hte:T et=some te) (hsu:X0w ps->ev s=u) (hx:X0w ps->Xae H (ev x) xs) (h:Xs8 H id te u xs hs ps=some (a,e,hs',ps')) (hp:X0w ps') :
  Mk T ev H id (.call { callee:=.builtin .append,args:=#[s,x],argTypes:=#[t,t] }) a e/\∀ old x,e=.app old x\/e=.new x->x.solo=true/\x.spent=false:=by
 unfold Xs8 at h;split at h
 ·split at h
  ·rename_i hz;cases h
   obtain⟨p1,p2,p3,p4,p5⟩:=hp;refine⟨.appendNil (hsu p5) (hx p5) p1 ht hk hte p4 hz p2 p3,λold y hy=>by rcases hy with hy|hy<;>cases hy;exact⟨rfl,rfl⟩⟩
  ·cases h
 ·split at h
  ·rename_i hH;split at h
   ·rename_i hsp;split at h
    ·rename_i hes;cases h
     obtain⟨p0,p1,p2,p3,p4,p5⟩:=hp;refine⟨.append (hsu p5) hH p0 hsp hes (hx p5) p1 ht hk hte p4 p2 p3,λold y hy=>by rcases hy with hy|hy<;>cases hy;exact⟨rfl,rfl⟩⟩
    ·cases h
   ·cases h
  ·cases h
 ·cases h
theorem Xch {T:Ty} {L:List (Nat×AV)} {H:Xh} {id:Nat} {op:Op} {hs hs':List X11} {ps:List Prop} {a:AV} {e:Eff} (h:mkS T L H id op hs=some (a,e,hs',ps)) (hp:X0w ps) :
  Mk T (evA (fr L)) H id op a e/\∀ old x,e=.app old x\/e=.new x->x.solo=true/\x.spent=false:=by
 unfold mkS at h;split at h
 ·split at h
  rename_i hr;split at h
  ·rename_i hw;split at h
   ·cases h
   ·rename_i hc;cases h
    have:=Xp hr hp;rw[<-this];exact⟨.box (by rw[this];exact hw) (by rw[this,hc];simp),λold y hy=>by rcases hy with hy|hy<;>cases hy;exact⟨rfl,rfl⟩⟩
  ·cases h
 ·split at h
  ·rename_i ht;split at h
   ·rename_i hz;rw[X1y,X2y] at h;cases h
    exact⟨.alloc ht hz,λold y hy=>by rcases hy with hy|hy<;>cases hy;exact⟨rfl,rfl⟩⟩
   ·cases h
  ·cases h
 ·split at h
  ·rename_i hs;obtain⟨ti,et,h1,h2,h3⟩:=Xs hs;split at h
   ·rename_i hl;subst hl;split at h
    ·cases h
     exact⟨.slice0 h1 h2 h3,λold y hy=>by rcases hy with hy|hy<;>cases hy⟩
    ·cases h
   ·rename_i hl;split at h
    ·rename_i hz;split at h
     ·rename_i hb;split at h
      rename_i hr;split at h
      ·rename_i hsp;rw[X4t] at h;cases h
       rw[<-Xfn hr hp,X2y] at hsp;exact⟨.buildSlice h1 h2 h3 hl hz hb hsp,λold y hy=>by rcases hy with hy|hy<;>cases hy;exact⟨rfl,rfl⟩⟩
      ·cases h
     ·cases h
    ·cases h
  ·cases h
 ·split at h
  ·rename_i hs;obtain⟨ti,et,h1,h2,h3⟩:=Xs hs;split at h
   ·rename_i hl hc;split at h
    ·cases h
     obtain⟨rfl,rfl,p3⟩:=hp;obtain⟨q1,q2⟩:=Xl.1 p3;exact⟨.make0 (Xp hl q1) (Xp hc q2) h1 h2 h3,λold y hy=>by rcases hy with hy|hy<;>cases hy⟩
    ·split at h
     ·rename_i hz;cases h
      obtain⟨p1,p2,p3,p4,p5,p6⟩:=hp;obtain⟨q1,q2⟩:=Xl.1 p6;rw[X2y];exact⟨.make (Xp hl q1) (Xp hc q2) p1 p2 p3 h1 h2 h3 hz p4 p5,λold y hy=>by rcases hy with hy|hy<;>cases hy;exact⟨rfl,rfl⟩⟩
     ·cases h
   ·cases h
  ·cases h
 ·split at h
  ·rename_i htt;subst htt;split at h
   ·rename_i hs;obtain⟨ti,et,h1,h2,h3⟩:=Xs hs;split at h
    rename_i hra hrb;split at h
    ·rename_i hsrc;split at h
     ·split at h
      ·rename_i hsl;cases h
       obtain⟨rfl,p2⟩:=hp;obtain⟨s1,s2⟩:=X17 hsrc p2;obtain⟨q1,q2⟩:=Xl.1 s2;have e1:=Xp hra q1;have e2:=Xp hrb q2;obtain⟨⟨n,hn⟩,hu⟩:=X3y hsl;rw[<-e1] at hn hu ⊢;rw[<-e2] at s1;exact⟨.append0 hn hu s1 h1 h2 h3,λold y hy=>by rcases hy with hy|hy<;>cases hy⟩
      ·cases h
     ·refine Xac h1 h2 h3 (λhq=>?_) (λhq=>?_) h hp
      ·exact Xp hra (Xl.1 (X17 hsrc hq).2).1
      ·rw[Xp hrb (Xl.1 (X17 hsrc hq).2).2];exact(X17 hsrc hq).1
     ·refine Xac h1 h2 h3 (λhq=>?_) (λhq=>?_) h hp
      ·exact Xp hra (Xl.1 (X17 hsrc hq.2).2).1
      ·rw[Xp hrb (Xl.1 (X17 hsrc hq.2).2).2,<-hq.1];exact(X17 hsrc hq.2).1
     ·cases h
     ·rw[X4t] at h;split at h
      ·split at h
       ·rename_i hsl;cases h
        obtain⟨s1,s2⟩:=X17 hsrc hp;obtain⟨q1,q2⟩:=Xl.1 s2;have e1:=Xp hra q1;have e2:=Xp hrb q2;obtain⟨⟨n,hn⟩,hu⟩:=X3y hsl;rw[<-e1] at hn hu ⊢;rw[<-e2] at s1;exact⟨.append0 hn hu s1 h1 h2 h3,λold y hy=>by rcases hy with hy|hy<;>cases hy⟩
       ·cases h
      ·refine Xac h1 h2 h3 (λhq=>?_) (λhq=>?_) h hp
       ·exact Xp hra (Xl.1 (X17 hsrc hq).2).1
       ·rw[Xp hrb (Xl.1 (X17 hsrc hq).2).2];exact(X17 hsrc hq).1
     ·rw[X4t] at h;split at h
      ·split at h
       ·rename_i hsl;cases h
        obtain⟨s1,s2⟩:=X17 hsrc hp;obtain⟨q1,q2⟩:=Xl.1 s2;have e1:=Xp hra q1;have e2:=Xp hrb q2;obtain⟨⟨n,hn⟩,hu⟩:=X3y hsl;rw[<-e1] at hn hu ⊢;rw[<-e2] at s1;exact⟨.append0 hn hu s1 h1 h2 h3,λold y hy=>by rcases hy with hy|hy<;>cases hy⟩
       ·cases h
      ·refine Xac h1 h2 h3 (λhq=>?_) (λhq=>?_) h hp
       ·exact Xp hra (Xl.1 (X17 hsrc hq).2).1
       ·rw[Xp hrb (Xl.1 (X17 hsrc hq).2).2];exact(X17 hsrc hq).1
    ·cases h
   ·cases h
  ·cases h
 ·cases h
def Xij (o:Nat):List (Nat×Obj)->List (Nat×Obj)
 |[]=>[]
 |(d,x)::l=>bif Nat.beq d o then Xij o l else (d,x)::Xij o l
theorem Xc1 (o:Nat):∀ G:List (Nat×Obj),hp (Xij o G)=upd (hp G) o none:=by
 intro G;funext q
 induction G with
 |nil=>simp[Xij,hp,upd]
 |cons a l ih =>
  obtain⟨d,x⟩:=a;simp only[Xij]
  cases hb:Nat.beq d o with
  |true =>
   have hd:d=o:=Nat.eq_of_beq_eq_true hb;subst hd;simp only[cond_true,ih,hp];by_cases hq:q=d
   ·subst hq;rw[X7,X7]
   ·have:Nat.beq q d=false:=by rw[<-Bool.not_eq_true,Nat.beq_eq];exact hq
    rw[X5 _ _ hq,X5 _ _ hq];simp only[this,cond_false]
  |false =>
   have hd:d≠o:=λe=>by rw[e,Nat.beq_refl] at hb;cases hb
   simp only[cond_false,hp,ih];by_cases hq:q=o
   ·subst hq;have:Nat.beq q d=false:=by rw[<-Bool.not_eq_true,Nat.beq_eq];exact λe=>hd e.symm
    rw[this,X7,cond_false,X7]
   ·rw[X5 _ _ hq,X5 _ _ hq]
theorem X6x (o:Nat) (x:Obj) (G:List (Nat×Obj)) (hx:x.gone=false):hp ((o,x)::G)=upd (hp G) o (some x):=by
 funext q
 simp only[hp,hx,cond_false];by_cases h:q=o
 ·subst h;rw[X7];simp
 ·have:Nat.beq q o=false:=by rw[<-Bool.not_eq_true,Nat.beq_eq];exact h
  rw[X5 _ _ h,this];rfl
theorem Xbx (o:Nat) (x:Obj) (G:List (Nat×Obj)) (hx:x.gone=false):hp ((o,x)::Xij o G)=upd (hp G) o (some x):=by
 rw[X6x _ _ _ hx,Xc1];funext q
 by_cases hq:q=o
 ·subst hq;rw[X7,X7]
 ·rw[X5 _ _ hq,X5 _ _ hq,X5 _ _ hq]
def Xxp (id:Nat) (G:List (Nat×Obj)):Eff->List (Nat×Obj)
 |.none=>G
 |.new x=>(id,x)::G
 |.app old x=>(id,x)::Xij old G
def Xmr:Eff->Bool
 |.none=>true
 |.new x=>!x.gone
 |.app _ x=>!x.gone
theorem Xqz (id:Nat) (G:List (Nat×Obj)) (e:Eff) (he:Xmr e=true):hp (Xxp id G e)=e.seq id (hp G):=by
 cases e with
 |none=>rfl
 |new x=>exact X6x _ _ _ (by simpa[Xmr] using he)
 |app old x=>simp only[Xxp,Eff.seq,X6x _ _ _ (show x.gone=false by simpa[Xmr] using he),Xc1]
structure X2c (P:Program) (f:Nat) (H:Xh) (as bs:List AV) (r:AV):Prop where
 isPure:Xu P f bs r
 lends:∃ Hr,Cvs false Hr as bs/\(∀ o x,Hr o=some x->H o=some x)/\(X96 r\/∀ o,Hr o=none)
structure Xrq (P:Program) (f:Nat) (as:List AV) (G:List (Nat×Obj)) (n:Nat) (r:AV) (G':List (Nat×Obj)) (n':Nat):Prop where
 hc:HC P f as (hp G) n (λr2 H2 n2=>r2=r/\H2=hp G'/\n2=n')
def stO (T:Ty) (L:List (Nat×AV)) (G:List (Nat×Obj)) (t:Nat) (p x:Operand) (hs:List X11):Option (Nat×Obj×List X11×List Prop) :=
 match T t with
 |some ti=>match rd L p,rd L x with
  |(.ptr o i k,p1),(v,p2)=>match hp G o with
   |some y=>match y.solo,v.whole with
    |true,true=>match hs with
     |.ld e::hs=>if v.cells.length=ti.size then (if k+ti.size<=e.cells.length then (if ti.size≠0 then
       some (o,{ y with es:=y.es.set i (X16 e k v) },hs,(y.es[i]?=some e)::(p1++p2)) else none) else none) else none
     |hs=>match y.es[i]? with
      |some e=>if v.cells.length=ti.size then (if k+ti.size<=e.cells.length then (if ti.size≠0 then
       X4v (X16 e k v) λw=>X6h (y.es.set i w) λes=>some (o,{ y with es:=es },hs,p1++p2) else none) else none) else none
      |none=>none
    |_,_=>none
   |none=>none
  |_,_=>none
 |none=>none
theorem Xo2 {T:Ty} {L:List (Nat×AV)} {G:List (Nat×Obj)} {t q:Nat} {z:Obj} {p x:Operand} {hs hs':List X11} {ps:List Prop} (h:stO T L G t p x hs=some (q,z,hs',ps)) (hp':X0w ps) :
  ∃ i k y e ti,evA (fr L) p=.ptr q i k/\hp G q=some y/\y.solo=true/\y.es[i]?=some e/\T t=some ti/\(evA (fr L) x).whole=true/\(evA (fr L) x).cells.length=ti.size/\k+ti.size<=e.cells.length/\ti.size≠0 /\
   z={ y with es:=y.es.set i (X16 e k (evA (fr L) x)) }:=by
 unfold stO at h;split at h
 ·rename_i ht;split at h
  ·rename_i hrp hrx;split at h
   ·rename_i hH;split at h
    ·rename_i hs1 hw1;split at h
     ·split at h
      ·rename_i c1;split at h
       ·rename_i c2;split at h
        ·rename_i c3;cases h
         obtain⟨q1,q2⟩:=hp';obtain⟨q3,q4⟩:=Xl.1 q2;have e1:=Xp hrp q3;have e2:=Xp hrx q4;rw[<-e2] at hw1 c1;exact⟨_,_,_,_,_,e1,hH,hs1,q1,ht,hw1,c1,c2,c3,by rw[e2]⟩
        ·cases h
       ·cases h
      ·cases h
     ·split at h
      ·rename_i he;split at h
       ·rename_i c1;split at h
        ·rename_i c2;split at h
         ·rename_i c3;rw[X1y,X4t] at h;cases h
          obtain⟨q3,q4⟩:=Xl.1 hp';have e1:=Xp hrp q3;have e2:=Xp hrx q4;rw[<-e2] at hw1 c1;exact⟨_,_,_,_,_,e1,hH,hs1,he,ht,hw1,c1,c2,c3,by rw[e2]⟩
         ·cases h
        ·cases h
       ·cases h
      ·cases h
    ·cases h
   ·cases h
  ·cases h
 ·cases h
def stS (T:Ty) (L:List (Nat×AV)) (G:List (Nat×Obj)) (t:Nat) (p x:Operand) (hs:List X11):Option (List (Nat×Obj)×List X11×List Prop) :=
 match stO T L G t p x hs with
 |some (o,z,hs,ps)=>some ((o,z)::Xij o G,hs,ps)
 |none=>none
theorem Xsx {T:Ty} {L:List (Nat×AV)} {G G':List (Nat×Obj)} {t:Nat} {p x:Operand} {hs hs':List X11} {ps:List Prop} (h:stS T L G t p x hs=some (G',hs',ps)) (hp':X0w ps) :
  StR T (evA (fr L)) (hp G) (.store t p x) (hp G'):=by
 unfold stS at h;split at h
 ·rename_i ho;cases h
  obtain⟨i,k,y,e,ti,h1,h2,h3,h4,h5,h6,h7,h8,h9,rfl⟩:=Xo2 ho hp';have hgn:({ y with es:=y.es.set i (X16 e k (evA (fr L) x)) }:Obj).gone=false:=show y.gone=false from Xa1 h2;rw[Xbx _ _ _ hgn];exact .store h1 h2 h3 h4 h5 h6 h7 h8 h9
 ·cases h
abbrev OR:=Option (AV×List (Nat×Obj)×Nat×List X11×List Prop)
def quS (P:Program) (T:Ty) (L:List (Nat×AV)) (G:List (Nat×Obj)) (op:Op) (hs:List X11):PR :=
 match op with
 |.call { callee:=.value x,args:=args,argTypes:=_ }=>match hs with
  |.pure bs r::hs=>match rd L x with
   |(.fn f caps,p)=>match rds L args.toList with
    |(as,q)=>some (r,hs,X2c P f (hp G) (as++caps) bs r::(p++q))
   |_=>none
  |_=>none
 |op=>puS T L (hp G) op hs
theorem Xh6 {P:Program} {T:Ty} {nt:Nat} {L:List (Nat×AV)} {G:List (Nat×Obj)} {n:Nat} {o:Oper} {hs hs':List X11} {ps:List Prop} {a:AV} (hT:X1h P T)
  (h:quS P T L G o.op hs=some (a,hs',ps)) (hp':X0w ps):OpR P nt o ⟨fr L,hp G,n⟩ (λa' H' n2=>a'=a/\H'=hp G/\n2=n):=by
 unfold quS at h;split at h
 ·rename_i ho;split at h
  ·split at h
   ·rename_i hx;split at h
    rename_i hargs;cases h
    obtain⟨⟨p1,Hr,p2,p3,p4⟩,q⟩:=hp';obtain⟨q1,q2⟩:=Xl.1 q;refine OpR.call (s:=⟨fr L,hp G,n⟩) ho (Xp hx q1) ?_;rw[X84 hargs q2];exact HC.of_pure p1 p2 p3 p4
   ·cases h
  ·cases h
 ·exact OpR.pu hT (s:=⟨fr L,hp G,n⟩) (Xo7 h hp')
def opS (P:Program) (T:Ty) (L:List (Nat×AV)) (G:List (Nat×Obj)) (n:Nat) (op:Op) (hs:List X11):OR :=
 match op with
 |.store t p x=>match stS T L G t p x hs with
  |some (G,hs,ps)=>some (.sc undef,G,n,hs,ps)
  |none=>none
 |.call { callee:=.value x,args:=args,argTypes:=ts }=>match hs with
  |.call r G' n'::hs=>match rd L x with
   |(.fn f caps,p)=>match rds L args.toList with
    |(as,q)=>some (r,G',n',hs,Xrq P f (as++caps) G n r G' n'::(p++q))
   |_=>none
  |hs=>match quS P T L G (.call { callee:=.value x,args:=args,argTypes:=ts }) hs with
   |some (a,hs,ps)=>some (a,G,n,hs,ps)
   |none=>none
 |op=>match quS P T L G op hs with
  |some (a,hs,ps)=>some (a,G,n,hs,ps)
  |none=>match mkS T L (hp G) n op hs with
   |some (a,e,hs,ps)=>match Xmr e with
    |true=>some (a,Xxp n G e,n+1,hs,ps)
    |false=>none
   |none=>none
theorem Xoa {P:Program} {T:Ty} {nt:Nat} {L:List (Nat×AV)} {G G':List (Nat×Obj)} {n n':Nat} {o:Oper} {hs hs':List X11} {ps:List Prop} {a:AV} (hT:X1h P T)
  (h:opS P T L G n o.op hs=some (a,G',n',hs',ps)) (hp':X0w ps):OpR P nt o ⟨fr L,hp G,n⟩ (λa' H' n2=>a'=a/\H'=hp G'/\n2=n'):=by
 unfold opS at h;split at h
 ·rename_i ho;split at h
  ·rename_i hs;cases h
   have:=Xsx hs hp';exact OpR.st hT (s:=⟨fr L,hp G,n⟩) (by rw[ho];exact this)
  ·cases h
 ·rename_i ho;split at h
  ·split at h
   ·rename_i hx;split at h
    rename_i hargs;cases h
    obtain⟨p1,q⟩:=hp';obtain⟨q1,q2⟩:=Xl.1 q;refine OpR.call (s:=⟨fr L,hp G,n⟩) ho (Xp hx q1) ?_;rw[X84 hargs q2];exact p1.hc
   ·cases h
  ·split at h
   ·rename_i hq;cases h
    rw[<-ho] at hq;exact Xh6 hT hq hp'
   ·cases h
 ·split at h
  ·rename_i hpu;cases h
   exact Xh6 hT hpu hp'
  ·split at h
   ·rename_i hmk;split at h
    ·rename_i he;cases h
     obtain⟨h1,h2⟩:=Xch hmk hp';rw[Xqz _ _ _ he];exact OpR.mk hT (s:=⟨fr L,hp G,n⟩) h1 h2
    ·cases h
   ·cases h
end Go.Av
