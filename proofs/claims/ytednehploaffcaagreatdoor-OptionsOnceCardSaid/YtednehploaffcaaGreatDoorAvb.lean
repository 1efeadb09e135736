/- Parts of the proof, laid together. -/
import Derived.Test.YtednehploaffcaaGreatDoorAva
import Derived.RangeFuncLeaves
import Derived.IntWalk
set_option linter.all false
set_option maxHeartbeats 4000000
noncomputable section

namespace Go.Av
variable [Gls]
structure Xcr (nt:Nat) (c0:Ctx) (H0:Xz) (n0:Nat) (c:Ctx) (A:Nat->AV) (H:Xz) (M:Nat->Prop) (act:Act):Prop where
 inv:Inv c H M
 solo:∀ o x,H o=some x->x.solo=true/\x.spent=false
 frame:∀ t,X0m c false (A t) (act.tmps.getD t undef)
 ok:∀ t,(A t).Ok M
 size:act.tmps.size=nt
 reach:Reach c0 H0 n0 c H
 le0:∀ q,q<n0->M q
inductive X2h where
 |none
 |new (x:Obj)
 |app (old:Nat) (x:Obj)
 |set (o:Nat) (x:Obj)
def X2h.at (id:Nat) (o:Nat):X2h->Option (Option Obj)
 |.none=>.none
 |.new x=>bif Nat.beq o id then some (some x) else .none
 |.app old x=>bif Nat.beq o id then some (some x) else bif Nat.beq o old then some .none else .none
 |.set o' x=>bif Nat.beq o o' then some (some x) else .none
def X2h.objs (id:Nat):X2h->List Nat
 |.none=>[]
 |.new _=>[id]
 |.app old _=>[id,old]
 |.set o _=>[o]
theorem X2h.at_objs {id o:Nat} {e:X2h} (h:o ∉ e.objs id):e.at id o=Option.none:=by
 cases e<;>simp only[X2h.objs,List.mem_cons,List.not_mem_nil,or_false,not_or,not_false_eq_true,X2h.at] at h ⊢
 ·have:Nat.beq o id=false:=by rw[<-Bool.not_eq_true,Nat.beq_eq];exact h
  grind
 ·rename_i old _;have h1:Nat.beq o id=false:=by rw[<-Bool.not_eq_true,Nat.beq_eq];exact h.1
  have h2:Nat.beq o old=false:=by rw[<-Bool.not_eq_true,Nat.beq_eq];exact h.2
  grind
 ·rename_i q _;have:Nat.beq o q=false:=by rw[<-Bool.not_eq_true,Nat.beq_eq];exact h
  grind
def X2h.go (id:Nat) (e:X2h) (H:Xz):Xz:=λo=>(e.at id o).getD (H o)
theorem X2h.go_none (id:Nat) (H:Xz):X2h.go id .none H=H:=rfl
theorem X2h.go_new (id:Nat) (x:Obj) (H:Xz):X2h.go id (.new x) H=upd H id (some x):=by
 funext o
 simp only[X2h.go,X2h.at];by_cases h:o=id
 ·subst h;rw[Xk];simp
 ·have:Nat.beq o id=false:=by rw[<-Bool.not_eq_true,Nat.beq_eq];exact h
  rw[this,Xm _ _ h];rfl
theorem X2h.go_app (id old:Nat) (x:Obj) (H:Xz):X2h.go id (.app old x) H=upd (upd H old Option.none) id (some x):=by
 funext o
 simp only[X2h.go,X2h.at];by_cases h:o=id
 ·subst h;rw[Xk];simp
 ·have h1:Nat.beq o id=false:=by rw[<-Bool.not_eq_true,Nat.beq_eq];exact h
  rw[h1,Xm _ _ h,cond_false];by_cases h2:o=old
  ·subst h2;rw[Xk];simp
  ·have h3:Nat.beq o old=false:=by rw[<-Bool.not_eq_true,Nat.beq_eq];exact h2
   rw[h3,Xm _ _ h2];rfl
theorem X2h.go_set (id o':Nat) (x:Obj) (H:Xz):X2h.go id (.set o' x) H=upd H o' (some x):=by
 funext o
 simp only[X2h.go,X2h.at];by_cases h:o=o'
 ·subst h;rw[Xk];simp
 ·have:Nat.beq o o'=false:=by rw[<-Bool.not_eq_true,Nat.beq_eq];exact h
  rw[this,Xm _ _ h];rfl
inductive X091 (q:Nat):AV->AV->Prop
 |ref {len}:X091 q (.ref q 0 len) (.ref 0 0 len)
 |ptr {i k}:X091 q (.ptr q i k) (.ptr 0 i k)
inductive DOp (P:Program) (T:Ty) (A:Nat->AV) (V:Xz) (id:Nat) (o:Oper):AV->X2h->Prop
 |pu {a} (h:Pu T (evA A) V o.op a):DOp P T A V id o a .none
 |zero {a} (h:Mk T (evA A) V id o.op a .none):DOp P T A V id o a .none
 |new {a x} (h:Mk T (evA A) V id o.op a (.new x)) (h1:x.solo=true) (h2:x.spent=false):DOp P T A V id o a (.new x)
 |app {a old x} (h:Mk T (evA A) V id o.op a (.app old x)) (h1:x.solo=true) (h2:x.spent=false):DOp P T A V id o a (.app old x)
 |store {t p x q i k y e ti} (ho:o.op=.store t p x) (hdst:o.dst=none) (hp:evA A p=.ptr q i k) (hH:V q=some y) (he:y.es[i]?=some e) (ht:T t=some ti) (hw:(evA A x).whole=true)
   (hsz:(evA A x).cells.length=ti.size) (hle:k+ti.size<=e.cells.length) (hpos:ti.size≠0):DOp P T A V id o (.sc undef) (.set q { y with es:=y.es.set i (X5q e k (evA A x)) })
 |room {s x g t et n m b ti te xs y} (ho:o.op=.call { callee:=.builtin .append,args:=#[s,x],argTypes:=#[t,t] }) (hs:evA A s=.ref b 0 n) (hg:evA A g=.mref b m) (hH:V b=some y)
   (hn:n<=y.es.length) (hroom:n+xs.length<=m) (hes:y.esz=te.size) (hx:Xnb V (evA A x) xs) (hne:xs≠[]) (ht:T t=some ti) (hk:ti.kind=.slice et) (hte:T et=some te)
   (hsz:∀ e∈xs,e.cells.length=te.size):DOp P T A V id o (.ref b 0 (n+xs.length)) (.set b { y with es:=y.es.take n++xs++y.es.drop (n+xs.length) })
 |pure {x args ts f caps bs r Vr} (ho:o.op=.call { callee:=.value x,args:=args,argTypes:=ts }) (hx:evA A x=.fn f caps)
   (hcv:Cvs false Vr (args.toList.map (evA A)++caps) bs) (hp:X8t P f bs r) (hsub:∀ o x,Vr o=some x->V o=some x) (hr:Xlm r\/((∀ o,Vr o=none)/\∀ M,r.Ok M)):DOp P T A V id o r .none
 |callNew {x args ts f caps bs q len y} (ho:o.op=.call { callee:=.value x,args:=args,argTypes:=ts }) (hx:evA A x=.fn f caps)
   (hcv:Cvs false (λ_=>none) (args.toList.map (evA A)++caps) bs) (hbs:∀ b∈bs,∀ M,b.Ok M) (hp:HC P f bs (λ_=>none) 0 (λr H' _=>r=.ref q 0 len/\H' q=some y)) (hfree:∀ e∈y.es,∀ a∈e.cells,∀ M,a.Ok M)
   (h1:y.solo=true) (h2:y.spent=false):DOp P T A V id o (.ref id 0 len) (.new y)
 |callNewV {x args ts f caps q len y n V'} (ho:o.op=.call { callee:=.value x,args:=args,argTypes:=ts }) (hx:evA A x=.fn f caps)
   (hV':∀ o x,V' o=some x->V o=some x/\o<n/\∀ e∈x.es,∀ a∈e.cells,a.Ok (λq=>∃ z,V' q=some z)) (has:∀ a∈args.toList.map (evA A)++caps,a.Ok (λq=>∃ z,V' q=some z))
   (hp:HC P f (args.toList.map (evA A)++caps) V' n (λr H' _=>r=.ref q 0 len/\H' q=some y/\n<=q/\∀ o x,V' o=some x->H' o=some x)) (hfree:∀ e∈y.es,∀ a∈e.cells,a.Ok (λq=>∃ z,V' q=some z))
   (h1:y.solo=true) (h2:y.spent=false):DOp P T A V id o (.ref id 0 len) (.new y)
 |callSet {x args ts f caps q a0 b0 as y y' v} (ho:o.op=.call { callee:=.value x,args:=args,argTypes:=ts }) (hx:evA A x=.fn f caps) (hq:V q=some y) (h0:X091 q a0 b0)
   (hargs:args.toList.map (evA A)++caps=a0::as) (has:∀ a∈as,∀ M,a.Ok M) (hfree:∀ e∈y.es,∀ a∈e.cells,∀ M,a.Ok M) (hfree':∀ e∈y'.es,∀ a∈e.cells,∀ M,a.Ok M)
   (hp:HC P f (b0::as) (λp=>bif Nat.beq p 0 then some y else Option.none) 1 (λr H' _=>r=.sc v/\H' 0=some y')) (h1:y'.solo=true) (h2:y'.spent=false):DOp P T A V id o (.sc v) (.set q y')
theorem Xlm.ok {a:AV} (h:Xlm a) (M:Nat->Prop):a.Ok M:=by
 induction h with
 |sc=>exact .sc
 |nils=>exact .nils
 |agg _ ih=>exact .agg ih
 |tup _ ih=>exact .tup ih
 |listNil=>exact .list
 |list=>exact .list
theorem Xcr.next {nt n0:Nat} {c0 c c':Ctx} {H0 H:Xz} {A:Nat->AV} {M M':Nat->Prop} {act:Act} (g:Xcr nt c0 H0 n0 c A H M act) {H':Xz} {dst:Option Nat} {a:AV} {v:Value}
  (hd:∀ d,dst=some d->d<nt) (hle:c.Le M c') (hsa:c'.Sa=c.Sa) (hso:∀ b,c'.So b->c.So b\/c.w.heap.size<=b\/∃ o x,H o=some x/\(c.ρ o).blk=b) (hfr:Fr c H c'.w) (hown:Xaf c H c' H')
  (hI:Inv c' H' M') (hs:∀ o x,H' o=some x->x.solo=true/\x.spent=false) (hn:∀ q,M q->M' q) (hv:X0m c' false a v) (hok:a.Ok M') :
  Xcr nt c0 H0 n0 c' (X65 A dst a) H' M' (act.put dst v):=by
 refine⟨hI,hs,?_,?_,?_,g.reach.step hle (λq hq=>g.le0 q hq) hsa hso hfr hown,λq hq=>hn q (g.le0 q hq)⟩
 ·intro t
  cases dst with
  |none=>exact(g.frame t).mono hle (.inr (g.ok t))
  |some d =>
   simp only[X65,Act.put];rw[Xgk (by rw[g.size];grind)];by_cases h:t=d
   ·subst h;rw[if_pos rfl,Xk];exact hv
   ·rw[if_neg h,Xm _ _ h];exact(g.frame t).mono hle (.inr (g.ok t))
 ·intro t
  cases dst with
  |none=>exact(g.ok t).mono hn
  |some d =>
   simp only[X65];by_cases h:t=d
   ·subst h;rw[Xk];exact hok
   ·rw[Xm _ _ h];exact(g.ok t).mono hn
 ·cases dst with
  |none=>exact g.size
  |some d=>simpa[Act.put] using g.size
section
variable {nt n0:Nat} {c0 c:Ctx} {H0 H:Xz} {A:Nat->AV} {M:Nat->Prop} {act:Act}
theorem Xcr.junk (g:Xcr nt c0 H0 n0 c A H M act) {A':Nat->AV} (hA:∀ t,A' t=A t\/A' t=.junk):Xcr nt c0 H0 n0 c A' H M act :=
 ⟨g.inv,g.solo,λt=>by rcases hA t with h|h<;>rw[h];exact g.frame t;exact .junk,λt=>by rcases hA t with h|h<;>rw[h];exact g.ok t;exact .junk,g.size,g.reach,g.le0⟩
theorem Xcr.ev (g:Xcr nt c0 H0 n0 c A H M act) (x:Operand):X0m c false (evA A x) (act.eval x):=by
 cases x with
 |tmp t=>exact Xpt (g.frame t)
 |const v=>exact X7r c false v
 |global k=>exact .sc
 |func f=>exact .fn (λ_=>rfl) (by simp) (λi a v ha _=>by simp at ha)
theorem Xcr.evOk (g:Xcr nt c0 H0 n0 c A H M act) (x:Operand):(evA A x).Ok M:=by
 cases x with
 |tmp t=>exact Xsn (g.ok t)
 |const v=>exact X9i _ v
 |global k=>exact .sc
 |func f=>exact .fn (λa ha=>by simp at ha)
theorem Inv.view (hI:Inv c H M) {V:Xz} (hV:∀ o x,V o=some x->H o=some x):Inv c V M :=
 hI.forget (λo x hx=>⟨x,hV o x hx,rfl,rfl,λh=>h⟩) (λo o' x x' hx hx' hne hb=>by
   have:=hI.sep o o' x x' (hV o x hx) (hV o' x' hx') hne hb
   grind)
theorem Xxc {P:Program} {T:Ty} {o:Oper} {a:AV} {e:Eff} {A':Nat->AV} {V:Xz} {id:Nat} (hT:X7a P T) (g:Xcr nt c0 H0 n0 c A H M act) (hA:∀ t,A' t=A t\/A' t=.junk)
  (hV:∀ o x,V o=some x->H o=some x) (hid:¬ M id) (h:Mk T (evA A') V id o.op a e) (hx:∀ old x,e=.app old x\/e=.new x->x.solo=true/\x.spent=false) (hd:∀ d,o.dst=some d->d<nt)
  (K:Act->World->Prop) (Q:Exit->Act->World->Prop)
  (hK:∀ c' v,Xcr nt c0 H0 n0 c' (X65 A o.dst a) (e.seq id H) (λq=>M q\/q=id) (act.put o.dst v)->K (act.put o.dst v) c'.w):o.wp P act c.w K Q:=by
 have g':=g.junk hA;obtain⟨v,c',h1,hle,hsa,hso,hv,hok,hI1,hfr,hown⟩:=X0as hT g.inv hV hid g'.ev g'.evOk h;unfold Oper.wp;rw[h1];have key:Inv c' (e.seq id H) (λq=>M q\/q=id)/\(∀ o x,e.seq id H o=some x->x.solo=true/\x.spent=false)/\Xaf c H c' (e.seq id H):=by
  cases e with
  |none=>exact⟨hI1,g.solo,hown⟩
  |new x =>
   refine⟨hI1,λo y hy=>?_,hown⟩;simp only[Eff.seq] at hy;by_cases ho:o=id
   ·subst ho;rw[Xk] at hy;simp_all
   ·rw[Xm _ _ ho] at hy;exact g.solo o y hy
  |app old x =>
   have hxs:=hx old x (.inl rfl);have hcase:∀ o y,(Eff.app old x).seq id H o=some y->(o=id/\y=x)\/(o≠id/\o≠old/\H o=some y):=by
    intro o y hy;simp only[Eff.seq] at hy;by_cases ho:o=id
    ·subst ho;rw[Xk] at hy;grind
    grind [Xm,Xk]
   have hback:∀ o y,(Eff.app old x).seq id H o=some y->∃ z,(Eff.app old x).apply id H o=some z/\z.es=y.es/\z.esz=y.esz/\(y.spent=false->z.spent=false):=by
    intro o y hy;rcases hcase o y hy with ⟨rfl,rfl⟩|⟨h1,h2,h3⟩
    ·exact⟨_,Xk _ _ _,rfl,rfl,λh=>h⟩
    ·exact⟨y,by simp_all [Eff.apply,Xm],rfl,rfl,λh=>h⟩
   have hsep:∀ o o' y y',(Eff.app old x).seq id H o=some y->(Eff.app old x).seq id H o'=some y'->o≠o'->(c'.ρ o).blk≠(c'.ρ o').blk:=by
    intro o o' y y' hy hy' hne hb;obtain⟨z,hz,_,_,hsp⟩:=hback o y hy;obtain⟨z',hz',_,_,hsp'⟩:=hback o' y' hy';have hy0:y.spent=false:=by rcases hcase o y hy with ⟨_,rfl⟩|⟨_,_,h3⟩;exact hxs.2;exact(g.solo o y h3).2
    have hy0':y'.spent=false:=by rcases hcase o' y' hy' with ⟨_,rfl⟩|⟨_,_,h3⟩;exact hxs.2;exact(g.solo o' y' h3).2
    have:=((hI1.sep o o' z z' hz hz' hne hb).2 (hsp hy0)).1
    grind
   refine⟨hI1.forget hback λo o' y y' hy hy' hne hb=>absurd hb (hsep o o' y y' hy hy' hne),λo y hy=>?_,λo y hy=>?_⟩
   ·rcases hcase o y hy with ⟨_,rfl⟩|⟨_,_,h3⟩
    ·exact hxs
    ·exact g.solo o y h3
   ·obtain⟨z,hz,_⟩:=hback o y hy;exact hown o z hz
 exact hK c' v (g.next hd hle hsa (λb hb=>.inl (by grind)) hfr key.2.2 key.1 key.2.1 (λq=>.inl) hv hok)
theorem DOp.step {P:Program} {T:Ty} {o:Oper} {a:AV} {e:X2h} {A':Nat->AV} {V:Xz} {id b:Nat} (hT:X7a P T) (g:Xcr nt c0 H0 n0 c A H M act) (hM:∀ q,M q->q<b) (hA:∀ t,A' t=A t\/A' t=.junk)
  (hV:∀ o x,V o=some x->H o=some x) (hid:¬ M id) (h:DOp P T A' V id o a e) (hd:∀ d,o.dst=some d->d<nt)
  (K:Act->World->Prop) (Q:Exit->Act->World->Prop)
  (hK:∀ c' v,Xcr nt c0 H0 n0 c' (X65 A o.dst a) (e.go id H) (λq=>M q\/q=id) (act.put o.dst v)->K (act.put o.dst v) c'.w):o.wp P act c.w K Q:=by
 have g':=g.junk hA;have more:∀ {q},M q->M q\/q=id:=λh=>.inl h
 cases h with
 |pu h =>
  obtain⟨v,h1,h2,h3⟩:=X06b hT (g.inv.view hV) g'.ev g'.evOk h;unfold Oper.wp;rw[h1];exact hK c v (g.next hd (.refl c) rfl (λb hb=>.inl hb) (.refl c H) (λq x hx=>.inr ⟨q,x,hx,rfl⟩) (g.inv.more λq h=>.inl h) g.solo (λq=>.inl) h2 (h3.mono λq h=>.inl h))
 |zero h =>
  refine Xxc hT g hA hV hid h (λold x hx=>by grind) hd K Q λc' v hg=>hK c' v ?_;exact hg
 |@new a x h hs1 hs2 =>
  refine Xxc hT g hA hV hid h (λold y hx=>by grind) hd K Q λc' v hg=>hK c' v ?_;rw[X2h.go_new];exact hg
 |@app a old x h hs1 hs2 =>
  refine Xxc hT g hA hV hid h (λold' y hx=>by grind) hd K Q λc' v hg=>hK c' v ?_;rw[X2h.go_app];exact hg
 |@store t p x q i k y e ti ho hdst hp hH he ht hw hsz hle hpos =>
  have hst:StR T (evA A') H o.op (upd H q (some { y with es:=y.es.set i (X5q e k (evA A' x)) })):=by
   rw[ho];exact .store hp (hV _ _ hH) (g.solo _ _ (hV _ _ hH)).1 he ht hw hsz hle hpos
  obtain⟨c',h1,hle',hsa,hso,hI,hfr,hown⟩:=X09v hT g.inv g'.ev g'.evOk hst;unfold Oper.wp;rw[h1];have hsolo:=hst.solo g.solo;have:=hK c' undef;rw[hdst,X2h.go_set] at this;show K (act.put o.dst undef) c'.w;rw[hdst];exact this (g.next (dst:=none) (λd h=>by cases h) hle' hsa (λb hb=>.inl (by grind)) hfr hown (hI.more λq h=>.inl h) hsolo (λq=>.inl) (a:=.sc undef) .sc .sc)
 |@room s x gg t et n m b ti te xs y ho hs hg hH hn hroom hes hx hne ht hk hte hsz =>
  have hx':Xnb H (evA A' x) xs:=by
   revert hx;generalize evA A' x=u;intro hx
   cases hx with
   |list=>exact .list
   |nils=>exact .nils
   |ref h1 h2=>exact .ref (hV _ _ h1) h2
  obtain⟨v,c',h1,hle',hsa,hso,hv,hok,hI,hfr,hown⟩:=X063 hT g.inv g'.ev g'.evOk ho hs hg (hV _ _ hH) (g.solo _ _ (hV _ _ hH)).1 hn hroom hes hx' hne ht hk hte hsz;unfold Oper.wp;rw[h1];have hsolo:∀ q z,upd H b (some { y with es:=y.es.take n++xs++y.es.drop (n+xs.length) }) q=some z->z.solo=true/\z.spent=false:=by
   intro q z hz;by_cases hq:q=b
   ·subst hq;rw[Xk] at hz;cases hz;exact g.solo q y (hV _ _ hH)
   ·rw[Xm _ _ hq] at hz;exact g.solo q z hz
  refine hK c' v ?_;rw[X2h.go_set];exact g.next hd hle' hsa (λb hb=>.inl (by grind)) hfr hown (hI.more λq h=>.inl h) hsolo (λq=>.inl) hv (hok.mono λq h=>.inl h)
 |@pure x args ts f caps bs r Vr ho hx hcv hp hsub hr =>
  have hcall:=HC.of_pure (H:=H) (n:=b) hp hcv (λo x h=>hV o x (hsub o x h)) (hr.imp (λh=>h) (·.1));let s:St:=⟨A',H,b⟩
  obtain⟨⟨fn,code,hfn⟩,hc⟩:=hcall;have hfx:=g'.ev x;rw[hx] at hfx;have hfo:=g'.evOk x;rw[hx] at hfo;obtain⟨cv,hcv',hcl,hcr⟩:=hfx.fn_inv;let vs:Array Value:=args.map act.eval++cv
  have hrun:(execOp act.eval o).run P c.w=.ok (.enter f vs) c.w:=by
   simp only[execOp,ho,resolve,hcv',Deferred.ofValue,Sem.run_bind,Sem.run_pure,Result.andThen_ok,invoke,callFunc,run_program,hfn.here,hfn.name,hfn.body,Option.isNone_some,Bool.false_eq_true,if_false,Array.empty_append];rfl
  unfold Oper.wp;rw[hrun,Oper.upon_enter];have hrel:Xbr c false (args.toList.map (evA A')++caps) vs:=by
   refine⟨by grind,λi a v ha hv=>?_⟩;rw[List.getElem?_append] at ha;simp only[vs,Array.getElem?_append,Array.size_map] at hv;simp only[List.length_map,Array.length_toList] at ha;by_cases hi:i<args.size
   ·rw[if_pos hi] at ha hv;rw[List.getElem?_map] at ha;rw[Array.getElem?_map] at hv
    cases hq:args[i]? with
    |none=>grind
    |some q =>
     have hq':args.toList[i]?=some q:=by grind
     simp only[hq',Option.map_some,Option.some.injEq] at ha;simp only[hq,Option.map_some,Option.some.injEq] at hv;subst ha hv;exact g'.ev q
   grind
  have hoks:∀ a∈args.toList.map (evA A')++caps,a.Ok (·<b):=by
   intro a ha;rcases List.mem_append.1 ha with ha|ha
   ·obtain⟨q,_,rfl⟩:=List.mem_map.1 ha;exact(g'.evOk q).mono hM
   ·cases hfo with|fn hfo=>exact(hfo a ha).mono hM
  refine(hc c vs (g.inv.more hM) g.solo hrel hoks).mono ?_;rintro e w' ⟨v,r',H',n',c',⟨rfl,rfl,rfl⟩,rfl,rfl,hle,hsa,hso,hfr,hown,hI,hs,hn,hv,hok⟩;have hrefs:r'.Ok M:=by
   rcases hr with h1|h1
   ·exact h1.ok M
   grind
  refine hK c' v (g.next hd (hle.weaken hM) hsa hso hfr hown ?_ hs (λq=>.inl) hv (hrefs.mono λq h=>.inl h));refine⟨λo x hx=>?_,hI.sep,hI.stab,hI.lt,hI.base,hI.own,hI.low,hI.glob⟩;obtain⟨h1,_,h3⟩:=g.inv.obj o x hx;exact⟨.inl h1,(hI.obj o x hx).2.1,λe he a ha=>(h3 e he a ha).mono λq h=>.inl h⟩
 |@callNew x args ts f caps bs q len y ho hx hcv hbs hp hfree hs1 hs2 =>
  obtain⟨⟨fn,code,hfn⟩,hc⟩:=hp;have hfx:=g'.ev x;rw[hx] at hfx;obtain⟨cv,hcv',hcl,hcr⟩:=hfx.fn_inv;let vs:Array Value:=args.map act.eval++cv
  have hrun:(execOp act.eval o).run P c.w=.ok (.enter f vs) c.w:=by
   simp only[execOp,ho,resolve,hcv',Deferred.ofValue,Sem.run_bind,Sem.run_pure,Result.andThen_ok,invoke,callFunc,run_program,hfn.here,hfn.name,hfn.body,Option.isNone_some,Bool.false_eq_true,if_false,Array.empty_append];rfl
  unfold Oper.wp;rw[hrun,Oper.upon_enter];have hI0:Inv c (λ_=>none) (·<0):=⟨(λo x hx=>by cases hx),(λo o' x x' hx=>by cases hx),(λo x hx=>by cases hx),g.inv.lt,g.inv.base,g.inv.own,(λo x hx=>by cases hx),g.inv.glob⟩;have hrel0:Xbr c false (args.toList.map (evA A')++caps) vs:=by
   refine⟨by grind,λi a v ha hv=>?_⟩;rw[List.getElem?_append] at ha;simp only[vs,Array.getElem?_append,Array.size_map] at hv;simp only[List.length_map,Array.length_toList] at ha;by_cases hi:i<args.size
   ·rw[if_pos hi] at ha hv;rw[List.getElem?_map] at ha;rw[Array.getElem?_map] at hv
    cases hq:args[i]? with
    |none=>grind
    |some q =>
     have hq':args.toList[i]?=some q:=by grind
     simp only[hq',Option.map_some,Option.some.injEq] at ha;simp only[hq,Option.map_some,Option.some.injEq] at hv;subst ha hv;exact g'.ev q
   grind
  have hrel:Xbr c false bs vs:=by
   refine⟨by rw[<-hcv.len];grind,λi b v hb hvv=>?_⟩;have hlt:i<(args.toList.map (evA A')++caps).length:=by grind
   have ha:=List.getElem?_eq_getElem hlt;exact(Xyx hI0 (c':=c) rfl (λb hb=>Ctx.S_of_or hb) (λh=>by cases h) (λo x hx=>by cases hx) (hcv.rel i _ b ha hb) (hrel0.rel i _ v ha hvv)).shallow
  refine(hc c vs hI0 (λo x hx=>by cases hx) hrel (λa ha=>hbs a ha _)).mono ?_;rintro e w' ⟨v,r',H',n',c',⟨rfl,hy⟩,rfl,rfl,hle,hsa,hso,hfr,hown,hI,hs,hn,hv,hok⟩;have hold:∀ p,p<c.w.heap.size->c'.w.heap[p]?=c.w.heap[p]?:=λp hp=>hfr.block p hp (λo x hx=>by cases hx);have hblk:∀ o x,H o=some x->(c.ρ o).blk<c.w.heap.size:=by
   intro o x hx;obtain⟨_,⟨⟨cur,hcb,_⟩,_⟩,_⟩:=g.inv.obj o x hx;exact(Array.getElem?_eq_some_iff.1 hcb).1
  have hnew:c.w.heap.size<=(c'.ρ q).blk:=by
   rcases hown q y hy with h|⟨o',x',h,_⟩
   ·exact h
   ·cases h
  have hso':∀ p,c'.So p->c.So p\/c.w.heap.size<=p:=λp hp=>by
   grind
  let c2:Ctx:=⟨c'.w,upd c.ρ id (c'.ρ q),c.Sa,c'.So,c.B⟩
  have hρ:∀ o,o≠id->c2.ρ o=c.ρ o:=λo ho=>Xm _ _ ho;have hρid:c2.ρ id=c'.ρ q:=Xk _ _ _;have hMid:∀ o,M o->o≠id:=λo ho e=>hid (e▸ho);have hle2:c.Le M c2:=⟨λo ho=>hρ o (hMid o ho),λ_ h=>h,λp hp=>hle.so p hp,λp hp=>hold p (g.inv.lt p hp),rfl⟩;have hB:c'.B=c.B:=hle.B;have hle3:c'.Le (λ_=>False) c2:=⟨λo ho=>ho.elim,λp hp=>by grind,λ_ h=>h,λ_ _=>rfl,hB.symm⟩;have hcase:∀ o x,upd H id (some y) o=some x->(o=id/\x=y)\/(o≠id/\H o=some x):=by
   intro o x hx;by_cases ho:o=id
   ·subst ho;rw[Xk] at hx;grind
   grind [Xm]
  have hI2:Inv c2 (upd H id (some y)) (λq=>M q\/q=id):=by
   refine⟨λo x hx=>?_,λo o' x x' hx hx' hne hb=>?_,λo x hx=>?_,λp hp=>?_,by show c.B<=_;rw[<-hB];exact hI.base,λp hp=>by show c.B<=_;rw[<-hB];exact hI.own p hp,λo x hx=>?_,?_⟩
   ·rcases hcase o x hx with ⟨rfl,rfl⟩|⟨hne,hx⟩
    ·obtain⟨_,⟨⟨cur,hb,hss,hcl⟩,h3,h4,h5⟩,_⟩:=hI.obj q x hy;refine⟨.inr rfl,?_,λe he a ha=>hfree e he a ha _⟩;rw[hρid];refine⟨⟨cur,hb,hss,λi e he=>?_⟩,h3,h4,h5⟩;obtain⟨k1,k2⟩:=hcl i e he;exact⟨k1,λk a ha=>by obtain⟨v,hv,hr,h7⟩:=k2 k a ha;exact⟨v,hv,hr.mono hle3 (.inr (hfree e (List.mem_of_getElem? he) a (List.mem_of_getElem? ha) _)),h7⟩⟩
    ·obtain⟨i1,⟨⟨cur,hb,hss,hcl⟩,h3,h4,h5⟩,h6⟩:=g.inv.obj o x hx;refine⟨.inl i1,?_,λe he a ha=>(h6 e he a ha).mono λq h=>.inl h⟩;rw[hρ o hne];refine⟨⟨cur,by grind,hss,λi e he=>?_⟩,h3,h4,h5⟩;obtain⟨k1,k2⟩:=hcl i e he;exact⟨k1,λk a ha=>by obtain⟨v,hv,hr,h7⟩:=k2 k a ha;exact⟨v,hv,hr.mono hle2 (.inr (h6 e (List.mem_of_getElem? he) a (List.mem_of_getElem? ha))),h7⟩⟩
   ·exfalso;rcases hcase o x hx with ⟨rfl,rfl⟩|⟨hn1,hx⟩<;>rcases hcase o' x' hx' with ⟨rfl,rfl⟩|⟨hn2,hx'⟩
    ·exact hne rfl
    ·grind
    ·grind
    ·rw[hρ o hn1,hρ o' hn2] at hb;have:=(g.inv.sep o o' x x' ‹H o=some x› ‹H o'=some x'› hne hb).1;rw[(g.solo o x ‹H o=some x›).1] at this;cases this
   ·rcases hcase o x hx with ⟨rfl,rfl⟩|⟨hne,hx⟩
    ·rw[hρid];have:=hI.stab q x hy
     grind
    ·rw[hρ o hne];have:=g.inv.stab o x hx
     grind
   ·refine hI.lt p (hp.imp (λh=>by grind) λh=>h)
   ·rcases hcase o x hx with ⟨rfl,rfl⟩|⟨hne,hx⟩
    ·rw[hρid];show c.B<=_;rw[<-hB];exact hI.low q x hy
    ·rw[hρ o hne];exact g.inv.low o x hx
   ·exact hI.glob.of (λp hp=>by grind) λ_ _=>rfl
  refine hK c2 v ?_;rw[X2h.go_new];refine g.next (c':=c2) hd hle2 rfl (λp hp=>(hso' p hp).imp (λh=>h) .inl) ⟨hfr.os,hfr.tape,hfr.output,hfr.size,λp hp _=>hold p hp⟩ (λo x hx=>?_) hI2 (λo x hx=>?_) (λq=>.inl) ?_ (.ref (.inr rfl))
  ·grind
  ·rcases hcase o x hx with ⟨rfl,rfl⟩|⟨hne,hx⟩
   ·grind
   ·exact g.solo o x hx
  ·obtain⟨hp,hle'⟩:=hv.ref_inv;rw[hp];have:X0m c2 false (.ref id 0 len) (.slice (some ⟨(c2.ρ id).blk,0*(c2.ρ id).esz,none⟩) len ((c2.ρ id).cap - 0)):=.ref (by grind)
   grind
 |@callSet x args ts f caps q a0 b0 as y y' v ho hx hq h0 hargs has hfree hfree' hp hs1 hs2 =>
  obtain⟨⟨fn,code,hfn⟩,hc⟩:=hp;have hfx:=g'.ev x;rw[hx] at hfx;obtain⟨cv,hcv',hcl,hcr⟩:=hfx.fn_inv;let vs:Array Value:=args.map act.eval++cv
  have hrun:(execOp act.eval o).run P c.w=.ok (.enter f vs) c.w:=by
   simp only[execOp,ho,resolve,hcv',Deferred.ofValue,Sem.run_bind,Sem.run_pure,Result.andThen_ok,invoke,callFunc,run_program,hfn.here,hfn.name,hfn.body,Option.isNone_some,Bool.false_eq_true,if_false,Array.empty_append];rfl
  unfold Oper.wp;rw[hrun,Oper.upon_enter];have hqH:H q=some y:=hV _ _ hq;have hrel0:Xbr c false (args.toList.map (evA A')++caps) vs:=by
   refine⟨by grind,λi a v ha hv=>?_⟩;rw[List.getElem?_append] at ha;simp only[vs,Array.getElem?_append,Array.size_map] at hv;simp only[List.length_map,Array.length_toList] at ha;by_cases hi:i<args.size
   ·rw[if_pos hi] at ha hv;rw[List.getElem?_map] at ha;rw[Array.getElem?_map] at hv
    cases hq:args[i]? with
    |none=>grind
    |some q =>
     have hq':args.toList[i]?=some q:=by grind
     simp only[hq',Option.map_some,Option.some.injEq] at ha;simp only[hq,Option.map_some,Option.some.injEq] at hv;subst ha hv;exact g'.ev q
   grind
  rw[hargs] at hrel0;let c1:Ctx:={ c with ρ:=λ_=>c.ρ q }
  have hle1:c.Le (λ_=>False) c1:=⟨λo ho=>ho.elim,λ_ h=>h,λ_ h=>h,λ_ _=>rfl,rfl⟩;let H1:Xz:=λp=>bif Nat.beq p 0 then some y else none
  have hH1:∀ o z,H1 o=some z->o=0/\z=y:=by
   intro o z hz;simp only[H1] at hz
   cases hb:Nat.beq o 0 with
   |true=>simp_all
   |false=>grind
  obtain⟨i1,⟨⟨cur,hcb,hcs,hcc⟩,hfit,hpos,hsame⟩,_⟩:=g.inv.obj q y hqH;have hI0:Inv c1 H1 (·<1):=by
   refine⟨λo z hz=>?_,λo o' z z' hz hz' hne=>?_,λo z hz=>?_,g.inv.lt,g.inv.base,g.inv.own,λo z hz=>?_,g.inv.glob.rho _⟩
   ·obtain⟨rfl,rfl⟩:=hH1 o z hz;refine⟨Nat.one_pos,⟨⟨cur,hcb,hcs,λi e he=>?_⟩,hfit,hpos,hsame⟩,λe he a ha=>hfree e he a ha _⟩;obtain⟨k1,k2⟩:=hcc i e he;exact⟨k1,λk a ha=>by obtain⟨v,hv,hr,h7⟩:=k2 k a ha;exact⟨v,hv,hr.mono hle1 (.inr (hfree e (List.mem_of_getElem? he) a (List.mem_of_getElem? ha) _)),h7⟩⟩
   ·grind
   ·obtain⟨rfl,rfl⟩:=hH1 o z hz;exact g.inv.stab q z hqH
   ·obtain⟨rfl,rfl⟩:=hH1 o z hz;exact g.inv.low q z hqH
  have hrel:Xbr c1 false (b0::as) vs:=by
   refine⟨hrel0.len,λi a v ha hv=>?_⟩
   cases i with
   |zero =>
    have ha:some b0=some a:=ha;cases ha
    have h1:=hrel0.rel 0 _ v rfl hv
    cases h0 with
    |ref=>cases h1 with|ref hle=>exact .ref (c:=c1) (o:=0) hle
    |ptr=>cases h1;exact .ptr (c:=c1) (o:=0)
   |succ i =>
    have ha:as[i]?=some a:=ha;exact(hrel0.rel (i+1) a v ha hv).mono hle1 (.inr (has a (List.mem_of_getElem? ha) _))
  refine(hc c1 vs hI0 (λo z hz=>by obtain⟨rfl,rfl⟩:=hH1 o z hz;exact g.solo q z hqH) hrel (λa ha=>by
   rcases List.mem_cons.1 ha with rfl|ha
   ·cases h0 with
    |ref=>exact .ref Nat.one_pos
    |ptr=>exact .ptr Nat.one_pos
   grind)).mono ?_
  rintro e w' ⟨u,r',H',n',c',⟨rfl,hy⟩,rfl,rfl,hle,hsa,hso,hfr,hown,hI,hs,hn,hv,hok⟩;have hρ0:c'.ρ 0=c.ρ q:=hle.rho 0 Nat.one_pos;have hblk:∀ o x,H o=some x->(c.ρ o).blk<c.w.heap.size:=by
   intro o x hx;obtain⟨_,⟨⟨cur,hcb,_⟩,_⟩,_⟩:=g.inv.obj o x hx
   grind
  have hsep:∀ o x,H o=some x->o≠q->(c.ρ o).blk≠(c.ρ q).blk:=λo x hx hne hb=>by
   have:=(g.inv.sep o q x y hx hqH hne hb).1;rw[(g.solo o x hx).1] at this;cases this
  have hso':∀ p,c'.So p->c.So p\/c.w.heap.size<=p:=λp hp=>by
   rcases hso p hp with h|h|⟨o,z,h,h2⟩
   ·exact .inl h
   ·exact .inr h
   ·exfalso;have h2:(c.ρ q).blk=p:=h2;have:=(hI.stab 0 y' hy).2
    grind
  have hold:∀ p,p<c.w.heap.size->(c.ρ q).blk≠p->c'.w.heap[p]?=c.w.heap[p]?:=λp hp hn=>hfr.block p hp λo z _=>hn;have holdS:∀ p,c.Sa p\/c.So p->c'.w.heap[p]?=c.w.heap[p]?:=hle.heap;let c2:Ctx:=⟨c'.w,c.ρ,c.Sa,c'.So,c.B⟩
  have hle2:c.Le M c2:=⟨λo ho=>rfl,λ_ h=>h,λp hp=>hle.so p hp,holdS,rfl⟩;have hB:c'.B=c.B:=hle.B;have hle3:c'.Le (λ_=>False) c2:=⟨λo ho=>ho.elim,λp hp=>by grind,λ_ h=>h,λ_ _=>rfl,hB.symm⟩;have hcase:∀ o x,upd H q (some y') o=some x->(o=q/\x=y')\/(o≠q/\H o=some x):=by
   intro o x hx;by_cases ho:o=q
   ·subst ho;rw[Xk] at hx;grind
   grind [Xm]
  have hI2:Inv c2 (upd H q (some y')) (λp=>M p\/p=id):=by
   refine⟨λo x hx=>?_,λo o' x x' hx hx' hne hb=>?_,λo x hx=>?_,λp hp=>?_,by show c.B<=_;rw[<-hB];exact hI.base,λp hp=>by show c.B<=_;rw[<-hB];exact hI.own p hp,λo x hx=>?_,?_⟩
   ·rcases hcase o x hx with ⟨rfl,rfl⟩|⟨hne,hx⟩
    ·obtain⟨_,⟨⟨cur',hb,hss,hcl⟩,h3,h4,h5⟩,_⟩:=hI.obj 0 x hy;rw[hρ0] at hb hss hcl h3 h4 h5;refine⟨.inl i1,⟨⟨cur',hb,hss,λi e he=>?_⟩,h3,h4,h5⟩,λe he a ha=>hfree' e he a ha _⟩;obtain⟨k1,k2⟩:=hcl i e he;exact⟨k1,λk a ha=>by obtain⟨v,hv,hr,h7⟩:=k2 k a ha;exact⟨v,hv,hr.mono hle3 (.inr (hfree' e (List.mem_of_getElem? he) a (List.mem_of_getElem? ha) _)),h7⟩⟩
    ·obtain⟨j1,⟨⟨cur',hb,hss,hcl⟩,h3,h4,h5⟩,h6⟩:=g.inv.obj o x hx;refine⟨.inl j1,⟨⟨cur',by grind,hss,λi e he=>?_⟩,h3,h4,h5⟩,λe he a ha=>(h6 e he a ha).mono λq h=>.inl h⟩;obtain⟨k1,k2⟩:=hcl i e he;exact⟨k1,λk a ha=>by obtain⟨v,hv,hr,h7⟩:=k2 k a ha;exact⟨v,hv,hr.mono hle2 (.inr (h6 e (List.mem_of_getElem? he) a (List.mem_of_getElem? ha))),h7⟩⟩
   ·exfalso;rcases hcase o x hx with ⟨rfl,rfl⟩|⟨hn1,hx⟩<;>rcases hcase o' x' hx' with ⟨rfl,rfl⟩|⟨hn2,hx'⟩
    ·exact hne rfl
    ·grind
    ·grind
    ·have:=(g.inv.sep o o' x x' ‹H o=some x› ‹H o'=some x'› hne hb).1;rw[(g.solo o x ‹H o=some x›).1] at this;cases this
   ·have hold1:∀ o z,H o=some z->¬ c2.Sa (c2.ρ o).blk/\¬ c2.So (c2.ρ o).blk:=λo z hz=>by
     have:=g.inv.stab o z hz
     grind
    grind
   ·refine hI.lt p (hp.imp (λh=>by grind) λh=>h)
   ·rcases hcase o x hx with ⟨rfl,rfl⟩|⟨hne,hx⟩
    ·exact g.inv.low o y hqH
    ·exact g.inv.low o x hx
   ·exact hI.glob.of (λp hp=>by grind) λ_ _=>rfl
  refine hK c2 u ?_;rw[X2h.go_set];have hu:=hv.sc_inv;refine g.next (c':=c2) hd hle2 rfl (λp hp=>(hso' p hp).imp (λh=>h) .inl) ⟨hfr.os,hfr.tape,hfr.output,hfr.size,λp hp hn=>hold p hp (hn q y hqH)⟩ (λo x hx=>?_) hI2 (λo x hx=>?_) (λq=>.inl) (by rw[<-hu];exact .sc) .sc
  ·grind
  ·rcases hcase o x hx with ⟨rfl,rfl⟩|⟨hne,hx⟩
   ·grind
   ·exact g.solo o x hx
 |@callNewV x args ts f caps q len y n V' ho hx hV' has hp hfree hs1 hs2 =>
  obtain⟨⟨fn,code,hfn⟩,hc⟩:=hp;have hfx:=g'.ev x;rw[hx] at hfx;obtain⟨cv,hcv',hcl,hcr⟩:=hfx.fn_inv;let vs:Array Value:=args.map act.eval++cv
  have hrun:(execOp act.eval o).run P c.w=.ok (.enter f vs) c.w:=by
   simp only[execOp,ho,resolve,hcv',Deferred.ofValue,Sem.run_bind,Sem.run_pure,Result.andThen_ok,invoke,callFunc,run_program,hfn.here,hfn.name,hfn.body,Option.isNone_some,Bool.false_eq_true,if_false,Array.empty_append];rfl
  unfold Oper.wp;rw[hrun,Oper.upon_enter];have hVH:∀ o x,V' o=some x->H o=some x:=λo x hx=>hV _ _ (hV' o x hx).1;have hVM:∀ o,(∃ z,V' o=some z)->M o:=λo ⟨z,hz⟩=>(g.inv.obj o z (hVH o z hz)).1;have hI0:Inv c V' (·<n):=by
   have h:=g.inv.view hVH;refine⟨λo x hx=>?_,h.sep,h.stab,h.lt,h.base,h.own,h.low,h.glob⟩;obtain⟨_,h2,_⟩:=h.obj o x hx;exact⟨(hV' o x hx).2.1,h2,λe he a ha=>((hV' o x hx).2.2 e he a ha).mono λq ⟨z,hz⟩=>(hV' q z hz).2.1⟩
  have hrel:Xbr c false (args.toList.map (evA A')++caps) vs:=by
   refine⟨by grind,λi a v ha hv=>?_⟩;rw[List.getElem?_append] at ha;simp only[vs,Array.getElem?_append,Array.size_map] at hv;simp only[List.length_map,Array.length_toList] at ha;by_cases hi:i<args.size
   ·rw[if_pos hi] at ha hv;rw[List.getElem?_map] at ha;rw[Array.getElem?_map] at hv
    cases hq:args[i]? with
    |none=>grind
    |some q =>
     have hq':args.toList[i]?=some q:=by grind
     simp only[hq',Option.map_some,Option.some.injEq] at ha;simp only[hq,Option.map_some,Option.some.injEq] at hv;subst ha hv;exact g'.ev q
   grind
  refine(hc c vs hI0 (λo x hx=>g.solo o x (hVH o x hx)) hrel (λa ha=>(has a ha).mono λq ⟨z,hz⟩=>(hV' q z hz).2.1)).mono ?_;rintro e w' ⟨v,r',H',n',c',⟨rfl,hy,hqn,hkeep⟩,rfl,rfl,hle,hsa,hso,hfr,hown,hI,hs,hn,hv,hok⟩;have hblk:∀ o x,H o=some x->(c.ρ o).blk<c.w.heap.size:=by
   intro o x hx;obtain⟨_,⟨⟨cur,hcb,_⟩,_⟩,_⟩:=g.inv.obj o x hx
   grind
  have hρn:∀ o,(∃ z,V' o=some z)->c'.ρ o=c.ρ o:=λo ⟨z,hz⟩=>hle.rho o (hV' o z hz).2.1;have hqV:∀ o x,V' o=some x->(c'.ρ q).blk≠(c.ρ o).blk:=λo x hx hb=>by
   have hne:q≠o:=λe=>by grind
   rw[<-hρn o ⟨x,hx⟩] at hb;have:=(hI.sep q o y x hy (hkeep o x hx) hne hb).1;rw[hs1] at this;cases this
  have hnew:c.w.heap.size<=(c'.ρ q).blk:=by
   rcases hown q y hy with h|⟨o',x',h,h2⟩
   ·exact h
   ·exact absurd h2.symm (hqV o' x' h)
  have hso':∀ p,c'.So p->c.So p\/c.w.heap.size<=p:=λp hp=>by
   rcases hso p hp with h|h|⟨o,x,h,h2⟩
   ·exact .inl h
   ·exact .inr h
   ·exfalso;have:=(hI.stab o x (hkeep o x h)).2
    simp_all
  have hold:∀ p,p<c.w.heap.size->(∀ o x,V' o=some x->(c.ρ o).blk≠p)->c'.w.heap[p]?=c.w.heap[p]?:=λp hp hn=>hfr.block p hp hn;have holdS:∀ p,c.Sa p\/c.So p->c'.w.heap[p]?=c.w.heap[p]?:=hle.heap;let c2:Ctx:=⟨c'.w,upd c.ρ id (c'.ρ q),c.Sa,c'.So,c.B⟩
  have hρ:∀ o,o≠id->c2.ρ o=c.ρ o:=λo ho=>Xm _ _ ho;have hρid:c2.ρ id=c'.ρ q:=Xk _ _ _;have hMid:∀ o,M o->o≠id:=λo ho e=>hid (e▸ho);have hle2:c.Le M c2:=⟨λo ho=>hρ o (hMid o ho),λ_ h=>h,λp hp=>hle.so p hp,holdS,rfl⟩;have hB:c'.B=c.B:=hle.B;have hle3:c'.Le (λo=>∃ z,V' o=some z) c2:=⟨λo ho=>(hρ o (hMid o (hVM o ho))).trans (hρn o ho).symm,λp hp=>by grind,λ_ h=>h,λ_ _=>rfl,hB.symm⟩;have hcase:∀ o x,upd H id (some y) o=some x->(o=id/\x=y)\/(o≠id/\H o=some x):=by
   intro o x hx;by_cases ho:o=id
   ·subst ho;rw[Xk] at hx;grind
   grind [Xm]
  have hI2:Inv c2 (upd H id (some y)) (λq=>M q\/q=id):=by
   refine⟨λo x hx=>?_,λo o' x x' hx hx' hne hb=>?_,λo x hx=>?_,λp hp=>?_,by show c.B<=_;rw[<-hB];exact hI.base,λp hp=>by show c.B<=_;rw[<-hB];exact hI.own p hp,λo x hx=>?_,?_⟩
   ·rcases hcase o x hx with ⟨rfl,rfl⟩|⟨hne,hx⟩
    ·obtain⟨_,⟨⟨cur,hb,hss,hcl⟩,h3,h4,h5⟩,_⟩:=hI.obj q x hy;refine⟨.inr rfl,?_,λe he a ha=>(hfree e he a ha).mono λq hq=>.inl (hVM q hq)⟩;rw[hρid];refine⟨⟨cur,hb,hss,λi e he=>?_⟩,h3,h4,h5⟩;obtain⟨k1,k2⟩:=hcl i e he;exact⟨k1,λk a ha=>by obtain⟨v,hv,hr,h7⟩:=k2 k a ha;exact⟨v,hv,hr.mono hle3 (.inr (hfree e (List.mem_of_getElem? he) a (List.mem_of_getElem? ha))),h7⟩⟩
    ·obtain⟨i1,⟨⟨cur,hb,hss,hcl⟩,h3,h4,h5⟩,h6⟩:=g.inv.obj o x hx;refine⟨.inl i1,?_,λe he a ha=>(h6 e he a ha).mono λq h=>.inl h⟩;rw[hρ o hne];by_cases hin:∃ z,V' o=some z
     ·obtain⟨z,hz⟩:=hin;have hzx:z=x:=by grind
      subst hzx;obtain⟨_,⟨⟨cur',hb',hss',hcl'⟩,h3',h4',h5'⟩,_⟩:=hI.obj o z (hkeep o z hz);rw[hρn o ⟨z,hz⟩] at hb' hss' hcl' h3' h4' h5';refine⟨⟨cur',hb',hss',λi e he=>?_⟩,h3',h4',h5'⟩;obtain⟨k1,k2⟩:=hcl' i e he;exact⟨k1,λk a ha=>by obtain⟨v,hv,hr,h7⟩:=k2 k a ha;exact⟨v,hv,hr.mono hle3 (.inr ((hV' o z hz).2.2 e (List.mem_of_getElem? he) a (List.mem_of_getElem? ha))),h7⟩⟩
     ·have hnb:∀ o' x',V' o'=some x'->(c.ρ o').blk≠(c.ρ o).blk:=λo' x' hx' hb=>by
       have hne':o'≠o:=λe=>hin ⟨x',e▸hx'⟩;have:=(g.inv.sep o' o x' x (hVH o' x' hx') hx hne' hb).1
       grind
      refine⟨⟨cur,by grind,hss,λi e he=>?_⟩,h3,h4,h5⟩;obtain⟨k1,k2⟩:=hcl i e he;exact⟨k1,λk a ha=>by obtain⟨v,hv,hr,h7⟩:=k2 k a ha;exact⟨v,hv,hr.mono hle2 (.inr (h6 e (List.mem_of_getElem? he) a (List.mem_of_getElem? ha))),h7⟩⟩
   ·exfalso;rcases hcase o x hx with ⟨rfl,rfl⟩|⟨hn1,hx⟩<;>rcases hcase o' x' hx' with ⟨rfl,rfl⟩|⟨hn2,hx'⟩
    ·exact hne rfl
    ·grind
    ·grind
    ·rw[hρ o hn1,hρ o' hn2] at hb;have:=(g.inv.sep o o' x x' ‹H o=some x› ‹H o'=some x'› hne hb).1;rw[(g.solo o x ‹H o=some x›).1] at this;cases this
   ·rcases hcase o x hx with ⟨rfl,rfl⟩|⟨hne,hx⟩
    ·rw[hρid];have:=hI.stab q x hy
     grind
    ·rw[hρ o hne];have:=g.inv.stab o x hx
     grind
   ·refine hI.lt p (hp.imp (λh=>by grind) λh=>h)
   ·rcases hcase o x hx with ⟨rfl,rfl⟩|⟨hne,hx⟩
    ·rw[hρid];show c.B<=_;rw[<-hB];exact hI.low q x hy
    ·rw[hρ o hne];exact g.inv.low o x hx
   ·exact hI.glob.of (λp hp=>by grind) λ_ _=>rfl
  refine hK c2 v ?_;rw[X2h.go_new];refine g.next (c':=c2) hd hle2 rfl (λp hp=>(hso' p hp).imp (λh=>h) .inl) ⟨hfr.os,hfr.tape,hfr.output,hfr.size,λp hp hn=>hold p hp λo x hx=>hn o x (hVH o x hx)⟩ (λo x hx=>?_) hI2 (λo x hx=>?_) (λq=>.inl) ?_ (.ref (.inr rfl))
  ·grind
  ·rcases hcase o x hx with ⟨rfl,rfl⟩|⟨hne,hx⟩
   ·grind
   ·exact g.solo o x hx
  ·obtain⟨hp,hle'⟩:=hv.ref_inv;rw[hp];have:X0m c2 false (.ref id 0 len) (.slice (some ⟨(c2.ρ id).blk,0*(c2.ρ id).esz,none⟩) len ((c2.ρ id).cap - 0)):=.ref (by grind)
   grind
end
end Go.Av


namespace Go.Av
variable [Gls]
def Xje:Op->Bool
 |.move _|.assign _|.pick ..|.binOp ..|.unOp ..|.convert ..|.fieldAddr ..|.field ..|.extract ..|.nilCheck _|.index ..|.slice _ _ none (some (.const _)) none=>true
 |_=>false
def X5b (i mi:Nat):Nat->List Oper->List Nat->List Nat
 |k,o::r,m::ms =>
  let rest:=X5b i mi (k+1) r ms
  match o.dst with
  |none=>rest
  |some d=>bif Nat.beq k i then rest else bif Nat.blt k i then (bif Nat.testBit mi k then rest else d::rest) else (bif Nat.testBit m i then rest else d::rest)
 |_,_,_=>[]
def Xo5 (t:Nat):List Nat->Bool
 |[]=>false
 |a::r=>Nat.beq t a||Xo5 t r
theorem Xjc {t:Nat} {l:List Nat}:Xo5 t l=true↔t∈l:=by
 induction l with
 |nil=>simp[Xo5]
 |cons a r ih=>simp_all [Xo5,Bool.or_eq_true,Nat.beq_eq,List.mem_cons]
theorem Xsg {i mi:Nat}:∀ (l:List Oper) (ms:List Nat) (k0 k:Nat) (o:Oper) (m d:Nat),l[k]?=some o->ms[k]?=some m->o.dst=some d->k0+k≠i ->
  (k0+k<i->Nat.testBit mi (k0+k)=false)->(i<k0+k->Nat.testBit m i=false)->d∈X5b i mi k0 l ms:=by
 intro l
 induction l with
 |nil=>grind
 |cons a l ih =>
  intro ms k0 k o m d ho hm hd hne h1 h2
  cases ms with
  |nil=>simp at hm
  |cons b ms =>
   cases k with
   |zero =>
    simp at ho hm;subst ho hm;simp only[X5b,hd];have hb:Nat.beq k0 i=false:=by rw[<-Bool.not_eq_true,Nat.beq_eq];grind
    rw[hb,cond_false];by_cases hlt:k0<i
    ·have:Nat.blt k0 i=true:=by simp_all
     grind
    ·have:Nat.blt k0 i=false:=by rw[<-Bool.not_eq_true];simp_all
     grind
   |succ k =>
    simp at ho hm;have:=ih ms (k0+1) k o m d ho hm hd om (λh=>by grind) (λh=>h2 om);simp only[X5b]
    grind
def frD (bad:List Nat) (A:Nat->AV):Nat->AV:=λt=>bif Xo5 t bad then .junk else A t
def Xea (base mi o:Nat):Nat->List X2h->Bool
 |k,e::es=>(Xo5 o (e.objs (base+k))&&!Nat.testBit mi k)||Xea base mi o (k+1) es
 |_,[]=>false
def Xat (base mi:Nat) (hf:Nat->Bool) (es:List X2h) (o:Nat):Bool :=
 hf o||(Nat.ble base o&&!Nat.testBit mi (o - base))||Xea base mi o 0 es
def hpD (base mi:Nat) (hf:Nat->Bool) (es:List X2h) (H:Xz):Xz:=λo=>bif Xat base mi hf es o then none else H o
def X51 (base mk:Nat) (os:List Nat):Nat->List (Nat×(Nat->Bool))->List X2h->List X2h->Bool
 |i,(mi,hf)::ms,pre,e::es =>
  (Nat.testBit mk i||os.all (λo=>Xat base mi hf pre o&&!Xo5 o (e.objs (base+i))))&&X51 base mk os (i+1) ms (pre++[e]) es
 |_,_,_,_=>true
theorem Xm6 {base mi o:Nat}:∀ (es:List X2h) (k0 k:Nat) (e:X2h),es[k]?=some e->Xea base mi o k0 es=false->o∈e.objs (base+(k0+k))->Nat.testBit mi (k0+k)=true:=by
 intro es
 induction es with
 |nil=>grind
 |cons a es ih =>
  intro k0 k e he h ho;simp only[Xea,Bool.or_eq_false_iff] at h
  cases k with
  |zero =>
   simp_all [Xo5,Xjc,Bool.true_and]
  |succ k =>
   grind
theorem Xpp {base mk:Nat} {os:List Nat}:∀ (es:List X2h) (i0:Nat) (ms:List (Nat×(Nat->Bool))) (pre:List X2h),X51 base mk os i0 ms pre es=true->ms.length=es.length ->
  ∀ (i:Nat) (e:X2h) (m:Nat×(Nat->Bool)),es[i]?=some e->ms[i]?=some m->Nat.testBit mk (i0+i)=true\/∀ o∈os,Xat base m.1 m.2 (pre++es.take i) o=true/\o ∉ e.objs (base+(i0+i)):=by
 intro es
 induction es with
 |nil=>grind
 |cons a es ih =>
  intro i0 ms pre h hl i e m he hm
  cases ms with
  |nil=>simp at hl
  |cons b ms =>
   obtain⟨mi,hf⟩:=b;simp only[X51,Bool.and_eq_true] at h
   cases i with
   |zero =>
    simp at he hm;subst he hm;rcases Bool.or_eq_true_iff.1 h.1 with h1|h1
    ·exact .inl h1
    ·right;intro o ho;have:=List.all_eq_true.1 h1 o ho;simp only[Bool.and_eq_true,Bool.not_eq_true',<-Bool.not_eq_true,Xjc] at this
     grind
   |succ i =>
    grind
def X8h (nt:Nat) (bad:List Nat):Option Nat->Bool
 |some d=>Nat.blt d nt&&!Xo5 d bad
 |none=>true
def Xex (want:Bool):Value->Bool
 |.bool b=>b==want
 |_=>false
def hz0 (o:Oper) (_:Nat):Bool:=Xje o.op
inductive Xve (hz:Oper->Nat->Bool) (P:Program) (T:Ty) (nt base:Nat) (ops:Array Oper) (ms:List Nat):Nat->List Oper->(Nat->AV)->Xz->List X2h->(Nat->AV)->Xz->Prop
 |nil {i A H es}:Xve hz P T nt base ops ms i [] A H es A H
 |op {i o l A H es a e A' H'} (hg:o.guard=none) (hd:X8h nt (X5b i (ms.getD i 0) 0 ops.toList ms) o.dst=true)
   (h:DOp P T (frD (X5b i (ms.getD i 0) 0 ops.toList ms) A) (hpD base (ms.getD i 0) (hz o) es H) (base+i) o a e)
   (hw:X51 base (ms.getD i 0) (e.objs (base+i)) 0 ((ms.zip (ops.toList.map hz)).take i) [] es=true)
   (k:Xve hz P T nt base ops ms (i+1) l (X65 A o.dst a) (e.go (base+i) H) (es++[e]) A' H'):Xve hz P T nt base ops ms i (o::l) A H es A' H'
 |run {i o l A H es a e A' H' j t want} (hg:o.guard=some (j,want)) (hd:X8h nt (X5b i (ms.getD i 0) 0 ops.toList ms) o.dst=true) (hj:(ops[j]?).bind (·.dst)=some t) (ht:Nat.blt t nt=true)
   (hb:X52 (frD (X5b i (ms.getD i 0) 0 ops.toList ms) A t)=.sc (.bool want))
   (h:DOp P T (frD (X5b i (ms.getD i 0) 0 ops.toList ms) A) (hpD base (ms.getD i 0) (hz o) es H) (base+i) o a e)
   (hw:X51 base (ms.getD i 0) (e.objs (base+i)) 0 ((ms.zip (ops.toList.map hz)).take i) [] es=true)
   (k:Xve hz P T nt base ops ms (i+1) l (X65 A o.dst a) (e.go (base+i) H) (es++[e]) A' H'):Xve hz P T nt base ops ms i (o::l) A H es A' H'
 |skip {i o l A H es A' H' j t want v} (hg:o.guard=some (j,want)) (hd:X8h nt (X5b i (ms.getD i 0) 0 ops.toList ms) o.dst=true) (hj:(ops[j]?).bind (·.dst)=some t) (ht:Nat.blt t nt=true)
   (hb:X52 (frD (X5b i (ms.getD i 0) 0 ops.toList ms) A t)=.sc v) (hbw:Xex want v=false)
   (k:Xve hz P T nt base ops ms (i+1) l (X65 A o.dst (.sc undef)) H (es++[.none]) A' H'):Xve hz P T nt base ops ms i (o::l) A H es A' H'
inductive DOne (hz:Oper->Nat->Bool) (P:Program) (T:Ty) (nt base:Nat) (ops:Array Oper) (ms:List Nat) (i:Nat) (o:Oper) (A:Nat->AV) (H:Xz) (es:List X2h):AV->X2h->Prop
 |run {a e} (hg:o.guard=none\/∃ j t want,o.guard=some (j,want)/\(ops[j]?).bind (·.dst)=some t/\t<nt/\X52 (frD (X5b i (ms.getD i 0) 0 ops.toList ms) A t)=.sc (.bool want))
   (h:DOp P T (frD (X5b i (ms.getD i 0) 0 ops.toList ms) A) (hpD base (ms.getD i 0) (hz o) es H) (base+i) o a e):DOne hz P T nt base ops ms i o A H es a e
 |skip {j t want v} (hg:o.guard=some (j,want)) (hj:(ops[j]?).bind (·.dst)=some t) (ht:t<nt)
   (hb:X52 (frD (X5b i (ms.getD i 0) 0 ops.toList ms) A t)=.sc v) (hbw:Xex want v=false):DOne hz P T nt base ops ms i o A H es (.sc undef) .none
def X6j (l:List Oper) (rs:List (AV×X2h)) (k:Nat) (A:Nat->AV):Nat->AV :=
 match l[k]?,rs[k]? with
 |some o,some r=>X65 A o.dst r.1
 |_,_=>A
def X7e (base:Nat) (rs:List (AV×X2h)) (k:Nat) (H:Xz):Xz :=
 match rs[k]? with
 |some r=>r.2.go (base+k) H
 |none=>H
structure DAll (hz:Oper->Nat->Bool) (P:Program) (T:Ty) (nt base:Nat) (ops:Array Oper) (ms:List Nat) (A:Nat->AV) (H:Xz) (rs:List (AV×X2h)):Prop where
 len:rs.length=ops.toList.length
 one:∀ (i:Nat) o r,ops.toList[i]?=some o->rs[i]?=some r->X8h nt (X5b i (ms.getD i 0) 0 ops.toList ms) o.dst=true /\
  DOne hz P T nt base ops ms i o (X1k (X6j ops.toList rs) (λ_=>true) i A) (X1k (X7e base rs) (λ_=>true) i H) ((rs.take i).map (·.2)) r.1 r.2 /\
  X51 base (ms.getD i 0) (r.2.objs (base+i)) 0 ((ms.zip (ops.toList.map hz)).take i) [] ((rs.take i).map (·.2))=true
theorem Xk2 {base mk i:Nat}:∀ (es:List X2h) (k:Nat) (ms:List (Nat×(Nat->Bool))) (pre:List X2h),X51 base mk [] k ms pre es=true:=by
 intro es
 induction es with
 |nil=>grind [X51]
 |cons a es ih=>intro k ms pre;cases ms<;>simp[X51,ih]
theorem Xl9 {V:Type} {f g:Nat->V->V} {S:Nat->Bool}:∀ (n:Nat) (v:V),(∀ k,k<n->∀ u,f k u=g k u)->X1k f S n v=X1k g S n v
 |0,_,_=>rfl
 |n+1,v,h=>by simp only[X1k,Xl9 n v (λk hk=>h k om),h n om]
theorem Xve.all {hz:Oper->Nat->Bool} {P:Program} {T:Ty} {nt base:Nat} {ops:Array Oper} {ms:List Nat} {i:Nat} {l:List Oper} {A:Nat->AV} {H:Xz} {es:List X2h} {A':Nat->AV} {H':Xz}
  (h:Xve hz P T nt base ops ms i l A H es A' H'):∀ (A0:Nat->AV) (H0:Xz) (rs:List (AV×X2h)),i<=ops.toList.length->rs.length=i->es=rs.map (·.2)->ops.toList.drop i=l->A=X1k (X6j ops.toList rs) (λ_=>true) i A0->H=X1k (X7e base rs) (λ_=>true) i H0 ->
   (∀ (k:Nat) o r,ops.toList[k]?=some o->rs[k]?=some r->X8h nt (X5b k (ms.getD k 0) 0 ops.toList ms) o.dst=true /\
    DOne hz P T nt base ops ms k o (X1k (X6j ops.toList rs) (λ_=>true) k A0) (X1k (X7e base rs) (λ_=>true) k H0) ((rs.take k).map (·.2)) r.1 r.2 /\
    X51 base (ms.getD k 0) (r.2.objs (base+k)) 0 ((ms.zip (ops.toList.map hz)).take k) [] ((rs.take k).map (·.2))=true) ->
   ∃ rs',DAll hz P T nt base ops ms A0 H0 rs'/\A'=X1k (X6j ops.toList rs') (λ_=>true) ops.toList.length A0/\H'=X1k (X7e base rs') (λ_=>true) ops.toList.length H0:=by
 have ext:∀ (i:Nat) (o:Oper) (l:List Oper) (A:Nat->AV) (H:Xz) (a:AV) (e:X2h) (A0:Nat->AV) (H0:Xz) (rs:List (AV×X2h)),rs.length=i->ops.toList.drop i=o::l ->
   A=X1k (X6j ops.toList rs) (λ_=>true) i A0->H=X1k (X7e base rs) (λ_=>true) i H0 ->
   X8h nt (X5b i (ms.getD i 0) 0 ops.toList ms) o.dst=true->DOne hz P T nt base ops ms i o A H (rs.map (·.2)) a e->X51 base (ms.getD i 0) (e.objs (base+i)) 0 ((ms.zip (ops.toList.map hz)).take i) [] (rs.map (·.2))=true ->
   (∀ (k:Nat) o r,ops.toList[k]?=some o->rs[k]?=some r->X8h nt (X5b k (ms.getD k 0) 0 ops.toList ms) o.dst=true /\
    DOne hz P T nt base ops ms k o (X1k (X6j ops.toList rs) (λ_=>true) k A0) (X1k (X7e base rs) (λ_=>true) k H0) ((rs.take k).map (·.2)) r.1 r.2 /\
    X51 base (ms.getD k 0) (r.2.objs (base+k)) 0 ((ms.zip (ops.toList.map hz)).take k) [] ((rs.take k).map (·.2))=true) ->
   i+1<=ops.toList.length/\(rs++[(a,e)]).length=i+1/\ops.toList.drop (i+1)=l/\X65 A o.dst a=X1k (X6j ops.toList (rs++[(a,e)])) (λ_=>true) (i+1) A0/\e.go (base+i) H=X1k (X7e base (rs++[(a,e)])) (λ_=>true) (i+1) H0 /\
   (∀ (k:Nat) o r,ops.toList[k]?=some o->(rs++[(a,e)])[k]?=some r->X8h nt (X5b k (ms.getD k 0) 0 ops.toList ms) o.dst=true /\
    DOne hz P T nt base ops ms k o (X1k (X6j ops.toList (rs++[(a,e)])) (λ_=>true) k A0) (X1k (X7e base (rs++[(a,e)])) (λ_=>true) k H0) (((rs++[(a,e)]).take k).map (·.2)) r.1 r.2 /\
    X51 base (ms.getD k 0) (r.2.objs (base+k)) 0 ((ms.zip (ops.toList.map hz)).take k) [] (((rs++[(a,e)]).take k).map (·.2))=true):=by
  intro i o l A H a e A0 H0 rs hlen hdrop hA hH hd hone hw hall;have hoi:ops.toList[i]?=some o:=by
   have:=List.getElem?_drop (xs:=ops.toList) (i:=i) (j:=0)
   grind
  have hget:∀ k,k<i->(rs++[(a,e)])[k]?=rs[k]?:=λk hk=>List.getElem?_append_left om;have hA1:∀ k,k<=i->X1k (X6j ops.toList (rs++[(a,e)])) (λ_=>true) k A0=X1k (X6j ops.toList rs) (λ_=>true) k A0:=by
   grind [Xl9,X6j]
  have hH1:∀ k,k<=i->X1k (X7e base (rs++[(a,e)])) (λ_=>true) k H0=X1k (X7e base rs) (λ_=>true) k H0:=by
   grind [Xl9,X7e]
  have hlast:(rs++[(a,e)])[i]?=some (a,e):=by grind
  refine⟨(List.getElem?_eq_some_iff.1 hoi).1,by simp[hlen],?_,?_,?_,?_⟩
  ·have:=congrArg List.tail hdrop
   grind [List.tail_drop]
  ·simp_all [X6j,X1k,Nat.le_refl,cond_true]
  ·simp_all [X7e,X1k,Nat.le_refl,cond_true]
  grind
 induction h with
 |@nil i A H es =>
  intro A0 H0 rs hile hlen hes hdrop hA hH hall;have hle:ops.toList.length<=i:=List.drop_eq_nil_iff.1 hdrop;have hi:i=ops.toList.length:=by omega
  subst hi;exact⟨rs,⟨hlen,hall⟩,hA,hH⟩
 |@op i o l A H es a e A' H' hg hd h hw k ih =>
  intro A0 H0 rs hile hlen hes hdrop hA hH hall;subst hes;obtain⟨h0,h1,h2,h3,h4,h5⟩:=ext i o l A H a e A0 H0 rs hlen hdrop hA hH hd (.run (.inl hg) h) hw hall;exact ih A0 H0 _ h0 h1 (by simp) h2 h3 h4 h5
 |@run i o l A H es a e A' H' j t want hg hd hj ht hb h hw k ih =>
  intro A0 H0 rs hile hlen hes hdrop hA hH hall;subst hes;obtain⟨h0,h1,h2,h3,h4,h5⟩:=ext i o l A H a e A0 H0 rs hlen hdrop hA hH hd (.run (.inr ⟨j,t,want,hg,hj,by simp_all,hb⟩) h) hw hall;exact ih A0 H0 _ h0 h1 (by simp) h2 h3 h4 h5
 |@skip i o l A H es A' H' j t want v hg hd hj ht hb hbw k ih =>
  intro A0 H0 rs hile hlen hes hdrop hA hH hall;subst hes;obtain⟨h0,h1,h2,h3,h4,h5⟩:=ext i o l A H (.sc undef) .none A0 H0 rs hlen hdrop hA hH hd (.skip hg hj (by simp_all) hb hbw) (Xk2 (i:=0) _ _ _ _) hall;exact ih A0 H0 _ h0 h1 (by simp) h2 h3 h4 h5
end Go.Av


namespace Go.Av
variable [Gls]
theorem Xth {V:Type} {f:Nat->V->V} {i:Nat}:∀ (n:Nat) (v:V),i<=n->X1k f (λk=>Nat.blt k i) n v=X1k f (λ_=>true) i v:=by
  intro n
  induction n with
  | zero => intro v h; have : i = 0 := by omega
            subst this;rfl
  |succ n ih =>
    intro v h;by_cases hi:i=n+1
    · subst hi
      refine X59 _ v λk hk=>.inr ?_
      simp_all
    · have:Nat.blt n i=false:=by rw[<-Bool.not_eq_true];simp;omega
      simp only[X1k,this,cond_false]
      grind
def gA (l:List Oper) (rs:List (AV×X2h)) (t:Nat) (k:Nat) (v:AV):AV :=
 match l[k]?,rs[k]? with
 |some o,some r=>if o.dst=some t then r.1 else v
 |_,_=>v
def gH (base:Nat) (rs:List (AV×X2h)) (o:Nat) (k:Nat) (u:Option Obj):Option Obj :=
 match rs[k]? with
 |some r=>(r.2.at (base+k) o).getD u
 |none=>u
theorem Xj8 (l:List Oper) (rs:List (AV×X2h)) (S:Nat->Bool) (A0:Nat->AV) (t:Nat):∀ n,X1k (X6j l rs) S n A0 t=X1k (gA l rs t) S n (A0 t):=by
 intro n
 induction n with
 |zero=>rfl
 |succ n ih =>
  simp only[X1k]
  cases S n with
  |false=>grind
  |true =>
   simp only[cond_true];rw[<-ih];unfold X6j gA
   cases l[n]? with
   |none=>rfl
   |some o =>
    cases rs[n]? with
    |none=>rfl
    |some r =>
     simp only[]
     cases hd:o.dst with
     |none=>simp[X65]
     |some d =>
      simp only[X65,Option.some.injEq];by_cases h:t=d
      ·subst h;rw[Xk,if_pos rfl]
      ·rw[Xm _ _ h,if_neg (λe=>h e.symm)]
theorem Xfz (base:Nat) (rs:List (AV×X2h)) (S:Nat->Bool) (H0:Xz) (o:Nat):∀ n,X1k (X7e base rs) S n H0 o=X1k (gH base rs o) S n (H0 o):=by
 intro n
 induction n with
 |zero=>rfl
 |succ n ih =>
  simp only[X1k]
  cases S n with
  |false=>grind
  |true =>
   simp only[cond_true];rw[<-ih];unfold X7e gH
   cases rs[n]? with
   |none=>rfl
   |some r=>rfl
def X7g:Nat->List Oper->Bool
 |i,o::l=>(X8e o).all (λj=>Nat.blt j i)&&X7g (i+1) l
 |_,[]=>true
theorem X6f:∀ (l:List Oper) (i0:Nat),X7g i0 l=true->∀ (i:Nat) o,l[i]?=some o->∀ j∈X8e o,j<i0+i:=by
 intro l
 induction l with
 |nil=>grind
 |cons a l ih =>
  intro i0 h i o ho j hj;simp only[X7g,Bool.and_eq_true] at h
  cases i with
  |zero =>
   simp_all
  |succ i =>
   grind
section
variable {hz:Oper->Nat->Bool} {P:Program} {T:Ty} {nt n0 base:Nat} {ops:Array Oper} {A0:Nat->AV} {H0:Xz} {rs:List (AV×X2h)}
structure Down (l:List Oper) (S:Nat->Bool):Prop where
 lt:∀ k,S k=true->k<l.length
 pre:∀ (k:Nat),S k=true->∀ q,((X1h l).getD k 0).testBit q=true->S q=true
theorem X09q (hall:DAll hz P T nt base ops (X1h ops.toList) A0 H0 rs) {S:Nat->Bool} (hS:Down ops.toList S) {i:Nat} (hi:i<ops.toList.length) (hn:S i=false)
  (hr:∀ q,((X1h ops.toList).getD i 0).testBit q=true->S q=true) {t:Nat} (ht:Xo5 t (X5b i ((X1h ops.toList).getD i 0) 0 ops.toList (X1h ops.toList))=false) :
  X1k (X6j ops.toList rs) (λ_=>true) i A0 t=X1k (X6j ops.toList rs) S ops.toList.length A0 t:=by
 rw[Xj8,Xj8,<-Xth ops.toList.length _ om];refine X59 _ _ λk hk=>?_;have ho:=List.getElem?_eq_getElem hk;have hml:k<(X1h ops.toList).length:=by rw[(Xge _).len];exact hk
 by_cases hd:(ops.toList[k]).dst=some t
 ·right;have hnot:t ∉ X5b i ((X1h ops.toList).getD i 0) 0 ops.toList (X1h ops.toList):=λh=>by rw[Xjc.2 h] at ht;cases ht
  have hmk:(X1h ops.toList)[k]?=some ((X1h ops.toList).getD k 0):=by grind
  by_cases hki:k=i
  ·subst hki;rw[hn];exact(show Nat.blt k k=false by rw[<-Bool.not_eq_true,Nat.blt_eq];omega)
  ·by_cases hlt:k<i
   ·have hb:Nat.blt k i=true:=by simp_all
    grind [Nat.testBit,X1h,absurd,Xsg]
   ·have hb:Nat.blt k i=false:=by rw[<-Bool.not_eq_true];simp_all
    rw[hb]
    cases hq:Nat.testBit ((X1h ops.toList).getD k 0) i with
    |true =>
     cases hs:S k with
     |false=>rfl
     |true=>have:=hS.pre k hs i hq;grind
    |false =>
     grind [absurd,Xsg,X1h]
 ·left;intro u;unfold gA;rw[ho]
  cases rs[k]? with
  |none=>rfl
  |some r=>simp only[if_neg hd]
theorem Xmp (hall:DAll hz P T nt base ops (X1h ops.toList) A0 H0 rs) {k i o:Nat} {r ri:AV×X2h} (hr:rs[k]?=some r) (hri:rs[i]?=some ri) (hik:i<k) (ho:o∈r.2.objs (base+k)) :
  Nat.testBit ((X1h ops.toList).getD k 0) i=true \/
   (Xat base ((X1h ops.toList).getD i 0) ((ops.toList[i]?).elim (λ_=>false) hz) ((rs.take i).map (·.2)) o=true/\o ∉ ri.2.objs (base+i)):=by
 have hk:k<rs.length:=(List.getElem?_eq_some_iff.1 hr).1;have hkl:k<ops.toList.length:=by rw[<-hall.len];exact hk
 obtain⟨_,_,hw⟩:=hall.one k _ r (List.getElem?_eq_getElem hkl) hr;have hml:(X1h ops.toList).length=ops.toList.length:=(Xge _).len;have hil:i<ops.toList.length:=by omega
 have:=Xpp _ 0 _ [] hw (by simp[hml,hall.len]) i ri.2 ((X1h ops.toList).getD i 0,hz (ops.toList[i])) ?_ ?_
 ·simp only[Nat.zero_add,List.nil_append] at this;refine this.imp id λh=>?_;have:=h o ho;rw[<-List.map_take,List.take_take,Nat.min_eq_left om] at this;rw[List.getElem?_eq_getElem hil];exact this
 ·rw[List.getElem?_map,List.getElem?_take,if_pos hik,hri];rfl
 ·rw[List.getElem?_take,if_pos hik,List.getElem?_zip_eq_some];refine⟨?_,?_⟩
  ·have:i<(X1h ops.toList).length:=by omega
   simp only[List.getD,List.getElem?_eq_getElem this,Option.getD_some]
  ·rw[List.getElem?_map,List.getElem?_eq_getElem hil];rfl
theorem X09p (hall:DAll hz P T nt base ops (X1h ops.toList) A0 H0 rs) {S:Nat->Bool} (hS:Down ops.toList S) {i:Nat} (hi:i<ops.toList.length) (hn:S i=false)
  (hr:∀ q,((X1h ops.toList).getD i 0).testBit q=true->S q=true) {o:Nat}
  (ht:Xat base ((X1h ops.toList).getD i 0) (hz (ops.toList[i])) ((rs.take i).map (·.2)) o=false) :
  X1k (X7e base rs) (λ_=>true) i H0 o=X1k (X7e base rs) S ops.toList.length H0 o:=by
 rw[Xfz,Xfz,<-Xth ops.toList.length _ om];refine X59 _ _ λk hk=>?_;have hkr:k<rs.length:=by rw[hall.len];exact hk
 have hir:i<rs.length:=by rw[hall.len];exact hi
 have hrk:=List.getElem?_eq_getElem hkr;by_cases hd:o∈(rs[k]).2.objs (base+k)
 ·right;by_cases hki:k=i
  ·subst hki;rw[hn];exact(show Nat.blt k k=false by rw[<-Bool.not_eq_true,Nat.blt_eq];omega)
  ·by_cases hlt:k<i
   ·have hb:Nat.blt k i=true:=by simp_all
    rw[hb];simp only[Xat,Bool.or_eq_false_iff] at ht;have:=Xm6 _ 0 k (rs[k]).2 (by grind) ht.2 (by grind)
    grind
   ·have hb:Nat.blt k i=false:=by rw[<-Bool.not_eq_true];simp_all
    rw[hb];rcases Xmp hall hrk (List.getElem?_eq_getElem hir) om hd with h|h
    ·cases hs:S k with
     |false=>rfl
     |true=>have:=hS.pre k hs i h;grind
    grind
 grind [gH,X2h.at_objs]
theorem X02c (hall:DAll hz P T nt base ops (X1h ops.toList) A0 H0 rs) {S:Nat->Bool} (hS:Down ops.toList S) {i:Nat} (hi:i<ops.toList.length) (hn:S i=false)
  {r:AV×X2h} (hri:rs[i]?=some r) (hdst:X8h nt (X5b i ((X1h ops.toList).getD i 0) 0 ops.toList (X1h ops.toList)) (ops.toList[i]).dst=true) :
  X1k (X6j ops.toList rs) (λk=>S k||Nat.beq k i) ops.toList.length A0=X65 (X1k (X6j ops.toList rs) S ops.toList.length A0) (ops.toList[i]).dst r.1:=by
 funext t
 rw[Xj8];have hoi:=List.getElem?_eq_getElem hi;by_cases hd:(ops.toList[i]).dst=some t
 ·rw[Xi5 hn _ _ hi]
  ·rw[hd];simp only[X65,Xk];unfold gA
   grind
  ·intro k hk hs;by_cases hki:k<i
   ·grind
   ·left;intro u;have hne:k≠i:=λh=>by grind
    have hok:=List.getElem?_eq_getElem hk;have hml:k<(X1h ops.toList).length:=by rw[(Xge _).len];exact hk
    have hmk:(X1h ops.toList)[k]?=some ((X1h ops.toList).getD k 0):=by grind
    have hdk:(ops.toList[k]).dst≠some t:=by
     intro hdk;rw[hd] at hdst;simp only[X8h,Bool.and_eq_true,Bool.not_eq_true'] at hdst;have hnot:t ∉ X5b i ((X1h ops.toList).getD i 0) 0 ops.toList (X1h ops.toList):=λh=>by rw[Xjc.2 h] at hdst;cases hdst.2
     cases hq:Nat.testBit ((X1h ops.toList).getD k 0) i with
     |true=>have:=hS.pre k hs i hq;rw[hn] at this;cases this
     |false=>exact hnot (Xsg (i:=i) (mi:=(X1h ops.toList).getD i 0) _ _ 0 k _ _ t hok hmk hdk om (λh=>by omega) (λ_=>hq))
    unfold gA;rw[hok]
    cases rs[k]? with
    |none=>rfl
    |some r=>simp only[if_neg hdk]
 ·have:X65 (X1k (X6j ops.toList rs) S ops.toList.length A0) (ops.toList[i]).dst r.1 t=X1k (X6j ops.toList rs) S ops.toList.length A0 t:=by
   cases h:(ops.toList[i]).dst with
   |none=>rfl
   |some d=>simp only[X65];exact Xm _ _ (λe=>hd (by rw[h,e]))
  rw[this,Xj8];refine X59 _ _ λk hk=>?_;by_cases hki:k=i
  ·subst hki;left;intro u;unfold gA;rw[hoi,hri];simp only[if_neg hd]
  ·right;have:Nat.beq k i=false:=by rw[<-Bool.not_eq_true,Nat.beq_eq];exact hki
   simp[this]
theorem X02b (hall:DAll hz P T nt base ops (X1h ops.toList) A0 H0 rs) {S:Nat->Bool} (hS:Down ops.toList S) {i:Nat} (hi:i<ops.toList.length) (hn:S i=false)
  {r:AV×X2h} (hri:rs[i]?=some r) :
  X1k (X7e base rs) (λk=>S k||Nat.beq k i) ops.toList.length H0=r.2.go (base+i) (X1k (X7e base rs) S ops.toList.length H0):=by
 funext o
 rw[Xfz];by_cases hd:o∈r.2.objs (base+i)
 ·rw[Xi5 hn _ _ hi]
  ·grind [gH,X2h.go,Xfz]
  ·intro k hk hs;by_cases hki:k<i
   ·grind
   ·left;intro u;have hne:k≠i:=λh=>by grind
    have hkr:k<rs.length:=by rw[hall.len];exact hk
    have hrk:=List.getElem?_eq_getElem hkr;have hdk:o ∉ (rs[k]).2.objs (base+k):=by
     intro hdk;rcases Xmp hall hrk hri om hdk with h|h
     ·have:=hS.pre k hs i h;rw[hn] at this;cases this
     ·exact h.2 hd
    unfold gH;rw[hrk];simp only[X2h.at_objs hdk,Option.getD_none]
 ·have:r.2.go (base+i) (X1k (X7e base rs) S ops.toList.length H0) o=X1k (X7e base rs) S ops.toList.length H0 o:=by
   simp only[X2h.go,X2h.at_objs hd,Option.getD_none]
  rw[this,Xfz];refine X59 _ _ λk hk=>?_;by_cases hki:k=i
  ·subst hki;left;intro u;unfold gH;rw[hri];simp only[X2h.at_objs hd,Option.getD_none]
  ·right;have:Nat.beq k i=false:=by rw[<-Bool.not_eq_true,Nat.beq_eq];exact hki
   simp[this]
theorem X00l {c0 c:Ctx} {H0 H:Xz} {A:Nat->AV} {M:Nat->Prop} {act:Act} (g:Xcr nt c0 H0 n0 c A H M act) {j t:Nat} {b:Bool} (hj:(ops[j]?).bind (·.dst)=some t) (ht:t<nt)
  (hb:X52 (A t)=.sc (.bool b)):yielded ops act.tmps j=some b:=by
 have h1:=g.ev (.tmp t);simp only[evA,hb] at h1;have h2:=h1.sc_inv;simp only[Act.eval] at h2;have hlt:t<act.tmps.size:=by rw[g.size];exact ht
 simp_all [yielded,Option.bind_some,Array.getElem?_eq_getElem,bool]
def AtS (base:Nat) (S:Nat->Bool) (q:Nat):Prop:=q<base\/∃ k,S k=true/\q=base+k
theorem X1t {md:Region.Mode} {listed:Array Bool} {i:Nat}:i∈Region.ready md ops listed ↔
  i<ops.size/\listed.getD i true=false/\((ops[i]?).map (·.after.all λe=>!Region.binds md e||listed.getD e.on false)).getD false=true:=by
 simp[Region.ready]
theorem Xx6 {c0 c:Ctx} {H0 H:Xz} {A:Nat->AV} {M:Nat->Prop} {act:Act} (g:Xcr nt c0 H0 n0 c A H M act) {o:Oper} {j t:Nat} {want:Bool} {v:Value} (hg:o.guard=some (j,want)) (hj:(ops[j]?).bind (·.dst)=some t) (ht:t<nt)
  (hb:X52 (A t)=.sc v) (hv:Xex want v=false):Region.wanted o (yielded ops act.tmps)=false:=by
 have h1:=g.ev (.tmp t);simp only[evA,hb] at h1;have h2:=h1.sc_inv;simp only[Act.eval] at h2;have hlt:t<act.tmps.size:=by rw[g.size];exact ht
 have h3:act.tmps[t]=v:=by simp_all
 grind [Region.wanted,yielded,Array.getElem?_eq_getElem,Xex]
theorem Xrh {o:Oper} {ys:Nat->Option Bool} (h:o.guard=none):Region.wanted o ys=true:=by simp[Region.wanted,h]
theorem Xrg {o:Oper} {ys:Nat->Option Bool} {j:Nat} {want b:Bool} (h:o.guard=some (j,want)) (hy:ys j=some b):Region.wanted o ys=(b==want):=by
 simp[Region.wanted,h,hy]
theorem Xp3 (hT:X7a P T) (hpre:X7g 0 ops.toList=true) (hall:DAll hz P T nt base ops (X1h ops.toList) A0 H0 rs) {Q:Xp->St->Prop}
  (hQ:Q .normal ⟨X1k (X6j ops.toList rs) (λ_=>true) ops.toList.length A0,X1k (X7e base rs) (λ_=>true) ops.toList.length H0,base+ops.toList.length⟩)
  {c0:Ctx} {HH:Xz} {ds:List Deferred} (hb0:n0<=base) :
  ∀ (fuel:Nat) (listed:Array Bool) (L:List Nat) (c:Ctx) (act:Act),listed.size=ops.size->L.length<=fuel->(∀ k,k<ops.size->listed.getD k false=false->k∈L) ->
   (∀ (i:Nat) o,ops.toList[i]?=some o->listed.getD i false=true->∀ j∈X8e o,listed.getD j false=true) ->
   Xcr nt c0 HH n0 c (X1k (X6j ops.toList rs) (λk=>listed.getD k false) ops.toList.length A0) (X1k (X7e base rs) (λk=>listed.getD k false) ops.toList.length H0)
    (AtS base (λk=>listed.getD k false)) act ->
   act.defers=ds->wpAny P .any ops (CQ nt c0 HH n0 ds Q) fuel listed act c.w:=by
 have hlen:ops.toList.length=ops.size:=Array.length_toList;have fin:∀ (listed:Array Bool) (c:Ctx) (act:Act),listed.size=ops.size->(∀ (i:Nat) o,ops.toList[i]?=some o->listed.getD i false=true->∀ j∈X8e o,listed.getD j false=true) ->
   Xcr nt c0 HH n0 c (X1k (X6j ops.toList rs) (λk=>listed.getD k false) ops.toList.length A0) (X1k (X7e base rs) (λk=>listed.getD k false) ops.toList.length H0)
    (AtS base (λk=>listed.getD k false)) act->Region.ready .any ops listed=[]->act.defers=ds->CQ nt c0 HH n0 ds Q .normal act c.w:=by
  intro listed c act hsz hdown g hr hds;have hfull:∀ k,k<ops.size->listed.getD k false=true:=by
   intro k
   induction k using Nat.strongRecOn with
   |_ k ih =>
    intro hk
    cases hl:listed.getD k false with
    |true=>rfl
    |false =>
     have hkl:k<listed.size:=by omega
     have hmem:k∈Region.ready .any ops listed:=by
      rw[X1t];refine⟨hk,?_,?_⟩
      ·grind
      ·rw[Array.getElem?_eq_getElem hk];simp only[Option.map_some,Option.getD_some];rw[Array.all_eq_true_iff_forall_mem];intro e he
       cases hbd:Region.binds .any e with
       |false=>rfl
       |true =>
        have hpk:ops.toList[k]?=some ops[k]:=by simp[hk]
        have hin:e.on∈X8e ops[k]:=List.mem_map.2 ⟨e,List.mem_filter.2 ⟨by grind,hbd⟩,rfl⟩;have hlt:=X6f _ 0 hpre k _ hpk e.on hin
        grind
     grind
  have hcongr:∀ k,k<ops.toList.length->listed.getD k false=true:=λk hk=>hfull k om;refine⟨c,⟨_,_,_⟩,.normal,rfl,?_,hds,rfl,hQ⟩;have hA:X1k (X6j ops.toList rs) (λk=>listed.getD k false) ops.toList.length A0=X1k (X6j ops.toList rs) (λ_=>true) ops.toList.length A0 :=
   X59 _ _ λk hk=>.inr (hcongr k hk)
  have hH:X1k (X7e base rs) (λk=>listed.getD k false) ops.toList.length H0=X1k (X7e base rs) (λ_=>true) ops.toList.length H0 :=
   X59 _ _ λk hk=>.inr (hcongr k hk)
  rw[hA,hH] at g;have hM:∀ q,AtS base (λk=>listed.getD k false) q->q<base+ops.toList.length:=by
   rintro q (h|⟨k,hk,rfl⟩)
   ·omega
   ·have:k<listed.size:=by
     cases Nat.lt_or_ge k listed.size with
     |inl h=>exact h
     |inr h=>simp[Array.getD_eq_getD_getElem?,Array.getElem?_eq_none h] at hk
    omega
  exact⟨g.inv.more hM,g.solo,g.frame,λt=>(g.ok t).mono hM,g.size,g.reach,by show n0<=base+_;omega⟩
 intro fuel
 induction fuel with
 |zero =>
  intro listed L c act hsz hL hin hdown g hds;have hnil:L=[]:=List.length_eq_zero_iff.1 om;subst hnil;have hr:Region.ready .any ops listed=[]:=by
   simp_all [List.eq_nil_iff_forall_not_mem,X1t,Array.getD_eq_getD_getElem?,Array.getElem?_eq_getElem,Option.getD_some]
  exact⟨hr,fin listed c act hsz hdown g hr hds⟩
 |succ fuel ih =>
  intro listed L c act hsz hL hin hdown g hds;refine⟨λhr=>fin listed c act hsz hdown g hr hds,λi hi=>?_⟩;rw[X1t] at hi;obtain⟨h1,h2,h3⟩:=hi;have hil:i<listed.size:=by omega
  have hli:listed.getD i false=false:=by
   grind
  have hi':i<ops.toList.length:=by omega
  have hoi:ops.toList[i]?=some ops.toList[i]:=List.getElem?_eq_getElem hi';have hoa:ops[i]?=some ops.toList[i]:=by grind
  have hprei:∀ j∈X8e ops.toList[i],listed.getD j false=true:=by
   intro j hj;obtain⟨e,he,rfl⟩:=List.mem_map.1 hj
   grind [Array.all_eq_true_iff_forall_mem]
  have hpl:∀ (i:Nat) o,ops.toList[i]?=some o->∀ j∈X8e o,j<i:=λi o ho j hj=>by
   have:=X6f _ 0 hpre i o ho j hj;omega
  have hcm:=Xi9 (S:=λk=>listed.getD k false) hpl hdown;have hS:Down ops.toList (λk=>listed.getD k false):=by
   refine⟨λk hk=>?_,λk hk q hq=>?_⟩
   ·grind
   ·have hkl:k<ops.toList.length:=by
     grind
    grind
  have hri:∀ q,((X1h ops.toList).getD i 0).testBit q=true->listed.getD q false=true:=λq hq=>(hcm i _ hoi hprei q hq).1;have hirs:i<rs.length:=by rw[hall.len];exact hi'
  obtain⟨hdst,hone,_⟩:=hall.one i _ _ hoi (List.getElem?_eq_getElem hirs);have hdlt:∀ d,(ops.toList[i]).dst=some d->d<nt:=by
   intro d hd
   simp_all [X8h,Bool.and_eq_true]
  have hA:∀ t,frD (X5b i ((X1h ops.toList).getD i 0) 0 ops.toList (X1h ops.toList)) (X1k (X6j ops.toList rs) (λ_=>true) i A0) t=X1k (X6j ops.toList rs) (λk=>listed.getD k false) ops.toList.length A0 t \/
    frD (X5b i ((X1h ops.toList).getD i 0) 0 ops.toList (X1h ops.toList)) (X1k (X6j ops.toList rs) (λ_=>true) i A0) t=.junk:=by
   intro t;unfold frD
   cases ht:Xo5 t (X5b i ((X1h ops.toList).getD i 0) 0 ops.toList (X1h ops.toList)) with
   |true=>grind
   |false=>grind [X09q]
  have hV:∀ o x,hpD base ((X1h ops.toList).getD i 0) (hz (ops.toList[i])) ((rs.take i).map (·.2)) (X1k (X7e base rs) (λ_=>true) i H0) o=some x ->
    X1k (X7e base rs) (λk=>listed.getD k false) ops.toList.length H0 o=some x:=by
   intro o x hx;unfold hpD at hx
   cases ht:Xat base ((X1h ops.toList).getD i 0) (hz (ops.toList[i])) ((rs.take i).map (·.2)) o with
   |true=>grind
   |false =>
    rw[ht,cond_false] at hx;rw[<-X09p hall hS hi' hli hri ht];exact hx
  have hid:¬ AtS base (λk=>listed.getD k false) (base+i):=by
   rintro(h|⟨k,hk,h⟩)
   ·omega
   ·have:k=i:=by omega
    subst this;have hk':listed.getD k false=true:=hk;rw[hli] at hk';cases hk'
  have hMb:∀ q,AtS base (λk=>listed.getD k false) q->q<base+ops.toList.length:=by
   rintro q (h|⟨k,hk,rfl⟩)
   ·omega
   ·have:=hS.lt k hk;omega
  have hset:∀ k,(listed.setIfInBounds i true).getD k false=(listed.getD k false||Nat.beq k i):=by
   intro k;simp only[Array.getD_eq_getD_getElem?];by_cases hk:k=i
   ·subst hk;rw[Array.getElem?_setIfInBounds_self,if_pos hil];simp
   ·rw[Array.getElem?_setIfInBounds_ne (λe=>hk e.symm)];have:Nat.beq k i=false:=by rw[<-Bool.not_eq_true,Nat.beq_eq];exact hk
    rw[this,Bool.or_false]
  have hfn:(λk=>(listed.setIfInBounds i true).getD k false)=(λk=>listed.getD k false||Nat.beq k i):=funext hset;have after:∀ (c':Ctx) (v:Value) (e:X2h),e=(rs[i]).2 ->
    Xcr nt c0 HH n0 c' (X65 (X1k (X6j ops.toList rs) (λk=>listed.getD k false) ops.toList.length A0) (ops.toList[i]).dst (rs[i]).1)
     (e.go (base+i) (X1k (X7e base rs) (λk=>listed.getD k false) ops.toList.length H0)) (λq=>AtS base (λk=>listed.getD k false) q\/q=base+i) (act.put (ops.toList[i]).dst v) ->
    wpAny P .any ops (CQ nt c0 HH n0 ds Q) fuel (listed.setIfInBounds i true) (act.put (ops.toList[i]).dst v) c'.w:=by
   rintro c' v _ rfl g';have hiL:i∈L:=hin i h1 hli;refine ih _ (L.erase i) c' _ (by simpa using hsz) (by rw[List.length_erase_of_mem hiL];omega) ?_ ?_ ?_ ((put_defers _ _ _).trans hds)
   ·intro k hk hlk;rw[hset] at hlk;have h4:=Bool.or_eq_false_iff.1 hlk;have hne:k≠i:=λh=>by subst h;simp at h4
    exact(List.mem_erase_of_ne hne).2 (hin k hk h4.1)
   ·intro k o ho hk j hj;rw[hset] at hk ⊢;rcases Bool.or_eq_true_iff.1 hk with hk|hk
    ·rw[hdown k o ho hk j hj];rfl
    ·have:k=i:=by simpa using hk
     subst this;rw[hoi] at ho;cases ho;rw[hprei j hj];rfl
   ·rw[hfn,X02c hall hS hi' hli (List.getElem?_eq_getElem hirs) hdst,X02b hall hS hi' hli (List.getElem?_eq_getElem hirs)];have hMM:(AtS base λk=>listed.getD k false||Nat.beq k i)=(λq=>AtS base (λk=>listed.getD k false) q\/q=base+i):=by
     funext q
     apply propext;constructor
     ·rintro(h|⟨k,hk,rfl⟩)
      ·exact .inl (.inl h)
      ·rcases Bool.or_eq_true_iff.1 hk with hk|hk
       ·exact .inl (.inr ⟨k,hk,rfl⟩)
       ·have:k=i:=by simpa using hk
        exact .inr (by rw[this])
     ·rintro((h|⟨k,hk,rfl⟩)|rfl)
      ·exact .inl h
      ·exact .inr ⟨k,by simp[hk],rfl⟩
      ·exact .inr ⟨i,by simp,rfl⟩
    rw[hMM];exact g'
  unfold wpOp;rw[hoa];simp only[];have gj:=g.junk hA;generalize hre:(rs[i]).2=ef at hone after;generalize hra:(rs[i]).1=av at hone after
  cases hone with
  |@run a e hg h =>
   have hw:Region.wanted (ops.toList[i]) (yielded ops act.tmps)=true:=by
    rcases hg with hg|⟨j,t,want,hg,hj,ht,hb⟩
    ·exact Xrh hg
    ·rw[Xrg hg (X00l gj hj ht hb)];simp
   rw[if_pos hw];left;refine DOp.step hT g hMb hA hV hid h hdlt _ _ λc' v g'=>?_
   grind
  |@skip j t want v hg hj ht hb hbw =>
   have hw:Region.wanted (ops.toList[i]) (yielded ops act.tmps)=false:=Xx6 gj hg hj ht hb hbw;rw[if_neg (by rw[hw];simp)];refine after c undef _ rfl ?_;rw[X2h.go_none];exact g.next hdlt (.refl c) rfl (λb hb=>.inl hb) (.refl c _) (λq x hx=>.inr ⟨q,x,hx,rfl⟩) (g.inv.more λq h=>.inl h) g.solo (λq=>.inl) .sc .sc
theorem X38.drew {c0 c:Ctx} {s:St} {act:Act} {HH:Xz} (g:X38 nt c0 HH n0 c s act):X38 nt c0 HH n0 { c with w:={ c.w with drawn:=c.w.drawn+1 } } s act:=by
 have hle:c.Le (λ_=>True) { c with w:={ c.w with drawn:=c.w.drawn+1 } }:=⟨λ_ _=>rfl,λ_ h=>h,λ_ h=>h,λ_ _=>rfl,rfl⟩;have all:∀ {a:AV} {M:Nat->Prop},a.Ok M->a.Ok (λ_=>True):=λh=>h.mono λ_ _=>trivial;have r:=g.reach;refine⟨⟨λo x hx=>?_,g.inv.sep,g.inv.stab,g.inv.lt,g.inv.base,g.inv.own,g.inv.low,g.inv.glob.mono hle⟩,g.solo,λt=>(g.frame t).mono hle (.inr (all (g.ok t))),g.ok,g.size,⟨r.rho,r.os,r.tape,⟨r.output.1,Nat.le_trans r.output.2 (Xho (Nat.le_succ _))⟩,r.size,r.block,r.stable,r.sa,r.so1,r.so2,r.B,r.own⟩,g.le0⟩;obtain⟨h1,⟨⟨cur,hb,hs,hc⟩,h3,h4,h5⟩,h6⟩:=g.inv.obj o x hx;refine⟨h1,⟨⟨cur,hb,hs,λi e he=>?_⟩,h3,h4,h5⟩,h6⟩;obtain⟨g1,g2⟩:=hc i e he;exact⟨g1,λk a ha=>by obtain⟨v,hv,hr,h7⟩:=g2 k a ha;exact⟨v,hv,hr.mono hle (.inr (all (h6 e (List.mem_of_getElem? he) a (List.mem_of_getElem? ha)))),h7⟩⟩
theorem Xr1.drawn {s:St} {id:Nat} {Q:Xp->St->Prop} {A':Nat->AV} {H':Xz} (hm:P.follows .mixedOrders=true) (hT:X7a P T) (hpre:X7g 0 ops.toList=true)
  (hrun:Xve hz P T nt s.n ops (X1h ops.toList) 0 ops.toList s.A s.H [] A' H') (hQ:Q .normal ⟨A',H',s.n+ops.toList.length⟩):Xr1 P nt n0 (.region id ops true) Q s:=by
 obtain⟨rs,hall,hA,hH⟩:=hrun.all s.A s.H [] (Nat.zero_le _) rfl rfl rfl rfl rfl (λk o r _ hr=>by simp at hr);subst hA hH;intro c0 HH c act g0 R hR;have g:=g0.drew;refine Xax hm hR (by rintro a w ⟨c,s,ae,_,_,_,h,_⟩;cases ae<;>cases h) ?_;have hzz:∀ k,(Array.replicate ops.size false).getD k false=false:=by
  intro k;simp only[Array.getD_eq_getD_getElem?,Array.getElem?_replicate];split<;>rfl
 have hfn:(λk=>(Array.replicate ops.size false).getD k false)=(λ_=>false):=funext hzz;refine Xp3 hT hpre hall hQ g.le0 ops.size _ (List.range ops.size) { c with w:={ c.w with drawn:=c.w.drawn+1 } } act (by simp) (by simp) (λk hk _=>List.mem_range.2 hk) (λi o _ h=>by grind) ?_ rfl;rw[hfn,X7w,X7w];have hM:∀ q,q<s.n->AtS s.n (λ_=>false) q:=λq h=>.inl h;exact⟨g.inv.more hM,g.solo,g.frame,λt=>(g.ok t).mono hM,g.size,g.reach,λq hq=>hM q (Nat.lt_of_lt_of_le hq g.le0)⟩
end
end Go.Av


namespace Go.Av
variable [Gls]
def Xqp (H:Xz):AV->Option (AV×Nat)
 |.ptr o i k=>match H o with
  |some x=>match x.es[i]? with
   |some e=>some (e,k)
   |none=>none
  |none=>none
 |.elem _ e k=>some (e,k)
 |_=>none
theorem Xqo {H:Xz} {p e:AV} {k:Nat} (h:Xqp H p=some (e,k)):Xqw H p e k:=by
 unfold Xqp at h;split at h
 ·split at h
  ·split at h
   ·cases h;exact .ptr (by assumption) (by assumption)
   ·cases h
  ·cases h
 ·cases h;exact .elem
 ·cases h
def binF (T:Ty) (op:BinOp) (t:Nat):AV->AV->Option AV
 |.sc (.int k a),.sc (.int k' b) =>
  match op with
  |.quo=>if k=k' then (if b≠0 then some (.sc (.int k (k.wrap (a.tdiv b)))) else none) else none
  |.rem=>if k=k' then (if b≠0 then some (.sc (.int k (a.tmod b))) else none) else none
  |.shl=>if 0<=b then some (.sc (.int k (k.wrap (a*2 ^ (min b.toNat k.bits))))) else none
  |.shr=>if 0<=b then some (.sc (.int k (a.fdiv (2 ^ (min b.toNat k.bits))))) else none
  |op=>if k=k' then (match Xtb op k a b with|some v=>some (.sc v)|none=>none) else none
 |.sc (.bool a),.sc (.bool b)=>match T t with
  |some ti=>match ti.kind with
   |.bool=>match op with
    |.eql=>some (.sc (.bool (a==b)))
    |.neq=>some (.sc (.bool (!(a==b))))
    |_=>none
   |_=>none
  |none=>none
 |.agg xs,.agg ys=>match T t with
  |some ti=>if ti.eqok=true then (match op with
   |.eql=>match eqT T 10000 t (.agg xs) (.agg ys) with|some r=>some (.sc (.bool r))|none=>none
   |.neq=>match eqT T 10000 t (.agg xs) (.agg ys) with|some r=>some (.sc (.bool (!r)))|none=>none
   |_=>none) else none
  |none=>none
 |_,_=>none
theorem Xz9 {T:Ty} {ev:Operand->AV} {H:Xz} {op:BinOp} {t yt:Nat} {x y:Operand} {a:AV} (h:binF T op t (ev x) (ev y)=some a):Pu T ev H (.binOp op t x y yt) a:=by
 generalize hx:ev x=u at h;generalize hy:ev y=v at h;unfold binF at h;split at h
 ·split at h
  ·split at h
   ·rename_i hk;subst hk;split at h
    ·cases h;exact .quo hx hy (by assumption)
    ·cases h
   ·cases h
  ·split at h
   ·rename_i hk;subst hk;split at h
    ·cases h;exact .rem hx hy (by assumption)
    ·cases h
   ·cases h
  ·split at h
   ·cases h;exact .shl hx hy (by assumption)
   ·cases h
  ·split at h
   ·cases h;exact .shr hx hy (by assumption)
   ·cases h
  ·split at h
   ·rename_i hk;subst hk;split at h
    ·cases h;exact .binInt hx hy (by assumption)
    ·cases h
   ·cases h
 ·split at h
  ·split at h
   ·split at h
    ·cases h;exact .boolEq hx hy (by assumption) (by assumption)
    ·cases h;exact .boolNe hx hy (by assumption) (by assumption)
    ·cases h
   ·cases h
  ·cases h
 ·split at h
  ·split at h
   ·split at h
    ·split at h
     ·cases h;exact .aggEq hx hy (by assumption) (by assumption) (by assumption)
     ·cases h
    ·split at h
     ·cases h;exact .aggNe hx hy (by assumption) (by assumption) (by assumption)
     ·cases h
    ·cases h
   ·cases h
  ·cases h
 ·cases h
def unF (op:UnOp):AV->Option AV
 |.sc (.int k n)=>match op with
  |.neg=>some (.sc (.int k (k.wrap (0 - n))))
  |_=>none
 |.sc (.bool b)=>match op with
  |.not=>some (.sc (.bool (!b)))
  |_=>none
 |_=>none
def X037 (T:Ty) (src dst:Nat):AV->Option AV
 |.sc (.int _ n)=>match T src with
  |some _=>match T dst with
   |some td=>match td.kind with
    |.int k'=>some (.sc (.int k' (k'.wrap n)))
    |_=>none
   |none=>none
  |none=>none
 |.sc (.string s)=>match T src with
  |some _=>match T dst with
   |some td=>match td.kind with
    |.string=>some (.sc (.string s))
    |_=>none
   |none=>none
  |none=>none
 |_=>none
def Xev (T:Ty) (s f:Nat):Option (Nat×TI) :=
 match T s with
 |some ti=>match ti.kind with
  |.struct fs=>match fs[f]? with
   |some (off,ft)=>match T ft with
    |some tf=>some (off,tf)
    |none=>none
   |none=>none
  |_=>none
 |none=>none
theorem Xdp {T:Ty} {s f off:Nat} {tf:TI} (h:Xev T s f=some (off,tf)):∃ ti fs ft,T s=some ti/\ti.kind=.struct fs/\fs[f]?=some (off,ft)/\T ft=some tf:=by
 unfold Xev at h
 grind
def X2n (T:Ty) (t:Nat):Option TI :=
 match T t with
 |some ti=>match ti.kind with
  |.slice et=>T et
  |_=>none
 |none=>none
theorem X16 {T:Ty} {t:Nat} {te:TI} (h:X2n T t=some te):∃ ti et,T t=some ti/\ti.kind=.slice et/\T et=some te:=by
 grind [X2n]
def Xlk (T:Ty) (t:Nat):Option (Nat×TI) :=
 match T t with
 |some ti=>match ti.kind with
  |.array n et=>match T et with
   |some te=>some (n,te)
   |none=>none
  |_=>none
 |none=>none
theorem Xav {T:Ty} {t n:Nat} {te:TI} (h:Xlk T t=some (n,te)):∃ ti et,T t=some ti/\ti.kind=.array n et/\T et=some te:=by
 grind [Xlk]
def ixF (T:Ty) (H:Xz) (t:Nat) (x:AV) (i:Int):Option AV :=
 match x with
 |.list own es=>match X2n T t with
  |some te=>match es[i.toNat]? with
   |some e=>if e.cells.length=te.size then some (.elem own e 0) else none
   |none=>none
  |none=>none
 |.ref o off len=>match X2n T t with
  |some te=>if i<len then (match H o with
   |some y=>match y.es[off+i.toNat]? with
    |some e=>if e.cells.length=te.size then some (.ptr o (off+i.toNat) 0) else none
    |none=>none
   |none=>none) else none
  |none=>none
 |.ptr o j q=>match Xlk T t with
  |some (n,te)=>if i<n then some (.ptr o j (q+i.toNat*te.size)) else none
  |none=>none
 |.elem own e q=>match Xlk T t with
  |some (n,te)=>if i<n then some (.elem own e (q+i.toNat*te.size)) else none
  |none=>none
 |_=>none
def bdF (ev:Operand->AV):Option Operand->Nat->Option Nat
 |none,d=>some d
 |some x,_=>match ev x with
  |.sc (.int _ z)=>if 0<=z then some z.toNat else none
  |_=>none
theorem X53 {ev:Operand->AV} {o:Option Operand} {d n:Nat} (h:bdF ev o d=some n):Bd ev o d n:=by
 unfold bdF at h;split at h
 ·cases h;exact .dflt
 ·split at h
  ·split at h
   ·cases h;exact .given (by assumption) (by assumption)
   ·cases h
  ·cases h
def X03o (T:Ty) (ev:Operand->AV) (H:Xz) (t:Nat) (x:AV) (lo hi:Option Operand):Option AV :=
 match x with
 |.list own es=>match X2n T t with
  |some te=>match bdF ev lo 0,bdF ev hi es.length with
   |some l,some h=>if l<=h then (if h<=es.length then (if es.all (λe=>e.cells.length==te.size) then some (.list own ((es.drop l).take (h - l))) else none) else none) else none
   |_,_=>none
  |none=>none
 |.ref o off len=>match X2n T t with
  |some te=>match bdF ev lo 0,bdF ev hi len with
   |some l,some h=>if h<=len then (if l<h then (match H o with
     |some y=>if y.es.any (λe=>e.cells.length==te.size) then some (.ref o (off+l) (h - l)) else none
     |none=>none)
    else if l=h then some (.list true []) else none) else none
   |_,_=>none
  |none=>none
 |.nils=>match X2n T t with
  |some _=>match bdF ev lo 0,bdF ev hi 0 with
   |some 0,some 0=>some .nils
   |_,_=>none
  |none=>none
 |_=>none
def puF (T:Ty) (ev:Operand->AV) (H:Xz):Op->Option AV
 |.move x=>some (ev x)
 |.assign x=>some (ev x)
 |.pick c a b=>match ev c with
  |.sc (.bool true)=>some (ev a)
  |.sc (.bool false)=>some (ev b)
  |_=>none
 |.load t x=>match T t with
  |some ti=>match Xqp H (ev x) with
   |some (e,k)=>Xgf ti e k
   |none=>none
  |none=>none
 |.nilCheck x=>match ev x with
  |.ptr o i k=>some (.ptr o i k)
  |.elem own e k=>some (.elem own e k)
  |.fn f caps=>some (.fn f caps)
  |_=>none
 |.binOp op t x y _=>binF T op t (ev x) (ev y)
 |.unOp op _ x=>unF op (ev x)
 |.convert src dst x=>X037 T src dst (ev x)
 |.fieldAddr s x f=>match Xev T s f with
  |some (off,tf)=>if tf.size≠0 then (match ev x with
   |.ptr o i k=>some (.ptr o i (k+off))
   |.elem own e k=>some (.elem own e (k+off))
   |_=>none) else none
  |none=>none
 |.field s x f=>match Xev T s f with
  |some (off,tf)=>match ev x with
   |.agg cs=>eqT.partA tf cs off
   |_=>none
  |none=>none
 |.indexAddr t x ix=>match ev ix with
  |.sc (.int _ i)=>if 0<=i then ixF T H t (ev x) i else none
  |_=>none
 |.index t x ix=>match ev ix with
  |.sc (.int _ i)=>if 0<=i then (match ev x with
   |.agg cs=>match Xlk T t with
    |some (n,te)=>if i<n then eqT.partA te cs (i.toNat*te.size) else none
    |none=>none
   |_=>none) else none
  |_=>none
 |.slice t x lo hi none=>X03o T ev H t (ev x) lo hi
 |.slice t x none (some hi) (some mx)=>match X2n T t with
  |some _=>match bdF ev (some hi) 0,bdF ev (some mx) 0 with
   |some 0,some 0=>match ev x with
    |.list _ _=>some .nils
    |.ref _ _ _=>some .nils
    |.nils=>some .nils
    |_=>none
   |_,_=>none
  |none=>none
 |.extract x i=>match ev x with
  |.tup cs=>cs[i]?
  |_=>none
 |.makeFunc (.func f) ⟨[]⟩ caps=>some (.fn f (caps.toList.map ev))
 |.call { callee:=.builtin .len,args:=⟨[x]⟩,argTypes:=⟨[t]⟩ }=>match T t with
  |some ti=>match ti.kind with
   |.slice _=>match ev x with
    |.list own es=>some (.sc (.int .i64 es.length))
    |.ref _ _ n=>some (.sc (.int .i64 n))
    |.nils=>some (.sc (.int .i64 (0:Nat)))
    |_=>none
   |.string=>match ev x with
    |.sc (.string s)=>some (.sc (.int .i64 s.size))
    |_=>none
   |.array n _=>some (.sc (.int .i64 n))
   |_=>none
  |none=>none
 |.call { callee:=.builtin .min,args:=⟨[x,y]⟩,argTypes:=_ }=>match ev x,ev y with
  |.sc (.int k a),.sc (.int k' b)=>if k=k' then some (.sc (.int k (if b<a then b else a))) else none
  |_,_=>none
 |.call { callee:=.builtin .max,args:=⟨[x,y]⟩,argTypes:=_ }=>match ev x,ev y with
  |.sc (.int k a),.sc (.int k' b)=>if k=k' then some (.sc (.int k (if b>a then b else a))) else none
  |_,_=>none
 |.build t ps=>match T t with
  |some ti=>match X1m ti.zero with
   |.agg cs=>match ti.kind with
    |.struct fs=>if fs.all (λp=>(T p.2).isSome) then (match Xj2 (λi=>(fs[i]?).map λp=>(p.1,((T p.2).map (·.size)).getD 0)) cs (ps.toList.map λp=>(p.1,ev p.2)) with
     |some r=>some (.agg r)
     |none=>none) else none
    |.array _ et=>match T et with
     |some te=>match Xj2 (λi=>some (i*te.size,te.size)) cs (ps.toList.map λp=>(p.1,ev p.2)) with
      |some r=>some (.agg r)
      |none=>none
     |none=>none
    |_=>none
   |_=>none
  |none=>none
 |_=>none
theorem Xhz {T:Ty} {ev:Operand->AV} {H:Xz} {op:Op} {a:AV} (h:puF T ev H op=some a):Pu T ev H op a:=by
 unfold puF at h;split at h
 ·cases h;exact .move
 ·cases h;exact .assign
 ·split at h
  ·cases h;exact .pick (by assumption) (λ_=>rfl) (λh=>by cases h)
  ·cases h;exact .pick (by assumption) (λh=>by cases h) (λ_=>rfl)
  ·cases h
 ·split at h
  ·split at h
   ·exact .load (by assumption) (Xqo (by assumption)) h
   ·cases h
  ·cases h
 ·split at h
  ·rename_i hx;cases h;rw[<-hx];exact .nilCheckPtr hx
  ·rename_i hx;cases h;rw[<-hx];exact .nilCheckElem hx
  ·rename_i hx;cases h;rw[<-hx];exact .nilCheckFn hx
  ·cases h
 ·exact Xz9 h
 ·unfold unF at h;split at h
  ·split at h
   ·cases h;exact .neg (by assumption)
   ·cases h
  ·split at h
   ·cases h;exact .not (by assumption)
   ·cases h
  ·cases h
 ·unfold X037 at h;split at h
  ·split at h
   ·split at h
    ·split at h
     ·cases h;exact .conv (by assumption) (by assumption) (by assumption) (by assumption)
     ·cases h
    ·cases h
   ·cases h
  ·split at h
   ·split at h
    ·split at h
     ·cases h;exact .convStr (by assumption) (by assumption) (by assumption) (by assumption)
     ·cases h
    ·cases h
   ·cases h
  ·cases h
 ·split at h
  ·rename_i hf;obtain⟨ti,fs,ft,h1,h2,h3,h4⟩:=Xdp hf;split at h
   ·split at h
    ·cases h;exact .fieldAddrPtr (by assumption) h1 h2 h3 h4 (by assumption)
    ·cases h;exact .fieldAddrElem (by assumption) h1 h2 h3 h4 (by assumption)
    ·cases h
   ·cases h
  ·cases h
 ·split at h
  ·rename_i hf;obtain⟨ti,fs,ft,h1,h2,h3,h4⟩:=Xdp hf;split at h
   ·exact .field (by assumption) h1 h2 h3 h4 h
   ·cases h
  ·cases h
 ·split at h
  ·rename_i hix;split at h
   ·rename_i h0;unfold ixF at h;split at h
    ·split at h
     ·rename_i hs;obtain⟨ti,et,h1,h2,h3⟩:=X16 hs;split at h
      ·split at h
       ·cases h;exact .indexList (by assumption) hix h0 h1 h2 h3 (by assumption) (by assumption)
       ·cases h
      ·cases h
     ·cases h
    ·split at h
     ·rename_i hs;obtain⟨ti,et,h1,h2,h3⟩:=X16 hs;split at h
      ·split at h
       ·split at h
        ·split at h
         ·cases h;exact .indexRef (by assumption) hix h0 (by assumption) h1 h2 h3 (by assumption) (by assumption) (by assumption)
         ·cases h
        ·cases h
       ·cases h
      ·cases h
     ·cases h
    ·split at h
     ·rename_i hs;obtain⟨ti,et,h1,h2,h3⟩:=Xav hs;split at h
      ·cases h;exact .indexArr (by assumption) hix h0 (by assumption) h1 h2 h3
      ·cases h
     ·cases h
    ·split at h
     ·rename_i hs;obtain⟨ti,et,h1,h2,h3⟩:=Xav hs;split at h
      ·cases h;exact .indexArrElem (by assumption) hix h0 (by assumption) h1 h2 h3
      ·cases h
     ·cases h
    ·cases h
   ·cases h
  ·cases h
 ·split at h
  ·rename_i hix;split at h
   ·rename_i h0;split at h
    ·split at h
     ·rename_i hs;obtain⟨ti,et,h1,h2,h3⟩:=Xav hs;split at h
      ·exact .indexAgg (by assumption) hix h0 (by assumption) h1 h2 h3 h
      ·cases h
     ·cases h
    ·cases h
   ·cases h
  ·cases h
 ·unfold X03o at h;split at h
  ·split at h
   ·rename_i hs;obtain⟨ti,et,h1,h2,h3⟩:=X16 hs;split at h
    ·split at h
     ·split at h
      ·split at h
       ·rename_i hall;cases h
        exact .sliceList (by assumption) (X53 (by assumption)) (X53 (by assumption)) (by assumption) (by assumption) h1 h2 h3 (λe he=>by grind)
       ·cases h
      ·cases h
     ·cases h
    ·cases h
   ·cases h
  ·split at h
   ·rename_i hs;obtain⟨ti,et,h1,h2,h3⟩:=X16 hs;split at h
    ·split at h
     ·split at h
      ·split at h
       ·split at h
        ·rename_i hany;cases h
         obtain⟨e,he,hc⟩:=List.any_eq_true.1 hany;exact .sliceRef (by assumption) (X53 (by assumption)) (X53 (by assumption)) (by assumption) (by assumption) h1 h2 h3 (by assumption) ⟨e,he,by grind⟩
        ·cases h
       ·cases h
      ·split at h
       ·rename_i hl hh hle _ heq;cases h
        subst heq;exact .sliceRef0 (by assumption) (X53 hl) (X53 hh) hle h1 h2 h3
       ·cases h
     ·cases h
    ·cases h
   ·cases h
  ·split at h
   ·rename_i hs;obtain⟨ti,et,h1,h2,h3⟩:=X16 hs;split at h
    ·cases h;exact .sliceNils (by assumption) (X53 (by assumption)) (X53 (by assumption)) h1 h2 h3
    ·cases h
   ·cases h
  ·cases h
 ·split at h
  ·rename_i hs;obtain⟨ti,et,h1,h2,h3⟩:=X16 hs;split at h
   ·split at h
    ·rename_i hx;cases h;exact .sliceClone (by rw[hx];rfl) (λs=>by rw[hx];simp) (X53 (by assumption)) (X53 (by assumption)) h1 h2 h3
    ·rename_i hx;cases h;exact .sliceClone (by rw[hx];rfl) (λs=>by rw[hx];simp) (X53 (by assumption)) (X53 (by assumption)) h1 h2 h3
    ·rename_i hx;cases h;exact .sliceClone (by rw[hx];rfl) (λs=>by rw[hx];simp) (X53 (by assumption)) (X53 (by assumption)) h1 h2 h3
    ·cases h
   ·cases h
  ·cases h
 ·split at h
  ·exact .extract (by assumption) h
  ·cases h
 ·cases h;exact .makeFunc
 ·split at h
  ·split at h
   ·split at h
    ·rename_i hx;cases h;exact .lenSlice (by rw[hx];rfl) (by assumption) (by assumption) (λs=>by rw[hx];simp)
    ·rename_i hx;cases h;exact .lenSlice (by rw[hx];rfl) (by assumption) (by assumption) (λs=>by rw[hx];simp)
    ·rename_i hx;cases h;exact .lenSlice (by rw[hx];rfl) (by assumption) (by assumption) (λs=>by rw[hx];simp)
    ·cases h
   ·split at h
    ·cases h;exact .lenStr (by assumption) (by assumption) (by assumption)
    ·cases h
   ·cases h;exact .lenArr (by assumption) (by assumption)
   ·cases h
  ·cases h
 ·split at h
  ·split at h
   ·rename_i hk;subst hk;cases h;exact .min2 (by assumption) (by assumption)
   ·cases h
  ·cases h
 ·split at h
  ·split at h
   ·rename_i hk;subst hk;cases h;exact .max2 (by assumption) (by assumption)
   ·cases h
  ·cases h
 ·split at h
  ·split at h
   ·split at h
    ·split at h
     ·rename_i hall;split at h
      ·cases h
       refine .buildS (by assumption) (by assumption) (by assumption) (λp hp0=>?_) (by assumption)
       grind [List.all_eq_true,Option.isSome_iff_exists]
      ·cases h
     ·cases h
    ·split at h
     ·split at h
      ·cases h;exact .buildA (by assumption) (by assumption) (by assumption) (by assumption) (by assumption)
      ·cases h
     ·cases h
    ·cases h
   ·cases h
  ·cases h
 ·cases h
end Go.Av


namespace Go.Av
variable [Gls]
def srcF (H:Xz):AV->Option (List AV)
 |.list _ es=>some es
 |.nils=>some []
 |.ref o off len=>match H o with
  |some x=>if off+len<=x.es.length then some ((x.es.drop off).take len) else none
  |none=>none
 |_=>none
theorem Xgz {H:Xz} {a:AV} {xs:List AV} (h:srcF H a=some xs):Xnb H a xs:=by
 unfold srcF at h;split at h
 ·cases h;exact .list
 ·cases h;exact .nils
 ·split at h
  ·split at h
   ·cases h;exact .ref (by assumption) (by assumption)
   ·cases h
  ·cases h
 ·cases h
def mkF (T:Ty) (ev:Operand->AV) (H:Xz) (id:Nat):Op->Option (AV×Eff)
 |.box _ x=>if (ev x).whole=true then (match (ev x).cells with
   |[]=>none
   |a::r=>some (.ptr id 0 0,.new { es:=[ev x],esz:=(a::r).length })) else none
 |.alloc elem=>match T elem with
  |some ti=>if ti.size≠0 then some (.ptr id 0 0,.new { es:=[X1m ti.zero],esz:=ti.size }) else none
  |none=>none
 |.buildSlice t len ps=>match X2n T t with
  |some te=>if len=0 then (match ps with
    |⟨[]⟩=>some (.nils,.none)
    |_=>none)
   else if te.size≠0 then (if len*te.size<=2 ^ 24 then (match Xbz te.size (List.replicate len (X1m te.zero)) (ps.toList.map λp=>(p.1,ev p.2)) with
    |some es=>some (.ref id 0 len,.new { es:=es,esz:=te.size })
    |none=>none) else none) else none
  |none=>none
 |.makeSlice t l cc=>match X2n T t with
  |some te=>match ev l,ev cc with
   |.sc (.int _ n),.sc (.int _ m)=>if n=0/\m=0 then some (.nils,.none) else
     if 0<=n/\n<=m/\0<m/\te.size≠0/\te.bytes*m<=2 ^ 48/\m<2 ^ 62 then some (.ref id 0 n.toNat,.new { es:=List.replicate n.toNat (X1m te.zero),esz:=te.size }) else none
   |_,_=>none
  |none=>none
 |.call { callee:=.builtin .append,args:=⟨[s,x]⟩,argTypes:=⟨[t,t']⟩ }=>if t=t' then (match X2n T t with
  |some te=>match srcF H (ev x) with
   |some []=>match ev s with
    |.list own es=>some (.list own es,.none)
    |.ref o off n=>some (.ref o off n,.none)
    |.nils=>some (.nils,.none)
    |_=>none
   |some (e::r)=>if (e::r).all (λe=>e.cells.length==te.size) then (match ev s with
    |.nils=>if te.size≠0/\(e::r).length<=maxLen/\(e::r).length*te.bytes<=140737488355328 then some (.ref id 0 (e::r).length,.new { es:=e::r,esz:=te.size }) else none
    |.ref o 0 n=>match H o with
     |some y=>if y.es.length=n/\y.spent=false/\y.esz=te.size/\n+(e::r).length<=maxLen/\(n+(e::r).length)*te.bytes<=140737488355328 then
       some (.ref id 0 (n+(e::r).length),.app o { es:=y.es++(e::r),esz:=te.size }) else none
     |none=>none
    |_=>none) else none
   |none=>none
  |none=>none) else (match ev s,ev x,X2n T t,T t' with
  |.nils,.sc (.int _ n),some te,some tin=>match tin.kind with
   |.int _=>if 0<n/\te.size≠0/\n.toNat<=maxLen/\n.toNat*te.bytes<=140737488355328 then some (.ref id 0 n.toNat,.new { es:=List.replicate n.toNat (X1m te.zero),esz:=te.size }) else none
   |_=>none
  |_,_,_,_=>none)
 |_=>none
theorem Xt4 {T:Ty} {ev:Operand->AV} {H:Xz} {id:Nat} {op:Op} {a:AV} {e:Eff} (h:mkF T ev H id op=some (a,e)) :
  Mk T ev H id op a e/\∀ old x,e=.app old x\/e=.new x->x.solo=true/\x.spent=false:=by
 unfold mkF at h;split at h
 ·split at h
  ·rename_i hw;split at h
   ·cases h
   ·rename_i hc;cases h
    refine⟨?_,λold y hy=>?_⟩
    ·rw[<-hc];exact .box hw (by rw[hc];simp)
    ·rcases hy with hy|hy<;>cases hy;exact⟨rfl,rfl⟩
  ·cases h
 ·split at h
  ·split at h
   ·cases h
    exact⟨.alloc (by assumption) (by assumption),λold y hy=>by rcases hy with hy|hy<;>cases hy;exact⟨rfl,rfl⟩⟩
   ·cases h
  ·cases h
 ·split at h
  ·rename_i hs;obtain⟨ti,et,h1,h2,h3⟩:=X16 hs;split at h
   ·rename_i h0;subst h0;split at h
    ·cases h;exact⟨.slice0 h1 h2 h3,λold y hy=>by rcases hy with hy|hy<;>cases hy⟩
    ·cases h
   ·split at h
    ·split at h
     ·split at h
      ·cases h;exact⟨.buildSlice h1 h2 h3 (by assumption) (by assumption) (by assumption) (by assumption),λold y hy=>by rcases hy with hy|hy<;>cases hy;exact⟨rfl,rfl⟩⟩
      ·cases h
     ·cases h
    ·cases h
  ·cases h
 ·split at h
  ·rename_i hs;obtain⟨ti,et,h1,h2,h3⟩:=X16 hs;split at h
   ·rename_i hl hc;split at h
    ·rename_i h0;obtain⟨rfl,rfl⟩:=h0
     cases h;exact⟨.make0 hl hc h1 h2 h3,λold y hy=>by rcases hy with hy|hy<;>cases hy⟩
    ·split at h
     ·rename_i hh;obtain⟨g1,g2,g3,g4,g5,g6⟩:=hh
      cases h;exact⟨.make hl hc g1 g2 g3 h1 h2 h3 g4 g5 g6,λold y hy=>by rcases hy with hy|hy<;>cases hy;exact⟨rfl,rfl⟩⟩
     ·cases h
   ·cases h
  ·cases h
 ·split at h
  ·rename_i ht;subst ht;split at h
   ·rename_i hs;obtain⟨ti,et,h1,h2,h3⟩:=X16 hs;split at h
    ·rename_i hx;split at h
     ·rename_i hv;cases h;rw[<-hv];exact⟨.append0 (n:=_) (by rw[hv];rfl) (λu=>by rw[hv];simp) (Xgz hx) h1 h2 h3,λold y hy=>by rcases hy with hy|hy<;>cases hy⟩
     ·rename_i hv;cases h;rw[<-hv];exact⟨.append0 (n:=_) (by rw[hv];rfl) (λu=>by rw[hv];simp) (Xgz hx) h1 h2 h3,λold y hy=>by rcases hy with hy|hy<;>cases hy⟩
     ·rename_i hv;cases h;rw[<-hv];exact⟨.append0 (n:=_) (by rw[hv];rfl) (λu=>by rw[hv];simp) (Xgz hx) h1 h2 h3,λold y hy=>by rcases hy with hy|hy<;>cases hy⟩
     ·cases h
    ·rename_i e r hx;split at h
     ·rename_i hall;have hsz:∀ e'∈e::r,e'.cells.length=_:=λe' he=>by simpa using List.all_eq_true.1 hall e' he
      split at h
      ·split at h
       ·rename_i hv hh;obtain⟨g1,g2,g3⟩:=hh;cases h
        exact⟨.appendNil hv (Xgz hx) (by simp) h1 h2 h3 hsz g1 g2 g3,λold y hy=>by rcases hy with hy|hy<;>cases hy;exact⟨rfl,rfl⟩⟩
       ·cases h
      ·split at h
       ·split at h
        ·rename_i hv _ _ hH hh;obtain⟨g1,g2,g3,g4,g5⟩:=hh;cases h
         exact⟨.append hv hH g1 g2 g3 (Xgz hx) (by simp) h1 h2 h3 hsz g4 g5,λold y hy=>by rcases hy with hy|hy<;>cases hy;exact⟨rfl,rfl⟩⟩
        ·cases h
       ·cases h
      ·cases h
     ·cases h
    ·cases h
   ·cases h
  ·split at h
   ·rename_i hs hx hst htn;obtain⟨ti,et,h1,h2,h3⟩:=X16 hst;split at h
    ·rename_i hkn;split at h
     ·rename_i hh;obtain⟨g1,g2,g3,g4⟩:=hh;cases h
      exact⟨.appendZeros hs hx g1 htn hkn h1 h2 h3 g2 g3 g4,λold y hy=>by rcases hy with hy|hy<;>cases hy;exact⟨rfl,rfl⟩⟩
     ·cases h
    ·cases h
   ·cases h
 ·cases h
def stF (T:Ty) (ev:Operand->AV) (H:Xz) (t:Nat) (p x:Operand):Option (Nat×Obj) :=
 match T t with
 |some ti=>match ev p with
  |.ptr o i k=>match H o with
   |some y=>match y.es[i]? with
    |some e=>if y.solo=true/\(ev x).whole=true/\(ev x).cells.length=ti.size/\k+ti.size<=e.cells.length/\ti.size≠0 then
      some (o,{ y with es:=y.es.set i (X5q e k (ev x)) }) else none
    |none=>none
   |none=>none
  |_=>none
 |none=>none
theorem X03n {T:Ty} {ev:Operand->AV} {H:Xz} {t:Nat} {p x:Operand} {q:Nat} {z:Obj} (h:stF T ev H t p x=some (q,z)) :
  ∃ i k y e ti,ev p=.ptr q i k/\H q=some y/\y.solo=true/\y.es[i]?=some e/\T t=some ti/\(ev x).whole=true/\(ev x).cells.length=ti.size/\k+ti.size<=e.cells.length/\ti.size≠0 /\
   z={ y with es:=y.es.set i (X5q e k (ev x)) }:=by
 unfold stF at h
 grind
def Xrt (f:AV->Option AV):List AV->Option (List AV)
 |[]=>some []
 |a::l=>match f a with
  |some b=>match Xrt f l with
   |some r=>some (b::r)
   |none=>none
  |none=>none
theorem X8r {f:AV->Option AV}:∀ {l r:List AV},Xrt f l=some r->l.length=r.length/\∀ (i:Nat) a b,l[i]?=some a->r[i]?=some b->f a=some b:=by
 intro l
 induction l with
 |nil=>intro r h;simp[Xrt] at h;grind
 |cons x l ih =>
  grind [Xrt]
def elF (f:AV->Option AV) (e:AV):Option AV :=
 match e with
 |.agg cs=>match Xrt f cs with
  |some r=>some (.agg r)
  |none=>none
 |e=>match f e with
  |some (.agg _)=>none
  |r=>r
theorem Xi8 {f:AV->Option AV} {e e':AV} (h:elF f e=some e'):e.cells.length=e'.cells.length/\∀ (k:Nat) a b,e.cells[k]?=some a->e'.cells[k]?=some b->f a=some b:=by
 unfold elF at h;split at h
 ·split at h
  ·rename_i hm;cases h
   exact X8r hm
  ·cases h
 ·rename_i e0 hne;split at h
  ·cases h
  ·rename_i r hna;have h1:e.cells=[e]:=by cases e<;>first|rfl|exact(hne _ rfl).elim
   have h2:e'.cells=[e']:=by
    cases e'<;>first|rfl|exact(hna _ h).elim
   grind
def cvF (m:Bool) (H:Xz):Nat->AV->Option AV
 |0,_=>none
 |n+1,a=>match a with
  |.sc v=>some (.sc v)
  |.nils=>some (.list m [])
  |.agg cs=>match Xrt (cvF m H n) cs with
   |some r=>some (.agg r)
   |none=>none
  |.tup cs=>match Xrt (cvF m H n) cs with
   |some r=>some (.tup r)
   |none=>none
  |.list own es=>match m with
   |true=>some (.list own es)
   |false=>match Xrt (elF (cvF false H n)) es with
    |some r=>some (.list false r)
    |none=>none
  |.ref o off len=>match H o with
   |some x=>if off+len<=x.es.length then (match Xrt (elF (cvF m H n)) ((x.es.drop off).take len) with
    |some r=>some (.list m r)
    |none=>none) else none
   |none=>none
  |.fn f []=>some (.fn f [])
  |.ptr o i k=>match m with
   |true=>none
   |false=>match H o with
    |some x=>match x.es[i]? with
     |some e=>match elF (cvF false H n) e with
      |some e'=>some (.elem false e' k)
      |none=>none
     |none=>none
    |none=>none
  |.elem _ e k=>match m with
   |true=>none
   |false=>match elF (cvF false H n) e with
    |some e'=>some (.elem false e' k)
    |none=>none
  |_=>none
theorem Xgq {m:Bool} {H:Xz}:∀ (n:Nat) (a b:AV),cvF m H n a=some b->Cv m H a b:=by
 intro n
 induction n with
 |zero=>intro a b h;cases h
 |succ n ih =>
  intro a b h;unfold cvF at h;split at h
  ·cases h;exact .sc
  ·cases h;exact .nils
  ·split at h
   ·rename_i hm;cases h
    obtain⟨h1,h2⟩:=X8r hm;exact .agg h1 λi a b ha hb=>ih a b (h2 i a b ha hb)
   ·cases h
  ·split at h
   ·rename_i hm;cases h
    obtain⟨h1,h2⟩:=X8r hm;exact .tup h1 λi a b ha hb=>ih a b (h2 i a b ha hb)
   ·cases h
  ·split at h
   ·cases h;exact .listS rfl
   ·split at h
    ·rename_i hm;cases h
     obtain⟨h1,h2⟩:=X8r hm;exact .listD rfl h1 (λi e e' he he'=>(Xi8 (h2 i e e' he he')).1) (λi e e' k a b he he' ha hb=>ih a b ((Xi8 (h2 i e e' he he')).2 k a b ha hb))
    ·cases h
  ·rename_i o off len;split at h
   ·rename_i x hH;split at h
    ·rename_i hle;split at h
     ·rename_i r hm;cases h
      obtain⟨h1,h2⟩:=X8r hm;have hlen:∀ (i:Nat) e',r[i]?=some e'->i<len:=λi e' he'=>by
       have:=(List.getElem?_eq_some_iff.1 he').1;rw[<-h1] at this;simp at this;omega
      have hget:∀ (i:Nat) e,i<len->x.es[off+i]?=some e->((x.es.drop off).take len)[i]?=some e:=λi e hi he=>by
       rw[List.getElem?_take,if_pos hi,List.getElem?_drop];exact he
      refine .ref hH hle ?_ (λi e e' he he'=>?_) (λi e e' k a b he he' ha hb=>?_)
      ·rw[<-h1];simp;omega
      ·exact(Xi8 (h2 i e e' (hget i e (hlen i e' he') he) he')).1
      ·exact ih a b ((Xi8 (h2 i e e' (hget i e (hlen i e' he') he) he')).2 k a b ha hb)
     ·cases h
    ·cases h
   ·cases h
  ·cases h;exact .fn0
  ·split at h
   ·cases h
   ·split at h
    ·rename_i hH;split at h
     ·rename_i he;split at h
      ·rename_i hm;cases h
       exact .ptrL rfl hH he (Xi8 hm).1 λk a b ha hb=>ih a b ((Xi8 hm).2 k a b ha hb)
      ·cases h
     ·cases h
    ·cases h
  ·split at h
   ·cases h
   ·split at h
    ·rename_i hm;cases h
     exact .elemD rfl (Xi8 hm).1 λk a b ha hb=>ih a b ((Xi8 hm).2 k a b ha hb)
    ·cases h
  ·cases h
def ownF:Nat->AV->Bool
 |0,_=>false
 |n+1,a=>match a with
  |.sc _=>true
  |.nils=>true
  |.agg cs=>cs.all (ownF n)
  |.tup cs=>cs.all (ownF n)
  |.list _ []=>true
  |.list own es=>own&&es.all (λe=>e.cells.all (ownF n))
  |_=>false
theorem Xwu:∀ (n:Nat) (a:AV),ownF n a=true->Xlm a:=by
 intro n
 induction n with
 |zero=>intro a h;cases h
 |succ n ih =>
  intro a h;unfold ownF at h;split at h
  ·exact .sc
  ·exact .nils
  ·exact .agg λa ha=>ih a (List.all_eq_true.1 h a ha)
  ·exact .tup λa ha=>ih a (List.all_eq_true.1 h a ha)
  ·exact .listNil
  ·simp only[Bool.and_eq_true] at h;obtain⟨h1,h2⟩:=h;subst h1;exact .list λe he a ha=>ih a (List.all_eq_true.1 (List.all_eq_true.1 h2 e he) a ha)
  ·cases h
end Go.Av


namespace Go.Av
variable [Gls]
theorem X8t.of_hc {P:Program} {f:Nat} {bs:List AV} {r r':AV} {H':Xz} {n':Nat} (h:HC P f bs (λ_=>none) 0 (λr2 H2 n2=>r2=r/\H2=H'/\n2=n')) (hc:Cv true H' r r'):X8t P f bs r':=by
 refine⟨h.1,λw S vs hS hG hv=>?_⟩;let c:Ctx:=⟨w,pl0,S,λ_=>False,w.heap.size⟩
 have hI:Inv c (λ_=>none) (·<0) :=
  ⟨λo x h=>(by cases h),λo o' x x' h=>(by cases h),λo x h=>(by cases h),λb hb=>hb.elim (hS b) False.elim,Nat.le_refl _,λb hb=>hb.elim,λo x h=>(by cases h),hG⟩
 have hvs:Xbr c false bs vs:=⟨hv.len,λi a v ha hvv=>(hv.rel i a v ha hvv).shallow⟩;have hok:∀ a∈bs,a.Ok (·<0):=by
  intro a ha;obtain⟨i,hi⟩:=List.getElem?_of_mem ha;have:i<vs.size:=by rw[<-hv.len];exact(List.getElem?_eq_some_iff.1 hi).1
  exact(hv.rel i a _ hi (Array.getElem?_eq_getElem this)).okDeep
 refine(h.2 c vs hI (λo x h=>by cases h) hvs hok).mono ?_;rintro e w' ⟨v,r2,H2,n2,c',⟨rfl,rfl,rfl⟩,rfl,rfl,hle,hsa,hso,hfr,hown,hI',hs,hn,hvr,hokr⟩;refine⟨v,rfl,?_,⟨⟨hfr.os,hfr.tape,hfr.output.1,hfr.size,λk hk=>hfr.block k hk (λo x hx=>(by cases hx))⟩,hfr.output.2⟩⟩;have hB:c'.B=w.heap.size:=hle.B;refine Xyx hI' (c':=⟨c'.w,pl0,S,λb=>w.heap.size<=b/\b<c'.w.heap.size,w.heap.size⟩) rfl (λb hb=>?_) (λ_ b hb=>?_) (λo x hx=>?_) hc hvr
 ·rcases hb with hb|hb
  ·exact .inl ⟨rfl,by rw[hsa] at hb;exact hb⟩
  ·exact .inr ⟨by rw[<-hB];exact hI'.own b hb,hI'.lt b (.inr hb)⟩
 ·exact⟨by rw[<-hB];exact hI'.own b hb,hI'.lt b (.inr hb)⟩
 ·obtain⟨_,⟨⟨cur,hcb,_⟩,_⟩,_⟩:=hI'.obj o x hx;exact .inr ⟨by rw[<-hB];exact hI'.low o x hx,(Array.getElem?_eq_some_iff.1 hcb).1⟩
end Go.Av


namespace Go.Av
variable [Gls]
abbrev Env:=Nat->Option (Func×Code)
def Xzj (P:Program) (E:Env):Prop:=∀ f fn code,E f=some (fn,code)->Xmg P f fn code
end Go.Av


namespace Go.Av
variable [Gls]
end Go.Av


namespace Go.Av
variable [Gls]
def Xvb (w:World) (b:Nat) (l:List (Value×Value)):Prop :=
 ∃ es clock,w.heap[b]?=some (.map es clock)/\es.toList.map (λe=>(e.key,e.val))=l/\es.toList.Pairwise (λx y=>x.born<y.born)/\∀ e∈es.toList,e.born<clock
theorem Xvb.lt {w:World} {b:Nat} {l:List (Value×Value)} (h:Xvb w b l):b<w.heap.size:=by
 obtain⟨es,clock,hb,_⟩:=h
 grind
inductive MuE where
 |map (l:List (Value×Value))
 |mark
 |blk (o:Go.Obj)
 |loop (r:Loop) (nt m:Nat) (A:Nat->AV)
instance:Coe (List (Value×Value)) MuE:=⟨.map⟩
abbrev Mu:=List (Nat×MuE)
def MuIs (n0:Nat) (c:Ctx) (b:Nat):MuE->Prop
 |.map l=>Xvb c.w b l
 |.mark=>c.w.heap[b]?=some (.deferred (some []))
 |.blk o=>c.w.heap[b]?=some o
 |.loop r nt m A=>(c.w.heap[b]?=some (.loop r)/\r.tmps.size=nt)/\m<=n0/\(∀ t,(A t).Ok (·<m))/\∀ t,X0m c false (A t) (r.tmps.getD t undef)
theorem MuIs.lt {n0:Nat} {c:Ctx} {b:Nat} {x:MuE} (h:MuIs n0 c b x):b<c.w.heap.size:=by
 cases x with
 |map l=>exact Xvb.lt h
 |mark=>exact(Array.getElem?_eq_some_iff.1 h).1
 |blk o=>exact(Array.getElem?_eq_some_iff.1 h).1
 |loop r nt m A=>exact(Array.getElem?_eq_some_iff.1 h.1.1).1
theorem MuIs.le {n0:Nat} {c c':Ctx} {b:Nat} {x:MuE} (h:MuIs n0 c b x) (hb:c'.w.heap[b]?=c.w.heap[b]?) (hle:c.Le (·<n0) c'):MuIs n0 c' b x:=by
 cases x with
 |map l=>obtain⟨es,clock,h1,h2⟩:=h;exact⟨es,clock,hb.trans h1,h2⟩
 |mark=>exact hb.trans h
 |blk o=>exact hb.trans h
 |loop r nt m A=>exact⟨⟨hb.trans h.1.1,h.1.2⟩,h.2.1,h.2.2.1,λt=>(h.2.2.2 t).mono hle (.inr ((h.2.2.1 t).mono λq hq=>Nat.lt_of_lt_of_le hq h.2.1))⟩
def dsOf:Mu->List Deferred
 |[]=>[]
 |(D,.mark)::μ=>{ target:=.collected D,args:=#[] }::dsOf μ
 |(_,.map _)::μ=>dsOf μ
 |(_,.blk _)::μ=>dsOf μ
 |(_,.loop ..)::μ=>dsOf μ
def Xi1:Mu->Bool
 |[]=>true
 |(_,.loop ..)::_=>false
 |(_,.mark)::μ=>Xi1 μ
 |(_,.map _)::μ=>Xi1 μ
 |(_,.blk _)::μ=>Xi1 μ
def NewB (c0:Ctx) (H0:Xz) (b:Nat):Prop:=c0.B<=b/\(c0.w.heap.size<=b\/∃ o x,H0 o=some x/\(c0.ρ o).blk=b)
theorem NewB.no {c0:Ctx} {H0:Xz} {b:Nat} (h:NewB c0 H0 b) (h1:b<c0.w.heap.size) (h2:∀ o x,H0 o=some x->(c0.ρ o).blk≠b):False :=
 h.2.elim (λh=>by omega) λ⟨o,x,h3,h4⟩=>h2 o x h3 h4
structure MOk (n0:Nat) (c0:Ctx) (H0:Xz) (c:Ctx) (H:Xz) (μ:Mu) (act:Act):Prop where
 is:∀ p∈μ,MuIs n0 c p.1 p.2
 away:∀ p∈μ,¬ c.Sa p.1/\¬ c.So p.1/\(∀ o x,H o=some x->(c.ρ o).blk≠p.1)/\NewB c0 H0 p.1
 nodup:(μ.map (·.1)).Nodup
 ds:act.defers=dsOf μ
theorem MOk.nil {n0:Nat} {c0 c:Ctx} {H0 H:Xz} {act:Act} (h:act.defers=[]):MOk n0 c0 H0 c H [] act:=⟨(λ_ h=>by cases h),(λ_ h=>by cases h),List.nodup_nil,h⟩
theorem MOk.kept {c0 c c':Ctx} {H0 H H':Xz} {n0:Nat} {μ:Mu} {act act':Act} (h:MOk n0 c0 H0 c H μ act) (r:Reach c H n0 c' H') (hd:act'.defers=act.defers:=by first|rfl|exact put_defers _ _ _):MOk n0 c0 H0 c' H' μ act':=by
 have hlt:∀ p∈μ,p.1<c.w.heap.size:=λp hp=>(h.is p hp).lt;have hb:∀ p∈μ,c'.w.heap[p.1]?=c.w.heap[p.1]?:=λp hp=>r.block _ (hlt p hp) (h.away p hp).2.2.1;refine⟨λp hp=>(h.is p hp).le (hb p hp) r.le,λp hp=>?_,h.nodup,hd.trans h.ds⟩;obtain⟨a1,a2,a3,a4⟩:=h.away p hp;refine⟨by rw[r.sa];exact a1,λhs=>?_,λo x hx he=>?_,a4⟩
 ·rcases r.so2 _ hs with h1|h1|⟨o,x,h1,h2⟩
  ·exact a2 h1
  ·have:=hlt p hp;omega
  ·exact a3 o x h1 h2
 ·rcases r.own o x hx with h1|⟨o',x',h1,h2⟩
  ·have:=hlt p hp;omega
  ·exact a3 o' x' h1 (h2.trans he)
theorem MOk.act {n0:Nat} {c0 c:Ctx} {H0 H:Xz} {μ:Mu} {act act':Act} (h:MOk n0 c0 H0 c H μ act) (hd:act'.defers=act.defers:=by first|rfl|exact put_defers _ _ _):MOk n0 c0 H0 c H μ act':=⟨h.is,h.away,h.nodup,hd.trans h.ds⟩
theorem Reach.trans {c0 c c':Ctx} {H0 H H':Xz} {n0:Nat} (h:Reach c0 H0 n0 c H) (k:Reach c H n0 c' H'):Reach c0 H0 n0 c' H':=by
 refine⟨λo ho=>(k.rho o ho).trans (h.rho o ho),k.os.trans h.os,k.tape.trans h.tape,⟨k.output.1.trans h.output.1,Nat.le_trans h.output.2 k.output.2⟩,Nat.le_trans h.size k.size,?_,?_,k.sa.trans h.sa,λb hb=>k.so1 b (h.so1 b hb),?_,k.B.trans h.B,?_⟩
 ·intro b hb hn;rw[k.block b (Nat.lt_of_lt_of_le hb h.size) ?_]
  ·exact h.block b hb hn
  ·intro o x hx he;rcases h.own o x hx with h1|⟨o',x',h1,h2⟩
   ·omega
   ·exact hn o' x' h1 (h2.trans he)
 ·intro b hb;rw[k.stable b (hb.imp (λx=>by rw[h.sa];exact x) (h.so1 b))];exact h.stable b hb
 ·intro b hb;rcases k.so2 b hb with h1|h1|⟨q,y,h1,h2⟩
  ·exact h.so2 b h1
  ·exact .inr (.inl (Nat.le_trans h.size h1))
  ·rcases h.own q y h1 with h3|⟨q',y',h3,h4⟩
   ·exact .inr (.inl om)
   ·exact .inr (.inr ⟨q',y',h3,h4.trans h2⟩)
 ·intro o x hx;rcases k.own o x hx with h1|⟨q,y,h1,h2⟩
  ·exact .inl (Nat.le_trans h.size h1)
  ·rw[<-h2];exact h.own q y h1
theorem X38.rebase {nt n0:Nat} {c0 c:Ctx} {H0:Xz} {s:St} {act:Act} (g:X38 nt c0 H0 n0 c s act):X38 nt c s.H n0 c s act :=
 ⟨g.inv,g.solo,g.frame,g.ok,g.size,.refl _ _ _,g.le0⟩
theorem X38.join {nt n0:Nat} {c0 c c':Ctx} {H0 H:Xz} {s:St} {act:Act} (r:Reach c0 H0 n0 c H) (g:X38 nt c H n0 c' s act):X38 nt c0 H0 n0 c' s act :=
 ⟨g.inv,g.solo,g.frame,g.ok,g.size,r.trans g.reach,g.le0⟩
def MQ (nt:Nat) (c0:Ctx) (H0:Xz) (n0:Nat) (Q:Xp->St->Mu->Prop):Exit->Act->World->Prop :=
 λe act w=>∃ c s ae μ,c.w=w/\X38 nt c0 H0 n0 c s act/\MOk n0 c0 H0 c s.H μ act/\ae.of=e/\Q ae s μ
def X2i (P:Program) (nt n0:Nat) (code:Code) (Q:Xp->St->Mu->Prop) (s:St) (μ:Mu):Prop :=
 ∀ (c0:Ctx) (H0:Xz) (c:Ctx) (act:Act),X38 nt c0 H0 n0 c s act->MOk n0 c0 H0 c s.H μ act->∀ R,RG code R->wpR R P code (MQ nt c0 H0 n0 Q) act c.w
def X2m (P:Program) (nt n0:Nat) (ops:Array Oper) (l:List Oper) (K:St->Mu->Prop) (s:St) (μ:Mu):Prop :=
 ∀ (c0:Ctx) (H0:Xz) (c:Ctx) (act:Act),X38 nt c0 H0 n0 c s act->MOk n0 c0 H0 c s.H μ act->∀ Qx:Exit->Act->World->Prop,
  (∀ c' s' act' μ',X38 nt c0 H0 n0 c' s' act'->MOk n0 c0 H0 c' s'.H μ' act'->K s' μ'->Qx .normal act' c'.w)->∀ R,(R=none->Xi1 μ=true)->Xno R P ops Qx l act c.w
section
variable {P:Program} {nt n0:Nat} {s:St} {μ:Mu} {Q:Xp->St->Mu->Prop}
theorem X2i.of {code:Code} (h:Xr1 P nt n0 code (λe s'=>Q e s' μ) s):X2i P nt n0 code Q s μ:=by
 intro c0 H0 c act g hm R hR;refine wpIn_mono (h c s.H c act g.rebase R hR) ?_;rintro e a w ⟨c',s',ae,rfl,g2,hd,rfl,hq⟩;exact⟨c',s',ae,μ,rfl,.join g.reach g2,hm.kept g2.reach hd,rfl,hq⟩
theorem X2i.mono {code:Code} {Q':Xp->St->Mu->Prop} (h:X2i P nt n0 code Q s μ) (hq:∀ e s μ,Q e s μ->Q' e s μ):X2i P nt n0 code Q' s μ :=
 λc0 H0 c act g hm R hR=>wpIn_mono (h c0 H0 c act g hm R hR) (λ_ _ _ ⟨c,s,ae,μ,h1,h2,h3,h4,h5⟩=>⟨c,s,ae,μ,h1,h2,h3,h4,hq _ _ _ h5⟩)
theorem X2i.skip (h:Q .normal s μ):X2i P nt n0 .skip Q s μ:=.of (.skip h)
theorem X2i.label {l:Nat} (h:Q .normal s μ):X2i P nt n0 (.label l) Q s μ:=.of (.label h)
theorem X2i.exit {id:Nat} (h:Q (.exit id) s μ):X2i P nt n0 (.exit id) Q s μ:=.of (.exit h)
theorem X2i.ret (h:Q .ret s μ):X2i P nt n0 .ret Q s μ:=.of (.ret h)
def seqM (P:Program) (nt n0:Nat) (y:Code) (Q:Xp->St->Mu->Prop):Xp->St->Mu->Prop
 |.normal,s,μ=>X2i P nt n0 y Q s μ
 |e,s,μ=>Q e s μ
theorem X2i.seq {x y:Code} (h:X2i P nt n0 x (seqM P nt n0 y Q) s μ):X2i P nt n0 (.seq x y) Q s μ:=by
 intro c0 H0 c act g hm R hR;refine wpIn_seq (wpIn_mono (h c0 H0 c act g hm R hR.seq1) ?_);rintro e a w ⟨c',s',ae,μ',rfl,g',hm',rfl,hq⟩
 cases ae with
 |normal=>exact hq c0 H0 c' a g' hm' R hR.seq2
 |exit id=>exact⟨c',s',.exit id,μ',rfl,g',hm',rfl,hq⟩
 |ret=>exact⟨c',s',.ret,μ',rfl,g',hm',rfl,hq⟩
theorem X2i.cond {x:Operand} {a b:Code} {t:Bool} (hx:evA s.A x=.sc (.bool t)) (ht:t=true->X2i P nt n0 a Q s μ) (hf:t=false->X2i P nt n0 b Q s μ):X2i P nt n0 (.cond x a b) Q s μ:=by
 intro c0 H0 c act g hm R hR;have h1:=g.ev x;rw[hx] at h1;exact wpIn_cond_split h1.sc_inv (λh=>ht h c0 H0 c act g hm R hR.cond1) (λh=>hf h c0 H0 c act g hm R hR.cond2)
def X8v (id:Nat) (Q:Xp->St->Mu->Prop):Xp->St->Mu->Prop
 |.exit id',s,μ=>bif Nat.beq id' id then Q .normal s μ else Q (.exit id') s μ
 |e,s,μ=>Q e s μ
theorem X2i.block {id:Nat} {code:Code} (h:X2i P nt n0 code (X8v id Q) s μ):X2i P nt n0 (.block id code) Q s μ:=by
 intro c0 H0 c act g hm R hR;refine wpIn_block (wpIn_mono (h c0 H0 c act g hm R hR.block) ?_);rintro e a w ⟨c',s',ae,μ',rfl,g',hm',rfl,hq⟩
 cases ae with
 |normal=>exact⟨c',s',.normal,μ',rfl,g',hm',rfl,hq⟩
 |exit id' =>
  simp only[X8v] at hq;simp only[Xp.of,Exit.inBlock];by_cases he:id'=id
  ·subst he;simp only[Nat.beq_refl,cond_true] at hq;rw[if_pos rfl];exact⟨c',s',.normal,μ',rfl,g',hm',rfl,hq⟩
  ·have:Nat.beq id' id=false:=by rw[<-Bool.not_eq_true,Nat.beq_eq];exact he
   rw[this,cond_false] at hq;rw[if_neg he];exact⟨c',s',.exit id',μ',rfl,g',hm',rfl,hq⟩
 |ret=>exact⟨c',s',.ret,μ',rfl,g',hm',rfl,hq⟩
theorem X2i.scope {code:Code} (h:X2i P nt n0 code Q s μ):X2i P nt n0 (.scope code) Q s μ:=by
 intro c0 H0 c act g hm R hR;have hR2:=hR.scope;obtain rfl:=hR rfl;refine Xnl.2 (wp_scope_straight (Code.wp_mono ?_ (Xnl.1 (h c0 H0 c act g hm none hR2))));rintro e a w ⟨c',s',ae,μ',rfl,g',hm',rfl,hq⟩
 cases ae with
 |normal=>exact⟨c',s',.normal,μ',rfl,g',hm',rfl,hq⟩
 |exit id=>exact⟨c',s',.exit id,μ',rfl,g',hm',rfl,hq⟩
 |ret=>exact⟨c',s',.ret,μ',rfl,g',hm',rfl,hq⟩
theorem MOk.weak {c0 c c':Ctx} {H0:Xz} {s s':St} {θ:Nat->Nat} {act:Act} (hw:Xtx θ n0 s s') (hc:c'={ c with ρ:=λo=>c.ρ (θ o) }) (h:MOk n0 c0 H0 c s.H μ act):MOk n0 c0 H0 c' s'.H μ act:=by
 subst hc;refine⟨λp hp=>(h.is p hp).le rfl ⟨λo ho=>?_,λ_ hb=>hb,λ_ hb=>hb,λ_ _=>rfl,rfl⟩,λp hp=>?_,h.nodup,h.ds⟩
 ·show c.ρ (θ o)=c.ρ o;rw[hw.fix o ho]
 obtain⟨a1,a2,a3,a4⟩:=h.away p hp;refine⟨a1,a2,λo x' hx'=>?_,a4⟩;obtain⟨x,hx,_⟩:=hw.heap o x' hx'
 grind
end
end Go.Av


namespace Go.Av
variable [Gls]
section
variable {P:Program} {T:Ty} {c:Ctx} {H:Xz} {M:Nat->Prop} {ev:Operand->AV} {σ:Operand->Value}
theorem X08b (hT:X7a P T) (hI:Inv c H M) (hE:∀ x,X0m c false (ev x) (σ x)) {d x:Operand} {t t':Nat} {o off len:Nat} {y:Obj} {xs:List AV} {te:TI} {ti:TI} {et:Nat} (ty:TypeId)
  (hd:ev d=.ref o off len) (hH:H o=some y) (hs:y.solo=true) (hle:off+len<=y.es.length) (hx:Xnb H (ev x) xs) (hn0:min xs.length len≠0)
  (ht:T t=some ti) (hk:ti.kind=.slice et) (hte:T et=some te) (hsz:∀ e∈xs,e.cells.length=te.size) (hes:y.esz=te.size) :
  ∃ c',(Builtin.copy_ #[t,t'] ty #[σ d,σ x]).run P c.w=.ok (goInt (min xs.length len)) c'.w/\c.Le M c'/\c'.Sa=c.Sa/\c'.So=c.So /\
   Inv c' (upd H o (some { y with es:=splice y.es off (xs.take (min xs.length len)) })) M/\Fr c H c'.w/\Xaf c H c' (upd H o (some { y with es:=splice y.es off (xs.take (min xs.length len)) })):=by
 have hdv:=hE d;rw[hd] at hdv;obtain⟨hdv,_⟩:=hdv.ref_inv;have hne:xs≠[]:=λh=>by subst h;simp at hn0
 obtain⟨b,so,cap,esz,hsv,hcells⟩:=Xpu hI hx (hE x) hne;obtain⟨hMo,⟨⟨cur,hcb,hcs,hcc⟩,hfits,hpos',hsame⟩,hoks⟩:=hI.obj o y hH;have hesz:esz=te.size:=by
  obtain⟨e,he⟩:=List.exists_mem_of_ne_nil xs hne;obtain⟨i,hi⟩:=List.getElem?_of_mem he;rw[<-(hcells i e hi).1,hsz e he]
 have hρ:(c.ρ o).esz=te.size:=by rw[<-hsame,hes]
 subst hesz;have htake:∀ (i:Nat) e,(xs.take (min xs.length len))[i]?=some e->e.cells.length=te.size/\EAt c M e b (so+i*te.size):=by
  intro i e he;rw[List.getElem?_take] at he;split at he
  ·exact hcells i e he
  ·cases he
 have hlt:(xs.take (min xs.length len)).length=min xs.length len:=by simp
 obtain⟨news,hnl,hnc,hn1,hnr⟩:=Xla om htake;rw[hlt] at hnl;have hbound:(off+min xs.length len)*(c.ρ o).esz<=(c.ρ o).cap*(c.ρ o).esz:=Nat.mul_le_mul_right _ om;rw[Nat.add_mul,hρ] at hbound;have hl:=run_loadCells_list (P:=P) c.w ⟨b,so,none⟩ news hnc;rw[hnl] at hl;have hst:=run_storeCells_at P (c.ρ o).blk (off*te.size) (c.ρ o).ety news 0 cur c.w hcb (by rw[hnl,hcs,hρ];omega) hn1;simp only[Nat.add_zero] at hst;let new:Array Value:=(cur.toList.take (off*te.size)++news++cur.toList.drop (off*te.size+news.length)).toArray
 have hrun:(Builtin.copy_ #[t,t'] ty #[σ d,σ x]).run P c.w=.ok (goInt (min xs.length len)) (c.w.setRow (c.ρ o).blk new):=by
  rw[hdv,hsv,hρ];obtain⟨i,dd,hi,hu,_,_,hsi,_⟩:=X1y (hT et te hte);have hu':=X1i (hT t ti ht) hk;have hmin:Nat.min xs.length len=min xs.length len:=rfl;rw[hsi] at hl hst;simp[Builtin.copy_,run_underlying hu',Builtin.lenOf,Builtin.firstCells,Go.sizeOf,typeInfo,hi,hsi,hmin,hl,hst,new];exact congrArg goInt om
 have hnsz:new.size=cur.size:=by
  simp only[new,List.size_toArray,List.length_append,List.length_take,List.length_drop,Array.length_toList,hnl];rw[hcs,hρ];omega
 have hget:∀ j,new[j]?=if off*te.size<=j/\j<off*te.size+min xs.length len*te.size then news[j - off*te.size]? else cur[j]?:=by
  intro j;simp only[new,List.append_assoc,List.getElem?_toArray];rw[List.getElem?_append,List.getElem?_append];simp only[List.length_take,Array.length_toList,Nat.min_eq_left (show off*te.size<=cur.size by rw[hcs,hρ];omega)];by_cases h1:j<off*te.size
  ·rw[if_pos h1,if_neg om,List.getElem?_take,if_pos h1];simp
  ·rw[if_neg h1];by_cases h2:j - off*te.size<news.length
   ·rw[if_pos h2,if_pos om]
   ·rw[if_neg h2,if_neg om,List.getElem?_drop];simp only[Array.getElem?_toList];congr 1;omega
 have hsp:off+(xs.take (min xs.length len)).length<=y.es.length:=by rw[hlt];omega
 have hw:=Xq1 hI hH hs hcb hnsz (es':=splice y.es off (xs.take (min xs.length len))) ?_ ?_
 ·obtain⟨g1,g2,g3,g4⟩:=hw;exact⟨_,hrun,g1,rfl,rfl,g2,g3,g4⟩
 ·unfold splice;simp only[List.length_append,List.length_take,List.length_drop];omega
 ·intro i e he;rw[getElem?_splice hsp,hlt] at he;rw[hρ];by_cases h1:off<=i/\i<off+min xs.length len
  ·rw[if_pos h1] at he;refine⟨(htake _ e he).1,λk a ha=>?_⟩;obtain⟨h3,v,h4,h5,h6⟩:=hnr _ e k a he ha;have hk':k<te.size:=by rw[<-(htake _ e he).1];exact(List.getElem?_eq_some_iff.1 ha).1
   have hm1:(i - off)*te.size+off*te.size=i*te.size:=by rw[<-Nat.add_mul];congr 1;omega
   have hm2:(i - off+1)*te.size<=min xs.length len*te.size:=Nat.mul_le_mul_right _ om;rw[Nat.add_mul] at hm2;refine⟨h3,v,?_,h5,h6⟩;rw[hget,if_pos om,<-h4];congr 1;omega
  ·rw[if_neg h1] at he;obtain⟨g1,g2⟩:=hcc i e he;rw[hρ] at g1;refine⟨g1,λk a ha=>?_⟩;obtain⟨v,h3,h4,h5⟩:=g2 k a ha;rw[hρ] at h3;have hk':k<te.size:=by rw[<-g1];exact(List.getElem?_eq_some_iff.1 ha).1
   refine⟨hoks e (List.mem_of_getElem? he) a (List.mem_of_getElem? ha),v,?_,h4,h5⟩;rw[hget,if_neg ?_]
   ·exact h3
   ·by_cases h2:i<off
    ·have:(i+1)*te.size<=off*te.size:=Nat.mul_le_mul_right _ h2;rw[Nat.add_mul] at this;omega
    ·have:(off+min xs.length len)*te.size<=i*te.size:=Nat.mul_le_mul_right _ om;rw[Nat.add_mul] at this;omega
end
end Go.Av


namespace Go.Av
variable [Gls]
section
variable {P:Program} {T:Ty} {nt:Nat} {o:Oper} {s:St}
theorem OpR.copy (hT:X7a P T) {d x:Operand} {t t' q off len:Nat} {y:Obj} {xs:List AV} {te:TI} {ti:TI} {et:Nat} (ho:o.op=.call { callee:=.builtin .copy,args:=#[d,x],argTypes:=#[t,t'] })
  (hd:evA s.A d=.ref q off len) (hH:s.H q=some y) (hle:off+len<=y.es.length) (hx:Xnb s.H (evA s.A x) xs) (hn0:min xs.length len≠0)
  (ht:T t=some ti) (hk:ti.kind=.slice et) (hte:T et=some te) (hsz:∀ e∈xs,e.cells.length=te.size) (hes:y.esz=te.size) :
  OpR P nt o s (λa' H' n'=>a'=.sc (goInt (min xs.length len))/\H'=upd s.H q (some { y with es:=splice y.es off (xs.take (min xs.length len)) })/\n'=s.n):=by
 intro c0 H0 n0 c act g K Q hK R;obtain⟨c',h1,hle',hsa,hso,hI,hfr,hown⟩:=X08b (σ:=act.eval) hT g.inv g.ev o.type hd hH (g.solo q y hH).1 hle hx hn0 ht hk hte hsz hes (t':=t');have hrun:(execOp act.eval o).run P c.w=.ok (.value (goInt (min xs.length len))) c'.w:=by
  simp[execOp,ho,resolve,invoke,builtin,h1]
 refine Oper.wpR (λd hd=>by rw[hd] at ho;cases ho) ?_;unfold Oper.wp;rw[hrun];have hs:∀ r z,upd s.H q (some { y with es:=splice y.es off (xs.take (min xs.length len)) }) r=some z->z.solo=true/\z.spent=false:=by
  intro r z hz;by_cases hr:r=q
  ·subst hr;rw[Xk] at hz;cases hz;exact g.solo r y hH
  ·rw[Xm _ _ hr] at hz;exact g.solo r z hz
 exact hK c' _ _ _ _ ⟨rfl,rfl,rfl⟩ λdst hd=>g.next hd hle' hsa (λb hb=>.inl (by rw[hso] at hb;exact hb)) hfr hown hI hs (Nat.le_refl _) .sc .sc
end
end Go.Av


namespace Go.Av
variable [Gls]
section
variable {P:Program} {T:Ty} {nt:Nat} {o:Oper} {s:St}
theorem OpR.copy0 (hT:X7a P T) {d x:Operand} {t t' n1 n2:Nat} {te:TI} {ti:TI} {et:Nat} (ho:o.op=.call { callee:=.builtin .copy,args:=#[d,x],argTypes:=#[t,t'] })
  (hd:Xq3 (evA s.A d)=some n1) (hd':∀ u,evA s.A d≠.sc (.string u)) (hx:Xq3 (evA s.A x)=some n2) (hx':∀ u,evA s.A x≠.sc (.string u)) (hn0:min n2 n1=0)
  (ht:T t=some ti) (hk:ti.kind=.slice et) (hte:T et=some te):OpR P nt o s (λa' H' n'=>a'=.sc (goInt 0)/\H'=s.H/\n'=s.n):=by
 intro c0 H0 n0 c act g K Q hK R;obtain⟨p1,q1,h1⟩:=(g.ev d).len_inv hd hd';obtain⟨p2,q2,h2⟩:=(g.ev x).len_inv hx hx';have hmin:Nat.min n2 n1=0:=hn0;have hrun:(execOp act.eval o).run P c.w=.ok (.value (goInt 0)) c.w:=by
  have hu:=X1i (hT t ti ht) hk;cases p1<;>cases p2 <;>
   simp[execOp,ho,resolve,invoke,builtin,Builtin.copy_,h1,h2,run_underlying hu,Builtin.lenOf,hmin,X0w c.w (hT et te hte),Builtin.firstCells,loadCells,loadCellsFrom,storeCells]<;>(try omega)
 refine Oper.wpR (λd hd=>by rw[hd] at ho;cases ho) ?_;unfold Oper.wp;rw[hrun];exact hK c _ _ _ _ ⟨rfl,rfl,rfl⟩ λdst hd=>g.next hd (.refl c) rfl (λb hb=>.inl hb) (.refl c s.H) (λq x hx=>.inr ⟨q,x,hx,rfl⟩) g.inv g.solo (Nat.le_refl _) .sc .sc
end
end Go.Av


namespace Go.Av
variable [Gls]
def X0dx (ev:Operand->AV) (c a b:Operand):Option AV :=
 match ev c with
 |.sc (.bool true)=>some (ev a)
 |.sc (.bool false)=>some (ev b)
 |_=>none
def X0ad (ti:TI) (H:Xz) (p:AV):Option AV :=
 match Xqp H p with
 |some (e,k)=>Xgf ti e k
 |none=>none
def X0dy (T:Ty) (ev:Operand->AV) (H:Xz) (t:Nat) (x:Operand):Option AV :=
 match T t with
 |some ti=>X0ad ti H (ev x)
 |none=>none
def qNil:AV->Option AV
 |.ptr o i k=>some (.ptr o i k)
 |.elem own e k=>some (.elem own e k)
 |.fn f caps=>some (.fn f caps)
 |_=>none
def Xrr (off:Nat):AV->Option AV
 |.ptr o i k=>some (.ptr o i (k+off))
 |.elem own e k=>some (.elem own e (k+off))
 |_=>none
def Xud (T:Ty) (ev:Operand->AV) (s:Nat) (x:Operand) (f:Nat):Option AV :=
 match Xev T s f with
 |some (off,tf)=>if tf.size≠0 then Xrr off (ev x) else none
 |none=>none
def Xwp (T:Ty) (ev:Operand->AV) (s:Nat) (x:Operand) (f:Nat):Option AV :=
 match Xev T s f with
 |some (off,tf)=>match ev x with
  |.agg cs=>eqT.partA tf cs off
  |_=>none
 |none=>none
def Xhb (T:Ty) (ev:Operand->AV) (H:Xz) (t:Nat) (x ix:Operand):Option AV :=
 match ev ix with
 |.sc (.int _ i)=>if 0<=i then ixF T H t (ev x) i else none
 |_=>none
def X0ae (T:Ty) (ev:Operand->AV) (t:Nat) (x ix:Operand):Option AV :=
 match ev ix with
 |.sc (.int _ i)=>if 0<=i then (match ev x with
  |.agg cs=>match Xlk T t with
   |some (n,te)=>if i<n then eqT.partA te cs (i.toNat*te.size) else none
   |none=>none
  |_=>none) else none
 |_=>none
def X01c (ev:Operand->AV) (x:Operand) (i:Nat):Option AV :=
 match ev x with
 |.tup cs=>cs[i]?
 |_=>none
def X0e0 (x:AV):Option AV :=
 match x with
 |.list _ es=>some (.sc (.int .i64 es.length))
 |.ref _ _ n=>some (.sc (.int .i64 n))
 |.nils=>some (.sc (.int .i64 (0:Nat)))
 |_=>none
def X0dz (x:AV):Option AV :=
 match x with
 |.sc (.string s)=>some (.sc (.int .i64 s.size))
 |_=>none
def qLen (T:Ty) (ev:Operand->AV) (x:Operand) (t:Nat):Option AV :=
 match T t with
 |some ti=>match ti.kind with
  |.slice _=>X0e0 (ev x)
  |.string=>X0dz (ev x)
  |.array n _=>some (.sc (.int .i64 n))
  |_=>none
 |none=>none
def X0af (T:Ty) (ev:Operand->AV) (t:Nat) (ps:Array (Nat×Operand)):Option AV :=
 match T t with
 |some ti=>match X1m ti.zero with
  |.agg cs=>match ti.kind with
   |.struct fs=>if fs.all (λp=>(T p.2).isSome) then (match Xj2 (λi=>(fs[i]?).map λp=>(p.1,((T p.2).map (·.size)).getD 0)) cs (ps.toList.map λp=>(p.1,ev p.2)) with
    |some r=>some (.agg r)
    |none=>none) else none
   |.array _ et=>match T et with
    |some te=>match Xj2 (λi=>some (i*te.size,te.size)) cs (ps.toList.map λp=>(p.1,ev p.2)) with
     |some r=>some (.agg r)
     |none=>none
    |none=>none
   |_=>none
  |_=>none
 |none=>none
def qPu (T:Ty) (ev:Operand->AV) (H:Xz) (op:Op):Option AV :=
 match op with
 |.move x=>some (ev x)
 |.assign x=>some (ev x)
 |.pick c a b=>X0dx ev c a b
 |.load t x=>X0dy T ev H t x
 |.nilCheck x=>qNil (ev x)
 |.binOp op t x y _=>binF T op t (ev x) (ev y)
 |.unOp op _ x=>unF op (ev x)
 |.convert src dst x=>X037 T src dst (ev x)
 |.fieldAddr s x f=>Xud T ev s x f
 |.field s x f=>Xwp T ev s x f
 |.indexAddr t x ix=>Xhb T ev H t x ix
 |.index t x ix=>X0ae T ev t x ix
 |.extract x i=>X01c ev x i
 |.build t ps=>X0af T ev t ps
 |.slice t x lo hi mx=>puF T ev H (.slice t x lo hi mx)
 |.makeFunc f ts caps=>puF T ev H (.makeFunc f ts caps)
 |.call c=>match c.callee with
  |.builtin .len=>match c.args.toList,c.argTypes.toList with
   |[x],[t]=>qLen T ev x t
   |_,_=>none
  |.builtin .append=>none
  |.builtin _=>puF T ev H (.call c)
  |_=>none
 |_=>none
theorem Xer {T:Ty} {ev:Operand->AV} {H:Xz} {op:Op} {a:AV} (h:qPu T ev H op=some a):Pu T ev H op a:=by
 refine Xhz ?_;unfold qPu at h;split at h
 all_goals first
  |exact h
  |skip
 ·rename_i c;obtain⟨callee,args,ts⟩:=c;simp only at h;split at h
  ·split at h
   ·rename_i x t ha ht;obtain⟨l⟩:=args;obtain⟨m⟩:=ts;simp only at ha ht;subst ha ht;exact h
   ·cases h
  ·cases h
  ·exact h
  ·cases h
 ·cases h
end Go.Av


namespace Go.Av
variable [Gls]
def hp:List (Nat×Obj)->Xz
 |[],_=>none
 |(d,x)::l,o=>bif Nat.beq o d then (bif x.gone then none else some x) else hp l o
theorem Xhj:∀ {G:List (Nat×Obj)} {o:Nat} {y:Obj},hp G o=some y->y.gone=false:=by
 intro G
 induction G with
 |nil=>intro o y h;cases h
 |cons p l ih =>
  intro o y h;obtain⟨d,x⟩:=p;simp only[hp] at h
  grind
inductive X4d where
 |el (e:AV)
 |ld (e:AV)
 |no
 |pure (bs:List AV) (r:AV)
 |call (r:AV) (G:List (Nat×Obj)) (n:Nat)
 |go (b:Bool)
 |br (b:Bool)
 |ne (b:Bool)
 |wrap
 |ix (j:Nat)
 |stop (j:Nat)
 |via (a:AV)
 |trunc (o:Nat) (es:List AV)
 |see (l:List (Nat×List Nat))
def X4u:List Prop->Prop
 |[]=>True
 |p::r=>p/\X4u r
theorem X0h {a b:List Prop}:X4u (a++b)↔X4u a/\X4u b:=by
 induction a with
 |nil=>simp[X4u]
 |cons p a ih=>simp[X4u,ih,and_assoc]
def Xps (g:Bool):List Prop->List Prop
 |[]=>[]
 |p::r=>(g=true->p)::Xps g r
theorem Xk5 {g:Bool} {l:List Prop} (h:X4u (Xps g l)) (hg:g=true):X4u l:=by
 induction l with
 |nil=>trivial
 |cons p l ih=>exact⟨h.1 hg,ih h.2⟩
def Xcb (v:Value):AV :=
 match v with
 |.agg ⟨vs⟩=>match vs.all (λv=>v.oneCell') with
  |true=>.agg (vs.map Xi0)
  |false=>.sc (.agg ⟨vs⟩)
 |v=>Xi0 v
theorem Xa5 (v:Value):Xcb v=X1m v:=by
 cases v with
 |agg vs =>
  obtain⟨vs⟩:=vs
  grind [Xcb,X1m,Array.all]
 |_=>rfl
def rdA (a:AV):AV×List Prop :=
 match a with
 |.cond g v=>(v,[g=true])
 |.junk=>(.junk,[])
 |.sc v=>(.sc v,[])
 |.nils=>(.nils,[])
 |.agg cs=>(.agg cs,[])
 |.tup cs=>(.tup cs,[])
 |.list o es=>(.list o es,[])
 |.ref o f l=>(.ref o f l,[])
 |.ptr o i n=>(.ptr o i n,[])
 |.elem o e n=>(.elem o e n,[])
 |.fn f cs=>(.fn f cs,[])
 |.mref o m=>(.mref o m,[])
 |.mv f a=>(.mv f a,[])
theorem X0a9 {a b:AV} {ps:List Prop} (h:rdA a=(b,ps)) (hp:X4u ps):X52 a=b:=by
 cases a with
 |cond g v =>
  cases h
  simp_all [X4u,and_true,hp,X52]
 |_=>cases h;rfl
def rd (L:List (Nat×AV)) (x:Operand):AV×List Prop :=
 match x with
 |.tmp t=>rdA (fr L t)
 |.const v=>(Xcb v,[])
 |.global g=>(.sc (.pointer (some ⟨g,0,none⟩)),[])
 |.func f=>(.fn f [],[])
theorem X13 {L:List (Nat×AV)} {x:Operand} {a:AV} {ps:List Prop} (h:rd L x=(a,ps)) (hp:X4u ps):evA (fr L) x=a:=by
 unfold rd at h;split at h
 ·exact X0a9 h hp
 ·cases h;exact(Xa5 _).symm
 ·cases h;rfl
 ·cases h;rfl
def rds (L:List (Nat×AV)):List Operand->List AV×List Prop
 |[]=>([],[])
 |x::r=>match rd L x,rds L r with
  |(a,p),(l,q)=>(a::l,p++q)
theorem Xg9 {L:List (Nat×AV)}:∀ {xs:List Operand} {as:List AV} {ps:List Prop},rds L xs=(as,ps)->X4u ps->xs.map (evA (fr L))=as:=by
 intro xs
 induction xs with
 |nil=>grind [rds]
 |cons x r ih =>
  intro as ps h hp;simp only[rds] at h;cases h
  obtain⟨h1,h2⟩:=X0h.1 hp;simp only[List.map_cons];rw[X13 (a:=(rd L x).1) (ps:=(rd L x).2) rfl h1,ih (as:=(rds L r).1) (ps:=(rds L r).2) rfl h2]
def X047 {β:Type} (v:Value) (k:Value->Option β):Option β :=
 match v with
 |.int q z=>k (.int q z)
 |.bool b=>k (.bool b)
 |.string s=>k (.string s)
 |v=>k v
theorem Xy6 {β:Type} (v:Value) (k:Value->Option β):X047 v k=k v:=by cases v<;>rfl
def Xtf {β:Type} (a:AV) (k:AV->Option β):Option β :=
 match a with
 |.junk=>k .junk
 |.sc v=>X047 v λv=>k (.sc v)
 |.nils=>k .nils
 |.agg cs=>k (.agg cs)
 |.tup cs=>k (.tup cs)
 |.list o es=>k (.list o es)
 |.ref o f l=>k (.ref o f l)
 |.ptr o i n=>k (.ptr o i n)
 |.elem o e n=>k (.elem o e n)
 |.fn f cs=>k (.fn f cs)
 |.mref o m=>k (.mref o m)
 |.mv f a=>k (.mv f a)
 |.cond b v=>k (.cond b v)
theorem Xqh {β:Type} (a:AV) (k:AV->Option β):Xtf a k=k a:=by cases a<;>simp[Xtf,Xy6]
def Xhl {β:Type}:List AV->(List AV->Option β)->Option β
 |[],k=>k []
 |a::r,k=>Xtf a λa=>Xhl r λr=>k (a::r)
theorem Xus {β:Type}:∀ (l:List AV) (k:List AV->Option β),Xhl l k=k l:=by
 intro l
 induction l with
 |nil=>intro k;rfl
 |cons a r ih=>intro k;simp[Xhl,Xqh,ih]
def Xte {β:Type} (a:AV) (k:AV->Option β):Option β :=
 match a with
 |.agg cs=>Xhl cs λcs=>k (.agg cs)
 |.tup cs=>Xhl cs λcs=>k (.tup cs)
 |.fn f cs=>Xhl cs λcs=>k (.fn f cs)
 |a=>Xtf a k
theorem Xqg {β:Type} (a:AV) (k:AV->Option β):Xte a k=k a:=by cases a<;>simp[Xte,Xus,Xqh]
def Xgm {β:Type}:List AV->(List AV->Option β)->Option β
 |[],k=>k []
 |a::r,k=>Xte a λa=>Xgm r λr=>k (a::r)
theorem Xdj {β:Type}:∀ (l:List AV) (k:List AV->Option β),Xgm l k=k l:=by
 intro l
 induction l with
 |nil=>intro k;rfl
 |cons a r ih=>intro k;simp[Xgm,Xqg,ih]
def Xdl {β:Type} (a:AV) (k:AV->Option β):Option β :=
 match a with
 |.agg cs=>Xgm cs λcs=>k (.agg cs)
 |.tup cs=>Xgm cs λcs=>k (.tup cs)
 |a=>Xte a k
theorem X71 {β:Type} (a:AV) (k:AV->Option β):Xdl a k=k a:=by
 cases a<;>simp[Xdl,Xdj,Xqg]
abbrev PR:=Option (AV×List X4d×List Prop)
def X0h3:List X4d->Bool
 |.wrap::_=>true
 |_=>false
def fitS (k:IntKind) (z:Int) (hs:List X4d) (ps:List Prop):PR :=
 match hs with
 |.wrap::hs=>some (.sc (.int k (k.wrap z)),hs,ps)
 |hs=>some (.sc (.int k z),hs,(k.wrap z=z)::ps)
theorem Xfn {k:IntKind} {z:Int} {hs hs':List X4d} {ps ps':List Prop} {a:AV} (h:fitS k z hs ps=some (a,hs',ps')) (hp:X4u ps'):a=.sc (.int k (k.wrap z))/\X4u ps:=by
 unfold fitS at h;split at h
 ·grind
 ·cases h;exact⟨by rw[hp.1],hp.2⟩
def binS (T:Ty) (op:BinOp) (t:Nat) (x y:AV) (hs:List X4d) (ps:List Prop):PR :=
 match op,x,y with
 |.add,.sc (.int k a),.sc (.int k' b)=>if k=k' then fitS k (a+b) hs ps else none
 |.sub,.sc (.int k a),.sc (.int k' b)=>if k=k' then fitS k (a - b) hs ps else none
 |.mul,.sc (.int k a),.sc (.int k' b)=>if k=k' then fitS k (a*b) hs ps else none
 |.quo,.sc (.int k a),.sc (.int k' b)=>if k=k' then fitS k (a.tdiv b) hs ((b≠0)::ps) else none
 |.rem,.sc (.int k a),.sc (.int k' b)=>if k=k' then some (.sc (.int k (a.tmod b)),hs,(b≠0)::ps) else none
 |.shl,.sc (.int k a),.sc (.int _ b)=>fitS k (a*2 ^ (min b.toNat k.bits)) hs ((0<=b)::ps)
 |.shr,.sc (.int k a),.sc (.int _ b)=>some (.sc (.int k (a.fdiv (2 ^ (min b.toNat k.bits)))),hs,(0<=b)::ps)
 |op,x,y=>match binF T op t x y with
  |some a=>some (a,hs,ps)
  |none=>none
theorem X08l {T:Ty} {ev:Operand->AV} {H:Xz} {op:BinOp} {t yt:Nat} {x y:Operand} {u v:AV} {hs hs':List X4d} {ps ps':List Prop} {a:AV} (hx:X4u ps->ev x=u) (hy:X4u ps->ev y=v)
  (h:binS T op t u v hs ps=some (a,hs',ps')) (hp:X4u ps'):Pu T ev H (.binOp op t x y yt) a:=by
 unfold binS at h;split at h
 ·split at h
  ·rename_i hk;subst hk;obtain⟨rfl,h2⟩:=Xfn h hp;exact .binInt (hx h2) (hy h2) rfl
  ·cases h
 ·split at h
  ·rename_i hk;subst hk;obtain⟨rfl,h2⟩:=Xfn h hp;exact .binInt (hx h2) (hy h2) rfl
  ·cases h
 ·split at h
  ·rename_i hk;subst hk;obtain⟨rfl,h2⟩:=Xfn h hp;exact .binInt (hx h2) (hy h2) rfl
  ·cases h
 ·split at h
  ·rename_i hk;subst hk;obtain⟨rfl,h2⟩:=Xfn h hp;exact .quo (hx h2.2) (hy h2.2) h2.1
  ·cases h
 ·split at h
  ·rename_i hk;subst hk;cases h;exact .rem (hx hp.2) (hy hp.2) hp.1
  ·cases h
 ·obtain⟨rfl,h2⟩:=Xfn h hp;exact .shl (hx h2.2) (hy h2.2) h2.1
 ·cases h;exact .shr (hx hp.2) (hy hp.2) hp.1
 grind [hp,Xz9]
def X08c (T:Ty) (src dst:Nat) (x:AV) (hs:List X4d) (ps:List Prop):PR :=
 match x with
 |.sc (.int _ n)=>match T src with
  |some _=>match T dst with
   |some td=>match td.kind with
    |.int k'=>fitS k' n hs ps
    |_=>none
   |none=>none
  |none=>none
 |x=>match X037 T src dst x with
  |some a=>some (a,hs,ps)
  |none=>none
def unS (op:UnOp) (x:AV) (hs:List X4d) (ps:List Prop):PR :=
 match op,x with
 |.neg,.sc (.int k n)=>fitS k (0 - n) hs ps
 |.not,.sc (.bool b)=>some (.sc (.bool (!b)),hs,ps)
 |_,_=>none
def Xyp (H:Xz) (p:AV) (hs:List X4d) (ps:List Prop):Option (AV×Nat×List X4d×List Prop) :=
 match p with
 |.elem _ e k=>some (e,k,hs,ps)
 |.ptr o i k=>match H o with
  |some y=>match hs with
   |.ld e::hs=>some (e,k,hs,(y.es[i]?=some e)::ps)
   |hs=>match y.es[i]? with
    |some e=>some (e,k,hs,ps)
    |none=>none
  |none=>none
 |_=>none
theorem Xyo {H:Xz} {p e:AV} {k:Nat} {hs hs':List X4d} {ps ps':List Prop} (h:Xyp H p hs ps=some (e,k,hs',ps')) (hp:X4u ps'):Xqw H p e k/\X4u ps:=by
 unfold Xyp at h;split at h
 ·cases h;exact⟨.elem,hp⟩
 ·split at h
  ·rename_i hH;split at h
   ·cases h;exact⟨.ptr hH hp.1,hp.2⟩
   ·split at h
    ·rename_i he;cases h;exact⟨.ptr hH he,hp⟩
    ·cases h
  ·cases h
 ·cases h
def ixS (T:Ty) (H:Xz) (t:Nat) (x:AV) (i:Int) (hs:List X4d) (ps:List Prop):PR :=
 match x,hs with
 |.list own es,.el e::hs=>match X2n T t with
  |some te=>if e.cells.length=te.size then some (.elem own e 0,hs,(0<=i)::(es[i.toNat]?=some e)::ps) else none
  |none=>none
 |.ref o off len,.el e::hs=>match X2n T t with
  |some te=>match H o with
   |some y=>if e.cells.length=te.size then some (.ptr o (off+i.toNat) 0,hs,(0<=i)::(i<len)::(y.es[off+i.toNat]?=some e)::ps) else none
   |none=>none
  |none=>none
 |.ptr o j q,.ix m::hs=>match Xlk T t with
  |some (n,te)=>some (.ptr o j (q+m*te.size),hs,(i=(m:Int))::(m<n)::ps)
  |none=>none
 |.elem own e q,.ix m::hs=>match Xlk T t with
  |some (n,te)=>some (.elem own e (q+m*te.size),hs,(i=(m:Int))::(m<n)::ps)
  |none=>none
 |.ptr o j q,hs=>match Xlk T t with
  |some (n,te)=>some (.ptr o j (q+i.toNat*te.size),hs,(0<=i)::(i<n)::ps)
  |none=>none
 |.elem own e q,hs=>match Xlk T t with
  |some (n,te)=>some (.elem own e (q+i.toNat*te.size),hs,(0<=i)::(i<n)::ps)
  |none=>none
 |x,hs=>match ixF T H t x i with
  |some a=>some (a,hs,(0<=i)::ps)
  |none=>none
def bdS (L:List (Nat×AV)) (o:Option Operand) (d:Nat) (ps:List Prop):Option (Nat×List Prop) :=
 match o with
 |none=>some (d,ps)
 |some x=>match rd L x with
  |(.sc (.int _ z),qs)=>some (z.toNat,(0<=z)::(qs++ps))
  |_=>none
theorem X7i {L:List (Nat×AV)} {o:Option Operand} {d n:Nat} {ps ps':List Prop} (h:bdS L o d ps=some (n,ps')) (hp:X4u ps'):Bd (evA (fr L)) o d n/\X4u ps:=by
 unfold bdS at h;split at h
 ·cases h;exact⟨.dflt,hp⟩
 ·split at h
  ·rename_i hr;cases h
   obtain⟨h1,h2⟩:=hp;obtain⟨h3,h4⟩:=X0h.1 h2;exact⟨.given (X13 hr h3) h1,h4⟩
  ·cases h
def Xw8 (T:Ty) (L:List (Nat×AV)) (H:Xz) (t:Nat) (x:AV) (lo hi:Option Operand) (hs:List X4d) (ps:List Prop):PR :=
 match x with
 |.list own es=>match X2n T t with
  |some te=>match bdS L lo 0 ps with
   |some (l,ps)=>match bdS L hi es.length ps with
    |some (h,ps)=>match hs with
     |.via (.list _ es')::hs=>some (.list own es',hs,((es.drop l).take (h - l)=es')::(l<=h)::(h<=es.length)::(∀ e∈es,e.cells.length=te.size)::ps)
     |hs=>some (.list own ((es.drop l).take (h - l)),hs,(l<=h)::(h<=es.length)::(∀ e∈es,e.cells.length=te.size)::ps)
    |none=>none
   |none=>none
  |none=>none
 |.ref o off len=>match X2n T t with
  |some te=>match bdS L lo 0 ps with
   |some (l,ps)=>match bdS L hi len ps with
    |some (h,ps)=>match hs with
     |.ne false::hs=>some (.list true [],hs,(l=h)::(l<=len)::ps)
     |.via (.ref _ off' h')::hs=>match H o with
      |some y=>if y.esz=te.size then some (.ref o off' h',hs,(off+l=off')::(h - l=h')::(l<=h)::(l=0\/l<h)::(h<=len\/off+h<=y.es.length)::ps) else none
      |none=>some (.ref o off' h',hs,(off+l=off')::(h - l=h')::(l=0)::(h<=len)::ps)
     |hs=>match H o with
      |some y=>some (.ref o (off+l) (h - l),hs,(l<h)::(h<=len)::(∃ e∈y.es,e.cells.length=te.size)::ps)
      |none=>some (.ref o (off+l) (h - l),hs,(l=0)::(h<=len)::ps)
    |none=>none
   |none=>none
  |none=>none
 |.nils=>match X2n T t with
  |some _=>match bdS L lo 0 ps with
   |some (l,ps)=>match bdS L hi 0 ps with
    |some (h,ps)=>some (.nils,hs,(l=0)::(h=0)::ps)
    |none=>none
   |none=>none
  |none=>none
 |_=>none
theorem Xw7 {T:Ty} {L:List (Nat×AV)} {H:Xz} {t:Nat} {x:Operand} {u:AV} {lo hi:Option Operand} {hs hs':List X4d} {ps ps':List Prop} {a:AV} (hx:X4u ps->evA (fr L) x=u)
  (h:Xw8 T L H t u lo hi hs ps=some (a,hs',ps')) (hp:X4u ps'):Pu T (evA (fr L)) H (.slice t x lo hi none) a:=by
 unfold Xw8 at h;split at h
 ·split at h
  ·rename_i hs;obtain⟨ti,et,h1,h2,h3⟩:=X16 hs;split at h
   ·rename_i hl;split at h
    ·rename_i hh;split at h
     ·cases h
      obtain⟨p0,p1,p2,p3,p4⟩:=hp;obtain⟨b2,q2⟩:=X7i hh p4;obtain⟨b1,q1⟩:=X7i hl q2;rw[<-p0];exact .sliceList (hx q1) b1 b2 p1 p2 h1 h2 h3 p3
     ·cases h
      obtain⟨p1,p2,p3,p4⟩:=hp;obtain⟨b2,q2⟩:=X7i hh p4;obtain⟨b1,q1⟩:=X7i hl q2;exact .sliceList (hx q1) b1 b2 p1 p2 h1 h2 h3 p3
    ·cases h
   ·cases h
  ·cases h
 ·split at h
  ·rename_i hs;obtain⟨ti,et,h1,h2,h3⟩:=X16 hs;split at h
   ·rename_i hl;split at h
    ·rename_i hh;split at h
     ·cases h
      obtain⟨rfl,p2,p4⟩:=hp;obtain⟨b2,q2⟩:=X7i hh p4;obtain⟨b1,q1⟩:=X7i hl q2;exact .sliceRef0 (hx q1) b1 b2 p2 h1 h2 h3
     ·split at h
      ·rename_i hH;split at h
       ·rename_i hes;cases h
        obtain⟨rfl,rfl,p1,p2,p3,p4⟩:=hp;obtain⟨b2,q2⟩:=X7i hh p4;obtain⟨b1,q1⟩:=X7i hl q2;exact .sliceRefV (hx q1) b1 b2 p1 p2 hH p3 h1 h2 h3 hes
       ·cases h
      ·cases h
       obtain⟨rfl,rfl,p1,p2,p4⟩:=hp;obtain⟨b2,q2⟩:=X7i hh p4;obtain⟨b1,q1⟩:=X7i hl q2;exact .sliceRefZ (hx q1) b1 b2 p1 p2 h1 h2 h3
     ·split at h
      ·rename_i hH;cases h
       obtain⟨p1,p2,p3,p4⟩:=hp;obtain⟨b2,q2⟩:=X7i hh p4;obtain⟨b1,q1⟩:=X7i hl q2;exact .sliceRef (hx q1) b1 b2 p1 p2 h1 h2 h3 hH p3
      ·cases h
       obtain⟨p1,p2,p4⟩:=hp;obtain⟨b2,q2⟩:=X7i hh p4;obtain⟨b1,q1⟩:=X7i hl q2;exact .sliceRefZ (hx q1) b1 b2 p1 p2 h1 h2 h3
    ·cases h
   ·cases h
  ·cases h
 ·split at h
  ·rename_i hs;obtain⟨ti,et,h1,h2,h3⟩:=X16 hs;split at h
   ·rename_i hl;split at h
    ·rename_i hh;cases h
     obtain⟨rfl,rfl,p4⟩:=hp;obtain⟨b2,q2⟩:=X7i hh p4;obtain⟨b1,q1⟩:=X7i hl q2;exact .sliceNils (hx q1) b1 b2 h1 h2 h3
    ·cases h
   ·cases h
  ·cases h
 ·cases h
theorem Xxu {T:Ty} {ev:Operand->AV} {H:Xz} {t:Nat} {x ix:Operand} {u:AV} {q:IntKind} {i:Int} {hs hs':List X4d} {ps ps':List Prop} {a:AV} (hx:X4u ps->ev x=u) (hi:X4u ps->ev ix=.sc (.int q i))
  (h:ixS T H t u i hs ps=some (a,hs',ps')) (hp:X4u ps'):Pu T ev H (.indexAddr t x ix) a:=by
 unfold ixS at h;split at h
 ·split at h
  ·rename_i hs;obtain⟨ti,et,h1,h2,h3⟩:=X16 hs;split at h
   ·rename_i hsz;cases h
    exact .indexList (hx hp.2.2) (hi hp.2.2) hp.1 h1 h2 h3 hp.2.1 hsz
   ·cases h
  ·cases h
 ·split at h
  ·rename_i hs;obtain⟨ti,et,h1,h2,h3⟩:=X16 hs;split at h
   ·rename_i hH;split at h
    ·rename_i hsz;cases h
     exact .indexRef (hx hp.2.2.2) (hi hp.2.2.2) hp.1 hp.2.1 h1 h2 h3 hH hp.2.2.1 hsz
    ·cases h
   ·cases h
  ·cases h
 ·split at h
  ·rename_i hs;obtain⟨ti,et,h1,h2,h3⟩:=Xav hs;cases h
   have he:=hp.1;subst he;exact .indexArr (hx hp.2.2) (hi hp.2.2) (Int.natCast_nonneg _) (Int.ofNat_lt.2 hp.2.1) h1 h2 h3
  ·cases h
 ·split at h
  ·rename_i hs;obtain⟨ti,et,h1,h2,h3⟩:=Xav hs;cases h
   have he:=hp.1;subst he;exact .indexArrElem (hx hp.2.2) (hi hp.2.2) (Int.natCast_nonneg _) (Int.ofNat_lt.2 hp.2.1) h1 h2 h3
  ·cases h
 ·split at h
  ·rename_i hs;obtain⟨ti,et,h1,h2,h3⟩:=Xav hs;cases h
   exact .indexArr (hx hp.2.2) (hi hp.2.2) hp.1 hp.2.1 h1 h2 h3
  ·cases h
 ·split at h
  ·rename_i hs;obtain⟨ti,et,h1,h2,h3⟩:=Xav hs;cases h
   exact .indexArrElem (hx hp.2.2) (hi hp.2.2) hp.1 hp.2.1 h1 h2 h3
  ·cases h
 ·split at h
  ·rename_i hix;cases h
   refine Xhz ?_;simp only[puF,hi hp.2,hx hp.2,if_pos hp.1];exact hix
  ·cases h
def lenS (T:Ty) (t:Nat) (x:AV):Option AV :=
 match T t with
 |some ti=>match ti.kind with
  |.slice _=>match x with
   |.list _ es=>some (.sc (.int .i64 es.length))
   |.ref _ _ n=>some (.sc (.int .i64 n))
   |.nils=>some (.sc (.int .i64 (0:Nat)))
   |_=>none
  |.string=>match x with
   |.sc (.string s)=>some (.sc (.int .i64 s.size))
   |_=>none
  |.array n _=>some (.sc (.int .i64 n))
  |_=>none
 |none=>none
def minS (hi:Bool) (x y:AV):Option AV :=
 match x,y with
 |.sc (.int k a),.sc (.int k' b)=>if k=k' then some (.sc (.int k (bif hi then (if b>a then b else a) else (if b<a then b else a)))) else none
 |_,_=>none
def rdps (L:List (Nat×AV)):List (Nat×Operand)->List (Nat×AV)×List Prop
 |[]=>([],[])
 |(i,x)::r=>match rd L x,rdps L r with
  |(a,p),(l,q)=>((i,a)::l,p++q)
theorem Xwm {L:List (Nat×AV)}:∀ {xs:List (Nat×Operand)} {as:List (Nat×AV)} {ps:List Prop},rdps L xs=(as,ps)->X4u ps->(xs.map λp=>(p.1,evA (fr L) p.2))=as:=by
 intro xs
 induction xs with
 |nil=>grind [rdps]
 |cons x r ih =>
  intro as ps h hp;obtain⟨i,x⟩:=x;simp only[rdps] at h;cases h
  obtain⟨h1,h2⟩:=X0h.1 hp;simp only[List.map_cons];rw[X13 (a:=(rd L x).1) (ps:=(rd L x).2) rfl h1,ih (as:=(rdps L r).1) (ps:=(rdps L r).2) rfl h2]
def buildS (T:Ty) (t:Nat) (vs:List (Nat×AV)):Option AV :=
 match T t with
 |some ti=>match Xcb ti.zero with
  |.agg cs=>match ti.kind with
   |.struct fs=>if fs.all (λp=>(T p.2).isSome) then (match Xj2 (λi=>(fs[i]?).map λp=>(p.1,((T p.2).map (·.size)).getD 0)) cs vs with
    |some r=>some (.agg r)
    |none=>none) else none
   |.array _ et=>match T et with
    |some te=>match Xj2 (λi=>some (i*te.size,te.size)) cs vs with
     |some r=>some (.agg r)
     |none=>none
    |none=>none
   |_=>none
  |_=>none
 |none=>none
def X06d (L:List (Nat×AV)) (c a b:Operand) (hs:List X4d):PR :=
 match rd L c with
 |(.sc (.bool t),pc)=>match rd L a,rd L b with
  |(.sc (.bool x),pa),(.sc (.bool y),pb)=>some (.sc (.bool (bif t then x else y)),hs,pc++(Xps t pa++Xps (!t) pb))
  |(u,pa),(v,pb)=>match hs with
   |.go true::hs=>some (u,hs,(t=true)::(pc++pa))
   |.go false::hs=>some (v,hs,(t=false)::(pc++pb))
   |_=>none
 |_=>none
def puS (T:Ty) (L:List (Nat×AV)) (H:Xz) (op:Op) (hs:List X4d):PR :=
 match op with
 |.move x=>match rd L x with
  |(a,ps)=>some (a,hs,ps)
 |.assign x=>match rd L x with
  |(a,ps)=>some (a,hs,ps)
 |.pick c a b=>X06d L c a b hs
 |.load t x=>match T t with
  |some ti=>match rd L x with
   |(p,ps)=>match Xyp H p hs ps with
    |some (e,k,hs,ps)=>match Xgf ti e k with
     |some a=>some (a,hs,ps)
     |none=>none
    |none=>none
  |none=>none
 |.nilCheck x=>match rd L x with
  |(.ptr o i k,ps)=>some (.ptr o i k,hs,ps)
  |(.elem own e k,ps)=>some (.elem own e k,hs,ps)
  |(.fn f caps,ps)=>some (.fn f caps,hs,ps)
  |_=>none
 |.binOp op t x y _=>match rd L x,rd L y with
  |(a,p),(b,q)=>binS T op t a b hs (p++q)
 |.unOp op _ x=>match rd L x with
  |(a,p)=>unS op a hs p
 |.convert src dst x=>match rd L x with
  |(a,p)=>X08c T src dst a hs p
 |.fieldAddr s x f=>match Xev T s f with
  |some (off,tf)=>if tf.size≠0 then (match rd L x with
   |(.ptr o i k,ps)=>some (.ptr o i (k+off),hs,ps)
   |(.elem own e k,ps)=>some (.elem own e (k+off),hs,ps)
   |_=>none) else none
  |none=>none
 |.field s x f=>match Xev T s f with
  |some (off,tf)=>match rd L x with
   |(.agg cs,ps)=>match eqT.partA tf cs off with
    |some a=>some (a,hs,ps)
    |none=>none
   |_=>none
  |none=>none
 |.indexAddr t x ix=>match rd L ix with
  |(.sc (.int _ i),p)=>match rd L x with
   |(a,q)=>ixS T H t a i hs (p++q)
  |_=>none
 |.index t x ix=>match rd L ix with
  |(.sc (.int _ i),p)=>match rd L x with
   |(.agg cs,q)=>match Xlk T t with
    |some (n,te)=>match hs with
     |.ix m::hs=>match eqT.partA te cs (m*te.size) with
      |some a=>some (a,hs,(i=(m:Int))::(m<n)::(p++q))
      |none=>none
     |hs=>match eqT.partA te cs (i.toNat*te.size) with
      |some a=>some (a,hs,(0<=i)::(i<n)::(p++q))
      |none=>none
    |none=>none
   |(.sc (.string s),q)=>match T t with
    |some ti=>match ti.kind with
     |.string=>match hs with
      |.el (.sc (.int .u8 b))::hs=>some (.sc (.int .u8 b),hs,(0<=i)::(∃ c,s[i.toNat]?=some c/\b=c.toNat)::(p++q))
      |hs=>match s[i.toNat]? with
       |some b=>some (.sc (.int .u8 b.toNat),hs,(0<=i)::(p++q))
       |none=>none
     |_=>none
    |none=>none
   |_=>none
  |_=>none
 |.slice t x lo hi none=>match rd L x with
  |(a,p)=>Xw8 T L H t a lo hi hs p
 |.slice t x none (some hi) (some mx)=>match X2n T t with
  |some _=>match rd L x with
   |(a,p)=>match bdS L (some hi) 0 p with
    |some (h,p)=>match bdS L (some mx) 0 p with
     |some (m,p)=>match a with
      |.list _ _=>some (.nils,hs,(h=0)::(m=0)::p)
      |.ref _ _ _=>some (.nils,hs,(h=0)::(m=0)::p)
      |.nils=>some (.nils,hs,(h=0)::(m=0)::p)
      |_=>none
     |none=>none
    |none=>none
  |none=>none
 |.extract x i=>match rd L x with
  |(.tup cs,p)=>match cs[i]? with
   |some a=>some (a,hs,p)
   |none=>none
  |_=>none
 |.makeFunc (.func f) ⟨[]⟩ caps=>match rds L caps.toList with
  |(l,p)=>some (.fn f l,hs,p)
 |.call { callee:=.builtin .len,args:=⟨[x]⟩,argTypes:=⟨[t]⟩ }=>match rd L x with
  |(a,p)=>match lenS T t a with
   |some r=>match hs with
    |.el r'::hs=>some (r',hs,(r=r')::p)
    |hs=>some (r,hs,p)
   |none=>none
 |.call { callee:=.builtin .min,args:=⟨[x,y]⟩,argTypes:=_ }=>match rd L x,rd L y with
  |(a,p),(b,q)=>match minS false a b with
   |some r=>some (r,hs,p++q)
   |none=>none
 |.call { callee:=.builtin .max,args:=⟨[x,y]⟩,argTypes:=_ }=>match rd L x,rd L y with
  |(a,p),(b,q)=>match minS true a b with
   |some r=>some (r,hs,p++q)
   |none=>none
 |.build t ps=>match rdps L ps.toList with
  |(l,p)=>match buildS T t l with
   |some r=>some (r,hs,p)
   |none=>none
 |_=>none
theorem X01i {T:Ty} {L:List (Nat×AV)} {H:Xz} {c a b:Operand} {hs hs':List X4d} {ps:List Prop} {r:AV} (h:X06d L c a b hs=some (r,hs',ps)) (hp:X4u ps):Pu T (evA (fr L)) H (.pick c a b) r:=by
 unfold X06d at h;split at h
 ·rename_i t pc hc;split at h
  ·rename_i x pa y pb ha hb;cases h
   obtain⟨h1,h2⟩:=X0h.1 hp;obtain⟨h3,h4⟩:=X0h.1 h2;exact .pickB (X13 hc h1) (λht=>X13 ha (Xk5 h3 ht)) (λht=>X13 hb (Xk5 h4 (by rw[ht];rfl)))
  ·rename_i u pa v pb _ ha hb;split at h
   ·cases h
    obtain⟨h0,h1⟩:=hp;obtain⟨h3,h4⟩:=X0h.1 h1;exact .pick (X13 hc h3) (λ_=>X13 ha h4) (λht=>by grind)
   ·cases h
    obtain⟨h0,h1⟩:=hp;obtain⟨h3,h4⟩:=X0h.1 h1;exact .pick (X13 hc h3) (λht=>by grind) (λ_=>X13 hb h4)
   ·cases h
 ·cases h
theorem Xxg {T:Ty} {ev:Operand->AV} {H:Xz} {t:Nat} {x:Operand} {r:AV} (h:lenS T t (ev x)=some r):Pu T ev H (.call { callee:=.builtin .len,args:=⟨[x]⟩,argTypes:=⟨[t]⟩ }) r:=by
 refine Xhz ?_;assumption
theorem X06l {T:Ty} {ev:Operand->AV} {H:Xz} {x y:Operand} {ts:Array Nat} {r:AV} (h:minS false (ev x) (ev y)=some r):Pu T ev H (.call { callee:=.builtin .min,args:=⟨[x,y]⟩,argTypes:=ts }) r:=by
 grind [Xhz,puF,minS]
theorem X06m {T:Ty} {ev:Operand->AV} {H:Xz} {x y:Operand} {ts:Array Nat} {r:AV} (h:minS true (ev x) (ev y)=some r):Pu T ev H (.call { callee:=.builtin .max,args:=⟨[x,y]⟩,argTypes:=ts }) r:=by
 grind [Xhz,puF,minS]
theorem Xz6 {T:Ty} {ev:Operand->AV} {H:Xz} {t:Nat} {ps:Array (Nat×Operand)} {r:AV} (h:buildS T t (ps.toList.map λp=>(p.1,ev p.2))=some r):Pu T ev H (.build t ps) r:=by
 refine Xhz ?_;unfold buildS at h;simp only[puF];simp only[Xa5] at h;exact h
theorem X036 {T:Ty} {ev:Operand->AV} {H:Xz} {src dst:Nat} {x:Operand} {u:AV} {hs hs':List X4d} {ps ps':List Prop} {a:AV} (hx:X4u ps->ev x=u) (h:X08c T src dst u hs ps=some (a,hs',ps')) (hp:X4u ps') :
  Pu T ev H (.convert src dst x) a:=by
 unfold X08c at h;split at h
 ·split at h
  ·split at h
   ·split at h
    ·obtain⟨rfl,h2⟩:=Xfn h hp;exact .conv (hx h2) (by assumption) (by assumption) (by assumption)
    ·cases h
   ·cases h
  ·cases h
 grind [Xhz,puF,hp]
theorem X09r {T:Ty} {ev:Operand->AV} {H:Xz} {op:UnOp} {t:Nat} {x:Operand} {u:AV} {hs hs':List X4d} {ps ps':List Prop} {a:AV} (hx:X4u ps->ev x=u) (h:unS op u hs ps=some (a,hs',ps')) (hp:X4u ps') :
  Pu T ev H (.unOp op t x) a:=by
 unfold unS at h;split at h
 ·obtain⟨rfl,h2⟩:=Xfn h hp;exact .neg (hx h2)
 ·cases h;exact .not (hx hp)
 ·cases h
theorem X03s {T:Ty} {L:List (Nat×AV)} {H:Xz} {op:Op} {hs hs':List X4d} {ps:List Prop} {a:AV} (h:puS T L H op hs=some (a,hs',ps)) (hp:X4u ps):Pu T (evA (fr L)) H op a:=by
  unfold puS at h;split at h
  · rename_i x
    rcases hr:rd L x with ⟨a1,p1⟩;rw[hr] at h;cases h
    rw[<-X13 hr hp];exact .move
  · rename_i x
    rcases hr:rd L x with ⟨a1,p1⟩;rw[hr] at h;cases h
    rw[<-X13 hr hp];exact .assign
  · exact X01i h hp
  · split at h
    · rename_i ht
      split at h
      rename_i hr;split at h
      · rename_i hd
        split at h
        · rename_i hl
          cases h
          obtain⟨h1,h2⟩:=Xyo hd hp;rw[<-X13 hr h2] at h1;exact .load ht h1 hl
        · cases h
      · cases h
    · cases h
  · split at h
    · rename_i hr;cases h
      have:=X13 hr hp;rw[<-this];exact .nilCheckPtr this
    · rename_i hr;cases h
      have:=X13 hr hp;rw[<-this];exact .nilCheckElem this
    · rename_i hr;cases h
      have:=X13 hr hp;rw[<-this];exact .nilCheckFn this
    · cases h
  · exact X08l (λhq=>X13 rfl (X0h.1 hq).1) (λhq=>X13 rfl (X0h.1 hq).2) h hp
  · exact X09r (λhq=>X13 rfl hq) h hp
  · exact X036 (λhq=>X13 rfl hq) h hp
  · split at h
    · rename_i hf
      obtain⟨ti,fs,ft,g1,g2,g3,g4⟩:=Xdp hf;split at h
      · rename_i hz
        split at h
        · rename_i hr;cases h;exact .fieldAddrPtr (X13 hr hp) g1 g2 g3 g4 hz
        · rename_i hr;cases h;exact .fieldAddrElem (X13 hr hp) g1 g2 g3 g4 hz
        · cases h
      · cases h
    · cases h
  · split at h
    · rename_i hf
      obtain⟨ti,fs,ft,g1,g2,g3,g4⟩:=Xdp hf;split at h
      · rename_i hr
        split at h
        · rename_i ha;cases h;exact .field (X13 hr hp) g1 g2 g3 g4 ha
        · cases h
      · cases h
    · cases h
  · split at h
    · rename_i hr
      exact Xxu (λhq=>X13 rfl (X0h.1 hq).2) (λhq=>X13 hr (X0h.1 hq).1) h hp
    · cases h
  · split at h
    · rename_i hi
      split at h
      · rename_i hr
        split at h
        · rename_i ha
          obtain⟨ti,et,h1,h2,h3⟩:=Xav ha;split at h
          · split at h
            · rename_i hpa
              cases h
              obtain⟨p1,p2,p3⟩:=hp;obtain⟨p4,p5⟩:=X0h.1 p3;subst p1;exact .indexAgg (X13 hr p5) (X13 hi p4) (Int.natCast_nonneg _) (Int.ofNat_lt.2 p2) h1 h2 h3 hpa
            · cases h
          · split at h
            · rename_i hpa
              cases h
              obtain⟨p1,p2,p3⟩:=hp;obtain⟨p4,p5⟩:=X0h.1 p3;exact .indexAgg (X13 hr p5) (X13 hi p4) p1 p2 h1 h2 h3 hpa
            · cases h
        · cases h
      · rename_i hr
        split at h
        · rename_i ht
          split at h
          · rename_i hk
            split at h
            · cases h
              obtain⟨p1,⟨c,p2,rfl⟩,p3⟩:=hp;obtain⟨p4,p5⟩:=X0h.1 p3;exact .indexStr (X13 hr p5) (X13 hi p4) p1 ht hk p2
            · split at h
              · rename_i hb
                cases h
                obtain⟨p1,p3⟩:=hp;obtain⟨p4,p5⟩:=X0h.1 p3;exact .indexStr (X13 hr p5) (X13 hi p4) p1 ht hk hb
              · cases h
          · cases h
        · cases h
      · cases h
    · cases h
  · exact Xw7 (λhq=>X13 rfl hq) h hp
  · split at h
    · rename_i hs
      obtain⟨ti,et,h1,h2,h3⟩:=X16 hs;split at h
      rename_i a1 p1 hr;split at h
      · rename_i hb1
        split at h
        · rename_i hb2
          split at h
          all_goals first
            | (cases h
               obtain⟨rfl,rfl,p4⟩:=hp;obtain⟨b2,q2⟩:=X7i hb2 p4;obtain⟨b1,q1⟩:=X7i hb1 q2;have hx:=X13 hr q1;exact .sliceClone (by rw[hx];rfl) (λs hs=>by rw[hx] at hs;cases hs) b1 b2 h1 h2 h3)
            |cases h
        · cases h
      · cases h
    · cases h
  · split at h
    · rename_i hr
      split at h
      · rename_i hi
        cases h
        exact .extract (X13 hr hp) hi
      · cases h
    · cases h
  · split at h
    rename_i hr;cases h
    have:=Xg9 hr hp;refine Xhz ?_;simp only[puF,this]
  · split at h
    rename_i hr;split at h
    · rename_i hl
      split at h
      · cases h
        obtain⟨rfl,hp⟩:=hp;rw[<-X13 hr hp] at hl;exact Xxg hl
      · cases h
        rw[<-X13 hr hp] at hl;exact Xxg hl
    · cases h
  · split at h
    rename_i hx hy;split at h
    · rename_i hl
      cases h
      obtain⟨p1,p2⟩:=X0h.1 hp;rw[<-X13 hx p1,<-X13 hy p2] at hl;exact X06l hl
    · cases h
  · split at h
    rename_i hx hy;split at h
    · rename_i hl
      cases h
      obtain⟨p1,p2⟩:=X0h.1 hp;rw[<-X13 hx p1,<-X13 hy p2] at hl;exact X06m hl
    · cases h
  · split at h
    rename_i hr;split at h
    · rename_i hl
      cases h
      rw[<-Xwm hr hp] at hl;exact Xz6 hl
    · cases h
  · cases h
end Go.Av


namespace Go.Av
variable [Gls]
def srcS (H:Xz) (a:AV) (ps:List Prop):Option (List AV×List Prop) :=
 match a with
 |.list _ es=>some (es,ps)
 |.nils=>some ([],ps)
 |.ref o off len=>match H o with
  |some x=>some ((x.es.drop off).take len,(off+len<=x.es.length)::ps)
  |none=>none
 |_=>none
theorem X54 {H:Xz} {a:AV} {xs:List AV} {ps ps':List Prop} (h:srcS H a ps=some (xs,ps')) (hp:X4u ps'):Xnb H a xs/\X4u ps:=by
 unfold srcS at h;split at h
 ·cases h;exact⟨.list,hp⟩
 ·cases h;exact⟨.nils,hp⟩
 ·split at h
  ·rename_i hH;cases h;exact⟨.ref hH hp.1,hp.2⟩
  ·cases h
 ·cases h
abbrev MR:=Option (AV×Eff×List X4d×List Prop)
def appS (H:Xz) (id:Nat) (te:TI) (s:AV) (xs:List AV) (hs:List X4d) (ps:List Prop):MR :=
 match s with
 |.nils=>if te.size≠0 then some (.ref id 0 xs.length,.new { es:=xs,esz:=te.size },hs,
   (xs≠[])::(xs.length<=maxLen)::(xs.length*te.bytes<=140737488355328)::(∀ e∈xs,e.cells.length=te.size)::ps) else none
 |.ref o 0 n=>match H o with
  |some y=>match y.spent with
   |false=>if y.esz=te.size then some (.ref id 0 (n+xs.length),.app o { es:=y.es++xs,esz:=te.size },hs,
     (y.es.length=n)::(xs≠[])::(n+xs.length<=maxLen)::((n+xs.length)*te.bytes<=140737488355328)::(∀ e∈xs,e.cells.length=te.size)::ps) else none
   |true=>none
  |none=>none
 |_=>none
def Xd8:AV->Bool
 |.list ..|.ref ..|.nils=>true
 |_=>false
theorem Xby {a:AV} (h:Xd8 a=true):(∃ n,Xq3 a=some n)/\∀ u,a≠.sc (.string u):=by
 cases a<;>simp[Xd8] at h<;>exact⟨⟨_,rfl⟩,λu hu=>by cases hu⟩
def mkS (T:Ty) (L:List (Nat×AV)) (H:Xz) (id:Nat) (op:Op) (hs:List X4d):MR :=
 match op with
 |.box _ x=>match rd L x with
  |(a,ps)=>match a.whole with
   |true=>match a.cells with
    |[]=>none
    |_::_=>some (.ptr id 0 0,.new { es:=[a],esz:=a.cells.length },hs,ps)
   |false=>none
 |.alloc elem=>match T elem with
  |some ti=>if ti.size≠0 then Xdl (Xcb ti.zero) λz=>some (.ptr id 0 0,.new { es:=[z],esz:=ti.size },hs,[]) else none
  |none=>none
 |.buildSlice t len ps=>match X2n T t with
  |some te=>if len=0 then (match ps with
    |⟨[]⟩=>some (.nils,.none,hs,[])
    |_=>none)
   else if te.size≠0 then (if len*te.size<=2 ^ 24 then (match rdps L ps.toList with
    |(vs,qs)=>match Xbz te.size (List.replicate len (Xcb te.zero)) vs with
     |some es=>Xgm es λes=>some (.ref id 0 len,.new { es:=es,esz:=te.size },hs,qs)
     |none=>none) else none) else none
  |none=>none
 |.makeSlice t l cc=>match X2n T t with
  |some te=>match rd L l,rd L cc with
   |(.sc (.int _ n),p),(.sc (.int _ m),q)=>match hs with
    |.ne false::hs=>some (.nils,.none,hs,(n=0)::(m=0)::(p++q))
    |hs=>if te.size≠0 then some (.ref id 0 n.toNat,.new { es:=List.replicate n.toNat (Xcb te.zero),esz:=te.size },hs,
      (0<=n)::(n<=m)::(0<m)::(te.bytes*m<=2 ^ 48)::(m<2 ^ 62)::(p++q)) else none
   |_,_=>none
  |none=>none
 |.call { callee:=.builtin .append,args:=⟨[s,x]⟩,argTypes:=⟨[t,t']⟩ }=>if t=t' then (match X2n T t with
  |some te=>match rd L s,rd L x with
   |(a,p),(b,q)=>match srcS H b (p++q) with
    |some (xs,ps)=>match hs with
     |.ne false::hs=>match Xd8 a with
      |true=>some (a,.none,hs,(xs=[])::ps)
      |false=>none
     |.ne true::hs=>appS H id te a xs hs ps
     |.via (.list _ xs')::hs=>appS H id te a xs' hs ((xs=xs')::ps)
     |.stop _::_=>none
     |.no::hs=>Xgm xs λxs=>match xs with
      |[]=>match Xd8 a with
       |true=>some (a,.none,hs,ps)
       |false=>none
      |e::r=>appS H id te a (e::r) hs ps
     |hs=>Xgm xs λxs=>match xs with
      |[]=>match Xd8 a with
       |true=>some (a,.none,hs,ps)
       |false=>none
      |e::r=>appS H id te a (e::r) hs ps
    |none=>none
  |none=>none) else none
 |_=>none
theorem Xpa {T:Ty} {ev:Operand->AV} {H:Xz} {id:Nat} {s x:Operand} {t:Nat} {ti te:TI} {et:Nat} {u:AV} {xs:List AV} {hs hs':List X4d} {ps ps':List Prop} {a:AV} {e:Eff}
  (ht:T t=some ti) (hk:ti.kind=.slice et) (hte:T et=some te) (hsu:X4u ps->ev s=u) (hx:X4u ps->Xnb H (ev x) xs) (h:appS H id te u xs hs ps=some (a,e,hs',ps')) (hp:X4u ps') :
  Mk T ev H id (.call { callee:=.builtin .append,args:=#[s,x],argTypes:=#[t,t] }) a e/\∀ old x,e=.app old x\/e=.new x->x.solo=true/\x.spent=false:=by
 unfold appS at h;split at h
 ·split at h
  ·rename_i hz;cases h
   obtain⟨p1,p2,p3,p4,p5⟩:=hp;refine⟨.appendNil (hsu p5) (hx p5) p1 ht hk hte p4 hz p2 p3,λold y hy=>by grind⟩
  ·cases h
 ·split at h
  ·rename_i hH;split at h
   ·rename_i hsp;split at h
    ·rename_i hes;cases h
     obtain⟨p0,p1,p2,p3,p4,p5⟩:=hp;refine⟨.append (hsu p5) hH p0 hsp hes (hx p5) p1 ht hk hte p4 p2 p3,λold y hy=>by grind⟩
    ·cases h
   ·cases h
  ·cases h
 ·cases h
theorem Xt3 {T:Ty} {L:List (Nat×AV)} {H:Xz} {id:Nat} {op:Op} {hs hs':List X4d} {ps:List Prop} {a:AV} {e:Eff} (h:mkS T L H id op hs=some (a,e,hs',ps)) (hp:X4u ps) :
  Mk T (evA (fr L)) H id op a e/\∀ old x,e=.app old x\/e=.new x->x.solo=true/\x.spent=false:=by
 unfold mkS at h;split at h
 ·split at h
  rename_i hr;split at h
  ·rename_i hw;split at h
   ·cases h
   ·rename_i hc;cases h
    have:=X13 hr hp;rw[<-this];exact⟨.box (by grind) (by grind),λold y hy=>by grind⟩
  ·cases h
 ·split at h
  ·rename_i ht;split at h
   ·rename_i hz;rw[X71,Xa5] at h;cases h
    exact⟨.alloc ht hz,λold y hy=>by grind⟩
   ·cases h
  ·cases h
 ·split at h
  ·rename_i hs;obtain⟨ti,et,h1,h2,h3⟩:=X16 hs;split at h
   ·rename_i hl;subst hl;split at h
    ·cases h
     exact⟨.slice0 h1 h2 h3,λold y hy=>by grind⟩
    ·cases h
   ·rename_i hl;split at h
    ·rename_i hz;split at h
     ·rename_i hb;split at h
      rename_i hr;split at h
      ·rename_i hsp;rw[Xdj] at h;cases h
       rw[<-Xwm hr hp,Xa5] at hsp;exact⟨.buildSlice h1 h2 h3 hl hz hb hsp,λold y hy=>by grind⟩
      ·cases h
     ·cases h
    ·cases h
  ·cases h
 ·split at h
  ·rename_i hs;obtain⟨ti,et,h1,h2,h3⟩:=X16 hs;split at h
   ·rename_i hl hc;split at h
    ·cases h
     obtain⟨rfl,rfl,p3⟩:=hp;obtain⟨q1,q2⟩:=X0h.1 p3;exact⟨.make0 (X13 hl q1) (X13 hc q2) h1 h2 h3,λold y hy=>by grind⟩
    ·split at h
     ·rename_i hz;cases h
      obtain⟨p1,p2,p3,p4,p5,p6⟩:=hp;obtain⟨q1,q2⟩:=X0h.1 p6;rw[Xa5];exact⟨.make (X13 hl q1) (X13 hc q2) p1 p2 p3 h1 h2 h3 hz p4 p5,λold y hy=>by grind⟩
     ·cases h
   ·cases h
  ·cases h
 ·split at h
  ·rename_i htt;subst htt;split at h
   ·rename_i hs;obtain⟨ti,et,h1,h2,h3⟩:=X16 hs;split at h
    rename_i hra hrb;split at h
    ·rename_i hsrc;split at h
     ·split at h
      ·rename_i hsl;cases h
       obtain⟨rfl,p2⟩:=hp;obtain⟨s1,s2⟩:=X54 hsrc p2;obtain⟨q1,q2⟩:=X0h.1 s2;have e1:=X13 hra q1;have e2:=X13 hrb q2;obtain⟨⟨n,hn⟩,hu⟩:=Xby hsl;rw[<-e1] at hn hu ⊢;rw[<-e2] at s1;exact⟨.append0 hn hu s1 h1 h2 h3,λold y hy=>by grind⟩
      ·cases h
     ·refine Xpa h1 h2 h3 (λhq=>?_) (λhq=>?_) h hp
      ·exact X13 hra (X0h.1 (X54 hsrc hq).2).1
      ·rw[X13 hrb (X0h.1 (X54 hsrc hq).2).2];exact(X54 hsrc hq).1
     ·refine Xpa h1 h2 h3 (λhq=>?_) (λhq=>?_) h hp
      ·exact X13 hra (X0h.1 (X54 hsrc hq.2).2).1
      ·rw[X13 hrb (X0h.1 (X54 hsrc hq.2).2).2,<-hq.1];exact(X54 hsrc hq.2).1
     ·cases h
     ·rw[Xdj] at h;split at h
      ·split at h
       ·rename_i hsl;cases h
        obtain⟨s1,s2⟩:=X54 hsrc hp;obtain⟨q1,q2⟩:=X0h.1 s2;have e1:=X13 hra q1;have e2:=X13 hrb q2;obtain⟨⟨n,hn⟩,hu⟩:=Xby hsl;rw[<-e1] at hn hu ⊢;rw[<-e2] at s1;exact⟨.append0 hn hu s1 h1 h2 h3,λold y hy=>by grind⟩
       ·cases h
      ·refine Xpa h1 h2 h3 (λhq=>?_) (λhq=>?_) h hp
       ·exact X13 hra (X0h.1 (X54 hsrc hq).2).1
       ·rw[X13 hrb (X0h.1 (X54 hsrc hq).2).2];exact(X54 hsrc hq).1
     ·rw[Xdj] at h;split at h
      ·split at h
       ·rename_i hsl;cases h
        obtain⟨s1,s2⟩:=X54 hsrc hp;obtain⟨q1,q2⟩:=X0h.1 s2;have e1:=X13 hra q1;have e2:=X13 hrb q2;obtain⟨⟨n,hn⟩,hu⟩:=Xby hsl;rw[<-e1] at hn hu ⊢;rw[<-e2] at s1;exact⟨.append0 hn hu s1 h1 h2 h3,λold y hy=>by grind⟩
       ·cases h
      ·refine Xpa h1 h2 h3 (λhq=>?_) (λhq=>?_) h hp
       ·exact X13 hra (X0h.1 (X54 hsrc hq).2).1
       ·rw[X13 hrb (X0h.1 (X54 hsrc hq).2).2];exact(X54 hsrc hq).1
    ·cases h
   ·cases h
  ·cases h
 ·cases h
def Xyr (o:Nat):List (Nat×Obj)->List (Nat×Obj)
 |[]=>[]
 |(d,x)::l=>bif Nat.beq d o then Xyr o l else (d,x)::Xyr o l
theorem Xsb (o:Nat):∀ G:List (Nat×Obj),hp (Xyr o G)=upd (hp G) o none:=by
 intro G;funext q
 induction G with
 |nil=>simp[Xyr,hp,upd]
 |cons a l ih =>
  obtain⟨d,x⟩:=a;simp only[Xyr]
  cases hb:Nat.beq d o with
  |true =>
   have hd:d=o:=Nat.eq_of_beq_eq_true hb;subst hd;simp only[cond_true,ih,hp];by_cases hq:q=d
   ·subst hq;rw[Xk,Xk]
   ·have:Nat.beq q d=false:=by rw[<-Bool.not_eq_true,Nat.beq_eq];exact hq
    simp_all [Xm,cond_false]
  |false =>
   have hd:d≠o:=λe=>by simp_all
   simp only[cond_false,hp,ih];by_cases hq:q=o
   ·subst hq;have:Nat.beq q d=false:=by rw[<-Bool.not_eq_true,Nat.beq_eq];grind
    simp_all [Xk,cond_false]
   grind [Xm]
theorem Xfl (o:Nat) (x:Obj) (G:List (Nat×Obj)) (hx:x.gone=false):hp ((o,x)::G)=upd (hp G) o (some x):=by
 funext q
 simp only[hp,hx,cond_false];rfl
theorem Xs1 (o:Nat) (x:Obj) (G:List (Nat×Obj)) (hx:x.gone=false):hp ((o,x)::Xyr o G)=upd (hp G) o (some x):=by
 rw[Xfl _ _ _ hx,Xsb]
 grind [Xk,Xm]
def effS (id:Nat) (G:List (Nat×Obj)):Eff->List (Nat×Obj)
 |.none=>G
 |.new x=>(id,x)::G
 |.app old x=>(id,x)::Xyr old G
def X032:Eff->Bool
 |.none=>true
 |.new x=>!x.gone
 |.app _ x=>!x.gone
theorem X081 (id:Nat) (G:List (Nat×Obj)) (e:Eff) (he:X032 e=true):hp (effS id G e)=e.seq id (hp G):=by
 cases e with
 |none=>rfl
 |new x=>exact Xfl _ _ _ (by simpa[X032] using he)
 |app old x=>grind [effS,Eff.seq,Xfl,X032,Xsb]
structure X3m (P:Program) (f:Nat) (H:Xz) (as bs:List AV) (r:AV):Prop where
 isPure:X8t P f bs r
 lends:∃ Hr,Cvs false Hr as bs/\(∀ o x,Hr o=some x->H o=some x)/\(Xlm r\/∀ o,Hr o=none)
structure X08x (P:Program) (f:Nat) (as:List AV) (G:List (Nat×Obj)) (n:Nat) (r:AV) (G':List (Nat×Obj)) (n':Nat):Prop where
 hc:HC P f as (hp G) n (λr2 H2 n2=>r2=r/\H2=hp G'/\n2=n')
def stO (T:Ty) (L:List (Nat×AV)) (G:List (Nat×Obj)) (t:Nat) (p x:Operand) (hs:List X4d):Option (Nat×Obj×List X4d×List Prop) :=
 match T t with
 |some ti=>match rd L p,rd L x with
  |(.ptr o i k,p1),(v,p2)=>match hp G o with
   |some y=>match y.solo,v.whole with
    |true,true=>match hs with
     |.ld e::hs=>if v.cells.length=ti.size then (if k+ti.size<=e.cells.length then (if ti.size≠0 then
       some (o,{ y with es:=y.es.set i (X5q e k v) },hs,(y.es[i]?=some e)::(p1++p2)) else none) else none) else none
     |hs=>match y.es[i]? with
      |some e=>if v.cells.length=ti.size then (if k+ti.size<=e.cells.length then (if ti.size≠0 then
       Xdl (X5q e k v) λw=>Xgm (y.es.set i w) λes=>some (o,{ y with es:=es },hs,p1++p2) else none) else none) else none
      |none=>none
    |_,_=>none
   |none=>none
  |_,_=>none
 |none=>none
theorem X03m {T:Ty} {L:List (Nat×AV)} {G:List (Nat×Obj)} {t q:Nat} {z:Obj} {p x:Operand} {hs hs':List X4d} {ps:List Prop} (h:stO T L G t p x hs=some (q,z,hs',ps)) (hp':X4u ps) :
  ∃ i k y e ti,evA (fr L) p=.ptr q i k/\hp G q=some y/\y.solo=true/\y.es[i]?=some e/\T t=some ti/\(evA (fr L) x).whole=true/\(evA (fr L) x).cells.length=ti.size/\k+ti.size<=e.cells.length/\ti.size≠0 /\
   z={ y with es:=y.es.set i (X5q e k (evA (fr L) x)) }:=by
 unfold stO at h;split at h
 ·rename_i ht;split at h
  ·rename_i hrp hrx;split at h
   ·rename_i hH;split at h
    ·rename_i hs1 hw1;split at h
     ·split at h
      ·rename_i c1;split at h
       ·rename_i c2;split at h
        ·rename_i c3;cases h
         obtain⟨q1,q2⟩:=hp'
         grind [X0h,X13]
        ·cases h
       ·cases h
      ·cases h
     grind [X71,Xdj,X0h,X13]
    ·cases h
   ·cases h
  ·cases h
 ·cases h
def stS (T:Ty) (L:List (Nat×AV)) (G:List (Nat×Obj)) (t:Nat) (p x:Operand) (hs:List X4d):Option (List (Nat×Obj)×List X4d×List Prop) :=
 match stO T L G t p x hs with
 |some (o,z,hs,ps)=>some ((o,z)::Xyr o G,hs,ps)
 |none=>none
theorem X09x {T:Ty} {L:List (Nat×AV)} {G G':List (Nat×Obj)} {t:Nat} {p x:Operand} {hs hs':List X4d} {ps:List Prop} (h:stS T L G t p x hs=some (G',hs',ps)) (hp':X4u ps) :
  StR T (evA (fr L)) (hp G) (.store t p x) (hp G'):=by
 unfold stS at h;split at h
 ·rename_i ho;cases h
  obtain⟨i,k,y,e,ti,h1,h2,h3,h4,h5,h6,h7,h8,h9,rfl⟩:=X03m ho hp';have hgn:({ y with es:=y.es.set i (X5q e k (evA (fr L) x)) }:Obj).gone=false:=show y.gone=false from Xhj h2;rw[Xs1 _ _ _ hgn];exact .store h1 h2 h3 h4 h5 h6 h7 h8 h9
 ·cases h
abbrev OR:=Option (AV×List (Nat×Obj)×Nat×List X4d×List Prop)
def quS (P:Program) (T:Ty) (L:List (Nat×AV)) (G:List (Nat×Obj)) (op:Op) (hs:List X4d):PR :=
 match op with
 |.call { callee:=.value x,args:=args,argTypes:=_ }=>match hs with
  |.pure bs r::hs=>match rd L x with
   |(.fn f caps,p)=>match rds L args.toList with
    |(as,q)=>some (r,hs,X3m P f (hp G) (as++caps) bs r::(p++q))
   |_=>none
  |_=>none
 |op=>puS T L (hp G) op hs
theorem Xwo {P:Program} {T:Ty} {nt:Nat} {L:List (Nat×AV)} {G:List (Nat×Obj)} {n:Nat} {o:Oper} {hs hs':List X4d} {ps:List Prop} {a:AV} (hT:X7a P T)
  (h:quS P T L G o.op hs=some (a,hs',ps)) (hp':X4u ps):OpR P nt o ⟨fr L,hp G,n⟩ (λa' H' n2=>a'=a/\H'=hp G/\n2=n):=by
 unfold quS at h;split at h
 ·rename_i ho;split at h
  ·split at h
   ·rename_i hx;split at h
    rename_i hargs;cases h
    obtain⟨⟨p1,Hr,p2,p3,p4⟩,q⟩:=hp'
    grind [X0h,OpR.call,fr,hp,X13,Xg9,HC.of_pure]
   ·cases h
  ·cases h
 ·exact OpR.pu hT (s:=⟨fr L,hp G,n⟩) (X03s h hp')
def opS (P:Program) (T:Ty) (L:List (Nat×AV)) (G:List (Nat×Obj)) (n:Nat) (op:Op) (hs:List X4d):OR :=
 match op with
 |.store t p x=>match stS T L G t p x hs with
  |some (G,hs,ps)=>some (.sc undef,G,n,hs,ps)
  |none=>none
 |.call { callee:=.value x,args:=args,argTypes:=ts }=>match hs with
  |.call r G' n'::hs=>match rd L x with
   |(.fn f caps,p)=>match rds L args.toList with
    |(as,q)=>some (r,G',n',hs,X08x P f (as++caps) G n r G' n'::(p++q))
   |_=>none
  |hs=>match quS P T L G (.call { callee:=.value x,args:=args,argTypes:=ts }) hs with
   |some (a,hs,ps)=>some (a,G,n,hs,ps)
   |none=>none
 |op=>match quS P T L G op hs with
  |some (a,hs,ps)=>some (a,G,n,hs,ps)
  |none=>match mkS T L (hp G) n op hs with
   |some (a,e,hs,ps)=>match X032 e with
    |true=>some (a,effS n G e,n+1,hs,ps)
    |false=>none
   |none=>none
theorem X03u {P:Program} {T:Ty} {nt:Nat} {L:List (Nat×AV)} {G G':List (Nat×Obj)} {n n':Nat} {o:Oper} {hs hs':List X4d} {ps:List Prop} {a:AV} (hT:X7a P T)
  (h:opS P T L G n o.op hs=some (a,G',n',hs',ps)) (hp':X4u ps):OpR P nt o ⟨fr L,hp G,n⟩ (λa' H' n2=>a'=a/\H'=hp G'/\n2=n'):=by
 unfold opS at h;split at h
 ·rename_i ho;split at h
  ·rename_i hs;cases h
   have:=X09x hs hp';exact OpR.st hT (s:=⟨fr L,hp G,n⟩) (by grind)
  ·cases h
 ·rename_i ho;split at h
  ·split at h
   ·rename_i hx;split at h
    rename_i hargs;cases h
    obtain⟨p1,q⟩:=hp';obtain⟨q1,q2⟩:=X0h.1 q;refine OpR.call (s:=⟨fr L,hp G,n⟩) ho (X13 hx q1) ?_;rw[Xg9 hargs q2];exact p1.hc
   ·cases h
  grind [Xwo]
 ·split at h
  ·grind [Xwo]
  ·split at h
   ·rename_i hmk;split at h
    ·rename_i he;cases h
     obtain⟨h1,h2⟩:=Xt3 hmk hp';rw[X081 _ _ _ he];exact OpR.mk hT (s:=⟨fr L,hp G,n⟩) h1 h2
    ·cases h
   ·cases h
end Go.Av


namespace Go.Av
variable [Gls]
def Xln (R:Option Nat) (P:Program) (c:Code) (Q:Exit->Act->World->Prop) (a:Act) (w:World):Prop :=
 ∀ (b:Frame) (k:List Item) (cs:List Frame),b.roundOf=R->∃ e a' w',Q e a' w'/\ArrivesIn (Machine.fenced P (FR R)) P (lone (b.atR a (.code c::.inLoop c::k)) cs w) b k cs e a' w'
theorem Xln.start {R:Option Nat} {P:Program} {c:Code} {Q:Exit->Act->World->Prop} {a:Act} {w:World} (h:Xln R P c Q a w):wpR R P (Code.loop c) Q a w:=by
 intro b k cs hro hb hr;obtain⟨e,a',w',hq,harr⟩:=h b k cs hro;exact⟨e,a',w',hq,.of_steps (.one (Xql P R _) stepR_loop) harr⟩
theorem Xln.round {R:Option Nat} {P:Program} {c:Code} {Q:Exit->Act->World->Prop} {a:Act} {w:World} (h:wpR R P c (Exit.then (Xln R P c Q) Q) a w):Xln R P c Q a w:=by
 intro b k cs hro;obtain⟨e,a₁,w₁,hq,harr⟩:=h b (.inLoop c::k) cs hro trivial (X064 R _)
 cases e with
 |normal =>
  obtain⟨e₂,a₂,w₂,hq₂,harr₂⟩:=hq b k cs hro;exact⟨e₂,a₂,w₂,hq₂,.of_steps (StepsIn.trans harr (.one (Xql P R _) stepR_inLoop)) harr₂⟩
 |exit id=>exact⟨_,a₁,w₁,hq,.pass (x:=.inLoop c) rfl (λ_ _=>.inl (by simp)) harr⟩
 |goto l=>exact⟨_,a₁,w₁,hq,.pass (x:=.inLoop c) rfl (λ_ _=>.inl (by simp)) harr⟩
 |ret=>exact⟨_,a₁,w₁,hq,.pass (x:=.inLoop c) rfl (λ_ _=>.inl (by simp)) harr⟩
 |panic ch=>exact⟨_,a₁,w₁,hq,.pass (x:=.inLoop c) rfl (λ_ _=>.inl (by simp)) harr⟩
 |outgrown=>exact⟨_,a₁,w₁,hq,.pass (x:=.inLoop c) rfl (λ_ _=>.inl (by simp)) harr⟩
def X6b (P:Program) (nt n0:Nat) (b:Code) (Q:Xp->St->Mu->Prop) (s:St) (μ:Mu):Prop :=
 ∀ (c0:Ctx) (H0:Xz) (c:Ctx) (act:Act),X38 nt c0 H0 n0 c s act->MOk n0 c0 H0 c s.H μ act->∀ R,RG b R->Xln R P b (MQ nt c0 H0 n0 Q) act c.w
def rndM (P:Program) (nt n0:Nat) (b:Code) (Q:Xp->St->Mu->Prop):Xp->St->Mu->Prop
 |.normal,s,μ=>X6b P nt n0 b Q s μ
 |e,s,μ=>Q e s μ
theorem X2i.loop {P:Program} {nt n0:Nat} {b:Code} {Q:Xp->St->Mu->Prop} {s:St} {μ:Mu} (h:X6b P nt n0 b Q s μ):X2i P nt n0 (.loop b) Q s μ :=
 λc0 H0 c act g hm R hR=>(h c0 H0 c act g hm R hR).start
theorem X6b.round {P:Program} {nt n0:Nat} {b:Code} {Q:Xp->St->Mu->Prop} {s:St} {μ:Mu} (h:X2i P nt n0 b (rndM P nt n0 b Q) s μ):X6b P nt n0 b Q s μ:=by
 intro c0 H0 c act g hm R hR;refine Xln.round (wpIn_mono (h c0 H0 c act g hm R hR) ?_);rintro e a w ⟨c',s',ae,μ',rfl,g',hm',rfl,hq⟩
 cases ae with
 |normal=>exact hq c0 H0 c' a g' hm' R hR
 |exit id=>exact⟨c',s',.exit id,μ',rfl,g',hm',rfl,hq⟩
 |ret=>exact⟨c',s',.ret,μ',rfl,g',hm',rfl,hq⟩
section
variable {P:Program} {nt n0:Nat} {s:St} {μ:Mu} {ops:Array Oper} {l:List Oper} {o:Oper} {K:St->Mu->Prop}
theorem X2m.nil (h:K s μ):X2m P nt n0 ops [] K s μ:=λ_ _ c act g hm Qx hQ _ _=>Xrc (hQ c s act μ g hm h)
theorem X2m.step {R:AV->Xz->Nat->Prop} (hw:∀ (c0 c:Ctx) (H0:Xz) (act:Act),X38 nt c0 H0 n0 c s act->Region.wanted o (yielded ops act.tmps)=true) (hd:∀ d,o.dst=some d->d<nt) (h:OpR P nt o s R)
  (hn:∀ a H' n',R a H' n'->X2m P nt n0 ops l K ⟨X65 s.A o.dst a,H',n'⟩ μ):X2m P nt n0 ops (o::l) K s μ:=by
 intro c0 H0 c act g hm Qx hQ R hR;refine X4a λK' hK'=>?_;rw[if_pos (hw c0 c H0 act g)];refine h c s.H n0 c act g.rebase K' Qx (λc' a H' n' v hr hgood=>?_) R;have g2:=hgood o.dst hd;exact hK' _ _ (hn a H' n' hr c0 H0 c' _ (.join g.reach g2) (hm.kept g2.reach) Qx hQ R hR)
theorem X2m.plain {R:AV->Xz->Nat->Prop} (hg:o.guard=none) (hd:∀ d,o.dst=some d->d<nt) (h:OpR P nt o s R)
  (hn:∀ a H' n',R a H' n'->X2m P nt n0 ops l K ⟨X65 s.A o.dst a,H',n'⟩ μ):X2m P nt n0 ops (o::l) K s μ :=
 X2m.step (λ_ _ _ _ _=>by simp[Region.wanted,hg]) hd h hn
def gdS (want:Bool):AV->Option Bool
 |.sc (.bool b)=>match want with
  |true=>some b
  |false=>some (!b)
 |.cond g (.sc (.bool b))=>match want with
  |true=>some (g&&b)
  |false=>some (g&&!b)
 |_=>none
theorem Xb8 {j t:Nat} {want g:Bool} (hg:o.guard=some (j,want)) (hj:(ops[j]?).bind (·.dst)=some t) (ht:Nat.blt t nt=true) (hb:gdS want (s.A t)=some g)
  {c0 c:Ctx} {H0:Xz} {act:Act} (gd:X38 nt c0 H0 n0 c s act):Region.wanted o (yielded ops act.tmps)=g:=by
 have hlt:t<act.tmps.size:=by rw[gd.size];simp_all
 have hf:=gd.frame t;have hy:∀ v,act.tmps.getD t undef=v->yielded ops act.tmps j=(match v with|.bool b=>some b|_=>none):=by
  intro v hv;unfold yielded;rw[hj];simp only[Option.bind_some,Array.getElem?_eq_getElem hlt];have:act.tmps[t]=v:=by simp_all
  grind
 unfold gdS at hb;split at hb
 ·rename_i b hA;rw[hA] at hf;have:=hy _ hf.sc_inv
  grind [Region.wanted]
 ·rename_i q b hA;rw[hA] at hf
  cases hf with
  |cond h hn =>
   cases q with
   |true =>
    have:=hy _ (h rfl).sc_inv
    grind [Region.wanted]
   |false =>
    have:=hy _ (hn rfl);have hu:yielded ops act.tmps j=none:=this
    grind [Region.wanted]
 ·cases hb
theorem X2m.skip {j t:Nat} {want:Bool} (hg:o.guard=some (j,want)) (hj:(ops[j]?).bind (·.dst)=some t) (ht:Nat.blt t nt=true) (hb:gdS want (s.A t)=some false)
  (hd:∀ d,o.dst=some d->d<nt) (hn:X2m P nt n0 ops l K ⟨X65 s.A o.dst (.cond false (.sc (.bool false))),s.H,s.n⟩ μ):X2m P nt n0 ops (o::l) K s μ:=by
 intro c0 H0 c act g hm Qx hQ R hR;refine X4a λK' hK'=>?_;rw[if_neg (by rw[Xb8 hg hj ht hb g];simp)];have g2:X38 nt c s.H n0 c _ _:=g.rebase.next hd (.refl c) rfl (λb hb=>.inl hb) (.refl c s.H) (λq x hx=>.inr ⟨q,x,hx,rfl⟩) g.inv g.solo (Nat.le_refl _) (v:=undef) (a:=.cond false (.sc (.bool false))) (.cond (λh=>by cases h) (λ_=>rfl)) (.cond .sc);exact hK' _ _ (hn c0 H0 c _ (.join g.reach g2) (hm.kept g2.reach) Qx hQ R hR)
theorem X2m.quiet {j t:Nat} {want b:Bool} {a:AV} (hg:o.guard=some (j,want)) (hj:(ops[j]?).bind (·.dst)=some t) (ht:Nat.blt t nt=true) (hb:gdS want (s.A t)=some b)
  (hd:∀ d,o.dst=some d->d<nt) (hok:a.Ok (·<s.n)) (h:b=true->OpR P nt o s (λa' H' n'=>a'=a/\H'=s.H/\n'=s.n))
  (hn:X2m P nt n0 ops l K ⟨X65 s.A o.dst (.cond b a),s.H,s.n⟩ μ):X2m P nt n0 ops (o::l) K s μ:=by
 cases b with
 |true =>
  refine X2m.step (λc0 c H0 act g=>Xb8 hg hj ht hb g) hd (R:=λa' H' n'=>(a'=.cond true a)/\H'=s.H/\n'=s.n) ?_ ?_
  ·intro c0 H0 n0 c act g K Q hK R;refine h rfl c0 H0 n0 c act g K Q (λc' a' H' n' v hR hgood=>?_) R;obtain⟨rfl,rfl,rfl⟩:=hR;refine hK c' (.cond true a') _ _ v ⟨rfl,rfl,rfl⟩ λdst hd=>?_;have g2:=hgood dst hd;refine⟨g2.inv,g2.solo,λq=>?_,λq=>?_,g2.size,g2.reach,g2.le0⟩
   ·have h1:=g2.frame q
    cases dst with
    |none=>exact h1
    |some d =>
     simp only[X65] at h1 ⊢;by_cases hq:q=d
     ·subst hq;rw[Xk] at h1 ⊢;exact .cond (λ_=>h1) (λh=>by cases h)
     grind [Xm]
   ·have h1:=g2.ok q
    cases dst with
    |none=>exact h1
    |some d =>
     simp only[X65] at h1 ⊢;by_cases hq:q=d
     ·subst hq;rw[Xk] at h1 ⊢;exact .cond h1
     grind [Xm]
  grind
 |false =>
  intro c0 H0 c act g hm Qx hQ R hR;refine X4a λK' hK'=>?_;rw[if_neg (by rw[Xb8 hg hj ht hb g];simp)];have g2:X38 nt c s.H n0 c _ _:=g.rebase.next hd (.refl c) rfl (λb hb=>.inl hb) (.refl c s.H) (λq x hx=>.inr ⟨q,x,hx,rfl⟩) g.inv g.solo (Nat.le_refl _) (v:=undef) (a:=.cond false a) (.cond (λh=>by cases h) (λ_=>rfl)) (.cond hok);exact hK' _ _ (hn c0 H0 c _ (.join g.reach g2) (hm.kept g2.reach) Qx hQ R hR)
theorem X2i.region {id:Nat} {Q:Xp->St->Mu->Prop} (h:X2m P nt n0 ops ops.toList (λs μ=>Q .normal s μ) s μ):X2i P nt n0 (.region id ops false) Q s μ:=by
 intro c0 H0 c act g hm R _;exact wpIn_region_list (h c0 H0 c act g hm _ (λc' s' act' μ' g' hm' hq=>⟨c',s',.normal,μ',rfl,g',hm',rfl,hq⟩) (some R) (λh=>by cases h))
end
mutual
theorem Xmz (M:Nat->Bool):∀ (a:AV),AV.okB M a=true->a.Ok (λo=>M o=true)
 |.junk=>λ_=>.junk
 |.sc _=>λ_=>.sc
 |.nils=>λ_=>.nils
 |.agg cs=>λh=>.agg (Xnz M cs h)
 |.tup cs=>λh=>.tup (Xnz M cs h)
 |.list ..=>λ_=>.list
 |.ref ..=>λh=>.ref h
 |.ptr ..=>λh=>.ptr h
 |.elem ..=>λ_=>.elem
 |.fn _ caps=>λh=>.fn (Xnz M caps h)
 |.mref ..=>λh=>.mref h
 |.cond _ v=>λh=>.cond (Xmz M v h)
 |.mv _ v=>λh=>.mv (Xmz M v h)
theorem Xnz (M:Nat->Bool):∀ (l:List AV),AV.oksB M l=true->∀ a∈l,a.Ok (λo=>M o=true)
 |[]=>λ_ _ h=>by cases h
 |a::r=>λh x hx=>by
  have h':(AV.okB M a&&AV.oksB M r)=true:=h;simp only[Bool.and_eq_true] at h';rcases List.mem_cons.1 hx with he|hx
  ·rw[he];exact Xmz M a h'.1
  ·exact Xnz M r h'.2 x hx
end
theorem okLt {n:Nat} {a:AV} (h:AV.okB (λo=>Nat.blt o n) a=true):a.Ok (·<n):=(Xmz _ a h).mono λo ho=>by simp_all
inductive Kn where
 |seq (c:Code)
 |block (id:Nat)
 |loop (b:Code)
inductive Cf where
 |code (c:Code)
 |exit (e:Xp)
 |ops (ops:Array Oper) (l:List Oper)
 |loop (b:Code)
def Cl (nt n0:Nat) (Q:Xp->St->Mu->Prop):Xp->St->Mu->Prop:=λe s μ =>
 ∀ (c0:Ctx) (H0:Xz) (c:Ctx) (act:Act),X38 nt c0 H0 n0 c s act->MOk n0 c0 H0 c s.H μ act->∃ c' s',c'.w=c.w/\X38 nt c0 H0 n0 c' s' act/\MOk n0 c0 H0 c' s'.H μ act/\Q e s' μ
theorem Cl.mk {nt n0:Nat} {Q:Xp->St->Mu->Prop} {e:Xp} {s:St} {μ:Mu} (h:Q e s μ):Cl nt n0 Q e s μ:=λ_ _ c _ g hm=>⟨c,s,rfl,g,hm,h⟩
theorem X2i.ofCl {P:Program} {nt n0:Nat} {Q:Xp->St->Mu->Prop} {code:Code} {s:St} {μ:Mu} (h:X2i P nt n0 code (Cl nt n0 Q) s μ):X2i P nt n0 code Q s μ:=by
 intro c0 H0 c act g hm R hR;refine wpIn_mono (h c0 H0 c act g hm R hR) ?_;rintro e a w ⟨c',s',ae,μ',rfl,g',hm',rfl,hq⟩;obtain⟨c2,s2,h1,h2,h3,h4⟩:=hq c0 H0 c' a g' hm';exact⟨c2,s2,ae,μ',h1,h2,h3,rfl,h4⟩
def Xd2 (P:Program) (nt n0:Nat) (Q:Xp->St->Mu->Prop):List Kn->Xp->St->Mu->Prop
 |[]=>Cl nt n0 Q
 |.seq c::K=>seqM P nt n0 c (Xd2 P nt n0 Q K)
 |.block id::K=>X8v id (Xd2 P nt n0 Q K)
 |.loop b::K=>rndM P nt n0 b (Xd2 P nt n0 Q K)
def X9 (P:Program) (nt n0:Nat) (Q:Xp->St->Mu->Prop) (cf:Cf) (K:List Kn) (s:St) (μ:Mu):Prop :=
 match cf with
 |.code c=>X2i P nt n0 c (Xd2 P nt n0 Q K) s μ
 |.exit e=>Xd2 P nt n0 Q K e s μ
 |.ops ops l=>X2m P nt n0 ops l (λs μ=>Xd2 P nt n0 Q K .normal s μ) s μ
 |.loop b=>X6b P nt n0 b (Xd2 P nt n0 Q K) s μ
def SSt (L:List (Nat×AV)) (G:List (Nat×Obj)) (n:Nat):St:=⟨fr L,hp G,n⟩
def putK {β:Type} (d:Option Nat) (a:AV) (L:List (Nat×AV)) (k:List (Nat×AV)->Option β):Option β :=
 match d with
 |some d=>k ((d,a)::L)
 |none=>k L
def putO (d:Option Nat) (a:AV) (L:List (Nat×AV)):List (Nat×AV) :=
 match d with
 |some d=>(d,a)::L
 |none=>L
theorem Xda {β:Type} (d:Option Nat) (a:AV) (L:List (Nat×AV)) (k:List (Nat×AV)->Option β):putK d a L k=k (putO d a L):=by cases d<;>rfl
theorem X6v (d:Option Nat) (a:AV) (L:List (Nat×AV)):fr (putO d a L)=X65 (fr L) d a:=by
 cases d<;>rfl
def Xi4 {β:Type}:List (Nat×Obj)->(List (Nat×Obj)->Option β)->Option β
 |[],k=>k []
 |p::r,k=>Xi4 r λr=>k (p::r)
theorem Xdk {β:Type}:∀ (G:List (Nat×Obj)) (k:List (Nat×Obj)->Option β),Xi4 G k=k G:=by
 intro G
 induction G with
 |nil=>intro k;rfl
 |cons p r ih=>intro k;simp[Xi4,ih]
def Xvi {β:Type}:List Prop->List Prop->(List Prop->Option β)->Option β
 |[],ps,k=>k ps
 |q::r,ps,k=>Xvi r (q::ps) k
def oweL:List Prop->List Prop->List Prop
 |[],ps=>ps
 |q::r,ps=>oweL r (q::ps)
theorem Xca {β:Type}:∀ (qs ps:List Prop) (k:List Prop->Option β),Xvi qs ps k=k (oweL qs ps):=by
 intro qs
 induction qs with
 |nil=>intro ps k;rfl
 |cons q r ih=>intro ps k;simp[Xvi,oweL,ih]
theorem X92:∀ {qs ps:List Prop},X4u (oweL qs ps)->X4u qs/\X4u ps:=by
 intro qs
 induction qs with
 |nil=>intro ps h;trivial
 |cons q r ih=>intro ps h;obtain⟨h1,h2⟩:=ih h;exact⟨⟨h2.1,h1⟩,h2.2⟩
def filL (bad:List Nat):List (Nat×AV)->List (Nat×AV)
 |[]=>[]
 |(d,a)::l=>bif Xo5 d bad then filL bad l else (d,a)::filL bad l
theorem Xlb (bad:List Nat):∀ L,fr (filL bad L)=frD bad (fr L):=by
 intro L;funext t
 induction L with
 |nil=>simp[filL,fr,frD]
 |cons p l ih =>
  obtain⟨d,a⟩:=p;simp only[filL]
  cases hb:Xo5 d bad with
  |true =>
   simp only[cond_true,ih,frD,fr]
   cases ht:Xo5 t bad with
   |true=>rfl
   |false =>
    have:Nat.beq t d=false:=by
     rw[<-Bool.not_eq_true,Nat.beq_eq]
     grind
    simp[this]
  |false =>
   simp only[cond_false,frD,fr]
   cases hq:Nat.beq t d with
   |true =>
    simp_all
   |false =>
    assumption
def filG (base mi:Nat) (hf:Nat->Bool) (es:List X2h):List (Nat×Obj)->List (Nat×Obj)
 |[]=>[]
 |(o,x)::l=>bif Xat base mi hf es o then filG base mi hf es l else (o,x)::filG base mi hf es l
theorem Xya (base mi:Nat) (hf:Nat->Bool) (es:List X2h):∀ G,hp (filG base mi hf es G)=hpD base mi hf es (hp G):=by
 intro G;funext q
 induction G with
 |nil=>simp[filG,hp,hpD]
 |cons p l ih =>
  obtain⟨o,x⟩:=p;simp only[filG]
  cases hb:Xat base mi hf es o with
  |true =>
   simp only[cond_true,ih,hpD,hp]
   cases ht:Xat base mi hf es q with
   |true=>rfl
   |false =>
    have:Nat.beq q o=false:=by
     rw[<-Bool.not_eq_true,Nat.beq_eq]
     grind
    simp[this]
  |false =>
   simp only[cond_false,hpD,hp]
   cases hq:Nat.beq q o with
   |true =>
    simp_all
   |false =>
    assumption
def X00s (id:Nat) (G:List (Nat×Obj)):X2h->List (Nat×Obj)
 |.none=>G
 |.new x=>(id,x)::G
 |.app old x=>(id,x)::Xyr old G
 |.set o x=>(o,x)::Xyr o G
def Xmt:X2h->Bool
 |.none=>true
 |.new x=>!x.gone
 |.app _ x=>!x.gone
 |.set _ x=>!x.gone
theorem Xsm (id:Nat) (G:List (Nat×Obj)) (e:X2h) (he:Xmt e=true):hp (X00s id G e)=e.go id (hp G):=by
 cases e with
 |none=>rfl
 |new x=>rw[X2h.go_new];exact Xfl _ _ _ (by simpa[Xmt] using he)
 |app old x=>grind [X2h.go_app,X00s,Xfl,Xmt,Xsb]
 |set o x=>rw[X2h.go_set];exact Xs1 o x G (by simpa[Xmt] using he)
abbrev DR:=Option (AV×X2h×List X4d×List Prop)
def capS (T:Ty) (L:List (Nat×AV)) (G:List (Nat×Obj)) (id:Nat) (op:Op) (hs:List X4d):DR :=
 match op with
 |.call { callee:=.builtin .append,args:=⟨[s,x]⟩,argTypes:=⟨[t,t']⟩ }=>if t=t' then (match hs with
  |.go b::.ix g::hs=>match X2n T t with
   |some te=>match rd L (.tmp g) with
    |(.mref o' m,p0)=>match rd L s,rd L x with
     |(.ref o 0 n,p),(xb,q)=>if o'=o then (match hp G o with
      |some y=>if y.esz=te.size then (match srcS (hp G) xb (p0++(p++q)) with
       |some (xs,ps)=>match b with
        |true=>some (.ref id 0 (n+xs.length),.new { es:=y.es++xs,esz:=te.size },hs,
          (m=n)::(y.es.length=n)::(xs≠[])::(n+xs.length<=maxLen)::((n+xs.length)*te.bytes<=140737488355328)::(∀ e∈xs,e.cells.length=te.size)::ps)
        |false=>match hs with
         |.via (.list _ es')::hs=>some (.ref o 0 (n+xs.length),.set o { y with es:=es' },hs,
          (y.es.take n++xs++y.es.drop (n+xs.length)=es')::(n+xs.length<=m)::(n<=y.es.length)::(xs≠[])::(∀ e∈xs,e.cells.length=te.size)::ps)
         |_=>none
       |none=>none) else none
      |none=>none) else none
     |_,_=>none
    |_=>none
   |none=>none
  |_=>none) else none
 |_=>none
theorem X08i {P:Program} {T:Ty} {L:List (Nat×AV)} {G:List (Nat×Obj)} {id:Nat} {o:Oper} {hs hs':List X4d} {ps:List Prop} {a:AV} {e:X2h} (h:capS T L G id o.op hs=some (a,e,hs',ps)) (hp':X4u ps) :
  DOp P T (fr L) (hp G) id o a e:=by
 unfold capS at h;split at h
 ·rename_i ho;split at h
  ·rename_i htt;subst htt;split at h
   ·split at h
    ·rename_i hty;obtain⟨ti,et,h1,h2,h3⟩:=X16 hty;split at h
     ·rename_i hrg;split at h
      ·rename_i hrs hrx;split at h
       ·rename_i hoo;subst hoo;split at h
        ·rename_i hH;split at h
         ·rename_i hes;split at h
          ·rename_i hsrc;split at h
           ·cases h
            obtain⟨p1,p2,p3,p4,p5,p6,p7⟩:=hp';obtain⟨s1,s2⟩:=X54 hsrc p7;obtain⟨q0,q12⟩:=X0h.1 s2;obtain⟨q1,q2⟩:=X0h.1 q12;refine .new ?_ rfl rfl;rw[ho];exact .appendFull (X13 hrs q1) (by rw[X13 hrg q0,p1]) hH p2 hes (by rw[X13 hrx q2];exact s1) p3 h1 h2 h3 p6 p4 p5
           ·split at h
            ·cases h
             obtain⟨rfl,p1,p2,p3,p6,p7⟩:=hp';obtain⟨s1,s2⟩:=X54 hsrc p7;obtain⟨q0,q12⟩:=X0h.1 s2;obtain⟨q1,q2⟩:=X0h.1 q12;exact .room ho (X13 hrs q1) (X13 hrg q0) hH p2 p1 hes (by rw[X13 hrx q2];exact s1) p3 h1 h2 h3 p6
            ·cases h
          ·cases h
         ·cases h
        ·cases h
       ·cases h
      ·cases h
     ·cases h
    ·cases h
   ·cases h
  ·cases h
 ·cases h
def X08v (P:Program) (f:Nat) (V:Xz) (as:List AV) (r:AV) (q:Nat) (y':Obj):Prop :=
 ∃ v y len bs,r=.sc v/\as=.ref q 0 len::bs/\V q=some y/\(∀ a∈bs,∀ M,a.Ok M)/\(∀ e∈y.es,∀ a∈e.cells,∀ M,a.Ok M)/\(∀ e∈y'.es,∀ a∈e.cells,∀ M,a.Ok M) /\
  HC P f (.ref 0 0 len::bs) (λp=>bif Nat.beq p 0 then some y else none) 1 (λr H' _=>r=.sc v/\H' 0=some y')/\y'.solo=true/\y'.spent=false
def dopS (P:Program) (T:Ty) (L:List (Nat×AV)) (G:List (Nat×Obj)) (id:Nat) (o:Oper) (hs:List X4d):DR :=
 match o.op with
 |.store t p x=>match o.dst with
  |none=>match stO T L G t p x hs with
   |some (q,z,hs,ps)=>some (.sc undef,.set q z,hs,ps)
   |none=>none
  |some _=>none
 |.call { callee:=.value x,args:=args,argTypes:=_ }=>match hs with
  |.pure bs r::hs=>match rd L x with
   |(.fn f [],p)=>match rds L args.toList with
    |(as,q)=>match AV.okB (λ_=>false) r with
     |true=>some (r,.none,hs,X3m P f (hp G) as bs r::(p++q))
     |false=>none
   |(.fn f (u::us),p)=>match rds L args.toList with
    |(as,q)=>match AV.okB (λ_=>false) r with
     |true=>some (r,.none,hs,X3m P f (hp G) (as++(u::us)) bs r::(p++q))
     |false=>none
   |_=>none
  |.call r ((w,y')::_) _::hs=>match rd L x with
   |(.fn f caps,p)=>match rds L args.toList,r with
    |(as,q),.sc v=>some (.sc v,.set w y',hs,X08v P f (hp G) (as++caps) (.sc v) w y'::(p++q))
    |_,_=>none
   |_=>none
  |_=>none
 |op=>match puS T L (hp G) op hs with
  |some (a,hs,ps)=>some (a,.none,hs,ps)
  |none=>match capS T L G id op hs with
   |some r=>some r
   |none=>match mkS T L (hp G) id op hs with
    |some (a,.none,hs,ps)=>some (a,.none,hs,ps)
    |some (a,.new x,hs,ps)=>some (a,.new x,hs,ps)
    |some (a,.app old x,hs,ps)=>some (a,.app old x,hs,ps)
    |none=>none
theorem Xyl {P:Program} {T:Ty} {L:List (Nat×AV)} {G:List (Nat×Obj)} {id:Nat} {o:Oper} {hs hs':List X4d} {ps:List Prop} {a:AV} {e:X2h} (h:dopS P T L G id o hs=some (a,e,hs',ps)) (hp':X4u ps) :
  DOp P T (fr L) (hp G) id o a e:=by
 unfold dopS at h;split at h
 ·rename_i ho;split at h
  ·rename_i hd;split at h
   ·rename_i hst;cases h
    obtain⟨i,k,y,e,ti,h1,h2,h3,h4,h5,h6,h7,h8,h9,rfl⟩:=X03m hst hp';exact .store ho hd h1 h2 h4 h5 h6 h7 h8 h9
   ·cases h
  ·cases h
 ·rename_i ho;split at h
  ·split at h
   ·rename_i hx;split at h
    rename_i hargs;split at h
    ·rename_i hok;cases h
     obtain⟨⟨p1,Hr,p2,p3,p4⟩,q⟩:=hp';obtain⟨q1,q2⟩:=X0h.1 q;rw[<-Xg9 hargs q2] at p2;refine .pure ho (X13 hx q1) (by grind) p1 p3 (p4.imp (λh=>h) λhn=>⟨hn,λM=>?_⟩);exact(Xmz _ _ hok).mono λo ho=>by cases ho
    ·cases h
   ·rename_i hx;split at h
    rename_i hargs;split at h
    ·rename_i hok;cases h
     obtain⟨⟨p1,Hr,p2,p3,p4⟩,q⟩:=hp';obtain⟨q1,q2⟩:=X0h.1 q;rw[<-Xg9 hargs q2] at p2;refine .pure ho (X13 hx q1) p2 p1 p3 (p4.imp (λh=>h) λhn=>⟨hn,λM=>?_⟩);exact(Xmz _ _ hok).mono λo ho=>by cases ho
    ·cases h
   ·cases h
  ·split at h
   ·rename_i hx;split at h
    ·rename_i hargs;cases h
     obtain⟨⟨v,y,len,bs,k1,k2,k3,k4,k5,k6,k7,k8,k9⟩,q⟩:=hp';obtain⟨q1,q2⟩:=X0h.1 q;rw[<-Xg9 hargs q2] at k2;cases k1
     exact .callSet ho (X13 hx q1) k3 .ref k2 k4 k5 k6 k7 k8 k9
    ·cases h
   ·cases h
  ·cases h
 ·split at h
  ·rename_i hpu;cases h
   exact .pu (X03s hpu hp')
  ·split at h
   ·grind [X08i]
   ·split at h
    ·rename_i hm;cases h;exact .zero (Xt3 hm hp').1
    ·rename_i hm;cases h;obtain⟨h1,h2⟩:=Xt3 hm hp';have:=h2 0 _ (.inr rfl);exact .new h1 this.1 this.2
    ·rename_i hm;cases h;obtain⟨h1,h2⟩:=Xt3 hm hp';have:=h2 _ _ (.inl rfl);exact .app h1 this.1 this.2
    ·cases h
def rawB (want:Bool) (a:AV):Option (Bool×List Prop) :=
 match a with
 |.sc (.bool b)=>match want with
  |true=>some (b,[])
  |false=>some (!b,[])
 |.cond g (.sc (.bool b))=>match want with
  |true=>some (b,[g=true])
  |false=>some (!b,[g=true])
 |_=>none
theorem Xwn {want g:Bool} {a:AV} {qs:List Prop} (h:rawB want a=some (g,qs)) (hq:X4u qs):∃ b,X52 a=.sc (.bool b)/\g=(b==want):=by
 unfold rawB at h;split at h
 ·rename_i b;refine⟨b,rfl,?_⟩;cases b<;>(grind)
 ·rename_i q b;split at h
  ·cases h;obtain⟨rfl,_⟩:=hq;exact⟨g,rfl,by simp_all⟩
  ·cases h;obtain⟨rfl,_⟩:=hq;exact⟨b,rfl,by grind⟩
 ·cases h
def tb (m k:Nat):Bool:=Nat.beq (Nat.land (Nat.shiftRight m k) 1) 1
theorem X00v (m k:Nat):tb m k=Nat.testBit m k:=by
 rw[Nat.testBit_eq_decide_div_mod_eq];show Nat.beq ((m >>> k) &&& 1) 1=_;rw[Nat.and_one_is_mod,Nat.shiftRight_eq_div_pow];by_cases h:m / 2 ^ k % 2=1
 ·rw[h];simp
 ·rw[decide_eq_false h,<-Bool.not_eq_true,Nat.beq_eq];exact h
def Xdi {α γ:Type}:List α->(List α->γ)->γ
 |[],k=>k []
 |a::r,k=>Xdi r λr=>k (a::r)
theorem Xn5 {α γ:Type}:∀ (l:List α) (k:List α->γ),Xdi l k=k l:=by
 intro l
 induction l with
 |nil=>intro k;rfl
 |cons a r ih=>intro k;simp only[Xdi,ih]
def Xs3 {γ:Type} (e:X2h) (k:X2h->γ):γ :=
 match e with
 |.none=>k .none
 |.new x=>k (.new x)
 |.app o x=>k (.app o x)
 |.set o x=>k (.set o x)
theorem Xur {γ:Type} (e:X2h) (k:X2h->γ):Xs3 e k=k e:=by cases e<;>rfl
def badF (i mi:Nat):Nat->List Oper->List Nat->List Nat
 |k,o::r,m::ms =>
  match o.dst with
  |none=>badF i mi (k+1) r ms
  |some d=>bif Nat.beq k i then badF i mi (k+1) r ms else bif Nat.blt k i then (bif tb mi k then badF i mi (k+1) r ms else d::badF i mi (k+1) r ms) else (bif tb m i then badF i mi (k+1) r ms else d::badF i mi (k+1) r ms)
 |_,_,_=>[]
theorem X08m (i mi:Nat):∀ (l:List Oper) (k:Nat) (ms:List Nat),badF i mi k l ms=X5b i mi k l ms:=by
 intro l
 induction l with
 |nil=>intro k ms;rfl
 |cons o r ih =>
  intro k ms
  cases ms with
  |nil=>rfl
  |cons m ms=>grind [badF,X5b,X00v]
def Xqd (base mi o:Nat):Nat->List X2h->Bool
 |k,e::es=>bif Xo5 o (e.objs (base+k)) then (bif tb mi k then Xqd base mi o (k+1) es else true) else Xqd base mi o (k+1) es
 |_,[]=>false
theorem Xy1 (base mi o:Nat):∀ (es:List X2h) (k:Nat),Xqd base mi o k es=Xea base mi o k es:=by
 intro es
 induction es with
 |nil=>intro k;rfl
 |cons e es ih =>
  grind [Xqd,Xea,X00v,Xo5,Nat.testBit]
def hidF (base mi:Nat) (hf:Nat->Bool) (es:List X2h) (o:Nat):Bool :=
 bif hf o then true else bif (bif Nat.ble base o then !tb mi (o - base) else false) then true else Xqd base mi o 0 es
theorem Xy2 (base mi:Nat) (hf:Nat->Bool) (es:List X2h) (o:Nat):hidF base mi hf es o=Xat base mi hf es o:=by
 grind [hidF,Xat,Xy1,X00v,Nat.ble,Nat.testBit]
def Xuw (base mi:Nat) (hf:Nat->Bool) (es:List X2h):List (Nat×Obj)->List (Nat×Obj)
 |[]=>[]
 |(o,x)::r=>bif hidF base mi hf es o then Xuw base mi hf es r else (o,x)::Xuw base mi hf es r
def Xpq (base mk:Nat) (os:List Nat):Nat->List (Nat×(Nat->Bool))->List X2h->List X2h->Bool
 |i,(mi,hf)::ms,pre,e::es =>
  bif (bif tb mk i then true else os.all (λo=>bif hidF base mi hf pre o then !Xo5 o (e.objs (base+i)) else false)) then Xdi (pre++[e]) λpre=>Xpq base mk os (i+1) ms pre es else false
 |_,_,_,_=>true
theorem X02x (base mi:Nat) (hf:Nat->Bool) (es:List X2h):∀ G,Xuw base mi hf es G=filG base mi hf es G:=by
 intro G
 induction G with
 |nil=>rfl
 |cons p r ih=>grind [Xuw,filG,Xy2]
theorem Xvs (base mk:Nat) (os:List Nat):∀ (es:List X2h) (i:Nat) (ms:List (Nat×(Nat->Bool))) (pre:List X2h),Xpq base mk os i ms pre es=X51 base mk os i ms pre es:=by
 intro es
 induction es with
 |nil=>intro i ms pre;cases ms<;>rfl
 |cons e es ih =>
  intro i ms pre
  cases ms with
  |nil=>rfl
  |cons m ms =>
   obtain⟨mi,hf⟩:=m;simp only[Xpq,X51,Xn5,ih,X00v]
   grind [hidF,Xo5,Xat,Xy2,Nat.testBit]
def Xqf {β:Type} (n:Nat) (k:Nat->Option β):Option β :=
 match n with
 |0=>k 0
 |m+1=>k (m+1)
theorem Xgl {β:Type} (n:Nat) (k:Nat->Option β):Xqf n k=k n:=by cases n<;>rfl
def Xl6 {β:Type}:List Nat->(List Nat->Option β)->Option β
 |[],k=>k []
 |a::r,k=>Xqf a λa=>Xl6 r λr=>k (a::r)
theorem Xn6 {β:Type}:∀ (l:List Nat) (k:List Nat->Option β),Xl6 l k=k l:=by
 intro l
 induction l with
 |nil=>intro k;rfl
 |cons a r ih=>grind [Xl6,Xgl]
def Xt5 {β:Type}:List Nat->List Oper->(List Nat->Option β)->Option β
 |done,[],k=>k done
 |done,o::r,k=>Xqf ((X8e o).foldl (λm j=>m |||2 ^ j |||done.getD j 0) 0) λm=>Xl6 (done++[m]) λdone=>Xt5 done r k
theorem Xxe {β:Type}:∀ (l:List Oper) (done:List Nat) (k:List Nat->Option β),Xt5 done l k=k (Xfj done l):=by
 intro l
 induction l with
 |nil=>intro done k;rfl
 |cons o r ih=>grind [Xt5,Xgl,Xn6,Xfj]
def Xlf (hz:Oper->Nat->Bool) (P:Program) (T:Ty) (nt base:Nat) (ops:Array Oper) (ms:List Nat) (zs:List (Nat×(Nat->Bool))):Nat->List Oper->List (Nat×AV)->List (Nat×Obj)->List X2h->List X4d->List Prop->Option (List (Nat×AV)×List (Nat×Obj)×List X4d×List Prop)
 |_,[],L,G,_,hs,ps=>some (L,G,hs,ps)
 |i,o::l,L,G,es,hs,ps=>Xqf (ms.getD i 0) λmi=>Xl6 (badF i mi 0 ops.toList ms) λbad =>
  if X8h nt bad o.dst=true then (match o.guard with
   |none=>match dopS P T (filL bad L) (Xuw base mi (hz o) es G) (base+i) o hs with
    |some (a,e,hs',qs)=>Xs3 e λe=>if (Xmt e&&Xpq base mi (e.objs (base+i)) 0 (zs.take i) [] es)=true then
      Xdl a λa=>putK o.dst a L λL=>Xi4 (X00s (base+i) G e) λG=>Xvi qs ps λps=>Xdi (es++[e]) λes=>Xlf hz P T nt base ops ms zs (i+1) l L G es hs' ps else none
    |none=>none
   |some (j,want)=>match (ops[j]?).bind (·.dst) with
    |some t=>if Nat.blt t nt=true then (match hs with
     |.go true::hs=>match rawB want (fr (filL bad L) t) with
      |some (g,rs)=>match dopS P T (filL bad L) (Xuw base mi (hz o) es G) (base+i) o hs with
       |some (a,e,hs',qs)=>Xs3 e λe=>if (Xmt e&&Xpq base mi (e.objs (base+i)) 0 (zs.take i) [] es)=true then
         Xdl a λa=>putK o.dst a L λL=>Xi4 (X00s (base+i) G e) λG=>Xvi rs ps λps=>Xvi qs ((g=true)::ps) λps=>Xdi (es++[e]) λes=>Xlf hz P T nt base ops ms zs (i+1) l L G es hs' ps else none
       |none=>none
      |none=>none
     |.go false::hs=>match rawB want (fr (filL bad L) t) with
      |some (g,rs)=>putK o.dst (.sc undef) L λL=>Xvi rs ps λps=>Xdi (es++[.none]) λes=>Xlf hz P T nt base ops ms zs (i+1) l L G es hs ((g=false)::ps)
      |none=>none
     |.no::hs=>match fr (filL bad L) t with
      |.sc v=>match Xex want v with
       |false=>putK o.dst (.sc undef) L λL=>Xdi (es++[.none]) λes=>Xlf hz P T nt base ops ms zs (i+1) l L G es hs ps
       |true=>none
      |_=>none
     |_=>none) else none
    |none=>none) else none
theorem Xto {hz:Oper->Nat->Bool} {P:Program} {T:Ty} {nt base:Nat} {ops:Array Oper} {ms:List Nat}:∀ (l:List Oper) (i:Nat) (L:List (Nat×AV)) (G:List (Nat×Obj)) (es:List X2h) (hs:List X4d) (ps:List Prop) (L':List (Nat×AV)) (G':List (Nat×Obj)) (hs':List X4d) (ps':List Prop),
  Xlf hz P T nt base ops ms (ms.zip (ops.toList.map hz)) i l L G es hs ps=some (L',G',hs',ps')->X4u ps'->X4u ps/\Xve hz P T nt base ops ms i l (fr L) (hp G) es (fr L') (hp G'):=by
 intro l
 induction l with
 |nil=>intro i L G es hs ps L' G' hs' ps' h hp';simp only[Xlf] at h;cases h;exact⟨hp',.nil⟩
 |cons o l ih =>
  intro i L G es hs ps L' G' hs' ps' h hp';simp only[Xlf,Xgl,Xn6,X08m,X02x,Xvs,Xn5,Xur] at h;split at h
  ·rename_i hd;split at h
   ·rename_i hg;split at h
    ·rename_i a e _ qs hop;split at h
     ·rename_i hw;obtain⟨he,hw⟩:=Bool.and_eq_true_iff.1 hw;rw[X71,Xda,Xdk,Xca] at h;obtain⟨h1,h2⟩:=ih _ _ _ _ _ _ _ _ _ _ h hp';obtain⟨p1,p2⟩:=X92 h1;have hop':=Xyl hop p1;rw[Xlb,Xya] at hop';rw[X6v,Xsm _ _ _ he] at h2;exact⟨p2,.op hg hd hop' hw h2⟩
     ·cases h
    ·cases h
   ·rename_i j want hg;split at h
    ·rename_i hj;split at h
     ·rename_i ht;split at h
      ·split at h
       ·rename_i hr;split at h
        ·rename_i hop;split at h
         ·rename_i hw;obtain⟨he,hw⟩:=Bool.and_eq_true_iff.1 hw;rw[X71,Xda,Xdk,Xca,Xca] at h;obtain⟨h1,h2⟩:=ih _ _ _ _ _ _ _ _ _ _ h hp';obtain⟨p1,p0,p2⟩:=X92 h1;obtain⟨p3,p4⟩:=X92 p2;have hop':=Xyl hop p1;rw[Xlb,Xya] at hop';rw[X6v,Xsm _ _ _ he] at h2;obtain⟨b,hb1,hb2⟩:=Xwn hr p3;rw[Xlb] at hb1;have:b=want:=by grind
          subst this;exact⟨p4,.run hg hd hj ht hb1 hop' hw h2⟩
         ·cases h
        ·cases h
       ·cases h
      ·split at h
       ·rename_i hr;rw[Xda,Xca] at h;obtain⟨h1,h2⟩:=ih _ _ _ _ _ _ _ _ _ _ h hp';obtain⟨p0,p2⟩:=h1;obtain⟨p3,p4⟩:=X92 p2;rw[X6v] at h2;obtain⟨b,hb1,hb2⟩:=Xwn hr p3;rw[Xlb] at hb1;exact⟨p4,.skip hg hd hj ht hb1 (by rw[p0] at hb2;exact hb2.symm) h2⟩
       ·cases h
      ·split at h
       ·rename_i hr;split at h
        ·rename_i hb;rw[Xda] at h;obtain⟨h1,h2⟩:=ih _ _ _ _ _ _ _ _ _ _ h hp';rw[X6v] at h2;rw[Xlb] at hr;exact⟨h1,.skip hg hd hj ht (by rw[hr];rfl) hb h2⟩
        ·cases h
       ·cases h
      ·cases h
     ·cases h
    ·cases h
  ·cases h
def cntN {β:Type}:List Oper->Nat->(Nat->Option β)->Option β
 |[],n,k=>k n
 |_::r,n,k=>Xqf (n+1) λn=>cntN r n k
theorem X08f {β:Type}:∀ (l:List Oper) (n:Nat) (k:Nat->Option β),cntN l n k=k (n+l.length):=by
 intro l
 induction l with
 |nil=>intro n k;rfl
 |cons a r ih=>grind [cntN,Xgl,List.length_cons]
abbrev RR:=Option (Cf×List Kn×List (Nat×AV)×List (Nat×Obj)×Nat×List X4d×List Prop)
def Xmf (nt n0:Nat) (s s':St):Prop:=∀ (c0:Ctx) (H0:Xz) (c:Ctx) (act:Act) (μ:Mu),X38 nt c0 H0 n0 c s act->MOk n0 c0 H0 c s.H μ act->X38 nt c0 H0 n0 c s' act/\MOk n0 c0 H0 c s'.H μ act
theorem Xmf.loop {P:Program} {nt n0:Nat} {s s':St} (hw:Xmf nt n0 s s') {b:Code} {Q:Xp->St->Mu->Prop} {μ:Mu} (h:X6b P nt n0 b Q s' μ):X6b P nt n0 b Q s μ:=by
 intro c0 H0 c act g hm;obtain⟨g',hm'⟩:=hw c0 H0 c act μ g hm;exact h c0 H0 c act g' hm'
theorem Xmf.semM {P:Program} {nt n0:Nat} {s s':St} (hw:Xmf nt n0 s s') {c:Code} {Q:Xp->St->Mu->Prop} {μ:Mu} (h:X2i P nt n0 c Q s' μ):X2i P nt n0 c Q s μ:=by
 intro c0 H0 c act g hm;obtain⟨g',hm'⟩:=hw c0 H0 c act μ g hm;exact h c0 H0 c act g' hm'
theorem Xd2.sub {P:Program} {nt n0:Nat} {Q:Xp->St->Mu->Prop} {μ:Mu} {s s':St} (hw:Xmf nt n0 s s'):∀ (K:List Kn) (e:Xp),Xd2 P nt n0 Q K e s' μ->Xd2 P nt n0 Q K e s μ:=by
 intro K
 induction K with
 |nil =>
  intro e h c0 H0 c act g hm;obtain⟨g',hm'⟩:=hw c0 H0 c act μ g hm;exact h c0 H0 c act g' hm'
 |cons k K ih =>
  intro e h
  cases k with
  |seq c =>
   cases e with
   |normal=>exact hw.semM h
   |exit i=>exact ih _ h
   |ret=>exact ih _ h
  |block id =>
   cases e with
   |normal=>exact ih _ h
   |ret=>exact ih _ h
   |exit i =>
    have h':X8v id (Xd2 P nt n0 Q K) (.exit i) s' μ:=h;show X8v id (Xd2 P nt n0 Q K) (.exit i) s μ;simp only[X8v] at h' ⊢
    grind
  |loop b =>
   cases e with
   |normal=>exact hw.loop h
   |exit i=>exact ih _ h
   |ret=>exact ih _ h
theorem X9.sub {P:Program} {nt n0:Nat} {Q:Xp->St->Mu->Prop} {cf:Cf} {K:List Kn} {μ:Mu} {s s':St} (hw:Xmf nt n0 s s') (h:X9 P nt n0 Q cf K s' μ):X9 P nt n0 Q cf K s μ:=by
 cases cf with
 |code c=>exact hw.semM h
 |exit e=>exact Xd2.sub hw K e h
 |ops ops l =>
  intro c0 H0 c act g hm;obtain⟨g',hm'⟩:=hw c0 H0 c act μ g hm;exact h c0 H0 c act g' hm'
 |loop b=>exact hw.loop h
theorem X38.trunc {nt n0 n:Nat} {c0 c:Ctx} {H0 H:Xz} {A:Nat->AV} {act:Act} (g:X38 nt c0 H0 n0 c ⟨A,H,n⟩ act) {o:Nat} {y:Obj} (hy:H o=some y) (m:Nat) :
  X38 nt c0 H0 n0 c ⟨A,upd H o (some { y with es:=y.es.take m }),n⟩ act:=by
 have hM:∀ q z,upd H o (some { y with es:=y.es.take m }) q=some z->∃ z',H q=some z'/\(∃ m,z.es=z'.es.take m)/\z.esz=z'.esz/\z.solo=z'.solo/\z.spent=z'.spent:=by
  intro q z hz;by_cases hq:q=o
  ·subst hq;rw[Xk] at hz;cases hz;exact⟨y,hy,⟨m,rfl⟩,rfl,rfl,rfl⟩
  ·rw[Xm _ _ hq] at hz;exact⟨z,hz,⟨z.es.length,by simp⟩,rfl,rfl,rfl⟩
 have hsolo:∀ q z,upd H o (some { y with es:=y.es.take m }) q=some z->z.solo=true/\z.spent=false:=by
  intro q z hz;obtain⟨z',hz',_,_,h1,h2⟩:=hM q z hz;rw[h1,h2];exact g.solo q z' hz'
 refine⟨⟨?_,?_,?_,g.inv.lt,g.inv.base,g.inv.own,?_,g.inv.glob⟩,hsolo,g.frame,g.ok,g.size,⟨g.reach.rho,g.reach.os,g.reach.tape,g.reach.output,g.reach.size,g.reach.block,g.reach.stable,g.reach.sa,g.reach.so1,g.reach.so2,g.reach.B,?_⟩,g.le0⟩
 ·intro q z hz;obtain⟨z',hz',⟨k,hk⟩,h1,_⟩:=hM q z hz;obtain⟨g1,⟨⟨cur,hb,hs,hc⟩,hf,hp,hse⟩,g3⟩:=g.inv.obj q z' hz';refine⟨g1,⟨⟨cur,hb,hs,λi e he=>?_⟩,?_,hp,by rw[h1];exact hse⟩,λe he=>?_⟩
  ·rw[hk,List.getElem?_take] at he;split at he
   ·exact hc i e he
   ·cases he
  ·rw[hk,List.length_take];omega
  ·rw[hk] at he;exact g3 e (List.mem_of_mem_take he)
 ·intro q q' z z' hz hz' hne hb;obtain⟨x,hx,_,_,h1,_⟩:=hM q z hz;obtain⟨x',hx',_⟩:=hM q' z' hz';have:=(g.inv.sep q q' x x' hx hx' hne hb).1;rw[(g.solo q x hx).1] at this;cases this
 ·intro q z hz;obtain⟨z',hz',_⟩:=hM q z hz;exact g.inv.stab q z' hz'
 ·intro q z hz;obtain⟨z',hz',_⟩:=hM q z hz;exact g.inv.low q z' hz'
 ·intro q z hz;obtain⟨z',hz',_⟩:=hM q z hz;exact g.reach.own q z' hz'
theorem Xmf.trunc {nt n0 n:Nat} {H:Xz} {A:Nat->AV} {o:Nat} {y:Obj} (hy:H o=some y) (m:Nat):Xmf nt n0 ⟨A,H,n⟩ ⟨A,upd H o (some { y with es:=y.es.take m }),n⟩:=by
 intro c0 H0 c act μ g hm;refine⟨g.trunc hy m,hm.is,λp hp=>?_,hm.nodup,hm.ds⟩;obtain⟨a1,a2,a3,a4⟩:=hm.away p hp
 grind [upd,Xm]
def X03l (id:Nat):List X4d->Bool
 |.stop j::_=>Nat.beq j id
 |_=>false
def seeL (d:Nat):List (Nat×List Nat)->Option (List Nat)
 |[]=>none
 |(k,l)::r=>bif Nat.beq d k then some l else seeL d r
def hzL (l:List (Nat×List Nat)) (o:Oper) (q:Nat):Bool :=
 Xje o.op||(match o.dst with
  |some d=>match seeL d l with
   |some ids=>!Xo5 q ids
   |none=>false
  |none=>false)
def seeZ:List X4d->Oper->Nat->Bool
 |.see l::_=>hzL l
 |_=>hz0
def seeR:List X4d->List X4d
 |.see _::hs=>hs
 |hs=>hs
def Xb6 (P:Program) (T:Ty) (nt:Nat):Nat->Cf->List Kn->List (Nat×AV)->List (Nat×Obj)->Nat->List X4d->List Prop->RR
  |0,cf,K,L,G,n,hs,ps=>some (cf,K,L,G,n,hs,ps)
  |f+1,cf,K,L,G,n,hs,ps=>match cf with
    |.code c=>match c with
      |.skip=>Xb6 P T nt f (.exit .normal) K L G n hs ps
      |.label _=>Xb6 P T nt f (.exit .normal) K L G n hs ps
      |.exit id=>Xb6 P T nt f (.exit (.exit id)) K L G n hs ps
      |.ret=>Xb6 P T nt f (.exit .ret) K L G n hs ps
      |.seq a b=>Xb6 P T nt f (.code a) (.seq b::K) L G n hs ps
      |.block id c=>Xb6 P T nt f (.code c) (.block id::K) L G n hs ps
      |.scope c=>Xb6 P T nt f (.code c) K L G n hs ps
      |.region id ops false=>match hs with
        |.stop j::hs=>match Nat.beq j id with
          |true=>some (.code (.region id ops false),K,L,G,n,hs,ps)
          |false=>Xb6 P T nt f (.ops ops ops.toList) K L G n (.stop j::hs) ps
        |hs=>Xb6 P T nt f (.ops ops ops.toList) K L G n hs ps
      |.region id ops true=>match X03l id hs with
       |true=>some (.code (.region id ops true),K,L,G,n,hs.tail,ps)
       |false=>match X7g 0 ops.toList with
        |true=>Xt5 [] ops.toList λms=>match Xlf (seeZ hs) P T nt n ops ms (ms.zip (ops.toList.map (seeZ hs))) 0 ops.toList L G [] (seeR hs) ps with
          |some (L,G,hs,ps)=>Xi4 G λG=>cntN ops.toList n λn=>Xb6 P T nt f (.exit .normal) K L G n hs ps
          |none=>none
        |false=>none
      |.loop b=>some (.loop b,K,L,G,n,hs,ps)
      |.cond x a b=>match hs with
        |.br true::hs=>match rd L x with
          |(.sc (.bool t),qs)=>Xvi qs ((t=true)::ps) λps=>Xb6 P T nt f (.code a) K L G n hs ps
          |_=>none
        |.br false::hs=>match rd L x with
          |(.sc (.bool t),qs)=>Xvi qs ((t=false)::ps) λps=>Xb6 P T nt f (.code b) K L G n hs ps
          |_=>none
        |hs=>some (.code (.cond x a b),K,L,G,n,hs,ps)
      |c=>some (.code c,K,L,G,n,hs,ps)
    |.exit e=>match K with
      |[]=>some (.exit e,[],L,G,n,hs,ps)
      |.seq c::K=>match e with
        |.normal=>Xb6 P T nt f (.code c) K L G n hs ps
        |e=>Xb6 P T nt f (.exit e) K L G n hs ps
      |.block id::K=>match e with
        |.exit i=>match Nat.beq i id with
          |true=>Xb6 P T nt f (.exit .normal) K L G n hs ps
          |false=>Xb6 P T nt f (.exit (.exit i)) K L G n hs ps
        |e=>Xb6 P T nt f (.exit e) K L G n hs ps
      |.loop b::K=>match e with
        |.normal=>some (.loop b,K,L,G,n,hs,ps)
        |e=>Xb6 P T nt f (.exit e) K L G n hs ps
    |.loop b=>some (.loop b,K,L,G,n,hs,ps)
    |.ops ops l=>match l with
      |[]=>Xb6 P T nt f (.exit .normal) K L G n hs ps
      |o::l=>match hs with
       |.trunc q es::hs=>match hp G q with
        |some y=>Xb6 P T nt f (.ops ops (o::l)) K L ((q,{ y with es:=es })::Xyr q G) n hs ((∃ m,es=y.es.take m)::ps)
        |none=>none
       |hs=>if Xen nt o.dst=true then (match o.guard with
        |none=>match opS P T L G n o.op hs with
          |some (a,G',n',hs',qs)=>Xdl a λa=>putK o.dst a L λL=>Xi4 G' λG=>Xvi qs ps λps=>Xb6 P T nt f (.ops ops l) K L G n' hs' ps
          |none=>some (.ops ops (o::l),K,L,G,n,hs,ps)
        |some (j,want)=>match (ops[j]?).bind (·.dst) with
          |some t=>if Nat.blt t nt=true then (match gdS want (fr L t) with
            |some g=>match X03l 999999 hs with
             |true=>some (.ops ops (o::l),K,L,G,n,hs.tail,ps)
             |false=>match hs with
              |.go true::hs=>match opS P T L G n o.op hs with
                |some (a,G',n',hs',qs)=>Xdl a λa=>putK o.dst a L λL=>Xi4 G' λG=>Xvi qs ((g=true)::ps) λps=>Xb6 P T nt f (.ops ops l) K L G n' hs' ps
                |none=>none
              |.go false::hs=>putK o.dst (.cond false (.sc (.bool false))) L λL=>Xb6 P T nt f (.ops ops l) K L G n hs ((g=false)::ps)
              |hs=>match quS P T L G o.op hs with
                |some (a,hs',qs)=>match AV.okB (λo=>Nat.blt o n) a with
                  |true=>Xdl a λa=>putK o.dst (.cond g a) L λL=>Xvi (Xps g qs) ps λps=>Xb6 P T nt f (.ops ops l) K L G n hs' ps
                  |false=>none
                |none=>some (.ops ops (o::l),K,L,G,n,hs,ps)
            |none=>none) else none
          |none=>none) else none
theorem X061 {P:Program} {T:Ty} {nt n0:Nat} {μ:Mu} {Q:Xp->St->Mu->Prop} (hT:X7a P T) (hm:P.follows .mixedOrders=true):∀ (f:Nat) (cf:Cf) (K:List Kn) (L:List (Nat×AV)) (G:List (Nat×Obj)) (n:Nat) (hs:List X4d) (ps:List Prop) (cf':Cf) (K':List Kn) (L':List (Nat×AV)) (G':List (Nat×Obj)) (n':Nat) (hs':List X4d) (ps':List Prop),
  Xb6 P T nt f cf K L G n hs ps=some (cf',K',L',G',n',hs',ps')->X4u ps'->X4u ps/\(X9 P nt n0 Q cf' K' (SSt L' G' n') μ->X9 P nt n0 Q cf K (SSt L G n) μ):=by
 intro f
 induction f with
 |zero=>grind [hp,Xb6]
 |succ f ih =>
  intro cf K L G n hs ps cf' K' L' G' n' hs' ps' h hp;have stop:some (cf,K,L,G,n,hs,ps)=some (cf',K',L',G',n',hs',ps')->X4u ps/\(X9 P nt n0 Q cf' K' (SSt L' G' n') μ->X9 P nt n0 Q cf K (SSt L G n) μ):=by
   grind
  cases cf with
  |code c =>
   cases c with
   |skip=>obtain⟨h1,h2⟩:=ih _ _ _ _ _ _ _ _ _ _ _ _ _ _ h hp;exact⟨h1,λk=>X2i.skip (h2 k)⟩
   |label=>obtain⟨h1,h2⟩:=ih _ _ _ _ _ _ _ _ _ _ _ _ _ _ h hp;exact⟨h1,λk=>X2i.label (h2 k)⟩
   |exit=>obtain⟨h1,h2⟩:=ih _ _ _ _ _ _ _ _ _ _ _ _ _ _ h hp;exact⟨h1,λk=>X2i.exit (h2 k)⟩
   |ret=>obtain⟨h1,h2⟩:=ih _ _ _ _ _ _ _ _ _ _ _ _ _ _ h hp;exact⟨h1,λk=>X2i.ret (h2 k)⟩
   |seq=>obtain⟨h1,h2⟩:=ih _ _ _ _ _ _ _ _ _ _ _ _ _ _ h hp;exact⟨h1,λk=>X2i.seq (h2 k)⟩
   |block=>obtain⟨h1,h2⟩:=ih _ _ _ _ _ _ _ _ _ _ _ _ _ _ h hp;exact⟨h1,λk=>X2i.block (h2 k)⟩
   |scope=>obtain⟨h1,h2⟩:=ih _ _ _ _ _ _ _ _ _ _ _ _ _ _ h hp;exact⟨h1,λk=>X2i.scope (h2 k)⟩
   |region id ops d =>
    cases d with
    |false =>
     simp only[Xb6] at h;split at h
     ·split at h
      ·grind
      ·obtain⟨h1,h2⟩:=ih _ _ _ _ _ _ _ _ _ _ _ _ _ _ h hp;exact⟨h1,λk=>X2i.region (h2 k)⟩
     ·obtain⟨h1,h2⟩:=ih _ _ _ _ _ _ _ _ _ _ _ _ _ _ h hp;exact⟨h1,λk=>X2i.region (h2 k)⟩
    |true =>
     simp only[Xb6] at h;split at h
     ·grind
     split at h
     ·rename_i hpre;rw[Xxe] at h;split at h
      ·rename_i hd;rw[Xdk,X08f] at h;obtain⟨h1,h2⟩:=ih _ _ _ _ _ _ _ _ _ _ _ _ _ _ h hp;obtain⟨h3,h4⟩:=Xto _ _ _ _ _ _ _ _ _ _ _ hd h1;exact⟨h3,λk=>X2i.of (Xr1.drawn (s:=SSt L G n) hm hT hpre h4 (h2 k))⟩
      ·cases h
     ·cases h
   |loop b=>cases h;exact⟨hp,λk=>X2i.loop k⟩
   |cond x a b =>
    simp only[Xb6] at h;split at h
    ·split at h
     ·rename_i hr;rw[Xca] at h;obtain⟨h1,h2⟩:=ih _ _ _ _ _ _ _ _ _ _ _ _ _ _ h hp;obtain⟨p3,p1,p4⟩:=X92 h1;exact⟨p4,λk=>X2i.cond (s:=(SSt L G n)) (X13 hr p3) (λ_=>h2 k) (λhf=>by grind)⟩
     ·cases h
    ·split at h
     ·rename_i hr;rw[Xca] at h;obtain⟨h1,h2⟩:=ih _ _ _ _ _ _ _ _ _ _ _ _ _ _ h hp;obtain⟨p3,p1,p4⟩:=X92 h1;exact⟨p4,λk=>X2i.cond (s:=(SSt L G n)) (X13 hr p3) (λhf=>by grind) (λ_=>h2 k)⟩
     ·cases h
    grind
   |_=>exact stop h
  |exit e =>
   cases K with
   |nil=>exact stop h
   |cons kn K =>
    cases kn with
    |seq c=>cases e<;>(simp only[Xb6] at h;obtain⟨h1,h2⟩:=ih _ _ _ _ _ _ _ _ _ _ _ _ _ _ h hp;trivial)
    |loop b =>
     cases e with
     |normal=>cases h;exact⟨hp,λk=>k⟩
     |exit i=>simp only[Xb6] at h;obtain⟨h1,h2⟩:=ih _ _ _ _ _ _ _ _ _ _ _ _ _ _ h hp;trivial
     |ret=>simp only[Xb6] at h;obtain⟨h1,h2⟩:=ih _ _ _ _ _ _ _ _ _ _ _ _ _ _ h hp;trivial
    |block id =>
     cases e with
     |normal=>simp only[Xb6] at h;obtain⟨h1,h2⟩:=ih _ _ _ _ _ _ _ _ _ _ _ _ _ _ h hp;trivial
     |ret=>simp only[Xb6] at h;obtain⟨h1,h2⟩:=ih _ _ _ _ _ _ _ _ _ _ _ _ _ _ h hp;trivial
     |exit i =>
      simp only[Xb6] at h;split at h
      ·rename_i hb;obtain⟨h1,h2⟩:=ih _ _ _ _ _ _ _ _ _ _ _ _ _ _ h hp;refine⟨h1,λk=>?_⟩;show X8v id (Xd2 P nt n0 Q K) (.exit i) (SSt L G n) μ;simp only[X8v,hb,cond_true];exact h2 k
      ·rename_i hb;obtain⟨h1,h2⟩:=ih _ _ _ _ _ _ _ _ _ _ _ _ _ _ h hp;refine⟨h1,λk=>?_⟩;show X8v id (Xd2 P nt n0 Q K) (.exit i) (SSt L G n) μ;simp only[X8v,hb,cond_false];exact h2 k
  |loop b=>exact stop h
  |ops ops l =>
   simp only[Xb6] at h;split at h
   ·obtain⟨h1,h2⟩:=ih _ _ _ _ _ _ _ _ _ _ _ _ _ _ h hp;exact⟨h1,λk=>X2m.nil (h2 k)⟩
   ·split at h
    ·split at h
     ·rename_i hy;obtain⟨⟨⟨m,rfl⟩,h1⟩,h2⟩:=ih _ _ _ _ _ _ _ _ _ _ _ _ _ _ h hp;refine⟨h1,λk=>X9.sub (Xmf.trunc (A:=fr L) (H:=Go.Av.hp G) (n:=n) hy m) ?_⟩
      grind [Xhj,SSt,Xs1]
     ·cases h
    split at h
    ·rename_i hd;have hdl:=X5n hd;split at h
     ·rename_i hg;split at h
      ·rename_i hop;rw[X71,Xda,Xdk,Xca] at h;obtain⟨h1,h2⟩:=ih _ _ _ _ _ _ _ _ _ _ _ _ _ _ h hp;obtain⟨p1,p2⟩:=X92 h1;refine⟨p2,λk=>X2m.plain hg hdl (X03u hT hop p1) ?_⟩;rintro _ _ _ ⟨rfl,rfl,rfl⟩
       grind [X9,SSt,X6v]
      grind
     ·rename_i j want hg;split at h
      ·rename_i hj;split at h
       ·rename_i ht;split at h
        ·rename_i g hgd;split at h
         ·grind
         split at h
         ·split at h
          ·rename_i hop;rw[X71,Xda,Xdk,Xca] at h;obtain⟨h1,h2⟩:=ih _ _ _ _ _ _ _ _ _ _ _ _ _ _ h hp;obtain⟨p1,p0,p2⟩:=X92 h1;subst p0;refine⟨p2,λk=>X2m.step (λc0 c H0 act gd=>Xb8 (s:=SSt L G n) hg hj ht hgd gd) hdl (X03u hT hop p1) ?_⟩;rintro _ _ _ ⟨rfl,rfl,rfl⟩
           grind [X9,SSt,X6v]
          ·cases h
         ·rw[Xda] at h;obtain⟨h1,h2⟩:=ih _ _ _ _ _ _ _ _ _ _ _ _ _ _ h hp;obtain⟨p0,p1⟩:=h1;subst p0;refine⟨p1,λk=>X2m.skip (s:=SSt L G n) hg hj ht hgd hdl ?_⟩
          grind [X9,SSt,X6v]
         ·split at h
          ·rename_i hpu;split at h
           ·rename_i hok;rw[X71,Xda,Xca] at h;obtain⟨h1,h2⟩:=ih _ _ _ _ _ _ _ _ _ _ _ _ _ _ h hp;obtain⟨p1,p2⟩:=X92 h1;refine⟨p2,λk=>X2m.quiet (s:=SSt L G n) hg hj ht hgd hdl (okLt hok) (λhb=>Xwo hT hpu (Xk5 p1 hb)) ?_⟩
            grind [X9,SSt,X6v]
           ·cases h
          grind
        ·cases h
       ·cases h
      ·cases h
    ·cases h
theorem X9.round {P:Program} {nt n0:Nat} {μ:Mu} {Q:Xp->St->Mu->Prop} {b:Code} {K:List Kn} {s:St} (h:X9 P nt n0 Q (.code b) (.loop b::K) s μ):X9 P nt n0 Q (.loop b) K s μ:=X6b.round h
theorem Xcu {P:Program} {T:Ty} {nt n0:Nat} {μ:Mu} {Q:Xp->St->Mu->Prop} {cf cf':Cf} {K K':List Kn} {L L':List (Nat×AV)} {G G':List (Nat×Obj)} {n n':Nat} {hs':List X4d} {ps':List Prop} (hT:X7a P T/\P.follows .mixedOrders=true) (f:Nat) (hs:List X4d)
  (h:Xb6 P T nt f cf K L G n hs []=some (cf',K',L',G',n',hs',ps')) (hp':X4u ps') (k:X9 P nt n0 Q cf' K' ⟨fr L',hp G',n'⟩ μ):X9 P nt n0 Q cf K ⟨fr L,hp G,n⟩ μ :=
 (X061 hT.1 hT.2 f cf K L G n hs [] cf' K' L' G' n' hs' ps' h hp').2 k
end Go.Av


namespace Go.Av
variable [Gls]
def argL:Nat->List AV->List (Nat×AV)
 |_,[]=>[]
 |i,a::r=>(i,a)::argL (i+1) r
theorem Xzb:∀ (as:List AV) (i t:Nat),fr (argL i as) t=if i<=t then (match as[t - i]? with|some a=>a|none=>.junk) else .junk:=by
 intro as
 induction as with
 |nil=>intro i t;simp[argL,fr]
 |cons a r ih =>
  intro i t;simp only[argL,fr];by_cases ht:t=i
  ·simp_all
  ·have hb:Nat.beq t i=false:=by rw[<-Bool.not_eq_true,Nat.beq_eq];exact ht
   grind
section
variable {P:Program} {nt n0:Nat} {s:St} {μ:Mu}
theorem X38.turn {c0 c:Ctx} {H0:Xz} {act:Act} {b:Nat} (o:Go.Obj) (g:X38 nt c0 H0 n0 c s act) (h1:¬ c.Sa b) (h2:¬ c.So b) (h3:∀ o x,s.H o=some x->(c.ρ o).blk≠b) (h4:NewB c0 H0 b) :
  X38 nt c0 H0 n0 { c with w:=c.w.putObj b o } s act/\c.Le (λ_=>True) { c with w:=c.w.putObj b o }:=by
 have hother:∀ k,k≠b->(c.w.putObj b o).heap[k]?=c.w.heap[k]?:=λk hk=>World.putObj_heap_other hk;have hle:c.Le (λ_=>True) { c with w:=c.w.putObj b o } :=
  ⟨λ_ _=>rfl,λ_ h=>h,λ_ h=>h,λk hk=>hother k (λe=>by grind),rfl⟩
 have all:∀ {a:AV} {M:Nat->Prop},a.Ok M->a.Ok (λ_=>True):=λh=>h.mono λ_ _=>trivial;have r:=g.reach;refine⟨⟨⟨λq x hx=>?_,g.inv.sep,g.inv.stab,λk hk=>?_,?_,g.inv.own,g.inv.low,g.inv.glob.mono hle⟩,g.solo,λt=>(g.frame t).mono hle (.inr (all (g.ok t))),g.ok,g.size,
  ⟨r.rho,r.os,r.tape,r.output,?_,λk hk hn=>?_,λk hk=>?_,r.sa,r.so1,r.so2,r.B,r.own⟩,g.le0⟩,hle⟩
 ·obtain⟨i1,⟨⟨cur,hb,hs,hc⟩,i3,i4,i5⟩,i6⟩:=g.inv.obj q x hx;refine⟨i1,⟨⟨cur,(hother _ (h3 q x hx)).trans hb,hs,λi e he=>?_⟩,i3,i4,i5⟩,i6⟩;obtain⟨g1,g2⟩:=hc i e he;exact⟨g1,λk a ha=>by obtain⟨v,hv,hr,h7⟩:=g2 k a ha;exact⟨v,hv,hr.mono hle (.inr (all (i6 e (List.mem_of_getElem? he) a (List.mem_of_getElem? ha)))),h7⟩⟩
 ·show k<(c.w.putObj b o).heap.size;rw[World.putObj_size];exact g.inv.lt k hk
 ·show c.B<=(c.w.putObj b o).heap.size;rw[World.putObj_size];exact g.inv.base
 ·show c0.w.heap.size<=(c.w.putObj b o).heap.size;rw[World.putObj_size];exact r.size
 ·exact(hother k (λe=>by subst e;exact(h4.no hk hn).elim)).trans (r.block k hk hn)
 ·refine(hother k (λe=>?_)).trans (r.stable k hk);subst e;exact hk.elim (λh=>h1 (by rw[r.sa];exact h)) (λh=>h2 (r.so1 _ h))
theorem X0b2 {fn:Func} {Rr:Ending->World->Prop} {c0:Ctx} {H0:Xz} {act:Act}:∀ (μ:Mu) (c:Ctx),X38 nt c0 H0 n0 c s act->(∀ p∈μ,MuIs n0 c p.1 p.2) ->
  (∀ p∈μ,¬ c.Sa p.1/\¬ c.So p.1/\(∀ o x,s.H o=some x->(c.ρ o).blk≠p.1)/\NewB c0 H0 p.1)->(μ.map (·.1)).Nodup ->
  (∀ c',X38 nt c0 H0 n0 c' s act->∃ v,(results fn act.tmps).run P c'.w=.ok v c'.w/\Rr (.returned v) c'.w)->LeavesInM (FR none) 0 P fn act.tmps Rr (dsOf μ) .returning c.w:=by
 intro μ
 induction μ with
 |nil =>
  intro c g _ _ _ hk;obtain⟨v,h1,h2⟩:=hk c g;exact⟨v,h1,h2⟩
 |cons p μ ih =>
  intro c g hi ha hn hk;obtain⟨D,x⟩:=p;have hi':∀ p∈μ,MuIs n0 c p.1 p.2:=λp hp=>hi p (List.mem_cons_of_mem _ hp);have ha':=λp hp=>ha p (List.mem_cons_of_mem _ hp);simp only[List.map_cons,List.nodup_cons] at hn
  cases x with
  |map l=>exact ih c g hi' ha' hn.2 hk
  |blk o=>exact ih c g hi' ha' hn.2 hk
  |loop r nt m A=>exact ih c g hi' ha' hn.2 hk
  |mark =>
   obtain⟨a1,a2,a3,a4⟩:=ha _ List.mem_cons_self;obtain⟨g2,hle⟩:=g.turn (.deferred none) a1 a2 a3 a4;have hd:c.w.heap[D]?=some (.deferred (some [])):=hi _ List.mem_cons_self;refine⟨by simp,.inl ⟨D,_,rfl,run_takeDeferred hd,?_⟩⟩;refine ih { c with w:=c.w.putObj D (.deferred none) } g2 (λp hp=>?_) ha' hn.2 hk;exact(hi' p hp).le (World.putObj_heap_other (λe=>hn.1 (e▸List.mem_map.2 ⟨p,hp,rfl⟩))) (hle.weaken λ_ _=>trivial)
end
section
variable {P:Program} {T:Ty}
theorem Xcq {f:Nat} {fn:Func} {code:Code} (hfn:Xmg P f fn code) {nt n0:Nat} {s:St} {Q:Xp->St->Mu->Prop} {c:Ctx} {vs:Array Value} {Rr:Ending->World->Prop}
  (g:X38 nt c s.H n0 c s { tmps:=vs++Array.replicate (fn.ntmps - vs.size) undef,defers:=[] }) (h:X2i P nt n0 code Q s [])
  (hQ:∀ e s' μ,Q e s' μ->(∀ id,e≠.exit id)/\∀ c' act',X38 nt c s.H n0 c' s' act'->∃ v,(results fn act'.tmps).run P c'.w=.ok v c'.w/\Rr (.returned v) c'.w):Calls P f vs c.w Rr:=by
 refine(callsIn_wide (n:=0)).1 (callsIn_of_wp_marks hfn.here hfn.body trivial ?_);refine wpIn_mono (h c s.H c _ g (.nil rfl) none .none) ?_;rintro e a w ⟨c',s',ae,μ',rfl,g',hm',rfl,hq⟩;obtain⟨hx,hq⟩:=hQ ae s' μ' hq;have fin:LeavesInM Fence.wide 0 P fn a.tmps Rr a.defers .returning c'.w:=by
  rw[hm'.ds];exact X0b2 μ' c' g' hm'.is hm'.away hm'.nodup λc2 g2=>hq c2 a g2
 cases ae with
 |exit id=>grind
 |normal=>exact fin
 |ret=>exact fin
def retM (T:Ty) (fn:Func) (K:AV->Xz->Nat->Prop):Xp->St->Mu->Prop:=λe s _=>retQ T fn K e s
theorem X38.argL {nt n0:Nat} {c0 c:Ctx} {H0 H:Xz} {n:Nat} {as:List AV} {act:Act} (g:X38 nt c0 H0 n0 c ⟨Xjl as,H,n⟩ act):X38 nt c0 H0 n0 c ⟨fr (Av.argL 0 as),H,n⟩ act:=by
 refine⟨g.inv,g.solo,λt=>?_,λt=>?_,g.size,g.reach,g.le0⟩
 ·show X0m c false (fr (Av.argL 0 as) t) _;rw[Xzb];simp only[Nat.zero_le,if_true,Nat.sub_zero];have:=g.frame t;simp only[Xjl] at this
  cases hq:as[t]? with
  |none=>exact .junk
  |some a=>grind
 ·show(fr (Av.argL 0 as) t).Ok (·<n);rw[Xzb];simp only[Nat.zero_le,if_true,Nat.sub_zero];have:=g.ok t;simp only[Xjl] at this
  cases hq:as[t]? with
  |none=>exact .junk
  |some a=>grind
theorem HC.of_bodyM (hT:X7a P T) {f:Nat} {fn:Func} {code:Code} (hfn:Xmg P f fn code) {as:List AV} {H:Xz} {n nt:Nat} {K:AV->Xz->Nat->Prop} (hnt:fn.ntmps=nt)
  (hle:as.length<=nt) (h:X2i P nt n code (retM T fn K) ⟨fr (argL 0 as),H,n⟩ []):HC P f as H n K:=by
 refine⟨⟨fn,code,hfn⟩,λc vs hI hs hv ho=>?_⟩;have g:X38 nt c H n c ⟨Xjl as,H,n⟩ { tmps:=vs++Array.replicate (fn.ntmps - vs.size) undef,defers:=[] }:=by
  refine⟨hI,hs,λt=>Xbl hv _ t,λt=>Xll ho t,?_,.refl c H n,Nat.le_refl _⟩;have:=hv.len
  grind
 refine Xcq hfn g.argL h ?_;intro e s' μ hq;have fin:(∃ rs,Xfo T s' fn.results.toList rs/\K (Xei rs) s'.H s'.n)->∀ c' act',X38 nt c H n c' s' act'->∃ v,(results fn act'.tmps).run P c'.w=.ok v c'.w/\∃ v' r H' n' c2,K r H' n'/\Ending.returned v=.returned v'/\c2.w=c'.w/\c.Le (·<n) c2/\c2.Sa=c.Sa/\(∀ b,c2.So b->c.So b\/c.w.heap.size<=b\/∃ o x,H o=some x/\(c.ρ o).blk=b) /\
   Fr c H c'.w/\Xaf c H c2 H'/\Inv c2 H' (·<n')/\(∀ o x,H' o=some x->x.solo=true/\x.spent=false)/\n<=n'/\X0m c2 false r v'/\r.Ok (·<n'):=by
  rintro⟨rs,hrs,hk⟩ c' act' g';obtain⟨v,h1,h2,h3⟩:=Xwl hT g' hrs;exact⟨v,h1,v,_,s'.H,s'.n,c',hk,rfl,rfl,g'.reach.le,g'.reach.sa,g'.reach.so2,g'.reach.fr,g'.reach.own,g'.inv,g'.solo,g'.le0,h2,h3⟩
 cases e with
 |exit id=>exact hq.elim
 |normal=>exact⟨(λ_ h=>by cases h),fin hq⟩
 |ret=>exact⟨(λ_ h=>by cases h),fin hq⟩
def Xwr (T:Ty) (fn:Func) (r:AV):Xp->St->Mu->Prop:=λe s _=>X0e2 T fn r e s
theorem X8t.of_bodyM (hT:X7a P T) {f:Nat} {fn:Func} {code:Code} (hfn:Xmg P f fn code) {as:List AV} {nt:Nat} {r:AV} (hnt:fn.ntmps=nt)
  (hle:as.length<=nt) (h:X2i P nt 0 code (Xwr T fn r) ⟨fr (argL 0 as),λ_=>none,0⟩ []):X8t P f as r:=by
 refine⟨⟨fn,code,hfn⟩,λw S vs hS hG hv=>?_⟩;let c:Ctx:=⟨w,pl0,S,λ_=>False,w.heap.size⟩
 have hI:Inv c (λ_=>none) (·<0) :=
  ⟨λo x h=>(by cases h),λo o' x x' h=>(by cases h),λo x h=>(by cases h),λb hb=>hb.elim (hS b) False.elim,Nat.le_refl _,λb hb=>hb.elim,λo x h=>(by cases h),hG⟩
 have g:X38 nt c (λ_=>none) 0 c ⟨Xjl as,λ_=>none,0⟩ { tmps:=vs++Array.replicate (fn.ntmps - vs.size) undef,defers:=[] }:=by
  refine⟨hI,λo x h=>(by cases h),λt=>Xbl hv _ t,λt=>Xll (λa ha=>?_) t,?_,.refl c _ 0,Nat.le_refl _⟩
  ·obtain⟨i,hi⟩:=List.getElem?_of_mem ha;have:i<vs.size:=by rw[<-hv.len];grind
   exact(hv.rel i a _ hi (Array.getElem?_eq_getElem this)).okDeep
  ·have:=hv.len
   grind
 refine Xcq (c:=c) hfn g.argL h ?_;intro e s' μ hq;have fin:(∃ rs,Xfo T s' fn.results.toList rs/\Cv true s'.H (Xei rs) r)->∀ c' act',X38 nt c (λ_=>none) 0 c' s' act' ->
   ∃ v,(results fn act'.tmps).run P c'.w=.ok v c'.w/\∃ u,Ending.returned v=.returned u/\X0m ⟨c'.w,pl0,S,λb=>w.heap.size<=b/\b<c'.w.heap.size,w.heap.size⟩ true r u/\X04q w.heap.size w c'.w:=by
  rintro⟨rs,hrs,hk⟩ c' a g';obtain⟨v,h1,h2,h3⟩:=Xwl hT g' hrs;have hr:=g'.reach;have hB:c'.B=w.heap.size:=hr.B;refine⟨v,h1,v,rfl,?_,⟨⟨hr.os,hr.tape,hr.output.1,hr.size,λk hk=>hr.block k hk (λo x hx=>(by cases hx))⟩,hr.output.2⟩⟩;refine Xyx g'.inv (c':=⟨c'.w,pl0,S,λb=>w.heap.size<=b/\b<c'.w.heap.size,w.heap.size⟩) rfl (λb hb=>?_) (λ_ b hb=>?_) (λo x hx=>?_) hk h2
  ·rcases hb with hb|hb
   ·exact .inl ⟨rfl,by rw[<-hr.sa];exact hb⟩
   ·exact .inr ⟨by rw[<-hB];exact g'.inv.own b hb,g'.inv.lt b (.inr hb)⟩
  ·exact⟨by rw[<-hB];exact g'.inv.own b hb,g'.inv.lt b (.inr hb)⟩
  ·obtain⟨_,⟨⟨cur,hcb,_⟩,_⟩,_⟩:=g'.inv.obj o x hx;exact .inr ⟨by rw[<-hB];exact g'.inv.low o x hx,(Array.getElem?_eq_some_iff.1 hcb).1⟩
 cases e with
 |exit id=>exact hq.elim
 |normal=>exact⟨(λ_ h=>by cases h),fin hq⟩
 |ret=>exact⟨(λ_ h=>by cases h),fin hq⟩
end
section
variable {P:Program} {nt n0:Nat} {s:St} {μ:Mu}
theorem X38.weak' {c0 c:Ctx} {H0:Xz} {s s':St} {act:Act} {θ:Nat->Nat} (g:X38 nt c0 H0 n0 c s act) (hw:Xtx θ n0 s s') :
  ∃ c',c'={ c with ρ:=λo=>c.ρ (θ o) }/\X38 nt c0 H0 n0 c' s' act:=⟨{ c with ρ:=λo=>c.ρ (θ o) },rfl,g.weakBy hw⟩
theorem X38.weakM {c0 c:Ctx} {H0:Xz} {s s':St} {act:Act} (g:X38 nt c0 H0 n0 c s act) (hm:MOk n0 c0 H0 c s.H μ act) (hw:Weak n0 s s') :
  ∃ c',c'.w=c.w/\X38 nt c0 H0 n0 c' s' act/\MOk n0 c0 H0 c' s'.H μ act:=by
 obtain⟨θ,hw⟩:=hw;obtain⟨c',h2,h3⟩:=g.weak' hw;exact⟨c',by rw[h2],h3,hm.weak hw h2⟩
theorem X2i.weak {code:Code} {Q:Xp->St->Mu->Prop} {s':St} (hw:Weak n0 s s') (h:X2i P nt n0 code Q s' μ):X2i P nt n0 code Q s μ:=by
 intro c0 H0 c act g hm R hR;obtain⟨c',hc,g',hm'⟩:=g.weakM hm hw;have:=h c0 H0 c' act g' hm' R hR
 grind
theorem X2m.weak {ops:Array Oper} {l:List Oper} {K:St->Mu->Prop} {s':St} (hw:Weak n0 s s') (h:X2m P nt n0 ops l K s' μ):X2m P nt n0 ops l K s μ:=by
 intro c0 H0 c act g hm Qx hQ R hR;obtain⟨c',hc,g',hm'⟩:=g.weakM hm hw;have:=h c0 H0 c' act g' hm' Qx hQ R hR
 grind
end
def thL:List (Nat×Nat)->Nat->Nat
 |[],o=>o
 |(a,b)::r,o=>bif Nat.beq o a then b else thL r o
def wkL (L:List (Nat×AV)) (θ:List (Nat×Nat)) (n:Nat):List (Nat×AV)->Prop
 |[]=>True
 |(t,a)::r=>fr L t=a.ren (thL θ)/\a.Ok (·<n)/\wkL L θ n r
def wkG1:Bool->Prop->Prop
 |true,_=>True
 |false,p=>p
def wkG (G:List (Nat×Obj)) (θ:List (Nat×Nat)) (n:Nat):List (Nat×Obj)->Prop
 |[]=>True
 |(o,x)::r=>wkG1 x.gone (∃ y,hp G (thL θ o)=some y/\y.esz=x.esz/\y.es=x.es.map (AV.ren (thL θ)))/\o<n/\(∀ e∈x.es,∀ a∈e.cells,a.Ok (·<n))/\x.solo=true/\x.spent=false/\wkG G θ n r
theorem Xvw {L:List (Nat×AV)} {θ:List (Nat×Nat)} {n:Nat}:∀ {L':List (Nat×AV)},wkL L θ n L'->∀ t,(fr L' t=.junk\/fr L t=(fr L' t).ren (thL θ))/\(fr L' t).Ok (·<n):=by
 intro L'
 induction L' with
 |nil=>intro _ t;exact⟨.inl rfl,.junk⟩
 |cons p r ih =>
  obtain⟨d,a⟩:=p;rintro⟨h1,h2,h3⟩ t;by_cases ht:t=d
  ·grind [fr]
  ·have:fr ((d,a)::r) t=fr r t:=by
    have hb:Nat.beq t d=false:=by rw[<-Bool.not_eq_true,Nat.beq_eq];exact ht
    simp[fr,hb]
   grind
theorem Xvx {G:List (Nat×Obj)} {θ:List (Nat×Nat)} {n:Nat}:∀ {G':List (Nat×Obj)},wkG G θ n G'->∀ o x,hp G' o=some x ->
  (∃ y,hp G (thL θ o)=some y/\y.esz=x.esz/\y.es=x.es.map (AV.ren (thL θ)))/\o<n/\(∀ e∈x.es,∀ a∈e.cells,a.Ok (·<n))/\x.solo=true/\x.spent=false:=by
 intro G'
 induction G' with
 |nil=>intro _ o x h;cases h
 |cons p r ih =>
  obtain⟨d,y⟩:=p;rintro⟨h1,h2,h3,h4,h5,h6⟩ o x hx;by_cases ho:o=d
  ·subst ho;have hg:=Xhj hx;simp only[hp,Nat.beq_refl,cond_true] at hx
   cases hy:y.gone with
   |true=>grind
   |false =>
    rw[hy] at hx;cases hx;rw[hg] at h1;trivial
  ·have:hp ((d,y)::r) o=hp r o:=by
    have hb:Nat.beq o d=false:=by rw[<-Bool.not_eq_true,Nat.beq_eq];exact ho
    simp[hp,hb]
   grind
theorem X045 {G:List (Nat×Obj)} {o:Nat} (h:hp G o≠none):o∈G.map (·.1):=by
 induction G with
 |nil=>trivial
 |cons p r ih =>
  obtain⟨d,y⟩:=p;by_cases ho:o=d
  ·grind
  ·have:hp ((d,y)::r) o=hp r o:=by
    have hb:Nat.beq o d=false:=by rw[<-Bool.not_eq_true,Nat.beq_eq];exact ho
    simp[hp,hb]
   grind
def injB (θ:List (Nat×Nat)):List Nat->Bool
 |[]=>true
 |o::r=>r.all (λq=>Nat.beq o q||!Nat.beq (thL θ o) (thL θ q))&&injB θ r
theorem X07f {θ:List (Nat×Nat)}:∀ {l:List Nat},injB θ l=true->∀ o∈l,∀ q∈l,thL θ o=thL θ q->o=q:=by
 intro l
 induction l with
 |nil=>grind
 |cons a r ih =>
  intro h o ho q hq he;simp only[injB,Bool.and_eq_true,List.all_eq_true,Bool.or_eq_true,Nat.beq_eq,Bool.not_eq_true'] at h
  grind [thL,Nat.beq_refl]
def fixB (θ:List (Nat×Nat)) (n0:Nat):Bool:=θ.all λp=>Nat.ble n0 p.1||Nat.beq p.1 p.2
theorem X07p {n0:Nat}:∀ {θ:List (Nat×Nat)},fixB θ n0=true->∀ o,o<n0->thL θ o=o:=by
 intro θ
 induction θ with
 |nil=>intro _ o _;rfl
 |cons p r ih =>
  obtain⟨a,b⟩:=p;intro h o ho;simp only[fixB,List.all_cons,Bool.and_eq_true,Bool.or_eq_true,Nat.ble_eq,Nat.beq_eq] at h;simp only[thL]
  cases hb:Nat.beq o a with
  |true =>
   have:o=a:=Nat.eq_of_beq_eq_true hb
   grind
  |false=>simp only[cond_false];exact ih h.2 o ho
theorem X04z {L L':List (Nat×AV)} {G G':List (Nat×Obj)} {n n' n0:Nat} (θ:List (Nat×Nat)) (hb:(fixB θ n0&&injB θ (G'.map (·.1))&&Nat.ble n0 n')=true) (hL:wkL L θ n' L') (hG:wkG G θ n' G') :
  Weak n0 ⟨fr L,hp G,n⟩ ⟨fr L',hp G',n'⟩:=by
 simp only[Bool.and_eq_true,Nat.ble_eq] at hb;obtain⟨⟨h1,h2⟩,h3⟩:=hb;refine⟨thL θ,X07p h1,λt=>(Xvw hL t).1,λo x hx=>?_,λo q ho hq he=>X07f h2 o (X045 ho) q (X045 hq) he,λt=>(Xvw hL t).2,λo x hx=>?_,h3⟩
 ·obtain⟨⟨y,g1,g2,g3⟩,_⟩:=Xvx hG o x hx
  grind
 ·obtain⟨_,g1,g2,g3,g4⟩:=Xvx hG o x hx
  grind
theorem Xd2.weak {P:Program} {nt n0:Nat} {Q:Xp->St->Mu->Prop} {μ:Mu} {s s':St} (hw:Weak n0 s s'):∀ (K:List Kn) (e:Xp),Xd2 P nt n0 Q K e s' μ->Xd2 P nt n0 Q K e s μ:=by
 have hloop:∀ {b:Code} {Q':Xp->St->Mu->Prop},X6b P nt n0 b Q' s' μ->X6b P nt n0 b Q' s μ:=by
  intro b Q' h c0 H0 c act g hm R hR;obtain⟨c',hc,g',hm'⟩:=g.weakM hm hw;have:=h c0 H0 c' act g' hm' R hR
  grind
 intro K
 induction K with
 |nil =>
  intro e h c0 H0 c act g hm;obtain⟨c',hc,g',hm'⟩:=g.weakM hm hw;obtain⟨c2,s2,h1,h2,h3,h4⟩:=h c0 H0 c' act g' hm'
  grind
 |cons k K ih =>
  intro e h
  cases k with
  |seq c =>
   cases e with
   |normal=>exact X2i.weak hw h
   |exit i=>exact ih _ h
   |ret=>exact ih _ h
  |block id =>
   cases e with
   |normal=>exact ih _ h
   |ret=>exact ih _ h
   |exit i =>
    have h':X8v id (Xd2 P nt n0 Q K) (.exit i) s' μ:=h;show X8v id (Xd2 P nt n0 Q K) (.exit i) s μ;simp only[X8v] at h' ⊢
    grind
  |loop b =>
   cases e with
   |normal=>exact hloop h
   |exit i=>exact ih _ h
   |ret=>exact ih _ h
theorem X9.weak {P:Program} {nt n0:Nat} {Q:Xp->St->Mu->Prop} {cf:Cf} {K:List Kn} {μ:Mu} {s s':St} (hw:Weak n0 s s') (h:X9 P nt n0 Q cf K s' μ):X9 P nt n0 Q cf K s μ:=by
 cases cf with
 |code c=>exact X2i.weak hw h
 |exit e=>exact Xd2.weak hw K e h
 |ops ops l=>exact X2m.weak hw h
 |loop b =>
  intro c0 H0 c act g hm R hR;obtain⟨c',hc,g',hm'⟩:=g.weakM hm hw;have:=h c0 H0 c' act g' hm' R hR
  grind
theorem Xd2.collapse {P:Program} {nt n0:Nat} {Q:Xp->St->Mu->Prop}:∀ (K:List Kn) (e:Xp) (s:St) (μ:Mu),Cl nt n0 (Xd2 P nt n0 Q K) e s μ->Xd2 P nt n0 Q K e s μ:=by
 intro K
 induction K with
 |nil =>
  intro e s μ h c0 H0 c act g hm;obtain⟨c1,s1,h1,h2,h3,h4⟩:=h c0 H0 c act g hm;obtain⟨c2,s2,k1,k2,k3,k4⟩:=h4 c0 H0 c1 act h2 h3
  grind
 |cons k K ih =>
  intro e s μ h
  cases k with
  |seq c =>
   cases e with
   |normal =>
    intro c0 H0 cx act g hm;obtain⟨c1,s1,h1,h2,h3,h4⟩:=h c0 H0 cx act g hm;rw[<-h1];exact h4 c0 H0 c1 act h2 h3
   |exit i=>exact ih (.exit i) s μ h
   |ret=>exact ih .ret s μ h
  |block id =>
   cases e with
   |normal=>exact ih .normal s μ h
   |ret=>exact ih .ret s μ h
   |exit i =>
    show X8v id (Xd2 P nt n0 Q K) (.exit i) s μ;have h':∀ (c0:Ctx) (H0:Xz) (c:Ctx) (act:Act),X38 nt c0 H0 n0 c s act->MOk n0 c0 H0 c s.H μ act->∃ c' s',c'.w=c.w/\X38 nt c0 H0 n0 c' s' act/\MOk n0 c0 H0 c' s'.H μ act/\X8v id (Xd2 P nt n0 Q K) (.exit i) s' μ:=h;simp only[X8v] at h' ⊢
    cases hb:Nat.beq i id with
    |true=>simp only[hb,cond_true] at h' ⊢;exact ih .normal s μ h'
    |false=>simp only[hb,cond_false] at h' ⊢;exact ih (.exit i) s μ h'
  |loop b =>
   cases e with
   |normal =>
    intro c0 H0 cx act g hm;obtain⟨c1,s1,h1,h2,h3,h4⟩:=h c0 H0 cx act g hm;rw[<-h1];exact h4 c0 H0 c1 act h2 h3
   |exit i=>exact ih (.exit i) s μ h
   |ret=>exact ih .ret s μ h
theorem MQ.ofCl {nt n0:Nat} {Q:Xp->St->Mu->Prop} {c0:Ctx} {H0:Xz}:∀ e a w,MQ nt c0 H0 n0 (Cl nt n0 Q) e a w->MQ nt c0 H0 n0 Q e a w:=by
 rintro e a w ⟨c',s',ae,μ',rfl,g',hm',rfl,hq⟩;obtain⟨c2,s2,h1,h2,h3,h4⟩:=hq c0 H0 c' a g' hm';exact⟨c2,s2,ae,μ',h1,h2,h3,rfl,h4⟩
theorem X9.weakTo {P:Program} {nt n0:Nat} {Q:Xp->St->Mu->Prop} {cf:Cf} {K:List Kn} {μ:Mu} {L L':List (Nat×AV)} {G G':List (Nat×Obj)} {n n':Nat} (θ:List (Nat×Nat)) (h:X9 P nt n0 Q cf K ⟨fr L',hp G',n'⟩ μ)
  (hb:(fixB θ n0&&injB θ (G'.map (·.1))&&Nat.ble n0 n')=true) (hL:wkL L θ n' L') (hG:wkG G θ n' G'):X9 P nt n0 Q cf K ⟨fr L,hp G,n⟩ μ:=X9.weak (X04z θ hb hL hG) h
theorem X9.cut {P:Program} {nt n0:Nat} {Q:Xp->St->Mu->Prop} {cf:Cf} {K:List Kn} {μ:Mu} {s:St} (h:X9 P nt n0 (Xd2 P nt n0 Q K) cf [] s μ):X9 P nt n0 Q cf K s μ:=by
 cases cf with
 |code c=>exact X2i.ofCl h
 |exit e=>exact Xd2.collapse K e s μ h
 |ops ops l =>
  intro c0 H0 c act g hm Qx hQ;refine h c0 H0 c act g hm Qx λc' s' act' μ' g' hm' hk=>?_;exact hQ c' s' act' μ' g' hm' (Xd2.collapse K .normal s' μ' hk)
 |loop b =>
  intro c0 H0 c act g hm R hR bb k cs hro;obtain⟨e,a',w',hq,harr⟩:=h c0 H0 c act g hm R hR bb k cs hro;exact⟨e,a',w',MQ.ofCl e a' w' hq,harr⟩
theorem X9.glue {P:Program} {nt n0:Nat} {Q:Xp->St->Mu->Prop} {e:Xp} {K:List Kn} {μ:Mu} {s:St} (h:X9 P nt n0 Q (.exit e) K s μ):X9 P nt n0 (Xd2 P nt n0 Q K) (.exit e) [] s μ:=Cl.mk h
theorem X9.done {P:Program} {nt n0:Nat} {Q:Xp->St->Mu->Prop} {e:Xp} {μ:Mu} {s:St} (h:Q e s μ):X9 P nt n0 Q (.exit e) [] s μ:=Cl.mk h
def Xb0:Code->List Code
 |.loop b=>b::Xb0 b
 |.seq a b=>Xb0 a++Xb0 b
 |.block _ c=>Xb0 c
 |.scope c=>Xb0 c
 |.cond _ a b=>Xb0 a++Xb0 b
 |.rangeFunc _ _ a b=>Xb0 a++Xb0 b
 |_=>[]
def X3l (i:Nat) (c:Code):Code:=((Xb0 c)[i]?).getD .skip
theorem X8t.sym {P:Program} {T:Ty} (hT:X7a P T) {f:Nat} {fn:Func} {code:Code} (hfn:Xmg P f fn code) {as:List AV} {nt:Nat} {r:AV} (hnt:fn.ntmps=nt)
  (hle:Nat.ble as.length nt=true) (h:X9 P nt 0 (Xwr T fn r) (.code code) [] ⟨fr (argL 0 as),hp [],0⟩ []) (hok:∀ a∈as,a.Ok (·<0)):X8t P f as r:=by
 exact X8t.of_bodyM hT hfn hnt (by simp_all) (X2i.ofCl h)
def Xzn (T:Ty) (L:List (Nat×AV)) (G:List (Nat×Obj)):List ResultVar->Option (List AV)
 |[]=>some []
 |.tmp t::l=>match fr L t with
  |.cond _ _=>none
  |a=>Xdl a λa=>match Xzn T L G l with
   |some r=>some (a::r)
   |none=>none
 |.cell p t::l=>match T t with
  |some ti=>match fr L p with
   |.ptr o i k=>match hp G o with
    |some y=>match y.es[i]? with
     |some e=>match Xgf ti e k with
      |some a=>Xdl a λa=>match Xzn T L G l with
       |some r=>some (a::r)
       |none=>none
      |none=>none
     |none=>none
    |none=>none
   |_=>none
  |none=>none
theorem Xrp {T:Ty} {L:List (Nat×AV)} {G:List (Nat×Obj)} {n:Nat}:∀ (l:List ResultVar) (r:List AV),Xzn T L G l=some r->Xfo T ⟨fr L,hp G,n⟩ l r:=by
 intro l
 induction l with
 |nil=>intro r h;simp[Xzn] at h;subst h;exact .nil
 |cons v l ih =>
  intro r h
  cases v with
  |tmp t =>
   simp only[Xzn] at h;split at h
   ·cases h
   ·rename_i a hne;rw[X71] at h;split at h
    ·rename_i hr;cases h
     have:X52 (fr L t)=fr L t:=by
      cases hq:fr L t with
      |cond g v=>grind
      |_=>rfl
     have hres:ResR T ⟨fr L,hp G,n⟩ (.tmp t) (X52 (fr L t)):=.tmp;rw[this] at hres;exact .cons hres (ih _ hr)
    ·cases h
  |cell p t =>
   simp only[Xzn] at h;split at h
   ·rename_i ht;split at h
    ·rename_i hp1;split at h
     ·rename_i hH;split at h
      ·rename_i he;split at h
       ·rename_i hl;rw[X71] at h;split at h
        ·rename_i hr;cases h
         refine .cons (.cell ht (e:=_) (k:=_) ?_ hl) (ih _ hr);show Xqw (hp G) (X52 (fr L p)) _ _;rw[hp1];exact .ptr hH he
        ·cases h
       ·cases h
      ·cases h
     ·cases h
    ·cases h
   ·cases h
theorem X9.inline {P:Program} {T:Ty} {nt n0 nt' f:Nat} {Q:Xp->St->Mu->Prop} {ops:Array Oper} {l:List Oper} {o:Oper} {K:List Kn} {L:List (Nat×AV)} {G:List (Nat×Obj)} {n:Nat} {μ:Mu} {x:Operand} {args:Array Operand} {ts:Array Nat}
  {caps as:List AV} {fn:Func} {code:Code} (hT:X7a P T) (hfn:Xmg P f fn code) (ho:o.op=.call { callee:=.value x,args:=args,argTypes:=ts }) (hg:o.guard=none) (hd:Xen nt o.dst=true) {qx qa:List Prop} (hx:rd L x=(.fn f caps,qx)) (ha:rds L args.toList=(as,qa)) (hpx:X4u qx) (hpa:X4u qa)
  (hnt:fn.ntmps=nt') (hle:Nat.ble (as++caps).length nt'=true)
  (h:X9 P nt' n (retM T fn λr H' n'=>X9 P nt n0 Q (.ops ops l) K ⟨X65 (fr L) o.dst r,H',n'⟩ μ) (.code code) [] ⟨fr (Av.argL 0 (as++caps)),hp G,n⟩ []):X9 P nt n0 Q (.ops ops (o::l)) K ⟨fr L,hp G,n⟩ μ:=by
 refine X2m.plain (s:=⟨fr L,hp G,n⟩) hg (X5n hd) (OpR.call (s:=⟨fr L,hp G,n⟩) ho (X13 hx hpx) ?_) (λa H' n' hr=>hr);rw[Xg9 ha hpa];exact HC.of_bodyM hT hfn hnt (by simp_all) (X2i.ofCl h)
theorem X9.back {P:Program} {T:Ty} {nt n0 nt' n1:Nat} {fn:Func} {Q:Xp->St->Mu->Prop} {ops:Array Oper} {l:List Oper} {d:Option Nat} {K:List Kn} {L L1:List (Nat×AV)} {G:List (Nat×Obj)} {n:Nat} {μ μ1:Mu} {rs:List AV} {e:Xp} (he:∀ id,e≠.exit id)
  (hr:Xzn T L1 G fn.results.toList=some rs) (h:X9 P nt n0 Q (.ops ops l) K ⟨fr (putO d (Xei rs) L),hp G,n⟩ μ) :
  X9 P nt' n1 (retM T fn λr H' n'=>X9 P nt n0 Q (.ops ops l) K ⟨X65 (fr L) d r,H',n'⟩ μ) (.exit e) [] ⟨fr L1,hp G,n⟩ μ1:=by
 refine Cl.mk ?_;have hk:∃ rs,Xfo T ⟨fr L1,hp G,n⟩ fn.results.toList rs/\X9 P nt n0 Q (.ops ops l) K ⟨X65 (fr L) d (Xei rs),hp G,n⟩ μ:=⟨rs,Xrp _ _ hr,by rw[<-X6v];exact h⟩
 cases e with
 |exit id=>grind
 |normal=>exact hk
 |ret=>exact hk
theorem X08x.sym {P:Program} {T:Ty} (hT:X7a P T) {f:Nat} {fn:Func} {code:Code} (hfn:Xmg P f fn code) {as:List AV} {nt:Nat} {r:AV} {G G':List (Nat×Obj)} {n n':Nat} (hnt:fn.ntmps=nt) (hle:Nat.ble as.length nt=true)
  (h:X9 P nt n (retM T fn λr2 H2 n2=>r2=r/\H2=hp G'/\n2=n') (.code code) [] ⟨fr (Av.argL 0 as),hp G,n⟩ []):X08x P f as G n r G' n' :=
 ⟨HC.of_bodyM hT hfn hnt (by simp_all) (X2i.ofCl h)⟩
theorem X9.fin {P:Program} {T:Ty} {nt n0:Nat} {fn:Func} {r:AV} {L:List (Nat×AV)} {G:List (Nat×Obj)} {n:Nat} {μ:Mu} {rs:List AV} {e:Xp} (he:∀ id,e≠.exit id) (hr:Xzn T L G fn.results.toList=some rs) (hc:Xei rs=r) :
  X9 P nt n0 (retM T fn λr2 H2 n2=>r2=r/\H2=hp G/\n2=n) (.exit e) [] ⟨fr L,hp G,n⟩ μ:=by
 refine Cl.mk ?_;have hk:∃ rs,Xfo T ⟨fr L,hp G,n⟩ fn.results.toList rs/\(Xei rs=r/\hp G=hp G/\n=n):=⟨rs,Xrp _ _ hr,hc,rfl,rfl⟩
 cases e with
 |exit id=>grind
 |normal=>exact hk
 |ret=>exact hk
theorem Xs4 {P:Program} {T:Ty} {nt n0:Nat} {fn:Func} {r:AV} {L:List (Nat×AV)} {G:List (Nat×Obj)} {n:Nat} {μ:Mu} {rs:List AV} (hr:Xzn T L G fn.results.toList=some rs) (hc:Cv true (hp G) (Xei rs) r) :
  X9 P nt n0 (Xwr T fn r) (.exit .ret) [] ⟨fr L,hp G,n⟩ μ:=Cl.mk ⟨rs,Xrp _ _ hr,hc⟩
end Go.Av


namespace Go.Av
variable [Gls]
def Xal (e:AV):Prop:=∀ a∈e.cells,∃ v,a=.sc v
theorem X0z {H:Xz} {own:Bool} {es:List AV} (h:∀ e∈es,Xal e):Cv false H (.list own es) (.list false es):=by
 refine .listD rfl rfl (λi e e' he he'=>by rw[he] at he';cases he';rfl) (λi e e' k a b he he' ha hb=>?_);rw[he] at he';cases he';rw[ha] at hb;cases hb;obtain⟨v,rfl⟩:=h e (List.mem_of_getElem? he) a (List.mem_of_getElem? ha);exact .sc
theorem X0ca {m:Bool} {H:Xz} {o n:Nat} {x:Obj} {es:List AV} (hH:H o=some x) (he:x.es=es) (hn:n=es.length) (h:∀ e∈es,Xal e):Cv m H (.ref o 0 n) (.list m es):=by
 subst he hn;refine .ref hH om rfl (λi e e' he he'=>?_) (λi e e' k a b he he' ha hb=>?_)
 ·rw[Nat.zero_add] at he;rw[he] at he';cases he';rfl
 ·rw[Nat.zero_add] at he;rw[he] at he';cases he';rw[ha] at hb;cases hb;obtain⟨v,rfl⟩:=h e (List.mem_of_getElem? he) a (List.mem_of_getElem? ha);exact .sc
theorem Cvs.nil {m:Bool} {H:Xz}:Cvs m H [] []:=⟨rfl,λi a b h=>by simp at h⟩
theorem Cvs.cons {m:Bool} {H:Xz} {a b:AV} {as bs:List AV} (h:Cv m H a b) (hs:Cvs m H as bs):Cvs m H (a::as) (b::bs):=by
 refine⟨by simp[hs.len],λi x y hx hy=>?_⟩
 cases i with
 |zero=>simp at hx hy;subst hx hy;exact h
 |succ i=>simp at hx hy;exact hs.rel i x y hx hy
theorem X3m.none {P:Program} {f:Nat} {H:Xz} {as bs:List AV} {r:AV} (hp:X8t P f bs r) (h:Cvs false (λ_=>none) as bs):X3m P f H as bs r :=
 ⟨hp,λ_=>.none,h,(λ_ _ h=>by cases h),.inr λ_=>rfl⟩
theorem X3m.lent {P:Program} {f:Nat} {H:Xz} {as bs:List AV} {r:AV} (hp:X8t P f bs r) (h:Cvs false H as bs) (hr:Xlm r):X3m P f H as bs r :=
 ⟨hp,H,h,λ_ _ h=>h,.inl hr⟩
theorem X1a {es:List AV} (h:∀ e∈es,Xal e):Xlm (.list true es) :=
 .list λe he a ha=>by obtain⟨v,rfl⟩:=h e he a ha;exact .sc
theorem X00p {z:Int} (h1 : -9223372036854775808<=z) (h2:z<=9223372036854775807):IntKind.i64.wrap z=z:=IntWalk.i64_in z ⟨h1,h2⟩
theorem X0bb {α:Type} {enc:α->AV} {l:List α} {k:Nat} {x:α} (h:l[k]?=some x):(l.map enc)[((k:Nat):Int).toNat]?=some (enc x):=by
 rw[Int.toNat_natCast,List.getElem?_map,h];rfl
def X4c (e:AV):Prop:=∀ θ,e.ren θ=e
theorem X2 {es:List AV} (h:∀ e∈es,X4c e) (θ:Nat->Nat):es=es.map (AV.ren θ):=by
 conv=>lhs;rw[<-List.map_id es]
 exact List.map_congr_left λe he=>(h e he θ).symm
theorem X3d {p:AV->Prop}:∀ e∈([]:List AV),p e:=λ_ h=>by cases h
theorem Xg {p:AV->Prop} {a:AV} {l:List AV} (h:p a) (hl:∀ e∈l,p e):∀ e∈a::l,p e:=λe he=>by
 rcases List.mem_cons.1 he with h1|h1
 ·rw[h1];exact h
 ·exact hl e h1
theorem X7h {v:Value}:Xal (.sc v):=λa ha=>⟨v,List.mem_singleton.1 ha⟩
theorem Xgy {v:Value}:X4c (.sc v):=λ_=>rfl
theorem X0c9 {m:Bool} {H:Xz} {as bs:List AV} (h:Cvs m H as bs):Cv m H (.tup as) (.tup bs):=.tup h.len h.rel
end Go.Av
end
