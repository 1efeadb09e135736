/- Parts of the proof, laid together. -/
import Derived.Test.YtmkegegjcihooaaGreatAva
import Derived.RangeFuncLeaves
import Derived.IntWalk
set_option linter.all false

namespace Go.Av
variable [Gls]
structure Xen (nt:Nat) (c0:Ctx) (H0:X0c) (n0:Nat) (c:Ctx) (A:Nat->AV) (H:X0c) (M:Nat->Prop) (act:Act):Prop where
 inv:Inv c H M
 solo:∀ o x,H o=some x->x.solo=true/\x.spent=false
 frame:∀ t,X0q c false (A t) (act.tmps.getD t undef)
 ok:∀ t,(A t).Ok M
 size:act.tmps.size=nt
 reach:Reach c0 H0 n0 c H
 le0:∀ q,q<n0->M q
inductive X3b where
 |none
 |new (x:Obj)
 |app (old:Nat) (x:Obj)
 |set (o:Nat) (x:Obj)
def X3b.at (id:Nat) (o:Nat):X3b->Option (Option Obj)
 |.none=>.none
 |.new x=>bif Nat.beq o id then some (some x) else .none
 |.app old x=>bif Nat.beq o id then some (some x) else bif Nat.beq o old then some .none else .none
 |.set o' x=>bif Nat.beq o o' then some (some x) else .none
def X3b.objs (id:Nat):X3b->List Nat
 |.none=>[]
 |.new _=>[id]
 |.app old _=>[id,old]
 |.set o _=>[o]
theorem X3b.at_objs {id o:Nat} {e:X3b} (h:o ∉ e.objs id):e.at id o=Option.none:=by
 cases e<;>simp only[X3b.objs,List.mem_cons,List.not_mem_nil,or_false,not_or,not_false_eq_true,X3b.at] at h ⊢
 ·have:Nat.beq o id=false:=by rw[<-Bool.not_eq_true,Nat.beq_eq];exact h
  rw[this];rfl
 ·rename_i old _;have h1:Nat.beq o id=false:=by rw[<-Bool.not_eq_true,Nat.beq_eq];exact h.1
  have h2:Nat.beq o old=false:=by rw[<-Bool.not_eq_true,Nat.beq_eq];exact h.2
  rw[h1,h2];rfl
 ·rename_i q _;have:Nat.beq o q=false:=by rw[<-Bool.not_eq_true,Nat.beq_eq];exact h
  rw[this];rfl
def X3b.go (id:Nat) (e:X3b) (H:X0c):X0c:=λo=>(e.at id o).getD (H o)
theorem X3b.go_none (id:Nat) (H:X0c):X3b.go id .none H=H:=rfl
theorem X3b.go_new (id:Nat) (x:Obj) (H:X0c):X3b.go id (.new x) H=upd H id (some x):=by
 funext o
 simp only[X3b.go,X3b.at];by_cases h:o=id
 ·subst h;rw[Xm];simp
 ·have:Nat.beq o id=false:=by rw[<-Bool.not_eq_true,Nat.beq_eq];exact h
  rw[this,Xl _ _ h];rfl
theorem X3b.go_app (id old:Nat) (x:Obj) (H:X0c):X3b.go id (.app old x) H=upd (upd H old Option.none) id (some x):=by
 funext o
 simp only[X3b.go,X3b.at];by_cases h:o=id
 ·subst h;rw[Xm];simp
 ·have h1:Nat.beq o id=false:=by rw[<-Bool.not_eq_true,Nat.beq_eq];exact h
  rw[h1,Xl _ _ h,cond_false];by_cases h2:o=old
  ·subst h2;rw[Xm];simp
  ·have h3:Nat.beq o old=false:=by rw[<-Bool.not_eq_true,Nat.beq_eq];exact h2
   rw[h3,Xl _ _ h2];rfl
theorem X3b.go_set (id o':Nat) (x:Obj) (H:X0c):X3b.go id (.set o' x) H=upd H o' (some x):=by
 funext o
 simp only[X3b.go,X3b.at];by_cases h:o=o'
 ·subst h;rw[Xm];simp
 ·have:Nat.beq o o'=false:=by rw[<-Bool.not_eq_true,Nat.beq_eq];exact h
  rw[this,Xl _ _ h];rfl
inductive DOp (P:Program) (T:Ty) (A:Nat->AV) (V:X0c) (id:Nat) (o:Oper):AV->X3b->Prop
 |pu {a} (h:Pu T (evA A) V o.op a):DOp P T A V id o a .none
 |zero {a} (h:Mk T (evA A) V id o.op a .none):DOp P T A V id o a .none
 |new {a x} (h:Mk T (evA A) V id o.op a (.new x)) (h1:x.solo=true) (h2:x.spent=false):DOp P T A V id o a (.new x)
 |app {a old x} (h:Mk T (evA A) V id o.op a (.app old x)) (h1:x.solo=true) (h2:x.spent=false):DOp P T A V id o a (.app old x)
 |store {t p x q i k y e ti} (ho:o.op=.store t p x) (hdst:o.dst=none) (hp:evA A p=.ptr q i k) (hH:V q=some y) (he:y.es[i]?=some e) (ht:T t=some ti) (hw:(evA A x).whole=true)
   (hsz:(evA A x).cells.length=ti.size) (hle:k+ti.size<=e.cells.length) (hpos:ti.size≠0):DOp P T A V id o (.sc undef) (.set q { y with es:=y.es.set i (Xco e k (evA A x)) })
 |room {s x g t et n m b ti te xs y} (ho:o.op=.call { callee:=.builtin .append,args:=#[s,x],argTypes:=#[t,t] }) (hs:evA A s=.ref b 0 n) (hg:evA A g=.mref b m) (hH:V b=some y)
   (hn:n<=y.es.length) (hroom:n+xs.length<=m) (hes:y.esz=te.size) (hx:Xrr V (evA A x) xs) (hne:xs≠[]) (ht:T t=some ti) (hk:ti.kind=.slice et) (hte:T et=some te)
   (hsz:∀ e∈xs,e.cells.length=te.size):DOp P T A V id o (.ref b 0 (n+xs.length)) (.set b { y with es:=y.es.take n++xs++y.es.drop (n+xs.length) })
 |pure {x args ts f caps bs r Vr} (ho:o.op=.call { callee:=.value x,args:=args,argTypes:=ts }) (hx:evA A x=.fn f caps)
   (hcv:Cvs false Vr (args.toList.map (evA A)++caps) bs) (hp:X05 P f bs r) (hsub:∀ o x,Vr o=some x->V o=some x) (hr:Xq9 r\/((∀ o,Vr o=none)/\∀ M,r.Ok M)):DOp P T A V id o r .none
 |callNew {x args ts f caps bs q len y} (ho:o.op=.call { callee:=.value x,args:=args,argTypes:=ts }) (hx:evA A x=.fn f caps)
   (hcv:Cvs false (λ_=>none) (args.toList.map (evA A)++caps) bs) (hbs:∀ b∈bs,∀ M,b.Ok M) (hp:HC P f bs (λ_=>none) 0 (λr H' _=>r=.ref q 0 len/\H' q=some y)) (hfree:∀ e∈y.es,∀ a∈e.cells,∀ M,a.Ok M)
   (h1:y.solo=true) (h2:y.spent=false):DOp P T A V id o (.ref id 0 len) (.new y)
 |callNewV {x args ts f caps q len y n V'} (ho:o.op=.call { callee:=.value x,args:=args,argTypes:=ts }) (hx:evA A x=.fn f caps)
   (hV':∀ o x,V' o=some x->V o=some x/\o<n/\∀ e∈x.es,∀ a∈e.cells,a.Ok (λq=>∃ z,V' q=some z)) (has:∀ a∈args.toList.map (evA A)++caps,a.Ok (λq=>∃ z,V' q=some z))
   (hp:HC P f (args.toList.map (evA A)++caps) V' n (λr H' _=>r=.ref q 0 len/\H' q=some y/\n<=q/\∀ o x,V' o=some x->H' o=some x)) (hfree:∀ e∈y.es,∀ a∈e.cells,a.Ok (λq=>∃ z,V' q=some z))
   (h1:y.solo=true) (h2:y.spent=false):DOp P T A V id o (.ref id 0 len) (.new y)
 |callSet {x args ts f caps q len as y y' v} (ho:o.op=.call { callee:=.value x,args:=args,argTypes:=ts }) (hx:evA A x=.fn f caps) (hq:V q=some y)
   (hargs:args.toList.map (evA A)++caps=.ref q 0 len::as) (has:∀ a∈as,∀ M,a.Ok M) (hfree:∀ e∈y.es,∀ a∈e.cells,∀ M,a.Ok M) (hfree':∀ e∈y'.es,∀ a∈e.cells,∀ M,a.Ok M)
   (hp:HC P f (.ref 0 0 len::as) (λp=>bif Nat.beq p 0 then some y else Option.none) 1 (λr H' _=>r=.sc v/\H' 0=some y')) (h1:y'.solo=true) (h2:y'.spent=false):DOp P T A V id o (.sc v) (.set q y')
theorem Xq9.ok {a:AV} (h:Xq9 a) (M:Nat->Prop):a.Ok M:=by
 induction h with
 |sc=>exact .sc
 |nils=>exact .nils
 |agg _ ih=>exact .agg ih
 |tup _ ih=>exact .tup ih
 |listNil=>exact .list
 |list=>exact .list
theorem Xen.next {nt n0:Nat} {c0 c c':Ctx} {H0 H:X0c} {A:Nat->AV} {M M':Nat->Prop} {act:Act} (g:Xen nt c0 H0 n0 c A H M act) {H':X0c} {dst:Option Nat} {a:AV} {v:Value}
  (hd:∀ d,dst=some d->d<nt) (hle:c.Le M c') (hsa:c'.Sa=c.Sa) (hso:∀ b,c'.So b->c.So b\/c.w.heap.size<=b\/∃ o x,H o=some x/\(c.ρ o).blk=b) (hfr:Fr c H c'.w) (hown:Xe3 c H c' H')
  (hI:Inv c' H' M') (hs:∀ o x,H' o=some x->x.solo=true/\x.spent=false) (hn:∀ q,M q->M' q) (hv:X0q c' false a v) (hok:a.Ok M') :
  Xen nt c0 H0 n0 c' (Xfz A dst a) H' M' (act.put dst v):=by
 refine⟨hI,hs,?_,?_,?_,g.reach.step hle (λq hq=>g.le0 q hq) hsa hso hfr hown,λq hq=>hn q (g.le0 q hq)⟩
 ·intro t
  cases dst with
  |none=>exact(g.frame t).mono hle (.inr (g.ok t))
  |some d =>
   simp only[Xfz,Act.put];rw[Xpw (by rw[g.size];exact hd d rfl)];by_cases h:t=d
   ·subst h;rw[if_pos rfl,Xm];exact hv
   ·rw[if_neg h,Xl _ _ h];exact(g.frame t).mono hle (.inr (g.ok t))
 ·intro t
  cases dst with
  |none=>exact(g.ok t).mono hn
  |some d =>
   simp only[Xfz];by_cases h:t=d
   ·subst h;rw[Xm];exact hok
   ·rw[Xl _ _ h];exact(g.ok t).mono hn
 ·cases dst with
  |none=>exact g.size
  |some d=>simpa[Act.put] using g.size
section
variable {nt n0:Nat} {c0 c:Ctx} {H0 H:X0c} {A:Nat->AV} {M:Nat->Prop} {act:Act}
theorem Xen.junk (g:Xen nt c0 H0 n0 c A H M act) {A':Nat->AV} (hA:∀ t,A' t=A t\/A' t=.junk):Xen nt c0 H0 n0 c A' H M act :=
 ⟨g.inv,g.solo,λt=>by rcases hA t with h|h<;>rw[h];exact g.frame t;exact .junk,λt=>by rcases hA t with h|h<;>rw[h];exact g.ok t;exact .junk,g.size,g.reach,g.le0⟩
theorem Xen.ev (g:Xen nt c0 H0 n0 c A H M act) (x:Operand):X0q c false (evA A x) (act.eval x):=by
 cases x with
 |tmp t=>exact Xqj (g.frame t)
 |const v=>exact X9x c false v
 |global k=>exact .sc
 |func f=>exact .fn (λ_=>rfl) (by simp) (λi a v ha _=>by simp at ha)
theorem Xen.evOk (g:Xen nt c0 H0 n0 c A H M act) (x:Operand):(evA A x).Ok M:=by
 cases x with
 |tmp t=>exact Xth (g.ok t)
 |const v=>exact Xba _ v
 |global k=>exact .sc
 |func f=>exact .fn (λa ha=>by simp at ha)
theorem Inv.view (hI:Inv c H M) {V:X0c} (hV:∀ o x,V o=some x->H o=some x):Inv c V M :=
 hI.forget (λo x hx=>⟨x,hV o x hx,rfl,rfl,λh=>h⟩) (λo o' x x' hx hx' hne hb=>by
   have:=hI.sep o o' x x' (hV o x hx) (hV o' x' hx') hne hb;exact⟨this.1,λh=>(this.2 h).1⟩)
theorem Xyl {P:Program} {T:Ty} {o:Oper} {a:AV} {e:Eff} {A':Nat->AV} {V:X0c} {id:Nat} (hT:Xf0 P T) (g:Xen nt c0 H0 n0 c A H M act) (hA:∀ t,A' t=A t\/A' t=.junk)
  (hV:∀ o x,V o=some x->H o=some x) (hid:¬ M id) (h:Mk T (evA A') V id o.op a e) (hx:∀ old x,e=.app old x\/e=.new x->x.solo=true/\x.spent=false) (hd:∀ d,o.dst=some d->d<nt)
  (K:Act->World->Prop) (Q:Exit->Act->World->Prop)
  (hK:∀ c' v,Xen nt c0 H0 n0 c' (Xfz A o.dst a) (e.seq id H) (λq=>M q\/q=id) (act.put o.dst v)->K (act.put o.dst v) c'.w):o.wp P act c.w K Q:=by
 have g':=g.junk hA;obtain⟨v,c',h1,hle,hsa,hso,hv,hok,hI1,hfr,hown⟩:=X09y hT g.inv hV hid g'.ev g'.evOk h;unfold Oper.wp;rw[h1];have key:Inv c' (e.seq id H) (λq=>M q\/q=id)/\(∀ o x,e.seq id H o=some x->x.solo=true/\x.spent=false)/\Xe3 c H c' (e.seq id H):=by
  cases e with
  |none=>exact⟨hI1,g.solo,hown⟩
  |new x =>
   refine⟨hI1,λo y hy=>?_,hown⟩;simp only[Eff.seq] at hy;by_cases ho:o=id
   ·subst ho;rw[Xm] at hy;cases hy;exact hx 0 x (.inr rfl)
   ·rw[Xl _ _ ho] at hy;exact g.solo o y hy
  |app old x =>
   have hxs:=hx old x (.inl rfl);have hcase:∀ o y,(Eff.app old x).seq id H o=some y->(o=id/\y=x)\/(o≠id/\o≠old/\H o=some y):=by
    intro o y hy;simp only[Eff.seq] at hy;by_cases ho:o=id
    ·subst ho;rw[Xm] at hy;cases hy;exact .inl ⟨rfl,rfl⟩
    ·rw[Xl _ _ ho] at hy;by_cases hoo:o=old
     ·subst hoo;rw[Xm] at hy;cases hy
     ·rw[Xl _ _ hoo] at hy;exact .inr ⟨ho,hoo,hy⟩
   have hback:∀ o y,(Eff.app old x).seq id H o=some y->∃ z,(Eff.app old x).apply id H o=some z/\z.es=y.es/\z.esz=y.esz/\(y.spent=false->z.spent=false):=by
    intro o y hy;rcases hcase o y hy with ⟨rfl,rfl⟩|⟨h1,h2,h3⟩
    ·exact⟨_,Xm _ _ _,rfl,rfl,λh=>h⟩
    ·exact⟨y,by simp only[Eff.apply,Xl _ _ h1,Xl _ _ h2];exact h3,rfl,rfl,λh=>h⟩
   have hsep:∀ o o' y y',(Eff.app old x).seq id H o=some y->(Eff.app old x).seq id H o'=some y'->o≠o'->(c'.ρ o).blk≠(c'.ρ o').blk:=by
    intro o o' y y' hy hy' hne hb;obtain⟨z,hz,_,_,hsp⟩:=hback o y hy;obtain⟨z',hz',_,_,hsp'⟩:=hback o' y' hy';have hy0:y.spent=false:=by rcases hcase o y hy with ⟨_,rfl⟩|⟨_,_,h3⟩;exact hxs.2;exact(g.solo o y h3).2
    have hy0':y'.spent=false:=by rcases hcase o' y' hy' with ⟨_,rfl⟩|⟨_,_,h3⟩;exact hxs.2;exact(g.solo o' y' h3).2
    have:=((hI1.sep o o' z z' hz hz' hne hb).2 (hsp hy0)).1;rw[hsp' hy0'] at this;cases this
   refine⟨hI1.forget hback λo o' y y' hy hy' hne hb=>absurd hb (hsep o o' y y' hy hy' hne),λo y hy=>?_,λo y hy=>?_⟩
   ·rcases hcase o y hy with ⟨_,rfl⟩|⟨_,_,h3⟩
    ·exact hxs
    ·exact g.solo o y h3
   ·obtain⟨z,hz,_⟩:=hback o y hy;exact hown o z hz
 exact hK c' v (g.next hd hle hsa (λb hb=>.inl (by rw[hso] at hb;exact hb)) hfr key.2.2 key.1 key.2.1 (λq=>.inl) hv hok)
theorem DOp.step {P:Program} {T:Ty} {o:Oper} {a:AV} {e:X3b} {A':Nat->AV} {V:X0c} {id b:Nat} (hT:Xf0 P T) (g:Xen nt c0 H0 n0 c A H M act) (hM:∀ q,M q->q<b) (hA:∀ t,A' t=A t\/A' t=.junk)
  (hV:∀ o x,V o=some x->H o=some x) (hid:¬ M id) (h:DOp P T A' V id o a e) (hd:∀ d,o.dst=some d->d<nt)
  (K:Act->World->Prop) (Q:Exit->Act->World->Prop)
  (hK:∀ c' v,Xen nt c0 H0 n0 c' (Xfz A o.dst a) (e.go id H) (λq=>M q\/q=id) (act.put o.dst v)->K (act.put o.dst v) c'.w):o.wp P act c.w K Q:=by
 have g':=g.junk hA;have more:∀ {q},M q->M q\/q=id:=λh=>.inl h
 cases h with
 |pu h =>
  obtain⟨v,h1,h2,h3⟩:=X09q hT (g.inv.view hV) g'.ev g'.evOk h;unfold Oper.wp;rw[h1];exact hK c v (g.next hd (.refl c) rfl (λb hb=>.inl hb) (.refl c H) (λq x hx=>.inr ⟨q,x,hx,rfl⟩) (g.inv.more λq h=>.inl h) g.solo (λq=>.inl) h2 (h3.mono λq h=>.inl h))
 |zero h =>
  refine Xyl hT g hA hV hid h (λold x hx=>by rcases hx with hx|hx<;>cases hx) hd K Q λc' v hg=>hK c' v ?_;exact hg
 |@new a x h hs1 hs2 =>
  refine Xyl hT g hA hV hid h (λold y hx=>by rcases hx with hx|hx<;>cases hx;exact⟨hs1,hs2⟩) hd K Q λc' v hg=>hK c' v ?_;rw[X3b.go_new];exact hg
 |@app a old x h hs1 hs2 =>
  refine Xyl hT g hA hV hid h (λold' y hx=>by rcases hx with hx|hx<;>cases hx;exact⟨hs1,hs2⟩) hd K Q λc' v hg=>hK c' v ?_;rw[X3b.go_app];exact hg
 |@store t p x q i k y e ti ho hdst hp hH he ht hw hsz hle hpos =>
  have hst:StR T (evA A') H o.op (upd H q (some { y with es:=y.es.set i (Xco e k (evA A' x)) })):=by
   rw[ho];exact .store hp (hV _ _ hH) (g.solo _ _ (hV _ _ hH)).1 he ht hw hsz hle hpos
  obtain⟨c',h1,hle',hsa,hso,hI,hfr,hown⟩:=X09n hT g.inv g'.ev g'.evOk hst;unfold Oper.wp;rw[h1];have hsolo:=hst.solo g.solo;have:=hK c' undef;rw[hdst,X3b.go_set] at this;show K (act.put o.dst undef) c'.w;rw[hdst];exact this (g.next (dst:=none) (λd h=>by cases h) hle' hsa (λb hb=>.inl (by rw[hso] at hb;exact hb)) hfr hown (hI.more λq h=>.inl h) hsolo (λq=>.inl) (a:=.sc undef) .sc .sc)
 |@room s x gg t et n m b ti te xs y ho hs hg hH hn hroom hes hx hne ht hk hte hsz =>
  have hx':Xrr H (evA A' x) xs:=by
   revert hx;generalize evA A' x=u;intro hx
   cases hx with
   |list=>exact .list
   |nils=>exact .nils
   |ref h1 h2=>exact .ref (hV _ _ h1) h2
  obtain⟨v,c',h1,hle',hsa,hso,hv,hok,hI,hfr,hown⟩:=X06f hT g.inv g'.ev g'.evOk ho hs hg (hV _ _ hH) (g.solo _ _ (hV _ _ hH)).1 hn hroom hes hx' hne ht hk hte hsz;unfold Oper.wp;rw[h1];have hsolo:∀ q z,upd H b (some { y with es:=y.es.take n++xs++y.es.drop (n+xs.length) }) q=some z->z.solo=true/\z.spent=false:=by
   intro q z hz;by_cases hq:q=b
   ·subst hq;rw[Xm] at hz;cases hz;exact g.solo q y (hV _ _ hH)
   ·rw[Xl _ _ hq] at hz;exact g.solo q z hz
  refine hK c' v ?_;rw[X3b.go_set];exact g.next hd hle' hsa (λb hb=>.inl (by rw[hso] at hb;exact hb)) hfr hown (hI.more λq h=>.inl h) hsolo (λq=>.inl) hv (hok.mono λq h=>.inl h)
 |@pure x args ts f caps bs r Vr ho hx hcv hp hsub hr =>
  have hcall:=HC.of_pure (H:=H) (n:=b) hp hcv (λo x h=>hV o x (hsub o x h)) (hr.imp (λh=>h) (·.1));let s:St:=⟨A',H,b⟩
  obtain⟨⟨fn,code,hfn⟩,hc⟩:=hcall;have hfx:=g'.ev x;rw[hx] at hfx;have hfo:=g'.evOk x;rw[hx] at hfo;obtain⟨cv,hcv',hcl,hcr⟩:=hfx.fn_inv;let vs:Array Value:=args.map act.eval++cv
  have hrun:(execOp act.eval o).run P c.w=.ok (.enter f vs) c.w:=by
   simp only[execOp,ho,resolve,hcv',Deferred.ofValue,Sem.run_bind,Sem.run_pure,Result.andThen_ok,invoke,callFunc,run_program,hfn.here,hfn.name,hfn.body,Option.isNone_some,Bool.false_eq_true,if_false,Array.empty_append];rfl
  unfold Oper.wp;rw[hrun,Oper.upon_enter];have hrel:Xgf c false (args.toList.map (evA A')++caps) vs:=by
   refine⟨by simp[vs,hcl],λi a v ha hv=>?_⟩;rw[List.getElem?_append] at ha;simp only[vs,Array.getElem?_append,Array.size_map] at hv;simp only[List.length_map,Array.length_toList] at ha;by_cases hi:i<args.size
   ·rw[if_pos hi] at ha hv;rw[List.getElem?_map] at ha;rw[Array.getElem?_map] at hv
    cases hq:args[i]? with
    |none=>simp[hq] at hv
    |some q =>
     have hq':args.toList[i]?=some q:=by simpa using hq
     simp only[hq',Option.map_some,Option.some.injEq] at ha;simp only[hq,Option.map_some,Option.some.injEq] at hv;subst ha hv;exact g'.ev q
   ·rw[if_neg hi] at ha hv;exact hcr _ a v ha hv
  have hoks:∀ a∈args.toList.map (evA A')++caps,a.Ok (·<b):=by
   intro a ha;rcases List.mem_append.1 ha with ha|ha
   ·obtain⟨q,_,rfl⟩:=List.mem_map.1 ha;exact(g'.evOk q).mono hM
   ·cases hfo with|fn hfo=>exact(hfo a ha).mono hM
  refine(hc c vs (g.inv.more hM) g.solo hrel hoks).mono ?_;rintro e w' ⟨v,r',H',n',c',⟨rfl,rfl,rfl⟩,rfl,rfl,hle,hsa,hso,hfr,hown,hI,hs,hn,hv,hok⟩;have hrefs:r'.Ok M:=by
   rcases hr with h1|h1
   ·exact h1.ok M
   ·exact h1.2 M
  refine hK c' v (g.next hd (hle.weaken hM) hsa hso hfr hown ?_ hs (λq=>.inl) hv (hrefs.mono λq h=>.inl h));refine⟨λo x hx=>?_,hI.sep,hI.stab,hI.lt,hI.base,hI.own,hI.low,hI.glob⟩;obtain⟨h1,_,h3⟩:=g.inv.obj o x hx;exact⟨.inl h1,(hI.obj o x hx).2.1,λe he a ha=>(h3 e he a ha).mono λq h=>.inl h⟩
 |@callNew x args ts f caps bs q len y ho hx hcv hbs hp hfree hs1 hs2 =>
  obtain⟨⟨fn,code,hfn⟩,hc⟩:=hp;have hfx:=g'.ev x;rw[hx] at hfx;obtain⟨cv,hcv',hcl,hcr⟩:=hfx.fn_inv;let vs:Array Value:=args.map act.eval++cv
  have hrun:(execOp act.eval o).run P c.w=.ok (.enter f vs) c.w:=by
   simp only[execOp,ho,resolve,hcv',Deferred.ofValue,Sem.run_bind,Sem.run_pure,Result.andThen_ok,invoke,callFunc,run_program,hfn.here,hfn.name,hfn.body,Option.isNone_some,Bool.false_eq_true,if_false,Array.empty_append];rfl
  unfold Oper.wp;rw[hrun,Oper.upon_enter];have hI0:Inv c (λ_=>none) (·<0):=⟨(λo x hx=>by cases hx),(λo o' x x' hx=>by cases hx),(λo x hx=>by cases hx),g.inv.lt,g.inv.base,g.inv.own,(λo x hx=>by cases hx),g.inv.glob⟩;have hrel0:Xgf c false (args.toList.map (evA A')++caps) vs:=by
   refine⟨by simp[vs,hcl],λi a v ha hv=>?_⟩;rw[List.getElem?_append] at ha;simp only[vs,Array.getElem?_append,Array.size_map] at hv;simp only[List.length_map,Array.length_toList] at ha;by_cases hi:i<args.size
   ·rw[if_pos hi] at ha hv;rw[List.getElem?_map] at ha;rw[Array.getElem?_map] at hv
    cases hq:args[i]? with
    |none=>simp[hq] at hv
    |some q =>
     have hq':args.toList[i]?=some q:=by simpa using hq
     simp only[hq',Option.map_some,Option.some.injEq] at ha;simp only[hq,Option.map_some,Option.some.injEq] at hv;subst ha hv;exact g'.ev q
   ·rw[if_neg hi] at ha hv;exact hcr _ a v ha hv
  have hrel:Xgf c false bs vs:=by
   refine⟨by rw[<-hcv.len];exact hrel0.len,λi b v hb hvv=>?_⟩;have hlt:i<(args.toList.map (evA A')++caps).length:=by rw[hcv.len];exact(List.getElem?_eq_some_iff.1 hb).1
   have ha:=List.getElem?_eq_getElem hlt;exact(X04b hI0 (c':=c) rfl (λb hb=>Ctx.S_of_or hb) (λh=>by cases h) (λo x hx=>by cases hx) (hcv.rel i _ b ha hb) (hrel0.rel i _ v ha hvv)).shallow
  refine(hc c vs hI0 (λo x hx=>by cases hx) hrel (λa ha=>hbs a ha _)).mono ?_;rintro e w' ⟨v,r',H',n',c',⟨rfl,hy⟩,rfl,rfl,hle,hsa,hso,hfr,hown,hI,hs,hn,hv,hok⟩;have hold:∀ p,p<c.w.heap.size->c'.w.heap[p]?=c.w.heap[p]?:=λp hp=>hfr.block p hp (λo x hx=>by cases hx);have hblk:∀ o x,H o=some x->(c.ρ o).blk<c.w.heap.size:=by
   intro o x hx;obtain⟨_,⟨⟨cur,hcb,_⟩,_⟩,_⟩:=g.inv.obj o x hx;exact(Array.getElem?_eq_some_iff.1 hcb).1
  have hnew:c.w.heap.size<=(c'.ρ q).blk:=by
   rcases hown q y hy with h|⟨o',x',h,_⟩
   ·exact h
   ·cases h
  have hso':∀ p,c'.So p->c.So p\/c.w.heap.size<=p:=λp hp=>by
   rcases hso p hp with h|h|⟨o,x,h,_⟩
   ·exact .inl h
   ·exact .inr h
   ·cases h
  let c2:Ctx:=⟨c'.w,upd c.ρ id (c'.ρ q),c.Sa,c'.So,c.B⟩
  have hρ:∀ o,o≠id->c2.ρ o=c.ρ o:=λo ho=>Xl _ _ ho;have hρid:c2.ρ id=c'.ρ q:=Xm _ _ _;have hMid:∀ o,M o->o≠id:=λo ho e=>hid (e▸ho);have hle2:c.Le M c2:=⟨λo ho=>hρ o (hMid o ho),λ_ h=>h,λp hp=>hle.so p hp,λp hp=>hold p (g.inv.lt p hp),rfl⟩;have hB:c'.B=c.B:=hle.B;have hle3:c'.Le (λ_=>False) c2:=⟨λo ho=>ho.elim,λp hp=>by show c.Sa p;rw[<-hsa];exact hp,λ_ h=>h,λ_ _=>rfl,hB.symm⟩;have hcase:∀ o x,upd H id (some y) o=some x->(o=id/\x=y)\/(o≠id/\H o=some x):=by
   intro o x hx;by_cases ho:o=id
   ·subst ho;rw[Xm] at hx;cases hx;exact .inl ⟨rfl,rfl⟩
   ·rw[Xl _ _ ho] at hx;exact .inr ⟨ho,hx⟩
  have hI2:Inv c2 (upd H id (some y)) (λq=>M q\/q=id):=by
   refine⟨λo x hx=>?_,λo o' x x' hx hx' hne hb=>?_,λo x hx=>?_,λp hp=>?_,by show c.B<=_;rw[<-hB];exact hI.base,λp hp=>by show c.B<=_;rw[<-hB];exact hI.own p hp,λo x hx=>?_,?_⟩
   ·rcases hcase o x hx with ⟨rfl,rfl⟩|⟨hne,hx⟩
    ·obtain⟨_,⟨⟨cur,hb,hss,hcl⟩,h3,h4,h5⟩,_⟩:=hI.obj q x hy;refine⟨.inr rfl,?_,λe he a ha=>hfree e he a ha _⟩;rw[hρid];refine⟨⟨cur,hb,hss,λi e he=>?_⟩,h3,h4,h5⟩;obtain⟨k1,k2⟩:=hcl i e he;exact⟨k1,λk a ha=>by obtain⟨v,hv,hr,h7⟩:=k2 k a ha;exact⟨v,hv,hr.mono hle3 (.inr (hfree e (List.mem_of_getElem? he) a (List.mem_of_getElem? ha) _)),h7⟩⟩
    ·obtain⟨i1,⟨⟨cur,hb,hss,hcl⟩,h3,h4,h5⟩,h6⟩:=g.inv.obj o x hx;refine⟨.inl i1,?_,λe he a ha=>(h6 e he a ha).mono λq h=>.inl h⟩;rw[hρ o hne];refine⟨⟨cur,by show c'.w.heap[(c.ρ o).blk]?=_;rw[hold _ (hblk o x hx)];exact hb,hss,λi e he=>?_⟩,h3,h4,h5⟩;obtain⟨k1,k2⟩:=hcl i e he;exact⟨k1,λk a ha=>by obtain⟨v,hv,hr,h7⟩:=k2 k a ha;exact⟨v,hv,hr.mono hle2 (.inr (h6 e (List.mem_of_getElem? he) a (List.mem_of_getElem? ha))),h7⟩⟩
   ·exfalso;rcases hcase o x hx with ⟨rfl,rfl⟩|⟨hn1,hx⟩<;>rcases hcase o' x' hx' with ⟨rfl,rfl⟩|⟨hn2,hx'⟩
    ·exact hne rfl
    ·rw[hρid,hρ o' hn2] at hb;have:=hblk o' x' ‹H o'=some x'›;omega
    ·rw[hρid,hρ o hn1] at hb;have:=hblk o x ‹H o=some x›;omega
    ·rw[hρ o hn1,hρ o' hn2] at hb;have:=(g.inv.sep o o' x x' ‹H o=some x› ‹H o'=some x'› hne hb).1;rw[(g.solo o x ‹H o=some x›).1] at this;cases this
   ·rcases hcase o x hx with ⟨rfl,rfl⟩|⟨hne,hx⟩
    ·rw[hρid];have:=hI.stab q x hy;exact⟨λh=>this.1 (by rw[hsa];exact h),this.2⟩
    ·rw[hρ o hne];have:=g.inv.stab o x hx;exact⟨this.1,λh=>(hso' _ h).elim this.2 λh=>by have:=hblk o x hx;omega⟩
   ·refine hI.lt p (hp.imp (λh=>by rw[hsa];exact h) λh=>h)
   ·rcases hcase o x hx with ⟨rfl,rfl⟩|⟨hne,hx⟩
    ·rw[hρid];show c.B<=_;rw[<-hB];exact hI.low q x hy
    ·rw[hρ o hne];exact g.inv.low o x hx
   ·exact hI.glob.of (λp hp=>by show c.Sa p;rw[<-hsa];exact hp) λ_ _=>rfl
  refine hK c2 v ?_;rw[X3b.go_new];refine g.next (c':=c2) hd hle2 rfl (λp hp=>(hso' p hp).imp (λh=>h) .inl) ⟨hfr.os,hfr.tape,hfr.output,hfr.size,λp hp _=>hold p hp⟩ (λo x hx=>?_) hI2 (λo x hx=>?_) (λq=>.inl) ?_ (.ref (.inr rfl))
  ·rcases hcase o x hx with ⟨rfl,rfl⟩|⟨hne,hx⟩
   ·rw[hρid];exact .inl hnew
   ·exact .inr ⟨o,x,hx,by rw[hρ o hne]⟩
  ·rcases hcase o x hx with ⟨rfl,rfl⟩|⟨hne,hx⟩
   ·exact⟨hs1,hs2⟩
   ·exact g.solo o x hx
  ·obtain⟨hp,hle'⟩:=hv.ref_inv;rw[hp];have:X0q c2 false (.ref id 0 len) (.slice (some ⟨(c2.ρ id).blk,0*(c2.ρ id).esz,none⟩) len ((c2.ρ id).cap - 0)):=.ref (by rw[hρid];exact hle');rw[hρid] at this;exact this
 |@callSet x args ts f caps q len as y y' v ho hx hq hargs has hfree hfree' hp hs1 hs2 =>
  obtain⟨⟨fn,code,hfn⟩,hc⟩:=hp;have hfx:=g'.ev x;rw[hx] at hfx;obtain⟨cv,hcv',hcl,hcr⟩:=hfx.fn_inv;let vs:Array Value:=args.map act.eval++cv
  have hrun:(execOp act.eval o).run P c.w=.ok (.enter f vs) c.w:=by
   simp only[execOp,ho,resolve,hcv',Deferred.ofValue,Sem.run_bind,Sem.run_pure,Result.andThen_ok,invoke,callFunc,run_program,hfn.here,hfn.name,hfn.body,Option.isNone_some,Bool.false_eq_true,if_false,Array.empty_append];rfl
  unfold Oper.wp;rw[hrun,Oper.upon_enter];have hqH:H q=some y:=hV _ _ hq;have hrel0:Xgf c false (args.toList.map (evA A')++caps) vs:=by
   refine⟨by simp[vs,hcl],λi a v ha hv=>?_⟩;rw[List.getElem?_append] at ha;simp only[vs,Array.getElem?_append,Array.size_map] at hv;simp only[List.length_map,Array.length_toList] at ha;by_cases hi:i<args.size
   ·rw[if_pos hi] at ha hv;rw[List.getElem?_map] at ha;rw[Array.getElem?_map] at hv
    cases hq:args[i]? with
    |none=>simp[hq] at hv
    |some q =>
     have hq':args.toList[i]?=some q:=by simpa using hq
     simp only[hq',Option.map_some,Option.some.injEq] at ha;simp only[hq,Option.map_some,Option.some.injEq] at hv;subst ha hv;exact g'.ev q
   ·rw[if_neg hi] at ha hv;exact hcr _ a v ha hv
  rw[hargs] at hrel0;let c1:Ctx:={ c with ρ:=λ_=>c.ρ q }
  have hle1:c.Le (λ_=>False) c1:=⟨λo ho=>ho.elim,λ_ h=>h,λ_ h=>h,λ_ _=>rfl,rfl⟩;let H1:X0c:=λp=>bif Nat.beq p 0 then some y else none
  have hH1:∀ o z,H1 o=some z->o=0/\z=y:=by
   intro o z hz;simp only[H1] at hz
   cases hb:Nat.beq o 0 with
   |true=>rw[hb,cond_true] at hz;cases hz;exact⟨Nat.eq_of_beq_eq_true hb,rfl⟩
   |false=>rw[hb] at hz;cases hz
  obtain⟨i1,⟨⟨cur,hcb,hcs,hcc⟩,hfit,hpos,hsame⟩,_⟩:=g.inv.obj q y hqH;have hI0:Inv c1 H1 (·<1):=by
   refine⟨λo z hz=>?_,λo o' z z' hz hz' hne=>?_,λo z hz=>?_,g.inv.lt,g.inv.base,g.inv.own,λo z hz=>?_,g.inv.glob.rho _⟩
   ·obtain⟨rfl,rfl⟩:=hH1 o z hz;refine⟨Nat.one_pos,⟨⟨cur,hcb,hcs,λi e he=>?_⟩,hfit,hpos,hsame⟩,λe he a ha=>hfree e he a ha _⟩;obtain⟨k1,k2⟩:=hcc i e he;exact⟨k1,λk a ha=>by obtain⟨v,hv,hr,h7⟩:=k2 k a ha;exact⟨v,hv,hr.mono hle1 (.inr (hfree e (List.mem_of_getElem? he) a (List.mem_of_getElem? ha) _)),h7⟩⟩
   ·exact absurd ((hH1 o z hz).1.trans (hH1 o' z' hz').1.symm) hne
   ·obtain⟨rfl,rfl⟩:=hH1 o z hz;exact g.inv.stab q z hqH
   ·obtain⟨rfl,rfl⟩:=hH1 o z hz;exact g.inv.low q z hqH
  have hrel:Xgf c1 false (.ref 0 0 len::as) vs:=by
   refine⟨hrel0.len,λi a v ha hv=>?_⟩
   cases i with
   |zero =>
    have ha:some (AV.ref 0 0 len)=some a:=ha;cases ha
    have h0:=hrel0.rel 0 _ v rfl hv
    cases h0 with|ref hle=>exact .ref (c:=c1) (o:=0) hle
   |succ i =>
    have ha:as[i]?=some a:=ha;exact(hrel0.rel (i+1) a v ha hv).mono hle1 (.inr (has a (List.mem_of_getElem? ha) _))
  refine(hc c1 vs hI0 (λo z hz=>by obtain⟨rfl,rfl⟩:=hH1 o z hz;exact g.solo q z hqH) hrel (λa ha=>by
   rcases List.mem_cons.1 ha with rfl|ha
   ·exact .ref Nat.one_pos
   ·exact has a ha _)).mono ?_
  rintro e w' ⟨u,r',H',n',c',⟨rfl,hy⟩,rfl,rfl,hle,hsa,hso,hfr,hown,hI,hs,hn,hv,hok⟩;have hρ0:c'.ρ 0=c.ρ q:=hle.rho 0 Nat.one_pos;have hblk:∀ o x,H o=some x->(c.ρ o).blk<c.w.heap.size:=by
   intro o x hx;obtain⟨_,⟨⟨cur,hcb,_⟩,_⟩,_⟩:=g.inv.obj o x hx;exact(Array.getElem?_eq_some_iff.1 hcb).1
  have hsep:∀ o x,H o=some x->o≠q->(c.ρ o).blk≠(c.ρ q).blk:=λo x hx hne hb=>by
   have:=(g.inv.sep o q x y hx hqH hne hb).1;rw[(g.solo o x hx).1] at this;cases this
  have hso':∀ p,c'.So p->c.So p\/c.w.heap.size<=p:=λp hp=>by
   rcases hso p hp with h|h|⟨o,z,h,h2⟩
   ·exact .inl h
   ·exact .inr h
   ·exfalso;have h2:(c.ρ q).blk=p:=h2;have:=(hI.stab 0 y' hy).2;rw[hρ0,h2] at this;exact this hp
  have hold:∀ p,p<c.w.heap.size->(c.ρ q).blk≠p->c'.w.heap[p]?=c.w.heap[p]?:=λp hp hn=>hfr.block p hp λo z _=>hn;have holdS:∀ p,c.Sa p\/c.So p->c'.w.heap[p]?=c.w.heap[p]?:=hle.heap;let c2:Ctx:=⟨c'.w,c.ρ,c.Sa,c'.So,c.B⟩
  have hle2:c.Le M c2:=⟨λo ho=>rfl,λ_ h=>h,λp hp=>hle.so p hp,holdS,rfl⟩;have hB:c'.B=c.B:=hle.B;have hle3:c'.Le (λ_=>False) c2:=⟨λo ho=>ho.elim,λp hp=>by show c.Sa p;rw[<-(show c'.Sa=c.Sa from hsa)];exact hp,λ_ h=>h,λ_ _=>rfl,hB.symm⟩;have hcase:∀ o x,upd H q (some y') o=some x->(o=q/\x=y')\/(o≠q/\H o=some x):=by
   intro o x hx;by_cases ho:o=q
   ·subst ho;rw[Xm] at hx;cases hx;exact .inl ⟨rfl,rfl⟩
   ·rw[Xl _ _ ho] at hx;exact .inr ⟨ho,hx⟩
  have hI2:Inv c2 (upd H q (some y')) (λp=>M p\/p=id):=by
   refine⟨λo x hx=>?_,λo o' x x' hx hx' hne hb=>?_,λo x hx=>?_,λp hp=>?_,by show c.B<=_;rw[<-hB];exact hI.base,λp hp=>by show c.B<=_;rw[<-hB];exact hI.own p hp,λo x hx=>?_,?_⟩
   ·rcases hcase o x hx with ⟨rfl,rfl⟩|⟨hne,hx⟩
    ·obtain⟨_,⟨⟨cur',hb,hss,hcl⟩,h3,h4,h5⟩,_⟩:=hI.obj 0 x hy;rw[hρ0] at hb hss hcl h3 h4 h5;refine⟨.inl i1,⟨⟨cur',hb,hss,λi e he=>?_⟩,h3,h4,h5⟩,λe he a ha=>hfree' e he a ha _⟩;obtain⟨k1,k2⟩:=hcl i e he;exact⟨k1,λk a ha=>by obtain⟨v,hv,hr,h7⟩:=k2 k a ha;exact⟨v,hv,hr.mono hle3 (.inr (hfree' e (List.mem_of_getElem? he) a (List.mem_of_getElem? ha) _)),h7⟩⟩
    ·obtain⟨j1,⟨⟨cur',hb,hss,hcl⟩,h3,h4,h5⟩,h6⟩:=g.inv.obj o x hx;refine⟨.inl j1,⟨⟨cur',by show c'.w.heap[(c.ρ o).blk]?=_;rw[hold _ (hblk o x hx) (λe=>hsep o x hx hne e.symm)];exact hb,hss,λi e he=>?_⟩,h3,h4,h5⟩,λe he a ha=>(h6 e he a ha).mono λq h=>.inl h⟩;obtain⟨k1,k2⟩:=hcl i e he;exact⟨k1,λk a ha=>by obtain⟨v,hv,hr,h7⟩:=k2 k a ha;exact⟨v,hv,hr.mono hle2 (.inr (h6 e (List.mem_of_getElem? he) a (List.mem_of_getElem? ha))),h7⟩⟩
   ·exfalso;rcases hcase o x hx with ⟨rfl,rfl⟩|⟨hn1,hx⟩<;>rcases hcase o' x' hx' with ⟨rfl,rfl⟩|⟨hn2,hx'⟩
    ·exact hne rfl
    ·exact hsep o' x' ‹H o'=some x'› hn2 hb.symm
    ·exact hsep o x ‹H o=some x› hn1 hb
    ·have:=(g.inv.sep o o' x x' ‹H o=some x› ‹H o'=some x'› hne hb).1;rw[(g.solo o x ‹H o=some x›).1] at this;cases this
   ·have hold1:∀ o z,H o=some z->¬ c2.Sa (c2.ρ o).blk/\¬ c2.So (c2.ρ o).blk:=λo z hz=>by
     have:=g.inv.stab o z hz;exact⟨this.1,λh=>(hso' _ h).elim this.2 λh=>by have:=hblk o z hz;have h:c.w.heap.size<=(c.ρ o).blk:=h;omega⟩
    rcases hcase o x hx with ⟨rfl,rfl⟩|⟨hne,hx⟩
    ·exact hold1 o y hqH
    ·exact hold1 o x hx
   ·refine hI.lt p (hp.imp (λh=>by rw[show c'.Sa=c.Sa from hsa];exact h) λh=>h)
   ·rcases hcase o x hx with ⟨rfl,rfl⟩|⟨hne,hx⟩
    ·exact g.inv.low o y hqH
    ·exact g.inv.low o x hx
   ·exact hI.glob.of (λp hp=>by show c.Sa p;rw[<-(show c'.Sa=c.Sa from hsa)];exact hp) λ_ _=>rfl
  refine hK c2 u ?_;rw[X3b.go_set];have hu:=hv.sc_inv;refine g.next (c':=c2) hd hle2 rfl (λp hp=>(hso' p hp).imp (λh=>h) .inl) ⟨hfr.os,hfr.tape,hfr.output,hfr.size,λp hp hn=>hold p hp (hn q y hqH)⟩ (λo x hx=>?_) hI2 (λo x hx=>?_) (λq=>.inl) (by rw[<-hu];exact .sc) .sc
  ·rcases hcase o x hx with ⟨rfl,rfl⟩|⟨hne,hx⟩
   ·exact .inr ⟨o,y,hqH,rfl⟩
   ·exact .inr ⟨o,x,hx,rfl⟩
  ·rcases hcase o x hx with ⟨rfl,rfl⟩|⟨hne,hx⟩
   ·exact⟨hs1,hs2⟩
   ·exact g.solo o x hx
 |@callNewV x args ts f caps q len y n V' ho hx hV' has hp hfree hs1 hs2 =>
  obtain⟨⟨fn,code,hfn⟩,hc⟩:=hp;have hfx:=g'.ev x;rw[hx] at hfx;obtain⟨cv,hcv',hcl,hcr⟩:=hfx.fn_inv;let vs:Array Value:=args.map act.eval++cv
  have hrun:(execOp act.eval o).run P c.w=.ok (.enter f vs) c.w:=by
   simp only[execOp,ho,resolve,hcv',Deferred.ofValue,Sem.run_bind,Sem.run_pure,Result.andThen_ok,invoke,callFunc,run_program,hfn.here,hfn.name,hfn.body,Option.isNone_some,Bool.false_eq_true,if_false,Array.empty_append];rfl
  unfold Oper.wp;rw[hrun,Oper.upon_enter];have hVH:∀ o x,V' o=some x->H o=some x:=λo x hx=>hV _ _ (hV' o x hx).1;have hVM:∀ o,(∃ z,V' o=some z)->M o:=λo ⟨z,hz⟩=>(g.inv.obj o z (hVH o z hz)).1;have hI0:Inv c V' (·<n):=by
   have h:=g.inv.view hVH;refine⟨λo x hx=>?_,h.sep,h.stab,h.lt,h.base,h.own,h.low,h.glob⟩;obtain⟨_,h2,_⟩:=h.obj o x hx;exact⟨(hV' o x hx).2.1,h2,λe he a ha=>((hV' o x hx).2.2 e he a ha).mono λq ⟨z,hz⟩=>(hV' q z hz).2.1⟩
  have hrel:Xgf c false (args.toList.map (evA A')++caps) vs:=by
   refine⟨by simp[vs,hcl],λi a v ha hv=>?_⟩;rw[List.getElem?_append] at ha;simp only[vs,Array.getElem?_append,Array.size_map] at hv;simp only[List.length_map,Array.length_toList] at ha;by_cases hi:i<args.size
   ·rw[if_pos hi] at ha hv;rw[List.getElem?_map] at ha;rw[Array.getElem?_map] at hv
    cases hq:args[i]? with
    |none=>simp[hq] at hv
    |some q =>
     have hq':args.toList[i]?=some q:=by simpa using hq
     simp only[hq',Option.map_some,Option.some.injEq] at ha;simp only[hq,Option.map_some,Option.some.injEq] at hv;subst ha hv;exact g'.ev q
   ·rw[if_neg hi] at ha hv;exact hcr _ a v ha hv
  refine(hc c vs hI0 (λo x hx=>g.solo o x (hVH o x hx)) hrel (λa ha=>(has a ha).mono λq ⟨z,hz⟩=>(hV' q z hz).2.1)).mono ?_;rintro e w' ⟨v,r',H',n',c',⟨rfl,hy,hqn,hkeep⟩,rfl,rfl,hle,hsa,hso,hfr,hown,hI,hs,hn,hv,hok⟩;have hblk:∀ o x,H o=some x->(c.ρ o).blk<c.w.heap.size:=by
   intro o x hx;obtain⟨_,⟨⟨cur,hcb,_⟩,_⟩,_⟩:=g.inv.obj o x hx;exact(Array.getElem?_eq_some_iff.1 hcb).1
  have hρn:∀ o,(∃ z,V' o=some z)->c'.ρ o=c.ρ o:=λo ⟨z,hz⟩=>hle.rho o (hV' o z hz).2.1;have hqV:∀ o x,V' o=some x->(c'.ρ q).blk≠(c.ρ o).blk:=λo x hx hb=>by
   have hne:q≠o:=λe=>by have:=(hV' o x hx).2.1;omega
   rw[<-hρn o ⟨x,hx⟩] at hb;have:=(hI.sep q o y x hy (hkeep o x hx) hne hb).1;rw[hs1] at this;cases this
  have hnew:c.w.heap.size<=(c'.ρ q).blk:=by
   rcases hown q y hy with h|⟨o',x',h,h2⟩
   ·exact h
   ·exact absurd h2.symm (hqV o' x' h)
  have hso':∀ p,c'.So p->c.So p\/c.w.heap.size<=p:=λp hp=>by
   rcases hso p hp with h|h|⟨o,x,h,h2⟩
   ·exact .inl h
   ·exact .inr h
   ·exfalso;have:=(hI.stab o x (hkeep o x h)).2;rw[hρn o ⟨x,h⟩,h2] at this;exact this hp
  have hold:∀ p,p<c.w.heap.size->(∀ o x,V' o=some x->(c.ρ o).blk≠p)->c'.w.heap[p]?=c.w.heap[p]?:=λp hp hn=>hfr.block p hp hn;have holdS:∀ p,c.Sa p\/c.So p->c'.w.heap[p]?=c.w.heap[p]?:=hle.heap;let c2:Ctx:=⟨c'.w,upd c.ρ id (c'.ρ q),c.Sa,c'.So,c.B⟩
  have hρ:∀ o,o≠id->c2.ρ o=c.ρ o:=λo ho=>Xl _ _ ho;have hρid:c2.ρ id=c'.ρ q:=Xm _ _ _;have hMid:∀ o,M o->o≠id:=λo ho e=>hid (e▸ho);have hle2:c.Le M c2:=⟨λo ho=>hρ o (hMid o ho),λ_ h=>h,λp hp=>hle.so p hp,holdS,rfl⟩;have hB:c'.B=c.B:=hle.B;have hle3:c'.Le (λo=>∃ z,V' o=some z) c2:=⟨λo ho=>(hρ o (hMid o (hVM o ho))).trans (hρn o ho).symm,λp hp=>by show c.Sa p;rw[<-hsa];exact hp,λ_ h=>h,λ_ _=>rfl,hB.symm⟩;have hcase:∀ o x,upd H id (some y) o=some x->(o=id/\x=y)\/(o≠id/\H o=some x):=by
   intro o x hx;by_cases ho:o=id
   ·subst ho;rw[Xm] at hx;cases hx;exact .inl ⟨rfl,rfl⟩
   ·rw[Xl _ _ ho] at hx;exact .inr ⟨ho,hx⟩
  have hI2:Inv c2 (upd H id (some y)) (λq=>M q\/q=id):=by
   refine⟨λo x hx=>?_,λo o' x x' hx hx' hne hb=>?_,λo x hx=>?_,λp hp=>?_,by show c.B<=_;rw[<-hB];exact hI.base,λp hp=>by show c.B<=_;rw[<-hB];exact hI.own p hp,λo x hx=>?_,?_⟩
   ·rcases hcase o x hx with ⟨rfl,rfl⟩|⟨hne,hx⟩
    ·obtain⟨_,⟨⟨cur,hb,hss,hcl⟩,h3,h4,h5⟩,_⟩:=hI.obj q x hy;refine⟨.inr rfl,?_,λe he a ha=>(hfree e he a ha).mono λq hq=>.inl (hVM q hq)⟩;rw[hρid];refine⟨⟨cur,hb,hss,λi e he=>?_⟩,h3,h4,h5⟩;obtain⟨k1,k2⟩:=hcl i e he;exact⟨k1,λk a ha=>by obtain⟨v,hv,hr,h7⟩:=k2 k a ha;exact⟨v,hv,hr.mono hle3 (.inr (hfree e (List.mem_of_getElem? he) a (List.mem_of_getElem? ha))),h7⟩⟩
    ·obtain⟨i1,⟨⟨cur,hb,hss,hcl⟩,h3,h4,h5⟩,h6⟩:=g.inv.obj o x hx;refine⟨.inl i1,?_,λe he a ha=>(h6 e he a ha).mono λq h=>.inl h⟩;rw[hρ o hne];by_cases hin:∃ z,V' o=some z
     ·obtain⟨z,hz⟩:=hin;have hzx:z=x:=by have:=hVH o z hz;rw[hx] at this;exact(Option.some.inj this).symm
      subst hzx;obtain⟨_,⟨⟨cur',hb',hss',hcl'⟩,h3',h4',h5'⟩,_⟩:=hI.obj o z (hkeep o z hz);rw[hρn o ⟨z,hz⟩] at hb' hss' hcl' h3' h4' h5';refine⟨⟨cur',hb',hss',λi e he=>?_⟩,h3',h4',h5'⟩;obtain⟨k1,k2⟩:=hcl' i e he;exact⟨k1,λk a ha=>by obtain⟨v,hv,hr,h7⟩:=k2 k a ha;exact⟨v,hv,hr.mono hle3 (.inr ((hV' o z hz).2.2 e (List.mem_of_getElem? he) a (List.mem_of_getElem? ha))),h7⟩⟩
     ·have hnb:∀ o' x',V' o'=some x'->(c.ρ o').blk≠(c.ρ o).blk:=λo' x' hx' hb=>by
       have hne':o'≠o:=λe=>hin ⟨x',e▸hx'⟩;have:=(g.inv.sep o' o x' x (hVH o' x' hx') hx hne' hb).1;rw[(g.solo o' x' (hVH o' x' hx')).1] at this;cases this
      refine⟨⟨cur,by show c'.w.heap[(c.ρ o).blk]?=_;rw[hold _ (hblk o x hx) hnb];exact hb,hss,λi e he=>?_⟩,h3,h4,h5⟩;obtain⟨k1,k2⟩:=hcl i e he;exact⟨k1,λk a ha=>by obtain⟨v,hv,hr,h7⟩:=k2 k a ha;exact⟨v,hv,hr.mono hle2 (.inr (h6 e (List.mem_of_getElem? he) a (List.mem_of_getElem? ha))),h7⟩⟩
   ·exfalso;rcases hcase o x hx with ⟨rfl,rfl⟩|⟨hn1,hx⟩<;>rcases hcase o' x' hx' with ⟨rfl,rfl⟩|⟨hn2,hx'⟩
    ·exact hne rfl
    ·rw[hρid,hρ o' hn2] at hb;have:=hblk o' x' ‹H o'=some x'›;omega
    ·rw[hρid,hρ o hn1] at hb;have:=hblk o x ‹H o=some x›;omega
    ·rw[hρ o hn1,hρ o' hn2] at hb;have:=(g.inv.sep o o' x x' ‹H o=some x› ‹H o'=some x'› hne hb).1;rw[(g.solo o x ‹H o=some x›).1] at this;cases this
   ·rcases hcase o x hx with ⟨rfl,rfl⟩|⟨hne,hx⟩
    ·rw[hρid];have:=hI.stab q x hy;exact⟨λh=>this.1 (by rw[hsa];exact h),this.2⟩
    ·rw[hρ o hne];have:=g.inv.stab o x hx;exact⟨this.1,λh=>(hso' _ h).elim this.2 λh=>by have:=hblk o x hx;omega⟩
   ·refine hI.lt p (hp.imp (λh=>by rw[hsa];exact h) λh=>h)
   ·rcases hcase o x hx with ⟨rfl,rfl⟩|⟨hne,hx⟩
    ·rw[hρid];show c.B<=_;rw[<-hB];exact hI.low q x hy
    ·rw[hρ o hne];exact g.inv.low o x hx
   ·exact hI.glob.of (λp hp=>by show c.Sa p;rw[<-hsa];exact hp) λ_ _=>rfl
  refine hK c2 v ?_;rw[X3b.go_new];refine g.next (c':=c2) hd hle2 rfl (λp hp=>(hso' p hp).imp (λh=>h) .inl) ⟨hfr.os,hfr.tape,hfr.output,hfr.size,λp hp hn=>hold p hp λo x hx=>hn o x (hVH o x hx)⟩ (λo x hx=>?_) hI2 (λo x hx=>?_) (λq=>.inl) ?_ (.ref (.inr rfl))
  ·rcases hcase o x hx with ⟨rfl,rfl⟩|⟨hne,hx⟩
   ·rw[hρid];exact .inl hnew
   ·exact .inr ⟨o,x,hx,by rw[hρ o hne]⟩
  ·rcases hcase o x hx with ⟨rfl,rfl⟩|⟨hne,hx⟩
   ·exact⟨hs1,hs2⟩
   ·exact g.solo o x hx
  ·obtain⟨hp,hle'⟩:=hv.ref_inv;rw[hp];have:X0q c2 false (.ref id 0 len) (.slice (some ⟨(c2.ρ id).blk,0*(c2.ρ id).esz,none⟩) len ((c2.ρ id).cap - 0)):=.ref (by rw[hρid];exact hle');rw[hρid] at this;exact this
end
end Go.Av


namespace Go.Av
variable [Gls]
def Xua:Op->Bool
 |.move _|.assign _|.pick ..|.binOp ..|.unOp ..|.convert ..|.fieldAddr ..|.field ..|.extract ..|.nilCheck _|.index ..|.slice _ _ none (some (.const _)) none=>true
 |_=>false
def X9e (i mi:Nat):Nat->List Oper->List Nat->List Nat
 |k,o::r,m::ms =>
  let rest:=X9e i mi (k+1) r ms
  match o.dst with
  |none=>rest
  |some d=>bif Nat.beq k i then rest else bif Nat.blt k i then (bif Nat.testBit mi k then rest else d::rest) else (bif Nat.testBit m i then rest else d::rest)
 |_,_,_=>[]
def Xnf (t:Nat):List Nat->Bool
 |[]=>false
 |a::r=>Nat.beq t a||Xnf t r
theorem Xl2 {t:Nat} {l:List Nat}:Xnf t l=true↔t∈l:=by
 induction l with
 |nil=>simp[Xnf]
 |cons a r ih=>simp only[Xnf,Bool.or_eq_true,Nat.beq_eq,ih,List.mem_cons]
theorem Xt5 {i mi : Nat} : ∀ (l : List Oper) (ms : List Nat) (k0 k : Nat) (o : Oper) (m d : Nat), l[k]? = some o -> ms[k]? = some m -> o.dst = some d -> k0 + k ≠ i ->
    (k0+k<i->Nat.testBit mi (k0+k)=false)->(i<k0+k->Nat.testBit m i=false)->d∈X9e i mi k0 l ms:=by
  intro l
  induction l with
  |nil=>intro ms k0 k o m d ho;simp at ho
  |cons a l ih =>
    intro ms k0 k o m d ho hm hd hne h1 h2
    cases ms with
    |nil=>simp at hm
    |cons b ms =>
      cases k with
      |zero =>
        simp at ho hm;subst ho hm;simp only[X9e,hd];have hb:Nat.beq k0 i=false:=by rw[<-Bool.not_eq_true,Nat.beq_eq];simpa using hne
        rw[hb,cond_false];by_cases hlt:k0<i
        · have:Nat.blt k0 i=true:=by simpa using hlt
          have h1':Nat.testBit mi k0=false:=h1 (by simpa using hlt);rw[this,cond_true,h1'];exact List.mem_cons_self ..
        · have:Nat.blt k0 i=false:=by rw[<-Bool.not_eq_true];simpa using hlt
          rw[this,cond_false,h2 (by simp at hne;omega)];exact List.mem_cons_self ..
      |succ k =>
        simp at ho hm;have:=ih ms (k0+1) k o m d ho hm hd om (λh=>by have:=h1 om;rwa [show k0+1+k=k0+(k+1) by omega]) (λh=>h2 om);simp only[X9e]
        cases a.dst with
        |none=>exact this
        |some d' =>
          simp only[];cases Nat.beq k0 i<;>simp only[cond_true,cond_false]<;>first
            |exact this
            | (cases Nat.blt k0 i <;> simp only [cond_true, cond_false]
               · cases Nat.testBit b i<;>simp only[cond_true,cond_false]
                 · exact List.mem_cons_of_mem _ this
                 · exact this
               · cases Nat.testBit mi k0<;>simp only[cond_true,cond_false]
                 · exact List.mem_cons_of_mem _ this
                 · exact this)
def frD (bad:List Nat) (A:Nat->AV):Nat->AV:=λt=>bif Xnf t bad then .junk else A t
def Xg9 (base mi o:Nat):Nat->List X3b->Bool
 |k,e::es=>(Xnf o (e.objs (base+k))&&!Nat.testBit mi k)||Xg9 base mi o (k+1) es
 |_,[]=>false
def Xas (base mi:Nat) (hf:Nat->Bool) (es:List X3b) (o:Nat):Bool :=
 hf o||(Nat.ble base o&&!Nat.testBit mi (o - base))||Xg9 base mi o 0 es
def hpD (base mi:Nat) (hf:Nat->Bool) (es:List X3b) (H:X0c):X0c:=λo=>bif Xas base mi hf es o then none else H o
def X7j (base mk:Nat) (os:List Nat):Nat->List (Nat×(Nat->Bool))->List X3b->List X3b->Bool
 |i,(mi,hf)::ms,pre,e::es =>
  (Nat.testBit mk i||os.all (λo=>Xas base mi hf pre o&&!Xnf o (e.objs (base+i))))&&X7j base mk os (i+1) ms (pre++[e]) es
 |_,_,_,_=>true
theorem Xnh {base mi o:Nat}:∀ (es:List X3b) (k0 k:Nat) (e:X3b),es[k]?=some e->Xg9 base mi o k0 es=false->o∈e.objs (base+(k0+k))->Nat.testBit mi (k0+k)=true:=by
 intro es
 induction es with
 |nil=>intro k0 k e he;simp at he
 |cons a es ih =>
  intro k0 k e he h ho;simp only[Xg9,Bool.or_eq_false_iff] at h
  cases k with
  |zero =>
   simp at he;subst he;have hm:Xnf o (a.objs (base+k0))=true:=Xl2.2 (by simpa using ho);have:=h.1;rw[hm,Bool.true_and] at this;simpa using this
  |succ k =>
   simp at he;have:=ih (k0+1) k e he h.2 (by rwa [show k0+1+k=k0+(k+1) by omega])
   rwa [show k0+(k+1)=k0+1+k by omega]
theorem Xqb {base mk:Nat} {os:List Nat}:∀ (es:List X3b) (i0:Nat) (ms:List (Nat×(Nat->Bool))) (pre:List X3b),X7j base mk os i0 ms pre es=true->ms.length=es.length ->
  ∀ (i:Nat) (e:X3b) (m:Nat×(Nat->Bool)),es[i]?=some e->ms[i]?=some m->Nat.testBit mk (i0+i)=true\/∀ o∈os,Xas base m.1 m.2 (pre++es.take i) o=true/\o ∉ e.objs (base+(i0+i)):=by
 intro es
 induction es with
 |nil=>intro i0 ms pre h hl i e m he;simp at he
 |cons a es ih =>
  intro i0 ms pre h hl i e m he hm
  cases ms with
  |nil=>simp at hl
  |cons b ms =>
   obtain⟨mi,hf⟩:=b;simp only[X7j,Bool.and_eq_true] at h
   cases i with
   |zero =>
    simp at he hm;subst he hm;rcases Bool.or_eq_true_iff.1 h.1 with h1|h1
    ·exact .inl h1
    ·right;intro o ho;have:=List.all_eq_true.1 h1 o ho;simp only[Bool.and_eq_true,Bool.not_eq_true',<-Bool.not_eq_true,Xl2] at this;refine⟨by simpa using this.1,by simpa using this.2⟩
   |succ i =>
    simp at he hm;have:=ih (i0+1) ms (pre++[a]) h.2 (by simpa using hl) i e m he hm;rw[show i0+(i+1)=i0+1+i by omega];simpa using this
def Xev (nt:Nat) (bad:List Nat):Option Nat->Bool
 |some d=>Nat.blt d nt&&!Xnf d bad
 |none=>true
def Xri (want:Bool):Value->Bool
 |.bool b=>b==want
 |_=>false
def hz0 (o:Oper) (_:Nat):Bool:=Xua o.op
inductive DRun (hz:Oper->Nat->Bool) (P:Program) (T:Ty) (nt base:Nat) (ops:Array Oper) (ms:List Nat):Nat->List Oper->(Nat->AV)->X0c->List X3b->(Nat->AV)->X0c->Prop
 |nil {i A H es}:DRun hz P T nt base ops ms i [] A H es A H
 |op {i o l A H es a e A' H'} (hg:o.guard=none) (hd:Xev nt (X9e i (ms.getD i 0) 0 ops.toList ms) o.dst=true)
   (h:DOp P T (frD (X9e i (ms.getD i 0) 0 ops.toList ms) A) (hpD base (ms.getD i 0) (hz o) es H) (base+i) o a e)
   (hw:X7j base (ms.getD i 0) (e.objs (base+i)) 0 ((ms.zip (ops.toList.map hz)).take i) [] es=true)
   (k:DRun hz P T nt base ops ms (i+1) l (Xfz A o.dst a) (e.go (base+i) H) (es++[e]) A' H'):DRun hz P T nt base ops ms i (o::l) A H es A' H'
 |run {i o l A H es a e A' H' j t want} (hg:o.guard=some (j,want)) (hd:Xev nt (X9e i (ms.getD i 0) 0 ops.toList ms) o.dst=true) (hj:(ops[j]?).bind (·.dst)=some t) (ht:Nat.blt t nt=true)
   (hb:Xe6 (frD (X9e i (ms.getD i 0) 0 ops.toList ms) A t)=.sc (.bool want))
   (h:DOp P T (frD (X9e i (ms.getD i 0) 0 ops.toList ms) A) (hpD base (ms.getD i 0) (hz o) es H) (base+i) o a e)
   (hw:X7j base (ms.getD i 0) (e.objs (base+i)) 0 ((ms.zip (ops.toList.map hz)).take i) [] es=true)
   (k:DRun hz P T nt base ops ms (i+1) l (Xfz A o.dst a) (e.go (base+i) H) (es++[e]) A' H'):DRun hz P T nt base ops ms i (o::l) A H es A' H'
 |skip {i o l A H es A' H' j t want v} (hg:o.guard=some (j,want)) (hd:Xev nt (X9e i (ms.getD i 0) 0 ops.toList ms) o.dst=true) (hj:(ops[j]?).bind (·.dst)=some t) (ht:Nat.blt t nt=true)
   (hb:Xe6 (frD (X9e i (ms.getD i 0) 0 ops.toList ms) A t)=.sc v) (hbw:Xri want v=false)
   (k:DRun hz P T nt base ops ms (i+1) l (Xfz A o.dst (.sc undef)) H (es++[.none]) A' H'):DRun hz P T nt base ops ms i (o::l) A H es A' H'
inductive DOne (hz:Oper->Nat->Bool) (P:Program) (T:Ty) (nt base:Nat) (ops:Array Oper) (ms:List Nat) (i:Nat) (o:Oper) (A:Nat->AV) (H:X0c) (es:List X3b):AV->X3b->Prop
 |run {a e} (hg:o.guard=none\/∃ j t want,o.guard=some (j,want)/\(ops[j]?).bind (·.dst)=some t/\t<nt/\Xe6 (frD (X9e i (ms.getD i 0) 0 ops.toList ms) A t)=.sc (.bool want))
   (h:DOp P T (frD (X9e i (ms.getD i 0) 0 ops.toList ms) A) (hpD base (ms.getD i 0) (hz o) es H) (base+i) o a e):DOne hz P T nt base ops ms i o A H es a e
 |skip {j t want v} (hg:o.guard=some (j,want)) (hj:(ops[j]?).bind (·.dst)=some t) (ht:t<nt)
   (hb:Xe6 (frD (X9e i (ms.getD i 0) 0 ops.toList ms) A t)=.sc v) (hbw:Xri want v=false):DOne hz P T nt base ops ms i o A H es (.sc undef) .none
def X86 (l:List Oper) (rs:List (AV×X3b)) (k:Nat) (A:Nat->AV):Nat->AV :=
 match l[k]?,rs[k]? with
 |some o,some r=>Xfz A o.dst r.1
 |_,_=>A
def X8d (base:Nat) (rs:List (AV×X3b)) (k:Nat) (H:X0c):X0c :=
 match rs[k]? with
 |some r=>r.2.go (base+k) H
 |none=>H
structure DAll (hz:Oper->Nat->Bool) (P:Program) (T:Ty) (nt base:Nat) (ops:Array Oper) (ms:List Nat) (A:Nat->AV) (H:X0c) (rs:List (AV×X3b)):Prop where
 len:rs.length=ops.toList.length
 one:∀ (i:Nat) o r,ops.toList[i]?=some o->rs[i]?=some r->Xev nt (X9e i (ms.getD i 0) 0 ops.toList ms) o.dst=true /\
  DOne hz P T nt base ops ms i o (X16 (X86 ops.toList rs) (λ_=>true) i A) (X16 (X8d base rs) (λ_=>true) i H) ((rs.take i).map (·.2)) r.1 r.2 /\
  X7j base (ms.getD i 0) (r.2.objs (base+i)) 0 ((ms.zip (ops.toList.map hz)).take i) [] ((rs.take i).map (·.2))=true
theorem Xru {base mk i:Nat}:∀ (es:List X3b) (k:Nat) (ms:List (Nat×(Nat->Bool))) (pre:List X3b),X7j base mk [] k ms pre es=true:=by
 intro es
 induction es with
 |nil=>intro k ms pre;cases ms<;>simp[X7j]
 |cons a es ih=>intro k ms pre;cases ms<;>simp[X7j,ih]
theorem Xmj {V:Type} {f g:Nat->V->V} {S:Nat->Bool}:∀ (n:Nat) (v:V),(∀ k,k<n->∀ u,f k u=g k u)->X16 f S n v=X16 g S n v
 |0,_,_=>rfl
 |n+1,v,h=>by simp only[X16,Xmj n v (λk hk=>h k om),h n om]
theorem DRun.all {hz:Oper->Nat->Bool} {P:Program} {T:Ty} {nt base:Nat} {ops:Array Oper} {ms:List Nat} {i:Nat} {l:List Oper} {A:Nat->AV} {H:X0c} {es:List X3b} {A':Nat->AV} {H':X0c}
  (h:DRun hz P T nt base ops ms i l A H es A' H'):∀ (A0:Nat->AV) (H0:X0c) (rs:List (AV×X3b)),i<=ops.toList.length->rs.length=i->es=rs.map (·.2)->ops.toList.drop i=l->A=X16 (X86 ops.toList rs) (λ_=>true) i A0->H=X16 (X8d base rs) (λ_=>true) i H0 ->
   (∀ (k:Nat) o r,ops.toList[k]?=some o->rs[k]?=some r->Xev nt (X9e k (ms.getD k 0) 0 ops.toList ms) o.dst=true /\
    DOne hz P T nt base ops ms k o (X16 (X86 ops.toList rs) (λ_=>true) k A0) (X16 (X8d base rs) (λ_=>true) k H0) ((rs.take k).map (·.2)) r.1 r.2 /\
    X7j base (ms.getD k 0) (r.2.objs (base+k)) 0 ((ms.zip (ops.toList.map hz)).take k) [] ((rs.take k).map (·.2))=true) ->
   ∃ rs',DAll hz P T nt base ops ms A0 H0 rs'/\A'=X16 (X86 ops.toList rs') (λ_=>true) ops.toList.length A0/\H'=X16 (X8d base rs') (λ_=>true) ops.toList.length H0:=by
 have ext:∀ (i:Nat) (o:Oper) (l:List Oper) (A:Nat->AV) (H:X0c) (a:AV) (e:X3b) (A0:Nat->AV) (H0:X0c) (rs:List (AV×X3b)),rs.length=i->ops.toList.drop i=o::l ->
   A=X16 (X86 ops.toList rs) (λ_=>true) i A0->H=X16 (X8d base rs) (λ_=>true) i H0 ->
   Xev nt (X9e i (ms.getD i 0) 0 ops.toList ms) o.dst=true->DOne hz P T nt base ops ms i o A H (rs.map (·.2)) a e->X7j base (ms.getD i 0) (e.objs (base+i)) 0 ((ms.zip (ops.toList.map hz)).take i) [] (rs.map (·.2))=true ->
   (∀ (k:Nat) o r,ops.toList[k]?=some o->rs[k]?=some r->Xev nt (X9e k (ms.getD k 0) 0 ops.toList ms) o.dst=true /\
    DOne hz P T nt base ops ms k o (X16 (X86 ops.toList rs) (λ_=>true) k A0) (X16 (X8d base rs) (λ_=>true) k H0) ((rs.take k).map (·.2)) r.1 r.2 /\
    X7j base (ms.getD k 0) (r.2.objs (base+k)) 0 ((ms.zip (ops.toList.map hz)).take k) [] ((rs.take k).map (·.2))=true) ->
   i+1<=ops.toList.length/\(rs++[(a,e)]).length=i+1/\ops.toList.drop (i+1)=l/\Xfz A o.dst a=X16 (X86 ops.toList (rs++[(a,e)])) (λ_=>true) (i+1) A0/\e.go (base+i) H=X16 (X8d base (rs++[(a,e)])) (λ_=>true) (i+1) H0 /\
   (∀ (k:Nat) o r,ops.toList[k]?=some o->(rs++[(a,e)])[k]?=some r->Xev nt (X9e k (ms.getD k 0) 0 ops.toList ms) o.dst=true /\
    DOne hz P T nt base ops ms k o (X16 (X86 ops.toList (rs++[(a,e)])) (λ_=>true) k A0) (X16 (X8d base (rs++[(a,e)])) (λ_=>true) k H0) (((rs++[(a,e)]).take k).map (·.2)) r.1 r.2 /\
    X7j base (ms.getD k 0) (r.2.objs (base+k)) 0 ((ms.zip (ops.toList.map hz)).take k) [] (((rs++[(a,e)]).take k).map (·.2))=true):=by
  intro i o l A H a e A0 H0 rs hlen hdrop hA hH hd hone hw hall;have hoi:ops.toList[i]?=some o:=by
   have:=List.getElem?_drop (xs:=ops.toList) (i:=i) (j:=0);rw[hdrop] at this;simpa using this.symm
  have hget:∀ k,k<i->(rs++[(a,e)])[k]?=rs[k]?:=λk hk=>List.getElem?_append_left om;have hA1:∀ k,k<=i->X16 (X86 ops.toList (rs++[(a,e)])) (λ_=>true) k A0=X16 (X86 ops.toList rs) (λ_=>true) k A0:=by
   intro k hk;refine Xmj k A0 λq hq u=>?_;simp only[X86,hget q om]
  have hH1:∀ k,k<=i->X16 (X8d base (rs++[(a,e)])) (λ_=>true) k H0=X16 (X8d base rs) (λ_=>true) k H0:=by
   intro k hk;refine Xmj k H0 λq hq u=>?_;simp only[X8d,hget q om]
  have hlast:(rs++[(a,e)])[i]?=some (a,e):=by rw[<-hlen];simp
  refine⟨(List.getElem?_eq_some_iff.1 hoi).1,by simp[hlen],?_,?_,?_,?_⟩
  ·have:=congrArg List.tail hdrop;rw[List.tail_drop] at this;simpa using this
  ·show _=bif true then X86 ops.toList (rs++[(a,e)]) i (X16 _ _ i A0) else _;rw[hA1 i (Nat.le_refl _),<-hA,cond_true];simp only[X86,hoi,hlast]
  ·show _=bif true then X8d base (rs++[(a,e)]) i (X16 _ _ i H0) else _;rw[hH1 i (Nat.le_refl _),<-hH,cond_true];simp only[X8d,hlast]
  ·intro k o' r ho' hr;by_cases hk:k<i
   ·rw[hget k hk] at hr;have:=hall k o' r ho' hr;rw[hA1 k om,hH1 k om,List.take_append_of_le_length om];exact this
   ·have hke:k=i:=by
     have:=(List.getElem?_eq_some_iff.1 hr).1;simp at this;omega
    subst hke;rw[hlast] at hr;cases hr
    rw[hoi] at ho';cases ho'
    have ht:(rs++[(a,e)]).take k=rs:=by rw[<-hlen];simp
    rw[hA1 k (Nat.le_refl _),hH1 k (Nat.le_refl _),<-hA,<-hH,ht];exact⟨hd,hone,hw⟩
 induction h with
 |@nil i A H es =>
  intro A0 H0 rs hile hlen hes hdrop hA hH hall;have hle:ops.toList.length<=i:=List.drop_eq_nil_iff.1 hdrop;have hi:i=ops.toList.length:=by omega
  subst hi;exact⟨rs,⟨hlen,hall⟩,hA,hH⟩
 |@op i o l A H es a e A' H' hg hd h hw k ih =>
  intro A0 H0 rs hile hlen hes hdrop hA hH hall;subst hes;obtain⟨h0,h1,h2,h3,h4,h5⟩:=ext i o l A H a e A0 H0 rs hlen hdrop hA hH hd (.run (.inl hg) h) hw hall;exact ih A0 H0 _ h0 h1 (by simp) h2 h3 h4 h5
 |@run i o l A H es a e A' H' j t want hg hd hj ht hb h hw k ih =>
  intro A0 H0 rs hile hlen hes hdrop hA hH hall;subst hes;obtain⟨h0,h1,h2,h3,h4,h5⟩:=ext i o l A H a e A0 H0 rs hlen hdrop hA hH hd (.run (.inr ⟨j,t,want,hg,hj,by simpa using ht,hb⟩) h) hw hall;exact ih A0 H0 _ h0 h1 (by simp) h2 h3 h4 h5
 |@skip i o l A H es A' H' j t want v hg hd hj ht hb hbw k ih =>
  intro A0 H0 rs hile hlen hes hdrop hA hH hall;subst hes;obtain⟨h0,h1,h2,h3,h4,h5⟩:=ext i o l A H (.sc undef) .none A0 H0 rs hlen hdrop hA hH hd (.skip hg hj (by simpa using ht) hb hbw) (Xru (i:=0) _ _ _ _) hall;exact ih A0 H0 _ h0 h1 (by simp) h2 h3 h4 h5
end Go.Av


namespace Go.Av
variable [Gls]
theorem Xue {V:Type} {f:Nat->V->V} {i:Nat}:∀ (n:Nat) (v:V),i<=n->X16 f (λk=>Nat.blt k i) n v=X16 f (λ_=>true) i v:=by
  intro n
  induction n with
  | zero => intro v h; have : i = 0 := by omega
            subst this;rfl
  |succ n ih =>
    intro v h;by_cases hi:i=n+1
    · subst hi
      refine X6c _ v λk hk=>.inr ?_;simpa using hk
    · have:Nat.blt n i=false:=by rw[<-Bool.not_eq_true];simp;omega
      simp only[X16,this,cond_false];exact ih v om
def gA (l:List Oper) (rs:List (AV×X3b)) (t:Nat) (k:Nat) (v:AV):AV :=
 match l[k]?,rs[k]? with
 |some o,some r=>if o.dst=some t then r.1 else v
 |_,_=>v
def gH (base:Nat) (rs:List (AV×X3b)) (o:Nat) (k:Nat) (u:Option Obj):Option Obj :=
 match rs[k]? with
 |some r=>(r.2.at (base+k) o).getD u
 |none=>u
theorem Xku (l:List Oper) (rs:List (AV×X3b)) (S:Nat->Bool) (A0:Nat->AV) (t:Nat):∀ n,X16 (X86 l rs) S n A0 t=X16 (gA l rs t) S n (A0 t):=by
 intro n
 induction n with
 |zero=>rfl
 |succ n ih =>
  simp only[X16]
  cases S n with
  |false=>simpa using ih
  |true =>
   simp only[cond_true];rw[<-ih];unfold X86 gA
   cases l[n]? with
   |none=>rfl
   |some o =>
    cases rs[n]? with
    |none=>rfl
    |some r =>
     simp only[]
     cases hd:o.dst with
     |none=>simp[Xfz]
     |some d =>
      simp only[Xfz,Option.some.injEq];by_cases h:t=d
      ·subst h;rw[Xm,if_pos rfl]
      ·rw[Xl _ _ h,if_neg (λe=>h e.symm)]
theorem Xhd (base:Nat) (rs:List (AV×X3b)) (S:Nat->Bool) (H0:X0c) (o:Nat):∀ n,X16 (X8d base rs) S n H0 o=X16 (gH base rs o) S n (H0 o):=by
 intro n
 induction n with
 |zero=>rfl
 |succ n ih =>
  simp only[X16]
  cases S n with
  |false=>simpa using ih
  |true =>
   simp only[cond_true];rw[<-ih];unfold X8d gH
   cases rs[n]? with
   |none=>rfl
   |some r=>rfl
def Xd1:Nat->List Oper->Bool
 |i,o::l=>(Xdt o).all (λj=>Nat.blt j i)&&Xd1 (i+1) l
 |_,[]=>true
theorem X81:∀ (l:List Oper) (i0:Nat),Xd1 i0 l=true->∀ (i:Nat) o,l[i]?=some o->∀ j∈Xdt o,j<i0+i:=by
 intro l
 induction l with
 |nil=>intro i0 h i o ho;simp at ho
 |cons a l ih =>
  intro i0 h i o ho j hj;simp only[Xd1,Bool.and_eq_true] at h
  cases i with
  |zero =>
   simp at ho;subst ho;simpa using List.all_eq_true.1 h.1 j hj
  |succ i =>
   have:=ih (i0+1) h.2 i o (by simpa using ho) j hj;omega
section
variable {hz:Oper->Nat->Bool} {P:Program} {T:Ty} {nt n0 base:Nat} {ops:Array Oper} {A0:Nat->AV} {H0:X0c} {rs:List (AV×X3b)}
structure Down (l:List Oper) (S:Nat->Bool):Prop where
 lt:∀ k,S k=true->k<l.length
 pre:∀ (k:Nat),S k=true->∀ q,((X27 l).getD k 0).testBit q=true->S q=true
theorem X09g (hall:DAll hz P T nt base ops (X27 ops.toList) A0 H0 rs) {S:Nat->Bool} (hS:Down ops.toList S) {i:Nat} (hi:i<ops.toList.length) (hn:S i=false)
  (hr:∀ q,((X27 ops.toList).getD i 0).testBit q=true->S q=true) {t:Nat} (ht:Xnf t (X9e i ((X27 ops.toList).getD i 0) 0 ops.toList (X27 ops.toList))=false) :
  X16 (X86 ops.toList rs) (λ_=>true) i A0 t=X16 (X86 ops.toList rs) S ops.toList.length A0 t:=by
 rw[Xku,Xku,<-Xue ops.toList.length _ om];refine X6c _ _ λk hk=>?_;have ho:=List.getElem?_eq_getElem hk;have hml:k<(X27 ops.toList).length:=by rw[(Xhr _).len];exact hk
 by_cases hd:(ops.toList[k]).dst=some t
 ·right;have hnot:t ∉ X9e i ((X27 ops.toList).getD i 0) 0 ops.toList (X27 ops.toList):=λh=>by rw[Xl2.2 h] at ht;cases ht
  have hmk:(X27 ops.toList)[k]?=some ((X27 ops.toList).getD k 0):=by simp[List.getD,hml]
  by_cases hki:k=i
  ·subst hki;rw[hn];exact(show Nat.blt k k=false by rw[<-Bool.not_eq_true,Nat.blt_eq];omega)
  ·by_cases hlt:k<i
   ·have hb:Nat.blt k i=true:=by simpa using hlt
    rw[hb]
    cases hq:Nat.testBit ((X27 ops.toList).getD i 0) k with
    |true=>exact(hr k hq).symm
    |false =>
     exact absurd (Xt5 (i:=i) (mi:=(X27 ops.toList).getD i 0) _ _ 0 k _ _ t ho hmk hd om (λ_=>by simpa using hq) (λh=>by omega)) hnot
   ·have hb:Nat.blt k i=false:=by rw[<-Bool.not_eq_true];simpa using hlt
    rw[hb]
    cases hq:Nat.testBit ((X27 ops.toList).getD k 0) i with
    |true =>
     cases hs:S k with
     |false=>rfl
     |true=>have:=hS.pre k hs i hq;rw[hn] at this;cases this
    |false =>
     exact absurd (Xt5 (i:=i) (mi:=(X27 ops.toList).getD i 0) _ _ 0 k _ _ t ho hmk hd om (λh=>by omega) (λ_=>hq)) hnot
 ·left;intro u;unfold gA;rw[ho]
  cases rs[k]? with
  |none=>rfl
  |some r=>simp only[if_neg hd]
theorem Xnx (hall:DAll hz P T nt base ops (X27 ops.toList) A0 H0 rs) {k i o:Nat} {r ri:AV×X3b} (hr:rs[k]?=some r) (hri:rs[i]?=some ri) (hik:i<k) (ho:o∈r.2.objs (base+k)) :
  Nat.testBit ((X27 ops.toList).getD k 0) i=true \/
   (Xas base ((X27 ops.toList).getD i 0) ((ops.toList[i]?).elim (λ_=>false) hz) ((rs.take i).map (·.2)) o=true/\o ∉ ri.2.objs (base+i)):=by
 have hk:k<rs.length:=(List.getElem?_eq_some_iff.1 hr).1;have hkl:k<ops.toList.length:=by rw[<-hall.len];exact hk
 obtain⟨_,_,hw⟩:=hall.one k _ r (List.getElem?_eq_getElem hkl) hr;have hml:(X27 ops.toList).length=ops.toList.length:=(Xhr _).len;have hil:i<ops.toList.length:=by omega
 have:=Xqb _ 0 _ [] hw (by simp[hml,hall.len]) i ri.2 ((X27 ops.toList).getD i 0,hz (ops.toList[i])) ?_ ?_
 ·simp only[Nat.zero_add,List.nil_append] at this;refine this.imp id λh=>?_;have:=h o ho;rw[<-List.map_take,List.take_take,Nat.min_eq_left om] at this;rw[List.getElem?_eq_getElem hil];exact this
 ·rw[List.getElem?_map,List.getElem?_take,if_pos hik,hri];rfl
 ·rw[List.getElem?_take,if_pos hik,List.getElem?_zip_eq_some];refine⟨?_,?_⟩
  ·have:i<(X27 ops.toList).length:=by omega
   simp only[List.getD,List.getElem?_eq_getElem this,Option.getD_some]
  ·rw[List.getElem?_map,List.getElem?_eq_getElem hil];rfl
theorem X09f (hall:DAll hz P T nt base ops (X27 ops.toList) A0 H0 rs) {S:Nat->Bool} (hS:Down ops.toList S) {i:Nat} (hi:i<ops.toList.length) (hn:S i=false)
  (hr:∀ q,((X27 ops.toList).getD i 0).testBit q=true->S q=true) {o:Nat}
  (ht:Xas base ((X27 ops.toList).getD i 0) (hz (ops.toList[i])) ((rs.take i).map (·.2)) o=false) :
  X16 (X8d base rs) (λ_=>true) i H0 o=X16 (X8d base rs) S ops.toList.length H0 o:=by
 rw[Xhd,Xhd,<-Xue ops.toList.length _ om];refine X6c _ _ λk hk=>?_;have hkr:k<rs.length:=by rw[hall.len];exact hk
 have hir:i<rs.length:=by rw[hall.len];exact hi
 have hrk:=List.getElem?_eq_getElem hkr;by_cases hd:o∈(rs[k]).2.objs (base+k)
 ·right;by_cases hki:k=i
  ·subst hki;rw[hn];exact(show Nat.blt k k=false by rw[<-Bool.not_eq_true,Nat.blt_eq];omega)
  ·by_cases hlt:k<i
   ·have hb:Nat.blt k i=true:=by simpa using hlt
    rw[hb];simp only[Xas,Bool.or_eq_false_iff] at ht;have:=Xnh _ 0 k (rs[k]).2 (by rw[List.getElem?_map,List.getElem?_take,if_pos hlt,hrk];rfl) ht.2 (by simpa using hd);exact(hr k (by simpa using this)).symm
   ·have hb:Nat.blt k i=false:=by rw[<-Bool.not_eq_true];simpa using hlt
    rw[hb];rcases Xnx hall hrk (List.getElem?_eq_getElem hir) om hd with h|h
    ·cases hs:S k with
     |false=>rfl
     |true=>have:=hS.pre k hs i h;rw[hn] at this;cases this
    ·rw[List.getElem?_eq_getElem hi] at h;have h1:Xas base ((X27 ops.toList).getD i 0) (hz (ops.toList[i])) ((rs.take i).map (·.2)) o=true:=h.1;rw[ht] at h1;cases h1
 ·left;intro u;unfold gH;rw[hrk];simp only[X3b.at_objs hd,Option.getD_none]
theorem X03x (hall:DAll hz P T nt base ops (X27 ops.toList) A0 H0 rs) {S:Nat->Bool} (hS:Down ops.toList S) {i:Nat} (hi:i<ops.toList.length) (hn:S i=false)
  {r:AV×X3b} (hri:rs[i]?=some r) (hdst:Xev nt (X9e i ((X27 ops.toList).getD i 0) 0 ops.toList (X27 ops.toList)) (ops.toList[i]).dst=true) :
  X16 (X86 ops.toList rs) (λk=>S k||Nat.beq k i) ops.toList.length A0=Xfz (X16 (X86 ops.toList rs) S ops.toList.length A0) (ops.toList[i]).dst r.1:=by
 funext t
 rw[Xku];have hoi:=List.getElem?_eq_getElem hi;by_cases hd:(ops.toList[i]).dst=some t
 ·rw[Xjz hn _ _ hi]
  ·rw[hd];simp only[Xfz,Xm];unfold gA;rw[hoi,hri];simp only[if_pos hd]
  ·intro k hk hs;by_cases hki:k<i
   ·exact .inr hki
   ·left;intro u;have hne:k≠i:=λh=>by subst h;rw[hn] at hs;cases hs
    have hok:=List.getElem?_eq_getElem hk;have hml:k<(X27 ops.toList).length:=by rw[(Xhr _).len];exact hk
    have hmk:(X27 ops.toList)[k]?=some ((X27 ops.toList).getD k 0):=by simp[List.getD,hml]
    have hdk:(ops.toList[k]).dst≠some t:=by
     intro hdk;rw[hd] at hdst;simp only[Xev,Bool.and_eq_true,Bool.not_eq_true'] at hdst;have hnot:t ∉ X9e i ((X27 ops.toList).getD i 0) 0 ops.toList (X27 ops.toList):=λh=>by rw[Xl2.2 h] at hdst;cases hdst.2
     cases hq:Nat.testBit ((X27 ops.toList).getD k 0) i with
     |true=>have:=hS.pre k hs i hq;rw[hn] at this;cases this
     |false=>exact hnot (Xt5 (i:=i) (mi:=(X27 ops.toList).getD i 0) _ _ 0 k _ _ t hok hmk hdk om (λh=>by omega) (λ_=>hq))
    unfold gA;rw[hok]
    cases rs[k]? with
    |none=>rfl
    |some r=>simp only[if_neg hdk]
 ·have:Xfz (X16 (X86 ops.toList rs) S ops.toList.length A0) (ops.toList[i]).dst r.1 t=X16 (X86 ops.toList rs) S ops.toList.length A0 t:=by
   cases h:(ops.toList[i]).dst with
   |none=>rfl
   |some d=>simp only[Xfz];exact Xl _ _ (λe=>hd (by rw[h,e]))
  rw[this,Xku];refine X6c _ _ λk hk=>?_;by_cases hki:k=i
  ·subst hki;left;intro u;unfold gA;rw[hoi,hri];simp only[if_neg hd]
  ·right;have:Nat.beq k i=false:=by rw[<-Bool.not_eq_true,Nat.beq_eq];exact hki
   simp[this]
theorem X03w (hall:DAll hz P T nt base ops (X27 ops.toList) A0 H0 rs) {S:Nat->Bool} (hS:Down ops.toList S) {i:Nat} (hi:i<ops.toList.length) (hn:S i=false)
  {r:AV×X3b} (hri:rs[i]?=some r) :
  X16 (X8d base rs) (λk=>S k||Nat.beq k i) ops.toList.length H0=r.2.go (base+i) (X16 (X8d base rs) S ops.toList.length H0):=by
 funext o
 rw[Xhd];by_cases hd:o∈r.2.objs (base+i)
 ·rw[Xjz hn _ _ hi]
  ·unfold gH;rw[hri];simp only[X3b.go];rw[Xhd];rfl
  ·intro k hk hs;by_cases hki:k<i
   ·exact .inr hki
   ·left;intro u;have hne:k≠i:=λh=>by subst h;rw[hn] at hs;cases hs
    have hkr:k<rs.length:=by rw[hall.len];exact hk
    have hrk:=List.getElem?_eq_getElem hkr;have hdk:o ∉ (rs[k]).2.objs (base+k):=by
     intro hdk;rcases Xnx hall hrk hri om hdk with h|h
     ·have:=hS.pre k hs i h;rw[hn] at this;cases this
     ·exact h.2 hd
    unfold gH;rw[hrk];simp only[X3b.at_objs hdk,Option.getD_none]
 ·have:r.2.go (base+i) (X16 (X8d base rs) S ops.toList.length H0) o=X16 (X8d base rs) S ops.toList.length H0 o:=by
   simp only[X3b.go,X3b.at_objs hd,Option.getD_none]
  rw[this,Xhd];refine X6c _ _ λk hk=>?_;by_cases hki:k=i
  ·subst hki;left;intro u;unfold gH;rw[hri];simp only[X3b.at_objs hd,Option.getD_none]
  ·right;have:Nat.beq k i=false:=by rw[<-Bool.not_eq_true,Nat.beq_eq];exact hki
   simp[this]
theorem X023 {c0 c:Ctx} {H0 H:X0c} {A:Nat->AV} {M:Nat->Prop} {act:Act} (g:Xen nt c0 H0 n0 c A H M act) {j t:Nat} {b:Bool} (hj:(ops[j]?).bind (·.dst)=some t) (ht:t<nt)
  (hb:Xe6 (A t)=.sc (.bool b)):yielded ops act.tmps j=some b:=by
 have h1:=g.ev (.tmp t);simp only[evA,hb] at h1;have h2:=h1.sc_inv;simp only[Act.eval] at h2;have hlt:t<act.tmps.size:=by rw[g.size];exact ht
 unfold yielded;rw[hj];simp only[Option.bind_some,Array.getElem?_eq_getElem hlt];have:act.tmps[t]=.bool b:=by simpa[hlt] using h2
 rw[this]
def AtS (base:Nat) (S:Nat->Bool) (q:Nat):Prop:=q<base\/∃ k,S k=true/\q=base+k
theorem X5i {md:Region.Mode} {listed:Array Bool} {i:Nat}:i∈Region.ready md ops listed ↔
  i<ops.size/\listed.getD i true=false/\((ops[i]?).map (·.after.all λe=>!Region.binds md e||listed.getD e.on false)).getD false=true:=by
 simp[Region.ready]
theorem Xyk {c0 c:Ctx} {H0 H:X0c} {A:Nat->AV} {M:Nat->Prop} {act:Act} (g:Xen nt c0 H0 n0 c A H M act) {o:Oper} {j t:Nat} {want:Bool} {v:Value} (hg:o.guard=some (j,want)) (hj:(ops[j]?).bind (·.dst)=some t) (ht:t<nt)
  (hb:Xe6 (A t)=.sc v) (hv:Xri want v=false):Region.wanted o (yielded ops act.tmps)=false:=by
 have h1:=g.ev (.tmp t);simp only[evA,hb] at h1;have h2:=h1.sc_inv;simp only[Act.eval] at h2;have hlt:t<act.tmps.size:=by rw[g.size];exact ht
 have h3:act.tmps[t]=v:=by simpa[hlt] using h2
 unfold Region.wanted yielded;rw[hg];simp only[hj,Option.bind_some,Array.getElem?_eq_getElem hlt,h3];cases v<;>first|rfl|(simp only[Xri] at hv;simpa using hv)
theorem Xry {o:Oper} {ys:Nat->Option Bool} (h:o.guard=none):Region.wanted o ys=true:=by simp[Region.wanted,h]
theorem Xrx {o:Oper} {ys:Nat->Option Bool} {j:Nat} {want b:Bool} (h:o.guard=some (j,want)) (hy:ys j=some b):Region.wanted o ys=(b==want):=by
 simp[Region.wanted,h,hy]
theorem Xug (hT:Xf0 P T) (hpre:Xd1 0 ops.toList=true) (hall:DAll hz P T nt base ops (X27 ops.toList) A0 H0 rs) {Q:Xp->St->Prop}
  (hQ:Q .normal ⟨X16 (X86 ops.toList rs) (λ_=>true) ops.toList.length A0,X16 (X8d base rs) (λ_=>true) ops.toList.length H0,base+ops.toList.length⟩)
  {c0:Ctx} {HH:X0c} {ds:List Deferred} (hb0:n0<=base) :
  ∀ (fuel:Nat) (listed:Array Bool) (L:List Nat) (c:Ctx) (act:Act),listed.size=ops.size->L.length<=fuel->(∀ k,k<ops.size->listed.getD k false=false->k∈L) ->
   (∀ (i:Nat) o,ops.toList[i]?=some o->listed.getD i false=true->∀ j∈Xdt o,listed.getD j false=true) ->
   Xen nt c0 HH n0 c (X16 (X86 ops.toList rs) (λk=>listed.getD k false) ops.toList.length A0) (X16 (X8d base rs) (λk=>listed.getD k false) ops.toList.length H0)
    (AtS base (λk=>listed.getD k false)) act ->
   act.defers=ds->wpAny P .any ops (CQ nt c0 HH n0 ds Q) fuel listed act c.w:=by
 have hlen:ops.toList.length=ops.size:=Array.length_toList;have fin:∀ (listed:Array Bool) (c:Ctx) (act:Act),listed.size=ops.size->(∀ (i:Nat) o,ops.toList[i]?=some o->listed.getD i false=true->∀ j∈Xdt o,listed.getD j false=true) ->
   Xen nt c0 HH n0 c (X16 (X86 ops.toList rs) (λk=>listed.getD k false) ops.toList.length A0) (X16 (X8d base rs) (λk=>listed.getD k false) ops.toList.length H0)
    (AtS base (λk=>listed.getD k false)) act->Region.ready .any ops listed=[]->act.defers=ds->CQ nt c0 HH n0 ds Q .normal act c.w:=by
  intro listed c act hsz hdown g hr hds;have hfull:∀ k,k<ops.size->listed.getD k false=true:=by
   intro k
   induction k using Nat.strongRecOn with
   |_ k ih =>
    intro hk
    cases hl:listed.getD k false with
    |true=>rfl
    |false =>
     have hkl:k<listed.size:=by omega
     have hmem:k∈Region.ready .any ops listed:=by
      rw[X5i];refine⟨hk,?_,?_⟩
      ·simp only[Array.getD_eq_getD_getElem?,Array.getElem?_eq_getElem hkl,Option.getD_some] at hl ⊢;exact hl
      ·rw[Array.getElem?_eq_getElem hk];simp only[Option.map_some,Option.getD_some];rw[Array.all_eq_true_iff_forall_mem];intro e he
       cases hbd:Region.binds .any e with
       |false=>rfl
       |true =>
        have hpk:ops.toList[k]?=some ops[k]:=by simp[hk]
        have hin:e.on∈Xdt ops[k]:=List.mem_map.2 ⟨e,List.mem_filter.2 ⟨by simpa using he,hbd⟩,rfl⟩;have hlt:=X81 _ 0 hpre k _ hpk e.on hin;rw[ih e.on om om];rfl
     rw[hr] at hmem;cases hmem
  have hcongr:∀ k,k<ops.toList.length->listed.getD k false=true:=λk hk=>hfull k om;refine⟨c,⟨_,_,_⟩,.normal,rfl,?_,hds,rfl,hQ⟩;have hA:X16 (X86 ops.toList rs) (λk=>listed.getD k false) ops.toList.length A0=X16 (X86 ops.toList rs) (λ_=>true) ops.toList.length A0 :=
   X6c _ _ λk hk=>.inr (hcongr k hk)
  have hH:X16 (X8d base rs) (λk=>listed.getD k false) ops.toList.length H0=X16 (X8d base rs) (λ_=>true) ops.toList.length H0 :=
   X6c _ _ λk hk=>.inr (hcongr k hk)
  rw[hA,hH] at g;have hM:∀ q,AtS base (λk=>listed.getD k false) q->q<base+ops.toList.length:=by
   rintro q (h|⟨k,hk,rfl⟩)
   ·omega
   ·have:k<listed.size:=by
     cases Nat.lt_or_ge k listed.size with
     |inl h=>exact h
     |inr h=>simp[Array.getD_eq_getD_getElem?,Array.getElem?_eq_none h] at hk
    omega
  exact⟨g.inv.more hM,g.solo,g.frame,λt=>(g.ok t).mono hM,g.size,g.reach,by show n0<=base+_;omega⟩
 intro fuel
 induction fuel with
 |zero =>
  intro listed L c act hsz hL hin hdown g hds;have hnil:L=[]:=List.length_eq_zero_iff.1 om;subst hnil;have hr:Region.ready .any ops listed=[]:=by
   rw[List.eq_nil_iff_forall_not_mem];intro i hi;rw[X5i] at hi;obtain⟨h1,h2,_⟩:=hi;have:=hin i h1 (by
    have hil:i<listed.size:=by omega
    simp only[Array.getD_eq_getD_getElem?,Array.getElem?_eq_getElem hil,Option.getD_some] at h2 ⊢;exact h2)
   cases this
  exact⟨hr,fin listed c act hsz hdown g hr hds⟩
 |succ fuel ih =>
  intro listed L c act hsz hL hin hdown g hds;refine⟨λhr=>fin listed c act hsz hdown g hr hds,λi hi=>?_⟩;rw[X5i] at hi;obtain⟨h1,h2,h3⟩:=hi;have hil:i<listed.size:=by omega
  have hli:listed.getD i false=false:=by
   simp only[Array.getD_eq_getD_getElem?,Array.getElem?_eq_getElem hil,Option.getD_some] at h2 ⊢;exact h2
  have hi':i<ops.toList.length:=by omega
  have hoi:ops.toList[i]?=some ops.toList[i]:=List.getElem?_eq_getElem hi';have hoa:ops[i]?=some ops.toList[i]:=by rw[<-Array.getElem?_toList];exact hoi
  have hprei:∀ j∈Xdt ops.toList[i],listed.getD j false=true:=by
   intro j hj;obtain⟨e,he,rfl⟩:=List.mem_map.1 hj;obtain⟨he1,he2⟩:=List.mem_filter.1 he;rw[hoa] at h3;simp only[Option.map_some,Option.getD_some] at h3;rw[Array.all_eq_true_iff_forall_mem] at h3;have:=h3 e (by simpa using he1);rw[he2] at this;simpa using this
  have hpl:∀ (i:Nat) o,ops.toList[i]?=some o->∀ j∈Xdt o,j<i:=λi o ho j hj=>by
   have:=X81 _ 0 hpre i o ho j hj;omega
  have hcm:=Xk1 (S:=λk=>listed.getD k false) hpl hdown;have hS:Down ops.toList (λk=>listed.getD k false):=by
   refine⟨λk hk=>?_,λk hk q hq=>?_⟩
   ·cases Nat.lt_or_ge k listed.size with
    |inl h=>omega
    |inr h=>simp[Array.getD_eq_getD_getElem?,Array.getElem?_eq_none h] at hk
   ·have hkl:k<ops.toList.length:=by
     cases Nat.lt_or_ge k listed.size with
     |inl h=>omega
     |inr h=>simp[Array.getD_eq_getD_getElem?,Array.getElem?_eq_none h] at hk
    exact(hcm k _ (List.getElem?_eq_getElem hkl) (hdown k _ (List.getElem?_eq_getElem hkl) hk) q hq).1
  have hri:∀ q,((X27 ops.toList).getD i 0).testBit q=true->listed.getD q false=true:=λq hq=>(hcm i _ hoi hprei q hq).1;have hirs:i<rs.length:=by rw[hall.len];exact hi'
  obtain⟨hdst,hone,_⟩:=hall.one i _ _ hoi (List.getElem?_eq_getElem hirs);have hdlt:∀ d,(ops.toList[i]).dst=some d->d<nt:=by
   intro d hd;rw[hd] at hdst;simp only[Xev,Bool.and_eq_true] at hdst;simpa using hdst.1
  have hA:∀ t,frD (X9e i ((X27 ops.toList).getD i 0) 0 ops.toList (X27 ops.toList)) (X16 (X86 ops.toList rs) (λ_=>true) i A0) t=X16 (X86 ops.toList rs) (λk=>listed.getD k false) ops.toList.length A0 t \/
    frD (X9e i ((X27 ops.toList).getD i 0) 0 ops.toList (X27 ops.toList)) (X16 (X86 ops.toList rs) (λ_=>true) i A0) t=.junk:=by
   intro t;unfold frD
   cases ht:Xnf t (X9e i ((X27 ops.toList).getD i 0) 0 ops.toList (X27 ops.toList)) with
   |true=>exact .inr rfl
   |false=>exact .inl (X09g hall hS hi' hli hri ht)
  have hV:∀ o x,hpD base ((X27 ops.toList).getD i 0) (hz (ops.toList[i])) ((rs.take i).map (·.2)) (X16 (X8d base rs) (λ_=>true) i H0) o=some x ->
    X16 (X8d base rs) (λk=>listed.getD k false) ops.toList.length H0 o=some x:=by
   intro o x hx;unfold hpD at hx
   cases ht:Xas base ((X27 ops.toList).getD i 0) (hz (ops.toList[i])) ((rs.take i).map (·.2)) o with
   |true=>rw[ht] at hx;cases hx
   |false =>
    rw[ht,cond_false] at hx;rw[<-X09f hall hS hi' hli hri ht];exact hx
  have hid:¬ AtS base (λk=>listed.getD k false) (base+i):=by
   rintro(h|⟨k,hk,h⟩)
   ·omega
   ·have:k=i:=by omega
    subst this;have hk':listed.getD k false=true:=hk;rw[hli] at hk';cases hk'
  have hMb:∀ q,AtS base (λk=>listed.getD k false) q->q<base+ops.toList.length:=by
   rintro q (h|⟨k,hk,rfl⟩)
   ·omega
   ·have:=hS.lt k hk;omega
  have hset:∀ k,(listed.setIfInBounds i true).getD k false=(listed.getD k false||Nat.beq k i):=by
   intro k;simp only[Array.getD_eq_getD_getElem?];by_cases hk:k=i
   ·subst hk;rw[Array.getElem?_setIfInBounds_self,if_pos hil];simp
   ·rw[Array.getElem?_setIfInBounds_ne (λe=>hk e.symm)];have:Nat.beq k i=false:=by rw[<-Bool.not_eq_true,Nat.beq_eq];exact hk
    rw[this,Bool.or_false]
  have hfn:(λk=>(listed.setIfInBounds i true).getD k false)=(λk=>listed.getD k false||Nat.beq k i):=funext hset;have after:∀ (c':Ctx) (v:Value) (e:X3b),e=(rs[i]).2 ->
    Xen nt c0 HH n0 c' (Xfz (X16 (X86 ops.toList rs) (λk=>listed.getD k false) ops.toList.length A0) (ops.toList[i]).dst (rs[i]).1)
     (e.go (base+i) (X16 (X8d base rs) (λk=>listed.getD k false) ops.toList.length H0)) (λq=>AtS base (λk=>listed.getD k false) q\/q=base+i) (act.put (ops.toList[i]).dst v) ->
    wpAny P .any ops (CQ nt c0 HH n0 ds Q) fuel (listed.setIfInBounds i true) (act.put (ops.toList[i]).dst v) c'.w:=by
   rintro c' v _ rfl g';have hiL:i∈L:=hin i h1 hli;refine ih _ (L.erase i) c' _ (by simpa using hsz) (by rw[List.length_erase_of_mem hiL];omega) ?_ ?_ ?_ ((put_defers _ _ _).trans hds)
   ·intro k hk hlk;rw[hset] at hlk;have h4:=Bool.or_eq_false_iff.1 hlk;have hne:k≠i:=λh=>by subst h;simp at h4
    exact(List.mem_erase_of_ne hne).2 (hin k hk h4.1)
   ·intro k o ho hk j hj;rw[hset] at hk ⊢;rcases Bool.or_eq_true_iff.1 hk with hk|hk
    ·rw[hdown k o ho hk j hj];rfl
    ·have:k=i:=by simpa using hk
     subst this;rw[hoi] at ho;cases ho;rw[hprei j hj];rfl
   ·rw[hfn,X03x hall hS hi' hli (List.getElem?_eq_getElem hirs) hdst,X03w hall hS hi' hli (List.getElem?_eq_getElem hirs)];have hMM:(AtS base λk=>listed.getD k false||Nat.beq k i)=(λq=>AtS base (λk=>listed.getD k false) q\/q=base+i):=by
     funext q
     apply propext;constructor
     ·rintro(h|⟨k,hk,rfl⟩)
      ·exact .inl (.inl h)
      ·rcases Bool.or_eq_true_iff.1 hk with hk|hk
       ·exact .inl (.inr ⟨k,hk,rfl⟩)
       ·have:k=i:=by simpa using hk
        exact .inr (by rw[this])
     ·rintro((h|⟨k,hk,rfl⟩)|rfl)
      ·exact .inl h
      ·exact .inr ⟨k,by simp[hk],rfl⟩
      ·exact .inr ⟨i,by simp,rfl⟩
    rw[hMM];exact g'
  unfold wpOp;rw[hoa];simp only[];have gj:=g.junk hA;generalize hre:(rs[i]).2=ef at hone after;generalize hra:(rs[i]).1=av at hone after
  cases hone with
  |@run a e hg h =>
   have hw:Region.wanted (ops.toList[i]) (yielded ops act.tmps)=true:=by
    rcases hg with hg|⟨j,t,want,hg,hj,ht,hb⟩
    ·exact Xry hg
    ·rw[Xrx hg (X023 gj hj ht hb)];simp
   rw[if_pos hw];left;refine DOp.step hT g hMb hA hV hid h hdlt _ _ λc' v g'=>?_;exact after c' v _ rfl g'
  |@skip j t want v hg hj ht hb hbw =>
   have hw:Region.wanted (ops.toList[i]) (yielded ops act.tmps)=false:=Xyk gj hg hj ht hb hbw;rw[if_neg (by rw[hw];simp)];refine after c undef _ rfl ?_;rw[X3b.go_none];exact g.next hdlt (.refl c) rfl (λb hb=>.inl hb) (.refl c _) (λq x hx=>.inr ⟨q,x,hx,rfl⟩) (g.inv.more λq h=>.inl h) g.solo (λq=>.inl) .sc .sc
theorem X3l.drew {c0 c:Ctx} {s:St} {act:Act} {HH:X0c} (g:X3l nt c0 HH n0 c s act):X3l nt c0 HH n0 { c with w:={ c.w with drawn:=c.w.drawn+1 } } s act:=by
 have hle:c.Le (λ_=>True) { c with w:={ c.w with drawn:=c.w.drawn+1 } }:=⟨λ_ _=>rfl,λ_ h=>h,λ_ h=>h,λ_ _=>rfl,rfl⟩;have all:∀ {a:AV} {M:Nat->Prop},a.Ok M->a.Ok (λ_=>True):=λh=>h.mono λ_ _=>trivial;have r:=g.reach;refine⟨⟨λo x hx=>?_,g.inv.sep,g.inv.stab,g.inv.lt,g.inv.base,g.inv.own,g.inv.low,g.inv.glob.mono hle⟩,g.solo,λt=>(g.frame t).mono hle (.inr (all (g.ok t))),g.ok,g.size,⟨r.rho,r.os,r.tape,⟨r.output.1,Nat.le_trans r.output.2 (Xh9 (Nat.le_succ _))⟩,r.size,r.block,r.stable,r.sa,r.so1,r.so2,r.B,r.own⟩,g.le0⟩;obtain⟨h1,⟨⟨cur,hb,hs,hc⟩,h3,h4,h5⟩,h6⟩:=g.inv.obj o x hx;refine⟨h1,⟨⟨cur,hb,hs,λi e he=>?_⟩,h3,h4,h5⟩,h6⟩;obtain⟨g1,g2⟩:=hc i e he;exact⟨g1,λk a ha=>by obtain⟨v,hv,hr,h7⟩:=g2 k a ha;exact⟨v,hv,hr.mono hle (.inr (all (h6 e (List.mem_of_getElem? he) a (List.mem_of_getElem? ha)))),h7⟩⟩
theorem Xt8.drawn {s:St} {id:Nat} {Q:Xp->St->Prop} {A':Nat->AV} {H':X0c} (hm:P.follows .mixedOrders=true) (hT:Xf0 P T) (hpre:Xd1 0 ops.toList=true)
  (hrun:DRun hz P T nt s.n ops (X27 ops.toList) 0 ops.toList s.A s.H [] A' H') (hQ:Q .normal ⟨A',H',s.n+ops.toList.length⟩):Xt8 P nt n0 (.region id ops true) Q s:=by
 obtain⟨rs,hall,hA,hH⟩:=hrun.all s.A s.H [] (Nat.zero_le _) rfl rfl rfl rfl rfl (λk o r _ hr=>by simp at hr);subst hA hH;intro c0 HH c act g0 R hR;have g:=g0.drew;refine Xgg hm hR (by rintro a w ⟨c,s,ae,_,_,_,h,_⟩;cases ae<;>cases h) ?_;have hzz:∀ k,(Array.replicate ops.size false).getD k false=false:=by
  intro k;simp only[Array.getD_eq_getD_getElem?,Array.getElem?_replicate];split<;>rfl
 have hfn:(λk=>(Array.replicate ops.size false).getD k false)=(λ_=>false):=funext hzz;refine Xug hT hpre hall hQ g.le0 ops.size _ (List.range ops.size) { c with w:={ c.w with drawn:=c.w.drawn+1 } } act (by simp) (by simp) (λk hk _=>List.mem_range.2 hk) (λi o _ h=>by rw[hzz] at h;cases h) ?_ rfl;rw[hfn,Xdx,Xdx];have hM:∀ q,q<s.n->AtS s.n (λ_=>false) q:=λq h=>.inl h;exact⟨g.inv.more hM,g.solo,g.frame,λt=>(g.ok t).mono hM,g.size,g.reach,λq hq=>hM q (Nat.lt_of_lt_of_le hq g.le0)⟩
end
end Go.Av


namespace Go.Av
variable [Gls]
def X00a (H:X0c):AV->Option (AV×Nat)
 |.ptr o i k=>match H o with
  |some x=>match x.es[i]? with
   |some e=>some (e,k)
   |none=>none
  |none=>none
 |.elem _ e k=>some (e,k)
 |_=>none
theorem X009 {H:X0c} {p e:AV} {k:Nat} (h:X00a H p=some (e,k)):Xrm H p e k:=by
 unfold X00a at h;split at h
 ·split at h
  ·split at h
   ·cases h;exact .ptr (by assumption) (by assumption)
   ·cases h
  ·cases h
 ·cases h;exact .elem
 ·cases h
def binF (T:Ty) (op:BinOp) (t:Nat):AV->AV->Option AV
 |.sc (.int k a),.sc (.int k' b) =>
  match op with
  |.quo=>if k=k' then (if b≠0 then some (.sc (.int k (k.wrap (a.tdiv b)))) else none) else none
  |.rem=>if k=k' then (if b≠0 then some (.sc (.int k (a.tmod b))) else none) else none
  |.shl=>if 0<=b then some (.sc (.int k (k.wrap (a*2 ^ (min b.toNat k.bits))))) else none
  |.shr=>if 0<=b then some (.sc (.int k (a.fdiv (2 ^ (min b.toNat k.bits))))) else none
  |op=>if k=k' then (match Xu8 op k a b with|some v=>some (.sc v)|none=>none) else none
 |.sc (.bool a),.sc (.bool b)=>match T t with
  |some ti=>match ti.kind with
   |.bool=>match op with
    |.eql=>some (.sc (.bool (a==b)))
    |.neq=>some (.sc (.bool (!(a==b))))
    |_=>none
   |_=>none
  |none=>none
 |.agg xs,.agg ys=>match T t with
  |some ti=>if ti.eqok=true then (match op with
   |.eql=>match eqT T 10000 t (.agg xs) (.agg ys) with|some r=>some (.sc (.bool r))|none=>none
   |.neq=>match eqT T 10000 t (.agg xs) (.agg ys) with|some r=>some (.sc (.bool (!r)))|none=>none
   |_=>none) else none
  |none=>none
 |_,_=>none
theorem X00q {T:Ty} {ev:Operand->AV} {H:X0c} {op:BinOp} {t yt:Nat} {x y:Operand} {a:AV} (h:binF T op t (ev x) (ev y)=some a):Pu T ev H (.binOp op t x y yt) a:=by
 generalize hx:ev x=u at h;generalize hy:ev y=v at h;unfold binF at h;split at h
 ·split at h
  ·split at h
   ·rename_i hk;subst hk;split at h
    ·cases h;exact .quo hx hy (by assumption)
    ·cases h
   ·cases h
  ·split at h
   ·rename_i hk;subst hk;split at h
    ·cases h;exact .rem hx hy (by assumption)
    ·cases h
   ·cases h
  ·split at h
   ·cases h;exact .shl hx hy (by assumption)
   ·cases h
  ·split at h
   ·cases h;exact .shr hx hy (by assumption)
   ·cases h
  ·split at h
   ·rename_i hk;subst hk;split at h
    ·cases h;exact .binInt hx hy (by assumption)
    ·cases h
   ·cases h
 ·split at h
  ·split at h
   ·split at h
    ·cases h;exact .boolEq hx hy (by assumption) (by assumption)
    ·cases h;exact .boolNe hx hy (by assumption) (by assumption)
    ·cases h
   ·cases h
  ·cases h
 ·split at h
  ·split at h
   ·split at h
    ·split at h
     ·cases h;exact .aggEq hx hy (by assumption) (by assumption) (by assumption)
     ·cases h
    ·split at h
     ·cases h;exact .aggNe hx hy (by assumption) (by assumption) (by assumption)
     ·cases h
    ·cases h
   ·cases h
  ·cases h
 ·cases h
def unF (op:UnOp):AV->Option AV
 |.sc (.int k n)=>match op with
  |.neg=>some (.sc (.int k (k.wrap (0 - n))))
  |_=>none
 |.sc (.bool b)=>match op with
  |.not=>some (.sc (.bool (!b)))
  |_=>none
 |_=>none
def X08m (T:Ty) (src dst:Nat):AV->Option AV
 |.sc (.int _ n)=>match T src with
  |some _=>match T dst with
   |some td=>match td.kind with
    |.int k'=>some (.sc (.int k' (k'.wrap n)))
    |_=>none
   |none=>none
  |none=>none
 |.sc (.string s)=>match T src with
  |some _=>match T dst with
   |some td=>match td.kind with
    |.string=>some (.sc (.string s))
    |_=>none
   |none=>none
  |none=>none
 |_=>none
def Xon (T:Ty) (s f:Nat):Option (Nat×TI) :=
 match T s with
 |some ti=>match ti.kind with
  |.struct fs=>match fs[f]? with
   |some (off,ft)=>match T ft with
    |some tf=>some (off,tf)
    |none=>none
   |none=>none
  |_=>none
 |none=>none
theorem Xi4 {T:Ty} {s f off:Nat} {tf:TI} (h:Xon T s f=some (off,tf)):∃ ti fs ft,T s=some ti/\ti.kind=.struct fs/\fs[f]?=some (off,ft)/\T ft=some tf:=by
 unfold Xon at h;split at h
 ·split at h
  ·split at h
   ·split at h
    ·cases h;exact⟨_,_,_,by assumption,by assumption,by assumption,by assumption⟩
    ·cases h
   ·cases h
  ·cases h
 ·cases h
def X5t (T:Ty) (t:Nat):Option TI :=
 match T t with
 |some ti=>match ti.kind with
  |.slice et=>T et
  |_=>none
 |none=>none
theorem X29 {T:Ty} {t:Nat} {te:TI} (h:X5t T t=some te):∃ ti et,T t=some ti/\ti.kind=.slice et/\T et=some te:=by
 unfold X5t at h;split at h
 ·split at h
  ·exact⟨_,_,by assumption,by assumption,h⟩
  ·cases h
 ·cases h
def Xnq (T:Ty) (t:Nat):Option (Nat×TI) :=
 match T t with
 |some ti=>match ti.kind with
  |.array n et=>match T et with
   |some te=>some (n,te)
   |none=>none
  |_=>none
 |none=>none
theorem Xcx {T:Ty} {t n:Nat} {te:TI} (h:Xnq T t=some (n,te)):∃ ti et,T t=some ti/\ti.kind=.array n et/\T et=some te:=by
 unfold Xnq at h;split at h
 ·split at h
  ·split at h
   ·cases h;exact⟨_,_,by assumption,by assumption,by assumption⟩
   ·cases h
  ·cases h
 ·cases h
def ixF (T:Ty) (H:X0c) (t:Nat) (x:AV) (i:Int):Option AV :=
 match x with
 |.list own es=>match X5t T t with
  |some te=>match es[i.toNat]? with
   |some e=>if e.cells.length=te.size then some (.elem own e 0) else none
   |none=>none
  |none=>none
 |.ref o off len=>match X5t T t with
  |some te=>if i<len then (match H o with
   |some y=>match y.es[off+i.toNat]? with
    |some e=>if e.cells.length=te.size then some (.ptr o (off+i.toNat) 0) else none
    |none=>none
   |none=>none) else none
  |none=>none
 |.ptr o j q=>match Xnq T t with
  |some (n,te)=>if i<n then some (.ptr o j (q+i.toNat*te.size)) else none
  |none=>none
 |.elem own e q=>match Xnq T t with
  |some (n,te)=>if i<n then some (.elem own e (q+i.toNat*te.size)) else none
  |none=>none
 |_=>none
def bdF (ev:Operand->AV):Option Operand->Nat->Option Nat
 |none,d=>some d
 |some x,_=>match ev x with
  |.sc (.int _ z)=>if 0<=z then some z.toNat else none
  |_=>none
theorem Xcw {ev:Operand->AV} {o:Option Operand} {d n:Nat} (h:bdF ev o d=some n):Bd ev o d n:=by
 unfold bdF at h;split at h
 ·cases h;exact .dflt
 ·split at h
  ·split at h
   ·cases h;exact .given (by assumption) (by assumption)
   ·cases h
  ·cases h
def X04v (T:Ty) (ev:Operand->AV) (H:X0c) (t:Nat) (x:AV) (lo hi:Option Operand):Option AV :=
 match x with
 |.list own es=>match X5t T t with
  |some te=>match bdF ev lo 0,bdF ev hi es.length with
   |some l,some h=>if l<=h then (if h<=es.length then (if es.all (λe=>e.cells.length==te.size) then some (.list own ((es.drop l).take (h - l))) else none) else none) else none
   |_,_=>none
  |none=>none
 |.ref o off len=>match X5t T t with
  |some te=>match bdF ev lo 0,bdF ev hi len with
   |some l,some h=>if h<=len then (if l<h then (match H o with
     |some y=>if y.es.any (λe=>e.cells.length==te.size) then some (.ref o (off+l) (h - l)) else none
     |none=>none)
    else if l=h then some (.list true []) else none) else none
   |_,_=>none
  |none=>none
 |.nils=>match X5t T t with
  |some _=>match bdF ev lo 0,bdF ev hi 0 with
   |some 0,some 0=>some .nils
   |_,_=>none
  |none=>none
 |_=>none
def puF (T:Ty) (ev:Operand->AV) (H:X0c):Op->Option AV
 |.move x=>some (ev x)
 |.assign x=>some (ev x)
 |.pick c a b=>match ev c with
  |.sc (.bool true)=>some (ev a)
  |.sc (.bool false)=>some (ev b)
  |_=>none
 |.load t x=>match T t with
  |some ti=>match X00a H (ev x) with
   |some (e,k)=>Xsd ti e k
   |none=>none
  |none=>none
 |.nilCheck x=>match ev x with
  |.ptr o i k=>some (.ptr o i k)
  |.elem own e k=>some (.elem own e k)
  |.fn f caps=>some (.fn f caps)
  |_=>none
 |.binOp op t x y _=>binF T op t (ev x) (ev y)
 |.unOp op _ x=>unF op (ev x)
 |.convert src dst x=>X08m T src dst (ev x)
 |.fieldAddr s x f=>match Xon T s f with
  |some (off,tf)=>if tf.size≠0 then (match ev x with
   |.ptr o i k=>some (.ptr o i (k+off))
   |.elem own e k=>some (.elem own e (k+off))
   |_=>none) else none
  |none=>none
 |.field s x f=>match Xon T s f with
  |some (off,tf)=>match ev x with
   |.agg cs=>eqT.partA tf cs off
   |_=>none
  |none=>none
 |.indexAddr t x ix=>match ev ix with
  |.sc (.int _ i)=>if 0<=i then ixF T H t (ev x) i else none
  |_=>none
 |.index t x ix=>match ev ix with
  |.sc (.int _ i)=>if 0<=i then (match ev x with
   |.agg cs=>match Xnq T t with
    |some (n,te)=>if i<n then eqT.partA te cs (i.toNat*te.size) else none
    |none=>none
   |_=>none) else none
  |_=>none
 |.slice t x lo hi none=>X04v T ev H t (ev x) lo hi
 |.slice t x none (some hi) (some mx)=>match X5t T t with
  |some _=>match bdF ev (some hi) 0,bdF ev (some mx) 0 with
   |some 0,some 0=>match ev x with
    |.list _ _=>some .nils
    |.ref _ _ _=>some .nils
    |.nils=>some .nils
    |_=>none
   |_,_=>none
  |none=>none
 |.extract x i=>match ev x with
  |.tup cs=>cs[i]?
  |_=>none
 |.makeFunc (.func f) ⟨[]⟩ caps=>some (.fn f (caps.toList.map ev))
 |.call { callee:=.builtin .len,args:=⟨[x]⟩,argTypes:=⟨[t]⟩ }=>match T t with
  |some ti=>match ti.kind with
   |.slice _=>match ev x with
    |.list own es=>some (.sc (.int .i64 es.length))
    |.ref _ _ n=>some (.sc (.int .i64 n))
    |.nils=>some (.sc (.int .i64 (0:Nat)))
    |_=>none
   |.string=>match ev x with
    |.sc (.string s)=>some (.sc (.int .i64 s.size))
    |_=>none
   |.array n _=>some (.sc (.int .i64 n))
   |_=>none
  |none=>none
 |.call { callee:=.builtin .min,args:=⟨[x,y]⟩,argTypes:=_ }=>match ev x,ev y with
  |.sc (.int k a),.sc (.int k' b)=>if k=k' then some (.sc (.int k (if b<a then b else a))) else none
  |_,_=>none
 |.call { callee:=.builtin .max,args:=⟨[x,y]⟩,argTypes:=_ }=>match ev x,ev y with
  |.sc (.int k a),.sc (.int k' b)=>if k=k' then some (.sc (.int k (if b>a then b else a))) else none
  |_,_=>none
 |.build t ps=>match T t with
  |some ti=>match X33 ti.zero with
   |.agg cs=>match ti.kind with
    |.struct fs=>if fs.all (λp=>(T p.2).isSome) then (match Xnn (λi=>(fs[i]?).map λp=>(p.1,((T p.2).map (·.size)).getD 0)) cs (ps.toList.map λp=>(p.1,ev p.2)) with
     |some r=>some (.agg r)
     |none=>none) else none
    |.array _ et=>match T et with
     |some te=>match Xnn (λi=>some (i*te.size,te.size)) cs (ps.toList.map λp=>(p.1,ev p.2)) with
      |some r=>some (.agg r)
      |none=>none
     |none=>none
    |_=>none
   |_=>none
  |none=>none
 |_=>none
theorem Xls {T:Ty} {ev:Operand->AV} {H:X0c} {op:Op} {a:AV} (h:puF T ev H op=some a):Pu T ev H op a:=by
 unfold puF at h;split at h
 ·cases h;exact .move
 ·cases h;exact .assign
 ·split at h
  ·cases h;exact .pick (by assumption) (λ_=>rfl) (λh=>by cases h)
  ·cases h;exact .pick (by assumption) (λh=>by cases h) (λ_=>rfl)
  ·cases h
 ·split at h
  ·split at h
   ·exact .load (by assumption) (X009 (by assumption)) h
   ·cases h
  ·cases h
 ·split at h
  ·rename_i hx;cases h;rw[<-hx];exact .nilCheckPtr hx
  ·rename_i hx;cases h;rw[<-hx];exact .nilCheckElem hx
  ·rename_i hx;cases h;rw[<-hx];exact .nilCheckFn hx
  ·cases h
 ·exact X00q h
 ·unfold unF at h;split at h
  ·split at h
   ·cases h;exact .neg (by assumption)
   ·cases h
  ·split at h
   ·cases h;exact .not (by assumption)
   ·cases h
  ·cases h
 ·unfold X08m at h;split at h
  ·split at h
   ·split at h
    ·split at h
     ·cases h;exact .conv (by assumption) (by assumption) (by assumption) (by assumption)
     ·cases h
    ·cases h
   ·cases h
  ·split at h
   ·split at h
    ·split at h
     ·cases h;exact .convStr (by assumption) (by assumption) (by assumption) (by assumption)
     ·cases h
    ·cases h
   ·cases h
  ·cases h
 ·split at h
  ·rename_i hf;obtain⟨ti,fs,ft,h1,h2,h3,h4⟩:=Xi4 hf;split at h
   ·split at h
    ·cases h;exact .fieldAddrPtr (by assumption) h1 h2 h3 h4 (by assumption)
    ·cases h;exact .fieldAddrElem (by assumption) h1 h2 h3 h4 (by assumption)
    ·cases h
   ·cases h
  ·cases h
 ·split at h
  ·rename_i hf;obtain⟨ti,fs,ft,h1,h2,h3,h4⟩:=Xi4 hf;split at h
   ·exact .field (by assumption) h1 h2 h3 h4 h
   ·cases h
  ·cases h
 ·split at h
  ·rename_i hix;split at h
   ·rename_i h0;unfold ixF at h;split at h
    ·split at h
     ·rename_i hs;obtain⟨ti,et,h1,h2,h3⟩:=X29 hs;split at h
      ·split at h
       ·cases h;exact .indexList (by assumption) hix h0 h1 h2 h3 (by assumption) (by assumption)
       ·cases h
      ·cases h
     ·cases h
    ·split at h
     ·rename_i hs;obtain⟨ti,et,h1,h2,h3⟩:=X29 hs;split at h
      ·split at h
       ·split at h
        ·split at h
         ·cases h;exact .indexRef (by assumption) hix h0 (by assumption) h1 h2 h3 (by assumption) (by assumption) (by assumption)
         ·cases h
        ·cases h
       ·cases h
      ·cases h
     ·cases h
    ·split at h
     ·rename_i hs;obtain⟨ti,et,h1,h2,h3⟩:=Xcx hs;split at h
      ·cases h;exact .indexArr (by assumption) hix h0 (by assumption) h1 h2 h3
      ·cases h
     ·cases h
    ·split at h
     ·rename_i hs;obtain⟨ti,et,h1,h2,h3⟩:=Xcx hs;split at h
      ·cases h;exact .indexArrElem (by assumption) hix h0 (by assumption) h1 h2 h3
      ·cases h
     ·cases h
    ·cases h
   ·cases h
  ·cases h
 ·split at h
  ·rename_i hix;split at h
   ·rename_i h0;split at h
    ·split at h
     ·rename_i hs;obtain⟨ti,et,h1,h2,h3⟩:=Xcx hs;split at h
      ·exact .indexAgg (by assumption) hix h0 (by assumption) h1 h2 h3 h
      ·cases h
     ·cases h
    ·cases h
   ·cases h
  ·cases h
 ·unfold X04v at h;split at h
  ·split at h
   ·rename_i hs;obtain⟨ti,et,h1,h2,h3⟩:=X29 hs;split at h
    ·split at h
     ·split at h
      ·split at h
       ·rename_i hall;cases h
        exact .sliceList (by assumption) (Xcw (by assumption)) (Xcw (by assumption)) (by assumption) (by assumption) h1 h2 h3 (λe he=>by simpa using List.all_eq_true.1 hall e he)
       ·cases h
      ·cases h
     ·cases h
    ·cases h
   ·cases h
  ·split at h
   ·rename_i hs;obtain⟨ti,et,h1,h2,h3⟩:=X29 hs;split at h
    ·split at h
     ·split at h
      ·split at h
       ·split at h
        ·rename_i hany;cases h
         obtain⟨e,he,hc⟩:=List.any_eq_true.1 hany;exact .sliceRef (by assumption) (Xcw (by assumption)) (Xcw (by assumption)) (by assumption) (by assumption) h1 h2 h3 (by assumption) ⟨e,he,by simpa using hc⟩
        ·cases h
       ·cases h
      ·split at h
       ·rename_i hl hh hle _ heq;cases h
        subst heq;exact .sliceRef0 (by assumption) (Xcw hl) (Xcw hh) hle h1 h2 h3
       ·cases h
     ·cases h
    ·cases h
   ·cases h
  ·split at h
   ·rename_i hs;obtain⟨ti,et,h1,h2,h3⟩:=X29 hs;split at h
    ·cases h;exact .sliceNils (by assumption) (Xcw (by assumption)) (Xcw (by assumption)) h1 h2 h3
    ·cases h
   ·cases h
  ·cases h
 ·split at h
  ·rename_i hs;obtain⟨ti,et,h1,h2,h3⟩:=X29 hs;split at h
   ·split at h
    ·rename_i hx;cases h;exact .sliceClone (by rw[hx];rfl) (λs=>by rw[hx];simp) (Xcw (by assumption)) (Xcw (by assumption)) h1 h2 h3
    ·rename_i hx;cases h;exact .sliceClone (by rw[hx];rfl) (λs=>by rw[hx];simp) (Xcw (by assumption)) (Xcw (by assumption)) h1 h2 h3
    ·rename_i hx;cases h;exact .sliceClone (by rw[hx];rfl) (λs=>by rw[hx];simp) (Xcw (by assumption)) (Xcw (by assumption)) h1 h2 h3
    ·cases h
   ·cases h
  ·cases h
 ·split at h
  ·exact .extract (by assumption) h
  ·cases h
 ·cases h;exact .makeFunc
 ·split at h
  ·split at h
   ·split at h
    ·rename_i hx;cases h;exact .lenSlice (by rw[hx];rfl) (by assumption) (by assumption) (λs=>by rw[hx];simp)
    ·rename_i hx;cases h;exact .lenSlice (by rw[hx];rfl) (by assumption) (by assumption) (λs=>by rw[hx];simp)
    ·rename_i hx;cases h;exact .lenSlice (by rw[hx];rfl) (by assumption) (by assumption) (λs=>by rw[hx];simp)
    ·cases h
   ·split at h
    ·cases h;exact .lenStr (by assumption) (by assumption) (by assumption)
    ·cases h
   ·cases h;exact .lenArr (by assumption) (by assumption)
   ·cases h
  ·cases h
 ·split at h
  ·split at h
   ·rename_i hk;subst hk;cases h;exact .min2 (by assumption) (by assumption)
   ·cases h
  ·cases h
 ·split at h
  ·split at h
   ·rename_i hk;subst hk;cases h;exact .max2 (by assumption) (by assumption)
   ·cases h
  ·cases h
 ·split at h
  ·split at h
   ·split at h
    ·split at h
     ·rename_i hall;split at h
      ·cases h
       refine .buildS (by assumption) (by assumption) (by assumption) (λp hp0=>?_) (by assumption);have:=List.all_eq_true.1 hall p hp0;exact Option.isSome_iff_exists.1 this
      ·cases h
     ·cases h
    ·split at h
     ·split at h
      ·cases h;exact .buildA (by assumption) (by assumption) (by assumption) (by assumption) (by assumption)
      ·cases h
     ·cases h
    ·cases h
   ·cases h
  ·cases h
 ·cases h
end Go.Av


namespace Go.Av
variable [Gls]
end Go.Av


namespace Go.Av
variable [Gls]
end Go.Av


namespace Go.Av
variable [Gls]
end Go.Av


namespace Go.Av
variable [Gls]
theorem Xt8.scope {P:Program} {nt n0:Nat} {s:St} {Q:Xp->St->Prop} {c:Code} (h:Xt8 P nt n0 c Q s):Xt8 P nt n0 (.scope c) Q s:=by
 intro c0 H0 cx act g R hR;have hR2:=hR.scope;obtain rfl:=hR rfl;refine Xhc.2 (wp_scope_straight (Code.wp_mono ?_ (Xhc.1 (h c0 H0 cx act g none hR2))));rintro e a w ⟨c',s',ae,rfl,g',hd,rfl,hq⟩
 cases ae with
 |normal=>exact⟨c',s',.normal,rfl,g',hd,rfl,hq⟩
 |exit id=>exact⟨c',s',.exit id,rfl,g',hd,rfl,hq⟩
 |ret=>exact⟨c',s',.ret,rfl,g',hd,rfl,hq⟩
end Go.Av


namespace Go.Av
variable [Gls]
def Xw8 (w:World) (b:Nat) (l:List (Value×Value)):Prop :=
 ∃ es clock,w.heap[b]?=some (.map es clock)/\es.toList.map (λe=>(e.key,e.val))=l/\es.toList.Pairwise (λx y=>x.born<y.born)/\∀ e∈es.toList,e.born<clock
theorem Xw8.lt {w:World} {b:Nat} {l:List (Value×Value)} (h:Xw8 w b l):b<w.heap.size:=by
 obtain⟨es,clock,hb,_⟩:=h;exact(Array.getElem?_eq_some_iff.1 hb).1
inductive MuE where
 |map (l:List (Value×Value))
 |mark
 |blk (o:Go.Obj)
 |loop (r:Loop) (nt m:Nat) (A:Nat->AV)
instance:Coe (List (Value×Value)) MuE:=⟨.map⟩
abbrev Mu:=List (Nat×MuE)
def MuIs (n0:Nat) (c:Ctx) (b:Nat):MuE->Prop
 |.map l=>Xw8 c.w b l
 |.mark=>c.w.heap[b]?=some (.deferred (some []))
 |.blk o=>c.w.heap[b]?=some o
 |.loop r nt m A=>(c.w.heap[b]?=some (.loop r)/\r.tmps.size=nt)/\m<=n0/\(∀ t,(A t).Ok (·<m))/\∀ t,X0q c false (A t) (r.tmps.getD t undef)
theorem MuIs.lt {n0:Nat} {c:Ctx} {b:Nat} {x:MuE} (h:MuIs n0 c b x):b<c.w.heap.size:=by
 cases x with
 |map l=>exact Xw8.lt h
 |mark=>exact(Array.getElem?_eq_some_iff.1 h).1
 |blk o=>exact(Array.getElem?_eq_some_iff.1 h).1
 |loop r nt m A=>exact(Array.getElem?_eq_some_iff.1 h.1.1).1
theorem MuIs.le {n0:Nat} {c c':Ctx} {b:Nat} {x:MuE} (h:MuIs n0 c b x) (hb:c'.w.heap[b]?=c.w.heap[b]?) (hle:c.Le (·<n0) c'):MuIs n0 c' b x:=by
 cases x with
 |map l=>obtain⟨es,clock,h1,h2⟩:=h;exact⟨es,clock,hb.trans h1,h2⟩
 |mark=>exact hb.trans h
 |blk o=>exact hb.trans h
 |loop r nt m A=>exact⟨⟨hb.trans h.1.1,h.1.2⟩,h.2.1,h.2.2.1,λt=>(h.2.2.2 t).mono hle (.inr ((h.2.2.1 t).mono λq hq=>Nat.lt_of_lt_of_le hq h.2.1))⟩
def Xi7:Mu->List Deferred
 |[]=>[]
 |(D,.mark)::μ=>{ target:=.collected D,args:=#[] }::Xi7 μ
 |(_,.map _)::μ=>Xi7 μ
 |(_,.blk _)::μ=>Xi7 μ
 |(_,.loop ..)::μ=>Xi7 μ
def Xjv:Mu->Bool
 |[]=>true
 |(_,.loop ..)::_=>false
 |(_,.mark)::μ=>Xjv μ
 |(_,.map _)::μ=>Xjv μ
 |(_,.blk _)::μ=>Xjv μ
def NewB (c0:Ctx) (H0:X0c) (b:Nat):Prop:=c0.B<=b/\(c0.w.heap.size<=b\/∃ o x,H0 o=some x/\(c0.ρ o).blk=b)
theorem NewB.no {c0:Ctx} {H0:X0c} {b:Nat} (h:NewB c0 H0 b) (h1:b<c0.w.heap.size) (h2:∀ o x,H0 o=some x->(c0.ρ o).blk≠b):False :=
 h.2.elim (λh=>by omega) λ⟨o,x,h3,h4⟩=>h2 o x h3 h4
structure MOk (n0:Nat) (c0:Ctx) (H0:X0c) (c:Ctx) (H:X0c) (μ:Mu) (act:Act):Prop where
 is:∀ p∈μ,MuIs n0 c p.1 p.2
 away:∀ p∈μ,¬ c.Sa p.1/\¬ c.So p.1/\(∀ o x,H o=some x->(c.ρ o).blk≠p.1)/\NewB c0 H0 p.1
 nodup:(μ.map (·.1)).Nodup
 ds:act.defers=Xi7 μ
theorem MOk.nil {n0:Nat} {c0 c:Ctx} {H0 H:X0c} {act:Act} (h:act.defers=[]):MOk n0 c0 H0 c H [] act:=⟨(λ_ h=>by cases h),(λ_ h=>by cases h),List.nodup_nil,h⟩
theorem MOk.kept {c0 c c':Ctx} {H0 H H':X0c} {n0:Nat} {μ:Mu} {act act':Act} (h:MOk n0 c0 H0 c H μ act) (r:Reach c H n0 c' H') (hd:act'.defers=act.defers:=by first|rfl|exact put_defers _ _ _):MOk n0 c0 H0 c' H' μ act':=by
 have hlt:∀ p∈μ,p.1<c.w.heap.size:=λp hp=>(h.is p hp).lt;have hb:∀ p∈μ,c'.w.heap[p.1]?=c.w.heap[p.1]?:=λp hp=>r.block _ (hlt p hp) (h.away p hp).2.2.1;refine⟨λp hp=>(h.is p hp).le (hb p hp) r.le,λp hp=>?_,h.nodup,hd.trans h.ds⟩;obtain⟨a1,a2,a3,a4⟩:=h.away p hp;refine⟨by rw[r.sa];exact a1,λhs=>?_,λo x hx he=>?_,a4⟩
 ·rcases r.so2 _ hs with h1|h1|⟨o,x,h1,h2⟩
  ·exact a2 h1
  ·have:=hlt p hp;omega
  ·exact a3 o x h1 h2
 ·rcases r.own o x hx with h1|⟨o',x',h1,h2⟩
  ·have:=hlt p hp;omega
  ·exact a3 o' x' h1 (h2.trans he)
theorem MOk.act {n0:Nat} {c0 c:Ctx} {H0 H:X0c} {μ:Mu} {act act':Act} (h:MOk n0 c0 H0 c H μ act) (hd:act'.defers=act.defers:=by first|rfl|exact put_defers _ _ _):MOk n0 c0 H0 c H μ act':=⟨h.is,h.away,h.nodup,hd.trans h.ds⟩
theorem Reach.trans {c0 c c':Ctx} {H0 H H':X0c} {n0:Nat} (h:Reach c0 H0 n0 c H) (k:Reach c H n0 c' H'):Reach c0 H0 n0 c' H':=by
 refine⟨λo ho=>(k.rho o ho).trans (h.rho o ho),k.os.trans h.os,k.tape.trans h.tape,⟨k.output.1.trans h.output.1,Nat.le_trans h.output.2 k.output.2⟩,Nat.le_trans h.size k.size,?_,?_,k.sa.trans h.sa,λb hb=>k.so1 b (h.so1 b hb),?_,k.B.trans h.B,?_⟩
 ·intro b hb hn;rw[k.block b (Nat.lt_of_lt_of_le hb h.size) ?_]
  ·exact h.block b hb hn
  ·intro o x hx he;rcases h.own o x hx with h1|⟨o',x',h1,h2⟩
   ·omega
   ·exact hn o' x' h1 (h2.trans he)
 ·intro b hb;rw[k.stable b (hb.imp (λx=>by rw[h.sa];exact x) (h.so1 b))];exact h.stable b hb
 ·intro b hb;rcases k.so2 b hb with h1|h1|⟨q,y,h1,h2⟩
  ·exact h.so2 b h1
  ·exact .inr (.inl (Nat.le_trans h.size h1))
  ·rcases h.own q y h1 with h3|⟨q',y',h3,h4⟩
   ·exact .inr (.inl om)
   ·exact .inr (.inr ⟨q',y',h3,h4.trans h2⟩)
 ·intro o x hx;rcases k.own o x hx with h1|⟨q,y,h1,h2⟩
  ·exact .inl (Nat.le_trans h.size h1)
  ·rw[<-h2];exact h.own q y h1
theorem X3l.rebase {nt n0:Nat} {c0 c:Ctx} {H0:X0c} {s:St} {act:Act} (g:X3l nt c0 H0 n0 c s act):X3l nt c s.H n0 c s act :=
 ⟨g.inv,g.solo,g.frame,g.ok,g.size,.refl _ _ _,g.le0⟩
theorem X3l.join {nt n0:Nat} {c0 c c':Ctx} {H0 H:X0c} {s:St} {act:Act} (r:Reach c0 H0 n0 c H) (g:X3l nt c H n0 c' s act):X3l nt c0 H0 n0 c' s act :=
 ⟨g.inv,g.solo,g.frame,g.ok,g.size,r.trans g.reach,g.le0⟩
def MQ (nt:Nat) (c0:Ctx) (H0:X0c) (n0:Nat) (Q:Xp->St->Mu->Prop):Exit->Act->World->Prop :=
 λe act w=>∃ c s ae μ,c.w=w/\X3l nt c0 H0 n0 c s act/\MOk n0 c0 H0 c s.H μ act/\ae.of=e/\Q ae s μ
def X41 (P:Program) (nt n0:Nat) (code:Code) (Q:Xp->St->Mu->Prop) (s:St) (μ:Mu):Prop :=
 ∀ (c0:Ctx) (H0:X0c) (c:Ctx) (act:Act),X3l nt c0 H0 n0 c s act->MOk n0 c0 H0 c s.H μ act->∀ R,RG code R->wpR R P code (MQ nt c0 H0 n0 Q) act c.w
def X7r (P:Program) (nt n0:Nat) (ops:Array Oper) (l:List Oper) (K:St->Mu->Prop) (s:St) (μ:Mu):Prop :=
 ∀ (c0:Ctx) (H0:X0c) (c:Ctx) (act:Act),X3l nt c0 H0 n0 c s act->MOk n0 c0 H0 c s.H μ act->∀ Qx:Exit->Act->World->Prop,
  (∀ c' s' act' μ',X3l nt c0 H0 n0 c' s' act'->MOk n0 c0 H0 c' s'.H μ' act'->K s' μ'->Qx .normal act' c'.w)->∀ R,(R=none->Xjv μ=true)->Xow R P ops Qx l act c.w
section
variable {P:Program} {nt n0:Nat} {s:St} {μ:Mu} {Q:Xp->St->Mu->Prop}
theorem X41.of {code:Code} (h:Xt8 P nt n0 code (λe s'=>Q e s' μ) s):X41 P nt n0 code Q s μ:=by
 intro c0 H0 c act g hm R hR;refine wpIn_mono (h c s.H c act g.rebase R hR) ?_;rintro e a w ⟨c',s',ae,rfl,g2,hd,rfl,hq⟩;exact⟨c',s',ae,μ,rfl,.join g.reach g2,hm.kept g2.reach hd,rfl,hq⟩
theorem X41.mono {code:Code} {Q':Xp->St->Mu->Prop} (h:X41 P nt n0 code Q s μ) (hq:∀ e s μ,Q e s μ->Q' e s μ):X41 P nt n0 code Q' s μ :=
 λc0 H0 c act g hm R hR=>wpIn_mono (h c0 H0 c act g hm R hR) (λ_ _ _ ⟨c,s,ae,μ,h1,h2,h3,h4,h5⟩=>⟨c,s,ae,μ,h1,h2,h3,h4,hq _ _ _ h5⟩)
theorem X41.skip (h:Q .normal s μ):X41 P nt n0 .skip Q s μ:=.of (.skip h)
theorem X41.label {l:Nat} (h:Q .normal s μ):X41 P nt n0 (.label l) Q s μ:=.of (.label h)
theorem X41.exit {id:Nat} (h:Q (.exit id) s μ):X41 P nt n0 (.exit id) Q s μ:=.of (.exit h)
theorem X41.ret (h:Q .ret s μ):X41 P nt n0 .ret Q s μ:=.of (.ret h)
def seqM (P:Program) (nt n0:Nat) (y:Code) (Q:Xp->St->Mu->Prop):Xp->St->Mu->Prop
 |.normal,s,μ=>X41 P nt n0 y Q s μ
 |e,s,μ=>Q e s μ
theorem X41.seq {x y:Code} (h:X41 P nt n0 x (seqM P nt n0 y Q) s μ):X41 P nt n0 (.seq x y) Q s μ:=by
 intro c0 H0 c act g hm R hR;refine wpIn_seq (wpIn_mono (h c0 H0 c act g hm R hR.seq1) ?_);rintro e a w ⟨c',s',ae,μ',rfl,g',hm',rfl,hq⟩
 cases ae with
 |normal=>exact hq c0 H0 c' a g' hm' R hR.seq2
 |exit id=>exact⟨c',s',.exit id,μ',rfl,g',hm',rfl,hq⟩
 |ret=>exact⟨c',s',.ret,μ',rfl,g',hm',rfl,hq⟩
theorem X41.cond {x:Operand} {a b:Code} {t:Bool} (hx:evA s.A x=.sc (.bool t)) (ht:t=true->X41 P nt n0 a Q s μ) (hf:t=false->X41 P nt n0 b Q s μ):X41 P nt n0 (.cond x a b) Q s μ:=by
 intro c0 H0 c act g hm R hR;have h1:=g.ev x;rw[hx] at h1;exact wpIn_cond_split h1.sc_inv (λh=>ht h c0 H0 c act g hm R hR.cond1) (λh=>hf h c0 H0 c act g hm R hR.cond2)
def X99 (id:Nat) (Q:Xp->St->Mu->Prop):Xp->St->Mu->Prop
 |.exit id',s,μ=>bif Nat.beq id' id then Q .normal s μ else Q (.exit id') s μ
 |e,s,μ=>Q e s μ
theorem X41.block {id:Nat} {code:Code} (h:X41 P nt n0 code (X99 id Q) s μ):X41 P nt n0 (.block id code) Q s μ:=by
 intro c0 H0 c act g hm R hR;refine wpIn_block (wpIn_mono (h c0 H0 c act g hm R hR.block) ?_);rintro e a w ⟨c',s',ae,μ',rfl,g',hm',rfl,hq⟩
 cases ae with
 |normal=>exact⟨c',s',.normal,μ',rfl,g',hm',rfl,hq⟩
 |exit id' =>
  simp only[X99] at hq;simp only[Xp.of,Exit.inBlock];by_cases he:id'=id
  ·subst he;simp only[Nat.beq_refl,cond_true] at hq;rw[if_pos rfl];exact⟨c',s',.normal,μ',rfl,g',hm',rfl,hq⟩
  ·have:Nat.beq id' id=false:=by rw[<-Bool.not_eq_true,Nat.beq_eq];exact he
   rw[this,cond_false] at hq;rw[if_neg he];exact⟨c',s',.exit id',μ',rfl,g',hm',rfl,hq⟩
 |ret=>exact⟨c',s',.ret,μ',rfl,g',hm',rfl,hq⟩
theorem X41.scope {code:Code} (h:X41 P nt n0 code Q s μ):X41 P nt n0 (.scope code) Q s μ:=by
 intro c0 H0 c act g hm R hR;have hR2:=hR.scope;obtain rfl:=hR rfl;refine Xhc.2 (wp_scope_straight (Code.wp_mono ?_ (Xhc.1 (h c0 H0 c act g hm none hR2))));rintro e a w ⟨c',s',ae,μ',rfl,g',hm',rfl,hq⟩
 cases ae with
 |normal=>exact⟨c',s',.normal,μ',rfl,g',hm',rfl,hq⟩
 |exit id=>exact⟨c',s',.exit id,μ',rfl,g',hm',rfl,hq⟩
 |ret=>exact⟨c',s',.ret,μ',rfl,g',hm',rfl,hq⟩
theorem MOk.weak {c0 c c':Ctx} {H0:X0c} {s s':St} {θ:Nat->Nat} {act:Act} (hw:Xuo θ n0 s s') (hc:c'={ c with ρ:=λo=>c.ρ (θ o) }) (h:MOk n0 c0 H0 c s.H μ act):MOk n0 c0 H0 c' s'.H μ act:=by
 subst hc;refine⟨λp hp=>(h.is p hp).le rfl ⟨λo ho=>?_,λ_ hb=>hb,λ_ hb=>hb,λ_ _=>rfl,rfl⟩,λp hp=>?_,h.nodup,h.ds⟩
 ·show c.ρ (θ o)=c.ρ o;rw[hw.fix o ho]
 obtain⟨a1,a2,a3,a4⟩:=h.away p hp;refine⟨a1,a2,λo x' hx'=>?_,a4⟩;obtain⟨x,hx,_⟩:=hw.heap o x' hx';exact a3 _ x hx
end
end Go.Av


namespace Go.Av
variable [Gls]
section
variable {P:Program} {T:Ty} {c:Ctx} {H:X0c} {M:Nat->Prop} {ev:Operand->AV} {σ:Operand->Value}
end
end Go.Av


namespace Go.Av
variable [Gls]
section
variable {P:Program} {T:Ty} {nt:Nat} {o:Oper} {s:St}
end
end Go.Av


namespace Go.Av
variable [Gls]
section
variable {P:Program} {T:Ty} {nt:Nat} {o:Oper} {s:St}
end
end Go.Av


namespace Go.Av
variable [Gls]
end Go.Av


namespace Go.Av
variable [Gls]
def hp:List (Nat×Obj)->X0c
 |[],_=>none
 |(d,x)::l,o=>bif Nat.beq o d then (bif x.gone then none else some x) else hp l o
theorem Xh5:∀ {G:List (Nat×Obj)} {o:Nat} {y:Obj},hp G o=some y->y.gone=false:=by
 intro G
 induction G with
 |nil=>intro o y h;cases h
 |cons p l ih =>
  intro o y h;obtain⟨d,x⟩:=p;simp only[hp] at h
  cases hb:Nat.beq o d with
  |false=>rw[hb] at h;exact ih h
  |true =>
   rw[hb,cond_true] at h
   cases hg:x.gone with
   |true=>rw[hg] at h;cases h
   |false=>rw[hg] at h;cases h;exact hg
inductive X21 where
 |el (e:AV)
 |ld (e:AV)
 |no
 |pure (bs:List AV) (r:AV)
 |call (r:AV) (G:List (Nat×Obj)) (n:Nat)
 |go (b:Bool)
 |br (b:Bool)
 |ne (b:Bool)
 |wrap
 |ix (j:Nat)
 |stop (j:Nat)
 |via (a:AV)
 |trunc (o:Nat) (es:List AV)
 |see (l:List (Nat×List Nat))
def X4v:List Prop->Prop
 |[]=>True
 |p::r=>p/\X4v r
theorem X0g {a b:List Prop}:X4v (a++b)↔X4v a/\X4v b:=by
 induction a with
 |nil=>simp[X4v]
 |cons p a ih=>simp[X4v,ih,and_assoc]
def Xqh (g:Bool):List Prop->List Prop
 |[]=>[]
 |p::r=>(g=true->p)::Xqh g r
theorem Xlk {g:Bool} {l:List Prop} (h:X4v (Xqh g l)) (hg:g=true):X4v l:=by
 induction l with
 |nil=>trivial
 |cons p l ih=>exact⟨h.1 hg,ih h.2⟩
def Xef (v:Value):AV :=
 match v with
 |.agg ⟨vs⟩=>match vs.all (λv=>v.oneCell') with
  |true=>.agg (vs.map Xju)
  |false=>.sc (.agg ⟨vs⟩)
 |v=>Xju v
theorem Xc9 (v:Value):Xef v=X33 v:=by
 cases v with
 |agg vs =>
  obtain⟨vs⟩:=vs;simp only[Xef,X33];have h1:(Array.all ⟨vs⟩ λv=>v.oneCell')=vs.all λv=>v.oneCell':=by simp
  rw[h1];cases vs.all λv=>v.oneCell'<;>rfl
 |_=>rfl
def rdA (a:AV):AV×List Prop :=
 match a with
 |.cond g v=>(v,[g=true])
 |.junk=>(.junk,[])
 |.sc v=>(.sc v,[])
 |.nils=>(.nils,[])
 |.agg cs=>(.agg cs,[])
 |.tup cs=>(.tup cs,[])
 |.list o es=>(.list o es,[])
 |.ref o f l=>(.ref o f l,[])
 |.ptr o i n=>(.ptr o i n,[])
 |.elem o e n=>(.elem o e n,[])
 |.fn f cs=>(.fn f cs,[])
 |.mref o m=>(.mref o m,[])
 |.mv f a=>(.mv f a,[])
theorem X09p {a b:AV} {ps:List Prop} (h:rdA a=(b,ps)) (hp:X4v ps):Xe6 a=b:=by
 cases a with
 |cond g v =>
  cases h
  simp only[X4v,and_true] at hp;simp[Xe6,hp]
 |_=>cases h;rfl
def rd (L:List (Nat×AV)) (x:Operand):AV×List Prop :=
 match x with
 |.tmp t=>rdA (fr L t)
 |.const v=>(Xef v,[])
 |.global g=>(.sc (.pointer (some ⟨g,0,none⟩)),[])
 |.func f=>(.fn f [],[])
theorem X0n {L:List (Nat×AV)} {x:Operand} {a:AV} {ps:List Prop} (h:rd L x=(a,ps)) (hp:X4v ps):evA (fr L) x=a:=by
 unfold rd at h;split at h
 ·exact X09p h hp
 ·cases h;exact(Xc9 _).symm
 ·cases h;rfl
 ·cases h;rfl
def rds (L:List (Nat×AV)):List Operand->List AV×List Prop
 |[]=>([],[])
 |x::r=>match rd L x,rds L r with
  |(a,p),(l,q)=>(a::l,p++q)
theorem Xgl {L:List (Nat×AV)}:∀ {xs:List Operand} {as:List AV} {ps:List Prop},rds L xs=(as,ps)->X4v ps->xs.map (evA (fr L))=as:=by
 intro xs
 induction xs with
 |nil=>intro as ps h _;simp[rds] at h;simp[<-h.1]
 |cons x r ih =>
  intro as ps h hp;simp only[rds] at h;cases h
  obtain⟨h1,h2⟩:=X0g.1 hp;simp only[List.map_cons];rw[X0n (a:=(rd L x).1) (ps:=(rd L x).2) rfl h1,ih (as:=(rds L r).1) (ps:=(rds L r).2) rfl h2]
def X056 {β:Type} (v:Value) (k:Value->Option β):Option β :=
 match v with
 |.int q z=>k (.int q z)
 |.bool b=>k (.bool b)
 |.string s=>k (.string s)
 |v=>k v
theorem Xzz {β:Type} (v:Value) (k:Value->Option β):X056 v k=k v:=by cases v<;>rfl
def Xud {β:Type} (a:AV) (k:AV->Option β):Option β :=
 match a with
 |.junk=>k .junk
 |.sc v=>X056 v λv=>k (.sc v)
 |.nils=>k .nils
 |.agg cs=>k (.agg cs)
 |.tup cs=>k (.tup cs)
 |.list o es=>k (.list o es)
 |.ref o f l=>k (.ref o f l)
 |.ptr o i n=>k (.ptr o i n)
 |.elem o e n=>k (.elem o e n)
 |.fn f cs=>k (.fn f cs)
 |.mref o m=>k (.mref o m)
 |.mv f a=>k (.mv f a)
 |.cond b v=>k (.cond b v)
theorem Xr6 {β:Type} (a:AV) (k:AV->Option β):Xud a k=k a:=by cases a<;>simp[Xud,Xzz]
def Xjj {β:Type}:List AV->(List AV->Option β)->Option β
 |[],k=>k []
 |a::r,k=>Xud a λa=>Xjj r λr=>k (a::r)
theorem Xvu {β:Type}:∀ (l:List AV) (k:List AV->Option β),Xjj l k=k l:=by
 intro l
 induction l with
 |nil=>intro k;rfl
 |cons a r ih=>intro k;simp[Xjj,Xr6,ih]
def Xuc {β:Type} (a:AV) (k:AV->Option β):Option β :=
 match a with
 |.agg cs=>Xjj cs λcs=>k (.agg cs)
 |.tup cs=>Xjj cs λcs=>k (.tup cs)
 |.fn f cs=>Xjj cs λcs=>k (.fn f cs)
 |a=>Xud a k
theorem Xr5 {β:Type} (a:AV) (k:AV->Option β):Xuc a k=k a:=by cases a<;>simp[Xuc,Xvu,Xr6]
def Xi1 {β:Type}:List AV->(List AV->Option β)->Option β
 |[],k=>k []
 |a::r,k=>Xuc a λa=>Xi1 r λr=>k (a::r)
theorem Xfq {β:Type}:∀ (l:List AV) (k:List AV->Option β),Xi1 l k=k l:=by
 intro l
 induction l with
 |nil=>intro k;rfl
 |cons a r ih=>intro k;simp[Xi1,Xr5,ih]
def Xfs {β:Type} (a:AV) (k:AV->Option β):Option β :=
 match a with
 |.agg cs=>Xi1 cs λcs=>k (.agg cs)
 |.tup cs=>Xi1 cs λcs=>k (.tup cs)
 |a=>Xuc a k
theorem X93 {β:Type} (a:AV) (k:AV->Option β):Xfs a k=k a:=by
 cases a<;>simp[Xfs,Xfq,Xr5]
abbrev PR:=Option (AV×List X21×List Prop)
def X0ea:List X21->Bool
 |.wrap::_=>true
 |_=>false
def fitS (k:IntKind) (z:Int) (hs:List X21) (ps:List Prop):PR :=
 match hs with
 |.wrap::hs=>some (.sc (.int k (k.wrap z)),hs,ps)
 |hs=>some (.sc (.int k z),hs,(k.wrap z=z)::ps)
theorem Xh8 {k:IntKind} {z:Int} {hs hs':List X21} {ps ps':List Prop} {a:AV} (h:fitS k z hs ps=some (a,hs',ps')) (hp:X4v ps'):a=.sc (.int k (k.wrap z))/\X4v ps:=by
 unfold fitS at h;split at h
 ·cases h;exact⟨rfl,hp⟩
 ·cases h;exact⟨by rw[hp.1],hp.2⟩
def binS (T:Ty) (op:BinOp) (t:Nat) (x y:AV) (hs:List X21) (ps:List Prop):PR :=
 match op,x,y with
 |.add,.sc (.int k a),.sc (.int k' b)=>if k=k' then fitS k (a+b) hs ps else none
 |.sub,.sc (.int k a),.sc (.int k' b)=>if k=k' then fitS k (a - b) hs ps else none
 |.mul,.sc (.int k a),.sc (.int k' b)=>if k=k' then fitS k (a*b) hs ps else none
 |.quo,.sc (.int k a),.sc (.int k' b)=>if k=k' then fitS k (a.tdiv b) hs ((b≠0)::ps) else none
 |.rem,.sc (.int k a),.sc (.int k' b)=>if k=k' then some (.sc (.int k (a.tmod b)),hs,(b≠0)::ps) else none
 |.shl,.sc (.int k a),.sc (.int _ b)=>fitS k (a*2 ^ (min b.toNat k.bits)) hs ((0<=b)::ps)
 |.shr,.sc (.int k a),.sc (.int _ b)=>some (.sc (.int k (a.fdiv (2 ^ (min b.toNat k.bits)))),hs,(0<=b)::ps)
 |op,x,y=>match binF T op t x y with
  |some a=>some (a,hs,ps)
  |none=>none
theorem X08u {T:Ty} {ev:Operand->AV} {H:X0c} {op:BinOp} {t yt:Nat} {x y:Operand} {u v:AV} {hs hs':List X21} {ps ps':List Prop} {a:AV} (hx:X4v ps->ev x=u) (hy:X4v ps->ev y=v)
  (h:binS T op t u v hs ps=some (a,hs',ps')) (hp:X4v ps'):Pu T ev H (.binOp op t x y yt) a:=by
 unfold binS at h;split at h
 ·split at h
  ·rename_i hk;subst hk;obtain⟨rfl,h2⟩:=Xh8 h hp;exact .binInt (hx h2) (hy h2) rfl
  ·cases h
 ·split at h
  ·rename_i hk;subst hk;obtain⟨rfl,h2⟩:=Xh8 h hp;exact .binInt (hx h2) (hy h2) rfl
  ·cases h
 ·split at h
  ·rename_i hk;subst hk;obtain⟨rfl,h2⟩:=Xh8 h hp;exact .binInt (hx h2) (hy h2) rfl
  ·cases h
 ·split at h
  ·rename_i hk;subst hk;obtain⟨rfl,h2⟩:=Xh8 h hp;exact .quo (hx h2.2) (hy h2.2) h2.1
  ·cases h
 ·split at h
  ·rename_i hk;subst hk;cases h;exact .rem (hx hp.2) (hy hp.2) hp.1
  ·cases h
 ·obtain⟨rfl,h2⟩:=Xh8 h hp;exact .shl (hx h2.2) (hy h2.2) h2.1
 ·cases h;exact .shr (hx hp.2) (hy hp.2) hp.1
 ·split at h
  ·rename_i hb;cases h
   rw[<-hx hp,<-hy hp] at hb;exact X00q hb
  ·cases h
def X08l (T:Ty) (src dst:Nat) (x:AV) (hs:List X21) (ps:List Prop):PR :=
 match x with
 |.sc (.int _ n)=>match T src with
  |some _=>match T dst with
   |some td=>match td.kind with
    |.int k'=>fitS k' n hs ps
    |_=>none
   |none=>none
  |none=>none
 |x=>match X08m T src dst x with
  |some a=>some (a,hs,ps)
  |none=>none
def unS (op:UnOp) (x:AV) (hs:List X21) (ps:List Prop):PR :=
 match op,x with
 |.neg,.sc (.int k n)=>fitS k (0 - n) hs ps
 |.not,.sc (.bool b)=>some (.sc (.bool (!b)),hs,ps)
 |_,_=>none
def X008 (H:X0c) (p:AV) (hs:List X21) (ps:List Prop):Option (AV×Nat×List X21×List Prop) :=
 match p with
 |.elem _ e k=>some (e,k,hs,ps)
 |.ptr o i k=>match H o with
  |some y=>match hs with
   |.ld e::hs=>some (e,k,hs,(y.es[i]?=some e)::ps)
   |hs=>match y.es[i]? with
    |some e=>some (e,k,hs,ps)
    |none=>none
  |none=>none
 |_=>none
theorem X007 {H:X0c} {p e:AV} {k:Nat} {hs hs':List X21} {ps ps':List Prop} (h:X008 H p hs ps=some (e,k,hs',ps')) (hp:X4v ps'):Xrm H p e k/\X4v ps:=by
 unfold X008 at h;split at h
 ·cases h;exact⟨.elem,hp⟩
 ·split at h
  ·rename_i hH;split at h
   ·cases h;exact⟨.ptr hH hp.1,hp.2⟩
   ·split at h
    ·rename_i he;cases h;exact⟨.ptr hH he,hp⟩
    ·cases h
  ·cases h
 ·cases h
def ixS (T:Ty) (H:X0c) (t:Nat) (x:AV) (i:Int) (hs:List X21) (ps:List Prop):PR :=
 match x,hs with
 |.list own es,.el e::hs=>match X5t T t with
  |some te=>if e.cells.length=te.size then some (.elem own e 0,hs,(0<=i)::(es[i.toNat]?=some e)::ps) else none
  |none=>none
 |.ref o off len,.el e::hs=>match X5t T t with
  |some te=>match H o with
   |some y=>if e.cells.length=te.size then some (.ptr o (off+i.toNat) 0,hs,(0<=i)::(i<len)::(y.es[off+i.toNat]?=some e)::ps) else none
   |none=>none
  |none=>none
 |.ptr o j q,.ix m::hs=>match Xnq T t with
  |some (n,te)=>some (.ptr o j (q+m*te.size),hs,(i=(m:Int))::(m<n)::ps)
  |none=>none
 |.elem own e q,.ix m::hs=>match Xnq T t with
  |some (n,te)=>some (.elem own e (q+m*te.size),hs,(i=(m:Int))::(m<n)::ps)
  |none=>none
 |.ptr o j q,hs=>match Xnq T t with
  |some (n,te)=>some (.ptr o j (q+i.toNat*te.size),hs,(0<=i)::(i<n)::ps)
  |none=>none
 |.elem own e q,hs=>match Xnq T t with
  |some (n,te)=>some (.elem own e (q+i.toNat*te.size),hs,(0<=i)::(i<n)::ps)
  |none=>none
 |x,hs=>match ixF T H t x i with
  |some a=>some (a,hs,(0<=i)::ps)
  |none=>none
def bdS (L:List (Nat×AV)) (o:Option Operand) (d:Nat) (ps:List Prop):Option (Nat×List Prop) :=
 match o with
 |none=>some (d,ps)
 |some x=>match rd L x with
  |(.sc (.int _ z),qs)=>some (z.toNat,(0<=z)::(qs++ps))
  |_=>none
theorem X9h {L:List (Nat×AV)} {o:Option Operand} {d n:Nat} {ps ps':List Prop} (h:bdS L o d ps=some (n,ps')) (hp:X4v ps'):Bd (evA (fr L)) o d n/\X4v ps:=by
 unfold bdS at h;split at h
 ·cases h;exact⟨.dflt,hp⟩
 ·split at h
  ·rename_i hr;cases h
   obtain⟨h1,h2⟩:=hp;obtain⟨h3,h4⟩:=X0g.1 h2;exact⟨.given (X0n hr h3) h1,h4⟩
  ·cases h
def Xxe (T:Ty) (L:List (Nat×AV)) (H:X0c) (t:Nat) (x:AV) (lo hi:Option Operand) (hs:List X21) (ps:List Prop):PR :=
 match x with
 |.list own es=>match X5t T t with
  |some te=>match bdS L lo 0 ps with
   |some (l,ps)=>match bdS L hi es.length ps with
    |some (h,ps)=>match hs with
     |.via (.list _ es')::hs=>some (.list own es',hs,((es.drop l).take (h - l)=es')::(l<=h)::(h<=es.length)::(∀ e∈es,e.cells.length=te.size)::ps)
     |hs=>some (.list own ((es.drop l).take (h - l)),hs,(l<=h)::(h<=es.length)::(∀ e∈es,e.cells.length=te.size)::ps)
    |none=>none
   |none=>none
  |none=>none
 |.ref o off len=>match X5t T t with
  |some te=>match bdS L lo 0 ps with
   |some (l,ps)=>match bdS L hi len ps with
    |some (h,ps)=>match hs with
     |.ne false::hs=>some (.list true [],hs,(l=h)::(l<=len)::ps)
     |.via (.ref _ off' h')::hs=>match H o with
      |some y=>if y.esz=te.size then some (.ref o off' h',hs,(off+l=off')::(h - l=h')::(l<=h)::(l=0\/l<h)::(h<=len\/off+h<=y.es.length)::ps) else none
      |none=>some (.ref o off' h',hs,(off+l=off')::(h - l=h')::(l=0)::(h<=len)::ps)
     |hs=>match H o with
      |some y=>some (.ref o (off+l) (h - l),hs,(l<h)::(h<=len)::(∃ e∈y.es,e.cells.length=te.size)::ps)
      |none=>some (.ref o (off+l) (h - l),hs,(l=0)::(h<=len)::ps)
    |none=>none
   |none=>none
  |none=>none
 |.nils=>match X5t T t with
  |some _=>match bdS L lo 0 ps with
   |some (l,ps)=>match bdS L hi 0 ps with
    |some (h,ps)=>some (.nils,hs,(l=0)::(h=0)::ps)
    |none=>none
   |none=>none
  |none=>none
 |_=>none
theorem Xxd {T:Ty} {L:List (Nat×AV)} {H:X0c} {t:Nat} {x:Operand} {u:AV} {lo hi:Option Operand} {hs hs':List X21} {ps ps':List Prop} {a:AV} (hx:X4v ps->evA (fr L) x=u)
  (h:Xxe T L H t u lo hi hs ps=some (a,hs',ps')) (hp:X4v ps'):Pu T (evA (fr L)) H (.slice t x lo hi none) a:=by
 unfold Xxe at h;split at h
 ·split at h
  ·rename_i hs;obtain⟨ti,et,h1,h2,h3⟩:=X29 hs;split at h
   ·rename_i hl;split at h
    ·rename_i hh;split at h
     ·cases h
      obtain⟨p0,p1,p2,p3,p4⟩:=hp;obtain⟨b2,q2⟩:=X9h hh p4;obtain⟨b1,q1⟩:=X9h hl q2;rw[<-p0];exact .sliceList (hx q1) b1 b2 p1 p2 h1 h2 h3 p3
     ·cases h
      obtain⟨p1,p2,p3,p4⟩:=hp;obtain⟨b2,q2⟩:=X9h hh p4;obtain⟨b1,q1⟩:=X9h hl q2;exact .sliceList (hx q1) b1 b2 p1 p2 h1 h2 h3 p3
    ·cases h
   ·cases h
  ·cases h
 ·split at h
  ·rename_i hs;obtain⟨ti,et,h1,h2,h3⟩:=X29 hs;split at h
   ·rename_i hl;split at h
    ·rename_i hh;split at h
     ·cases h
      obtain⟨rfl,p2,p4⟩:=hp;obtain⟨b2,q2⟩:=X9h hh p4;obtain⟨b1,q1⟩:=X9h hl q2;exact .sliceRef0 (hx q1) b1 b2 p2 h1 h2 h3
     ·split at h
      ·rename_i hH;split at h
       ·rename_i hes;cases h
        obtain⟨rfl,rfl,p1,p2,p3,p4⟩:=hp;obtain⟨b2,q2⟩:=X9h hh p4;obtain⟨b1,q1⟩:=X9h hl q2;exact .sliceRefV (hx q1) b1 b2 p1 p2 hH p3 h1 h2 h3 hes
       ·cases h
      ·cases h
       obtain⟨rfl,rfl,p1,p2,p4⟩:=hp;obtain⟨b2,q2⟩:=X9h hh p4;obtain⟨b1,q1⟩:=X9h hl q2;exact .sliceRefZ (hx q1) b1 b2 p1 p2 h1 h2 h3
     ·split at h
      ·rename_i hH;cases h
       obtain⟨p1,p2,p3,p4⟩:=hp;obtain⟨b2,q2⟩:=X9h hh p4;obtain⟨b1,q1⟩:=X9h hl q2;exact .sliceRef (hx q1) b1 b2 p1 p2 h1 h2 h3 hH p3
      ·cases h
       obtain⟨p1,p2,p4⟩:=hp;obtain⟨b2,q2⟩:=X9h hh p4;obtain⟨b1,q1⟩:=X9h hl q2;exact .sliceRefZ (hx q1) b1 b2 p1 p2 h1 h2 h3
    ·cases h
   ·cases h
  ·cases h
 ·split at h
  ·rename_i hs;obtain⟨ti,et,h1,h2,h3⟩:=X29 hs;split at h
   ·rename_i hl;split at h
    ·rename_i hh;cases h
     obtain⟨rfl,rfl,p4⟩:=hp;obtain⟨b2,q2⟩:=X9h hh p4;obtain⟨b1,q1⟩:=X9h hl q2;exact .sliceNils (hx q1) b1 b2 h1 h2 h3
    ·cases h
   ·cases h
  ·cases h
 ·cases h
theorem X0ag {T:Ty} {ev:Operand->AV} {H:X0c} {t:Nat} {x ix:Operand} {u:AV} {q:IntKind} {i:Int} {hs hs':List X21} {ps ps':List Prop} {a:AV} (hx:X4v ps->ev x=u) (hi:X4v ps->ev ix=.sc (.int q i))
  (h:ixS T H t u i hs ps=some (a,hs',ps')) (hp:X4v ps'):Pu T ev H (.indexAddr t x ix) a:=by
 unfold ixS at h;split at h
 ·split at h
  ·rename_i hs;obtain⟨ti,et,h1,h2,h3⟩:=X29 hs;split at h
   ·rename_i hsz;cases h
    exact .indexList (hx hp.2.2) (hi hp.2.2) hp.1 h1 h2 h3 hp.2.1 hsz
   ·cases h
  ·cases h
 ·split at h
  ·rename_i hs;obtain⟨ti,et,h1,h2,h3⟩:=X29 hs;split at h
   ·rename_i hH;split at h
    ·rename_i hsz;cases h
     exact .indexRef (hx hp.2.2.2) (hi hp.2.2.2) hp.1 hp.2.1 h1 h2 h3 hH hp.2.2.1 hsz
    ·cases h
   ·cases h
  ·cases h
 ·split at h
  ·rename_i hs;obtain⟨ti,et,h1,h2,h3⟩:=Xcx hs;cases h
   have he:=hp.1;subst he;exact .indexArr (hx hp.2.2) (hi hp.2.2) (Int.natCast_nonneg _) (Int.ofNat_lt.2 hp.2.1) h1 h2 h3
  ·cases h
 ·split at h
  ·rename_i hs;obtain⟨ti,et,h1,h2,h3⟩:=Xcx hs;cases h
   have he:=hp.1;subst he;exact .indexArrElem (hx hp.2.2) (hi hp.2.2) (Int.natCast_nonneg _) (Int.ofNat_lt.2 hp.2.1) h1 h2 h3
  ·cases h
 ·split at h
  ·rename_i hs;obtain⟨ti,et,h1,h2,h3⟩:=Xcx hs;cases h
   exact .indexArr (hx hp.2.2) (hi hp.2.2) hp.1 hp.2.1 h1 h2 h3
  ·cases h
 ·split at h
  ·rename_i hs;obtain⟨ti,et,h1,h2,h3⟩:=Xcx hs;cases h
   exact .indexArrElem (hx hp.2.2) (hi hp.2.2) hp.1 hp.2.1 h1 h2 h3
  ·cases h
 ·split at h
  ·rename_i hix;cases h
   refine Xls ?_;simp only[puF,hi hp.2,hx hp.2,if_pos hp.1];exact hix
  ·cases h
def lenS (T:Ty) (t:Nat) (x:AV):Option AV :=
 match T t with
 |some ti=>match ti.kind with
  |.slice _=>match x with
   |.list _ es=>some (.sc (.int .i64 es.length))
   |.ref _ _ n=>some (.sc (.int .i64 n))
   |.nils=>some (.sc (.int .i64 (0:Nat)))
   |_=>none
  |.string=>match x with
   |.sc (.string s)=>some (.sc (.int .i64 s.size))
   |_=>none
  |.array n _=>some (.sc (.int .i64 n))
  |_=>none
 |none=>none
def minS (hi:Bool) (x y:AV):Option AV :=
 match x,y with
 |.sc (.int k a),.sc (.int k' b)=>if k=k' then some (.sc (.int k (bif hi then (if b>a then b else a) else (if b<a then b else a)))) else none
 |_,_=>none
def rdps (L:List (Nat×AV)):List (Nat×Operand)->List (Nat×AV)×List Prop
 |[]=>([],[])
 |(i,x)::r=>match rd L x,rdps L r with
  |(a,p),(l,q)=>((i,a)::l,p++q)
theorem Xy3 {L:List (Nat×AV)}:∀ {xs:List (Nat×Operand)} {as:List (Nat×AV)} {ps:List Prop},rdps L xs=(as,ps)->X4v ps->(xs.map λp=>(p.1,evA (fr L) p.2))=as:=by
 intro xs
 induction xs with
 |nil=>intro as ps h _;simp[rdps] at h;simp[<-h.1]
 |cons x r ih =>
  intro as ps h hp;obtain⟨i,x⟩:=x;simp only[rdps] at h;cases h
  obtain⟨h1,h2⟩:=X0g.1 hp;simp only[List.map_cons];rw[X0n (a:=(rd L x).1) (ps:=(rd L x).2) rfl h1,ih (as:=(rdps L r).1) (ps:=(rdps L r).2) rfl h2]
def buildS (T:Ty) (t:Nat) (vs:List (Nat×AV)):Option AV :=
 match T t with
 |some ti=>match Xef ti.zero with
  |.agg cs=>match ti.kind with
   |.struct fs=>if fs.all (λp=>(T p.2).isSome) then (match Xnn (λi=>(fs[i]?).map λp=>(p.1,((T p.2).map (·.size)).getD 0)) cs vs with
    |some r=>some (.agg r)
    |none=>none) else none
   |.array _ et=>match T et with
    |some te=>match Xnn (λi=>some (i*te.size,te.size)) cs vs with
     |some r=>some (.agg r)
     |none=>none
    |none=>none
   |_=>none
  |_=>none
 |none=>none
def X06j (L:List (Nat×AV)) (c a b:Operand) (hs:List X21):PR :=
 match rd L c with
 |(.sc (.bool t),pc)=>match rd L a,rd L b with
  |(.sc (.bool x),pa),(.sc (.bool y),pb)=>some (.sc (.bool (bif t then x else y)),hs,pc++(Xqh t pa++Xqh (!t) pb))
  |(u,pa),(v,pb)=>match hs with
   |.go true::hs=>some (u,hs,(t=true)::(pc++pa))
   |.go false::hs=>some (v,hs,(t=false)::(pc++pb))
   |_=>none
 |_=>none
def puS (T:Ty) (L:List (Nat×AV)) (H:X0c) (op:Op) (hs:List X21):PR :=
 match op with
 |.move x=>match rd L x with
  |(a,ps)=>some (a,hs,ps)
 |.assign x=>match rd L x with
  |(a,ps)=>some (a,hs,ps)
 |.pick c a b=>X06j L c a b hs
 |.load t x=>match T t with
  |some ti=>match rd L x with
   |(p,ps)=>match X008 H p hs ps with
    |some (e,k,hs,ps)=>match Xsd ti e k with
     |some a=>some (a,hs,ps)
     |none=>none
    |none=>none
  |none=>none
 |.nilCheck x=>match rd L x with
  |(.ptr o i k,ps)=>some (.ptr o i k,hs,ps)
  |(.elem own e k,ps)=>some (.elem own e k,hs,ps)
  |(.fn f caps,ps)=>some (.fn f caps,hs,ps)
  |_=>none
 |.binOp op t x y _=>match rd L x,rd L y with
  |(a,p),(b,q)=>binS T op t a b hs (p++q)
 |.unOp op _ x=>match rd L x with
  |(a,p)=>unS op a hs p
 |.convert src dst x=>match rd L x with
  |(a,p)=>X08l T src dst a hs p
 |.fieldAddr s x f=>match Xon T s f with
  |some (off,tf)=>if tf.size≠0 then (match rd L x with
   |(.ptr o i k,ps)=>some (.ptr o i (k+off),hs,ps)
   |(.elem own e k,ps)=>some (.elem own e (k+off),hs,ps)
   |_=>none) else none
  |none=>none
 |.field s x f=>match Xon T s f with
  |some (off,tf)=>match rd L x with
   |(.agg cs,ps)=>match eqT.partA tf cs off with
    |some a=>some (a,hs,ps)
    |none=>none
   |_=>none
  |none=>none
 |.indexAddr t x ix=>match rd L ix with
  |(.sc (.int _ i),p)=>match rd L x with
   |(a,q)=>ixS T H t a i hs (p++q)
  |_=>none
 |.index t x ix=>match rd L ix with
  |(.sc (.int _ i),p)=>match rd L x with
   |(.agg cs,q)=>match Xnq T t with
    |some (n,te)=>match hs with
     |.ix m::hs=>match eqT.partA te cs (m*te.size) with
      |some a=>some (a,hs,(i=(m:Int))::(m<n)::(p++q))
      |none=>none
     |hs=>match eqT.partA te cs (i.toNat*te.size) with
      |some a=>some (a,hs,(0<=i)::(i<n)::(p++q))
      |none=>none
    |none=>none
   |(.sc (.string s),q)=>match T t with
    |some ti=>match ti.kind with
     |.string=>match hs with
      |.el (.sc (.int .u8 b))::hs=>some (.sc (.int .u8 b),hs,(0<=i)::(∃ c,s[i.toNat]?=some c/\b=c.toNat)::(p++q))
      |hs=>match s[i.toNat]? with
       |some b=>some (.sc (.int .u8 b.toNat),hs,(0<=i)::(p++q))
       |none=>none
     |_=>none
    |none=>none
   |_=>none
  |_=>none
 |.slice t x lo hi none=>match rd L x with
  |(a,p)=>Xxe T L H t a lo hi hs p
 |.slice t x none (some hi) (some mx)=>match X5t T t with
  |some _=>match rd L x with
   |(a,p)=>match bdS L (some hi) 0 p with
    |some (h,p)=>match bdS L (some mx) 0 p with
     |some (m,p)=>match a with
      |.list _ _=>some (.nils,hs,(h=0)::(m=0)::p)
      |.ref _ _ _=>some (.nils,hs,(h=0)::(m=0)::p)
      |.nils=>some (.nils,hs,(h=0)::(m=0)::p)
      |_=>none
     |none=>none
    |none=>none
  |none=>none
 |.extract x i=>match rd L x with
  |(.tup cs,p)=>match cs[i]? with
   |some a=>some (a,hs,p)
   |none=>none
  |_=>none
 |.makeFunc (.func f) ⟨[]⟩ caps=>match rds L caps.toList with
  |(l,p)=>some (.fn f l,hs,p)
 |.call { callee:=.builtin .len,args:=⟨[x]⟩,argTypes:=⟨[t]⟩ }=>match rd L x with
  |(a,p)=>match lenS T t a with
   |some r=>match hs with
    |.el r'::hs=>some (r',hs,(r=r')::p)
    |hs=>some (r,hs,p)
   |none=>none
 |.call { callee:=.builtin .min,args:=⟨[x,y]⟩,argTypes:=_ }=>match rd L x,rd L y with
  |(a,p),(b,q)=>match minS false a b with
   |some r=>some (r,hs,p++q)
   |none=>none
 |.call { callee:=.builtin .max,args:=⟨[x,y]⟩,argTypes:=_ }=>match rd L x,rd L y with
  |(a,p),(b,q)=>match minS true a b with
   |some r=>some (r,hs,p++q)
   |none=>none
 |.build t ps=>match rdps L ps.toList with
  |(l,p)=>match buildS T t l with
   |some r=>some (r,hs,p)
   |none=>none
 |_=>none
theorem X03d {T:Ty} {L:List (Nat×AV)} {H:X0c} {c a b:Operand} {hs hs':List X21} {ps:List Prop} {r:AV} (h:X06j L c a b hs=some (r,hs',ps)) (hp:X4v ps):Pu T (evA (fr L)) H (.pick c a b) r:=by
 unfold X06j at h;split at h
 ·rename_i t pc hc;split at h
  ·rename_i x pa y pb ha hb;cases h
   obtain⟨h1,h2⟩:=X0g.1 hp;obtain⟨h3,h4⟩:=X0g.1 h2;exact .pickB (X0n hc h1) (λht=>X0n ha (Xlk h3 ht)) (λht=>X0n hb (Xlk h4 (by rw[ht];rfl)))
  ·rename_i u pa v pb _ ha hb;split at h
   ·cases h
    obtain⟨h0,h1⟩:=hp;obtain⟨h3,h4⟩:=X0g.1 h1;exact .pick (X0n hc h3) (λ_=>X0n ha h4) (λht=>by rw[h0] at ht;cases ht)
   ·cases h
    obtain⟨h0,h1⟩:=hp;obtain⟨h3,h4⟩:=X0g.1 h1;exact .pick (X0n hc h3) (λht=>by rw[h0] at ht;cases ht) (λ_=>X0n hb h4)
   ·cases h
 ·cases h
theorem Xyw {T:Ty} {ev:Operand->AV} {H:X0c} {t:Nat} {x:Operand} {r:AV} (h:lenS T t (ev x)=some r):Pu T ev H (.call { callee:=.builtin .len,args:=⟨[x]⟩,argTypes:=⟨[t]⟩ }) r:=by
 refine Xls ?_;unfold lenS at h;simp only[puF];exact h
theorem X06p {T:Ty} {ev:Operand->AV} {H:X0c} {x y:Operand} {ts:Array Nat} {r:AV} (h:minS false (ev x) (ev y)=some r):Pu T ev H (.call { callee:=.builtin .min,args:=⟨[x,y]⟩,argTypes:=ts }) r:=by
 refine Xls ?_;simp only[puF];unfold minS at h;split at h
 ·rename_i h1 h2;first|(rw[h1,h2];exact h)|exact h
 ·cases h
theorem X06q {T:Ty} {ev:Operand->AV} {H:X0c} {x y:Operand} {ts:Array Nat} {r:AV} (h:minS true (ev x) (ev y)=some r):Pu T ev H (.call { callee:=.builtin .max,args:=⟨[x,y]⟩,argTypes:=ts }) r:=by
 refine Xls ?_;simp only[puF];unfold minS at h;split at h
 ·rename_i h1 h2;first|(rw[h1,h2];exact h)|exact h
 ·cases h
theorem X00n {T:Ty} {ev:Operand->AV} {H:X0c} {t:Nat} {ps:Array (Nat×Operand)} {r:AV} (h:buildS T t (ps.toList.map λp=>(p.1,ev p.2))=some r):Pu T ev H (.build t ps) r:=by
 refine Xls ?_;unfold buildS at h;simp only[puF];simp only[Xc9] at h;exact h
theorem X04c {T:Ty} {ev:Operand->AV} {H:X0c} {src dst:Nat} {x:Operand} {u:AV} {hs hs':List X21} {ps ps':List Prop} {a:AV} (hx:X4v ps->ev x=u) (h:X08l T src dst u hs ps=some (a,hs',ps')) (hp:X4v ps') :
  Pu T ev H (.convert src dst x) a:=by
 unfold X08l at h;split at h
 ·split at h
  ·split at h
   ·split at h
    ·obtain⟨rfl,h2⟩:=Xh8 h hp;exact .conv (hx h2) (by assumption) (by assumption) (by assumption)
    ·cases h
   ·cases h
  ·cases h
 ·split at h
  ·rename_i hc;cases h
   refine Xls ?_;simp only[puF,hx hp];exact hc
  ·cases h
theorem X09i {T:Ty} {ev:Operand->AV} {H:X0c} {op:UnOp} {t:Nat} {x:Operand} {u:AV} {hs hs':List X21} {ps ps':List Prop} {a:AV} (hx:X4v ps->ev x=u) (h:unS op u hs ps=some (a,hs',ps')) (hp:X4v ps') :
  Pu T ev H (.unOp op t x) a:=by
 unfold unS at h;split at h
 ·obtain⟨rfl,h2⟩:=Xh8 h hp;exact .neg (hx h2)
 ·cases h;exact .not (hx hp)
 ·cases h
theorem X050 {T:Ty} {L:List (Nat×AV)} {H:X0c} {op:Op} {hs hs':List X21} {ps:List Prop} {a:AV} (h:puS T L H op hs=some (a,hs',ps)) (hp:X4v ps):Pu T (evA (fr L)) H op a:=by
  unfold puS at h;split at h
  · rename_i x
    rcases hr:rd L x with ⟨a1,p1⟩;rw[hr] at h;cases h
    rw[<-X0n hr hp];exact .move
  · rename_i x
    rcases hr:rd L x with ⟨a1,p1⟩;rw[hr] at h;cases h
    rw[<-X0n hr hp];exact .assign
  · exact X03d h hp
  · split at h
    · rename_i ht
      split at h
      rename_i hr;split at h
      · rename_i hd
        split at h
        · rename_i hl
          cases h
          obtain⟨h1,h2⟩:=X007 hd hp;rw[<-X0n hr h2] at h1;exact .load ht h1 hl
        · cases h
      · cases h
    · cases h
  · split at h
    · rename_i hr;cases h
      have:=X0n hr hp;rw[<-this];exact .nilCheckPtr this
    · rename_i hr;cases h
      have:=X0n hr hp;rw[<-this];exact .nilCheckElem this
    · rename_i hr;cases h
      have:=X0n hr hp;rw[<-this];exact .nilCheckFn this
    · cases h
  · exact X08u (λhq=>X0n rfl (X0g.1 hq).1) (λhq=>X0n rfl (X0g.1 hq).2) h hp
  · exact X09i (λhq=>X0n rfl hq) h hp
  · exact X04c (λhq=>X0n rfl hq) h hp
  · split at h
    · rename_i hf
      obtain⟨ti,fs,ft,g1,g2,g3,g4⟩:=Xi4 hf;split at h
      · rename_i hz
        split at h
        · rename_i hr;cases h;exact .fieldAddrPtr (X0n hr hp) g1 g2 g3 g4 hz
        · rename_i hr;cases h;exact .fieldAddrElem (X0n hr hp) g1 g2 g3 g4 hz
        · cases h
      · cases h
    · cases h
  · split at h
    · rename_i hf
      obtain⟨ti,fs,ft,g1,g2,g3,g4⟩:=Xi4 hf;split at h
      · rename_i hr
        split at h
        · rename_i ha;cases h;exact .field (X0n hr hp) g1 g2 g3 g4 ha
        · cases h
      · cases h
    · cases h
  · split at h
    · rename_i hr
      exact X0ag (λhq=>X0n rfl (X0g.1 hq).2) (λhq=>X0n hr (X0g.1 hq).1) h hp
    · cases h
  · split at h
    · rename_i hi
      split at h
      · rename_i hr
        split at h
        · rename_i ha
          obtain⟨ti,et,h1,h2,h3⟩:=Xcx ha;split at h
          · split at h
            · rename_i hpa
              cases h
              obtain⟨p1,p2,p3⟩:=hp;obtain⟨p4,p5⟩:=X0g.1 p3;subst p1;exact .indexAgg (X0n hr p5) (X0n hi p4) (Int.natCast_nonneg _) (Int.ofNat_lt.2 p2) h1 h2 h3 hpa
            · cases h
          · split at h
            · rename_i hpa
              cases h
              obtain⟨p1,p2,p3⟩:=hp;obtain⟨p4,p5⟩:=X0g.1 p3;exact .indexAgg (X0n hr p5) (X0n hi p4) p1 p2 h1 h2 h3 hpa
            · cases h
        · cases h
      · rename_i hr
        split at h
        · rename_i ht
          split at h
          · rename_i hk
            split at h
            · cases h
              obtain⟨p1,⟨c,p2,rfl⟩,p3⟩:=hp;obtain⟨p4,p5⟩:=X0g.1 p3;exact .indexStr (X0n hr p5) (X0n hi p4) p1 ht hk p2
            · split at h
              · rename_i hb
                cases h
                obtain⟨p1,p3⟩:=hp;obtain⟨p4,p5⟩:=X0g.1 p3;exact .indexStr (X0n hr p5) (X0n hi p4) p1 ht hk hb
              · cases h
          · cases h
        · cases h
      · cases h
    · cases h
  · exact Xxd (λhq=>X0n rfl hq) h hp
  · split at h
    · rename_i hs
      obtain⟨ti,et,h1,h2,h3⟩:=X29 hs;split at h
      rename_i a1 p1 hr;split at h
      · rename_i hb1
        split at h
        · rename_i hb2
          split at h
          all_goals first
            | (cases h
               obtain⟨rfl,rfl,p4⟩:=hp;obtain⟨b2,q2⟩:=X9h hb2 p4;obtain⟨b1,q1⟩:=X9h hb1 q2;have hx:=X0n hr q1;exact .sliceClone (by rw[hx];rfl) (λs hs=>by rw[hx] at hs;cases hs) b1 b2 h1 h2 h3)
            |cases h
        · cases h
      · cases h
    · cases h
  · split at h
    · rename_i hr
      split at h
      · rename_i hi
        cases h
        exact .extract (X0n hr hp) hi
      · cases h
    · cases h
  · split at h
    rename_i hr;cases h
    have:=Xgl hr hp;refine Xls ?_;simp only[puF,this]
  · split at h
    rename_i hr;split at h
    · rename_i hl
      split at h
      · cases h
        obtain⟨rfl,hp⟩:=hp;rw[<-X0n hr hp] at hl;exact Xyw hl
      · cases h
        rw[<-X0n hr hp] at hl;exact Xyw hl
    · cases h
  · split at h
    rename_i hx hy;split at h
    · rename_i hl
      cases h
      obtain⟨p1,p2⟩:=X0g.1 hp;rw[<-X0n hx p1,<-X0n hy p2] at hl;exact X06p hl
    · cases h
  · split at h
    rename_i hx hy;split at h
    · rename_i hl
      cases h
      obtain⟨p1,p2⟩:=X0g.1 hp;rw[<-X0n hx p1,<-X0n hy p2] at hl;exact X06q hl
    · cases h
  · split at h
    rename_i hr;split at h
    · rename_i hl
      cases h
      rw[<-Xy3 hr hp] at hl;exact X00n hl
    · cases h
  · cases h
end Go.Av


namespace Go.Av
variable [Gls]
def srcS (H:X0c) (a:AV) (ps:List Prop):Option (List AV×List Prop) :=
 match a with
 |.list _ es=>some (es,ps)
 |.nils=>some ([],ps)
 |.ref o off len=>match H o with
  |some x=>some ((x.es.drop off).take len,(off+len<=x.es.length)::ps)
  |none=>none
 |_=>none
theorem X65 {H:X0c} {a:AV} {xs:List AV} {ps ps':List Prop} (h:srcS H a ps=some (xs,ps')) (hp:X4v ps'):Xrr H a xs/\X4v ps:=by
 unfold srcS at h;split at h
 ·cases h;exact⟨.list,hp⟩
 ·cases h;exact⟨.nils,hp⟩
 ·split at h
  ·rename_i hH;cases h;exact⟨.ref hH hp.1,hp.2⟩
  ·cases h
 ·cases h
abbrev MR:=Option (AV×Eff×List X21×List Prop)
def appS (H:X0c) (id:Nat) (te:TI) (s:AV) (xs:List AV) (hs:List X21) (ps:List Prop):MR :=
 match s with
 |.nils=>if te.size≠0 then some (.ref id 0 xs.length,.new { es:=xs,esz:=te.size },hs,
   (xs≠[])::(xs.length<=maxLen)::(xs.length*te.bytes<=140737488355328)::(∀ e∈xs,e.cells.length=te.size)::ps) else none
 |.ref o 0 n=>match H o with
  |some y=>match y.spent with
   |false=>if y.esz=te.size then some (.ref id 0 (n+xs.length),.app o { es:=y.es++xs,esz:=te.size },hs,
     (y.es.length=n)::(xs≠[])::(n+xs.length<=maxLen)::((n+xs.length)*te.bytes<=140737488355328)::(∀ e∈xs,e.cells.length=te.size)::ps) else none
   |true=>none
  |none=>none
 |_=>none
def Xfc:AV->Bool
 |.list ..|.ref ..|.nils=>true
 |_=>false
theorem Xe7 {a:AV} (h:Xfc a=true):(∃ n,Xse a=some n)/\∀ u,a≠.sc (.string u):=by
 cases a<;>simp[Xfc] at h<;>exact⟨⟨_,rfl⟩,λu hu=>by cases hu⟩
def mkS (T:Ty) (L:List (Nat×AV)) (H:X0c) (id:Nat) (op:Op) (hs:List X21):MR :=
 match op with
 |.box _ x=>match rd L x with
  |(a,ps)=>match a.whole with
   |true=>match a.cells with
    |[]=>none
    |_::_=>some (.ptr id 0 0,.new { es:=[a],esz:=a.cells.length },hs,ps)
   |false=>none
 |.alloc elem=>match T elem with
  |some ti=>if ti.size≠0 then Xfs (Xef ti.zero) λz=>some (.ptr id 0 0,.new { es:=[z],esz:=ti.size },hs,[]) else none
  |none=>none
 |.buildSlice t len ps=>match X5t T t with
  |some te=>if len=0 then (match ps with
    |⟨[]⟩=>some (.nils,.none,hs,[])
    |_=>none)
   else if te.size≠0 then (if len*te.size<=2 ^ 24 then (match rdps L ps.toList with
    |(vs,qs)=>match Xg0 te.size (List.replicate len (Xef te.zero)) vs with
     |some es=>Xi1 es λes=>some (.ref id 0 len,.new { es:=es,esz:=te.size },hs,qs)
     |none=>none) else none) else none
  |none=>none
 |.makeSlice t l cc=>match X5t T t with
  |some te=>match rd L l,rd L cc with
   |(.sc (.int _ n),p),(.sc (.int _ m),q)=>match hs with
    |.ne false::hs=>some (.nils,.none,hs,(n=0)::(m=0)::(p++q))
    |hs=>if te.size≠0 then some (.ref id 0 n.toNat,.new { es:=List.replicate n.toNat (Xef te.zero),esz:=te.size },hs,
      (0<=n)::(n<=m)::(0<m)::(te.bytes*m<=2 ^ 48)::(m<2 ^ 62)::(p++q)) else none
   |_,_=>none
  |none=>none
 |.call { callee:=.builtin .append,args:=⟨[s,x]⟩,argTypes:=⟨[t,t']⟩ }=>if t=t' then (match X5t T t with
  |some te=>match rd L s,rd L x with
   |(a,p),(b,q)=>match srcS H b (p++q) with
    |some (xs,ps)=>match hs with
     |.ne false::hs=>match Xfc a with
      |true=>some (a,.none,hs,(xs=[])::ps)
      |false=>none
     |.ne true::hs=>appS H id te a xs hs ps
     |.via (.list _ xs')::hs=>appS H id te a xs' hs ((xs=xs')::ps)
     |.stop _::_=>none
     |.no::hs=>Xi1 xs λxs=>match xs with
      |[]=>match Xfc a with
       |true=>some (a,.none,hs,ps)
       |false=>none
      |e::r=>appS H id te a (e::r) hs ps
     |hs=>Xi1 xs λxs=>match xs with
      |[]=>match Xfc a with
       |true=>some (a,.none,hs,ps)
       |false=>none
      |e::r=>appS H id te a (e::r) hs ps
    |none=>none
  |none=>none) else none
 |_=>none
theorem Xq2 {T:Ty} {ev:Operand->AV} {H:X0c} {id:Nat} {s x:Operand} {t:Nat} {ti te:TI} {et:Nat} {u:AV} {xs:List AV} {hs hs':List X21} {ps ps':List Prop} {a:AV} {e:Eff}
  (ht:T t=some ti) (hk:ti.kind=.slice et) (hte:T et=some te) (hsu:X4v ps->ev s=u) (hx:X4v ps->Xrr H (ev x) xs) (h:appS H id te u xs hs ps=some (a,e,hs',ps')) (hp:X4v ps') :
  Mk T ev H id (.call { callee:=.builtin .append,args:=#[s,x],argTypes:=#[t,t] }) a e/\∀ old x,e=.app old x\/e=.new x->x.solo=true/\x.spent=false:=by
 unfold appS at h;split at h
 ·split at h
  ·rename_i hz;cases h
   obtain⟨p1,p2,p3,p4,p5⟩:=hp;refine⟨.appendNil (hsu p5) (hx p5) p1 ht hk hte p4 hz p2 p3,λold y hy=>by rcases hy with hy|hy<;>cases hy;exact⟨rfl,rfl⟩⟩
  ·cases h
 ·split at h
  ·rename_i hH;split at h
   ·rename_i hsp;split at h
    ·rename_i hes;cases h
     obtain⟨p0,p1,p2,p3,p4,p5⟩:=hp;refine⟨.append (hsu p5) hH p0 hsp hes (hx p5) p1 ht hk hte p4 p2 p3,λold y hy=>by rcases hy with hy|hy<;>cases hy;exact⟨rfl,rfl⟩⟩
    ·cases h
   ·cases h
  ·cases h
 ·cases h
theorem Xu0 {T:Ty} {L:List (Nat×AV)} {H:X0c} {id:Nat} {op:Op} {hs hs':List X21} {ps:List Prop} {a:AV} {e:Eff} (h:mkS T L H id op hs=some (a,e,hs',ps)) (hp:X4v ps) :
  Mk T (evA (fr L)) H id op a e/\∀ old x,e=.app old x\/e=.new x->x.solo=true/\x.spent=false:=by
 unfold mkS at h;split at h
 ·split at h
  rename_i hr;split at h
  ·rename_i hw;split at h
   ·cases h
   ·rename_i hc;cases h
    have:=X0n hr hp;rw[<-this];exact⟨.box (by rw[this];exact hw) (by rw[this,hc];simp),λold y hy=>by rcases hy with hy|hy<;>cases hy;exact⟨rfl,rfl⟩⟩
  ·cases h
 ·split at h
  ·rename_i ht;split at h
   ·rename_i hz;rw[X93,Xc9] at h;cases h
    exact⟨.alloc ht hz,λold y hy=>by rcases hy with hy|hy<;>cases hy;exact⟨rfl,rfl⟩⟩
   ·cases h
  ·cases h
 ·split at h
  ·rename_i hs;obtain⟨ti,et,h1,h2,h3⟩:=X29 hs;split at h
   ·rename_i hl;subst hl;split at h
    ·cases h
     exact⟨.slice0 h1 h2 h3,λold y hy=>by rcases hy with hy|hy<;>cases hy⟩
    ·cases h
   ·rename_i hl;split at h
    ·rename_i hz;split at h
     ·rename_i hb;split at h
      rename_i hr;split at h
      ·rename_i hsp;rw[Xfq] at h;cases h
       rw[<-Xy3 hr hp,Xc9] at hsp;exact⟨.buildSlice h1 h2 h3 hl hz hb hsp,λold y hy=>by rcases hy with hy|hy<;>cases hy;exact⟨rfl,rfl⟩⟩
      ·cases h
     ·cases h
    ·cases h
  ·cases h
 ·split at h
  ·rename_i hs;obtain⟨ti,et,h1,h2,h3⟩:=X29 hs;split at h
   ·rename_i hl hc;split at h
    ·cases h
     obtain⟨rfl,rfl,p3⟩:=hp;obtain⟨q1,q2⟩:=X0g.1 p3;exact⟨.make0 (X0n hl q1) (X0n hc q2) h1 h2 h3,λold y hy=>by rcases hy with hy|hy<;>cases hy⟩
    ·split at h
     ·rename_i hz;cases h
      obtain⟨p1,p2,p3,p4,p5,p6⟩:=hp;obtain⟨q1,q2⟩:=X0g.1 p6;rw[Xc9];exact⟨.make (X0n hl q1) (X0n hc q2) p1 p2 p3 h1 h2 h3 hz p4 p5,λold y hy=>by rcases hy with hy|hy<;>cases hy;exact⟨rfl,rfl⟩⟩
     ·cases h
   ·cases h
  ·cases h
 ·split at h
  ·rename_i htt;subst htt;split at h
   ·rename_i hs;obtain⟨ti,et,h1,h2,h3⟩:=X29 hs;split at h
    rename_i hra hrb;split at h
    ·rename_i hsrc;split at h
     ·split at h
      ·rename_i hsl;cases h
       obtain⟨rfl,p2⟩:=hp;obtain⟨s1,s2⟩:=X65 hsrc p2;obtain⟨q1,q2⟩:=X0g.1 s2;have e1:=X0n hra q1;have e2:=X0n hrb q2;obtain⟨⟨n,hn⟩,hu⟩:=Xe7 hsl;rw[<-e1] at hn hu ⊢;rw[<-e2] at s1;exact⟨.append0 hn hu s1 h1 h2 h3,λold y hy=>by rcases hy with hy|hy<;>cases hy⟩
      ·cases h
     ·refine Xq2 h1 h2 h3 (λhq=>?_) (λhq=>?_) h hp
      ·exact X0n hra (X0g.1 (X65 hsrc hq).2).1
      ·rw[X0n hrb (X0g.1 (X65 hsrc hq).2).2];exact(X65 hsrc hq).1
     ·refine Xq2 h1 h2 h3 (λhq=>?_) (λhq=>?_) h hp
      ·exact X0n hra (X0g.1 (X65 hsrc hq.2).2).1
      ·rw[X0n hrb (X0g.1 (X65 hsrc hq.2).2).2,<-hq.1];exact(X65 hsrc hq.2).1
     ·cases h
     ·rw[Xfq] at h;split at h
      ·split at h
       ·rename_i hsl;cases h
        obtain⟨s1,s2⟩:=X65 hsrc hp;obtain⟨q1,q2⟩:=X0g.1 s2;have e1:=X0n hra q1;have e2:=X0n hrb q2;obtain⟨⟨n,hn⟩,hu⟩:=Xe7 hsl;rw[<-e1] at hn hu ⊢;rw[<-e2] at s1;exact⟨.append0 hn hu s1 h1 h2 h3,λold y hy=>by rcases hy with hy|hy<;>cases hy⟩
       ·cases h
      ·refine Xq2 h1 h2 h3 (λhq=>?_) (λhq=>?_) h hp
       ·exact X0n hra (X0g.1 (X65 hsrc hq).2).1
       ·rw[X0n hrb (X0g.1 (X65 hsrc hq).2).2];exact(X65 hsrc hq).1
     ·rw[Xfq] at h;split at h
      ·split at h
       ·rename_i hsl;cases h
        obtain⟨s1,s2⟩:=X65 hsrc hp;obtain⟨q1,q2⟩:=X0g.1 s2;have e1:=X0n hra q1;have e2:=X0n hrb q2;obtain⟨⟨n,hn⟩,hu⟩:=Xe7 hsl;rw[<-e1] at hn hu ⊢;rw[<-e2] at s1;exact⟨.append0 hn hu s1 h1 h2 h3,λold y hy=>by rcases hy with hy|hy<;>cases hy⟩
       ·cases h
      ·refine Xq2 h1 h2 h3 (λhq=>?_) (λhq=>?_) h hp
       ·exact X0n hra (X0g.1 (X65 hsrc hq).2).1
       ·rw[X0n hrb (X0g.1 (X65 hsrc hq).2).2];exact(X65 hsrc hq).1
    ·cases h
   ·cases h
  ·cases h
 ·cases h
def delG (o:Nat):List (Nat×Obj)->List (Nat×Obj)
 |[]=>[]
 |(d,x)::l=>bif Nat.beq d o then delG o l else (d,x)::delG o l
theorem Xt1 (o:Nat):∀ G:List (Nat×Obj),hp (delG o G)=upd (hp G) o none:=by
 intro G;funext q
 induction G with
 |nil=>simp[delG,hp,upd]
 |cons a l ih =>
  obtain⟨d,x⟩:=a;simp only[delG]
  cases hb:Nat.beq d o with
  |true =>
   have hd:d=o:=Nat.eq_of_beq_eq_true hb;subst hd;simp only[cond_true,ih,hp];by_cases hq:q=d
   ·subst hq;rw[Xm,Xm]
   ·have:Nat.beq q d=false:=by rw[<-Bool.not_eq_true,Nat.beq_eq];exact hq
    rw[Xl _ _ hq,Xl _ _ hq];simp only[this,cond_false]
  |false =>
   have hd:d≠o:=λe=>by rw[e,Nat.beq_refl] at hb;cases hb
   simp only[cond_false,hp,ih];by_cases hq:q=o
   ·subst hq;have:Nat.beq q d=false:=by rw[<-Bool.not_eq_true,Nat.beq_eq];exact λe=>hd e.symm
    rw[this,Xm,cond_false,Xm]
   ·rw[Xl _ _ hq,Xl _ _ hq]
theorem Xfn (o:Nat) (x:Obj) (G:List (Nat×Obj)) (hx:x.gone=false):hp ((o,x)::G)=upd (hp G) o (some x):=by
 funext q
 simp only[hp,hx,cond_false];by_cases h:q=o
 ·subst h;rw[Xm];simp
 ·have:Nat.beq q o=false:=by rw[<-Bool.not_eq_true,Nat.beq_eq];exact h
  rw[Xl _ _ h,this];rfl
theorem Xsw (o:Nat) (x:Obj) (G:List (Nat×Obj)) (hx:x.gone=false):hp ((o,x)::delG o G)=upd (hp G) o (some x):=by
 rw[Xfn _ _ _ hx,Xt1];funext q
 by_cases hq:q=o
 ·subst hq;rw[Xm,Xm]
 ·rw[Xl _ _ hq,Xl _ _ hq,Xl _ _ hq]
def effS (id:Nat) (G:List (Nat×Obj)):Eff->List (Nat×Obj)
 |.none=>G
 |.new x=>(id,x)::G
 |.app old x=>(id,x)::delG old G
def X049:Eff->Bool
 |.none=>true
 |.new x=>!x.gone
 |.app _ x=>!x.gone
theorem X08f (id:Nat) (G:List (Nat×Obj)) (e:Eff) (he:X049 e=true):hp (effS id G e)=e.seq id (hp G):=by
 cases e with
 |none=>rfl
 |new x=>exact Xfn _ _ _ (by simpa[X049] using he)
 |app old x=>simp only[effS,Eff.seq,Xfn _ _ _ (show x.gone=false by simpa[X049] using he),Xt1]
structure Xa7 (P:Program) (f:Nat) (H:X0c) (as bs:List AV) (r:AV):Prop where
 isPure:X05 P f bs r
 lends:∃ Hr,Cvs false Hr as bs/\(∀ o x,Hr o=some x->H o=some x)/\(Xq9 r\/∀ o,Hr o=none)
structure Xw9 (P:Program) (f:Nat) (as:List AV) (G:List (Nat×Obj)) (n:Nat) (r:AV) (G':List (Nat×Obj)) (n':Nat):Prop where
 hc:HC P f as (hp G) n (λr2 H2 n2=>r2=r/\H2=hp G'/\n2=n')
def stO (T:Ty) (L:List (Nat×AV)) (G:List (Nat×Obj)) (t:Nat) (p x:Operand) (hs:List X21):Option (Nat×Obj×List X21×List Prop) :=
 match T t with
 |some ti=>match rd L p,rd L x with
  |(.ptr o i k,p1),(v,p2)=>match hp G o with
   |some y=>match y.solo,v.whole with
    |true,true=>match hs with
     |.ld e::hs=>if v.cells.length=ti.size then (if k+ti.size<=e.cells.length then (if ti.size≠0 then
       some (o,{ y with es:=y.es.set i (Xco e k v) },hs,(y.es[i]?=some e)::(p1++p2)) else none) else none) else none
     |hs=>match y.es[i]? with
      |some e=>if v.cells.length=ti.size then (if k+ti.size<=e.cells.length then (if ti.size≠0 then
       Xfs (Xco e k v) λw=>Xi1 (y.es.set i w) λes=>some (o,{ y with es:=es },hs,p1++p2) else none) else none) else none
      |none=>none
    |_,_=>none
   |none=>none
  |_,_=>none
 |none=>none
theorem X04t {T:Ty} {L:List (Nat×AV)} {G:List (Nat×Obj)} {t q:Nat} {z:Obj} {p x:Operand} {hs hs':List X21} {ps:List Prop} (h:stO T L G t p x hs=some (q,z,hs',ps)) (hp':X4v ps) :
  ∃ i k y e ti,evA (fr L) p=.ptr q i k/\hp G q=some y/\y.solo=true/\y.es[i]?=some e/\T t=some ti/\(evA (fr L) x).whole=true/\(evA (fr L) x).cells.length=ti.size/\k+ti.size<=e.cells.length/\ti.size≠0 /\
   z={ y with es:=y.es.set i (Xco e k (evA (fr L) x)) }:=by
 unfold stO at h;split at h
 ·rename_i ht;split at h
  ·rename_i hrp hrx;split at h
   ·rename_i hH;split at h
    ·rename_i hs1 hw1;split at h
     ·split at h
      ·rename_i c1;split at h
       ·rename_i c2;split at h
        ·rename_i c3;cases h
         obtain⟨q1,q2⟩:=hp';obtain⟨q3,q4⟩:=X0g.1 q2;have e1:=X0n hrp q3;have e2:=X0n hrx q4;rw[<-e2] at hw1 c1;exact⟨_,_,_,_,_,e1,hH,hs1,q1,ht,hw1,c1,c2,c3,by rw[e2]⟩
        ·cases h
       ·cases h
      ·cases h
     ·split at h
      ·rename_i he;split at h
       ·rename_i c1;split at h
        ·rename_i c2;split at h
         ·rename_i c3;rw[X93,Xfq] at h;cases h
          obtain⟨q3,q4⟩:=X0g.1 hp';have e1:=X0n hrp q3;have e2:=X0n hrx q4;rw[<-e2] at hw1 c1;exact⟨_,_,_,_,_,e1,hH,hs1,he,ht,hw1,c1,c2,c3,by rw[e2]⟩
         ·cases h
        ·cases h
       ·cases h
      ·cases h
    ·cases h
   ·cases h
  ·cases h
 ·cases h
def stS (T:Ty) (L:List (Nat×AV)) (G:List (Nat×Obj)) (t:Nat) (p x:Operand) (hs:List X21):Option (List (Nat×Obj)×List X21×List Prop) :=
 match stO T L G t p x hs with
 |some (o,z,hs,ps)=>some ((o,z)::delG o G,hs,ps)
 |none=>none
theorem X09o {T:Ty} {L:List (Nat×AV)} {G G':List (Nat×Obj)} {t:Nat} {p x:Operand} {hs hs':List X21} {ps:List Prop} (h:stS T L G t p x hs=some (G',hs',ps)) (hp':X4v ps) :
  StR T (evA (fr L)) (hp G) (.store t p x) (hp G'):=by
 unfold stS at h;split at h
 ·rename_i ho;cases h
  obtain⟨i,k,y,e,ti,h1,h2,h3,h4,h5,h6,h7,h8,h9,rfl⟩:=X04t ho hp';have hgn:({ y with es:=y.es.set i (Xco e k (evA (fr L) x)) }:Obj).gone=false:=show y.gone=false from Xh5 h2;rw[Xsw _ _ _ hgn];exact .store h1 h2 h3 h4 h5 h6 h7 h8 h9
 ·cases h
abbrev OR:=Option (AV×List (Nat×Obj)×Nat×List X21×List Prop)
def quS (P:Program) (T:Ty) (L:List (Nat×AV)) (G:List (Nat×Obj)) (op:Op) (hs:List X21):PR :=
 match op with
 |.call { callee:=.value x,args:=args,argTypes:=_ }=>match hs with
  |.pure bs r::hs=>match rd L x with
   |(.fn f caps,p)=>match rds L args.toList with
    |(as,q)=>some (r,hs,Xa7 P f (hp G) (as++caps) bs r::(p++q))
   |_=>none
  |_=>none
 |op=>puS T L (hp G) op hs
theorem Xy6 {P:Program} {T:Ty} {nt:Nat} {L:List (Nat×AV)} {G:List (Nat×Obj)} {n:Nat} {o:Oper} {hs hs':List X21} {ps:List Prop} {a:AV} (hT:Xf0 P T)
  (h:quS P T L G o.op hs=some (a,hs',ps)) (hp':X4v ps):OpR P nt o ⟨fr L,hp G,n⟩ (λa' H' n2=>a'=a/\H'=hp G/\n2=n):=by
 unfold quS at h;split at h
 ·rename_i ho;split at h
  ·split at h
   ·rename_i hx;split at h
    rename_i hargs;cases h
    obtain⟨⟨p1,Hr,p2,p3,p4⟩,q⟩:=hp';obtain⟨q1,q2⟩:=X0g.1 q;refine OpR.call (s:=⟨fr L,hp G,n⟩) ho (X0n hx q1) ?_;rw[Xgl hargs q2];exact HC.of_pure p1 p2 p3 p4
   ·cases h
  ·cases h
 ·exact OpR.pu hT (s:=⟨fr L,hp G,n⟩) (X050 h hp')
def opS (P:Program) (T:Ty) (L:List (Nat×AV)) (G:List (Nat×Obj)) (n:Nat) (op:Op) (hs:List X21):OR :=
 match op with
 |.store t p x=>match stS T L G t p x hs with
  |some (G,hs,ps)=>some (.sc undef,G,n,hs,ps)
  |none=>none
 |.call { callee:=.value x,args:=args,argTypes:=ts }=>match hs with
  |.call r G' n'::hs=>match rd L x with
   |(.fn f caps,p)=>match rds L args.toList with
    |(as,q)=>some (r,G',n',hs,Xw9 P f (as++caps) G n r G' n'::(p++q))
   |_=>none
  |hs=>match quS P T L G (.call { callee:=.value x,args:=args,argTypes:=ts }) hs with
   |some (a,hs,ps)=>some (a,G,n,hs,ps)
   |none=>none
 |op=>match quS P T L G op hs with
  |some (a,hs,ps)=>some (a,G,n,hs,ps)
  |none=>match mkS T L (hp G) n op hs with
   |some (a,e,hs,ps)=>match X049 e with
    |true=>some (a,effS n G e,n+1,hs,ps)
    |false=>none
   |none=>none
theorem X053 {P:Program} {T:Ty} {nt:Nat} {L:List (Nat×AV)} {G G':List (Nat×Obj)} {n n':Nat} {o:Oper} {hs hs':List X21} {ps:List Prop} {a:AV} (hT:Xf0 P T)
  (h:opS P T L G n o.op hs=some (a,G',n',hs',ps)) (hp':X4v ps):OpR P nt o ⟨fr L,hp G,n⟩ (λa' H' n2=>a'=a/\H'=hp G'/\n2=n'):=by
 unfold opS at h;split at h
 ·rename_i ho;split at h
  ·rename_i hs;cases h
   have:=X09o hs hp';exact OpR.st hT (s:=⟨fr L,hp G,n⟩) (by rw[ho];exact this)
  ·cases h
 ·rename_i ho;split at h
  ·split at h
   ·rename_i hx;split at h
    rename_i hargs;cases h
    obtain⟨p1,q⟩:=hp';obtain⟨q1,q2⟩:=X0g.1 q;refine OpR.call (s:=⟨fr L,hp G,n⟩) ho (X0n hx q1) ?_;rw[Xgl hargs q2];exact p1.hc
   ·cases h
  ·split at h
   ·rename_i hq;cases h
    rw[<-ho] at hq;exact Xy6 hT hq hp'
   ·cases h
 ·split at h
  ·rename_i hpu;cases h
   exact Xy6 hT hpu hp'
  ·split at h
   ·rename_i hmk;split at h
    ·rename_i he;cases h
     obtain⟨h1,h2⟩:=Xu0 hmk hp';rw[X08f _ _ _ he];exact OpR.mk hT (s:=⟨fr L,hp G,n⟩) h1 h2
    ·cases h
   ·cases h
end Go.Av


namespace Go.Av
variable [Gls]
def Xmu (R:Option Nat) (P:Program) (c:Code) (Q:Exit->Act->World->Prop) (a:Act) (w:World):Prop :=
 ∀ (b:Frame) (k:List Item) (cs:List Frame),b.roundOf=R->∃ e a' w',Q e a' w'/\ArrivesIn (Machine.fenced P (FR R)) P (lone (b.atR a (.code c::.inLoop c::k)) cs w) b k cs e a' w'
theorem Xmu.start {R:Option Nat} {P:Program} {c:Code} {Q:Exit->Act->World->Prop} {a:Act} {w:World} (h:Xmu R P c Q a w):wpR R P (Code.loop c) Q a w:=by
 intro b k cs hro hb hr;obtain⟨e,a',w',hq,harr⟩:=h b k cs hro;exact⟨e,a',w',hq,.of_steps (.one (Xrb P R _) stepR_loop) harr⟩
theorem Xmu.round {R:Option Nat} {P:Program} {c:Code} {Q:Exit->Act->World->Prop} {a:Act} {w:World} (h:wpR R P c (Exit.then (Xmu R P c Q) Q) a w):Xmu R P c Q a w:=by
 intro b k cs hro;obtain⟨e,a₁,w₁,hq,harr⟩:=h b (.inLoop c::k) cs hro trivial (X06g R _)
 cases e with
 |normal =>
  obtain⟨e₂,a₂,w₂,hq₂,harr₂⟩:=hq b k cs hro;exact⟨e₂,a₂,w₂,hq₂,.of_steps (StepsIn.trans harr (.one (Xrb P R _) stepR_inLoop)) harr₂⟩
 |exit id=>exact⟨_,a₁,w₁,hq,.pass (x:=.inLoop c) rfl (λ_ _=>.inl (by simp)) harr⟩
 |goto l=>exact⟨_,a₁,w₁,hq,.pass (x:=.inLoop c) rfl (λ_ _=>.inl (by simp)) harr⟩
 |ret=>exact⟨_,a₁,w₁,hq,.pass (x:=.inLoop c) rfl (λ_ _=>.inl (by simp)) harr⟩
 |panic ch=>exact⟨_,a₁,w₁,hq,.pass (x:=.inLoop c) rfl (λ_ _=>.inl (by simp)) harr⟩
 |outgrown=>exact⟨_,a₁,w₁,hq,.pass (x:=.inLoop c) rfl (λ_ _=>.inl (by simp)) harr⟩
def Xaq (P:Program) (nt n0:Nat) (b:Code) (Q:Xp->St->Mu->Prop) (s:St) (μ:Mu):Prop :=
 ∀ (c0:Ctx) (H0:X0c) (c:Ctx) (act:Act),X3l nt c0 H0 n0 c s act->MOk n0 c0 H0 c s.H μ act->∀ R,RG b R->Xmu R P b (MQ nt c0 H0 n0 Q) act c.w
def rndM (P:Program) (nt n0:Nat) (b:Code) (Q:Xp->St->Mu->Prop):Xp->St->Mu->Prop
 |.normal,s,μ=>Xaq P nt n0 b Q s μ
 |e,s,μ=>Q e s μ
theorem X41.loop {P:Program} {nt n0:Nat} {b:Code} {Q:Xp->St->Mu->Prop} {s:St} {μ:Mu} (h:Xaq P nt n0 b Q s μ):X41 P nt n0 (.loop b) Q s μ :=
 λc0 H0 c act g hm R hR=>(h c0 H0 c act g hm R hR).start
theorem Xaq.round {P:Program} {nt n0:Nat} {b:Code} {Q:Xp->St->Mu->Prop} {s:St} {μ:Mu} (h:X41 P nt n0 b (rndM P nt n0 b Q) s μ):Xaq P nt n0 b Q s μ:=by
 intro c0 H0 c act g hm R hR;refine Xmu.round (wpIn_mono (h c0 H0 c act g hm R hR) ?_);rintro e a w ⟨c',s',ae,μ',rfl,g',hm',rfl,hq⟩
 cases ae with
 |normal=>exact hq c0 H0 c' a g' hm' R hR
 |exit id=>exact⟨c',s',.exit id,μ',rfl,g',hm',rfl,hq⟩
 |ret=>exact⟨c',s',.ret,μ',rfl,g',hm',rfl,hq⟩
section
variable {P:Program} {nt n0:Nat} {s:St} {μ:Mu} {ops:Array Oper} {l:List Oper} {o:Oper} {K:St->Mu->Prop}
theorem X7r.nil (h:K s μ):X7r P nt n0 ops [] K s μ:=λ_ _ c act g hm Qx hQ _ _=>Xrv (hQ c s act μ g hm h)
theorem X7r.step {R:AV->X0c->Nat->Prop} (hw:∀ (c0 c:Ctx) (H0:X0c) (act:Act),X3l nt c0 H0 n0 c s act->Region.wanted o (yielded ops act.tmps)=true) (hd:∀ d,o.dst=some d->d<nt) (h:OpR P nt o s R)
  (hn:∀ a H' n',R a H' n'->X7r P nt n0 ops l K ⟨Xfz s.A o.dst a,H',n'⟩ μ):X7r P nt n0 ops (o::l) K s μ:=by
 intro c0 H0 c act g hm Qx hQ R hR;refine X2a λK' hK'=>?_;rw[if_pos (hw c0 c H0 act g)];refine h c s.H n0 c act g.rebase K' Qx (λc' a H' n' v hr hgood=>?_) R;have g2:=hgood o.dst hd;exact hK' _ _ (hn a H' n' hr c0 H0 c' _ (.join g.reach g2) (hm.kept g2.reach) Qx hQ R hR)
theorem X7r.plain {R:AV->X0c->Nat->Prop} (hg:o.guard=none) (hd:∀ d,o.dst=some d->d<nt) (h:OpR P nt o s R)
  (hn:∀ a H' n',R a H' n'->X7r P nt n0 ops l K ⟨Xfz s.A o.dst a,H',n'⟩ μ):X7r P nt n0 ops (o::l) K s μ :=
 X7r.step (λ_ _ _ _ _=>by simp[Region.wanted,hg]) hd h hn
def gdS (want:Bool):AV->Option Bool
 |.sc (.bool b)=>match want with
  |true=>some b
  |false=>some (!b)
 |.cond g (.sc (.bool b))=>match want with
  |true=>some (g&&b)
  |false=>some (g&&!b)
 |_=>none
theorem Xfa {j t:Nat} {want g:Bool} (hg:o.guard=some (j,want)) (hj:(ops[j]?).bind (·.dst)=some t) (ht:Nat.blt t nt=true) (hb:gdS want (s.A t)=some g)
  {c0 c:Ctx} {H0:X0c} {act:Act} (gd:X3l nt c0 H0 n0 c s act):Region.wanted o (yielded ops act.tmps)=g:=by
 have hlt:t<act.tmps.size:=by rw[gd.size];simpa using ht
 have hf:=gd.frame t;have hy:∀ v,act.tmps.getD t undef=v->yielded ops act.tmps j=(match v with|.bool b=>some b|_=>none):=by
  intro v hv;unfold yielded;rw[hj];simp only[Option.bind_some,Array.getElem?_eq_getElem hlt];have:act.tmps[t]=v:=by simpa[hlt] using hv
  rw[this];cases v<;>rfl
 unfold gdS at hb;split at hb
 ·rename_i b hA;rw[hA] at hf;have:=hy _ hf.sc_inv;simp only at this;unfold Region.wanted;rw[hg];simp only[this];cases b<;>(split at hb<;>cases hb<;>rfl)
 ·rename_i q b hA;rw[hA] at hf
  cases hf with
  |cond h hn =>
   cases q with
   |true =>
    have:=hy _ (h rfl).sc_inv;simp only at this;unfold Region.wanted;rw[hg];simp only[this];cases b<;>(split at hb<;>cases hb<;>rfl)
   |false =>
    have:=hy _ (hn rfl);have hu:yielded ops act.tmps j=none:=this;unfold Region.wanted;rw[hg];simp only[hu];split at hb<;>cases hb<;>rfl
 ·cases hb
theorem X7r.skip {j t:Nat} {want:Bool} (hg:o.guard=some (j,want)) (hj:(ops[j]?).bind (·.dst)=some t) (ht:Nat.blt t nt=true) (hb:gdS want (s.A t)=some false)
  (hd:∀ d,o.dst=some d->d<nt) (hn:X7r P nt n0 ops l K ⟨Xfz s.A o.dst (.cond false (.sc (.bool false))),s.H,s.n⟩ μ):X7r P nt n0 ops (o::l) K s μ:=by
 intro c0 H0 c act g hm Qx hQ R hR;refine X2a λK' hK'=>?_;rw[if_neg (by rw[Xfa hg hj ht hb g];simp)];have g2:X3l nt c s.H n0 c _ _:=g.rebase.next hd (.refl c) rfl (λb hb=>.inl hb) (.refl c s.H) (λq x hx=>.inr ⟨q,x,hx,rfl⟩) g.inv g.solo (Nat.le_refl _) (v:=undef) (a:=.cond false (.sc (.bool false))) (.cond (λh=>by cases h) (λ_=>rfl)) (.cond .sc);exact hK' _ _ (hn c0 H0 c _ (.join g.reach g2) (hm.kept g2.reach) Qx hQ R hR)
theorem X7r.quiet {j t:Nat} {want b:Bool} {a:AV} (hg:o.guard=some (j,want)) (hj:(ops[j]?).bind (·.dst)=some t) (ht:Nat.blt t nt=true) (hb:gdS want (s.A t)=some b)
  (hd:∀ d,o.dst=some d->d<nt) (hok:a.Ok (·<s.n)) (h:b=true->OpR P nt o s (λa' H' n'=>a'=a/\H'=s.H/\n'=s.n))
  (hn:X7r P nt n0 ops l K ⟨Xfz s.A o.dst (.cond b a),s.H,s.n⟩ μ):X7r P nt n0 ops (o::l) K s μ:=by
 cases b with
 |true =>
  refine X7r.step (λc0 c H0 act g=>Xfa hg hj ht hb g) hd (R:=λa' H' n'=>(a'=.cond true a)/\H'=s.H/\n'=s.n) ?_ ?_
  ·intro c0 H0 n0 c act g K Q hK R;refine h rfl c0 H0 n0 c act g K Q (λc' a' H' n' v hR hgood=>?_) R;obtain⟨rfl,rfl,rfl⟩:=hR;refine hK c' (.cond true a') _ _ v ⟨rfl,rfl,rfl⟩ λdst hd=>?_;have g2:=hgood dst hd;refine⟨g2.inv,g2.solo,λq=>?_,λq=>?_,g2.size,g2.reach,g2.le0⟩
   ·have h1:=g2.frame q
    cases dst with
    |none=>exact h1
    |some d =>
     simp only[Xfz] at h1 ⊢;by_cases hq:q=d
     ·subst hq;rw[Xm] at h1 ⊢;exact .cond (λ_=>h1) (λh=>by cases h)
     ·rw[Xl _ _ hq] at h1 ⊢;exact h1
   ·have h1:=g2.ok q
    cases dst with
    |none=>exact h1
    |some d =>
     simp only[Xfz] at h1 ⊢;by_cases hq:q=d
     ·subst hq;rw[Xm] at h1 ⊢;exact .cond h1
     ·rw[Xl _ _ hq] at h1 ⊢;exact h1
  ·rintro _ _ _ ⟨rfl,rfl,rfl⟩;exact hn
 |false =>
  intro c0 H0 c act g hm Qx hQ R hR;refine X2a λK' hK'=>?_;rw[if_neg (by rw[Xfa hg hj ht hb g];simp)];have g2:X3l nt c s.H n0 c _ _:=g.rebase.next hd (.refl c) rfl (λb hb=>.inl hb) (.refl c s.H) (λq x hx=>.inr ⟨q,x,hx,rfl⟩) g.inv g.solo (Nat.le_refl _) (v:=undef) (a:=.cond false a) (.cond (λh=>by cases h) (λ_=>rfl)) (.cond hok);exact hK' _ _ (hn c0 H0 c _ (.join g.reach g2) (hm.kept g2.reach) Qx hQ R hR)
theorem X41.region {id:Nat} {Q:Xp->St->Mu->Prop} (h:X7r P nt n0 ops ops.toList (λs μ=>Q .normal s μ) s μ):X41 P nt n0 (.region id ops false) Q s μ:=by
 intro c0 H0 c act g hm R _;exact wpIn_region_list (h c0 H0 c act g hm _ (λc' s' act' μ' g' hm' hq=>⟨c',s',.normal,μ',rfl,g',hm',rfl,hq⟩) (some R) (λh=>by cases h))
end
mutual
theorem Xo9 (M:Nat->Bool):∀ (a:AV),AV.okB M a=true->a.Ok (λo=>M o=true)
 |.junk=>λ_=>.junk
 |.sc _=>λ_=>.sc
 |.nils=>λ_=>.nils
 |.agg cs=>λh=>.agg (Xpe M cs h)
 |.tup cs=>λh=>.tup (Xpe M cs h)
 |.list ..=>λ_=>.list
 |.ref ..=>λh=>.ref h
 |.ptr ..=>λh=>.ptr h
 |.elem ..=>λ_=>.elem
 |.fn _ caps=>λh=>.fn (Xpe M caps h)
 |.mref ..=>λh=>.mref h
 |.cond _ v=>λh=>.cond (Xo9 M v h)
 |.mv _ v=>λh=>.mv (Xo9 M v h)
theorem Xpe (M:Nat->Bool):∀ (l:List AV),AV.oksB M l=true->∀ a∈l,a.Ok (λo=>M o=true)
 |[]=>λ_ _ h=>by cases h
 |a::r=>λh x hx=>by
  have h':(AV.okB M a&&AV.oksB M r)=true:=h;simp only[Bool.and_eq_true] at h';rcases List.mem_cons.1 hx with he|hx
  ·rw[he];exact Xo9 M a h'.1
  ·exact Xpe M r h'.2 x hx
end
theorem okLt {n:Nat} {a:AV} (h:AV.okB (λo=>Nat.blt o n) a=true):a.Ok (·<n):=(Xo9 _ a h).mono λo ho=>by simpa using ho
inductive Kn where
 |seq (c:Code)
 |block (id:Nat)
 |loop (b:Code)
inductive Cf where
 |code (c:Code)
 |exit (e:Xp)
 |ops (ops:Array Oper) (l:List Oper)
 |loop (b:Code)
def Cl (nt n0:Nat) (Q:Xp->St->Mu->Prop):Xp->St->Mu->Prop:=λe s μ =>
 ∀ (c0:Ctx) (H0:X0c) (c:Ctx) (act:Act),X3l nt c0 H0 n0 c s act->MOk n0 c0 H0 c s.H μ act->∃ c' s',c'.w=c.w/\X3l nt c0 H0 n0 c' s' act/\MOk n0 c0 H0 c' s'.H μ act/\Q e s' μ
theorem Cl.mk {nt n0:Nat} {Q:Xp->St->Mu->Prop} {e:Xp} {s:St} {μ:Mu} (h:Q e s μ):Cl nt n0 Q e s μ:=λ_ _ c _ g hm=>⟨c,s,rfl,g,hm,h⟩
theorem X41.ofCl {P:Program} {nt n0:Nat} {Q:Xp->St->Mu->Prop} {code:Code} {s:St} {μ:Mu} (h:X41 P nt n0 code (Cl nt n0 Q) s μ):X41 P nt n0 code Q s μ:=by
 intro c0 H0 c act g hm R hR;refine wpIn_mono (h c0 H0 c act g hm R hR) ?_;rintro e a w ⟨c',s',ae,μ',rfl,g',hm',rfl,hq⟩;obtain⟨c2,s2,h1,h2,h3,h4⟩:=hq c0 H0 c' a g' hm';exact⟨c2,s2,ae,μ',h1,h2,h3,rfl,h4⟩
def Xf1 (P:Program) (nt n0:Nat) (Q:Xp->St->Mu->Prop):List Kn->Xp->St->Mu->Prop
 |[]=>Cl nt n0 Q
 |.seq c::K=>seqM P nt n0 c (Xf1 P nt n0 Q K)
 |.block id::K=>X99 id (Xf1 P nt n0 Q K)
 |.loop b::K=>rndM P nt n0 b (Xf1 P nt n0 Q K)
def X0 (P:Program) (nt n0:Nat) (Q:Xp->St->Mu->Prop) (cf:Cf) (K:List Kn) (s:St) (μ:Mu):Prop :=
 match cf with
 |.code c=>X41 P nt n0 c (Xf1 P nt n0 Q K) s μ
 |.exit e=>Xf1 P nt n0 Q K e s μ
 |.ops ops l=>X7r P nt n0 ops l (λs μ=>Xf1 P nt n0 Q K .normal s μ) s μ
 |.loop b=>Xaq P nt n0 b (Xf1 P nt n0 Q K) s μ
def SSt (L:List (Nat×AV)) (G:List (Nat×Obj)) (n:Nat):St:=⟨fr L,hp G,n⟩
def putK {β:Type} (d:Option Nat) (a:AV) (L:List (Nat×AV)) (k:List (Nat×AV)->Option β):Option β :=
 match d with
 |some d=>k ((d,a)::L)
 |none=>k L
def Xwi (d:Option Nat) (a:AV) (L:List (Nat×AV)):List (Nat×AV) :=
 match d with
 |some d=>(d,a)::L
 |none=>L
theorem Xfh {β:Type} (d:Option Nat) (a:AV) (L:List (Nat×AV)) (k:List (Nat×AV)->Option β):putK d a L k=k (Xwi d a L):=by cases d<;>rfl
theorem X5u (d:Option Nat) (a:AV) (L:List (Nat×AV)):fr (Xwi d a L)=Xfz (fr L) d a:=by
 cases d<;>rfl
def Xjy {β:Type}:List (Nat×Obj)->(List (Nat×Obj)->Option β)->Option β
 |[],k=>k []
 |p::r,k=>Xjy r λr=>k (p::r)
theorem Xfr {β:Type}:∀ (G:List (Nat×Obj)) (k:List (Nat×Obj)->Option β),Xjy G k=k G:=by
 intro G
 induction G with
 |nil=>intro k;rfl
 |cons p r ih=>intro k;simp[Xjy,ih]
def Xwk {β:Type}:List Prop->List Prop->(List Prop->Option β)->Option β
 |[],ps,k=>k ps
 |q::r,ps,k=>Xwk r (q::ps) k
def oweL:List Prop->List Prop->List Prop
 |[],ps=>ps
 |q::r,ps=>oweL r (q::ps)
theorem Xee {β:Type}:∀ (qs ps:List Prop) (k:List Prop->Option β),Xwk qs ps k=k (oweL qs ps):=by
 intro qs
 induction qs with
 |nil=>intro ps k;rfl
 |cons q r ih=>intro ps k;simp[Xwk,oweL,ih]
theorem Xay:∀ {qs ps:List Prop},X4v (oweL qs ps)->X4v qs/\X4v ps:=by
 intro qs
 induction qs with
 |nil=>intro ps h;exact⟨trivial,h⟩
 |cons q r ih=>intro ps h;obtain⟨h1,h2⟩:=ih h;exact⟨⟨h2.1,h1⟩,h2.2⟩
def filL (bad:List Nat):List (Nat×AV)->List (Nat×AV)
 |[]=>[]
 |(d,a)::l=>bif Xnf d bad then filL bad l else (d,a)::filL bad l
theorem Xml (bad:List Nat):∀ L,fr (filL bad L)=frD bad (fr L):=by
 intro L;funext t
 induction L with
 |nil=>simp[filL,fr,frD]
 |cons p l ih =>
  obtain⟨d,a⟩:=p;simp only[filL]
  cases hb:Xnf d bad with
  |true =>
   simp only[cond_true,ih,frD,fr]
   cases ht:Xnf t bad with
   |true=>rfl
   |false =>
    have:Nat.beq t d=false:=by
     rw[<-Bool.not_eq_true,Nat.beq_eq];intro e;subst e;rw[hb] at ht;cases ht
    simp[this]
  |false =>
   simp only[cond_false,frD,fr]
   cases hq:Nat.beq t d with
   |true =>
    have:t=d:=Nat.eq_of_beq_eq_true hq;subst this;simp[hb]
   |false =>
    simp only[cond_false,ih,frD]
def filG (base mi:Nat) (hf:Nat->Bool) (es:List X3b):List (Nat×Obj)->List (Nat×Obj)
 |[]=>[]
 |(o,x)::l=>bif Xas base mi hf es o then filG base mi hf es l else (o,x)::filG base mi hf es l
theorem X003 (base mi:Nat) (hf:Nat->Bool) (es:List X3b):∀ G,hp (filG base mi hf es G)=hpD base mi hf es (hp G):=by
 intro G;funext q
 induction G with
 |nil=>simp[filG,hp,hpD]
 |cons p l ih =>
  obtain⟨o,x⟩:=p;simp only[filG]
  cases hb:Xas base mi hf es o with
  |true =>
   simp only[cond_true,ih,hpD,hp]
   cases ht:Xas base mi hf es q with
   |true=>rfl
   |false =>
    have:Nat.beq q o=false:=by
     rw[<-Bool.not_eq_true,Nat.beq_eq];intro e;subst e;rw[hb] at ht;cases ht
    simp[this]
  |false =>
   simp only[cond_false,hpD,hp]
   cases hq:Nat.beq q o with
   |true =>
    have:q=o:=Nat.eq_of_beq_eq_true hq;subst this;simp[hb]
   |false =>
    simp only[cond_false,ih,hpD]
def X028 (id:Nat) (G:List (Nat×Obj)):X3b->List (Nat×Obj)
 |.none=>G
 |.new x=>(id,x)::G
 |.app old x=>(id,x)::delG old G
 |.set o x=>(o,x)::delG o G
def Xo0:X3b->Bool
 |.none=>true
 |.new x=>!x.gone
 |.app _ x=>!x.gone
 |.set _ x=>!x.gone
theorem Xtf (id:Nat) (G:List (Nat×Obj)) (e:X3b) (he:Xo0 e=true):hp (X028 id G e)=e.go id (hp G):=by
 cases e with
 |none=>rfl
 |new x=>rw[X3b.go_new];exact Xfn _ _ _ (by simpa[Xo0] using he)
 |app old x=>rw[X3b.go_app];simp only[X028,Xfn _ _ _ (show x.gone=false by simpa[Xo0] using he),Xt1]
 |set o x=>rw[X3b.go_set];exact Xsw o x G (by simpa[Xo0] using he)
abbrev DR:=Option (AV×X3b×List X21×List Prop)
def capS (T:Ty) (L:List (Nat×AV)) (G:List (Nat×Obj)) (id:Nat) (op:Op) (hs:List X21):DR :=
 match op with
 |.call { callee:=.builtin .append,args:=⟨[s,x]⟩,argTypes:=⟨[t,t']⟩ }=>if t=t' then (match hs with
  |.go b::.ix g::hs=>match X5t T t with
   |some te=>match rd L (.tmp g) with
    |(.mref o' m,p0)=>match rd L s,rd L x with
     |(.ref o 0 n,p),(xb,q)=>if o'=o then (match hp G o with
      |some y=>if y.esz=te.size then (match srcS (hp G) xb (p0++(p++q)) with
       |some (xs,ps)=>match b with
        |true=>some (.ref id 0 (n+xs.length),.new { es:=y.es++xs,esz:=te.size },hs,
          (m=n)::(y.es.length=n)::(xs≠[])::(n+xs.length<=maxLen)::((n+xs.length)*te.bytes<=140737488355328)::(∀ e∈xs,e.cells.length=te.size)::ps)
        |false=>match hs with
         |.via (.list _ es')::hs=>some (.ref o 0 (n+xs.length),.set o { y with es:=es' },hs,
          (y.es.take n++xs++y.es.drop (n+xs.length)=es')::(n+xs.length<=m)::(n<=y.es.length)::(xs≠[])::(∀ e∈xs,e.cells.length=te.size)::ps)
         |_=>none
       |none=>none) else none
      |none=>none) else none
     |_,_=>none
    |_=>none
   |none=>none
  |_=>none) else none
 |_=>none
theorem X08r {P:Program} {T:Ty} {L:List (Nat×AV)} {G:List (Nat×Obj)} {id:Nat} {o:Oper} {hs hs':List X21} {ps:List Prop} {a:AV} {e:X3b} (h:capS T L G id o.op hs=some (a,e,hs',ps)) (hp':X4v ps) :
  DOp P T (fr L) (hp G) id o a e:=by
 unfold capS at h;split at h
 ·rename_i ho;split at h
  ·rename_i htt;subst htt;split at h
   ·split at h
    ·rename_i hty;obtain⟨ti,et,h1,h2,h3⟩:=X29 hty;split at h
     ·rename_i hrg;split at h
      ·rename_i hrs hrx;split at h
       ·rename_i hoo;subst hoo;split at h
        ·rename_i hH;split at h
         ·rename_i hes;split at h
          ·rename_i hsrc;split at h
           ·cases h
            obtain⟨p1,p2,p3,p4,p5,p6,p7⟩:=hp';obtain⟨s1,s2⟩:=X65 hsrc p7;obtain⟨q0,q12⟩:=X0g.1 s2;obtain⟨q1,q2⟩:=X0g.1 q12;refine .new ?_ rfl rfl;rw[ho];exact .appendFull (X0n hrs q1) (by rw[X0n hrg q0,p1]) hH p2 hes (by rw[X0n hrx q2];exact s1) p3 h1 h2 h3 p6 p4 p5
           ·split at h
            ·cases h
             obtain⟨rfl,p1,p2,p3,p6,p7⟩:=hp';obtain⟨s1,s2⟩:=X65 hsrc p7;obtain⟨q0,q12⟩:=X0g.1 s2;obtain⟨q1,q2⟩:=X0g.1 q12;exact .room ho (X0n hrs q1) (X0n hrg q0) hH p2 p1 hes (by rw[X0n hrx q2];exact s1) p3 h1 h2 h3 p6
            ·cases h
          ·cases h
         ·cases h
        ·cases h
       ·cases h
      ·cases h
     ·cases h
    ·cases h
   ·cases h
  ·cases h
 ·cases h
def X08z (P:Program) (f:Nat) (V:X0c) (as:List AV) (r:AV) (q:Nat) (y':Obj):Prop :=
 ∃ v y len bs,r=.sc v/\as=.ref q 0 len::bs/\V q=some y/\(∀ a∈bs,∀ M,a.Ok M)/\(∀ e∈y.es,∀ a∈e.cells,∀ M,a.Ok M)/\(∀ e∈y'.es,∀ a∈e.cells,∀ M,a.Ok M) /\
  HC P f (.ref 0 0 len::bs) (λp=>bif Nat.beq p 0 then some y else none) 1 (λr H' _=>r=.sc v/\H' 0=some y')/\y'.solo=true/\y'.spent=false
def dopS (P:Program) (T:Ty) (L:List (Nat×AV)) (G:List (Nat×Obj)) (id:Nat) (o:Oper) (hs:List X21):DR :=
 match o.op with
 |.store t p x=>match o.dst with
  |none=>match stO T L G t p x hs with
   |some (q,z,hs,ps)=>some (.sc undef,.set q z,hs,ps)
   |none=>none
  |some _=>none
 |.call { callee:=.value x,args:=args,argTypes:=_ }=>match hs with
  |.pure bs r::hs=>match rd L x with
   |(.fn f [],p)=>match rds L args.toList with
    |(as,q)=>match AV.okB (λ_=>false) r with
     |true=>some (r,.none,hs,Xa7 P f (hp G) as bs r::(p++q))
     |false=>none
   |(.fn f (u::us),p)=>match rds L args.toList with
    |(as,q)=>match AV.okB (λ_=>false) r with
     |true=>some (r,.none,hs,Xa7 P f (hp G) (as++(u::us)) bs r::(p++q))
     |false=>none
   |_=>none
  |.call r ((w,y')::_) _::hs=>match rd L x with
   |(.fn f caps,p)=>match rds L args.toList,r with
    |(as,q),.sc v=>some (.sc v,.set w y',hs,X08z P f (hp G) (as++caps) (.sc v) w y'::(p++q))
    |_,_=>none
   |_=>none
  |_=>none
 |op=>match puS T L (hp G) op hs with
  |some (a,hs,ps)=>some (a,.none,hs,ps)
  |none=>match capS T L G id op hs with
   |some r=>some r
   |none=>match mkS T L (hp G) id op hs with
    |some (a,.none,hs,ps)=>some (a,.none,hs,ps)
    |some (a,.new x,hs,ps)=>some (a,.new x,hs,ps)
    |some (a,.app old x,hs,ps)=>some (a,.app old x,hs,ps)
    |none=>none
theorem X005 {P:Program} {T:Ty} {L:List (Nat×AV)} {G:List (Nat×Obj)} {id:Nat} {o:Oper} {hs hs':List X21} {ps:List Prop} {a:AV} {e:X3b} (h:dopS P T L G id o hs=some (a,e,hs',ps)) (hp':X4v ps) :
  DOp P T (fr L) (hp G) id o a e:=by
 unfold dopS at h;split at h
 ·rename_i ho;split at h
  ·rename_i hd;split at h
   ·rename_i hst;cases h
    obtain⟨i,k,y,e,ti,h1,h2,h3,h4,h5,h6,h7,h8,h9,rfl⟩:=X04t hst hp';exact .store ho hd h1 h2 h4 h5 h6 h7 h8 h9
   ·cases h
  ·cases h
 ·rename_i ho;split at h
  ·split at h
   ·rename_i hx;split at h
    rename_i hargs;split at h
    ·rename_i hok;cases h
     obtain⟨⟨p1,Hr,p2,p3,p4⟩,q⟩:=hp';obtain⟨q1,q2⟩:=X0g.1 q;rw[<-Xgl hargs q2] at p2;refine .pure ho (X0n hx q1) (by rw[List.append_nil];exact p2) p1 p3 (p4.imp (λh=>h) λhn=>⟨hn,λM=>?_⟩);exact(Xo9 _ _ hok).mono λo ho=>by cases ho
    ·cases h
   ·rename_i hx;split at h
    rename_i hargs;split at h
    ·rename_i hok;cases h
     obtain⟨⟨p1,Hr,p2,p3,p4⟩,q⟩:=hp';obtain⟨q1,q2⟩:=X0g.1 q;rw[<-Xgl hargs q2] at p2;refine .pure ho (X0n hx q1) p2 p1 p3 (p4.imp (λh=>h) λhn=>⟨hn,λM=>?_⟩);exact(Xo9 _ _ hok).mono λo ho=>by cases ho
    ·cases h
   ·cases h
  ·split at h
   ·rename_i hx;split at h
    ·rename_i hargs;cases h
     obtain⟨⟨v,y,len,bs,k1,k2,k3,k4,k5,k6,k7,k8,k9⟩,q⟩:=hp';obtain⟨q1,q2⟩:=X0g.1 q;rw[<-Xgl hargs q2] at k2;cases k1
     exact .callSet ho (X0n hx q1) k3 k2 k4 k5 k6 k7 k8 k9
    ·cases h
   ·cases h
  ·cases h
 ·split at h
  ·rename_i hpu;cases h
   exact .pu (X050 hpu hp')
  ·split at h
   ·rename_i hca;cases h;exact X08r hca hp'
   ·split at h
    ·rename_i hm;cases h;exact .zero (Xu0 hm hp').1
    ·rename_i hm;cases h;obtain⟨h1,h2⟩:=Xu0 hm hp';have:=h2 0 _ (.inr rfl);exact .new h1 this.1 this.2
    ·rename_i hm;cases h;obtain⟨h1,h2⟩:=Xu0 hm hp';have:=h2 _ _ (.inl rfl);exact .app h1 this.1 this.2
    ·cases h
def rawB (want:Bool) (a:AV):Option (Bool×List Prop) :=
 match a with
 |.sc (.bool b)=>match want with
  |true=>some (b,[])
  |false=>some (!b,[])
 |.cond g (.sc (.bool b))=>match want with
  |true=>some (b,[g=true])
  |false=>some (!b,[g=true])
 |_=>none
theorem Xy5 {want g:Bool} {a:AV} {qs:List Prop} (h:rawB want a=some (g,qs)) (hq:X4v qs):∃ b,Xe6 a=.sc (.bool b)/\g=(b==want):=by
 unfold rawB at h;split at h
 ·rename_i b;refine⟨b,rfl,?_⟩;cases b<;>(split at h<;>(cases h;rfl))
 ·rename_i q b;split at h
  ·cases h;obtain⟨rfl,_⟩:=hq;exact⟨g,rfl,by cases g<;>rfl⟩
  ·cases h;obtain⟨rfl,_⟩:=hq;exact⟨b,rfl,by cases b<;>rfl⟩
 ·cases h
def tb (m k:Nat):Bool:=Nat.beq (Nat.land (Nat.shiftRight m k) 1) 1
theorem X02b (m k:Nat):tb m k=Nat.testBit m k:=by
 rw[Nat.testBit_eq_decide_div_mod_eq];show Nat.beq ((m >>> k) &&& 1) 1=_;rw[Nat.and_one_is_mod,Nat.shiftRight_eq_div_pow];by_cases h:m / 2 ^ k % 2=1
 ·rw[h];simp
 ·rw[decide_eq_false h,<-Bool.not_eq_true,Nat.beq_eq];exact h
def Xfp {α γ:Type}:List α->(List α->γ)->γ
 |[],k=>k []
 |a::r,k=>Xfp r λr=>k (a::r)
theorem Xok {α γ:Type}:∀ (l:List α) (k:List α->γ),Xfp l k=k l:=by
 intro l
 induction l with
 |nil=>intro k;rfl
 |cons a r ih=>intro k;simp only[Xfp,ih]
def Xsy {γ:Type} (e:X3b) (k:X3b->γ):γ :=
 match e with
 |.none=>k .none
 |.new x=>k (.new x)
 |.app o x=>k (.app o x)
 |.set o x=>k (.set o x)
theorem Xvt {γ:Type} (e:X3b) (k:X3b->γ):Xsy e k=k e:=by cases e<;>rfl
def badF (i mi:Nat):Nat->List Oper->List Nat->List Nat
 |k,o::r,m::ms =>
  match o.dst with
  |none=>badF i mi (k+1) r ms
  |some d=>bif Nat.beq k i then badF i mi (k+1) r ms else bif Nat.blt k i then (bif tb mi k then badF i mi (k+1) r ms else d::badF i mi (k+1) r ms) else (bif tb m i then badF i mi (k+1) r ms else d::badF i mi (k+1) r ms)
 |_,_,_=>[]
theorem X08v (i mi:Nat):∀ (l:List Oper) (k:Nat) (ms:List Nat),badF i mi k l ms=X9e i mi k l ms:=by
 intro l
 induction l with
 |nil=>intro k ms;rfl
 |cons o r ih =>
  intro k ms
  cases ms with
  |nil=>rfl
  |cons m ms=>simp only[badF,X9e,ih,X02b]<;>(cases o.dst<;>rfl)
def Xqy (base mi o:Nat):Nat->List X3b->Bool
 |k,e::es=>bif Xnf o (e.objs (base+k)) then (bif tb mi k then Xqy base mi o (k+1) es else true) else Xqy base mi o (k+1) es
 |_,[]=>false
theorem Xzt (base mi o:Nat):∀ (es:List X3b) (k:Nat),Xqy base mi o k es=Xg9 base mi o k es:=by
 intro es
 induction es with
 |nil=>intro k;rfl
 |cons e es ih =>
  intro k;simp only[Xqy,Xg9,ih,X02b];cases Xnf o (e.objs (base+k))<;>cases Nat.testBit mi k<;>rfl
def hidF (base mi:Nat) (hf:Nat->Bool) (es:List X3b) (o:Nat):Bool :=
 bif hf o then true else bif (bif Nat.ble base o then !tb mi (o - base) else false) then true else Xqy base mi o 0 es
theorem Xzu (base mi:Nat) (hf:Nat->Bool) (es:List X3b) (o:Nat):hidF base mi hf es o=Xas base mi hf es o:=by
 unfold hidF Xas;rw[Xzt,X02b];cases hf o<;>cases Nat.ble base o<;>cases Nat.testBit mi (o - base)<;>rfl
def Xvy (base mi:Nat) (hf:Nat->Bool) (es:List X3b):List (Nat×Obj)->List (Nat×Obj)
 |[]=>[]
 |(o,x)::r=>bif hidF base mi hf es o then Xvy base mi hf es r else (o,x)::Xvy base mi hf es r
def Xqc (base mk:Nat) (os:List Nat):Nat->List (Nat×(Nat->Bool))->List X3b->List X3b->Bool
 |i,(mi,hf)::ms,pre,e::es =>
  bif (bif tb mk i then true else os.all (λo=>bif hidF base mi hf pre o then !Xnf o (e.objs (base+i)) else false)) then Xfp (pre++[e]) λpre=>Xqc base mk os (i+1) ms pre es else false
 |_,_,_,_=>true
theorem X047 (base mi:Nat) (hf:Nat->Bool) (es:List X3b):∀ G,Xvy base mi hf es G=filG base mi hf es G:=by
 intro G
 induction G with
 |nil=>rfl
 |cons p r ih=>obtain⟨o,x⟩:=p;simp only[Xvy,filG,Xzu,ih]
theorem Xwv (base mk:Nat) (os:List Nat):∀ (es:List X3b) (i:Nat) (ms:List (Nat×(Nat->Bool))) (pre:List X3b),Xqc base mk os i ms pre es=X7j base mk os i ms pre es:=by
 intro es
 induction es with
 |nil=>intro i ms pre;cases ms<;>rfl
 |cons e es ih =>
  intro i ms pre
  cases ms with
  |nil=>rfl
  |cons m ms =>
   obtain⟨mi,hf⟩:=m;simp only[Xqc,X7j,Xok,ih,X02b];have:(os.all λo=>bif hidF base mi hf pre o then !Xnf o (e.objs (base+i)) else false)=os.all λo=>Xas base mi hf pre o&&!Xnf o (e.objs (base+i)):=by
    congr 1;funext o;rw[Xzu];cases Xas base mi hf pre o<;>rfl
   rw[this];cases Nat.testBit mk i<;>cases(os.all λo=>Xas base mi hf pre o&&!Xnf o (e.objs (base+i)))<;>simp
def Xr4 {β:Type} (n:Nat) (k:Nat->Option β):Option β :=
 match n with
 |0=>k 0
 |m+1=>k (m+1)
theorem Xi0 {β:Type} (n:Nat) (k:Nat->Option β):Xr4 n k=k n:=by cases n<;>rfl
def Xmi {β:Type}:List Nat->(List Nat->Option β)->Option β
 |[],k=>k []
 |a::r,k=>Xr4 a λa=>Xmi r λr=>k (a::r)
theorem Xol {β:Type}:∀ (l:List Nat) (k:List Nat->Option β),Xmi l k=k l:=by
 intro l
 induction l with
 |nil=>intro k;rfl
 |cons a r ih=>intro k;simp only[Xmi,Xi0,ih]
def Xu2 {β:Type}:List Nat->List Oper->(List Nat->Option β)->Option β
 |done,[],k=>k done
 |done,o::r,k=>Xr4 ((Xdt o).foldl (λm j=>m |||2 ^ j |||done.getD j 0) 0) λm=>Xmi (done++[m]) λdone=>Xu2 done r k
theorem Xyo {β:Type}:∀ (l:List Oper) (done:List Nat) (k:List Nat->Option β),Xu2 done l k=k (Xh4 done l):=by
 intro l
 induction l with
 |nil=>intro done k;rfl
 |cons o r ih=>intro done k;simp only[Xu2,Xi0,Xol,ih,Xh4]
def Xnp (hz:Oper->Nat->Bool) (P:Program) (T:Ty) (nt base:Nat) (ops:Array Oper) (ms:List Nat) (zs:List (Nat×(Nat->Bool))):Nat->List Oper->List (Nat×AV)->List (Nat×Obj)->List X3b->List X21->List Prop->Option (List (Nat×AV)×List (Nat×Obj)×List X21×List Prop)
 |_,[],L,G,_,hs,ps=>some (L,G,hs,ps)
 |i,o::l,L,G,es,hs,ps=>Xr4 (ms.getD i 0) λmi=>Xmi (badF i mi 0 ops.toList ms) λbad =>
  if Xev nt bad o.dst=true then (match o.guard with
   |none=>match dopS P T (filL bad L) (Xvy base mi (hz o) es G) (base+i) o hs with
    |some (a,e,hs',qs)=>Xsy e λe=>if (Xo0 e&&Xqc base mi (e.objs (base+i)) 0 (zs.take i) [] es)=true then
      Xfs a λa=>putK o.dst a L λL=>Xjy (X028 (base+i) G e) λG=>Xwk qs ps λps=>Xfp (es++[e]) λes=>Xnp hz P T nt base ops ms zs (i+1) l L G es hs' ps else none
    |none=>none
   |some (j,want)=>match (ops[j]?).bind (·.dst) with
    |some t=>if Nat.blt t nt=true then (match hs with
     |.go true::hs=>match rawB want (fr (filL bad L) t) with
      |some (g,rs)=>match dopS P T (filL bad L) (Xvy base mi (hz o) es G) (base+i) o hs with
       |some (a,e,hs',qs)=>Xsy e λe=>if (Xo0 e&&Xqc base mi (e.objs (base+i)) 0 (zs.take i) [] es)=true then
         Xfs a λa=>putK o.dst a L λL=>Xjy (X028 (base+i) G e) λG=>Xwk rs ps λps=>Xwk qs ((g=true)::ps) λps=>Xfp (es++[e]) λes=>Xnp hz P T nt base ops ms zs (i+1) l L G es hs' ps else none
       |none=>none
      |none=>none
     |.go false::hs=>match rawB want (fr (filL bad L) t) with
      |some (g,rs)=>putK o.dst (.sc undef) L λL=>Xwk rs ps λps=>Xfp (es++[.none]) λes=>Xnp hz P T nt base ops ms zs (i+1) l L G es hs ((g=false)::ps)
      |none=>none
     |.no::hs=>match fr (filL bad L) t with
      |.sc v=>match Xri want v with
       |false=>putK o.dst (.sc undef) L λL=>Xfp (es++[.none]) λes=>Xnp hz P T nt base ops ms zs (i+1) l L G es hs ps
       |true=>none
      |_=>none
     |_=>none) else none
    |none=>none) else none
theorem Xuh {hz:Oper->Nat->Bool} {P:Program} {T:Ty} {nt base:Nat} {ops:Array Oper} {ms:List Nat}:∀ (l:List Oper) (i:Nat) (L:List (Nat×AV)) (G:List (Nat×Obj)) (es:List X3b) (hs:List X21) (ps:List Prop) (L':List (Nat×AV)) (G':List (Nat×Obj)) (hs':List X21) (ps':List Prop),
  Xnp hz P T nt base ops ms (ms.zip (ops.toList.map hz)) i l L G es hs ps=some (L',G',hs',ps')->X4v ps'->X4v ps/\DRun hz P T nt base ops ms i l (fr L) (hp G) es (fr L') (hp G'):=by
 intro l
 induction l with
 |nil=>intro i L G es hs ps L' G' hs' ps' h hp';simp only[Xnp] at h;cases h;exact⟨hp',.nil⟩
 |cons o l ih =>
  intro i L G es hs ps L' G' hs' ps' h hp';simp only[Xnp,Xi0,Xol,X08v,X047,Xwv,Xok,Xvt] at h;split at h
  ·rename_i hd;split at h
   ·rename_i hg;split at h
    ·rename_i a e _ qs hop;split at h
     ·rename_i hw;obtain⟨he,hw⟩:=Bool.and_eq_true_iff.1 hw;rw[X93,Xfh,Xfr,Xee] at h;obtain⟨h1,h2⟩:=ih _ _ _ _ _ _ _ _ _ _ h hp';obtain⟨p1,p2⟩:=Xay h1;have hop':=X005 hop p1;rw[Xml,X003] at hop';rw[X5u,Xtf _ _ _ he] at h2;exact⟨p2,.op hg hd hop' hw h2⟩
     ·cases h
    ·cases h
   ·rename_i j want hg;split at h
    ·rename_i hj;split at h
     ·rename_i ht;split at h
      ·split at h
       ·rename_i hr;split at h
        ·rename_i hop;split at h
         ·rename_i hw;obtain⟨he,hw⟩:=Bool.and_eq_true_iff.1 hw;rw[X93,Xfh,Xfr,Xee,Xee] at h;obtain⟨h1,h2⟩:=ih _ _ _ _ _ _ _ _ _ _ h hp';obtain⟨p1,p0,p2⟩:=Xay h1;obtain⟨p3,p4⟩:=Xay p2;have hop':=X005 hop p1;rw[Xml,X003] at hop';rw[X5u,Xtf _ _ _ he] at h2;obtain⟨b,hb1,hb2⟩:=Xy5 hr p3;rw[Xml] at hb1;have:b=want:=by rw[p0] at hb2;simpa using hb2.symm
          subst this;exact⟨p4,.run hg hd hj ht hb1 hop' hw h2⟩
         ·cases h
        ·cases h
       ·cases h
      ·split at h
       ·rename_i hr;rw[Xfh,Xee] at h;obtain⟨h1,h2⟩:=ih _ _ _ _ _ _ _ _ _ _ h hp';obtain⟨p0,p2⟩:=h1;obtain⟨p3,p4⟩:=Xay p2;rw[X5u] at h2;obtain⟨b,hb1,hb2⟩:=Xy5 hr p3;rw[Xml] at hb1;exact⟨p4,.skip hg hd hj ht hb1 (by rw[p0] at hb2;exact hb2.symm) h2⟩
       ·cases h
      ·split at h
       ·rename_i hr;split at h
        ·rename_i hb;rw[Xfh] at h;obtain⟨h1,h2⟩:=ih _ _ _ _ _ _ _ _ _ _ h hp';rw[X5u] at h2;rw[Xml] at hr;exact⟨h1,.skip hg hd hj ht (by rw[hr];rfl) hb h2⟩
        ·cases h
       ·cases h
      ·cases h
     ·cases h
    ·cases h
  ·cases h
def cntN {β:Type}:List Oper->Nat->(Nat->Option β)->Option β
 |[],n,k=>k n
 |_::r,n,k=>Xr4 (n+1) λn=>cntN r n k
theorem X08n {β:Type}:∀ (l:List Oper) (n:Nat) (k:Nat->Option β),cntN l n k=k (n+l.length):=by
 intro l
 induction l with
 |nil=>intro n k;rfl
 |cons a r ih=>intro n k;simp only[cntN,Xi0,ih,List.length_cons];congr 1;omega
abbrev RR:=Option (Cf×List Kn×List (Nat×AV)×List (Nat×Obj)×Nat×List X21×List Prop)
def Xnr (nt n0:Nat) (s s':St):Prop:=∀ (c0:Ctx) (H0:X0c) (c:Ctx) (act:Act) (μ:Mu),X3l nt c0 H0 n0 c s act->MOk n0 c0 H0 c s.H μ act->X3l nt c0 H0 n0 c s' act/\MOk n0 c0 H0 c s'.H μ act
theorem Xnr.loop {P:Program} {nt n0:Nat} {s s':St} (hw:Xnr nt n0 s s') {b:Code} {Q:Xp->St->Mu->Prop} {μ:Mu} (h:Xaq P nt n0 b Q s' μ):Xaq P nt n0 b Q s μ:=by
 intro c0 H0 c act g hm;obtain⟨g',hm'⟩:=hw c0 H0 c act μ g hm;exact h c0 H0 c act g' hm'
theorem Xnr.semM {P:Program} {nt n0:Nat} {s s':St} (hw:Xnr nt n0 s s') {c:Code} {Q:Xp->St->Mu->Prop} {μ:Mu} (h:X41 P nt n0 c Q s' μ):X41 P nt n0 c Q s μ:=by
 intro c0 H0 c act g hm;obtain⟨g',hm'⟩:=hw c0 H0 c act μ g hm;exact h c0 H0 c act g' hm'
theorem Xf1.sub {P:Program} {nt n0:Nat} {Q:Xp->St->Mu->Prop} {μ:Mu} {s s':St} (hw:Xnr nt n0 s s'):∀ (K:List Kn) (e:Xp),Xf1 P nt n0 Q K e s' μ->Xf1 P nt n0 Q K e s μ:=by
 intro K
 induction K with
 |nil =>
  intro e h c0 H0 c act g hm;obtain⟨g',hm'⟩:=hw c0 H0 c act μ g hm;exact h c0 H0 c act g' hm'
 |cons k K ih =>
  intro e h
  cases k with
  |seq c =>
   cases e with
   |normal=>exact hw.semM h
   |exit i=>exact ih _ h
   |ret=>exact ih _ h
  |block id =>
   cases e with
   |normal=>exact ih _ h
   |ret=>exact ih _ h
   |exit i =>
    have h':X99 id (Xf1 P nt n0 Q K) (.exit i) s' μ:=h;show X99 id (Xf1 P nt n0 Q K) (.exit i) s μ;simp only[X99] at h' ⊢
    cases hb:Nat.beq i id with
    |true=>rw[hb,cond_true] at h';exact ih _ h'
    |false=>rw[hb,cond_false] at h';exact ih _ h'
  |loop b =>
   cases e with
   |normal=>exact hw.loop h
   |exit i=>exact ih _ h
   |ret=>exact ih _ h
theorem X0.sub {P:Program} {nt n0:Nat} {Q:Xp->St->Mu->Prop} {cf:Cf} {K:List Kn} {μ:Mu} {s s':St} (hw:Xnr nt n0 s s') (h:X0 P nt n0 Q cf K s' μ):X0 P nt n0 Q cf K s μ:=by
 cases cf with
 |code c=>exact hw.semM h
 |exit e=>exact Xf1.sub hw K e h
 |ops ops l =>
  intro c0 H0 c act g hm;obtain⟨g',hm'⟩:=hw c0 H0 c act μ g hm;exact h c0 H0 c act g' hm'
 |loop b=>exact hw.loop h
theorem X3l.trunc {nt n0 n:Nat} {c0 c:Ctx} {H0 H:X0c} {A:Nat->AV} {act:Act} (g:X3l nt c0 H0 n0 c ⟨A,H,n⟩ act) {o:Nat} {y:Obj} (hy:H o=some y) (m:Nat) :
  X3l nt c0 H0 n0 c ⟨A,upd H o (some { y with es:=y.es.take m }),n⟩ act:=by
 have hM:∀ q z,upd H o (some { y with es:=y.es.take m }) q=some z->∃ z',H q=some z'/\(∃ m,z.es=z'.es.take m)/\z.esz=z'.esz/\z.solo=z'.solo/\z.spent=z'.spent:=by
  intro q z hz;by_cases hq:q=o
  ·subst hq;rw[Xm] at hz;cases hz;exact⟨y,hy,⟨m,rfl⟩,rfl,rfl,rfl⟩
  ·rw[Xl _ _ hq] at hz;exact⟨z,hz,⟨z.es.length,by simp⟩,rfl,rfl,rfl⟩
 have hsolo:∀ q z,upd H o (some { y with es:=y.es.take m }) q=some z->z.solo=true/\z.spent=false:=by
  intro q z hz;obtain⟨z',hz',_,_,h1,h2⟩:=hM q z hz;rw[h1,h2];exact g.solo q z' hz'
 refine⟨⟨?_,?_,?_,g.inv.lt,g.inv.base,g.inv.own,?_,g.inv.glob⟩,hsolo,g.frame,g.ok,g.size,⟨g.reach.rho,g.reach.os,g.reach.tape,g.reach.output,g.reach.size,g.reach.block,g.reach.stable,g.reach.sa,g.reach.so1,g.reach.so2,g.reach.B,?_⟩,g.le0⟩
 ·intro q z hz;obtain⟨z',hz',⟨k,hk⟩,h1,_⟩:=hM q z hz;obtain⟨g1,⟨⟨cur,hb,hs,hc⟩,hf,hp,hse⟩,g3⟩:=g.inv.obj q z' hz';refine⟨g1,⟨⟨cur,hb,hs,λi e he=>?_⟩,?_,hp,by rw[h1];exact hse⟩,λe he=>?_⟩
  ·rw[hk,List.getElem?_take] at he;split at he
   ·exact hc i e he
   ·cases he
  ·rw[hk,List.length_take];omega
  ·rw[hk] at he;exact g3 e (List.mem_of_mem_take he)
 ·intro q q' z z' hz hz' hne hb;obtain⟨x,hx,_,_,h1,_⟩:=hM q z hz;obtain⟨x',hx',_⟩:=hM q' z' hz';have:=(g.inv.sep q q' x x' hx hx' hne hb).1;rw[(g.solo q x hx).1] at this;cases this
 ·intro q z hz;obtain⟨z',hz',_⟩:=hM q z hz;exact g.inv.stab q z' hz'
 ·intro q z hz;obtain⟨z',hz',_⟩:=hM q z hz;exact g.inv.low q z' hz'
 ·intro q z hz;obtain⟨z',hz',_⟩:=hM q z hz;exact g.reach.own q z' hz'
theorem Xnr.trunc {nt n0 n:Nat} {H:X0c} {A:Nat->AV} {o:Nat} {y:Obj} (hy:H o=some y) (m:Nat):Xnr nt n0 ⟨A,H,n⟩ ⟨A,upd H o (some { y with es:=y.es.take m }),n⟩:=by
 intro c0 H0 c act μ g hm;refine⟨g.trunc hy m,hm.is,λp hp=>?_,hm.nodup,hm.ds⟩;obtain⟨a1,a2,a3,a4⟩:=hm.away p hp;refine⟨a1,a2,λq z hz=>?_,a4⟩;have hz':upd H o (some { y with es:=y.es.take m }) q=some z:=hz;by_cases hq:q=o
 ·subst hq;exact a3 q y hy
 ·rw[Xl _ _ hq] at hz';exact a3 q z hz'
def X04r (id:Nat):List X21->Bool
 |.stop j::_=>Nat.beq j id
 |_=>false
def seeL (d:Nat):List (Nat×List Nat)->Option (List Nat)
 |[]=>none
 |(k,l)::r=>bif Nat.beq d k then some l else seeL d r
def hzL (l:List (Nat×List Nat)) (o:Oper) (q:Nat):Bool :=
 Xua o.op||(match o.dst with
  |some d=>match seeL d l with
   |some ids=>!Xnf q ids
   |none=>false
  |none=>false)
def seeZ:List X21->Oper->Nat->Bool
 |.see l::_=>hzL l
 |_=>hz0
def seeR:List X21->List X21
 |.see _::hs=>hs
 |hs=>hs
def Xdf (P:Program) (T:Ty) (nt:Nat):Nat->Cf->List Kn->List (Nat×AV)->List (Nat×Obj)->Nat->List X21->List Prop->RR
  |0,cf,K,L,G,n,hs,ps=>some (cf,K,L,G,n,hs,ps)
  |f+1,cf,K,L,G,n,hs,ps=>match cf with
    |.code c=>match c with
      |.skip=>Xdf P T nt f (.exit .normal) K L G n hs ps
      |.label _=>Xdf P T nt f (.exit .normal) K L G n hs ps
      |.exit id=>Xdf P T nt f (.exit (.exit id)) K L G n hs ps
      |.ret=>Xdf P T nt f (.exit .ret) K L G n hs ps
      |.seq a b=>Xdf P T nt f (.code a) (.seq b::K) L G n hs ps
      |.block id c=>Xdf P T nt f (.code c) (.block id::K) L G n hs ps
      |.scope c=>Xdf P T nt f (.code c) K L G n hs ps
      |.region id ops false=>match hs with
        |.stop j::hs=>match Nat.beq j id with
          |true=>some (.code (.region id ops false),K,L,G,n,hs,ps)
          |false=>Xdf P T nt f (.ops ops ops.toList) K L G n (.stop j::hs) ps
        |hs=>Xdf P T nt f (.ops ops ops.toList) K L G n hs ps
      |.region id ops true=>match X04r id hs with
       |true=>some (.code (.region id ops true),K,L,G,n,hs.tail,ps)
       |false=>match Xd1 0 ops.toList with
        |true=>Xu2 [] ops.toList λms=>match Xnp (seeZ hs) P T nt n ops ms (ms.zip (ops.toList.map (seeZ hs))) 0 ops.toList L G [] (seeR hs) ps with
          |some (L,G,hs,ps)=>Xjy G λG=>cntN ops.toList n λn=>Xdf P T nt f (.exit .normal) K L G n hs ps
          |none=>none
        |false=>none
      |.loop b=>some (.loop b,K,L,G,n,hs,ps)
      |.cond x a b=>match hs with
        |.br true::hs=>match rd L x with
          |(.sc (.bool t),qs)=>Xwk qs ((t=true)::ps) λps=>Xdf P T nt f (.code a) K L G n hs ps
          |_=>none
        |.br false::hs=>match rd L x with
          |(.sc (.bool t),qs)=>Xwk qs ((t=false)::ps) λps=>Xdf P T nt f (.code b) K L G n hs ps
          |_=>none
        |hs=>some (.code (.cond x a b),K,L,G,n,hs,ps)
      |c=>some (.code c,K,L,G,n,hs,ps)
    |.exit e=>match K with
      |[]=>some (.exit e,[],L,G,n,hs,ps)
      |.seq c::K=>match e with
        |.normal=>Xdf P T nt f (.code c) K L G n hs ps
        |e=>Xdf P T nt f (.exit e) K L G n hs ps
      |.block id::K=>match e with
        |.exit i=>match Nat.beq i id with
          |true=>Xdf P T nt f (.exit .normal) K L G n hs ps
          |false=>Xdf P T nt f (.exit (.exit i)) K L G n hs ps
        |e=>Xdf P T nt f (.exit e) K L G n hs ps
      |.loop b::K=>match e with
        |.normal=>some (.loop b,K,L,G,n,hs,ps)
        |e=>Xdf P T nt f (.exit e) K L G n hs ps
    |.loop b=>some (.loop b,K,L,G,n,hs,ps)
    |.ops ops l=>match l with
      |[]=>Xdf P T nt f (.exit .normal) K L G n hs ps
      |o::l=>match hs with
       |.trunc q es::hs=>match hp G q with
        |some y=>Xdf P T nt f (.ops ops (o::l)) K L ((q,{ y with es:=es })::delG q G) n hs ((∃ m,es=y.es.take m)::ps)
        |none=>none
       |hs=>if Xjm nt o.dst=true then (match o.guard with
        |none=>match opS P T L G n o.op hs with
          |some (a,G',n',hs',qs)=>Xfs a λa=>putK o.dst a L λL=>Xjy G' λG=>Xwk qs ps λps=>Xdf P T nt f (.ops ops l) K L G n' hs' ps
          |none=>some (.ops ops (o::l),K,L,G,n,hs,ps)
        |some (j,want)=>match (ops[j]?).bind (·.dst) with
          |some t=>if Nat.blt t nt=true then (match gdS want (fr L t) with
            |some g=>match X04r 999999 hs with
             |true=>some (.ops ops (o::l),K,L,G,n,hs.tail,ps)
             |false=>match hs with
              |.go true::hs=>match opS P T L G n o.op hs with
                |some (a,G',n',hs',qs)=>Xfs a λa=>putK o.dst a L λL=>Xjy G' λG=>Xwk qs ((g=true)::ps) λps=>Xdf P T nt f (.ops ops l) K L G n' hs' ps
                |none=>none
              |.go false::hs=>putK o.dst (.cond false (.sc (.bool false))) L λL=>Xdf P T nt f (.ops ops l) K L G n hs ((g=false)::ps)
              |hs=>match quS P T L G o.op hs with
                |some (a,hs',qs)=>match AV.okB (λo=>Nat.blt o n) a with
                  |true=>Xfs a λa=>putK o.dst (.cond g a) L λL=>Xwk (Xqh g qs) ps λps=>Xdf P T nt f (.ops ops l) K L G n hs' ps
                  |false=>none
                |none=>some (.ops ops (o::l),K,L,G,n,hs,ps)
            |none=>none) else none
          |none=>none) else none
theorem X06e {P:Program} {T:Ty} {nt n0:Nat} {μ:Mu} {Q:Xp->St->Mu->Prop} (hT:Xf0 P T) (hm:P.follows .mixedOrders=true):∀ (f:Nat) (cf:Cf) (K:List Kn) (L:List (Nat×AV)) (G:List (Nat×Obj)) (n:Nat) (hs:List X21) (ps:List Prop) (cf':Cf) (K':List Kn) (L':List (Nat×AV)) (G':List (Nat×Obj)) (n':Nat) (hs':List X21) (ps':List Prop),
  Xdf P T nt f cf K L G n hs ps=some (cf',K',L',G',n',hs',ps')->X4v ps'->X4v ps/\(X0 P nt n0 Q cf' K' (SSt L' G' n') μ->X0 P nt n0 Q cf K (SSt L G n) μ):=by
 intro f
 induction f with
 |zero=>intro cf K L G n hs ps cf' K' L' G' n' hs' ps' h hp;simp only[Xdf] at h;cases h;exact⟨hp,λh=>h⟩
 |succ f ih =>
  intro cf K L G n hs ps cf' K' L' G' n' hs' ps' h hp;have stop:some (cf,K,L,G,n,hs,ps)=some (cf',K',L',G',n',hs',ps')->X4v ps/\(X0 P nt n0 Q cf' K' (SSt L' G' n') μ->X0 P nt n0 Q cf K (SSt L G n) μ):=by
   intro h;cases h;exact⟨hp,λh=>h⟩
  cases cf with
  |code c =>
   cases c with
   |skip=>obtain⟨h1,h2⟩:=ih _ _ _ _ _ _ _ _ _ _ _ _ _ _ h hp;exact⟨h1,λk=>X41.skip (h2 k)⟩
   |label=>obtain⟨h1,h2⟩:=ih _ _ _ _ _ _ _ _ _ _ _ _ _ _ h hp;exact⟨h1,λk=>X41.label (h2 k)⟩
   |exit=>obtain⟨h1,h2⟩:=ih _ _ _ _ _ _ _ _ _ _ _ _ _ _ h hp;exact⟨h1,λk=>X41.exit (h2 k)⟩
   |ret=>obtain⟨h1,h2⟩:=ih _ _ _ _ _ _ _ _ _ _ _ _ _ _ h hp;exact⟨h1,λk=>X41.ret (h2 k)⟩
   |seq=>obtain⟨h1,h2⟩:=ih _ _ _ _ _ _ _ _ _ _ _ _ _ _ h hp;exact⟨h1,λk=>X41.seq (h2 k)⟩
   |block=>obtain⟨h1,h2⟩:=ih _ _ _ _ _ _ _ _ _ _ _ _ _ _ h hp;exact⟨h1,λk=>X41.block (h2 k)⟩
   |scope=>obtain⟨h1,h2⟩:=ih _ _ _ _ _ _ _ _ _ _ _ _ _ _ h hp;exact⟨h1,λk=>X41.scope (h2 k)⟩
   |region id ops d =>
    cases d with
    |false =>
     simp only[Xdf] at h;split at h
     ·split at h
      ·cases h;exact⟨hp,λk=>k⟩
      ·obtain⟨h1,h2⟩:=ih _ _ _ _ _ _ _ _ _ _ _ _ _ _ h hp;exact⟨h1,λk=>X41.region (h2 k)⟩
     ·obtain⟨h1,h2⟩:=ih _ _ _ _ _ _ _ _ _ _ _ _ _ _ h hp;exact⟨h1,λk=>X41.region (h2 k)⟩
    |true =>
     simp only[Xdf] at h;split at h
     ·cases h;exact⟨hp,λk=>k⟩
     split at h
     ·rename_i hpre;rw[Xyo] at h;split at h
      ·rename_i hd;rw[Xfr,X08n] at h;obtain⟨h1,h2⟩:=ih _ _ _ _ _ _ _ _ _ _ _ _ _ _ h hp;obtain⟨h3,h4⟩:=Xuh _ _ _ _ _ _ _ _ _ _ _ hd h1;exact⟨h3,λk=>X41.of (Xt8.drawn (s:=SSt L G n) hm hT hpre h4 (h2 k))⟩
      ·cases h
     ·cases h
   |loop b=>cases h;exact⟨hp,λk=>X41.loop k⟩
   |cond x a b =>
    simp only[Xdf] at h;split at h
    ·split at h
     ·rename_i hr;rw[Xee] at h;obtain⟨h1,h2⟩:=ih _ _ _ _ _ _ _ _ _ _ _ _ _ _ h hp;obtain⟨p3,p1,p4⟩:=Xay h1;exact⟨p4,λk=>X41.cond (s:=(SSt L G n)) (X0n hr p3) (λ_=>h2 k) (λhf=>by rw[p1] at hf;cases hf)⟩
     ·cases h
    ·split at h
     ·rename_i hr;rw[Xee] at h;obtain⟨h1,h2⟩:=ih _ _ _ _ _ _ _ _ _ _ _ _ _ _ h hp;obtain⟨p3,p1,p4⟩:=Xay h1;exact⟨p4,λk=>X41.cond (s:=(SSt L G n)) (X0n hr p3) (λhf=>by rw[p1] at hf;cases hf) (λ_=>h2 k)⟩
     ·cases h
    ·exact stop h
   |_=>exact stop h
  |exit e =>
   cases K with
   |nil=>exact stop h
   |cons kn K =>
    cases kn with
    |seq c=>cases e<;>(simp only[Xdf] at h;obtain⟨h1,h2⟩:=ih _ _ _ _ _ _ _ _ _ _ _ _ _ _ h hp;exact⟨h1,λk=>h2 k⟩)
    |loop b =>
     cases e with
     |normal=>cases h;exact⟨hp,λk=>k⟩
     |exit i=>simp only[Xdf] at h;obtain⟨h1,h2⟩:=ih _ _ _ _ _ _ _ _ _ _ _ _ _ _ h hp;exact⟨h1,λk=>h2 k⟩
     |ret=>simp only[Xdf] at h;obtain⟨h1,h2⟩:=ih _ _ _ _ _ _ _ _ _ _ _ _ _ _ h hp;exact⟨h1,λk=>h2 k⟩
    |block id =>
     cases e with
     |normal=>simp only[Xdf] at h;obtain⟨h1,h2⟩:=ih _ _ _ _ _ _ _ _ _ _ _ _ _ _ h hp;exact⟨h1,λk=>h2 k⟩
     |ret=>simp only[Xdf] at h;obtain⟨h1,h2⟩:=ih _ _ _ _ _ _ _ _ _ _ _ _ _ _ h hp;exact⟨h1,λk=>h2 k⟩
     |exit i =>
      simp only[Xdf] at h;split at h
      ·rename_i hb;obtain⟨h1,h2⟩:=ih _ _ _ _ _ _ _ _ _ _ _ _ _ _ h hp;refine⟨h1,λk=>?_⟩;show X99 id (Xf1 P nt n0 Q K) (.exit i) (SSt L G n) μ;simp only[X99,hb,cond_true];exact h2 k
      ·rename_i hb;obtain⟨h1,h2⟩:=ih _ _ _ _ _ _ _ _ _ _ _ _ _ _ h hp;refine⟨h1,λk=>?_⟩;show X99 id (Xf1 P nt n0 Q K) (.exit i) (SSt L G n) μ;simp only[X99,hb,cond_false];exact h2 k
  |loop b=>exact stop h
  |ops ops l =>
   simp only[Xdf] at h;split at h
   ·obtain⟨h1,h2⟩:=ih _ _ _ _ _ _ _ _ _ _ _ _ _ _ h hp;exact⟨h1,λk=>X7r.nil (h2 k)⟩
   ·split at h
    ·split at h
     ·rename_i hy;obtain⟨⟨⟨m,rfl⟩,h1⟩,h2⟩:=ih _ _ _ _ _ _ _ _ _ _ _ _ _ _ h hp;refine⟨h1,λk=>X0.sub (Xnr.trunc (A:=fr L) (H:=Go.Av.hp G) (n:=n) hy m) ?_⟩;have:=h2 k;have hgn:=Xh5 hy;simp only[SSt] at this;rw[Xsw] at this
      ·exact this
      ·exact hgn
     ·cases h
    split at h
    ·rename_i hd;have hdl:=X7i hd;split at h
     ·rename_i hg;split at h
      ·rename_i hop;rw[X93,Xfh,Xfr,Xee] at h;obtain⟨h1,h2⟩:=ih _ _ _ _ _ _ _ _ _ _ _ _ _ _ h hp;obtain⟨p1,p2⟩:=Xay h1;refine⟨p2,λk=>X7r.plain hg hdl (X053 hT hop p1) ?_⟩;rintro _ _ _ ⟨rfl,rfl,rfl⟩;have:=h2 k;simp only[X0,SSt,X5u] at this;exact this
      ·exact stop h
     ·rename_i j want hg;split at h
      ·rename_i hj;split at h
       ·rename_i ht;split at h
        ·rename_i g hgd;split at h
         ·cases h;exact⟨hp,λk=>k⟩
         split at h
         ·split at h
          ·rename_i hop;rw[X93,Xfh,Xfr,Xee] at h;obtain⟨h1,h2⟩:=ih _ _ _ _ _ _ _ _ _ _ _ _ _ _ h hp;obtain⟨p1,p0,p2⟩:=Xay h1;subst p0;refine⟨p2,λk=>X7r.step (λc0 c H0 act gd=>Xfa (s:=SSt L G n) hg hj ht hgd gd) hdl (X053 hT hop p1) ?_⟩;rintro _ _ _ ⟨rfl,rfl,rfl⟩;have:=h2 k;simp only[X0,SSt,X5u] at this;exact this
          ·cases h
         ·rw[Xfh] at h;obtain⟨h1,h2⟩:=ih _ _ _ _ _ _ _ _ _ _ _ _ _ _ h hp;obtain⟨p0,p1⟩:=h1;subst p0;refine⟨p1,λk=>X7r.skip (s:=SSt L G n) hg hj ht hgd hdl ?_⟩;have:=h2 k;simp only[X0,SSt,X5u] at this;exact this
         ·split at h
          ·rename_i hpu;split at h
           ·rename_i hok;rw[X93,Xfh,Xee] at h;obtain⟨h1,h2⟩:=ih _ _ _ _ _ _ _ _ _ _ _ _ _ _ h hp;obtain⟨p1,p2⟩:=Xay h1;refine⟨p2,λk=>X7r.quiet (s:=SSt L G n) hg hj ht hgd hdl (okLt hok) (λhb=>Xy6 hT hpu (Xlk p1 hb)) ?_⟩;have:=h2 k;simp only[X0,SSt,X5u] at this;exact this
           ·cases h
          ·exact stop h
        ·cases h
       ·cases h
      ·cases h
    ·cases h
theorem X0.round {P:Program} {nt n0:Nat} {μ:Mu} {Q:Xp->St->Mu->Prop} {b:Code} {K:List Kn} {s:St} (h:X0 P nt n0 Q (.code b) (.loop b::K) s μ):X0 P nt n0 Q (.loop b) K s μ:=Xaq.round h
theorem Xtp {P:Program} {T:Ty} {nt n0:Nat} {μ:Mu} {Q:Xp->St->Mu->Prop} {cf cf':Cf} {K K':List Kn} {L L':List (Nat×AV)} {G G':List (Nat×Obj)} {n n':Nat} {hs':List X21} {ps':List Prop} (hT:Xf0 P T/\P.follows .mixedOrders=true) (f:Nat) (hs:List X21)
  (h:Xdf P T nt f cf K L G n hs []=some (cf',K',L',G',n',hs',ps')) (hp':X4v ps') (k:X0 P nt n0 Q cf' K' ⟨fr L',hp G',n'⟩ μ):X0 P nt n0 Q cf K ⟨fr L,hp G,n⟩ μ :=
 (X06e hT.1 hT.2 f cf K L G n hs [] cf' K' L' G' n' hs' ps' h hp').2 k
end Go.Av


namespace Go.Av
variable [Gls]
def argL:Nat->List AV->List (Nat×AV)
 |_,[]=>[]
 |i,a::r=>(i,a)::argL (i+1) r
theorem X00s:∀ (as:List AV) (i t:Nat),fr (argL i as) t=if i<=t then (match as[t - i]? with|some a=>a|none=>.junk) else .junk:=by
 intro as
 induction as with
 |nil=>intro i t;simp[argL,fr]
 |cons a r ih =>
  intro i t;simp only[argL,fr];by_cases ht:t=i
  ·subst ht;simp
  ·have hb:Nat.beq t i=false:=by rw[<-Bool.not_eq_true,Nat.beq_eq];exact ht
   rw[hb,cond_false,ih];by_cases h1:i+1<=t
   ·rw[if_pos h1,if_pos om,show t - i=(t - (i+1))+1 by omega,List.getElem?_cons_succ]
   ·rw[if_neg h1,if_neg om]
section
variable {P:Program} {nt n0:Nat} {s:St} {μ:Mu}
theorem X3l.turn {c0 c:Ctx} {H0:X0c} {act:Act} {b:Nat} (o:Go.Obj) (g:X3l nt c0 H0 n0 c s act) (h1:¬ c.Sa b) (h2:¬ c.So b) (h3:∀ o x,s.H o=some x->(c.ρ o).blk≠b) (h4:NewB c0 H0 b) :
  X3l nt c0 H0 n0 { c with w:=c.w.putObj b o } s act/\c.Le (λ_=>True) { c with w:=c.w.putObj b o }:=by
 have hother:∀ k,k≠b->(c.w.putObj b o).heap[k]?=c.w.heap[k]?:=λk hk=>World.putObj_heap_other hk;have hle:c.Le (λ_=>True) { c with w:=c.w.putObj b o } :=
  ⟨λ_ _=>rfl,λ_ h=>h,λ_ h=>h,λk hk=>hother k (λe=>by subst e;exact hk.elim h1 h2),rfl⟩
 have all:∀ {a:AV} {M:Nat->Prop},a.Ok M->a.Ok (λ_=>True):=λh=>h.mono λ_ _=>trivial;have r:=g.reach;refine⟨⟨⟨λq x hx=>?_,g.inv.sep,g.inv.stab,λk hk=>?_,?_,g.inv.own,g.inv.low,g.inv.glob.mono hle⟩,g.solo,λt=>(g.frame t).mono hle (.inr (all (g.ok t))),g.ok,g.size,
  ⟨r.rho,r.os,r.tape,r.output,?_,λk hk hn=>?_,λk hk=>?_,r.sa,r.so1,r.so2,r.B,r.own⟩,g.le0⟩,hle⟩
 ·obtain⟨i1,⟨⟨cur,hb,hs,hc⟩,i3,i4,i5⟩,i6⟩:=g.inv.obj q x hx;refine⟨i1,⟨⟨cur,(hother _ (h3 q x hx)).trans hb,hs,λi e he=>?_⟩,i3,i4,i5⟩,i6⟩;obtain⟨g1,g2⟩:=hc i e he;exact⟨g1,λk a ha=>by obtain⟨v,hv,hr,h7⟩:=g2 k a ha;exact⟨v,hv,hr.mono hle (.inr (all (i6 e (List.mem_of_getElem? he) a (List.mem_of_getElem? ha)))),h7⟩⟩
 ·show k<(c.w.putObj b o).heap.size;rw[World.putObj_size];exact g.inv.lt k hk
 ·show c.B<=(c.w.putObj b o).heap.size;rw[World.putObj_size];exact g.inv.base
 ·show c0.w.heap.size<=(c.w.putObj b o).heap.size;rw[World.putObj_size];exact r.size
 ·exact(hother k (λe=>by subst e;exact(h4.no hk hn).elim)).trans (r.block k hk hn)
 ·refine(hother k (λe=>?_)).trans (r.stable k hk);subst e;exact hk.elim (λh=>h1 (by rw[r.sa];exact h)) (λh=>h2 (r.so1 _ h))
theorem X0a6 {fn:Func} {Rr:Ending->World->Prop} {c0:Ctx} {H0:X0c} {act:Act}:∀ (μ:Mu) (c:Ctx),X3l nt c0 H0 n0 c s act->(∀ p∈μ,MuIs n0 c p.1 p.2) ->
  (∀ p∈μ,¬ c.Sa p.1/\¬ c.So p.1/\(∀ o x,s.H o=some x->(c.ρ o).blk≠p.1)/\NewB c0 H0 p.1)->(μ.map (·.1)).Nodup ->
  (∀ c',X3l nt c0 H0 n0 c' s act->∃ v,(results fn act.tmps).run P c'.w=.ok v c'.w/\Rr (.returned v) c'.w)->LeavesInM (FR none) 0 P fn act.tmps Rr (Xi7 μ) .returning c.w:=by
 intro μ
 induction μ with
 |nil =>
  intro c g _ _ _ hk;obtain⟨v,h1,h2⟩:=hk c g;exact⟨v,h1,h2⟩
 |cons p μ ih =>
  intro c g hi ha hn hk;obtain⟨D,x⟩:=p;have hi':∀ p∈μ,MuIs n0 c p.1 p.2:=λp hp=>hi p (List.mem_cons_of_mem _ hp);have ha':=λp hp=>ha p (List.mem_cons_of_mem _ hp);simp only[List.map_cons,List.nodup_cons] at hn
  cases x with
  |map l=>exact ih c g hi' ha' hn.2 hk
  |blk o=>exact ih c g hi' ha' hn.2 hk
  |loop r nt m A=>exact ih c g hi' ha' hn.2 hk
  |mark =>
   obtain⟨a1,a2,a3,a4⟩:=ha _ List.mem_cons_self;obtain⟨g2,hle⟩:=g.turn (.deferred none) a1 a2 a3 a4;have hd:c.w.heap[D]?=some (.deferred (some [])):=hi _ List.mem_cons_self;refine⟨by simp,.inl ⟨D,_,rfl,run_takeDeferred hd,?_⟩⟩;refine ih { c with w:=c.w.putObj D (.deferred none) } g2 (λp hp=>?_) ha' hn.2 hk;exact(hi' p hp).le (World.putObj_heap_other (λe=>hn.1 (e▸List.mem_map.2 ⟨p,hp,rfl⟩))) (hle.weaken λ_ _=>trivial)
end
section
variable {P:Program} {T:Ty}
theorem Xib {f:Nat} {fn:Func} {code:Code} (hfn:X1g P f fn code) {nt n0:Nat} {s:St} {Q:Xp->St->Mu->Prop} {c:Ctx} {vs:Array Value} {Rr:Ending->World->Prop}
  (g:X3l nt c s.H n0 c s { tmps:=vs++Array.replicate (fn.ntmps - vs.size) undef,defers:=[] }) (h:X41 P nt n0 code Q s [])
  (hQ:∀ e s' μ,Q e s' μ->(∀ id,e≠.exit id)/\∀ c' act',X3l nt c s.H n0 c' s' act'->∃ v,(results fn act'.tmps).run P c'.w=.ok v c'.w/\Rr (.returned v) c'.w):Calls P f vs c.w Rr:=by
 refine(callsIn_wide (n:=0)).1 (callsIn_of_wp_marks hfn.here hfn.body trivial ?_);refine wpIn_mono (h c s.H c _ g (.nil rfl) none .none) ?_;rintro e a w ⟨c',s',ae,μ',rfl,g',hm',rfl,hq⟩;obtain⟨hx,hq⟩:=hQ ae s' μ' hq;have fin:LeavesInM Fence.wide 0 P fn a.tmps Rr a.defers .returning c'.w:=by
  rw[hm'.ds];exact X0a6 μ' c' g' hm'.is hm'.away hm'.nodup λc2 g2=>hq c2 a g2
 cases ae with
 |exit id=>exact(hx id rfl).elim
 |normal=>exact fin
 |ret=>exact fin
def retM (T:Ty) (fn:Func) (K:AV->X0c->Nat->Prop):Xp->St->Mu->Prop:=λe s _=>retQ T fn K e s
theorem X3l.argL {nt n0:Nat} {c0 c:Ctx} {H0 H:X0c} {n:Nat} {as:List AV} {act:Act} (g:X3l nt c0 H0 n0 c ⟨argA as,H,n⟩ act):X3l nt c0 H0 n0 c ⟨fr (Av.argL 0 as),H,n⟩ act:=by
 refine⟨g.inv,g.solo,λt=>?_,λt=>?_,g.size,g.reach,g.le0⟩
 ·show X0q c false (fr (Av.argL 0 as) t) _;rw[X00s];simp only[Nat.zero_le,if_true,Nat.sub_zero];have:=g.frame t;simp only[argA] at this
  cases hq:as[t]? with
  |none=>exact .junk
  |some a=>rw[hq] at this;exact this
 ·show(fr (Av.argL 0 as) t).Ok (·<n);rw[X00s];simp only[Nat.zero_le,if_true,Nat.sub_zero];have:=g.ok t;simp only[argA] at this
  cases hq:as[t]? with
  |none=>exact .junk
  |some a=>rw[hq] at this;exact this
theorem HC.of_bodyM (hT:Xf0 P T) {f:Nat} {fn:Func} {code:Code} (hfn:X1g P f fn code) {as:List AV} {H:X0c} {n nt:Nat} {K:AV->X0c->Nat->Prop} (hnt:fn.ntmps=nt)
  (hle:as.length<=nt) (h:X41 P nt n code (retM T fn K) ⟨fr (argL 0 as),H,n⟩ []):HC P f as H n K:=by
 refine⟨⟨fn,code,hfn⟩,λc vs hI hs hv ho=>?_⟩;have g:X3l nt c H n c ⟨argA as,H,n⟩ { tmps:=vs++Array.replicate (fn.ntmps - vs.size) undef,defers:=[] }:=by
  refine⟨hI,hs,λt=>Xji hv _ t,λt=>Xt6 ho t,?_,.refl c H n,Nat.le_refl _⟩;have:=hv.len;simp only[Array.size_append,Array.size_replicate];omega
 refine Xib hfn g.argL h ?_;intro e s' μ hq;have fin:(∃ rs,Xks T s' fn.results.toList rs/\K (Xho rs) s'.H s'.n)->∀ c' act',X3l nt c H n c' s' act'->∃ v,(results fn act'.tmps).run P c'.w=.ok v c'.w/\∃ v' r H' n' c2,K r H' n'/\Ending.returned v=.returned v'/\c2.w=c'.w/\c.Le (·<n) c2/\c2.Sa=c.Sa/\(∀ b,c2.So b->c.So b\/c.w.heap.size<=b\/∃ o x,H o=some x/\(c.ρ o).blk=b) /\
   Fr c H c'.w/\Xe3 c H c2 H'/\Inv c2 H' (·<n')/\(∀ o x,H' o=some x->x.solo=true/\x.spent=false)/\n<=n'/\X0q c2 false r v'/\r.Ok (·<n'):=by
  rintro⟨rs,hrs,hk⟩ c' act' g';obtain⟨v,h1,h2,h3⟩:=X04w hT g' hrs;exact⟨v,h1,v,_,s'.H,s'.n,c',hk,rfl,rfl,g'.reach.le,g'.reach.sa,g'.reach.so2,g'.reach.fr,g'.reach.own,g'.inv,g'.solo,g'.le0,h2,h3⟩
 cases e with
 |exit id=>exact hq.elim
 |normal=>exact⟨(λ_ h=>by cases h),fin hq⟩
 |ret=>exact⟨(λ_ h=>by cases h),fin hq⟩
def X039 (T:Ty) (fn:Func) (r:AV):Xp->St->Mu->Prop:=λe s _=>X0bi T fn r e s
theorem X05.of_bodyM (hT:Xf0 P T) {f:Nat} {fn:Func} {code:Code} (hfn:X1g P f fn code) {as:List AV} {nt:Nat} {r:AV} (hnt:fn.ntmps=nt)
  (hle:as.length<=nt) (h:X41 P nt 0 code (X039 T fn r) ⟨fr (argL 0 as),λ_=>none,0⟩ []):X05 P f as r:=by
 refine⟨⟨fn,code,hfn⟩,λw S vs hS hG hv=>?_⟩;let c:Ctx:=⟨w,pl0,S,λ_=>False,w.heap.size⟩
 have hI:Inv c (λ_=>none) (·<0) :=
  ⟨λo x h=>(by cases h),λo o' x x' h=>(by cases h),λo x h=>(by cases h),λb hb=>hb.elim (hS b) False.elim,Nat.le_refl _,λb hb=>hb.elim,λo x h=>(by cases h),hG⟩
 have g:X3l nt c (λ_=>none) 0 c ⟨argA as,λ_=>none,0⟩ { tmps:=vs++Array.replicate (fn.ntmps - vs.size) undef,defers:=[] }:=by
  refine⟨hI,λo x h=>(by cases h),λt=>Xji hv _ t,λt=>Xt6 (λa ha=>?_) t,?_,.refl c _ 0,Nat.le_refl _⟩
  ·obtain⟨i,hi⟩:=List.getElem?_of_mem ha;have:i<vs.size:=by rw[<-hv.len];exact(List.getElem?_eq_some_iff.1 hi).1
   exact(hv.rel i a _ hi (Array.getElem?_eq_getElem this)).okDeep
  ·have:=hv.len;simp only[Array.size_append,Array.size_replicate];omega
 refine Xib (c:=c) hfn g.argL h ?_;intro e s' μ hq;have fin:(∃ rs,Xks T s' fn.results.toList rs/\Cv true s'.H (Xho rs) r)->∀ c' act',X3l nt c (λ_=>none) 0 c' s' act' ->
   ∃ v,(results fn act'.tmps).run P c'.w=.ok v c'.w/\∃ u,Ending.returned v=.returned u/\X0q ⟨c'.w,pl0,S,λb=>w.heap.size<=b/\b<c'.w.heap.size,w.heap.size⟩ true r u/\Xur w.heap.size w c'.w:=by
  rintro⟨rs,hrs,hk⟩ c' a g';obtain⟨v,h1,h2,h3⟩:=X04w hT g' hrs;have hr:=g'.reach;have hB:c'.B=w.heap.size:=hr.B;refine⟨v,h1,v,rfl,?_,⟨⟨hr.os,hr.tape,hr.output.1,hr.size,λk hk=>hr.block k hk (λo x hx=>(by cases hx))⟩,hr.output.2⟩⟩;refine X04b g'.inv (c':=⟨c'.w,pl0,S,λb=>w.heap.size<=b/\b<c'.w.heap.size,w.heap.size⟩) rfl (λb hb=>?_) (λ_ b hb=>?_) (λo x hx=>?_) hk h2
  ·rcases hb with hb|hb
   ·exact .inl ⟨rfl,by rw[<-hr.sa];exact hb⟩
   ·exact .inr ⟨by rw[<-hB];exact g'.inv.own b hb,g'.inv.lt b (.inr hb)⟩
  ·exact⟨by rw[<-hB];exact g'.inv.own b hb,g'.inv.lt b (.inr hb)⟩
  ·obtain⟨_,⟨⟨cur,hcb,_⟩,_⟩,_⟩:=g'.inv.obj o x hx;exact .inr ⟨by rw[<-hB];exact g'.inv.low o x hx,(Array.getElem?_eq_some_iff.1 hcb).1⟩
 cases e with
 |exit id=>exact hq.elim
 |normal=>exact⟨(λ_ h=>by cases h),fin hq⟩
 |ret=>exact⟨(λ_ h=>by cases h),fin hq⟩
end
section
variable {P:Program} {nt n0:Nat} {s:St} {μ:Mu}
theorem X3l.weak' {c0 c:Ctx} {H0:X0c} {s s':St} {act:Act} {θ:Nat->Nat} (g:X3l nt c0 H0 n0 c s act) (hw:Xuo θ n0 s s') :
  ∃ c',c'={ c with ρ:=λo=>c.ρ (θ o) }/\X3l nt c0 H0 n0 c' s' act:=⟨{ c with ρ:=λo=>c.ρ (θ o) },rfl,g.weakBy hw⟩
theorem X3l.weakM {c0 c:Ctx} {H0:X0c} {s s':St} {act:Act} (g:X3l nt c0 H0 n0 c s act) (hm:MOk n0 c0 H0 c s.H μ act) (hw:Weak n0 s s') :
  ∃ c',c'.w=c.w/\X3l nt c0 H0 n0 c' s' act/\MOk n0 c0 H0 c' s'.H μ act:=by
 obtain⟨θ,hw⟩:=hw;obtain⟨c',h2,h3⟩:=g.weak' hw;exact⟨c',by rw[h2],h3,hm.weak hw h2⟩
theorem X41.weak {code:Code} {Q:Xp->St->Mu->Prop} {s':St} (hw:Weak n0 s s') (h:X41 P nt n0 code Q s' μ):X41 P nt n0 code Q s μ:=by
 intro c0 H0 c act g hm R hR;obtain⟨c',hc,g',hm'⟩:=g.weakM hm hw;have:=h c0 H0 c' act g' hm' R hR
 rwa [hc] at this
theorem X7r.weak {ops:Array Oper} {l:List Oper} {K:St->Mu->Prop} {s':St} (hw:Weak n0 s s') (h:X7r P nt n0 ops l K s' μ):X7r P nt n0 ops l K s μ:=by
 intro c0 H0 c act g hm Qx hQ R hR;obtain⟨c',hc,g',hm'⟩:=g.weakM hm hw;have:=h c0 H0 c' act g' hm' Qx hQ R hR
 rwa [hc] at this
end
mutual
theorem Xtr:∀ a:AV,AV.ren (λo=>o) a=a
 |.junk=>rfl
 |.sc _=>rfl
 |.nils=>rfl
 |.agg cs=>by simp only[AV.ren,Xpb cs]
 |.tup cs=>by simp only[AV.ren,Xpb cs]
 |.list ..=>rfl
 |.ref ..=>rfl
 |.ptr ..=>rfl
 |.elem ..=>rfl
 |.fn _ caps=>by simp only[AV.ren,Xpb caps]
 |.mref ..=>rfl
 |.cond _ v=>by simp only[AV.ren,Xtr v]
 |.mv _ v=>by simp only[AV.ren,Xtr v]
theorem Xpb:∀ l:List AV,AV.rens (λo=>o) l=l
 |[]=>rfl
 |a::r=>by simp only[AV.rens,Xtr a,Xpb r]
end
def thL:List (Nat×Nat)->Nat->Nat
 |[],o=>o
 |(a,b)::r,o=>bif Nat.beq o a then b else thL r o
theorem X05k:thL []=λo=>o:=rfl
def wkL (L:List (Nat×AV)) (θ:List (Nat×Nat)) (n:Nat):List (Nat×AV)->Prop
 |[]=>True
 |(t,a)::r=>fr L t=a.ren (thL θ)/\a.Ok (·<n)/\wkL L θ n r
def wkG1:Bool->Prop->Prop
 |true,_=>True
 |false,p=>p
def wkG (G:List (Nat×Obj)) (θ:List (Nat×Nat)) (n:Nat):List (Nat×Obj)->Prop
 |[]=>True
 |(o,x)::r=>wkG1 x.gone (∃ y,hp G (thL θ o)=some y/\y.esz=x.esz/\y.es=x.es.map (AV.ren (thL θ)))/\o<n/\(∀ e∈x.es,∀ a∈e.cells,a.Ok (·<n))/\x.solo=true/\x.spent=false/\wkG G θ n r
theorem Xwy {L:List (Nat×AV)} {θ:List (Nat×Nat)} {n:Nat}:∀ {L':List (Nat×AV)},wkL L θ n L'->∀ t,(fr L' t=.junk\/fr L t=(fr L' t).ren (thL θ))/\(fr L' t).Ok (·<n):=by
 intro L'
 induction L' with
 |nil=>intro _ t;exact⟨.inl rfl,.junk⟩
 |cons p r ih =>
  obtain⟨d,a⟩:=p;rintro⟨h1,h2,h3⟩ t;by_cases ht:t=d
  ·subst ht;have:fr ((t,a)::r) t=a:=by simp[fr]
   rw[this];exact⟨.inr h1,h2⟩
  ·have:fr ((d,a)::r) t=fr r t:=by
    have hb:Nat.beq t d=false:=by rw[<-Bool.not_eq_true,Nat.beq_eq];exact ht
    simp[fr,hb]
   rw[this];exact ih h3 t
theorem Xwz {G:List (Nat×Obj)} {θ:List (Nat×Nat)} {n:Nat}:∀ {G':List (Nat×Obj)},wkG G θ n G'->∀ o x,hp G' o=some x ->
  (∃ y,hp G (thL θ o)=some y/\y.esz=x.esz/\y.es=x.es.map (AV.ren (thL θ)))/\o<n/\(∀ e∈x.es,∀ a∈e.cells,a.Ok (·<n))/\x.solo=true/\x.spent=false:=by
 intro G'
 induction G' with
 |nil=>intro _ o x h;cases h
 |cons p r ih =>
  obtain⟨d,y⟩:=p;rintro⟨h1,h2,h3,h4,h5,h6⟩ o x hx;by_cases ho:o=d
  ·subst ho;have hg:=Xh5 hx;simp only[hp,Nat.beq_refl,cond_true] at hx
   cases hy:y.gone with
   |true=>rw[hy] at hx;cases hx
   |false =>
    rw[hy] at hx;cases hx;rw[hg] at h1;exact⟨h1,h2,h3,h4,h5⟩
  ·have:hp ((d,y)::r) o=hp r o:=by
    have hb:Nat.beq o d=false:=by rw[<-Bool.not_eq_true,Nat.beq_eq];exact ho
    simp[hp,hb]
   rw[this] at hx;exact ih h6 o x hx
theorem X055 {G:List (Nat×Obj)} {o:Nat} (h:hp G o≠none):o∈G.map (·.1):=by
 induction G with
 |nil=>exact absurd rfl h
 |cons p r ih =>
  obtain⟨d,y⟩:=p;by_cases ho:o=d
  ·subst ho;simp
  ·have:hp ((d,y)::r) o=hp r o:=by
    have hb:Nat.beq o d=false:=by rw[<-Bool.not_eq_true,Nat.beq_eq];exact ho
    simp[hp,hb]
   rw[this] at h;exact List.mem_cons_of_mem _ (ih h)
def injB (θ:List (Nat×Nat)):List Nat->Bool
 |[]=>true
 |o::r=>r.all (λq=>Nat.beq o q||!Nat.beq (thL θ o) (thL θ q))&&injB θ r
theorem X084 {θ:List (Nat×Nat)}:∀ {l:List Nat},injB θ l=true->∀ o∈l,∀ q∈l,thL θ o=thL θ q->o=q:=by
 intro l
 induction l with
 |nil=>intro _ o h;cases h
 |cons a r ih =>
  intro h o ho q hq he;simp only[injB,Bool.and_eq_true,List.all_eq_true,Bool.or_eq_true,Nat.beq_eq,Bool.not_eq_true'] at h;have key:∀ x∈r,thL θ a=thL θ x->a=x:=by
   intro x hx hax;rcases h.1 x hx with h1|h1
   ·exact h1
   ·rw[hax,Nat.beq_refl] at h1;cases h1
  rcases List.mem_cons.1 ho with h1|h1
  ·rcases List.mem_cons.1 hq with h2|h2
   ·rw[h1,h2]
   ·rw[h1] at he ⊢;exact key q h2 he
  ·rcases List.mem_cons.1 hq with h2|h2
   ·rw[h2] at he ⊢;exact(key o h1 he.symm).symm
   ·exact ih h.2 o h1 q h2 he
def fixB (θ:List (Nat×Nat)) (n0:Nat):Bool:=θ.all λp=>Nat.ble n0 p.1||Nat.beq p.1 p.2
theorem X087 {n0:Nat}:∀ {θ:List (Nat×Nat)},fixB θ n0=true->∀ o,o<n0->thL θ o=o:=by
 intro θ
 induction θ with
 |nil=>intro _ o _;rfl
 |cons p r ih =>
  obtain⟨a,b⟩:=p;intro h o ho;simp only[fixB,List.all_cons,Bool.and_eq_true,Bool.or_eq_true,Nat.ble_eq,Nat.beq_eq] at h;simp only[thL]
  cases hb:Nat.beq o a with
  |true =>
   have:o=a:=Nat.eq_of_beq_eq_true hb;subst this;rcases h.1 with h1|h1
   ·omega
   ·simp only[cond_true];exact h1.symm
  |false=>simp only[cond_false];exact ih h.2 o ho
theorem X05g {L L':List (Nat×AV)} {G G':List (Nat×Obj)} {n n' n0:Nat} (θ:List (Nat×Nat)) (hb:(fixB θ n0&&injB θ (G'.map (·.1))&&Nat.ble n0 n')=true) (hL:wkL L θ n' L') (hG:wkG G θ n' G') :
  Weak n0 ⟨fr L,hp G,n⟩ ⟨fr L',hp G',n'⟩:=by
 simp only[Bool.and_eq_true,Nat.ble_eq] at hb;obtain⟨⟨h1,h2⟩,h3⟩:=hb;refine⟨thL θ,X087 h1,λt=>(Xwy hL t).1,λo x hx=>?_,λo q ho hq he=>X084 h2 o (X055 ho) q (X055 hq) he,λt=>(Xwy hL t).2,λo x hx=>?_,h3⟩
 ·obtain⟨⟨y,g1,g2,g3⟩,_⟩:=Xwz hG o x hx;exact⟨y,g1,g2,g3⟩
 ·obtain⟨_,g1,g2,g3,g4⟩:=Xwz hG o x hx;exact⟨g1,g2,g3,g4⟩
theorem Xf1.weak {P:Program} {nt n0:Nat} {Q:Xp->St->Mu->Prop} {μ:Mu} {s s':St} (hw:Weak n0 s s'):∀ (K:List Kn) (e:Xp),Xf1 P nt n0 Q K e s' μ->Xf1 P nt n0 Q K e s μ:=by
 have hloop:∀ {b:Code} {Q':Xp->St->Mu->Prop},Xaq P nt n0 b Q' s' μ->Xaq P nt n0 b Q' s μ:=by
  intro b Q' h c0 H0 c act g hm R hR;obtain⟨c',hc,g',hm'⟩:=g.weakM hm hw;have:=h c0 H0 c' act g' hm' R hR
  rwa [hc] at this
 intro K
 induction K with
 |nil =>
  intro e h c0 H0 c act g hm;obtain⟨c',hc,g',hm'⟩:=g.weakM hm hw;obtain⟨c2,s2,h1,h2,h3,h4⟩:=h c0 H0 c' act g' hm';exact⟨c2,s2,h1.trans hc,h2,h3,h4⟩
 |cons k K ih =>
  intro e h
  cases k with
  |seq c =>
   cases e with
   |normal=>exact X41.weak hw h
   |exit i=>exact ih _ h
   |ret=>exact ih _ h
  |block id =>
   cases e with
   |normal=>exact ih _ h
   |ret=>exact ih _ h
   |exit i =>
    have h':X99 id (Xf1 P nt n0 Q K) (.exit i) s' μ:=h;show X99 id (Xf1 P nt n0 Q K) (.exit i) s μ;simp only[X99] at h' ⊢
    cases hb:Nat.beq i id with
    |true=>rw[hb,cond_true] at h';exact ih _ h'
    |false=>rw[hb,cond_false] at h';exact ih _ h'
  |loop b =>
   cases e with
   |normal=>exact hloop h
   |exit i=>exact ih _ h
   |ret=>exact ih _ h
theorem X0.weak {P:Program} {nt n0:Nat} {Q:Xp->St->Mu->Prop} {cf:Cf} {K:List Kn} {μ:Mu} {s s':St} (hw:Weak n0 s s') (h:X0 P nt n0 Q cf K s' μ):X0 P nt n0 Q cf K s μ:=by
 cases cf with
 |code c=>exact X41.weak hw h
 |exit e=>exact Xf1.weak hw K e h
 |ops ops l=>exact X7r.weak hw h
 |loop b =>
  intro c0 H0 c act g hm R hR;obtain⟨c',hc,g',hm'⟩:=g.weakM hm hw;have:=h c0 H0 c' act g' hm' R hR
  rwa [hc] at this
theorem Xf1.collapse {P:Program} {nt n0:Nat} {Q:Xp->St->Mu->Prop}:∀ (K:List Kn) (e:Xp) (s:St) (μ:Mu),Cl nt n0 (Xf1 P nt n0 Q K) e s μ->Xf1 P nt n0 Q K e s μ:=by
 intro K
 induction K with
 |nil =>
  intro e s μ h c0 H0 c act g hm;obtain⟨c1,s1,h1,h2,h3,h4⟩:=h c0 H0 c act g hm;obtain⟨c2,s2,k1,k2,k3,k4⟩:=h4 c0 H0 c1 act h2 h3;exact⟨c2,s2,k1.trans h1,k2,k3,k4⟩
 |cons k K ih =>
  intro e s μ h
  cases k with
  |seq c =>
   cases e with
   |normal =>
    intro c0 H0 cx act g hm;obtain⟨c1,s1,h1,h2,h3,h4⟩:=h c0 H0 cx act g hm;rw[<-h1];exact h4 c0 H0 c1 act h2 h3
   |exit i=>exact ih (.exit i) s μ h
   |ret=>exact ih .ret s μ h
  |block id =>
   cases e with
   |normal=>exact ih .normal s μ h
   |ret=>exact ih .ret s μ h
   |exit i =>
    show X99 id (Xf1 P nt n0 Q K) (.exit i) s μ;have h':∀ (c0:Ctx) (H0:X0c) (c:Ctx) (act:Act),X3l nt c0 H0 n0 c s act->MOk n0 c0 H0 c s.H μ act->∃ c' s',c'.w=c.w/\X3l nt c0 H0 n0 c' s' act/\MOk n0 c0 H0 c' s'.H μ act/\X99 id (Xf1 P nt n0 Q K) (.exit i) s' μ:=h;simp only[X99] at h' ⊢
    cases hb:Nat.beq i id with
    |true=>simp only[hb,cond_true] at h' ⊢;exact ih .normal s μ h'
    |false=>simp only[hb,cond_false] at h' ⊢;exact ih (.exit i) s μ h'
  |loop b =>
   cases e with
   |normal =>
    intro c0 H0 cx act g hm;obtain⟨c1,s1,h1,h2,h3,h4⟩:=h c0 H0 cx act g hm;rw[<-h1];exact h4 c0 H0 c1 act h2 h3
   |exit i=>exact ih (.exit i) s μ h
   |ret=>exact ih .ret s μ h
theorem MQ.ofCl {nt n0:Nat} {Q:Xp->St->Mu->Prop} {c0:Ctx} {H0:X0c}:∀ e a w,MQ nt c0 H0 n0 (Cl nt n0 Q) e a w->MQ nt c0 H0 n0 Q e a w:=by
 rintro e a w ⟨c',s',ae,μ',rfl,g',hm',rfl,hq⟩;obtain⟨c2,s2,h1,h2,h3,h4⟩:=hq c0 H0 c' a g' hm';exact⟨c2,s2,ae,μ',h1,h2,h3,rfl,h4⟩
theorem X0.weakTo {P:Program} {nt n0:Nat} {Q:Xp->St->Mu->Prop} {cf:Cf} {K:List Kn} {μ:Mu} {L L':List (Nat×AV)} {G G':List (Nat×Obj)} {n n':Nat} (θ:List (Nat×Nat)) (h:X0 P nt n0 Q cf K ⟨fr L',hp G',n'⟩ μ)
  (hb:(fixB θ n0&&injB θ (G'.map (·.1))&&Nat.ble n0 n')=true) (hL:wkL L θ n' L') (hG:wkG G θ n' G'):X0 P nt n0 Q cf K ⟨fr L,hp G,n⟩ μ:=X0.weak (X05g θ hb hL hG) h
theorem X0.cut {P:Program} {nt n0:Nat} {Q:Xp->St->Mu->Prop} {cf:Cf} {K:List Kn} {μ:Mu} {s:St} (h:X0 P nt n0 (Xf1 P nt n0 Q K) cf [] s μ):X0 P nt n0 Q cf K s μ:=by
 cases cf with
 |code c=>exact X41.ofCl h
 |exit e=>exact Xf1.collapse K e s μ h
 |ops ops l =>
  intro c0 H0 c act g hm Qx hQ;refine h c0 H0 c act g hm Qx λc' s' act' μ' g' hm' hk=>?_;exact hQ c' s' act' μ' g' hm' (Xf1.collapse K .normal s' μ' hk)
 |loop b =>
  intro c0 H0 c act g hm R hR bb k cs hro;obtain⟨e,a',w',hq,harr⟩:=h c0 H0 c act g hm R hR bb k cs hro;exact⟨e,a',w',MQ.ofCl e a' w' hq,harr⟩
theorem X0.glue {P:Program} {nt n0:Nat} {Q:Xp->St->Mu->Prop} {e:Xp} {K:List Kn} {μ:Mu} {s:St} (h:X0 P nt n0 Q (.exit e) K s μ):X0 P nt n0 (Xf1 P nt n0 Q K) (.exit e) [] s μ:=Cl.mk h
theorem X0.done {P:Program} {nt n0:Nat} {Q:Xp->St->Mu->Prop} {e:Xp} {μ:Mu} {s:St} (h:Q e s μ):X0 P nt n0 Q (.exit e) [] s μ:=Cl.mk h
def Xd3:Code->List Code
 |.loop b=>b::Xd3 b
 |.seq a b=>Xd3 a++Xd3 b
 |.block _ c=>Xd3 c
 |.scope c=>Xd3 c
 |.cond _ a b=>Xd3 a++Xd3 b
 |.rangeFunc _ _ a b=>Xd3 a++Xd3 b
 |_=>[]
def X0w (i:Nat) (c:Code):Code:=((Xd3 c)[i]?).getD .skip
theorem X05.sym {P:Program} {T:Ty} (hT:Xf0 P T) {f:Nat} {fn:Func} {code:Code} (hfn:X1g P f fn code) {as:List AV} {nt:Nat} {r:AV} (hnt:fn.ntmps=nt)
  (hle:Nat.ble as.length nt=true) (h:X0 P nt 0 (X039 T fn r) (.code code) [] ⟨fr (argL 0 as),hp [],0⟩ []) (hok:∀ a∈as,a.Ok (·<0)):X05 P f as r:=by
 exact X05.of_bodyM hT hfn hnt (by simpa using hle) (X41.ofCl h)
def Xxy (T:Ty) (L:List (Nat×AV)) (G:List (Nat×Obj)):List ResultVar->Option (List AV)
 |[]=>some []
 |.tmp t::l=>match fr L t with
  |.cond _ _=>none
  |a=>Xfs a λa=>match Xxy T L G l with
   |some r=>some (a::r)
   |none=>none
 |.cell p t::l=>match T t with
  |some ti=>match fr L p with
   |.ptr o i k=>match hp G o with
    |some y=>match y.es[i]? with
     |some e=>match Xsd ti e k with
      |some a=>Xfs a λa=>match Xxy T L G l with
       |some r=>some (a::r)
       |none=>none
      |none=>none
     |none=>none
    |none=>none
   |_=>none
  |none=>none
theorem Xpa {T:Ty} {L:List (Nat×AV)} {G:List (Nat×Obj)} {n:Nat}:∀ (l:List ResultVar) (r:List AV),Xxy T L G l=some r->Xks T ⟨fr L,hp G,n⟩ l r:=by
 intro l
 induction l with
 |nil=>intro r h;simp[Xxy] at h;subst h;exact .nil
 |cons v l ih =>
  intro r h
  cases v with
  |tmp t =>
   simp only[Xxy] at h;split at h
   ·cases h
   ·rename_i a hne;rw[X93] at h;split at h
    ·rename_i hr;cases h
     have:Xe6 (fr L t)=fr L t:=by
      cases hq:fr L t with
      |cond g v=>exact absurd hq (hne g v)
      |_=>rfl
     have hres:ResR T ⟨fr L,hp G,n⟩ (.tmp t) (Xe6 (fr L t)):=.tmp;rw[this] at hres;exact .cons hres (ih _ hr)
    ·cases h
  |cell p t =>
   simp only[Xxy] at h;split at h
   ·rename_i ht;split at h
    ·rename_i hp1;split at h
     ·rename_i hH;split at h
      ·rename_i he;split at h
       ·rename_i hl;rw[X93] at h;split at h
        ·rename_i hr;cases h
         refine .cons (.cell ht (e:=_) (k:=_) ?_ hl) (ih _ hr);show Xrm (hp G) (Xe6 (fr L p)) _ _;rw[hp1];exact .ptr hH he
        ·cases h
       ·cases h
      ·cases h
     ·cases h
    ·cases h
   ·cases h
theorem X0.inline {P:Program} {T:Ty} {nt n0 nt' f:Nat} {Q:Xp->St->Mu->Prop} {ops:Array Oper} {l:List Oper} {o:Oper} {K:List Kn} {L:List (Nat×AV)} {G:List (Nat×Obj)} {n:Nat} {μ:Mu} {x:Operand} {args:Array Operand} {ts:Array Nat}
  {caps as:List AV} {fn:Func} {code:Code} (hT:Xf0 P T) (hfn:X1g P f fn code) (ho:o.op=.call { callee:=.value x,args:=args,argTypes:=ts }) (hg:o.guard=none) (hd:Xjm nt o.dst=true) {qx qa:List Prop} (hx:rd L x=(.fn f caps,qx)) (ha:rds L args.toList=(as,qa)) (hpx:X4v qx) (hpa:X4v qa)
  (hnt:fn.ntmps=nt') (hle:Nat.ble (as++caps).length nt'=true)
  (h:X0 P nt' n (retM T fn λr H' n'=>X0 P nt n0 Q (.ops ops l) K ⟨Xfz (fr L) o.dst r,H',n'⟩ μ) (.code code) [] ⟨fr (Av.argL 0 (as++caps)),hp G,n⟩ []):X0 P nt n0 Q (.ops ops (o::l)) K ⟨fr L,hp G,n⟩ μ:=by
 refine X7r.plain (s:=⟨fr L,hp G,n⟩) hg (X7i hd) (OpR.call (s:=⟨fr L,hp G,n⟩) ho (X0n hx hpx) ?_) (λa H' n' hr=>hr);rw[Xgl ha hpa];exact HC.of_bodyM hT hfn hnt (by simpa using hle) (X41.ofCl h)
theorem X0.back {P:Program} {T:Ty} {nt n0 nt' n1:Nat} {fn:Func} {Q:Xp->St->Mu->Prop} {ops:Array Oper} {l:List Oper} {d:Option Nat} {K:List Kn} {L L1:List (Nat×AV)} {G:List (Nat×Obj)} {n:Nat} {μ μ1:Mu} {rs:List AV} {e:Xp} (he:∀ id,e≠.exit id)
  (hr:Xxy T L1 G fn.results.toList=some rs) (h:X0 P nt n0 Q (.ops ops l) K ⟨fr (Xwi d (Xho rs) L),hp G,n⟩ μ) :
  X0 P nt' n1 (retM T fn λr H' n'=>X0 P nt n0 Q (.ops ops l) K ⟨Xfz (fr L) d r,H',n'⟩ μ) (.exit e) [] ⟨fr L1,hp G,n⟩ μ1:=by
 refine Cl.mk ?_;have hk:∃ rs,Xks T ⟨fr L1,hp G,n⟩ fn.results.toList rs/\X0 P nt n0 Q (.ops ops l) K ⟨Xfz (fr L) d (Xho rs),hp G,n⟩ μ:=⟨rs,Xpa _ _ hr,by rw[<-X5u];exact h⟩
 cases e with
 |exit id=>exact absurd rfl (he id)
 |normal=>exact hk
 |ret=>exact hk
theorem Xw9.sym {P:Program} {T:Ty} (hT:Xf0 P T) {f:Nat} {fn:Func} {code:Code} (hfn:X1g P f fn code) {as:List AV} {nt:Nat} {r:AV} {G G':List (Nat×Obj)} {n n':Nat} (hnt:fn.ntmps=nt) (hle:Nat.ble as.length nt=true)
  (h:X0 P nt n (retM T fn λr2 H2 n2=>r2=r/\H2=hp G'/\n2=n') (.code code) [] ⟨fr (Av.argL 0 as),hp G,n⟩ []):Xw9 P f as G n r G' n' :=
 ⟨HC.of_bodyM hT hfn hnt (by simpa using hle) (X41.ofCl h)⟩
theorem X0.fin {P:Program} {T:Ty} {nt n0:Nat} {fn:Func} {r:AV} {L:List (Nat×AV)} {G:List (Nat×Obj)} {n:Nat} {μ:Mu} {rs:List AV} {e:Xp} (he:∀ id,e≠.exit id) (hr:Xxy T L G fn.results.toList=some rs) (hc:Xho rs=r) :
  X0 P nt n0 (retM T fn λr2 H2 n2=>r2=r/\H2=hp G/\n2=n) (.exit e) [] ⟨fr L,hp G,n⟩ μ:=by
 refine Cl.mk ?_;have hk:∃ rs,Xks T ⟨fr L,hp G,n⟩ fn.results.toList rs/\(Xho rs=r/\hp G=hp G/\n=n):=⟨rs,Xpa _ _ hr,hc,rfl,rfl⟩
 cases e with
 |exit id=>exact absurd rfl (he id)
 |normal=>exact hk
 |ret=>exact hk
theorem X001 {P:Program} {T:Ty} {nt n0:Nat} {fn:Func} {r:AV} {L:List (Nat×AV)} {G:List (Nat×Obj)} {n:Nat} {μ:Mu} {rs:List AV} (hr:Xxy T L G fn.results.toList=some rs) (hc:Cv true (hp G) (Xho rs) r) :
  X0 P nt n0 (X039 T fn r) (.exit .ret) [] ⟨fr L,hp G,n⟩ μ:=Cl.mk ⟨rs,Xpa _ _ hr,hc⟩
end Go.Av


namespace Go.Av
variable [Gls]
def Xd6 (e:AV):Prop:=∀ a∈e.cells,∃ v,a=.sc v
theorem X1c {H:X0c} {own:Bool} {es:List AV} (h:∀ e∈es,Xd6 e):Cv false H (.list own es) (.list false es):=by
 refine .listD rfl rfl (λi e e' he he'=>by rw[he] at he';cases he';rfl) (λi e e' k a b he he' ha hb=>?_);rw[he] at he';cases he';rw[ha] at hb;cases hb;obtain⟨v,rfl⟩:=h e (List.mem_of_getElem? he) a (List.mem_of_getElem? ha);exact .sc
theorem X0at {m:Bool} {H:X0c} {o n:Nat} {x:Obj} {es:List AV} (hH:H o=some x) (he:x.es=es) (hn:n=es.length) (h:∀ e∈es,Xd6 e):Cv m H (.ref o 0 n) (.list m es):=by
 subst he hn;refine .ref hH om rfl (λi e e' he he'=>?_) (λi e e' k a b he he' ha hb=>?_)
 ·rw[Nat.zero_add] at he;rw[he] at he';cases he';rfl
 ·rw[Nat.zero_add] at he;rw[he] at he';cases he';rw[ha] at hb;cases hb;obtain⟨v,rfl⟩:=h e (List.mem_of_getElem? he) a (List.mem_of_getElem? ha);exact .sc
theorem Cvs.nil {m:Bool} {H:X0c}:Cvs m H [] []:=⟨rfl,λi a b h=>by simp at h⟩
theorem Cvs.cons {m:Bool} {H:X0c} {a b:AV} {as bs:List AV} (h:Cv m H a b) (hs:Cvs m H as bs):Cvs m H (a::as) (b::bs):=by
 refine⟨by simp[hs.len],λi x y hx hy=>?_⟩
 cases i with
 |zero=>simp at hx hy;subst hx hy;exact h
 |succ i=>simp at hx hy;exact hs.rel i x y hx hy
theorem Xa7.none {P:Program} {f:Nat} {H:X0c} {as bs:List AV} {r:AV} (hp:X05 P f bs r) (h:Cvs false (λ_=>none) as bs):Xa7 P f H as bs r :=
 ⟨hp,λ_=>.none,h,(λ_ _ h=>by cases h),.inr λ_=>rfl⟩
theorem Xa7.lent {P:Program} {f:Nat} {H:X0c} {as bs:List AV} {r:AV} (hp:X05 P f bs r) (h:Cvs false H as bs) (hr:Xq9 r):Xa7 P f H as bs r :=
 ⟨hp,H,h,λ_ _ h=>h,.inl hr⟩
theorem X32 {z:Int} (h1 : -9223372036854775808<=z) (h2:z<=9223372036854775807):IntKind.i64.wrap z=z:=IntWalk.i64_in z ⟨h1,h2⟩
theorem X0af {α:Type} {enc:α->AV} {l:List α} {k:Nat} {x:α} (h:l[k]?=some x):(l.map enc)[((k:Nat):Int).toNat]?=some (enc x):=by
 rw[Int.toNat_natCast,List.getElem?_map,h];rfl
def X6f (e:AV):Prop:=∀ θ,e.ren θ=e
theorem X4 {es:List AV} (h:∀ e∈es,X6f e) (θ:Nat->Nat):es=es.map (AV.ren θ):=by
 conv=>lhs;rw[<-List.map_id es]
 exact List.map_congr_left λe he=>(h e he θ).symm
theorem X3k {p:AV->Prop}:∀ e∈([]:List AV),p e:=λ_ h=>by cases h
theorem Xs {p:AV->Prop} {a:AV} {l:List AV} (h:p a) (hl:∀ e∈l,p e):∀ e∈a::l,p e:=λe he=>by
 rcases List.mem_cons.1 he with h1|h1
 ·rw[h1];exact h
 ·exact hl e h1
theorem Xgo {v:Value}:Xd6 (.sc v):=λa ha=>⟨v,List.mem_singleton.1 ha⟩
theorem Xgr {v:Value}:X6f (.sc v):=λ_=>rfl
theorem X0as {m:Bool} {H:X0c} {as bs:List AV} (h:Cvs m H as bs):Cv m H (.tup as) (.tup bs):=.tup h.len h.rel
end Go.Av


namespace Go.D
def wfI (k:IntKind) (z:Int):Prop:=(Lit.int k z).wf=true
def X14 {α:Type} (l:List α) (i:Int):Option α:=if 0<=i then l[i.toNat]? else none
def X8h {α:Type} (l:List α) (a b:Int):Option (List α):=if 0<=a/\a<=b/\b.toNat<=l.length then some ((l.drop a.toNat).take (b.toNat - a.toNat)) else none
def X0a (n b:Nat):Option Unit:=if n*b<=140737488355328 then some () else none
def X4k (n:Nat):Option Unit:=if n<=140737488355328 then some () else none
def mkOk (n m:Int) (b:Nat):Option Unit:=if 0<n/\n=m/\(b:Int)*m<=140737488355328 then some () else none
def X0dz (l:List Nat):ByteArray:=⟨(l.map UInt8.ofNat).toArray⟩
def FU:Nat:=100000
structure V2 (α:Type) where
 e0:α
 e1:α
 deriving DecidableEq,Inhabited
end Go.D
namespace Go.Av
variable [Gls]
open Go.D
abbrev aI (k:IntKind) (z:Int):AV:=.sc (.int k z)
abbrev aB (b:Bool):AV:=.sc (.bool b)
theorem brE {α:Type} {c:Bool} {a b:Option α} {r:α} {G:Prop} (h:(bif c then a else b)=some r) (h1:c=true->a=some r->G) (h2:c=false->b=some r->G):G:=by
 cases c with
 |true=>exact h1 rfl h
 |false=>exact h2 rfl h
theorem X0av {α β:Type} {x:Option α} {f:α->Option β} {r:β} {G:Prop} (h:x.bind f=some r) (k:∀ v,x=some v->f v=some r->G):G:=by
 cases x with
 |none=>cases h
 |some v=>exact k v rfl h
theorem Xaz {α:Type} {l:List α} {i:Int} {x:α} (h:X14 l i=some x):0<=i:=by
 unfold X14 at h;split at h
 ·assumption
 ·cases h
theorem Xl5 {α:Type} {l:List α} {i:Int} {x:α} (h:X14 l i=some x):l[i.toNat]?=some x:=by
 unfold X14 at h;split at h
 ·exact h
 ·cases h
theorem Xpu {α:Type} {l:List α} {i:Int} {x:α} {f:α->AV} (h:X14 l i=some x):(l.map f)[i.toNat]?=some (f x):=by
 rw[List.getElem?_map,Xl5 h];rfl
theorem Xr2 {α:Type} {l:List α} {i:Int} {x:α} {f:α->AV} (h:X14 l i=some x):(l.map f)[0+i.toNat]?=some (f x):=by
 rw[Nat.zero_add];exact Xpu h
theorem Xi {α:Type} {l:List α} {i:Int} {x:α} (h:X14 l i=some x):i<(l.length:Int):=by
 have h1:=Xaz h;have h2:=(List.getElem?_eq_some_iff.1 (Xl5 h)).1;omega
theorem X043 {α:Type} {l:List α} {i:Int} {x:α} (h:X14 l i=some x):i.toNat<l.length:=(List.getElem?_eq_some_iff.1 (Xl5 h)).1
theorem Xy {α:Type} {l xs:List α} {k:Nat} {x:α} (h:l.drop k=x::xs):k<l.length/\l[k]?=some x/\l.drop (k+1)=xs:=by
 have hk:k<l.length:=by
  rcases Nat.lt_or_ge k l.length with h1|h1
  ·exact h1
  ·rw[List.drop_of_length_le h1] at h;cases h
 rw[List.drop_eq_getElem_cons hk] at h;injection h with h1 h2
 exact⟨hk,by rw[List.getElem?_eq_getElem hk,h1],h2⟩
theorem X06 {α:Type} {l:List α} {k:Nat} (h:l.drop k=[]):l.length<=k:=by
 simpa using h
theorem ixm {α:Type} {l:List α} {k:Nat} {x:α} {f:α->AV} (h:l[k]?=some x):(l.map f)[((k:Nat):Int).toNat]?=some (f x):=X0af h
theorem Xum {n b:Nat} {u:Unit} (h:X0a n b=some u):n*b<=140737488355328:=by
 unfold X0a at h;split at h
 ·assumption
 ·cases h
theorem X0l {n:Nat} {u:Unit} (h:X4k n=some u):n<=140737488355328:=by
 unfold X4k at h;split at h
 ·assumption
 ·cases h
theorem X06o {n m:Int} {b:Nat} {u:Unit} (h:mkOk n m b=some u):0<n/\n=m/\(b:Int)*m<=140737488355328:=by
 unfold mkOk at h;split at h
 ·assumption
 ·cases h
theorem X1l {α:Type} {l m:List α} {a b:Int} (h:X8h l a b=some m):0<=a/\a<=b/\b.toNat<=l.length/\m=(l.drop a.toNat).take (b.toNat - a.toNat):=by
 unfold X8h at h;split at h
 ·rename_i hc;cases h;exact⟨hc.1,hc.2.1,hc.2.2,rfl⟩
 ·cases h
theorem X3n {α:Type} {l m:List α} {a b:Int} (h:X8h l a b=some m):b.toNat - a.toNat=m.length:=by
 obtain⟨h1,h2,h3,rfl⟩:=X1l h;simp;omega
theorem X7y {α:Type} {m:List α} {a b:Int} (h:X8h ([]:List α) a b=some m):m=[]:=by
 obtain⟨h1,h2,h3,rfl⟩:=X1l h;simp
theorem Xae {α:Type} {m:List α} (h:List.isEmpty m=true):m.length=0:=by
 rw[List.isEmpty_iff.1 h];rfl
theorem X1q {α:Type} {m:List α} (h:List.isEmpty m=false):0<m.length:=by
 cases m with
 |nil=>cases h
 |cons a m=>simp
theorem Xj8 {α:Type} {l m:List α} {off n:Nat} {i:Int} {x:α} {f:α->AV} (q:m=(l.drop off).take n) (h:X14 m i=some x):(l.map f)[off+i.toNat]?=some (f x):=by
 have h1:=Xl5 h;rw[q,List.getElem?_take] at h1;split at h1
 ·rw[List.getElem?_drop] at h1;rw[List.getElem?_map,h1];rfl
 ·cases h1
theorem X2t {α:Type} {l m:List α} {n:Nat} {f:α->AV} (q:m=(l.drop 0).take n):∃ k,m.map f=(l.map f).take k:=⟨n,by rw[q];simp[List.map_take]⟩
theorem X04j {α:Type} {f:α->AV} {n:Nat} (h:∀ x,(f x).cells.length=n) (l:List α):∀ e∈l.map f,e.cells.length=n:=by
 intro e he;obtain⟨x,_,rfl⟩:=List.mem_map.1 he;exact h x
theorem X0p {α:Type} {f:α->AV} (h:∀ x,Xd6 (f x)) (l:List α):∀ e∈l.map f,Xd6 e:=by
 intro e he;obtain⟨x,_,rfl⟩:=List.mem_map.1 he;exact h x
theorem Xr {α:Type} {f:α->AV} (h:∀ x,X6f (f x)) (l:List α):∀ e∈l.map f,X6f e:=by
 intro e he;obtain⟨x,_,rfl⟩:=List.mem_map.1 he;exact h x
def Xe4 (e:AV):Prop:=∀ M:Nat->Prop,e.Ok M/\∀ a∈e.cells,a.Ok M
theorem X18 {α:Type} {f:α->AV} (h:∀ x,Xe4 (f x)) (l:List α) (M:Nat->Prop):∀ e∈l.map f,∀ a∈e.cells,a.Ok M:=by
 intro e he;obtain⟨x,_,rfl⟩:=List.mem_map.1 he;exact(h x M).2
theorem X6z {e:AV} (h:Xd6 e) (hw:e.whole=true):Xe4 e:=λM=>by
 have h2:∀ a∈e.cells,a.Ok M:=λa ha=>by obtain⟨v,rfl⟩:=h a ha;exact .sc
 refine⟨?_,h2⟩
 cases e with
 |agg cs=>exact .agg h2
 |_=>first|exact h2 _ (List.mem_singleton.2 rfl)
theorem Xt2 {α:Type} {f g:α->AV} {H:X0c} {own:Bool} (hc:∀ x,(f x).cells.length=(g x).cells.length) (h:∀ x (k:Nat) a b,(f x).cells[k]?=some a->(g x).cells[k]?=some b->Cv false H a b) (l:List α) :
  Cv false H (.list own (l.map f)) (.list false (l.map g)):=by
 refine .listD rfl (by simp) (λi e e' he he'=>?_) (λi e e' k a b he he' ha hb=>?_)
 ·simp only[List.getElem?_map,Option.map_eq_some_iff] at he he';obtain⟨x,hx,rfl⟩:=he;obtain⟨y,hy,rfl⟩:=he';rw[hx] at hy;cases hy;exact hc x
 ·simp only[List.getElem?_map,Option.map_eq_some_iff] at he he';obtain⟨x,hx,rfl⟩:=he;obtain⟨y,hy,rfl⟩:=he';rw[hx] at hy;cases hy;exact h x k a b ha hb
theorem ref1 {i n m:Nat} (h:n=m):[AV.ref i 0 n]=[AV.ref i 0 m]:=h▸rfl
def Nb {α:Type} (l:List α):Type:={ b:Bool // b=true->l=[] }
def nbF {α:Type} {l:List α}:Nb l:=⟨false,λh=>by cases h⟩
def nbT {α:Type} {l:List α} (h:l=[]):Nb l:=⟨true,λ_=>h⟩
def slE (nb:Bool) (id:Nat) (es:List AV):AV:=bif nb then .nils else .ref id 0 es.length
def opE (nb:Bool) (id esz:Nat) (es:List AV):List (Nat×Obj):=bif nb then [] else [(id,{ es:=es,esz:=esz })]
theorem X0.joinF {P:Program} {nt n0:Nat} {Q:Xp->St->Mu->Prop} {cf:Cf} {K:List Kn} {μ:Mu} {s:St} {ι:Type} (s':ι->St) (h1:∀ i,X0 P nt n0 Q (.exit .normal) K (s' i) μ)
  (h2:(∀ i,X0 P nt n0 Q (.exit .normal) K (s' i) μ)->X0 P nt n0 Q cf K s μ):X0 P nt n0 Q cf K s μ:=h2 h1
theorem X0.join {P:Program} {nt n0:Nat} {Q:Xp->St->Mu->Prop} {cf:Cf} {K:List Kn} {μ:Mu} {s s':St} (h1:X0 P nt n0 Q (.exit .normal) K s' μ)
  (h2:X0 P nt n0 Q (.exit .normal) K s' μ->X0 P nt n0 Q cf K s μ):X0 P nt n0 Q cf K s μ:=h2 h1
theorem X0.joinOp {P:Program} {nt n0:Nat} {Q:Xp->St->Mu->Prop} {ops:Array Oper} {o:Oper} {l:List Oper} {K:List Kn} {μ:Mu} {s s':St} (h1:X0 P nt n0 Q (.ops ops l) K s' μ)
  (h2:X0 P nt n0 Q (.ops ops l) K s' μ->X0 P nt n0 Q (.ops ops (o::l)) K s μ):X0 P nt n0 Q (.ops ops (o::l)) K s μ:=h2 h1
theorem X1a {v:Value} {P:List AV} (h:∀ a∈P,∃ v,a=.sc v):∀ a∈(.sc v::P),∃ v,a=.sc v:=λa ha=>by
 rcases List.mem_cons.1 ha with rfl|ha
 ·exact⟨_,rfl⟩
 ·exact h a ha
theorem Xi2:∀ a∈([]:List AV),∃ v,a=.sc v:=λ_ h=>by cases h
theorem Xzy {v:Value}:Xe4 (.sc v):=λ_=>⟨.sc,λa ha=>by rw[List.mem_singleton.1 ha];exact .sc⟩
theorem Xhz {cs:List AV} (h:∀ M:Nat->Prop,∀ a∈cs,a.Ok M):Xe4 (.agg cs):=λM=>⟨.agg (h M),h M⟩
theorem X17 {e:AV} (h:Xe4 e) (M:Nat->Prop):∀ e'∈[e],∀ a∈e'.cells,a.Ok M:=λe' he=>by rw[List.mem_singleton.1 he];exact(h M).2
theorem X9g {m:Bool} {H:X0c} {as bs:List AV} (h:Cvs m H as bs):Cv m H (.agg as) (.agg bs):=.agg h.len h.rel
theorem X08k {m:Bool} {H:X0c} {es:List AV} (h:es=[]):Cv m H .nils (.list m es):=by rw[h];exact .nils
theorem Xi8 {m:Bool} {H:X0c} {e b:AV} (h:Cv m H e b):∀ own es,b=.list own es->e.cells=[e]:=by
 induction h with
 |weak h ih=>intro _ _ _;exact ih _ _ rfl
 |agg=>intro _ _ h;cases h
 |_=>intro _ _ _;rfl
theorem Xi9 {H:X0c} {e e':AV} (h:Cv false H e e'):∀ (k:Nat) a b,e.cells[k]?=some a->e'.cells[k]?=some b->Cv false H a b:=by
 intro k a b ha hb
 cases h with
 |agg hl h=>exact h k a b ha hb
 |weak h =>
  rw[Xi8 h _ _ rfl] at ha
  cases k with
  |succ k=>simp at ha
  |zero=>simp[AV.cells] at ha hb;subst ha hb;exact .weak h
 |_ =>
  cases k with
  |succ k=>simp[AV.cells] at ha
  |zero =>
   simp[AV.cells] at ha hb;subst ha hb;first
    |exact .sc
    |exact .nils
    |exact .nils0
    |exact .fn0
    |(apply Cv.tup<;>assumption)
    |(apply Cv.listS;assumption)
    |(apply Cv.listD<;>assumption)
    |(apply Cv.ref<;>assumption)
    |(apply Cv.ptrL<;>assumption)
    |(apply Cv.elemD<;>assumption)
theorem absT {b:Bool} {P:Prop} (h:b=false):b=true->P:=λa=>Bool.noConfusion (a.symm.trans h)
theorem absN {b:Bool} {P:Prop} (h:b=true):(!b)=true->P:=λa=>by rw[h] at a;cases a
theorem X1n {m n b c:Nat} {u:Unit} (h:X0a n c=some u) (hb:b=c) (hm:m=n):m*b<=140737488355328:=by subst hb hm;exact Xum h
theorem X0h {m n c:Nat} {u:Unit} (h:X0a n c=some u) (hc:0<c) (hm:m=n):m<=maxLen:=by
 subst hm;have:=Xum h;have h2:m*1<=m*c:=Nat.mul_le_mul_left _ hc;unfold maxLen;omega
theorem X6 {c x y b:Bool} (h:c=true) (hx:x=b):(bif c then x else y)=b:=by rw[h];exact hx
theorem X5 {c x y b:Bool} (h:c=false) (hy:y=b):(bif c then x else y)=b:=by rw[h];exact hy
theorem X0bl {c:Bool} (h:c=true):(!c)=false:=by rw[h];rfl
theorem X0bm {c:Bool} (h:c=false):(!c)=true:=by rw[h];rfl
theorem X08t {c b:Bool} (h:c=b):(!c)=!b:=by rw[h]
theorem Xyg {f:Nat} {M:Nat->Prop}:(AV.fn f []).Ok M:=.fn λ_ h=>by cases h
theorem Xx5 {es:List AV} {n:Nat} (h:n=es.length):(es.drop 0).take n=es:=by rw[List.drop_zero,h,List.take_length]
theorem X3c {α:Type} {f:α->AV} {w:α->Prop} {es:List AV} (h:∀ x∈es,∃ e,x=f e/\w e):∃ l:List α,es=l.map f/\∀ y∈l,w y:=by
 induction es with
 |nil=>exact⟨[],rfl,λ_ h=>by cases h⟩
 |cons a r ih =>
  obtain⟨e,he,hw⟩:=h a (List.mem_cons_self ..);obtain⟨l,hl,hws⟩:=ih λx hx=>h x (List.mem_cons_of_mem _ hx);refine⟨e::l,by rw[he,hl];rfl,λy hy=>?_⟩;rcases List.mem_cons.1 hy with rfl|hy
  ·exact hw
  ·exact hws y hy
theorem oblA {P:Prop} (h:P:=by
 first
  |exact trivial
  |exact λh=>h
  |rfl
  |assumption
  |(apply Xaz;assumption;done)
  |(apply Xpu;assumption;done)
  |(apply Xr2;assumption;done)
  |(apply ixm;assumption;done)
  |(apply ixm0;assumption;done)
  |(apply getI_mapc;assumption;done)
  |(apply getI_mapc0;assumption;done)
  |(apply ixmc;assumption;done)
  |(apply ixmc0;assumption;done)
  |(apply divOk_ne;assumption;done)
  |(apply shOk_le;assumption;done)
  |(intro a;rw[a];done)
  |(intro a;rw[a];rfl)
  |exact X32 om om
  |(refine X04j ?_ _;intro x;rfl)
  |exact ex_head rfl
  |(refine cell_len_td ?_ _ _ _;intro x;rfl)
  |(refine cell_len_c ?_ _ _;intro x;rfl)
  |(refine Xx5 ?_;first|rfl|(simp;done)|(simp;omega)|(simp[*];done))
  |exact Nat.le_of_ble_eq_true rfl
  |(exact decide_eq_true om)
  |(exact decide_eq_false om)
  |(simp only[maxLen,List.length_append,List.length_map,List.length_cons,List.length_nil,List.length_replicate,Int.toNat_natCast];done)
  |(simp only[maxLen,List.length_append,List.length_map,List.length_cons,List.length_nil,List.length_replicate,Int.toNat_natCast] at *;omega)
  |(simp only[List.length_map];first|done|assumption|rfl)
  |(simp only[List.length_map];first|(apply Xaz;assumption;done)|(apply Xpu;assumption;done)|(apply Xr2;assumption;done)|(apply getI_mapc;assumption;done)|(apply getI_mapc0;assumption;done))
  |(refine congrArg (λz=>AV.sc (Value.int IntKind.i64 z)) ?_;simp only[List.length_map,List.length_cons,List.length_append];done)
  |(refine congrArg (λz=>AV.sc (Value.int IntKind.i64 z)) ?_;first|(simp;done)|(simp;omega)|(simp[*];done))
  |(intro e he;rw[List.mem_singleton.1 he];rfl)
  |(intro e he;simp only[List.mem_cons,List.not_mem_nil,or_false] at he;rcases he with rfl|rfl<;>rfl)
  |exact andL
  |exact andR
  |(refine X0bl ?_;assumption)
  |(refine X0bm ?_;assumption)
  |(refine absT ?_;assumption)
  |(refine absN ?_;assumption)
  |omega
  |(simp;done)
  |(simp[*];done)
  |(intros;simp_all;done)):P:=h
end Go.Av


namespace Go.Av
variable [Gls]
theorem X0.inlineG {P:Program} {T:Ty} {nt n0 nt' f j t:Nat} {want g:Bool} {Q:Xp->St->Mu->Prop} {ops:Array Oper} {l:List Oper} {o:Oper} {K:List Kn} {L:List (Nat×AV)} {G:List (Nat×Obj)} {n:Nat} {μ:Mu} {x:Operand} {args:Array Operand} {ts:Array Nat}
  {caps as:List AV} {fn:Func} {code:Code} (hT:Xf0 P T) (hfn:X1g P f fn code) (ho:o.op=.call { callee:=.value x,args:=args,argTypes:=ts }) (hg:o.guard=some (j,want)) (hj:(ops[j]?).bind (·.dst)=some t) (ht:Nat.blt t nt=true) (hgd:gdS want (fr L t)=some g)
  (hd:Xjm nt o.dst=true) {qx qa:List Prop} (hx:rd L x=(.fn f caps,qx)) (ha:rds L args.toList=(as,qa)) (hnt:fn.ntmps=nt') (hle:Nat.ble (as++caps).length nt'=true) (hgt:g=true) (hpx:X4v qx) (hpa:X4v qa)
  (h:X0 P nt' n (retM T fn λr H' n'=>X0 P nt n0 Q (.ops ops l) K ⟨Xfz (fr L) o.dst r,H',n'⟩ μ) (.code code) [] ⟨fr (Av.argL 0 (as++caps)),hp G,n⟩ []):X0 P nt n0 Q (.ops ops (o::l)) K ⟨fr L,hp G,n⟩ μ:=by
 subst hgt;refine X7r.step (s:=⟨fr L,hp G,n⟩) (λc0 c H0 act gd=>Xfa (s:=⟨fr L,hp G,n⟩) hg hj ht hgd gd) (X7i hd) (OpR.call (s:=⟨fr L,hp G,n⟩) ho (X0n hx hpx) ?_) (λa H' n' hr=>hr);rw[Xgl ha hpa];exact HC.of_bodyM hT hfn hnt (by simpa using hle) (X41.ofCl h)
theorem X00g {H:X0c} {e e':AV} (h:Cv true H e e'):∀ (k:Nat) a b,e.cells[k]?=some a->e'.cells[k]?=some b->Cv true H a b:=by
 intro k a b ha hb
 cases h with
 |agg hl h=>exact h k a b ha hb
 |weak h =>
  rw[Xi8 h _ _ rfl] at ha
  cases k with
  |succ k=>simp at ha
  |zero=>simp[AV.cells] at ha hb;subst ha hb;exact .weak h
 |ptrL hm=>cases hm
 |elemD hm=>cases hm
 |_ =>
  cases k with
  |succ k=>simp[AV.cells] at ha
  |zero =>
   simp[AV.cells] at ha hb;subst ha hb;first
    |exact .sc
    |exact .nils
    |exact .nils0
    |exact .fn0
    |(apply Cv.tup<;>assumption)
    |(apply Cv.listS;assumption)
    |(apply Cv.ref<;>assumption)
    |(rename_i hm _ _ _;cases hm)
theorem X08j {m:Bool} {α:Type} {f g:α->AV} {H:X0c} {o n:Nat} {x:Obj} {l:List α} (hH:H o=some x) (he:x.es=l.map f) (hn:n=l.length) (hc:∀ x,(f x).cells.length=(g x).cells.length)
  (h:∀ x (k:Nat) a b,(f x).cells[k]?=some a->(g x).cells[k]?=some b->Cv m H a b):Cv m H (.ref o 0 n) (.list m (l.map g)):=by
 have hg:∀ (i:Nat) e e',x.es[0+i]?=some e->(l.map g)[i]?=some e'->∃ y,e=f y/\e'=g y:=by
  intro i e e' h1 h2;rw[Nat.zero_add,he] at h1;simp only[List.getElem?_map,Option.map_eq_some_iff] at h1 h2;obtain⟨y,hy,rfl⟩:=h1;obtain⟨z,hz,rfl⟩:=h2;rw[hy] at hz;cases hz;exact⟨y,rfl,rfl⟩
 refine .ref hH (by rw[he,hn];simp) (by rw[hn];simp) (λi e e' h1 h2=>?_) (λi e e' k a b h1 h2 ha hb=>?_)
 ·obtain⟨y,rfl,rfl⟩:=hg i e e' h1 h2;exact hc y
 ·obtain⟨y,rfl,rfl⟩:=hg i e e' h1 h2;exact h y k a b ha hb
end Go.Av
