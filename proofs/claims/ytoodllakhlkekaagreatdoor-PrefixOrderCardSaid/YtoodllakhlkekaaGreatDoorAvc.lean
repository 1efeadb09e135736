/- Parts of the proof, laid together. -/
import Derived.Test.YtoodllakhlkekaaGreatDoorAvb
import Derived.RangeFuncLeaves
import Derived.IntWalk
import Derived.MapKept
import Derived.RangeFuncIn
import Derived.WideKeyEntry
import Derived.DeepKeys4
set_option linter.all false

namespace Go.Av
variable [Gls]
def X8n (R:Option Nat) (P:Program) (c:Code) (Q:Exit->Act->World->Prop) (a:Act) (w:World):Prop :=
 ∀ (b:Frame) (k:List Item) (cs:List Frame),b.roundOf=R->∃ e a' w',Q e a' w'/\ArrivesIn (Machine.fenced P (FR R)) P (lone (b.atR a (.code c::.inLoop c::k)) cs w) b k cs e a' w'
theorem X8n.start {R:Option Nat} {P:Program} {c:Code} {Q:Exit->Act->World->Prop} {a:Act} {w:World} (h:X8n R P c Q a w):wpR R P (Code.loop c) Q a w:=by
 intro b k cs hro hb hr;obtain⟨e,a',w',hq,harr⟩:=h b k cs hro;exact⟨e,a',w',hq,.of_steps (.one (Xb7 P R _) stepR_loop) harr⟩
theorem X8n.round {R:Option Nat} {P:Program} {c:Code} {Q:Exit->Act->World->Prop} {a:Act} {w:World} (h:wpR R P c (Exit.then (X8n R P c Q) Q) a w):X8n R P c Q a w:=by
 intro b k cs hro;obtain⟨e,a₁,w₁,hq,harr⟩:=h b (.inLoop c::k) cs hro trivial (Xps R _)
 cases e with
 |normal =>
  obtain⟨e₂,a₂,w₂,hq₂,harr₂⟩:=hq b k cs hro;exact⟨e₂,a₂,w₂,hq₂,.of_steps (StepsIn.trans harr (.one (Xb7 P R _) stepR_inLoop)) harr₂⟩
 |exit id=>exact⟨_,a₁,w₁,hq,.pass (x:=.inLoop c) rfl (λ_ _=>.inl (by simp)) harr⟩
 |goto l=>exact⟨_,a₁,w₁,hq,.pass (x:=.inLoop c) rfl (λ_ _=>.inl (by simp)) harr⟩
 |ret=>exact⟨_,a₁,w₁,hq,.pass (x:=.inLoop c) rfl (λ_ _=>.inl (by simp)) harr⟩
 |panic ch=>exact⟨_,a₁,w₁,hq,.pass (x:=.inLoop c) rfl (λ_ _=>.inl (by simp)) harr⟩
 |outgrown=>exact⟨_,a₁,w₁,hq,.pass (x:=.inLoop c) rfl (λ_ _=>.inl (by simp)) harr⟩
def X1s (P:Program) (nt n0:Nat) (b:Code) (Q:Xc->St->Mu->Prop) (s:St) (μ:Mu):Prop :=
 ∀ (c0:Ctx) (H0:Xh) (c:Ctx) (act:Act),X0b nt c0 H0 n0 c s act->MOk n0 c0 H0 c s.H μ act->∀ R,RG b R->X8n R P b (MQ nt c0 H0 n0 Q) act c.w
def Xyd (P:Program) (nt n0:Nat) (b:Code) (Q:Xc->St->Mu->Prop):Xc->St->Mu->Prop
 |.normal,s,μ=>X1s P nt n0 b Q s μ
 |e,s,μ=>Q e s μ
theorem X0c.loop {P:Program} {nt n0:Nat} {b:Code} {Q:Xc->St->Mu->Prop} {s:St} {μ:Mu} (h:X1s P nt n0 b Q s μ):X0c P nt n0 (.loop b) Q s μ :=
 λc0 H0 c act g hm R hR=>(h c0 H0 c act g hm R hR).start
theorem X1s.round {P:Program} {nt n0:Nat} {b:Code} {Q:Xc->St->Mu->Prop} {s:St} {μ:Mu} (h:X0c P nt n0 b (Xyd P nt n0 b Q) s μ):X1s P nt n0 b Q s μ:=by
 intro c0 H0 c act g hm R hR;refine X8n.round (wpIn_mono (h c0 H0 c act g hm R hR) ?_);rintro e a w ⟨c',s',ae,μ',rfl,g',hm',rfl,hq⟩
 cases ae with
 |normal=>exact hq c0 H0 c' a g' hm' R hR
 |exit id=>exact⟨c',s',.exit id,μ',rfl,g',hm',rfl,hq⟩
 |ret=>exact⟨c',s',.ret,μ',rfl,g',hm',rfl,hq⟩
section
variable {P:Program} {nt n0:Nat} {s:St} {μ:Mu} {ops:Array Oper} {l:List Oper} {o:Oper} {K:St->Mu->Prop}
theorem X0j.nil (h:K s μ):X0j P nt n0 ops [] K s μ:=λ_ _ c act g hm Qx hQ _ _=>X7v (hQ c s act μ g hm h)
theorem X0j.step {R:AV->Xh->Nat->Prop} (hw:∀ (c0 c:Ctx) (H0:Xh) (act:Act),X0b nt c0 H0 n0 c s act->Region.wanted o (yielded ops act.tmps)=true) (hd:∀ d,o.dst=some d->d<nt) (h:OpR P nt o s R)
  (hn:∀ a H' n',R a H' n'->X0j P nt n0 ops l K ⟨X1b s.A o.dst a,H',n'⟩ μ):X0j P nt n0 ops (o::l) K s μ:=by
 intro c0 H0 c act g hm Qx hQ R hR;refine Xv λK' hK'=>?_;rw[if_pos (hw c0 c H0 act g)];refine h c s.H n0 c act g.rebase K' Qx (λc' a H' n' v hr hgood=>?_) R;have g2:=hgood o.dst hd;exact hK' _ _ (hn a H' n' hr c0 H0 c' _ (.join g.reach g2) (hm.kept g2.reach) Qx hQ R hR)
theorem X0j.plain {R:AV->Xh->Nat->Prop} (hg:o.guard=none) (hd:∀ d,o.dst=some d->d<nt) (h:OpR P nt o s R)
  (hn:∀ a H' n',R a H' n'->X0j P nt n0 ops l K ⟨X1b s.A o.dst a,H',n'⟩ μ):X0j P nt n0 ops (o::l) K s μ :=
 X0j.step (λ_ _ _ _ _=>by simp[Region.wanted,hg]) hd h hn
def gdS (want:Bool):AV->Option Bool
 |.sc (.bool b)=>match want with
  |true=>some b
  |false=>some (!b)
 |.cond g (.sc (.bool b))=>match want with
  |true=>some (g&&b)
  |false=>some (g&&!b)
 |_=>none
theorem X4o {j t:Nat} {want g:Bool} (hg:o.guard=some (j,want)) (hj:(ops[j]?).bind (·.dst)=some t) (ht:Nat.blt t nt=true) (hb:gdS want (s.A t)=some g)
  {c0 c:Ctx} {H0:Xh} {act:Act} (gd:X0b nt c0 H0 n0 c s act):Region.wanted o (yielded ops act.tmps)=g:=by
 have hlt:t<act.tmps.size:=by rw[gd.size];simpa using ht
 have hf:=gd.frame t;have hy:∀ v,act.tmps.getD t undef=v->yielded ops act.tmps j=(match v with|.bool b=>some b|_=>none):=by
  intro v hv;unfold yielded;rw[hj];simp only[Option.bind_some,Array.getElem?_eq_getElem hlt];have:act.tmps[t]=v:=by simpa[hlt] using hv
  rw[this];cases v<;>rfl
 unfold gdS at hb;split at hb
 ·rename_i b hA;rw[hA] at hf;have:=hy _ hf.sc_inv;simp only at this;unfold Region.wanted;rw[hg];simp only[this];cases b<;>(split at hb<;>cases hb<;>rfl)
 ·rename_i q b hA;rw[hA] at hf
  cases hf with
  |cond h hn =>
   cases q with
   |true =>
    have:=hy _ (h rfl).sc_inv;simp only at this;unfold Region.wanted;rw[hg];simp only[this];cases b<;>(split at hb<;>cases hb<;>rfl)
   |false =>
    have:=hy _ (hn rfl);have hu:yielded ops act.tmps j=none:=this;unfold Region.wanted;rw[hg];simp only[hu];split at hb<;>cases hb<;>rfl
 ·cases hb
theorem X0j.skip {j t:Nat} {want:Bool} (hg:o.guard=some (j,want)) (hj:(ops[j]?).bind (·.dst)=some t) (ht:Nat.blt t nt=true) (hb:gdS want (s.A t)=some false)
  (hd:∀ d,o.dst=some d->d<nt) (hn:X0j P nt n0 ops l K ⟨X1b s.A o.dst (.cond false (.sc (.bool false))),s.H,s.n⟩ μ):X0j P nt n0 ops (o::l) K s μ:=by
 intro c0 H0 c act g hm Qx hQ R hR;refine Xv λK' hK'=>?_;rw[if_neg (by rw[X4o hg hj ht hb g];simp)];have g2:X0b nt c s.H n0 c _ _:=g.rebase.next hd (.refl c) rfl (λb hb=>.inl hb) (.refl c s.H) (λq x hx=>.inr ⟨q,x,hx,rfl⟩) g.inv g.solo (Nat.le_refl _) (v:=undef) (a:=.cond false (.sc (.bool false))) (.cond (λh=>by cases h) (λ_=>rfl)) (.cond .sc);exact hK' _ _ (hn c0 H0 c _ (.join g.reach g2) (hm.kept g2.reach) Qx hQ R hR)
theorem X0j.quiet {j t:Nat} {want b:Bool} {a:AV} (hg:o.guard=some (j,want)) (hj:(ops[j]?).bind (·.dst)=some t) (ht:Nat.blt t nt=true) (hb:gdS want (s.A t)=some b)
  (hd:∀ d,o.dst=some d->d<nt) (hok:a.Ok (·<s.n)) (h:b=true->OpR P nt o s (λa' H' n'=>a'=a/\H'=s.H/\n'=s.n))
  (hn:X0j P nt n0 ops l K ⟨X1b s.A o.dst (.cond b a),s.H,s.n⟩ μ):X0j P nt n0 ops (o::l) K s μ:=by
 cases b with
 |true =>
  refine X0j.step (λc0 c H0 act g=>X4o hg hj ht hb g) hd (R:=λa' H' n'=>(a'=.cond true a)/\H'=s.H/\n'=s.n) ?_ ?_
  ·intro c0 H0 n0 c act g K Q hK R;refine h rfl c0 H0 n0 c act g K Q (λc' a' H' n' v hR hgood=>?_) R;obtain⟨rfl,rfl,rfl⟩:=hR;refine hK c' (.cond true a') _ _ v ⟨rfl,rfl,rfl⟩ λdst hd=>?_;have g2:=hgood dst hd;refine⟨g2.inv,g2.solo,λq=>?_,λq=>?_,g2.size,g2.reach,g2.le0⟩
   ·have h1:=g2.frame q
    cases dst with
    |none=>exact h1
    |some d =>
     simp only[X1b] at h1 ⊢;by_cases hq:q=d
     ·subst hq;rw[X7] at h1 ⊢;exact .cond (λ_=>h1) (λh=>by cases h)
     ·rw[X5 _ _ hq] at h1 ⊢;exact h1
   ·have h1:=g2.ok q
    cases dst with
    |none=>exact h1
    |some d =>
     simp only[X1b] at h1 ⊢;by_cases hq:q=d
     ·subst hq;rw[X7] at h1 ⊢;exact .cond h1
     ·rw[X5 _ _ hq] at h1 ⊢;exact h1
  ·rintro _ _ _ ⟨rfl,rfl,rfl⟩;exact hn
 |false =>
  intro c0 H0 c act g hm Qx hQ R hR;refine Xv λK' hK'=>?_;rw[if_neg (by rw[X4o hg hj ht hb g];simp)];have g2:X0b nt c s.H n0 c _ _:=g.rebase.next hd (.refl c) rfl (λb hb=>.inl hb) (.refl c s.H) (λq x hx=>.inr ⟨q,x,hx,rfl⟩) g.inv g.solo (Nat.le_refl _) (v:=undef) (a:=.cond false a) (.cond (λh=>by cases h) (λ_=>rfl)) (.cond hok);exact hK' _ _ (hn c0 H0 c _ (.join g.reach g2) (hm.kept g2.reach) Qx hQ R hR)
theorem X0c.region {id:Nat} {Q:Xc->St->Mu->Prop} (h:X0j P nt n0 ops ops.toList (λs μ=>Q .normal s μ) s μ):X0c P nt n0 (.region id ops false) Q s μ:=by
 intro c0 H0 c act g hm R _;exact wpIn_region_list (h c0 H0 c act g hm _ (λc' s' act' μ' g' hm' hq=>⟨c',s',.normal,μ',rfl,g',hm',rfl,hq⟩) (some R) (λh=>by cases h))
end
mutual
theorem X9g (M:Nat->Bool):∀ (a:AV),AV.okB M a=true->a.Ok (λo=>M o=true)
 |.junk=>λ_=>.junk
 |.sc _=>λ_=>.sc
 |.nils=>λ_=>.nils
 |.agg cs=>λh=>.agg (X9w M cs h)
 |.tup cs=>λh=>.tup (X9w M cs h)
 |.list ..=>λ_=>.list
 |.ref ..=>λh=>.ref h
 |.ptr ..=>λh=>.ptr h
 |.elem ..=>λ_=>.elem
 |.fn _ caps=>λh=>.fn (X9w M caps h)
 |.mref ..=>λh=>.mref h
 |.cond _ v=>λh=>.cond (X9g M v h)
 |.mv _ v=>λh=>.mv (X9g M v h)
theorem X9w (M:Nat->Bool):∀ (l:List AV),AV.oksB M l=true->∀ a∈l,a.Ok (λo=>M o=true)
 |[]=>λ_ _ h=>by cases h
 |a::r=>λh x hx=>by
  have h':(AV.okB M a&&AV.oksB M r)=true:=h;simp only[Bool.and_eq_true] at h';rcases List.mem_cons.1 hx with he|hx
  ·rw[he];exact X9g M a h'.1
  ·exact X9w M r h'.2 x hx
end
theorem okLt {n:Nat} {a:AV} (h:AV.okB (λo=>Nat.blt o n) a=true):a.Ok (·<n):=(X9g _ a h).mono λo ho=>by simpa using ho
inductive Kn where
 |seq (c:Code)
 |block (id:Nat)
 |loop (b:Code)
inductive Cf where
 |code (c:Code)
 |exit (e:Xc)
 |ops (ops:Array Oper) (l:List Oper)
 |loop (b:Code)
def Cl (nt n0:Nat) (Q:Xc->St->Mu->Prop):Xc->St->Mu->Prop:=λe s μ =>
 ∀ (c0:Ctx) (H0:Xh) (c:Ctx) (act:Act),X0b nt c0 H0 n0 c s act->MOk n0 c0 H0 c s.H μ act->∃ c' s',c'.w=c.w/\X0b nt c0 H0 n0 c' s' act/\MOk n0 c0 H0 c' s'.H μ act/\Q e s' μ
theorem Cl.mk {nt n0:Nat} {Q:Xc->St->Mu->Prop} {e:Xc} {s:St} {μ:Mu} (h:Q e s μ):Cl nt n0 Q e s μ:=λ_ _ c _ g hm=>⟨c,s,rfl,g,hm,h⟩
theorem X0c.ofCl {P:Program} {nt n0:Nat} {Q:Xc->St->Mu->Prop} {code:Code} {s:St} {μ:Mu} (h:X0c P nt n0 code (Cl nt n0 Q) s μ):X0c P nt n0 code Q s μ:=by
 intro c0 H0 c act g hm R hR;refine wpIn_mono (h c0 H0 c act g hm R hR) ?_;rintro e a w ⟨c',s',ae,μ',rfl,g',hm',rfl,hq⟩;obtain⟨c2,s2,h1,h2,h3,h4⟩:=hq c0 H0 c' a g' hm';exact⟨c2,s2,ae,μ',h1,h2,h3,rfl,h4⟩
def X5x (P:Program) (nt n0:Nat) (Q:Xc->St->Mu->Prop):List Kn->Xc->St->Mu->Prop
 |[]=>Cl nt n0 Q
 |.seq c::K=>Xy9 P nt n0 c (X5x P nt n0 Q K)
 |.block id::K=>X2m id (X5x P nt n0 Q K)
 |.loop b::K=>Xyd P nt n0 b (X5x P nt n0 Q K)
def Xd (P:Program) (nt n0:Nat) (Q:Xc->St->Mu->Prop) (cf:Cf) (K:List Kn) (s:St) (μ:Mu):Prop :=
 match cf with
 |.code c=>X0c P nt n0 c (X5x P nt n0 Q K) s μ
 |.exit e=>X5x P nt n0 Q K e s μ
 |.ops ops l=>X0j P nt n0 ops l (λs μ=>X5x P nt n0 Q K .normal s μ) s μ
 |.loop b=>X1s P nt n0 b (X5x P nt n0 Q K) s μ
def SSt (L:List (Nat×AV)) (G:List (Nat×Obj)) (n:Nat):St:=⟨fr L,hp G,n⟩
def Xlw {β:Type} (d:Option Nat) (a:AV) (L:List (Nat×AV)) (k:List (Nat×AV)->Option β):Option β :=
 match d with
 |some d=>k ((d,a)::L)
 |none=>k L
def X5m (d:Option Nat) (a:AV) (L:List (Nat×AV)):List (Nat×AV) :=
 match d with
 |some d=>(d,a)::L
 |none=>L
theorem X4r {β:Type} (d:Option Nat) (a:AV) (L:List (Nat×AV)) (k:List (Nat×AV)->Option β):Xlw d a L k=k (X5m d a L):=by cases d<;>rfl
theorem X0u (d:Option Nat) (a:AV) (L:List (Nat×AV)):fr (X5m d a L)=X1b (fr L) d a:=by
 cases d<;>rfl
def X7b {β:Type}:List (Nat×Obj)->(List (Nat×Obj)->Option β)->Option β
 |[],k=>k []
 |p::r,k=>X7b r λr=>k (p::r)
theorem X4u {β:Type}:∀ (G:List (Nat×Obj)) (k:List (Nat×Obj)->Option β),X7b G k=k G:=by
 intro G
 induction G with
 |nil=>intro k;rfl
 |cons p r ih=>intro k;simp[X7b,ih]
def Xer {β:Type}:List Prop->List Prop->(List Prop->Option β)->Option β
 |[],ps,k=>k ps
 |q::r,ps,k=>Xer r (q::ps) k
def Xvu:List Prop->List Prop->List Prop
 |[],ps=>ps
 |q::r,ps=>Xvu r (q::ps)
theorem X47 {β:Type}:∀ (qs ps:List Prop) (k:List Prop->Option β),Xer qs ps k=k (Xvu qs ps):=by
 intro qs
 induction qs with
 |nil=>intro ps k;rfl
 |cons q r ih=>intro ps k;simp[Xer,Xvu,ih]
theorem X2n:∀ {qs ps:List Prop},X0w (Xvu qs ps)->X0w qs/\X0w ps:=by
 intro qs
 induction qs with
 |nil=>intro ps h;exact⟨trivial,h⟩
 |cons q r ih=>intro ps h;obtain⟨h1,h2⟩:=ih h;exact⟨⟨h2.1,h1⟩,h2.2⟩
def Xku (bad:List Nat):List (Nat×AV)->List (Nat×AV)
 |[]=>[]
 |(d,a)::l=>bif X8v d bad then Xku bad l else (d,a)::Xku bad l
theorem X8i (bad:List Nat):∀ L,fr (Xku bad L)=frD bad (fr L):=by
 intro L;funext t
 induction L with
 |nil=>simp[Xku,fr,frD]
 |cons p l ih =>
  obtain⟨d,a⟩:=p;simp only[Xku]
  cases hb:X8v d bad with
  |true =>
   simp only[cond_true,ih,frD,fr]
   cases ht:X8v t bad with
   |true=>rfl
   |false =>
    have:Nat.beq t d=false:=by
     rw[<-Bool.not_eq_true,Nat.beq_eq];intro e;subst e;rw[hb] at ht;cases ht
    simp[this]
  |false =>
   simp only[cond_false,frD,fr]
   cases hq:Nat.beq t d with
   |true =>
    have:t=d:=Nat.eq_of_beq_eq_true hq;subst this;simp[hb]
   |false =>
    simp only[cond_false,ih,frD]
def Xqt (base mi:Nat) (hf:Nat->Bool) (es:List X06):List (Nat×Obj)->List (Nat×Obj)
 |[]=>[]
 |(o,x)::l=>bif X2g base mi hf es o then Xqt base mi hf es l else (o,x)::Xqt base mi hf es l
theorem Xi3 (base mi:Nat) (hf:Nat->Bool) (es:List X06):∀ G,hp (Xqt base mi hf es G)=hpD base mi hf es (hp G):=by
 intro G;funext q
 induction G with
 |nil=>simp[Xqt,hp,hpD]
 |cons p l ih =>
  obtain⟨o,x⟩:=p;simp only[Xqt]
  cases hb:X2g base mi hf es o with
  |true =>
   simp only[cond_true,ih,hpD,hp]
   cases ht:X2g base mi hf es q with
   |true=>rfl
   |false =>
    have:Nat.beq q o=false:=by
     rw[<-Bool.not_eq_true,Nat.beq_eq];intro e;subst e;rw[hb] at ht;cases ht
    simp[this]
  |false =>
   simp only[cond_false,hpD,hp]
   cases hq:Nat.beq q o with
   |true =>
    have:q=o:=Nat.eq_of_beq_eq_true hq;subst this;simp[hb]
   |false =>
    simp only[cond_false,ih,hpD]
def Xl1 (id:Nat) (G:List (Nat×Obj)):X06->List (Nat×Obj)
 |.none=>G
 |.new x=>(id,x)::G
 |.app old x=>(id,x)::Xij old G
 |.set o x=>(o,x)::Xij o G
def X9d:X06->Bool
 |.none=>true
 |.new x=>!x.gone
 |.app _ x=>!x.gone
 |.set _ x=>!x.gone
theorem Xc8 (id:Nat) (G:List (Nat×Obj)) (e:X06) (he:X9d e=true):hp (Xl1 id G e)=e.go id (hp G):=by
 cases e with
 |none=>rfl
 |new x=>rw[X06.go_new];exact X6x _ _ _ (by simpa[X9d] using he)
 |app old x=>rw[X06.go_app];simp only[Xl1,X6x _ _ _ (show x.gone=false by simpa[X9d] using he),Xc1]
 |set o x=>rw[X06.go_set];exact Xbx o x G (by simpa[X9d] using he)
abbrev DR:=Option (AV×X06×List X11×List Prop)
def Xxw (T:Ty) (L:List (Nat×AV)) (G:List (Nat×Obj)) (id:Nat) (op:Op) (hs:List X11):DR :=
 match op with
 |.call { callee:=.builtin .append,args:=⟨[s,x]⟩,argTypes:=⟨[t,t']⟩ }=>if t=t' then (match hs with
  |.go b::.ix g::hs=>match X0e T t with
   |some te=>match rd L (.tmp g) with
    |(.mref o' m,p0)=>match rd L s,rd L x with
     |(.ref o 0 n,p),(xb,q)=>if o'=o then (match hp G o with
      |some y=>if y.esz=te.size then (match Xvn (hp G) xb (p0++(p++q)) with
       |some (xs,ps)=>match b with
        |true=>some (.ref id 0 (n+xs.length),.new { es:=y.es++xs,esz:=te.size },hs,
          (m=n)::(y.es.length=n)::(xs≠[])::(n+xs.length<=maxLen)::((n+xs.length)*te.bytes<=140737488355328)::(∀ e∈xs,e.cells.length=te.size)::ps)
        |false=>match hs with
         |.via (.list _ es')::hs=>some (.ref o 0 (n+xs.length),.set o { y with es:=es' },hs,
          (y.es.take n++xs++y.es.drop (n+xs.length)=es')::(n+xs.length<=m)::(n<=y.es.length)::(xs≠[])::(∀ e∈xs,e.cells.length=te.size)::ps)
         |_=>none
       |none=>none) else none
      |none=>none) else none
     |_,_=>none
    |_=>none
   |none=>none
  |_=>none) else none
 |_=>none
theorem Xrf {P:Program} {T:Ty} {L:List (Nat×AV)} {G:List (Nat×Obj)} {id:Nat} {o:Oper} {hs hs':List X11} {ps:List Prop} {a:AV} {e:X06} (h:Xxw T L G id o.op hs=some (a,e,hs',ps)) (hp':X0w ps) :
  DOp P T (fr L) (hp G) id o a e:=by
 unfold Xxw at h;split at h
 ·rename_i ho;split at h
  ·rename_i htt;subst htt;split at h
   ·split at h
    ·rename_i hty;obtain⟨ti,et,h1,h2,h3⟩:=Xs hty;split at h
     ·rename_i hrg;split at h
      ·rename_i hrs hrx;split at h
       ·rename_i hoo;subst hoo;split at h
        ·rename_i hH;split at h
         ·rename_i hes;split at h
          ·rename_i hsrc;split at h
           ·cases h
            obtain⟨p1,p2,p3,p4,p5,p6,p7⟩:=hp';obtain⟨s1,s2⟩:=X17 hsrc p7;obtain⟨q0,q12⟩:=Xl.1 s2;obtain⟨q1,q2⟩:=Xl.1 q12;refine .new ?_ rfl rfl;rw[ho];exact .appendFull (Xp hrs q1) (by rw[Xp hrg q0,p1]) hH p2 hes (by rw[Xp hrx q2];exact s1) p3 h1 h2 h3 p6 p4 p5
           ·split at h
            ·cases h
             obtain⟨rfl,p1,p2,p3,p6,p7⟩:=hp';obtain⟨s1,s2⟩:=X17 hsrc p7;obtain⟨q0,q12⟩:=Xl.1 s2;obtain⟨q1,q2⟩:=Xl.1 q12;exact .room ho (Xp hrs q1) (Xp hrg q0) hH p2 p1 hes (by rw[Xp hrx q2];exact s1) p3 h1 h2 h3 p6
            ·cases h
          ·cases h
         ·cases h
        ·cases h
       ·cases h
      ·cases h
     ·cases h
    ·cases h
   ·cases h
  ·cases h
 ·cases h
def Xro (P:Program) (f:Nat) (V:Xh) (as:List AV) (r:AV) (q:Nat) (y':Obj):Prop :=
 ∃ v y len bs,r=.sc v/\as=.ref q 0 len::bs/\V q=some y/\(∀ a∈bs,∀ M,a.Ok M)/\(∀ e∈y.es,∀ a∈e.cells,∀ M,a.Ok M)/\(∀ e∈y'.es,∀ a∈e.cells,∀ M,a.Ok M) /\
  HC P f (.ref 0 0 len::bs) (λp=>bif Nat.beq p 0 then some y else none) 1 (λr H' _=>r=.sc v/\H' 0=some y')/\y'.solo=true/\y'.spent=false
def Xvz (P:Program) (T:Ty) (L:List (Nat×AV)) (G:List (Nat×Obj)) (id:Nat) (o:Oper) (hs:List X11):DR :=
 match o.op with
 |.store t p x=>match o.dst with
  |none=>match stO T L G t p x hs with
   |some (q,z,hs,ps)=>some (.sc undef,.set q z,hs,ps)
   |none=>none
  |some _=>none
 |.call { callee:=.value x,args:=args,argTypes:=_ }=>match hs with
  |.pure bs r::hs=>match rd L x with
   |(.fn f [],p)=>match rds L args.toList with
    |(as,q)=>match AV.okB (λ_=>false) r with
     |true=>some (r,.none,hs,X2c P f (hp G) as bs r::(p++q))
     |false=>none
   |(.fn f (u::us),p)=>match rds L args.toList with
    |(as,q)=>match AV.okB (λ_=>false) r with
     |true=>some (r,.none,hs,X2c P f (hp G) (as++(u::us)) bs r::(p++q))
     |false=>none
   |_=>none
  |.call r ((w,y')::_) _::hs=>match rd L x with
   |(.fn f caps,p)=>match rds L args.toList,r with
    |(as,q),.sc v=>some (.sc v,.set w y',hs,Xro P f (hp G) (as++caps) (.sc v) w y'::(p++q))
    |_,_=>none
   |_=>none
  |_=>none
 |op=>match puS T L (hp G) op hs with
  |some (a,hs,ps)=>some (a,.none,hs,ps)
  |none=>match Xxw T L G id op hs with
   |some r=>some r
   |none=>match mkS T L (hp G) id op hs with
    |some (a,.none,hs,ps)=>some (a,.none,hs,ps)
    |some (a,.new x,hs,ps)=>some (a,.new x,hs,ps)
    |some (a,.app old x,hs,ps)=>some (a,.app old x,hs,ps)
    |none=>none
theorem Xie {P:Program} {T:Ty} {L:List (Nat×AV)} {G:List (Nat×Obj)} {id:Nat} {o:Oper} {hs hs':List X11} {ps:List Prop} {a:AV} {e:X06} (h:Xvz P T L G id o hs=some (a,e,hs',ps)) (hp':X0w ps) :
  DOp P T (fr L) (hp G) id o a e:=by
 unfold Xvz at h;split at h
 ·rename_i ho;split at h
  ·rename_i hd;split at h
   ·rename_i hst;cases h
    obtain⟨i,k,y,e,ti,h1,h2,h3,h4,h5,h6,h7,h8,h9,rfl⟩:=Xo2 hst hp';exact .store ho hd h1 h2 h4 h5 h6 h7 h8 h9
   ·cases h
  ·cases h
 ·rename_i ho;split at h
  ·split at h
   ·rename_i hx;split at h
    rename_i hargs;split at h
    ·rename_i hok;cases h
     obtain⟨⟨p1,Hr,p2,p3,p4⟩,q⟩:=hp';obtain⟨q1,q2⟩:=Xl.1 q;rw[<-X84 hargs q2] at p2;refine .pure ho (Xp hx q1) (by rw[List.append_nil];exact p2) p1 p3 (p4.imp (λh=>h) λhn=>⟨hn,λM=>?_⟩);exact(X9g _ _ hok).mono λo ho=>by cases ho
    ·cases h
   ·rename_i hx;split at h
    rename_i hargs;split at h
    ·rename_i hok;cases h
     obtain⟨⟨p1,Hr,p2,p3,p4⟩,q⟩:=hp';obtain⟨q1,q2⟩:=Xl.1 q;rw[<-X84 hargs q2] at p2;refine .pure ho (Xp hx q1) p2 p1 p3 (p4.imp (λh=>h) λhn=>⟨hn,λM=>?_⟩);exact(X9g _ _ hok).mono λo ho=>by cases ho
    ·cases h
   ·cases h
  ·split at h
   ·rename_i hx;split at h
    ·rename_i hargs;cases h
     obtain⟨⟨v,y,len,bs,k1,k2,k3,k4,k5,k6,k7,k8,k9⟩,q⟩:=hp';obtain⟨q1,q2⟩:=Xl.1 q;rw[<-X84 hargs q2] at k2;cases k1
     exact .callSet ho (Xp hx q1) k3 k2 k4 k5 k6 k7 k8 k9
    ·cases h
   ·cases h
  ·cases h
 ·split at h
  ·rename_i hpu;cases h
   exact .pu (Xo7 hpu hp')
  ·split at h
   ·rename_i hca;cases h;exact Xrf hca hp'
   ·split at h
    ·rename_i hm;cases h;exact .zero (Xch hm hp').1
    ·rename_i hm;cases h;obtain⟨h1,h2⟩:=Xch hm hp';have:=h2 0 _ (.inr rfl);exact .new h1 this.1 this.2
    ·rename_i hm;cases h;obtain⟨h1,h2⟩:=Xch hm hp';have:=h2 _ _ (.inl rfl);exact .app h1 this.1 this.2
    ·cases h
def Xvs (want:Bool) (a:AV):Option (Bool×List Prop) :=
 match a with
 |.sc (.bool b)=>match want with
  |true=>some (b,[])
  |false=>some (!b,[])
 |.cond g (.sc (.bool b))=>match want with
  |true=>some (b,[g=true])
  |false=>some (!b,[g=true])
 |_=>none
theorem Xfo {want g:Bool} {a:AV} {qs:List Prop} (h:Xvs want a=some (g,qs)) (hq:X0w qs):∃ b,X0q a=.sc (.bool b)/\g=(b==want):=by
 unfold Xvs at h;split at h
 ·rename_i b;refine⟨b,rfl,?_⟩;cases b<;>(split at h<;>(cases h;rfl))
 ·rename_i q b;split at h
  ·cases h;obtain⟨rfl,_⟩:=hq;exact⟨g,rfl,by cases g<;>rfl⟩
  ·cases h;obtain⟨rfl,_⟩:=hq;exact⟨b,rfl,by cases b<;>rfl⟩
 ·cases h
def tb (m k:Nat):Bool:=Nat.beq (Nat.land (Nat.shiftRight m k) 1) 1
theorem Xl4 (m k:Nat):tb m k=Nat.testBit m k:=by
 rw[Nat.testBit_eq_decide_div_mod_eq];show Nat.beq ((m >>> k) &&& 1) 1=_;rw[Nat.and_one_is_mod,Nat.shiftRight_eq_div_pow];by_cases h:m / 2 ^ k % 2=1
 ·rw[h];simp
 ·rw[decide_eq_false h,<-Bool.not_eq_true,Nat.beq_eq];exact h
def X4s {α γ:Type}:List α->(List α->γ)->γ
 |[],k=>k []
 |a::r,k=>X4s r λr=>k (a::r)
theorem X9n {α γ:Type}:∀ (l:List α) (k:List α->γ),X4s l k=k l:=by
 intro l
 induction l with
 |nil=>intro k;rfl
 |cons a r ih=>intro k;simp only[X4s,ih]
def Xbz {γ:Type} (e:X06) (k:X06->γ):γ :=
 match e with
 |.none=>k .none
 |.new x=>k (.new x)
 |.app o x=>k (.app o x)
 |.set o x=>k (.set o x)
theorem Xdu {γ:Type} (e:X06) (k:X06->γ):Xbz e k=k e:=by cases e<;>rfl
def Xn2 (i mi:Nat):Nat->List Oper->List Nat->List Nat
 |k,o::r,m::ms =>
  match o.dst with
  |none=>Xn2 i mi (k+1) r ms
  |some d=>bif Nat.beq k i then Xn2 i mi (k+1) r ms else bif Nat.blt k i then (bif tb mi k then Xn2 i mi (k+1) r ms else d::Xn2 i mi (k+1) r ms) else (bif tb m i then Xn2 i mi (k+1) r ms else d::Xn2 i mi (k+1) r ms)
 |_,_,_=>[]
theorem Xrj (i mi:Nat):∀ (l:List Oper) (k:Nat) (ms:List Nat),Xn2 i mi k l ms=X12 i mi k l ms:=by
 intro l
 induction l with
 |nil=>intro k ms;rfl
 |cons o r ih =>
  intro k ms
  cases ms with
  |nil=>rfl
  |cons m ms=>simp only[Xn2,X12,ih,Xl4];cases o.dst<;>rfl
def Xb1 (base mi o:Nat):Nat->List X06->Bool
 |k,e::es=>bif X8v o (e.objs (base+k)) then (bif tb mi k then Xb1 base mi o (k+1) es else true) else Xb1 base mi o (k+1) es
 |_,[]=>false
theorem Xhu (base mi o:Nat):∀ (es:List X06) (k:Nat),Xb1 base mi o k es=X54 base mi o k es:=by
 intro es
 induction es with
 |nil=>intro k;rfl
 |cons e es ih =>
  intro k;simp only[Xb1,X54,ih,Xl4];cases X8v o (e.objs (base+k))<;>cases Nat.testBit mi k<;>rfl
def Xum (base mi:Nat) (hf:Nat->Bool) (es:List X06) (o:Nat):Bool :=
 bif hf o then true else bif (bif Nat.ble base o then !tb mi (o - base) else false) then true else Xb1 base mi o 0 es
theorem Xhv (base mi:Nat) (hf:Nat->Bool) (es:List X06) (o:Nat):Xum base mi hf es o=X2g base mi hf es o:=by
 unfold Xum X2g;rw[Xhu,Xl4];cases hf o<;>cases Nat.ble base o<;>cases Nat.testBit mi (o - base)<;>rfl
def Xdy (base mi:Nat) (hf:Nat->Bool) (es:List X06):List (Nat×Obj)->List (Nat×Obj)
 |[]=>[]
 |(o,x)::r=>bif Xum base mi hf es o then Xdy base mi hf es r else (o,x)::Xdy base mi hf es r
def Xaj (base mk:Nat) (os:List Nat):Nat->List (Nat×(Nat->Bool))->List X06->List X06->Bool
 |i,(mi,hf)::ms,pre,e::es =>
  bif (bif tb mk i then true else os.all (λo=>bif Xum base mi hf pre o then !X8v o (e.objs (base+i)) else false)) then X4s (pre++[e]) λpre=>Xaj base mk os (i+1) ms pre es else false
 |_,_,_,_=>true
theorem Xmp (base mi:Nat) (hf:Nat->Bool) (es:List X06):∀ G,Xdy base mi hf es G=Xqt base mi hf es G:=by
 intro G
 induction G with
 |nil=>rfl
 |cons p r ih=>obtain⟨o,x⟩:=p;simp only[Xdy,Xqt,Xhv,ih]
theorem Xf1 (base mk:Nat) (os:List Nat):∀ (es:List X06) (i:Nat) (ms:List (Nat×(Nat->Bool))) (pre:List X06),Xaj base mk os i ms pre es=X0z base mk os i ms pre es:=by
 intro es
 induction es with
 |nil=>intro i ms pre;cases ms<;>rfl
 |cons e es ih =>
  intro i ms pre
  cases ms with
  |nil=>rfl
  |cons m ms =>
   obtain⟨mi,hf⟩:=m;simp only[Xaj,X0z,X9n,ih,Xl4];have:(os.all λo=>bif Xum base mi hf pre o then !X8v o (e.objs (base+i)) else false)=os.all λo=>X2g base mi hf pre o&&!X8v o (e.objs (base+i)):=by
    congr 1;funext o;rw[Xhv];cases X2g base mi hf pre o<;>rfl
   rw[this];cases Nat.testBit mk i<;>cases(os.all λo=>X2g base mi hf pre o&&!X8v o (e.objs (base+i)))<;>simp
def Xb2 {β:Type} (n:Nat) (k:Nat->Option β):Option β :=
 match n with
 |0=>k 0
 |m+1=>k (m+1)
theorem X6g {β:Type} (n:Nat) (k:Nat->Option β):Xb2 n k=k n:=by cases n<;>rfl
def X8e {β:Type}:List Nat->(List Nat->Option β)->Option β
 |[],k=>k []
 |a::r,k=>Xb2 a λa=>X8e r λr=>k (a::r)
theorem X9o {β:Type}:∀ (l:List Nat) (k:List Nat->Option β),X8e l k=k l:=by
 intro l
 induction l with
 |nil=>intro k;rfl
 |cons a r ih=>intro k;simp only[X8e,X6g,ih]
def Xci {β:Type}:List Nat->List Oper->(List Nat->Option β)->Option β
 |done,[],k=>k done
 |done,o::r,k=>Xb2 ((X3s o).foldl (λm j=>m |||2 ^ j |||done.getD j 0) 0) λm=>X8e (done++[m]) λdone=>Xci done r k
theorem Xhe {β:Type}:∀ (l:List Oper) (done:List Nat) (k:List Nat->Option β),Xci done l k=k (X5n done l):=by
 intro l
 induction l with
 |nil=>intro done k;rfl
 |cons o r ih=>intro done k;simp only[Xci,X6g,X9o,ih,X5n]
def X93 (hz:Oper->Nat->Bool) (P:Program) (T:Ty) (nt base:Nat) (ops:Array Oper) (ms:List Nat) (zs:List (Nat×(Nat->Bool))):Nat->List Oper->List (Nat×AV)->List (Nat×Obj)->List X06->List X11->List Prop->Option (List (Nat×AV)×List (Nat×Obj)×List X11×List Prop)
 |_,[],L,G,_,hs,ps=>some (L,G,hs,ps)
 |i,o::l,L,G,es,hs,ps=>Xb2 (ms.getD i 0) λmi=>X8e (Xn2 i mi 0 ops.toList ms) λbad =>
  if X22 nt bad o.dst=true then (match o.guard with
   |none=>match Xvz P T (Xku bad L) (Xdy base mi (hz o) es G) (base+i) o hs with
    |some (a,e,hs',qs)=>Xbz e λe=>if (X9d e&&Xaj base mi (e.objs (base+i)) 0 (zs.take i) [] es)=true then
      X4v a λa=>Xlw o.dst a L λL=>X7b (Xl1 (base+i) G e) λG=>Xer qs ps λps=>X4s (es++[e]) λes=>X93 hz P T nt base ops ms zs (i+1) l L G es hs' ps else none
    |none=>none
   |some (j,want)=>match (ops[j]?).bind (·.dst) with
    |some t=>if Nat.blt t nt=true then (match hs with
     |.go true::hs=>match Xvs want (fr (Xku bad L) t) with
      |some (g,rs)=>match Xvz P T (Xku bad L) (Xdy base mi (hz o) es G) (base+i) o hs with
       |some (a,e,hs',qs)=>Xbz e λe=>if (X9d e&&Xaj base mi (e.objs (base+i)) 0 (zs.take i) [] es)=true then
         X4v a λa=>Xlw o.dst a L λL=>X7b (Xl1 (base+i) G e) λG=>Xer rs ps λps=>Xer qs ((g=true)::ps) λps=>X4s (es++[e]) λes=>X93 hz P T nt base ops ms zs (i+1) l L G es hs' ps else none
       |none=>none
      |none=>none
     |.go false::hs=>match Xvs want (fr (Xku bad L) t) with
      |some (g,rs)=>Xlw o.dst (.sc undef) L λL=>Xer rs ps λps=>X4s (es++[.none]) λes=>X93 hz P T nt base ops ms zs (i+1) l L G es hs ((g=false)::ps)
      |none=>none
     |.no::hs=>match fr (Xku bad L) t with
      |.sc v=>match X34 want v with
       |false=>Xlw o.dst (.sc undef) L λL=>X4s (es++[.none]) λes=>X93 hz P T nt base ops ms zs (i+1) l L G es hs ps
       |true=>none
      |_=>none
     |_=>none) else none
    |none=>none) else none
theorem Xcv {hz:Oper->Nat->Bool} {P:Program} {T:Ty} {nt base:Nat} {ops:Array Oper} {ms:List Nat}:∀ (l:List Oper) (i:Nat) (L:List (Nat×AV)) (G:List (Nat×Obj)) (es:List X06) (hs:List X11) (ps:List Prop) (L':List (Nat×AV)) (G':List (Nat×Obj)) (hs':List X11) (ps':List Prop),
  X93 hz P T nt base ops ms (ms.zip (ops.toList.map hz)) i l L G es hs ps=some (L',G',hs',ps')->X0w ps'->X0w ps/\Xd5 hz P T nt base ops ms i l (fr L) (hp G) es (fr L') (hp G'):=by
 intro l
 induction l with
 |nil=>intro i L G es hs ps L' G' hs' ps' h hp';simp only[X93] at h;cases h;exact⟨hp',.nil⟩
 |cons o l ih =>
  intro i L G es hs ps L' G' hs' ps' h hp';simp only[X93,X6g,X9o,Xrj,Xmp,Xf1,X9n,Xdu] at h;split at h
  ·rename_i hd;split at h
   ·rename_i hg;split at h
    ·rename_i a e _ qs hop;split at h
     ·rename_i hw;obtain⟨he,hw⟩:=Bool.and_eq_true_iff.1 hw;rw[X1y,X4r,X4u,X47] at h;obtain⟨h1,h2⟩:=ih _ _ _ _ _ _ _ _ _ _ h hp';obtain⟨p1,p2⟩:=X2n h1;have hop':=Xie hop p1;rw[X8i,Xi3] at hop';rw[X0u,Xc8 _ _ _ he] at h2;exact⟨p2,.op hg hd hop' hw h2⟩
     ·cases h
    ·cases h
   ·rename_i j want hg;split at h
    ·rename_i hj;split at h
     ·rename_i ht;split at h
      ·split at h
       ·rename_i hr;split at h
        ·rename_i hop;split at h
         ·rename_i hw;obtain⟨he,hw⟩:=Bool.and_eq_true_iff.1 hw;rw[X1y,X4r,X4u,X47,X47] at h;obtain⟨h1,h2⟩:=ih _ _ _ _ _ _ _ _ _ _ h hp';obtain⟨p1,p0,p2⟩:=X2n h1;obtain⟨p3,p4⟩:=X2n p2;have hop':=Xie hop p1;rw[X8i,Xi3] at hop';rw[X0u,Xc8 _ _ _ he] at h2;obtain⟨b,hb1,hb2⟩:=Xfo hr p3;rw[X8i] at hb1;have:b=want:=by rw[p0] at hb2;simpa using hb2.symm
          subst this;exact⟨p4,.run hg hd hj ht hb1 hop' hw h2⟩
         ·cases h
        ·cases h
       ·cases h
      ·split at h
       ·rename_i hr;rw[X4r,X47] at h;obtain⟨h1,h2⟩:=ih _ _ _ _ _ _ _ _ _ _ h hp';obtain⟨p0,p2⟩:=h1;obtain⟨p3,p4⟩:=X2n p2;rw[X0u] at h2;obtain⟨b,hb1,hb2⟩:=Xfo hr p3;rw[X8i] at hb1;exact⟨p4,.skip hg hd hj ht hb1 (by rw[p0] at hb2;exact hb2.symm) h2⟩
       ·cases h
      ·split at h
       ·rename_i hr;split at h
        ·rename_i hb;rw[X4r] at h;obtain⟨h1,h2⟩:=ih _ _ _ _ _ _ _ _ _ _ h hp';rw[X0u] at h2;rw[X8i] at hr;exact⟨h1,.skip hg hd hj ht (by rw[hr];rfl) hb h2⟩
        ·cases h
       ·cases h
      ·cases h
     ·cases h
    ·cases h
  ·cases h
def Xw0 {β:Type}:List Oper->Nat->(Nat->Option β)->Option β
 |[],n,k=>k n
 |_::r,n,k=>Xb2 (n+1) λn=>Xw0 r n k
theorem Xrc {β:Type}:∀ (l:List Oper) (n:Nat) (k:Nat->Option β),Xw0 l n k=k (n+l.length):=by
 intro l
 induction l with
 |nil=>intro n k;rfl
 |cons a r ih=>intro n k;simp only[Xw0,X6g,ih,List.length_cons];congr 1;omega
abbrev RR:=Option (Cf×List Kn×List (Nat×AV)×List (Nat×Obj)×Nat×List X11×List Prop)
def X95 (nt n0:Nat) (s s':St):Prop:=∀ (c0:Ctx) (H0:Xh) (c:Ctx) (act:Act) (μ:Mu),X0b nt c0 H0 n0 c s act->MOk n0 c0 H0 c s.H μ act->X0b nt c0 H0 n0 c s' act/\MOk n0 c0 H0 c s'.H μ act
theorem X95.loop {P:Program} {nt n0:Nat} {s s':St} (hw:X95 nt n0 s s') {b:Code} {Q:Xc->St->Mu->Prop} {μ:Mu} (h:X1s P nt n0 b Q s' μ):X1s P nt n0 b Q s μ:=by
 intro c0 H0 c act g hm;obtain⟨g',hm'⟩:=hw c0 H0 c act μ g hm;exact h c0 H0 c act g' hm'
theorem X95.semM {P:Program} {nt n0:Nat} {s s':St} (hw:X95 nt n0 s s') {c:Code} {Q:Xc->St->Mu->Prop} {μ:Mu} (h:X0c P nt n0 c Q s' μ):X0c P nt n0 c Q s μ:=by
 intro c0 H0 c act g hm;obtain⟨g',hm'⟩:=hw c0 H0 c act μ g hm;exact h c0 H0 c act g' hm'
theorem X5x.sub {P:Program} {nt n0:Nat} {Q:Xc->St->Mu->Prop} {μ:Mu} {s s':St} (hw:X95 nt n0 s s'):∀ (K:List Kn) (e:Xc),X5x P nt n0 Q K e s' μ->X5x P nt n0 Q K e s μ:=by
 intro K
 induction K with
 |nil =>
  intro e h c0 H0 c act g hm;obtain⟨g',hm'⟩:=hw c0 H0 c act μ g hm;exact h c0 H0 c act g' hm'
 |cons k K ih =>
  intro e h
  cases k with
  |seq c =>
   cases e with
   |normal=>exact hw.semM h
   |exit i=>exact ih _ h
   |ret=>exact ih _ h
  |block id =>
   cases e with
   |normal=>exact ih _ h
   |ret=>exact ih _ h
   |exit i =>
    have h':X2m id (X5x P nt n0 Q K) (.exit i) s' μ:=h;show X2m id (X5x P nt n0 Q K) (.exit i) s μ;simp only[X2m] at h' ⊢
    cases hb:Nat.beq i id with
    |true=>rw[hb,cond_true] at h';exact ih _ h'
    |false=>rw[hb,cond_false] at h';exact ih _ h'
  |loop b =>
   cases e with
   |normal=>exact hw.loop h
   |exit i=>exact ih _ h
   |ret=>exact ih _ h
theorem Xd.sub {P:Program} {nt n0:Nat} {Q:Xc->St->Mu->Prop} {cf:Cf} {K:List Kn} {μ:Mu} {s s':St} (hw:X95 nt n0 s s') (h:Xd P nt n0 Q cf K s' μ):Xd P nt n0 Q cf K s μ:=by
 cases cf with
 |code c=>exact hw.semM h
 |exit e=>exact X5x.sub hw K e h
 |ops ops l =>
  intro c0 H0 c act g hm;obtain⟨g',hm'⟩:=hw c0 H0 c act μ g hm;exact h c0 H0 c act g' hm'
 |loop b=>exact hw.loop h
theorem X0b.trunc {nt n0 n:Nat} {c0 c:Ctx} {H0 H:Xh} {A:Nat->AV} {act:Act} (g:X0b nt c0 H0 n0 c ⟨A,H,n⟩ act) {o:Nat} {y:Obj} (hy:H o=some y) (m:Nat) :
  X0b nt c0 H0 n0 c ⟨A,upd H o (some { y with es:=y.es.take m }),n⟩ act:=by
 have hM:∀ q z,upd H o (some { y with es:=y.es.take m }) q=some z->∃ z',H q=some z'/\(∃ m,z.es=z'.es.take m)/\z.esz=z'.esz/\z.solo=z'.solo/\z.spent=z'.spent:=by
  intro q z hz;by_cases hq:q=o
  ·subst hq;rw[X7] at hz;cases hz;exact⟨y,hy,⟨m,rfl⟩,rfl,rfl,rfl⟩
  ·rw[X5 _ _ hq] at hz;exact⟨z,hz,⟨z.es.length,by simp⟩,rfl,rfl,rfl⟩
 have hsolo:∀ q z,upd H o (some { y with es:=y.es.take m }) q=some z->z.solo=true/\z.spent=false:=by
  intro q z hz;obtain⟨z',hz',_,_,h1,h2⟩:=hM q z hz;rw[h1,h2];exact g.solo q z' hz'
 refine⟨⟨?_,?_,?_,g.inv.lt,g.inv.base,g.inv.own,?_,g.inv.glob⟩,hsolo,g.frame,g.ok,g.size,⟨g.reach.rho,g.reach.os,g.reach.tape,g.reach.output,g.reach.size,g.reach.block,g.reach.stable,g.reach.sa,g.reach.so1,g.reach.so2,g.reach.B,?_⟩,g.le0⟩
 ·intro q z hz;obtain⟨z',hz',⟨k,hk⟩,h1,_⟩:=hM q z hz;obtain⟨g1,⟨⟨cur,hb,hs,hc⟩,hf,hp,hse⟩,g3⟩:=g.inv.obj q z' hz';refine⟨g1,⟨⟨cur,hb,hs,λi e he=>?_⟩,?_,hp,by rw[h1];exact hse⟩,λe he=>?_⟩
  ·rw[hk,List.getElem?_take] at he;split at he
   ·exact hc i e he
   ·cases he
  ·rw[hk,List.length_take];omega
  ·rw[hk] at he;exact g3 e (List.mem_of_mem_take he)
 ·intro q q' z z' hz hz' hne hb;obtain⟨x,hx,_,_,h1,_⟩:=hM q z hz;obtain⟨x',hx',_⟩:=hM q' z' hz';have:=(g.inv.sep q q' x x' hx hx' hne hb).1;rw[(g.solo q x hx).1] at this;cases this
 ·intro q z hz;obtain⟨z',hz',_⟩:=hM q z hz;exact g.inv.stab q z' hz'
 ·intro q z hz;obtain⟨z',hz',_⟩:=hM q z hz;exact g.inv.low q z' hz'
 ·intro q z hz;obtain⟨z',hz',_⟩:=hM q z hz;exact g.reach.own q z' hz'
theorem X95.trunc {nt n0 n:Nat} {H:Xh} {A:Nat->AV} {o:Nat} {y:Obj} (hy:H o=some y) (m:Nat):X95 nt n0 ⟨A,H,n⟩ ⟨A,upd H o (some { y with es:=y.es.take m }),n⟩:=by
 intro c0 H0 c act μ g hm;refine⟨g.trunc hy m,hm.is,λp hp=>?_,hm.nodup,hm.ds⟩;obtain⟨a1,a2,a3,a4⟩:=hm.away p hp;refine⟨a1,a2,λq z hz=>?_,a4⟩;have hz':upd H o (some { y with es:=y.es.take m }) q=some z:=hz;by_cases hq:q=o
 ·subst hq;exact a3 q y hy
 ·rw[X5 _ _ hq] at hz';exact a3 q z hz'
def Xo1 (id:Nat):List X11->Bool
 |.stop j::_=>Nat.beq j id
 |_=>false
def Xyc (d:Nat):List (Nat×List Nat)->Option (List Nat)
 |[]=>none
 |(k,l)::r=>bif Nat.beq d k then some l else Xyc d r
def hzL (l:List (Nat×List Nat)) (o:Oper) (q:Nat):Bool :=
 X7s o.op||(match o.dst with
  |some d=>match Xyc d l with
   |some ids=>!X8v q ids
   |none=>false
  |none=>false)
def Xya:List X11->Oper->Nat->Bool
 |.see l::_=>hzL l
 |_=>hz0
def seeR:List X11->List X11
 |.see _::hs=>hs
 |hs=>hs
def X3r (P:Program) (T:Ty) (nt:Nat):Nat->Cf->List Kn->List (Nat×AV)->List (Nat×Obj)->Nat->List X11->List Prop->RR
  |0,cf,K,L,G,n,hs,ps=>some (cf,K,L,G,n,hs,ps)
  |f+1,cf,K,L,G,n,hs,ps=>match cf with
    |.code c=>match c with
      |.skip=>X3r P T nt f (.exit .normal) K L G n hs ps
      |.label _=>X3r P T nt f (.exit .normal) K L G n hs ps
      |.exit id=>X3r P T nt f (.exit (.exit id)) K L G n hs ps
      |.ret=>X3r P T nt f (.exit .ret) K L G n hs ps
      |.seq a b=>X3r P T nt f (.code a) (.seq b::K) L G n hs ps
      |.block id c=>X3r P T nt f (.code c) (.block id::K) L G n hs ps
      |.scope c=>X3r P T nt f (.code c) K L G n hs ps
      |.region id ops false=>match hs with
        |.stop j::hs=>match Nat.beq j id with
          |true=>some (.code (.region id ops false),K,L,G,n,hs,ps)
          |false=>X3r P T nt f (.ops ops ops.toList) K L G n (.stop j::hs) ps
        |hs=>X3r P T nt f (.ops ops ops.toList) K L G n hs ps
      |.region id ops true=>match Xo1 id hs with
       |true=>some (.code (.region id ops true),K,L,G,n,hs.tail,ps)
       |false=>match X2f 0 ops.toList with
        |true=>Xci [] ops.toList λms=>match X93 (Xya hs) P T nt n ops ms (ms.zip (ops.toList.map (Xya hs))) 0 ops.toList L G [] (seeR hs) ps with
          |some (L,G,hs,ps)=>X7b G λG=>Xw0 ops.toList n λn=>X3r P T nt f (.exit .normal) K L G n hs ps
          |none=>none
        |false=>none
      |.loop b=>some (.loop b,K,L,G,n,hs,ps)
      |.cond x a b=>match hs with
        |.br true::hs=>match rd L x with
          |(.sc (.bool t),qs)=>Xer qs ((t=true)::ps) λps=>X3r P T nt f (.code a) K L G n hs ps
          |_=>none
        |.br false::hs=>match rd L x with
          |(.sc (.bool t),qs)=>Xer qs ((t=false)::ps) λps=>X3r P T nt f (.code b) K L G n hs ps
          |_=>none
        |hs=>some (.code (.cond x a b),K,L,G,n,hs,ps)
      |c=>some (.code c,K,L,G,n,hs,ps)
    |.exit e=>match K with
      |[]=>some (.exit e,[],L,G,n,hs,ps)
      |.seq c::K=>match e with
        |.normal=>X3r P T nt f (.code c) K L G n hs ps
        |e=>X3r P T nt f (.exit e) K L G n hs ps
      |.block id::K=>match e with
        |.exit i=>match Nat.beq i id with
          |true=>X3r P T nt f (.exit .normal) K L G n hs ps
          |false=>X3r P T nt f (.exit (.exit i)) K L G n hs ps
        |e=>X3r P T nt f (.exit e) K L G n hs ps
      |.loop b::K=>match e with
        |.normal=>some (.loop b,K,L,G,n,hs,ps)
        |e=>X3r P T nt f (.exit e) K L G n hs ps
    |.loop b=>some (.loop b,K,L,G,n,hs,ps)
    |.ops ops l=>match l with
      |[]=>X3r P T nt f (.exit .normal) K L G n hs ps
      |o::l=>match hs with
       |.trunc q es::hs=>match hp G q with
        |some y=>X3r P T nt f (.ops ops (o::l)) K L ((q,{ y with es:=es })::Xij q G) n hs ((∃ m,es=y.es.take m)::ps)
        |none=>none
       |hs=>if X3n nt o.dst=true then (match o.guard with
        |none=>match opS P T L G n o.op hs with
          |some (a,G',n',hs',qs)=>X4v a λa=>Xlw o.dst a L λL=>X7b G' λG=>Xer qs ps λps=>X3r P T nt f (.ops ops l) K L G n' hs' ps
          |none=>some (.ops ops (o::l),K,L,G,n,hs,ps)
        |some (j,want)=>match (ops[j]?).bind (·.dst) with
          |some t=>if Nat.blt t nt=true then (match gdS want (fr L t) with
            |some g=>match Xo1 999999 hs with
             |true=>some (.ops ops (o::l),K,L,G,n,hs.tail,ps)
             |false=>match hs with
              |.go true::hs=>match opS P T L G n o.op hs with
                |some (a,G',n',hs',qs)=>X4v a λa=>Xlw o.dst a L λL=>X7b G' λG=>Xer qs ((g=true)::ps) λps=>X3r P T nt f (.ops ops l) K L G n' hs' ps
                |none=>none
              |.go false::hs=>Xlw o.dst (.cond false (.sc (.bool false))) L λL=>X3r P T nt f (.ops ops l) K L G n hs ((g=false)::ps)
              |hs=>match quS P T L G o.op hs with
                |some (a,hs',qs)=>match AV.okB (λo=>Nat.blt o n) a with
                  |true=>X4v a λa=>Xlw o.dst (.cond g a) L λL=>Xer (Xal g qs) ps λps=>X3r P T nt f (.ops ops l) K L G n hs' ps
                  |false=>none
                |none=>some (.ops ops (o::l),K,L,G,n,hs,ps)
            |none=>none) else none
          |none=>none) else none
theorem Xpp {P:Program} {T:Ty} {nt n0:Nat} {μ:Mu} {Q:Xc->St->Mu->Prop} (hT:X1h P T) (hm:P.follows .mixedOrders=true):∀ (f:Nat) (cf:Cf) (K:List Kn) (L:List (Nat×AV)) (G:List (Nat×Obj)) (n:Nat) (hs:List X11) (ps:List Prop) (cf':Cf) (K':List Kn) (L':List (Nat×AV)) (G':List (Nat×Obj)) (n':Nat) (hs':List X11) (ps':List Prop),
  X3r P T nt f cf K L G n hs ps=some (cf',K',L',G',n',hs',ps')->X0w ps'->X0w ps/\(Xd P nt n0 Q cf' K' (SSt L' G' n') μ->Xd P nt n0 Q cf K (SSt L G n) μ):=by
 intro f
 induction f with
 |zero=>intro cf K L G n hs ps cf' K' L' G' n' hs' ps' h hp;simp only[X3r] at h;cases h;exact⟨hp,λh=>h⟩
 |succ f ih =>
  intro cf K L G n hs ps cf' K' L' G' n' hs' ps' h hp;have stop:some (cf,K,L,G,n,hs,ps)=some (cf',K',L',G',n',hs',ps')->X0w ps/\(Xd P nt n0 Q cf' K' (SSt L' G' n') μ->Xd P nt n0 Q cf K (SSt L G n) μ):=by
   intro h;cases h;exact⟨hp,λh=>h⟩
  cases cf with
  |code c =>
   cases c with
   |skip=>obtain⟨h1,h2⟩:=ih _ _ _ _ _ _ _ _ _ _ _ _ _ _ h hp;exact⟨h1,λk=>X0c.skip (h2 k)⟩
   |label=>obtain⟨h1,h2⟩:=ih _ _ _ _ _ _ _ _ _ _ _ _ _ _ h hp;exact⟨h1,λk=>X0c.label (h2 k)⟩
   |exit=>obtain⟨h1,h2⟩:=ih _ _ _ _ _ _ _ _ _ _ _ _ _ _ h hp;exact⟨h1,λk=>X0c.exit (h2 k)⟩
   |ret=>obtain⟨h1,h2⟩:=ih _ _ _ _ _ _ _ _ _ _ _ _ _ _ h hp;exact⟨h1,λk=>X0c.ret (h2 k)⟩
   |seq=>obtain⟨h1,h2⟩:=ih _ _ _ _ _ _ _ _ _ _ _ _ _ _ h hp;exact⟨h1,λk=>X0c.seq (h2 k)⟩
   |block=>obtain⟨h1,h2⟩:=ih _ _ _ _ _ _ _ _ _ _ _ _ _ _ h hp;exact⟨h1,λk=>X0c.block (h2 k)⟩
   |scope=>obtain⟨h1,h2⟩:=ih _ _ _ _ _ _ _ _ _ _ _ _ _ _ h hp;exact⟨h1,λk=>X0c.scope (h2 k)⟩
   |region id ops d =>
    cases d with
    |false =>
     simp only[X3r] at h;split at h
     ·split at h
      ·cases h;exact⟨hp,λk=>k⟩
      ·obtain⟨h1,h2⟩:=ih _ _ _ _ _ _ _ _ _ _ _ _ _ _ h hp;exact⟨h1,λk=>X0c.region (h2 k)⟩
     ·obtain⟨h1,h2⟩:=ih _ _ _ _ _ _ _ _ _ _ _ _ _ _ h hp;exact⟨h1,λk=>X0c.region (h2 k)⟩
    |true =>
     simp only[X3r] at h;split at h
     ·cases h;exact⟨hp,λk=>k⟩
     split at h
     ·rename_i hpre;rw[Xhe] at h;split at h
      ·rename_i hd;rw[X4u,Xrc] at h;obtain⟨h1,h2⟩:=ih _ _ _ _ _ _ _ _ _ _ _ _ _ _ h hp;obtain⟨h3,h4⟩:=Xcv _ _ _ _ _ _ _ _ _ _ _ hd h1;exact⟨h3,λk=>X0c.of (X21.drawn (s:=SSt L G n) hm hT hpre h4 (h2 k))⟩
      ·cases h
     ·cases h
   |loop b=>cases h;exact⟨hp,λk=>X0c.loop k⟩
   |cond x a b =>
    simp only[X3r] at h;split at h
    ·split at h
     ·rename_i hr;rw[X47] at h;obtain⟨h1,h2⟩:=ih _ _ _ _ _ _ _ _ _ _ _ _ _ _ h hp;obtain⟨p3,p1,p4⟩:=X2n h1;exact⟨p4,λk=>X0c.cond (s:=(SSt L G n)) (Xp hr p3) (λ_=>h2 k) (λhf=>by rw[p1] at hf;cases hf)⟩
     ·cases h
    ·split at h
     ·rename_i hr;rw[X47] at h;obtain⟨h1,h2⟩:=ih _ _ _ _ _ _ _ _ _ _ _ _ _ _ h hp;obtain⟨p3,p1,p4⟩:=X2n h1;exact⟨p4,λk=>X0c.cond (s:=(SSt L G n)) (Xp hr p3) (λhf=>by rw[p1] at hf;cases hf) (λ_=>h2 k)⟩
     ·cases h
    ·exact stop h
   |_=>exact stop h
  |exit e =>
   cases K with
   |nil=>exact stop h
   |cons kn K =>
    cases kn with
    |seq c=>cases e<;>(simp only[X3r] at h;obtain⟨h1,h2⟩:=ih _ _ _ _ _ _ _ _ _ _ _ _ _ _ h hp;exact⟨h1,λk=>h2 k⟩)
    |loop b =>
     cases e with
     |normal=>cases h;exact⟨hp,λk=>k⟩
     |exit i=>simp only[X3r] at h;obtain⟨h1,h2⟩:=ih _ _ _ _ _ _ _ _ _ _ _ _ _ _ h hp;exact⟨h1,λk=>h2 k⟩
     |ret=>simp only[X3r] at h;obtain⟨h1,h2⟩:=ih _ _ _ _ _ _ _ _ _ _ _ _ _ _ h hp;exact⟨h1,λk=>h2 k⟩
    |block id =>
     cases e with
     |normal=>simp only[X3r] at h;obtain⟨h1,h2⟩:=ih _ _ _ _ _ _ _ _ _ _ _ _ _ _ h hp;exact⟨h1,λk=>h2 k⟩
     |ret=>simp only[X3r] at h;obtain⟨h1,h2⟩:=ih _ _ _ _ _ _ _ _ _ _ _ _ _ _ h hp;exact⟨h1,λk=>h2 k⟩
     |exit i =>
      simp only[X3r] at h;split at h
      ·rename_i hb;obtain⟨h1,h2⟩:=ih _ _ _ _ _ _ _ _ _ _ _ _ _ _ h hp;refine⟨h1,λk=>?_⟩;show X2m id (X5x P nt n0 Q K) (.exit i) (SSt L G n) μ;simp only[X2m,hb,cond_true];exact h2 k
      ·rename_i hb;obtain⟨h1,h2⟩:=ih _ _ _ _ _ _ _ _ _ _ _ _ _ _ h hp;refine⟨h1,λk=>?_⟩;show X2m id (X5x P nt n0 Q K) (.exit i) (SSt L G n) μ;simp only[X2m,hb,cond_false];exact h2 k
  |loop b=>exact stop h
  |ops ops l =>
   simp only[X3r] at h;split at h
   ·obtain⟨h1,h2⟩:=ih _ _ _ _ _ _ _ _ _ _ _ _ _ _ h hp;exact⟨h1,λk=>X0j.nil (h2 k)⟩
   ·split at h
    ·split at h
     ·rename_i hy;obtain⟨⟨⟨m,rfl⟩,h1⟩,h2⟩:=ih _ _ _ _ _ _ _ _ _ _ _ _ _ _ h hp;refine⟨h1,λk=>Xd.sub (X95.trunc (A:=fr L) (H:=Go.Av.hp G) (n:=n) hy m) ?_⟩;have:=h2 k;have hgn:=Xa1 hy;simp only[SSt] at this;rw[Xbx] at this
      ·exact this
      ·exact hgn
     ·cases h
    split at h
    ·rename_i hd;have hdl:=X0i hd;split at h
     ·rename_i hg;split at h
      ·rename_i hop;rw[X1y,X4r,X4u,X47] at h;obtain⟨h1,h2⟩:=ih _ _ _ _ _ _ _ _ _ _ _ _ _ _ h hp;obtain⟨p1,p2⟩:=X2n h1;refine⟨p2,λk=>X0j.plain hg hdl (Xoa hT hop p1) ?_⟩;rintro _ _ _ ⟨rfl,rfl,rfl⟩;have:=h2 k;simp only[Xd,SSt,X0u] at this;exact this
      ·exact stop h
     ·rename_i j want hg;split at h
      ·rename_i hj;split at h
       ·rename_i ht;split at h
        ·rename_i g hgd;split at h
         ·cases h;exact⟨hp,λk=>k⟩
         split at h
         ·split at h
          ·rename_i hop;rw[X1y,X4r,X4u,X47] at h;obtain⟨h1,h2⟩:=ih _ _ _ _ _ _ _ _ _ _ _ _ _ _ h hp;obtain⟨p1,p0,p2⟩:=X2n h1;subst p0;refine⟨p2,λk=>X0j.step (λc0 c H0 act gd=>X4o (s:=SSt L G n) hg hj ht hgd gd) hdl (Xoa hT hop p1) ?_⟩;rintro _ _ _ ⟨rfl,rfl,rfl⟩;have:=h2 k;simp only[Xd,SSt,X0u] at this;exact this
          ·cases h
         ·rw[X4r] at h;obtain⟨h1,h2⟩:=ih _ _ _ _ _ _ _ _ _ _ _ _ _ _ h hp;obtain⟨p0,p1⟩:=h1;subst p0;refine⟨p1,λk=>X0j.skip (s:=SSt L G n) hg hj ht hgd hdl ?_⟩;have:=h2 k;simp only[Xd,SSt,X0u] at this;exact this
         ·split at h
          ·rename_i hpu;split at h
           ·rename_i hok;rw[X1y,X4r,X47] at h;obtain⟨h1,h2⟩:=ih _ _ _ _ _ _ _ _ _ _ _ _ _ _ h hp;obtain⟨p1,p2⟩:=X2n h1;refine⟨p2,λk=>X0j.quiet (s:=SSt L G n) hg hj ht hgd hdl (okLt hok) (λhb=>Xh6 hT hpu (X7z p1 hb)) ?_⟩;have:=h2 k;simp only[Xd,SSt,X0u] at this;exact this
           ·cases h
          ·exact stop h
        ·cases h
       ·cases h
      ·cases h
    ·cases h
theorem Xd.round {P:Program} {nt n0:Nat} {μ:Mu} {Q:Xc->St->Mu->Prop} {b:Code} {K:List Kn} {s:St} (h:Xd P nt n0 Q (.code b) (.loop b::K) s μ):Xd P nt n0 Q (.loop b) K s μ:=X1s.round h
theorem X4q {P:Program} {T:Ty} {nt n0:Nat} {μ:Mu} {Q:Xc->St->Mu->Prop} {cf cf':Cf} {K K':List Kn} {L L':List (Nat×AV)} {G G':List (Nat×Obj)} {n n':Nat} {hs':List X11} {ps':List Prop} (hT:X1h P T/\P.follows .mixedOrders=true) (f:Nat) (hs:List X11)
  (h:X3r P T nt f cf K L G n hs []=some (cf',K',L',G',n',hs',ps')) (hp':X0w ps') (k:Xd P nt n0 Q cf' K' ⟨fr L',hp G',n'⟩ μ):Xd P nt n0 Q cf K ⟨fr L,hp G,n⟩ μ :=
 (Xpp hT.1 hT.2 f cf K L G n hs [] cf' K' L' G' n' hs' ps' h hp').2 k
end Go.Av


namespace Go.Av
variable [Gls]
def argL:Nat->List AV->List (Nat×AV)
 |_,[]=>[]
 |i,a::r=>(i,a)::argL (i+1) r
theorem Xj1:∀ (as:List AV) (i t:Nat),fr (argL i as) t=if i<=t then (match as[t - i]? with|some a=>a|none=>.junk) else .junk:=by
 intro as
 induction as with
 |nil=>intro i t;simp[argL,fr]
 |cons a r ih =>
  intro i t;simp only[argL,fr];by_cases ht:t=i
  ·subst ht;simp
  ·have hb:Nat.beq t i=false:=by rw[<-Bool.not_eq_true,Nat.beq_eq];exact ht
   rw[hb,cond_false,ih];by_cases h1:i+1<=t
   ·rw[if_pos h1,if_pos om,show t - i=(t - (i+1))+1 by omega,List.getElem?_cons_succ]
   ·rw[if_neg h1,if_neg om]
section
variable {P:Program} {nt n0:Nat} {s:St} {μ:Mu}
theorem X0b.turn {c0 c:Ctx} {H0:Xh} {act:Act} {b:Nat} (o:Go.Obj) (g:X0b nt c0 H0 n0 c s act) (h1:¬ c.Sa b) (h2:¬ c.So b) (h3:∀ o x,s.H o=some x->(c.ρ o).blk≠b) (h4:Xrp c0 H0 b) :
  X0b nt c0 H0 n0 { c with w:=c.w.putObj b o } s act/\c.Le (λ_=>True) { c with w:=c.w.putObj b o }:=by
 have hother:∀ k,k≠b->(c.w.putObj b o).heap[k]?=c.w.heap[k]?:=λk hk=>World.putObj_heap_other hk;have hle:c.Le (λ_=>True) { c with w:=c.w.putObj b o } :=
  ⟨λ_ _=>rfl,λ_ h=>h,λ_ h=>h,λk hk=>hother k (λe=>by subst e;exact hk.elim h1 h2),rfl⟩
 have all:∀ {a:AV} {M:Nat->Prop},a.Ok M->a.Ok (λ_=>True):=λh=>h.mono λ_ _=>trivial;have r:=g.reach;refine⟨⟨⟨λq x hx=>?_,g.inv.sep,g.inv.stab,λk hk=>?_,?_,g.inv.own,g.inv.low,g.inv.glob.mono hle⟩,g.solo,λt=>(g.frame t).mono hle (.inr (all (g.ok t))),g.ok,g.size,
  ⟨r.rho,r.os,r.tape,r.output,?_,λk hk hn=>?_,λk hk=>?_,r.sa,r.so1,r.so2,r.B,r.own⟩,g.le0⟩,hle⟩
 ·obtain⟨i1,⟨⟨cur,hb,hs,hc⟩,i3,i4,i5⟩,i6⟩:=g.inv.obj q x hx;refine⟨i1,⟨⟨cur,(hother _ (h3 q x hx)).trans hb,hs,λi e he=>?_⟩,i3,i4,i5⟩,i6⟩;obtain⟨g1,g2⟩:=hc i e he;exact⟨g1,λk a ha=>by obtain⟨v,hv,hr,h7⟩:=g2 k a ha;exact⟨v,hv,hr.mono hle (.inr (all (i6 e (List.mem_of_getElem? he) a (List.mem_of_getElem? ha)))),h7⟩⟩
 ·show k<(c.w.putObj b o).heap.size;rw[World.putObj_size];exact g.inv.lt k hk
 ·show c.B<=(c.w.putObj b o).heap.size;rw[World.putObj_size];exact g.inv.base
 ·show c0.w.heap.size<=(c.w.putObj b o).heap.size;rw[World.putObj_size];exact r.size
 ·exact(hother k (λe=>by subst e;exact(h4.no hk hn).elim)).trans (r.block k hk hn)
 ·refine(hother k (λe=>?_)).trans (r.stable k hk);subst e;exact hk.elim (λh=>h1 (by rw[r.sa];exact h)) (λh=>h2 (r.so1 _ h))
theorem Xu8 {fn:Func} {Rr:Ending->World->Prop} {c0:Ctx} {H0:Xh} {act:Act}:∀ (μ:Mu) (c:Ctx),X0b nt c0 H0 n0 c s act->(∀ p∈μ,Xnu n0 c p.1 p.2) ->
  (∀ p∈μ,¬ c.Sa p.1/\¬ c.So p.1/\(∀ o x,s.H o=some x->(c.ρ o).blk≠p.1)/\Xrp c0 H0 p.1)->(μ.map (·.1)).Nodup ->
  (∀ c',X0b nt c0 H0 n0 c' s act->∃ v,(results fn act.tmps).run P c'.w=.ok v c'.w/\Rr (.returned v) c'.w)->LeavesInM (FR none) 0 P fn act.tmps Rr (Xkv μ) .returning c.w:=by
 intro μ
 induction μ with
 |nil =>
  intro c g _ _ _ hk;obtain⟨v,h1,h2⟩:=hk c g;exact⟨v,h1,h2⟩
 |cons p μ ih =>
  intro c g hi ha hn hk;obtain⟨D,x⟩:=p;have hi':∀ p∈μ,Xnu n0 c p.1 p.2:=λp hp=>hi p (List.mem_cons_of_mem _ hp);have ha':=λp hp=>ha p (List.mem_cons_of_mem _ hp);simp only[List.map_cons,List.nodup_cons] at hn
  cases x with
  |map l=>exact ih c g hi' ha' hn.2 hk
  |blk o=>exact ih c g hi' ha' hn.2 hk
  |loop r nt m A=>exact ih c g hi' ha' hn.2 hk
  |mark =>
   obtain⟨a1,a2,a3,a4⟩:=ha _ List.mem_cons_self;obtain⟨g2,hle⟩:=g.turn (.deferred none) a1 a2 a3 a4;have hd:c.w.heap[D]?=some (.deferred (some [])):=hi _ List.mem_cons_self;refine⟨by simp,.inl ⟨D,_,rfl,run_takeDeferred hd,?_⟩⟩;refine ih { c with w:=c.w.putObj D (.deferred none) } g2 (λp hp=>?_) ha' hn.2 hk;exact(hi' p hp).le (World.putObj_heap_other (λe=>hn.1 (e▸List.mem_map.2 ⟨p,hp,rfl⟩))) (hle.weaken λ_ _=>trivial)
end
section
variable {P:Program} {T:Ty}
theorem X4e {f:Nat} {fn:Func} {code:Code} (hfn:X5d P f fn code) {nt n0:Nat} {s:St} {Q:Xc->St->Mu->Prop} {c:Ctx} {vs:Array Value} {Rr:Ending->World->Prop}
  (g:X0b nt c s.H n0 c s { tmps:=vs++Array.replicate (fn.ntmps - vs.size) undef,defers:=[] }) (h:X0c P nt n0 code Q s [])
  (hQ:∀ e s' μ,Q e s' μ->(∀ id,e≠.exit id)/\∀ c' act',X0b nt c s.H n0 c' s' act'->∃ v,(results fn act'.tmps).run P c'.w=.ok v c'.w/\Rr (.returned v) c'.w):Calls P f vs c.w Rr:=by
 refine(callsIn_wide (n:=0)).1 (callsIn_of_wp_marks hfn.here hfn.body trivial ?_);refine wpIn_mono (h c s.H c _ g (.nil rfl) none .none) ?_;rintro e a w ⟨c',s',ae,μ',rfl,g',hm',rfl,hq⟩;obtain⟨hx,hq⟩:=hQ ae s' μ' hq;have fin:LeavesInM Fence.wide 0 P fn a.tmps Rr a.defers .returning c'.w:=by
  rw[hm'.ds];exact Xu8 μ' c' g' hm'.is hm'.away hm'.nodup λc2 g2=>hq c2 a g2
 cases ae with
 |exit id=>exact(hx id rfl).elim
 |normal=>exact fin
 |ret=>exact fin
def Xvr (T:Ty) (fn:Func) (K:AV->Xh->Nat->Prop):Xc->St->Mu->Prop:=λe s _=>Xye T fn K e s
theorem X0b.argL {nt n0:Nat} {c0 c:Ctx} {H0 H:Xh} {n:Nat} {as:List AV} {act:Act} (g:X0b nt c0 H0 n0 c ⟨X5w as,H,n⟩ act):X0b nt c0 H0 n0 c ⟨fr (Av.argL 0 as),H,n⟩ act:=by
 refine⟨g.inv,g.solo,λt=>?_,λt=>?_,g.size,g.reach,g.le0⟩
 ·show Xn c false (fr (Av.argL 0 as) t) _;rw[Xj1];simp only[Nat.zero_le,if_true,Nat.sub_zero];have:=g.frame t;simp only[X5w] at this
  cases hq:as[t]? with
  |none=>exact .junk
  |some a=>rw[hq] at this;exact this
 ·show(fr (Av.argL 0 as) t).Ok (·<n);rw[Xj1];simp only[Nat.zero_le,if_true,Nat.sub_zero];have:=g.ok t;simp only[X5w] at this
  cases hq:as[t]? with
  |none=>exact .junk
  |some a=>rw[hq] at this;exact this
theorem HC.of_bodyM (hT:X1h P T) {f:Nat} {fn:Func} {code:Code} (hfn:X5d P f fn code) {as:List AV} {H:Xh} {n nt:Nat} {K:AV->Xh->Nat->Prop} (hnt:fn.ntmps=nt)
  (hle:as.length<=nt) (h:X0c P nt n code (Xvr T fn K) ⟨fr (argL 0 as),H,n⟩ []):HC P f as H n K:=by
 refine⟨⟨fn,code,hfn⟩,λc vs hI hs hv ho=>?_⟩;have g:X0b nt c H n c ⟨X5w as,H,n⟩ { tmps:=vs++Array.replicate (fn.ntmps - vs.size) undef,defers:=[] }:=by
  refine⟨hI,hs,λt=>X27 hv _ t,λt=>X5v ho t,?_,.refl c H n,Nat.le_refl _⟩;have:=hv.len;simp only[Array.size_append,Array.size_replicate];omega
 refine X4e hfn g.argL h ?_;intro e s' μ hq;have fin:(∃ rs,X4z T s' fn.results.toList rs/\K (X46 rs) s'.H s'.n)->∀ c' act',X0b nt c H n c' s' act'->∃ v,(results fn act'.tmps).run P c'.w=.ok v c'.w/\∃ v' r H' n' c2,K r H' n'/\Ending.returned v=.returned v'/\c2.w=c'.w/\c.Le (·<n) c2/\c2.Sa=c.Sa/\(∀ b,c2.So b->c.So b\/c.w.heap.size<=b\/∃ o x,H o=some x/\(c.ρ o).blk=b) /\
   Fr c H c'.w/\X37 c H c2 H'/\Inv c2 H' (·<n')/\(∀ o x,H' o=some x->x.solo=true/\x.spent=false)/\n<=n'/\Xn c2 false r v'/\r.Ok (·<n'):=by
  rintro⟨rs,hrs,hk⟩ c' act' g';obtain⟨v,h1,h2,h3⟩:=X9f hT g' hrs;exact⟨v,h1,v,_,s'.H,s'.n,c',hk,rfl,rfl,g'.reach.le,g'.reach.sa,g'.reach.so2,g'.reach.fr,g'.reach.own,g'.inv,g'.solo,g'.le0,h2,h3⟩
 cases e with
 |exit id=>exact hq.elim
 |normal=>exact⟨(λ_ h=>by cases h),fin hq⟩
 |ret=>exact⟨(λ_ h=>by cases h),fin hq⟩
def Xlx (T:Ty) (fn:Func) (r:AV):Xc->St->Mu->Prop:=λe s _=>Xtp T fn r e s
theorem Xu.of_bodyM (hT:X1h P T) {f:Nat} {fn:Func} {code:Code} (hfn:X5d P f fn code) {as:List AV} {nt:Nat} {r:AV} (hnt:fn.ntmps=nt)
  (hle:as.length<=nt) (h:X0c P nt 0 code (Xlx T fn r) ⟨fr (argL 0 as),λ_=>none,0⟩ []):Xu P f as r:=by
 refine⟨⟨fn,code,hfn⟩,λw S vs hS hG hv=>?_⟩;let c:Ctx:=⟨w,pl0,S,λ_=>False,w.heap.size⟩
 have hI:Inv c (λ_=>none) (·<0) :=
  ⟨λo x h=>(by cases h),λo o' x x' h=>(by cases h),λo x h=>(by cases h),λb hb=>hb.elim (hS b) False.elim,Nat.le_refl _,λb hb=>hb.elim,λo x h=>(by cases h),hG⟩
 have g:X0b nt c (λ_=>none) 0 c ⟨X5w as,λ_=>none,0⟩ { tmps:=vs++Array.replicate (fn.ntmps - vs.size) undef,defers:=[] }:=by
  refine⟨hI,λo x h=>(by cases h),λt=>X27 hv _ t,λt=>X5v (λa ha=>?_) t,?_,.refl c _ 0,Nat.le_refl _⟩
  ·obtain⟨i,hi⟩:=List.getElem?_of_mem ha;have:i<vs.size:=by rw[<-hv.len];exact(List.getElem?_eq_some_iff.1 hi).1
   exact(hv.rel i a _ hi (Array.getElem?_eq_getElem this)).okDeep
  ·have:=hv.len;simp only[Array.size_append,Array.size_replicate];omega
 refine X4e (c:=c) hfn g.argL h ?_;intro e s' μ hq;have fin:(∃ rs,X4z T s' fn.results.toList rs/\Cv true s'.H (X46 rs) r)->∀ c' act',X0b nt c (λ_=>none) 0 c' s' act' ->
   ∃ v,(results fn act'.tmps).run P c'.w=.ok v c'.w/\∃ u,Ending.returned v=.returned u/\Xn ⟨c'.w,pl0,S,λb=>w.heap.size<=b/\b<c'.w.heap.size,w.heap.size⟩ true r u/\Xko w.heap.size w c'.w:=by
  rintro⟨rs,hrs,hk⟩ c' a g';obtain⟨v,h1,h2,h3⟩:=X9f hT g' hrs;have hr:=g'.reach;have hB:c'.B=w.heap.size:=hr.B;refine⟨v,h1,v,rfl,?_,⟨⟨hr.os,hr.tape,hr.output.1,hr.size,λk hk=>hr.block k hk (λo x hx=>(by cases hx))⟩,hr.output.2⟩⟩;refine Xe6 g'.inv (c':=⟨c'.w,pl0,S,λb=>w.heap.size<=b/\b<c'.w.heap.size,w.heap.size⟩) rfl (λb hb=>?_) (λ_ b hb=>?_) (λo x hx=>?_) hk h2
  ·rcases hb with hb|hb
   ·exact .inl ⟨rfl,by rw[<-hr.sa];exact hb⟩
   ·exact .inr ⟨by rw[<-hB];exact g'.inv.own b hb,g'.inv.lt b (.inr hb)⟩
  ·exact⟨by rw[<-hB];exact g'.inv.own b hb,g'.inv.lt b (.inr hb)⟩
  ·obtain⟨_,⟨⟨cur,hcb,_⟩,_⟩,_⟩:=g'.inv.obj o x hx;exact .inr ⟨by rw[<-hB];exact g'.inv.low o x hx,(Array.getElem?_eq_some_iff.1 hcb).1⟩
 cases e with
 |exit id=>exact hq.elim
 |normal=>exact⟨(λ_ h=>by cases h),fin hq⟩
 |ret=>exact⟨(λ_ h=>by cases h),fin hq⟩
end
section
variable {P:Program} {nt n0:Nat} {s:St} {μ:Mu}
theorem X0b.weak' {c0 c:Ctx} {H0:Xh} {s s':St} {act:Act} {θ:Nat->Nat} (g:X0b nt c0 H0 n0 c s act) (hw:Xd0 θ n0 s s') :
  ∃ c',c'={ c with ρ:=λo=>c.ρ (θ o) }/\X0b nt c0 H0 n0 c' s' act:=⟨{ c with ρ:=λo=>c.ρ (θ o) },rfl,g.weakBy hw⟩
theorem X0b.weakM {c0 c:Ctx} {H0:Xh} {s s':St} {act:Act} (g:X0b nt c0 H0 n0 c s act) (hm:MOk n0 c0 H0 c s.H μ act) (hw:Xkl n0 s s') :
  ∃ c',c'.w=c.w/\X0b nt c0 H0 n0 c' s' act/\MOk n0 c0 H0 c' s'.H μ act:=by
 obtain⟨θ,hw⟩:=hw;obtain⟨c',h2,h3⟩:=g.weak' hw;exact⟨c',by rw[h2],h3,hm.weak hw h2⟩
theorem X0c.weak {code:Code} {Q:Xc->St->Mu->Prop} {s':St} (hw:Xkl n0 s s') (h:X0c P nt n0 code Q s' μ):X0c P nt n0 code Q s μ:=by
 intro c0 H0 c act g hm R hR;obtain⟨c',hc,g',hm'⟩:=g.weakM hm hw;have:=h c0 H0 c' act g' hm' R hR
 rwa [hc] at this
theorem X0j.weak {ops:Array Oper} {l:List Oper} {K:St->Mu->Prop} {s':St} (hw:Xkl n0 s s') (h:X0j P nt n0 ops l K s' μ):X0j P nt n0 ops l K s μ:=by
 intro c0 H0 c act g hm Qx hQ R hR;obtain⟨c',hc,g',hm'⟩:=g.weakM hm hw;have:=h c0 H0 c' act g' hm' Qx hQ R hR
 rwa [hc] at this
end
def thL:List (Nat×Nat)->Nat->Nat
 |[],o=>o
 |(a,b)::r,o=>bif Nat.beq o a then b else thL r o
def wkL (L:List (Nat×AV)) (θ:List (Nat×Nat)) (n:Nat):List (Nat×AV)->Prop
 |[]=>True
 |(t,a)::r=>fr L t=a.ren (thL θ)/\a.Ok (·<n)/\wkL L θ n r
def Xyv:Bool->Prop->Prop
 |true,_=>True
 |false,p=>p
def wkG (G:List (Nat×Obj)) (θ:List (Nat×Nat)) (n:Nat):List (Nat×Obj)->Prop
 |[]=>True
 |(o,x)::r=>Xyv x.gone (∃ y,hp G (thL θ o)=some y/\y.esz=x.esz/\y.es=x.es.map (AV.ren (thL θ)))/\o<n/\(∀ e∈x.es,∀ a∈e.cells,a.Ok (·<n))/\x.solo=true/\x.spent=false/\wkG G θ n r
theorem Xf5 {L:List (Nat×AV)} {θ:List (Nat×Nat)} {n:Nat}:∀ {L':List (Nat×AV)},wkL L θ n L'->∀ t,(fr L' t=.junk\/fr L t=(fr L' t).ren (thL θ))/\(fr L' t).Ok (·<n):=by
 intro L'
 induction L' with
 |nil=>intro _ t;exact⟨.inl rfl,.junk⟩
 |cons p r ih =>
  obtain⟨d,a⟩:=p;rintro⟨h1,h2,h3⟩ t;by_cases ht:t=d
  ·subst ht;have:fr ((t,a)::r) t=a:=by simp[fr]
   rw[this];exact⟨.inr h1,h2⟩
  ·have:fr ((d,a)::r) t=fr r t:=by
    have hb:Nat.beq t d=false:=by rw[<-Bool.not_eq_true,Nat.beq_eq];exact ht
    simp[fr,hb]
   rw[this];exact ih h3 t
theorem Xf6 {G:List (Nat×Obj)} {θ:List (Nat×Nat)} {n:Nat}:∀ {G':List (Nat×Obj)},wkG G θ n G'->∀ o x,hp G' o=some x ->
  (∃ y,hp G (thL θ o)=some y/\y.esz=x.esz/\y.es=x.es.map (AV.ren (thL θ)))/\o<n/\(∀ e∈x.es,∀ a∈e.cells,a.Ok (·<n))/\x.solo=true/\x.spent=false:=by
 intro G'
 induction G' with
 |nil=>intro _ o x h;cases h
 |cons p r ih =>
  obtain⟨d,y⟩:=p;rintro⟨h1,h2,h3,h4,h5,h6⟩ o x hx;by_cases ho:o=d
  ·subst ho;have hg:=Xa1 hx;simp only[hp,Nat.beq_refl,cond_true] at hx
   cases hy:y.gone with
   |true=>rw[hy] at hx;cases hx
   |false =>
    rw[hy] at hx;cases hx;rw[hg] at h1;exact⟨h1,h2,h3,h4,h5⟩
  ·have:hp ((d,y)::r) o=hp r o:=by
    have hb:Nat.beq o d=false:=by rw[<-Bool.not_eq_true,Nat.beq_eq];exact ho
    simp[hp,hb]
   rw[this] at hx;exact ih h6 o x hx
theorem Xok {G:List (Nat×Obj)} {o:Nat} (h:hp G o≠none):o∈G.map (·.1):=by
 induction G with
 |nil=>exact absurd rfl h
 |cons p r ih =>
  obtain⟨d,y⟩:=p;by_cases ho:o=d
  ·subst ho;simp
  ·have:hp ((d,y)::r) o=hp r o:=by
    have hb:Nat.beq o d=false:=by rw[<-Bool.not_eq_true,Nat.beq_eq];exact ho
    simp[hp,hb]
   rw[this] at h;exact List.mem_cons_of_mem _ (ih h)
def Xs3 (θ:List (Nat×Nat)):List Nat->Bool
 |[]=>true
 |o::r=>r.all (λq=>Nat.beq o q||!Nat.beq (thL θ o) (thL θ q))&&Xs3 θ r
theorem Xqk {θ:List (Nat×Nat)}:∀ {l:List Nat},Xs3 θ l=true->∀ o∈l,∀ q∈l,thL θ o=thL θ q->o=q:=by
 intro l
 induction l with
 |nil=>intro _ o h;cases h
 |cons a r ih =>
  intro h o ho q hq he;simp only[Xs3,Bool.and_eq_true,List.all_eq_true,Bool.or_eq_true,Nat.beq_eq,Bool.not_eq_true'] at h;have key:∀ x∈r,thL θ a=thL θ x->a=x:=by
   intro x hx hax;rcases h.1 x hx with h1|h1
   ·exact h1
   ·rw[hax,Nat.beq_refl] at h1;cases h1
  rcases List.mem_cons.1 ho with h1|h1
  ·rcases List.mem_cons.1 hq with h2|h2
   ·rw[h1,h2]
   ·rw[h1] at he ⊢;exact key q h2 he
  ·rcases List.mem_cons.1 hq with h2|h2
   ·rw[h2] at he ⊢;exact(key o h1 he.symm).symm
   ·exact ih h.2 o h1 q h2 he
def Xuu (θ:List (Nat×Nat)) (n0:Nat):Bool:=θ.all λp=>Nat.ble n0 p.1||Nat.beq p.1 p.2
theorem Xqs {n0:Nat}:∀ {θ:List (Nat×Nat)},Xuu θ n0=true->∀ o,o<n0->thL θ o=o:=by
 intro θ
 induction θ with
 |nil=>intro _ o _;rfl
 |cons p r ih =>
  obtain⟨a,b⟩:=p;intro h o ho;simp only[Xuu,List.all_cons,Bool.and_eq_true,Bool.or_eq_true,Nat.ble_eq,Nat.beq_eq] at h;simp only[thL]
  cases hb:Nat.beq o a with
  |true =>
   have:o=a:=Nat.eq_of_beq_eq_true hb;subst this;rcases h.1 with h1|h1
   ·omega
   ·simp only[cond_true];exact h1.symm
  |false=>simp only[cond_false];exact ih h.2 o ho
theorem Xoz {L L':List (Nat×AV)} {G G':List (Nat×Obj)} {n n' n0:Nat} (θ:List (Nat×Nat)) (hb:(Xuu θ n0&&Xs3 θ (G'.map (·.1))&&Nat.ble n0 n')=true) (hL:wkL L θ n' L') (hG:wkG G θ n' G') :
  Xkl n0 ⟨fr L,hp G,n⟩ ⟨fr L',hp G',n'⟩:=by
 simp only[Bool.and_eq_true,Nat.ble_eq] at hb;obtain⟨⟨h1,h2⟩,h3⟩:=hb;refine⟨thL θ,Xqs h1,λt=>(Xf5 hL t).1,λo x hx=>?_,λo q ho hq he=>Xqk h2 o (Xok ho) q (Xok hq) he,λt=>(Xf5 hL t).2,λo x hx=>?_,h3⟩
 ·obtain⟨⟨y,g1,g2,g3⟩,_⟩:=Xf6 hG o x hx;exact⟨y,g1,g2,g3⟩
 ·obtain⟨_,g1,g2,g3,g4⟩:=Xf6 hG o x hx;exact⟨g1,g2,g3,g4⟩
theorem X5x.weak {P:Program} {nt n0:Nat} {Q:Xc->St->Mu->Prop} {μ:Mu} {s s':St} (hw:Xkl n0 s s'):∀ (K:List Kn) (e:Xc),X5x P nt n0 Q K e s' μ->X5x P nt n0 Q K e s μ:=by
 have hloop:∀ {b:Code} {Q':Xc->St->Mu->Prop},X1s P nt n0 b Q' s' μ->X1s P nt n0 b Q' s μ:=by
  intro b Q' h c0 H0 c act g hm R hR;obtain⟨c',hc,g',hm'⟩:=g.weakM hm hw;have:=h c0 H0 c' act g' hm' R hR
  rwa [hc] at this
 intro K
 induction K with
 |nil =>
  intro e h c0 H0 c act g hm;obtain⟨c',hc,g',hm'⟩:=g.weakM hm hw;obtain⟨c2,s2,h1,h2,h3,h4⟩:=h c0 H0 c' act g' hm';exact⟨c2,s2,h1.trans hc,h2,h3,h4⟩
 |cons k K ih =>
  intro e h
  cases k with
  |seq c =>
   cases e with
   |normal=>exact X0c.weak hw h
   |exit i=>exact ih _ h
   |ret=>exact ih _ h
  |block id =>
   cases e with
   |normal=>exact ih _ h
   |ret=>exact ih _ h
   |exit i =>
    have h':X2m id (X5x P nt n0 Q K) (.exit i) s' μ:=h;show X2m id (X5x P nt n0 Q K) (.exit i) s μ;simp only[X2m] at h' ⊢
    cases hb:Nat.beq i id with
    |true=>rw[hb,cond_true] at h';exact ih _ h'
    |false=>rw[hb,cond_false] at h';exact ih _ h'
  |loop b =>
   cases e with
   |normal=>exact hloop h
   |exit i=>exact ih _ h
   |ret=>exact ih _ h
theorem Xd.weak {P:Program} {nt n0:Nat} {Q:Xc->St->Mu->Prop} {cf:Cf} {K:List Kn} {μ:Mu} {s s':St} (hw:Xkl n0 s s') (h:Xd P nt n0 Q cf K s' μ):Xd P nt n0 Q cf K s μ:=by
 cases cf with
 |code c=>exact X0c.weak hw h
 |exit e=>exact X5x.weak hw K e h
 |ops ops l=>exact X0j.weak hw h
 |loop b =>
  intro c0 H0 c act g hm R hR;obtain⟨c',hc,g',hm'⟩:=g.weakM hm hw;have:=h c0 H0 c' act g' hm' R hR
  rwa [hc] at this
theorem X5x.collapse {P:Program} {nt n0:Nat} {Q:Xc->St->Mu->Prop}:∀ (K:List Kn) (e:Xc) (s:St) (μ:Mu),Cl nt n0 (X5x P nt n0 Q K) e s μ->X5x P nt n0 Q K e s μ:=by
 intro K
 induction K with
 |nil =>
  intro e s μ h c0 H0 c act g hm;obtain⟨c1,s1,h1,h2,h3,h4⟩:=h c0 H0 c act g hm;obtain⟨c2,s2,k1,k2,k3,k4⟩:=h4 c0 H0 c1 act h2 h3;exact⟨c2,s2,k1.trans h1,k2,k3,k4⟩
 |cons k K ih =>
  intro e s μ h
  cases k with
  |seq c =>
   cases e with
   |normal =>
    intro c0 H0 cx act g hm;obtain⟨c1,s1,h1,h2,h3,h4⟩:=h c0 H0 cx act g hm;rw[<-h1];exact h4 c0 H0 c1 act h2 h3
   |exit i=>exact ih (.exit i) s μ h
   |ret=>exact ih .ret s μ h
  |block id =>
   cases e with
   |normal=>exact ih .normal s μ h
   |ret=>exact ih .ret s μ h
   |exit i =>
    show X2m id (X5x P nt n0 Q K) (.exit i) s μ;have h':∀ (c0:Ctx) (H0:Xh) (c:Ctx) (act:Act),X0b nt c0 H0 n0 c s act->MOk n0 c0 H0 c s.H μ act->∃ c' s',c'.w=c.w/\X0b nt c0 H0 n0 c' s' act/\MOk n0 c0 H0 c' s'.H μ act/\X2m id (X5x P nt n0 Q K) (.exit i) s' μ:=h;simp only[X2m] at h' ⊢
    cases hb:Nat.beq i id with
    |true=>simp only[hb,cond_true] at h' ⊢;exact ih .normal s μ h'
    |false=>simp only[hb,cond_false] at h' ⊢;exact ih (.exit i) s μ h'
  |loop b =>
   cases e with
   |normal =>
    intro c0 H0 cx act g hm;obtain⟨c1,s1,h1,h2,h3,h4⟩:=h c0 H0 cx act g hm;rw[<-h1];exact h4 c0 H0 c1 act h2 h3
   |exit i=>exact ih (.exit i) s μ h
   |ret=>exact ih .ret s μ h
theorem MQ.ofCl {nt n0:Nat} {Q:Xc->St->Mu->Prop} {c0:Ctx} {H0:Xh}:∀ e a w,MQ nt c0 H0 n0 (Cl nt n0 Q) e a w->MQ nt c0 H0 n0 Q e a w:=by
 rintro e a w ⟨c',s',ae,μ',rfl,g',hm',rfl,hq⟩;obtain⟨c2,s2,h1,h2,h3,h4⟩:=hq c0 H0 c' a g' hm';exact⟨c2,s2,ae,μ',h1,h2,h3,rfl,h4⟩
theorem Xd.weakTo {P:Program} {nt n0:Nat} {Q:Xc->St->Mu->Prop} {cf:Cf} {K:List Kn} {μ:Mu} {L L':List (Nat×AV)} {G G':List (Nat×Obj)} {n n':Nat} (θ:List (Nat×Nat)) (h:Xd P nt n0 Q cf K ⟨fr L',hp G',n'⟩ μ)
  (hb:(Xuu θ n0&&Xs3 θ (G'.map (·.1))&&Nat.ble n0 n')=true) (hL:wkL L θ n' L') (hG:wkG G θ n' G'):Xd P nt n0 Q cf K ⟨fr L,hp G,n⟩ μ:=Xd.weak (Xoz θ hb hL hG) h
theorem Xd.cut {P:Program} {nt n0:Nat} {Q:Xc->St->Mu->Prop} {cf:Cf} {K:List Kn} {μ:Mu} {s:St} (h:Xd P nt n0 (X5x P nt n0 Q K) cf [] s μ):Xd P nt n0 Q cf K s μ:=by
 cases cf with
 |code c=>exact X0c.ofCl h
 |exit e=>exact X5x.collapse K e s μ h
 |ops ops l =>
  intro c0 H0 c act g hm Qx hQ;refine h c0 H0 c act g hm Qx λc' s' act' μ' g' hm' hk=>?_;exact hQ c' s' act' μ' g' hm' (X5x.collapse K .normal s' μ' hk)
 |loop b =>
  intro c0 H0 c act g hm R hR bb k cs hro;obtain⟨e,a',w',hq,harr⟩:=h c0 H0 c act g hm R hR bb k cs hro;exact⟨e,a',w',MQ.ofCl e a' w' hq,harr⟩
theorem Xd.glue {P:Program} {nt n0:Nat} {Q:Xc->St->Mu->Prop} {e:Xc} {K:List Kn} {μ:Mu} {s:St} (h:Xd P nt n0 Q (.exit e) K s μ):Xd P nt n0 (X5x P nt n0 Q K) (.exit e) [] s μ:=Cl.mk h
theorem Xd.done {P:Program} {nt n0:Nat} {Q:Xc->St->Mu->Prop} {e:Xc} {μ:Mu} {s:St} (h:Q e s μ):Xd P nt n0 Q (.exit e) [] s μ:=Cl.mk h
def X3l:Code->List Code
 |.loop b=>b::X3l b
 |.seq a b=>X3l a++X3l b
 |.block _ c=>X3l c
 |.scope c=>X3l c
 |.cond _ a b=>X3l a++X3l b
 |.rangeFunc _ _ a b=>X3l a++X3l b
 |_=>[]
def X6w (i:Nat) (c:Code):Code:=((X3l c)[i]?).getD .skip
theorem Xu.sym {P:Program} {T:Ty} (hT:X1h P T) {f:Nat} {fn:Func} {code:Code} (hfn:X5d P f fn code) {as:List AV} {nt:Nat} {r:AV} (hnt:fn.ntmps=nt)
  (hle:Nat.ble as.length nt=true) (h:Xd P nt 0 (Xlx T fn r) (.code code) [] ⟨fr (argL 0 as),hp [],0⟩ []) (hok:∀ a∈as,a.Ok (·<0)):Xu P f as r:=by
 exact Xu.of_bodyM hT hfn hnt (by simpa using hle) (X0c.ofCl h)
def Xl5 (T:Ty) (L:List (Nat×AV)) (G:List (Nat×Obj)):List ResultVar->Option (List AV)
 |[]=>some []
 |.tmp t::l=>match fr L t with
  |.cond _ _=>none
  |a=>X4v a λa=>match Xl5 T L G l with
   |some r=>some (a::r)
   |none=>none
 |.cell p t::l=>match T t with
  |some ti=>match fr L p with
   |.ptr o i k=>match hp G o with
    |some y=>match y.es[i]? with
     |some e=>match X5o ti e k with
      |some a=>X4v a λa=>match Xl5 T L G l with
       |some r=>some (a::r)
       |none=>none
      |none=>none
     |none=>none
    |none=>none
   |_=>none
  |none=>none
theorem Xfl {T:Ty} {L:List (Nat×AV)} {G:List (Nat×Obj)} {n:Nat}:∀ (l:List ResultVar) (r:List AV),Xl5 T L G l=some r->X4z T ⟨fr L,hp G,n⟩ l r:=by
 intro l
 induction l with
 |nil=>intro r h;simp[Xl5] at h;subst h;exact .nil
 |cons v l ih =>
  intro r h
  cases v with
  |tmp t =>
   simp only[Xl5] at h;split at h
   ·cases h
   ·rename_i a hne;rw[X1y] at h;split at h
    ·rename_i hr;cases h
     have:X0q (fr L t)=fr L t:=by
      cases hq:fr L t with
      |cond g v=>exact absurd hq (hne g v)
      |_=>rfl
     have hres:Xvj T ⟨fr L,hp G,n⟩ (.tmp t) (X0q (fr L t)):=.tmp;rw[this] at hres;exact .cons hres (ih _ hr)
    ·cases h
  |cell p t =>
   simp only[Xl5] at h;split at h
   ·rename_i ht;split at h
    ·rename_i hp1;split at h
     ·rename_i hH;split at h
      ·rename_i he;split at h
       ·rename_i hl;rw[X1y] at h;split at h
        ·rename_i hr;cases h
         refine .cons (.cell ht (e:=_) (k:=_) ?_ hl) (ih _ hr);show Xbg (hp G) (X0q (fr L p)) _ _;rw[hp1];exact .ptr hH he
        ·cases h
       ·cases h
      ·cases h
     ·cases h
    ·cases h
   ·cases h
theorem Xrq.sym {P:Program} {T:Ty} (hT:X1h P T) {f:Nat} {fn:Func} {code:Code} (hfn:X5d P f fn code) {as:List AV} {nt:Nat} {r:AV} {G G':List (Nat×Obj)} {n n':Nat} (hnt:fn.ntmps=nt) (hle:Nat.ble as.length nt=true)
  (h:Xd P nt n (Xvr T fn λr2 H2 n2=>r2=r/\H2=hp G'/\n2=n') (.code code) [] ⟨fr (Av.argL 0 as),hp G,n⟩ []):Xrq P f as G n r G' n' :=
 ⟨HC.of_bodyM hT hfn hnt (by simpa using hle) (X0c.ofCl h)⟩
theorem Xd.fin {P:Program} {T:Ty} {nt n0:Nat} {fn:Func} {r:AV} {L:List (Nat×AV)} {G:List (Nat×Obj)} {n:Nat} {μ:Mu} {rs:List AV} {e:Xc} (he:∀ id,e≠.exit id) (hr:Xl5 T L G fn.results.toList=some rs) (hc:X46 rs=r) :
  Xd P nt n0 (Xvr T fn λr2 H2 n2=>r2=r/\H2=hp G/\n2=n) (.exit e) [] ⟨fr L,hp G,n⟩ μ:=by
 refine Cl.mk ?_;have hk:∃ rs,X4z T ⟨fr L,hp G,n⟩ fn.results.toList rs/\(X46 rs=r/\hp G=hp G/\n=n):=⟨rs,Xfl _ _ hr,hc,rfl,rfl⟩
 cases e with
 |exit id=>exact absurd rfl (he id)
 |normal=>exact hk
 |ret=>exact hk
theorem X72 {P:Program} {T:Ty} {nt n0:Nat} {fn:Func} {r:AV} {L:List (Nat×AV)} {G:List (Nat×Obj)} {n:Nat} {μ:Mu} {rs:List AV} (hr:Xl5 T L G fn.results.toList=some rs) (hc:Cv true (hp G) (X46 rs) r) :
  Xd P nt n0 (Xlx T fn r) (.exit .ret) [] ⟨fr L,hp G,n⟩ μ:=Cl.mk ⟨rs,Xfl _ _ hr,hc⟩
end Go.Av


namespace Go.Av
variable [Gls]
def X8o (e:AV):Prop:=∀ a∈e.cells,∃ v,a=.sc v
theorem X32 {H:Xh} {own:Bool} {es:List AV} (h:∀ e∈es,X8o e):Cv false H (.list own es) (.list false es):=by
 refine .listD rfl rfl (λi e e' he he'=>by rw[he] at he';cases he';rfl) (λi e e' k a b he he' ha hb=>?_);rw[he] at he';cases he';rw[ha] at hb;cases hb;obtain⟨v,rfl⟩:=h e (List.mem_of_getElem? he) a (List.mem_of_getElem? ha);exact .sc
theorem Xv3 {m:Bool} {H:Xh} {o n:Nat} {x:Obj} {es:List AV} (hH:H o=some x) (he:x.es=es) (hn:n=es.length) (h:∀ e∈es,X8o e):Cv m H (.ref o 0 n) (.list m es):=by
 subst he hn;refine .ref hH om rfl (λi e e' he he'=>?_) (λi e e' k a b he he' ha hb=>?_)
 ·rw[Nat.zero_add] at he;rw[he] at he';cases he';rfl
 ·rw[Nat.zero_add] at he;rw[he] at he';cases he';rw[ha] at hb;cases hb;obtain⟨v,rfl⟩:=h e (List.mem_of_getElem? he) a (List.mem_of_getElem? ha);exact .sc
theorem Cvs.nil {m:Bool} {H:Xh}:Cvs m H [] []:=⟨rfl,λi a b h=>by simp at h⟩
theorem Cvs.cons {m:Bool} {H:Xh} {a b:AV} {as bs:List AV} (h:Cv m H a b) (hs:Cvs m H as bs):Cvs m H (a::as) (b::bs):=by
 refine⟨by simp[hs.len],λi x y hx hy=>?_⟩
 cases i with
 |zero=>simp at hx hy;subst hx hy;exact h
 |succ i=>simp at hx hy;exact hs.rel i x y hx hy
theorem X2c.none {P:Program} {f:Nat} {H:Xh} {as bs:List AV} {r:AV} (hp:Xu P f bs r) (h:Cvs false (λ_=>none) as bs):X2c P f H as bs r :=
 ⟨hp,λ_=>.none,h,(λ_ _ h=>by cases h),.inr λ_=>rfl⟩
theorem X2c.lent {P:Program} {f:Nat} {H:Xh} {as bs:List AV} {r:AV} (hp:Xu P f bs r) (h:Cvs false H as bs) (hr:X96 r):X2c P f H as bs r :=
 ⟨hp,H,h,λ_ _ h=>h,.inl hr⟩
theorem X7j {z:Int} (h1 : -9223372036854775808<=z) (h2:z<=9223372036854775807):IntKind.i64.wrap z=z:=IntWalk.i64_in z ⟨h1,h2⟩
theorem Xug {α:Type} {enc:α->AV} {l:List α} {k:Nat} {x:α} (h:l[k]?=some x):(l.map enc)[((k:Nat):Int).toNat]?=some (enc x):=by
 rw[Int.toNat_natCast,List.getElem?_map,h];rfl
def X5l (e:AV):Prop:=∀ θ,e.ren θ=e
theorem Xa {es:List AV} (h:∀ e∈es,X5l e) (θ:Nat->Nat):es=es.map (AV.ren θ):=by
 conv=>lhs;rw[<-List.map_id es]
 exact List.map_congr_left λe he=>(h e he θ).symm
theorem X35 {p:AV->Prop}:∀ e∈([]:List AV),p e:=λ_ h=>by cases h
theorem X0o {p:AV->Prop} {a:AV} {l:List AV} (h:p a) (hl:∀ e∈l,p e):∀ e∈a::l,p e:=λe he=>by
 rcases List.mem_cons.1 he with h1|h1
 ·rw[h1];exact h
 ·exact hl e h1
theorem Xut {v:Value}:X8o (.sc v):=λa ha=>⟨v,List.mem_singleton.1 ha⟩
theorem X6q {v:Value}:X5l (.sc v):=λ_=>rfl
theorem Xv2 {m:Bool} {H:Xh} {as bs:List AV} (h:Cvs m H as bs):Cv m H (.tup as) (.tup bs):=.tup h.len h.rel
end Go.Av


namespace Go.D
def wfI (k:IntKind) (z:Int):Prop:=(Lit.int k z).wf=true
def Xes {α:Type} (l:List α) (i:Int):Option α:=if 0<=i then l[i.toNat]? else none
def X4k (n b:Nat):Option Unit:=if n*b<=140737488355328 then some () else none
def X5p (n:Nat):Option Unit:=if n<=140737488355328 then some () else none
def Xxx (l:List Nat):ByteArray:=⟨(l.map UInt8.ofNat).toArray⟩
def FU:Nat:=100000
structure V2 (α:Type) where
 e0:α
 e1:α
 deriving DecidableEq,Inhabited
end Go.D
namespace Go.Av
variable [Gls]
open Go.D
abbrev aI (k:IntKind) (z:Int):AV:=.sc (.int k z)
abbrev aB (b:Bool):AV:=.sc (.bool b)
theorem brE {α:Type} {c:Bool} {a b:Option α} {r:α} {G:Prop} (h:(bif c then a else b)=some r) (h1:c=true->a=some r->G) (h2:c=false->b=some r->G):G:=by
 cases c with
 |true=>exact h1 rfl h
 |false=>exact h2 rfl h
theorem X94 {α β:Type} {x:Option α} {f:α->Option β} {r:β} {G:Prop} (h:x.bind f=some r) (k:∀ v,x=some v->f v=some r->G):G:=by
 cases x with
 |none=>cases h
 |some v=>exact k v rfl h
theorem Xa5 {α:Type} {l:List α} {i:Int} {x:α} (h:Xes l i=some x):0<=i:=by
 unfold Xes at h;split at h
 ·assumption
 ·cases h
theorem Xco {α:Type} {l:List α} {i:Int} {x:α} (h:Xes l i=some x):l[i.toNat]?=some x:=by
 unfold Xes at h;split at h
 ·exact h
 ·cases h
theorem Xcn {α:Type} {l:List α} {i:Int} {x:α} {f:α->AV} (h:Xes l i=some x):(l.map f)[i.toNat]?=some (f x):=by
 rw[List.getElem?_map,Xco h];rfl
theorem X6z {α:Type} {l:List α} {i:Int} {x:α} (h:Xes l i=some x):i<(l.length:Int):=by
 have h1:=Xa5 h;have h2:=(List.getElem?_eq_some_iff.1 (Xco h)).1;omega
theorem X2i {α:Type} {l xs:List α} {k:Nat} {x:α} (h:l.drop k=x::xs):k<l.length/\l[k]?=some x/\l.drop (k+1)=xs:=by
 have hk:k<l.length:=by
  rcases Nat.lt_or_ge k l.length with h1|h1
  ·exact h1
  ·rw[List.drop_of_length_le h1] at h;cases h
 rw[List.drop_eq_getElem_cons hk] at h;injection h with h1 h2
 exact⟨hk,by rw[List.getElem?_eq_getElem hk,h1],h2⟩
theorem X3f {α:Type} {l:List α} {k:Nat} (h:l.drop k=[]):l.length<=k:=by
 simpa using h
theorem ixm {α:Type} {l:List α} {k:Nat} {x:α} {f:α->AV} (h:l[k]?=some x):(l.map f)[((k:Nat):Int).toNat]?=some (f x):=Xug h
theorem Xcy {n b:Nat} {u:Unit} (h:X4k n b=some u):n*b<=140737488355328:=by
 unfold X4k at h;split at h
 ·assumption
 ·cases h
theorem X3d {n:Nat} {u:Unit} (h:X5p n=some u):n<=140737488355328:=by
 unfold X5p at h;split at h
 ·assumption
 ·cases h
def opG (id esz:Nat) (es:List AV):List (Nat×Obj) :=
 match es with
 |[]=>[]
 |e::r=>[(id,{ es:=e::r,esz:=esz })]
theorem Xmz {α:Type} {f:α->AV} {n:Nat} (h:∀ x,(f x).cells.length=n) (l:List α):∀ e∈l.map f,e.cells.length=n:=by
 intro e he;obtain⟨x,_,rfl⟩:=List.mem_map.1 he;exact h x
theorem X1o {α:Type} {f:α->AV} (h:∀ x,X8o (f x)) (l:List α):∀ e∈l.map f,X8o e:=by
 intro e he;obtain⟨x,_,rfl⟩:=List.mem_map.1 he;exact h x
theorem Xx {α:Type} {f:α->AV} (h:∀ x,X5l (f x)) (l:List α):∀ e∈l.map f,X5l e:=by
 intro e he;obtain⟨x,_,rfl⟩:=List.mem_map.1 he;exact h x
def X99 (e:AV):Prop:=∀ M:Nat->Prop,e.Ok M/\∀ a∈e.cells,a.Ok M
theorem X1n {α:Type} {f:α->AV} (h:∀ x,X99 (f x)) (l:List α) (M:Nat->Prop):∀ e∈l.map f,∀ a∈e.cells,a.Ok M:=by
 intro e he;obtain⟨x,_,rfl⟩:=List.mem_map.1 he;exact(h x M).2
theorem X8h {e:AV} (h:X8o e) (hw:e.whole=true):X99 e:=λM=>by
 have h2:∀ a∈e.cells,a.Ok M:=λa ha=>by obtain⟨v,rfl⟩:=h a ha;exact .sc
 refine⟨?_,h2⟩
 cases e with
 |agg cs=>exact .agg h2
 |_=>first|exact h2 _ (List.mem_singleton.2 rfl)
def Nb {α:Type} (l:List α):Type:={ b:Bool // b=true->l=[] }
def nbF {α:Type} {l:List α}:Nb l:=⟨false,λh=>by cases h⟩
def nbT {α:Type} {l:List α} (h:l=[]):Nb l:=⟨true,λ_=>h⟩
def slE (nb:Bool) (id:Nat) (es:List AV):AV:=bif nb then .nils else .ref id 0 es.length
def opE (nb:Bool) (id esz:Nat) (es:List AV):List (Nat×Obj):=bif nb then [] else [(id,{ es:=es,esz:=esz })]
theorem Xd.join {P:Program} {nt n0:Nat} {Q:Xc->St->Mu->Prop} {cf:Cf} {K:List Kn} {μ:Mu} {s s':St} (h1:Xd P nt n0 Q (.exit .normal) K s' μ)
  (h2:Xd P nt n0 Q (.exit .normal) K s' μ->Xd P nt n0 Q cf K s μ):Xd P nt n0 Q cf K s μ:=h2 h1
theorem X5s {v:Value} {P:List AV} (h:∀ a∈P,∃ v,a=.sc v):∀ a∈(.sc v::P),∃ v,a=.sc v:=λa ha=>by
 rcases List.mem_cons.1 ha with rfl|ha
 ·exact⟨_,rfl⟩
 ·exact h a ha
theorem Xmm:∀ a∈([]:List AV),∃ v,a=.sc v:=λ_ h=>by cases h
theorem Xhz {v:Value}:X99 (.sc v):=λ_=>⟨.sc,λa ha=>by rw[List.mem_singleton.1 ha];exact .sc⟩
theorem Xcp {cs:List AV} (h:∀ M:Nat->Prop,∀ a∈cs,a.Ok M):X99 (.agg cs):=λM=>⟨.agg (h M),h M⟩
theorem X1m {e:AV} (h:X99 e) (M:Nat->Prop):∀ e'∈[e],∀ a∈e'.cells,a.Ok M:=λe' he=>by rw[List.mem_singleton.1 he];exact(h M).2
theorem Xts {l:List AV} (h:∀ a∈l,X96 a):X96 (.tup l):=.tup h
theorem Xbc {m:Bool} {H:Xh} {as bs:List AV} (h:Cvs m H as bs):Cv m H (.agg as) (.agg bs):=.agg h.len h.rel
theorem Xaa {m:Bool} {H:Xh} {e b:AV} (h:Cv m H e b):∀ own es,b=.list own es->e.cells=[e]:=by
 induction h with
 |weak h ih=>intro _ _ _;exact ih _ _ rfl
 |agg=>intro _ _ h;cases h
 |_=>intro _ _ _;rfl
theorem Xab {H:Xh} {e e':AV} (h:Cv false H e e'):∀ (k:Nat) a b,e.cells[k]?=some a->e'.cells[k]?=some b->Cv false H a b:=by
 intro k a b ha hb
 cases h with
 |agg hl h=>exact h k a b ha hb
 |weak h =>
  rw[Xaa h _ _ rfl] at ha
  cases k with
  |succ k=>simp at ha
  |zero=>simp[AV.cells] at ha hb;subst ha hb;exact .weak h
 |_ =>
  cases k with
  |succ k=>simp[AV.cells] at ha
  |zero =>
   simp[AV.cells] at ha hb;subst ha hb;first
    |exact .sc
    |exact .nils
    |exact .nils0
    |exact .fn0
    |(apply Cv.tup<;>assumption)
    |(apply Cv.listS;assumption)
    |(apply Cv.listD<;>assumption)
    |(apply Cv.ref<;>assumption)
    |(apply Cv.ptrL<;>assumption)
    |(apply Cv.elemD<;>assumption)
theorem Xyt {b:Bool} {P:Prop} (h:b=false):b=true->P:=λa=>Bool.noConfusion (a.symm.trans h)
theorem Xyu {b:Bool} {P:Prop} (h:b=true):(!b)=true->P:=λa=>by rw[h] at a;cases a
theorem X01 {m n b c:Nat} {u:Unit} (h:X4k n c=some u) (hb:b=c) (hm:m=n):m*b<=140737488355328:=by subst hb hm;exact Xcy h
theorem Xm {m n c:Nat} {u:Unit} (h:X4k n c=some u) (hc:0<c) (hm:m=n):m<=maxLen:=by
 subst hm;have:=Xcy h;have h2:m*1<=m*c:=Nat.mul_le_mul_left _ hc;unfold maxLen;omega
theorem X0 {c x y b:Bool} (h:c=true) (hx:x=b):(bif c then x else y)=b:=by rw[h];exact hx
theorem X2 {c x y b:Bool} (h:c=false) (hy:y=b):(bif c then x else y)=b:=by rw[h];exact hy
theorem Xwq {c:Bool} (h:c=true):(!c)=false:=by rw[h];rfl
theorem Xwr {c:Bool} (h:c=false):(!c)=true:=by rw[h];rfl
theorem Xrh {c b:Bool} (h:c=b):(!c)=!b:=by rw[h]
theorem Xha {f:Nat} {M:Nat->Prop}:(AV.fn f []).Ok M:=.fn λ_ h=>by cases h
theorem X9e {α:Type} {f:α->AV} {w:α->Prop} {es:List AV} (h:∀ x∈es,∃ e,x=f e/\w e):∃ l:List α,es=l.map f/\∀ y∈l,w y:=by
 induction es with
 |nil=>exact⟨[],rfl,λ_ h=>by cases h⟩
 |cons a r ih =>
  obtain⟨e,he,hw⟩:=h a (List.mem_cons_self ..);obtain⟨l,hl,hws⟩:=ih λx hx=>h x (List.mem_cons_of_mem _ hx);refine⟨e::l,by rw[he,hl];rfl,λy hy=>?_⟩;rcases List.mem_cons.1 hy with rfl|hy
  ·exact hw
  ·exact hws y hy
theorem X6n {P:Prop} (h:P:=by
 first
  |exact trivial
  |exact λh=>h
  |rfl
  |assumption
  |(apply Xa5;assumption;done)
  |(apply Xcn;assumption;done)
  |(apply getI_map0;assumption;done)
  |(apply ixm;assumption;done)
  |(apply ixm0;assumption;done)
  |(apply getI_mapc;assumption;done)
  |(apply getI_mapc0;assumption;done)
  |(apply ixmc;assumption;done)
  |(apply ixmc0;assumption;done)
  |(apply divOk_ne;assumption;done)
  |(apply shOk_le;assumption;done)
  |(intro a;rw[a];done)
  |(intro a;rw[a];rfl)
  |exact X7j om om
  |(refine Xmz ?_ _;intro x;rfl)
  |exact ex_head rfl
  |(refine cell_len_td ?_ _ _ _;intro x;rfl)
  |(refine cell_len_c ?_ _ _;intro x;rfl)
  |(refine take_full ?_;first|rfl|(simp;done)|(simp;omega)|(simp[*];done))
  |exact Nat.le_of_ble_eq_true rfl
  |(exact decide_eq_true om)
  |(exact decide_eq_false om)
  |(simp only[maxLen,List.length_append,List.length_map,List.length_cons,List.length_nil,List.length_replicate,Int.toNat_natCast];done)
  |(simp only[maxLen,List.length_append,List.length_map,List.length_cons,List.length_nil,List.length_replicate,Int.toNat_natCast] at *;omega)
  |(simp only[List.length_map];first|done|assumption|rfl)
  |(simp only[List.length_map];first|(apply Xa5;assumption;done)|(apply Xcn;assumption;done)|(apply getI_map0;assumption;done)|(apply getI_mapc;assumption;done)|(apply getI_mapc0;assumption;done))
  |(refine congrArg (λz=>AV.sc (Value.int IntKind.i64 z)) ?_;simp only[List.length_map,List.length_cons,List.length_append];done)
  |(refine congrArg (λz=>AV.sc (Value.int IntKind.i64 z)) ?_;first|(simp;done)|(simp;omega)|(simp[*];done))
  |(intro e he;rw[List.mem_singleton.1 he];rfl)
  |(intro e he;simp only[List.mem_cons,List.not_mem_nil,or_false] at he;rcases he with rfl|rfl<;>rfl)
  |exact andL
  |exact andR
  |(refine Xwq ?_;assumption)
  |(refine Xwr ?_;assumption)
  |(refine Xyt ?_;assumption)
  |(refine Xyu ?_;assumption)
  |omega
  |(simp;done)
  |(simp[*];done)
  |(intros;simp_all;done)):P:=h
end Go.Av


namespace Go.Av
variable [Gls]
theorem X8j {P:Program} {t et:Nat} {p:Option Addr} {n m:Nat} (hu:P.underlying t=some (.slice et)) (w:World) (d:Nat) :
  (Op.equalIn (d+1) t (.slice p n m) (.slice none 0 0)).run P w=.ok p.isNone w:=by
 unfold Op.equalIn;rw[Sem.run_bind,run_underlying hu w];cases p<;>rfl
theorem X75 {P:Program} {t:Nat} {et:Nat} {x:Operand} {p:Option Addr} {n m:Nat} (hu:P.underlying t=some (.slice et)) (w:World) (y:Operand) :
  ((do eqGuard .eql t x y (.slice p n m) (.slice none 0 0);binOp .eql t (.slice p n m) (.slice none 0 0):Sem Value)).run P w=.ok (.bool p.isNone) w:=by
 have h1:(eqGuard .eql t x y (.slice p n m) (.slice none 0 0)).run P w=.ok () w:=rfl;have h2:(binOp .eql t (.slice p n m) (.slice none 0 0))=(do pure (.bool (<-Op.equalIn (9999+1) t (.slice p n m) (.slice none 0 0))):Sem Value):=rfl;rw[Sem.run_bind,h1,Result.andThen_ok,h2,Sem.run_bind,X8j hu w 9999];rfl
def X3c:AV->Option Bool
 |.list _ es=>some es.isEmpty
 |.nils=>some true
 |.ref _ _ _=>some false
 |_=>none
theorem Xaw {c:Ctx} {a:AV} {v:Value} {b:Bool} (h:Xn c false a v) (hn:X3c a=some b):∃ p n m,v=.slice p n m/\(b=false->p.isNone=false):=by
 cases h with
 |listNil=>simp[X3c] at hn;subst hn;exact⟨_,_,_,rfl,λh=>by cases h⟩
 |list vf hne =>
  rename_i es b off cap esz n hS hn' hcap hsz hcell h1 h;exact⟨_,_,_,rfl,λ_=>rfl⟩
 |nils=>simp[X3c] at hn;subst hn;exact⟨_,_,_,rfl,λh=>by cases h⟩
 |ref=>exact⟨_,_,_,rfl,λ_=>rfl⟩
 |_=>cases hn
theorem Xd.eqNil {P:Program} {T:Ty} {nt n0:Nat} {Q:Xc->St->Mu->Prop} {ops:Array Oper} {l:List Oper} {o:Oper} {K:List Kn} {L:List (Nat×AV)} {G:List (Nat×Obj)} {n:Nat} {μ:Mu} {t yt:Nat} {x:Operand} {ti:TI} {et:Nat}
  {a:AV} {q:List Prop} {may:Bool} (hT:X1h P T) (ho:o.op=.binOp .eql t x (.const (.slice none 0 0)) yt) (hg:o.guard=none) (hd:X3n nt o.dst=true) (ht:T t=some ti) (hk:ti.kind=.slice et) (hx:rd L x=(a,q)) (hq:X0w q)
  (hm:X3c a=some may) (h:∀ b:Bool,(may=false->b=false)->Xd P nt n0 Q (.ops ops l) K ⟨fr (X5m o.dst (.sc (.bool b)) L),hp G,n⟩ μ):Xd P nt n0 Q (.ops ops (o::l)) K ⟨fr L,hp G,n⟩ μ:=by
 refine X0j.plain (s:=⟨fr L,hp G,n⟩) hg (X0i hd) (R:=λa' H' n'=>(∃ b:Bool,(may=false->b=false)/\a'=.sc (.bool b))/\H'=hp G/\n'=n) ?_ ?_
 ·intro c0 H0 n0' c act g K' Q' hK R;have hv:=g.ev x;rw[show evA (St.A ⟨fr L,hp G,n⟩) x=a from Xp hx hq] at hv;obtain⟨p,m1,m2,hv',hp'⟩:=Xaw hv hm;refine Oper.wpR (λd hd=>by rw[hd] at ho;cases ho) ?_;unfold Oper.wp;have hr:(execOp act.eval o).run P c.w=.ok (.value (.bool p.isNone)) c.w:=by
   obtain⟨dst,op,type,pos,after,guard⟩:=o;simp only at ho;subst ho;have:=X75 (P:=P) (t:=t) (x:=x) (p:=p) (n:=m1) (m:=m2) (Xw (hT t ti ht) hk) c.w (.const (.slice none 0 0));have hc:act.eval (.const (.slice none 0 0))=.slice none 0 0:=rfl;simp only[execOp,hv',hc];rw[Sem.run_bind,this];rfl
  rw[hr];exact hK c (.sc (.bool p.isNone)) (hp G) n (.bool p.isNone) ⟨⟨_,hp',rfl⟩,rfl,rfl⟩ λdst hd=>g.next hd (.refl c) rfl (λb hb=>.inl hb) (.refl c (hp G)) (λq x hx=>.inr ⟨q,x,hx,rfl⟩) g.inv g.solo (Nat.le_refl _) .sc .sc
 ·rintro a' H' n' ⟨⟨b,hb,rfl⟩,rfl,rfl⟩;have:=h b hb;rw[X0u] at this;exact this
theorem Xr3 {m:Bool} {α:Type} {f g:α->AV} {H:Xh} {o n:Nat} {x:Obj} {l:List α} (hH:H o=some x) (he:x.es=l.map f) (hn:n=l.length) (hc:∀ x,(f x).cells.length=(g x).cells.length)
  (h:∀ x (k:Nat) a b,(f x).cells[k]?=some a->(g x).cells[k]?=some b->Cv m H a b):Cv m H (.ref o 0 n) (.list m (l.map g)):=by
 have hg:∀ (i:Nat) e e',x.es[0+i]?=some e->(l.map g)[i]?=some e'->∃ y,e=f y/\e'=g y:=by
  intro i e e' h1 h2;rw[Nat.zero_add,he] at h1;simp only[List.getElem?_map,Option.map_eq_some_iff] at h1 h2;obtain⟨y,hy,rfl⟩:=h1;obtain⟨z,hz,rfl⟩:=h2;rw[hy] at hz;cases hz;exact⟨y,rfl,rfl⟩
 refine .ref hH (by rw[he,hn];simp) (by rw[hn];simp) (λi e e' h1 h2=>?_) (λi e e' k a b h1 h2 ha hb=>?_)
 ·obtain⟨y,rfl,rfl⟩:=hg i e e' h1 h2;exact hc y
 ·obtain⟨y,rfl,rfl⟩:=hg i e e' h1 h2;exact h y k a b ha hb
end Go.Av


namespace Go.Av
variable [Gls]
open MapKept
noncomputable def X4l (k v:Value):List (Value×Value)->List (Value×Value)
 |[]=>[(k,v)]
 |(a,b)::r=>open Classical in if a=k then (k,v)::r else (a,b)::X4l k v r
noncomputable def X55 (k:Value):List (Value×Value)->Option Value
 |[]=>none
 |(a,b)::r=>open Classical in if a=k then some b else X55 k r
theorem X9u {k v:Value}:∀ (l:List (Value×Value)) (j:Nat) (p:Value×Value),l[j]?=some p->p.1=k->(∀ i q,i<j->l[i]?=some q->q.1≠k)->X4l k v l=l.set j (k,v)/\X55 k l=some p.2:=by
 intro l
 induction l with
 |nil=>intro j p h;simp at h
 |cons a r ih =>
  obtain⟨a1,a2⟩:=a;intro j p h hk hn
  cases j with
  |zero=>simp at h;subst h;simp only at hk;simp[X4l,X55,hk]
  |succ j =>
   have h0:a1≠k:=hn 0 (a1,a2) (Nat.succ_pos j) rfl;obtain⟨h1,h2⟩:=ih j p (by simpa using h) hk (λi q hi hq=>hn (i+1) q (Nat.succ_lt_succ hi) (by simpa using hq));simp[X4l,X55,h0,h1,h2]
theorem X7m {k v:Value}:∀ (l:List (Value×Value)),(∀ q∈l,q.1≠k)->X4l k v l=l++[(k,v)]/\X55 k l=none:=by
 intro l
 induction l with
 |nil=>intro _;exact⟨rfl,rfl⟩
 |cons a r ih =>
  obtain⟨a1,a2⟩:=a;intro hn;have h0:a1≠k:=hn (a1,a2) (by simp);obtain⟨h1,h2⟩:=ih (λq hq=>hn q (List.mem_cons_of_mem _ hq));simp[X4l,X55,h0,h1,h2]
theorem X6i {d:TypeDesc} {k:Value} (hk:IsKey d k):∀ (l:List MapEntry) (i:Nat),(∀ x∈l,IsKey d x.key) ->
  (Instr.findNow d k l i=some none/\∀ x∈l,x.key≠k)\/∃ j e,Instr.findNow d k l i=some (some (i+j,e.val))/\l[j]?=some e/\e.key=k/\∀ m x,m<j->l[m]?=some x->x.key≠k:=by
 intro l
 induction l with
 |nil=>intro i _;exact .inl ⟨rfl,by simp⟩
 |cons e es ih =>
  intro i h;obtain⟨r,hr,hiff⟩:=sameNow_of_keys hk (h e (by simp))
  cases r with
  |true=>exact .inr ⟨0,e,by simp[Instr.findNow,hr],rfl,(hiff.1 rfl).symm,λm x hm=>absurd hm (Nat.not_lt_zero m)⟩
  |false =>
   have hne:e.key≠k:=λq=>by have:=hiff.2 q.symm;cases this
   rcases ih (i+1) (λx hx=>h x (List.mem_cons_of_mem _ hx)) with ⟨h1,h2⟩|⟨j,e',h1,h2,h3,h4⟩
   ·exact .inl ⟨by simp[Instr.findNow,hr,h1],λx hx=>by
     rcases List.mem_cons.1 hx with rfl|hx
     ·exact hne
     ·exact h2 x hx⟩
   ·refine .inr ⟨j+1,e',by simp[Instr.findNow,hr,h1];omega,by simpa using h2,h3,λm x hm hx=>?_⟩
    cases m with
    |zero=>simp at hx;subst hx;exact hne
    |succ m=>exact h4 m x om (by simpa using hx)
theorem Xaq {d:TypeDesc} {k:Value} (hk:IsKey d k) (n:Nat):Instr.sameBits (n+1) k k=true:=by
 cases d<;>cases k<;>simp_all [IsKey,Instr.sameBits,bytes_beq]
theorem X7g {P:Program} {w:World} {b:Nat} {l:List (Value×Value)} {t kt et:TypeId} {d:TypeDesc} {k v:Value} (hm:P.underlying t=some (.map kt et)) (hd:P.underlying kt=some d)
  (hM:X97 w b l) (hk:IsKey d k) (hks:∀ p∈l,IsKey d p.1) :
  ∃ o',(Instr.mapUpdate t (.map (some b)) k v).run P w=.ok () { w with heap:=w.heap.setIfInBounds b o' }/\X97 { w with heap:=w.heap.setIfInBounds b o' } b (X4l k v l):=by
 obtain⟨es,clock,hb,hl,hp,hc⟩:=hM;have hes:∀ x∈es.toList,IsKey d x.key:=λx hx=>hks (x.key,x.val) (by rw[<-hl];exact List.mem_map.2 ⟨x,hx,rfl⟩);have hset:∀ o',(w.heap.setIfInBounds b o')[b]?=some o':=λo'=>(heap_set (o':=o') hb).1;rcases X6i hk es.toList 0 hes with ⟨h1,h2⟩|⟨j,e,h1,h2,h3,h4⟩
 ·refine⟨.map (es.push { key:=k,val:=v,born:=clock }) (clock+1),?_,es.push { key:=k,val:=v,born:=clock },clock+1,hset _,?_,?_,?_⟩
  ·simp[Instr.mapUpdate,run_underlying hm,MapKept.run_getObj_map hb,run_checkKey hd hk,run_findKey hd h1,MapKept.run_setObj_map _ hb]
  ·rw[Array.toList_push,List.map_append,hl];rw[(X7m (v:=v) l (λq hq=>by
    rw[<-hl] at hq;obtain⟨x,hx,rfl⟩:=List.mem_map.1 hq;exact h2 x hx)).1]
   rfl
  ·rw[Array.toList_push];exact List.pairwise_append.2 ⟨hp,List.pairwise_singleton _ _,λa ha b' hb'=>by rw[List.mem_singleton.1 hb'];exact hc a ha⟩
  ·intro x hx;rw[Array.toList_push,List.mem_append] at hx;rcases hx with hx|hx
   ·exact Nat.lt_succ_of_lt (hc x hx)
   ·rw[List.mem_singleton.1 hx];exact Nat.lt_succ_self _
 ·have he:es[j]?=some e:=by simpa using h2
  have hlj:l[j]?=some (e.key,e.val):=by rw[<-hl,List.getElem?_map,h2];rfl
  have hm2:(es.modify j λe=>{ e with key:=k,val:=v }).toList=es.toList.modify j λe=>{ e with key:=k,val:=v }:=by simp
  refine⟨.map (es.modify j λe=>{ e with key:=k,val:=v }) clock,?_,es.modify j λe=>{ e with key:=k,val:=v },clock,hset _,?_,?_,?_⟩
  ·have hst:(Instr.keyThatStays k k).run P w=.ok k w:=by simp[Instr.keyThatStays,Xaq hk]
   simp only[Nat.zero_add] at h1;simp[Instr.mapUpdate,run_underlying hm,MapKept.run_getObj_map hb,run_checkKey hd hk,run_findKey hd h1,he,h3,hst,MapKept.run_setObj_map _ hb]
  ·rw[hm2,(X9u (v:=v) l j _ hlj h3 (λi q hi hq=>by
    rw[<-hl,List.getElem?_map] at hq
    cases hx:es.toList[i]? with
    |none=>rw[hx] at hq;cases hq
    |some x=>rw[hx] at hq;cases hq;exact h4 i x hi hx)).1,<-hl]
   apply List.ext_getElem?;intro i;simp only[List.getElem?_map,List.getElem?_modify,List.getElem?_set];by_cases hij:j=i
   ·subst hij;have hlt:j<es.toList.length:=(List.getElem?_eq_some_iff.1 h2).1;simp[he] at *;simpa using hlt
   ·simp[hij]
  ·rw[hm2];refine List.pairwise_iff_getElem.2 λi i' hi hi' hlt=>?_;have:=List.pairwise_iff_getElem.1 hp i i' (by simpa using hi) (by simpa using hi') hlt;simp only[List.getElem_modify];split<;>split<;>exact this
  ·intro x hx;rw[hm2] at hx;obtain⟨i,hi⟩:=List.getElem?_of_mem hx;rw[List.getElem?_modify] at hi
   cases hy:es.toList[i]? with
   |none=>rw[hy] at hi;simp at hi
   |some y =>
    rw[hy] at hi;have:=hc y (List.mem_of_getElem? hy);by_cases hij:j=i
    ·simp[hij] at hi;rw[<-hi];exact this
    ·simp[hij] at hi;rw[<-hi];exact this
theorem Inv.aside {c:Ctx} {H:Xh} {M:Nat->Prop} (hI:Inv c H M) {b:Nat} {w':World} (hsz:w'.heap.size=c.w.heap.size) (hw:∀ q,q≠b->w'.heap[q]?=c.w.heap[q]?) (hsa:¬ c.Sa b/\¬ c.So b) (hob:∀ o x,H o=some x->(c.ρ o).blk≠b) :
  c.Le M { c with w:=w' }/\Inv { c with w:=w' } H M:=by
 have hle:c.Le M { c with w:=w' }:=⟨λ_ _=>rfl,λ_ h=>h,λ_ h=>h,λq hq=>hw q (λe=>by subst e;exact hq.elim hsa.1 hsa.2),rfl⟩;refine⟨hle,⟨?_,hI.sep,hI.stab,λq hq=>by have:=hI.lt q hq;simp only[hsz];exact this,by have:=hI.base;simp only[hsz];exact this,hI.own,hI.low,hI.glob.mono hle⟩⟩;intro p x hx;obtain⟨h1,⟨⟨cur,hb,hs,hc⟩,h3,h4,h5⟩,h6⟩:=hI.obj p x hx;refine⟨h1,⟨⟨cur,?_,hs,?_⟩,h3,h4,h5⟩,h6⟩
 ·show w'.heap[(c.ρ p).blk]?=_;rw[hw _ (hob p x hx)];exact hb
 ·intro i e he;obtain⟨g1,g2⟩:=hc i e he;exact⟨g1,λk a ha=>by obtain⟨v,hv,hr,h7⟩:=g2 k a ha;exact⟨v,hv,hr.mono hle (.inr (h6 e (List.mem_of_getElem? he) a (List.mem_of_getElem? ha))),h7⟩⟩
section
variable {P:Program} {nt n0:Nat} {Q:Xc->St->Mu->Prop} {ops:Array Oper} {l:List Oper} {o:Oper} {K:List Kn} {L:List (Nat×AV)} {G:List (Nat×Obj)} {n:Nat} {μ:Mu}
theorem X73 {P:Program} (t:TypeId) (w:World):(Instr.makeMap t none).run P w=.ok (.map (some w.heap.size)) (w.alloc (.map #[] 0)):=rfl
theorem Xd.mapNew {t:Nat} (ho:o.op=.makeMap t none) (hg:o.guard=none) (hd:X3n nt o.dst=true)
  (h:∀ b,Xd P nt n0 Q (.ops ops l) K ⟨fr (X5m o.dst (.sc (.map (some b))) L),hp G,n⟩ ((b,.map [])::μ)):Xd P nt n0 Q (.ops ops (o::l)) K ⟨fr L,hp G,n⟩ μ:=by
 intro c0 H0 c act g hm Qx hQ R hR;refine Xv λK' hK'=>?_;rw[if_pos (by simp[Region.wanted,hg])];have hrun:(execOp act.eval o).run P c.w=.ok (.value (.map (some c.w.heap.size))) (c.w.alloc (.map #[] 0)):=by
  obtain⟨dst,op,type,pos,after,guard⟩:=o;simp only at ho;subst ho;simp only[execOp,Sem.run_bind,X73];rfl
 refine Oper.wpR (λd hd=>by rw[hd] at ho;cases ho) ?_;unfold Oper.wp;rw[hrun];obtain⟨h1,h2,h3⟩:=g.inv.waste (w':=c.w.alloc (.map #[] 0)) (.map #[] 0) rfl rfl rfl ⟨rfl,Nat.le_refl _⟩;have g2:=(g.rebase).next (c':={ c with w:=c.w.alloc (.map #[] 0) }) (dst:=o.dst) (a:=.sc (.map (some c.w.heap.size))) (v:=.map (some c.w.heap.size)) (X0i hd) h1 rfl (λb hb=>.inl hb) h3 (λq x hx=>.inr ⟨q,x,hx,rfl⟩) h2 g.solo (Nat.le_refl _) .sc .sc;have hk:=hm.kept g2.reach;have hnew:(c.w.alloc (.map #[] 0)).heap[c.w.heap.size]?=some (.map #[] 0):=(heap_alloc c.w _).1;have hb:=h c.w.heap.size;rw[X0u] at hb;refine hK' _ _ (hb c0 H0 { c with w:=c.w.alloc (.map #[] 0) } _ (.join g.reach g2) ⟨?_,?_,?_,(put_defers _ _ _).trans hm.ds⟩ Qx hQ R hR)
 ·intro p hp;rcases List.mem_cons.1 hp with rfl|hp
  ·exact⟨#[],0,hnew,rfl,List.Pairwise.nil,λe he=>by simp at he⟩
  ·exact hk.is p hp
 ·intro p hp;rcases List.mem_cons.1 hp with rfl|hp
  ·refine⟨λhs=>Nat.lt_irrefl _ (g.inv.lt _ (.inl hs)),λhs=>Nat.lt_irrefl _ (g.inv.lt _ (.inr hs)),λq x hx he=>?_,⟨by rw[<-g.reach.B];exact g.inv.base,.inl g.reach.size⟩⟩;obtain⟨_,⟨⟨cur,hcb,_⟩,_,_,_⟩,_⟩:=g.inv.obj q x hx;have he':(c.ρ q).blk=c.w.heap.size:=he;rw[he'] at hcb;simp at hcb
  ·exact hk.away p hp
 ·refine List.nodup_cons.2 ⟨λhmem=>?_,hk.nodup⟩;obtain⟨p,hp,he⟩:=List.mem_map.1 hmem;have:=(hm.is p hp).lt;simp only at he;omega
theorem Xd.mapUpd {T:Ty} {t b kt et:Nat} {m k x:Operand} {qm qk qx:List Prop} {kv xv:Value} {es:List (Value×Value)} {ti:TI} {d:TypeDesc} (hT:X1h P T) (ho:o.op=.mapUpdate t m k x) (hg:o.guard=none) (hd:o.dst=none)
  (ht:T t=some ti) (hkd:ti.kind=.map kt et) (hu:P.underlying kt=some d)
  (hm:rd L m=(.sc (.map (some b)),qm)) (hk:rd L k=(.sc kv,qk)) (hx:rd L x=(.sc xv,qx)) (hqm:X0w qm) (hqk:X0w qk) (hqx:X0w qx) (hik:IsKey d kv) (hks:∀ p∈es,IsKey d p.1)
  (h:Xd P nt n0 Q (.ops ops l) K ⟨fr L,hp G,n⟩ ((b,X4l kv xv es)::μ)):Xd P nt n0 Q (.ops ops (o::l)) K ⟨fr L,hp G,n⟩ ((b,es)::μ):=by
 intro c0 H0 c act g hM Qx hQ R hR;refine Xv λK' hK'=>?_;rw[if_pos (by simp[Region.wanted,hg])];have em:act.eval m=.map (some b):=by have:=g.ev m;rw[show evA (St.A ⟨fr L,hp G,n⟩) m=_ from Xp hm hqm] at this;exact this.sc_inv
 have ek:act.eval k=kv:=by have:=g.ev k;rw[show evA (St.A ⟨fr L,hp G,n⟩) k=_ from Xp hk hqk] at this;exact this.sc_inv
 have ex:act.eval x=xv:=by have:=g.ev x;rw[show evA (St.A ⟨fr L,hp G,n⟩) x=_ from Xp hx hqx] at this;exact this.sc_inv
 have hu1:P.underlying t=some (.map kt et):=by
  obtain⟨i,dd,_,hdd,_,hkk,_⟩:=Xr (hT t ti ht);rw[hkd] at hkk;cases dd<;>simp[X1] at hkk
  obtain⟨rfl,rfl⟩:=hkk;exact hdd
 obtain⟨o',hrun,hmap⟩:=X7g (v:=xv) hu1 hu (hM.is (b,es) (by simp)) hik hks;have hex:(execOp act.eval o).run P c.w=.ok .skip { c.w with heap:=c.w.heap.setIfInBounds b o' }:=by
  obtain⟨dst,op,type,pos,after,guard⟩:=o;simp only at ho;subst ho;simp only[execOp,em,ek,ex,Sem.run_bind,hrun];rfl
 refine Oper.wpR (λd hd=>by rw[hd] at ho;cases ho) ?_;unfold Oper.wp;rw[hex];obtain⟨a1,a2,a3,a4⟩:=hM.away (b,es) (by simp);obtain⟨es0,cl,hb0,_⟩:=hM.is (b,es) (by simp);have hoth:∀ q,q≠b->({ c.w with heap:=c.w.heap.setIfInBounds b o' }:World).heap[q]?=c.w.heap[q]?:=(heap_set (o':=o') hb0).2;obtain⟨h1,h2⟩:=g.inv.aside (w':={ c.w with heap:=c.w.heap.setIfInBounds b o' }) (by simp) hoth ⟨a1,a2⟩ a3;have g2:X0b nt c0 H0 n0 { c with w:={ c.w with heap:=c.w.heap.setIfInBounds b o' } } ⟨fr L,hp G,n⟩ act:=by
  refine⟨h2,g.solo,λq=>(g.frame q).mono h1 (.inr (g.ok q)),g.ok,g.size,?_,g.le0⟩;have r:=g.reach;refine⟨r.rho,r.os,r.tape,⟨r.output.1,Nat.le_trans r.output.2 (by first|exact Nat.le_refl _|exact X5u (Nat.le_succ _)|(simp;done)|(simp;omega))⟩,by simpa using r.size,λq hq hn=>?_,λq hq=>?_,r.sa,r.so1,r.so2,r.B,r.own⟩
  ·exact(hoth q (λe=>by subst e;exact(a4.no hq hn).elim)).trans (r.block q hq hn)
  ·refine(hoth q (λe=>?_)).trans (r.stable q hq);subst e;rcases hq with hq|hq
   ·exact a1 (by rw[r.sa];exact hq)
   ·exact a2 (r.so1 _ hq)
 have hact:act.put o.dst undef=act:=by rw[hd];rfl
 have hMs:MOk n0 c0 H0 { c with w:={ c.w with heap:=c.w.heap.setIfInBounds b o' } } (hp G) ((b,X4l kv xv es)::μ) act:=by
  refine⟨λp hp=>?_,λp hp=>?_,?_,hM.ds⟩
  ·rcases List.mem_cons.1 hp with rfl|hp
   ·exact hmap
   ·have hne:p.1≠b:=λe=>(List.nodup_cons.1 hM.nodup).1 (List.mem_map.2 ⟨p,hp,e⟩);exact(hM.is p (List.mem_cons_of_mem _ hp)).le (hoth _ hne) (h1.weaken λq hq=>Nat.lt_of_lt_of_le hq g.le0)
  ·rcases List.mem_cons.1 hp with rfl|hp
   ·exact hM.away (b,es) (by simp)
   ·exact hM.away p (List.mem_cons_of_mem _ hp)
  ·exact hM.nodup
 have:=hK' act { c.w with heap:=c.w.heap.setIfInBounds b o' } (h c0 H0 _ act g2 hMs Qx hQ R hR);show K' (act.put o.dst undef) _;rw[hact];exact this
theorem Xd.mapLen {T:Ty} {t b kt et:Nat} {x:Operand} {qx:List Prop} {es:List (Value×Value)} {ti:TI} (hT:X1h P T) (ho:o.op=.call { callee:=.builtin .len,args:=#[x],argTypes:=#[t] }) (hg:o.guard=none) (hd:X3n nt o.dst=true)
  (ht:T t=some ti) (hkd:ti.kind=.map kt et) (hx:rd L x=(.sc (.map (some b)),qx)) (hqx:X0w qx)
  (h:Xd P nt n0 Q (.ops ops l) K ⟨fr (X5m o.dst (.sc (.int .i64 es.length)) L),hp G,n⟩ ((b,es)::μ)):Xd P nt n0 Q (.ops ops (o::l)) K ⟨fr L,hp G,n⟩ ((b,es)::μ):=by
 intro c0 H0 c act g hM Qx hQ R hR;refine Xv λK' hK'=>?_;rw[if_pos (by simp[Region.wanted,hg])];have ex:act.eval x=.map (some b):=by have:=g.ev x;rw[show evA (St.A ⟨fr L,hp G,n⟩) x=_ from Xp hx hqx] at this;exact this.sc_inv
 have hu1:P.underlying t=some (.map kt et):=by
  obtain⟨i,dd,_,hdd,_,hkk,_⟩:=Xr (hT t ti ht);rw[hkd] at hkk;cases dd<;>simp[X1] at hkk
  obtain⟨rfl,rfl⟩:=hkk;exact hdd
 obtain⟨es0,cl,hb0,hl,_⟩:=hM.is (b,es) (by simp);have hsz:es0.size=es.length:=by have hl':es0.toList.map (λe=>(e.key,e.val))=es:=hl;rw[<-hl'];simp
 have hex:(execOp act.eval o).run P c.w=.ok (.value (.int .i64 es.length)) c.w:=by
  obtain⟨dst,op,type,pos,after,guard⟩:=o;simp only at ho;subst ho;simp[execOp,resolve,invoke,builtin,Builtin.len_,ex,run_underlying hu1,MapKept.run_getObj_map hb0,goInt,hsz]
 refine Oper.wpR (λd hd=>by rw[hd] at ho;cases ho) ?_;unfold Oper.wp;rw[hex];have g2:=g.next (c':=c) (dst:=o.dst) (a:=.sc (.int .i64 es.length)) (v:=.int .i64 es.length) (X0i hd) (.refl c) rfl (λb hb=>.inl hb) (.refl c (hp G)) (λq x hx=>.inr ⟨q,x,hx,rfl⟩) g.inv g.solo (Nat.le_refl _) .sc .sc;rw[X0u] at h;exact hK' _ _ (h c0 H0 c _ g2 hM.act Qx hQ R hR)
end
end Go.Av
namespace Go.D
def Xa9 (ks:List Int) (z:Int):List Int:=if z∈ks then ks else ks++[z]
def X6k (ks:List Int):List Int->List Int
 |[]=>ks
 |z::zs=>X6k (Xa9 ks z) zs
end Go.D
namespace Go.Av
def X8x (z:Int):Value×Value:=(.int .i64 z,.bool true)
end Go.Av


namespace Go.Av
variable [Gls]
theorem Oper.wp_mono2 {P:Program} {o:Oper} {a:Act} {w:World} {K K':Act->World->Prop} {Q Q':Exit->Act->World->Prop} (h:∀ a w,K a w->K' a w) (hq:∀ e a w,e≠.normal->Q e a w->Q' e a w)
  (hh:o.wp P a w K Q):o.wp P a w K' Q':=by
 unfold Oper.wp at *;generalize (execOp a.eval o).run P w=r at *
 cases r with
 |ok n w' =>
  cases n with
  |enter f args =>
   simp only[Oper.upon] at hh ⊢;refine Calls.mono hh (λe w'' he=>?_)
   cases e with
   |returned v=>exact h _ _ he
   |panicked ch=>exact hq _ _ _ (by intro h;cases h) he
   |outgrown=>obtain⟨a0,w0,h0⟩:=he;exact⟨a0,w0,hq _ _ _ (by intro h;cases h) h0⟩
  |row row args=>simp only[Oper.upon] at hh ⊢;exact Rows.mono hh (λ_ _ he=>h _ _ he)
  |_=>simp only[Oper.upon] at hh ⊢<;>exact h _ _ hh
 |halt x w'=>cases x<;>simp only[Oper.upon] at hh ⊢<;>first|exact hh|exact hq _ _ _ (by intro h;cases h) hh
section
variable {P:Program} {ops:Array Oper} {Q:Exit->Act->World->Prop}
theorem X9c:∀ (f:Nat) (listed:Array Bool) (a:Act) (w:World),wpAny P .any ops Q f listed a w->wpAny P .any ops Q (f+1) listed a w
 |0,listed,a,w,h=>⟨λ_=>h.2,λi hi=>by rw[h.1] at hi;cases hi⟩
 |f+1,listed,a,w,h=>⟨h.1,λi hi=>wpOp_mono (λa' w' h'=>X9c f _ a' w' h') (h.2 i hi)⟩
theorem Xbn (n:Nat):∀ (f:Nat) (listed:Array Bool) (a:Act) (w:World),wpAny P .any ops Q f listed a w->wpAny P .any ops Q (f+n) listed a w:=by
 induction n with
 |zero=>intro f l a w h;exact h
 |succ n ih=>intro f l a w h;exact X9c (f+n) l a w (ih f l a w h)
def Xa3 (l:List Oper):Bool:=l.all λo=>match o.guard with
 |some (j,_)=>Nat.blt j l.length
 |none=>true
theorem X65 {listed:Array Bool} {i:Nat} {o:Oper} (hi:i∈Region.ready .any ops listed) (ho:ops.toList[i]?=some o):∀ j∈X3s o,listed.getD j false=true:=by
 rw[X1j] at hi;obtain⟨_,_,h3⟩:=hi;have ho':ops[i]?=some o:=by simpa using ho
 rw[ho'] at h3;simp only[Option.map_some,Option.getD_some] at h3;intro j hj;obtain⟨e,he,rfl⟩:=List.mem_map.1 hj;obtain⟨he1,he2⟩:=List.mem_filter.1 he;rw[Array.all_eq_true_iff_forall_mem] at h3;have:=h3 e (by simpa using he1);rw[he2] at this;simpa using this
theorem X87 {listed:Array Bool} {i:Nat} {o:Oper} (hsz:listed.size=ops.size) (ho:ops.toList[i]?=some o) (hl:listed.getD i false=false) (h:∀ j∈X3s o,listed.getD j false=true):i∈Region.ready .any ops listed:=by
 have hi:i<ops.size:=by have:=(List.getElem?_eq_some_iff.1 ho).1;simpa using this
 rw[X1j];refine⟨hi,?_,?_⟩
 ·have hil:i<listed.size:=by omega
  simp only[Array.getD_eq_getD_getElem?,Array.getElem?_eq_getElem hil,Option.getD_some] at hl ⊢;exact hl
 ·have ho':ops[i]?=some o:=by simpa using ho
  rw[ho'];simp only[Option.map_some,Option.getD_some];rw[Array.all_eq_true_iff_forall_mem];intro e he
  cases hb:Region.binds .any e with
  |false=>rfl
  |true=>simpa using h e.on (List.mem_map.2 ⟨e,List.mem_filter.2 ⟨by simpa using he,hb⟩,rfl⟩)
def Xc4 (ops:Array Oper) (listed:Array Bool):Prop:=∀ (i:Nat) o,ops.toList[i]?=some o->listed.getD i false=true->∀ j∈X3s o,listed.getD j false=true
theorem Xfm (hpre:X2f 0 ops.toList=true) {listed:Array Bool} (hc:Xc4 ops listed) {i:Nat} (hi:i∈Region.ready .any ops listed) {q:Nat} (hq:((Xz ops.toList).getD i 0).testBit q=true):listed.getD q false=true:=by
 have hlt:=(X1j.1 hi).1;have ho:ops.toList[i]?=some ops[i]:=by simp[hlt]
 have hp:∀ (i:Nat) o,ops.toList[i]?=some o->∀ j∈X3s o,j<i:=λi o ho j hj=>by have:=X2r _ 0 hpre i o ho j hj;omega
 exact(X7e (S:=λk=>listed.getD k false) hp hc i _ ho (X65 hi ho) q hq).1
theorem X4b {listed:Array Bool} {i k:Nat} (hi:i<listed.size):(listed.setIfInBounds i true).getD k false=(listed.getD k false||Nat.beq k i):=by
 simp only[Array.getD_eq_getD_getElem?];by_cases h:k=i
 ·subst h;simp[hi]
 ·have:Nat.beq k i=false:=by rw[<-Bool.not_eq_true,Nat.beq_eq];exact h
  rw[Array.getElem?_setIfInBounds_ne (λe=>h e.symm),this,Bool.or_false]
theorem Xdp {j i:Nat} {o:Oper} (h:(ops.toList.take j)[i]?=some o):ops.toList[i]?=some o/\i<j:=by
 rw[List.getElem?_take] at h;split at h
 ·exact⟨h,by assumption⟩
 ·cases h
end
end Go.Av
namespace Go.Av
end Go.Av


namespace Go.Av
variable [Gls]
end Go.Av


namespace Go.Av
variable [Gls]
structure Xc5 (c:Ctx) (H:Xh) (b:Nat):Prop where
 sa:¬ c.Sa b
 so:¬ c.So b
 ob:∀ o x,H o=some x->(c.ρ o).blk≠b
theorem Xc5.kept {c c':Ctx} {H H':Xh} {n b:Nat} (h:Xc5 c H b) (hb:b<c.w.heap.size) (r:Reach c H n c' H'):Xc5 c' H' b:=by
 refine⟨by rw[r.sa];exact h.sa,λhs=>?_,λo x hx he=>?_⟩
 ·rcases r.so2 _ hs with h1|h1|⟨o,x,h1,h2⟩
  ·exact h.so h1
  ·omega
  ·exact h.ob o x h1 h2
 ·rcases r.own o x hx with h1|⟨o',x',h1,h2⟩
  ·omega
  ·exact h.ob o' x' h1 (h2.trans he)
theorem Reach.weaken {c c':Ctx} {H H':Xh} {n n':Nat} (r:Reach c H n c' H') (h:n'<=n):Reach c H n' c' H' :=
 ⟨λo ho=>r.rho o (Nat.lt_of_lt_of_le ho h),r.os,r.tape,r.output,r.size,r.block,r.stable,r.sa,r.so1,r.so2,r.B,r.own⟩
theorem X0b.turn0 {nt n0:Nat} {c0 c:Ctx} {H0:Xh} {s:St} {act:Act} {b:Nat} (o:Go.Obj) (g:X0b nt c0 H0 n0 c s act) (h:Xc5 c s.H b) :
  X0b nt { c with w:=c.w.putObj b o } s.H n0 { c with w:=c.w.putObj b o } s act/\c.Le (λ_=>True) { c with w:=c.w.putObj b o }:=by
 have hother:∀ k,k≠b->(c.w.putObj b o).heap[k]?=c.w.heap[k]?:=λk hk=>World.putObj_heap_other hk;have hle:c.Le (λ_=>True) { c with w:=c.w.putObj b o } :=
  ⟨λ_ _=>rfl,λ_ h=>h,λ_ h=>h,λk hk=>hother k (λe=>by subst e;exact hk.elim h.sa h.so),rfl⟩
 have all:∀ {a:AV} {M:Nat->Prop},a.Ok M->a.Ok (λ_=>True):=λh=>h.mono λ_ _=>trivial;refine⟨⟨⟨λq x hx=>?_,g.inv.sep,g.inv.stab,λk hk=>?_,?_,g.inv.own,g.inv.low,g.inv.glob.mono hle⟩,g.solo,λt=>(g.frame t).mono hle (.inr (all (g.ok t))),g.ok,g.size,.refl _ _ _,g.le0⟩,hle⟩
 ·obtain⟨i1,⟨⟨cur,hb,hs,hc⟩,i3,i4,i5⟩,i6⟩:=g.inv.obj q x hx;refine⟨i1,⟨⟨cur,(hother _ (h.ob q x hx)).trans hb,hs,λi e he=>?_⟩,i3,i4,i5⟩,i6⟩;obtain⟨g1,g2⟩:=hc i e he;exact⟨g1,λk a ha=>by obtain⟨v,hv,hr,h7⟩:=g2 k a ha;exact⟨v,hv,hr.mono hle (.inr (all (i6 e (List.mem_of_getElem? he) a (List.mem_of_getElem? ha)))),h7⟩⟩
 ·show k<(c.w.putObj b o).heap.size;rw[World.putObj_size];exact g.inv.lt k hk
 ·show c.B<=(c.w.putObj b o).heap.size;rw[World.putObj_size];exact g.inv.base
theorem Reach.turnBack {c c1 c2:Ctx} {H H1 H2:Xh} {n b:Nat} {o0 o1:Go.Obj} (r1:Reach c H n c1 H1) (r2:Reach { c1 with w:=c1.w.putObj b o1 } H1 n c2 H2) (hb:c.w.heap[b]?=some o0) (h:Xc5 c H b) :
  Reach c H n { c2 with w:=c2.w.putObj b o0 } H2:=by
 have hlt:b<c.w.heap.size:=(Array.getElem?_eq_some_iff.1 hb).1;have hs2:c.w.heap.size<=c2.w.heap.size:=by
  have h1:=r1.size;have h2:(c1.w.putObj b o1).heap.size<=c2.w.heap.size:=r2.size;rw[World.putObj_size] at h2;omega
 refine⟨λo ho=>(r2.rho o ho).trans (r1.rho o ho),r2.os.trans r1.os,r2.tape.trans r1.tape,⟨r2.output.1.trans r1.output.1,Nat.le_trans r1.output.2 r2.output.2⟩,?_,λk hk hn=>?_,λk hk=>?_,r2.sa.trans r1.sa,λk hk=>r2.so1 k (r1.so1 k hk),λk hk=>?_,r2.B.trans r1.B,λo x hx=>?_⟩
 ·show c.w.heap.size<=(c2.w.putObj b o0).heap.size;rw[World.putObj_size];exact hs2
 ·show(c2.w.putObj b o0).heap[k]?=_;by_cases e:k=b
  ·subst e;rw[World.putObj_heap_same om];exact hb.symm
  ·rw[World.putObj_heap_other e];have h2:c2.w.heap[k]?=(c1.w.putObj b o1).heap[k]?:=r2.block k (by show k<(c1.w.putObj b o1).heap.size;rw[World.putObj_size];exact Nat.lt_of_lt_of_le hk r1.size) λo x hx he=>by
    rcases r1.own o x hx with h1|⟨o',x',h1,h2⟩
    ·have he':(c1.ρ o).blk=k:=he;omega
    ·exact hn o' x' h1 (h2.trans he)
   rw[h2,World.putObj_heap_other e];exact r1.block k hk hn
 ·show(c2.w.putObj b o0).heap[k]?=_;have e:k≠b:=λe=>by subst e;exact hk.elim h.sa h.so
  rw[World.putObj_heap_other e];have h2:c2.w.heap[k]?=(c1.w.putObj b o1).heap[k]?:=r2.stable k (hk.imp (λx=>by show c1.Sa k;rw[r1.sa];exact x) (r1.so1 k));rw[h2,World.putObj_heap_other e];exact r1.stable k hk
 ·rcases r2.so2 k hk with h1|h1|⟨q,y,h1,h2⟩
  ·exact r1.so2 k h1
  ·right;left
   have h3:(c1.w.putObj b o1).heap.size<=k:=h1;rw[World.putObj_size] at h3;exact Nat.le_trans r1.size h3
  ·have h2':(c1.ρ q).blk=k:=h2;rcases r1.own q y h1 with h3|⟨q',y',h3,h4⟩
   ·exact .inr (.inl om)
   ·exact .inr (.inr ⟨q',y',h3,h4.trans h2'⟩)
 ·rcases r2.own o x hx with h1|⟨q,y,h1,h2⟩
  ·left;have h3:(c1.w.putObj b o1).heap.size<=(c2.ρ o).blk:=h1;rw[World.putObj_size] at h3;exact Nat.le_trans r1.size h3
  ·rcases r1.own q y h1 with h3|⟨q',y',h3,h4⟩
   ·left;have:(c1.ρ q).blk=(c2.ρ o).blk:=h2;show c.w.heap.size<=(c2.ρ o).blk;omega
   ·exact .inr ⟨q',y',h3,h4.trans h2⟩
def Xsd:List Nat->List AV->List (Nat×AV)->List (Nat×AV)
 |p::ps,a::as,L=>Xsd ps as ((p,a)::L)
 |_,_,L=>L
theorem Xkw {c:Ctx} {n:Nat}:∀ (ps:List Nat) (as:List AV) (vs:List Value) (L:List (Nat×AV)) (tmps:Array Value),as.length=vs.length->(∀ (i:Nat) a v,as[i]?=some a->vs[i]?=some v->Xn c false a v/\a.Ok (·<n)) ->
  (∀ p∈ps,p<tmps.size)->(∀ t,Xn c false (fr L t) (tmps.getD t undef)/\(fr L t).Ok (·<n)) ->
  (∀ t,Xn c false (fr (Xsd ps as L) t) (((ps.zip vs).foldl (λt (p,v)=>t.setIfInBounds p v) tmps).getD t undef)/\(fr (Xsd ps as L) t).Ok (·<n))/\((ps.zip vs).foldl (λt (p,v)=>t.setIfInBounds p v) tmps).size=tmps.size:=by
 intro ps
 induction ps with
 |nil=>intro as vs L tmps _ _ _ h;cases as<;>exact⟨h,rfl⟩
 |cons p ps ih =>
  intro as vs L tmps hl ha hp h
  cases as with
  |nil =>
   have:vs=[]:=List.eq_nil_of_length_eq_zero (by rw[<-hl];rfl);subst this;exact⟨h,rfl⟩
  |cons a as =>
   cases vs with
   |nil=>simp at hl
   |cons v vs =>
    have h0:=ha 0 a v rfl rfl;obtain⟨k1,k2⟩:=ih as vs ((p,a)::L) (tmps.setIfInBounds p v) (by simpa using hl) (λi a v h1 h2=>ha (i+1) a v (by simpa using h1) (by simpa using h2)) (λq hq=>by simpa using hp q (List.mem_cons_of_mem _ hq)) (λt=>by
     rw[X6e (hp p List.mem_cons_self)];by_cases ht:t=p
     ·subst ht;rw[if_pos rfl];have:fr ((t,a)::L) t=a:=by simp[fr]
      rw[this];exact h0
     ·rw[if_neg ht];have:fr ((p,a)::L) t=fr L t:=by
       have hb:Nat.beq t p=false:=by rw[<-Bool.not_eq_true,Nat.beq_eq];exact ht
       simp[fr,hb]
      rw[this];exact h t)
    exact⟨k1,by simpa using k2⟩
def Xyr (P:Program) (nt n:Nat) (body:Code) (RQ:Xc->St->Mu->Prop):Xc->St->Mu->Prop:=λe s μ=>e=.normal/\μ=[]/\X0c P nt n body RQ s []
theorem Xd.asg {P:Program} {nt n:Nat} {body:Code} {RQ:Xc->St->Mu->Prop} {s:St} (h:Xd P nt n RQ (.code body) [] s []):Xd P nt n (Xyr P nt n body RQ) (.exit .normal) [] s [] :=
 Cl.mk ⟨rfl,rfl,X0c.ofCl h⟩
theorem X9i {μ:Mu} {b:Nat} {r:Loop} {nt m:Nat} {A:Nat->AV} (h:(b,.loop r nt m A)∈μ):Xav μ=false:=by
 induction μ with
 |nil=>cases h
 |cons p μ ih =>
  obtain⟨q,x⟩:=p;rcases List.mem_cons.1 h with h|h2
  ·cases h;rfl
  ·cases x with
   |loop=>rfl
   |mark=>exact ih h2
   |map=>exact ih h2
   |blk=>exact ih h2
def rndQ (P:Program) (nt n0:Nat) (Q:Xc->St->Mu->Prop) (ops:Array Oper) (l:List Oper) (K:List Kn) (L:List (Nat×AV)) (d:Option Nat) (μ:Mu):Xc->St->Mu->Prop :=
 λe s _=>e=.normal/\Xd P nt n0 Q (.ops ops l) K ⟨X1b (fr L) d (.sc (.bool true)),s.H,s.n⟩ μ
theorem Xd.yield {P:Program} {nt n0 n b ntc m:Nat} {Q:Xc->St->Mu->Prop} {ops:Array Oper} {l:List Oper} {o:Oper} {K:List Kn} {L Lc:List (Nat×AV)} {G:List (Nat×Obj)} {μ:Mu} {x:Operand} {args:Array Operand} {ts:Array Nat} {r:Loop}
  {as:List AV} {qx qa:List Prop} {ps:Array Nat} {assign body:Code} (ho:o.op=.call { callee:=.value x,args:=args,argTypes:=ts }) (hg:o.guard=none) (hd:X3n nt o.dst=true)
  (hx:rd L x=(.sc (.func (.yield b) #[] #[]),qx)) (ha:rds L args.toList=(as,qa)) (hqx:X0w qx) (hqa:X0w qa)
  (hμ:(b,.loop r ntc m (fr Lc))∈μ) (h1:r.state=.ready) (h2:r.pending=none) (h3:r.params=ps) (h4:r.assign=assign) (h5:r.body=body)
  (hps:(Nat.beq as.length ps.size&&ps.toList.all λp=>Nat.blt p ntc)=true) (ht:(X08 assign||X08 body)=false)
  (h:Xd P ntc n (Xyr P ntc n body (rndQ P nt n0 Q ops l K L o.dst μ)) (.code assign) [] ⟨fr (Xsd ps.toList as Lc),hp G,n⟩ []):Xd P nt n0 Q (.ops ops (o::l)) K ⟨fr L,hp G,n⟩ μ:=by
 subst h3 h4 h5;simp only[Bool.and_eq_true,Nat.beq_eq,List.all_eq_true,Nat.blt_eq] at hps;obtain⟨hp1,hp2⟩:=hps;simp only[Bool.or_eq_false_iff] at ht;intro c0 H0 c act g hm Qx hQ R hR
 cases R with
 |none=>rw[X9i hμ] at hR;exact absurd (hR rfl) (by simp)
 |some R =>
 refine Xv λK' hK'=>?_;rw[if_pos (by simp[Region.wanted,hg])];obtain⟨⟨hrec,hsz⟩,hmn,hAok,hA⟩:=hm.is _ hμ;obtain⟨w1,w2,w3,w4⟩:=hm.away _ hμ;have haw:Xc5 c (hp G) b:=⟨w1,w2,w3⟩;have hlt:b<c.w.heap.size:=(Array.getElem?_eq_some_iff.1 hrec).1;have ex:act.eval x=.func (.yield b) #[] #[]:=by have:=g.ev x;rw[show evA (St.A ⟨fr L,hp G,n⟩) x=_ from Xp hx hqx] at this;exact this.sc_inv
 have hargs:args.toList.map (evA (fr L))=as:=X84 ha hqa;have hlen:as.length=args.size:=by rw[<-hargs];simp
 have hy:=run_yield (P:=P) (args:=args.map act.eval) hrec (by rw[Array.size_map,<-hlen];exact hp1);have hrun:(execOp act.eval o).run P c.w=.ok (.round b r.fn ((r.params.zip (args.map act.eval)).foldl (λtmps (t,a)=>tmps.setIfInBounds t a) r.tmps) r.assign r.body) c.w:=by
  simp only[execOp,ho,resolve,ex,Deferred.ofValue,Sem.run_bind,Sem.run_pure,Result.andThen_ok,invoke,Array.empty_append,Array.append_empty];exact hy
 show Oper.wpIn (FR R) 0 P o act c.w K' Qx;refine⟨λ_ _=>trivial,?_⟩;rw[Oper.semAt_eq _ _ _ (λd hd=>by rw[hd] at ho;cases ho),hrun,Oper.uponIn_round];refine⟨λh=>Bool.noConfusion h,roundIn_of_wpIn trivial ?_⟩;have hz:(r.params.zip (args.map act.eval)).foldl (λtmps (t,a)=>tmps.setIfInBounds t a) r.tmps=(r.params.toList.zip (args.toList.map act.eval)).foldl (λt (p,v)=>t.setIfInBounds p v) r.tmps:=by
  rw[<-Array.foldl_toList];simp
 have hzip:=Xkw (c:=c) (n:=n) r.params.toList as (args.toList.map act.eval) Lc r.tmps (by rw[<-hargs];simp) (λi a v h1 h2=>by
   rw[<-hargs,List.getElem?_map] at h1;rw[List.getElem?_map] at h2
   cases hq:args.toList[i]? with
   |none=>simp[hq] at h1
   |some q =>
    simp only[hq,Option.map_some,Option.some.injEq] at h1 h2;subst h1 h2;exact⟨g.ev q,g.evOk q⟩) (λp hp=>by rw[hsz];exact hp2 p hp) (λt=>⟨hA t,(hAok t).mono λq hq=>Nat.lt_of_lt_of_le hq (Nat.le_trans hmn g.le0)⟩)
 rw[<-hz] at hzip;have gB:X0b ntc c (hp G) n c ⟨fr (Xsd r.params.toList as Lc),hp G,n⟩ { tmps:=(r.params.zip (args.map act.eval)).foldl (λtmps (t,a)=>tmps.setIfInBounds t a) r.tmps,defers:=[] } :=
  ⟨g.inv,g.solo,λt=>(hzip.1 t).1,λt=>(hzip.1 t).2,hzip.2.trans hsz,.refl _ _ _,Nat.le_refl _⟩
 refine wpIn_mono (X0c.ofCl h c (hp G) c _ gB (.nil rfl) (some b) (λh=>by rw[ht.1] at h;cases h)) ?_;rintro e a1 w' ⟨c1,s1,ae,μ1,rfl,g1,hm1,rfl,rfl,rfl,hbody⟩;have hrec1:c1.w.heap[b]?=some (.loop r):=(g1.reach.block b hlt haw.ob).trans hrec;refine⟨_,run_beginRound hrec1 h1,?_⟩;have aw1:Xc5 c1 s1.H b:=haw.kept hlt g1.reach;obtain⟨g1',_⟩:=g1.turn0 (.loop { r with state:=.busy }) aw1;refine wpIn_mono (hbody _ s1.H _ a1 g1' (.nil hm1.ds) (some b) (λh=>by rw[ht.2] at h;cases h)) ?_;rintro e a2 w' ⟨c2,s2,ae,μ2,rfl,g2,hm2,rfl,rfl,hk⟩;have hlt1:b<c1.w.heap.size:=(Array.getElem?_eq_some_iff.1 hrec1).1;have hrec2:c2.w.heap[b]?=some (.loop { r with state:=.busy }) :=
  (g2.reach.block b (by show b<(c1.w.putObj b _).heap.size;rw[World.putObj_size];exact hlt1) aw1.ob).trans (World.putObj_heap_same hlt1)
 have hr:({ r with state:=.ready,pending:=none }:Loop)=r:=by
  obtain⟨st,pe,fn,tm,pa,asg,bd,de⟩:=r;simp only at h1 h2;subst h1 h2;rfl
 have hend:=run_endRound (P:=P) none hrec2;simp only[Option.isNone_none,if_true] at hend;rw[hr] at hend;refine⟨_,_,hend,?_⟩;have aw2:Xc5 c2 s2.H b:=(Xc5.mk aw1.sa aw1.so aw1.ob:Xc5 { c1 with w:=c1.w.putObj b (.loop { r with state:=.busy }) } s1.H b).kept (by show b<(c1.w.putObj b _).heap.size;rw[World.putObj_size];exact hlt1) g2.reach;obtain⟨g3,_⟩:=g2.turn0 (.loop r) aw2;have rt:Reach c (hp G) n { c2 with w:=c2.w.putObj b (.loop r) } s2.H:=Reach.turnBack g1.reach g2.reach hrec haw;have gf:=g.next (X0i hd) rt.le rt.sa rt.so2 rt.fr rt.own g3.inv g3.solo g3.le0 (a:=.sc (.bool true)) (v:=.bool true) .sc .sc;exact hK' _ _ (hk c0 H0 _ _ gf (hm.kept (rt.weaken g.le0)) Qx hQ (some R) (λh=>by cases h))
def rfQ (P:Program) (nt n0:Nat) (Q:Xc->St->Mu->Prop) (K:List Kn) (L:List (Nat×AV)) (μ:Mu) (D:Nat) (μi:Mu):Xc->St->Mu->Prop :=
 λe s μ'=>(∀ id,e≠.exit id)/\μ'=μi/\Xd P nt n0 Q (.exit .normal) K ⟨fr L,s.H,s.n⟩ ((D,.mark)::μ)
theorem X0b.alloc {nt n0:Nat} {c0 c:Ctx} {H0:Xh} {s:St} {act:Act} (o:Go.Obj) (g:X0b nt c0 H0 n0 c s act):X0b nt c0 H0 n0 { c with w:=c.w.alloc o } s act:=by
 obtain⟨h1,h2,h3⟩:=g.inv.waste (w':=c.w.alloc o) o rfl rfl rfl ⟨rfl,Nat.le_refl _⟩;have:=g.next (c':={ c with w:=c.w.alloc o }) (dst:=none) (a:=.sc undef) (v:=undef) (λd h=>by cases h) h1 rfl (λb hb=>.inl hb) h3 (λq x hx=>.inr ⟨q,x,hx,rfl⟩) h2 g.solo (Nat.le_refl _) .sc .sc;exact this
theorem Xd.rangeFunc {P:Program} {nt n0 n gf nti:Nat} {Q:Xc->St->Mu->Prop} {K:List Kn} {L:List (Nat×AV)} {G:List (Nat×Obj)} {μ:Mu} {g:Operand} {ps:Array Nat} {assign body codeI:Code} {fnI:Func} {caps:List AV} {q:List Prop}
  (hg:rd L g=(.fn gf caps,q)) (hq:X0w q) (hfn:X5d P gf fnI codeI) (hnt:fnI.ntmps=nti) (hle:Nat.ble (caps.length+1) nti=true) (hres:fnI.results=#[])
  (h:∀ (b D:Nat) (r:Loop),r.state=.ready->r.pending=none->r.params=ps->r.assign=assign->r.body=body ->
   Xd P nti n (rfQ P nt n0 Q K L μ D [(b,.loop r nt n (fr L)),(D,.blk (.deferred (some [])))]) (.code codeI) [] ⟨fr (argL 0 (.sc (.func (.yield b) #[] #[])::caps)),hp G,n⟩ [(b,.loop r nt n (fr L)),(D,.blk (.deferred (some [])))]) :
  Xd P nt n0 Q (.code (.rangeFunc g ps assign body)) K ⟨fr L,hp G,n⟩ μ:=by
 intro c0 H0 c act gd hm R hR;obtain rfl:=hR rfl;have hv:=gd.ev g;rw[show evA (St.A ⟨fr L,hp G,n⟩) g=_ from Xp hg hq] at hv;have hvo:=gd.evOk g;rw[show evA (St.A ⟨fr L,hp G,n⟩) g=_ from Xp hg hq] at hvo;obtain⟨cv,hcv,hcl,hcr⟩:=hv.fn_inv;refine wpIn_rangeFunc ?_;intro fn _;let D:=c.w.heap.size
 let b:=c.w.heap.size+1
 let rec0:Loop:={ state:=.ready,pending:=none,fn,tmps:=act.tmps,params:=ps,assign,body,defers:=c.w.heap.size }
 let W1:World:=(c.w.alloc (.deferred (some []))).alloc (.loop rec0)
 let c1:Ctx:={ c with w:=W1 }
 have hL1:W1.heap[b]?=some (.loop rec0):=by
  have:=World.alloc_heap_new (c.w.alloc (.deferred (some []))) (.loop rec0);rwa [World.size_alloc] at this
 have hK1:W1.heap[D]?=some (.deferred (some [])):=(RowKit.Below.heap_alloc _ _ _ (by simp[D])).trans (World.alloc_heap_new c.w _);have hs1:W1.heap.size=c.w.heap.size+2:=by simp[W1]
 have g1:X0b nt c (hp G) n0 c1 ⟨fr L,hp G,n⟩ act:=(gd.rebase.alloc (.deferred (some []))).alloc (.loop rec0);have hold:∀ k,k<c.w.heap.size->W1.heap[k]?=c.w.heap[k]?:=λk hk=>(RowKit.Below.heap_alloc _ _ _ (by simp;omega)).trans (RowKit.Below.heap_alloc _ _ _ hk);have r1:Reach c (hp G) n c1 (hp G):=⟨λ_ _=>rfl,rfl,rfl,⟨rfl,Nat.le_refl _⟩,by show c.w.heap.size<=W1.heap.size;omega,λk hk _=>hold k hk,λk hk=>hold k (gd.inv.lt k hk),rfl,λ_ h=>h,λ_ h=>.inl h,rfl,λo x hx=>.inr ⟨o,x,hx,rfl⟩⟩;have hob:∀ o x,hp G o=some x->(c.ρ o).blk<c.w.heap.size:=λo x hx=>by
  obtain⟨_,⟨⟨cur,hcb,_⟩,_⟩,_⟩:=gd.inv.obj o x hx;exact(Array.getElem?_eq_some_iff.1 hcb).1
 let vs:Array Value:=#[.func (.yield b) #[] #[]]++cv
 have hvs:vs.size=caps.length+1:=by simp[vs,<-hcl];omega
 have gI:X0b nti c (hp G) n c1 ⟨fr (argL 0 (.sc (.func (.yield b) #[] #[])::caps)),hp G,n⟩ { tmps:=vs++Array.replicate (fnI.ntmps - vs.size) undef,defers:=[] }:=by
  have hrel:X36 c1 false (.sc (.func (.yield b) #[] #[])::caps) vs:=by
   refine⟨by rw[hvs];simp,λi a v ha hv=>?_⟩
   cases i with
   |zero =>
    have hv':vs[0]?=some (.func (.yield b) #[] #[]):=by simp only[vs];rw[Array.getElem?_append_left (by simp)];rfl
    rw[hv'] at hv;simp only[List.getElem?_cons_zero,Option.some.injEq] at ha hv;subst ha hv;exact .sc
   |succ i =>
    have hv':cv[i]?=some v:=by
     simp only[vs] at hv;rw[Array.getElem?_append_right (by simp)] at hv;simpa using hv
    simp only[List.getElem?_cons_succ] at ha;refine(hcr i a v ha hv').mono r1.le (.inr ?_)
    cases hvo with|fn hvo=>exact hvo a (List.mem_of_getElem? ha)
  have hok:∀ a∈(.sc (.func (.yield b) #[] #[])::caps:List AV),a.Ok (·<n):=by
   intro a ha;rcases List.mem_cons.1 ha with rfl|ha
   ·exact .sc
   ·cases hvo with|fn hvo=>exact hvo a ha
  have:X0b nti c (hp G) n c1 ⟨X5w (.sc (.func (.yield b) #[] #[])::caps),hp G,n⟩ { tmps:=vs++Array.replicate (fnI.ntmps - vs.size) undef,defers:=[] } :=
   ⟨g1.inv,g1.solo,λt=>X27 hrel _ t,λt=>X5v hok t,by have:=Nat.le_of_ble_eq_true hle;simp only[Array.size_append,Array.size_replicate];omega,r1,Nat.le_refl _⟩
  exact this.argL
 have mI:MOk n c (hp G) c1 (hp G) [(b,.loop rec0 nt n (fr L)),(D,.blk (.deferred (some [])))] { tmps:=vs++Array.replicate (fnI.ntmps - vs.size) undef,defers:=[] }:=by
  refine⟨λp hp=>?_,λp hp=>?_,by simp[b,D],rfl⟩
  ·simp only[List.mem_cons,List.not_mem_nil,or_false] at hp;rcases hp with rfl|rfl
   ·exact⟨⟨hL1,gd.size⟩,Nat.le_refl _,λt=>gd.ok t,λt=>g1.frame t⟩
   ·exact hK1
  ·simp only[List.mem_cons,List.not_mem_nil,or_false] at hp;have key:∀ k,c.w.heap.size<=k->¬ c1.Sa k/\¬ c1.So k/\(∀ o x,Av.hp G o=some x->(c1.ρ o).blk≠k)/\Xrp c (Av.hp G) k:=λk hk =>
    ⟨λhs=>by have:=gd.inv.lt k (.inl hs);omega,λhs=>by have:=gd.inv.lt k (.inr hs);omega,λo x hx e=>by have h1:=hob o x hx;have h2:(c.ρ o).blk=k:=e;omega,⟨Nat.le_trans gd.inv.base hk,.inl hk⟩⟩
   rcases hp with rfl|rfl
   ·exact key b (by simp[b])
   ·exact key D (Nat.le_refl _)
 refine⟨b,[{ target:=.collected D,args:=#[] }],W1,{ target:=.fn (.func gf) cv,args:=#[.func (.yield b) #[] #[]] },W1,gf,vs,W1,run_enterLoop_outer _ _ _ _ _,?_,λ_ _=>trivial,?_,λh=>Bool.noConfusion h,?_⟩
 ·simp only[resolve,hcv];simp[go_sem]
 ·simp only[invoke,callFunc,Sem.run_bind,run_program,Result.andThen_ok,hfn.here,hfn.name,hfn.body,Option.isNone_some,Bool.false_eq_true,if_false];rfl
 refine callsIn_of_wp hfn.here hfn.body trivial ?_ rfl;refine wpIn_mono (X0c.ofCl (h b D rec0 rfl rfl rfl rfl rfl) c (hp G) c1 _ gI mI none .none) ?_;rintro e a w' ⟨c2,s2,ae,μ2,rfl,g2,hm2,rfl,hne,rfl,hk⟩;have hds:a.defers=[]:=hm2.ds;have fin:a.defers=[]/\∃ v,(results fnI a.tmps).run P c2.w=.ok v c2.w/\rangePost (FR none) 0 P b (MQ nt c0 H0 n0 (X5x P nt n0 Q K)) { act with defers:=[{ target:=.collected D,args:=#[] }]++act.defers } (.returned v) c2.w:=by
  obtain⟨⟨hrec,_⟩,_⟩:=hm2.is (b,.loop rec0 nt n (fr L)) (by simp);have hDk:c2.w.heap[D]?=some (.deferred (some [])):=hm2.is (D,.blk (.deferred (some []))) (by simp);obtain⟨x1,x2,x3,x4⟩:=hm2.away (b,.loop rec0 nt n (fr L)) (by simp);obtain⟨y1,y2,y3,y4⟩:=hm2.away (D,.blk (.deferred (some []))) (by simp);obtain⟨g3,hle3⟩:=g2.turn (.loop { rec0 with state:=.exhausted }) x1 x2 x3 x4;refine⟨hds,.tuple #[],by simp[results,hres,go_sem],?_⟩;refine⟨none,_,run_endLoop hrec (by simp[rec0]),?_⟩;have rt:=g3.reach;have gc:=gd.next (dst:=none) (a:=.sc undef) (v:=undef) (λd h=>by cases h) rt.le rt.sa rt.so2 rt.fr rt.own g3.inv g3.solo g3.le0 .sc .sc;have gc2:X0b nt c0 H0 n0 { c2 with w:=c2.w.putObj b (.loop { rec0 with state:=.exhausted }) } ⟨fr L,s2.H,s2.n⟩ { act with defers:=[{ target:=.collected D,args:=#[] }]++act.defers } :=
   ⟨gc.inv,gc.solo,gc.frame,gc.ok,gc.size,gc.reach,gc.le0⟩
  have hmk:=hm.kept (rt.weaken gd.le0) (act':=act) rfl;refine⟨_,⟨fr L,s2.H,s2.n⟩,.normal,(D,.mark)::μ,rfl,gc2,⟨λp hp=>?_,λp hp=>?_,?_,?_⟩,rfl,hk⟩
  ·rcases List.mem_cons.1 hp with rfl|hp
   ·exact(World.putObj_heap_other (by simp[b,D])).trans hDk
   ·exact hmk.is p hp
  ·rcases List.mem_cons.1 hp with rfl|hp
   ·exact⟨y1,y2,y3,⟨by rw[<-gd.reach.B];exact gd.inv.base,.inl gd.reach.size⟩⟩
   ·exact hmk.away p hp
  ·refine List.nodup_cons.2 ⟨λhmem=>?_,hm.nodup⟩;obtain⟨p,hp,he⟩:=List.mem_map.1 hmem;have:=(hm.is p hp).lt;simp only[D] at he;omega
  ·show[_]++act.defers=_::Xkv μ;rw[hm.ds];rfl
 cases ae with
 |exit id=>exact(hne id rfl).elim
 |normal=>exact fin
 |ret=>exact fin
end Go.Av


namespace Go.Av
variable [Gls]
def Xw3 (nt n0:Nat) (s s':St):Prop:=∀ (c0:Ctx) (H0:Xh) (c:Ctx) (act:Act) (μ:Mu),X0b nt c0 H0 n0 c s act->MOk n0 c0 H0 c s.H μ act->∃ c',c'.w=c.w/\X0b nt c0 H0 n0 c' s' act/\MOk n0 c0 H0 c' s'.H μ act
section
variable {P:Program} {nt n0:Nat} {s s':St} {Q:Xc->St->Mu->Prop} {μ:Mu}
theorem Xw3.loop (hw:Xw3 nt n0 s s') {b:Code} (h:X1s P nt n0 b Q s' μ):X1s P nt n0 b Q s μ:=by
 intro c0 H0 c act g hm R hR;obtain⟨c',hc,g',hm'⟩:=hw c0 H0 c act μ g hm;have:=h c0 H0 c' act g' hm' R hR
 rwa [hc] at this
theorem Xw3.semM (hw:Xw3 nt n0 s s') {c:Code} (h:X0c P nt n0 c Q s' μ):X0c P nt n0 c Q s μ:=by
 intro c0 H0 c act g hm R hR;obtain⟨c',hc,g',hm'⟩:=hw c0 H0 c act μ g hm;have:=h c0 H0 c' act g' hm' R hR
 rwa [hc] at this
end
end Go.Av


namespace Go.D
end Go.D
namespace Go.Av
variable [Gls]
open Go.D
class Xep {α:Type} (f:α->AV):Prop where
 flat:∀ x,X8o (f x)
 whole:∀ x,(f x).whole=true
 still:∀ x,X5l (f x)
instance iInt {k:IntKind}:Xep (aI k):=⟨λ_=>Xut,λ_=>rfl,λ_=>X6q⟩
class Xnw {α:Type} (g:Bool->α->AV):Prop where
 cva:∀ {H:Xh} {o:Bool} {x:α},Cv false H (g o x) (g false x)
 cvt:∀ {H:Xh} {o:Bool} {x:α},Cv true H (g o x) (g o x)
 len:∀ (o o':Bool) (x:α),(g o x).cells.length=(g o' x).cells.length
 free:∀ (o:Bool) (x:α),X99 (g o x)
 still:∀ (o:Bool) (x:α),X5l (g o x)
theorem cvLf {α:Type} {f:α->AV} [i:Xep f] {H:Xh} {o:Bool} {l:List α}:Cv false H (.list o (l.map f)) (.list false (l.map f)):=X32 (X1o i.flat l)
theorem cvR {α:Type} {f:α->AV} [i:Xep f] {m:Bool} {H:Xh} {o n:Nat} {x:Obj} {l:List α} (hH:H o=some x) (he:x.es=l.map f) (hn:n=(l.map f).length):Cv m H (.ref o 0 n) (.list m (l.map f)) :=
 Xv3 hH he hn (X1o i.flat l)
theorem Xyl {α:Type} {g:Bool->α->AV} [i:Xnw g] (p:Bool) {H:Xh} {o n:Nat} {x:Obj} {l:List α} (hH:H o=some x) (he:x.es=l.map (g p)) (hn:n=l.length):Cv false H (.ref o 0 n) (.list false (l.map (g false))) :=
 Xr3 hH he hn (λx=>i.len _ _ x) (λ_=>Xab i.cva)
def CvE (m:Bool) (H:Xh) (e e':AV):Prop:=e.cells.length=e'.cells.length/\∀ (k:Nat) a b,e.cells[k]?=some a->e'.cells[k]?=some b->Cv m H a b
def CvL (m:Bool) (H:Xh) (l l':List AV):Prop:=l.length=l'.length/\∀ (i:Nat) e e',l[i]?=some e->l'[i]?=some e'->CvE m H e e'
theorem CvL.nil {m:Bool} {H:Xh}:CvL m H [] []:=⟨rfl,λi e e' h=>by simp at h⟩
theorem CvL.cons {m:Bool} {H:Xh} {e e':AV} {l l':List AV} (h:CvE m H e e') (t:CvL m H l l'):CvL m H (e::l) (e'::l'):=by
 refine⟨by simp[t.1],λi a b ha hb=>?_⟩
 cases i with
 |zero=>simp at ha hb;subst ha;subst hb;exact h
 |succ i=>simp at ha hb;exact t.2 i a b ha hb
theorem cvM {P:Prop} (h:P:=by
 repeat' first
  |exact Cvs.nil
  |refine Cvs.cons ?_ ?_
  |exact Cv.sc
  |exact Cv.fn0
  |exact Cv.listS rfl
  |exact cvLf
  |exact cvW
  |exact cvGt
  |exact cvG
  |exact cvLg
  |exact cvLe
  |refine Xv2 ?_
  |exact Cv.nils
  |exact cvNil (by first|rfl|assumption|(simp;done)|(simp[*];done)|fail)
  |exact cvR rfl (by first|rfl|(simp;done)|(simp;rfl)|(simp[*];done)|(simp[*];rfl)|fail) (by first|rfl|(simp;done)|(simp;omega)|(simp[*];done)|(simp[*];omega)|fail)
  |exact cvRt rfl (by first|rfl|(simp;done)|(simp;rfl)|(simp[*];done)|fail) (by first|rfl|(simp;done)|(simp;omega)|(simp[*];done)|fail)
  |exact Xyl true rfl (by first|rfl|(simp;done)|(simp;rfl)|(simp[*];done)|fail) (by first|rfl|(simp;done)|(simp;omega)|(simp[*];done)|fail)
  |exact Xyl false rfl (by first|rfl|(simp;done)|(simp;rfl)|(simp[*];done)|fail) (by first|rfl|(simp;done)|(simp;omega)|(simp[*];done)|fail)
  |exact cvRe true rfl (by first|rfl|(simp;done)|(simp;rfl)|(simp[*];done)|fail) (by first|rfl|(simp;done)|(simp;omega)|(simp[*];done)|fail)
  |exact cvRe false rfl (by first|rfl|(simp;done)|(simp;rfl)|(simp[*];done)|fail) (by first|rfl|(simp;done)|(simp;omega)|(simp[*];done)|fail)
  |exact cvRf rfl (by first|rfl|(simp;done)|(simp;rfl)|(simp[*];done)|fail) (by first|rfl|(simp;done)|(simp;omega)|(simp[*];done)|fail)
  |exact cvLq (by first|rfl|(simp;done)|(simp[*];done)|fail)
  |exact cv_leqS (by first|rfl|(simp;done)|(simp[*];done)|fail)
  |exact cv_scE (by first|rfl|(simp;done)|(simp[*];done)|fail)
  |refine Xbc ?_
  |exact Cv.nils0
  |refine cv_refs rfl ?_ rfl
  |exact CvL.nil
  |refine CvL.cons ?_ ?_
  |refine cvE_agg ?_
  |refine cvE_one ?_ rfl rfl
  |refine Cv.ptrL rfl rfl rfl rfl (Xab ?_)
  |refine Cv.elemD rfl rfl (Xab ?_)
  |refine Cv.weak ?_
 first|done|fail):P:=h
theorem ownM {P:Prop} (h:P:=by
 repeat' first
  |exact .sc
  |exact ownL
  |exact ownW
  |refine Xts ?_
  |refine X0o ?_ ?_
  |exact X35
  |refine X96.agg ?_
 first|done|fail):P:=h
class PCs (P:Program) (f:Nat) (S:outParam Prop):Prop where
 ok:S
theorem pcN {P:Program} {f:Nat} {H:Xh} {as bs:List AV} {r:AV} {S:Prop} [i:PCs P f S] (k:S->Xu P f bs r) (hc:Cvs false (λ_=>none) as bs):X2c P f H as bs r:=.none (k i.ok) hc
theorem pcL {P:Program} {f:Nat} {H:Xh} {as bs:List AV} {r:AV} {S:Prop} [i:PCs P f S] (k:S->Xu P f bs r) (hc:Cvs false H as bs) (ho:X96 r):X2c P f H as bs r:=.lent (k i.ok) hc ho
theorem pcM {P:Prop} (h:P:=by
 first
  |exact pcN (by intro K;apply K;assumption) cvM
  |exact pcL (by intro K;apply K;assumption) cvM ownM):P:=h
theorem fq {p:Prop} (h:p) {P:Prop} (k:p->P:=by first|exact id|exact Xrh|exact Xyt|exact Xyu):P:=k h
theorem X0p {P:Prop} (h:P:=by
 repeat' first
  |refine And.intro ?_ ?_
  |exact trivial
  |exact pcM
  |exact X6n
 first|done|fail):P:=h
theorem Xwp {cs:List AV} {M:Nat->Prop} (h:∀ a∈cs,a.Ok M):∀ e∈[AV.agg cs],∀ a∈e.cells,a.Ok M:=λe he=>by rw[List.mem_singleton.1 he];exact h
def Xl6 (f:Nat->Nat):List AV->List AV->Prop
 |[],[]=>True
 |a::r,b::s=>a=b.ren f/\Xl6 f r s
 |_,_=>False
theorem Xcd {f:Nat->Nat}:∀ {cs cs':List AV},Xl6 f cs cs'->cs=AV.rens f cs'
 |[],[],_=>rfl
 |a::r,b::s,h=>by
  show a::r=AV.ren f b::AV.rens f s;rw[<-h.1,<-Xcd h.2]
 |[],_::_,h=>h.elim
 |_::_,[],h=>h.elim
theorem Xys {f:Nat->Nat} {cs cs':List AV} (h:Xl6 f cs cs'):AV.agg cs=(AV.agg cs').ren f:=by rw[Xcd h];rfl
theorem aggR {f:Nat->Nat} {cs cs':List AV} (h:Xl6 f cs cs'):[AV.agg cs]=[AV.agg cs'].map (AV.ren f):=by rw[Xys h];rfl
theorem Xyf {f:Nat->Nat} {i j n m:Nat} (hi:j=f i) (h:n=m):AV.ref j 0 n=(AV.ref i 0 m).ren f:=by rw[hi,h];rfl
class TmD (P:Program) (T:outParam Ty):Prop where
 ok:X1h P T/\P.follows .mixedOrders=true
abbrev nbS {α:Type} {l:List α} (h:l=[]:=by first|rfl|simp[*]):Nb l:=nbT h
theorem okF {α:Type} {f:α->AV} [i:Xep f] {x:α} {M:Nat->Prop}:(f x).Ok M:=(X8h (i.flat x) (i.whole x) M).1
theorem okG {α:Type} {g:Bool->α->AV} [i:Xnw g] {o:Bool} {x:α} {M:Nat->Prop}:(g o x).Ok M:=(i.free o x M).1
theorem okM {P:Prop} (h:P:=by
 repeat' first
  |exact X35
  |refine X0o ?_ ?_
  |exact .sc
  |exact .list
  |exact Xha
  |exact .elem
  |exact okF
  |exact okG
 first|done|fail):P:=h
theorem bI {α β:Type} {x:Option α} {f:α->Option β} {r:β} {G:Prop} (k:∀ v,x=some v->f v=some r->G):x.bind f=some r->G:=λh=>X94 h k
theorem brI {α:Type} {c:Bool} {a b:Option α} {r:α} {G:Prop} (h1:c=true->a=some r->G) (h2:c=false->b=some r->G):(bif c then a else b)=some r->G:=λh=>brE h h1 h2
theorem oj {α:Type} {a b:α} (h:some a=some b):a=b:=Option.some.inj h
theorem X3b {P:Program} {T:Ty} {nt n0:Nat} {μ:Mu} {Q:Xc->St->Mu->Prop} {cf cf':Cf} {K K':List Kn} {L L':List (Nat×AV)} {G G':List (Nat×Obj)} {n n':Nat} {hs':List X11} {ps':List Prop} [hT:TmD P T] (hs:List X11)
  (k:Xd P nt n0 Q cf' K' ⟨fr L',hp G',n'⟩ μ) (h:X3r P T nt 4000 cf K L G n hs []=some (cf',K',L',G',n',hs',ps'):=by exact rfl) (o:X0w ps':=by exact X0p):Xd P nt n0 Q cf K ⟨fr L,hp G,n⟩ μ:=X4q hT.ok 4000 hs h o k
theorem rnI {A:Prop} {P:Program} {T:Ty} {nt n0:Nat} {μ:Mu} {Q:Xc->St->Mu->Prop} {cf cf':Cf} {K K':List Kn} {L L':List (Nat×AV)} {G G':List (Nat×Obj)} {n n':Nat} {hs':List X11} {ps':List Prop} [hT:TmD P T] (hs:List X11)
  (k:A->Xd P nt n0 Q cf' K' ⟨fr L',hp G',n'⟩ μ) (h:X3r P T nt 4000 cf K L G n hs []=some (cf',K',L',G',n',hs',ps'):=by exact rfl) (o:X0w ps':=by exact X0p):A->Xd P nt n0 Q cf K ⟨fr L,hp G,n⟩ μ:=λa=>X4q hT.ok 4000 hs h o (k a)
theorem X0a {P:Program} {T:Ty} {nt n0:Nat} {μ:Mu} {Q:Xc->St->Mu->Prop} {cf cf':Cf} {K K':List Kn} {L L':List (Nat×AV)} {G G':List (Nat×Obj)} {n n':Nat} {hs':List X11} {ps':List Prop} [hT:TmD P T] (hs:List X11)
  (h:X3r P T nt 4000 cf K L G n hs []=some (cf',K',L',G',n',hs',ps'):=by exact rfl) (o:X0w ps':=by exact X0p) (k:Xd P nt n0 Q cf' K' ⟨fr L',hp G',n'⟩ μ):Xd P nt n0 Q cf K ⟨fr L,hp G,n⟩ μ:=X4q hT.ok 4000 hs h o k
theorem fi {P:Program} {T:Ty} {nt n0:Nat} {fn:Func} {r:AV} {L:List (Nat×AV)} {G:List (Nat×Obj)} {n:Nat} {μ:Mu} {rs:List AV} (hr:Xl5 T L G fn.results.toList=some rs:=by exact rfl) (hc:Cv true (hp G) (X46 rs) r:=by exact cvM):Xd P nt n0 (Xlx T fn r) (.exit .ret) [] ⟨fr L,hp G,n⟩ μ:=X72 hr hc
end Go.Av


namespace Go.Av
variable [Gls]
end Go.Av


namespace Go.Av
variable [Gls]
open Go
section
variable {P:Program} {ops:Array Oper} {Q:Exit->Act->World->Prop}
end
end Go.Av


namespace Go.Av
variable [Gls]
end Go.Av


namespace Go.Av
variable [Gls]
open Go.D
def WkC (a a':AV):Prop:=a'=a\/(∃ l,a=.list true l/\a'=.list false l)\/(a=.nils/\∃ b,a'=.list b [])
theorem WkC.rel {c:Ctx} {a a':AV} {v:Value} (h:WkC a a') (r:Xn c false a v):Xn c false a' v:=by
 rcases h with rfl|⟨l,rfl,rfl⟩|⟨rfl,b,rfl⟩
 ·exact r
 ·cases r with
  |listNil=>exact .listNil
  |list vf hne hS hn hcap hsz hcell h1 h=>exact .list vf hne (hS.elim (λq=>.inl ⟨rfl,q.2⟩) .inr) hn hcap hsz hcell h1 h
 ·obtain⟨p,rfl⟩:=r.nils_inv;exact .listNil
theorem WkC.ok {M:Nat->Prop} {a a':AV} (h:WkC a a') (r:a.Ok M):a'.Ok M:=by
 rcases h with rfl|⟨l,rfl,rfl⟩|⟨rfl,b,rfl⟩
 ·exact r
 ·exact .list
 ·exact .list
end Go.Av


namespace Go.Av
variable [Gls]
end Go.Av


namespace Go.Av
variable [Gls]
theorem Xd.trunc {P:Program} {nt n0 n:Nat} {Q:Xc->St->Mu->Prop} {cf:Cf} {K:List Kn} {μ:Mu} {L:List (Nat×AV)} {G:List (Nat×Obj)} {y:Obj} (q:Nat) (es':List AV) (hy:hp G q=some y) (he:∃ m,es'=y.es.take m)
  (h:Xd P nt n0 Q cf K ⟨fr L,hp ((q,{ y with es:=es' })::G),n⟩ μ):Xd P nt n0 Q cf K ⟨fr L,hp G,n⟩ μ:=by
 obtain⟨m,rfl⟩:=he;refine Xd.sub (X95.trunc hy m) ?_;rw[<-X6x q { y with es:=y.es.take m } G (show y.gone=false from Xa1 hy)];exact h
end Go.Av


namespace Go.Av
variable [Gls]
open MapKept Go.WideMaps
def X98 (P:Program) (kt:Nat) (es:List (Value×Value)):Prop:=(∀ p∈es,∃ l,keyOf P kt p.1=some l)/\(es.map (·.1)).Nodup
theorem X98.nil {P:Program} {kt:Nat}:X98 P kt []:=⟨(λ_ h=>by cases h),List.nodup_nil⟩
open Classical in
theorem Xfg {k v:Value}:∀ (l:List (Value×Value)),(X4l k v l).map (·.1)=if k∈l.map (·.1) then l.map (·.1) else l.map (·.1)++[k]:=by
 intro l
 induction l with
 |nil=>simp[X4l]
 |cons a r ih =>
  obtain⟨a1,a2⟩:=a;simp only[X4l];split
  ·rename_i h;subst h;simp
  ·rename_i h;have h':¬ k=a1:=λe=>h e.symm;simp only[List.map_cons];by_cases hm:k∈r.map (·.1)
   ·rw[if_pos hm] at ih;rw[if_pos (List.mem_cons_of_mem _ hm)];simp only[ih]
   ·rw[if_neg hm] at ih;rw[if_neg (λhc=>(List.mem_cons.1 hc).elim h' hm)];simp only[ih,List.cons_append]
theorem X98.set {P:Program} {kt:Nat} {es:List (Value×Value)} {k v:Value} {l:Lit} (h:X98 P kt es) (hk:keyOf P kt k=some l):X98 P kt (X4l k v es):=by
 have hks:=Xfg (k:=k) (v:=v) es;refine⟨λp hp=>?_,?_⟩
 ·have:p.1∈(X4l k v es).map (·.1):=List.mem_map.2 ⟨p,hp,rfl⟩;rw[hks] at this;split at this
  ·obtain⟨q,hq,e⟩:=List.mem_map.1 this;rw[<-e];exact h.1 q hq
  ·rcases List.mem_append.1 this with h1|h1
   ·obtain⟨q,hq,e⟩:=List.mem_map.1 h1;rw[<-e];exact h.1 q hq
   ·rw[List.mem_singleton.1 h1];exact⟨l,hk⟩
 ·rw[hks];split
  ·exact h.2
  ·rename_i hn;exact List.nodup_append.2 ⟨h.2,by simp,λa ha b hb=>by rw[List.mem_singleton.1 hb];exact λe=>hn (e▸ha)⟩
theorem Xb6 {P:Program} {kt:Nat} (K:KeyLaw P kt) (w:World) {k:Value} {l:Lit} (hk:keyOf P kt k=some l) {es:List MapEntry} {ks:List (Value×Value)} (he:es.map (λe=>(e.key,e.val))=ks) (h:X98 P kt ks) :
  ((Instr.findKey kt k es).run P w=.ok none w/\(∀ e∈es,e.key≠k)/\X55 k ks=none/\∀ v,X4l k v ks=ks++[(k,v)]) \/
   ∃ j e,(Instr.findKey kt k es).run P w=.ok (some (j,e.val)) w/\es[j]?=some e/\e.key=k/\X55 k ks=some e.val/\∀ v,X4l k v ks=ks.set j (k,v):=by
 have hes:∀ e∈es,∃ l,keyOf P kt e.key=some l:=λe hm=>h.1 (e.key,e.val) (by rw[<-he];exact List.mem_map.2 ⟨e,hm,rfl⟩);rcases K.find w hk es hes with ⟨h1,h2⟩|⟨j,e,h1,h2,h3⟩
 ·have hn:∀ q∈ks,q.1≠k:=λq hq=>by
   rw[<-he] at hq;obtain⟨x,hx,rfl⟩:=List.mem_map.1 hq;exact h2 x hx
  exact .inl ⟨h1,h2,(X7m (v:=k) ks hn).2,λv=>(X7m ks hn).1⟩
 ·have hj:ks[j]?=some (e.key,e.val):=by rw[<-he,List.getElem?_map,h2];rfl
  have hlt:∀ i q,i<j->ks[i]?=some q->q.1≠k:=λi q hi hq heq=>by
   have hnd:=h.2;have h4:(ks.map (·.1))[i]?=some k:=by rw[List.getElem?_map,hq,<-heq];rfl
   have h5:(ks.map (·.1))[j]?=some k:=by rw[List.getElem?_map,hj,<-h3];rfl
   obtain⟨i1,i2⟩:=List.getElem?_eq_some_iff.1 h4;obtain⟨j1,j2⟩:=List.getElem?_eq_some_iff.1 h5;exact(List.pairwise_iff_getElem.1 hnd i j i1 j1 hi) (i2.trans j2.symm)
  exact .inr ⟨j,e,h1,h2,h3,(X9u (v:=k) ks j _ hj h3 hlt).2,λv=>(X9u ks j _ hj h3 hlt).1⟩
theorem Xp1 {k:Value} {es:List MapEntry} {j:Nat} {e:MapEntry} (h:es[j]?=some e) (hk:e.key=k):es.modify j (λe=>{ e with key:=k })=es:=by
 rw[Go.ChangeMaps.modify_eq_set _ _ _ _ h];have:({ e with key:=k }:MapEntry)=e:=by rw[<-hk]
 rw[this];exact Go.WideElems.set_self _ _ _ h
theorem X40 {P:Program} {w:World} {b:Nat} {l:List (Value×Value)} {t kt et:TypeId} {k z:Value} {lk:Lit} (K:KeyLaw P kt) (hm:P.underlying t=some (.map kt et)) (hz:(zeroValue et).run P w=.ok z w)
  (hM:X97 w b l) (hk:keyOf P kt k=some lk) (hks:X98 P kt l) :
  (Instr.lookup t (.map (some b)) k false).run P w=.ok ((X55 k l).getD z) w:=by
 obtain⟨es,clock,hb,hl,_⟩:=hM;rcases Xb6 K w hk hl hks with ⟨h1,_,h3,_⟩|⟨j,e,h1,_,_,h4,_⟩
 ·simp[Instr.lookup,run_underlying hm,MapKept.run_getObj_map hb,K.check w _ hk,h1,h3,hz,Result.andThen]
 ·simp[Instr.lookup,run_underlying hm,MapKept.run_getObj_map hb,K.check w _ hk,h1,h4,Result.andThen]
def Xss:List AV->Option (List Value)
 |[]=>some []
 |.sc v::r=>(Xss r).map (v::·)
 |_::_=>none
def Xoe:AV->Option Value
 |.sc v=>some v
 |.agg cs=>(Xss cs).map λl=>.agg l.toArray
 |_=>none
theorem Xl2 {c:Ctx} {d:Bool}:∀ {cs:List AV} {l:List Value} {vs:List Value},Xss cs=some l->cs.length=vs.length->(∀ (i:Nat) a v,cs[i]?=some a->vs[i]?=some v->Xn c d a v)->vs=l:=by
 intro cs
 induction cs with
 |nil=>intro l vs h hl _;simp[Xss] at h;subst h;exact List.eq_nil_of_length_eq_zero hl.symm
 |cons a r ih =>
  intro l vs h hl hr
  cases vs with
  |nil=>simp at hl
  |cons v vs =>
   have h0:=hr 0 a v rfl rfl;cases a<;>simp[Xss] at h
   obtain⟨l',hl',rfl⟩:=h;rw[h0.sc_inv,ih hl' (by simpa using hl) (λi a v ha hv=>hr (i+1) a v ha hv)]
theorem X7q {c:Ctx} {d:Bool} {a:AV} {v k:Value} (h:Xoe a=some k) (hr:Xn c d a v):v=k:=by
 cases a<;>simp[Xoe] at h
 ·subst h;exact hr.sc_inv
 ·obtain⟨l,hl,rfl⟩:=h
  cases hr with
  |agg h1 h2 h3 =>
   rename_i vs;have:=Xl2 (c:=c) (d:=d) (vs:=vs.toList) hl (by simpa using h1) (λi a v ha hv=>h3 i a v ha (by simpa using hv));rw[<-this]
section
variable {P:Program} {nt n0:Nat} {Q:Xc->St->Mu->Prop} {ops:Array Oper} {l:List Oper} {o:Oper} {K:List Kn} {L:List (Nat×AV)} {G:List (Nat×Obj)} {n:Nat} {μ:Mu}
theorem Xd.mapLook {T:Ty} {t b kt et:Nat} {m k:Operand} {qm qk:List Prop} {ka:AV} {kv z:Value} {es:List (Value×Value)} {ti:TI} {lk:Lit} (hT:X1h P T) (ho:o.op=.lookup t m k false) (hg:o.guard=none) (hd:X3n nt o.dst=true)
  (ht:T t=some ti) (hkd:ti.kind=.map kt et) (KL:KeyLaw P kt) (hz:∀ w,(zeroValue et).run P w=.ok z w)
  (hm:rd L m=(.sc (.map (some b)),qm)) (hk:rd L k=(ka,qk)) (hka:Xoe ka=some kv) (hqm:X0w qm) (hqk:X0w qk) (hik:keyOf P kt kv=some lk) (hks:X98 P kt es)
  (h:Xd P nt n0 Q (.ops ops l) K ⟨fr (X5m o.dst (.sc ((X55 kv es).getD z)) L),hp G,n⟩ ((b,es)::μ)):Xd P nt n0 Q (.ops ops (o::l)) K ⟨fr L,hp G,n⟩ ((b,es)::μ):=by
 intro c0 H0 c act g hM Qx hQ R hR;refine Xv λK' hK'=>?_;rw[if_pos (by simp[Region.wanted,hg])];have em:act.eval m=.map (some b):=by have:=g.ev m;rw[show evA (St.A ⟨fr L,hp G,n⟩) m=_ from Xp hm hqm] at this;exact this.sc_inv
 have ek:act.eval k=kv:=by have:=g.ev k;rw[show evA (St.A ⟨fr L,hp G,n⟩) k=_ from Xp hk hqk] at this;exact X7q hka this
 have hu1:P.underlying t=some (.map kt et):=by
  obtain⟨i,dd,_,hdd,_,hkk,_⟩:=Xr (hT t ti ht);rw[hkd] at hkk;cases dd<;>simp[X1] at hkk
  obtain⟨rfl,rfl⟩:=hkk;exact hdd
 have hrun:=X40 KL hu1 (hz c.w) (hM.is (b,es) (by simp)) hik hks;have hex:(execOp act.eval o).run P c.w=.ok (.value ((X55 kv es).getD z)) c.w:=by
  obtain⟨dst,op,type,pos,after,guard⟩:=o;simp only at ho;subst ho;simp only[execOp,em,ek,Sem.run_bind,hrun];rfl
 refine Oper.wpR (λd hd=>by rw[hd] at ho;cases ho) ?_;unfold Oper.wp;rw[hex];have g2:=g.next (c':=c) (dst:=o.dst) (a:=.sc ((X55 kv es).getD z)) (v:=(X55 kv es).getD z) (X0i hd) (.refl c) rfl (λb hb=>.inl hb) (.refl c (hp G)) (λq x hx=>.inr ⟨q,x,hx,rfl⟩) g.inv g.solo (Nat.le_refl _) .sc .sc;rw[X0u] at h;exact hK' _ _ (h c0 H0 c _ g2 hM.act Qx hQ R hR)
end
theorem Xhw {k v:Value}:∀ l:List (Value×Value),X55 k (X4l k v l)=some v:=by
 intro l
 induction l with
 |nil=>simp[X55,X4l]
 |cons p r ih =>
  obtain⟨a,b⟩:=p;by_cases h:a=k
  ·subst h;simp[X55,X4l]
  ·simp[X55,X4l,h];exact ih
theorem X8u {P:Program} {w:World} {b:Nat} {l:List (Value×Value)} {t kt et:TypeId} {k v z:Value} {lk:Lit} (K:KeyLaw P kt) (hm:P.underlying t=some (.map kt et)) (hz:∀ w,(zeroValue et).run P w=.ok z w)
  (hM:X97 w b l) (hk:keyOf P kt k=some lk) (hks:X98 P kt l) :
  ∃ (v0:Value) (st:Int) (o1 o3:Go.Obj),(Instr.mapEntry t (.map (some b)) k).run P w=.ok (.tuple #[v0,.int .i64 st]) { w with heap:=w.heap.setIfInBounds b o1 } /\
   (Instr.entryStore t (.map (some b)) (.int .i64 st) v).run P { w with heap:=w.heap.setIfInBounds b o1 }=.ok () { w with heap:=w.heap.setIfInBounds b o3 } /\
   X97 { w with heap:=w.heap.setIfInBounds b o3 } b (X4l k v l)/\∃ l1,X97 { w with heap:=w.heap.setIfInBounds b o1 } b l1/\X98 P kt l1/\(X55 k l1).getD z=(X55 k l).getD z:=by
 obtain⟨es,clock,hb,hl,hp,hc⟩:=hM;have hset:∀ o',(w.heap.setIfInBounds b o')[b]?=some o':=λo'=>(heap_set (o':=o') hb).1;have hnd:(es.toList.map (·.born)).Nodup:=List.pairwise_map.2 (hp.imp λh=>Nat.ne_of_lt h);rcases Xb6 K w hk hl hks with ⟨h1,_,hgn,h2⟩|⟨j,e,h1,h2,h3,_,h4⟩
 ·refine⟨z,clock,.map (es.push { key:=k,val:=z,born:=clock }) (clock+1),.map (es.push { key:=k,val:=v,born:=clock }) (clock+1),?_,?_,⟨es.push { key:=k,val:=v,born:=clock },clock+1,hset _,?_,?_,?_⟩,X4l k z l,⟨es.push { key:=k,val:=z,born:=clock },clock+1,hset _,?_,?_,?_⟩,hks.set hk,by rw[Xhw,hgn];rfl⟩
  ·simp[Instr.mapEntry,run_underlying hm,MapKept.run_getObj_map hb,K.check w _ hk,h1,hz,MapKept.run_setObj_map _ hb,Result.andThen,goInt]
  ·have hb1:({ w with heap:=w.heap.setIfInBounds b (.map (es.push { key:=k,val:=z,born:=clock }) (clock+1)) }:World).heap[b]?=some (.map (es.push { key:=k,val:=z,born:=clock }) (clock+1)):=hset _;have hidx:(es.push ⟨k,z,clock⟩).findIdx? (λe=>((e.born:Nat):Int)==((clock:Nat):Int))=some es.size:=by
    rw[WideElems.findIdx_arr];have:=WideElems.findIdx_born (l:=(es.push ⟨k,z,clock⟩).toList) (j:=es.size) (e0:=⟨k,z,clock⟩) (by
     simp only[Array.toList_push,List.map_append,List.map_cons,List.map_nil];refine List.nodup_append.2 ⟨hnd,by simp,λa ha c hc' e1=>?_⟩;simp only[List.mem_singleton] at hc';obtain⟨x,hx,rfl⟩:=List.mem_map.1 ha;have:=hc x hx
     omega) (by simp)
    exact this
   have hmod:(es.push ⟨k,z,clock⟩).modify es.size (λe=>{ e with val:=v })=es.push ⟨k,v,clock⟩:=by
    apply Array.ext';rw[Array.toList_modify,Array.toList_push,Array.toList_push,<-Array.length_toList,WideElems.modify_last]
   simp[Instr.entryStore,MapKept.run_getObj_map hb1,asInt,asIntOf,hidx,hmod,MapKept.run_setObj_map _ hb1,Result.andThen]
  ·rw[Array.toList_push,List.map_append,hl,h2 v];rfl
  ·rw[Array.toList_push];exact List.pairwise_append.2 ⟨hp,List.pairwise_singleton _ _,λa ha b' hb'=>by rw[List.mem_singleton.1 hb'];exact hc a ha⟩
  ·intro x hx;rw[Array.toList_push,List.mem_append] at hx;rcases hx with hx|hx
   ·exact Nat.lt_succ_of_lt (hc x hx)
   ·rw[List.mem_singleton.1 hx];exact Nat.lt_succ_self _
  ·rw[Array.toList_push,List.map_append,hl,h2 z];rfl
  ·rw[Array.toList_push];exact List.pairwise_append.2 ⟨hp,List.pairwise_singleton _ _,λa ha b' hb'=>by rw[List.mem_singleton.1 hb'];exact hc a ha⟩
  ·intro x hx;rw[Array.toList_push,List.mem_append] at hx;rcases hx with hx|hx
   ·exact Nat.lt_succ_of_lt (hc x hx)
   ·rw[List.mem_singleton.1 hx];exact Nat.lt_succ_self _
 ·have he:es[j]?=some e:=by simpa using h2
  have hsame:es.modify j (λe=>{ e with key:=k })=es:=by
   apply Array.ext';rw[Array.toList_modify,Xp1 h2 h3]
  have hm2:(es.modify j λe=>{ e with val:=v }).toList=es.toList.modify j λe=>{ e with val:=v }:=by simp
  refine⟨e.val,e.born,.map es clock,.map (es.modify j λe=>{ e with val:=v }) clock,?_,?_,⟨es.modify j λe=>{ e with val:=v },clock,hset _,?_,?_,?_⟩,l,⟨es,clock,hset _,hl,hp,hc⟩,hks,rfl⟩
  ·simp[Instr.mapEntry,run_underlying hm,MapKept.run_getObj_map hb,K.check w _ hk,h1,he,h3,K.stays w hk,hsame,MapKept.run_setObj_map _ hb,Result.andThen,goInt]
  ·have hb1:({ w with heap:=w.heap.setIfInBounds b (.map es clock) }:World).heap[b]?=some (.map es clock):=hset _;have hidx:es.findIdx? (λe'=>((e'.born:Nat):Int)==((e.born:Nat):Int))=some j:=by
    rw[WideElems.findIdx_arr];exact WideElems.findIdx_born hnd h2
   simp[Instr.entryStore,MapKept.run_getObj_map hb1,asInt,asIntOf,hidx,MapKept.run_setObj_map _ hb1,Result.andThen]
  ·rw[hm2,h4 v,<-hl];apply List.ext_getElem?;intro i;simp only[List.getElem?_map,List.getElem?_modify,List.getElem?_set];by_cases hij:j=i
   ·subst hij;have hlt:j<es.toList.length:=(List.getElem?_eq_some_iff.1 h2).1;simp[he,h3] at *;simpa using hlt
   ·simp[hij]
  ·rw[hm2];refine List.pairwise_iff_getElem.2 λi i' hi hi' hlt=>?_;have:=List.pairwise_iff_getElem.1 hp i i' (by simpa using hi) (by simpa using hi') hlt;simp only[List.getElem_modify];split<;>split<;>exact this
  ·intro x hx;rw[hm2] at hx;obtain⟨i,hi⟩:=List.getElem?_of_mem hx;rw[List.getElem?_modify] at hi
   cases hy:es.toList[i]? with
   |none=>rw[hy] at hi;simp at hi
   |some y =>
    rw[hy] at hi;have:=hc y (List.mem_of_getElem? hy);by_cases hij:j=i
    ·simp[hij] at hi;rw[<-hi];exact this
    ·simp[hij] at hi;rw[<-hi];exact this
section
variable {P:Program} {nt n0:Nat} {Q:Xc->St->Mu->Prop} {ops:Array Oper} {l:List Oper} {o1 o2 o3:Oper} {K:List Kn} {L:List (Nat×AV)} {G:List (Nat×Obj)} {n:Nat} {μ:Mu}
end
end Go.Av


namespace Go.Av
variable [Gls]
open Go.WideMaps
theorem Xu9 {P:Program} {t:TypeId} {q:IntKind} {n:Int} (d:Nat) (h:P.underlying t=some (.int q)) (hw:(Lit.int q n).wf=true):P.keyLits (d+1) t [.int q n]=some [.int q n]:=by
 unfold Program.keyLits;rw[h];simp[hw]
theorem Xhl {P : Program} {t : TypeId} {fs : Array Field} {cs : List Value} {ls : List (List Lit)} {d : Nat} (h : P.underlying t = some (.struct fs)) (hl : cs.length = P.cellsOf t) (hn : fs.all (λf => f.name != "_") = true)
  (hm:fs.toList.mapM (λf=>P.keyLits d f.type ((cs.drop f.offset).take (P.cellsOf f.type)))=some ls):P.keyLits (d+1) t cs=some ls.flatten:=by
 unfold Program.keyLits;rw[h];simp only[];rw[if_pos ⟨hl,hn⟩,hm];rfl
theorem Xua {P:Program} {t:TypeId} {n:Nat} {e:TypeId} {cs:List Value} {ls:List (List Lit)} {d:Nat} (h:P.underlying t=some (.array n e)) (hl:cs.length=P.cellsOf t)
  (hm:(List.range n).mapM (λi=>P.keyLits d e ((cs.drop (i*P.cellsOf e)).take (P.cellsOf e)))=some ls):P.keyLits (d+1) t cs=some ls.flatten:=by
 unfold Program.keyLits;rw[h];simp only[];rw[if_pos hl,hm];rfl
theorem Xu4 {α β:Type} {f:α->Option β}:([]:List α).mapM f=some []:=rfl
theorem Xq9 {α β:Type} {f:α->Option β} {a:α} {l:List α} {b:β} {bs:List β} (h:f a=some b) (h2:l.mapM f=some bs):(a::l).mapM f=some (b::bs):=by
 rw[List.mapM_cons,h];simp only[Option.bind_eq_bind,Option.bind_some];rw[h2];rfl
def KL (P:Program) (d:Nat) (t:TypeId) (cs:List Value):Prop:=∃ ls,P.keyLits d t cs=some ls
theorem KL.int {P:Program} {t:TypeId} {q:IntKind} {n:Int} {d:Nat} (h:P.underlying t=some (.int q)) (hw:(Lit.int q n).wf=true):KL P (d+1) t [.int q n]:=⟨_,Xu9 d h hw⟩
theorem KL.struct {P : Program} {t : TypeId} {fs : Array Field} {cs : List Value} {d : Nat} (h : P.underlying t = some (.struct fs)) (hl : cs.length = P.cellsOf t) (hn : fs.all (λf => f.name != "_") = true)
  (hm:∃ ls,fs.toList.mapM (λf=>P.keyLits d f.type ((cs.drop f.offset).take (P.cellsOf f.type)))=some ls):KL P (d+1) t cs:=by
 obtain⟨ls,hm⟩:=hm;exact⟨_,Xhl h hl hn hm⟩
theorem KL.arr {P:Program} {t:TypeId} {n:Nat} {e:TypeId} {cs:List Value} {d:Nat} (h:P.underlying t=some (.array n e)) (hl:cs.length=P.cellsOf t)
  (hm:∃ ls,(List.range n).mapM (λi=>P.keyLits d e ((cs.drop (i*P.cellsOf e)).take (P.cellsOf e)))=some ls):KL P (d+1) t cs:=by
 obtain⟨ls,hm⟩:=hm;exact⟨_,Xua h hl hm⟩
theorem Xcj {α β:Type} {f:α->Option β}:∃ ls,([]:List α).mapM f=some ls:=⟨_,Xu4⟩
theorem X3k {α β:Type} {f:α->Option β} {a:α} {l:List α} (h:∃ b,f a=some b) (h2:∃ bs,l.mapM f=some bs):∃ ls,(a::l).mapM f=some ls:=by
 obtain⟨b,h⟩:=h;obtain⟨bs,h2⟩:=h2;exact⟨_,Xq9 h h2⟩
theorem Xub {P:Program} {k:TypeId} {xs:List Value} {ls:List Lit} (hw:(match P.underlying k with|some (.array _ _)|some (.struct _)=>true|_=>false)=true) (hk:P.keyType k=true) (hf:(Value.agg xs.toArray).formed P k=true) (hl:P.keyLits (P.types.size+1) k xs=some ls) :
  keyOf P k (.agg xs.toArray)=some (.string (keyBytes ls)):=by
 unfold keyOf;split
 ·rw[hk,hf];simp[Value.cells,hl]
 ·rw[hk,hf];simp[Value.cells,hl]
 ·rename_i h1 h2;split at hw
  ·rename_i h;exact absurd h (h1 _ _)
  ·rename_i h;exact absurd h (h2 _)
  ·cases hw
theorem Xod {P:Program} {k:TypeId} {xs:List Value} (hw:(match P.underlying k with|some (.array _ _)|some (.struct _)=>true|_=>false)=true) (hk:P.keyType k=true) (hf:(Value.agg xs.toArray).formed P k=true) (hl:KL P (P.types.size+1) k xs):∃ l,keyOf P k (.agg xs.toArray)=some l:=by
 obtain⟨ls,hl⟩:=hl;exact⟨_,Xub hw hk hf hl⟩
end Go.Av
namespace Go.D
noncomputable def Xox {α:Type} (p:α->Prop) (l:List α):Option Unit:=open Classical in if ∀ y∈l,p y then some () else none
theorem X7k {α:Type} {p:α->Prop} {l:List α} {u:Unit} (h:Xox p l=some u):∀ y∈l,p y:=by
 unfold Xox at h;split at h
 ·assumption
 ·cases h
theorem X9s {α:Type} {p:α->Prop} {l:List α} (h:∀ y∈l,p y):Xox p l=some ():=if_pos h
section
variable {α:Type} [DecidableEq α]
def X2b (x:α):List (α×Int)->Int
 |[]=>0
 |(a,v)::r=>if a=x then v else X2b x r
def X63 (x:α) (v:Int):List (α×Int)->List (α×Int)
 |[]=>[(x,v)]
 |(a,w)::r=>if a=x then (x,v)::r else (a,w)::X63 x v r
def X0y (ks:List (α×Int)):List α->List (α×Int)
 |[]=>ks
 |x::xs=>X0y (X63 x (IntKind.i64.wrap (X2b x ks+1)) ks) xs
def X0k (ks:List (α×Int)):List α->Bool
 |[]=>true
 |x::xs=>bif decide (X2b x (X63 x (IntKind.i64.wrap (X2b x ks - 1)) ks)<0) then false else X0k (X63 x (IntKind.i64.wrap (X2b x ks - 1)) ks) xs
theorem X56 (x:α) (v:Int):∀ ks:List (α×Int),X2b x (X63 x v ks)=v:=by
 intro ks
 induction ks with
 |nil=>simp[X63,X2b]
 |cons p r ih=>obtain⟨a,w⟩:=p;by_cases h:a=x<;>simp[X63,X2b,h,ih]
theorem X30 {x y:α} (hne:y≠x) (v:Int):∀ ks:List (α×Int),X2b y (X63 x v ks)=X2b y ks:=by
 intro ks
 induction ks with
 |nil=>simp[X63,X2b,Ne.symm hne]
 |cons p r ih =>
  obtain⟨a,w⟩:=p;by_cases h:a=x
  ·subst h;simp[X63,X2b,Ne.symm hne]
  ·by_cases h2:a=y
   ·subst h2;simp[X63,X2b,h]
   ·simp[X63,X2b,h,h2,ih]
end
end Go.D
namespace Go.Av
open Go.D
section
variable {α:Type} [DecidableEq α] {e:α->Value}
def kvE (e:α->Value) (p:α×Int):Value×Value:=(e p.1,.int .i64 p.2)
theorem X4a (he:∀ a b,e a=e b->a=b) (x:α) (v:Int):∀ ks:List (α×Int),X4l (e x) (.int .i64 v) (ks.map (kvE e))=(X63 x v ks).map (kvE e):=by
 intro ks
 induction ks with
 |nil=>simp[X4l,X63,kvE]
 |cons p r ih =>
  obtain⟨a,w⟩:=p;by_cases h:a=x
  ·subst h;simp[X4l,X63,kvE]
  ·have h2:¬ e a=e x:=λq=>h (he _ _ q);have ih':X4l (e x) (.int .i64 v) (r.map (kvE e))=(X63 x v r).map (kvE e):=ih;simp[X4l,X63,kvE,h,h2];exact ih'
theorem X5r (he:∀ a b,e a=e b->a=b) (x:α):∀ ks:List (α×Int),(X55 (e x) (ks.map (kvE e))).getD (.int .i64 0)=.int .i64 (X2b x ks):=by
 intro ks
 induction ks with
 |nil=>simp[X55,X2b]
 |cons p r ih =>
  obtain⟨a,w⟩:=p;by_cases h:a=x
  ·subst h;simp[X55,X2b,kvE]
  ·have h2:¬ e a=e x:=λq=>h (he _ _ q);simp[X55,X2b,kvE,h,h2];exact ih
end
theorem MOk.drop {n0:Nat} {c0 c:Ctx} {H0 H:Xh} {b:Nat} {l:List (Value×Value)} {μ:Mu} {act:Act} (h:MOk n0 c0 H0 c H ((b,.map l)::μ) act):MOk n0 c0 H0 c H μ act :=
 ⟨λq hq=>h.is q (List.mem_cons_of_mem _ hq),λq hq=>h.away q (List.mem_cons_of_mem _ hq),(List.nodup_cons.1 h.nodup).2,h.ds⟩
end Go.Av


namespace Go.Av
variable [Gls]
open Go.WideMaps MapKept
def mkL (j:Nat) (s:List Bool):Array Bool:=(List.replicate j true++s).toArray
theorem Xq5 (j i:Nat) (s:List Bool):(mkL j s).setIfInBounds (j+i) true=mkL j (s.set i true):=by
 unfold mkL;apply Array.ext';simp only[Array.toList_setIfInBounds];rw[List.set_append_right _ _ (by simp)];simp
theorem Xu2 {listed:Array Bool} {j:Nat} (hsz:listed.size=j+5) (h:∀ k,k<j+5->(listed.getD k false=true↔k<j)):listed=mkL j [false,false,false,false,false]:=by
 have hs2:(mkL j [false,false,false,false,false]).size=j+5:=by simp[mkL]
 apply Array.ext om;intro k h1 h2;have hk:=h k om;rw[Array.getD_eq_getD_getElem?,Array.getElem?_eq_getElem h1,Option.getD_some] at hk;have e:(mkL j [false,false,false,false,false])[k]=decide (k<j):=by
  simp only[mkL,List.getElem_toArray];by_cases hkj:k<j
  ·rw[List.getElem_append_left (by simpa using hkj)];simp[hkj]
  ·rw[List.getElem_append_right (by simpa using hkj)];have hall:∀ b∈[false,false,false,false,false],b=false:=by decide
   simp only[hkj,decide_false];exact hall _ (List.getElem_mem _)
 rw[e];by_cases hkj:k<j
 ·simp[hkj,hk]
 ·cases hq:listed[k] with
  |false=>simp[hkj]
  |true=>exact absurd (hk.1 hq) hkj
theorem X29 (a:Act) {d d':Nat} (v v':Value) (h:d≠d'):(a.put (some d) v).put (some d') v'=(a.put (some d') v').put (some d) v:=by
 simp only[Act.put];rw[Array.setIfInBounds_comm _ _ (by exact h)]
theorem X1a (a:Act) {d:Nat} (v:Value) (h:d<a.tmps.size):(a.put (some d) v).eval (.tmp d)=v:=by
 simp[Act.put,Act.eval,h]
theorem Xo (a:Act) {d t:Nat} (v:Value) (h:t≠d):(a.put (some d) v).eval (.tmp t)=a.eval (.tmp t):=by
 simp[Act.put,Act.eval,Array.getElem?_setIfInBounds_ne (Ne.symm h)]
theorem X4f (a:Act) (d:Option Nat) (v:Value):(a.put d v).tmps.size=a.tmps.size:=by
 cases d<;>simp[Act.put]
section
variable {P:Program} {ops:Array Oper} {Q:Exit->Act->World->Prop}
theorem X1l {f i:Nat} {l l':Array Bool} {a:Act} {w w':World} {o:Oper} {v:Value} {d:Nat} (ho:ops[i]?=some o) (hg:o.guard=none) (hd:o.dst=some d) (hrun:(execOp a.eval o).run P w=.ok (.value v) w') (hl:l.setIfInBounds i true=l')
  (k:wpAny P .any ops Q f l' (a.put (some d) v) w'):wpOp P ops Q i (wpAny P .any ops Q f (l.setIfInBounds i true)) a w:=by
 unfold wpOp;rw[ho];simp only;rw[if_pos (by simp[Region.wanted,hg])];left;unfold Oper.wp;rw[hrun,hl]
 show wpAny P .any ops Q f l' (a.put o.dst v) w';rw[hd];exact k
theorem Xf3 {f i:Nat} {l l':Array Bool} {a:Act} {w w':World} {o:Oper} (ho:ops[i]?=some o) (hg:o.guard=none) (hd:o.dst=none) (hrun:(execOp a.eval o).run P w=.ok .skip w') (hl:l.setIfInBounds i true=l')
  (k:wpAny P .any ops Q f l' a w'):wpOp P ops Q i (wpAny P .any ops Q f (l.setIfInBounds i true)) a w:=by
 unfold wpOp;rw[ho];simp only;rw[if_pos (by simp[Region.wanted,hg])];left;unfold Oper.wp;rw[hrun,hl]
 show wpAny P .any ops Q f l' (a.put o.dst undef) w';rw[hd];exact k
theorem X4n {f i:Nat} {l:Array Bool} {a:Act} {w:World} (hr:Region.ready .any ops l=[i]) (h:wpOp P ops Q i (wpAny P .any ops Q f (l.setIfInBounds i true)) a w):wpAny P .any ops Q (f+1) l a w :=
 ⟨λe=>(by rw[hr] at e;cases e),λq hq=>by rw[hr] at hq;rw[List.mem_singleton.1 hq];exact h⟩
theorem X5y {f i i':Nat} {l:Array Bool} {a:Act} {w:World} (hr:Region.ready .any ops l=[i,i']) (h:wpOp P ops Q i (wpAny P .any ops Q f (l.setIfInBounds i true)) a w) (h':wpOp P ops Q i' (wpAny P .any ops Q f (l.setIfInBounds i' true)) a w):wpAny P .any ops Q (f+1) l a w :=
 ⟨λe=>(by rw[hr] at e;cases e),λq hq=>by
  rw[hr] at hq;rcases List.mem_cons.1 hq with rfl|hq
  ·exact h
  ·rw[List.mem_singleton.1 hq];exact h'⟩
structure Xd4 (ops:Array Oper) (j:Nat):Prop where
 r0:Region.ready .any ops (mkL j [false,false,false,false,false])=[j,j+2]
 r1:Region.ready .any ops (mkL j [true,false,false,false,false])=[j+1,j+2]
 r2:Region.ready .any ops (mkL j [false,false,true,false,false])=[j,j+3]
 r3:Region.ready .any ops (mkL j [true,true,false,false,false])=[j+2]
 r4:Region.ready .any ops (mkL j [true,false,true,false,false])=[j+1,j+3]
 r5:Region.ready .any ops (mkL j [false,false,true,true,false])=[j]
 r6:Region.ready .any ops (mkL j [true,true,true,false,false])=[j+3]
 r7:Region.ready .any ops (mkL j [true,false,true,true,false])=[j+1]
 r8:Region.ready .any ops (mkL j [true,true,true,true,false])=[j+4]
 r9:Region.ready .any ops (mkL j [true,true,true,true,true])=[]
theorem Xf4 {j d2 d3 d4 d5 tm tk:Nat} {o2 o3 o4 o5 o6:Oper} {act:Act} {w0 w1 w3:World} {M kv v0 v1 tup st:Value} (R:Xd4 ops j)
  (i2:ops[j]?=some o2) (i3:ops[j+1]?=some o3) (i4:ops[j+2]?=some o4) (i5:ops[j+3]?=some o5) (i6:ops[j+4]?=some o6)
  (g2:o2.guard=none) (g3:o3.guard=none) (g4:o4.guard=none) (g5:o5.guard=none) (g6:o6.guard=none)
  (p2:o2.dst=some d2) (p3:o3.dst=some d3) (p4:o4.dst=some d4) (p5:o5.dst=some d5) (p6:o6.dst=none)
  (n23:d2≠d3) (n24:d2≠d4) (n25:d2≠d5) (n34:d3≠d4) (n35:d3≠d5) (n45:d4≠d5) (m2:tm≠d2) (m3:tm≠d3) (m4:tm≠d4) (m5:tm≠d5) (k2:tk≠d2) (k3:tk≠d3) (k4:tk≠d4) (k5:tk≠d5)
  (l2:d2<act.tmps.size) (l3:d3<act.tmps.size) (l4:d4<act.tmps.size) (l5:d5<act.tmps.size)
  (em:act.eval (.tmp tm)=M) (ek:act.eval (.tmp tk)=kv)
  (e2:∀ (a:Act) (w:World),a.eval (.tmp tm)=M->a.eval (.tmp tk)=kv->w=w0\/w=w1->(execOp a.eval o2).run P w=.ok (.value v0) w)
  (e3:∀ (a:Act) (w:World),a.eval (.tmp d2)=v0->(execOp a.eval o3).run P w=.ok (.value v1) w)
  (e4:∀ (a:Act),a.eval (.tmp tm)=M->a.eval (.tmp tk)=kv->(execOp a.eval o4).run P w0=.ok (.value tup) w1)
  (e5:∀ (a:Act) (w:World),a.eval (.tmp d4)=tup->(execOp a.eval o5).run P w=.ok (.value st) w)
  (e6:∀ (a:Act),a.eval (.tmp tm)=M->a.eval (.tmp d5)=st->a.eval (.tmp d3)=v1->(execOp a.eval o6).run P w1=.ok .skip w3)
  (k:Q .normal ((((act.put (some d2) v0).put (some d3) v1).put (some d4) tup).put (some d5) st) w3):wpAny P .any ops Q 5 (mkL j [false,false,false,false,false]) act w0:=by
 have hs:∀ i s,(mkL j s).setIfInBounds (j+i) true=mkL j (s.set i true):=Xq5 j;have hs0:∀ s,(mkL j s).setIfInBounds j true=mkL j (s.set 0 true):=hs 0;have S:wpAny P .any ops Q 1 (mkL j [true,true,true,true,false]) ((((act.put (some d2) v0).put (some d3) v1).put (some d4) tup).put (some d5) st) w1:=by
  refine X4n R.r8 (Xf3 i6 g6 p6 (e6 _ ?_ ?_ ?_) (hs 4 _) ⟨R.r9,k⟩)
  ·rw[Xo _ _ m5,Xo _ _ m4,Xo _ _ m3,Xo _ _ m2,em]
  ·rw[X1a _ _ (by simp only[X4f];exact l5)]
  ·rw[Xo _ _ n35,Xo _ _ n34,X1a _ _ (by simp only[X4f];exact l3)]
 have h234:wpAny P .any ops Q 2 (mkL j [true,true,true,false,false]) (((act.put (some d2) v0).put (some d3) v1).put (some d4) tup) w1:=by
  refine X4n R.r6 (X1l i5 g5 p5 (e5 _ _ ?_) (hs 3 _) S);rw[X1a _ _ (by simp only[X4f];exact l4)]
 have h245:wpAny P .any ops Q 2 (mkL j [true,false,true,true,false]) (((act.put (some d2) v0).put (some d4) tup).put (some d5) st) w1:=by
  refine X4n R.r7 (X1l i3 g3 p3 (e3 _ _ ?_) (hs 1 _) ?_)
  ·rw[Xo _ _ n25,Xo _ _ n24,X1a _ _ l2]
  ·rw[X29 _ _ _ (Ne.symm n35),X29 (act.put (some d2) v0) _ _ (Ne.symm n34)];exact S
 have h24:wpAny P .any ops Q 3 (mkL j [true,false,true,false,false]) ((act.put (some d2) v0).put (some d4) tup) w1:=by
  refine X5y R.r4 (X1l i3 g3 p3 (e3 _ _ ?_) (hs 1 _) ?_) (X1l i5 g5 p5 (e5 _ _ ?_) (hs 3 _) h245)
  ·rw[Xo _ _ n24,X1a _ _ l2]
  ·rw[X29 _ _ _ (Ne.symm n34)];exact h234
  ·rw[X1a _ _ (by simp only[X4f];exact l4)]
 have h45:wpAny P .any ops Q 3 (mkL j [false,false,true,true,false]) ((act.put (some d4) tup).put (some d5) st) w1:=by
  refine X4n R.r5 (X1l i2 g2 p2 (e2 _ _ ?_ ?_ (.inr rfl)) (hs0 _) ?_)
  ·rw[Xo _ _ m5,Xo _ _ m4,em]
  ·rw[Xo _ _ k5,Xo _ _ k4,ek]
  ·rw[X29 _ _ _ (Ne.symm n25),X29 act _ _ (Ne.symm n24)];exact h245
 have h23:wpAny P .any ops Q 3 (mkL j [true,true,false,false,false]) ((act.put (some d2) v0).put (some d3) v1) w0:=by
  refine X4n R.r3 (X1l i4 g4 p4 (e4 _ ?_ ?_) (hs 2 _) h234)
  ·rw[Xo _ _ m3,Xo _ _ m2,em]
  ·rw[Xo _ _ k3,Xo _ _ k2,ek]
 have h2:wpAny P .any ops Q 4 (mkL j [true,false,false,false,false]) (act.put (some d2) v0) w0:=by
  refine X5y R.r1 (X1l i3 g3 p3 (e3 _ _ (X1a _ _ l2)) (hs 1 _) h23) (X1l i4 g4 p4 (e4 _ ?_ ?_) (hs 2 _) h24)
  ·rw[Xo _ _ m2,em]
  ·rw[Xo _ _ k2,ek]
 have h4:wpAny P .any ops Q 4 (mkL j [false,false,true,false,false]) (act.put (some d4) tup) w1:=by
  refine X5y R.r2 (X1l i2 g2 p2 (e2 _ _ ?_ ?_ (.inr rfl)) (hs0 _) ?_) (X1l i5 g5 p5 (e5 _ _ (X1a _ _ l4)) (hs 3 _) h45)
  ·rw[Xo _ _ m4,em]
  ·rw[Xo _ _ k4,ek]
  ·rw[X29 act _ _ (Ne.symm n24)];exact h24
 exact X5y R.r0 (X1l i2 g2 p2 (e2 _ _ em ek (.inl rfl)) (hs0 _) h2) (X1l i4 g4 p4 (e4 _ em ek) (hs 2 _) h4)
end
def Xw1 (j:Nat) (l:List Oper):Bool:=(List.range l.length).all λi=>Nat.blt i j||(List.range j).all λq=>((Xz l).getD i 0).testBit q
theorem Xiz {j:Nat} {l:List Oper} (h:Xw1 j l=true) {i q:Nat} (hi:i<l.length) (hj:j<=i) (hq:q<j):((Xz l).getD i 0).testBit q=true:=by
 have:=List.all_eq_true.1 h i (List.mem_range.2 hi);simp only[Bool.or_eq_true,Nat.blt_eq] at this;rcases this with h1|h1
 ·omega
 ·exact List.all_eq_true.1 h1 q (List.mem_range.2 hq)
section
variable {P:Program} {ops:Array Oper} {Q:Exit->Act->World->Prop}
theorem Xd9 {R:Exit->Act->World->Prop} {j:Nat} {pre:Array Oper} (hp:pre.toList=ops.toList.take j) (hjl:j<=ops.size) (hpre:X2f 0 ops.toList=true) (hbar:Xw1 j ops.toList=true) (hgd:Xa3 (ops.toList.take j)=true)
  (hRQ:∀ e a w,e≠.normal->R e a w->Q e a w) (r:Nat)
  (hend:∀ listed a w,listed.size=ops.size->(∀ k,k<ops.size->(listed.getD k false=true↔k<j))->R .normal a w->wpAny P .any ops Q r listed a w) :
  ∀ (f:Nat) (lp lo:Array Bool) (a:Act) (w:World),lp.size=pre.size->lo.size=ops.size->(∀ k,lo.getD k false=(lp.getD k false&&Nat.blt k j))->Xc4 pre lp ->
   wpAny P .any pre R f lp a w->wpAny P .any ops Q (f+r) lo a w:=by
 have hlen:ops.toList.length=ops.size:=Array.length_toList;have hps:pre.size=j:=by rw[<-Array.length_toList,hp,List.length_take];omega
 have hpp:X2f 0 pre.toList=true:=by
  have key:∀ (l:List Oper) (i k:Nat),X2f i l=true->X2f i (l.take k)=true:=by
   intro l
   induction l with
   |nil=>intro i k _;simp[X2f]
   |cons a l ih =>
    intro i k h
    cases k with
    |zero=>rfl
    |succ k =>
     simp only[X2f,Bool.and_eq_true,List.take_succ_cons] at h ⊢;exact⟨h.1,ih _ _ h.2⟩
  rw[hp];exact key _ _ _ hpre
 have same:∀ (k:Nat) o,ops.toList[k]?=some o->k<j->pre.toList[k]?=some o:=λk o ho hk=>by rw[hp,List.getElem?_take,if_pos hk];exact ho
 have full:∀ (lp:Array Bool),lp.size=pre.size->Region.ready .any pre lp=[]->∀ k,k<j->lp.getD k false=true:=by
  intro lp hs hr k
  induction k using Nat.strongRecOn with
  |_ k ih =>
   intro hk
   cases hl:lp.getD k false with
   |true=>rfl
   |false =>
    have hko:pre.toList[k]?=some (pre.toList[k]'(by rw[Array.length_toList];omega)):=List.getElem?_eq_getElem _;have:=X87 hs hko hl λq hq=>by
     have h1:=X2r _ 0 hpp k _ hko q hq;exact ih q om om
    rw[hr] at this;cases this
 have yl:∀ (tmps:Array Value) (q:Nat),q<j->yielded ops tmps q=yielded pre tmps q:=by
  intro tmps q hq;have:ops[q]?=pre[q]?:=by
   have h1:ops.toList[q]?=pre.toList[q]?:=by rw[hp,List.getElem?_take,if_pos hq]
   simpa using h1
  unfold yielded;rw[this]
 intro f
 induction f with
 |zero =>
  intro lp lo a w hs1 hs2 hrel hcl h;obtain⟨h1,h2⟩:=h;rw[Nat.zero_add];refine hend lo a w hs2 (λk hk=>?_) h2;rw[hrel];constructor
  ·intro h3;simp only[Bool.and_eq_true,Nat.blt_eq] at h3;exact h3.2
  ·intro h3;simp only[Bool.and_eq_true,Nat.blt_eq];exact⟨full lp hs1 h1 k h3,h3⟩
 |succ f ih =>
  intro lp lo a w hs1 hs2 hrel hcl h;obtain⟨h1,h2⟩:=h;by_cases hr:Region.ready .any pre lp=[]
  ·have:wpAny P .any ops Q r lo a w:=hend lo a w hs2 (λk hk=>by
    rw[hrel];constructor
    ·intro h3;simp only[Bool.and_eq_true,Nat.blt_eq] at h3;exact h3.2
    ·intro h3;simp only[Bool.and_eq_true,Nat.blt_eq];exact⟨full lp hs1 hr k h3,h3⟩) (h1 hr)
   have:=Xbn (f+1) r lo a w this
   rwa [Nat.add_comm] at this
  ·have hclo:Xc4 ops lo:=by
    intro i o ho hi q hq;rw[hrel] at hi ⊢;simp only[Bool.and_eq_true,Nat.blt_eq] at hi ⊢;have hq2:=X2r _ 0 hpre i o ho q hq;exact⟨hcl i o (same i o ho hi.2) hi.1 q hq,by omega⟩
   obtain⟨p,hpr⟩:=List.exists_mem_of_ne_nil _ hr;have hpj:p<j:=by have:=(X1j.1 hpr).1;omega
   have hnl:lo.getD p false=false:=by
    rw[hrel];have h3:=(X1j.1 hpr).2.1;have hpl:p<lp.size:=by omega
    simp only[Array.getD_eq_getD_getElem?,Array.getElem?_eq_getElem hpl,Option.getD_some] at h3 ⊢;rw[h3];rfl
   have low:∀ i,i∈Region.ready .any ops lo->i<j:=by
    intro i hi;rcases Nat.lt_or_ge i j with h3|h3
    ·exact h3
    ·have:=Xfm hpre hclo hi (Xiz hbar (by have:=(X1j.1 hi).1;omega) h3 (show p<j by omega));rw[hnl] at this;cases this
   rw[show f+1+r=(f+r)+1 by omega];refine⟨λhro=>?_,λi hi=>?_⟩
   ·exfalso;have hpo:pre.toList[p]?=some (pre.toList[p]'(by rw[Array.length_toList];omega)):=List.getElem?_eq_getElem _;have hpo2:ops.toList[p]?=some (pre.toList[p]'(by rw[Array.length_toList];omega)):=(Xdp (by rw[<-hp];exact hpo)).1;have:p∈Region.ready .any ops lo:=X87 hs2 hpo2 hnl λq hq=>by
     have h3:=X65 hpr hpo q hq;have h4:=X2r _ 0 hpre p _ hpo2 q hq;rw[hrel,h3];simp;omega
    rw[hro] at this;cases this
   ·have hij:=low i hi;have hio:ops.toList[i]?=some (ops.toList[i]' om):=List.getElem?_eq_getElem _;have hip:=same i _ hio hij;have hli:lp.getD i false=false:=by
     have h3:=(X1j.1 hi).2.1;have hil:i<lo.size:=by omega
     have h5:lo.getD i false=false:=by
      simp only[Array.getD_eq_getD_getElem?,Array.getElem?_eq_getElem hil,Option.getD_some] at h3 ⊢;exact h3
     rw[hrel] at h5;have:Nat.blt i j=true:=by simpa using hij
     rw[this,Bool.and_true] at h5;exact h5
    have hir:i∈Region.ready .any pre lp:=X87 hs1 hip hli λq hq=>by
     have h3:=X65 hi hio q hq;rw[hrel] at h3;simp only[Bool.and_eq_true] at h3;exact h3.1
    have hk:=h2 i hir;unfold wpOp at hk ⊢;have e1:ops[i]?=some (ops.toList[i]' om):=by simpa using hio
    have e2:pre[i]?=some (ops.toList[i]' om):=by simpa using hip
    rw[e2] at hk;rw[e1];simp only at hk ⊢;have hw:Region.wanted (ops.toList[i]' om) (yielded ops a.tmps)=Region.wanted (ops.toList[i]' om) (yielded pre a.tmps):=by
     unfold Region.wanted
     cases hgu:(ops.toList[i]' om).guard with
     |none=>rfl
     |some g =>
      obtain⟨gj,want⟩:=g;have h5:=List.all_eq_true.1 hgd (ops.toList[i]' om) (List.mem_of_getElem? (i:=i) (by rw[List.getElem?_take,if_pos hij];exact hio));rw[hgu] at h5;simp only[Nat.blt_eq,List.length_take] at h5;simp only[yl a.tmps gj om]
    rw[hw];have hnext:∀ a' w',wpAny P .any pre R f (lp.setIfInBounds i true) a' w'->wpAny P .any ops Q (f+r) (lo.setIfInBounds i true) a' w':=by
     intro a' w' h';refine ih _ _ a' w' (by simpa using hs1) (by simpa using hs2) (λk=>?_) ?_ h'
     ·rw[X4b om,X4b om,hrel];by_cases hki:k=i
      ·subst hki;have:Nat.blt k j=true:=by simpa using hij
       simp[this]
      ·have:Nat.beq k i=false:=by rw[<-Bool.not_eq_true,Nat.beq_eq];exact hki
       simp[this]
     ·intro k o ho hk q hq;rw[X4b om] at hk ⊢;rcases Bool.or_eq_true_iff.1 hk with hk|hk
      ·rw[hcl k o ho hk q hq];rfl
      ·have:k=i:=by simpa using hk
       subst this;rw[X65 hir ho q hq];rfl
    by_cases hwt:Region.wanted (ops.toList[i]' om) (yielded pre a.tmps)=true
    ·rw[if_pos hwt] at hk ⊢;rcases hk with hk|⟨hk,a0,w0,hl⟩
     ·exact .inl (Oper.wp_mono2 hnext hRQ hk)
     ·exact .inr ⟨hk,a0,w0,hRQ _ _ _ (by intro h;cases h) hl⟩
    ·rw[if_neg hwt] at hk ⊢;exact hnext _ _ hk
end
def Xqm (d2 d3 d4 d5 tm tk:Nat):Bool:=decide (d2≠d3/\d2≠d4/\d2≠d5/\d3≠d4/\d3≠d5/\d4≠d5/\tm≠d2/\tm≠d3/\tm≠d4/\tm≠d5/\tk≠d2/\tk≠d3/\tk≠d4/\tk≠d5)
theorem Xql {P:Program} {T:Ty} {nt n0 j n:Nat} {ops:Array Oper} {L':List (Nat×AV)} {G':List (Nat×Obj)} {Q:Xc->St->Mu->Prop} {μ:Mu} (hT:X1h P T)
  {d2 d3 d4 d5 tm tk t kt et b:Nat} {o2 o3 o4 o5 o6:Oper} {bop:BinOp} {bt yt:Nat} {kv z xv:Value} {zn:Int} {es:List (Value×Value)} {ti:TI} {lk:Lit} {ka:AV} {qm qk:List Prop}
  (hsz:ops.size=j+5) (R:Xd4 ops j) (hops:ops.toList.drop j=[o2,o3,o4,o5,o6])
  (ho2:o2.op=.lookup t (.tmp tm) (.tmp tk) false) (ho3:o3.op=.binOp bop bt (.tmp d2) (.const (.int .i64 1)) yt) (ho4:o4.op=.mapEntry t (.tmp tm) (.tmp tk)) (ho5:o5.op=.extract (.tmp d4) 1) (ho6:o6.op=.entryStore t (.tmp tm) (.tmp d5) (.tmp d3))
  (g2:o2.guard=none) (g3:o3.guard=none) (g4:o4.guard=none) (g5:o5.guard=none) (g6:o6.guard=none) (p2:o2.dst=some d2) (p3:o3.dst=some d3) (p4:o4.dst=some d4) (p5:o5.dst=some d5) (p6:o6.dst=none)
  (hne:Xqm d2 d3 d4 d5 tm tk=true) (hlt:(Nat.blt d2 nt&&Nat.blt d3 nt&&Nat.blt d4 nt&&Nat.blt d5 nt)=true)
  (ht:T t=some ti) (hkd:ti.kind=.map kt et) (KL:KeyLaw P kt) (hz:∀ w,(zeroValue et).run P w=.ok z w)
  (hm:rd L' (.tmp tm)=(.sc (.map (some b)),qm)) (hk:rd L' (.tmp tk)=(ka,qk)) (hka:Xoe ka=some kv) (hqm:X0w qm) (hqk:X0w qk) (hik:keyOf P kt kv=some lk) (hks:X98 P kt es)
  (hv:(X55 kv es).getD z=.int .i64 zn) (hx:X8b bop .i64 zn 1=some xv)
  (k:∀ a c,Q .normal ⟨fr (X5m (some d5) c (X5m (some d4) a (X5m (some d3) (.sc xv) (X5m (some d2) (.sc (.int .i64 zn)) L')))),hp G',n+j⟩ ((b,X4l kv xv es)::μ))
  {c0 c:Ctx} {H0:Xh} {act:Act} {listed:Array Bool} (g:X0b nt c0 H0 n0 c ⟨fr L',hp G',n+j⟩ act) (hM:MOk n0 c0 H0 c (hp G') ((b,es)::μ) act) (hls:listed.size=ops.size) (hl:∀ k,k<ops.size->(listed.getD k false=true↔k<j)) :
  wpAny P .any ops (MQ nt c0 H0 n0 Q) (ops.size - j) listed act c.w:=by
 have hlist:listed=mkL j [false,false,false,false,false]:=Xu2 om (λk hk=>hl k om);rw[hlist,show ops.size - j=5 by omega];have hat:∀ i,i<5->ops[j+i]?=[o2,o3,o4,o5,o6][i]?:=λi hi=>by
  have h1:(ops.toList.drop j)[i]?=ops.toList[j+i]?:=List.getElem?_drop;rw[hops] at h1;rw[h1];simp
 simp only[Bool.and_eq_true,Nat.blt_eq] at hlt;obtain⟨⟨⟨l2,l3⟩,l4⟩,l5⟩:=hlt;obtain⟨n23,n24,n25,n34,n35,n45,m2,m3,m4,m5,k2,k3,k4,k5⟩:=of_decide_eq_true hne;have em:act.eval (.tmp tm)=.map (some b):=by have:=g.ev (.tmp tm);rw[show evA (St.A ⟨fr L',hp G',n+j⟩) (.tmp tm)=_ from Xp hm hqm] at this;exact this.sc_inv
 have ek:act.eval (.tmp tk)=kv:=by have:=g.ev (.tmp tk);rw[show evA (St.A ⟨fr L',hp G',n+j⟩) (.tmp tk)=_ from Xp hk hqk] at this;exact X7q hka this
 have hu1:P.underlying t=some (.map kt et):=by
  obtain⟨i,dd,_,hdd,_,hkk,_⟩:=Xr (hT t ti ht);rw[hkd] at hkk;cases dd<;>simp[X1] at hkk
  obtain⟨rfl,rfl⟩:=hkk;exact hdd
 have hMb:=hM.is (b,es) (by simp);obtain⟨v0,st,b1,b3,hr1,hr3,hmap,hM1⟩:=X8u (v:=xv) KL hu1 hz hMb hik hks;have hlook:∀ w,w=c.w\/w={ c.w with heap:=c.w.heap.setIfInBounds b b1 }->(Instr.lookup t (.map (some b)) kv false).run P w=.ok (.int .i64 zn) w:=by
  rintro w (rfl|rfl)
  ·rw[<-hv];exact X40 KL hu1 (hz _) hMb hik hks
  ·obtain⟨es1,hM1',hks1',hv1'⟩:=hM1;rw[<-hv,<-hv1'];exact X40 KL hu1 (hz _) hM1' hik hks1'
 have e2:∀ (a:Act) (w:World),a.eval (.tmp tm)=.map (some b)->a.eval (.tmp tk)=kv->w=c.w\/w={ c.w with heap:=c.w.heap.setIfInBounds b b1 }->(execOp a.eval o2).run P w=.ok (.value (.int .i64 zn)) w:=by
  intro a w h1 h2 h3;obtain⟨dst,op,type,pos,after,guard⟩:=o2;simp only at ho2;subst ho2;simp only[execOp,h1,h2,Sem.run_bind,hlook w h3];rfl
 have e3:∀ (a:Act) (w:World),a.eval (.tmp d2)=.int .i64 zn->(execOp a.eval o3).run P w=.ok (.value xv) w:=by
  intro a w h1;obtain⟨dst,op,type,pos,after,guard⟩:=o3;simp only at ho3;subst ho3;have h2:a.eval (.const (.int .i64 1))=.int .i64 1:=rfl;have:=Xaz (P:=P) hx bt (.tmp d2) (.const (.int .i64 1)) w;simp only[execOp,h1,h2];rw[Sem.run_bind,this];rfl
 have e4:∀ (a:Act),a.eval (.tmp tm)=.map (some b)->a.eval (.tmp tk)=kv->(execOp a.eval o4).run P c.w=.ok (.value (.tuple #[v0,.int .i64 st])) { c.w with heap:=c.w.heap.setIfInBounds b b1 }:=by
  intro a h1 h2;obtain⟨dst,op,type,pos,after,guard⟩:=o4;simp only at ho4;subst ho4;simp only[execOp,h1,h2,Sem.run_bind,hr1];rfl
 have e5:∀ (a:Act) (w:World),a.eval (.tmp d4)=.tuple #[v0,.int .i64 st]->(execOp a.eval o5).run P w=.ok (.value (.int .i64 st)) w:=by
  intro a w h1;obtain⟨dst,op,type,pos,after,guard⟩:=o5;simp only at ho5;subst ho5;simp only[execOp,h1];rfl
 have e6:∀ (a:Act),a.eval (.tmp tm)=.map (some b)->a.eval (.tmp d5)=.int .i64 st->a.eval (.tmp d3)=xv->(execOp a.eval o6).run P { c.w with heap:=c.w.heap.setIfInBounds b b1 }=.ok .skip { c.w with heap:=c.w.heap.setIfInBounds b b3 }:=by
  intro a h1 h2 h3;obtain⟨dst,op,type,pos,after,guard⟩:=o6;simp only at ho6;subst ho6;simp only[execOp,h1,h2,h3,Sem.run_bind,hr3];rfl
 have q2:=g.next (c':=c) (dst:=some d2) (a:=.sc (.int .i64 zn)) (v:=.int .i64 zn) (λt ht=>by cases ht;exact l2) (.refl c) rfl (λb hb=>.inl hb) (.refl c (hp G')) (λq x hx=>.inr ⟨q,x,hx,rfl⟩) g.inv g.solo (Nat.le_refl _) .sc .sc;have q3:=q2.next (c':=c) (dst:=some d3) (a:=.sc xv) (v:=xv) (λt ht=>by cases ht;exact l3) (.refl c) rfl (λb hb=>.inl hb) (.refl c (hp G')) (λq x hx=>.inr ⟨q,x,hx,rfl⟩) q2.inv q2.solo (Nat.le_refl _) .sc .sc;have q4:=q3.next (c':=c) (dst:=some d4) (a:=.sc (.tuple #[v0,.int .i64 st])) (v:=.tuple #[v0,.int .i64 st]) (λt ht=>by cases ht;exact l4) (.refl c) rfl (λb hb=>.inl hb) (.refl c (hp G')) (λq x hx=>.inr ⟨q,x,hx,rfl⟩) q3.inv q3.solo (Nat.le_refl _) .sc .sc;have q5:=q4.next (c':=c) (dst:=some d5) (a:=.sc (.int .i64 st)) (v:=.int .i64 st) (λt ht=>by cases ht;exact l5) (.refl c) rfl (λb hb=>.inl hb) (.refl c (hp G')) (λq x hx=>.inr ⟨q,x,hx,rfl⟩) q4.inv q4.solo (Nat.le_refl _) .sc .sc;have g2':X0b nt c0 H0 n0 c ⟨fr (X5m (some d5) (.sc (.int .i64 st)) (X5m (some d4) (.sc (.tuple #[v0,.int .i64 st])) (X5m (some d3) (.sc xv) (X5m (some d2) (.sc (.int .i64 zn)) L')))),hp G',n+j⟩ ((((act.put (some d2) (.int .i64 zn)).put (some d3) xv).put (some d4) (.tuple #[v0,.int .i64 st])).put (some d5) (.int .i64 st)):=by
  rw[X0u,X0u,X0u,X0u];exact q5
 obtain⟨a1,a2,a3,a4⟩:=hM.away (b,es) (by simp);obtain⟨es0,cl,hb0,_⟩:=hM.is (b,es) (by simp);have hoth:∀ q,q≠b->({ c.w with heap:=c.w.heap.setIfInBounds b b3 }:World).heap[q]?=c.w.heap[q]?:=(heap_set (o':=b3) hb0).2;obtain⟨h1,h2⟩:=g2'.inv.aside (w':={ c.w with heap:=c.w.heap.setIfInBounds b b3 }) (by simp) hoth ⟨a1,a2⟩ a3;have g3':X0b nt c0 H0 n0 { c with w:={ c.w with heap:=c.w.heap.setIfInBounds b b3 } } ⟨fr (X5m (some d5) (.sc (.int .i64 st)) (X5m (some d4) (.sc (.tuple #[v0,.int .i64 st])) (X5m (some d3) (.sc xv) (X5m (some d2) (.sc (.int .i64 zn)) L')))),hp G',n+j⟩ ((((act.put (some d2) (.int .i64 zn)).put (some d3) xv).put (some d4) (.tuple #[v0,.int .i64 st])).put (some d5) (.int .i64 st)):=by
  refine⟨h2,g2'.solo,λq=>(g2'.frame q).mono h1 (.inr (g2'.ok q)),g2'.ok,g2'.size,?_,g2'.le0⟩;have r:=g2'.reach;refine⟨r.rho,r.os,r.tape,⟨r.output.1,Nat.le_trans r.output.2 (by first|exact Nat.le_refl _|exact X5u (Nat.le_succ _)|(simp;done)|(simp;omega))⟩,by simpa using r.size,λq hq hn=>?_,λq hq=>?_,r.sa,r.so1,r.so2,r.B,r.own⟩
  ·exact(hoth q (λe=>by subst e;exact(a4.no hq hn).elim)).trans (r.block q hq hn)
  ·refine(hoth q (λe=>?_)).trans (r.stable q hq);subst e;rcases hq with hq|hq
   ·exact a1 (by rw[r.sa];exact hq)
   ·exact a2 (r.so1 _ hq)
 have hMs:MOk n0 c0 H0 { c with w:={ c.w with heap:=c.w.heap.setIfInBounds b b3 } } (hp G') ((b,X4l kv xv es)::μ) ((((act.put (some d2) (.int .i64 zn)).put (some d3) xv).put (some d4) (.tuple #[v0,.int .i64 st])).put (some d5) (.int .i64 st)):=by
  refine⟨λp hp=>?_,λp hp=>?_,?_,by simp only[put_defers];exact hM.ds⟩
  ·rcases List.mem_cons.1 hp with rfl|hp
   ·exact hmap
   ·have hne:p.1≠b:=λe=>(List.nodup_cons.1 hM.nodup).1 (List.mem_map.2 ⟨p,hp,e⟩);exact(hM.is p (List.mem_cons_of_mem _ hp)).le (hoth _ hne) (h1.weaken λq hq=>Nat.lt_of_lt_of_le hq g.le0)
  ·rcases List.mem_cons.1 hp with rfl|hp
   ·exact hM.away (b,es) (by simp)
   ·exact hM.away p (List.mem_cons_of_mem _ hp)
  ·exact hM.nodup
 have hat0:ops[j]?=some o2:=hat 0 om;have hsz':act.tmps.size=nt:=g.size;exact Xf4 R hat0 (hat 1 om) (hat 2 om) (hat 3 om) (hat 4 om) g2 g3 g4 g5 g6 p2 p3 p4 p5 p6 n23 n24 n25 n34 n35 n45 m2 m3 m4 m5 k2 k3 k4 k5 om om om om em ek e2 e3 e4 e5 e6
  ⟨_,_,.normal,_,rfl,g3',hMs,rfl,k _ _⟩
theorem X0c.drawnInc {P:Program} {T:Ty} {nt n0 id j n:Nat} {ops:Array Oper} {L L':List (Nat×AV)} {G G':List (Nat×Obj)} {Q:Xc->St->Mu->Prop} {μ:Mu} (hT:X1h P T/\P.follows .mixedOrders=true) (hpre:X2f 0 ops.toList=true)
  (hjl:Nat.ble j ops.size=true) (hbar:Xw1 j ops.toList=true) (hgd:Xa3 (ops.toList.take j)=true) (hs:List X11) {hs':List X11} {ps':List Prop}
  (h:X93 hz0 P T nt n ⟨ops.toList.take j⟩ (Xz (ops.toList.take j)) ((Xz (ops.toList.take j)).zip ((ops.toList.take j).map hz0)) 0 (ops.toList.take j) L G [] hs []=some (L',G',hs',ps')) (hp':X0w ps')
  {d2 d3 d4 d5 tm tk t kt et b:Nat} {o2 o3 o4 o5 o6:Oper} {bop:BinOp} {bt yt:Nat} {kv z xv:Value} {zn:Int} {es:List (Value×Value)} {ti:TI} {lk:Lit} {ka:AV} {qm qk:List Prop}
  (hsz:ops.size=j+5) (R:Xd4 ops j) (hops:ops.toList.drop j=[o2,o3,o4,o5,o6])
  (ho2:o2.op=.lookup t (.tmp tm) (.tmp tk) false) (ho3:o3.op=.binOp bop bt (.tmp d2) (.const (.int .i64 1)) yt) (ho4:o4.op=.mapEntry t (.tmp tm) (.tmp tk)) (ho5:o5.op=.extract (.tmp d4) 1) (ho6:o6.op=.entryStore t (.tmp tm) (.tmp d5) (.tmp d3))
  (g2:o2.guard=none) (g3:o3.guard=none) (g4:o4.guard=none) (g5:o5.guard=none) (g6:o6.guard=none) (p2:o2.dst=some d2) (p3:o3.dst=some d3) (p4:o4.dst=some d4) (p5:o5.dst=some d5) (p6:o6.dst=none)
  (hne:Xqm d2 d3 d4 d5 tm tk=true) (hlt:(Nat.blt d2 nt&&Nat.blt d3 nt&&Nat.blt d4 nt&&Nat.blt d5 nt)=true)
  (ht:T t=some ti) (hkd:ti.kind=.map kt et) (KL:KeyLaw P kt) (hz:∀ w,(zeroValue et).run P w=.ok z w)
  (hm0:rd L' (.tmp tm)=(.sc (.map (some b)),qm)) (hk:rd L' (.tmp tk)=(ka,qk)) (hka:Xoe ka=some kv) (hqm:X0w qm) (hqk:X0w qk) (hik:keyOf P kt kv=some lk) (hks:X98 P kt es)
  (hv:(X55 kv es).getD z=.int .i64 zn) (hx:X8b bop .i64 zn 1=some xv)
  (k:∀ a c,Q .normal ⟨fr (X5m (some d5) c (X5m (some d4) a (X5m (some d3) (.sc xv) (X5m (some d2) (.sc (.int .i64 zn)) L')))),hp G',n+j⟩ ((b,X4l kv xv es)::μ)):X0c P nt n0 (.region id ops true) Q ⟨fr L,hp G,n⟩ ((b,es)::μ):=by
 have hjl':j<=ops.size:=by simpa using hjl
 obtain⟨_,hrun⟩:=Xcv _ _ _ _ _ _ _ _ _ _ _ h hp';obtain⟨rs,hall,hA,hH⟩:=hrun.all (fr L) (hp G) [] (Nat.zero_le _) rfl rfl rfl rfl rfl (λk o r _ hr=>by simp at hr);have hpl:X2f 0 (ops.toList.take j)=true:=by
  have key:∀ (l:List Oper) (i k:Nat),X2f i l=true->X2f i (l.take k)=true:=by
   intro l
   induction l with
   |nil=>intro i k _;simp[X2f]
   |cons a l ih =>
    intro i k h
    cases k with
    |zero=>rfl
    |succ k =>
     simp only[X2f,Bool.and_eq_true,List.take_succ_cons] at h ⊢;exact⟨h.1,ih _ _ h.2⟩
  exact key _ _ _ hpre
 have hlenp:(ops.toList.take j).length=j:=by rw[List.length_take,Array.length_toList];omega
 intro c0 HH c act g0 hm R0 hR0;have g:=g0.rebase.drew;refine X3j hT.2 hR0 (by rintro a w ⟨c,s,ae,μ,_,_,_,h,_⟩;cases ae<;>cases h) ?_;have hz0:∀ m k,(Array.replicate m false).getD k false=false:=by
  intro m k;simp only[Array.getD_eq_getD_getElem?,Array.getElem?_replicate];split<;>rfl
 have hfn:∀ m,(λk=>(Array.replicate m false).getD k false)=(λ_=>false):=λm=>funext (hz0 m);have hM:∀ q,q<n->AtS n (λ_=>false) q:=λq h=>.inl h;have hdg:=Xa8 (n0:=n0) (Q:=λe s=>e=.normal/\s=⟨fr L',hp G',n+j⟩) hT.1 (ops:=⟨ops.toList.take j⟩) hpl hall ⟨rfl,by rw[hA,hH];congr 1;simp only[hlenp]⟩ (c0:=c) (HH:=hp G) g.le0 j (Array.replicate j false) (List.range j)
  { c with w:={ c.w with drawn:=c.w.drawn+1 } } act (by simp[hlenp]) (by simp) (λk hk _=>List.mem_range.2 (by simpa[hlenp] using hk)) (λi o _ h=>by rw[hz0] at h;cases h) (by
   rw[hfn,X28,X28];exact⟨g.inv.more hM,g.solo,g.frame,λt=>(g.ok t).mono hM,g.size,g.reach,λq hq=>hM q (Nat.lt_of_lt_of_le hq g.le0)⟩) rfl
 have:=Xd9 (Q:=MQ nt c0 HH n0 Q) (pre:=⟨ops.toList.take j⟩) (R:=CQ nt c (hp G) n0 act.defers (λe s=>e=.normal/\s=⟨fr L',hp G',n+j⟩)) (j:=j) rfl hjl' hpre hbar hgd
  (by rintro e a w hne ⟨c',s',ae,_,_,_,rfl,rfl,_⟩;exact absurd rfl hne) (ops.size - j) (by
   rintro listed a w hsz2 hl ⟨c',s',ae,rfl,g',hd',_,rfl,rfl⟩;have gg:=X0b.join g0.reach g';have hM:=hm.kept g'.reach hd';exact Xql hT.1 hsz R hops ho2 ho3 ho4 ho5 ho6 g2 g3 g4 g5 g6 p2 p3 p4 p5 p6 hne hlt ht hkd KL hz hm0 hk hka hqm hqk hik hks hv hx k gg hM hsz2 hl)
  j (Array.replicate j false) (Array.replicate ops.size false) act { c.w with drawn:=c.w.drawn+1 } (by simp[hlenp]) (by simp) (λk=>by rw[hz0,hz0];rfl) (λi o _ h=>by rw[hz0] at h;cases h) hdg
 rwa [show j+(ops.size - j)=ops.size by omega] at this
theorem Xd.drawnInc {P:Program} {T:Ty} {nt n0 id n:Nat} {ops:Array Oper} {L L':List (Nat×AV)} {G G':List (Nat×Obj)} {K:List Kn} {Q:Xc->St->Mu->Prop} {μ:Mu} (j:Nat) (hT:X1h P T/\P.follows .mixedOrders=true) (hs:List X11) {hs':List X11} {ps':List Prop} (hpre:X2f 0 ops.toList=true)
  (hjl:Nat.ble j ops.size=true) (hbar:Xw1 j ops.toList=true) (hgd:Xa3 (ops.toList.take j)=true)
  (h:X93 hz0 P T nt n ⟨ops.toList.take j⟩ (Xz (ops.toList.take j)) ((Xz (ops.toList.take j)).zip ((ops.toList.take j).map hz0)) 0 (ops.toList.take j) L G [] hs []=some (L',G',hs',ps')) (hp':X0w ps')
  {d2 d3 d4 d5 tm tk t kt et b:Nat} {o2 o3 o4 o5 o6:Oper} {bop:BinOp} {bt yt:Nat} {kv z xv:Value} {zn:Int} {es:List (Value×Value)} {ti:TI} {lk:Lit} {ka:AV} {qm qk:List Prop}
  (hsz:ops.size=j+5) (R:Xd4 ops j) (hops:ops.toList.drop j=[o2,o3,o4,o5,o6])
  (ho2:o2.op=.lookup t (.tmp tm) (.tmp tk) false) (ho3:o3.op=.binOp bop bt (.tmp d2) (.const (.int .i64 1)) yt) (ho4:o4.op=.mapEntry t (.tmp tm) (.tmp tk)) (ho5:o5.op=.extract (.tmp d4) 1) (ho6:o6.op=.entryStore t (.tmp tm) (.tmp d5) (.tmp d3))
  (g2:o2.guard=none) (g3:o3.guard=none) (g4:o4.guard=none) (g5:o5.guard=none) (g6:o6.guard=none) (p2:o2.dst=some d2) (p3:o3.dst=some d3) (p4:o4.dst=some d4) (p5:o5.dst=some d5) (p6:o6.dst=none)
  (hne:Xqm d2 d3 d4 d5 tm tk=true) (hlt:(Nat.blt d2 nt&&Nat.blt d3 nt&&Nat.blt d4 nt&&Nat.blt d5 nt)=true)
  (ht:T t=some ti) (hkd:ti.kind=.map kt et) (KL:KeyLaw P kt) (hz:∀ w,(zeroValue et).run P w=.ok z w)
  (hm:rd L' (.tmp tm)=(.sc (.map (some b)),qm)) (hk:rd L' (.tmp tk)=(ka,qk)) (hka:Xoe ka=some kv) (hqm:X0w qm) (hqk:X0w qk) (hik:keyOf P kt kv=some lk) (hks:X98 P kt es)
  (hv:(X55 kv es).getD z=.int .i64 zn) (hx:X8b bop .i64 zn 1=some xv)
  (k:∀ a c,Xd P nt n0 Q (.exit .normal) K ⟨fr (X5m (some d5) c (X5m (some d4) a (X5m (some d3) (.sc xv) (X5m (some d2) (.sc (.int .i64 zn)) L')))),hp G',n+j⟩ ((b,X4l kv xv es)::μ)):Xd P nt n0 Q (.code (.region id ops true)) K ⟨fr L,hp G,n⟩ ((b,es)::μ) :=
 X0c.drawnInc hT hpre hjl hbar hgd hs h hp' hsz R hops ho2 ho3 ho4 ho5 ho6 g2 g3 g4 g5 g6 p2 p3 p4 p5 p6 hne hlt ht hkd KL hz hm hk hka hqm hqk hik hks hv hx k
end Go.Av


namespace Go.Av
variable [Gls]
inductive Tab (V:Type) where
 |leaf
 |node (k:Nat) (v:V) (l r:Tab V)
noncomputable def Tab.find {V:Type} (t:Tab V):Nat->Option V :=
 Tab.rec (motive:=λ_=>Nat->Option V) (λ_=>none) (λk v _ _ ihl ihr n=>bif Nat.beq n k then some v else bif Nat.blt n k then ihl n else ihr n) t
theorem Tab.find_node {V:Type} (k:Nat) (v:V) (l r:Tab V) (t:Nat):(Tab.node k v l r).find t=bif Nat.beq t k then some v else bif Nat.blt t k then l.find t else r.find t:=rfl
def Tab.All {V:Type} (p:Nat->V->Prop):Tab V->Prop
 |.leaf=>True
 |.node k v l r=>p k v/\l.All p/\r.All p
theorem Tab.find_all {V:Type} {p:Nat->V->Prop}:∀ (t:Tab V),t.All p->∀ k v,t.find k=some v->p k v:=by
 intro t
 induction t with
 |leaf=>intro _ k v h;cases h
 |node k' v' l r ihl ihr =>
  intro h k v hf;obtain⟨h1,h2,h3⟩:=h;rw[Tab.find_node] at hf
  cases hb:Nat.beq k k' with
  |true =>
   rw[hb,cond_true] at hf;cases hf
   have:k=k':=Nat.eq_of_beq_eq_true hb;subst this;exact h1
  |false =>
   rw[hb,cond_false] at hf
   cases hlt:Nat.blt k k' with
   |true=>rw[hlt,cond_true] at hf;exact ihl h2 k v hf
   |false=>rw[hlt,cond_false] at hf;exact ihr h3 k v hf
theorem Xl3 {P:Program} {t:Tab TI} (h:t.All (Xf P)):X1h P t.find:=λk v hf=>t.find_all h k v hf
theorem Xi {P:Program} {t:Nat} {i:TypeInfo} {d:TypeDesc} {z:Value} (hi:P.info? t=some i) (hd:P.underlying t=some d) (hz:i.zero=some z)
  (hw:((X05 z).whole&&Nat.beq (X05 z).cells.length i.size)=true):Xf P t ⟨X1 d,i.size,i.bytes,z,false⟩:=by
 simp only[Bool.and_eq_true] at hw;exact⟨⟨i,d,hi,hd,hz,rfl,rfl,rfl⟩,⟨hw.1,Nat.eq_of_beq_eq_true hw.2⟩,λh=>by cases h⟩
theorem X1c {P:Program} {t:Nat} {i:TypeInfo} {d:TypeDesc} {z:Value} (hi:P.info? t=some i) (hd:P.underlying t=some d) (hz:i.zero=some z)
  (hw:((X05 z).whole&&Nat.beq (X05 z).cells.length i.size)=true) (h1:P.stoodInHeld t=false) (h2:P.eqGuardType P.depth t=false)
  (h3 : (match d with | .struct fs => fs.toList.all (λf => !(f.name == "_")) | _ => true) = true) : Xf P t ⟨X1 d, i.size, i.bytes, z, true⟩ := by
 simp only[Bool.and_eq_true] at hw;refine⟨⟨i,d,hi,hd,hz,rfl,rfl,rfl⟩,⟨hw.1,Nat.eq_of_beq_eq_true hw.2⟩,λ_=>⟨h1,h2,λfs hfs f hf=>?_⟩⟩;rw[hd] at hfs;cases hfs
 have:=List.all_eq_true.1 h3 f (by simpa using hf);simpa using this
def X3 (fn:Func):Code:=fn.body.getD .skip
theorem Xia {P:Program} {t:Tab (Func×Code)} (h:t.All (λk v=>X5d P k v.1 v.2)):Xc3 P t.find:=λk fn code hf=>t.find_all h k (fn,code) hf
end Go.Av


namespace Go.Av
variable [Gls]
theorem X0b.frz {nt n0:Nat} {c0 c:Ctx} {H0:Xh} {A:Nat->AV} {H:Xh} {n o:Nat} {act:Act} {y:Obj} (g:X0b nt c0 H0 n0 c ⟨A,H,n⟩ act) (hy:H o=some y) (hf:∀ e∈y.es,∀ a∈e.cells,∃ v,a=.sc v) :
  ∃ c',c'.w=c.w/\X0b nt c0 H0 n0 c' ⟨A,upd H o none,n⟩ act/\(∀ {v:Value},Xn c false (.ref o 0 y.es.length) v->Xn c' false (.list true y.es) v)/\(∀ M:Nat->Prop,c.Le M c')/\c'.ρ=c.ρ/\c'.Sa=c.Sa/\∀ b,c'.So b->c.So b\/b=(c.ρ o).blk:=by
 let c':Ctx:={ c with So:=λb=>c.So b\/b=(c.ρ o).blk }
 have hle:∀ {M:Nat->Prop},c.Le M c':=⟨λ_ _=>rfl,λ_ h=>h,λ_ h=>.inl h,λ_ _=>rfl,rfl⟩;obtain⟨hoM,hor,hok⟩:=g.inv.obj o y hy;have hblk:(c.ρ o).blk<c.w.heap.size:=by
  obtain⟨⟨cur,hb,_⟩,_⟩:=hor;exact(Array.getElem?_eq_some_iff.1 hb).1
 let Hr:Xh:=λq=>if q=o then some y else none
 have hIr:Inv c Hr (·<n):=by
  refine g.inv.forget (λq x hx=>?_) (λq q' x x' hx hx' hne hb=>?_)
  ·by_cases hq:q=o
   ·have hx2:y=x:=by simpa[Hr,hq] using hx
    exact⟨y,by rw[hq];exact hy,by rw[hx2],by rw[hx2],λh=>by rw[hx2];exact h⟩
   ·simp[Hr,hq] at hx
  ·exfalso;by_cases hq:q=o
   ·by_cases hq':q'=o
    ·exact hne (hq.trans hq'.symm)
    ·simp[Hr,hq'] at hx'
   ·simp[Hr,hq] at hx
 have hcv:Cv true Hr (.ref o 0 y.es.length) (.list true y.es):=by
  refine .ref (x:=y) (by simp[Hr]) om rfl (λi e e' he he'=>?_) (λi e e' k a b he he' ha hb=>?_)
  ·rw[Nat.zero_add] at he;rw[he] at he';cases he';rfl
  ·rw[Nat.zero_add] at he;rw[he] at he';cases he';rw[ha] at hb;cases hb;obtain⟨v,rfl⟩:=hf e (List.mem_of_getElem? he) a (List.mem_of_getElem? ha);exact .sc
 have hfrz:∀ {v:Value},Xn c false (.ref o 0 y.es.length) v->Xn c' false (.list true y.es) v:=λ{v} hv =>
  (Xe6 hIr (c':=c') rfl (λb hb=>hb.elim (λh=>.inl ⟨rfl,h⟩) (λh=>.inr (.inl h))) (λ_ b hb=>.inl hb) (λq x hx=>by
   by_cases hq:q=o
   ·subst hq;exact .inr (.inr rfl)
   ·simp[Hr,hq] at hx) hcv hv).shallow
 have hG:∀ q x,upd H o none q=some x->q≠o/\H q=some x:=λq x hx=>by
  by_cases hq:q=o
  ·subst hq;rw[X7] at hx;cases hx
  ·rw[X5 _ _ hq] at hx;exact⟨hq,hx⟩
 have hsep:∀ q x,H q=some x->q≠o->(c.ρ q).blk≠(c.ρ o).blk:=λq x hx hne hb=>by
  have:=(g.inv.sep q o x y hx hy hne hb).1;rw[(g.solo q x hx).1] at this;cases this
 have gI:Inv c' (upd H o none) (·<n):=by
  refine⟨λq x hx=>?_,λq q' x1 x2 h1 h2 hne hb=>g.inv.sep q q' x1 x2 (hG q x1 h1).2 (hG q' x2 h2).2 hne hb,λq x hx=>?_,λb hb=>?_,g.inv.base,λb hb=>?_,λq x hx=>g.inv.low q x (hG q x hx).2,GF.mono (M:=(·<n)) g.inv.glob hle⟩
  ·obtain⟨hne,hx⟩:=hG q x hx;obtain⟨i1,⟨⟨cur,hb,hs,hc⟩,i3,i4,i5⟩,i6⟩:=g.inv.obj q x hx;refine⟨i1,⟨⟨cur,hb,hs,λi e he=>?_⟩,i3,i4,i5⟩,i6⟩;obtain⟨k1,k2⟩:=hc i e he;refine⟨k1,λk a ha=>?_⟩;obtain⟨v,v1,v2,v3⟩:=k2 k a ha;exact⟨v,v1,v2.mono (M:=(·<n)) hle (.inr (i6 e (List.mem_of_getElem? he) a (List.mem_of_getElem? ha))),v3⟩
  ·obtain⟨hne,hx⟩:=hG q x hx;have:=g.inv.stab q x hx;exact⟨this.1,λh=>h.elim this.2 (hsep q x hx hne)⟩
  ·rcases hb with hb|hb|hb
   ·exact g.inv.lt b (.inl hb)
   ·exact g.inv.lt b (.inr hb)
   ·show b<c.w.heap.size;rw[hb];exact hblk
  ·rcases hb with hb|hb
   ·exact g.inv.own b hb
   ·show c.B<=b;rw[hb];exact g.inv.low o y hy
 have r:=g.reach;refine⟨c',rfl,⟨gI,λq x hx=>g.solo q x (hG q x hx).2,λt=>(g.frame t).mono (M:=(·<n)) hle (.inr (g.ok t)),g.ok,g.size,⟨r.rho,r.os,r.tape,r.output,r.size,r.block,r.stable,r.sa,λb hb=>.inl (r.so1 b hb),λb hb=>?_,r.B,λq x hx=>r.own q x (hG q x hx).2⟩,g.le0⟩,hfrz,λ_=>hle,rfl,rfl,λb hb=>hb⟩;rcases hb with hb|hb
 ·exact r.so2 b hb
 ·rw[hb];exact .inr (r.own o y hy)
theorem OpR.sliceFrz {P:Program} {T:Ty} {nt:Nat} {o:Oper} {s:St} (hT:X1h P T) {t q l h len:Nat} {xo:Operand} {lo:Option Operand} {hi mx:Operand} {ti:TI} {et:Nat} {te:TI} {y:Obj} (ho:o.op=.slice t xo lo (some hi) (some mx)) (hx:evA s.A xo=.ref q 0 len) (hy:s.H q=some y) (hlen:y.es.length=len)
  (hl:Bd (evA s.A) lo 0 l) (hh:Bd (evA s.A) (some hi) 0 h) (hm:Bd (evA s.A) (some mx) 0 len) (hlh:l<=h) (hle:h<=len) (ht:T t=some ti) (hk:ti.kind=.slice et) (hte:T et=some te) (hes:y.esz=te.size) (hf:∀ e∈y.es,∀ a∈e.cells,∃ v,a=.sc v) :
  OpR P nt o s (λa' H' n'=>a'=.list true ((y.es.drop l).take (h - l))/\H'=upd s.H q none/\n'=s.n):=by
 subst hlen;intro c0 H0 n0 c act g K Q hK R;obtain⟨c',hw,g',hfrz,_⟩:=X0b.frz (A:=s.A) (H:=s.H) (n:=s.n) g hy hf;obtain⟨_,⟨⟨cur,hb,hs,hc⟩,hfits,hpos,hsame⟩,_⟩:=g.inv.obj q y hy;have hxv:=g.ev xo;rw[hx] at hxv;obtain⟨hp,hle'⟩:=hxv.ref_inv;have hlist:=hfrz hxv;simp only[Nat.zero_mul,Nat.sub_zero,Nat.zero_add] at hp hle';rw[hp] at hlist;have hsz:∀ e∈y.es,e.cells.length=te.size:=λe he=>by
  obtain⟨i,hi⟩:=List.getElem?_of_mem he;rw[(hc i e hi).1,<-hes];exact hsame.symm
 have hsub:=hlist.tight.sub_list (l:=l) (h:=h) hlh hle hsz;have hrun:(execOp act.eval o).run P c.w=.ok (.value (.slice (if y.es.length=l then some ⟨(c.ρ q).blk,0,none⟩ else (some ⟨(c.ρ q).blk,0,none⟩:Option Addr).map (·.add (l*te.size))) (h - l) (y.es.length - l))) c.w:=by
  obtain⟨dst,op,type,pos,after,guard⟩:=o;simp only at ho;subst ho;simp only[execOp,hp,Option.map_some,Sem.run_bind,X07 (hT t ti ht) hk (hT et te hte) (X2j g.ev hl hh hm hlh hle hle' c.w),Result.andThen_ok,Sem.run_pure]
 refine Oper.wpR (λd hd=>by rw[hd] at ho;cases ho) ?_;unfold Oper.wp;rw[hrun];rw[<-hw];exact hK c' _ (upd s.H q none) s.n _ ⟨rfl,rfl,rfl⟩ λdst hd=>g'.next hd (.refl c') rfl (λb hb=>.inl hb) (.refl c' _) (λq x hx=>.inr ⟨q,x,hx,rfl⟩) g'.inv g'.solo (Nat.le_refl _) hsub .list
end Go.Av
