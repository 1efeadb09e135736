/- Parts of the proof, laid together. -/
import Derived.Test.YtnfamdbgcgjlaaaGreatDoorAvc
import Derived.LaidMore
import Derived.LaidSub
set_option linter.all false

namespace Go.Av.X
variable [Gls]
open Go.Av
noncomputable def sgn:AV:=.cond false .nils
noncomputable def isG (a:AV):Bool:=match a with
 |.cond false .nils=>true
 |_=>false
theorem Xv3 {a:AV} (h:isG a=true):a=sgn:=by
 unfold isG at h;split at h
 ·rfl
 ·cases h
theorem Xiz {a:AV} (h:isG a=true):X2n a=.junk:=by rw[Xv3 h];rfl
abbrev YC:=List AV->HX->Nat->(Xi->HX->Nat->Prop)->Prop
noncomputable def X86 (b:Nat):AV:=.sc (.func (.yield b) #[] #[])
noncomputable def sfA (b:Nat) (A:Nat->AV) (t:Nat):AV:=bif isG (A t) then X86 b else A t
noncomputable def sf (yo:Option YC) (b:Nat) (A:Nat->AV):Nat->AV:=match yo with
 |none=>A
 |some _=>sfA b A
noncomputable def jnA (A:Nat->AV) (t:Nat):AV:=bif isG (A t) then .junk else A t
noncomputable def jn (yo:Option YC) (A:Nat->AV):Nat->AV:=match yo with
 |none=>A
 |some _=>jnA A
theorem X04j (yo:Option YC) (A:Nat->AV):evA (jn yo A)=evA A:=by
 cases yo with
 |none=>rfl
 |some y =>
  funext x
  cases x with
  |tmp t =>
   show X2n (jnA A t)=X2n (A t);unfold jnA
   cases h:isG (A t) with
   |true=>rw[cond_true,Xiz h];rfl
   |false=>rw[cond_false]
  |_=>rfl
theorem OpR.hide {P:Program} {nt:Nat} {o:Oper} {A A':Nat->AV} {H:Xs} {n:Nat} {R:AV->Xs->Nat->Prop} (hA:∀ t,A' t=A t\/(A' t=.junk/\∃ v,A t=.sc v)) (h:OpR P nt o ⟨A',H,n⟩ R):OpR P nt o ⟨A,H,n⟩ R:=by
  intro c0 H0 n0 c act g K Q hK Rm;have g':X28 nt c0 H0 n0 c ⟨A',H,n⟩ act:=by
    refine⟨g.inv,g.solo,λt=>?_,λt=>?_,g.size,g.reach,g.le0⟩
    · show X0g c false (A' t) _
      rcases hA t with h|⟨h,_⟩
      · rw[h];exact g.frame t
      · rw[h];exact .junk
    · show(A' t).Ok _
      rcases hA t with h|⟨h,_⟩
      · rw[h];exact g.ok t
      · rw[h];exact .junk
  refine h c0 H0 n0 c act g' K Q (λc' a H' n' v hR hgood=>hK c' a H' n' v hR λdst hd=>?_) Rm;have g2:=hgood dst hd;have keep:∀ t,(∀ d,dst=some d->t≠d)->(act.put dst v).tmps.getD t undef=act.tmps.getD t undef:=by
    intro t ht
    cases dst with
    |none=>rfl
    |some d =>
      have hlt:d<act.tmps.size:=by rw[g.size];exact hd d rfl
      show(act.tmps.setIfInBounds d v).getD t undef=_;rw[Xby hlt,if_neg (ht d rfl)]
  refine⟨g2.inv,g2.solo,λt=>?_,λt=>?_,g2.size,g2.reach,g2.le0⟩
  · have h2:=g2.frame t
    show X0g c' false (X3n A dst a t) _;rcases hA t with he|⟨he,u,hu⟩
    · have:X3n A dst a t=X3n A' dst a t:=by
        cases dst with
        |none=>exact he.symm
        | some d => by_cases htd : t = d
                    · subst htd;simp only[X3n,Xf]
                    · simp only[X3n,Xc _ _ htd];exact he.symm
      rw[this];exact h2
    · by_cases hdt:∃ d,dst=some d/\t=d
      · obtain⟨d,rfl,rfl⟩:=hdt
        have h2:X0g c' false (X3n A' (some t) a t) _:=h2;simp only[X3n,Xf] at h2 ⊢;exact h2
      · have hne:∀ d,dst=some d->t≠d:=λd hd he=>hdt ⟨d,hd,he⟩
        have e:X3n A dst a t=A t:=by
          cases dst with
          |none=>rfl
          |some d=>simp only[X3n,Xc _ _ (hne d rfl)]
        rw[e,keep t hne,hu];have:=g.frame t;have h0:X0g c false (A t) (act.tmps.getD t undef):=this;rw[hu] at h0;rw[h0.sc_inv];exact .sc
  · have h2:=g2.ok t
    show(X3n A dst a t).Ok _;rcases hA t with he|⟨he,u,hu⟩
    · have:X3n A dst a t=X3n A' dst a t:=by
        cases dst with
        |none=>exact he.symm
        | some d => by_cases htd : t = d
                    · subst htd;simp only[X3n,Xf]
                    · simp only[X3n,Xc _ _ htd];exact he.symm
      rw[this];exact h2
    · by_cases hdt:∃ d,dst=some d/\t=d
      · obtain⟨d,rfl,rfl⟩:=hdt
        have h2:(X3n A' (some t) a t).Ok _:=h2;simp only[X3n,Xf] at h2 ⊢;exact h2
      · have e:X3n A dst a t=A t:=by
          cases dst with
          |none=>rfl
          |some d=>simp only[X3n,Xc _ _ (λhe=>hdt ⟨d,rfl,he⟩)]
        rw[e,hu];exact .sc
theorem X04i (yo:Option YC) (b:Nat) (A:Nat->AV) (t:Nat):jn yo A t=sf yo b A t\/(jn yo A t=.junk/\∃ v,sf yo b A t=.sc v):=by
 cases yo with
 |none=>exact .inl rfl
 |some y =>
  show jnA A t=sfA b A t\/(jnA A t=.junk/\∃ v,sfA b A t=.sc v);unfold jnA sfA
  cases h:isG (A t) with
  |true=>exact .inr ⟨rfl,_,rfl⟩
  |false=>exact .inl rfl
theorem Xny (yo:Option YC) (b:Nat) (A:Nat->AV) (d:Option Nat) (a:AV) (ha:isG a=false):X3n (sf yo b A) d a=sf yo b (X3n A d a):=by
 cases yo with
 |none=>rfl
 |some y =>
  cases d with
  |none=>rfl
  |some d =>
   funext t
   show upd (sfA b A) d a t=sfA b (upd A d a) t;by_cases h:t=d
   ·subst h;have:sfA b (upd A t a) t=a:=by unfold sfA;rw[Xf,ha];rfl
    rw[Xf,this]
   ·have:sfA b (upd A d a) t=sfA b A t:=by unfold sfA;rw[Xc _ _ h]
    rw[Xc _ _ h,this]
theorem X00d (b:Nat) (A:Nat->AV) (d:Option Nat):X3n (sfA b A) d (X86 b)=sfA b (X3n A d sgn):=by
 cases d with
 |none=>rfl
 |some d =>
  funext t
  show upd (sfA b A) d (X86 b) t=sfA b (upd A d sgn) t;by_cases h:t=d
  ·subst h;have:sfA b (upd A t sgn) t=X86 b:=by unfold sfA;rw[Xf];rfl
   rw[Xf,this]
  ·have:sfA b (upd A d sgn) t=sfA b A t:=by unfold sfA;rw[Xc _ _ h]
   rw[Xc _ _ h,this]
theorem Xw7 (yo:Option YC) (b:Nat) (A:Nat->AV) {t:Nat} {v:AV} (h:X2n (A t)=v) (hv:v≠.junk):sf yo b A t=A t:=by
 cases yo with
 |none=>rfl
 |some y =>
  show sfA b A t=A t;unfold sfA
  cases hg:isG (A t) with
  |false=>rfl
  |true=>rw[Xiz hg] at h;exact absurd h.symm hv
def YcOk (P:Program) (yc:YC) (ps:Array Nat) (assign body:Code) (ntc:Nat) (A:Nat->AV):Prop :=
 ∀ as H n k,yc as H n k->as.length=ps.size/\(∀ p∈ps.toList,p<ntc)/\X1j assign=false/\X1j body=false/\∃ e H' n',k e H' n' /\
  X21 P ntc n assign (λe1 s μ1=>e1=.normal/\μ1=[]/\X21 P ntc n body (λe2 s _=>e2=e/\s.H=hpX H'/\s.n=n') s []) ⟨Xuk ps.toList as A,hpX H,n⟩ []
structure Rd where
 ps:Array Nat
 assign:Code
 body:Code
 ntc:Nat
 A:Nat->AV
def Xui (d:Rd) (r:Loop):Prop:=r.state=.ready/\r.pending=none/\r.params=d.ps/\r.assign=d.assign/\r.body=d.body
def Xjo (yo:Option YC) (d:Rd) (b m:Nat) (r:Loop) (pe:Xi) (μr:Mu):Mu:=match yo with
 |none=>μr
 |some _=>(b,.loop (Xjk r pe) d.ntc m d.A)::μr
def YOk (P:Program) (yo:Option YC) (d:Rd):Prop:=∀ yc,yo=some yc->YcOk P yc d.ps d.assign d.body d.ntc d.A
noncomputable def noJ (l:List AV):Bool:=List.rec (motive:=λ_=>Bool) true (λa _ ih=>AV.casesOn (motive_1:=λ_=>Bool) a false (λ_=>ih) ih (λ_=>ih) (λ_=>ih) (λ_ _=>ih) (λ_ _ _=>ih) (λ_ _ _=>ih) (λ_ _ _=>ih) (λ_ _=>ih) (λ_ _=>ih) (λ_ _=>ih) (λ_ _=>ih)) l
theorem X013:∀ (l:List AV),noJ l=true->∀ a∈l,a≠.junk:=by
 intro l
 induction l with
 |nil=>intro _ a h;simp at h
 |cons b l ih =>
  intro h a ha;have h2:b≠.junk/\noJ l=true:=by
   cases b<;>first|(cases h;done)|exact⟨(λe=>by cases e),h⟩
  rcases List.mem_cons.1 ha with rfl|ha
  ·exact h2.1
  ·exact ih h2.2 a ha
noncomputable def ckG (k:AV->HX->Nat->Prop) (a:AV) (H:HX) (n:Nat):Prop:=Bool.rec (motive:=λ_=>Prop) (k a H n) (stk 113) (isG a)
theorem X02k {k:AV->HX->Nat->Prop} {a:AV} {H:HX} {n:Nat} (h:ckG k a H n):isG a=false/\k a H n:=by
 unfold ckG at h
 cases hg:isG a with
 |true=>rw[hg] at h;cases h
 |false=>rw[hg] at h;exact⟨rfl,h⟩
abbrev KP:=AV->HX->Nat->Xi->Prop
noncomputable def kpe (k:KP) (pe:Xi) (a:AV) (H:HX) (n:Nat):Prop:=k a H n pe
noncomputable def ykP (k:KP) (e:Xi) (H:HX) (n:Nat):Prop:=Xi.rec (motive:=λ_=>Prop) (k (.sc (.bool true)) H n .normal) (λi=>k (.sc (.bool false)) H n (.exit i)) (k (.sc (.bool false)) H n .ret) e
theorem Xzy (k:KP) (e:Xi) (H:HX) (n:Nat):ykP k e H n=k (.sc (.bool (Xbt e).isNone)) H n e:=by cases e<;>rfl
noncomputable def nrm (e:Xi) (p:Prop):Prop:=Xi.rec (motive:=λ_=>Prop) p (λ_=>stk 122) (stk 123) e
theorem Xuz {e:Xi} {p:Prop} (h:nrm e p):e=.normal/\p:=by
 cases e with
 |normal=>exact⟨rfl,h⟩
 |exit i=>cases h
 |ret=>cases h
noncomputable def opY (T:Ty) (rec:Xbc) (pe:Xi) (F:FX) (H:HX) (n:Nat) (o:Oper) (yc:YC) (k:KP):Prop :=
 match o.op with
 |.move (.tmp t)=>Bool.rec (motive:=λ_=>Prop) (opX T rec F H n o (ckG (kpe k pe))) (k sgn H n pe) (isG (frX F t))
 |.assign (.tmp t)=>Bool.rec (motive:=λ_=>Prop) (opX T rec F H n o (ckG (kpe k pe))) (k sgn H n pe) (isG (frX F t))
 |.call { callee:=.value (.tmp t),args:=args,argTypes:=_ }=>Bool.rec (motive:=λ_=>Prop) (opX T rec F H n o (ckG (kpe k pe)))
   (match o.guard with
   |none=>nrm pe (fL (args.toList.map (evA (frX F))) λas=>Bool.rec (motive:=λ_=>Prop) (stk 111) (yc as H n (ykP k)) (noJ as))
   |some _=>stk 112) (isG (frX F t))
 |_=>opX T rec F H n o (ckG (kpe k pe))
noncomputable def opZ (T:Ty) (rec:Xbc) (yo:Option YC) (pe:Xi) (F:FX) (H:HX) (n:Nat) (o:Oper) (k:KP):Prop :=
 Option.rec (motive:=λ_=>Prop) (opX T rec F H n o (kpe k pe)) (λyc=>opY T rec pe F H n o yc k) yo
noncomputable def gz1 (nt:Nat) (ops:Array Oper) (A:Nat->AV) (run skip:Prop) (p:Nat×Bool):Prop :=
 match (ops[p.1]?).bind (·.dst) with
  |some t=>Bool.rec (motive:=λ_=>Prop) (stk 51) (match gdS p.2 (A t) with
   |some g=>Bool.rec (motive:=λ_=>Prop) skip run g
   |none=>stk 52) (Nat.blt t nt)
  |none=>stk 53
noncomputable def gdZ (nt:Nat) (ops:Array Oper) (A:Nat->AV) (o:Oper) (run skip:Prop):Prop:=Option.rec (motive:=λ_=>Prop) run (gz1 nt ops A run skip) o.guard
theorem X01z {nt:Nat} {ops:Array Oper} {A:Nat->AV} {o:Oper} {run skip:Prop} (h:gdZ nt ops A o run skip) :
  (run/\(o.guard=none\/∃ j want t,o.guard=some (j,want)/\(ops[j]?).bind (·.dst)=some t/\Nat.blt t nt=true/\gdS want (A t)=some true)) \/
  (skip/\∃ j want t,o.guard=some (j,want)/\(ops[j]?).bind (·.dst)=some t/\Nat.blt t nt=true/\gdS want (A t)=some false):=by
 unfold gdZ at h
 cases hg:o.guard with
 |none=>rw[hg] at h;exact .inl ⟨h,.inl rfl⟩
 |some p =>
  obtain⟨j,want⟩:=p;rw[hg] at h;have h:gz1 nt ops A run skip (j,want):=h;unfold gz1 at h;split at h
  ·rename_i t hj
   cases ht:Nat.blt t nt with
   |false=>rw[ht] at h;cases h
   |true =>
    rw[ht] at h;have h:(match gdS want (A t) with
     |some g=>Bool.rec (motive:=λ_=>Prop) skip run g
     |none=>stk 52):=h
    split at h
    ·rename_i g hv
     cases g with
     |false=>exact .inr ⟨h,j,want,t,rfl,hj,ht,hv⟩
     |true=>exact .inl ⟨h,.inr ⟨j,want,t,rfl,hj,ht,hv⟩⟩
    ·cases h
  ·cases h
theorem Xv7 (yo:Option YC) (b:Nat) (A:Nat->AV) {want:Bool} {t:Nat} {q:Bool} (h:gdS want (A t)=some q):gdS want (sf yo b A t)=some q:=by
 have:sf yo b A t=A t:=by
  cases yo with
  |none=>rfl
  |some y =>
   show sfA b A t=A t;unfold sfA
   cases hg:isG (A t) with
   |false=>rfl
   |true=>rw[Xv3 hg] at h;cases h
 rw[this];exact h
noncomputable def Xx7 (T:Ty) (rec:Xbc) (yo:Option YC) (nt:Nat) (ops:Array Oper) (l:List Oper):Xi->FX->HX->Nat->(Xi->FX->HX->Nat->Prop)->Prop :=
 List.rec (motive:=λ_=>Xi->FX->HX->Nat->(Xi->FX->HX->Nat->Prop)->Prop) (λpe F H n k=>k pe F H n) (λo _ ih pe F H n k =>
  Bool.rec (motive:=λ_=>Prop) (stk 61) (gdZ nt ops (frX F) o (opZ T rec yo pe F H n o λa H n pe=>Xel F o.dst a λF=>ih pe F H n k) (Xel F o.dst (.cond false (.sc (.bool false))) λF=>ih pe F H n k)) (X94 nt o.dst)) l
theorem Xpv {yo:Option YC} {b:Nat} {A:Nat->AV} {x:Operand} (h:evA A x≠.junk):evA (sf yo b A) x=evA A x:=by
 cases x with
 |tmp t =>
  show X2n (sf yo b A t)=X2n (A t);rw[Xw7 yo b A (v:=X2n (A t)) rfl h]
 |_=>rfl
theorem X00v {P:Program} {T:Ty} {rec:Xbc} {yo:Option YC} {nt:Nat} {ops:Array Oper} {l:List Oper} {pe:Xi} {F:FX} {H:HX} {n:Nat} {o:Oper} {k:KP} {d:Rd} (hT:X5e P T) (hr:Xgy P rec) (hy:YOk P yo d) (hd:X94 nt o.dst=true)
  (h:opZ T rec yo pe F H n o k):∃ a H' n' pe',k a H' n' pe'/\∀ n0 b m r μr (K:St->Mu->Prop),(yo≠none->Xui d r) ->
   (∀ (c0 c:Ctx) (H0:Xs) (act:Act),X28 nt c0 H0 n0 c ⟨sf yo b (frX F),hpX H,n⟩ act->Region.wanted o (yielded ops act.tmps)=true) ->
   X22 P nt n0 ops l K ⟨sf yo b (X3n (frX F) o.dst a),hpX H',n'⟩ (Xjo yo d b m r pe' μr)->X22 P nt n0 ops (o::l) K ⟨sf yo b (frX F),hpX H,n⟩ (Xjo yo d b m r pe μr):=by
 have plain:∀ k',opX T rec F H n o k'->∃ a H' n',k' a H' n'/\∀ n0 b μ (K:St->Mu->Prop),(isG a=false\/yo=none) ->
   (∀ (c0 c:Ctx) (H0:Xs) (act:Act),X28 nt c0 H0 n0 c ⟨sf yo b (frX F),hpX H,n⟩ act->Region.wanted o (yielded ops act.tmps)=true) ->
   X22 P nt n0 ops l K ⟨sf yo b (X3n (frX F) o.dst a),hpX H',n'⟩ μ->X22 P nt n0 ops (o::l) K ⟨sf yo b (frX F),hpX H,n⟩ μ:=by
  intro k' h;obtain⟨a,H',n',hR,hk⟩:=X00w (nt:=nt) (A:=jn yo (frX F)) (X04j yo _) hT hr h;refine⟨a,H',n',hk,λn0 b μ K hg hw hn=>?_⟩;refine X22.step hw (X31 hd) (OpR.hide (λt=>X04i yo b (frX F) t) hR) ?_;rintro a' H2 n2 ⟨rfl,rfl,rfl⟩;show X22 P nt n0 ops l K ⟨X3n (sf yo b (frX F)) o.dst a',hpX H',n2⟩ μ;rcases hg with hg|hg
  ·rw[Xny yo b _ _ _ hg];exact hn
  ·subst hg;exact hn
 cases yo with
 |none =>
  obtain⟨a,H',n',hk,hs⟩:=plain _ h;exact⟨a,H',n',pe,hk,λn0 b m r μr K _ hw hn=>hs n0 b _ K (.inr rfl) hw hn⟩
 |some yc =>
  have h:opY T rec pe F H n o yc k:=h;have plain2:opX T rec F H n o (ckG (kpe k pe))->∃ a H' n' pe',k a H' n' pe'/\∀ n0 b m r μr (K:St->Mu->Prop),(some yc≠none->Xui d r) ->
    (∀ (c0 c:Ctx) (H0:Xs) (act:Act),X28 nt c0 H0 n0 c ⟨sf (some yc) b (frX F),hpX H,n⟩ act->Region.wanted o (yielded ops act.tmps)=true) ->
    X22 P nt n0 ops l K ⟨sf (some yc) b (X3n (frX F) o.dst a),hpX H',n'⟩ (Xjo (some yc) d b m r pe' μr)->X22 P nt n0 ops (o::l) K ⟨sf (some yc) b (frX F),hpX H,n⟩ (Xjo (some yc) d b m r pe μr):=by
   intro h;obtain⟨a,H',n',hk,hs⟩:=plain _ h;obtain⟨hg,hk⟩:=X02k hk;exact⟨a,H',n',pe,hk,λn0 b m r μr K _ hw hn=>hs n0 b _ K (.inl hg) hw hn⟩
  have mv:∀ (x:Operand) (t:Nat),x=.tmp t->isG (frX F t)=true->(o.op=.move x\/o.op=.assign x)->k sgn H n pe->∃ a H' n' pe',k a H' n' pe'/\∀ n0 b m r μr (K:St->Mu->Prop),(some yc≠none->Xui d r) ->
    (∀ (c0 c:Ctx) (H0:Xs) (act:Act),X28 nt c0 H0 n0 c ⟨sf (some yc) b (frX F),hpX H,n⟩ act->Region.wanted o (yielded ops act.tmps)=true) ->
    X22 P nt n0 ops l K ⟨sf (some yc) b (X3n (frX F) o.dst a),hpX H',n'⟩ (Xjo (some yc) d b m r pe' μr)->X22 P nt n0 ops (o::l) K ⟨sf (some yc) b (frX F),hpX H,n⟩ (Xjo (some yc) d b m r pe μr):=by
   intro x t hx hg ho hk;refine⟨_,_,_,_,hk,λn0 b m r μr K _ hw hn=>?_⟩;have he:evA (sf (some yc) b (frX F)) x=X86 b:=by
    rw[hx];show X2n (sfA b (frX F) t)=_;unfold sfA;rw[hg];rfl
   have hR:OpR P nt o ⟨sf (some yc) b (frX F),hpX H,n⟩ (λa' H' n'=>a'=X86 b/\H'=hpX H/\n'=n):=by
    refine OpR.pu hT (s:=⟨sf (some yc) b (frX F),hpX H,n⟩) ?_;rw[<-he];rcases ho with ho|ho
    ·rw[ho];exact .move
    ·rw[ho];exact .assign
   refine X22.step hw (X31 hd) hR ?_;rintro a' H2 n2 ⟨rfl,rfl,rfl⟩;show X22 P nt n0 ops l K ⟨X3n (sfA b (frX F)) o.dst (X86 b),hpX H,n2⟩ _;rw[X00d];exact hn
  unfold opY at h;split at h
  ·rename_i t ho
   cases hg:isG (frX F t) with
   |false=>rw[hg] at h;exact plain2 h
   |true=>rw[hg] at h;exact mv _ t rfl hg (.inl ho) h
  ·rename_i t ho
   cases hg:isG (frX F t) with
   |false=>rw[hg] at h;exact plain2 h
   |true=>rw[hg] at h;exact mv _ t rfl hg (.inr ho) h
  ·rename_i t args ts ho
   cases hg:isG (frX F t) with
   |false=>rw[hg] at h;exact plain2 h
   |true =>
    rw[hg] at h;have h:(match o.guard with
     |none=>nrm pe (fL (args.toList.map (evA (frX F))) λas=>Bool.rec (motive:=λ_=>Prop) (stk 111) (yc as H n (ykP k)) (noJ as))
     |some _=>stk 112):=h
    split at h
    ·rename_i hgd;obtain⟨rfl,h⟩:=Xuz h;rw[Xhy] at h
     cases hj:noJ (args.toList.map (evA (frX F))) with
     |false=>rw[hj] at h;cases h
     |true =>
      rw[hj] at h;obtain⟨p1,p2,p3,p4,e,H',n',hk,hs⟩:=hy yc rfl _ _ _ _ h;rw[Xzy] at hk;refine⟨_,H',n',e,hk,λn0 b m r μr K hrd hw hn=>?_⟩;obtain⟨r1,r2,r3,r4,r5⟩:=hrd (by simp);have hx:evA (sf (some yc) b (frX F)) (.tmp t)=X86 b:=by
       show X2n (sfA b (frX F) t)=_;unfold sfA;rw[hg];rfl
      have has:args.toList.map (evA (sf (some yc) b (frX F)))=args.toList.map (evA (frX F)):=by
       refine List.map_congr_left λx hx=>Xpv ?_;exact X013 _ hj _ (List.mem_map_of_mem hx)
      show X22 P nt n0 ops (o::l) K _ ((b,.loop (Xjk r .normal) d.ntc m d.A)::μr);rw[Xek r1 r2];refine X22.yield (r:=r) (ntc:=d.ntc) (m:=m) (Ac:=d.A) ho hgd hd hx has r1 r2 (by rw[r3];exact p1) (by rw[r3];exact p2) (by rw[r4,r5];exact⟨p3,p4⟩) ?_;rw[r3,r4,r5];refine hs.mono ?_;rintro e1 s μ1 ⟨rfl,rfl,hb⟩;refine⟨rfl,rfl,hb.mono ?_⟩;rintro e2 s _ ⟨rfl,e1,e2⟩;rw[e1,e2,Xny (some yc) b _ _ _ rfl];exact hn
    ·cases h
  ·exact plain2 h
theorem Xx6 {P:Program} {T:Ty} {rec:Xbc} {yo:Option YC} {nt:Nat} {ops:Array Oper} {d:Rd} (hnt:nt<=256) (hT:X5e P T) (hr:Xgy P rec) (hy:YOk P yo d):∀ (l:List Oper) (pe:Xi) (F:FX) (H:HX) (n:Nat) (k:Xi->FX->HX->Nat->Prop),Xx7 T rec yo nt ops l pe F H n k ->
  ∃ pe' F' H' n',k pe' F' H' n'/\∀ n0 b m r μr,(yo≠none->Xui d r)->X22 P nt n0 ops l (λs' μ'=>μ'=Xjo yo d b m r pe' μr/\s'=⟨sf yo b (frX F'),hpX H',n'⟩) ⟨sf yo b (frX F),hpX H,n⟩ (Xjo yo d b m r pe μr):=by
 intro l
 induction l with
 |nil=>intro pe F H n k h;exact⟨pe,F,H,n,h,λn0 b m r μr _=>X22.nil ⟨rfl,rfl⟩⟩
 |cons o l ih =>
  intro pe F H n k h;have h:Bool.rec (motive:=λ_=>Prop) (stk 61) (gdZ nt ops (frX F) o (opZ T rec yo pe F H n o λa H n pe=>Xel F o.dst a λF=>Xx7 T rec yo nt ops l pe F H n k) (Xel F o.dst (.cond false (.sc (.bool false))) λF=>Xx7 T rec yo nt ops l pe F H n k)) (X94 nt o.dst):=h
  cases hd:X94 nt o.dst with
  |false=>rw[hd] at h;cases h
  |true =>
   rw[hd] at h;have h:gdZ nt ops (frX F) o (opZ T rec yo pe F H n o λa H n pe=>Xel F o.dst a λF=>Xx7 T rec yo nt ops l pe F H n k) (Xel F o.dst (.cond false (.sc (.bool false))) λF=>Xx7 T rec yo nt ops l pe F H n k):=h;have hdlt:=X31 hd;have hd2:∀ t,o.dst=some t->t<256:=λt ht=>Nat.lt_of_lt_of_le (hdlt t ht) hnt;rcases X01z h with ⟨h,hg⟩|⟨h,j,want,t,hg,hj,ht,hb⟩
   ·obtain⟨a,H1,n1,pe1,h,hs⟩:=X00v (ops:=ops) (l:=l) hT hr hy hd h;obtain⟨F1,hF,h⟩:=Xdx hd2 h;obtain⟨pe',F',H',n',hk,hsem⟩:=ih _ _ _ _ _ h;refine⟨pe',F',H',n',hk,λn0 b m r μr hin=>hs n0 b m r μr _ hin ?_ ?_⟩
    ·intro c0 c H0 act g;rcases hg with hgn|⟨j,want,t,hg,hj,ht,hv⟩
     ·simp[Region.wanted,hgn]
     ·exact X88 hg hj ht (Xv7 yo b _ hv) g
    ·rw[<-hF];exact hsem n0 b m r μr hin
   ·obtain⟨F1,hF,h⟩:=Xdx hd2 h;obtain⟨pe',F',H',n',hk,hsem⟩:=ih _ _ _ _ _ h;refine⟨pe',F',H',n',hk,λn0 b m r μr hin=>X22.skip hg hj ht (Xv7 yo b _ hb) hdlt ?_⟩;show X22 P nt n0 ops l _ ⟨X3n (sf yo b (frX F)) o.dst _,hpX H,n⟩ _;rw[Xny yo b _ _ _ rfl,<-hF];exact hsem n0 b m r μr hin
abbrev KZ:=Xi->Xi->FX->HX->Nat->Prop
abbrev CY:=Option YC->Xi->FX->HX->Nat->KZ->Prop
abbrev Xuh:=Option YC->Xbc
noncomputable def Xzw (ps:List Nat):List AV->FX->(FX->Prop)->Prop :=
 List.rec (motive:=λ_=>List AV->FX->(FX->Prop)->Prop) (λ_ F k=>k F) (λp _ ih as F k=>List.rec (motive:=λ_=>Prop) (k F) (λa as _=>Bool.rec (motive:=λ_=>Prop) (stk 121) (Xjx F p a λF=>ih as F k) (Nat.blt p 256)) as) ps
theorem Xvr:∀ (ps:List Nat) (as:List AV) (F:FX) (k:FX->Prop),Xzw ps as F k->∃ F',frX F'=Xuk ps as (frX F)/\k F':=by
 intro ps
 induction ps with
 |nil=>intro as F k h;exact⟨F,by cases as<;>rfl,h⟩
 |cons p ps ih =>
  intro as F k h
  cases as with
  |nil=>exact⟨F,rfl,h⟩
  |cons a as =>
   have h:Bool.rec (motive:=λ_=>Prop) (stk 121) (Xjx F p a λF=>Xzw ps as F k) (Nat.blt p 256):=h
   cases hp:Nat.blt p 256 with
   |false=>rw[hp] at h;cases h
   |true =>
    rw[hp] at h;have h:Xjx F p a (λF=>Xzw ps as F k):=h;rw[Xej] at h;obtain⟨F',h1,h2⟩:=ih _ _ _ h;refine⟨F',?_,h2⟩;rw[h1,Xcp F p (by simpa using hp)];rfl
noncomputable def Xqr (nt:Nat) (l:List Nat):Bool:=List.rec (motive:=λ_=>Bool) true (λp _ ih=>Bool.rec (motive:=λ_=>Bool) false ih (Nat.blt p nt)) l
theorem Xu8 {nt:Nat}:∀ l:List Nat,Xqr nt l=true->∀ p∈l,p<nt:=by
 intro l
 induction l with
 |nil=>intro _ p h;simp at h
 |cons a l ih =>
  intro h p hp;have h:Bool.rec (motive:=λ_=>Bool) false (Xqr nt l) (Nat.blt a nt)=true:=h
  cases ha:Nat.blt a nt with
  |false=>rw[ha] at h;cases h
  |true =>
   rw[ha] at h;rcases List.mem_cons.1 hp with rfl|hp
   ·simpa using ha
   ·exact ih h p hp
noncomputable def rndX (nt:Nat) (ps:List Nat) (assign body:CY) (F:FX):YC:=λas H n k =>
 Bool.rec (motive:=λ_=>Prop) (stk 124) (Xzw ps as F λF=>assign none .normal F H n λe _ F H n=>nrm e (body none .normal F H n λe _ _ H n=>k e H n)) (Nat.beq as.length ps.length)
noncomputable def encP (e:Xi):AV:=Xi.rec (motive:=λ_=>AV) (.tup []) (λi=>.ptr i 0 0) .nils e
noncomputable def decP (a:AV) (k:Xi->Prop):Prop :=
 AV.casesOn (motive_1:=λ_=>(Xi->Prop)->Prop) a (λ_=>stk 135) (λ_ _=>stk 135) (λk=>k .ret) (λ_ _=>stk 135) (λ_ k=>k .normal) (λ_ _ _=>stk 135) (λ_ _ _ _=>stk 135) (λi _ _ k=>k (.exit i)) (λ_ _ _ _=>stk 135) (λ_ _ _=>stk 135) (λ_ _ _=>stk 135) (λ_ _ _=>stk 135) (λ_ _ _=>stk 135) k
theorem Xq9 (e:Xi) (k:Xi->Prop):decP (encP e) k=k e:=by cases e<;>rfl
noncomputable def rfX (rec:Xuh) (nt:Nat) (g:Operand) (ps:Array Nat) (ca cb:Code) (assign body:CY):CY:=λyo pe F H n k =>
 Option.rec (motive:=λ_=>Prop) (match evA (frX F) g with
  |.fn gf caps=>Bool.rec (motive:=λ_=>Prop) (stk 131) (rec (some (rndX nt ps.toList assign body F)) gf (sgn::caps) H n λa H n=>decP a λe=>k e pe F H n) (Bool.not (X1j ca)&&(Bool.not (X1j cb)&&Xqr nt ps.toList))
  |a=>Xzu 132 a) (λ_=>stk 133) yo
abbrev BZ:=Xi->FX->HX->Nat->KZ->Prop
noncomputable def Xsv (b:BZ) (m:Nat):BZ :=
 Nat.rec (motive:=λ_=>BZ) (λ_ _ _ _ _=>stk 91) (λ_ ih pe F H n k=>b pe F H n λe pe F H n=>Xi.rec (motive:=λ_=>Prop) (ih pe F H n k) (λi=>k (.exit i) pe F H n) (k .ret pe F H n) e) m
noncomputable def clrX (m:Nat):FX->(FX->Prop)->Prop :=
 Nat.rec (motive:=λ_=>FX->(FX->Prop)->Prop) (λF k=>k F) (λi ih F k=>Bool.rec (motive:=λ_=>Prop) (ih F k) (Xjx F i .junk λF=>ih F k) (isG (frX F i))) m
theorem Xyy:∀ (m:Nat) (F:FX) (k:FX->Prop),m<=256->clrX m F k->∃ F',k F'/\∀ t,frX F' t=bif Nat.blt t m&&isG (frX F t) then .junk else frX F t:=by
 intro m
 induction m with
 |zero=>intro F k _ h;exact⟨F,h,λt=>rfl⟩
 |succ m ih =>
  intro F k hm h;have h:Bool.rec (motive:=λ_=>Prop) (clrX m F k) (Xjx F m .junk λF=>clrX m F k) (isG (frX F m)):=h
  cases hg:isG (frX F m) with
  |false =>
   rw[hg] at h;obtain⟨F',hk,hF⟩:=ih _ _ om h;refine⟨F',hk,λt=>?_⟩;rw[hF];by_cases ht:t=m
   ·subst ht;rw[hg];simp
   ·have:Nat.blt t (m+1)=Nat.blt t m:=by
     rw[Bool.eq_iff_iff];simp;omega
    rw[this]
  |true =>
   rw[hg] at h;have h:Xjx F m .junk (λF=>clrX m F k):=h;rw[Xej] at h;obtain⟨F',hk,hF⟩:=ih _ _ om h;refine⟨F',hk,λt=>?_⟩;rw[hF,Xcp F m om];by_cases ht:t=m
   ·subst ht;rw[hg,Xf,show Nat.blt t (t+1)=true by simp];simp
   ·rw[Xc _ _ ht];have:Nat.blt t (m+1)=Nat.blt t m:=by
     rw[Bool.eq_iff_iff];simp;omega
    rw[this]
noncomputable def Xzh (G:FX) (m:Nat):FX->(FX->Prop)->Prop :=
 Nat.rec (motive:=λ_=>FX->(FX->Prop)->Prop) (λF k=>k F) (λi ih F k=>Bool.rec (motive:=λ_=>Prop) (Bool.rec (motive:=λ_=>Prop) (ih F k) (stk 136) (isG (frX F i))) (Xjx F i sgn λF=>ih F k) (isG (frX G i))) m
theorem Xwo {G:FX}:∀ (m:Nat) (F:FX) (k:FX->Prop),m<=256->Xzh G m F k->∃ F',k F'/\(∀ t,frX F' t=bif Nat.blt t m&&isG (frX G t) then sgn else frX F t)/\∀ t,t<m->isG (frX G t)=false->isG (frX F t)=false:=by
 intro m
 induction m with
 |zero=>intro F k _ h;exact⟨F,h,λt=>rfl,λt ht=>by omega⟩
 |succ m ih =>
  intro F k hm h;have h:Bool.rec (motive:=λ_=>Prop) (Bool.rec (motive:=λ_=>Prop) (Xzh G m F k) (stk 136) (isG (frX F m))) (Xjx F m sgn λF=>Xzh G m F k) (isG (frX G m)):=h;have hb:∀ t,t≠m->Nat.blt t (m+1)=Nat.blt t m:=λt ht=>by rw[Bool.eq_iff_iff];simp;omega
  cases hg:isG (frX G m) with
  |false =>
   rw[hg] at h;have h:Bool.rec (motive:=λ_=>Prop) (Xzh G m F k) (stk 136) (isG (frX F m)):=h
   cases hf:isG (frX F m) with
   |true=>rw[hf] at h;cases h
   |false =>
    rw[hf] at h;obtain⟨F',hk,hF,hn⟩:=ih _ _ om h;refine⟨F',hk,λt=>?_,λt ht hgt=>?_⟩
    ·rw[hF];by_cases ht:t=m
     ·subst ht;rw[hg];simp
     ·rw[hb t ht]
    ·by_cases h2:t=m
     ·subst h2;exact hf
     ·exact hn t om hgt
  |true =>
   rw[hg] at h;have h:Xjx F m sgn (λF=>Xzh G m F k):=h;rw[Xej] at h;obtain⟨F',hk,hF,hn⟩:=ih _ _ om h;refine⟨F',hk,λt=>?_,λt ht hgt=>?_⟩
   ·rw[hF,Xcp F m om];by_cases ht:t=m
    ·subst ht;rw[hg,Xf,show Nat.blt t (t+1)=true by simp];simp
    ·rw[Xc _ _ ht,hb t ht]
   ·by_cases h2:t=m
    ·subst h2;rw[hg] at hgt;cases hgt
    ·have:=hn t om hgt;rw[Xcp F m om,Xc _ _ h2] at this;exact this
noncomputable def Xkh (F:FX) (l:List Oper):Bool:=List.rec (motive:=λ_=>Bool) true (λo _ ih=>Option.rec (motive:=λ_=>Bool) ih (λd=>Bool.rec (motive:=λ_=>Bool) ih false (isG (frX F d))) o.dst) l
theorem Xtu {F:FX}:∀ l:List Oper,Xkh F l=true->∀ o∈l,∀ d,o.dst=some d->isG (frX F d)=false:=by
 intro l
 induction l with
 |nil=>intro _ o h;cases h
 |cons o l ih =>
  intro h q hq d hd;have h:Option.rec (motive:=λ_=>Bool) (Xkh F l) (λd=>Bool.rec (motive:=λ_=>Bool) (Xkh F l) false (isG (frX F d))) o.dst=true:=h;have h2:Xkh F l=true/\∀ d,o.dst=some d->isG (frX F d)=false:=by
   cases ho:o.dst with
   |none=>rw[ho] at h;exact⟨h,λd hd=>by cases hd⟩
   |some e =>
    rw[ho] at h;have h:Bool.rec (motive:=λ_=>Bool) (Xkh F l) false (isG (frX F e))=true:=h
    cases hg:isG (frX F e) with
    |true=>rw[hg] at h;cases h
    |false=>rw[hg] at h;exact⟨h,λd hd=>by cases hd;exact hg⟩
  rcases List.mem_cons.1 hq with rfl|hq
  ·exact h2.2 d hd
  ·exact ih h2.1 q hq d hd
noncomputable def drY (T:Ty) (rec:Xbc) (nt:Nat) (ops:Array Oper) (pe:Xi) (F:FX) (H:HX) (n:Nat) (k:KZ):Prop :=
 Bool.rec (motive:=λ_=>Prop) (stk 134) (clrX 256 F λF0=>drX T rec nt n ops (X1b ops.toList) ((X1b ops.toList).zip (ops.toList.map hz0)) ops.toList 0 F0 H [] λF1 H=>Xzh F 256 F1 λF2=>fN (n+ops.toList.length) λn=>k .normal pe F2 H n) (Xkh F ops.toList)
noncomputable def X03x (ops:List Oper) (n:Nat):Operand->Option Operand :=
 Nat.rec (motive:=λ_=>Operand->Option Operand) (λ_=>none) (λ_ ih x=>match x with
  |.tmp t=>match ops.find? (λo=>match o.dst with|some d=>Nat.beq d t|none=>false) with
   |none=>some x
   |some o=>match o.op with
    |.move y=>ih y
    |.assign y=>ih y
    |_=>none
  |_=>none) n
noncomputable def cut1 (ops:List Oper) (ev:Operand->AV) (o:Oper) (H:HX) (k:HX->Prop):Prop :=
 match o.op with
 |.call { callee:=.builtin .append,args:=⟨[s,_]⟩,argTypes:=_ }=>match X03x ops 6 s with
  |some x=>match ev x with
   |.ref q 0 m=>match hpX H q with
    |some y=>Bool.rec (motive:=λ_=>Prop) (k H) (fO sh { y with es:=y.es.take m } λy=>X3w H q (some y) k) (Nat.blt m y.es.length)
    |none=>k H
   |_=>k H
  |none=>k H
 |_=>k H
noncomputable def Xyt (ev:Operand->AV) (l:List Oper):List Oper->HX->(HX->Prop)->Prop :=
 List.rec (motive:=λ_=>List Oper->HX->(HX->Prop)->Prop) (λ_ H k=>k H) (λo _ ih pre H k=>cut1 pre ev o H λH=>ih (o::pre) H k) l
inductive Cut:Xs->Xs->Prop
 |refl {H}:Cut H H
 |step {H H' q y m} (hy:H q=some y) (h:Cut (upd H q (some { y with es:=y.es.take m })) H'):Cut H H'
theorem Cut.trans {H H' H'':Xs} (h:Cut H H') (k:Cut H' H''):Cut H H'':=by
 induction h with
 |refl=>exact k
 |step hy _ ih=>exact .step hy (ih k)
theorem Xys {ev:Operand->AV}:∀ (l pre:List Oper) (H:HX) (k:HX->Prop),Xyt ev l pre H k->∃ H',Cut (hpX H) (hpX H')/\k H':=by
 intro l
 induction l with
 |nil=>intro pre H k h;exact⟨H,.refl,h⟩
 |cons o l ih =>
  intro pre H k h;have h:cut1 pre ev o H (λH=>Xyt ev l (o::pre) H k):=h;have same:Xyt ev l (o::pre) H k->∃ H',Cut (hpX H) (hpX H')/\k H':=λh=>ih _ H k h;unfold cut1 at h;split at h
  ·split at h
   ·split at h
    ·split at h
     ·rename_i q m _ _ y hy
      cases hb:Nat.blt m y.es.length with
      |false=>rw[hb] at h;exact same h
      |true =>
       rw[hb] at h;have h:fO sh { y with es:=y.es.take m } (λy=>X3w H q (some y) λH=>Xyt ev l (o::pre) H k):=h;rw[Xfg X8o] at h;obtain⟨H1,h1,h2⟩:=X3g h;obtain⟨H',h3,h4⟩:=ih _ _ _ h2;exact⟨H',.step hy (by rw[<-h1];exact h3),h4⟩
     ·exact same h
    ·exact same h
   ·exact same h
  ·exact same h
theorem X21.cutH {P:Program} {nt n0 n:Nat} {code:Code} {Q:Xi->St->Mu->Prop} {A:Nat->AV} {H H':Xs} {μ:Mu} (hc:Cut H H') (h:X21 P nt n0 code Q ⟨A,H',n⟩ μ):X21 P nt n0 code Q ⟨A,H,n⟩ μ:=by
 induction hc with
 |refl=>exact h
 |@step H H' q y m hy _ ih =>
  have h:=ih h;intro c0 H0 c act g hm;refine h c0 H0 c act (g.trunc hy m) ⟨hm.is,λp hp=>?_,hm.nodup,hm.ds⟩;obtain⟨a1,a2,a3,a4⟩:=hm.away p hp;refine⟨a1,a2,λo x hx=>?_,a4⟩;have hx:upd H q (some { y with es:=y.es.take m }) o=some x:=hx;by_cases ho:o=q
  ·subst ho;exact a3 o y hy
  ·rw[Xc _ _ ho] at hx;exact a3 o x hx
noncomputable def X7g (T:Ty) (X:Nat->Option (List AV->Option AV)) (rec:Xuh) (nt fuel:Nat) (c:Code):CY :=
 Code.rec (motive:=λ_=>CY) (λ_ pe F H n k=>k .normal pe F H n)
  (λ_ ops draw yo pe F H n k=>Bool.rec (motive:=λ_=>Prop) (Xx7 T (extR X (rec none)) yo nt ops ops.toList pe F H n λpe F H n=>k .normal pe F H n)
   (Bool.rec (motive:=λ_=>Prop) (stk 94) (Xyt (evA (frX F)) ops.toList [] H λH=>Option.rec (motive:=λ_=>Prop) (drX T (rec none) nt n ops (X1b ops.toList) ((X1b ops.toList).zip (ops.toList.map hz0)) ops.toList 0 F H [] λF H=>fN (n+ops.toList.length) λn=>k .normal pe F H n) (λ_=>drY T (rec none) nt ops pe F H n k) yo) (Xdj 0 ops.toList)) draw)
  (λ_ _ iha ihb yo pe F H n k=>iha yo pe F H n λe pe F H n=>Xi.rec (motive:=λ_=>Prop) (ihb yo pe F H n k) (λi=>k (.exit i) pe F H n) (k .ret pe F H n) e)
  (λc _ _ iha ihb yo pe F H n k=>Xyw (evA (frX F) c) (iha yo pe F H n k) (ihb yo pe F H n k))
  (λid _ ih yo pe F H n k=>ih yo pe F H n λe pe F H n=>Xi.rec (motive:=λ_=>Prop) (k .normal pe F H n) (λi=>Bool.rec (motive:=λ_=>Prop) (k (.exit i) pe F H n) (k .normal pe F H n) (Nat.beq i id)) (k .ret pe F H n) e)
  (λ_ ih yo pe F H n k=>Xsv (ih yo) fuel pe F H n k)
  (λg ps ca cb iha ihb=>rfX rec nt g ps ca cb iha ihb)
  (λi _ pe F H n k=>k (.exit i) pe F H n)
  (λ_ ih yo pe F H n k=>ih yo pe F H n k) (λ_ _ pe F H n k=>k .normal pe F H n) (λ_ _ _ _ _ _ _=>stk 96) (λ_ pe F H n k=>k .ret pe F H n) (λ_ _ _ _ _ _ _=>stk 97) c
def Xm9 (P:Program) (rec:Xuh):Prop:=∀ (yc:YC) f caps H n k d,YOk P (some yc) d->rec (some yc) f (sgn::caps) H n k ->
 ∃ fn code pe H' n',X2m P f fn code/\fn.results=#[]/\caps.length+1<=fn.ntmps/\k (encP pe) H' n'/\∀ b m r μr,Xui d r ->
  X21 P fn.ntmps n code (λe s μ'=>(∀ id,e≠.exit id)/\μ'=Xjo (some yc) d b m r pe μr/\s.H=hpX H'/\s.n=n') ⟨Xbb (X86 b::caps),hpX H,n⟩ (Xjo (some yc) d b m r .normal μr)
def Fix (c:Code) (yo:Option YC):Prop:=X1j c=false\/yo≠none
def Xzc (yo:Option YC) (d:Rd) (c:Code) (b m:Nat) (r:Loop) (μr:Mu) (e:Xi) (pe':Xi) (F':FX) (H':HX) (n':Nat):Xi->St->Mu->Prop :=
 λe2 s μ'=>e2=e/\(∃ μr',(Fix c yo->μr'=μr)/\μ'=Xjo yo d b m r pe' μr')/\s=⟨sf yo b (frX F'),hpX H',n'⟩
def SemZ (P:Program) (yo:Option YC) (d:Rd) (nt:Nat) (c:Code) (pe:Xi) (F:FX) (H:HX) (n:Nat) (e:Xi) (pe':Xi) (F':FX) (H':HX) (n':Nat):Prop :=
 ∀ n0 b m r μr,(yo≠none->Xui d r)->X21 P nt n0 c (Xzc yo d c b m r μr e pe' F' H' n') ⟨sf yo b (frX F),hpX H,n⟩ (Xjo yo d b m r pe μr)
theorem Xzc.here {yo:Option YC} {d:Rd} {c:Code} {b m:Nat} {r:Loop} {μr:Mu} {e pe:Xi} {F:FX} {H:HX} {n:Nat}:Xzc yo d c b m r μr e pe F H n e ⟨sf yo b (frX F),hpX H,n⟩ (Xjo yo d b m r pe μr) :=
 ⟨rfl,⟨μr,λ_=>rfl,rfl⟩,rfl⟩
theorem Xzc.on {P:Program} {yo:Option YC} {d:Rd} {nt n0:Nat} {c x y:Code} {b m:Nat} {r:Loop} {μr:Mu} {e pe:Xi} {F:FX} {H:HX} {n:Nat} {e' pe':Xi} {F':FX} {H':HX} {n':Nat} {μr1:Mu}
  (hx:Fix c yo->μr1=μr) (hy:Fix c yo->Fix y yo) (hin:yo≠none->Xui d r) (h:SemZ P yo d nt y pe F H n e' pe' F' H' n') :
  X21 P nt n0 y (Xzc yo d c b m r μr e' pe' F' H' n') ⟨sf yo b (frX F),hpX H,n⟩ (Xjo yo d b m r pe μr1):=by
 refine(h n0 b m r μr1 hin).mono ?_;rintro e2 s μ2 ⟨rfl,⟨μr2,hf,rfl⟩,rfl⟩;exact⟨rfl,⟨μr2,λhc=>(hf (hy hc)).trans (hx hc),rfl⟩,rfl⟩
inductive Xn9 (P:Program) (yo:Option YC) (d:Rd) (nt:Nat) (b:Code) (e:Xi) (pe':Xi) (F':FX) (H':HX) (n':Nat):Nat->Xi->FX->HX->Nat->Prop
 |more {m pe F H n pe1 F1 H1 n1} (h:SemZ P yo d nt b pe F H n .normal pe1 F1 H1 n1) (hs:Xn9 P yo d nt b e pe' F' H' n' m pe1 F1 H1 n1):Xn9 P yo d nt b e pe' F' H' n' (m+1) pe F H n
 |last {m pe F H n} (h:SemZ P yo d nt b pe F H n e pe' F' H' n') (hne:e≠.normal):Xn9 P yo d nt b e pe' F' H' n' (m+1) pe F H n
theorem Xn9.sem {P:Program} {yo:Option YC} {d:Rd} {nt:Nat} {c:Code} {e:Xi} {pe':Xi} {F':FX} {H':HX} {n':Nat} {k:Nat} {pe:Xi} {F:FX} {H:HX} {n:Nat} (h:Xn9 P yo d nt c e pe' F' H' n' k pe F H n) :
  ∀ n0 b m r μr,(yo≠none->Xui d r)->X4z P nt n0 c (Xzc yo d c b m r μr e pe' F' H' n') ⟨sf yo b (frX F),hpX H,n⟩ (Xjo yo d b m r pe μr):=by
 induction h with
 |more h _ ih =>
  intro n0 b m r μr hin;refine X4z.round ((h n0 b m r μr hin).mono ?_);rintro e2 s μ1 ⟨rfl,⟨μr1,hf,rfl⟩,rfl⟩;have:=ih n0 b m r μr1 hin;intro c0 H0 c act g hm R hR;have h2:=this c0 H0 c act g hm R hR;intro b' k cs hro;obtain⟨e,a',w',hq,harr⟩:=h2 b' k cs hro;obtain⟨c',s',ae,μ',e1,e2,e3,e4,e5,⟨μr2,e6,e7⟩,e8⟩:=hq;exact⟨e,a',w',⟨c',s',ae,μ',e1,e2,e3,e4,e5,⟨μr2,λhx=>(e6 hx).trans (hf hx),e7⟩,e8⟩,harr⟩
 |last h hne =>
  intro n0 b m r μr hin;refine X4z.round ((h n0 b m r μr hin).mono ?_);rintro e2 s μ1 ⟨rfl,hf,rfl⟩
  cases e2 with
  |normal=>exact absurd rfl hne
  |exit id=>exact⟨rfl,hf,rfl⟩
  |ret=>exact⟨rfl,hf,rfl⟩
theorem Xm4 {P:Program} {T:Ty} {X:Nat->Option (List AV->Option AV)} {rec:Xuh} {nt fuel:Nat} (hm:P.follows .mixedOrders=true) (hnt:nt<=256) (hX:Xkq P X) (hT:X5e P T) (hr:X9f P (rec none)) (hit:Xm9 P rec):∀ (code:Code) (yo:Option YC) (d:Rd) (pe:Xi) (F:FX) (H:HX) (n:Nat) (k:KZ),YOk P yo d->X7g T X rec nt fuel code yo pe F H n k ->
  ∃ e pe' F' H' n',k e pe' F' H' n'/\SemZ P yo d nt code pe F H n e pe' F' H' n':=by
 intro code
 induction code with
 |skip=>intro yo d pe F H n k hy h;exact⟨.normal,pe,F,H,n,h,λn0 b m r μr _=>X21.skip .here⟩
 |label l=>intro yo d pe F H n k hy h;exact⟨.normal,pe,F,H,n,h,λn0 b m r μr _=>X21.label .here⟩
 |exit id=>intro yo d pe F H n k hy h;exact⟨.exit id,pe,F,H,n,h,λn0 b m r μr _=>X21.exit .here⟩
 |ret=>intro yo d pe F H n k hy h;exact⟨.ret,pe,F,H,n,h,λn0 b m r μr _=>X21.ret .here⟩
 |seq x y iha ihb =>
  intro yo d pe F H n k hy h;have h:X7g T X rec nt fuel x yo pe F H n (λe pe F H n=>Xi.rec (motive:=λ_=>Prop) (X7g T X rec nt fuel y yo pe F H n k) (λi=>k (.exit i) pe F H n) (k .ret pe F H n) e):=h;obtain⟨e,pe1,F1,H1,n1,h1,s1⟩:=iha _ _ _ _ _ _ _ hy h;have fx:Fix (.seq x y) yo->Fix x yo:=λhf=>hf.imp (λh=>by simp only[X1j,Bool.or_eq_false_iff] at h;exact h.1) id;have fy:Fix (.seq x y) yo->Fix y yo:=λhf=>hf.imp (λh=>by simp only[X1j,Bool.or_eq_false_iff] at h;exact h.2) id
  cases e with
  |normal =>
   obtain⟨e,pe2,F2,H2,n2,h2,s2⟩:=ihb _ _ _ _ _ _ _ hy h1;refine⟨e,pe2,F2,H2,n2,h2,λn0 b m r μr hin=>X21.seq ((s1 n0 b m r μr hin).mono ?_)⟩;rintro e' s μ1 ⟨rfl,⟨μr1,hf,rfl⟩,rfl⟩;exact Xzc.on (x:=x) (e:=e) (λhc=>hf (fx hc)) fy hin s2
  |exit i =>
   refine⟨.exit i,pe1,F1,H1,n1,h1,λn0 b m r μr hin=>X21.seq ((s1 n0 b m r μr hin).mono ?_)⟩;rintro e' s μ1 ⟨rfl,⟨μr1,hf,rfl⟩,rfl⟩;exact⟨rfl,⟨μr1,λhx=>hf (fx hx),rfl⟩,rfl⟩
  |ret =>
   refine⟨.ret,pe1,F1,H1,n1,h1,λn0 b m r μr hin=>X21.seq ((s1 n0 b m r μr hin).mono ?_)⟩;rintro e' s μ1 ⟨rfl,⟨μr1,hf,rfl⟩,rfl⟩;exact⟨rfl,⟨μr1,λhx=>hf (fx hx),rfl⟩,rfl⟩
 |cond x p q iha ihb =>
  intro yo d pe F H n k hy h;have h:Xyw (evA (frX F) x) (X7g T X rec nt fuel p yo pe F H n k) (X7g T X rec nt fuel q yo pe F H n k):=h;have fx:Fix (.cond x p q) yo->Fix p yo:=λhf=>hf.imp (λh=>by simp only[X1j,Bool.or_eq_false_iff] at h;exact h.1) id;have fy:Fix (.cond x p q) yo->Fix q yo:=λhf=>hf.imp (λh=>by simp only[X1j,Bool.or_eq_false_iff] at h;exact h.2) id;rcases Xu2 h with ⟨hx,h⟩|⟨hx,h⟩
  ·obtain⟨e,pe1,F1,H1,n1,h1,s1⟩:=iha _ _ _ _ _ _ _ hy h;refine⟨e,pe1,F1,H1,n1,h1,λn0 b m r μr hin=>X21.cond (s:=⟨sf yo b (frX F),hpX H,n⟩) (t:=true) ?_ (λ_=>(s1 n0 b m r μr hin).mono ?_) (λh=>by cases h)⟩
   ·show evA (sf yo b (frX F)) x=_;rw[Xpv (by rw[hx];simp)];exact hx
   ·rintro e' s μ1 ⟨rfl,⟨μr1,hf,rfl⟩,rfl⟩;exact⟨rfl,⟨μr1,λhx=>hf (fx hx),rfl⟩,rfl⟩
  ·obtain⟨e,pe1,F1,H1,n1,h1,s1⟩:=ihb _ _ _ _ _ _ _ hy h;refine⟨e,pe1,F1,H1,n1,h1,λn0 b m r μr hin=>X21.cond (s:=⟨sf yo b (frX F),hpX H,n⟩) (t:=false) ?_ (λh=>by cases h) (λ_=>(s1 n0 b m r μr hin).mono ?_)⟩
   ·show evA (sf yo b (frX F)) x=_;rw[Xpv (by rw[hx];simp)];exact hx
   ·rintro e' s μ1 ⟨rfl,⟨μr1,hf,rfl⟩,rfl⟩;exact⟨rfl,⟨μr1,λhx=>hf (fy hx),rfl⟩,rfl⟩
 |block id c ih =>
  intro yo d pe F H n k hy h;have h:X7g T X rec nt fuel c yo pe F H n (λe pe F H n=>Xi.rec (motive:=λ_=>Prop) (k .normal pe F H n) (λi=>Bool.rec (motive:=λ_=>Prop) (k (.exit i) pe F H n) (k .normal pe F H n) (Nat.beq i id)) (k .ret pe F H n) e):=h;obtain⟨e,pe1,F1,H1,n1,h1,s1⟩:=ih _ _ _ _ _ _ _ hy h
  cases e with
  |normal =>
   refine⟨.normal,pe1,F1,H1,n1,h1,λn0 b m r μr hin=>X21.block ((s1 n0 b m r μr hin).mono ?_)⟩;rintro e' s μ1 ⟨rfl,hf,rfl⟩;exact⟨rfl,hf,rfl⟩
  |ret =>
   refine⟨.ret,pe1,F1,H1,n1,h1,λn0 b m r μr hin=>X21.block ((s1 n0 b m r μr hin).mono ?_)⟩;rintro e' s μ1 ⟨rfl,hf,rfl⟩;exact⟨rfl,hf,rfl⟩
  |exit i =>
   have h1:Bool.rec (motive:=λ_=>Prop) (k (.exit i) pe1 F1 H1 n1) (k .normal pe1 F1 H1 n1) (Nat.beq i id):=h1
   cases hb:Nat.beq i id with
   |true =>
    rw[hb] at h1;refine⟨.normal,pe1,F1,H1,n1,h1,λn0 b m r μr hin=>X21.block ((s1 n0 b m r μr hin).mono ?_)⟩;rintro e' s μ1 ⟨rfl,hf,rfl⟩;show bif Nat.beq i id then _ else _;rw[hb];exact⟨rfl,hf,rfl⟩
   |false =>
    rw[hb] at h1;refine⟨.exit i,pe1,F1,H1,n1,h1,λn0 b m r μr hin=>X21.block ((s1 n0 b m r μr hin).mono ?_)⟩;rintro e' s μ1 ⟨rfl,hf,rfl⟩;show bif Nat.beq i id then _ else _;rw[hb];exact⟨rfl,hf,rfl⟩
 |loop c ih =>
  intro yo d pe F H n k hy h;have h:Xsv (X7g T X rec nt fuel c yo) fuel pe F H n k:=h;have key:∀ m pe F H n,Xsv (X7g T X rec nt fuel c yo) m pe F H n k->∃ e pe' F' H' n',k e pe' F' H' n'/\Xn9 P yo d nt c e pe' F' H' n' m pe F H n:=by
   intro m
   induction m with
   |zero=>intro pe F H n h;cases h
   |succ m ihm =>
    intro pe F H n h;have h:X7g T X rec nt fuel c yo pe F H n (λe pe F H n=>Xi.rec (motive:=λ_=>Prop) (Xsv (X7g T X rec nt fuel c yo) m pe F H n k) (λi=>k (.exit i) pe F H n) (k .ret pe F H n) e):=h;obtain⟨e,pe1,F1,H1,n1,h1,s1⟩:=ih _ _ _ _ _ _ _ hy h
    cases e with
    |normal =>
     obtain⟨e,pe2,F2,H2,n2,h2,s2⟩:=ihm _ _ _ _ h1;exact⟨e,pe2,F2,H2,n2,h2,.more s1 s2⟩
    |exit i=>exact⟨_,pe1,F1,H1,n1,h1,.last s1 (by simp)⟩
    |ret=>exact⟨_,pe1,F1,H1,n1,h1,.last s1 (by simp)⟩
  obtain⟨e,pe',F',H',n',hk,hl⟩:=key _ _ _ _ _ h;exact⟨e,pe',F',H',n',hk,λn0 b m r μr hin=>X21.loop (hl.sem n0 b m r μr hin)⟩
 |scope c ih =>
  intro yo d pe F H n k hy h;obtain⟨e,pe1,F1,H1,n1,h1,s1⟩:=ih yo d pe F H n k hy h;refine⟨e,pe1,F1,H1,n1,h1,λn0 b m r μr hin=>X21.scope ((s1 n0 b m r μr hin).mono ?_)⟩;rintro e' s μ1 ⟨rfl,⟨μr1,hf,rfl⟩,rfl⟩;exact⟨rfl,⟨μr1,λhx=>hf (hx.imp (λh=>by cases h) id),rfl⟩,rfl⟩
 |region id ops draw =>
  intro yo d pe F H n k hy h
  cases draw with
  |false =>
   have h:Xx7 T (extR X (rec none)) yo nt ops ops.toList pe F H n (λpe F H n=>k .normal pe F H n):=h;obtain⟨pe',F',H',n',hk,hs⟩:=Xx6 hnt hT (Xyi hX hr) hy _ _ _ _ _ _ h;refine⟨.normal,pe',F',H',n',hk,λn0 b m r μr hin=>X21.region ?_⟩;intro c0 H0 c act g hmo Qx hQ;exact hs n0 b m r μr hin c0 H0 c act g hmo Qx λc' s' act' μ' g' hm' hq=>hQ c' s' act' μ' g' hm' ⟨rfl,⟨μr,λ_=>rfl,hq.1⟩,hq.2⟩
  |true =>
   cases hp:Xdj 0 ops.toList with
   |false =>
    have h:Bool.rec (motive:=λ_=>Prop) (stk 94) (Xyt (evA (frX F)) ops.toList [] H λH=>Option.rec (motive:=λ_=>Prop) (drX T (rec none) nt n ops (X1b ops.toList) ((X1b ops.toList).zip (ops.toList.map hz0)) ops.toList 0 F H [] λF H=>fN (n+ops.toList.length) λn=>k .normal pe F H n) (λ_=>drY T (rec none) nt ops pe F H n k) yo) (Xdj 0 ops.toList):=h;rw[hp] at h;cases h
   |true =>
    have h:Bool.rec (motive:=λ_=>Prop) (stk 94) (Xyt (evA (frX F)) ops.toList [] H λH=>Option.rec (motive:=λ_=>Prop) (drX T (rec none) nt n ops (X1b ops.toList) ((X1b ops.toList).zip (ops.toList.map hz0)) ops.toList 0 F H [] λF H=>fN (n+ops.toList.length) λn=>k .normal pe F H n) (λ_=>drY T (rec none) nt ops pe F H n k) yo) (Xdj 0 ops.toList):=h;rw[hp] at h;obtain⟨Hc,hcut,h⟩:=Xys _ _ _ _ h
    cases yo with
    |some y =>
     have h:drY T (rec none) nt ops pe F Hc n k:=h;unfold drY at h
     cases hds:Xkh F ops.toList with
     |false=>rw[hds] at h;cases h
     |true =>
      rw[hds] at h;obtain⟨F0,h,hF0⟩:=Xyy 256 _ _ (Nat.le_refl _) h;obtain⟨F1,H',h,hrun⟩:=Xvk hnt hr _ _ _ _ _ _ h;obtain⟨F2,hk,hF2,hno⟩:=Xwo 256 _ _ (Nat.le_refl _) h;rw[X53] at hk;have lo:∀ t,isG (frX F t)=true->Nat.blt t 256=true:=by
       intro t ht
       cases hb:Nat.blt t 256 with
       |true=>rfl
       |false =>
        rw[Xgu] at ht;have:Nat.ble 256 t=true:=by
         have h1:¬ Nat.blt t 256=true:=by rw[hb];simp
         simp at h1 ⊢;omega
        rw[this] at ht;cases ht
      refine⟨.normal,pe,F2,H',_,hk,λn0 b m r μr _=>X21.cutH hcut (X21.of (X5h.drawnK (A:=sf (some y) b (frX F)) (A0:=frX F0) (keep:=λt=>isG (frX F t)) hm hT hp (Xtu _ hds) (λt=>?_) hrun ⟨rfl,⟨μr,λ_=>rfl,rfl⟩,?_⟩))⟩
      ·rw[hF0];show _=sfA b (frX F) t\/_;unfold sfA
       cases hg:isG (frX F t) with
       |true=>rw[lo t hg];exact .inr rfl
       |false=>rw[Bool.and_false];exact .inl rfl
      ·congr 1
       funext t
       show(bif isG (frX F t) then sfA b (frX F) t else frX F1 t)=sfA b (frX F2) t;unfold sfA;rw[hF2]
       cases hg:isG (frX F t) with
       |true=>rw[lo t hg];rfl
       |false =>
        rw[Bool.and_false,cond_false,cond_false]
        cases hb:Nat.blt t 256 with
        |true=>rw[hno t (by simpa using hb) hg];rfl
        |false =>
         have:frX F1 t=.sc undef:=by
          rw[Xgu];have:Nat.ble 256 t=true:=by
           have h1:¬ Nat.blt t 256=true:=by rw[hb];simp
           simp at h1 ⊢;omega
          rw[this];rfl
         rw[this];rfl
    |none =>
     obtain⟨F',H',hk,hrun⟩:=Xvk hnt hr _ _ _ _ _ _ h;rw[X53] at hk;exact⟨.normal,pe,F',H',_,hk,λn0 b m r μr _=>X21.cutH hcut (X21.of (X5h.drawn (s:=⟨frX F,hpX Hc,n⟩) hm hT hp hrun ⟨rfl,⟨μr,λ_=>rfl,rfl⟩,rfl⟩))⟩
 |rangeFunc g ps ca cb iha ihb =>
  intro yo d pe F H n k hy h;have h:rfX rec nt g ps ca cb (X7g T X rec nt fuel ca) (X7g T X rec nt fuel cb) yo pe F H n k:=h
  cases yo with
  |some y=>cases h
  |none =>
   have h:(match evA (frX F) g with
    |.fn gf caps=>Bool.rec (motive:=λ_=>Prop) (stk 131) (rec (some (rndX nt ps.toList (X7g T X rec nt fuel ca) (X7g T X rec nt fuel cb) F)) gf (sgn::caps) H n λa H n=>decP a λe=>k e pe F H n) (Bool.not (X1j ca)&&(Bool.not (X1j cb)&&Xqr nt ps.toList))
    |a=>Xzu 132 a):=h
   split at h
   ·rename_i gf caps hg
    cases hc:(Bool.not (X1j ca)&&(Bool.not (X1j cb)&&Xqr nt ps.toList)) with
    |false=>rw[hc] at h;cases h
    |true =>
     rw[hc] at h;simp only[Bool.and_eq_true,Bool.not_eq_true'] at hc;obtain⟨c1,c2,c3⟩:=hc;let d2:Rd:=⟨ps,ca,cb,nt,frX F⟩
     have hyc:YOk P (some (rndX nt ps.toList (X7g T X rec nt fuel ca) (X7g T X rec nt fuel cb) F)) d2:=by
      intro yc he;cases he
      intro as H n k h;have h:Bool.rec (motive:=λ_=>Prop) (stk 124) (Xzw ps.toList as F λF=>X7g T X rec nt fuel ca none .normal F H n λe _ F H n=>nrm e (X7g T X rec nt fuel cb none .normal F H n λe _ _ H n=>k e H n)) (Nat.beq as.length ps.toList.length):=h
      cases hl:Nat.beq as.length ps.toList.length with
      |false=>rw[hl] at h;cases h
      |true =>
       rw[hl] at h;obtain⟨F1,hF,h⟩:=Xvr _ _ _ _ h;obtain⟨e,pe2,F2,H2,n2,h,s1⟩:=iha none d2 _ _ _ _ _ (λ_ h=>by cases h) h;obtain⟨rfl,h⟩:=Xuz h;obtain⟨e,pe3,F3,H3,n3,h,s2⟩:=ihb none d2 _ _ _ _ _ (λ_ h=>by cases h) h;refine⟨by simpa using hl,Xu8 _ c3,c1,c2,e,H3,n3,h,?_⟩;have r0:∀ r,((none:Option YC)≠none->Xui d2 r):=λr h=>absurd rfl h;have e1:=s1 n 0 0 { state:=.ready,pending:=none,fn:=0,tmps:=#[],params:=ps,assign:=ca,body:=cb,defers:=0 } [] (r0 _);rw[show sf none 0 (frX F1)=Xuk ps.toList as (frX F) from hF] at e1;refine e1.mono ?_;rintro e1 s μ1 ⟨rfl,⟨μr1,hf,rfl⟩,rfl⟩;refine⟨rfl,hf (.inl c1),(s2 n 0 0 { state:=.ready,pending:=none,fn:=0,tmps:=#[],params:=ps,assign:=ca,body:=cb,defers:=0 } [] (r0 _)).mono ?_⟩;rintro e2 s μ1 ⟨rfl,hf,rfl⟩;exact⟨rfl,rfl,rfl⟩
     obtain⟨fn,codeI,pe1,H',n',hfn,hres,hle,hk,hs⟩:=hit _ _ _ _ _ _ d2 hyc h;rw[Xq9] at hk;refine⟨pe1,pe,F,H',n',hk,λn0 b m r μr _=>?_⟩;refine X21.rangeFunc hg hfn rfl hle hres ?_;intro b D r r1 r2 r3 r4 r5;have:=hs b n r [(D,.blk (.deferred (some [])))] ⟨r1,r2,r3,r4,r5⟩;rw[show Xjo (some (rndX nt ps.toList (X7g T X rec nt fuel ca) (X7g T X rec nt fuel cb) F)) d2 b n r .normal [(D,.blk (.deferred (some [])))]=[(b,.loop r nt n (frX F)),(D,.blk (.deferred (some [])))] from by show[(b,MuE.loop (Xjk r .normal) nt n (frX F)),_]=_;rw[Xek r1 r2]] at this;refine this.mono ?_;rintro e s μ1 ⟨he,rfl,e1,e2⟩;refine⟨he,pe1,rfl,rfl,⟨(D,.mark)::μr,λhf=>?_,rfl⟩,?_⟩
     ·rcases hf with hf|hf
      ·cases hf
      ·exact absurd rfl hf
     ·rw[e1,e2]
   ·cases h
 |_=>intro yo d pe F H n k hy h;cases h
noncomputable def noG (l:List AV):Bool:=List.rec (motive:=λ_=>Bool) true (λa _ ih=>Bool.rec (motive:=λ_=>Bool) ih false (isG a)) l
theorem X014:∀ l:List AV,noG l=true->∀ a∈l,isG a=false:=by
 intro l
 induction l with
 |nil=>intro _ a h;simp at h
 |cons b l ih =>
  intro h a ha;have h:Bool.rec (motive:=λ_=>Bool) (noG l) false (isG b)=true:=h
  cases hb:isG b with
  |true=>rw[hb] at h;cases h
  |false =>
   rw[hb] at h;rcases List.mem_cons.1 ha with rfl|ha
   ·exact hb
   ·exact ih h a ha
noncomputable def retY (T:Ty) (l:List ResultVar) (yo:Option YC) (pe:Xi) (F:FX) (H:HX) (n:Nat) (k:AV->HX->Nat->Prop):Prop :=
 Option.rec (motive:=λ_=>Prop) (retX T l F H n k) (λ_=>List.rec (motive:=λ_=>Prop) (k (encP pe) H n) (λ_ _ _=>stk 141) l) yo
noncomputable def X05w (as:List AV) (yo:Option YC):Bool:=Option.rec (motive:=λ_=>Bool) true (λ_=>noG as.tail) yo
noncomputable def Xnq (T:Ty) (X:Nat->Option (List AV->Option AV)) (E:Env) (fuel:Nat) (rec:Xuh):Xuh:=λyo f as H n k =>
  match E f with
  |some (fn,code)=>Bool.rec (motive:=λ_=>Prop) (stk 103) (Xzs as 0 f4 λF=>X7g T X rec fn.ntmps fuel code yo .normal F H n λe pe F H n =>
    Xi.rec (motive:=λ_=>Prop) (retY T fn.results.toList yo pe F H n k) (λ_=>stk 104) (retY T fn.results.toList yo pe F H n k) e) (X05w as yo&&(Nat.ble as.length fn.ntmps&&Nat.ble fn.ntmps 256))
  |none=>stk (1000+f)
noncomputable def eqV:Value->Value->Bool
 |.bool a,.bool b=>Bool.rec (motive:=λ_=>Bool) (Bool.not b) b a
 |.int j a,.int k b=>Nat.beq (kn j) (kn k)&&eqZ a b
 |.string a,.string b=>eqY a.data.toList b.data.toList
 |.nilIface,.nilIface=>true
 |_,_=>false
theorem X02c {v w:Value} (h:eqV v w=true):v=w:=by
 unfold eqV at h;split at h
 ·rename_i a b;cases a<;>cases b<;>first|rfl|cases h
 ·rw[Bool.and_eq_true] at h;rw[Xos h.1,(Xpw _ _).1 h.2]
 ·rename_i a b;have:=(Xpx _ _).1 h;congr 1
  exact ByteArray.ext (Array.toList_inj.1 this)
 ·rfl
 ·cases h
noncomputable def eqL (f:AV->AV->Bool) (l:List AV):List AV->Bool :=
 List.rec (motive:=λ_=>List AV->Bool) (λm=>List.rec (motive:=λ_=>Bool) true (λ_ _ _=>false) m) (λa _ ih m=>List.rec (motive:=λ_=>Bool) false (λb m _=>Bool.rec (motive:=λ_=>Bool) false (ih m) (f a b)) m) l
theorem Xly {f:AV->AV->Bool} (hf:∀ a b,f a b=true->a=b):∀ l m:List AV,eqL f l m=true->l=m:=by
 intro l
 induction l with
 |nil=>intro m h;cases m with
  |nil=>rfl
  |cons b m=>cases h
 |cons a l ih =>
  intro m h
  cases m with
  |nil=>cases h
  |cons b m =>
   have h:Bool.rec (motive:=λ_=>Bool) false (eqL f l m) (f a b)=true:=h
   cases hb:f a b with
   |false=>rw[hb] at h;cases h
   |true=>rw[hb] at h;rw[hf a b hb,ih m h]
noncomputable def eqA1 (f:AV->AV->Bool):AV->AV->Bool
 |.sc v,.sc w=>eqV v w
 |.nils,.nils=>true
 |.agg l,.agg m=>eqL f l m
 |.tup l,.tup m=>eqL f l m
 |.list o l,.list p m=>Bool.rec (motive:=λ_=>Bool) (Bool.not p) p o&&eqL f l m
 |_,_=>false
noncomputable def eqA (n:Nat):AV->AV->Bool:=Nat.rec (motive:=λ_=>AV->AV->Bool) (λ_ _=>false) (λ_ ih=>eqA1 ih) n
theorem X02d:∀ (n:Nat) (a b:AV),eqA n a b=true->a=b:=by
 intro n
 induction n with
 |zero=>intro a b h;cases h
 |succ n ih =>
  intro a b h;have h:eqA1 (eqA n) a b=true:=h;unfold eqA1 at h;split at h
  ·rw[X02c h]
  ·rfl
  ·rw[Xly ih _ _ h]
  ·rw[Xly ih _ _ h]
  ·rename_i o l p m _;rw[Bool.and_eq_true] at h;rw[Xly ih _ _ h.2];have:o=p:=by
    have h1:=h.1;cases o<;>cases p<;>first|rfl|cases h1
   rw[this]
  ·cases h
abbrev Xji:=List (List AV×AV)
noncomputable def Xyf (l:Xji) (bs:List AV):Option AV :=
 List.rec (motive:=λ_=>Option AV) none (λp _ ih=>Bool.rec (motive:=λ_=>Option AV) ih (some p.2) (eqL (eqA 60) p.1 bs)) l
theorem Xtq {bs:List AV} {r:AV}:∀ l:Xji,Xyf l bs=some r->(bs,r)∈l:=by
 intro l
 induction l with
 |nil=>intro h;cases h
 |cons p l ih =>
  intro h;have h:Bool.rec (motive:=λ_=>Option AV) (Xyf l bs) (some p.2) (eqL (eqA 60) p.1 bs)=some r:=h
  cases hb:eqL (eqA 60) p.1 bs with
  |false=>rw[hb] at h;exact List.mem_cons_of_mem _ (ih h)
  |true =>
   rw[hb] at h;have h:some p.2=some r:=h;cases h
   rw[<-Xly (X02d 60) _ _ hb];exact List.mem_cons_self
noncomputable def meX (M:Nat->Option Xji) (nx:Xbc):Xbc:=λf as H n k =>
 match M f with
 |none=>nx f as H n k
 |some l=>match Xne (cvF false (hpX H) 100) as with
  |none=>nx f as H n k
  |some bs=>fDs bs λbs=>match Xyf l bs with
   |none=>nx f as H n k
   |some r=>k r H n
def Xat (P:Program) (M:Nat->Option Xji):Prop:=∀ f l,M f=some l->∀ p∈l,X06 P f p.1 p.2/\Xdt p.2
theorem X019 {P:Program} {M:Nat->Option Xji} {nx:Xbc} (hM:Xat P M) (hn:X9f P nx):X9f P (meX M nx):=by
 intro f as H n k h;unfold meX at h;split at h
 ·exact hn _ _ _ _ _ h
 ·rename_i l hf;split at h
  ·exact hn _ _ _ _ _ h
  ·rename_i bs hm;rw[Xvd] at h;split at h
   ·exact hn _ _ _ _ _ h
   ·rename_i r hr;obtain⟨h1,h2⟩:=hM f l hf _ (Xtq l hr);obtain⟨m1,m2⟩:=X9m hm;exact⟨r,H,n,HC.of_pure (H:=hpX H) (n:=n) h1 ⟨m1,λi a b ha hb=>Xgw _ _ _ (m2 i a b ha hb)⟩ (λ_ _ h=>h) (.inl h2),h⟩
def AllM (P:Program) (f:Nat):Xji->Prop
 |[]=>True
 |p::l=>(X06 P f p.1 p.2/\Xsl 60 p.2=true)/\AllM P f l
theorem Xz6 {P:Program} {f:Nat}:∀ l:Xji,AllM P f l->∀ p∈l,X06 P f p.1 p.2/\Xdt p.2:=by
 intro l
 induction l with
 |nil=>intro _ p h;cases h
 |cons q l ih =>
  intro h p hp;rcases List.mem_cons.1 hp with rfl|hp
  ·exact⟨h.1.1,Xk0 _ _ h.1.2⟩
  ·exact ih h.2 p hp
theorem X6w {P:Program} {t:Tab Xji} (h:t.All (AllM P)):Xat P t.find:=λk l hf=>Xz6 l (t.find_all h k l hf)
noncomputable def callM (T:Ty) (X:Nat->Option (List AV->Option AV)) (E:Env) (M:Nat->Option Xji) (fuel d:Nat):Xuh :=
 Nat.rec (motive:=λ_=>Xuh) (λ_ _ _ _ _ _=>stk 102) (λ_ ih yo=>Option.rec (motive:=λ_=>Xbc) (meX M (Xnq T X E fuel ih none)) (λyc=>Xnq T X E fuel ih (some yc)) yo) d
theorem Xo6 {P:Program} {T:Ty} {l:List ResultVar} {F:FX} {H:HX} {n:Nat} {k:AV->HX->Nat->Prop} (h:retX T l F H n k):∃ r,k r H n/\∃ rs,X9e T ⟨frX F,hpX H,n⟩ l rs/\X7z rs=r:=by
 unfold retX at h;split at h
 ·rename_i rs hrs;rw[Xpm X93,X8o] at h;exact⟨_,h,rs,Xws (s:=⟨frX F,hpX H,n⟩) _ _ hrs,rfl⟩
 ·cases h
theorem HC.of_bodyA {P:Program} {T:Ty} (hT:X5e P T) {f:Nat} {fn:Func} {code:Code} (hfn:X2m P f fn code) {as:List AV} {H:Xs} {n nt:Nat} {K:AV->Xs->Nat->Prop} (hnt:fn.ntmps=nt)
  (hle:as.length<=nt) (h:X21 P nt n code (Xwr T fn K) ⟨Xbb as,H,n⟩ []):HC P f as H n K:=by
 refine⟨⟨fn,code,hfn⟩,λc vs hI hs hv ho=>?_⟩;have g:X28 nt c H n c ⟨Xbb as,H,n⟩ { tmps:=vs++Array.replicate (fn.ntmps - vs.size) undef,defers:=[] }:=by
  refine⟨hI,hs,λt=>X5x hv _ t,λt=>Xba ho t,?_,.refl c H n,Nat.le_refl _⟩;have:=hv.len;simp only[Array.size_append,Array.size_replicate];omega
 refine X95 hfn g h ?_;intro e s' μ hq;have fin:(∃ rs,X9e T s' fn.results.toList rs/\K (X7z rs) s'.H s'.n)->∀ c' act',X28 nt c H n c' s' act'->∃ v,(results fn act'.tmps).run P c'.w=.ok v c'.w/\∃ v' r H' n' c2,K r H' n'/\Ending.returned v=.returned v'/\c2.w=c'.w/\c.Le (·<n) c2/\c2.Sa=c.Sa/\(∀ b,c2.So b->c.So b\/c.w.heap.size<=b\/∃ o x,H o=some x/\(c.ρ o).blk=b) /\
   Fr c H c'.w/\X7i c H c2 H'/\Inv c2 H' (·<n')/\(∀ o x,H' o=some x->x.solo=true/\x.spent=false)/\n<=n'/\X0g c2 false r v'/\r.Ok (·<n'):=by
  rintro⟨rs,hrs,hk⟩ c' act' g';obtain⟨v,h1,h2,h3⟩:=Xgm hT g' hrs;exact⟨v,h1,v,_,s'.H,s'.n,c',hk,rfl,rfl,g'.reach.le,g'.reach.sa,g'.reach.so2,g'.reach.fr,g'.reach.own,g'.inv,g'.solo,g'.le0,h2,h3⟩
 cases e with
 |exit id=>exact hq.elim
 |normal=>exact⟨(λ_ h=>by cases h),fin hq⟩
 |ret=>exact⟨(λ_ h=>by cases h),fin hq⟩
theorem Xky {P:Program} {T:Ty} {X:Nat->Option (List AV->Option AV)} {E:Env} {fuel:Nat} {rec:Xuh} (hm:P.follows .mixedOrders=true) (hX:Xkq P X) (hT:X5e P T) (hE:Xkr P E) (ihr:X9f P (rec none)) (ihi:Xm9 P rec):X9f P (Xnq T X E fuel rec none)/\Xm9 P (Xnq T X E fuel rec):=by
  refine⟨λf as H n k h=>?_,λyc f caps H n k d hy h=>?_⟩
  ·have h:(match E f with
    |some (fn,code)=>Bool.rec (motive:=λ_=>Prop) (stk 103) (Xzs as 0 f4 λF=>X7g T X rec fn.ntmps fuel code none .normal F H n λe _ F H n =>
      Xi.rec (motive:=λ_=>Prop) (retX T fn.results.toList F H n k) (λ_=>stk 104) (retX T fn.results.toList F H n k) e) (true&&(Nat.ble as.length fn.ntmps&&Nat.ble fn.ntmps 256))
    |none=>stk (1000+f)):=h
   split at h
   ·rename_i fn code hf
    cases hle:(true&&(Nat.ble as.length fn.ntmps&&Nat.ble fn.ntmps 256)) with
    |false=>rw[hle] at h;cases h
    |true =>
     rw[hle] at h;simp only[Bool.true_and,Bool.and_eq_true,Nat.ble_eq] at hle;obtain⟨F0,h,hF0⟩:=Xqo om h;obtain⟨e,pe,F',H',n',h1,hsem⟩:=Xm4 hm hle.2 hX hT ihr ihi code none ⟨#[],.skip,.skip,0,λ_=>.junk⟩ _ _ _ _ _ (λ_ h=>by cases h) h;have hs:=hsem n 0 0 { state:=.ready,pending:=none,fn:=0,tmps:=#[],params:=#[],assign:=.skip,body:=.skip,defers:=0 } [] (λh=>absurd rfl h);rw[show sf none 0 (frX F0)=Xbb as from hF0] at hs
     cases e with
     |exit i=>cases h1
     |normal =>
      obtain⟨r,hk,rs,hrs,hpk⟩:=Xo6 (P:=P) h1;refine⟨r,H',n',?_,hk⟩;refine HC.of_bodyA hT (hE _ _ _ hf) rfl hle.1 (hs.mono ?_);rintro e' s' μ' ⟨rfl,_,rfl⟩;exact⟨rs,hrs,hpk,rfl,rfl⟩
     |ret =>
      obtain⟨r,hk,rs,hrs,hpk⟩:=Xo6 (P:=P) h1;refine⟨r,H',n',?_,hk⟩;refine HC.of_bodyA hT (hE _ _ _ hf) rfl hle.1 (hs.mono ?_);rintro e' s' μ' ⟨rfl,_,rfl⟩;exact⟨rs,hrs,hpk,rfl,rfl⟩
   ·cases h
  ·have h:(match E f with
    |some (fn,code)=>Bool.rec (motive:=λ_=>Prop) (stk 103) (Xzs (sgn::caps) 0 f4 λF=>X7g T X rec fn.ntmps fuel code (some yc) .normal F H n λe pe F H n =>
      Xi.rec (motive:=λ_=>Prop) (retY T fn.results.toList (some yc) pe F H n k) (λ_=>stk 104) (retY T fn.results.toList (some yc) pe F H n k) e) (noG caps&&(Nat.ble (caps.length+1) fn.ntmps&&Nat.ble fn.ntmps 256))
    |none=>stk (1000+f)):=h
   split at h
   ·rename_i fn code hf
    cases hle:(noG caps&&(Nat.ble (caps.length+1) fn.ntmps&&Nat.ble fn.ntmps 256)) with
    |false=>rw[hle] at h;cases h
    |true =>
     rw[hle] at h;simp only[Bool.and_eq_true,Nat.ble_eq] at hle;obtain⟨hng,hl1,hl2⟩:=hle;obtain⟨F0,h,hF0⟩:=Xqo (by simp only[List.length_cons];omega) h;obtain⟨e,pe,F',H',n',h1,hsem⟩:=Xm4 hm hl2 hX hT ihr ihi code (some yc) d _ _ _ _ _ hy h;have hfr:∀ b,sf (some yc) b (frX F0)=Xbb (X86 b::caps):=by
      intro b;rw[hF0];funext t
      show sfA b (Xbb (sgn::caps)) t=_;unfold sfA
      cases t with
      |zero=>rfl
      |succ t =>
       have e1:Xbb (sgn::caps) (t+1)=Xbb (X86 b::caps) (t+1):=rfl;rw[e1];have:isG (Xbb (X86 b::caps) (t+1))=false:=by
        show isG (((X86 b::caps)[t+1]?).getD (.sc undef))=false;rw[List.getElem?_cons_succ]
        cases hq:caps[t]? with
        |none=>rfl
        |some a=>exact X014 _ hng a (List.mem_of_getElem? hq)
       rw[this,cond_false]
     have fin:retY T fn.results.toList (some yc) pe F' H' n' k->fn.results=#[]/\k (encP pe) H' n':=by
      intro h;have h:List.rec (motive:=λ_=>Prop) (k (encP pe) H' n') (λ_ _ _=>stk 141) fn.results.toList:=h
      cases hrs:fn.results.toList with
      |nil =>
       rw[hrs] at h;exact⟨by rw[<-Array.toList_inj,hrs],h⟩
      |cons r l=>rw[hrs] at h;cases h
     cases e with
     |exit i=>cases h1
     |normal =>
      obtain⟨g1,g2⟩:=fin h1;refine⟨fn,code,pe,H',n',hE _ _ _ hf,g1,hl1,g2,λb m r μr hin=>?_⟩;have:=hsem n b m r μr (λ_=>hin);rw[hfr] at this;refine this.mono ?_;rintro e' s' μ' ⟨rfl,⟨μr1,hf,rfl⟩,rfl⟩;exact⟨(λ_ h=>by cases h),by rw[hf (.inr (by simp))],rfl,rfl⟩
     |ret =>
      obtain⟨g1,g2⟩:=fin h1;refine⟨fn,code,pe,H',n',hE _ _ _ hf,g1,hl1,g2,λb m r μr hin=>?_⟩;have:=hsem n b m r μr (λ_=>hin);rw[hfr] at this;refine this.mono ?_;rintro e' s' μ' ⟨rfl,⟨μr1,hf,rfl⟩,rfl⟩;exact⟨(λ_ h=>by cases h),by rw[hf (.inr (by simp))],rfl,rfl⟩
   ·cases h
theorem Xu6 {P:Program} {T:Ty} {X:Nat->Option (List AV->Option AV)} {E:Env} {M:Nat->Option Xji} {fuel:Nat} (hm:P.follows .mixedOrders=true) (hX:Xkq P X) (hT:X5e P T) (hE:Xkr P E) (hM:Xat P M):∀ d,X9f P (callM T X E M fuel d none)/\Xm9 P (callM T X E M fuel d):=by
 intro d
 induction d with
 |zero =>
  refine⟨?_,?_⟩
  ·intro f as H n k h;cases h
  ·intro yc f caps H n k d _ h;cases h
 |succ m ih =>
  obtain⟨h1,h2⟩:=Xky (fuel:=fuel) hm hX hT hE ih.1 ih.2;exact⟨X019 hM h1,λyc f caps H n k d hy h=>h2 yc f caps H n k d hy h⟩
theorem X0o {P:Program} {T:Ty} {X:Nat->Option (List AV->Option AV)} {E:Env} {M:Nat->Option Xji} {fuel d f:Nat} {as:List AV} {r:AV} (hm:P.follows .mixedOrders=true) (hX:Xkq P X) (hT:X5e P T) (hE:Xkr P E) (hM:Xat P M)
  (h:Xnq T X E fuel (callM T X E M fuel d) none f as g8 0 (λa H _=>cvF true (hpX H) 100 a=some r)=(some r=some r)):X06 P f as r:=by
 have ok:=Xu6 (fuel:=fuel) hm hX hT hE hM d;obtain⟨r',H',n',h1,h2⟩:=(Xky (fuel:=fuel) hm hX hT hE ok.1 ok.2).1 _ _ _ _ _ (cast h.symm rfl);rw[Xv6] at h1;exact X06.of_hc h1 (Xgw _ _ _ h2)
end Go.Av.X


namespace Go.Av
open Go.ChangeShapes Go.RowKit
section
variable {H:Type} {enc:TypeId×Value->H} {P:Program} {w:World}
theorem law_contractG [Gls] {f:Nat} {fn:Func} {s:ChangeSpec} {n tb:Nat} (hl:laidOutB P=true) (hpl:∀ t∈fn.params.toList,X7y P n t=true)
  (hrd:∀ t∈fn.params.toList,P.readableRec t=true/\t<P.types.size) (hres:fn.resultTypes=#[tb]) (htb:P.underlying tb=some .bool) (hsv:s.vars=[])
  (hs:∀ ds:List (DataW H),ds.length=fn.params.size->s.fn H ds={ results:=[.lit (.bool true)],args:=ds })
  (hp:∀ as,Xi9 (λt a=>X0v P n t a) fn.params.toList as->X06 P f as (.sc (.bool true)))
  (W:World) (hG:GF (lawCtx W)) (base:Nat) (args:Array Value) (ds gs:List (DataW H)) (before:List MemPlace)
  (hval:∀ (j:Nat) t v,fn.params[j]?=some t->args[j]?=some v->Value.okWide P W .any base t v)
  (hW:DataW.Whole enc P fn.params.toList s.vars false W args.toList ds gs before) :
  Calls P f args W λe W'=>∃ v,e=.returned v/\s.post enc P fn false true false false W args v W':=by
 have hlt:=hW.lt;have hW0:=hW;obtain⟨p,q,hA,hV,rfl,hfz,hnd⟩:=hW;rw[hsv] at hV;obtain⟨rfl,rfl⟩:=trodVars_none hV;simp only[List.append_nil] at hlt hW0;have hlen:ds.length=fn.params.size:=by
  have:∀ (ts:List Nat) (vs:List Value) (ds:List (DataW H)) (ps:List MemPlace),DataW.TrodAll enc P W 0 (λ_=>true) true ts vs ds ps->ds.length=ts.length:=by
   intro ts
   induction ts with
   |nil=>intro vs ds ps h;cases vs<;>cases ds<;>simp_all [DataW.TrodAll]
   |cons t ts ih =>
    intro vs ds ps h
    cases vs with
    |nil=>simp[DataW.TrodAll] at h
    |cons v vs=>cases ds with
     |nil=>simp[DataW.TrodAll] at h
     |cons d ds=>simp only[DataW.TrodAll] at h;obtain⟨_,q,_,h2,_⟩:=h;simp[ih vs ds q h2]
  simpa using this _ _ _ _ hA
 obtain⟨as,h1,h2,h3⟩:=Xbi (n:=n) fn.params.toList args.toList ds p hpl (λj t v hj hv=>by
  have:=hval j t v (by simpa using hj) (by simpa using hv);exact Value.okWide_any_base this) hA
 have hrel:X9d (lawCtx W) true as args:=⟨by simpa using h2,λi a v ha hv=>h3 i a v ha (by simpa using hv)⟩;refine((hp as h1).2 W (λb=>b<W.heap.size) args (λb hb=>hb) hG hrel).mono ?_;rintro e W' ⟨v,rfl,hv,hb⟩;have hvt:v=.bool true:=hv.sc_inv;subst hvt;refine⟨_,rfl,ds,[],p,[],p,[],hW0,?_,?_,?_,?_,λh=>by cases h⟩
 ·rw[List.append_nil,hs ds hlen,hres];exact trodAll_cons_mk (shut_bool htb _) trodAll_mk0
 ·rw[List.append_nil,hs ds hlen];exact Xbh hl hb.toBelow _ _ _ _ hrd hlt hA
 ·rw[List.append_nil,hs ds hlen,hsv];simp[DataW.TrodVars]
 ·exact hb.frame _
end
theorem byteRow_of_laid {P:Program} {name:String} {g t tb n:Nat} {l:List (String×DataW Unit)} {zs:List Int} {W:World} (h:laidMetH P l W)
  (hf:l.filter (λx=>x.1==name)=[(name,.agg (zs.map λz=>.lit (.int .u8 z)))]) (hh:((DataW.agg (zs.map λz=>.lit (.int .u8 z)):DataW Unit).handleName?)=none)
  (hg:P.globalNamed name=some g) (ht:(P.globals[g]?).map (·.type)=some t) (hu:P.underlying t=some (.array n tb)) (hb:P.underlying tb=some (.int .u8)) (hc:P.cellsOf tb=1) (hn:zs.length=n) :
  ∀ (k:Nat) v,(zs.map λz=>Value.int .u8 z)[k]?=some v->W.cell? ⟨g,k,none⟩=some v/\v.oneCell'=true:=by
 have h1:=h.filter λx=>x.1==name;rw[hf] at h1;rw[MakeChecks.laidMetH_plain _ _ _ (by simp[hh])] at h1;obtain⟨ps,⟨g0,t0,cs,fuel,p,q,hg0,ht0,hv,hd,_,_⟩,_,_⟩:=h1;obtain rfl:=Option.some.inj (hg.symm.trans hg0);obtain rfl:=Option.some.inj (ht.symm.trans ht0);obtain⟨xs,m,_,ex,_,hl,hel⟩:=DataW.trod_array hu hd;intro r v hr;have hr1:r<zs.length:=by simpa using(List.getElem?_eq_some_iff.1 hr).1
 have hE:=hel r om;rw[hc,Nat.mul_one,List.getElem?_eq_getElem om] at hE;obtain⟨z,e1,e2,_⟩:=DataW.trod_int hb hE;have e3:(xs.map (·.1))=zs.map λz=>.lit (.int .u8 z):=(DataW.agg.inj (Prod.mk.inj ex).1).symm;have e4:(xs.map (·.1))[r]?=(zs.map λz=>(DataW.lit (.int .u8 z):DataW Unit))[r]?:=by rw[e3]
 rw[List.getElem?_map,List.getElem?_map,List.getElem?_eq_getElem (by omega:r<xs.length),List.getElem?_eq_getElem hr1,e2] at e4;have hz:z=zs[r]:=by simpa using e4
 rw[List.getElem?_map,List.getElem?_eq_getElem hr1] at hr;have hv':v=.int .u8 z:=by rw[hz];exact(Option.some.inj hr).symm
 subst hv';refine⟨?_,rfl⟩;rw[World.var?_cell hg hv r];have:cs.toList[r]?=some (.int .u8 z):=by
  have h0:((cs.toList.drop r).take 1)[0]?=some (.int .u8 z):=by rw[e1];rfl
  simpa using h0
 simpa using this
end Go.Av
