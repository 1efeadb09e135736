/- Parts of the proof, laid together. -/
import Derived.Test.YtnkfdamiiejfdaaGreatDoorAvc
import Derived.WideKeyEntry
import Derived.Maps.RangeRun
import Derived.DeepKeys4
import GoSem.ClaimGoes
import Derived.LaidMore
import Derived.LaidSub
set_option linter.all false
set_option maxHeartbeats 4000000
noncomputable section

namespace Go.Av
variable [Gls]
section
variable {P:Program} {ops:Array Oper} {keep:Nat->Bool} {v0:Nat->Value}
def Kept (keep:Nat->Bool) (v0:Nat->Value) (a:Act):Prop:=∀ t,keep t=true->a.tmps.getD t undef=v0 t
theorem Kept.put {a:Act} {d:Option Nat} {v:Value} (h:Kept keep v0 a) (hd:∀ t,d=some t->keep t=false):Kept keep v0 (a.put d v):=by
 intro t ht;rw[<-h t ht]
 cases d with
 |none=>rfl
 |some d =>
  show(a.tmps.setIfInBounds d v).getD t undef=_;have hne:d≠t:=λe=>by grind
  simp_all
theorem Oper.wp_keep {o:Oper} {a:Act} {w:World} {K K':Act->World->Prop} {Q Q':Exit->Act->World->Prop} (hno:∀ a w,¬ Q .outgrown a w) (hd:∀ t,o.dst=some t->keep t=false) (ha:Kept keep v0 a)
  (hK:∀ a w,Kept keep v0 a->K a w->K' a w) (hQ:∀ e a w,Kept keep v0 a->Q e a w->Q' e a w) (h:o.wp P a w K Q):o.wp P a w K' Q':=by
 have hl:¬ LetsOut Q:=λ⟨a,w,h⟩=>hno a w h;unfold Oper.wp at *;generalize (execOp a.eval o).run P w=r at *
 cases r with
 |ok n w' =>
  cases n<;>simp only[Oper.upon] at h ⊢ <;>
   first
    |exact hK _ _ (ha.put hd) h
    |exact hK _ _ (Kept.put (a:={ a with defers:=_::a.defers }) ha hd) h
    |exact Calls.mono h (λe w'' he=>by cases e<;>first|exact hK _ _ (ha.put hd) he|exact hQ _ _ _ ha he|exact(hl he).elim)
    |exact Rows.mono h (λ_ _ he=>hK _ _ (ha.put hd) he)
    |exact h
 |halt x w'=>cases x<;>simp only[Oper.upon] at h ⊢<;>first|exact hQ _ _ _ ha h|exact h
theorem Xuh {md:Region.Mode} {Q Q':Exit->Act->World->Prop} (hno:∀ a w,¬ Q .outgrown a w) (hk:∀ o∈ops.toList,∀ d,o.dst=some d->keep d=false) (hQ:∀ e a w,Kept keep v0 a->Q e a w->Q' e a w) :
  ∀ (fuel:Nat) (listed:Array Bool) (a:Act) (w:World),Kept keep v0 a->wpAny P md ops Q fuel listed a w->wpAny P md ops Q' fuel listed a w:=by
 intro fuel
 induction fuel with
 |zero=>intro listed a w ha h;exact⟨h.1,hQ _ _ _ ha h.2⟩
 |succ fuel ih =>
  intro listed a w ha h;refine⟨λhr=>hQ _ _ _ ha (h.1 hr),λi hi=>?_⟩;have hh:=h.2 i hi;unfold wpOp at hh ⊢
  cases ho:ops[i]? with
  |none=>grind
  |some o =>
   rw[ho] at hh;have hm:o∈ops.toList:=by grind
   simp only at hh ⊢;by_cases hw:Region.wanted o (yielded ops a.tmps)=true
   ·rw[if_pos hw] at hh ⊢;rcases hh with hh|⟨_,a,w,hq⟩
    ·exact .inl (Oper.wp_keep hno (hk o hm) ha (λa w ha h=>ih _ a w ha h) hQ hh)
    ·exact(hno a w hq).elim
   ·rw[if_neg hw] at hh ⊢;exact ih _ _ _ (ha.put (hk o hm)) hh
end
section
variable {hz:Oper->Nat->Bool} {P:Program} {T:Ty} {nt n0:Nat} {ops:Array Oper}
theorem Xq5.drawnK {id n:Nat} {Q:Xl->St->Prop} {A A0 A':Nat->AV} {H H':Xw} {keep:Nat->Bool} (hm:P.follows .mixedOrders=true) (hT:X6c P T) (hpre:X8a 0 ops.toList=true)
  (hk:∀ o∈ops.toList,∀ d,o.dst=some d->keep d=false) (hA0:∀ t,A0 t=A t\/A0 t=.junk)
  (hrun:Xx2 hz P T nt n ops (X1e ops.toList) 0 ops.toList A0 H [] A' H') (hQ:Q .normal ⟨λt=>bif keep t then A t else A' t,H',n+ops.toList.length⟩):Xq5 P nt n0 (.region id ops true) Q ⟨A,H,n⟩:=by
 obtain⟨rs,hall,hA,hH⟩:=hrun.all A0 H [] (Nat.zero_le _) rfl rfl rfl rfl rfl (λk o r _ hr=>by simp at hr);subst hA hH;intro c0 HH c act gA R hR;have g1:X32 nt c0 HH n0 c ⟨A0,H,n⟩ act:=by
  refine⟨gA.inv,gA.solo,λt=>?_,λt=>?_,gA.size,gA.reach,gA.le0⟩
  ·show X0b c false (A0 t) _;rcases hA0 t with h|h
   ·rw[h];exact gA.frame t
   ·rw[h];exact .junk
  ·show(A0 t).Ok _;rcases hA0 t with h|h
   ·rw[h];exact gA.ok t
   ·rw[h];exact .junk
 have g:=g1.drew;have hno:∀ (Q:Xl->St->Prop) a w,¬ CQ nt c HH n0 act.defers Q .outgrown a w:=by rintro Q a w ⟨c,s,ae,_,_,_,h,_⟩;cases ae<;>cases h
 refine Xaa hm hR (by rintro a w ⟨c,s,ae,_,_,_,h,_⟩;cases ae<;>cases h) ?_;have hzz:∀ k,(Array.replicate ops.size false).getD k false=false:=by
  intro k;simp only[Array.getD_eq_getD_getElem?,Array.getElem?_replicate];split<;>rfl
 have hfn:(λk=>(Array.replicate ops.size false).getD k false)=(λ_=>false):=funext hzz;let cb:Ctx:={ c with w:={ c.w with drawn:=c.w.drawn+1 } }
 have gb:X32 nt cb H n cb ⟨A0,H,n⟩ act:=⟨g.inv,g.solo,g.frame,g.ok,g.size,.refl _ _ _,Nat.le_refl _⟩;refine Xuh (keep:=keep) (v0:=λt=>act.tmps.getD t undef) (Q:=CQ nt cb H n act.defers (λe s=>e=.normal/\s=⟨_,_,n+ops.toList.length⟩)) (by rintro a w ⟨c,s,ae,_,_,_,h,_⟩;cases ae<;>cases h) hk ?_ _ _ _ _ (λt _=>rfl)
  (Xns hT hpre hall (Q:=λe s=>e=.normal/\s=⟨_,_,n+ops.toList.length⟩) ⟨rfl,rfl⟩ (Nat.le_refl n) ops.size _ (List.range ops.size) cb act (by simp) (by simp) (λk hk _=>List.mem_range.2 hk) (λi o _ h=>by grind) ?_ rfl)
 ·rintro e a w hkept ⟨c',s',ae,rfl,g',hds,rfl,rfl,rfl⟩;have hr:Reach c0 HH n0 c' _:=g.reach.trans (g'.reach.weaken gA.le0);refine⟨c',⟨λt=>bif keep t then A t else X14 (X6a ops.toList rs) (λx=>true) ops.toList.length A0 t,_,_⟩,.normal,rfl,⟨g'.inv,g'.solo,λt=>?_,λt=>?_,g'.size,hr,Nat.le_trans gA.le0 g'.le0⟩,hds,rfl,hQ⟩
  ·show X0b c' false (bif keep t then A t else _) _
   cases ht:keep t with
   |false=>exact g'.frame t
   |true =>
    rw[hkept t ht];have h0:X0b cb false (A t) (act.tmps.getD t undef):=by
     have:=gA.drew.frame t;exact this
    exact h0.mono g'.reach.le (.inr (gA.ok t))
  ·show(bif keep t then A t else _:AV).Ok _
   cases ht:keep t with
   |false=>exact g'.ok t
   |true=>exact(gA.ok t).mono λq hq=>Nat.lt_of_lt_of_le hq g'.le0
 ·rw[hfn,X7k,X7k];have hM:∀ q,q<n->AtS n (λ_=>false) q:=λq h=>.inl h;exact⟨gb.inv.more hM,gb.solo,gb.frame,λt=>(gb.ok t).mono hM,gb.size,gb.reach,λq hq=>hM q (Nat.lt_of_lt_of_le hq (Nat.le_refl _))⟩
end
end Go.Av


namespace Go.Av.X
variable [Gls]
open Go.Av
def sgn:AV:=.cond false .nils
def isG (a:AV):Bool:=match a with
 |.cond false .nils=>true
 |_=>false
theorem X060 {a:AV} (h:isG a=true):a=sgn:=by
 unfold isG at h;split at h
 ·rfl
 ·cases h
theorem Xpa {a:AV} (h:isG a=true):X4n a=.junk:=by rw[X060 h];rfl
abbrev YC:=List AV->HX->Nat->(Xl->HX->Nat->Prop)->Prop
def Xan (b:Nat):AV:=.sc (.func (.yield b) #[] #[])
def sfA (b:Nat) (A:Nat->AV) (t:Nat):AV:=bif isG (A t) then Xan b else A t
def sf (yo:Option YC) (b:Nat) (A:Nat->AV):Nat->AV:=match yo with
 |none=>A
 |some _=>sfA b A
def jnA (A:Nat->AV) (t:Nat):AV:=bif isG (A t) then .junk else A t
def jn (yo:Option YC) (A:Nat->AV):Nat->AV:=match yo with
 |none=>A
 |some _=>jnA A
theorem X0fw (yo:Option YC) (A:Nat->AV):evA (jn yo A)=evA A:=by
 cases yo with
 |none=>rfl
 |some y =>
  funext x
  cases x with
  |tmp t =>
   show X4n (jnA A t)=X4n (A t);unfold jnA
   cases h:isG (A t) with
   |true=>rw[cond_true,Xpa h];rfl
   |false=>grind
  |_=>rfl
theorem OpR.hide {P:Program} {nt:Nat} {o:Oper} {A A':Nat->AV} {H:Xw} {n:Nat} {R:AV->Xw->Nat->Prop} (hA:∀ t,A' t=A t\/(A' t=.junk/\∃ v,A t=.sc v)) (h:OpR P nt o ⟨A',H,n⟩ R):OpR P nt o ⟨A,H,n⟩ R:=by
  intro c0 H0 n0 c act g K Q hK Rm;have g':X32 nt c0 H0 n0 c ⟨A',H,n⟩ act:=by
    refine⟨g.inv,g.solo,λt=>?_,λt=>?_,g.size,g.reach,g.le0⟩
    · show X0b c false (A' t) _
      rcases hA t with h|⟨h,_⟩
      · rw[h];exact g.frame t
      · rw[h];exact .junk
    · show(A' t).Ok _
      rcases hA t with h|⟨h,_⟩
      · rw[h];exact g.ok t
      · rw[h];exact .junk
  refine h c0 H0 n0 c act g' K Q (λc' a H' n' v hR hgood=>hK c' a H' n' v hR λdst hd=>?_) Rm;have g2:=hgood dst hd;have keep:∀ t,(∀ d,dst=some d->t≠d)->(act.put dst v).tmps.getD t undef=act.tmps.getD t undef:=by
    intro t ht
    cases dst with
    |none=>rfl
    |some d =>
      have hlt:d<act.tmps.size:=by rw[g.size];grind
      show(act.tmps.setIfInBounds d v).getD t undef=_;rw[Xft hlt,if_neg (ht d rfl)]
  refine⟨g2.inv,g2.solo,λt=>?_,λt=>?_,g2.size,g2.reach,g2.le0⟩
  · have h2:=g2.frame t
    show X0b c' false (X5q A dst a t) _;rcases hA t with he|⟨he,u,hu⟩
    · have:X5q A dst a t=X5q A' dst a t:=by
        cases dst with
        |none=>exact he.symm
        | some d => by_cases htd : t = d
                    · subst htd;simp only[X5q,Xc]
                    · simp only[X5q,Xe _ _ htd];exact he.symm
      rw[this];exact h2
    · by_cases hdt:∃ d,dst=some d/\t=d
      · obtain⟨d,rfl,rfl⟩:=hdt
        simp_all [X5q,Xc]
      · have hne:∀ d,dst=some d->t≠d:=λd hd he=>hdt ⟨d,hd,he⟩
        have e:X5q A dst a t=A t:=by
          cases dst with
          |none=>rfl
          |some d=>simp only[X5q,Xe _ _ (hne d rfl)]
        rw[e,keep t hne,hu];have:=g.frame t;have h0:X0b c false (A t) (act.tmps.getD t undef):=this;rw[hu] at h0;rw[h0.sc_inv];exact .sc
  · have h2:=g2.ok t
    show(X5q A dst a t).Ok _;rcases hA t with he|⟨he,u,hu⟩
    · have:X5q A dst a t=X5q A' dst a t:=by
        cases dst with
        |none=>exact he.symm
        | some d => by_cases htd : t = d
                    · subst htd;simp only[X5q,Xc]
                    · simp only[X5q,Xe _ _ htd];exact he.symm
      rw[this];exact h2
    · by_cases hdt:∃ d,dst=some d/\t=d
      · obtain⟨d,rfl,rfl⟩:=hdt
        simp_all [X5q,Xc]
      · have e:X5q A dst a t=A t:=by
          cases dst with
          |none=>rfl
          |some d=>simp only[X5q,Xe _ _ (λhe=>hdt ⟨d,rfl,he⟩)]
        rw[e,hu];exact .sc
theorem X0fv (yo:Option YC) (b:Nat) (A:Nat->AV) (t:Nat):jn yo A t=sf yo b A t\/(jn yo A t=.junk/\∃ v,sf yo b A t=.sc v):=by
 cases yo with
 |none=>exact .inl rfl
 |some y =>
  show jnA A t=sfA b A t\/(jnA A t=.junk/\∃ v,sfA b A t=.sc v);unfold jnA sfA
  cases h:isG (A t) with
  |true=>exact .inr ⟨rfl,_,rfl⟩
  |false=>grind
theorem Xxu (yo:Option YC) (b:Nat) (A:Nat->AV) (d:Option Nat) (a:AV) (ha:isG a=false):X5q (sf yo b A) d a=sf yo b (X5q A d a):=by
 cases yo with
 |none=>rfl
 |some y =>
  cases d with
  |none=>rfl
  |some d =>
   funext t
   show upd (sfA b A) d a t=sfA b (upd A d a) t
   grind [sfA,upd,Xc,Xe]
theorem X0bs (b:Nat) (A:Nat->AV) (d:Option Nat):X5q (sfA b A) d (Xan b)=sfA b (X5q A d sgn):=by
 cases d with
 |none=>rfl
 |some d =>
  funext t
  show upd (sfA b A) d (Xan b) t=sfA b (upd A d sgn) t;by_cases h:t=d
  ·subst h;have:sfA b (upd A t sgn) t=Xan b:=by unfold sfA;rw[Xc];rfl
   rw[Xc,this]
  grind [sfA,upd,sgn,Xe]
theorem X074 (yo:Option YC) (b:Nat) (A:Nat->AV) {t:Nat} {v:AV} (h:X4n (A t)=v) (hv:v≠.junk):sf yo b A t=A t:=by
 cases yo with
 |none=>rfl
 |some y =>
  show sfA b A t=A t
  grind [sfA,isG,Xpa,absurd]
def YcOk (P:Program) (yc:YC) (ps:Array Nat) (assign body:Code) (ntc:Nat) (A:Nat->AV):Prop :=
 ∀ as H n k,yc as H n k->as.length=ps.size/\(∀ p∈ps.toList,p<ntc)/\X21 assign=false/\X21 body=false/\∃ e H' n',k e H' n' /\
  X24 P ntc n assign (λe1 s μ1=>e1=.normal/\μ1=[]/\X24 P ntc n body (λe2 s _=>e2=e/\s.H=hpX H'/\s.n=n') s []) ⟨zipA ps.toList as A,hpX H,n⟩ []
structure Rd where
 ps:Array Nat
 assign:Code
 body:Code
 ntc:Nat
 A:Nat->AV
def RdOk (d:Rd) (r:Loop):Prop:=r.state=.ready/\r.pending=none/\r.params=d.ps/\r.assign=d.assign/\r.body=d.body
def Xq7 (yo:Option YC) (d:Rd) (b m:Nat) (r:Loop) (pe:Xl) (μr:Mu):Mu:=match yo with
 |none=>μr
 |some _=>(b,.loop (Xq0 r pe) d.ntc m d.A)::μr
def YOk (P:Program) (yo:Option YC) (d:Rd):Prop:=∀ yc,yo=some yc->YcOk P yc d.ps d.assign d.body d.ntc d.A
def noJ (l:List AV):Bool:=List.rec (motive:=λ_=>Bool) true (λa _ ih=>AV.casesOn (motive_1:=λ_=>Bool) a false (λ_=>ih) ih (λ_=>ih) (λ_=>ih) (λ_ _=>ih) (λ_ _ _=>ih) (λ_ _ _=>ih) (λ_ _ _=>ih) (λ_ _=>ih) (λ_ _=>ih) (λ_ _=>ih) (λ_ _=>ih)) l
theorem X0cd:∀ (l:List AV),noJ l=true->∀ a∈l,a≠.junk:=by
 intro l
 induction l with
 |nil=>grind
 |cons b l ih =>
  intro h a ha;have h2:b≠.junk/\noJ l=true:=by
   cases b<;>first|(cases h;done)|exact⟨(λe=>by cases e),h⟩
  grind
def ckG (k:AV->HX->Nat->Prop) (a:AV) (H:HX) (n:Nat):Prop:=Bool.rec (motive:=λ_=>Prop) (k a H n) (stk 113) (isG a)
theorem X0dv {k:AV->HX->Nat->Prop} {a:AV} {H:HX} {n:Nat} (h:ckG k a H n):isG a=false/\k a H n:=by
 unfold ckG at h
 cases hg:isG a with
 |true=>rw[hg] at h;cases h
 |false=>simp_all
abbrev KP:=AV->HX->Nat->Xl->Prop
def kpe (k:KP) (pe:Xl) (a:AV) (H:HX) (n:Nat):Prop:=k a H n pe
def ykP (k:KP) (e:Xl) (H:HX) (n:Nat):Prop:=Xl.rec (motive:=λ_=>Prop) (k (.sc (.bool true)) H n .normal) (λi=>k (.sc (.bool false)) H n (.exit i)) (k (.sc (.bool false)) H n .ret) e
theorem X0b9 (k:KP) (e:Xl) (H:HX) (n:Nat):ykP k e H n=k (.sc (.bool (Xfq e).isNone)) H n e:=by cases e<;>rfl
def nrm (e:Xl) (p:Prop):Prop:=Xl.rec (motive:=λ_=>Prop) p (λ_=>stk 122) (stk 123) e
theorem X05v {e:Xl} {p:Prop} (h:nrm e p):e=.normal/\p:=by
 cases e with
 |normal=>trivial
 |exit i=>cases h
 |ret=>cases h
def opY (T:Ty) (rec:Xd6) (pe:Xl) (F:FX) (H:HX) (n:Nat) (o:Oper) (yc:YC) (k:KP):Prop :=
 match o.op with
 |.move (.tmp t)=>Bool.rec (motive:=λ_=>Prop) (opX T rec F H n o (ckG (kpe k pe))) (k sgn H n pe) (isG (frX F t))
 |.assign (.tmp t)=>Bool.rec (motive:=λ_=>Prop) (opX T rec F H n o (ckG (kpe k pe))) (k sgn H n pe) (isG (frX F t))
 |.call { callee:=.value (.tmp t),args:=args,argTypes:=_ }=>Bool.rec (motive:=λ_=>Prop) (opX T rec F H n o (ckG (kpe k pe)))
   (match o.guard with
   |none=>nrm pe (fL (args.toList.map (evA (frX F))) λas=>Bool.rec (motive:=λ_=>Prop) (stk 111) (yc as H n (ykP k)) (noJ as))
   |some _=>stk 112) (isG (frX F t))
 |_=>opX T rec F H n o (ckG (kpe k pe))
def opZ (T:Ty) (rec:Xd6) (yo:Option YC) (pe:Xl) (F:FX) (H:HX) (n:Nat) (o:Oper) (k:KP):Prop :=
 Option.rec (motive:=λ_=>Prop) (opX T rec F H n o (kpe k pe)) (λyc=>opY T rec pe F H n o yc k) yo
def gz1 (nt:Nat) (ops:Array Oper) (A:Nat->AV) (run skip:Prop) (p:Nat×Bool):Prop :=
 match (ops[p.1]?).bind (·.dst) with
  |some t=>Bool.rec (motive:=λ_=>Prop) (stk 51) (match gdS p.2 (A t) with
   |some g=>Bool.rec (motive:=λ_=>Prop) skip run g
   |none=>stk 52) (Nat.blt t nt)
  |none=>stk 53
def gdZ (nt:Nat) (ops:Array Oper) (A:Nat->AV) (o:Oper) (run skip:Prop):Prop:=Option.rec (motive:=λ_=>Prop) run (gz1 nt ops A run skip) o.guard
theorem X0d5 {nt:Nat} {ops:Array Oper} {A:Nat->AV} {o:Oper} {run skip:Prop} (h:gdZ nt ops A o run skip) :
  (run/\(o.guard=none\/∃ j want t,o.guard=some (j,want)/\(ops[j]?).bind (·.dst)=some t/\Nat.blt t nt=true/\gdS want (A t)=some true)) \/
  (skip/\∃ j want t,o.guard=some (j,want)/\(ops[j]?).bind (·.dst)=some t/\Nat.blt t nt=true/\gdS want (A t)=some false):=by
 unfold gdZ at h
 cases hg:o.guard with
 |none=>simp_all
 |some p =>
  obtain⟨j,want⟩:=p;rw[hg] at h;have h:gz1 nt ops A run skip (j,want):=h;unfold gz1 at h;split at h
  ·rename_i t hj
   cases ht:Nat.blt t nt with
   |false=>rw[ht] at h;cases h
   |true =>
    rw[ht] at h;have h:(match gdS want (A t) with
     |some g=>Bool.rec (motive:=λ_=>Prop) skip run g
     |none=>stk 52):=h
    split at h
    ·rename_i g hv
     cases g with
     |false=>grind
     |true=>grind
    ·cases h
  ·cases h
theorem X065 (yo:Option YC) (b:Nat) (A:Nat->AV) {want:Bool} {t:Nat} {q:Bool} (h:gdS want (A t)=some q):gdS want (sf yo b A t)=some q:=by
 have:sf yo b A t=A t:=by
  cases yo with
  |none=>rfl
  |some y =>
   show sfA b A t=A t;unfold sfA
   cases hg:isG (A t) with
   |false=>rfl
   |true=>rw[X060 hg] at h;cases h
 grind
def opsZ (T:Ty) (rec:Xd6) (yo:Option YC) (nt:Nat) (ops:Array Oper) (l:List Oper):Xl->FX->HX->Nat->(Xl->FX->HX->Nat->Prop)->Prop :=
 List.rec (motive:=λ_=>Xl->FX->HX->Nat->(Xl->FX->HX->Nat->Prop)->Prop) (λpe F H n k=>k pe F H n) (λo _ ih pe F H n k =>
  Bool.rec (motive:=λ_=>Prop) (stk 61) (gdZ nt ops (frX F) o (opZ T rec yo pe F H n o λa H n pe=>Xg9 F o.dst a λF=>ih pe F H n k) (Xg9 F o.dst (.cond false (.sc (.bool false))) λF=>ih pe F H n k)) (Xb5 nt o.dst)) l
theorem X00c {yo:Option YC} {b:Nat} {A:Nat->AV} {x:Operand} (h:evA A x≠.junk):evA (sf yo b A) x=evA A x:=by
 cases x with
 |tmp t =>
  show X4n (sf yo b A t)=X4n (A t);rw[X074 yo b A (v:=X4n (A t)) rfl h]
 |_=>rfl
theorem X0c7 {P:Program} {T:Ty} {rec:Xd6} {yo:Option YC} {nt:Nat} {ops:Array Oper} {l:List Oper} {pe:Xl} {F:FX} {H:HX} {n:Nat} {o:Oper} {k:KP} {d:Rd} (hT:X6c P T) (hr:Xma P rec) (hy:YOk P yo d) (hd:Xb5 nt o.dst=true)
  (h:opZ T rec yo pe F H n o k):∃ a H' n' pe',k a H' n' pe'/\∀ n0 b m r μr (K:St->Mu->Prop),(yo≠none->RdOk d r) ->
   (∀ (c0 c:Ctx) (H0:Xw) (act:Act),X32 nt c0 H0 n0 c ⟨sf yo b (frX F),hpX H,n⟩ act->Region.wanted o (yielded ops act.tmps)=true) ->
   X2j P nt n0 ops l K ⟨sf yo b (X5q (frX F) o.dst a),hpX H',n'⟩ (Xq7 yo d b m r pe' μr)->X2j P nt n0 ops (o::l) K ⟨sf yo b (frX F),hpX H,n⟩ (Xq7 yo d b m r pe μr):=by
 have plain:∀ k',opX T rec F H n o k'->∃ a H' n',k' a H' n'/\∀ n0 b μ (K:St->Mu->Prop),(isG a=false\/yo=none) ->
   (∀ (c0 c:Ctx) (H0:Xw) (act:Act),X32 nt c0 H0 n0 c ⟨sf yo b (frX F),hpX H,n⟩ act->Region.wanted o (yielded ops act.tmps)=true) ->
   X2j P nt n0 ops l K ⟨sf yo b (X5q (frX F) o.dst a),hpX H',n'⟩ μ->X2j P nt n0 ops (o::l) K ⟨sf yo b (frX F),hpX H,n⟩ μ:=by
  intro k' h;obtain⟨a,H',n',hR,hk⟩:=X0c8 (nt:=nt) (A:=jn yo (frX F)) (X0fw yo _) hT hr h;refine⟨a,H',n',hk,λn0 b μ K hg hw hn=>?_⟩;refine X2j.step hw (X3a hd) (OpR.hide (λt=>X0fv yo b (frX F) t) hR) ?_;rintro a' H2 n2 ⟨rfl,rfl,rfl⟩
  grind [X2j,X5q,sf,frX,hpX,Xxu]
 cases yo with
 |none =>
  obtain⟨a,H',n',hk,hs⟩:=plain _ h;exact⟨a,H',n',pe,hk,λn0 b m r μr K _ hw hn=>hs n0 b _ K (.inr rfl) hw hn⟩
 |some yc =>
  have h:opY T rec pe F H n o yc k:=h;have plain2:opX T rec F H n o (ckG (kpe k pe))->∃ a H' n' pe',k a H' n' pe'/\∀ n0 b m r μr (K:St->Mu->Prop),(some yc≠none->RdOk d r) ->
    (∀ (c0 c:Ctx) (H0:Xw) (act:Act),X32 nt c0 H0 n0 c ⟨sf (some yc) b (frX F),hpX H,n⟩ act->Region.wanted o (yielded ops act.tmps)=true) ->
    X2j P nt n0 ops l K ⟨sf (some yc) b (X5q (frX F) o.dst a),hpX H',n'⟩ (Xq7 (some yc) d b m r pe' μr)->X2j P nt n0 ops (o::l) K ⟨sf (some yc) b (frX F),hpX H,n⟩ (Xq7 (some yc) d b m r pe μr):=by
   intro h;obtain⟨a,H',n',hk,hs⟩:=plain _ h;obtain⟨hg,hk⟩:=X0dv hk;exact⟨a,H',n',pe,hk,λn0 b m r μr K _ hw hn=>hs n0 b _ K (.inl hg) hw hn⟩
  have mv:∀ (x:Operand) (t:Nat),x=.tmp t->isG (frX F t)=true->(o.op=.move x\/o.op=.assign x)->k sgn H n pe->∃ a H' n' pe',k a H' n' pe'/\∀ n0 b m r μr (K:St->Mu->Prop),(some yc≠none->RdOk d r) ->
    (∀ (c0 c:Ctx) (H0:Xw) (act:Act),X32 nt c0 H0 n0 c ⟨sf (some yc) b (frX F),hpX H,n⟩ act->Region.wanted o (yielded ops act.tmps)=true) ->
    X2j P nt n0 ops l K ⟨sf (some yc) b (X5q (frX F) o.dst a),hpX H',n'⟩ (Xq7 (some yc) d b m r pe' μr)->X2j P nt n0 ops (o::l) K ⟨sf (some yc) b (frX F),hpX H,n⟩ (Xq7 (some yc) d b m r pe μr):=by
   intro x t hx hg ho hk;refine⟨_,_,_,_,hk,λn0 b m r μr K _ hw hn=>?_⟩;have he:evA (sf (some yc) b (frX F)) x=Xan b:=by
    rw[hx];show X4n (sfA b (frX F) t)=_;unfold sfA;rw[hg];rfl
   have hR:OpR P nt o ⟨sf (some yc) b (frX F),hpX H,n⟩ (λa' H' n'=>a'=Xan b/\H'=hpX H/\n'=n):=by
    refine OpR.pu hT (s:=⟨sf (some yc) b (frX F),hpX H,n⟩) ?_;rw[<-he];rcases ho with ho|ho
    ·rw[ho];exact .move
    ·rw[ho];exact .assign
   refine X2j.step hw (X3a hd) hR ?_;rintro a' H2 n2 ⟨rfl,rfl,rfl⟩;show X2j P nt n0 ops l K ⟨X5q (sfA b (frX F)) o.dst (Xan b),hpX H,n2⟩ _;rw[X0bs];exact hn
  unfold opY at h;split at h
  ·rename_i t ho
   cases hg:isG (frX F t) with
   |false=>simp_all
   |true=>rw[hg] at h;grind
  ·rename_i t ho
   cases hg:isG (frX F t) with
   |false=>simp_all
   |true=>rw[hg] at h;grind
  ·rename_i t args ts ho
   cases hg:isG (frX F t) with
   |false=>simp_all
   |true =>
    rw[hg] at h;have h:(match o.guard with
     |none=>nrm pe (fL (args.toList.map (evA (frX F))) λas=>Bool.rec (motive:=λ_=>Prop) (stk 111) (yc as H n (ykP k)) (noJ as))
     |some _=>stk 112):=h
    split at h
    ·rename_i hgd;obtain⟨rfl,h⟩:=X05v h;rw[Xno] at h
     cases hj:noJ (args.toList.map (evA (frX F))) with
     |false=>rw[hj] at h;cases h
     |true =>
      rw[hj] at h;obtain⟨p1,p2,p3,p4,e,H',n',hk,hs⟩:=hy yc rfl _ _ _ _ h;rw[X0b9] at hk;refine⟨_,H',n',e,hk,λn0 b m r μr K hrd hw hn=>?_⟩;obtain⟨r1,r2,r3,r4,r5⟩:=hrd (by simp);have hx:evA (sf (some yc) b (frX F)) (.tmp t)=Xan b:=by
       show X4n (sfA b (frX F) t)=_;unfold sfA;rw[hg];rfl
      have has:args.toList.map (evA (sf (some yc) b (frX F)))=args.toList.map (evA (frX F)):=by
       grind [List.map_congr_left,X00c,X0cd,List.mem_map_of_mem]
      show X2j P nt n0 ops (o::l) K _ ((b,.loop (Xq0 r .normal) d.ntc m d.A)::μr);rw[Xj4 r1 r2];refine X2j.yield (r:=r) (ntc:=d.ntc) (m:=m) (Ac:=d.A) ho hgd hd hx has r1 r2 (by grind) (by grind) (by grind) ?_;rw[r3,r4,r5];refine hs.mono ?_;rintro e1 s μ1 ⟨rfl,rfl,hb⟩;refine⟨rfl,rfl,hb.mono ?_⟩;rintro e2 s _ ⟨rfl,e1,e2⟩;rw[e1,e2,Xxu (some yc) b _ _ _ rfl];exact hn
    ·cases h
  grind
theorem X082 {P:Program} {T:Ty} {rec:Xd6} {yo:Option YC} {nt:Nat} {ops:Array Oper} {d:Rd} (hnt:nt<=343) (hT:X6c P T) (hr:Xma P rec) (hy:YOk P yo d):∀ (l:List Oper) (pe:Xl) (F:FX) (H:HX) (n:Nat) (k:Xl->FX->HX->Nat->Prop),opsZ T rec yo nt ops l pe F H n k ->
  ∃ pe' F' H' n',k pe' F' H' n'/\∀ n0 b m r μr,(yo≠none->RdOk d r)->X2j P nt n0 ops l (λs' μ'=>μ'=Xq7 yo d b m r pe' μr/\s'=⟨sf yo b (frX F'),hpX H',n'⟩) ⟨sf yo b (frX F),hpX H,n⟩ (Xq7 yo d b m r pe μr):=by
 intro l
 induction l with
 |nil=>intro pe F H n k h;exact⟨pe,F,H,n,h,λn0 b m r μr _=>X2j.nil ⟨rfl,rfl⟩⟩
 |cons o l ih =>
  intro pe F H n k h;have h:Bool.rec (motive:=λ_=>Prop) (stk 61) (gdZ nt ops (frX F) o (opZ T rec yo pe F H n o λa H n pe=>Xg9 F o.dst a λF=>opsZ T rec yo nt ops l pe F H n k) (Xg9 F o.dst (.cond false (.sc (.bool false))) λF=>opsZ T rec yo nt ops l pe F H n k)) (Xb5 nt o.dst):=h
  cases hd:Xb5 nt o.dst with
  |false=>rw[hd] at h;cases h
  |true =>
   rw[hd] at h;have h:gdZ nt ops (frX F) o (opZ T rec yo pe F H n o λa H n pe=>Xg9 F o.dst a λF=>opsZ T rec yo nt ops l pe F H n k) (Xg9 F o.dst (.cond false (.sc (.bool false))) λF=>opsZ T rec yo nt ops l pe F H n k):=h;have hdlt:=X3a hd;have hd2:∀ t,o.dst=some t->t<343:=λt ht=>Nat.lt_of_lt_of_le (hdlt t ht) hnt;rcases X0d5 h with ⟨h,hg⟩|⟨h,j,want,t,hg,hj,ht,hb⟩
   ·obtain⟨a,H1,n1,pe1,h,hs⟩:=X0c7 (ops:=ops) (l:=l) hT hr hy hd h;obtain⟨F1,hF,h⟩:=Xf7 hd2 h;obtain⟨pe',F',H',n',hk,hsem⟩:=ih _ _ _ _ _ h;refine⟨pe',F',H',n',hk,λn0 b m r μr hin=>hs n0 b m r μr _ hin ?_ ?_⟩
    ·intro c0 c H0 act g;rcases hg with hgn|⟨j,want,t,hg,hj,ht,hv⟩
     ·simp[Region.wanted,hgn]
     ·exact Xap hg hj ht (X065 yo b _ hv) g
    grind
   ·obtain⟨F1,hF,h⟩:=Xf7 hd2 h;obtain⟨pe',F',H',n',hk,hsem⟩:=ih _ _ _ _ _ h;refine⟨pe',F',H',n',hk,λn0 b m r μr hin=>X2j.skip hg hj ht (X065 yo b _ hb) hdlt ?_⟩;show X2j P nt n0 ops l _ ⟨X5q (sf yo b (frX F)) o.dst _,hpX H,n⟩ _;rw[Xxu yo b _ _ _ rfl,<-hF];grind
abbrev KZ:=Xl->Xl->FX->HX->Nat->Prop
abbrev CY:=Option YC->Xl->FX->HX->Nat->KZ->Prop
abbrev RecY:=Option YC->Xd6
def zipX (ps:List Nat):List AV->FX->(FX->Prop)->Prop :=
 List.rec (motive:=λ_=>List AV->FX->(FX->Prop)->Prop) (λ_ F k=>k F) (λp _ ih as F k=>List.rec (motive:=λ_=>Prop) (k F) (λa as _=>Bool.rec (motive:=λ_=>Prop) (stk 121) (Xqj F p a λF=>ih as F k) (Nat.blt p 343)) as) ps
theorem X06k:∀ (ps:List Nat) (as:List AV) (F:FX) (k:FX->Prop),zipX ps as F k->∃ F',frX F'=zipA ps as (frX F)/\k F':=by
 intro ps
 induction ps with
 |nil=>intro as F k h;exact⟨F,by rfl,h⟩
 |cons p ps ih =>
  intro as F k h
  cases as with
  |nil=>exact⟨F,rfl,h⟩
  |cons a as =>
   have h:Bool.rec (motive:=λ_=>Prop) (stk 121) (Xqj F p a λF=>zipX ps as F k) (Nat.blt p 343):=h
   cases hp:Nat.blt p 343 with
   |false=>rw[hp] at h;cases h
   |true =>
    rw[hp] at h;have h:Xqj F p a (λF=>zipX ps as F k):=h;rw[Xj3] at h;obtain⟨F',h1,h2⟩:=ih _ _ _ h;refine⟨F',?_,h2⟩;rw[h1,Xgz F p (by simp_all)];rfl
def X01g (nt:Nat) (l:List Nat):Bool:=List.rec (motive:=λ_=>Bool) true (λp _ ih=>Bool.rec (motive:=λ_=>Bool) false ih (Nat.blt p nt)) l
theorem X055 {nt:Nat}:∀ l:List Nat,X01g nt l=true->∀ p∈l,p<nt:=by
 intro l
 induction l with
 |nil=>grind
 |cons a l ih =>
  intro h p hp;have h:Bool.rec (motive:=λ_=>Bool) false (X01g nt l) (Nat.blt a nt)=true:=h
  cases ha:Nat.blt a nt with
  |false=>rw[ha] at h;cases h
  |true =>
   rw[ha] at h;rcases List.mem_cons.1 hp with rfl|hp
   ·simpa using ha
   ·exact ih h p hp
def rndX (nt:Nat) (ps:List Nat) (assign body:CY) (F:FX):YC:=λas H n k =>
 Bool.rec (motive:=λ_=>Prop) (stk 124) (zipX ps as F λF=>assign none .normal F H n λe _ F H n=>nrm e (body none .normal F H n λe _ _ H n=>k e H n)) (Nat.beq as.length ps.length)
def encP (e:Xl):AV:=Xl.rec (motive:=λ_=>AV) (.tup []) (λi=>.ptr i 0 0) .nils e
def decP (a:AV) (k:Xl->Prop):Prop :=
 AV.casesOn (motive_1:=λ_=>(Xl->Prop)->Prop) a (λ_=>stk 135) (λ_ _=>stk 135) (λk=>k .ret) (λ_ _=>stk 135) (λ_ k=>k .normal) (λ_ _ _=>stk 135) (λ_ _ _ _=>stk 135) (λi _ _ k=>k (.exit i)) (λ_ _ _ _=>stk 135) (λ_ _ _=>stk 135) (λ_ _ _=>stk 135) (λ_ _ _=>stk 135) (λ_ _ _=>stk 135) k
theorem X00u (e:Xl) (k:Xl->Prop):decP (encP e) k=k e:=by cases e<;>rfl
def rfX (rec:RecY) (nt:Nat) (g:Operand) (ps:Array Nat) (ca cb:Code) (assign body:CY):CY:=λyo pe F H n k =>
 Option.rec (motive:=λ_=>Prop) (match evA (frX F) g with
  |.fn gf caps=>Bool.rec (motive:=λ_=>Prop) (stk 131) (rec (some (rndX nt ps.toList assign body F)) gf (sgn::caps) H n λa H n=>decP a λe=>k e pe F H n) (Bool.not (X21 ca)&&(Bool.not (X21 cb)&&X01g nt ps.toList))
  |a=>StkA 132 a) (λ_=>stk 133) yo
abbrev BZ:=Xl->FX->HX->Nat->KZ->Prop
def X03m (b:BZ) (m:Nat):BZ :=
 Nat.rec (motive:=λ_=>BZ) (λ_ _ _ _ _=>stk 91) (λ_ ih pe F H n k=>b pe F H n λe pe F H n=>Xl.rec (motive:=λ_=>Prop) (ih pe F H n k) (λi=>k (.exit i) pe F H n) (k .ret pe F H n) e) m
def clrX (m:Nat):FX->(FX->Prop)->Prop :=
 Nat.rec (motive:=λ_=>FX->(FX->Prop)->Prop) (λF k=>k F) (λi ih F k=>Bool.rec (motive:=λ_=>Prop) (ih F k) (Xqj F i .junk λF=>ih F k) (isG (frX F i))) m
theorem X0a3:∀ (m:Nat) (F:FX) (k:FX->Prop),m<=343->clrX m F k->∃ F',k F'/\∀ t,frX F' t=bif Nat.blt t m&&isG (frX F t) then .junk else frX F t:=by
 intro m
 induction m with
 |zero=>intro F k _ h;exact⟨F,h,λt=>rfl⟩
 |succ m ih =>
  intro F k hm h;have h:Bool.rec (motive:=λ_=>Prop) (clrX m F k) (Xqj F m .junk λF=>clrX m F k) (isG (frX F m)):=h
  cases hg:isG (frX F m) with
  |false =>
   rw[hg] at h;obtain⟨F',hk,hF⟩:=ih _ _ om h;refine⟨F',hk,λt=>?_⟩;rw[hF];by_cases ht:t=m
   ·grind
   ·have:Nat.blt t (m+1)=Nat.blt t m:=by
     rw[Bool.eq_iff_iff];simp;omega
    rw[this]
  |true =>
   rw[hg] at h;have h:Xqj F m .junk (λF=>clrX m F k):=h;rw[Xj3] at h;obtain⟨F',hk,hF⟩:=ih _ _ om h;refine⟨F',hk,λt=>?_⟩;rw[hF,Xgz F m om];by_cases ht:t=m
   ·subst ht;rw[hg,Xc,show Nat.blt t (t+1)=true by simp];simp
   ·rw[Xe _ _ ht];have:Nat.blt t (m+1)=Nat.blt t m:=by
     rw[Bool.eq_iff_iff];simp;omega
    rw[this]
def rstX (G:FX) (m:Nat):FX->(FX->Prop)->Prop :=
 Nat.rec (motive:=λ_=>FX->(FX->Prop)->Prop) (λF k=>k F) (λi ih F k=>Bool.rec (motive:=λ_=>Prop) (Bool.rec (motive:=λ_=>Prop) (ih F k) (stk 136) (isG (frX F i))) (Xqj F i sgn λF=>ih F k) (isG (frX G i))) m
theorem X07o {G:FX}:∀ (m:Nat) (F:FX) (k:FX->Prop),m<=343->rstX G m F k->∃ F',k F'/\(∀ t,frX F' t=bif Nat.blt t m&&isG (frX G t) then sgn else frX F t)/\∀ t,t<m->isG (frX G t)=false->isG (frX F t)=false:=by
 intro m
 induction m with
 |zero=>intro F k _ h;exact⟨F,h,λt=>rfl,λt ht=>by omega⟩
 |succ m ih =>
  intro F k hm h;have h:Bool.rec (motive:=λ_=>Prop) (Bool.rec (motive:=λ_=>Prop) (rstX G m F k) (stk 136) (isG (frX F m))) (Xqj F m sgn λF=>rstX G m F k) (isG (frX G m)):=h;have hb:∀ t,t≠m->Nat.blt t (m+1)=Nat.blt t m:=λt ht=>by rw[Bool.eq_iff_iff];simp;omega
  cases hg:isG (frX G m) with
  |false =>
   rw[hg] at h;have h:Bool.rec (motive:=λ_=>Prop) (rstX G m F k) (stk 136) (isG (frX F m)):=h
   cases hf:isG (frX F m) with
   |true=>rw[hf] at h;cases h
   |false =>
    rw[hf] at h
    grind
  |true =>
   rw[hg] at h;have h:Xqj F m sgn (λF=>rstX G m F k):=h;rw[Xj3] at h;obtain⟨F',hk,hF,hn⟩:=ih _ _ om h;refine⟨F',hk,λt=>?_,λt ht hgt=>?_⟩
   ·rw[hF,Xgz F m om];by_cases ht:t=m
    ·subst ht;rw[hg,Xc,show Nat.blt t (t+1)=true by simp];simp
    ·rw[Xe _ _ ht,hb t ht]
   ·by_cases h2:t=m
    ·grind
    ·have:=hn t om hgt;rw[Xgz F m om,Xe _ _ h2] at this;exact this
def Xsf (F:FX) (l:List Oper):Bool:=List.rec (motive:=λ_=>Bool) true (λo _ ih=>Option.rec (motive:=λ_=>Bool) ih (λd=>Bool.rec (motive:=λ_=>Bool) ih false (isG (frX F d))) o.dst) l
theorem X04r {F:FX}:∀ l:List Oper,Xsf F l=true->∀ o∈l,∀ d,o.dst=some d->isG (frX F d)=false:=by
 intro l
 induction l with
 |nil=>grind
 |cons o l ih =>
  intro h q hq d hd;have h:Option.rec (motive:=λ_=>Bool) (Xsf F l) (λd=>Bool.rec (motive:=λ_=>Bool) (Xsf F l) false (isG (frX F d))) o.dst=true:=h;have h2:Xsf F l=true/\∀ d,o.dst=some d->isG (frX F d)=false:=by
   cases ho:o.dst with
   |none=>simp_all
   |some e =>
    rw[ho] at h;have h:Bool.rec (motive:=λ_=>Bool) (Xsf F l) false (isG (frX F e))=true:=h
    cases hg:isG (frX F e) with
    |true=>simp_all
    |false=>simp_all
  grind
def drY (T:Ty) (rec:Xd6) (nt:Nat) (ops:Array Oper) (pe:Xl) (F:FX) (H:HX) (n:Nat) (k:KZ):Prop :=
 Bool.rec (motive:=λ_=>Prop) (stk 134) (clrX 343 F λF0=>hzK ops.toList F0 λhz=>drX T rec hz nt n ops (X1e ops.toList) ((X1e ops.toList).zip (ops.toList.map hz)) ops.toList 0 F0 H [] λF1 H=>rstX F 343 F1 λF2=>fN (n+ops.toList.length) λn=>k .normal pe F2 H n) (Xsf F ops.toList)
def X0bu (ops:List Oper) (n:Nat):Operand->Option Operand :=
 Nat.rec (motive:=λ_=>Operand->Option Operand) (λ_=>none) (λ_ ih x=>match x with
  |.tmp t=>match ops.find? (λo=>match o.dst with|some d=>Nat.beq d t|none=>false) with
   |none=>some x
   |some o=>match o.op with
    |.move y=>ih y
    |.assign y=>ih y
    |_=>none
  |_=>none) n
def cut1 (ops:List Oper) (ev:Operand->AV) (o:Oper) (H:HX) (k:HX->Prop):Prop :=
 match o.op with
 |.call { callee:=.builtin .append,args:=⟨[s,_]⟩,argTypes:=_ }=>match X0bu ops 6 s with
  |some x=>match ev x with
   |.ref q 0 m=>match hpX H q with
    |some y=>Bool.rec (motive:=λ_=>Prop) (k H) (fO sh { y with es:=y.es.take m } λy=>X35 H q (some y) k) (Nat.blt m y.es.length)
    |none=>k H
   |_=>k H
  |none=>k H
 |_=>k H
def cutD (ev:Operand->AV) (l:List Oper):List Oper->HX->(HX->Prop)->Prop :=
 List.rec (motive:=λ_=>List Oper->HX->(HX->Prop)->Prop) (λ_ H k=>k H) (λo _ ih pre H k=>cut1 pre ev o H λH=>ih (o::pre) H k) l
inductive Cut:Xw->Xw->Prop
 |refl {H}:Cut H H
 |step {H H' q y m} (hy:H q=some y) (h:Cut (upd H q (some { y with es:=y.es.take m })) H'):Cut H H'
theorem Cut.trans {H H' H'':Xw} (h:Cut H H') (k:Cut H' H''):Cut H H'':=by
 induction h with
 |refl=>exact k
 |step hy _ ih=>exact .step hy (ih k)
theorem X09t {ev:Operand->AV}:∀ (l pre:List Oper) (H:HX) (k:HX->Prop),cutD ev l pre H k->∃ H',Cut (hpX H) (hpX H')/\k H':=by
 intro l
 induction l with
 |nil=>intro pre H k h;exact⟨H,.refl,h⟩
 |cons o l ih =>
  intro pre H k h;have h:cut1 pre ev o H (λH=>cutD ev l (o::pre) H k):=h;have same:cutD ev l (o::pre) H k->∃ H',Cut (hpX H) (hpX H')/\k H':=λh=>ih _ H k h;unfold cut1 at h;split at h
  ·split at h
   ·split at h
    ·split at h
     ·rename_i q m _ _ y hy
      cases hb:Nat.blt m y.es.length with
      |false=>simp_all
      |true =>
       rw[hb] at h;have h:fO sh { y with es:=y.es.take m } (λy=>X35 H q (some y) λH=>cutD ev l (o::pre) H k):=h;rw[Xdy X89] at h;obtain⟨H1,h1,h2⟩:=X34 h;obtain⟨H',h3,h4⟩:=ih _ _ _ h2;exact⟨H',.step hy (by rw[<-h1];exact h3),h4⟩
     grind
    grind
   grind
  grind
theorem X24.cutH {P:Program} {nt n0 n:Nat} {code:Code} {Q:Xl->St->Mu->Prop} {A:Nat->AV} {H H':Xw} {μ:Mu} (hc:Cut H H') (h:X24 P nt n0 code Q ⟨A,H',n⟩ μ):X24 P nt n0 code Q ⟨A,H,n⟩ μ:=by
 induction hc with
 |refl=>exact h
 |@step H H' q y m hy _ ih =>
  have h:=ih h;intro c0 H0 c act g hm;refine h c0 H0 c act (g.trunc hy m) ⟨hm.is,λp hp=>?_,hm.nodup,hm.ds⟩;obtain⟨a1,a2,a3,a4⟩:=hm.away p hp
  grind [upd,Xe]
inductive Fz:(Nat->AV)->Xw->(Nat->AV)->Xw->Prop
 |refl {A H}:Fz A H A H
 |step {A H A' H' t q y} (ht:A t=.ref q 0 y.es.length) (hy:H q=some y) (hf:∀ e∈y.es,∀ a∈e.cells,∃ v,a=.sc v) (h:Fz (upd A t (.list true y.es)) (upd H q none) A' H'):Fz A H A' H'
theorem X24.fz {P:Program} {nt n0 n:Nat} {code:Code} {Q:Xl->St->Mu->Prop} {A A':Nat->AV} {H H':Xw} {μ:Mu} (hc:Fz A H A' H') (h:X24 P nt n0 code Q ⟨A',H',n⟩ μ):X24 P nt n0 code Q ⟨A,H,n⟩ μ:=by
 induction hc with
 |refl=>exact h
 |@step A H A' H' t q y ht hy hf _ ih =>
  have h:=ih h;intro c0 H0 c act g hm R hR;obtain⟨c',hw,g',hfrz,hle,hρ,hSa,hSo⟩:=X32.frz g hy hf;rw[<-hw];refine h c0 H0 c' act ⟨g'.inv,g'.solo,λt'=>?_,λt'=>?_,g'.size,g'.reach,g'.le0⟩ ⟨λp hp=>(hm.is p hp).le (by rw[hw]) (hle _),λp hp=>?_,hm.nodup,hm.ds⟩ R hR
  ·show X0b c' false (upd A t (.list true y.es) t') _;by_cases e:t'=t
   ·subst e;rw[Xc];have:=g.frame t'
    grind
   ·rw[Xe _ _ e];exact g'.frame t'
  ·show(upd A t (.list true y.es) t').Ok _;by_cases e:t'=t
   ·subst e;rw[Xc];exact .list
   ·rw[Xe _ _ e];exact g'.ok t'
  ·obtain⟨a1,a2,a3,a4⟩:=hm.away p hp
   grind [upd,Xc,Xe]
def r3L (ops:List Oper):List Nat:=ops.filterMap λo=>match o.op with
 |.slice _ x _ (some _) (some _)=>match X0bu ops 8 x with
  |some (.tmp t)=>some t
  |_=>none
 |_=>none
def fzD (l:List Nat):FX->HX->(FX->HX->Prop)->Prop :=
 List.rec (motive:=λ_=>FX->HX->(FX->HX->Prop)->Prop) (λF H k=>k F H) (λt _ ih F H k=>match frX F t with
  |.ref q 0 len=>match hpX H q with
   |some y=>bif Nat.blt t 343&&(Nat.beq y.es.length len&&flB y.es) then fA (.list true y.es) λa=>Xg9 F (some t) a λF=>X35 H q none λH=>ih F H k else ih F H k
   |none=>ih F H k
  |_=>ih F H k) l
theorem X0d7:∀ (l:List Nat) (F:FX) (H:HX) (k:FX->HX->Prop),fzD l F H k->∃ F' H',Fz (frX F) (hpX H) (frX F') (hpX H')/\k F' H':=by
 intro l
 induction l with
 |nil=>intro F H k h;exact⟨F,H,.refl,h⟩
 |cons t l ih =>
  intro F H k h;have h:(match frX F t with
   |.ref q 0 len=>match hpX H q with
    |some y=>bif Nat.blt t 343&&(Nat.beq y.es.length len&&flB y.es) then fA (.list true y.es) λa=>Xg9 F (some t) a λF=>X35 H q none λH=>fzD l F H k else fzD l F H k
    |none=>fzD l F H k
   |_=>fzD l F H k):=h
  split at h
  ·rename_i q len ht;split at h
   ·rename_i y hy
    cases hc:(Nat.blt t 343&&(Nat.beq y.es.length len&&flB y.es)) with
    |false=>grind
    |true =>
     rw[hc,cond_true,Xah] at h;simp only[Bool.and_eq_true,Nat.beq_eq] at hc;obtain⟨c1,rfl,c3⟩:=hc;have c1:t<343:=by simp_all
     obtain⟨F1,e1,h⟩:=Xf7 (λt' ht'=>by grind) h;obtain⟨H1,e2,h⟩:=X34 h;obtain⟨F',H',h1,h2⟩:=ih _ _ _ h;refine⟨F',H',.step ht hy (X067 c3) ?_,h2⟩;rw[e1,e2] at h1;exact h1
   grind
  grind
def X9l (T:Ty) (X:Nat->Option (List AV->Option AV)) (rec:RecY) (nt fuel:Nat) (c:Code):CY :=
 Code.rec (motive:=λ_=>CY) (λ_ pe F H n k=>k .normal pe F H n)
  (λ_ ops draw yo pe F H n k=>Bool.rec (motive:=λ_=>Prop) (opsZ T (extR X (rec none)) yo nt ops ops.toList pe F H n λpe F H n=>k .normal pe F H n)
   (Bool.rec (motive:=λ_=>Prop) (stk 94) (cutD (evA (frX F)) ops.toList [] H λH=>Option.rec (motive:=λ_=>Prop) (fzD (r3L ops.toList) F H λF H=>hzK ops.toList F λhz=>drX T (rec none) hz nt n ops (X1e ops.toList) ((X1e ops.toList).zip (ops.toList.map hz)) ops.toList 0 F H [] λF H=>fN (n+ops.toList.length) λn=>k .normal pe F H n) (λ_=>drY T (rec none) nt ops pe F H n k) yo) (X8a 0 ops.toList)) draw)
  (λ_ _ iha ihb yo pe F H n k=>iha yo pe F H n λe pe F H n=>Xl.rec (motive:=λ_=>Prop) (ihb yo pe F H n k) (λi=>k (.exit i) pe F H n) (k .ret pe F H n) e)
  (λc _ _ iha ihb yo pe F H n k=>X09y (evA (frX F) c) (iha yo pe F H n k) (ihb yo pe F H n k))
  (λid _ ih yo pe F H n k=>ih yo pe F H n λe pe F H n=>Xl.rec (motive:=λ_=>Prop) (k .normal pe F H n) (λi=>Bool.rec (motive:=λ_=>Prop) (k (.exit i) pe F H n) (k .normal pe F H n) (Nat.beq i id)) (k .ret pe F H n) e)
  (λ_ ih yo pe F H n k=>X03m (ih yo) fuel pe F H n k)
  (λg ps ca cb iha ihb=>rfX rec nt g ps ca cb iha ihb)
  (λi _ pe F H n k=>k (.exit i) pe F H n)
  (λ_ ih yo pe F H n k=>ih yo pe F H n k) (λ_ _ pe F H n k=>k .normal pe F H n) (λ_ _ _ _ _ _ _=>stk 96) (λ_ pe F H n k=>k .ret pe F H n) (λ_ _ _ _ _ _ _=>stk 97) c
def Xue (P:Program) (rec:RecY):Prop:=∀ (yc:YC) f caps H n k d,YOk P (some yc) d->rec (some yc) f (sgn::caps) H n k ->
 ∃ fn code pe H' n',Xc9 P f fn code/\fn.results=#[]/\caps.length+1<=fn.ntmps/\k (encP pe) H' n'/\∀ b m r μr,RdOk d r ->
  X24 P fn.ntmps n code (λe s μ'=>(∀ id,e≠.exit id)/\μ'=Xq7 (some yc) d b m r pe μr/\s.H=hpX H'/\s.n=n') ⟨Xim (Xan b::caps),hpX H,n⟩ (Xq7 (some yc) d b m r .normal μr)
def Fix (c:Code) (yo:Option YC):Prop:=X21 c=false\/yo≠none
def EndZ (yo:Option YC) (d:Rd) (c:Code) (b m:Nat) (r:Loop) (μr:Mu) (e:Xl) (pe':Xl) (F':FX) (H':HX) (n':Nat):Xl->St->Mu->Prop :=
 λe2 s μ'=>e2=e/\(∃ μr',(Fix c yo->μr'=μr)/\μ'=Xq7 yo d b m r pe' μr')/\s=⟨sf yo b (frX F'),hpX H',n'⟩
def SemZ (P:Program) (yo:Option YC) (d:Rd) (nt:Nat) (c:Code) (pe:Xl) (F:FX) (H:HX) (n:Nat) (e:Xl) (pe':Xl) (F':FX) (H':HX) (n':Nat):Prop :=
 ∀ n0 b m r μr,(yo≠none->RdOk d r)->X24 P nt n0 c (EndZ yo d c b m r μr e pe' F' H' n') ⟨sf yo b (frX F),hpX H,n⟩ (Xq7 yo d b m r pe μr)
theorem EndZ.here {yo:Option YC} {d:Rd} {c:Code} {b m:Nat} {r:Loop} {μr:Mu} {e pe:Xl} {F:FX} {H:HX} {n:Nat}:EndZ yo d c b m r μr e pe F H n e ⟨sf yo b (frX F),hpX H,n⟩ (Xq7 yo d b m r pe μr) :=
 ⟨rfl,⟨μr,λ_=>rfl,rfl⟩,rfl⟩
theorem EndZ.on {P:Program} {yo:Option YC} {d:Rd} {nt n0:Nat} {c x y:Code} {b m:Nat} {r:Loop} {μr:Mu} {e pe:Xl} {F:FX} {H:HX} {n:Nat} {e' pe':Xl} {F':FX} {H':HX} {n':Nat} {μr1:Mu}
  (hx:Fix c yo->μr1=μr) (hy:Fix c yo->Fix y yo) (hin:yo≠none->RdOk d r) (h:SemZ P yo d nt y pe F H n e' pe' F' H' n') :
  X24 P nt n0 y (EndZ yo d c b m r μr e' pe' F' H' n') ⟨sf yo b (frX F),hpX H,n⟩ (Xq7 yo d b m r pe μr1):=by
 refine(h n0 b m r μr1 hin).mono ?_;rintro e2 s μ2 ⟨rfl,⟨μr2,hf,rfl⟩,rfl⟩;exact⟨rfl,⟨μr2,λhc=>(hf (hy hc)).trans (hx hc),rfl⟩,rfl⟩
inductive Xx0 (P:Program) (yo:Option YC) (d:Rd) (nt:Nat) (b:Code) (e:Xl) (pe':Xl) (F':FX) (H':HX) (n':Nat):Nat->Xl->FX->HX->Nat->Prop
 |more {m pe F H n pe1 F1 H1 n1} (h:SemZ P yo d nt b pe F H n .normal pe1 F1 H1 n1) (hs:Xx0 P yo d nt b e pe' F' H' n' m pe1 F1 H1 n1):Xx0 P yo d nt b e pe' F' H' n' (m+1) pe F H n
 |last {m pe F H n} (h:SemZ P yo d nt b pe F H n e pe' F' H' n') (hne:e≠.normal):Xx0 P yo d nt b e pe' F' H' n' (m+1) pe F H n
theorem Xx0.sem {P:Program} {yo:Option YC} {d:Rd} {nt:Nat} {c:Code} {e:Xl} {pe':Xl} {F':FX} {H':HX} {n':Nat} {k:Nat} {pe:Xl} {F:FX} {H:HX} {n:Nat} (h:Xx0 P yo d nt c e pe' F' H' n' k pe F H n) :
  ∀ n0 b m r μr,(yo≠none->RdOk d r)->X5x P nt n0 c (EndZ yo d c b m r μr e pe' F' H' n') ⟨sf yo b (frX F),hpX H,n⟩ (Xq7 yo d b m r pe μr):=by
 induction h with
 |more h _ ih =>
  intro n0 b m r μr hin;refine X5x.round ((h n0 b m r μr hin).mono ?_);rintro e2 s μ1 ⟨rfl,⟨μr1,hf,rfl⟩,rfl⟩;have:=ih n0 b m r μr1 hin;intro c0 H0 c act g hm R hR;have h2:=this c0 H0 c act g hm R hR;intro b' k cs hro;obtain⟨e,a',w',hq,harr⟩:=h2 b' k cs hro;obtain⟨c',s',ae,μ',e1,e2,e3,e4,e5,⟨μr2,e6,e7⟩,e8⟩:=hq;exact⟨e,a',w',⟨c',s',ae,μ',e1,e2,e3,e4,e5,⟨μr2,λhx=>(e6 hx).trans (hf hx),e7⟩,e8⟩,harr⟩
 |last h hne =>
  intro n0 b m r μr hin;refine X5x.round ((h n0 b m r μr hin).mono ?_);rintro e2 s μ1 ⟨rfl,hf,rfl⟩
  cases e2 with
  |normal=>grind
  |exit id=>trivial
  |ret=>trivial
theorem Xu4 {P:Program} {T:Ty} {X:Nat->Option (List AV->Option AV)} {rec:RecY} {nt fuel:Nat} (hm:P.follows .mixedOrders=true) (hnt:nt<=343) (hX:Xx1 P X) (hT:X6c P T) (hr:Xh2 P (rec none)) (hit:Xue P rec):∀ (code:Code) (yo:Option YC) (d:Rd) (pe:Xl) (F:FX) (H:HX) (n:Nat) (k:KZ),YOk P yo d->X9l T X rec nt fuel code yo pe F H n k ->
  ∃ e pe' F' H' n',k e pe' F' H' n'/\SemZ P yo d nt code pe F H n e pe' F' H' n':=by
 intro code
 induction code with
 |skip=>intro yo d pe F H n k hy h;exact⟨.normal,pe,F,H,n,h,λn0 b m r μr _=>X24.skip .here⟩
 |label l=>intro yo d pe F H n k hy h;exact⟨.normal,pe,F,H,n,h,λn0 b m r μr _=>X24.label .here⟩
 |exit id=>intro yo d pe F H n k hy h;exact⟨.exit id,pe,F,H,n,h,λn0 b m r μr _=>X24.exit .here⟩
 |ret=>intro yo d pe F H n k hy h;exact⟨.ret,pe,F,H,n,h,λn0 b m r μr _=>X24.ret .here⟩
 |seq x y iha ihb =>
  intro yo d pe F H n k hy h;have h:X9l T X rec nt fuel x yo pe F H n (λe pe F H n=>Xl.rec (motive:=λ_=>Prop) (X9l T X rec nt fuel y yo pe F H n k) (λi=>k (.exit i) pe F H n) (k .ret pe F H n) e):=h;obtain⟨e,pe1,F1,H1,n1,h1,s1⟩:=iha _ _ _ _ _ _ _ hy h;have fx:Fix (.seq x y) yo->Fix x yo:=λhf=>hf.imp (λh=>by grind [X21,Bool.or_eq_false_iff]) id;have fy:Fix (.seq x y) yo->Fix y yo:=λhf=>hf.imp (λh=>by grind [X21,Bool.or_eq_false_iff]) id
  cases e with
  |normal =>
   obtain⟨e,pe2,F2,H2,n2,h2,s2⟩:=ihb _ _ _ _ _ _ _ hy h1;refine⟨e,pe2,F2,H2,n2,h2,λn0 b m r μr hin=>X24.seq ((s1 n0 b m r μr hin).mono ?_)⟩;rintro e' s μ1 ⟨rfl,⟨μr1,hf,rfl⟩,rfl⟩;exact EndZ.on (x:=x) (e:=e) (λhc=>hf (fx hc)) fy hin s2
  |exit i =>
   refine⟨.exit i,pe1,F1,H1,n1,h1,λn0 b m r μr hin=>X24.seq ((s1 n0 b m r μr hin).mono ?_)⟩;rintro e' s μ1 ⟨rfl,⟨μr1,hf,rfl⟩,rfl⟩;exact⟨rfl,⟨μr1,λhx=>hf (fx hx),rfl⟩,rfl⟩
  |ret =>
   refine⟨.ret,pe1,F1,H1,n1,h1,λn0 b m r μr hin=>X24.seq ((s1 n0 b m r μr hin).mono ?_)⟩;rintro e' s μ1 ⟨rfl,⟨μr1,hf,rfl⟩,rfl⟩;exact⟨rfl,⟨μr1,λhx=>hf (fx hx),rfl⟩,rfl⟩
 |cond x p q iha ihb =>
  intro yo d pe F H n k hy h;have h:X09y (evA (frX F) x) (X9l T X rec nt fuel p yo pe F H n k) (X9l T X rec nt fuel q yo pe F H n k):=h;have fx:Fix (.cond x p q) yo->Fix p yo:=λhf=>hf.imp (λh=>by grind [X21,Bool.or_eq_false_iff]) id;have fy:Fix (.cond x p q) yo->Fix q yo:=λhf=>hf.imp (λh=>by grind [X21,Bool.or_eq_false_iff]) id;rcases X04y h with ⟨hx,h⟩|⟨hx,h⟩
  ·obtain⟨e,pe1,F1,H1,n1,h1,s1⟩:=iha _ _ _ _ _ _ _ hy h;refine⟨e,pe1,F1,H1,n1,h1,λn0 b m r μr hin=>X24.cond (s:=⟨sf yo b (frX F),hpX H,n⟩) (t:=true) ?_ (λ_=>(s1 n0 b m r μr hin).mono ?_) (λh=>by cases h)⟩
   ·grind [evA,sf,frX,X00c]
   ·rintro e' s μ1 ⟨rfl,⟨μr1,hf,rfl⟩,rfl⟩;exact⟨rfl,⟨μr1,λhx=>hf (fx hx),rfl⟩,rfl⟩
  ·obtain⟨e,pe1,F1,H1,n1,h1,s1⟩:=ihb _ _ _ _ _ _ _ hy h;refine⟨e,pe1,F1,H1,n1,h1,λn0 b m r μr hin=>X24.cond (s:=⟨sf yo b (frX F),hpX H,n⟩) (t:=false) ?_ (λh=>by cases h) (λ_=>(s1 n0 b m r μr hin).mono ?_)⟩
   ·grind [evA,sf,frX,X00c]
   ·rintro e' s μ1 ⟨rfl,⟨μr1,hf,rfl⟩,rfl⟩;exact⟨rfl,⟨μr1,λhx=>hf (fy hx),rfl⟩,rfl⟩
 |block id c ih =>
  intro yo d pe F H n k hy h;have h:X9l T X rec nt fuel c yo pe F H n (λe pe F H n=>Xl.rec (motive:=λ_=>Prop) (k .normal pe F H n) (λi=>Bool.rec (motive:=λ_=>Prop) (k (.exit i) pe F H n) (k .normal pe F H n) (Nat.beq i id)) (k .ret pe F H n) e):=h;obtain⟨e,pe1,F1,H1,n1,h1,s1⟩:=ih _ _ _ _ _ _ _ hy h
  cases e with
  |normal =>
   refine⟨.normal,pe1,F1,H1,n1,h1,λn0 b m r μr hin=>X24.block ((s1 n0 b m r μr hin).mono ?_)⟩;rintro e' s μ1 ⟨rfl,hf,rfl⟩;trivial
  |ret =>
   refine⟨.ret,pe1,F1,H1,n1,h1,λn0 b m r μr hin=>X24.block ((s1 n0 b m r μr hin).mono ?_)⟩;rintro e' s μ1 ⟨rfl,hf,rfl⟩;trivial
  |exit i =>
   have h1:Bool.rec (motive:=λ_=>Prop) (k (.exit i) pe1 F1 H1 n1) (k .normal pe1 F1 H1 n1) (Nat.beq i id):=h1
   cases hb:Nat.beq i id with
   |true =>
    rw[hb] at h1;refine⟨.normal,pe1,F1,H1,n1,h1,λn0 b m r μr hin=>X24.block ((s1 n0 b m r μr hin).mono ?_)⟩;rintro e' s μ1 ⟨rfl,hf,rfl⟩;show bif Nat.beq i id then _ else _;rw[hb];trivial
   |false =>
    rw[hb] at h1;refine⟨.exit i,pe1,F1,H1,n1,h1,λn0 b m r μr hin=>X24.block ((s1 n0 b m r μr hin).mono ?_)⟩;rintro e' s μ1 ⟨rfl,hf,rfl⟩;show bif Nat.beq i id then _ else _;rw[hb];trivial
 |loop c ih =>
  intro yo d pe F H n k hy h;have h:X03m (X9l T X rec nt fuel c yo) fuel pe F H n k:=h;have key:∀ m pe F H n,X03m (X9l T X rec nt fuel c yo) m pe F H n k->∃ e pe' F' H' n',k e pe' F' H' n'/\Xx0 P yo d nt c e pe' F' H' n' m pe F H n:=by
   intro m
   induction m with
   |zero=>intro pe F H n h;cases h
   |succ m ihm =>
    intro pe F H n h;have h:X9l T X rec nt fuel c yo pe F H n (λe pe F H n=>Xl.rec (motive:=λ_=>Prop) (X03m (X9l T X rec nt fuel c yo) m pe F H n k) (λi=>k (.exit i) pe F H n) (k .ret pe F H n) e):=h;obtain⟨e,pe1,F1,H1,n1,h1,s1⟩:=ih _ _ _ _ _ _ _ hy h
    cases e with
    |normal =>
     obtain⟨e,pe2,F2,H2,n2,h2,s2⟩:=ihm _ _ _ _ h1;exact⟨e,pe2,F2,H2,n2,h2,.more s1 s2⟩
    |exit i=>exact⟨_,pe1,F1,H1,n1,h1,.last s1 (by simp)⟩
    |ret=>exact⟨_,pe1,F1,H1,n1,h1,.last s1 (by simp)⟩
  obtain⟨e,pe',F',H',n',hk,hl⟩:=key _ _ _ _ _ h;exact⟨e,pe',F',H',n',hk,λn0 b m r μr hin=>X24.loop (hl.sem n0 b m r μr hin)⟩
 |scope c ih =>
  intro yo d pe F H n k hy h;obtain⟨e,pe1,F1,H1,n1,h1,s1⟩:=ih yo d pe F H n k hy h;refine⟨e,pe1,F1,H1,n1,h1,λn0 b m r μr hin=>X24.scope ((s1 n0 b m r μr hin).mono ?_)⟩;rintro e' s μ1 ⟨rfl,⟨μr1,hf,rfl⟩,rfl⟩;exact⟨rfl,⟨μr1,λhx=>hf (hx.imp (λh=>by cases h) id),rfl⟩,rfl⟩
 |region id ops draw =>
  intro yo d pe F H n k hy h
  cases draw with
  |false =>
   have h:opsZ T (extR X (rec none)) yo nt ops ops.toList pe F H n (λpe F H n=>k .normal pe F H n):=h;obtain⟨pe',F',H',n',hk,hs⟩:=X082 hnt hT (X09f hX hr) hy _ _ _ _ _ _ h;refine⟨.normal,pe',F',H',n',hk,λn0 b m r μr hin=>X24.region ?_⟩;intro c0 H0 c act g hmo Qx hQ;exact hs n0 b m r μr hin c0 H0 c act g hmo Qx λc' s' act' μ' g' hm' hq=>hQ c' s' act' μ' g' hm' ⟨rfl,⟨μr,λ_=>rfl,hq.1⟩,hq.2⟩
  |true =>
   cases hp:X8a 0 ops.toList with
   |false =>
    have h:Bool.rec (motive:=λ_=>Prop) (stk 94) (cutD (evA (frX F)) ops.toList [] H λH=>Option.rec (motive:=λ_=>Prop) (fzD (r3L ops.toList) F H λF H=>hzK ops.toList F λhz=>drX T (rec none) hz nt n ops (X1e ops.toList) ((X1e ops.toList).zip (ops.toList.map hz)) ops.toList 0 F H [] λF H=>fN (n+ops.toList.length) λn=>k .normal pe F H n) (λ_=>drY T (rec none) nt ops pe F H n k) yo) (X8a 0 ops.toList):=h;rw[hp] at h;cases h
   |true =>
    have h:Bool.rec (motive:=λ_=>Prop) (stk 94) (cutD (evA (frX F)) ops.toList [] H λH=>Option.rec (motive:=λ_=>Prop) (fzD (r3L ops.toList) F H λF H=>hzK ops.toList F λhz=>drX T (rec none) hz nt n ops (X1e ops.toList) ((X1e ops.toList).zip (ops.toList.map hz)) ops.toList 0 F H [] λF H=>fN (n+ops.toList.length) λn=>k .normal pe F H n) (λ_=>drY T (rec none) nt ops pe F H n k) yo) (X8a 0 ops.toList):=h;rw[hp] at h;obtain⟨Hc,hcut,h⟩:=X09t _ _ _ _ h
    cases yo with
    |some y =>
     have h:drY T (rec none) nt ops pe F Hc n k:=h;unfold drY at h
     cases hds:Xsf F ops.toList with
     |false=>rw[hds] at h;cases h
     |true =>
      rw[hds] at h;obtain⟨F0,h,hF0⟩:=X0a3 343 _ _ (Nat.le_refl _) h;obtain⟨hz,h⟩:=X063 h;obtain⟨F1,H',h,hrun⟩:=X06g hnt hr _ _ _ _ _ _ h;obtain⟨F2,hk,hF2,hno⟩:=X07o 343 _ _ (Nat.le_refl _) h;rw[X5d] at hk;have lo:∀ t,isG (frX F t)=true->Nat.blt t 343=true:=by
       intro t ht
       cases hb:Nat.blt t 343 with
       |true=>rfl
       |false =>
        rw[Xm4] at ht;have:Nat.ble 343 t=true:=by
         have h1:¬ Nat.blt t 343=true:=by rw[hb];simp
         simp_all
        rw[this] at ht;cases ht
      refine⟨.normal,pe,F2,H',_,hk,λn0 b m r μr _=>X24.cutH hcut (X24.of (Xq5.drawnK (A:=sf (some y) b (frX F)) (A0:=frX F0) (keep:=λt=>isG (frX F t)) hm hT hp (X04r _ hds) (λt=>?_) hrun ⟨rfl,⟨μr,λ_=>rfl,rfl⟩,?_⟩))⟩
      ·rw[hF0];show _=sfA b (frX F) t\/_;unfold sfA
       grind
      ·congr 1
       funext t
       show(bif isG (frX F t) then sfA b (frX F) t else frX F1 t)=sfA b (frX F2) t;unfold sfA;rw[hF2]
       cases hg:isG (frX F t) with
       |true=>rw[lo t hg];rfl
       |false =>
        rw[Bool.and_false,cond_false,cond_false]
        cases hb:Nat.blt t 343 with
        |true=>simp_all
        |false =>
         have:frX F1 t=.sc undef:=by
          rw[Xm4];have:Nat.ble 343 t=true:=by
           have h1:¬ Nat.blt t 343=true:=by rw[hb];simp
           simp_all
          grind
         rw[this];rfl
    |none =>
     obtain⟨Ff,Hf,hfz,h⟩:=X0d7 _ _ _ _ h;obtain⟨hz,h⟩:=X063 h;obtain⟨F',H',hk,hrun⟩:=X06g hnt hr _ _ _ _ _ _ h;rw[X5d] at hk;exact⟨.normal,pe,F',H',_,hk,λn0 b m r μr _=>X24.cutH hcut (X24.fz hfz (X24.of (Xq5.drawn (s:=⟨frX Ff,hpX Hf,n⟩) hm hT hp hrun ⟨rfl,⟨μr,λ_=>rfl,rfl⟩,rfl⟩)))⟩
 |rangeFunc g ps ca cb iha ihb =>
  intro yo d pe F H n k hy h;have h:rfX rec nt g ps ca cb (X9l T X rec nt fuel ca) (X9l T X rec nt fuel cb) yo pe F H n k:=h
  cases yo with
  |some y=>cases h
  |none =>
   have h:(match evA (frX F) g with
    |.fn gf caps=>Bool.rec (motive:=λ_=>Prop) (stk 131) (rec (some (rndX nt ps.toList (X9l T X rec nt fuel ca) (X9l T X rec nt fuel cb) F)) gf (sgn::caps) H n λa H n=>decP a λe=>k e pe F H n) (Bool.not (X21 ca)&&(Bool.not (X21 cb)&&X01g nt ps.toList))
    |a=>StkA 132 a):=h
   split at h
   ·rename_i gf caps hg
    cases hc:(Bool.not (X21 ca)&&(Bool.not (X21 cb)&&X01g nt ps.toList)) with
    |false=>rw[hc] at h;cases h
    |true =>
     rw[hc] at h;simp only[Bool.and_eq_true,Bool.not_eq_true'] at hc;obtain⟨c1,c2,c3⟩:=hc;let d2:Rd:=⟨ps,ca,cb,nt,frX F⟩
     have hyc:YOk P (some (rndX nt ps.toList (X9l T X rec nt fuel ca) (X9l T X rec nt fuel cb) F)) d2:=by
      intro yc he;cases he
      intro as H n k h;have h:Bool.rec (motive:=λ_=>Prop) (stk 124) (zipX ps.toList as F λF=>X9l T X rec nt fuel ca none .normal F H n λe _ F H n=>nrm e (X9l T X rec nt fuel cb none .normal F H n λe _ _ H n=>k e H n)) (Nat.beq as.length ps.toList.length):=h
      cases hl:Nat.beq as.length ps.toList.length with
      |false=>rw[hl] at h;cases h
      |true =>
       rw[hl] at h;obtain⟨F1,hF,h⟩:=X06k _ _ _ _ h;obtain⟨e,pe2,F2,H2,n2,h,s1⟩:=iha none d2 _ _ _ _ _ (λ_ h=>by cases h) h;obtain⟨rfl,h⟩:=X05v h;obtain⟨e,pe3,F3,H3,n3,h,s2⟩:=ihb none d2 _ _ _ _ _ (λ_ h=>by cases h) h;refine⟨by simpa using hl,X055 _ c3,c1,c2,e,H3,n3,h,?_⟩;have r0:∀ r,((none:Option YC)≠none->RdOk d2 r):=λr h=>absurd rfl h;have e1:=s1 n 0 0 { state:=.ready,pending:=none,fn:=0,tmps:=#[],params:=ps,assign:=ca,body:=cb,defers:=0 } [] (r0 _);rw[show sf none 0 (frX F1)=zipA ps.toList as (frX F) from hF] at e1;refine e1.mono ?_;rintro e1 s μ1 ⟨rfl,⟨μr1,hf,rfl⟩,rfl⟩;refine⟨rfl,hf (.inl c1),(s2 n 0 0 { state:=.ready,pending:=none,fn:=0,tmps:=#[],params:=ps,assign:=ca,body:=cb,defers:=0 } [] (r0 _)).mono ?_⟩;rintro e2 s μ1 ⟨rfl,hf,rfl⟩
       grind
     obtain⟨fn,codeI,pe1,H',n',hfn,hres,hle,hk,hs⟩:=hit _ _ _ _ _ _ d2 hyc h;rw[X00u] at hk;refine⟨pe1,pe,F,H',n',hk,λn0 b m r μr _=>?_⟩;refine X24.rangeFunc hg hfn rfl hle hres ?_;intro b D r r1 r2 r3 r4 r5;have:=hs b n r [(D,.blk (.deferred (some [])))] ⟨r1,r2,r3,r4,r5⟩;rw[show Xq7 (some (rndX nt ps.toList (X9l T X rec nt fuel ca) (X9l T X rec nt fuel cb) F)) d2 b n r .normal [(D,.blk (.deferred (some [])))]=[(b,.loop r nt n (frX F)),(D,.blk (.deferred (some [])))] from by show[(b,MuE.loop (Xq0 r .normal) nt n (frX F)),_]=_;rw[Xj4 r1 r2]] at this;refine this.mono ?_;rintro e s μ1 ⟨he,rfl,e1,e2⟩;refine⟨he,pe1,rfl,rfl,⟨(D,.mark)::μr,λhf=>?_,rfl⟩,?_⟩
     ·rcases hf with hf|hf
      ·cases hf
      ·exact absurd rfl hf
     ·rw[e1,e2]
   ·cases h
 |_=>intro yo d pe F H n k hy h;cases h
def noG (l:List AV):Bool:=List.rec (motive:=λ_=>Bool) true (λa _ ih=>Bool.rec (motive:=λ_=>Bool) ih false (isG a)) l
theorem X0ce:∀ l:List AV,noG l=true->∀ a∈l,isG a=false:=by
 intro l
 induction l with
 |nil=>grind
 |cons b l ih =>
  intro h a ha;have h:Bool.rec (motive:=λ_=>Bool) (noG l) false (isG b)=true:=h
  cases hb:isG b with
  |true=>simp_all
  |false =>
   rw[hb] at h
   grind
def retY (T:Ty) (l:List ResultVar) (yo:Option YC) (pe:Xl) (F:FX) (H:HX) (n:Nat) (k:AV->HX->Nat->Prop):Prop :=
 Option.rec (motive:=λ_=>Prop) (retX T l F H n k) (λ_=>List.rec (motive:=λ_=>Prop) (k (encP pe) H n) (λ_ _ _=>stk 141) l) yo
def X0ij (as:List AV) (yo:Option YC):Bool:=Option.rec (motive:=λ_=>Bool) true (λ_=>noG as.tail) yo
def Xul (T:Ty) (X:Nat->Option (List AV->Option AV)) (E:Env) (fuel:Nat) (rec:RecY):RecY:=λyo f as H n k =>
  match E f with
  |some (fn,code)=>Bool.rec (motive:=λ_=>Prop) (stk 103) (argX as 0 f4 λF=>X9l T X rec fn.ntmps fuel code yo .normal F H n λe pe F H n =>
    Xl.rec (motive:=λ_=>Prop) (retY T fn.results.toList yo pe F H n k) (λ_=>stk 104) (retY T fn.results.toList yo pe F H n k) e) (X0ij as yo&&(Nat.ble as.length fn.ntmps&&Nat.ble fn.ntmps 343))
  |none=>stk (1000+f)
abbrev Xny:=List (List AV×AV)
def X04m (l:Xny) (bs:List AV):Option AV :=
 List.rec (motive:=λ_=>Option AV) none (λp _ ih=>Bool.rec (motive:=λ_=>Option AV) ih (some p.2) (eqL (eqA 60) p.1 bs)) l
theorem Xtz {bs:List AV} {r:AV}:∀ l:Xny,X04m l bs=some r->(bs,r)∈l:=by
 intro l
 induction l with
 |nil=>intro h;cases h
 |cons p l ih =>
  intro h;have h:Bool.rec (motive:=λ_=>Option AV) (X04m l bs) (some p.2) (eqL (eqA 60) p.1 bs)=some r:=h
  cases hb:eqL (eqA 60) p.1 bs with
  |false=>simp_all
  |true =>
   rw[hb] at h
   grind [Xu1,X00f,List.mem_cons_self]
def meX (M:Nat->Option Xny) (nx:Xd6):Xd6:=λf as H n k =>
 match M f with
 |none=>nx f as H n k
 |some l=>match Xr7 (cvF false noH 100) as with
  |some bs=>fDs bs λbs=>match X04m l bs with
   |none=>nx f as H n k
   |some r=>k r H n
  |none=>match Xr7 (cvF false (hpX H) 100) as with
   |none=>nx f as H n k
   |some bs=>fDs bs λbs=>match X04m l bs with
    |none=>nx f as H n k
    |some r=>Bool.rec (motive:=λ_=>Prop) (nx f as H n k) (k r H n) (ownF 60 r)
def Xud (P:Program) (M:Nat->Option Xny):Prop:=∀ f l,M f=some l->∀ p∈l,X15 P f p.1 p.2
theorem X0ci {P:Program} {M:Nat->Option Xny} {nx:Xd6} (hM:Xud P M) (hn:Xh2 P nx):Xh2 P (meX M nx):=by
 intro f as H n k h;unfold meX at h;split at h
 ·exact hn _ _ _ _ _ h
 ·rename_i l hf;split at h
  ·rename_i bs hm;rw[Xm8] at h;split at h
   ·exact hn _ _ _ _ _ h
   ·rename_i r hr;have h1:=hM f l hf _ (Xtz l hr);obtain⟨m1,m2⟩:=X85 hm;exact⟨r,H,n,HC.of_pure (H:=hpX H) (Hr:=noH) (n:=n) h1 ⟨m1,λi a b ha hb=>Xhm _ _ _ (m2 i a b ha hb)⟩ (λ_ _ h=>by cases h) (.inr λ_=>rfl),h⟩
  ·split at h
   ·exact hn _ _ _ _ _ h
   ·rename_i bs hm;rw[Xm8] at h;split at h
    ·exact hn _ _ _ _ _ h
    ·rename_i r hr;have h1:=hM f l hf _ (Xtz l hr);obtain⟨m1,m2⟩:=X85 hm
     cases ho:ownF 60 r with
     |false=>rw[ho] at h;exact hn _ _ _ _ _ h
     |true =>
      rw[ho] at h;exact⟨r,H,n,HC.of_pure (H:=hpX H) (n:=n) h1 ⟨m1,λi a b ha hb=>Xhm _ _ _ (m2 i a b ha hb)⟩ (λ_ _ h=>h) (.inl (Xyi _ _ ho)),h⟩
def AllM (P:Program) (f:Nat):Xny->Prop
 |[]=>True
 |p::l=>X15 P f p.1 p.2/\AllM P f l
theorem X0af {P:Program} {f:Nat}:∀ l:Xny,AllM P f l->∀ p∈l,X15 P f p.1 p.2:=by
 intro l
 induction l with
 |nil=>grind
 |cons q l ih =>
  intro h p hp;rcases List.mem_cons.1 hp with rfl|hp
  ·exact h.1
  ·exact ih h.2 p hp
def all2 (f:AV->AV->Bool):List AV->List AV->Bool
 |[],[]=>true
 |a::l,b::m=>f a b&&all2 f l m
 |_,_=>false
theorem Xnv {f:AV->AV->Bool}:∀ {l m:List AV},all2 f l m=true->l.length=m.length/\∀ (i:Nat) a b,l[i]?=some a->m[i]?=some b->f a b=true:=by
 intro l
 induction l with
 |nil=>intro m h;cases m with
  |nil=>grind
  |cons b m=>cases h
 |cons a l ih=>intro m h;cases m with
  |nil=>cases h
  |cons b m =>
   simp only[all2,Bool.and_eq_true] at h
   grind
def wkB:Nat->AV->AV->Bool
 |0,_,_=>false
 |n+1,a,b=>match a,b with
  |.list o es,.list o' es'=>(!o'||o)&&all2 (λe e'=>all2 (wkB n) e.cells e'.cells) es es'
  |.agg cs,.agg cs'=>all2 (wkB n) cs cs'
  |.tup cs,.tup cs'=>all2 (wkB n) cs cs'
  |.nils,.list _ []=>true
  |a,b=>eqA 60 a b
theorem X0be {c:Ctx}:∀ (n:Nat) (a b:AV) (d:Bool) (v:Value),wkB n a b=true->X0b c d a v->X0b c d b v:=by
 intro n
 induction n with
 |zero=>intro a b d v h;cases h
 |succ n ih =>
  intro a b d v h hr;unfold wkB at h;split at h
  ·rename_i o es o' es';simp only[Bool.and_eq_true,Bool.or_eq_true,Bool.not_eq_true'] at h;obtain⟨ho,h⟩:=h;obtain⟨hl,hE⟩:=Xnv h;have hback:∀ (i:Nat) e',es'[i]?=some e'->∃ e,es[i]?=some e/\e.cells.length=e'.cells.length/\∀ (k:Nat) x',e'.cells[k]?=some x'->∃ x,e.cells[k]?=some x/\wkB n x x'=true:=λi e' he'=>by
    have hlt:i<es.length:=by rw[hl];exact(List.getElem?_eq_some_iff.1 he').1
    obtain⟨g1,g2⟩:=Xnv (hE i _ e' (List.getElem?_eq_getElem hlt) he');refine⟨_,List.getElem?_eq_getElem hlt,g1,λk x' hx'=>?_⟩;have hk:k<es[i].cells.length:=by rw[g1];exact(List.getElem?_eq_some_iff.1 hx').1
    exact⟨_,List.getElem?_eq_getElem hk,g2 k _ x' (List.getElem?_eq_getElem hk) hx'⟩
   cases hr with
   |listNil =>
    have:es'=[]:=List.eq_nil_of_length_eq_zero (by rw[<-hl];rfl);subst this;exact .listNil
   |@list _ _ _ _ _ _ esz _ vf hne hS hn hcap hsz hcell h1 h =>
    refine .list (esz:=esz) vf (λe=>hne (List.eq_nil_of_length_eq_zero (by rw[hl,e];rfl))) ?_ (hn.trans hl) (by rw[<-hl];exact hcap) (λi e' he'=>?_) (λi e' k x' he' hx'=>?_) (λi e' k x' he' hx'=>?_) (λi e' k x' he' hx'=>?_)
    ·rcases ho with ho|ho
     ·subst ho;exact hS.elim (λq=>.inl ⟨rfl,q.2⟩) .inr
     ·subst ho;exact hS.elim (λq=>by cases q.1) .inr
    ·obtain⟨e,he,g,_⟩:=hback i e' he';rw[<-g];exact hsz i e he
    ·obtain⟨e,he,_,g⟩:=hback i e' he';obtain⟨x,hx,_⟩:=g k x' hx';exact hcell i e k x he hx
    ·obtain⟨e,he,_,g⟩:=hback i e' he';obtain⟨x,hx,_⟩:=g k x' hx';exact h1 i e k x he hx
    ·obtain⟨e,he,_,g⟩:=hback i e' he';obtain⟨x,hx,hw⟩:=g k x' hx';exact ih x x' true _ hw (h i e k x he hx)
  ·rename_i cs cs';obtain⟨hl,hE⟩:=Xnv h
   cases hr with
   |agg hls hoc hrl =>
    refine .agg (hl.symm.trans hls) hoc λi x' v hx' hv=>?_
    grind
  ·rename_i cs cs';obtain⟨hl,hE⟩:=Xnv h
   cases hr with
   |tup hls hrl =>
    refine .tup (hl.symm.trans hls) λi x' v hx' hv=>?_
    grind
  ·obtain⟨p,rfl⟩:=hr.nils_inv;exact .listNil
  ·rw[<-X00f 60 _ _ h];exact hr
theorem X15.weaken {P:Program} {f:Nat} {as:List AV} {r r':AV} (hp:X15 P f as r) (h:wkB 100 r r'=true):X15 P f as r' :=
 ⟨hp.1,λw S vs hS hG hv=>(hp.2 w S vs hS hG hv).mono λ_ _ ⟨v,he,hr,hb⟩=>⟨v,he,X0be _ _ _ _ _ h hr,hb⟩⟩
def wkO (a:Option AV) (r:AV):Bool:=match a with
 |some a=>wkB 100 a r
 |none=>false
theorem X0bd {a:Option AV} {r:AV} (h:wkO a r=true):∃ a',a=some a'/\wkB 100 a' r=true:=by
 cases a with
 |none=>cases h
 |some a=>exact⟨a,rfl,h⟩
def callM (T:Ty) (X:Nat->Option (List AV->Option AV)) (E:Env) (M:Nat->Option Xny) (fuel d:Nat):RecY :=
 Nat.rec (motive:=λ_=>RecY) (λ_ _ _ _ _ _=>stk 102) (λ_ ih yo=>Option.rec (motive:=λ_=>Xd6) (meX M (Xul T X E fuel ih none)) (λyc=>Xul T X E fuel ih (some yc)) yo) d
theorem Xy3 {P:Program} {T:Ty} {l:List ResultVar} {F:FX} {H:HX} {n:Nat} {k:AV->HX->Nat->Prop} (h:retX T l F H n k):∃ r,k r H n/\∃ rs,Xey T ⟨frX F,hpX H,n⟩ l rs/\Xdw rs=r:=by
 unfold retX at h;split at h
 ·rename_i rs hrs;rw[X004 Xah,X89] at h;exact⟨_,h,rs,X07s (s:=⟨frX F,hpX H,n⟩) _ _ hrs,rfl⟩
 ·cases h
theorem HC.of_bodyA {P:Program} {T:Ty} (hT:X6c P T) {f:Nat} {fn:Func} {code:Code} (hfn:Xc9 P f fn code) {as:List AV} {H:Xw} {n nt:Nat} {K:AV->Xw->Nat->Prop} (hnt:fn.ntmps=nt)
  (hle:as.length<=nt) (h:X24 P nt n code (retM T fn K) ⟨Xim as,H,n⟩ []):HC P f as H n K:=by
 refine⟨⟨fn,code,hfn⟩,λc vs hI hs hv ho=>?_⟩;have g:X32 nt c H n c ⟨Xim as,H,n⟩ { tmps:=vs++Array.replicate (fn.ntmps - vs.size) undef,defers:=[] }:=by
  refine⟨hI,hs,λt=>Xb4 hv _ t,λt=>Xkk ho t,?_,.refl c H n,Nat.le_refl _⟩;have:=hv.len
  grind
 refine Xbv hfn g h ?_;intro e s' μ hq;have fin:(∃ rs,Xey T s' fn.results.toList rs/\K (Xdw rs) s'.H s'.n)->∀ c' act',X32 nt c H n c' s' act'->∃ v,(results fn act'.tmps).run P c'.w=.ok v c'.w/\∃ v' r H' n' c2,K r H' n'/\Ending.returned v=.returned v'/\c2.w=c'.w/\c.Le (·<n) c2/\c2.Sa=c.Sa/\(∀ b,c2.So b->c.So b\/c.w.heap.size<=b\/∃ o x,H o=some x/\(c.ρ o).blk=b) /\
   Fr c H c'.w/\X88 c H c2 H'/\Inv c2 H' (·<n')/\(∀ o x,H' o=some x->x.solo=true/\x.spent=false)/\n<=n'/\X0b c2 false r v'/\r.Ok (·<n'):=by
  rintro⟨rs,hrs,hk⟩ c' act' g';obtain⟨v,h1,h2,h3⟩:=Xy4 hT g' hrs;exact⟨v,h1,v,_,s'.H,s'.n,c',hk,rfl,rfl,g'.reach.le,g'.reach.sa,g'.reach.so2,g'.reach.fr,g'.reach.own,g'.inv,g'.solo,g'.le0,h2,h3⟩
 cases e with
 |exit id=>exact hq.elim
 |normal=>exact⟨(λ_ h=>by cases h),fin hq⟩
 |ret=>exact⟨(λ_ h=>by cases h),fin hq⟩
theorem Xt1 {P:Program} {T:Ty} {X:Nat->Option (List AV->Option AV)} {E:Env} {fuel:Nat} {rec:RecY} (hm:P.follows .mixedOrders=true) (hX:Xx1 P X) (hT:X6c P T) (hE:X01m P E) (ihr:Xh2 P (rec none)) (ihi:Xue P rec):Xh2 P (Xul T X E fuel rec none)/\Xue P (Xul T X E fuel rec):=by
  refine⟨λf as H n k h=>?_,λyc f caps H n k d hy h=>?_⟩
  ·have h:(match E f with
    |some (fn,code)=>Bool.rec (motive:=λ_=>Prop) (stk 103) (argX as 0 f4 λF=>X9l T X rec fn.ntmps fuel code none .normal F H n λe _ F H n =>
      Xl.rec (motive:=λ_=>Prop) (retX T fn.results.toList F H n k) (λ_=>stk 104) (retX T fn.results.toList F H n k) e) (true&&(Nat.ble as.length fn.ntmps&&Nat.ble fn.ntmps 343))
    |none=>stk (1000+f)):=h
   split at h
   ·rename_i fn code hf
    cases hle:(true&&(Nat.ble as.length fn.ntmps&&Nat.ble fn.ntmps 343)) with
    |false=>rw[hle] at h;cases h
    |true =>
     rw[hle] at h;simp only[Bool.true_and,Bool.and_eq_true,Nat.ble_eq] at hle;obtain⟨F0,h,hF0⟩:=X01d om h;obtain⟨e,pe,F',H',n',h1,hsem⟩:=Xu4 hm hle.2 hX hT ihr ihi code none ⟨#[],.skip,.skip,0,λ_=>.junk⟩ _ _ _ _ _ (λ_ h=>by cases h) h;have hs:=hsem n 0 0 { state:=.ready,pending:=none,fn:=0,tmps:=#[],params:=#[],assign:=.skip,body:=.skip,defers:=0 } [] (λh=>absurd rfl h);rw[show sf none 0 (frX F0)=Xim as from hF0] at hs
     cases e with
     |exit i=>cases h1
     |normal =>
      obtain⟨r,hk,rs,hrs,hpk⟩:=Xy3 (P:=P) h1;refine⟨r,H',n',?_,hk⟩;refine HC.of_bodyA hT (hE _ _ _ hf) rfl hle.1 (hs.mono ?_);rintro e' s' μ' ⟨rfl,_,rfl⟩;exact⟨rs,hrs,hpk,rfl,rfl⟩
     |ret =>
      obtain⟨r,hk,rs,hrs,hpk⟩:=Xy3 (P:=P) h1;refine⟨r,H',n',?_,hk⟩;refine HC.of_bodyA hT (hE _ _ _ hf) rfl hle.1 (hs.mono ?_);rintro e' s' μ' ⟨rfl,_,rfl⟩;exact⟨rs,hrs,hpk,rfl,rfl⟩
   ·cases h
  ·have h:(match E f with
    |some (fn,code)=>Bool.rec (motive:=λ_=>Prop) (stk 103) (argX (sgn::caps) 0 f4 λF=>X9l T X rec fn.ntmps fuel code (some yc) .normal F H n λe pe F H n =>
      Xl.rec (motive:=λ_=>Prop) (retY T fn.results.toList (some yc) pe F H n k) (λ_=>stk 104) (retY T fn.results.toList (some yc) pe F H n k) e) (noG caps&&(Nat.ble (caps.length+1) fn.ntmps&&Nat.ble fn.ntmps 343))
    |none=>stk (1000+f)):=h
   split at h
   ·rename_i fn code hf
    cases hle:(noG caps&&(Nat.ble (caps.length+1) fn.ntmps&&Nat.ble fn.ntmps 343)) with
    |false=>rw[hle] at h;cases h
    |true =>
     rw[hle] at h;simp only[Bool.and_eq_true,Nat.ble_eq] at hle;obtain⟨hng,hl1,hl2⟩:=hle;obtain⟨F0,h,hF0⟩:=X01d (by grind) h;obtain⟨e,pe,F',H',n',h1,hsem⟩:=Xu4 hm hl2 hX hT ihr ihi code (some yc) d _ _ _ _ _ hy h;have hfr:∀ b,sf (some yc) b (frX F0)=Xim (Xan b::caps):=by
      intro b;rw[hF0];funext t
      show sfA b (Xim (sgn::caps)) t=_;unfold sfA
      cases t with
      |zero=>rfl
      |succ t =>
       have e1:Xim (sgn::caps) (t+1)=Xim (Xan b::caps) (t+1):=rfl;rw[e1];have:isG (Xim (Xan b::caps) (t+1))=false:=by
        show isG (((Xan b::caps)[t+1]?).getD (.sc undef))=false;rw[List.getElem?_cons_succ]
        cases hq:caps[t]? with
        |none=>rfl
        |some a=>grind [X0ce,List.mem_of_getElem?]
       grind
     have fin:retY T fn.results.toList (some yc) pe F' H' n' k->fn.results=#[]/\k (encP pe) H' n':=by
      intro h;have h:List.rec (motive:=λ_=>Prop) (k (encP pe) H' n') (λ_ _ _=>stk 141) fn.results.toList:=h
      cases hrs:fn.results.toList with
      |nil =>
       simp_all
      |cons r l=>rw[hrs] at h;cases h
     cases e with
     |exit i=>cases h1
     |normal =>
      obtain⟨g1,g2⟩:=fin h1;refine⟨fn,code,pe,H',n',hE _ _ _ hf,g1,hl1,g2,λb m r μr hin=>?_⟩;have:=hsem n b m r μr (λ_=>hin);rw[hfr] at this;refine this.mono ?_;rintro e' s' μ' ⟨rfl,⟨μr1,hf,rfl⟩,rfl⟩;exact⟨(λ_ h=>by cases h),by rw[hf (.inr (by simp))],rfl,rfl⟩
     |ret =>
      obtain⟨g1,g2⟩:=fin h1;refine⟨fn,code,pe,H',n',hE _ _ _ hf,g1,hl1,g2,λb m r μr hin=>?_⟩;have:=hsem n b m r μr (λ_=>hin);rw[hfr] at this;refine this.mono ?_;rintro e' s' μ' ⟨rfl,⟨μr1,hf,rfl⟩,rfl⟩;exact⟨(λ_ h=>by cases h),by rw[hf (.inr (by simp))],rfl,rfl⟩
   ·cases h
theorem X052 {P:Program} {T:Ty} {X:Nat->Option (List AV->Option AV)} {E:Env} {M:Nat->Option Xny} {fuel:Nat} (hm:P.follows .mixedOrders=true) (hX:Xx1 P X) (hT:X6c P T) (hE:X01m P E) (hM:Xud P M):∀ d,Xh2 P (callM T X E M fuel d none)/\Xue P (callM T X E M fuel d):=by
 intro d
 induction d with
 |zero =>
  refine⟨?_,?_⟩
  ·intro f as H n k h;cases h
  ·intro yc f caps H n k d _ h;cases h
 |succ m ih =>
  obtain⟨h1,h2⟩:=Xt1 (fuel:=fuel) hm hX hT hE ih.1 ih.2;exact⟨X0ci hM h1,λyc f caps H n k d hy h=>h2 yc f caps H n k d hy h⟩
theorem Xy0 {P:Program} {T:Ty} {X:Nat->Option (List AV->Option AV)} {E:Env} {M:Nat->Option Xny} {fuel d f:Nat} {as:List AV} {r:AV} (hm:P.follows .mixedOrders=true) (hX:Xx1 P X) (hT:X6c P T) (hE:X01m P E) (hM:Xud P M)
  (h:Xul T X E fuel (callM T X E M fuel d) none f as g8 0 (λa H _=>wkO (cvF true (hpX H) 100 a) r=true)=(true=true)):X15 P f as r:=by
 have ok:=X052 (fuel:=fuel) hm hX hT hE hM d;obtain⟨r',H',n',h1,h2⟩:=(Xt1 (fuel:=fuel) hm hX hT hE ok.1 ok.2).1 _ _ _ _ _ (cast h.symm rfl);rw[Xm2] at h1;obtain⟨a',e1,e2⟩:=X0bd h2;exact X15.weaken (X15.of_hc h1 (Xhm _ _ _ e1)) e2
end Go.Av.X


namespace Go.Av
variable [Gls]
open MapKept Go.WideMaps
def Keyd (P:Program) (kt:Nat) (es:List (Value×Value)):Prop:=(∀ p∈es,∃ l,keyOf P kt p.1=some l)/\(es.map (·.1)).Nodup
theorem Keyd.nil {P:Program} {kt:Nat}:Keyd P kt []:=⟨(λ_ h=>by cases h),List.nodup_nil⟩
open Classical in
theorem Xxv {k v:Value}:∀ (l:List (Value×Value)),(Xe3 k v l).map (·.1)=if k∈l.map (·.1) then l.map (·.1) else l.map (·.1)++[k]:=by
 intro l
 induction l with
 |nil=>simp[Xe3]
 |cons a r ih =>
  obtain⟨a1,a2⟩:=a;simp only[Xe3]
  grind
theorem Keyd.set {P:Program} {kt:Nat} {es:List (Value×Value)} {k v:Value} {l:Lit} (h:Keyd P kt es) (hk:keyOf P kt k=some l):Keyd P kt (Xe3 k v es):=by
 have hks:=Xxv (k:=k) (v:=v) es;refine⟨λp hp=>?_,?_⟩
 ·have:p.1∈(Xe3 k v es).map (·.1):=List.mem_map.2 ⟨p,hp,rfl⟩;rw[hks] at this;split at this
  ·obtain⟨q,hq,e⟩:=List.mem_map.1 this;rw[<-e];exact h.1 q hq
  ·rcases List.mem_append.1 this with h1|h1
   ·obtain⟨q,hq,e⟩:=List.mem_map.1 h1;rw[<-e];exact h.1 q hq
   grind
 ·rw[hks];split
  ·exact h.2
  ·rename_i hn;exact List.nodup_append.2 ⟨h.2,by simp,λa ha b hb=>by grind⟩
def unSc:List AV->Option (List Value)
 |[]=>some []
 |.sc v::r=>(unSc r).map (v::·)
 |_::_=>none
def keyV:AV->Option Value
 |.sc v=>some v
 |.agg cs=>(unSc cs).map λl=>.agg l.toArray
 |_=>none
theorem X02r {c:Ctx} {d:Bool}:∀ {cs:List AV} {l:List Value} {vs:List Value},unSc cs=some l->cs.length=vs.length->(∀ (i:Nat) a v,cs[i]?=some a->vs[i]?=some v->X0b c d a v)->vs=l:=by
 intro cs
 induction cs with
 |nil=>grind [unSc,List.eq_nil_of_length_eq_zero]
 |cons a r ih =>
  intro l vs h hl hr
  cases vs with
  |nil=>simp at hl
  |cons v vs =>
   have h0:=hr 0 a v rfl rfl;cases a<;>simp[unSc] at h
   obtain⟨l',hl',rfl⟩:=h;rw[h0.sc_inv,ih hl' (by grind) (λi a v ha hv=>hr (i+1) a v ha hv)]
theorem Xto {c:Ctx} {d:Bool} {a:AV} {v k:Value} (h:keyV a=some k) (hr:X0b c d a v):v=k:=by
 cases a<;>simp[keyV] at h
 ·subst h;exact hr.sc_inv
 ·obtain⟨l,hl,rfl⟩:=h
  cases hr with
  |agg h1 h2 h3 =>
   rename_i vs;have:=X02r (c:=c) (d:=d) (vs:=vs.toList) hl (by grind) (λi a v ha hv=>h3 i a v ha (by grind));rw[<-this]
section
variable {P:Program} {nt n0:Nat} {Q:Xl->St->Mu->Prop} {ops:Array Oper} {l:List Oper} {o:Oper} {K:List Kn} {L:List (Nat×AV)} {G:List (Nat×Obj)} {n:Nat} {μ:Mu}
end
section
variable {P:Program} {nt n0:Nat} {Q:Xl->St->Mu->Prop} {ops:Array Oper} {l:List Oper} {o1 o2 o3:Oper} {K:List Kn} {L:List (Nat×AV)} {G:List (Nat×Obj)} {n:Nat} {μ:Mu}
end
end Go.Av


namespace Go.Av
variable [Gls]
open MapKept Go.WideMaps
def Xq2 (k:Value):List (Value×Value)->List (Value×Value)
 |[]=>[]
 |(a,b)::r=>open Classical in if a=k then r else (a,b)::Xq2 k r
theorem X09p {k:Value}:∀ (l:List (Value×Value)) (j:Nat) (p:Value×Value),l[j]?=some p->p.1=k->(∀ i q,i<j->l[i]?=some q->q.1≠k)->Xq2 k l=l.eraseIdx j:=by
 intro l
 induction l with
 |nil=>grind
 |cons a r ih =>
  obtain⟨a1,a2⟩:=a;intro j p h hp hn
  cases j with
  |zero =>
   grind [List.getElem?_cons_zero,Option.some.injEq,Xq2]
  |succ j =>
   have h0:a1≠k:=hn 0 (a1,a2) (Nat.succ_pos _) rfl;simp only[Xq2,if_neg h0,List.eraseIdx_cons_succ]
   grind
theorem X00s {k:Value}:∀ (l:List (Value×Value)),(∀ q∈l,q.1≠k)->Xq2 k l=l:=by
 intro l
 induction l with
 |nil=>intro _;rfl
 |cons a r ih =>
  obtain⟨a1,a2⟩:=a;intro h
  simp_all [Xq2,if_neg,List.mem_cons_of_mem]
theorem Xfj {α β:Type} (f:α->β):∀ (l:List α) (j:Nat),(l.eraseIdx j).map f=(l.map f).eraseIdx j
 |[],_=>by simp
 |a::r,0=>rfl
 |a::r,j+1=>by simp[Xfj f r j]
theorem X007 {d:TypeDesc} {P:Program} {w:World} {kt:TypeId} {k:Value} (hd:P.underlying kt=some d) (hk:IsKey d k) {es:List MapEntry} {ks:List (Value×Value)} (he:es.map (λe=>(e.key,e.val))=ks) (h:∀ p∈ks,IsKey d p.1) :
  ((Instr.findKey kt k es).run P w=.ok none w/\Xq2 k ks=ks/\Xo0 k ks=none) \/
   ∃ j e,(Instr.findKey kt k es).run P w=.ok (some (j,e.val)) w/\es[j]?=some e/\e.key=k/\Xq2 k ks=ks.eraseIdx j/\Xo0 k ks=some e.val:=by
 have hes:∀ x∈es,IsKey d x.key:=λx hx=>h (x.key,x.val) (by grind);rcases Xfy hk es 0 hes with ⟨h1,h2⟩|⟨j,e,h1,h2,h3,h4⟩
 ·have hn:∀ q∈ks,q.1≠k:=λq hq=>by
   grind
  exact .inl ⟨run_findKey hd h1,X00s _ hn,(Xt6 (v:=k) ks hn).2⟩
 ·have hj:ks[j]?=some (e.key,e.val):=by grind
  have hf:∀ i q,i<j->ks[i]?=some q->q.1≠k:=λi q hi hq=>by
   grind
  rw[Nat.zero_add] at h1;exact .inr ⟨j,e,run_findKey hd h1,h2,h3,X09p ks j _ hj h3 hf,(Xxw (v:=k) ks j _ hj h3 hf).2⟩
section
variable {P:Program} {nt n0:Nat} {Q:Xl->St->Mu->Prop} {ops:Array Oper} {l:List Oper} {o:Oper} {K:List Kn} {L:List (Nat×AV)} {G:List (Nat×Obj)} {n:Nat} {μ:Mu}
theorem Xu8 {c0 c:Ctx} {H0:Xw} {act:Act} {b:Nat} {x x':MuE} {o' ob:Go.Obj} {w':World} (g:X32 nt c0 H0 n0 c ⟨fr L,hp G,n⟩ act) (hM:MOk n0 c0 H0 c (hp G) ((b,x)::μ) act)
  (hb:c.w.heap[b]?=some ob) (hw:w'.heap=c.w.heap.setIfInBounds b o') (hos:w'.os=c.w.os) (htp:w'.tape=c.w.tape) (hou:w'.output=c.w.output) (hdr:c.w.drawn<=w'.drawn) (hx:MuIs n0 { c with w:=w' } b x') (hds:dsOf ((b,x)::μ)=dsOf ((b,x')::μ)) :
  X32 nt c0 H0 n0 { c with w:=w' } ⟨fr L,hp G,n⟩ act/\MOk n0 c0 H0 { c with w:=w' } (hp G) ((b,x')::μ) act:=by
 obtain⟨a1,a2,a3,a4⟩:=hM.away (b,x) (by simp);have hsz:w'.heap.size=c.w.heap.size:=by rw[hw];simp
 have hoth:∀ q,q≠b->w'.heap[q]?=c.w.heap[q]?:=by
  grind
 obtain⟨h1,h2⟩:=g.inv.aside (w':=w') hsz hoth ⟨a1,a2⟩ a3;refine⟨⟨h2,g.solo,λq=>(g.frame q).mono h1 (.inr (g.ok q)),g.ok,g.size,?_,g.le0⟩,λp hp=>?_,λp hp=>?_,?_,hM.ds.trans hds⟩
 ·have r:=g.reach;refine⟨r.rho,hos.trans r.os,htp.trans r.tape,⟨hou.trans r.output.1,Nat.le_trans r.output.2 (X9k hdr)⟩,by show _<=w'.heap.size;rw[hsz];exact r.size,λq hq hn=>?_,λq hq=>?_,r.sa,r.so1,r.so2,r.B,r.own⟩
  ·exact(hoth q (λe=>by subst e;exact(a4.no hq hn).elim)).trans (r.block q hq hn)
  ·refine(hoth q (λe=>?_)).trans (r.stable q hq);subst e;rcases hq with hq|hq
   ·exact a1 (by rw[r.sa];exact hq)
   ·exact a2 (r.so1 _ hq)
 ·rcases List.mem_cons.1 hp with rfl|hp
  ·exact hx
  ·have hne:p.1≠b:=λe=>(List.nodup_cons.1 hM.nodup).1 (List.mem_map.2 ⟨p,hp,e⟩);exact(hM.is p (List.mem_cons_of_mem _ hp)).le (hoth _ hne) (h1.weaken λq hq=>Nat.lt_of_lt_of_le hq g.le0)
 ·rcases List.mem_cons.1 hp with rfl|hp
  ·grind
  ·exact hM.away p (List.mem_cons_of_mem _ hp)
 ·exact hM.nodup
theorem X5.mapDel {T:Ty} {t b kt et t2:Nat} {m k:Operand} {qm qk:List Prop} {ka:AV} {kv:Value} {es:List (Value×Value)} {ti:TI} {d:TypeDesc} (hT:X6c P T) (ho:o.op=.call { callee:=.builtin .delete,args:=#[m,k],argTypes:=#[t,t2] }) (hg:o.guard=none) (hd:o.dst=none)
  (ht:T t=some ti) (hkd:ti.kind=.map kt et) (hu:P.underlying kt=some d)
  (hm:rd L m=(.sc (.map (some b)),qm)) (hk:rd L k=(ka,qk)) (hka:keyV ka=some kv) (hqm:X44 qm) (hqk:X44 qk) (hik:IsKey d kv) (hks:∀ p∈es,IsKey d p.1)
  (h:X5 P nt n0 Q (.ops ops l) K ⟨fr L,hp G,n⟩ ((b,Xq2 kv es)::μ)):X5 P nt n0 Q (.ops ops (o::l)) K ⟨fr L,hp G,n⟩ ((b,es)::μ):=by
 intro c0 H0 c act g hM Qx hQ R hR;refine X1p λK' hK'=>?_;rw[if_pos (by simp[Region.wanted,hg])];have em:act.eval m=.map (some b):=by have:=g.ev m;rw[show evA (St.A ⟨fr L,hp G,n⟩) m=_ from X0l hm hqm] at this;exact this.sc_inv
 have ek:act.eval k=kv:=by have:=g.ev k;rw[show evA (St.A ⟨fr L,hp G,n⟩) k=_ from X0l hk hqk] at this;exact Xto hka this
 have hu1:P.underlying t=some (.map kt et):=by
  obtain⟨i,dd,_,hdd,_,hkk,_⟩:=X0v (hT t ti ht);rw[hkd] at hkk;cases dd<;>simp[X66] at hkk
  grind
 obtain⟨es0,cl,hb0,hl,hpw,hcl⟩:=hM.is (b,es) (by simp);have hdel:∃ es',(Builtin.delete_ #[t,t2] o.type #[.map (some b),kv]).run P c.w=.ok (.tuple #[]) { c.w with heap:=c.w.heap.setIfInBounds b (.map es' cl) } /\
   es'.toList.map (λe=>(e.key,e.val))=Xq2 kv es/\es'.toList.Pairwise (λx y=>x.born<y.born)/\∀ e∈es'.toList,e.born<cl:=by
  rcases X007 (w:=c.w) hu hik hl hks with ⟨h1,h2,_⟩|⟨j,e,h1,h2,_,h4,_⟩
  ·refine⟨es0,?_,by rw[h2];exact hl,hpw,hcl⟩;simp[Builtin.delete_,run_underlying hu1,MapKept.run_getObj_map hb0,run_checkKey hu hik,h1,MapKept.run_setObj_map _ hb0,Result.andThen]
  ·refine⟨es0.eraseIdxIfInBounds j,?_,?_,?_,?_⟩
   ·simp[Builtin.delete_,run_underlying hu1,MapKept.run_getObj_map hb0,run_checkKey hu hik,h1,MapKept.run_setObj_map _ hb0,Result.andThen]
   ·rw[Array.toList_eraseIdxIfInBounds,h4,<-hl];exact Xfj _ _ _
   ·rw[Array.toList_eraseIdxIfInBounds];exact hpw.sublist (List.eraseIdx_sublist _ _)
   ·rw[Array.toList_eraseIdxIfInBounds];exact λx hx=>hcl x (List.mem_of_mem_eraseIdx hx)
 obtain⟨es',hrun,hl',hpw',hcl'⟩:=hdel;have hex:(execOp act.eval o).run P c.w=.ok (.value (.tuple #[])) { c.w with heap:=c.w.heap.setIfInBounds b (.map es' cl) }:=by
  simp_all [guard,execOp,resolve,invoke,builtin,Result.andThen]
 refine Oper.wpR (λd hd=>by grind) ?_;unfold Oper.wp;rw[hex];obtain⟨g2,hM2⟩:=Xu8 (x':=.map (Xq2 kv es)) g hM hb0 (w':={ c.w with heap:=c.w.heap.setIfInBounds b (.map es' cl) }) rfl rfl rfl rfl (Nat.le_refl _) ⟨es',cl,(heap_set (o':=.map es' cl) hb0).1,hl',hpw',hcl'⟩ rfl;have hact:act.put o.dst (.tuple #[])=act:=by rw[hd];rfl
 have:=hK' act _ (h c0 H0 _ act g2 hM2 Qx hQ R hR);show K' (act.put o.dst (.tuple #[])) _
 grind
theorem X5.mapLookI {T:Ty} {t b kt et:Nat} {m k:Operand} {qm qk:List Prop} {ka:AV} {kv z:Value} {es:List (Value×Value)} {ti:TI} {d:TypeDesc} (hT:X6c P T) (ho:o.op=.lookup t m k false) (hg:o.guard=none) (hd:Xb5 nt o.dst=true)
  (ht:T t=some ti) (hkd:ti.kind=.map kt et) (hu:P.underlying kt=some d) (hz:∀ w,(zeroValue et).run P w=.ok z w)
  (hm:rd L m=(.sc (.map (some b)),qm)) (hk:rd L k=(ka,qk)) (hka:keyV ka=some kv) (hqm:X44 qm) (hqk:X44 qk) (hik:IsKey d kv) (hks:∀ p∈es,IsKey d p.1)
  (h:X5 P nt n0 Q (.ops ops l) K ⟨fr (Xuu o.dst (.sc ((Xo0 kv es).getD z)) L),hp G,n⟩ ((b,es)::μ)):X5 P nt n0 Q (.ops ops (o::l)) K ⟨fr L,hp G,n⟩ ((b,es)::μ):=by
 intro c0 H0 c act g hM Qx hQ R hR;refine X1p λK' hK'=>?_;rw[if_pos (by simp[Region.wanted,hg])];have em:act.eval m=.map (some b):=by have:=g.ev m;rw[show evA (St.A ⟨fr L,hp G,n⟩) m=_ from X0l hm hqm] at this;exact this.sc_inv
 have ek:act.eval k=kv:=by have:=g.ev k;rw[show evA (St.A ⟨fr L,hp G,n⟩) k=_ from X0l hk hqk] at this;exact Xto hka this
 have hu1:P.underlying t=some (.map kt et):=by
  obtain⟨i,dd,_,hdd,_,hkk,_⟩:=X0v (hT t ti ht);rw[hkd] at hkk;cases dd<;>simp[X66] at hkk
  grind
 have hrun:(Instr.lookup t (.map (some b)) kv false).run P c.w=.ok ((Xo0 kv es).getD z) c.w:=by
  obtain⟨es0,clock,hb,hl,_⟩:=hM.is (b,es) (by simp);rcases X007 (w:=c.w) hu hik hl hks with ⟨h1,_,h3⟩|⟨j,e,h1,_,_,_,h4⟩
  ·simp[Instr.lookup,run_underlying hu1,MapKept.run_getObj_map hb,run_checkKey hu hik,h1,h3,hz,Result.andThen]
  ·simp[Instr.lookup,run_underlying hu1,MapKept.run_getObj_map hb,run_checkKey hu hik,h1,h4,Result.andThen]
 have hex:(execOp act.eval o).run P c.w=.ok (.value ((Xo0 kv es).getD z)) c.w:=by
  simp_all [guard,execOp,Sem.run_bind]
 refine Oper.wpR (λd hd=>by grind) ?_;unfold Oper.wp;rw[hex];have g2:=g.next (c':=c) (dst:=o.dst) (a:=.sc ((Xo0 kv es).getD z)) (v:=(Xo0 kv es).getD z) (X3a hd) (.refl c) rfl (λb hb=>.inl hb) (.refl c (hp G)) (λq x hx=>.inr ⟨q,x,hx,rfl⟩) g.inv g.solo (Nat.le_refl _) .sc .sc;rw[X49] at h;exact hK' _ _ (h c0 H0 c _ g2 hM.act Qx hQ R hR)
theorem X5.mapEntryI {b r:Nat} {since clock:Nat} {seen:Array Nat} {ents:Array MapEntry} {e:MapEntry} {m:Operand} {qm:List Prop} (ho:o.op=.entry m) (hg:o.guard=none) (hd:Xb5 nt o.dst=true)
  (hm:rd L m=(.sc (.pointer (some ⟨r,0,none⟩)),qm)) (hqm:X44 qm) (he:e∈ents.toList) (hpw:ents.toList.Pairwise (λx y=>x.born<y.born))
  (h:X5 P nt n0 Q (.ops ops l) K ⟨fr (Xuu o.dst (.tup [.sc e.key,.sc e.val]) L),hp G,n⟩ ((r,.blk (.mapIter (some b) since (seen.push e.born) clock))::(b,.blk (.map ents clock))::μ)) :
  X5 P nt n0 Q (.ops ops (o::l)) K ⟨fr L,hp G,n⟩ ((r,.blk (.mapIter (some b) since (seen.push e.born) clock))::(b,.blk (.map ents clock))::μ):=by
 intro c0 H0 c act g hM Qx hQ R hR;refine X1p λK' hK'=>?_;rw[if_pos (by simp[Region.wanted,hg])];have em:act.eval m=.pointer (some ⟨r,0,none⟩):=by have:=g.ev m;rw[show evA (St.A ⟨fr L,hp G,n⟩) m=_ from X0l hm hqm] at this;exact this.sc_inv
 have hr:c.w.heap[r]?=some (.mapIter (some b) since (seen.push e.born) clock):=hM.is (r,.blk (.mapIter (some b) since (seen.push e.born) clock)) (by simp);have hb:c.w.heap[b]?=some (.map ents clock):=hM.is (b,.blk (.map ents clock)) (by simp);have hrun:=run_entry_at (P:=P) c.w r b since seen ents clock e hr hb he (List.pairwise_map.2 (hpw.imp λh=>Nat.ne_of_lt h));refine Oper.wpR (λd hd=>by grind) ?_;unfold Oper.wp;have hex:(execOp act.eval o).run P c.w=.ok (.value (.tuple #[e.key,e.val])) c.w:=by
  simp_all [guard,execOp,Sem.run_bind]
 rw[hex];have g2:=g.next (c':=c) (dst:=o.dst) (a:=.tup [.sc e.key,.sc e.val]) (v:=.tuple #[e.key,e.val]) (X3a hd) (.refl c) rfl (λb hb=>.inl hb) (.refl c (hp G)) (λq x hx=>.inr ⟨q,x,hx,rfl⟩) g.inv g.solo (Nat.le_refl _) (.tup rfl (by
  intro i a v ha hv
  match i with
  |0=>simp at ha hv;subst ha;subst hv;exact .sc
  |1=>simp at ha hv;subst ha;subst hv;exact .sc
  |i+2=>simp at ha)) (by
  refine .tup λx hx=>?_;simp at hx;rcases hx with rfl|rfl<;>exact .sc)
 rw[X49] at h;exact hK' _ _ (h c0 H0 c _ g2 hM.act Qx hQ R hR)
theorem X5.mapRange {b:Nat} {t:Nat} {m:Operand} {qm:List Prop} {es:List (Value×Value)} {T:Ty} {kt et:Nat} {ti:TI} (hT:X6c P T) (ho:o.op=.range t m) (hg:o.guard=none) (hd:Xb5 nt o.dst=true)
  (ht:T t=some ti) (hkd:ti.kind=.map kt et) (hm:rd L m=(.sc (.map (some b)),qm)) (hqm:X44 qm)
  (h:∀ (r:Nat) (ents:Array MapEntry) (clock:Nat),ents.toList.map (λe=>(e.key,e.val))=es->ents.toList.Pairwise (λx y=>x.born<y.born)->(∀ e∈ents.toList,e.born<clock) ->
   X5 P nt n0 Q (.ops ops l) K ⟨fr (Xuu o.dst (.sc (.pointer (some ⟨r,0,none⟩))) L),hp G,n⟩ ((r,.blk (.mapIter (some b) clock #[] clock))::(b,.blk (.map ents clock))::μ)) :
  X5 P nt n0 Q (.ops ops (o::l)) K ⟨fr L,hp G,n⟩ ((b,es)::μ):=by
 intro c0 H0 c act g hM Qx hQ R hR;refine X1p λK' hK'=>?_;rw[if_pos (by simp[Region.wanted,hg])];have em:act.eval m=.map (some b):=by have:=g.ev m;rw[show evA (St.A ⟨fr L,hp G,n⟩) m=_ from X0l hm hqm] at this;exact this.sc_inv
 have hu1:P.underlying t=some (.map kt et):=by
  obtain⟨i,dd,_,hdd,_,hkk,_⟩:=X0v (hT t ti ht);rw[hkd] at hkk;cases dd<;>simp[X66] at hkk
  grind
 obtain⟨ents,clock,hb0,hl,hpw,hcl⟩:=hM.is (b,es) (by simp);have hM':MOk n0 c0 H0 c (hp G) ((b,.blk (.map ents clock))::μ) act:=⟨λp hp=>by
   rcases List.mem_cons.1 hp with rfl|hp
   ·exact hb0
   ·exact hM.is p (List.mem_cons_of_mem _ hp),λp hp=>by
   rcases List.mem_cons.1 hp with rfl|hp
   ·exact hM.away (b,es) (by simp)
   ·exact hM.away p (List.mem_cons_of_mem _ hp),hM.nodup,hM.ds⟩
 have hrun:(execOp act.eval o).run P c.w=.ok (.value (.pointer (some ⟨c.w.heap.size,0,none⟩))) (c.w.alloc (.mapIter (some b) clock #[] clock)):=by
  obtain⟨dst,op,type,pos,after,guard⟩:=o;simp only at ho;subst ho;simp only[execOp,em,Sem.run_bind,run_range_map c.w _ _ _ _ _ _ hu1 hb0];rfl
 refine Oper.wpR (λd hd=>by grind) ?_;unfold Oper.wp;rw[hrun];obtain⟨h1,h2,h3⟩:=g.inv.waste (w':=c.w.alloc (.mapIter (some b) clock #[] clock)) (.mapIter (some b) clock #[] clock) rfl rfl rfl ⟨rfl,Nat.le_refl _⟩;have g2:=(g.rebase).next (c':={ c with w:=c.w.alloc (.mapIter (some b) clock #[] clock) }) (dst:=o.dst) (a:=.sc (.pointer (some ⟨c.w.heap.size,0,none⟩))) (v:=.pointer (some ⟨c.w.heap.size,0,none⟩)) (X3a hd) h1 rfl (λb hb=>.inl hb) h3 (λq x hx=>.inr ⟨q,x,hx,rfl⟩) h2 g.solo (Nat.le_refl _) .sc .sc;have hk:=hM'.kept g2.reach;have hnew:(c.w.alloc (.mapIter (some b) clock #[] clock)).heap[c.w.heap.size]?=some (.mapIter (some b) clock #[] clock):=(heap_alloc c.w _).1;have hb:=h c.w.heap.size ents clock hl hpw hcl;rw[X49] at hb;refine hK' _ _ (hb c0 H0 { c with w:=c.w.alloc (.mapIter (some b) clock #[] clock) } _ (.join g.reach g2) ⟨?_,?_,?_,(put_defers _ _ _).trans hM'.ds⟩ Qx hQ R (λe=>hR e))
 ·intro p hp;rcases List.mem_cons.1 hp with rfl|hp
  ·exact hnew
  ·exact hk.is p hp
 ·intro p hp;rcases List.mem_cons.1 hp with rfl|hp
  ·refine⟨λhs=>Nat.lt_irrefl _ (g.inv.lt _ (.inl hs)),λhs=>Nat.lt_irrefl _ (g.inv.lt _ (.inr hs)),λq x hx he=>?_,⟨by rw[<-g.reach.B];exact g.inv.base,.inl g.reach.size⟩⟩;obtain⟨_,⟨⟨cur,hcb,_⟩,_,_,_⟩,_⟩:=g.inv.obj q x hx
   grind
  ·exact hk.away p hp
 ·refine List.nodup_cons.2 ⟨λhmem=>?_,hk.nodup⟩;obtain⟨p,hp,he⟩:=List.mem_map.1 hmem;have:=(hM'.is p hp).lt
  grind
theorem X5.mapNext {b r:Nat} {since c1 clock:Nat} {seen:Array Nat} {ents:Array MapEntry} {m:Operand} {qm:List Prop} (ho:o.op=.next m false) (hg:o.guard=none) (hd:Xb5 nt o.dst=true)
  (hm:rd L m=(.sc (.pointer (some ⟨r,0,none⟩)),qm)) (hqm:X44 qm) (hold:∀ x∈ents.toList,x.born<since) (hsc:since<=c1)
  (h0:(leftOf ents seen).size=0->X5 P nt n0 Q (.ops ops l) K ⟨fr (Xuu o.dst (.tup [.sc (.bool false)]) L),hp G,n⟩ ((r,.blk (.mapIter (some b) since seen c1))::(b,.blk (.map ents clock))::μ))
  (h1:∀ e∈(leftOf ents seen).toList,X5 P nt n0 Q (.ops ops l) K ⟨fr (Xuu o.dst (.tup [.sc (.bool true),.sc e.key,.sc e.val]) L),hp G,n⟩ ((r,.blk (.mapIter (some b) since (seen.push e.born) clock))::(b,.blk (.map ents clock))::μ)) :
  X5 P nt n0 Q (.ops ops (o::l)) K ⟨fr L,hp G,n⟩ ((r,.blk (.mapIter (some b) since seen c1))::(b,.blk (.map ents clock))::μ):=by
 intro c0 H0 c act g hM Qx hQ R hR;refine X1p λK' hK'=>?_;rw[if_pos (by simp[Region.wanted,hg])];have em:act.eval m=.pointer (some ⟨r,0,none⟩):=by have:=g.ev m;rw[show evA (St.A ⟨fr L,hp G,n⟩) m=_ from X0l hm hqm] at this;exact this.sc_inv
 have hr:c.w.heap[r]?=some (.mapIter (some b) since seen c1):=hM.is (r,.blk _) (by simp);have hb:c.w.heap[b]?=some (.map ents clock):=hM.is (b,.blk _) (by simp);refine Oper.wpR (λd hd=>by grind) ?_;unfold Oper.wp;rcases run_next_at (P:=P) c.w o.type r b since c1 seen ents clock hr hb hold hsc with ⟨e0,hrun⟩|⟨e,he,w1,hw1,hrun⟩
 ·have hex:(execOp act.eval o).run P c.w=.ok (.value (.tuple #[.bool false])) c.w:=by
   simp_all [guard,execOp,Sem.run_bind]
  rw[hex];have g2:=g.next (c':=c) (dst:=o.dst) (a:=.tup [.sc (.bool false)]) (v:=.tuple #[.bool false]) (X3a hd) (.refl c) rfl (λb hb=>.inl hb) (.refl c (hp G)) (λq x hx=>.inr ⟨q,x,hx,rfl⟩) g.inv g.solo (Nat.le_refl _) (.tup rfl (by
   intro i a v ha hv
   match i with
   |0=>simp at ha hv;subst ha;subst hv;exact .sc
   |i+1=>simp at ha)) (by
   refine .tup λx hx=>?_;simp at hx;subst hx;exact .sc)
  have hk:=h0 e0;rw[X49] at hk;exact hK' _ _ (hk c0 H0 c _ g2 hM.act Qx hQ R hR)
 ·have hex:(execOp act.eval o).run P c.w=.ok (.value (.tuple #[.bool true,e.key,e.val])) (Go.ChangeMaps.setBlock w1 r (.mapIter (some b) since (seen.push e.born) clock)):=by
   simp_all [guard,execOp,Sem.run_bind]
  rw[hex];have hs:(Go.ChangeMaps.setBlock w1 r (.mapIter (some b) since (seen.push e.born) clock)).heap=c.w.heap.setIfInBounds r (.mapIter (some b) since (seen.push e.born) clock):=by rcases hw1 with rfl|rfl<;>rfl
  obtain⟨g1,hM1⟩:=Xu8 (x':=.blk (.mapIter (some b) since (seen.push e.born) clock)) g hM hr (w':=Go.ChangeMaps.setBlock w1 r (.mapIter (some b) since (seen.push e.born) clock)) hs (by rcases hw1 with rfl|rfl<;>rfl) (by rcases hw1 with rfl|rfl<;>rfl) (by rcases hw1 with rfl|rfl<;>rfl)
   (by rcases hw1 with rfl|rfl;exact Nat.le_refl _;exact Nat.le_succ _) (by show _=_;grind) rfl
  have g2:=g1.next (c':={ c with w:=_ }) (dst:=o.dst) (a:=.tup [.sc (.bool true),.sc e.key,.sc e.val]) (v:=.tuple #[.bool true,e.key,e.val]) (X3a hd) (.refl _) rfl (λb hb=>.inl hb) (.refl _ (hp G)) (λq x hx=>.inr ⟨q,x,hx,rfl⟩) g1.inv g1.solo (Nat.le_refl _) (.tup rfl (by
   intro i a v ha hv
   match i with
   |0=>simp at ha hv;subst ha;subst hv;exact .sc
   |1=>simp at ha hv;subst ha;subst hv;exact .sc
   |2=>simp at ha hv;subst ha;subst hv;exact .sc
   |i+3=>simp at ha)) (by
   refine .tup λx hx=>?_;simp at hx;rcases hx with rfl|rfl|rfl<;>exact .sc)
  have hk:=h1 e he;rw[X49] at hk;exact hK' _ _ (hk c0 H0 _ _ g2 hM1.act Qx hQ R hR)
theorem X5.mapShutC {b r:Nat} {it:Go.Obj} {s:St} {clock:Nat} {ents:Array MapEntry} {es:List (Value×Value)} {code:Code} (hl:ents.toList.map (λe=>(e.key,e.val))=es) (hpw:ents.toList.Pairwise (λx y=>x.born<y.born)) (hcl:∀ e∈ents.toList,e.born<clock)
  (h:X5 P nt n0 Q (.code code) K s ((b,es)::μ)):X5 P nt n0 Q (.code code) K s ((r,.blk it)::(b,.blk (.map ents clock))::μ):=by
 intro c0 H0 c act g hM R hR;refine h c0 H0 c act g ⟨λp hp=>?_,λp hp=>?_,(List.nodup_cons.1 hM.nodup).2,hM.ds⟩ R hR
 ·rcases List.mem_cons.1 hp with rfl|hp
  ·exact⟨ents,clock,hM.is (b,.blk (.map ents clock)) (by simp),hl,hpw,hcl⟩
  ·exact hM.is p (by simp[hp])
 ·rcases List.mem_cons.1 hp with rfl|hp
  ·exact hM.away (b,.blk (.map ents clock)) (by simp)
  ·exact hM.away p (by simp[hp])
end
end Go.Av


namespace Go.Av
variable [Gls]
open Go.WideMaps
theorem X0cp {P:Program} {t:TypeId} {q:IntKind} {n:Int} (d:Nat) (h:P.underlying t=some (.int q)) (hw:(Lit.int q n).wf=true):P.keyLits (d+1) t [.int q n]=some [.int q n]:=by
 unfold Program.keyLits;rw[h];simp[hw]
theorem Xz8 {P : Program} {t : TypeId} {fs : Array Field} {cs : List Value} {ls : List (List Lit)} {d : Nat} (h : P.underlying t = some (.struct fs)) (hl : cs.length = P.cellsOf t) (hn : fs.all (λf => f.name != "_") = true)
  (hm:fs.toList.mapM (λf=>P.keyLits d f.type ((cs.drop f.offset).take (P.cellsOf f.type)))=some ls):P.keyLits (d+1) t cs=some ls.flatten:=by
 unfold Program.keyLits;rw[h];simp only[];rw[if_pos ⟨hl,hn⟩,hm];rfl
def KL (P:Program) (d:Nat) (t:TypeId) (cs:List Value):Prop:=∃ ls,P.keyLits d t cs=some ls
theorem KL.int {P:Program} {t:TypeId} {q:IntKind} {n:Int} {d:Nat} (h:P.underlying t=some (.int q)) (hw:(Lit.int q n).wf=true):KL P (d+1) t [.int q n]:=⟨_,X0cp d h hw⟩
theorem KL.struct {P : Program} {t : TypeId} {fs : Array Field} {cs : List Value} {d : Nat} (h : P.underlying t = some (.struct fs)) (hl : cs.length = P.cellsOf t) (hn : fs.all (λf => f.name != "_") = true)
  (hm:∃ ls,fs.toList.mapM (λf=>P.keyLits d f.type ((cs.drop f.offset).take (P.cellsOf f.type)))=some ls):KL P (d+1) t cs:=by
 obtain⟨ls,hm⟩:=hm;exact⟨_,Xz8 h hl hn hm⟩
end Go.Av
namespace Go.D
section
variable {α:Type} [DecidableEq α]
def getA (x:α):List (α×Int)->Int
 |[]=>0
 |(a,v)::r=>if a=x then v else getA x r
def Xql (x:α) (v:Int):List (α×Int)->List (α×Int)
 |[]=>[(x,v)]
 |(a,w)::r=>if a=x then (x,v)::r else (a,w)::Xql x v r
def Xua (ks:List (α×Int)):List α->List (α×Int)
 |[]=>ks
 |x::xs=>Xua (Xql x (IntKind.i64.wrap (getA x ks+1)) ks) xs
end
end Go.D
namespace Go.Av
variable [Gls]
open Go.D
section
variable {α:Type} [DecidableEq α] {e:α->Value}
def kvE (e:α->Value) (p:α×Int):Value×Value:=(e p.1,.int .i64 p.2)
theorem X08f (he:∀ a b,e a=e b->a=b) (x:α) (v:Int):∀ ks:List (α×Int),Xe3 (e x) (.int .i64 v) (ks.map (kvE e))=(Xql x v ks).map (kvE e):=by
 intro ks
 induction ks with
 |nil=>simp[Xe3,Xql,kvE]
 |cons p r ih =>
  obtain⟨a,w⟩:=p;by_cases h:a=x
  ·subst h;simp[Xe3,Xql,kvE]
  ·have h2:¬ e a=e x:=λq=>h (he _ _ q);have ih':Xe3 (e x) (.int .i64 v) (r.map (kvE e))=(Xql x v r).map (kvE e):=ih;simp[Xe3,Xql,kvE,h,h2];exact ih'
theorem X08g (he:∀ a b,e a=e b->a=b) (x:α):∀ ks:List (α×Int),(Xo0 (e x) (ks.map (kvE e))).getD (.int .i64 0)=.int .i64 (getA x ks):=by
 intro ks
 induction ks with
 |nil=>simp[Xo0,getA]
 |cons p r ih =>
  obtain⟨a,w⟩:=p;by_cases h:a=x
  ·subst h;simp[Xo0,getA,kvE]
  ·have h2:¬ e a=e x:=λq=>h (he _ _ q);simp[Xo0,getA,kvE,h,h2];exact ih
end
theorem MOk.drop {n0:Nat} {c0 c:Ctx} {H0 H:Xw} {b:Nat} {l:List (Value×Value)} {μ:Mu} {act:Act} (h:MOk n0 c0 H0 c H ((b,.map l)::μ) act):MOk n0 c0 H0 c H μ act :=
 ⟨λq hq=>h.is q (List.mem_cons_of_mem _ hq),λq hq=>h.away q (List.mem_cons_of_mem _ hq),(List.nodup_cons.1 h.nodup).2,h.ds⟩
end Go.Av


namespace Go.D
section
variable {α:Type} [DecidableEq α]
def delA (x:α):List (α×Int)->List (α×Int)
 |[]=>[]
 |(a,w)::r=>if a=x then r else (a,w)::delA x r
end
def X9g:List (Int×Int)->Int
 |[] => -1
 |(i,n)::r=>bif decide (n=0)&&(decide (X9g r<0)||decide (i<X9g r)) then i else X9g r
def X03d (ks:List (Int×Int)) (k:Int):Nat->List (Int×Int)
 |0=>ks
 |n+1=>X03d (Xql k 0 ks) (k+1) n
def Xhd (nx:Int) (ks:List (Int×Int)):List (Int×Int)->List (Int×Int)
 |[]=>ks
 |c::cs=>Xhd nx (bif decide (c.1=nx) then Xql c.2 (IntKind.i64.wrap (getA c.2 ks - 1)) ks else ks) cs
def X03e (cs:List (Int×Int)):Nat->List (Int×Int)->List Int->Option (List Int)
 |0,_,_=>none
 |f+1,ks,out=>bif decide ((0:Int)<(ks.length:Int)) then bif decide (X9g ks<0) then some out else X03e cs f (Xhd (X9g ks) (delA (X9g ks) ks) cs) (out++[X9g ks]) else some out
def ordL (n:Nat) (cs:List (Int×Int)):Option (List Int):=X03e cs 1000 (Xua (X03d [] 0 n) (cs.map (·.2))) []
def Xak (nx:Int) (S:Int×Int->Prop):Prop:=(nx = -1/\∀ p,S p->p.2≠0)\/(0<=nx/\S (nx,0)/\∀ p,S p->p.2=0->nx<=p.1)
theorem Xak.uniq {a b:Int} {S:Int×Int->Prop} (h:Xak a S) (k:Xak b S):a=b:=by
 rcases h with ⟨h1,h2⟩|⟨h1,h2,h3⟩<;>rcases k with ⟨k1,k2⟩|⟨k1,k2,k3⟩
 ·rw[h1,k1]
 ·exact absurd rfl (h2 _ k2)
 ·exact absurd rfl (k2 _ h2)
 ·have:=h3 _ k2 rfl;have:=k3 _ h2 rfl;simp only at *;omega
theorem Xak.step {nx:Int} {S S':Int×Int->Prop} (h:Xak nx S) (i n:Int) (hi:0<=i) (hS:∀ p,S' p↔p=(i,n)\/S p):Xak (bif decide (n=0)&&(decide (nx<0)||decide (i<nx)) then i else nx) S':=by
 cases hb:(decide (n=0)&&(decide (nx<0)||decide (i<nx))) with
 |true =>
  rw[cond_true];simp only[Bool.and_eq_true,Bool.or_eq_true,decide_eq_true_eq] at hb;obtain⟨rfl,hb⟩:=hb;refine .inr ⟨hi,(hS _).2 (.inl rfl),λp hp h0=>?_⟩;rcases(hS p).1 hp with rfl|hp
  ·exact Int.le_refl _
  ·rcases h with ⟨h1,h2⟩|⟨h1,h2,h3⟩
   ·exact absurd h0 (h2 p hp)
   ·have:=h3 p hp h0;omega
 |false =>
  rw[cond_false];have hb':¬ (n=0/\(nx<0\/i<nx)):=by
   grind
  rcases h with ⟨h1,h2⟩|⟨h1,h2,h3⟩
  ·refine .inl ⟨h1,λp hp h0=>?_⟩
   grind
  ·refine .inr ⟨h1,(hS _).2 (.inr h2),λp hp h0=>?_⟩
   grind
theorem Xz4:∀ (l:List (Int×Int)),(∀ p∈l,0<=p.1)->Xak (X9g l) (·∈l):=by
 intro l
 induction l with
 |nil=>intro _;exact .inl ⟨rfl,λp hp=>by simp at hp⟩
 |cons a r ih =>
  obtain⟨i,n⟩:=a;intro h;exact(ih λp hp=>h p (List.mem_cons_of_mem _ hp)).step i n (h (i,n) (by simp)) λp=>List.mem_cons
theorem Xqk {x v:Int} (hx:0<=x):∀ {l:List (Int×Int)},(∀ p∈l,0<=p.1)->∀ p∈Xql x v l,0<=p.1:=by
 intro l
 induction l with
 |nil=>grind [Xql]
 |cons a r ih =>
  grind [Xql,List.mem_cons_of_mem]
theorem X00t {x:Int}:∀ {l:List (Int×Int)},(∀ p∈l,0<=p.1)->∀ p∈delA x l,0<=p.1:=by
 intro l
 induction l with
 |nil=>intro _ p hp;trivial
 |cons a r ih =>
  grind [delA,List.mem_cons_of_mem]
theorem Xte:∀ (n:Nat) {k:Int} {l:List (Int×Int)},0<=k->(∀ p∈l,0<=p.1)->∀ p∈X03d l k n,0<=p.1
 |0,_,_,_,h=>h
 |n+1,_,_,hk,h=>Xte n om (Xqk hk h)
theorem Xpx:∀ (cs:List Int) {l:List (Int×Int)},(∀ c∈cs,0<=c)->(∀ p∈l,0<=p.1)->∀ p∈Xua l cs,0<=p.1
 |[],_,_,h=>h
 |c::cs,_,hc,h=>Xpx cs (λx hx=>hc x (List.mem_cons_of_mem _ hx)) (Xqk (hc c (by simp)) h)
theorem Xjh (nx:Int):∀ (cs:List (Int×Int)) {l:List (Int×Int)},(∀ c∈cs,0<=c.2)->(∀ p∈l,0<=p.1)->∀ p∈Xhd nx l cs,0<=p.1
 |[],_,_,h=>h
 |c::cs,l,hc,h=>Xjh nx cs (λx hx=>hc x (List.mem_cons_of_mem _ hx)) (by
  cases decide (c.1=nx) with
  |true=>exact Xqk (hc c (by simp)) h
  |false=>exact h)
end Go.D
namespace Go.Av
open Go.D
def iV (z:Int):Value:=.int .i64 z
theorem Xzt (a b:Int) (h:iV a=iV b):a=b:=by simpa[iV] using h
section
variable {α:Type} [DecidableEq α] {e:α->Value}
theorem X08h (he:∀ a b,e a=e b->a=b) (x:α):∀ ks:List (α×Int),Xq2 (e x) (ks.map (kvE e))=(delA x ks).map (kvE e):=by
 intro ks
 induction ks with
 |nil=>rfl
 |cons p r ih =>
  obtain⟨a,w⟩:=p;by_cases h:a=x
  ·subst h;simp[Xq2,delA,kvE]
  ·have h2:¬ e a=e x:=λq=>h (he _ _ q);have ih':Xq2 (e x) (r.map (kvE e))=(delA x r).map (kvE e):=ih;simp[Xq2,delA,kvE,h,h2];exact ih'
end
theorem X05q (x:Int) (ks:List (Int×Int)):(Xo0 (.int .i64 x) (ks.map (kvE iV))).getD (.int .i64 0)=.int .i64 (getA x ks):=X08g Xzt x ks
theorem Xyj (x v:Int) (ks:List (Int×Int)):Xe3 (.int .i64 x) (.int .i64 v) (ks.map (kvE iV))=(Xql x v ks).map (kvE iV):=X08f Xzt x v ks
theorem X05r (x:Int) (ks:List (Int×Int)):Xq2 (.int .i64 x) (ks.map (kvE iV))=(delA x ks).map (kvE iV):=X08h Xzt x ks
def Xuc (ents:Array MapEntry) (seen:Array Nat) (p:Int×Int):Prop:=∃ e∈ents.toList,seen.contains e.born=true/\(e.key,e.val)=kvE iV p
theorem X0a8 {l:List MapEntry} (h:l.Pairwise (λx y=>x.born<y.born)) {x y:MapEntry} (hx:x∈l) (hy:y∈l) (he:x.born=y.born):x=y:=by
 induction l with
 |nil=>cases hx
 |cons a r ih =>
  grind [List.pairwise_cons,absurd,Nat.ne_of_lt]
theorem Xid {ents:Array MapEntry} {seen:Array Nat} {e:MapEntry}:e∈(leftOf ents seen).toList↔e∈ents.toList/\seen.contains e.born=false:=by
 simp[leftOf]
theorem X08d {ents:Array MapEntry} {seen:Array Nat} {e:MapEntry} (h:e∈(leftOf ents seen).toList):(leftOf ents (seen.push e.born)).size<(leftOf ents seen).size:=by
 have h1:(leftOf ents (seen.push e.born)).toList=(leftOf ents seen).toList.filter (λx=>x.born != e.born):=by
  unfold leftOf;rw[Array.toList_filter,Array.toList_filter,List.filter_filter]
  grind
 grind [Array.length_toList,Nat.lt_of_le_of_ne,List.length_filter_le,List.filter_eq_self,List.Sublist.eq_of_length,List.filter_sublist]
theorem Xuc.step {ents:Array MapEntry} {seen:Array Nat} (hpw:ents.toList.Pairwise (λx y=>x.born<y.born)) {e:MapEntry} {i n:Int} (he:e∈(leftOf ents seen).toList) (hv:(e.key,e.val)=kvE iV (i,n)) (p:Int×Int):Xuc ents (seen.push e.born) p↔p=(i,n)\/Xuc ents seen p:=by
 have he':=(Xid.1 he).1;constructor
 ·rintro⟨x,hx,hs,hp⟩;rw[Array.contains_push] at hs;by_cases hb:x.born=e.born
  ·have:=X0a8 hpw hx he' hb;subst this;rw[hv] at hp;refine .inl ?_;obtain⟨a,b⟩:=p;simp[kvE,iV] at hp
   grind
  ·refine .inr ⟨x,hx,?_,hp⟩
   grind
 ·rintro(rfl|⟨x,hx,hs,hp⟩)
  ·exact⟨e,he',by grind,hv⟩
  ·exact⟨x,hx,by grind,hp⟩
theorem Xuc.all {ents:Array MapEntry} {seen:Array Nat} {ks:List (Int×Int)} (hl:ents.toList.map (λe=>(e.key,e.val))=ks.map (kvE iV)) (h0:(leftOf ents seen).size=0) (p:Int×Int):Xuc ents seen p↔p∈ks:=by
 have hinj:∀ a b:Int×Int,kvE iV a=kvE iV b->a=b:=by
  rintro⟨a,b⟩ ⟨c,d⟩ h;simp[kvE,iV] at h;rw[h.1,h.2]
 constructor
 ·rintro⟨x,hx,_,hp⟩;have:(x.key,x.val)∈ks.map (kvE iV):=by grind
  grind
 ·intro hp;have:kvE iV p∈ents.toList.map (λe=>(e.key,e.val)):=by grind
  obtain⟨x,hx,e⟩:=List.mem_map.1 this;refine⟨x,hx,?_,e⟩
  cases hs:seen.contains x.born with
  |true=>rfl
  |false =>
   have:x∈(leftOf ents seen).toList:=Xid.2 ⟨hx,hs⟩
   grind
theorem Xuc.none {ents:Array MapEntry} (p:Int×Int):¬ Xuc ents #[] p:=by rintro⟨x,_,h,_⟩;simp at h
theorem Xvk {ents:Array MapEntry} {seen:Array Nat} {ks:List (Int×Int)} {nx:Int} (hl:ents.toList.map (λe=>(e.key,e.val))=ks.map (kvE iV)) (h0:(leftOf ents seen).size=0) (hge:∀ p∈ks,0<=p.1) (h:Xak nx (Xuc ents seen)):X9g ks=nx:=by
 have e:Xuc ents seen=(·∈ks):=funext λp=>propext (Xuc.all hl h0 p);rw[e] at h;exact(Xz4 ks hge).uniq h
theorem X09i {ents:Array MapEntry} {ks:List (Int×Int)} (hl:ents.toList.map (λe=>(e.key,e.val))=ks.map (kvE iV)) {e:MapEntry} (he:e∈ents.toList):∃ p∈ks,e.key=.int .i64 p.1/\e.val=.int .i64 p.2:=by
 have:(e.key,e.val)∈ks.map (kvE iV):=by grind
 obtain⟨q,hq,e'⟩:=List.mem_map.1 this;simp[kvE,iV] at e'
 grind
theorem Xfm {ents:Array MapEntry}:Xak (-1) (Xuc ents #[]):=.inl ⟨rfl,λp hp=>absurd hp (Xuc.none p)⟩
end Go.Av


namespace Go.Av
open Go.ChangeShapes Go.RowKit
section
variable {H:Type} {enc:TypeId×Value->H} {P:Program} {w:World}
theorem law_contractG [Gls] {f:Nat} {fn:Func} {s:ChangeSpec} {n tb:Nat} (hl:laidOutB P=true) (hpl:∀ t∈fn.params.toList,plainTy P n t=true)
  (hrd:∀ t∈fn.params.toList,P.readableRec t=true/\t<P.types.size) (hres:fn.resultTypes=#[tb]) (htb:P.underlying tb=some .bool) (hsv:s.vars=[])
  (hs:∀ ds:List (DataW H),ds.length=fn.params.size->s.fn H ds={ results:=[.lit (.bool true)],args:=ds })
  (hp:∀ as,Xq6 (λt a=>X43 P n t a) fn.params.toList as->X15 P f as (.sc (.bool true)))
  (W:World) (hG:GF (lawCtx W)) (base:Nat) (args:Array Value) (ds gs:List (DataW H)) (before:List MemPlace)
  (hval:∀ (j:Nat) t v,fn.params[j]?=some t->args[j]?=some v->Value.okWide P W .any base t v)
  (hW:DataW.Whole enc P fn.params.toList s.vars false W args.toList ds gs before) :
  Calls P f args W λe W'=>∃ v,e=.returned v/\s.post enc P fn false true false false W args v W':=by
 have hlt:=hW.lt;have hW0:=hW;obtain⟨p,q,hA,hV,rfl,hfz,hnd⟩:=hW;rw[hsv] at hV;obtain⟨rfl,rfl⟩:=trodVars_none hV;simp only[List.append_nil] at hlt hW0;have hlen:ds.length=fn.params.size:=by
  have:∀ (ts:List Nat) (vs:List Value) (ds:List (DataW H)) (ps:List MemPlace),DataW.TrodAll enc P W 0 (λ_=>true) true ts vs ds ps->ds.length=ts.length:=by
   intro ts
   induction ts with
   |nil=>intro vs ds ps h;cases vs<;>cases ds<;>simp_all [DataW.TrodAll]
   |cons t ts ih =>
    intro vs ds ps h
    cases vs with
    |nil=>simp[DataW.TrodAll] at h
    |cons v vs=>cases ds with
     |nil=>simp[DataW.TrodAll] at h
     |cons d ds=>simp only[DataW.TrodAll] at h;obtain⟨_,q,_,h2,_⟩:=h;simp[ih vs ds q h2]
  simpa using this _ _ _ _ hA
 obtain⟨as,h1,h2,h3⟩:=Xf3 (n:=n) fn.params.toList args.toList ds p hpl (λj t v hj hv=>by
  have:=hval j t v (by simpa using hj) (by simpa using hv);exact Value.okWide_any_base this) hA
 have hrel:Xaj (lawCtx W) true as args:=⟨by simpa using h2,λi a v ha hv=>h3 i a v ha (by simpa using hv)⟩;refine((hp as h1).2 W (λb=>b<W.heap.size) args (λb hb=>hb) hG hrel).mono ?_;rintro e W' ⟨v,rfl,hv,hb⟩;have hvt:v=.bool true:=hv.sc_inv;subst hvt;refine⟨_,rfl,ds,[],p,[],p,[],hW0,?_,?_,?_,?_,λh=>by cases h⟩
 ·rw[List.append_nil,hs ds hlen,hres];exact trodAll_cons_mk (shut_bool htb _) trodAll_mk0
 ·rw[List.append_nil,hs ds hlen];exact Xf2 hl hb.toBelow _ _ _ _ hrd hlt hA
 ·rw[List.append_nil,hs ds hlen,hsv];simp[DataW.TrodVars]
 ·exact hb.frame _
end
theorem byteRow_of_laid {P:Program} {name:String} {g t tb n:Nat} {l:List (String×DataW Unit)} {zs:List Int} {W:World} (h:laidMetH P l W)
  (hf:l.filter (λx=>x.1==name)=[(name,.agg (zs.map λz=>.lit (.int .u8 z)))]) (hh:((DataW.agg (zs.map λz=>.lit (.int .u8 z)):DataW Unit).handleName?)=none)
  (hg:P.globalNamed name=some g) (ht:(P.globals[g]?).map (·.type)=some t) (hu:P.underlying t=some (.array n tb)) (hb:P.underlying tb=some (.int .u8)) (hc:P.cellsOf tb=1) (hn:zs.length=n) :
  ∀ (k:Nat) v,(zs.map λz=>Value.int .u8 z)[k]?=some v->W.cell? ⟨g,k,none⟩=some v/\v.oneCell'=true:=by
 have h1:=h.filter λx=>x.1==name;rw[hf] at h1;rw[MakeChecks.laidMetH_plain _ _ _ (by simp[hh])] at h1;obtain⟨ps,⟨g0,t0,cs,fuel,p,q,hg0,ht0,hv,hd,_,_⟩,_,_⟩:=h1;obtain rfl:=Option.some.inj (hg.symm.trans hg0);obtain rfl:=Option.some.inj (ht.symm.trans ht0);obtain⟨xs,m,_,ex,_,hl,hel⟩:=DataW.trod_array hu hd;intro r v hr;have hr1:r<zs.length:=by simpa using(List.getElem?_eq_some_iff.1 hr).1
 have hE:=hel r om;rw[hc,Nat.mul_one,List.getElem?_eq_getElem om] at hE;obtain⟨z,e1,e2,_⟩:=DataW.trod_int hb hE;have e3:(xs.map (·.1))=zs.map λz=>.lit (.int .u8 z):=(DataW.agg.inj (Prod.mk.inj ex).1).symm;have e4:(xs.map (·.1))[r]?=(zs.map λz=>(DataW.lit (.int .u8 z):DataW Unit))[r]?:=by rw[e3]
 rw[List.getElem?_map,List.getElem?_map,List.getElem?_eq_getElem (by omega:r<xs.length),List.getElem?_eq_getElem hr1,e2] at e4;have hz:z=zs[r]:=by simpa using e4
 rw[List.getElem?_map,List.getElem?_eq_getElem hr1] at hr;have hv':v=.int .u8 z:=by rw[hz];exact(Option.some.inj hr).symm
 subst hv';refine⟨?_,rfl⟩;rw[World.var?_cell hg hv r];have:cs.toList[r]?=some (.int .u8 z):=by
  have h0:((cs.toList.drop r).take 1)[0]?=some (.int .u8 z):=by rw[e1];rfl
  simpa using h0
 simpa using this
theorem goesBy_none {P:Program} {c:OpenClaim} (h:P.funcs.any Func.goes=false) (hs:c.start=.entering):false=c.goesBy P:=by
 have h1:∀ g:Nat,(P.funcs[g]?).any Func.goes=false:=by
  intro g
  cases hg:P.funcs[g]? with
  |none=>rfl
  |some fn =>
   obtain⟨hlt,he⟩:=Array.getElem?_eq_some_iff.1 hg;have:=(Array.any_eq_false.1 h) g hlt;rw[he] at this;simpa using this
 have h2:∀ f,P.goes f=false:=by
  intro f;unfold Program.goes;rw[h,Bool.and_false,Bool.or_false];simp only[h1];simp
 unfold OpenClaim.goesBy Program.goesAt Program.goesFrom;rw[hs]
 cases P.funcNamed c.func with
 |none=>rfl
 |some f=>simp[h2]
end Go.Av
end
