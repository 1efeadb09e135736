/- Parts of the proof, laid together. -/
import Derived.Test.YtiabgnmhobiooaaAva
import Derived.RangeFuncLeaves
import Derived.IntWalk
import Derived.MapKept
import Derived.RangeFuncIn
set_option linter.all false

namespace Go.Av
def Xjb:Op->Bool
 |.move _|.assign _|.pick ..|.binOp ..|.unOp ..|.convert ..|.fieldAddr ..|.field ..|.extract ..|.nilCheck _|.index ..|.slice _ _ none (some (.const _)) none=>true
 |_=>false
def X43 (i mi:Nat):Nat->List Oper->List Nat->List Nat
 |k,o::r,m::ms =>
  let rest:=X43 i mi (k+1) r ms
  match o.dst with
  |none=>rest
  |some d=>bif Nat.beq k i then rest else bif Nat.blt k i then (bif Nat.testBit mi k then rest else d::rest) else (bif Nat.testBit m i then rest else d::rest)
 |_,_,_=>[]
def Xht (t:Nat):List Nat->Bool
 |[]=>false
 |a::r=>Nat.beq t a||Xht t r
theorem Xcl {t:Nat} {l:List Nat}:Xht t l=true↔t∈l:=by
 induction l with
 |nil=>simp[Xht]
 |cons a r ih=>simp only[Xht,Bool.or_eq_true,Nat.beq_eq,ih,List.mem_cons]
theorem Xih {i mi : Nat} : ∀ (l : List Oper) (ms : List Nat) (k0 k : Nat) (o : Oper) (m d : Nat), l[k]? = some o -> ms[k]? = some m -> o.dst = some d -> k0 + k ≠ i ->
    (k0+k<i->Nat.testBit mi (k0+k)=false)->(i<k0+k->Nat.testBit m i=false)->d∈X43 i mi k0 l ms:=by
  intro l
  induction l with
  |nil=>intro ms k0 k o m d ho;simp at ho
  |cons a l ih =>
    intro ms k0 k o m d ho hm hd hne h1 h2
    cases ms with
    |nil=>simp at hm
    |cons b ms =>
      cases k with
      |zero =>
        simp at ho hm;subst ho hm;simp only[X43,hd];have hb:Nat.beq k0 i=false:=by rw[<-Bool.not_eq_true,Nat.beq_eq];simpa using hne
        rw[hb,cond_false];by_cases hlt:k0<i
        · have:Nat.blt k0 i=true:=by simpa using hlt
          have h1':Nat.testBit mi k0=false:=h1 (by simpa using hlt);rw[this,cond_true,h1'];exact List.mem_cons_self ..
        · have:Nat.blt k0 i=false:=by rw[<-Bool.not_eq_true];simpa using hlt
          rw[this,cond_false,h2 (by simp at hne;omega)];exact List.mem_cons_self ..
      |succ k =>
        simp at ho hm;have:=ih ms (k0+1) k o m d ho hm hd om (λh=>by have:=h1 om;rwa [show k0+1+k=k0+(k+1) by omega]) (λh=>h2 om);simp only[X43]
        cases a.dst with
        |none=>exact this
        |some d' =>
          simp only[];cases Nat.beq k0 i<;>simp only[cond_true,cond_false]<;>first
            |exact this
            | (cases Nat.blt k0 i <;> simp only [cond_true, cond_false]
               · cases Nat.testBit b i<;>simp only[cond_true,cond_false]
                 · exact List.mem_cons_of_mem _ this
                 · exact this
               · cases Nat.testBit mi k0<;>simp only[cond_true,cond_false]
                 · exact List.mem_cons_of_mem _ this
                 · exact this)
def frD (bad:List Nat) (A:Nat->AV):Nat->AV:=λt=>bif Xht t bad then .junk else A t
def Xcm (base mi o:Nat):Nat->List X30->Bool
 |k,e::es=>(Xht o (e.objs (base+k))&&!Nat.testBit mi k)||Xcm base mi o (k+1) es
 |_,[]=>false
def X95 (base mi:Nat) (hf:Nat->Bool) (es:List X30) (o:Nat):Bool :=
 hf o||(Nat.ble base o&&!Nat.testBit mi (o - base))||Xcm base mi o 0 es
def hpD (base mi:Nat) (hf:Nat->Bool) (es:List X30) (H:X07):X07:=λo=>bif X95 base mi hf es o then none else H o
def X4f (base mk:Nat) (os:List Nat):Nat->List (Nat×(Nat->Bool))->List X30->List X30->Bool
 |i,(mi,hf)::ms,pre,e::es =>
  (Nat.testBit mk i||os.all (λo=>X95 base mi hf pre o&&!Xht o (e.objs (base+i))))&&X4f base mk os (i+1) ms (pre++[e]) es
 |_,_,_,_=>true
theorem Xeg {base mi o:Nat}:∀ (es:List X30) (k0 k:Nat) (e:X30),es[k]?=some e->Xcm base mi o k0 es=false->o∈e.objs (base+(k0+k))->Nat.testBit mi (k0+k)=true:=by
 intro es
 induction es with
 |nil=>intro k0 k e he;simp at he
 |cons a es ih =>
  intro k0 k e he h ho;simp only[Xcm,Bool.or_eq_false_iff] at h
  cases k with
  |zero =>
   simp at he;subst he;have hm:Xht o (a.objs (base+k0))=true:=Xcl.2 (by simpa using ho);have:=h.1;rw[hm,Bool.true_and] at this;simpa using this
  |succ k =>
   simp at he;have:=ih (k0+1) k e he h.2 (by rwa [show k0+1+k=k0+(k+1) by omega])
   rwa [show k0+(k+1)=k0+1+k by omega]
theorem Xgb {base mk:Nat} {os:List Nat}:∀ (es:List X30) (i0:Nat) (ms:List (Nat×(Nat->Bool))) (pre:List X30),X4f base mk os i0 ms pre es=true->ms.length=es.length ->
  ∀ (i:Nat) (e:X30) (m:Nat×(Nat->Bool)),es[i]?=some e->ms[i]?=some m->Nat.testBit mk (i0+i)=true\/∀ o∈os,X95 base m.1 m.2 (pre++es.take i) o=true/\o ∉ e.objs (base+(i0+i)):=by
 intro es
 induction es with
 |nil=>intro i0 ms pre h hl i e m he;simp at he
 |cons a es ih =>
  intro i0 ms pre h hl i e m he hm
  cases ms with
  |nil=>simp at hl
  |cons b ms =>
   obtain⟨mi,hf⟩:=b;simp only[X4f,Bool.and_eq_true] at h
   cases i with
   |zero =>
    simp at he hm;subst he hm;rcases Bool.or_eq_true_iff.1 h.1 with h1|h1
    ·exact .inl h1
    ·right;intro o ho;have:=List.all_eq_true.1 h1 o ho;simp only[Bool.and_eq_true,Bool.not_eq_true',<-Bool.not_eq_true,Xcl] at this;refine⟨by simpa using this.1,by simpa using this.2⟩
   |succ i =>
    simp at he hm;have:=ih (i0+1) ms (pre++[a]) h.2 (by simpa using hl) i e m he hm;rw[show i0+(i+1)=i0+1+i by omega];simpa using this
def X8r (nt:Nat) (bad:List Nat):Option Nat->Bool
 |some d=>Nat.blt d nt&&!Xht d bad
 |none=>true
def Xha (want:Bool):Value->Bool
 |.bool b=>b==want
 |_=>false
def hz0 (o:Oper) (_:Nat):Bool:=Xjb o.op
inductive Xnp (hz:Oper->Nat->Bool) (P:Program) (T:Ty) (nt base:Nat) (ops:Array Oper) (ms:List Nat):Nat->List Oper->(Nat->AV)->X07->List X30->(Nat->AV)->X07->Prop
 |nil {i A H es}:Xnp hz P T nt base ops ms i [] A H es A H
 |op {i o l A H es a e A' H'} (hg:o.guard=none) (hd:X8r nt (X43 i (ms.getD i 0) 0 ops.toList ms) o.dst=true)
   (h:DOp P T (frD (X43 i (ms.getD i 0) 0 ops.toList ms) A) (hpD base (ms.getD i 0) (hz o) es H) (base+i) o a e)
   (hw:X4f base (ms.getD i 0) (e.objs (base+i)) 0 ((ms.zip (ops.toList.map hz)).take i) [] es=true)
   (k:Xnp hz P T nt base ops ms (i+1) l (X9f A o.dst a) (e.go (base+i) H) (es++[e]) A' H'):Xnp hz P T nt base ops ms i (o::l) A H es A' H'
 |run {i o l A H es a e A' H' j t want} (hg:o.guard=some (j,want)) (hd:X8r nt (X43 i (ms.getD i 0) 0 ops.toList ms) o.dst=true) (hj:(ops[j]?).bind (·.dst)=some t) (ht:Nat.blt t nt=true)
   (hb:X87 (frD (X43 i (ms.getD i 0) 0 ops.toList ms) A t)=.sc (.bool want))
   (h:DOp P T (frD (X43 i (ms.getD i 0) 0 ops.toList ms) A) (hpD base (ms.getD i 0) (hz o) es H) (base+i) o a e)
   (hw:X4f base (ms.getD i 0) (e.objs (base+i)) 0 ((ms.zip (ops.toList.map hz)).take i) [] es=true)
   (k:Xnp hz P T nt base ops ms (i+1) l (X9f A o.dst a) (e.go (base+i) H) (es++[e]) A' H'):Xnp hz P T nt base ops ms i (o::l) A H es A' H'
 |skip {i o l A H es A' H' j t want v} (hg:o.guard=some (j,want)) (hd:X8r nt (X43 i (ms.getD i 0) 0 ops.toList ms) o.dst=true) (hj:(ops[j]?).bind (·.dst)=some t) (ht:Nat.blt t nt=true)
   (hb:X87 (frD (X43 i (ms.getD i 0) 0 ops.toList ms) A t)=.sc v) (hbw:Xha want v=false)
   (k:Xnp hz P T nt base ops ms (i+1) l (X9f A o.dst (.sc undef)) H (es++[.none]) A' H'):Xnp hz P T nt base ops ms i (o::l) A H es A' H'
inductive Xtj (hz:Oper->Nat->Bool) (P:Program) (T:Ty) (nt base:Nat) (ops:Array Oper) (ms:List Nat) (i:Nat) (o:Oper) (A:Nat->AV) (H:X07) (es:List X30):AV->X30->Prop
 |run {a e} (hg:o.guard=none\/∃ j t want,o.guard=some (j,want)/\(ops[j]?).bind (·.dst)=some t/\t<nt/\X87 (frD (X43 i (ms.getD i 0) 0 ops.toList ms) A t)=.sc (.bool want))
   (h:DOp P T (frD (X43 i (ms.getD i 0) 0 ops.toList ms) A) (hpD base (ms.getD i 0) (hz o) es H) (base+i) o a e):Xtj hz P T nt base ops ms i o A H es a e
 |skip {j t want v} (hg:o.guard=some (j,want)) (hj:(ops[j]?).bind (·.dst)=some t) (ht:t<nt)
   (hb:X87 (frD (X43 i (ms.getD i 0) 0 ops.toList ms) A t)=.sc v) (hbw:Xha want v=false):Xtj hz P T nt base ops ms i o A H es (.sc undef) .none
def X4p (l:List Oper) (rs:List (AV×X30)) (k:Nat) (A:Nat->AV):Nat->AV :=
 match l[k]?,rs[k]? with
 |some o,some r=>X9f A o.dst r.1
 |_,_=>A
def X4t (base:Nat) (rs:List (AV×X30)) (k:Nat) (H:X07):X07 :=
 match rs[k]? with
 |some r=>r.2.go (base+k) H
 |none=>H
structure Xtk (hz:Oper->Nat->Bool) (P:Program) (T:Ty) (nt base:Nat) (ops:Array Oper) (ms:List Nat) (A:Nat->AV) (H:X07) (rs:List (AV×X30)):Prop where
 len:rs.length=ops.toList.length
 one:∀ (i:Nat) o r,ops.toList[i]?=some o->rs[i]?=some r->X8r nt (X43 i (ms.getD i 0) 0 ops.toList ms) o.dst=true /\
  Xtj hz P T nt base ops ms i o (X0t (X4p ops.toList rs) (λ_=>true) i A) (X0t (X4t base rs) (λ_=>true) i H) ((rs.take i).map (·.2)) r.1 r.2 /\
  X4f base (ms.getD i 0) (r.2.objs (base+i)) 0 ((ms.zip (ops.toList.map hz)).take i) [] ((rs.take i).map (·.2))=true
theorem Xhk {base mk i:Nat}:∀ (es:List X30) (k:Nat) (ms:List (Nat×(Nat->Bool))) (pre:List X30),X4f base mk [] k ms pre es=true:=by
 intro es
 induction es with
 |nil=>intro k ms pre;cases ms<;>simp[X4f]
 |cons a es ih=>intro k ms pre;cases ms<;>simp[X4f,ih]
theorem Xdn {V:Type} {f g:Nat->V->V} {S:Nat->Bool}:∀ (n:Nat) (v:V),(∀ k,k<n->∀ u,f k u=g k u)->X0t f S n v=X0t g S n v
 |0,_,_=>rfl
 |n+1,v,h=>by simp only[X0t,Xdn n v (λk hk=>h k om),h n om]
theorem Xnp.all {hz:Oper->Nat->Bool} {P:Program} {T:Ty} {nt base:Nat} {ops:Array Oper} {ms:List Nat} {i:Nat} {l:List Oper} {A:Nat->AV} {H:X07} {es:List X30} {A':Nat->AV} {H':X07}
  (h:Xnp hz P T nt base ops ms i l A H es A' H'):∀ (A0:Nat->AV) (H0:X07) (rs:List (AV×X30)),i<=ops.toList.length->rs.length=i->es=rs.map (·.2)->ops.toList.drop i=l->A=X0t (X4p ops.toList rs) (λ_=>true) i A0->H=X0t (X4t base rs) (λ_=>true) i H0 ->
   (∀ (k:Nat) o r,ops.toList[k]?=some o->rs[k]?=some r->X8r nt (X43 k (ms.getD k 0) 0 ops.toList ms) o.dst=true /\
    Xtj hz P T nt base ops ms k o (X0t (X4p ops.toList rs) (λ_=>true) k A0) (X0t (X4t base rs) (λ_=>true) k H0) ((rs.take k).map (·.2)) r.1 r.2 /\
    X4f base (ms.getD k 0) (r.2.objs (base+k)) 0 ((ms.zip (ops.toList.map hz)).take k) [] ((rs.take k).map (·.2))=true) ->
   ∃ rs',Xtk hz P T nt base ops ms A0 H0 rs'/\A'=X0t (X4p ops.toList rs') (λ_=>true) ops.toList.length A0/\H'=X0t (X4t base rs') (λ_=>true) ops.toList.length H0:=by
 have ext:∀ (i:Nat) (o:Oper) (l:List Oper) (A:Nat->AV) (H:X07) (a:AV) (e:X30) (A0:Nat->AV) (H0:X07) (rs:List (AV×X30)),rs.length=i->ops.toList.drop i=o::l ->
   A=X0t (X4p ops.toList rs) (λ_=>true) i A0->H=X0t (X4t base rs) (λ_=>true) i H0 ->
   X8r nt (X43 i (ms.getD i 0) 0 ops.toList ms) o.dst=true->Xtj hz P T nt base ops ms i o A H (rs.map (·.2)) a e->X4f base (ms.getD i 0) (e.objs (base+i)) 0 ((ms.zip (ops.toList.map hz)).take i) [] (rs.map (·.2))=true ->
   (∀ (k:Nat) o r,ops.toList[k]?=some o->rs[k]?=some r->X8r nt (X43 k (ms.getD k 0) 0 ops.toList ms) o.dst=true /\
    Xtj hz P T nt base ops ms k o (X0t (X4p ops.toList rs) (λ_=>true) k A0) (X0t (X4t base rs) (λ_=>true) k H0) ((rs.take k).map (·.2)) r.1 r.2 /\
    X4f base (ms.getD k 0) (r.2.objs (base+k)) 0 ((ms.zip (ops.toList.map hz)).take k) [] ((rs.take k).map (·.2))=true) ->
   i+1<=ops.toList.length/\(rs++[(a,e)]).length=i+1/\ops.toList.drop (i+1)=l/\X9f A o.dst a=X0t (X4p ops.toList (rs++[(a,e)])) (λ_=>true) (i+1) A0/\e.go (base+i) H=X0t (X4t base (rs++[(a,e)])) (λ_=>true) (i+1) H0 /\
   (∀ (k:Nat) o r,ops.toList[k]?=some o->(rs++[(a,e)])[k]?=some r->X8r nt (X43 k (ms.getD k 0) 0 ops.toList ms) o.dst=true /\
    Xtj hz P T nt base ops ms k o (X0t (X4p ops.toList (rs++[(a,e)])) (λ_=>true) k A0) (X0t (X4t base (rs++[(a,e)])) (λ_=>true) k H0) (((rs++[(a,e)]).take k).map (·.2)) r.1 r.2 /\
    X4f base (ms.getD k 0) (r.2.objs (base+k)) 0 ((ms.zip (ops.toList.map hz)).take k) [] (((rs++[(a,e)]).take k).map (·.2))=true):=by
  intro i o l A H a e A0 H0 rs hlen hdrop hA hH hd hone hw hall;have hoi:ops.toList[i]?=some o:=by
   have:=List.getElem?_drop (xs:=ops.toList) (i:=i) (j:=0);rw[hdrop] at this;simpa using this.symm
  have hget:∀ k,k<i->(rs++[(a,e)])[k]?=rs[k]?:=λk hk=>List.getElem?_append_left om;have hA1:∀ k,k<=i->X0t (X4p ops.toList (rs++[(a,e)])) (λ_=>true) k A0=X0t (X4p ops.toList rs) (λ_=>true) k A0:=by
   intro k hk;refine Xdn k A0 λq hq u=>?_;simp only[X4p,hget q om]
  have hH1:∀ k,k<=i->X0t (X4t base (rs++[(a,e)])) (λ_=>true) k H0=X0t (X4t base rs) (λ_=>true) k H0:=by
   intro k hk;refine Xdn k H0 λq hq u=>?_;simp only[X4t,hget q om]
  have hlast:(rs++[(a,e)])[i]?=some (a,e):=by rw[<-hlen];simp
  refine⟨(List.getElem?_eq_some_iff.1 hoi).1,by simp[hlen],?_,?_,?_,?_⟩
  ·have:=congrArg List.tail hdrop;rw[List.tail_drop] at this;simpa using this
  ·show _=bif true then X4p ops.toList (rs++[(a,e)]) i (X0t _ _ i A0) else _;rw[hA1 i (Nat.le_refl _),<-hA,cond_true];simp only[X4p,hoi,hlast]
  ·show _=bif true then X4t base (rs++[(a,e)]) i (X0t _ _ i H0) else _;rw[hH1 i (Nat.le_refl _),<-hH,cond_true];simp only[X4t,hlast]
  ·intro k o' r ho' hr;by_cases hk:k<i
   ·rw[hget k hk] at hr;have:=hall k o' r ho' hr;rw[hA1 k om,hH1 k om,List.take_append_of_le_length om];exact this
   ·have hke:k=i:=by
     have:=(List.getElem?_eq_some_iff.1 hr).1;simp at this;omega
    subst hke;rw[hlast] at hr;cases hr
    rw[hoi] at ho';cases ho'
    have ht:(rs++[(a,e)]).take k=rs:=by rw[<-hlen];simp
    rw[hA1 k (Nat.le_refl _),hH1 k (Nat.le_refl _),<-hA,<-hH,ht];exact⟨hd,hone,hw⟩
 induction h with
 |@nil i A H es =>
  intro A0 H0 rs hile hlen hes hdrop hA hH hall;have hle:ops.toList.length<=i:=List.drop_eq_nil_iff.1 hdrop;have hi:i=ops.toList.length:=by omega
  subst hi;exact⟨rs,⟨hlen,hall⟩,hA,hH⟩
 |@op i o l A H es a e A' H' hg hd h hw k ih =>
  intro A0 H0 rs hile hlen hes hdrop hA hH hall;subst hes;obtain⟨h0,h1,h2,h3,h4,h5⟩:=ext i o l A H a e A0 H0 rs hlen hdrop hA hH hd (.run (.inl hg) h) hw hall;exact ih A0 H0 _ h0 h1 (by simp) h2 h3 h4 h5
 |@run i o l A H es a e A' H' j t want hg hd hj ht hb h hw k ih =>
  intro A0 H0 rs hile hlen hes hdrop hA hH hall;subst hes;obtain⟨h0,h1,h2,h3,h4,h5⟩:=ext i o l A H a e A0 H0 rs hlen hdrop hA hH hd (.run (.inr ⟨j,t,want,hg,hj,by simpa using ht,hb⟩) h) hw hall;exact ih A0 H0 _ h0 h1 (by simp) h2 h3 h4 h5
 |@skip i o l A H es A' H' j t want v hg hd hj ht hb hbw k ih =>
  intro A0 H0 rs hile hlen hes hdrop hA hH hall;subst hes;obtain⟨h0,h1,h2,h3,h4,h5⟩:=ext i o l A H (.sc undef) .none A0 H0 rs hlen hdrop hA hH hd (.skip hg hj (by simpa using ht) hb hbw) (Xhk (i:=0) _ _ _ _) hall;exact ih A0 H0 _ h0 h1 (by simp) h2 h3 h4 h5
end Go.Av


namespace Go.Av
theorem Xjh {V:Type} {f:Nat->V->V} {i:Nat}:∀ (n:Nat) (v:V),i<=n->X0t f (λk=>Nat.blt k i) n v=X0t f (λ_=>true) i v:=by
  intro n
  induction n with
  | zero => intro v h; have : i = 0 := by omega
            subst this;rfl
  |succ n ih =>
    intro v h;by_cases hi:i=n+1
    · subst hi
      refine X3p _ v λk hk=>.inr ?_;simpa using hk
    · have:Nat.blt n i=false:=by rw[<-Bool.not_eq_true];simp;omega
      simp only[X0t,this,cond_false];exact ih v om
def gA (l:List Oper) (rs:List (AV×X30)) (t:Nat) (k:Nat) (v:AV):AV :=
 match l[k]?,rs[k]? with
 |some o,some r=>if o.dst=some t then r.1 else v
 |_,_=>v
def gH (base:Nat) (rs:List (AV×X30)) (o:Nat) (k:Nat) (u:Option Obj):Option Obj :=
 match rs[k]? with
 |some r=>(r.2.at (base+k) o).getD u
 |none=>u
theorem Xch (l:List Oper) (rs:List (AV×X30)) (S:Nat->Bool) (A0:Nat->AV) (t:Nat):∀ n,X0t (X4p l rs) S n A0 t=X0t (gA l rs t) S n (A0 t):=by
 intro n
 induction n with
 |zero=>rfl
 |succ n ih =>
  simp only[X0t]
  cases S n with
  |false=>simpa using ih
  |true =>
   simp only[cond_true];rw[<-ih];unfold X4p gA
   cases l[n]? with
   |none=>rfl
   |some o =>
    cases rs[n]? with
    |none=>rfl
    |some r =>
     simp only[]
     cases hd:o.dst with
     |none=>simp[X9f]
     |some d =>
      simp only[X9f,Option.some.injEq];by_cases h:t=d
      ·subst h;rw[Xg,if_pos rfl]
      ·rw[Xh _ _ h,if_neg (λe=>h e.symm)]
theorem Xal (base:Nat) (rs:List (AV×X30)) (S:Nat->Bool) (H0:X07) (o:Nat):∀ n,X0t (X4t base rs) S n H0 o=X0t (gH base rs o) S n (H0 o):=by
 intro n
 induction n with
 |zero=>rfl
 |succ n ih =>
  simp only[X0t]
  cases S n with
  |false=>simpa using ih
  |true =>
   simp only[cond_true];rw[<-ih];unfold X4t gH
   cases rs[n]? with
   |none=>rfl
   |some r=>rfl
def Xk2:Nat->List Oper->Bool
 |i,o::l=>(Xa7 o).all (λj=>Nat.blt j i)&&Xk2 (i+1) l
 |_,[]=>true
theorem Xez:∀ (l:List Oper) (i0:Nat),Xk2 i0 l=true->∀ (i:Nat) o,l[i]?=some o->∀ j∈Xa7 o,j<i0+i:=by
 intro l
 induction l with
 |nil=>intro i0 h i o ho;simp at ho
 |cons a l ih =>
  intro i0 h i o ho j hj;simp only[Xk2,Bool.and_eq_true] at h
  cases i with
  |zero =>
   simp at ho;subst ho;simpa using List.all_eq_true.1 h.1 j hj
  |succ i =>
   have:=ih (i0+1) h.2 i o (by simpa using ho) j hj;omega
section
variable {hz:Oper->Nat->Bool} {P:Program} {T:Ty} {nt n0 base:Nat} {ops:Array Oper} {A0:Nat->AV} {H0:X07} {rs:List (AV×X30)}
structure Xuz (l:List Oper) (S:Nat->Bool):Prop where
 lt:∀ k,S k=true->k<l.length
 pre:∀ (k:Nat),S k=true->∀ q,((X1r l).getD k 0).testBit q=true->S q=true
theorem Xtx (hall:Xtk hz P T nt base ops (X1r ops.toList) A0 H0 rs) {S:Nat->Bool} (hS:Xuz ops.toList S) {i:Nat} (hi:i<ops.toList.length) (hn:S i=false)
  (hr:∀ q,((X1r ops.toList).getD i 0).testBit q=true->S q=true) {t:Nat} (ht:Xht t (X43 i ((X1r ops.toList).getD i 0) 0 ops.toList (X1r ops.toList))=false) :
  X0t (X4p ops.toList rs) (λ_=>true) i A0 t=X0t (X4p ops.toList rs) S ops.toList.length A0 t:=by
 rw[Xch,Xch,<-Xjh ops.toList.length _ om];refine X3p _ _ λk hk=>?_;have ho:=List.getElem?_eq_getElem hk;have hml:k<(X1r ops.toList).length:=by rw[(Xaq _).len];exact hk
 by_cases hd:(ops.toList[k]).dst=some t
 ·right;have hnot:t ∉ X43 i ((X1r ops.toList).getD i 0) 0 ops.toList (X1r ops.toList):=λh=>by rw[Xcl.2 h] at ht;cases ht
  have hmk:(X1r ops.toList)[k]?=some ((X1r ops.toList).getD k 0):=by simp[List.getD,hml]
  by_cases hki:k=i
  ·subst hki;rw[hn];exact(show Nat.blt k k=false by rw[<-Bool.not_eq_true,Nat.blt_eq];omega)
  ·by_cases hlt:k<i
   ·have hb:Nat.blt k i=true:=by simpa using hlt
    rw[hb]
    cases hq:Nat.testBit ((X1r ops.toList).getD i 0) k with
    |true=>exact(hr k hq).symm
    |false =>
     exact absurd (Xih (i:=i) (mi:=(X1r ops.toList).getD i 0) _ _ 0 k _ _ t ho hmk hd om (λ_=>by simpa using hq) (λh=>by omega)) hnot
   ·have hb:Nat.blt k i=false:=by rw[<-Bool.not_eq_true];simpa using hlt
    rw[hb]
    cases hq:Nat.testBit ((X1r ops.toList).getD k 0) i with
    |true =>
     cases hs:S k with
     |false=>rfl
     |true=>have:=hS.pre k hs i hq;rw[hn] at this;cases this
    |false =>
     exact absurd (Xih (i:=i) (mi:=(X1r ops.toList).getD i 0) _ _ 0 k _ _ t ho hmk hd om (λh=>by omega) (λ_=>hq)) hnot
 ·left;intro u;unfold gA;rw[ho]
  cases rs[k]? with
  |none=>rfl
  |some r=>simp only[if_neg hd]
theorem Xes (hall:Xtk hz P T nt base ops (X1r ops.toList) A0 H0 rs) {k i o:Nat} {r ri:AV×X30} (hr:rs[k]?=some r) (hri:rs[i]?=some ri) (hik:i<k) (ho:o∈r.2.objs (base+k)) :
  Nat.testBit ((X1r ops.toList).getD k 0) i=true \/
   (X95 base ((X1r ops.toList).getD i 0) ((ops.toList[i]?).elim (λ_=>false) hz) ((rs.take i).map (·.2)) o=true/\o ∉ ri.2.objs (base+i)):=by
 have hk:k<rs.length:=(List.getElem?_eq_some_iff.1 hr).1;have hkl:k<ops.toList.length:=by rw[<-hall.len];exact hk
 obtain⟨_,_,hw⟩:=hall.one k _ r (List.getElem?_eq_getElem hkl) hr;have hml:(X1r ops.toList).length=ops.toList.length:=(Xaq _).len;have hil:i<ops.toList.length:=by omega
 have:=Xgb _ 0 _ [] hw (by simp[hml,hall.len]) i ri.2 ((X1r ops.toList).getD i 0,hz (ops.toList[i])) ?_ ?_
 ·simp only[Nat.zero_add,List.nil_append] at this;refine this.imp id λh=>?_;have:=h o ho;rw[<-List.map_take,List.take_take,Nat.min_eq_left om] at this;rw[List.getElem?_eq_getElem hil];exact this
 ·rw[List.getElem?_map,List.getElem?_take,if_pos hik,hri];rfl
 ·rw[List.getElem?_take,if_pos hik,List.getElem?_zip_eq_some];refine⟨?_,?_⟩
  ·have:i<(X1r ops.toList).length:=by omega
   simp only[List.getD,List.getElem?_eq_getElem this,Option.getD_some]
  ·rw[List.getElem?_map,List.getElem?_eq_getElem hil];rfl
theorem Xtw (hall:Xtk hz P T nt base ops (X1r ops.toList) A0 H0 rs) {S:Nat->Bool} (hS:Xuz ops.toList S) {i:Nat} (hi:i<ops.toList.length) (hn:S i=false)
  (hr:∀ q,((X1r ops.toList).getD i 0).testBit q=true->S q=true) {o:Nat}
  (ht:X95 base ((X1r ops.toList).getD i 0) (hz (ops.toList[i])) ((rs.take i).map (·.2)) o=false) :
  X0t (X4t base rs) (λ_=>true) i H0 o=X0t (X4t base rs) S ops.toList.length H0 o:=by
 rw[Xal,Xal,<-Xjh ops.toList.length _ om];refine X3p _ _ λk hk=>?_;have hkr:k<rs.length:=by rw[hall.len];exact hk
 have hir:i<rs.length:=by rw[hall.len];exact hi
 have hrk:=List.getElem?_eq_getElem hkr;by_cases hd:o∈(rs[k]).2.objs (base+k)
 ·right;by_cases hki:k=i
  ·subst hki;rw[hn];exact(show Nat.blt k k=false by rw[<-Bool.not_eq_true,Nat.blt_eq];omega)
  ·by_cases hlt:k<i
   ·have hb:Nat.blt k i=true:=by simpa using hlt
    rw[hb];simp only[X95,Bool.or_eq_false_iff] at ht;have:=Xeg _ 0 k (rs[k]).2 (by rw[List.getElem?_map,List.getElem?_take,if_pos hlt,hrk];rfl) ht.2 (by simpa using hd);exact(hr k (by simpa using this)).symm
   ·have hb:Nat.blt k i=false:=by rw[<-Bool.not_eq_true];simpa using hlt
    rw[hb];rcases Xes hall hrk (List.getElem?_eq_getElem hir) om hd with h|h
    ·cases hs:S k with
     |false=>rfl
     |true=>have:=hS.pre k hs i h;rw[hn] at this;cases this
    ·rw[List.getElem?_eq_getElem hi] at h;have h1:X95 base ((X1r ops.toList).getD i 0) (hz (ops.toList[i])) ((rs.take i).map (·.2)) o=true:=h.1;rw[ht] at h1;cases h1
 ·left;intro u;unfold gH;rw[hrk];simp only[X30.at_objs hd,Option.getD_none]
theorem Xpz (hall:Xtk hz P T nt base ops (X1r ops.toList) A0 H0 rs) {S:Nat->Bool} (hS:Xuz ops.toList S) {i:Nat} (hi:i<ops.toList.length) (hn:S i=false)
  {r:AV×X30} (hri:rs[i]?=some r) (hdst:X8r nt (X43 i ((X1r ops.toList).getD i 0) 0 ops.toList (X1r ops.toList)) (ops.toList[i]).dst=true) :
  X0t (X4p ops.toList rs) (λk=>S k||Nat.beq k i) ops.toList.length A0=X9f (X0t (X4p ops.toList rs) S ops.toList.length A0) (ops.toList[i]).dst r.1:=by
 funext t
 rw[Xch];have hoi:=List.getElem?_eq_getElem hi;by_cases hd:(ops.toList[i]).dst=some t
 ·rw[Xc0 hn _ _ hi]
  ·rw[hd];simp only[X9f,Xg];unfold gA;rw[hoi,hri];simp only[if_pos hd]
  ·intro k hk hs;by_cases hki:k<i
   ·exact .inr hki
   ·left;intro u;have hne:k≠i:=λh=>by subst h;rw[hn] at hs;cases hs
    have hok:=List.getElem?_eq_getElem hk;have hml:k<(X1r ops.toList).length:=by rw[(Xaq _).len];exact hk
    have hmk:(X1r ops.toList)[k]?=some ((X1r ops.toList).getD k 0):=by simp[List.getD,hml]
    have hdk:(ops.toList[k]).dst≠some t:=by
     intro hdk;rw[hd] at hdst;simp only[X8r,Bool.and_eq_true,Bool.not_eq_true'] at hdst;have hnot:t ∉ X43 i ((X1r ops.toList).getD i 0) 0 ops.toList (X1r ops.toList):=λh=>by rw[Xcl.2 h] at hdst;cases hdst.2
     cases hq:Nat.testBit ((X1r ops.toList).getD k 0) i with
     |true=>have:=hS.pre k hs i hq;rw[hn] at this;cases this
     |false=>exact hnot (Xih (i:=i) (mi:=(X1r ops.toList).getD i 0) _ _ 0 k _ _ t hok hmk hdk om (λh=>by omega) (λ_=>hq))
    unfold gA;rw[hok]
    cases rs[k]? with
    |none=>rfl
    |some r=>simp only[if_neg hdk]
 ·have:X9f (X0t (X4p ops.toList rs) S ops.toList.length A0) (ops.toList[i]).dst r.1 t=X0t (X4p ops.toList rs) S ops.toList.length A0 t:=by
   cases h:(ops.toList[i]).dst with
   |none=>rfl
   |some d=>simp only[X9f];exact Xh _ _ (λe=>hd (by rw[h,e]))
  rw[this,Xch];refine X3p _ _ λk hk=>?_;by_cases hki:k=i
  ·subst hki;left;intro u;unfold gA;rw[hoi,hri];simp only[if_neg hd]
  ·right;have:Nat.beq k i=false:=by rw[<-Bool.not_eq_true,Nat.beq_eq];exact hki
   simp[this]
theorem Xpy (hall:Xtk hz P T nt base ops (X1r ops.toList) A0 H0 rs) {S:Nat->Bool} (hS:Xuz ops.toList S) {i:Nat} (hi:i<ops.toList.length) (hn:S i=false)
  {r:AV×X30} (hri:rs[i]?=some r) :
  X0t (X4t base rs) (λk=>S k||Nat.beq k i) ops.toList.length H0=r.2.go (base+i) (X0t (X4t base rs) S ops.toList.length H0):=by
 funext o
 rw[Xal];by_cases hd:o∈r.2.objs (base+i)
 ·rw[Xc0 hn _ _ hi]
  ·unfold gH;rw[hri];simp only[X30.go];rw[Xal];rfl
  ·intro k hk hs;by_cases hki:k<i
   ·exact .inr hki
   ·left;intro u;have hne:k≠i:=λh=>by subst h;rw[hn] at hs;cases hs
    have hkr:k<rs.length:=by rw[hall.len];exact hk
    have hrk:=List.getElem?_eq_getElem hkr;have hdk:o ∉ (rs[k]).2.objs (base+k):=by
     intro hdk;rcases Xes hall hrk hri om hdk with h|h
     ·have:=hS.pre k hs i h;rw[hn] at this;cases this
     ·exact h.2 hd
    unfold gH;rw[hrk];simp only[X30.at_objs hdk,Option.getD_none]
 ·have:r.2.go (base+i) (X0t (X4t base rs) S ops.toList.length H0) o=X0t (X4t base rs) S ops.toList.length H0 o:=by
   simp only[X30.go,X30.at_objs hd,Option.getD_none]
  rw[this,Xal];refine X3p _ _ λk hk=>?_;by_cases hki:k=i
  ·subst hki;left;intro u;unfold gH;rw[hri];simp only[X30.at_objs hd,Option.getD_none]
  ·right;have:Nat.beq k i=false:=by rw[<-Bool.not_eq_true,Nat.beq_eq];exact hki
   simp[this]
theorem Xos {c0 c:Ctx} {H0 H:X07} {A:Nat->AV} {M:Nat->Prop} {act:Act} (g:X8n nt c0 H0 n0 c A H M act) {j t:Nat} {b:Bool} (hj:(ops[j]?).bind (·.dst)=some t) (ht:t<nt)
  (hb:X87 (A t)=.sc (.bool b)):yielded ops act.tmps j=some b:=by
 have h1:=g.ev (.tmp t);simp only[evA,hb] at h1;have h2:=h1.sc_inv;simp only[Act.eval] at h2;have hlt:t<act.tmps.size:=by rw[g.size];exact ht
 unfold yielded;rw[hj];simp only[Option.bind_some,Array.getElem?_eq_getElem hlt];have:act.tmps[t]=.bool b:=by simpa[hlt] using h2
 rw[this]
def AtS (base:Nat) (S:Nat->Bool) (q:Nat):Prop:=q<base\/∃ k,S k=true/\q=base+k
theorem Xd6 {md:Region.Mode} {listed:Array Bool} {i:Nat}:i∈Region.ready md ops listed ↔
  i<ops.size/\listed.getD i true=false/\((ops[i]?).map (·.after.all λe=>!Region.binds md e||listed.getD e.on false)).getD false=true:=by
 simp[Region.ready]
theorem Xlq {c0 c:Ctx} {H0 H:X07} {A:Nat->AV} {M:Nat->Prop} {act:Act} (g:X8n nt c0 H0 n0 c A H M act) {o:Oper} {j t:Nat} {want:Bool} {v:Value} (hg:o.guard=some (j,want)) (hj:(ops[j]?).bind (·.dst)=some t) (ht:t<nt)
  (hb:X87 (A t)=.sc v) (hv:Xha want v=false):Region.wanted o (yielded ops act.tmps)=false:=by
 have h1:=g.ev (.tmp t);simp only[evA,hb] at h1;have h2:=h1.sc_inv;simp only[Act.eval] at h2;have hlt:t<act.tmps.size:=by rw[g.size];exact ht
 have h3:act.tmps[t]=v:=by simpa[hlt] using h2
 unfold Region.wanted yielded;rw[hg];simp only[hj,Option.bind_some,Array.getElem?_eq_getElem hlt,h3];cases v<;>first|rfl|(simp only[Xha] at hv;simpa using hv)
theorem Xhn {o:Oper} {ys:Nat->Option Bool} (h:o.guard=none):Region.wanted o ys=true:=by simp[Region.wanted,h]
theorem Xhm {o:Oper} {ys:Nat->Option Bool} {j:Nat} {want b:Bool} (h:o.guard=some (j,want)) (hy:ys j=some b):Region.wanted o ys=(b==want):=by
 simp[Region.wanted,h,hy]
theorem Xqf (hT:X9r P T) (hpre:Xk2 0 ops.toList=true) (hall:Xtk hz P T nt base ops (X1r ops.toList) A0 H0 rs) {Q:Xr->St->Prop}
  (hQ:Q .normal ⟨X0t (X4p ops.toList rs) (λ_=>true) ops.toList.length A0,X0t (X4t base rs) (λ_=>true) ops.toList.length H0,base+ops.toList.length⟩)
  {c0:Ctx} {HH:X07} {ds:List Deferred} (hb0:n0<=base) :
  ∀ (fuel:Nat) (listed:Array Bool) (L:List Nat) (c:Ctx) (act:Act),listed.size=ops.size->L.length<=fuel->(∀ k,k<ops.size->listed.getD k false=false->k∈L) ->
   (∀ (i:Nat) o,ops.toList[i]?=some o->listed.getD i false=true->∀ j∈Xa7 o,listed.getD j false=true) ->
   X8n nt c0 HH n0 c (X0t (X4p ops.toList rs) (λk=>listed.getD k false) ops.toList.length A0) (X0t (X4t base rs) (λk=>listed.getD k false) ops.toList.length H0)
    (AtS base (λk=>listed.getD k false)) act ->
   act.defers=ds->wpAny P .any ops (CQ nt c0 HH n0 ds Q) fuel listed act c.w:=by
 have hlen:ops.toList.length=ops.size:=Array.length_toList;have fin:∀ (listed:Array Bool) (c:Ctx) (act:Act),listed.size=ops.size->(∀ (i:Nat) o,ops.toList[i]?=some o->listed.getD i false=true->∀ j∈Xa7 o,listed.getD j false=true) ->
   X8n nt c0 HH n0 c (X0t (X4p ops.toList rs) (λk=>listed.getD k false) ops.toList.length A0) (X0t (X4t base rs) (λk=>listed.getD k false) ops.toList.length H0)
    (AtS base (λk=>listed.getD k false)) act->Region.ready .any ops listed=[]->act.defers=ds->CQ nt c0 HH n0 ds Q .normal act c.w:=by
  intro listed c act hsz hdown g hr hds;have hfull:∀ k,k<ops.size->listed.getD k false=true:=by
   intro k
   induction k using Nat.strongRecOn with
   |_ k ih =>
    intro hk
    cases hl:listed.getD k false with
    |true=>rfl
    |false =>
     have hkl:k<listed.size:=by omega
     have hmem:k∈Region.ready .any ops listed:=by
      rw[Xd6];refine⟨hk,?_,?_⟩
      ·simp only[Array.getD_eq_getD_getElem?,Array.getElem?_eq_getElem hkl,Option.getD_some] at hl ⊢;exact hl
      ·rw[Array.getElem?_eq_getElem hk];simp only[Option.map_some,Option.getD_some];rw[Array.all_eq_true_iff_forall_mem];intro e he
       cases hbd:Region.binds .any e with
       |false=>rfl
       |true =>
        have hpk:ops.toList[k]?=some ops[k]:=by simp[hk]
        have hin:e.on∈Xa7 ops[k]:=List.mem_map.2 ⟨e,List.mem_filter.2 ⟨by simpa using he,hbd⟩,rfl⟩;have hlt:=Xez _ 0 hpre k _ hpk e.on hin;rw[ih e.on om om];rfl
     rw[hr] at hmem;cases hmem
  have hcongr:∀ k,k<ops.toList.length->listed.getD k false=true:=λk hk=>hfull k om;refine⟨c,⟨_,_,_⟩,.normal,rfl,?_,hds,rfl,hQ⟩;have hA:X0t (X4p ops.toList rs) (λk=>listed.getD k false) ops.toList.length A0=X0t (X4p ops.toList rs) (λ_=>true) ops.toList.length A0 :=
   X3p _ _ λk hk=>.inr (hcongr k hk)
  have hH:X0t (X4t base rs) (λk=>listed.getD k false) ops.toList.length H0=X0t (X4t base rs) (λ_=>true) ops.toList.length H0 :=
   X3p _ _ λk hk=>.inr (hcongr k hk)
  rw[hA,hH] at g;have hM:∀ q,AtS base (λk=>listed.getD k false) q->q<base+ops.toList.length:=by
   rintro q (h|⟨k,hk,rfl⟩)
   ·omega
   ·have:k<listed.size:=by
     cases Nat.lt_or_ge k listed.size with
     |inl h=>exact h
     |inr h=>simp[Array.getD_eq_getD_getElem?,Array.getElem?_eq_none h] at hk
    omega
  exact⟨g.inv.more hM,g.solo,g.frame,λt=>(g.ok t).mono hM,g.size,g.reach,by show n0<=base+_;omega⟩
 intro fuel
 induction fuel with
 |zero =>
  intro listed L c act hsz hL hin hdown g hds;have hnil:L=[]:=List.length_eq_zero_iff.1 om;subst hnil;have hr:Region.ready .any ops listed=[]:=by
   rw[List.eq_nil_iff_forall_not_mem];intro i hi;rw[Xd6] at hi;obtain⟨h1,h2,_⟩:=hi;have:=hin i h1 (by
    have hil:i<listed.size:=by omega
    simp only[Array.getD_eq_getD_getElem?,Array.getElem?_eq_getElem hil,Option.getD_some] at h2 ⊢;exact h2)
   cases this
  exact⟨hr,fin listed c act hsz hdown g hr hds⟩
 |succ fuel ih =>
  intro listed L c act hsz hL hin hdown g hds;refine⟨λhr=>fin listed c act hsz hdown g hr hds,λi hi=>?_⟩;rw[Xd6] at hi;obtain⟨h1,h2,h3⟩:=hi;have hil:i<listed.size:=by omega
  have hli:listed.getD i false=false:=by
   simp only[Array.getD_eq_getD_getElem?,Array.getElem?_eq_getElem hil,Option.getD_some] at h2 ⊢;exact h2
  have hi':i<ops.toList.length:=by omega
  have hoi:ops.toList[i]?=some ops.toList[i]:=List.getElem?_eq_getElem hi';have hoa:ops[i]?=some ops.toList[i]:=by rw[<-Array.getElem?_toList];exact hoi
  have hprei:∀ j∈Xa7 ops.toList[i],listed.getD j false=true:=by
   intro j hj;obtain⟨e,he,rfl⟩:=List.mem_map.1 hj;obtain⟨he1,he2⟩:=List.mem_filter.1 he;rw[hoa] at h3;simp only[Option.map_some,Option.getD_some] at h3;rw[Array.all_eq_true_iff_forall_mem] at h3;have:=h3 e (by simpa using he1);rw[he2] at this;simpa using this
  have hpl:∀ (i:Nat) o,ops.toList[i]?=some o->∀ j∈Xa7 o,j<i:=λi o ho j hj=>by
   have:=Xez _ 0 hpre i o ho j hj;omega
  have hcm:=Xh7 (S:=λk=>listed.getD k false) hpl hdown;have hS:Xuz ops.toList (λk=>listed.getD k false):=by
   refine⟨λk hk=>?_,λk hk q hq=>?_⟩
   ·cases Nat.lt_or_ge k listed.size with
    |inl h=>omega
    |inr h=>simp[Array.getD_eq_getD_getElem?,Array.getElem?_eq_none h] at hk
   ·have hkl:k<ops.toList.length:=by
     cases Nat.lt_or_ge k listed.size with
     |inl h=>omega
     |inr h=>simp[Array.getD_eq_getD_getElem?,Array.getElem?_eq_none h] at hk
    exact(hcm k _ (List.getElem?_eq_getElem hkl) (hdown k _ (List.getElem?_eq_getElem hkl) hk) q hq).1
  have hri:∀ q,((X1r ops.toList).getD i 0).testBit q=true->listed.getD q false=true:=λq hq=>(hcm i _ hoi hprei q hq).1;have hirs:i<rs.length:=by rw[hall.len];exact hi'
  obtain⟨hdst,hone,_⟩:=hall.one i _ _ hoi (List.getElem?_eq_getElem hirs);have hdlt:∀ d,(ops.toList[i]).dst=some d->d<nt:=by
   intro d hd;rw[hd] at hdst;simp only[X8r,Bool.and_eq_true] at hdst;simpa using hdst.1
  have hA:∀ t,frD (X43 i ((X1r ops.toList).getD i 0) 0 ops.toList (X1r ops.toList)) (X0t (X4p ops.toList rs) (λ_=>true) i A0) t=X0t (X4p ops.toList rs) (λk=>listed.getD k false) ops.toList.length A0 t \/
    frD (X43 i ((X1r ops.toList).getD i 0) 0 ops.toList (X1r ops.toList)) (X0t (X4p ops.toList rs) (λ_=>true) i A0) t=.junk:=by
   intro t;unfold frD
   cases ht:Xht t (X43 i ((X1r ops.toList).getD i 0) 0 ops.toList (X1r ops.toList)) with
   |true=>exact .inr rfl
   |false=>exact .inl (Xtx hall hS hi' hli hri ht)
  have hV:∀ o x,hpD base ((X1r ops.toList).getD i 0) (hz (ops.toList[i])) ((rs.take i).map (·.2)) (X0t (X4t base rs) (λ_=>true) i H0) o=some x ->
    X0t (X4t base rs) (λk=>listed.getD k false) ops.toList.length H0 o=some x:=by
   intro o x hx;unfold hpD at hx
   cases ht:X95 base ((X1r ops.toList).getD i 0) (hz (ops.toList[i])) ((rs.take i).map (·.2)) o with
   |true=>rw[ht] at hx;cases hx
   |false =>
    rw[ht,cond_false] at hx;rw[<-Xtw hall hS hi' hli hri ht];exact hx
  have hid:¬ AtS base (λk=>listed.getD k false) (base+i):=by
   rintro(h|⟨k,hk,h⟩)
   ·omega
   ·have:k=i:=by omega
    subst this;have hk':listed.getD k false=true:=hk;rw[hli] at hk';cases hk'
  have hMb:∀ q,AtS base (λk=>listed.getD k false) q->q<base+ops.toList.length:=by
   rintro q (h|⟨k,hk,rfl⟩)
   ·omega
   ·have:=hS.lt k hk;omega
  have hset:∀ k,(listed.setIfInBounds i true).getD k false=(listed.getD k false||Nat.beq k i):=by
   intro k;simp only[Array.getD_eq_getD_getElem?];by_cases hk:k=i
   ·subst hk;rw[Array.getElem?_setIfInBounds_self,if_pos hil];simp
   ·rw[Array.getElem?_setIfInBounds_ne (λe=>hk e.symm)];have:Nat.beq k i=false:=by rw[<-Bool.not_eq_true,Nat.beq_eq];exact hk
    rw[this,Bool.or_false]
  have hfn:(λk=>(listed.setIfInBounds i true).getD k false)=(λk=>listed.getD k false||Nat.beq k i):=funext hset;have after:∀ (c':Ctx) (v:Value) (e:X30),e=(rs[i]).2 ->
    X8n nt c0 HH n0 c' (X9f (X0t (X4p ops.toList rs) (λk=>listed.getD k false) ops.toList.length A0) (ops.toList[i]).dst (rs[i]).1)
     (e.go (base+i) (X0t (X4t base rs) (λk=>listed.getD k false) ops.toList.length H0)) (λq=>AtS base (λk=>listed.getD k false) q\/q=base+i) (act.put (ops.toList[i]).dst v) ->
    wpAny P .any ops (CQ nt c0 HH n0 ds Q) fuel (listed.setIfInBounds i true) (act.put (ops.toList[i]).dst v) c'.w:=by
   rintro c' v _ rfl g';have hiL:i∈L:=hin i h1 hli;refine ih _ (L.erase i) c' _ (by simpa using hsz) (by rw[List.length_erase_of_mem hiL];omega) ?_ ?_ ?_ ((put_defers _ _ _).trans hds)
   ·intro k hk hlk;rw[hset] at hlk;have h4:=Bool.or_eq_false_iff.1 hlk;have hne:k≠i:=λh=>by subst h;simp at h4
    exact(List.mem_erase_of_ne hne).2 (hin k hk h4.1)
   ·intro k o ho hk j hj;rw[hset] at hk ⊢;rcases Bool.or_eq_true_iff.1 hk with hk|hk
    ·rw[hdown k o ho hk j hj];rfl
    ·have:k=i:=by simpa using hk
     subst this;rw[hoi] at ho;cases ho;rw[hprei j hj];rfl
   ·rw[hfn,Xpz hall hS hi' hli (List.getElem?_eq_getElem hirs) hdst,Xpy hall hS hi' hli (List.getElem?_eq_getElem hirs)];have hMM:(AtS base λk=>listed.getD k false||Nat.beq k i)=(λq=>AtS base (λk=>listed.getD k false) q\/q=base+i):=by
     funext q
     apply propext;constructor
     ·rintro(h|⟨k,hk,rfl⟩)
      ·exact .inl (.inl h)
      ·rcases Bool.or_eq_true_iff.1 hk with hk|hk
       ·exact .inl (.inr ⟨k,hk,rfl⟩)
       ·have:k=i:=by simpa using hk
        exact .inr (by rw[this])
     ·rintro((h|⟨k,hk,rfl⟩)|rfl)
      ·exact .inl h
      ·exact .inr ⟨k,by simp[hk],rfl⟩
      ·exact .inr ⟨i,by simp,rfl⟩
    rw[hMM];exact g'
  unfold wpOp;rw[hoa];simp only[];have gj:=g.junk hA;generalize hre:(rs[i]).2=ef at hone after;generalize hra:(rs[i]).1=av at hone after
  cases hone with
  |@run a e hg h =>
   have hw:Region.wanted (ops.toList[i]) (yielded ops act.tmps)=true:=by
    rcases hg with hg|⟨j,t,want,hg,hj,ht,hb⟩
    ·exact Xhn hg
    ·rw[Xhm hg (Xos gj hj ht hb)];simp
   rw[if_pos hw];left;refine DOp.step hT g hMb hA hV hid h hdlt _ _ λc' v g'=>?_;exact after c' v _ rfl g'
  |@skip j t want v hg hj ht hb hbw =>
   have hw:Region.wanted (ops.toList[i]) (yielded ops act.tmps)=false:=Xlq gj hg hj ht hb hbw;rw[if_neg (by rw[hw];simp)];refine after c undef _ rfl ?_;rw[X30.go_none];exact g.next hdlt (.refl c) rfl (λb hb=>.inl hb) (.refl c _) (λq x hx=>.inr ⟨q,x,hx,rfl⟩) (g.inv.more λq h=>.inl h) g.solo (λq=>.inl) .sc .sc
theorem X3b.drew {c0 c:Ctx} {s:St} {act:Act} {HH:X07} (g:X3b nt c0 HH n0 c s act):X3b nt c0 HH n0 { c with w:={ c.w with drawn:=c.w.drawn+1 } } s act:=by
 have hle:c.Le (λ_=>True) { c with w:={ c.w with drawn:=c.w.drawn+1 } }:=⟨λ_ _=>rfl,λ_ h=>h,λ_ h=>h,λ_ _=>rfl,rfl⟩;have all:∀ {a:AV} {M:Nat->Prop},a.Ok M->a.Ok (λ_=>True):=λh=>h.mono λ_ _=>trivial;have r:=g.reach;refine⟨⟨λo x hx=>?_,g.inv.sep,g.inv.stab,g.inv.lt,g.inv.base,g.inv.own,g.inv.low⟩,g.solo,λt=>(g.frame t).mono hle (.inr (all (g.ok t))),g.ok,g.size,⟨r.rho,r.os,r.tape,⟨r.output.1,Nat.le_trans r.output.2 (Nat.le_succ _)⟩,r.size,r.block,r.stable,r.sa,r.so1,r.so2,r.B,r.own⟩,g.le0⟩;obtain⟨h1,⟨⟨cur,hb,hs,hc⟩,h3,h4,h5⟩,h6⟩:=g.inv.obj o x hx;refine⟨h1,⟨⟨cur,hb,hs,λi e he=>?_⟩,h3,h4,h5⟩,h6⟩;obtain⟨g1,g2⟩:=hc i e he;exact⟨g1,λk a ha=>by obtain⟨v,hv,hr,h7⟩:=g2 k a ha;exact⟨v,hv,hr.mono hle (.inr (all (h6 e (List.mem_of_getElem? he) a (List.mem_of_getElem? ha)))),h7⟩⟩
theorem Xij.drawn {s:St} {id:Nat} {Q:Xr->St->Prop} {A':Nat->AV} {H':X07} (hm:P.follows .mixedOrders=true) (hT:X9r P T) (hpre:Xk2 0 ops.toList=true)
  (hrun:Xnp hz P T nt s.n ops (X1r ops.toList) 0 ops.toList s.A s.H [] A' H') (hQ:Q .normal ⟨A',H',s.n+ops.toList.length⟩):Xij P nt n0 (.region id ops true) Q s:=by
 obtain⟨rs,hall,hA,hH⟩:=hrun.all s.A s.H [] (Nat.zero_le _) rfl rfl rfl rfl rfl (λk o r _ hr=>by simp at hr);subst hA hH;intro c0 HH c act g0 R hR;have g:=g0.drew;refine Xe3 hm hR (by rintro a w ⟨c,s,ae,_,_,_,h,_⟩;cases ae<;>cases h) ?_;have hzz:∀ k,(Array.replicate ops.size false).getD k false=false:=by
  intro k;simp only[Array.getD_eq_getD_getElem?,Array.getElem?_replicate];split<;>rfl
 have hfn:(λk=>(Array.replicate ops.size false).getD k false)=(λ_=>false):=funext hzz;refine Xqf hT hpre hall hQ g.le0 ops.size _ (List.range ops.size) { c with w:={ c.w with drawn:=c.w.drawn+1 } } act (by simp) (by simp) (λk hk _=>List.mem_range.2 hk) (λi o _ h=>by rw[hzz] at h;cases h) ?_ rfl;rw[hfn,Xbo,Xbo];have hM:∀ q,q<s.n->AtS s.n (λ_=>false) q:=λq h=>.inl h;exact⟨g.inv.more hM,g.solo,g.frame,λt=>(g.ok t).mono hM,g.size,g.reach,λq hq=>hM q (Nat.lt_of_lt_of_le hq g.le0)⟩
end
end Go.Av


namespace Go.Av
def Xnc (H:X07):AV->Option (AV×Nat)
 |.ptr o i k=>match H o with
  |some x=>match x.es[i]? with
   |some e=>some (e,k)
   |none=>none
  |none=>none
 |.elem _ e k=>some (e,k)
 |_=>none
theorem Xnb {H:X07} {p e:AV} {k:Nat} (h:Xnc H p=some (e,k)):Xhe H p e k:=by
 unfold Xnc at h;split at h
 ·split at h
  ·split at h
   ·cases h;exact .ptr (by assumption) (by assumption)
   ·cases h
  ·cases h
 ·cases h;exact .elem
 ·cases h
def Xv7 (T:Ty) (op:BinOp) (t:Nat):AV->AV->Option AV
 |.sc (.int k a),.sc (.int k' b) =>
  match op with
  |.quo=>if k=k' then (if b≠0 then some (.sc (.int k (k.wrap (a.tdiv b)))) else none) else none
  |.rem=>if k=k' then (if b≠0 then some (.sc (.int k (a.tmod b))) else none) else none
  |.shl=>if 0<=b then some (.sc (.int k (k.wrap (a*2 ^ (min b.toNat k.bits))))) else none
  |.shr=>if 0<=b then some (.sc (.int k (a.fdiv (2 ^ (min b.toNat k.bits))))) else none
  |op=>if k=k' then (match Xja op k a b with|some v=>some (.sc v)|none=>none) else none
 |.sc (.bool a),.sc (.bool b)=>match T t with
  |some ti=>match ti.kind with
   |.bool=>match op with
    |.eql=>some (.sc (.bool (a==b)))
    |.neq=>some (.sc (.bool (!(a==b))))
    |_=>none
   |_=>none
  |none=>none
 |.agg xs,.agg ys=>match T t with
  |some ti=>if ti.eqok=true then (match op with
   |.eql=>match eqT T 10000 t (.agg xs) (.agg ys) with|some r=>some (.sc (.bool r))|none=>none
   |.neq=>match eqT T 10000 t (.agg xs) (.agg ys) with|some r=>some (.sc (.bool (!r)))|none=>none
   |_=>none) else none
  |none=>none
 |_,_=>none
theorem Xnm {T:Ty} {ev:Operand->AV} {H:X07} {op:BinOp} {t yt:Nat} {x y:Operand} {a:AV} (h:Xv7 T op t (ev x) (ev y)=some a):Pu T ev H (.binOp op t x y yt) a:=by
 generalize hx:ev x=u at h;generalize hy:ev y=v at h;unfold Xv7 at h;split at h
 ·split at h
  ·split at h
   ·rename_i hk;subst hk;split at h
    ·cases h;exact .quo hx hy (by assumption)
    ·cases h
   ·cases h
  ·split at h
   ·rename_i hk;subst hk;split at h
    ·cases h;exact .rem hx hy (by assumption)
    ·cases h
   ·cases h
  ·split at h
   ·cases h;exact .shl hx hy (by assumption)
   ·cases h
  ·split at h
   ·cases h;exact .shr hx hy (by assumption)
   ·cases h
  ·split at h
   ·rename_i hk;subst hk;split at h
    ·cases h;exact .binInt hx hy (by assumption)
    ·cases h
   ·cases h
 ·split at h
  ·split at h
   ·split at h
    ·cases h;exact .boolEq hx hy (by assumption) (by assumption)
    ·cases h;exact .boolNe hx hy (by assumption) (by assumption)
    ·cases h
   ·cases h
  ·cases h
 ·split at h
  ·split at h
   ·split at h
    ·split at h
     ·cases h;exact .aggEq hx hy (by assumption) (by assumption) (by assumption)
     ·cases h
    ·split at h
     ·cases h;exact .aggNe hx hy (by assumption) (by assumption) (by assumption)
     ·cases h
    ·cases h
   ·cases h
  ·cases h
 ·cases h
def unF (op:UnOp):AV->Option AV
 |.sc (.int k n)=>match op with
  |.neg=>some (.sc (.int k (k.wrap (0 - n))))
  |_=>none
 |.sc (.bool b)=>match op with
  |.not=>some (.sc (.bool (!b)))
  |_=>none
 |_=>none
def Xtb (T:Ty) (src dst:Nat):AV->Option AV
 |.sc (.int _ n)=>match T src with
  |some _=>match T dst with
   |some td=>match td.kind with
    |.int k'=>some (.sc (.int k' (k'.wrap n)))
    |_=>none
   |none=>none
  |none=>none
 |.sc (.string s)=>match T src with
  |some _=>match T dst with
   |some td=>match td.kind with
    |.string=>some (.sc (.string s))
    |_=>none
   |none=>none
  |none=>none
 |_=>none
def Xf3 (T:Ty) (s f:Nat):Option (Nat×TI) :=
 match T s with
 |some ti=>match ti.kind with
  |.struct fs=>match fs[f]? with
   |some (off,ft)=>match T ft with
    |some tf=>some (off,tf)
    |none=>none
   |none=>none
  |_=>none
 |none=>none
theorem Xax {T:Ty} {s f off:Nat} {tf:TI} (h:Xf3 T s f=some (off,tf)):∃ ti fs ft,T s=some ti/\ti.kind=.struct fs/\fs[f]?=some (off,ft)/\T ft=some tf:=by
 unfold Xf3 at h;split at h
 ·split at h
  ·split at h
   ·split at h
    ·cases h;exact⟨_,_,_,by assumption,by assumption,by assumption,by assumption⟩
    ·cases h
   ·cases h
  ·cases h
 ·cases h
def X3c (T:Ty) (t:Nat):Option TI :=
 match T t with
 |some ti=>match ti.kind with
  |.slice et=>T et
  |_=>none
 |none=>none
theorem X1j {T:Ty} {t:Nat} {te:TI} (h:X3c T t=some te):∃ ti et,T t=some ti/\ti.kind=.slice et/\T et=some te:=by
 unfold X3c at h;split at h
 ·split at h
  ·exact⟨_,_,by assumption,by assumption,h⟩
  ·cases h
 ·cases h
def Xek (T:Ty) (t:Nat):Option (Nat×TI) :=
 match T t with
 |some ti=>match ti.kind with
  |.array n et=>match T et with
   |some te=>some (n,te)
   |none=>none
  |_=>none
 |none=>none
theorem X7i {T:Ty} {t n:Nat} {te:TI} (h:Xek T t=some (n,te)):∃ ti et,T t=some ti/\ti.kind=.array n et/\T et=some te:=by
 unfold Xek at h;split at h
 ·split at h
  ·split at h
   ·cases h;exact⟨_,_,by assumption,by assumption,by assumption⟩
   ·cases h
  ·cases h
 ·cases h
def ixF (T:Ty) (H:X07) (t:Nat) (x:AV) (i:Int):Option AV :=
 match x with
 |.list own es=>match X3c T t with
  |some te=>match es[i.toNat]? with
   |some e=>if e.cells.length=te.size then some (.elem own e 0) else none
   |none=>none
  |none=>none
 |.ref o off len=>match X3c T t with
  |some te=>if i<len then (match H o with
   |some y=>match y.es[off+i.toNat]? with
    |some e=>if e.cells.length=te.size then some (.ptr o (off+i.toNat) 0) else none
    |none=>none
   |none=>none) else none
  |none=>none
 |.ptr o j q=>match Xek T t with
  |some (n,te)=>if i<n then some (.ptr o j (q+i.toNat*te.size)) else none
  |none=>none
 |.elem own e q=>match Xek T t with
  |some (n,te)=>if i<n then some (.elem own e (q+i.toNat*te.size)) else none
  |none=>none
 |_=>none
def bdF (ev:Operand->AV):Option Operand->Nat->Option Nat
 |none,d=>some d
 |some x,_=>match ev x with
  |.sc (.int _ z)=>if 0<=z then some z.toNat else none
  |_=>none
theorem X7h {ev:Operand->AV} {o:Option Operand} {d n:Nat} (h:bdF ev o d=some n):Bd ev o d n:=by
 unfold bdF at h;split at h
 ·cases h;exact .dflt
 ·split at h
  ·split at h
   ·cases h;exact .given (by assumption) (by assumption)
   ·cases h
  ·cases h
def Xqq (T:Ty) (ev:Operand->AV) (H:X07) (t:Nat) (x:AV) (lo hi:Option Operand):Option AV :=
 match x with
 |.list own es=>match X3c T t with
  |some te=>match bdF ev lo 0,bdF ev hi es.length with
   |some l,some h=>if l<=h then (if h<=es.length then (if es.all (λe=>e.cells.length==te.size) then some (.list own ((es.drop l).take (h - l))) else none) else none) else none
   |_,_=>none
  |none=>none
 |.ref o off len=>match X3c T t with
  |some te=>match bdF ev lo 0,bdF ev hi len with
   |some l,some h=>if h<=len then (if l<h then (match H o with
     |some y=>if y.es.any (λe=>e.cells.length==te.size) then some (.ref o (off+l) (h - l)) else none
     |none=>none)
    else if l=h then some (.list true []) else none) else none
   |_,_=>none
  |none=>none
 |.nils=>match X3c T t with
  |some _=>match bdF ev lo 0,bdF ev hi 0 with
   |some 0,some 0=>some .nils
   |_,_=>none
  |none=>none
 |_=>none
def puF (T:Ty) (ev:Operand->AV) (H:X07):Op->Option AV
 |.move x=>some (ev x)
 |.assign x=>some (ev x)
 |.pick c a b=>match ev c with
  |.sc (.bool true)=>some (ev a)
  |.sc (.bool false)=>some (ev b)
  |_=>none
 |.load t x=>match T t with
  |some ti=>match Xnc H (ev x) with
   |some (e,k)=>Xhv ti e k
   |none=>none
  |none=>none
 |.nilCheck x=>match ev x with
  |.ptr o i k=>some (.ptr o i k)
  |.elem own e k=>some (.elem own e k)
  |.fn f caps=>some (.fn f caps)
  |_=>none
 |.binOp op t x y _=>Xv7 T op t (ev x) (ev y)
 |.unOp op _ x=>unF op (ev x)
 |.convert src dst x=>Xtb T src dst (ev x)
 |.fieldAddr s x f=>match Xf3 T s f with
  |some (off,tf)=>if tf.size≠0 then (match ev x with
   |.ptr o i k=>some (.ptr o i (k+off))
   |.elem own e k=>some (.elem own e (k+off))
   |_=>none) else none
  |none=>none
 |.field s x f=>match Xf3 T s f with
  |some (off,tf)=>match ev x with
   |.agg cs=>eqT.partA tf cs off
   |_=>none
  |none=>none
 |.indexAddr t x ix=>match ev ix with
  |.sc (.int _ i)=>if 0<=i then ixF T H t (ev x) i else none
  |_=>none
 |.index t x ix=>match ev ix with
  |.sc (.int _ i)=>if 0<=i then (match ev x with
   |.agg cs=>match Xek T t with
    |some (n,te)=>if i<n then eqT.partA te cs (i.toNat*te.size) else none
    |none=>none
   |_=>none) else none
  |_=>none
 |.slice t x lo hi none=>Xqq T ev H t (ev x) lo hi
 |.slice t x none (some hi) (some mx)=>match X3c T t with
  |some _=>match bdF ev (some hi) 0,bdF ev (some mx) 0 with
   |some 0,some 0=>match ev x with
    |.list _ _=>some .nils
    |.ref _ _ _=>some .nils
    |.nils=>some .nils
    |_=>none
   |_,_=>none
  |none=>none
 |.extract x i=>match ev x with
  |.tup cs=>cs[i]?
  |_=>none
 |.makeFunc (.func f) ⟨[]⟩ caps=>some (.fn f (caps.toList.map ev))
 |.call { callee:=.builtin .len,args:=⟨[x]⟩,argTypes:=⟨[t]⟩ }=>match T t with
  |some ti=>match ti.kind with
   |.slice _=>match ev x with
    |.list own es=>some (.sc (.int .i64 es.length))
    |.ref _ _ n=>some (.sc (.int .i64 n))
    |.nils=>some (.sc (.int .i64 (0:Nat)))
    |_=>none
   |.string=>match ev x with
    |.sc (.string s)=>some (.sc (.int .i64 s.size))
    |_=>none
   |.array n _=>some (.sc (.int .i64 n))
   |_=>none
  |none=>none
 |.call { callee:=.builtin .min,args:=⟨[x,y]⟩,argTypes:=_ }=>match ev x,ev y with
  |.sc (.int k a),.sc (.int k' b)=>if k=k' then some (.sc (.int k (if b<a then b else a))) else none
  |_,_=>none
 |.call { callee:=.builtin .max,args:=⟨[x,y]⟩,argTypes:=_ }=>match ev x,ev y with
  |.sc (.int k a),.sc (.int k' b)=>if k=k' then some (.sc (.int k (if b>a then b else a))) else none
  |_,_=>none
 |.build t ps=>match T t with
  |some ti=>match X2a ti.zero with
   |.agg cs=>match ti.kind with
    |.struct fs=>if fs.all (λp=>(T p.2).isSome) then (match Xej (λi=>(fs[i]?).map λp=>(p.1,((T p.2).map (·.size)).getD 0)) cs (ps.toList.map λp=>(p.1,ev p.2)) with
     |some r=>some (.agg r)
     |none=>none) else none
    |.array _ et=>match T et with
     |some te=>match Xej (λi=>some (i*te.size,te.size)) cs (ps.toList.map λp=>(p.1,ev p.2)) with
      |some r=>some (.agg r)
      |none=>none
     |none=>none
    |_=>none
   |_=>none
  |none=>none
 |_=>none
theorem Xd7 {T:Ty} {ev:Operand->AV} {H:X07} {op:Op} {a:AV} (h:puF T ev H op=some a):Pu T ev H op a:=by
 unfold puF at h;split at h
 ·cases h;exact .move
 ·cases h;exact .assign
 ·split at h
  ·cases h;exact .pick (by assumption) (λ_=>rfl) (λh=>by cases h)
  ·cases h;exact .pick (by assumption) (λh=>by cases h) (λ_=>rfl)
  ·cases h
 ·split at h
  ·split at h
   ·exact .load (by assumption) (Xnb (by assumption)) h
   ·cases h
  ·cases h
 ·split at h
  ·rename_i hx;cases h;rw[<-hx];exact .nilCheckPtr hx
  ·rename_i hx;cases h;rw[<-hx];exact .nilCheckElem hx
  ·rename_i hx;cases h;rw[<-hx];exact .nilCheckFn hx
  ·cases h
 ·exact Xnm h
 ·unfold unF at h;split at h
  ·split at h
   ·cases h;exact .neg (by assumption)
   ·cases h
  ·split at h
   ·cases h;exact .not (by assumption)
   ·cases h
  ·cases h
 ·unfold Xtb at h;split at h
  ·split at h
   ·split at h
    ·split at h
     ·cases h;exact .conv (by assumption) (by assumption) (by assumption) (by assumption)
     ·cases h
    ·cases h
   ·cases h
  ·split at h
   ·split at h
    ·split at h
     ·cases h;exact .convStr (by assumption) (by assumption) (by assumption) (by assumption)
     ·cases h
    ·cases h
   ·cases h
  ·cases h
 ·split at h
  ·rename_i hf;obtain⟨ti,fs,ft,h1,h2,h3,h4⟩:=Xax hf;split at h
   ·split at h
    ·cases h;exact .fieldAddrPtr (by assumption) h1 h2 h3 h4 (by assumption)
    ·cases h;exact .fieldAddrElem (by assumption) h1 h2 h3 h4 (by assumption)
    ·cases h
   ·cases h
  ·cases h
 ·split at h
  ·rename_i hf;obtain⟨ti,fs,ft,h1,h2,h3,h4⟩:=Xax hf;split at h
   ·exact .field (by assumption) h1 h2 h3 h4 h
   ·cases h
  ·cases h
 ·split at h
  ·rename_i hix;split at h
   ·rename_i h0;unfold ixF at h;split at h
    ·split at h
     ·rename_i hs;obtain⟨ti,et,h1,h2,h3⟩:=X1j hs;split at h
      ·split at h
       ·cases h;exact .indexList (by assumption) hix h0 h1 h2 h3 (by assumption) (by assumption)
       ·cases h
      ·cases h
     ·cases h
    ·split at h
     ·rename_i hs;obtain⟨ti,et,h1,h2,h3⟩:=X1j hs;split at h
      ·split at h
       ·split at h
        ·split at h
         ·cases h;exact .indexRef (by assumption) hix h0 (by assumption) h1 h2 h3 (by assumption) (by assumption) (by assumption)
         ·cases h
        ·cases h
       ·cases h
      ·cases h
     ·cases h
    ·split at h
     ·rename_i hs;obtain⟨ti,et,h1,h2,h3⟩:=X7i hs;split at h
      ·cases h;exact .indexArr (by assumption) hix h0 (by assumption) h1 h2 h3
      ·cases h
     ·cases h
    ·split at h
     ·rename_i hs;obtain⟨ti,et,h1,h2,h3⟩:=X7i hs;split at h
      ·cases h;exact .indexArrElem (by assumption) hix h0 (by assumption) h1 h2 h3
      ·cases h
     ·cases h
    ·cases h
   ·cases h
  ·cases h
 ·split at h
  ·rename_i hix;split at h
   ·rename_i h0;split at h
    ·split at h
     ·rename_i hs;obtain⟨ti,et,h1,h2,h3⟩:=X7i hs;split at h
      ·exact .indexAgg (by assumption) hix h0 (by assumption) h1 h2 h3 h
      ·cases h
     ·cases h
    ·cases h
   ·cases h
  ·cases h
 ·unfold Xqq at h;split at h
  ·split at h
   ·rename_i hs;obtain⟨ti,et,h1,h2,h3⟩:=X1j hs;split at h
    ·split at h
     ·split at h
      ·split at h
       ·rename_i hall;cases h
        exact .sliceList (by assumption) (X7h (by assumption)) (X7h (by assumption)) (by assumption) (by assumption) h1 h2 h3 (λe he=>by simpa using List.all_eq_true.1 hall e he)
       ·cases h
      ·cases h
     ·cases h
    ·cases h
   ·cases h
  ·split at h
   ·rename_i hs;obtain⟨ti,et,h1,h2,h3⟩:=X1j hs;split at h
    ·split at h
     ·split at h
      ·split at h
       ·split at h
        ·rename_i hany;cases h
         obtain⟨e,he,hc⟩:=List.any_eq_true.1 hany;exact .sliceRef (by assumption) (X7h (by assumption)) (X7h (by assumption)) (by assumption) (by assumption) h1 h2 h3 (by assumption) ⟨e,he,by simpa using hc⟩
        ·cases h
       ·cases h
      ·split at h
       ·rename_i hl hh hle _ heq;cases h
        subst heq;exact .sliceRef0 (by assumption) (X7h hl) (X7h hh) hle h1 h2 h3
       ·cases h
     ·cases h
    ·cases h
   ·cases h
  ·split at h
   ·rename_i hs;obtain⟨ti,et,h1,h2,h3⟩:=X1j hs;split at h
    ·cases h;exact .sliceNils (by assumption) (X7h (by assumption)) (X7h (by assumption)) h1 h2 h3
    ·cases h
   ·cases h
  ·cases h
 ·split at h
  ·rename_i hs;obtain⟨ti,et,h1,h2,h3⟩:=X1j hs;split at h
   ·split at h
    ·rename_i hx;cases h;exact .sliceClone (by rw[hx];rfl) (λs=>by rw[hx];simp) (X7h (by assumption)) (X7h (by assumption)) h1 h2 h3
    ·rename_i hx;cases h;exact .sliceClone (by rw[hx];rfl) (λs=>by rw[hx];simp) (X7h (by assumption)) (X7h (by assumption)) h1 h2 h3
    ·rename_i hx;cases h;exact .sliceClone (by rw[hx];rfl) (λs=>by rw[hx];simp) (X7h (by assumption)) (X7h (by assumption)) h1 h2 h3
    ·cases h
   ·cases h
  ·cases h
 ·split at h
  ·exact .extract (by assumption) h
  ·cases h
 ·cases h;exact .makeFunc
 ·split at h
  ·split at h
   ·split at h
    ·rename_i hx;cases h;exact .lenSlice (by rw[hx];rfl) (by assumption) (by assumption) (λs=>by rw[hx];simp)
    ·rename_i hx;cases h;exact .lenSlice (by rw[hx];rfl) (by assumption) (by assumption) (λs=>by rw[hx];simp)
    ·rename_i hx;cases h;exact .lenSlice (by rw[hx];rfl) (by assumption) (by assumption) (λs=>by rw[hx];simp)
    ·cases h
   ·split at h
    ·cases h;exact .lenStr (by assumption) (by assumption) (by assumption)
    ·cases h
   ·cases h;exact .lenArr (by assumption) (by assumption)
   ·cases h
  ·cases h
 ·split at h
  ·split at h
   ·rename_i hk;subst hk;cases h;exact .min2 (by assumption) (by assumption)
   ·cases h
  ·cases h
 ·split at h
  ·split at h
   ·rename_i hk;subst hk;cases h;exact .max2 (by assumption) (by assumption)
   ·cases h
  ·cases h
 ·split at h
  ·split at h
   ·split at h
    ·split at h
     ·rename_i hall;split at h
      ·cases h
       refine .buildS (by assumption) (by assumption) (by assumption) (λp hp0=>?_) (by assumption);have:=List.all_eq_true.1 hall p hp0;exact Option.isSome_iff_exists.1 this
      ·cases h
     ·cases h
    ·split at h
     ·split at h
      ·cases h;exact .buildA (by assumption) (by assumption) (by assumption) (by assumption) (by assumption)
      ·cases h
     ·cases h
    ·cases h
   ·cases h
  ·cases h
 ·cases h
end Go.Av


namespace Go.Av
end Go.Av


namespace Go.Av
end Go.Av


namespace Go.Av
end Go.Av


namespace Go.Av
theorem Xij.scope {P:Program} {nt n0:Nat} {s:St} {Q:Xr->St->Prop} {c:Code} (h:Xij P nt n0 c Q s):Xij P nt n0 (.scope c) Q s:=by
 intro c0 H0 cx act g R hR;have hR2:=hR.scope;obtain rfl:=hR rfl;refine Xaf.2 (wp_scope_straight (Code.wp_mono ?_ (Xaf.1 (h c0 H0 cx act g none hR2))));rintro e a w ⟨c',s',ae,rfl,g',hd,rfl,hq⟩
 cases ae with
 |normal=>exact⟨c',s',.normal,rfl,g',hd,rfl,hq⟩
 |exit id=>exact⟨c',s',.exit id,rfl,g',hd,rfl,hq⟩
 |ret=>exact⟨c',s',.ret,rfl,g',hd,rfl,hq⟩
end Go.Av


namespace Go.Av
def Xkm (w:World) (b:Nat) (l:List (Value×Value)):Prop :=
 ∃ es clock,w.heap[b]?=some (.map es clock)/\es.toList.map (λe=>(e.key,e.val))=l/\es.toList.Pairwise (λx y=>x.born<y.born)/\∀ e∈es.toList,e.born<clock
theorem Xkm.lt {w:World} {b:Nat} {l:List (Value×Value)} (h:Xkm w b l):b<w.heap.size:=by
 obtain⟨es,clock,hb,_⟩:=h;exact(Array.getElem?_eq_some_iff.1 hb).1
inductive MuE where
 |map (l:List (Value×Value))
 |mark
 |blk (o:Go.Obj)
 |loop (r:Loop) (nt m:Nat) (A:Nat->AV)
instance:Coe (List (Value×Value)) MuE:=⟨.map⟩
abbrev Mu:=List (Nat×MuE)
def Xrb (n0:Nat) (c:Ctx) (b:Nat):MuE->Prop
 |.map l=>Xkm c.w b l
 |.mark=>c.w.heap[b]?=some (.deferred (some []))
 |.blk o=>c.w.heap[b]?=some o
 |.loop r nt m A=>(c.w.heap[b]?=some (.loop r)/\r.tmps.size=nt)/\m<=n0/\(∀ t,(A t).Ok (·<m))/\∀ t,X0l c false (A t) (r.tmps.getD t undef)
theorem Xrb.lt {n0:Nat} {c:Ctx} {b:Nat} {x:MuE} (h:Xrb n0 c b x):b<c.w.heap.size:=by
 cases x with
 |map l=>exact Xkm.lt h
 |mark=>exact(Array.getElem?_eq_some_iff.1 h).1
 |blk o=>exact(Array.getElem?_eq_some_iff.1 h).1
 |loop r nt m A=>exact(Array.getElem?_eq_some_iff.1 h.1.1).1
theorem Xrb.le {n0:Nat} {c c':Ctx} {b:Nat} {x:MuE} (h:Xrb n0 c b x) (hb:c'.w.heap[b]?=c.w.heap[b]?) (hle:c.Le (·<n0) c'):Xrb n0 c' b x:=by
 cases x with
 |map l=>obtain⟨es,clock,h1,h2⟩:=h;exact⟨es,clock,hb.trans h1,h2⟩
 |mark=>exact hb.trans h
 |blk o=>exact hb.trans h
 |loop r nt m A=>exact⟨⟨hb.trans h.1.1,h.1.2⟩,h.2.1,h.2.2.1,λt=>(h.2.2.2 t).mono hle (.inr ((h.2.2.1 t).mono λq hq=>Nat.lt_of_lt_of_le hq h.2.1))⟩
def Xt5:Mu->List Deferred
 |[]=>[]
 |(D,.mark)::μ=>{ target:=.collected D,args:=#[] }::Xt5 μ
 |(_,.map _)::μ=>Xt5 μ
 |(_,.blk _)::μ=>Xt5 μ
 |(_,.loop ..)::μ=>Xt5 μ
def Xgn:Mu->Bool
 |[]=>true
 |(_,.loop ..)::_=>false
 |(_,.mark)::μ=>Xgn μ
 |(_,.map _)::μ=>Xgn μ
 |(_,.blk _)::μ=>Xgn μ
structure MOk (n0:Nat) (c0 c:Ctx) (H:X07) (μ:Mu) (act:Act):Prop where
 is:∀ p∈μ,Xrb n0 c p.1 p.2
 away:∀ p∈μ,¬ c.Sa p.1/\¬ c.So p.1/\(∀ o x,H o=some x->(c.ρ o).blk≠p.1)/\c0.w.heap.size<=p.1
 nodup:(μ.map (·.1)).Nodup
 ds:act.defers=Xt5 μ
theorem MOk.nil {n0:Nat} {c0 c:Ctx} {H:X07} {act:Act} (h:act.defers=[]):MOk n0 c0 c H [] act:=⟨(λ_ h=>by cases h),(λ_ h=>by cases h),List.nodup_nil,h⟩
theorem MOk.kept {c0 c c':Ctx} {H H':X07} {n0:Nat} {μ:Mu} {act act':Act} (h:MOk n0 c0 c H μ act) (r:Reach c H n0 c' H') (hd:act'.defers=act.defers:=by first|rfl|exact put_defers _ _ _):MOk n0 c0 c' H' μ act':=by
 have hlt:∀ p∈μ,p.1<c.w.heap.size:=λp hp=>(h.is p hp).lt;have hb:∀ p∈μ,c'.w.heap[p.1]?=c.w.heap[p.1]?:=λp hp=>r.block _ (hlt p hp) (h.away p hp).2.2.1;refine⟨λp hp=>(h.is p hp).le (hb p hp) r.le,λp hp=>?_,h.nodup,hd.trans h.ds⟩;obtain⟨a1,a2,a3,a4⟩:=h.away p hp;refine⟨by rw[r.sa];exact a1,λhs=>?_,λo x hx he=>?_,a4⟩
 ·rcases r.so2 _ hs with h1|h1|⟨o,x,h1,h2⟩
  ·exact a2 h1
  ·have:=hlt p hp;omega
  ·exact a3 o x h1 h2
 ·rcases r.own o x hx with h1|⟨o',x',h1,h2⟩
  ·have:=hlt p hp;omega
  ·exact a3 o' x' h1 (h2.trans he)
theorem MOk.act {n0:Nat} {c0 c:Ctx} {H:X07} {μ:Mu} {act act':Act} (h:MOk n0 c0 c H μ act) (hd:act'.defers=act.defers:=by first|rfl|exact put_defers _ _ _):MOk n0 c0 c H μ act':=⟨h.is,h.away,h.nodup,hd.trans h.ds⟩
theorem Reach.trans {c0 c c':Ctx} {H0 H H':X07} {n0:Nat} (h:Reach c0 H0 n0 c H) (k:Reach c H n0 c' H'):Reach c0 H0 n0 c' H':=by
 refine⟨λo ho=>(k.rho o ho).trans (h.rho o ho),k.os.trans h.os,k.tape.trans h.tape,⟨k.output.1.trans h.output.1,Nat.le_trans h.output.2 k.output.2⟩,Nat.le_trans h.size k.size,?_,?_,k.sa.trans h.sa,λb hb=>k.so1 b (h.so1 b hb),?_,k.B.trans h.B,?_⟩
 ·intro b hb hn;rw[k.block b (Nat.lt_of_lt_of_le hb h.size) ?_]
  ·exact h.block b hb hn
  ·intro o x hx he;rcases h.own o x hx with h1|⟨o',x',h1,h2⟩
   ·omega
   ·exact hn o' x' h1 (h2.trans he)
 ·intro b hb;rw[k.stable b (hb.imp (λx=>by rw[h.sa];exact x) (h.so1 b))];exact h.stable b hb
 ·intro b hb;rcases k.so2 b hb with h1|h1|⟨q,y,h1,h2⟩
  ·exact h.so2 b h1
  ·exact .inr (.inl (Nat.le_trans h.size h1))
  ·rcases h.own q y h1 with h3|⟨q',y',h3,h4⟩
   ·exact .inr (.inl om)
   ·exact .inr (.inr ⟨q',y',h3,h4.trans h2⟩)
 ·intro o x hx;rcases k.own o x hx with h1|⟨q,y,h1,h2⟩
  ·exact .inl (Nat.le_trans h.size h1)
  ·rw[<-h2];exact h.own q y h1
theorem X3b.rebase {nt n0:Nat} {c0 c:Ctx} {H0:X07} {s:St} {act:Act} (g:X3b nt c0 H0 n0 c s act):X3b nt c s.H n0 c s act :=
 ⟨g.inv,g.solo,g.frame,g.ok,g.size,.refl _ _ _,g.le0⟩
theorem X3b.join {nt n0:Nat} {c0 c c':Ctx} {H0 H:X07} {s:St} {act:Act} (r:Reach c0 H0 n0 c H) (g:X3b nt c H n0 c' s act):X3b nt c0 H0 n0 c' s act :=
 ⟨g.inv,g.solo,g.frame,g.ok,g.size,r.trans g.reach,g.le0⟩
def MQ (nt:Nat) (c0:Ctx) (H0:X07) (n0:Nat) (Q:Xr->St->Mu->Prop):Exit->Act->World->Prop :=
 λe act w=>∃ c s ae μ,c.w=w/\X3b nt c0 H0 n0 c s act/\MOk n0 c0 c s.H μ act/\ae.of=e/\Q ae s μ
def X3u (P:Program) (nt n0:Nat) (code:Code) (Q:Xr->St->Mu->Prop) (s:St) (μ:Mu):Prop :=
 ∀ (c0:Ctx) (H0:X07) (c:Ctx) (act:Act),X3b nt c0 H0 n0 c s act->MOk n0 c0 c s.H μ act->∀ R,RG code R->wpR R P code (MQ nt c0 H0 n0 Q) act c.w
def X4q (P:Program) (nt n0:Nat) (ops:Array Oper) (l:List Oper) (K:St->Mu->Prop) (s:St) (μ:Mu):Prop :=
 ∀ (c0:Ctx) (H0:X07) (c:Ctx) (act:Act),X3b nt c0 H0 n0 c s act->MOk n0 c0 c s.H μ act->∀ Qx:Exit->Act->World->Prop,
  (∀ c' s' act' μ',X3b nt c0 H0 n0 c' s' act'->MOk n0 c0 c' s'.H μ' act'->K s' μ'->Qx .normal act' c'.w)->∀ R,(R=none->Xgn μ=true)->Xf6 R P ops Qx l act c.w
section
variable {P:Program} {nt n0:Nat} {s:St} {μ:Mu} {Q:Xr->St->Mu->Prop}
theorem X3u.of {code:Code} (h:Xij P nt n0 code (λe s'=>Q e s' μ) s):X3u P nt n0 code Q s μ:=by
 intro c0 H0 c act g hm R hR;refine wpIn_mono (h c s.H c act g.rebase R hR) ?_;rintro e a w ⟨c',s',ae,rfl,g2,hd,rfl,hq⟩;exact⟨c',s',ae,μ,rfl,.join g.reach g2,hm.kept g2.reach hd,rfl,hq⟩
theorem X3u.mono {code:Code} {Q':Xr->St->Mu->Prop} (h:X3u P nt n0 code Q s μ) (hq:∀ e s μ,Q e s μ->Q' e s μ):X3u P nt n0 code Q' s μ :=
 λc0 H0 c act g hm R hR=>wpIn_mono (h c0 H0 c act g hm R hR) (λ_ _ _ ⟨c,s,ae,μ,h1,h2,h3,h4,h5⟩=>⟨c,s,ae,μ,h1,h2,h3,h4,hq _ _ _ h5⟩)
theorem X3u.skip (h:Q .normal s μ):X3u P nt n0 .skip Q s μ:=.of (.skip h)
theorem X3u.label {l:Nat} (h:Q .normal s μ):X3u P nt n0 (.label l) Q s μ:=.of (.label h)
theorem X3u.exit {id:Nat} (h:Q (.exit id) s μ):X3u P nt n0 (.exit id) Q s μ:=.of (.exit h)
theorem X3u.ret (h:Q .ret s μ):X3u P nt n0 .ret Q s μ:=.of (.ret h)
def Xvy (P:Program) (nt n0:Nat) (y:Code) (Q:Xr->St->Mu->Prop):Xr->St->Mu->Prop
 |.normal,s,μ=>X3u P nt n0 y Q s μ
 |e,s,μ=>Q e s μ
theorem X3u.seq {x y:Code} (h:X3u P nt n0 x (Xvy P nt n0 y Q) s μ):X3u P nt n0 (.seq x y) Q s μ:=by
 intro c0 H0 c act g hm R hR;refine wpIn_seq (wpIn_mono (h c0 H0 c act g hm R hR.seq1) ?_);rintro e a w ⟨c',s',ae,μ',rfl,g',hm',rfl,hq⟩
 cases ae with
 |normal=>exact hq c0 H0 c' a g' hm' R hR.seq2
 |exit id=>exact⟨c',s',.exit id,μ',rfl,g',hm',rfl,hq⟩
 |ret=>exact⟨c',s',.ret,μ',rfl,g',hm',rfl,hq⟩
theorem X3u.cond {x:Operand} {a b:Code} {t:Bool} (hx:evA s.A x=.sc (.bool t)) (ht:t=true->X3u P nt n0 a Q s μ) (hf:t=false->X3u P nt n0 b Q s μ):X3u P nt n0 (.cond x a b) Q s μ:=by
 intro c0 H0 c act g hm R hR;have h1:=g.ev x;rw[hx] at h1;exact wpIn_cond_split h1.sc_inv (λh=>ht h c0 H0 c act g hm R hR.cond1) (λh=>hf h c0 H0 c act g hm R hR.cond2)
def X6a (id:Nat) (Q:Xr->St->Mu->Prop):Xr->St->Mu->Prop
 |.exit id',s,μ=>bif Nat.beq id' id then Q .normal s μ else Q (.exit id') s μ
 |e,s,μ=>Q e s μ
theorem X3u.block {id:Nat} {code:Code} (h:X3u P nt n0 code (X6a id Q) s μ):X3u P nt n0 (.block id code) Q s μ:=by
 intro c0 H0 c act g hm R hR;refine wpIn_block (wpIn_mono (h c0 H0 c act g hm R hR.block) ?_);rintro e a w ⟨c',s',ae,μ',rfl,g',hm',rfl,hq⟩
 cases ae with
 |normal=>exact⟨c',s',.normal,μ',rfl,g',hm',rfl,hq⟩
 |exit id' =>
  simp only[X6a] at hq;simp only[Xr.of,Exit.inBlock];by_cases he:id'=id
  ·subst he;simp only[Nat.beq_refl,cond_true] at hq;rw[if_pos rfl];exact⟨c',s',.normal,μ',rfl,g',hm',rfl,hq⟩
  ·have:Nat.beq id' id=false:=by rw[<-Bool.not_eq_true,Nat.beq_eq];exact he
   rw[this,cond_false] at hq;rw[if_neg he];exact⟨c',s',.exit id',μ',rfl,g',hm',rfl,hq⟩
 |ret=>exact⟨c',s',.ret,μ',rfl,g',hm',rfl,hq⟩
theorem X3u.scope {code:Code} (h:X3u P nt n0 code Q s μ):X3u P nt n0 (.scope code) Q s μ:=by
 intro c0 H0 c act g hm R hR;have hR2:=hR.scope;obtain rfl:=hR rfl;refine Xaf.2 (wp_scope_straight (Code.wp_mono ?_ (Xaf.1 (h c0 H0 c act g hm none hR2))));rintro e a w ⟨c',s',ae,μ',rfl,g',hm',rfl,hq⟩
 cases ae with
 |normal=>exact⟨c',s',.normal,μ',rfl,g',hm',rfl,hq⟩
 |exit id=>exact⟨c',s',.exit id,μ',rfl,g',hm',rfl,hq⟩
 |ret=>exact⟨c',s',.ret,μ',rfl,g',hm',rfl,hq⟩
theorem MOk.weak {c0 c c':Ctx} {s s':St} {θ:Nat->Nat} {act:Act} (hw:Xjx θ n0 s s') (hc:c'={ c with ρ:=λo=>c.ρ (θ o) }) (h:MOk n0 c0 c s.H μ act):MOk n0 c0 c' s'.H μ act:=by
 subst hc;refine⟨λp hp=>(h.is p hp).le rfl ⟨λo ho=>?_,λ_ hb=>hb,λ_ hb=>hb,λ_ _=>rfl,rfl⟩,λp hp=>?_,h.nodup,h.ds⟩
 ·show c.ρ (θ o)=c.ρ o;rw[hw.fix o ho]
 obtain⟨a1,a2,a3,a4⟩:=h.away p hp;refine⟨a1,a2,λo x' hx'=>?_,a4⟩;obtain⟨x,hx,_⟩:=hw.heap o x' hx';exact a3 _ x hx
end
end Go.Av


namespace Go.Av
section
variable {P:Program} {T:Ty} {c:Ctx} {H:X07} {M:Nat->Prop} {ev:Operand->AV} {σ:Operand->Value}
end
end Go.Av


namespace Go.Av
section
variable {P:Program} {T:Ty} {nt:Nat} {o:Oper} {s:St}
end
end Go.Av


namespace Go.Av
section
variable {P:Program} {T:Ty} {nt:Nat} {o:Oper} {s:St}
end
end Go.Av


namespace Go.Av
end Go.Av


namespace Go.Av
def hp:List (Nat×Obj)->X07
 |[],_=>none
 |(d,x)::l,o=>bif Nat.beq o d then (bif x.gone then none else some x) else hp l o
theorem Xbi:∀ {G:List (Nat×Obj)} {o:Nat} {y:Obj},hp G o=some y->y.gone=false:=by
 intro G
 induction G with
 |nil=>intro o y h;cases h
 |cons p l ih =>
  intro o y h;obtain⟨d,x⟩:=p;simp only[hp] at h
  cases hb:Nat.beq o d with
  |false=>rw[hb] at h;exact ih h
  |true =>
   rw[hb,cond_true] at h
   cases hg:x.gone with
   |true=>rw[hg] at h;cases h
   |false=>rw[hg] at h;cases h;exact hg
inductive X3t where
 |el (e:AV)
 |ld (e:AV)
 |no
 |pure (bs:List AV) (r:AV)
 |call (r:AV) (G:List (Nat×Obj)) (n:Nat)
 |go (b:Bool)
 |br (b:Bool)
 |ne (b:Bool)
 |wrap
 |ix (j:Nat)
 |stop (j:Nat)
 |via (a:AV)
 |trunc (o:Nat) (es:List AV)
 |see (l:List (Nat×List Nat))
def X3s:List Prop->Prop
 |[]=>True
 |p::r=>p/\X3s r
theorem X05 {a b:List Prop}:X3s (a++b)↔X3s a/\X3s b:=by
 induction a with
 |nil=>simp[X3s]
 |cons p a ih=>simp[X3s,ih,and_assoc]
def Xgd (g:Bool):List Prop->List Prop
 |[]=>[]
 |p::r=>(g=true->p)::Xgd g r
theorem Xcy {g:Bool} {l:List Prop} (h:X3s (Xgd g l)) (hg:g=true):X3s l:=by
 induction l with
 |nil=>trivial
 |cons p l ih=>exact⟨h.1 hg,ih h.2⟩
def X8f (v:Value):AV :=
 match v with
 |.agg ⟨vs⟩=>match vs.all (λv=>v.oneCell') with
  |true=>.agg (vs.map Xby)
  |false=>.sc (.agg ⟨vs⟩)
 |v=>Xby v
theorem X6z (v:Value):X8f v=X2a v:=by
 cases v with
 |agg vs =>
  obtain⟨vs⟩:=vs;simp only[X8f,X2a];have h1:(Array.all ⟨vs⟩ λv=>v.oneCell')=vs.all λv=>v.oneCell':=by simp
  rw[h1];cases vs.all λv=>v.oneCell'<;>rfl
 |_=>rfl
def rdA (a:AV):AV×List Prop :=
 match a with
 |.cond g v=>(v,[g=true])
 |.junk=>(.junk,[])
 |.sc v=>(.sc v,[])
 |.nils=>(.nils,[])
 |.agg cs=>(.agg cs,[])
 |.tup cs=>(.tup cs,[])
 |.list o es=>(.list o es,[])
 |.ref o f l=>(.ref o f l,[])
 |.ptr o i n=>(.ptr o i n,[])
 |.elem o e n=>(.elem o e n,[])
 |.fn f cs=>(.fn f cs,[])
 |.mref o m=>(.mref o m,[])
theorem Xu3 {a b:AV} {ps:List Prop} (h:rdA a=(b,ps)) (hp:X3s ps):X87 a=b:=by
 cases a with
 |cond g v =>
  cases h
  simp only[X3s,and_true] at hp;simp[X87,hp]
 |_=>cases h;rfl
def rd (L:List (Nat×AV)) (x:Operand):AV×List Prop :=
 match x with
 |.tmp t=>rdA (fr L t)
 |.const v=>(X8f v,[])
 |.global g=>(.sc (.pointer (some ⟨g,0,none⟩)),[])
 |.func f=>(.fn f [],[])
theorem X0j {L:List (Nat×AV)} {x:Operand} {a:AV} {ps:List Prop} (h:rd L x=(a,ps)) (hp:X3s ps):evA (fr L) x=a:=by
 unfold rd at h;split at h
 ·exact Xu3 h hp
 ·cases h;exact(X6z _).symm
 ·cases h;rfl
 ·cases h;rfl
def rds (L:List (Nat×AV)):List Operand->List AV×List Prop
 |[]=>([],[])
 |x::r=>match rd L x,rds L r with
  |(a,p),(l,q)=>(a::l,p++q)
theorem Xbx {L:List (Nat×AV)}:∀ {xs:List Operand} {as:List AV} {ps:List Prop},rds L xs=(as,ps)->X3s ps->xs.map (evA (fr L))=as:=by
 intro xs
 induction xs with
 |nil=>intro as ps h _;simp[rds] at h;simp[<-h.1]
 |cons x r ih =>
  intro as ps h hp;simp only[rds] at h;cases h
  obtain⟨h1,h2⟩:=X05.1 hp;simp only[List.map_cons];rw[X0j (a:=(rd L x).1) (ps:=(rd L x).2) rfl h1,ih (as:=(rds L r).1) (ps:=(rds L r).2) rfl h2]
def Xr2 {β:Type} (v:Value) (k:Value->Option β):Option β :=
 match v with
 |.int q z=>k (.int q z)
 |.bool b=>k (.bool b)
 |.string s=>k (.string s)
 |v=>k v
theorem Xmz {β:Type} (v:Value) (k:Value->Option β):Xr2 v k=k v:=by cases v<;>rfl
def Xjf {β:Type} (a:AV) (k:AV->Option β):Option β :=
 match a with
 |.junk=>k .junk
 |.sc v=>Xr2 v λv=>k (.sc v)
 |.nils=>k .nils
 |.agg cs=>k (.agg cs)
 |.tup cs=>k (.tup cs)
 |.list o es=>k (.list o es)
 |.ref o f l=>k (.ref o f l)
 |.ptr o i n=>k (.ptr o i n)
 |.elem o e n=>k (.elem o e n)
 |.fn f cs=>k (.fn f cs)
 |.mref o m=>k (.mref o m)
 |.cond b v=>k (.cond b v)
theorem Xh0 {β:Type} (a:AV) (k:AV->Option β):Xjf a k=k a:=by cases a<;>simp[Xjf,Xmz]
def Xbm {β:Type}:List AV->(List AV->Option β)->Option β
 |[],k=>k []
 |a::r,k=>Xjf a λa=>Xbm r λr=>k (a::r)
theorem Xka {β:Type}:∀ (l:List AV) (k:List AV->Option β),Xbm l k=k l:=by
 intro l
 induction l with
 |nil=>intro k;rfl
 |cons a r ih=>intro k;simp[Xbm,Xh0,ih]
def Xje {β:Type} (a:AV) (k:AV->Option β):Option β :=
 match a with
 |.agg cs=>Xbm cs λcs=>k (.agg cs)
 |.tup cs=>Xbm cs λcs=>k (.tup cs)
 |.fn f cs=>Xbm cs λcs=>k (.fn f cs)
 |a=>Xjf a k
theorem Xgz {β:Type} (a:AV) (k:AV->Option β):Xje a k=k a:=by cases a<;>simp[Xje,Xka,Xh0]
def Xaw {β:Type}:List AV->(List AV->Option β)->Option β
 |[],k=>k []
 |a::r,k=>Xje a λa=>Xaw r λr=>k (a::r)
theorem X97 {β:Type}:∀ (l:List AV) (k:List AV->Option β),Xaw l k=k l:=by
 intro l
 induction l with
 |nil=>intro k;rfl
 |cons a r ih=>intro k;simp[Xaw,Xgz,ih]
def X99 {β:Type} (a:AV) (k:AV->Option β):Option β :=
 match a with
 |.agg cs=>Xaw cs λcs=>k (.agg cs)
 |.tup cs=>Xaw cs λcs=>k (.tup cs)
 |a=>Xje a k
theorem X4y {β:Type} (a:AV) (k:AV->Option β):X99 a k=k a:=by
 cases a<;>simp[X99,X97,Xgz]
abbrev PR:=Option (AV×List X3t×List Prop)
def Xw3:List X3t->Bool
 |.wrap::_=>true
 |_=>false
def Xqb (k:IntKind) (z:Int) (hs:List X3t) (ps:List Prop):PR :=
 match hs with
 |.wrap::hs=>some (.sc (.int k (k.wrap z)),hs,ps)
 |hs=>some (.sc (.int k z),hs,(k.wrap z=z)::ps)
theorem Xaa {k:IntKind} {z:Int} {hs hs':List X3t} {ps ps':List Prop} {a:AV} (h:Xqb k z hs ps=some (a,hs',ps')) (hp:X3s ps'):a=.sc (.int k (k.wrap z))/\X3s ps:=by
 unfold Xqb at h;split at h
 ·cases h;exact⟨rfl,hp⟩
 ·cases h;exact⟨by rw[hp.1],hp.2⟩
def Xvv (T:Ty) (op:BinOp) (t:Nat) (x y:AV) (hs:List X3t) (ps:List Prop):PR :=
 match op,x,y with
 |.add,.sc (.int k a),.sc (.int k' b)=>if k=k' then Xqb k (a+b) hs ps else none
 |.sub,.sc (.int k a),.sc (.int k' b)=>if k=k' then Xqb k (a - b) hs ps else none
 |.mul,.sc (.int k a),.sc (.int k' b)=>if k=k' then Xqb k (a*b) hs ps else none
 |.quo,.sc (.int k a),.sc (.int k' b)=>if k=k' then Xqb k (a.tdiv b) hs ((b≠0)::ps) else none
 |.rem,.sc (.int k a),.sc (.int k' b)=>if k=k' then some (.sc (.int k (a.tmod b)),hs,(b≠0)::ps) else none
 |.shl,.sc (.int k a),.sc (.int _ b)=>Xqb k (a*2 ^ (min b.toNat k.bits)) hs ((0<=b)::ps)
 |.shr,.sc (.int k a),.sc (.int _ b)=>some (.sc (.int k (a.fdiv (2 ^ (min b.toNat k.bits)))),hs,(0<=b)::ps)
 |op,x,y=>match Xv7 T op t x y with
  |some a=>some (a,hs,ps)
  |none=>none
theorem Xtf {T:Ty} {ev:Operand->AV} {H:X07} {op:BinOp} {t yt:Nat} {x y:Operand} {u v:AV} {hs hs':List X3t} {ps ps':List Prop} {a:AV} (hx:X3s ps->ev x=u) (hy:X3s ps->ev y=v)
  (h:Xvv T op t u v hs ps=some (a,hs',ps')) (hp:X3s ps'):Pu T ev H (.binOp op t x y yt) a:=by
 unfold Xvv at h;split at h
 ·split at h
  ·rename_i hk;subst hk;obtain⟨rfl,h2⟩:=Xaa h hp;exact .binInt (hx h2) (hy h2) rfl
  ·cases h
 ·split at h
  ·rename_i hk;subst hk;obtain⟨rfl,h2⟩:=Xaa h hp;exact .binInt (hx h2) (hy h2) rfl
  ·cases h
 ·split at h
  ·rename_i hk;subst hk;obtain⟨rfl,h2⟩:=Xaa h hp;exact .binInt (hx h2) (hy h2) rfl
  ·cases h
 ·split at h
  ·rename_i hk;subst hk;obtain⟨rfl,h2⟩:=Xaa h hp;exact .quo (hx h2.2) (hy h2.2) h2.1
  ·cases h
 ·split at h
  ·rename_i hk;subst hk;cases h;exact .rem (hx hp.2) (hy hp.2) hp.1
  ·cases h
 ·obtain⟨rfl,h2⟩:=Xaa h hp;exact .shl (hx h2.2) (hy h2.2) h2.1
 ·cases h;exact .shr (hx hp.2) (hy hp.2) hp.1
 ·split at h
  ·rename_i hb;cases h
   rw[<-hx hp,<-hy hp] at hb;exact Xnm hb
  ·cases h
def Xta (T:Ty) (src dst:Nat) (x:AV) (hs:List X3t) (ps:List Prop):PR :=
 match x with
 |.sc (.int _ n)=>match T src with
  |some _=>match T dst with
   |some td=>match td.kind with
    |.int k'=>Xqb k' n hs ps
    |_=>none
   |none=>none
  |none=>none
 |x=>match Xtb T src dst x with
  |some a=>some (a,hs,ps)
  |none=>none
def unS (op:UnOp) (x:AV) (hs:List X3t) (ps:List Prop):PR :=
 match op,x with
 |.neg,.sc (.int k n)=>Xqb k (0 - n) hs ps
 |.not,.sc (.bool b)=>some (.sc (.bool (!b)),hs,ps)
 |_,_=>none
def Xna (H:X07) (p:AV) (hs:List X3t) (ps:List Prop):Option (AV×Nat×List X3t×List Prop) :=
 match p with
 |.elem _ e k=>some (e,k,hs,ps)
 |.ptr o i k=>match H o with
  |some y=>match hs with
   |.ld e::hs=>some (e,k,hs,(y.es[i]?=some e)::ps)
   |hs=>match y.es[i]? with
    |some e=>some (e,k,hs,ps)
    |none=>none
  |none=>none
 |_=>none
theorem Xn9 {H:X07} {p e:AV} {k:Nat} {hs hs':List X3t} {ps ps':List Prop} (h:Xna H p hs ps=some (e,k,hs',ps')) (hp:X3s ps'):Xhe H p e k/\X3s ps:=by
 unfold Xna at h;split at h
 ·cases h;exact⟨.elem,hp⟩
 ·split at h
  ·rename_i hH;split at h
   ·cases h;exact⟨.ptr hH hp.1,hp.2⟩
   ·split at h
    ·rename_i he;cases h;exact⟨.ptr hH he,hp⟩
    ·cases h
  ·cases h
 ·cases h
def ixS (T:Ty) (H:X07) (t:Nat) (x:AV) (i:Int) (hs:List X3t) (ps:List Prop):PR :=
 match x,hs with
 |.list own es,.el e::hs=>match X3c T t with
  |some te=>if e.cells.length=te.size then some (.elem own e 0,hs,(0<=i)::(es[i.toNat]?=some e)::ps) else none
  |none=>none
 |.ref o off len,.el e::hs=>match X3c T t with
  |some te=>match H o with
   |some y=>if e.cells.length=te.size then some (.ptr o (off+i.toNat) 0,hs,(0<=i)::(i<len)::(y.es[off+i.toNat]?=some e)::ps) else none
   |none=>none
  |none=>none
 |.ptr o j q,.ix m::hs=>match Xek T t with
  |some (n,te)=>some (.ptr o j (q+m*te.size),hs,(i=(m:Int))::(m<n)::ps)
  |none=>none
 |.elem own e q,.ix m::hs=>match Xek T t with
  |some (n,te)=>some (.elem own e (q+m*te.size),hs,(i=(m:Int))::(m<n)::ps)
  |none=>none
 |.ptr o j q,hs=>match Xek T t with
  |some (n,te)=>some (.ptr o j (q+i.toNat*te.size),hs,(0<=i)::(i<n)::ps)
  |none=>none
 |.elem own e q,hs=>match Xek T t with
  |some (n,te)=>some (.elem own e (q+i.toNat*te.size),hs,(0<=i)::(i<n)::ps)
  |none=>none
 |x,hs=>match ixF T H t x i with
  |some a=>some (a,hs,(0<=i)::ps)
  |none=>none
def bdS (L:List (Nat×AV)) (o:Option Operand) (d:Nat) (ps:List Prop):Option (Nat×List Prop) :=
 match o with
 |none=>some (d,ps)
 |some x=>match rd L x with
  |(.sc (.int _ z),qs)=>some (z.toNat,(0<=z)::(qs++ps))
  |_=>none
theorem X57 {L:List (Nat×AV)} {o:Option Operand} {d n:Nat} {ps ps':List Prop} (h:bdS L o d ps=some (n,ps')) (hp:X3s ps'):Bd (evA (fr L)) o d n/\X3s ps:=by
 unfold bdS at h;split at h
 ·cases h;exact⟨.dflt,hp⟩
 ·split at h
  ·rename_i hr;cases h
   obtain⟨h1,h2⟩:=hp;obtain⟨h3,h4⟩:=X05.1 h2;exact⟨.given (X0j hr h3) h1,h4⟩
  ·cases h
def Xl7 (T:Ty) (L:List (Nat×AV)) (H:X07) (t:Nat) (x:AV) (lo hi:Option Operand) (hs:List X3t) (ps:List Prop):PR :=
 match x with
 |.list own es=>match X3c T t with
  |some te=>match bdS L lo 0 ps with
   |some (l,ps)=>match bdS L hi es.length ps with
    |some (h,ps)=>match hs with
     |.via (.list _ es')::hs=>some (.list own es',hs,((es.drop l).take (h - l)=es')::(l<=h)::(h<=es.length)::(∀ e∈es,e.cells.length=te.size)::ps)
     |hs=>some (.list own ((es.drop l).take (h - l)),hs,(l<=h)::(h<=es.length)::(∀ e∈es,e.cells.length=te.size)::ps)
    |none=>none
   |none=>none
  |none=>none
 |.ref o off len=>match X3c T t with
  |some te=>match bdS L lo 0 ps with
   |some (l,ps)=>match bdS L hi len ps with
    |some (h,ps)=>match hs with
     |.ne false::hs=>some (.list true [],hs,(l=h)::(l<=len)::ps)
     |.via (.ref _ off' h')::hs=>match H o with
      |some y=>if y.esz=te.size then some (.ref o off' h',hs,(off+l=off')::(h - l=h')::(l<=h)::(l=0\/l<h)::(h<=len\/off+h<=y.es.length)::ps) else none
      |none=>some (.ref o off' h',hs,(off+l=off')::(h - l=h')::(l=0)::(h<=len)::ps)
     |hs=>match H o with
      |some y=>some (.ref o (off+l) (h - l),hs,(l<h)::(h<=len)::(∃ e∈y.es,e.cells.length=te.size)::ps)
      |none=>some (.ref o (off+l) (h - l),hs,(l=0)::(h<=len)::ps)
    |none=>none
   |none=>none
  |none=>none
 |.nils=>match X3c T t with
  |some _=>match bdS L lo 0 ps with
   |some (l,ps)=>match bdS L hi 0 ps with
    |some (h,ps)=>some (.nils,hs,(l=0)::(h=0)::ps)
    |none=>none
   |none=>none
  |none=>none
 |_=>none
theorem Xl6 {T:Ty} {L:List (Nat×AV)} {H:X07} {t:Nat} {x:Operand} {u:AV} {lo hi:Option Operand} {hs hs':List X3t} {ps ps':List Prop} {a:AV} (hx:X3s ps->evA (fr L) x=u)
  (h:Xl7 T L H t u lo hi hs ps=some (a,hs',ps')) (hp:X3s ps'):Pu T (evA (fr L)) H (.slice t x lo hi none) a:=by
 unfold Xl7 at h;split at h
 ·split at h
  ·rename_i hs;obtain⟨ti,et,h1,h2,h3⟩:=X1j hs;split at h
   ·rename_i hl;split at h
    ·rename_i hh;split at h
     ·cases h
      obtain⟨p0,p1,p2,p3,p4⟩:=hp;obtain⟨b2,q2⟩:=X57 hh p4;obtain⟨b1,q1⟩:=X57 hl q2;rw[<-p0];exact .sliceList (hx q1) b1 b2 p1 p2 h1 h2 h3 p3
     ·cases h
      obtain⟨p1,p2,p3,p4⟩:=hp;obtain⟨b2,q2⟩:=X57 hh p4;obtain⟨b1,q1⟩:=X57 hl q2;exact .sliceList (hx q1) b1 b2 p1 p2 h1 h2 h3 p3
    ·cases h
   ·cases h
  ·cases h
 ·split at h
  ·rename_i hs;obtain⟨ti,et,h1,h2,h3⟩:=X1j hs;split at h
   ·rename_i hl;split at h
    ·rename_i hh;split at h
     ·cases h
      obtain⟨rfl,p2,p4⟩:=hp;obtain⟨b2,q2⟩:=X57 hh p4;obtain⟨b1,q1⟩:=X57 hl q2;exact .sliceRef0 (hx q1) b1 b2 p2 h1 h2 h3
     ·split at h
      ·rename_i hH;split at h
       ·rename_i hes;cases h
        obtain⟨rfl,rfl,p1,p2,p3,p4⟩:=hp;obtain⟨b2,q2⟩:=X57 hh p4;obtain⟨b1,q1⟩:=X57 hl q2;exact .sliceRefV (hx q1) b1 b2 p1 p2 hH p3 h1 h2 h3 hes
       ·cases h
      ·cases h
       obtain⟨rfl,rfl,p1,p2,p4⟩:=hp;obtain⟨b2,q2⟩:=X57 hh p4;obtain⟨b1,q1⟩:=X57 hl q2;exact .sliceRefZ (hx q1) b1 b2 p1 p2 h1 h2 h3
     ·split at h
      ·rename_i hH;cases h
       obtain⟨p1,p2,p3,p4⟩:=hp;obtain⟨b2,q2⟩:=X57 hh p4;obtain⟨b1,q1⟩:=X57 hl q2;exact .sliceRef (hx q1) b1 b2 p1 p2 h1 h2 h3 hH p3
      ·cases h
       obtain⟨p1,p2,p4⟩:=hp;obtain⟨b2,q2⟩:=X57 hh p4;obtain⟨b1,q1⟩:=X57 hl q2;exact .sliceRefZ (hx q1) b1 b2 p1 p2 h1 h2 h3
    ·cases h
   ·cases h
  ·cases h
 ·split at h
  ·rename_i hs;obtain⟨ti,et,h1,h2,h3⟩:=X1j hs;split at h
   ·rename_i hl;split at h
    ·rename_i hh;cases h
     obtain⟨rfl,rfl,p4⟩:=hp;obtain⟨b2,q2⟩:=X57 hh p4;obtain⟨b1,q1⟩:=X57 hl q2;exact .sliceNils (hx q1) b1 b2 h1 h2 h3
    ·cases h
   ·cases h
  ·cases h
 ·cases h
theorem Xuk {T:Ty} {ev:Operand->AV} {H:X07} {t:Nat} {x ix:Operand} {u:AV} {q:IntKind} {i:Int} {hs hs':List X3t} {ps ps':List Prop} {a:AV} (hx:X3s ps->ev x=u) (hi:X3s ps->ev ix=.sc (.int q i))
  (h:ixS T H t u i hs ps=some (a,hs',ps')) (hp:X3s ps'):Pu T ev H (.indexAddr t x ix) a:=by
 unfold ixS at h;split at h
 ·split at h
  ·rename_i hs;obtain⟨ti,et,h1,h2,h3⟩:=X1j hs;split at h
   ·rename_i hsz;cases h
    exact .indexList (hx hp.2.2) (hi hp.2.2) hp.1 h1 h2 h3 hp.2.1 hsz
   ·cases h
  ·cases h
 ·split at h
  ·rename_i hs;obtain⟨ti,et,h1,h2,h3⟩:=X1j hs;split at h
   ·rename_i hH;split at h
    ·rename_i hsz;cases h
     exact .indexRef (hx hp.2.2.2) (hi hp.2.2.2) hp.1 hp.2.1 h1 h2 h3 hH hp.2.2.1 hsz
    ·cases h
   ·cases h
  ·cases h
 ·split at h
  ·rename_i hs;obtain⟨ti,et,h1,h2,h3⟩:=X7i hs;cases h
   have he:=hp.1;subst he;exact .indexArr (hx hp.2.2) (hi hp.2.2) (Int.natCast_nonneg _) (Int.ofNat_lt.2 hp.2.1) h1 h2 h3
  ·cases h
 ·split at h
  ·rename_i hs;obtain⟨ti,et,h1,h2,h3⟩:=X7i hs;cases h
   have he:=hp.1;subst he;exact .indexArrElem (hx hp.2.2) (hi hp.2.2) (Int.natCast_nonneg _) (Int.ofNat_lt.2 hp.2.1) h1 h2 h3
  ·cases h
 ·split at h
  ·rename_i hs;obtain⟨ti,et,h1,h2,h3⟩:=X7i hs;cases h
   exact .indexArr (hx hp.2.2) (hi hp.2.2) hp.1 hp.2.1 h1 h2 h3
  ·cases h
 ·split at h
  ·rename_i hs;obtain⟨ti,et,h1,h2,h3⟩:=X7i hs;cases h
   exact .indexArrElem (hx hp.2.2) (hi hp.2.2) hp.1 hp.2.1 h1 h2 h3
  ·cases h
 ·split at h
  ·rename_i hix;cases h
   refine Xd7 ?_;simp only[puF,hi hp.2,hx hp.2,if_pos hp.1];exact hix
  ·cases h
def Xvj (T:Ty) (t:Nat) (x:AV):Option AV :=
 match T t with
 |some ti=>match ti.kind with
  |.slice _=>match x with
   |.list _ es=>some (.sc (.int .i64 es.length))
   |.ref _ _ n=>some (.sc (.int .i64 n))
   |.nils=>some (.sc (.int .i64 (0:Nat)))
   |_=>none
  |.string=>match x with
   |.sc (.string s)=>some (.sc (.int .i64 s.size))
   |_=>none
  |.array n _=>some (.sc (.int .i64 n))
  |_=>none
 |none=>none
def Xtm (hi:Bool) (x y:AV):Option AV :=
 match x,y with
 |.sc (.int k a),.sc (.int k' b)=>if k=k' then some (.sc (.int k (bif hi then (if b>a then b else a) else (if b<a then b else a)))) else none
 |_,_=>none
def Xqw (L:List (Nat×AV)):List (Nat×Operand)->List (Nat×AV)×List Prop
 |[]=>([],[])
 |(i,x)::r=>match rd L x,Xqw L r with
  |(a,p),(l,q)=>((i,a)::l,p++q)
theorem Xli {L:List (Nat×AV)}:∀ {xs:List (Nat×Operand)} {as:List (Nat×AV)} {ps:List Prop},Xqw L xs=(as,ps)->X3s ps->(xs.map λp=>(p.1,evA (fr L) p.2))=as:=by
 intro xs
 induction xs with
 |nil=>intro as ps h _;simp[Xqw] at h;simp[<-h.1]
 |cons x r ih =>
  intro as ps h hp;obtain⟨i,x⟩:=x;simp only[Xqw] at h;cases h
  obtain⟨h1,h2⟩:=X05.1 hp;simp only[List.map_cons];rw[X0j (a:=(rd L x).1) (ps:=(rd L x).2) rfl h1,ih (as:=(Xqw L r).1) (ps:=(Xqw L r).2) rfl h2]
def buildS (T:Ty) (t:Nat) (vs:List (Nat×AV)):Option AV :=
 match T t with
 |some ti=>match X8f ti.zero with
  |.agg cs=>match ti.kind with
   |.struct fs=>if fs.all (λp=>(T p.2).isSome) then (match Xej (λi=>(fs[i]?).map λp=>(p.1,((T p.2).map (·.size)).getD 0)) cs vs with
    |some r=>some (.agg r)
    |none=>none) else none
   |.array _ et=>match T et with
    |some te=>match Xej (λi=>some (i*te.size,te.size)) cs vs with
     |some r=>some (.agg r)
     |none=>none
    |none=>none
   |_=>none
  |_=>none
 |none=>none
def Xs4 (L:List (Nat×AV)) (c a b:Operand) (hs:List X3t):PR :=
 match rd L c with
 |(.sc (.bool t),pc)=>match rd L a,rd L b with
  |(.sc (.bool x),pa),(.sc (.bool y),pb)=>some (.sc (.bool (bif t then x else y)),hs,pc++(Xgd t pa++Xgd (!t) pb))
  |(u,pa),(v,pb)=>match hs with
   |.go true::hs=>some (u,hs,(t=true)::(pc++pa))
   |.go false::hs=>some (v,hs,(t=false)::(pc++pb))
   |_=>none
 |_=>none
def puS (T:Ty) (L:List (Nat×AV)) (H:X07) (op:Op) (hs:List X3t):PR :=
 match op with
 |.move x=>match rd L x with
  |(a,ps)=>some (a,hs,ps)
 |.assign x=>match rd L x with
  |(a,ps)=>some (a,hs,ps)
 |.pick c a b=>Xs4 L c a b hs
 |.load t x=>match T t with
  |some ti=>match rd L x with
   |(p,ps)=>match Xna H p hs ps with
    |some (e,k,hs,ps)=>match Xhv ti e k with
     |some a=>some (a,hs,ps)
     |none=>none
    |none=>none
  |none=>none
 |.nilCheck x=>match rd L x with
  |(.ptr o i k,ps)=>some (.ptr o i k,hs,ps)
  |(.elem own e k,ps)=>some (.elem own e k,hs,ps)
  |(.fn f caps,ps)=>some (.fn f caps,hs,ps)
  |_=>none
 |.binOp op t x y _=>match rd L x,rd L y with
  |(a,p),(b,q)=>Xvv T op t a b hs (p++q)
 |.unOp op _ x=>match rd L x with
  |(a,p)=>unS op a hs p
 |.convert src dst x=>match rd L x with
  |(a,p)=>Xta T src dst a hs p
 |.fieldAddr s x f=>match Xf3 T s f with
  |some (off,tf)=>if tf.size≠0 then (match rd L x with
   |(.ptr o i k,ps)=>some (.ptr o i (k+off),hs,ps)
   |(.elem own e k,ps)=>some (.elem own e (k+off),hs,ps)
   |_=>none) else none
  |none=>none
 |.field s x f=>match Xf3 T s f with
  |some (off,tf)=>match rd L x with
   |(.agg cs,ps)=>match eqT.partA tf cs off with
    |some a=>some (a,hs,ps)
    |none=>none
   |_=>none
  |none=>none
 |.indexAddr t x ix=>match rd L ix with
  |(.sc (.int _ i),p)=>match rd L x with
   |(a,q)=>ixS T H t a i hs (p++q)
  |_=>none
 |.index t x ix=>match rd L ix with
  |(.sc (.int _ i),p)=>match rd L x with
   |(.agg cs,q)=>match Xek T t with
    |some (n,te)=>match hs with
     |.ix m::hs=>match eqT.partA te cs (m*te.size) with
      |some a=>some (a,hs,(i=(m:Int))::(m<n)::(p++q))
      |none=>none
     |hs=>match eqT.partA te cs (i.toNat*te.size) with
      |some a=>some (a,hs,(0<=i)::(i<n)::(p++q))
      |none=>none
    |none=>none
   |(.sc (.string s),q)=>match T t with
    |some ti=>match ti.kind with
     |.string=>match hs with
      |.el (.sc (.int .u8 b))::hs=>some (.sc (.int .u8 b),hs,(0<=i)::(∃ c,s[i.toNat]?=some c/\b=c.toNat)::(p++q))
      |hs=>match s[i.toNat]? with
       |some b=>some (.sc (.int .u8 b.toNat),hs,(0<=i)::(p++q))
       |none=>none
     |_=>none
    |none=>none
   |_=>none
  |_=>none
 |.slice t x lo hi none=>match rd L x with
  |(a,p)=>Xl7 T L H t a lo hi hs p
 |.slice t x none (some hi) (some mx)=>match X3c T t with
  |some _=>match rd L x with
   |(a,p)=>match bdS L (some hi) 0 p with
    |some (h,p)=>match bdS L (some mx) 0 p with
     |some (m,p)=>match a with
      |.list _ _=>some (.nils,hs,(h=0)::(m=0)::p)
      |.ref _ _ _=>some (.nils,hs,(h=0)::(m=0)::p)
      |.nils=>some (.nils,hs,(h=0)::(m=0)::p)
      |_=>none
     |none=>none
    |none=>none
  |none=>none
 |.extract x i=>match rd L x with
  |(.tup cs,p)=>match cs[i]? with
   |some a=>some (a,hs,p)
   |none=>none
  |_=>none
 |.makeFunc (.func f) ⟨[]⟩ caps=>match rds L caps.toList with
  |(l,p)=>some (.fn f l,hs,p)
 |.call { callee:=.builtin .len,args:=⟨[x]⟩,argTypes:=⟨[t]⟩ }=>match rd L x with
  |(a,p)=>match Xvj T t a with
   |some r=>match hs with
    |.el r'::hs=>some (r',hs,(r=r')::p)
    |hs=>some (r,hs,p)
   |none=>none
 |.call { callee:=.builtin .min,args:=⟨[x,y]⟩,argTypes:=_ }=>match rd L x,rd L y with
  |(a,p),(b,q)=>match Xtm false a b with
   |some r=>some (r,hs,p++q)
   |none=>none
 |.call { callee:=.builtin .max,args:=⟨[x,y]⟩,argTypes:=_ }=>match rd L x,rd L y with
  |(a,p),(b,q)=>match Xtm true a b with
   |some r=>some (r,hs,p++q)
   |none=>none
 |.build t ps=>match Xqw L ps.toList with
  |(l,p)=>match buildS T t l with
   |some r=>some (r,hs,p)
   |none=>none
 |_=>none
theorem Xpf {T:Ty} {L:List (Nat×AV)} {H:X07} {c a b:Operand} {hs hs':List X3t} {ps:List Prop} {r:AV} (h:Xs4 L c a b hs=some (r,hs',ps)) (hp:X3s ps):Pu T (evA (fr L)) H (.pick c a b) r:=by
 unfold Xs4 at h;split at h
 ·rename_i t pc hc;split at h
  ·rename_i x pa y pb ha hb;cases h
   obtain⟨h1,h2⟩:=X05.1 hp;obtain⟨h3,h4⟩:=X05.1 h2;exact .pickB (X0j hc h1) (λht=>X0j ha (Xcy h3 ht)) (λht=>X0j hb (Xcy h4 (by rw[ht];rfl)))
  ·rename_i u pa v pb _ ha hb;split at h
   ·cases h
    obtain⟨h0,h1⟩:=hp;obtain⟨h3,h4⟩:=X05.1 h1;exact .pick (X0j hc h3) (λ_=>X0j ha h4) (λht=>by rw[h0] at ht;cases ht)
   ·cases h
    obtain⟨h0,h1⟩:=hp;obtain⟨h3,h4⟩:=X05.1 h1;exact .pick (X0j hc h3) (λht=>by rw[h0] at ht;cases ht) (λ_=>X0j hb h4)
   ·cases h
 ·cases h
theorem Xm4 {T:Ty} {ev:Operand->AV} {H:X07} {t:Nat} {x:Operand} {r:AV} (h:Xvj T t (ev x)=some r):Pu T ev H (.call { callee:=.builtin .len,args:=⟨[x]⟩,argTypes:=⟨[t]⟩ }) r:=by
 refine Xd7 ?_;unfold Xvj at h;simp only[puF];exact h
theorem Xs7 {T:Ty} {ev:Operand->AV} {H:X07} {x y:Operand} {ts:Array Nat} {r:AV} (h:Xtm false (ev x) (ev y)=some r):Pu T ev H (.call { callee:=.builtin .min,args:=⟨[x,y]⟩,argTypes:=ts }) r:=by
 refine Xd7 ?_;simp only[puF];unfold Xtm at h;split at h
 ·rename_i h1 h2;first|(rw[h1,h2];exact h)|exact h
 ·cases h
theorem Xs8 {T:Ty} {ev:Operand->AV} {H:X07} {x y:Operand} {ts:Array Nat} {r:AV} (h:Xtm true (ev x) (ev y)=some r):Pu T ev H (.call { callee:=.builtin .max,args:=⟨[x,y]⟩,argTypes:=ts }) r:=by
 refine Xd7 ?_;simp only[puF];unfold Xtm at h;split at h
 ·rename_i h1 h2;first|(rw[h1,h2];exact h)|exact h
 ·cases h
theorem Xnj {T:Ty} {ev:Operand->AV} {H:X07} {t:Nat} {ps:Array (Nat×Operand)} {r:AV} (h:buildS T t (ps.toList.map λp=>(p.1,ev p.2))=some r):Pu T ev H (.build t ps) r:=by
 refine Xd7 ?_;unfold buildS at h;simp only[puF];simp only[X6z] at h;exact h
theorem Xqi {T:Ty} {ev:Operand->AV} {H:X07} {src dst:Nat} {x:Operand} {u:AV} {hs hs':List X3t} {ps ps':List Prop} {a:AV} (hx:X3s ps->ev x=u) (h:Xta T src dst u hs ps=some (a,hs',ps')) (hp:X3s ps') :
  Pu T ev H (.convert src dst x) a:=by
 unfold Xta at h;split at h
 ·split at h
  ·split at h
   ·split at h
    ·obtain⟨rfl,h2⟩:=Xaa h hp;exact .conv (hx h2) (by assumption) (by assumption) (by assumption)
    ·cases h
   ·cases h
  ·cases h
 ·split at h
  ·rename_i hc;cases h
   refine Xd7 ?_;simp only[puF,hx hp];exact hc
  ·cases h
theorem Xty {T:Ty} {ev:Operand->AV} {H:X07} {op:UnOp} {t:Nat} {x:Operand} {u:AV} {hs hs':List X3t} {ps ps':List Prop} {a:AV} (hx:X3s ps->ev x=u) (h:unS op u hs ps=some (a,hs',ps')) (hp:X3s ps') :
  Pu T ev H (.unOp op t x) a:=by
 unfold unS at h;split at h
 ·obtain⟨rfl,h2⟩:=Xaa h hp;exact .neg (hx h2)
 ·cases h;exact .not (hx hp)
 ·cases h
theorem Xqx {T:Ty} {L:List (Nat×AV)} {H:X07} {op:Op} {hs hs':List X3t} {ps:List Prop} {a:AV} (h:puS T L H op hs=some (a,hs',ps)) (hp:X3s ps):Pu T (evA (fr L)) H op a:=by
  unfold puS at h;split at h
  · rename_i x
    rcases hr:rd L x with ⟨a1,p1⟩;rw[hr] at h;cases h
    rw[<-X0j hr hp];exact .move
  · rename_i x
    rcases hr:rd L x with ⟨a1,p1⟩;rw[hr] at h;cases h
    rw[<-X0j hr hp];exact .assign
  · exact Xpf h hp
  · split at h
    · rename_i ht
      split at h
      rename_i hr;split at h
      · rename_i hd
        split at h
        · rename_i hl
          cases h
          obtain⟨h1,h2⟩:=Xn9 hd hp;rw[<-X0j hr h2] at h1;exact .load ht h1 hl
        · cases h
      · cases h
    · cases h
  · split at h
    · rename_i hr;cases h
      have:=X0j hr hp;rw[<-this];exact .nilCheckPtr this
    · rename_i hr;cases h
      have:=X0j hr hp;rw[<-this];exact .nilCheckElem this
    · rename_i hr;cases h
      have:=X0j hr hp;rw[<-this];exact .nilCheckFn this
    · cases h
  · exact Xtf (λhq=>X0j rfl (X05.1 hq).1) (λhq=>X0j rfl (X05.1 hq).2) h hp
  · exact Xty (λhq=>X0j rfl hq) h hp
  · exact Xqi (λhq=>X0j rfl hq) h hp
  · split at h
    · rename_i hf
      obtain⟨ti,fs,ft,g1,g2,g3,g4⟩:=Xax hf;split at h
      · rename_i hz
        split at h
        · rename_i hr;cases h;exact .fieldAddrPtr (X0j hr hp) g1 g2 g3 g4 hz
        · rename_i hr;cases h;exact .fieldAddrElem (X0j hr hp) g1 g2 g3 g4 hz
        · cases h
      · cases h
    · cases h
  · split at h
    · rename_i hf
      obtain⟨ti,fs,ft,g1,g2,g3,g4⟩:=Xax hf;split at h
      · rename_i hr
        split at h
        · rename_i ha;cases h;exact .field (X0j hr hp) g1 g2 g3 g4 ha
        · cases h
      · cases h
    · cases h
  · split at h
    · rename_i hr
      exact Xuk (λhq=>X0j rfl (X05.1 hq).2) (λhq=>X0j hr (X05.1 hq).1) h hp
    · cases h
  · split at h
    · rename_i hi
      split at h
      · rename_i hr
        split at h
        · rename_i ha
          obtain⟨ti,et,h1,h2,h3⟩:=X7i ha;split at h
          · split at h
            · rename_i hpa
              cases h
              obtain⟨p1,p2,p3⟩:=hp;obtain⟨p4,p5⟩:=X05.1 p3;subst p1;exact .indexAgg (X0j hr p5) (X0j hi p4) (Int.natCast_nonneg _) (Int.ofNat_lt.2 p2) h1 h2 h3 hpa
            · cases h
          · split at h
            · rename_i hpa
              cases h
              obtain⟨p1,p2,p3⟩:=hp;obtain⟨p4,p5⟩:=X05.1 p3;exact .indexAgg (X0j hr p5) (X0j hi p4) p1 p2 h1 h2 h3 hpa
            · cases h
        · cases h
      · rename_i hr
        split at h
        · rename_i ht
          split at h
          · rename_i hk
            split at h
            · cases h
              obtain⟨p1,⟨c,p2,rfl⟩,p3⟩:=hp;obtain⟨p4,p5⟩:=X05.1 p3;exact .indexStr (X0j hr p5) (X0j hi p4) p1 ht hk p2
            · split at h
              · rename_i hb
                cases h
                obtain⟨p1,p3⟩:=hp;obtain⟨p4,p5⟩:=X05.1 p3;exact .indexStr (X0j hr p5) (X0j hi p4) p1 ht hk hb
              · cases h
          · cases h
        · cases h
      · cases h
    · cases h
  · exact Xl6 (λhq=>X0j rfl hq) h hp
  · split at h
    · rename_i hs
      obtain⟨ti,et,h1,h2,h3⟩:=X1j hs;split at h
      rename_i a1 p1 hr;split at h
      · rename_i hb1
        split at h
        · rename_i hb2
          split at h
          all_goals first
            | (cases h
               obtain⟨rfl,rfl,p4⟩:=hp;obtain⟨b2,q2⟩:=X57 hb2 p4;obtain⟨b1,q1⟩:=X57 hb1 q2;have hx:=X0j hr q1;exact .sliceClone (by rw[hx];rfl) (λs hs=>by rw[hx] at hs;cases hs) b1 b2 h1 h2 h3)
            |cases h
        · cases h
      · cases h
    · cases h
  · split at h
    · rename_i hr
      split at h
      · rename_i hi
        cases h
        exact .extract (X0j hr hp) hi
      · cases h
    · cases h
  · split at h
    rename_i hr;cases h
    have:=Xbx hr hp;refine Xd7 ?_;simp only[puF,this]
  · split at h
    rename_i hr;split at h
    · rename_i hl
      split at h
      · cases h
        obtain⟨rfl,hp⟩:=hp;rw[<-X0j hr hp] at hl;exact Xm4 hl
      · cases h
        rw[<-X0j hr hp] at hl;exact Xm4 hl
    · cases h
  · split at h
    rename_i hx hy;split at h
    · rename_i hl
      cases h
      obtain⟨p1,p2⟩:=X05.1 hp;rw[<-X0j hx p1,<-X0j hy p2] at hl;exact Xs7 hl
    · cases h
  · split at h
    rename_i hx hy;split at h
    · rename_i hl
      cases h
      obtain⟨p1,p2⟩:=X05.1 hp;rw[<-X0j hx p1,<-X0j hy p2] at hl;exact Xs8 hl
    · cases h
  · split at h
    rename_i hr;split at h
    · rename_i hl
      cases h
      rw[<-Xli hr hp] at hl;exact Xnj hl
    · cases h
  · cases h
end Go.Av


namespace Go.Av
def Xv0 (H:X07) (a:AV) (ps:List Prop):Option (List AV×List Prop) :=
 match a with
 |.list _ es=>some (es,ps)
 |.nils=>some ([],ps)
 |.ref o off len=>match H o with
  |some x=>some ((x.es.drop off).take len,(off+len<=x.es.length)::ps)
  |none=>none
 |_=>none
theorem X3j {H:X07} {a:AV} {xs:List AV} {ps ps':List Prop} (h:Xv0 H a ps=some (xs,ps')) (hp:X3s ps'):Xhi H a xs/\X3s ps:=by
 unfold Xv0 at h;split at h
 ·cases h;exact⟨.list,hp⟩
 ·cases h;exact⟨.nils,hp⟩
 ·split at h
  ·rename_i hH;cases h;exact⟨.ref hH hp.1,hp.2⟩
  ·cases h
 ·cases h
abbrev MR:=Option (AV×Eff×List X3t×List Prop)
def Xtr (H:X07) (id:Nat) (te:TI) (s:AV) (xs:List AV) (hs:List X3t) (ps:List Prop):MR :=
 match s with
 |.nils=>if te.size≠0 then some (.ref id 0 xs.length,.new { es:=xs,esz:=te.size },hs,
   (xs≠[])::(xs.length<=maxLen)::(xs.length*te.bytes<=140737488355328)::(∀ e∈xs,e.cells.length=te.size)::ps) else none
 |.ref o 0 n=>match H o with
  |some y=>match y.spent with
   |false=>if y.esz=te.size then some (.ref id 0 (n+xs.length),.app o { es:=y.es++xs,esz:=te.size },hs,
     (y.es.length=n)::(xs≠[])::(n+xs.length<=maxLen)::((n+xs.length)*te.bytes<=140737488355328)::(∀ e∈xs,e.cells.length=te.size)::ps) else none
   |true=>none
  |none=>none
 |_=>none
def X8w:AV->Bool
 |.list ..|.ref ..|.nils=>true
 |_=>false
theorem X88 {a:AV} (h:X8w a=true):(∃ n,Xhw a=some n)/\∀ u,a≠.sc (.string u):=by
 cases a<;>simp[X8w] at h<;>exact⟨⟨_,rfl⟩,λu hu=>by cases hu⟩
def mkS (T:Ty) (L:List (Nat×AV)) (H:X07) (id:Nat) (op:Op) (hs:List X3t):MR :=
 match op with
 |.box _ x=>match rd L x with
  |(a,ps)=>match a.whole with
   |true=>match a.cells with
    |[]=>none
    |_::_=>some (.ptr id 0 0,.new { es:=[a],esz:=a.cells.length },hs,ps)
   |false=>none
 |.alloc elem=>match T elem with
  |some ti=>if ti.size≠0 then X99 (X8f ti.zero) λz=>some (.ptr id 0 0,.new { es:=[z],esz:=ti.size },hs,[]) else none
  |none=>none
 |.buildSlice t len ps=>match X3c T t with
  |some te=>if len=0 then (match ps with
    |⟨[]⟩=>some (.nils,.none,hs,[])
    |_=>none)
   else if te.size≠0 then (if len*te.size<=2 ^ 24 then (match Xqw L ps.toList with
    |(vs,qs)=>match X9h te.size (List.replicate len (X8f te.zero)) vs with
     |some es=>Xaw es λes=>some (.ref id 0 len,.new { es:=es,esz:=te.size },hs,qs)
     |none=>none) else none) else none
  |none=>none
 |.makeSlice t l cc=>match X3c T t with
  |some te=>match rd L l,rd L cc with
   |(.sc (.int _ n),p),(.sc (.int _ m),q)=>match hs with
    |.ne false::hs=>some (.nils,.none,hs,(n=0)::(m=0)::(p++q))
    |hs=>if te.size≠0 then some (.ref id 0 n.toNat,.new { es:=List.replicate n.toNat (X8f te.zero),esz:=te.size },hs,
      (0<=n)::(n<=m)::(0<m)::(te.bytes*m<=2 ^ 48)::(m<2 ^ 62)::(p++q)) else none
   |_,_=>none
  |none=>none
 |.call { callee:=.builtin .append,args:=⟨[s,x]⟩,argTypes:=⟨[t,t']⟩ }=>if t=t' then (match X3c T t with
  |some te=>match rd L s,rd L x with
   |(a,p),(b,q)=>match Xv0 H b (p++q) with
    |some (xs,ps)=>match hs with
     |.ne false::hs=>match X8w a with
      |true=>some (a,.none,hs,(xs=[])::ps)
      |false=>none
     |.ne true::hs=>Xtr H id te a xs hs ps
     |.via (.list _ xs')::hs=>Xtr H id te a xs' hs ((xs=xs')::ps)
     |.stop _::_=>none
     |.no::hs=>Xaw xs λxs=>match xs with
      |[]=>match X8w a with
       |true=>some (a,.none,hs,ps)
       |false=>none
      |e::r=>Xtr H id te a (e::r) hs ps
     |hs=>Xaw xs λxs=>match xs with
      |[]=>match X8w a with
       |true=>some (a,.none,hs,ps)
       |false=>none
      |e::r=>Xtr H id te a (e::r) hs ps
    |none=>none
  |none=>none) else none
 |_=>none
theorem Xg9 {T:Ty} {ev:Operand->AV} {H:X07} {id:Nat} {s x:Operand} {t:Nat} {ti te:TI} {et:Nat} {u:AV} {xs:List AV} {hs hs':List X3t} {ps ps':List Prop} {a:AV} {e:Eff}
  (ht:T t=some ti) (hk:ti.kind=.slice et) (hte:T et=some te) (hsu:X3s ps->ev s=u) (hx:X3s ps->Xhi H (ev x) xs) (h:Xtr H id te u xs hs ps=some (a,e,hs',ps')) (hp:X3s ps') :
  Mk T ev H id (.call { callee:=.builtin .append,args:=#[s,x],argTypes:=#[t,t] }) a e/\∀ old x,e=.app old x\/e=.new x->x.solo=true/\x.spent=false:=by
 unfold Xtr at h;split at h
 ·split at h
  ·rename_i hz;cases h
   obtain⟨p1,p2,p3,p4,p5⟩:=hp;refine⟨.appendNil (hsu p5) (hx p5) p1 ht hk hte p4 hz p2 p3,λold y hy=>by rcases hy with hy|hy<;>cases hy;exact⟨rfl,rfl⟩⟩
  ·cases h
 ·split at h
  ·rename_i hH;split at h
   ·rename_i hsp;split at h
    ·rename_i hes;cases h
     obtain⟨p0,p1,p2,p3,p4,p5⟩:=hp;refine⟨.append (hsu p5) hH p0 hsp hes (hx p5) p1 ht hk hte p4 p2 p3,λold y hy=>by rcases hy with hy|hy<;>cases hy;exact⟨rfl,rfl⟩⟩
    ·cases h
   ·cases h
  ·cases h
 ·cases h
theorem Xj6 {T:Ty} {L:List (Nat×AV)} {H:X07} {id:Nat} {op:Op} {hs hs':List X3t} {ps:List Prop} {a:AV} {e:Eff} (h:mkS T L H id op hs=some (a,e,hs',ps)) (hp:X3s ps) :
  Mk T (evA (fr L)) H id op a e/\∀ old x,e=.app old x\/e=.new x->x.solo=true/\x.spent=false:=by
 unfold mkS at h;split at h
 ·split at h
  rename_i hr;split at h
  ·rename_i hw;split at h
   ·cases h
   ·rename_i hc;cases h
    have:=X0j hr hp;rw[<-this];exact⟨.box (by rw[this];exact hw) (by rw[this,hc];simp),λold y hy=>by rcases hy with hy|hy<;>cases hy;exact⟨rfl,rfl⟩⟩
  ·cases h
 ·split at h
  ·rename_i ht;split at h
   ·rename_i hz;rw[X4y,X6z] at h;cases h
    exact⟨.alloc ht hz,λold y hy=>by rcases hy with hy|hy<;>cases hy;exact⟨rfl,rfl⟩⟩
   ·cases h
  ·cases h
 ·split at h
  ·rename_i hs;obtain⟨ti,et,h1,h2,h3⟩:=X1j hs;split at h
   ·rename_i hl;subst hl;split at h
    ·cases h
     exact⟨.slice0 h1 h2 h3,λold y hy=>by rcases hy with hy|hy<;>cases hy⟩
    ·cases h
   ·rename_i hl;split at h
    ·rename_i hz;split at h
     ·rename_i hb;split at h
      rename_i hr;split at h
      ·rename_i hsp;rw[X97] at h;cases h
       rw[<-Xli hr hp,X6z] at hsp;exact⟨.buildSlice h1 h2 h3 hl hz hb hsp,λold y hy=>by rcases hy with hy|hy<;>cases hy;exact⟨rfl,rfl⟩⟩
      ·cases h
     ·cases h
    ·cases h
  ·cases h
 ·split at h
  ·rename_i hs;obtain⟨ti,et,h1,h2,h3⟩:=X1j hs;split at h
   ·rename_i hl hc;split at h
    ·cases h
     obtain⟨rfl,rfl,p3⟩:=hp;obtain⟨q1,q2⟩:=X05.1 p3;exact⟨.make0 (X0j hl q1) (X0j hc q2) h1 h2 h3,λold y hy=>by rcases hy with hy|hy<;>cases hy⟩
    ·split at h
     ·rename_i hz;cases h
      obtain⟨p1,p2,p3,p4,p5,p6⟩:=hp;obtain⟨q1,q2⟩:=X05.1 p6;rw[X6z];exact⟨.make (X0j hl q1) (X0j hc q2) p1 p2 p3 h1 h2 h3 hz p4 p5,λold y hy=>by rcases hy with hy|hy<;>cases hy;exact⟨rfl,rfl⟩⟩
     ·cases h
   ·cases h
  ·cases h
 ·split at h
  ·rename_i htt;subst htt;split at h
   ·rename_i hs;obtain⟨ti,et,h1,h2,h3⟩:=X1j hs;split at h
    rename_i hra hrb;split at h
    ·rename_i hsrc;split at h
     ·split at h
      ·rename_i hsl;cases h
       obtain⟨rfl,p2⟩:=hp;obtain⟨s1,s2⟩:=X3j hsrc p2;obtain⟨q1,q2⟩:=X05.1 s2;have e1:=X0j hra q1;have e2:=X0j hrb q2;obtain⟨⟨n,hn⟩,hu⟩:=X88 hsl;rw[<-e1] at hn hu ⊢;rw[<-e2] at s1;exact⟨.append0 hn hu s1 h1 h2 h3,λold y hy=>by rcases hy with hy|hy<;>cases hy⟩
      ·cases h
     ·refine Xg9 h1 h2 h3 (λhq=>?_) (λhq=>?_) h hp
      ·exact X0j hra (X05.1 (X3j hsrc hq).2).1
      ·rw[X0j hrb (X05.1 (X3j hsrc hq).2).2];exact(X3j hsrc hq).1
     ·refine Xg9 h1 h2 h3 (λhq=>?_) (λhq=>?_) h hp
      ·exact X0j hra (X05.1 (X3j hsrc hq.2).2).1
      ·rw[X0j hrb (X05.1 (X3j hsrc hq.2).2).2,<-hq.1];exact(X3j hsrc hq.2).1
     ·cases h
     ·rw[X97] at h;split at h
      ·split at h
       ·rename_i hsl;cases h
        obtain⟨s1,s2⟩:=X3j hsrc hp;obtain⟨q1,q2⟩:=X05.1 s2;have e1:=X0j hra q1;have e2:=X0j hrb q2;obtain⟨⟨n,hn⟩,hu⟩:=X88 hsl;rw[<-e1] at hn hu ⊢;rw[<-e2] at s1;exact⟨.append0 hn hu s1 h1 h2 h3,λold y hy=>by rcases hy with hy|hy<;>cases hy⟩
       ·cases h
      ·refine Xg9 h1 h2 h3 (λhq=>?_) (λhq=>?_) h hp
       ·exact X0j hra (X05.1 (X3j hsrc hq).2).1
       ·rw[X0j hrb (X05.1 (X3j hsrc hq).2).2];exact(X3j hsrc hq).1
     ·rw[X97] at h;split at h
      ·split at h
       ·rename_i hsl;cases h
        obtain⟨s1,s2⟩:=X3j hsrc hp;obtain⟨q1,q2⟩:=X05.1 s2;have e1:=X0j hra q1;have e2:=X0j hrb q2;obtain⟨⟨n,hn⟩,hu⟩:=X88 hsl;rw[<-e1] at hn hu ⊢;rw[<-e2] at s1;exact⟨.append0 hn hu s1 h1 h2 h3,λold y hy=>by rcases hy with hy|hy<;>cases hy⟩
       ·cases h
      ·refine Xg9 h1 h2 h3 (λhq=>?_) (λhq=>?_) h hp
       ·exact X0j hra (X05.1 (X3j hsrc hq).2).1
       ·rw[X0j hrb (X05.1 (X3j hsrc hq).2).2];exact(X3j hsrc hq).1
    ·cases h
   ·cases h
  ·cases h
 ·cases h
def Xne (o:Nat):List (Nat×Obj)->List (Nat×Obj)
 |[]=>[]
 |(d,x)::l=>bif Nat.beq d o then Xne o l else (d,x)::Xne o l
theorem Xie (o:Nat):∀ G:List (Nat×Obj),hp (Xne o G)=upd (hp G) o none:=by
 intro G;funext q
 induction G with
 |nil=>simp[Xne,hp,upd]
 |cons a l ih =>
  obtain⟨d,x⟩:=a;simp only[Xne]
  cases hb:Nat.beq d o with
  |true =>
   have hd:d=o:=Nat.eq_of_beq_eq_true hb;subst hd;simp only[cond_true,ih,hp];by_cases hq:q=d
   ·subst hq;rw[Xg,Xg]
   ·have:Nat.beq q d=false:=by rw[<-Bool.not_eq_true,Nat.beq_eq];exact hq
    rw[Xh _ _ hq,Xh _ _ hq];simp only[this,cond_false]
  |false =>
   have hd:d≠o:=λe=>by rw[e,Nat.beq_refl] at hb;cases hb
   simp only[cond_false,hp,ih];by_cases hq:q=o
   ·subst hq;have:Nat.beq q d=false:=by rw[<-Bool.not_eq_true,Nat.beq_eq];exact λe=>hd e.symm
    rw[this,Xg,cond_false,Xg]
   ·rw[Xh _ _ hq,Xh _ _ hq]
theorem Xbj (o:Nat) (x:Obj) (G:List (Nat×Obj)) (hx:x.gone=false):hp ((o,x)::G)=upd (hp G) o (some x):=by
 funext q
 simp only[hp,hx,cond_false];by_cases h:q=o
 ·subst h;rw[Xg];simp
 ·have:Nat.beq q o=false:=by rw[<-Bool.not_eq_true,Nat.beq_eq];exact h
  rw[Xh _ _ h,this];rfl
theorem Xi4 (o:Nat) (x:Obj) (G:List (Nat×Obj)) (hx:x.gone=false):hp ((o,x)::Xne o G)=upd (hp G) o (some x):=by
 rw[Xbj _ _ _ hx,Xie];funext q
 by_cases hq:q=o
 ·subst hq;rw[Xg,Xg]
 ·rw[Xh _ _ hq,Xh _ _ hq,Xh _ _ hq]
def Xvq (id:Nat) (G:List (Nat×Obj)):Eff->List (Nat×Obj)
 |.none=>G
 |.new x=>(id,x)::G
 |.app old x=>(id,x)::Xne old G
def Xqe:Eff->Bool
 |.none=>true
 |.new x=>!x.gone
 |.app _ x=>!x.gone
theorem Xt4 (id:Nat) (G:List (Nat×Obj)) (e:Eff) (he:Xqe e=true):hp (Xvq id G e)=e.seq id (hp G):=by
 cases e with
 |none=>rfl
 |new x=>exact Xbj _ _ _ (by simpa[Xqe] using he)
 |app old x=>simp only[Xvq,Eff.seq,Xbj _ _ _ (show x.gone=false by simpa[Xqe] using he),Xie]
structure X2j (P:Program) (f:Nat) (H:X07) (as bs:List AV) (r:AV):Prop where
 isPure:X0f P f bs r
 lends:∃ Hr,Cvs false Hr as bs/\(∀ o x,Hr o=some x->H o=some x)/\(Xdy r\/∀ o,Hr o=none)
structure Xti (P:Program) (f:Nat) (as:List AV) (G:List (Nat×Obj)) (n:Nat) (r:AV) (G':List (Nat×Obj)) (n':Nat):Prop where
 hc:HC P f as (hp G) n (λr2 H2 n2=>r2=r/\H2=hp G'/\n2=n')
def stO (T:Ty) (L:List (Nat×AV)) (G:List (Nat×Obj)) (t:Nat) (p x:Operand) (hs:List X3t):Option (Nat×Obj×List X3t×List Prop) :=
 match T t with
 |some ti=>match rd L p,rd L x with
  |(.ptr o i k,p1),(v,p2)=>match hp G o with
   |some y=>match y.solo,v.whole with
    |true,true=>match hs with
     |.ld e::hs=>if v.cells.length=ti.size then (if k+ti.size<=e.cells.length then (if ti.size≠0 then
       some (o,{ y with es:=y.es.set i (X78 e k v) },hs,(y.es[i]?=some e)::(p1++p2)) else none) else none) else none
     |hs=>match y.es[i]? with
      |some e=>if v.cells.length=ti.size then (if k+ti.size<=e.cells.length then (if ti.size≠0 then
       X99 (X78 e k v) λw=>Xaw (y.es.set i w) λes=>some (o,{ y with es:=es },hs,p1++p2) else none) else none) else none
      |none=>none
    |_,_=>none
   |none=>none
  |_,_=>none
 |none=>none
theorem Xqp {T:Ty} {L:List (Nat×AV)} {G:List (Nat×Obj)} {t q:Nat} {z:Obj} {p x:Operand} {hs hs':List X3t} {ps:List Prop} (h:stO T L G t p x hs=some (q,z,hs',ps)) (hp':X3s ps) :
  ∃ i k y e ti,evA (fr L) p=.ptr q i k/\hp G q=some y/\y.solo=true/\y.es[i]?=some e/\T t=some ti/\(evA (fr L) x).whole=true/\(evA (fr L) x).cells.length=ti.size/\k+ti.size<=e.cells.length/\ti.size≠0 /\
   z={ y with es:=y.es.set i (X78 e k (evA (fr L) x)) }:=by
 unfold stO at h;split at h
 ·rename_i ht;split at h
  ·rename_i hrp hrx;split at h
   ·rename_i hH;split at h
    ·rename_i hs1 hw1;split at h
     ·split at h
      ·rename_i c1;split at h
       ·rename_i c2;split at h
        ·rename_i c3;cases h
         obtain⟨q1,q2⟩:=hp';obtain⟨q3,q4⟩:=X05.1 q2;have e1:=X0j hrp q3;have e2:=X0j hrx q4;rw[<-e2] at hw1 c1;exact⟨_,_,_,_,_,e1,hH,hs1,q1,ht,hw1,c1,c2,c3,by rw[e2]⟩
        ·cases h
       ·cases h
      ·cases h
     ·split at h
      ·rename_i he;split at h
       ·rename_i c1;split at h
        ·rename_i c2;split at h
         ·rename_i c3;rw[X4y,X97] at h;cases h
          obtain⟨q3,q4⟩:=X05.1 hp';have e1:=X0j hrp q3;have e2:=X0j hrx q4;rw[<-e2] at hw1 c1;exact⟨_,_,_,_,_,e1,hH,hs1,he,ht,hw1,c1,c2,c3,by rw[e2]⟩
         ·cases h
        ·cases h
       ·cases h
      ·cases h
    ·cases h
   ·cases h
  ·cases h
 ·cases h
def stS (T:Ty) (L:List (Nat×AV)) (G:List (Nat×Obj)) (t:Nat) (p x:Operand) (hs:List X3t):Option (List (Nat×Obj)×List X3t×List Prop) :=
 match stO T L G t p x hs with
 |some (o,z,hs,ps)=>some ((o,z)::Xne o G,hs,ps)
 |none=>none
theorem Xu2 {T:Ty} {L:List (Nat×AV)} {G G':List (Nat×Obj)} {t:Nat} {p x:Operand} {hs hs':List X3t} {ps:List Prop} (h:stS T L G t p x hs=some (G',hs',ps)) (hp':X3s ps) :
  StR T (evA (fr L)) (hp G) (.store t p x) (hp G'):=by
 unfold stS at h;split at h
 ·rename_i ho;cases h
  obtain⟨i,k,y,e,ti,h1,h2,h3,h4,h5,h6,h7,h8,h9,rfl⟩:=Xqp ho hp';have hgn:({ y with es:=y.es.set i (X78 e k (evA (fr L) x)) }:Obj).gone=false:=show y.gone=false from Xbi h2;rw[Xi4 _ _ _ hgn];exact .store h1 h2 h3 h4 h5 h6 h7 h8 h9
 ·cases h
abbrev OR:=Option (AV×List (Nat×Obj)×Nat×List X3t×List Prop)
def quS (P:Program) (T:Ty) (L:List (Nat×AV)) (G:List (Nat×Obj)) (op:Op) (hs:List X3t):PR :=
 match op with
 |.call { callee:=.value x,args:=args,argTypes:=_ }=>match hs with
  |.pure bs r::hs=>match rd L x with
   |(.fn f caps,p)=>match rds L args.toList with
    |(as,q)=>some (r,hs,X2j P f (hp G) (as++caps) bs r::(p++q))
   |_=>none
  |_=>none
 |op=>puS T L (hp G) op hs
theorem Xlk {P:Program} {T:Ty} {nt:Nat} {L:List (Nat×AV)} {G:List (Nat×Obj)} {n:Nat} {o:Oper} {hs hs':List X3t} {ps:List Prop} {a:AV} (hT:X9r P T)
  (h:quS P T L G o.op hs=some (a,hs',ps)) (hp':X3s ps):OpR P nt o ⟨fr L,hp G,n⟩ (λa' H' n2=>a'=a/\H'=hp G/\n2=n):=by
 unfold quS at h;split at h
 ·rename_i ho;split at h
  ·split at h
   ·rename_i hx;split at h
    rename_i hargs;cases h
    obtain⟨⟨p1,Hr,p2,p3,p4⟩,q⟩:=hp';obtain⟨q1,q2⟩:=X05.1 q;refine OpR.call (s:=⟨fr L,hp G,n⟩) ho (X0j hx q1) ?_;rw[Xbx hargs q2];exact HC.of_pure p1 p2 p3 p4
   ·cases h
  ·cases h
 ·exact OpR.pu hT (s:=⟨fr L,hp G,n⟩) (Xqx h hp')
def opS (P:Program) (T:Ty) (L:List (Nat×AV)) (G:List (Nat×Obj)) (n:Nat) (op:Op) (hs:List X3t):OR :=
 match op with
 |.store t p x=>match stS T L G t p x hs with
  |some (G,hs,ps)=>some (.sc undef,G,n,hs,ps)
  |none=>none
 |.call { callee:=.value x,args:=args,argTypes:=ts }=>match hs with
  |.call r G' n'::hs=>match rd L x with
   |(.fn f caps,p)=>match rds L args.toList with
    |(as,q)=>some (r,G',n',hs,Xti P f (as++caps) G n r G' n'::(p++q))
   |_=>none
  |hs=>match quS P T L G (.call { callee:=.value x,args:=args,argTypes:=ts }) hs with
   |some (a,hs,ps)=>some (a,G,n,hs,ps)
   |none=>none
 |op=>match quS P T L G op hs with
  |some (a,hs,ps)=>some (a,G,n,hs,ps)
  |none=>match mkS T L (hp G) n op hs with
   |some (a,e,hs,ps)=>match Xqe e with
    |true=>some (a,Xvq n G e,n+1,hs,ps)
    |false=>none
   |none=>none
theorem Xqz {P:Program} {T:Ty} {nt:Nat} {L:List (Nat×AV)} {G G':List (Nat×Obj)} {n n':Nat} {o:Oper} {hs hs':List X3t} {ps:List Prop} {a:AV} (hT:X9r P T)
  (h:opS P T L G n o.op hs=some (a,G',n',hs',ps)) (hp':X3s ps):OpR P nt o ⟨fr L,hp G,n⟩ (λa' H' n2=>a'=a/\H'=hp G'/\n2=n'):=by
 unfold opS at h;split at h
 ·rename_i ho;split at h
  ·rename_i hs;cases h
   have:=Xu2 hs hp';exact OpR.st hT (s:=⟨fr L,hp G,n⟩) (by rw[ho];exact this)
  ·cases h
 ·rename_i ho;split at h
  ·split at h
   ·rename_i hx;split at h
    rename_i hargs;cases h
    obtain⟨p1,q⟩:=hp';obtain⟨q1,q2⟩:=X05.1 q;refine OpR.call (s:=⟨fr L,hp G,n⟩) ho (X0j hx q1) ?_;rw[Xbx hargs q2];exact p1.hc
   ·cases h
  ·split at h
   ·rename_i hq;cases h
    rw[<-ho] at hq;exact Xlk hT hq hp'
   ·cases h
 ·split at h
  ·rename_i hpu;cases h
   exact Xlk hT hpu hp'
  ·split at h
   ·rename_i hmk;split at h
    ·rename_i he;cases h
     obtain⟨h1,h2⟩:=Xj6 hmk hp';rw[Xt4 _ _ _ he];exact OpR.mk hT (s:=⟨fr L,hp G,n⟩) h1 h2
    ·cases h
   ·cases h
end Go.Av


namespace Go.Av
def Xdw (R:Option Nat) (P:Program) (c:Code) (Q:Exit->Act->World->Prop) (a:Act) (w:World):Prop :=
 ∀ (b:Frame) (k:List Item) (cs:List Frame),b.roundOf=R->∃ e a' w',Q e a' w'/\ArrivesIn (Machine.fenced P (FR R)) P (lone (b.atR a (.code c::.inLoop c::k)) cs w) b k cs e a' w'
theorem Xdw.start {R:Option Nat} {P:Program} {c:Code} {Q:Exit->Act->World->Prop} {a:Act} {w:World} (h:Xdw R P c Q a w):wpR R P (Code.loop c) Q a w:=by
 intro b k cs hro hb hr;obtain⟨e,a',w',hq,harr⟩:=h b k cs hro;exact⟨e,a',w',hq,.of_steps (.one (Xh4 P R _) stepR_loop) harr⟩
theorem Xdw.round {R:Option Nat} {P:Program} {c:Code} {Q:Exit->Act->World->Prop} {a:Act} {w:World} (h:wpR R P c (Exit.then (Xdw R P c Q) Q) a w):Xdw R P c Q a w:=by
 intro b k cs hro;obtain⟨e,a₁,w₁,hq,harr⟩:=h b (.inLoop c::k) cs hro trivial (Xs1 R _)
 cases e with
 |normal =>
  obtain⟨e₂,a₂,w₂,hq₂,harr₂⟩:=hq b k cs hro;exact⟨e₂,a₂,w₂,hq₂,.of_steps (StepsIn.trans harr (.one (Xh4 P R _) stepR_inLoop)) harr₂⟩
 |exit id=>exact⟨_,a₁,w₁,hq,.pass (x:=.inLoop c) rfl (λ_ _=>.inl (by simp)) harr⟩
 |goto l=>exact⟨_,a₁,w₁,hq,.pass (x:=.inLoop c) rfl (λ_ _=>.inl (by simp)) harr⟩
 |ret=>exact⟨_,a₁,w₁,hq,.pass (x:=.inLoop c) rfl (λ_ _=>.inl (by simp)) harr⟩
 |panic ch=>exact⟨_,a₁,w₁,hq,.pass (x:=.inLoop c) rfl (λ_ _=>.inl (by simp)) harr⟩
 |outgrown=>exact⟨_,a₁,w₁,hq,.pass (x:=.inLoop c) rfl (λ_ _=>.inl (by simp)) harr⟩
def X69 (P:Program) (nt n0:Nat) (b:Code) (Q:Xr->St->Mu->Prop) (s:St) (μ:Mu):Prop :=
 ∀ (c0:Ctx) (H0:X07) (c:Ctx) (act:Act),X3b nt c0 H0 n0 c s act->MOk n0 c0 c s.H μ act->∀ R,RG b R->Xdw R P b (MQ nt c0 H0 n0 Q) act c.w
def Xw2 (P:Program) (nt n0:Nat) (b:Code) (Q:Xr->St->Mu->Prop):Xr->St->Mu->Prop
 |.normal,s,μ=>X69 P nt n0 b Q s μ
 |e,s,μ=>Q e s μ
theorem X3u.loop {P:Program} {nt n0:Nat} {b:Code} {Q:Xr->St->Mu->Prop} {s:St} {μ:Mu} (h:X69 P nt n0 b Q s μ):X3u P nt n0 (.loop b) Q s μ :=
 λc0 H0 c act g hm R hR=>(h c0 H0 c act g hm R hR).start
theorem X69.round {P:Program} {nt n0:Nat} {b:Code} {Q:Xr->St->Mu->Prop} {s:St} {μ:Mu} (h:X3u P nt n0 b (Xw2 P nt n0 b Q) s μ):X69 P nt n0 b Q s μ:=by
 intro c0 H0 c act g hm R hR;refine Xdw.round (wpIn_mono (h c0 H0 c act g hm R hR) ?_);rintro e a w ⟨c',s',ae,μ',rfl,g',hm',rfl,hq⟩
 cases ae with
 |normal=>exact hq c0 H0 c' a g' hm' R hR
 |exit id=>exact⟨c',s',.exit id,μ',rfl,g',hm',rfl,hq⟩
 |ret=>exact⟨c',s',.ret,μ',rfl,g',hm',rfl,hq⟩
section
variable {P:Program} {nt n0:Nat} {s:St} {μ:Mu} {ops:Array Oper} {l:List Oper} {o:Oper} {K:St->Mu->Prop}
theorem X4q.nil (h:K s μ):X4q P nt n0 ops [] K s μ:=λ_ _ c act g hm Qx hQ _ _=>Xhl (hQ c s act μ g hm h)
theorem X4q.step {R:AV->X07->Nat->Prop} (hw:∀ (c0 c:Ctx) (H0:X07) (act:Act),X3b nt c0 H0 n0 c s act->Region.wanted o (yielded ops act.tmps)=true) (hd:∀ d,o.dst=some d->d<nt) (h:OpR P nt o s R)
  (hn:∀ a H' n',R a H' n'->X4q P nt n0 ops l K ⟨X9f s.A o.dst a,H',n'⟩ μ):X4q P nt n0 ops (o::l) K s μ:=by
 intro c0 H0 c act g hm Qx hQ R hR;refine X3i λK' hK'=>?_;rw[if_pos (hw c0 c H0 act g)];refine h c s.H n0 c act g.rebase K' Qx (λc' a H' n' v hr hgood=>?_) R;have g2:=hgood o.dst hd;exact hK' _ _ (hn a H' n' hr c0 H0 c' _ (.join g.reach g2) (hm.kept g2.reach) Qx hQ R hR)
theorem X4q.plain {R:AV->X07->Nat->Prop} (hg:o.guard=none) (hd:∀ d,o.dst=some d->d<nt) (h:OpR P nt o s R)
  (hn:∀ a H' n',R a H' n'->X4q P nt n0 ops l K ⟨X9f s.A o.dst a,H',n'⟩ μ):X4q P nt n0 ops (o::l) K s μ :=
 X4q.step (λ_ _ _ _ _=>by simp[Region.wanted,hg]) hd h hn
def gdS (want:Bool):AV->Option Bool
 |.sc (.bool b)=>match want with
  |true=>some b
  |false=>some (!b)
 |.cond g (.sc (.bool b))=>match want with
  |true=>some (g&&b)
  |false=>some (g&&!b)
 |_=>none
theorem X8v {j t:Nat} {want g:Bool} (hg:o.guard=some (j,want)) (hj:(ops[j]?).bind (·.dst)=some t) (ht:Nat.blt t nt=true) (hb:gdS want (s.A t)=some g)
  {c0 c:Ctx} {H0:X07} {act:Act} (gd:X3b nt c0 H0 n0 c s act):Region.wanted o (yielded ops act.tmps)=g:=by
 have hlt:t<act.tmps.size:=by rw[gd.size];simpa using ht
 have hf:=gd.frame t;have hy:∀ v,act.tmps.getD t undef=v->yielded ops act.tmps j=(match v with|.bool b=>some b|_=>none):=by
  intro v hv;unfold yielded;rw[hj];simp only[Option.bind_some,Array.getElem?_eq_getElem hlt];have:act.tmps[t]=v:=by simpa[hlt] using hv
  rw[this];cases v<;>rfl
 unfold gdS at hb;split at hb
 ·rename_i b hA;rw[hA] at hf;have:=hy _ hf.sc_inv;simp only at this;unfold Region.wanted;rw[hg];simp only[this];cases b<;>(split at hb<;>cases hb<;>rfl)
 ·rename_i q b hA;rw[hA] at hf
  cases hf with
  |cond h hn =>
   cases q with
   |true =>
    have:=hy _ (h rfl).sc_inv;simp only at this;unfold Region.wanted;rw[hg];simp only[this];cases b<;>(split at hb<;>cases hb<;>rfl)
   |false =>
    have:=hy _ (hn rfl);have hu:yielded ops act.tmps j=none:=this;unfold Region.wanted;rw[hg];simp only[hu];split at hb<;>cases hb<;>rfl
 ·cases hb
theorem X4q.skip {j t:Nat} {want:Bool} (hg:o.guard=some (j,want)) (hj:(ops[j]?).bind (·.dst)=some t) (ht:Nat.blt t nt=true) (hb:gdS want (s.A t)=some false)
  (hd:∀ d,o.dst=some d->d<nt) (hn:X4q P nt n0 ops l K ⟨X9f s.A o.dst (.cond false (.sc (.bool false))),s.H,s.n⟩ μ):X4q P nt n0 ops (o::l) K s μ:=by
 intro c0 H0 c act g hm Qx hQ R hR;refine X3i λK' hK'=>?_;rw[if_neg (by rw[X8v hg hj ht hb g];simp)];have g2:X3b nt c s.H n0 c _ _:=g.rebase.next hd (.refl c) rfl (λb hb=>.inl hb) (.refl c s.H) (λq x hx=>.inr ⟨q,x,hx,rfl⟩) g.inv g.solo (Nat.le_refl _) (v:=undef) (a:=.cond false (.sc (.bool false))) (.cond (λh=>by cases h) (λ_=>rfl)) (.cond .sc);exact hK' _ _ (hn c0 H0 c _ (.join g.reach g2) (hm.kept g2.reach) Qx hQ R hR)
theorem X4q.quiet {j t:Nat} {want b:Bool} {a:AV} (hg:o.guard=some (j,want)) (hj:(ops[j]?).bind (·.dst)=some t) (ht:Nat.blt t nt=true) (hb:gdS want (s.A t)=some b)
  (hd:∀ d,o.dst=some d->d<nt) (hok:a.Ok (·<s.n)) (h:b=true->OpR P nt o s (λa' H' n'=>a'=a/\H'=s.H/\n'=s.n))
  (hn:X4q P nt n0 ops l K ⟨X9f s.A o.dst (.cond b a),s.H,s.n⟩ μ):X4q P nt n0 ops (o::l) K s μ:=by
 cases b with
 |true =>
  refine X4q.step (λc0 c H0 act g=>X8v hg hj ht hb g) hd (R:=λa' H' n'=>(a'=.cond true a)/\H'=s.H/\n'=s.n) ?_ ?_
  ·intro c0 H0 n0 c act g K Q hK R;refine h rfl c0 H0 n0 c act g K Q (λc' a' H' n' v hR hgood=>?_) R;obtain⟨rfl,rfl,rfl⟩:=hR;refine hK c' (.cond true a') _ _ v ⟨rfl,rfl,rfl⟩ λdst hd=>?_;have g2:=hgood dst hd;refine⟨g2.inv,g2.solo,λq=>?_,λq=>?_,g2.size,g2.reach,g2.le0⟩
   ·have h1:=g2.frame q
    cases dst with
    |none=>exact h1
    |some d =>
     simp only[X9f] at h1 ⊢;by_cases hq:q=d
     ·subst hq;rw[Xg] at h1 ⊢;exact .cond (λ_=>h1) (λh=>by cases h)
     ·rw[Xh _ _ hq] at h1 ⊢;exact h1
   ·have h1:=g2.ok q
    cases dst with
    |none=>exact h1
    |some d =>
     simp only[X9f] at h1 ⊢;by_cases hq:q=d
     ·subst hq;rw[Xg] at h1 ⊢;exact .cond h1
     ·rw[Xh _ _ hq] at h1 ⊢;exact h1
  ·rintro _ _ _ ⟨rfl,rfl,rfl⟩;exact hn
 |false =>
  intro c0 H0 c act g hm Qx hQ R hR;refine X3i λK' hK'=>?_;rw[if_neg (by rw[X8v hg hj ht hb g];simp)];have g2:X3b nt c s.H n0 c _ _:=g.rebase.next hd (.refl c) rfl (λb hb=>.inl hb) (.refl c s.H) (λq x hx=>.inr ⟨q,x,hx,rfl⟩) g.inv g.solo (Nat.le_refl _) (v:=undef) (a:=.cond false a) (.cond (λh=>by cases h) (λ_=>rfl)) (.cond hok);exact hK' _ _ (hn c0 H0 c _ (.join g.reach g2) (hm.kept g2.reach) Qx hQ R hR)
theorem X3u.region {id:Nat} {Q:Xr->St->Mu->Prop} (h:X4q P nt n0 ops ops.toList (λs μ=>Q .normal s μ) s μ):X3u P nt n0 (.region id ops false) Q s μ:=by
 intro c0 H0 c act g hm R _;exact wpIn_region_list (h c0 H0 c act g hm _ (λc' s' act' μ' g' hm' hq=>⟨c',s',.normal,μ',rfl,g',hm',rfl,hq⟩) (some R) (λh=>by cases h))
end
mutual
theorem Xgl (M:Nat->Bool):∀ (a:AV),AV.okB M a=true->a.Ok (λo=>M o=true)
 |.junk=>λ_=>.junk
 |.sc _=>λ_=>.sc
 |.nils=>λ_=>.nils
 |.agg cs=>λh=>.agg (Xfh M cs h)
 |.tup cs=>λh=>.tup (Xfh M cs h)
 |.list ..=>λ_=>.list
 |.ref ..=>λh=>.ref h
 |.ptr ..=>λh=>.ptr h
 |.elem ..=>λ_=>.elem
 |.fn _ caps=>λh=>.fn (Xfh M caps h)
 |.mref ..=>λh=>.mref h
 |.cond _ v=>λh=>.cond (Xgl M v h)
theorem Xfh (M:Nat->Bool):∀ (l:List AV),AV.oksB M l=true->∀ a∈l,a.Ok (λo=>M o=true)
 |[]=>λ_ _ h=>by cases h
 |a::r=>λh x hx=>by
  have h':(AV.okB M a&&AV.oksB M r)=true:=h;simp only[Bool.and_eq_true] at h';rcases List.mem_cons.1 hx with he|hx
  ·rw[he];exact Xgl M a h'.1
  ·exact Xfh M r h'.2 x hx
end
theorem Xwj {n:Nat} {a:AV} (h:AV.okB (λo=>Nat.blt o n) a=true):a.Ok (·<n):=(Xgl _ a h).mono λo ho=>by simpa using ho
inductive Kn where
 |seq (c:Code)
 |block (id:Nat)
 |loop (b:Code)
inductive Cf where
 |code (c:Code)
 |exit (e:Xr)
 |ops (ops:Array Oper) (l:List Oper)
 |loop (b:Code)
def Cl (nt n0:Nat) (Q:Xr->St->Mu->Prop):Xr->St->Mu->Prop:=λe s μ =>
 ∀ (c0:Ctx) (H0:X07) (c:Ctx) (act:Act),X3b nt c0 H0 n0 c s act->MOk n0 c0 c s.H μ act->∃ c' s',c'.w=c.w/\X3b nt c0 H0 n0 c' s' act/\MOk n0 c0 c' s'.H μ act/\Q e s' μ
theorem Cl.mk {nt n0:Nat} {Q:Xr->St->Mu->Prop} {e:Xr} {s:St} {μ:Mu} (h:Q e s μ):Cl nt n0 Q e s μ:=λ_ _ c _ g hm=>⟨c,s,rfl,g,hm,h⟩
theorem X3u.ofCl {P:Program} {nt n0:Nat} {Q:Xr->St->Mu->Prop} {code:Code} {s:St} {μ:Mu} (h:X3u P nt n0 code (Cl nt n0 Q) s μ):X3u P nt n0 code Q s μ:=by
 intro c0 H0 c act g hm R hR;refine wpIn_mono (h c0 H0 c act g hm R hR) ?_;rintro e a w ⟨c',s',ae,μ',rfl,g',hm',rfl,hq⟩;obtain⟨c2,s2,h1,h2,h3,h4⟩:=hq c0 H0 c' a g' hm';exact⟨c2,s2,ae,μ',h1,h2,h3,rfl,h4⟩
def Xac (P:Program) (nt n0:Nat) (Q:Xr->St->Mu->Prop):List Kn->Xr->St->Mu->Prop
 |[]=>Cl nt n0 Q
 |.seq c::K=>Xvy P nt n0 c (Xac P nt n0 Q K)
 |.block id::K=>X6a id (Xac P nt n0 Q K)
 |.loop b::K=>Xw2 P nt n0 b (Xac P nt n0 Q K)
def X4 (P:Program) (nt n0:Nat) (Q:Xr->St->Mu->Prop) (cf:Cf) (K:List Kn) (s:St) (μ:Mu):Prop :=
 match cf with
 |.code c=>X3u P nt n0 c (Xac P nt n0 Q K) s μ
 |.exit e=>Xac P nt n0 Q K e s μ
 |.ops ops l=>X4q P nt n0 ops l (λs μ=>Xac P nt n0 Q K .normal s μ) s μ
 |.loop b=>X69 P nt n0 b (Xac P nt n0 Q K) s μ
def SSt (L:List (Nat×AV)) (G:List (Nat×Obj)) (n:Nat):St:=⟨fr L,hp G,n⟩
def Xpb {β:Type} (d:Option Nat) (a:AV) (L:List (Nat×AV)) (k:List (Nat×AV)->Option β):Option β :=
 match d with
 |some d=>k ((d,a)::L)
 |none=>k L
def Xs3 (d:Option Nat) (a:AV) (L:List (Nat×AV)):List (Nat×AV) :=
 match d with
 |some d=>(d,a)::L
 |none=>L
theorem X8y {β:Type} (d:Option Nat) (a:AV) (L:List (Nat×AV)) (k:List (Nat×AV)->Option β):Xpb d a L k=k (Xs3 d a L):=by cases d<;>rfl
theorem X5i (d:Option Nat) (a:AV) (L:List (Nat×AV)):fr (Xs3 d a L)=X9f (fr L) d a:=by
 cases d<;>rfl
def Xbz {β:Type}:List (Nat×Obj)->(List (Nat×Obj)->Option β)->Option β
 |[],k=>k []
 |p::r,k=>Xbz r λr=>k (p::r)
theorem X98 {β:Type}:∀ (G:List (Nat×Obj)) (k:List (Nat×Obj)->Option β),Xbz G k=k G:=by
 intro G
 induction G with
 |nil=>intro k;rfl
 |cons p r ih=>intro k;simp[Xbz,ih]
def Xkr {β:Type}:List Prop->List Prop->(List Prop->Option β)->Option β
 |[],ps,k=>k ps
 |q::r,ps,k=>Xkr r (q::ps) k
def Xv2:List Prop->List Prop->List Prop
 |[],ps=>ps
 |q::r,ps=>Xv2 r (q::ps)
theorem X8e {β:Type}:∀ (qs ps:List Prop) (k:List Prop->Option β),Xkr qs ps k=k (Xv2 qs ps):=by
 intro qs
 induction qs with
 |nil=>intro ps k;rfl
 |cons q r ih=>intro ps k;simp[Xkr,Xv2,ih]
theorem X6e:∀ {qs ps:List Prop},X3s (Xv2 qs ps)->X3s qs/\X3s ps:=by
 intro qs
 induction qs with
 |nil=>intro ps h;exact⟨trivial,h⟩
 |cons q r ih=>intro ps h;obtain⟨h1,h2⟩:=ih h;exact⟨⟨h2.1,h1⟩,h2.2⟩
def Xon (bad:List Nat):List (Nat×AV)->List (Nat×AV)
 |[]=>[]
 |(d,a)::l=>bif Xht d bad then Xon bad l else (d,a)::Xon bad l
theorem Xdp (bad:List Nat):∀ L,fr (Xon bad L)=frD bad (fr L):=by
 intro L;funext t
 induction L with
 |nil=>simp[Xon,fr,frD]
 |cons p l ih =>
  obtain⟨d,a⟩:=p;simp only[Xon]
  cases hb:Xht d bad with
  |true =>
   simp only[cond_true,ih,frD,fr]
   cases ht:Xht t bad with
   |true=>rfl
   |false =>
    have:Nat.beq t d=false:=by
     rw[<-Bool.not_eq_true,Nat.beq_eq];intro e;subst e;rw[hb] at ht;cases ht
    simp[this]
  |false =>
   simp only[cond_false,frD,fr]
   cases hq:Nat.beq t d with
   |true =>
    have:t=d:=Nat.eq_of_beq_eq_true hq;subst this;simp[hb]
   |false =>
    simp only[cond_false,ih,frD]
def Xt2 (base mi:Nat) (hf:Nat->Bool) (es:List X30):List (Nat×Obj)->List (Nat×Obj)
 |[]=>[]
 |(o,x)::l=>bif X95 base mi hf es o then Xt2 base mi hf es l else (o,x)::Xt2 base mi hf es l
theorem Xn5 (base mi:Nat) (hf:Nat->Bool) (es:List X30):∀ G,hp (Xt2 base mi hf es G)=hpD base mi hf es (hp G):=by
 intro G;funext q
 induction G with
 |nil=>simp[Xt2,hp,hpD]
 |cons p l ih =>
  obtain⟨o,x⟩:=p;simp only[Xt2]
  cases hb:X95 base mi hf es o with
  |true =>
   simp only[cond_true,ih,hpD,hp]
   cases ht:X95 base mi hf es q with
   |true=>rfl
   |false =>
    have:Nat.beq q o=false:=by
     rw[<-Bool.not_eq_true,Nat.beq_eq];intro e;subst e;rw[hb] at ht;cases ht
    simp[this]
  |false =>
   simp only[cond_false,hpD,hp]
   cases hq:Nat.beq q o with
   |true =>
    have:q=o:=Nat.eq_of_beq_eq_true hq;subst this;simp[hb]
   |false =>
    simp only[cond_false,ih,hpD]
def Xov (id:Nat) (G:List (Nat×Obj)):X30->List (Nat×Obj)
 |.none=>G
 |.new x=>(id,x)::G
 |.app old x=>(id,x)::Xne old G
 |.set o x=>(o,x)::Xne o G
def Xeu:X30->Bool
 |.none=>true
 |.new x=>!x.gone
 |.app _ x=>!x.gone
 |.set _ x=>!x.gone
theorem Xio (id:Nat) (G:List (Nat×Obj)) (e:X30) (he:Xeu e=true):hp (Xov id G e)=e.go id (hp G):=by
 cases e with
 |none=>rfl
 |new x=>rw[X30.go_new];exact Xbj _ _ _ (by simpa[Xeu] using he)
 |app old x=>rw[X30.go_app];simp only[Xov,Xbj _ _ _ (show x.gone=false by simpa[Xeu] using he),Xie]
 |set o x=>rw[X30.go_set];exact Xi4 o x G (by simpa[Xeu] using he)
abbrev DR:=Option (AV×X30×List X3t×List Prop)
def Xvs (T:Ty) (L:List (Nat×AV)) (G:List (Nat×Obj)) (id:Nat) (op:Op) (hs:List X3t):DR :=
 match op with
 |.call { callee:=.builtin .append,args:=⟨[s,x]⟩,argTypes:=⟨[t,t']⟩ }=>if t=t' then (match hs with
  |.go b::.ix g::hs=>match X3c T t with
   |some te=>match rd L (.tmp g) with
    |(.mref o' m,p0)=>match rd L s,rd L x with
     |(.ref o 0 n,p),(xb,q)=>if o'=o then (match hp G o with
      |some y=>if y.esz=te.size then (match Xv0 (hp G) xb (p0++(p++q)) with
       |some (xs,ps)=>match b with
        |true=>some (.ref id 0 (n+xs.length),.new { es:=y.es++xs,esz:=te.size },hs,
          (m=n)::(y.es.length=n)::(xs≠[])::(n+xs.length<=maxLen)::((n+xs.length)*te.bytes<=140737488355328)::(∀ e∈xs,e.cells.length=te.size)::ps)
        |false=>match hs with
         |.via (.list _ es')::hs=>some (.ref o 0 (n+xs.length),.set o { y with es:=es' },hs,
          (y.es.take n++xs++y.es.drop (n+xs.length)=es')::(n+xs.length<=m)::(n<=y.es.length)::(xs≠[])::(∀ e∈xs,e.cells.length=te.size)::ps)
         |_=>none
       |none=>none) else none
      |none=>none) else none
     |_,_=>none
    |_=>none
   |none=>none
  |_=>none) else none
 |_=>none
theorem Xtd {P:Program} {T:Ty} {L:List (Nat×AV)} {G:List (Nat×Obj)} {id:Nat} {o:Oper} {hs hs':List X3t} {ps:List Prop} {a:AV} {e:X30} (h:Xvs T L G id o.op hs=some (a,e,hs',ps)) (hp':X3s ps) :
  DOp P T (fr L) (hp G) id o a e:=by
 unfold Xvs at h;split at h
 ·rename_i ho;split at h
  ·rename_i htt;subst htt;split at h
   ·split at h
    ·rename_i hty;obtain⟨ti,et,h1,h2,h3⟩:=X1j hty;split at h
     ·rename_i hrg;split at h
      ·rename_i hrs hrx;split at h
       ·rename_i hoo;subst hoo;split at h
        ·rename_i hH;split at h
         ·rename_i hes;split at h
          ·rename_i hsrc;split at h
           ·cases h
            obtain⟨p1,p2,p3,p4,p5,p6,p7⟩:=hp';obtain⟨s1,s2⟩:=X3j hsrc p7;obtain⟨q0,q12⟩:=X05.1 s2;obtain⟨q1,q2⟩:=X05.1 q12;refine .new ?_ rfl rfl;rw[ho];exact .appendFull (X0j hrs q1) (by rw[X0j hrg q0,p1]) hH p2 hes (by rw[X0j hrx q2];exact s1) p3 h1 h2 h3 p6 p4 p5
           ·split at h
            ·cases h
             obtain⟨rfl,p1,p2,p3,p6,p7⟩:=hp';obtain⟨s1,s2⟩:=X3j hsrc p7;obtain⟨q0,q12⟩:=X05.1 s2;obtain⟨q1,q2⟩:=X05.1 q12;exact .room ho (X0j hrs q1) (X0j hrg q0) hH p2 p1 hes (by rw[X0j hrx q2];exact s1) p3 h1 h2 h3 p6
            ·cases h
          ·cases h
         ·cases h
        ·cases h
       ·cases h
      ·cases h
     ·cases h
    ·cases h
   ·cases h
  ·cases h
 ·cases h
def Xv5 (P:Program) (T:Ty) (L:List (Nat×AV)) (G:List (Nat×Obj)) (id:Nat) (o:Oper) (hs:List X3t):DR :=
 match o.op with
 |.store t p x=>match o.dst with
  |none=>match stO T L G t p x hs with
   |some (q,z,hs,ps)=>some (.sc undef,.set q z,hs,ps)
   |none=>none
  |some _=>none
 |.call { callee:=.value x,args:=args,argTypes:=_ }=>match hs with
  |.pure bs r::hs=>match rd L x with
   |(.fn f [],p)=>match rds L args.toList with
    |(as,q)=>match AV.okB (λ_=>false) r with
     |true=>some (r,.none,hs,X2j P f (hp G) as bs r::(p++q))
     |false=>none
   |(.fn f (u::us),p)=>match rds L args.toList with
    |(as,q)=>match AV.okB (λ_=>false) r with
     |true=>some (r,.none,hs,X2j P f (hp G) (as++(u::us)) bs r::(p++q))
     |false=>none
   |_=>none
  |_=>none
 |op=>match puS T L (hp G) op hs with
  |some (a,hs,ps)=>some (a,.none,hs,ps)
  |none=>match Xvs T L G id op hs with
   |some r=>some r
   |none=>match mkS T L (hp G) id op hs with
    |some (a,.none,hs,ps)=>some (a,.none,hs,ps)
    |some (a,.new x,hs,ps)=>some (a,.new x,hs,ps)
    |some (a,.app old x,hs,ps)=>some (a,.app old x,hs,ps)
    |none=>none
theorem Xn7 {P:Program} {T:Ty} {L:List (Nat×AV)} {G:List (Nat×Obj)} {id:Nat} {o:Oper} {hs hs':List X3t} {ps:List Prop} {a:AV} {e:X30} (h:Xv5 P T L G id o hs=some (a,e,hs',ps)) (hp':X3s ps) :
  DOp P T (fr L) (hp G) id o a e:=by
 unfold Xv5 at h;split at h
 ·rename_i ho;split at h
  ·rename_i hd;split at h
   ·rename_i hst;cases h
    obtain⟨i,k,y,e,ti,h1,h2,h3,h4,h5,h6,h7,h8,h9,rfl⟩:=Xqp hst hp';exact .store ho hd h1 h2 h4 h5 h6 h7 h8 h9
   ·cases h
  ·cases h
 ·rename_i ho;split at h
  ·split at h
   ·rename_i hx;split at h
    rename_i hargs;split at h
    ·rename_i hok;cases h
     obtain⟨⟨p1,Hr,p2,p3,p4⟩,q⟩:=hp';obtain⟨q1,q2⟩:=X05.1 q;rw[<-Xbx hargs q2] at p2;refine .pure ho (X0j hx q1) (by rw[List.append_nil];exact p2) p1 p3 (p4.imp (λh=>h) λhn=>⟨hn,λM=>?_⟩);exact(Xgl _ _ hok).mono λo ho=>by cases ho
    ·cases h
   ·rename_i hx;split at h
    rename_i hargs;split at h
    ·rename_i hok;cases h
     obtain⟨⟨p1,Hr,p2,p3,p4⟩,q⟩:=hp';obtain⟨q1,q2⟩:=X05.1 q;rw[<-Xbx hargs q2] at p2;refine .pure ho (X0j hx q1) p2 p1 p3 (p4.imp (λh=>h) λhn=>⟨hn,λM=>?_⟩);exact(Xgl _ _ hok).mono λo ho=>by cases ho
    ·cases h
   ·cases h
  ·cases h
 ·split at h
  ·rename_i hpu;cases h
   exact .pu (Xqx hpu hp')
  ·split at h
   ·rename_i hca;cases h;exact Xtd hca hp'
   ·split at h
    ·rename_i hm;cases h;exact .zero (Xj6 hm hp').1
    ·rename_i hm;cases h;obtain⟨h1,h2⟩:=Xj6 hm hp';have:=h2 0 _ (.inr rfl);exact .new h1 this.1 this.2
    ·rename_i hm;cases h;obtain⟨h1,h2⟩:=Xj6 hm hp';have:=h2 _ _ (.inl rfl);exact .app h1 this.1 this.2
    ·cases h
def Xv1 (want:Bool) (a:AV):Option (Bool×List Prop) :=
 match a with
 |.sc (.bool b)=>match want with
  |true=>some (b,[])
  |false=>some (!b,[])
 |.cond g (.sc (.bool b))=>match want with
  |true=>some (b,[g=true])
  |false=>some (!b,[g=true])
 |_=>none
theorem Xlj {want g:Bool} {a:AV} {qs:List Prop} (h:Xv1 want a=some (g,qs)) (hq:X3s qs):∃ b,X87 a=.sc (.bool b)/\g=(b==want):=by
 unfold Xv1 at h;split at h
 ·rename_i b;refine⟨b,rfl,?_⟩;cases b<;>(split at h<;>(cases h;rfl))
 ·rename_i q b;split at h
  ·cases h;obtain⟨rfl,_⟩:=hq;exact⟨g,rfl,by cases g<;>rfl⟩
  ·cases h;obtain⟨rfl,_⟩:=hq;exact⟨b,rfl,by cases b<;>rfl⟩
 ·cases h
def Xh5 (hz:Oper->Nat->Bool) (P:Program) (T:Ty) (nt base:Nat) (ops:Array Oper) (ms:List Nat) (zs:List (Nat×(Nat->Bool))):Nat->List Oper->List (Nat×AV)->List (Nat×Obj)->List X30->List X3t->List Prop->Option (List (Nat×AV)×List (Nat×Obj)×List X3t×List Prop)
 |_,[],L,G,_,hs,ps=>some (L,G,hs,ps)
 |i,o::l,L,G,es,hs,ps =>
  if X8r nt (X43 i (ms.getD i 0) 0 ops.toList ms) o.dst=true then (match o.guard with
   |none=>match Xv5 P T (Xon (X43 i (ms.getD i 0) 0 ops.toList ms) L) (Xt2 base (ms.getD i 0) (hz o) es G) (base+i) o hs with
    |some (a,e,hs',qs)=>if (Xeu e&&X4f base (ms.getD i 0) (e.objs (base+i)) 0 (zs.take i) [] es)=true then
      X99 a λa=>Xpb o.dst a L λL=>Xbz (Xov (base+i) G e) λG=>Xkr qs ps λps=>Xh5 hz P T nt base ops ms zs (i+1) l L G (es++[e]) hs' ps else none
    |none=>none
   |some (j,want)=>match (ops[j]?).bind (·.dst) with
    |some t=>if Nat.blt t nt=true then (match hs with
     |.go true::hs=>match Xv1 want (fr (Xon (X43 i (ms.getD i 0) 0 ops.toList ms) L) t) with
      |some (g,rs)=>match Xv5 P T (Xon (X43 i (ms.getD i 0) 0 ops.toList ms) L) (Xt2 base (ms.getD i 0) (hz o) es G) (base+i) o hs with
       |some (a,e,hs',qs)=>if (Xeu e&&X4f base (ms.getD i 0) (e.objs (base+i)) 0 (zs.take i) [] es)=true then
         X99 a λa=>Xpb o.dst a L λL=>Xbz (Xov (base+i) G e) λG=>Xkr rs ps λps=>Xkr qs ((g=true)::ps) λps=>Xh5 hz P T nt base ops ms zs (i+1) l L G (es++[e]) hs' ps else none
       |none=>none
      |none=>none
     |.go false::hs=>match Xv1 want (fr (Xon (X43 i (ms.getD i 0) 0 ops.toList ms) L) t) with
      |some (g,rs)=>Xpb o.dst (.sc undef) L λL=>Xkr rs ps λps=>Xh5 hz P T nt base ops ms zs (i+1) l L G (es++[.none]) hs ((g=false)::ps)
      |none=>none
     |.no::hs=>match fr (Xon (X43 i (ms.getD i 0) 0 ops.toList ms) L) t with
      |.sc v=>match Xha want v with
       |false=>Xpb o.dst (.sc undef) L λL=>Xh5 hz P T nt base ops ms zs (i+1) l L G (es++[.none]) hs ps
       |true=>none
      |_=>none
     |_=>none) else none
    |none=>none) else none
theorem Xqg {hz:Oper->Nat->Bool} {P:Program} {T:Ty} {nt base:Nat} {ops:Array Oper} {ms:List Nat}:∀ (l:List Oper) (i:Nat) (L:List (Nat×AV)) (G:List (Nat×Obj)) (es:List X30) (hs:List X3t) (ps:List Prop) (L':List (Nat×AV)) (G':List (Nat×Obj)) (hs':List X3t) (ps':List Prop),
  Xh5 hz P T nt base ops ms (ms.zip (ops.toList.map hz)) i l L G es hs ps=some (L',G',hs',ps')->X3s ps'->X3s ps/\Xnp hz P T nt base ops ms i l (fr L) (hp G) es (fr L') (hp G'):=by
 intro l
 induction l with
 |nil=>intro i L G es hs ps L' G' hs' ps' h hp';simp only[Xh5] at h;cases h;exact⟨hp',.nil⟩
 |cons o l ih =>
  intro i L G es hs ps L' G' hs' ps' h hp';simp only[Xh5] at h;split at h
  ·rename_i hd;split at h
   ·rename_i hg;split at h
    ·rename_i a e _ qs hop;split at h
     ·rename_i hw;obtain⟨he,hw⟩:=Bool.and_eq_true_iff.1 hw;rw[X4y,X8y,X98,X8e] at h;obtain⟨h1,h2⟩:=ih _ _ _ _ _ _ _ _ _ _ h hp';obtain⟨p1,p2⟩:=X6e h1;have hop':=Xn7 hop p1;rw[Xdp,Xn5] at hop';rw[X5i,Xio _ _ _ he] at h2;exact⟨p2,.op hg hd hop' hw h2⟩
     ·cases h
    ·cases h
   ·rename_i j want hg;split at h
    ·rename_i hj;split at h
     ·rename_i ht;split at h
      ·split at h
       ·rename_i hr;split at h
        ·rename_i hop;split at h
         ·rename_i hw;obtain⟨he,hw⟩:=Bool.and_eq_true_iff.1 hw;rw[X4y,X8y,X98,X8e,X8e] at h;obtain⟨h1,h2⟩:=ih _ _ _ _ _ _ _ _ _ _ h hp';obtain⟨p1,p0,p2⟩:=X6e h1;obtain⟨p3,p4⟩:=X6e p2;have hop':=Xn7 hop p1;rw[Xdp,Xn5] at hop';rw[X5i,Xio _ _ _ he] at h2;obtain⟨b,hb1,hb2⟩:=Xlj hr p3;rw[Xdp] at hb1;have:b=want:=by rw[p0] at hb2;simpa using hb2.symm
          subst this;exact⟨p4,.run hg hd hj ht hb1 hop' hw h2⟩
         ·cases h
        ·cases h
       ·cases h
      ·split at h
       ·rename_i hr;rw[X8y,X8e] at h;obtain⟨h1,h2⟩:=ih _ _ _ _ _ _ _ _ _ _ h hp';obtain⟨p0,p2⟩:=h1;obtain⟨p3,p4⟩:=X6e p2;rw[X5i] at h2;obtain⟨b,hb1,hb2⟩:=Xlj hr p3;rw[Xdp] at hb1;exact⟨p4,.skip hg hd hj ht hb1 (by rw[p0] at hb2;exact hb2.symm) h2⟩
       ·cases h
      ·split at h
       ·rename_i hr;split at h
        ·rename_i hb;rw[X8y] at h;obtain⟨h1,h2⟩:=ih _ _ _ _ _ _ _ _ _ _ h hp';rw[X5i] at h2;rw[Xdp] at hr;exact⟨h1,.skip hg hd hj ht (by rw[hr];rfl) hb h2⟩
        ·cases h
       ·cases h
      ·cases h
     ·cases h
    ·cases h
  ·cases h
def Xr3 {β:Type} (n:Nat) (k:Nat->Option β):Option β :=
 match n with
 |0=>k 0
 |m+1=>k (m+1)
theorem Xn0 {β:Type} (n:Nat) (k:Nat->Option β):Xr3 n k=k n:=by cases n<;>rfl
def Xv6 {β:Type}:List Oper->Nat->(Nat->Option β)->Option β
 |[],n,k=>k n
 |_::r,n,k=>Xr3 (n+1) λn=>Xv6 r n k
theorem Xtc {β:Type}:∀ (l:List Oper) (n:Nat) (k:Nat->Option β),Xv6 l n k=k (n+l.length):=by
 intro l
 induction l with
 |nil=>intro n k;rfl
 |cons a r ih=>intro n k;simp only[Xv6,Xn0,ih,List.length_cons];congr 1;omega
abbrev RR:=Option (Cf×List Kn×List (Nat×AV)×List (Nat×Obj)×Nat×List X3t×List Prop)
def Xel (nt n0:Nat) (s s':St):Prop:=∀ (c0:Ctx) (H0:X07) (c:Ctx) (act:Act) (μ:Mu),X3b nt c0 H0 n0 c s act->MOk n0 c0 c s.H μ act->X3b nt c0 H0 n0 c s' act/\MOk n0 c0 c s'.H μ act
theorem Xel.loop {P:Program} {nt n0:Nat} {s s':St} (hw:Xel nt n0 s s') {b:Code} {Q:Xr->St->Mu->Prop} {μ:Mu} (h:X69 P nt n0 b Q s' μ):X69 P nt n0 b Q s μ:=by
 intro c0 H0 c act g hm;obtain⟨g',hm'⟩:=hw c0 H0 c act μ g hm;exact h c0 H0 c act g' hm'
theorem Xel.semM {P:Program} {nt n0:Nat} {s s':St} (hw:Xel nt n0 s s') {c:Code} {Q:Xr->St->Mu->Prop} {μ:Mu} (h:X3u P nt n0 c Q s' μ):X3u P nt n0 c Q s μ:=by
 intro c0 H0 c act g hm;obtain⟨g',hm'⟩:=hw c0 H0 c act μ g hm;exact h c0 H0 c act g' hm'
theorem Xac.sub {P:Program} {nt n0:Nat} {Q:Xr->St->Mu->Prop} {μ:Mu} {s s':St} (hw:Xel nt n0 s s'):∀ (K:List Kn) (e:Xr),Xac P nt n0 Q K e s' μ->Xac P nt n0 Q K e s μ:=by
 intro K
 induction K with
 |nil =>
  intro e h c0 H0 c act g hm;obtain⟨g',hm'⟩:=hw c0 H0 c act μ g hm;exact h c0 H0 c act g' hm'
 |cons k K ih =>
  intro e h
  cases k with
  |seq c =>
   cases e with
   |normal=>exact hw.semM h
   |exit i=>exact ih _ h
   |ret=>exact ih _ h
  |block id =>
   cases e with
   |normal=>exact ih _ h
   |ret=>exact ih _ h
   |exit i =>
    have h':X6a id (Xac P nt n0 Q K) (.exit i) s' μ:=h;show X6a id (Xac P nt n0 Q K) (.exit i) s μ;simp only[X6a] at h' ⊢
    cases hb:Nat.beq i id with
    |true=>rw[hb,cond_true] at h';exact ih _ h'
    |false=>rw[hb,cond_false] at h';exact ih _ h'
  |loop b =>
   cases e with
   |normal=>exact hw.loop h
   |exit i=>exact ih _ h
   |ret=>exact ih _ h
theorem X4.sub {P:Program} {nt n0:Nat} {Q:Xr->St->Mu->Prop} {cf:Cf} {K:List Kn} {μ:Mu} {s s':St} (hw:Xel nt n0 s s') (h:X4 P nt n0 Q cf K s' μ):X4 P nt n0 Q cf K s μ:=by
 cases cf with
 |code c=>exact hw.semM h
 |exit e=>exact Xac.sub hw K e h
 |ops ops l =>
  intro c0 H0 c act g hm;obtain⟨g',hm'⟩:=hw c0 H0 c act μ g hm;exact h c0 H0 c act g' hm'
 |loop b=>exact hw.loop h
theorem X3b.trunc {nt n0 n:Nat} {c0 c:Ctx} {H0 H:X07} {A:Nat->AV} {act:Act} (g:X3b nt c0 H0 n0 c ⟨A,H,n⟩ act) {o:Nat} {y:Obj} (hy:H o=some y) (m:Nat) :
  X3b nt c0 H0 n0 c ⟨A,upd H o (some { y with es:=y.es.take m }),n⟩ act:=by
 have hM:∀ q z,upd H o (some { y with es:=y.es.take m }) q=some z->∃ z',H q=some z'/\(∃ m,z.es=z'.es.take m)/\z.esz=z'.esz/\z.solo=z'.solo/\z.spent=z'.spent:=by
  intro q z hz;by_cases hq:q=o
  ·subst hq;rw[Xg] at hz;cases hz;exact⟨y,hy,⟨m,rfl⟩,rfl,rfl,rfl⟩
  ·rw[Xh _ _ hq] at hz;exact⟨z,hz,⟨z.es.length,by simp⟩,rfl,rfl,rfl⟩
 have hsolo:∀ q z,upd H o (some { y with es:=y.es.take m }) q=some z->z.solo=true/\z.spent=false:=by
  intro q z hz;obtain⟨z',hz',_,_,h1,h2⟩:=hM q z hz;rw[h1,h2];exact g.solo q z' hz'
 refine⟨⟨?_,?_,?_,g.inv.lt,g.inv.base,g.inv.own,?_⟩,hsolo,g.frame,g.ok,g.size,⟨g.reach.rho,g.reach.os,g.reach.tape,g.reach.output,g.reach.size,g.reach.block,g.reach.stable,g.reach.sa,g.reach.so1,g.reach.so2,g.reach.B,?_⟩,g.le0⟩
 ·intro q z hz;obtain⟨z',hz',⟨k,hk⟩,h1,_⟩:=hM q z hz;obtain⟨g1,⟨⟨cur,hb,hs,hc⟩,hf,hp,hse⟩,g3⟩:=g.inv.obj q z' hz';refine⟨g1,⟨⟨cur,hb,hs,λi e he=>?_⟩,?_,hp,by rw[h1];exact hse⟩,λe he=>?_⟩
  ·rw[hk,List.getElem?_take] at he;split at he
   ·exact hc i e he
   ·cases he
  ·rw[hk,List.length_take];omega
  ·rw[hk] at he;exact g3 e (List.mem_of_mem_take he)
 ·intro q q' z z' hz hz' hne hb;obtain⟨x,hx,_,_,h1,_⟩:=hM q z hz;obtain⟨x',hx',_⟩:=hM q' z' hz';have:=(g.inv.sep q q' x x' hx hx' hne hb).1;rw[(g.solo q x hx).1] at this;cases this
 ·intro q z hz;obtain⟨z',hz',_⟩:=hM q z hz;exact g.inv.stab q z' hz'
 ·intro q z hz;obtain⟨z',hz',_⟩:=hM q z hz;exact g.inv.low q z' hz'
 ·intro q z hz;obtain⟨z',hz',_⟩:=hM q z hz;exact g.reach.own q z' hz'
theorem Xel.trunc {nt n0 n:Nat} {H:X07} {A:Nat->AV} {o:Nat} {y:Obj} (hy:H o=some y) (m:Nat):Xel nt n0 ⟨A,H,n⟩ ⟨A,upd H o (some { y with es:=y.es.take m }),n⟩:=by
 intro c0 H0 c act μ g hm;refine⟨g.trunc hy m,hm.is,λp hp=>?_,hm.nodup,hm.ds⟩;obtain⟨a1,a2,a3,a4⟩:=hm.away p hp;refine⟨a1,a2,λq z hz=>?_,a4⟩;have hz':upd H o (some { y with es:=y.es.take m }) q=some z:=hz;by_cases hq:q=o
 ·subst hq;exact a3 q y hy
 ·rw[Xh _ _ hq] at hz';exact a3 q z hz'
def Xqo (id:Nat):List X3t->Bool
 |.stop j::_=>Nat.beq j id
 |_=>false
def Xw0 (d:Nat):List (Nat×List Nat)->Option (List Nat)
 |[]=>none
 |(k,l)::r=>bif Nat.beq d k then some l else Xw0 d r
def hzL (l:List (Nat×List Nat)) (o:Oper) (q:Nat):Bool :=
 Xjb o.op||(match o.dst with
  |some d=>match Xw0 d l with
   |some ids=>!Xht q ids
   |none=>false
  |none=>false)
def Xvz:List X3t->Oper->Nat->Bool
 |.see l::_=>hzL l
 |_=>hz0
def Xwe:List X3t->List X3t
 |.see _::hs=>hs
 |hs=>hs
def X7s (P:Program) (T:Ty) (nt:Nat):Nat->Cf->List Kn->List (Nat×AV)->List (Nat×Obj)->Nat->List X3t->List Prop->RR
  |0,cf,K,L,G,n,hs,ps=>some (cf,K,L,G,n,hs,ps)
  |f+1,cf,K,L,G,n,hs,ps=>match cf with
    |.code c=>match c with
      |.skip=>X7s P T nt f (.exit .normal) K L G n hs ps
      |.label _=>X7s P T nt f (.exit .normal) K L G n hs ps
      |.exit id=>X7s P T nt f (.exit (.exit id)) K L G n hs ps
      |.ret=>X7s P T nt f (.exit .ret) K L G n hs ps
      |.seq a b=>X7s P T nt f (.code a) (.seq b::K) L G n hs ps
      |.block id c=>X7s P T nt f (.code c) (.block id::K) L G n hs ps
      |.scope c=>X7s P T nt f (.code c) K L G n hs ps
      |.region id ops false=>match hs with
        |.stop j::hs=>match Nat.beq j id with
          |true=>some (.code (.region id ops false),K,L,G,n,hs,ps)
          |false=>X7s P T nt f (.ops ops ops.toList) K L G n (.stop j::hs) ps
        |hs=>X7s P T nt f (.ops ops ops.toList) K L G n hs ps
      |.region id ops true=>match Xqo id hs with
       |true=>some (.code (.region id ops true),K,L,G,n,hs.tail,ps)
       |false=>match Xk2 0 ops.toList with
        |true=>match Xh5 (Xvz hs) P T nt n ops (X1r ops.toList) ((X1r ops.toList).zip (ops.toList.map (Xvz hs))) 0 ops.toList L G [] (Xwe hs) ps with
          |some (L,G,hs,ps)=>Xbz G λG=>Xv6 ops.toList n λn=>X7s P T nt f (.exit .normal) K L G n hs ps
          |none=>none
        |false=>none
      |.loop b=>some (.loop b,K,L,G,n,hs,ps)
      |.cond x a b=>match hs with
        |.br true::hs=>match rd L x with
          |(.sc (.bool t),qs)=>Xkr qs ((t=true)::ps) λps=>X7s P T nt f (.code a) K L G n hs ps
          |_=>none
        |.br false::hs=>match rd L x with
          |(.sc (.bool t),qs)=>Xkr qs ((t=false)::ps) λps=>X7s P T nt f (.code b) K L G n hs ps
          |_=>none
        |hs=>some (.code (.cond x a b),K,L,G,n,hs,ps)
      |c=>some (.code c,K,L,G,n,hs,ps)
    |.exit e=>match K with
      |[]=>some (.exit e,[],L,G,n,hs,ps)
      |.seq c::K=>match e with
        |.normal=>X7s P T nt f (.code c) K L G n hs ps
        |e=>X7s P T nt f (.exit e) K L G n hs ps
      |.block id::K=>match e with
        |.exit i=>match Nat.beq i id with
          |true=>X7s P T nt f (.exit .normal) K L G n hs ps
          |false=>X7s P T nt f (.exit (.exit i)) K L G n hs ps
        |e=>X7s P T nt f (.exit e) K L G n hs ps
      |.loop b::K=>match e with
        |.normal=>some (.loop b,K,L,G,n,hs,ps)
        |e=>X7s P T nt f (.exit e) K L G n hs ps
    |.loop b=>some (.loop b,K,L,G,n,hs,ps)
    |.ops ops l=>match l with
      |[]=>X7s P T nt f (.exit .normal) K L G n hs ps
      |o::l=>match hs with
       |.trunc q es::hs=>match hp G q with
        |some y=>X7s P T nt f (.ops ops (o::l)) K L ((q,{ y with es:=es })::Xne q G) n hs ((∃ m,es=y.es.take m)::ps)
        |none=>none
       |hs=>if Xg2 nt o.dst=true then (match o.guard with
        |none=>match opS P T L G n o.op hs with
          |some (a,G',n',hs',qs)=>X99 a λa=>Xpb o.dst a L λL=>Xbz G' λG=>Xkr qs ps λps=>X7s P T nt f (.ops ops l) K L G n' hs' ps
          |none=>some (.ops ops (o::l),K,L,G,n,hs,ps)
        |some (j,want)=>match (ops[j]?).bind (·.dst) with
          |some t=>if Nat.blt t nt=true then (match gdS want (fr L t) with
            |some g=>match Xqo 999999 hs with
             |true=>some (.ops ops (o::l),K,L,G,n,hs.tail,ps)
             |false=>match hs with
              |.go true::hs=>match opS P T L G n o.op hs with
                |some (a,G',n',hs',qs)=>X99 a λa=>Xpb o.dst a L λL=>Xbz G' λG=>Xkr qs ((g=true)::ps) λps=>X7s P T nt f (.ops ops l) K L G n' hs' ps
                |none=>none
              |.go false::hs=>Xpb o.dst (.cond false (.sc (.bool false))) L λL=>X7s P T nt f (.ops ops l) K L G n hs ((g=false)::ps)
              |hs=>match quS P T L G o.op hs with
                |some (a,hs',qs)=>match AV.okB (λo=>Nat.blt o n) a with
                  |true=>X99 a λa=>Xpb o.dst (.cond g a) L λL=>Xkr (Xgd g qs) ps λps=>X7s P T nt f (.ops ops l) K L G n hs' ps
                  |false=>none
                |none=>some (.ops ops (o::l),K,L,G,n,hs,ps)
            |none=>none) else none
          |none=>none) else none
theorem Xrz {P:Program} {T:Ty} {nt n0:Nat} {μ:Mu} {Q:Xr->St->Mu->Prop} (hT:X9r P T) (hm:P.follows .mixedOrders=true):∀ (f:Nat) (cf:Cf) (K:List Kn) (L:List (Nat×AV)) (G:List (Nat×Obj)) (n:Nat) (hs:List X3t) (ps:List Prop) (cf':Cf) (K':List Kn) (L':List (Nat×AV)) (G':List (Nat×Obj)) (n':Nat) (hs':List X3t) (ps':List Prop),
  X7s P T nt f cf K L G n hs ps=some (cf',K',L',G',n',hs',ps')->X3s ps'->X3s ps/\(X4 P nt n0 Q cf' K' (SSt L' G' n') μ->X4 P nt n0 Q cf K (SSt L G n) μ):=by
 intro f
 induction f with
 |zero=>intro cf K L G n hs ps cf' K' L' G' n' hs' ps' h hp;simp only[X7s] at h;cases h;exact⟨hp,λh=>h⟩
 |succ f ih =>
  intro cf K L G n hs ps cf' K' L' G' n' hs' ps' h hp;have stop:some (cf,K,L,G,n,hs,ps)=some (cf',K',L',G',n',hs',ps')->X3s ps/\(X4 P nt n0 Q cf' K' (SSt L' G' n') μ->X4 P nt n0 Q cf K (SSt L G n) μ):=by
   intro h;cases h;exact⟨hp,λh=>h⟩
  cases cf with
  |code c =>
   cases c with
   |skip=>obtain⟨h1,h2⟩:=ih _ _ _ _ _ _ _ _ _ _ _ _ _ _ h hp;exact⟨h1,λk=>X3u.skip (h2 k)⟩
   |label=>obtain⟨h1,h2⟩:=ih _ _ _ _ _ _ _ _ _ _ _ _ _ _ h hp;exact⟨h1,λk=>X3u.label (h2 k)⟩
   |exit=>obtain⟨h1,h2⟩:=ih _ _ _ _ _ _ _ _ _ _ _ _ _ _ h hp;exact⟨h1,λk=>X3u.exit (h2 k)⟩
   |ret=>obtain⟨h1,h2⟩:=ih _ _ _ _ _ _ _ _ _ _ _ _ _ _ h hp;exact⟨h1,λk=>X3u.ret (h2 k)⟩
   |seq=>obtain⟨h1,h2⟩:=ih _ _ _ _ _ _ _ _ _ _ _ _ _ _ h hp;exact⟨h1,λk=>X3u.seq (h2 k)⟩
   |block=>obtain⟨h1,h2⟩:=ih _ _ _ _ _ _ _ _ _ _ _ _ _ _ h hp;exact⟨h1,λk=>X3u.block (h2 k)⟩
   |scope=>obtain⟨h1,h2⟩:=ih _ _ _ _ _ _ _ _ _ _ _ _ _ _ h hp;exact⟨h1,λk=>X3u.scope (h2 k)⟩
   |region id ops d =>
    cases d with
    |false =>
     simp only[X7s] at h;split at h
     ·split at h
      ·cases h;exact⟨hp,λk=>k⟩
      ·obtain⟨h1,h2⟩:=ih _ _ _ _ _ _ _ _ _ _ _ _ _ _ h hp;exact⟨h1,λk=>X3u.region (h2 k)⟩
     ·obtain⟨h1,h2⟩:=ih _ _ _ _ _ _ _ _ _ _ _ _ _ _ h hp;exact⟨h1,λk=>X3u.region (h2 k)⟩
    |true =>
     simp only[X7s] at h;split at h
     ·cases h;exact⟨hp,λk=>k⟩
     split at h
     ·rename_i hpre;split at h
      ·rename_i hd;rw[X98,Xtc] at h;obtain⟨h1,h2⟩:=ih _ _ _ _ _ _ _ _ _ _ _ _ _ _ h hp;obtain⟨h3,h4⟩:=Xqg _ _ _ _ _ _ _ _ _ _ _ hd h1;exact⟨h3,λk=>X3u.of (Xij.drawn (s:=SSt L G n) hm hT hpre h4 (h2 k))⟩
      ·cases h
     ·cases h
   |loop b=>cases h;exact⟨hp,λk=>X3u.loop k⟩
   |cond x a b =>
    simp only[X7s] at h;split at h
    ·split at h
     ·rename_i hr;rw[X8e] at h;obtain⟨h1,h2⟩:=ih _ _ _ _ _ _ _ _ _ _ _ _ _ _ h hp;obtain⟨p3,p1,p4⟩:=X6e h1;exact⟨p4,λk=>X3u.cond (s:=(SSt L G n)) (X0j hr p3) (λ_=>h2 k) (λhf=>by rw[p1] at hf;cases hf)⟩
     ·cases h
    ·split at h
     ·rename_i hr;rw[X8e] at h;obtain⟨h1,h2⟩:=ih _ _ _ _ _ _ _ _ _ _ _ _ _ _ h hp;obtain⟨p3,p1,p4⟩:=X6e h1;exact⟨p4,λk=>X3u.cond (s:=(SSt L G n)) (X0j hr p3) (λhf=>by rw[p1] at hf;cases hf) (λ_=>h2 k)⟩
     ·cases h
    ·exact stop h
   |_=>exact stop h
  |exit e =>
   cases K with
   |nil=>exact stop h
   |cons kn K =>
    cases kn with
    |seq c=>cases e<;>(simp only[X7s] at h;obtain⟨h1,h2⟩:=ih _ _ _ _ _ _ _ _ _ _ _ _ _ _ h hp;exact⟨h1,λk=>h2 k⟩)
    |loop b =>
     cases e with
     |normal=>cases h;exact⟨hp,λk=>k⟩
     |exit i=>simp only[X7s] at h;obtain⟨h1,h2⟩:=ih _ _ _ _ _ _ _ _ _ _ _ _ _ _ h hp;exact⟨h1,λk=>h2 k⟩
     |ret=>simp only[X7s] at h;obtain⟨h1,h2⟩:=ih _ _ _ _ _ _ _ _ _ _ _ _ _ _ h hp;exact⟨h1,λk=>h2 k⟩
    |block id =>
     cases e with
     |normal=>simp only[X7s] at h;obtain⟨h1,h2⟩:=ih _ _ _ _ _ _ _ _ _ _ _ _ _ _ h hp;exact⟨h1,λk=>h2 k⟩
     |ret=>simp only[X7s] at h;obtain⟨h1,h2⟩:=ih _ _ _ _ _ _ _ _ _ _ _ _ _ _ h hp;exact⟨h1,λk=>h2 k⟩
     |exit i =>
      simp only[X7s] at h;split at h
      ·rename_i hb;obtain⟨h1,h2⟩:=ih _ _ _ _ _ _ _ _ _ _ _ _ _ _ h hp;refine⟨h1,λk=>?_⟩;show X6a id (Xac P nt n0 Q K) (.exit i) (SSt L G n) μ;simp only[X6a,hb,cond_true];exact h2 k
      ·rename_i hb;obtain⟨h1,h2⟩:=ih _ _ _ _ _ _ _ _ _ _ _ _ _ _ h hp;refine⟨h1,λk=>?_⟩;show X6a id (Xac P nt n0 Q K) (.exit i) (SSt L G n) μ;simp only[X6a,hb,cond_false];exact h2 k
  |loop b=>exact stop h
  |ops ops l =>
   simp only[X7s] at h;split at h
   ·obtain⟨h1,h2⟩:=ih _ _ _ _ _ _ _ _ _ _ _ _ _ _ h hp;exact⟨h1,λk=>X4q.nil (h2 k)⟩
   ·split at h
    ·split at h
     ·rename_i hy;obtain⟨⟨⟨m,rfl⟩,h1⟩,h2⟩:=ih _ _ _ _ _ _ _ _ _ _ _ _ _ _ h hp;refine⟨h1,λk=>X4.sub (Xel.trunc (A:=fr L) (H:=Go.Av.hp G) (n:=n) hy m) ?_⟩;have:=h2 k;have hgn:=Xbi hy;simp only[SSt] at this;rw[Xi4] at this
      ·exact this
      ·exact hgn
     ·cases h
    split at h
    ·rename_i hd;have hdl:=X8k hd;split at h
     ·rename_i hg;split at h
      ·rename_i hop;rw[X4y,X8y,X98,X8e] at h;obtain⟨h1,h2⟩:=ih _ _ _ _ _ _ _ _ _ _ _ _ _ _ h hp;obtain⟨p1,p2⟩:=X6e h1;refine⟨p2,λk=>X4q.plain hg hdl (Xqz hT hop p1) ?_⟩;rintro _ _ _ ⟨rfl,rfl,rfl⟩;have:=h2 k;simp only[X4,SSt,X5i] at this;exact this
      ·exact stop h
     ·rename_i j want hg;split at h
      ·rename_i hj;split at h
       ·rename_i ht;split at h
        ·rename_i g hgd;split at h
         ·cases h;exact⟨hp,λk=>k⟩
         split at h
         ·split at h
          ·rename_i hop;rw[X4y,X8y,X98,X8e] at h;obtain⟨h1,h2⟩:=ih _ _ _ _ _ _ _ _ _ _ _ _ _ _ h hp;obtain⟨p1,p0,p2⟩:=X6e h1;subst p0;refine⟨p2,λk=>X4q.step (λc0 c H0 act gd=>X8v (s:=SSt L G n) hg hj ht hgd gd) hdl (Xqz hT hop p1) ?_⟩;rintro _ _ _ ⟨rfl,rfl,rfl⟩;have:=h2 k;simp only[X4,SSt,X5i] at this;exact this
          ·cases h
         ·rw[X8y] at h;obtain⟨h1,h2⟩:=ih _ _ _ _ _ _ _ _ _ _ _ _ _ _ h hp;obtain⟨p0,p1⟩:=h1;subst p0;refine⟨p1,λk=>X4q.skip (s:=SSt L G n) hg hj ht hgd hdl ?_⟩;have:=h2 k;simp only[X4,SSt,X5i] at this;exact this
         ·split at h
          ·rename_i hpu;split at h
           ·rename_i hok;rw[X4y,X8y,X8e] at h;obtain⟨h1,h2⟩:=ih _ _ _ _ _ _ _ _ _ _ _ _ _ _ h hp;obtain⟨p1,p2⟩:=X6e h1;refine⟨p2,λk=>X4q.quiet (s:=SSt L G n) hg hj ht hgd hdl (Xwj hok) (λhb=>Xlk hT hpu (Xcy p1 hb)) ?_⟩;have:=h2 k;simp only[X4,SSt,X5i] at this;exact this
           ·cases h
          ·exact stop h
        ·cases h
       ·cases h
      ·cases h
    ·cases h
theorem X4.round {P:Program} {nt n0:Nat} {μ:Mu} {Q:Xr->St->Mu->Prop} {b:Code} {K:List Kn} {s:St} (h:X4 P nt n0 Q (.code b) (.loop b::K) s μ):X4 P nt n0 Q (.loop b) K s μ:=X69.round h
theorem Xiu {P:Program} {T:Ty} {nt n0:Nat} {μ:Mu} {Q:Xr->St->Mu->Prop} {cf cf':Cf} {K K':List Kn} {L L':List (Nat×AV)} {G G':List (Nat×Obj)} {n n':Nat} {hs':List X3t} {ps':List Prop} (hT:X9r P T/\P.follows .mixedOrders=true) (f:Nat) (hs:List X3t)
  (h:X7s P T nt f cf K L G n hs []=some (cf',K',L',G',n',hs',ps')) (hp':X3s ps') (k:X4 P nt n0 Q cf' K' ⟨fr L',hp G',n'⟩ μ):X4 P nt n0 Q cf K ⟨fr L,hp G,n⟩ μ :=
 (Xrz hT.1 hT.2 f cf K L G n hs [] cf' K' L' G' n' hs' ps' h hp').2 k
end Go.Av


namespace Go.Av
def argL:Nat->List AV->List (Nat×AV)
 |_,[]=>[]
 |i,a::r=>(i,a)::argL (i+1) r
theorem Xnn:∀ (as:List AV) (i t:Nat),fr (argL i as) t=if i<=t then (match as[t - i]? with|some a=>a|none=>.junk) else .junk:=by
 intro as
 induction as with
 |nil=>intro i t;simp[argL,fr]
 |cons a r ih =>
  intro i t;simp only[argL,fr];by_cases ht:t=i
  ·subst ht;simp
  ·have hb:Nat.beq t i=false:=by rw[<-Bool.not_eq_true,Nat.beq_eq];exact ht
   rw[hb,cond_false,ih];by_cases h1:i+1<=t
   ·rw[if_pos h1,if_pos om,show t - i=(t - (i+1))+1 by omega,List.getElem?_cons_succ]
   ·rw[if_neg h1,if_neg om]
section
variable {P:Program} {nt n0:Nat} {s:St} {μ:Mu}
theorem X3b.turn {c0 c:Ctx} {H0:X07} {act:Act} {b:Nat} (o:Go.Obj) (g:X3b nt c0 H0 n0 c s act) (h1:¬ c.Sa b) (h2:¬ c.So b) (h3:∀ o x,s.H o=some x->(c.ρ o).blk≠b) (h4:c0.w.heap.size<=b) :
  X3b nt c0 H0 n0 { c with w:=c.w.putObj b o } s act/\c.Le (λ_=>True) { c with w:=c.w.putObj b o }:=by
 have hother:∀ k,k≠b->(c.w.putObj b o).heap[k]?=c.w.heap[k]?:=λk hk=>World.putObj_heap_other hk;have hle:c.Le (λ_=>True) { c with w:=c.w.putObj b o } :=
  ⟨λ_ _=>rfl,λ_ h=>h,λ_ h=>h,λk hk=>hother k (λe=>by subst e;exact hk.elim h1 h2),rfl⟩
 have all:∀ {a:AV} {M:Nat->Prop},a.Ok M->a.Ok (λ_=>True):=λh=>h.mono λ_ _=>trivial;have r:=g.reach;refine⟨⟨⟨λq x hx=>?_,g.inv.sep,g.inv.stab,λk hk=>?_,?_,g.inv.own,g.inv.low⟩,g.solo,λt=>(g.frame t).mono hle (.inr (all (g.ok t))),g.ok,g.size,
  ⟨r.rho,r.os,r.tape,r.output,?_,λk hk hn=>?_,λk hk=>?_,r.sa,r.so1,r.so2,r.B,r.own⟩,g.le0⟩,hle⟩
 ·obtain⟨i1,⟨⟨cur,hb,hs,hc⟩,i3,i4,i5⟩,i6⟩:=g.inv.obj q x hx;refine⟨i1,⟨⟨cur,(hother _ (h3 q x hx)).trans hb,hs,λi e he=>?_⟩,i3,i4,i5⟩,i6⟩;obtain⟨g1,g2⟩:=hc i e he;exact⟨g1,λk a ha=>by obtain⟨v,hv,hr,h7⟩:=g2 k a ha;exact⟨v,hv,hr.mono hle (.inr (all (i6 e (List.mem_of_getElem? he) a (List.mem_of_getElem? ha)))),h7⟩⟩
 ·show k<(c.w.putObj b o).heap.size;rw[World.putObj_size];exact g.inv.lt k hk
 ·show c.B<=(c.w.putObj b o).heap.size;rw[World.putObj_size];exact g.inv.base
 ·show c0.w.heap.size<=(c.w.putObj b o).heap.size;rw[World.putObj_size];exact r.size
 ·exact(hother k om).trans (r.block k hk hn)
 ·refine(hother k (λe=>?_)).trans (r.stable k hk);subst e;exact hk.elim (λh=>h1 (by rw[r.sa];exact h)) (λh=>h2 (r.so1 _ h))
theorem Xud {fn:Func} {Rr:Ending->World->Prop} {c0:Ctx} {H0:X07} {act:Act}:∀ (μ:Mu) (c:Ctx),X3b nt c0 H0 n0 c s act->(∀ p∈μ,Xrb n0 c p.1 p.2) ->
  (∀ p∈μ,¬ c.Sa p.1/\¬ c.So p.1/\(∀ o x,s.H o=some x->(c.ρ o).blk≠p.1)/\c0.w.heap.size<=p.1)->(μ.map (·.1)).Nodup ->
  (∀ c',X3b nt c0 H0 n0 c' s act->∃ v,(results fn act.tmps).run P c'.w=.ok v c'.w/\Rr (.returned v) c'.w)->LeavesInM (FR none) 0 P fn act.tmps Rr (Xt5 μ) .returning c.w:=by
 intro μ
 induction μ with
 |nil =>
  intro c g _ _ _ hk;obtain⟨v,h1,h2⟩:=hk c g;exact⟨v,h1,h2⟩
 |cons p μ ih =>
  intro c g hi ha hn hk;obtain⟨D,x⟩:=p;have hi':∀ p∈μ,Xrb n0 c p.1 p.2:=λp hp=>hi p (List.mem_cons_of_mem _ hp);have ha':=λp hp=>ha p (List.mem_cons_of_mem _ hp);simp only[List.map_cons,List.nodup_cons] at hn
  cases x with
  |map l=>exact ih c g hi' ha' hn.2 hk
  |blk o=>exact ih c g hi' ha' hn.2 hk
  |loop r nt m A=>exact ih c g hi' ha' hn.2 hk
  |mark =>
   obtain⟨a1,a2,a3,a4⟩:=ha _ List.mem_cons_self;obtain⟨g2,hle⟩:=g.turn (.deferred none) a1 a2 a3 a4;have hd:c.w.heap[D]?=some (.deferred (some [])):=hi _ List.mem_cons_self;refine⟨by simp,.inl ⟨D,_,rfl,run_takeDeferred hd,?_⟩⟩;refine ih { c with w:=c.w.putObj D (.deferred none) } g2 (λp hp=>?_) ha' hn.2 hk;exact(hi' p hp).le (World.putObj_heap_other (λe=>hn.1 (e▸List.mem_map.2 ⟨p,hp,rfl⟩))) (hle.weaken λ_ _=>trivial)
end
section
variable {P:Program} {T:Ty}
theorem Xaz {f:Nat} {fn:Func} {code:Code} (hfn:X22 P f fn code) {nt n0:Nat} {s:St} {Q:Xr->St->Mu->Prop} {c:Ctx} {vs:Array Value} {Rr:Ending->World->Prop}
  (g:X3b nt c s.H n0 c s { tmps:=vs++Array.replicate (fn.ntmps - vs.size) undef,defers:=[] }) (h:X3u P nt n0 code Q s [])
  (hQ:∀ e s' μ,Q e s' μ->(∀ id,e≠.exit id)/\∀ c' act',X3b nt c s.H n0 c' s' act'->∃ v,(results fn act'.tmps).run P c'.w=.ok v c'.w/\Rr (.returned v) c'.w):Calls P f vs c.w Rr:=by
 refine(callsIn_wide (n:=0)).1 (callsIn_of_wp_marks hfn.here hfn.body trivial ?_);refine wpIn_mono (h c s.H c _ g (.nil rfl) none .none) ?_;rintro e a w ⟨c',s',ae,μ',rfl,g',hm',rfl,hq⟩;obtain⟨hx,hq⟩:=hQ ae s' μ' hq;have fin:LeavesInM Fence.wide 0 P fn a.tmps Rr a.defers .returning c'.w:=by
  rw[hm'.ds];exact Xud μ' c' g' hm'.is hm'.away hm'.nodup λc2 g2=>hq c2 a g2
 cases ae with
 |exit id=>exact(hx id rfl).elim
 |normal=>exact fin
 |ret=>exact fin
def Xtl (T:Ty) (fn:Func) (K:AV->X07->Nat->Prop):Xr->St->Mu->Prop:=λe s _=>Xwf T fn K e s
theorem X3b.argL {nt n0:Nat} {c0 c:Ctx} {H0 H:X07} {n:Nat} {as:List AV} {act:Act} (g:X3b nt c0 H0 n0 c ⟨Xop as,H,n⟩ act):X3b nt c0 H0 n0 c ⟨fr (Av.argL 0 as),H,n⟩ act:=by
 refine⟨g.inv,g.solo,λt=>?_,λt=>?_,g.size,g.reach,g.le0⟩
 ·show X0l c false (fr (Av.argL 0 as) t) _;rw[Xnn];simp only[Nat.zero_le,if_true,Nat.sub_zero];have:=g.frame t;simp only[Xop] at this
  cases hq:as[t]? with
  |none=>exact .junk
  |some a=>rw[hq] at this;exact this
 ·show(fr (Av.argL 0 as) t).Ok (·<n);rw[Xnn];simp only[Nat.zero_le,if_true,Nat.sub_zero];have:=g.ok t;simp only[Xop] at this
  cases hq:as[t]? with
  |none=>exact .junk
  |some a=>rw[hq] at this;exact this
theorem HC.of_bodyM (hT:X9r P T) {f:Nat} {fn:Func} {code:Code} (hfn:X22 P f fn code) {as:List AV} {H:X07} {n nt:Nat} {K:AV->X07->Nat->Prop} (hnt:fn.ntmps=nt)
  (hle:as.length<=nt) (h:X3u P nt n code (Xtl T fn K) ⟨fr (argL 0 as),H,n⟩ []):HC P f as H n K:=by
 refine⟨⟨fn,code,hfn⟩,λc vs hI hs hv ho=>?_⟩;have g:X3b nt c H n c ⟨Xop as,H,n⟩ { tmps:=vs++Array.replicate (fn.ntmps - vs.size) undef,defers:=[] }:=by
  refine⟨hI,hs,λt=>Xbl hv _ t,λt=>Xii ho t,?_,.refl c H n,Nat.le_refl _⟩;have:=hv.len;simp only[Array.size_append,Array.size_replicate];omega
 refine Xaz hfn g.argL h ?_;intro e s' μ hq;have fin:(∃ rs,Xce T s' fn.results.toList rs/\K (Xbg rs) s'.H s'.n)->∀ c' act',X3b nt c H n c' s' act'->∃ v,(results fn act'.tmps).run P c'.w=.ok v c'.w/\∃ v' r H' n' c2,K r H' n'/\Ending.returned v=.returned v'/\c2.w=c'.w/\c.Le (·<n) c2/\c2.Sa=c.Sa/\(∀ b,c2.So b->c.So b\/c.w.heap.size<=b\/∃ o x,H o=some x/\(c.ρ o).blk=b) /\
   Fr c H c'.w/\X85 c H c2 H'/\Inv c2 H' (·<n')/\(∀ o x,H' o=some x->x.solo=true/\x.spent=false)/\n<=n'/\X0l c2 false r v'/\r.Ok (·<n'):=by
  rintro⟨rs,hrs,hk⟩ c' act' g';obtain⟨v,h1,h2,h3⟩:=Xqt hT g' hrs;exact⟨v,h1,v,_,s'.H,s'.n,c',hk,rfl,rfl,g'.reach.le,g'.reach.sa,g'.reach.so2,g'.reach.fr,g'.reach.own,g'.inv,g'.solo,g'.le0,h2,h3⟩
 cases e with
 |exit id=>exact hq.elim
 |normal=>exact⟨(λ_ h=>by cases h),fin hq⟩
 |ret=>exact⟨(λ_ h=>by cases h),fin hq⟩
def Xpc (T:Ty) (fn:Func) (r:AV):Xr->St->Mu->Prop:=λe s _=>Xve T fn r e s
theorem X0f.of_bodyM (hT:X9r P T) {f:Nat} {fn:Func} {code:Code} (hfn:X22 P f fn code) {as:List AV} {nt:Nat} {r:AV} (hnt:fn.ntmps=nt)
  (hle:as.length<=nt) (h:X3u P nt 0 code (Xpc T fn r) ⟨fr (argL 0 as),λ_=>none,0⟩ []):X0f P f as r:=by
 refine⟨⟨fn,code,hfn⟩,λw S vs hS hv=>?_⟩;let c:Ctx:=⟨w,pl0,S,λ_=>False,w.heap.size⟩
 have hI:Inv c (λ_=>none) (·<0) :=
  ⟨λo x h=>(by cases h),λo o' x x' h=>(by cases h),λo x h=>(by cases h),λb hb=>hb.elim (hS b) False.elim,Nat.le_refl _,λb hb=>hb.elim,λo x h=>(by cases h)⟩
 have g:X3b nt c (λ_=>none) 0 c ⟨Xop as,λ_=>none,0⟩ { tmps:=vs++Array.replicate (fn.ntmps - vs.size) undef,defers:=[] }:=by
  refine⟨hI,λo x h=>(by cases h),λt=>Xbl hv _ t,λt=>Xii (λa ha=>?_) t,?_,.refl c _ 0,Nat.le_refl _⟩
  ·obtain⟨i,hi⟩:=List.getElem?_of_mem ha;have:i<vs.size:=by rw[<-hv.len];exact(List.getElem?_eq_some_iff.1 hi).1
   exact(hv.rel i a _ hi (Array.getElem?_eq_getElem this)).okDeep
  ·have:=hv.len;simp only[Array.size_append,Array.size_replicate];omega
 refine Xaz (c:=c) hfn g.argL h ?_;intro e s' μ hq;have fin:(∃ rs,Xce T s' fn.results.toList rs/\Cv true s'.H (Xbg rs) r)->∀ c' act',X3b nt c (λ_=>none) 0 c' s' act' ->
   ∃ v,(results fn act'.tmps).run P c'.w=.ok v c'.w/\∃ u,Ending.returned v=.returned u/\X0l ⟨c'.w,pl0,S,λb=>w.heap.size<=b/\b<c'.w.heap.size,w.heap.size⟩ true r u/\Xrc w.heap.size w c'.w:=by
  rintro⟨rs,hrs,hk⟩ c' a g';obtain⟨v,h1,h2,h3⟩:=Xqt hT g' hrs;have hr:=g'.reach;have hB:c'.B=w.heap.size:=hr.B;refine⟨v,h1,v,rfl,?_,⟨⟨hr.os,hr.tape,hr.output.1,hr.size,λk hk=>hr.block k hk (λo x hx=>(by cases hx))⟩,hr.output.2⟩⟩;refine Xut g'.inv (c':=⟨c'.w,pl0,S,λb=>w.heap.size<=b/\b<c'.w.heap.size,w.heap.size⟩) rfl (λb hb=>?_) (λ_ b hb=>?_) (λo x hx=>?_) hk h2
  ·rcases hb with hb|hb
   ·exact .inl ⟨rfl,by rw[<-hr.sa];exact hb⟩
   ·exact .inr ⟨by rw[<-hB];exact g'.inv.own b hb,g'.inv.lt b (.inr hb)⟩
  ·exact⟨by rw[<-hB];exact g'.inv.own b hb,g'.inv.lt b (.inr hb)⟩
  ·obtain⟨_,⟨⟨cur,hcb,_⟩,_⟩,_⟩:=g'.inv.obj o x hx;exact .inr ⟨by rw[<-hB];exact g'.inv.low o x hx,(Array.getElem?_eq_some_iff.1 hcb).1⟩
 cases e with
 |exit id=>exact hq.elim
 |normal=>exact⟨(λ_ h=>by cases h),fin hq⟩
 |ret=>exact⟨(λ_ h=>by cases h),fin hq⟩
end
section
variable {P:Program} {nt n0:Nat} {s:St} {μ:Mu}
theorem X3b.weak' {c0 c:Ctx} {H0:X07} {s s':St} {act:Act} {θ:Nat->Nat} (g:X3b nt c0 H0 n0 c s act) (hw:Xjx θ n0 s s') :
  ∃ c',c'={ c with ρ:=λo=>c.ρ (θ o) }/\X3b nt c0 H0 n0 c' s' act:=⟨{ c with ρ:=λo=>c.ρ (θ o) },rfl,g.weakBy hw⟩
theorem X3b.weakM {c0 c:Ctx} {H0:X07} {s s':St} {act:Act} (g:X3b nt c0 H0 n0 c s act) (hm:MOk n0 c0 c s.H μ act) (hw:Xts n0 s s') :
  ∃ c',c'.w=c.w/\X3b nt c0 H0 n0 c' s' act/\MOk n0 c0 c' s'.H μ act:=by
 obtain⟨θ,hw⟩:=hw;obtain⟨c',h2,h3⟩:=g.weak' hw;exact⟨c',by rw[h2],h3,hm.weak hw h2⟩
theorem X3u.weak {code:Code} {Q:Xr->St->Mu->Prop} {s':St} (hw:Xts n0 s s') (h:X3u P nt n0 code Q s' μ):X3u P nt n0 code Q s μ:=by
 intro c0 H0 c act g hm R hR;obtain⟨c',hc,g',hm'⟩:=g.weakM hm hw;have:=h c0 H0 c' act g' hm' R hR
 rwa [hc] at this
theorem X4q.weak {ops:Array Oper} {l:List Oper} {K:St->Mu->Prop} {s':St} (hw:Xts n0 s s') (h:X4q P nt n0 ops l K s' μ):X4q P nt n0 ops l K s μ:=by
 intro c0 H0 c act g hm Qx hQ R hR;obtain⟨c',hc,g',hm'⟩:=g.weakM hm hw;have:=h c0 H0 c' act g' hm' Qx hQ R hR
 rwa [hc] at this
end
def thL:List (Nat×Nat)->Nat->Nat
 |[],o=>o
 |(a,b)::r,o=>bif Nat.beq o a then b else thL r o
def wkL (L:List (Nat×AV)) (θ:List (Nat×Nat)) (n:Nat):List (Nat×AV)->Prop
 |[]=>True
 |(t,a)::r=>fr L t=a.ren (thL θ)/\a.Ok (·<n)/\wkL L θ n r
def Xwc:Bool->Prop->Prop
 |true,_=>True
 |false,p=>p
def wkG (G:List (Nat×Obj)) (θ:List (Nat×Nat)) (n:Nat):List (Nat×Obj)->Prop
 |[]=>True
 |(o,x)::r=>Xwc x.gone (∃ y,hp G (thL θ o)=some y/\y.esz=x.esz/\y.es=x.es.map (AV.ren (thL θ)))/\o<n/\(∀ e∈x.es,∀ a∈e.cells,a.Ok (·<n))/\x.solo=true/\x.spent=false/\wkG G θ n r
theorem Xkt {L:List (Nat×AV)} {θ:List (Nat×Nat)} {n:Nat}:∀ {L':List (Nat×AV)},wkL L θ n L'->∀ t,(fr L' t=.junk\/fr L t=(fr L' t).ren (thL θ))/\(fr L' t).Ok (·<n):=by
 intro L'
 induction L' with
 |nil=>intro _ t;exact⟨.inl rfl,.junk⟩
 |cons p r ih =>
  obtain⟨d,a⟩:=p;rintro⟨h1,h2,h3⟩ t;by_cases ht:t=d
  ·subst ht;have:fr ((t,a)::r) t=a:=by simp[fr]
   rw[this];exact⟨.inr h1,h2⟩
  ·have:fr ((d,a)::r) t=fr r t:=by
    have hb:Nat.beq t d=false:=by rw[<-Bool.not_eq_true,Nat.beq_eq];exact ht
    simp[fr,hb]
   rw[this];exact ih h3 t
theorem Xku {G:List (Nat×Obj)} {θ:List (Nat×Nat)} {n:Nat}:∀ {G':List (Nat×Obj)},wkG G θ n G'->∀ o x,hp G' o=some x ->
  (∃ y,hp G (thL θ o)=some y/\y.esz=x.esz/\y.es=x.es.map (AV.ren (thL θ)))/\o<n/\(∀ e∈x.es,∀ a∈e.cells,a.Ok (·<n))/\x.solo=true/\x.spent=false:=by
 intro G'
 induction G' with
 |nil=>intro _ o x h;cases h
 |cons p r ih =>
  obtain⟨d,y⟩:=p;rintro⟨h1,h2,h3,h4,h5,h6⟩ o x hx;by_cases ho:o=d
  ·subst ho;have hg:=Xbi hx;simp only[hp,Nat.beq_refl,cond_true] at hx
   cases hy:y.gone with
   |true=>rw[hy] at hx;cases hx
   |false =>
    rw[hy] at hx;cases hx;rw[hg] at h1;exact⟨h1,h2,h3,h4,h5⟩
  ·have:hp ((d,y)::r) o=hp r o:=by
    have hb:Nat.beq o d=false:=by rw[<-Bool.not_eq_true,Nat.beq_eq];exact ho
    simp[hp,hb]
   rw[this] at hx;exact ih h6 o x hx
theorem Xr1 {G:List (Nat×Obj)} {o:Nat} (h:hp G o≠none):o∈G.map (·.1):=by
 induction G with
 |nil=>exact absurd rfl h
 |cons p r ih =>
  obtain⟨d,y⟩:=p;by_cases ho:o=d
  ·subst ho;simp
  ·have:hp ((d,y)::r) o=hp r o:=by
    have hb:Nat.beq o d=false:=by rw[<-Bool.not_eq_true,Nat.beq_eq];exact ho
    simp[hp,hb]
   rw[this] at h;exact List.mem_cons_of_mem _ (ih h)
def Xtn (θ:List (Nat×Nat)):List Nat->Bool
 |[]=>true
 |o::r=>r.all (λq=>Nat.beq o q||!Nat.beq (thL θ o) (thL θ q))&&Xtn θ r
theorem Xsw {θ:List (Nat×Nat)}:∀ {l:List Nat},Xtn θ l=true->∀ o∈l,∀ q∈l,thL θ o=thL θ q->o=q:=by
 intro l
 induction l with
 |nil=>intro _ o h;cases h
 |cons a r ih =>
  intro h o ho q hq he;simp only[Xtn,Bool.and_eq_true,List.all_eq_true,Bool.or_eq_true,Nat.beq_eq,Bool.not_eq_true'] at h;have key:∀ x∈r,thL θ a=thL θ x->a=x:=by
   intro x hx hax;rcases h.1 x hx with h1|h1
   ·exact h1
   ·rw[hax,Nat.beq_refl] at h1;cases h1
  rcases List.mem_cons.1 ho with h1|h1
  ·rcases List.mem_cons.1 hq with h2|h2
   ·rw[h1,h2]
   ·rw[h1] at he ⊢;exact key q h2 he
  ·rcases List.mem_cons.1 hq with h2|h2
   ·rw[h2] at he ⊢;exact(key o h1 he.symm).symm
   ·exact ih h.2 o h1 q h2 he
def Xuo (θ:List (Nat×Nat)) (n0:Nat):Bool:=θ.all λp=>Nat.ble n0 p.1||Nat.beq p.1 p.2
theorem Xt0 {n0:Nat}:∀ {θ:List (Nat×Nat)},Xuo θ n0=true->∀ o,o<n0->thL θ o=o:=by
 intro θ
 induction θ with
 |nil=>intro _ o _;rfl
 |cons p r ih =>
  obtain⟨a,b⟩:=p;intro h o ho;simp only[Xuo,List.all_cons,Bool.and_eq_true,Bool.or_eq_true,Nat.ble_eq,Nat.beq_eq] at h;simp only[thL]
  cases hb:Nat.beq o a with
  |true =>
   have:o=a:=Nat.eq_of_beq_eq_true hb;subst this;rcases h.1 with h1|h1
   ·omega
   ·simp only[cond_true];exact h1.symm
  |false=>simp only[cond_false];exact ih h.2 o ho
theorem Xri {L L':List (Nat×AV)} {G G':List (Nat×Obj)} {n n' n0:Nat} (θ:List (Nat×Nat)) (hb:(Xuo θ n0&&Xtn θ (G'.map (·.1))&&Nat.ble n0 n')=true) (hL:wkL L θ n' L') (hG:wkG G θ n' G') :
  Xts n0 ⟨fr L,hp G,n⟩ ⟨fr L',hp G',n'⟩:=by
 simp only[Bool.and_eq_true,Nat.ble_eq] at hb;obtain⟨⟨h1,h2⟩,h3⟩:=hb;refine⟨thL θ,Xt0 h1,λt=>(Xkt hL t).1,λo x hx=>?_,λo q ho hq he=>Xsw h2 o (Xr1 ho) q (Xr1 hq) he,λt=>(Xkt hL t).2,λo x hx=>?_,h3⟩
 ·obtain⟨⟨y,g1,g2,g3⟩,_⟩:=Xku hG o x hx;exact⟨y,g1,g2,g3⟩
 ·obtain⟨_,g1,g2,g3,g4⟩:=Xku hG o x hx;exact⟨g1,g2,g3,g4⟩
theorem Xac.weak {P:Program} {nt n0:Nat} {Q:Xr->St->Mu->Prop} {μ:Mu} {s s':St} (hw:Xts n0 s s'):∀ (K:List Kn) (e:Xr),Xac P nt n0 Q K e s' μ->Xac P nt n0 Q K e s μ:=by
 have hloop:∀ {b:Code} {Q':Xr->St->Mu->Prop},X69 P nt n0 b Q' s' μ->X69 P nt n0 b Q' s μ:=by
  intro b Q' h c0 H0 c act g hm R hR;obtain⟨c',hc,g',hm'⟩:=g.weakM hm hw;have:=h c0 H0 c' act g' hm' R hR
  rwa [hc] at this
 intro K
 induction K with
 |nil =>
  intro e h c0 H0 c act g hm;obtain⟨c',hc,g',hm'⟩:=g.weakM hm hw;obtain⟨c2,s2,h1,h2,h3,h4⟩:=h c0 H0 c' act g' hm';exact⟨c2,s2,h1.trans hc,h2,h3,h4⟩
 |cons k K ih =>
  intro e h
  cases k with
  |seq c =>
   cases e with
   |normal=>exact X3u.weak hw h
   |exit i=>exact ih _ h
   |ret=>exact ih _ h
  |block id =>
   cases e with
   |normal=>exact ih _ h
   |ret=>exact ih _ h
   |exit i =>
    have h':X6a id (Xac P nt n0 Q K) (.exit i) s' μ:=h;show X6a id (Xac P nt n0 Q K) (.exit i) s μ;simp only[X6a] at h' ⊢
    cases hb:Nat.beq i id with
    |true=>rw[hb,cond_true] at h';exact ih _ h'
    |false=>rw[hb,cond_false] at h';exact ih _ h'
  |loop b =>
   cases e with
   |normal=>exact hloop h
   |exit i=>exact ih _ h
   |ret=>exact ih _ h
theorem X4.weak {P:Program} {nt n0:Nat} {Q:Xr->St->Mu->Prop} {cf:Cf} {K:List Kn} {μ:Mu} {s s':St} (hw:Xts n0 s s') (h:X4 P nt n0 Q cf K s' μ):X4 P nt n0 Q cf K s μ:=by
 cases cf with
 |code c=>exact X3u.weak hw h
 |exit e=>exact Xac.weak hw K e h
 |ops ops l=>exact X4q.weak hw h
 |loop b =>
  intro c0 H0 c act g hm R hR;obtain⟨c',hc,g',hm'⟩:=g.weakM hm hw;have:=h c0 H0 c' act g' hm' R hR
  rwa [hc] at this
theorem Xac.collapse {P:Program} {nt n0:Nat} {Q:Xr->St->Mu->Prop}:∀ (K:List Kn) (e:Xr) (s:St) (μ:Mu),Cl nt n0 (Xac P nt n0 Q K) e s μ->Xac P nt n0 Q K e s μ:=by
 intro K
 induction K with
 |nil =>
  intro e s μ h c0 H0 c act g hm;obtain⟨c1,s1,h1,h2,h3,h4⟩:=h c0 H0 c act g hm;obtain⟨c2,s2,k1,k2,k3,k4⟩:=h4 c0 H0 c1 act h2 h3;exact⟨c2,s2,k1.trans h1,k2,k3,k4⟩
 |cons k K ih =>
  intro e s μ h
  cases k with
  |seq c =>
   cases e with
   |normal =>
    intro c0 H0 cx act g hm;obtain⟨c1,s1,h1,h2,h3,h4⟩:=h c0 H0 cx act g hm;rw[<-h1];exact h4 c0 H0 c1 act h2 h3
   |exit i=>exact ih (.exit i) s μ h
   |ret=>exact ih .ret s μ h
  |block id =>
   cases e with
   |normal=>exact ih .normal s μ h
   |ret=>exact ih .ret s μ h
   |exit i =>
    show X6a id (Xac P nt n0 Q K) (.exit i) s μ;have h':∀ (c0:Ctx) (H0:X07) (c:Ctx) (act:Act),X3b nt c0 H0 n0 c s act->MOk n0 c0 c s.H μ act->∃ c' s',c'.w=c.w/\X3b nt c0 H0 n0 c' s' act/\MOk n0 c0 c' s'.H μ act/\X6a id (Xac P nt n0 Q K) (.exit i) s' μ:=h;simp only[X6a] at h' ⊢
    cases hb:Nat.beq i id with
    |true=>simp only[hb,cond_true] at h' ⊢;exact ih .normal s μ h'
    |false=>simp only[hb,cond_false] at h' ⊢;exact ih (.exit i) s μ h'
  |loop b =>
   cases e with
   |normal =>
    intro c0 H0 cx act g hm;obtain⟨c1,s1,h1,h2,h3,h4⟩:=h c0 H0 cx act g hm;rw[<-h1];exact h4 c0 H0 c1 act h2 h3
   |exit i=>exact ih (.exit i) s μ h
   |ret=>exact ih .ret s μ h
theorem MQ.ofCl {nt n0:Nat} {Q:Xr->St->Mu->Prop} {c0:Ctx} {H0:X07}:∀ e a w,MQ nt c0 H0 n0 (Cl nt n0 Q) e a w->MQ nt c0 H0 n0 Q e a w:=by
 rintro e a w ⟨c',s',ae,μ',rfl,g',hm',rfl,hq⟩;obtain⟨c2,s2,h1,h2,h3,h4⟩:=hq c0 H0 c' a g' hm';exact⟨c2,s2,ae,μ',h1,h2,h3,rfl,h4⟩
theorem X4.weakTo {P:Program} {nt n0:Nat} {Q:Xr->St->Mu->Prop} {cf:Cf} {K:List Kn} {μ:Mu} {L L':List (Nat×AV)} {G G':List (Nat×Obj)} {n n':Nat} (θ:List (Nat×Nat)) (h:X4 P nt n0 Q cf K ⟨fr L',hp G',n'⟩ μ)
  (hb:(Xuo θ n0&&Xtn θ (G'.map (·.1))&&Nat.ble n0 n')=true) (hL:wkL L θ n' L') (hG:wkG G θ n' G'):X4 P nt n0 Q cf K ⟨fr L,hp G,n⟩ μ:=X4.weak (Xri θ hb hL hG) h
theorem X4.cut {P:Program} {nt n0:Nat} {Q:Xr->St->Mu->Prop} {cf:Cf} {K:List Kn} {μ:Mu} {s:St} (h:X4 P nt n0 (Xac P nt n0 Q K) cf [] s μ):X4 P nt n0 Q cf K s μ:=by
 cases cf with
 |code c=>exact X3u.ofCl h
 |exit e=>exact Xac.collapse K e s μ h
 |ops ops l =>
  intro c0 H0 c act g hm Qx hQ;refine h c0 H0 c act g hm Qx λc' s' act' μ' g' hm' hk=>?_;exact hQ c' s' act' μ' g' hm' (Xac.collapse K .normal s' μ' hk)
 |loop b =>
  intro c0 H0 c act g hm R hR bb k cs hro;obtain⟨e,a',w',hq,harr⟩:=h c0 H0 c act g hm R hR bb k cs hro;exact⟨e,a',w',MQ.ofCl e a' w' hq,harr⟩
theorem X4.glue {P:Program} {nt n0:Nat} {Q:Xr->St->Mu->Prop} {e:Xr} {K:List Kn} {μ:Mu} {s:St} (h:X4 P nt n0 Q (.exit e) K s μ):X4 P nt n0 (Xac P nt n0 Q K) (.exit e) [] s μ:=Cl.mk h
theorem X4.done {P:Program} {nt n0:Nat} {Q:Xr->St->Mu->Prop} {e:Xr} {μ:Mu} {s:St} (h:Q e s μ):X4 P nt n0 Q (.exit e) [] s μ:=Cl.mk h
def X7m:Code->List Code
 |.loop b=>b::X7m b
 |.seq a b=>X7m a++X7m b
 |.block _ c=>X7m c
 |.scope c=>X7m c
 |.cond _ a b=>X7m a++X7m b
 |.rangeFunc _ _ a b=>X7m a++X7m b
 |_=>[]
def X5l (i:Nat) (c:Code):Code:=((X7m c)[i]?).getD .skip
theorem X0f.sym {P:Program} {T:Ty} (hT:X9r P T) {f:Nat} {fn:Func} {code:Code} (hfn:X22 P f fn code) {as:List AV} {nt:Nat} {r:AV} (hnt:fn.ntmps=nt)
  (hle:Nat.ble as.length nt=true) (h:X4 P nt 0 (Xpc T fn r) (.code code) [] ⟨fr (argL 0 as),hp [],0⟩ []) (hok:∀ a∈as,a.Ok (·<0)):X0f P f as r:=by
 exact X0f.of_bodyM hT hfn hnt (by simpa using hle) (X3u.ofCl h)
def Xnt (T:Ty) (L:List (Nat×AV)) (G:List (Nat×Obj)):List ResultVar->Option (List AV)
 |[]=>some []
 |.tmp t::l=>match fr L t with
  |.cond _ _=>none
  |a=>X99 a λa=>match Xnt T L G l with
   |some r=>some (a::r)
   |none=>none
 |.cell p t::l=>match T t with
  |some ti=>match fr L p with
   |.ptr o i k=>match hp G o with
    |some y=>match y.es[i]? with
     |some e=>match Xhv ti e k with
      |some a=>X99 a λa=>match Xnt T L G l with
       |some r=>some (a::r)
       |none=>none
      |none=>none
     |none=>none
    |none=>none
   |_=>none
  |none=>none
theorem Xhs {T:Ty} {L:List (Nat×AV)} {G:List (Nat×Obj)} {n:Nat}:∀ (l:List ResultVar) (r:List AV),Xnt T L G l=some r->Xce T ⟨fr L,hp G,n⟩ l r:=by
 intro l
 induction l with
 |nil=>intro r h;simp[Xnt] at h;subst h;exact .nil
 |cons v l ih =>
  intro r h
  cases v with
  |tmp t =>
   simp only[Xnt] at h;split at h
   ·cases h
   ·rename_i a hne;rw[X4y] at h;split at h
    ·rename_i hr;cases h
     have:X87 (fr L t)=fr L t:=by
      cases hq:fr L t with
      |cond g v=>exact absurd hq (hne g v)
      |_=>rfl
     have hres:Xux T ⟨fr L,hp G,n⟩ (.tmp t) (X87 (fr L t)):=.tmp;rw[this] at hres;exact .cons hres (ih _ hr)
    ·cases h
  |cell p t =>
   simp only[Xnt] at h;split at h
   ·rename_i ht;split at h
    ·rename_i hp1;split at h
     ·rename_i hH;split at h
      ·rename_i he;split at h
       ·rename_i hl;rw[X4y] at h;split at h
        ·rename_i hr;cases h
         refine .cons (.cell ht (e:=_) (k:=_) ?_ hl) (ih _ hr);show Xhe (hp G) (X87 (fr L p)) _ _;rw[hp1];exact .ptr hH he
        ·cases h
       ·cases h
      ·cases h
     ·cases h
    ·cases h
   ·cases h
theorem X4.inline {P:Program} {T:Ty} {nt n0 nt' f:Nat} {Q:Xr->St->Mu->Prop} {ops:Array Oper} {l:List Oper} {o:Oper} {K:List Kn} {L:List (Nat×AV)} {G:List (Nat×Obj)} {n:Nat} {μ:Mu} {x:Operand} {args:Array Operand} {ts:Array Nat}
  {caps as:List AV} {fn:Func} {code:Code} (hT:X9r P T) (hfn:X22 P f fn code) (ho:o.op=.call { callee:=.value x,args:=args,argTypes:=ts }) (hg:o.guard=none) (hd:Xg2 nt o.dst=true) {qx qa:List Prop} (hx:rd L x=(.fn f caps,qx)) (ha:rds L args.toList=(as,qa)) (hpx:X3s qx) (hpa:X3s qa)
  (hnt:fn.ntmps=nt') (hle:Nat.ble (as++caps).length nt'=true)
  (h:X4 P nt' n (Xtl T fn λr H' n'=>X4 P nt n0 Q (.ops ops l) K ⟨X9f (fr L) o.dst r,H',n'⟩ μ) (.code code) [] ⟨fr (Av.argL 0 (as++caps)),hp G,n⟩ []):X4 P nt n0 Q (.ops ops (o::l)) K ⟨fr L,hp G,n⟩ μ:=by
 refine X4q.plain (s:=⟨fr L,hp G,n⟩) hg (X8k hd) (OpR.call (s:=⟨fr L,hp G,n⟩) ho (X0j hx hpx) ?_) (λa H' n' hr=>hr);rw[Xbx ha hpa];exact HC.of_bodyM hT hfn hnt (by simpa using hle) (X3u.ofCl h)
theorem X4.back {P:Program} {T:Ty} {nt n0 nt' n1:Nat} {fn:Func} {Q:Xr->St->Mu->Prop} {ops:Array Oper} {l:List Oper} {d:Option Nat} {K:List Kn} {L L1:List (Nat×AV)} {G:List (Nat×Obj)} {n:Nat} {μ μ1:Mu} {rs:List AV} {e:Xr} (he:∀ id,e≠.exit id)
  (hr:Xnt T L1 G fn.results.toList=some rs) (h:X4 P nt n0 Q (.ops ops l) K ⟨fr (Xs3 d (Xbg rs) L),hp G,n⟩ μ) :
  X4 P nt' n1 (Xtl T fn λr H' n'=>X4 P nt n0 Q (.ops ops l) K ⟨X9f (fr L) d r,H',n'⟩ μ) (.exit e) [] ⟨fr L1,hp G,n⟩ μ1:=by
 refine Cl.mk ?_;have hk:∃ rs,Xce T ⟨fr L1,hp G,n⟩ fn.results.toList rs/\X4 P nt n0 Q (.ops ops l) K ⟨X9f (fr L) d (Xbg rs),hp G,n⟩ μ:=⟨rs,Xhs _ _ hr,by rw[<-X5i];exact h⟩
 cases e with
 |exit id=>exact absurd rfl (he id)
 |normal=>exact hk
 |ret=>exact hk
theorem Xti.sym {P:Program} {T:Ty} (hT:X9r P T) {f:Nat} {fn:Func} {code:Code} (hfn:X22 P f fn code) {as:List AV} {nt:Nat} {r:AV} {G G':List (Nat×Obj)} {n n':Nat} (hnt:fn.ntmps=nt) (hle:Nat.ble as.length nt=true)
  (h:X4 P nt n (Xtl T fn λr2 H2 n2=>r2=r/\H2=hp G'/\n2=n') (.code code) [] ⟨fr (Av.argL 0 as),hp G,n⟩ []):Xti P f as G n r G' n' :=
 ⟨HC.of_bodyM hT hfn hnt (by simpa using hle) (X3u.ofCl h)⟩
theorem X4.fin {P:Program} {T:Ty} {nt n0:Nat} {fn:Func} {r:AV} {L:List (Nat×AV)} {G:List (Nat×Obj)} {n:Nat} {μ:Mu} {rs:List AV} {e:Xr} (he:∀ id,e≠.exit id) (hr:Xnt T L G fn.results.toList=some rs) (hc:Xbg rs=r) :
  X4 P nt n0 (Xtl T fn λr2 H2 n2=>r2=r/\H2=hp G/\n2=n) (.exit e) [] ⟨fr L,hp G,n⟩ μ:=by
 refine Cl.mk ?_;have hk:∃ rs,Xce T ⟨fr L,hp G,n⟩ fn.results.toList rs/\(Xbg rs=r/\hp G=hp G/\n=n):=⟨rs,Xhs _ _ hr,hc,rfl,rfl⟩
 cases e with
 |exit id=>exact absurd rfl (he id)
 |normal=>exact hk
 |ret=>exact hk
theorem Xn3 {P:Program} {T:Ty} {nt n0:Nat} {fn:Func} {r:AV} {L:List (Nat×AV)} {G:List (Nat×Obj)} {n:Nat} {μ:Mu} {rs:List AV} (hr:Xnt T L G fn.results.toList=some rs) (hc:Cv true (hp G) (Xbg rs) r) :
  X4 P nt n0 (Xpc T fn r) (.exit .ret) [] ⟨fr L,hp G,n⟩ μ:=Cl.mk ⟨rs,Xhs _ _ hr,hc⟩
end Go.Av


namespace Go.Av
def Xad (e:AV):Prop:=∀ a∈e.cells,∃ v,a=.sc v
theorem X1m {H:X07} {own:Bool} {es:List AV} (h:∀ e∈es,Xad e):Cv false H (.list own es) (.list false es):=by
 refine .listD rfl rfl (λi e e' he he'=>by rw[he] at he';cases he';rfl) (λi e e' k a b he he' ha hb=>?_);rw[he] at he';cases he';rw[ha] at hb;cases hb;obtain⟨v,rfl⟩:=h e (List.mem_of_getElem? he) a (List.mem_of_getElem? ha);exact .sc
theorem Xus {m:Bool} {H:X07} {o n:Nat} {x:Obj} {es:List AV} (hH:H o=some x) (he:x.es=es) (hn:n=es.length) (h:∀ e∈es,Xad e):Cv m H (.ref o 0 n) (.list m es):=by
 subst he hn;refine .ref hH om rfl (λi e e' he he'=>?_) (λi e e' k a b he he' ha hb=>?_)
 ·rw[Nat.zero_add] at he;rw[he] at he';cases he';rfl
 ·rw[Nat.zero_add] at he;rw[he] at he';cases he';rw[ha] at hb;cases hb;obtain⟨v,rfl⟩:=h e (List.mem_of_getElem? he) a (List.mem_of_getElem? ha);exact .sc
theorem Cvs.nil {m:Bool} {H:X07}:Cvs m H [] []:=⟨rfl,λi a b h=>by simp at h⟩
theorem Cvs.cons {m:Bool} {H:X07} {a b:AV} {as bs:List AV} (h:Cv m H a b) (hs:Cvs m H as bs):Cvs m H (a::as) (b::bs):=by
 refine⟨by simp[hs.len],λi x y hx hy=>?_⟩
 cases i with
 |zero=>simp at hx hy;subst hx hy;exact h
 |succ i=>simp at hx hy;exact hs.rel i x y hx hy
theorem X2j.none {P:Program} {f:Nat} {H:X07} {as bs:List AV} {r:AV} (hp:X0f P f bs r) (h:Cvs false (λ_=>none) as bs):X2j P f H as bs r :=
 ⟨hp,λ_=>.none,h,(λ_ _ h=>by cases h),.inr λ_=>rfl⟩
theorem X2j.lent {P:Program} {f:Nat} {H:X07} {as bs:List AV} {r:AV} (hp:X0f P f bs r) (h:Cvs false H as bs) (hr:Xdy r):X2j P f H as bs r :=
 ⟨hp,H,h,λ_ _ h=>h,.inl hr⟩
theorem X5x {es:List AV} (h:∀ e∈es,Xad e):Xdy (.list true es) :=
 .list λe he a ha=>by obtain⟨v,rfl⟩:=h e he a ha;exact .sc
theorem Xot {z:Int} (h1 : -9223372036854775808<=z) (h2:z<=9223372036854775807):IntKind.i64.wrap z=z:=IntWalk.i64_in z ⟨h1,h2⟩
theorem Xuj {α:Type} {enc:α->AV} {l:List α} {k:Nat} {x:α} (h:l[k]?=some x):(l.map enc)[((k:Nat):Int).toNat]?=some (enc x):=by
 rw[Int.toNat_natCast,List.getElem?_map,h];rfl
def X84 (e:AV):Prop:=∀ θ,e.ren θ=e
theorem Xd {es:List AV} (h:∀ e∈es,X84 e) (θ:Nat->Nat):es=es.map (AV.ren θ):=by
 conv=>lhs;rw[<-List.map_id es]
 exact List.map_congr_left λe he=>(h e he θ).symm
theorem X61 {p:AV->Prop}:∀ e∈([]:List AV),p e:=λ_ h=>by cases h
theorem X0q {p:AV->Prop} {a:AV} {l:List AV} (h:p a) (hl:∀ e∈l,p e):∀ e∈a::l,p e:=λe he=>by
 rcases List.mem_cons.1 he with h1|h1
 ·rw[h1];exact h
 ·exact hl e h1
theorem Xc1 {v:Value}:Xad (.sc v):=λa ha=>⟨v,List.mem_singleton.1 ha⟩
theorem Xa2 {v:Value}:X84 (.sc v):=λ_=>rfl
theorem Xur {m:Bool} {H:X07} {as bs:List AV} (h:Cvs m H as bs):Cv m H (.tup as) (.tup bs):=.tup h.len h.rel
end Go.Av


namespace Go.D
def wfI (k:IntKind) (z:Int):Prop:=(Lit.int k z).wf=true
def getI {α:Type} (l:List α) (i:Int):Option α:=if 0<=i then l[i.toNat]? else none
def X79 {α:Type} (l:List α) (a b:Int):Option (List α):=if 0<=a/\a<=b/\b.toNat<=l.length then some ((l.drop a.toNat).take (b.toNat - a.toNat)) else none
def X14 (n b:Nat):Option Unit:=if n*b<=140737488355328 then some () else none
def X6f (n:Nat):Option Unit:=if n<=140737488355328 then some () else none
def Xqs (b:Int):Option Unit:=if 0<=b then some () else none
def Xoi (n m:Int) (b:Nat):Option Unit:=if 0<n/\n=m/\(b:Int)*m<=140737488355328 then some () else none
def Xvu (l:List Nat):ByteArray:=⟨(l.map UInt8.ofNat).toArray⟩
def FU:Nat:=100000
structure V2 (α:Type) where
 e0:α
 e1:α
 deriving DecidableEq,Inhabited
structure V5 (α:Type) where
 e0:α
 e1:α
 e2:α
 e3:α
 e4:α
 deriving DecidableEq,Inhabited
end Go.D
namespace Go.Av
open Go.D
abbrev aI (k:IntKind) (z:Int):AV:=.sc (.int k z)
abbrev aB (b:Bool):AV:=.sc (.bool b)
theorem brE {α:Type} {c:Bool} {a b:Option α} {r:α} {G:Prop} (h:(bif c then a else b)=some r) (h1:c=true->a=some r->G) (h2:c=false->b=some r->G):G:=by
 cases c with
 |true=>exact h1 rfl h
 |false=>exact h2 rfl h
theorem Xuu {α β:Type} {x:Option α} {f:α->Option β} {r:β} {G:Prop} (h:x.bind f=some r) (k:∀ v,x=some v->f v=some r->G):G:=by
 cases x with
 |none=>cases h
 |some v=>exact k v rfl h
theorem X6g {α:Type} {l:List α} {i:Int} {x:α} (h:getI l i=some x):0<=i:=by
 unfold getI at h;split at h
 ·assumption
 ·cases h
theorem Xco {α:Type} {l:List α} {i:Int} {x:α} (h:getI l i=some x):l[i.toNat]?=some x:=by
 unfold getI at h;split at h
 ·exact h
 ·cases h
theorem Xfu {α:Type} {l:List α} {i:Int} {x:α} {f:α->AV} (h:getI l i=some x):(l.map f)[i.toNat]?=some (f x):=by
 rw[List.getElem?_map,Xco h];rfl
theorem Xgy {α:Type} {l:List α} {i:Int} {x:α} {f:α->AV} (h:getI l i=some x):(l.map f)[0+i.toNat]?=some (f x):=by
 rw[Nat.zero_add];exact Xfu h
theorem Xf {α:Type} {l:List α} {i:Int} {x:α} (h:getI l i=some x):i<(l.length:Int):=by
 have h1:=X6g h;have h2:=(List.getElem?_eq_some_iff.1 (Xco h)).1;omega
theorem X5p {α:Type} {l:List α} {i:Int} {x:α} (h:getI l i=some x):i.toNat<l.length:=(List.getElem?_eq_some_iff.1 (Xco h)).1
theorem drop_cons {α:Type} {l xs:List α} {k:Nat} {x:α} (h:l.drop k=x::xs):k<l.length/\l[k]?=some x/\l.drop (k+1)=xs:=by
 have hk:k<l.length:=by
  rcases Nat.lt_or_ge k l.length with h1|h1
  ·exact h1
  ·rw[List.drop_of_length_le h1] at h;cases h
 rw[List.drop_eq_getElem_cons hk] at h;injection h with h1 h2
 exact⟨hk,by rw[List.getElem?_eq_getElem hk,h1],h2⟩
theorem drop_nil {α:Type} {l:List α} {k:Nat} (h:l.drop k=[]):l.length<=k:=by
 simpa using h
theorem ixm {α:Type} {l:List α} {k:Nat} {x:α} {f:α->AV} (h:l[k]?=some x):(l.map f)[((k:Nat):Int).toNat]?=some (f x):=Xuj h
theorem Xjv {n b:Nat} {u:Unit} (h:X14 n b=some u):n*b<=140737488355328:=by
 unfold X14 at h;split at h
 ·assumption
 ·cases h
theorem X1n {n:Nat} {u:Unit} (h:X6f n=some u):n<=140737488355328:=by
 unfold X6f at h;split at h
 ·assumption
 ·cases h
theorem Xrs {b:Int} {u:Unit} (h:Xqs b=some u):0<=b:=by
 unfold Xqs at h;split at h
 ·assumption
 ·cases h
theorem Xm2 {n m:Int} {b:Nat} {u:Unit} (h:Xoi n m b=some u):0<n/\n=m/\(b:Int)*m<=140737488355328:=by
 unfold Xoi at h;split at h
 ·assumption
 ·cases h
theorem X2t {α:Type} {l m:List α} {a b:Int} (h:X79 l a b=some m):0<=a/\a<=b/\b.toNat<=l.length/\m=(l.drop a.toNat).take (b.toNat - a.toNat):=by
 unfold X79 at h;split at h
 ·rename_i hc;cases h;exact⟨hc.1,hc.2.1,hc.2.2,rfl⟩
 ·cases h
theorem X5a {α:Type} {l m:List α} {a b:Int} (h:X79 l a b=some m):b.toNat - a.toNat=m.length:=by
 obtain⟨h1,h2,h3,rfl⟩:=X2t h;simp;omega
theorem X9g {α:Type} {m:List α} {a b:Int} (h:X79 ([]:List α) a b=some m):m=[]:=by
 obtain⟨h1,h2,h3,rfl⟩:=X2t h;simp
theorem X2h {α:Type} {m:List α} (h:List.isEmpty m=true):m.length=0:=by
 rw[List.isEmpty_iff.1 h];rfl
theorem X0m {α:Type} {m:List α} (h:List.isEmpty m=false):0<m.length:=by
 cases m with
 |nil=>cases h
 |cons a m=>simp
theorem Xbf {α:Type} {l m:List α} {off n:Nat} {i:Int} {x:α} {f:α->AV} (q:m=(l.drop off).take n) (h:getI m i=some x):(l.map f)[off+i.toNat]?=some (f x):=by
 have h1:=Xco h;rw[q,List.getElem?_take] at h1;split at h1
 ·rw[List.getElem?_drop] at h1;rw[List.getElem?_map,h1];rfl
 ·cases h1
theorem X1w {α:Type} {l m:List α} {n:Nat} {f:α->AV} (q:m=(l.drop 0).take n):∃ k,m.map f=(l.map f).take k:=⟨n,by rw[q];simp[List.map_take]⟩
theorem Xqj {α:Type} {f:α->AV} {n:Nat} (h:∀ x,(f x).cells.length=n) (l:List α):∀ e∈l.map f,e.cells.length=n:=by
 intro e he;obtain⟨x,_,rfl⟩:=List.mem_map.1 he;exact h x
theorem X0c {α:Type} {f:α->AV} (h:∀ x,Xad (f x)) (l:List α):∀ e∈l.map f,Xad e:=by
 intro e he;obtain⟨x,_,rfl⟩:=List.mem_map.1 he;exact h x
theorem X0r {α:Type} {f:α->AV} (h:∀ x,X84 (f x)) (l:List α):∀ e∈l.map f,X84 e:=by
 intro e he;obtain⟨x,_,rfl⟩:=List.mem_map.1 he;exact h x
def Xb1 (e:AV):Prop:=∀ M:Nat->Prop,e.Ok M/\∀ a∈e.cells,a.Ok M
theorem X4c {α:Type} {f:α->AV} (h:∀ x,Xb1 (f x)) (l:List α) (M:Nat->Prop):∀ e∈l.map f,∀ a∈e.cells,a.Ok M:=by
 intro e he;obtain⟨x,_,rfl⟩:=List.mem_map.1 he;exact(h x M).2
theorem X81 {e:AV} (h:Xad e) (hw:e.whole=true):Xb1 e:=λM=>by
 have h2:∀ a∈e.cells,a.Ok M:=λa ha=>by obtain⟨v,rfl⟩:=h a ha;exact .sc
 refine⟨?_,h2⟩
 cases e with
 |agg cs=>exact .agg h2
 |_=>first|exact h2 _ (List.mem_singleton.2 rfl)
theorem Xg3 {α:Type} {f g:α->AV} {H:X07} {own:Bool} (hc:∀ x,(f x).cells.length=(g x).cells.length) (h:∀ x (k:Nat) a b,(f x).cells[k]?=some a->(g x).cells[k]?=some b->Cv false H a b) (l:List α) :
  Cv false H (.list own (l.map f)) (.list false (l.map g)):=by
 refine .listD rfl (by simp) (λi e e' he he'=>?_) (λi e e' k a b he he' ha hb=>?_)
 ·simp only[List.getElem?_map,Option.map_eq_some_iff] at he he';obtain⟨x,hx,rfl⟩:=he;obtain⟨y,hy,rfl⟩:=he';rw[hx] at hy;cases hy;exact hc x
 ·simp only[List.getElem?_map,Option.map_eq_some_iff] at he he';obtain⟨x,hx,rfl⟩:=he;obtain⟨y,hy,rfl⟩:=he';rw[hx] at hy;cases hy;exact h x k a b ha hb
theorem Xwg {i n m:Nat} (h:n=m):[AV.ref i 0 n]=[AV.ref i 0 m]:=h▸rfl
def Nb {α:Type} (l:List α):Type:={ b:Bool // b=true->l=[] }
def nbF {α:Type} {l:List α}:Nb l:=⟨false,λh=>by cases h⟩
def nbT {α:Type} {l:List α} (h:l=[]):Nb l:=⟨true,λ_=>h⟩
def slE (nb:Bool) (id:Nat) (es:List AV):AV:=bif nb then .nils else .ref id 0 es.length
def opE (nb:Bool) (id esz:Nat) (es:List AV):List (Nat×Obj):=bif nb then [] else [(id,{ es:=es,esz:=esz })]
theorem X4.joinF {P:Program} {nt n0:Nat} {Q:Xr->St->Mu->Prop} {cf:Cf} {K:List Kn} {μ:Mu} {s:St} {ι:Type} (s':ι->St) (h1:∀ i,X4 P nt n0 Q (.exit .normal) K (s' i) μ)
  (h2:(∀ i,X4 P nt n0 Q (.exit .normal) K (s' i) μ)->X4 P nt n0 Q cf K s μ):X4 P nt n0 Q cf K s μ:=h2 h1
theorem X4.joinOpF {P:Program} {nt n0:Nat} {Q:Xr->St->Mu->Prop} {ops:Array Oper} {o:Oper} {l:List Oper} {K:List Kn} {μ:Mu} {s:St} {ι:Type} (s':ι->St) (h1:∀ i,X4 P nt n0 Q (.ops ops l) K (s' i) μ)
  (h2:(∀ i,X4 P nt n0 Q (.ops ops l) K (s' i) μ)->X4 P nt n0 Q (.ops ops (o::l)) K s μ):X4 P nt n0 Q (.ops ops (o::l)) K s μ:=h2 h1
theorem X4.join {P:Program} {nt n0:Nat} {Q:Xr->St->Mu->Prop} {cf:Cf} {K:List Kn} {μ:Mu} {s s':St} (h1:X4 P nt n0 Q (.exit .normal) K s' μ)
  (h2:X4 P nt n0 Q (.exit .normal) K s' μ->X4 P nt n0 Q cf K s μ):X4 P nt n0 Q cf K s μ:=h2 h1
theorem X4.joinOp {P:Program} {nt n0:Nat} {Q:Xr->St->Mu->Prop} {ops:Array Oper} {o:Oper} {l:List Oper} {K:List Kn} {μ:Mu} {s s':St} (h1:X4 P nt n0 Q (.ops ops l) K s' μ)
  (h2:X4 P nt n0 Q (.ops ops l) K s' μ->X4 P nt n0 Q (.ops ops (o::l)) K s μ):X4 P nt n0 Q (.ops ops (o::l)) K s μ:=h2 h1
theorem X7n {v:Value} {P:List AV} (h:∀ a∈P,∃ v,a=.sc v):∀ a∈(.sc v::P),∃ v,a=.sc v:=λa ha=>by
 rcases List.mem_cons.1 ha with rfl|ha
 ·exact⟨_,rfl⟩
 ·exact h a ha
theorem Xkd:∀ a∈([]:List AV),∃ v,a=.sc v:=λ_ h=>by cases h
theorem Xmy {v:Value}:Xb1 (.sc v):=λ_=>⟨.sc,λa ha=>by rw[List.mem_singleton.1 ha];exact .sc⟩
theorem Xjd {cs:List AV} (h:∀ M:Nat->Prop,∀ a∈cs,a.Ok M):Xb1 (.agg cs):=λM=>⟨.agg (h M),h M⟩
theorem X4b {e:AV} (h:Xb1 e) (M:Nat->Prop):∀ e'∈[e],∀ a∈e'.cells,a.Ok M:=λe' he=>by rw[List.mem_singleton.1 he];exact(h M).2
def X5z {α:Type} (o:Bool) (f:α->AV) (l:List α):AV:=.list o (l.map f)
theorem X58 {α:Type} {o:Bool} {f:α->AV} {l:List α}:X84 (X5z o f l):=λ_=>rfl
theorem Xdk {α:Type} {o:Bool} {f:α->AV} {l:List α}:Xb1 (X5z o f l):=λ_=>⟨.list,λa ha=>by rw[List.mem_singleton.1 ha];exact .list⟩
theorem Xt9 {m:Bool} {H:X07} {e:AV} (h:Xad e) (hw:e.whole=true:=by rfl):Cv m H e e:=by
 cases e with
 |agg cs =>
  refine .agg rfl λi a b ha hb=>?_;rw[ha] at hb;cases hb;obtain⟨v,rfl⟩:=h a (List.mem_of_getElem? ha);exact .sc
 |sc v=>exact .sc
 |_=>obtain⟨v,hv⟩:=h _ (List.mem_singleton.2 rfl);cases hv
theorem Xqy {l:List AV} (h:∀ a∈l,Xdy a):Xdy (.tup l):=.tup h
theorem Xjs {m:Bool} {H:X07} {as bs:List AV} (h:Cvs m H as bs):Cv m H (.agg as) (.agg bs):=.agg h.len h.rel
theorem Xt8 {m:Bool} {H:X07} {es:List AV} (h:es=[]):Cv m H .nils (.list m es):=by rw[h];exact .nils
theorem Xg4 {m:Bool} {H:X07} {e b:AV} (h:Cv m H e b):∀ own es,b=.list own es->e.cells=[e]:=by
 induction h with
 |weak h ih=>intro _ _ _;exact ih _ _ rfl
 |agg=>intro _ _ h;cases h
 |_=>intro _ _ _;rfl
theorem X7g {H:X07} {e e':AV} (h:Cv false H e e'):∀ (k:Nat) a b,e.cells[k]?=some a->e'.cells[k]?=some b->Cv false H a b:=by
 intro k a b ha hb
 cases h with
 |agg hl h=>exact h k a b ha hb
 |weak h =>
  rw[Xg4 h _ _ rfl] at ha
  cases k with
  |succ k=>simp at ha
  |zero=>simp[AV.cells] at ha hb;subst ha hb;exact .weak h
 |_ =>
  cases k with
  |succ k=>simp[AV.cells] at ha
  |zero =>
   simp[AV.cells] at ha hb;subst ha hb;first
    |exact .sc
    |exact .nils
    |exact .nils0
    |exact .fn0
    |(apply Cv.tup<;>assumption)
    |(apply Cv.listS;assumption)
    |(apply Cv.listD<;>assumption)
    |(apply Cv.ref<;>assumption)
    |(apply Cv.ptrL<;>assumption)
    |(apply Cv.elemD<;>assumption)
theorem Xwa {b:Bool} {P:Prop} (h:b=false):b=true->P:=λa=>Bool.noConfusion (a.symm.trans h)
theorem Xwb {b:Bool} {P:Prop} (h:b=true):(!b)=true->P:=λa=>by rw[h] at a;cases a
theorem X0s {m n b c:Nat} {u:Unit} (h:X14 n c=some u) (hb:b=c) (hm:m=n):m*b<=140737488355328:=by subst hb hm;exact Xjv h
theorem Xw {m n c:Nat} {u:Unit} (h:X14 n c=some u) (hc:0<c) (hm:m=n):m<=maxLen:=by
 subst hm;have:=Xjv h;have h2:m*1<=m*c:=Nat.mul_le_mul_left _ hc;unfold maxLen;omega
theorem Xl {c x y b:Bool} (h:c=true) (hx:x=b):(bif c then x else y)=b:=by rw[h];exact hx
theorem Xo {c x y b:Bool} (h:c=false) (hy:y=b):(bif c then x else y)=b:=by rw[h];exact hy
theorem Xvh {c:Bool} (h:c=true):(!c)=false:=by rw[h];rfl
theorem Xvi {c:Bool} (h:c=false):(!c)=true:=by rw[h];rfl
theorem Xte {c b:Bool} (h:c=b):(!c)=!b:=by rw[h]
theorem Xjr {m:Bool} {H:X07} {u v:Value} (h:u=v):Cv m H (.sc u) (.sc v):=by rw[h];exact .sc
theorem Xln {f:Nat} {M:Nat->Prop}:(AV.fn f []).Ok M:=.fn λ_ h=>by cases h
theorem Xex {α:Type} {f:α->AV} {w:α->Prop} {es:List AV} (h:∀ x∈es,∃ e,x=f e/\w e):∃ l:List α,es=l.map f/\∀ y∈l,w y:=by
 induction es with
 |nil=>exact⟨[],rfl,λ_ h=>by cases h⟩
 |cons a r ih =>
  obtain⟨e,he,hw⟩:=h a (List.mem_cons_self ..);obtain⟨l,hl,hws⟩:=ih λx hx=>h x (List.mem_cons_of_mem _ hx);refine⟨e::l,by rw[he,hl];rfl,λy hy=>?_⟩;rcases List.mem_cons.1 hy with rfl|hy
  ·exact hw
  ·exact hws y hy
theorem Xt3 {p:AV->Prop} {a:AV} {l:List AV} (h:p a):∃ e∈(a::l),p e:=⟨a,List.mem_cons_self ..,h⟩
theorem Xvg {P:Prop} (h:P:=by
 first
  |exact trivial
  |exact λh=>h
  |rfl
  |assumption
  |(apply X6g;assumption;done)
  |(apply Xfu;assumption;done)
  |(apply Xgy;assumption;done)
  |(apply ixm;assumption;done)
  |(apply ixm0;assumption;done)
  |(apply getI_mapc;assumption;done)
  |(apply getI_mapc0;assumption;done)
  |(apply ixmc;assumption;done)
  |(apply ixmc0;assumption;done)
  |(apply divOk_ne;assumption;done)
  |(apply Xrs;assumption;done)
  |(intro a;rw[a];done)
  |(intro a;rw[a];rfl)
  |exact Xot om om
  |(refine Xqj ?_ _;intro x;rfl)
  |exact Xt3 rfl
  |(refine cell_len_td ?_ _ _ _;intro x;rfl)
  |(refine cell_len_c ?_ _ _;intro x;rfl)
  |(refine take_full ?_;first|rfl|(simp;done)|(simp;omega)|(simp[*];done))
  |exact Nat.le_of_ble_eq_true rfl
  |(exact decide_eq_true om)
  |(exact decide_eq_false om)
  |(simp only[maxLen,List.length_append,List.length_map,List.length_cons,List.length_nil,List.length_replicate,Int.toNat_natCast];done)
  |(simp only[maxLen,List.length_append,List.length_map,List.length_cons,List.length_nil,List.length_replicate,Int.toNat_natCast] at *;omega)
  |(simp only[List.length_map];first|done|assumption|rfl)
  |(simp only[List.length_map];first|(apply X6g;assumption;done)|(apply Xfu;assumption;done)|(apply Xgy;assumption;done)|(apply getI_mapc;assumption;done)|(apply getI_mapc0;assumption;done))
  |(refine congrArg (λz=>AV.sc (Value.int IntKind.i64 z)) ?_;simp only[List.length_map,List.length_cons,List.length_append];done)
  |(refine congrArg (λz=>AV.sc (Value.int IntKind.i64 z)) ?_;first|(simp;done)|(simp;omega)|(simp[*];done))
  |(intro e he;rw[List.mem_singleton.1 he];rfl)
  |(intro e he;simp only[List.mem_cons,List.not_mem_nil,or_false] at he;rcases he with rfl|rfl<;>rfl)
  |exact andL
  |exact andR
  |(refine Xvh ?_;assumption)
  |(refine Xvi ?_;assumption)
  |(refine Xwa ?_;assumption)
  |(refine Xwb ?_;assumption)
  |omega
  |(simp;done)
  |(simp[*];done)
  |(intros;simp_all;done)):P:=h
end Go.Av


namespace Go.Av
theorem Xi8 {P:Program} {t et:Nat} {p:Option Addr} {n m:Nat} (hu:P.underlying t=some (.slice et)) (w:World) (d:Nat) :
  (Op.equalIn (d+1) t (.slice p n m) (.slice none 0 0)).run P w=.ok p.isNone w:=by
 unfold Op.equalIn;rw[Sem.run_bind,run_underlying hu w];cases p<;>rfl
theorem Xgg {P:Program} {t:Nat} {et:Nat} {x:Operand} {p:Option Addr} {n m:Nat} (hu:P.underlying t=some (.slice et)) (w:World) (y:Operand) :
  ((do eqGuard .eql t x y (.slice p n m) (.slice none 0 0);binOp .eql t (.slice p n m) (.slice none 0 0):Sem Value)).run P w=.ok (.bool p.isNone) w:=by
 have h1:(eqGuard .eql t x y (.slice p n m) (.slice none 0 0)).run P w=.ok () w:=rfl;have h2:(binOp .eql t (.slice p n m) (.slice none 0 0))=(do pure (.bool (<-Op.equalIn (9999+1) t (.slice p n m) (.slice none 0 0))):Sem Value):=rfl;rw[Sem.run_bind,h1,Result.andThen_ok,h2,Sem.run_bind,Xi8 hu w 9999];rfl
def X7a:AV->Option Bool
 |.list _ es=>some es.isEmpty
 |.nils=>some true
 |.ref _ _ _=>some false
 |_=>none
theorem Xlr {c:Ctx} {a:AV} {v:Value} {b:Bool} (h:X0l c false a v) (hn:X7a a=some b):∃ p n m,v=.slice p n m/\(b=false->p.isNone=false):=by
 cases h with
 |listNil=>simp[X7a] at hn;subst hn;exact⟨_,_,_,rfl,λh=>by cases h⟩
 |list vf hne =>
  rename_i es b off cap esz n hS hn' hcap hsz hcell h1 h;exact⟨_,_,_,rfl,λ_=>rfl⟩
 |nils=>simp[X7a] at hn;subst hn;exact⟨_,_,_,rfl,λh=>by cases h⟩
 |ref=>exact⟨_,_,_,rfl,λ_=>rfl⟩
 |_=>cases hn
theorem X4.eqNil {P:Program} {T:Ty} {nt n0:Nat} {Q:Xr->St->Mu->Prop} {ops:Array Oper} {l:List Oper} {o:Oper} {K:List Kn} {L:List (Nat×AV)} {G:List (Nat×Obj)} {n:Nat} {μ:Mu} {t yt:Nat} {x:Operand} {ti:TI} {et:Nat}
  {a:AV} {q:List Prop} {may:Bool} (hT:X9r P T) (ho:o.op=.binOp .eql t x (.const (.slice none 0 0)) yt) (hg:o.guard=none) (hd:Xg2 nt o.dst=true) (ht:T t=some ti) (hk:ti.kind=.slice et) (hx:rd L x=(a,q)) (hq:X3s q)
  (hm:X7a a=some may) (h:∀ b:Bool,(may=false->b=false)->X4 P nt n0 Q (.ops ops l) K ⟨fr (Xs3 o.dst (.sc (.bool b)) L),hp G,n⟩ μ):X4 P nt n0 Q (.ops ops (o::l)) K ⟨fr L,hp G,n⟩ μ:=by
 refine X4q.plain (s:=⟨fr L,hp G,n⟩) hg (X8k hd) (R:=λa' H' n'=>(∃ b:Bool,(may=false->b=false)/\a'=.sc (.bool b))/\H'=hp G/\n'=n) ?_ ?_
 ·intro c0 H0 n0' c act g K' Q' hK R;have hv:=g.ev x;rw[show evA (St.A ⟨fr L,hp G,n⟩) x=a from X0j hx hq] at hv;obtain⟨p,m1,m2,hv',hp'⟩:=Xlr hv hm;refine Oper.wpR (λd hd=>by rw[hd] at ho;cases ho) ?_;unfold Oper.wp;have hr:(execOp act.eval o).run P c.w=.ok (.value (.bool p.isNone)) c.w:=by
   obtain⟨dst,op,type,pos,after,guard⟩:=o;simp only at ho;subst ho;have:=Xgg (P:=P) (t:=t) (x:=x) (p:=p) (n:=m1) (m:=m2) (X1p (hT t ti ht) hk) c.w (.const (.slice none 0 0));have hc:act.eval (.const (.slice none 0 0))=.slice none 0 0:=rfl;simp only[execOp,hv',hc];rw[Sem.run_bind,this];rfl
  rw[hr];exact hK c (.sc (.bool p.isNone)) (hp G) n (.bool p.isNone) ⟨⟨_,hp',rfl⟩,rfl,rfl⟩ λdst hd=>g.next hd (.refl c) rfl (λb hb=>.inl hb) (.refl c (hp G)) (λq x hx=>.inr ⟨q,x,hx,rfl⟩) g.inv g.solo (Nat.le_refl _) .sc .sc
 ·rintro a' H' n' ⟨⟨b,hb,rfl⟩,rfl,rfl⟩;have:=h b hb;rw[X5i] at this;exact this
theorem X4.inlineG {P:Program} {T:Ty} {nt n0 nt' f j t:Nat} {want g:Bool} {Q:Xr->St->Mu->Prop} {ops:Array Oper} {l:List Oper} {o:Oper} {K:List Kn} {L:List (Nat×AV)} {G:List (Nat×Obj)} {n:Nat} {μ:Mu} {x:Operand} {args:Array Operand} {ts:Array Nat}
  {caps as:List AV} {fn:Func} {code:Code} (hT:X9r P T) (hfn:X22 P f fn code) (ho:o.op=.call { callee:=.value x,args:=args,argTypes:=ts }) (hg:o.guard=some (j,want)) (hj:(ops[j]?).bind (·.dst)=some t) (ht:Nat.blt t nt=true) (hgd:gdS want (fr L t)=some g)
  (hd:Xg2 nt o.dst=true) {qx qa:List Prop} (hx:rd L x=(.fn f caps,qx)) (ha:rds L args.toList=(as,qa)) (hnt:fn.ntmps=nt') (hle:Nat.ble (as++caps).length nt'=true) (hgt:g=true) (hpx:X3s qx) (hpa:X3s qa)
  (h:X4 P nt' n (Xtl T fn λr H' n'=>X4 P nt n0 Q (.ops ops l) K ⟨X9f (fr L) o.dst r,H',n'⟩ μ) (.code code) [] ⟨fr (Av.argL 0 (as++caps)),hp G,n⟩ []):X4 P nt n0 Q (.ops ops (o::l)) K ⟨fr L,hp G,n⟩ μ:=by
 subst hgt;refine X4q.step (s:=⟨fr L,hp G,n⟩) (λc0 c H0 act gd=>X8v (s:=⟨fr L,hp G,n⟩) hg hj ht hgd gd) (X8k hd) (OpR.call (s:=⟨fr L,hp G,n⟩) ho (X0j hx hpx) ?_) (λa H' n' hr=>hr);rw[Xbx ha hpa];exact HC.of_bodyM hT hfn hnt (by simpa using hle) (X3u.ofCl h)
theorem Xnf {m:Bool} {α:Type} {f g:α->AV} {H:X07} {o n:Nat} {x:Obj} {l:List α} (hH:H o=some x) (he:x.es=l.map f) (hn:n=l.length) (hc:∀ x,(f x).cells.length=(g x).cells.length)
  (h:∀ x (k:Nat) a b,(f x).cells[k]?=some a->(g x).cells[k]?=some b->Cv m H a b):Cv m H (.ref o 0 n) (.list m (l.map g)):=by
 have hg:∀ (i:Nat) e e',x.es[0+i]?=some e->(l.map g)[i]?=some e'->∃ y,e=f y/\e'=g y:=by
  intro i e e' h1 h2;rw[Nat.zero_add,he] at h1;simp only[List.getElem?_map,Option.map_eq_some_iff] at h1 h2;obtain⟨y,hy,rfl⟩:=h1;obtain⟨z,hz,rfl⟩:=h2;rw[hy] at hz;cases hz;exact⟨y,rfl,rfl⟩
 refine .ref hH (by rw[he,hn];simp) (by rw[hn];simp) (λi e e' h1 h2=>?_) (λi e e' k a b h1 h2 ha hb=>?_)
 ·obtain⟨y,rfl,rfl⟩:=hg i e e' h1 h2;exact hc y
 ·obtain⟨y,rfl,rfl⟩:=hg i e e' h1 h2;exact h y k a b ha hb
end Go.Av


namespace Go.Av
open MapKept
noncomputable def Xk1 (k v:Value):List (Value×Value)->List (Value×Value)
 |[]=>[(k,v)]
 |(a,b)::r=>open Classical in if a=k then (k,v)::r else (a,b)::Xk1 k v r
noncomputable def Xto (k:Value):List (Value×Value)->Option Value
 |[]=>none
 |(a,b)::r=>open Classical in if a=k then some b else Xto k r
theorem Xrt {k v:Value}:∀ (l:List (Value×Value)) (j:Nat) (p:Value×Value),l[j]?=some p->p.1=k->(∀ i q,i<j->l[i]?=some q->q.1≠k)->Xk1 k v l=l.set j (k,v)/\Xto k l=some p.2:=by
 intro l
 induction l with
 |nil=>intro j p h;simp at h
 |cons a r ih =>
  obtain⟨a1,a2⟩:=a;intro j p h hk hn
  cases j with
  |zero=>simp at h;subst h;simp only at hk;simp[Xk1,Xto,hk]
  |succ j =>
   have h0:a1≠k:=hn 0 (a1,a2) (Nat.succ_pos j) rfl;obtain⟨h1,h2⟩:=ih j p (by simpa using h) hk (λi q hi hq=>hn (i+1) q (Nat.succ_lt_succ hi) (by simpa using hq));simp[Xk1,Xto,h0,h1,h2]
theorem Xp0 {k v:Value}:∀ (l:List (Value×Value)),(∀ q∈l,q.1≠k)->Xk1 k v l=l++[(k,v)]/\Xto k l=none:=by
 intro l
 induction l with
 |nil=>intro _;exact⟨rfl,rfl⟩
 |cons a r ih =>
  obtain⟨a1,a2⟩:=a;intro hn;have h0:a1≠k:=hn (a1,a2) (by simp);obtain⟨h1,h2⟩:=ih (λq hq=>hn q (List.mem_cons_of_mem _ hq));simp[Xk1,Xto,h0,h1,h2]
theorem Xg1 {d:TypeDesc} {k:Value} (hk:IsKey d k):∀ (l:List MapEntry) (i:Nat),(∀ x∈l,IsKey d x.key) ->
  (Instr.findNow d k l i=some none/\∀ x∈l,x.key≠k)\/∃ j e,Instr.findNow d k l i=some (some (i+j,e.val))/\l[j]?=some e/\e.key=k/\∀ m x,m<j->l[m]?=some x->x.key≠k:=by
 intro l
 induction l with
 |nil=>intro i _;exact .inl ⟨rfl,by simp⟩
 |cons e es ih =>
  intro i h;obtain⟨r,hr,hiff⟩:=sameNow_of_keys hk (h e (by simp))
  cases r with
  |true=>exact .inr ⟨0,e,by simp[Instr.findNow,hr],rfl,(hiff.1 rfl).symm,λm x hm=>absurd hm (Nat.not_lt_zero m)⟩
  |false =>
   have hne:e.key≠k:=λq=>by have:=hiff.2 q.symm;cases this
   rcases ih (i+1) (λx hx=>h x (List.mem_cons_of_mem _ hx)) with ⟨h1,h2⟩|⟨j,e',h1,h2,h3,h4⟩
   ·exact .inl ⟨by simp[Instr.findNow,hr,h1],λx hx=>by
     rcases List.mem_cons.1 hx with rfl|hx
     ·exact hne
     ·exact h2 x hx⟩
   ·refine .inr ⟨j+1,e',by simp[Instr.findNow,hr,h1];omega,by simpa using h2,h3,λm x hm hx=>?_⟩
    cases m with
    |zero=>simp at hx;subst hx;exact hne
    |succ m=>exact h4 m x om (by simpa using hx)
theorem Xgi {d:TypeDesc} {k:Value} (hk:IsKey d k) (n:Nat):Instr.sameBits (n+1) k k=true:=by
 cases d<;>cases k<;>simp_all [IsKey,Instr.sameBits,bytes_beq]
theorem Xc5 {P:Program} {w:World} {b:Nat} {l:List (Value×Value)} {t kt et:TypeId} {d:TypeDesc} {k v:Value} (hm:P.underlying t=some (.map kt et)) (hd:P.underlying kt=some d)
  (hM:Xkm w b l) (hk:IsKey d k) (hks:∀ p∈l,IsKey d p.1) :
  ∃ o',(Instr.mapUpdate t (.map (some b)) k v).run P w=.ok () { w with heap:=w.heap.setIfInBounds b o' }/\Xkm { w with heap:=w.heap.setIfInBounds b o' } b (Xk1 k v l):=by
 obtain⟨es,clock,hb,hl,hp,hc⟩:=hM;have hes:∀ x∈es.toList,IsKey d x.key:=λx hx=>hks (x.key,x.val) (by rw[<-hl];exact List.mem_map.2 ⟨x,hx,rfl⟩);have hset:∀ o',(w.heap.setIfInBounds b o')[b]?=some o':=λo'=>(heap_set (o':=o') hb).1;rcases Xg1 hk es.toList 0 hes with ⟨h1,h2⟩|⟨j,e,h1,h2,h3,h4⟩
 ·refine⟨.map (es.push { key:=k,val:=v,born:=clock }) (clock+1),?_,es.push { key:=k,val:=v,born:=clock },clock+1,hset _,?_,?_,?_⟩
  ·simp[Instr.mapUpdate,run_underlying hm,MapKept.run_getObj_map hb,run_checkKey hd hk,run_findKey hd h1,MapKept.run_setObj_map _ hb]
  ·rw[Array.toList_push,List.map_append,hl];rw[(Xp0 (v:=v) l (λq hq=>by
    rw[<-hl] at hq;obtain⟨x,hx,rfl⟩:=List.mem_map.1 hq;exact h2 x hx)).1]
   rfl
  ·rw[Array.toList_push];exact List.pairwise_append.2 ⟨hp,List.pairwise_singleton _ _,λa ha b' hb'=>by rw[List.mem_singleton.1 hb'];exact hc a ha⟩
  ·intro x hx;rw[Array.toList_push,List.mem_append] at hx;rcases hx with hx|hx
   ·exact Nat.lt_succ_of_lt (hc x hx)
   ·rw[List.mem_singleton.1 hx];exact Nat.lt_succ_self _
 ·have he:es[j]?=some e:=by simpa using h2
  have hlj:l[j]?=some (e.key,e.val):=by rw[<-hl,List.getElem?_map,h2];rfl
  have hm2:(es.modify j λe=>{ e with key:=k,val:=v }).toList=es.toList.modify j λe=>{ e with key:=k,val:=v }:=by simp
  refine⟨.map (es.modify j λe=>{ e with key:=k,val:=v }) clock,?_,es.modify j λe=>{ e with key:=k,val:=v },clock,hset _,?_,?_,?_⟩
  ·have hst:(Instr.keyThatStays k k).run P w=.ok k w:=by simp[Instr.keyThatStays,Xgi hk]
   simp only[Nat.zero_add] at h1;simp[Instr.mapUpdate,run_underlying hm,MapKept.run_getObj_map hb,run_checkKey hd hk,run_findKey hd h1,he,h3,hst,MapKept.run_setObj_map _ hb]
  ·rw[hm2,(Xrt (v:=v) l j _ hlj h3 (λi q hi hq=>by
    rw[<-hl,List.getElem?_map] at hq
    cases hx:es.toList[i]? with
    |none=>rw[hx] at hq;cases hq
    |some x=>rw[hx] at hq;cases hq;exact h4 i x hi hx)).1,<-hl]
   apply List.ext_getElem?;intro i;simp only[List.getElem?_map,List.getElem?_modify,List.getElem?_set];by_cases hij:j=i
   ·subst hij;have hlt:j<es.toList.length:=(List.getElem?_eq_some_iff.1 h2).1;simp[he] at *;simpa using hlt
   ·simp[hij]
  ·rw[hm2];refine List.pairwise_iff_getElem.2 λi i' hi hi' hlt=>?_;have:=List.pairwise_iff_getElem.1 hp i i' (by simpa using hi) (by simpa using hi') hlt;simp only[List.getElem_modify];split<;>split<;>exact this
  ·intro x hx;rw[hm2] at hx;obtain⟨i,hi⟩:=List.getElem?_of_mem hx;rw[List.getElem?_modify] at hi
   cases hy:es.toList[i]? with
   |none=>rw[hy] at hi;simp at hi
   |some y =>
    rw[hy] at hi;have:=hc y (List.mem_of_getElem? hy);by_cases hij:j=i
    ·simp[hij] at hi;rw[<-hi];exact this
    ·simp[hij] at hi;rw[<-hi];exact this
theorem Inv.aside {c:Ctx} {H:X07} {M:Nat->Prop} (hI:Inv c H M) {b:Nat} {w':World} (hsz:w'.heap.size=c.w.heap.size) (hw:∀ q,q≠b->w'.heap[q]?=c.w.heap[q]?) (hsa:¬ c.Sa b/\¬ c.So b) (hob:∀ o x,H o=some x->(c.ρ o).blk≠b) :
  c.Le M { c with w:=w' }/\Inv { c with w:=w' } H M:=by
 have hle:c.Le M { c with w:=w' }:=⟨λ_ _=>rfl,λ_ h=>h,λ_ h=>h,λq hq=>hw q (λe=>by subst e;exact hq.elim hsa.1 hsa.2),rfl⟩;refine⟨hle,⟨?_,hI.sep,hI.stab,λq hq=>by have:=hI.lt q hq;simp only[hsz];exact this,by have:=hI.base;simp only[hsz];exact this,hI.own,hI.low⟩⟩;intro p x hx;obtain⟨h1,⟨⟨cur,hb,hs,hc⟩,h3,h4,h5⟩,h6⟩:=hI.obj p x hx;refine⟨h1,⟨⟨cur,?_,hs,?_⟩,h3,h4,h5⟩,h6⟩
 ·show w'.heap[(c.ρ p).blk]?=_;rw[hw _ (hob p x hx)];exact hb
 ·intro i e he;obtain⟨g1,g2⟩:=hc i e he;exact⟨g1,λk a ha=>by obtain⟨v,hv,hr,h7⟩:=g2 k a ha;exact⟨v,hv,hr.mono hle (.inr (h6 e (List.mem_of_getElem? he) a (List.mem_of_getElem? ha))),h7⟩⟩
section
variable {P:Program} {nt n0:Nat} {Q:Xr->St->Mu->Prop} {ops:Array Oper} {l:List Oper} {o:Oper} {K:List Kn} {L:List (Nat×AV)} {G:List (Nat×Obj)} {n:Nat} {μ:Mu}
theorem Xbu {P:Program} (t:TypeId) (w:World):(Instr.makeMap t none).run P w=.ok (.map (some w.heap.size)) (w.alloc (.map #[] 0)):=rfl
theorem X4.mapNew {t:Nat} (ho:o.op=.makeMap t none) (hg:o.guard=none) (hd:Xg2 nt o.dst=true)
  (h:∀ b,X4 P nt n0 Q (.ops ops l) K ⟨fr (Xs3 o.dst (.sc (.map (some b))) L),hp G,n⟩ ((b,.map [])::μ)):X4 P nt n0 Q (.ops ops (o::l)) K ⟨fr L,hp G,n⟩ μ:=by
 intro c0 H0 c act g hm Qx hQ R hR;refine X3i λK' hK'=>?_;rw[if_pos (by simp[Region.wanted,hg])];have hrun:(execOp act.eval o).run P c.w=.ok (.value (.map (some c.w.heap.size))) (c.w.alloc (.map #[] 0)):=by
  obtain⟨dst,op,type,pos,after,guard⟩:=o;simp only at ho;subst ho;simp only[execOp,Sem.run_bind,Xbu];rfl
 refine Oper.wpR (λd hd=>by rw[hd] at ho;cases ho) ?_;unfold Oper.wp;rw[hrun];obtain⟨h1,h2,h3⟩:=g.inv.waste (w':=c.w.alloc (.map #[] 0)) (.map #[] 0) rfl rfl rfl ⟨rfl,Nat.le_refl _⟩;have g2:=(g.rebase).next (c':={ c with w:=c.w.alloc (.map #[] 0) }) (dst:=o.dst) (a:=.sc (.map (some c.w.heap.size))) (v:=.map (some c.w.heap.size)) (X8k hd) h1 rfl (λb hb=>.inl hb) h3 (λq x hx=>.inr ⟨q,x,hx,rfl⟩) h2 g.solo (Nat.le_refl _) .sc .sc;have hk:=hm.kept g2.reach;have hnew:(c.w.alloc (.map #[] 0)).heap[c.w.heap.size]?=some (.map #[] 0):=(heap_alloc c.w _).1;have hb:=h c.w.heap.size;rw[X5i] at hb;refine hK' _ _ (hb c0 H0 { c with w:=c.w.alloc (.map #[] 0) } _ (.join g.reach g2) ⟨?_,?_,?_,(put_defers _ _ _).trans hm.ds⟩ Qx hQ R hR)
 ·intro p hp;rcases List.mem_cons.1 hp with rfl|hp
  ·exact⟨#[],0,hnew,rfl,List.Pairwise.nil,λe he=>by simp at he⟩
  ·exact hk.is p hp
 ·intro p hp;rcases List.mem_cons.1 hp with rfl|hp
  ·refine⟨λhs=>Nat.lt_irrefl _ (g.inv.lt _ (.inl hs)),λhs=>Nat.lt_irrefl _ (g.inv.lt _ (.inr hs)),λq x hx he=>?_,g.reach.size⟩;obtain⟨_,⟨⟨cur,hcb,_⟩,_,_,_⟩,_⟩:=g.inv.obj q x hx;have he':(c.ρ q).blk=c.w.heap.size:=he;rw[he'] at hcb;simp at hcb
  ·exact hk.away p hp
 ·refine List.nodup_cons.2 ⟨λhmem=>?_,hk.nodup⟩;obtain⟨p,hp,he⟩:=List.mem_map.1 hmem;have:=(hm.is p hp).lt;simp only at he;omega
theorem X4.mapUpd {T:Ty} {t b kt et:Nat} {m k x:Operand} {qm qk qx:List Prop} {kv xv:Value} {es:List (Value×Value)} {ti:TI} {d:TypeDesc} (hT:X9r P T) (ho:o.op=.mapUpdate t m k x) (hg:o.guard=none) (hd:o.dst=none)
  (ht:T t=some ti) (hkd:ti.kind=.map kt et) (hu:P.underlying kt=some d)
  (hm:rd L m=(.sc (.map (some b)),qm)) (hk:rd L k=(.sc kv,qk)) (hx:rd L x=(.sc xv,qx)) (hqm:X3s qm) (hqk:X3s qk) (hqx:X3s qx) (hik:IsKey d kv) (hks:∀ p∈es,IsKey d p.1)
  (h:X4 P nt n0 Q (.ops ops l) K ⟨fr L,hp G,n⟩ ((b,Xk1 kv xv es)::μ)):X4 P nt n0 Q (.ops ops (o::l)) K ⟨fr L,hp G,n⟩ ((b,es)::μ):=by
 intro c0 H0 c act g hM Qx hQ R hR;refine X3i λK' hK'=>?_;rw[if_pos (by simp[Region.wanted,hg])];have em:act.eval m=.map (some b):=by have:=g.ev m;rw[show evA (St.A ⟨fr L,hp G,n⟩) m=_ from X0j hm hqm] at this;exact this.sc_inv
 have ek:act.eval k=kv:=by have:=g.ev k;rw[show evA (St.A ⟨fr L,hp G,n⟩) k=_ from X0j hk hqk] at this;exact this.sc_inv
 have ex:act.eval x=xv:=by have:=g.ev x;rw[show evA (St.A ⟨fr L,hp G,n⟩) x=_ from X0j hx hqx] at this;exact this.sc_inv
 have hu1:P.underlying t=some (.map kt et):=by
  obtain⟨i,dd,_,hdd,_,hkk,_⟩:=X1s (hT t ti ht);rw[hkd] at hkk;cases dd<;>simp[X02] at hkk
  obtain⟨rfl,rfl⟩:=hkk;exact hdd
 obtain⟨o',hrun,hmap⟩:=Xc5 (v:=xv) hu1 hu (hM.is (b,es) (by simp)) hik hks;have hex:(execOp act.eval o).run P c.w=.ok .skip { c.w with heap:=c.w.heap.setIfInBounds b o' }:=by
  obtain⟨dst,op,type,pos,after,guard⟩:=o;simp only at ho;subst ho;simp only[execOp,em,ek,ex,Sem.run_bind,hrun];rfl
 refine Oper.wpR (λd hd=>by rw[hd] at ho;cases ho) ?_;unfold Oper.wp;rw[hex];obtain⟨a1,a2,a3,a4⟩:=hM.away (b,es) (by simp);obtain⟨es0,cl,hb0,_⟩:=hM.is (b,es) (by simp);have hoth:∀ q,q≠b->({ c.w with heap:=c.w.heap.setIfInBounds b o' }:World).heap[q]?=c.w.heap[q]?:=(heap_set (o':=o') hb0).2;obtain⟨h1,h2⟩:=g.inv.aside (w':={ c.w with heap:=c.w.heap.setIfInBounds b o' }) (by simp) hoth ⟨a1,a2⟩ a3;have g2:X3b nt c0 H0 n0 { c with w:={ c.w with heap:=c.w.heap.setIfInBounds b o' } } ⟨fr L,hp G,n⟩ act:=by
  refine⟨h2,g.solo,λq=>(g.frame q).mono h1 (.inr (g.ok q)),g.ok,g.size,?_,g.le0⟩;have r:=g.reach;refine⟨r.rho,r.os,r.tape,⟨r.output.1,Nat.le_trans r.output.2 (by first|exact Nat.le_refl _|exact Nat.le_succ _|(simp;done)|(simp;omega))⟩,by simpa using r.size,λq hq hn=>?_,λq hq=>?_,r.sa,r.so1,r.so2,r.B,r.own⟩
  ·exact(hoth q (λe=>by subst e;exact absurd hq (Nat.not_lt.2 a4))).trans (r.block q hq hn)
  ·refine(hoth q (λe=>?_)).trans (r.stable q hq);subst e;rcases hq with hq|hq
   ·exact a1 (by rw[r.sa];exact hq)
   ·exact a2 (r.so1 _ hq)
 have hact:act.put o.dst undef=act:=by rw[hd];rfl
 have hMs:MOk n0 c0 { c with w:={ c.w with heap:=c.w.heap.setIfInBounds b o' } } (hp G) ((b,Xk1 kv xv es)::μ) act:=by
  refine⟨λp hp=>?_,λp hp=>?_,?_,hM.ds⟩
  ·rcases List.mem_cons.1 hp with rfl|hp
   ·exact hmap
   ·have hne:p.1≠b:=λe=>(List.nodup_cons.1 hM.nodup).1 (List.mem_map.2 ⟨p,hp,e⟩);exact(hM.is p (List.mem_cons_of_mem _ hp)).le (hoth _ hne) (h1.weaken λq hq=>Nat.lt_of_lt_of_le hq g.le0)
  ·rcases List.mem_cons.1 hp with rfl|hp
   ·exact hM.away (b,es) (by simp)
   ·exact hM.away p (List.mem_cons_of_mem _ hp)
  ·exact hM.nodup
 have:=hK' act { c.w with heap:=c.w.heap.setIfInBounds b o' } (h c0 H0 _ act g2 hMs Qx hQ R hR);show K' (act.put o.dst undef) _;rw[hact];exact this
theorem X4.mapLen {T:Ty} {t b kt et:Nat} {x:Operand} {qx:List Prop} {es:List (Value×Value)} {ti:TI} (hT:X9r P T) (ho:o.op=.call { callee:=.builtin .len,args:=#[x],argTypes:=#[t] }) (hg:o.guard=none) (hd:Xg2 nt o.dst=true)
  (ht:T t=some ti) (hkd:ti.kind=.map kt et) (hx:rd L x=(.sc (.map (some b)),qx)) (hqx:X3s qx)
  (h:X4 P nt n0 Q (.ops ops l) K ⟨fr (Xs3 o.dst (.sc (.int .i64 es.length)) L),hp G,n⟩ ((b,es)::μ)):X4 P nt n0 Q (.ops ops (o::l)) K ⟨fr L,hp G,n⟩ ((b,es)::μ):=by
 intro c0 H0 c act g hM Qx hQ R hR;refine X3i λK' hK'=>?_;rw[if_pos (by simp[Region.wanted,hg])];have ex:act.eval x=.map (some b):=by have:=g.ev x;rw[show evA (St.A ⟨fr L,hp G,n⟩) x=_ from X0j hx hqx] at this;exact this.sc_inv
 have hu1:P.underlying t=some (.map kt et):=by
  obtain⟨i,dd,_,hdd,_,hkk,_⟩:=X1s (hT t ti ht);rw[hkd] at hkk;cases dd<;>simp[X02] at hkk
  obtain⟨rfl,rfl⟩:=hkk;exact hdd
 obtain⟨es0,cl,hb0,hl,_⟩:=hM.is (b,es) (by simp);have hsz:es0.size=es.length:=by have hl':es0.toList.map (λe=>(e.key,e.val))=es:=hl;rw[<-hl'];simp
 have hex:(execOp act.eval o).run P c.w=.ok (.value (.int .i64 es.length)) c.w:=by
  obtain⟨dst,op,type,pos,after,guard⟩:=o;simp only at ho;subst ho;simp[execOp,resolve,invoke,builtin,Builtin.len_,ex,run_underlying hu1,MapKept.run_getObj_map hb0,goInt,hsz]
 refine Oper.wpR (λd hd=>by rw[hd] at ho;cases ho) ?_;unfold Oper.wp;rw[hex];have g2:=g.next (c':=c) (dst:=o.dst) (a:=.sc (.int .i64 es.length)) (v:=.int .i64 es.length) (X8k hd) (.refl c) rfl (λb hb=>.inl hb) (.refl c (hp G)) (λq x hx=>.inr ⟨q,x,hx,rfl⟩) g.inv g.solo (Nat.le_refl _) .sc .sc;rw[X5i] at h;exact hK' _ _ (h c0 H0 c _ g2 hM.act Qx hQ R hR)
end
end Go.Av
namespace Go.D
def Xdr (ks:List Int) (z:Int):List Int:=if z∈ks then ks else ks++[z]
def X60 (ks:List Int):List Int->List Int
 |[]=>ks
 |z::zs=>X60 (Xdr ks z) zs
end Go.D
namespace Go.Av
def Xee (z:Int):Value×Value:=(.int .i64 z,.bool true)
end Go.Av


namespace Go.Av
section
variable {P:Program} {ops:Array Oper} {Q:Exit->Act->World->Prop}
end
end Go.Av
namespace Go.Av
end Go.Av


namespace Go.Av
def Xuq:AV->AV
 |.nils=>.list true []
 |a=>a
def denil:AV->AV
 |.agg cs=>.agg (cs.map Xuq)
 |a=>Xuq a
theorem Xds (e:AV):(denil e).cells=e.cells.map Xuq:=by
 cases e<;>rfl
theorem Xqh {c:Ctx} {d:Bool} {a:AV} {v:Value} (h:X0l c d a v):X0l c d (Xuq a) v:=by
 cases a with
 |nils=>obtain⟨p,rfl⟩:=h.nils_inv;exact .listNil
 |_=>exact h
theorem Xt7 {M:Nat->Prop} {a:AV} (h:a.Ok M):(Xuq a).Ok M:=by
 cases a with
 |nils=>exact .list
 |_=>exact h
theorem Xnd {c:Ctx} {p:Pl} {y:Obj} (h:Xhd c p y):Xhd c p { y with es:=y.es.map denil }:=by
 obtain⟨⟨cur,h1,h2,h3⟩,h4,h5,h6⟩:=h;refine⟨⟨cur,h1,h2,λi e he=>?_⟩,by simpa using h4,h5,h6⟩;simp only[List.getElem?_map,Option.map_eq_some_iff] at he;obtain⟨e0,he0,rfl⟩:=he;obtain⟨g1,g2⟩:=h3 i e0 he0;rw[Xds];refine⟨by simpa using g1,λk a ha=>?_⟩;simp only[List.getElem?_map,Option.map_eq_some_iff] at ha;obtain⟨a0,ha0,rfl⟩:=ha;obtain⟨v,v1,v2,v3⟩:=g2 k a0 ha0;exact⟨v,v1,Xqh v2,v3⟩
theorem X4.denil {P:Program} {nt n0 n:Nat} {Q:Xr->St->Mu->Prop} {cf:Cf} {K:List Kn} {μ:Mu} {L:List (Nat×AV)} {G:List (Nat×Obj)} {y:Obj} (q:Nat) (es':List AV) (hy:hp G q=some y) (he:y.es.map denil=es')
  (h:X4 P nt n0 Q cf K ⟨fr L,hp ((q,{ y with es:=es' })::G),n⟩ μ):X4 P nt n0 Q cf K ⟨fr L,hp G,n⟩ μ:=by
 subst he;have hd:∀ o x',hp ((q,{ y with es:=y.es.map Go.Av.denil })::G) o=some x'->∃ x,hp G o=some x/\x'.esz=x.esz/\x'.solo=x.solo/\x'.spent=x.spent/\x'.es.length=x.es.length/\(x'=x\/(o=q/\x=y/\x'={ y with es:=y.es.map Go.Av.denil })):=by
  intro o x' hx;by_cases ho:o=q
  ·subst ho;rw[show hp ((o,{ y with es:=y.es.map Go.Av.denil })::G) o=some { y with es:=y.es.map Go.Av.denil } by simp[hp,Xbi hy]] at hx;cases hx
   exact⟨y,hy,rfl,rfl,rfl,by simp,.inr ⟨rfl,rfl,rfl⟩⟩
  ·have:hp ((q,{ y with es:=y.es.map Go.Av.denil })::G) o=hp G o:=by
    have hb:Nat.beq o q=false:=by rw[<-Bool.not_eq_true,Nat.beq_eq];exact ho
    simp[hp,hb]
   rw[this] at hx;exact⟨x',hx,rfl,rfl,rfl,rfl,.inl rfl⟩
 refine X4.sub (s':=⟨fr L,hp ((q,{ y with es:=y.es.map Go.Av.denil })::G),n⟩) (λc0 H0 c act μ g hm=>⟨?_,?_⟩) h
 ·refine⟨⟨λo x' hx=>?_,λo o' x1 x2 h1 h2 hne hb=>?_,λo x' hx=>?_,g.inv.lt,g.inv.base,g.inv.own,λo x' hx=>?_⟩,λo x' hx=>?_,g.frame,g.ok,g.size,?_,g.le0⟩
  ·obtain⟨x,hx0,_,_,_,_,hc⟩:=hd o x' hx;obtain⟨i1,i2,i3⟩:=g.inv.obj o x hx0;rcases hc with rfl|⟨rfl,rfl,rfl⟩
   ·exact⟨i1,i2,i3⟩
   ·refine⟨i1,Xnd i2,λe he a ha=>?_⟩;obtain⟨e0,he0,rfl⟩:=List.mem_map.1 he;rw[Xds] at ha;obtain⟨a0,ha0,rfl⟩:=List.mem_map.1 ha;exact Xt7 (i3 e0 he0 a0 ha0)
  ·obtain⟨y1,hy1,e1,s1,p1,l1,_⟩:=hd o x1 h1;obtain⟨y2,hy2,e2,s2,p2,l2,_⟩:=hd o' x2 h2;have:=g.inv.sep o o' y1 y2 hy1 hy2 hne hb;rw[s1,p1,p2,l1,l2,e1,e2];exact this
  ·obtain⟨x,hx0,_⟩:=hd o x' hx;exact g.inv.stab o x hx0
  ·obtain⟨x,hx0,_⟩:=hd o x' hx;exact g.inv.low o x hx0
  ·obtain⟨x,hx0,_,s1,p1,_⟩:=hd o x' hx;rw[s1,p1];exact g.solo o x hx0
  ·have r:=g.reach;exact⟨r.rho,r.os,r.tape,r.output,r.size,r.block,r.stable,r.sa,r.so1,r.so2,r.B,λo x' hx=>by obtain⟨x,hx0,_⟩:=hd o x' hx;exact r.own o x hx0⟩
 ·exact⟨hm.is,λp hp=>by
   obtain⟨a1,a2,a3,a4⟩:=hm.away p hp;exact⟨a1,a2,λo x' hx=>by obtain⟨x,hx0,_⟩:=hd o x' hx;exact a3 o x hx0,a4⟩,hm.nodup,hm.ds⟩
end Go.Av


namespace Go.Av
structure Xoq (c:Ctx) (H:X07) (b:Nat):Prop where
 sa:¬ c.Sa b
 so:¬ c.So b
 ob:∀ o x,H o=some x->(c.ρ o).blk≠b
theorem Xoq.kept {c c':Ctx} {H H':X07} {n b:Nat} (h:Xoq c H b) (hb:b<c.w.heap.size) (r:Reach c H n c' H'):Xoq c' H' b:=by
 refine⟨by rw[r.sa];exact h.sa,λhs=>?_,λo x hx he=>?_⟩
 ·rcases r.so2 _ hs with h1|h1|⟨o,x,h1,h2⟩
  ·exact h.so h1
  ·omega
  ·exact h.ob o x h1 h2
 ·rcases r.own o x hx with h1|⟨o',x',h1,h2⟩
  ·omega
  ·exact h.ob o' x' h1 (h2.trans he)
theorem Reach.weaken {c c':Ctx} {H H':X07} {n n':Nat} (r:Reach c H n c' H') (h:n'<=n):Reach c H n' c' H' :=
 ⟨λo ho=>r.rho o (Nat.lt_of_lt_of_le ho h),r.os,r.tape,r.output,r.size,r.block,r.stable,r.sa,r.so1,r.so2,r.B,r.own⟩
theorem X3b.turn0 {nt n0:Nat} {c0 c:Ctx} {H0:X07} {s:St} {act:Act} {b:Nat} (o:Go.Obj) (g:X3b nt c0 H0 n0 c s act) (h:Xoq c s.H b) :
  X3b nt { c with w:=c.w.putObj b o } s.H n0 { c with w:=c.w.putObj b o } s act/\c.Le (λ_=>True) { c with w:=c.w.putObj b o }:=by
 have hother:∀ k,k≠b->(c.w.putObj b o).heap[k]?=c.w.heap[k]?:=λk hk=>World.putObj_heap_other hk;have hle:c.Le (λ_=>True) { c with w:=c.w.putObj b o } :=
  ⟨λ_ _=>rfl,λ_ h=>h,λ_ h=>h,λk hk=>hother k (λe=>by subst e;exact hk.elim h.sa h.so),rfl⟩
 have all:∀ {a:AV} {M:Nat->Prop},a.Ok M->a.Ok (λ_=>True):=λh=>h.mono λ_ _=>trivial;refine⟨⟨⟨λq x hx=>?_,g.inv.sep,g.inv.stab,λk hk=>?_,?_,g.inv.own,g.inv.low⟩,g.solo,λt=>(g.frame t).mono hle (.inr (all (g.ok t))),g.ok,g.size,.refl _ _ _,g.le0⟩,hle⟩
 ·obtain⟨i1,⟨⟨cur,hb,hs,hc⟩,i3,i4,i5⟩,i6⟩:=g.inv.obj q x hx;refine⟨i1,⟨⟨cur,(hother _ (h.ob q x hx)).trans hb,hs,λi e he=>?_⟩,i3,i4,i5⟩,i6⟩;obtain⟨g1,g2⟩:=hc i e he;exact⟨g1,λk a ha=>by obtain⟨v,hv,hr,h7⟩:=g2 k a ha;exact⟨v,hv,hr.mono hle (.inr (all (i6 e (List.mem_of_getElem? he) a (List.mem_of_getElem? ha)))),h7⟩⟩
 ·show k<(c.w.putObj b o).heap.size;rw[World.putObj_size];exact g.inv.lt k hk
 ·show c.B<=(c.w.putObj b o).heap.size;rw[World.putObj_size];exact g.inv.base
theorem Reach.turnBack {c c1 c2:Ctx} {H H1 H2:X07} {n b:Nat} {o0 o1:Go.Obj} (r1:Reach c H n c1 H1) (r2:Reach { c1 with w:=c1.w.putObj b o1 } H1 n c2 H2) (hb:c.w.heap[b]?=some o0) (h:Xoq c H b) :
  Reach c H n { c2 with w:=c2.w.putObj b o0 } H2:=by
 have hlt:b<c.w.heap.size:=(Array.getElem?_eq_some_iff.1 hb).1;have hs2:c.w.heap.size<=c2.w.heap.size:=by
  have h1:=r1.size;have h2:(c1.w.putObj b o1).heap.size<=c2.w.heap.size:=r2.size;rw[World.putObj_size] at h2;omega
 refine⟨λo ho=>(r2.rho o ho).trans (r1.rho o ho),r2.os.trans r1.os,r2.tape.trans r1.tape,⟨r2.output.1.trans r1.output.1,Nat.le_trans r1.output.2 r2.output.2⟩,?_,λk hk hn=>?_,λk hk=>?_,r2.sa.trans r1.sa,λk hk=>r2.so1 k (r1.so1 k hk),λk hk=>?_,r2.B.trans r1.B,λo x hx=>?_⟩
 ·show c.w.heap.size<=(c2.w.putObj b o0).heap.size;rw[World.putObj_size];exact hs2
 ·show(c2.w.putObj b o0).heap[k]?=_;by_cases e:k=b
  ·subst e;rw[World.putObj_heap_same om];exact hb.symm
  ·rw[World.putObj_heap_other e];have h2:c2.w.heap[k]?=(c1.w.putObj b o1).heap[k]?:=r2.block k (by show k<(c1.w.putObj b o1).heap.size;rw[World.putObj_size];exact Nat.lt_of_lt_of_le hk r1.size) λo x hx he=>by
    rcases r1.own o x hx with h1|⟨o',x',h1,h2⟩
    ·have he':(c1.ρ o).blk=k:=he;omega
    ·exact hn o' x' h1 (h2.trans he)
   rw[h2,World.putObj_heap_other e];exact r1.block k hk hn
 ·show(c2.w.putObj b o0).heap[k]?=_;have e:k≠b:=λe=>by subst e;exact hk.elim h.sa h.so
  rw[World.putObj_heap_other e];have h2:c2.w.heap[k]?=(c1.w.putObj b o1).heap[k]?:=r2.stable k (hk.imp (λx=>by show c1.Sa k;rw[r1.sa];exact x) (r1.so1 k));rw[h2,World.putObj_heap_other e];exact r1.stable k hk
 ·rcases r2.so2 k hk with h1|h1|⟨q,y,h1,h2⟩
  ·exact r1.so2 k h1
  ·right;left
   have h3:(c1.w.putObj b o1).heap.size<=k:=h1;rw[World.putObj_size] at h3;exact Nat.le_trans r1.size h3
  ·have h2':(c1.ρ q).blk=k:=h2;rcases r1.own q y h1 with h3|⟨q',y',h3,h4⟩
   ·exact .inr (.inl om)
   ·exact .inr (.inr ⟨q',y',h3,h4.trans h2'⟩)
 ·rcases r2.own o x hx with h1|⟨q,y,h1,h2⟩
  ·left;have h3:(c1.w.putObj b o1).heap.size<=(c2.ρ o).blk:=h1;rw[World.putObj_size] at h3;exact Nat.le_trans r1.size h3
  ·rcases r1.own q y h1 with h3|⟨q',y',h3,h4⟩
   ·left;have:(c1.ρ q).blk=(c2.ρ o).blk:=h2;show c.w.heap.size<=(c2.ρ o).blk;omega
   ·exact .inr ⟨q',y',h3,h4.trans h2⟩
def Xtu:List Nat->List AV->List (Nat×AV)->List (Nat×AV)
 |p::ps,a::as,L=>Xtu ps as ((p,a)::L)
 |_,_,L=>L
theorem Xor {c:Ctx} {n:Nat}:∀ (ps:List Nat) (as:List AV) (vs:List Value) (L:List (Nat×AV)) (tmps:Array Value),as.length=vs.length->(∀ (i:Nat) a v,as[i]?=some a->vs[i]?=some v->X0l c false a v/\a.Ok (·<n)) ->
  (∀ p∈ps,p<tmps.size)->(∀ t,X0l c false (fr L t) (tmps.getD t undef)/\(fr L t).Ok (·<n)) ->
  (∀ t,X0l c false (fr (Xtu ps as L) t) (((ps.zip vs).foldl (λt (p,v)=>t.setIfInBounds p v) tmps).getD t undef)/\(fr (Xtu ps as L) t).Ok (·<n))/\((ps.zip vs).foldl (λt (p,v)=>t.setIfInBounds p v) tmps).size=tmps.size:=by
 intro ps
 induction ps with
 |nil=>intro as vs L tmps _ _ _ h;cases as<;>exact⟨h,rfl⟩
 |cons p ps ih =>
  intro as vs L tmps hl ha hp h
  cases as with
  |nil =>
   have:vs=[]:=List.eq_nil_of_length_eq_zero (by rw[<-hl];rfl);subst this;exact⟨h,rfl⟩
  |cons a as =>
   cases vs with
   |nil=>simp at hl
   |cons v vs =>
    have h0:=ha 0 a v rfl rfl;obtain⟨k1,k2⟩:=ih as vs ((p,a)::L) (tmps.setIfInBounds p v) (by simpa using hl) (λi a v h1 h2=>ha (i+1) a v (by simpa using h1) (by simpa using h2)) (λq hq=>by simpa using hp q (List.mem_cons_of_mem _ hq)) (λt=>by
     rw[Xfv (hp p List.mem_cons_self)];by_cases ht:t=p
     ·subst ht;rw[if_pos rfl];have:fr ((t,a)::L) t=a:=by simp[fr]
      rw[this];exact h0
     ·rw[if_neg ht];have:fr ((p,a)::L) t=fr L t:=by
       have hb:Nat.beq t p=false:=by rw[<-Bool.not_eq_true,Nat.beq_eq];exact ht
       simp[fr,hb]
      rw[this];exact h t)
    exact⟨k1,by simpa using k2⟩
def Xw9 (P:Program) (nt n:Nat) (body:Code) (RQ:Xr->St->Mu->Prop):Xr->St->Mu->Prop:=λe s μ=>e=.normal/\μ=[]/\X3u P nt n body RQ s []
theorem X4.asg {P:Program} {nt n:Nat} {body:Code} {RQ:Xr->St->Mu->Prop} {s:St} (h:X4 P nt n RQ (.code body) [] s []):X4 P nt n (Xw9 P nt n body RQ) (.exit .normal) [] s [] :=
 Cl.mk ⟨rfl,rfl,X3u.ofCl h⟩
theorem Xk4 {μ:Mu} {b:Nat} {r:Loop} {nt m:Nat} {A:Nat->AV} (h:(b,.loop r nt m A)∈μ):Xgn μ=false:=by
 induction μ with
 |nil=>cases h
 |cons p μ ih =>
  obtain⟨q,x⟩:=p;rcases List.mem_cons.1 h with h|h2
  ·cases h;rfl
  ·cases x with
   |loop=>rfl
   |mark=>exact ih h2
   |map=>exact ih h2
   |blk=>exact ih h2
def Xw1 (P:Program) (nt n0:Nat) (Q:Xr->St->Mu->Prop) (ops:Array Oper) (l:List Oper) (K:List Kn) (L:List (Nat×AV)) (d:Option Nat) (μ:Mu):Xr->St->Mu->Prop :=
 λe s _=>e=.normal/\X4 P nt n0 Q (.ops ops l) K ⟨X9f (fr L) d (.sc (.bool true)),s.H,s.n⟩ μ
theorem X4.rndEnd {P:Program} {nt n0 nt' n1:Nat} {Q:Xr->St->Mu->Prop} {ops:Array Oper} {l:List Oper} {K:List Kn} {L L1:List (Nat×AV)} {d:Option Nat} {μ μ1:Mu} {G:List (Nat×Obj)} {n:Nat}
  (h:X4 P nt n0 Q (.ops ops l) K ⟨fr (Xs3 d (.sc (.bool true)) L),hp G,n⟩ μ):X4 P nt' n1 (Xw1 P nt n0 Q ops l K L d μ) (.exit .normal) [] ⟨fr L1,hp G,n⟩ μ1 :=
 Cl.mk ⟨rfl,by show X4 P nt n0 Q (.ops ops l) K ⟨X9f (fr L) d (.sc (.bool true)),hp G,n⟩ μ;rw[<-X5i];exact h⟩
theorem X4.yield {P:Program} {nt n0 n b ntc m:Nat} {Q:Xr->St->Mu->Prop} {ops:Array Oper} {l:List Oper} {o:Oper} {K:List Kn} {L Lc:List (Nat×AV)} {G:List (Nat×Obj)} {μ:Mu} {x:Operand} {args:Array Operand} {ts:Array Nat} {r:Loop}
  {as:List AV} {qx qa:List Prop} {ps:Array Nat} {assign body:Code} (ho:o.op=.call { callee:=.value x,args:=args,argTypes:=ts }) (hg:o.guard=none) (hd:Xg2 nt o.dst=true)
  (hx:rd L x=(.sc (.func (.yield b) #[] #[]),qx)) (ha:rds L args.toList=(as,qa)) (hqx:X3s qx) (hqa:X3s qa)
  (hμ:(b,.loop r ntc m (fr Lc))∈μ) (h1:r.state=.ready) (h2:r.pending=none) (h3:r.params=ps) (h4:r.assign=assign) (h5:r.body=body)
  (hps:(Nat.beq as.length ps.size&&ps.toList.all λp=>Nat.blt p ntc)=true) (ht:(X4s assign||X4s body)=false)
  (h:X4 P ntc n (Xw9 P ntc n body (Xw1 P nt n0 Q ops l K L o.dst μ)) (.code assign) [] ⟨fr (Xtu ps.toList as Lc),hp G,n⟩ []):X4 P nt n0 Q (.ops ops (o::l)) K ⟨fr L,hp G,n⟩ μ:=by
 subst h3 h4 h5;simp only[Bool.and_eq_true,Nat.beq_eq,List.all_eq_true,Nat.blt_eq] at hps;obtain⟨hp1,hp2⟩:=hps;simp only[Bool.or_eq_false_iff] at ht;intro c0 H0 c act g hm Qx hQ R hR
 cases R with
 |none=>rw[Xk4 hμ] at hR;exact absurd (hR rfl) (by simp)
 |some R =>
 refine X3i λK' hK'=>?_;rw[if_pos (by simp[Region.wanted,hg])];obtain⟨⟨hrec,hsz⟩,hmn,hAok,hA⟩:=hm.is _ hμ;obtain⟨w1,w2,w3,w4⟩:=hm.away _ hμ;have haw:Xoq c (hp G) b:=⟨w1,w2,w3⟩;have hlt:b<c.w.heap.size:=(Array.getElem?_eq_some_iff.1 hrec).1;have ex:act.eval x=.func (.yield b) #[] #[]:=by have:=g.ev x;rw[show evA (St.A ⟨fr L,hp G,n⟩) x=_ from X0j hx hqx] at this;exact this.sc_inv
 have hargs:args.toList.map (evA (fr L))=as:=Xbx ha hqa;have hlen:as.length=args.size:=by rw[<-hargs];simp
 have hy:=run_yield (P:=P) (args:=args.map act.eval) hrec (by rw[Array.size_map,<-hlen];exact hp1);have hrun:(execOp act.eval o).run P c.w=.ok (.round b r.fn ((r.params.zip (args.map act.eval)).foldl (λtmps (t,a)=>tmps.setIfInBounds t a) r.tmps) r.assign r.body) c.w:=by
  simp only[execOp,ho,resolve,ex,Deferred.ofValue,Sem.run_bind,Sem.run_pure,Result.andThen_ok,invoke,Array.empty_append,Array.append_empty];exact hy
 show Oper.wpIn (FR R) 0 P o act c.w K' Qx;refine⟨λ_ _=>trivial,?_⟩;rw[Oper.semAt_eq _ _ _ (λd hd=>by rw[hd] at ho;cases ho),hrun,Oper.uponIn_round];refine⟨λh=>Bool.noConfusion h,roundIn_of_wpIn trivial ?_⟩;have hz:(r.params.zip (args.map act.eval)).foldl (λtmps (t,a)=>tmps.setIfInBounds t a) r.tmps=(r.params.toList.zip (args.toList.map act.eval)).foldl (λt (p,v)=>t.setIfInBounds p v) r.tmps:=by
  rw[<-Array.foldl_toList];simp
 have hzip:=Xor (c:=c) (n:=n) r.params.toList as (args.toList.map act.eval) Lc r.tmps (by rw[<-hargs];simp) (λi a v h1 h2=>by
   rw[<-hargs,List.getElem?_map] at h1;rw[List.getElem?_map] at h2
   cases hq:args.toList[i]? with
   |none=>simp[hq] at h1
   |some q =>
    simp only[hq,Option.map_some,Option.some.injEq] at h1 h2;subst h1 h2;exact⟨g.ev q,g.evOk q⟩) (λp hp=>by rw[hsz];exact hp2 p hp) (λt=>⟨hA t,(hAok t).mono λq hq=>Nat.lt_of_lt_of_le hq (Nat.le_trans hmn g.le0)⟩)
 rw[<-hz] at hzip;have gB:X3b ntc c (hp G) n c ⟨fr (Xtu r.params.toList as Lc),hp G,n⟩ { tmps:=(r.params.zip (args.map act.eval)).foldl (λtmps (t,a)=>tmps.setIfInBounds t a) r.tmps,defers:=[] } :=
  ⟨g.inv,g.solo,λt=>(hzip.1 t).1,λt=>(hzip.1 t).2,hzip.2.trans hsz,.refl _ _ _,Nat.le_refl _⟩
 refine wpIn_mono (X3u.ofCl h c (hp G) c _ gB (.nil rfl) (some b) (λh=>by rw[ht.1] at h;cases h)) ?_;rintro e a1 w' ⟨c1,s1,ae,μ1,rfl,g1,hm1,rfl,rfl,rfl,hbody⟩;have hrec1:c1.w.heap[b]?=some (.loop r):=(g1.reach.block b hlt haw.ob).trans hrec;refine⟨_,run_beginRound hrec1 h1,?_⟩;have aw1:Xoq c1 s1.H b:=haw.kept hlt g1.reach;obtain⟨g1',_⟩:=g1.turn0 (.loop { r with state:=.busy }) aw1;refine wpIn_mono (hbody _ s1.H _ a1 g1' (.nil hm1.ds) (some b) (λh=>by rw[ht.2] at h;cases h)) ?_;rintro e a2 w' ⟨c2,s2,ae,μ2,rfl,g2,hm2,rfl,rfl,hk⟩;have hlt1:b<c1.w.heap.size:=(Array.getElem?_eq_some_iff.1 hrec1).1;have hrec2:c2.w.heap[b]?=some (.loop { r with state:=.busy }) :=
  (g2.reach.block b (by show b<(c1.w.putObj b _).heap.size;rw[World.putObj_size];exact hlt1) aw1.ob).trans (World.putObj_heap_same hlt1)
 have hr:({ r with state:=.ready,pending:=none }:Loop)=r:=by
  obtain⟨st,pe,fn,tm,pa,asg,bd,de⟩:=r;simp only at h1 h2;subst h1 h2;rfl
 have hend:=run_endRound (P:=P) none hrec2;simp only[Option.isNone_none,if_true] at hend;rw[hr] at hend;refine⟨_,_,hend,?_⟩;have aw2:Xoq c2 s2.H b:=(Xoq.mk aw1.sa aw1.so aw1.ob:Xoq { c1 with w:=c1.w.putObj b (.loop { r with state:=.busy }) } s1.H b).kept (by show b<(c1.w.putObj b _).heap.size;rw[World.putObj_size];exact hlt1) g2.reach;obtain⟨g3,_⟩:=g2.turn0 (.loop r) aw2;have rt:Reach c (hp G) n { c2 with w:=c2.w.putObj b (.loop r) } s2.H:=Reach.turnBack g1.reach g2.reach hrec haw;have gf:=g.next (X8k hd) rt.le rt.sa rt.so2 rt.fr rt.own g3.inv g3.solo g3.le0 (a:=.sc (.bool true)) (v:=.bool true) .sc .sc;exact hK' _ _ (hk c0 H0 _ _ gf (hm.kept (rt.weaken g.le0)) Qx hQ (some R) (λh=>by cases h))
def Xe8:Code->List (Array Nat×Code×Code)
 |.loop b=>Xe8 b
 |.seq a b=>Xe8 a++Xe8 b
 |.block _ c=>Xe8 c
 |.scope c=>Xe8 c
 |.cond _ a b=>Xe8 a++Xe8 b
 |.rangeFunc _ ps a b=>(ps,a,b)::(Xe8 a++Xe8 b)
 |_=>[]
def rfB (i:Nat) (c:Code):Array Nat×Code×Code:=((Xe8 c)[i]?).getD (#[],.skip,.skip)
def Xec (slots:List Nat) (L:List (Nat×AV)):List (Nat×AV):=slots.map λt=>(t,fr L t)
theorem Xix (L:List (Nat×AV)):∀ (slots:List Nat) (t:Nat),fr (Xec slots L) t=fr L t\/fr (Xec slots L) t=.junk:=by
 intro slots
 induction slots with
 |nil=>intro t;exact .inr rfl
 |cons q r ih =>
  intro t;show fr ((q,fr L q)::Xec r L) t=_\/fr ((q,fr L q)::Xec r L) t=_;simp only[fr]
  cases hb:Nat.beq t q with
  |true=>rw[Nat.eq_of_beq_eq_true hb];exact .inl rfl
  |false=>exact ih t
theorem X4.keepL {P:Program} {nt n0 n:Nat} {Q:Xr->St->Mu->Prop} {cf:Cf} {K:List Kn} {L:List (Nat×AV)} {G:List (Nat×Obj)} {μ:Mu} (slots:List Nat) (h:X4 P nt n0 Q cf K ⟨fr (Xec slots L),hp G,n⟩ μ):X4 P nt n0 Q cf K ⟨fr L,hp G,n⟩ μ:=by
 refine X4.sub (s':=⟨fr (Xec slots L),hp G,n⟩) (λc0 H0 c act μ g hm=>⟨⟨g.inv,g.solo,λt=>?_,λt=>?_,g.size,g.reach,g.le0⟩,hm⟩) h
 ·rcases Xix L slots t with h|h
  ·show X0l c false (fr (Xec slots L) t) _;rw[h];exact g.frame t
  ·show X0l c false (fr (Xec slots L) t) _;rw[h];exact .junk
 ·rcases Xix L slots t with h|h
  ·show(fr (Xec slots L) t).Ok _;rw[h];exact g.ok t
  ·show(fr (Xec slots L) t).Ok _;rw[h];exact .junk
def rfQ (P:Program) (nt n0:Nat) (Q:Xr->St->Mu->Prop) (K:List Kn) (L:List (Nat×AV)) (μ:Mu) (D:Nat) (μi:Mu):Xr->St->Mu->Prop :=
 λe s μ'=>(∀ id,e≠.exit id)/\μ'=μi/\X4 P nt n0 Q (.exit .normal) K ⟨fr L,s.H,s.n⟩ ((D,.mark)::μ)
theorem X4.rfEnd {P:Program} {nt n0 nt' n1:Nat} {Q:Xr->St->Mu->Prop} {K:List Kn} {L L1:List (Nat×AV)} {μ μi:Mu} {D:Nat} {G:List (Nat×Obj)} {n:Nat} {e:Xr} (he:∀ id,e≠.exit id)
  (h:X4 P nt n0 Q (.exit .normal) K ⟨fr L,hp G,n⟩ ((D,.mark)::μ)):X4 P nt' n1 (rfQ P nt n0 Q K L μ D μi) (.exit e) [] ⟨fr L1,hp G,n⟩ μi :=
 Cl.mk ⟨he,rfl,h⟩
theorem X3b.alloc {nt n0:Nat} {c0 c:Ctx} {H0:X07} {s:St} {act:Act} (o:Go.Obj) (g:X3b nt c0 H0 n0 c s act):X3b nt c0 H0 n0 { c with w:=c.w.alloc o } s act:=by
 obtain⟨h1,h2,h3⟩:=g.inv.waste (w':=c.w.alloc o) o rfl rfl rfl ⟨rfl,Nat.le_refl _⟩;have:=g.next (c':={ c with w:=c.w.alloc o }) (dst:=none) (a:=.sc undef) (v:=undef) (λd h=>by cases h) h1 rfl (λb hb=>.inl hb) h3 (λq x hx=>.inr ⟨q,x,hx,rfl⟩) h2 g.solo (Nat.le_refl _) .sc .sc;exact this
theorem X4.rangeFunc {P:Program} {nt n0 n gf nti:Nat} {Q:Xr->St->Mu->Prop} {K:List Kn} {L:List (Nat×AV)} {G:List (Nat×Obj)} {μ:Mu} {g:Operand} {ps:Array Nat} {assign body codeI:Code} {fnI:Func} {caps:List AV} {q:List Prop}
  (hg:rd L g=(.fn gf caps,q)) (hq:X3s q) (hfn:X22 P gf fnI codeI) (hnt:fnI.ntmps=nti) (hle:Nat.ble (caps.length+1) nti=true) (hres:fnI.results=#[])
  (h:∀ (b D:Nat) (r:Loop),r.state=.ready->r.pending=none->r.params=ps->r.assign=assign->r.body=body ->
   X4 P nti n (rfQ P nt n0 Q K L μ D [(b,.loop r nt n (fr L)),(D,.blk (.deferred (some [])))]) (.code codeI) [] ⟨fr (argL 0 (.sc (.func (.yield b) #[] #[])::caps)),hp G,n⟩ [(b,.loop r nt n (fr L)),(D,.blk (.deferred (some [])))]) :
  X4 P nt n0 Q (.code (.rangeFunc g ps assign body)) K ⟨fr L,hp G,n⟩ μ:=by
 intro c0 H0 c act gd hm R hR;obtain rfl:=hR rfl;have hv:=gd.ev g;rw[show evA (St.A ⟨fr L,hp G,n⟩) g=_ from X0j hg hq] at hv;have hvo:=gd.evOk g;rw[show evA (St.A ⟨fr L,hp G,n⟩) g=_ from X0j hg hq] at hvo;obtain⟨cv,hcv,hcl,hcr⟩:=hv.fn_inv;refine wpIn_rangeFunc ?_;intro fn _;let D:=c.w.heap.size
 let b:=c.w.heap.size+1
 let rec0:Loop:={ state:=.ready,pending:=none,fn,tmps:=act.tmps,params:=ps,assign,body,defers:=c.w.heap.size }
 let W1:World:=(c.w.alloc (.deferred (some []))).alloc (.loop rec0)
 let c1:Ctx:={ c with w:=W1 }
 have hL1:W1.heap[b]?=some (.loop rec0):=by
  have:=World.alloc_heap_new (c.w.alloc (.deferred (some []))) (.loop rec0);rwa [World.size_alloc] at this
 have hK1:W1.heap[D]?=some (.deferred (some [])):=(RowKit.Below.heap_alloc _ _ _ (by simp[D])).trans (World.alloc_heap_new c.w _);have hs1:W1.heap.size=c.w.heap.size+2:=by simp[W1]
 have g1:X3b nt c (hp G) n0 c1 ⟨fr L,hp G,n⟩ act:=(gd.rebase.alloc (.deferred (some []))).alloc (.loop rec0);have hold:∀ k,k<c.w.heap.size->W1.heap[k]?=c.w.heap[k]?:=λk hk=>(RowKit.Below.heap_alloc _ _ _ (by simp;omega)).trans (RowKit.Below.heap_alloc _ _ _ hk);have r1:Reach c (hp G) n c1 (hp G):=⟨λ_ _=>rfl,rfl,rfl,⟨rfl,Nat.le_refl _⟩,by show c.w.heap.size<=W1.heap.size;omega,λk hk _=>hold k hk,λk hk=>hold k (gd.inv.lt k hk),rfl,λ_ h=>h,λ_ h=>.inl h,rfl,λo x hx=>.inr ⟨o,x,hx,rfl⟩⟩;have hob:∀ o x,hp G o=some x->(c.ρ o).blk<c.w.heap.size:=λo x hx=>by
  obtain⟨_,⟨⟨cur,hcb,_⟩,_⟩,_⟩:=gd.inv.obj o x hx;exact(Array.getElem?_eq_some_iff.1 hcb).1
 let vs:Array Value:=#[.func (.yield b) #[] #[]]++cv
 have hvs:vs.size=caps.length+1:=by simp[vs,<-hcl];omega
 have gI:X3b nti c (hp G) n c1 ⟨fr (argL 0 (.sc (.func (.yield b) #[] #[])::caps)),hp G,n⟩ { tmps:=vs++Array.replicate (fnI.ntmps - vs.size) undef,defers:=[] }:=by
  have hrel:Xdv c1 false (.sc (.func (.yield b) #[] #[])::caps) vs:=by
   refine⟨by rw[hvs];simp,λi a v ha hv=>?_⟩
   cases i with
   |zero =>
    have hv':vs[0]?=some (.func (.yield b) #[] #[]):=by simp only[vs];rw[Array.getElem?_append_left (by simp)];rfl
    rw[hv'] at hv;simp only[List.getElem?_cons_zero,Option.some.injEq] at ha hv;subst ha hv;exact .sc
   |succ i =>
    have hv':cv[i]?=some v:=by
     simp only[vs] at hv;rw[Array.getElem?_append_right (by simp)] at hv;simpa using hv
    simp only[List.getElem?_cons_succ] at ha;refine(hcr i a v ha hv').mono r1.le (.inr ?_)
    cases hvo with|fn hvo=>exact hvo a (List.mem_of_getElem? ha)
  have hok:∀ a∈(.sc (.func (.yield b) #[] #[])::caps:List AV),a.Ok (·<n):=by
   intro a ha;rcases List.mem_cons.1 ha with rfl|ha
   ·exact .sc
   ·cases hvo with|fn hvo=>exact hvo a ha
  have:X3b nti c (hp G) n c1 ⟨Xop (.sc (.func (.yield b) #[] #[])::caps),hp G,n⟩ { tmps:=vs++Array.replicate (fnI.ntmps - vs.size) undef,defers:=[] } :=
   ⟨g1.inv,g1.solo,λt=>Xbl hrel _ t,λt=>Xii hok t,by have:=Nat.le_of_ble_eq_true hle;simp only[Array.size_append,Array.size_replicate];omega,r1,Nat.le_refl _⟩
  exact this.argL
 have mI:MOk n c c1 (hp G) [(b,.loop rec0 nt n (fr L)),(D,.blk (.deferred (some [])))] { tmps:=vs++Array.replicate (fnI.ntmps - vs.size) undef,defers:=[] }:=by
  refine⟨λp hp=>?_,λp hp=>?_,by simp[b,D],rfl⟩
  ·simp only[List.mem_cons,List.not_mem_nil,or_false] at hp;rcases hp with rfl|rfl
   ·exact⟨⟨hL1,gd.size⟩,Nat.le_refl _,λt=>gd.ok t,λt=>g1.frame t⟩
   ·exact hK1
  ·simp only[List.mem_cons,List.not_mem_nil,or_false] at hp;have key:∀ k,c.w.heap.size<=k->¬ c1.Sa k/\¬ c1.So k/\(∀ o x,Av.hp G o=some x->(c1.ρ o).blk≠k)/\c.w.heap.size<=k:=λk hk =>
    ⟨λhs=>by have:=gd.inv.lt k (.inl hs);omega,λhs=>by have:=gd.inv.lt k (.inr hs);omega,λo x hx e=>by have h1:=hob o x hx;have h2:(c.ρ o).blk=k:=e;omega,hk⟩
   rcases hp with rfl|rfl
   ·exact key b (by simp[b])
   ·exact key D (Nat.le_refl _)
 refine⟨b,[{ target:=.collected D,args:=#[] }],W1,{ target:=.fn (.func gf) cv,args:=#[.func (.yield b) #[] #[]] },W1,gf,vs,W1,run_enterLoop_outer _ _ _ _ _,?_,λ_ _=>trivial,?_,λh=>Bool.noConfusion h,?_⟩
 ·simp only[resolve,hcv];simp[go_sem]
 ·simp only[invoke,callFunc,Sem.run_bind,run_program,Result.andThen_ok,hfn.here,hfn.name,hfn.body,Option.isNone_some,Bool.false_eq_true,if_false];rfl
 refine callsIn_of_wp hfn.here hfn.body trivial ?_ rfl;refine wpIn_mono (X3u.ofCl (h b D rec0 rfl rfl rfl rfl rfl) c (hp G) c1 _ gI mI none .none) ?_;rintro e a w' ⟨c2,s2,ae,μ2,rfl,g2,hm2,rfl,hne,rfl,hk⟩;have hds:a.defers=[]:=hm2.ds;have fin:a.defers=[]/\∃ v,(results fnI a.tmps).run P c2.w=.ok v c2.w/\rangePost (FR none) 0 P b (MQ nt c0 H0 n0 (Xac P nt n0 Q K)) { act with defers:=[{ target:=.collected D,args:=#[] }]++act.defers } (.returned v) c2.w:=by
  obtain⟨⟨hrec,_⟩,_⟩:=hm2.is (b,.loop rec0 nt n (fr L)) (by simp);have hDk:c2.w.heap[D]?=some (.deferred (some [])):=hm2.is (D,.blk (.deferred (some []))) (by simp);obtain⟨x1,x2,x3,x4⟩:=hm2.away (b,.loop rec0 nt n (fr L)) (by simp);obtain⟨y1,y2,y3,y4⟩:=hm2.away (D,.blk (.deferred (some []))) (by simp);obtain⟨g3,hle3⟩:=g2.turn (.loop { rec0 with state:=.exhausted }) x1 x2 x3 x4;refine⟨hds,.tuple #[],by simp[results,hres,go_sem],?_⟩;refine⟨none,_,run_endLoop hrec (by simp[rec0]),?_⟩;have rt:=g3.reach;have gc:=gd.next (dst:=none) (a:=.sc undef) (v:=undef) (λd h=>by cases h) rt.le rt.sa rt.so2 rt.fr rt.own g3.inv g3.solo g3.le0 .sc .sc;have gc2:X3b nt c0 H0 n0 { c2 with w:=c2.w.putObj b (.loop { rec0 with state:=.exhausted }) } ⟨fr L,s2.H,s2.n⟩ { act with defers:=[{ target:=.collected D,args:=#[] }]++act.defers } :=
   ⟨gc.inv,gc.solo,gc.frame,gc.ok,gc.size,gc.reach,gc.le0⟩
  have hmk:=hm.kept (rt.weaken gd.le0) (act':=act) rfl;refine⟨_,⟨fr L,s2.H,s2.n⟩,.normal,(D,.mark)::μ,rfl,gc2,⟨λp hp=>?_,λp hp=>?_,?_,?_⟩,rfl,hk⟩
  ·rcases List.mem_cons.1 hp with rfl|hp
   ·exact(World.putObj_heap_other (by simp[b,D])).trans hDk
   ·exact hmk.is p hp
  ·rcases List.mem_cons.1 hp with rfl|hp
   ·exact⟨y1,y2,y3,Nat.le_trans gd.reach.size y4⟩
   ·exact hmk.away p hp
  ·refine List.nodup_cons.2 ⟨λhmem=>?_,hm.nodup⟩;obtain⟨p,hp,he⟩:=List.mem_map.1 hmem;have:=(hm.is p hp).lt;simp only[D] at he;omega
  ·show[_]++act.defers=_::Xt5 μ;rw[hm.ds];rfl
 cases ae with
 |exit id=>exact(hne id rfl).elim
 |normal=>exact fin
 |ret=>exact fin
end Go.Av


namespace Go.Av
def Xv8 (nt n0:Nat) (s s':St):Prop:=∀ (c0:Ctx) (H0:X07) (c:Ctx) (act:Act) (μ:Mu),X3b nt c0 H0 n0 c s act->MOk n0 c0 c s.H μ act->∃ c',c'.w=c.w/\X3b nt c0 H0 n0 c' s' act/\MOk n0 c0 c' s'.H μ act
section
variable {P:Program} {nt n0:Nat} {s s':St} {Q:Xr->St->Mu->Prop} {μ:Mu}
theorem Xv8.loop (hw:Xv8 nt n0 s s') {b:Code} (h:X69 P nt n0 b Q s' μ):X69 P nt n0 b Q s μ:=by
 intro c0 H0 c act g hm R hR;obtain⟨c',hc,g',hm'⟩:=hw c0 H0 c act μ g hm;have:=h c0 H0 c' act g' hm' R hR
 rwa [hc] at this
theorem Xv8.semM (hw:Xv8 nt n0 s s') {c:Code} (h:X3u P nt n0 c Q s' μ):X3u P nt n0 c Q s μ:=by
 intro c0 H0 c act g hm R hR;obtain⟨c',hc,g',hm'⟩:=hw c0 H0 c act μ g hm;have:=h c0 H0 c' act g' hm' R hR
 rwa [hc] at this
end
end Go.Av
