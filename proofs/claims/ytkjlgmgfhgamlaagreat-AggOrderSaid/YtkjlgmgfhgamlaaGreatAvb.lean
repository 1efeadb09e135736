/- Parts of the proof, laid together. -/
import Derived.Test.YtkjlgmgfhgamlaaGreatAva
import Derived.RangeFuncLeaves
import Derived.IntWalk
import Derived.MapKept
set_option linter.all false

namespace Go.Av
theorem Xq3 {V:Type} {f:Nat->V->V} {i:Nat}:∀ (n:Nat) (v:V),i<=n->X1e f (λk=>Nat.blt k i) n v=X1e f (λ_=>true) i v:=by
  intro n
  induction n with
  | zero => intro v h; have : i = 0 := by omega
            subst this;rfl
  |succ n ih =>
    intro v h;by_cases hi:i=n+1
    · subst hi
      refine X51 _ v λk hk=>.inr ?_;simpa using hk
    · have:Nat.blt n i=false:=by rw[<-Bool.not_eq_true];simp;omega
      simp only[X1e,this,cond_false];exact ih v om
def gA (l:List Oper) (rs:List (AV×X3x)) (t:Nat) (k:Nat) (v:AV):AV :=
 match l[k]?,rs[k]? with
 |some o,some r=>if o.dst=some t then r.1 else v
 |_,_=>v
def gH (base:Nat) (rs:List (AV×X3x)) (o:Nat) (k:Nat) (u:Option Obj):Option Obj :=
 match rs[k]? with
 |some r=>(r.2.at (base+k) o).getD u
 |none=>u
theorem Xgw (l:List Oper) (rs:List (AV×X3x)) (S:Nat->Bool) (A0:Nat->AV) (t:Nat):∀ n,X1e (X6d l rs) S n A0 t=X1e (gA l rs t) S n (A0 t):=by
 intro n
 induction n with
 |zero=>rfl
 |succ n ih =>
  simp only[X1e]
  cases S n with
  |false=>simpa using ih
  |true =>
   simp only[cond_true];rw[<-ih];unfold X6d gA
   cases l[n]? with
   |none=>rfl
   |some o =>
    cases rs[n]? with
    |none=>rfl
    |some r =>
     simp only[]
     cases hd:o.dst with
     |none=>simp[Xcl]
     |some d =>
      simp only[Xcl,Option.some.injEq];by_cases h:t=d
      ·subst h;rw[Xh,if_pos rfl]
      ·rw[Xj _ _ h,if_neg (λe=>h e.symm)]
theorem Xds (base:Nat) (rs:List (AV×X3x)) (S:Nat->Bool) (H0:X0j) (o:Nat):∀ n,X1e (X6g base rs) S n H0 o=X1e (gH base rs o) S n (H0 o):=by
 intro n
 induction n with
 |zero=>rfl
 |succ n ih =>
  simp only[X1e]
  cases S n with
  |false=>simpa using ih
  |true =>
   simp only[cond_true];rw[<-ih];unfold X6g gH
   cases rs[n]? with
   |none=>rfl
   |some r=>rfl
def X5m:Nat->List Oper->Bool
 |i,o::l=>(X83 o).all (λj=>Nat.blt j i)&&X5m (i+1) l
 |_,[]=>true
theorem X6a:∀ (l:List Oper) (i0:Nat),X5m i0 l=true->∀ (i:Nat) o,l[i]?=some o->∀ j∈X83 o,j<i0+i:=by
 intro l
 induction l with
 |nil=>intro i0 h i o ho;simp at ho
 |cons a l ih =>
  intro i0 h i o ho j hj;simp only[X5m,Bool.and_eq_true] at h
  cases i with
  |zero =>
   simp at ho;subst ho;simpa using List.all_eq_true.1 h.1 j hj
  |succ i =>
   have:=ih (i0+1) h.2 i o (by simpa using ho) j hj;omega
section
variable {hz:Oper->Nat->Bool} {P:Program} {T:Ty} {nt n0 base:Nat} {ops:Array Oper} {A0:Nat->AV} {H0:X0j} {rs:List (AV×X3x)}
structure Down (l:List Oper) (S:Nat->Bool):Prop where
 lt:∀ k,S k=true->k<l.length
 pre:∀ (k:Nat),S k=true->∀ q,((X18 l).getD k 0).testBit q=true->S q=true
theorem X019 (hall:DAll hz P T nt base ops (X18 ops.toList) A0 H0 rs) {S:Nat->Bool} (hS:Down ops.toList S) {i:Nat} (hi:i<ops.toList.length) (hn:S i=false)
  (hr:∀ q,((X18 ops.toList).getD i 0).testBit q=true->S q=true) {t:Nat} (ht:Xnz t (X5q i ((X18 ops.toList).getD i 0) 0 ops.toList (X18 ops.toList))=false) :
  X1e (X6d ops.toList rs) (λ_=>true) i A0 t=X1e (X6d ops.toList rs) S ops.toList.length A0 t:=by
 rw[Xgw,Xgw,<-Xq3 ops.toList.length _ om];refine X51 _ _ λk hk=>?_;have ho:=List.getElem?_eq_getElem hk;have hml:k<(X18 ops.toList).length:=by rw[(Xe2 _).len];exact hk
 by_cases hd:(ops.toList[k]).dst=some t
 ·right;have hnot:t ∉ X5q i ((X18 ops.toList).getD i 0) 0 ops.toList (X18 ops.toList):=λh=>by rw[Xh0.2 h] at ht;cases ht
  have hmk:(X18 ops.toList)[k]?=some ((X18 ops.toList).getD k 0):=by simp[List.getD,hml]
  by_cases hki:k=i
  ·subst hki;rw[hn];exact(show Nat.blt k k=false by rw[<-Bool.not_eq_true,Nat.blt_eq];omega)
  ·by_cases hlt:k<i
   ·have hb:Nat.blt k i=true:=by simpa using hlt
    rw[hb]
    cases hq:Nat.testBit ((X18 ops.toList).getD i 0) k with
    |true=>exact(hr k hq).symm
    |false =>
     exact absurd (Xp7 (i:=i) (mi:=(X18 ops.toList).getD i 0) _ _ 0 k _ _ t ho hmk hd om (λ_=>by simpa using hq) (λh=>by omega)) hnot
   ·have hb:Nat.blt k i=false:=by rw[<-Bool.not_eq_true];simpa using hlt
    rw[hb]
    cases hq:Nat.testBit ((X18 ops.toList).getD k 0) i with
    |true =>
     cases hs:S k with
     |false=>rfl
     |true=>have:=hS.pre k hs i hq;rw[hn] at this;cases this
    |false =>
     exact absurd (Xp7 (i:=i) (mi:=(X18 ops.toList).getD i 0) _ _ 0 k _ _ t ho hmk hd om (λh=>by omega) (λ_=>hq)) hnot
 ·left;intro u;unfold gA;rw[ho]
  cases rs[k]? with
  |none=>rfl
  |some r=>simp only[if_neg hd]
theorem Xjo (hall:DAll hz P T nt base ops (X18 ops.toList) A0 H0 rs) {k i o:Nat} {r ri:AV×X3x} (hr:rs[k]?=some r) (hri:rs[i]?=some ri) (hik:i<k) (ho:o∈r.2.objs (base+k)) :
  Nat.testBit ((X18 ops.toList).getD k 0) i=true \/
   (Xc7 base ((X18 ops.toList).getD i 0) ((ops.toList[i]?).elim (λ_=>false) hz) ((rs.take i).map (·.2)) o=true/\o ∉ ri.2.objs (base+i)):=by
 have hk:k<rs.length:=(List.getElem?_eq_some_iff.1 hr).1;have hkl:k<ops.toList.length:=by rw[<-hall.len];exact hk
 obtain⟨_,_,hw⟩:=hall.one k _ r (List.getElem?_eq_getElem hkl) hr;have hml:(X18 ops.toList).length=ops.toList.length:=(Xe2 _).len;have hil:i<ops.toList.length:=by omega
 have:=Xlr _ 0 _ [] hw (by simp[hml,hall.len]) i ri.2 ((X18 ops.toList).getD i 0,hz (ops.toList[i])) ?_ ?_
 ·simp only[Nat.zero_add,List.nil_append] at this;refine this.imp id λh=>?_;have:=h o ho;rw[<-List.map_take,List.take_take,Nat.min_eq_left om] at this;rw[List.getElem?_eq_getElem hil];exact this
 ·rw[List.getElem?_map,List.getElem?_take,if_pos hik,hri];rfl
 ·rw[List.getElem?_take,if_pos hik,List.getElem?_zip_eq_some];refine⟨?_,?_⟩
  ·have:i<(X18 ops.toList).length:=by omega
   simp only[List.getD,List.getElem?_eq_getElem this,Option.getD_some]
  ·rw[List.getElem?_map,List.getElem?_eq_getElem hil];rfl
theorem X018 (hall:DAll hz P T nt base ops (X18 ops.toList) A0 H0 rs) {S:Nat->Bool} (hS:Down ops.toList S) {i:Nat} (hi:i<ops.toList.length) (hn:S i=false)
  (hr:∀ q,((X18 ops.toList).getD i 0).testBit q=true->S q=true) {o:Nat}
  (ht:Xc7 base ((X18 ops.toList).getD i 0) (hz (ops.toList[i])) ((rs.take i).map (·.2)) o=false) :
  X1e (X6g base rs) (λ_=>true) i H0 o=X1e (X6g base rs) S ops.toList.length H0 o:=by
 rw[Xds,Xds,<-Xq3 ops.toList.length _ om];refine X51 _ _ λk hk=>?_;have hkr:k<rs.length:=by rw[hall.len];exact hk
 have hir:i<rs.length:=by rw[hall.len];exact hi
 have hrk:=List.getElem?_eq_getElem hkr;by_cases hd:o∈(rs[k]).2.objs (base+k)
 ·right;by_cases hki:k=i
  ·subst hki;rw[hn];exact(show Nat.blt k k=false by rw[<-Bool.not_eq_true,Nat.blt_eq];omega)
  ·by_cases hlt:k<i
   ·have hb:Nat.blt k i=true:=by simpa using hlt
    rw[hb];simp only[Xc7,Bool.or_eq_false_iff] at ht;have:=Xjg _ 0 k (rs[k]).2 (by rw[List.getElem?_map,List.getElem?_take,if_pos hlt,hrk];rfl) ht.2 (by simpa using hd);exact(hr k (by simpa using this)).symm
   ·have hb:Nat.blt k i=false:=by rw[<-Bool.not_eq_true];simpa using hlt
    rw[hb];rcases Xjo hall hrk (List.getElem?_eq_getElem hir) om hd with h|h
    ·cases hs:S k with
     |false=>rfl
     |true=>have:=hS.pre k hs i h;rw[hn] at this;cases this
    ·rw[List.getElem?_eq_getElem hi] at h;have h1:Xc7 base ((X18 ops.toList).getD i 0) (hz (ops.toList[i])) ((rs.take i).map (·.2)) o=true:=h.1;rw[ht] at h1;cases h1
 ·left;intro u;unfold gH;rw[hrk];simp only[X3x.at_objs hd,Option.getD_none]
theorem Xwz (hall:DAll hz P T nt base ops (X18 ops.toList) A0 H0 rs) {S:Nat->Bool} (hS:Down ops.toList S) {i:Nat} (hi:i<ops.toList.length) (hn:S i=false)
  {r:AV×X3x} (hri:rs[i]?=some r) (hdst:Xbh nt (X5q i ((X18 ops.toList).getD i 0) 0 ops.toList (X18 ops.toList)) (ops.toList[i]).dst=true) :
  X1e (X6d ops.toList rs) (λk=>S k||Nat.beq k i) ops.toList.length A0=Xcl (X1e (X6d ops.toList rs) S ops.toList.length A0) (ops.toList[i]).dst r.1:=by
 funext t
 rw[Xgw];have hoi:=List.getElem?_eq_getElem hi;by_cases hd:(ops.toList[i]).dst=some t
 ·rw[Xg1 hn _ _ hi]
  ·rw[hd];simp only[Xcl,Xh];unfold gA;rw[hoi,hri];simp only[if_pos hd]
  ·intro k hk hs;by_cases hki:k<i
   ·exact .inr hki
   ·left;intro u;have hne:k≠i:=λh=>by subst h;rw[hn] at hs;cases hs
    have hok:=List.getElem?_eq_getElem hk;have hml:k<(X18 ops.toList).length:=by rw[(Xe2 _).len];exact hk
    have hmk:(X18 ops.toList)[k]?=some ((X18 ops.toList).getD k 0):=by simp[List.getD,hml]
    have hdk:(ops.toList[k]).dst≠some t:=by
     intro hdk;rw[hd] at hdst;simp only[Xbh,Bool.and_eq_true,Bool.not_eq_true'] at hdst;have hnot:t ∉ X5q i ((X18 ops.toList).getD i 0) 0 ops.toList (X18 ops.toList):=λh=>by rw[Xh0.2 h] at hdst;cases hdst.2
     cases hq:Nat.testBit ((X18 ops.toList).getD k 0) i with
     |true=>have:=hS.pre k hs i hq;rw[hn] at this;cases this
     |false=>exact hnot (Xp7 (i:=i) (mi:=(X18 ops.toList).getD i 0) _ _ 0 k _ _ t hok hmk hdk om (λh=>by omega) (λ_=>hq))
    unfold gA;rw[hok]
    cases rs[k]? with
    |none=>rfl
    |some r=>simp only[if_neg hdk]
 ·have:Xcl (X1e (X6d ops.toList rs) S ops.toList.length A0) (ops.toList[i]).dst r.1 t=X1e (X6d ops.toList rs) S ops.toList.length A0 t:=by
   cases h:(ops.toList[i]).dst with
   |none=>rfl
   |some d=>simp only[Xcl];exact Xj _ _ (λe=>hd (by rw[h,e]))
  rw[this,Xgw];refine X51 _ _ λk hk=>?_;by_cases hki:k=i
  ·subst hki;left;intro u;unfold gA;rw[hoi,hri];simp only[if_neg hd]
  ·right;have:Nat.beq k i=false:=by rw[<-Bool.not_eq_true,Nat.beq_eq];exact hki
   simp[this]
theorem Xwy (hall:DAll hz P T nt base ops (X18 ops.toList) A0 H0 rs) {S:Nat->Bool} (hS:Down ops.toList S) {i:Nat} (hi:i<ops.toList.length) (hn:S i=false)
  {r:AV×X3x} (hri:rs[i]?=some r) :
  X1e (X6g base rs) (λk=>S k||Nat.beq k i) ops.toList.length H0=r.2.go (base+i) (X1e (X6g base rs) S ops.toList.length H0):=by
 funext o
 rw[Xds];by_cases hd:o∈r.2.objs (base+i)
 ·rw[Xg1 hn _ _ hi]
  ·unfold gH;rw[hri];simp only[X3x.go];rw[Xds];rfl
  ·intro k hk hs;by_cases hki:k<i
   ·exact .inr hki
   ·left;intro u;have hne:k≠i:=λh=>by subst h;rw[hn] at hs;cases hs
    have hkr:k<rs.length:=by rw[hall.len];exact hk
    have hrk:=List.getElem?_eq_getElem hkr;have hdk:o ∉ (rs[k]).2.objs (base+k):=by
     intro hdk;rcases Xjo hall hrk hri om hdk with h|h
     ·have:=hS.pre k hs i h;rw[hn] at this;cases this
     ·exact h.2 hd
    unfold gH;rw[hrk];simp only[X3x.at_objs hdk,Option.getD_none]
 ·have:r.2.go (base+i) (X1e (X6g base rs) S ops.toList.length H0) o=X1e (X6g base rs) S ops.toList.length H0 o:=by
   simp only[X3x.go,X3x.at_objs hd,Option.getD_none]
  rw[this,Xds];refine X51 _ _ λk hk=>?_;by_cases hki:k=i
  ·subst hki;left;intro u;unfold gH;rw[hri];simp only[X3x.at_objs hd,Option.getD_none]
  ·right;have:Nat.beq k i=false:=by rw[<-Bool.not_eq_true,Nat.beq_eq];exact hki
   simp[this]
theorem Xvj {c0 c:Ctx} {H0 H:X0j} {A:Nat->AV} {M:Nat->Prop} {act:Act} (g:Xbe nt c0 H0 n0 c A H M act) {j t:Nat} {b:Bool} (hj:(ops[j]?).bind (·.dst)=some t) (ht:t<nt)
  (hb:Xax (A t)=.sc (.bool b)):yielded ops act.tmps j=some b:=by
 have h1:=g.ev (.tmp t);simp only[evA,hb] at h1;have h2:=h1.sc_inv;simp only[Act.eval] at h2;have hlt:t<act.tmps.size:=by rw[g.size];exact ht
 unfold yielded;rw[hj];simp only[Option.bind_some,Array.getElem?_eq_getElem hlt];have:act.tmps[t]=.bool b:=by simpa[hlt] using h2
 rw[this]
def AtS (base:Nat) (S:Nat->Bool) (q:Nat):Prop:=q<base\/∃ k,S k=true/\q=base+k
theorem X1n {md:Region.Mode} {listed:Array Bool} {i:Nat}:i∈Region.ready md ops listed ↔
  i<ops.size/\listed.getD i true=false/\((ops[i]?).map (·.after.all λe=>!Region.binds md e||listed.getD e.on false)).getD false=true:=by
 simp[Region.ready]
theorem Xsz {c0 c:Ctx} {H0 H:X0j} {A:Nat->AV} {M:Nat->Prop} {act:Act} (g:Xbe nt c0 H0 n0 c A H M act) {o:Oper} {j t:Nat} {want:Bool} {v:Value} (hg:o.guard=some (j,want)) (hj:(ops[j]?).bind (·.dst)=some t) (ht:t<nt)
  (hb:Xax (A t)=.sc v) (hv:Xmz want v=false):Region.wanted o (yielded ops act.tmps)=false:=by
 have h1:=g.ev (.tmp t);simp only[evA,hb] at h1;have h2:=h1.sc_inv;simp only[Act.eval] at h2;have hlt:t<act.tmps.size:=by rw[g.size];exact ht
 have h3:act.tmps[t]=v:=by simpa[hlt] using h2
 unfold Region.wanted yielded;rw[hg];simp only[hj,Option.bind_some,Array.getElem?_eq_getElem hlt,h3];cases v<;>first|rfl|(simp only[Xmz] at hv;simpa using hv)
theorem Xne {o:Oper} {ys:Nat->Option Bool} (h:o.guard=none):Region.wanted o ys=true:=by simp[Region.wanted,h]
theorem Xnd {o:Oper} {ys:Nat->Option Bool} {j:Nat} {want b:Bool} (h:o.guard=some (j,want)) (hy:ys j=some b):Region.wanted o ys=(b==want):=by
 simp[Region.wanted,h,hy]
theorem Xle (hT:Xat P T) (hpre:X5m 0 ops.toList=true) (hall:DAll hz P T nt base ops (X18 ops.toList) A0 H0 rs) {Q:Xx->St->Prop}
  (hQ:Q .normal ⟨X1e (X6d ops.toList rs) (λ_=>true) ops.toList.length A0,X1e (X6g base rs) (λ_=>true) ops.toList.length H0,base+ops.toList.length⟩)
  {c0:Ctx} {HH:X0j} {ds:List Deferred} (hb0:n0<=base) :
  ∀ (fuel:Nat) (listed:Array Bool) (L:List Nat) (c:Ctx) (act:Act),listed.size=ops.size->L.length<=fuel->(∀ k,k<ops.size->listed.getD k false=false->k∈L) ->
   (∀ (i:Nat) o,ops.toList[i]?=some o->listed.getD i false=true->∀ j∈X83 o,listed.getD j false=true) ->
   Xbe nt c0 HH n0 c (X1e (X6d ops.toList rs) (λk=>listed.getD k false) ops.toList.length A0) (X1e (X6g base rs) (λk=>listed.getD k false) ops.toList.length H0)
    (AtS base (λk=>listed.getD k false)) act ->
   act.defers=ds->wpAny P .any ops (CQ nt c0 HH n0 ds Q) fuel listed act c.w:=by
 have hlen:ops.toList.length=ops.size:=Array.length_toList;have fin:∀ (listed:Array Bool) (c:Ctx) (act:Act),listed.size=ops.size->(∀ (i:Nat) o,ops.toList[i]?=some o->listed.getD i false=true->∀ j∈X83 o,listed.getD j false=true) ->
   Xbe nt c0 HH n0 c (X1e (X6d ops.toList rs) (λk=>listed.getD k false) ops.toList.length A0) (X1e (X6g base rs) (λk=>listed.getD k false) ops.toList.length H0)
    (AtS base (λk=>listed.getD k false)) act->Region.ready .any ops listed=[]->act.defers=ds->CQ nt c0 HH n0 ds Q .normal act c.w:=by
  intro listed c act hsz hdown g hr hds;have hfull:∀ k,k<ops.size->listed.getD k false=true:=by
   intro k
   induction k using Nat.strongRecOn with
   |_ k ih =>
    intro hk
    cases hl:listed.getD k false with
    |true=>rfl
    |false =>
     have hkl:k<listed.size:=by omega
     have hmem:k∈Region.ready .any ops listed:=by
      rw[X1n];refine⟨hk,?_,?_⟩
      ·simp only[Array.getD_eq_getD_getElem?,Array.getElem?_eq_getElem hkl,Option.getD_some] at hl ⊢;exact hl
      ·rw[Array.getElem?_eq_getElem hk];simp only[Option.map_some,Option.getD_some];rw[Array.all_eq_true_iff_forall_mem];intro e he
       cases hbd:Region.binds .any e with
       |false=>rfl
       |true =>
        have hpk:ops.toList[k]?=some ops[k]:=by simp[hk]
        have hin:e.on∈X83 ops[k]:=List.mem_map.2 ⟨e,List.mem_filter.2 ⟨by simpa using he,hbd⟩,rfl⟩;have hlt:=X6a _ 0 hpre k _ hpk e.on hin;rw[ih e.on om om];rfl
     rw[hr] at hmem;cases hmem
  have hcongr:∀ k,k<ops.toList.length->listed.getD k false=true:=λk hk=>hfull k om;refine⟨c,⟨_,_,_⟩,.normal,rfl,?_,hds,rfl,hQ⟩;have hA:X1e (X6d ops.toList rs) (λk=>listed.getD k false) ops.toList.length A0=X1e (X6d ops.toList rs) (λ_=>true) ops.toList.length A0 :=
   X51 _ _ λk hk=>.inr (hcongr k hk)
  have hH:X1e (X6g base rs) (λk=>listed.getD k false) ops.toList.length H0=X1e (X6g base rs) (λ_=>true) ops.toList.length H0 :=
   X51 _ _ λk hk=>.inr (hcongr k hk)
  rw[hA,hH] at g;have hM:∀ q,AtS base (λk=>listed.getD k false) q->q<base+ops.toList.length:=by
   rintro q (h|⟨k,hk,rfl⟩)
   ·omega
   ·have:k<listed.size:=by
     cases Nat.lt_or_ge k listed.size with
     |inl h=>exact h
     |inr h=>simp[Array.getD_eq_getD_getElem?,Array.getElem?_eq_none h] at hk
    omega
  exact⟨g.inv.more hM,g.solo,g.frame,λt=>(g.ok t).mono hM,g.size,g.reach,by show n0<=base+_;omega⟩
 intro fuel
 induction fuel with
 |zero =>
  intro listed L c act hsz hL hin hdown g hds;have hnil:L=[]:=List.length_eq_zero_iff.1 om;subst hnil;have hr:Region.ready .any ops listed=[]:=by
   rw[List.eq_nil_iff_forall_not_mem];intro i hi;rw[X1n] at hi;obtain⟨h1,h2,_⟩:=hi;have:=hin i h1 (by
    have hil:i<listed.size:=by omega
    simp only[Array.getD_eq_getD_getElem?,Array.getElem?_eq_getElem hil,Option.getD_some] at h2 ⊢;exact h2)
   cases this
  exact⟨hr,fin listed c act hsz hdown g hr hds⟩
 |succ fuel ih =>
  intro listed L c act hsz hL hin hdown g hds;refine⟨λhr=>fin listed c act hsz hdown g hr hds,λi hi=>?_⟩;rw[X1n] at hi;obtain⟨h1,h2,h3⟩:=hi;have hil:i<listed.size:=by omega
  have hli:listed.getD i false=false:=by
   simp only[Array.getD_eq_getD_getElem?,Array.getElem?_eq_getElem hil,Option.getD_some] at h2 ⊢;exact h2
  have hi':i<ops.toList.length:=by omega
  have hoi:ops.toList[i]?=some ops.toList[i]:=List.getElem?_eq_getElem hi';have hoa:ops[i]?=some ops.toList[i]:=by rw[<-Array.getElem?_toList];exact hoi
  have hprei:∀ j∈X83 ops.toList[i],listed.getD j false=true:=by
   intro j hj;obtain⟨e,he,rfl⟩:=List.mem_map.1 hj;obtain⟨he1,he2⟩:=List.mem_filter.1 he;rw[hoa] at h3;simp only[Option.map_some,Option.getD_some] at h3;rw[Array.all_eq_true_iff_forall_mem] at h3;have:=h3 e (by simpa using he1);rw[he2] at this;simpa using this
  have hpl:∀ (i:Nat) o,ops.toList[i]?=some o->∀ j∈X83 o,j<i:=λi o ho j hj=>by
   have:=X6a _ 0 hpre i o ho j hj;omega
  have hcm:=Xg4 (S:=λk=>listed.getD k false) hpl hdown;have hS:Down ops.toList (λk=>listed.getD k false):=by
   refine⟨λk hk=>?_,λk hk q hq=>?_⟩
   ·cases Nat.lt_or_ge k listed.size with
    |inl h=>omega
    |inr h=>simp[Array.getD_eq_getD_getElem?,Array.getElem?_eq_none h] at hk
   ·have hkl:k<ops.toList.length:=by
     cases Nat.lt_or_ge k listed.size with
     |inl h=>omega
     |inr h=>simp[Array.getD_eq_getD_getElem?,Array.getElem?_eq_none h] at hk
    exact(hcm k _ (List.getElem?_eq_getElem hkl) (hdown k _ (List.getElem?_eq_getElem hkl) hk) q hq).1
  have hri:∀ q,((X18 ops.toList).getD i 0).testBit q=true->listed.getD q false=true:=λq hq=>(hcm i _ hoi hprei q hq).1;have hirs:i<rs.length:=by rw[hall.len];exact hi'
  obtain⟨hdst,hone,_⟩:=hall.one i _ _ hoi (List.getElem?_eq_getElem hirs);have hdlt:∀ d,(ops.toList[i]).dst=some d->d<nt:=by
   intro d hd;rw[hd] at hdst;simp only[Xbh,Bool.and_eq_true] at hdst;simpa using hdst.1
  have hA:∀ t,frD (X5q i ((X18 ops.toList).getD i 0) 0 ops.toList (X18 ops.toList)) (X1e (X6d ops.toList rs) (λ_=>true) i A0) t=X1e (X6d ops.toList rs) (λk=>listed.getD k false) ops.toList.length A0 t \/
    frD (X5q i ((X18 ops.toList).getD i 0) 0 ops.toList (X18 ops.toList)) (X1e (X6d ops.toList rs) (λ_=>true) i A0) t=.junk:=by
   intro t;unfold frD
   cases ht:Xnz t (X5q i ((X18 ops.toList).getD i 0) 0 ops.toList (X18 ops.toList)) with
   |true=>exact .inr rfl
   |false=>exact .inl (X019 hall hS hi' hli hri ht)
  have hV:∀ o x,hpD base ((X18 ops.toList).getD i 0) (hz (ops.toList[i])) ((rs.take i).map (·.2)) (X1e (X6g base rs) (λ_=>true) i H0) o=some x ->
    X1e (X6g base rs) (λk=>listed.getD k false) ops.toList.length H0 o=some x:=by
   intro o x hx;unfold hpD at hx
   cases ht:Xc7 base ((X18 ops.toList).getD i 0) (hz (ops.toList[i])) ((rs.take i).map (·.2)) o with
   |true=>rw[ht] at hx;cases hx
   |false =>
    rw[ht,cond_false] at hx;rw[<-X018 hall hS hi' hli hri ht];exact hx
  have hid:¬ AtS base (λk=>listed.getD k false) (base+i):=by
   rintro(h|⟨k,hk,h⟩)
   ·omega
   ·have:k=i:=by omega
    subst this;have hk':listed.getD k false=true:=hk;rw[hli] at hk';cases hk'
  have hMb:∀ q,AtS base (λk=>listed.getD k false) q->q<base+ops.toList.length:=by
   rintro q (h|⟨k,hk,rfl⟩)
   ·omega
   ·have:=hS.lt k hk;omega
  have hset:∀ k,(listed.setIfInBounds i true).getD k false=(listed.getD k false||Nat.beq k i):=by
   intro k;simp only[Array.getD_eq_getD_getElem?];by_cases hk:k=i
   ·subst hk;rw[Array.getElem?_setIfInBounds_self,if_pos hil];simp
   ·rw[Array.getElem?_setIfInBounds_ne (λe=>hk e.symm)];have:Nat.beq k i=false:=by rw[<-Bool.not_eq_true,Nat.beq_eq];exact hk
    rw[this,Bool.or_false]
  have hfn:(λk=>(listed.setIfInBounds i true).getD k false)=(λk=>listed.getD k false||Nat.beq k i):=funext hset;have after:∀ (c':Ctx) (v:Value) (e:X3x),e=(rs[i]).2 ->
    Xbe nt c0 HH n0 c' (Xcl (X1e (X6d ops.toList rs) (λk=>listed.getD k false) ops.toList.length A0) (ops.toList[i]).dst (rs[i]).1)
     (e.go (base+i) (X1e (X6g base rs) (λk=>listed.getD k false) ops.toList.length H0)) (λq=>AtS base (λk=>listed.getD k false) q\/q=base+i) (act.put (ops.toList[i]).dst v) ->
    wpAny P .any ops (CQ nt c0 HH n0 ds Q) fuel (listed.setIfInBounds i true) (act.put (ops.toList[i]).dst v) c'.w:=by
   rintro c' v _ rfl g';have hiL:i∈L:=hin i h1 hli;refine ih _ (L.erase i) c' _ (by simpa using hsz) (by rw[List.length_erase_of_mem hiL];omega) ?_ ?_ ?_ ((put_defers _ _ _).trans hds)
   ·intro k hk hlk;rw[hset] at hlk;have h4:=Bool.or_eq_false_iff.1 hlk;have hne:k≠i:=λh=>by subst h;simp at h4
    exact(List.mem_erase_of_ne hne).2 (hin k hk h4.1)
   ·intro k o ho hk j hj;rw[hset] at hk ⊢;rcases Bool.or_eq_true_iff.1 hk with hk|hk
    ·rw[hdown k o ho hk j hj];rfl
    ·have:k=i:=by simpa using hk
     subst this;rw[hoi] at ho;cases ho;rw[hprei j hj];rfl
   ·rw[hfn,Xwz hall hS hi' hli (List.getElem?_eq_getElem hirs) hdst,Xwy hall hS hi' hli (List.getElem?_eq_getElem hirs)];have hMM:(AtS base λk=>listed.getD k false||Nat.beq k i)=(λq=>AtS base (λk=>listed.getD k false) q\/q=base+i):=by
     funext q
     apply propext;constructor
     ·rintro(h|⟨k,hk,rfl⟩)
      ·exact .inl (.inl h)
      ·rcases Bool.or_eq_true_iff.1 hk with hk|hk
       ·exact .inl (.inr ⟨k,hk,rfl⟩)
       ·have:k=i:=by simpa using hk
        exact .inr (by rw[this])
     ·rintro((h|⟨k,hk,rfl⟩)|rfl)
      ·exact .inl h
      ·exact .inr ⟨k,by simp[hk],rfl⟩
      ·exact .inr ⟨i,by simp,rfl⟩
    rw[hMM];exact g'
  unfold wpOp;rw[hoa];simp only[];have gj:=g.junk hA;generalize hre:(rs[i]).2=ef at hone after;generalize hra:(rs[i]).1=av at hone after
  cases hone with
  |@run a e hg h =>
   have hw:Region.wanted (ops.toList[i]) (yielded ops act.tmps)=true:=by
    rcases hg with hg|⟨j,t,want,hg,hj,ht,hb⟩
    ·exact Xne hg
    ·rw[Xnd hg (Xvj gj hj ht hb)];simp
   rw[if_pos hw];left;refine DOp.step hT g hMb hA hV hid h hdlt _ _ λc' v g'=>?_;exact after c' v _ rfl g'
  |@skip j t want v hg hj ht hb hbw =>
   have hw:Region.wanted (ops.toList[i]) (yielded ops act.tmps)=false:=Xsz gj hg hj ht hb hbw;rw[if_neg (by rw[hw];simp)];refine after c undef _ rfl ?_;rw[X3x.go_none];exact g.next hdlt (.refl c) rfl (λb hb=>.inl hb) (.refl c _) (λq x hx=>.inr ⟨q,x,hx,rfl⟩) (g.inv.more λq h=>.inl h) g.solo (λq=>.inl) .sc .sc
theorem X4c.drew {c0 c:Ctx} {s:St} {act:Act} {HH:X0j} (g:X4c nt c0 HH n0 c s act):X4c nt c0 HH n0 { c with w:={ c.w with drawn:=c.w.drawn+1 } } s act:=by
 have hle:c.Le (λ_=>True) { c with w:={ c.w with drawn:=c.w.drawn+1 } }:=⟨λ_ _=>rfl,λ_ h=>h,λ_ h=>h,λ_ _=>rfl,rfl⟩;have all:∀ {a:AV} {M:Nat->Prop},a.Ok M->a.Ok (λ_=>True):=λh=>h.mono λ_ _=>trivial;have r:=g.reach;refine⟨⟨λo x hx=>?_,g.inv.sep,g.inv.stab,g.inv.lt,g.inv.base,g.inv.own,g.inv.low⟩,g.solo,λt=>(g.frame t).mono hle (.inr (all (g.ok t))),g.ok,g.size,⟨r.rho,r.os,r.tape,⟨r.output.1,Nat.le_trans r.output.2 (Nat.le_succ _)⟩,r.size,r.block,r.stable,r.sa,r.so1,r.so2,r.B,r.own⟩,g.le0⟩;obtain⟨h1,⟨⟨cur,hb,hs,hc⟩,h3,h4,h5⟩,h6⟩:=g.inv.obj o x hx;refine⟨h1,⟨⟨cur,hb,hs,λi e he=>?_⟩,h3,h4,h5⟩,h6⟩;obtain⟨g1,g2⟩:=hc i e he;exact⟨g1,λk a ha=>by obtain⟨v,hv,hr,h7⟩:=g2 k a ha;exact⟨v,hv,hr.mono hle (.inr (all (h6 e (List.mem_of_getElem? he) a (List.mem_of_getElem? ha)))),h7⟩⟩
theorem Xpa.drawn {s:St} {id:Nat} {Q:Xx->St->Prop} {A':Nat->AV} {H':X0j} (hm:P.follows .mixedOrders=true) (hT:Xat P T) (hpre:X5m 0 ops.toList=true)
  (hrun:Xup hz P T nt s.n ops (X18 ops.toList) 0 ops.toList s.A s.H [] A' H') (hQ:Q .normal ⟨A',H',s.n+ops.toList.length⟩):Xpa P nt n0 (.region id ops true) Q s:=by
 obtain⟨rs,hall,hA,hH⟩:=hrun.all s.A s.H [] (Nat.zero_le _) rfl rfl rfl rfl rfl (λk o r _ hr=>by simp at hr);subst hA hH;intro c0 HH c act g0 R hR;have g:=g0.drew;obtain rfl:=hR rfl;refine Xav.2 (wp_region_any hm ?_);have hzz:∀ k,(Array.replicate ops.size false).getD k false=false:=by
  intro k;simp only[Array.getD_eq_getD_getElem?,Array.getElem?_replicate];split<;>rfl
 have hfn:(λk=>(Array.replicate ops.size false).getD k false)=(λ_=>false):=funext hzz;refine Xle hT hpre hall hQ g.le0 ops.size _ (List.range ops.size) { c with w:={ c.w with drawn:=c.w.drawn+1 } } act (by simp) (by simp) (λk hk _=>List.mem_range.2 hk) (λi o _ h=>by rw[hzz] at h;cases h) ?_ rfl;rw[hfn,X7i,X7i];have hM:∀ q,q<s.n->AtS s.n (λ_=>false) q:=λq h=>.inl h;exact⟨g.inv.more hM,g.solo,g.frame,λt=>(g.ok t).mono hM,g.size,g.reach,λq hq=>hM q (Nat.lt_of_lt_of_le hq g.le0)⟩
end
end Go.Av


namespace Go.Av
def Xu7 (H:X0j):AV->Option (AV×Nat)
 |.ptr o i k=>match H o with
  |some x=>match x.es[i]? with
   |some e=>some (e,k)
   |none=>none
  |none=>none
 |.elem _ e k=>some (e,k)
 |_=>none
theorem Xu6 {H:X0j} {p e:AV} {k:Nat} (h:Xu7 H p=some (e,k)):Xn6 H p e k:=by
 unfold Xu7 at h;split at h
 ·split at h
  ·split at h
   ·cases h;exact .ptr (by assumption) (by assumption)
   ·cases h
  ·cases h
 ·cases h;exact .elem
 ·cases h
def binF (T:Ty) (op:BinOp) (t:Nat):AV->AV->Option AV
 |.sc (.int k a),.sc (.int k' b) =>
  match op with
  |.quo=>if k=k' then (if b≠0 then some (.sc (.int k (k.wrap (a.tdiv b)))) else none) else none
  |.rem=>if k=k' then (if b≠0 then some (.sc (.int k (a.tmod b))) else none) else none
  |.shl=>if 0<=b then some (.sc (.int k (k.wrap (a*2 ^ (min b.toNat k.bits))))) else none
  |.shr=>if 0<=b then some (.sc (.int k (a.fdiv (2 ^ (min b.toNat k.bits))))) else none
  |op=>if k=k' then (match Xpw op k a b with|some v=>some (.sc v)|none=>none) else none
 |.sc (.bool a),.sc (.bool b)=>match T t with
  |some ti=>match ti.kind with
   |.bool=>match op with
    |.eql=>some (.sc (.bool (a==b)))
    |.neq=>some (.sc (.bool (!(a==b))))
    |_=>none
   |_=>none
  |none=>none
 |.agg xs,.agg ys=>match T t with
  |some ti=>if ti.eqok=true then (match op with
   |.eql=>match eqT T 10000 t (.agg xs) (.agg ys) with|some r=>some (.sc (.bool r))|none=>none
   |.neq=>match eqT T 10000 t (.agg xs) (.agg ys) with|some r=>some (.sc (.bool (!r)))|none=>none
   |_=>none) else none
  |none=>none
 |_,_=>none
theorem Xui {T:Ty} {ev:Operand->AV} {H:X0j} {op:BinOp} {t yt:Nat} {x y:Operand} {a:AV} (h:binF T op t (ev x) (ev y)=some a):Pu T ev H (.binOp op t x y yt) a:=by
 generalize hx:ev x=u at h;generalize hy:ev y=v at h;unfold binF at h;split at h
 ·split at h
  ·split at h
   ·rename_i hk;subst hk;split at h
    ·cases h;exact .quo hx hy (by assumption)
    ·cases h
   ·cases h
  ·split at h
   ·rename_i hk;subst hk;split at h
    ·cases h;exact .rem hx hy (by assumption)
    ·cases h
   ·cases h
  ·split at h
   ·cases h;exact .shl hx hy (by assumption)
   ·cases h
  ·split at h
   ·cases h;exact .shr hx hy (by assumption)
   ·cases h
  ·split at h
   ·rename_i hk;subst hk;split at h
    ·cases h;exact .binInt hx hy (by assumption)
    ·cases h
   ·cases h
 ·split at h
  ·split at h
   ·split at h
    ·cases h;exact .boolEq hx hy (by assumption) (by assumption)
    ·cases h;exact .boolNe hx hy (by assumption) (by assumption)
    ·cases h
   ·cases h
  ·cases h
 ·split at h
  ·split at h
   ·split at h
    ·split at h
     ·cases h;exact .aggEq hx hy (by assumption) (by assumption) (by assumption)
     ·cases h
    ·split at h
     ·cases h;exact .aggNe hx hy (by assumption) (by assumption) (by assumption)
     ·cases h
    ·cases h
   ·cases h
  ·cases h
 ·cases h
def unF (op:UnOp):AV->Option AV
 |.sc (.int k n)=>match op with
  |.neg=>some (.sc (.int k (k.wrap (0 - n))))
  |_=>none
 |.sc (.bool b)=>match op with
  |.not=>some (.sc (.bool (!b)))
  |_=>none
 |_=>none
def X005 (T:Ty) (src dst:Nat):AV->Option AV
 |.sc (.int _ n)=>match T src with
  |some _=>match T dst with
   |some td=>match td.kind with
    |.int k'=>some (.sc (.int k' (k'.wrap n)))
    |_=>none
   |none=>none
  |none=>none
 |.sc (.string s)=>match T src with
  |some _=>match T dst with
   |some td=>match td.kind with
    |.string=>some (.sc (.string s))
    |_=>none
   |none=>none
  |none=>none
 |_=>none
def Xk8 (T:Ty) (s f:Nat):Option (Nat×TI) :=
 match T s with
 |some ti=>match ti.kind with
  |.struct fs=>match fs[f]? with
   |some (off,ft)=>match T ft with
    |some tf=>some (off,tf)
    |none=>none
   |none=>none
  |_=>none
 |none=>none
theorem Xeg {T:Ty} {s f off:Nat} {tf:TI} (h:Xk8 T s f=some (off,tf)):∃ ti fs ft,T s=some ti/\ti.kind=.struct fs/\fs[f]?=some (off,ft)/\T ft=some tf:=by
 unfold Xk8 at h;split at h
 ·split at h
  ·split at h
   ·split at h
    ·cases h;exact⟨_,_,_,by assumption,by assumption,by assumption,by assumption⟩
    ·cases h
   ·cases h
  ·cases h
 ·cases h
def X4j (T:Ty) (t:Nat):Option TI :=
 match T t with
 |some ti=>match ti.kind with
  |.slice et=>T et
  |_=>none
 |none=>none
theorem X27 {T:Ty} {t:Nat} {te:TI} (h:X4j T t=some te):∃ ti et,T t=some ti/\ti.kind=.slice et/\T et=some te:=by
 unfold X4j at h;split at h
 ·split at h
  ·exact⟨_,_,by assumption,by assumption,h⟩
  ·cases h
 ·cases h
def Xjk (T:Ty) (t:Nat):Option (Nat×TI) :=
 match T t with
 |some ti=>match ti.kind with
  |.array n et=>match T et with
   |some te=>some (n,te)
   |none=>none
  |_=>none
 |none=>none
theorem Xa0 {T:Ty} {t n:Nat} {te:TI} (h:Xjk T t=some (n,te)):∃ ti et,T t=some ti/\ti.kind=.array n et/\T et=some te:=by
 unfold Xjk at h;split at h
 ·split at h
  ·split at h
   ·cases h;exact⟨_,_,by assumption,by assumption,by assumption⟩
   ·cases h
  ·cases h
 ·cases h
def ixF (T:Ty) (H:X0j) (t:Nat) (x:AV) (i:Int):Option AV :=
 match x with
 |.list own es=>match X4j T t with
  |some te=>match es[i.toNat]? with
   |some e=>if e.cells.length=te.size then some (.elem own e 0) else none
   |none=>none
  |none=>none
 |.ref o off len=>match X4j T t with
  |some te=>if i<len then (match H o with
   |some y=>match y.es[off+i.toNat]? with
    |some e=>if e.cells.length=te.size then some (.ptr o (off+i.toNat) 0) else none
    |none=>none
   |none=>none) else none
  |none=>none
 |.ptr o j q=>match Xjk T t with
  |some (n,te)=>if i<n then some (.ptr o j (q+i.toNat*te.size)) else none
  |none=>none
 |.elem own e q=>match Xjk T t with
  |some (n,te)=>if i<n then some (.elem own e (q+i.toNat*te.size)) else none
  |none=>none
 |_=>none
def bdF (ev:Operand->AV):Option Operand->Nat->Option Nat
 |none,d=>some d
 |some x,_=>match ev x with
  |.sc (.int _ z)=>if 0<=z then some z.toNat else none
  |_=>none
theorem X9z {ev:Operand->AV} {o:Option Operand} {d n:Nat} (h:bdF ev o d=some n):Bd ev o d n:=by
 unfold bdF at h;split at h
 ·cases h;exact .dflt
 ·split at h
  ·split at h
   ·cases h;exact .given (by assumption) (by assumption)
   ·cases h
  ·cases h
def Xxo (T:Ty) (ev:Operand->AV) (H:X0j) (t:Nat) (x:AV) (lo hi:Option Operand):Option AV :=
 match x with
 |.list own es=>match X4j T t with
  |some te=>match bdF ev lo 0,bdF ev hi es.length with
   |some l,some h=>if l<=h then (if h<=es.length then (if es.all (λe=>e.cells.length==te.size) then some (.list own ((es.drop l).take (h - l))) else none) else none) else none
   |_,_=>none
  |none=>none
 |.ref o off len=>match X4j T t with
  |some te=>match bdF ev lo 0,bdF ev hi len with
   |some l,some h=>if h<=len then (if l<h then (match H o with
     |some y=>if y.es.any (λe=>e.cells.length==te.size) then some (.ref o (off+l) (h - l)) else none
     |none=>none)
    else if l=h then some (.list true []) else none) else none
   |_,_=>none
  |none=>none
 |.nils=>match X4j T t with
  |some _=>match bdF ev lo 0,bdF ev hi 0 with
   |some 0,some 0=>some .nils
   |_,_=>none
  |none=>none
 |_=>none
def puF (T:Ty) (ev:Operand->AV) (H:X0j):Op->Option AV
 |.move x=>some (ev x)
 |.assign x=>some (ev x)
 |.pick c a b=>match ev c with
  |.sc (.bool true)=>some (ev a)
  |.sc (.bool false)=>some (ev b)
  |_=>none
 |.load t x=>match T t with
  |some ti=>match Xu7 H (ev x) with
   |some (e,k)=>Xo1 ti e k
   |none=>none
  |none=>none
 |.nilCheck x=>match ev x with
  |.ptr o i k=>some (.ptr o i k)
  |.elem own e k=>some (.elem own e k)
  |.fn f caps=>some (.fn f caps)
  |_=>none
 |.binOp op t x y _=>binF T op t (ev x) (ev y)
 |.unOp op _ x=>unF op (ev x)
 |.convert src dst x=>X005 T src dst (ev x)
 |.fieldAddr s x f=>match Xk8 T s f with
  |some (off,tf)=>if tf.size≠0 then (match ev x with
   |.ptr o i k=>some (.ptr o i (k+off))
   |.elem own e k=>some (.elem own e (k+off))
   |_=>none) else none
  |none=>none
 |.field s x f=>match Xk8 T s f with
  |some (off,tf)=>match ev x with
   |.agg cs=>eqT.partA tf cs off
   |_=>none
  |none=>none
 |.indexAddr t x ix=>match ev ix with
  |.sc (.int _ i)=>if 0<=i then ixF T H t (ev x) i else none
  |_=>none
 |.index t x ix=>match ev ix with
  |.sc (.int _ i)=>if 0<=i then (match ev x with
   |.agg cs=>match Xjk T t with
    |some (n,te)=>if i<n then eqT.partA te cs (i.toNat*te.size) else none
    |none=>none
   |_=>none) else none
  |_=>none
 |.slice t x lo hi none=>Xxo T ev H t (ev x) lo hi
 |.slice t x none (some hi) (some mx)=>match X4j T t with
  |some _=>match bdF ev (some hi) 0,bdF ev (some mx) 0 with
   |some 0,some 0=>match ev x with
    |.list _ _=>some .nils
    |.ref _ _ _=>some .nils
    |.nils=>some .nils
    |_=>none
   |_,_=>none
  |none=>none
 |.extract x i=>match ev x with
  |.tup cs=>cs[i]?
  |_=>none
 |.makeFunc (.func f) ⟨[]⟩ caps=>some (.fn f (caps.toList.map ev))
 |.call { callee:=.builtin .len,args:=⟨[x]⟩,argTypes:=⟨[t]⟩ }=>match T t with
  |some ti=>match ti.kind with
   |.slice _=>match ev x with
    |.list own es=>some (.sc (.int .i64 es.length))
    |.ref _ _ n=>some (.sc (.int .i64 n))
    |.nils=>some (.sc (.int .i64 (0:Nat)))
    |_=>none
   |.string=>match ev x with
    |.sc (.string s)=>some (.sc (.int .i64 s.size))
    |_=>none
   |.array n _=>some (.sc (.int .i64 n))
   |_=>none
  |none=>none
 |.call { callee:=.builtin .min,args:=⟨[x,y]⟩,argTypes:=_ }=>match ev x,ev y with
  |.sc (.int k a),.sc (.int k' b)=>if k=k' then some (.sc (.int k (if b<a then b else a))) else none
  |_,_=>none
 |.call { callee:=.builtin .max,args:=⟨[x,y]⟩,argTypes:=_ }=>match ev x,ev y with
  |.sc (.int k a),.sc (.int k' b)=>if k=k' then some (.sc (.int k (if b>a then b else a))) else none
  |_,_=>none
 |.build t ps=>match T t with
  |some ti=>match X31 ti.zero with
   |.agg cs=>match ti.kind with
    |.struct fs=>if fs.all (λp=>(T p.2).isSome) then (match Xji (λi=>(fs[i]?).map λp=>(p.1,((T p.2).map (·.size)).getD 0)) cs (ps.toList.map λp=>(p.1,ev p.2)) with
     |some r=>some (.agg r)
     |none=>none) else none
    |.array _ et=>match T et with
     |some te=>match Xji (λi=>some (i*te.size,te.size)) cs (ps.toList.map λp=>(p.1,ev p.2)) with
      |some r=>some (.agg r)
      |none=>none
     |none=>none
    |_=>none
   |_=>none
  |none=>none
 |_=>none
theorem Xhw {T:Ty} {ev:Operand->AV} {H:X0j} {op:Op} {a:AV} (h:puF T ev H op=some a):Pu T ev H op a:=by
 unfold puF at h;split at h
 ·cases h;exact .move
 ·cases h;exact .assign
 ·split at h
  ·cases h;exact .pick (by assumption) (λ_=>rfl) (λh=>by cases h)
  ·cases h;exact .pick (by assumption) (λh=>by cases h) (λ_=>rfl)
  ·cases h
 ·split at h
  ·split at h
   ·exact .load (by assumption) (Xu6 (by assumption)) h
   ·cases h
  ·cases h
 ·split at h
  ·rename_i hx;cases h;rw[<-hx];exact .nilCheckPtr hx
  ·rename_i hx;cases h;rw[<-hx];exact .nilCheckElem hx
  ·rename_i hx;cases h;rw[<-hx];exact .nilCheckFn hx
  ·cases h
 ·exact Xui h
 ·unfold unF at h;split at h
  ·split at h
   ·cases h;exact .neg (by assumption)
   ·cases h
  ·split at h
   ·cases h;exact .not (by assumption)
   ·cases h
  ·cases h
 ·unfold X005 at h;split at h
  ·split at h
   ·split at h
    ·split at h
     ·cases h;exact .conv (by assumption) (by assumption) (by assumption) (by assumption)
     ·cases h
    ·cases h
   ·cases h
  ·split at h
   ·split at h
    ·split at h
     ·cases h;exact .convStr (by assumption) (by assumption) (by assumption) (by assumption)
     ·cases h
    ·cases h
   ·cases h
  ·cases h
 ·split at h
  ·rename_i hf;obtain⟨ti,fs,ft,h1,h2,h3,h4⟩:=Xeg hf;split at h
   ·split at h
    ·cases h;exact .fieldAddrPtr (by assumption) h1 h2 h3 h4 (by assumption)
    ·cases h;exact .fieldAddrElem (by assumption) h1 h2 h3 h4 (by assumption)
    ·cases h
   ·cases h
  ·cases h
 ·split at h
  ·rename_i hf;obtain⟨ti,fs,ft,h1,h2,h3,h4⟩:=Xeg hf;split at h
   ·exact .field (by assumption) h1 h2 h3 h4 h
   ·cases h
  ·cases h
 ·split at h
  ·rename_i hix;split at h
   ·rename_i h0;unfold ixF at h;split at h
    ·split at h
     ·rename_i hs;obtain⟨ti,et,h1,h2,h3⟩:=X27 hs;split at h
      ·split at h
       ·cases h;exact .indexList (by assumption) hix h0 h1 h2 h3 (by assumption) (by assumption)
       ·cases h
      ·cases h
     ·cases h
    ·split at h
     ·rename_i hs;obtain⟨ti,et,h1,h2,h3⟩:=X27 hs;split at h
      ·split at h
       ·split at h
        ·split at h
         ·cases h;exact .indexRef (by assumption) hix h0 (by assumption) h1 h2 h3 (by assumption) (by assumption) (by assumption)
         ·cases h
        ·cases h
       ·cases h
      ·cases h
     ·cases h
    ·split at h
     ·rename_i hs;obtain⟨ti,et,h1,h2,h3⟩:=Xa0 hs;split at h
      ·cases h;exact .indexArr (by assumption) hix h0 (by assumption) h1 h2 h3
      ·cases h
     ·cases h
    ·split at h
     ·rename_i hs;obtain⟨ti,et,h1,h2,h3⟩:=Xa0 hs;split at h
      ·cases h;exact .indexArrElem (by assumption) hix h0 (by assumption) h1 h2 h3
      ·cases h
     ·cases h
    ·cases h
   ·cases h
  ·cases h
 ·split at h
  ·rename_i hix;split at h
   ·rename_i h0;split at h
    ·split at h
     ·rename_i hs;obtain⟨ti,et,h1,h2,h3⟩:=Xa0 hs;split at h
      ·exact .indexAgg (by assumption) hix h0 (by assumption) h1 h2 h3 h
      ·cases h
     ·cases h
    ·cases h
   ·cases h
  ·cases h
 ·unfold Xxo at h;split at h
  ·split at h
   ·rename_i hs;obtain⟨ti,et,h1,h2,h3⟩:=X27 hs;split at h
    ·split at h
     ·split at h
      ·split at h
       ·rename_i hall;cases h
        exact .sliceList (by assumption) (X9z (by assumption)) (X9z (by assumption)) (by assumption) (by assumption) h1 h2 h3 (λe he=>by simpa using List.all_eq_true.1 hall e he)
       ·cases h
      ·cases h
     ·cases h
    ·cases h
   ·cases h
  ·split at h
   ·rename_i hs;obtain⟨ti,et,h1,h2,h3⟩:=X27 hs;split at h
    ·split at h
     ·split at h
      ·split at h
       ·split at h
        ·rename_i hany;cases h
         obtain⟨e,he,hc⟩:=List.any_eq_true.1 hany;exact .sliceRef (by assumption) (X9z (by assumption)) (X9z (by assumption)) (by assumption) (by assumption) h1 h2 h3 (by assumption) ⟨e,he,by simpa using hc⟩
        ·cases h
       ·cases h
      ·split at h
       ·rename_i hl hh hle _ heq;cases h
        subst heq;exact .sliceRef0 (by assumption) (X9z hl) (X9z hh) hle h1 h2 h3
       ·cases h
     ·cases h
    ·cases h
   ·cases h
  ·split at h
   ·rename_i hs;obtain⟨ti,et,h1,h2,h3⟩:=X27 hs;split at h
    ·cases h;exact .sliceNils (by assumption) (X9z (by assumption)) (X9z (by assumption)) h1 h2 h3
    ·cases h
   ·cases h
  ·cases h
 ·split at h
  ·rename_i hs;obtain⟨ti,et,h1,h2,h3⟩:=X27 hs;split at h
   ·split at h
    ·rename_i hx;cases h;exact .sliceClone (by rw[hx];rfl) (λs=>by rw[hx];simp) (X9z (by assumption)) (X9z (by assumption)) h1 h2 h3
    ·rename_i hx;cases h;exact .sliceClone (by rw[hx];rfl) (λs=>by rw[hx];simp) (X9z (by assumption)) (X9z (by assumption)) h1 h2 h3
    ·rename_i hx;cases h;exact .sliceClone (by rw[hx];rfl) (λs=>by rw[hx];simp) (X9z (by assumption)) (X9z (by assumption)) h1 h2 h3
    ·cases h
   ·cases h
  ·cases h
 ·split at h
  ·exact .extract (by assumption) h
  ·cases h
 ·cases h;exact .makeFunc
 ·split at h
  ·split at h
   ·split at h
    ·rename_i hx;cases h;exact .lenSlice (by rw[hx];rfl) (by assumption) (by assumption) (λs=>by rw[hx];simp)
    ·rename_i hx;cases h;exact .lenSlice (by rw[hx];rfl) (by assumption) (by assumption) (λs=>by rw[hx];simp)
    ·rename_i hx;cases h;exact .lenSlice (by rw[hx];rfl) (by assumption) (by assumption) (λs=>by rw[hx];simp)
    ·cases h
   ·split at h
    ·cases h;exact .lenStr (by assumption) (by assumption) (by assumption)
    ·cases h
   ·cases h;exact .lenArr (by assumption) (by assumption)
   ·cases h
  ·cases h
 ·split at h
  ·split at h
   ·rename_i hk;subst hk;cases h;exact .min2 (by assumption) (by assumption)
   ·cases h
  ·cases h
 ·split at h
  ·split at h
   ·rename_i hk;subst hk;cases h;exact .max2 (by assumption) (by assumption)
   ·cases h
  ·cases h
 ·split at h
  ·split at h
   ·split at h
    ·split at h
     ·rename_i hall;split at h
      ·cases h
       refine .buildS (by assumption) (by assumption) (by assumption) (λp hp0=>?_) (by assumption);have:=List.all_eq_true.1 hall p hp0;exact Option.isSome_iff_exists.1 this
      ·cases h
     ·cases h
    ·split at h
     ·split at h
      ·cases h;exact .buildA (by assumption) (by assumption) (by assumption) (by assumption) (by assumption)
      ·cases h
     ·cases h
    ·cases h
   ·cases h
  ·cases h
 ·cases h
end Go.Av


namespace Go.Av
end Go.Av


namespace Go.Av
end Go.Av


namespace Go.Av
end Go.Av


namespace Go.Av
theorem Xpa.scope {P:Program} {nt n0:Nat} {s:St} {Q:Xx->St->Prop} {c:Code} (h:Xpa P nt n0 c Q s):Xpa P nt n0 (.scope c) Q s:=by
 intro c0 H0 cx act g R hR;have hR2:=hR.scope;obtain rfl:=hR rfl;refine Xav.2 (wp_scope_straight (Code.wp_mono ?_ (Xav.1 (h c0 H0 cx act g none hR2))));rintro e a w ⟨c',s',ae,rfl,g',hd,rfl,hq⟩
 cases ae with
 |normal=>exact⟨c',s',.normal,rfl,g',hd,rfl,hq⟩
 |exit id=>exact⟨c',s',.exit id,rfl,g',hd,rfl,hq⟩
 |ret=>exact⟨c',s',.ret,rfl,g',hd,rfl,hq⟩
end Go.Av


namespace Go.Av
def Xrm (w:World) (b:Nat) (l:List (Value×Value)):Prop :=
 ∃ es clock,w.heap[b]?=some (.map es clock)/\es.toList.map (λe=>(e.key,e.val))=l/\es.toList.Pairwise (λx y=>x.born<y.born)/\∀ e∈es.toList,e.born<clock
theorem Xrm.lt {w:World} {b:Nat} {l:List (Value×Value)} (h:Xrm w b l):b<w.heap.size:=by
 obtain⟨es,clock,hb,_⟩:=h;exact(Array.getElem?_eq_some_iff.1 hb).1
inductive MuE where
 |map (l:List (Value×Value))
 |mark
 |blk (o:Go.Obj)
 |loop (r:Loop) (nt m:Nat) (A:Nat->AV)
instance:Coe (List (Value×Value)) MuE:=⟨.map⟩
abbrev Mu:=List (Nat×MuE)
def Xy4 (n0:Nat) (c:Ctx) (b:Nat):MuE->Prop
 |.map l=>Xrm c.w b l
 |.mark=>c.w.heap[b]?=some (.deferred (some []))
 |.blk o=>c.w.heap[b]?=some o
 |.loop r nt m A=>(c.w.heap[b]?=some (.loop r)/\r.tmps.size=nt)/\m<=n0/\(∀ t,(A t).Ok (·<m))/\∀ t,X0z c false (A t) (r.tmps.getD t undef)
theorem Xy4.lt {n0:Nat} {c:Ctx} {b:Nat} {x:MuE} (h:Xy4 n0 c b x):b<c.w.heap.size:=by
 cases x with
 |map l=>exact Xrm.lt h
 |mark=>exact(Array.getElem?_eq_some_iff.1 h).1
 |blk o=>exact(Array.getElem?_eq_some_iff.1 h).1
 |loop r nt m A=>exact(Array.getElem?_eq_some_iff.1 h.1.1).1
theorem Xy4.le {n0:Nat} {c c':Ctx} {b:Nat} {x:MuE} (h:Xy4 n0 c b x) (hb:c'.w.heap[b]?=c.w.heap[b]?) (hle:c.Le (·<n0) c'):Xy4 n0 c' b x:=by
 cases x with
 |map l=>obtain⟨es,clock,h1,h2⟩:=h;exact⟨es,clock,hb.trans h1,h2⟩
 |mark=>exact hb.trans h
 |blk o=>exact hb.trans h
 |loop r nt m A=>exact⟨⟨hb.trans h.1.1,h.1.2⟩,h.2.1,h.2.2.1,λt=>(h.2.2.2 t).mono hle (.inr ((h.2.2.1 t).mono λq hq=>Nat.lt_of_lt_of_le hq h.2.1))⟩
def Xzy:Mu->List Deferred
 |[]=>[]
 |(D,.mark)::μ=>{ target:=.collected D,args:=#[] }::Xzy μ
 |(_,.map _)::μ=>Xzy μ
 |(_,.blk _)::μ=>Xzy μ
 |(_,.loop ..)::μ=>Xzy μ
def Xd8:Mu->Bool
 |[]=>true
 |(_,.loop ..)::_=>false
 |(_,.mark)::μ=>Xd8 μ
 |(_,.map _)::μ=>Xd8 μ
 |(_,.blk _)::μ=>Xd8 μ
structure MOk (n0:Nat) (c0 c:Ctx) (H:X0j) (μ:Mu) (act:Act):Prop where
 is:∀ p∈μ,Xy4 n0 c p.1 p.2
 away:∀ p∈μ,¬ c.Sa p.1/\¬ c.So p.1/\(∀ o x,H o=some x->(c.ρ o).blk≠p.1)/\c0.w.heap.size<=p.1
 nodup:(μ.map (·.1)).Nodup
 ds:act.defers=Xzy μ
theorem MOk.nil {n0:Nat} {c0 c:Ctx} {H:X0j} {act:Act} (h:act.defers=[]):MOk n0 c0 c H [] act:=⟨(λ_ h=>by cases h),(λ_ h=>by cases h),List.nodup_nil,h⟩
theorem MOk.kept {c0 c c':Ctx} {H H':X0j} {n0:Nat} {μ:Mu} {act act':Act} (h:MOk n0 c0 c H μ act) (r:Reach c H n0 c' H') (hd:act'.defers=act.defers:=by first|rfl|exact put_defers _ _ _):MOk n0 c0 c' H' μ act':=by
 have hlt:∀ p∈μ,p.1<c.w.heap.size:=λp hp=>(h.is p hp).lt;have hb:∀ p∈μ,c'.w.heap[p.1]?=c.w.heap[p.1]?:=λp hp=>r.block _ (hlt p hp) (h.away p hp).2.2.1;refine⟨λp hp=>(h.is p hp).le (hb p hp) r.le,λp hp=>?_,h.nodup,hd.trans h.ds⟩;obtain⟨a1,a2,a3,a4⟩:=h.away p hp;refine⟨by rw[r.sa];exact a1,λhs=>?_,λo x hx he=>?_,a4⟩
 ·rcases r.so2 _ hs with h1|h1|⟨o,x,h1,h2⟩
  ·exact a2 h1
  ·have:=hlt p hp;omega
  ·exact a3 o x h1 h2
 ·rcases r.own o x hx with h1|⟨o',x',h1,h2⟩
  ·have:=hlt p hp;omega
  ·exact a3 o' x' h1 (h2.trans he)
theorem MOk.act {n0:Nat} {c0 c:Ctx} {H:X0j} {μ:Mu} {act act':Act} (h:MOk n0 c0 c H μ act) (hd:act'.defers=act.defers:=by first|rfl|exact put_defers _ _ _):MOk n0 c0 c H μ act':=⟨h.is,h.away,h.nodup,hd.trans h.ds⟩
theorem Reach.trans {c0 c c':Ctx} {H0 H H':X0j} {n0:Nat} (h:Reach c0 H0 n0 c H) (k:Reach c H n0 c' H'):Reach c0 H0 n0 c' H':=by
 refine⟨λo ho=>(k.rho o ho).trans (h.rho o ho),k.os.trans h.os,k.tape.trans h.tape,⟨k.output.1.trans h.output.1,Nat.le_trans h.output.2 k.output.2⟩,Nat.le_trans h.size k.size,?_,?_,k.sa.trans h.sa,λb hb=>k.so1 b (h.so1 b hb),?_,k.B.trans h.B,?_⟩
 ·intro b hb hn;rw[k.block b (Nat.lt_of_lt_of_le hb h.size) ?_]
  ·exact h.block b hb hn
  ·intro o x hx he;rcases h.own o x hx with h1|⟨o',x',h1,h2⟩
   ·omega
   ·exact hn o' x' h1 (h2.trans he)
 ·intro b hb;rw[k.stable b (hb.imp (λx=>by rw[h.sa];exact x) (h.so1 b))];exact h.stable b hb
 ·intro b hb;rcases k.so2 b hb with h1|h1|⟨q,y,h1,h2⟩
  ·exact h.so2 b h1
  ·exact .inr (.inl (Nat.le_trans h.size h1))
  ·rcases h.own q y h1 with h3|⟨q',y',h3,h4⟩
   ·exact .inr (.inl om)
   ·exact .inr (.inr ⟨q',y',h3,h4.trans h2⟩)
 ·intro o x hx;rcases k.own o x hx with h1|⟨q,y,h1,h2⟩
  ·exact .inl (Nat.le_trans h.size h1)
  ·rw[<-h2];exact h.own q y h1
theorem X4c.rebase {nt n0:Nat} {c0 c:Ctx} {H0:X0j} {s:St} {act:Act} (g:X4c nt c0 H0 n0 c s act):X4c nt c s.H n0 c s act :=
 ⟨g.inv,g.solo,g.frame,g.ok,g.size,.refl _ _ _,g.le0⟩
theorem X4c.join {nt n0:Nat} {c0 c c':Ctx} {H0 H:X0j} {s:St} {act:Act} (r:Reach c0 H0 n0 c H) (g:X4c nt c H n0 c' s act):X4c nt c0 H0 n0 c' s act :=
 ⟨g.inv,g.solo,g.frame,g.ok,g.size,r.trans g.reach,g.le0⟩
def MQ (nt:Nat) (c0:Ctx) (H0:X0j) (n0:Nat) (Q:Xx->St->Mu->Prop):Exit->Act->World->Prop :=
 λe act w=>∃ c s ae μ,c.w=w/\X4c nt c0 H0 n0 c s act/\MOk n0 c0 c s.H μ act/\ae.of=e/\Q ae s μ
def X4h (P:Program) (nt n0:Nat) (code:Code) (Q:Xx->St->Mu->Prop) (s:St) (μ:Mu):Prop :=
 ∀ (c0:Ctx) (H0:X0j) (c:Ctx) (act:Act),X4c nt c0 H0 n0 c s act->MOk n0 c0 c s.H μ act->∀ R,RG code R->wpR R P code (MQ nt c0 H0 n0 Q) act c.w
def X54 (P:Program) (nt n0:Nat) (ops:Array Oper) (l:List Oper) (K:St->Mu->Prop) (s:St) (μ:Mu):Prop :=
 ∀ (c0:Ctx) (H0:X0j) (c:Ctx) (act:Act),X4c nt c0 H0 n0 c s act->MOk n0 c0 c s.H μ act->∀ Qx:Exit->Act->World->Prop,
  (∀ c' s' act' μ',X4c nt c0 H0 n0 c' s' act'->MOk n0 c0 c' s'.H μ' act'->K s' μ'->Qx .normal act' c'.w)->∀ R,(R=none->Xd8 μ=true)->Xkd R P ops Qx l act c.w
section
variable {P:Program} {nt n0:Nat} {s:St} {μ:Mu} {Q:Xx->St->Mu->Prop}
theorem X4h.of {code:Code} (h:Xpa P nt n0 code (λe s'=>Q e s' μ) s):X4h P nt n0 code Q s μ:=by
 intro c0 H0 c act g hm R hR;refine wpIn_mono (h c s.H c act g.rebase R hR) ?_;rintro e a w ⟨c',s',ae,rfl,g2,hd,rfl,hq⟩;exact⟨c',s',ae,μ,rfl,.join g.reach g2,hm.kept g2.reach hd,rfl,hq⟩
theorem X4h.mono {code:Code} {Q':Xx->St->Mu->Prop} (h:X4h P nt n0 code Q s μ) (hq:∀ e s μ,Q e s μ->Q' e s μ):X4h P nt n0 code Q' s μ :=
 λc0 H0 c act g hm R hR=>wpIn_mono (h c0 H0 c act g hm R hR) (λ_ _ _ ⟨c,s,ae,μ,h1,h2,h3,h4,h5⟩=>⟨c,s,ae,μ,h1,h2,h3,h4,hq _ _ _ h5⟩)
theorem X4h.skip (h:Q .normal s μ):X4h P nt n0 .skip Q s μ:=.of (.skip h)
theorem X4h.label {l:Nat} (h:Q .normal s μ):X4h P nt n0 (.label l) Q s μ:=.of (.label h)
theorem X4h.exit {id:Nat} (h:Q (.exit id) s μ):X4h P nt n0 (.exit id) Q s μ:=.of (.exit h)
theorem X4h.ret (h:Q .ret s μ):X4h P nt n0 .ret Q s μ:=.of (.ret h)
def seqM (P:Program) (nt n0:Nat) (y:Code) (Q:Xx->St->Mu->Prop):Xx->St->Mu->Prop
 |.normal,s,μ=>X4h P nt n0 y Q s μ
 |e,s,μ=>Q e s μ
theorem X4h.seq {x y:Code} (h:X4h P nt n0 x (seqM P nt n0 y Q) s μ):X4h P nt n0 (.seq x y) Q s μ:=by
 intro c0 H0 c act g hm R hR;refine wpIn_seq (wpIn_mono (h c0 H0 c act g hm R hR.seq1) ?_);rintro e a w ⟨c',s',ae,μ',rfl,g',hm',rfl,hq⟩
 cases ae with
 |normal=>exact hq c0 H0 c' a g' hm' R hR.seq2
 |exit id=>exact⟨c',s',.exit id,μ',rfl,g',hm',rfl,hq⟩
 |ret=>exact⟨c',s',.ret,μ',rfl,g',hm',rfl,hq⟩
theorem X4h.cond {x:Operand} {a b:Code} {t:Bool} (hx:evA s.A x=.sc (.bool t)) (ht:t=true->X4h P nt n0 a Q s μ) (hf:t=false->X4h P nt n0 b Q s μ):X4h P nt n0 (.cond x a b) Q s μ:=by
 intro c0 H0 c act g hm R hR;have h1:=g.ev x;rw[hx] at h1;exact wpIn_cond_split h1.sc_inv (λh=>ht h c0 H0 c act g hm R hR.cond1) (λh=>hf h c0 H0 c act g hm R hR.cond2)
def X88 (id:Nat) (Q:Xx->St->Mu->Prop):Xx->St->Mu->Prop
 |.exit id',s,μ=>bif Nat.beq id' id then Q .normal s μ else Q (.exit id') s μ
 |e,s,μ=>Q e s μ
theorem X4h.block {id:Nat} {code:Code} (h:X4h P nt n0 code (X88 id Q) s μ):X4h P nt n0 (.block id code) Q s μ:=by
 intro c0 H0 c act g hm R hR;refine wpIn_block (wpIn_mono (h c0 H0 c act g hm R hR.block) ?_);rintro e a w ⟨c',s',ae,μ',rfl,g',hm',rfl,hq⟩
 cases ae with
 |normal=>exact⟨c',s',.normal,μ',rfl,g',hm',rfl,hq⟩
 |exit id' =>
  simp only[X88] at hq;simp only[Xx.of,Exit.inBlock];by_cases he:id'=id
  ·subst he;simp only[Nat.beq_refl,cond_true] at hq;rw[if_pos rfl];exact⟨c',s',.normal,μ',rfl,g',hm',rfl,hq⟩
  ·have:Nat.beq id' id=false:=by rw[<-Bool.not_eq_true,Nat.beq_eq];exact he
   rw[this,cond_false] at hq;rw[if_neg he];exact⟨c',s',.exit id',μ',rfl,g',hm',rfl,hq⟩
 |ret=>exact⟨c',s',.ret,μ',rfl,g',hm',rfl,hq⟩
theorem X4h.scope {code:Code} (h:X4h P nt n0 code Q s μ):X4h P nt n0 (.scope code) Q s μ:=by
 intro c0 H0 c act g hm R hR;have hR2:=hR.scope;obtain rfl:=hR rfl;refine Xav.2 (wp_scope_straight (Code.wp_mono ?_ (Xav.1 (h c0 H0 c act g hm none hR2))));rintro e a w ⟨c',s',ae,μ',rfl,g',hm',rfl,hq⟩
 cases ae with
 |normal=>exact⟨c',s',.normal,μ',rfl,g',hm',rfl,hq⟩
 |exit id=>exact⟨c',s',.exit id,μ',rfl,g',hm',rfl,hq⟩
 |ret=>exact⟨c',s',.ret,μ',rfl,g',hm',rfl,hq⟩
theorem MOk.weak {c0 c c':Ctx} {s s':St} {θ:Nat->Nat} {act:Act} (hw:Xq8 θ n0 s s') (hc:c'={ c with ρ:=λo=>c.ρ (θ o) }) (h:MOk n0 c0 c s.H μ act):MOk n0 c0 c' s'.H μ act:=by
 subst hc;refine⟨λp hp=>(h.is p hp).le rfl ⟨λo ho=>?_,λ_ hb=>hb,λ_ hb=>hb,λ_ _=>rfl,rfl⟩,λp hp=>?_,h.nodup,h.ds⟩
 ·show c.ρ (θ o)=c.ρ o;rw[hw.fix o ho]
 obtain⟨a1,a2,a3,a4⟩:=h.away p hp;refine⟨a1,a2,λo x' hx'=>?_,a4⟩;obtain⟨x,hx,_⟩:=hw.heap o x' hx';exact a3 _ x hx
end
end Go.Av


namespace Go.Av
section
variable {P:Program} {T:Ty} {c:Ctx} {H:X0j} {M:Nat->Prop} {ev:Operand->AV} {σ:Operand->Value}
theorem X003 (hT:Xat P T) (hI:Inv c H M) (hE:∀ x,X0z c false (ev x) (σ x)) {d x:Operand} {t t':Nat} {o off len:Nat} {y:Obj} {xs:List AV} {te:TI} {ti:TI} {et:Nat} (ty:TypeId)
  (hd:ev d=.ref o off len) (hH:H o=some y) (hs:y.solo=true) (hle:off+len<=y.es.length) (hx:Xln H (ev x) xs) (hn0:min xs.length len≠0)
  (ht:T t=some ti) (hk:ti.kind=.slice et) (hte:T et=some te) (hsz:∀ e∈xs,e.cells.length=te.size) (hes:y.esz=te.size) :
  ∃ c',(Builtin.copy_ #[t,t'] ty #[σ d,σ x]).run P c.w=.ok (goInt (min xs.length len)) c'.w/\c.Le M c'/\c'.Sa=c.Sa/\c'.So=c.So /\
   Inv c' (upd H o (some { y with es:=splice y.es off (xs.take (min xs.length len)) })) M/\Fr c H c'.w/\X9j c H c' (upd H o (some { y with es:=splice y.es off (xs.take (min xs.length len)) })):=by
 have hdv:=hE d;rw[hd] at hdv;obtain⟨hdv,_⟩:=hdv.ref_inv;have hne:xs≠[]:=λh=>by subst h;simp at hn0
 obtain⟨b,so,cap,esz,hsv,hcells⟩:=Xm4 hI hx (hE x) hne;obtain⟨hMo,⟨⟨cur,hcb,hcs,hcc⟩,hfits,hpos',hsame⟩,hoks⟩:=hI.obj o y hH;have hesz:esz=te.size:=by
  obtain⟨e,he⟩:=List.exists_mem_of_ne_nil xs hne;obtain⟨i,hi⟩:=List.getElem?_of_mem he;rw[<-(hcells i e hi).1,hsz e he]
 have hρ:(c.ρ o).esz=te.size:=by rw[<-hsame,hes]
 subst hesz;have htake:∀ (i:Nat) e,(xs.take (min xs.length len))[i]?=some e->e.cells.length=te.size/\EAt c M e b (so+i*te.size):=by
  intro i e he;rw[List.getElem?_take] at he;split at he
  ·exact hcells i e he
  ·cases he
 have hlt:(xs.take (min xs.length len)).length=min xs.length len:=by simp
 obtain⟨news,hnl,hnc,hn1,hnr⟩:=Xcb om htake;rw[hlt] at hnl;have hbound:(off+min xs.length len)*(c.ρ o).esz<=(c.ρ o).cap*(c.ρ o).esz:=Nat.mul_le_mul_right _ om;rw[Nat.add_mul,hρ] at hbound;have hl:=run_loadCells_list (P:=P) c.w ⟨b,so,none⟩ news hnc;rw[hnl] at hl;have hst:=run_storeCells_at P (c.ρ o).blk (off*te.size) (c.ρ o).ety news 0 cur c.w hcb (by rw[hnl,hcs,hρ];omega) hn1;simp only[Nat.add_zero] at hst;let new:Array Value:=(cur.toList.take (off*te.size)++news++cur.toList.drop (off*te.size+news.length)).toArray
 have hrun:(Builtin.copy_ #[t,t'] ty #[σ d,σ x]).run P c.w=.ok (goInt (min xs.length len)) (c.w.setRow (c.ρ o).blk new):=by
  rw[hdv,hsv,hρ];obtain⟨i,dd,hi,hu,_,_,hsi,_⟩:=X29 (hT et te hte);have hu':=X22 (hT t ti ht) hk;have hmin:Nat.min xs.length len=min xs.length len:=rfl;rw[hsi] at hl hst;simp[Builtin.copy_,run_underlying hu',Builtin.lenOf,Builtin.firstCells,Go.sizeOf,typeInfo,hi,hsi,hmin,hl,hst,new];exact congrArg goInt om
 have hnsz:new.size=cur.size:=by
  simp only[new,List.size_toArray,List.length_append,List.length_take,List.length_drop,Array.length_toList,hnl];rw[hcs,hρ];omega
 have hget:∀ j,new[j]?=if off*te.size<=j/\j<off*te.size+min xs.length len*te.size then news[j - off*te.size]? else cur[j]?:=by
  intro j;simp only[new,List.append_assoc,List.getElem?_toArray];rw[List.getElem?_append,List.getElem?_append];simp only[List.length_take,Array.length_toList,Nat.min_eq_left (show off*te.size<=cur.size by rw[hcs,hρ];omega)];by_cases h1:j<off*te.size
  ·rw[if_pos h1,if_neg om,List.getElem?_take,if_pos h1];simp
  ·rw[if_neg h1];by_cases h2:j - off*te.size<news.length
   ·rw[if_pos h2,if_pos om]
   ·rw[if_neg h2,if_neg om,List.getElem?_drop];simp only[Array.getElem?_toList];congr 1;omega
 have hsp:off+(xs.take (min xs.length len)).length<=y.es.length:=by rw[hlt];omega
 have hw:=Xhx hI hH hs hcb hnsz (es':=splice y.es off (xs.take (min xs.length len))) ?_ ?_
 ·obtain⟨g1,g2,g3,g4⟩:=hw;exact⟨_,hrun,g1,rfl,rfl,g2,g3,g4⟩
 ·unfold splice;simp only[List.length_append,List.length_take,List.length_drop];omega
 ·intro i e he;rw[getElem?_splice hsp,hlt] at he;rw[hρ];by_cases h1:off<=i/\i<off+min xs.length len
  ·rw[if_pos h1] at he;refine⟨(htake _ e he).1,λk a ha=>?_⟩;obtain⟨h3,v,h4,h5,h6⟩:=hnr _ e k a he ha;have hk':k<te.size:=by rw[<-(htake _ e he).1];exact(List.getElem?_eq_some_iff.1 ha).1
   have hm1:(i - off)*te.size+off*te.size=i*te.size:=by rw[<-Nat.add_mul];congr 1;omega
   have hm2:(i - off+1)*te.size<=min xs.length len*te.size:=Nat.mul_le_mul_right _ om;rw[Nat.add_mul] at hm2;refine⟨h3,v,?_,h5,h6⟩;rw[hget,if_pos om,<-h4];congr 1;omega
  ·rw[if_neg h1] at he;obtain⟨g1,g2⟩:=hcc i e he;rw[hρ] at g1;refine⟨g1,λk a ha=>?_⟩;obtain⟨v,h3,h4,h5⟩:=g2 k a ha;rw[hρ] at h3;have hk':k<te.size:=by rw[<-g1];exact(List.getElem?_eq_some_iff.1 ha).1
   refine⟨hoks e (List.mem_of_getElem? he) a (List.mem_of_getElem? ha),v,?_,h4,h5⟩;rw[hget,if_neg ?_]
   ·exact h3
   ·by_cases h2:i<off
    ·have:(i+1)*te.size<=off*te.size:=Nat.mul_le_mul_right _ h2;rw[Nat.add_mul] at this;omega
    ·have:(off+min xs.length len)*te.size<=i*te.size:=Nat.mul_le_mul_right _ om;rw[Nat.add_mul] at this;omega
end
end Go.Av


namespace Go.Av
section
variable {P:Program} {T:Ty} {nt:Nat} {o:Oper} {s:St}
theorem OpR.copy (hT:Xat P T) {d x:Operand} {t t' q off len:Nat} {y:Obj} {xs:List AV} {te:TI} {ti:TI} {et:Nat} (ho:o.op=.call { callee:=.builtin .copy,args:=#[d,x],argTypes:=#[t,t'] })
  (hd:evA s.A d=.ref q off len) (hH:s.H q=some y) (hle:off+len<=y.es.length) (hx:Xln s.H (evA s.A x) xs) (hn0:min xs.length len≠0)
  (ht:T t=some ti) (hk:ti.kind=.slice et) (hte:T et=some te) (hsz:∀ e∈xs,e.cells.length=te.size) (hes:y.esz=te.size) :
  OpR P nt o s (λa' H' n'=>a'=.sc (goInt (min xs.length len))/\H'=upd s.H q (some { y with es:=splice y.es off (xs.take (min xs.length len)) })/\n'=s.n):=by
 intro c0 H0 n0 c act g K Q hK R;obtain⟨c',h1,hle',hsa,hso,hI,hfr,hown⟩:=X003 (σ:=act.eval) hT g.inv g.ev o.type hd hH (g.solo q y hH).1 hle hx hn0 ht hk hte hsz hes (t':=t');have hrun:(execOp act.eval o).run P c.w=.ok (.value (goInt (min xs.length len))) c'.w:=by
  simp[execOp,ho,resolve,invoke,builtin,h1]
 refine Oper.wpR (λd hd=>by rw[hd] at ho;cases ho) ?_;unfold Oper.wp;rw[hrun];have hs:∀ r z,upd s.H q (some { y with es:=splice y.es off (xs.take (min xs.length len)) }) r=some z->z.solo=true/\z.spent=false:=by
  intro r z hz;by_cases hr:r=q
  ·subst hr;rw[Xh] at hz;cases hz;exact g.solo r y hH
  ·rw[Xj _ _ hr] at hz;exact g.solo r z hz
 exact hK c' _ _ _ _ ⟨rfl,rfl,rfl⟩ λdst hd=>g.next hd hle' hsa (λb hb=>.inl (by rw[hso] at hb;exact hb)) hfr hown hI hs (Nat.le_refl _) .sc .sc
end
end Go.Av


namespace Go.Av
section
variable {P:Program} {T:Ty} {nt:Nat} {o:Oper} {s:St}
end
end Go.Av


namespace Go.Av
end Go.Av


namespace Go.Av
def hp:List (Nat×Obj)->X0j
 |[],_=>none
 |(d,x)::l,o=>bif Nat.beq o d then (bif x.gone then none else some x) else hp l o
theorem Xf7:∀ {G:List (Nat×Obj)} {o:Nat} {y:Obj},hp G o=some y->y.gone=false:=by
 intro G
 induction G with
 |nil=>intro o y h;cases h
 |cons p l ih =>
  intro o y h;obtain⟨d,x⟩:=p;simp only[hp] at h
  cases hb:Nat.beq o d with
  |false=>rw[hb] at h;exact ih h
  |true =>
   rw[hb,cond_true] at h
   cases hg:x.gone with
   |true=>rw[hg] at h;cases h
   |false=>rw[hg] at h;cases h;exact hg
inductive X28 where
 |el (e:AV)
 |ld (e:AV)
 |no
 |pure (bs:List AV) (r:AV)
 |call (r:AV) (G:List (Nat×Obj)) (n:Nat)
 |go (b:Bool)
 |br (b:Bool)
 |ne (b:Bool)
 |wrap
 |ix (j:Nat)
 |stop (j:Nat)
 |via (a:AV)
 |trunc (o:Nat) (es:List AV)
 |see (l:List (Nat×List Nat))
def X3z:List Prop->Prop
 |[]=>True
 |p::r=>p/\X3z r
theorem X0k {a b:List Prop}:X3z (a++b)↔X3z a/\X3z b:=by
 induction a with
 |nil=>simp[X3z]
 |cons p a ih=>simp[X3z,ih,and_assoc]
def Xly (g:Bool):List Prop->List Prop
 |[]=>[]
 |p::r=>(g=true->p)::Xly g r
theorem Xhg {g:Bool} {l:List Prop} (h:X3z (Xly g l)) (hg:g=true):X3z l:=by
 induction l with
 |nil=>trivial
 |cons p l ih=>exact⟨h.1 hg,ih h.2⟩
def Xb5 (v:Value):AV :=
 match v with
 |.agg ⟨vs⟩=>match vs.all (λv=>v.oneCell') with
  |true=>.agg (vs.map Xfx)
  |false=>.sc (.agg ⟨vs⟩)
 |v=>Xfx v
theorem X9a (v:Value):Xb5 v=X31 v:=by
 cases v with
 |agg vs =>
  obtain⟨vs⟩:=vs;simp only[Xb5,X31];have h1:(Array.all ⟨vs⟩ λv=>v.oneCell')=vs.all λv=>v.oneCell':=by simp
  rw[h1];cases vs.all λv=>v.oneCell'<;>rfl
 |_=>rfl
def rdA (a:AV):AV×List Prop :=
 match a with
 |.cond g v=>(v,[g=true])
 |.junk=>(.junk,[])
 |.sc v=>(.sc v,[])
 |.nils=>(.nils,[])
 |.agg cs=>(.agg cs,[])
 |.tup cs=>(.tup cs,[])
 |.list o es=>(.list o es,[])
 |.ref o f l=>(.ref o f l,[])
 |.ptr o i n=>(.ptr o i n,[])
 |.elem o e n=>(.elem o e n,[])
 |.fn f cs=>(.fn f cs,[])
 |.mref o m=>(.mref o m,[])
theorem X01f {a b:AV} {ps:List Prop} (h:rdA a=(b,ps)) (hp:X3z ps):Xax a=b:=by
 cases a with
 |cond g v =>
  cases h
  simp only[X3z,and_true] at hp;simp[Xax,hp]
 |_=>cases h;rfl
def rd (L:List (Nat×AV)) (x:Operand):AV×List Prop :=
 match x with
 |.tmp t=>rdA (fr L t)
 |.const v=>(Xb5 v,[])
 |.global g=>(.sc (.pointer (some ⟨g,0,none⟩)),[])
 |.func f=>(.fn f [],[])
theorem X0s {L:List (Nat×AV)} {x:Operand} {a:AV} {ps:List Prop} (h:rd L x=(a,ps)) (hp:X3z ps):evA (fr L) x=a:=by
 unfold rd at h;split at h
 ·exact X01f h hp
 ·cases h;exact(X9a _).symm
 ·cases h;rfl
 ·cases h;rfl
def rds (L:List (Nat×AV)):List Operand->List AV×List Prop
 |[]=>([],[])
 |x::r=>match rd L x,rds L r with
  |(a,p),(l,q)=>(a::l,p++q)
theorem Xfw {L:List (Nat×AV)}:∀ {xs:List Operand} {as:List AV} {ps:List Prop},rds L xs=(as,ps)->X3z ps->xs.map (evA (fr L))=as:=by
 intro xs
 induction xs with
 |nil=>intro as ps h _;simp[rds] at h;simp[<-h.1]
 |cons x r ih =>
  intro as ps h hp;simp only[rds] at h;cases h
  obtain⟨h1,h2⟩:=X0k.1 hp;simp only[List.map_cons];rw[X0s (a:=(rd L x).1) (ps:=(rd L x).2) rfl h1,ih (as:=(rds L r).1) (ps:=(rds L r).2) rfl h2]
def Xxz {β:Type} (v:Value) (k:Value->Option β):Option β :=
 match v with
 |.int q z=>k (.int q z)
 |.bool b=>k (.bool b)
 |.string s=>k (.string s)
 |v=>k v
theorem Xtv {β:Type} (v:Value) (k:Value->Option β):Xxz v k=k v:=by cases v<;>rfl
def Xq2 {β:Type} (a:AV) (k:AV->Option β):Option β :=
 match a with
 |.junk=>k .junk
 |.sc v=>Xxz v λv=>k (.sc v)
 |.nils=>k .nils
 |.agg cs=>k (.agg cs)
 |.tup cs=>k (.tup cs)
 |.list o es=>k (.list o es)
 |.ref o f l=>k (.ref o f l)
 |.ptr o i n=>k (.ptr o i n)
 |.elem o e n=>k (.elem o e n)
 |.fn f cs=>k (.fn f cs)
 |.mref o m=>k (.mref o m)
 |.cond b v=>k (.cond b v)
theorem Xms {β:Type} (a:AV) (k:AV->Option β):Xq2 a k=k a:=by cases a<;>simp[Xq2,Xtv]
def Xfh {β:Type}:List AV->(List AV->Option β)->Option β
 |[],k=>k []
 |a::r,k=>Xq2 a λa=>Xfh r λr=>k (a::r)
theorem Xra {β:Type}:∀ (l:List AV) (k:List AV->Option β),Xfh l k=k l:=by
 intro l
 induction l with
 |nil=>intro k;rfl
 |cons a r ih=>intro k;simp[Xfh,Xms,ih]
def Xq1 {β:Type} (a:AV) (k:AV->Option β):Option β :=
 match a with
 |.agg cs=>Xfh cs λcs=>k (.agg cs)
 |.tup cs=>Xfh cs λcs=>k (.tup cs)
 |.fn f cs=>Xfh cs λcs=>k (.fn f cs)
 |a=>Xq2 a k
theorem Xmr {β:Type} (a:AV) (k:AV->Option β):Xq1 a k=k a:=by cases a<;>simp[Xq1,Xra,Xms]
def Xec {β:Type}:List AV->(List AV->Option β)->Option β
 |[],k=>k []
 |a::r,k=>Xq1 a λa=>Xec r λr=>k (a::r)
theorem Xc8 {β:Type}:∀ (l:List AV) (k:List AV->Option β),Xec l k=k l:=by
 intro l
 induction l with
 |nil=>intro k;rfl
 |cons a r ih=>intro k;simp[Xec,Xmr,ih]
def Xca {β:Type} (a:AV) (k:AV->Option β):Option β :=
 match a with
 |.agg cs=>Xec cs λcs=>k (.agg cs)
 |.tup cs=>Xec cs λcs=>k (.tup cs)
 |a=>Xq1 a k
theorem X6t {β:Type} (a:AV) (k:AV->Option β):Xca a k=k a:=by
 cases a<;>simp[Xca,Xc8,Xmr]
abbrev PR:=Option (AV×List X28×List Prop)
def X05d:List X28->Bool
 |.wrap::_=>true
 |_=>false
def Xx7 (k:IntKind) (z:Int) (hs:List X28) (ps:List Prop):PR :=
 match hs with
 |.wrap::hs=>some (.sc (.int k (k.wrap z)),hs,ps)
 |hs=>some (.sc (.int k z),hs,(k.wrap z=z)::ps)
theorem Xdk {k:IntKind} {z:Int} {hs hs':List X28} {ps ps':List Prop} {a:AV} (h:Xx7 k z hs ps=some (a,hs',ps')) (hp:X3z ps'):a=.sc (.int k (k.wrap z))/\X3z ps:=by
 unfold Xx7 at h;split at h
 ·cases h;exact⟨rfl,hp⟩
 ·cases h;exact⟨by rw[hp.1],hp.2⟩
def binS (T:Ty) (op:BinOp) (t:Nat) (x y:AV) (hs:List X28) (ps:List Prop):PR :=
 match op,x,y with
 |.add,.sc (.int k a),.sc (.int k' b)=>if k=k' then Xx7 k (a+b) hs ps else none
 |.sub,.sc (.int k a),.sc (.int k' b)=>if k=k' then Xx7 k (a - b) hs ps else none
 |.mul,.sc (.int k a),.sc (.int k' b)=>if k=k' then Xx7 k (a*b) hs ps else none
 |.quo,.sc (.int k a),.sc (.int k' b)=>if k=k' then Xx7 k (a.tdiv b) hs ((b≠0)::ps) else none
 |.rem,.sc (.int k a),.sc (.int k' b)=>if k=k' then some (.sc (.int k (a.tmod b)),hs,(b≠0)::ps) else none
 |.shl,.sc (.int k a),.sc (.int _ b)=>Xx7 k (a*2 ^ (min b.toNat k.bits)) hs ((0<=b)::ps)
 |.shr,.sc (.int k a),.sc (.int _ b)=>some (.sc (.int k (a.fdiv (2 ^ (min b.toNat k.bits)))),hs,(0<=b)::ps)
 |op,x,y=>match binF T op t x y with
  |some a=>some (a,hs,ps)
  |none=>none
theorem X00f {T:Ty} {ev:Operand->AV} {H:X0j} {op:BinOp} {t yt:Nat} {x y:Operand} {u v:AV} {hs hs':List X28} {ps ps':List Prop} {a:AV} (hx:X3z ps->ev x=u) (hy:X3z ps->ev y=v)
  (h:binS T op t u v hs ps=some (a,hs',ps')) (hp:X3z ps'):Pu T ev H (.binOp op t x y yt) a:=by
 unfold binS at h;split at h
 ·split at h
  ·rename_i hk;subst hk;obtain⟨rfl,h2⟩:=Xdk h hp;exact .binInt (hx h2) (hy h2) rfl
  ·cases h
 ·split at h
  ·rename_i hk;subst hk;obtain⟨rfl,h2⟩:=Xdk h hp;exact .binInt (hx h2) (hy h2) rfl
  ·cases h
 ·split at h
  ·rename_i hk;subst hk;obtain⟨rfl,h2⟩:=Xdk h hp;exact .binInt (hx h2) (hy h2) rfl
  ·cases h
 ·split at h
  ·rename_i hk;subst hk;obtain⟨rfl,h2⟩:=Xdk h hp;exact .quo (hx h2.2) (hy h2.2) h2.1
  ·cases h
 ·split at h
  ·rename_i hk;subst hk;cases h;exact .rem (hx hp.2) (hy hp.2) hp.1
  ·cases h
 ·obtain⟨rfl,h2⟩:=Xdk h hp;exact .shl (hx h2.2) (hy h2.2) h2.1
 ·cases h;exact .shr (hx hp.2) (hy hp.2) hp.1
 ·split at h
  ·rename_i hb;cases h
   rw[<-hx hp,<-hy hp] at hb;exact Xui hb
  ·cases h
def X004 (T:Ty) (src dst:Nat) (x:AV) (hs:List X28) (ps:List Prop):PR :=
 match x with
 |.sc (.int _ n)=>match T src with
  |some _=>match T dst with
   |some td=>match td.kind with
    |.int k'=>Xx7 k' n hs ps
    |_=>none
   |none=>none
  |none=>none
 |x=>match X005 T src dst x with
  |some a=>some (a,hs,ps)
  |none=>none
def unS (op:UnOp) (x:AV) (hs:List X28) (ps:List Prop):PR :=
 match op,x with
 |.neg,.sc (.int k n)=>Xx7 k (0 - n) hs ps
 |.not,.sc (.bool b)=>some (.sc (.bool (!b)),hs,ps)
 |_,_=>none
def Xu5 (H:X0j) (p:AV) (hs:List X28) (ps:List Prop):Option (AV×Nat×List X28×List Prop) :=
 match p with
 |.elem _ e k=>some (e,k,hs,ps)
 |.ptr o i k=>match H o with
  |some y=>match hs with
   |.ld e::hs=>some (e,k,hs,(y.es[i]?=some e)::ps)
   |hs=>match y.es[i]? with
    |some e=>some (e,k,hs,ps)
    |none=>none
  |none=>none
 |_=>none
theorem Xu4 {H:X0j} {p e:AV} {k:Nat} {hs hs':List X28} {ps ps':List Prop} (h:Xu5 H p hs ps=some (e,k,hs',ps')) (hp:X3z ps'):Xn6 H p e k/\X3z ps:=by
 unfold Xu5 at h;split at h
 ·cases h;exact⟨.elem,hp⟩
 ·split at h
  ·rename_i hH;split at h
   ·cases h;exact⟨.ptr hH hp.1,hp.2⟩
   ·split at h
    ·rename_i he;cases h;exact⟨.ptr hH he,hp⟩
    ·cases h
  ·cases h
 ·cases h
def ixS (T:Ty) (H:X0j) (t:Nat) (x:AV) (i:Int) (hs:List X28) (ps:List Prop):PR :=
 match x,hs with
 |.list own es,.el e::hs=>match X4j T t with
  |some te=>if e.cells.length=te.size then some (.elem own e 0,hs,(0<=i)::(es[i.toNat]?=some e)::ps) else none
  |none=>none
 |.ref o off len,.el e::hs=>match X4j T t with
  |some te=>match H o with
   |some y=>if e.cells.length=te.size then some (.ptr o (off+i.toNat) 0,hs,(0<=i)::(i<len)::(y.es[off+i.toNat]?=some e)::ps) else none
   |none=>none
  |none=>none
 |.ptr o j q,.ix m::hs=>match Xjk T t with
  |some (n,te)=>some (.ptr o j (q+m*te.size),hs,(i=(m:Int))::(m<n)::ps)
  |none=>none
 |.elem own e q,.ix m::hs=>match Xjk T t with
  |some (n,te)=>some (.elem own e (q+m*te.size),hs,(i=(m:Int))::(m<n)::ps)
  |none=>none
 |.ptr o j q,hs=>match Xjk T t with
  |some (n,te)=>some (.ptr o j (q+i.toNat*te.size),hs,(0<=i)::(i<n)::ps)
  |none=>none
 |.elem own e q,hs=>match Xjk T t with
  |some (n,te)=>some (.elem own e (q+i.toNat*te.size),hs,(0<=i)::(i<n)::ps)
  |none=>none
 |x,hs=>match ixF T H t x i with
  |some a=>some (a,hs,(0<=i)::ps)
  |none=>none
def bdS (L:List (Nat×AV)) (o:Option Operand) (d:Nat) (ps:List Prop):Option (Nat×List Prop) :=
 match o with
 |none=>some (d,ps)
 |some x=>match rd L x with
  |(.sc (.int _ z),qs)=>some (z.toNat,(0<=z)::(qs++ps))
  |_=>none
theorem X75 {L:List (Nat×AV)} {o:Option Operand} {d n:Nat} {ps ps':List Prop} (h:bdS L o d ps=some (n,ps')) (hp:X3z ps'):Bd (evA (fr L)) o d n/\X3z ps:=by
 unfold bdS at h;split at h
 ·cases h;exact⟨.dflt,hp⟩
 ·split at h
  ·rename_i hr;cases h
   obtain⟨h1,h2⟩:=hp;obtain⟨h3,h4⟩:=X0k.1 h2;exact⟨.given (X0s hr h3) h1,h4⟩
  ·cases h
def Xse (T:Ty) (L:List (Nat×AV)) (H:X0j) (t:Nat) (x:AV) (lo hi:Option Operand) (hs:List X28) (ps:List Prop):PR :=
 match x with
 |.list own es=>match X4j T t with
  |some te=>match bdS L lo 0 ps with
   |some (l,ps)=>match bdS L hi es.length ps with
    |some (h,ps)=>match hs with
     |.via (.list _ es')::hs=>some (.list own es',hs,((es.drop l).take (h - l)=es')::(l<=h)::(h<=es.length)::(∀ e∈es,e.cells.length=te.size)::ps)
     |hs=>some (.list own ((es.drop l).take (h - l)),hs,(l<=h)::(h<=es.length)::(∀ e∈es,e.cells.length=te.size)::ps)
    |none=>none
   |none=>none
  |none=>none
 |.ref o off len=>match X4j T t with
  |some te=>match bdS L lo 0 ps with
   |some (l,ps)=>match bdS L hi len ps with
    |some (h,ps)=>match hs with
     |.ne false::hs=>some (.list true [],hs,(l=h)::(l<=len)::ps)
     |.via (.ref _ off' h')::hs=>match H o with
      |some y=>if y.esz=te.size then some (.ref o off' h',hs,(off+l=off')::(h - l=h')::(l<=h)::(l=0\/l<h)::(h<=len\/off+h<=y.es.length)::ps) else none
      |none=>some (.ref o off' h',hs,(off+l=off')::(h - l=h')::(l=0)::(h<=len)::ps)
     |hs=>match H o with
      |some y=>some (.ref o (off+l) (h - l),hs,(l<h)::(h<=len)::(∃ e∈y.es,e.cells.length=te.size)::ps)
      |none=>some (.ref o (off+l) (h - l),hs,(l=0)::(h<=len)::ps)
    |none=>none
   |none=>none
  |none=>none
 |.nils=>match X4j T t with
  |some _=>match bdS L lo 0 ps with
   |some (l,ps)=>match bdS L hi 0 ps with
    |some (h,ps)=>some (.nils,hs,(l=0)::(h=0)::ps)
    |none=>none
   |none=>none
  |none=>none
 |_=>none
theorem Xsd {T:Ty} {L:List (Nat×AV)} {H:X0j} {t:Nat} {x:Operand} {u:AV} {lo hi:Option Operand} {hs hs':List X28} {ps ps':List Prop} {a:AV} (hx:X3z ps->evA (fr L) x=u)
  (h:Xse T L H t u lo hi hs ps=some (a,hs',ps')) (hp:X3z ps'):Pu T (evA (fr L)) H (.slice t x lo hi none) a:=by
 unfold Xse at h;split at h
 ·split at h
  ·rename_i hs;obtain⟨ti,et,h1,h2,h3⟩:=X27 hs;split at h
   ·rename_i hl;split at h
    ·rename_i hh;split at h
     ·cases h
      obtain⟨p0,p1,p2,p3,p4⟩:=hp;obtain⟨b2,q2⟩:=X75 hh p4;obtain⟨b1,q1⟩:=X75 hl q2;rw[<-p0];exact .sliceList (hx q1) b1 b2 p1 p2 h1 h2 h3 p3
     ·cases h
      obtain⟨p1,p2,p3,p4⟩:=hp;obtain⟨b2,q2⟩:=X75 hh p4;obtain⟨b1,q1⟩:=X75 hl q2;exact .sliceList (hx q1) b1 b2 p1 p2 h1 h2 h3 p3
    ·cases h
   ·cases h
  ·cases h
 ·split at h
  ·rename_i hs;obtain⟨ti,et,h1,h2,h3⟩:=X27 hs;split at h
   ·rename_i hl;split at h
    ·rename_i hh;split at h
     ·cases h
      obtain⟨rfl,p2,p4⟩:=hp;obtain⟨b2,q2⟩:=X75 hh p4;obtain⟨b1,q1⟩:=X75 hl q2;exact .sliceRef0 (hx q1) b1 b2 p2 h1 h2 h3
     ·split at h
      ·rename_i hH;split at h
       ·rename_i hes;cases h
        obtain⟨rfl,rfl,p1,p2,p3,p4⟩:=hp;obtain⟨b2,q2⟩:=X75 hh p4;obtain⟨b1,q1⟩:=X75 hl q2;exact .sliceRefV (hx q1) b1 b2 p1 p2 hH p3 h1 h2 h3 hes
       ·cases h
      ·cases h
       obtain⟨rfl,rfl,p1,p2,p4⟩:=hp;obtain⟨b2,q2⟩:=X75 hh p4;obtain⟨b1,q1⟩:=X75 hl q2;exact .sliceRefZ (hx q1) b1 b2 p1 p2 h1 h2 h3
     ·split at h
      ·rename_i hH;cases h
       obtain⟨p1,p2,p3,p4⟩:=hp;obtain⟨b2,q2⟩:=X75 hh p4;obtain⟨b1,q1⟩:=X75 hl q2;exact .sliceRef (hx q1) b1 b2 p1 p2 h1 h2 h3 hH p3
      ·cases h
       obtain⟨p1,p2,p4⟩:=hp;obtain⟨b2,q2⟩:=X75 hh p4;obtain⟨b1,q1⟩:=X75 hl q2;exact .sliceRefZ (hx q1) b1 b2 p1 p2 h1 h2 h3
    ·cases h
   ·cases h
  ·cases h
 ·split at h
  ·rename_i hs;obtain⟨ti,et,h1,h2,h3⟩:=X27 hs;split at h
   ·rename_i hl;split at h
    ·rename_i hh;cases h
     obtain⟨rfl,rfl,p4⟩:=hp;obtain⟨b2,q2⟩:=X75 hh p4;obtain⟨b1,q1⟩:=X75 hl q2;exact .sliceNils (hx q1) b1 b2 h1 h2 h3
    ·cases h
   ·cases h
  ·cases h
 ·cases h
theorem X01w {T:Ty} {ev:Operand->AV} {H:X0j} {t:Nat} {x ix:Operand} {u:AV} {q:IntKind} {i:Int} {hs hs':List X28} {ps ps':List Prop} {a:AV} (hx:X3z ps->ev x=u) (hi:X3z ps->ev ix=.sc (.int q i))
  (h:ixS T H t u i hs ps=some (a,hs',ps')) (hp:X3z ps'):Pu T ev H (.indexAddr t x ix) a:=by
 unfold ixS at h;split at h
 ·split at h
  ·rename_i hs;obtain⟨ti,et,h1,h2,h3⟩:=X27 hs;split at h
   ·rename_i hsz;cases h
    exact .indexList (hx hp.2.2) (hi hp.2.2) hp.1 h1 h2 h3 hp.2.1 hsz
   ·cases h
  ·cases h
 ·split at h
  ·rename_i hs;obtain⟨ti,et,h1,h2,h3⟩:=X27 hs;split at h
   ·rename_i hH;split at h
    ·rename_i hsz;cases h
     exact .indexRef (hx hp.2.2.2) (hi hp.2.2.2) hp.1 hp.2.1 h1 h2 h3 hH hp.2.2.1 hsz
    ·cases h
   ·cases h
  ·cases h
 ·split at h
  ·rename_i hs;obtain⟨ti,et,h1,h2,h3⟩:=Xa0 hs;cases h
   have he:=hp.1;subst he;exact .indexArr (hx hp.2.2) (hi hp.2.2) (Int.natCast_nonneg _) (Int.ofNat_lt.2 hp.2.1) h1 h2 h3
  ·cases h
 ·split at h
  ·rename_i hs;obtain⟨ti,et,h1,h2,h3⟩:=Xa0 hs;cases h
   have he:=hp.1;subst he;exact .indexArrElem (hx hp.2.2) (hi hp.2.2) (Int.natCast_nonneg _) (Int.ofNat_lt.2 hp.2.1) h1 h2 h3
  ·cases h
 ·split at h
  ·rename_i hs;obtain⟨ti,et,h1,h2,h3⟩:=Xa0 hs;cases h
   exact .indexArr (hx hp.2.2) (hi hp.2.2) hp.1 hp.2.1 h1 h2 h3
  ·cases h
 ·split at h
  ·rename_i hs;obtain⟨ti,et,h1,h2,h3⟩:=Xa0 hs;cases h
   exact .indexArrElem (hx hp.2.2) (hi hp.2.2) hp.1 hp.2.1 h1 h2 h3
  ·cases h
 ·split at h
  ·rename_i hix;cases h
   refine Xhw ?_;simp only[puF,hi hp.2,hx hp.2,if_pos hp.1];exact hix
  ·cases h
def lenS (T:Ty) (t:Nat) (x:AV):Option AV :=
 match T t with
 |some ti=>match ti.kind with
  |.slice _=>match x with
   |.list _ es=>some (.sc (.int .i64 es.length))
   |.ref _ _ n=>some (.sc (.int .i64 n))
   |.nils=>some (.sc (.int .i64 (0:Nat)))
   |_=>none
  |.string=>match x with
   |.sc (.string s)=>some (.sc (.int .i64 s.size))
   |_=>none
  |.array n _=>some (.sc (.int .i64 n))
  |_=>none
 |none=>none
def minS (hi:Bool) (x y:AV):Option AV :=
 match x,y with
 |.sc (.int k a),.sc (.int k' b)=>if k=k' then some (.sc (.int k (bif hi then (if b>a then b else a) else (if b<a then b else a)))) else none
 |_,_=>none
def Xxr (L:List (Nat×AV)):List (Nat×Operand)->List (Nat×AV)×List Prop
 |[]=>([],[])
 |(i,x)::r=>match rd L x,Xxr L r with
  |(a,p),(l,q)=>((i,a)::l,p++q)
theorem Xsp {L:List (Nat×AV)}:∀ {xs:List (Nat×Operand)} {as:List (Nat×AV)} {ps:List Prop},Xxr L xs=(as,ps)->X3z ps->(xs.map λp=>(p.1,evA (fr L) p.2))=as:=by
 intro xs
 induction xs with
 |nil=>intro as ps h _;simp[Xxr] at h;simp[<-h.1]
 |cons x r ih =>
  intro as ps h hp;obtain⟨i,x⟩:=x;simp only[Xxr] at h;cases h
  obtain⟨h1,h2⟩:=X0k.1 hp;simp only[List.map_cons];rw[X0s (a:=(rd L x).1) (ps:=(rd L x).2) rfl h1,ih (as:=(Xxr L r).1) (ps:=(Xxr L r).2) rfl h2]
def buildS (T:Ty) (t:Nat) (vs:List (Nat×AV)):Option AV :=
 match T t with
 |some ti=>match Xb5 ti.zero with
  |.agg cs=>match ti.kind with
   |.struct fs=>if fs.all (λp=>(T p.2).isSome) then (match Xji (λi=>(fs[i]?).map λp=>(p.1,((T p.2).map (·.size)).getD 0)) cs vs with
    |some r=>some (.agg r)
    |none=>none) else none
   |.array _ et=>match T et with
    |some te=>match Xji (λi=>some (i*te.size,te.size)) cs vs with
     |some r=>some (.agg r)
     |none=>none
    |none=>none
   |_=>none
  |_=>none
 |none=>none
def Xyu (L:List (Nat×AV)) (c a b:Operand) (hs:List X28):PR :=
 match rd L c with
 |(.sc (.bool t),pc)=>match rd L a,rd L b with
  |(.sc (.bool x),pa),(.sc (.bool y),pb)=>some (.sc (.bool (bif t then x else y)),hs,pc++(Xly t pa++Xly (!t) pb))
  |(u,pa),(v,pb)=>match hs with
   |.go true::hs=>some (u,hs,(t=true)::(pc++pa))
   |.go false::hs=>some (v,hs,(t=false)::(pc++pb))
   |_=>none
 |_=>none
def puS (T:Ty) (L:List (Nat×AV)) (H:X0j) (op:Op) (hs:List X28):PR :=
 match op with
 |.move x=>match rd L x with
  |(a,ps)=>some (a,hs,ps)
 |.assign x=>match rd L x with
  |(a,ps)=>some (a,hs,ps)
 |.pick c a b=>Xyu L c a b hs
 |.load t x=>match T t with
  |some ti=>match rd L x with
   |(p,ps)=>match Xu5 H p hs ps with
    |some (e,k,hs,ps)=>match Xo1 ti e k with
     |some a=>some (a,hs,ps)
     |none=>none
    |none=>none
  |none=>none
 |.nilCheck x=>match rd L x with
  |(.ptr o i k,ps)=>some (.ptr o i k,hs,ps)
  |(.elem own e k,ps)=>some (.elem own e k,hs,ps)
  |(.fn f caps,ps)=>some (.fn f caps,hs,ps)
  |_=>none
 |.binOp op t x y _=>match rd L x,rd L y with
  |(a,p),(b,q)=>binS T op t a b hs (p++q)
 |.unOp op _ x=>match rd L x with
  |(a,p)=>unS op a hs p
 |.convert src dst x=>match rd L x with
  |(a,p)=>X004 T src dst a hs p
 |.fieldAddr s x f=>match Xk8 T s f with
  |some (off,tf)=>if tf.size≠0 then (match rd L x with
   |(.ptr o i k,ps)=>some (.ptr o i (k+off),hs,ps)
   |(.elem own e k,ps)=>some (.elem own e (k+off),hs,ps)
   |_=>none) else none
  |none=>none
 |.field s x f=>match Xk8 T s f with
  |some (off,tf)=>match rd L x with
   |(.agg cs,ps)=>match eqT.partA tf cs off with
    |some a=>some (a,hs,ps)
    |none=>none
   |_=>none
  |none=>none
 |.indexAddr t x ix=>match rd L ix with
  |(.sc (.int _ i),p)=>match rd L x with
   |(a,q)=>ixS T H t a i hs (p++q)
  |_=>none
 |.index t x ix=>match rd L ix with
  |(.sc (.int _ i),p)=>match rd L x with
   |(.agg cs,q)=>match Xjk T t with
    |some (n,te)=>match hs with
     |.ix m::hs=>match eqT.partA te cs (m*te.size) with
      |some a=>some (a,hs,(i=(m:Int))::(m<n)::(p++q))
      |none=>none
     |hs=>match eqT.partA te cs (i.toNat*te.size) with
      |some a=>some (a,hs,(0<=i)::(i<n)::(p++q))
      |none=>none
    |none=>none
   |(.sc (.string s),q)=>match T t with
    |some ti=>match ti.kind with
     |.string=>match hs with
      |.el (.sc (.int .u8 b))::hs=>some (.sc (.int .u8 b),hs,(0<=i)::(∃ c,s[i.toNat]?=some c/\b=c.toNat)::(p++q))
      |hs=>match s[i.toNat]? with
       |some b=>some (.sc (.int .u8 b.toNat),hs,(0<=i)::(p++q))
       |none=>none
     |_=>none
    |none=>none
   |_=>none
  |_=>none
 |.slice t x lo hi none=>match rd L x with
  |(a,p)=>Xse T L H t a lo hi hs p
 |.slice t x none (some hi) (some mx)=>match X4j T t with
  |some _=>match rd L x with
   |(a,p)=>match bdS L (some hi) 0 p with
    |some (h,p)=>match bdS L (some mx) 0 p with
     |some (m,p)=>match a with
      |.list _ _=>some (.nils,hs,(h=0)::(m=0)::p)
      |.ref _ _ _=>some (.nils,hs,(h=0)::(m=0)::p)
      |.nils=>some (.nils,hs,(h=0)::(m=0)::p)
      |_=>none
     |none=>none
    |none=>none
  |none=>none
 |.extract x i=>match rd L x with
  |(.tup cs,p)=>match cs[i]? with
   |some a=>some (a,hs,p)
   |none=>none
  |_=>none
 |.makeFunc (.func f) ⟨[]⟩ caps=>match rds L caps.toList with
  |(l,p)=>some (.fn f l,hs,p)
 |.call { callee:=.builtin .len,args:=⟨[x]⟩,argTypes:=⟨[t]⟩ }=>match rd L x with
  |(a,p)=>match lenS T t a with
   |some r=>match hs with
    |.el r'::hs=>some (r',hs,(r=r')::p)
    |hs=>some (r,hs,p)
   |none=>none
 |.call { callee:=.builtin .min,args:=⟨[x,y]⟩,argTypes:=_ }=>match rd L x,rd L y with
  |(a,p),(b,q)=>match minS false a b with
   |some r=>some (r,hs,p++q)
   |none=>none
 |.call { callee:=.builtin .max,args:=⟨[x,y]⟩,argTypes:=_ }=>match rd L x,rd L y with
  |(a,p),(b,q)=>match minS true a b with
   |some r=>some (r,hs,p++q)
   |none=>none
 |.build t ps=>match Xxr L ps.toList with
  |(l,p)=>match buildS T t l with
   |some r=>some (r,hs,p)
   |none=>none
 |_=>none
theorem Xwa {T:Ty} {L:List (Nat×AV)} {H:X0j} {c a b:Operand} {hs hs':List X28} {ps:List Prop} {r:AV} (h:Xyu L c a b hs=some (r,hs',ps)) (hp:X3z ps):Pu T (evA (fr L)) H (.pick c a b) r:=by
 unfold Xyu at h;split at h
 ·rename_i t pc hc;split at h
  ·rename_i x pa y pb ha hb;cases h
   obtain⟨h1,h2⟩:=X0k.1 hp;obtain⟨h3,h4⟩:=X0k.1 h2;exact .pickB (X0s hc h1) (λht=>X0s ha (Xhg h3 ht)) (λht=>X0s hb (Xhg h4 (by rw[ht];rfl)))
  ·rename_i u pa v pb _ ha hb;split at h
   ·cases h
    obtain⟨h0,h1⟩:=hp;obtain⟨h3,h4⟩:=X0k.1 h1;exact .pick (X0s hc h3) (λ_=>X0s ha h4) (λht=>by rw[h0] at ht;cases ht)
   ·cases h
    obtain⟨h0,h1⟩:=hp;obtain⟨h3,h4⟩:=X0k.1 h1;exact .pick (X0s hc h3) (λht=>by rw[h0] at ht;cases ht) (λ_=>X0s hb h4)
   ·cases h
 ·cases h
theorem Xt9 {T:Ty} {ev:Operand->AV} {H:X0j} {t:Nat} {x:Operand} {r:AV} (h:lenS T t (ev x)=some r):Pu T ev H (.call { callee:=.builtin .len,args:=⟨[x]⟩,argTypes:=⟨[t]⟩ }) r:=by
 refine Xhw ?_;unfold lenS at h;simp only[puF];exact h
theorem Xyz {T:Ty} {ev:Operand->AV} {H:X0j} {x y:Operand} {ts:Array Nat} {r:AV} (h:minS false (ev x) (ev y)=some r):Pu T ev H (.call { callee:=.builtin .min,args:=⟨[x,y]⟩,argTypes:=ts }) r:=by
 refine Xhw ?_;simp only[puF];unfold minS at h;split at h
 ·rename_i h1 h2;first|(rw[h1,h2];exact h)|exact h
 ·cases h
theorem Xz1 {T:Ty} {ev:Operand->AV} {H:X0j} {x y:Operand} {ts:Array Nat} {r:AV} (h:minS true (ev x) (ev y)=some r):Pu T ev H (.call { callee:=.builtin .max,args:=⟨[x,y]⟩,argTypes:=ts }) r:=by
 refine Xhw ?_;simp only[puF];unfold minS at h;split at h
 ·rename_i h1 h2;first|(rw[h1,h2];exact h)|exact h
 ·cases h
theorem Xuf {T:Ty} {ev:Operand->AV} {H:X0j} {t:Nat} {ps:Array (Nat×Operand)} {r:AV} (h:buildS T t (ps.toList.map λp=>(p.1,ev p.2))=some r):Pu T ev H (.build t ps) r:=by
 refine Xhw ?_;unfold buildS at h;simp only[puF];simp only[X9a] at h;exact h
theorem Xxd {T:Ty} {ev:Operand->AV} {H:X0j} {src dst:Nat} {x:Operand} {u:AV} {hs hs':List X28} {ps ps':List Prop} {a:AV} (hx:X3z ps->ev x=u) (h:X004 T src dst u hs ps=some (a,hs',ps')) (hp:X3z ps') :
  Pu T ev H (.convert src dst x) a:=by
 unfold X004 at h;split at h
 ·split at h
  ·split at h
   ·split at h
    ·obtain⟨rfl,h2⟩:=Xdk h hp;exact .conv (hx h2) (by assumption) (by assumption) (by assumption)
    ·cases h
   ·cases h
  ·cases h
 ·split at h
  ·rename_i hc;cases h
   refine Xhw ?_;simp only[puF,hx hp];exact hc
  ·cases h
theorem X01a {T:Ty} {ev:Operand->AV} {H:X0j} {op:UnOp} {t:Nat} {x:Operand} {u:AV} {hs hs':List X28} {ps ps':List Prop} {a:AV} (hx:X3z ps->ev x=u) (h:unS op u hs ps=some (a,hs',ps')) (hp:X3z ps') :
  Pu T ev H (.unOp op t x) a:=by
 unfold unS at h;split at h
 ·obtain⟨rfl,h2⟩:=Xdk h hp;exact .neg (hx h2)
 ·cases h;exact .not (hx hp)
 ·cases h
theorem Xxs {T:Ty} {L:List (Nat×AV)} {H:X0j} {op:Op} {hs hs':List X28} {ps:List Prop} {a:AV} (h:puS T L H op hs=some (a,hs',ps)) (hp:X3z ps):Pu T (evA (fr L)) H op a:=by
  unfold puS at h;split at h
  · rename_i x
    rcases hr:rd L x with ⟨a1,p1⟩;rw[hr] at h;cases h
    rw[<-X0s hr hp];exact .move
  · rename_i x
    rcases hr:rd L x with ⟨a1,p1⟩;rw[hr] at h;cases h
    rw[<-X0s hr hp];exact .assign
  · exact Xwa h hp
  · split at h
    · rename_i ht
      split at h
      rename_i hr;split at h
      · rename_i hd
        split at h
        · rename_i hl
          cases h
          obtain⟨h1,h2⟩:=Xu4 hd hp;rw[<-X0s hr h2] at h1;exact .load ht h1 hl
        · cases h
      · cases h
    · cases h
  · split at h
    · rename_i hr;cases h
      have:=X0s hr hp;rw[<-this];exact .nilCheckPtr this
    · rename_i hr;cases h
      have:=X0s hr hp;rw[<-this];exact .nilCheckElem this
    · rename_i hr;cases h
      have:=X0s hr hp;rw[<-this];exact .nilCheckFn this
    · cases h
  · exact X00f (λhq=>X0s rfl (X0k.1 hq).1) (λhq=>X0s rfl (X0k.1 hq).2) h hp
  · exact X01a (λhq=>X0s rfl hq) h hp
  · exact Xxd (λhq=>X0s rfl hq) h hp
  · split at h
    · rename_i hf
      obtain⟨ti,fs,ft,g1,g2,g3,g4⟩:=Xeg hf;split at h
      · rename_i hz
        split at h
        · rename_i hr;cases h;exact .fieldAddrPtr (X0s hr hp) g1 g2 g3 g4 hz
        · rename_i hr;cases h;exact .fieldAddrElem (X0s hr hp) g1 g2 g3 g4 hz
        · cases h
      · cases h
    · cases h
  · split at h
    · rename_i hf
      obtain⟨ti,fs,ft,g1,g2,g3,g4⟩:=Xeg hf;split at h
      · rename_i hr
        split at h
        · rename_i ha;cases h;exact .field (X0s hr hp) g1 g2 g3 g4 ha
        · cases h
      · cases h
    · cases h
  · split at h
    · rename_i hr
      exact X01w (λhq=>X0s rfl (X0k.1 hq).2) (λhq=>X0s hr (X0k.1 hq).1) h hp
    · cases h
  · split at h
    · rename_i hi
      split at h
      · rename_i hr
        split at h
        · rename_i ha
          obtain⟨ti,et,h1,h2,h3⟩:=Xa0 ha;split at h
          · split at h
            · rename_i hpa
              cases h
              obtain⟨p1,p2,p3⟩:=hp;obtain⟨p4,p5⟩:=X0k.1 p3;subst p1;exact .indexAgg (X0s hr p5) (X0s hi p4) (Int.natCast_nonneg _) (Int.ofNat_lt.2 p2) h1 h2 h3 hpa
            · cases h
          · split at h
            · rename_i hpa
              cases h
              obtain⟨p1,p2,p3⟩:=hp;obtain⟨p4,p5⟩:=X0k.1 p3;exact .indexAgg (X0s hr p5) (X0s hi p4) p1 p2 h1 h2 h3 hpa
            · cases h
        · cases h
      · rename_i hr
        split at h
        · rename_i ht
          split at h
          · rename_i hk
            split at h
            · cases h
              obtain⟨p1,⟨c,p2,rfl⟩,p3⟩:=hp;obtain⟨p4,p5⟩:=X0k.1 p3;exact .indexStr (X0s hr p5) (X0s hi p4) p1 ht hk p2
            · split at h
              · rename_i hb
                cases h
                obtain⟨p1,p3⟩:=hp;obtain⟨p4,p5⟩:=X0k.1 p3;exact .indexStr (X0s hr p5) (X0s hi p4) p1 ht hk hb
              · cases h
          · cases h
        · cases h
      · cases h
    · cases h
  · exact Xsd (λhq=>X0s rfl hq) h hp
  · split at h
    · rename_i hs
      obtain⟨ti,et,h1,h2,h3⟩:=X27 hs;split at h
      rename_i a1 p1 hr;split at h
      · rename_i hb1
        split at h
        · rename_i hb2
          split at h
          all_goals first
            | (cases h
               obtain⟨rfl,rfl,p4⟩:=hp;obtain⟨b2,q2⟩:=X75 hb2 p4;obtain⟨b1,q1⟩:=X75 hb1 q2;have hx:=X0s hr q1;exact .sliceClone (by rw[hx];rfl) (λs hs=>by rw[hx] at hs;cases hs) b1 b2 h1 h2 h3)
            |cases h
        · cases h
      · cases h
    · cases h
  · split at h
    · rename_i hr
      split at h
      · rename_i hi
        cases h
        exact .extract (X0s hr hp) hi
      · cases h
    · cases h
  · split at h
    rename_i hr;cases h
    have:=Xfw hr hp;refine Xhw ?_;simp only[puF,this]
  · split at h
    rename_i hr;split at h
    · rename_i hl
      split at h
      · cases h
        obtain⟨rfl,hp⟩:=hp;rw[<-X0s hr hp] at hl;exact Xt9 hl
      · cases h
        rw[<-X0s hr hp] at hl;exact Xt9 hl
    · cases h
  · split at h
    rename_i hx hy;split at h
    · rename_i hl
      cases h
      obtain⟨p1,p2⟩:=X0k.1 hp;rw[<-X0s hx p1,<-X0s hy p2] at hl;exact Xyz hl
    · cases h
  · split at h
    rename_i hx hy;split at h
    · rename_i hl
      cases h
      obtain⟨p1,p2⟩:=X0k.1 hp;rw[<-X0s hx p1,<-X0s hy p2] at hl;exact Xz1 hl
    · cases h
  · split at h
    rename_i hr;split at h
    · rename_i hl
      cases h
      rw[<-Xsp hr hp] at hl;exact Xuf hl
    · cases h
  · cases h
end Go.Av


namespace Go.Av
def srcS (H:X0j) (a:AV) (ps:List Prop):Option (List AV×List Prop) :=
 match a with
 |.list _ es=>some (es,ps)
 |.nils=>some ([],ps)
 |.ref o off len=>match H o with
  |some x=>some ((x.es.drop off).take len,(off+len<=x.es.length)::ps)
  |none=>none
 |_=>none
theorem X4u {H:X0j} {a:AV} {xs:List AV} {ps ps':List Prop} (h:srcS H a ps=some (xs,ps')) (hp:X3z ps'):Xln H a xs/\X3z ps:=by
 unfold srcS at h;split at h
 ·cases h;exact⟨.list,hp⟩
 ·cases h;exact⟨.nils,hp⟩
 ·split at h
  ·rename_i hH;cases h;exact⟨.ref hH hp.1,hp.2⟩
  ·cases h
 ·cases h
abbrev MR:=Option (AV×Eff×List X28×List Prop)
def appS (H:X0j) (id:Nat) (te:TI) (s:AV) (xs:List AV) (hs:List X28) (ps:List Prop):MR :=
 match s with
 |.nils=>if te.size≠0 then some (.ref id 0 xs.length,.new { es:=xs,esz:=te.size },hs,
   (xs≠[])::(xs.length<=maxLen)::(xs.length*te.bytes<=140737488355328)::(∀ e∈xs,e.cells.length=te.size)::ps) else none
 |.ref o 0 n=>match H o with
  |some y=>match y.spent with
   |false=>if y.esz=te.size then some (.ref id 0 (n+xs.length),.app o { es:=y.es++xs,esz:=te.size },hs,
     (y.es.length=n)::(xs≠[])::(n+xs.length<=maxLen)::((n+xs.length)*te.bytes<=140737488355328)::(∀ e∈xs,e.cells.length=te.size)::ps) else none
   |true=>none
  |none=>none
 |_=>none
def Xc1:AV->Bool
 |.list ..|.ref ..|.nils=>true
 |_=>false
theorem Xay {a:AV} (h:Xc1 a=true):(∃ n,Xo2 a=some n)/\∀ u,a≠.sc (.string u):=by
 cases a<;>simp[Xc1] at h<;>exact⟨⟨_,rfl⟩,λu hu=>by cases hu⟩
def mkS (T:Ty) (L:List (Nat×AV)) (H:X0j) (id:Nat) (op:Op) (hs:List X28):MR :=
 match op with
 |.box _ x=>match rd L x with
  |(a,ps)=>match a.whole with
   |true=>match a.cells with
    |[]=>none
    |_::_=>some (.ptr id 0 0,.new { es:=[a],esz:=a.cells.length },hs,ps)
   |false=>none
 |.alloc elem=>match T elem with
  |some ti=>if ti.size≠0 then Xca (Xb5 ti.zero) λz=>some (.ptr id 0 0,.new { es:=[z],esz:=ti.size },hs,[]) else none
  |none=>none
 |.buildSlice t len ps=>match X4j T t with
  |some te=>if len=0 then (match ps with
    |⟨[]⟩=>some (.nils,.none,hs,[])
    |_=>none)
   else if te.size≠0 then (if len*te.size<=2 ^ 24 then (match Xxr L ps.toList with
    |(vs,qs)=>match Xcm te.size (List.replicate len (Xb5 te.zero)) vs with
     |some es=>Xec es λes=>some (.ref id 0 len,.new { es:=es,esz:=te.size },hs,qs)
     |none=>none) else none) else none
  |none=>none
 |.makeSlice t l cc=>match X4j T t with
  |some te=>match rd L l,rd L cc with
   |(.sc (.int _ n),p),(.sc (.int _ m),q)=>match hs with
    |.ne false::hs=>some (.nils,.none,hs,(n=0)::(m=0)::(p++q))
    |hs=>if te.size≠0 then some (.ref id 0 n.toNat,.new { es:=List.replicate n.toNat (Xb5 te.zero),esz:=te.size },hs,
      (0<=n)::(n<=m)::(0<m)::(te.bytes*m<=2 ^ 48)::(m<2 ^ 62)::(p++q)) else none
   |_,_=>none
  |none=>none
 |.call { callee:=.builtin .append,args:=⟨[s,x]⟩,argTypes:=⟨[t,t']⟩ }=>if t=t' then (match X4j T t with
  |some te=>match rd L s,rd L x with
   |(a,p),(b,q)=>match srcS H b (p++q) with
    |some (xs,ps)=>match hs with
     |.ne false::hs=>match Xc1 a with
      |true=>some (a,.none,hs,(xs=[])::ps)
      |false=>none
     |.ne true::hs=>appS H id te a xs hs ps
     |.via (.list _ xs')::hs=>appS H id te a xs' hs ((xs=xs')::ps)
     |.stop _::_=>none
     |.no::hs=>Xec xs λxs=>match xs with
      |[]=>match Xc1 a with
       |true=>some (a,.none,hs,ps)
       |false=>none
      |e::r=>appS H id te a (e::r) hs ps
     |hs=>Xec xs λxs=>match xs with
      |[]=>match Xc1 a with
       |true=>some (a,.none,hs,ps)
       |false=>none
      |e::r=>appS H id te a (e::r) hs ps
    |none=>none
  |none=>none) else none
 |_=>none
theorem Xli {T:Ty} {ev:Operand->AV} {H:X0j} {id:Nat} {s x:Operand} {t:Nat} {ti te:TI} {et:Nat} {u:AV} {xs:List AV} {hs hs':List X28} {ps ps':List Prop} {a:AV} {e:Eff}
  (ht:T t=some ti) (hk:ti.kind=.slice et) (hte:T et=some te) (hsu:X3z ps->ev s=u) (hx:X3z ps->Xln H (ev x) xs) (h:appS H id te u xs hs ps=some (a,e,hs',ps')) (hp:X3z ps') :
  Mk T ev H id (.call { callee:=.builtin .append,args:=#[s,x],argTypes:=#[t,t] }) a e/\∀ old x,e=.app old x\/e=.new x->x.solo=true/\x.spent=false:=by
 unfold appS at h;split at h
 ·split at h
  ·rename_i hz;cases h
   obtain⟨p1,p2,p3,p4,p5⟩:=hp;refine⟨.appendNil (hsu p5) (hx p5) p1 ht hk hte p4 hz p2 p3,λold y hy=>by rcases hy with hy|hy<;>cases hy;exact⟨rfl,rfl⟩⟩
  ·cases h
 ·split at h
  ·rename_i hH;split at h
   ·rename_i hsp;split at h
    ·rename_i hes;cases h
     obtain⟨p0,p1,p2,p3,p4,p5⟩:=hp;refine⟨.append (hsu p5) hH p0 hsp hes (hx p5) p1 ht hk hte p4 p2 p3,λold y hy=>by rcases hy with hy|hy<;>cases hy;exact⟨rfl,rfl⟩⟩
    ·cases h
   ·cases h
  ·cases h
 ·cases h
theorem Xpt {T:Ty} {L:List (Nat×AV)} {H:X0j} {id:Nat} {op:Op} {hs hs':List X28} {ps:List Prop} {a:AV} {e:Eff} (h:mkS T L H id op hs=some (a,e,hs',ps)) (hp:X3z ps) :
  Mk T (evA (fr L)) H id op a e/\∀ old x,e=.app old x\/e=.new x->x.solo=true/\x.spent=false:=by
 unfold mkS at h;split at h
 ·split at h
  rename_i hr;split at h
  ·rename_i hw;split at h
   ·cases h
   ·rename_i hc;cases h
    have:=X0s hr hp;rw[<-this];exact⟨.box (by rw[this];exact hw) (by rw[this,hc];simp),λold y hy=>by rcases hy with hy|hy<;>cases hy;exact⟨rfl,rfl⟩⟩
  ·cases h
 ·split at h
  ·rename_i ht;split at h
   ·rename_i hz;rw[X6t,X9a] at h;cases h
    exact⟨.alloc ht hz,λold y hy=>by rcases hy with hy|hy<;>cases hy;exact⟨rfl,rfl⟩⟩
   ·cases h
  ·cases h
 ·split at h
  ·rename_i hs;obtain⟨ti,et,h1,h2,h3⟩:=X27 hs;split at h
   ·rename_i hl;subst hl;split at h
    ·cases h
     exact⟨.slice0 h1 h2 h3,λold y hy=>by rcases hy with hy|hy<;>cases hy⟩
    ·cases h
   ·rename_i hl;split at h
    ·rename_i hz;split at h
     ·rename_i hb;split at h
      rename_i hr;split at h
      ·rename_i hsp;rw[Xc8] at h;cases h
       rw[<-Xsp hr hp,X9a] at hsp;exact⟨.buildSlice h1 h2 h3 hl hz hb hsp,λold y hy=>by rcases hy with hy|hy<;>cases hy;exact⟨rfl,rfl⟩⟩
      ·cases h
     ·cases h
    ·cases h
  ·cases h
 ·split at h
  ·rename_i hs;obtain⟨ti,et,h1,h2,h3⟩:=X27 hs;split at h
   ·rename_i hl hc;split at h
    ·cases h
     obtain⟨rfl,rfl,p3⟩:=hp;obtain⟨q1,q2⟩:=X0k.1 p3;exact⟨.make0 (X0s hl q1) (X0s hc q2) h1 h2 h3,λold y hy=>by rcases hy with hy|hy<;>cases hy⟩
    ·split at h
     ·rename_i hz;cases h
      obtain⟨p1,p2,p3,p4,p5,p6⟩:=hp;obtain⟨q1,q2⟩:=X0k.1 p6;rw[X9a];exact⟨.make (X0s hl q1) (X0s hc q2) p1 p2 p3 h1 h2 h3 hz p4 p5,λold y hy=>by rcases hy with hy|hy<;>cases hy;exact⟨rfl,rfl⟩⟩
     ·cases h
   ·cases h
  ·cases h
 ·split at h
  ·rename_i htt;subst htt;split at h
   ·rename_i hs;obtain⟨ti,et,h1,h2,h3⟩:=X27 hs;split at h
    rename_i hra hrb;split at h
    ·rename_i hsrc;split at h
     ·split at h
      ·rename_i hsl;cases h
       obtain⟨rfl,p2⟩:=hp;obtain⟨s1,s2⟩:=X4u hsrc p2;obtain⟨q1,q2⟩:=X0k.1 s2;have e1:=X0s hra q1;have e2:=X0s hrb q2;obtain⟨⟨n,hn⟩,hu⟩:=Xay hsl;rw[<-e1] at hn hu ⊢;rw[<-e2] at s1;exact⟨.append0 hn hu s1 h1 h2 h3,λold y hy=>by rcases hy with hy|hy<;>cases hy⟩
      ·cases h
     ·refine Xli h1 h2 h3 (λhq=>?_) (λhq=>?_) h hp
      ·exact X0s hra (X0k.1 (X4u hsrc hq).2).1
      ·rw[X0s hrb (X0k.1 (X4u hsrc hq).2).2];exact(X4u hsrc hq).1
     ·refine Xli h1 h2 h3 (λhq=>?_) (λhq=>?_) h hp
      ·exact X0s hra (X0k.1 (X4u hsrc hq.2).2).1
      ·rw[X0s hrb (X0k.1 (X4u hsrc hq.2).2).2,<-hq.1];exact(X4u hsrc hq.2).1
     ·cases h
     ·rw[Xc8] at h;split at h
      ·split at h
       ·rename_i hsl;cases h
        obtain⟨s1,s2⟩:=X4u hsrc hp;obtain⟨q1,q2⟩:=X0k.1 s2;have e1:=X0s hra q1;have e2:=X0s hrb q2;obtain⟨⟨n,hn⟩,hu⟩:=Xay hsl;rw[<-e1] at hn hu ⊢;rw[<-e2] at s1;exact⟨.append0 hn hu s1 h1 h2 h3,λold y hy=>by rcases hy with hy|hy<;>cases hy⟩
       ·cases h
      ·refine Xli h1 h2 h3 (λhq=>?_) (λhq=>?_) h hp
       ·exact X0s hra (X0k.1 (X4u hsrc hq).2).1
       ·rw[X0s hrb (X0k.1 (X4u hsrc hq).2).2];exact(X4u hsrc hq).1
     ·rw[Xc8] at h;split at h
      ·split at h
       ·rename_i hsl;cases h
        obtain⟨s1,s2⟩:=X4u hsrc hp;obtain⟨q1,q2⟩:=X0k.1 s2;have e1:=X0s hra q1;have e2:=X0s hrb q2;obtain⟨⟨n,hn⟩,hu⟩:=Xay hsl;rw[<-e1] at hn hu ⊢;rw[<-e2] at s1;exact⟨.append0 hn hu s1 h1 h2 h3,λold y hy=>by rcases hy with hy|hy<;>cases hy⟩
       ·cases h
      ·refine Xli h1 h2 h3 (λhq=>?_) (λhq=>?_) h hp
       ·exact X0s hra (X0k.1 (X4u hsrc hq).2).1
       ·rw[X0s hrb (X0k.1 (X4u hsrc hq).2).2];exact(X4u hsrc hq).1
    ·cases h
   ·cases h
  ·cases h
 ·cases h
def Xrf (o:Nat):List (Nat×Obj)->List (Nat×Obj)
 |[]=>[]
 |(d,x)::l=>bif Nat.beq d o then Xrf o l else (d,x)::Xrf o l
theorem Xil (o:Nat):∀ G:List (Nat×Obj),hp (Xrf o G)=upd (hp G) o none:=by
 intro G;funext q
 induction G with
 |nil=>simp[Xrf,hp,upd]
 |cons a l ih =>
  obtain⟨d,x⟩:=a;simp only[Xrf]
  cases hb:Nat.beq d o with
  |true =>
   have hd:d=o:=Nat.eq_of_beq_eq_true hb;subst hd;simp only[cond_true,ih,hp];by_cases hq:q=d
   ·subst hq;rw[Xh,Xh]
   ·have:Nat.beq q d=false:=by rw[<-Bool.not_eq_true,Nat.beq_eq];exact hq
    rw[Xj _ _ hq,Xj _ _ hq];simp only[this,cond_false]
  |false =>
   have hd:d≠o:=λe=>by rw[e,Nat.beq_refl] at hb;cases hb
   simp only[cond_false,hp,ih];by_cases hq:q=o
   ·subst hq;have:Nat.beq q d=false:=by rw[<-Bool.not_eq_true,Nat.beq_eq];exact λe=>hd e.symm
    rw[this,Xh,cond_false,Xh]
   ·rw[Xj _ _ hq,Xj _ _ hq]
theorem Xc6 (o:Nat) (x:Obj) (G:List (Nat×Obj)) (hx:x.gone=false):hp ((o,x)::G)=upd (hp G) o (some x):=by
 funext q
 simp only[hp,hx,cond_false];by_cases h:q=o
 ·subst h;rw[Xh];simp
 ·have:Nat.beq q o=false:=by rw[<-Bool.not_eq_true,Nat.beq_eq];exact h
  rw[Xj _ _ h,this];rfl
theorem Xop (o:Nat) (x:Obj) (G:List (Nat×Obj)) (hx:x.gone=false):hp ((o,x)::Xrf o G)=upd (hp G) o (some x):=by
 rw[Xc6 _ _ _ hx,Xil];funext q
 by_cases hq:q=o
 ·subst hq;rw[Xh,Xh]
 ·rw[Xj _ _ hq,Xj _ _ hq,Xj _ _ hq]
def effS (id:Nat) (G:List (Nat×Obj)):Eff->List (Nat×Obj)
 |.none=>G
 |.new x=>(id,x)::G
 |.app old x=>(id,x)::Xrf old G
def Xx9:Eff->Bool
 |.none=>true
 |.new x=>!x.gone
 |.app _ x=>!x.gone
theorem Xzx (id:Nat) (G:List (Nat×Obj)) (e:Eff) (he:Xx9 e=true):hp (effS id G e)=e.seq id (hp G):=by
 cases e with
 |none=>rfl
 |new x=>exact Xc6 _ _ _ (by simpa[Xx9] using he)
 |app old x=>simp only[effS,Eff.seq,Xc6 _ _ _ (show x.gone=false by simpa[Xx9] using he),Xil]
structure X5h (P:Program) (f:Nat) (H:X0j) (as bs:List AV) (r:AV):Prop where
 isPure:X0i P f bs r
 lends:∃ Hr,Cvs false Hr as bs/\(∀ o x,Hr o=some x->H o=some x)/\(Xit r\/∀ o,Hr o=none)
structure X00n (P:Program) (f:Nat) (as:List AV) (G:List (Nat×Obj)) (n:Nat) (r:AV) (G':List (Nat×Obj)) (n':Nat):Prop where
 hc:HC P f as (hp G) n (λr2 H2 n2=>r2=r/\H2=hp G'/\n2=n')
def stO (T:Ty) (L:List (Nat×AV)) (G:List (Nat×Obj)) (t:Nat) (p x:Operand) (hs:List X28):Option (Nat×Obj×List X28×List Prop) :=
 match T t with
 |some ti=>match rd L p,rd L x with
  |(.ptr o i k,p1),(v,p2)=>match hp G o with
   |some y=>match y.solo,v.whole with
    |true,true=>match hs with
     |.ld e::hs=>if v.cells.length=ti.size then (if k+ti.size<=e.cells.length then (if ti.size≠0 then
       some (o,{ y with es:=y.es.set i (X9p e k v) },hs,(y.es[i]?=some e)::(p1++p2)) else none) else none) else none
     |hs=>match y.es[i]? with
      |some e=>if v.cells.length=ti.size then (if k+ti.size<=e.cells.length then (if ti.size≠0 then
       Xca (X9p e k v) λw=>Xec (y.es.set i w) λes=>some (o,{ y with es:=es },hs,p1++p2) else none) else none) else none
      |none=>none
    |_,_=>none
   |none=>none
  |_,_=>none
 |none=>none
theorem Xxm {T:Ty} {L:List (Nat×AV)} {G:List (Nat×Obj)} {t q:Nat} {z:Obj} {p x:Operand} {hs hs':List X28} {ps:List Prop} (h:stO T L G t p x hs=some (q,z,hs',ps)) (hp':X3z ps) :
  ∃ i k y e ti,evA (fr L) p=.ptr q i k/\hp G q=some y/\y.solo=true/\y.es[i]?=some e/\T t=some ti/\(evA (fr L) x).whole=true/\(evA (fr L) x).cells.length=ti.size/\k+ti.size<=e.cells.length/\ti.size≠0 /\
   z={ y with es:=y.es.set i (X9p e k (evA (fr L) x)) }:=by
 unfold stO at h;split at h
 ·rename_i ht;split at h
  ·rename_i hrp hrx;split at h
   ·rename_i hH;split at h
    ·rename_i hs1 hw1;split at h
     ·split at h
      ·rename_i c1;split at h
       ·rename_i c2;split at h
        ·rename_i c3;cases h
         obtain⟨q1,q2⟩:=hp';obtain⟨q3,q4⟩:=X0k.1 q2;have e1:=X0s hrp q3;have e2:=X0s hrx q4;rw[<-e2] at hw1 c1;exact⟨_,_,_,_,_,e1,hH,hs1,q1,ht,hw1,c1,c2,c3,by rw[e2]⟩
        ·cases h
       ·cases h
      ·cases h
     ·split at h
      ·rename_i he;split at h
       ·rename_i c1;split at h
        ·rename_i c2;split at h
         ·rename_i c3;rw[X6t,Xc8] at h;cases h
          obtain⟨q3,q4⟩:=X0k.1 hp';have e1:=X0s hrp q3;have e2:=X0s hrx q4;rw[<-e2] at hw1 c1;exact⟨_,_,_,_,_,e1,hH,hs1,he,ht,hw1,c1,c2,c3,by rw[e2]⟩
         ·cases h
        ·cases h
       ·cases h
      ·cases h
    ·cases h
   ·cases h
  ·cases h
 ·cases h
def stS (T:Ty) (L:List (Nat×AV)) (G:List (Nat×Obj)) (t:Nat) (p x:Operand) (hs:List X28):Option (List (Nat×Obj)×List X28×List Prop) :=
 match stO T L G t p x hs with
 |some (o,z,hs,ps)=>some ((o,z)::Xrf o G,hs,ps)
 |none=>none
theorem X01d {T:Ty} {L:List (Nat×AV)} {G G':List (Nat×Obj)} {t:Nat} {p x:Operand} {hs hs':List X28} {ps:List Prop} (h:stS T L G t p x hs=some (G',hs',ps)) (hp':X3z ps) :
  StR T (evA (fr L)) (hp G) (.store t p x) (hp G'):=by
 unfold stS at h;split at h
 ·rename_i ho;cases h
  obtain⟨i,k,y,e,ti,h1,h2,h3,h4,h5,h6,h7,h8,h9,rfl⟩:=Xxm ho hp';have hgn:({ y with es:=y.es.set i (X9p e k (evA (fr L) x)) }:Obj).gone=false:=show y.gone=false from Xf7 h2;rw[Xop _ _ _ hgn];exact .store h1 h2 h3 h4 h5 h6 h7 h8 h9
 ·cases h
abbrev OR:=Option (AV×List (Nat×Obj)×Nat×List X28×List Prop)
def quS (P:Program) (T:Ty) (L:List (Nat×AV)) (G:List (Nat×Obj)) (op:Op) (hs:List X28):PR :=
 match op with
 |.call { callee:=.value x,args:=args,argTypes:=_ }=>match hs with
  |.pure bs r::hs=>match rd L x with
   |(.fn f caps,p)=>match rds L args.toList with
    |(as,q)=>some (r,hs,X5h P f (hp G) (as++caps) bs r::(p++q))
   |_=>none
  |_=>none
 |op=>puS T L (hp G) op hs
theorem Xsr {P:Program} {T:Ty} {nt:Nat} {L:List (Nat×AV)} {G:List (Nat×Obj)} {n:Nat} {o:Oper} {hs hs':List X28} {ps:List Prop} {a:AV} (hT:Xat P T)
  (h:quS P T L G o.op hs=some (a,hs',ps)) (hp':X3z ps):OpR P nt o ⟨fr L,hp G,n⟩ (λa' H' n2=>a'=a/\H'=hp G/\n2=n):=by
 unfold quS at h;split at h
 ·rename_i ho;split at h
  ·split at h
   ·rename_i hx;split at h
    rename_i hargs;cases h
    obtain⟨⟨p1,Hr,p2,p3,p4⟩,q⟩:=hp';obtain⟨q1,q2⟩:=X0k.1 q;refine OpR.call (s:=⟨fr L,hp G,n⟩) ho (X0s hx q1) ?_;rw[Xfw hargs q2];exact HC.of_pure p1 p2 p3 p4
   ·cases h
  ·cases h
 ·exact OpR.pu hT (s:=⟨fr L,hp G,n⟩) (Xxs h hp')
def opS (P:Program) (T:Ty) (L:List (Nat×AV)) (G:List (Nat×Obj)) (n:Nat) (op:Op) (hs:List X28):OR :=
 match op with
 |.store t p x=>match stS T L G t p x hs with
  |some (G,hs,ps)=>some (.sc undef,G,n,hs,ps)
  |none=>none
 |.call { callee:=.value x,args:=args,argTypes:=ts }=>match hs with
  |.call r G' n'::hs=>match rd L x with
   |(.fn f caps,p)=>match rds L args.toList with
    |(as,q)=>some (r,G',n',hs,X00n P f (as++caps) G n r G' n'::(p++q))
   |_=>none
  |hs=>match quS P T L G (.call { callee:=.value x,args:=args,argTypes:=ts }) hs with
   |some (a,hs,ps)=>some (a,G,n,hs,ps)
   |none=>none
 |op=>match quS P T L G op hs with
  |some (a,hs,ps)=>some (a,G,n,hs,ps)
  |none=>match mkS T L (hp G) n op hs with
   |some (a,e,hs,ps)=>match Xx9 e with
    |true=>some (a,effS n G e,n+1,hs,ps)
    |false=>none
   |none=>none
theorem Xxt {P:Program} {T:Ty} {nt:Nat} {L:List (Nat×AV)} {G G':List (Nat×Obj)} {n n':Nat} {o:Oper} {hs hs':List X28} {ps:List Prop} {a:AV} (hT:Xat P T)
  (h:opS P T L G n o.op hs=some (a,G',n',hs',ps)) (hp':X3z ps):OpR P nt o ⟨fr L,hp G,n⟩ (λa' H' n2=>a'=a/\H'=hp G'/\n2=n'):=by
 unfold opS at h;split at h
 ·rename_i ho;split at h
  ·rename_i hs;cases h
   have:=X01d hs hp';exact OpR.st hT (s:=⟨fr L,hp G,n⟩) (by rw[ho];exact this)
  ·cases h
 ·rename_i ho;split at h
  ·split at h
   ·rename_i hx;split at h
    rename_i hargs;cases h
    obtain⟨p1,q⟩:=hp';obtain⟨q1,q2⟩:=X0k.1 q;refine OpR.call (s:=⟨fr L,hp G,n⟩) ho (X0s hx q1) ?_;rw[Xfw hargs q2];exact p1.hc
   ·cases h
  ·split at h
   ·rename_i hq;cases h
    rw[<-ho] at hq;exact Xsr hT hq hp'
   ·cases h
 ·split at h
  ·rename_i hpu;cases h
   exact Xsr hT hpu hp'
  ·split at h
   ·rename_i hmk;split at h
    ·rename_i he;cases h
     obtain⟨h1,h2⟩:=Xpt hmk hp';rw[Xzx _ _ _ he];exact OpR.mk hT (s:=⟨fr L,hp G,n⟩) h1 h2
    ·cases h
   ·cases h
end Go.Av


namespace Go.Av
def Xis (R:Option Nat) (P:Program) (c:Code) (Q:Exit->Act->World->Prop) (a:Act) (w:World):Prop :=
 ∀ (b:Frame) (k:List Item) (cs:List Frame),b.roundOf=R->∃ e a' w',Q e a' w'/\ArrivesIn (Machine.fenced P (FR R)) P (lone (b.atR a (.code c::.inLoop c::k)) cs w) b k cs e a' w'
theorem Xis.start {R:Option Nat} {P:Program} {c:Code} {Q:Exit->Act->World->Prop} {a:Act} {w:World} (h:Xis R P c Q a w):wpR R P (Code.loop c) Q a w:=by
 intro b k cs hro hb hr;obtain⟨e,a',w',hq,harr⟩:=h b k cs hro;exact⟨e,a',w',hq,.of_steps (.one (Xmu P R _) stepR_loop) harr⟩
theorem Xis.round {R:Option Nat} {P:Program} {c:Code} {Q:Exit->Act->World->Prop} {a:Act} {w:World} (h:wpR R P c (Exit.then (Xis R P c Q) Q) a w):Xis R P c Q a w:=by
 intro b k cs hro;obtain⟨e,a₁,w₁,hq,harr⟩:=h b (.inLoop c::k) cs hro trivial (Xyr R _)
 cases e with
 |normal =>
  obtain⟨e₂,a₂,w₂,hq₂,harr₂⟩:=hq b k cs hro;exact⟨e₂,a₂,w₂,hq₂,.of_steps (StepsIn.trans harr (.one (Xmu P R _) stepR_inLoop)) harr₂⟩
 |exit id=>exact⟨_,a₁,w₁,hq,.pass (x:=.inLoop c) rfl (λ_ _=>.inl (by simp)) harr⟩
 |goto l=>exact⟨_,a₁,w₁,hq,.pass (x:=.inLoop c) rfl (λ_ _=>.inl (by simp)) harr⟩
 |ret=>exact⟨_,a₁,w₁,hq,.pass (x:=.inLoop c) rfl (λ_ _=>.inl (by simp)) harr⟩
 |panic ch=>exact⟨_,a₁,w₁,hq,.pass (x:=.inLoop c) rfl (λ_ _=>.inl (by simp)) harr⟩
 |outgrown=>exact⟨_,a₁,w₁,hq,.pass (x:=.inLoop c) rfl (λ_ _=>.inl (by simp)) harr⟩
def X87 (P:Program) (nt n0:Nat) (b:Code) (Q:Xx->St->Mu->Prop) (s:St) (μ:Mu):Prop :=
 ∀ (c0:Ctx) (H0:X0j) (c:Ctx) (act:Act),X4c nt c0 H0 n0 c s act->MOk n0 c0 c s.H μ act->∀ R,RG b R->Xis R P b (MQ nt c0 H0 n0 Q) act c.w
def rndM (P:Program) (nt n0:Nat) (b:Code) (Q:Xx->St->Mu->Prop):Xx->St->Mu->Prop
 |.normal,s,μ=>X87 P nt n0 b Q s μ
 |e,s,μ=>Q e s μ
theorem X4h.loop {P:Program} {nt n0:Nat} {b:Code} {Q:Xx->St->Mu->Prop} {s:St} {μ:Mu} (h:X87 P nt n0 b Q s μ):X4h P nt n0 (.loop b) Q s μ :=
 λc0 H0 c act g hm R hR=>(h c0 H0 c act g hm R hR).start
theorem X87.round {P:Program} {nt n0:Nat} {b:Code} {Q:Xx->St->Mu->Prop} {s:St} {μ:Mu} (h:X4h P nt n0 b (rndM P nt n0 b Q) s μ):X87 P nt n0 b Q s μ:=by
 intro c0 H0 c act g hm R hR;refine Xis.round (wpIn_mono (h c0 H0 c act g hm R hR) ?_);rintro e a w ⟨c',s',ae,μ',rfl,g',hm',rfl,hq⟩
 cases ae with
 |normal=>exact hq c0 H0 c' a g' hm' R hR
 |exit id=>exact⟨c',s',.exit id,μ',rfl,g',hm',rfl,hq⟩
 |ret=>exact⟨c',s',.ret,μ',rfl,g',hm',rfl,hq⟩
section
variable {P:Program} {nt n0:Nat} {s:St} {μ:Mu} {ops:Array Oper} {l:List Oper} {o:Oper} {K:St->Mu->Prop}
theorem X54.nil (h:K s μ):X54 P nt n0 ops [] K s μ:=λ_ _ c act g hm Qx hQ _ _=>Xna (hQ c s act μ g hm h)
theorem X54.step {R:AV->X0j->Nat->Prop} (hw:∀ (c0 c:Ctx) (H0:X0j) (act:Act),X4c nt c0 H0 n0 c s act->Region.wanted o (yielded ops act.tmps)=true) (hd:∀ d,o.dst=some d->d<nt) (h:OpR P nt o s R)
  (hn:∀ a H' n',R a H' n'->X54 P nt n0 ops l K ⟨Xcl s.A o.dst a,H',n'⟩ μ):X54 P nt n0 ops (o::l) K s μ:=by
 intro c0 H0 c act g hm Qx hQ R hR;refine X4r λK' hK'=>?_;rw[if_pos (hw c0 c H0 act g)];refine h c s.H n0 c act g.rebase K' Qx (λc' a H' n' v hr hgood=>?_) R;have g2:=hgood o.dst hd;exact hK' _ _ (hn a H' n' hr c0 H0 c' _ (.join g.reach g2) (hm.kept g2.reach) Qx hQ R hR)
theorem X54.plain {R:AV->X0j->Nat->Prop} (hg:o.guard=none) (hd:∀ d,o.dst=some d->d<nt) (h:OpR P nt o s R)
  (hn:∀ a H' n',R a H' n'->X54 P nt n0 ops l K ⟨Xcl s.A o.dst a,H',n'⟩ μ):X54 P nt n0 ops (o::l) K s μ :=
 X54.step (λ_ _ _ _ _=>by simp[Region.wanted,hg]) hd h hn
def gdS (want:Bool):AV->Option Bool
 |.sc (.bool b)=>match want with
  |true=>some b
  |false=>some (!b)
 |.cond g (.sc (.bool b))=>match want with
  |true=>some (g&&b)
  |false=>some (g&&!b)
 |_=>none
theorem Xbw {j t:Nat} {want g:Bool} (hg:o.guard=some (j,want)) (hj:(ops[j]?).bind (·.dst)=some t) (ht:Nat.blt t nt=true) (hb:gdS want (s.A t)=some g)
  {c0 c:Ctx} {H0:X0j} {act:Act} (gd:X4c nt c0 H0 n0 c s act):Region.wanted o (yielded ops act.tmps)=g:=by
 have hlt:t<act.tmps.size:=by rw[gd.size];simpa using ht
 have hf:=gd.frame t;have hy:∀ v,act.tmps.getD t undef=v->yielded ops act.tmps j=(match v with|.bool b=>some b|_=>none):=by
  intro v hv;unfold yielded;rw[hj];simp only[Option.bind_some,Array.getElem?_eq_getElem hlt];have:act.tmps[t]=v:=by simpa[hlt] using hv
  rw[this];cases v<;>rfl
 unfold gdS at hb;split at hb
 ·rename_i b hA;rw[hA] at hf;have:=hy _ hf.sc_inv;simp only at this;unfold Region.wanted;rw[hg];simp only[this];cases b<;>(split at hb<;>cases hb<;>rfl)
 ·rename_i q b hA;rw[hA] at hf
  cases hf with
  |cond h hn =>
   cases q with
   |true =>
    have:=hy _ (h rfl).sc_inv;simp only at this;unfold Region.wanted;rw[hg];simp only[this];cases b<;>(split at hb<;>cases hb<;>rfl)
   |false =>
    have:=hy _ (hn rfl);have hu:yielded ops act.tmps j=none:=this;unfold Region.wanted;rw[hg];simp only[hu];split at hb<;>cases hb<;>rfl
 ·cases hb
theorem X54.skip {j t:Nat} {want:Bool} (hg:o.guard=some (j,want)) (hj:(ops[j]?).bind (·.dst)=some t) (ht:Nat.blt t nt=true) (hb:gdS want (s.A t)=some false)
  (hd:∀ d,o.dst=some d->d<nt) (hn:X54 P nt n0 ops l K ⟨Xcl s.A o.dst (.cond false (.sc (.bool false))),s.H,s.n⟩ μ):X54 P nt n0 ops (o::l) K s μ:=by
 intro c0 H0 c act g hm Qx hQ R hR;refine X4r λK' hK'=>?_;rw[if_neg (by rw[Xbw hg hj ht hb g];simp)];have g2:X4c nt c s.H n0 c _ _:=g.rebase.next hd (.refl c) rfl (λb hb=>.inl hb) (.refl c s.H) (λq x hx=>.inr ⟨q,x,hx,rfl⟩) g.inv g.solo (Nat.le_refl _) (v:=undef) (a:=.cond false (.sc (.bool false))) (.cond (λh=>by cases h) (λ_=>rfl)) (.cond .sc);exact hK' _ _ (hn c0 H0 c _ (.join g.reach g2) (hm.kept g2.reach) Qx hQ R hR)
theorem X54.quiet {j t:Nat} {want b:Bool} {a:AV} (hg:o.guard=some (j,want)) (hj:(ops[j]?).bind (·.dst)=some t) (ht:Nat.blt t nt=true) (hb:gdS want (s.A t)=some b)
  (hd:∀ d,o.dst=some d->d<nt) (hok:a.Ok (·<s.n)) (h:b=true->OpR P nt o s (λa' H' n'=>a'=a/\H'=s.H/\n'=s.n))
  (hn:X54 P nt n0 ops l K ⟨Xcl s.A o.dst (.cond b a),s.H,s.n⟩ μ):X54 P nt n0 ops (o::l) K s μ:=by
 cases b with
 |true =>
  refine X54.step (λc0 c H0 act g=>Xbw hg hj ht hb g) hd (R:=λa' H' n'=>(a'=.cond true a)/\H'=s.H/\n'=s.n) ?_ ?_
  ·intro c0 H0 n0 c act g K Q hK R;refine h rfl c0 H0 n0 c act g K Q (λc' a' H' n' v hR hgood=>?_) R;obtain⟨rfl,rfl,rfl⟩:=hR;refine hK c' (.cond true a') _ _ v ⟨rfl,rfl,rfl⟩ λdst hd=>?_;have g2:=hgood dst hd;refine⟨g2.inv,g2.solo,λq=>?_,λq=>?_,g2.size,g2.reach,g2.le0⟩
   ·have h1:=g2.frame q
    cases dst with
    |none=>exact h1
    |some d =>
     simp only[Xcl] at h1 ⊢;by_cases hq:q=d
     ·subst hq;rw[Xh] at h1 ⊢;exact .cond (λ_=>h1) (λh=>by cases h)
     ·rw[Xj _ _ hq] at h1 ⊢;exact h1
   ·have h1:=g2.ok q
    cases dst with
    |none=>exact h1
    |some d =>
     simp only[Xcl] at h1 ⊢;by_cases hq:q=d
     ·subst hq;rw[Xh] at h1 ⊢;exact .cond h1
     ·rw[Xj _ _ hq] at h1 ⊢;exact h1
  ·rintro _ _ _ ⟨rfl,rfl,rfl⟩;exact hn
 |false =>
  intro c0 H0 c act g hm Qx hQ R hR;refine X4r λK' hK'=>?_;rw[if_neg (by rw[Xbw hg hj ht hb g];simp)];have g2:X4c nt c s.H n0 c _ _:=g.rebase.next hd (.refl c) rfl (λb hb=>.inl hb) (.refl c s.H) (λq x hx=>.inr ⟨q,x,hx,rfl⟩) g.inv g.solo (Nat.le_refl _) (v:=undef) (a:=.cond false a) (.cond (λh=>by cases h) (λ_=>rfl)) (.cond hok);exact hK' _ _ (hn c0 H0 c _ (.join g.reach g2) (hm.kept g2.reach) Qx hQ R hR)
theorem X4h.region {id:Nat} {Q:Xx->St->Mu->Prop} (h:X54 P nt n0 ops ops.toList (λs μ=>Q .normal s μ) s μ):X4h P nt n0 (.region id ops false) Q s μ:=by
 intro c0 H0 c act g hm R _;exact wpIn_region_list (h c0 H0 c act g hm _ (λc' s' act' μ' g' hm' hq=>⟨c',s',.normal,μ',rfl,g',hm',rfl,hq⟩) (some R) (λh=>by cases h))
end
mutual
theorem Xps (M:Nat->Bool):∀ (a:AV),AV.okB M a=true->a.Ok (λo=>M o=true)
 |.junk=>λ_=>.junk
 |.sc _=>λ_=>.sc
 |.nils=>λ_=>.nils
 |.agg cs=>λh=>.agg (Xkq M cs h)
 |.tup cs=>λh=>.tup (Xkq M cs h)
 |.list ..=>λ_=>.list
 |.ref ..=>λh=>.ref h
 |.ptr ..=>λh=>.ptr h
 |.elem ..=>λ_=>.elem
 |.fn _ caps=>λh=>.fn (Xkq M caps h)
 |.mref ..=>λh=>.mref h
 |.cond _ v=>λh=>.cond (Xps M v h)
theorem Xkq (M:Nat->Bool):∀ (l:List AV),AV.oksB M l=true->∀ a∈l,a.Ok (λo=>M o=true)
 |[]=>λ_ _ h=>by cases h
 |a::r=>λh x hx=>by
  have h':(AV.okB M a&&AV.oksB M r)=true:=h;simp only[Bool.and_eq_true] at h';rcases List.mem_cons.1 hx with he|hx
  ·rw[he];exact Xps M a h'.1
  ·exact Xkq M r h'.2 x hx
end
theorem okLt {n:Nat} {a:AV} (h:AV.okB (λo=>Nat.blt o n) a=true):a.Ok (·<n):=(Xps _ a h).mono λo ho=>by simpa using ho
inductive Kn where
 |seq (c:Code)
 |block (id:Nat)
 |loop (b:Code)
inductive Cf where
 |code (c:Code)
 |exit (e:Xx)
 |ops (ops:Array Oper) (l:List Oper)
 |loop (b:Code)
def Cl (nt n0:Nat) (Q:Xx->St->Mu->Prop):Xx->St->Mu->Prop:=λe s μ =>
 ∀ (c0:Ctx) (H0:X0j) (c:Ctx) (act:Act),X4c nt c0 H0 n0 c s act->MOk n0 c0 c s.H μ act->∃ c' s',c'.w=c.w/\X4c nt c0 H0 n0 c' s' act/\MOk n0 c0 c' s'.H μ act/\Q e s' μ
theorem Cl.mk {nt n0:Nat} {Q:Xx->St->Mu->Prop} {e:Xx} {s:St} {μ:Mu} (h:Q e s μ):Cl nt n0 Q e s μ:=λ_ _ c _ g hm=>⟨c,s,rfl,g,hm,h⟩
theorem X4h.ofCl {P:Program} {nt n0:Nat} {Q:Xx->St->Mu->Prop} {code:Code} {s:St} {μ:Mu} (h:X4h P nt n0 code (Cl nt n0 Q) s μ):X4h P nt n0 code Q s μ:=by
 intro c0 H0 c act g hm R hR;refine wpIn_mono (h c0 H0 c act g hm R hR) ?_;rintro e a w ⟨c',s',ae,μ',rfl,g',hm',rfl,hq⟩;obtain⟨c2,s2,h1,h2,h3,h4⟩:=hq c0 H0 c' a g' hm';exact⟨c2,s2,ae,μ',h1,h2,h3,rfl,h4⟩
def Xdl (P:Program) (nt n0:Nat) (Q:Xx->St->Mu->Prop):List Kn->Xx->St->Mu->Prop
 |[]=>Cl nt n0 Q
 |.seq c::K=>seqM P nt n0 c (Xdl P nt n0 Q K)
 |.block id::K=>X88 id (Xdl P nt n0 Q K)
 |.loop b::K=>rndM P nt n0 b (Xdl P nt n0 Q K)
def X2 (P:Program) (nt n0:Nat) (Q:Xx->St->Mu->Prop) (cf:Cf) (K:List Kn) (s:St) (μ:Mu):Prop :=
 match cf with
 |.code c=>X4h P nt n0 c (Xdl P nt n0 Q K) s μ
 |.exit e=>Xdl P nt n0 Q K e s μ
 |.ops ops l=>X54 P nt n0 ops l (λs μ=>Xdl P nt n0 Q K .normal s μ) s μ
 |.loop b=>X87 P nt n0 b (Xdl P nt n0 Q K) s μ
def SSt (L:List (Nat×AV)) (G:List (Nat×Obj)) (n:Nat):St:=⟨fr L,hp G,n⟩
def Xw8 {β:Type} (d:Option Nat) (a:AV) (L:List (Nat×AV)) (k:List (Nat×AV)->Option β):Option β :=
 match d with
 |some d=>k ((d,a)::L)
 |none=>k L
def Xw7 (d:Option Nat) (a:AV) (L:List (Nat×AV)):List (Nat×AV) :=
 match d with
 |some d=>(d,a)::L
 |none=>L
theorem Xc3 {β:Type} (d:Option Nat) (a:AV) (L:List (Nat×AV)) (k:List (Nat×AV)->Option β):Xw8 d a L k=k (Xw7 d a L):=by cases d<;>rfl
theorem X61 (d:Option Nat) (a:AV) (L:List (Nat×AV)):fr (Xw7 d a L)=Xcl (fr L) d a:=by
 cases d<;>rfl
def Xg0 {β:Type}:List (Nat×Obj)->(List (Nat×Obj)->Option β)->Option β
 |[],k=>k []
 |p::r,k=>Xg0 r λr=>k (p::r)
theorem Xc9 {β:Type}:∀ (G:List (Nat×Obj)) (k:List (Nat×Obj)->Option β),Xg0 G k=k G:=by
 intro G
 induction G with
 |nil=>intro k;rfl
 |cons p r ih=>intro k;simp[Xg0,ih]
def Xrr {β:Type}:List Prop->List Prop->(List Prop->Option β)->Option β
 |[],ps,k=>k ps
 |q::r,ps,k=>Xrr r (q::ps) k
def oweL:List Prop->List Prop->List Prop
 |[],ps=>ps
 |q::r,ps=>oweL r (q::ps)
theorem Xb4 {β:Type}:∀ (qs ps:List Prop) (k:List Prop->Option β),Xrr qs ps k=k (oweL qs ps):=by
 intro qs
 induction qs with
 |nil=>intro ps k;rfl
 |cons q r ih=>intro ps k;simp[Xrr,oweL,ih]
theorem X8a:∀ {qs ps:List Prop},X3z (oweL qs ps)->X3z qs/\X3z ps:=by
 intro qs
 induction qs with
 |nil=>intro ps h;exact⟨trivial,h⟩
 |cons q r ih=>intro ps h;obtain⟨h1,h2⟩:=ih h;exact⟨⟨h2.1,h1⟩,h2.2⟩
def Xvf (bad:List Nat):List (Nat×AV)->List (Nat×AV)
 |[]=>[]
 |(d,a)::l=>bif Xnz d bad then Xvf bad l else (d,a)::Xvf bad l
theorem Xie (bad:List Nat):∀ L,fr (Xvf bad L)=frD bad (fr L):=by
 intro L;funext t
 induction L with
 |nil=>simp[Xvf,fr,frD]
 |cons p l ih =>
  obtain⟨d,a⟩:=p;simp only[Xvf]
  cases hb:Xnz d bad with
  |true =>
   simp only[cond_true,ih,frD,fr]
   cases ht:Xnz t bad with
   |true=>rfl
   |false =>
    have:Nat.beq t d=false:=by
     rw[<-Bool.not_eq_true,Nat.beq_eq];intro e;subst e;rw[hb] at ht;cases ht
    simp[this]
  |false =>
   simp only[cond_false,frD,fr]
   cases hq:Nat.beq t d with
   |true =>
    have:t=d:=Nat.eq_of_beq_eq_true hq;subst this;simp[hb]
   |false =>
    simp only[cond_false,ih,frD]
def Xzu (base mi:Nat) (hf:Nat->Bool) (es:List X3x):List (Nat×Obj)->List (Nat×Obj)
 |[]=>[]
 |(o,x)::l=>bif Xc7 base mi hf es o then Xzu base mi hf es l else (o,x)::Xzu base mi hf es l
theorem Xtz (base mi:Nat) (hf:Nat->Bool) (es:List X3x):∀ G,hp (Xzu base mi hf es G)=hpD base mi hf es (hp G):=by
 intro G;funext q
 induction G with
 |nil=>simp[Xzu,hp,hpD]
 |cons p l ih =>
  obtain⟨o,x⟩:=p;simp only[Xzu]
  cases hb:Xc7 base mi hf es o with
  |true =>
   simp only[cond_true,ih,hpD,hp]
   cases ht:Xc7 base mi hf es q with
   |true=>rfl
   |false =>
    have:Nat.beq q o=false:=by
     rw[<-Bool.not_eq_true,Nat.beq_eq];intro e;subst e;rw[hb] at ht;cases ht
    simp[this]
  |false =>
   simp only[cond_false,hpD,hp]
   cases hq:Nat.beq q o with
   |true =>
    have:q=o:=Nat.eq_of_beq_eq_true hq;subst this;simp[hb]
   |false =>
    simp only[cond_false,ih,hpD]
def Xvo (id:Nat) (G:List (Nat×Obj)):X3x->List (Nat×Obj)
 |.none=>G
 |.new x=>(id,x)::G
 |.app old x=>(id,x)::Xrf old G
 |.set o x=>(o,x)::Xrf o G
def Xjs:X3x->Bool
 |.none=>true
 |.new x=>!x.gone
 |.app _ x=>!x.gone
 |.set _ x=>!x.gone
theorem Xpf (id:Nat) (G:List (Nat×Obj)) (e:X3x) (he:Xjs e=true):hp (Xvo id G e)=e.go id (hp G):=by
 cases e with
 |none=>rfl
 |new x=>rw[X3x.go_new];exact Xc6 _ _ _ (by simpa[Xjs] using he)
 |app old x=>rw[X3x.go_app];simp only[Xvo,Xc6 _ _ _ (show x.gone=false by simpa[Xjs] using he),Xil]
 |set o x=>rw[X3x.go_set];exact Xop o x G (by simpa[Xjs] using he)
abbrev DR:=Option (AV×X3x×List X28×List Prop)
def capS (T:Ty) (L:List (Nat×AV)) (G:List (Nat×Obj)) (id:Nat) (op:Op) (hs:List X28):DR :=
 match op with
 |.call { callee:=.builtin .append,args:=⟨[s,x]⟩,argTypes:=⟨[t,t']⟩ }=>if t=t' then (match hs with
  |.go b::.ix g::hs=>match X4j T t with
   |some te=>match rd L (.tmp g) with
    |(.mref o' m,p0)=>match rd L s,rd L x with
     |(.ref o 0 n,p),(xb,q)=>if o'=o then (match hp G o with
      |some y=>if y.esz=te.size then (match srcS (hp G) xb (p0++(p++q)) with
       |some (xs,ps)=>match b with
        |true=>some (.ref id 0 (n+xs.length),.new { es:=y.es++xs,esz:=te.size },hs,
          (m=n)::(y.es.length=n)::(xs≠[])::(n+xs.length<=maxLen)::((n+xs.length)*te.bytes<=140737488355328)::(∀ e∈xs,e.cells.length=te.size)::ps)
        |false=>match hs with
         |.via (.list _ es')::hs=>some (.ref o 0 (n+xs.length),.set o { y with es:=es' },hs,
          (y.es.take n++xs++y.es.drop (n+xs.length)=es')::(n+xs.length<=m)::(n<=y.es.length)::(xs≠[])::(∀ e∈xs,e.cells.length=te.size)::ps)
         |_=>none
       |none=>none) else none
      |none=>none) else none
     |_,_=>none
    |_=>none
   |none=>none
  |_=>none) else none
 |_=>none
theorem X00d {P:Program} {T:Ty} {L:List (Nat×AV)} {G:List (Nat×Obj)} {id:Nat} {o:Oper} {hs hs':List X28} {ps:List Prop} {a:AV} {e:X3x} (h:capS T L G id o.op hs=some (a,e,hs',ps)) (hp':X3z ps) :
  DOp P T (fr L) (hp G) id o a e:=by
 unfold capS at h;split at h
 ·rename_i ho;split at h
  ·rename_i htt;subst htt;split at h
   ·split at h
    ·rename_i hty;obtain⟨ti,et,h1,h2,h3⟩:=X27 hty;split at h
     ·rename_i hrg;split at h
      ·rename_i hrs hrx;split at h
       ·rename_i hoo;subst hoo;split at h
        ·rename_i hH;split at h
         ·rename_i hes;split at h
          ·rename_i hsrc;split at h
           ·cases h
            obtain⟨p1,p2,p3,p4,p5,p6,p7⟩:=hp';obtain⟨s1,s2⟩:=X4u hsrc p7;obtain⟨q0,q12⟩:=X0k.1 s2;obtain⟨q1,q2⟩:=X0k.1 q12;refine .new ?_ rfl rfl;rw[ho];exact .appendFull (X0s hrs q1) (by rw[X0s hrg q0,p1]) hH p2 hes (by rw[X0s hrx q2];exact s1) p3 h1 h2 h3 p6 p4 p5
           ·split at h
            ·cases h
             obtain⟨rfl,p1,p2,p3,p6,p7⟩:=hp';obtain⟨s1,s2⟩:=X4u hsrc p7;obtain⟨q0,q12⟩:=X0k.1 s2;obtain⟨q1,q2⟩:=X0k.1 q12;exact .room ho (X0s hrs q1) (X0s hrg q0) hH p2 p1 hes (by rw[X0s hrx q2];exact s1) p3 h1 h2 h3 p6
            ·cases h
          ·cases h
         ·cases h
        ·cases h
       ·cases h
      ·cases h
     ·cases h
    ·cases h
   ·cases h
  ·cases h
 ·cases h
def dopS (P:Program) (T:Ty) (L:List (Nat×AV)) (G:List (Nat×Obj)) (id:Nat) (o:Oper) (hs:List X28):DR :=
 match o.op with
 |.store t p x=>match o.dst with
  |none=>match stO T L G t p x hs with
   |some (q,z,hs,ps)=>some (.sc undef,.set q z,hs,ps)
   |none=>none
  |some _=>none
 |.call { callee:=.value x,args:=args,argTypes:=_ }=>match hs with
  |.pure bs r::hs=>match rd L x with
   |(.fn f [],p)=>match rds L args.toList with
    |(as,q)=>match AV.okB (λ_=>false) r with
     |true=>some (r,.none,hs,X5h P f (hp G) as bs r::(p++q))
     |false=>none
   |_=>none
  |_=>none
 |op=>match puS T L (hp G) op hs with
  |some (a,hs,ps)=>some (a,.none,hs,ps)
  |none=>match capS T L G id op hs with
   |some r=>some r
   |none=>match mkS T L (hp G) id op hs with
    |some (a,.none,hs,ps)=>some (a,.none,hs,ps)
    |some (a,.new x,hs,ps)=>some (a,.new x,hs,ps)
    |some (a,.app old x,hs,ps)=>some (a,.app old x,hs,ps)
    |none=>none
theorem Xu1 {P:Program} {T:Ty} {L:List (Nat×AV)} {G:List (Nat×Obj)} {id:Nat} {o:Oper} {hs hs':List X28} {ps:List Prop} {a:AV} {e:X3x} (h:dopS P T L G id o hs=some (a,e,hs',ps)) (hp':X3z ps) :
  DOp P T (fr L) (hp G) id o a e:=by
 unfold dopS at h;split at h
 ·rename_i ho;split at h
  ·rename_i hd;split at h
   ·rename_i hst;cases h
    obtain⟨i,k,y,e,ti,h1,h2,h3,h4,h5,h6,h7,h8,h9,rfl⟩:=Xxm hst hp';exact .store ho hd h1 h2 h4 h5 h6 h7 h8 h9
   ·cases h
  ·cases h
 ·rename_i ho;split at h
  ·split at h
   ·rename_i hx;split at h
    rename_i hargs;split at h
    ·rename_i hok;cases h
     obtain⟨⟨p1,Hr,p2,p3,p4⟩,q⟩:=hp';obtain⟨q1,q2⟩:=X0k.1 q;rw[<-Xfw hargs q2] at p2;refine .pure ho (X0s hx q1) p2 p1 p3 (p4.imp (λh=>h) λhn=>⟨hn,λM=>?_⟩);exact(Xps _ _ hok).mono λo ho=>by cases ho
    ·cases h
   ·cases h
  ·cases h
 ·split at h
  ·rename_i hpu;cases h
   exact .pu (Xxs hpu hp')
  ·split at h
   ·rename_i hca;cases h;exact X00d hca hp'
   ·split at h
    ·rename_i hm;cases h;exact .zero (Xpt hm hp').1
    ·rename_i hm;cases h;obtain⟨h1,h2⟩:=Xpt hm hp';have:=h2 0 _ (.inr rfl);exact .new h1 this.1 this.2
    ·rename_i hm;cases h;obtain⟨h1,h2⟩:=Xpt hm hp';have:=h2 _ _ (.inl rfl);exact .app h1 this.1 this.2
    ·cases h
def rawB (want:Bool) (a:AV):Option (Bool×List Prop) :=
 match a with
 |.sc (.bool b)=>match want with
  |true=>some (b,[])
  |false=>some (!b,[])
 |.cond g (.sc (.bool b))=>match want with
  |true=>some (b,[g=true])
  |false=>some (!b,[g=true])
 |_=>none
theorem Xsq {want g:Bool} {a:AV} {qs:List Prop} (h:rawB want a=some (g,qs)) (hq:X3z qs):∃ b,Xax a=.sc (.bool b)/\g=(b==want):=by
 unfold rawB at h;split at h
 ·rename_i b;refine⟨b,rfl,?_⟩;cases b<;>(split at h<;>(cases h;rfl))
 ·rename_i q b;split at h
  ·cases h;obtain⟨rfl,_⟩:=hq;exact⟨g,rfl,by cases g<;>rfl⟩
  ·cases h;obtain⟨rfl,_⟩:=hq;exact⟨b,rfl,by cases b<;>rfl⟩
 ·cases h
def Xfl (hz:Oper->Nat->Bool) (P:Program) (T:Ty) (nt base:Nat) (ops:Array Oper) (ms:List Nat) (zs:List (Nat×(Nat->Bool))):Nat->List Oper->List (Nat×AV)->List (Nat×Obj)->List X3x->List X28->List Prop->Option (List (Nat×AV)×List (Nat×Obj)×List X28×List Prop)
 |_,[],L,G,_,hs,ps=>some (L,G,hs,ps)
 |i,o::l,L,G,es,hs,ps =>
  if Xbh nt (X5q i (ms.getD i 0) 0 ops.toList ms) o.dst=true then (match o.guard with
   |none=>match dopS P T (Xvf (X5q i (ms.getD i 0) 0 ops.toList ms) L) (Xzu base (ms.getD i 0) (hz o) es G) (base+i) o hs with
    |some (a,e,hs',qs)=>if (Xjs e&&X5w base (ms.getD i 0) (e.objs (base+i)) 0 (zs.take i) [] es)=true then
      Xca a λa=>Xw8 o.dst a L λL=>Xg0 (Xvo (base+i) G e) λG=>Xrr qs ps λps=>Xfl hz P T nt base ops ms zs (i+1) l L G (es++[e]) hs' ps else none
    |none=>none
   |some (j,want)=>match (ops[j]?).bind (·.dst) with
    |some t=>if Nat.blt t nt=true then (match hs with
     |.go true::hs=>match rawB want (fr (Xvf (X5q i (ms.getD i 0) 0 ops.toList ms) L) t) with
      |some (g,rs)=>match dopS P T (Xvf (X5q i (ms.getD i 0) 0 ops.toList ms) L) (Xzu base (ms.getD i 0) (hz o) es G) (base+i) o hs with
       |some (a,e,hs',qs)=>if (Xjs e&&X5w base (ms.getD i 0) (e.objs (base+i)) 0 (zs.take i) [] es)=true then
         Xca a λa=>Xw8 o.dst a L λL=>Xg0 (Xvo (base+i) G e) λG=>Xrr rs ps λps=>Xrr qs ((g=true)::ps) λps=>Xfl hz P T nt base ops ms zs (i+1) l L G (es++[e]) hs' ps else none
       |none=>none
      |none=>none
     |.go false::hs=>match rawB want (fr (Xvf (X5q i (ms.getD i 0) 0 ops.toList ms) L) t) with
      |some (g,rs)=>Xw8 o.dst (.sc undef) L λL=>Xrr rs ps λps=>Xfl hz P T nt base ops ms zs (i+1) l L G (es++[.none]) hs ((g=false)::ps)
      |none=>none
     |.no::hs=>match fr (Xvf (X5q i (ms.getD i 0) 0 ops.toList ms) L) t with
      |.sc v=>match Xmz want v with
       |false=>Xw8 o.dst (.sc undef) L λL=>Xfl hz P T nt base ops ms zs (i+1) l L G (es++[.none]) hs ps
       |true=>none
      |_=>none
     |_=>none) else none
    |none=>none) else none
theorem Xlf {hz:Oper->Nat->Bool} {P:Program} {T:Ty} {nt base:Nat} {ops:Array Oper} {ms:List Nat}:∀ (l:List Oper) (i:Nat) (L:List (Nat×AV)) (G:List (Nat×Obj)) (es:List X3x) (hs:List X28) (ps:List Prop) (L':List (Nat×AV)) (G':List (Nat×Obj)) (hs':List X28) (ps':List Prop),
  Xfl hz P T nt base ops ms (ms.zip (ops.toList.map hz)) i l L G es hs ps=some (L',G',hs',ps')->X3z ps'->X3z ps/\Xup hz P T nt base ops ms i l (fr L) (hp G) es (fr L') (hp G'):=by
 intro l
 induction l with
 |nil=>intro i L G es hs ps L' G' hs' ps' h hp';simp only[Xfl] at h;cases h;exact⟨hp',.nil⟩
 |cons o l ih =>
  intro i L G es hs ps L' G' hs' ps' h hp';simp only[Xfl] at h;split at h
  ·rename_i hd;split at h
   ·rename_i hg;split at h
    ·rename_i a e _ qs hop;split at h
     ·rename_i hw;obtain⟨he,hw⟩:=Bool.and_eq_true_iff.1 hw;rw[X6t,Xc3,Xc9,Xb4] at h;obtain⟨h1,h2⟩:=ih _ _ _ _ _ _ _ _ _ _ h hp';obtain⟨p1,p2⟩:=X8a h1;have hop':=Xu1 hop p1;rw[Xie,Xtz] at hop';rw[X61,Xpf _ _ _ he] at h2;exact⟨p2,.op hg hd hop' hw h2⟩
     ·cases h
    ·cases h
   ·rename_i j want hg;split at h
    ·rename_i hj;split at h
     ·rename_i ht;split at h
      ·split at h
       ·rename_i hr;split at h
        ·rename_i hop;split at h
         ·rename_i hw;obtain⟨he,hw⟩:=Bool.and_eq_true_iff.1 hw;rw[X6t,Xc3,Xc9,Xb4,Xb4] at h;obtain⟨h1,h2⟩:=ih _ _ _ _ _ _ _ _ _ _ h hp';obtain⟨p1,p0,p2⟩:=X8a h1;obtain⟨p3,p4⟩:=X8a p2;have hop':=Xu1 hop p1;rw[Xie,Xtz] at hop';rw[X61,Xpf _ _ _ he] at h2;obtain⟨b,hb1,hb2⟩:=Xsq hr p3;rw[Xie] at hb1;have:b=want:=by rw[p0] at hb2;simpa using hb2.symm
          subst this;exact⟨p4,.run hg hd hj ht hb1 hop' hw h2⟩
         ·cases h
        ·cases h
       ·cases h
      ·split at h
       ·rename_i hr;rw[Xc3,Xb4] at h;obtain⟨h1,h2⟩:=ih _ _ _ _ _ _ _ _ _ _ h hp';obtain⟨p0,p2⟩:=h1;obtain⟨p3,p4⟩:=X8a p2;rw[X61] at h2;obtain⟨b,hb1,hb2⟩:=Xsq hr p3;rw[Xie] at hb1;exact⟨p4,.skip hg hd hj ht hb1 (by rw[p0] at hb2;exact hb2.symm) h2⟩
       ·cases h
      ·split at h
       ·rename_i hr;split at h
        ·rename_i hb;rw[Xc3] at h;obtain⟨h1,h2⟩:=ih _ _ _ _ _ _ _ _ _ _ h hp';rw[X61] at h2;rw[Xie] at hr;exact⟨h1,.skip hg hd hj ht (by rw[hr];rfl) hb h2⟩
        ·cases h
       ·cases h
      ·cases h
     ·cases h
    ·cases h
  ·cases h
def Xy0 {β:Type} (n:Nat) (k:Nat->Option β):Option β :=
 match n with
 |0=>k 0
 |m+1=>k (m+1)
theorem Xtw {β:Type} (n:Nat) (k:Nat->Option β):Xy0 n k=k n:=by cases n<;>rfl
def cntN {β:Type}:List Oper->Nat->(Nat->Option β)->Option β
 |[],n,k=>k n
 |_::r,n,k=>Xy0 (n+1) λn=>cntN r n k
theorem X007 {β:Type}:∀ (l:List Oper) (n:Nat) (k:Nat->Option β),cntN l n k=k (n+l.length):=by
 intro l
 induction l with
 |nil=>intro n k;rfl
 |cons a r ih=>intro n k;simp only[cntN,Xtw,ih,List.length_cons];congr 1;omega
abbrev RR:=Option (Cf×List Kn×List (Nat×AV)×List (Nat×Obj)×Nat×List X28×List Prop)
def Xlm (nt n0:Nat) (s s':St):Prop:=∀ (c0:Ctx) (H0:X0j) (c:Ctx) (act:Act) (μ:Mu),X4c nt c0 H0 n0 c s act->MOk n0 c0 c s.H μ act->X4c nt c0 H0 n0 c s' act/\MOk n0 c0 c s'.H μ act
theorem Xlm.loop {P:Program} {nt n0:Nat} {s s':St} (hw:Xlm nt n0 s s') {b:Code} {Q:Xx->St->Mu->Prop} {μ:Mu} (h:X87 P nt n0 b Q s' μ):X87 P nt n0 b Q s μ:=by
 intro c0 H0 c act g hm;obtain⟨g',hm'⟩:=hw c0 H0 c act μ g hm;exact h c0 H0 c act g' hm'
theorem Xlm.semM {P:Program} {nt n0:Nat} {s s':St} (hw:Xlm nt n0 s s') {c:Code} {Q:Xx->St->Mu->Prop} {μ:Mu} (h:X4h P nt n0 c Q s' μ):X4h P nt n0 c Q s μ:=by
 intro c0 H0 c act g hm;obtain⟨g',hm'⟩:=hw c0 H0 c act μ g hm;exact h c0 H0 c act g' hm'
theorem Xdl.sub {P:Program} {nt n0:Nat} {Q:Xx->St->Mu->Prop} {μ:Mu} {s s':St} (hw:Xlm nt n0 s s'):∀ (K:List Kn) (e:Xx),Xdl P nt n0 Q K e s' μ->Xdl P nt n0 Q K e s μ:=by
 intro K
 induction K with
 |nil =>
  intro e h c0 H0 c act g hm;obtain⟨g',hm'⟩:=hw c0 H0 c act μ g hm;exact h c0 H0 c act g' hm'
 |cons k K ih =>
  intro e h
  cases k with
  |seq c =>
   cases e with
   |normal=>exact hw.semM h
   |exit i=>exact ih _ h
   |ret=>exact ih _ h
  |block id =>
   cases e with
   |normal=>exact ih _ h
   |ret=>exact ih _ h
   |exit i =>
    have h':X88 id (Xdl P nt n0 Q K) (.exit i) s' μ:=h;show X88 id (Xdl P nt n0 Q K) (.exit i) s μ;simp only[X88] at h' ⊢
    cases hb:Nat.beq i id with
    |true=>rw[hb,cond_true] at h';exact ih _ h'
    |false=>rw[hb,cond_false] at h';exact ih _ h'
  |loop b =>
   cases e with
   |normal=>exact hw.loop h
   |exit i=>exact ih _ h
   |ret=>exact ih _ h
theorem X2.sub {P:Program} {nt n0:Nat} {Q:Xx->St->Mu->Prop} {cf:Cf} {K:List Kn} {μ:Mu} {s s':St} (hw:Xlm nt n0 s s') (h:X2 P nt n0 Q cf K s' μ):X2 P nt n0 Q cf K s μ:=by
 cases cf with
 |code c=>exact hw.semM h
 |exit e=>exact Xdl.sub hw K e h
 |ops ops l =>
  intro c0 H0 c act g hm;obtain⟨g',hm'⟩:=hw c0 H0 c act μ g hm;exact h c0 H0 c act g' hm'
 |loop b=>exact hw.loop h
theorem X4c.trunc {nt n0 n:Nat} {c0 c:Ctx} {H0 H:X0j} {A:Nat->AV} {act:Act} (g:X4c nt c0 H0 n0 c ⟨A,H,n⟩ act) {o:Nat} {y:Obj} (hy:H o=some y) (m:Nat) :
  X4c nt c0 H0 n0 c ⟨A,upd H o (some { y with es:=y.es.take m }),n⟩ act:=by
 have hM:∀ q z,upd H o (some { y with es:=y.es.take m }) q=some z->∃ z',H q=some z'/\(∃ m,z.es=z'.es.take m)/\z.esz=z'.esz/\z.solo=z'.solo/\z.spent=z'.spent:=by
  intro q z hz;by_cases hq:q=o
  ·subst hq;rw[Xh] at hz;cases hz;exact⟨y,hy,⟨m,rfl⟩,rfl,rfl,rfl⟩
  ·rw[Xj _ _ hq] at hz;exact⟨z,hz,⟨z.es.length,by simp⟩,rfl,rfl,rfl⟩
 have hsolo:∀ q z,upd H o (some { y with es:=y.es.take m }) q=some z->z.solo=true/\z.spent=false:=by
  intro q z hz;obtain⟨z',hz',_,_,h1,h2⟩:=hM q z hz;rw[h1,h2];exact g.solo q z' hz'
 refine⟨⟨?_,?_,?_,g.inv.lt,g.inv.base,g.inv.own,?_⟩,hsolo,g.frame,g.ok,g.size,⟨g.reach.rho,g.reach.os,g.reach.tape,g.reach.output,g.reach.size,g.reach.block,g.reach.stable,g.reach.sa,g.reach.so1,g.reach.so2,g.reach.B,?_⟩,g.le0⟩
 ·intro q z hz;obtain⟨z',hz',⟨k,hk⟩,h1,_⟩:=hM q z hz;obtain⟨g1,⟨⟨cur,hb,hs,hc⟩,hf,hp,hse⟩,g3⟩:=g.inv.obj q z' hz';refine⟨g1,⟨⟨cur,hb,hs,λi e he=>?_⟩,?_,hp,by rw[h1];exact hse⟩,λe he=>?_⟩
  ·rw[hk,List.getElem?_take] at he;split at he
   ·exact hc i e he
   ·cases he
  ·rw[hk,List.length_take];omega
  ·rw[hk] at he;exact g3 e (List.mem_of_mem_take he)
 ·intro q q' z z' hz hz' hne hb;obtain⟨x,hx,_,_,h1,_⟩:=hM q z hz;obtain⟨x',hx',_⟩:=hM q' z' hz';have:=(g.inv.sep q q' x x' hx hx' hne hb).1;rw[(g.solo q x hx).1] at this;cases this
 ·intro q z hz;obtain⟨z',hz',_⟩:=hM q z hz;exact g.inv.stab q z' hz'
 ·intro q z hz;obtain⟨z',hz',_⟩:=hM q z hz;exact g.inv.low q z' hz'
 ·intro q z hz;obtain⟨z',hz',_⟩:=hM q z hz;exact g.reach.own q z' hz'
theorem Xlm.trunc {nt n0 n:Nat} {H:X0j} {A:Nat->AV} {o:Nat} {y:Obj} (hy:H o=some y) (m:Nat):Xlm nt n0 ⟨A,H,n⟩ ⟨A,upd H o (some { y with es:=y.es.take m }),n⟩:=by
 intro c0 H0 c act μ g hm;refine⟨g.trunc hy m,hm.is,λp hp=>?_,hm.nodup,hm.ds⟩;obtain⟨a1,a2,a3,a4⟩:=hm.away p hp;refine⟨a1,a2,λq z hz=>?_,a4⟩;have hz':upd H o (some { y with es:=y.es.take m }) q=some z:=hz;by_cases hq:q=o
 ·subst hq;exact a3 q y hy
 ·rw[Xj _ _ hq] at hz';exact a3 q z hz'
def Xxl (id:Nat):List X28->Bool
 |.stop j::_=>Nat.beq j id
 |_=>false
def seeL (d:Nat):List (Nat×List Nat)->Option (List Nat)
 |[]=>none
 |(k,l)::r=>bif Nat.beq d k then some l else seeL d r
def hzL (l:List (Nat×List Nat)) (o:Oper) (q:Nat):Bool :=
 Xpy o.op||(match o.dst with
  |some d=>match seeL d l with
   |some ids=>!Xnz q ids
   |none=>false
  |none=>false)
def seeZ:List X28->Oper->Nat->Bool
 |.see l::_=>hzL l
 |_=>hz0
def seeR:List X28->List X28
 |.see _::hs=>hs
 |hs=>hs
def Xag (P:Program) (T:Ty) (nt:Nat):Nat->Cf->List Kn->List (Nat×AV)->List (Nat×Obj)->Nat->List X28->List Prop->RR
  |0,cf,K,L,G,n,hs,ps=>some (cf,K,L,G,n,hs,ps)
  |f+1,cf,K,L,G,n,hs,ps=>match cf with
    |.code c=>match c with
      |.skip=>Xag P T nt f (.exit .normal) K L G n hs ps
      |.label _=>Xag P T nt f (.exit .normal) K L G n hs ps
      |.exit id=>Xag P T nt f (.exit (.exit id)) K L G n hs ps
      |.ret=>Xag P T nt f (.exit .ret) K L G n hs ps
      |.seq a b=>Xag P T nt f (.code a) (.seq b::K) L G n hs ps
      |.block id c=>Xag P T nt f (.code c) (.block id::K) L G n hs ps
      |.scope c=>Xag P T nt f (.code c) K L G n hs ps
      |.region id ops false=>match hs with
        |.stop j::hs=>match Nat.beq j id with
          |true=>some (.code (.region id ops false),K,L,G,n,hs,ps)
          |false=>Xag P T nt f (.ops ops ops.toList) K L G n (.stop j::hs) ps
        |hs=>Xag P T nt f (.ops ops ops.toList) K L G n hs ps
      |.region id ops true=>match Xxl id hs with
       |true=>some (.code (.region id ops true),K,L,G,n,hs.tail,ps)
       |false=>match X5m 0 ops.toList with
        |true=>match Xfl (seeZ hs) P T nt n ops (X18 ops.toList) ((X18 ops.toList).zip (ops.toList.map (seeZ hs))) 0 ops.toList L G [] (seeR hs) ps with
          |some (L,G,hs,ps)=>Xg0 G λG=>cntN ops.toList n λn=>Xag P T nt f (.exit .normal) K L G n hs ps
          |none=>none
        |false=>none
      |.loop b=>some (.loop b,K,L,G,n,hs,ps)
      |.cond x a b=>match hs with
        |.br true::hs=>match rd L x with
          |(.sc (.bool t),qs)=>Xrr qs ((t=true)::ps) λps=>Xag P T nt f (.code a) K L G n hs ps
          |_=>none
        |.br false::hs=>match rd L x with
          |(.sc (.bool t),qs)=>Xrr qs ((t=false)::ps) λps=>Xag P T nt f (.code b) K L G n hs ps
          |_=>none
        |hs=>some (.code (.cond x a b),K,L,G,n,hs,ps)
      |c=>some (.code c,K,L,G,n,hs,ps)
    |.exit e=>match K with
      |[]=>some (.exit e,[],L,G,n,hs,ps)
      |.seq c::K=>match e with
        |.normal=>Xag P T nt f (.code c) K L G n hs ps
        |e=>Xag P T nt f (.exit e) K L G n hs ps
      |.block id::K=>match e with
        |.exit i=>match Nat.beq i id with
          |true=>Xag P T nt f (.exit .normal) K L G n hs ps
          |false=>Xag P T nt f (.exit (.exit i)) K L G n hs ps
        |e=>Xag P T nt f (.exit e) K L G n hs ps
      |.loop b::K=>match e with
        |.normal=>some (.loop b,K,L,G,n,hs,ps)
        |e=>Xag P T nt f (.exit e) K L G n hs ps
    |.loop b=>some (.loop b,K,L,G,n,hs,ps)
    |.ops ops l=>match l with
      |[]=>Xag P T nt f (.exit .normal) K L G n hs ps
      |o::l=>match hs with
       |.trunc q es::hs=>match hp G q with
        |some y=>Xag P T nt f (.ops ops (o::l)) K L ((q,{ y with es:=es })::Xrf q G) n hs ((∃ m,es=y.es.take m)::ps)
        |none=>none
       |hs=>if Xii nt o.dst=true then (match o.guard with
        |none=>match opS P T L G n o.op hs with
          |some (a,G',n',hs',qs)=>Xca a λa=>Xw8 o.dst a L λL=>Xg0 G' λG=>Xrr qs ps λps=>Xag P T nt f (.ops ops l) K L G n' hs' ps
          |none=>some (.ops ops (o::l),K,L,G,n,hs,ps)
        |some (j,want)=>match (ops[j]?).bind (·.dst) with
          |some t=>if Nat.blt t nt=true then (match gdS want (fr L t) with
            |some g=>match Xxl 999999 hs with
             |true=>some (.ops ops (o::l),K,L,G,n,hs.tail,ps)
             |false=>match hs with
              |.go true::hs=>match opS P T L G n o.op hs with
                |some (a,G',n',hs',qs)=>Xca a λa=>Xw8 o.dst a L λL=>Xg0 G' λG=>Xrr qs ((g=true)::ps) λps=>Xag P T nt f (.ops ops l) K L G n' hs' ps
                |none=>none
              |.go false::hs=>Xw8 o.dst (.cond false (.sc (.bool false))) L λL=>Xag P T nt f (.ops ops l) K L G n hs ((g=false)::ps)
              |hs=>match quS P T L G o.op hs with
                |some (a,hs',qs)=>match AV.okB (λo=>Nat.blt o n) a with
                  |true=>Xca a λa=>Xw8 o.dst (.cond g a) L λL=>Xrr (Xly g qs) ps λps=>Xag P T nt f (.ops ops l) K L G n hs' ps
                  |false=>none
                |none=>some (.ops ops (o::l),K,L,G,n,hs,ps)
            |none=>none) else none
          |none=>none) else none
theorem Xyp {P:Program} {T:Ty} {nt n0:Nat} {μ:Mu} {Q:Xx->St->Mu->Prop} (hT:Xat P T) (hm:P.follows .mixedOrders=true):∀ (f:Nat) (cf:Cf) (K:List Kn) (L:List (Nat×AV)) (G:List (Nat×Obj)) (n:Nat) (hs:List X28) (ps:List Prop) (cf':Cf) (K':List Kn) (L':List (Nat×AV)) (G':List (Nat×Obj)) (n':Nat) (hs':List X28) (ps':List Prop),
  Xag P T nt f cf K L G n hs ps=some (cf',K',L',G',n',hs',ps')->X3z ps'->X3z ps/\(X2 P nt n0 Q cf' K' (SSt L' G' n') μ->X2 P nt n0 Q cf K (SSt L G n) μ):=by
 intro f
 induction f with
 |zero=>intro cf K L G n hs ps cf' K' L' G' n' hs' ps' h hp;simp only[Xag] at h;cases h;exact⟨hp,λh=>h⟩
 |succ f ih =>
  intro cf K L G n hs ps cf' K' L' G' n' hs' ps' h hp;have stop:some (cf,K,L,G,n,hs,ps)=some (cf',K',L',G',n',hs',ps')->X3z ps/\(X2 P nt n0 Q cf' K' (SSt L' G' n') μ->X2 P nt n0 Q cf K (SSt L G n) μ):=by
   intro h;cases h;exact⟨hp,λh=>h⟩
  cases cf with
  |code c =>
   cases c with
   |skip=>obtain⟨h1,h2⟩:=ih _ _ _ _ _ _ _ _ _ _ _ _ _ _ h hp;exact⟨h1,λk=>X4h.skip (h2 k)⟩
   |label=>obtain⟨h1,h2⟩:=ih _ _ _ _ _ _ _ _ _ _ _ _ _ _ h hp;exact⟨h1,λk=>X4h.label (h2 k)⟩
   |exit=>obtain⟨h1,h2⟩:=ih _ _ _ _ _ _ _ _ _ _ _ _ _ _ h hp;exact⟨h1,λk=>X4h.exit (h2 k)⟩
   |ret=>obtain⟨h1,h2⟩:=ih _ _ _ _ _ _ _ _ _ _ _ _ _ _ h hp;exact⟨h1,λk=>X4h.ret (h2 k)⟩
   |seq=>obtain⟨h1,h2⟩:=ih _ _ _ _ _ _ _ _ _ _ _ _ _ _ h hp;exact⟨h1,λk=>X4h.seq (h2 k)⟩
   |block=>obtain⟨h1,h2⟩:=ih _ _ _ _ _ _ _ _ _ _ _ _ _ _ h hp;exact⟨h1,λk=>X4h.block (h2 k)⟩
   |scope=>obtain⟨h1,h2⟩:=ih _ _ _ _ _ _ _ _ _ _ _ _ _ _ h hp;exact⟨h1,λk=>X4h.scope (h2 k)⟩
   |region id ops d =>
    cases d with
    |false =>
     simp only[Xag] at h;split at h
     ·split at h
      ·cases h;exact⟨hp,λk=>k⟩
      ·obtain⟨h1,h2⟩:=ih _ _ _ _ _ _ _ _ _ _ _ _ _ _ h hp;exact⟨h1,λk=>X4h.region (h2 k)⟩
     ·obtain⟨h1,h2⟩:=ih _ _ _ _ _ _ _ _ _ _ _ _ _ _ h hp;exact⟨h1,λk=>X4h.region (h2 k)⟩
    |true =>
     simp only[Xag] at h;split at h
     ·cases h;exact⟨hp,λk=>k⟩
     split at h
     ·rename_i hpre;split at h
      ·rename_i hd;rw[Xc9,X007] at h;obtain⟨h1,h2⟩:=ih _ _ _ _ _ _ _ _ _ _ _ _ _ _ h hp;obtain⟨h3,h4⟩:=Xlf _ _ _ _ _ _ _ _ _ _ _ hd h1;exact⟨h3,λk=>X4h.of (Xpa.drawn (s:=SSt L G n) hm hT hpre h4 (h2 k))⟩
      ·cases h
     ·cases h
   |loop b=>cases h;exact⟨hp,λk=>X4h.loop k⟩
   |cond x a b =>
    simp only[Xag] at h;split at h
    ·split at h
     ·rename_i hr;rw[Xb4] at h;obtain⟨h1,h2⟩:=ih _ _ _ _ _ _ _ _ _ _ _ _ _ _ h hp;obtain⟨p3,p1,p4⟩:=X8a h1;exact⟨p4,λk=>X4h.cond (s:=(SSt L G n)) (X0s hr p3) (λ_=>h2 k) (λhf=>by rw[p1] at hf;cases hf)⟩
     ·cases h
    ·split at h
     ·rename_i hr;rw[Xb4] at h;obtain⟨h1,h2⟩:=ih _ _ _ _ _ _ _ _ _ _ _ _ _ _ h hp;obtain⟨p3,p1,p4⟩:=X8a h1;exact⟨p4,λk=>X4h.cond (s:=(SSt L G n)) (X0s hr p3) (λhf=>by rw[p1] at hf;cases hf) (λ_=>h2 k)⟩
     ·cases h
    ·exact stop h
   |_=>exact stop h
  |exit e =>
   cases K with
   |nil=>exact stop h
   |cons kn K =>
    cases kn with
    |seq c=>cases e<;>(simp only[Xag] at h;obtain⟨h1,h2⟩:=ih _ _ _ _ _ _ _ _ _ _ _ _ _ _ h hp;exact⟨h1,λk=>h2 k⟩)
    |loop b =>
     cases e with
     |normal=>cases h;exact⟨hp,λk=>k⟩
     |exit i=>simp only[Xag] at h;obtain⟨h1,h2⟩:=ih _ _ _ _ _ _ _ _ _ _ _ _ _ _ h hp;exact⟨h1,λk=>h2 k⟩
     |ret=>simp only[Xag] at h;obtain⟨h1,h2⟩:=ih _ _ _ _ _ _ _ _ _ _ _ _ _ _ h hp;exact⟨h1,λk=>h2 k⟩
    |block id =>
     cases e with
     |normal=>simp only[Xag] at h;obtain⟨h1,h2⟩:=ih _ _ _ _ _ _ _ _ _ _ _ _ _ _ h hp;exact⟨h1,λk=>h2 k⟩
     |ret=>simp only[Xag] at h;obtain⟨h1,h2⟩:=ih _ _ _ _ _ _ _ _ _ _ _ _ _ _ h hp;exact⟨h1,λk=>h2 k⟩
     |exit i =>
      simp only[Xag] at h;split at h
      ·rename_i hb;obtain⟨h1,h2⟩:=ih _ _ _ _ _ _ _ _ _ _ _ _ _ _ h hp;refine⟨h1,λk=>?_⟩;show X88 id (Xdl P nt n0 Q K) (.exit i) (SSt L G n) μ;simp only[X88,hb,cond_true];exact h2 k
      ·rename_i hb;obtain⟨h1,h2⟩:=ih _ _ _ _ _ _ _ _ _ _ _ _ _ _ h hp;refine⟨h1,λk=>?_⟩;show X88 id (Xdl P nt n0 Q K) (.exit i) (SSt L G n) μ;simp only[X88,hb,cond_false];exact h2 k
  |loop b=>exact stop h
  |ops ops l =>
   simp only[Xag] at h;split at h
   ·obtain⟨h1,h2⟩:=ih _ _ _ _ _ _ _ _ _ _ _ _ _ _ h hp;exact⟨h1,λk=>X54.nil (h2 k)⟩
   ·split at h
    ·split at h
     ·rename_i hy;obtain⟨⟨⟨m,rfl⟩,h1⟩,h2⟩:=ih _ _ _ _ _ _ _ _ _ _ _ _ _ _ h hp;refine⟨h1,λk=>X2.sub (Xlm.trunc (A:=fr L) (H:=Go.Av.hp G) (n:=n) hy m) ?_⟩;have:=h2 k;have hgn:=Xf7 hy;simp only[SSt] at this;rw[Xop] at this
      ·exact this
      ·exact hgn
     ·cases h
    split at h
    ·rename_i hd;have hdl:=X8e hd;split at h
     ·rename_i hg;split at h
      ·rename_i hop;rw[X6t,Xc3,Xc9,Xb4] at h;obtain⟨h1,h2⟩:=ih _ _ _ _ _ _ _ _ _ _ _ _ _ _ h hp;obtain⟨p1,p2⟩:=X8a h1;refine⟨p2,λk=>X54.plain hg hdl (Xxt hT hop p1) ?_⟩;rintro _ _ _ ⟨rfl,rfl,rfl⟩;have:=h2 k;simp only[X2,SSt,X61] at this;exact this
      ·exact stop h
     ·rename_i j want hg;split at h
      ·rename_i hj;split at h
       ·rename_i ht;split at h
        ·rename_i g hgd;split at h
         ·cases h;exact⟨hp,λk=>k⟩
         split at h
         ·split at h
          ·rename_i hop;rw[X6t,Xc3,Xc9,Xb4] at h;obtain⟨h1,h2⟩:=ih _ _ _ _ _ _ _ _ _ _ _ _ _ _ h hp;obtain⟨p1,p0,p2⟩:=X8a h1;subst p0;refine⟨p2,λk=>X54.step (λc0 c H0 act gd=>Xbw (s:=SSt L G n) hg hj ht hgd gd) hdl (Xxt hT hop p1) ?_⟩;rintro _ _ _ ⟨rfl,rfl,rfl⟩;have:=h2 k;simp only[X2,SSt,X61] at this;exact this
          ·cases h
         ·rw[Xc3] at h;obtain⟨h1,h2⟩:=ih _ _ _ _ _ _ _ _ _ _ _ _ _ _ h hp;obtain⟨p0,p1⟩:=h1;subst p0;refine⟨p1,λk=>X54.skip (s:=SSt L G n) hg hj ht hgd hdl ?_⟩;have:=h2 k;simp only[X2,SSt,X61] at this;exact this
         ·split at h
          ·rename_i hpu;split at h
           ·rename_i hok;rw[X6t,Xc3,Xb4] at h;obtain⟨h1,h2⟩:=ih _ _ _ _ _ _ _ _ _ _ _ _ _ _ h hp;obtain⟨p1,p2⟩:=X8a h1;refine⟨p2,λk=>X54.quiet (s:=SSt L G n) hg hj ht hgd hdl (okLt hok) (λhb=>Xsr hT hpu (Xhg p1 hb)) ?_⟩;have:=h2 k;simp only[X2,SSt,X61] at this;exact this
           ·cases h
          ·exact stop h
        ·cases h
       ·cases h
      ·cases h
    ·cases h
theorem X2.round {P:Program} {nt n0:Nat} {μ:Mu} {Q:Xx->St->Mu->Prop} {b:Code} {K:List Kn} {s:St} (h:X2 P nt n0 Q (.code b) (.loop b::K) s μ):X2 P nt n0 Q (.loop b) K s μ:=X87.round h
theorem Xpn {P:Program} {T:Ty} {nt n0:Nat} {μ:Mu} {Q:Xx->St->Mu->Prop} {cf cf':Cf} {K K':List Kn} {L L':List (Nat×AV)} {G G':List (Nat×Obj)} {n n':Nat} {hs':List X28} {ps':List Prop} (hT:Xat P T/\P.follows .mixedOrders=true) (f:Nat) (hs:List X28)
  (h:Xag P T nt f cf K L G n hs []=some (cf',K',L',G',n',hs',ps')) (hp':X3z ps') (k:X2 P nt n0 Q cf' K' ⟨fr L',hp G',n'⟩ μ):X2 P nt n0 Q cf K ⟨fr L,hp G,n⟩ μ :=
 (Xyp hT.1 hT.2 f cf K L G n hs [] cf' K' L' G' n' hs' ps' h hp').2 k
end Go.Av


namespace Go.Av
def argL:Nat->List AV->List (Nat×AV)
 |_,[]=>[]
 |i,a::r=>(i,a)::argL (i+1) r
theorem Xuk:∀ (as:List AV) (i t:Nat),fr (argL i as) t=if i<=t then (match as[t - i]? with|some a=>a|none=>.junk) else .junk:=by
 intro as
 induction as with
 |nil=>intro i t;simp[argL,fr]
 |cons a r ih =>
  intro i t;simp only[argL,fr];by_cases ht:t=i
  ·subst ht;simp
  ·have hb:Nat.beq t i=false:=by rw[<-Bool.not_eq_true,Nat.beq_eq];exact ht
   rw[hb,cond_false,ih];by_cases h1:i+1<=t
   ·rw[if_pos h1,if_pos om,show t - i=(t - (i+1))+1 by omega,List.getElem?_cons_succ]
   ·rw[if_neg h1,if_neg om]
section
variable {P:Program} {nt n0:Nat} {s:St} {μ:Mu}
theorem X4c.turn {c0 c:Ctx} {H0:X0j} {act:Act} {b:Nat} (o:Go.Obj) (g:X4c nt c0 H0 n0 c s act) (h1:¬ c.Sa b) (h2:¬ c.So b) (h3:∀ o x,s.H o=some x->(c.ρ o).blk≠b) (h4:c0.w.heap.size<=b) :
  X4c nt c0 H0 n0 { c with w:=c.w.putObj b o } s act/\c.Le (λ_=>True) { c with w:=c.w.putObj b o }:=by
 have hother:∀ k,k≠b->(c.w.putObj b o).heap[k]?=c.w.heap[k]?:=λk hk=>World.putObj_heap_other hk;have hle:c.Le (λ_=>True) { c with w:=c.w.putObj b o } :=
  ⟨λ_ _=>rfl,λ_ h=>h,λ_ h=>h,λk hk=>hother k (λe=>by subst e;exact hk.elim h1 h2),rfl⟩
 have all:∀ {a:AV} {M:Nat->Prop},a.Ok M->a.Ok (λ_=>True):=λh=>h.mono λ_ _=>trivial;have r:=g.reach;refine⟨⟨⟨λq x hx=>?_,g.inv.sep,g.inv.stab,λk hk=>?_,?_,g.inv.own,g.inv.low⟩,g.solo,λt=>(g.frame t).mono hle (.inr (all (g.ok t))),g.ok,g.size,
  ⟨r.rho,r.os,r.tape,r.output,?_,λk hk hn=>?_,λk hk=>?_,r.sa,r.so1,r.so2,r.B,r.own⟩,g.le0⟩,hle⟩
 ·obtain⟨i1,⟨⟨cur,hb,hs,hc⟩,i3,i4,i5⟩,i6⟩:=g.inv.obj q x hx;refine⟨i1,⟨⟨cur,(hother _ (h3 q x hx)).trans hb,hs,λi e he=>?_⟩,i3,i4,i5⟩,i6⟩;obtain⟨g1,g2⟩:=hc i e he;exact⟨g1,λk a ha=>by obtain⟨v,hv,hr,h7⟩:=g2 k a ha;exact⟨v,hv,hr.mono hle (.inr (all (i6 e (List.mem_of_getElem? he) a (List.mem_of_getElem? ha)))),h7⟩⟩
 ·show k<(c.w.putObj b o).heap.size;rw[World.putObj_size];exact g.inv.lt k hk
 ·show c.B<=(c.w.putObj b o).heap.size;rw[World.putObj_size];exact g.inv.base
 ·show c0.w.heap.size<=(c.w.putObj b o).heap.size;rw[World.putObj_size];exact r.size
 ·exact(hother k om).trans (r.block k hk hn)
 ·refine(hother k (λe=>?_)).trans (r.stable k hk);subst e;exact hk.elim (λh=>h1 (by rw[r.sa];exact h)) (λh=>h2 (r.so1 _ h))
theorem X01n {fn:Func} {Rr:Ending->World->Prop} {c0:Ctx} {H0:X0j} {act:Act}:∀ (μ:Mu) (c:Ctx),X4c nt c0 H0 n0 c s act->(∀ p∈μ,Xy4 n0 c p.1 p.2) ->
  (∀ p∈μ,¬ c.Sa p.1/\¬ c.So p.1/\(∀ o x,s.H o=some x->(c.ρ o).blk≠p.1)/\c0.w.heap.size<=p.1)->(μ.map (·.1)).Nodup ->
  (∀ c',X4c nt c0 H0 n0 c' s act->∃ v,(results fn act.tmps).run P c'.w=.ok v c'.w/\Rr (.returned v) c'.w)->LeavesInM (FR none) 0 P fn act.tmps Rr (Xzy μ) .returning c.w:=by
 intro μ
 induction μ with
 |nil =>
  intro c g _ _ _ hk;obtain⟨v,h1,h2⟩:=hk c g;exact⟨v,h1,h2⟩
 |cons p μ ih =>
  intro c g hi ha hn hk;obtain⟨D,x⟩:=p;have hi':∀ p∈μ,Xy4 n0 c p.1 p.2:=λp hp=>hi p (List.mem_cons_of_mem _ hp);have ha':=λp hp=>ha p (List.mem_cons_of_mem _ hp);simp only[List.map_cons,List.nodup_cons] at hn
  cases x with
  |map l=>exact ih c g hi' ha' hn.2 hk
  |blk o=>exact ih c g hi' ha' hn.2 hk
  |loop r nt m A=>exact ih c g hi' ha' hn.2 hk
  |mark =>
   obtain⟨a1,a2,a3,a4⟩:=ha _ List.mem_cons_self;obtain⟨g2,hle⟩:=g.turn (.deferred none) a1 a2 a3 a4;have hd:c.w.heap[D]?=some (.deferred (some [])):=hi _ List.mem_cons_self;refine⟨by simp,.inl ⟨D,_,rfl,run_takeDeferred hd,?_⟩⟩;refine ih { c with w:=c.w.putObj D (.deferred none) } g2 (λp hp=>?_) ha' hn.2 hk;exact(hi' p hp).le (World.putObj_heap_other (λe=>hn.1 (e▸List.mem_map.2 ⟨p,hp,rfl⟩))) (hle.weaken λ_ _=>trivial)
end
section
variable {P:Program} {T:Ty}
theorem Xek {f:Nat} {fn:Func} {code:Code} (hfn:X1w P f fn code) {nt n0:Nat} {s:St} {Q:Xx->St->Mu->Prop} {c:Ctx} {vs:Array Value} {Rr:Ending->World->Prop}
  (g:X4c nt c s.H n0 c s { tmps:=vs++Array.replicate (fn.ntmps - vs.size) undef,defers:=[] }) (h:X4h P nt n0 code Q s [])
  (hQ:∀ e s' μ,Q e s' μ->(∀ id,e≠.exit id)/\∀ c' act',X4c nt c s.H n0 c' s' act'->∃ v,(results fn act'.tmps).run P c'.w=.ok v c'.w/\Rr (.returned v) c'.w):Calls P f vs c.w Rr:=by
 refine(callsIn_wide (n:=0)).1 (callsIn_of_wp_marks hfn.here hfn.body trivial ?_);refine wpIn_mono (h c s.H c _ g (.nil rfl) none .none) ?_;rintro e a w ⟨c',s',ae,μ',rfl,g',hm',rfl,hq⟩;obtain⟨hx,hq⟩:=hQ ae s' μ' hq;have fin:LeavesInM Fence.wide 0 P fn a.tmps Rr a.defers .returning c'.w:=by
  rw[hm'.ds];exact X01n μ' c' g' hm'.is hm'.away hm'.nodup λc2 g2=>hq c2 a g2
 cases ae with
 |exit id=>exact(hx id rfl).elim
 |normal=>exact fin
 |ret=>exact fin
def retM (T:Ty) (fn:Func) (K:AV->X0j->Nat->Prop):Xx->St->Mu->Prop:=λe s _=>retQ T fn K e s
theorem X4c.argL {nt n0:Nat} {c0 c:Ctx} {H0 H:X0j} {n:Nat} {as:List AV} {act:Act} (g:X4c nt c0 H0 n0 c ⟨Xvg as,H,n⟩ act):X4c nt c0 H0 n0 c ⟨fr (Av.argL 0 as),H,n⟩ act:=by
 refine⟨g.inv,g.solo,λt=>?_,λt=>?_,g.size,g.reach,g.le0⟩
 ·show X0z c false (fr (Av.argL 0 as) t) _;rw[Xuk];simp only[Nat.zero_le,if_true,Nat.sub_zero];have:=g.frame t;simp only[Xvg] at this
  cases hq:as[t]? with
  |none=>exact .junk
  |some a=>rw[hq] at this;exact this
 ·show(fr (Av.argL 0 as) t).Ok (·<n);rw[Xuk];simp only[Nat.zero_le,if_true,Nat.sub_zero];have:=g.ok t;simp only[Xvg] at this
  cases hq:as[t]? with
  |none=>exact .junk
  |some a=>rw[hq] at this;exact this
theorem HC.of_bodyM (hT:Xat P T) {f:Nat} {fn:Func} {code:Code} (hfn:X1w P f fn code) {as:List AV} {H:X0j} {n nt:Nat} {K:AV->X0j->Nat->Prop} (hnt:fn.ntmps=nt)
  (hle:as.length<=nt) (h:X4h P nt n code (retM T fn K) ⟨fr (argL 0 as),H,n⟩ []):HC P f as H n K:=by
 refine⟨⟨fn,code,hfn⟩,λc vs hI hs hv ho=>?_⟩;have g:X4c nt c H n c ⟨Xvg as,H,n⟩ { tmps:=vs++Array.replicate (fn.ntmps - vs.size) undef,defers:=[] }:=by
  refine⟨hI,hs,λt=>Xfg hv _ t,λt=>Xp9 ho t,?_,.refl c H n,Nat.le_refl _⟩;have:=hv.len;simp only[Array.size_append,Array.size_replicate];omega
 refine Xek hfn g.argL h ?_;intro e s' μ hq;have fin:(∃ rs,Xgu T s' fn.results.toList rs/\K (Xf0 rs) s'.H s'.n)->∀ c' act',X4c nt c H n c' s' act'->∃ v,(results fn act'.tmps).run P c'.w=.ok v c'.w/\∃ v' r H' n' c2,K r H' n'/\Ending.returned v=.returned v'/\c2.w=c'.w/\c.Le (·<n) c2/\c2.Sa=c.Sa/\(∀ b,c2.So b->c.So b\/c.w.heap.size<=b\/∃ o x,H o=some x/\(c.ρ o).blk=b) /\
   Fr c H c'.w/\X9j c H c2 H'/\Inv c2 H' (·<n')/\(∀ o x,H' o=some x->x.solo=true/\x.spent=false)/\n<=n'/\X0z c2 false r v'/\r.Ok (·<n'):=by
  rintro⟨rs,hrs,hk⟩ c' act' g';obtain⟨v,h1,h2,h3⟩:=Xxq hT g' hrs;exact⟨v,h1,v,_,s'.H,s'.n,c',hk,rfl,rfl,g'.reach.le,g'.reach.sa,g'.reach.so2,g'.reach.fr,g'.reach.own,g'.inv,g'.solo,g'.le0,h2,h3⟩
 cases e with
 |exit id=>exact hq.elim
 |normal=>exact⟨(λ_ h=>by cases h),fin hq⟩
 |ret=>exact⟨(λ_ h=>by cases h),fin hq⟩
def Xw9 (T:Ty) (fn:Func) (r:AV):Xx->St->Mu->Prop:=λe s _=>X033 T fn r e s
theorem X0i.of_bodyM (hT:Xat P T) {f:Nat} {fn:Func} {code:Code} (hfn:X1w P f fn code) {as:List AV} {nt:Nat} {r:AV} (hnt:fn.ntmps=nt)
  (hle:as.length<=nt) (h:X4h P nt 0 code (Xw9 T fn r) ⟨fr (argL 0 as),λ_=>none,0⟩ []):X0i P f as r:=by
 refine⟨⟨fn,code,hfn⟩,λw S vs hS hv=>?_⟩;let c:Ctx:=⟨w,pl0,S,λ_=>False,w.heap.size⟩
 have hI:Inv c (λ_=>none) (·<0) :=
  ⟨λo x h=>(by cases h),λo o' x x' h=>(by cases h),λo x h=>(by cases h),λb hb=>hb.elim (hS b) False.elim,Nat.le_refl _,λb hb=>hb.elim,λo x h=>(by cases h)⟩
 have g:X4c nt c (λ_=>none) 0 c ⟨Xvg as,λ_=>none,0⟩ { tmps:=vs++Array.replicate (fn.ntmps - vs.size) undef,defers:=[] }:=by
  refine⟨hI,λo x h=>(by cases h),λt=>Xfg hv _ t,λt=>Xp9 (λa ha=>?_) t,?_,.refl c _ 0,Nat.le_refl _⟩
  ·obtain⟨i,hi⟩:=List.getElem?_of_mem ha;have:i<vs.size:=by rw[<-hv.len];exact(List.getElem?_eq_some_iff.1 hi).1
   exact(hv.rel i a _ hi (Array.getElem?_eq_getElem this)).okDeep
  ·have:=hv.len;simp only[Array.size_append,Array.size_replicate];omega
 refine Xek (c:=c) hfn g.argL h ?_;intro e s' μ hq;have fin:(∃ rs,Xgu T s' fn.results.toList rs/\Cv true s'.H (Xf0 rs) r)->∀ c' act',X4c nt c (λ_=>none) 0 c' s' act' ->
   ∃ v,(results fn act'.tmps).run P c'.w=.ok v c'.w/\∃ u,Ending.returned v=.returned u/\X0z ⟨c'.w,pl0,S,λb=>w.heap.size<=b/\b<c'.w.heap.size,w.heap.size⟩ true r u/\Xy5 w.heap.size w c'.w:=by
  rintro⟨rs,hrs,hk⟩ c' a g';obtain⟨v,h1,h2,h3⟩:=Xxq hT g' hrs;have hr:=g'.reach;have hB:c'.B=w.heap.size:=hr.B;refine⟨v,h1,v,rfl,?_,⟨⟨hr.os,hr.tape,hr.output.1,hr.size,λk hk=>hr.block k hk (λo x hx=>(by cases hx))⟩,hr.output.2⟩⟩;refine X02d g'.inv (c':=⟨c'.w,pl0,S,λb=>w.heap.size<=b/\b<c'.w.heap.size,w.heap.size⟩) rfl (λb hb=>?_) (λ_ b hb=>?_) (λo x hx=>?_) hk h2
  ·rcases hb with hb|hb
   ·exact .inl ⟨rfl,by rw[<-hr.sa];exact hb⟩
   ·exact .inr ⟨by rw[<-hB];exact g'.inv.own b hb,g'.inv.lt b (.inr hb)⟩
  ·exact⟨by rw[<-hB];exact g'.inv.own b hb,g'.inv.lt b (.inr hb)⟩
  ·obtain⟨_,⟨⟨cur,hcb,_⟩,_⟩,_⟩:=g'.inv.obj o x hx;exact .inr ⟨by rw[<-hB];exact g'.inv.low o x hx,(Array.getElem?_eq_some_iff.1 hcb).1⟩
 cases e with
 |exit id=>exact hq.elim
 |normal=>exact⟨(λ_ h=>by cases h),fin hq⟩
 |ret=>exact⟨(λ_ h=>by cases h),fin hq⟩
end
section
variable {P:Program} {nt n0:Nat} {s:St} {μ:Mu}
theorem X4c.weak' {c0 c:Ctx} {H0:X0j} {s s':St} {act:Act} {θ:Nat->Nat} (g:X4c nt c0 H0 n0 c s act) (hw:Xq8 θ n0 s s') :
  ∃ c',c'={ c with ρ:=λo=>c.ρ (θ o) }/\X4c nt c0 H0 n0 c' s' act:=⟨{ c with ρ:=λo=>c.ρ (θ o) },rfl,g.weakBy hw⟩
theorem X4c.weakM {c0 c:Ctx} {H0:X0j} {s s':St} {act:Act} (g:X4c nt c0 H0 n0 c s act) (hm:MOk n0 c0 c s.H μ act) (hw:Weak n0 s s') :
  ∃ c',c'.w=c.w/\X4c nt c0 H0 n0 c' s' act/\MOk n0 c0 c' s'.H μ act:=by
 obtain⟨θ,hw⟩:=hw;obtain⟨c',h2,h3⟩:=g.weak' hw;exact⟨c',by rw[h2],h3,hm.weak hw h2⟩
theorem X4h.weak {code:Code} {Q:Xx->St->Mu->Prop} {s':St} (hw:Weak n0 s s') (h:X4h P nt n0 code Q s' μ):X4h P nt n0 code Q s μ:=by
 intro c0 H0 c act g hm R hR;obtain⟨c',hc,g',hm'⟩:=g.weakM hm hw;have:=h c0 H0 c' act g' hm' R hR
 rwa [hc] at this
theorem X54.weak {ops:Array Oper} {l:List Oper} {K:St->Mu->Prop} {s':St} (hw:Weak n0 s s') (h:X54 P nt n0 ops l K s' μ):X54 P nt n0 ops l K s μ:=by
 intro c0 H0 c act g hm Qx hQ R hR;obtain⟨c',hc,g',hm'⟩:=g.weakM hm hw;have:=h c0 H0 c' act g' hm' Qx hQ R hR
 rwa [hc] at this
end
def thL:List (Nat×Nat)->Nat->Nat
 |[],o=>o
 |(a,b)::r,o=>bif Nat.beq o a then b else thL r o
def wkL (L:List (Nat×AV)) (θ:List (Nat×Nat)) (n:Nat):List (Nat×AV)->Prop
 |[]=>True
 |(t,a)::r=>fr L t=a.ren (thL θ)/\a.Ok (·<n)/\wkL L θ n r
def wkG1:Bool->Prop->Prop
 |true,_=>True
 |false,p=>p
def wkG (G:List (Nat×Obj)) (θ:List (Nat×Nat)) (n:Nat):List (Nat×Obj)->Prop
 |[]=>True
 |(o,x)::r=>wkG1 x.gone (∃ y,hp G (thL θ o)=some y/\y.esz=x.esz/\y.es=x.es.map (AV.ren (thL θ)))/\o<n/\(∀ e∈x.es,∀ a∈e.cells,a.Ok (·<n))/\x.solo=true/\x.spent=false/\wkG G θ n r
theorem Xs3 {L:List (Nat×AV)} {θ:List (Nat×Nat)} {n:Nat}:∀ {L':List (Nat×AV)},wkL L θ n L'->∀ t,(fr L' t=.junk\/fr L t=(fr L' t).ren (thL θ))/\(fr L' t).Ok (·<n):=by
 intro L'
 induction L' with
 |nil=>intro _ t;exact⟨.inl rfl,.junk⟩
 |cons p r ih =>
  obtain⟨d,a⟩:=p;rintro⟨h1,h2,h3⟩ t;by_cases ht:t=d
  ·subst ht;have:fr ((t,a)::r) t=a:=by simp[fr]
   rw[this];exact⟨.inr h1,h2⟩
  ·have:fr ((d,a)::r) t=fr r t:=by
    have hb:Nat.beq t d=false:=by rw[<-Bool.not_eq_true,Nat.beq_eq];exact ht
    simp[fr,hb]
   rw[this];exact ih h3 t
theorem Xs4 {G:List (Nat×Obj)} {θ:List (Nat×Nat)} {n:Nat}:∀ {G':List (Nat×Obj)},wkG G θ n G'->∀ o x,hp G' o=some x ->
  (∃ y,hp G (thL θ o)=some y/\y.esz=x.esz/\y.es=x.es.map (AV.ren (thL θ)))/\o<n/\(∀ e∈x.es,∀ a∈e.cells,a.Ok (·<n))/\x.solo=true/\x.spent=false:=by
 intro G'
 induction G' with
 |nil=>intro _ o x h;cases h
 |cons p r ih =>
  obtain⟨d,y⟩:=p;rintro⟨h1,h2,h3,h4,h5,h6⟩ o x hx;by_cases ho:o=d
  ·subst ho;have hg:=Xf7 hx;simp only[hp,Nat.beq_refl,cond_true] at hx
   cases hy:y.gone with
   |true=>rw[hy] at hx;cases hx
   |false =>
    rw[hy] at hx;cases hx;rw[hg] at h1;exact⟨h1,h2,h3,h4,h5⟩
  ·have:hp ((d,y)::r) o=hp r o:=by
    have hb:Nat.beq o d=false:=by rw[<-Bool.not_eq_true,Nat.beq_eq];exact ho
    simp[hp,hb]
   rw[this] at hx;exact ih h6 o x hx
theorem Xxy {G:List (Nat×Obj)} {o:Nat} (h:hp G o≠none):o∈G.map (·.1):=by
 induction G with
 |nil=>exact absurd rfl h
 |cons p r ih =>
  obtain⟨d,y⟩:=p;by_cases ho:o=d
  ·subst ho;simp
  ·have:hp ((d,y)::r) o=hp r o:=by
    have hb:Nat.beq o d=false:=by rw[<-Bool.not_eq_true,Nat.beq_eq];exact ho
    simp[hp,hb]
   rw[this] at h;exact List.mem_cons_of_mem _ (ih h)
def injB (θ:List (Nat×Nat)):List Nat->Bool
 |[]=>true
 |o::r=>r.all (λq=>Nat.beq o q||!Nat.beq (thL θ o) (thL θ q))&&injB θ r
theorem Xzp {θ:List (Nat×Nat)}:∀ {l:List Nat},injB θ l=true->∀ o∈l,∀ q∈l,thL θ o=thL θ q->o=q:=by
 intro l
 induction l with
 |nil=>intro _ o h;cases h
 |cons a r ih =>
  intro h o ho q hq he;simp only[injB,Bool.and_eq_true,List.all_eq_true,Bool.or_eq_true,Nat.beq_eq,Bool.not_eq_true'] at h;have key:∀ x∈r,thL θ a=thL θ x->a=x:=by
   intro x hx hax;rcases h.1 x hx with h1|h1
   ·exact h1
   ·rw[hax,Nat.beq_refl] at h1;cases h1
  rcases List.mem_cons.1 ho with h1|h1
  ·rcases List.mem_cons.1 hq with h2|h2
   ·rw[h1,h2]
   ·rw[h1] at he ⊢;exact key q h2 he
  ·rcases List.mem_cons.1 hq with h2|h2
   ·rw[h2] at he ⊢;exact(key o h1 he.symm).symm
   ·exact ih h.2 o h1 q h2 he
def fixB (θ:List (Nat×Nat)) (n0:Nat):Bool:=θ.all λp=>Nat.ble n0 p.1||Nat.beq p.1 p.2
theorem Xzs {n0:Nat}:∀ {θ:List (Nat×Nat)},fixB θ n0=true->∀ o,o<n0->thL θ o=o:=by
 intro θ
 induction θ with
 |nil=>intro _ o _;rfl
 |cons p r ih =>
  obtain⟨a,b⟩:=p;intro h o ho;simp only[fixB,List.all_cons,Bool.and_eq_true,Bool.or_eq_true,Nat.ble_eq,Nat.beq_eq] at h;simp only[thL]
  cases hb:Nat.beq o a with
  |true =>
   have:o=a:=Nat.eq_of_beq_eq_true hb;subst this;rcases h.1 with h1|h1
   ·omega
   ·simp only[cond_true];exact h1.symm
  |false=>simp only[cond_false];exact ih h.2 o ho
theorem Xy9 {L L':List (Nat×AV)} {G G':List (Nat×Obj)} {n n' n0:Nat} (θ:List (Nat×Nat)) (hb:(fixB θ n0&&injB θ (G'.map (·.1))&&Nat.ble n0 n')=true) (hL:wkL L θ n' L') (hG:wkG G θ n' G') :
  Weak n0 ⟨fr L,hp G,n⟩ ⟨fr L',hp G',n'⟩:=by
 simp only[Bool.and_eq_true,Nat.ble_eq] at hb;obtain⟨⟨h1,h2⟩,h3⟩:=hb;refine⟨thL θ,Xzs h1,λt=>(Xs3 hL t).1,λo x hx=>?_,λo q ho hq he=>Xzp h2 o (Xxy ho) q (Xxy hq) he,λt=>(Xs3 hL t).2,λo x hx=>?_,h3⟩
 ·obtain⟨⟨y,g1,g2,g3⟩,_⟩:=Xs4 hG o x hx;exact⟨y,g1,g2,g3⟩
 ·obtain⟨_,g1,g2,g3,g4⟩:=Xs4 hG o x hx;exact⟨g1,g2,g3,g4⟩
theorem Xdl.weak {P:Program} {nt n0:Nat} {Q:Xx->St->Mu->Prop} {μ:Mu} {s s':St} (hw:Weak n0 s s'):∀ (K:List Kn) (e:Xx),Xdl P nt n0 Q K e s' μ->Xdl P nt n0 Q K e s μ:=by
 have hloop:∀ {b:Code} {Q':Xx->St->Mu->Prop},X87 P nt n0 b Q' s' μ->X87 P nt n0 b Q' s μ:=by
  intro b Q' h c0 H0 c act g hm R hR;obtain⟨c',hc,g',hm'⟩:=g.weakM hm hw;have:=h c0 H0 c' act g' hm' R hR
  rwa [hc] at this
 intro K
 induction K with
 |nil =>
  intro e h c0 H0 c act g hm;obtain⟨c',hc,g',hm'⟩:=g.weakM hm hw;obtain⟨c2,s2,h1,h2,h3,h4⟩:=h c0 H0 c' act g' hm';exact⟨c2,s2,h1.trans hc,h2,h3,h4⟩
 |cons k K ih =>
  intro e h
  cases k with
  |seq c =>
   cases e with
   |normal=>exact X4h.weak hw h
   |exit i=>exact ih _ h
   |ret=>exact ih _ h
  |block id =>
   cases e with
   |normal=>exact ih _ h
   |ret=>exact ih _ h
   |exit i =>
    have h':X88 id (Xdl P nt n0 Q K) (.exit i) s' μ:=h;show X88 id (Xdl P nt n0 Q K) (.exit i) s μ;simp only[X88] at h' ⊢
    cases hb:Nat.beq i id with
    |true=>rw[hb,cond_true] at h';exact ih _ h'
    |false=>rw[hb,cond_false] at h';exact ih _ h'
  |loop b =>
   cases e with
   |normal=>exact hloop h
   |exit i=>exact ih _ h
   |ret=>exact ih _ h
theorem X2.weak {P:Program} {nt n0:Nat} {Q:Xx->St->Mu->Prop} {cf:Cf} {K:List Kn} {μ:Mu} {s s':St} (hw:Weak n0 s s') (h:X2 P nt n0 Q cf K s' μ):X2 P nt n0 Q cf K s μ:=by
 cases cf with
 |code c=>exact X4h.weak hw h
 |exit e=>exact Xdl.weak hw K e h
 |ops ops l=>exact X54.weak hw h
 |loop b =>
  intro c0 H0 c act g hm R hR;obtain⟨c',hc,g',hm'⟩:=g.weakM hm hw;have:=h c0 H0 c' act g' hm' R hR
  rwa [hc] at this
theorem Xdl.collapse {P:Program} {nt n0:Nat} {Q:Xx->St->Mu->Prop}:∀ (K:List Kn) (e:Xx) (s:St) (μ:Mu),Cl nt n0 (Xdl P nt n0 Q K) e s μ->Xdl P nt n0 Q K e s μ:=by
 intro K
 induction K with
 |nil =>
  intro e s μ h c0 H0 c act g hm;obtain⟨c1,s1,h1,h2,h3,h4⟩:=h c0 H0 c act g hm;obtain⟨c2,s2,k1,k2,k3,k4⟩:=h4 c0 H0 c1 act h2 h3;exact⟨c2,s2,k1.trans h1,k2,k3,k4⟩
 |cons k K ih =>
  intro e s μ h
  cases k with
  |seq c =>
   cases e with
   |normal =>
    intro c0 H0 cx act g hm;obtain⟨c1,s1,h1,h2,h3,h4⟩:=h c0 H0 cx act g hm;rw[<-h1];exact h4 c0 H0 c1 act h2 h3
   |exit i=>exact ih (.exit i) s μ h
   |ret=>exact ih .ret s μ h
  |block id =>
   cases e with
   |normal=>exact ih .normal s μ h
   |ret=>exact ih .ret s μ h
   |exit i =>
    show X88 id (Xdl P nt n0 Q K) (.exit i) s μ;have h':∀ (c0:Ctx) (H0:X0j) (c:Ctx) (act:Act),X4c nt c0 H0 n0 c s act->MOk n0 c0 c s.H μ act->∃ c' s',c'.w=c.w/\X4c nt c0 H0 n0 c' s' act/\MOk n0 c0 c' s'.H μ act/\X88 id (Xdl P nt n0 Q K) (.exit i) s' μ:=h;simp only[X88] at h' ⊢
    cases hb:Nat.beq i id with
    |true=>simp only[hb,cond_true] at h' ⊢;exact ih .normal s μ h'
    |false=>simp only[hb,cond_false] at h' ⊢;exact ih (.exit i) s μ h'
  |loop b =>
   cases e with
   |normal =>
    intro c0 H0 cx act g hm;obtain⟨c1,s1,h1,h2,h3,h4⟩:=h c0 H0 cx act g hm;rw[<-h1];exact h4 c0 H0 c1 act h2 h3
   |exit i=>exact ih (.exit i) s μ h
   |ret=>exact ih .ret s μ h
theorem MQ.ofCl {nt n0:Nat} {Q:Xx->St->Mu->Prop} {c0:Ctx} {H0:X0j}:∀ e a w,MQ nt c0 H0 n0 (Cl nt n0 Q) e a w->MQ nt c0 H0 n0 Q e a w:=by
 rintro e a w ⟨c',s',ae,μ',rfl,g',hm',rfl,hq⟩;obtain⟨c2,s2,h1,h2,h3,h4⟩:=hq c0 H0 c' a g' hm';exact⟨c2,s2,ae,μ',h1,h2,h3,rfl,h4⟩
theorem X2.weakTo {P:Program} {nt n0:Nat} {Q:Xx->St->Mu->Prop} {cf:Cf} {K:List Kn} {μ:Mu} {L L':List (Nat×AV)} {G G':List (Nat×Obj)} {n n':Nat} (θ:List (Nat×Nat)) (h:X2 P nt n0 Q cf K ⟨fr L',hp G',n'⟩ μ)
  (hb:(fixB θ n0&&injB θ (G'.map (·.1))&&Nat.ble n0 n')=true) (hL:wkL L θ n' L') (hG:wkG G θ n' G'):X2 P nt n0 Q cf K ⟨fr L,hp G,n⟩ μ:=X2.weak (Xy9 θ hb hL hG) h
theorem X2.cut {P:Program} {nt n0:Nat} {Q:Xx->St->Mu->Prop} {cf:Cf} {K:List Kn} {μ:Mu} {s:St} (h:X2 P nt n0 (Xdl P nt n0 Q K) cf [] s μ):X2 P nt n0 Q cf K s μ:=by
 cases cf with
 |code c=>exact X4h.ofCl h
 |exit e=>exact Xdl.collapse K e s μ h
 |ops ops l =>
  intro c0 H0 c act g hm Qx hQ;refine h c0 H0 c act g hm Qx λc' s' act' μ' g' hm' hk=>?_;exact hQ c' s' act' μ' g' hm' (Xdl.collapse K .normal s' μ' hk)
 |loop b =>
  intro c0 H0 c act g hm R hR bb k cs hro;obtain⟨e,a',w',hq,harr⟩:=h c0 H0 c act g hm R hR bb k cs hro;exact⟨e,a',w',MQ.ofCl e a' w' hq,harr⟩
theorem X2.glue {P:Program} {nt n0:Nat} {Q:Xx->St->Mu->Prop} {e:Xx} {K:List Kn} {μ:Mu} {s:St} (h:X2 P nt n0 Q (.exit e) K s μ):X2 P nt n0 (Xdl P nt n0 Q K) (.exit e) [] s μ:=Cl.mk h
theorem X2.done {P:Program} {nt n0:Nat} {Q:Xx->St->Mu->Prop} {e:Xx} {μ:Mu} {s:St} (h:Q e s μ):X2 P nt n0 Q (.exit e) [] s μ:=Cl.mk h
def Xa6:Code->List Code
 |.loop b=>b::Xa6 b
 |.seq a b=>Xa6 a++Xa6 b
 |.block _ c=>Xa6 c
 |.scope c=>Xa6 c
 |.cond _ a b=>Xa6 a++Xa6 b
 |.rangeFunc _ _ a b=>Xa6 a++Xa6 b
 |_=>[]
def X48 (i:Nat) (c:Code):Code:=((Xa6 c)[i]?).getD .skip
theorem X0i.sym {P:Program} {T:Ty} (hT:Xat P T) {f:Nat} {fn:Func} {code:Code} (hfn:X1w P f fn code) {as:List AV} {nt:Nat} {r:AV} (hnt:fn.ntmps=nt)
  (hle:Nat.ble as.length nt=true) (h:X2 P nt 0 (Xw9 T fn r) (.code code) [] ⟨fr (argL 0 as),hp [],0⟩ []) (hok:∀ a∈as,a.Ok (·<0)):X0i P f as r:=by
 exact X0i.of_bodyM hT hfn hnt (by simpa using hle) (X4h.ofCl h)
def Xut (T:Ty) (L:List (Nat×AV)) (G:List (Nat×Obj)):List ResultVar->Option (List AV)
 |[]=>some []
 |.tmp t::l=>match fr L t with
  |.cond _ _=>none
  |a=>Xca a λa=>match Xut T L G l with
   |some r=>some (a::r)
   |none=>none
 |.cell p t::l=>match T t with
  |some ti=>match fr L p with
   |.ptr o i k=>match hp G o with
    |some y=>match y.es[i]? with
     |some e=>match Xo1 ti e k with
      |some a=>Xca a λa=>match Xut T L G l with
       |some r=>some (a::r)
       |none=>none
      |none=>none
     |none=>none
    |none=>none
   |_=>none
  |none=>none
theorem Xnm {T:Ty} {L:List (Nat×AV)} {G:List (Nat×Obj)} {n:Nat}:∀ (l:List ResultVar) (r:List AV),Xut T L G l=some r->Xgu T ⟨fr L,hp G,n⟩ l r:=by
 intro l
 induction l with
 |nil=>intro r h;simp[Xut] at h;subst h;exact .nil
 |cons v l ih =>
  intro r h
  cases v with
  |tmp t =>
   simp only[Xut] at h;split at h
   ·cases h
   ·rename_i a hne;rw[X6t] at h;split at h
    ·rename_i hr;cases h
     have:Xax (fr L t)=fr L t:=by
      cases hq:fr L t with
      |cond g v=>exact absurd hq (hne g v)
      |_=>rfl
     have hres:ResR T ⟨fr L,hp G,n⟩ (.tmp t) (Xax (fr L t)):=.tmp;rw[this] at hres;exact .cons hres (ih _ hr)
    ·cases h
  |cell p t =>
   simp only[Xut] at h;split at h
   ·rename_i ht;split at h
    ·rename_i hp1;split at h
     ·rename_i hH;split at h
      ·rename_i he;split at h
       ·rename_i hl;rw[X6t] at h;split at h
        ·rename_i hr;cases h
         refine .cons (.cell ht (e:=_) (k:=_) ?_ hl) (ih _ hr);show Xn6 (hp G) (Xax (fr L p)) _ _;rw[hp1];exact .ptr hH he
        ·cases h
       ·cases h
      ·cases h
     ·cases h
    ·cases h
   ·cases h
theorem X2.inline {P:Program} {T:Ty} {nt n0 nt' f:Nat} {Q:Xx->St->Mu->Prop} {ops:Array Oper} {l:List Oper} {o:Oper} {K:List Kn} {L:List (Nat×AV)} {G:List (Nat×Obj)} {n:Nat} {μ:Mu} {x:Operand} {args:Array Operand} {ts:Array Nat}
  {caps as:List AV} {fn:Func} {code:Code} (hT:Xat P T) (hfn:X1w P f fn code) (ho:o.op=.call { callee:=.value x,args:=args,argTypes:=ts }) (hg:o.guard=none) (hd:Xii nt o.dst=true) {qx qa:List Prop} (hx:rd L x=(.fn f caps,qx)) (ha:rds L args.toList=(as,qa)) (hpx:X3z qx) (hpa:X3z qa)
  (hnt:fn.ntmps=nt') (hle:Nat.ble (as++caps).length nt'=true)
  (h:X2 P nt' n (retM T fn λr H' n'=>X2 P nt n0 Q (.ops ops l) K ⟨Xcl (fr L) o.dst r,H',n'⟩ μ) (.code code) [] ⟨fr (Av.argL 0 (as++caps)),hp G,n⟩ []):X2 P nt n0 Q (.ops ops (o::l)) K ⟨fr L,hp G,n⟩ μ:=by
 refine X54.plain (s:=⟨fr L,hp G,n⟩) hg (X8e hd) (OpR.call (s:=⟨fr L,hp G,n⟩) ho (X0s hx hpx) ?_) (λa H' n' hr=>hr);rw[Xfw ha hpa];exact HC.of_bodyM hT hfn hnt (by simpa using hle) (X4h.ofCl h)
theorem X2.back {P:Program} {T:Ty} {nt n0 nt' n1:Nat} {fn:Func} {Q:Xx->St->Mu->Prop} {ops:Array Oper} {l:List Oper} {d:Option Nat} {K:List Kn} {L L1:List (Nat×AV)} {G:List (Nat×Obj)} {n:Nat} {μ μ1:Mu} {rs:List AV} {e:Xx} (he:∀ id,e≠.exit id)
  (hr:Xut T L1 G fn.results.toList=some rs) (h:X2 P nt n0 Q (.ops ops l) K ⟨fr (Xw7 d (Xf0 rs) L),hp G,n⟩ μ) :
  X2 P nt' n1 (retM T fn λr H' n'=>X2 P nt n0 Q (.ops ops l) K ⟨Xcl (fr L) d r,H',n'⟩ μ) (.exit e) [] ⟨fr L1,hp G,n⟩ μ1:=by
 refine Cl.mk ?_;have hk:∃ rs,Xgu T ⟨fr L1,hp G,n⟩ fn.results.toList rs/\X2 P nt n0 Q (.ops ops l) K ⟨Xcl (fr L) d (Xf0 rs),hp G,n⟩ μ:=⟨rs,Xnm _ _ hr,by rw[<-X61];exact h⟩
 cases e with
 |exit id=>exact absurd rfl (he id)
 |normal=>exact hk
 |ret=>exact hk
theorem X00n.sym {P:Program} {T:Ty} (hT:Xat P T) {f:Nat} {fn:Func} {code:Code} (hfn:X1w P f fn code) {as:List AV} {nt:Nat} {r:AV} {G G':List (Nat×Obj)} {n n':Nat} (hnt:fn.ntmps=nt) (hle:Nat.ble as.length nt=true)
  (h:X2 P nt n (retM T fn λr2 H2 n2=>r2=r/\H2=hp G'/\n2=n') (.code code) [] ⟨fr (Av.argL 0 as),hp G,n⟩ []):X00n P f as G n r G' n' :=
 ⟨HC.of_bodyM hT hfn hnt (by simpa using hle) (X4h.ofCl h)⟩
theorem X2.fin {P:Program} {T:Ty} {nt n0:Nat} {fn:Func} {r:AV} {L:List (Nat×AV)} {G:List (Nat×Obj)} {n:Nat} {μ:Mu} {rs:List AV} {e:Xx} (he:∀ id,e≠.exit id) (hr:Xut T L G fn.results.toList=some rs) (hc:Xf0 rs=r) :
  X2 P nt n0 (retM T fn λr2 H2 n2=>r2=r/\H2=hp G/\n2=n) (.exit e) [] ⟨fr L,hp G,n⟩ μ:=by
 refine Cl.mk ?_;have hk:∃ rs,Xgu T ⟨fr L,hp G,n⟩ fn.results.toList rs/\(Xf0 rs=r/\hp G=hp G/\n=n):=⟨rs,Xnm _ _ hr,hc,rfl,rfl⟩
 cases e with
 |exit id=>exact absurd rfl (he id)
 |normal=>exact hk
 |ret=>exact hk
theorem Xlb {P:Program} {T:Ty} {nt n0:Nat} {fn:Func} {r:AV} {L:List (Nat×AV)} {G:List (Nat×Obj)} {n:Nat} {μ:Mu} {rs:List AV} (hr:Xut T L G fn.results.toList=some rs) (hc:Cv true (hp G) (Xf0 rs) r) :
  X2 P nt n0 (Xw9 T fn r) (.exit .ret) [] ⟨fr L,hp G,n⟩ μ:=Cl.mk ⟨rs,Xnm _ _ hr,hc⟩
end Go.Av


namespace Go.Av
def Xa8 (e:AV):Prop:=∀ a∈e.cells,∃ v,a=.sc v
theorem X5k {H:X0j} {own:Bool} {es:List AV} (h:∀ e∈es,Xa8 e):Cv false H (.list own es) (.list false es):=by
 refine .listD rfl rfl (λi e e' he he'=>by rw[he] at he';cases he';rfl) (λi e e' k a b he he' ha hb=>?_);rw[he] at he';cases he';rw[ha] at hb;cases hb;obtain⟨v,rfl⟩:=h e (List.mem_of_getElem? he) a (List.mem_of_getElem? ha);exact .sc
theorem Xmw {m:Bool} {H:X0j} {o n:Nat} {x:Obj} {es:List AV} (hH:H o=some x) (he:x.es=es) (hn:n=es.length) (h:∀ e∈es,Xa8 e):Cv m H (.ref o 0 n) (.list m es):=by
 subst he hn;refine .ref hH om rfl (λi e e' he he'=>?_) (λi e e' k a b he he' ha hb=>?_)
 ·rw[Nat.zero_add] at he;rw[he] at he';cases he';rfl
 ·rw[Nat.zero_add] at he;rw[he] at he';cases he';rw[ha] at hb;cases hb;obtain⟨v,rfl⟩:=h e (List.mem_of_getElem? he) a (List.mem_of_getElem? ha);exact .sc
theorem Cvs.nil {m:Bool} {H:X0j}:Cvs m H [] []:=⟨rfl,λi a b h=>by simp at h⟩
theorem Cvs.cons {m:Bool} {H:X0j} {a b:AV} {as bs:List AV} (h:Cv m H a b) (hs:Cvs m H as bs):Cvs m H (a::as) (b::bs):=by
 refine⟨by simp[hs.len],λi x y hx hy=>?_⟩
 cases i with
 |zero=>simp at hx hy;subst hx hy;exact h
 |succ i=>simp at hx hy;exact hs.rel i x y hx hy
theorem X5h.none {P:Program} {f:Nat} {H:X0j} {as bs:List AV} {r:AV} (hp:X0i P f bs r) (h:Cvs false (λ_=>none) as bs):X5h P f H as bs r :=
 ⟨hp,λ_=>.none,h,(λ_ _ h=>by cases h),.inr λ_=>rfl⟩
theorem X5h.lent {P:Program} {f:Nat} {H:X0j} {as bs:List AV} {r:AV} (hp:X0i P f bs r) (h:Cvs false H as bs) (hr:Xit r):X5h P f H as bs r :=
 ⟨hp,H,h,λ_ _ h=>h,.inl hr⟩
theorem Xsv {es:List AV} (h:∀ e∈es,Xa8 e):Xit (.list true es) :=
 .list λe he a ha=>by obtain⟨v,rfl⟩:=h e he a ha;exact .sc
theorem wrap_i64 {z:Int} (h1 : -9223372036854775808<=z) (h2:z<=9223372036854775807):IntKind.i64.wrap z=z:=IntWalk.i64_in z ⟨h1,h2⟩
theorem X01v {α:Type} {enc:α->AV} {l:List α} {k:Nat} {x:α} (h:l[k]?=some x):(l.map enc)[((k:Nat):Int).toNat]?=some (enc x):=by
 rw[Int.toNat_natCast,List.getElem?_map,h];rfl
def X6z (e:AV):Prop:=∀ θ,e.ren θ=e
theorem X6 {es:List AV} (h:∀ e∈es,X6z e) (θ:Nat->Nat):es=es.map (AV.ren θ):=by
 conv=>lhs;rw[<-List.map_id es]
 exact List.map_congr_left λe he=>(h e he θ).symm
theorem X76 {p:AV->Prop}:∀ e∈([]:List AV),p e:=λ_ h=>by cases h
theorem X0w {p:AV->Prop} {a:AV} {l:List AV} (h:p a) (hl:∀ e∈l,p e):∀ e∈a::l,p e:=λe he=>by
 rcases List.mem_cons.1 he with h1|h1
 ·rw[h1];exact h
 ·exact hl e h1
theorem Xef {v:Value}:Xa8 (.sc v):=λa ha=>⟨v,List.mem_singleton.1 ha⟩
theorem Xdc {v:Value}:X6z (.sc v):=λ_=>rfl
theorem X02c {m:Bool} {H:X0j} {as bs:List AV} (h:Cvs m H as bs):Cv m H (.tup as) (.tup bs):=.tup h.len h.rel
end Go.Av


namespace Go.D
def wfI (k:IntKind) (z:Int):Prop:=(Lit.int k z).wf=true
def X1o {α:Type} (l:List α) (i:Int):Option α:=if 0<=i then l[i.toNat]? else none
def X74 {α:Type} (l:List α) (a b:Int):Option (List α):=if 0<=a/\a<=b/\b.toNat<=l.length then some ((l.drop a.toNat).take (b.toNat - a.toNat)) else none
def X1v (n b:Nat):Option Unit:=if n*b<=140737488355328 then some () else none
def X5a (n:Nat):Option Unit:=if n<=140737488355328 then some () else none
def Xu2 (b:Int):Option Unit:=if b≠0 then some () else none
def Xr3 {α:Type} (l:List α) (i:Int) (x:α) (b:Nat):Option (List α):=if 0<=i/\i.toNat<l.length/\(l.length+1)*b<=140737488355328 then some (l.take i.toNat++x::l.drop i.toNat) else none
def X051 (l:List Nat):ByteArray:=⟨(l.map UInt8.ofNat).toArray⟩
def delI {α:Type} (l:List α) (i:Int):Option (List α):=if 0<=i/\i.toNat<l.length/\l.length<=140737488355328 then some (l.take i.toNat++l.drop (i.toNat+1)) else none
def FU:Nat:=100000
structure V2 (α:Type) where
 e0:α
 e1:α
 deriving DecidableEq,Inhabited
end Go.D
namespace Go.Av
open Go.D
abbrev aI (k:IntKind) (z:Int):AV:=.sc (.int k z)
abbrev aB (b:Bool):AV:=.sc (.bool b)
theorem brE {α:Type} {c:Bool} {a b:Option α} {r:α} {G:Prop} (h:(bif c then a else b)=some r) (h1:c=true->a=some r->G) (h2:c=false->b=some r->G):G:=by
 cases c with
 |true=>exact h1 rfl h
 |false=>exact h2 rfl h
theorem X02g {α β:Type} {x:Option α} {f:α->Option β} {r:β} {G:Prop} (h:x.bind f=some r) (k:∀ v,x=some v->f v=some r->G):G:=by
 cases x with
 |none=>cases h
 |some v=>exact k v rfl h
theorem X7n {α:Type} {l:List α} {i:Int} {x:α} (h:X1o l i=some x):0<=i:=by
 unfold X1o at h;split at h
 ·assumption
 ·cases h
theorem Xea {α:Type} {l:List α} {i:Int} {x:α} (h:X1o l i=some x):l[i.toNat]?=some x:=by
 unfold X1o at h;split at h
 ·exact h
 ·cases h
theorem Xl8 {α:Type} {l:List α} {i:Int} {x:α} {f:α->AV} (h:X1o l i=some x):(l.map f)[i.toNat]?=some (f x):=by
 rw[List.getElem?_map,Xea h];rfl
theorem Xmq {α:Type} {l:List α} {i:Int} {x:α} {f:α->AV} (h:X1o l i=some x):(l.map f)[0+i.toNat]?=some (f x):=by
 rw[Nat.zero_add];exact Xl8 h
theorem Xo {α:Type} {l:List α} {i:Int} {x:α} (h:X1o l i=some x):i<(l.length:Int):=by
 have h1:=X7n h;have h2:=(List.getElem?_eq_some_iff.1 (Xea h)).1;omega
theorem X6r {α:Type} {l:List α} {i:Int} {x:α} (h:X1o l i=some x):i.toNat<l.length:=(List.getElem?_eq_some_iff.1 (Xea h)).1
theorem X12 {α:Type} {l xs:List α} {k:Nat} {x:α} (h:l.drop k=x::xs):k<l.length/\l[k]?=some x/\l.drop (k+1)=xs:=by
 have hk:k<l.length:=by
  rcases Nat.lt_or_ge k l.length with h1|h1
  ·exact h1
  ·rw[List.drop_of_length_le h1] at h;cases h
 rw[List.drop_eq_getElem_cons hk] at h;injection h with h1 h2
 exact⟨hk,by rw[List.getElem?_eq_getElem hk,h1],h2⟩
theorem drop_nil {α:Type} {l:List α} {k:Nat} (h:l.drop k=[]):l.length<=k:=by
 simpa using h
theorem ixm {α:Type} {l:List α} {k:Nat} {x:α} {f:α->AV} (h:l[k]?=some x):(l.map f)[((k:Nat):Int).toNat]?=some (f x):=X01v h
theorem Xq7 {n b:Nat} {u:Unit} (h:X1v n b=some u):n*b<=140737488355328:=by
 unfold X1v at h;split at h
 ·assumption
 ·cases h
theorem X13 {n:Nat} {u:Unit} (h:X5a n=some u):n<=140737488355328:=by
 unfold X5a at h;split at h
 ·assumption
 ·cases h
theorem Xxa {b:Int} {u:Unit} (h:Xu2 b=some u):b≠0:=by
 unfold Xu2 at h;split at h
 ·assumption
 ·cases h
theorem X3e {α:Type} {l m:List α} {a b:Int} (h:X74 l a b=some m):0<=a/\a<=b/\b.toNat<=l.length/\m=(l.drop a.toNat).take (b.toNat - a.toNat):=by
 unfold X74 at h;split at h
 ·rename_i hc;cases h;exact⟨hc.1,hc.2.1,hc.2.2,rfl⟩
 ·cases h
theorem X01b {s:ByteArray} {tab:List Int} {i b:Int} (ht:tab=s.data.toList.map λc=>(c.toNat:Int)) (h:X1o tab i=some b):∃ c,s[i.toNat]?=some c/\b=c.toNat:=by
 have h1:=Xea h;rw[ht,List.getElem?_map] at h1
 cases hc:s.data.toList[i.toNat]? with
 |none=>rw[hc] at h1;cases h1
 |some c =>
  rw[hc] at h1;cases h1
  have h2:i.toNat<s.size:=by have:=(List.getElem?_eq_some_iff.1 hc).1;simpa using this
  refine⟨c,?_,rfl⟩;rw[getElem?_pos s i.toNat h2];have h3:=(List.getElem?_eq_some_iff.1 hc).2;simp only[Array.getElem_toList] at h3;exact congrArg some h3
theorem X000 {α:Type} {l m:List α} {i:Int} (h:delI l i=some m):0<=i/\i.toNat<l.length/\l.length<=140737488355328/\m=l.take i.toNat++l.drop (i.toNat+1):=by
 unfold delI at h;split at h
 ·rename_i hc;cases h;exact⟨hc.1,hc.2.1,hc.2.2,rfl⟩
 ·cases h
theorem Xzo {α:Type} {l m:List α} {i:Int} {x:α} {b:Nat} (h:Xr3 l i x b=some m):0<=i/\i.toNat<l.length/\(l.length+1)*b<=140737488355328/\m=l.take i.toNat++x::l.drop i.toNat:=by
 unfold Xr3 at h;split at h
 ·rename_i hc;cases h;exact⟨hc.1,hc.2.1,hc.2.2,rfl⟩
 ·cases h
theorem X8k {α:Type} {l m:List α} {a b:Int} (h:X74 l a b=some m):b.toNat - a.toNat=m.length:=by
 obtain⟨h1,h2,h3,rfl⟩:=X3e h;simp;omega
theorem X8j {α:Type} {m:List α} {a b:Int} (h:X74 ([]:List α) a b=some m):m=[]:=by
 obtain⟨h1,h2,h3,rfl⟩:=X3e h;simp
theorem X2s {α:Type} {m:List α} (h:List.isEmpty m=true):m.length=0:=by
 rw[List.isEmpty_iff.1 h];rfl
theorem X0x {α:Type} {m:List α} (h:List.isEmpty m=false):0<m.length:=by
 cases m with
 |nil=>cases h
 |cons a m=>simp
theorem Xez {α:Type} {l m:List α} {off n:Nat} {i:Int} {x:α} {f:α->AV} (q:m=(l.drop off).take n) (h:X1o m i=some x):(l.map f)[off+i.toNat]?=some (f x):=by
 have h1:=Xea h;rw[q,List.getElem?_take] at h1;split at h1
 ·rw[List.getElem?_drop] at h1;rw[List.getElem?_map,h1];rfl
 ·cases h1
theorem X8l {α:Type} {l m:List α} {n:Nat} {f:α->AV} (q:m=(l.drop 0).take n):∃ k,m.map f=(l.map f).take k:=⟨n,by rw[q];simp[List.map_take]⟩
theorem Xxf {α:Type} {f:α->AV} {n:Nat} (h:∀ x,(f x).cells.length=n) (l:List α):∀ e∈l.map f,e.cells.length=n:=by
 intro e he;obtain⟨x,_,rfl⟩:=List.mem_map.1 he;exact h x
theorem X2c {α:Type} {f:α->AV} (h:∀ x,Xa8 (f x)) (l:List α):∀ e∈l.map f,Xa8 e:=by
 intro e he;obtain⟨x,_,rfl⟩:=List.mem_map.1 he;exact h x
theorem X01 {α:Type} {f:α->AV} (h:∀ x,X6z (f x)) (l:List α):∀ e∈l.map f,X6z e:=by
 intro e he;obtain⟨x,_,rfl⟩:=List.mem_map.1 he;exact h x
def Xa7 (e:AV):Prop:=∀ M:Nat->Prop,e.Ok M/\∀ a∈e.cells,a.Ok M
theorem X2j {α:Type} {f:α->AV} (h:∀ x,Xa7 (f x)) (l:List α) (M:Nat->Prop):∀ e∈l.map f,∀ a∈e.cells,a.Ok M:=by
 intro e he;obtain⟨x,_,rfl⟩:=List.mem_map.1 he;exact(h x M).2
theorem X3v {e:AV} (h:Xa8 e) (hw:e.whole=true):Xa7 e:=λM=>by
 have h2:∀ a∈e.cells,a.Ok M:=λa ha=>by obtain⟨v,rfl⟩:=h a ha;exact .sc
 refine⟨?_,h2⟩
 cases e with
 |agg cs=>exact .agg h2
 |_=>first|exact h2 _ (List.mem_singleton.2 rfl)
theorem ref1 {i n m:Nat} (h:n=m):[AV.ref i 0 n]=[AV.ref i 0 m]:=h▸rfl
def Nb {α:Type} (l:List α):Type:={ b:Bool // b=true->l=[] }
def nbF {α:Type} {l:List α}:Nb l:=⟨false,λh=>by cases h⟩
def nbT {α:Type} {l:List α} (h:l=[]):Nb l:=⟨true,λ_=>h⟩
def slE (nb:Bool) (id:Nat) (es:List AV):AV:=bif nb then .nils else .ref id 0 es.length
def opE (nb:Bool) (id esz:Nat) (es:List AV):List (Nat×Obj):=bif nb then [] else [(id,{ es:=es,esz:=esz })]
theorem X2.joinF {P:Program} {nt n0:Nat} {Q:Xx->St->Mu->Prop} {cf:Cf} {K:List Kn} {μ:Mu} {s:St} {ι:Type} (s':ι->St) (h1:∀ i,X2 P nt n0 Q (.exit .normal) K (s' i) μ)
  (h2:(∀ i,X2 P nt n0 Q (.exit .normal) K (s' i) μ)->X2 P nt n0 Q cf K s μ):X2 P nt n0 Q cf K s μ:=h2 h1
theorem X2.joinOpF {P:Program} {nt n0:Nat} {Q:Xx->St->Mu->Prop} {ops:Array Oper} {o:Oper} {l:List Oper} {K:List Kn} {μ:Mu} {s:St} {ι:Type} (s':ι->St) (h1:∀ i,X2 P nt n0 Q (.ops ops l) K (s' i) μ)
  (h2:(∀ i,X2 P nt n0 Q (.ops ops l) K (s' i) μ)->X2 P nt n0 Q (.ops ops (o::l)) K s μ):X2 P nt n0 Q (.ops ops (o::l)) K s μ:=h2 h1
theorem X2.join {P:Program} {nt n0:Nat} {Q:Xx->St->Mu->Prop} {cf:Cf} {K:List Kn} {μ:Mu} {s s':St} (h1:X2 P nt n0 Q (.exit .normal) K s' μ)
  (h2:X2 P nt n0 Q (.exit .normal) K s' μ->X2 P nt n0 Q cf K s μ):X2 P nt n0 Q cf K s μ:=h2 h1
theorem X2.joinOp {P:Program} {nt n0:Nat} {Q:Xx->St->Mu->Prop} {ops:Array Oper} {o:Oper} {l:List Oper} {K:List Kn} {μ:Mu} {s s':St} (h1:X2 P nt n0 Q (.ops ops l) K s' μ)
  (h2:X2 P nt n0 Q (.ops ops l) K s' μ->X2 P nt n0 Q (.ops ops (o::l)) K s μ):X2 P nt n0 Q (.ops ops (o::l)) K s μ:=h2 h1
theorem X1z {v:Value} {P:List AV} (h:∀ a∈P,∃ v,a=.sc v):∀ a∈(.sc v::P),∃ v,a=.sc v:=λa ha=>by
 rcases List.mem_cons.1 ha with rfl|ha
 ·exact⟨_,rfl⟩
 ·exact h a ha
theorem Xgr:∀ a∈([]:List AV),∃ v,a=.sc v:=λ_ h=>by cases h
theorem Xtu {v:Value}:Xa7 (.sc v):=λ_=>⟨.sc,λa ha=>by rw[List.mem_singleton.1 ha];exact .sc⟩
theorem Xq0 {cs:List AV} (h:∀ M:Nat->Prop,∀ a∈cs,a.Ok M):Xa7 (.agg cs):=λM=>⟨.agg (h M),h M⟩
theorem X2i {e:AV} (h:Xa7 e) (M:Nat->Prop):∀ e'∈[e],∀ a∈e'.cells,a.Ok M:=λe' he=>by rw[List.mem_singleton.1 he];exact(h M).2
def encl {α:Type} (o:Bool) (f:α->AV) (l:List α):AV:=.list o (l.map f)
theorem Xia {α:Type} {o:Bool} {f:α->AV} {l:List α}:Xa7 (encl o f l):=λ_=>⟨.list,λa ha=>by rw[List.mem_singleton.1 ha];exact .list⟩
theorem X002 {m:Bool} {H:X0j} {e:AV} (h:Xa8 e) (hw:e.whole=true:=by rfl):Cv m H e e:=by
 cases e with
 |agg cs =>
  refine .agg rfl λi a b ha hb=>?_;rw[ha] at hb;cases hb;obtain⟨v,rfl⟩:=h a (List.mem_of_getElem? ha);exact .sc
 |sc v=>exact .sc
 |_=>obtain⟨v,hv⟩:=h _ (List.mem_singleton.2 rfl);cases hv
theorem Xmc {l:List AV} (h:∀ a∈l,Xit a):Xit (.tup l):=.tup h
theorem Xmx {m:Bool} {H:X0j} {as bs:List AV} (h:Cvs m H as bs):Cv m H (.agg as) (.agg bs):=.agg h.len h.rel
theorem X001 {m:Bool} {H:X0j} {es:List AV} (h:es=[]):Cv m H .nils (.list m es):=by rw[h];exact .nils
theorem absT {b:Bool} {P:Prop} (h:b=false):b=true->P:=λa=>Bool.noConfusion (a.symm.trans h)
theorem absN {b:Bool} {P:Prop} (h:b=true):(!b)=true->P:=λa=>by rw[h] at a;cases a
theorem X02 {m n b c:Nat} {u:Unit} (h:X1v n c=some u) (hb:b=c) (hm:m=n):m*b<=140737488355328:=by subst hb hm;exact Xq7 h
theorem Xk {m n c:Nat} {u:Unit} (h:X1v n c=some u) (hc:0<c) (hm:m=n):m<=maxLen:=by
 subst hm;have:=Xq7 h;have h2:m*1<=m*c:=Nat.mul_le_mul_left _ hc;unfold maxLen;omega
theorem Xg {c x y b:Bool} (h:c=true) (hx:x=b):(bif c then x else y)=b:=by rw[h];exact hx
theorem Xr {c x y b:Bool} (h:c=false) (hy:y=b):(bif c then x else y)=b:=by rw[h];exact hy
theorem X035 {c:Bool} (h:c=true):(!c)=false:=by rw[h];rfl
theorem X036 {c:Bool} (h:c=false):(!c)=true:=by rw[h];rfl
theorem X00e {c b:Bool} (h:c=b):(!c)=!b:=by rw[h]
theorem Xsw {f:Nat} {M:Nat->Prop}:(AV.fn f []).Ok M:=.fn λ_ h=>by cases h
theorem Xew {α:Type} {f:α->AV} {w:α->Prop} {es:List AV} (h:∀ x∈es,∃ e,x=f e/\w e):∃ l:List α,es=l.map f/\∀ y∈l,w y:=by
 induction es with
 |nil=>exact⟨[],rfl,λ_ h=>by cases h⟩
 |cons a r ih =>
  obtain⟨e,he,hw⟩:=h a (List.mem_cons_self ..);obtain⟨l,hl,hws⟩:=ih λx hx=>h x (List.mem_cons_of_mem _ hx);refine⟨e::l,by rw[he,hl];rfl,λy hy=>?_⟩;rcases List.mem_cons.1 hy with rfl|hy
  ·exact hw
  ·exact hws y hy
theorem oblA {P:Prop} (h:P:=by
 first
  |exact trivial
  |exact λh=>h
  |rfl
  |assumption
  |(apply X7n;assumption;done)
  |(apply Xl8;assumption;done)
  |(apply Xmq;assumption;done)
  |(apply ixm;assumption;done)
  |(apply ixm0;assumption;done)
  |(apply getI_mapc;assumption;done)
  |(apply getI_mapc0;assumption;done)
  |(apply ixmc;assumption;done)
  |(apply ixmc0;assumption;done)
  |(apply Xxa;assumption;done)
  |(apply shOk_le;assumption;done)
  |(intro a;rw[a];done)
  |(intro a;rw[a];rfl)
  |exact wrap_i64 om om
  |(refine Xxf ?_ _;intro x;rfl)
  |exact ex_head rfl
  |(refine cell_len_td ?_ _ _ _;intro x;rfl)
  |(refine cell_len_c ?_ _ _;intro x;rfl)
  |(refine take_full ?_;first|rfl|(simp;done)|(simp;omega)|(simp[*];done))
  |exact Nat.le_of_ble_eq_true rfl
  |(exact decide_eq_true om)
  |(exact decide_eq_false om)
  |(simp only[maxLen,List.length_append,List.length_map,List.length_cons,List.length_nil,List.length_replicate,Int.toNat_natCast];done)
  |(simp only[maxLen,List.length_append,List.length_map,List.length_cons,List.length_nil,List.length_replicate,Int.toNat_natCast] at *;omega)
  |(simp only[List.length_map];first|done|assumption|rfl)
  |(simp only[List.length_map];first|(apply X7n;assumption;done)|(apply Xl8;assumption;done)|(apply Xmq;assumption;done)|(apply getI_mapc;assumption;done)|(apply getI_mapc0;assumption;done))
  |(refine congrArg (λz=>AV.sc (Value.int IntKind.i64 z)) ?_;simp only[List.length_map,List.length_cons,List.length_append];done)
  |(refine congrArg (λz=>AV.sc (Value.int IntKind.i64 z)) ?_;first|(simp;done)|(simp;omega)|(simp[*];done))
  |(intro e he;rw[List.mem_singleton.1 he];rfl)
  |(intro e he;simp only[List.mem_cons,List.not_mem_nil,or_false] at he;rcases he with rfl|rfl<;>rfl)
  |exact andL
  |exact andR
  |(refine X035 ?_;assumption)
  |(refine X036 ?_;assumption)
  |(refine absT ?_;assumption)
  |(refine absN ?_;assumption)
  |omega
  |(simp;done)
  |(simp[*];done)
  |(intros;simp_all;done)):P:=h
end Go.Av


namespace Go.Av
theorem Xp0 {P:Program} {t et:Nat} {p:Option Addr} {n m:Nat} (hu:P.underlying t=some (.slice et)) (w:World) (d:Nat) :
  (Op.equalIn (d+1) t (.slice p n m) (.slice none 0 0)).run P w=.ok p.isNone w:=by
 unfold Op.equalIn;rw[Sem.run_bind,run_underlying hu w];cases p<;>rfl
theorem Xm6 {P:Program} {t:Nat} {et:Nat} {x:Operand} {p:Option Addr} {n m:Nat} (hu:P.underlying t=some (.slice et)) (w:World) (y:Operand) :
  ((do eqGuard .eql t x y (.slice p n m) (.slice none 0 0);binOp .eql t (.slice p n m) (.slice none 0 0):Sem Value)).run P w=.ok (.bool p.isNone) w:=by
 have h1:(eqGuard .eql t x y (.slice p n m) (.slice none 0 0)).run P w=.ok () w:=rfl;have h2:(binOp .eql t (.slice p n m) (.slice none 0 0))=(do pure (.bool (<-Op.equalIn (9999+1) t (.slice p n m) (.slice none 0 0))):Sem Value):=rfl;rw[Sem.run_bind,h1,Result.andThen_ok,h2,Sem.run_bind,Xp0 hu w 9999];rfl
def X5n:AV->Option Bool
 |.list _ es=>some es.isEmpty
 |.nils=>some true
 |.ref _ _ _=>some false
 |_=>none
theorem Xt1 {c:Ctx} {a:AV} {v:Value} {b:Bool} (h:X0z c false a v) (hn:X5n a=some b):∃ p n m,v=.slice p n m/\(b=false->p.isNone=false):=by
 cases h with
 |listNil=>simp[X5n] at hn;subst hn;exact⟨_,_,_,rfl,λh=>by cases h⟩
 |list vf hne =>
  rename_i es b off cap esz n hS hn' hcap hsz hcell h1 h;exact⟨_,_,_,rfl,λ_=>rfl⟩
 |nils=>simp[X5n] at hn;subst hn;exact⟨_,_,_,rfl,λh=>by cases h⟩
 |ref=>exact⟨_,_,_,rfl,λ_=>rfl⟩
 |_=>cases hn
theorem X2.eqNil {P:Program} {T:Ty} {nt n0:Nat} {Q:Xx->St->Mu->Prop} {ops:Array Oper} {l:List Oper} {o:Oper} {K:List Kn} {L:List (Nat×AV)} {G:List (Nat×Obj)} {n:Nat} {μ:Mu} {t yt:Nat} {x:Operand} {ti:TI} {et:Nat}
  {a:AV} {q:List Prop} {may:Bool} (hT:Xat P T) (ho:o.op=.binOp .eql t x (.const (.slice none 0 0)) yt) (hg:o.guard=none) (hd:Xii nt o.dst=true) (ht:T t=some ti) (hk:ti.kind=.slice et) (hx:rd L x=(a,q)) (hq:X3z q)
  (hm:X5n a=some may) (h:∀ b:Bool,(may=false->b=false)->X2 P nt n0 Q (.ops ops l) K ⟨fr (Xw7 o.dst (.sc (.bool b)) L),hp G,n⟩ μ):X2 P nt n0 Q (.ops ops (o::l)) K ⟨fr L,hp G,n⟩ μ:=by
 refine X54.plain (s:=⟨fr L,hp G,n⟩) hg (X8e hd) (R:=λa' H' n'=>(∃ b:Bool,(may=false->b=false)/\a'=.sc (.bool b))/\H'=hp G/\n'=n) ?_ ?_
 ·intro c0 H0 n0' c act g K' Q' hK R;have hv:=g.ev x;rw[show evA (St.A ⟨fr L,hp G,n⟩) x=a from X0s hx hq] at hv;obtain⟨p,m1,m2,hv',hp'⟩:=Xt1 hv hm;refine Oper.wpR (λd hd=>by rw[hd] at ho;cases ho) ?_;unfold Oper.wp;have hr:(execOp act.eval o).run P c.w=.ok (.value (.bool p.isNone)) c.w:=by
   obtain⟨dst,op,type,pos,after,guard⟩:=o;simp only at ho;subst ho;have:=Xm6 (P:=P) (t:=t) (x:=x) (p:=p) (n:=m1) (m:=m2) (X22 (hT t ti ht) hk) c.w (.const (.slice none 0 0));have hc:act.eval (.const (.slice none 0 0))=.slice none 0 0:=rfl;simp only[execOp,hv',hc];rw[Sem.run_bind,this];rfl
  rw[hr];exact hK c (.sc (.bool p.isNone)) (hp G) n (.bool p.isNone) ⟨⟨_,hp',rfl⟩,rfl,rfl⟩ λdst hd=>g.next hd (.refl c) rfl (λb hb=>.inl hb) (.refl c (hp G)) (λq x hx=>.inr ⟨q,x,hx,rfl⟩) g.inv g.solo (Nat.le_refl _) .sc .sc
 ·rintro a' H' n' ⟨⟨b,hb,rfl⟩,rfl,rfl⟩;have:=h b hb;rw[X61] at this;exact this
theorem X2.inlineG {P:Program} {T:Ty} {nt n0 nt' f j t:Nat} {want g:Bool} {Q:Xx->St->Mu->Prop} {ops:Array Oper} {l:List Oper} {o:Oper} {K:List Kn} {L:List (Nat×AV)} {G:List (Nat×Obj)} {n:Nat} {μ:Mu} {x:Operand} {args:Array Operand} {ts:Array Nat}
  {caps as:List AV} {fn:Func} {code:Code} (hT:Xat P T) (hfn:X1w P f fn code) (ho:o.op=.call { callee:=.value x,args:=args,argTypes:=ts }) (hg:o.guard=some (j,want)) (hj:(ops[j]?).bind (·.dst)=some t) (ht:Nat.blt t nt=true) (hgd:gdS want (fr L t)=some g)
  (hd:Xii nt o.dst=true) {qx qa:List Prop} (hx:rd L x=(.fn f caps,qx)) (ha:rds L args.toList=(as,qa)) (hnt:fn.ntmps=nt') (hle:Nat.ble (as++caps).length nt'=true) (hgt:g=true) (hpx:X3z qx) (hpa:X3z qa)
  (h:X2 P nt' n (retM T fn λr H' n'=>X2 P nt n0 Q (.ops ops l) K ⟨Xcl (fr L) o.dst r,H',n'⟩ μ) (.code code) [] ⟨fr (Av.argL 0 (as++caps)),hp G,n⟩ []):X2 P nt n0 Q (.ops ops (o::l)) K ⟨fr L,hp G,n⟩ μ:=by
 subst hgt;refine X54.step (s:=⟨fr L,hp G,n⟩) (λc0 c H0 act gd=>Xbw (s:=⟨fr L,hp G,n⟩) hg hj ht hgd gd) (X8e hd) (OpR.call (s:=⟨fr L,hp G,n⟩) ho (X0s hx hpx) ?_) (λa H' n' hr=>hr);rw[Xfw ha hpa];exact HC.of_bodyM hT hfn hnt (by simpa using hle) (X4h.ofCl h)
end Go.Av


namespace Go.Av
open MapKept
noncomputable def Xqj (k v:Value):List (Value×Value)->List (Value×Value)
 |[]=>[(k,v)]
 |(a,b)::r=>open Classical in if a=k then (k,v)::r else (a,b)::Xqj k v r
noncomputable def getV (k:Value):List (Value×Value)->Option Value
 |[]=>none
 |(a,b)::r=>open Classical in if a=k then some b else getV k r
theorem Xyk {k v:Value}:∀ (l:List (Value×Value)) (j:Nat) (p:Value×Value),l[j]?=some p->p.1=k->(∀ i q,i<j->l[i]?=some q->q.1≠k)->Xqj k v l=l.set j (k,v)/\getV k l=some p.2:=by
 intro l
 induction l with
 |nil=>intro j p h;simp at h
 |cons a r ih =>
  obtain⟨a1,a2⟩:=a;intro j p h hk hn
  cases j with
  |zero=>simp at h;subst h;simp only at hk;simp[Xqj,getV,hk]
  |succ j =>
   have h0:a1≠k:=hn 0 (a1,a2) (Nat.succ_pos j) rfl;obtain⟨h1,h2⟩:=ih j p (by simpa using h) hk (λi q hi hq=>hn (i+1) q (Nat.succ_lt_succ hi) (by simpa using hq));simp[Xqj,getV,h0,h1,h2]
theorem Xvx {k v:Value}:∀ (l:List (Value×Value)),(∀ q∈l,q.1≠k)->Xqj k v l=l++[(k,v)]/\getV k l=none:=by
 intro l
 induction l with
 |nil=>intro _;exact⟨rfl,rfl⟩
 |cons a r ih =>
  obtain⟨a1,a2⟩:=a;intro hn;have h0:a1≠k:=hn (a1,a2) (by simp);obtain⟨h1,h2⟩:=ih (λq hq=>hn q (List.mem_cons_of_mem _ hq));simp[Xqj,getV,h0,h1,h2]
theorem Xla {d:TypeDesc} {k:Value} (hk:IsKey d k):∀ (l:List MapEntry) (i:Nat),(∀ x∈l,IsKey d x.key) ->
  (Instr.findNow d k l i=some none/\∀ x∈l,x.key≠k)\/∃ j e,Instr.findNow d k l i=some (some (i+j,e.val))/\l[j]?=some e/\e.key=k/\∀ m x,m<j->l[m]?=some x->x.key≠k:=by
 intro l
 induction l with
 |nil=>intro i _;exact .inl ⟨rfl,by simp⟩
 |cons e es ih =>
  intro i h;obtain⟨r,hr,hiff⟩:=sameNow_of_keys hk (h e (by simp))
  cases r with
  |true=>exact .inr ⟨0,e,by simp[Instr.findNow,hr],rfl,(hiff.1 rfl).symm,λm x hm=>absurd hm (Nat.not_lt_zero m)⟩
  |false =>
   have hne:e.key≠k:=λq=>by have:=hiff.2 q.symm;cases this
   rcases ih (i+1) (λx hx=>h x (List.mem_cons_of_mem _ hx)) with ⟨h1,h2⟩|⟨j,e',h1,h2,h3,h4⟩
   ·exact .inl ⟨by simp[Instr.findNow,hr,h1],λx hx=>by
     rcases List.mem_cons.1 hx with rfl|hx
     ·exact hne
     ·exact h2 x hx⟩
   ·refine .inr ⟨j+1,e',by simp[Instr.findNow,hr,h1];omega,by simpa using h2,h3,λm x hm hx=>?_⟩
    cases m with
    |zero=>simp at hx;subst hx;exact hne
    |succ m=>exact h4 m x om (by simpa using hx)
theorem Xm7 {d:TypeDesc} {k:Value} (hk:IsKey d k) (n:Nat):Instr.sameBits (n+1) k k=true:=by
 cases d<;>cases k<;>simp_all [IsKey,Instr.sameBits,bytes_beq]
theorem Xgg {P:Program} {w:World} {b:Nat} {l:List (Value×Value)} {t kt et:TypeId} {d:TypeDesc} {k v:Value} (hm:P.underlying t=some (.map kt et)) (hd:P.underlying kt=some d)
  (hM:Xrm w b l) (hk:IsKey d k) (hks:∀ p∈l,IsKey d p.1) :
  ∃ o',(Instr.mapUpdate t (.map (some b)) k v).run P w=.ok () { w with heap:=w.heap.setIfInBounds b o' }/\Xrm { w with heap:=w.heap.setIfInBounds b o' } b (Xqj k v l):=by
 obtain⟨es,clock,hb,hl,hp,hc⟩:=hM;have hes:∀ x∈es.toList,IsKey d x.key:=λx hx=>hks (x.key,x.val) (by rw[<-hl];exact List.mem_map.2 ⟨x,hx,rfl⟩);have hset:∀ o',(w.heap.setIfInBounds b o')[b]?=some o':=λo'=>(heap_set (o':=o') hb).1;rcases Xla hk es.toList 0 hes with ⟨h1,h2⟩|⟨j,e,h1,h2,h3,h4⟩
 ·refine⟨.map (es.push { key:=k,val:=v,born:=clock }) (clock+1),?_,es.push { key:=k,val:=v,born:=clock },clock+1,hset _,?_,?_,?_⟩
  ·simp[Instr.mapUpdate,run_underlying hm,MapKept.run_getObj_map hb,run_checkKey hd hk,run_findKey hd h1,MapKept.run_setObj_map _ hb]
  ·rw[Array.toList_push,List.map_append,hl];rw[(Xvx (v:=v) l (λq hq=>by
    rw[<-hl] at hq;obtain⟨x,hx,rfl⟩:=List.mem_map.1 hq;exact h2 x hx)).1]
   rfl
  ·rw[Array.toList_push];exact List.pairwise_append.2 ⟨hp,List.pairwise_singleton _ _,λa ha b' hb'=>by rw[List.mem_singleton.1 hb'];exact hc a ha⟩
  ·intro x hx;rw[Array.toList_push,List.mem_append] at hx;rcases hx with hx|hx
   ·exact Nat.lt_succ_of_lt (hc x hx)
   ·rw[List.mem_singleton.1 hx];exact Nat.lt_succ_self _
 ·have he:es[j]?=some e:=by simpa using h2
  have hlj:l[j]?=some (e.key,e.val):=by rw[<-hl,List.getElem?_map,h2];rfl
  have hm2:(es.modify j λe=>{ e with key:=k,val:=v }).toList=es.toList.modify j λe=>{ e with key:=k,val:=v }:=by simp
  refine⟨.map (es.modify j λe=>{ e with key:=k,val:=v }) clock,?_,es.modify j λe=>{ e with key:=k,val:=v },clock,hset _,?_,?_,?_⟩
  ·have hst:(Instr.keyThatStays k k).run P w=.ok k w:=by simp[Instr.keyThatStays,Xm7 hk]
   simp only[Nat.zero_add] at h1;simp[Instr.mapUpdate,run_underlying hm,MapKept.run_getObj_map hb,run_checkKey hd hk,run_findKey hd h1,he,h3,hst,MapKept.run_setObj_map _ hb]
  ·rw[hm2,(Xyk (v:=v) l j _ hlj h3 (λi q hi hq=>by
    rw[<-hl,List.getElem?_map] at hq
    cases hx:es.toList[i]? with
    |none=>rw[hx] at hq;cases hq
    |some x=>rw[hx] at hq;cases hq;exact h4 i x hi hx)).1,<-hl]
   apply List.ext_getElem?;intro i;simp only[List.getElem?_map,List.getElem?_modify,List.getElem?_set];by_cases hij:j=i
   ·subst hij;have hlt:j<es.toList.length:=(List.getElem?_eq_some_iff.1 h2).1;simp[he] at *;simpa using hlt
   ·simp[hij]
  ·rw[hm2];refine List.pairwise_iff_getElem.2 λi i' hi hi' hlt=>?_;have:=List.pairwise_iff_getElem.1 hp i i' (by simpa using hi) (by simpa using hi') hlt;simp only[List.getElem_modify];split<;>split<;>exact this
  ·intro x hx;rw[hm2] at hx;obtain⟨i,hi⟩:=List.getElem?_of_mem hx;rw[List.getElem?_modify] at hi
   cases hy:es.toList[i]? with
   |none=>rw[hy] at hi;simp at hi
   |some y =>
    rw[hy] at hi;have:=hc y (List.mem_of_getElem? hy);by_cases hij:j=i
    ·simp[hij] at hi;rw[<-hi];exact this
    ·simp[hij] at hi;rw[<-hi];exact this
theorem Inv.aside {c:Ctx} {H:X0j} {M:Nat->Prop} (hI:Inv c H M) {b:Nat} {w':World} (hsz:w'.heap.size=c.w.heap.size) (hw:∀ q,q≠b->w'.heap[q]?=c.w.heap[q]?) (hsa:¬ c.Sa b/\¬ c.So b) (hob:∀ o x,H o=some x->(c.ρ o).blk≠b) :
  c.Le M { c with w:=w' }/\Inv { c with w:=w' } H M:=by
 have hle:c.Le M { c with w:=w' }:=⟨λ_ _=>rfl,λ_ h=>h,λ_ h=>h,λq hq=>hw q (λe=>by subst e;exact hq.elim hsa.1 hsa.2),rfl⟩;refine⟨hle,⟨?_,hI.sep,hI.stab,λq hq=>by have:=hI.lt q hq;simp only[hsz];exact this,by have:=hI.base;simp only[hsz];exact this,hI.own,hI.low⟩⟩;intro p x hx;obtain⟨h1,⟨⟨cur,hb,hs,hc⟩,h3,h4,h5⟩,h6⟩:=hI.obj p x hx;refine⟨h1,⟨⟨cur,?_,hs,?_⟩,h3,h4,h5⟩,h6⟩
 ·show w'.heap[(c.ρ p).blk]?=_;rw[hw _ (hob p x hx)];exact hb
 ·intro i e he;obtain⟨g1,g2⟩:=hc i e he;exact⟨g1,λk a ha=>by obtain⟨v,hv,hr,h7⟩:=g2 k a ha;exact⟨v,hv,hr.mono hle (.inr (h6 e (List.mem_of_getElem? he) a (List.mem_of_getElem? ha))),h7⟩⟩
section
variable {P:Program} {nt n0:Nat} {Q:Xx->St->Mu->Prop} {ops:Array Oper} {l:List Oper} {o:Oper} {K:List Kn} {L:List (Nat×AV)} {G:List (Nat×Obj)} {n:Nat} {μ:Mu}
theorem Xfn {P:Program} (t:TypeId) (w:World):(Instr.makeMap t none).run P w=.ok (.map (some w.heap.size)) (w.alloc (.map #[] 0)):=rfl
theorem X2.mapNew {t:Nat} (ho:o.op=.makeMap t none) (hg:o.guard=none) (hd:Xii nt o.dst=true)
  (h:∀ b,X2 P nt n0 Q (.ops ops l) K ⟨fr (Xw7 o.dst (.sc (.map (some b))) L),hp G,n⟩ ((b,.map [])::μ)):X2 P nt n0 Q (.ops ops (o::l)) K ⟨fr L,hp G,n⟩ μ:=by
 intro c0 H0 c act g hm Qx hQ R hR;refine X4r λK' hK'=>?_;rw[if_pos (by simp[Region.wanted,hg])];have hrun:(execOp act.eval o).run P c.w=.ok (.value (.map (some c.w.heap.size))) (c.w.alloc (.map #[] 0)):=by
  obtain⟨dst,op,type,pos,after,guard⟩:=o;simp only at ho;subst ho;simp only[execOp,Sem.run_bind,Xfn];rfl
 refine Oper.wpR (λd hd=>by rw[hd] at ho;cases ho) ?_;unfold Oper.wp;rw[hrun];obtain⟨h1,h2,h3⟩:=g.inv.waste (w':=c.w.alloc (.map #[] 0)) (.map #[] 0) rfl rfl rfl ⟨rfl,Nat.le_refl _⟩;have g2:=(g.rebase).next (c':={ c with w:=c.w.alloc (.map #[] 0) }) (dst:=o.dst) (a:=.sc (.map (some c.w.heap.size))) (v:=.map (some c.w.heap.size)) (X8e hd) h1 rfl (λb hb=>.inl hb) h3 (λq x hx=>.inr ⟨q,x,hx,rfl⟩) h2 g.solo (Nat.le_refl _) .sc .sc;have hk:=hm.kept g2.reach;have hnew:(c.w.alloc (.map #[] 0)).heap[c.w.heap.size]?=some (.map #[] 0):=(heap_alloc c.w _).1;have hb:=h c.w.heap.size;rw[X61] at hb;refine hK' _ _ (hb c0 H0 { c with w:=c.w.alloc (.map #[] 0) } _ (.join g.reach g2) ⟨?_,?_,?_,(put_defers _ _ _).trans hm.ds⟩ Qx hQ R hR)
 ·intro p hp;rcases List.mem_cons.1 hp with rfl|hp
  ·exact⟨#[],0,hnew,rfl,List.Pairwise.nil,λe he=>by simp at he⟩
  ·exact hk.is p hp
 ·intro p hp;rcases List.mem_cons.1 hp with rfl|hp
  ·refine⟨λhs=>Nat.lt_irrefl _ (g.inv.lt _ (.inl hs)),λhs=>Nat.lt_irrefl _ (g.inv.lt _ (.inr hs)),λq x hx he=>?_,g.reach.size⟩;obtain⟨_,⟨⟨cur,hcb,_⟩,_,_,_⟩,_⟩:=g.inv.obj q x hx;have he':(c.ρ q).blk=c.w.heap.size:=he;rw[he'] at hcb;simp at hcb
  ·exact hk.away p hp
 ·refine List.nodup_cons.2 ⟨λhmem=>?_,hk.nodup⟩;obtain⟨p,hp,he⟩:=List.mem_map.1 hmem;have:=(hm.is p hp).lt;simp only at he;omega
theorem X2.mapUpd {T:Ty} {t b kt et:Nat} {m k x:Operand} {qm qk qx:List Prop} {kv xv:Value} {es:List (Value×Value)} {ti:TI} {d:TypeDesc} (hT:Xat P T) (ho:o.op=.mapUpdate t m k x) (hg:o.guard=none) (hd:o.dst=none)
  (ht:T t=some ti) (hkd:ti.kind=.map kt et) (hu:P.underlying kt=some d)
  (hm:rd L m=(.sc (.map (some b)),qm)) (hk:rd L k=(.sc kv,qk)) (hx:rd L x=(.sc xv,qx)) (hqm:X3z qm) (hqk:X3z qk) (hqx:X3z qx) (hik:IsKey d kv) (hks:∀ p∈es,IsKey d p.1)
  (h:X2 P nt n0 Q (.ops ops l) K ⟨fr L,hp G,n⟩ ((b,Xqj kv xv es)::μ)):X2 P nt n0 Q (.ops ops (o::l)) K ⟨fr L,hp G,n⟩ ((b,es)::μ):=by
 intro c0 H0 c act g hM Qx hQ R hR;refine X4r λK' hK'=>?_;rw[if_pos (by simp[Region.wanted,hg])];have em:act.eval m=.map (some b):=by have:=g.ev m;rw[show evA (St.A ⟨fr L,hp G,n⟩) m=_ from X0s hm hqm] at this;exact this.sc_inv
 have ek:act.eval k=kv:=by have:=g.ev k;rw[show evA (St.A ⟨fr L,hp G,n⟩) k=_ from X0s hk hqk] at this;exact this.sc_inv
 have ex:act.eval x=xv:=by have:=g.ev x;rw[show evA (St.A ⟨fr L,hp G,n⟩) x=_ from X0s hx hqx] at this;exact this.sc_inv
 have hu1:P.underlying t=some (.map kt et):=by
  obtain⟨i,dd,_,hdd,_,hkk,_⟩:=X29 (hT t ti ht);rw[hkd] at hkk;cases dd<;>simp[Xu] at hkk
  obtain⟨rfl,rfl⟩:=hkk;exact hdd
 obtain⟨o',hrun,hmap⟩:=Xgg (v:=xv) hu1 hu (hM.is (b,es) (by simp)) hik hks;have hex:(execOp act.eval o).run P c.w=.ok .skip { c.w with heap:=c.w.heap.setIfInBounds b o' }:=by
  obtain⟨dst,op,type,pos,after,guard⟩:=o;simp only at ho;subst ho;simp only[execOp,em,ek,ex,Sem.run_bind,hrun];rfl
 refine Oper.wpR (λd hd=>by rw[hd] at ho;cases ho) ?_;unfold Oper.wp;rw[hex];obtain⟨a1,a2,a3,a4⟩:=hM.away (b,es) (by simp);obtain⟨es0,cl,hb0,_⟩:=hM.is (b,es) (by simp);have hoth:∀ q,q≠b->({ c.w with heap:=c.w.heap.setIfInBounds b o' }:World).heap[q]?=c.w.heap[q]?:=(heap_set (o':=o') hb0).2;obtain⟨h1,h2⟩:=g.inv.aside (w':={ c.w with heap:=c.w.heap.setIfInBounds b o' }) (by simp) hoth ⟨a1,a2⟩ a3;have g2:X4c nt c0 H0 n0 { c with w:={ c.w with heap:=c.w.heap.setIfInBounds b o' } } ⟨fr L,hp G,n⟩ act:=by
  refine⟨h2,g.solo,λq=>(g.frame q).mono h1 (.inr (g.ok q)),g.ok,g.size,?_,g.le0⟩;have r:=g.reach;refine⟨r.rho,r.os,r.tape,⟨r.output.1,Nat.le_trans r.output.2 (by first|exact Nat.le_refl _|exact Nat.le_succ _|(simp;done)|(simp;omega))⟩,by simpa using r.size,λq hq hn=>?_,λq hq=>?_,r.sa,r.so1,r.so2,r.B,r.own⟩
  ·exact(hoth q (λe=>by subst e;exact absurd hq (Nat.not_lt.2 a4))).trans (r.block q hq hn)
  ·refine(hoth q (λe=>?_)).trans (r.stable q hq);subst e;rcases hq with hq|hq
   ·exact a1 (by rw[r.sa];exact hq)
   ·exact a2 (r.so1 _ hq)
 have hact:act.put o.dst undef=act:=by rw[hd];rfl
 have hMs:MOk n0 c0 { c with w:={ c.w with heap:=c.w.heap.setIfInBounds b o' } } (hp G) ((b,Xqj kv xv es)::μ) act:=by
  refine⟨λp hp=>?_,λp hp=>?_,?_,hM.ds⟩
  ·rcases List.mem_cons.1 hp with rfl|hp
   ·exact hmap
   ·have hne:p.1≠b:=λe=>(List.nodup_cons.1 hM.nodup).1 (List.mem_map.2 ⟨p,hp,e⟩);exact(hM.is p (List.mem_cons_of_mem _ hp)).le (hoth _ hne) (h1.weaken λq hq=>Nat.lt_of_lt_of_le hq g.le0)
  ·rcases List.mem_cons.1 hp with rfl|hp
   ·exact hM.away (b,es) (by simp)
   ·exact hM.away p (List.mem_cons_of_mem _ hp)
  ·exact hM.nodup
 have:=hK' act { c.w with heap:=c.w.heap.setIfInBounds b o' } (h c0 H0 _ act g2 hMs Qx hQ R hR);show K' (act.put o.dst undef) _;rw[hact];exact this
theorem X2.mapLen {T:Ty} {t b kt et:Nat} {x:Operand} {qx:List Prop} {es:List (Value×Value)} {ti:TI} (hT:Xat P T) (ho:o.op=.call { callee:=.builtin .len,args:=#[x],argTypes:=#[t] }) (hg:o.guard=none) (hd:Xii nt o.dst=true)
  (ht:T t=some ti) (hkd:ti.kind=.map kt et) (hx:rd L x=(.sc (.map (some b)),qx)) (hqx:X3z qx)
  (h:X2 P nt n0 Q (.ops ops l) K ⟨fr (Xw7 o.dst (.sc (.int .i64 es.length)) L),hp G,n⟩ ((b,es)::μ)):X2 P nt n0 Q (.ops ops (o::l)) K ⟨fr L,hp G,n⟩ ((b,es)::μ):=by
 intro c0 H0 c act g hM Qx hQ R hR;refine X4r λK' hK'=>?_;rw[if_pos (by simp[Region.wanted,hg])];have ex:act.eval x=.map (some b):=by have:=g.ev x;rw[show evA (St.A ⟨fr L,hp G,n⟩) x=_ from X0s hx hqx] at this;exact this.sc_inv
 have hu1:P.underlying t=some (.map kt et):=by
  obtain⟨i,dd,_,hdd,_,hkk,_⟩:=X29 (hT t ti ht);rw[hkd] at hkk;cases dd<;>simp[Xu] at hkk
  obtain⟨rfl,rfl⟩:=hkk;exact hdd
 obtain⟨es0,cl,hb0,hl,_⟩:=hM.is (b,es) (by simp);have hsz:es0.size=es.length:=by have hl':es0.toList.map (λe=>(e.key,e.val))=es:=hl;rw[<-hl'];simp
 have hex:(execOp act.eval o).run P c.w=.ok (.value (.int .i64 es.length)) c.w:=by
  obtain⟨dst,op,type,pos,after,guard⟩:=o;simp only at ho;subst ho;simp[execOp,resolve,invoke,builtin,Builtin.len_,ex,run_underlying hu1,MapKept.run_getObj_map hb0,goInt,hsz]
 refine Oper.wpR (λd hd=>by rw[hd] at ho;cases ho) ?_;unfold Oper.wp;rw[hex];have g2:=g.next (c':=c) (dst:=o.dst) (a:=.sc (.int .i64 es.length)) (v:=.int .i64 es.length) (X8e hd) (.refl c) rfl (λb hb=>.inl hb) (.refl c (hp G)) (λq x hx=>.inr ⟨q,x,hx,rfl⟩) g.inv g.solo (Nat.le_refl _) .sc .sc;rw[X61] at h;exact hK' _ _ (h c0 H0 c _ g2 hM.act Qx hQ R hR)
end
end Go.Av
namespace Go.D
def Xij (ks:List Int) (z:Int):List Int:=if z∈ks then ks else ks++[z]
def X7s (ks:List Int):List Int->List Int
 |[]=>ks
 |z::zs=>X7s (Xij ks z) zs
end Go.D
namespace Go.Av
def Xjf (z:Int):Value×Value:=(.int .i64 z,.bool true)
end Go.Av


namespace Go.Av
theorem Oper.wp_mono2 {P:Program} {o:Oper} {a:Act} {w:World} {K K':Act->World->Prop} {Q Q':Exit->Act->World->Prop} (h:∀ a w,K a w->K' a w) (hq:∀ e a w,e≠.normal->Q e a w->Q' e a w)
  (hh:o.wp P a w K Q):o.wp P a w K' Q':=by
 unfold Oper.wp at *;generalize (execOp a.eval o).run P w=r at *
 cases r with
 |ok n w' =>
  cases n with
  |enter f args =>
   simp only[Oper.upon] at hh ⊢;refine Calls.mono hh (λe w'' he=>?_)
   cases e with
   |returned v=>exact h _ _ he
   |panicked ch=>exact hq _ _ _ (by intro h;cases h) he
   |outgrown=>obtain⟨a0,w0,h0⟩:=he;exact⟨a0,w0,hq _ _ _ (by intro h;cases h) h0⟩
  |row row args=>simp only[Oper.upon] at hh ⊢;exact Rows.mono hh (λ_ _ he=>h _ _ he)
  |_=>simp only[Oper.upon] at hh ⊢<;>exact h _ _ hh
 |halt x w'=>cases x<;>simp only[Oper.upon] at hh ⊢<;>first|exact hh|exact hq _ _ _ (by intro h;cases h) hh
section
variable {P:Program} {ops:Array Oper} {Q:Exit->Act->World->Prop}
theorem Xjp:∀ (f:Nat) (listed:Array Bool) (a:Act) (w:World),wpAny P .any ops Q f listed a w->wpAny P .any ops Q (f+1) listed a w
 |0,listed,a,w,h=>⟨λ_=>h.2,λi hi=>by rw[h.1] at hi;cases hi⟩
 |f+1,listed,a,w,h=>⟨h.1,λi hi=>wpOp_mono (λa' w' h'=>Xjp f _ a' w' h') (h.2 i hi)⟩
theorem Xnb (n:Nat):∀ (f:Nat) (listed:Array Bool) (a:Act) (w:World),wpAny P .any ops Q f listed a w->wpAny P .any ops Q (f+n) listed a w:=by
 induction n with
 |zero=>intro f l a w h;exact h
 |succ n ih=>intro f l a w h;exact Xjp (f+n) l a w (ih f l a w h)
def Xn0 (j:Nat) (l:List Oper):Bool:=(List.range l.length).all λi=>Nat.blt i j||(List.range i).all λq=>((X18 l).getD i 0).testBit q
def Xct (l:List Oper):Bool:=l.all λo=>match o.guard with
 |some (j,_)=>Nat.blt j l.length
 |none=>true
theorem Xk9 {j:Nat} {l:List Oper} (h:Xn0 j l=true) {i q:Nat} (hi:i<l.length) (hj:j<=i) (hq:q<i):((X18 l).getD i 0).testBit q=true:=by
 have:=List.all_eq_true.1 h i (List.mem_range.2 hi);simp only[Bool.or_eq_true,Nat.blt_eq] at this;rcases this with h1|h1
 ·omega
 ·exact List.all_eq_true.1 h1 q (List.mem_range.2 hq)
theorem X6o {listed:Array Bool} {i:Nat} {o:Oper} (hi:i∈Region.ready .any ops listed) (ho:ops.toList[i]?=some o):∀ j∈X83 o,listed.getD j false=true:=by
 rw[X1n] at hi;obtain⟨_,_,h3⟩:=hi;have ho':ops[i]?=some o:=by simpa using ho
 rw[ho'] at h3;simp only[Option.map_some,Option.getD_some] at h3;intro j hj;obtain⟨e,he,rfl⟩:=List.mem_map.1 hj;obtain⟨he1,he2⟩:=List.mem_filter.1 he;rw[Array.all_eq_true_iff_forall_mem] at h3;have:=h3 e (by simpa using he1);rw[he2] at this;simpa using this
theorem X5o {listed:Array Bool} {i:Nat} {o:Oper} (hsz:listed.size=ops.size) (ho:ops.toList[i]?=some o) (hl:listed.getD i false=false) (h:∀ j∈X83 o,listed.getD j false=true):i∈Region.ready .any ops listed:=by
 have hi:i<ops.size:=by have:=(List.getElem?_eq_some_iff.1 ho).1;simpa using this
 rw[X1n];refine⟨hi,?_,?_⟩
 ·have hil:i<listed.size:=by omega
  simp only[Array.getD_eq_getD_getElem?,Array.getElem?_eq_getElem hil,Option.getD_some] at hl ⊢;exact hl
 ·have ho':ops[i]?=some o:=by simpa using ho
  rw[ho'];simp only[Option.map_some,Option.getD_some];rw[Array.all_eq_true_iff_forall_mem];intro e he
  cases hb:Region.binds .any e with
  |false=>rfl
  |true=>simpa using h e.on (List.mem_map.2 ⟨e,List.mem_filter.2 ⟨by simpa using he,hb⟩,rfl⟩)
def Xdm (ops:Array Oper) (listed:Array Bool):Prop:=∀ (i:Nat) o,ops.toList[i]?=some o->listed.getD i false=true->∀ j∈X83 o,listed.getD j false=true
theorem Xdz (hpre:X5m 0 ops.toList=true) {listed:Array Bool} (hc:Xdm ops listed) {i:Nat} (hi:i∈Region.ready .any ops listed) {q:Nat} (hq:((X18 ops.toList).getD i 0).testBit q=true):listed.getD q false=true:=by
 have hlt:=(X1n.1 hi).1;have ho:ops.toList[i]?=some ops[i]:=by simp[hlt]
 have hp:∀ (i:Nat) o,ops.toList[i]?=some o->∀ j∈X83 o,j<i:=λi o ho j hj=>by have:=X6a _ 0 hpre i o ho j hj;omega
 exact(Xg4 (S:=λk=>listed.getD k false) hp hc i _ ho (X6o hi ho) q hq).1
theorem X3h {listed:Array Bool} {i k:Nat} (hi:i<listed.size):(listed.setIfInBounds i true).getD k false=(listed.getD k false||Nat.beq k i):=by
 simp only[Array.getD_eq_getD_getElem?];by_cases h:k=i
 ·subst h;simp[hi]
 ·have:Nat.beq k i=false:=by rw[<-Bool.not_eq_true,Nat.beq_eq];exact h
  rw[Array.getElem?_setIfInBounds_ne (λe=>h e.symm),this,Bool.or_false]
theorem Xlt (hpre:X5m 0 ops.toList=true) {j:Nat} (hbar:Xn0 j ops.toList=true):∀ (f m:Nat) (listed:Array Bool) (a:Act) (w:World),listed.size=ops.size->j<=m->m+f=ops.size->(∀ k,k<ops.size->(listed.getD k false=true↔k<m)) ->
  wpList P ops Q (ops.toList.drop m) a w->wpAny P .any ops Q f listed a w:=by
 have hlen:ops.toList.length=ops.size:=Array.length_toList;intro f
 induction f with
 |zero =>
  intro m listed a w hsz hj hm hl h;refine⟨?_,?_⟩
  ·rw[List.eq_nil_iff_forall_not_mem];intro i hi;obtain⟨h1,h2,_⟩:=X1n.1 hi;have:=(hl i h1).2 om;have hil:i<listed.size:=by omega
   simp only[Array.getD_eq_getD_getElem?,Array.getElem?_eq_getElem hil,Option.getD_some] at h2 this;rw[h2] at this;cases this
  ·rw[List.drop_of_length_le om] at h;exact h
 |succ f ih =>
  intro m listed a w hsz hj hm hl h;have hmo:ops.toList[m]?=some (ops.toList[m]' om):=List.getElem?_eq_getElem om;have hc:Xdm ops listed:=λi o ho hi q hq=>by
   have hio:i<ops.size:=by have:=(List.getElem?_eq_some_iff.1 ho).1;omega
   have h1:=X6a _ 0 hpre i o ho q hq;have h2:=(hl i hio).1 hi;exact(hl q om).2 om
  have hrm:m∈Region.ready .any ops listed:=by
   refine X5o hsz hmo ?_ λq hq=>?_
   ·rw[<-Bool.not_eq_true];exact λe=>by have:=(hl m om).1 e;omega
   ·have h1:=X6a _ 0 hpre m _ hmo q hq;exact(hl q om).2 om
  refine⟨λhr=>(by rw[hr] at hrm;cases hrm),λi hi=>?_⟩;have him:i=m:=by
   obtain⟨h1,h2,_⟩:=X1n.1 hi;have hil:i<listed.size:=by omega
   have hge:m<=i:=by
    rcases Nat.lt_or_ge i m with h3|h3
    ·have:=(hl i h1).2 h3;simp only[Array.getD_eq_getD_getElem?,Array.getElem?_eq_getElem hil,Option.getD_some] at h2 this;rw[h2] at this;cases this
    ·exact h3
   rcases Nat.lt_or_eq_of_le hge with h3|h3
   ·have:=Xdz hpre hc hi (Xk9 hbar om om h3);have:=(hl m om).1 this;omega
   ·exact h3.symm
  subst him;rw[List.drop_eq_getElem_cons om] at h;unfold wpList at h;unfold wpOp;have ho':ops[i]?=some (ops.toList[i]' om):=by simpa using hmo
  rw[ho'];simp only;have hnext:∀ a' w',wpList P ops Q (ops.toList.drop (i+1)) a' w'->wpAny P .any ops Q f (listed.setIfInBounds i true) a' w':=λa' w' h' =>
   ih (i+1) _ a' w' (by simpa using hsz) om om (λk hk=>by
    rw[X3h om,Bool.or_eq_true,hl k hk,Nat.beq_eq];omega) h'
  by_cases hw:Region.wanted (ops.toList[i]' om) (yielded ops a.tmps)=true
  ·rw[if_pos hw] at h ⊢;exact h.imp (Oper.wp_mono hnext) id
  ·rw[if_neg hw] at h ⊢;exact hnext _ _ h
theorem Xqo {j i:Nat} {o:Oper} (h:(ops.toList.take j)[i]?=some o):ops.toList[i]?=some o/\i<j:=by
 rw[List.getElem?_take] at h;split at h
 ·exact⟨h,by assumption⟩
 ·cases h
theorem Xlu {R:Exit->Act->World->Prop} {j:Nat} {pre:Array Oper} (hp:pre.toList=ops.toList.take j) (hjl:j<=ops.size) (hpre:X5m 0 ops.toList=true) (hbar:Xn0 j ops.toList=true) (hgd:Xct (ops.toList.take j)=true)
  (hRQ:∀ e a w,e≠.normal->R e a w->Q e a w) (r:Nat)
  (hend:∀ listed a w,listed.size=ops.size->(∀ k,k<ops.size->(listed.getD k false=true↔k<j))->R .normal a w->wpAny P .any ops Q r listed a w) :
  ∀ (f:Nat) (lp lo:Array Bool) (a:Act) (w:World),lp.size=pre.size->lo.size=ops.size->(∀ k,lo.getD k false=(lp.getD k false&&Nat.blt k j))->Xdm pre lp ->
   wpAny P .any pre R f lp a w->wpAny P .any ops Q (f+r) lo a w:=by
 have hlen:ops.toList.length=ops.size:=Array.length_toList;have hps:pre.size=j:=by rw[<-Array.length_toList,hp,List.length_take];omega
 have hpp:X5m 0 pre.toList=true:=by
  have key:∀ (l:List Oper) (i k:Nat),X5m i l=true->X5m i (l.take k)=true:=by
   intro l
   induction l with
   |nil=>intro i k _;simp[X5m]
   |cons a l ih =>
    intro i k h
    cases k with
    |zero=>rfl
    |succ k =>
     simp only[X5m,Bool.and_eq_true,List.take_succ_cons] at h ⊢;exact⟨h.1,ih _ _ h.2⟩
  rw[hp];exact key _ _ _ hpre
 have same:∀ (k:Nat) o,ops.toList[k]?=some o->k<j->pre.toList[k]?=some o:=λk o ho hk=>by rw[hp,List.getElem?_take,if_pos hk];exact ho
 have full:∀ (lp:Array Bool),lp.size=pre.size->Region.ready .any pre lp=[]->∀ k,k<j->lp.getD k false=true:=by
  intro lp hs hr k
  induction k using Nat.strongRecOn with
  |_ k ih =>
   intro hk
   cases hl:lp.getD k false with
   |true=>rfl
   |false =>
    have hko:pre.toList[k]?=some (pre.toList[k]'(by rw[Array.length_toList];omega)):=List.getElem?_eq_getElem _;have:=X5o hs hko hl λq hq=>by
     have h1:=X6a _ 0 hpp k _ hko q hq;exact ih q om om
    rw[hr] at this;cases this
 have yl:∀ (tmps:Array Value) (q:Nat),q<j->yielded ops tmps q=yielded pre tmps q:=by
  intro tmps q hq;have:ops[q]?=pre[q]?:=by
   have h1:ops.toList[q]?=pre.toList[q]?:=by rw[hp,List.getElem?_take,if_pos hq]
   simpa using h1
  unfold yielded;rw[this]
 intro f
 induction f with
 |zero =>
  intro lp lo a w hs1 hs2 hrel hcl h;obtain⟨h1,h2⟩:=h;rw[Nat.zero_add];refine hend lo a w hs2 (λk hk=>?_) h2;rw[hrel];constructor
  ·intro h3;simp only[Bool.and_eq_true,Nat.blt_eq] at h3;exact h3.2
  ·intro h3;simp only[Bool.and_eq_true,Nat.blt_eq];exact⟨full lp hs1 h1 k h3,h3⟩
 |succ f ih =>
  intro lp lo a w hs1 hs2 hrel hcl h;obtain⟨h1,h2⟩:=h;by_cases hr:Region.ready .any pre lp=[]
  ·have:wpAny P .any ops Q r lo a w:=hend lo a w hs2 (λk hk=>by
    rw[hrel];constructor
    ·intro h3;simp only[Bool.and_eq_true,Nat.blt_eq] at h3;exact h3.2
    ·intro h3;simp only[Bool.and_eq_true,Nat.blt_eq];exact⟨full lp hs1 hr k h3,h3⟩) (h1 hr)
   have:=Xnb (f+1) r lo a w this
   rwa [Nat.add_comm] at this
  ·have hclo:Xdm ops lo:=by
    intro i o ho hi q hq;rw[hrel] at hi ⊢;simp only[Bool.and_eq_true,Nat.blt_eq] at hi ⊢;have hq2:=X6a _ 0 hpre i o ho q hq;exact⟨hcl i o (same i o ho hi.2) hi.1 q hq,by omega⟩
   obtain⟨p,hpr⟩:=List.exists_mem_of_ne_nil _ hr;have hpj:p<j:=by have:=(X1n.1 hpr).1;omega
   have hnl:lo.getD p false=false:=by
    rw[hrel];have h3:=(X1n.1 hpr).2.1;have hpl:p<lp.size:=by omega
    simp only[Array.getD_eq_getD_getElem?,Array.getElem?_eq_getElem hpl,Option.getD_some] at h3 ⊢;rw[h3];rfl
   have low:∀ i,i∈Region.ready .any ops lo->i<j:=by
    intro i hi;rcases Nat.lt_or_ge i j with h3|h3
    ·exact h3
    ·have:=Xdz hpre hclo hi (Xk9 hbar (by have:=(X1n.1 hi).1;omega) h3 (show p<i by omega));rw[hnl] at this;cases this
   rw[show f+1+r=(f+r)+1 by omega];refine⟨λhro=>?_,λi hi=>?_⟩
   ·exfalso;have hpo:pre.toList[p]?=some (pre.toList[p]'(by rw[Array.length_toList];omega)):=List.getElem?_eq_getElem _;have hpo2:ops.toList[p]?=some (pre.toList[p]'(by rw[Array.length_toList];omega)):=(Xqo (by rw[<-hp];exact hpo)).1;have:p∈Region.ready .any ops lo:=X5o hs2 hpo2 hnl λq hq=>by
     have h3:=X6o hpr hpo q hq;have h4:=X6a _ 0 hpre p _ hpo2 q hq;rw[hrel,h3];simp;omega
    rw[hro] at this;cases this
   ·have hij:=low i hi;have hio:ops.toList[i]?=some (ops.toList[i]' om):=List.getElem?_eq_getElem _;have hip:=same i _ hio hij;have hli:lp.getD i false=false:=by
     have h3:=(X1n.1 hi).2.1;have hil:i<lo.size:=by omega
     have h5:lo.getD i false=false:=by
      simp only[Array.getD_eq_getD_getElem?,Array.getElem?_eq_getElem hil,Option.getD_some] at h3 ⊢;exact h3
     rw[hrel] at h5;have:Nat.blt i j=true:=by simpa using hij
     rw[this,Bool.and_true] at h5;exact h5
    have hir:i∈Region.ready .any pre lp:=X5o hs1 hip hli λq hq=>by
     have h3:=X6o hi hio q hq;rw[hrel] at h3;simp only[Bool.and_eq_true] at h3;exact h3.1
    have hk:=h2 i hir;unfold wpOp at hk ⊢;have e1:ops[i]?=some (ops.toList[i]' om):=by simpa using hio
    have e2:pre[i]?=some (ops.toList[i]' om):=by simpa using hip
    rw[e2] at hk;rw[e1];simp only at hk ⊢;have hw:Region.wanted (ops.toList[i]' om) (yielded ops a.tmps)=Region.wanted (ops.toList[i]' om) (yielded pre a.tmps):=by
     unfold Region.wanted
     cases hgu:(ops.toList[i]' om).guard with
     |none=>rfl
     |some g =>
      obtain⟨gj,want⟩:=g;have h5:=List.all_eq_true.1 hgd (ops.toList[i]' om) (List.mem_of_getElem? (i:=i) (by rw[List.getElem?_take,if_pos hij];exact hio));rw[hgu] at h5;simp only[Nat.blt_eq,List.length_take] at h5;simp only[yl a.tmps gj om]
    rw[hw];have hnext:∀ a' w',wpAny P .any pre R f (lp.setIfInBounds i true) a' w'->wpAny P .any ops Q (f+r) (lo.setIfInBounds i true) a' w':=by
     intro a' w' h';refine ih _ _ a' w' (by simpa using hs1) (by simpa using hs2) (λk=>?_) ?_ h'
     ·rw[X3h om,X3h om,hrel];by_cases hki:k=i
      ·subst hki;have:Nat.blt k j=true:=by simpa using hij
       simp[this]
      ·have:Nat.beq k i=false:=by rw[<-Bool.not_eq_true,Nat.beq_eq];exact hki
       simp[this]
     ·intro k o ho hk q hq;rw[X3h om] at hk ⊢;rcases Bool.or_eq_true_iff.1 hk with hk|hk
      ·rw[hcl k o ho hk q hq];rfl
      ·have:k=i:=by simpa using hk
       subst this;rw[X6o hir ho q hq];rfl
    by_cases hwt:Region.wanted (ops.toList[i]' om) (yielded pre a.tmps)=true
    ·rw[if_pos hwt] at hk ⊢;rcases hk with hk|⟨hk,a0,w0,hl⟩
     ·exact .inl (Oper.wp_mono2 hnext hRQ hk)
     ·exact .inr ⟨hk,a0,w0,hRQ _ _ _ (by intro h;cases h) hl⟩
    ·rw[if_neg hwt] at hk ⊢;exact hnext _ _ hk
end
theorem X4h.drawnCut {P:Program} {T:Ty} {nt n0 id j n:Nat} {ops:Array Oper} {L L':List (Nat×AV)} {G G':List (Nat×Obj)} {Q:Xx->St->Mu->Prop} {μ:Mu} (hT:Xat P T/\P.follows .mixedOrders=true) (hpre:X5m 0 ops.toList=true)
  (hjl:Nat.ble j ops.size=true) (hbar:Xn0 j ops.toList=true) (hgd:Xct (ops.toList.take j)=true) (hs:List X28) {hs':List X28} {ps':List Prop}
  (h:Xfl hz0 P T nt n ⟨ops.toList.take j⟩ (X18 (ops.toList.take j)) ((X18 (ops.toList.take j)).zip ((ops.toList.take j).map hz0)) 0 (ops.toList.take j) L G [] hs []=some (L',G',hs',ps')) (hp':X3z ps')
  (k:X54 P nt n0 ops (ops.toList.drop j) (λs μ=>Q .normal s μ) ⟨fr L',hp G',n+j⟩ μ) (hμ:Xd8 μ=true:=by rfl):X4h P nt n0 (.region id ops true) Q ⟨fr L,hp G,n⟩ μ:=by
 have hjl':j<=ops.size:=by simpa using hjl
 obtain⟨_,hrun⟩:=Xlf _ _ _ _ _ _ _ _ _ _ _ h hp';obtain⟨rs,hall,hA,hH⟩:=hrun.all (fr L) (hp G) [] (Nat.zero_le _) rfl rfl rfl rfl rfl (λk o r _ hr=>by simp at hr);have hpl:X5m 0 (ops.toList.take j)=true:=by
  have key:∀ (l:List Oper) (i k:Nat),X5m i l=true->X5m i (l.take k)=true:=by
   intro l
   induction l with
   |nil=>intro i k _;simp[X5m]
   |cons a l ih =>
    intro i k h
    cases k with
    |zero=>rfl
    |succ k =>
     simp only[X5m,Bool.and_eq_true,List.take_succ_cons] at h ⊢;exact⟨h.1,ih _ _ h.2⟩
  exact key _ _ _ hpre
 have hlenp:(ops.toList.take j).length=j:=by rw[List.length_take,Array.length_toList];omega
 intro c0 HH c act g0 hm R0 hR0;have g:=g0.rebase.drew;obtain rfl:=hR0 rfl;refine Xav.2 (wp_region_any hT.2 ?_);have hz:∀ m k,(Array.replicate m false).getD k false=false:=by
  intro m k;simp only[Array.getD_eq_getD_getElem?,Array.getElem?_replicate];split<;>rfl
 have hfn:∀ m,(λk=>(Array.replicate m false).getD k false)=(λ_=>false):=λm=>funext (hz m);have hM:∀ q,q<n->AtS n (λ_=>false) q:=λq h=>.inl h;have hdg:=Xle (n0:=n0) (Q:=λe s=>e=.normal/\s=⟨fr L',hp G',n+j⟩) hT.1 (ops:=⟨ops.toList.take j⟩) hpl hall ⟨rfl,by rw[hA,hH];congr 1;simp only[hlenp]⟩ (c0:=c) (HH:=hp G) g.le0 j (Array.replicate j false) (List.range j)
  { c with w:={ c.w with drawn:=c.w.drawn+1 } } act (by simp[hlenp]) (by simp) (λk hk _=>List.mem_range.2 (by simpa[hlenp] using hk)) (λi o _ h=>by rw[hz] at h;cases h) (by
   rw[hfn,X7i,X7i];exact⟨g.inv.more hM,g.solo,g.frame,λt=>(g.ok t).mono hM,g.size,g.reach,λq hq=>hM q (Nat.lt_of_lt_of_le hq g.le0)⟩) rfl
 have:=Xlu (Q:=MQ nt c0 HH n0 Q) (pre:=⟨ops.toList.take j⟩) (R:=CQ nt c (hp G) n0 act.defers (λe s=>e=.normal/\s=⟨fr L',hp G',n+j⟩)) (j:=j) rfl hjl' hpre hbar hgd
  (by rintro e a w hne ⟨c',s',ae,_,_,_,rfl,rfl,_⟩;exact absurd rfl hne) (ops.size - j) (by
   rintro listed a w hsz hl ⟨c',s',ae,rfl,g',hd',_,rfl,rfl⟩;refine Xlt hpre hbar (ops.size - j) j listed a c'.w hsz (Nat.le_refl _) om hl ?_;exact k c0 HH c' a (.join g0.reach g') (hm.kept g'.reach hd') _ (λc2 s2 a2 μ2 g2 hm2 hq=>⟨c2,s2,.normal,μ2,rfl,g2,hm2,rfl,hq⟩) none (λ_=>hμ))
  j (Array.replicate j false) (Array.replicate ops.size false) act { c.w with drawn:=c.w.drawn+1 } (by simp[hlenp]) (by simp) (λk=>by rw[hz,hz];rfl) (λi o _ h=>by rw[hz] at h;cases h) hdg
 rwa [show j+(ops.size - j)=ops.size by omega] at this
theorem X2.drawnCut {P:Program} {T:Ty} {nt n0 id n:Nat} {ops:Array Oper} {L L':List (Nat×AV)} {G G':List (Nat×Obj)} {K:List Kn} {Q:Xx->St->Mu->Prop} {μ:Mu} (j:Nat) (hT:Xat P T/\P.follows .mixedOrders=true) (hs:List X28) {hs':List X28} {ps':List Prop} (hpre:X5m 0 ops.toList=true)
  (hjl:Nat.ble j ops.size=true) (hbar:Xn0 j ops.toList=true) (hgd:Xct (ops.toList.take j)=true)
  (h:Xfl hz0 P T nt n ⟨ops.toList.take j⟩ (X18 (ops.toList.take j)) ((X18 (ops.toList.take j)).zip ((ops.toList.take j).map hz0)) 0 (ops.toList.take j) L G [] hs []=some (L',G',hs',ps')) (hp':X3z ps')
  (k:X2 P nt n0 Q (.ops ops (ops.toList.drop j)) K ⟨fr L',hp G',n+j⟩ μ) (hμ:Xd8 μ=true:=by rfl):X2 P nt n0 Q (.code (.region id ops true)) K ⟨fr L,hp G,n⟩ μ :=
 X4h.drawnCut hT hpre hjl hbar hgd hs h hp' k hμ
end Go.Av
namespace Go.Av
end Go.Av


namespace Go.Av
def denC:AV->AV
 |.nils=>.list true []
 |a=>a
def denil:AV->AV
 |.agg cs=>.agg (cs.map denC)
 |a=>denC a
theorem Xik (e:AV):(denil e).cells=e.cells.map denC:=by
 cases e<;>rfl
theorem Xxb {c:Ctx} {d:Bool} {a:AV} {v:Value} (h:X0z c d a v):X0z c d (denC a) v:=by
 cases a with
 |nils=>obtain⟨p,rfl⟩:=h.nils_inv;exact .listNil
 |_=>exact h
theorem Xzz {M:Nat->Prop} {a:AV} (h:a.Ok M):(denC a).Ok M:=by
 cases a with
 |nils=>exact .list
 |_=>exact h
theorem Xu8 {c:Ctx} {p:Pl} {y:Obj} (h:Xn4 c p y):Xn4 c p { y with es:=y.es.map denil }:=by
 obtain⟨⟨cur,h1,h2,h3⟩,h4,h5,h6⟩:=h;refine⟨⟨cur,h1,h2,λi e he=>?_⟩,by simpa using h4,h5,h6⟩;simp only[List.getElem?_map,Option.map_eq_some_iff] at he;obtain⟨e0,he0,rfl⟩:=he;obtain⟨g1,g2⟩:=h3 i e0 he0;rw[Xik];refine⟨by simpa using g1,λk a ha=>?_⟩;simp only[List.getElem?_map,Option.map_eq_some_iff] at ha;obtain⟨a0,ha0,rfl⟩:=ha;obtain⟨v,v1,v2,v3⟩:=g2 k a0 ha0;exact⟨v,v1,Xxb v2,v3⟩
theorem X2.denil {P:Program} {nt n0 n:Nat} {Q:Xx->St->Mu->Prop} {cf:Cf} {K:List Kn} {μ:Mu} {L:List (Nat×AV)} {G:List (Nat×Obj)} {y:Obj} (q:Nat) (es':List AV) (hy:hp G q=some y) (he:y.es.map denil=es')
  (h:X2 P nt n0 Q cf K ⟨fr L,hp ((q,{ y with es:=es' })::G),n⟩ μ):X2 P nt n0 Q cf K ⟨fr L,hp G,n⟩ μ:=by
 subst he;have hd:∀ o x',hp ((q,{ y with es:=y.es.map Go.Av.denil })::G) o=some x'->∃ x,hp G o=some x/\x'.esz=x.esz/\x'.solo=x.solo/\x'.spent=x.spent/\x'.es.length=x.es.length/\(x'=x\/(o=q/\x=y/\x'={ y with es:=y.es.map Go.Av.denil })):=by
  intro o x' hx;by_cases ho:o=q
  ·subst ho;rw[show hp ((o,{ y with es:=y.es.map Go.Av.denil })::G) o=some { y with es:=y.es.map Go.Av.denil } by simp[hp,Xf7 hy]] at hx;cases hx
   exact⟨y,hy,rfl,rfl,rfl,by simp,.inr ⟨rfl,rfl,rfl⟩⟩
  ·have:hp ((q,{ y with es:=y.es.map Go.Av.denil })::G) o=hp G o:=by
    have hb:Nat.beq o q=false:=by rw[<-Bool.not_eq_true,Nat.beq_eq];exact ho
    simp[hp,hb]
   rw[this] at hx;exact⟨x',hx,rfl,rfl,rfl,rfl,.inl rfl⟩
 refine X2.sub (s':=⟨fr L,hp ((q,{ y with es:=y.es.map Go.Av.denil })::G),n⟩) (λc0 H0 c act μ g hm=>⟨?_,?_⟩) h
 ·refine⟨⟨λo x' hx=>?_,λo o' x1 x2 h1 h2 hne hb=>?_,λo x' hx=>?_,g.inv.lt,g.inv.base,g.inv.own,λo x' hx=>?_⟩,λo x' hx=>?_,g.frame,g.ok,g.size,?_,g.le0⟩
  ·obtain⟨x,hx0,_,_,_,_,hc⟩:=hd o x' hx;obtain⟨i1,i2,i3⟩:=g.inv.obj o x hx0;rcases hc with rfl|⟨rfl,rfl,rfl⟩
   ·exact⟨i1,i2,i3⟩
   ·refine⟨i1,Xu8 i2,λe he a ha=>?_⟩;obtain⟨e0,he0,rfl⟩:=List.mem_map.1 he;rw[Xik] at ha;obtain⟨a0,ha0,rfl⟩:=List.mem_map.1 ha;exact Xzz (i3 e0 he0 a0 ha0)
  ·obtain⟨y1,hy1,e1,s1,p1,l1,_⟩:=hd o x1 h1;obtain⟨y2,hy2,e2,s2,p2,l2,_⟩:=hd o' x2 h2;have:=g.inv.sep o o' y1 y2 hy1 hy2 hne hb;rw[s1,p1,p2,l1,l2,e1,e2];exact this
  ·obtain⟨x,hx0,_⟩:=hd o x' hx;exact g.inv.stab o x hx0
  ·obtain⟨x,hx0,_⟩:=hd o x' hx;exact g.inv.low o x hx0
  ·obtain⟨x,hx0,_,s1,p1,_⟩:=hd o x' hx;rw[s1,p1];exact g.solo o x hx0
  ·have r:=g.reach;exact⟨r.rho,r.os,r.tape,r.output,r.size,r.block,r.stable,r.sa,r.so1,r.so2,r.B,λo x' hx=>by obtain⟨x,hx0,_⟩:=hd o x' hx;exact r.own o x hx0⟩
 ·exact⟨hm.is,λp hp=>by
   obtain⟨a1,a2,a3,a4⟩:=hm.away p hp;exact⟨a1,a2,λo x' hx=>by obtain⟨x,hx0,_⟩:=hd o x' hx;exact a3 o x hx0,a4⟩,hm.nodup,hm.ds⟩
end Go.Av
