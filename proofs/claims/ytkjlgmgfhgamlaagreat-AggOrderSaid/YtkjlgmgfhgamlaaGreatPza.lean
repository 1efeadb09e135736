/- Parts of the proof, laid together. -/
import Derived.Test.YtkjlgmgfhgamlaaGreatDFunZ
set_option linter.all false

namespace Go.D
theorem X0g {z:Int} (h1 : -9223372036854775808<=z) (h2:z<=9223372036854775807):IntKind.i64.wrap z=z:=Go.IntWalk.i64_in z ⟨h1,h2⟩
theorem X2n {n:Nat} (h:n<=140737488355328):X5a n=some ():=by unfold X5a;rw[if_pos h]
theorem X2o {n b:Nat} (h:n*b<=140737488355328):X1v n b=some ():=by unfold X1v;rw[if_pos h]
theorem X32 {α:Type} (l:List α) (k:Nat):X1o l (k:Int)=l[k]?:=by simp[X1o]
def ltE (a b:X1):Prop:=a.Span.End<b.Span.End\/a.Span.End=b.Span.End/\(a.Span.Start<b.Span.Start\/a.Span.Start=b.Span.Start/\a.Key<b.Key)
instance (a b:X1):Decidable (ltE a b):=by unfold ltE;infer_instance
def X4k (a b:X1):Prop:=a.Key=b.Key/\a.Span=b.Span
instance (a b:X1):Decidable (X4k a b):=by unfold X4k;infer_instance
theorem Xgx {a b:X04} (h1:a.Start=b.Start) (h2:a.End=b.End):a=b:=by cases a;cases b;simp_all
theorem Xe4 {a b c:X1} (h:ltE a b) (k:ltE b c):ltE a c:=by unfold ltE at *;omega
theorem Xf3 (a:X1):¬ ltE a a:=by unfold ltE;omega
theorem Xt7 {a b:X1} (h:ltE a b):¬ ltE b a:=by unfold ltE at *;omega
theorem Xi3 {a b:X1}:ltE a b\/X4k a b\/ltE b a:=by
 by_cases h:X4k a b
 ·exact .inr (.inl h)
 ·have:¬ (a.Key=b.Key/\a.Span.Start=b.Span.Start/\a.Span.End=b.Span.End):=λ⟨h1,h2,h3⟩=>h ⟨h1,Xgx h2 h3⟩;unfold ltE;omega
theorem sameK_ltE {a b c:X1} (h:X4k a b):ltE c a↔ltE c b:=by unfold X4k at h;unfold ltE;rw[h.1,h.2]
theorem Xaf {a b c:X1} (h:X4k a b):ltE a c↔ltE b c:=by unfold X4k at h;unfold ltE;rw[h.1,h.2]
theorem X9s {a b:X1} (h:X4k a b):¬ ltE a b:=by unfold X4k at h;unfold ltE;rw[h.1,h.2];omega
def cmpI (a b:Int):Int:=if a<b then -1 else if a>b then 1 else 0
theorem X02e (a b:Int):X2e a b=some (cmpI a b):=by
 simp only[X2e,X53,bne_self_eq_false,Yo,cond_false,cmpI];by_cases h1:a<b
 ·simp[h1]
 ·by_cases h2:a>b
  ·simp[h1,h2]
  ·simp[h1,h2]
def Xrs (a b:X1):Int:=if ltE a b then -1 else if ltE b a then 1 else 0
theorem X7l (a b:X1):X5y a b=some (Xrs a b):=by
 simp only[X5y,X02e,Yo,Xcz,X5f,List.length_cons,List.length_nil];rw[X2n om];simp only[Yo,Xrs,ltE,cmpI];by_cases h1:a.Span.End<b.Span.End
 ·simp[h1]
 ·by_cases h2:a.Span.End>b.Span.End
  ·have:¬ a.Span.End=b.Span.End:=by omega
   simp[h1,h2,this]
  ·have he:a.Span.End=b.Span.End:=by omega
   by_cases h3:a.Span.Start<b.Span.Start
   ·simp[he,h3]
   ·by_cases h4:a.Span.Start>b.Span.Start
    ·have:¬ a.Span.Start=b.Span.Start:=by omega
     simp[he,h3,h4,this]
    ·have hs:a.Span.Start=b.Span.Start:=by omega
     by_cases h5:a.Key<b.Key
     ·simp[he,hs,h5]
     ·by_cases h6:a.Key>b.Key
      ·simp[he,hs,h5,h6]
      ·simp[he,hs,h5,h6]
theorem Xnp {a b:X1}:Xrs a b<0↔ltE a b:=by
 unfold Xrs;by_cases h:ltE a b
 ·simp[h]
 ·by_cases h2:ltE b a<;>simp[h,h2]
theorem Xyw {a b:X1}:Xrs a b=0↔X4k a b:=by
 unfold Xrs;by_cases h:ltE a b
 ·simp[h];exact λhs=>X9s hs h
 ·by_cases h2:ltE b a
  ·simp[h,h2];exact λhs=>h ((Xaf hs).2 ((sameK_ltE hs).1 h2))
  ·simp[h,h2];rcases Xi3 (a:=a) (b:=b) with h3|h3|h3
   ·exact absurd h3 h
   ·exact h3
   ·exact absurd h3 h2
theorem Xnq {a b:X1}:0<=Xrs a b↔¬ ltE a b:=by rw[<-Xnp];omega
def okA (a:X11):Prop:=(a.Count=0/\a=⟨0,0,0,0⟩)\/(a.Count=1/\a.Sum=a.Min/\a.Sum=a.Max)\/(1<a.Count/\a.Count<=1073741824/\a.Min<=a.Max)
theorem Xlc (x y:X11):X8r x y=decide (x=y):=by
 obtain⟨a,b,c,d⟩:=x;obtain⟨e,f,g,h⟩:=y;rw[Bool.eq_iff_iff];simp[X8r]
theorem X34 {a:X11} (h:okA a):X2b a=some 0:=by
 rcases h with ⟨h1,h2⟩|⟨h1,h2,h3⟩|⟨h1,h2,h3⟩
 ·subst h2;rfl
 ·have h3':a.Min=a.Max:=by omega
  simp[X2b,h1,h2,h3']
 ·have e0:(a.Count==0)=false:=by simp;omega
  have e1:(a.Count==1)=false:=by simp;omega
  simp[X2b,e0,e1,h1,h2,h3]
def X3g (a b:X11):X11 :=
 if a.Count=0 then b else if b.Count=0 then a else ⟨a.Count+b.Count,IntKind.i64.wrap (a.Sum+b.Sum),if b.Min<a.Min then b.Min else a.Min,if b.Max>a.Max then b.Max else a.Max⟩
theorem X7q {a:X11} (h:okA a):0<=a.Count/\a.Count<=1073741824:=by
 rcases h with ⟨h1,_⟩|⟨h1,_⟩|⟨h1,h2,_⟩<;>omega
theorem X3q {a b:X11} (ha:okA a) (hb:okA b) (hc:a.Count+b.Count<=1073741824):X25 a b=some (X3g a b,0):=by
 have h1:=X7q ha;have h2:=X7q hb;simp only[X25,X34 ha,X34 hb,Yo,bne_self_eq_false,cond_false,X3g];rw[X0g om om];have e0:decide (a.Count+b.Count>1073741824)=false:=by simp;omega
 rw[e0,cond_false];by_cases h3:a.Count=0
 ·have e1:(a.Count==0)=true:=by simp[h3]
  rw[e1,cond_true,if_pos h3]
 ·have e1:(a.Count==0)=false:=by simp[h3]
  rw[e1,cond_false,if_neg h3];by_cases h4:b.Count=0
  ·have e2:(b.Count==0)=true:=by simp[h4]
   rw[e2,cond_true,if_pos h4]
  ·have e2:(b.Count==0)=false:=by simp[h4]
   rw[e2,cond_false,if_neg h4]
theorem Xsx {a:X11} (h:okA a):a.Min<=a.Max:=by
 rcases h with ⟨_,h2⟩|⟨_,h2,h3⟩|⟨_,_,h3⟩
 ·subst h2;decide
 ·omega
 ·exact h3
theorem Xwj {a b:X11} (ha:okA a) (hb:okA b) (hc:a.Count+b.Count<=1073741824):okA (X3g a b):=by
 unfold X3g;have h1:=X7q ha;have h2:=X7q hb;by_cases h3:a.Count=0
 ·rw[if_pos h3];exact hb
 ·rw[if_neg h3];by_cases h4:b.Count=0
  ·rw[if_pos h4];exact ha
  ·rw[if_neg h4];have m1:=Xsx ha;have m2:=Xsx hb;refine .inr (.inr ⟨?_,hc,?_⟩)
   ·show 1<a.Count+b.Count;omega
   ·show(if b.Min<a.Min then b.Min else a.Min)<=(if b.Max>a.Max then b.Max else a.Max);split<;>split<;>omega
def okE (x:X1):Prop := -1100585369600<=x.Span.Start/\x.Span.Start<x.Span.End/\x.Span.End<=1100585369600/\okA x.Values.e0/\okA x.Values.e1/\0<x.Values.e0.Count+x.Values.e1.Count
theorem Xa1 {x:X1} (h:okE x):X5x x=some true:=by
 obtain⟨h1,h2,h3,h4,h5,h6⟩:=h;have c1:=X7q h4;have c2:=X7q h5;have e1:¬ x.Span.Start < -1100585369600:=by omega
 have e2:¬ x.Span.End<=x.Span.Start:=by omega
 have e3:¬ x.Span.End>1100585369600:=by omega
 simp only[X5x,X34 h4,X34 h5,Yo];rw[X0g om om];have e3:¬ 1100585369600<x.Span.End:=by omega
 simp[e1,e2,e3,h6]
theorem X79 (l:List X1) (hs:l.Pairwise ltE) (ho:∀ x∈l,okE x) (hn:l.length<=1000000):∀ (xs:List X1) (k:Nat),l.drop k=xs->X2f l xs k=some .x0:=by
 intro xs
 induction xs with
 |nil=>intro k _;rfl
 |cons x xs ih =>
  intro k hk;have hlt:k<l.length:=by
   rcases Nat.lt_or_ge k l.length with h|h
   ·exact h
   ·rw[List.drop_eq_nil_of_le h] at hk;cases hk
  have hx:l[k]?=some x:=by have:=congrArg List.head? hk;simpa[List.head?_drop] using this
  have hmem:x∈l:=Yg hx;have hnext:l.drop (k+1)=xs:=by rw[<-List.tail_drop,hk];rfl
  rw[X2f];simp only[Xa1 (ho x hmem),Yo,Bool.not_true,cond_false,cond_true];by_cases h0:k=0
  ·subst h0;simp only[Int.ofNat_zero,Int.cast_ofNat_Int,gt_iff_lt,Int.lt_irrefl,decide_false,cond_false,Yo];exact ih 1 hnext
  ·have hpos:decide ((k:Int)>0)=true:=by simp;omega
   rw[hpos,cond_true];have hw:IntKind.i64.wrap ((k:Int) - 1)=((k - 1:Nat):Int):=by rw[X0g om om];omega
   rw[hw,X32];have hp:l[k - 1]?=some l[k - 1]:=Ye om;rw[hp];have hlt2:ltE l[k - 1] x:=by
    have h3:=List.pairwise_iff_getElem.1 hs (k - 1) k om hlt om;have:l[k]=x:=by rw[Ye hlt] at hx;exact Option.some.inj hx
    rwa [this] at h3
   have hord:¬ (0<=Xrs l[k - 1] x):=by rw[Xnq];exact λh=>h hlt2
   simp only[Yo,X7l,ge_iff_le,hord,decide_false,cond_false];exact ih (k+1) hnext
theorem Xa2 {l:List X1} (hs:l.Pairwise ltE) (ho:∀ x∈l,okE x) (hn:l.length<=4000):X41 l=some 0:=by
 unfold X41;have:¬ ((l.length:Int)>4000):=by omega
 simp only[this,decide_false,cond_false];rw[X2n om,X79 l hs ho om l 0 rfl];rfl
theorem X01l {i j:Nat} (h:i+j<=1000000):IntKind.i64.wrap (Int.fdiv (IntKind.u64.wrap (IntKind.i64.wrap ((i:Int)+(j:Int)))) (2 ^ (min (Int.toNat 1) IntKind.u64.bits)))=(((i+j) / 2:Nat):Int):=by
 have h1:IntKind.i64.wrap ((i:Int)+(j:Int))=(i:Int)+j:=X0g om om;rw[h1];have h2:IntKind.u64.wrap ((i:Int)+j)=(i:Int)+j:=Go.IntWalk.u64_in _ ⟨by omega,by omega⟩;rw[h2];have h3:(min (Int.toNat 1) IntKind.u64.bits)=1:=by decide
 rw[h3];have h4:Int.fdiv ((i:Int)+j) (2 ^ 1)=(((i+j) / 2:Nat):Int):=by
  rw[Int.fdiv_eq_ediv_of_nonneg _ (by decide)];omega
 rw[h4,X0g om om]
theorem X052 (l:List X1) (x:X1) (c:Nat) (n:Int) (hn:l.length<=400000) (hc:∀ (k:Nat) y,l[k]?=some y->(ltE y x↔k<c)):∀ (f i j:Nat),i<=c->c<=j->j<=l.length->j - i<f ->
  Xs l x n f i j=some (.x0 c):=by
 intro f
 induction f with
 |zero=>intro i j _ _ _ h;omega
 |succ f ih =>
  intro i j h1 h2 h3 h4;rw[Xs];by_cases hij:i<j
  ·have hd:decide ((i:Int)<(j:Int))=true:=by simp;exact hij
   rw[hd,cond_true,X01l om,X32];have hm:(i+j) / 2<l.length:=by omega
   rw[Ye hm];simp only[Yo,X7l];have hcc:=hc ((i+j) / 2) _ (Ye hm);by_cases hl:ltE l[(i+j) / 2] x
   ·have:Xrs l[(i+j) / 2] x<0:=Xnp.2 hl;simp only[this,decide_true,cond_true];rw[X0g om om];have:=hcc.1 hl;have h5:=ih ((i+j) / 2+1) j om h2 h3 om;simpa using h5
   ·have:¬ Xrs l[(i+j) / 2] x<0:=λh=>hl (Xnp.1 h);simp only[this,decide_false,cond_false];have:¬ (i+j) / 2<c:=λh=>hl (hcc.2 h);exact ih i ((i+j) / 2) h1 om om om
  ·have hd:decide ((i:Int)<(j:Int))=false:=by simp;omega
   rw[hd,cond_false];have:i=c:=by omega
   rw[this]
def cnt (l:List X1) (x:X1):Nat:=(l.takeWhile λy=>decide (ltE y x)).length
theorem Xub (l:List X1) (x:X1):cnt l x<=l.length:=by unfold cnt;exact(List.takeWhile_sublist _).length_le
theorem X006 {l:List X1} {x:X1} (hs:l.Pairwise ltE):∀ (k:Nat) y,l[k]?=some y->(ltE y x↔k<cnt l x):=by
 induction l with
 |nil=>intro k y h;simp at h
 |cons z l ih =>
  intro k y h;rw[List.pairwise_cons] at hs;unfold cnt;by_cases hz:ltE z x
  ·rw[List.takeWhile_cons_of_pos (by simpa using hz)]
   cases k with
   |zero=>simp at h;subst h;simp[hz]
   |succ k =>
    simp at h;have:=ih hs.2 k y h;unfold cnt at this;rw[this];simp
  ·rw[List.takeWhile_cons_of_neg (by simpa using hz)];simp only[List.length_nil,Nat.not_lt_zero,iff_false]
   cases k with
   |zero=>simp at h;subst h;exact hz
   |succ k =>
    simp at h;exact λhy=>hz (Xe4 (hs.1 y (Yg h)) hy)
theorem X02f {l:List X1} {x:X1} (hs:l.Pairwise ltE) (hn:l.length<=50000) :
  Xc l x=some ((cnt l x:Int),match l[cnt l x]? with|some y=>decide (X4k y x)|none=>false):=by
 unfold Xc;have h0:=X052 l x (cnt l x) (l.length:Int) om (X006 hs) FU 0 l.length om (Xub l x) (Nat.le_refl _) (by unfold FU;omega);rw[show((0:Nat):Int)=0 from rfl] at h0;rw[h0];simp only[Yo];by_cases hlt:cnt l x<l.length
 ·have hd:decide ((cnt l x:Int)<(l.length:Int))=true:=by simp;exact hlt
  rw[hd,X32,Ye hlt];simp only[cond_true,Yo,X7l];congr 2
  rw[Bool.eq_iff_iff];simp[Xyw]
 ·have hd:decide ((cnt l x:Int)<(l.length:Int))=false:=by simp;omega
  rw[hd,List.getElem?_eq_none om];rfl
end Go.D


namespace Go.D
def Xk4 (y x:X1):X1:=⟨y.Key,y.Span,⟨X3g y.Values.e0 x.Values.e0,X3g y.Values.e1 x.Values.e1⟩⟩
def Xkp:List X1->X1->List X1
 |[],x=>[x]
 |y::l,x=>if ltE y x then y::Xkp l x else if X4k y x then Xk4 y x::l else x::y::l
theorem Xst {l:List X1} {x:X1} (hs:l.Pairwise ltE) :
  Xkp l x=(match l[cnt l x]? with
   |none=>l++[x]
   |some y=>if X4k y x then l.set (cnt l x) (Xk4 y x) else l.take (cnt l x)++x::l.drop (cnt l x)):=by
 induction l with
 |nil=>rfl
 |cons z l ih =>
  rw[List.pairwise_cons] at hs;unfold Xkp;by_cases hz:ltE z x
  ·have hc:cnt (z::l) x=cnt l x+1:=by unfold cnt;rw[List.takeWhile_cons_of_pos (by simpa using hz)];rfl
   rw[if_pos hz,hc,ih hs.2];simp only[List.getElem?_cons_succ]
   cases h:l[cnt l x]? with
   |none=>rfl
   |some y =>
    simp only;split
    ·rfl
    ·rfl
  ·have hc:cnt (z::l) x=0:=by unfold cnt;rw[List.takeWhile_cons_of_neg (by simpa using hz)];rfl
   rw[if_neg hz,hc];simp only[List.getElem?_cons_zero];split<;>rfl
def putF (l:List X1) (x:X1):Option (List X1×Int) :=
 (Xc l x).bind λv1393=>bif (!v1393.2) then (bif (v1393.1==(List.length l:Int)) then (((X74 l v1393.1 (List.length l:Int)).bind λm1405=>bif (List.isEmpty m1405) then ((X1v (List.length (l++[x])) 88).bind λu1408=>some ()) else ((X1v (List.length (l++[x])) 88).bind λu1410=>some ()):Option (Unit)).bind λ_=>some ((l++[x]),0)) else ((Xr3 l v1393.1 x 88).bind λm1413=>some (m1413,0))) else ((X1o l v1393.1).bind λe1415=>((X25 e1415.Values.e0 x.Values.e0).bind λv1430=>bif (v1430.2 != (0:Int)) then (some (l,v1430.2)) else ((X25 (((X1.mk e1415.Key e1415.Span (V2.mk v1430.1 e1415.Values.e1)).Values).e1) x.Values.e1).bind λv1435=>bif (v1435.2 != (0:Int)) then (some ((List.set l (Int.toNat v1393.1) (X1.mk e1415.Key e1415.Span (V2.mk v1430.1 e1415.Values.e1))),v1435.2)) else (some ((List.set (List.set l (Int.toNat v1393.1) (X1.mk e1415.Key e1415.Span (V2.mk v1430.1 e1415.Values.e1))) (Int.toNat v1393.1) (X1.mk ((X1.mk e1415.Key e1415.Span (V2.mk v1430.1 e1415.Values.e1)).Key) ((X1.mk e1415.Key e1415.Span (V2.mk v1430.1 e1415.Values.e1)).Span) (V2.mk (((X1.mk e1415.Key e1415.Span (V2.mk v1430.1 e1415.Values.e1)).Values).e0) v1435.1))),0))):Option ((List X1)×Int)).bind λw1427=>some (w1427.1,w1427.2))
theorem Xyt {l:List X1} {x:X1} (hs:l.Pairwise ltE) (hn:l.length<=10000) (hx:okA x.Values.e0/\okA x.Values.e1)
  (ho:∀ y∈l,X4k y x->okA y.Values.e0/\okA y.Values.e1/\y.Values.e0.Count+x.Values.e0.Count<=1073741824/\y.Values.e1.Count+x.Values.e1.Count<=1073741824):putF l x=some (Xkp l x,0):=by
 unfold putF;rw[X02f hs om,Xst hs];have hle:=Xub l x
 cases h:l[cnt l x]? with
 |none =>
  have hc:cnt l x=l.length:=by
   have:=List.getElem?_eq_none_iff.1 h;omega
  have hsl:X74 l (l.length:Int) (l.length:Int)=some []:=by simp[X74]
  simp only[Yo,Bool.not_false,cond_true,hc,beq_self_eq_true,hsl];rw[X2o (by simp;omega)];rfl
 |some y =>
  have hlt:cnt l x<l.length:=(Ys.1 h).1;simp only[Yo];by_cases hk:X4k y x
  ·obtain⟨a1,a2,a3,a4⟩:=ho y (Yg h) hk;simp only[hk,decide_true,Bool.not_true,cond_false,X32,h,Yo,X3q a1 hx.1 a3,X3q a2 hx.2 a4,bne_self_eq_false,if_true,Int.toNat_natCast,List.set_set];rfl
  ·have hne:((cnt l x:Int)==(l.length:Int))=false:=by simp;omega
   have hi:Xr3 l (cnt l x:Int) x 88=some (l.take (cnt l x)++x::l.drop (cnt l x)):=by
    unfold Xr3;rw[if_pos ⟨by omega,by simpa using hlt,by omega⟩];simp
   simp only[hk,decide_false,Bool.not_false,cond_true,hne,cond_false,hi,Yo,if_false]
theorem Xkn {l:List X1} {x:X1} (hs:l.Pairwise ltE) (e:X1) :
  e∈Xkp l x↔(e∈l/\¬ X4k e x)\/(∃ y∈l,X4k y x/\e=Xk4 y x)\/((∀ y∈l,¬ X4k y x)/\e=x):=by
 induction l with
 |nil=>simp[Xkp]
 |cons z l ih =>
  rw[List.pairwise_cons] at hs;unfold Xkp;by_cases hz:ltE z x
  ·have hnz:¬ X4k z x:=λh=>X9s h hz;rw[if_pos hz,List.mem_cons,ih hs.2];constructor
   ·rintro(rfl|⟨h1,h2⟩|⟨y,h1,h2,h3⟩|⟨h1,h2⟩)
    ·exact .inl ⟨List.mem_cons_self,hnz⟩
    ·exact .inl ⟨List.mem_cons_of_mem _ h1,h2⟩
    ·exact .inr (.inl ⟨y,List.mem_cons_of_mem _ h1,h2,h3⟩)
    ·exact .inr (.inr ⟨λy hy=>(List.mem_cons.1 hy).elim (λh=>h▸hnz) (h1 y),h2⟩)
   ·rintro(⟨h1,h2⟩|⟨y,h1,h2,h3⟩|⟨h1,h2⟩)
    ·rcases List.mem_cons.1 h1 with h1|h1
     ·exact .inl h1
     ·exact .inr (.inl ⟨h1,h2⟩)
    ·rcases List.mem_cons.1 h1 with h1|h1
     ·subst h1;exact absurd h2 hnz
     ·exact .inr (.inr (.inl ⟨y,h1,h2,h3⟩))
    ·exact .inr (.inr (.inr ⟨λy hy=>h1 y (List.mem_cons_of_mem _ hy),h2⟩))
  ·rw[if_neg hz];have hno:∀ y∈l,¬ (X4k z x/\X4k y x):=λy hy ⟨h1,h2⟩=>by
    have:=hs.1 y hy;exact X9s (a:=y) (b:=y) ⟨rfl,rfl⟩ (by rw[Xaf (c:=y) h1] at this;rw[<-Xaf h2] at this;exact this)
   by_cases hk:X4k z x
   ·rw[if_pos hk,List.mem_cons];constructor
    ·rintro(rfl|h1)
     ·exact .inr (.inl ⟨z,List.mem_cons_self,hk,rfl⟩)
     ·exact .inl ⟨List.mem_cons_of_mem _ h1,λh=>hno e h1 ⟨hk,h⟩⟩
    ·rintro(⟨h1,h2⟩|⟨y,h1,h2,h3⟩|⟨h1,h2⟩)
     ·rcases List.mem_cons.1 h1 with h1|h1
      ·subst h1;exact absurd hk h2
      ·exact .inr h1
     ·rcases List.mem_cons.1 h1 with h1|h1
      ·subst h1;exact .inl h3
      ·exact absurd ⟨hk,h2⟩ (hno y h1)
     ·exact absurd hk (h1 z List.mem_cons_self)
   ·rw[if_neg hk];have hxz:ltE x z:=by
     rcases Xi3 (a:=z) (b:=x) with h|h|h
     ·exact absurd h hz
     ·exact absurd h hk
     ·exact h
    have hn:∀ y∈l,¬ X4k y x:=λy hy h=>by
     have h1:=Xe4 hxz (hs.1 y hy);exact X9s (a:=y) (b:=y) ⟨rfl,rfl⟩ (by rw[<-Xaf h] at h1;exact h1)
    rw[List.mem_cons];constructor
    ·rintro(rfl|h1)
     ·exact .inr (.inr ⟨λy hy=>(List.mem_cons.1 hy).elim (λh=>h▸hk) (hn y),rfl⟩)
     ·exact .inl ⟨h1,λh=>(List.mem_cons.1 h1).elim (λh2=>hk (h2▸h)) (λh2=>hn e h2 h)⟩
    ·rintro(⟨h1,h2⟩|⟨y,h1,h2,h3⟩|⟨h1,h2⟩)
     ·exact .inr h1
     ·rcases List.mem_cons.1 h1 with h1|h1
      ·subst h1;exact absurd h2 hk
      ·exact absurd h2 (hn y h1)
     ·exact .inl h2
theorem Xhz (y x:X1):X4k (Xk4 y x) y:=⟨rfl,rfl⟩
theorem Xhv {l:List X1} {x:X1} (hs:l.Pairwise ltE):(Xkp l x).Pairwise ltE:=by
 induction l with
 |nil=>exact List.pairwise_singleton _ _
 |cons z l ih =>
  have hs0:=hs;rw[List.pairwise_cons] at hs;unfold Xkp;by_cases hz:ltE z x
  ·rw[if_pos hz,List.pairwise_cons];refine⟨λe he=>?_,ih hs.2⟩;rcases(Xkn hs.2 e).1 he with ⟨h1,_⟩|⟨y,h1,h2,rfl⟩|⟨_,rfl⟩
   ·exact hs.1 e h1
   ·rw[sameK_ltE (Xhz y x)];exact hs.1 y h1
   ·exact hz
  ·rw[if_neg hz];by_cases hk:X4k z x
   ·rw[if_pos hk,List.pairwise_cons];exact⟨λe he=>by rw[Xaf (Xhz z x)];exact hs.1 e he,hs.2⟩
   ·rw[if_neg hk,List.pairwise_cons];have hxz:ltE x z:=by
     rcases Xi3 (a:=z) (b:=x) with h|h|h
     ·exact absurd h hz
     ·exact absurd h hk
     ·exact h
    exact⟨λe he=>(List.mem_cons.1 he).elim (λh=>h▸hxz) (λh=>Xe4 hxz (hs.1 e h)),hs0⟩
theorem Xko (l:List X1) (x:X1):(Xkp l x).length<=l.length+1:=by
 induction l with
 |nil=>simp[Xkp]
 |cons z l ih =>
  unfold Xkp;split
  ·simp;exact ih
  ·split<;>simp
end Go.D


namespace Go.D
theorem Xs2 (z:Int):IntKind.i64.wrap z=(z+9223372036854775808) % 18446744073709551616 - 9223372036854775808:=by
 have h:IntKind.i64.wrap z=if z % 18446744073709551616 >= 9223372036854775808 then z % 18446744073709551616 - 18446744073709551616 else z % 18446744073709551616:=by
  unfold IntKind.wrap;simp[IntKind.bits,IntKind.signed]
 rw[h];split<;>omega
theorem X017 (a b:Int):IntKind.i64.wrap (IntKind.i64.wrap a+b)=IntKind.i64.wrap (a+b):=by simp only[Xs2];omega
theorem X016 (a b:Int):IntKind.i64.wrap (a+IntKind.i64.wrap b)=IntKind.i64.wrap (a+b):=by simp only[Xs2];omega
def Xbm:X11:=⟨0,0,0,0⟩
def ofA (v:Int):X11:=⟨1,v,v,v⟩
theorem Xmg (v:Int):okA (ofA v):=.inr (.inl ⟨rfl,rfl,rfl⟩)
theorem Xka:okA Xbm:=.inl ⟨rfl,rfl⟩
theorem Xn3 {a b:X11} (h1:a.Count=b.Count) (h2:a.Sum=b.Sum) (h3:a.Min=b.Min) (h4:a.Max=b.Max):a=b:=by cases a;cases b;simp_all
theorem Xks (a:X11):X3g Xbm a=a:=by unfold X3g;rw[if_pos (show Xbm.Count=0 from rfl)]
theorem Xh1 {a:X11} (h:okA a):X3g a Xbm=a:=by
 unfold X3g;by_cases h0:a.Count=0
 ·rw[if_pos h0];rcases h with ⟨_,h⟩|⟨h,_⟩|⟨h,_⟩
  ·exact h.symm
  ·omega
  ·omega
 ·rw[if_neg h0,if_pos (show Xbm.Count=0 from rfl)]
theorem Xqy {a b:X11} (ha:okA a) (hb:okA b):X3g a b=X3g b a:=by
 by_cases h1:a.Count=0
 ·have:a=Xbm:=by
   rcases ha with ⟨_,h⟩|⟨h,_⟩|⟨h,_⟩
   ·exact h
   ·omega
   ·omega
  rw[this,Xks,Xh1 hb]
 ·by_cases h2:b.Count=0
  ·have:b=Xbm:=by
    rcases hb with ⟨_,h⟩|⟨h,_⟩|⟨h,_⟩
    ·exact h
    ·omega
    ·omega
   rw[this,Xks,Xh1 ha]
  ·unfold X3g;rw[if_neg h1,if_neg h2,if_neg h2,if_neg h1];apply Xn3
   ·show a.Count+b.Count=b.Count+a.Count;omega
   ·show IntKind.i64.wrap (a.Sum+b.Sum)=IntKind.i64.wrap (b.Sum+a.Sum);rw[Int.add_comm]
   ·show(if b.Min<a.Min then b.Min else a.Min)=(if a.Min<b.Min then a.Min else b.Min);split<;>split<;>omega
   ·show(if b.Max>a.Max then b.Max else a.Max)=(if a.Max>b.Max then a.Max else b.Max);split<;>split<;>omega
theorem Xdi {a b c:X11} (ha:0<=a.Count) (hb:0<=b.Count) (hc:0<=c.Count):X3g (X3g a b) c=X3g a (X3g b c):=by
 by_cases h1:a.Count=0
 ·have e:∀ x,X3g a x=x:=λx=>by unfold X3g;rw[if_pos h1]
  rw[e,e]
 ·by_cases h2:b.Count=0
  ·have e1:X3g a b=a:=by unfold X3g;rw[if_neg h1,if_pos h2]
   have e2:X3g b c=c:=by unfold X3g;rw[if_pos h2]
   rw[e1,e2]
  ·by_cases h3:c.Count=0
   ·have e:∀ x:X11,x.Count≠0->X3g x c=x:=λx hx=>by unfold X3g;rw[if_neg hx,if_pos h3]
    have hab:(X3g a b).Count≠0:=by unfold X3g;rw[if_neg h1,if_neg h2];show a.Count+b.Count≠0;omega
    rw[e _ hab,e _ h2]
   ·have e:∀ x y:X11,x.Count≠0->y.Count≠0->X3g x y=⟨x.Count+y.Count,IntKind.i64.wrap (x.Sum+y.Sum),if y.Min<x.Min then y.Min else x.Min,if y.Max>x.Max then y.Max else x.Max⟩:=λx y hx hy=>by unfold X3g;rw[if_neg hx,if_neg hy]
    rw[e a b h1 h2,e b c h2 h3,e _ c (by show a.Count+b.Count≠0;omega) h3,e a _ h1 (by show b.Count+c.Count≠0;omega)];apply Xn3
    ·show a.Count+b.Count+c.Count=a.Count+(b.Count+c.Count);omega
    ·show IntKind.i64.wrap (IntKind.i64.wrap (a.Sum+b.Sum)+c.Sum)=IntKind.i64.wrap (a.Sum+IntKind.i64.wrap (b.Sum+c.Sum));rw[X017,X016,Int.add_assoc]
    ·dsimp only;repeat' split<;>first|rfl|omega
    ·dsimp only;repeat' split<;>first|rfl|omega
def Xcj (l:List Int):X11:=l.foldl (λa v=>X3g a (ofA v)) Xbm
theorem Xci (l:List Int) (v:Int):Xcj (l++[v])=X3g (Xcj l) (ofA v):=by unfold Xcj;rw[List.foldl_append];rfl
theorem Xll:Xcj []=Xbm:=rfl
theorem Xd0 (v:Int):Xcj [v]=ofA v:=Xks _
theorem X37:∀ (l:List Int),(Xcj l).Count=l.length:=by
 have key:∀ (l:List Int) (a:X11),0<=a.Count->(l.foldl (λa v=>X3g a (ofA v)) a).Count=a.Count+l.length:=by
  intro l
  induction l with
  |nil=>intro a _;simp
  |cons v l ih =>
   intro a ha;have h1:(X3g a (ofA v)).Count=a.Count+1:=by
    unfold X3g;by_cases h:a.Count=0
    ·rw[if_pos h,h];rfl
    ·rw[if_neg h,if_neg (by show ¬ (1:Int)=0;omega)];rfl
   rw[List.foldl_cons,ih _ om,h1];simp;omega
 intro l;rw[Xcj,key l Xbm (Int.le_refl _)];show(0:Int)+_=_;omega
theorem Xiq:∀ {l:List Int},l.length<=1073741824->okA (Xcj l):=by
 have key:∀ (n:Nat) (l:List Int),l.length=n->n<=1073741824->okA (Xcj l):=by
  intro n
  induction n with
  |zero=>intro l hl _;rw[List.eq_nil_of_length_eq_zero hl];exact Xka
  |succ n ih =>
   intro l hl hn;have hne:l≠[]:=λh=>by rw[h] at hl;cases hl
   have hd:l.dropLast.length=n:=by rw[List.length_dropLast];omega
   rw[<-List.dropLast_concat_getLast hne,Xci];refine Xwj (ih _ hd om) (Xmg _) ?_;rw[X37,hd];show(n:Int)+1<=_;omega
 intro l h;exact key l.length l rfl h
theorem X64:∀ (b a:List Int),Xcj (a++b)=X3g (Xcj a) (Xcj b):=by
 have key:∀ (n:Nat) (b a:List Int),b.length=n->Xcj (a++b)=X3g (Xcj a) (Xcj b):=by
  intro n
  induction n with
  |zero =>
   intro b a hb;rw[List.eq_nil_of_length_eq_zero hb,List.append_nil,Xll];by_cases h0:(Xcj a).Count=0
   ·have:a=[]:=List.eq_nil_of_length_eq_zero (by rw[X37] at h0;omega);rw[this];rfl
   ·unfold X3g;rw[if_neg h0,if_pos (show Xbm.Count=0 from rfl)]
  |succ n ih =>
   intro b a hb;have hne:b≠[]:=λh=>by rw[h] at hb;cases hb
   have hd:b.dropLast.length=n:=by rw[List.length_dropLast];omega
   rw[<-List.dropLast_concat_getLast hne,<-List.append_assoc,Xci,Xci,ih _ _ hd];exact Xdi (by rw[X37];omega) (by rw[X37];omega) (by show(0:Int)<=1;decide)
 intro b a;exact key b.length b a rfl
theorem Xel {a b:List Int} (h:a.Perm b):a.length<=1073741824->Xcj a=Xcj b:=by
 induction h with
 |nil=>intro _;rfl
 |@cons x l1 l2 h ih =>
  intro hl;have:=ih (by simp at hl;omega);rw[show x::l1=[x]++l1 from rfl,show x::l2=[x]++l2 from rfl,X64,X64,this]
 |swap x y l =>
  intro hl;rw[show y::x::l=[y]++([x]++l) from rfl,show x::y::l=[x]++([y]++l) from rfl,X64,X64,X64,X64,Xd0,Xd0];rw[<-Xdi (by show(0:Int)<=1;decide) (by show(0:Int)<=1;decide) (by rw[X37];omega),Xqy (Xmg y) (Xmg x),Xdi (by show(0:Int)<=1;decide) (by show(0:Int)<=1;decide) (by rw[X37];omega)]
 |trans h1 _ ih1 ih2=>intro hl;rw[ih1 hl,ih2 (by rw[<-h1.length_eq];exact hl)]
abbrev Pu:=X8×Int
def inS (s:X04) (t:Int):Prop:=s.Start<=t/\t<s.End
instance (s:X04) (t:Int):Decidable (inS s t):=by unfold inS;infer_instance
def vals (L:List Pu) (k:Int) (s:X04) (side:Int):List Int:=(L.filter λp=>decide (p.1.Key=k/\inS s p.1.Time/\p.2=side)).map λp=>p.1.Value
def X73 (L:List Pu) (k t:Int):Prop:=∃ p∈L,p.1.Key=k/\p.1.Time=t
def Xml (size every t:Int) (s:X04):Prop:=s.Start % every=0/\s.End=s.Start+size/\inS s t
def cov (size:Int) (T:Int->Prop) (x:Int):Prop:=∃ t,T t/\2*t<x/\x<2*(t+size)
def Xhr (size:Int) (T:Int->Prop) (s:X04):Prop:=s.Start<s.End/\(∀ x,2*s.Start<x->x<2*s.End->cov size T x)/\¬ cov size T (2*s.Start)/\¬ cov size T (2*s.End)
def Xda (w:X0l):Int:=if w.Kind=1 then w.Size else w.Every
def Xdn (w:X0l) (T:Int->Prop) (s:X04):Prop:=if w.Kind=3 then Xhr w.Size T s else ∃ t,T t/\Xml w.Size (Xda w) t s
def Xdb (L:List Pu) (k:Int) (s:X04):V2 X11:=⟨Xcj (vals L k s 0),Xcj (vals L k s 1)⟩
def Xp1 (w:X0l) (L:List Pu) (e:X1):Prop:=Xdn w (X73 L e.Key) e.Span/\e.Values=Xdb L e.Key e.Span
structure X7k (w:X0l) (L:List Pu) (es:List X1):Prop where
 sorted:es.Pairwise ltE
 mem:∀ e,e∈es↔Xp1 w L e
 cover:w.Kind=3->∀ k t,X73 L k t->∃ e∈es,e.Key=k/\e.Span.Start<=t/\t+w.Size<=e.Span.End
theorem Xqi:∀ {a b:List X1},a.Pairwise ltE->b.Pairwise ltE->(∀ e,e∈a↔e∈b)->a=b:=by
 intro a
 induction a with
 |nil =>
  intro b _ _ h
  cases b with
  |nil=>rfl
  |cons y b=>exact absurd ((h y).2 List.mem_cons_self) (by simp)
 |cons x a ih =>
  intro b ha hb h
  cases b with
  |nil=>exact absurd ((h x).1 List.mem_cons_self) (by simp)
  |cons y b =>
   rw[List.pairwise_cons] at ha hb;have hxy:x=y:=by
    rcases List.mem_cons.1 ((h x).1 List.mem_cons_self) with h1|h1
    ·exact h1
    ·rcases List.mem_cons.1 ((h y).2 List.mem_cons_self) with h2|h2
     ·exact h2.symm
     ·exact absurd (hb.1 x h1) (Xt7 (ha.1 y h2))
   subst hxy;rw[ih ha.2 hb.2];intro e;constructor
   ·intro he;rcases List.mem_cons.1 ((h e).1 (List.mem_cons_of_mem _ he)) with h1|h1
    ·subst h1;exact absurd (ha.1 e he) (Xf3 e)
    ·exact h1
   ·intro he;rcases List.mem_cons.1 ((h e).2 (List.mem_cons_of_mem _ he)) with h1|h1
    ·subst h1;exact absurd (hb.1 e he) (Xf3 e)
    ·exact h1
theorem X7k.unique {w:X0l} {L:List Pu} {a b:List X1} (ha:X7k w L a) (hb:X7k w L b):a=b:=Xqi ha.sorted hb.sorted λe=>by rw[ha.mem,hb.mem]
theorem Xlv {L L':List Pu} (h:L.Perm L') (k:Int) (s:X04) (side:Int):(vals L k s side).Perm (vals L' k s side):=(h.filter _).map _
theorem Xdo (L:List Pu) (k:Int) (s:X04) (side:Int):(vals L k s side).length<=L.length:=by unfold vals;rw[List.length_map];exact List.length_filter_le _ _
theorem Xjt {L L':List Pu} (h:L.Perm L') (k t:Int):X73 L k t↔X73 L' k t:=by
 unfold X73;exact⟨λ⟨p,hp,q⟩=>⟨p,h.mem_iff.1 hp,q⟩,λ⟨p,hp,q⟩=>⟨p,h.mem_iff.2 hp,q⟩⟩
theorem X7k.perm {w:X0l} {L L':List Pu} {es:List X1} (h:L.Perm L') (hl:L.length<=1073741824) (c:X7k w L es):X7k w L' es:=by
 refine⟨c.sorted,λe=>?_,λh3 k t ht=>c.cover h3 k t ((Xjt h k t).2 ht)⟩;rw[c.mem];have h1:X73 L e.Key=X73 L' e.Key:=funext λt=>propext (Xjt h _ t);have h2:Xdb L e.Key e.Span=Xdb L' e.Key e.Span:=by
  unfold Xdb;rw[Xel (Xlv h _ _ 0) (Nat.le_trans (Xdo ..) hl),Xel (Xlv h _ _ 1) (Nat.le_trans (Xdo ..) hl)]
 unfold Xp1;rw[h1,h2]
end Go.D


namespace Go.D
theorem Xmv (x y:X05):X6u x y=decide (x=y):=by
 obtain⟨a,b,c,d,e⟩:=x;obtain⟨f,g,h,i,j⟩:=y;rw[Bool.eq_iff_iff];simp[X6u,and_assoc]
theorem Xkk {α:Type} {l:List α} {k:Nat} (h:k<=l.length):X74 l 0 (k:Int)=some (l.take k):=by
 unfold X74;rw[if_pos ⟨by omega,by omega,by simpa using h⟩];simp
theorem Xev {α:Type} {l:List α} {k:Nat} (h:k<=l.length):X74 l (k:Int) (l.length:Int)=some (l.drop k):=by
 unfold X74;rw[if_pos ⟨by omega,by omega,by simp⟩];simp only[Int.toNat_natCast];rw[List.take_of_length_le (by rw[List.length_drop];exact Nat.le_refl _)]
def okN (x:X05) (a b:Int):Prop:=1<=x.Kind/\x.Kind<=19/\0<=x.N/\(x.N=0\/x.Kind=1)/\0<=x.At/\x.At<=400/\x.A=a/\x.B=b
instance (x:X05) (a b:Int):Decidable (okN x a b):=by unfold okN;infer_instance
theorem Xkl (x:X05) (a b:Int):X60 x a b=some (decide (okN x a b)):=by
 unfold X60 okN;congr 1
 rw[Bool.eq_iff_iff];by_cases h1:1<=x.Kind<;>by_cases h2:x.Kind<=19<;>by_cases h3:0<=x.N<;>by_cases h4:x.N=0<;>by_cases h5:0<=x.At<;>by_cases h6:x.At<=400<;>simp[h1,h2,h3,h4,h5,h6,and_assoc]
def nst (sd:List (Nat×Nat)) (x:X05):Option (Nat×Nat) :=
 if x.Kind<=4 then (if okN x 0 0 then some (1,1) else none)
 else match sd.getLast? with
  |none=>none
  |some (s2,d2) =>
   if x.Kind<=6 then (if okN x ((sd.length:Int) - 1) 0 then some (1+s2,1+d2) else none)
   else if sd.length - 1<s2 then none
   else match sd[sd.length - 1 - s2]? with
    |none=>none
    |some (s1,d1)=>if okN x ((sd.length:Int) - 1 - s2) ((sd.length:Int) - 1) then some (1+s2+s1,max (1+d2) (1+d1)) else none
def Xjy:List X05->List (Nat×Nat)->Option (List (Nat×Nat))
 |[],sd=>some sd
 |x::xs,sd=>match nst sd x with
  |some q=>Xjy xs (sd++[q])
  |none=>none
def X7x (j:Nat) (q:Nat×Nat):Xb:=⟨(j:Int),(q.1:Int),(q.2:Int)⟩
inductive Xa9 (sd:List (Nat×Nat)):Nat->List Xb->Prop
 |nil:Xa9 sd 0 []
 |snoc {j:Nat} {q:Nat×Nat} {st:List Xb} (hq:sd[j]?=some q) (h1:1<=q.1) (h2:q.1<=j+1) (h3:q.2<=q.1) (h:Xa9 sd (j+1 - q.1) st):Xa9 sd (j+1) (st++[X7x j q])
theorem Xa9.more {sd sd':List (Nat×Nat)} {k:Nat} {st:List Xb} (h:Xa9 sd k st) (hs:∀ j,j<k->sd'[j]?=sd[j]?):Xa9 sd' k st:=by
 induction h with
 |nil=>exact .nil
 |@snoc j q st hq h1 h2 h3 _ ih=>exact .snoc (by rw[hs j om];exact hq) h1 h2 h3 (ih λi hi=>hs i om)
theorem Xa9.app {sd e:List (Nat×Nat)} {k:Nat} {st:List Xb} (h:Xa9 sd k st) (hk:k<=sd.length):Xa9 (sd++e) k st:=h.more λj hj=>List.getElem?_append_left om
theorem Xa9.len {sd:List (Nat×Nat)} {k:Nat} {st:List Xb} (h:Xa9 sd k st):st.length<=k:=by
 induction h with
 |nil=>simp
 |snoc hq h1 h2 h3 _ ih=>simp;omega
theorem Xin {k:Nat} (h:1<=k) (hk:k<=1000000):IntKind.i64.wrap ((k:Int) - 1)=((k - 1:Nat):Int):=by rw[X0g om om];omega
theorem Xwb {x:X05} (h0:0<=x.Kind):X9c x.Kind=some (if 1<=x.Kind/\x.Kind<=19 then ((if x.Kind<=4 then 0 else if x.Kind<=6 then 1 else 2),0) else (0,2)):=by
 unfold X9c;by_cases h1:1<=x.Kind
 ·by_cases h4:x.Kind<=4
  ·simp[h1,h4,show x.Kind<=19 by omega]
  ·by_cases h6:x.Kind<=6
   ·have:(bif x.Kind==5 then true else x.Kind==6)=true:=by
     rcases(by omega:x.Kind=5\/x.Kind=6) with h|h<;>simp[h]
    simp[h1,h4,h6,this,show x.Kind<=19 by omega]
   ·have e5:(bif x.Kind==5 then true else x.Kind==6)=false:=by
     have a:(x.Kind==5)=false:=by simp;omega
     have b:(x.Kind==6)=false:=by simp;omega
     rw[a,b];rfl
    by_cases h19:x.Kind<=19
    ·simp[h1,h4,h6,e5,h19,show(7:Int)<=x.Kind by omega]
    ·simp[h1,h4,h6,e5,h19]
 ·have e:x.Kind=0:=by omega
  simp[e]
theorem Xsu {x : X05} {a b : Int} (h1 : 1 <= x.Kind) (h2 : x.Kind <= 19) :
    ((bif (x.Kind==(1:Int)) then (some (X05.mk x.Kind (if 0>x.N then 0 else x.N) a b (if 400<(if 0>x.At then 0 else x.At) then 400 else (if 0>x.At then 0 else x.At)))) else (some (X05.mk x.Kind 0 a b (if 400<(if 0>x.At then 0 else x.At) then 400 else (if 0>x.At then 0 else x.At)))):Option (X05)).bind λo=>some (X6u o x))=some (decide (okN x a b)):=by
  obtain⟨K,N,A,B,At⟩:=x;have hat:((if 400<(if 0>At then 0 else At) then 400 else (if 0>At then 0 else At))=At)↔(0<=At/\At<=400):=by
    by_cases g1:0>At
    · rw[if_pos g1];constructor
      · intro h;exfalso;split at h<;>omega
      · intro h;omega
    · rw[if_neg g1];split<;>omega
  have hn:((if 0>N then 0 else N)=N)↔0<=N:=by split<;>omega
  have key:∀ n':Int,(n'=N↔(0<=N/\(N=0\/K=1)))->(some (X6u (X05.mk K n' a b (if 400<(if 0>At then 0 else At) then 400 else (if 0>At then 0 else At))) ⟨K,N,A,B,At⟩):Option Bool)=some (decide (okN ⟨K,N,A,B,At⟩ a b)):=by
    intro n' hn';rw[Xmv];congr 1
    apply decide_eq_decide.2;rw[X05.mk.injEq,hat,hn'];unfold okN;constructor
    · rintro⟨_,⟨g1,g2⟩,hA,hB,g3,g4⟩
      exact⟨h1,h2,g1,g2,g3,g4,hA.symm,hB.symm⟩
    · rintro⟨_,_,g1,g2,g3,g4,hA,hB⟩
      exact⟨rfl,⟨g1,g2⟩,hA.symm,hB.symm,g3,g4⟩
  by_cases hk:K=1
  · have:(K==1)=true:=by simp[hk]
    show(Option.bind (bif (K==1) then _ else _) _)=_;rw[this,cond_true,Yo];exact key _ (by rw[hn];simp[hk])
  · have:(K==1)=false:=by simp[hk]
    show(Option.bind (bif (K==1) then _ else _) _)=_;rw[this,cond_false,Yo]
    exact key _ (by constructor
                    · intro h;omega
                    · rintro⟨_,h⟩;rcases h with h|h<;>omega)
theorem Xlh {β:Type} {o:Option X05} {x:X05} {d:Bool} {f g:Option β} (h:(o.bind λz=>some (X6u z x))=some d):(o.bind λz=>bif (!(X6u z x)) then f else g)=bif d then g else f:=by
 cases o with
 |none=>cases h
 |some z =>
  simp only[Yo,Option.some.injEq] at h;rw[Yo,h];cases d<;>rfl
def X65 (sd:List (Nat×Nat)):List Xb:=sd.mapIdx X7x
theorem Xng (sd:List (Nat×Nat)) (q:Nat×Nat):X65 (sd++[q])=X65 sd++[X7x sd.length q]:=by unfold X65;simp
theorem Xqf (sd:List (Nat×Nat)):(X65 sd).length=sd.length:=by unfold X65;simp
theorem Xa9.inv {sd:List (Nat×Nat)} {k:Nat} {st:List Xb} (h:Xa9 sd k st) (hk:0<k):∃ q st0,sd[k - 1]?=some q/\1<=q.1/\q.1<=k/\q.2<=q.1/\Xa9 sd (k - q.1) st0/\st=st0++[X7x (k - 1) q]:=by
 cases h with
 |nil=>omega
 |@snoc j q st0 hq h1 h2 h3 h=>exact⟨q,st0,hq,h1,h2,h3,h,rfl⟩
theorem Xa9.zero {sd:List (Nat×Nat)} {st:List Xb} (h:Xa9 sd 0 st):st=[]:=by
 cases h;rfl
theorem Xyc (Y : List X05) : ∀ (xs : List X05) (sd : List (Nat × Nat)) (st : List Xb), (∀ x ∈ xs, 0 <= x.Kind) -> sd.length + xs.length <= 1000 -> Xa9 sd sd.length st -> (∀ j q, sd[j]? = some q -> 1 <= q.1 /\ q.1 <= j + 1 /\ q.2 <= q.1) ->
    match Xjy xs sd with
    |some sd'=>∃ st',X1y Y xs sd.length (X65 sd) st=some (.x0 (X65 sd') st')/\Xa9 sd' sd'.length st'
    |none=>∃ all,X1y Y xs sd.length (X65 sd) st=some (.x1 all):=by
  intro xs
  induction xs with
  |nil=>intro sd st _ _ hc _;exact⟨st,rfl,hc⟩
  |cons x xs ih =>
    intro sd st h0 hn hc hb;simp only[List.length_cons] at hn;have hx:=h0 x List.mem_cons_self;rw[X1y,Xwb hx];have go : ∀ (q : Nat × Nat) (st0 : List Xb), nst sd x = some q -> Xa9 (sd ++ [q]) (sd.length + 1) (st0 ++ [X7x sd.length q]) -> 1 <= q.1 -> q.1 <= sd.length + 1 -> q.2 <= q.1 ->
        (match Xjy (x::xs) sd with
          |some sd'=>∃ st',X1y Y xs (sd.length+1) (X65 sd++[X7x sd.length q]) (st0++[X7x sd.length q])=some (.x0 (X65 sd') st')/\Xa9 sd' sd'.length st'
          |none=>∃ all,X1y Y xs (sd.length+1) (X65 sd++[X7x sd.length q]) (st0++[X7x sd.length q])=some (.x1 all)):=by
      intro q st0 hq hc2 g1 g2 g3
      have:=ih (sd++[q]) (st0++[X7x sd.length q]) (λy hy=>h0 y (List.mem_cons_of_mem _ hy)) (by simp;omega) (by simpa using hc2) (λj q' hj=>by
        rw[List.getElem?_append] at hj;split at hj
        · exact hb j q' hj
        · rename_i hlt
          have:j=sd.length:=by
            have:=(Ys.1 hj).1;simp at this;omega
          subst this
          simp at hj;subst hj;exact⟨g1,g2,g3⟩)
      rw[Xng,List.length_append] at this;unfold Xjy;rw[hq];exact this
    have stop:nst sd x=none->∀ {o:Option X4x},(∃ all,o=some (.x1 all))->(match Xjy (x::xs) sd with
          |some sd'=>∃ st',o=some (.x0 (X65 sd') st')/\Xa9 sd' sd'.length st'
          |none=>∃ all,o=some (.x1 all)):=by
      intro hq o h;unfold Xjy;rw[hq];exact h
    have cap:∀ (l:List Xb) (t:Xb),l.length<=2000->X1v (List.length (l++[t])) 24=some ():=λl t hl=>X2o (by simp;omega);have hla:(X65 sd).length<=2000:=by unfold X65;simp;omega
    have hst:=hc.len;by_cases hr:1<=x.Kind/\x.Kind<=19
    · rw[if_pos hr]
      simp only[Yo,bne_self_eq_false,cond_false];by_cases h4:x.Kind<=4
      · -- no parts
        have e1:decide ((if x.Kind<=4 then (0:Int) else if x.Kind<=6 then 1 else 2)>(st.length:Int))=false:=by rw[if_pos h4];simp
        rw[e1,cond_false,if_pos h4];have e2:IntKind.i64.wrap ((st.length:Int) - 0)=(st.length:Int):=by rw[X0g om om];omega
        rw[e2,Xkk (Nat.le_refl _),Xev (Nat.le_refl _),List.take_length,List.drop_length];simp only[Yo,List.isEmpty_nil,cond_true];rw[Xlh (Xsu hr.1 hr.2)];by_cases hok:okN x 0 0
        · rw[Yt hok,cond_true,cap st _ om,cap _ _ hla]
          exact go (1,1) st (by unfold nst;rw[if_pos h4,if_pos hok]) (.snoc (by simp) (Nat.le_refl _) om (Nat.le_refl _) (by simpa using hc.app (Nat.le_refl _))) (Nat.le_refl _) om (Nat.le_refl _)
        · rw[Yf hok,cond_false]
          exact stop (by unfold nst;rw[if_pos h4,if_neg hok]) ⟨_,rfl⟩
      · have hgl:0<sd.length->∃ q,sd.getLast?=some q/\sd[sd.length - 1]?=some q:=by
          intro h;refine⟨sd[sd.length - 1]' om,?_,?_⟩
          · rw[List.getLast?_eq_getElem?];exact Ye _
          · exact Ye _
        by_cases h6:x.Kind<=6
        · -- one part
          rw[if_neg h4,if_pos h6];by_cases hl:sd.length=0
          · rw[hl] at hc
            have:=hc.zero;subst this;simp only[List.length_nil];exact stop (by unfold nst;rw[if_neg h4,List.eq_nil_of_length_eq_zero hl];rfl) ⟨_,rfl⟩
          · obtain⟨q,st0,hq,g1,g2,g3,hc0,rfl⟩:=hc.inv om
            obtain⟨q',hq1,hq2⟩:=hgl om;rw[hq] at hq2;cases hq2;have hs0:=hc0.len;have e1:decide ((1:Int)>((st0++[X7x (sd.length - 1) q]).length:Int))=false:=by simp;omega
            rw[e1,cond_false];have e2:IntKind.i64.wrap (((st0++[X7x (sd.length - 1) q]).length:Int) - 1)=(st0.length:Int):=by
              rw[X0g (by rw[List.length_append,List.length_singleton];omega) (by rw[List.length_append,List.length_singleton];omega),List.length_append,List.length_singleton];omega
            rw[e2,Xkk (by simp),Xev (by simp),List.take_left,List.drop_left];simp only[Yo,List.isEmpty_cons,cond_false,List.length_singleton];rw[show(((1:Nat):Int)==1)=true from rfl,cond_true];rw[show X1o [X7x (sd.length - 1) q] 0=some (X7x (sd.length - 1) q) from rfl,Yo];rw[Xlh (Xsu hr.1 hr.2)];have ea:(X7x (sd.length - 1) q).at_=(sd.length:Int) - 1:=by unfold X7x;simp only;omega
            rw[ea];by_cases hok:okN x ((sd.length:Int) - 1) 0
            · have e3:(Xb.mk (sd.length:Int) (IntKind.i64.wrap (1+(X7x (sd.length - 1) q).size)) (if (IntKind.i64.wrap ((X7x (sd.length - 1) q).depth+1))>1 then (IntKind.i64.wrap ((X7x (sd.length - 1) q).depth+1)) else 1))=X7x sd.length (1+q.1,1+q.2):=by
                unfold X7x;simp only;rw[X0g om om,X0g om om];congr 1
                split<;>omega
              rw[Yt hok,cond_true,e3,cap st0 _ om,cap _ _ hla];refine go (1+q.1,1+q.2) st0 (by unfold nst;rw[if_neg h4,hq1];simp only;rw[if_pos h6,if_pos hok]) (.snoc (by simp) (by simp only;omega) (by simp only;omega) (by simp only;omega) ?_) (by simp only;omega) (by simp only;omega) (by simp only;omega);have:=hc0.app (e:=[(1+q.1,1+q.2)]) om;simp only;rw[show sd.length+1 - (1+q.1)=sd.length - q.1 by omega];exact this
            · rw[Yf hok,cond_false]
              exact stop (by unfold nst;rw[if_neg h4,hq1];simp only;rw[if_pos h6,if_neg hok]) ⟨_,rfl⟩
        · -- two parts
          rw[if_neg h4,if_neg h6];by_cases hl:sd.length=0
          · rw[hl] at hc
            have:=hc.zero;subst this;simp only[List.length_nil];exact stop (by unfold nst;rw[if_neg h4,List.eq_nil_of_length_eq_zero hl];rfl) ⟨_,rfl⟩
          · obtain⟨q,st1,hq,g1,g2,g3,hc1,rfl⟩:=hc.inv om
            obtain⟨q',hq1,hq2⟩:=hgl om;rw[hq] at hq2;cases hq2;by_cases hl1:sd.length - q.1=0
            · rw[hl1] at hc1
              have:=hc1.zero;subst this;exact stop (by unfold nst;rw[if_neg h4,hq1];simp only;rw[if_neg h6,if_pos om]) ⟨_,rfl⟩
            · obtain⟨p,st0,hp,f1,f2,f3,hc0,rfl⟩:=hc1.inv om
              have hs0:=hc0.len;rw[List.append_assoc];have e1:decide ((2:Int)>((st0++([X7x (sd.length - q.1 - 1) p]++[X7x (sd.length - 1) q])).length:Int))=false:=by simp;omega
              rw[e1,cond_false];have e2:IntKind.i64.wrap (((st0++([X7x (sd.length - q.1 - 1) p]++[X7x (sd.length - 1) q])).length:Int) - 2)=(st0.length:Int):=by
                rw[X0g (by simp only[List.length_append,List.length_singleton];omega) (by simp only[List.length_append,List.length_singleton];omega)];simp only[List.length_append,List.length_singleton];omega
              rw[e2,Xkk (by simp),Xev (by simp),List.take_left,List.drop_left];simp only[Yo,List.singleton_append,List.isEmpty_cons,cond_false,List.length_cons,List.length_nil];rw[show((((0:Nat)+1+1:Nat):Int)==1)=false from rfl,show((((0:Nat)+1+1:Nat):Int)==2)=true from rfl,cond_false,cond_true];rw[show X1o [X7x (sd.length - q.1 - 1) p,X7x (sd.length - 1) q] 0=some (X7x (sd.length - q.1 - 1) p) from rfl,show X1o [X7x (sd.length - q.1 - 1) p,X7x (sd.length - 1) q] 1=some (X7x (sd.length - 1) q) from rfl,Yo,Yo];rw[Xlh (Xsu hr.1 hr.2)];have ea:(X7x (sd.length - 1) q).at_=(sd.length:Int) - 1:=by unfold X7x;simp only;omega
              have eb:(X7x (sd.length - q.1 - 1) p).at_=(sd.length:Int) - 1 - q.1:=by unfold X7x;simp only;omega
              rw[ea,eb];have hp':sd[sd.length - 1 - q.1]?=some p:=by rw[show sd.length - 1 - q.1=sd.length - q.1 - 1 by omega];exact hp
              by_cases hok:okN x ((sd.length:Int) - 1 - q.1) ((sd.length:Int) - 1)
              · have e3:(Xb.mk (sd.length:Int) (IntKind.i64.wrap ((IntKind.i64.wrap (1+(X7x (sd.length - q.1 - 1) p).size))+(X7x (sd.length - 1) q).size)) (if (IntKind.i64.wrap ((X7x (sd.length - 1) q).depth+1))>(if (IntKind.i64.wrap ((X7x (sd.length - q.1 - 1) p).depth+1))>1 then (IntKind.i64.wrap ((X7x (sd.length - q.1 - 1) p).depth+1)) else 1) then (IntKind.i64.wrap ((X7x (sd.length - 1) q).depth+1)) else (if (IntKind.i64.wrap ((X7x (sd.length - q.1 - 1) p).depth+1))>1 then (IntKind.i64.wrap ((X7x (sd.length - q.1 - 1) p).depth+1)) else 1)))=X7x sd.length (1+q.1+p.1,max (1+q.2) (1+p.2)):=by
                  unfold X7x;simp only;rw[X0g (z:=1+(p.1:Int)) om om,X0g om om,X0g om om,X0g om om];congr 1
                  · push_cast;omega
                  · split<;>split<;>omega
                rw[Yt hok,cond_true,e3,cap st0 _ om,cap _ _ hla];refine go (1+q.1+p.1,max (1+q.2) (1+p.2)) st0 (by unfold nst;rw[if_neg h4,hq1];simp only;rw[if_neg h6,if_neg om,hp'];simp only;rw[if_pos hok]) (.snoc (by simp) (by simp only;omega) (by simp only;omega) (by simp only;omega) ?_) (by simp only;omega) (by simp only;omega) (by simp only;omega);have:=hc0.app (e:=[(1+q.1+p.1,max (1+q.2) (1+p.2))]) om;simp only;rw[show sd.length+1 - (1+q.1+p.1)=sd.length - q.1 - p.1 by omega];exact this
              · rw[Yf hok,cond_false]
                exact stop (by unfold nst;rw[if_neg h4,hq1];simp only;rw[if_neg h6,if_neg om,hp'];simp only;rw[if_neg hok]) ⟨_,rfl⟩
    · rw[if_neg hr]
      have hno:nst sd x=none:=by
        have no:∀ a b,¬ okN x a b:=λa b h=>hr ⟨h.1,h.2.1⟩;unfold nst;simp only[no,if_false];split
        · rfl
        · split
          · rfl
          · split
            · rfl
            · split
              · rfl
              · split<;>rfl
      exact stop hno ⟨_,rfl⟩
def Xbl (l:List X05):Int :=
 if l.length>60 then 4 else match Xjy l [] with
  |none=>8
  |some sd=>match sd.getLast? with
   |none=>8
   |some q=>if q.1=l.length then (if q.2>20 then 34 else 0) else 8
theorem Xgy:∀ (xs:List X05) (sd sd':List (Nat×Nat)),Xjy xs sd=some sd'->sd'.length=sd.length+xs.length
 |[],sd,sd',h=>by cases h;simp
 |x::xs,sd,sd',h=>by
  unfold Xjy at h;split at h
  ·have:=Xgy xs _ _ h;simp at this;simp;omega
  ·cases h
theorem Xqg {sd:List (Nat×Nat)} {i:Nat} {q:Nat×Nat} (h:sd[i]?=some q):X1o (X65 sd) (i:Int)=some (X7x i q):=by
 rw[X32];unfold X65;rw[List.getElem?_mapIdx,h];rfl
theorem Xjb {l:List X05} (h0:∀ x∈l,0<=x.Kind):∃ t,X9b l=some (t,Xbl l)/\(Xbl l=0->∃ sd,Xjy l []=some sd/\t=X65 sd):=by
 unfold X9b Xbl;by_cases h60:l.length>60
 ·rw[Yt (show(l.length:Int)>60 by omega),cond_true,if_pos h60];exact⟨_,rfl,by omega⟩
 ·rw[Yf (show ¬ (l.length:Int)>60 by omega),cond_false,if_neg h60];have hL:=Xyc l l [] [] h0 (by simp;omega) .nil (by simp);unfold Xcn;rw[X2n om]
  cases hr:Xjy l [] with
  |none =>
   rw[hr] at hL;obtain⟨all,hL⟩:=hL;simp only[List.length_nil] at hL;rw[show X65 []=[] from rfl] at hL;rw[hL];exact⟨_,rfl,by simp⟩
  |some sd =>
   rw[hr] at hL;obtain⟨st,hL,hc⟩:=hL;simp only[List.length_nil] at hL;rw[show X65 []=[] from rfl] at hL;rw[hL];have hn:=Xgy l [] sd hr;simp only[List.length_nil,Nat.zero_add] at hn;simp only[Yo];by_cases hz:sd.length=0
   ·have:sd=[]:=List.eq_nil_of_length_eq_zero hz;subst this;have:=hc.zero;subst this;exact⟨_,rfl,by simp⟩
   ·obtain⟨q,st0,hq,g1,g2,g3,hc0,rfl⟩:=hc.inv om;have hg:sd.getLast?=some q:=by rw[List.getLast?_eq_getElem?];exact hq
    rw[hg];simp only;have hst:(((st0++[X7x (sd.length - 1) q]).length:Int)==1)=decide (q.1=l.length):=by
     rw[Bool.eq_iff_iff];simp only[List.length_append,List.length_singleton,beq_iff_eq,decide_eq_true_eq];constructor
     ·intro h;have h1:st0.length=0:=by omega
      by_cases hk:sd.length - q.1=0
      ·omega
      ·obtain⟨_,s1,_,_,_,_,_,rfl⟩:=hc0.inv om;simp at h1
     ·intro h;rw[show sd.length - q.1=0 by omega] at hc0;rw[hc0.zero];rfl
    rw[hst];by_cases he:q.1=l.length
    ·rw[Yt he,if_pos he];simp only[Bool.not_true,cond_false];rw[show IntKind.i64.wrap (((X65 sd).length:Int) - 1)=((sd.length - 1:Nat):Int) by rw[Xqf,Xin om om]];rw[Xqg hq,Yo];by_cases hd:q.2>20
     ·rw[if_pos hd,show decide ((X7x (sd.length - 1) q).depth>20)=true from Yt (by unfold X7x;simp only;omega)];exact⟨_,rfl,by simp⟩
     ·rw[if_neg hd,show decide ((X7x (sd.length - 1) q).depth>20)=false from Yf (by unfold X7x;simp only;omega)];exact⟨_,rfl,λ_=>⟨sd,rfl,rfl⟩⟩
    ·rw[Yf he,if_neg he];exact⟨_,rfl,by simp⟩
theorem Xa5 {l:List X05} (h0:∀ x∈l,0<=x.Kind):X4y l=some (Xbl l):=by
 obtain⟨t,h,_⟩:=Xjb h0;unfold X4y;rw[h];rfl
def szs (sd:List (Nat×Nat)):List Int:=sd.map λq=>(q.1:Int)
def dps (sd:List (Nat×Nat)):List Int:=sd.map λq=>(q.2:Int)
theorem Xni {sd:List (Nat×Nat)} {i:Nat} {q:Nat×Nat} (h:sd[i]?=some q):X1o (szs sd) (i:Int)=some (q.1:Int):=by
 rw[X32];unfold szs;rw[List.getElem?_map,h];rfl
theorem Xp3 {sd:List (Nat×Nat)} {i:Nat} {q:Nat×Nat} (h:sd[i]?=some q):X1o (dps sd) (i:Int)=some (q.2:Int):=by
 rw[X32];unfold dps;rw[List.getElem?_map,h];rfl
theorem Xvv (Y : List X05) : ∀ (xs : List X05) (sd : List (Nat × Nat)), sd.length + xs.length <= 1000 -> (∀ j q, sd[j]? = some q -> 1 <= q.1 /\ q.1 <= j + 1 /\ q.2 <= q.1) ->
    match Xjy xs sd with
    |some sd'=>X1f Y xs sd.length (szs sd) (dps sd)=some (.x0 (szs sd') (dps sd'))
    |none=>X1f Y xs sd.length (szs sd) (dps sd)=some (.x1 [] []):=by
  intro xs
  induction xs with
  |nil=>intro sd _ _;rfl
  |cons x xs ih =>
    intro sd hn hb;simp only[List.length_cons] at hn;rw[X1f];have go : ∀ (q : Nat × Nat), nst sd x = some q -> 1 <= q.1 -> q.1 <= sd.length + 1 -> q.2 <= q.1 ->
        (match Xjy (x::xs) sd with
          |some sd'=>X1f Y xs (sd.length+1) (szs sd++[(q.1:Int)]) (dps sd++[(q.2:Int)])=some (.x0 (szs sd') (dps sd'))
          |none=>X1f Y xs (sd.length+1) (szs sd++[(q.1:Int)]) (dps sd++[(q.2:Int)])=some (.x1 [] [])):=by
      intro q hq g1 g2 g3
      have:=ih (sd++[q]) (by simp;omega) (λj q' hj=>by
        rw[List.getElem?_append] at hj;split at hj
        · exact hb j q' hj
        · rename_i hlt
          have:j=sd.length:=by
            have:=(Ys.1 hj).1;simp at this;omega
          subst this
          simp at hj;subst hj;exact⟨g1,g2,g3⟩)
      rw[List.length_append] at this;unfold Xjy;rw[hq];unfold szs dps at this ⊢;rw[List.map_append,List.map_append] at this;exact this
    have stop:nst sd x=none->∀ {o:Option X4d},o=some (.x1 [] [])->(match Xjy (x::xs) sd with
          |some sd'=>o=some (.x0 (szs sd') (dps sd'))
          |none=>o=some (.x1 [] [])):=by
      intro hq o h;unfold Xjy;rw[hq];exact h
    have cap:∀ (l:List Int) (t:Int),l.length<=2000->X1v (List.length (l++[t])) 8=some ():=λl t hl=>X2o (by simp;omega);have hls:(szs sd).length<=2000:=by unfold szs;simp;omega
    have hld:(dps sd).length<=2000:=by unfold dps;simp;omega
    unfold Xb2;by_cases h4:x.Kind<=4
    · rw[Yt h4,cond_true]
      simp only[Yo];rw[show decide ((0:Int)>0)=false from rfl,cond_false,Xkl,Yo];by_cases hok:okN x 0 0
      · rw[Yt hok,Bool.not_true,cond_false,cap _ _ hls,cap _ _ hld]
        exact go (1,1) (by unfold nst;rw[if_pos h4,if_pos hok]) (Nat.le_refl _) om (Nat.le_refl _)
      · rw[Yf hok,Bool.not_false,cond_true]
        exact stop (by unfold nst;rw[if_pos h4,if_neg hok]) rfl
    · rw[Yf h4,cond_false]
      have hgl:0<sd.length->∃ q,sd.getLast?=some q/\sd[sd.length - 1]?=some q:=by
        intro h;refine⟨sd[sd.length - 1]' om,?_,?_⟩
        · rw[List.getLast?_eq_getElem?];exact Ye _
        · exact Ye _
      by_cases hl:sd.length=0
      · have hnil:=List.eq_nil_of_length_eq_zero hl
        refine stop (by unfold nst;rw[if_neg h4,hnil];rfl) ?_;rw[hl];by_cases h6:x.Kind<=6
        · rw[Yt h6];rfl
        · rw[Yf h6];rfl
      · obtain⟨q,hq1,hq⟩:=hgl om
        obtain⟨g1,g2,g3⟩:=hb _ _ hq;have hw:IntKind.i64.wrap ((sd.length:Int) - 1)=((sd.length - 1:Nat):Int):=Xin om om;rw[hw];rw[show decide (((sd.length - 1:Nat):Int)<0)=false from Yf om,Xni hq,Xp3 hq];simp only[cond_false];by_cases h6:x.Kind<=6
        · rw[Yt h6,cond_true]
          simp only[Yo];rw[show decide ((1:Int)>0)=true from rfl,cond_true,show((1:Int)==2)=false from rfl,cond_false,Xkl,Yo];rw[show((sd.length - 1:Nat):Int)=(sd.length:Int) - 1 by omega];by_cases hok:okN x ((sd.length:Int) - 1) 0
          · rw[Yt hok,Bool.not_true,cond_false,cap _ _ hls,cap _ _ hld]
            rw[X0g om om,X0g om om];have:=go (1+q.1,1+q.2) (by unfold nst;rw[if_neg h4,hq1];simp only;rw[if_pos h6,if_pos hok]) (by simp only;omega) (by simp only;omega) (by simp only;omega);simp only at this
            push_cast at this
            exact this
          · rw[Yf hok,Bool.not_false,cond_true]
            exact stop (by unfold nst;rw[if_neg h4,hq1];simp only;rw[if_pos h6,if_neg hok]) rfl
        · rw[Yf h6,cond_false]
          simp only[Yo];rw[show decide ((2:Int)>0)=true from rfl,cond_true,show((2:Int)==2)=true from rfl,cond_true];have hw2:IntKind.i64.wrap (((sd.length - 1:Nat):Int) - q.1)=(sd.length:Int) - 1 - q.1:=by rw[X0g om om];omega
          rw[hw2];by_cases hlt:sd.length - 1<q.1
          · rw[show decide ((sd.length:Int) - 1 - q.1<0)=true from Yt om,cond_true]
            exact stop (by unfold nst;rw[if_neg h4,hq1];simp only;rw[if_neg h6,if_pos hlt]) rfl
          · rw[show decide ((sd.length:Int) - 1 - q.1<0)=false from Yf om,cond_false]
            have hpe:sd[sd.length - 1 - q.1]?=some (sd[sd.length - 1 - q.1]' om):=Ye _;generalize sd[sd.length - 1 - q.1]' om=p at hpe;obtain⟨f1,f2,f3⟩:=hb _ _ hpe;rw[show(sd.length:Int) - 1 - q.1=((sd.length - 1 - q.1:Nat):Int) by omega,Xni hpe,Xp3 hpe];simp only[Yo];rw[Xkl,Yo];rw[show((sd.length - 1 - q.1:Nat):Int)=(sd.length:Int) - 1 - q.1 by omega,show((sd.length - 1:Nat):Int)=(sd.length:Int) - 1 by omega];by_cases hok:okN x ((sd.length:Int) - 1 - q.1) ((sd.length:Int) - 1)
            · rw[Yt hok,Bool.not_true,cond_false,cap _ _ hls,cap _ _ hld]
              rw[X0g (z:=1+(q.1:Int)) om om,X0g (z:=1+(q.1:Int)+p.1) om om,X0g om om,X0g om om];have:=go (1+q.1+p.1,max (1+q.2) (1+p.2)) (by unfold nst;rw[if_neg h4,hq1];simp only;rw[if_neg h6,if_neg hlt,hpe];simp only;rw[if_pos hok]) (by simp only;omega) (by simp only;omega) (by simp only;omega);simp only at this;rw[show((1+q.1+p.1:Nat):Int)=1+(q.1:Int)+p.1 by omega,show((max (1+q.2) (1+p.2):Nat):Int)=(if 1+(p.2:Int)>1+q.2 then 1+(p.2:Int) else 1+q.2) by split<;>omega] at this;exact this
            · rw[Yf hok,Bool.not_false,cond_true]
              exact stop (by unfold nst;rw[if_neg h4,hq1];simp only;rw[if_neg h6,if_neg hlt,hpe];simp only;rw[if_neg hok]) rfl
theorem Xa4 {l:List X05}:X47 l=some (Xbl l):=by
 unfold X47 Xbl;by_cases h60:l.length>60
 ·rw[Yt (show(l.length:Int)>60 by omega),cond_true,if_pos h60]
 ·rw[Yf (show ¬ (l.length:Int)>60 by omega),cond_false,if_neg h60];have hL:=Xvv l l [] (by simp;omega) (by simp);unfold Xb1;rw[X2n om]
  cases hr:Xjy l [] with
  |none =>
   rw[hr] at hL;simp only[List.length_nil] at hL;rw[show szs []=[] from rfl,show dps []=[] from rfl] at hL;rw[Yo,hL];rfl
  |some sd =>
   rw[hr] at hL;simp only[List.length_nil] at hL;rw[show szs []=[] from rfl,show dps []=[] from rfl] at hL;rw[Yo,hL];have hn:=Xgy l [] sd hr;simp only[List.length_nil,Nat.zero_add] at hn;simp only[Yo];by_cases hz:l.length=0
   ·rw[List.eq_nil_of_length_eq_zero (hn.trans hz),List.eq_nil_of_length_eq_zero hz];rfl
   ·have hq:sd[sd.length - 1]?=some (sd[sd.length - 1]' om):=Ye _;generalize sd[sd.length - 1]' om=q at hq;have hg:sd.getLast?=some q:=by rw[List.getLast?_eq_getElem?];exact hq
    rw[hg];have hw:IntKind.i64.wrap ((l.length:Int) - 1)=((sd.length - 1:Nat):Int):=by rw[<-hn];exact Xin om om
    rw[show decide ((l.length:Int)>0)=true from Yt om,cond_true,hw,Xni hq];simp only[Yo,cond_true];rw[Xp3 hq];by_cases he:q.1=l.length
    ·rw[if_pos he,show((q.1:Int)==(l.length:Int))=true by rw[he];simp,Bool.not_true,cond_false];by_cases hd:q.2>20
     ·rw[if_pos hd,Yo,Yt (show(q.2:Int)>20 by omega)];rfl
     ·rw[if_neg hd,Yo,Yf (show ¬ (q.2:Int)>20 by omega)];rfl
    ·rw[if_neg he,show((q.1:Int)==(l.length:Int))=false by simp;omega,Bool.not_false,cond_true]
end Go.D


namespace Go.D
theorem X01i {sd:List (Nat×Nat)} {x:X05} {q:Nat×Nat} (h:nst sd x=some q):∃ a b,okN x a b/\(x.Kind<=4->a=0/\b=0)/\(5<=x.Kind->0<sd.length/\(x.Kind<=6->a=(sd.length:Int) - 1/\b=0)/\(7<=x.Kind->0<=a/\a<=(sd.length:Int) - 1/\b=(sd.length:Int) - 1)):=by
 unfold nst at h;split at h
 ·rename_i h4;split at h
  ·rename_i ho;exact⟨0,0,ho,λ_=>⟨rfl,rfl⟩,λh5=>by omega⟩
  ·cases h
 ·rename_i h4;split at h
  ·cases h
  ·rename_i s2 d2 hg;have hl:0<sd.length:=by
    cases sd with
    |nil=>cases hg
    |cons=>simp
   split at h
   ·rename_i h6;split at h
    ·rename_i ho;exact⟨_,_,ho,λh4'=>absurd h4' h4,λ_=>⟨hl,λ_=>⟨rfl,rfl⟩,λh7=>by omega⟩⟩
    ·cases h
   ·rename_i h6;split at h
    ·cases h
    ·rename_i hlt;split at h
     ·cases h
     ·split at h
      ·rename_i ho;exact⟨_,_,ho,λh4'=>absurd h4' h4,λ_=>⟨hl,λh6'=>absurd h6' h6,λ_=>⟨by omega,by omega,rfl⟩⟩⟩
      ·cases h
structure Xn5 (x:X05) (k:Nat):Prop where
 lo:1<=x.Kind
 hi:x.Kind<=19
 leaf:x.Kind<=4->x.A=0/\x.B=0
 a0:0<=x.A
 b0:0<=x.B
 ak:5<=x.Kind->x.A<k
 b1:5<=x.Kind->x.Kind<=6->x.B=0
 bk:5<=x.Kind->x.B<k
 n0:0<=x.N
 nk:x.N=0\/x.Kind=1
 at0:0<=x.At
 at1:x.At<=400
theorem Xsy:∀ (xs:List X05) (sd sd':List (Nat×Nat)),Xjy xs sd=some sd'->∀ j x,xs[j]?=some x->Xn5 x (sd.length+j)
 |[],sd,sd',h,j,x,hj=>by simp at hj
 |y::ys,sd,sd',h,j,x,hj=>by
  unfold Xjy at h;split at h
  ·rename_i q hq
   cases j with
   |zero =>
    simp at hj;subst hj;obtain⟨a,b,ho,h4,h5⟩:=X01i hq;obtain⟨o1,o2,o3,o4,o5,o6,rfl,rfl⟩:=ho;refine⟨o1,o2,h4,?_,?_,?_,?_,?_,o3,o4,o5,o6⟩;all_goals
     by_cases h4':y.Kind<=4
     ·have:=h4 h4';omega
     ·have h5':=h5 om;by_cases h6:y.Kind<=6
      ·have:=h5'.2.1 h6;omega
      ·have:=h5'.2.2 om;omega
   |succ j =>
    have:=Xsy ys _ _ h j x (by simpa using hj);rw[List.length_append,List.length_singleton] at this;rw[show sd.length+(j+1)=sd.length+1+j by omega];exact this
  ·cases h
def giv (K:Int):Bool:=(K==6)||decide (12<=K)
theorem Xl7 (K:Int):X5z K=some (giv K):=by
 unfold X5z giv;congr 1
def X2v (l:List X05) (i:Int):Int:=match X1o l i with|some e=>e.Kind|none=>0
def Xlp (l:List X05) (x:X05):Bool :=
 if x.Kind<=4 then true
 else if x.Kind=5 then !(giv (X2v l x.A))
 else if x.Kind=6 then giv (X2v l x.A)
 else if x.Kind<=15 then !(giv (X2v l x.A))&&!(giv (X2v l x.B))
 else if x.Kind<=17 then (giv (X2v l x.A))==(giv (X2v l x.B))
 else giv (X2v l x.A)&&giv (X2v l x.B)
def wrN (l:List X05):List X05->Nat->Option Nat
 |[],_=>none
 |x::xs,k=>if Xlp l x then wrN l xs (k+1) else some k
theorem Xmp {α:Type} {l:List α} {i:Int} (h0:0<=i) (h1:i<l.length):∃ e,X1o l i=some e/\l[i.toNat]?=some e:=by
 obtain⟨n,rfl⟩:∃ n:Nat,i=n:=⟨i.toNat,by omega⟩;exact⟨l[n]' om,by rw[X32];exact Ye _,by simp⟩
theorem Xb8 {l:List X05} {i:Int} (h0:0<=i) (h1:i<l.length):∃ e,X1o l i=some e/\X2v l i=e.Kind:=by
 obtain⟨e,h,_⟩:=Xmp h0 h1;exact⟨e,h,by unfold X2v;rw[h]⟩
theorem Xzt {l:List X05} {x:X05} {k:Nat} (hk:l[k]?=some x) (ho:Xn5 x k):Xaj l (k:Int)=some (Xlp l x):=by
 have hlt:=(Ys.1 hk).1;have hA:x.A<l.length:=by
  by_cases h:x.Kind<=4
  ·have:=(ho.leaf h).1;omega
  ·have:=ho.ak om;omega
 have hB:x.B<l.length:=by
  by_cases h:x.Kind<=4
  ·have:=(ho.leaf h).2;omega
  ·have:=ho.bk om;omega
 obtain⟨a,ha,hka⟩:=Xb8 ho.a0 hA;obtain⟨b,hb,hkb⟩:=Xb8 ho.b0 hB;unfold Xaj Xlp;rw[X32,hk,Yo,ha,Yo,hb,Xl7,Yo,Yo,Xl7,Yo,hka,hkb];have h1:=ho.lo;have h2:=ho.hi;by_cases h4:x.Kind<=4
 ·rw[if_pos h4,Yt h4];rfl
 ·rw[if_neg h4,Yf h4,cond_false];by_cases h5:x.Kind=5
  ·rw[if_pos h5,show(x.Kind==5)=true by simp[h5]];rfl
  ·rw[if_neg h5,show(x.Kind==5)=false by simp[h5],cond_false];by_cases h6:x.Kind=6
   ·rw[if_pos h6,show(x.Kind==6)=true by simp[h6]];rfl
   ·rw[if_neg h6,show(x.Kind==6)=false by simp[h6],cond_false];by_cases h15:x.Kind<=15
    ·rw[if_pos h15,show(bif (x.Kind==16) then true else (x.Kind==17))=false by rw[show(x.Kind==16)=false by simp;omega,show(x.Kind==17)=false by simp;omega];rfl,Yf (show ¬ x.Kind >= 18 by omega)];cases giv a.Kind<;>cases giv b.Kind<;>rfl
    ·rw[if_neg h15];by_cases h17:x.Kind<=17
     ·rw[if_pos h17,show(bif (x.Kind==16) then true else (x.Kind==17))=true by rcases(by omega:x.Kind=16\/x.Kind=17) with h|h<;>simp[h]];rfl
     ·rw[if_neg h17,show(bif (x.Kind==16) then true else (x.Kind==17))=false by rw[show(x.Kind==16)=false by simp;omega,show(x.Kind==17)=false by simp;omega];rfl,Yt (show x.Kind >= 18 by omega)];cases giv a.Kind<;>cases giv b.Kind<;>rfl
theorem Xpc {l:List X05} (ho:∀ j x,l[j]?=some x->Xn5 x j):∀ (xs:List X05) (k:Nat),l.drop k=xs->X3l l xs k=some (match wrN l xs k with|none=>.x0|some j=>.x1 (j:Int))
 |[],k,_=>rfl
 |x::xs,k,h=>by
  have hk:l[k]?=some x:=by
   have:(l.drop k)[0]?=some x:=by rw[h];rfl
   simpa using this
  have hd:l.drop (k+1)=xs:=by
   have:(l.drop k).drop 1=xs:=by rw[h];rfl
   rw[List.drop_drop] at this;exact this
  rw[X3l,Xzt hk (ho k x hk),Yo,wrN]
  cases Xlp l x with
  |true=>exact Xpc ho xs (k+1) hd
  |false=>rfl
def gvs (l:List X05) (k:Nat):List Bool:=(l.take k).map λe=>giv e.Kind
theorem Xoy {l:List X05} {k:Nat} (hk:k<=l.length) {i:Int} (h0:0<=i) (h1:i<k):X1o (gvs l k) i=some (giv (X2v l i)):=by
 obtain⟨e,he,hke⟩:=Xb8 (l:=l) h0 om;have hi:(i.toNat:Int)=i:=by omega
 rw[hke,<-hi,X32];rw[<-hi,X32] at he;unfold gvs;rw[List.getElem?_map,List.getElem?_take_of_lt om,he];rfl
theorem Xpz {l:List X05} {k:Nat} {x:X05} (hk:l[k]?=some x):gvs l (k+1)=gvs l k++[giv x.Kind]:=by
 unfold gvs;rw[List.take_add_one,hk,List.map_append];rfl
theorem Xs9 {l:List X05} (hn:l.length<=1000) (ho:∀ j x,l[j]?=some x->Xn5 x j):∀ (xs:List X05) (k:Nat),l.drop k=xs->X1l l xs k (gvs l k)=some (match wrN l xs k with|none=>.x0 (gvs l l.length)|some j=>.x1 [] (j:Int))
 |[],k,h=>by
  have:l.length<=k:=by
   have:=congrArg List.length h;simp at this;omega
  rw[X1l,wrN];unfold gvs;rw[List.take_of_length_le this,List.take_length]
 |x::xs,k,h=>by
  have hk:l[k]?=some x:=by
   have:(l.drop k)[0]?=some x:=by rw[h];rfl
   simpa using this
  have hd:l.drop (k+1)=xs:=by
   have:(l.drop k).drop 1=xs:=by rw[h];rfl
   rw[List.drop_drop] at this;exact this
  have hlt:=(Ys.1 hk).1;have hox:=ho k x hk;have ih:=Xs9 hn ho xs (k+1) hd;have h1:=hox.lo;have h2:=hox.hi;have cap:∀ b,X1v (List.length (gvs l k++[b])) 1=some ():=λb=>X2o (by unfold gvs;simp;omega);have go:giv x.Kind=false->Xlp l x=true->X1l l xs (k+1) (gvs l k++[false])=some (match wrN l (x::xs) k with|none=>.x0 (gvs l l.length)|some j=>.x1 [] (j:Int)):=by
   intro g f;rw[wrN,f,if_pos rfl,<-ih,Xpz hk,g]
  have go':giv x.Kind=true->Xlp l x=true->X1l l xs (k+1) (gvs l k++[true])=some (match wrN l (x::xs) k with|none=>.x0 (gvs l l.length)|some j=>.x1 [] (j:Int)):=by
   intro g f;rw[wrN,f,if_pos rfl,<-ih,Xpz hk,g]
  have stop:Xlp l x=false->(some (.x1 [] (k:Int)):Option X50)=some (match wrN l (x::xs) k with|none=>.x0 (gvs l l.length)|some j=>.x1 [] (j:Int)):=by
   intro f;rw[wrN,f];rfl
  rw[X1l];by_cases h4:x.Kind<=4
  ·rw[Yt h4,cond_true,cap,Yo];exact go (by unfold giv;simp;omega) (by unfold Xlp;rw[if_pos h4])
  ·rw[Yf h4,cond_false];have hA:X1o (gvs l k) x.A=some (giv (X2v l x.A)):=Xoy om hox.a0 (hox.ak om);have hB:X1o (gvs l k) x.B=some (giv (X2v l x.B)):=Xoy om hox.b0 (hox.bk om);by_cases h5:x.Kind=5
   ·have hf:Xlp l x=!(giv (X2v l x.A)):=by unfold Xlp;rw[if_neg h4,if_pos h5]
    rw[show(x.Kind==5)=true by simp[h5],cond_true,hA]
    cases hg:giv (X2v l x.A) with
    |true=>exact stop (by rw[hf,hg];rfl)
    |false =>
     show(X1v (List.length (gvs l k++[false])) 1).bind _=_;rw[cap,Yo];exact go (by unfold giv;simp[h5]) (by rw[hf,hg];rfl)
   ·rw[show(x.Kind==5)=false by simp[h5],cond_false];by_cases h6:x.Kind=6
    ·have hf:Xlp l x=giv (X2v l x.A):=by unfold Xlp;rw[if_neg h4,if_neg h5,if_pos h6]
     rw[show(x.Kind==6)=true by simp[h6],cond_true,hA]
     cases hg:giv (X2v l x.A) with
     |false=>exact stop (by rw[hf,hg])
     |true =>
      show(X1v (List.length (gvs l k++[true])) 1).bind _=_;rw[cap,Yo];exact go' (by unfold giv;simp[h6]) (by rw[hf,hg])
    ·rw[show(x.Kind==6)=false by simp[h6],cond_false];have lok:X5a (List.length [x.A,x.B])=some ():=X2n (by simp);by_cases h15:x.Kind<=15
     ·have hf:Xlp l x=(!(giv (X2v l x.A))&&!(giv (X2v l x.B))):=by unfold Xlp;rw[if_neg h4,if_neg h5,if_neg h6,if_pos h15]
      by_cases h11:x.Kind<=11
      ·have hgx:giv x.Kind=false:=by unfold giv;simp;omega
       rw[Yt h11,cond_true,Yo,lok];simp only[X0b,hA,hB];generalize giv (X2v l x.A)=p at hf;generalize giv (X2v l x.B)=r at hf;cases p<;>cases r
       ·show(X1v (List.length (gvs l k++[false])) 1).bind _=_;rw[cap,Yo];exact go hgx hf
       all_goals exact stop hf
      ·have hgx:giv x.Kind=true:=by unfold giv;simp;omega
       rw[Yf h11,cond_false,Yt h15,cond_true,Yo,lok];simp only[X0b,hA,hB];generalize giv (X2v l x.A)=p at hf;generalize giv (X2v l x.B)=r at hf;cases p<;>cases r
       ·show(X1v (List.length (gvs l k++[true])) 1).bind _=_;rw[cap,Yo];exact go' hgx hf
       all_goals exact stop hf
     ·rw[Yf (show ¬ x.Kind<=11 by omega),cond_false,Yf h15,cond_false];have hgx:giv x.Kind=true:=by unfold giv;simp;omega
      by_cases h17:x.Kind<=17
      ·have hf:Xlp l x=((giv (X2v l x.A))==(giv (X2v l x.B))):=by unfold Xlp;rw[if_neg h4,if_neg h5,if_neg h6,if_neg h15,if_pos h17]
       rw[Yt h17,cond_true,Yo,lok];simp only[X0b,X0d,hA,hB];generalize giv (X2v l x.A)=p at hf;generalize giv (X2v l x.B)=r at hf;cases p<;>cases r
       ·show(X1v (List.length (gvs l k++[true])) 1).bind _=_;rw[cap,Yo];exact go' hgx hf
       ·exact stop hf
       ·exact stop hf
       ·show(X1v (List.length (gvs l k++[true])) 1).bind _=_;rw[cap,Yo];exact go' hgx hf
      ·have hf:Xlp l x=((giv (X2v l x.A))&&(giv (X2v l x.B))):=by unfold Xlp;rw[if_neg h4,if_neg h5,if_neg h6,if_neg h15,if_neg h17]
       rw[Yf h17,cond_false,Yo,lok];simp only[X0b,X0d,hA,hB];generalize giv (X2v l x.A)=p at hf;generalize giv (X2v l x.B)=r at hf;cases p<;>cases r
       ·exact stop hf
       ·exact stop hf
       ·exact stop hf
       ·show(X1v (List.length (gvs l k++[true])) 1).bind _=_;rw[cap,Yo];exact go' hgx hf
end Go.D


namespace Go.D
theorem Xxv (a b:Int):a<b\/b<=a:=by omega
theorem Xt0 {α:Type} {l:List α} (h:l.Nodup):l.reverse.Nodup:=by
 unfold List.Nodup at *;rw[List.pairwise_reverse];exact h.imp λh=>Ne.symm h
def okT (t:Int):Prop := -1099511627776<=t/\t<=1099511627776
def okW (w:X0l):Prop:=1<=w.Size/\w.Size<=1073741824/\((w.Kind=2/\1<=w.Every/\w.Every<=w.Size/\w.Size<=16*w.Every)\/((w.Kind=1\/w.Kind=3)/\w.Every=0))
theorem X3w {w:X0l} (h:okW w):X14 w=some 0:=by
 obtain⟨h1,h2,h3⟩:=h;have e1:decide (w.Size<1)=false:=by simp;omega
 have e2:decide (w.Size>1073741824)=false:=by simp;omega
 simp only[X14,e1,e2,cond_false];rcases h3 with ⟨k,a1,a2,a3⟩|⟨k|k,a⟩
 ·have e3:(w.Kind==2)=true:=by simp[k]
  have e4:decide (w.Every >= 1)=true:=by simp;omega
  have e5:decide (w.Every<=w.Size)=true:=by simp;omega
  have e6:decide (w.Size<=IntKind.i64.wrap (16*w.Every))=true:=by rw[X0g om om];simp;omega
  simp only[e3,e4,e5,e6,cond_true]
 ·have e3:(w.Kind==2)=false:=by simp[k]
  have e4:(w.Kind==1)=true:=by simp[k]
  have e5:(w.Every==0)=true:=by simp[a]
  simp only[e3,e4,e5,cond_true,cond_false]
 ·have e3:(w.Kind==2)=false:=by simp[k]
  have e4:(w.Kind==1)=false:=by simp[k]
  have e6:(w.Kind==3)=true:=by simp[k]
  have e5:(w.Every==0)=true:=by simp[a]
  simp only[e3,e4,e5,e6,cond_true,cond_false]
theorem Xbx {t size:Int} (ht:okT t) (h1:1<=size) (h2:size<=1073741824):Xad t size=some (⟨t / size*size,t / size*size+size⟩,0):=by
 obtain⟨t1,t2⟩:=ht;have e1:decide (size<1)=false:=by simp;omega
 have e2:decide (size>1073741824)=false:=by simp;omega
 have e3:decide (t < -1099511627776)=false:=by simp;omega
 have e4:decide (t>1099511627776)=false:=by simp;omega
 have hm:=Int.mul_ediv_add_emod t size;have hm1:=Int.emod_nonneg t (show size≠0 by omega);have hm2:=Int.emod_lt_of_pos t (show 0<size by omega);have q1 : -1099511627776<=t / size:=by
  rcases Xxv (t / size) (-1099511627776) with h|h
  ·exfalso;have:size*(t / size)<=size*(-1099511627777):=Int.mul_le_mul_of_nonneg_left om om;omega
  ·exact h
 have q2:t / size<=1099511627776:=by
  rcases Xxv 1099511627776 (t / size) with h|h
  ·exfalso;have:size*1099511627777<=size*(t / size):=Int.mul_le_mul_of_nonneg_left om om;omega
  ·exact h
 have hn:X6e t size=some (t / size,0):=by
  simp only[X6e,X9o,e1,e2,e3,e4,cond_false,Yo,bne_self_eq_false];have hd:Xu2 size=some ():=by unfold Xu2;rw[if_pos om]
  rw[hd,Yo];have htm:=Int.tmod_add_mul_tdiv t size;by_cases hneg:Int.tmod t size<0
  ·have e5:decide (Int.tmod t size<0)=true:=by simp[hneg]
   rw[e5,cond_true,Yo];have hq:Int.tdiv t size - 1=t / size:=by
    have h3:Int.tdiv t size=t / size+if 0<=t\/size ∣ t then 0 else size.sign:=Int.tdiv_eq_ediv;have h4:¬ (0<=t\/size ∣ t):=by
     rintro(h|h)
     ·have:=Int.tmod_nonneg size h;omega
     ·have:=Int.tmod_eq_zero_of_dvd h;omega
    rw[if_neg h4,Int.sign_eq_one_of_pos om] at h3;omega
   have e6:IntKind.i64.wrap (Int.tdiv t size)=Int.tdiv t size:=X0g om om;rw[e6,hq,X0g om om]
  ·have e5:decide (Int.tmod t size<0)=false:=by simp;omega
   rw[e5,cond_false,Yo];have hq:Int.tdiv t size=t / size:=by
    have h3:Int.tdiv t size=t / size+if 0<=t\/size ∣ t then 0 else size.sign:=Int.tdiv_eq_ediv;by_cases h4:0<=t\/size ∣ t
    ·rw[if_pos h4] at h3;omega
    ·exfalso;rw[if_neg h4,Int.sign_eq_one_of_pos om] at h3;rw[h3,Int.mul_add,Int.mul_one] at htm;omega
   rw[hq,X0g om om]
 simp only[Xad,hn,Yo,bne_self_eq_false,cond_false];have e7:t / size*size=size*(t / size):=Int.mul_comm _ _;have e8:IntKind.i64.wrap (t / size+1)=t / size+1:=X0g om om;have e9:(t / size+1)*size=size*(t / size)+size:=by rw[Int.add_mul,e7];omega
 rw[e8,e9,e7,X0g om om,X0g om om]
def Xar (t size every:Int):Nat->Int->List X04
 |0,_=>[]
 |K+1,s=>if s+size>t then ⟨s,s+size⟩::Xar t size every K (s - every) else []
theorem Xvu {t size every:Int} (ht:okT t) (h1:1<=every) (h2:every<=size) (h3:size<=1073741824):∀ (K f:Nat) (acc:List X04) (s:Int),s<=t -> -1200000000000+K*1073741824<=s->s+size - t<=K*every->K<f->acc.length+K<=1000000 ->
  X4v t size every f acc s=some (.x0 (acc++Xar t size every K s)):=by
 obtain⟨t1,t2⟩:=ht;intro K
 induction K with
 |zero =>
  intro f acc s hs hl hK hf ha
  cases f with
  |zero=>omega
  |succ f =>
   rw[X4v];simp only[Int.natCast_zero,Int.zero_mul] at hK hl;have:decide (IntKind.i64.wrap (s+size)>t)=false:=by rw[X0g om om];simp;omega
   rw[this,cond_false];simp[Xar]
 |succ K ih =>
  intro f acc s hs hl hK hf ha
  cases f with
  |zero=>omega
  |succ f =>
   rw[X4v];have e0:((K+1:Nat):Int)*every=K*every+every:=by rw[Int.natCast_add,Int.natCast_one,Int.add_mul,Int.one_mul]
   have e00:((K+1:Nat):Int)*1073741824=K*1073741824+1073741824:=by omega
   have e1:IntKind.i64.wrap (s+size)=s+size:=X0g om om;rw[e1];by_cases hgt:s+size>t
   ·have:decide (s+size>t)=true:=by simpa using hgt
    rw[this,cond_true,X2o (by simp;omega),Yo];have e2:IntKind.i64.wrap (s - every)=s - every:=X0g om om;rw[e2,ih f _ _ om om om om (by simp;omega)];rw[Xar,if_pos hgt];simp
   ·have:decide (s+size>t)=false:=by simpa using hgt
    rw[this,cond_false,Xar,if_neg hgt];simp
theorem Xnj (back:List X04) (hb:back.length<=1000):∀ (k f:Nat) (acc:List X04),k<=back.length->k<f->acc.length+k<=1000000 ->
  X2y back f acc ((k:Int) - 1)=some (.x0 (acc++(back.take k).reverse) back):=by
 intro k
 induction k with
 |zero =>
  intro f acc _ hf _
  cases f with
  |zero=>omega
  |succ f =>
   rw[X2y];simp
 |succ k ih =>
  intro f acc hk hf ha
  cases f with
  |zero=>omega
  |succ f =>
   rw[X2y];have e1:(((k+1:Nat):Int) - 1)=(k:Int):=by omega
   rw[e1];have e2:decide ((k:Int) >= 0)=true:=by simp
   rw[e2,cond_true,X32,Ye om,Yo,X2o (by simp;omega),Yo];rw[X0g om om,ih f _ om om (by simp;omega)];rw[List.take_add_one,Ye om];simp only[Option.toList_some,List.reverse_append,List.reverse_cons,List.reverse_nil,List.nil_append,List.append_assoc,List.cons_append]
theorem Xn1 (t size every:Int):∀ (K:Nat) (s:Int),(Xar t size every K s).length<=K:=by
 intro K
 induction K with
 |zero=>intro s;simp[Xar]
 |succ K ih=>intro s;rw[Xar];split<;>simp;exact ih _
theorem Xxg (t size every:Int) (h:1<=every):∀ (K:Nat) (s:Int),∀ x∈Xar t size every K s,x.Start<=s:=by
 intro K
 induction K with
 |zero=>intro s x hx;simp[Xar] at hx
 |succ K ih =>
  intro s x hx;rw[Xar] at hx;split at hx
  ·rcases List.mem_cons.1 hx with rfl|hx
   ·exact Int.le_refl _
   ·have:=ih _ x hx;omega
  ·simp at hx
theorem Xp8 (t size every:Int) (h:1<=every):∀ (K:Nat) (s:Int),(Xar t size every K s).Nodup:=by
 intro K
 induction K with
 |zero=>intro s;simp[Xar]
 |succ K ih =>
  intro s;rw[Xar];split
  ·rw[List.nodup_cons];exact⟨λhx=>by have:=Xxg t size every h K _ _ hx;simp at this;omega,ih _⟩
  ·exact List.nodup_nil
theorem Xuj (t size every:Int):∀ (K:Nat) (s:Int),s+size - t<=K*every->0<=every->∀ x:X04,x∈Xar t size every K s↔∃ j:Nat,x.Start=s - j*every/\x.End=x.Start+size/\t<x.End:=by
 intro K
 induction K with
 |zero =>
  intro s hK he x;simp only[Int.natCast_zero,Int.zero_mul] at hK;simp only[Xar,List.not_mem_nil,false_iff,not_exists,not_and];intro j h1 h2;have:(0:Int)<=j*every:=Int.mul_nonneg om he;omega
 |succ K ih =>
  intro s hK he x;have e0:((K+1:Nat):Int)*every=K*every+every:=by rw[Int.natCast_add,Int.natCast_one,Int.add_mul,Int.one_mul]
  rw[Xar];by_cases hgt:s+size>t
  ·rw[if_pos hgt,List.mem_cons,ih (s - every) om he x];constructor
   ·rintro(rfl|⟨j,h1,h2,h3⟩)
    ·exact⟨0,by simp,rfl,hgt⟩
    ·refine⟨j+1,?_,h2,h3⟩;have:((j+1:Nat):Int)*every=j*every+every:=by rw[Int.natCast_add,Int.natCast_one,Int.add_mul,Int.one_mul]
     omega
   ·rintro⟨j,h1,h2,h3⟩
    cases j with
    |zero=>left;apply Xgx;simp at h1;exact h1;simp at h1;show x.End=s+size;omega
    |succ j =>
     right;have:((j+1:Nat):Int)*every=j*every+every:=by rw[Int.natCast_add,Int.natCast_one,Int.add_mul,Int.one_mul]
     exact⟨j,by omega,h2,h3⟩
  ·rw[if_neg hgt];simp only[List.not_mem_nil,false_iff,not_exists,not_and];intro j h1 h2;have:(0:Int)<=j*every:=Int.mul_nonneg om he;omega
theorem Xmk {t size every:Int} (h1:1<=every) (x:X04):Xml size every t x↔∃ j:Nat,x.Start=t / every*every - j*every/\x.End=x.Start+size/\t<x.End:=by
 have hm:=Int.mul_ediv_add_emod t every;have hm1:=Int.emod_nonneg t (show every≠0 by omega);have hm2:=Int.emod_lt_of_pos t (show 0<every by omega);have hc:t / every*every=every*(t / every):=Int.mul_comm _ _;unfold Xml inS;constructor
 ·rintro⟨a1,a2,a3,a4⟩;have hx:=Int.mul_ediv_add_emod x.Start every;rw[a1,Int.add_zero] at hx;have hle:x.Start / every<=t / every:=by
   rcases Xxv (t / every) (x.Start / every) with h|h
   ·exfalso;have:every*(t / every+1)<=every*(x.Start / every):=Int.mul_le_mul_of_nonneg_left om om;rw[Int.mul_add,Int.mul_one] at this;omega
   ·exact h
  refine⟨(t / every - x.Start / every).toNat,?_,a2,a4⟩;have e1:(((t / every - x.Start / every).toNat:Nat):Int)=t / every - x.Start / every:=Int.toNat_of_nonneg om;rw[e1,Int.sub_mul,Int.mul_comm (x.Start / every)];omega
 ·rintro⟨j,a1,a2,a3⟩;have hj:(0:Int)<=j*every:=Int.mul_nonneg om om;refine⟨?_,a2,by omega,a3⟩;rw[a1,<-Int.sub_mul];exact Int.mul_emod_left _ _
theorem Xhk {w:X0l} {t:Int} (hw:okW w) (hk:w.Kind≠3) (ht:okT t):∃ W,Xdt w t=some (W,0)/\W.length<=16/\W.Nodup/\∀ s,s∈W↔Xml w.Size (Xda w) t s:=by
 have hcw:=X3w hw;obtain⟨w1,w2,w3⟩:=hw;have ht':=ht;obtain⟨t1,t2⟩:=ht;unfold Xdt;rw[hcw,Yo];rcases w3 with ⟨k,a1,a2,a3⟩|⟨k|k,a⟩
 ·have e1:(w.Kind==1)=false:=by simp[k]
  have e2:(w.Kind==2)=true:=by simp[k]
  have e3:Xda w=w.Every:=by unfold Xda;rw[if_neg om]
  simp only[bne_self_eq_false,cond_false,e1,e2,cond_true];have hm:=Int.mul_ediv_add_emod t w.Every;have hm1:=Int.emod_nonneg t (show w.Every≠0 by omega);have hm2:=Int.emod_lt_of_pos t (show 0<w.Every by omega);have hc:t / w.Every*w.Every=w.Every*(t / w.Every):=Int.mul_comm _ _;have hall:Xc0 t w.Size w.Every=some ((Xar t w.Size w.Every 16 (t / w.Every*w.Every)).reverse,0):=by
   unfold Xc0;have b1:decide ((if w.Every<w.Size then w.Every else w.Size)<1)=false:=by simp;split<;>omega
   have b2:decide (w.Size>1073741824)=false:=by simp;omega
   have b3:decide (w.Every>w.Size)=false:=by simp;omega
   have b4:decide (w.Size>IntKind.i64.wrap (16*w.Every))=false:=by rw[X0g om om];simp;omega
   simp only[b1,b2,b3,b4,cond_false,Xbx ht' a1 om,Yo,bne_self_eq_false];have hL:=Xvu ht' a1 a2 w2 16 FU [] (t / w.Every*w.Every) om om om (by unfold FU;omega) (by simp);rw[hL,Yo];simp only[List.nil_append];have hlen:=Xn1 t w.Size w.Every 16 (t / w.Every*w.Every);rw[X0g om om];have hR:=Xnj (Xar t w.Size w.Every 16 (t / w.Every*w.Every)) om (Xar t w.Size w.Every 16 (t / w.Every*w.Every)).length FU [] (Nat.le_refl _) (by unfold FU;omega) (by simp;omega);rw[hR,Yo];simp
  rw[hall,Yo];refine⟨_,rfl,by rw[List.length_reverse];exact Xn1 ..,Xt0 (Xp8 t w.Size w.Every a1 _ _),λs=>?_⟩;rw[List.mem_reverse,e3,Xmk a1,Xuj t w.Size w.Every 16 _ om om]
 ·have e1:(w.Kind==1)=true:=by simp[k]
  have e3:Xda w=w.Size:=by unfold Xda;rw[if_pos k]
  simp only[bne_self_eq_false,cond_false,e1,cond_true,Xbx ht' w1 w2,Yo];refine⟨_,rfl,by simp,by simp,λs=>?_⟩;rw[List.mem_singleton,e3,Xmk w1];have hm:=Int.mul_ediv_add_emod t w.Size;have hm1:=Int.emod_nonneg t (show w.Size≠0 by omega);have hm2:=Int.emod_lt_of_pos t (show 0<w.Size by omega);have hc:t / w.Size*w.Size=w.Size*(t / w.Size):=Int.mul_comm _ _;constructor
  ·rintro rfl;exact⟨0,by simp,rfl,by show t<t / w.Size*w.Size+w.Size;omega⟩
  ·rintro⟨j,h1,h2,h3⟩;have hj:(j:Int)=0:=by
    rcases Xxv 0 (j:Int) with h|h
    ·exfalso;have:(1:Int)*w.Size<=j*w.Size:=Int.mul_le_mul_of_nonneg_right om om;omega
    ·omega
   rw[hj,Int.zero_mul] at h1;exact Xgx (by show s.Start=t / w.Size*w.Size;omega) (by show s.End=t / w.Size*w.Size+w.Size;omega)
 ·exact absurd k hk
end Go.D


namespace Go.D
def kOf (l:List X05):Bool×Int×Int :=
 if Xbl l≠0 then (false,0,Xbl l)
 else match wrN l l 0 with
  |some j=>(false,(j:Int),42)
  |none=>(giv (X2v l ((l.length:Int) - 1)),(l.length:Int) - 1,0)
theorem Xhy {l:List X05} (h:Xbl l=0):l.length<=60/\1<=l.length/\∃ sd,Xjy l []=some sd:=by
 unfold Xbl at h;split at h
 ·cases h
 ·split at h
  ·cases h
  ·rename_i sd hr;have hn:=Xgy l [] sd hr;simp only[List.length_nil,Nat.zero_add] at hn;split at h
   ·cases h
   ·rename_i q hq;have:1<=sd.length:=by
     cases sd with
     |nil=>cases hq
     |cons=>simp
    exact⟨by omega,by omega,sd,hr⟩
theorem Xjz {l:List X05} (h:Xbl l=0):∀ j x,l[j]?=some x->Xn5 x j:=by
 obtain⟨_,_,sd,hr⟩:=Xhy h;intro j x hj;have:=Xsy l [] sd hr j x hj;simpa using this
theorem Xpd (l:List X05):∀ (xs:List X05) (k j:Nat),wrN l xs k=some j->k<=j/\j<k+xs.length
 |[],k,j,h=>by cases h
 |x::xs,k,j,h=>by
  unfold wrN at h;split at h
  ·have:=Xpd l xs (k+1) j h;simp only[List.length_cons];omega
  ·cases h;simp only[List.length_cons];omega
theorem Xo3 {l:List X05} (h0:∀ x∈l,0<=x.Kind):Xe7 l=some (kOf l):=by
 unfold Xe7 kOf;rw[Xa5 h0,Yo];by_cases hz:Xbl l=0
 ·obtain⟨h60,h1,_⟩:=Xhy hz;rw[if_neg om,hz,show((0:Int) != 0)=false from rfl,cond_false];unfold Xcr;rw[X2n om,Yo];have ht:=Xs9 om (Xjz hz) l 0 rfl;rw[show gvs l 0=[] from by unfold gvs;simp] at ht;rw[ht]
  cases hw:wrN l l 0 with
  |some j =>
   have:=(Xpd l l 0 j hw).2;simp only[Yo];rw[Yt (show(j:Int)<(l.length:Int) by omega)];rfl
  |none =>
   simp only[Yo];rw[Yf (show ¬ (l.length:Int)<(l.length:Int) by omega),cond_false,X0g om om,Xoy (Nat.le_refl _) om om];rfl
 ·rw[if_pos hz,show(Xbl l != 0)=true by simp[hz]];rfl
theorem Xnn {l:List X05}:Xdy l=some (kOf l):=by
 unfold Xdy kOf;rw[Xa4,Yo];by_cases hz:Xbl l=0
 ·obtain⟨h60,h1,_⟩:=Xhy hz;rw[if_neg om,hz,show((0:Int) != 0)=false from rfl,cond_false];unfold Xb0;rw[X2n om,Yo,Xpc (Xjz hz) l 0 rfl]
  cases hw:wrN l l 0 with
  |some j =>
   have:=(Xpd l l 0 j hw).2;simp only[Yo];rw[Yt (show(j:Int)<(l.length:Int) by omega)];rfl
  |none =>
   simp only[Yo];obtain⟨e,he,hk⟩:=Xb8 (l:=l) (i:=(l.length:Int) - 1) om om;rw[Yf (show ¬ (l.length:Int)<(l.length:Int) by omega),cond_false,X0g om om,he,Yo,Xl7,hk];rfl
 ·rw[if_pos hz,show(Xbl l != 0)=true by simp[hz]];rfl
def X2u (l:List X05) (b:Bool):Int×Int :=
 if (kOf l).2.2=0/\(kOf l).1≠b then ((kOf l).2.1,42) else ((kOf l).2.1,(kOf l).2.2)
theorem Xe6 {l:List X05} {b:Bool} (h0:∀ x∈l,0<=x.Kind):X8q l b=some (X2u l b):=by
 unfold X8q X2u;rw[Xo3 h0,Yo];by_cases hz:(kOf l).2.2=0
 ·rw[hz,show((0:Int)==0)=true from rfl,cond_true];cases hb:(kOf l).1<;>cases b<;>simp
 ·rw[show((kOf l).2.2==0)=false by simp[hz],cond_false,cond_false,if_neg (λh=>hz h.1)];rfl
theorem Xdx {l:List X05} {b:Bool}:X7f l b=some (X2u l b):=by
 unfold X7f X2u;rw[Xnn,Yo];by_cases hz:(kOf l).2.2=0
 ·rw[hz,show((0:Int)==0)=true from rfl,cond_true];cases hb:(kOf l).1<;>cases b<;>simp
 ·rw[show((kOf l).2.2==0)=false by simp[hz],cond_false,cond_false,if_neg (λh=>hz h.1)]
def Xpi (s:List Int) (j:Bool):Bool:=s.length==0||(j&&s.length != 2)||s.any λx=>decide (x<0)||decide (x>3)
def X6h (s:List Int) (j:Bool):Int :=
 if s.length>4 then 4 else if Xpi s j then 8 else if s.Nodup then 0 else 43
theorem Xm5 (Y:List Int):∀ (xs:List Int) (k:Nat),∃ o,X0n Y xs k=some o/\((xs.any λx=>decide (x<0)||decide (x>3))=true->∃ j:Nat,o=.x1 (j:Int))/\((xs.any λx=>decide (x<0)||decide (x>3))=false->o=.x0)
 |[],k=>⟨.x0,rfl,by simp,λ_=>rfl⟩
 |x::xs,k=>by
  obtain⟨o,h1,h2,h3⟩:=Xm5 Y xs (k+1);rw[X0n];unfold X5g;rw[Yo];by_cases hx:x<0\/x>3
  ·have:(bif decide (x<0) then true else decide (x >= 4))=true:=by
    rcases hx with h|h
    ·rw[Yt h];rfl
    ·rw[Yf om,Yt om];rfl
   rw[this];refine⟨_,rfl,λ_=>⟨k,rfl⟩,λh=>?_⟩;exfalso;simp only[List.any_cons,Bool.or_eq_false_iff,decide_eq_false_iff_not] at h;omega
  ·have:(bif decide (x<0) then true else decide (x >= 4))=false:=by
    rw[Yf om,Yf om];rfl
   rw[this];refine⟨o,h1,λh=>h2 ?_,λh=>h3 ?_⟩
   ·rw[List.any_cons,Yf om,Yf om] at h;exact h
   ·rw[List.any_cons,Yf om,Yf om] at h;exact h
theorem Xp6 {s:List Int} (hn:s.length<=1000):Xv s=some (s.any λx=>decide (x<0)||decide (x>3)):=by
 unfold Xv X0m;rw[X2n om,Yo];obtain⟨o,h1,h2,h3⟩:=Xm5 s s 0;rw[h1]
 cases hb:(s.any λx=>decide (x<0)||decide (x>3)) with
 |true=>obtain⟨j,rfl⟩:=h2 hb;simp
 |false=>rw[h3 hb];rfl
end Go.D


namespace Go.D
def X05c:Int := -9223372036854775808
end Go.D


namespace Go.D
theorem Xu3:∀ (xs ks:List Int),(X7s ks xs).length<=ks.length+xs.length/\((X7s ks xs).length=ks.length+xs.length↔xs.Nodup/\∀ x∈xs,x ∉ ks):=by
 intro xs
 induction xs with
 |nil=>intro ks;simp[X7s]
 |cons x xs ih =>
  intro ks;rw[X7s];unfold Xij;by_cases hm:x∈ks
  ·rw[if_pos hm];have:=ih ks;refine⟨by have:=this.1;simp only[List.length_cons];omega,⟨λh=>?_,λh=>?_⟩⟩
   ·have:=this.1;simp only[List.length_cons] at h;omega
   ·exact absurd hm (h.2 x List.mem_cons_self)
  ·rw[if_neg hm];have:=ih (ks++[x]);rw[List.length_append,List.length_singleton] at this;refine⟨by have:=this.1;simp only[List.length_cons];omega,?_⟩;rw[show ks.length+(x::xs).length=ks.length+1+xs.length by simp only[List.length_cons];omega,this.2];constructor
   ·rintro⟨h1,h2⟩;refine⟨List.nodup_cons.2 ⟨λhx=>h2 x hx (by simp),h1⟩,?_⟩;intro y hy;rcases List.mem_cons.1 hy with rfl|hy
    ·exact hm
    ·exact λhk=>h2 y hy (by simp[hk])
   ·rintro⟨h1,h2⟩;refine⟨(List.nodup_cons.1 h1).2,λy hy hk=>?_⟩;rcases List.mem_append.1 hk with hk|hk
    ·exact h2 y (List.mem_cons_of_mem _ hy) hk
    ·simp at hk;subst hk;exact(List.nodup_cons.1 h1).1 hy
theorem Xp4 {s:List Int} (hn:s.length<=1000):∃ v,X2t s=some v/\decide (v<(s.length:Int))=!(decide s.Nodup):=by
 unfold X2t;rw[X2n om];refine⟨_,rfl,?_⟩;have h:=Xu3 s [];simp only[List.length_nil,Nat.zero_add,List.not_mem_nil,not_false_eq_true,implies_true,and_true] at h;by_cases hd:s.Nodup
 ·rw[Yt hd,h.2.2 hd];simp
 ·rw[Yf hd];have:(X7s [] s).length≠s.length:=λe=>hd (h.2.1 e);have:=h.1;simp;omega
theorem Xej (s:List Int) (j:Bool):X24 s j=some (X6h s j):=by
 unfold X24 X6h Xpi;by_cases h4:s.length>4
 ·rw[if_pos h4,Yt (show(s.length:Int)>4 by omega)];rfl
 ·rw[if_neg h4,Yf (show ¬ (s.length:Int)>4 by omega),cond_false];obtain⟨v,hv,hd⟩:=Xp4 (s:=s) om;rw[Xp6 om,hv];simp only[Yo];rw[hd];have e0:((s.length:Int)==0)=(s.length==0):=by rw[Bool.eq_iff_iff];simp
  have e2:((s.length:Int) != 2)=(s.length != 2):=by rw[Bool.eq_iff_iff];simp;omega
  rw[e0,e2];generalize (s.any λx=>decide (x<0)||decide (x>3))=b;generalize (s.length==0)=z;generalize (s.length != 2)=t;by_cases hn:s.Nodup<;>cases z<;>cases t<;>cases j<;>cases b<;>simp[hn]
theorem Xfv (Y:List Int):∀ (xs:List Int) (k:Nat),X2q Y xs k=some (bif (xs.any λx=>decide (x<0)||decide (x>3)) then .x1 else .x0)
 |[],k=>rfl
 |x::xs,k=>by
  rw[X2q,Xfv Y xs (k+1),List.any_cons];cases decide (x<0)<;>cases decide (x>3)<;>rfl
theorem Xm9 (s:List Int) (i:Nat) (hi:i<s.length) (hs:s.length<=1000):∀ (m n j:Nat),m=i - j->m<n->∃ o,X2p s (i:Int) n (j:Int)=some o/\(o=.x0↔∃ j',j<=j'/\j'<i/\s[j']?=s[i]?):=by
 intro m
 induction m with
 |zero =>
  intro n j hm hn
  cases n with
  |zero=>omega
  |succ n =>
   rw[X2p,Yf (show ¬ (j:Int)<(i:Int) by omega)];exact⟨.x1,rfl,⟨λh=>(by cases h),λ⟨j',h1,h2,_⟩=>by omega⟩⟩
 |succ m ih =>
  intro n j hm hn
  cases n with
  |zero=>omega
  |succ n =>
   rw[X2p,Yt (show(j:Int)<(i:Int) by omega),cond_true,show X1o s (j:Int)=some (s[j]' om) by rw[X32];exact Ye _,show X1o s (i:Int)=some (s[i]'hi) by rw[X32];exact Ye _];simp only[Yo];by_cases he:s[j]=s[i]
   ·refine⟨.x0,?_,⟨λ_=>⟨j,Nat.le_refl _,by omega,by rw[Ye (show j<s.length by omega),Ye hi,he]⟩,λ_=>rfl⟩⟩;rw[show(s[j]==s[i])=true by simp[he]];rfl
   ·rw[show(s[j]==s[i])=false by simp[he],cond_false,X0g om om];obtain⟨o,h1,h2⟩:=ih n (j+1) om om;refine⟨o,by rw[show(j:Int)+1=((j+1:Nat):Int) by omega];exact h1,h2.trans ⟨λ⟨j',a,b,c⟩=>⟨j',by omega,b,c⟩,λ⟨j',a,b,c⟩=>?_⟩⟩;by_cases hj:j'=j
    ·subst hj;rw[Ye (show j'<s.length by omega),Ye hi] at c;exact absurd (Option.some.inj c) he
    ·exact⟨j',by omega,b,c⟩
theorem Xfu (s:List Int) (hs:s.length<=1000):∀ (xs:List Int) (k:Nat),s.drop k=xs->(s.take k).Nodup->X2a s xs k=some (if s.Nodup then .x0 else .x1)
 |[],k,h,hd=>by
  have:s.length<=k:=by
   have:=congrArg List.length h;simp at this;omega
  rw[List.take_of_length_le this] at hd;rw[X2a,if_pos hd]
 |x::xs,k,h,hd=>by
  have hk:s[k]?=some x:=by
   have:(s.drop k)[0]?=some x:=by rw[h];rfl
   simpa using this
  have hdr:s.drop (k+1)=xs:=by
   have:(s.drop k).drop 1=xs:=by rw[h];rfl
   rw[List.drop_drop] at this;exact this
  have hlt:=(Ys.1 hk).1;rw[X2a];obtain⟨o,h1,h2⟩:=Xm9 s k hlt hs (k - 0) FU 0 rfl (by unfold FU;omega);rw[show((0:Nat):Int)=0 from rfl] at h1;rw[h1,Yo]
  cases o with
  |x0 =>
   obtain⟨j,_,hj,he⟩:=h2.1 rfl;have:¬ s.Nodup:=λhn=>by
    have:=(List.getElem?_inj (by omega:j<s.length) hn).1 he;omega
   rw[if_neg this]
  |x1 =>
   have hno:¬ ∃ j',0<=j'/\j'<k/\s[j']?=s[k]?:=λh=>by have:=h2.2 h;cases this
   refine Xfu s hs xs (k+1) hdr ?_;rw[List.take_add_one,hk];simp only[Option.toList_some];rw[List.nodup_append];refine⟨hd,by simp,λa ha b hb=>?_⟩;simp at hb;subst hb;intro e;subst e;obtain⟨j,hj,e⟩:=List.getElem_of_mem ha;simp at hj;refine hno ⟨j,Nat.zero_le _,by omega,?_⟩;rw[hk,<-e,List.getElem_take,Ye]
theorem Xgm (s:List Int) (j:Bool):X6n s j=some (X6h s j):=by
 unfold X6n X6h Xpi;by_cases h4:s.length>4
 ·rw[if_pos h4,Yt (show(s.length:Int)>4 by omega)];rfl
 ·rw[if_neg h4,Yf (show ¬ (s.length:Int)>4 by omega),cond_false,X2n om,Xfv,Xfu s om s 0 rfl (by simp)];have e0:((s.length:Int)==0)=(s.length==0):=by rw[Bool.eq_iff_iff];simp
  have e2:((s.length:Int) != 2)=(s.length != 2):=by rw[Bool.eq_iff_iff];simp;omega
  rw[e0,e2];generalize (s.any λx=>decide (x<0)||decide (x>3))=b;generalize (s.length==0)=z;generalize (s.length != 2)=t;by_cases hn:s.Nodup<;>cases z<;>cases t<;>cases j<;>cases b<;>simp[hn]
instance (w:X0l):Decidable (okW w):=by unfold okW;infer_instance
theorem Xy1 (w:X0l) (hE:w.Every<=9223372036854775807 /\ -9223372036854775808<=w.Every):X7e w=some (decide (okW w))/\X14 w=some (if okW w then 0 else 8):=by
 by_cases hw:okW w
 ·refine⟨?_,by rw[if_pos hw];exact X3w hw⟩;rw[Yt hw];obtain⟨h1,h2,h3⟩:=hw;unfold X7e;rw[Yf (show ¬ w.Size<1 by omega),Yf (show ¬ w.Size>1073741824 by omega)];rcases h3 with ⟨k,a1,a2,a3⟩|⟨k|k,a⟩
  ·rw[show(w.Kind==2)=true by simp[k],Yt a1,Yt a2,X0g om om,Yt a3];rfl
  ·rw[show(w.Kind==2)=false by simp[k],show(w.Kind==1)=true by simp[k],show(w.Every==0)=true by simp[a]];rfl
  ·rw[show(w.Kind==2)=false by simp[k],show(w.Kind==3)=true by simp[k],show(w.Every==0)=true by simp[a],show(w.Kind==1)=false by simp[k]];rfl
 ·rw[if_neg hw,Yf hw];by_cases hs:w.Size<1\/w.Size>1073741824
  ·have:(bif decide (w.Size<1) then true else decide (w.Size>1073741824))=true:=by
    rcases hs with h|h
    ·rw[Yt h];rfl
    ·rw[Yf om,Yt h];rfl
   constructor
   ·unfold X7e;rw[this];rfl
   ·unfold X14;rw[this];rfl
  ·have:(bif decide (w.Size<1) then true else decide (w.Size>1073741824))=false:=by
    rw[Yf om,Yf om];rfl
   unfold X7e X14;rw[this,cond_false,cond_false];by_cases k2:w.Kind=2
   ·rw[show(w.Kind==2)=true by simp[k2],cond_true,cond_true];have:(bif (bif decide (w.Every >= 1) then decide (w.Every<=w.Size) else false) then decide (w.Size<=IntKind.i64.wrap (16*w.Every)) else false)=false:=by
     by_cases g1:w.Every >= 1
     ·by_cases g2:w.Every<=w.Size
      ·rw[Yt g1,Yt g2,X0g om om,Yf];rfl;intro g3;exact hw ⟨by omega,by omega,.inl ⟨k2,g1,g2,g3⟩⟩
      ·rw[Yt g1,Yf g2];rfl
     ·rw[Yf g1];rfl
    rw[this];exact⟨rfl,rfl⟩
   ·rw[show(w.Kind==2)=false by simp[k2],cond_false,cond_false];by_cases k1:w.Kind=1
    ·have:w.Every≠0:=λh=>hw ⟨by omega,by omega,.inr ⟨.inl k1,h⟩⟩;rw[show(w.Kind==1)=true by simp[k1],show(w.Every==0)=false by simp[this]];exact⟨rfl,rfl⟩
    ·by_cases k3:w.Kind=3
     ·have:w.Every≠0:=λh=>hw ⟨by omega,by omega,.inr ⟨.inr k3,h⟩⟩;rw[show(w.Kind==1)=false by simp[k1],show(w.Kind==3)=true by simp[k3],show(w.Every==0)=false by simp[this]];exact⟨rfl,rfl⟩
     ·rw[show(w.Kind==1)=false by simp[k1],show(w.Kind==3)=false by simp[k3]];exact⟨rfl,rfl⟩
end Go.D


namespace Go.D
def Xrx (q:X08):Int :=
 if q.Agg<1\/q.Agg>4\/(q.Late≠1/\q.Late≠2) then 8
 else if q.Agg=1/\0<q.Arg.length then 8
 else if q.Agg≠1/\Xbl q.Arg≠0 then Xbl q.Arg
 else if 0<q.Where.length/\Xbl q.Where≠0 then Xbl q.Where
 else if X6h q.Sources q.Join≠0 then X6h q.Sources q.Join
 else if q.Join=true/\q.Window.Kind≠1 then 8
 else if okW q.Window then 0 else 8
structure QW (q:X08):Prop where
 arg:∀ x∈q.Arg,0<=x.Kind
 wher:∀ x∈q.Where,0<=x.Kind
 ev:q.Window.Every<=9223372036854775807 /\ -9223372036854775808<=q.Window.Every
theorem Xrl {a b:Int} (h:¬ a=b):(a != b)=true:=by simp[h]
theorem lz {n:Nat} (h:0<n):((n:Int)==0)=false:=by simp;omega
theorem lz' {n:Nat} (h:¬ 0<n):((n:Int)==0)=true:=by simp;omega
theorem Xyd {q:X08} (hq:QW q):((X24 q.Sources q.Join).bind λv10=>bif (v10 != (0:Int)) then (some v10) else (bif (bif q.Join then (q.Window.Kind != (1:Int)) else false) then (some 8) else ((X14 q.Window).bind λv14=>some v14)))=some (if X6h q.Sources q.Join≠0 then X6h q.Sources q.Join
 else if q.Join=true/\q.Window.Kind≠1 then 8
 else if okW q.Window then 0 else 8):=by
 rw[Xej,Yo,(Xy1 q.Window hq.ev).2];by_cases h:X6h q.Sources q.Join=0
 ·rw[h];by_cases hj:q.Join=true
  ·by_cases hk:q.Window.Kind=1
   ·simp[hj,hk]
   ·simp[hj,hk,Xrl hk]
  ·simp[hj]
 ·simp[h,Xrl h]
theorem Xgt {q:X08} (hq:QW q):X6x q=some (Xrx q):=by
 unfold X6x Xrx;rw[Xyd hq,Xa5 hq.arg,Xa5 hq.wher];generalize (if X6h q.Sources q.Join≠0 then X6h q.Sources q.Join else if q.Join=true/\q.Window.Kind≠1 then 8 else if okW q.Window then 0 else 8)=T;have e1:(bif (bif (decide (q.Agg<(1:Int))) then true else (decide (q.Agg>(4:Int)))) then true else (bif (q.Late != (1:Int)) then (q.Late != (2:Int)) else false))=decide (q.Agg<1\/q.Agg>4\/(q.Late≠1/\q.Late≠2)):=by
  rw[Bool.eq_iff_iff];by_cases h1:q.Agg<1<;>by_cases h2:q.Agg>4<;>by_cases h3:q.Late=1<;>by_cases h4:q.Late=2<;>simp[h1,h2,h3,h4]
 rw[e1];by_cases hA:(q.Agg<1\/q.Agg>4\/(q.Late≠1/\q.Late≠2))
 ·rw[if_pos hA,Yt hA];rfl
 ·rw[if_neg hA,Yf hA,cond_false];by_cases h1:q.Agg=1
  ·rw[show(q.Agg != 1)=false by simp[h1],cond_false];by_cases hl:0<q.Arg.length
   ·rw[Yt (show(q.Arg.length:Int)>0 by omega),if_pos ⟨h1,hl⟩];rfl
   ·rw[Yf (show ¬ (q.Arg.length:Int)>0 by omega),if_neg (λh=>hl h.2),if_neg (λh=>h.1 h1),cond_false];by_cases hw:0<q.Where.length
    ·rw[Yt (show(q.Where.length:Int)>0 by omega),cond_true,Yo];by_cases hz:Xbl q.Where=0
     ·rw[hz];simp
     ·rw[if_pos ⟨hw,hz⟩,show(Xbl q.Where != 0)=true by simp[hz]];rfl
    ·rw[Yf (show ¬ (q.Where.length:Int)>0 by omega),if_neg (λh=>hw h.1)];rfl
  ·rw[show(q.Agg != 1)=true by simp[h1],cond_true,if_neg (λh=>h1 h.1),Yo];by_cases hn:Xbl q.Arg=0
   ·rw[hn,if_neg (λh=>h.2 rfl),show((0:Int) != 0)=false from rfl,cond_false];by_cases hw:0<q.Where.length
    ·rw[Yt (show(q.Where.length:Int)>0 by omega),cond_true,Yo];by_cases hz:Xbl q.Where=0
     ·rw[hz];simp
     ·rw[if_pos ⟨hw,hz⟩,show(Xbl q.Where != 0)=true by simp[hz]];rfl
    ·rw[Yf (show ¬ (q.Where.length:Int)>0 by omega),if_neg (λh=>hw h.1)];rfl
   ·rw[if_pos ⟨h1,hn⟩,show(Xbl q.Arg != 0)=true by simp[hn]];rfl
theorem Xj9 {q:X08} (hq:QW q):X99 q=some (Xrx q):=by
 unfold X99 Xrx;rw[Xa4,Xa4,Xgm,(Xy1 q.Window hq.ev).1];have e1:(bif (bif (bif (decide (q.Agg<(1:Int))) then true else (decide (q.Agg>(4:Int)))) then true else (decide (q.Late<(1:Int)))) then true else (decide (q.Late>(2:Int))))=decide (q.Agg<1\/q.Agg>4\/(q.Late≠1/\q.Late≠2)):=by
  rw[Bool.eq_iff_iff];have g:(q.Late≠1/\q.Late≠2)↔(q.Late<1\/q.Late>2):=by omega
  rw[show decide (q.Agg<1\/q.Agg>4\/(q.Late≠1/\q.Late≠2))=decide (q.Agg<1\/q.Agg>4\/(q.Late<1\/q.Late>2)) from decide_eq_decide.2 (by rw[g])];by_cases h1:q.Agg<1<;>by_cases h2:q.Agg>4<;>by_cases h3:q.Late<1<;>by_cases h4:q.Late>2<;>simp[h1,h2,h3,h4]
 rw[e1]
 have tl:((some (X6h q.Sources q.Join)).bind λv29=>bif (v29 != (0:Int)) then (some v29) else ((some (decide (okW q.Window))).bind λv32=>bif (bif (!v32) then true else (bif q.Join then (q.Window.Kind != (1:Int)) else false)) then (some 8) else (some 0)))=some (if X6h q.Sources q.Join≠0 then X6h q.Sources q.Join
 else if q.Join=true/\q.Window.Kind≠1 then 8
 else if okW q.Window then 0 else 8):=by
  simp only[Yo];by_cases h:X6h q.Sources q.Join=0
  ·rw[h];by_cases hk:q.Window.Kind=1
   ·by_cases hj:q.Join=true<;>by_cases ho:okW q.Window<;>simp[hj,hk,ho]
   ·by_cases hj:q.Join=true<;>by_cases ho:okW q.Window<;>simp[hj,hk,ho,Xrl hk]
  ·simp[h,Xrl h]
 rw[tl];generalize (if X6h q.Sources q.Join≠0 then X6h q.Sources q.Join else if q.Join=true/\q.Window.Kind≠1 then 8 else if okW q.Window then 0 else 8)=T;by_cases hA:(q.Agg<1\/q.Agg>4\/(q.Late≠1/\q.Late≠2))
 ·rw[if_pos hA,Yt hA];rfl
 ·rw[if_neg hA,Yf hA,cond_false];have wh:((bif (decide ((List.length q.Where:Int)>(0:Int))) then ((some (Xbl q.Where)).bind λv23=>some (bif (decide ((List.length q.Where:Int)>(0:Int))) then (v23 != (0:Int)) else false)) else (some (bif (decide ((List.length q.Where:Int)>(0:Int))) then false else false)):Option (Bool)).bind λXmi=>bif Xmi then ((some (Xbl q.Where)).bind λv27=>some v27) else some T)=some (if 0<q.Where.length/\Xbl q.Where≠0 then Xbl q.Where else T):=by
   by_cases hw:0<q.Where.length
   ·rw[Yt (show(q.Where.length:Int)>0 by omega)];by_cases hz:Xbl q.Where=0
    ·rw[hz];simp
    ·rw[if_pos ⟨hw,hz⟩];simp[hz,Xrl hz]
   ·rw[Yf (show ¬ (q.Where.length:Int)>0 by omega),if_neg (λh=>hw h.1)];rfl
  rw[wh];generalize (if 0<q.Where.length/\Xbl q.Where≠0 then Xbl q.Where else T)=T2;by_cases h1:q.Agg=1
  ·rw[show(q.Agg==1)=true by simp[h1],show(q.Agg != 1)=false by simp[h1]];by_cases hl:0<q.Arg.length
   ·rw[Yt (show(q.Arg.length:Int)>0 by omega),if_pos ⟨h1,hl⟩];rfl
   ·rw[Yf (show ¬ (q.Arg.length:Int)>0 by omega),if_neg (λh=>hl h.2),if_neg (λh=>h.1 h1)];rfl
  ·rw[show(q.Agg==1)=false by simp[h1],show(q.Agg != 1)=true by simp[h1],if_neg (λh=>h1 h.1)];by_cases hn:Xbl q.Arg=0
   ·rw[hn,if_neg (λh=>h.2 rfl)];rfl
   ·rw[if_pos ⟨h1,hn⟩];simp[hn,Xrl hn]
def atOf (l:List X05) (i:Int):Int:=match X1o l i with|some e=>e.At|none=>0
theorem Xkr {l:List X05} {b:Bool} (h:0<l.length):∃ e,X1o l (X2u l b).1=some e/\atOf l (X2u l b).1=e.At:=by
 have hr:0<=(X2u l b).1/\(X2u l b).1<l.length:=by
  have:(X2u l b).1=(kOf l).2.1:=by unfold X2u;split<;>rfl
  rw[this];unfold kOf;split
  ·simp only;omega
  ·split
   ·rename_i j hj;have:=Xpd l l 0 j hj;simp only;omega
   ·simp only;omega
 obtain⟨e,he,_⟩:=Xmp hr.1 hr.2;exact⟨e,he,by unfold atOf;rw[he]⟩
def rt (q:X08):Int×Int :=
 if 0<q.Arg.length/\(X2u q.Arg false).2≠0 then (atOf q.Arg (X2u q.Arg false).1,(X2u q.Arg false).2)
 else if 0<q.Where.length/\(X2u q.Where true).2≠0 then (atOf q.Where (X2u q.Where true).1,(X2u q.Where true).2)
 else (0,0)
theorem Xpe (q:X08) (hw:0<q.Where.length):(bif ((X2u q.Where true).2 != (0:Int)) then ((X1o q.Where (X2u q.Where true).1).bind λe28=>some (e28.At,(X2u q.Where true).2)) else (some (0,0)))=some (if 0<q.Where.length/\(X2u q.Where true).2≠0 then (atOf q.Where (X2u q.Where true).1,(X2u q.Where true).2) else (0,0)):=by
 obtain⟨e,he,ha⟩:=Xkr (b:=true) hw;by_cases hz:(X2u q.Where true).2=0
 ·rw[if_neg (λh=>h.2 hz),show((X2u q.Where true).2 != 0)=false by simp[hz]];rfl
 ·rw[if_pos ⟨hw,hz⟩,show((X2u q.Where true).2 != 0)=true by simp[hz],he,ha];rfl
theorem Xj7 (q:X08):X97 q=some (rt q):=by
 unfold X97 rt;rw[Xdx,Xdx];simp only[Yo];have wh:(bif (decide ((List.length q.Where:Int)>(0:Int))) then (bif ((X2u q.Where true).2 != (0:Int)) then ((X1o q.Where (X2u q.Where true).1).bind λe28=>some (e28.At,(X2u q.Where true).2)) else (some (0,0))) else (some (0,0)))=some (if 0<q.Where.length/\(X2u q.Where true).2≠0 then (atOf q.Where (X2u q.Where true).1,(X2u q.Where true).2) else (0,0)):=by
  by_cases hw:0<q.Where.length
  ·rw[Yt (show(q.Where.length:Int)>0 by omega),cond_true,Xpe q hw]
  ·rw[Yf (show ¬ (q.Where.length:Int)>0 by omega),if_neg (λh=>hw h.1)];rfl
 rw[wh];by_cases ha:0<q.Arg.length
 ·rw[Yt (show(q.Arg.length:Int)>0 by omega),cond_true];obtain⟨e,he,hat⟩:=Xkr (b:=false) ha;by_cases hz:(X2u q.Arg false).2=0
  ·rw[if_neg (show ¬ (0<q.Arg.length/\(X2u q.Arg false).2≠0) from λh=>h.2 hz),show((X2u q.Arg false).2 != 0)=false by simp[hz],cond_false]
  ·rw[if_pos (show(0<q.Arg.length/\(X2u q.Arg false).2≠0) from⟨ha,hz⟩),show((X2u q.Arg false).2 != 0)=true by simp[hz],he,hat];rfl
 ·rw[Yf (show ¬ (q.Arg.length:Int)>0 by omega),if_neg (show ¬ (0<q.Arg.length/\(X2u q.Arg false).2≠0) from λh=>ha h.1),cond_false]
def Xss (q:X08):Int×Int:=if Xrx q≠0 then (0,Xrx q) else rt q
theorem Xj8 {q:X08} (hq:QW q):X98 q=some (Xss q):=by
 unfold X98 Xss;rw[Xj9 hq,Xj7,Yo];by_cases h:Xrx q=0
 ·rw[if_neg om,h];rfl
 ·rw[if_pos h,show(Xrx q != 0)=true by simp[h]];rfl
theorem Xim {q:X08} (hq:QW q):X7t q=some (Xss q):=by
 unfold X7t Xss;rw[Xgt hq,Yo];by_cases h:Xrx q=0
 ·rw[if_neg om,h,show((0:Int) != 0)=false from rfl,cond_false];unfold X9g X9t;rw[Xe6 hq.arg,Xe6 hq.wher];simp only[Yo];unfold rt;have wh:(bif ((List.length q.Where:Int)==(0:Int)) then (some (0,0)) else (bif ((X2u q.Where true).2 != (0:Int)) then ((X1o q.Where (X2u q.Where true).1).bind λe28=>some (e28.At,(X2u q.Where true).2)) else (some (0,0))))=some (if 0<q.Where.length/\(X2u q.Where true).2≠0 then (atOf q.Where (X2u q.Where true).1,(X2u q.Where true).2) else (0,0)):=by
   by_cases hw:0<q.Where.length
   ·rw[lz hw,cond_false,Xpe q hw]
   ·rw[lz' hw,if_neg (λh=>hw h.1)];rfl
  rw[wh];by_cases ha:0<q.Arg.length
  ·rw[lz ha,cond_false];obtain⟨e,he,hat⟩:=Xkr (b:=false) ha;by_cases hz:(X2u q.Arg false).2=0
   ·rw[if_neg (show ¬ (0<q.Arg.length/\(X2u q.Arg false).2≠0) from λh=>h.2 hz),show((X2u q.Arg false).2 != 0)=false by simp[hz],cond_false];rfl
   ·rw[if_pos (show(0<q.Arg.length/\(X2u q.Arg false).2≠0) from⟨ha,hz⟩),show((X2u q.Arg false).2 != 0)=true by simp[hz],he,hat];rfl
  ·rw[lz' ha,if_neg (show ¬ (0<q.Arg.length/\(X2u q.Arg false).2≠0) from λh=>ha h.1)];rfl
 ·rw[if_pos h,show(Xrx q != 0)=true by simp[h]];rfl
end Go.D


namespace Go.D
def X72 (p:Pu) (s:X04):X1:=⟨p.1.Key,s,⟨if p.2=0 then ofA p.1.Value else Xbm,if p.2=1 then ofA p.1.Value else Xbm⟩⟩
theorem X4s (L:List Pu) (p:Pu) (k:Int) (s:X04) (side:Int):vals (L++[p]) k s side=vals L k s side++(if p.1.Key=k/\inS s p.1.Time/\p.2=side then [p.1.Value] else []):=by
 unfold vals;rw[List.filter_append,List.map_append];congr 1
 by_cases h:p.1.Key=k/\inS s p.1.Time/\p.2=side
 ·rw[if_pos h,List.filter_cons_of_pos (by simpa using h)];rfl
 ·rw[if_neg h,List.filter_cons_of_neg (by simpa using h)];rfl
theorem X8f (L:List Pu) (p:Pu) (k t:Int):X73 (L++[p]) k t↔X73 L k t\/(p.1.Key=k/\p.1.Time=t):=by
 unfold X73;constructor
 ·rintro⟨q,hq,h⟩;rcases List.mem_append.1 hq with h1|h1
  ·exact .inl ⟨q,h1,h⟩
  ·rw[List.mem_singleton.1 h1] at h;exact .inr h
 ·rintro(⟨q,hq,h⟩|h)
  ·exact⟨q,List.mem_append_left _ hq,h⟩
  ·exact⟨p,by simp,h⟩
structure Xq9 (w:X0l) (L:List Pu):Prop where
 time:∀ p∈L,okT p.1.Time
 side:∀ p∈L,p.2=0\/p.2=1
 len:L.length<=240
theorem Xq9.init {w:X0l} {L:List Pu} {p:Pu} (h:Xq9 w (L++[p])):Xq9 w L:=⟨λq hq=>h.time q (List.mem_append_left _ hq),λq hq=>h.side q (List.mem_append_left _ hq),by have:=h.len;simp at this;omega⟩
theorem Xlw {L:List Pu} {k:Int} {s:X04} (h:∀ t,X73 L k t->¬ inS s t) (side:Int):vals L k s side=[]:=by
 unfold vals;rw[List.map_eq_nil_iff,List.filter_eq_nil_iff];intro p hp hc;simp only[decide_eq_true_eq] at hc;exact h p.1.Time ⟨p,hp,hc.1,rfl⟩ hc.2.1
theorem Xs5 {L:List Pu} {k t:Int} {s:X04} (hs:∀ p∈L,p.2=0\/p.2=1) (h:X73 L k t) (hi:inS s t):0<(vals L k s 0).length+(vals L k s 1).length:=by
 obtain⟨p,hp,hk,ht⟩:=h;rcases hs p hp with h0|h0
 ·have:p.1.Value∈vals L k s 0:=List.mem_map.2 ⟨p,List.mem_filter.2 ⟨hp,by simp[hk,h0,ht,hi]⟩,rfl⟩;have:=List.length_pos_of_mem this;omega
 ·have:p.1.Value∈vals L k s 1:=List.mem_map.2 ⟨p,List.mem_filter.2 ⟨hp,by simp[hk,h0,ht,hi]⟩,rfl⟩;have:=List.length_pos_of_mem this;omega
structure Mid (w:X0l) (L:List Pu) (p:Pu) (done:X04->Prop) (es:List X1):Prop where
 sorted:es.Pairwise ltE
 mem:∀ e,e∈es↔(e.Key=p.1.Key/\done e.Span/\e.Values=Xdb (L++[p]) e.Key e.Span)\/(¬ (e.Key=p.1.Key/\done e.Span)/\Xp1 w L e)
theorem Xu0 {L:List Pu} {p:Pu} {s:X04} (h:∀ t,X73 L p.1.Key t->¬ inS s t) (hi:inS s p.1.Time):Xdb (L++[p]) p.1.Key s=(X72 p s).Values:=by
 unfold Xdb X72;rw[X4s,X4s,Xlw h,Xlw h];simp only[List.nil_append];congr 1
 ·by_cases h0:p.2=0
  ·rw[if_pos ⟨trivial,hi,h0⟩,if_pos h0,Xd0]
  ·rw[if_neg (λhc=>h0 hc.2.2),if_neg h0,Xll]
 ·by_cases h0:p.2=1
  ·rw[if_pos ⟨trivial,hi,h0⟩,if_pos h0,Xd0]
  ·rw[if_neg (λhc=>h0 hc.2.2),if_neg h0,Xll]
theorem Xre {L:List Pu} {p:Pu} {s:X04} (hl:L.length<=1000000) (hi:inS s p.1.Time) :
  Xdb (L++[p]) p.1.Key s=⟨X3g (Xdb L p.1.Key s).e0 (X72 p s).Values.e0,X3g (Xdb L p.1.Key s).e1 (X72 p s).Values.e1⟩:=by
 have ok:∀ side,okA (Xcj (vals L p.1.Key s side)):=λside=>Xiq (Nat.le_trans (Xdo ..) om);unfold Xdb X72;rw[X4s,X4s];dsimp only;congr 1
 ·by_cases h0:p.2=0
  ·rw[if_pos ⟨rfl,hi,h0⟩,if_pos h0,Xci]
  ·rw[if_neg (λhc=>h0 hc.2.2),if_neg h0,List.append_nil,Xh1 (ok 0)]
 ·by_cases h0:p.2=1
  ·rw[if_pos ⟨rfl,hi,h0⟩,if_pos h0,Xci]
  ·rw[if_neg (λhc=>h0 hc.2.2),if_neg h0,List.append_nil,Xh1 (ok 1)]
theorem Mid.step {w:X0l} {L:List Pu} {p:Pu} {done:X04->Prop} {es:List X1} {s:X04} (hk:w.Kind≠3) (hl:L.length<=1000000) (m:Mid w L p done es) (hs:¬ done s) (hi:Xml w.Size (Xda w) p.1.Time s) :
  Mid w L p (λx=>done x\/x=s) (Xkp es (X72 p s)):=by
 have hin:inS s p.1.Time:=hi.2.2;have hkey:∀ e:X1,X4k e (X72 p s)↔e.Key=p.1.Key/\e.Span=s:=λe=>Iff.rfl;refine⟨Xhv m.sorted,λe=>?_⟩;rw[Xkn m.sorted];by_cases he:X4k e (X72 p s)
 ·have he2:=(hkey e).1 he;have hno:∀ y∈es,X4k y (X72 p s)->y=⟨p.1.Key,s,Xdb L p.1.Key s⟩/\Xdn w (X73 L p.1.Key) s:=by
   intro y hy hsy;have hy2:=(hkey y).1 hsy;rcases(m.mem y).1 hy with ⟨_,h2,_⟩|⟨_,h2,h3⟩
   ·exact absurd (hy2.2▸h2) hs
   ·rw[hy2.1,hy2.2] at h3 h2;refine⟨?_,h2⟩;cases y;simp only at hy2 h3;rw[hy2.1,hy2.2,h3]
  have hval:e.Values=Xdb (L++[p]) e.Key e.Span↔((e∈es/\¬ X4k e (X72 p s))\/(∃ y∈es,X4k y (X72 p s)/\e=Xk4 y (X72 p s))\/((∀ y∈es,¬ X4k y (X72 p s))/\e=X72 p s)):=by
   rw[he2.1,he2.2];by_cases hex:∃ y∈es,X4k y (X72 p s)
   ·obtain⟨y,hy,hsy⟩:=hex;obtain⟨hyv,hyw⟩:=hno y hy hsy;have hmg:Xk4 y (X72 p s)=⟨p.1.Key,s,Xdb (L++[p]) p.1.Key s⟩:=by rw[Xre hl hin,hyv];rfl
    constructor
    ·intro hv;refine .inr (.inl ⟨y,hy,hsy,?_⟩);rw[hmg];cases e;simp only at he2 hv;rw[he2.1,he2.2,hv]
    ·rintro(⟨_,h⟩|⟨y',hy',hsy',h⟩|⟨h,_⟩)
     ·exact absurd he h
     ·have:y'=y:=by rw[(hno y' hy' hsy').1,hyv]
      rw[h,this,hmg]
     ·exact absurd hsy (h y hy)
   ·have hex':∀ y∈es,¬ X4k y (X72 p s):=λy hy h=>hex ⟨y,hy,h⟩;have hnone:∀ t,X73 L p.1.Key t->¬ inS s t:=by
     intro t ht hst;have:(⟨p.1.Key,s,Xdb L p.1.Key s⟩:X1)∈es:=by
      rw[m.mem];refine .inr ⟨λh=>hs h.2,?_,rfl⟩;show Xdn w (X73 L p.1.Key) s;unfold Xdn;rw[if_neg hk];exact⟨t,ht,hi.1,hi.2.1,hst⟩
     exact hex' _ this ⟨rfl,rfl⟩
    have hvv:=Xu0 hnone hin;constructor
    ·intro hv;refine .inr (.inr ⟨hex',?_⟩);cases e;simp only at he2 hv;rw[he2.1,he2.2,hv,hvv];rfl
    ·rintro(⟨_,h⟩|⟨y',hy',hsy',_⟩|⟨_,h⟩)
     ·exact absurd he h
     ·exact absurd hsy' (hex' y' hy')
     ·rw[h,hvv]
  rw[<-hval];constructor
  ·intro h;exact .inl ⟨he2.1,.inr he2.2,h⟩
  ·rintro(⟨_,_,h⟩|⟨h,_⟩)
   ·exact h
   ·exact absurd ⟨he2.1,.inr he2.2⟩ h
 ·have hne:¬ (e.Key=p.1.Key/\e.Span=s):=λh=>he ((hkey e).2 h);constructor
  ·rintro(⟨h1,_⟩|⟨y,hy,hsy,h⟩|⟨_,h⟩)
   ·rcases(m.mem e).1 h1 with ⟨a1,a2,a3⟩|⟨a1,a2⟩
    ·exact .inl ⟨a1,.inl a2,a3⟩
    ·exact .inr ⟨λh=>a1 ⟨h.1,h.2.resolve_right λhh=>hne ⟨h.1,hh⟩⟩,a2⟩
   ·exact absurd (by rw[h];exact⟨hsy.1,hsy.2⟩) he
   ·exact absurd (by rw[h];exact⟨rfl,rfl⟩) he
  ·rintro(⟨a1,a2,a3⟩|⟨a1,a2⟩)
   ·exact .inl ⟨(m.mem e).2 (.inl ⟨a1,a2.resolve_right λhh=>hne ⟨a1,hh⟩,a3⟩),he⟩
   ·exact .inl ⟨(m.mem e).2 (.inr ⟨λh=>a1 ⟨h.1,.inl h.2⟩,a2⟩),he⟩
theorem Mid.start {w:X0l} {L:List Pu} {p:Pu} {es:List X1} (c:X7k w L es):Mid w L p (λ_=>False) es:=by
 refine⟨c.sorted,λe=>?_⟩;rw[c.mem];simp
theorem Mid.end {w:X0l} {L:List Pu} {p:Pu} {es:List X1} {done:X04->Prop} (hk:w.Kind≠3) (hd:∀ s,done s↔Xml w.Size (Xda w) p.1.Time s) (m:Mid w L p done es):X7k w (L++[p]) es:=by
 refine⟨m.sorted,λe=>?_,λh3=>absurd h3 hk⟩;rw[m.mem];unfold Xp1 Xdn;rw[if_neg hk,if_neg hk];by_cases he:e.Key=p.1.Key/\done e.Span
 ·constructor
  ·rintro(⟨_,_,h⟩|⟨h,_⟩)
   ·exact⟨⟨p.1.Time,(X8f ..).2 (.inr ⟨he.1.symm,rfl⟩),(hd _).1 he.2⟩,h⟩
   ·exact absurd he h
  ·rintro⟨_,h⟩;exact .inl ⟨he.1,he.2,h⟩
 ·have hv:Xdb (L++[p]) e.Key e.Span=Xdb L e.Key e.Span\/∀ t,X73 L e.Key t->¬ Xml w.Size (Xda w) t e.Span:=by
   by_cases hkk:p.1.Key=e.Key/\inS e.Span p.1.Time
   ·right;intro t _ hw;exact he ⟨hkk.1.symm,(hd _).2 ⟨hw.1,hw.2.1,hkk.2⟩⟩
   ·left;unfold Xdb;rw[X4s,X4s,if_neg (λh=>hkk ⟨h.1,h.2.1⟩),if_neg (λh=>hkk ⟨h.1,h.2.1⟩),List.append_nil,List.append_nil]
  constructor
  ·rintro(⟨h1,h2,_⟩|⟨_,⟨t,ht,hw⟩,h⟩)
   ·exact absurd ⟨h1,h2⟩ he
   ·refine⟨⟨t,(X8f ..).2 (.inl ht),hw⟩,?_⟩;rcases hv with hv|hv
    ·rw[hv];exact h
    ·exact absurd hw (hv t ht)
  ·rintro⟨⟨t,ht,hw⟩,h⟩;refine .inr ⟨he,?_⟩;rcases(X8f ..).1 ht with ht|⟨hkey,htt⟩
   ·refine⟨⟨t,ht,hw⟩,?_⟩;rcases hv with hv|hv
    ·rw[<-hv];exact h
    ·exact absurd hw (hv t ht)
   ·exact absurd ⟨hkey.symm,(hd _).2 (htt▸hw)⟩ he
end Go.D


namespace Go.D
theorem Xld {L:List Pu} (hl:L.length<=1000) (k:Int) (s:X04):okA (Xdb L k s).e0/\okA (Xdb L k s).e1/\(Xdb L k s).e0.Count<=1000/\(Xdb L k s).e1.Count<=1000:=by
 have h0:=Xdo L k s 0;have h1:=Xdo L k s 1;refine⟨Xiq om,Xiq om,?_,?_⟩
 ·show(Xcj _).Count<=1000;rw[X37];omega
 ·show(Xcj _).Count<=1000;rw[X37];omega
theorem Xzw (p:Pu) (s:X04):okA (X72 p s).Values.e0/\okA (X72 p s).Values.e1/\(X72 p s).Values.e0.Count<=1/\(X72 p s).Values.e1.Count<=1:=by
 unfold X72;dsimp only;refine⟨?_,?_,?_,?_⟩
 ·split
  ·exact Xmg _
  ·exact Xka
 ·split
  ·exact Xmg _
  ·exact Xka
 ·split
  ·exact Int.le_refl _
  ·show(0:Int)<=1;decide
 ·split
  ·exact Int.le_refl _
  ·show(0:Int)<=1;decide
theorem Mid.vals {w:X0l} {L:List Pu} {p:Pu} {done:X04->Prop} {es:List X1} (m:Mid w L p done es) (hl:L.length<=900) {e:X1} (he:e∈es):okA e.Values.e0/\okA e.Values.e1/\e.Values.e0.Count<=1000/\e.Values.e1.Count<=1000:=by
 rcases(m.mem e).1 he with ⟨_,_,h⟩|⟨_,_,h⟩
 ·rw[h];exact Xld (by simp;omega) _ _
 ·rw[h];exact Xld om _ _
theorem X02i {w:X0l} {L:List Pu} {p:Pu} (hk:w.Kind≠3) (hl:L.length<=900) (Y:List X04):∀ (xs:List X04) (k:Nat) (x0:X1) (l:List X1) (done:X04->Prop),Mid w L p done l->xs.Nodup->(∀ s∈xs,¬ done s/\Xml w.Size (Xda w) p.1.Time s) ->
  x0.Key=p.1.Key->(∀ s,x0.Values=(X72 p s).Values)->l.length+xs.length<=9000->∃ l',X3y Y xs k x0 l=some (.x0 l')/\Mid w L p (λs=>done s\/s∈xs) l'/\l'.length<=l.length+xs.length:=by
 intro xs
 induction xs with
 |nil=>intro k x0 l done m _ _ _ _ _;exact⟨l,rfl,by simpa using m,by simp⟩
 |cons s xs ih =>
  intro k x0 l done m hnd hs hk0 hv0 hlen;rw[List.nodup_cons] at hnd;have hs0:=hs s List.mem_cons_self;have hx:(⟨x0.Key,s,x0.Values⟩:X1)=X72 p s:=by rw[hk0,hv0 s];rfl
  have er:=Xzw p s;have m2:=m.step hk om hs0.1 hs0.2;simp only[List.length_cons] at hlen;obtain⟨l',h1,h2,h3⟩:=ih (k+1) (X72 p s) (Xkp l (X72 p s)) _ m2 hnd.2 (λx hxx=>⟨λh=>h.elim (hs x (List.mem_cons_of_mem _ hxx)).1 (λe=>hnd.1 (e▸hxx)),(hs x (List.mem_cons_of_mem _ hxx)).2⟩) rfl (λ_=>rfl) (by have:=Xko l (X72 p s);omega);refine⟨l',?_,⟨h2.sorted,λe=>?_⟩,by have:=Xko l (X72 p s);simp only[List.length_cons];omega⟩
  ·rw[X3y];have key:∀ o,X3y Y xs (k+1) (X72 p s) (Xkp l (X72 p s))=some o->((Xc l (X1.mk x0.Key s x0.Values)).bind λv1891=>bif (!v1891.2) then (bif (v1891.1==(List.length l:Int)) then (((X74 l v1891.1 (List.length l:Int)).bind λm1903=>bif (List.isEmpty m1903) then ((X1v (List.length (l++[(X1.mk x0.Key s x0.Values)])) 88).bind λu1906=>some ()) else ((X1v (List.length (l++[(X1.mk x0.Key s x0.Values)])) 88).bind λu1908=>some ()):Option (Unit)).bind λ_=>some ((X1.mk ((X1.mk x0.Key s x0.Values).Key) ((X1.mk x0.Key s x0.Values).Span) (V2.mk (((X1.mk x0.Key s x0.Values).Values).e0) (((X1.mk x0.Key s x0.Values).Values).e1))),(l++[(X1.mk x0.Key s x0.Values)]),0)) else ((Xr3 l v1891.1 (X1.mk x0.Key s x0.Values) 88).bind λm1911=>some ((X1.mk x0.Key s x0.Values),m1911,0))) else ((X1o l v1891.1).bind λe1913=>((X25 e1913.Values.e0 x0.Values.e0).bind λv1928=>bif (v1928.2 != (0:Int)) then (some (l,v1928.2)) else ((X25 (((X1.mk e1913.Key e1913.Span (V2.mk v1928.1 e1913.Values.e1)).Values).e1) x0.Values.e1).bind λv1933=>bif (v1933.2 != (0:Int)) then (some ((List.set l (Int.toNat v1891.1) (X1.mk e1913.Key e1913.Span (V2.mk v1928.1 e1913.Values.e1))),v1933.2)) else (some ((List.set (List.set l (Int.toNat v1891.1) (X1.mk e1913.Key e1913.Span (V2.mk v1928.1 e1913.Values.e1))) (Int.toNat v1891.1) (X1.mk ((X1.mk e1913.Key e1913.Span (V2.mk v1928.1 e1913.Values.e1)).Key) ((X1.mk e1913.Key e1913.Span (V2.mk v1928.1 e1913.Values.e1)).Span) (V2.mk (((X1.mk e1913.Key e1913.Span (V2.mk v1928.1 e1913.Values.e1)).Values).e0) v1933.1))),0))):Option ((List X1)×Int)).bind λw1925=>some ((X1.mk ((X1.mk x0.Key s x0.Values).Key) ((X1.mk x0.Key s x0.Values).Span) (V2.mk (((X1.mk x0.Key s x0.Values).Values).e0) (((X1.mk x0.Key s x0.Values).Values).e1))),w1925.1,w1925.2)):Option (X1×(List X1)×Int))=some (X72 p s,Xkp l (X72 p s),0):=by
    intro o _;rw[X02f m.sorted om,Xst m.sorted];have hle:=Xub l (X72 p s);have hval:x0.Values=(X72 p s).Values:=hv0 s;rw[hx,hval]
    cases h:l[cnt l (X72 p s)]? with
    |none =>
     have hc:cnt l (X72 p s)=l.length:=by have:=List.getElem?_eq_none_iff.1 h;omega
     have hsl:X74 l (l.length:Int) (l.length:Int)=some []:=by simp[X74]
     simp only[Yo,Bool.not_false,cond_true,hc,beq_self_eq_true,hsl];rw[X2o (by simp;omega)];rfl
    |some y =>
     have hlt:cnt l (X72 p s)<l.length:=(Ys.1 h).1;simp only[Yo];by_cases hkk:X4k y (X72 p s)
     ·obtain⟨a1,a2,a3,a4⟩:=m.vals hl (Yg h);simp only[hkk,decide_true,Bool.not_true,cond_false,X32,h,Yo,X3q a1 er.1 om,X3q a2 er.2.1 om,bne_self_eq_false,if_true,Int.toNat_natCast,List.set_set];rfl
     ·have hne:((cnt l (X72 p s):Int)==(l.length:Int))=false:=by simp;omega
      have hi:Xr3 l (cnt l (X72 p s):Int) (X72 p s) 88=some (l.take (cnt l (X72 p s))++X72 p s::l.drop (cnt l (X72 p s))):=by
       unfold Xr3;rw[if_pos ⟨by omega,by simpa using hlt,by omega⟩];simp
      simp only[hkk,decide_false,Bool.not_false,cond_true,hne,cond_false,hi,Yo,if_false]
   rw[key _ h1,Yo];simp only[bne_self_eq_false,cond_false];exact h1
  ·rw[h2.mem];simp only[List.mem_cons,or_assoc]
theorem Xio {w:X0l} {L:List Pu} {es:List X1} (hw:okW w) (hL:Xq9 w L) (c:X7k w L es):∀ e∈es,okE e:=by
 intro e he;obtain⟨h1,h2⟩:=(c.mem e).1 he;have hlen:=hL.len;obtain⟨v1,v2,v3,v4⟩:=Xld (L:=L) om e.Key e.Span;rw[<-h2] at v1 v2 v3 v4;have hpos:∀ t,X73 L e.Key t->inS e.Span t->0<e.Values.e0.Count+e.Values.e1.Count:=by
  intro t ht hi;have:=Xs5 hL.side ht hi;rw[h2];show 0<(Xcj _).Count+(Xcj _).Count;rw[X37,X37];omega
 have htime:∀ t,X73 L e.Key t->okT t:=by
  rintro t ⟨p,hp,_,rfl⟩;exact hL.time p hp
 obtain⟨w1,w2,w3⟩:=hw;unfold Xdn at h1;by_cases hk:w.Kind=3
 ·rw[if_pos hk] at h1;obtain⟨s1,s2,s3,s4⟩:=h1;obtain⟨t,ht,a1,a2⟩:=s2 (2*e.Span.Start+1) om om;have hts:t=e.Span.Start:=by
   have:¬ (2*t<2*e.Span.Start):=λh=>s3 ⟨t,ht,h,by omega⟩;omega
  obtain⟨t',ht',b1,b2⟩:=s2 (2*e.Span.End - 1) om om;have hte:t'+w.Size=e.Span.End:=by
   have:¬ (2*e.Span.End<2*(t'+w.Size)):=λh=>s4 ⟨t',ht',by omega,h⟩;omega
  have q1:=htime t ht;have q2:=htime t' ht';unfold okT at q1 q2;exact⟨by omega,s1,by omega,v1,v2,hpos t ht ⟨by omega,by omega⟩⟩
 ·rw[if_neg hk] at h1;obtain⟨t,ht,a1,a2,a3,a4⟩:=h1;have q1:=htime t ht;unfold okT at q1;exact⟨by omega,by omega,by omega,v1,v2,hpos t ht ⟨a3,a4⟩⟩
theorem Xhj {w:X0l} {L:List Pu} {p:Pu} {es:List X1} (hw:okW w) (hk:w.Kind≠3) (hL:Xq9 w (L++[p])) (c:X7k w L es) (hn:es.length<=3900) :
  ∃ es',X4t es w p.1 p.2=some (es',0)/\X7k w (L++[p]) es'/\es'.length<=es.length+16:=by
 have ht:=hL.time p (by simp);have hsd:=hL.side p (by simp);have hll:=hL.init.len;obtain⟨W,hW,hWl,hWn,hWm⟩:=Xhk hw hk ht;obtain⟨l',h1,h2,h3⟩:=X02i (w:=w) (L:=L) (p:=p) hk om W W 0 (X72 p ⟨0,0⟩) es _ (Mid.start c) hWn (λs hs=>⟨λh=>h,(hWm s).1 hs⟩) rfl (λ_=>rfl) om;refine⟨l',?_,Mid.end hk (λs=>by simpa using hWm s) h2,by omega⟩;unfold X4t;have e1:(bif (p.2 != 0) then (p.2 != 1) else false)=false:=by rcases hsd with h|h<;>simp[h]
 have e2:(bif (decide (p.1.Time<((-1099511627776):Int))) then true else (decide (p.1.Time>(1099511627776:Int))))=false:=by
  unfold okT at ht;have a:decide (p.1.Time<((-1099511627776):Int))=false:=by simp;omega
  have b:decide (p.1.Time>(1099511627776:Int))=false:=by simp;omega
  rw[a,b];rfl
 have e3:((X9i p.1.Value).bind λv14=>bif (p.2==(0:Int)) then (some (X1.mk p.1.Key (X04.mk 0 0) (V2.mk v14 (X11.mk 0 0 0 0)))) else (bif (p.2==(1:Int)) then (some (X1.mk p.1.Key (X04.mk 0 0) (V2.mk (X11.mk 0 0 0 0) v14))) else none):Option (X1))=some (X72 p ⟨0,0⟩):=by
  simp only[X9i,Yo];rcases hsd with h|h
  ·simp[h,X72,ofA,Xbm]
  ·simp[h,X72,ofA,Xbm]
 have e4:(bif (List.isEmpty es) then (some es) else ((X1v (List.length es) 88).bind λu28=>some es):Option ((List X1)))=some es:=by
  rw[X2o om];cases List.isEmpty es<;>rfl
 have e5:(w.Kind==3)=false:=by simp[hk]
 rw[Xa2 c.sorted (Xio hw hL.init c) om,Yo];simp only[bne_self_eq_false,cond_false,X3w hw,Yo,e1,e2];rw[e3,Yo,e4,Yo];simp only[e5,cond_false,hW,Yo,bne_self_eq_false];rw[X2n om,Yo,h1,Yo];have e6:decide ((l'.length:Int)>4000)=false:=by simp;omega
 simp only[e6,cond_false]
end Go.D


namespace Go.D
theorem Xpm {size:Int} {T:Int->Prop} {a b:X04} (ha:Xhr size T a) (hb:Xhr size T b) (h1:a.Start<b.End) (h2:b.Start<a.End):a=b:=by
 obtain⟨a1,a2,a3,a4⟩:=ha;obtain⟨b1,b2,b3,b4⟩:=hb;apply Xgx
 ·rcases Xxv a.Start b.Start with h|h
  ·exact absurd (a2 (2*b.Start) om om) b3
  ·rcases Xxv b.Start a.Start with h'|h'
   ·exact absurd (b2 (2*a.Start) om om) a3
   ·omega
 ·rcases Xxv a.End b.End with h|h
  ·exact absurd (b2 (2*a.End) om om) a4
  ·rcases Xxv b.End a.End with h'|h'
   ·exact absurd (a2 (2*b.End) om om) b4
   ·omega
theorem Xh4 {size:Int} {T T':Int->Prop} (h:∀ t,T t->T' t) {x:Int} (c:cov size T x):cov size T' x:=by
 obtain⟨t,h1,h2⟩:=c;exact⟨t,h t h1,h2⟩
def X8t (L:List Pu) (k:Int) (M:List X1) (side:Int):List Int:=(L.filter λq=>decide (q.1.Key=k/\(∃ m∈M,inS m.Span q.1.Time)/\q.2=side)).map λq=>q.1.Value
def pv (p:Pu) (side:Int):List Int:=if p.2=side then [p.1.Value] else []
theorem Xtx {α:Type} (a b:α->Bool):∀ (l:List α),(∀ q∈l,¬ (a q=true/\b q=true))->(l.filter λq=>a q||b q).Perm (l.filter a++l.filter b):=by
 intro l
 induction l with
 |nil=>intro _;simp
 |cons x l ih =>
  intro h;have ih':=ih λq hq=>h q (List.mem_cons_of_mem _ hq);have hx:=h x List.mem_cons_self
  cases ha:a x with
  |true =>
   have hb:b x=false:=by cases hb:b x with|true=>exact absurd ⟨ha,hb⟩ hx|false=>rfl
   rw[List.filter_cons_of_pos (by simp[ha]),List.filter_cons_of_pos ha,List.filter_cons_of_neg (by simp[hb])];exact ih'.cons x
  |false =>
   cases hb:b x with
   |true =>
    rw[List.filter_cons_of_pos (by simp[hb]),List.filter_cons_of_neg (by simp[ha]),List.filter_cons_of_pos hb];exact(ih'.cons x).trans List.perm_middle.symm
   |false =>
    rw[List.filter_cons_of_neg (by simp[ha,hb]),List.filter_cons_of_neg (by simp[ha]),List.filter_cons_of_neg (by simp[hb])];exact ih'
theorem Xnf {L:List Pu} {k:Int} {M:List X1} {y:X1} {side:Int} (h:∀ q∈L,q.1.Key=k->inS y.Span q.1.Time->¬ ∃ m∈M,inS m.Span q.1.Time) :
  (X8t L k (y::M) side).Perm (X8t L k M side++vals L k y.Span side):=by
 unfold X8t vals;rw[<-List.map_append];refine List.Perm.map _ ?_
 have h1:=Xtx (λq:Pu=>decide (q.1.Key=k/\(∃ m∈M,inS m.Span q.1.Time)/\q.2=side)) (λq=>decide (q.1.Key=k/\inS y.Span q.1.Time/\q.2=side)) L (λq hq hc=>by
  simp only[decide_eq_true_eq] at hc
  exact h q hq hc.1.1 hc.2.2.1 hc.1.2.1)
 refine List.Perm.trans (List.Perm.of_eq ?_) h1;refine List.filter_congr λq _=>?_;rw[Bool.eq_iff_iff];simp only[decide_eq_true_eq,Bool.or_eq_true,List.mem_cons];constructor
 ·rintro⟨a1,⟨m,hm|hm,hi⟩,a2⟩
  ·exact .inr ⟨a1,by rw[<-hm];exact hi,a2⟩
  ·exact .inl ⟨a1,⟨m,hm,hi⟩,a2⟩
 ·rintro(⟨a1,⟨m,hm,hi⟩,a2⟩|⟨a1,hi,a2⟩)
  ·exact⟨a1,⟨m,.inr hm,hi⟩,a2⟩
  ·exact⟨a1,⟨y,.inl rfl,hi⟩,a2⟩
theorem Xac (L:List Pu) (k:Int) (M:List X1) (side:Int):(X8t L k M side).length<=L.length:=by unfold X8t;rw[List.length_map];exact List.length_filter_le _ _
theorem Xmb (p:Pu) (side:Int):(pv p side).length<=1:=by unfold pv;split<;>simp
def Xyx (x y:X1):Prop:=y.Key=x.Key/\y.Span.Start<x.Span.End/\x.Span.Start<y.Span.End
instance (x y:X1):Decidable (Xyx x y):=by unfold Xyx;infer_instance
structure Ses (w:X0l) (L:List Pu) (p:Pu) (es l:List X1) (x:X1) (M:List X1):Prop where
 sub:l.Sublist es
 part:∀ e,e∈es↔e∈l\/e∈M
 apart:∀ e∈l,e ∉ M
 keyM:∀ m∈M,m.Key=p.1.Key
 key:x.Key=p.1.Key
 own:x.Span.Start<=p.1.Time/\p.1.Time+w.Size<=x.Span.End
 inner:∀ z,2*x.Span.Start<z->z<2*x.Span.End->cov w.Size (λt=>X73 L p.1.Key t\/t=p.1.Time) z
 hull:∀ m∈M,x.Span.Start<=m.Span.Start/\m.Span.End<=x.Span.End
 val0:x.Values.e0=Xcj (pv p 0++X8t L p.1.Key M 0)
 val1:x.Values.e1=Xcj (pv p 1++X8t L p.1.Key M 1)
theorem Xun (p:Pu) (s:X04):(X72 p s).Values.e0=Xcj (pv p 0)/\(X72 p s).Values.e1=Xcj (pv p 1):=by
 unfold X72 pv;constructor
 ·dsimp only;split
  ·exact(Xd0 _).symm
  ·rfl
 ·dsimp only;split
  ·exact(Xd0 _).symm
  ·rfl
theorem Ses.start {w:X0l} {L:List Pu} {p:Pu} {es:List X1} (hw:1<=w.Size):Ses w L p es es (X72 p ⟨p.1.Time,p.1.Time+w.Size⟩) []:=by
 have hv:∀ side,X8t L p.1.Key [] side=[]:=λside=>by unfold X8t;simp
 refine⟨.refl _,λe=>by simp,λe _=>by simp,λm hm=>(by cases hm),rfl,⟨Int.le_refl _,Int.le_refl _⟩,λz h1 h2=>?_,λm hm=>(by cases hm),?_,?_⟩
 ·exact⟨p.1.Time,.inr rfl,h1,h2⟩
 ·rw[hv,List.append_nil];exact(Xun p _).1
 ·rw[hv,List.append_nil];exact(Xun p _).2
def Xmm (x y:X1):X1:=⟨x.Key,⟨if y.Span.Start<x.Span.Start then y.Span.Start else x.Span.Start,if y.Span.End>x.Span.End then y.Span.End else x.Span.End⟩,⟨X3g x.Values.e0 y.Values.e0,X3g x.Values.e1 y.Values.e1⟩⟩
theorem Ses.step {w:X0l} {L:List Pu} {p:Pu} {es l:List X1} {x:X1} {M:List X1} (hk:w.Kind=3) (hl:L.length<=900) (c:X7k w L es) (s:Ses w L p es l x M) {i:Nat} {y:X1} (hi:l[i]?=some y) (ho:Xyx x y) :
  Ses w L p es (l.take i++l.drop (i+1)) (Xmm x y) (y::M):=by
 have hyl:y∈l:=Yg hi;have hye:y∈es:=(s.part y).2 (.inl hyl);have hyM:=s.apart y hyl;have hky:y.Key=p.1.Key:=ho.1.trans s.key;obtain⟨hyw,hyv⟩:=(c.mem y).1 hye;unfold Xdn at hyw;rw[if_pos hk,hky] at hyw;rw[hky] at hyv;have hlt:i<l.length:=(Ys.1 hi).1;have hsplit:l=l.take i++y::l.drop (i+1):=by
  have:l[i]=y:=(Ys.1 hi).2;rw[<-this,<-List.drop_eq_getElem_cons hlt,List.take_append_drop]
 have hnd:l.Nodup:=s.sub.nodup (List.Pairwise.imp (R:=ltE) (S:=λa b=>a≠b) (λ{a b} h (e:a=b)=>Xf3 b (by rw[e] at h;exact h)) c.sorted);have hyn:y ∉ l.take i++l.drop (i+1):=by
  rw[hsplit] at hnd;exact(List.nodup_cons.1 (List.perm_middle.nodup_iff.1 hnd)).1
 have hmem:∀ e,e∈l↔e=y\/e∈l.take i++l.drop (i+1):=by
  intro e;rw[hsplit];simp only[List.mem_append,List.mem_cons];rw[<-hsplit];constructor
  ·rintro(h|h|h)
   ·exact .inr (.inl h)
   ·exact .inl h
   ·exact .inr (.inr h)
  ·rintro(h|h|h)
   ·exact .inr (.inl h)
   ·exact .inl h
   ·exact .inr (.inr h)
 have hdis:∀ q∈L,q.1.Key=p.1.Key->inS y.Span q.1.Time->¬ ∃ m∈M,inS m.Span q.1.Time:=by
  rintro q hq _ hyq ⟨m,hm,hmq⟩;have hme:m∈es:=(s.part m).2 (.inr hm);obtain⟨hmw,hmv⟩:=(c.mem m).1 hme;unfold Xdn at hmw;rw[if_pos hk,s.keyM m hm] at hmw;rw[s.keyM m hm] at hmv;unfold inS at hyq hmq;have hsp:y.Span=m.Span:=Xpm hyw hmw om om;have:y=m:=by cases y;cases m;simp only at hky hyv hsp hmv;simp only[X1.mk.injEq];exact⟨hky.trans (s.keyM _ hm).symm,hsp,by rw[hyv,hmv,hsp]⟩
  exact hyM (this▸hm)
 have hval:∀ side,(pv p side++X8t L p.1.Key M side).length<=1073741824:=λside=>by
  have:=Xmb p side;have:=Xac L p.1.Key M side;simp;omega
 have hperm:∀ side,Xcj (pv p side++X8t L p.1.Key (y::M) side)=X3g (Xcj (pv p side++X8t L p.1.Key M side)) (Xcj (vals L p.1.Key y.Span side)):=λside=>by
  have hp:=(Xnf (L:=L) (k:=p.1.Key) (M:=M) (y:=y) (side:=side) hdis).append_left (pv p side);rw[Xel hp (by have:=Xmb p side;have:=Xac L p.1.Key (y::M) side;simp;omega),<-List.append_assoc,X64]
 obtain⟨_,o1,o2⟩:=ho;refine⟨?_,λe=>?_,λe he hm=>?_,λm hm=>?_,s.key,?_,λz h1 h2=>?_,λm hm=>?_,?_,?_⟩
 ·refine List.Sublist.trans ?_ s.sub
  conv=>rhs;rw[hsplit]
  exact List.Sublist.append_left (List.sublist_cons_self _ _) _
 ·rw[s.part,hmem,List.mem_cons];constructor
  ·rintro((h|h)|h)
   ·exact .inr (.inl h)
   ·exact .inl h
   ·exact .inr (.inr h)
  ·rintro(h|h|h)
   ·exact .inl (.inr h)
   ·exact .inl (.inl h)
   ·exact .inr h
 ·rcases List.mem_cons.1 hm with h|h
  ·exact hyn (h▸he)
  ·exact s.apart e ((hmem e).2 (.inr he)) h
 ·rcases List.mem_cons.1 hm with h|h
  ·rw[h];exact hky
  ·exact s.keyM m h
 ·have:=s.own;unfold Xmm;constructor
  ·dsimp only;split<;>omega
  ·dsimp only;split<;>omega
 ·have hz:(2*x.Span.Start<z/\z<2*x.Span.End)\/(2*y.Span.Start<z/\z<2*y.Span.End):=by
   unfold Xmm at h1 h2;dsimp only at h1 h2;split at h1<;>split at h2<;>omega
  rcases hz with ⟨g1,g2⟩|⟨g1,g2⟩
  ·exact s.inner z g1 g2
  ·exact Xh4 (λt h=>.inl h) (hyw.2.1 z g1 g2)
 ·have hx:(Xmm x y).Span.Start<=x.Span.Start/\x.Span.End<=(Xmm x y).Span.End/\(Xmm x y).Span.Start<=y.Span.Start/\y.Span.End<=(Xmm x y).Span.End:=by
   unfold Xmm;dsimp only;refine⟨?_,?_,?_,?_⟩<;>split<;>omega
  rcases List.mem_cons.1 hm with h|h
  ·rw[h];exact⟨hx.2.2.1,hx.2.2.2⟩
  ·have:=s.hull m h;omega
 ·show X3g x.Values.e0 y.Values.e0=_;rw[hperm,s.val0,hyv];rfl
 ·show X3g x.Values.e1 y.Values.e1=_;rw[hperm,s.val1,hyv];rfl
theorem Ses.end {w:X0l} {L:List Pu} {p:Pu} {es l:List X1} {x:X1} {M:List X1} (hk:w.Kind=3) (hw:1<=w.Size) (hl:L.length<=900) (c:X7k w L es) (s:Ses w L p es l x M) (hno:∀ y∈l,¬ Xyx x y):X7k w (L++[p]) (Xkp l x):=by
 have hsl:l.Pairwise ltE:=c.sorted.sublist s.sub;have hxx:x.Span.Start<x.Span.End:=by have:=s.own;omega
 have hnl:∀ y∈l,y.Key=p.1.Key->¬ (y.Span.Start<x.Span.End/\x.Span.Start<y.Span.End):=λy hy hky h=>hno y hy ⟨hky.trans s.key.symm,h.1,h.2⟩;have hT:(X73 (L++[p]) p.1.Key)=λt=>X73 L p.1.Key t\/t=p.1.Time:=by
  funext t;apply propext;rw[X8f]
  exact⟨λh=>h.imp id λh=>h.2.symm,λh=>h.imp id λh=>⟨rfl,h.symm⟩⟩
 have hes:∀ e∈es,e.Key=p.1.Key->Xhr w.Size (X73 L p.1.Key) e.Span:=by
  intro e he hke;have:=((c.mem e).1 he).1;unfold Xdn at this;rw[if_pos hk,hke] at this;exact this
 have hxw:Xhr w.Size (λt=>X73 L p.1.Key t\/t=p.1.Time) x.Span:=by
  refine⟨hxx,s.inner,?_,?_⟩
  ·rintro⟨t,ht|ht,h1,h2⟩
   ·obtain⟨e,he,hke,a1,a2⟩:=c.cover hk _ t ht;rcases(s.part e).1 he with h|h
    ·exact hnl e h hke ⟨by omega,by omega⟩
    ·have:=s.hull e h;omega
   ·have:=s.own;omega
  ·rintro⟨t,ht|ht,h1,h2⟩
   ·obtain⟨e,he,hke,a1,a2⟩:=c.cover hk _ t ht;rcases(s.part e).1 he with h|h
    ·exact hnl e h hke ⟨by omega,by omega⟩
    ·have:=s.hull e h;omega
   ·have:=s.own;omega
 have hpin:inS x.Span p.1.Time:=by have:=s.own;unfold inS;omega
 have hxv:x.Values=Xdb (L++[p]) p.1.Key x.Span:=by
  have hv:∀ side,Xcj (pv p side++X8t L p.1.Key M side)=Xcj (vals (L++[p]) p.1.Key x.Span side):=by
   intro side;have h1:vals L p.1.Key x.Span side=X8t L p.1.Key M side:=by
    unfold vals X8t;congr 1
    refine List.filter_congr λq hq=>?_;rw[Bool.eq_iff_iff];simp only[decide_eq_true_eq];constructor
    ·rintro⟨a1,a2,a3⟩;refine⟨a1,?_,a3⟩;obtain⟨e,he,hke,b1,b2⟩:=c.cover hk _ q.1.Time ⟨q,hq,a1,rfl⟩;unfold inS at a2;rcases(s.part e).1 he with h|h
     ·exact absurd ⟨by omega,by omega⟩ (hnl e h hke)
     ·exact⟨e,h,by unfold inS;omega⟩
    ·rintro⟨a1,⟨m,hm,b1,b2⟩,a3⟩;have:=s.hull m hm;exact⟨a1,⟨by omega,by omega⟩,a3⟩
   have h2:(if p.1.Key=p.1.Key/\inS x.Span p.1.Time/\p.2=side then [p.1.Value] else [])=pv p side:=by
    unfold pv;by_cases h:p.2=side
    ·rw[if_pos ⟨rfl,hpin,h⟩,if_pos h]
    ·rw[if_neg (λhc=>h hc.2.2),if_neg h]
   rw[X4s,h1,h2];exact Xel List.perm_append_comm (by have:=Xmb p side;have:=Xac L p.1.Key M side;simp;omega)
  have h0:=s.val0;have h1:=s.val1;rw[hv] at h0 h1;unfold Xdb;rw[<-h0,<-h1]
 have hns:∀ y∈l,¬ X4k y x:=λy hy hs=>hno y hy ⟨hs.1,by rw[hs.2];exact hxx,by rw[hs.2];exact hxx⟩;have hput:∀ e,e∈Xkp l x↔e∈l\/e=x:=by
  intro e;rw[Xkn hsl];constructor
  ·rintro(⟨h,_⟩|⟨y,hy,hs,_⟩|⟨_,h⟩)
   ·exact .inl h
   ·exact absurd hs (hns y hy)
   ·exact .inr h
  ·rintro(h|h)
   ·exact .inl ⟨h,hns e h⟩
   ·exact .inr (.inr ⟨hns,h⟩)
 refine⟨Xhv hsl,λe=>?_,λ_ k t ht=>?_⟩
 ·rw[hput];unfold Xp1 Xdn;rw[if_pos hk];by_cases hke:e.Key=p.1.Key
  ·rw[hke,hT];have hsame:¬ (e.Span.Start<x.Span.End/\x.Span.Start<e.Span.End)->(Xhr w.Size (λt=>X73 L p.1.Key t\/t=p.1.Time) e.Span/\e.Values=Xdb (L++[p]) p.1.Key e.Span↔Xhr w.Size (X73 L p.1.Key) e.Span/\e.Values=Xdb L p.1.Key e.Span):=by
    intro hn;have hown:=s.own;have hpn:e.Span.Start<e.Span.End->¬ inS e.Span p.1.Time:=λh hi=>by unfold inS at hi;exact hn ⟨by omega,by omega⟩
    have hvv:e.Span.Start<e.Span.End->Xdb (L++[p]) p.1.Key e.Span=Xdb L p.1.Key e.Span:=λh=>by
     unfold Xdb;rw[X4s,X4s,if_neg (λhc=>hpn h hc.2.1),if_neg (λhc=>hpn h hc.2.1),List.append_nil,List.append_nil]
    constructor
    ·rintro⟨⟨a1,a2,a3,a4⟩,hv⟩;refine⟨⟨a1,λz h1 h2=>?_,λh=>a3 (Xh4 (λt h=>.inl h) h),λh=>a4 (Xh4 (λt h=>.inl h) h)⟩,by rw[hv,hvv a1]⟩;obtain⟨t,ht|ht,b1,b2⟩:=a2 z h1 h2
     ·exact⟨t,ht,b1,b2⟩
     ·exact absurd ⟨by omega,by omega⟩ hn
    ·rintro⟨⟨a1,a2,a3,a4⟩,hv⟩;refine⟨⟨a1,λz h1 h2=>Xh4 (λt h=>.inl h) (a2 z h1 h2),?_,?_⟩,by rw[hv,hvv a1]⟩
     ·rintro⟨t,ht|ht,b1,b2⟩
      ·exact a3 ⟨t,ht,b1,b2⟩
      ·exact hn ⟨by omega,by omega⟩
     ·rintro⟨t,ht|ht,b1,b2⟩
      ·exact a4 ⟨t,ht,b1,b2⟩
      ·exact hn ⟨by omega,by omega⟩
   constructor
   ·rintro(h|h)
    ·have he:e∈es:=(s.part e).2 (.inl h);refine(hsame (hnl e h hke)).2 ⟨hes e he hke,?_⟩;have:=((c.mem e).1 he).2;rw[hke] at this;exact this
    ·rw[h];exact⟨hxw,hxv⟩
   ·intro h;by_cases hov:e.Span.Start<x.Span.End/\x.Span.Start<e.Span.End
    ·right;have hsp:=Xpm h.1 hxw hov.1 hov.2;have hkx:=s.key;obtain⟨_,h2⟩:=h;rw[hsp] at h2;cases e;cases x
     simp only at hke hsp h2 hkx hxv;simp only[X1.mk.injEq];exact⟨hke.trans hkx.symm,hsp,by rw[h2,hxv]⟩
    ·left;have h3:=(hsame hov).1 h;have he:e∈es:=(c.mem e).2 ⟨by unfold Xdn;rw[if_pos hk,hke];exact h3.1,by rw[hke];exact h3.2⟩;rcases(s.part e).1 he with h4|h4
     ·exact h4
     ·have:=s.hull e h4;exact absurd ⟨by have:=h3.1.1;omega,by have:=h3.1.1;omega⟩ hov
  ·have hT2:X73 (L++[p]) e.Key=X73 L e.Key:=by
    funext t;apply propext;rw[X8f]
    exact⟨λh=>h.resolve_right λhc=>hke hc.1.symm,.inl⟩
   have hV2:Xdb (L++[p]) e.Key e.Span=Xdb L e.Key e.Span:=by
    unfold Xdb;rw[X4s,X4s,if_neg (λhc=>hke hc.1.symm),if_neg (λhc=>hke hc.1.symm),List.append_nil,List.append_nil]
   rw[hT2,hV2];constructor
   ·rintro(h|h)
    ·have:=(c.mem e).1 ((s.part e).2 (.inl h));unfold Xp1 Xdn at this;rw[if_pos hk] at this;exact this
    ·exact absurd (by rw[h];exact s.key) hke
   ·intro h;have he:e∈es:=(c.mem e).2 (by unfold Xp1 Xdn;rw[if_pos hk];exact h);rcases(s.part e).1 he with h4|h4
    ·exact .inl h4
    ·exact absurd (s.keyM e h4) hke
 ·rcases(X8f ..).1 ht with ht|⟨h1,h2⟩
  ·obtain⟨e,he,hke,a1,a2⟩:=c.cover hk k t ht;rcases(s.part e).1 he with h|h
   ·exact⟨e,(hput e).2 (.inl h),hke,a1,a2⟩
   ·have:=s.hull e h;exact⟨x,(hput x).2 (.inr rfl),s.key.trans ((s.keyM e h).symm.trans hke),by omega,by omega⟩
  ·have:=s.own;exact⟨x,(hput x).2 (.inr rfl),s.key.trans h1,by omega,by omega⟩
end Go.D


namespace Go.D
theorem Xx0 (Y:List X1) (x:X1):∀ (xs:List X1) (k:Nat),(Xe Y x xs k=some .x0/\∀ y∈xs,¬ Xyx x y) \/
  ∃ (i:Nat) (y:X1),Xe Y x xs k=some (.x1 ((k+i:Nat):Int))/\xs[i]?=some y/\Xyx x y:=by
 intro xs
 induction xs with
 |nil=>intro k;exact .inl ⟨rfl,λy hy=>by cases hy⟩
 |cons z xs ih =>
  intro k;rw[Xe];by_cases h:Xyx x z
  ·right;have:(bif (bif (z.Key==x.Key) then (decide (z.Span.Start<x.Span.End)) else false) then (decide (x.Span.Start<z.Span.End)) else false)=true:=by
    obtain⟨h1,h2,h3⟩:=h;simp[h1,h2,h3]
   rw[this,cond_true];exact⟨0,z,rfl,rfl,h⟩
  ·have:(bif (bif (z.Key==x.Key) then (decide (z.Span.Start<x.Span.End)) else false) then (decide (x.Span.Start<z.Span.End)) else false)=false:=by
    rw[<-Bool.not_eq_true];intro hc;apply h;by_cases h1:z.Key=x.Key
    ·by_cases h2:z.Span.Start<x.Span.End
     ·by_cases h3:x.Span.Start<z.Span.End
      ·exact⟨h1,h2,h3⟩
      ·simp[h1,h2,h3] at hc
     ·simp[h1,h2] at hc
    ·have:(z.Key==x.Key)=false:=by simp[h1]
     simp[this] at hc
   rw[this,cond_false];rcases ih (k+1) with ⟨h1,h2⟩|⟨i,y,h1,h2,h3⟩
   ·exact .inl ⟨h1,λy hy=>(List.mem_cons.1 hy).elim (λe=>e▸h) (h2 y)⟩
   ·exact .inr ⟨i+1,y,by rw[h1];congr 2;omega,by simpa using h2,h3⟩
theorem Xz0 {w:X0l} {L:List Pu} {p:Pu} {es:List X1} (hk:w.Kind=3) (hw:1<=w.Size) (hl:L.length<=900) (hn:es.length<=3900) (c:X7k w L es) (hu:∀ e∈es,okA e.Values.e0/\okA e.Values.e1/\e.Values.e0.Count<=1000/\e.Values.e1.Count<=1000):∀ (f:Nat) (l:List X1) (x:X1) (M:List X1),l.length<f->Ses w L p es l x M ->
  ∃ es',X1i f l x=some (.x0 es' 0)/\X7k w (L++[p]) es'/\es'.length<=es.length+1:=by
 intro f
 induction f with
 |zero=>intro l x M h;omega
 |succ f ih =>
  intro l x M hf s;have hsl:l.Pairwise ltE:=c.sorted.sublist s.sub;have hll:l.length<=es.length:=s.sub.length_le;have hxv:okA x.Values.e0/\okA x.Values.e1/\x.Values.e0.Count<=1000/\x.Values.e1.Count<=1000:=by
   have h0:=Xmb p 0;have h1:=Xmb p 1;have h2:=Xac L p.1.Key M 0;have h3:=Xac L p.1.Key M 1;rw[s.val0,s.val1];refine⟨Xiq (by simp;omega),Xiq (by simp;omega),?_,?_⟩
   ·rw[X37];simp;omega
   ·rw[X37];simp;omega
  rw[X1i];rw[X2n om,Yo];rcases Xx0 l x l 0 with ⟨h1,h2⟩|⟨i,y,h1,h2,h3⟩
  ·rw[h1];simp only[Yo];have hneg:decide ((-1:Int)<0)=true:=by decide
   rw[hneg,cond_true]
   have hput:=Xyt (x:=x) hsl om ⟨hxv.1,hxv.2.1⟩ (λy hy _=>by
    obtain⟨a1,a2,a3,a4⟩:=hu y ((s.part y).2 (.inl hy))
    exact⟨a1,a2,by omega,by omega⟩)
   unfold putF at hput;refine⟨Xkp l x,?_,Ses.end hk hw hl c s h2,by have:=Xko l x;omega⟩;rw[hput];rfl
  ·rw[h1];have hlt:i<l.length:=(Ys.1 h2).1;simp only[Yo,Nat.zero_add];have hneg:decide ((i:Int)<0)=false:=by simp
   rw[hneg,cond_false,X32,h2,Yo];obtain⟨a1,a2,a3,a4⟩:=hu y ((s.part y).2 (.inl (Yg h2)));have hd:delI l (i:Int)=some (l.take i++l.drop (i+1)):=by
    unfold delI;rw[if_pos ⟨by omega,by simpa using hlt,by omega⟩];simp
   simp only[X3q hxv.1 a1 om,X3q hxv.2.1 a2 om,Yo,bne_self_eq_false,cond_false,hd];have hstep:=s.step hk hl c h2 h3;exact ih _ _ _ (by simp;omega) hstep
theorem Xkh {w:X0l} {L:List Pu} {p:Pu} {es:List X1} (hw:okW w) (hk:w.Kind=3) (hL:Xq9 w (L++[p])) (c:X7k w L es) (hn:es.length<=3900) :
  ∃ es',X4t es w p.1 p.2=some (es',0)/\X7k w (L++[p]) es'/\es'.length<=es.length+1:=by
 have ht:=hL.time p (by simp);have hsd:=hL.side p (by simp);have hll:=hL.init.len;have hw1:=hw.1;have hw2:=hw.2.1;have hu:∀ e∈es,okA e.Values.e0/\okA e.Values.e1/\e.Values.e0.Count<=1000/\e.Values.e1.Count<=1000:=λe he=>by
  have:=((c.mem e).1 he).2;rw[this];exact Xld om _ _
 obtain⟨es',h1,h2,h3⟩:=Xz0 hk hw1 om hn c hu FU es _ [] (by unfold FU;omega) (Ses.start (p:=p) hw1);refine⟨es',?_,h2,h3⟩;have ht':=ht;unfold okT at ht';unfold X4t;have e1:(bif (p.2 != 0) then (p.2 != 1) else false)=false:=by rcases hsd with h|h<;>simp[h]
 have b1:decide (p.1.Time<((-1099511627776):Int))=false:=by simp;omega
 have b2:decide (p.1.Time>(1099511627776:Int))=false:=by simp;omega
 have e2:(bif (decide (p.1.Time<((-1099511627776):Int))) then true else (decide (p.1.Time>(1099511627776:Int))))=false:=by rw[b1,b2];rfl
 have e3:((X9i p.1.Value).bind λv14=>bif (p.2==(0:Int)) then (some (X1.mk p.1.Key (X04.mk 0 0) (V2.mk v14 (X11.mk 0 0 0 0)))) else (bif (p.2==(1:Int)) then (some (X1.mk p.1.Key (X04.mk 0 0) (V2.mk (X11.mk 0 0 0 0) v14))) else none):Option (X1))=some (X72 p ⟨0,0⟩):=by
  simp only[X9i,Yo];rcases hsd with h|h
  ·simp[h,X72,ofA,Xbm]
  ·simp[h,X72,ofA,Xbm]
 have e4:(bif (List.isEmpty es) then (some es) else ((X1v (List.length es) 88).bind λu28=>some es):Option ((List X1)))=some es:=by
  rw[X2o om];cases List.isEmpty es<;>rfl
 have e5:(w.Kind==3)=true:=by simp[hk]
 have c1:decide (w.Size<1)=false:=by simp;omega
 have c2:decide (w.Size>1073741824)=false:=by simp;omega
 have e6:X3f 0 w.Size=some 0:=by
  simp only[X3f,c1,c2,cond_false];rfl
 have e7:X3f p.1.Time w.Size=some 0:=by
  simp only[X3f,c1,c2,cond_false,b1,b2]
 have e8:X8b 1=some 1:=by decide +kernel
 rw[Xa2 c.sorted (Xio hw hL.init c) om,Yo];simp only[bne_self_eq_false,cond_false,X3w hw,Yo,e1,e2];rw[e3,Yo,e4,Yo];simp only[e5,cond_true,e6,e7,e8,Yo,bne_self_eq_false,cond_false];have hg:X1o [X04.mk p.1.Time (IntKind.i64.wrap (p.1.Time+w.Size))] 0=some ⟨p.1.Time,p.1.Time+w.Size⟩:=by
  rw[X0g om om];rfl
 rw[hg,Yo];have hent:(⟨(X72 p ⟨0,0⟩).Key,⟨p.1.Time,p.1.Time+w.Size⟩,(X72 p ⟨0,0⟩).Values⟩:X1)=X72 p ⟨p.1.Time,p.1.Time+w.Size⟩:=rfl;rw[hent,h1,Yo,Yo];have e9:decide ((es'.length:Int)>4000)=false:=by simp;omega
 simp only[bne_self_eq_false,cond_false,e9]
theorem Xfr {w:X0l} {L:List Pu} {p:Pu} {es:List X1} (hw:okW w) (hL:Xq9 w (L++[p])) (c:X7k w L es) (hn:es.length<=3900) :
  ∃ es',X4t es w p.1 p.2=some (es',0)/\X7k w (L++[p]) es'/\es'.length<=es.length+16:=by
 by_cases hk:w.Kind=3
 ·obtain⟨es',h1,h2,h3⟩:=Xkh hw hk hL c hn;exact⟨es',h1,h2,by omega⟩
 ·exact Xhj hw hk hL c hn
theorem Xue {w:X0l} (hw:1<=w.Size):X7k w [] []:=by
 refine⟨List.Pairwise.nil,λe=>?_,λ_ k t ht=>?_⟩
 ·simp only[List.not_mem_nil,false_iff];rintro⟨h,_⟩;unfold Xdn at h;split at h
  ·obtain⟨h1,h2,_⟩:=h;obtain⟨t,ht,_⟩:=h2 (2*e.Span.Start+1) om om;obtain⟨p,hp,_⟩:=ht;cases hp
  ·obtain⟨t,⟨p,hp,_⟩,_⟩:=h;cases hp
 ·obtain⟨p,hp,_⟩:=ht;cases hp
end Go.D


namespace Go.D
structure RQ (q:X08):Prop where
 w:QW q
 ok:(Xss q).2=0
theorem RQ.cz {q:X08} (h:RQ q):Xrx q=0:=by
 have:=h.ok;unfold Xss at this;split at this
 ·rename_i h1;exact absurd this h1
 ·rename_i h1;omega
theorem RQ.facts {q:X08} (h:RQ q):(1<=q.Agg/\q.Agg<=4/\(q.Late=1\/q.Late=2))/\(q.Agg≠1->Xbl q.Arg=0)/\(0<q.Where.length->Xbl q.Where=0)/\X6h q.Sources q.Join=0/\okW q.Window/\(q.Join=true->q.Window.Kind=1):=by
 have hc:=h.cz;unfold Xrx at hc;split at hc
 ·cases hc
 ·rename_i h1;split at hc
  ·cases hc
  ·split at hc
   ·rename_i h2;exact absurd hc h2.2
   ·rename_i h2;split at hc
    ·rename_i h3;exact absurd hc h3.2
    ·rename_i h3;split at hc
     ·rename_i h4;exact absurd hc h4
     ·rename_i h4;split at hc
      ·cases hc
      ·rename_i h5;split at hc
       ·rename_i h6;refine⟨by omega,λha=>?_,λhw=>?_,by omega,h6,λhj=>?_⟩
        ·by_cases hz:Xbl q.Arg=0
         ·exact hz
         ·exact absurd ⟨ha,hz⟩ h2
        ·by_cases hz:Xbl q.Where=0
         ·exact hz
         ·exact absurd ⟨hw,hz⟩ h3
        ·by_cases hk:q.Window.Kind=1
         ·exact hk
         ·exact absurd ⟨hj,hk⟩ h5
       ·cases hc
theorem RQ.src {q:X08} (h:RQ q):1<=q.Sources.length/\q.Sources.length<=4/\(q.Join=true->q.Sources.length=2):=by
 have hs:=h.facts.2.2.2.1;unfold X6h at hs;split at hs
 ·cases hs
 ·split at hs
  ·cases hs
  ·rename_i h1 h2;unfold Xpi at h2;have h2:((q.Sources.length==0||(q.Join&&q.Sources.length != 2))||q.Sources.any λx=>decide (x<0)||decide (x>3))=false:=by simpa using h2
   rw[Bool.or_eq_false_iff,Bool.or_eq_false_iff] at h2;have a1:q.Sources.length≠0:=by simpa using h2.1.1
   refine⟨by omega,by omega,λhj=>?_⟩;have:=h2.1.2;rw[hj] at this;simpa using this
def Xya (agg:Int) (a:X11):Int:=if agg=1 then a.Count else if agg=2 then a.Sum else if agg=3 then a.Min else a.Max
theorem Xip {agg:Int} {a:X11} (h1:1<=agg) (h2:agg<=4) (ha:okA a):X7v agg a=some (if a.Count=0 then (0,6) else (Xya agg a,0)):=by
 unfold X7v;rw[Yf (show ¬ agg<1 by omega),Yf (show ¬ agg>4 by omega),X34 ha];simp only[cond_false,Yo,bne_self_eq_false];by_cases hc:a.Count=0
 ·rw[if_pos hc,hc];rfl
 ·rw[if_neg hc,show(a.Count==0)=false by simp[hc]];unfold Xya;rcases(by omega:agg=1\/agg=2\/agg=3\/agg=4) with h|h|h|h<;>subst h<;>rfl
def live (q:X08) (e:X1):Bool:=decide (e.Values.e0.Count≠0)&&(!q.Join||decide (e.Values.e1.Count≠0))
def rowE (q:X08) (e:X1):X19:=⟨e.Key,e.Span,⟨Xya q.Agg e.Values.e0,if q.Join then Xya q.Agg e.Values.e1 else 0⟩⟩
def X058 (q:X08) (es:List X1):List X19:=(es.filter (live q)).map (rowE q)
end Go.D


namespace Go.D
def isT (t:Int):Bool:=decide (-1099511627776<=t)&&decide (t<=1099511627776)
def Xi9 (t:Int):Bool:=isT t||(t==9223372036854775807)
def Xma:X8:=⟨0,0,0⟩
def row0:X19:=⟨0,⟨0,0⟩,⟨0,0⟩⟩
def Xhu (x:X19):Bool:=decide (-2199023255552<=x.Span.Start)&&decide (x.Span.Start<x.Span.End)&&decide (x.Span.End<=2199023255552)
def mOK (m:Xd):Bool :=
 if m.Kind=1\/m.Kind=4 then isT m.Record.Time&&decide (m=⟨m.Kind,m.Record,0,row0⟩)
 else if m.Kind=2 then Xi9 m.Time&&decide (m=⟨m.Kind,Xma,m.Time,row0⟩)
 else if m.Kind=3 then Xhu m.Row&&decide (m=⟨m.Kind,Xma,0,m.Row⟩)
 else false
theorem Xce (x y:Xd):X7r x y=decide (x=y):=by
 obtain⟨k,⟨a,b,c⟩,t,⟨d,⟨e,f⟩,⟨g,h⟩⟩⟩:=x;obtain⟨k',⟨a',b',c'⟩,t',⟨d',⟨e',f'⟩,⟨g',h'⟩⟩⟩:=y;rw[Bool.eq_iff_iff];simp[X7r,X3p,X9y,Xap,Xeh,and_assoc]
theorem X7h (t:Int):X3m t=some (isT t):=by
 unfold X3m isT;cases h1:decide (t >= -1099511627776)<;>simp_all
theorem Xak (t:Int):X4g t=some (Xi9 t):=by
 unfold X4g Xi9;rw[X7h,Yo];cases isT t<;>simp
theorem X2r (m:Xd):X2g m=some (if mOK m then 0 else 8):=by
 have fin:∀ (b:Bool) (w:Xd),(bif (bif (!b) then true else (!(X7r m w))) then some (8:Int) else some 0)=some (if (b&&decide (m=w)) then 0 else 8):=by
  intro b w;rw[Xce];cases b<;>cases decide (m=w)<;>rfl
 unfold X2g mOK;rw[X7h,Xak];by_cases h1:m.Kind=1
 ·rw[if_pos (show m.Kind=1\/m.Kind=4 from .inl h1),show(m.Kind==(1:Int))=true by simp[h1]];simp only[cond_true,Yo];exact fin _ _
 ·rw[show(m.Kind==(1:Int))=false by simp[h1]];by_cases h4:m.Kind=4
  ·rw[if_pos (show m.Kind=1\/m.Kind=4 from .inr h4),show(m.Kind==(4:Int))=true by simp[h4]];simp only[cond_true,cond_false,Yo];exact fin _ _
  ·rw[if_neg (show ¬ (m.Kind=1\/m.Kind=4) by simp[h1,h4]),show(m.Kind==(4:Int))=false by simp[h4]];by_cases h2:m.Kind=2
   ·rw[if_pos h2,show(m.Kind==(2:Int))=true by simp[h2]];simp only[cond_true,cond_false,Yo];exact fin _ _
   ·rw[if_neg h2,show(m.Kind==(2:Int))=false by simp[h2]];by_cases h3:m.Kind=3
    ·rw[if_pos h3,show(m.Kind==(3:Int))=true by simp[h3]];simp only[cond_true,cond_false,Yo];rw[fin];have:Xhu m.Row=(bif (bif (decide ((-2199023255552:Int)<=m.Row.Span.Start)) then (decide (m.Row.Span.Start<m.Row.Span.End)) else false) then (decide (m.Row.Span.End<=(2199023255552:Int))) else false):=by
      unfold Xhu;cases decide ((-2199023255552:Int)<=m.Row.Span.Start)<;>cases decide (m.Row.Span.Start<m.Row.Span.End)<;>rfl
     rw[this];rfl
    ·rw[if_neg h3,show(m.Kind==(3:Int))=false by simp[h3]];simp only[cond_false,Yo];rw[fin];rfl
def sOK (s:X0a):Bool:=decide (0<=s.Out)&&decide (s.Out<3)&&mOK s.Message
theorem Xbf (Y:List X0a):∀ (xs:List X0a) (k:Nat),X40 Y xs k=some (if xs.all sOK then .x0 else .x1)
 |[],k=>rfl
 |x::xs,k=>by
  rw[X40,X2r,List.all_cons,Xbf Y xs (k+1)];unfold sOK;by_cases h1:x.Out<0
  ·rw[Yt h1,Yf (show ¬ 0<=x.Out by omega)];rfl
  ·rw[Yf h1,Yt (show 0<=x.Out by omega)];by_cases h2:x.Out >= 3
   ·rw[Yt h2,Yf (show ¬ x.Out<3 by omega)];rfl
   ·rw[Yf h2,Yt (show x.Out<3 by omega)];cases mOK x.Message<;>rfl
theorem Xdq {l:List X0a} (h:l.length<=140737488355328):X8g l=some (l.all sOK):=by
 unfold X8g;rw[X2n h,Yo,Xbf];cases l.all sOK<;>rfl
instance (a:X11):Decidable (okA a):=by unfold okA;infer_instance
instance (x:X1):Decidable (okE x):=by unfold okE;infer_instance
instance (x y:X1):Decidable (ltE x y):=by unfold ltE;infer_instance
theorem Xch (a:X11):X2b a=some (if okA a then 0 else 8):=by
 by_cases h:okA a
 ·rw[if_pos h];exact X34 h
 ·rw[if_neg h];unfold okA at h;unfold X2b;rw[Xlc];by_cases h0:a.Count=0
  ·have:¬ a=⟨0,0,0,0⟩:=λe=>h (.inl ⟨h0,e⟩);simp[h0,this]
  ·by_cases h1:a.Count=1
   ·have:¬ (a.Sum=a.Min/\a.Sum=a.Max):=λe=>h (.inr (.inl ⟨h1,e⟩));rw[show(a.Count==(0:Int))=false by simpa using h0,show(a.Count==(1:Int))=true by simpa using h1];simp only[cond_true,cond_false,Yo];by_cases e1:a.Sum=a.Min
    ·have e2:¬ a.Sum=a.Max:=λe=>this ⟨e1,e⟩;rw[show(a.Sum==a.Min)=true by simpa using e1,show(a.Sum==a.Max)=false by simpa using e2];rfl
    ·rw[show(a.Sum==a.Min)=false by simpa using e1];rfl
   ·rw[show(a.Count==(0:Int))=false by simpa using h0,show(a.Count==(1:Int))=false by simpa using h1];simp only[cond_false];by_cases h2:1<a.Count
    ·by_cases h3:a.Count<=1073741824
     ·have:¬ a.Min<=a.Max:=λe=>h (.inr (.inr ⟨h2,h3,e⟩));rw[Yt (show a.Count>1 from h2),Yt h3,Yf this];rfl
     ·rw[Yt (show a.Count>1 from h2),Yf h3];rfl
    ·rw[Yf (show ¬ a.Count>1 from h2)];rfl
theorem Xj2 (x:X1):X5x x=some (decide (okE x)):=by
 by_cases h:okE x
 ·rw[Yt h];exact Xa1 h
 ·rw[Yf h];unfold okE at h;unfold X5x;rw[Xch,Xch];by_cases h1:x.Span.Start < -1100585369600
  ·rw[Yt h1];rfl
  ·rw[Yf h1];by_cases h2:x.Span.End<=x.Span.Start
   ·rw[Yt h2];rfl
   ·rw[Yf h2];by_cases h3:x.Span.End>1100585369600
    ·rw[Yt h3];rfl
    ·rw[Yf h3];simp only[cond_false,Yo];by_cases a0:okA x.Values.e0
     ·by_cases a1:okA x.Values.e1
      ·have c0:=X7q a0;have c1:=X7q a1;have:¬ 0<x.Values.e0.Count+x.Values.e1.Count:=λe=>h ⟨by omega,by omega,by omega,a0,a1,e⟩;rw[if_pos a0,if_pos a1,X0g om om,Yf (show ¬ x.Values.e0.Count+x.Values.e1.Count>0 from this)];rfl
      ·rw[if_pos a0,if_neg a1];rfl
     ·rw[if_neg a0];rfl
def bhd:Option X1->X1->Bool
 |none,_=>true
 |some e,x=>decide (ltE e x)
def Xmo:Option X1->List X1->Bool
 |_,[]=>true
 |p,x::xs=>decide (okE x)&&bhd p x&&Xmo (some x) xs
def Xqh (l:List X1):Bool:=Xmo none l
theorem Xmn:∀ (l:List X1) (p:Option X1),Xmo p l=true↔(∀ x∈l,okE x)/\l.Pairwise ltE/\(∀ e,p=some e->∀ x∈l,ltE e x)
 |[],p=>by simp[Xmo]
 |x::xs,p=>by
  rw[Xmo,Bool.and_eq_true,Bool.and_eq_true,Xmn xs (some x),List.pairwise_cons];constructor
  ·rintro⟨⟨h1,h2⟩,h3,h4,h5⟩;have h5':=h5 x rfl;refine⟨λy hy=>?_,⟨h5',h4⟩,λe he y hy=>?_⟩
   ·rcases List.mem_cons.1 hy with rfl|hy
    ·simpa using h1
    ·exact h3 y hy
   ·subst he;have h2':ltE e x:=by simpa[bhd] using h2
    rcases List.mem_cons.1 hy with rfl|hy
    ·exact h2'
    ·exact Xe4 h2' (h5' y hy)
  ·rintro⟨h1,⟨h2,h3⟩,h4⟩;refine⟨⟨by simpa using h1 x List.mem_cons_self,?_⟩,λy hy=>h1 y (List.mem_cons_of_mem _ hy),h3,λe he=>by cases he;exact h2⟩
   cases p with
   |none=>rfl
   |some e=>simpa[bhd] using h4 e rfl x List.mem_cons_self
theorem Xki {l:List X1}:Xqh l=true↔(∀ x∈l,okE x)/\l.Pairwise ltE:=by
 unfold Xqh;rw[Xmn];constructor
 ·rintro⟨h1,h2,_⟩;exact⟨h1,h2⟩
 ·rintro⟨h1,h2⟩;exact⟨h1,h2,λe he=>by cases he⟩
theorem Xae (l:List X1) (hn:l.length<=1000000):∀ (xs:List X1) (k:Nat),l.drop k=xs->X2f l xs k=some (if Xmo (if k=0 then none else l[k - 1]?) xs then .x0 else .x1)
 |[],k,_=>rfl
 |x::xs,k,h=>by
  have hk:l[k]?=some x:=by
   have:=congrArg (λz=>z[0]?) h;simpa using this
  have hlt:k<l.length:=(Ys.1 hk).1;have hd:l.drop (k+1)=xs:=by
   have:=congrArg List.tail h;simpa using this
  have ih:=Xae l hn xs (k+1) hd;rw[if_neg (Nat.succ_ne_zero k),show k+1 - 1=k from rfl,hk] at ih;rw[X2f,Xj2,Yo,Xmo];by_cases ho:okE x
  ·rw[Yt ho]
   cases k with
   |zero =>
    rw[Yf om,if_pos rfl];simp only[Bool.not_true,cond_false,Yo,Bool.true_and];exact ih
   |succ k =>
    have hp:(l[k]' om)=(l[k]' om):=rfl;rw[Yt (show((k+1:Nat):Int)>0 by omega),if_neg (Nat.succ_ne_zero k),X0g om om,show(((k+1:Nat):Int) - 1)=(k:Int) by omega,X32,show k+1 - 1=k from rfl,Ye (show k<l.length by omega)];simp only[Bool.not_true,cond_false,cond_true,Yo,X7l,Bool.true_and];by_cases hl:ltE (l[k]' om) x
    ·rw[show bhd (some (l[k]' om)) x=true from Yt hl,show decide (Xrs (l[k]' om) x >= 0)=false from Yf λe=>Xnq.1 e hl];simp only[cond_false,Bool.true_and];exact ih
    ·rw[show bhd (some (l[k]' om)) x=false from Yf hl,show decide (Xrs (l[k]' om) x >= 0)=true from Yt (Xnq.2 hl)];rfl
  ·rw[Yf ho];rfl
theorem Xd5 (l:List X1):X41 l=some (if l.length>4000 then 4 else if Xqh l then 0 else 8):=by
 unfold X41;by_cases h:l.length>4000
 ·rw[Yt om,if_pos h];rfl
 ·rw[Yf om,if_neg h,cond_false,X2n om,Yo,Xae l om l 0 rfl,if_pos rfl];unfold Xqh;cases Xmo none l<;>rfl
def mkL (t:Int):Bool:=(t == -9223372036854775808)||Xi9 t
def Xf1 (l:List Int):Bool:=decide (1<=l.length)&&decide (l.length<=4)&&l.all mkL
theorem Xon (t:Int):mOK ⟨2,⟨0,0,0⟩,t,⟨0,⟨0,0⟩,⟨0,0⟩⟩⟩=Xi9 t:=by
 unfold mOK;simp[Xma,row0]
theorem Xc5 (t:Int):X6b t=some (Xi9 t):=by
 unfold X6b;rw[X2r,Xon];cases Xi9 t<;>rfl
theorem Xj1 (t:Int):X8x t=some (mkL t):=by
 unfold X8x mkL;rw[X2r,Xon];cases(t == -9223372036854775808)<;>cases Xi9 t<;>rfl
theorem Xal (Y:List Int):∀ (xs:List Int) (k:Nat),X3n Y xs k=some (if xs.all mkL then .x0 else .x1)
 |[],k=>rfl
 |x::xs,k=>by
  rw[X3n,Xc5,List.all_cons,Xal Y xs (k+1)];unfold mkL;by_cases h:x = -9223372036854775808
  ·rw[show(x != -9223372036854775808)=false by simp[h],show(x == -9223372036854775808)=true by simp[h]];rfl
  ·rw[show(x != -9223372036854775808)=true by simp[h],show(x == -9223372036854775808)=false by simp[h]];cases Xi9 x<;>rfl
theorem Xje (l:List Int):X9e l=some (if Xf1 l then 0 else 8):=by
 unfold X9e Xf1;by_cases h0:l.length=0
 ·rw[show((l.length:Int)==0)=true by simp[h0],Yf (show ¬ 1<=l.length by omega)];rfl
 ·rw[show((l.length:Int)==0)=false by simp;intro e;simp[e] at h0,Yt (show 1<=l.length by omega)];by_cases h4:l.length>4
  ·rw[Yt (show(l.length:Int)>4 by omega),Yf (show ¬ l.length<=4 by omega)];rfl
  ·rw[Yf (show ¬ (l.length:Int)>4 by omega),Yt (show l.length<=4 by omega)];simp only[cond_false,Yo];rw[X2n om,Yo,Xal];cases l.all mkL<;>rfl
def minF (l:List Int) (m:Int):Int:=l.foldl (λy e=>if e<y then e else y) m
def Xjc:List Int->Int
 |[]=>0
 |x::xs=>minF xs x
theorem X01k (l:List Int) (hl:l.length<=1000):∀ (m n k:Nat) (y:Int),m=l.length - k->m<n->k<=l.length->X0v l n y (k:Int)=some (.x0 (minF (l.drop k) y)):=by
 intro m
 induction m with
 |zero =>
  intro n k y hm hn hk;obtain⟨n,rfl⟩:∃ q,n=q+1:=⟨n - 1,by omega⟩;rw[X0v,Yf om,List.drop_eq_nil_of_le om];rfl
 |succ m ih =>
  intro n k y hm hn hk;obtain⟨n,rfl⟩:∃ q,n=q+1:=⟨n - 1,by omega⟩;have hlt:k<l.length:=by omega
  rw[X0v,Yt om,cond_true,X32,Ye hlt,Yo,X0g om om,show((k:Int)+1)=((k+1:Nat):Int) by omega,ih n (k+1) _ om om om,List.drop_eq_getElem_cons hlt];rfl
theorem Xdu {l:List Int} (h1:1<=l.length) (h2:l.length<=1000):X1t l=some (Xjc l):=by
 unfold X1t;rw[Yf om,cond_false]
 cases l with
 |nil=>simp at h1
 |cons x xs =>
  rw[show X1o (x::xs) 0=some x from X32 (x::xs) 0,Yo];have:=X01k (x::xs) h2 xs.length FU 1 x (by simp) (by simp at h2;unfold FU;omega) (by simp);rw[show((1:Nat):Int)=1 from rfl] at this;rw[this];rfl
theorem Xe1 {l:List Int} (h:Xf1 l=true):1<=l.length/\l.length<=4/\l.all mkL=true:=by
 unfold Xf1 at h;simp only[Bool.and_eq_true,decide_eq_true_eq] at h;exact⟨h.1.1,h.1.2,h.2⟩
theorem Xd9 (l:List Int):X4z l=some (if Xf1 l then (Xjc l,0) else (0,8)):=by
 unfold X4z;rw[Xje,Yo]
 cases h:Xf1 l with
 |false=>rfl
 |true =>
  obtain⟨h1,h2,_⟩:=Xe1 h;rw[Xdu h1 om];rfl
def X2m (l:List Int) (i:Nat) (t:Int):List Int:=l.set i (if t>l.getD i 0 then t else l.getD i 0)
theorem Xjd {l:List Int} (h:Xf1 l=true) {i:Nat} (hi:i<l.length) {t:Int} (ht:Xi9 t=true):X62 l (i:Int) t=some (X2m l i t,decide (Xjc (X2m l i t)>Xjc l),0):=by
 obtain⟨h1,h2,_⟩:=Xe1 h;unfold X62;rw[Xd9,h,Yo];simp only[if_true,bne_self_eq_false,cond_false];rw[Yf (show ¬ (i:Int)<0 by omega),Yf (show ¬ (i:Int) >= (l.length:Int) by omega),Xc5,ht];simp only[cond_false,Yo,Bool.not_true];have hc:(bif l.isEmpty then some l else (X1v l.length 8).bind λ_=>some l:Option (List Int))=some l:=by
  rw[X2o om];cases l.isEmpty<;>rfl
 rw[hc,Yo,X32,Ye hi,Yo,Int.toNat_natCast];have e:l.set i (if t>l[i] then t else l[i])=X2m l i t:=by
  unfold X2m;rw[List.getD_eq_getElem?_getD,Ye hi];rfl
 rw[e,Xdu (by unfold X2m;simp;omega) (by unfold X2m;simp;omega)];rfl
def Xdg (k:Int):Int×Int×Bool×Bool×Bool×Bool :=
 if k=1 then (0,0,false,true,false,false) else if k=2 then (1,1,false,false,false,false) else if k=3 then (0,0,false,false,false,false)
 else if k=4 then (1,4,true,false,false,false) else if k=5 then (2,2,true,false,false,false) else if k=6 then (0,0,false,false,true,false)
 else if k=7 then (0,0,false,false,false,true) else (1,0,false,false,false,false)
theorem Xj0 (k:Int):X8w k=some (Xdg k):=by
 unfold X8w Xdg;by_cases h1:k=1
 ·subst h1;rfl
 by_cases h2:k=2
 ·subst h2;rfl
 by_cases h3:k=3
 ·subst h3;rfl
 by_cases h4:k=4
 ·subst h4;rfl
 by_cases h5:k=5
 ·subst h5;rfl
 by_cases h6:k=6
 ·subst h6;rfl
 by_cases h7:k=7
 ·subst h7;rfl
 have b:∀ z:Int,¬ k=z->(k==z)=false:=λz h=>by simpa using h
 rw[b _ h1,b _ h2,b _ h3,b _ h4,b _ h5,b _ h6,b _ h7,if_neg h1,if_neg h2,if_neg h3,if_neg h4,if_neg h5,if_neg h6,if_neg h7];rfl
def Xbj (b:Bool) (n:Int):Int:=if b then n else 0
theorem Xlz (b:Bool) (n:Int):X8v b n=some (Xbj b n):=by cases b<;>rfl
def Xby (t:Xp):Bool :=
 decide ((t.Pending.length:Int)<=4000)&&decide ((t.Marks.length:Int) >= (Xdg t.Op.Kind).1)&&decide ((t.Marks.length:Int)<=(Xdg t.Op.Kind).2.1)&&decide ((t.Store.length:Int)<=Xbj (Xdg t.Op.Kind).2.2.1 4000)
 && decide ((t.Events.length:Int)<=Xbj (Xdg t.Op.Kind).2.2.2.1 60)&&decide ((t.Rows.length:Int)<=Xbj (Xdg t.Op.Kind).2.2.2.2.1 4000)&&decide ((t.Late.length:Int)<=Xbj (Xdg t.Op.Kind).2.2.2.2.2 4000)
def Xnh (t:Xp):Bool:=decide (t.Turn >= 0)&&decide (t.Turn<20)&&decide (t.Op.N >= 0)&&decide (t.Op.N<4)
def evOK (e:X0h):Bool:=if e.Mark then Xi9 e.Time&&decide (e.Record=Xma) else decide (e.Time=0)&&isT e.Record.Time
def Xhi (t:Xp):Bool:=t.Marks.all mkL&&t.Events.all evOK&&t.Rows.all Xhu&&t.Late.all (λr=>isT r.Time)&&t.Store.all (λx=>decide (t.Op.Kind≠4)||(x.Values.e1.Count==0))
def tOK (t:Xp):Bool:=Xnh t&&Xby t&&t.Pending.all sOK&&Xqh t.Store&&Xhi t
theorem Xig (x y:X8):X3p x y=decide (x=y):=by
 obtain⟨a,b,c⟩:=x;obtain⟨a',b',c'⟩:=y;rw[Bool.eq_iff_iff];simp[X3p,and_assoc]
theorem Xgo (e:X0h):X6p e=some (if evOK e then 0 else 8):=by
 unfold X6p Xcq evOK;rw[Xak,X7h,Xig]
 cases e.Mark with
 |true =>
  simp only[cond_true,Yo,if_true];show _=some (if (Xi9 e.Time&&decide (e.Record=⟨0,0,0⟩))=true then 0 else 8);cases Xi9 e.Time<;>cases decide (e.Record=⟨0,0,0⟩)<;>rfl
 |false =>
  simp only[cond_false,Yo,Bool.false_eq_true,if_false];by_cases h:e.Time=0
  ·rw[show(e.Time != 0)=false by simp[h],Yt h];cases isT e.Record.Time<;>rfl
  ·rw[show(e.Time != 0)=true by simp[h],Yf h];rfl
theorem X81 (t:Xp) (Y:List Int):∀ (xs:List Int) (k:Nat) (b:Bool),X3c t Y xs k b=some (.x0 (b&&xs.all mkL))
 |[],k,b=>by simp[X3c]
 |x::xs,k,b=>by
  rw[X3c,Xj1,List.all_cons]
  cases b with
  |false=>simp only[cond_false,Yo];rw[X81 t Y xs (k+1)];rfl
  |true=>simp only[cond_true,Yo];rw[X81 t Y xs (k+1)];rfl
theorem X80 (t:Xp) (Y:List X0h):∀ (xs:List X0h) (k:Nat) (b:Bool),X3b t Y xs k b=some (.x0 (b&&xs.all evOK))
 |[],k,b=>by simp[X3b]
 |x::xs,k,b=>by
  rw[X3b,Xgo,List.all_cons]
  cases b with
  |false=>simp only[cond_false,Yo];rw[X80 t Y xs (k+1)];rfl
  |true=>simp only[cond_true,Yo];rw[X80 t Y xs (k+1)];cases evOK x<;>rfl
theorem Xpo (x:X19):mOK ⟨3,⟨0,0,0⟩,0,x⟩=Xhu x:=by
 unfold mOK;simp[Xma]
theorem Xta (x:X8):mOK ⟨4,x,0,⟨0,⟨0,0⟩,⟨0,0⟩⟩⟩=isT x.Time:=by
 unfold mOK;simp[row0]
theorem X7z (t:Xp) (Y:List X19):∀ (xs:List X19) (k:Nat) (b:Bool),X3a t Y xs k b=some (.x0 (b&&xs.all Xhu))
 |[],k,b=>by simp[X3a]
 |x::xs,k,b=>by
  rw[X3a,X2r,Xpo,List.all_cons]
  cases b with
  |false=>simp only[cond_false,Yo];rw[X7z t Y xs (k+1)];rfl
  |true=>simp only[cond_true,Yo];rw[X7z t Y xs (k+1)];cases Xhu x<;>rfl
theorem X7y (t:Xp) (Y:List X8):∀ (xs:List X8) (k:Nat) (b:Bool),X39 t Y xs k b=some (.x0 (b&&xs.all λr=>isT r.Time))
 |[],k,b=>by simp[X39]
 |x::xs,k,b=>by
  rw[X39,X2r,Xta,List.all_cons]
  cases b with
  |false=>simp only[cond_false,Yo];rw[X7y t Y xs (k+1)];rfl
  |true=>simp only[cond_true,Yo];rw[X7y t Y xs (k+1)];cases isT x.Time<;>rfl
theorem X5r (t:Xp) (Y:List X1):∀ (xs:List X1) (k:Nat) (b:Bool),X38 t Y xs k b=some (.x0 (b&&xs.all λx=>decide (t.Op.Kind≠4)||(x.Values.e1.Count==0)))
 |[],k,b=>by simp[X38]
 |x::xs,k,b=>by
  rw[X38,List.all_cons]
  cases b with
  |false=>simp only[cond_false,Yo];rw[X5r t Y xs (k+1)];rfl
  |true =>
   by_cases h:t.Op.Kind=4
   ·rw[show(t.Op.Kind != 4)=false by simp[h],show decide (t.Op.Kind≠4)=false by simp[h]];simp only[cond_true,cond_false,Yo,Bool.false_or];rw[X5r t Y xs (k+1),show decide (t.Op.Kind≠4)=false by simp[h]];simp
   ·rw[show(t.Op.Kind != 4)=true by simp[h],show decide (t.Op.Kind≠4)=true by simp[h]];simp only[cond_true,Yo,Bool.true_or];rw[X5r t Y xs (k+1),show decide (t.Op.Kind≠4)=true by simp[h]];simp
theorem Xet {t:Xp} (h:Xby t=true):t.Pending.length<=4000/\t.Marks.length<=4/\t.Store.length<=4000/\t.Events.length<=60/\t.Rows.length<=4000/\t.Late.length<=4000:=by
 unfold Xby at h;simp only[Bool.and_eq_true,decide_eq_true_eq] at h;obtain⟨⟨⟨⟨⟨⟨h1,h2⟩,h3⟩,h4⟩,h5⟩,h6⟩,h7⟩:=h;have hm:(Xdg t.Op.Kind).2.1<=4:=by
  unfold Xdg
  (repeat' split)<;>decide
 have hr:∀ b (n:Int),0<=n->Xbj b n<=n:=λb n hn=>by cases b<;>simp[Xbj]<;>omega
 have r1:=hr (Xdg t.Op.Kind).2.2.1 4000 om;have r2:=hr (Xdg t.Op.Kind).2.2.2.1 60 om;have r3:=hr (Xdg t.Op.Kind).2.2.2.2.1 4000 om;have r4:=hr (Xdg t.Op.Kind).2.2.2.2.2 4000 om;omega
theorem Xaw (t:Xp):X8h t=some (if tOK t then 0 else 8):=by
 unfold X8h;rw[Xj0,Yo];simp only[Xlz,Yo];have hs:(bif (decide ((List.length t.Pending:Int)<=(4000:Int))) then (bif (decide ((List.length t.Marks:Int) >= (Xdg t.Op.Kind).1)) then (bif (decide ((List.length t.Marks:Int)<=(Xdg t.Op.Kind).2.1)) then (bif (decide ((List.length t.Store:Int)<=Xbj (Xdg t.Op.Kind).2.2.1 4000)) then (bif (decide ((List.length t.Events:Int)<=Xbj (Xdg t.Op.Kind).2.2.2.1 60)) then (bif (decide ((List.length t.Rows:Int)<=Xbj (Xdg t.Op.Kind).2.2.2.2.1 4000)) then (some (bif (bif (bif (bif (bif (bif (decide ((List.length t.Pending:Int)<=(4000:Int))) then (decide ((List.length t.Marks:Int) >= (Xdg t.Op.Kind).1)) else false) then (decide ((List.length t.Marks:Int)<=(Xdg t.Op.Kind).2.1)) else false) then (decide ((List.length t.Store:Int)<=Xbj (Xdg t.Op.Kind).2.2.1 4000)) else false) then (decide ((List.length t.Events:Int)<=Xbj (Xdg t.Op.Kind).2.2.2.1 60)) else false) then (decide ((List.length t.Rows:Int)<=Xbj (Xdg t.Op.Kind).2.2.2.2.1 4000)) else false) then (decide ((List.length t.Late:Int)<=Xbj (Xdg t.Op.Kind).2.2.2.2.2 4000)) else false)) else (some false)) else (some false)) else (some false)) else (some false)) else (some false)) else (some false):Option Bool)=some (Xby t):=by
  unfold Xby;cases decide ((List.length t.Pending:Int)<=(4000:Int))<;>cases decide ((List.length t.Marks:Int) >= (Xdg t.Op.Kind).1)<;>cases decide ((List.length t.Marks:Int)<=(Xdg t.Op.Kind).2.1)<;>cases decide ((List.length t.Store:Int)<=Xbj (Xdg t.Op.Kind).2.2.1 4000)<;>cases decide ((List.length t.Events:Int)<=Xbj (Xdg t.Op.Kind).2.2.2.1 60)<;>cases decide ((List.length t.Rows:Int)<=Xbj (Xdg t.Op.Kind).2.2.2.2.1 4000)<;>rfl
 rw[hs,Yo];have hn:(bif (bif (bif (decide (t.Turn >= (0:Int))) then (decide (t.Turn<(20:Int))) else false) then (decide (t.Op.N >= (0:Int))) else false) then (decide (t.Op.N<(4:Int))) else false)=Xnh t:=by
  unfold Xnh;cases decide (t.Turn >= (0:Int))<;>cases decide (t.Turn<(20:Int))<;>cases decide (t.Op.N >= (0:Int))<;>rfl
 rw[hn];unfold tOK
 cases h1:Xnh t with
 |false=>rfl
 |true =>
  cases h2:Xby t with
  |false=>rfl
  |true =>
   obtain⟨l1,l2,l3,l4,l5,l6⟩:=Xet h2;simp only[Bool.not_true,cond_false];rw[Xdq om,Yo]
   cases h3:t.Pending.all sOK with
   |false=>rfl
   |true =>
    simp only[Bool.not_true,cond_false];rw[Xd5,if_neg om,Yo]
    cases h4:Xqh t.Store with
    |false=>rfl
    |true =>
     simp only[if_true,bne_self_eq_false,Yo,cond_false];rw[X2n om,Yo,X81,Yo];simp only;rw[X2n om,Yo,X80,Yo];simp only;rw[X2n om,Yo,X7z,Yo];simp only;rw[X2n om,Yo,X7y,Yo];simp only;rw[X2n om,Yo,X5r,Yo];simp only[Bool.true_and,Bool.and_true];unfold Xhi;generalize (t.Marks.all mkL&&t.Events.all evOK&&t.Rows.all Xhu&&(t.Late.all λr=>isT r.Time)&&t.Store.all λx=>decide (t.Op.Kind≠4)||(x.Values.e1.Count==0))=b;cases b<;>rfl
end Go.D


namespace Go.D
def t0:Xp:=⟨⟨0,0⟩,0,[],[],[],[],[],[]⟩
theorem bifS {α:Type} (l:List α) (x:Option (List α)) (h:x=some l):(bif l.isEmpty then some l else x)=some l:=by cases l.isEmpty<;>simp[h]
theorem X00a {l:List Int} (h:l.length<=100000):X1b l=some l:=by unfold X1b;exact bifS l _ (by rw[X2o om];rfl)
theorem X00b {l:List X1} (h:l.length<=100000):X1d l=some l:=by unfold X1d;exact bifS l _ (by rw[X2o om];rfl)
theorem X008 {l:List X0h} (h:l.length<=100000):X1c l=some l:=by unfold X1c;exact bifS l _ (by rw[X2o om];rfl)
theorem X009 {l:List X19} (h:l.length<=100000):X26 l=some l:=by unfold X26;exact bifS l _ (by rw[X2o om];rfl)
theorem X00c {l:List X8} (h:l.length<=100000):X15 l=some l:=by unfold X15;exact bifS l _ (by rw[X2o om];rfl)
theorem Xdr {t:Xp} (h:tOK t=true):Xnh t=true/\Xby t=true/\t.Pending.all sOK=true/\Xqh t.Store=true/\Xhi t=true:=by
 unfold tOK at h;simp only[Bool.and_eq_true] at h;exact⟨h.1.1.1.1,h.1.1.1.2,h.1.1.2,h.1.2,h.2⟩
theorem Xfp {t:Xp} (hp:t.Pending=[]) {L:List X0a} (hL:L.length<=100000) :
  X2w t L=some (if tOK t then (if L.all sOK then (if L.length>4000 then (t0,4) else ({ t with Pending:=L },0)) else (t0,8)) else (t0,8)):=by
 unfold X2w;rw[Xaw,Yo]
 cases h:tOK t with
 |false=>rfl
 |true =>
  obtain⟨l1,l2,l3,l4,l5,l6⟩:=Xet (Xdr h).2.1;simp only[if_true,bne_self_eq_false,cond_false];rw[Xdq om,Yo]
  cases hs:L.all sOK with
  |false=>rfl
  |true =>
   simp only[Bool.not_true,cond_false,if_true];rw[hp];have e4:IntKind.i64.wrap (4000 - (([]:List X0a).length:Int))=4000:=by decide
   rw[e4];by_cases h4:L.length>4000
   ·rw[Yt om,if_pos h4];rfl
   ·rw[Yf om,if_neg h4,cond_false];simp only[List.isEmpty_nil,cond_true];rw[X00a om,X00b om,X008 om,X009 om,X00c om];simp only[Yo];rw[X2o om];cases L.isEmpty<;>rfl
def X5j (m:Int) (l:List X1):List X1:=l.filter λx=>decide (x.Span.End<=m)
def Xbk (m:Int) (l:List X1):List X1:=l.filter λx=>!decide (x.Span.End<=m)
theorem Xoz (m:Int) (Y:List X1):∀ (xs:List X1) (k:Nat) (a b:List X1),a.length+b.length+xs.length<=100000->X3d m Y xs k a b=some (.x0 (a++X5j m xs) (b++Xbk m xs))
 |[],k,a,b,_=>by simp[X3d,X5j,Xbk]
 |x::xs,k,a,b,hn=>by
  simp only[List.length_cons] at hn;rw[X3d];unfold X5j Xbk;rw[List.filter_cons,List.filter_cons];by_cases h:x.Span.End<=m
  ·rw[Yt h,cond_true,X2o (by simp;omega)];simp only[Yo,if_true,Bool.not_true,Bool.false_eq_true,if_false];rw[Xoz m Y xs (k+1) _ _ (by simp;omega)];simp[X5j,Xbk]
  ·rw[Yf h,cond_false,X2o (by simp;omega)];simp only[Yo,if_true,Bool.not_false,Bool.false_eq_true,if_false];rw[Xoz m Y xs (k+1) _ _ (by simp;omega)];simp[X5j,Xbk]
theorem Xkg {l:List X1} (h:Xqh l=true) (hl:l.length<=4000) (m:Int):X78 l m=some (X5j m l,Xbk m l,0):=by
 unfold X78;rw[Xd5,if_neg om,h,Yo];simp only[if_true,bne_self_eq_false,cond_false];rw[X2n om,Yo,Xoz m l l 0 [] [] (by simp;omega)];rfl
theorem Xk7 {m:Int} {l:List X1} {x:X1} (h:x∈X5j m l):x∈l:=(List.mem_filter.1 h).1
theorem Xfi (m:Int) (l:List X1):(X5j m l).length<=l.length:=List.length_filter_le _ _
theorem Xvt {a l:List X1} (hs:a.Sublist l) (h:Xqh l=true):Xqh a=true:=by
 rw[Xki] at *;exact⟨λx hx=>h.1 x (hs.subset hx),h.2.sublist hs⟩
def Xvz (r:X19):X0a:=⟨0,⟨3,⟨0,0,0⟩,0,r⟩⟩
theorem Xvy {r:X19} (h:Xhu r=true):sOK (Xvz r)=true:=by
 unfold sOK Xvz;simp only;rw[Xpo,h];rfl
theorem Xyy {x:X1} (h:okE x) (r:X19) (hr:r.Span=x.Span):Xhu r=true:=by
 obtain⟨h1,h2,h3,_⟩:=h;unfold Xhu;rw[hr,Yt om,Yt om,Yt om];rfl
def Xyv (l:List X1) (x:X1):Bool :=
 match l[cnt l x]? with
 |some y=>decide (X4k y x/\(y.Values.e0.Count+x.Values.e0.Count>1073741824\/y.Values.e1.Count+x.Values.e1.Count>1073741824))
 |none=>false
end Go.D


namespace Go.D
theorem Xxi {z:Int} (h:wfI .u8 z):0<=z:=by
 have h:=h;simp only[wfI,Lit.wf,IntKind.bits,IntKind.signed] at h;simp at h;have e1:IntKind.u8.min=0:=by decide
 omega
theorem Xy8 {z:Int} (h:wfI .i64 z):z<=9223372036854775807 /\ -9223372036854775808<=z:=by
 have h:=h;simp only[wfI,Lit.wf,IntKind.bits,IntKind.signed] at h;simp at h;have e1:IntKind.i64.min = -9223372036854775808:=by decide
 have e2:IntKind.i64.max=9223372036854775807:=by decide
 omega
theorem X031 {q:X08} (w:Xhd q):QW q:=by
 obtain⟨_,⟨_,h1⟩,_,_,⟨_,h2⟩,h3,_⟩:=w;exact⟨λx hx=>Xxi (h1 x hx).1,λx hx=>Xxi (h2 x hx).1,Xy8 h3.2.2⟩
end Go.D


namespace Go.D
theorem Xjj (x:X0a):Xif x x=true:=by
 simp[Xif,Xce]
theorem Xw1 {q:X08} (hq:QW q):X5l q=some (decide ((Xss q).2=0)):=by
 unfold X5l;rw[Xj8 hq,Yo];rfl
end Go.D


namespace Go.D
theorem mks4 {t:Xp} (h:tOK t=true) (hk:t.Op.Kind=4):Xf1 t.Marks=true:=by
 obtain⟨o1,o2,o3,o4,o5⟩:=Xdr h;have h2l:1<=t.Marks.length/\t.Marks.length<=4:=by
  unfold Xby at o2;simp only[Bool.and_eq_true,decide_eq_true_eq] at o2;obtain⟨⟨⟨⟨⟨⟨_,h2⟩,h3⟩,_⟩,_⟩,_⟩,_⟩:=o2;rw[hk] at h2 h3;have h2':(1:Int)<=t.Marks.length:=h2;have h3':(t.Marks.length:Int)<=4:=h3;omega
 unfold Xhi at o5;simp only[Bool.and_eq_true] at o5;unfold Xf1;rw[Yt h2l.1,Yt h2l.2,o5.1.1.1.1];rfl
theorem Xjw {l:List Int} {j:Nat} {x:Int} (hms:Xf1 l=true) (hjl:j<l.length) (ht:Xi9 x=true):Xf1 (X2m l j x)=true:=by
 obtain⟨m1,m2,m3⟩:=Xe1 hms;unfold Xf1;have hlr:(X2m l j x).length=l.length:=by unfold X2m;simp
 rw[hlr,Yt m1,Yt m2];simp only[Bool.true_and,List.all_eq_true];intro y hy;unfold X2m at hy;rcases List.mem_or_eq_of_mem_set hy with h|h
 ·exact List.all_eq_true.1 m3 y h
 ·rw[h];split
  ·unfold mkL;rw[ht];simp
  ·apply List.all_eq_true.1 m3;rw[List.getD_eq_getElem?_getD,Ye hjl];exact List.getElem_mem hjl
theorem Xpg {t:Xp} (h:tOK t=true) (hk:t.Op.Kind=4) {j:Nat} (hjl:j<t.Marks.length) {x:Int} (ht:Xi9 x=true) {S:List X1} (hS:S.Sublist t.Store):tOK { t with Marks:=X2m t.Marks j x,Store:=S }=true:=by
 have hms:=Xjw (mks4 h hk) hjl ht;have hlr:(X2m t.Marks j x).length=t.Marks.length:=by unfold X2m;simp
 obtain⟨o1,o2,o3,o4,o5⟩:=Xdr h;have hsl:=hS.length_le;have o2':Xby { t with Marks:=X2m t.Marks j x,Store:=S }=true:=by
  unfold Xby at o2 ⊢;simp only[Bool.and_eq_true,decide_eq_true_eq] at o2 ⊢;simp only[hlr];obtain⟨⟨⟨⟨⟨⟨a1,a2⟩,a3⟩,a4⟩,a5⟩,a6⟩,a7⟩:=o2;exact⟨⟨⟨⟨⟨⟨a1,a2⟩,a3⟩,by omega⟩,a5⟩,a6⟩,a7⟩
 have o5':Xhi { t with Marks:=X2m t.Marks j x,Store:=S }=true:=by
  unfold Xhi at o5 ⊢;simp only[Bool.and_eq_true] at o5 ⊢;obtain⟨⟨⟨⟨a1,a2⟩,a3⟩,a4⟩,a5⟩:=o5;refine⟨⟨⟨⟨(Xe1 hms).2.2,a2⟩,a3⟩,a4⟩,?_⟩;rw[List.all_eq_true] at a5 ⊢;exact λy hy=>a5 y (hS.mem hy)
 have o1':Xnh { t with Marks:=X2m t.Marks j x,Store:=S }=true:=o1;unfold tOK;rw[o1',o2',o5',show({ t with Marks:=X2m t.Marks j x,Store:=S }:Xp).Pending.all sOK=true from o3,show Xqh ({ t with Marks:=X2m t.Marks j x,Store:=S }:Xp).Store=true from Xvt hS o4];rfl
end Go.D


namespace Go.D
theorem Xcg {q:X08} (hq:QW q):X7u q=some (decide ((Xss q).2=0)&&!q.Join):=by
 unfold X7u;rw[Xim hq,Yo];by_cases h:(Xss q).2=0
 ·rw[h,Yt rfl];cases q.Join<;>rfl
 ·rw[show((Xss q).2==0)=false by simpa using h,Yf h];rfl
def rowG (q:X08) (x:X1):X19:=⟨x.Key,x.Span,⟨if x.Values.e0.Count=0 then 0 else Xya q.Agg x.Values.e0,0⟩⟩
def X9r (q:X08) (l:List X1):List X0a:=l.map λx=>Xvz (rowG q x)
theorem Xas {q:X08} (h1:1<=q.Agg) (h2:q.Agg<=4) (t u:Xp) (Y:List X1):∀ (xs:List X1) (k:Nat) (o:List X0a),(∀ x∈xs,okE x)->o.length+xs.length<=100000->X21 t u q Y xs k o=some (.x0 (o++X9r q xs))
 |[],k,o,_,_=>by simp[X21,X9r]
 |x::xs,k,o,hx,hn=>by
  simp only[List.length_cons] at hn;obtain⟨_,_,_,a0,_,_⟩:=hx x List.mem_cons_self;rw[X21,Xip h1 h2 a0,Yo,X2o (by simp;omega),Yo,Xas h1 h2 t u Y xs (k+1) _ (λy hy=>hx y (List.mem_cons_of_mem _ hy)) (by simp;omega)];have hv:(if x.Values.e0.Count=0 then ((0:Int),(6:Int)) else (Xya q.Agg x.Values.e0,0)).1=(if x.Values.e0.Count=0 then 0 else Xya q.Agg x.Values.e0):=by split<;>rfl
  rw[hv];simp[X9r,Xvz,rowG]
theorem Xjv (q:X08) (l:List X1):(X9r q l).length=l.length:=by unfold X9r;rw[List.length_map]
theorem Xsh (q:X08) {l:List X1} (h:∀ x∈l,okE x):(X9r q l).all sOK=true:=by
 rw[List.all_eq_true];intro s hs;obtain⟨x,hx,rfl⟩:=List.mem_map.1 hs;exact Xvy (Xyy (h x hx) _ rfl)
end Go.D


namespace Go.D
theorem Xlj {q:X08} (hq:RQ q) (hj:q.Join=false) {t:Xp} (hok:tOK t=true) (hk:t.Op.Kind=4) (hp:t.Pending=[]) {j:Nat} (hjl:j<t.Marks.length) {m:Xd} (hm:mOK m=true) (hmk:m.Kind=2) :
  (¬ Xjc (X2m t.Marks j m.Time)>Xjc t.Marks/\X6y q t (j:Int) m=some ({ t with Marks:=X2m t.Marks j m.Time },0)) \/
  (Xjc (X2m t.Marks j m.Time)>Xjc t.Marks/\X6y q t (j:Int) m=some ({ t with Marks:=X2m t.Marks j m.Time,Store:=Xbk (Xjc (X2m t.Marks j m.Time)) t.Store,Pending:=X9r q (X5j (Xjc (X2m t.Marks j m.Time)) t.Store) },0)):=by
 have hf:=hq.facts;obtain⟨o1,o2,o3,o4,o5⟩:=Xdr hok;obtain⟨l1,l2,l3,l4,l5,l6⟩:=Xet o2;have hi0:¬ (j:Int)<0:=by omega
 have hi1:¬ (j:Int) >= (List.length t.Marks:Int):=by omega
 have hpl:¬ (List.length t.Pending:Int)>0:=by rw[hp];decide
 have hkk:(bif (m.Kind != 1) then (m.Kind != 2) else false)=false:=by rw[hmk];rfl
 have hbase:∀ r,(bif (m.Kind==(1:Int)) then ((X4t t.Store q.Window m.Record 0).bind λv13=>bif (v13.2 != (0:Int)) then (some (t0,v13.2)) else ((X2w (Xp.mk t.Op t.Turn t.Pending t.Marks v13.1 t.Events t.Rows t.Late) ([]:List X0a)).bind λv16=>some (v16.1,v16.2))) else ((X62 t.Marks (j:Int) m.Time).bind λv18=>bif (!v18.2.1) then ((X2w (Xp.mk t.Op t.Turn t.Pending v18.1 t.Store t.Events t.Rows t.Late) ([]:List X0a)).bind λv21=>some (v21.1,v21.2)) else ((X4z v18.1).bind λv23=>(X78 t.Store v23.1).bind λv25=>(X5a (List.length v25.1)).bind λu27=>(X21 (Xp.mk t.Op t.Turn t.Pending v18.1 v25.2.1 t.Events t.Rows t.Late) t0 q v25.1 v25.1 0 ([]:List X0a)).bind λo90=>match o90 with|.x0 X35=>((X2w (Xp.mk t.Op t.Turn t.Pending v18.1 v25.2.1 t.Events t.Rows t.Late) X35).bind λv92=>some (v92.1,v92.2)))):Option (Xp×Int))=r->X6y q t (j:Int) m=r:=by
  intro r hr;unfold X6y;rw[Xcg hq.w,hq.ok,hj,Xaw,if_pos hok,show(t.Op.Kind != 4)=false by simpa using hk,Yf hi0,Yf hi1,X2r,if_pos hm,hkk,Yf hpl];exact hr
 have hpend:∀ (u:Xp),u.Pending=[]->∀ L:List X0a,L.all sOK=true->L.length<=4000->X2w u L=some (if tOK u then ({ u with Pending:=L },0) else (t0,8)):=by
  intro u hu L h1 h2;rw[Xfp hu om,if_pos h1,if_neg (show ¬ L.length>4000 by omega)]
 have hms:Xf1 t.Marks=true:=mks4 hok hk;have ht:Xi9 m.Time=true:=by
  unfold mOK at hm;rw[if_neg om,if_pos hmk] at hm;simp only[Bool.and_eq_true] at hm;exact hm.1
 have hR:=Xjd hms hjl ht;have hmr:=Xjw hms hjl ht;by_cases hgr:Xjc (X2m t.Marks j m.Time)>Xjc t.Marks
 ·refine .inr ⟨hgr,?_⟩;have hokE:=(Xki.1 o4).1;have hfl:=Xfi (Xjc (X2m t.Marks j m.Time)) t.Store;have hsl:=Xjv q (X5j (Xjc (X2m t.Marks j m.Time)) t.Store);have hPe:=hpend ⟨t.Op,t.Turn,t.Pending,X2m t.Marks j m.Time,Xbk (Xjc (X2m t.Marks j m.Time)) t.Store,t.Events,t.Rows,t.Late⟩ hp _ (Xsh q (l:=X5j (Xjc (X2m t.Marks j m.Time)) t.Store) λx hx=>hokE x (Xk7 hx)) om;have hok2:tOK ⟨t.Op,t.Turn,t.Pending,X2m t.Marks j m.Time,Xbk (Xjc (X2m t.Marks j m.Time)) t.Store,t.Events,t.Rows,t.Late⟩=true:=Xpg hok hk hjl ht List.filter_sublist;refine hbase _ ?_;rw[show(m.Kind==1)=false by simp;omega,cond_false,hR,Yo,Yt hgr];simp only[Bool.not_true,cond_false];rw[Xd9,if_pos hmr,Yo];simp only;rw[Xkg o4 om,Yo];simp only;rw[X2n om,Yo,Xas hf.1.1 hf.1.2.1 _ _ _ _ 0 [] (λx hx=>hokE x (Xk7 hx)) (by simp;omega),Yo];simp only[List.nil_append];rw[hPe,if_pos hok2,Yo]
 ·refine .inl ⟨hgr,?_⟩;have hPe:=hpend ⟨t.Op,t.Turn,t.Pending,X2m t.Marks j m.Time,t.Store,t.Events,t.Rows,t.Late⟩ hp [] rfl (by simp);have hok2:tOK ⟨t.Op,t.Turn,t.Pending,X2m t.Marks j m.Time,t.Store,t.Events,t.Rows,t.Late⟩=true:=Xpg hok hk hjl ht (List.Sublist.refl _);refine hbase _ ?_;rw[show(m.Kind==1)=false by simp;omega,cond_false,hR,Yo,Yf hgr];simp only[Bool.not_false,cond_true];rw[hPe,if_pos hok2,Yo];simp only[<-hp]
end Go.D


namespace Go.D
end Go.D


namespace Go.D
def Xno (r:X8):Xd:=⟨1,r,0,⟨0,⟨0,0⟩,⟨0,0⟩⟩⟩
def Xe3 (t:Int):Xd:=⟨2,⟨0,0,0⟩,t,⟨0,⟨0,0⟩,⟨0,0⟩⟩⟩
def low:Int := -9223372036854775808
theorem Xeu {w:X0l} {L:List Pu} {es:List X1} (hw:okW w) (hL:Xq9 w L) (c:X7k w L es):Xqh es=true:=Xki.2 ⟨Xio hw hL c,c.sorted⟩
theorem Xwe {t:Int} (ht:Xi9 t=true):mOK (Xe3 t)=true:=by
 have:=Xon t;unfold Xe3;rw[this];exact ht
theorem Xwx {t:Int} (ht:Xi9 t=true):t>low/\mkL t=true:=by
 refine⟨?_,by unfold mkL;rw[ht];simp⟩;unfold Xi9 isT at ht;unfold low;simp only[Bool.or_eq_true,Bool.and_eq_true,decide_eq_true_eq,beq_iff_eq] at ht;omega
end Go.D


namespace Go.D
theorem Xn2 {q:X08} (hq:RQ q) (hj:q.Join=false) {t:Xp} (hok:tOK t=true) (hk:t.Op.Kind=4) (hp:t.Pending=[]) {i:Int} (hi:0<=i) (hil:i<(t.Marks.length:Int)) {m:Xd} (hm:mOK m=true) (hmk:m.Kind=1) {S:List X1} (hS:X4t t.Store q.Window m.Record 0=some (S,0)) (hok2:tOK { t with Store:=S }=true) :
  X6y q t i m=some ({ t with Store:=S },0):=by
 have hi0:¬ i<0:=by omega
 have hi1:¬ i >= (List.length t.Marks:Int):=by omega
 have hpl:¬ (List.length t.Pending:Int)>0:=by rw[hp];decide
 have hkk:(bif (m.Kind != 1) then (m.Kind != 2) else false)=false:=by rw[hmk];rfl
 have hbase:∀ r,(bif (m.Kind==(1:Int)) then ((X4t t.Store q.Window m.Record 0).bind λv13=>bif (v13.2 != (0:Int)) then (some (t0,v13.2)) else ((X2w (Xp.mk t.Op t.Turn t.Pending t.Marks v13.1 t.Events t.Rows t.Late) ([]:List X0a)).bind λv16=>some (v16.1,v16.2))) else ((X62 t.Marks i m.Time).bind λv18=>bif (!v18.2.1) then ((X2w (Xp.mk t.Op t.Turn t.Pending v18.1 t.Store t.Events t.Rows t.Late) ([]:List X0a)).bind λv21=>some (v21.1,v21.2)) else ((X4z v18.1).bind λv23=>(X78 t.Store v23.1).bind λv25=>(X5a (List.length v25.1)).bind λu27=>(X21 (Xp.mk t.Op t.Turn t.Pending v18.1 v25.2.1 t.Events t.Rows t.Late) t0 q v25.1 v25.1 0 ([]:List X0a)).bind λo90=>match o90 with|.x0 X35=>((X2w (Xp.mk t.Op t.Turn t.Pending v18.1 v25.2.1 t.Events t.Rows t.Late) X35).bind λv92=>some (v92.1,v92.2)))):Option (Xp×Int))=r->X6y q t i m=r:=by
  intro r hr;unfold X6y;rw[Xcg hq.w,hq.ok,hj,Xaw,if_pos hok,show(t.Op.Kind != 4)=false by simpa using hk,Yf hi0,Yf hi1,X2r,if_pos hm,hkk,Yf hpl];exact hr
 have hPe:X2w ⟨t.Op,t.Turn,t.Pending,t.Marks,S,t.Events,t.Rows,t.Late⟩ []=some (if tOK ⟨t.Op,t.Turn,t.Pending,t.Marks,S,t.Events,t.Rows,t.Late⟩ then (⟨t.Op,t.Turn,[],t.Marks,S,t.Events,t.Rows,t.Late⟩,0) else (t0,8)):=by
  rw[Xfp (t:=⟨t.Op,t.Turn,t.Pending,t.Marks,S,t.Events,t.Rows,t.Late⟩) hp (by simp),if_pos (show([]:List X0a).all sOK=true from rfl),if_neg (show ¬ ([]:List X0a).length>4000 by simp)]
 refine hbase _ ?_;rw[show(m.Kind==1)=true by simpa using hmk,cond_true,hS,Yo];simp only[bne_self_eq_false,cond_false];rw[hPe,if_pos hok2,Yo];simp only[<-hp]
def aT (ms:List Int) (es:List X1):Xp:=⟨⟨4,0⟩,0,[],ms,es,[],[],[]⟩
theorem X00l {ms:List Int} {es:List X1} (h1:ms.length=1) (h2:ms.all mkL=true) (h3:Xqh es=true) (h4:es.length<=4000) (h5:∀ e∈es,e.Values.e1.Count=0):tOK (aT ms es)=true:=by
 have h6:es.all (λx=>decide ((4:Int)≠4)||(x.Values.e1.Count==0))=true:=by
  rw[List.all_eq_true];intro x hx;simpa using h5 x hx
 unfold tOK Xnh Xby Xhi aT;simp only[h1,h2,h3,h6,Xdg,Xbj,List.length_nil,List.all_nil];simp;omega
theorem Xlg {w:X0l} {L:List Pu} {es:List X1} (c:X7k w L es) (h:∀ p∈L,p.2=0):∀ e∈es,e.Values.e1.Count=0:=by
 intro e he;obtain⟨_,h2⟩:=(c.mem e).1 he;rw[h2];show(Xcj (vals L e.Key e.Span 1)).Count=0;have:vals L e.Key e.Span 1=[]:=by
  unfold vals;rw[List.map_eq_nil_iff,List.filter_eq_nil_iff];intro p hp;simp[h p hp]
 rw[this];rfl
theorem Xm1 (ins:List Int) (ms:List Xd) (q:X08) (t u s:Xp) (z:Int) (hl:s.Pending.length<=100000):∀ (m n i:Nat) (rows:List X19),m=s.Pending.length - i->m<n->i<=s.Pending.length->rows.length+m<=200000 ->
  X3o ins ms q t u z s n rows (i:Int)=some (.x0 (rows++(s.Pending.drop i).map λp=>p.Message.Row)):=by
 intro m
 induction m with
 |zero =>
  intro n i rows hm hmn hi _;obtain⟨n,rfl⟩:∃ q,n=q+1:=⟨n - 1,by omega⟩;rw[X3o,Yf om,List.drop_eq_nil_of_le om];simp
 |succ m ih =>
  intro n i rows hm hmn hi hrl;obtain⟨n,rfl⟩:∃ q,n=q+1:=⟨n - 1,by omega⟩;have hlt:i<s.Pending.length:=by omega
  rw[X3o,Yt om,cond_true,X32,Ye hlt,Yo,X2o (by simp;omega),Yo,X0g om om,show((i:Int)+1)=((i+1:Nat):Int) by omega,ih n (i+1) _ om om om (by simp;omega),List.drop_eq_getElem_cons hlt,List.map_cons,List.append_assoc,List.singleton_append]
theorem Xhh {q:X08} (hq:RQ q) (hj:q.Join=false) (ins:List Int) (Y:List Xd) (t0':Xp) (rest:List Xd) (rows:List X19):∀ (ps L:List Pu) (es:List X1) (k:Nat),(∀ i p,ps[i]?=some p->ins[k+i]?=some 0)->(∀ p∈L++ps,p.2=0)->Xq9 q.Window (L++ps)->X7k q.Window L es->es.length+16*ps.length<=3900->rows.length<=1000 ->
  ∃ es',X1g ins Y q t0' (ps.map (λp=>Xno p.1)++rest) k (aT [low] es) rows=X1g ins Y q t0' rest (k+ps.length) (aT [low] es') rows/\X7k q.Window (L++ps) es'/\es'.length<=es.length+16*ps.length
 |[],L,es,k,_,_,_,c,_,_=>⟨es,by simp,by simpa using c,by simp⟩
 |p::ps,L,es,k,hin,hz,hL,c,hn,hr=>by
  simp only[List.length_cons] at hn;have hL1:Xq9 q.Window (L++[p]):=by
   have e:L++p::ps=(L++[p])++ps:=by simp
   rw[e] at hL;exact⟨λx hx=>hL.time x (List.mem_append_left _ hx),λx hx=>hL.side x (List.mem_append_left _ hx),by have:=hL.len;simp at this ⊢;omega⟩
  have hw:=hq.facts.2.2.2.2.1;obtain⟨es1,h1,c1,l1⟩:=Xfr hw hL1 c om;have hp0:p.2=0:=hz p (by simp);rw[hp0] at h1;have hlow:([low]:List Int).all mkL=true:=by decide
  have z0:=Xlg c λx hx=>hz x (by simp[hx]);have z1:=Xlg c1 λx hx=>hz x (by simp at hx ⊢;rcases hx with h|h<;>simp[h])
  have hT:=Xn2 hq hj (t:=aT [low] es) (X00l rfl hlow (Xeu hw hL1.init c) om z0) rfl rfl (i:=0) om (by simp[aT]) (m:=Xno p.1) (by
   have:=hL1.time p (by simp);unfold okT at this;unfold mOK Xno isT
   simp[row0,this.1,this.2]) rfl h1 (X00l rfl hlow (Xeu hw hL1 c1) om z1)
  obtain⟨es',h2,c2,l2⟩:=Xhh hq hj ins Y t0' rest rows ps (L++[p]) es1 (k+1) (λi x hx=>by have:=hin (i+1) x (by simpa using hx);rwa [show k+1+i=k+(i+1) by omega]) (by simpa using hz) (by simpa using hL) c1 om hr;refine⟨es',?_,by simpa using c2,by simp only[List.length_cons];omega⟩;rw[List.map_cons,List.cons_append,X1g,X32,show ins[k]?=some 0 by simpa using hin 0 p rfl,Yo,hT,Yo];simp only[bne_self_eq_false,cond_false];have hL1':=Xm1 ins Y q t0' (aT [low] es) (aT [low] es1) (k:Int) (by simp[aT]) 0 FU 0 rows (by simp[aT]) (by unfold FU;omega) (by simp) om;rw[show((0:Nat):Int)=0 from rfl] at hL1';have e1:({ aT [low] es with Store:=es1 }:Xp)=aT [low] es1:=rfl;rw[e1,hL1',Yo];simp only[aT,List.drop_nil,List.map_nil,List.append_nil];rw[show k+(p::ps).length=k+1+ps.length by simp;omega];exact h2
def Xqm (q:X08) (l:List X1):List X19:=l.map (rowG q)
theorem Xm0 {q:X08} (hq:RQ q) (hj:q.Join=false) {ps:List Pu} (hL:Xq9 q.Window ps) (hz:∀ p∈ps,p.2=0) (hn:ps.length<=20) {t:Int} (ht:Xi9 t=true) :
  ∃ es,X7k q.Window ps es/\es.length<=320/\X63 q 1 (ps.map (λ_=>0)++[0]) (ps.map (λp=>Xno p.1)++[Xe3 t])=some (aT [t] (Xbk t es),Xqm q (X5j t es),true):=by
 have hw:=hq.facts.2.2.2.2.1
 obtain⟨es,h1,c,hl⟩:=Xhh hq hj (ps.map (λ_=>0)++[0]) (ps.map (λp=>Xno p.1)++[Xe3 t]) t0 [Xe3 t] [] ps [] [] 0 (λi p hp=>by
  rw[Nat.zero_add];have hlt:i<ps.length:=(Ys.1 hp).1
  rw[List.getElem?_append_left (by simpa using hlt),List.getElem?_map,hp];rfl) (by simpa using hz) (by simpa using hL) (Xue hw.1) (by simp;omega) (by simp)
 rw[List.nil_append] at c;have hst:=Xeu hw hL c;simp only[List.length_nil,Nat.zero_add] at hl h1;have hl4:es.length<=320:=by omega
 refine⟨es,c,hl4,?_⟩;obtain⟨hlo,hm⟩:=Xwx ht;have hlow:([low]:List Int).all mkL=true:=by decide
 have z0:=Xlg c hz;unfold X63;rw[show Xlk 0 1=some (⟨⟨4,0⟩,0,[],[-9223372036854775808],[],[],[],[]⟩,0) by decide +kernel,Yo];simp only[bne_self_eq_false,cond_false];rw[X2n (by simp;omega),Yo];have hT:=Xlj hq hj (t:=aT [low] es) (X00l rfl hlow hst om z0) rfl rfl (j:=0) (by simp[aT]) (m:=Xe3 t) (Xwe ht) rfl;have hr:X2m (aT [low] es).Marks 0 (Xe3 t).Time=[t]:=by
  show[if t>low then t else low]=[t];rw[if_pos hlo]
 have hl0:Xjc (aT [low] es).Marks=low:=by unfold Xjc minF;rfl
 have hl1:Xjc [t]=t:=by unfold Xjc minF;rfl
 rw[hr,hl0,hl1] at hT;rcases hT with ⟨g,_⟩|⟨_,hT⟩
 ·exfalso;omega
 have hTe:({ aT [low] es with Marks:=[t],Store:=Xbk t (aT [low] es).Store,Pending:=X9r q (X5j t (aT [low] es).Store) }:Xp)={ aT [t] (Xbk t es) with Pending:=X9r q (X5j t es) }:=rfl;rw[hTe] at hT;have hfl:=Xfi t es;have hsl:=Xjv q (X5j t es);have h2:X1g (ps.map (λ_=>0)++[0]) (ps.map (λp=>Xno p.1)++[Xe3 t]) q t0 [Xe3 t] ps.length (aT [low] es) []=some (.x0 (aT [t] (Xbk t es)) (Xqm q (X5j t es))):=by
  rw[X1g,X32,show(ps.map (λ_=>(0:Int))++[0])[ps.length]?=some 0 by rw[List.getElem?_append_right (by simp)];simp,Yo];have hT':X6y q (aT [low] es) 0 (Xe3 t)=some ({ aT [t] (Xbk t es) with Pending:=X9r q (X5j t es) },0):=hT;rw[hT',Yo];simp only[bne_self_eq_false,cond_false];have e3:=Xm1 (ps.map (λ_=>0)++[0]) (ps.map (λp=>Xno p.1)++[Xe3 t]) q t0 (aT [low] es) { aT [t] (Xbk t es) with Pending:=X9r q (X5j t es) } (ps.length:Int) (by simp only;omega) ((X9r q (X5j t es)).length - 0) FU 0 [] rfl (by unfold FU;omega) (by simp) (by simp;omega);rw[show((0:Nat):Int)=0 from rfl] at e3;rw[e3,Yo];have e4:(List.drop 0 (X9r q (X5j t es))).map (λp=>p.Message.Row)=Xqm q (X5j t es):=by
   rw[List.drop_zero];unfold X9r Xqm;rw[List.map_map];rfl
  rw[X1g];simp only[e4];simp[aT]
 have h3:=h1.trans h2;have h3':X1g (ps.map (λ_=>0)++[0]) (ps.map (λp=>Xno p.1)++[Xe3 t]) q (Xp.mk (GOp.mk 0 0) 0 ([]:List X0a) ([]:List Int) ([]:List X1) ([]:List X0h) ([]:List X19) ([]:List X8)) (ps.map (λp=>Xno p.1)++[Xe3 t]) 0 ⟨⟨4,0⟩,0,[],[-9223372036854775808],[],[],[],[]⟩ []=some (.x0 (aT [t] (Xbk t es)) (Xqm q (X5j t es))):=h3;rw[h3',Yo]
end Go.D


namespace Go.D
theorem Xih (x:X1):Xfk x x=true:=by
 simp[Xfk,Xap,Xg3,X8r]
theorem Xft (l Y:List X0a):∀ (xs:List X0a) (k:Nat),l.drop k=xs->X23 Y l xs k=some .x0
 |[],k,_=>rfl
 |x::xs,k,h=>by
  have hk:l[k]?=some x:=by
   have:=congrArg (λz=>z[0]?) h;simpa using this
  have hd:l.drop (k+1)=xs:=by
   have:=congrArg List.tail h;simpa using this
  rw[X23,X32,hk,Yo,Xjj];exact Xft l Y xs (k+1) hd
theorem Xsm (t:Xp) (hn:t.Marks.length<=90000):∀ (m n k:Nat),m=t.Marks.length - k->m<n->k<=t.Marks.length->X46 t t n (k:Int)=some .x1:=by
 intro m
 induction m with
 |zero =>
  intro n k hm hmn hk;obtain⟨n,rfl⟩:∃ q,n=q+1:=⟨n - 1,by omega⟩;rw[X46,Yf om];rfl
 |succ m ih =>
  intro n k hm hmn hk;obtain⟨n,rfl⟩:∃ q,n=q+1:=⟨n - 1,by omega⟩;have hlt:k<t.Marks.length:=by omega
  rw[X46,Yt om,cond_true,X32,Ye hlt,Yo,Yo,show(t.Marks[k] != t.Marks[k])=false by simp,cond_false,X0g om om,show((k:Int)+1)=((k+1:Nat):Int) by omega,ih n (k+1) om om om]
theorem Xsl (t:Xp) (hn:t.Store.length<=90000):∀ (m n k:Nat),m=t.Store.length - k->m<n->k<=t.Store.length->X45 t t n (k:Int)=some .x1:=by
 intro m
 induction m with
 |zero =>
  intro n k hm hmn hk;obtain⟨n,rfl⟩:∃ q,n=q+1:=⟨n - 1,by omega⟩;rw[X45,Yf om];rfl
 |succ m ih =>
  intro n k hm hmn hk;obtain⟨n,rfl⟩:∃ q,n=q+1:=⟨n - 1,by omega⟩;have hlt:k<t.Store.length:=by omega
  rw[X45,Yt om,cond_true,X32,Ye hlt,Yo,Yo,Xih,Bool.not_true,cond_false,X0g om om,show((k:Int)+1)=((k+1:Nat):Int) by omega,ih n (k+1) om om om]
theorem Xsk (t:Xp) (hn:t.Events.length<=90000):∀ (m n k:Nat),m=t.Events.length - k->m<n->k<=t.Events.length->X44 t t n (k:Int)=some .x1:=by
 intro m
 induction m with
 |zero =>
  intro n k hm hmn hk;obtain⟨n,rfl⟩:∃ q,n=q+1:=⟨n - 1,by omega⟩;rw[X44,Yf om];rfl
 |succ m ih =>
  intro n k hm hmn hk;obtain⟨n,rfl⟩:∃ q,n=q+1:=⟨n - 1,by omega⟩;have hlt:k<t.Events.length:=by omega
  rw[X44,Yt om,cond_true,X32,Ye hlt,Yo,Yo,show Xfj t.Events[k] t.Events[k]=true by simp[Xfj,X3p],Bool.not_true,cond_false,X0g om om,show((k:Int)+1)=((k+1:Nat):Int) by omega,ih n (k+1) om om om]
theorem Xsj (t:Xp) (hn:t.Rows.length<=90000):∀ (m n k:Nat),m=t.Rows.length - k->m<n->k<=t.Rows.length->X43 t t n (k:Int)=some .x1:=by
 intro m
 induction m with
 |zero =>
  intro n k hm hmn hk;obtain⟨n,rfl⟩:∃ q,n=q+1:=⟨n - 1,by omega⟩;rw[X43,Yf om];rfl
 |succ m ih =>
  intro n k hm hmn hk;obtain⟨n,rfl⟩:∃ q,n=q+1:=⟨n - 1,by omega⟩;have hlt:k<t.Rows.length:=by omega
  rw[X43,Yt om,cond_true,X32,Ye hlt,Yo,Yo,show X9y t.Rows[k] t.Rows[k]=true by simp[X9y,Xap,Xeh],Bool.not_true,cond_false,X0g om om,show((k:Int)+1)=((k+1:Nat):Int) by omega,ih n (k+1) om om om]
theorem Xsi (t:Xp) (hn:t.Late.length<=90000):∀ (m n k:Nat),m=t.Late.length - k->m<n->k<=t.Late.length->X42 t t n (k:Int)=some .x1:=by
 intro m
 induction m with
 |zero =>
  intro n k hm hmn hk;obtain⟨n,rfl⟩:∃ q,n=q+1:=⟨n - 1,by omega⟩;rw[X42,Yf om];rfl
 |succ m ih =>
  intro n k hm hmn hk;obtain⟨n,rfl⟩:∃ q,n=q+1:=⟨n - 1,by omega⟩;have hlt:k<t.Late.length:=by omega
  rw[X42,Yt om,cond_true,X32,Ye hlt,Yo,Yo,show X3p t.Late[k] t.Late[k]=true by simp[X3p],Bool.not_true,cond_false,X0g om om,show((k:Int)+1)=((k+1:Nat):Int) by omega,ih n (k+1) om om om]
theorem Xnl {t:Xp} (h1:t.Pending.length<=90000) (h2:t.Marks.length<=90000) (h3:t.Store.length<=90000) (h4:t.Events.length<=90000) (h5:t.Rows.length<=90000) (h6:t.Late.length<=90000):Xah t t=some true:=by
 have e0:=Xsm t h2 (t.Marks.length - 0) FU 0 rfl (by unfold FU;omega) om;have e1:=Xsl t h3 (t.Store.length - 0) FU 0 rfl (by unfold FU;omega) om;have e2:=Xsk t h4 (t.Events.length - 0) FU 0 rfl (by unfold FU;omega) om;have e3:=Xsj t h5 (t.Rows.length - 0) FU 0 rfl (by unfold FU;omega) om;have e4:=Xsi t h6 (t.Late.length - 0) FU 0 rfl (by unfold FU;omega) om;rw[show((0:Nat):Int)=0 from rfl] at e0 e1 e2 e3 e4;have es:X4w t.Pending t.Pending=some true:=by
  unfold X4w;rw[show((List.length t.Pending:Int) != (List.length t.Pending:Int))=false by simp,cond_false,X2n om,Yo,Xft t.Pending t.Pending t.Pending 0 rfl];rfl
 have ho:X9h t.Op t.Op=true:=by simp[X9h]
 have ne:∀ z:Int,(z != z)=false:=λz=>by simp
 unfold Xah;rw[ho,es,e0,e1,e2,e3,e4];simp only[ne,Bool.not_true,cond_false,Yo]
end Go.D


namespace Go.D
theorem Xzq (q:X08):∃ b,X9f q=some b:=by
 unfold X9f;cases decide ((List.length q.Arg:Int)>100)<;>cases decide ((List.length q.Where:Int)>100)<;>exact⟨_,rfl⟩
end Go.D


namespace Go.D
theorem X00i:Xb7=some true:=by decide +kernel
end Go.D


namespace Go.D
theorem Xw0 (r:X8):X96 r=some (isT r.Time):=by
 unfold X96 isT;simp only[ge_iff_le];cases decide (-1099511627776<=r.Time)<;>rfl
theorem Xz2 (x:Int):Xai x=some (Xi9 x):=by
 unfold Xai Xi9 isT;simp only[ge_iff_le];cases decide (-1099511627776<=x)<;>cases decide (x<=1099511627776)<;>rfl
theorem Xmd (l:List X8) (t:Int) (q:X08) (b:Bool) (hl:l.length<=1000):∀ (xs:List X8) (k:Nat) (A B:List Xd) (C:List Int),l.drop k=xs->k<=l.length->A.length+xs.length<=1000->B.length+xs.length<=1000->C.length+xs.length<=1000 ->
  X1j l t q b xs k A B C=some .x1 \/
  (X1j l t q b xs k A B C=some (.x0 (A++xs.map Xno) (B++(l.reverse.drop k).map Xno) (C++xs.map λ_=>0))/\∀ x∈xs,isT x.Time=true)
 |[],k,A,B,C,h,hk,_,_,_=>by
  have hkl:l.length<=k:=List.drop_eq_nil_iff.1 h;have h3:l.reverse.drop k=[]:=List.drop_eq_nil_of_le (by rw[List.length_reverse];omega);refine .inr ⟨?_,λx hx=>(by cases hx)⟩;rw[X1j,h3];simp
 |x::xs,k,A,B,C,h,hk,hA,hB,hC=>by
  simp only[List.length_cons] at hA hB hC;have hkl:k<l.length:=by
   rcases Nat.lt_or_ge k l.length with g|g
   ·exact g
   ·rw[List.drop_eq_nil_of_le g] at h;cases h
  have hd:l.drop (k+1)=xs:=by
   have:=congrArg List.tail h;simpa using this
  have hw:IntKind.i64.wrap ((IntKind.i64.wrap ((List.length l:Int) - 1)) - (k:Int))=((l.length - 1 - k:Nat):Int):=by
   have e1:IntKind.i64.wrap ((List.length l:Int) - 1)=(List.length l:Int) - 1:=X0g om om;rw[e1,X0g om om];omega
  have hlr:l.length - 1 - k<l.length:=by omega
  have r1:l.reverse.drop k=l[l.length - 1 - k]::l.reverse.drop (k+1):=by
   rw[List.drop_eq_getElem_cons (by rw[List.length_reverse];exact hkl),List.getElem_reverse]
  rw[X1j,Xw0,Yo,hw];simp only[X32]
  cases hx:isT x.Time with
  |false=>exact .inl rfl
  |true =>
   simp only[Bool.not_true,cond_false];rw[X2o (by simp;omega),Yo,Ye hlr,Yo,X2o (by simp;omega),Yo,X2o (by simp;omega),Yo];rcases Xmd l t q b hl xs (k+1) (A++[Xno x]) (B++[Xno l[l.length - 1 - k]]) (C++[0]) hd om (by simp;omega) (by simp;omega) (by simp;omega) with e|⟨e,g1⟩
   ·exact .inl e
   ·refine .inr ⟨?_,λy hy=>?_⟩
    ·refine Eq.trans e ?_;rw[r1,List.map_cons,List.map_cons,List.map_cons];simp only[List.append_assoc,List.singleton_append]
    ·rcases List.mem_cons.1 hy with rfl|hy
     ·exact hx
     ·exact g1 y hy
theorem Xm8 (l Y:List X19):∀ (xs:List X19) (k:Nat),l.drop k=xs->X49 Y l xs k=some .x0
 |[],k,_=>rfl
 |x::xs,k,h=>by
  have hk:l[k]?=some x:=by
   have:=congrArg (λz=>z[0]?) h;simpa using this
  have hd:l.drop (k+1)=xs:=by
   have:=congrArg List.tail h;simpa using this
  rw[X49,X32,hk,Yo,show X9y x x=true by simp[X9y,Xap,Xeh]];exact Xm8 l Y xs (k+1) hd
theorem Xnk {l:List X19} (h:l.length<=140737488355328):X8p l l=some true:=by
 unfold X8p;rw[show((List.length l:Int) != (List.length l:Int))=false by simp,cond_false,X2n h,Yo,Xm8 l l l 0 rfl];rfl
def Xhp (l:List X8):List Pu:=l.map λr=>(r,0)
theorem Xaz (l:List X8):(Xhp l).map (λ_=>(0:Int))=l.map (λ_=>0)/\(Xhp l).map (λp=>Xno p.1)=l.map Xno/\(∀ p∈Xhp l,p.2=0)/\(Xhp l).length=l.length:=by
 unfold Xhp;refine⟨by rw[List.map_map];rfl,by rw[List.map_map];rfl,λp hp=>?_,by simp⟩;obtain⟨r,_,rfl⟩:=List.mem_map.1 hp;rfl
theorem Xpj {w:X0l} {l:List X8} (hl:l.length<=20) (g1:∀ x∈l,isT x.Time=true):Xq9 w (Xhp l):=by
 refine⟨λp hp=>?_,λp hp=>.inl ((Xaz l).2.2.1 p hp),by rw[(Xaz l).2.2.2];omega⟩;obtain⟨r,hr,rfl⟩:=List.mem_map.1 hp;have:=g1 _ hr;unfold isT at this;simp only[Bool.and_eq_true,decide_eq_true_eq] at this;exact this
theorem Xme {q:X08} (hq:QW q) (l:List X8) (t:Int):X5p q l t=some true:=by
 unfold X5p;rw[X00i,Yo];obtain⟨g,hg⟩:=Xzq q;rw[hg,Yo,Xw1 hq]
 cases g with
 |true=>rfl
 |false =>
 by_cases ha:(Xss q).2=0
 rotate_left
 ·rw[Yf ha];rfl
 rw[Yt ha]
 cases hj:q.Join with
 |true=>rfl
 |false =>
 by_cases hl:(List.length l:Int)>20
 ·rw[Yt hl];rfl
 rw[Yf hl,Xz2]
 cases ht:Xi9 t with
 |false=>rfl
 |true =>
 have hl':l.length<=20:=by omega
 simp only[cond_false,Yo,Bool.not_true];rw[X2n om,Yo];rcases Xmd l t q true om l 0 [] [] [] rfl om (by simp;omega) (by simp;omega) (by simp;omega) with e|⟨e,g1⟩
 ·rw[e];rfl
 rw[e,Yo];simp only[List.nil_append,List.drop_zero];rw[X2o (by simp;omega),Yo,show Xao t=some (Xe3 t) from rfl,Yo,X2o (by simp;omega),Yo];have hQ:RQ q:=⟨hq,ha⟩;obtain⟨a1,a2,a3,a4⟩:=Xaz l;obtain⟨b1,b2,b3,b4⟩:=Xaz l.reverse;have ok1:Xq9 q.Window (Xhp l):=Xpj hl' g1;have ok2:Xq9 q.Window (Xhp l.reverse):=Xpj (by simpa using hl') λx hx=>g1 x (List.mem_reverse.1 hx);obtain⟨es1,c1,s1,t1⟩:=Xm0 hQ hj ok1 a3 om ht;obtain⟨es2,c2,s2,t2⟩:=Xm0 hQ hj ok2 b3 (by rw[b4];simpa using hl') ht;rw[a1,a2] at t1;rw[b1,b2] at t2;have hz:(l.reverse.map λ_=>(0:Int))=l.map λ_=>0:=by
  rw[List.map_const',List.map_const',List.length_reverse]
 rw[hz] at t2;have hrev:Xhp l.reverse=(Xhp l).reverse:=by unfold Xhp;rw[List.map_reverse]
 rw[hrev] at c2;have he:es2=es1:=X7k.unique c2 (c1.perm (List.reverse_perm _).symm om);rw[he] at t2;rw[t1,Yo,X2o (by simp;omega),Yo,t2,Yo];have hf:=Xfi t es1;have hr:(Xbk t es1).length<=es1.length:=List.length_filter_le _ _;rw[Xnl (t:=aT [t] (Xbk t es1)) (by simp[aT]) (by simp[aT]) (by simp only[aT];omega) (by simp[aT]) (by simp[aT]) (by simp[aT])];simp only[cond_true,Yo];rw[Xnk (by unfold Xqm;rw[List.length_map];omega)];rfl
theorem Xf6 (q:X08) (l:List X8) (t:Int) (w0:Xhd q) {P:Prop} (_:P) {P2:Prop} (_:P2):X5p q l t=some true:=Xme (X031 w0) l t
end Go.D
