/- Parts of the proof, laid together. -/
import Derived.Test.YtkjlgmgfhgamlaaGreatDFunZ
set_option linter.all false

namespace Go.D
theorem X0l {z:Int} (h1 : -9223372036854775808<=z) (h2:z<=9223372036854775807):IntKind.i64.wrap z=z:=Go.IntWalk.i64_in z ⟨h1,h2⟩
theorem X2z {n:Nat} (h:n<=140737488355328):X5d n=some ():=by unfold X5d;rw[if_pos h]
theorem X45 {n b:Nat} (h:n*b<=140737488355328):X2b n b=some ():=by unfold X2b;rw[if_pos h]
theorem X4y {α:Type} (l:List α) (k:Nat):X3b l (k:Int)=l[k]?:=by simp[X3b]
def ltE (a b:X2):Prop:=a.Span.End<b.Span.End\/a.Span.End=b.Span.End/\(a.Span.Start<b.Span.Start\/a.Span.Start=b.Span.Start/\a.Key<b.Key)
instance (a b:X2):Decidable (ltE a b):=by unfold ltE;infer_instance
def X4d (a b:X2):Prop:=a.Key=b.Key/\a.Span=b.Span
instance (a b:X2):Decidable (X4d a b):=by unfold X4d;infer_instance
theorem Xgh {a b:X00} (h1:a.Start=b.Start) (h2:a.End=b.End):a=b:=by cases a;cases b;simp_all
theorem Xdu {a b c:X2} (h:ltE a b) (k:ltE b c):ltE a c:=by unfold ltE at *;omega
theorem Xq8 (a:X2):¬ ltE a a:=by unfold ltE;omega
theorem Xhj {a b:X2}:ltE a b\/X4d a b\/ltE b a:=by
 by_cases h:X4d a b
 ·exact .inr (.inl h)
 ·have:¬ (a.Key=b.Key/\a.Span.Start=b.Span.Start/\a.Span.End=b.Span.End):=fun⟨h1,h2,h3⟩=>h ⟨h1,Xgh h2 h3⟩
  unfold ltE;omega
theorem sameK_ltE {a b c:X2} (h:X4d a b):ltE c a↔ltE c b:=by unfold X4d at h;unfold ltE;rw[h.1,h.2]
theorem Xad {a b c:X2} (h:X4d a b):ltE a c↔ltE b c:=by unfold X4d at h;unfold ltE;rw[h.1,h.2]
theorem X7v {a b:X2} (h:X4d a b):¬ ltE a b:=by unfold X4d at h;unfold ltE;rw[h.1,h.2];omega
def cmpI (a b:Int):Int:=if a<b then -1 else if a>b then 1 else 0
theorem X01t (a b:Int):X2q a b=some (cmpI a b):=by
 simp only[X2q,X5a,bne_self_eq_false,Yo,cond_false,cmpI]
 by_cases h1:a<b
 ·simp[h1]
 ·by_cases h2:a>b
  ·simp[h1,h2]
  ·simp[h1,h2]
def Xr2 (a b:X2):Int:=if ltE a b then -1 else if ltE b a then 1 else 0
theorem X7m (a b:X2):X63 a b=some (Xr2 a b):=by
 simp only[X63,X01t,Yo,Xco,X5i,List.length_cons,List.length_nil]
 rw[X2z (by omega)]
 simp only[Yo,Xr2,ltE,cmpI]
 by_cases h1:a.Span.End<b.Span.End
 ·simp[h1]
 ·by_cases h2:a.Span.End>b.Span.End
  ·have:¬ a.Span.End=b.Span.End:=by omega
   simp[h1,h2,this]
  ·have he:a.Span.End=b.Span.End:=by omega
   by_cases h3:a.Span.Start<b.Span.Start
   ·simp[he,h3]
   ·by_cases h4:a.Span.Start>b.Span.Start
    ·have:¬ a.Span.Start=b.Span.Start:=by omega
     simp[he,h3,h4,this]
    ·have hs:a.Span.Start=b.Span.Start:=by omega
     by_cases h5:a.Key<b.Key
     ·simp[he,hs,h5]
     ·by_cases h6:a.Key>b.Key
      ·simp[he,hs,h5,h6]
      ·simp[he,hs,h5,h6]
theorem Xmw {a b:X2}:Xr2 a b<0↔ltE a b:=by
 unfold Xr2
 by_cases h:ltE a b
 ·simp[h]
 ·by_cases h2:ltE b a<;>simp[h,h2]
theorem Xyg {a b:X2}:Xr2 a b=0↔X4d a b:=by
 unfold Xr2
 by_cases h:ltE a b
 ·simp[h];exact fun hs=>X7v hs h
 ·by_cases h2:ltE b a
  ·simp[h,h2];exact fun hs=>h ((Xad hs).2 ((sameK_ltE hs).1 h2))
  ·simp[h,h2]
   rcases Xhj (a:=a) (b:=b) with h3|h3|h3
   ·exact absurd h3 h
   ·exact h3
   ·exact absurd h3 h2
theorem Xmx {a b:X2}:0<=Xr2 a b↔¬ ltE a b:=by rw[<-Xmw];omega
def okA (a:X0t):Prop:=(a.Count=0/\a=⟨0,0,0,0⟩)\/(a.Count=1/\a.Sum=a.Min/\a.Sum=a.Max)\/(1<a.Count/\a.Count<=1073741824/\a.Min<=a.Max)
theorem Xko (x y:X0t):X8q x y=decide (x=y):=by
 obtain⟨a,b,c,d⟩:=x
 obtain⟨e,f,g,h⟩:=y
 rw[Bool.eq_iff_iff]
 simp[X8q]
theorem X2g {a:X0t} (h:okA a):X2l a=some 0:=by
 rcases h with ⟨h1,h2⟩|⟨h1,h2,h3⟩|⟨h1,h2,h3⟩
 ·subst h2;rfl
 ·have h3':a.Min=a.Max:=by omega
  simp[X2l,h1,h2,h3']
 ·have e0:(a.Count==0)=false:=by simp;omega
  have e1:(a.Count==1)=false:=by simp;omega
  simp[X2l,e0,e1,h1,h2,h3]
def X3u (a b:X0t):X0t :=
 if a.Count=0 then b else if b.Count=0 then a else ⟨a.Count+b.Count,IntKind.i64.wrap (a.Sum+b.Sum),if b.Min<a.Min then b.Min else a.Min,if b.Max>a.Max then b.Max else a.Max⟩
theorem X4o {a:X0t} (h:okA a):0<=a.Count/\a.Count<=1073741824:=by
 rcases h with ⟨h1,_⟩|⟨h1,_⟩|⟨h1,h2,_⟩<;>omega
theorem X2w {a b:X0t} (ha:okA a) (hb:okA b) (hc:a.Count+b.Count<=1073741824):X1u a b=some (X3u a b,0):=by
 have h1:=X4o ha
 have h2:=X4o hb
 simp only[X1u,X2g ha,X2g hb,Yo,bne_self_eq_false,cond_false,X3u]
 rw[X0l (by omega) (by omega)]
 have e0:decide (a.Count+b.Count>1073741824)=false:=by simp;omega
 rw[e0,cond_false]
 by_cases h3:a.Count=0
 ·have e1:(a.Count==0)=true:=by simp[h3]
  rw[e1,cond_true,if_pos h3]
 ·have e1:(a.Count==0)=false:=by simp[h3]
  rw[e1,cond_false,if_neg h3]
  by_cases h4:b.Count=0
  ·have e2:(b.Count==0)=true:=by simp[h4]
   rw[e2,cond_true,if_pos h4]
  ·have e2:(b.Count==0)=false:=by simp[h4]
   rw[e2,cond_false,if_neg h4]
theorem Xsb {a:X0t} (h:okA a):a.Min<=a.Max:=by
 rcases h with ⟨_,h2⟩|⟨_,h2,h3⟩|⟨_,_,h3⟩
 ·subst h2;decide
 ·omega
 ·exact h3
theorem Xk2 {a b:X0t} (ha:okA a) (hb:okA b) (hc:a.Count+b.Count<=1073741824):okA (X3u a b):=by
 unfold X3u
 have h1:=X4o ha
 have h2:=X4o hb
 by_cases h3:a.Count=0
 ·rw[if_pos h3];exact hb
 ·rw[if_neg h3]
  by_cases h4:b.Count=0
  ·rw[if_pos h4];exact ha
  ·rw[if_neg h4]
   have m1:=Xsb ha
   have m2:=Xsb hb
   refine .inr (.inr ⟨?_,hc,?_⟩)
   ·show 1<a.Count+b.Count;omega
   ·show(if b.Min<a.Min then b.Min else a.Min)<=(if b.Max>a.Max then b.Max else a.Max)
    split<;>split<;>omega
def okE (x:X2):Prop := -1100585369600<=x.Span.Start/\x.Span.Start<x.Span.End/\x.Span.End<=1100585369600/\okA x.Values.e0/\okA x.Values.e1/\0<x.Values.e0.Count+x.Values.e1.Count
theorem X9z {x:X2} (h:okE x):X62 x=some true:=by
 obtain⟨h1,h2,h3,h4,h5,h6⟩:=h
 have c1:=X4o h4
 have c2:=X4o h5
 have e1:¬ x.Span.Start < -1100585369600:=by omega
 have e2:¬ x.Span.End<=x.Span.Start:=by omega
 have e3:¬ x.Span.End>1100585369600:=by omega
 simp only[X62,X2g h4,X2g h5,Yo]
 rw[X0l (by omega) (by omega)]
 have e3:¬ 1100585369600<x.Span.End:=by omega
 simp[e1,e2,e3,h6]
theorem X7a (l:List X2) (hs:l.Pairwise ltE) (ho:∀ x∈l,okE x) (hn:l.length<=1000000):∀ (xs:List X2) (k:Nat),l.drop k=xs->X2r l xs k=some .x0:=by
 intro xs
 induction xs with
 |nil=>intro k _;rfl
 |cons x xs ih =>
  intro k hk
  have hlt:k<l.length:=by
   rcases Nat.lt_or_ge k l.length with h|h
   ·exact h
   ·rw[List.drop_eq_nil_of_le h] at hk;cases hk
  have hx:l[k]?=some x:=by have:=congrArg List.head? hk;simpa[List.head?_drop] using this
  have hmem:x∈l:=Yg hx
  have hnext:l.drop (k+1)=xs:=by rw[<-List.tail_drop,hk];rfl
  rw[X2r]
  simp only[X9z (ho x hmem),Yo,Bool.not_true,cond_false,cond_true]
  by_cases h0:k=0
  ·subst h0
   simp only[Int.ofNat_zero,Int.cast_ofNat_Int,gt_iff_lt,Int.lt_irrefl,decide_false,cond_false,Yo]
   exact ih 1 hnext
  ·have hpos:decide ((k:Int)>0)=true:=by simp;omega
   rw[hpos,cond_true]
   have hw:IntKind.i64.wrap ((k:Int) - 1)=((k - 1:Nat):Int):=by rw[X0l (by omega) (by omega)];omega
   rw[hw,X4y]
   have hp:l[k - 1]?=some l[k - 1]:=Ye (by omega)
   rw[hp]
   have hlt2:ltE l[k - 1] x:=by
    have h3:=List.pairwise_iff_getElem.1 hs (k - 1) k (by omega) hlt (by omega)
    have:l[k]=x:=by rw[Ye hlt] at hx;exact Option.some.inj hx
    rwa [this] at h3
   have hord:¬ (0<=Xr2 l[k - 1] x):=by rw[Xmx];exact fun h=>h hlt2
   simp only[Yo,X7m,ge_iff_le,hord,decide_false,cond_false]
   exact ih (k+1) hnext
theorem Xa0 {l:List X2} (hs:l.Pairwise ltE) (ho:∀ x∈l,okE x) (hn:l.length<=4000):X3x l=some 0:=by
 unfold X3x
 have:¬ ((l.length:Int)>4000):=by omega
 simp only[this,decide_false,cond_false]
 rw[X2z (by omega),X7a l hs ho (by omega) l 0 rfl]
 rfl
theorem X012 {i j:Nat} (h:i+j<=1000000):IntKind.i64.wrap (Int.fdiv (IntKind.u64.wrap (IntKind.i64.wrap ((i:Int)+(j:Int)))) (2 ^ (min (Int.toNat 1) IntKind.u64.bits)))=(((i+j) / 2:Nat):Int):=by
 have h1:IntKind.i64.wrap ((i:Int)+(j:Int))=(i:Int)+j:=X0l (by omega) (by omega)
 rw[h1]
 have h2:IntKind.u64.wrap ((i:Int)+j)=(i:Int)+j:=Go.IntWalk.u64_in _ ⟨by omega,by omega⟩
 rw[h2]
 have h3:(min (Int.toNat 1) IntKind.u64.bits)=1:=by decide
 rw[h3]
 have h4:Int.fdiv ((i:Int)+j) (2 ^ 1)=(((i+j) / 2:Nat):Int):=by
  rw[Int.fdiv_eq_ediv_of_nonneg _ (by decide)]
  omega
 rw[h4,X0l (by omega) (by omega)]
theorem X04e (l:List X2) (x:X2) (c:Nat) (n:Int) (hn:l.length<=400000) (hc:∀ (k:Nat) y,l[k]?=some y->(ltE y x↔k<c)):∀ (f i j:Nat),i<=c->c<=j->j<=l.length->j - i<f ->
  Xo l x n f i j=some (.x0 c):=by
 intro f
 induction f with
 |zero=>intro i j _ _ _ h;omega
 |succ f ih =>
  intro i j h1 h2 h3 h4
  rw[Xo]
  by_cases hij:i<j
  ·have hd:decide ((i:Int)<(j:Int))=true:=by simp;exact hij
   rw[hd,cond_true,X012 (by omega),X4y]
   have hm:(i+j) / 2<l.length:=by omega
   rw[Ye hm]
   simp only[Yo,X7m]
   have hcc:=hc ((i+j) / 2) _ (Ye hm)
   by_cases hl:ltE l[(i+j) / 2] x
   ·have:Xr2 l[(i+j) / 2] x<0:=Xmw.2 hl
    simp only[this,decide_true,cond_true]
    rw[X0l (by omega) (by omega)]
    have:=hcc.1 hl
    have h5:=ih ((i+j) / 2+1) j (by omega) h2 h3 (by omega)
    simpa using h5
   ·have:¬ Xr2 l[(i+j) / 2] x<0:=fun h=>hl (Xmw.1 h)
    simp only[this,decide_false,cond_false]
    have:¬ (i+j) / 2<c:=fun h=>hl (hcc.2 h)
    exact ih i ((i+j) / 2) h1 (by omega) (by omega) (by omega)
  ·have hd:decide ((i:Int)<(j:Int))=false:=by simp;omega
   rw[hd,cond_false]
   have:i=c:=by omega
   rw[this]
def cnt (l:List X2) (x:X2):Nat:=(l.takeWhile fun y=>decide (ltE y x)).length
theorem Xph (l:List X2) (x:X2):cnt l x<=l.length:=by unfold cnt;exact(List.takeWhile_sublist _).length_le
theorem Xoh {l:List X2} {x:X2} (hs:l.Pairwise ltE):∀ (k:Nat) y,l[k]?=some y->(ltE y x↔k<cnt l x):=by
 induction l with
 |nil=>intro k y h;simp at h
 |cons z l ih =>
  intro k y h
  rw[List.pairwise_cons] at hs
  unfold cnt
  by_cases hz:ltE z x
  ·rw[List.takeWhile_cons_of_pos (by simpa using hz)]
   cases k with
   |zero=>simp at h;subst h;simp[hz]
   |succ k =>
    simp at h
    have:=ih hs.2 k y h
    unfold cnt at this
    rw[this];simp
  ·rw[List.takeWhile_cons_of_neg (by simpa using hz)]
   simp only[List.length_nil,Nat.not_lt_zero,iff_false]
   cases k with
   |zero=>simp at h;subst h;exact hz
   |succ k =>
    simp at h
    exact fun hy=>hz (Xdu (hs.1 y (Yg h)) hy)
theorem Xzz {l:List X2} {x:X2} (hs:l.Pairwise ltE) (hn:l.length<=50000) :
  Xc l x=some ((cnt l x:Int),match l[cnt l x]? with|some y=>decide (X4d y x)|none=>false):=by
 unfold Xc
 have h0:=X04e l x (cnt l x) (l.length:Int) (by omega) (Xoh hs) FU 0 l.length (by omega) (Xph l x) (Nat.le_refl _) (by unfold FU;omega)
 rw[show((0:Nat):Int)=0 from rfl] at h0
 rw[h0]
 simp only[Yo]
 by_cases hlt:cnt l x<l.length
 ·have hd:decide ((cnt l x:Int)<(l.length:Int))=true:=by simp;exact hlt
  rw[hd,X4y,Ye hlt]
  simp only[cond_true,Yo,X7m]
  congr 2
  rw[Bool.eq_iff_iff]
  simp[Xyg]
 ·have hd:decide ((cnt l x:Int)<(l.length:Int))=false:=by simp;omega
  rw[hd,List.getElem?_eq_none (by omega)]
  rfl
end Go.D


namespace Go.D
def Xjh (y x:X2):X2:=⟨y.Key,y.Span,⟨X3u y.Values.e0 x.Values.e0,X3u y.Values.e1 x.Values.e1⟩⟩
def Xip:List X2->X2->List X2
 |[],x=>[x]
 |y::l,x=>if ltE y x then y::Xip l x else if X4d y x then Xjh y x::l else x::y::l
theorem Xmv {l:List X2} {x:X2} (hs:l.Pairwise ltE) :
  Xip l x=(match l[cnt l x]? with
   |none=>l++[x]
   |some y=>if X4d y x then l.set (cnt l x) (Xjh y x) else l.take (cnt l x)++x::l.drop (cnt l x)):=by
 induction l with
 |nil=>rfl
 |cons z l ih =>
  rw[List.pairwise_cons] at hs
  unfold Xip
  by_cases hz:ltE z x
  ·have hc:cnt (z::l) x=cnt l x+1:=by unfold cnt;rw[List.takeWhile_cons_of_pos (by simpa using hz)];rfl
   rw[if_pos hz,hc,ih hs.2]
   simp only[List.getElem?_cons_succ]
   cases h:l[cnt l x]? with
   |none=>rfl
   |some y =>
    simp only
    split
    ·rfl
    ·rfl
  ·have hc:cnt (z::l) x=0:=by unfold cnt;rw[List.takeWhile_cons_of_neg (by simpa using hz)];rfl
   rw[if_neg hz,hc]
   simp only[List.getElem?_cons_zero]
   split<;>rfl
def putF (l:List X2) (x:X2):Option (List X2×Int) :=
 (Xc l x).bind fun v1393=>bif (!v1393.2) then (bif (v1393.1==(List.length l:Int)) then (((X6d l v1393.1 (List.length l:Int)).bind fun m1405=>bif (List.isEmpty m1405) then ((X2b (List.length (l++[x])) 88).bind fun u1408=>some ()) else ((X2b (List.length (l++[x])) 88).bind fun u1410=>some ()):Option (Unit)).bind fun _=>some ((l++[x]),0)) else ((Xnz l v1393.1 x 88).bind fun m1413=>some (m1413,0))) else ((X3b l v1393.1).bind fun e1415=>((X1u e1415.Values.e0 x.Values.e0).bind fun v1430=>bif (v1430.2 != (0:Int)) then (some (l,v1430.2)) else ((X1u (((X2.mk e1415.Key e1415.Span (V2.mk v1430.1 e1415.Values.e1)).Values).e1) x.Values.e1).bind fun v1435=>bif (v1435.2 != (0:Int)) then (some ((List.set l (Int.toNat v1393.1) (X2.mk e1415.Key e1415.Span (V2.mk v1430.1 e1415.Values.e1))),v1435.2)) else (some ((List.set (List.set l (Int.toNat v1393.1) (X2.mk e1415.Key e1415.Span (V2.mk v1430.1 e1415.Values.e1))) (Int.toNat v1393.1) (X2.mk ((X2.mk e1415.Key e1415.Span (V2.mk v1430.1 e1415.Values.e1)).Key) ((X2.mk e1415.Key e1415.Span (V2.mk v1430.1 e1415.Values.e1)).Span) (V2.mk (((X2.mk e1415.Key e1415.Span (V2.mk v1430.1 e1415.Values.e1)).Values).e0) v1435.1))),0))):Option ((List X2)×Int)).bind fun w1427=>some (w1427.1,w1427.2))
theorem Xye {l:List X2} {x:X2} (hs:l.Pairwise ltE) (hn:l.length<=10000) (hx:okA x.Values.e0/\okA x.Values.e1)
  (ho:∀ y∈l,X4d y x->okA y.Values.e0/\okA y.Values.e1/\y.Values.e0.Count+x.Values.e0.Count<=1073741824/\y.Values.e1.Count+x.Values.e1.Count<=1073741824):putF l x=some (Xip l x,0):=by
 unfold putF
 rw[Xzz hs (by omega),Xmv hs]
 have hle:=Xph l x
 cases h:l[cnt l x]? with
 |none =>
  have hc:cnt l x=l.length:=by
   have:=List.getElem?_eq_none_iff.1 h;omega
  have hsl:X6d l (l.length:Int) (l.length:Int)=some []:=by simp[X6d]
  simp only[Yo,Bool.not_false,cond_true,hc,beq_self_eq_true,hsl]
  rw[X45 (by simp;omega)]
  rfl
 |some y =>
  have hlt:cnt l x<l.length:=(Ys.1 h).1
  simp only[Yo]
  by_cases hk:X4d y x
  ·obtain⟨a1,a2,a3,a4⟩:=ho y (Yg h) hk
   simp only[hk,decide_true,Bool.not_true,cond_false,X4y,h,Yo,X2w a1 hx.1 a3,X2w a2 hx.2 a4,bne_self_eq_false,if_true,Int.toNat_natCast,List.set_set]
   rfl
  ·have hne:((cnt l x:Int)==(l.length:Int))=false:=by simp;omega
   have hi:Xnz l (cnt l x:Int) x 88=some (l.take (cnt l x)++x::l.drop (cnt l x)):=by
    unfold Xnz;rw[if_pos ⟨by omega,by simpa using hlt,by omega⟩];simp
   simp only[hk,decide_false,Bool.not_false,cond_true,hne,cond_false,hi,Yo,if_false]
theorem Xgi {l:List X2} {x:X2} (hs:l.Pairwise ltE) (e:X2) :
  e∈Xip l x↔(e∈l/\¬ X4d e x)\/(∃ y∈l,X4d y x/\e=Xjh y x)\/((∀ y∈l,¬ X4d y x)/\e=x):=by
 induction l with
 |nil=>simp[Xip]
 |cons z l ih =>
  rw[List.pairwise_cons] at hs
  unfold Xip
  by_cases hz:ltE z x
  ·have hnz:¬ X4d z x:=fun h=>X7v h hz
   rw[if_pos hz,List.mem_cons,ih hs.2]
   constructor
   ·rintro(rfl|⟨h1,h2⟩|⟨y,h1,h2,h3⟩|⟨h1,h2⟩)
    ·exact .inl ⟨List.mem_cons_self,hnz⟩
    ·exact .inl ⟨List.mem_cons_of_mem _ h1,h2⟩
    ·exact .inr (.inl ⟨y,List.mem_cons_of_mem _ h1,h2,h3⟩)
    ·exact .inr (.inr ⟨fun y hy=>(List.mem_cons.1 hy).elim (fun h=>h▸hnz) (h1 y),h2⟩)
   ·rintro(⟨h1,h2⟩|⟨y,h1,h2,h3⟩|⟨h1,h2⟩)
    ·rcases List.mem_cons.1 h1 with h1|h1
     ·exact .inl h1
     ·exact .inr (.inl ⟨h1,h2⟩)
    ·rcases List.mem_cons.1 h1 with h1|h1
     ·subst h1;exact absurd h2 hnz
     ·exact .inr (.inr (.inl ⟨y,h1,h2,h3⟩))
    ·exact .inr (.inr (.inr ⟨fun y hy=>h1 y (List.mem_cons_of_mem _ hy),h2⟩))
  ·rw[if_neg hz]
   have hno:∀ y∈l,¬ (X4d z x/\X4d y x):=fun y hy ⟨h1,h2⟩=>by
    have:=hs.1 y hy
    exact X7v (a:=y) (b:=y) ⟨rfl,rfl⟩ (by rw[Xad (c:=y) h1] at this;rw[<-Xad h2] at this;exact this)
   by_cases hk:X4d z x
   ·rw[if_pos hk,List.mem_cons]
    constructor
    ·rintro(rfl|h1)
     ·exact .inr (.inl ⟨z,List.mem_cons_self,hk,rfl⟩)
     ·exact .inl ⟨List.mem_cons_of_mem _ h1,fun h=>hno e h1 ⟨hk,h⟩⟩
    ·rintro(⟨h1,h2⟩|⟨y,h1,h2,h3⟩|⟨h1,h2⟩)
     ·rcases List.mem_cons.1 h1 with h1|h1
      ·subst h1;exact absurd hk h2
      ·exact .inr h1
     ·rcases List.mem_cons.1 h1 with h1|h1
      ·subst h1;exact .inl h3
      ·exact absurd ⟨hk,h2⟩ (hno y h1)
     ·exact absurd hk (h1 z List.mem_cons_self)
   ·rw[if_neg hk]
    have hxz:ltE x z:=by
     rcases Xhj (a:=z) (b:=x) with h|h|h
     ·exact absurd h hz
     ·exact absurd h hk
     ·exact h
    have hn:∀ y∈l,¬ X4d y x:=fun y hy h=>by
     have h1:=Xdu hxz (hs.1 y hy)
     exact X7v (a:=y) (b:=y) ⟨rfl,rfl⟩ (by rw[<-Xad h] at h1;exact h1)
    rw[List.mem_cons]
    constructor
    ·rintro(rfl|h1)
     ·exact .inr (.inr ⟨fun y hy=>(List.mem_cons.1 hy).elim (fun h=>h▸hk) (hn y),rfl⟩)
     ·exact .inl ⟨h1,fun h=>(List.mem_cons.1 h1).elim (fun h2=>hk (h2▸h)) (fun h2=>hn e h2 h)⟩
    ·rintro(⟨h1,h2⟩|⟨y,h1,h2,h3⟩|⟨h1,h2⟩)
     ·exact .inr h1
     ·rcases List.mem_cons.1 h1 with h1|h1
      ·subst h1;exact absurd h2 hk
      ·exact absurd h2 (hn y h1)
     ·exact .inl h2
theorem Xhf (y x:X2):X4d (Xjh y x) y:=⟨rfl,rfl⟩
theorem Xd4 {l:List X2} {x:X2} (hs:l.Pairwise ltE):(Xip l x).Pairwise ltE:=by
 induction l with
 |nil=>exact List.pairwise_singleton _ _
 |cons z l ih =>
  have hs0:=hs
  rw[List.pairwise_cons] at hs
  unfold Xip
  by_cases hz:ltE z x
  ·rw[if_pos hz,List.pairwise_cons]
   refine⟨fun e he=>?_,ih hs.2⟩
   rcases(Xgi hs.2 e).1 he with ⟨h1,_⟩|⟨y,h1,h2,rfl⟩|⟨_,rfl⟩
   ·exact hs.1 e h1
   ·rw[sameK_ltE (Xhf y x)];exact hs.1 y h1
   ·exact hz
  ·rw[if_neg hz]
   by_cases hk:X4d z x
   ·rw[if_pos hk,List.pairwise_cons]
    exact⟨fun e he=>by rw[Xad (Xhf z x)];exact hs.1 e he,hs.2⟩
   ·rw[if_neg hk,List.pairwise_cons]
    have hxz:ltE x z:=by
     rcases Xhj (a:=z) (b:=x) with h|h|h
     ·exact absurd h hz
     ·exact absurd h hk
     ·exact h
    exact⟨fun e he=>(List.mem_cons.1 he).elim (fun h=>h▸hxz) (fun h=>Xdu hxz (hs.1 e h)),hs0⟩
theorem Xgj (l:List X2) (x:X2):(Xip l x).length<=l.length+1:=by
 induction l with
 |nil=>simp[Xip]
 |cons z l ih =>
  unfold Xip
  split
  ·simp;exact ih
  ·split<;>simp
end Go.D


namespace Go.D
theorem Xre (z:Int):IntKind.i64.wrap z=(z+9223372036854775808) % 18446744073709551616 - 9223372036854775808:=by
 have h:IntKind.i64.wrap z=if z % 18446744073709551616 >= 9223372036854775808 then z % 18446744073709551616 - 18446744073709551616 else z % 18446744073709551616:=by
  unfold IntKind.wrap
  simp[IntKind.bits,IntKind.signed]
 rw[h]
 split<;>omega
theorem X00q (a b:Int):IntKind.i64.wrap (IntKind.i64.wrap a+b)=IntKind.i64.wrap (a+b):=by simp only[Xre];omega
theorem X00p (a b:Int):IntKind.i64.wrap (a+IntKind.i64.wrap b)=IntKind.i64.wrap (a+b):=by simp only[Xre];omega
def Xaq:X0t:=⟨0,0,0,0⟩
def ofA (v:Int):X0t:=⟨1,v,v,v⟩
theorem Xhd (v:Int):okA (ofA v):=.inr (.inl ⟨rfl,rfl,rfl⟩)
theorem Xdd:okA Xaq:=.inl ⟨rfl,rfl⟩
theorem Xmc {a b:X0t} (h1:a.Count=b.Count) (h2:a.Sum=b.Sum) (h3:a.Min=b.Min) (h4:a.Max=b.Max):a=b:=by cases a;cases b;simp_all
theorem Xk1 (a:X0t):X3u Xaq a=a:=by unfold X3u;rw[if_pos (show Xaq.Count=0 from rfl)]
theorem Xgn {a:X0t} (h:okA a):X3u a Xaq=a:=by
 unfold X3u
 by_cases h0:a.Count=0
 ·rw[if_pos h0]
  rcases h with ⟨_,h⟩|⟨h,_⟩|⟨h,_⟩
  ·exact h.symm
  ·omega
  ·omega
 ·rw[if_neg h0,if_pos (show Xaq.Count=0 from rfl)]
theorem Xq9 {a b:X0t} (ha:okA a) (hb:okA b):X3u a b=X3u b a:=by
 by_cases h1:a.Count=0
 ·have:a=Xaq:=by
   rcases ha with ⟨_,h⟩|⟨h,_⟩|⟨h,_⟩
   ·exact h
   ·omega
   ·omega
  rw[this,Xk1,Xgn hb]
 ·by_cases h2:b.Count=0
  ·have:b=Xaq:=by
    rcases hb with ⟨_,h⟩|⟨h,_⟩|⟨h,_⟩
    ·exact h
    ·omega
    ·omega
   rw[this,Xk1,Xgn ha]
  ·unfold X3u
   rw[if_neg h1,if_neg h2,if_neg h2,if_neg h1]
   apply Xmc
   ·show a.Count+b.Count=b.Count+a.Count;omega
   ·show IntKind.i64.wrap (a.Sum+b.Sum)=IntKind.i64.wrap (b.Sum+a.Sum);rw[Int.add_comm]
   ·show(if b.Min<a.Min then b.Min else a.Min)=(if a.Min<b.Min then a.Min else b.Min);split<;>split<;>omega
   ·show(if b.Max>a.Max then b.Max else a.Max)=(if a.Max>b.Max then a.Max else b.Max);split<;>split<;>omega
theorem Xd7 {a b c:X0t} (ha:0<=a.Count) (hb:0<=b.Count) (hc:0<=c.Count):X3u (X3u a b) c=X3u a (X3u b c):=by
 by_cases h1:a.Count=0
 ·have e:∀ x,X3u a x=x:=fun x=>by unfold X3u;rw[if_pos h1]
  rw[e,e]
 ·by_cases h2:b.Count=0
  ·have e1:X3u a b=a:=by unfold X3u;rw[if_neg h1,if_pos h2]
   have e2:X3u b c=c:=by unfold X3u;rw[if_pos h2]
   rw[e1,e2]
  ·by_cases h3:c.Count=0
   ·have e:∀ x:X0t,x.Count≠0->X3u x c=x:=fun x hx=>by unfold X3u;rw[if_neg hx,if_pos h3]
    have hab:(X3u a b).Count≠0:=by unfold X3u;rw[if_neg h1,if_neg h2];show a.Count+b.Count≠0;omega
    rw[e _ hab,e _ h2]
   ·have e:∀ x y:X0t,x.Count≠0->y.Count≠0->X3u x y=⟨x.Count+y.Count,IntKind.i64.wrap (x.Sum+y.Sum),if y.Min<x.Min then y.Min else x.Min,if y.Max>x.Max then y.Max else x.Max⟩:=fun x y hx hy=>by unfold X3u;rw[if_neg hx,if_neg hy]
    rw[e a b h1 h2,e b c h2 h3,e _ c (by show a.Count+b.Count≠0;omega) h3,e a _ h1 (by show b.Count+c.Count≠0;omega)]
    apply Xmc
    ·show a.Count+b.Count+c.Count=a.Count+(b.Count+c.Count);omega
    ·show IntKind.i64.wrap (IntKind.i64.wrap (a.Sum+b.Sum)+c.Sum)=IntKind.i64.wrap (a.Sum+IntKind.i64.wrap (b.Sum+c.Sum));rw[X00q,X00p,Int.add_assoc]
    ·dsimp only;repeat' split<;>first|rfl|omega
    ·dsimp only;repeat' split<;>first|rfl|omega
def Xcq (l:List Int):X0t:=l.foldl (fun a v=>X3u a (ofA v)) Xaq
theorem Xc8 (l:List Int) (v:Int):Xcq (l++[v])=X3u (Xcq l) (ofA v):=by unfold Xcq;rw[List.foldl_append];rfl
theorem Xku:Xcq []=Xaq:=rfl
theorem Xcp (v:Int):Xcq [v]=ofA v:=Xk1 _
theorem X3i:∀ (l:List Int),(Xcq l).Count=l.length:=by
 have key:∀ (l:List Int) (a:X0t),0<=a.Count->(l.foldl (fun a v=>X3u a (ofA v)) a).Count=a.Count+l.length:=by
  intro l
  induction l with
  |nil=>intro a _;simp
  |cons v l ih =>
   intro a ha
   have h1:(X3u a (ofA v)).Count=a.Count+1:=by
    unfold X3u
    by_cases h:a.Count=0
    ·rw[if_pos h,h];rfl
    ·rw[if_neg h,if_neg (by show ¬ (1:Int)=0;omega)];rfl
   rw[List.foldl_cons,ih _ (by omega),h1];simp;omega
 intro l
 rw[Xcq,key l Xaq (Int.le_refl _)]
 show(0:Int)+_=_;omega
theorem Xi5:∀ {l:List Int},l.length<=1073741824->okA (Xcq l):=by
 have key:∀ (n:Nat) (l:List Int),l.length=n->n<=1073741824->okA (Xcq l):=by
  intro n
  induction n with
  |zero=>intro l hl _;rw[List.eq_nil_of_length_eq_zero hl];exact Xdd
  |succ n ih =>
   intro l hl hn
   have hne:l≠[]:=fun h=>by rw[h] at hl;cases hl
   have hd:l.dropLast.length=n:=by rw[List.length_dropLast];omega
   rw[<-List.dropLast_concat_getLast hne,Xc8]
   refine Xk2 (ih _ hd (by omega)) (Xhd _) ?_
   rw[X3i,hd]
   show(n:Int)+1<=_;omega
 intro l h
 exact key l.length l rfl h
theorem X6b:∀ (b a:List Int),Xcq (a++b)=X3u (Xcq a) (Xcq b):=by
 have key:∀ (n:Nat) (b a:List Int),b.length=n->Xcq (a++b)=X3u (Xcq a) (Xcq b):=by
  intro n
  induction n with
  |zero =>
   intro b a hb
   rw[List.eq_nil_of_length_eq_zero hb,List.append_nil,Xku]
   by_cases h0:(Xcq a).Count=0
   ·have:a=[]:=List.eq_nil_of_length_eq_zero (by rw[X3i] at h0;omega)
    rw[this];rfl
   ·unfold X3u;rw[if_neg h0,if_pos (show Xaq.Count=0 from rfl)]
  |succ n ih =>
   intro b a hb
   have hne:b≠[]:=fun h=>by rw[h] at hb;cases hb
   have hd:b.dropLast.length=n:=by rw[List.length_dropLast];omega
   rw[<-List.dropLast_concat_getLast hne,<-List.append_assoc,Xc8,Xc8,ih _ _ hd]
   exact Xd7 (by rw[X3i];omega) (by rw[X3i];omega) (by show(0:Int)<=1;decide)
 intro b a
 exact key b.length b a rfl
theorem Xmd {a b:List Int} (h:a.Perm b):a.length<=1073741824->Xcq a=Xcq b:=by
 induction h with
 |nil=>intro _;rfl
 |@cons x l1 l2 h ih =>
  intro hl
  have:=ih (by simp at hl;omega)
  rw[show x::l1=[x]++l1 from rfl,show x::l2=[x]++l2 from rfl,X6b,X6b,this]
 |swap x y l =>
  intro hl
  rw[show y::x::l=[y]++([x]++l) from rfl,show x::y::l=[x]++([y]++l) from rfl,X6b,X6b,X6b,X6b,Xcp,Xcp]
  rw[<-Xd7 (by show(0:Int)<=1;decide) (by show(0:Int)<=1;decide) (by rw[X3i];omega),Xq9 (Xhd y) (Xhd x),Xd7 (by show(0:Int)<=1;decide) (by show(0:Int)<=1;decide) (by rw[X3i];omega)]
 |trans h1 _ ih1 ih2=>intro hl;rw[ih1 hl,ih2 (by rw[<-h1.length_eq];exact hl)]
abbrev Pu:=Xl×Int
def inS (s:X00) (t:Int):Prop:=s.Start<=t/\t<s.End
instance (s:X00) (t:Int):Decidable (inS s t):=by unfold inS;infer_instance
def vals (L:List Pu) (k:Int) (s:X00) (side:Int):List Int:=(L.filter fun p=>decide (p.1.Key=k/\inS s p.1.Time/\p.2=side)).map fun p=>p.1.Value
def X8v (L:List Pu) (k t:Int):Prop:=∃ p∈L,p.1.Key=k/\p.1.Time=t
def Xls (size every t:Int) (s:X00):Prop:=s.Start % every=0/\s.End=s.Start+size/\inS s t
def cov (size:Int) (T:Int->Prop) (x:Int):Prop:=∃ t,T t/\2*t<x/\x<2*(t+size)
def Xh8 (size:Int) (T:Int->Prop) (s:X00):Prop:=s.Start<s.End/\(∀ x,2*s.Start<x->x<2*s.End->cov size T x)/\¬ cov size T (2*s.Start)/\¬ cov size T (2*s.End)
def Xcy (w:X0s):Int:=if w.Kind=1 then w.Size else w.Every
def Xel (w:X0s) (T:Int->Prop) (s:X00):Prop:=if w.Kind=3 then Xh8 w.Size T s else ∃ t,T t/\Xls w.Size (Xcy w) t s
def Xe9 (L:List Pu) (k:Int) (s:X00):V2 X0t:=⟨Xcq (vals L k s 0),Xcq (vals L k s 1)⟩
def Xqo (w:X0s) (L:List Pu) (e:X2):Prop:=Xel w (X8v L e.Key) e.Span/\e.Values=Xe9 L e.Key e.Span
structure Xed (w:X0s) (L:List Pu) (es:List X2):Prop where
 sorted:es.Pairwise ltE
 mem:∀ e,e∈es↔Xqo w L e
 cover:w.Kind=3->∀ k t,X8v L k t->∃ e∈es,e.Key=k/\e.Span.Start<=t/\t+w.Size<=e.Span.End
theorem Xjq (L:List Pu) (k:Int) (s:X00) (side:Int):(vals L k s side).length<=L.length:=by unfold vals;rw[List.length_map];exact List.length_filter_le _ _
end Go.D


namespace Go.D
theorem Xm3 (x y:X04):X6x x y=decide (x=y):=by
 obtain⟨a,b,c,d,e⟩:=x
 obtain⟨f,g,h,i,j⟩:=y
 rw[Bool.eq_iff_iff]
 simp[X6x,and_assoc]
theorem Xjw {α:Type} {l:List α} {k:Nat} (h:k<=l.length):X6d l 0 (k:Int)=some (l.take k):=by
 unfold X6d;rw[if_pos ⟨by omega,by omega,by simpa using h⟩];simp
theorem Xen {α:Type} {l:List α} {k:Nat} (h:k<=l.length):X6d l (k:Int) (l.length:Int)=some (l.drop k):=by
 unfold X6d;rw[if_pos ⟨by omega,by omega,by simp⟩]
 simp only[Int.toNat_natCast]
 rw[List.take_of_length_le (by rw[List.length_drop];exact Nat.le_refl _)]
def okN (x:X04) (a b:Int):Prop:=1<=x.Kind/\x.Kind<=19/\0<=x.N/\(x.N=0\/x.Kind=1)/\0<=x.At/\x.At<=400/\x.A=a/\x.B=b
instance (x:X04) (a b:Int):Decidable (okN x a b):=by unfold okN;infer_instance
theorem Xjx (x:X04) (a b:Int):X67 x a b=some (decide (okN x a b)):=by
 unfold X67 okN
 congr 1
 rw[Bool.eq_iff_iff]
 by_cases h1:1<=x.Kind<;>by_cases h2:x.Kind<=19<;>by_cases h3:0<=x.N<;>by_cases h4:x.N=0<;>by_cases h5:0<=x.At<;>by_cases h6:x.At<=400<;>simp[h1,h2,h3,h4,h5,h6,and_assoc]
def nst (sd:List (Nat×Nat)) (x:X04):Option (Nat×Nat) :=
 if x.Kind<=4 then (if okN x 0 0 then some (1,1) else none)
 else match sd.getLast? with
  |none=>none
  |some (s2,d2) =>
   if x.Kind<=6 then (if okN x ((sd.length:Int) - 1) 0 then some (1+s2,1+d2) else none)
   else if sd.length - 1<s2 then none
   else match sd[sd.length - 1 - s2]? with
    |none=>none
    |some (s1,d1)=>if okN x ((sd.length:Int) - 1 - s2) ((sd.length:Int) - 1) then some (1+s2+s1,max (1+d2) (1+d1)) else none
def Xjb:List X04->List (Nat×Nat)->Option (List (Nat×Nat))
 |[],sd=>some sd
 |x::xs,sd=>match nst sd x with
  |some q=>Xjb xs (sd++[q])
  |none=>none
def X80 (j:Nat) (q:Nat×Nat):Xa:=⟨(j:Int),(q.1:Int),(q.2:Int)⟩
inductive Xa7 (sd:List (Nat×Nat)):Nat->List Xa->Prop
 |nil:Xa7 sd 0 []
 |snoc {j:Nat} {q:Nat×Nat} {st:List Xa} (hq:sd[j]?=some q) (h1:1<=q.1) (h2:q.1<=j+1) (h3:q.2<=q.1) (h:Xa7 sd (j+1 - q.1) st):Xa7 sd (j+1) (st++[X80 j q])
theorem Xa7.more {sd sd':List (Nat×Nat)} {k:Nat} {st:List Xa} (h:Xa7 sd k st) (hs:∀ j,j<k->sd'[j]?=sd[j]?):Xa7 sd' k st:=by
 induction h with
 |nil=>exact .nil
 |@snoc j q st hq h1 h2 h3 _ ih=>exact .snoc (by rw[hs j (by omega)];exact hq) h1 h2 h3 (ih fun i hi=>hs i (by omega))
theorem Xa7.app {sd e:List (Nat×Nat)} {k:Nat} {st:List Xa} (h:Xa7 sd k st) (hk:k<=sd.length):Xa7 (sd++e) k st:=h.more fun j hj=>List.getElem?_append_left (by omega)
theorem Xa7.len {sd:List (Nat×Nat)} {k:Nat} {st:List Xa} (h:Xa7 sd k st):st.length<=k:=by
 induction h with
 |nil=>simp
 |snoc hq h1 h2 h3 _ ih=>simp;omega
theorem Xi4 {k:Nat} (h:1<=k) (hk:k<=1000000):IntKind.i64.wrap ((k:Int) - 1)=((k - 1:Nat):Int):=by rw[X0l (by omega) (by omega)];omega
theorem Xvq {x:X04} (h0:0<=x.Kind):X9d x.Kind=some (if 1<=x.Kind/\x.Kind<=19 then ((if x.Kind<=4 then 0 else if x.Kind<=6 then 1 else 2),0) else (0,2)):=by
 unfold X9d
 by_cases h1:1<=x.Kind
 ·by_cases h4:x.Kind<=4
  ·simp[h1,h4,show x.Kind<=19 by omega]
  ·by_cases h6:x.Kind<=6
   ·have:(bif x.Kind==5 then true else x.Kind==6)=true:=by
     rcases(by omega:x.Kind=5\/x.Kind=6) with h|h<;>simp[h]
    simp[h1,h4,h6,this,show x.Kind<=19 by omega]
   ·have e5:(bif x.Kind==5 then true else x.Kind==6)=false:=by
     have a:(x.Kind==5)=false:=by simp;omega
     have b:(x.Kind==6)=false:=by simp;omega
     rw[a,b];rfl
    by_cases h19:x.Kind<=19
    ·simp[h1,h4,h6,e5,h19,show(7:Int)<=x.Kind by omega]
    ·simp[h1,h4,h6,e5,h19]
 ·have e:x.Kind=0:=by omega
  simp[e]
theorem Xs8 {x : X04} {a b : Int} (h1 : 1 <= x.Kind) (h2 : x.Kind <= 19) :
    ((bif (x.Kind==(1:Int)) then (some (X04.mk x.Kind (if 0>x.N then 0 else x.N) a b (if 400<(if 0>x.At then 0 else x.At) then 400 else (if 0>x.At then 0 else x.At)))) else (some (X04.mk x.Kind 0 a b (if 400<(if 0>x.At then 0 else x.At) then 400 else (if 0>x.At then 0 else x.At)))):Option (X04)).bind fun o=>some (X6x o x))=some (decide (okN x a b)):=by
  obtain⟨K,N,A,B,At⟩:=x
  have hat:((if 400<(if 0>At then 0 else At) then 400 else (if 0>At then 0 else At))=At)↔(0<=At/\At<=400):=by
    by_cases g1:0>At
    · rw[if_pos g1];constructor
      · intro h;exfalso;split at h<;>omega
      · intro h;omega
    · rw[if_neg g1];split<;>omega
  have hn:((if 0>N then 0 else N)=N)↔0<=N:=by split<;>omega
  have key:∀ n':Int,(n'=N↔(0<=N/\(N=0\/K=1)))->(some (X6x (X04.mk K n' a b (if 400<(if 0>At then 0 else At) then 400 else (if 0>At then 0 else At))) ⟨K,N,A,B,At⟩):Option Bool)=some (decide (okN ⟨K,N,A,B,At⟩ a b)):=by
    intro n' hn'
    rw[Xm3]
    congr 1
    apply decide_eq_decide.2
    rw[X04.mk.injEq,hat,hn']
    unfold okN
    constructor
    · rintro⟨_,⟨g1,g2⟩,hA,hB,g3,g4⟩
      exact⟨h1,h2,g1,g2,g3,g4,hA.symm,hB.symm⟩
    · rintro⟨_,_,g1,g2,g3,g4,hA,hB⟩
      exact⟨rfl,⟨g1,g2⟩,hA.symm,hB.symm,g3,g4⟩
  by_cases hk:K=1
  · have:(K==1)=true:=by simp[hk]
    show(Option.bind (bif (K==1) then _ else _) _)=_
    rw[this,cond_true,Yo]
    exact key _ (by rw[hn];simp[hk])
  · have:(K==1)=false:=by simp[hk]
    show(Option.bind (bif (K==1) then _ else _) _)=_
    rw[this,cond_false,Yo]
    exact key _ (by constructor
                    · intro h;omega
                    · rintro⟨_,h⟩;rcases h with h|h<;>omega)
theorem Xks {β:Type} {o:Option X04} {x:X04} {d:Bool} {f g:Option β} (h:(o.bind fun z=>some (X6x z x))=some d):(o.bind fun z=>bif (!(X6x z x)) then f else g)=bif d then g else f:=by
 cases o with
 |none=>cases h
 |some z =>
  simp only[Yo,Option.some.injEq] at h
  rw[Yo,h];cases d<;>rfl
def X6c (sd:List (Nat×Nat)):List Xa:=sd.mapIdx X80
theorem Xmp (sd:List (Nat×Nat)) (q:Nat×Nat):X6c (sd++[q])=X6c sd++[X80 sd.length q]:=by unfold X6c;simp
theorem Xpr (sd:List (Nat×Nat)):(X6c sd).length=sd.length:=by unfold X6c;simp
theorem Xa7.inv {sd:List (Nat×Nat)} {k:Nat} {st:List Xa} (h:Xa7 sd k st) (hk:0<k):∃ q st0,sd[k - 1]?=some q/\1<=q.1/\q.1<=k/\q.2<=q.1/\Xa7 sd (k - q.1) st0/\st=st0++[X80 (k - 1) q]:=by
 cases h with
 |nil=>omega
 |@snoc j q st0 hq h1 h2 h3 h=>exact⟨q,st0,hq,h1,h2,h3,h,rfl⟩
theorem Xa7.zero {sd:List (Nat×Nat)} {st:List Xa} (h:Xa7 sd 0 st):st=[]:=by
 cases h;rfl
theorem Xxv (Y : List X04) : ∀ (xs : List X04) (sd : List (Nat × Nat)) (st : List Xa), (∀ x ∈ xs, 0 <= x.Kind) -> sd.length + xs.length <= 1000 -> Xa7 sd sd.length st -> (∀ j q, sd[j]? = some q -> 1 <= q.1 /\ q.1 <= j + 1 /\ q.2 <= q.1) ->
    match Xjb xs sd with
    |some sd'=>∃ st',X24 Y xs sd.length (X6c sd) st=some (.x0 (X6c sd') st')/\Xa7 sd' sd'.length st'
    |none=>∃ all,X24 Y xs sd.length (X6c sd) st=some (.x1 all):=by
  intro xs
  induction xs with
  |nil=>intro sd st _ _ hc _;exact⟨st,rfl,hc⟩
  |cons x xs ih =>
    intro sd st h0 hn hc hb
    simp only[List.length_cons] at hn
    have hx:=h0 x List.mem_cons_self
    rw[X24,Xvq hx]
    have go : ∀ (q : Nat × Nat) (st0 : List Xa), nst sd x = some q -> Xa7 (sd ++ [q]) (sd.length + 1) (st0 ++ [X80 sd.length q]) -> 1 <= q.1 -> q.1 <= sd.length + 1 -> q.2 <= q.1 ->
        (match Xjb (x::xs) sd with
          |some sd'=>∃ st',X24 Y xs (sd.length+1) (X6c sd++[X80 sd.length q]) (st0++[X80 sd.length q])=some (.x0 (X6c sd') st')/\Xa7 sd' sd'.length st'
          |none=>∃ all,X24 Y xs (sd.length+1) (X6c sd++[X80 sd.length q]) (st0++[X80 sd.length q])=some (.x1 all)):=by
      intro q st0 hq hc2 g1 g2 g3
      have:=ih (sd++[q]) (st0++[X80 sd.length q]) (fun y hy=>h0 y (List.mem_cons_of_mem _ hy)) (by simp;omega) (by simpa using hc2) (fun j q' hj=>by
        rw[List.getElem?_append] at hj
        split at hj
        · exact hb j q' hj
        · rename_i hlt
          have:j=sd.length:=by
            have:=(Ys.1 hj).1;simp at this;omega
          subst this
          simp at hj;subst hj;exact⟨g1,g2,g3⟩)
      rw[Xmp,List.length_append] at this
      unfold Xjb
      rw[hq]
      exact this
    have stop:nst sd x=none->∀ {o:Option X54},(∃ all,o=some (.x1 all))->(match Xjb (x::xs) sd with
          |some sd'=>∃ st',o=some (.x0 (X6c sd') st')/\Xa7 sd' sd'.length st'
          |none=>∃ all,o=some (.x1 all)):=by
      intro hq o h
      unfold Xjb
      rw[hq];exact h
    have cap:∀ (l:List Xa) (t:Xa),l.length<=2000->X2b (List.length (l++[t])) 24=some ():=fun l t hl=>X45 (by simp;omega)
    have hla:(X6c sd).length<=2000:=by unfold X6c;simp;omega
    have hst:=hc.len
    by_cases hr:1<=x.Kind/\x.Kind<=19
    · rw[if_pos hr]
      simp only[Yo,bne_self_eq_false,cond_false]
      by_cases h4:x.Kind<=4
      · -- no parts
        have e1:decide ((if x.Kind<=4 then (0:Int) else if x.Kind<=6 then 1 else 2)>(st.length:Int))=false:=by rw[if_pos h4];simp
        rw[e1,cond_false,if_pos h4]
        have e2:IntKind.i64.wrap ((st.length:Int) - 0)=(st.length:Int):=by rw[X0l (by omega) (by omega)];omega
        rw[e2,Xjw (Nat.le_refl _),Xen (Nat.le_refl _),List.take_length,List.drop_length]
        simp only[Yo,List.isEmpty_nil,cond_true]
        rw[Xks (Xs8 hr.1 hr.2)]
        by_cases hok:okN x 0 0
        · rw[Yt hok,cond_true,cap st _ (by omega),cap _ _ hla]
          exact go (1,1) st (by unfold nst;rw[if_pos h4,if_pos hok]) (.snoc (by simp) (Nat.le_refl _) (by omega) (Nat.le_refl _) (by simpa using hc.app (Nat.le_refl _))) (Nat.le_refl _) (by omega) (Nat.le_refl _)
        · rw[Yf hok,cond_false]
          exact stop (by unfold nst;rw[if_pos h4,if_neg hok]) ⟨_,rfl⟩
      · have hgl:0<sd.length->∃ q,sd.getLast?=some q/\sd[sd.length - 1]?=some q:=by
          intro h
          refine⟨sd[sd.length - 1]'(by omega),?_,?_⟩
          · rw[List.getLast?_eq_getElem?];exact Ye _
          · exact Ye _
        by_cases h6:x.Kind<=6
        · -- one part
          rw[if_neg h4,if_pos h6]
          by_cases hl:sd.length=0
          · rw[hl] at hc
            have:=hc.zero;subst this
            simp only[List.length_nil]
            exact stop (by unfold nst;rw[if_neg h4,List.eq_nil_of_length_eq_zero hl];rfl) ⟨_,rfl⟩
          · obtain⟨q,st0,hq,g1,g2,g3,hc0,rfl⟩:=hc.inv (by omega)
            obtain⟨q',hq1,hq2⟩:=hgl (by omega)
            rw[hq] at hq2;cases hq2
            have hs0:=hc0.len
            have e1:decide ((1:Int)>((st0++[X80 (sd.length - 1) q]).length:Int))=false:=by simp;omega
            rw[e1,cond_false]
            have e2:IntKind.i64.wrap (((st0++[X80 (sd.length - 1) q]).length:Int) - 1)=(st0.length:Int):=by
              rw[X0l (by rw[List.length_append,List.length_singleton];omega) (by rw[List.length_append,List.length_singleton];omega),List.length_append,List.length_singleton];omega
            rw[e2,Xjw (by simp),Xen (by simp),List.take_left,List.drop_left]
            simp only[Yo,List.isEmpty_cons,cond_false,List.length_singleton]
            rw[show(((1:Nat):Int)==1)=true from rfl,cond_true]
            rw[show X3b [X80 (sd.length - 1) q] 0=some (X80 (sd.length - 1) q) from rfl,Yo]
            rw[Xks (Xs8 hr.1 hr.2)]
            have ea:(X80 (sd.length - 1) q).at_=(sd.length:Int) - 1:=by unfold X80;simp only;omega
            rw[ea]
            by_cases hok:okN x ((sd.length:Int) - 1) 0
            · have e3:(Xa.mk (sd.length:Int) (IntKind.i64.wrap (1+(X80 (sd.length - 1) q).size)) (if (IntKind.i64.wrap ((X80 (sd.length - 1) q).depth+1))>1 then (IntKind.i64.wrap ((X80 (sd.length - 1) q).depth+1)) else 1))=X80 sd.length (1+q.1,1+q.2):=by
                unfold X80
                simp only
                rw[X0l (by omega) (by omega),X0l (by omega) (by omega)]
                congr 1
                split<;>omega
              rw[Yt hok,cond_true,e3,cap st0 _ (by omega),cap _ _ hla]
              refine go (1+q.1,1+q.2) st0 (by unfold nst;rw[if_neg h4,hq1];simp only;rw[if_pos h6,if_pos hok]) (.snoc (by simp) (by simp only;omega) (by simp only;omega) (by simp only;omega) ?_) (by simp only;omega) (by simp only;omega) (by simp only;omega)
              have:=hc0.app (e:=[(1+q.1,1+q.2)]) (by omega)
              simp only
              rw[show sd.length+1 - (1+q.1)=sd.length - q.1 by omega];exact this
            · rw[Yf hok,cond_false]
              exact stop (by unfold nst;rw[if_neg h4,hq1];simp only;rw[if_pos h6,if_neg hok]) ⟨_,rfl⟩
        · -- two parts
          rw[if_neg h4,if_neg h6]
          by_cases hl:sd.length=0
          · rw[hl] at hc
            have:=hc.zero;subst this
            simp only[List.length_nil]
            exact stop (by unfold nst;rw[if_neg h4,List.eq_nil_of_length_eq_zero hl];rfl) ⟨_,rfl⟩
          · obtain⟨q,st1,hq,g1,g2,g3,hc1,rfl⟩:=hc.inv (by omega)
            obtain⟨q',hq1,hq2⟩:=hgl (by omega)
            rw[hq] at hq2;cases hq2
            by_cases hl1:sd.length - q.1=0
            · rw[hl1] at hc1
              have:=hc1.zero;subst this
              exact stop (by unfold nst;rw[if_neg h4,hq1];simp only;rw[if_neg h6,if_pos (by omega)]) ⟨_,rfl⟩
            · obtain⟨p,st0,hp,f1,f2,f3,hc0,rfl⟩:=hc1.inv (by omega)
              have hs0:=hc0.len
              rw[List.append_assoc]
              have e1:decide ((2:Int)>((st0++([X80 (sd.length - q.1 - 1) p]++[X80 (sd.length - 1) q])).length:Int))=false:=by simp;omega
              rw[e1,cond_false]
              have e2:IntKind.i64.wrap (((st0++([X80 (sd.length - q.1 - 1) p]++[X80 (sd.length - 1) q])).length:Int) - 2)=(st0.length:Int):=by
                rw[X0l (by simp only[List.length_append,List.length_singleton];omega) (by simp only[List.length_append,List.length_singleton];omega)];simp only[List.length_append,List.length_singleton];omega
              rw[e2,Xjw (by simp),Xen (by simp),List.take_left,List.drop_left]
              simp only[Yo,List.singleton_append,List.isEmpty_cons,cond_false,List.length_cons,List.length_nil]
              rw[show((((0:Nat)+1+1:Nat):Int)==1)=false from rfl,show((((0:Nat)+1+1:Nat):Int)==2)=true from rfl,cond_false,cond_true]
              rw[show X3b [X80 (sd.length - q.1 - 1) p,X80 (sd.length - 1) q] 0=some (X80 (sd.length - q.1 - 1) p) from rfl,show X3b [X80 (sd.length - q.1 - 1) p,X80 (sd.length - 1) q] 1=some (X80 (sd.length - 1) q) from rfl,Yo,Yo]
              rw[Xks (Xs8 hr.1 hr.2)]
              have ea:(X80 (sd.length - 1) q).at_=(sd.length:Int) - 1:=by unfold X80;simp only;omega
              have eb:(X80 (sd.length - q.1 - 1) p).at_=(sd.length:Int) - 1 - q.1:=by unfold X80;simp only;omega
              rw[ea,eb]
              have hp':sd[sd.length - 1 - q.1]?=some p:=by rw[show sd.length - 1 - q.1=sd.length - q.1 - 1 by omega];exact hp
              by_cases hok:okN x ((sd.length:Int) - 1 - q.1) ((sd.length:Int) - 1)
              · have e3:(Xa.mk (sd.length:Int) (IntKind.i64.wrap ((IntKind.i64.wrap (1+(X80 (sd.length - q.1 - 1) p).size))+(X80 (sd.length - 1) q).size)) (if (IntKind.i64.wrap ((X80 (sd.length - 1) q).depth+1))>(if (IntKind.i64.wrap ((X80 (sd.length - q.1 - 1) p).depth+1))>1 then (IntKind.i64.wrap ((X80 (sd.length - q.1 - 1) p).depth+1)) else 1) then (IntKind.i64.wrap ((X80 (sd.length - 1) q).depth+1)) else (if (IntKind.i64.wrap ((X80 (sd.length - q.1 - 1) p).depth+1))>1 then (IntKind.i64.wrap ((X80 (sd.length - q.1 - 1) p).depth+1)) else 1)))=X80 sd.length (1+q.1+p.1,max (1+q.2) (1+p.2)):=by
                  unfold X80
                  simp only
                  rw[X0l (z:=1+(p.1:Int)) (by omega) (by omega),X0l (by omega) (by omega),X0l (by omega) (by omega),X0l (by omega) (by omega)]
                  congr 1
                  · push_cast;omega
                  · split<;>split<;>omega
                rw[Yt hok,cond_true,e3,cap st0 _ (by omega),cap _ _ hla]
                refine go (1+q.1+p.1,max (1+q.2) (1+p.2)) st0 (by unfold nst;rw[if_neg h4,hq1];simp only;rw[if_neg h6,if_neg (by omega),hp'];simp only;rw[if_pos hok]) (.snoc (by simp) (by simp only;omega) (by simp only;omega) (by simp only;omega) ?_) (by simp only;omega) (by simp only;omega) (by simp only;omega)
                have:=hc0.app (e:=[(1+q.1+p.1,max (1+q.2) (1+p.2))]) (by omega)
                simp only
                rw[show sd.length+1 - (1+q.1+p.1)=sd.length - q.1 - p.1 by omega];exact this
              · rw[Yf hok,cond_false]
                exact stop (by unfold nst;rw[if_neg h4,hq1];simp only;rw[if_neg h6,if_neg (by omega),hp'];simp only;rw[if_neg hok]) ⟨_,rfl⟩
    · rw[if_neg hr]
      have hno:nst sd x=none:=by
        have no:∀ a b,¬ okN x a b:=fun a b h=>hr ⟨h.1,h.2.1⟩
        unfold nst
        simp only[no,if_false]
        split
        · rfl
        · split
          · rfl
          · split
            · rfl
            · split
              · rfl
              · split<;>rfl
      exact stop hno ⟨_,rfl⟩
def Xbf (l:List X04):Int :=
 if l.length>60 then 4 else match Xjb l [] with
  |none=>8
  |some sd=>match sd.getLast? with
   |none=>8
   |some q=>if q.1=l.length then (if q.2>20 then 34 else 0) else 8
theorem Xgk:∀ (xs:List X04) (sd sd':List (Nat×Nat)),Xjb xs sd=some sd'->sd'.length=sd.length+xs.length
 |[],sd,sd',h=>by cases h;simp
 |x::xs,sd,sd',h=>by
  unfold Xjb at h
  split at h
  ·have:=Xgk xs _ _ h;simp at this;simp;omega
  ·cases h
theorem Xps {sd:List (Nat×Nat)} {i:Nat} {q:Nat×Nat} (h:sd[i]?=some q):X3b (X6c sd) (i:Int)=some (X80 i q):=by
 rw[X4y];unfold X6c;rw[List.getElem?_mapIdx,h];rfl
theorem Xir {l:List X04} (h0:∀ x∈l,0<=x.Kind):∃ t,X9c l=some (t,Xbf l)/\(Xbf l=0->∃ sd,Xjb l []=some sd/\t=X6c sd):=by
 unfold X9c Xbf
 by_cases h60:l.length>60
 ·rw[Yt (show(l.length:Int)>60 by omega),cond_true,if_pos h60];exact⟨_,rfl,by omega⟩
 ·rw[Yf (show ¬ (l.length:Int)>60 by omega),cond_false,if_neg h60]
  have hL:=Xxv l l [] [] h0 (by simp;omega) .nil (by simp)
  unfold Xcc
  rw[X2z (by omega)]
  cases hr:Xjb l [] with
  |none =>
   rw[hr] at hL
   obtain⟨all,hL⟩:=hL
   simp only[List.length_nil] at hL
   rw[show X6c []=[] from rfl] at hL
   rw[hL]
   exact⟨_,rfl,by simp⟩
  |some sd =>
   rw[hr] at hL
   obtain⟨st,hL,hc⟩:=hL
   simp only[List.length_nil] at hL
   rw[show X6c []=[] from rfl] at hL
   rw[hL]
   have hn:=Xgk l [] sd hr
   simp only[List.length_nil,Nat.zero_add] at hn
   simp only[Yo]
   by_cases hz:sd.length=0
   ·have:sd=[]:=List.eq_nil_of_length_eq_zero hz
    subst this
    have:=hc.zero;subst this
    exact⟨_,rfl,by simp⟩
   ·obtain⟨q,st0,hq,g1,g2,g3,hc0,rfl⟩:=hc.inv (by omega)
    have hg:sd.getLast?=some q:=by rw[List.getLast?_eq_getElem?];exact hq
    rw[hg]
    simp only
    have hst:(((st0++[X80 (sd.length - 1) q]).length:Int)==1)=decide (q.1=l.length):=by
     rw[Bool.eq_iff_iff]
     simp only[List.length_append,List.length_singleton,beq_iff_eq,decide_eq_true_eq]
     constructor
     ·intro h
      have h1:st0.length=0:=by omega
      by_cases hk:sd.length - q.1=0
      ·omega
      ·obtain⟨_,s1,_,_,_,_,_,rfl⟩:=hc0.inv (by omega)
       simp at h1
     ·intro h
      rw[show sd.length - q.1=0 by omega] at hc0
      rw[hc0.zero];rfl
    rw[hst]
    by_cases he:q.1=l.length
    ·rw[Yt he,if_pos he]
     simp only[Bool.not_true,cond_false]
     rw[show IntKind.i64.wrap (((X6c sd).length:Int) - 1)=((sd.length - 1:Nat):Int) by rw[Xpr,Xi4 (by omega) (by omega)]]
     rw[Xps hq,Yo]
     by_cases hd:q.2>20
     ·rw[if_pos hd,show decide ((X80 (sd.length - 1) q).depth>20)=true from Yt (by unfold X80;simp only;omega)]
      exact⟨_,rfl,by simp⟩
     ·rw[if_neg hd,show decide ((X80 (sd.length - 1) q).depth>20)=false from Yf (by unfold X80;simp only;omega)]
      exact⟨_,rfl,fun _=>⟨sd,rfl,rfl⟩⟩
    ·rw[Yf he,if_neg he]
     exact⟨_,rfl,by simp⟩
theorem Xa3 {l:List X04} (h0:∀ x∈l,0<=x.Kind):X55 l=some (Xbf l):=by
 obtain⟨t,h,_⟩:=Xir h0
 unfold X55;rw[h];rfl
def szs (sd:List (Nat×Nat)):List Int:=sd.map fun q=>(q.1:Int)
def dps (sd:List (Nat×Nat)):List Int:=sd.map fun q=>(q.2:Int)
theorem Xmq {sd:List (Nat×Nat)} {i:Nat} {q:Nat×Nat} (h:sd[i]?=some q):X3b (szs sd) (i:Int)=some (q.1:Int):=by
 rw[X4y];unfold szs;rw[List.getElem?_map,h];rfl
theorem Xod {sd:List (Nat×Nat)} {i:Nat} {q:Nat×Nat} (h:sd[i]?=some q):X3b (dps sd) (i:Int)=some (q.2:Int):=by
 rw[X4y];unfold dps;rw[List.getElem?_map,h];rfl
theorem Xvc (Y : List X04) : ∀ (xs : List X04) (sd : List (Nat × Nat)), sd.length + xs.length <= 1000 -> (∀ j q, sd[j]? = some q -> 1 <= q.1 /\ q.1 <= j + 1 /\ q.2 <= q.1) ->
    match Xjb xs sd with
    |some sd'=>X1m Y xs sd.length (szs sd) (dps sd)=some (.x0 (szs sd') (dps sd'))
    |none=>X1m Y xs sd.length (szs sd) (dps sd)=some (.x1 [] []):=by
  intro xs
  induction xs with
  |nil=>intro sd _ _;rfl
  |cons x xs ih =>
    intro sd hn hb
    simp only[List.length_cons] at hn
    rw[X1m]
    have go : ∀ (q : Nat × Nat), nst sd x = some q -> 1 <= q.1 -> q.1 <= sd.length + 1 -> q.2 <= q.1 ->
        (match Xjb (x::xs) sd with
          |some sd'=>X1m Y xs (sd.length+1) (szs sd++[(q.1:Int)]) (dps sd++[(q.2:Int)])=some (.x0 (szs sd') (dps sd'))
          |none=>X1m Y xs (sd.length+1) (szs sd++[(q.1:Int)]) (dps sd++[(q.2:Int)])=some (.x1 [] [])):=by
      intro q hq g1 g2 g3
      have:=ih (sd++[q]) (by simp;omega) (fun j q' hj=>by
        rw[List.getElem?_append] at hj
        split at hj
        · exact hb j q' hj
        · rename_i hlt
          have:j=sd.length:=by
            have:=(Ys.1 hj).1;simp at this;omega
          subst this
          simp at hj;subst hj;exact⟨g1,g2,g3⟩)
      rw[List.length_append] at this
      unfold Xjb
      rw[hq]
      unfold szs dps at this ⊢
      rw[List.map_append,List.map_append] at this
      exact this
    have stop:nst sd x=none->∀ {o:Option X4n},o=some (.x1 [] [])->(match Xjb (x::xs) sd with
          |some sd'=>o=some (.x0 (szs sd') (dps sd'))
          |none=>o=some (.x1 [] [])):=by
      intro hq o h
      unfold Xjb
      rw[hq];exact h
    have cap:∀ (l:List Int) (t:Int),l.length<=2000->X2b (List.length (l++[t])) 8=some ():=fun l t hl=>X45 (by simp;omega)
    have hls:(szs sd).length<=2000:=by unfold szs;simp;omega
    have hld:(dps sd).length<=2000:=by unfold dps;simp;omega
    unfold Xaw
    by_cases h4:x.Kind<=4
    · rw[Yt h4,cond_true]
      simp only[Yo]
      rw[show decide ((0:Int)>0)=false from rfl,cond_false,Xjx,Yo]
      by_cases hok:okN x 0 0
      · rw[Yt hok,Bool.not_true,cond_false,cap _ _ hls,cap _ _ hld]
        exact go (1,1) (by unfold nst;rw[if_pos h4,if_pos hok]) (Nat.le_refl _) (by omega) (Nat.le_refl _)
      · rw[Yf hok,Bool.not_false,cond_true]
        exact stop (by unfold nst;rw[if_pos h4,if_neg hok]) rfl
    · rw[Yf h4,cond_false]
      have hgl:0<sd.length->∃ q,sd.getLast?=some q/\sd[sd.length - 1]?=some q:=by
        intro h
        refine⟨sd[sd.length - 1]'(by omega),?_,?_⟩
        · rw[List.getLast?_eq_getElem?];exact Ye _
        · exact Ye _
      by_cases hl:sd.length=0
      · have hnil:=List.eq_nil_of_length_eq_zero hl
        refine stop (by unfold nst;rw[if_neg h4,hnil];rfl) ?_
        rw[hl]
        by_cases h6:x.Kind<=6
        · rw[Yt h6];rfl
        · rw[Yf h6];rfl
      · obtain⟨q,hq1,hq⟩:=hgl (by omega)
        obtain⟨g1,g2,g3⟩:=hb _ _ hq
        have hw:IntKind.i64.wrap ((sd.length:Int) - 1)=((sd.length - 1:Nat):Int):=Xi4 (by omega) (by omega)
        rw[hw]
        rw[show decide (((sd.length - 1:Nat):Int)<0)=false from Yf (by omega),Xmq hq,Xod hq]
        simp only[cond_false]
        by_cases h6:x.Kind<=6
        · rw[Yt h6,cond_true]
          simp only[Yo]
          rw[show decide ((1:Int)>0)=true from rfl,cond_true,show((1:Int)==2)=false from rfl,cond_false,Xjx,Yo]
          rw[show((sd.length - 1:Nat):Int)=(sd.length:Int) - 1 by omega]
          by_cases hok:okN x ((sd.length:Int) - 1) 0
          · rw[Yt hok,Bool.not_true,cond_false,cap _ _ hls,cap _ _ hld]
            rw[X0l (by omega) (by omega),X0l (by omega) (by omega)]
            have:=go (1+q.1,1+q.2) (by unfold nst;rw[if_neg h4,hq1];simp only;rw[if_pos h6,if_pos hok]) (by simp only;omega) (by simp only;omega) (by simp only;omega)
            simp only at this
            push_cast at this
            exact this
          · rw[Yf hok,Bool.not_false,cond_true]
            exact stop (by unfold nst;rw[if_neg h4,hq1];simp only;rw[if_pos h6,if_neg hok]) rfl
        · rw[Yf h6,cond_false]
          simp only[Yo]
          rw[show decide ((2:Int)>0)=true from rfl,cond_true,show((2:Int)==2)=true from rfl,cond_true]
          have hw2:IntKind.i64.wrap (((sd.length - 1:Nat):Int) - q.1)=(sd.length:Int) - 1 - q.1:=by rw[X0l (by omega) (by omega)];omega
          rw[hw2]
          by_cases hlt:sd.length - 1<q.1
          · rw[show decide ((sd.length:Int) - 1 - q.1<0)=true from Yt (by omega),cond_true]
            exact stop (by unfold nst;rw[if_neg h4,hq1];simp only;rw[if_neg h6,if_pos hlt]) rfl
          · rw[show decide ((sd.length:Int) - 1 - q.1<0)=false from Yf (by omega),cond_false]
            have hpe:sd[sd.length - 1 - q.1]?=some (sd[sd.length - 1 - q.1]'(by omega)):=Ye _
            generalize sd[sd.length - 1 - q.1]'(by omega)=p at hpe
            obtain⟨f1,f2,f3⟩:=hb _ _ hpe
            rw[show(sd.length:Int) - 1 - q.1=((sd.length - 1 - q.1:Nat):Int) by omega,Xmq hpe,Xod hpe]
            simp only[Yo]
            rw[Xjx,Yo]
            rw[show((sd.length - 1 - q.1:Nat):Int)=(sd.length:Int) - 1 - q.1 by omega,show((sd.length - 1:Nat):Int)=(sd.length:Int) - 1 by omega]
            by_cases hok:okN x ((sd.length:Int) - 1 - q.1) ((sd.length:Int) - 1)
            · rw[Yt hok,Bool.not_true,cond_false,cap _ _ hls,cap _ _ hld]
              rw[X0l (z:=1+(q.1:Int)) (by omega) (by omega),X0l (z:=1+(q.1:Int)+p.1) (by omega) (by omega),X0l (by omega) (by omega),X0l (by omega) (by omega)]
              have:=go (1+q.1+p.1,max (1+q.2) (1+p.2)) (by unfold nst;rw[if_neg h4,hq1];simp only;rw[if_neg h6,if_neg hlt,hpe];simp only;rw[if_pos hok]) (by simp only;omega) (by simp only;omega) (by simp only;omega)
              simp only at this
              rw[show((1+q.1+p.1:Nat):Int)=1+(q.1:Int)+p.1 by omega,show((max (1+q.2) (1+p.2):Nat):Int)=(if 1+(p.2:Int)>1+q.2 then 1+(p.2:Int) else 1+q.2) by split<;>omega] at this
              exact this
            · rw[Yf hok,Bool.not_false,cond_true]
              exact stop (by unfold nst;rw[if_neg h4,hq1];simp only;rw[if_neg h6,if_neg hlt,hpe];simp only;rw[if_neg hok]) rfl
theorem Xa2 {l:List X04}:X4f l=some (Xbf l):=by
 unfold X4f Xbf
 by_cases h60:l.length>60
 ·rw[Yt (show(l.length:Int)>60 by omega),cond_true,if_pos h60]
 ·rw[Yf (show ¬ (l.length:Int)>60 by omega),cond_false,if_neg h60]
  have hL:=Xvc l l [] (by simp;omega) (by simp)
  unfold Xav
  rw[X2z (by omega)]
  cases hr:Xjb l [] with
  |none =>
   rw[hr] at hL
   simp only[List.length_nil] at hL
   rw[show szs []=[] from rfl,show dps []=[] from rfl] at hL
   rw[Yo,hL];rfl
  |some sd =>
   rw[hr] at hL
   simp only[List.length_nil] at hL
   rw[show szs []=[] from rfl,show dps []=[] from rfl] at hL
   rw[Yo,hL]
   have hn:=Xgk l [] sd hr
   simp only[List.length_nil,Nat.zero_add] at hn
   simp only[Yo]
   by_cases hz:l.length=0
   ·rw[List.eq_nil_of_length_eq_zero (hn.trans hz),List.eq_nil_of_length_eq_zero hz];rfl
   ·have hq:sd[sd.length - 1]?=some (sd[sd.length - 1]'(by omega)):=Ye _
    generalize sd[sd.length - 1]'(by omega)=q at hq
    have hg:sd.getLast?=some q:=by rw[List.getLast?_eq_getElem?];exact hq
    rw[hg]
    have hw:IntKind.i64.wrap ((l.length:Int) - 1)=((sd.length - 1:Nat):Int):=by rw[<-hn];exact Xi4 (by omega) (by omega)
    rw[show decide ((l.length:Int)>0)=true from Yt (by omega),cond_true,hw,Xmq hq]
    simp only[Yo,cond_true]
    rw[Xod hq]
    by_cases he:q.1=l.length
    ·rw[if_pos he,show((q.1:Int)==(l.length:Int))=true by rw[he];simp,Bool.not_true,cond_false]
     by_cases hd:q.2>20
     ·rw[if_pos hd,Yo,Yt (show(q.2:Int)>20 by omega)];rfl
     ·rw[if_neg hd,Yo,Yf (show ¬ (q.2:Int)>20 by omega)];rfl
    ·rw[if_neg he,show((q.1:Int)==(l.length:Int))=false by simp;omega,Bool.not_false,cond_true]
end Go.D


namespace Go.D
theorem X00z {sd:List (Nat×Nat)} {x:X04} {q:Nat×Nat} (h:nst sd x=some q):∃ a b,okN x a b/\(x.Kind<=4->a=0/\b=0)/\(5<=x.Kind->0<sd.length/\(x.Kind<=6->a=(sd.length:Int) - 1/\b=0)/\(7<=x.Kind->0<=a/\a<=(sd.length:Int) - 1/\b=(sd.length:Int) - 1)):=by
 unfold nst at h
 split at h
 ·rename_i h4
  split at h
  ·rename_i ho;exact⟨0,0,ho,fun _=>⟨rfl,rfl⟩,fun h5=>by omega⟩
  ·cases h
 ·rename_i h4
  split at h
  ·cases h
  ·rename_i s2 d2 hg
   have hl:0<sd.length:=by
    cases sd with
    |nil=>cases hg
    |cons=>simp
   split at h
   ·rename_i h6
    split at h
    ·rename_i ho;exact⟨_,_,ho,fun h4'=>absurd h4' h4,fun _=>⟨hl,fun _=>⟨rfl,rfl⟩,fun h7=>by omega⟩⟩
    ·cases h
   ·rename_i h6
    split at h
    ·cases h
    ·rename_i hlt
     split at h
     ·cases h
     ·split at h
      ·rename_i ho;exact⟨_,_,ho,fun h4'=>absurd h4' h4,fun _=>⟨hl,fun h6'=>absurd h6' h6,fun _=>⟨by omega,by omega,rfl⟩⟩⟩
      ·cases h
structure Xmf (x:X04) (k:Nat):Prop where
 lo:1<=x.Kind
 hi:x.Kind<=19
 leaf:x.Kind<=4->x.A=0/\x.B=0
 a0:0<=x.A
 b0:0<=x.B
 ak:5<=x.Kind->x.A<k
 b1:5<=x.Kind->x.Kind<=6->x.B=0
 bk:5<=x.Kind->x.B<k
 n0:0<=x.N
 nk:x.N=0\/x.Kind=1
 at0:0<=x.At
 at1:x.At<=400
theorem Xsc:∀ (xs:List X04) (sd sd':List (Nat×Nat)),Xjb xs sd=some sd'->∀ j x,xs[j]?=some x->Xmf x (sd.length+j)
 |[],sd,sd',h,j,x,hj=>by simp at hj
 |y::ys,sd,sd',h,j,x,hj=>by
  unfold Xjb at h
  split at h
  ·rename_i q hq
   cases j with
   |zero =>
    simp at hj;subst hj
    obtain⟨a,b,ho,h4,h5⟩:=X00z hq
    obtain⟨o1,o2,o3,o4,o5,o6,rfl,rfl⟩:=ho
    refine⟨o1,o2,h4,?_,?_,?_,?_,?_,o3,o4,o5,o6⟩
    all_goals
     by_cases h4':y.Kind<=4
     ·have:=h4 h4';omega
     ·have h5':=h5 (by omega)
      by_cases h6:y.Kind<=6
      ·have:=h5'.2.1 h6;omega
      ·have:=h5'.2.2 (by omega);omega
   |succ j =>
    have:=Xsc ys _ _ h j x (by simpa using hj)
    rw[List.length_append,List.length_singleton] at this
    rw[show sd.length+(j+1)=sd.length+1+j by omega];exact this
  ·cases h
def giv (K:Int):Bool:=(K==6)||decide (12<=K)
theorem Xkh (K:Int):X66 K=some (giv K):=by
 unfold X66 giv
 congr 1
def X38 (l:List X04) (i:Int):Int:=match X3b l i with|some e=>e.Kind|none=>0
def Xkw (l:List X04) (x:X04):Bool :=
 if x.Kind<=4 then true
 else if x.Kind=5 then !(giv (X38 l x.A))
 else if x.Kind=6 then giv (X38 l x.A)
 else if x.Kind<=15 then !(giv (X38 l x.A))&&!(giv (X38 l x.B))
 else if x.Kind<=17 then (giv (X38 l x.A))==(giv (X38 l x.B))
 else giv (X38 l x.A)&&giv (X38 l x.B)
def wrN (l:List X04):List X04->Nat->Option Nat
 |[],_=>none
 |x::xs,k=>if Xkw l x then wrN l xs (k+1) else some k
theorem Xlw {α:Type} {l:List α} {i:Int} (h0:0<=i) (h1:i<l.length):∃ e,X3b l i=some e/\l[i.toNat]?=some e:=by
 obtain⟨n,rfl⟩:∃ n:Nat,i=n:=⟨i.toNat,by omega⟩
 exact⟨l[n]'(by omega),by rw[X4y];exact Ye _,by simp⟩
theorem Xb1 {l:List X04} {i:Int} (h0:0<=i) (h1:i<l.length):∃ e,X3b l i=some e/\X38 l i=e.Kind:=by
 obtain⟨e,h,_⟩:=Xlw h0 h1
 exact⟨e,h,by unfold X38;rw[h]⟩
theorem Xzg {l:List X04} {x:X04} {k:Nat} (hk:l[k]?=some x) (ho:Xmf x k):Xaf l (k:Int)=some (Xkw l x):=by
 have hlt:=(Ys.1 hk).1
 have hA:x.A<l.length:=by
  by_cases h:x.Kind<=4
  ·have:=(ho.leaf h).1;omega
  ·have:=ho.ak (by omega);omega
 have hB:x.B<l.length:=by
  by_cases h:x.Kind<=4
  ·have:=(ho.leaf h).2;omega
  ·have:=ho.bk (by omega);omega
 obtain⟨a,ha,hka⟩:=Xb1 ho.a0 hA
 obtain⟨b,hb,hkb⟩:=Xb1 ho.b0 hB
 unfold Xaf Xkw
 rw[X4y,hk,Yo,ha,Yo,hb,Xkh,Yo,Yo,Xkh,Yo,hka,hkb]
 have h1:=ho.lo
 have h2:=ho.hi
 by_cases h4:x.Kind<=4
 ·rw[if_pos h4,Yt h4];rfl
 ·rw[if_neg h4,Yf h4,cond_false]
  by_cases h5:x.Kind=5
  ·rw[if_pos h5,show(x.Kind==5)=true by simp[h5]];rfl
  ·rw[if_neg h5,show(x.Kind==5)=false by simp[h5],cond_false]
   by_cases h6:x.Kind=6
   ·rw[if_pos h6,show(x.Kind==6)=true by simp[h6]];rfl
   ·rw[if_neg h6,show(x.Kind==6)=false by simp[h6],cond_false]
    by_cases h15:x.Kind<=15
    ·rw[if_pos h15,show(bif (x.Kind==16) then true else (x.Kind==17))=false by rw[show(x.Kind==16)=false by simp;omega,show(x.Kind==17)=false by simp;omega];rfl,Yf (show ¬ x.Kind >= 18 by omega)]
     cases giv a.Kind<;>cases giv b.Kind<;>rfl
    ·rw[if_neg h15]
     by_cases h17:x.Kind<=17
     ·rw[if_pos h17,show(bif (x.Kind==16) then true else (x.Kind==17))=true by rcases(by omega:x.Kind=16\/x.Kind=17) with h|h<;>simp[h]];rfl
     ·rw[if_neg h17,show(bif (x.Kind==16) then true else (x.Kind==17))=false by rw[show(x.Kind==16)=false by simp;omega,show(x.Kind==17)=false by simp;omega];rfl,Yt (show x.Kind >= 18 by omega)]
      cases giv a.Kind<;>cases giv b.Kind<;>rfl
theorem Xon {l:List X04} (ho:∀ j x,l[j]?=some x->Xmf x j):∀ (xs:List X04) (k:Nat),l.drop k=xs->X41 l xs k=some (match wrN l xs k with|none=>.x0|some j=>.x1 (j:Int))
 |[],k,_=>rfl
 |x::xs,k,h=>by
  have hk:l[k]?=some x:=by
   have:(l.drop k)[0]?=some x:=by rw[h];rfl
   simpa using this
  have hd:l.drop (k+1)=xs:=by
   have:(l.drop k).drop 1=xs:=by rw[h];rfl
   rw[List.drop_drop] at this;exact this
  rw[X41,Xzg hk (ho k x hk),Yo,wrN]
  cases Xkw l x with
  |true=>exact Xon ho xs (k+1) hd
  |false=>rfl
def gvs (l:List X04) (k:Nat):List Bool:=(l.take k).map fun e=>giv e.Kind
theorem Xo9 {l:List X04} {k:Nat} (hk:k<=l.length) {i:Int} (h0:0<=i) (h1:i<k):X3b (gvs l k) i=some (giv (X38 l i)):=by
 obtain⟨e,he,hke⟩:=Xb1 (l:=l) h0 (by omega)
 have hi:(i.toNat:Int)=i:=by omega
 rw[hke,<-hi,X4y]
 rw[<-hi,X4y] at he
 unfold gvs
 rw[List.getElem?_map,List.getElem?_take_of_lt (by omega),he];rfl
theorem Xpb {l:List X04} {k:Nat} {x:X04} (hk:l[k]?=some x):gvs l (k+1)=gvs l k++[giv x.Kind]:=by
 unfold gvs
 rw[List.take_add_one,hk,List.map_append];rfl
theorem Xrm {l:List X04} (hn:l.length<=1000) (ho:∀ j x,l[j]?=some x->Xmf x j):∀ (xs:List X04) (k:Nat),l.drop k=xs->X1r l xs k (gvs l k)=some (match wrN l xs k with|none=>.x0 (gvs l l.length)|some j=>.x1 [] (j:Int))
 |[],k,h=>by
  have:l.length<=k:=by
   have:=congrArg List.length h;simp at this;omega
  rw[X1r,wrN]
  unfold gvs
  rw[List.take_of_length_le this,List.take_length]
 |x::xs,k,h=>by
  have hk:l[k]?=some x:=by
   have:(l.drop k)[0]?=some x:=by rw[h];rfl
   simpa using this
  have hd:l.drop (k+1)=xs:=by
   have:(l.drop k).drop 1=xs:=by rw[h];rfl
   rw[List.drop_drop] at this;exact this
  have hlt:=(Ys.1 hk).1
  have hox:=ho k x hk
  have ih:=Xrm hn ho xs (k+1) hd
  have h1:=hox.lo
  have h2:=hox.hi
  have cap:∀ b,X2b (List.length (gvs l k++[b])) 1=some ():=fun b=>X45 (by unfold gvs;simp;omega)
  have go:giv x.Kind=false->Xkw l x=true->X1r l xs (k+1) (gvs l k++[false])=some (match wrN l (x::xs) k with|none=>.x0 (gvs l l.length)|some j=>.x1 [] (j:Int)):=by
   intro g f
   rw[wrN,f,if_pos rfl,<-ih,Xpb hk,g]
  have go':giv x.Kind=true->Xkw l x=true->X1r l xs (k+1) (gvs l k++[true])=some (match wrN l (x::xs) k with|none=>.x0 (gvs l l.length)|some j=>.x1 [] (j:Int)):=by
   intro g f
   rw[wrN,f,if_pos rfl,<-ih,Xpb hk,g]
  have stop:Xkw l x=false->(some (.x1 [] (k:Int)):Option X57)=some (match wrN l (x::xs) k with|none=>.x0 (gvs l l.length)|some j=>.x1 [] (j:Int)):=by
   intro f
   rw[wrN,f];rfl
  rw[X1r]
  by_cases h4:x.Kind<=4
  ·rw[Yt h4,cond_true,cap,Yo]
   exact go (by unfold giv;simp;omega) (by unfold Xkw;rw[if_pos h4])
  ·rw[Yf h4,cond_false]
   have hA:X3b (gvs l k) x.A=some (giv (X38 l x.A)):=Xo9 (by omega) hox.a0 (hox.ak (by omega))
   have hB:X3b (gvs l k) x.B=some (giv (X38 l x.B)):=Xo9 (by omega) hox.b0 (hox.bk (by omega))
   by_cases h5:x.Kind=5
   ·have hf:Xkw l x=!(giv (X38 l x.A)):=by unfold Xkw;rw[if_neg h4,if_pos h5]
    rw[show(x.Kind==5)=true by simp[h5],cond_true,hA]
    cases hg:giv (X38 l x.A) with
    |true=>exact stop (by rw[hf,hg];rfl)
    |false =>
     show(X2b (List.length (gvs l k++[false])) 1).bind _=_
     rw[cap,Yo];exact go (by unfold giv;simp[h5]) (by rw[hf,hg];rfl)
   ·rw[show(x.Kind==5)=false by simp[h5],cond_false]
    by_cases h6:x.Kind=6
    ·have hf:Xkw l x=giv (X38 l x.A):=by unfold Xkw;rw[if_neg h4,if_neg h5,if_pos h6]
     rw[show(x.Kind==6)=true by simp[h6],cond_true,hA]
     cases hg:giv (X38 l x.A) with
     |false=>exact stop (by rw[hf,hg])
     |true =>
      show(X2b (List.length (gvs l k++[true])) 1).bind _=_
      rw[cap,Yo];exact go' (by unfold giv;simp[h6]) (by rw[hf,hg])
    ·rw[show(x.Kind==6)=false by simp[h6],cond_false]
     have lok:X5d (List.length [x.A,x.B])=some ():=X2z (by simp)
     by_cases h15:x.Kind<=15
     ·have hf:Xkw l x=(!(giv (X38 l x.A))&&!(giv (X38 l x.B))):=by unfold Xkw;rw[if_neg h4,if_neg h5,if_neg h6,if_pos h15]
      by_cases h11:x.Kind<=11
      ·have hgx:giv x.Kind=false:=by unfold giv;simp;omega
       rw[Yt h11,cond_true,Yo,lok]
       simp only[X09,hA,hB]
       generalize giv (X38 l x.A)=p at hf
       generalize giv (X38 l x.B)=r at hf
       cases p<;>cases r
       ·show(X2b (List.length (gvs l k++[false])) 1).bind _=_
        rw[cap,Yo];exact go hgx hf
       all_goals exact stop hf
      ·have hgx:giv x.Kind=true:=by unfold giv;simp;omega
       rw[Yf h11,cond_false,Yt h15,cond_true,Yo,lok]
       simp only[X09,hA,hB]
       generalize giv (X38 l x.A)=p at hf
       generalize giv (X38 l x.B)=r at hf
       cases p<;>cases r
       ·show(X2b (List.length (gvs l k++[true])) 1).bind _=_
        rw[cap,Yo];exact go' hgx hf
       all_goals exact stop hf
     ·rw[Yf (show ¬ x.Kind<=11 by omega),cond_false,Yf h15,cond_false]
      have hgx:giv x.Kind=true:=by unfold giv;simp;omega
      by_cases h17:x.Kind<=17
      ·have hf:Xkw l x=((giv (X38 l x.A))==(giv (X38 l x.B))):=by unfold Xkw;rw[if_neg h4,if_neg h5,if_neg h6,if_neg h15,if_pos h17]
       rw[Yt h17,cond_true,Yo,lok]
       simp only[X09,X0a,hA,hB]
       generalize giv (X38 l x.A)=p at hf
       generalize giv (X38 l x.B)=r at hf
       cases p<;>cases r
       ·show(X2b (List.length (gvs l k++[true])) 1).bind _=_
        rw[cap,Yo];exact go' hgx hf
       ·exact stop hf
       ·exact stop hf
       ·show(X2b (List.length (gvs l k++[true])) 1).bind _=_
        rw[cap,Yo];exact go' hgx hf
      ·have hf:Xkw l x=((giv (X38 l x.A))&&(giv (X38 l x.B))):=by unfold Xkw;rw[if_neg h4,if_neg h5,if_neg h6,if_neg h15,if_neg h17]
       rw[Yf h17,cond_false,Yo,lok]
       simp only[X09,X0a,hA,hB]
       generalize giv (X38 l x.A)=p at hf
       generalize giv (X38 l x.B)=r at hf
       cases p<;>cases r
       ·exact stop hf
       ·exact stop hf
       ·exact stop hf
       ·show(X2b (List.length (gvs l k++[true])) 1).bind _=_
        rw[cap,Yo];exact go' hgx hf
end Go.D


namespace Go.D
theorem Xxd (a b:Int):a<b\/b<=a:=by omega
theorem Xse {α:Type} {l:List α} (h:l.Nodup):l.reverse.Nodup:=by
 unfold List.Nodup at *
 rw[List.pairwise_reverse]
 exact h.imp fun h=>Ne.symm h
def okT (t:Int):Prop := -1099511627776<=t/\t<=1099511627776
def okW (w:X0s):Prop:=1<=w.Size/\w.Size<=1073741824/\((w.Kind=2/\1<=w.Every/\w.Every<=w.Size/\w.Size<=16*w.Every)\/((w.Kind=1\/w.Kind=3)/\w.Every=0))
theorem X3c {w:X0s} (h:okW w):X17 w=some 0:=by
 obtain⟨h1,h2,h3⟩:=h
 have e1:decide (w.Size<1)=false:=by simp;omega
 have e2:decide (w.Size>1073741824)=false:=by simp;omega
 simp only[X17,e1,e2,cond_false]
 rcases h3 with ⟨k,a1,a2,a3⟩|⟨k|k,a⟩
 ·have e3:(w.Kind==2)=true:=by simp[k]
  have e4:decide (w.Every >= 1)=true:=by simp;omega
  have e5:decide (w.Every<=w.Size)=true:=by simp;omega
  have e6:decide (w.Size<=IntKind.i64.wrap (16*w.Every))=true:=by rw[X0l (by omega) (by omega)];simp;omega
  simp only[e3,e4,e5,e6,cond_true]
 ·have e3:(w.Kind==2)=false:=by simp[k]
  have e4:(w.Kind==1)=true:=by simp[k]
  have e5:(w.Every==0)=true:=by simp[a]
  simp only[e3,e4,e5,cond_true,cond_false]
 ·have e3:(w.Kind==2)=false:=by simp[k]
  have e4:(w.Kind==1)=false:=by simp[k]
  have e6:(w.Kind==3)=true:=by simp[k]
  have e5:(w.Every==0)=true:=by simp[a]
  simp only[e3,e4,e5,e6,cond_true,cond_false]
theorem Xbp {t size:Int} (ht:okT t) (h1:1<=size) (h2:size<=1073741824):Xab t size=some (⟨t / size*size,t / size*size+size⟩,0):=by
 obtain⟨t1,t2⟩:=ht
 have e1:decide (size<1)=false:=by simp;omega
 have e2:decide (size>1073741824)=false:=by simp;omega
 have e3:decide (t < -1099511627776)=false:=by simp;omega
 have e4:decide (t>1099511627776)=false:=by simp;omega
 have hm:=Int.mul_ediv_add_emod t size
 have hm1:=Int.emod_nonneg t (show size≠0 by omega)
 have hm2:=Int.emod_lt_of_pos t (show 0<size by omega)
 have q1 : -1099511627776<=t / size:=by
  rcases Xxd (t / size) (-1099511627776) with h|h
  ·exfalso
   have:size*(t / size)<=size*(-1099511627777):=Int.mul_le_mul_of_nonneg_left (by omega) (by omega)
   omega
  ·exact h
 have q2:t / size<=1099511627776:=by
  rcases Xxd 1099511627776 (t / size) with h|h
  ·exfalso
   have:size*1099511627777<=size*(t / size):=Int.mul_le_mul_of_nonneg_left (by omega) (by omega)
   omega
  ·exact h
 have hn:X6k t size=some (t / size,0):=by
  simp only[X6k,X9n,e1,e2,e3,e4,cond_false,Yo,bne_self_eq_false]
  have hd:Xtm size=some ():=by unfold Xtm;rw[if_pos (by omega)]
  rw[hd,Yo]
  have htm:=Int.tmod_add_mul_tdiv t size
  by_cases hneg:Int.tmod t size<0
  ·have e5:decide (Int.tmod t size<0)=true:=by simp[hneg]
   rw[e5,cond_true,Yo]
   have hq:Int.tdiv t size - 1=t / size:=by
    have h3:Int.tdiv t size=t / size+if 0<=t\/size ∣ t then 0 else size.sign:=Int.tdiv_eq_ediv
    have h4:¬ (0<=t\/size ∣ t):=by
     rintro(h|h)
     ·have:=Int.tmod_nonneg size h;omega
     ·have:=Int.tmod_eq_zero_of_dvd h;omega
    rw[if_neg h4,Int.sign_eq_one_of_pos (by omega)] at h3
    omega
   have e6:IntKind.i64.wrap (Int.tdiv t size)=Int.tdiv t size:=X0l (by omega) (by omega)
   rw[e6,hq,X0l (by omega) (by omega)]
  ·have e5:decide (Int.tmod t size<0)=false:=by simp;omega
   rw[e5,cond_false,Yo]
   have hq:Int.tdiv t size=t / size:=by
    have h3:Int.tdiv t size=t / size+if 0<=t\/size ∣ t then 0 else size.sign:=Int.tdiv_eq_ediv
    by_cases h4:0<=t\/size ∣ t
    ·rw[if_pos h4] at h3;omega
    ·exfalso
     rw[if_neg h4,Int.sign_eq_one_of_pos (by omega)] at h3
     rw[h3,Int.mul_add,Int.mul_one] at htm
     omega
   rw[hq,X0l (by omega) (by omega)]
 simp only[Xab,hn,Yo,bne_self_eq_false,cond_false]
 have e7:t / size*size=size*(t / size):=Int.mul_comm _ _
 have e8:IntKind.i64.wrap (t / size+1)=t / size+1:=X0l (by omega) (by omega)
 have e9:(t / size+1)*size=size*(t / size)+size:=by rw[Int.add_mul,e7];omega
 rw[e8,e9,e7,X0l (by omega) (by omega),X0l (by omega) (by omega)]
def Xam (t size every:Int):Nat->Int->List X00
 |0,_=>[]
 |K+1,s=>if s+size>t then ⟨s,s+size⟩::Xam t size every K (s - every) else []
theorem Xvb {t size every:Int} (ht:okT t) (h1:1<=every) (h2:every<=size) (h3:size<=1073741824):∀ (K f:Nat) (acc:List X00) (s:Int),s<=t -> -1200000000000+K*1073741824<=s->s+size - t<=K*every->K<f->acc.length+K<=1000000 ->
  X52 t size every f acc s=some (.x0 (acc++Xam t size every K s)):=by
 obtain⟨t1,t2⟩:=ht
 intro K
 induction K with
 |zero =>
  intro f acc s hs hl hK hf ha
  cases f with
  |zero=>omega
  |succ f =>
   rw[X52]
   simp only[Int.natCast_zero,Int.zero_mul] at hK hl
   have:decide (IntKind.i64.wrap (s+size)>t)=false:=by rw[X0l (by omega) (by omega)];simp;omega
   rw[this,cond_false];simp[Xam]
 |succ K ih =>
  intro f acc s hs hl hK hf ha
  cases f with
  |zero=>omega
  |succ f =>
   rw[X52]
   have e0:((K+1:Nat):Int)*every=K*every+every:=by rw[Int.natCast_add,Int.natCast_one,Int.add_mul,Int.one_mul]
   have e00:((K+1:Nat):Int)*1073741824=K*1073741824+1073741824:=by omega
   have e1:IntKind.i64.wrap (s+size)=s+size:=X0l (by omega) (by omega)
   rw[e1]
   by_cases hgt:s+size>t
   ·have:decide (s+size>t)=true:=by simpa using hgt
    rw[this,cond_true,X45 (by simp;omega),Yo]
    have e2:IntKind.i64.wrap (s - every)=s - every:=X0l (by omega) (by omega)
    rw[e2,ih f _ _ (by omega) (by omega) (by omega) (by omega) (by simp;omega)]
    rw[Xam,if_pos hgt];simp
   ·have:decide (s+size>t)=false:=by simpa using hgt
    rw[this,cond_false,Xam,if_neg hgt];simp
theorem Xmr (back:List X00) (hb:back.length<=1000):∀ (k f:Nat) (acc:List X00),k<=back.length->k<f->acc.length+k<=1000000 ->
  X3d back f acc ((k:Int) - 1)=some (.x0 (acc++(back.take k).reverse) back):=by
 intro k
 induction k with
 |zero =>
  intro f acc _ hf _
  cases f with
  |zero=>omega
  |succ f =>
   rw[X3d]
   simp
 |succ k ih =>
  intro f acc hk hf ha
  cases f with
  |zero=>omega
  |succ f =>
   rw[X3d]
   have e1:(((k+1:Nat):Int) - 1)=(k:Int):=by omega
   rw[e1]
   have e2:decide ((k:Int) >= 0)=true:=by simp
   rw[e2,cond_true,X4y,Ye (by omega),Yo,X45 (by simp;omega),Yo]
   rw[X0l (by omega) (by omega),ih f _ (by omega) (by omega) (by simp;omega)]
   rw[List.take_add_one,Ye (by omega)]
   simp only[Option.toList_some,List.reverse_append,List.reverse_cons,List.reverse_nil,List.nil_append,List.append_assoc,List.cons_append]
theorem Xma (t size every:Int):∀ (K:Nat) (s:Int),(Xam t size every K s).length<=K:=by
 intro K
 induction K with
 |zero=>intro s;simp[Xam]
 |succ K ih=>intro s;rw[Xam];split<;>simp;exact ih _
theorem Xwv (t size every:Int) (h:1<=every):∀ (K:Nat) (s:Int),∀ x∈Xam t size every K s,x.Start<=s:=by
 intro K
 induction K with
 |zero=>intro s x hx;simp[Xam] at hx
 |succ K ih =>
  intro s x hx
  rw[Xam] at hx
  split at hx
  ·rcases List.mem_cons.1 hx with rfl|hx
   ·exact Int.le_refl _
   ·have:=ih _ x hx;omega
  ·simp at hx
theorem Xoj (t size every:Int) (h:1<=every):∀ (K:Nat) (s:Int),(Xam t size every K s).Nodup:=by
 intro K
 induction K with
 |zero=>intro s;simp[Xam]
 |succ K ih =>
  intro s
  rw[Xam]
  split
  ·rw[List.nodup_cons]
   exact⟨fun hx=>by have:=Xwv t size every h K _ _ hx;simp at this;omega,ih _⟩
  ·exact List.nodup_nil
theorem Xu3 (t size every:Int):∀ (K:Nat) (s:Int),s+size - t<=K*every->0<=every->∀ x:X00,x∈Xam t size every K s↔∃ j:Nat,x.Start=s - j*every/\x.End=x.Start+size/\t<x.End:=by
 intro K
 induction K with
 |zero =>
  intro s hK he x
  simp only[Int.natCast_zero,Int.zero_mul] at hK
  simp only[Xam,List.not_mem_nil,false_iff,not_exists,not_and]
  intro j h1 h2
  have:(0:Int)<=j*every:=Int.mul_nonneg (by omega) he
  omega
 |succ K ih =>
  intro s hK he x
  have e0:((K+1:Nat):Int)*every=K*every+every:=by rw[Int.natCast_add,Int.natCast_one,Int.add_mul,Int.one_mul]
  rw[Xam]
  by_cases hgt:s+size>t
  ·rw[if_pos hgt,List.mem_cons,ih (s - every) (by omega) he x]
   constructor
   ·rintro(rfl|⟨j,h1,h2,h3⟩)
    ·exact⟨0,by simp,rfl,hgt⟩
    ·refine⟨j+1,?_,h2,h3⟩
     have:((j+1:Nat):Int)*every=j*every+every:=by rw[Int.natCast_add,Int.natCast_one,Int.add_mul,Int.one_mul]
     omega
   ·rintro⟨j,h1,h2,h3⟩
    cases j with
    |zero=>left;apply Xgh;simp at h1;exact h1;simp at h1;show x.End=s+size;omega
    |succ j =>
     right
     have:((j+1:Nat):Int)*every=j*every+every:=by rw[Int.natCast_add,Int.natCast_one,Int.add_mul,Int.one_mul]
     exact⟨j,by omega,h2,h3⟩
  ·rw[if_neg hgt]
   simp only[List.not_mem_nil,false_iff,not_exists,not_and]
   intro j h1 h2
   have:(0:Int)<=j*every:=Int.mul_nonneg (by omega) he
   omega
theorem Xlr {t size every:Int} (h1:1<=every) (x:X00):Xls size every t x↔∃ j:Nat,x.Start=t / every*every - j*every/\x.End=x.Start+size/\t<x.End:=by
 have hm:=Int.mul_ediv_add_emod t every
 have hm1:=Int.emod_nonneg t (show every≠0 by omega)
 have hm2:=Int.emod_lt_of_pos t (show 0<every by omega)
 have hc:t / every*every=every*(t / every):=Int.mul_comm _ _
 unfold Xls inS
 constructor
 ·rintro⟨a1,a2,a3,a4⟩
  have hx:=Int.mul_ediv_add_emod x.Start every
  rw[a1,Int.add_zero] at hx
  have hle:x.Start / every<=t / every:=by
   rcases Xxd (t / every) (x.Start / every) with h|h
   ·exfalso
    have:every*(t / every+1)<=every*(x.Start / every):=Int.mul_le_mul_of_nonneg_left (by omega) (by omega)
    rw[Int.mul_add,Int.mul_one] at this
    omega
   ·exact h
  refine⟨(t / every - x.Start / every).toNat,?_,a2,a4⟩
  have e1:(((t / every - x.Start / every).toNat:Nat):Int)=t / every - x.Start / every:=Int.toNat_of_nonneg (by omega)
  rw[e1,Int.sub_mul,Int.mul_comm (x.Start / every)]
  omega
 ·rintro⟨j,a1,a2,a3⟩
  have hj:(0:Int)<=j*every:=Int.mul_nonneg (by omega) (by omega)
  refine⟨?_,a2,by omega,a3⟩
  rw[a1,<-Int.sub_mul]
  exact Int.mul_emod_left _ _
theorem Xd0 {w:X0s} {t:Int} (hw:okW w) (hk:w.Kind≠3) (ht:okT t):∃ W,Xdk w t=some (W,0)/\W.length<=16/\W.Nodup/\∀ s,s∈W↔Xls w.Size (Xcy w) t s:=by
 have hcw:=X3c hw
 obtain⟨w1,w2,w3⟩:=hw
 have ht':=ht
 obtain⟨t1,t2⟩:=ht
 unfold Xdk
 rw[hcw,Yo]
 rcases w3 with ⟨k,a1,a2,a3⟩|⟨k|k,a⟩
 ·have e1:(w.Kind==1)=false:=by simp[k]
  have e2:(w.Kind==2)=true:=by simp[k]
  have e3:Xcy w=w.Every:=by unfold Xcy;rw[if_neg (by omega)]
  simp only[bne_self_eq_false,cond_false,e1,e2,cond_true]
  have hm:=Int.mul_ediv_add_emod t w.Every
  have hm1:=Int.emod_nonneg t (show w.Every≠0 by omega)
  have hm2:=Int.emod_lt_of_pos t (show 0<w.Every by omega)
  have hc:t / w.Every*w.Every=w.Every*(t / w.Every):=Int.mul_comm _ _
  have hall:Xbr t w.Size w.Every=some ((Xam t w.Size w.Every 16 (t / w.Every*w.Every)).reverse,0):=by
   unfold Xbr
   have b1:decide ((if w.Every<w.Size then w.Every else w.Size)<1)=false:=by simp;split<;>omega
   have b2:decide (w.Size>1073741824)=false:=by simp;omega
   have b3:decide (w.Every>w.Size)=false:=by simp;omega
   have b4:decide (w.Size>IntKind.i64.wrap (16*w.Every))=false:=by rw[X0l (by omega) (by omega)];simp;omega
   simp only[b1,b2,b3,b4,cond_false,Xbp ht' a1 (by omega),Yo,bne_self_eq_false]
   have hL:=Xvb ht' a1 a2 w2 16 FU [] (t / w.Every*w.Every) (by omega) (by omega) (by omega) (by unfold FU;omega) (by simp)
   rw[hL,Yo]
   simp only[List.nil_append]
   have hlen:=Xma t w.Size w.Every 16 (t / w.Every*w.Every)
   rw[X0l (by omega) (by omega)]
   have hR:=Xmr (Xam t w.Size w.Every 16 (t / w.Every*w.Every)) (by omega) (Xam t w.Size w.Every 16 (t / w.Every*w.Every)).length FU [] (Nat.le_refl _) (by unfold FU;omega) (by simp;omega)
   rw[hR,Yo]
   simp
  rw[hall,Yo]
  refine⟨_,rfl,by rw[List.length_reverse];exact Xma ..,Xse (Xoj t w.Size w.Every a1 _ _),fun s=>?_⟩
  rw[List.mem_reverse,e3,Xlr a1,Xu3 t w.Size w.Every 16 _ (by omega) (by omega)]
 ·have e1:(w.Kind==1)=true:=by simp[k]
  have e3:Xcy w=w.Size:=by unfold Xcy;rw[if_pos k]
  simp only[bne_self_eq_false,cond_false,e1,cond_true,Xbp ht' w1 w2,Yo]
  refine⟨_,rfl,by simp,by simp,fun s=>?_⟩
  rw[List.mem_singleton,e3,Xlr w1]
  have hm:=Int.mul_ediv_add_emod t w.Size
  have hm1:=Int.emod_nonneg t (show w.Size≠0 by omega)
  have hm2:=Int.emod_lt_of_pos t (show 0<w.Size by omega)
  have hc:t / w.Size*w.Size=w.Size*(t / w.Size):=Int.mul_comm _ _
  constructor
  ·rintro rfl
   exact⟨0,by simp,rfl,by show t<t / w.Size*w.Size+w.Size;omega⟩
  ·rintro⟨j,h1,h2,h3⟩
   have hj:(j:Int)=0:=by
    rcases Xxd 0 (j:Int) with h|h
    ·exfalso
     have:(1:Int)*w.Size<=j*w.Size:=Int.mul_le_mul_of_nonneg_right (by omega) (by omega)
     omega
    ·omega
   rw[hj,Int.zero_mul] at h1
   exact Xgh (by show s.Start=t / w.Size*w.Size;omega) (by show s.End=t / w.Size*w.Size+w.Size;omega)
 ·exact absurd k hk
end Go.D


namespace Go.D
def kOf (l:List X04):Bool×Int×Int :=
 if Xbf l≠0 then (false,0,Xbf l)
 else match wrN l l 0 with
  |some j=>(false,(j:Int),42)
  |none=>(giv (X38 l ((l.length:Int) - 1)),(l.length:Int) - 1,0)
theorem Xhe {l:List X04} (h:Xbf l=0):l.length<=60/\1<=l.length/\∃ sd,Xjb l []=some sd:=by
 unfold Xbf at h
 split at h
 ·cases h
 ·split at h
  ·cases h
  ·rename_i sd hr
   have hn:=Xgk l [] sd hr
   simp only[List.length_nil,Nat.zero_add] at hn
   split at h
   ·cases h
   ·rename_i q hq
    have:1<=sd.length:=by
     cases sd with
     |nil=>cases hq
     |cons=>simp
    exact⟨by omega,by omega,sd,hr⟩
theorem Xjc {l:List X04} (h:Xbf l=0):∀ j x,l[j]?=some x->Xmf x j:=by
 obtain⟨_,_,sd,hr⟩:=Xhe h
 intro j x hj
 have:=Xsc l [] sd hr j x hj
 simpa using this
theorem Xoo (l:List X04):∀ (xs:List X04) (k j:Nat),wrN l xs k=some j->k<=j/\j<k+xs.length
 |[],k,j,h=>by cases h
 |x::xs,k,j,h=>by
  unfold wrN at h
  split at h
  ·have:=Xoo l xs (k+1) j h;simp only[List.length_cons];omega
  ·cases h;simp only[List.length_cons];omega
theorem Xnc {l:List X04} (h0:∀ x∈l,0<=x.Kind):Xdx l=some (kOf l):=by
 unfold Xdx kOf
 rw[Xa3 h0,Yo]
 by_cases hz:Xbf l=0
 ·obtain⟨h60,h1,_⟩:=Xhe hz
  rw[if_neg (by omega),hz,show((0:Int) != 0)=false from rfl,cond_false]
  unfold Xcf
  rw[X2z (by omega),Yo]
  have ht:=Xrm (by omega) (Xjc hz) l 0 rfl
  rw[show gvs l 0=[] from by unfold gvs;simp] at ht
  rw[ht]
  cases hw:wrN l l 0 with
  |some j =>
   have:=(Xoo l l 0 j hw).2
   simp only[Yo]
   rw[Yt (show(j:Int)<(l.length:Int) by omega)];rfl
  |none =>
   simp only[Yo]
   rw[Yf (show ¬ (l.length:Int)<(l.length:Int) by omega),cond_false,X0l (by omega) (by omega),Xo9 (Nat.le_refl _) (by omega) (by omega)];rfl
 ·rw[if_pos hz,show(Xbf l != 0)=true by simp[hz]];rfl
theorem Xmu {l:List X04}:Xdp l=some (kOf l):=by
 unfold Xdp kOf
 rw[Xa2,Yo]
 by_cases hz:Xbf l=0
 ·obtain⟨h60,h1,_⟩:=Xhe hz
  rw[if_neg (by omega),hz,show((0:Int) != 0)=false from rfl,cond_false]
  unfold Xau
  rw[X2z (by omega),Yo,Xon (Xjc hz) l 0 rfl]
  cases hw:wrN l l 0 with
  |some j =>
   have:=(Xoo l l 0 j hw).2
   simp only[Yo]
   rw[Yt (show(j:Int)<(l.length:Int) by omega)];rfl
  |none =>
   simp only[Yo]
   obtain⟨e,he,hk⟩:=Xb1 (l:=l) (i:=(l.length:Int) - 1) (by omega) (by omega)
   rw[Yf (show ¬ (l.length:Int)<(l.length:Int) by omega),cond_false,X0l (by omega) (by omega),he,Yo,Xkh,hk];rfl
 ·rw[if_pos hz,show(Xbf l != 0)=true by simp[hz]];rfl
def X37 (l:List X04) (b:Bool):Int×Int :=
 if (kOf l).2.2=0/\(kOf l).1≠b then ((kOf l).2.1,42) else ((kOf l).2.1,(kOf l).2.2)
theorem Xdw {l:List X04} {b:Bool} (h0:∀ x∈l,0<=x.Kind):X8p l b=some (X37 l b):=by
 unfold X8p X37
 rw[Xnc h0,Yo]
 by_cases hz:(kOf l).2.2=0
 ·rw[hz,show((0:Int)==0)=true from rfl,cond_true]
  cases hb:(kOf l).1<;>cases b<;>simp
 ·rw[show((kOf l).2.2==0)=false by simp[hz],cond_false,cond_false,if_neg (fun h=>hz h.1)];rfl
theorem Xdo {l:List X04} {b:Bool}:X7e l b=some (X37 l b):=by
 unfold X7e X37
 rw[Xmu,Yo]
 by_cases hz:(kOf l).2.2=0
 ·rw[hz,show((0:Int)==0)=true from rfl,cond_true]
  cases hb:(kOf l).1<;>cases b<;>simp
 ·rw[show((kOf l).2.2==0)=false by simp[hz],cond_false,cond_false,if_neg (fun h=>hz h.1)]
def Xou (s:List Int) (j:Bool):Bool:=s.length==0||(j&&s.length != 2)||s.any fun x=>decide (x<0)||decide (x>3)
def X6n (s:List Int) (j:Bool):Int :=
 if s.length>4 then 4 else if Xou s j then 8 else if s.Nodup then 0 else 43
theorem Xld (Y:List Int):∀ (xs:List Int) (k:Nat),∃ o,X0m Y xs k=some o/\((xs.any fun x=>decide (x<0)||decide (x>3))=true->∃ j:Nat,o=.x1 (j:Int))/\((xs.any fun x=>decide (x<0)||decide (x>3))=false->o=.x0)
 |[],k=>⟨.x0,rfl,by simp,fun _=>rfl⟩
 |x::xs,k=>by
  obtain⟨o,h1,h2,h3⟩:=Xld Y xs (k+1)
  rw[X0m]
  unfold X5j
  rw[Yo]
  by_cases hx:x<0\/x>3
  ·have:(bif decide (x<0) then true else decide (x >= 4))=true:=by
    rcases hx with h|h
    ·rw[Yt h];rfl
    ·rw[Yf (by omega),Yt (by omega)];rfl
   rw[this]
   refine⟨_,rfl,fun _=>⟨k,rfl⟩,fun h=>?_⟩
   exfalso
   simp only[List.any_cons,Bool.or_eq_false_iff,decide_eq_false_iff_not] at h
   omega
  ·have:(bif decide (x<0) then true else decide (x >= 4))=false:=by
    rw[Yf (by omega),Yf (by omega)];rfl
   rw[this]
   refine⟨o,h1,fun h=>h2 ?_,fun h=>h3 ?_⟩
   ·rw[List.any_cons,Yf (by omega),Yf (by omega)] at h;exact h
   ·rw[List.any_cons,Yf (by omega),Yf (by omega)] at h;exact h
theorem Xog {s:List Int} (hn:s.length<=1000):Xt s=some (s.any fun x=>decide (x<0)||decide (x>3)):=by
 unfold Xt X0k
 rw[X2z (by omega),Yo]
 obtain⟨o,h1,h2,h3⟩:=Xld s s 0
 rw[h1]
 cases hb:(s.any fun x=>decide (x<0)||decide (x>3)) with
 |true=>obtain⟨j,rfl⟩:=h2 hb;simp
 |false=>rw[h3 hb];rfl
end Go.D


namespace Go.D
def X04n:Int := -9223372036854775808
end Go.D


namespace Go.D
theorem Xtn:∀ (xs ks:List Int),(X7y ks xs).length<=ks.length+xs.length/\((X7y ks xs).length=ks.length+xs.length↔xs.Nodup/\∀ x∈xs,x ∉ ks):=by
 intro xs
 induction xs with
 |nil=>intro ks;simp[X7y]
 |cons x xs ih =>
  intro ks
  rw[X7y]
  unfold Xi0
  by_cases hm:x∈ks
  ·rw[if_pos hm]
   have:=ih ks
   refine⟨by have:=this.1;simp only[List.length_cons];omega,⟨fun h=>?_,fun h=>?_⟩⟩
   ·have:=this.1;simp only[List.length_cons] at h;omega
   ·exact absurd hm (h.2 x List.mem_cons_self)
  ·rw[if_neg hm]
   have:=ih (ks++[x])
   rw[List.length_append,List.length_singleton] at this
   refine⟨by have:=this.1;simp only[List.length_cons];omega,?_⟩
   rw[show ks.length+(x::xs).length=ks.length+1+xs.length by simp only[List.length_cons];omega,this.2]
   constructor
   ·rintro⟨h1,h2⟩
    refine⟨List.nodup_cons.2 ⟨fun hx=>h2 x hx (by simp),h1⟩,?_⟩
    intro y hy
    rcases List.mem_cons.1 hy with rfl|hy
    ·exact hm
    ·exact fun hk=>h2 y hy (by simp[hk])
   ·rintro⟨h1,h2⟩
    refine⟨(List.nodup_cons.1 h1).2,fun y hy hk=>?_⟩
    rcases List.mem_append.1 hk with hk|hk
    ·exact h2 y (List.mem_cons_of_mem _ hy) hk
    ·simp at hk;subst hk;exact(List.nodup_cons.1 h1).1 hy
theorem Xoe {s:List Int} (hn:s.length<=1000):∃ v,X35 s=some v/\decide (v<(s.length:Int))=!(decide s.Nodup):=by
 unfold X35
 rw[X2z (by omega)]
 refine⟨_,rfl,?_⟩
 have h:=Xtn s []
 simp only[List.length_nil,Nat.zero_add,List.not_mem_nil,not_false_eq_true,implies_true,and_true] at h
 by_cases hd:s.Nodup
 ·rw[Yt hd,h.2.2 hd];simp
 ·rw[Yf hd]
  have:(X7y [] s).length≠s.length:=fun e=>hd (h.2.1 e)
  have:=h.1
  simp;omega
theorem Xeb (s:List Int) (j:Bool):X2f s j=some (X6n s j):=by
 unfold X2f X6n Xou
 by_cases h4:s.length>4
 ·rw[if_pos h4,Yt (show(s.length:Int)>4 by omega)];rfl
 ·rw[if_neg h4,Yf (show ¬ (s.length:Int)>4 by omega),cond_false]
  obtain⟨v,hv,hd⟩:=Xoe (s:=s) (by omega)
  rw[Xog (by omega),hv]
  simp only[Yo]
  rw[hd]
  have e0:((s.length:Int)==0)=(s.length==0):=by rw[Bool.eq_iff_iff];simp
  have e2:((s.length:Int) != 2)=(s.length != 2):=by rw[Bool.eq_iff_iff];simp;omega
  rw[e0,e2]
  generalize (s.any fun x=>decide (x<0)||decide (x>3))=b
  generalize (s.length==0)=z
  generalize (s.length != 2)=t
  by_cases hn:s.Nodup<;>cases z<;>cases t<;>cases j<;>cases b<;>simp[hn]
theorem Xfj (Y:List Int):∀ (xs:List Int) (k:Nat),X33 Y xs k=some (bif (xs.any fun x=>decide (x<0)||decide (x>3)) then .x1 else .x0)
 |[],k=>rfl
 |x::xs,k=>by
  rw[X33,Xfj Y xs (k+1),List.any_cons]
  cases decide (x<0)<;>cases decide (x>3)<;>rfl
theorem Xlh (s:List Int) (i:Nat) (hi:i<s.length) (hs:s.length<=1000):∀ (m n j:Nat),m=i - j->m<n->∃ o,X32 s (i:Int) n (j:Int)=some o/\(o=.x0↔∃ j',j<=j'/\j'<i/\s[j']?=s[i]?):=by
 intro m
 induction m with
 |zero =>
  intro n j hm hn
  cases n with
  |zero=>omega
  |succ n =>
   rw[X32,Yf (show ¬ (j:Int)<(i:Int) by omega)]
   exact⟨.x1,rfl,⟨fun h=>(by cases h),fun⟨j',h1,h2,_⟩=>by omega⟩⟩
 |succ m ih =>
  intro n j hm hn
  cases n with
  |zero=>omega
  |succ n =>
   rw[X32,Yt (show(j:Int)<(i:Int) by omega),cond_true,show X3b s (j:Int)=some (s[j]'(by omega)) by rw[X4y];exact Ye _,show X3b s (i:Int)=some (s[i]'hi) by rw[X4y];exact Ye _]
   simp only[Yo]
   by_cases he:s[j]=s[i]
   ·refine⟨.x0,?_,⟨fun _=>⟨j,Nat.le_refl _,by omega,by rw[Ye (show j<s.length by omega),Ye hi,he]⟩,fun _=>rfl⟩⟩
    rw[show(s[j]==s[i])=true by simp[he]];rfl
   ·rw[show(s[j]==s[i])=false by simp[he],cond_false,X0l (by omega) (by omega)]
    obtain⟨o,h1,h2⟩:=ih n (j+1) (by omega) (by omega)
    refine⟨o,by rw[show(j:Int)+1=((j+1:Nat):Int) by omega];exact h1,h2.trans ⟨fun⟨j',a,b,c⟩=>⟨j',by omega,b,c⟩,fun⟨j',a,b,c⟩=>?_⟩⟩
    by_cases hj:j'=j
    ·subst hj
     rw[Ye (show j'<s.length by omega),Ye hi] at c
     exact absurd (Option.some.inj c) he
    ·exact⟨j',by omega,b,c⟩
theorem Xfi (s:List Int) (hs:s.length<=1000):∀ (xs:List Int) (k:Nat),s.drop k=xs->(s.take k).Nodup->X2k s xs k=some (if s.Nodup then .x0 else .x1)
 |[],k,h,hd=>by
  have:s.length<=k:=by
   have:=congrArg List.length h;simp at this;omega
  rw[List.take_of_length_le this] at hd
  rw[X2k,if_pos hd]
 |x::xs,k,h,hd=>by
  have hk:s[k]?=some x:=by
   have:(s.drop k)[0]?=some x:=by rw[h];rfl
   simpa using this
  have hdr:s.drop (k+1)=xs:=by
   have:(s.drop k).drop 1=xs:=by rw[h];rfl
   rw[List.drop_drop] at this;exact this
  have hlt:=(Ys.1 hk).1
  rw[X2k]
  obtain⟨o,h1,h2⟩:=Xlh s k hlt hs (k - 0) FU 0 rfl (by unfold FU;omega)
  rw[show((0:Nat):Int)=0 from rfl] at h1
  rw[h1,Yo]
  cases o with
  |x0 =>
   obtain⟨j,_,hj,he⟩:=h2.1 rfl
   have:¬ s.Nodup:=fun hn=>by
    have:=(List.getElem?_inj (by omega:j<s.length) hn).1 he
    omega
   rw[if_neg this]
  |x1 =>
   have hno:¬ ∃ j',0<=j'/\j'<k/\s[j']?=s[k]?:=fun h=>by have:=h2.2 h;cases this
   refine Xfi s hs xs (k+1) hdr ?_
   rw[List.take_add_one,hk]
   simp only[Option.toList_some]
   rw[List.nodup_append]
   refine⟨hd,by simp,fun a ha b hb=>?_⟩
   simp at hb;subst hb
   intro e;subst e
   obtain⟨j,hj,e⟩:=List.getElem_of_mem ha
   simp at hj
   refine hno ⟨j,Nat.zero_le _,by omega,?_⟩
   rw[hk,<-e,List.getElem_take,Ye]
theorem Xg6 (s:List Int) (j:Bool):X6p s j=some (X6n s j):=by
 unfold X6p X6n Xou
 by_cases h4:s.length>4
 ·rw[if_pos h4,Yt (show(s.length:Int)>4 by omega)];rfl
 ·rw[if_neg h4,Yf (show ¬ (s.length:Int)>4 by omega),cond_false,X2z (by omega),Xfj,Xfi s (by omega) s 0 rfl (by simp)]
  have e0:((s.length:Int)==0)=(s.length==0):=by rw[Bool.eq_iff_iff];simp
  have e2:((s.length:Int) != 2)=(s.length != 2):=by rw[Bool.eq_iff_iff];simp;omega
  rw[e0,e2]
  generalize (s.any fun x=>decide (x<0)||decide (x>3))=b
  generalize (s.length==0)=z
  generalize (s.length != 2)=t
  by_cases hn:s.Nodup<;>cases z<;>cases t<;>cases j<;>cases b<;>simp[hn]
instance (w:X0s):Decidable (okW w):=by unfold okW;infer_instance
theorem Xxk (w:X0s) (hE:w.Every<=9223372036854775807 /\ -9223372036854775808<=w.Every):X7d w=some (decide (okW w))/\X17 w=some (if okW w then 0 else 8):=by
 by_cases hw:okW w
 ·refine⟨?_,by rw[if_pos hw];exact X3c hw⟩
  rw[Yt hw]
  obtain⟨h1,h2,h3⟩:=hw
  unfold X7d
  rw[Yf (show ¬ w.Size<1 by omega),Yf (show ¬ w.Size>1073741824 by omega)]
  rcases h3 with ⟨k,a1,a2,a3⟩|⟨k|k,a⟩
  ·rw[show(w.Kind==2)=true by simp[k],Yt a1,Yt a2,X0l (by omega) (by omega),Yt a3];rfl
  ·rw[show(w.Kind==2)=false by simp[k],show(w.Kind==1)=true by simp[k],show(w.Every==0)=true by simp[a]];rfl
  ·rw[show(w.Kind==2)=false by simp[k],show(w.Kind==3)=true by simp[k],show(w.Every==0)=true by simp[a],show(w.Kind==1)=false by simp[k]];rfl
 ·rw[if_neg hw,Yf hw]
  by_cases hs:w.Size<1\/w.Size>1073741824
  ·have:(bif decide (w.Size<1) then true else decide (w.Size>1073741824))=true:=by
    rcases hs with h|h
    ·rw[Yt h];rfl
    ·rw[Yf (by omega),Yt h];rfl
   constructor
   ·unfold X7d;rw[this];rfl
   ·unfold X17;rw[this];rfl
  ·have:(bif decide (w.Size<1) then true else decide (w.Size>1073741824))=false:=by
    rw[Yf (by omega),Yf (by omega)];rfl
   unfold X7d X17
   rw[this,cond_false,cond_false]
   by_cases k2:w.Kind=2
   ·rw[show(w.Kind==2)=true by simp[k2],cond_true,cond_true]
    have:(bif (bif decide (w.Every >= 1) then decide (w.Every<=w.Size) else false) then decide (w.Size<=IntKind.i64.wrap (16*w.Every)) else false)=false:=by
     by_cases g1:w.Every >= 1
     ·by_cases g2:w.Every<=w.Size
      ·rw[Yt g1,Yt g2,X0l (by omega) (by omega),Yf];rfl
       intro g3;exact hw ⟨by omega,by omega,.inl ⟨k2,g1,g2,g3⟩⟩
      ·rw[Yt g1,Yf g2];rfl
     ·rw[Yf g1];rfl
    rw[this];exact⟨rfl,rfl⟩
   ·rw[show(w.Kind==2)=false by simp[k2],cond_false,cond_false]
    by_cases k1:w.Kind=1
    ·have:w.Every≠0:=fun h=>hw ⟨by omega,by omega,.inr ⟨.inl k1,h⟩⟩
     rw[show(w.Kind==1)=true by simp[k1],show(w.Every==0)=false by simp[this]];exact⟨rfl,rfl⟩
    ·by_cases k3:w.Kind=3
     ·have:w.Every≠0:=fun h=>hw ⟨by omega,by omega,.inr ⟨.inr k3,h⟩⟩
      rw[show(w.Kind==1)=false by simp[k1],show(w.Kind==3)=true by simp[k3],show(w.Every==0)=false by simp[this]];exact⟨rfl,rfl⟩
     ·rw[show(w.Kind==1)=false by simp[k1],show(w.Kind==3)=false by simp[k3]];exact⟨rfl,rfl⟩
end Go.D


namespace Go.D
def Xr8 (q:X03):Int :=
 if q.Agg<1\/q.Agg>4\/(q.Late≠1/\q.Late≠2) then 8
 else if q.Agg=1/\0<q.Arg.length then 8
 else if q.Agg≠1/\Xbf q.Arg≠0 then Xbf q.Arg
 else if 0<q.Where.length/\Xbf q.Where≠0 then Xbf q.Where
 else if X6n q.Sources q.Join≠0 then X6n q.Sources q.Join
 else if q.Join=true/\q.Window.Kind≠1 then 8
 else if okW q.Window then 0 else 8
structure QW (q:X03):Prop where
 arg:∀ x∈q.Arg,0<=x.Kind
 wher:∀ x∈q.Where,0<=x.Kind
 ev:q.Window.Every<=9223372036854775807 /\ -9223372036854775808<=q.Window.Every
theorem Xqu {a b:Int} (h:¬ a=b):(a != b)=true:=by simp[h]
theorem lz {n:Nat} (h:0<n):((n:Int)==0)=false:=by simp;omega
theorem lz' {n:Nat} (h:¬ 0<n):((n:Int)==0)=true:=by simp;omega
theorem Xxw {q:X03} (hq:QW q):((X2f q.Sources q.Join).bind fun v10=>bif (v10 != (0:Int)) then (some v10) else (bif (bif q.Join then (q.Window.Kind != (1:Int)) else false) then (some 8) else ((X17 q.Window).bind fun v14=>some v14)))=some (if X6n q.Sources q.Join≠0 then X6n q.Sources q.Join
 else if q.Join=true/\q.Window.Kind≠1 then 8
 else if okW q.Window then 0 else 8):=by
 rw[Xeb,Yo,(Xxk q.Window hq.ev).2]
 by_cases h:X6n q.Sources q.Join=0
 ·rw[h]
  by_cases hj:q.Join=true
  ·by_cases hk:q.Window.Kind=1
   ·simp[hj,hk]
   ·simp[hj,hk,Xqu hk]
  ·simp[hj]
 ·simp[h,Xqu h]
theorem Xgd {q:X03} (hq:QW q):X70 q=some (Xr8 q):=by
 unfold X70 Xr8
 rw[Xxw hq,Xa3 hq.arg,Xa3 hq.wher]
 generalize (if X6n q.Sources q.Join≠0 then X6n q.Sources q.Join else if q.Join=true/\q.Window.Kind≠1 then 8 else if okW q.Window then 0 else 8)=T
 have e1:(bif (bif (decide (q.Agg<(1:Int))) then true else (decide (q.Agg>(4:Int)))) then true else (bif (q.Late != (1:Int)) then (q.Late != (2:Int)) else false))=decide (q.Agg<1\/q.Agg>4\/(q.Late≠1/\q.Late≠2)):=by
  rw[Bool.eq_iff_iff]
  by_cases h1:q.Agg<1<;>by_cases h2:q.Agg>4<;>by_cases h3:q.Late=1<;>by_cases h4:q.Late=2<;>simp[h1,h2,h3,h4]
 rw[e1]
 by_cases hA:(q.Agg<1\/q.Agg>4\/(q.Late≠1/\q.Late≠2))
 ·rw[if_pos hA,Yt hA];rfl
 ·rw[if_neg hA,Yf hA,cond_false]
  by_cases h1:q.Agg=1
  ·rw[show(q.Agg != 1)=false by simp[h1],cond_false]
   by_cases hl:0<q.Arg.length
   ·rw[Yt (show(q.Arg.length:Int)>0 by omega),if_pos ⟨h1,hl⟩];rfl
   ·rw[Yf (show ¬ (q.Arg.length:Int)>0 by omega),if_neg (fun h=>hl h.2),if_neg (fun h=>h.1 h1),cond_false]
    by_cases hw:0<q.Where.length
    ·rw[Yt (show(q.Where.length:Int)>0 by omega),cond_true,Yo]
     by_cases hz:Xbf q.Where=0
     ·rw[hz];simp
     ·rw[if_pos ⟨hw,hz⟩,show(Xbf q.Where != 0)=true by simp[hz]];rfl
    ·rw[Yf (show ¬ (q.Where.length:Int)>0 by omega),if_neg (fun h=>hw h.1)];rfl
  ·rw[show(q.Agg != 1)=true by simp[h1],cond_true,if_neg (fun h=>h1 h.1),Yo]
   by_cases hn:Xbf q.Arg=0
   ·rw[hn,if_neg (fun h=>h.2 rfl),show((0:Int) != 0)=false from rfl,cond_false]
    by_cases hw:0<q.Where.length
    ·rw[Yt (show(q.Where.length:Int)>0 by omega),cond_true,Yo]
     by_cases hz:Xbf q.Where=0
     ·rw[hz];simp
     ·rw[if_pos ⟨hw,hz⟩,show(Xbf q.Where != 0)=true by simp[hz]];rfl
    ·rw[Yf (show ¬ (q.Where.length:Int)>0 by omega),if_neg (fun h=>hw h.1)];rfl
   ·rw[if_pos ⟨h1,hn⟩,show(Xbf q.Arg != 0)=true by simp[hn]];rfl
theorem Xio {q:X03} (hq:QW q):X9a q=some (Xr8 q):=by
 unfold X9a Xr8
 rw[Xa2,Xa2,Xg6,(Xxk q.Window hq.ev).1]
 have e1:(bif (bif (bif (decide (q.Agg<(1:Int))) then true else (decide (q.Agg>(4:Int)))) then true else (decide (q.Late<(1:Int)))) then true else (decide (q.Late>(2:Int))))=decide (q.Agg<1\/q.Agg>4\/(q.Late≠1/\q.Late≠2)):=by
  rw[Bool.eq_iff_iff]
  have g:(q.Late≠1/\q.Late≠2)↔(q.Late<1\/q.Late>2):=by omega
  rw[show decide (q.Agg<1\/q.Agg>4\/(q.Late≠1/\q.Late≠2))=decide (q.Agg<1\/q.Agg>4\/(q.Late<1\/q.Late>2)) from decide_eq_decide.2 (by rw[g])]
  by_cases h1:q.Agg<1<;>by_cases h2:q.Agg>4<;>by_cases h3:q.Late<1<;>by_cases h4:q.Late>2<;>simp[h1,h2,h3,h4]
 rw[e1]
 have tl:((some (X6n q.Sources q.Join)).bind fun v29=>bif (v29 != (0:Int)) then (some v29) else ((some (decide (okW q.Window))).bind fun v32=>bif (bif (!v32) then true else (bif q.Join then (q.Window.Kind != (1:Int)) else false)) then (some 8) else (some 0)))=some (if X6n q.Sources q.Join≠0 then X6n q.Sources q.Join
 else if q.Join=true/\q.Window.Kind≠1 then 8
 else if okW q.Window then 0 else 8):=by
  simp only[Yo]
  by_cases h:X6n q.Sources q.Join=0
  ·rw[h]
   by_cases hk:q.Window.Kind=1
   ·by_cases hj:q.Join=true<;>by_cases ho:okW q.Window<;>simp[hj,hk,ho]
   ·by_cases hj:q.Join=true<;>by_cases ho:okW q.Window<;>simp[hj,hk,ho,Xqu hk]
  ·simp[h,Xqu h]
 rw[tl]
 generalize (if X6n q.Sources q.Join≠0 then X6n q.Sources q.Join else if q.Join=true/\q.Window.Kind≠1 then 8 else if okW q.Window then 0 else 8)=T
 by_cases hA:(q.Agg<1\/q.Agg>4\/(q.Late≠1/\q.Late≠2))
 ·rw[if_pos hA,Yt hA];rfl
 ·rw[if_neg hA,Yf hA,cond_false]
  have wh:((bif (decide ((List.length q.Where:Int)>(0:Int))) then ((some (Xbf q.Where)).bind fun v23=>some (bif (decide ((List.length q.Where:Int)>(0:Int))) then (v23 != (0:Int)) else false)) else (some (bif (decide ((List.length q.Where:Int)>(0:Int))) then false else false)):Option (Bool)).bind fun Xlp=>bif Xlp then ((some (Xbf q.Where)).bind fun v27=>some v27) else some T)=some (if 0<q.Where.length/\Xbf q.Where≠0 then Xbf q.Where else T):=by
   by_cases hw:0<q.Where.length
   ·rw[Yt (show(q.Where.length:Int)>0 by omega)]
    by_cases hz:Xbf q.Where=0
    ·rw[hz];simp
    ·rw[if_pos ⟨hw,hz⟩];simp[hz,Xqu hz]
   ·rw[Yf (show ¬ (q.Where.length:Int)>0 by omega),if_neg (fun h=>hw h.1)];rfl
  rw[wh]
  generalize (if 0<q.Where.length/\Xbf q.Where≠0 then Xbf q.Where else T)=T2
  by_cases h1:q.Agg=1
  ·rw[show(q.Agg==1)=true by simp[h1],show(q.Agg != 1)=false by simp[h1]]
   by_cases hl:0<q.Arg.length
   ·rw[Yt (show(q.Arg.length:Int)>0 by omega),if_pos ⟨h1,hl⟩];rfl
   ·rw[Yf (show ¬ (q.Arg.length:Int)>0 by omega),if_neg (fun h=>hl h.2),if_neg (fun h=>h.1 h1)];rfl
  ·rw[show(q.Agg==1)=false by simp[h1],show(q.Agg != 1)=true by simp[h1],if_neg (fun h=>h1 h.1)]
   by_cases hn:Xbf q.Arg=0
   ·rw[hn,if_neg (fun h=>h.2 rfl)];rfl
   ·rw[if_pos ⟨h1,hn⟩]
    simp[hn,Xqu hn]
def atOf (l:List X04) (i:Int):Int:=match X3b l i with|some e=>e.At|none=>0
theorem Xk0 {l:List X04} {b:Bool} (h:0<l.length):∃ e,X3b l (X37 l b).1=some e/\atOf l (X37 l b).1=e.At:=by
 have hr:0<=(X37 l b).1/\(X37 l b).1<l.length:=by
  have:(X37 l b).1=(kOf l).2.1:=by unfold X37;split<;>rfl
  rw[this]
  unfold kOf
  split
  ·simp only;omega
  ·split
   ·rename_i j hj
    have:=Xoo l l 0 j hj
    simp only;omega
   ·simp only;omega
 obtain⟨e,he,_⟩:=Xlw hr.1 hr.2
 exact⟨e,he,by unfold atOf;rw[he]⟩
def rt (q:X03):Int×Int :=
 if 0<q.Arg.length/\(X37 q.Arg false).2≠0 then (atOf q.Arg (X37 q.Arg false).1,(X37 q.Arg false).2)
 else if 0<q.Where.length/\(X37 q.Where true).2≠0 then (atOf q.Where (X37 q.Where true).1,(X37 q.Where true).2)
 else (0,0)
theorem Xop (q:X03) (hw:0<q.Where.length):(bif ((X37 q.Where true).2 != (0:Int)) then ((X3b q.Where (X37 q.Where true).1).bind fun e28=>some (e28.At,(X37 q.Where true).2)) else (some (0,0)))=some (if 0<q.Where.length/\(X37 q.Where true).2≠0 then (atOf q.Where (X37 q.Where true).1,(X37 q.Where true).2) else (0,0)):=by
 obtain⟨e,he,ha⟩:=Xk0 (b:=true) hw
 by_cases hz:(X37 q.Where true).2=0
 ·rw[if_neg (fun h=>h.2 hz),show((X37 q.Where true).2 != 0)=false by simp[hz]];rfl
 ·rw[if_pos ⟨hw,hz⟩,show((X37 q.Where true).2 != 0)=true by simp[hz],he,ha];rfl
theorem Xim (q:X03):X98 q=some (rt q):=by
 unfold X98 rt
 rw[Xdo,Xdo]
 simp only[Yo]
 have wh:(bif (decide ((List.length q.Where:Int)>(0:Int))) then (bif ((X37 q.Where true).2 != (0:Int)) then ((X3b q.Where (X37 q.Where true).1).bind fun e28=>some (e28.At,(X37 q.Where true).2)) else (some (0,0))) else (some (0,0)))=some (if 0<q.Where.length/\(X37 q.Where true).2≠0 then (atOf q.Where (X37 q.Where true).1,(X37 q.Where true).2) else (0,0)):=by
  by_cases hw:0<q.Where.length
  ·rw[Yt (show(q.Where.length:Int)>0 by omega),cond_true,Xop q hw]
  ·rw[Yf (show ¬ (q.Where.length:Int)>0 by omega),if_neg (fun h=>hw h.1)];rfl
 rw[wh]
 by_cases ha:0<q.Arg.length
 ·rw[Yt (show(q.Arg.length:Int)>0 by omega),cond_true]
  obtain⟨e,he,hat⟩:=Xk0 (b:=false) ha
  by_cases hz:(X37 q.Arg false).2=0
  ·rw[if_neg (show ¬ (0<q.Arg.length/\(X37 q.Arg false).2≠0) from fun h=>h.2 hz),show((X37 q.Arg false).2 != 0)=false by simp[hz],cond_false]
  ·rw[if_pos (show(0<q.Arg.length/\(X37 q.Arg false).2≠0) from⟨ha,hz⟩),show((X37 q.Arg false).2 != 0)=true by simp[hz],he,hat];rfl
 ·rw[Yf (show ¬ (q.Arg.length:Int)>0 by omega),if_neg (show ¬ (0<q.Arg.length/\(X37 q.Arg false).2≠0) from fun h=>ha h.1),cond_false]
def Xs7 (q:X03):Int×Int:=if Xr8 q≠0 then (0,Xr8 q) else rt q
theorem Xin {q:X03} (hq:QW q):X99 q=some (Xs7 q):=by
 unfold X99 Xs7
 rw[Xio hq,Xim,Yo]
 by_cases h:Xr8 q=0
 ·rw[if_neg (by omega),h];rfl
 ·rw[if_pos h,show(Xr8 q != 0)=true by simp[h]];rfl
theorem Xi3 {q:X03} (hq:QW q):X7z q=some (Xs7 q):=by
 unfold X7z Xs7
 rw[Xgd hq,Yo]
 by_cases h:Xr8 q=0
 ·rw[if_neg (by omega),h,show((0:Int) != 0)=false from rfl,cond_false]
  unfold X9h X9r
  rw[Xdw hq.arg,Xdw hq.wher]
  simp only[Yo]
  unfold rt
  have wh:(bif ((List.length q.Where:Int)==(0:Int)) then (some (0,0)) else (bif ((X37 q.Where true).2 != (0:Int)) then ((X3b q.Where (X37 q.Where true).1).bind fun e28=>some (e28.At,(X37 q.Where true).2)) else (some (0,0))))=some (if 0<q.Where.length/\(X37 q.Where true).2≠0 then (atOf q.Where (X37 q.Where true).1,(X37 q.Where true).2) else (0,0)):=by
   by_cases hw:0<q.Where.length
   ·rw[lz hw,cond_false,Xop q hw]
   ·rw[lz' hw,if_neg (fun h=>hw h.1)];rfl
  rw[wh]
  by_cases ha:0<q.Arg.length
  ·rw[lz ha,cond_false]
   obtain⟨e,he,hat⟩:=Xk0 (b:=false) ha
   by_cases hz:(X37 q.Arg false).2=0
   ·rw[if_neg (show ¬ (0<q.Arg.length/\(X37 q.Arg false).2≠0) from fun h=>h.2 hz),show((X37 q.Arg false).2 != 0)=false by simp[hz],cond_false];rfl
   ·rw[if_pos (show(0<q.Arg.length/\(X37 q.Arg false).2≠0) from⟨ha,hz⟩),show((X37 q.Arg false).2 != 0)=true by simp[hz],he,hat];rfl
  ·rw[lz' ha,if_neg (show ¬ (0<q.Arg.length/\(X37 q.Arg false).2≠0) from fun h=>ha h.1)];rfl
 ·rw[if_pos h,show(Xr8 q != 0)=true by simp[h]];rfl
end Go.D


namespace Go.D
def X6a (p:Pu) (s:X00):X2:=⟨p.1.Key,s,⟨if p.2=0 then ofA p.1.Value else Xaq,if p.2=1 then ofA p.1.Value else Xaq⟩⟩
theorem X51 (L:List Pu) (p:Pu) (k:Int) (s:X00) (side:Int):vals (L++[p]) k s side=vals L k s side++(if p.1.Key=k/\inS s p.1.Time/\p.2=side then [p.1.Value] else []):=by
 unfold vals
 rw[List.filter_append,List.map_append]
 congr 1
 by_cases h:p.1.Key=k/\inS s p.1.Time/\p.2=side
 ·rw[if_pos h,List.filter_cons_of_pos (by simpa using h)];rfl
 ·rw[if_neg h,List.filter_cons_of_neg (by simpa using h)];rfl
theorem X8g (L:List Pu) (p:Pu) (k t:Int):X8v (L++[p]) k t↔X8v L k t\/(p.1.Key=k/\p.1.Time=t):=by
 unfold X8v
 constructor
 ·rintro⟨q,hq,h⟩
  rcases List.mem_append.1 hq with h1|h1
  ·exact .inl ⟨q,h1,h⟩
  ·rw[List.mem_singleton.1 h1] at h;exact .inr h
 ·rintro(⟨q,hq,h⟩|h)
  ·exact⟨q,List.mem_append_left _ hq,h⟩
  ·exact⟨p,by simp,h⟩
structure OkPu (w:X0s) (L:List Pu):Prop where
 time:∀ p∈L,okT p.1.Time
 side:∀ p∈L,p.2=0\/p.2=1
 len:L.length<=240
theorem OkPu.init {w:X0s} {L:List Pu} {p:Pu} (h:OkPu w (L++[p])):OkPu w L:=⟨fun q hq=>h.time q (List.mem_append_left _ hq),fun q hq=>h.side q (List.mem_append_left _ hq),by have:=h.len;simp at this;omega⟩
theorem Xl4 {L:List Pu} {k:Int} {s:X00} (h:∀ t,X8v L k t->¬ inS s t) (side:Int):vals L k s side=[]:=by
 unfold vals
 rw[List.map_eq_nil_iff,List.filter_eq_nil_iff]
 intro p hp hc
 simp only[decide_eq_true_eq] at hc
 exact h p.1.Time ⟨p,hp,hc.1,rfl⟩ hc.2.1
theorem Xri {L:List Pu} {k t:Int} {s:X00} (hs:∀ p∈L,p.2=0\/p.2=1) (h:X8v L k t) (hi:inS s t):0<(vals L k s 0).length+(vals L k s 1).length:=by
 obtain⟨p,hp,hk,ht⟩:=h
 rcases hs p hp with h0|h0
 ·have:p.1.Value∈vals L k s 0:=List.mem_map.2 ⟨p,List.mem_filter.2 ⟨hp,by simp[hk,h0,ht,hi]⟩,rfl⟩
  have:=List.length_pos_of_mem this;omega
 ·have:p.1.Value∈vals L k s 1:=List.mem_map.2 ⟨p,List.mem_filter.2 ⟨hp,by simp[hk,h0,ht,hi]⟩,rfl⟩
  have:=List.length_pos_of_mem this;omega
structure Mid (w:X0s) (L:List Pu) (p:Pu) (done:X00->Prop) (es:List X2):Prop where
 sorted:es.Pairwise ltE
 mem:∀ e,e∈es↔(e.Key=p.1.Key/\done e.Span/\e.Values=Xe9 (L++[p]) e.Key e.Span)\/(¬ (e.Key=p.1.Key/\done e.Span)/\Xqo w L e)
theorem Xtk {L:List Pu} {p:Pu} {s:X00} (h:∀ t,X8v L p.1.Key t->¬ inS s t) (hi:inS s p.1.Time):Xe9 (L++[p]) p.1.Key s=(X6a p s).Values:=by
 unfold Xe9 X6a
 rw[X51,X51,Xl4 h,Xl4 h]
 simp only[List.nil_append]
 congr 1
 ·by_cases h0:p.2=0
  ·rw[if_pos ⟨trivial,hi,h0⟩,if_pos h0,Xcp]
  ·rw[if_neg (fun hc=>h0 hc.2.2),if_neg h0,Xku]
 ·by_cases h0:p.2=1
  ·rw[if_pos ⟨trivial,hi,h0⟩,if_pos h0,Xcp]
  ·rw[if_neg (fun hc=>h0 hc.2.2),if_neg h0,Xku]
theorem Xqn {L:List Pu} {p:Pu} {s:X00} (hl:L.length<=1000000) (hi:inS s p.1.Time) :
  Xe9 (L++[p]) p.1.Key s=⟨X3u (Xe9 L p.1.Key s).e0 (X6a p s).Values.e0,X3u (Xe9 L p.1.Key s).e1 (X6a p s).Values.e1⟩:=by
 have ok:∀ side,okA (Xcq (vals L p.1.Key s side)):=fun side=>Xi5 (Nat.le_trans (Xjq ..) (by omega))
 unfold Xe9 X6a
 rw[X51,X51]
 dsimp only
 congr 1
 ·by_cases h0:p.2=0
  ·rw[if_pos ⟨rfl,hi,h0⟩,if_pos h0,Xc8]
  ·rw[if_neg (fun hc=>h0 hc.2.2),if_neg h0,List.append_nil,Xgn (ok 0)]
 ·by_cases h0:p.2=1
  ·rw[if_pos ⟨rfl,hi,h0⟩,if_pos h0,Xc8]
  ·rw[if_neg (fun hc=>h0 hc.2.2),if_neg h0,List.append_nil,Xgn (ok 1)]
theorem Mid.step {w:X0s} {L:List Pu} {p:Pu} {done:X00->Prop} {es:List X2} {s:X00} (hk:w.Kind≠3) (hl:L.length<=1000000) (m:Mid w L p done es) (hs:¬ done s) (hi:Xls w.Size (Xcy w) p.1.Time s) :
  Mid w L p (fun x=>done x\/x=s) (Xip es (X6a p s)):=by
 have hin:inS s p.1.Time:=hi.2.2
 have hkey:∀ e:X2,X4d e (X6a p s)↔e.Key=p.1.Key/\e.Span=s:=fun e=>Iff.rfl
 refine⟨Xd4 m.sorted,fun e=>?_⟩
 rw[Xgi m.sorted]
 by_cases he:X4d e (X6a p s)
 ·have he2:=(hkey e).1 he
  have hno:∀ y∈es,X4d y (X6a p s)->y=⟨p.1.Key,s,Xe9 L p.1.Key s⟩/\Xel w (X8v L p.1.Key) s:=by
   intro y hy hsy
   have hy2:=(hkey y).1 hsy
   rcases(m.mem y).1 hy with ⟨_,h2,_⟩|⟨_,h2,h3⟩
   ·exact absurd (hy2.2▸h2) hs
   ·rw[hy2.1,hy2.2] at h3 h2
    refine⟨?_,h2⟩
    cases y;simp only at hy2 h3;rw[hy2.1,hy2.2,h3]
  have hval:e.Values=Xe9 (L++[p]) e.Key e.Span↔((e∈es/\¬ X4d e (X6a p s))\/(∃ y∈es,X4d y (X6a p s)/\e=Xjh y (X6a p s))\/((∀ y∈es,¬ X4d y (X6a p s))/\e=X6a p s)):=by
   rw[he2.1,he2.2]
   by_cases hex:∃ y∈es,X4d y (X6a p s)
   ·obtain⟨y,hy,hsy⟩:=hex
    obtain⟨hyv,hyw⟩:=hno y hy hsy
    have hmg:Xjh y (X6a p s)=⟨p.1.Key,s,Xe9 (L++[p]) p.1.Key s⟩:=by rw[Xqn hl hin,hyv];rfl
    constructor
    ·intro hv
     refine .inr (.inl ⟨y,hy,hsy,?_⟩)
     rw[hmg];cases e;simp only at he2 hv;rw[he2.1,he2.2,hv]
    ·rintro(⟨_,h⟩|⟨y',hy',hsy',h⟩|⟨h,_⟩)
     ·exact absurd he h
     ·have:y'=y:=by rw[(hno y' hy' hsy').1,hyv]
      rw[h,this,hmg]
     ·exact absurd hsy (h y hy)
   ·have hex':∀ y∈es,¬ X4d y (X6a p s):=fun y hy h=>hex ⟨y,hy,h⟩
    have hnone:∀ t,X8v L p.1.Key t->¬ inS s t:=by
     intro t ht hst
     have:(⟨p.1.Key,s,Xe9 L p.1.Key s⟩:X2)∈es:=by
      rw[m.mem]
      refine .inr ⟨fun h=>hs h.2,?_,rfl⟩
      show Xel w (X8v L p.1.Key) s
      unfold Xel
      rw[if_neg hk]
      exact⟨t,ht,hi.1,hi.2.1,hst⟩
     exact hex' _ this ⟨rfl,rfl⟩
    have hvv:=Xtk hnone hin
    constructor
    ·intro hv
     refine .inr (.inr ⟨hex',?_⟩)
     cases e;simp only at he2 hv;rw[he2.1,he2.2,hv,hvv];rfl
    ·rintro(⟨_,h⟩|⟨y',hy',hsy',_⟩|⟨_,h⟩)
     ·exact absurd he h
     ·exact absurd hsy' (hex' y' hy')
     ·rw[h,hvv]
  rw[<-hval]
  constructor
  ·intro h;exact .inl ⟨he2.1,.inr he2.2,h⟩
  ·rintro(⟨_,_,h⟩|⟨h,_⟩)
   ·exact h
   ·exact absurd ⟨he2.1,.inr he2.2⟩ h
 ·have hne:¬ (e.Key=p.1.Key/\e.Span=s):=fun h=>he ((hkey e).2 h)
  constructor
  ·rintro(⟨h1,_⟩|⟨y,hy,hsy,h⟩|⟨_,h⟩)
   ·rcases(m.mem e).1 h1 with ⟨a1,a2,a3⟩|⟨a1,a2⟩
    ·exact .inl ⟨a1,.inl a2,a3⟩
    ·exact .inr ⟨fun h=>a1 ⟨h.1,h.2.resolve_right fun hh=>hne ⟨h.1,hh⟩⟩,a2⟩
   ·exact absurd (by rw[h];exact⟨hsy.1,hsy.2⟩) he
   ·exact absurd (by rw[h];exact⟨rfl,rfl⟩) he
  ·rintro(⟨a1,a2,a3⟩|⟨a1,a2⟩)
   ·exact .inl ⟨(m.mem e).2 (.inl ⟨a1,a2.resolve_right fun hh=>hne ⟨a1,hh⟩,a3⟩),he⟩
   ·exact .inl ⟨(m.mem e).2 (.inr ⟨fun h=>a1 ⟨h.1,.inl h.2⟩,a2⟩),he⟩
theorem Mid.start {w:X0s} {L:List Pu} {p:Pu} {es:List X2} (c:Xed w L es):Mid w L p (fun _=>False) es:=by
 refine⟨c.sorted,fun e=>?_⟩
 rw[c.mem];simp
theorem Mid.end {w:X0s} {L:List Pu} {p:Pu} {es:List X2} {done:X00->Prop} (hk:w.Kind≠3) (hd:∀ s,done s↔Xls w.Size (Xcy w) p.1.Time s) (m:Mid w L p done es):Xed w (L++[p]) es:=by
 refine⟨m.sorted,fun e=>?_,fun h3=>absurd h3 hk⟩
 rw[m.mem]
 unfold Xqo Xel
 rw[if_neg hk,if_neg hk]
 by_cases he:e.Key=p.1.Key/\done e.Span
 ·constructor
  ·rintro(⟨_,_,h⟩|⟨h,_⟩)
   ·exact⟨⟨p.1.Time,(X8g ..).2 (.inr ⟨he.1.symm,rfl⟩),(hd _).1 he.2⟩,h⟩
   ·exact absurd he h
  ·rintro⟨_,h⟩;exact .inl ⟨he.1,he.2,h⟩
 ·have hv:Xe9 (L++[p]) e.Key e.Span=Xe9 L e.Key e.Span\/∀ t,X8v L e.Key t->¬ Xls w.Size (Xcy w) t e.Span:=by
   by_cases hkk:p.1.Key=e.Key/\inS e.Span p.1.Time
   ·right
    intro t _ hw
    exact he ⟨hkk.1.symm,(hd _).2 ⟨hw.1,hw.2.1,hkk.2⟩⟩
   ·left
    unfold Xe9
    rw[X51,X51,if_neg (fun h=>hkk ⟨h.1,h.2.1⟩),if_neg (fun h=>hkk ⟨h.1,h.2.1⟩),List.append_nil,List.append_nil]
  constructor
  ·rintro(⟨h1,h2,_⟩|⟨_,⟨t,ht,hw⟩,h⟩)
   ·exact absurd ⟨h1,h2⟩ he
   ·refine⟨⟨t,(X8g ..).2 (.inl ht),hw⟩,?_⟩
    rcases hv with hv|hv
    ·rw[hv];exact h
    ·exact absurd hw (hv t ht)
  ·rintro⟨⟨t,ht,hw⟩,h⟩
   refine .inr ⟨he,?_⟩
   rcases(X8g ..).1 ht with ht|⟨hkey,htt⟩
   ·refine⟨⟨t,ht,hw⟩,?_⟩
    rcases hv with hv|hv
    ·rw[<-hv];exact h
    ·exact absurd hw (hv t ht)
   ·exact absurd ⟨hkey.symm,(hd _).2 (htt▸hw)⟩ he
end Go.D


namespace Go.D
theorem Xkp {L:List Pu} (hl:L.length<=1000) (k:Int) (s:X00):okA (Xe9 L k s).e0/\okA (Xe9 L k s).e1/\(Xe9 L k s).e0.Count<=1000/\(Xe9 L k s).e1.Count<=1000:=by
 have h0:=Xjq L k s 0
 have h1:=Xjq L k s 1
 refine⟨Xi5 (by omega),Xi5 (by omega),?_,?_⟩
 ·show(Xcq _).Count<=1000;rw[X3i];omega
 ·show(Xcq _).Count<=1000;rw[X3i];omega
theorem Xzj (p:Pu) (s:X00):okA (X6a p s).Values.e0/\okA (X6a p s).Values.e1/\(X6a p s).Values.e0.Count<=1/\(X6a p s).Values.e1.Count<=1:=by
 unfold X6a
 dsimp only
 refine⟨?_,?_,?_,?_⟩
 ·split
  ·exact Xhd _
  ·exact Xdd
 ·split
  ·exact Xhd _
  ·exact Xdd
 ·split
  ·exact Int.le_refl _
  ·show(0:Int)<=1;decide
 ·split
  ·exact Int.le_refl _
  ·show(0:Int)<=1;decide
theorem Mid.vals {w:X0s} {L:List Pu} {p:Pu} {done:X00->Prop} {es:List X2} (m:Mid w L p done es) (hl:L.length<=900) {e:X2} (he:e∈es):okA e.Values.e0/\okA e.Values.e1/\e.Values.e0.Count<=1000/\e.Values.e1.Count<=1000:=by
 rcases(m.mem e).1 he with ⟨_,_,h⟩|⟨_,_,h⟩
 ·rw[h];exact Xkp (by simp;omega) _ _
 ·rw[h];exact Xkp (by omega) _ _
theorem X01w {w:X0s} {L:List Pu} {p:Pu} (hk:w.Kind≠3) (hl:L.length<=900) (Y:List X00):∀ (xs:List X00) (k:Nat) (x0:X2) (l:List X2) (done:X00->Prop),Mid w L p done l->xs.Nodup->(∀ s∈xs,¬ done s/\Xls w.Size (Xcy w) p.1.Time s) ->
  x0.Key=p.1.Key->(∀ s,x0.Values=(X6a p s).Values)->l.length+xs.length<=9000->∃ l',X2j Y xs k x0 l=some (.x0 l')/\Mid w L p (fun s=>done s\/s∈xs) l'/\l'.length<=l.length+xs.length:=by
 intro xs
 induction xs with
 |nil=>intro k x0 l done m _ _ _ _ _;exact⟨l,rfl,by simpa using m,by simp⟩
 |cons s xs ih =>
  intro k x0 l done m hnd hs hk0 hv0 hlen
  rw[List.nodup_cons] at hnd
  have hs0:=hs s List.mem_cons_self
  have hx:(⟨x0.Key,s,x0.Values⟩:X2)=X6a p s:=by rw[hk0,hv0 s];rfl
  have er:=Xzj p s
  have m2:=m.step hk (by omega) hs0.1 hs0.2
  simp only[List.length_cons] at hlen
  obtain⟨l',h1,h2,h3⟩:=ih (k+1) (X6a p s) (Xip l (X6a p s)) _ m2 hnd.2 (fun x hxx=>⟨fun h=>h.elim (hs x (List.mem_cons_of_mem _ hxx)).1 (fun e=>hnd.1 (e▸hxx)),(hs x (List.mem_cons_of_mem _ hxx)).2⟩) rfl (fun _=>rfl) (by have:=Xgj l (X6a p s);omega)
  refine⟨l',?_,⟨h2.sorted,fun e=>?_⟩,by have:=Xgj l (X6a p s);simp only[List.length_cons];omega⟩
  ·rw[X2j]
   have key:∀ o,X2j Y xs (k+1) (X6a p s) (Xip l (X6a p s))=some o->((Xc l (X2.mk x0.Key s x0.Values)).bind fun v1891=>bif (!v1891.2) then (bif (v1891.1==(List.length l:Int)) then (((X6d l v1891.1 (List.length l:Int)).bind fun m1903=>bif (List.isEmpty m1903) then ((X2b (List.length (l++[(X2.mk x0.Key s x0.Values)])) 88).bind fun u1906=>some ()) else ((X2b (List.length (l++[(X2.mk x0.Key s x0.Values)])) 88).bind fun u1908=>some ()):Option (Unit)).bind fun _=>some ((X2.mk ((X2.mk x0.Key s x0.Values).Key) ((X2.mk x0.Key s x0.Values).Span) (V2.mk (((X2.mk x0.Key s x0.Values).Values).e0) (((X2.mk x0.Key s x0.Values).Values).e1))),(l++[(X2.mk x0.Key s x0.Values)]),0)) else ((Xnz l v1891.1 (X2.mk x0.Key s x0.Values) 88).bind fun m1911=>some ((X2.mk x0.Key s x0.Values),m1911,0))) else ((X3b l v1891.1).bind fun e1913=>((X1u e1913.Values.e0 x0.Values.e0).bind fun v1928=>bif (v1928.2 != (0:Int)) then (some (l,v1928.2)) else ((X1u (((X2.mk e1913.Key e1913.Span (V2.mk v1928.1 e1913.Values.e1)).Values).e1) x0.Values.e1).bind fun v1933=>bif (v1933.2 != (0:Int)) then (some ((List.set l (Int.toNat v1891.1) (X2.mk e1913.Key e1913.Span (V2.mk v1928.1 e1913.Values.e1))),v1933.2)) else (some ((List.set (List.set l (Int.toNat v1891.1) (X2.mk e1913.Key e1913.Span (V2.mk v1928.1 e1913.Values.e1))) (Int.toNat v1891.1) (X2.mk ((X2.mk e1913.Key e1913.Span (V2.mk v1928.1 e1913.Values.e1)).Key) ((X2.mk e1913.Key e1913.Span (V2.mk v1928.1 e1913.Values.e1)).Span) (V2.mk (((X2.mk e1913.Key e1913.Span (V2.mk v1928.1 e1913.Values.e1)).Values).e0) v1933.1))),0))):Option ((List X2)×Int)).bind fun w1925=>some ((X2.mk ((X2.mk x0.Key s x0.Values).Key) ((X2.mk x0.Key s x0.Values).Span) (V2.mk (((X2.mk x0.Key s x0.Values).Values).e0) (((X2.mk x0.Key s x0.Values).Values).e1))),w1925.1,w1925.2)):Option (X2×(List X2)×Int))=some (X6a p s,Xip l (X6a p s),0):=by
    intro o _
    rw[Xzz m.sorted (by omega),Xmv m.sorted]
    have hle:=Xph l (X6a p s)
    have hval:x0.Values=(X6a p s).Values:=hv0 s
    rw[hx,hval]
    cases h:l[cnt l (X6a p s)]? with
    |none =>
     have hc:cnt l (X6a p s)=l.length:=by have:=List.getElem?_eq_none_iff.1 h;omega
     have hsl:X6d l (l.length:Int) (l.length:Int)=some []:=by simp[X6d]
     simp only[Yo,Bool.not_false,cond_true,hc,beq_self_eq_true,hsl]
     rw[X45 (by simp;omega)]
     rfl
    |some y =>
     have hlt:cnt l (X6a p s)<l.length:=(Ys.1 h).1
     simp only[Yo]
     by_cases hkk:X4d y (X6a p s)
     ·obtain⟨a1,a2,a3,a4⟩:=m.vals hl (Yg h)
      simp only[hkk,decide_true,Bool.not_true,cond_false,X4y,h,Yo,X2w a1 er.1 (by omega),X2w a2 er.2.1 (by omega),bne_self_eq_false,if_true,Int.toNat_natCast,List.set_set]
      rfl
     ·have hne:((cnt l (X6a p s):Int)==(l.length:Int))=false:=by simp;omega
      have hi:Xnz l (cnt l (X6a p s):Int) (X6a p s) 88=some (l.take (cnt l (X6a p s))++X6a p s::l.drop (cnt l (X6a p s))):=by
       unfold Xnz;rw[if_pos ⟨by omega,by simpa using hlt,by omega⟩];simp
      simp only[hkk,decide_false,Bool.not_false,cond_true,hne,cond_false,hi,Yo,if_false]
   rw[key _ h1,Yo]
   simp only[bne_self_eq_false,cond_false]
   exact h1
  ·rw[h2.mem]
   simp only[List.mem_cons,or_assoc]
theorem Xm7 {w:X0s} {L:List Pu} {es:List X2} (hw:okW w) (hL:OkPu w L) (c:Xed w L es):∀ e∈es,okE e:=by
 intro e he
 obtain⟨h1,h2⟩:=(c.mem e).1 he
 have hlen:=hL.len
 obtain⟨v1,v2,v3,v4⟩:=Xkp (L:=L) (by omega) e.Key e.Span
 rw[<-h2] at v1 v2 v3 v4
 have hpos:∀ t,X8v L e.Key t->inS e.Span t->0<e.Values.e0.Count+e.Values.e1.Count:=by
  intro t ht hi
  have:=Xri hL.side ht hi
  rw[h2]
  show 0<(Xcq _).Count+(Xcq _).Count
  rw[X3i,X3i];omega
 have htime:∀ t,X8v L e.Key t->okT t:=by
  rintro t ⟨p,hp,_,rfl⟩;exact hL.time p hp
 obtain⟨w1,w2,w3⟩:=hw
 unfold Xel at h1
 by_cases hk:w.Kind=3
 ·rw[if_pos hk] at h1
  obtain⟨s1,s2,s3,s4⟩:=h1
  obtain⟨t,ht,a1,a2⟩:=s2 (2*e.Span.Start+1) (by omega) (by omega)
  have hts:t=e.Span.Start:=by
   have:¬ (2*t<2*e.Span.Start):=fun h=>s3 ⟨t,ht,h,by omega⟩
   omega
  obtain⟨t',ht',b1,b2⟩:=s2 (2*e.Span.End - 1) (by omega) (by omega)
  have hte:t'+w.Size=e.Span.End:=by
   have:¬ (2*e.Span.End<2*(t'+w.Size)):=fun h=>s4 ⟨t',ht',by omega,h⟩
   omega
  have q1:=htime t ht
  have q2:=htime t' ht'
  unfold okT at q1 q2
  exact⟨by omega,s1,by omega,v1,v2,hpos t ht ⟨by omega,by omega⟩⟩
 ·rw[if_neg hk] at h1
  obtain⟨t,ht,a1,a2,a3,a4⟩:=h1
  have q1:=htime t ht
  unfold okT at q1
  exact⟨by omega,by omega,by omega,v1,v2,hpos t ht ⟨a3,a4⟩⟩
theorem Xh3 {w:X0s} {L:List Pu} {p:Pu} {es:List X2} (hw:okW w) (hk:w.Kind≠3) (hL:OkPu w (L++[p])) (c:Xed w L es) (hn:es.length<=3900) :
  ∃ es',X3q es w p.1 p.2=some (es',0)/\Xed w (L++[p]) es'/\es'.length<=es.length+16:=by
 have ht:=hL.time p (by simp)
 have hsd:=hL.side p (by simp)
 have hll:=hL.init.len
 obtain⟨W,hW,hWl,hWn,hWm⟩:=Xd0 hw hk ht
 obtain⟨l',h1,h2,h3⟩:=X01w (w:=w) (L:=L) (p:=p) hk (by omega) W W 0 (X6a p ⟨0,0⟩) es _ (Mid.start c) hWn (fun s hs=>⟨fun h=>h,(hWm s).1 hs⟩) rfl (fun _=>rfl) (by omega)
 refine⟨l',?_,Mid.end hk (fun s=>by simpa using hWm s) h2,by omega⟩
 unfold X3q
 have e1:(bif (p.2 != 0) then (p.2 != 1) else false)=false:=by rcases hsd with h|h<;>simp[h]
 have e2:(bif (decide (p.1.Time<((-1099511627776):Int))) then true else (decide (p.1.Time>(1099511627776:Int))))=false:=by
  unfold okT at ht
  have a:decide (p.1.Time<((-1099511627776):Int))=false:=by simp;omega
  have b:decide (p.1.Time>(1099511627776:Int))=false:=by simp;omega
  rw[a,b];rfl
 have e3:((X71 p.1.Value).bind fun v14=>bif (p.2==(0:Int)) then (some (X2.mk p.1.Key (X00.mk 0 0) (V2.mk v14 (X0t.mk 0 0 0 0)))) else (bif (p.2==(1:Int)) then (some (X2.mk p.1.Key (X00.mk 0 0) (V2.mk (X0t.mk 0 0 0 0) v14))) else none):Option (X2))=some (X6a p ⟨0,0⟩):=by
  simp only[X71,Yo]
  rcases hsd with h|h
  ·simp[h,X6a,ofA,Xaq]
  ·simp[h,X6a,ofA,Xaq]
 have e4:(bif (List.isEmpty es) then (some es) else ((X2b (List.length es) 88).bind fun u28=>some es):Option ((List X2)))=some es:=by
  rw[X45 (by omega)]
  cases List.isEmpty es<;>rfl
 have e5:(w.Kind==3)=false:=by simp[hk]
 rw[Xa0 c.sorted (Xm7 hw hL.init c) (by omega),Yo]
 simp only[bne_self_eq_false,cond_false,X3c hw,Yo,e1,e2]
 rw[e3,Yo,e4,Yo]
 simp only[e5,cond_false,hW,Yo,bne_self_eq_false]
 rw[X2z (by omega),Yo,h1,Yo]
 have e6:decide ((l'.length:Int)>4000)=false:=by simp;omega
 simp only[e6,cond_false]
end Go.D


namespace Go.D
theorem Xow {size:Int} {T:Int->Prop} {a b:X00} (ha:Xh8 size T a) (hb:Xh8 size T b) (h1:a.Start<b.End) (h2:b.Start<a.End):a=b:=by
 obtain⟨a1,a2,a3,a4⟩:=ha
 obtain⟨b1,b2,b3,b4⟩:=hb
 apply Xgh
 ·rcases Xxd a.Start b.Start with h|h
  ·exact absurd (a2 (2*b.Start) (by omega) (by omega)) b3
  ·rcases Xxd b.Start a.Start with h'|h'
   ·exact absurd (b2 (2*a.Start) (by omega) (by omega)) a3
   ·omega
 ·rcases Xxd a.End b.End with h|h
  ·exact absurd (b2 (2*a.End) (by omega) (by omega)) a4
  ·rcases Xxd b.End a.End with h'|h'
   ·exact absurd (a2 (2*b.End) (by omega) (by omega)) b4
   ·omega
theorem Xgq {size:Int} {T T':Int->Prop} (h:∀ t,T t->T' t) {x:Int} (c:cov size T x):cov size T' x:=by
 obtain⟨t,h1,h2⟩:=c;exact⟨t,h t h1,h2⟩
def X8t (L:List Pu) (k:Int) (M:List X2) (side:Int):List Int:=(L.filter fun q=>decide (q.1.Key=k/\(∃ m∈M,inS m.Span q.1.Time)/\q.2=side)).map fun q=>q.1.Value
def pv (p:Pu) (side:Int):List Int:=if p.2=side then [p.1.Value] else []
theorem Xth {α:Type} (a b:α->Bool):∀ (l:List α),(∀ q∈l,¬ (a q=true/\b q=true))->(l.filter fun q=>a q||b q).Perm (l.filter a++l.filter b):=by
 intro l
 induction l with
 |nil=>intro _;simp
 |cons x l ih =>
  intro h
  have ih':=ih fun q hq=>h q (List.mem_cons_of_mem _ hq)
  have hx:=h x List.mem_cons_self
  cases ha:a x with
  |true =>
   have hb:b x=false:=by cases hb:b x with|true=>exact absurd ⟨ha,hb⟩ hx|false=>rfl
   rw[List.filter_cons_of_pos (by simp[ha]),List.filter_cons_of_pos ha,List.filter_cons_of_neg (by simp[hb])]
   exact ih'.cons x
  |false =>
   cases hb:b x with
   |true =>
    rw[List.filter_cons_of_pos (by simp[hb]),List.filter_cons_of_neg (by simp[ha]),List.filter_cons_of_pos hb]
    exact(ih'.cons x).trans List.perm_middle.symm
   |false =>
    rw[List.filter_cons_of_neg (by simp[ha,hb]),List.filter_cons_of_neg (by simp[ha]),List.filter_cons_of_neg (by simp[hb])]
    exact ih'
theorem Xmo {L:List Pu} {k:Int} {M:List X2} {y:X2} {side:Int} (h:∀ q∈L,q.1.Key=k->inS y.Span q.1.Time->¬ ∃ m∈M,inS m.Span q.1.Time) :
  (X8t L k (y::M) side).Perm (X8t L k M side++vals L k y.Span side):=by
 unfold X8t vals
 rw[<-List.map_append]
 refine List.Perm.map _ ?_
 have h1:=Xth (fun q:Pu=>decide (q.1.Key=k/\(∃ m∈M,inS m.Span q.1.Time)/\q.2=side)) (fun q=>decide (q.1.Key=k/\inS y.Span q.1.Time/\q.2=side)) L (fun q hq hc=>by
  simp only[decide_eq_true_eq] at hc
  exact h q hq hc.1.1 hc.2.2.1 hc.1.2.1)
 refine List.Perm.trans (List.Perm.of_eq ?_) h1
 refine List.filter_congr fun q _=>?_
 rw[Bool.eq_iff_iff]
 simp only[decide_eq_true_eq,Bool.or_eq_true,List.mem_cons]
 constructor
 ·rintro⟨a1,⟨m,hm|hm,hi⟩,a2⟩
  ·exact .inr ⟨a1,by rw[<-hm];exact hi,a2⟩
  ·exact .inl ⟨a1,⟨m,hm,hi⟩,a2⟩
 ·rintro(⟨a1,⟨m,hm,hi⟩,a2⟩|⟨a1,hi,a2⟩)
  ·exact⟨a1,⟨m,.inr hm,hi⟩,a2⟩
  ·exact⟨a1,⟨y,.inl rfl,hi⟩,a2⟩
theorem Xaa (L:List Pu) (k:Int) (M:List X2) (side:Int):(X8t L k M side).length<=L.length:=by unfold X8t;rw[List.length_map];exact List.length_filter_le _ _
theorem Xlj (p:Pu) (side:Int):(pv p side).length<=1:=by unfold pv;split<;>simp
def Xyh (x y:X2):Prop:=y.Key=x.Key/\y.Span.Start<x.Span.End/\x.Span.Start<y.Span.End
instance (x y:X2):Decidable (Xyh x y):=by unfold Xyh;infer_instance
structure Ses (w:X0s) (L:List Pu) (p:Pu) (es l:List X2) (x:X2) (M:List X2):Prop where
 sub:l.Sublist es
 part:∀ e,e∈es↔e∈l\/e∈M
 apart:∀ e∈l,e ∉ M
 keyM:∀ m∈M,m.Key=p.1.Key
 key:x.Key=p.1.Key
 own:x.Span.Start<=p.1.Time/\p.1.Time+w.Size<=x.Span.End
 inner:∀ z,2*x.Span.Start<z->z<2*x.Span.End->cov w.Size (fun t=>X8v L p.1.Key t\/t=p.1.Time) z
 hull:∀ m∈M,x.Span.Start<=m.Span.Start/\m.Span.End<=x.Span.End
 val0:x.Values.e0=Xcq (pv p 0++X8t L p.1.Key M 0)
 val1:x.Values.e1=Xcq (pv p 1++X8t L p.1.Key M 1)
theorem Xu6 (p:Pu) (s:X00):(X6a p s).Values.e0=Xcq (pv p 0)/\(X6a p s).Values.e1=Xcq (pv p 1):=by
 unfold X6a pv
 constructor
 ·dsimp only;split
  ·exact(Xcp _).symm
  ·rfl
 ·dsimp only;split
  ·exact(Xcp _).symm
  ·rfl
theorem Ses.start {w:X0s} {L:List Pu} {p:Pu} {es:List X2} (hw:1<=w.Size):Ses w L p es es (X6a p ⟨p.1.Time,p.1.Time+w.Size⟩) []:=by
 have hv:∀ side,X8t L p.1.Key [] side=[]:=fun side=>by unfold X8t;simp
 refine⟨.refl _,fun e=>by simp,fun e _=>by simp,fun m hm=>(by cases hm),rfl,⟨Int.le_refl _,Int.le_refl _⟩,fun z h1 h2=>?_,fun m hm=>(by cases hm),?_,?_⟩
 ·exact⟨p.1.Time,.inr rfl,h1,h2⟩
 ·rw[hv,List.append_nil];exact(Xu6 p _).1
 ·rw[hv,List.append_nil];exact(Xu6 p _).2
def Xlt (x y:X2):X2:=⟨x.Key,⟨if y.Span.Start<x.Span.Start then y.Span.Start else x.Span.Start,if y.Span.End>x.Span.End then y.Span.End else x.Span.End⟩,⟨X3u x.Values.e0 y.Values.e0,X3u x.Values.e1 y.Values.e1⟩⟩
theorem Ses.step {w:X0s} {L:List Pu} {p:Pu} {es l:List X2} {x:X2} {M:List X2} (hk:w.Kind=3) (hl:L.length<=900) (c:Xed w L es) (s:Ses w L p es l x M) {i:Nat} {y:X2} (hi:l[i]?=some y) (ho:Xyh x y) :
  Ses w L p es (l.take i++l.drop (i+1)) (Xlt x y) (y::M):=by
 have hyl:y∈l:=Yg hi
 have hye:y∈es:=(s.part y).2 (.inl hyl)
 have hyM:=s.apart y hyl
 have hky:y.Key=p.1.Key:=ho.1.trans s.key
 obtain⟨hyw,hyv⟩:=(c.mem y).1 hye
 unfold Xel at hyw
 rw[if_pos hk,hky] at hyw
 rw[hky] at hyv
 have hlt:i<l.length:=(Ys.1 hi).1
 have hsplit:l=l.take i++y::l.drop (i+1):=by
  have:l[i]=y:=(Ys.1 hi).2
  rw[<-this,<-List.drop_eq_getElem_cons hlt,List.take_append_drop]
 have hnd:l.Nodup:=s.sub.nodup (List.Pairwise.imp (R:=ltE) (S:=fun a b=>a≠b) (fun {a b} h (e:a=b)=>Xq8 b (by rw[e] at h;exact h)) c.sorted)
 have hyn:y ∉ l.take i++l.drop (i+1):=by
  rw[hsplit] at hnd
  exact(List.nodup_cons.1 (List.perm_middle.nodup_iff.1 hnd)).1
 have hmem:∀ e,e∈l↔e=y\/e∈l.take i++l.drop (i+1):=by
  intro e
  rw[hsplit]
  simp only[List.mem_append,List.mem_cons]
  rw[<-hsplit]
  constructor
  ·rintro(h|h|h)
   ·exact .inr (.inl h)
   ·exact .inl h
   ·exact .inr (.inr h)
  ·rintro(h|h|h)
   ·exact .inr (.inl h)
   ·exact .inl h
   ·exact .inr (.inr h)
 have hdis:∀ q∈L,q.1.Key=p.1.Key->inS y.Span q.1.Time->¬ ∃ m∈M,inS m.Span q.1.Time:=by
  rintro q hq _ hyq ⟨m,hm,hmq⟩
  have hme:m∈es:=(s.part m).2 (.inr hm)
  obtain⟨hmw,hmv⟩:=(c.mem m).1 hme
  unfold Xel at hmw
  rw[if_pos hk,s.keyM m hm] at hmw
  rw[s.keyM m hm] at hmv
  unfold inS at hyq hmq
  have hsp:y.Span=m.Span:=Xow hyw hmw (by omega) (by omega)
  have:y=m:=by cases y;cases m;simp only at hky hyv hsp hmv;simp only[X2.mk.injEq];exact⟨hky.trans (s.keyM _ hm).symm,hsp,by rw[hyv,hmv,hsp]⟩
  exact hyM (this▸hm)
 have hval:∀ side,(pv p side++X8t L p.1.Key M side).length<=1073741824:=fun side=>by
  have:=Xlj p side;have:=Xaa L p.1.Key M side;simp;omega
 have hperm:∀ side,Xcq (pv p side++X8t L p.1.Key (y::M) side)=X3u (Xcq (pv p side++X8t L p.1.Key M side)) (Xcq (vals L p.1.Key y.Span side)):=fun side=>by
  have hp:=(Xmo (L:=L) (k:=p.1.Key) (M:=M) (y:=y) (side:=side) hdis).append_left (pv p side)
  rw[Xmd hp (by have:=Xlj p side;have:=Xaa L p.1.Key (y::M) side;simp;omega),<-List.append_assoc,X6b]
 obtain⟨_,o1,o2⟩:=ho
 refine⟨?_,fun e=>?_,fun e he hm=>?_,fun m hm=>?_,s.key,?_,fun z h1 h2=>?_,fun m hm=>?_,?_,?_⟩
 ·refine List.Sublist.trans ?_ s.sub
  conv=>rhs;rw[hsplit]
  exact List.Sublist.append_left (List.sublist_cons_self _ _) _
 ·rw[s.part,hmem,List.mem_cons]
  constructor
  ·rintro((h|h)|h)
   ·exact .inr (.inl h)
   ·exact .inl h
   ·exact .inr (.inr h)
  ·rintro(h|h|h)
   ·exact .inl (.inr h)
   ·exact .inl (.inl h)
   ·exact .inr h
 ·rcases List.mem_cons.1 hm with h|h
  ·exact hyn (h▸he)
  ·exact s.apart e ((hmem e).2 (.inr he)) h
 ·rcases List.mem_cons.1 hm with h|h
  ·rw[h];exact hky
  ·exact s.keyM m h
 ·have:=s.own
  unfold Xlt
  constructor
  ·dsimp only;split<;>omega
  ·dsimp only;split<;>omega
 ·have hz:(2*x.Span.Start<z/\z<2*x.Span.End)\/(2*y.Span.Start<z/\z<2*y.Span.End):=by
   unfold Xlt at h1 h2
   dsimp only at h1 h2
   split at h1<;>split at h2<;>omega
  rcases hz with ⟨g1,g2⟩|⟨g1,g2⟩
  ·exact s.inner z g1 g2
  ·exact Xgq (fun t h=>.inl h) (hyw.2.1 z g1 g2)
 ·have hx:(Xlt x y).Span.Start<=x.Span.Start/\x.Span.End<=(Xlt x y).Span.End/\(Xlt x y).Span.Start<=y.Span.Start/\y.Span.End<=(Xlt x y).Span.End:=by
   unfold Xlt;dsimp only
   refine⟨?_,?_,?_,?_⟩<;>split<;>omega
  rcases List.mem_cons.1 hm with h|h
  ·rw[h];exact⟨hx.2.2.1,hx.2.2.2⟩
  ·have:=s.hull m h;omega
 ·show X3u x.Values.e0 y.Values.e0=_
  rw[hperm,s.val0,hyv];rfl
 ·show X3u x.Values.e1 y.Values.e1=_
  rw[hperm,s.val1,hyv];rfl
theorem Ses.end {w:X0s} {L:List Pu} {p:Pu} {es l:List X2} {x:X2} {M:List X2} (hk:w.Kind=3) (hw:1<=w.Size) (hl:L.length<=900) (c:Xed w L es) (s:Ses w L p es l x M) (hno:∀ y∈l,¬ Xyh x y):Xed w (L++[p]) (Xip l x):=by
 have hsl:l.Pairwise ltE:=c.sorted.sublist s.sub
 have hxx:x.Span.Start<x.Span.End:=by have:=s.own;omega
 have hnl:∀ y∈l,y.Key=p.1.Key->¬ (y.Span.Start<x.Span.End/\x.Span.Start<y.Span.End):=fun y hy hky h=>hno y hy ⟨hky.trans s.key.symm,h.1,h.2⟩
 have hT:(X8v (L++[p]) p.1.Key)=fun t=>X8v L p.1.Key t\/t=p.1.Time:=by
  funext t;apply propext;rw[X8g]
  exact⟨fun h=>h.imp id fun h=>h.2.symm,fun h=>h.imp id fun h=>⟨rfl,h.symm⟩⟩
 have hes:∀ e∈es,e.Key=p.1.Key->Xh8 w.Size (X8v L p.1.Key) e.Span:=by
  intro e he hke
  have:=((c.mem e).1 he).1
  unfold Xel at this
  rw[if_pos hk,hke] at this;exact this
 have hxw:Xh8 w.Size (fun t=>X8v L p.1.Key t\/t=p.1.Time) x.Span:=by
  refine⟨hxx,s.inner,?_,?_⟩
  ·rintro⟨t,ht|ht,h1,h2⟩
   ·obtain⟨e,he,hke,a1,a2⟩:=c.cover hk _ t ht
    rcases(s.part e).1 he with h|h
    ·exact hnl e h hke ⟨by omega,by omega⟩
    ·have:=s.hull e h;omega
   ·have:=s.own;omega
  ·rintro⟨t,ht|ht,h1,h2⟩
   ·obtain⟨e,he,hke,a1,a2⟩:=c.cover hk _ t ht
    rcases(s.part e).1 he with h|h
    ·exact hnl e h hke ⟨by omega,by omega⟩
    ·have:=s.hull e h;omega
   ·have:=s.own;omega
 have hpin:inS x.Span p.1.Time:=by have:=s.own;unfold inS;omega
 have hxv:x.Values=Xe9 (L++[p]) p.1.Key x.Span:=by
  have hv:∀ side,Xcq (pv p side++X8t L p.1.Key M side)=Xcq (vals (L++[p]) p.1.Key x.Span side):=by
   intro side
   have h1:vals L p.1.Key x.Span side=X8t L p.1.Key M side:=by
    unfold vals X8t
    congr 1
    refine List.filter_congr fun q hq=>?_
    rw[Bool.eq_iff_iff]
    simp only[decide_eq_true_eq]
    constructor
    ·rintro⟨a1,a2,a3⟩
     refine⟨a1,?_,a3⟩
     obtain⟨e,he,hke,b1,b2⟩:=c.cover hk _ q.1.Time ⟨q,hq,a1,rfl⟩
     unfold inS at a2
     rcases(s.part e).1 he with h|h
     ·exact absurd ⟨by omega,by omega⟩ (hnl e h hke)
     ·exact⟨e,h,by unfold inS;omega⟩
    ·rintro⟨a1,⟨m,hm,b1,b2⟩,a3⟩
     have:=s.hull m hm
     exact⟨a1,⟨by omega,by omega⟩,a3⟩
   have h2:(if p.1.Key=p.1.Key/\inS x.Span p.1.Time/\p.2=side then [p.1.Value] else [])=pv p side:=by
    unfold pv
    by_cases h:p.2=side
    ·rw[if_pos ⟨rfl,hpin,h⟩,if_pos h]
    ·rw[if_neg (fun hc=>h hc.2.2),if_neg h]
   rw[X51,h1,h2]
   exact Xmd List.perm_append_comm (by have:=Xlj p side;have:=Xaa L p.1.Key M side;simp;omega)
  have h0:=s.val0
  have h1:=s.val1
  rw[hv] at h0 h1
  unfold Xe9
  rw[<-h0,<-h1]
 have hns:∀ y∈l,¬ X4d y x:=fun y hy hs=>hno y hy ⟨hs.1,by rw[hs.2];exact hxx,by rw[hs.2];exact hxx⟩
 have hput:∀ e,e∈Xip l x↔e∈l\/e=x:=by
  intro e
  rw[Xgi hsl]
  constructor
  ·rintro(⟨h,_⟩|⟨y,hy,hs,_⟩|⟨_,h⟩)
   ·exact .inl h
   ·exact absurd hs (hns y hy)
   ·exact .inr h
  ·rintro(h|h)
   ·exact .inl ⟨h,hns e h⟩
   ·exact .inr (.inr ⟨hns,h⟩)
 refine⟨Xd4 hsl,fun e=>?_,fun _ k t ht=>?_⟩
 ·rw[hput]
  unfold Xqo Xel
  rw[if_pos hk]
  by_cases hke:e.Key=p.1.Key
  ·rw[hke,hT]
   have hsame:¬ (e.Span.Start<x.Span.End/\x.Span.Start<e.Span.End)->(Xh8 w.Size (fun t=>X8v L p.1.Key t\/t=p.1.Time) e.Span/\e.Values=Xe9 (L++[p]) p.1.Key e.Span↔Xh8 w.Size (X8v L p.1.Key) e.Span/\e.Values=Xe9 L p.1.Key e.Span):=by
    intro hn
    have hown:=s.own
    have hpn:e.Span.Start<e.Span.End->¬ inS e.Span p.1.Time:=fun h hi=>by unfold inS at hi;exact hn ⟨by omega,by omega⟩
    have hvv:e.Span.Start<e.Span.End->Xe9 (L++[p]) p.1.Key e.Span=Xe9 L p.1.Key e.Span:=fun h=>by
     unfold Xe9
     rw[X51,X51,if_neg (fun hc=>hpn h hc.2.1),if_neg (fun hc=>hpn h hc.2.1),List.append_nil,List.append_nil]
    constructor
    ·rintro⟨⟨a1,a2,a3,a4⟩,hv⟩
     refine⟨⟨a1,fun z h1 h2=>?_,fun h=>a3 (Xgq (fun t h=>.inl h) h),fun h=>a4 (Xgq (fun t h=>.inl h) h)⟩,by rw[hv,hvv a1]⟩
     obtain⟨t,ht|ht,b1,b2⟩:=a2 z h1 h2
     ·exact⟨t,ht,b1,b2⟩
     ·exact absurd ⟨by omega,by omega⟩ hn
    ·rintro⟨⟨a1,a2,a3,a4⟩,hv⟩
     refine⟨⟨a1,fun z h1 h2=>Xgq (fun t h=>.inl h) (a2 z h1 h2),?_,?_⟩,by rw[hv,hvv a1]⟩
     ·rintro⟨t,ht|ht,b1,b2⟩
      ·exact a3 ⟨t,ht,b1,b2⟩
      ·exact hn ⟨by omega,by omega⟩
     ·rintro⟨t,ht|ht,b1,b2⟩
      ·exact a4 ⟨t,ht,b1,b2⟩
      ·exact hn ⟨by omega,by omega⟩
   constructor
   ·rintro(h|h)
    ·have he:e∈es:=(s.part e).2 (.inl h)
     refine(hsame (hnl e h hke)).2 ⟨hes e he hke,?_⟩
     have:=((c.mem e).1 he).2
     rw[hke] at this;exact this
    ·rw[h];exact⟨hxw,hxv⟩
   ·intro h
    by_cases hov:e.Span.Start<x.Span.End/\x.Span.Start<e.Span.End
    ·right
     have hsp:=Xow h.1 hxw hov.1 hov.2
     have hkx:=s.key
     obtain⟨_,h2⟩:=h
     rw[hsp] at h2
     cases e;cases x
     simp only at hke hsp h2 hkx hxv
     simp only[X2.mk.injEq]
     exact⟨hke.trans hkx.symm,hsp,by rw[h2,hxv]⟩
    ·left
     have h3:=(hsame hov).1 h
     have he:e∈es:=(c.mem e).2 ⟨by unfold Xel;rw[if_pos hk,hke];exact h3.1,by rw[hke];exact h3.2⟩
     rcases(s.part e).1 he with h4|h4
     ·exact h4
     ·have:=s.hull e h4
      exact absurd ⟨by have:=h3.1.1;omega,by have:=h3.1.1;omega⟩ hov
  ·have hT2:X8v (L++[p]) e.Key=X8v L e.Key:=by
    funext t;apply propext;rw[X8g]
    exact⟨fun h=>h.resolve_right fun hc=>hke hc.1.symm,.inl⟩
   have hV2:Xe9 (L++[p]) e.Key e.Span=Xe9 L e.Key e.Span:=by
    unfold Xe9
    rw[X51,X51,if_neg (fun hc=>hke hc.1.symm),if_neg (fun hc=>hke hc.1.symm),List.append_nil,List.append_nil]
   rw[hT2,hV2]
   constructor
   ·rintro(h|h)
    ·have:=(c.mem e).1 ((s.part e).2 (.inl h))
     unfold Xqo Xel at this
     rw[if_pos hk] at this;exact this
    ·exact absurd (by rw[h];exact s.key) hke
   ·intro h
    have he:e∈es:=(c.mem e).2 (by unfold Xqo Xel;rw[if_pos hk];exact h)
    rcases(s.part e).1 he with h4|h4
    ·exact .inl h4
    ·exact absurd (s.keyM e h4) hke
 ·rcases(X8g ..).1 ht with ht|⟨h1,h2⟩
  ·obtain⟨e,he,hke,a1,a2⟩:=c.cover hk k t ht
   rcases(s.part e).1 he with h|h
   ·exact⟨e,(hput e).2 (.inl h),hke,a1,a2⟩
   ·have:=s.hull e h
    exact⟨x,(hput x).2 (.inr rfl),s.key.trans ((s.keyM e h).symm.trans hke),by omega,by omega⟩
  ·have:=s.own
   exact⟨x,(hput x).2 (.inr rfl),s.key.trans h1,by omega,by omega⟩
end Go.D


namespace Go.D
theorem Xwf (Y:List X2) (x:X2):∀ (xs:List X2) (k:Nat),(Xd Y x xs k=some .x0/\∀ y∈xs,¬ Xyh x y) \/
  ∃ (i:Nat) (y:X2),Xd Y x xs k=some (.x1 ((k+i:Nat):Int))/\xs[i]?=some y/\Xyh x y:=by
 intro xs
 induction xs with
 |nil=>intro k;exact .inl ⟨rfl,fun y hy=>by cases hy⟩
 |cons z xs ih =>
  intro k
  rw[Xd]
  by_cases h:Xyh x z
  ·right
   have:(bif (bif (z.Key==x.Key) then (decide (z.Span.Start<x.Span.End)) else false) then (decide (x.Span.Start<z.Span.End)) else false)=true:=by
    obtain⟨h1,h2,h3⟩:=h;simp[h1,h2,h3]
   rw[this,cond_true]
   exact⟨0,z,rfl,rfl,h⟩
  ·have:(bif (bif (z.Key==x.Key) then (decide (z.Span.Start<x.Span.End)) else false) then (decide (x.Span.Start<z.Span.End)) else false)=false:=by
    rw[<-Bool.not_eq_true]
    intro hc
    apply h
    by_cases h1:z.Key=x.Key
    ·by_cases h2:z.Span.Start<x.Span.End
     ·by_cases h3:x.Span.Start<z.Span.End
      ·exact⟨h1,h2,h3⟩
      ·simp[h1,h2,h3] at hc
     ·simp[h1,h2] at hc
    ·have:(z.Key==x.Key)=false:=by simp[h1]
     simp[this] at hc
   rw[this,cond_false]
   rcases ih (k+1) with ⟨h1,h2⟩|⟨i,y,h1,h2,h3⟩
   ·exact .inl ⟨h1,fun y hy=>(List.mem_cons.1 hy).elim (fun e=>e▸h) (h2 y)⟩
   ·exact .inr ⟨i+1,y,by rw[h1];congr 2;omega,by simpa using h2,h3⟩
theorem Xyk {w:X0s} {L:List Pu} {p:Pu} {es:List X2} (hk:w.Kind=3) (hw:1<=w.Size) (hl:L.length<=900) (hn:es.length<=3900) (c:Xed w L es) (hu:∀ e∈es,okA e.Values.e0/\okA e.Values.e1/\e.Values.e0.Count<=1000/\e.Values.e1.Count<=1000):∀ (f:Nat) (l:List X2) (x:X2) (M:List X2),l.length<f->Ses w L p es l x M ->
  ∃ es',X1o f l x=some (.x0 es' 0)/\Xed w (L++[p]) es'/\es'.length<=es.length+1:=by
 intro f
 induction f with
 |zero=>intro l x M h;omega
 |succ f ih =>
  intro l x M hf s
  have hsl:l.Pairwise ltE:=c.sorted.sublist s.sub
  have hll:l.length<=es.length:=s.sub.length_le
  have hxv:okA x.Values.e0/\okA x.Values.e1/\x.Values.e0.Count<=1000/\x.Values.e1.Count<=1000:=by
   have h0:=Xlj p 0
   have h1:=Xlj p 1
   have h2:=Xaa L p.1.Key M 0
   have h3:=Xaa L p.1.Key M 1
   rw[s.val0,s.val1]
   refine⟨Xi5 (by simp;omega),Xi5 (by simp;omega),?_,?_⟩
   ·rw[X3i];simp;omega
   ·rw[X3i];simp;omega
  rw[X1o]
  rw[X2z (by omega),Yo]
  rcases Xwf l x l 0 with ⟨h1,h2⟩|⟨i,y,h1,h2,h3⟩
  ·rw[h1]
   simp only[Yo]
   have hneg:decide ((-1:Int)<0)=true:=by decide
   rw[hneg,cond_true]
   have hput:=Xye (x:=x) hsl (by omega) ⟨hxv.1,hxv.2.1⟩ (fun y hy _=>by
    obtain⟨a1,a2,a3,a4⟩:=hu y ((s.part y).2 (.inl hy))
    exact⟨a1,a2,by omega,by omega⟩)
   unfold putF at hput
   refine⟨Xip l x,?_,Ses.end hk hw hl c s h2,by have:=Xgj l x;omega⟩
   rw[hput]
   rfl
  ·rw[h1]
   have hlt:i<l.length:=(Ys.1 h2).1
   simp only[Yo,Nat.zero_add]
   have hneg:decide ((i:Int)<0)=false:=by simp
   rw[hneg,cond_false,X4y,h2,Yo]
   obtain⟨a1,a2,a3,a4⟩:=hu y ((s.part y).2 (.inl (Yg h2)))
   have hd:delI l (i:Int)=some (l.take i++l.drop (i+1)):=by
    unfold delI;rw[if_pos ⟨by omega,by simpa using hlt,by omega⟩];simp
   simp only[X2w hxv.1 a1 (by omega),X2w hxv.2.1 a2 (by omega),Yo,bne_self_eq_false,cond_false,hd]
   have hstep:=s.step hk hl c h2 h3
   exact ih _ _ _ (by simp;omega) hstep
theorem Xju {w:X0s} {L:List Pu} {p:Pu} {es:List X2} (hw:okW w) (hk:w.Kind=3) (hL:OkPu w (L++[p])) (c:Xed w L es) (hn:es.length<=3900) :
  ∃ es',X3q es w p.1 p.2=some (es',0)/\Xed w (L++[p]) es'/\es'.length<=es.length+1:=by
 have ht:=hL.time p (by simp)
 have hsd:=hL.side p (by simp)
 have hll:=hL.init.len
 have hw1:=hw.1
 have hw2:=hw.2.1
 have hu:∀ e∈es,okA e.Values.e0/\okA e.Values.e1/\e.Values.e0.Count<=1000/\e.Values.e1.Count<=1000:=fun e he=>by
  have:=((c.mem e).1 he).2
  rw[this];exact Xkp (by omega) _ _
 obtain⟨es',h1,h2,h3⟩:=Xyk hk hw1 (by omega) hn c hu FU es _ [] (by unfold FU;omega) (Ses.start (p:=p) hw1)
 refine⟨es',?_,h2,h3⟩
 have ht':=ht
 unfold okT at ht'
 unfold X3q
 have e1:(bif (p.2 != 0) then (p.2 != 1) else false)=false:=by rcases hsd with h|h<;>simp[h]
 have b1:decide (p.1.Time<((-1099511627776):Int))=false:=by simp;omega
 have b2:decide (p.1.Time>(1099511627776:Int))=false:=by simp;omega
 have e2:(bif (decide (p.1.Time<((-1099511627776):Int))) then true else (decide (p.1.Time>(1099511627776:Int))))=false:=by rw[b1,b2];rfl
 have e3:((X71 p.1.Value).bind fun v14=>bif (p.2==(0:Int)) then (some (X2.mk p.1.Key (X00.mk 0 0) (V2.mk v14 (X0t.mk 0 0 0 0)))) else (bif (p.2==(1:Int)) then (some (X2.mk p.1.Key (X00.mk 0 0) (V2.mk (X0t.mk 0 0 0 0) v14))) else none):Option (X2))=some (X6a p ⟨0,0⟩):=by
  simp only[X71,Yo]
  rcases hsd with h|h
  ·simp[h,X6a,ofA,Xaq]
  ·simp[h,X6a,ofA,Xaq]
 have e4:(bif (List.isEmpty es) then (some es) else ((X2b (List.length es) 88).bind fun u28=>some es):Option ((List X2)))=some es:=by
  rw[X45 (by omega)]
  cases List.isEmpty es<;>rfl
 have e5:(w.Kind==3)=true:=by simp[hk]
 have c1:decide (w.Size<1)=false:=by simp;omega
 have c2:decide (w.Size>1073741824)=false:=by simp;omega
 have e6:X3s 0 w.Size=some 0:=by
  simp only[X3s,c1,c2,cond_false];rfl
 have e7:X3s p.1.Time w.Size=some 0:=by
  simp only[X3s,c1,c2,cond_false,b1,b2]
 have e8:X8c 1=some 1:=by decide +kernel
 rw[Xa0 c.sorted (Xm7 hw hL.init c) (by omega),Yo]
 simp only[bne_self_eq_false,cond_false,X3c hw,Yo,e1,e2]
 rw[e3,Yo,e4,Yo]
 simp only[e5,cond_true,e6,e7,e8,Yo,bne_self_eq_false,cond_false]
 have hg:X3b [X00.mk p.1.Time (IntKind.i64.wrap (p.1.Time+w.Size))] 0=some ⟨p.1.Time,p.1.Time+w.Size⟩:=by
  rw[X0l (by omega) (by omega)];rfl
 rw[hg,Yo]
 have hent:(⟨(X6a p ⟨0,0⟩).Key,⟨p.1.Time,p.1.Time+w.Size⟩,(X6a p ⟨0,0⟩).Values⟩:X2)=X6a p ⟨p.1.Time,p.1.Time+w.Size⟩:=rfl
 rw[hent,h1,Yo,Yo]
 have e9:decide ((es'.length:Int)>4000)=false:=by simp;omega
 simp only[bne_self_eq_false,cond_false,e9]
theorem Xlb {w:X0s} {L:List Pu} {p:Pu} {es:List X2} (hw:okW w) (hL:OkPu w (L++[p])) (c:Xed w L es) (hn:es.length<=3900) :
  ∃ es',X3q es w p.1 p.2=some (es',0)/\Xed w (L++[p]) es'/\es'.length<=es.length+16:=by
 by_cases hk:w.Kind=3
 ·obtain⟨es',h1,h2,h3⟩:=Xju hw hk hL c hn
  exact⟨es',h1,h2,by omega⟩
 ·exact Xh3 hw hk hL c hn
end Go.D


namespace Go.D
structure RQ (q:X03):Prop where
 w:QW q
 ok:(Xs7 q).2=0
theorem RQ.cz {q:X03} (h:RQ q):Xr8 q=0:=by
 have:=h.ok
 unfold Xs7 at this
 split at this
 ·rename_i h1;exact absurd this h1
 ·rename_i h1;omega
theorem RQ.facts {q:X03} (h:RQ q):(1<=q.Agg/\q.Agg<=4/\(q.Late=1\/q.Late=2))/\(q.Agg≠1->Xbf q.Arg=0)/\(0<q.Where.length->Xbf q.Where=0)/\X6n q.Sources q.Join=0/\okW q.Window/\(q.Join=true->q.Window.Kind=1):=by
 have hc:=h.cz
 unfold Xr8 at hc
 split at hc
 ·cases hc
 ·rename_i h1
  split at hc
  ·cases hc
  ·split at hc
   ·rename_i h2;exact absurd hc h2.2
   ·rename_i h2
    split at hc
    ·rename_i h3;exact absurd hc h3.2
    ·rename_i h3
     split at hc
     ·rename_i h4;exact absurd hc h4
     ·rename_i h4
      split at hc
      ·cases hc
      ·rename_i h5
       split at hc
       ·rename_i h6
        refine⟨by omega,fun ha=>?_,fun hw=>?_,by omega,h6,fun hj=>?_⟩
        ·by_cases hz:Xbf q.Arg=0
         ·exact hz
         ·exact absurd ⟨ha,hz⟩ h2
        ·by_cases hz:Xbf q.Where=0
         ·exact hz
         ·exact absurd ⟨hw,hz⟩ h3
        ·by_cases hk:q.Window.Kind=1
         ·exact hk
         ·exact absurd ⟨hj,hk⟩ h5
       ·cases hc
theorem RQ.src {q:X03} (h:RQ q):1<=q.Sources.length/\q.Sources.length<=4/\(q.Join=true->q.Sources.length=2):=by
 have hs:=h.facts.2.2.2.1
 unfold X6n at hs
 split at hs
 ·cases hs
 ·split at hs
  ·cases hs
  ·rename_i h1 h2
   unfold Xou at h2
   have h2:((q.Sources.length==0||(q.Join&&q.Sources.length != 2))||q.Sources.any fun x=>decide (x<0)||decide (x>3))=false:=by simpa using h2
   rw[Bool.or_eq_false_iff,Bool.or_eq_false_iff] at h2
   have a1:q.Sources.length≠0:=by simpa using h2.1.1
   refine⟨by omega,by omega,fun hj=>?_⟩
   have:=h2.1.2
   rw[hj] at this
   simpa using this
def valA (agg:Int) (a:X0t):Int:=if agg=1 then a.Count else if agg=2 then a.Sum else if agg=3 then a.Min else a.Max
theorem Xc6 {agg:Int} {a:X0t} (h1:1<=agg) (h2:agg<=4) (ha:okA a):X6i agg a=some (if a.Count=0 then (0,6) else (valA agg a,0)):=by
 unfold X6i
 rw[Yf (show ¬ agg<1 by omega),Yf (show ¬ agg>4 by omega),X2g ha]
 simp only[cond_false,Yo,bne_self_eq_false]
 by_cases hc:a.Count=0
 ·rw[if_pos hc,hc];rfl
 ·rw[if_neg hc,show(a.Count==0)=false by simp[hc]]
  unfold valA
  rcases(by omega:agg=1\/agg=2\/agg=3\/agg=4) with h|h|h|h<;>subst h<;>rfl
def live (q:X03) (e:X2):Bool:=decide (e.Values.e0.Count≠0)&&(!q.Join||decide (e.Values.e1.Count≠0))
def rowE (q:X03) (e:X2):X28:=⟨e.Key,e.Span,⟨valA q.Agg e.Values.e0,if q.Join then valA q.Agg e.Values.e1 else 0⟩⟩
def X04k (q:X03) (es:List X2):List X28:=(es.filter (live q)).map (rowE q)
end Go.D


namespace Go.D
def isT (t:Int):Bool:=decide (-1099511627776<=t)&&decide (t<=1099511627776)
def Xp7 (t:Int):Bool:=isT t||(t==9223372036854775807)
def Xli:Xl:=⟨0,0,0⟩
def row0:X28:=⟨0,⟨0,0⟩,⟨0,0⟩⟩
def Xhb (x:X28):Bool:=decide (-2199023255552<=x.Span.Start)&&decide (x.Span.Start<x.Span.End)&&decide (x.Span.End<=2199023255552)
def mOK (m:Xg):Bool :=
 if m.Kind=1\/m.Kind=4 then isT m.Record.Time&&decide (m=⟨m.Kind,m.Record,0,row0⟩)
 else if m.Kind=2 then Xp7 m.Time&&decide (m=⟨m.Kind,Xli,m.Time,row0⟩)
 else if m.Kind=3 then Xhb m.Row&&decide (m=⟨m.Kind,Xli,0,m.Row⟩)
 else false
theorem Xc4 (x y:Xg):X7x x y=decide (x=y):=by
 obtain⟨k,⟨a,b,c⟩,t,⟨d,⟨e,f⟩,⟨g,h⟩⟩⟩:=x
 obtain⟨k',⟨a',b',c'⟩,t',⟨d',⟨e',f'⟩,⟨g',h'⟩⟩⟩:=y
 rw[Bool.eq_iff_iff]
 simp[X7x,X9j,Xkn,Xe8,Xm2,and_assoc]
theorem X7g (t:Int):X42 t=some (isT t):=by
 unfold X42 isT
 cases h1:decide (t >= -1099511627776)<;>simp_all
theorem Xag (t:Int):X4r t=some (Xp7 t):=by
 unfold X4r Xp7
 rw[X7g,Yo]
 cases isT t<;>simp
theorem X25 (m:Xg):X2s m=some (if mOK m then 0 else 8):=by
 have fin:∀ (b:Bool) (w:Xg),(bif (bif (!b) then true else (!(X7x m w))) then some (8:Int) else some 0)=some (if (b&&decide (m=w)) then 0 else 8):=by
  intro b w
  rw[Xc4]
  cases b<;>cases decide (m=w)<;>rfl
 unfold X2s mOK
 rw[X7g,Xag]
 by_cases h1:m.Kind=1
 ·rw[if_pos (show m.Kind=1\/m.Kind=4 from .inl h1),show(m.Kind==(1:Int))=true by simp[h1]]
  simp only[cond_true,Yo]
  exact fin _ _
 ·rw[show(m.Kind==(1:Int))=false by simp[h1]]
  by_cases h4:m.Kind=4
  ·rw[if_pos (show m.Kind=1\/m.Kind=4 from .inr h4),show(m.Kind==(4:Int))=true by simp[h4]]
   simp only[cond_true,cond_false,Yo]
   exact fin _ _
  ·rw[if_neg (show ¬ (m.Kind=1\/m.Kind=4) by simp[h1,h4]),show(m.Kind==(4:Int))=false by simp[h4]]
   by_cases h2:m.Kind=2
   ·rw[if_pos h2,show(m.Kind==(2:Int))=true by simp[h2]]
    simp only[cond_true,cond_false,Yo]
    exact fin _ _
   ·rw[if_neg h2,show(m.Kind==(2:Int))=false by simp[h2]]
    by_cases h3:m.Kind=3
    ·rw[if_pos h3,show(m.Kind==(3:Int))=true by simp[h3]]
     simp only[cond_true,cond_false,Yo]
     rw[fin]
     have:Xhb m.Row=(bif (bif (decide ((-2199023255552:Int)<=m.Row.Span.Start)) then (decide (m.Row.Span.Start<m.Row.Span.End)) else false) then (decide (m.Row.Span.End<=(2199023255552:Int))) else false):=by
      unfold Xhb
      cases decide ((-2199023255552:Int)<=m.Row.Span.Start)<;>cases decide (m.Row.Span.Start<m.Row.Span.End)<;>rfl
     rw[this];rfl
    ·rw[if_neg h3,show(m.Kind==(3:Int))=false by simp[h3]]
     simp only[cond_false,Yo]
     rw[fin];rfl
def sOK (s:X0v):Bool:=decide (0<=s.Out)&&decide (s.Out<3)&&mOK s.Message
theorem Xb8 (Y:List X0v):∀ (xs:List X0v) (k:Nat),X4c Y xs k=some (if xs.all sOK then .x0 else .x1)
 |[],k=>rfl
 |x::xs,k=>by
  rw[X4c,X25,List.all_cons,Xb8 Y xs (k+1)]
  unfold sOK
  by_cases h1:x.Out<0
  ·rw[Yt h1,Yf (show ¬ 0<=x.Out by omega)];rfl
  ·rw[Yf h1,Yt (show 0<=x.Out by omega)]
   by_cases h2:x.Out >= 3
   ·rw[Yt h2,Yf (show ¬ x.Out<3 by omega)];rfl
   ·rw[Yf h2,Yt (show x.Out<3 by omega)]
    cases mOK x.Message<;>rfl
theorem Xdg {l:List X0v} (h:l.length<=140737488355328):X8h l=some (l.all sOK):=by
 unfold X8h
 rw[X2z h,Yo,Xb8]
 cases l.all sOK<;>rfl
instance (a:X0t):Decidable (okA a):=by unfold okA;infer_instance
instance (x:X2):Decidable (okE x):=by unfold okE;infer_instance
instance (x y:X2):Decidable (ltE x y):=by unfold ltE;infer_instance
theorem Xc7 (a:X0t):X2l a=some (if okA a then 0 else 8):=by
 by_cases h:okA a
 ·rw[if_pos h];exact X2g h
 ·rw[if_neg h]
  unfold okA at h
  unfold X2l
  rw[Xko]
  by_cases h0:a.Count=0
  ·have:¬ a=⟨0,0,0,0⟩:=fun e=>h (.inl ⟨h0,e⟩)
   simp[h0,this]
  ·by_cases h1:a.Count=1
   ·have:¬ (a.Sum=a.Min/\a.Sum=a.Max):=fun e=>h (.inr (.inl ⟨h1,e⟩))
    rw[show(a.Count==(0:Int))=false by simpa using h0,show(a.Count==(1:Int))=true by simpa using h1]
    simp only[cond_true,cond_false,Yo]
    by_cases e1:a.Sum=a.Min
    ·have e2:¬ a.Sum=a.Max:=fun e=>this ⟨e1,e⟩
     rw[show(a.Sum==a.Min)=true by simpa using e1,show(a.Sum==a.Max)=false by simpa using e2];rfl
    ·rw[show(a.Sum==a.Min)=false by simpa using e1];rfl
   ·rw[show(a.Count==(0:Int))=false by simpa using h0,show(a.Count==(1:Int))=false by simpa using h1]
    simp only[cond_false]
    by_cases h2:1<a.Count
    ·by_cases h3:a.Count<=1073741824
     ·have:¬ a.Min<=a.Max:=fun e=>h (.inr (.inr ⟨h2,h3,e⟩))
      rw[Yt (show a.Count>1 from h2),Yt h3,Yf this];rfl
     ·rw[Yt (show a.Count>1 from h2),Yf h3];rfl
    ·rw[Yf (show ¬ a.Count>1 from h2)];rfl
theorem Xih (x:X2):X62 x=some (decide (okE x)):=by
 by_cases h:okE x
 ·rw[Yt h];exact X9z h
 ·rw[Yf h]
  unfold okE at h
  unfold X62
  rw[Xc7,Xc7]
  by_cases h1:x.Span.Start < -1100585369600
  ·rw[Yt h1];rfl
  ·rw[Yf h1]
   by_cases h2:x.Span.End<=x.Span.Start
   ·rw[Yt h2];rfl
   ·rw[Yf h2]
    by_cases h3:x.Span.End>1100585369600
    ·rw[Yt h3];rfl
    ·rw[Yf h3]
     simp only[cond_false,Yo]
     by_cases a0:okA x.Values.e0
     ·by_cases a1:okA x.Values.e1
      ·have c0:=X4o a0
       have c1:=X4o a1
       have:¬ 0<x.Values.e0.Count+x.Values.e1.Count:=fun e=>h ⟨by omega,by omega,by omega,a0,a1,e⟩
       rw[if_pos a0,if_pos a1,X0l (by omega) (by omega),Yf (show ¬ x.Values.e0.Count+x.Values.e1.Count>0 from this)];rfl
      ·rw[if_pos a0,if_neg a1];rfl
     ·rw[if_neg a0];rfl
def bhd:Option X2->X2->Bool
 |none,_=>true
 |some e,x=>decide (ltE e x)
def Xlv:Option X2->List X2->Bool
 |_,[]=>true
 |p,x::xs=>decide (okE x)&&bhd p x&&Xlv (some x) xs
def Xrr (l:List X2):Bool:=Xlv none l
theorem Xlu:∀ (l:List X2) (p:Option X2),Xlv p l=true↔(∀ x∈l,okE x)/\l.Pairwise ltE/\(∀ e,p=some e->∀ x∈l,ltE e x)
 |[],p=>by simp[Xlv]
 |x::xs,p=>by
  rw[Xlv,Bool.and_eq_true,Bool.and_eq_true,Xlu xs (some x),List.pairwise_cons]
  constructor
  ·rintro⟨⟨h1,h2⟩,h3,h4,h5⟩
   have h5':=h5 x rfl
   refine⟨fun y hy=>?_,⟨h5',h4⟩,fun e he y hy=>?_⟩
   ·rcases List.mem_cons.1 hy with rfl|hy
    ·simpa using h1
    ·exact h3 y hy
   ·subst he
    have h2':ltE e x:=by simpa[bhd] using h2
    rcases List.mem_cons.1 hy with rfl|hy
    ·exact h2'
    ·exact Xdu h2' (h5' y hy)
  ·rintro⟨h1,⟨h2,h3⟩,h4⟩
   refine⟨⟨by simpa using h1 x List.mem_cons_self,?_⟩,fun y hy=>h1 y (List.mem_cons_of_mem _ hy),h3,fun e he=>by cases he;exact h2⟩
   cases p with
   |none=>rfl
   |some e=>simpa[bhd] using h4 e rfl x List.mem_cons_self
theorem Xdj {l:List X2}:Xrr l=true↔(∀ x∈l,okE x)/\l.Pairwise ltE:=by
 unfold Xrr
 rw[Xlu]
 constructor
 ·rintro⟨h1,h2,_⟩;exact⟨h1,h2⟩
 ·rintro⟨h1,h2⟩;exact⟨h1,h2,fun e he=>by cases he⟩
theorem Xac (l:List X2) (hn:l.length<=1000000):∀ (xs:List X2) (k:Nat),l.drop k=xs->X2r l xs k=some (if Xlv (if k=0 then none else l[k - 1]?) xs then .x0 else .x1)
 |[],k,_=>rfl
 |x::xs,k,h=>by
  have hk:l[k]?=some x:=by
   have:=congrArg (fun z=>z[0]?) h
   simpa using this
  have hlt:k<l.length:=(Ys.1 hk).1
  have hd:l.drop (k+1)=xs:=by
   have:=congrArg List.tail h
   simpa using this
  have ih:=Xac l hn xs (k+1) hd
  rw[if_neg (Nat.succ_ne_zero k),show k+1 - 1=k from rfl,hk] at ih
  rw[X2r,Xih,Yo,Xlv]
  by_cases ho:okE x
  ·rw[Yt ho]
   cases k with
   |zero =>
    rw[Yf (by omega),if_pos rfl]
    simp only[Bool.not_true,cond_false,Yo,Bool.true_and]
    exact ih
   |succ k =>
    have hp:(l[k]'(by omega))=(l[k]'(by omega)):=rfl
    rw[Yt (show((k+1:Nat):Int)>0 by omega),if_neg (Nat.succ_ne_zero k),X0l (by omega) (by omega),show(((k+1:Nat):Int) - 1)=(k:Int) by omega,X4y,show k+1 - 1=k from rfl,Ye (show k<l.length by omega)]
    simp only[Bool.not_true,cond_false,cond_true,Yo,X7m,Bool.true_and]
    by_cases hl:ltE (l[k]'(by omega)) x
    ·rw[show bhd (some (l[k]'(by omega))) x=true from Yt hl,show decide (Xr2 (l[k]'(by omega)) x >= 0)=false from Yf fun e=>Xmx.1 e hl]
     simp only[cond_false,Bool.true_and]
     exact ih
    ·rw[show bhd (some (l[k]'(by omega))) x=false from Yf hl,show decide (Xr2 (l[k]'(by omega)) x >= 0)=true from Yt (Xmx.2 hl)];rfl
  ·rw[Yf ho];rfl
theorem X7n (l:List X2):X3x l=some (if l.length>4000 then 4 else if Xrr l then 0 else 8):=by
 unfold X3x
 by_cases h:l.length>4000
 ·rw[Yt (by omega),if_pos h];rfl
 ·rw[Yf (by omega),if_neg h,cond_false,X2z (by omega),Yo,Xac l (by omega) l 0 rfl,if_pos rfl]
  unfold Xrr
  cases Xlv none l<;>rfl
def mkL (t:Int):Bool:=(t == -9223372036854775808)||Xp7 t
def Xd5 (l:List Int):Bool:=decide (1<=l.length)&&decide (l.length<=4)&&l.all mkL
theorem Xt7 (t:Int):mOK ⟨2,⟨0,0,0⟩,t,⟨0,⟨0,0⟩,⟨0,0⟩⟩⟩=Xp7 t:=by
 unfold mOK
 simp[Xli,row0]
theorem Xbw (t:Int):X6h t=some (Xp7 t):=by
 unfold X6h
 rw[X25,Xt7]
 cases Xp7 t<;>rfl
theorem Xig (t:Int):X8y t=some (mkL t):=by
 unfold X8y mkL
 rw[X25,Xt7]
 cases(t == -9223372036854775808)<;>cases Xp7 t<;>rfl
theorem Xah (Y:List Int):∀ (xs:List Int) (k:Nat),X44 Y xs k=some (if xs.all mkL then .x0 else .x1)
 |[],k=>rfl
 |x::xs,k=>by
  rw[X44,Xbw,List.all_cons,Xah Y xs (k+1)]
  unfold mkL
  by_cases h:x = -9223372036854775808
  ·rw[show(x != -9223372036854775808)=false by simp[h],show(x == -9223372036854775808)=true by simp[h]];rfl
  ·rw[show(x != -9223372036854775808)=true by simp[h],show(x == -9223372036854775808)=false by simp[h]]
   cases Xp7 x<;>rfl
theorem Xit (l:List Int):X9f l=some (if Xd5 l then 0 else 8):=by
 unfold X9f Xd5
 by_cases h0:l.length=0
 ·rw[show((l.length:Int)==0)=true by simp[h0],Yf (show ¬ 1<=l.length by omega)];rfl
 ·rw[show((l.length:Int)==0)=false by simp;intro e;simp[e] at h0,Yt (show 1<=l.length by omega)]
  by_cases h4:l.length>4
  ·rw[Yt (show(l.length:Int)>4 by omega),Yf (show ¬ l.length<=4 by omega)];rfl
  ·rw[Yf (show ¬ (l.length:Int)>4 by omega),Yt (show l.length<=4 by omega)]
   simp only[cond_false,Yo]
   rw[X2z (by omega),Yo,Xah]
   cases l.all mkL<;>rfl
def Xuq (l:List Int) (m:Int):Int:=l.foldl (fun y e=>if e<y then e else y) m
def Xcd:List Int->Int
 |[]=>0
 |x::xs=>Xuq xs x
theorem X011 (l:List Int) (hl:l.length<=1000):∀ (m n k:Nat) (y:Int),m=l.length - k->m<n->k<=l.length->X0w l n y (k:Int)=some (.x0 (Xuq (l.drop k) y)):=by
 intro m
 induction m with
 |zero =>
  intro n k y hm hn hk
  obtain⟨n,rfl⟩:∃ q,n=q+1:=⟨n - 1,by omega⟩
  rw[X0w,Yf (by omega),List.drop_eq_nil_of_le (by omega)];rfl
 |succ m ih =>
  intro n k y hm hn hk
  obtain⟨n,rfl⟩:∃ q,n=q+1:=⟨n - 1,by omega⟩
  have hlt:k<l.length:=by omega
  rw[X0w,Yt (by omega),cond_true,X4y,Ye hlt,Yo,X0l (by omega) (by omega),show((k:Int)+1)=((k+1:Nat):Int) by omega,ih n (k+1) _ (by omega) (by omega) (by omega),List.drop_eq_getElem_cons hlt]
  rfl
theorem Xdl {l:List Int} (h1:1<=l.length) (h2:l.length<=1000):X22 l=some (Xcd l):=by
 unfold X22
 rw[Yf (by omega),cond_false]
 cases l with
 |nil=>simp at h1
 |cons x xs =>
  rw[show X3b (x::xs) 0=some x from X4y (x::xs) 0,Yo]
  have:=X011 (x::xs) h2 xs.length FU 1 x (by simp) (by simp at h2;unfold FU;omega) (by simp)
  rw[show((1:Nat):Int)=1 from rfl] at this
  rw[this];rfl
theorem Xds {l:List Int} (h:Xd5 l=true):1<=l.length/\l.length<=4/\l.all mkL=true:=by
 unfold Xd5 at h
 simp only[Bool.and_eq_true,decide_eq_true_eq] at h
 exact⟨h.1.1,h.1.2,h.2⟩
theorem X43 (l:List Int):X4g l=some (if Xd5 l then (Xcd l,0) else (0,8)):=by
 unfold X4g
 rw[Xit,Yo]
 cases h:Xd5 l with
 |false=>rfl
 |true =>
  obtain⟨h1,h2,_⟩:=Xds h
  rw[Xdl h1 (by omega)];rfl
def X1z (l:List Int) (i:Nat) (t:Int):List Int:=l.set i (if t>l.getD i 0 then t else l.getD i 0)
theorem Xis {l:List Int} (h:Xd5 l=true) {i:Nat} (hi:i<l.length) {t:Int} (ht:Xp7 t=true):X7h l (i:Int) t=some (X1z l i t,decide (Xcd (X1z l i t)>Xcd l),0):=by
 obtain⟨h1,h2,_⟩:=Xds h
 unfold X7h
 rw[X43,h,Yo]
 simp only[if_true,bne_self_eq_false,cond_false]
 rw[Yf (show ¬ (i:Int)<0 by omega),Yf (show ¬ (i:Int) >= (l.length:Int) by omega),Xbw,ht]
 simp only[cond_false,Yo,Bool.not_true]
 have hc:(bif l.isEmpty then some l else (X2b l.length 8).bind fun _=>some l:Option (List Int))=some l:=by
  rw[X45 (by omega)];cases l.isEmpty<;>rfl
 rw[hc,Yo,X4y,Ye hi,Yo,Int.toNat_natCast]
 have e:l.set i (if t>l[i] then t else l[i])=X1z l i t:=by
  unfold X1z;rw[List.getD_eq_getElem?_getD,Ye hi];rfl
 rw[e,Xdl (by unfold X1z;simp;omega) (by unfold X1z;simp;omega)];rfl
theorem Xn7:∀ (l:List Int) (m:Int),Xuq l m<=m/\∀ x∈l,Xuq l m<=x
 |[],m=>⟨Int.le_refl _,fun _ h=>by cases h⟩
 |x::xs,m=>by
  obtain⟨h1,h2⟩:=Xn7 xs (if x<m then x else m)
  have e:Xuq (x::xs) m=Xuq xs (if x<m then x else m):=rfl
  rw[e]
  have h3:(if x<m then x else m)<=m/\(if x<m then x else m)<=x:=by split<;>omega
  refine⟨by omega,fun y hy=>?_⟩
  rcases List.mem_cons.1 hy with rfl|hy
  ·omega
  ·exact h2 y hy
theorem Xp4:∀ (l:List Int) (m:Int),Xuq l m=m\/Xuq l m∈l
 |[],m=>.inl rfl
 |x::xs,m=>by
  have e:Xuq (x::xs) m=Xuq xs (if x<m then x else m):=rfl
  rw[e]
  rcases Xp4 xs (if x<m then x else m) with h|h
  ·rw[h]
   split
   ·exact .inr List.mem_cons_self
   ·exact .inl rfl
  ·exact .inr (List.mem_cons_of_mem _ h)
theorem Xn6 {l:List Int} {x:Int} (h:x∈l):Xcd l<=x:=by
 cases l with
 |nil=>cases h
 |cons y ys =>
  rcases List.mem_cons.1 h with rfl|h
  ·exact(Xn7 ys x).1
  ·exact(Xn7 ys y).2 x h
theorem Xvt {l:List Int} (h:1<=l.length):Xcd l∈l:=by
 cases l with
 |nil=>simp at h
 |cons y ys =>
  rcases Xp4 ys y with h|h
  ·exact List.mem_cons.2 (.inl h)
  ·exact List.mem_cons_of_mem _ h
theorem Xs5 {l:List Int} {i:Nat} (h:1<=l.length) (t:Int):Xcd l<=Xcd (X1z l i t):=by
 have hm:=Xvt (l:=X1z l i t) (by unfold X1z;simpa using h)
 unfold X1z at hm
 rcases List.mem_or_eq_of_mem_set hm with h1|h1
 ·exact Xn6 h1
 ·show Xcd l<=Xcd (l.set i _)
  rw[h1]
  by_cases hi:i<l.length
  ·have:=Xn6 (l:=l) (x:=l.getD i 0) (by rw[List.getD_eq_getElem?_getD,Ye hi];exact List.getElem_mem hi)
   split<;>omega
  ·rw[List.set_eq_of_length_le (by omega)] at hm
   rw[List.set_eq_of_length_le (by omega)] at h1
   rw[<-h1];exact Xn6 hm
def Xdc (k:Int):Int×Int×Bool×Bool×Bool×Bool :=
 if k=1 then (0,0,false,true,false,false) else if k=2 then (1,1,false,false,false,false) else if k=3 then (0,0,false,false,false,false)
 else if k=4 then (1,4,true,false,false,false) else if k=5 then (2,2,true,false,false,false) else if k=6 then (0,0,false,false,true,false)
 else if k=7 then (0,0,false,false,false,true) else (1,0,false,false,false,false)
theorem Xif (k:Int):X8x k=some (Xdc k):=by
 unfold X8x Xdc
 by_cases h1:k=1
 ·subst h1;rfl
 by_cases h2:k=2
 ·subst h2;rfl
 by_cases h3:k=3
 ·subst h3;rfl
 by_cases h4:k=4
 ·subst h4;rfl
 by_cases h5:k=5
 ·subst h5;rfl
 by_cases h6:k=6
 ·subst h6;rfl
 by_cases h7:k=7
 ·subst h7;rfl
 have b:∀ z:Int,¬ k=z->(k==z)=false:=fun z h=>by simpa using h
 rw[b _ h1,b _ h2,b _ h3,b _ h4,b _ h5,b _ h6,b _ h7,if_neg h1,if_neg h2,if_neg h3,if_neg h4,if_neg h5,if_neg h6,if_neg h7]
 rfl
def Xbt (b:Bool) (n:Int):Int:=if b then n else 0
theorem Xl7 (b:Bool) (n:Int):X8w b n=some (Xbt b n):=by cases b<;>rfl
def Xcu (t:X08):Bool :=
 decide ((t.Pending.length:Int)<=4000)&&decide ((t.Marks.length:Int) >= (Xdc t.Op.Kind).1)&&decide ((t.Marks.length:Int)<=(Xdc t.Op.Kind).2.1)&&decide ((t.Store.length:Int)<=Xbt (Xdc t.Op.Kind).2.2.1 4000)
 && decide ((t.Events.length:Int)<=Xbt (Xdc t.Op.Kind).2.2.2.1 60)&&decide ((t.Rows.length:Int)<=Xbt (Xdc t.Op.Kind).2.2.2.2.1 4000)&&decide ((t.Late.length:Int)<=Xbt (Xdc t.Op.Kind).2.2.2.2.2 4000)
def Xro (t:X08):Bool:=decide (t.Turn >= 0)&&decide (t.Turn<20)&&decide (t.Op.N >= 0)&&decide (t.Op.N<4)
def evOK (e:X1b):Bool:=if e.Mark then Xp7 e.Time&&decide (e.Record=Xli) else decide (e.Time=0)&&isT e.Record.Time
def Xl9 (t:X08):Bool:=t.Marks.all mkL&&t.Events.all evOK&&t.Rows.all Xhb&&t.Late.all (fun r=>isT r.Time)&&t.Store.all (fun x=>decide (t.Op.Kind≠4)||(x.Values.e1.Count==0))
def tOK (t:X08):Bool:=Xro t&&Xcu t&&t.Pending.all sOK&&Xrr t.Store&&Xl9 t
theorem Xhx (x y:Xl):X9j x y=decide (x=y):=by
 obtain⟨a,b,c⟩:=x
 obtain⟨a',b',c'⟩:=y
 rw[Bool.eq_iff_iff]
 simp[X9j,and_assoc]
theorem Xg8 (e:X1b):X6r e=some (if evOK e then 0 else 8):=by
 unfold X6r Xce evOK
 rw[Xag,X7g,Xhx]
 cases e.Mark with
 |true =>
  simp only[cond_true,Yo,if_true]
  show _=some (if (Xp7 e.Time&&decide (e.Record=⟨0,0,0⟩))=true then 0 else 8)
  cases Xp7 e.Time<;>cases decide (e.Record=⟨0,0,0⟩)<;>rfl
 |false =>
  simp only[cond_false,Yo,Bool.false_eq_true,if_false]
  by_cases h:e.Time=0
  ·rw[show(e.Time != 0)=false by simp[h],Yt h]
   cases isT e.Record.Time<;>rfl
  ·rw[show(e.Time != 0)=true by simp[h],Yf h];rfl
theorem X84 (t:X08) (Y:List Int):∀ (xs:List Int) (k:Nat) (b:Bool),X3o t Y xs k b=some (.x0 (b&&xs.all mkL))
 |[],k,b=>by simp[X3o]
 |x::xs,k,b=>by
  rw[X3o,Xig,List.all_cons]
  cases b with
  |false=>simp only[cond_false,Yo];rw[X84 t Y xs (k+1)];rfl
  |true=>simp only[cond_true,Yo];rw[X84 t Y xs (k+1)];rfl
theorem X83 (t:X08) (Y:List X1b):∀ (xs:List X1b) (k:Nat) (b:Bool),X3n t Y xs k b=some (.x0 (b&&xs.all evOK))
 |[],k,b=>by simp[X3n]
 |x::xs,k,b=>by
  rw[X3n,Xg8,List.all_cons]
  cases b with
  |false=>simp only[cond_false,Yo];rw[X83 t Y xs (k+1)];rfl
  |true=>simp only[cond_true,Yo];rw[X83 t Y xs (k+1)];cases evOK x<;>rfl
theorem Xoy (x:X28):mOK ⟨3,⟨0,0,0⟩,0,x⟩=Xhb x:=by
 unfold mOK
 simp[Xli]
theorem Xsq (x:Xl):mOK ⟨4,x,0,⟨0,⟨0,0⟩,⟨0,0⟩⟩⟩=isT x.Time:=by
 unfold mOK
 simp[row0]
theorem X82 (t:X08) (Y:List X28):∀ (xs:List X28) (k:Nat) (b:Bool),X3m t Y xs k b=some (.x0 (b&&xs.all Xhb))
 |[],k,b=>by simp[X3m]
 |x::xs,k,b=>by
  rw[X3m,X25,Xoy,List.all_cons]
  cases b with
  |false=>simp only[cond_false,Yo];rw[X82 t Y xs (k+1)];rfl
  |true=>simp only[cond_true,Yo];rw[X82 t Y xs (k+1)];cases Xhb x<;>rfl
theorem X81 (t:X08) (Y:List Xl):∀ (xs:List Xl) (k:Nat) (b:Bool),X3l t Y xs k b=some (.x0 (b&&xs.all fun r=>isT r.Time))
 |[],k,b=>by simp[X3l]
 |x::xs,k,b=>by
  rw[X3l,X25,Xsq,List.all_cons]
  cases b with
  |false=>simp only[cond_false,Yo];rw[X81 t Y xs (k+1)];rfl
  |true=>simp only[cond_true,Yo];rw[X81 t Y xs (k+1)];cases isT x.Time<;>rfl
theorem X5v (t:X08) (Y:List X2):∀ (xs:List X2) (k:Nat) (b:Bool),X3k t Y xs k b=some (.x0 (b&&xs.all fun x=>decide (t.Op.Kind≠4)||(x.Values.e1.Count==0)))
 |[],k,b=>by simp[X3k]
 |x::xs,k,b=>by
  rw[X3k,List.all_cons]
  cases b with
  |false=>simp only[cond_false,Yo];rw[X5v t Y xs (k+1)];rfl
  |true =>
   by_cases h:t.Op.Kind=4
   ·rw[show(t.Op.Kind != 4)=false by simp[h],show decide (t.Op.Kind≠4)=false by simp[h]]
    simp only[cond_true,cond_false,Yo,Bool.false_or]
    rw[X5v t Y xs (k+1),show decide (t.Op.Kind≠4)=false by simp[h]]
    simp
   ·rw[show(t.Op.Kind != 4)=true by simp[h],show decide (t.Op.Kind≠4)=true by simp[h]]
    simp only[cond_true,Yo,Bool.true_or]
    rw[X5v t Y xs (k+1),show decide (t.Op.Kind≠4)=true by simp[h]]
    simp
theorem X8j {t:X08} (h:Xcu t=true):t.Pending.length<=4000/\t.Marks.length<=4/\t.Store.length<=4000/\t.Events.length<=60/\t.Rows.length<=4000/\t.Late.length<=4000:=by
 unfold Xcu at h
 simp only[Bool.and_eq_true,decide_eq_true_eq] at h
 obtain⟨⟨⟨⟨⟨⟨h1,h2⟩,h3⟩,h4⟩,h5⟩,h6⟩,h7⟩:=h
 have hm:(Xdc t.Op.Kind).2.1<=4:=by
  unfold Xdc
  (repeat' split)<;>decide
 have hr:∀ b (n:Int),0<=n->Xbt b n<=n:=fun b n hn=>by cases b<;>simp[Xbt]<;>omega
 have r1:=hr (Xdc t.Op.Kind).2.2.1 4000 (by omega)
 have r2:=hr (Xdc t.Op.Kind).2.2.2.1 60 (by omega)
 have r3:=hr (Xdc t.Op.Kind).2.2.2.2.1 4000 (by omega)
 have r4:=hr (Xdc t.Op.Kind).2.2.2.2.2 4000 (by omega)
 omega
theorem X36 (t:X08):X8i t=some (if tOK t then 0 else 8):=by
 unfold X8i
 rw[Xif,Yo]
 simp only[Xl7,Yo]
 have hs:(bif (decide ((List.length t.Pending:Int)<=(4000:Int))) then (bif (decide ((List.length t.Marks:Int) >= (Xdc t.Op.Kind).1)) then (bif (decide ((List.length t.Marks:Int)<=(Xdc t.Op.Kind).2.1)) then (bif (decide ((List.length t.Store:Int)<=Xbt (Xdc t.Op.Kind).2.2.1 4000)) then (bif (decide ((List.length t.Events:Int)<=Xbt (Xdc t.Op.Kind).2.2.2.1 60)) then (bif (decide ((List.length t.Rows:Int)<=Xbt (Xdc t.Op.Kind).2.2.2.2.1 4000)) then (some (bif (bif (bif (bif (bif (bif (decide ((List.length t.Pending:Int)<=(4000:Int))) then (decide ((List.length t.Marks:Int) >= (Xdc t.Op.Kind).1)) else false) then (decide ((List.length t.Marks:Int)<=(Xdc t.Op.Kind).2.1)) else false) then (decide ((List.length t.Store:Int)<=Xbt (Xdc t.Op.Kind).2.2.1 4000)) else false) then (decide ((List.length t.Events:Int)<=Xbt (Xdc t.Op.Kind).2.2.2.1 60)) else false) then (decide ((List.length t.Rows:Int)<=Xbt (Xdc t.Op.Kind).2.2.2.2.1 4000)) else false) then (decide ((List.length t.Late:Int)<=Xbt (Xdc t.Op.Kind).2.2.2.2.2 4000)) else false)) else (some false)) else (some false)) else (some false)) else (some false)) else (some false)) else (some false):Option Bool)=some (Xcu t):=by
  unfold Xcu
  cases decide ((List.length t.Pending:Int)<=(4000:Int))<;>cases decide ((List.length t.Marks:Int) >= (Xdc t.Op.Kind).1)<;>cases decide ((List.length t.Marks:Int)<=(Xdc t.Op.Kind).2.1)<;>cases decide ((List.length t.Store:Int)<=Xbt (Xdc t.Op.Kind).2.2.1 4000)<;>cases decide ((List.length t.Events:Int)<=Xbt (Xdc t.Op.Kind).2.2.2.1 60)<;>cases decide ((List.length t.Rows:Int)<=Xbt (Xdc t.Op.Kind).2.2.2.2.1 4000)<;>rfl
 rw[hs,Yo]
 have hn:(bif (bif (bif (decide (t.Turn >= (0:Int))) then (decide (t.Turn<(20:Int))) else false) then (decide (t.Op.N >= (0:Int))) else false) then (decide (t.Op.N<(4:Int))) else false)=Xro t:=by
  unfold Xro
  cases decide (t.Turn >= (0:Int))<;>cases decide (t.Turn<(20:Int))<;>cases decide (t.Op.N >= (0:Int))<;>rfl
 rw[hn]
 unfold tOK
 cases h1:Xro t with
 |false=>rfl
 |true =>
  cases h2:Xcu t with
  |false=>rfl
  |true =>
   obtain⟨l1,l2,l3,l4,l5,l6⟩:=X8j h2
   simp only[Bool.not_true,cond_false]
   rw[Xdg (by omega),Yo]
   cases h3:t.Pending.all sOK with
   |false=>rfl
   |true =>
    simp only[Bool.not_true,cond_false]
    rw[X7n,if_neg (by omega),Yo]
    cases h4:Xrr t.Store with
    |false=>rfl
    |true =>
     simp only[if_true,bne_self_eq_false,Yo,cond_false]
     rw[X2z (by omega),Yo,X84,Yo]
     simp only
     rw[X2z (by omega),Yo,X83,Yo]
     simp only
     rw[X2z (by omega),Yo,X82,Yo]
     simp only
     rw[X2z (by omega),Yo,X81,Yo]
     simp only
     rw[X2z (by omega),Yo,X5v,Yo]
     simp only[Bool.true_and,Bool.and_true]
     unfold Xl9
     generalize (t.Marks.all mkL&&t.Events.all evOK&&t.Rows.all Xhb&&(t.Late.all fun r=>isT r.Time)&&t.Store.all fun x=>decide (t.Op.Kind≠4)||(x.Values.e1.Count==0))=b
     cases b<;>rfl
end Go.D


namespace Go.D
def t0:X08:=⟨⟨0,0⟩,0,[],[],[],[],[],[]⟩
theorem bifS {α:Type} (l:List α) (x:Option (List α)) (h:x=some l):(bif l.isEmpty then some l else x)=some l:=by cases l.isEmpty<;>simp[h]
theorem Xzw {l:List Int} (h:l.length<=100000):X1h l=some l:=by unfold X1h;exact bifS l _ (by rw[X45 (by omega)];rfl)
theorem Xzx {l:List X2} (h:l.length<=100000):X1j l=some l:=by unfold X1j;exact bifS l _ (by rw[X45 (by omega)];rfl)
theorem Xzu {l:List X1b} (h:l.length<=100000):X1i l=some l:=by unfold X1i;exact bifS l _ (by rw[X45 (by omega)];rfl)
theorem Xzv {l:List X28} (h:l.length<=100000):X2h l=some l:=by unfold X2h;exact bifS l _ (by rw[X45 (by omega)];rfl)
theorem Xzy {l:List Xl} (h:l.length<=100000):X18 l=some l:=by unfold X18;exact bifS l _ (by rw[X45 (by omega)];rfl)
theorem X7t {t:X08} (h:tOK t=true):Xro t=true/\Xcu t=true/\t.Pending.all sOK=true/\Xrr t.Store=true/\Xl9 t=true:=by
 unfold tOK at h
 simp only[Bool.and_eq_true] at h
 exact⟨h.1.1.1.1,h.1.1.1.2,h.1.1.2,h.1.2,h.2⟩
theorem Xl8 {t:X08} (hp:t.Pending=[]) {L:List X0v} (hL:L.length<=100000) :
  X4m t L=some (if tOK t then (if L.all sOK then (if L.length>4000 then (t0,4) else ({ t with Pending:=L },0)) else (t0,8)) else (t0,8)):=by
 unfold X4m
 rw[X36,Yo]
 cases h:tOK t with
 |false=>rfl
 |true =>
  obtain⟨l1,l2,l3,l4,l5,l6⟩:=X8j (X7t h).2.1
  simp only[if_true,bne_self_eq_false,cond_false]
  rw[Xdg (by omega),Yo]
  cases hs:L.all sOK with
  |false=>rfl
  |true =>
   simp only[Bool.not_true,cond_false,if_true]
   rw[hp]
   have e4:IntKind.i64.wrap (4000 - (([]:List X0v).length:Int))=4000:=by decide
   rw[e4]
   by_cases h4:L.length>4000
   ·rw[Yt (by omega),if_pos h4];rfl
   ·rw[Yf (by omega),if_neg h4,cond_false]
    simp only[List.isEmpty_nil,cond_true]
    rw[Xzw (by omega),Xzx (by omega),Xzu (by omega),Xzv (by omega),Xzy (by omega)]
    simp only[Yo]
    rw[X45 (by omega)]
    cases L.isEmpty<;>rfl
def X7w (m:Int) (l:List X2):List X2:=l.filter fun x=>decide (x.Span.End<=m)
def Xdn (m:Int) (l:List X2):List X2:=l.filter fun x=>!decide (x.Span.End<=m)
theorem Xoa (m:Int) (Y:List X2):∀ (xs:List X2) (k:Nat) (a b:List X2),a.length+b.length+xs.length<=100000->X3p m Y xs k a b=some (.x0 (a++X7w m xs) (b++Xdn m xs))
 |[],k,a,b,_=>by simp[X3p,X7w,Xdn]
 |x::xs,k,a,b,hn=>by
  simp only[List.length_cons] at hn
  rw[X3p]
  unfold X7w Xdn
  rw[List.filter_cons,List.filter_cons]
  by_cases h:x.Span.End<=m
  ·rw[Yt h,cond_true,X45 (by simp;omega)]
   simp only[Yo,if_true,Bool.not_true,Bool.false_eq_true,if_false]
   rw[Xoa m Y xs (k+1) _ _ (by simp;omega)]
   simp[X7w,Xdn]
  ·rw[Yf h,cond_false,X45 (by simp;omega)]
   simp only[Yo,if_true,Bool.not_false,Bool.false_eq_true,if_false]
   rw[Xoa m Y xs (k+1) _ _ (by simp;omega)]
   simp[X7w,Xdn]
theorem Xdh {l:List X2} (h:Xrr l=true) (hl:l.length<=4000) (m:Int):X79 l m=some (X7w m l,Xdn m l,0):=by
 unfold X79
 rw[X7n,if_neg (by omega),h,Yo]
 simp only[if_true,bne_self_eq_false,cond_false]
 rw[X2z (by omega),Yo,Xoa m l l 0 [] [] (by simp;omega)];rfl
theorem Xfb {m:Int} {l:List X2} {x:X2} (h:x∈X7w m l):x∈l:=(List.mem_filter.1 h).1
theorem Xjk (m:Int) (l:List X2):(X7w m l).length<=l.length:=List.length_filter_le _ _
theorem Xs2 (m:Int) (l:List X2):(Xdn m l).length<=l.length:=List.length_filter_le _ _
def Xms (r:X28):X0v:=⟨0,⟨3,⟨0,0,0⟩,0,r⟩⟩
theorem Xvf {r:X28} (h:Xhb r=true):sOK (Xms r)=true:=by
 unfold sOK Xms
 simp only
 rw[Xoy,h];rfl
theorem Xyi {x:X2} (h:okE x) (r:X28) (hr:r.Span=x.Span):Xhb r=true:=by
 obtain⟨h1,h2,h3,_⟩:=h
 unfold Xhb
 rw[hr,Yt (by omega),Yt (by omega),Yt (by omega)];rfl
def Xpy (l:List X2) (x:X2):Bool :=
 match l[cnt l x]? with
 |some y=>decide (X4d y x/\(y.Values.e0.Count+x.Values.e0.Count>1073741824\/y.Values.e1.Count+x.Values.e1.Count>1073741824))
 |none=>false
theorem Xbd {a b:X0t} (ha:okA a) (hb:okA b) (hc:a.Count+b.Count>1073741824):X1u a b=some (⟨0,0,0,0⟩,4):=by
 have h1:=X4o ha
 have h2:=X4o hb
 simp only[X1u,X2g ha,X2g hb,Yo,bne_self_eq_false,cond_false]
 rw[X0l (by omega) (by omega),Yt hc];rfl
theorem Xww {l:List X2} {x0:X2} {s:X00} (hs:l.Pairwise ltE) (hn:l.length<=10000) (hx:okA x0.Values.e0/\okA x0.Values.e1) (hl:∀ y∈l,okA y.Values.e0/\okA y.Values.e1) (Y xs:List X00) (k:Nat) :
  X2j Y (s::xs) k x0 l=(if Xpy l ⟨x0.Key,s,x0.Values⟩ then some (.x1 [] 4) else X2j Y xs (k+1) ⟨x0.Key,s,x0.Values⟩ (Xip l ⟨x0.Key,s,x0.Values⟩)):=by
 rw[X2j]
 obtain⟨x,hxe⟩:∃ x:X2,(⟨x0.Key,s,x0.Values⟩:X2)=x:=⟨_,rfl⟩
 have hv:x0.Values=x.Values:=by rw[<-hxe]
 have hxk:x0.Key=x.Key:=by rw[<-hxe]
 have hxs:s=x.Span:=by rw[<-hxe]
 rw[hv] at hx
 unfold Xpy
 rw[hxe,hv]
 rw[Xzz hs (by omega),Xmv hs]
 have hle:=Xph l x
 cases h:l[cnt l x]? with
 |none =>
  have hc:cnt l x=l.length:=by have:=List.getElem?_eq_none_iff.1 h;omega
  have hsl:X6d l (l.length:Int) (l.length:Int)=some []:=by simp[X6d]
  simp only[Yo,Bool.not_false,cond_true,hc,beq_self_eq_true,hsl,Bool.false_eq_true,if_false]
  rw[X45 (by simp;omega)]
  rfl
 |some y =>
  have hlt:cnt l x<l.length:=(Ys.1 h).1
  obtain⟨a1,a2⟩:=hl y (Yg h)
  simp only[Yo]
  by_cases hk:X4d y x
  ·simp only[hk,decide_true,Bool.not_true,cond_false,X4y,h,Yo,true_and,if_true]
   by_cases o0:y.Values.e0.Count+x.Values.e0.Count>1073741824
   ·rw[Xbd a1 hx.1 o0,Yt (.inl o0)];rfl
   ·rw[X2w a1 hx.1 (by omega)]
    by_cases o1:y.Values.e1.Count+x.Values.e1.Count>1073741824
    ·simp only[Yo,bne_self_eq_false,cond_false]
     rw[Xbd a2 hx.2 o1,Yt (.inr o1)];rfl
    ·simp only[Yo,bne_self_eq_false,cond_false]
     rw[X2w a2 hx.2 (by omega),Yf (by omega)]
     simp only[Yo,bne_self_eq_false,cond_false,Bool.false_eq_true,if_false,Int.toNat_natCast,List.set_set]
     rfl
  ·have hne:((cnt l x:Int)==(l.length:Int))=false:=by simp;omega
   have hi:Xnz l (cnt l x:Int) x 88=some (l.take (cnt l x)++x::l.drop (cnt l x)):=by
    unfold Xnz;rw[if_pos ⟨by omega,by simpa using hlt,by omega⟩];simp
   simp only[hk,decide_false,Bool.not_false,cond_true,hne,cond_false,false_and,if_false,Bool.false_eq_true]
   rw[hi]
   simp only[Yo,bne_self_eq_false,cond_false]
end Go.D


namespace Go.D
theorem Xx0 {z:Int} (h:wfI .u8 z):0<=z:=by
 have h:=h
 simp only[wfI,Lit.wf,IntKind.bits,IntKind.signed] at h
 simp at h
 have e1:IntKind.u8.min=0:=by decide
 omega
theorem Xxs {z:Int} (h:wfI .i64 z):z<=9223372036854775807 /\ -9223372036854775808<=z:=by
 have h:=h
 simp only[wfI,Lit.wf,IntKind.bits,IntKind.signed] at h
 simp at h
 have e1:IntKind.i64.min = -9223372036854775808:=by decide
 have e2:IntKind.i64.max=9223372036854775807:=by decide
 omega
theorem X02e {q:X03} (w:Xgy q):QW q:=by
 obtain⟨_,⟨_,h1⟩,_,_,⟨_,h2⟩,h3,_⟩:=w
 exact⟨fun x hx=>Xx0 (h1 x hx).1,fun x hx=>Xx0 (h2 x hx).1,Xxs h3.2.2⟩
end Go.D


namespace Go.D
theorem Xvr {l:List X2} {x y:X2} (hs:l.Pairwise ltE) (h:Xpy l x=false) (hy:y∈l) (hk:X4d y x):y.Values.e0.Count+x.Values.e0.Count<=1073741824/\y.Values.e1.Count+x.Values.e1.Count<=1073741824:=by
 obtain⟨k,hlt,rfl⟩:=List.mem_iff_getElem.1 hy
 have hg:l[k]?=some l[k]:=Ye hlt
 have h1:¬ k<cnt l x:=fun e=>X7v hk ((Xoh hs k _ hg).2 e)
 have h2:¬ cnt l x<k:=fun e=>by
  have hc:cnt l x<l.length:=by omega
  have:=List.pairwise_iff_getElem.1 hs (cnt l x) k hc hlt e
  have h3:ltE l[cnt l x] x:=(sameK_ltE hk).1 this
  have:=(Xoh hs (cnt l x) _ (Ye hc)).1 h3
  omega
 have h3:cnt l x=k:=by omega
 unfold Xpy at h
 rw[h3,hg] at h
 simp only[decide_eq_false_iff_not,not_and,not_or] at h
 have:=h hk
 omega
theorem Xvl {l:List X2} {x:X2} (hs:l.Pairwise ltE) (ho:Xpy l x=false) (hx:okA x.Values.e0/\okA x.Values.e1) (hl:∀ y∈l,okA y.Values.e0/\okA y.Values.e1):∀ y∈Xip l x,okA y.Values.e0/\okA y.Values.e1:=by
 intro y hy
 rcases(Xgi hs y).1 hy with ⟨h,_⟩|⟨z,hz,hk,rfl⟩|⟨_,rfl⟩
 ·exact hl y h
 ·obtain⟨a1,a2⟩:=hl z hz
  obtain⟨c1,c2⟩:=Xvr hs ho hz hk
  exact⟨Xk2 a1 hx.1 c1,Xk2 a2 hx.2 c2⟩
 ·exact hx
theorem Xmb (Y:List X00):∀ (xs:List X00) (k:Nat) (x0:X2) (l:List X2),l.Pairwise ltE->(∀ y∈l,okA y.Values.e0/\okA y.Values.e1)->(okA x0.Values.e0/\okA x0.Values.e1)->l.length+xs.length<=9000 ->
  ∃ o,X2j Y xs k x0 l=some o
 |[],k,x0,l,_,_,_,_=>⟨_,rfl⟩
 |s::xs,k,x0,l,hs,hl,hx,hn=>by
  simp only[List.length_cons] at hn
  rw[Xww hs (by omega) hx hl]
  cases ho:Xpy l ⟨x0.Key,s,x0.Values⟩ with
  |true=>exact⟨_,rfl⟩
  |false =>
   have hp:=Xgj l ⟨x0.Key,s,x0.Values⟩
   exact Xmb Y xs (k+1) _ _ (Xd4 hs) (Xvl hs ho hx hl) hx (by omega)
theorem Xva {l:List X2} (h:Xrr l=true):∀ y∈l,okA y.Values.e0/\okA y.Values.e1:=fun y hy=>by
 obtain⟨_,_,_,h1,h2,_⟩:=(Xdj.1 h).1 y hy
 exact⟨h1,h2⟩
theorem Xjt {l:List X2} {w:X0s} {r:Xl} {i:Int} (hl:Xrr l=true) (hn:l.length<=4000) (hw:okW w) (hk:w.Kind≠3) (ht:okT r.Time) (hi:i=0\/i=1):∃ v,X3q l w r i=some v:=by
 obtain⟨W,hW,hWl,hWn,hWm⟩:=Xd0 hw hk ht
 unfold X3q
 have e1:(bif (i != 0) then (i != 1) else false)=false:=by rcases hi with h|h<;>simp[h]
 have e2:(bif (decide (r.Time<((-1099511627776):Int))) then true else (decide (r.Time>(1099511627776:Int))))=false:=by
  unfold okT at ht
  have a:decide (r.Time<((-1099511627776):Int))=false:=by simp;omega
  have b:decide (r.Time>(1099511627776:Int))=false:=by simp;omega
  rw[a,b];rfl
 have e3:((X71 r.Value).bind fun v14=>bif (i==(0:Int)) then (some (X2.mk r.Key (X00.mk 0 0) (V2.mk v14 (X0t.mk 0 0 0 0)))) else (bif (i==(1:Int)) then (some (X2.mk r.Key (X00.mk 0 0) (V2.mk (X0t.mk 0 0 0 0) v14))) else none):Option (X2))=some (X6a (r,i) ⟨0,0⟩):=by
  simp only[X71,Yo]
  rcases hi with h|h
  ·simp[h,X6a,ofA,Xaq]
  ·simp[h,X6a,ofA,Xaq]
 have e4:(bif (List.isEmpty l) then (some l) else ((X2b (List.length l) 88).bind fun u28=>some l):Option ((List X2)))=some l:=by
  rw[X45 (by omega)]
  cases List.isEmpty l<;>rfl
 have e5:(w.Kind==3)=false:=by simp[hk]
 rw[X7n,if_neg (by omega),if_pos hl,Yo]
 simp only[bne_self_eq_false,cond_false,X3c hw,Yo,e1,e2]
 rw[e3,Yo,e4,Yo]
 simp only[e5,cond_false,hW,Yo,bne_self_eq_false]
 obtain⟨o,ho⟩:=Xmb W W 0 (X6a (r,i) ⟨0,0⟩) l (Xdj.1 hl).2 (Xva hl) (by
  unfold X6a
  rcases hi with h|h
  ·simp only[h];exact⟨Xhd _,Xdd⟩
  ·simp only[h];exact⟨Xdd,Xhd _⟩) (by omega)
 rw[X2z (by omega),Yo,ho,Yo]
 cases o with
 |x0 z=>simp only;cases decide ((List.length z:Int)>4000)<;>exact⟨_,rfl⟩
 |x1 z e=>exact⟨_,rfl⟩
theorem Xhy (x:X2):Xfc x x=true:=by
 simp[Xfc,Xe8,Xfr,X8q]
theorem Xiy (x:X0v):Xhw x x=true:=by
 simp[Xhw,Xc4]
theorem Xrz (l Y:List X2):∀ (xs:List X2) (k:Nat),l.drop k=xs->X4e Y l xs k=some .x0
 |[],k,_=>rfl
 |x::xs,k,h=>by
  have hk:l[k]?=some x:=by
   have:=congrArg (fun z=>z[0]?) h
   simpa using this
  have hd:l.drop (k+1)=xs:=by
   have:=congrArg List.tail h
   simpa using this
  rw[X4e,X4y,hk,Yo,Xhy]
  exact Xrz l Y xs (k+1) hd
theorem X97 {l:List X2} (h:l.length<=140737488355328):X7c l l=some true:=by
 unfold X7c
 rw[show((List.length l:Int) != (List.length l:Int))=false by simp,cond_false,X2z h,Yo,Xrz l l l 0 rfl];rfl
theorem Xvg {q:X03} (hq:QW q):X5o q=some (decide ((Xs7 q).2=0)):=by
 unfold X5o
 rw[Xin hq,Yo]
 rfl
end Go.D


namespace Go.D
def rowJ (q:X03) (x:X2):X28:=⟨x.Key,x.Span,⟨valA q.Agg x.Values.e0,valA q.Agg x.Values.e1⟩⟩
def Xiz (x:X2):Bool:=decide (x.Values.e0.Count≠0)&&decide (x.Values.e1.Count≠0)
theorem Xhm {q:X03} (h1:1<=q.Agg) (h2:q.Agg<=4) {x:X2} (hx:okE x):Xcg q x=some (if Xiz x then (rowJ q x,true) else (⟨0,⟨0,0⟩,⟨0,0⟩⟩,false)):=by
 obtain⟨_,_,_,a0,a1,_⟩:=hx
 unfold Xcg Xiz
 rw[Xc6 h1 h2 a0,Xc6 h1 h2 a1]
 simp only[Yo]
 by_cases c0:x.Values.e0.Count=0
 ·rw[if_pos c0];simp[c0]
 ·by_cases c1:x.Values.e1.Count=0
  ·rw[if_neg c0,if_pos c1];simp[c1]
  ·rw[if_neg c0,if_neg c1];simp[c0,c1,rowJ]
def X75 (q:X03) (l:List X2):List X0v:=(l.filter Xiz).map fun x=>Xms (rowJ q x)
theorem X9i {q:X03} (h1:1<=q.Agg) (h2:q.Agg<=4) (t u:X08) (Y:List X2):∀ (xs:List X2) (k:Nat) (o:List X0v),(∀ x∈xs,okE x)->o.length+xs.length<=100000->X3t q t u Y xs k o=some (.x0 (o++X75 q xs))
 |[],k,o,_,_=>by simp[X3t,X75]
 |x::xs,k,o,hx,hn=>by
  simp only[List.length_cons] at hn
  rw[X3t,Xhm h1 h2 (hx x List.mem_cons_self),Yo]
  unfold X75
  rw[List.filter_cons]
  cases hb:Xiz x with
  |false =>
   simp only[Bool.false_eq_true,if_false,cond_false,Yo]
   exact X9i h1 h2 t u Y xs (k+1) o (fun y hy=>hx y (List.mem_cons_of_mem _ hy)) (by omega)
  |true =>
   simp only[if_true,cond_true]
   rw[X45 (by simp;omega)]
   simp only[Yo]
   rw[X9i h1 h2 t u Y xs (k+1) _ (fun y hy=>hx y (List.mem_cons_of_mem _ hy)) (by simp;omega)]
   simp[X75,Xms]
theorem Xj9 (q:X03) (l:List X2):(X75 q l).length<=l.length:=by unfold X75;rw[List.length_map];exact List.length_filter_le _ _
theorem Xry (q:X03) {l:List X2} (h:∀ x∈l,okE x):(X75 q l).all sOK=true:=by
 rw[List.all_eq_true]
 intro s hs
 obtain⟨x,hx,rfl⟩:=List.mem_map.1 hs
 exact Xvf (Xyi (h x (List.mem_filter.1 hx).1) _ rfl)
theorem X26 {q:X03} (hq:QW q):X5e q=some (decide ((Xs7 q).2=0)&&q.Join):=by
 unfold X5e
 rw[Xi3 hq,Yo]
 by_cases h:(Xs7 q).2=0
 ·rw[h,Yt rfl];cases q.Join<;>rfl
 ·rw[show((Xs7 q).2==0)=false by simpa using h,Yf h];rfl
theorem Xhl {q : X03} (hq : RQ q) (hj : q.Join = true) (t : X08) (i : Int) (m : Xg) (hadd : tOK t = true -> isT m.Record.Time = true -> (i = 0 \/ i = 1) -> ∃ v, X3q t.Store q.Window m.Record i = some v) :
    (∃ r,X2n q t i m=some r/\r.2≠0) \/
    (tOK t=true/\t.Op.Kind=5/\t.Pending=[]/\m.Kind=1/\∃ l,X3q t.Store q.Window m.Record i=some (l,0)/\tOK { t with Store:=l }=true/\X2n q t i m=some ({ t with Store:=l },0)) \/
    (tOK t=true/\t.Op.Kind=5/\t.Pending=[]/\m.Kind=2/\∃ j:Nat,i=(j:Int)/\j<t.Marks.length /\
      ((¬ Xcd (X1z t.Marks j m.Time)>Xcd t.Marks/\tOK { t with Marks:=X1z t.Marks j m.Time }=true/\X2n q t i m=some ({ t with Marks:=X1z t.Marks j m.Time },0)) \/
       (Xcd (X1z t.Marks j m.Time)>Xcd t.Marks/\tOK { t with Marks:=X1z t.Marks j m.Time,Store:=Xdn (Xcd (X1z t.Marks j m.Time)) t.Store }=true /\
        X2n q t i m=some ({ t with Marks:=X1z t.Marks j m.Time,Store:=Xdn (Xcd (X1z t.Marks j m.Time)) t.Store,Pending:=X75 q (X7w (Xcd (X1z t.Marks j m.Time)) t.Store) },0)))):=by
  have hf:=hq.facts
  by_cases hok:tOK t=true
  rotate_left
  · refine .inl ⟨(t0,8),?_,by decide⟩
    unfold X2n
    rw[X26 hq.w,hq.ok,hj,X36,if_neg hok];rfl
  obtain⟨o1,o2,o3,o4,o5⟩:=X7t hok
  obtain⟨l1,l2,l3,l4,l5,l6⟩:=X8j o2
  by_cases hk:t.Op.Kind=5
  rotate_left
  · refine .inl ⟨(t0,2),?_,by decide⟩
    unfold X2n
    rw[X26 hq.w,hq.ok,hj,X36,if_pos hok,show(t.Op.Kind != 5)=true by simpa using hk];rfl
  by_cases hi0:i<0
  · refine .inl ⟨(t0,2),?_,by decide⟩
    unfold X2n
    rw[X26 hq.w,hq.ok,hj,X36,if_pos hok,show(t.Op.Kind != 5)=false by simpa using hk,Yt hi0];rfl
  by_cases hi1:i>1
  · refine .inl ⟨(t0,2),?_,by decide⟩
    unfold X2n
    rw[X26 hq.w,hq.ok,hj,X36,if_pos hok,show(t.Op.Kind != 5)=false by simpa using hk,Yf hi0,Yt hi1];rfl
  by_cases hm:mOK m=true
  rotate_left
  · refine .inl ⟨(t0,8),?_,by decide⟩
    unfold X2n
    rw[X26 hq.w,hq.ok,hj,X36,if_pos hok,show(t.Op.Kind != 5)=false by simpa using hk,Yf hi0,Yf hi1,X25,if_neg hm];rfl
  by_cases hmk:m.Kind=1\/m.Kind=2
  rotate_left
  · refine .inl ⟨(t0,8),?_,by decide⟩
    unfold X2n
    rw[X26 hq.w,hq.ok,hj,X36,if_pos hok,show(t.Op.Kind != 5)=false by simpa using hk,Yf hi0,Yf hi1,X25,if_pos hm,show(m.Kind != 1)=true by simp;omega,show(m.Kind != 2)=true by simp;omega];rfl
  by_cases hp:t.Pending=[]
  rotate_left
  · refine .inl ⟨(t0,18),?_,by decide⟩
    have hpl:(List.length t.Pending:Int)>0:=by
      cases hpp:t.Pending with
      |nil=>exact absurd hpp hp
      |cons a b=>simp
    have hkk:(bif (m.Kind != 1) then (m.Kind != 2) else false)=false:=by
      rcases hmk with h|h<;>rw[h]<;>rfl
    unfold X2n
    rw[X26 hq.w,hq.ok,hj,X36,if_pos hok,show(t.Op.Kind != 5)=false by simpa using hk,Yf hi0,Yf hi1,X25,if_pos hm,hkk,Yt hpl];rfl
  have hpl:¬ (List.length t.Pending:Int)>0:=by rw[hp];decide
  have hkk:(bif (m.Kind != 1) then (m.Kind != 2) else false)=false:=by
    rcases hmk with h|h<;>rw[h]<;>rfl
  have hbase:∀ r,(bif (m.Kind==(1:Int)) then ((X3q t.Store q.Window m.Record i).bind fun v13=>bif (v13.2 != (0:Int)) then (some (t0,v13.2)) else ((X4m (X08.mk t.Op t.Turn t.Pending t.Marks v13.1 t.Events t.Rows t.Late) ([]:List X0v)).bind fun v16=>some (v16.1,v16.2))) else ((X7h t.Marks i m.Time).bind fun v18=>bif (!v18.2.1) then ((X4m (X08.mk t.Op t.Turn t.Pending v18.1 t.Store t.Events t.Rows t.Late) ([]:List X0v)).bind fun v21=>some (v21.1,v21.2)) else ((X4g v18.1).bind fun v23=>(X79 t.Store v23.1).bind fun v25=>(X5d (List.length v25.1)).bind fun u27=>(X3t q (X08.mk t.Op t.Turn t.Pending v18.1 v25.2.1 t.Events t.Rows t.Late) t0 v25.1 v25.1 0 ([]:List X0v)).bind fun o90=>match o90 with|.x0 X4b=>((X4m (X08.mk t.Op t.Turn t.Pending v18.1 v25.2.1 t.Events t.Rows t.Late) X4b).bind fun v92=>some (v92.1,v92.2)))):Option (X08×Int))=r->X2n q t i m=r:=by
    intro r hr
    unfold X2n
    rw[X26 hq.w,hq.ok,hj,X36,if_pos hok,show(t.Op.Kind != 5)=false by simpa using hk,Yf hi0,Yf hi1,X25,if_pos hm,hkk,Yf hpl]
    exact hr
  have hpend:∀ (u:X08),u.Pending=[]->∀ L:List X0v,L.all sOK=true->L.length<=4000->X4m u L=some (if tOK u then ({ u with Pending:=L },0) else (t0,8)):=by
    intro u hu L h1 h2
    rw[Xl8 hu (by omega),if_pos h1,if_neg (show ¬ L.length>4000 by omega)]
  rcases hmk with hmk|hmk
  · -- a record
    have htm:isT m.Record.Time=true:=by
      unfold mOK at hm
      rw[if_pos (show m.Kind=1\/m.Kind=4 from .inl hmk)] at hm
      simp only[Bool.and_eq_true] at hm
      exact hm.1
    obtain⟨v,hv⟩:=hadd hok htm (by omega)
    by_cases he:v.2=0
    · have hPe:=hpend ⟨t.Op,t.Turn,t.Pending,t.Marks,v.1,t.Events,t.Rows,t.Late⟩ hp [] rfl (by simp)
      by_cases hok2:tOK ⟨t.Op,t.Turn,t.Pending,t.Marks,v.1,t.Events,t.Rows,t.Late⟩=true
      · refine .inr (.inl ⟨hok,hk,hp,hmk,v.1,by rw[hv,<-he],hok2,hbase _ ?_⟩)
        rw[show(m.Kind==1)=true by simpa using hmk,cond_true,hv,Yo,he]
        simp only[bne_self_eq_false,cond_false]
        rw[hPe,if_pos hok2,Yo]
        simp only[<-hp]
      · refine .inl ⟨(t0,8),hbase _ ?_,by decide⟩
        rw[show(m.Kind==1)=true by simpa using hmk,cond_true,hv,Yo,he]
        simp only[bne_self_eq_false,cond_false]
        rw[hPe,if_neg hok2];rfl
    · refine .inl ⟨(t0,v.2),hbase _ ?_,he⟩
      rw[show(m.Kind==1)=true by simpa using hmk,cond_true,hv,Yo,show(v.2 != 0)=true by simpa using he];rfl
  · -- a mark
    have hms:Xd5 t.Marks=true:=by
      have h5:(2:Int)<=t.Marks.length/\(t.Marks.length:Int)<=2:=by
        unfold Xcu at o2
        simp only[Bool.and_eq_true,decide_eq_true_eq] at o2
        obtain⟨⟨⟨⟨⟨⟨_,h2⟩,h3⟩,_⟩,_⟩,_⟩,_⟩:=o2
        rw[hk] at h2 h3
        exact⟨h2,h3⟩
      unfold Xl9 at o5
      simp only[Bool.and_eq_true] at o5
      unfold Xd5
      rw[Yt (by omega),Yt (by omega),o5.1.1.1.1];rfl
    have h2l:t.Marks.length=2:=by
      unfold Xcu at o2
      simp only[Bool.and_eq_true,decide_eq_true_eq] at o2
      obtain⟨⟨⟨⟨⟨⟨_,h2⟩,h3⟩,_⟩,_⟩,_⟩,_⟩:=o2
      rw[hk] at h2 h3
      have h2':(2:Int)<=t.Marks.length:=h2
      have h3':(t.Marks.length:Int)<=2:=h3
      omega
    have ht:Xp7 m.Time=true:=by
      unfold mOK at hm
      rw[if_neg (by omega),if_pos hmk] at hm
      simp only[Bool.and_eq_true] at hm
      exact hm.1
    obtain⟨j,rfl⟩:∃ j:Nat,i=(j:Int):=⟨i.toNat,by omega⟩
    have hjl:j<t.Marks.length:=by omega
    have hR:=Xis hms hjl ht
    by_cases hgr:Xcd (X1z t.Marks j m.Time)>Xcd t.Marks
    · -- it grows
      have hmr:Xd5 (X1z t.Marks j m.Time)=true:=by
        obtain⟨m1,m2,m3⟩:=Xds hms
        unfold Xd5
        have hlr:(X1z t.Marks j m.Time).length=t.Marks.length:=by unfold X1z;simp
        rw[hlr,Yt m1,Yt m2]
        simp only[Bool.true_and,List.all_eq_true]
        intro x hx
        unfold X1z at hx
        rcases List.mem_or_eq_of_mem_set hx with h|h
        · exact List.all_eq_true.1 m3 x h
        · rw[h]
          split
          · unfold mkL;rw[ht];simp
          · apply List.all_eq_true.1 m3
            rw[List.getD_eq_getElem?_getD,Ye hjl];exact List.getElem_mem hjl
      have hokE:=(Xdj.1 o4).1
      have hfl:=Xjk (Xcd (X1z t.Marks j m.Time)) t.Store
      have hsl:=Xj9 q (X7w (Xcd (X1z t.Marks j m.Time)) t.Store)
      have hPe:=hpend ⟨t.Op,t.Turn,t.Pending,X1z t.Marks j m.Time,Xdn (Xcd (X1z t.Marks j m.Time)) t.Store,t.Events,t.Rows,t.Late⟩ hp _ (Xry q (l:=X7w (Xcd (X1z t.Marks j m.Time)) t.Store) fun x hx=>hokE x (Xfb hx)) (by omega)
      have hval:X2n q t (j:Int) m=((X4m ⟨t.Op,t.Turn,t.Pending,X1z t.Marks j m.Time,Xdn (Xcd (X1z t.Marks j m.Time)) t.Store,t.Events,t.Rows,t.Late⟩ (X75 q (X7w (Xcd (X1z t.Marks j m.Time)) t.Store))).bind fun v92=>some (v92.1,v92.2)):=by
        refine hbase _ ?_
        rw[show(m.Kind==1)=false by simp;omega,cond_false,hR,Yo,Yt hgr]
        simp only[Bool.not_true,cond_false]
        rw[X43,if_pos hmr,Yo]
        simp only
        rw[Xdh o4 (by omega),Yo]
        simp only
        rw[X2z (by omega),Yo,X9i hf.1.1 hf.1.2.1 _ _ _ _ 0 [] (fun x hx=>hokE x (Xfb hx)) (by simp;omega),Yo]
        simp only[List.nil_append]
      by_cases hok2:tOK ⟨t.Op,t.Turn,t.Pending,X1z t.Marks j m.Time,Xdn (Xcd (X1z t.Marks j m.Time)) t.Store,t.Events,t.Rows,t.Late⟩=true
      · refine .inr (.inr ⟨hok,hk,hp,hmk,j,rfl,hjl,.inr ⟨hgr,hok2,?_⟩⟩)
        rw[hval,hPe,if_pos hok2,Yo]
      · refine .inl ⟨(t0,8),?_,by decide⟩
        rw[hval,hPe,if_neg hok2];rfl
    · have hPe:=hpend ⟨t.Op,t.Turn,t.Pending,X1z t.Marks j m.Time,t.Store,t.Events,t.Rows,t.Late⟩ hp [] rfl (by simp)
      by_cases hok2:tOK ⟨t.Op,t.Turn,t.Pending,X1z t.Marks j m.Time,t.Store,t.Events,t.Rows,t.Late⟩=true
      · refine .inr (.inr ⟨hok,hk,hp,hmk,j,rfl,hjl,.inl ⟨hgr,hok2,hbase _ ?_⟩⟩)
        rw[show(m.Kind==1)=false by simp;omega,cond_false,hR,Yo,Yf hgr]
        simp only[Bool.not_false,cond_true]
        rw[hPe,if_pos hok2,Yo]
        simp only[<-hp]
      · refine .inl ⟨(t0,8),hbase _ ?_,by decide⟩
        rw[show(m.Kind==1)=false by simp;omega,cond_false,hR,Yo,Yf hgr]
        simp only[Bool.not_false,cond_true]
        rw[hPe,if_neg hok2];rfl
end Go.D


namespace Go.D
theorem Xnd {q:X03} (hq:RQ q) (hj:q.Join=true) {x:X2} (hx:okE x):Xdy q x=some (if Xiz x then (rowJ q x,true,0) else (⟨0,⟨0,0⟩,⟨0,0⟩⟩,false,0)):=by
 have hf:=hq.facts
 have hst:Xrr [x]=true:=Xdj.2 ⟨fun y hy=>by rw[List.mem_singleton.1 hy];exact hx,List.pairwise_singleton ..⟩
 unfold Xdy
 rw[X26 hq.w,hq.ok,hj,X7n,if_neg (by simp),if_pos hst,Xhm hf.1.1 hf.1.2.1 hx]
 cases Xiz x<;>rfl
theorem Xkk {q:X03} (hq:RQ q) (hj:q.Join=true) (u:X08) (Y:List X2) (hu:u.Pending.length<=100000):∀ (xs:List X2) (k i:Nat),(∀ x∈xs,okE x)->i<=u.Pending.length->u.Pending.drop i=X75 q xs->X2t q u Y xs k (i:Int)=some (.x0 (u.Pending.length:Int))
 |[],k,i,_,hi,h=>by
  have:u.Pending.length<=i:=by simpa[X75] using h
  rw[X2t,show i=u.Pending.length by omega]
 |x::xs,k,i,hx,hi,h=>by
  have hx0:=hx x List.mem_cons_self
  obtain⟨_,_,_,a0,a1,_⟩:=hx0
  have c0:=X4o a0
  have c1:=X4o a1
  rw[X2t,Xnd hq hj (hx x List.mem_cons_self),Yo]
  cases hb:Xiz x with
  |true =>
   unfold Xiz at hb
   simp only[Bool.and_eq_true,decide_eq_true_eq] at hb
   have hd:u.Pending.drop i=Xms (rowJ q x)::X75 q xs:=by
    rw[h];unfold X75
    rw[List.filter_cons_of_pos (by unfold Xiz;simp[hb]),List.map_cons]
   have hk:u.Pending[i]?=some (Xms (rowJ q x)):=by
    have:=congrArg (fun z=>z[0]?) hd
    simpa using this
   have hlt:i<u.Pending.length:=(Ys.1 hk).1
   have hd2:u.Pending.drop (i+1)=X75 q xs:=by
    have:=congrArg List.tail hd
    simpa using this
   rw[Yt (show x.Values.e0.Count>0 by omega),Yt (show x.Values.e1.Count>0 by omega),Yf (show ¬ (i:Int) >= (u.Pending.length:Int) by omega)]
   simp only[cond_true,Yo,if_true,bne_self_eq_false,cond_false,beq_self_eq_true,Bool.not_true]
   rw[X4y,hk,Yo]
   simp only[Xms,Xiy,Bool.not_true,Yo,cond_false]
   rw[X0l (by omega) (by omega)]
   exact Xkk hq hj u Y hu xs (k+1) (i+1) (fun y hy=>hx y (List.mem_cons_of_mem _ hy)) (by omega) hd2
  |false =>
   have hd:u.Pending.drop i=X75 q xs:=by
    rw[h];unfold X75
    rw[List.filter_cons_of_neg (by simp[hb])]
   have hv:((bif (decide (x.Values.e0.Count>(0:Int))) then (some (bif (decide (x.Values.e0.Count>(0:Int))) then (decide (x.Values.e1.Count>(0:Int))) else false)) else (some (bif (decide (x.Values.e0.Count>(0:Int))) then false else false)):Option (Bool)))=some false:=by
    by_cases g0:x.Values.e0.Count>0
    ·by_cases g1:x.Values.e1.Count>0
     ·exfalso
      unfold Xiz at hb
      rw[Yt (by omega),Yt (by omega)] at hb
      cases hb
     ·rw[Yt g0,Yf g1];rfl
    ·rw[Yf g0];rfl
   rw[hv]
   simp only[Bool.false_eq_true,if_false,Yo,bne_self_eq_false,cond_false,beq_self_eq_true,Bool.not_true]
   exact Xkk hq hj u Y hu xs (k+1) i (fun y hy=>hx y (List.mem_cons_of_mem _ hy)) hi hd
theorem Xp2 {t:X08} (h:tOK t=true) (hk:t.Op.Kind=5):Xd5 t.Marks=true/\t.Marks.length=2:=by
 obtain⟨o1,o2,o3,o4,o5⟩:=X7t h
 have h2l:t.Marks.length=2:=by
  unfold Xcu at o2
  simp only[Bool.and_eq_true,decide_eq_true_eq] at o2
  obtain⟨⟨⟨⟨⟨⟨_,h2⟩,h3⟩,_⟩,_⟩,_⟩,_⟩:=o2
  rw[hk] at h2 h3
  have h2':(2:Int)<=t.Marks.length:=h2
  have h3':(t.Marks.length:Int)<=2:=h3
  omega
 refine⟨?_,h2l⟩
 unfold Xl9 at o5
 simp only[Bool.and_eq_true] at o5
 unfold Xd5
 rw[Yt (by omega),Yt (by omega),o5.1.1.1.1];rfl
theorem Xtz {q:X03} (hq:RQ q) (hj:q.Join=true) (ins:List Int) (Y:List Xg) (b:Bool):∀ (xs:List Xg) (k:Nat) (t:X08),k+xs.length<=ins.length->X1p ins Y q b xs k t=some .x0
 |[],k,t,_=>rfl
 |m::xs,k,t,hn=>by
  simp only[List.length_cons] at hn
  obtain⟨i,hi⟩:∃ i,ins[k]?=some i:=⟨_,Ye (show k<ins.length by omega)⟩
  have hf:=hq.facts
  have hw:=hf.2.2.2.2.1
  have hk1:=hf.2.2.2.2.2 hj
  have ih:=fun t'=>Xtz hq hj ins Y b xs (k+1) t' (by omega)
  rw[X1p,X4y,hi,Yo]
  rcases Xhl hq hj t i m (fun hok htm hii=>Xjt (X7t hok).2.2.2.1 (X8j (X7t hok).2.1).2.2.1 hw (by omega) (by unfold isT at htm;simp only[Bool.and_eq_true,decide_eq_true_eq] at htm;exact htm) hii) with ⟨r,hr,hr2⟩|⟨hok,hk,hp,hm,l,hl,hok2,hT⟩|⟨hok,hk,hp,hm,j,rfl,hjl,hT⟩
  ·rw[hr,Yo,show(r.2 != 0)=true by simpa using hr2,cond_true]
   exact ih t
  ·have hms:=(Xp2 hok hk).1
   rw[hT,Yo]
   simp only[bne_self_eq_false,cond_false]
   rw[X43,if_pos hms]
   simp only[Yo,bne_self_eq_false,cond_false]
   rw[show(m.Kind==1)=true by simpa using hm,hl]
   have hll:=(X8j (X7t hok2).2.1).2.2.1
   simp only[cond_true,Yo,bne_self_eq_false,cond_false]
   rw[X97 (by simp only at hll;omega),hp]
   simp only[Yo,Bool.not_true,cond_false,List.length_nil]
   exact ih _
  ·have hms:=(Xp2 hok hk).1
   have hst:=(X7t hok).2.2.2.1
   have hsl:=(X8j (X7t hok).2.1).2.2.1
   have hge:=Xs5 (l:=t.Marks) (i:=j) (Xds hms).1 m.Time
   rcases hT with ⟨hng,hok2,hT⟩|⟨hg,hok2,hT⟩
   ·have hm2:Xd5 (X1z t.Marks j m.Time)=true:=(Xp2 hok2 hk).1
    rw[hT,Yo]
    simp only[bne_self_eq_false,cond_false]
    rw[X43,if_pos hms,X43,if_pos hm2]
    simp only[Yo,bne_self_eq_false,cond_false]
    rw[show(m.Kind==1)=false by simp;omega]
    simp only[cond_false]
    have he:Xcd (X1z t.Marks j m.Time)=Xcd t.Marks:=by omega
    have hfi:X69 q t { t with Marks:=X1z t.Marks j m.Time } (Xcd t.Marks) (Xcd (X1z t.Marks j m.Time))=some true:=by
     unfold X69
     rw[he,Yt (Int.le_refl _),cond_true,show(Xcd t.Marks==Xcd t.Marks)=true by simp]
     simp only[cond_true,hp,List.length_nil]
     rw[X97 (by omega)];rfl
    rw[hfi]
    simp only[Yo,Bool.not_true,cond_false]
    exact ih _
   ·have hm2:Xd5 (X1z t.Marks j m.Time)=true:=(Xp2 hok2 hk).1
    rw[hT,Yo]
    simp only[bne_self_eq_false,cond_false]
    rw[X43,if_pos hms,X43,if_pos hm2]
    simp only[Yo,bne_self_eq_false,cond_false]
    rw[show(m.Kind==1)=false by simp;omega]
    simp only[cond_false]
    generalize hM:Xcd (X1z t.Marks j m.Time)=M at *
    have hfl:=Xjk M t.Store
    have hrl:=Xs2 M t.Store
    have hsj:=Xj9 q (X7w M t.Store)
    have hfi:X69 q t { t with Marks:=X1z t.Marks j m.Time,Store:=Xdn M t.Store,Pending:=X75 q (X7w M t.Store) } (Xcd t.Marks) M=some true:=by
     unfold X69
     rw[Yf (by omega),cond_false,Xdh hst hsl,Yo]
     simp only[bne_self_eq_false,cond_false]
     rw[X97 (by omega)]
     simp only[Yo,Bool.not_true,cond_false]
     rw[X2z (by omega),Yo]
     have:=Xkk hq hj { t with Marks:=X1z t.Marks j m.Time,Store:=Xdn M t.Store,Pending:=X75 q (X7w M t.Store) } (X7w M t.Store) (by simp only;omega) (X7w M t.Store) 0 0 (fun x hx=>(Xdj.1 hst).1 x (Xfb hx)) (by omega) rfl
     rw[show((0:Nat):Int)=0 from rfl] at this
     rw[this]
     simp
    rw[hfi]
    simp only[Yo,Bool.not_true,cond_false]
    exact ih _
theorem X003:Xb0=some true:=by decide +kernel
theorem Xzd (q:X03):∃ b,X9g q=some b:=by
 unfold X9g
 cases decide ((List.length q.Arg:Int)>100)<;>cases decide ((List.length q.Where:Int)>100)<;>exact⟨_,rfl⟩
theorem Xty {q:X03} (hq:QW q) (ins:List Int) (ms:List Xg):X5t q ins ms=some true:=by
 unfold X5t
 rw[X003,Yo]
 obtain⟨g,hg⟩:=Xzd q
 rw[hg,Yo,Xvg hq]
 cases g with
 |true=>rfl
 |false =>
  by_cases ha:(Xs7 q).2=0
  rotate_left
  ·rw[Yf ha];rfl
  ·rw[Yt ha]
   cases hj:q.Join with
   |false=>rfl
   |true =>
    by_cases hl:(List.length ms:Int)>40
    ·rw[Yt hl];rfl
    ·rw[Yf hl]
     by_cases hn:ins.length=ms.length
     ·rw[show((List.length ins:Int) != (List.length ms:Int))=false by simp[hn]]
      simp only[cond_false,Yo,Bool.not_true]
      rw[show Xdz 0=some (⟨⟨5,0⟩,0,[],[-9223372036854775808,-9223372036854775808],[],[],[],[]⟩,0) by decide +kernel,Yo]
      simp only[bne_self_eq_false,cond_false]
      rw[X2z (by omega),Yo,Xtz ⟨hq,ha⟩ hj ins ms true ms 0 _ (by omega)];rfl
     ·rw[show((List.length ins:Int) != (List.length ms:Int))=true by simp;omega];rfl
theorem Xf0 (q:X03) (ins:List Int) (ms:List Xg) (w0:Xgy q) {P:Prop} (_:P) {P2:Prop} (_:P2):X5t q ins ms=some true:=Xty (X02e w0) ins ms
end Go.D
