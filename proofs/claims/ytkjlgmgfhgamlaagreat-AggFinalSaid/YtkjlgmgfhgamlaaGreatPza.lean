/- Parts of the proof, laid together. -/
import Derived.Test.YtkjlgmgfhgamlaaGreatDFunZ
set_option linter.all false

namespace Go.D
theorem X0e {z:Int} (h1 : -9223372036854775808<=z) (h2:z<=9223372036854775807):IntKind.i64.wrap z=z:=Go.IntWalk.i64_in z ⟨h1,h2⟩
theorem X35 {n:Nat} (h:n<=140737488355328):X5q n=some ():=by unfold X5q;rw[if_pos h]
theorem X4o {n b:Nat} (h:n*b<=140737488355328):X2f n b=some ():=by unfold X2f;rw[if_pos h]
theorem X49 {α:Type} (l:List α) (k:Nat):X32 l (k:Int)=l[k]?:=by simp[X32]
def ltE (a b:X4):Prop:=a.Span.End<b.Span.End\/a.Span.End=b.Span.End/\(a.Span.Start<b.Span.Start\/a.Span.Start=b.Span.Start/\a.Key<b.Key)
instance (a b:X4):Decidable (ltE a b):=by unfold ltE;infer_instance
def X4x (a b:X4):Prop:=a.Key=b.Key/\a.Span=b.Span
instance (a b:X4):Decidable (X4x a b):=by unfold X4x;infer_instance
theorem Xhb {a b:X06} (h1:a.Start=b.Start) (h2:a.End=b.End):a=b:=by cases a;cases b;simp_all
theorem Xem {a b c:X4} (h:ltE a b) (k:ltE b c):ltE a c:=by unfold ltE at *;omega
theorem Xrj (a:X4):¬ ltE a a:=by unfold ltE;omega
theorem Xil {a b:X4}:ltE a b\/X4x a b\/ltE b a:=by
 by_cases h:X4x a b
 ·exact .inr (.inl h)
 ·have:¬ (a.Key=b.Key/\a.Span.Start=b.Span.Start/\a.Span.End=b.Span.End):=fun⟨h1,h2,h3⟩=>h ⟨h1,Xhb h2 h3⟩
  unfold ltE;omega
theorem sameK_ltE {a b c:X4} (h:X4x a b):ltE c a↔ltE c b:=by unfold X4x at h;unfold ltE;rw[h.1,h.2]
theorem Xay {a b c:X4} (h:X4x a b):ltE a c↔ltE b c:=by unfold X4x at h;unfold ltE;rw[h.1,h.2]
theorem Xa6 {a b:X4} (h:X4x a b):¬ ltE a b:=by unfold X4x at h;unfold ltE;rw[h.1,h.2];omega
def cmpI (a b:Int):Int:=if a<b then -1 else if a>b then 1 else 0
theorem X04f (a b:Int):X2q a b=some (cmpI a b):=by
 simp only[X2q,X5g,bne_self_eq_false,Yo,cond_false,cmpI]
 by_cases h1:a<b
 ·simp[h1]
 ·by_cases h2:a>b
  ·simp[h1,h2]
  ·simp[h1,h2]
def Xsm (a b:X4):Int:=if ltE a b then -1 else if ltE b a then 1 else 0
theorem X7y (a b:X4):X6e a b=some (Xsm a b):=by
 simp only[X6e,X04f,Yo,Xdf,X5m,List.length_cons,List.length_nil]
 rw[X35 (by omega)]
 simp only[Yo,Xsm,ltE,cmpI]
 by_cases h1:a.Span.End<b.Span.End
 ·simp[h1]
 ·by_cases h2:a.Span.End>b.Span.End
  ·have:¬ a.Span.End=b.Span.End:=by omega
   simp[h1,h2,this]
  ·have he:a.Span.End=b.Span.End:=by omega
   by_cases h3:a.Span.Start<b.Span.Start
   ·simp[he,h3]
   ·by_cases h4:a.Span.Start>b.Span.Start
    ·have:¬ a.Span.Start=b.Span.Start:=by omega
     simp[he,h3,h4,this]
    ·have hs:a.Span.Start=b.Span.Start:=by omega
     by_cases h5:a.Key<b.Key
     ·simp[he,hs,h5]
     ·by_cases h6:a.Key>b.Key
      ·simp[he,hs,h5,h6]
      ·simp[he,hs,h5,h6]
theorem Xo6 {a b:X4}:Xsm a b<0↔ltE a b:=by
 unfold Xsm
 by_cases h:ltE a b
 ·simp[h]
 ·by_cases h2:ltE b a<;>simp[h,h2]
theorem X00n {a b:X4}:Xsm a b=0↔X4x a b:=by
 unfold Xsm
 by_cases h:ltE a b
 ·simp[h];exact fun hs=>Xa6 hs h
 ·by_cases h2:ltE b a
  ·simp[h,h2];exact fun hs=>h ((Xay hs).2 ((sameK_ltE hs).1 h2))
  ·simp[h,h2]
   rcases Xil (a:=a) (b:=b) with h3|h3|h3
   ·exact absurd h3 h
   ·exact h3
   ·exact absurd h3 h2
theorem Xo7 {a b:X4}:0<=Xsm a b↔¬ ltE a b:=by rw[<-Xo6];omega
def okA (a:X0q):Prop:=(a.Count=0/\a=⟨0,0,0,0⟩)\/(a.Count=1/\a.Sum=a.Min/\a.Sum=a.Max)\/(1<a.Count/\a.Count<=1073741824/\a.Min<=a.Max)
theorem Xlx (x y:X0q):Xg3 x y=decide (x=y):=by
 obtain⟨a,b,c,d⟩:=x
 obtain⟨e,f,g,h⟩:=y
 rw[Bool.eq_iff_iff]
 simp[Xg3]
theorem X3g {a:X0q} (h:okA a):X2k a=some 0:=by
 rcases h with ⟨h1,h2⟩|⟨h1,h2,h3⟩|⟨h1,h2,h3⟩
 ·subst h2;rfl
 ·have h3':a.Min=a.Max:=by omega
  simp[X2k,h1,h2,h3']
 ·have e0:(a.Count==0)=false:=by simp;omega
  have e1:(a.Count==1)=false:=by simp;omega
  simp[X2k,e0,e1,h1,h2,h3]
def X3t (a b:X0q):X0q :=
 if a.Count=0 then b else if b.Count=0 then a else ⟨a.Count+b.Count,IntKind.i64.wrap (a.Sum+b.Sum),if b.Min<a.Min then b.Min else a.Min,if b.Max>a.Max then b.Max else a.Max⟩
theorem X3s {a:X0q} (h:okA a):0<=a.Count/\a.Count<=1073741824:=by
 rcases h with ⟨h1,_⟩|⟨h1,_⟩|⟨h1,h2,_⟩<;>omega
theorem X48 {a b:X0q} (ha:okA a) (hb:okA b) (hc:a.Count+b.Count<=1073741824):X2g a b=some (X3t a b,0):=by
 have h1:=X3s ha
 have h2:=X3s hb
 simp only[X2g,X3g ha,X3g hb,Yo,bne_self_eq_false,cond_false,X3t]
 rw[X0e (by omega) (by omega)]
 have e0:decide (a.Count+b.Count>1073741824)=false:=by simp;omega
 rw[e0,cond_false]
 by_cases h3:a.Count=0
 ·have e1:(a.Count==0)=true:=by simp[h3]
  rw[e1,cond_true,if_pos h3]
 ·have e1:(a.Count==0)=false:=by simp[h3]
  rw[e1,cond_false,if_neg h3]
  by_cases h4:b.Count=0
  ·have e2:(b.Count==0)=true:=by simp[h4]
   rw[e2,cond_true,if_pos h4]
  ·have e2:(b.Count==0)=false:=by simp[h4]
   rw[e2,cond_false,if_neg h4]
theorem Xtq {a:X0q} (h:okA a):a.Min<=a.Max:=by
 rcases h with ⟨_,h2⟩|⟨_,h2,h3⟩|⟨_,_,h3⟩
 ·subst h2;decide
 ·omega
 ·exact h3
theorem Xxu {a b:X0q} (ha:okA a) (hb:okA b) (hc:a.Count+b.Count<=1073741824):okA (X3t a b):=by
 unfold X3t
 have h1:=X3s ha
 have h2:=X3s hb
 by_cases h3:a.Count=0
 ·rw[if_pos h3];exact hb
 ·rw[if_neg h3]
  by_cases h4:b.Count=0
  ·rw[if_pos h4];exact ha
  ·rw[if_neg h4]
   have m1:=Xtq ha
   have m2:=Xtq hb
   refine .inr (.inr ⟨?_,hc,?_⟩)
   ·show 1<a.Count+b.Count;omega
   ·show(if b.Min<a.Min then b.Min else a.Min)<=(if b.Max>a.Max then b.Max else a.Max)
    split<;>split<;>omega
def okE (x:X4):Prop := -1100585369600<=x.Span.Start/\x.Span.Start<x.Span.End/\x.Span.End<=1100585369600/\okA x.Values.e0/\okA x.Values.e1/\0<x.Values.e0.Count+x.Values.e1.Count
theorem Xai {x:X4} (h:okE x):X6d x=some true:=by
 obtain⟨h1,h2,h3,h4,h5,h6⟩:=h
 have c1:=X3s h4
 have c2:=X3s h5
 have e1:¬ x.Span.Start < -1100585369600:=by omega
 have e2:¬ x.Span.End<=x.Span.Start:=by omega
 have e3:¬ x.Span.End>1100585369600:=by omega
 simp only[X6d,X3g h4,X3g h5,Yo]
 rw[X0e (by omega) (by omega)]
 have e3:¬ 1100585369600<x.Span.End:=by omega
 simp[e1,e2,e3,h6]
theorem X7m (l:List X4) (hs:l.Pairwise ltE) (ho:∀ x∈l,okE x) (hn:l.length<=1000000):∀ (xs:List X4) (k:Nat),l.drop k=xs->X2r l xs k=some .x0:=by
 intro xs
 induction xs with
 |nil=>intro k _;rfl
 |cons x xs ih =>
  intro k hk
  have hlt:k<l.length:=by
   rcases Nat.lt_or_ge k l.length with h|h
   ·exact h
   ·rw[List.drop_eq_nil_of_le h] at hk;cases hk
  have hx:l[k]?=some x:=by have:=congrArg List.head? hk;simpa[List.head?_drop] using this
  have hmem:x∈l:=Yg hx
  have hnext:l.drop (k+1)=xs:=by rw[<-List.tail_drop,hk];rfl
  rw[X2r]
  simp only[Xai (ho x hmem),Yo,Bool.not_true,cond_false,cond_true]
  by_cases h0:k=0
  ·subst h0
   simp only[Int.ofNat_zero,Int.cast_ofNat_Int,gt_iff_lt,Int.lt_irrefl,decide_false,cond_false,Yo]
   exact ih 1 hnext
  ·have hpos:decide ((k:Int)>0)=true:=by simp;omega
   rw[hpos,cond_true]
   have hw:IntKind.i64.wrap ((k:Int) - 1)=((k - 1:Nat):Int):=by rw[X0e (by omega) (by omega)];omega
   rw[hw,X49]
   have hp:l[k - 1]?=some l[k - 1]:=Ye (by omega)
   rw[hp]
   have hlt2:ltE l[k - 1] x:=by
    have h3:=List.pairwise_iff_getElem.1 hs (k - 1) k (by omega) hlt (by omega)
    have:l[k]=x:=by rw[Ye hlt] at hx;exact Option.some.inj hx
    rwa [this] at h3
   have hord:¬ (0<=Xsm l[k - 1] x):=by rw[Xo7];exact fun h=>h hlt2
   simp only[Yo,X7y,ge_iff_le,hord,decide_false,cond_false]
   exact ih (k+1) hnext
theorem Xaj {l:List X4} (hs:l.Pairwise ltE) (ho:∀ x∈l,okE x) (hn:l.length<=4000):X4j l=some 0:=by
 unfold X4j
 have:¬ ((l.length:Int)>4000):=by omega
 simp only[this,decide_false,cond_false]
 rw[X35 (by omega),X7m l hs ho (by omega) l 0 rfl]
 rfl
theorem X03n {i j:Nat} (h:i+j<=1000000):IntKind.i64.wrap (Int.fdiv (IntKind.u64.wrap (IntKind.i64.wrap ((i:Int)+(j:Int)))) (2 ^ (min (Int.toNat 1) IntKind.u64.bits)))=(((i+j) / 2:Nat):Int):=by
 have h1:IntKind.i64.wrap ((i:Int)+(j:Int))=(i:Int)+j:=X0e (by omega) (by omega)
 rw[h1]
 have h2:IntKind.u64.wrap ((i:Int)+j)=(i:Int)+j:=Go.IntWalk.u64_in _ ⟨by omega,by omega⟩
 rw[h2]
 have h3:(min (Int.toNat 1) IntKind.u64.bits)=1:=by decide
 rw[h3]
 have h4:Int.fdiv ((i:Int)+j) (2 ^ 1)=(((i+j) / 2:Nat):Int):=by
  rw[Int.fdiv_eq_ediv_of_nonneg _ (by decide)]
  omega
 rw[h4,X0e (by omega) (by omega)]
theorem X074 (l:List X4) (x:X4) (c:Nat) (n:Int) (hn:l.length<=400000) (hc:∀ (k:Nat) y,l[k]?=some y->(ltE y x↔k<c)):∀ (f i j:Nat),i<=c->c<=j->j<=l.length->j - i<f ->
  Xq l x n f i j=some (.x0 c):=by
 intro f
 induction f with
 |zero=>intro i j _ _ _ h;omega
 |succ f ih =>
  intro i j h1 h2 h3 h4
  rw[Xq]
  by_cases hij:i<j
  ·have hd:decide ((i:Int)<(j:Int))=true:=by simp;exact hij
   rw[hd,cond_true,X03n (by omega),X49]
   have hm:(i+j) / 2<l.length:=by omega
   rw[Ye hm]
   simp only[Yo,X7y]
   have hcc:=hc ((i+j) / 2) _ (Ye hm)
   by_cases hl:ltE l[(i+j) / 2] x
   ·have:Xsm l[(i+j) / 2] x<0:=Xo6.2 hl
    simp only[this,decide_true,cond_true]
    rw[X0e (by omega) (by omega)]
    have:=hcc.1 hl
    have h5:=ih ((i+j) / 2+1) j (by omega) h2 h3 (by omega)
    simpa using h5
   ·have:¬ Xsm l[(i+j) / 2] x<0:=fun h=>hl (Xo6.1 h)
    simp only[this,decide_false,cond_false]
    have:¬ (i+j) / 2<c:=fun h=>hl (hcc.2 h)
    exact ih i ((i+j) / 2) h1 (by omega) (by omega) (by omega)
  ·have hd:decide ((i:Int)<(j:Int))=false:=by simp;omega
   rw[hd,cond_false]
   have:i=c:=by omega
   rw[this]
def cnt (l:List X4) (x:X4):Nat:=(l.takeWhile fun y=>decide (ltE y x)).length
theorem Xv9 (l:List X4) (x:X4):cnt l x<=l.length:=by unfold cnt;exact(List.takeWhile_sublist _).length_le
theorem X02a {l:List X4} {x:X4} (hs:l.Pairwise ltE):∀ (k:Nat) y,l[k]?=some y->(ltE y x↔k<cnt l x):=by
 induction l with
 |nil=>intro k y h;simp at h
 |cons z l ih =>
  intro k y h
  rw[List.pairwise_cons] at hs
  unfold cnt
  by_cases hz:ltE z x
  ·rw[List.takeWhile_cons_of_pos (by simpa using hz)]
   cases k with
   |zero=>simp at h;subst h;simp[hz]
   |succ k =>
    simp at h
    have:=ih hs.2 k y h
    unfold cnt at this
    rw[this];simp
  ·rw[List.takeWhile_cons_of_neg (by simpa using hz)]
   simp only[List.length_nil,Nat.not_lt_zero,iff_false]
   cases k with
   |zero=>simp at h;subst h;exact hz
   |succ k =>
    simp at h
    exact fun hy=>hz (Xem (hs.1 y (Yg h)) hy)
theorem X04g {l:List X4} {x:X4} (hs:l.Pairwise ltE) (hn:l.length<=50000) :
  Xg l x=some ((cnt l x:Int),match l[cnt l x]? with|some y=>decide (X4x y x)|none=>false):=by
 unfold Xg
 have h0:=X074 l x (cnt l x) (l.length:Int) (by omega) (X02a hs) FU 0 l.length (by omega) (Xv9 l x) (Nat.le_refl _) (by unfold FU;omega)
 rw[show((0:Nat):Int)=0 from rfl] at h0
 rw[h0]
 simp only[Yo]
 by_cases hlt:cnt l x<l.length
 ·have hd:decide ((cnt l x:Int)<(l.length:Int))=true:=by simp;exact hlt
  rw[hd,X49,Ye hlt]
  simp only[cond_true,Yo,X7y]
  congr 2
  rw[Bool.eq_iff_iff]
  simp[X00n]
 ·have hd:decide ((cnt l x:Int)<(l.length:Int))=false:=by simp;omega
  rw[hd,List.getElem?_eq_none (by omega)]
  rfl
end Go.D


namespace Go.D
def Xki (y x:X4):X4:=⟨y.Key,y.Span,⟨X3t y.Values.e0 x.Values.e0,X3t y.Values.e1 x.Values.e1⟩⟩
def Xl9:List X4->X4->List X4
 |[],x=>[x]
 |y::l,x=>if ltE y x then y::Xl9 l x else if X4x y x then Xki y x::l else x::y::l
theorem Xtm {l:List X4} {x:X4} (hs:l.Pairwise ltE) :
  Xl9 l x=(match l[cnt l x]? with
   |none=>l++[x]
   |some y=>if X4x y x then l.set (cnt l x) (Xki y x) else l.take (cnt l x)++x::l.drop (cnt l x)):=by
 induction l with
 |nil=>rfl
 |cons z l ih =>
  rw[List.pairwise_cons] at hs
  unfold Xl9
  by_cases hz:ltE z x
  ·have hc:cnt (z::l) x=cnt l x+1:=by unfold cnt;rw[List.takeWhile_cons_of_pos (by simpa using hz)];rfl
   rw[if_pos hz,hc,ih hs.2]
   simp only[List.getElem?_cons_succ]
   cases h:l[cnt l x]? with
   |none=>rfl
   |some y =>
    simp only
    split
    ·rfl
    ·rfl
  ·have hc:cnt (z::l) x=0:=by unfold cnt;rw[List.takeWhile_cons_of_neg (by simpa using hz)];rfl
   rw[if_neg hz,hc]
   simp only[List.getElem?_cons_zero]
   split<;>rfl
def putF (l:List X4) (x:X4):Option (List X4×Int) :=
 (Xg l x).bind fun v1393=>bif (!v1393.2) then (bif (v1393.1==(List.length l:Int)) then (((X7h l v1393.1 (List.length l:Int)).bind fun m1405=>bif (List.isEmpty m1405) then ((X2f (List.length (l++[x])) 88).bind fun u1408=>some ()) else ((X2f (List.length (l++[x])) 88).bind fun u1410=>some ()):Option (Unit)).bind fun _=>some ((l++[x]),0)) else ((Xrr l v1393.1 x 88).bind fun m1413=>some (m1413,0))) else ((X32 l v1393.1).bind fun e1415=>((X2g e1415.Values.e0 x.Values.e0).bind fun v1430=>bif (v1430.2 != (0:Int)) then (some (l,v1430.2)) else ((X2g (((X4.mk e1415.Key e1415.Span (V2.mk v1430.1 e1415.Values.e1)).Values).e1) x.Values.e1).bind fun v1435=>bif (v1435.2 != (0:Int)) then (some ((List.set l (Int.toNat v1393.1) (X4.mk e1415.Key e1415.Span (V2.mk v1430.1 e1415.Values.e1))),v1435.2)) else (some ((List.set (List.set l (Int.toNat v1393.1) (X4.mk e1415.Key e1415.Span (V2.mk v1430.1 e1415.Values.e1))) (Int.toNat v1393.1) (X4.mk ((X4.mk e1415.Key e1415.Span (V2.mk v1430.1 e1415.Values.e1)).Key) ((X4.mk e1415.Key e1415.Span (V2.mk v1430.1 e1415.Values.e1)).Span) (V2.mk (((X4.mk e1415.Key e1415.Span (V2.mk v1430.1 e1415.Values.e1)).Values).e0) v1435.1))),0))):Option ((List X4)×Int)).bind fun w1427=>some (w1427.1,w1427.2))
theorem X00k {l:List X4} {x:X4} (hs:l.Pairwise ltE) (hn:l.length<=10000) (hx:okA x.Values.e0/\okA x.Values.e1)
  (ho:∀ y∈l,X4x y x->okA y.Values.e0/\okA y.Values.e1/\y.Values.e0.Count+x.Values.e0.Count<=1073741824/\y.Values.e1.Count+x.Values.e1.Count<=1073741824):putF l x=some (Xl9 l x,0):=by
 unfold putF
 rw[X04g hs (by omega),Xtm hs]
 have hle:=Xv9 l x
 cases h:l[cnt l x]? with
 |none =>
  have hc:cnt l x=l.length:=by
   have:=List.getElem?_eq_none_iff.1 h;omega
  have hsl:X7h l (l.length:Int) (l.length:Int)=some []:=by simp[X7h]
  simp only[Yo,Bool.not_false,cond_true,hc,beq_self_eq_true,hsl]
  rw[X4o (by simp;omega)]
  rfl
 |some y =>
  have hlt:cnt l x<l.length:=(Ys.1 h).1
  simp only[Yo]
  by_cases hk:X4x y x
  ·obtain⟨a1,a2,a3,a4⟩:=ho y (Yg h) hk
   simp only[hk,decide_true,Bool.not_true,cond_false,X49,h,Yo,X48 a1 hx.1 a3,X48 a2 hx.2 a4,bne_self_eq_false,if_true,Int.toNat_natCast,List.set_set]
   rfl
  ·have hne:((cnt l x:Int)==(l.length:Int))=false:=by simp;omega
   have hi:Xrr l (cnt l x:Int) x 88=some (l.take (cnt l x)++x::l.drop (cnt l x)):=by
    unfold Xrr;rw[if_pos ⟨by omega,by simpa using hlt,by omega⟩];simp
   simp only[hk,decide_false,Bool.not_false,cond_true,hne,cond_false,hi,Yo,if_false]
theorem Xl7 {l:List X4} {x:X4} (hs:l.Pairwise ltE) (e:X4) :
  e∈Xl9 l x↔(e∈l/\¬ X4x e x)\/(∃ y∈l,X4x y x/\e=Xki y x)\/((∀ y∈l,¬ X4x y x)/\e=x):=by
 induction l with
 |nil=>simp[Xl9]
 |cons z l ih =>
  rw[List.pairwise_cons] at hs
  unfold Xl9
  by_cases hz:ltE z x
  ·have hnz:¬ X4x z x:=fun h=>Xa6 h hz
   rw[if_pos hz,List.mem_cons,ih hs.2]
   constructor
   ·rintro(rfl|⟨h1,h2⟩|⟨y,h1,h2,h3⟩|⟨h1,h2⟩)
    ·exact .inl ⟨List.mem_cons_self,hnz⟩
    ·exact .inl ⟨List.mem_cons_of_mem _ h1,h2⟩
    ·exact .inr (.inl ⟨y,List.mem_cons_of_mem _ h1,h2,h3⟩)
    ·exact .inr (.inr ⟨fun y hy=>(List.mem_cons.1 hy).elim (fun h=>h▸hnz) (h1 y),h2⟩)
   ·rintro(⟨h1,h2⟩|⟨y,h1,h2,h3⟩|⟨h1,h2⟩)
    ·rcases List.mem_cons.1 h1 with h1|h1
     ·exact .inl h1
     ·exact .inr (.inl ⟨h1,h2⟩)
    ·rcases List.mem_cons.1 h1 with h1|h1
     ·subst h1;exact absurd h2 hnz
     ·exact .inr (.inr (.inl ⟨y,h1,h2,h3⟩))
    ·exact .inr (.inr (.inr ⟨fun y hy=>h1 y (List.mem_cons_of_mem _ hy),h2⟩))
  ·rw[if_neg hz]
   have hno:∀ y∈l,¬ (X4x z x/\X4x y x):=fun y hy ⟨h1,h2⟩=>by
    have:=hs.1 y hy
    exact Xa6 (a:=y) (b:=y) ⟨rfl,rfl⟩ (by rw[Xay (c:=y) h1] at this;rw[<-Xay h2] at this;exact this)
   by_cases hk:X4x z x
   ·rw[if_pos hk,List.mem_cons]
    constructor
    ·rintro(rfl|h1)
     ·exact .inr (.inl ⟨z,List.mem_cons_self,hk,rfl⟩)
     ·exact .inl ⟨List.mem_cons_of_mem _ h1,fun h=>hno e h1 ⟨hk,h⟩⟩
    ·rintro(⟨h1,h2⟩|⟨y,h1,h2,h3⟩|⟨h1,h2⟩)
     ·rcases List.mem_cons.1 h1 with h1|h1
      ·subst h1;exact absurd hk h2
      ·exact .inr h1
     ·rcases List.mem_cons.1 h1 with h1|h1
      ·subst h1;exact .inl h3
      ·exact absurd ⟨hk,h2⟩ (hno y h1)
     ·exact absurd hk (h1 z List.mem_cons_self)
   ·rw[if_neg hk]
    have hxz:ltE x z:=by
     rcases Xil (a:=z) (b:=x) with h|h|h
     ·exact absurd h hz
     ·exact absurd h hk
     ·exact h
    have hn:∀ y∈l,¬ X4x y x:=fun y hy h=>by
     have h1:=Xem hxz (hs.1 y hy)
     exact Xa6 (a:=y) (b:=y) ⟨rfl,rfl⟩ (by rw[<-Xay h] at h1;exact h1)
    rw[List.mem_cons]
    constructor
    ·rintro(rfl|h1)
     ·exact .inr (.inr ⟨fun y hy=>(List.mem_cons.1 hy).elim (fun h=>h▸hk) (hn y),rfl⟩)
     ·exact .inl ⟨h1,fun h=>(List.mem_cons.1 h1).elim (fun h2=>hk (h2▸h)) (fun h2=>hn e h2 h)⟩
    ·rintro(⟨h1,h2⟩|⟨y,h1,h2,h3⟩|⟨h1,h2⟩)
     ·exact .inr h1
     ·rcases List.mem_cons.1 h1 with h1|h1
      ·subst h1;exact absurd h2 hk
      ·exact absurd h2 (hn y h1)
     ·exact .inl h2
theorem Xig (y x:X4):X4x (Xki y x) y:=⟨rfl,rfl⟩
theorem Xid {l:List X4} {x:X4} (hs:l.Pairwise ltE):(Xl9 l x).Pairwise ltE:=by
 induction l with
 |nil=>exact List.pairwise_singleton _ _
 |cons z l ih =>
  have hs0:=hs
  rw[List.pairwise_cons] at hs
  unfold Xl9
  by_cases hz:ltE z x
  ·rw[if_pos hz,List.pairwise_cons]
   refine⟨fun e he=>?_,ih hs.2⟩
   rcases(Xl7 hs.2 e).1 he with ⟨h1,_⟩|⟨y,h1,h2,rfl⟩|⟨_,rfl⟩
   ·exact hs.1 e h1
   ·rw[sameK_ltE (Xig y x)];exact hs.1 y h1
   ·exact hz
  ·rw[if_neg hz]
   by_cases hk:X4x z x
   ·rw[if_pos hk,List.pairwise_cons]
    exact⟨fun e he=>by rw[Xay (Xig z x)];exact hs.1 e he,hs.2⟩
   ·rw[if_neg hk,List.pairwise_cons]
    have hxz:ltE x z:=by
     rcases Xil (a:=z) (b:=x) with h|h|h
     ·exact absurd h hz
     ·exact absurd h hk
     ·exact h
    exact⟨fun e he=>(List.mem_cons.1 he).elim (fun h=>h▸hxz) (fun h=>Xem hxz (hs.1 e h)),hs0⟩
theorem Xl8 (l:List X4) (x:X4):(Xl9 l x).length<=l.length+1:=by
 induction l with
 |nil=>simp[Xl9]
 |cons z l ih =>
  unfold Xl9
  split
  ·simp;exact ih
  ·split<;>simp
end Go.D


namespace Go.D
theorem Xsu (z:Int):IntKind.i64.wrap z=(z+9223372036854775808) % 18446744073709551616 - 9223372036854775808:=by
 have h:IntKind.i64.wrap z=if z % 18446744073709551616 >= 9223372036854775808 then z % 18446744073709551616 - 18446744073709551616 else z % 18446744073709551616:=by
  unfold IntKind.wrap
  simp[IntKind.bits,IntKind.signed]
 rw[h]
 split<;>omega
theorem X037 (a b:Int):IntKind.i64.wrap (IntKind.i64.wrap a+b)=IntKind.i64.wrap (a+b):=by simp only[Xsu];omega
theorem X036 (a b:Int):IntKind.i64.wrap (a+IntKind.i64.wrap b)=IntKind.i64.wrap (a+b):=by simp only[Xsu];omega
def Xc4:X0q:=⟨0,0,0,0⟩
def ofA (v:Int):X0q:=⟨1,v,v,v⟩
theorem Xmv (v:Int):okA (ofA v):=.inr (.inl ⟨rfl,rfl,rfl⟩)
theorem Xko:okA Xc4:=.inl ⟨rfl,rfl⟩
theorem Xnj {a b:X0q} (h1:a.Count=b.Count) (h2:a.Sum=b.Sum) (h3:a.Min=b.Min) (h4:a.Max=b.Max):a=b:=by cases a;cases b;simp_all
theorem Xlc (a:X0q):X3t Xc4 a=a:=by unfold X3t;rw[if_pos (show Xc4.Count=0 from rfl)]
theorem Xhf {a:X0q} (h:okA a):X3t a Xc4=a:=by
 unfold X3t
 by_cases h0:a.Count=0
 ·rw[if_pos h0]
  rcases h with ⟨_,h⟩|⟨h,_⟩|⟨h,_⟩
  ·exact h.symm
  ·omega
  ·omega
 ·rw[if_neg h0,if_pos (show Xc4.Count=0 from rfl)]
theorem Xrm {a b:X0q} (ha:okA a) (hb:okA b):X3t a b=X3t b a:=by
 by_cases h1:a.Count=0
 ·have:a=Xc4:=by
   rcases ha with ⟨_,h⟩|⟨h,_⟩|⟨h,_⟩
   ·exact h
   ·omega
   ·omega
  rw[this,Xlc,Xhf hb]
 ·by_cases h2:b.Count=0
  ·have:b=Xc4:=by
    rcases hb with ⟨_,h⟩|⟨h,_⟩|⟨h,_⟩
    ·exact h
    ·omega
    ·omega
   rw[this,Xlc,Xhf ha]
  ·unfold X3t
   rw[if_neg h1,if_neg h2,if_neg h2,if_neg h1]
   apply Xnj
   ·show a.Count+b.Count=b.Count+a.Count;omega
   ·show IntKind.i64.wrap (a.Sum+b.Sum)=IntKind.i64.wrap (b.Sum+a.Sum);rw[Int.add_comm]
   ·show(if b.Min<a.Min then b.Min else a.Min)=(if a.Min<b.Min then a.Min else b.Min);split<;>split<;>omega
   ·show(if b.Max>a.Max then b.Max else a.Max)=(if a.Max>b.Max then a.Max else b.Max);split<;>split<;>omega
theorem Xe4 {a b c:X0q} (ha:0<=a.Count) (hb:0<=b.Count) (hc:0<=c.Count):X3t (X3t a b) c=X3t a (X3t b c):=by
 by_cases h1:a.Count=0
 ·have e:∀ x,X3t a x=x:=fun x=>by unfold X3t;rw[if_pos h1]
  rw[e,e]
 ·by_cases h2:b.Count=0
  ·have e1:X3t a b=a:=by unfold X3t;rw[if_neg h1,if_pos h2]
   have e2:X3t b c=c:=by unfold X3t;rw[if_pos h2]
   rw[e1,e2]
  ·by_cases h3:c.Count=0
   ·have e:∀ x:X0q,x.Count≠0->X3t x c=x:=fun x hx=>by unfold X3t;rw[if_neg hx,if_pos h3]
    have hab:(X3t a b).Count≠0:=by unfold X3t;rw[if_neg h1,if_neg h2];show a.Count+b.Count≠0;omega
    rw[e _ hab,e _ h2]
   ·have e:∀ x y:X0q,x.Count≠0->y.Count≠0->X3t x y=⟨x.Count+y.Count,IntKind.i64.wrap (x.Sum+y.Sum),if y.Min<x.Min then y.Min else x.Min,if y.Max>x.Max then y.Max else x.Max⟩:=fun x y hx hy=>by unfold X3t;rw[if_neg hx,if_neg hy]
    rw[e a b h1 h2,e b c h2 h3,e _ c (by show a.Count+b.Count≠0;omega) h3,e a _ h1 (by show b.Count+c.Count≠0;omega)]
    apply Xnj
    ·show a.Count+b.Count+c.Count=a.Count+(b.Count+c.Count);omega
    ·show IntKind.i64.wrap (IntKind.i64.wrap (a.Sum+b.Sum)+c.Sum)=IntKind.i64.wrap (a.Sum+IntKind.i64.wrap (b.Sum+c.Sum));rw[X037,X036,Int.add_assoc]
    ·dsimp only;repeat' split<;>first|rfl|omega
    ·dsimp only;repeat' split<;>first|rfl|omega
def Xdh (l:List Int):X0q:=l.foldl (fun a v=>X3t a (ofA v)) Xc4
theorem Xcx (l:List Int) (v:Int):Xdh (l++[v])=X3t (Xdh l) (ofA v):=by unfold Xdh;rw[List.foldl_append];rfl
theorem Xm5:Xdh []=Xc4:=rfl
theorem Xdg (v:Int):Xdh [v]=ofA v:=Xlc _
theorem X3i:∀ (l:List Int),(Xdh l).Count=l.length:=by
 have key:∀ (l:List Int) (a:X0q),0<=a.Count->(l.foldl (fun a v=>X3t a (ofA v)) a).Count=a.Count+l.length:=by
  intro l
  induction l with
  |nil=>intro a _;simp
  |cons v l ih =>
   intro a ha
   have h1:(X3t a (ofA v)).Count=a.Count+1:=by
    unfold X3t
    by_cases h:a.Count=0
    ·rw[if_pos h,h];rfl
    ·rw[if_neg h,if_neg (by show ¬ (1:Int)=0;omega)];rfl
   rw[List.foldl_cons,ih _ (by omega),h1];simp;omega
 intro l
 rw[Xdh,key l Xc4 (Int.le_refl _)]
 show(0:Int)+_=_;omega
theorem Xj9:∀ {l:List Int},l.length<=1073741824->okA (Xdh l):=by
 have key:∀ (n:Nat) (l:List Int),l.length=n->n<=1073741824->okA (Xdh l):=by
  intro n
  induction n with
  |zero=>intro l hl _;rw[List.eq_nil_of_length_eq_zero hl];exact Xko
  |succ n ih =>
   intro l hl hn
   have hne:l≠[]:=fun h=>by rw[h] at hl;cases hl
   have hd:l.dropLast.length=n:=by rw[List.length_dropLast];omega
   rw[<-List.dropLast_concat_getLast hne,Xcx]
   refine Xxu (ih _ hd (by omega)) (Xmv _) ?_
   rw[X3i,hd]
   show(n:Int)+1<=_;omega
 intro l h
 exact key l.length l rfl h
theorem X6k:∀ (b a:List Int),Xdh (a++b)=X3t (Xdh a) (Xdh b):=by
 have key:∀ (n:Nat) (b a:List Int),b.length=n->Xdh (a++b)=X3t (Xdh a) (Xdh b):=by
  intro n
  induction n with
  |zero =>
   intro b a hb
   rw[List.eq_nil_of_length_eq_zero hb,List.append_nil,Xm5]
   by_cases h0:(Xdh a).Count=0
   ·have:a=[]:=List.eq_nil_of_length_eq_zero (by rw[X3i] at h0;omega)
    rw[this];rfl
   ·unfold X3t;rw[if_neg h0,if_pos (show Xc4.Count=0 from rfl)]
  |succ n ih =>
   intro b a hb
   have hne:b≠[]:=fun h=>by rw[h] at hb;cases hb
   have hd:b.dropLast.length=n:=by rw[List.length_dropLast];omega
   rw[<-List.dropLast_concat_getLast hne,<-List.append_assoc,Xcx,Xcx,ih _ _ hd]
   exact Xe4 (by rw[X3i];omega) (by rw[X3i];omega) (by show(0:Int)<=1;decide)
 intro b a
 exact key b.length b a rfl
theorem Xnk {a b:List Int} (h:a.Perm b):a.length<=1073741824->Xdh a=Xdh b:=by
 induction h with
 |nil=>intro _;rfl
 |@cons x l1 l2 h ih =>
  intro hl
  have:=ih (by simp at hl;omega)
  rw[show x::l1=[x]++l1 from rfl,show x::l2=[x]++l2 from rfl,X6k,X6k,this]
 |swap x y l =>
  intro hl
  rw[show y::x::l=[y]++([x]++l) from rfl,show x::y::l=[x]++([y]++l) from rfl,X6k,X6k,X6k,X6k,Xdg,Xdg]
  rw[<-Xe4 (by show(0:Int)<=1;decide) (by show(0:Int)<=1;decide) (by rw[X3i];omega),Xrm (Xmv y) (Xmv x),Xe4 (by show(0:Int)<=1;decide) (by show(0:Int)<=1;decide) (by rw[X3i];omega)]
 |trans h1 _ ih1 ih2=>intro hl;rw[ih1 hl,ih2 (by rw[<-h1.length_eq];exact hl)]
abbrev Pu:=Xe×Int
def inS (s:X06) (t:Int):Prop:=s.Start<=t/\t<s.End
instance (s:X06) (t:Int):Decidable (inS s t):=by unfold inS;infer_instance
def vals (L:List Pu) (k:Int) (s:X06) (side:Int):List Int:=(L.filter fun p=>decide (p.1.Key=k/\inS s p.1.Time/\p.2=side)).map fun p=>p.1.Value
def X92 (L:List Pu) (k t:Int):Prop:=∃ p∈L,p.1.Key=k/\p.1.Time=t
def Xn1 (size every t:Int) (s:X06):Prop:=s.Start % every=0/\s.End=s.Start+size/\inS s t
def cov (size:Int) (T:Int->Prop) (x:Int):Prop:=∃ t,T t/\2*t<x/\x<2*(t+size)
def Xi9 (size:Int) (T:Int->Prop) (s:X06):Prop:=s.Start<s.End/\(∀ x,2*s.Start<x->x<2*s.End->cov size T x)/\¬ cov size T (2*s.Start)/\¬ cov size T (2*s.End)
def Xdv (w:X0y):Int:=if w.Kind=1 then w.Size else w.Every
def Xf9 (w:X0y) (T:Int->Prop) (s:X06):Prop:=if w.Kind=3 then Xi9 w.Size T s else ∃ t,T t/\Xn1 w.Size (Xdv w) t s
def Xey (L:List Pu) (k:Int) (s:X06):V2 X0q:=⟨Xdh (vals L k s 0),Xdh (vals L k s 1)⟩
def Xs6 (w:X0y) (L:List Pu) (e:X4):Prop:=Xf9 w (X92 L e.Key) e.Span/\e.Values=Xey L e.Key e.Span
structure Xf2 (w:X0y) (L:List Pu) (es:List X4):Prop where
 sorted:es.Pairwise ltE
 mem:∀ e,e∈es↔Xs6 w L e
 cover:w.Kind=3->∀ k t,X92 L k t->∃ e∈es,e.Key=k/\e.Span.Start<=t/\t+w.Size<=e.Span.End
theorem Xkx (L:List Pu) (k:Int) (s:X06) (side:Int):(vals L k s side).length<=L.length:=by unfold vals;rw[List.length_map];exact List.length_filter_le _ _
end Go.D


namespace Go.D
theorem Xnb (x y:X07):X78 x y=decide (x=y):=by
 obtain⟨a,b,c,d,e⟩:=x
 obtain⟨f,g,h,i,j⟩:=y
 rw[Bool.eq_iff_iff]
 simp[X78,and_assoc]
theorem Xl3 {α:Type} {l:List α} {k:Nat} (h:k<=l.length):X7h l 0 (k:Int)=some (l.take k):=by
 unfold X7h;rw[if_pos ⟨by omega,by omega,by simpa using h⟩];simp
theorem Xfc {α:Type} {l:List α} {k:Nat} (h:k<=l.length):X7h l (k:Int) (l.length:Int)=some (l.drop k):=by
 unfold X7h;rw[if_pos ⟨by omega,by omega,by simp⟩]
 simp only[Int.toNat_natCast]
 rw[List.take_of_length_le (by rw[List.length_drop];exact Nat.le_refl _)]
def okN (x:X07) (a b:Int):Prop:=1<=x.Kind/\x.Kind<=19/\0<=x.N/\(x.N=0\/x.Kind=1)/\0<=x.At/\x.At<=400/\x.A=a/\x.B=b
instance (x:X07) (a b:Int):Decidable (okN x a b):=by unfold okN;infer_instance
theorem Xl4 (x:X07) (a b:Int):X6i x a b=some (decide (okN x a b)):=by
 unfold X6i okN
 congr 1
 rw[Bool.eq_iff_iff]
 by_cases h1:1<=x.Kind<;>by_cases h2:x.Kind<=19<;>by_cases h3:0<=x.N<;>by_cases h4:x.N=0<;>by_cases h5:0<=x.At<;>by_cases h6:x.At<=400<;>simp[h1,h2,h3,h4,h5,h6,and_assoc]
def nst (sd:List (Nat×Nat)) (x:X07):Option (Nat×Nat) :=
 if x.Kind<=4 then (if okN x 0 0 then some (1,1) else none)
 else match sd.getLast? with
  |none=>none
  |some (s2,d2) =>
   if x.Kind<=6 then (if okN x ((sd.length:Int) - 1) 0 then some (1+s2,1+d2) else none)
   else if sd.length - 1<s2 then none
   else match sd[sd.length - 1 - s2]? with
    |none=>none
    |some (s1,d1)=>if okN x ((sd.length:Int) - 1 - s2) ((sd.length:Int) - 1) then some (1+s2+s1,max (1+d2) (1+d1)) else none
def Xkc:List X07->List (Nat×Nat)->Option (List (Nat×Nat))
 |[],sd=>some sd
 |x::xs,sd=>match nst sd x with
  |some q=>Xkc xs (sd++[q])
  |none=>none
def X88 (j:Nat) (q:Nat×Nat):Xf:=⟨(j:Int),(q.1:Int),(q.2:Int)⟩
inductive Xar (sd:List (Nat×Nat)):Nat->List Xf->Prop
 |nil:Xar sd 0 []
 |snoc {j:Nat} {q:Nat×Nat} {st:List Xf} (hq:sd[j]?=some q) (h1:1<=q.1) (h2:q.1<=j+1) (h3:q.2<=q.1) (h:Xar sd (j+1 - q.1) st):Xar sd (j+1) (st++[X88 j q])
theorem Xar.more {sd sd':List (Nat×Nat)} {k:Nat} {st:List Xf} (h:Xar sd k st) (hs:∀ j,j<k->sd'[j]?=sd[j]?):Xar sd' k st:=by
 induction h with
 |nil=>exact .nil
 |@snoc j q st hq h1 h2 h3 _ ih=>exact .snoc (by rw[hs j (by omega)];exact hq) h1 h2 h3 (ih fun i hi=>hs i (by omega))
theorem Xar.app {sd e:List (Nat×Nat)} {k:Nat} {st:List Xf} (h:Xar sd k st) (hk:k<=sd.length):Xar (sd++e) k st:=h.more fun j hj=>List.getElem?_append_left (by omega)
theorem Xar.len {sd:List (Nat×Nat)} {k:Nat} {st:List Xf} (h:Xar sd k st):st.length<=k:=by
 induction h with
 |nil=>simp
 |snoc hq h1 h2 h3 _ ih=>simp;omega
theorem Xj7 {k:Nat} (h:1<=k) (hk:k<=1000000):IntKind.i64.wrap ((k:Int) - 1)=((k - 1:Nat):Int):=by rw[X0e (by omega) (by omega)];omega
theorem Xxi {x:X07} (h0:0<=x.Kind):X9r x.Kind=some (if 1<=x.Kind/\x.Kind<=19 then ((if x.Kind<=4 then 0 else if x.Kind<=6 then 1 else 2),0) else (0,2)):=by
 unfold X9r
 by_cases h1:1<=x.Kind
 ·by_cases h4:x.Kind<=4
  ·simp[h1,h4,show x.Kind<=19 by omega]
  ·by_cases h6:x.Kind<=6
   ·have:(bif x.Kind==5 then true else x.Kind==6)=true:=by
     rcases(by omega:x.Kind=5\/x.Kind=6) with h|h<;>simp[h]
    simp[h1,h4,h6,this,show x.Kind<=19 by omega]
   ·have e5:(bif x.Kind==5 then true else x.Kind==6)=false:=by
     have a:(x.Kind==5)=false:=by simp;omega
     have b:(x.Kind==6)=false:=by simp;omega
     rw[a,b];rfl
    by_cases h19:x.Kind<=19
    ·simp[h1,h4,h6,e5,h19,show(7:Int)<=x.Kind by omega]
    ·simp[h1,h4,h6,e5,h19]
 ·have e:x.Kind=0:=by omega
  simp[e]
theorem Xtn {x : X07} {a b : Int} (h1 : 1 <= x.Kind) (h2 : x.Kind <= 19) :
    ((bif (x.Kind==(1:Int)) then (some (X07.mk x.Kind (if 0>x.N then 0 else x.N) a b (if 400<(if 0>x.At then 0 else x.At) then 400 else (if 0>x.At then 0 else x.At)))) else (some (X07.mk x.Kind 0 a b (if 400<(if 0>x.At then 0 else x.At) then 400 else (if 0>x.At then 0 else x.At)))):Option (X07)).bind fun o=>some (X78 o x))=some (decide (okN x a b)):=by
  obtain⟨K,N,A,B,At⟩:=x
  have hat:((if 400<(if 0>At then 0 else At) then 400 else (if 0>At then 0 else At))=At)↔(0<=At/\At<=400):=by
    by_cases g1:0>At
    · rw[if_pos g1];constructor
      · intro h;exfalso;split at h<;>omega
      · intro h;omega
    · rw[if_neg g1];split<;>omega
  have hn:((if 0>N then 0 else N)=N)↔0<=N:=by split<;>omega
  have key:∀ n':Int,(n'=N↔(0<=N/\(N=0\/K=1)))->(some (X78 (X07.mk K n' a b (if 400<(if 0>At then 0 else At) then 400 else (if 0>At then 0 else At))) ⟨K,N,A,B,At⟩):Option Bool)=some (decide (okN ⟨K,N,A,B,At⟩ a b)):=by
    intro n' hn'
    rw[Xnb]
    congr 1
    apply decide_eq_decide.2
    rw[X07.mk.injEq,hat,hn']
    unfold okN
    constructor
    · rintro⟨_,⟨g1,g2⟩,hA,hB,g3,g4⟩
      exact⟨h1,h2,g1,g2,g3,g4,hA.symm,hB.symm⟩
    · rintro⟨_,_,g1,g2,g3,g4,hA,hB⟩
      exact⟨rfl,⟨g1,g2⟩,hA.symm,hB.symm,g3,g4⟩
  by_cases hk:K=1
  · have:(K==1)=true:=by simp[hk]
    show(Option.bind (bif (K==1) then _ else _) _)=_
    rw[this,cond_true,Yo]
    exact key _ (by rw[hn];simp[hk])
  · have:(K==1)=false:=by simp[hk]
    show(Option.bind (bif (K==1) then _ else _) _)=_
    rw[this,cond_false,Yo]
    exact key _ (by constructor
                    · intro h;omega
                    · rintro⟨_,h⟩;rcases h with h|h<;>omega)
theorem Xm2 {β:Type} {o:Option X07} {x:X07} {d:Bool} {f g:Option β} (h:(o.bind fun z=>some (X78 z x))=some d):(o.bind fun z=>bif (!(X78 z x)) then f else g)=bif d then g else f:=by
 cases o with
 |none=>cases h
 |some z =>
  simp only[Yo,Option.some.injEq] at h
  rw[Yo,h];cases d<;>rfl
def X6l (sd:List (Nat×Nat)):List Xf:=sd.mapIdx X88
theorem Xnx (sd:List (Nat×Nat)) (q:Nat×Nat):X6l (sd++[q])=X6l sd++[X88 sd.length q]:=by unfold X6l;simp
theorem Xr2 (sd:List (Nat×Nat)):(X6l sd).length=sd.length:=by unfold X6l;simp
theorem Xar.inv {sd:List (Nat×Nat)} {k:Nat} {st:List Xf} (h:Xar sd k st) (hk:0<k):∃ q st0,sd[k - 1]?=some q/\1<=q.1/\q.1<=k/\q.2<=q.1/\Xar sd (k - q.1) st0/\st=st0++[X88 (k - 1) q]:=by
 cases h with
 |nil=>omega
 |@snoc j q st0 hq h1 h2 h3 h=>exact⟨q,st0,hq,h1,h2,h3,h,rfl⟩
theorem Xar.zero {sd:List (Nat×Nat)} {st:List Xf} (h:Xar sd 0 st):st=[]:=by
 cases h;rfl
theorem Xzt (Y : List X07) : ∀ (xs : List X07) (sd : List (Nat × Nat)) (st : List Xf), (∀ x ∈ xs, 0 <= x.Kind) -> sd.length + xs.length <= 1000 -> Xar sd sd.length st -> (∀ j q, sd[j]? = some q -> 1 <= q.1 /\ q.1 <= j + 1 /\ q.2 <= q.1) ->
    match Xkc xs sd with
    |some sd'=>∃ st',X26 Y xs sd.length (X6l sd) st=some (.x0 (X6l sd') st')/\Xar sd' sd'.length st'
    |none=>∃ all,X26 Y xs sd.length (X6l sd) st=some (.x1 all):=by
  intro xs
  induction xs with
  |nil=>intro sd st _ _ hc _;exact⟨st,rfl,hc⟩
  |cons x xs ih =>
    intro sd st h0 hn hc hb
    simp only[List.length_cons] at hn
    have hx:=h0 x List.mem_cons_self
    rw[X26,Xxi hx]
    have go : ∀ (q : Nat × Nat) (st0 : List Xf), nst sd x = some q -> Xar (sd ++ [q]) (sd.length + 1) (st0 ++ [X88 sd.length q]) -> 1 <= q.1 -> q.1 <= sd.length + 1 -> q.2 <= q.1 ->
        (match Xkc (x::xs) sd with
          |some sd'=>∃ st',X26 Y xs (sd.length+1) (X6l sd++[X88 sd.length q]) (st0++[X88 sd.length q])=some (.x0 (X6l sd') st')/\Xar sd' sd'.length st'
          |none=>∃ all,X26 Y xs (sd.length+1) (X6l sd++[X88 sd.length q]) (st0++[X88 sd.length q])=some (.x1 all)):=by
      intro q st0 hq hc2 g1 g2 g3
      have:=ih (sd++[q]) (st0++[X88 sd.length q]) (fun y hy=>h0 y (List.mem_cons_of_mem _ hy)) (by simp;omega) (by simpa using hc2) (fun j q' hj=>by
        rw[List.getElem?_append] at hj
        split at hj
        · exact hb j q' hj
        · rename_i hlt
          have:j=sd.length:=by
            have:=(Ys.1 hj).1;simp at this;omega
          subst this
          simp at hj;subst hj;exact⟨g1,g2,g3⟩)
      rw[Xnx,List.length_append] at this
      unfold Xkc
      rw[hq]
      exact this
    have stop:nst sd x=none->∀ {o:Option X59},(∃ all,o=some (.x1 all))->(match Xkc (x::xs) sd with
          |some sd'=>∃ st',o=some (.x0 (X6l sd') st')/\Xar sd' sd'.length st'
          |none=>∃ all,o=some (.x1 all)):=by
      intro hq o h
      unfold Xkc
      rw[hq];exact h
    have cap:∀ (l:List Xf) (t:Xf),l.length<=2000->X2f (List.length (l++[t])) 24=some ():=fun l t hl=>X4o (by simp;omega)
    have hla:(X6l sd).length<=2000:=by unfold X6l;simp;omega
    have hst:=hc.len
    by_cases hr:1<=x.Kind/\x.Kind<=19
    · rw[if_pos hr]
      simp only[Yo,bne_self_eq_false,cond_false]
      by_cases h4:x.Kind<=4
      · -- no parts
        have e1:decide ((if x.Kind<=4 then (0:Int) else if x.Kind<=6 then 1 else 2)>(st.length:Int))=false:=by rw[if_pos h4];simp
        rw[e1,cond_false,if_pos h4]
        have e2:IntKind.i64.wrap ((st.length:Int) - 0)=(st.length:Int):=by rw[X0e (by omega) (by omega)];omega
        rw[e2,Xl3 (Nat.le_refl _),Xfc (Nat.le_refl _),List.take_length,List.drop_length]
        simp only[Yo,List.isEmpty_nil,cond_true]
        rw[Xm2 (Xtn hr.1 hr.2)]
        by_cases hok:okN x 0 0
        · rw[Yt hok,cond_true,cap st _ (by omega),cap _ _ hla]
          exact go (1,1) st (by unfold nst;rw[if_pos h4,if_pos hok]) (.snoc (by simp) (Nat.le_refl _) (by omega) (Nat.le_refl _) (by simpa using hc.app (Nat.le_refl _))) (Nat.le_refl _) (by omega) (Nat.le_refl _)
        · rw[Yf hok,cond_false]
          exact stop (by unfold nst;rw[if_pos h4,if_neg hok]) ⟨_,rfl⟩
      · have hgl:0<sd.length->∃ q,sd.getLast?=some q/\sd[sd.length - 1]?=some q:=by
          intro h
          refine⟨sd[sd.length - 1]'(by omega),?_,?_⟩
          · rw[List.getLast?_eq_getElem?];exact Ye _
          · exact Ye _
        by_cases h6:x.Kind<=6
        · -- one part
          rw[if_neg h4,if_pos h6]
          by_cases hl:sd.length=0
          · rw[hl] at hc
            have:=hc.zero;subst this
            simp only[List.length_nil]
            exact stop (by unfold nst;rw[if_neg h4,List.eq_nil_of_length_eq_zero hl];rfl) ⟨_,rfl⟩
          · obtain⟨q,st0,hq,g1,g2,g3,hc0,rfl⟩:=hc.inv (by omega)
            obtain⟨q',hq1,hq2⟩:=hgl (by omega)
            rw[hq] at hq2;cases hq2
            have hs0:=hc0.len
            have e1:decide ((1:Int)>((st0++[X88 (sd.length - 1) q]).length:Int))=false:=by simp;omega
            rw[e1,cond_false]
            have e2:IntKind.i64.wrap (((st0++[X88 (sd.length - 1) q]).length:Int) - 1)=(st0.length:Int):=by
              rw[X0e (by rw[List.length_append,List.length_singleton];omega) (by rw[List.length_append,List.length_singleton];omega),List.length_append,List.length_singleton];omega
            rw[e2,Xl3 (by simp),Xfc (by simp),List.take_left,List.drop_left]
            simp only[Yo,List.isEmpty_cons,cond_false,List.length_singleton]
            rw[show(((1:Nat):Int)==1)=true from rfl,cond_true]
            rw[show X32 [X88 (sd.length - 1) q] 0=some (X88 (sd.length - 1) q) from rfl,Yo]
            rw[Xm2 (Xtn hr.1 hr.2)]
            have ea:(X88 (sd.length - 1) q).at_=(sd.length:Int) - 1:=by unfold X88;simp only;omega
            rw[ea]
            by_cases hok:okN x ((sd.length:Int) - 1) 0
            · have e3:(Xf.mk (sd.length:Int) (IntKind.i64.wrap (1+(X88 (sd.length - 1) q).size)) (if (IntKind.i64.wrap ((X88 (sd.length - 1) q).depth+1))>1 then (IntKind.i64.wrap ((X88 (sd.length - 1) q).depth+1)) else 1))=X88 sd.length (1+q.1,1+q.2):=by
                unfold X88
                simp only
                rw[X0e (by omega) (by omega),X0e (by omega) (by omega)]
                congr 1
                split<;>omega
              rw[Yt hok,cond_true,e3,cap st0 _ (by omega),cap _ _ hla]
              refine go (1+q.1,1+q.2) st0 (by unfold nst;rw[if_neg h4,hq1];simp only;rw[if_pos h6,if_pos hok]) (.snoc (by simp) (by simp only;omega) (by simp only;omega) (by simp only;omega) ?_) (by simp only;omega) (by simp only;omega) (by simp only;omega)
              have:=hc0.app (e:=[(1+q.1,1+q.2)]) (by omega)
              simp only
              rw[show sd.length+1 - (1+q.1)=sd.length - q.1 by omega];exact this
            · rw[Yf hok,cond_false]
              exact stop (by unfold nst;rw[if_neg h4,hq1];simp only;rw[if_pos h6,if_neg hok]) ⟨_,rfl⟩
        · -- two parts
          rw[if_neg h4,if_neg h6]
          by_cases hl:sd.length=0
          · rw[hl] at hc
            have:=hc.zero;subst this
            simp only[List.length_nil]
            exact stop (by unfold nst;rw[if_neg h4,List.eq_nil_of_length_eq_zero hl];rfl) ⟨_,rfl⟩
          · obtain⟨q,st1,hq,g1,g2,g3,hc1,rfl⟩:=hc.inv (by omega)
            obtain⟨q',hq1,hq2⟩:=hgl (by omega)
            rw[hq] at hq2;cases hq2
            by_cases hl1:sd.length - q.1=0
            · rw[hl1] at hc1
              have:=hc1.zero;subst this
              exact stop (by unfold nst;rw[if_neg h4,hq1];simp only;rw[if_neg h6,if_pos (by omega)]) ⟨_,rfl⟩
            · obtain⟨p,st0,hp,f1,f2,f3,hc0,rfl⟩:=hc1.inv (by omega)
              have hs0:=hc0.len
              rw[List.append_assoc]
              have e1:decide ((2:Int)>((st0++([X88 (sd.length - q.1 - 1) p]++[X88 (sd.length - 1) q])).length:Int))=false:=by simp;omega
              rw[e1,cond_false]
              have e2:IntKind.i64.wrap (((st0++([X88 (sd.length - q.1 - 1) p]++[X88 (sd.length - 1) q])).length:Int) - 2)=(st0.length:Int):=by
                rw[X0e (by simp only[List.length_append,List.length_singleton];omega) (by simp only[List.length_append,List.length_singleton];omega)];simp only[List.length_append,List.length_singleton];omega
              rw[e2,Xl3 (by simp),Xfc (by simp),List.take_left,List.drop_left]
              simp only[Yo,List.singleton_append,List.isEmpty_cons,cond_false,List.length_cons,List.length_nil]
              rw[show((((0:Nat)+1+1:Nat):Int)==1)=false from rfl,show((((0:Nat)+1+1:Nat):Int)==2)=true from rfl,cond_false,cond_true]
              rw[show X32 [X88 (sd.length - q.1 - 1) p,X88 (sd.length - 1) q] 0=some (X88 (sd.length - q.1 - 1) p) from rfl,show X32 [X88 (sd.length - q.1 - 1) p,X88 (sd.length - 1) q] 1=some (X88 (sd.length - 1) q) from rfl,Yo,Yo]
              rw[Xm2 (Xtn hr.1 hr.2)]
              have ea:(X88 (sd.length - 1) q).at_=(sd.length:Int) - 1:=by unfold X88;simp only;omega
              have eb:(X88 (sd.length - q.1 - 1) p).at_=(sd.length:Int) - 1 - q.1:=by unfold X88;simp only;omega
              rw[ea,eb]
              have hp':sd[sd.length - 1 - q.1]?=some p:=by rw[show sd.length - 1 - q.1=sd.length - q.1 - 1 by omega];exact hp
              by_cases hok:okN x ((sd.length:Int) - 1 - q.1) ((sd.length:Int) - 1)
              · have e3:(Xf.mk (sd.length:Int) (IntKind.i64.wrap ((IntKind.i64.wrap (1+(X88 (sd.length - q.1 - 1) p).size))+(X88 (sd.length - 1) q).size)) (if (IntKind.i64.wrap ((X88 (sd.length - 1) q).depth+1))>(if (IntKind.i64.wrap ((X88 (sd.length - q.1 - 1) p).depth+1))>1 then (IntKind.i64.wrap ((X88 (sd.length - q.1 - 1) p).depth+1)) else 1) then (IntKind.i64.wrap ((X88 (sd.length - 1) q).depth+1)) else (if (IntKind.i64.wrap ((X88 (sd.length - q.1 - 1) p).depth+1))>1 then (IntKind.i64.wrap ((X88 (sd.length - q.1 - 1) p).depth+1)) else 1)))=X88 sd.length (1+q.1+p.1,max (1+q.2) (1+p.2)):=by
                  unfold X88
                  simp only
                  rw[X0e (z:=1+(p.1:Int)) (by omega) (by omega),X0e (by omega) (by omega),X0e (by omega) (by omega),X0e (by omega) (by omega)]
                  congr 1
                  · push_cast;omega
                  · split<;>split<;>omega
                rw[Yt hok,cond_true,e3,cap st0 _ (by omega),cap _ _ hla]
                refine go (1+q.1+p.1,max (1+q.2) (1+p.2)) st0 (by unfold nst;rw[if_neg h4,hq1];simp only;rw[if_neg h6,if_neg (by omega),hp'];simp only;rw[if_pos hok]) (.snoc (by simp) (by simp only;omega) (by simp only;omega) (by simp only;omega) ?_) (by simp only;omega) (by simp only;omega) (by simp only;omega)
                have:=hc0.app (e:=[(1+q.1+p.1,max (1+q.2) (1+p.2))]) (by omega)
                simp only
                rw[show sd.length+1 - (1+q.1+p.1)=sd.length - q.1 - p.1 by omega];exact this
              · rw[Yf hok,cond_false]
                exact stop (by unfold nst;rw[if_neg h4,hq1];simp only;rw[if_neg h6,if_neg (by omega),hp'];simp only;rw[if_neg hok]) ⟨_,rfl⟩
    · rw[if_neg hr]
      have hno:nst sd x=none:=by
        have no:∀ a b,¬ okN x a b:=fun a b h=>hr ⟨h.1,h.2.1⟩
        unfold nst
        simp only[no,if_false]
        split
        · rfl
        · split
          · rfl
          · split
            · rfl
            · split
              · rfl
              · split<;>rfl
      exact stop hno ⟨_,rfl⟩
def Xc2 (l:List X07):Int :=
 if l.length>60 then 4 else match Xkc l [] with
  |none=>8
  |some sd=>match sd.getLast? with
   |none=>8
   |some q=>if q.1=l.length then (if q.2>20 then 34 else 0) else 8
theorem Xhc:∀ (xs:List X07) (sd sd':List (Nat×Nat)),Xkc xs sd=some sd'->sd'.length=sd.length+xs.length
 |[],sd,sd',h=>by cases h;simp
 |x::xs,sd,sd',h=>by
  unfold Xkc at h
  split at h
  ·have:=Xhc xs _ _ h;simp at this;simp;omega
  ·cases h
theorem Xr3 {sd:List (Nat×Nat)} {i:Nat} {q:Nat×Nat} (h:sd[i]?=some q):X32 (X6l sd) (i:Int)=some (X88 i q):=by
 rw[X49];unfold X6l;rw[List.getElem?_mapIdx,h];rfl
theorem Xjs {l:List X07} (h0:∀ x∈l,0<=x.Kind):∃ t,X9q l=some (t,Xc2 l)/\(Xc2 l=0->∃ sd,Xkc l []=some sd/\t=X6l sd):=by
 unfold X9q Xc2
 by_cases h60:l.length>60
 ·rw[Yt (show(l.length:Int)>60 by omega),cond_true,if_pos h60];exact⟨_,rfl,by omega⟩
 ·rw[Yf (show ¬ (l.length:Int)>60 by omega),cond_false,if_neg h60]
  have hL:=Xzt l l [] [] h0 (by simp;omega) .nil (by simp)
  unfold Xd1
  rw[X35 (by omega)]
  cases hr:Xkc l [] with
  |none =>
   rw[hr] at hL
   obtain⟨all,hL⟩:=hL
   simp only[List.length_nil] at hL
   rw[show X6l []=[] from rfl] at hL
   rw[hL]
   exact⟨_,rfl,by simp⟩
  |some sd =>
   rw[hr] at hL
   obtain⟨st,hL,hc⟩:=hL
   simp only[List.length_nil] at hL
   rw[show X6l []=[] from rfl] at hL
   rw[hL]
   have hn:=Xhc l [] sd hr
   simp only[List.length_nil,Nat.zero_add] at hn
   simp only[Yo]
   by_cases hz:sd.length=0
   ·have:sd=[]:=List.eq_nil_of_length_eq_zero hz
    subst this
    have:=hc.zero;subst this
    exact⟨_,rfl,by simp⟩
   ·obtain⟨q,st0,hq,g1,g2,g3,hc0,rfl⟩:=hc.inv (by omega)
    have hg:sd.getLast?=some q:=by rw[List.getLast?_eq_getElem?];exact hq
    rw[hg]
    simp only
    have hst:(((st0++[X88 (sd.length - 1) q]).length:Int)==1)=decide (q.1=l.length):=by
     rw[Bool.eq_iff_iff]
     simp only[List.length_append,List.length_singleton,beq_iff_eq,decide_eq_true_eq]
     constructor
     ·intro h
      have h1:st0.length=0:=by omega
      by_cases hk:sd.length - q.1=0
      ·omega
      ·obtain⟨_,s1,_,_,_,_,_,rfl⟩:=hc0.inv (by omega)
       simp at h1
     ·intro h
      rw[show sd.length - q.1=0 by omega] at hc0
      rw[hc0.zero];rfl
    rw[hst]
    by_cases he:q.1=l.length
    ·rw[Yt he,if_pos he]
     simp only[Bool.not_true,cond_false]
     rw[show IntKind.i64.wrap (((X6l sd).length:Int) - 1)=((sd.length - 1:Nat):Int) by rw[Xr2,Xj7 (by omega) (by omega)]]
     rw[Xr3 hq,Yo]
     by_cases hd:q.2>20
     ·rw[if_pos hd,show decide ((X88 (sd.length - 1) q).depth>20)=true from Yt (by unfold X88;simp only;omega)]
      exact⟨_,rfl,by simp⟩
     ·rw[if_neg hd,show decide ((X88 (sd.length - 1) q).depth>20)=false from Yf (by unfold X88;simp only;omega)]
      exact⟨_,rfl,fun _=>⟨sd,rfl,rfl⟩⟩
    ·rw[Yf he,if_neg he]
     exact⟨_,rfl,by simp⟩
theorem Xam {l:List X07} (h0:∀ x∈l,0<=x.Kind):X5a l=some (Xc2 l):=by
 obtain⟨t,h,_⟩:=Xjs h0
 unfold X5a;rw[h];rfl
def szs (sd:List (Nat×Nat)):List Int:=sd.map fun q=>(q.1:Int)
def dps (sd:List (Nat×Nat)):List Int:=sd.map fun q=>(q.2:Int)
theorem Xnz {sd:List (Nat×Nat)} {i:Nat} {q:Nat×Nat} (h:sd[i]?=some q):X32 (szs sd) (i:Int)=some (q.1:Int):=by
 rw[X49];unfold szs;rw[List.getElem?_map,h];rfl
theorem Xpo {sd:List (Nat×Nat)} {i:Nat} {q:Nat×Nat} (h:sd[i]?=some q):X32 (dps sd) (i:Int)=some (q.2:Int):=by
 rw[X49];unfold dps;rw[List.getElem?_map,h];rfl
theorem Xx2 (Y : List X07) : ∀ (xs : List X07) (sd : List (Nat × Nat)), sd.length + xs.length <= 1000 -> (∀ j q, sd[j]? = some q -> 1 <= q.1 /\ q.1 <= j + 1 /\ q.2 <= q.1) ->
    match Xkc xs sd with
    |some sd'=>X1n Y xs sd.length (szs sd) (dps sd)=some (.x0 (szs sd') (dps sd'))
    |none=>X1n Y xs sd.length (szs sd) (dps sd)=some (.x1 [] []):=by
  intro xs
  induction xs with
  |nil=>intro sd _ _;rfl
  |cons x xs ih =>
    intro sd hn hb
    simp only[List.length_cons] at hn
    rw[X1n]
    have go : ∀ (q : Nat × Nat), nst sd x = some q -> 1 <= q.1 -> q.1 <= sd.length + 1 -> q.2 <= q.1 ->
        (match Xkc (x::xs) sd with
          |some sd'=>X1n Y xs (sd.length+1) (szs sd++[(q.1:Int)]) (dps sd++[(q.2:Int)])=some (.x0 (szs sd') (dps sd'))
          |none=>X1n Y xs (sd.length+1) (szs sd++[(q.1:Int)]) (dps sd++[(q.2:Int)])=some (.x1 [] [])):=by
      intro q hq g1 g2 g3
      have:=ih (sd++[q]) (by simp;omega) (fun j q' hj=>by
        rw[List.getElem?_append] at hj
        split at hj
        · exact hb j q' hj
        · rename_i hlt
          have:j=sd.length:=by
            have:=(Ys.1 hj).1;simp at this;omega
          subst this
          simp at hj;subst hj;exact⟨g1,g2,g3⟩)
      rw[List.length_append] at this
      unfold Xkc
      rw[hq]
      unfold szs dps at this ⊢
      rw[List.map_append,List.map_append] at this
      exact this
    have stop:nst sd x=none->∀ {o:Option X4r},o=some (.x1 [] [])->(match Xkc (x::xs) sd with
          |some sd'=>o=some (.x0 (szs sd') (dps sd'))
          |none=>o=some (.x1 [] [])):=by
      intro hq o h
      unfold Xkc
      rw[hq];exact h
    have cap:∀ (l:List Int) (t:Int),l.length<=2000->X2f (List.length (l++[t])) 8=some ():=fun l t hl=>X4o (by simp;omega)
    have hls:(szs sd).length<=2000:=by unfold szs;simp;omega
    have hld:(dps sd).length<=2000:=by unfold dps;simp;omega
    unfold Xbj
    by_cases h4:x.Kind<=4
    · rw[Yt h4,cond_true]
      simp only[Yo]
      rw[show decide ((0:Int)>0)=false from rfl,cond_false,Xl4,Yo]
      by_cases hok:okN x 0 0
      · rw[Yt hok,Bool.not_true,cond_false,cap _ _ hls,cap _ _ hld]
        exact go (1,1) (by unfold nst;rw[if_pos h4,if_pos hok]) (Nat.le_refl _) (by omega) (Nat.le_refl _)
      · rw[Yf hok,Bool.not_false,cond_true]
        exact stop (by unfold nst;rw[if_pos h4,if_neg hok]) rfl
    · rw[Yf h4,cond_false]
      have hgl:0<sd.length->∃ q,sd.getLast?=some q/\sd[sd.length - 1]?=some q:=by
        intro h
        refine⟨sd[sd.length - 1]'(by omega),?_,?_⟩
        · rw[List.getLast?_eq_getElem?];exact Ye _
        · exact Ye _
      by_cases hl:sd.length=0
      · have hnil:=List.eq_nil_of_length_eq_zero hl
        refine stop (by unfold nst;rw[if_neg h4,hnil];rfl) ?_
        rw[hl]
        by_cases h6:x.Kind<=6
        · rw[Yt h6];rfl
        · rw[Yf h6];rfl
      · obtain⟨q,hq1,hq⟩:=hgl (by omega)
        obtain⟨g1,g2,g3⟩:=hb _ _ hq
        have hw:IntKind.i64.wrap ((sd.length:Int) - 1)=((sd.length - 1:Nat):Int):=Xj7 (by omega) (by omega)
        rw[hw]
        rw[show decide (((sd.length - 1:Nat):Int)<0)=false from Yf (by omega),Xnz hq,Xpo hq]
        simp only[cond_false]
        by_cases h6:x.Kind<=6
        · rw[Yt h6,cond_true]
          simp only[Yo]
          rw[show decide ((1:Int)>0)=true from rfl,cond_true,show((1:Int)==2)=false from rfl,cond_false,Xl4,Yo]
          rw[show((sd.length - 1:Nat):Int)=(sd.length:Int) - 1 by omega]
          by_cases hok:okN x ((sd.length:Int) - 1) 0
          · rw[Yt hok,Bool.not_true,cond_false,cap _ _ hls,cap _ _ hld]
            rw[X0e (by omega) (by omega),X0e (by omega) (by omega)]
            have:=go (1+q.1,1+q.2) (by unfold nst;rw[if_neg h4,hq1];simp only;rw[if_pos h6,if_pos hok]) (by simp only;omega) (by simp only;omega) (by simp only;omega)
            simp only at this
            push_cast at this
            exact this
          · rw[Yf hok,Bool.not_false,cond_true]
            exact stop (by unfold nst;rw[if_neg h4,hq1];simp only;rw[if_pos h6,if_neg hok]) rfl
        · rw[Yf h6,cond_false]
          simp only[Yo]
          rw[show decide ((2:Int)>0)=true from rfl,cond_true,show((2:Int)==2)=true from rfl,cond_true]
          have hw2:IntKind.i64.wrap (((sd.length - 1:Nat):Int) - q.1)=(sd.length:Int) - 1 - q.1:=by rw[X0e (by omega) (by omega)];omega
          rw[hw2]
          by_cases hlt:sd.length - 1<q.1
          · rw[show decide ((sd.length:Int) - 1 - q.1<0)=true from Yt (by omega),cond_true]
            exact stop (by unfold nst;rw[if_neg h4,hq1];simp only;rw[if_neg h6,if_pos hlt]) rfl
          · rw[show decide ((sd.length:Int) - 1 - q.1<0)=false from Yf (by omega),cond_false]
            have hpe:sd[sd.length - 1 - q.1]?=some (sd[sd.length - 1 - q.1]'(by omega)):=Ye _
            generalize sd[sd.length - 1 - q.1]'(by omega)=p at hpe
            obtain⟨f1,f2,f3⟩:=hb _ _ hpe
            rw[show(sd.length:Int) - 1 - q.1=((sd.length - 1 - q.1:Nat):Int) by omega,Xnz hpe,Xpo hpe]
            simp only[Yo]
            rw[Xl4,Yo]
            rw[show((sd.length - 1 - q.1:Nat):Int)=(sd.length:Int) - 1 - q.1 by omega,show((sd.length - 1:Nat):Int)=(sd.length:Int) - 1 by omega]
            by_cases hok:okN x ((sd.length:Int) - 1 - q.1) ((sd.length:Int) - 1)
            · rw[Yt hok,Bool.not_true,cond_false,cap _ _ hls,cap _ _ hld]
              rw[X0e (z:=1+(q.1:Int)) (by omega) (by omega),X0e (z:=1+(q.1:Int)+p.1) (by omega) (by omega),X0e (by omega) (by omega),X0e (by omega) (by omega)]
              have:=go (1+q.1+p.1,max (1+q.2) (1+p.2)) (by unfold nst;rw[if_neg h4,hq1];simp only;rw[if_neg h6,if_neg hlt,hpe];simp only;rw[if_pos hok]) (by simp only;omega) (by simp only;omega) (by simp only;omega)
              simp only at this
              rw[show((1+q.1+p.1:Nat):Int)=1+(q.1:Int)+p.1 by omega,show((max (1+q.2) (1+p.2):Nat):Int)=(if 1+(p.2:Int)>1+q.2 then 1+(p.2:Int) else 1+q.2) by split<;>omega] at this
              exact this
            · rw[Yf hok,Bool.not_false,cond_true]
              exact stop (by unfold nst;rw[if_neg h4,hq1];simp only;rw[if_neg h6,if_neg hlt,hpe];simp only;rw[if_neg hok]) rfl
theorem Xal {l:List X07}:X4k l=some (Xc2 l):=by
 unfold X4k Xc2
 by_cases h60:l.length>60
 ·rw[Yt (show(l.length:Int)>60 by omega),cond_true,if_pos h60]
 ·rw[Yf (show ¬ (l.length:Int)>60 by omega),cond_false,if_neg h60]
  have hL:=Xx2 l l [] (by simp;omega) (by simp)
  unfold Xbi
  rw[X35 (by omega)]
  cases hr:Xkc l [] with
  |none =>
   rw[hr] at hL
   simp only[List.length_nil] at hL
   rw[show szs []=[] from rfl,show dps []=[] from rfl] at hL
   rw[Yo,hL];rfl
  |some sd =>
   rw[hr] at hL
   simp only[List.length_nil] at hL
   rw[show szs []=[] from rfl,show dps []=[] from rfl] at hL
   rw[Yo,hL]
   have hn:=Xhc l [] sd hr
   simp only[List.length_nil,Nat.zero_add] at hn
   simp only[Yo]
   by_cases hz:l.length=0
   ·rw[List.eq_nil_of_length_eq_zero (hn.trans hz),List.eq_nil_of_length_eq_zero hz];rfl
   ·have hq:sd[sd.length - 1]?=some (sd[sd.length - 1]'(by omega)):=Ye _
    generalize sd[sd.length - 1]'(by omega)=q at hq
    have hg:sd.getLast?=some q:=by rw[List.getLast?_eq_getElem?];exact hq
    rw[hg]
    have hw:IntKind.i64.wrap ((l.length:Int) - 1)=((sd.length - 1:Nat):Int):=by rw[<-hn];exact Xj7 (by omega) (by omega)
    rw[show decide ((l.length:Int)>0)=true from Yt (by omega),cond_true,hw,Xnz hq]
    simp only[Yo,cond_true]
    rw[Xpo hq]
    by_cases he:q.1=l.length
    ·rw[if_pos he,show((q.1:Int)==(l.length:Int))=true by rw[he];simp,Bool.not_true,cond_false]
     by_cases hd:q.2>20
     ·rw[if_pos hd,Yo,Yt (show(q.2:Int)>20 by omega)];rfl
     ·rw[if_neg hd,Yo,Yf (show ¬ (q.2:Int)>20 by omega)];rfl
    ·rw[if_neg he,show((q.1:Int)==(l.length:Int))=false by simp;omega,Bool.not_false,cond_true]
end Go.D


namespace Go.D
theorem X03i {sd:List (Nat×Nat)} {x:X07} {q:Nat×Nat} (h:nst sd x=some q):∃ a b,okN x a b/\(x.Kind<=4->a=0/\b=0)/\(5<=x.Kind->0<sd.length/\(x.Kind<=6->a=(sd.length:Int) - 1/\b=0)/\(7<=x.Kind->0<=a/\a<=(sd.length:Int) - 1/\b=(sd.length:Int) - 1)):=by
 unfold nst at h
 split at h
 ·rename_i h4
  split at h
  ·rename_i ho;exact⟨0,0,ho,fun _=>⟨rfl,rfl⟩,fun h5=>by omega⟩
  ·cases h
 ·rename_i h4
  split at h
  ·cases h
  ·rename_i s2 d2 hg
   have hl:0<sd.length:=by
    cases sd with
    |nil=>cases hg
    |cons=>simp
   split at h
   ·rename_i h6
    split at h
    ·rename_i ho;exact⟨_,_,ho,fun h4'=>absurd h4' h4,fun _=>⟨hl,fun _=>⟨rfl,rfl⟩,fun h7=>by omega⟩⟩
    ·cases h
   ·rename_i h6
    split at h
    ·cases h
    ·rename_i hlt
     split at h
     ·cases h
     ·split at h
      ·rename_i ho;exact⟨_,_,ho,fun h4'=>absurd h4' h4,fun _=>⟨hl,fun h6'=>absurd h6' h6,fun _=>⟨by omega,by omega,rfl⟩⟩⟩
      ·cases h
structure Xnm (x:X07) (k:Nat):Prop where
 lo:1<=x.Kind
 hi:x.Kind<=19
 leaf:x.Kind<=4->x.A=0/\x.B=0
 a0:0<=x.A
 b0:0<=x.B
 ak:5<=x.Kind->x.A<k
 b1:5<=x.Kind->x.Kind<=6->x.B=0
 bk:5<=x.Kind->x.B<k
 n0:0<=x.N
 nk:x.N=0\/x.Kind=1
 at0:0<=x.At
 at1:x.At<=400
theorem Xtr:∀ (xs:List X07) (sd sd':List (Nat×Nat)),Xkc xs sd=some sd'->∀ j x,xs[j]?=some x->Xnm x (sd.length+j)
 |[],sd,sd',h,j,x,hj=>by simp at hj
 |y::ys,sd,sd',h,j,x,hj=>by
  unfold Xkc at h
  split at h
  ·rename_i q hq
   cases j with
   |zero =>
    simp at hj;subst hj
    obtain⟨a,b,ho,h4,h5⟩:=X03i hq
    obtain⟨o1,o2,o3,o4,o5,o6,rfl,rfl⟩:=ho
    refine⟨o1,o2,h4,?_,?_,?_,?_,?_,o3,o4,o5,o6⟩
    all_goals
     by_cases h4':y.Kind<=4
     ·have:=h4 h4';omega
     ·have h5':=h5 (by omega)
      by_cases h6:y.Kind<=6
      ·have:=h5'.2.1 h6;omega
      ·have:=h5'.2.2 (by omega);omega
   |succ j =>
    have:=Xtr ys _ _ h j x (by simpa using hj)
    rw[List.length_append,List.length_singleton] at this
    rw[show sd.length+(j+1)=sd.length+1+j by omega];exact this
  ·cases h
def giv (K:Int):Bool:=(K==6)||decide (12<=K)
theorem Xls (K:Int):X6h K=some (giv K):=by
 unfold X6h giv
 congr 1
def X37 (l:List X07) (i:Int):Int:=match X32 l i with|some e=>e.Kind|none=>0
def Xm7 (l:List X07) (x:X07):Bool :=
 if x.Kind<=4 then true
 else if x.Kind=5 then !(giv (X37 l x.A))
 else if x.Kind=6 then giv (X37 l x.A)
 else if x.Kind<=15 then !(giv (X37 l x.A))&&!(giv (X37 l x.B))
 else if x.Kind<=17 then (giv (X37 l x.A))==(giv (X37 l x.B))
 else giv (X37 l x.A)&&giv (X37 l x.B)
def wrN (l:List X07):List X07->Nat->Option Nat
 |[],_=>none
 |x::xs,k=>if Xm7 l x then wrN l xs (k+1) else some k
theorem Xn4 {α:Type} {l:List α} {i:Int} (h0:0<=i) (h1:i<l.length):∃ e,X32 l i=some e/\l[i.toNat]?=some e:=by
 obtain⟨n,rfl⟩:∃ n:Nat,i=n:=⟨i.toNat,by omega⟩
 exact⟨l[n]'(by omega),by rw[X49];exact Ye _,by simp⟩
theorem Xbo {l:List X07} {i:Int} (h0:0<=i) (h1:i<l.length):∃ e,X32 l i=some e/\X37 l i=e.Kind:=by
 obtain⟨e,h,_⟩:=Xn4 h0 h1
 exact⟨e,h,by unfold X37;rw[h]⟩
theorem X01v {l:List X07} {x:X07} {k:Nat} (hk:l[k]?=some x) (ho:Xnm x k):Xb2 l (k:Int)=some (Xm7 l x):=by
 have hlt:=(Ys.1 hk).1
 have hA:x.A<l.length:=by
  by_cases h:x.Kind<=4
  ·have:=(ho.leaf h).1;omega
  ·have:=ho.ak (by omega);omega
 have hB:x.B<l.length:=by
  by_cases h:x.Kind<=4
  ·have:=(ho.leaf h).2;omega
  ·have:=ho.bk (by omega);omega
 obtain⟨a,ha,hka⟩:=Xbo ho.a0 hA
 obtain⟨b,hb,hkb⟩:=Xbo ho.b0 hB
 unfold Xb2 Xm7
 rw[X49,hk,Yo,ha,Yo,hb,Xls,Yo,Yo,Xls,Yo,hka,hkb]
 have h1:=ho.lo
 have h2:=ho.hi
 by_cases h4:x.Kind<=4
 ·rw[if_pos h4,Yt h4];rfl
 ·rw[if_neg h4,Yf h4,cond_false]
  by_cases h5:x.Kind=5
  ·rw[if_pos h5,show(x.Kind==5)=true by simp[h5]];rfl
  ·rw[if_neg h5,show(x.Kind==5)=false by simp[h5],cond_false]
   by_cases h6:x.Kind=6
   ·rw[if_pos h6,show(x.Kind==6)=true by simp[h6]];rfl
   ·rw[if_neg h6,show(x.Kind==6)=false by simp[h6],cond_false]
    by_cases h15:x.Kind<=15
    ·rw[if_pos h15,show(bif (x.Kind==16) then true else (x.Kind==17))=false by rw[show(x.Kind==16)=false by simp;omega,show(x.Kind==17)=false by simp;omega];rfl,Yf (show ¬ x.Kind >= 18 by omega)]
     cases giv a.Kind<;>cases giv b.Kind<;>rfl
    ·rw[if_neg h15]
     by_cases h17:x.Kind<=17
     ·rw[if_pos h17,show(bif (x.Kind==16) then true else (x.Kind==17))=true by rcases(by omega:x.Kind=16\/x.Kind=17) with h|h<;>simp[h]];rfl
     ·rw[if_neg h17,show(bif (x.Kind==16) then true else (x.Kind==17))=false by rw[show(x.Kind==16)=false by simp;omega,show(x.Kind==17)=false by simp;omega];rfl,Yt (show x.Kind >= 18 by omega)]
      cases giv a.Kind<;>cases giv b.Kind<;>rfl
theorem Xq0 {l:List X07} (ho:∀ j x,l[j]?=some x->Xnm x j):∀ (xs:List X07) (k:Nat),l.drop k=xs->X45 l xs k=some (match wrN l xs k with|none=>.x0|some j=>.x1 (j:Int))
 |[],k,_=>rfl
 |x::xs,k,h=>by
  have hk:l[k]?=some x:=by
   have:(l.drop k)[0]?=some x:=by rw[h];rfl
   simpa using this
  have hd:l.drop (k+1)=xs:=by
   have:(l.drop k).drop 1=xs:=by rw[h];rfl
   rw[List.drop_drop] at this;exact this
  rw[X45,X01v hk (ho k x hk),Yo,wrN]
  cases Xm7 l x with
  |true=>exact Xq0 ho xs (k+1) hd
  |false=>rfl
def gvs (l:List X07) (k:Nat):List Bool:=(l.take k).map fun e=>giv e.Kind
theorem Xpj {l:List X07} {k:Nat} (hk:k<=l.length) {i:Int} (h0:0<=i) (h1:i<k):X32 (gvs l k) i=some (giv (X37 l i)):=by
 obtain⟨e,he,hke⟩:=Xbo (l:=l) h0 (by omega)
 have hi:(i.toNat:Int)=i:=by omega
 rw[hke,<-hi,X49]
 rw[<-hi,X49] at he
 unfold gvs
 rw[List.getElem?_map,List.getElem?_take_of_lt (by omega),he];rfl
theorem Xqm {l:List X07} {k:Nat} {x:X07} (hk:l[k]?=some x):gvs l (k+1)=gvs l k++[giv x.Kind]:=by
 unfold gvs
 rw[List.take_add_one,hk,List.map_append];rfl
theorem Xt1 {l:List X07} (hn:l.length<=1000) (ho:∀ j x,l[j]?=some x->Xnm x j):∀ (xs:List X07) (k:Nat),l.drop k=xs->X1t l xs k (gvs l k)=some (match wrN l xs k with|none=>.x0 (gvs l l.length)|some j=>.x1 [] (j:Int))
 |[],k,h=>by
  have:l.length<=k:=by
   have:=congrArg List.length h;simp at this;omega
  rw[X1t,wrN]
  unfold gvs
  rw[List.take_of_length_le this,List.take_length]
 |x::xs,k,h=>by
  have hk:l[k]?=some x:=by
   have:(l.drop k)[0]?=some x:=by rw[h];rfl
   simpa using this
  have hd:l.drop (k+1)=xs:=by
   have:(l.drop k).drop 1=xs:=by rw[h];rfl
   rw[List.drop_drop] at this;exact this
  have hlt:=(Ys.1 hk).1
  have hox:=ho k x hk
  have ih:=Xt1 hn ho xs (k+1) hd
  have h1:=hox.lo
  have h2:=hox.hi
  have cap:∀ b,X2f (List.length (gvs l k++[b])) 1=some ():=fun b=>X4o (by unfold gvs;simp;omega)
  have go:giv x.Kind=false->Xm7 l x=true->X1t l xs (k+1) (gvs l k++[false])=some (match wrN l (x::xs) k with|none=>.x0 (gvs l l.length)|some j=>.x1 [] (j:Int)):=by
   intro g f
   rw[wrN,f,if_pos rfl,<-ih,Xqm hk,g]
  have go':giv x.Kind=true->Xm7 l x=true->X1t l xs (k+1) (gvs l k++[true])=some (match wrN l (x::xs) k with|none=>.x0 (gvs l l.length)|some j=>.x1 [] (j:Int)):=by
   intro g f
   rw[wrN,f,if_pos rfl,<-ih,Xqm hk,g]
  have stop:Xm7 l x=false->(some (.x1 [] (k:Int)):Option X5c)=some (match wrN l (x::xs) k with|none=>.x0 (gvs l l.length)|some j=>.x1 [] (j:Int)):=by
   intro f
   rw[wrN,f];rfl
  rw[X1t]
  by_cases h4:x.Kind<=4
  ·rw[Yt h4,cond_true,cap,Yo]
   exact go (by unfold giv;simp;omega) (by unfold Xm7;rw[if_pos h4])
  ·rw[Yf h4,cond_false]
   have hA:X32 (gvs l k) x.A=some (giv (X37 l x.A)):=Xpj (by omega) hox.a0 (hox.ak (by omega))
   have hB:X32 (gvs l k) x.B=some (giv (X37 l x.B)):=Xpj (by omega) hox.b0 (hox.bk (by omega))
   by_cases h5:x.Kind=5
   ·have hf:Xm7 l x=!(giv (X37 l x.A)):=by unfold Xm7;rw[if_neg h4,if_pos h5]
    rw[show(x.Kind==5)=true by simp[h5],cond_true,hA]
    cases hg:giv (X37 l x.A) with
    |true=>exact stop (by rw[hf,hg];rfl)
    |false =>
     show(X2f (List.length (gvs l k++[false])) 1).bind _=_
     rw[cap,Yo];exact go (by unfold giv;simp[h5]) (by rw[hf,hg];rfl)
   ·rw[show(x.Kind==5)=false by simp[h5],cond_false]
    by_cases h6:x.Kind=6
    ·have hf:Xm7 l x=giv (X37 l x.A):=by unfold Xm7;rw[if_neg h4,if_neg h5,if_pos h6]
     rw[show(x.Kind==6)=true by simp[h6],cond_true,hA]
     cases hg:giv (X37 l x.A) with
     |false=>exact stop (by rw[hf,hg])
     |true =>
      show(X2f (List.length (gvs l k++[true])) 1).bind _=_
      rw[cap,Yo];exact go' (by unfold giv;simp[h6]) (by rw[hf,hg])
    ·rw[show(x.Kind==6)=false by simp[h6],cond_false]
     have lok:X5q (List.length [x.A,x.B])=some ():=X35 (by simp)
     by_cases h15:x.Kind<=15
     ·have hf:Xm7 l x=(!(giv (X37 l x.A))&&!(giv (X37 l x.B))):=by unfold Xm7;rw[if_neg h4,if_neg h5,if_neg h6,if_pos h15]
      by_cases h11:x.Kind<=11
      ·have hgx:giv x.Kind=false:=by unfold giv;simp;omega
       rw[Yt h11,cond_true,Yo,lok]
       simp only[X0a,hA,hB]
       generalize giv (X37 l x.A)=p at hf
       generalize giv (X37 l x.B)=r at hf
       cases p<;>cases r
       ·show(X2f (List.length (gvs l k++[false])) 1).bind _=_
        rw[cap,Yo];exact go hgx hf
       all_goals exact stop hf
      ·have hgx:giv x.Kind=true:=by unfold giv;simp;omega
       rw[Yf h11,cond_false,Yt h15,cond_true,Yo,lok]
       simp only[X0a,hA,hB]
       generalize giv (X37 l x.A)=p at hf
       generalize giv (X37 l x.B)=r at hf
       cases p<;>cases r
       ·show(X2f (List.length (gvs l k++[true])) 1).bind _=_
        rw[cap,Yo];exact go' hgx hf
       all_goals exact stop hf
     ·rw[Yf (show ¬ x.Kind<=11 by omega),cond_false,Yf h15,cond_false]
      have hgx:giv x.Kind=true:=by unfold giv;simp;omega
      by_cases h17:x.Kind<=17
      ·have hf:Xm7 l x=((giv (X37 l x.A))==(giv (X37 l x.B))):=by unfold Xm7;rw[if_neg h4,if_neg h5,if_neg h6,if_neg h15,if_pos h17]
       rw[Yt h17,cond_true,Yo,lok]
       simp only[X0a,X0d,hA,hB]
       generalize giv (X37 l x.A)=p at hf
       generalize giv (X37 l x.B)=r at hf
       cases p<;>cases r
       ·show(X2f (List.length (gvs l k++[true])) 1).bind _=_
        rw[cap,Yo];exact go' hgx hf
       ·exact stop hf
       ·exact stop hf
       ·show(X2f (List.length (gvs l k++[true])) 1).bind _=_
        rw[cap,Yo];exact go' hgx hf
      ·have hf:Xm7 l x=((giv (X37 l x.A))&&(giv (X37 l x.B))):=by unfold Xm7;rw[if_neg h4,if_neg h5,if_neg h6,if_neg h15,if_neg h17]
       rw[Yf h17,cond_false,Yo,lok]
       simp only[X0a,X0d,hA,hB]
       generalize giv (X37 l x.A)=p at hf
       generalize giv (X37 l x.B)=r at hf
       cases p<;>cases r
       ·exact stop hf
       ·exact stop hf
       ·exact stop hf
       ·show(X2f (List.length (gvs l k++[true])) 1).bind _=_
        rw[cap,Yo];exact go' hgx hf
end Go.D


namespace Go.D
theorem Xzc (a b:Int):a<b\/b<=a:=by omega
theorem Xtt {α:Type} {l:List α} (h:l.Nodup):l.reverse.Nodup:=by
 unfold List.Nodup at *
 rw[List.pairwise_reverse]
 exact h.imp fun h=>Ne.symm h
def okT (t:Int):Prop := -1099511627776<=t/\t<=1099511627776
def okW (w:X0y):Prop:=1<=w.Size/\w.Size<=1073741824/\((w.Kind=2/\1<=w.Every/\w.Every<=w.Size/\w.Size<=16*w.Every)\/((w.Kind=1\/w.Kind=3)/\w.Every=0))
theorem X4f {w:X0y} (h:okW w):X17 w=some 0:=by
 obtain⟨h1,h2,h3⟩:=h
 have e1:decide (w.Size<1)=false:=by simp;omega
 have e2:decide (w.Size>1073741824)=false:=by simp;omega
 simp only[X17,e1,e2,cond_false]
 rcases h3 with ⟨k,a1,a2,a3⟩|⟨k|k,a⟩
 ·have e3:(w.Kind==2)=true:=by simp[k]
  have e4:decide (w.Every >= 1)=true:=by simp;omega
  have e5:decide (w.Every<=w.Size)=true:=by simp;omega
  have e6:decide (w.Size<=IntKind.i64.wrap (16*w.Every))=true:=by rw[X0e (by omega) (by omega)];simp;omega
  simp only[e3,e4,e5,e6,cond_true]
 ·have e3:(w.Kind==2)=false:=by simp[k]
  have e4:(w.Kind==1)=true:=by simp[k]
  have e5:(w.Every==0)=true:=by simp[a]
  simp only[e3,e4,e5,cond_true,cond_false]
 ·have e3:(w.Kind==2)=false:=by simp[k]
  have e4:(w.Kind==1)=false:=by simp[k]
  have e6:(w.Kind==3)=true:=by simp[k]
  have e5:(w.Every==0)=true:=by simp[a]
  simp only[e3,e4,e5,e6,cond_true,cond_false]
theorem Xce {t size:Int} (ht:okT t) (h1:1<=size) (h2:size<=1073741824):Xav t size=some (⟨t / size*size,t / size*size+size⟩,0):=by
 obtain⟨t1,t2⟩:=ht
 have e1:decide (size<1)=false:=by simp;omega
 have e2:decide (size>1073741824)=false:=by simp;omega
 have e3:decide (t < -1099511627776)=false:=by simp;omega
 have e4:decide (t>1099511627776)=false:=by simp;omega
 have hm:=Int.mul_ediv_add_emod t size
 have hm1:=Int.emod_nonneg t (show size≠0 by omega)
 have hm2:=Int.emod_lt_of_pos t (show 0<size by omega)
 have q1 : -1099511627776<=t / size:=by
  rcases Xzc (t / size) (-1099511627776) with h|h
  ·exfalso
   have:size*(t / size)<=size*(-1099511627777):=Int.mul_le_mul_of_nonneg_left (by omega) (by omega)
   omega
  ·exact h
 have q2:t / size<=1099511627776:=by
  rcases Xzc 1099511627776 (t / size) with h|h
  ·exfalso
   have:size*1099511627777<=size*(t / size):=Int.mul_le_mul_of_nonneg_left (by omega) (by omega)
   omega
  ·exact h
 have hn:X6t t size=some (t / size,0):=by
  simp only[X6t,Xa3,e1,e2,e3,e4,cond_false,Yo,bne_self_eq_false]
  have hd:Xv0 size=some ():=by unfold Xv0;rw[if_pos (by omega)]
  rw[hd,Yo]
  have htm:=Int.tmod_add_mul_tdiv t size
  by_cases hneg:Int.tmod t size<0
  ·have e5:decide (Int.tmod t size<0)=true:=by simp[hneg]
   rw[e5,cond_true,Yo]
   have hq:Int.tdiv t size - 1=t / size:=by
    have h3:Int.tdiv t size=t / size+if 0<=t\/size ∣ t then 0 else size.sign:=Int.tdiv_eq_ediv
    have h4:¬ (0<=t\/size ∣ t):=by
     rintro(h|h)
     ·have:=Int.tmod_nonneg size h;omega
     ·have:=Int.tmod_eq_zero_of_dvd h;omega
    rw[if_neg h4,Int.sign_eq_one_of_pos (by omega)] at h3
    omega
   have e6:IntKind.i64.wrap (Int.tdiv t size)=Int.tdiv t size:=X0e (by omega) (by omega)
   rw[e6,hq,X0e (by omega) (by omega)]
  ·have e5:decide (Int.tmod t size<0)=false:=by simp;omega
   rw[e5,cond_false,Yo]
   have hq:Int.tdiv t size=t / size:=by
    have h3:Int.tdiv t size=t / size+if 0<=t\/size ∣ t then 0 else size.sign:=Int.tdiv_eq_ediv
    by_cases h4:0<=t\/size ∣ t
    ·rw[if_pos h4] at h3;omega
    ·exfalso
     rw[if_neg h4,Int.sign_eq_one_of_pos (by omega)] at h3
     rw[h3,Int.mul_add,Int.mul_one] at htm
     omega
   rw[hq,X0e (by omega) (by omega)]
 simp only[Xav,hn,Yo,bne_self_eq_false,cond_false]
 have e7:t / size*size=size*(t / size):=Int.mul_comm _ _
 have e8:IntKind.i64.wrap (t / size+1)=t / size+1:=X0e (by omega) (by omega)
 have e9:(t / size+1)*size=size*(t / size)+size:=by rw[Int.add_mul,e7];omega
 rw[e8,e9,e7,X0e (by omega) (by omega),X0e (by omega) (by omega)]
def Xba (t size every:Int):Nat->Int->List X06
 |0,_=>[]
 |K+1,s=>if s+size>t then ⟨s,s+size⟩::Xba t size every K (s - every) else []
theorem Xx1 {t size every:Int} (ht:okT t) (h1:1<=every) (h2:every<=size) (h3:size<=1073741824):∀ (K f:Nat) (acc:List X06) (s:Int),s<=t -> -1200000000000+K*1073741824<=s->s+size - t<=K*every->K<f->acc.length+K<=1000000 ->
  X55 t size every f acc s=some (.x0 (acc++Xba t size every K s)):=by
 obtain⟨t1,t2⟩:=ht
 intro K
 induction K with
 |zero =>
  intro f acc s hs hl hK hf ha
  cases f with
  |zero=>omega
  |succ f =>
   rw[X55]
   simp only[Int.natCast_zero,Int.zero_mul] at hK hl
   have:decide (IntKind.i64.wrap (s+size)>t)=false:=by rw[X0e (by omega) (by omega)];simp;omega
   rw[this,cond_false];simp[Xba]
 |succ K ih =>
  intro f acc s hs hl hK hf ha
  cases f with
  |zero=>omega
  |succ f =>
   rw[X55]
   have e0:((K+1:Nat):Int)*every=K*every+every:=by rw[Int.natCast_add,Int.natCast_one,Int.add_mul,Int.one_mul]
   have e00:((K+1:Nat):Int)*1073741824=K*1073741824+1073741824:=by omega
   have e1:IntKind.i64.wrap (s+size)=s+size:=X0e (by omega) (by omega)
   rw[e1]
   by_cases hgt:s+size>t
   ·have:decide (s+size>t)=true:=by simpa using hgt
    rw[this,cond_true,X4o (by simp;omega),Yo]
    have e2:IntKind.i64.wrap (s - every)=s - every:=X0e (by omega) (by omega)
    rw[e2,ih f _ _ (by omega) (by omega) (by omega) (by omega) (by simp;omega)]
    rw[Xba,if_pos hgt];simp
   ·have:decide (s+size>t)=false:=by simpa using hgt
    rw[this,cond_false,Xba,if_neg hgt];simp
theorem Xo0 (back:List X06) (hb:back.length<=1000):∀ (k f:Nat) (acc:List X06),k<=back.length->k<f->acc.length+k<=1000000 ->
  X3a back f acc ((k:Int) - 1)=some (.x0 (acc++(back.take k).reverse) back):=by
 intro k
 induction k with
 |zero =>
  intro f acc _ hf _
  cases f with
  |zero=>omega
  |succ f =>
   rw[X3a]
   simp
 |succ k ih =>
  intro f acc hk hf ha
  cases f with
  |zero=>omega
  |succ f =>
   rw[X3a]
   have e1:(((k+1:Nat):Int) - 1)=(k:Int):=by omega
   rw[e1]
   have e2:decide ((k:Int) >= 0)=true:=by simp
   rw[e2,cond_true,X49,Ye (by omega),Yo,X4o (by simp;omega),Yo]
   rw[X0e (by omega) (by omega),ih f _ (by omega) (by omega) (by simp;omega)]
   rw[List.take_add_one,Ye (by omega)]
   simp only[Option.toList_some,List.reverse_append,List.reverse_cons,List.reverse_nil,List.nil_append,List.append_assoc,List.cons_append]
theorem Xni (t size every:Int):∀ (K:Nat) (s:Int),(Xba t size every K s).length<=K:=by
 intro K
 induction K with
 |zero=>intro s;simp[Xba]
 |succ K ih=>intro s;rw[Xba];split<;>simp;exact ih _
theorem Xyr (t size every:Int) (h:1<=every):∀ (K:Nat) (s:Int),∀ x∈Xba t size every K s,x.Start<=s:=by
 intro K
 induction K with
 |zero=>intro s x hx;simp[Xba] at hx
 |succ K ih =>
  intro s x hx
  rw[Xba] at hx
  split at hx
  ·rcases List.mem_cons.1 hx with rfl|hx
   ·exact Int.le_refl _
   ·have:=ih _ x hx;omega
  ·simp at hx
theorem Xpt (t size every:Int) (h:1<=every):∀ (K:Nat) (s:Int),(Xba t size every K s).Nodup:=by
 intro K
 induction K with
 |zero=>intro s;simp[Xba]
 |succ K ih =>
  intro s
  rw[Xba]
  split
  ·rw[List.nodup_cons]
   exact⟨fun hx=>by have:=Xyr t size every h K _ _ hx;simp at this;omega,ih _⟩
  ·exact List.nodup_nil
theorem Xvg (t size every:Int):∀ (K:Nat) (s:Int),s+size - t<=K*every->0<=every->∀ x:X06,x∈Xba t size every K s↔∃ j:Nat,x.Start=s - j*every/\x.End=x.Start+size/\t<x.End:=by
 intro K
 induction K with
 |zero =>
  intro s hK he x
  simp only[Int.natCast_zero,Int.zero_mul] at hK
  simp only[Xba,List.not_mem_nil,false_iff,not_exists,not_and]
  intro j h1 h2
  have:(0:Int)<=j*every:=Int.mul_nonneg (by omega) he
  omega
 |succ K ih =>
  intro s hK he x
  have e0:((K+1:Nat):Int)*every=K*every+every:=by rw[Int.natCast_add,Int.natCast_one,Int.add_mul,Int.one_mul]
  rw[Xba]
  by_cases hgt:s+size>t
  ·rw[if_pos hgt,List.mem_cons,ih (s - every) (by omega) he x]
   constructor
   ·rintro(rfl|⟨j,h1,h2,h3⟩)
    ·exact⟨0,by simp,rfl,hgt⟩
    ·refine⟨j+1,?_,h2,h3⟩
     have:((j+1:Nat):Int)*every=j*every+every:=by rw[Int.natCast_add,Int.natCast_one,Int.add_mul,Int.one_mul]
     omega
   ·rintro⟨j,h1,h2,h3⟩
    cases j with
    |zero=>left;apply Xhb;simp at h1;exact h1;simp at h1;show x.End=s+size;omega
    |succ j =>
     right
     have:((j+1:Nat):Int)*every=j*every+every:=by rw[Int.natCast_add,Int.natCast_one,Int.add_mul,Int.one_mul]
     exact⟨j,by omega,h2,h3⟩
  ·rw[if_neg hgt]
   simp only[List.not_mem_nil,false_iff,not_exists,not_and]
   intro j h1 h2
   have:(0:Int)<=j*every:=Int.mul_nonneg (by omega) he
   omega
theorem Xn0 {t size every:Int} (h1:1<=every) (x:X06):Xn1 size every t x↔∃ j:Nat,x.Start=t / every*every - j*every/\x.End=x.Start+size/\t<x.End:=by
 have hm:=Int.mul_ediv_add_emod t every
 have hm1:=Int.emod_nonneg t (show every≠0 by omega)
 have hm2:=Int.emod_lt_of_pos t (show 0<every by omega)
 have hc:t / every*every=every*(t / every):=Int.mul_comm _ _
 unfold Xn1 inS
 constructor
 ·rintro⟨a1,a2,a3,a4⟩
  have hx:=Int.mul_ediv_add_emod x.Start every
  rw[a1,Int.add_zero] at hx
  have hle:x.Start / every<=t / every:=by
   rcases Xzc (t / every) (x.Start / every) with h|h
   ·exfalso
    have:every*(t / every+1)<=every*(x.Start / every):=Int.mul_le_mul_of_nonneg_left (by omega) (by omega)
    rw[Int.mul_add,Int.mul_one] at this
    omega
   ·exact h
  refine⟨(t / every - x.Start / every).toNat,?_,a2,a4⟩
  have e1:(((t / every - x.Start / every).toNat:Nat):Int)=t / every - x.Start / every:=Int.toNat_of_nonneg (by omega)
  rw[e1,Int.sub_mul,Int.mul_comm (x.Start / every)]
  omega
 ·rintro⟨j,a1,a2,a3⟩
  have hj:(0:Int)<=j*every:=Int.mul_nonneg (by omega) (by omega)
  refine⟨?_,a2,by omega,a3⟩
  rw[a1,<-Int.sub_mul]
  exact Int.mul_emod_left _ _
theorem Xi3 {w:X0y} {t:Int} (hw:okW w) (hk:w.Kind≠3) (ht:okT t):∃ W,Xed w t=some (W,0)/\W.length<=16/\W.Nodup/\∀ s,s∈W↔Xn1 w.Size (Xdv w) t s:=by
 have hcw:=X4f hw
 obtain⟨w1,w2,w3⟩:=hw
 have ht':=ht
 obtain⟨t1,t2⟩:=ht
 unfold Xed
 rw[hcw,Yo]
 rcases w3 with ⟨k,a1,a2,a3⟩|⟨k|k,a⟩
 ·have e1:(w.Kind==1)=false:=by simp[k]
  have e2:(w.Kind==2)=true:=by simp[k]
  have e3:Xdv w=w.Every:=by unfold Xdv;rw[if_neg (by omega)]
  simp only[bne_self_eq_false,cond_false,e1,e2,cond_true]
  have hm:=Int.mul_ediv_add_emod t w.Every
  have hm1:=Int.emod_nonneg t (show w.Every≠0 by omega)
  have hm2:=Int.emod_lt_of_pos t (show 0<w.Every by omega)
  have hc:t / w.Every*w.Every=w.Every*(t / w.Every):=Int.mul_comm _ _
  have hall:Xch t w.Size w.Every=some ((Xba t w.Size w.Every 16 (t / w.Every*w.Every)).reverse,0):=by
   unfold Xch
   have b1:decide ((if w.Every<w.Size then w.Every else w.Size)<1)=false:=by simp;split<;>omega
   have b2:decide (w.Size>1073741824)=false:=by simp;omega
   have b3:decide (w.Every>w.Size)=false:=by simp;omega
   have b4:decide (w.Size>IntKind.i64.wrap (16*w.Every))=false:=by rw[X0e (by omega) (by omega)];simp;omega
   simp only[b1,b2,b3,b4,cond_false,Xce ht' a1 (by omega),Yo,bne_self_eq_false]
   have hL:=Xx1 ht' a1 a2 w2 16 FU [] (t / w.Every*w.Every) (by omega) (by omega) (by omega) (by unfold FU;omega) (by simp)
   rw[hL,Yo]
   simp only[List.nil_append]
   have hlen:=Xni t w.Size w.Every 16 (t / w.Every*w.Every)
   rw[X0e (by omega) (by omega)]
   have hR:=Xo0 (Xba t w.Size w.Every 16 (t / w.Every*w.Every)) (by omega) (Xba t w.Size w.Every 16 (t / w.Every*w.Every)).length FU [] (Nat.le_refl _) (by unfold FU;omega) (by simp;omega)
   rw[hR,Yo]
   simp
  rw[hall,Yo]
  refine⟨_,rfl,by rw[List.length_reverse];exact Xni ..,Xtt (Xpt t w.Size w.Every a1 _ _),fun s=>?_⟩
  rw[List.mem_reverse,e3,Xn0 a1,Xvg t w.Size w.Every 16 _ (by omega) (by omega)]
 ·have e1:(w.Kind==1)=true:=by simp[k]
  have e3:Xdv w=w.Size:=by unfold Xdv;rw[if_pos k]
  simp only[bne_self_eq_false,cond_false,e1,cond_true,Xce ht' w1 w2,Yo]
  refine⟨_,rfl,by simp,by simp,fun s=>?_⟩
  rw[List.mem_singleton,e3,Xn0 w1]
  have hm:=Int.mul_ediv_add_emod t w.Size
  have hm1:=Int.emod_nonneg t (show w.Size≠0 by omega)
  have hm2:=Int.emod_lt_of_pos t (show 0<w.Size by omega)
  have hc:t / w.Size*w.Size=w.Size*(t / w.Size):=Int.mul_comm _ _
  constructor
  ·rintro rfl
   exact⟨0,by simp,rfl,by show t<t / w.Size*w.Size+w.Size;omega⟩
  ·rintro⟨j,h1,h2,h3⟩
   have hj:(j:Int)=0:=by
    rcases Xzc 0 (j:Int) with h|h
    ·exfalso
     have:(1:Int)*w.Size<=j*w.Size:=Int.mul_le_mul_of_nonneg_right (by omega) (by omega)
     omega
    ·omega
   rw[hj,Int.zero_mul] at h1
   exact Xhb (by show s.Start=t / w.Size*w.Size;omega) (by show s.End=t / w.Size*w.Size+w.Size;omega)
 ·exact absurd k hk
end Go.D


namespace Go.D
def kOf (l:List X07):Bool×Int×Int :=
 if Xc2 l≠0 then (false,0,Xc2 l)
 else match wrN l l 0 with
  |some j=>(false,(j:Int),42)
  |none=>(giv (X37 l ((l.length:Int) - 1)),(l.length:Int) - 1,0)
theorem Xif {l:List X07} (h:Xc2 l=0):l.length<=60/\1<=l.length/\∃ sd,Xkc l []=some sd:=by
 unfold Xc2 at h
 split at h
 ·cases h
 ·split at h
  ·cases h
  ·rename_i sd hr
   have hn:=Xhc l [] sd hr
   simp only[List.length_nil,Nat.zero_add] at hn
   split at h
   ·cases h
   ·rename_i q hq
    have:1<=sd.length:=by
     cases sd with
     |nil=>cases hq
     |cons=>simp
    exact⟨by omega,by omega,sd,hr⟩
theorem Xkd {l:List X07} (h:Xc2 l=0):∀ j x,l[j]?=some x->Xnm x j:=by
 obtain⟨_,_,sd,hr⟩:=Xif h
 intro j x hj
 have:=Xtr l [] sd hr j x hj
 simpa using this
theorem Xq1 (l:List X07):∀ (xs:List X07) (k j:Nat),wrN l xs k=some j->k<=j/\j<k+xs.length
 |[],k,j,h=>by cases h
 |x::xs,k,j,h=>by
  unfold wrN at h
  split at h
  ·have:=Xq1 l xs (k+1) j h;simp only[List.length_cons];omega
  ·cases h;simp only[List.length_cons];omega
theorem Xom {l:List X07} (h0:∀ x∈l,0<=x.Kind):Xep l=some (kOf l):=by
 unfold Xep kOf
 rw[Xam h0,Yo]
 by_cases hz:Xc2 l=0
 ·obtain⟨h60,h1,_⟩:=Xif hz
  rw[if_neg (by omega),hz,show((0:Int) != 0)=false from rfl,cond_false]
  unfold Xd6
  rw[X35 (by omega),Yo]
  have ht:=Xt1 (by omega) (Xkd hz) l 0 rfl
  rw[show gvs l 0=[] from by unfold gvs;simp] at ht
  rw[ht]
  cases hw:wrN l l 0 with
  |some j =>
   have:=(Xq1 l l 0 j hw).2
   simp only[Yo]
   rw[Yt (show(j:Int)<(l.length:Int) by omega)];rfl
  |none =>
   simp only[Yo]
   rw[Yf (show ¬ (l.length:Int)<(l.length:Int) by omega),cond_false,X0e (by omega) (by omega),Xpj (Nat.le_refl _) (by omega) (by omega)];rfl
 ·rw[if_pos hz,show(Xc2 l != 0)=true by simp[hz]];rfl
theorem Xo5 {l:List X07}:Xeh l=some (kOf l):=by
 unfold Xeh kOf
 rw[Xal,Yo]
 by_cases hz:Xc2 l=0
 ·obtain⟨h60,h1,_⟩:=Xif hz
  rw[if_neg (by omega),hz,show((0:Int) != 0)=false from rfl,cond_false]
  unfold Xbh
  rw[X35 (by omega),Yo,Xq0 (Xkd hz) l 0 rfl]
  cases hw:wrN l l 0 with
  |some j =>
   have:=(Xq1 l l 0 j hw).2
   simp only[Yo]
   rw[Yt (show(j:Int)<(l.length:Int) by omega)];rfl
  |none =>
   simp only[Yo]
   obtain⟨e,he,hk⟩:=Xbo (l:=l) (i:=(l.length:Int) - 1) (by omega) (by omega)
   rw[Yf (show ¬ (l.length:Int)<(l.length:Int) by omega),cond_false,X0e (by omega) (by omega),he,Yo,Xls,hk];rfl
 ·rw[if_pos hz,show(Xc2 l != 0)=true by simp[hz]];rfl
def X36 (l:List X07) (b:Bool):Int×Int :=
 if (kOf l).2.2=0/\(kOf l).1≠b then ((kOf l).2.1,42) else ((kOf l).2.1,(kOf l).2.2)
theorem Xeo {l:List X07} {b:Bool} (h0:∀ x∈l,0<=x.Kind):X8z l b=some (X36 l b):=by
 unfold X8z X36
 rw[Xom h0,Yo]
 by_cases hz:(kOf l).2.2=0
 ·rw[hz,show((0:Int)==0)=true from rfl,cond_true]
  cases hb:(kOf l).1<;>cases b<;>simp
 ·rw[show((kOf l).2.2==0)=false by simp[hz],cond_false,cond_false,if_neg (fun h=>hz h.1)];rfl
theorem Xeg {l:List X07} {b:Bool}:X7q l b=some (X36 l b):=by
 unfold X7q X36
 rw[Xo5,Yo]
 by_cases hz:(kOf l).2.2=0
 ·rw[hz,show((0:Int)==0)=true from rfl,cond_true]
  cases hb:(kOf l).1<;>cases b<;>simp
 ·rw[show((kOf l).2.2==0)=false by simp[hz],cond_false,cond_false,if_neg (fun h=>hz h.1)]
def Xq7 (s:List Int) (j:Bool):Bool:=s.length==0||(j&&s.length != 2)||s.any fun x=>decide (x<0)||decide (x>3)
def X6x (s:List Int) (j:Bool):Int :=
 if s.length>4 then 4 else if Xq7 s j then 8 else if s.Nodup then 0 else 43
theorem Xmm (Y:List Int):∀ (xs:List Int) (k:Nat),∃ o,X0s Y xs k=some o/\((xs.any fun x=>decide (x<0)||decide (x>3))=true->∃ j:Nat,o=.x1 (j:Int))/\((xs.any fun x=>decide (x<0)||decide (x>3))=false->o=.x0)
 |[],k=>⟨.x0,rfl,by simp,fun _=>rfl⟩
 |x::xs,k=>by
  obtain⟨o,h1,h2,h3⟩:=Xmm Y xs (k+1)
  rw[X0s]
  unfold X5n
  rw[Yo]
  by_cases hx:x<0\/x>3
  ·have:(bif decide (x<0) then true else decide (x >= 4))=true:=by
    rcases hx with h|h
    ·rw[Yt h];rfl
    ·rw[Yf (by omega),Yt (by omega)];rfl
   rw[this]
   refine⟨_,rfl,fun _=>⟨k,rfl⟩,fun h=>?_⟩
   exfalso
   simp only[List.any_cons,Bool.or_eq_false_iff,decide_eq_false_iff_not] at h
   omega
  ·have:(bif decide (x<0) then true else decide (x >= 4))=false:=by
    rw[Yf (by omega),Yf (by omega)];rfl
   rw[this]
   refine⟨o,h1,fun h=>h2 ?_,fun h=>h3 ?_⟩
   ·rw[List.any_cons,Yf (by omega),Yf (by omega)] at h;exact h
   ·rw[List.any_cons,Yf (by omega),Yf (by omega)] at h;exact h
theorem Xpr {s:List Int} (hn:s.length<=1000):Xz s=some (s.any fun x=>decide (x<0)||decide (x>3)):=by
 unfold Xz X0p
 rw[X35 (by omega),Yo]
 obtain⟨o,h1,h2,h3⟩:=Xmm s s 0
 rw[h1]
 cases hb:(s.any fun x=>decide (x<0)||decide (x>3)) with
 |true=>obtain⟨j,rfl⟩:=h2 hb;simp
 |false=>rw[h3 hb];rfl
end Go.D


namespace Go.D
def X07d:Int := -9223372036854775808
end Go.D


namespace Go.D
theorem Xv1:∀ (xs ks:List Int),(X84 ks xs).length<=ks.length+xs.length/\((X84 ks xs).length=ks.length+xs.length↔xs.Nodup/\∀ x∈xs,x ∉ ks):=by
 intro xs
 induction xs with
 |nil=>intro ks;simp[X84]
 |cons x xs ih =>
  intro ks
  rw[X84]
  unfold Xj3
  by_cases hm:x∈ks
  ·rw[if_pos hm]
   have:=ih ks
   refine⟨by have:=this.1;simp only[List.length_cons];omega,⟨fun h=>?_,fun h=>?_⟩⟩
   ·have:=this.1;simp only[List.length_cons] at h;omega
   ·exact absurd hm (h.2 x List.mem_cons_self)
  ·rw[if_neg hm]
   have:=ih (ks++[x])
   rw[List.length_append,List.length_singleton] at this
   refine⟨by have:=this.1;simp only[List.length_cons];omega,?_⟩
   rw[show ks.length+(x::xs).length=ks.length+1+xs.length by simp only[List.length_cons];omega,this.2]
   constructor
   ·rintro⟨h1,h2⟩
    refine⟨List.nodup_cons.2 ⟨fun hx=>h2 x hx (by simp),h1⟩,?_⟩
    intro y hy
    rcases List.mem_cons.1 hy with rfl|hy
    ·exact hm
    ·exact fun hk=>h2 y hy (by simp[hk])
   ·rintro⟨h1,h2⟩
    refine⟨(List.nodup_cons.1 h1).2,fun y hy hk=>?_⟩
    rcases List.mem_append.1 hk with hk|hk
    ·exact h2 y (List.mem_cons_of_mem _ hy) hk
    ·simp at hk;subst hk;exact(List.nodup_cons.1 h1).1 hy
theorem Xpp {s:List Int} (hn:s.length<=1000):∃ v,X34 s=some v/\decide (v<(s.length:Int))=!(decide s.Nodup):=by
 unfold X34
 rw[X35 (by omega)]
 refine⟨_,rfl,?_⟩
 have h:=Xv1 s []
 simp only[List.length_nil,Nat.zero_add,List.not_mem_nil,not_false_eq_true,implies_true,and_true] at h
 by_cases hd:s.Nodup
 ·rw[Yt hd,h.2.2 hd];simp
 ·rw[Yf hd]
  have:(X84 [] s).length≠s.length:=fun e=>hd (h.2.1 e)
  have:=h.1
  simp;omega
theorem Xf0 (s:List Int) (j:Bool):X2e s j=some (X6x s j):=by
 unfold X2e X6x Xq7
 by_cases h4:s.length>4
 ·rw[if_pos h4,Yt (show(s.length:Int)>4 by omega)];rfl
 ·rw[if_neg h4,Yf (show ¬ (s.length:Int)>4 by omega),cond_false]
  obtain⟨v,hv,hd⟩:=Xpp (s:=s) (by omega)
  rw[Xpr (by omega),hv]
  simp only[Yo]
  rw[hd]
  have e0:((s.length:Int)==0)=(s.length==0):=by rw[Bool.eq_iff_iff];simp
  have e2:((s.length:Int) != 2)=(s.length != 2):=by rw[Bool.eq_iff_iff];simp;omega
  rw[e0,e2]
  generalize (s.any fun x=>decide (x<0)||decide (x>3))=b
  generalize (s.length==0)=z
  generalize (s.length != 2)=t
  by_cases hn:s.Nodup<;>cases z<;>cases t<;>cases j<;>cases b<;>simp[hn]
theorem Xgd (Y:List Int):∀ (xs:List Int) (k:Nat),X31 Y xs k=some (bif (xs.any fun x=>decide (x<0)||decide (x>3)) then .x1 else .x0)
 |[],k=>rfl
 |x::xs,k=>by
  rw[X31,Xgd Y xs (k+1),List.any_cons]
  cases decide (x<0)<;>cases decide (x>3)<;>rfl
theorem Xmq (s:List Int) (i:Nat) (hi:i<s.length) (hs:s.length<=1000):∀ (m n j:Nat),m=i - j->m<n->∃ o,X30 s (i:Int) n (j:Int)=some o/\(o=.x0↔∃ j',j<=j'/\j'<i/\s[j']?=s[i]?):=by
 intro m
 induction m with
 |zero =>
  intro n j hm hn
  cases n with
  |zero=>omega
  |succ n =>
   rw[X30,Yf (show ¬ (j:Int)<(i:Int) by omega)]
   exact⟨.x1,rfl,⟨fun h=>(by cases h),fun⟨j',h1,h2,_⟩=>by omega⟩⟩
 |succ m ih =>
  intro n j hm hn
  cases n with
  |zero=>omega
  |succ n =>
   rw[X30,Yt (show(j:Int)<(i:Int) by omega),cond_true,show X32 s (j:Int)=some (s[j]'(by omega)) by rw[X49];exact Ye _,show X32 s (i:Int)=some (s[i]'hi) by rw[X49];exact Ye _]
   simp only[Yo]
   by_cases he:s[j]=s[i]
   ·refine⟨.x0,?_,⟨fun _=>⟨j,Nat.le_refl _,by omega,by rw[Ye (show j<s.length by omega),Ye hi,he]⟩,fun _=>rfl⟩⟩
    rw[show(s[j]==s[i])=true by simp[he]];rfl
   ·rw[show(s[j]==s[i])=false by simp[he],cond_false,X0e (by omega) (by omega)]
    obtain⟨o,h1,h2⟩:=ih n (j+1) (by omega) (by omega)
    refine⟨o,by rw[show(j:Int)+1=((j+1:Nat):Int) by omega];exact h1,h2.trans ⟨fun⟨j',a,b,c⟩=>⟨j',by omega,b,c⟩,fun⟨j',a,b,c⟩=>?_⟩⟩
    by_cases hj:j'=j
    ·subst hj
     rw[Ye (show j'<s.length by omega),Ye hi] at c
     exact absurd (Option.some.inj c) he
    ·exact⟨j',by omega,b,c⟩
theorem Xgc (s:List Int) (hs:s.length<=1000):∀ (xs:List Int) (k:Nat),s.drop k=xs->(s.take k).Nodup->X2j s xs k=some (if s.Nodup then .x0 else .x1)
 |[],k,h,hd=>by
  have:s.length<=k:=by
   have:=congrArg List.length h;simp at this;omega
  rw[List.take_of_length_le this] at hd
  rw[X2j,if_pos hd]
 |x::xs,k,h,hd=>by
  have hk:s[k]?=some x:=by
   have:(s.drop k)[0]?=some x:=by rw[h];rfl
   simpa using this
  have hdr:s.drop (k+1)=xs:=by
   have:(s.drop k).drop 1=xs:=by rw[h];rfl
   rw[List.drop_drop] at this;exact this
  have hlt:=(Ys.1 hk).1
  rw[X2j]
  obtain⟨o,h1,h2⟩:=Xmq s k hlt hs (k - 0) FU 0 rfl (by unfold FU;omega)
  rw[show((0:Nat):Int)=0 from rfl] at h1
  rw[h1,Yo]
  cases o with
  |x0 =>
   obtain⟨j,_,hj,he⟩:=h2.1 rfl
   have:¬ s.Nodup:=fun hn=>by
    have:=(List.getElem?_inj (by omega:j<s.length) hn).1 he
    omega
   rw[if_neg this]
  |x1 =>
   have hno:¬ ∃ j',0<=j'/\j'<k/\s[j']?=s[k]?:=fun h=>by have:=h2.2 h;cases this
   refine Xgc s hs xs (k+1) hdr ?_
   rw[List.take_add_one,hk]
   simp only[Option.toList_some]
   rw[List.nodup_append]
   refine⟨hd,by simp,fun a ha b hb=>?_⟩
   simp at hb;subst hb
   intro e;subst e
   obtain⟨j,hj,e⟩:=List.getElem_of_mem ha
   simp at hj
   refine hno ⟨j,Nat.zero_le _,by omega,?_⟩
   rw[hk,<-e,List.getElem_take,Ye]
theorem Xgy (s:List Int) (j:Bool):X6z s j=some (X6x s j):=by
 unfold X6z X6x Xq7
 by_cases h4:s.length>4
 ·rw[if_pos h4,Yt (show(s.length:Int)>4 by omega)];rfl
 ·rw[if_neg h4,Yf (show ¬ (s.length:Int)>4 by omega),cond_false,X35 (by omega),Xgd,Xgc s (by omega) s 0 rfl (by simp)]
  have e0:((s.length:Int)==0)=(s.length==0):=by rw[Bool.eq_iff_iff];simp
  have e2:((s.length:Int) != 2)=(s.length != 2):=by rw[Bool.eq_iff_iff];simp;omega
  rw[e0,e2]
  generalize (s.any fun x=>decide (x<0)||decide (x>3))=b
  generalize (s.length==0)=z
  generalize (s.length != 2)=t
  by_cases hn:s.Nodup<;>cases z<;>cases t<;>cases j<;>cases b<;>simp[hn]
instance (w:X0y):Decidable (okW w):=by unfold okW;infer_instance
theorem Xzi (w:X0y) (hE:w.Every<=9223372036854775807 /\ -9223372036854775808<=w.Every):X7p w=some (decide (okW w))/\X17 w=some (if okW w then 0 else 8):=by
 by_cases hw:okW w
 ·refine⟨?_,by rw[if_pos hw];exact X4f hw⟩
  rw[Yt hw]
  obtain⟨h1,h2,h3⟩:=hw
  unfold X7p
  rw[Yf (show ¬ w.Size<1 by omega),Yf (show ¬ w.Size>1073741824 by omega)]
  rcases h3 with ⟨k,a1,a2,a3⟩|⟨k|k,a⟩
  ·rw[show(w.Kind==2)=true by simp[k],Yt a1,Yt a2,X0e (by omega) (by omega),Yt a3];rfl
  ·rw[show(w.Kind==2)=false by simp[k],show(w.Kind==1)=true by simp[k],show(w.Every==0)=true by simp[a]];rfl
  ·rw[show(w.Kind==2)=false by simp[k],show(w.Kind==3)=true by simp[k],show(w.Every==0)=true by simp[a],show(w.Kind==1)=false by simp[k]];rfl
 ·rw[if_neg hw,Yf hw]
  by_cases hs:w.Size<1\/w.Size>1073741824
  ·have:(bif decide (w.Size<1) then true else decide (w.Size>1073741824))=true:=by
    rcases hs with h|h
    ·rw[Yt h];rfl
    ·rw[Yf (by omega),Yt h];rfl
   constructor
   ·unfold X7p;rw[this];rfl
   ·unfold X17;rw[this];rfl
  ·have:(bif decide (w.Size<1) then true else decide (w.Size>1073741824))=false:=by
    rw[Yf (by omega),Yf (by omega)];rfl
   unfold X7p X17
   rw[this,cond_false,cond_false]
   by_cases k2:w.Kind=2
   ·rw[show(w.Kind==2)=true by simp[k2],cond_true,cond_true]
    have:(bif (bif decide (w.Every >= 1) then decide (w.Every<=w.Size) else false) then decide (w.Size<=IntKind.i64.wrap (16*w.Every)) else false)=false:=by
     by_cases g1:w.Every >= 1
     ·by_cases g2:w.Every<=w.Size
      ·rw[Yt g1,Yt g2,X0e (by omega) (by omega),Yf];rfl
       intro g3;exact hw ⟨by omega,by omega,.inl ⟨k2,g1,g2,g3⟩⟩
      ·rw[Yt g1,Yf g2];rfl
     ·rw[Yf g1];rfl
    rw[this];exact⟨rfl,rfl⟩
   ·rw[show(w.Kind==2)=false by simp[k2],cond_false,cond_false]
    by_cases k1:w.Kind=1
    ·have:w.Every≠0:=fun h=>hw ⟨by omega,by omega,.inr ⟨.inl k1,h⟩⟩
     rw[show(w.Kind==1)=true by simp[k1],show(w.Every==0)=false by simp[this]];exact⟨rfl,rfl⟩
    ·by_cases k3:w.Kind=3
     ·have:w.Every≠0:=fun h=>hw ⟨by omega,by omega,.inr ⟨.inr k3,h⟩⟩
      rw[show(w.Kind==1)=false by simp[k1],show(w.Kind==3)=true by simp[k3],show(w.Every==0)=false by simp[this]];exact⟨rfl,rfl⟩
     ·rw[show(w.Kind==1)=false by simp[k1],show(w.Kind==3)=false by simp[k3]];exact⟨rfl,rfl⟩
end Go.D


namespace Go.D
def Xsr (q:X0b):Int :=
 if q.Agg<1\/q.Agg>4\/(q.Late≠1/\q.Late≠2) then 8
 else if q.Agg=1/\0<q.Arg.length then 8
 else if q.Agg≠1/\Xc2 q.Arg≠0 then Xc2 q.Arg
 else if 0<q.Where.length/\Xc2 q.Where≠0 then Xc2 q.Where
 else if X6x q.Sources q.Join≠0 then X6x q.Sources q.Join
 else if q.Join=true/\q.Window.Kind≠1 then 8
 else if okW q.Window then 0 else 8
structure QW (q:X0b):Prop where
 arg:∀ x∈q.Arg,0<=x.Kind
 wher:∀ x∈q.Where,0<=x.Kind
 ev:q.Window.Every<=9223372036854775807 /\ -9223372036854775808<=q.Window.Every
theorem Xse {a b:Int} (h:¬ a=b):(a != b)=true:=by simp[h]
theorem lz {n:Nat} (h:0<n):((n:Int)==0)=false:=by simp;omega
theorem lz' {n:Nat} (h:¬ 0<n):((n:Int)==0)=true:=by simp;omega
theorem Xzu {q:X0b} (hq:QW q):((X2e q.Sources q.Join).bind fun v10=>bif (v10 != (0:Int)) then (some v10) else (bif (bif q.Join then (q.Window.Kind != (1:Int)) else false) then (some 8) else ((X17 q.Window).bind fun v14=>some v14)))=some (if X6x q.Sources q.Join≠0 then X6x q.Sources q.Join
 else if q.Join=true/\q.Window.Kind≠1 then 8
 else if okW q.Window then 0 else 8):=by
 rw[Xf0,Yo,(Xzi q.Window hq.ev).2]
 by_cases h:X6x q.Sources q.Join=0
 ·rw[h]
  by_cases hj:q.Join=true
  ·by_cases hk:q.Window.Kind=1
   ·simp[hj,hk]
   ·simp[hj,hk,Xse hk]
  ·simp[hj]
 ·simp[h,Xse h]
theorem Xh5 {q:X0b} (hq:QW q):X7b q=some (Xsr q):=by
 unfold X7b Xsr
 rw[Xzu hq,Xam hq.arg,Xam hq.wher]
 generalize (if X6x q.Sources q.Join≠0 then X6x q.Sources q.Join else if q.Join=true/\q.Window.Kind≠1 then 8 else if okW q.Window then 0 else 8)=T
 have e1:(bif (bif (decide (q.Agg<(1:Int))) then true else (decide (q.Agg>(4:Int)))) then true else (bif (q.Late != (1:Int)) then (q.Late != (2:Int)) else false))=decide (q.Agg<1\/q.Agg>4\/(q.Late≠1/\q.Late≠2)):=by
  rw[Bool.eq_iff_iff]
  by_cases h1:q.Agg<1<;>by_cases h2:q.Agg>4<;>by_cases h3:q.Late=1<;>by_cases h4:q.Late=2<;>simp[h1,h2,h3,h4]
 rw[e1]
 by_cases hA:(q.Agg<1\/q.Agg>4\/(q.Late≠1/\q.Late≠2))
 ·rw[if_pos hA,Yt hA];rfl
 ·rw[if_neg hA,Yf hA,cond_false]
  by_cases h1:q.Agg=1
  ·rw[show(q.Agg != 1)=false by simp[h1],cond_false]
   by_cases hl:0<q.Arg.length
   ·rw[Yt (show(q.Arg.length:Int)>0 by omega),if_pos ⟨h1,hl⟩];rfl
   ·rw[Yf (show ¬ (q.Arg.length:Int)>0 by omega),if_neg (fun h=>hl h.2),if_neg (fun h=>h.1 h1),cond_false]
    by_cases hw:0<q.Where.length
    ·rw[Yt (show(q.Where.length:Int)>0 by omega),cond_true,Yo]
     by_cases hz:Xc2 q.Where=0
     ·rw[hz];simp
     ·rw[if_pos ⟨hw,hz⟩,show(Xc2 q.Where != 0)=true by simp[hz]];rfl
    ·rw[Yf (show ¬ (q.Where.length:Int)>0 by omega),if_neg (fun h=>hw h.1)];rfl
  ·rw[show(q.Agg != 1)=true by simp[h1],cond_true,if_neg (fun h=>h1 h.1),Yo]
   by_cases hn:Xc2 q.Arg=0
   ·rw[hn,if_neg (fun h=>h.2 rfl),show((0:Int) != 0)=false from rfl,cond_false]
    by_cases hw:0<q.Where.length
    ·rw[Yt (show(q.Where.length:Int)>0 by omega),cond_true,Yo]
     by_cases hz:Xc2 q.Where=0
     ·rw[hz];simp
     ·rw[if_pos ⟨hw,hz⟩,show(Xc2 q.Where != 0)=true by simp[hz]];rfl
    ·rw[Yf (show ¬ (q.Where.length:Int)>0 by omega),if_neg (fun h=>hw h.1)];rfl
   ·rw[if_pos ⟨h1,hn⟩,show(Xc2 q.Arg != 0)=true by simp[hn]];rfl
theorem Xjq {q:X0b} (hq:QW q):X9o q=some (Xsr q):=by
 unfold X9o Xsr
 rw[Xal,Xal,Xgy,(Xzi q.Window hq.ev).1]
 have e1:(bif (bif (bif (decide (q.Agg<(1:Int))) then true else (decide (q.Agg>(4:Int)))) then true else (decide (q.Late<(1:Int)))) then true else (decide (q.Late>(2:Int))))=decide (q.Agg<1\/q.Agg>4\/(q.Late≠1/\q.Late≠2)):=by
  rw[Bool.eq_iff_iff]
  have g:(q.Late≠1/\q.Late≠2)↔(q.Late<1\/q.Late>2):=by omega
  rw[show decide (q.Agg<1\/q.Agg>4\/(q.Late≠1/\q.Late≠2))=decide (q.Agg<1\/q.Agg>4\/(q.Late<1\/q.Late>2)) from decide_eq_decide.2 (by rw[g])]
  by_cases h1:q.Agg<1<;>by_cases h2:q.Agg>4<;>by_cases h3:q.Late<1<;>by_cases h4:q.Late>2<;>simp[h1,h2,h3,h4]
 rw[e1]
 have tl:((some (X6x q.Sources q.Join)).bind fun v29=>bif (v29 != (0:Int)) then (some v29) else ((some (decide (okW q.Window))).bind fun v32=>bif (bif (!v32) then true else (bif q.Join then (q.Window.Kind != (1:Int)) else false)) then (some 8) else (some 0)))=some (if X6x q.Sources q.Join≠0 then X6x q.Sources q.Join
 else if q.Join=true/\q.Window.Kind≠1 then 8
 else if okW q.Window then 0 else 8):=by
  simp only[Yo]
  by_cases h:X6x q.Sources q.Join=0
  ·rw[h]
   by_cases hk:q.Window.Kind=1
   ·by_cases hj:q.Join=true<;>by_cases ho:okW q.Window<;>simp[hj,hk,ho]
   ·by_cases hj:q.Join=true<;>by_cases ho:okW q.Window<;>simp[hj,hk,ho,Xse hk]
  ·simp[h,Xse h]
 rw[tl]
 generalize (if X6x q.Sources q.Join≠0 then X6x q.Sources q.Join else if q.Join=true/\q.Window.Kind≠1 then 8 else if okW q.Window then 0 else 8)=T
 by_cases hA:(q.Agg<1\/q.Agg>4\/(q.Late≠1/\q.Late≠2))
 ·rw[if_pos hA,Yt hA];rfl
 ·rw[if_neg hA,Yf hA,cond_false]
  have wh:((bif (decide ((List.length q.Where:Int)>(0:Int))) then ((some (Xc2 q.Where)).bind fun v23=>some (bif (decide ((List.length q.Where:Int)>(0:Int))) then (v23 != (0:Int)) else false)) else (some (bif (decide ((List.length q.Where:Int)>(0:Int))) then false else false)):Option (Bool)).bind fun Xmy=>bif Xmy then ((some (Xc2 q.Where)).bind fun v27=>some v27) else some T)=some (if 0<q.Where.length/\Xc2 q.Where≠0 then Xc2 q.Where else T):=by
   by_cases hw:0<q.Where.length
   ·rw[Yt (show(q.Where.length:Int)>0 by omega)]
    by_cases hz:Xc2 q.Where=0
    ·rw[hz];simp
    ·rw[if_pos ⟨hw,hz⟩];simp[hz,Xse hz]
   ·rw[Yf (show ¬ (q.Where.length:Int)>0 by omega),if_neg (fun h=>hw h.1)];rfl
  rw[wh]
  generalize (if 0<q.Where.length/\Xc2 q.Where≠0 then Xc2 q.Where else T)=T2
  by_cases h1:q.Agg=1
  ·rw[show(q.Agg==1)=true by simp[h1],show(q.Agg != 1)=false by simp[h1]]
   by_cases hl:0<q.Arg.length
   ·rw[Yt (show(q.Arg.length:Int)>0 by omega),if_pos ⟨h1,hl⟩];rfl
   ·rw[Yf (show ¬ (q.Arg.length:Int)>0 by omega),if_neg (fun h=>hl h.2),if_neg (fun h=>h.1 h1)];rfl
  ·rw[show(q.Agg==1)=false by simp[h1],show(q.Agg != 1)=true by simp[h1],if_neg (fun h=>h1 h.1)]
   by_cases hn:Xc2 q.Arg=0
   ·rw[hn,if_neg (fun h=>h.2 rfl)];rfl
   ·rw[if_pos ⟨h1,hn⟩]
    simp[hn,Xse hn]
def atOf (l:List X07) (i:Int):Int:=match X32 l i with|some e=>e.At|none=>0
theorem Xlb {l:List X07} {b:Bool} (h:0<l.length):∃ e,X32 l (X36 l b).1=some e/\atOf l (X36 l b).1=e.At:=by
 have hr:0<=(X36 l b).1/\(X36 l b).1<l.length:=by
  have:(X36 l b).1=(kOf l).2.1:=by unfold X36;split<;>rfl
  rw[this]
  unfold kOf
  split
  ·simp only;omega
  ·split
   ·rename_i j hj
    have:=Xq1 l l 0 j hj
    simp only;omega
   ·simp only;omega
 obtain⟨e,he,_⟩:=Xn4 hr.1 hr.2
 exact⟨e,he,by unfold atOf;rw[he]⟩
def rt (q:X0b):Int×Int :=
 if 0<q.Arg.length/\(X36 q.Arg false).2≠0 then (atOf q.Arg (X36 q.Arg false).1,(X36 q.Arg false).2)
 else if 0<q.Where.length/\(X36 q.Where true).2≠0 then (atOf q.Where (X36 q.Where true).1,(X36 q.Where true).2)
 else (0,0)
theorem Xq2 (q:X0b) (hw:0<q.Where.length):(bif ((X36 q.Where true).2 != (0:Int)) then ((X32 q.Where (X36 q.Where true).1).bind fun e28=>some (e28.At,(X36 q.Where true).2)) else (some (0,0)))=some (if 0<q.Where.length/\(X36 q.Where true).2≠0 then (atOf q.Where (X36 q.Where true).1,(X36 q.Where true).2) else (0,0)):=by
 obtain⟨e,he,ha⟩:=Xlb (b:=true) hw
 by_cases hz:(X36 q.Where true).2=0
 ·rw[if_neg (fun h=>h.2 hz),show((X36 q.Where true).2 != 0)=false by simp[hz]];rfl
 ·rw[if_pos ⟨hw,hz⟩,show((X36 q.Where true).2 != 0)=true by simp[hz],he,ha];rfl
theorem Xjo (q:X0b):X9m q=some (rt q):=by
 unfold X9m rt
 rw[Xeg,Xeg]
 simp only[Yo]
 have wh:(bif (decide ((List.length q.Where:Int)>(0:Int))) then (bif ((X36 q.Where true).2 != (0:Int)) then ((X32 q.Where (X36 q.Where true).1).bind fun e28=>some (e28.At,(X36 q.Where true).2)) else (some (0,0))) else (some (0,0)))=some (if 0<q.Where.length/\(X36 q.Where true).2≠0 then (atOf q.Where (X36 q.Where true).1,(X36 q.Where true).2) else (0,0)):=by
  by_cases hw:0<q.Where.length
  ·rw[Yt (show(q.Where.length:Int)>0 by omega),cond_true,Xq2 q hw]
  ·rw[Yf (show ¬ (q.Where.length:Int)>0 by omega),if_neg (fun h=>hw h.1)];rfl
 rw[wh]
 by_cases ha:0<q.Arg.length
 ·rw[Yt (show(q.Arg.length:Int)>0 by omega),cond_true]
  obtain⟨e,he,hat⟩:=Xlb (b:=false) ha
  by_cases hz:(X36 q.Arg false).2=0
  ·rw[if_neg (show ¬ (0<q.Arg.length/\(X36 q.Arg false).2≠0) from fun h=>h.2 hz),show((X36 q.Arg false).2 != 0)=false by simp[hz],cond_false]
  ·rw[if_pos (show(0<q.Arg.length/\(X36 q.Arg false).2≠0) from⟨ha,hz⟩),show((X36 q.Arg false).2 != 0)=true by simp[hz],he,hat];rfl
 ·rw[Yf (show ¬ (q.Arg.length:Int)>0 by omega),if_neg (show ¬ (0<q.Arg.length/\(X36 q.Arg false).2≠0) from fun h=>ha h.1),cond_false]
def Xtl (q:X0b):Int×Int:=if Xsr q≠0 then (0,Xsr q) else rt q
theorem Xjp {q:X0b} (hq:QW q):X9n q=some (Xtl q):=by
 unfold X9n Xtl
 rw[Xjq hq,Xjo,Yo]
 by_cases h:Xsr q=0
 ·rw[if_neg (by omega),h];rfl
 ·rw[if_pos h,show(Xsr q != 0)=true by simp[h]];rfl
theorem Xj6 {q:X0b} (hq:QW q):X85 q=some (Xtl q):=by
 unfold X85 Xtl
 rw[Xh5 hq,Yo]
 by_cases h:Xsr q=0
 ·rw[if_neg (by omega),h,show((0:Int) != 0)=false from rfl,cond_false]
  unfold X9w Xa7
  rw[Xeo hq.arg,Xeo hq.wher]
  simp only[Yo]
  unfold rt
  have wh:(bif ((List.length q.Where:Int)==(0:Int)) then (some (0,0)) else (bif ((X36 q.Where true).2 != (0:Int)) then ((X32 q.Where (X36 q.Where true).1).bind fun e28=>some (e28.At,(X36 q.Where true).2)) else (some (0,0))))=some (if 0<q.Where.length/\(X36 q.Where true).2≠0 then (atOf q.Where (X36 q.Where true).1,(X36 q.Where true).2) else (0,0)):=by
   by_cases hw:0<q.Where.length
   ·rw[lz hw,cond_false,Xq2 q hw]
   ·rw[lz' hw,if_neg (fun h=>hw h.1)];rfl
  rw[wh]
  by_cases ha:0<q.Arg.length
  ·rw[lz ha,cond_false]
   obtain⟨e,he,hat⟩:=Xlb (b:=false) ha
   by_cases hz:(X36 q.Arg false).2=0
   ·rw[if_neg (show ¬ (0<q.Arg.length/\(X36 q.Arg false).2≠0) from fun h=>h.2 hz),show((X36 q.Arg false).2 != 0)=false by simp[hz],cond_false];rfl
   ·rw[if_pos (show(0<q.Arg.length/\(X36 q.Arg false).2≠0) from⟨ha,hz⟩),show((X36 q.Arg false).2 != 0)=true by simp[hz],he,hat];rfl
  ·rw[lz' ha,if_neg (show ¬ (0<q.Arg.length/\(X36 q.Arg false).2≠0) from fun h=>ha h.1)];rfl
 ·rw[if_pos h,show(Xsr q != 0)=true by simp[h]];rfl
end Go.D


namespace Go.D
def X7f (p:Pu) (s:X06):X4:=⟨p.1.Key,s,⟨if p.2=0 then ofA p.1.Value else Xc4,if p.2=1 then ofA p.1.Value else Xc4⟩⟩
theorem X53 (L:List Pu) (p:Pu) (k:Int) (s:X06) (side:Int):vals (L++[p]) k s side=vals L k s side++(if p.1.Key=k/\inS s p.1.Time/\p.2=side then [p.1.Value] else []):=by
 unfold vals
 rw[List.filter_append,List.map_append]
 congr 1
 by_cases h:p.1.Key=k/\inS s p.1.Time/\p.2=side
 ·rw[if_pos h,List.filter_cons_of_pos (by simpa using h)];rfl
 ·rw[if_neg h,List.filter_cons_of_neg (by simpa using h)];rfl
theorem X8p (L:List Pu) (p:Pu) (k t:Int):X92 (L++[p]) k t↔X92 L k t\/(p.1.Key=k/\p.1.Time=t):=by
 unfold X92
 constructor
 ·rintro⟨q,hq,h⟩
  rcases List.mem_append.1 hq with h1|h1
  ·exact .inl ⟨q,h1,h⟩
  ·rw[List.mem_singleton.1 h1] at h;exact .inr h
 ·rintro(⟨q,hq,h⟩|h)
  ·exact⟨q,List.mem_append_left _ hq,h⟩
  ·exact⟨p,by simp,h⟩
structure OkPu (w:X0y) (L:List Pu):Prop where
 time:∀ p∈L,okT p.1.Time
 side:∀ p∈L,p.2=0\/p.2=1
 len:L.length<=240
theorem OkPu.init {w:X0y} {L:List Pu} {p:Pu} (h:OkPu w (L++[p])):OkPu w L:=⟨fun q hq=>h.time q (List.mem_append_left _ hq),fun q hq=>h.side q (List.mem_append_left _ hq),by have:=h.len;simp at this;omega⟩
theorem Xme {L:List Pu} {k:Int} {s:X06} (h:∀ t,X92 L k t->¬ inS s t) (side:Int):vals L k s side=[]:=by
 unfold vals
 rw[List.map_eq_nil_iff,List.filter_eq_nil_iff]
 intro p hp hc
 simp only[decide_eq_true_eq] at hc
 exact h p.1.Time ⟨p,hp,hc.1,rfl⟩ hc.2.1
theorem Xsx {L:List Pu} {k t:Int} {s:X06} (hs:∀ p∈L,p.2=0\/p.2=1) (h:X92 L k t) (hi:inS s t):0<(vals L k s 0).length+(vals L k s 1).length:=by
 obtain⟨p,hp,hk,ht⟩:=h
 rcases hs p hp with h0|h0
 ·have:p.1.Value∈vals L k s 0:=List.mem_map.2 ⟨p,List.mem_filter.2 ⟨hp,by simp[hk,h0,ht,hi]⟩,rfl⟩
  have:=List.length_pos_of_mem this;omega
 ·have:p.1.Value∈vals L k s 1:=List.mem_map.2 ⟨p,List.mem_filter.2 ⟨hp,by simp[hk,h0,ht,hi]⟩,rfl⟩
  have:=List.length_pos_of_mem this;omega
structure Mid (w:X0y) (L:List Pu) (p:Pu) (done:X06->Prop) (es:List X4):Prop where
 sorted:es.Pairwise ltE
 mem:∀ e,e∈es↔(e.Key=p.1.Key/\done e.Span/\e.Values=Xey (L++[p]) e.Key e.Span)\/(¬ (e.Key=p.1.Key/\done e.Span)/\Xs6 w L e)
theorem Xuy {L:List Pu} {p:Pu} {s:X06} (h:∀ t,X92 L p.1.Key t->¬ inS s t) (hi:inS s p.1.Time):Xey (L++[p]) p.1.Key s=(X7f p s).Values:=by
 unfold Xey X7f
 rw[X53,X53,Xme h,Xme h]
 simp only[List.nil_append]
 congr 1
 ·by_cases h0:p.2=0
  ·rw[if_pos ⟨trivial,hi,h0⟩,if_pos h0,Xdg]
  ·rw[if_neg (fun hc=>h0 hc.2.2),if_neg h0,Xm5]
 ·by_cases h0:p.2=1
  ·rw[if_pos ⟨trivial,hi,h0⟩,if_pos h0,Xdg]
  ·rw[if_neg (fun hc=>h0 hc.2.2),if_neg h0,Xm5]
theorem Xs5 {L:List Pu} {p:Pu} {s:X06} (hl:L.length<=1000000) (hi:inS s p.1.Time) :
  Xey (L++[p]) p.1.Key s=⟨X3t (Xey L p.1.Key s).e0 (X7f p s).Values.e0,X3t (Xey L p.1.Key s).e1 (X7f p s).Values.e1⟩:=by
 have ok:∀ side,okA (Xdh (vals L p.1.Key s side)):=fun side=>Xj9 (Nat.le_trans (Xkx ..) (by omega))
 unfold Xey X7f
 rw[X53,X53]
 dsimp only
 congr 1
 ·by_cases h0:p.2=0
  ·rw[if_pos ⟨rfl,hi,h0⟩,if_pos h0,Xcx]
  ·rw[if_neg (fun hc=>h0 hc.2.2),if_neg h0,List.append_nil,Xhf (ok 0)]
 ·by_cases h0:p.2=1
  ·rw[if_pos ⟨rfl,hi,h0⟩,if_pos h0,Xcx]
  ·rw[if_neg (fun hc=>h0 hc.2.2),if_neg h0,List.append_nil,Xhf (ok 1)]
theorem Mid.step {w:X0y} {L:List Pu} {p:Pu} {done:X06->Prop} {es:List X4} {s:X06} (hk:w.Kind≠3) (hl:L.length<=1000000) (m:Mid w L p done es) (hs:¬ done s) (hi:Xn1 w.Size (Xdv w) p.1.Time s) :
  Mid w L p (fun x=>done x\/x=s) (Xl9 es (X7f p s)):=by
 have hin:inS s p.1.Time:=hi.2.2
 have hkey:∀ e:X4,X4x e (X7f p s)↔e.Key=p.1.Key/\e.Span=s:=fun e=>Iff.rfl
 refine⟨Xid m.sorted,fun e=>?_⟩
 rw[Xl7 m.sorted]
 by_cases he:X4x e (X7f p s)
 ·have he2:=(hkey e).1 he
  have hno:∀ y∈es,X4x y (X7f p s)->y=⟨p.1.Key,s,Xey L p.1.Key s⟩/\Xf9 w (X92 L p.1.Key) s:=by
   intro y hy hsy
   have hy2:=(hkey y).1 hsy
   rcases(m.mem y).1 hy with ⟨_,h2,_⟩|⟨_,h2,h3⟩
   ·exact absurd (hy2.2▸h2) hs
   ·rw[hy2.1,hy2.2] at h3 h2
    refine⟨?_,h2⟩
    cases y;simp only at hy2 h3;rw[hy2.1,hy2.2,h3]
  have hval:e.Values=Xey (L++[p]) e.Key e.Span↔((e∈es/\¬ X4x e (X7f p s))\/(∃ y∈es,X4x y (X7f p s)/\e=Xki y (X7f p s))\/((∀ y∈es,¬ X4x y (X7f p s))/\e=X7f p s)):=by
   rw[he2.1,he2.2]
   by_cases hex:∃ y∈es,X4x y (X7f p s)
   ·obtain⟨y,hy,hsy⟩:=hex
    obtain⟨hyv,hyw⟩:=hno y hy hsy
    have hmg:Xki y (X7f p s)=⟨p.1.Key,s,Xey (L++[p]) p.1.Key s⟩:=by rw[Xs5 hl hin,hyv];rfl
    constructor
    ·intro hv
     refine .inr (.inl ⟨y,hy,hsy,?_⟩)
     rw[hmg];cases e;simp only at he2 hv;rw[he2.1,he2.2,hv]
    ·rintro(⟨_,h⟩|⟨y',hy',hsy',h⟩|⟨h,_⟩)
     ·exact absurd he h
     ·have:y'=y:=by rw[(hno y' hy' hsy').1,hyv]
      rw[h,this,hmg]
     ·exact absurd hsy (h y hy)
   ·have hex':∀ y∈es,¬ X4x y (X7f p s):=fun y hy h=>hex ⟨y,hy,h⟩
    have hnone:∀ t,X92 L p.1.Key t->¬ inS s t:=by
     intro t ht hst
     have:(⟨p.1.Key,s,Xey L p.1.Key s⟩:X4)∈es:=by
      rw[m.mem]
      refine .inr ⟨fun h=>hs h.2,?_,rfl⟩
      show Xf9 w (X92 L p.1.Key) s
      unfold Xf9
      rw[if_neg hk]
      exact⟨t,ht,hi.1,hi.2.1,hst⟩
     exact hex' _ this ⟨rfl,rfl⟩
    have hvv:=Xuy hnone hin
    constructor
    ·intro hv
     refine .inr (.inr ⟨hex',?_⟩)
     cases e;simp only at he2 hv;rw[he2.1,he2.2,hv,hvv];rfl
    ·rintro(⟨_,h⟩|⟨y',hy',hsy',_⟩|⟨_,h⟩)
     ·exact absurd he h
     ·exact absurd hsy' (hex' y' hy')
     ·rw[h,hvv]
  rw[<-hval]
  constructor
  ·intro h;exact .inl ⟨he2.1,.inr he2.2,h⟩
  ·rintro(⟨_,_,h⟩|⟨h,_⟩)
   ·exact h
   ·exact absurd ⟨he2.1,.inr he2.2⟩ h
 ·have hne:¬ (e.Key=p.1.Key/\e.Span=s):=fun h=>he ((hkey e).2 h)
  constructor
  ·rintro(⟨h1,_⟩|⟨y,hy,hsy,h⟩|⟨_,h⟩)
   ·rcases(m.mem e).1 h1 with ⟨a1,a2,a3⟩|⟨a1,a2⟩
    ·exact .inl ⟨a1,.inl a2,a3⟩
    ·exact .inr ⟨fun h=>a1 ⟨h.1,h.2.resolve_right fun hh=>hne ⟨h.1,hh⟩⟩,a2⟩
   ·exact absurd (by rw[h];exact⟨hsy.1,hsy.2⟩) he
   ·exact absurd (by rw[h];exact⟨rfl,rfl⟩) he
  ·rintro(⟨a1,a2,a3⟩|⟨a1,a2⟩)
   ·exact .inl ⟨(m.mem e).2 (.inl ⟨a1,a2.resolve_right fun hh=>hne ⟨a1,hh⟩,a3⟩),he⟩
   ·exact .inl ⟨(m.mem e).2 (.inr ⟨fun h=>a1 ⟨h.1,.inl h.2⟩,a2⟩),he⟩
theorem Mid.start {w:X0y} {L:List Pu} {p:Pu} {es:List X4} (c:Xf2 w L es):Mid w L p (fun _=>False) es:=by
 refine⟨c.sorted,fun e=>?_⟩
 rw[c.mem];simp
theorem Mid.end {w:X0y} {L:List Pu} {p:Pu} {es:List X4} {done:X06->Prop} (hk:w.Kind≠3) (hd:∀ s,done s↔Xn1 w.Size (Xdv w) p.1.Time s) (m:Mid w L p done es):Xf2 w (L++[p]) es:=by
 refine⟨m.sorted,fun e=>?_,fun h3=>absurd h3 hk⟩
 rw[m.mem]
 unfold Xs6 Xf9
 rw[if_neg hk,if_neg hk]
 by_cases he:e.Key=p.1.Key/\done e.Span
 ·constructor
  ·rintro(⟨_,_,h⟩|⟨h,_⟩)
   ·exact⟨⟨p.1.Time,(X8p ..).2 (.inr ⟨he.1.symm,rfl⟩),(hd _).1 he.2⟩,h⟩
   ·exact absurd he h
  ·rintro⟨_,h⟩;exact .inl ⟨he.1,he.2,h⟩
 ·have hv:Xey (L++[p]) e.Key e.Span=Xey L e.Key e.Span\/∀ t,X92 L e.Key t->¬ Xn1 w.Size (Xdv w) t e.Span:=by
   by_cases hkk:p.1.Key=e.Key/\inS e.Span p.1.Time
   ·right
    intro t _ hw
    exact he ⟨hkk.1.symm,(hd _).2 ⟨hw.1,hw.2.1,hkk.2⟩⟩
   ·left
    unfold Xey
    rw[X53,X53,if_neg (fun h=>hkk ⟨h.1,h.2.1⟩),if_neg (fun h=>hkk ⟨h.1,h.2.1⟩),List.append_nil,List.append_nil]
  constructor
  ·rintro(⟨h1,h2,_⟩|⟨_,⟨t,ht,hw⟩,h⟩)
   ·exact absurd ⟨h1,h2⟩ he
   ·refine⟨⟨t,(X8p ..).2 (.inl ht),hw⟩,?_⟩
    rcases hv with hv|hv
    ·rw[hv];exact h
    ·exact absurd hw (hv t ht)
  ·rintro⟨⟨t,ht,hw⟩,h⟩
   refine .inr ⟨he,?_⟩
   rcases(X8p ..).1 ht with ht|⟨hkey,htt⟩
   ·refine⟨⟨t,ht,hw⟩,?_⟩
    rcases hv with hv|hv
    ·rw[<-hv];exact h
    ·exact absurd hw (hv t ht)
   ·exact absurd ⟨hkey.symm,(hd _).2 (htt▸hw)⟩ he
end Go.D


namespace Go.D
theorem Xly {L:List Pu} (hl:L.length<=1000) (k:Int) (s:X06):okA (Xey L k s).e0/\okA (Xey L k s).e1/\(Xey L k s).e0.Count<=1000/\(Xey L k s).e1.Count<=1000:=by
 have h0:=Xkx L k s 0
 have h1:=Xkx L k s 1
 refine⟨Xj9 (by omega),Xj9 (by omega),?_,?_⟩
 ·show(Xdh _).Count<=1000;rw[X3i];omega
 ·show(Xdh _).Count<=1000;rw[X3i];omega
theorem X01y (p:Pu) (s:X06):okA (X7f p s).Values.e0/\okA (X7f p s).Values.e1/\(X7f p s).Values.e0.Count<=1/\(X7f p s).Values.e1.Count<=1:=by
 unfold X7f
 dsimp only
 refine⟨?_,?_,?_,?_⟩
 ·split
  ·exact Xmv _
  ·exact Xko
 ·split
  ·exact Xmv _
  ·exact Xko
 ·split
  ·exact Int.le_refl _
  ·show(0:Int)<=1;decide
 ·split
  ·exact Int.le_refl _
  ·show(0:Int)<=1;decide
theorem Mid.vals {w:X0y} {L:List Pu} {p:Pu} {done:X06->Prop} {es:List X4} (m:Mid w L p done es) (hl:L.length<=900) {e:X4} (he:e∈es):okA e.Values.e0/\okA e.Values.e1/\e.Values.e0.Count<=1000/\e.Values.e1.Count<=1000:=by
 rcases(m.mem e).1 he with ⟨_,_,h⟩|⟨_,_,h⟩
 ·rw[h];exact Xly (by simp;omega) _ _
 ·rw[h];exact Xly (by omega) _ _
theorem X04j {w:X0y} {L:List Pu} {p:Pu} (hk:w.Kind≠3) (hl:L.length<=900) (Y:List X06):∀ (xs:List X06) (k:Nat) (x0:X4) (l:List X4) (done:X06->Prop),Mid w L p done l->xs.Nodup->(∀ s∈xs,¬ done s/\Xn1 w.Size (Xdv w) p.1.Time s) ->
  x0.Key=p.1.Key->(∀ s,x0.Values=(X7f p s).Values)->l.length+xs.length<=9000->∃ l',X4g Y xs k x0 l=some (.x0 l')/\Mid w L p (fun s=>done s\/s∈xs) l'/\l'.length<=l.length+xs.length:=by
 intro xs
 induction xs with
 |nil=>intro k x0 l done m _ _ _ _ _;exact⟨l,rfl,by simpa using m,by simp⟩
 |cons s xs ih =>
  intro k x0 l done m hnd hs hk0 hv0 hlen
  rw[List.nodup_cons] at hnd
  have hs0:=hs s List.mem_cons_self
  have hx:(⟨x0.Key,s,x0.Values⟩:X4)=X7f p s:=by rw[hk0,hv0 s];rfl
  have er:=X01y p s
  have m2:=m.step hk (by omega) hs0.1 hs0.2
  simp only[List.length_cons] at hlen
  obtain⟨l',h1,h2,h3⟩:=ih (k+1) (X7f p s) (Xl9 l (X7f p s)) _ m2 hnd.2 (fun x hxx=>⟨fun h=>h.elim (hs x (List.mem_cons_of_mem _ hxx)).1 (fun e=>hnd.1 (e▸hxx)),(hs x (List.mem_cons_of_mem _ hxx)).2⟩) rfl (fun _=>rfl) (by have:=Xl8 l (X7f p s);omega)
  refine⟨l',?_,⟨h2.sorted,fun e=>?_⟩,by have:=Xl8 l (X7f p s);simp only[List.length_cons];omega⟩
  ·rw[X4g]
   have key:∀ o,X4g Y xs (k+1) (X7f p s) (Xl9 l (X7f p s))=some o->((Xg l (X4.mk x0.Key s x0.Values)).bind fun v1891=>bif (!v1891.2) then (bif (v1891.1==(List.length l:Int)) then (((X7h l v1891.1 (List.length l:Int)).bind fun m1903=>bif (List.isEmpty m1903) then ((X2f (List.length (l++[(X4.mk x0.Key s x0.Values)])) 88).bind fun u1906=>some ()) else ((X2f (List.length (l++[(X4.mk x0.Key s x0.Values)])) 88).bind fun u1908=>some ()):Option (Unit)).bind fun _=>some ((X4.mk ((X4.mk x0.Key s x0.Values).Key) ((X4.mk x0.Key s x0.Values).Span) (V2.mk (((X4.mk x0.Key s x0.Values).Values).e0) (((X4.mk x0.Key s x0.Values).Values).e1))),(l++[(X4.mk x0.Key s x0.Values)]),0)) else ((Xrr l v1891.1 (X4.mk x0.Key s x0.Values) 88).bind fun m1911=>some ((X4.mk x0.Key s x0.Values),m1911,0))) else ((X32 l v1891.1).bind fun e1913=>((X2g e1913.Values.e0 x0.Values.e0).bind fun v1928=>bif (v1928.2 != (0:Int)) then (some (l,v1928.2)) else ((X2g (((X4.mk e1913.Key e1913.Span (V2.mk v1928.1 e1913.Values.e1)).Values).e1) x0.Values.e1).bind fun v1933=>bif (v1933.2 != (0:Int)) then (some ((List.set l (Int.toNat v1891.1) (X4.mk e1913.Key e1913.Span (V2.mk v1928.1 e1913.Values.e1))),v1933.2)) else (some ((List.set (List.set l (Int.toNat v1891.1) (X4.mk e1913.Key e1913.Span (V2.mk v1928.1 e1913.Values.e1))) (Int.toNat v1891.1) (X4.mk ((X4.mk e1913.Key e1913.Span (V2.mk v1928.1 e1913.Values.e1)).Key) ((X4.mk e1913.Key e1913.Span (V2.mk v1928.1 e1913.Values.e1)).Span) (V2.mk (((X4.mk e1913.Key e1913.Span (V2.mk v1928.1 e1913.Values.e1)).Values).e0) v1933.1))),0))):Option ((List X4)×Int)).bind fun w1925=>some ((X4.mk ((X4.mk x0.Key s x0.Values).Key) ((X4.mk x0.Key s x0.Values).Span) (V2.mk (((X4.mk x0.Key s x0.Values).Values).e0) (((X4.mk x0.Key s x0.Values).Values).e1))),w1925.1,w1925.2)):Option (X4×(List X4)×Int))=some (X7f p s,Xl9 l (X7f p s),0):=by
    intro o _
    rw[X04g m.sorted (by omega),Xtm m.sorted]
    have hle:=Xv9 l (X7f p s)
    have hval:x0.Values=(X7f p s).Values:=hv0 s
    rw[hx,hval]
    cases h:l[cnt l (X7f p s)]? with
    |none =>
     have hc:cnt l (X7f p s)=l.length:=by have:=List.getElem?_eq_none_iff.1 h;omega
     have hsl:X7h l (l.length:Int) (l.length:Int)=some []:=by simp[X7h]
     simp only[Yo,Bool.not_false,cond_true,hc,beq_self_eq_true,hsl]
     rw[X4o (by simp;omega)]
     rfl
    |some y =>
     have hlt:cnt l (X7f p s)<l.length:=(Ys.1 h).1
     simp only[Yo]
     by_cases hkk:X4x y (X7f p s)
     ·obtain⟨a1,a2,a3,a4⟩:=m.vals hl (Yg h)
      simp only[hkk,decide_true,Bool.not_true,cond_false,X49,h,Yo,X48 a1 er.1 (by omega),X48 a2 er.2.1 (by omega),bne_self_eq_false,if_true,Int.toNat_natCast,List.set_set]
      rfl
     ·have hne:((cnt l (X7f p s):Int)==(l.length:Int))=false:=by simp;omega
      have hi:Xrr l (cnt l (X7f p s):Int) (X7f p s) 88=some (l.take (cnt l (X7f p s))++X7f p s::l.drop (cnt l (X7f p s))):=by
       unfold Xrr;rw[if_pos ⟨by omega,by simpa using hlt,by omega⟩];simp
      simp only[hkk,decide_false,Bool.not_false,cond_true,hne,cond_false,hi,Yo,if_false]
   rw[key _ h1,Yo]
   simp only[bne_self_eq_false,cond_false]
   exact h1
  ·rw[h2.mem]
   simp only[List.mem_cons,or_assoc]
theorem Xnf {w:X0y} {L:List Pu} {es:List X4} (hw:okW w) (hL:OkPu w L) (c:Xf2 w L es):∀ e∈es,okE e:=by
 intro e he
 obtain⟨h1,h2⟩:=(c.mem e).1 he
 have hlen:=hL.len
 obtain⟨v1,v2,v3,v4⟩:=Xly (L:=L) (by omega) e.Key e.Span
 rw[<-h2] at v1 v2 v3 v4
 have hpos:∀ t,X92 L e.Key t->inS e.Span t->0<e.Values.e0.Count+e.Values.e1.Count:=by
  intro t ht hi
  have:=Xsx hL.side ht hi
  rw[h2]
  show 0<(Xdh _).Count+(Xdh _).Count
  rw[X3i,X3i];omega
 have htime:∀ t,X92 L e.Key t->okT t:=by
  rintro t ⟨p,hp,_,rfl⟩;exact hL.time p hp
 obtain⟨w1,w2,w3⟩:=hw
 unfold Xf9 at h1
 by_cases hk:w.Kind=3
 ·rw[if_pos hk] at h1
  obtain⟨s1,s2,s3,s4⟩:=h1
  obtain⟨t,ht,a1,a2⟩:=s2 (2*e.Span.Start+1) (by omega) (by omega)
  have hts:t=e.Span.Start:=by
   have:¬ (2*t<2*e.Span.Start):=fun h=>s3 ⟨t,ht,h,by omega⟩
   omega
  obtain⟨t',ht',b1,b2⟩:=s2 (2*e.Span.End - 1) (by omega) (by omega)
  have hte:t'+w.Size=e.Span.End:=by
   have:¬ (2*e.Span.End<2*(t'+w.Size)):=fun h=>s4 ⟨t',ht',by omega,h⟩
   omega
  have q1:=htime t ht
  have q2:=htime t' ht'
  unfold okT at q1 q2
  exact⟨by omega,s1,by omega,v1,v2,hpos t ht ⟨by omega,by omega⟩⟩
 ·rw[if_neg hk] at h1
  obtain⟨t,ht,a1,a2,a3,a4⟩:=h1
  have q1:=htime t ht
  unfold okT at q1
  exact⟨by omega,by omega,by omega,v1,v2,hpos t ht ⟨a3,a4⟩⟩
theorem Xi2 {w:X0y} {L:List Pu} {p:Pu} {es:List X4} (hw:okW w) (hk:w.Kind≠3) (hL:OkPu w (L++[p])) (c:Xf2 w L es) (hn:es.length<=3900) :
  ∃ es',X6v es w p.1 p.2=some (es',0)/\Xf2 w (L++[p]) es'/\es'.length<=es.length+16:=by
 have ht:=hL.time p (by simp)
 have hsd:=hL.side p (by simp)
 have hll:=hL.init.len
 obtain⟨W,hW,hWl,hWn,hWm⟩:=Xi3 hw hk ht
 obtain⟨l',h1,h2,h3⟩:=X04j (w:=w) (L:=L) (p:=p) hk (by omega) W W 0 (X7f p ⟨0,0⟩) es _ (Mid.start c) hWn (fun s hs=>⟨fun h=>h,(hWm s).1 hs⟩) rfl (fun _=>rfl) (by omega)
 refine⟨l',?_,Mid.end hk (fun s=>by simpa using hWm s) h2,by omega⟩
 unfold X6v
 have e1:(bif (p.2 != 0) then (p.2 != 1) else false)=false:=by rcases hsd with h|h<;>simp[h]
 have e2:(bif (decide (p.1.Time<((-1099511627776):Int))) then true else (decide (p.1.Time>(1099511627776:Int))))=false:=by
  unfold okT at ht
  have a:decide (p.1.Time<((-1099511627776):Int))=false:=by simp;omega
  have b:decide (p.1.Time>(1099511627776:Int))=false:=by simp;omega
  rw[a,b];rfl
 have e3:((X9x p.1.Value).bind fun v14=>bif (p.2==(0:Int)) then (some (X4.mk p.1.Key (X06.mk 0 0) (V2.mk v14 (X0q.mk 0 0 0 0)))) else (bif (p.2==(1:Int)) then (some (X4.mk p.1.Key (X06.mk 0 0) (V2.mk (X0q.mk 0 0 0 0) v14))) else none):Option (X4))=some (X7f p ⟨0,0⟩):=by
  simp only[X9x,Yo]
  rcases hsd with h|h
  ·simp[h,X7f,ofA,Xc4]
  ·simp[h,X7f,ofA,Xc4]
 have e4:(bif (List.isEmpty es) then (some es) else ((X2f (List.length es) 88).bind fun u28=>some es):Option ((List X4)))=some es:=by
  rw[X4o (by omega)]
  cases List.isEmpty es<;>rfl
 have e5:(w.Kind==3)=false:=by simp[hk]
 rw[Xaj c.sorted (Xnf hw hL.init c) (by omega),Yo]
 simp only[bne_self_eq_false,cond_false,X4f hw,Yo,e1,e2]
 rw[e3,Yo,e4,Yo]
 simp only[e5,cond_false,hW,Yo,bne_self_eq_false]
 rw[X35 (by omega),Yo,h1,Yo]
 have e6:decide ((l'.length:Int)>4000)=false:=by simp;omega
 simp only[e6,cond_false]
end Go.D


namespace Go.D
theorem Xq8 {size:Int} {T:Int->Prop} {a b:X06} (ha:Xi9 size T a) (hb:Xi9 size T b) (h1:a.Start<b.End) (h2:b.Start<a.End):a=b:=by
 obtain⟨a1,a2,a3,a4⟩:=ha
 obtain⟨b1,b2,b3,b4⟩:=hb
 apply Xhb
 ·rcases Xzc a.Start b.Start with h|h
  ·exact absurd (a2 (2*b.Start) (by omega) (by omega)) b3
  ·rcases Xzc b.Start a.Start with h'|h'
   ·exact absurd (b2 (2*a.Start) (by omega) (by omega)) a3
   ·omega
 ·rcases Xzc a.End b.End with h|h
  ·exact absurd (b2 (2*a.End) (by omega) (by omega)) a4
  ·rcases Xzc b.End a.End with h'|h'
   ·exact absurd (a2 (2*b.End) (by omega) (by omega)) b4
   ·omega
theorem Xhi {size:Int} {T T':Int->Prop} (h:∀ t,T t->T' t) {x:Int} (c:cov size T x):cov size T' x:=by
 obtain⟨t,h1,h2⟩:=c;exact⟨t,h t h1,h2⟩
def X90 (L:List Pu) (k:Int) (M:List X4) (side:Int):List Int:=(L.filter fun q=>decide (q.1.Key=k/\(∃ m∈M,inS m.Span q.1.Time)/\q.2=side)).map fun q=>q.1.Value
def pv (p:Pu) (side:Int):List Int:=if p.2=side then [p.1.Value] else []
theorem Xuv {α:Type} (a b:α->Bool):∀ (l:List α),(∀ q∈l,¬ (a q=true/\b q=true))->(l.filter fun q=>a q||b q).Perm (l.filter a++l.filter b):=by
 intro l
 induction l with
 |nil=>intro _;simp
 |cons x l ih =>
  intro h
  have ih':=ih fun q hq=>h q (List.mem_cons_of_mem _ hq)
  have hx:=h x List.mem_cons_self
  cases ha:a x with
  |true =>
   have hb:b x=false:=by cases hb:b x with|true=>exact absurd ⟨ha,hb⟩ hx|false=>rfl
   rw[List.filter_cons_of_pos (by simp[ha]),List.filter_cons_of_pos ha,List.filter_cons_of_neg (by simp[hb])]
   exact ih'.cons x
  |false =>
   cases hb:b x with
   |true =>
    rw[List.filter_cons_of_pos (by simp[hb]),List.filter_cons_of_neg (by simp[ha]),List.filter_cons_of_pos hb]
    exact(ih'.cons x).trans List.perm_middle.symm
   |false =>
    rw[List.filter_cons_of_neg (by simp[ha,hb]),List.filter_cons_of_neg (by simp[ha]),List.filter_cons_of_neg (by simp[hb])]
    exact ih'
theorem Xnv {L:List Pu} {k:Int} {M:List X4} {y:X4} {side:Int} (h:∀ q∈L,q.1.Key=k->inS y.Span q.1.Time->¬ ∃ m∈M,inS m.Span q.1.Time) :
  (X90 L k (y::M) side).Perm (X90 L k M side++vals L k y.Span side):=by
 unfold X90 vals
 rw[<-List.map_append]
 refine List.Perm.map _ ?_
 have h1:=Xuv (fun q:Pu=>decide (q.1.Key=k/\(∃ m∈M,inS m.Span q.1.Time)/\q.2=side)) (fun q=>decide (q.1.Key=k/\inS y.Span q.1.Time/\q.2=side)) L (fun q hq hc=>by
  simp only[decide_eq_true_eq] at hc
  exact h q hq hc.1.1 hc.2.2.1 hc.1.2.1)
 refine List.Perm.trans (List.Perm.of_eq ?_) h1
 refine List.filter_congr fun q _=>?_
 rw[Bool.eq_iff_iff]
 simp only[decide_eq_true_eq,Bool.or_eq_true,List.mem_cons]
 constructor
 ·rintro⟨a1,⟨m,hm|hm,hi⟩,a2⟩
  ·exact .inr ⟨a1,by rw[<-hm];exact hi,a2⟩
  ·exact .inl ⟨a1,⟨m,hm,hi⟩,a2⟩
 ·rintro(⟨a1,⟨m,hm,hi⟩,a2⟩|⟨a1,hi,a2⟩)
  ·exact⟨a1,⟨m,.inr hm,hi⟩,a2⟩
  ·exact⟨a1,⟨y,.inl rfl,hi⟩,a2⟩
theorem Xau (L:List Pu) (k:Int) (M:List X4) (side:Int):(X90 L k M side).length<=L.length:=by unfold X90;rw[List.length_map];exact List.length_filter_le _ _
theorem Xms (p:Pu) (side:Int):(pv p side).length<=1:=by unfold pv;split<;>simp
def olap (x y:X4):Prop:=y.Key=x.Key/\y.Span.Start<x.Span.End/\x.Span.Start<y.Span.End
instance (x y:X4):Decidable (olap x y):=by unfold olap;infer_instance
structure Ses (w:X0y) (L:List Pu) (p:Pu) (es l:List X4) (x:X4) (M:List X4):Prop where
 sub:l.Sublist es
 part:∀ e,e∈es↔e∈l\/e∈M
 apart:∀ e∈l,e ∉ M
 keyM:∀ m∈M,m.Key=p.1.Key
 key:x.Key=p.1.Key
 own:x.Span.Start<=p.1.Time/\p.1.Time+w.Size<=x.Span.End
 inner:∀ z,2*x.Span.Start<z->z<2*x.Span.End->cov w.Size (fun t=>X92 L p.1.Key t\/t=p.1.Time) z
 hull:∀ m∈M,x.Span.Start<=m.Span.Start/\m.Span.End<=x.Span.End
 val0:x.Values.e0=Xdh (pv p 0++X90 L p.1.Key M 0)
 val1:x.Values.e1=Xdh (pv p 1++X90 L p.1.Key M 1)
theorem Xvk (p:Pu) (s:X06):(X7f p s).Values.e0=Xdh (pv p 0)/\(X7f p s).Values.e1=Xdh (pv p 1):=by
 unfold X7f pv
 constructor
 ·dsimp only;split
  ·exact(Xdg _).symm
  ·rfl
 ·dsimp only;split
  ·exact(Xdg _).symm
  ·rfl
theorem Ses.start {w:X0y} {L:List Pu} {p:Pu} {es:List X4} (hw:1<=w.Size):Ses w L p es es (X7f p ⟨p.1.Time,p.1.Time+w.Size⟩) []:=by
 have hv:∀ side,X90 L p.1.Key [] side=[]:=fun side=>by unfold X90;simp
 refine⟨.refl _,fun e=>by simp,fun e _=>by simp,fun m hm=>(by cases hm),rfl,⟨Int.le_refl _,Int.le_refl _⟩,fun z h1 h2=>?_,fun m hm=>(by cases hm),?_,?_⟩
 ·exact⟨p.1.Time,.inr rfl,h1,h2⟩
 ·rw[hv,List.append_nil];exact(Xvk p _).1
 ·rw[hv,List.append_nil];exact(Xvk p _).2
def Xn2 (x y:X4):X4:=⟨x.Key,⟨if y.Span.Start<x.Span.Start then y.Span.Start else x.Span.Start,if y.Span.End>x.Span.End then y.Span.End else x.Span.End⟩,⟨X3t x.Values.e0 y.Values.e0,X3t x.Values.e1 y.Values.e1⟩⟩
theorem Ses.step {w:X0y} {L:List Pu} {p:Pu} {es l:List X4} {x:X4} {M:List X4} (hk:w.Kind=3) (hl:L.length<=900) (c:Xf2 w L es) (s:Ses w L p es l x M) {i:Nat} {y:X4} (hi:l[i]?=some y) (ho:olap x y) :
  Ses w L p es (l.take i++l.drop (i+1)) (Xn2 x y) (y::M):=by
 have hyl:y∈l:=Yg hi
 have hye:y∈es:=(s.part y).2 (.inl hyl)
 have hyM:=s.apart y hyl
 have hky:y.Key=p.1.Key:=ho.1.trans s.key
 obtain⟨hyw,hyv⟩:=(c.mem y).1 hye
 unfold Xf9 at hyw
 rw[if_pos hk,hky] at hyw
 rw[hky] at hyv
 have hlt:i<l.length:=(Ys.1 hi).1
 have hsplit:l=l.take i++y::l.drop (i+1):=by
  have:l[i]=y:=(Ys.1 hi).2
  rw[<-this,<-List.drop_eq_getElem_cons hlt,List.take_append_drop]
 have hnd:l.Nodup:=s.sub.nodup (List.Pairwise.imp (R:=ltE) (S:=fun a b=>a≠b) (fun {a b} h (e:a=b)=>Xrj b (by rw[e] at h;exact h)) c.sorted)
 have hyn:y ∉ l.take i++l.drop (i+1):=by
  rw[hsplit] at hnd
  exact(List.nodup_cons.1 (List.perm_middle.nodup_iff.1 hnd)).1
 have hmem:∀ e,e∈l↔e=y\/e∈l.take i++l.drop (i+1):=by
  intro e
  rw[hsplit]
  simp only[List.mem_append,List.mem_cons]
  rw[<-hsplit]
  constructor
  ·rintro(h|h|h)
   ·exact .inr (.inl h)
   ·exact .inl h
   ·exact .inr (.inr h)
  ·rintro(h|h|h)
   ·exact .inr (.inl h)
   ·exact .inl h
   ·exact .inr (.inr h)
 have hdis:∀ q∈L,q.1.Key=p.1.Key->inS y.Span q.1.Time->¬ ∃ m∈M,inS m.Span q.1.Time:=by
  rintro q hq _ hyq ⟨m,hm,hmq⟩
  have hme:m∈es:=(s.part m).2 (.inr hm)
  obtain⟨hmw,hmv⟩:=(c.mem m).1 hme
  unfold Xf9 at hmw
  rw[if_pos hk,s.keyM m hm] at hmw
  rw[s.keyM m hm] at hmv
  unfold inS at hyq hmq
  have hsp:y.Span=m.Span:=Xq8 hyw hmw (by omega) (by omega)
  have:y=m:=by cases y;cases m;simp only at hky hyv hsp hmv;simp only[X4.mk.injEq];exact⟨hky.trans (s.keyM _ hm).symm,hsp,by rw[hyv,hmv,hsp]⟩
  exact hyM (this▸hm)
 have hval:∀ side,(pv p side++X90 L p.1.Key M side).length<=1073741824:=fun side=>by
  have:=Xms p side;have:=Xau L p.1.Key M side;simp;omega
 have hperm:∀ side,Xdh (pv p side++X90 L p.1.Key (y::M) side)=X3t (Xdh (pv p side++X90 L p.1.Key M side)) (Xdh (vals L p.1.Key y.Span side)):=fun side=>by
  have hp:=(Xnv (L:=L) (k:=p.1.Key) (M:=M) (y:=y) (side:=side) hdis).append_left (pv p side)
  rw[Xnk hp (by have:=Xms p side;have:=Xau L p.1.Key (y::M) side;simp;omega),<-List.append_assoc,X6k]
 obtain⟨_,o1,o2⟩:=ho
 refine⟨?_,fun e=>?_,fun e he hm=>?_,fun m hm=>?_,s.key,?_,fun z h1 h2=>?_,fun m hm=>?_,?_,?_⟩
 ·refine List.Sublist.trans ?_ s.sub
  conv=>rhs;rw[hsplit]
  exact List.Sublist.append_left (List.sublist_cons_self _ _) _
 ·rw[s.part,hmem,List.mem_cons]
  constructor
  ·rintro((h|h)|h)
   ·exact .inr (.inl h)
   ·exact .inl h
   ·exact .inr (.inr h)
  ·rintro(h|h|h)
   ·exact .inl (.inr h)
   ·exact .inl (.inl h)
   ·exact .inr h
 ·rcases List.mem_cons.1 hm with h|h
  ·exact hyn (h▸he)
  ·exact s.apart e ((hmem e).2 (.inr he)) h
 ·rcases List.mem_cons.1 hm with h|h
  ·rw[h];exact hky
  ·exact s.keyM m h
 ·have:=s.own
  unfold Xn2
  constructor
  ·dsimp only;split<;>omega
  ·dsimp only;split<;>omega
 ·have hz:(2*x.Span.Start<z/\z<2*x.Span.End)\/(2*y.Span.Start<z/\z<2*y.Span.End):=by
   unfold Xn2 at h1 h2
   dsimp only at h1 h2
   split at h1<;>split at h2<;>omega
  rcases hz with ⟨g1,g2⟩|⟨g1,g2⟩
  ·exact s.inner z g1 g2
  ·exact Xhi (fun t h=>.inl h) (hyw.2.1 z g1 g2)
 ·have hx:(Xn2 x y).Span.Start<=x.Span.Start/\x.Span.End<=(Xn2 x y).Span.End/\(Xn2 x y).Span.Start<=y.Span.Start/\y.Span.End<=(Xn2 x y).Span.End:=by
   unfold Xn2;dsimp only
   refine⟨?_,?_,?_,?_⟩<;>split<;>omega
  rcases List.mem_cons.1 hm with h|h
  ·rw[h];exact⟨hx.2.2.1,hx.2.2.2⟩
  ·have:=s.hull m h;omega
 ·show X3t x.Values.e0 y.Values.e0=_
  rw[hperm,s.val0,hyv];rfl
 ·show X3t x.Values.e1 y.Values.e1=_
  rw[hperm,s.val1,hyv];rfl
theorem Ses.end {w:X0y} {L:List Pu} {p:Pu} {es l:List X4} {x:X4} {M:List X4} (hk:w.Kind=3) (hw:1<=w.Size) (hl:L.length<=900) (c:Xf2 w L es) (s:Ses w L p es l x M) (hno:∀ y∈l,¬ olap x y):Xf2 w (L++[p]) (Xl9 l x):=by
 have hsl:l.Pairwise ltE:=c.sorted.sublist s.sub
 have hxx:x.Span.Start<x.Span.End:=by have:=s.own;omega
 have hnl:∀ y∈l,y.Key=p.1.Key->¬ (y.Span.Start<x.Span.End/\x.Span.Start<y.Span.End):=fun y hy hky h=>hno y hy ⟨hky.trans s.key.symm,h.1,h.2⟩
 have hT:(X92 (L++[p]) p.1.Key)=fun t=>X92 L p.1.Key t\/t=p.1.Time:=by
  funext t;apply propext;rw[X8p]
  exact⟨fun h=>h.imp id fun h=>h.2.symm,fun h=>h.imp id fun h=>⟨rfl,h.symm⟩⟩
 have hes:∀ e∈es,e.Key=p.1.Key->Xi9 w.Size (X92 L p.1.Key) e.Span:=by
  intro e he hke
  have:=((c.mem e).1 he).1
  unfold Xf9 at this
  rw[if_pos hk,hke] at this;exact this
 have hxw:Xi9 w.Size (fun t=>X92 L p.1.Key t\/t=p.1.Time) x.Span:=by
  refine⟨hxx,s.inner,?_,?_⟩
  ·rintro⟨t,ht|ht,h1,h2⟩
   ·obtain⟨e,he,hke,a1,a2⟩:=c.cover hk _ t ht
    rcases(s.part e).1 he with h|h
    ·exact hnl e h hke ⟨by omega,by omega⟩
    ·have:=s.hull e h;omega
   ·have:=s.own;omega
  ·rintro⟨t,ht|ht,h1,h2⟩
   ·obtain⟨e,he,hke,a1,a2⟩:=c.cover hk _ t ht
    rcases(s.part e).1 he with h|h
    ·exact hnl e h hke ⟨by omega,by omega⟩
    ·have:=s.hull e h;omega
   ·have:=s.own;omega
 have hpin:inS x.Span p.1.Time:=by have:=s.own;unfold inS;omega
 have hxv:x.Values=Xey (L++[p]) p.1.Key x.Span:=by
  have hv:∀ side,Xdh (pv p side++X90 L p.1.Key M side)=Xdh (vals (L++[p]) p.1.Key x.Span side):=by
   intro side
   have h1:vals L p.1.Key x.Span side=X90 L p.1.Key M side:=by
    unfold vals X90
    congr 1
    refine List.filter_congr fun q hq=>?_
    rw[Bool.eq_iff_iff]
    simp only[decide_eq_true_eq]
    constructor
    ·rintro⟨a1,a2,a3⟩
     refine⟨a1,?_,a3⟩
     obtain⟨e,he,hke,b1,b2⟩:=c.cover hk _ q.1.Time ⟨q,hq,a1,rfl⟩
     unfold inS at a2
     rcases(s.part e).1 he with h|h
     ·exact absurd ⟨by omega,by omega⟩ (hnl e h hke)
     ·exact⟨e,h,by unfold inS;omega⟩
    ·rintro⟨a1,⟨m,hm,b1,b2⟩,a3⟩
     have:=s.hull m hm
     exact⟨a1,⟨by omega,by omega⟩,a3⟩
   have h2:(if p.1.Key=p.1.Key/\inS x.Span p.1.Time/\p.2=side then [p.1.Value] else [])=pv p side:=by
    unfold pv
    by_cases h:p.2=side
    ·rw[if_pos ⟨rfl,hpin,h⟩,if_pos h]
    ·rw[if_neg (fun hc=>h hc.2.2),if_neg h]
   rw[X53,h1,h2]
   exact Xnk List.perm_append_comm (by have:=Xms p side;have:=Xau L p.1.Key M side;simp;omega)
  have h0:=s.val0
  have h1:=s.val1
  rw[hv] at h0 h1
  unfold Xey
  rw[<-h0,<-h1]
 have hns:∀ y∈l,¬ X4x y x:=fun y hy hs=>hno y hy ⟨hs.1,by rw[hs.2];exact hxx,by rw[hs.2];exact hxx⟩
 have hput:∀ e,e∈Xl9 l x↔e∈l\/e=x:=by
  intro e
  rw[Xl7 hsl]
  constructor
  ·rintro(⟨h,_⟩|⟨y,hy,hs,_⟩|⟨_,h⟩)
   ·exact .inl h
   ·exact absurd hs (hns y hy)
   ·exact .inr h
  ·rintro(h|h)
   ·exact .inl ⟨h,hns e h⟩
   ·exact .inr (.inr ⟨hns,h⟩)
 refine⟨Xid hsl,fun e=>?_,fun _ k t ht=>?_⟩
 ·rw[hput]
  unfold Xs6 Xf9
  rw[if_pos hk]
  by_cases hke:e.Key=p.1.Key
  ·rw[hke,hT]
   have hsame:¬ (e.Span.Start<x.Span.End/\x.Span.Start<e.Span.End)->(Xi9 w.Size (fun t=>X92 L p.1.Key t\/t=p.1.Time) e.Span/\e.Values=Xey (L++[p]) p.1.Key e.Span↔Xi9 w.Size (X92 L p.1.Key) e.Span/\e.Values=Xey L p.1.Key e.Span):=by
    intro hn
    have hown:=s.own
    have hpn:e.Span.Start<e.Span.End->¬ inS e.Span p.1.Time:=fun h hi=>by unfold inS at hi;exact hn ⟨by omega,by omega⟩
    have hvv:e.Span.Start<e.Span.End->Xey (L++[p]) p.1.Key e.Span=Xey L p.1.Key e.Span:=fun h=>by
     unfold Xey
     rw[X53,X53,if_neg (fun hc=>hpn h hc.2.1),if_neg (fun hc=>hpn h hc.2.1),List.append_nil,List.append_nil]
    constructor
    ·rintro⟨⟨a1,a2,a3,a4⟩,hv⟩
     refine⟨⟨a1,fun z h1 h2=>?_,fun h=>a3 (Xhi (fun t h=>.inl h) h),fun h=>a4 (Xhi (fun t h=>.inl h) h)⟩,by rw[hv,hvv a1]⟩
     obtain⟨t,ht|ht,b1,b2⟩:=a2 z h1 h2
     ·exact⟨t,ht,b1,b2⟩
     ·exact absurd ⟨by omega,by omega⟩ hn
    ·rintro⟨⟨a1,a2,a3,a4⟩,hv⟩
     refine⟨⟨a1,fun z h1 h2=>Xhi (fun t h=>.inl h) (a2 z h1 h2),?_,?_⟩,by rw[hv,hvv a1]⟩
     ·rintro⟨t,ht|ht,b1,b2⟩
      ·exact a3 ⟨t,ht,b1,b2⟩
      ·exact hn ⟨by omega,by omega⟩
     ·rintro⟨t,ht|ht,b1,b2⟩
      ·exact a4 ⟨t,ht,b1,b2⟩
      ·exact hn ⟨by omega,by omega⟩
   constructor
   ·rintro(h|h)
    ·have he:e∈es:=(s.part e).2 (.inl h)
     refine(hsame (hnl e h hke)).2 ⟨hes e he hke,?_⟩
     have:=((c.mem e).1 he).2
     rw[hke] at this;exact this
    ·rw[h];exact⟨hxw,hxv⟩
   ·intro h
    by_cases hov:e.Span.Start<x.Span.End/\x.Span.Start<e.Span.End
    ·right
     have hsp:=Xq8 h.1 hxw hov.1 hov.2
     have hkx:=s.key
     obtain⟨_,h2⟩:=h
     rw[hsp] at h2
     cases e;cases x
     simp only at hke hsp h2 hkx hxv
     simp only[X4.mk.injEq]
     exact⟨hke.trans hkx.symm,hsp,by rw[h2,hxv]⟩
    ·left
     have h3:=(hsame hov).1 h
     have he:e∈es:=(c.mem e).2 ⟨by unfold Xf9;rw[if_pos hk,hke];exact h3.1,by rw[hke];exact h3.2⟩
     rcases(s.part e).1 he with h4|h4
     ·exact h4
     ·have:=s.hull e h4
      exact absurd ⟨by have:=h3.1.1;omega,by have:=h3.1.1;omega⟩ hov
  ·have hT2:X92 (L++[p]) e.Key=X92 L e.Key:=by
    funext t;apply propext;rw[X8p]
    exact⟨fun h=>h.resolve_right fun hc=>hke hc.1.symm,.inl⟩
   have hV2:Xey (L++[p]) e.Key e.Span=Xey L e.Key e.Span:=by
    unfold Xey
    rw[X53,X53,if_neg (fun hc=>hke hc.1.symm),if_neg (fun hc=>hke hc.1.symm),List.append_nil,List.append_nil]
   rw[hT2,hV2]
   constructor
   ·rintro(h|h)
    ·have:=(c.mem e).1 ((s.part e).2 (.inl h))
     unfold Xs6 Xf9 at this
     rw[if_pos hk] at this;exact this
    ·exact absurd (by rw[h];exact s.key) hke
   ·intro h
    have he:e∈es:=(c.mem e).2 (by unfold Xs6 Xf9;rw[if_pos hk];exact h)
    rcases(s.part e).1 he with h4|h4
    ·exact .inl h4
    ·exact absurd (s.keyM e h4) hke
 ·rcases(X8p ..).1 ht with ht|⟨h1,h2⟩
  ·obtain⟨e,he,hke,a1,a2⟩:=c.cover hk k t ht
   rcases(s.part e).1 he with h|h
   ·exact⟨e,(hput e).2 (.inl h),hke,a1,a2⟩
   ·have:=s.hull e h
    exact⟨x,(hput x).2 (.inr rfl),s.key.trans ((s.keyM e h).symm.trans hke),by omega,by omega⟩
  ·have:=s.own
   exact⟨x,(hput x).2 (.inr rfl),s.key.trans h1,by omega,by omega⟩
end Go.D


namespace Go.D
theorem Xya (Y:List X4) (x:X4):∀ (xs:List X4) (k:Nat),(Xh Y x xs k=some .x0/\∀ y∈xs,¬ olap x y) \/
  ∃ (i:Nat) (y:X4),Xh Y x xs k=some (.x1 ((k+i:Nat):Int))/\xs[i]?=some y/\olap x y:=by
 intro xs
 induction xs with
 |nil=>intro k;exact .inl ⟨rfl,fun y hy=>by cases hy⟩
 |cons z xs ih =>
  intro k
  rw[Xh]
  by_cases h:olap x z
  ·right
   have:(bif (bif (z.Key==x.Key) then (decide (z.Span.Start<x.Span.End)) else false) then (decide (x.Span.Start<z.Span.End)) else false)=true:=by
    obtain⟨h1,h2,h3⟩:=h;simp[h1,h2,h3]
   rw[this,cond_true]
   exact⟨0,z,rfl,rfl,h⟩
  ·have:(bif (bif (z.Key==x.Key) then (decide (z.Span.Start<x.Span.End)) else false) then (decide (x.Span.Start<z.Span.End)) else false)=false:=by
    rw[<-Bool.not_eq_true]
    intro hc
    apply h
    by_cases h1:z.Key=x.Key
    ·by_cases h2:z.Span.Start<x.Span.End
     ·by_cases h3:x.Span.Start<z.Span.End
      ·exact⟨h1,h2,h3⟩
      ·simp[h1,h2,h3] at hc
     ·simp[h1,h2] at hc
    ·have:(z.Key==x.Key)=false:=by simp[h1]
     simp[this] at hc
   rw[this,cond_false]
   rcases ih (k+1) with ⟨h1,h2⟩|⟨i,y,h1,h2,h3⟩
   ·exact .inl ⟨h1,fun y hy=>(List.mem_cons.1 hy).elim (fun e=>e▸h) (h2 y)⟩
   ·exact .inr ⟨i+1,y,by rw[h1];congr 2;omega,by simpa using h2,h3⟩
theorem X00r {w:X0y} {L:List Pu} {p:Pu} {es:List X4} (hk:w.Kind=3) (hw:1<=w.Size) (hl:L.length<=900) (hn:es.length<=3900) (c:Xf2 w L es) (hu:∀ e∈es,okA e.Values.e0/\okA e.Values.e1/\e.Values.e0.Count<=1000/\e.Values.e1.Count<=1000):∀ (f:Nat) (l:List X4) (x:X4) (M:List X4),l.length<f->Ses w L p es l x M ->
  ∃ es',X1r f l x=some (.x0 es' 0)/\Xf2 w (L++[p]) es'/\es'.length<=es.length+1:=by
 intro f
 induction f with
 |zero=>intro l x M h;omega
 |succ f ih =>
  intro l x M hf s
  have hsl:l.Pairwise ltE:=c.sorted.sublist s.sub
  have hll:l.length<=es.length:=s.sub.length_le
  have hxv:okA x.Values.e0/\okA x.Values.e1/\x.Values.e0.Count<=1000/\x.Values.e1.Count<=1000:=by
   have h0:=Xms p 0
   have h1:=Xms p 1
   have h2:=Xau L p.1.Key M 0
   have h3:=Xau L p.1.Key M 1
   rw[s.val0,s.val1]
   refine⟨Xj9 (by simp;omega),Xj9 (by simp;omega),?_,?_⟩
   ·rw[X3i];simp;omega
   ·rw[X3i];simp;omega
  rw[X1r]
  rw[X35 (by omega),Yo]
  rcases Xya l x l 0 with ⟨h1,h2⟩|⟨i,y,h1,h2,h3⟩
  ·rw[h1]
   simp only[Yo]
   have hneg:decide ((-1:Int)<0)=true:=by decide
   rw[hneg,cond_true]
   have hput:=X00k (x:=x) hsl (by omega) ⟨hxv.1,hxv.2.1⟩ (fun y hy _=>by
    obtain⟨a1,a2,a3,a4⟩:=hu y ((s.part y).2 (.inl hy))
    exact⟨a1,a2,by omega,by omega⟩)
   unfold putF at hput
   refine⟨Xl9 l x,?_,Ses.end hk hw hl c s h2,by have:=Xl8 l x;omega⟩
   rw[hput]
   rfl
  ·rw[h1]
   have hlt:i<l.length:=(Ys.1 h2).1
   simp only[Yo,Nat.zero_add]
   have hneg:decide ((i:Int)<0)=false:=by simp
   rw[hneg,cond_false,X49,h2,Yo]
   obtain⟨a1,a2,a3,a4⟩:=hu y ((s.part y).2 (.inl (Yg h2)))
   have hd:delI l (i:Int)=some (l.take i++l.drop (i+1)):=by
    unfold delI;rw[if_pos ⟨by omega,by simpa using hlt,by omega⟩];simp
   simp only[X48 hxv.1 a1 (by omega),X48 hxv.2.1 a2 (by omega),Yo,bne_self_eq_false,cond_false,hd]
   have hstep:=s.step hk hl c h2 h3
   exact ih _ _ _ (by simp;omega) hstep
theorem Xl1 {w:X0y} {L:List Pu} {p:Pu} {es:List X4} (hw:okW w) (hk:w.Kind=3) (hL:OkPu w (L++[p])) (c:Xf2 w L es) (hn:es.length<=3900) :
  ∃ es',X6v es w p.1 p.2=some (es',0)/\Xf2 w (L++[p]) es'/\es'.length<=es.length+1:=by
 have ht:=hL.time p (by simp)
 have hsd:=hL.side p (by simp)
 have hll:=hL.init.len
 have hw1:=hw.1
 have hw2:=hw.2.1
 have hu:∀ e∈es,okA e.Values.e0/\okA e.Values.e1/\e.Values.e0.Count<=1000/\e.Values.e1.Count<=1000:=fun e he=>by
  have:=((c.mem e).1 he).2
  rw[this];exact Xly (by omega) _ _
 obtain⟨es',h1,h2,h3⟩:=X00r hk hw1 (by omega) hn c hu FU es _ [] (by unfold FU;omega) (Ses.start (p:=p) hw1)
 refine⟨es',?_,h2,h3⟩
 have ht':=ht
 unfold okT at ht'
 unfold X6v
 have e1:(bif (p.2 != 0) then (p.2 != 1) else false)=false:=by rcases hsd with h|h<;>simp[h]
 have b1:decide (p.1.Time<((-1099511627776):Int))=false:=by simp;omega
 have b2:decide (p.1.Time>(1099511627776:Int))=false:=by simp;omega
 have e2:(bif (decide (p.1.Time<((-1099511627776):Int))) then true else (decide (p.1.Time>(1099511627776:Int))))=false:=by rw[b1,b2];rfl
 have e3:((X9x p.1.Value).bind fun v14=>bif (p.2==(0:Int)) then (some (X4.mk p.1.Key (X06.mk 0 0) (V2.mk v14 (X0q.mk 0 0 0 0)))) else (bif (p.2==(1:Int)) then (some (X4.mk p.1.Key (X06.mk 0 0) (V2.mk (X0q.mk 0 0 0 0) v14))) else none):Option (X4))=some (X7f p ⟨0,0⟩):=by
  simp only[X9x,Yo]
  rcases hsd with h|h
  ·simp[h,X7f,ofA,Xc4]
  ·simp[h,X7f,ofA,Xc4]
 have e4:(bif (List.isEmpty es) then (some es) else ((X2f (List.length es) 88).bind fun u28=>some es):Option ((List X4)))=some es:=by
  rw[X4o (by omega)]
  cases List.isEmpty es<;>rfl
 have e5:(w.Kind==3)=true:=by simp[hk]
 have c1:decide (w.Size<1)=false:=by simp;omega
 have c2:decide (w.Size>1073741824)=false:=by simp;omega
 have e6:X3r 0 w.Size=some 0:=by
  simp only[X3r,c1,c2,cond_false];rfl
 have e7:X3r p.1.Time w.Size=some 0:=by
  simp only[X3r,c1,c2,cond_false,b1,b2]
 have e8:X8l 1=some 1:=by decide +kernel
 rw[Xaj c.sorted (Xnf hw hL.init c) (by omega),Yo]
 simp only[bne_self_eq_false,cond_false,X4f hw,Yo,e1,e2]
 rw[e3,Yo,e4,Yo]
 simp only[e5,cond_true,e6,e7,e8,Yo,bne_self_eq_false,cond_false]
 have hg:X32 [X06.mk p.1.Time (IntKind.i64.wrap (p.1.Time+w.Size))] 0=some ⟨p.1.Time,p.1.Time+w.Size⟩:=by
  rw[X0e (by omega) (by omega)];rfl
 rw[hg,Yo]
 have hent:(⟨(X7f p ⟨0,0⟩).Key,⟨p.1.Time,p.1.Time+w.Size⟩,(X7f p ⟨0,0⟩).Values⟩:X4)=X7f p ⟨p.1.Time,p.1.Time+w.Size⟩:=rfl
 rw[hent,h1,Yo,Yo]
 have e9:decide ((es'.length:Int)>4000)=false:=by simp;omega
 simp only[bne_self_eq_false,cond_false,e9]
theorem Xmk {w:X0y} {L:List Pu} {p:Pu} {es:List X4} (hw:okW w) (hL:OkPu w (L++[p])) (c:Xf2 w L es) (hn:es.length<=3900) :
  ∃ es',X6v es w p.1 p.2=some (es',0)/\Xf2 w (L++[p]) es'/\es'.length<=es.length+16:=by
 by_cases hk:w.Kind=3
 ·obtain⟨es',h1,h2,h3⟩:=Xl1 hw hk hL c hn
  exact⟨es',h1,h2,by omega⟩
 ·exact Xi2 hw hk hL c hn
end Go.D


namespace Go.D
structure RQ (q:X0b):Prop where
 w:QW q
 ok:(Xtl q).2=0
theorem RQ.cz {q:X0b} (h:RQ q):Xsr q=0:=by
 have:=h.ok
 unfold Xtl at this
 split at this
 ·rename_i h1;exact absurd this h1
 ·rename_i h1;omega
theorem RQ.facts {q:X0b} (h:RQ q):(1<=q.Agg/\q.Agg<=4/\(q.Late=1\/q.Late=2))/\(q.Agg≠1->Xc2 q.Arg=0)/\(0<q.Where.length->Xc2 q.Where=0)/\X6x q.Sources q.Join=0/\okW q.Window/\(q.Join=true->q.Window.Kind=1):=by
 have hc:=h.cz
 unfold Xsr at hc
 split at hc
 ·cases hc
 ·rename_i h1
  split at hc
  ·cases hc
  ·split at hc
   ·rename_i h2;exact absurd hc h2.2
   ·rename_i h2
    split at hc
    ·rename_i h3;exact absurd hc h3.2
    ·rename_i h3
     split at hc
     ·rename_i h4;exact absurd hc h4
     ·rename_i h4
      split at hc
      ·cases hc
      ·rename_i h5
       split at hc
       ·rename_i h6
        refine⟨by omega,fun ha=>?_,fun hw=>?_,by omega,h6,fun hj=>?_⟩
        ·by_cases hz:Xc2 q.Arg=0
         ·exact hz
         ·exact absurd ⟨ha,hz⟩ h2
        ·by_cases hz:Xc2 q.Where=0
         ·exact hz
         ·exact absurd ⟨hw,hz⟩ h3
        ·by_cases hk:q.Window.Kind=1
         ·exact hk
         ·exact absurd ⟨hj,hk⟩ h5
       ·cases hc
theorem RQ.src {q:X0b} (h:RQ q):1<=q.Sources.length/\q.Sources.length<=4/\(q.Join=true->q.Sources.length=2):=by
 have hs:=h.facts.2.2.2.1
 unfold X6x at hs
 split at hs
 ·cases hs
 ·split at hs
  ·cases hs
  ·rename_i h1 h2
   unfold Xq7 at h2
   have h2:((q.Sources.length==0||(q.Join&&q.Sources.length != 2))||q.Sources.any fun x=>decide (x<0)||decide (x>3))=false:=by simpa using h2
   rw[Bool.or_eq_false_iff,Bool.or_eq_false_iff] at h2
   have a1:q.Sources.length≠0:=by simpa using h2.1.1
   refine⟨by omega,by omega,fun hj=>?_⟩
   have:=h2.1.2
   rw[hj] at this
   simpa using this
def Xyz (agg:Int) (a:X0q):Int:=if agg=1 then a.Count else if agg=2 then a.Sum else if agg=3 then a.Min else a.Max
theorem Xcv {agg:Int} {a:X0q} (h1:1<=agg) (h2:agg<=4) (ha:okA a):X6r agg a=some (if a.Count=0 then (0,6) else (Xyz agg a,0)):=by
 unfold X6r
 rw[Yf (show ¬ agg<1 by omega),Yf (show ¬ agg>4 by omega),X3g ha]
 simp only[cond_false,Yo,bne_self_eq_false]
 by_cases hc:a.Count=0
 ·rw[if_pos hc,hc];rfl
 ·rw[if_neg hc,show(a.Count==0)=false by simp[hc]]
  unfold Xyz
  rcases(by omega:agg=1\/agg=2\/agg=3\/agg=4) with h|h|h|h<;>subst h<;>rfl
def live (q:X0b) (e:X4):Bool:=decide (e.Values.e0.Count≠0)&&(!q.Join||decide (e.Values.e1.Count≠0))
def rowE (q:X0b) (e:X4):X1g:=⟨e.Key,e.Span,⟨Xyz q.Agg e.Values.e0,if q.Join then Xyz q.Agg e.Values.e1 else 0⟩⟩
def X07a (q:X0b) (es:List X4):List X1g:=(es.filter (live q)).map (rowE q)
end Go.D


namespace Go.D
def isT (t:Int):Bool:=decide (-1099511627776<=t)&&decide (t<=1099511627776)
def Xir (t:Int):Bool:=isT t||(t==9223372036854775807)
def Xmr:Xe:=⟨0,0,0⟩
def row0:X1g:=⟨0,⟨0,0⟩,⟨0,0⟩⟩
def Xic (x:X1g):Bool:=decide (-2199023255552<=x.Span.Start)&&decide (x.Span.Start<x.Span.End)&&decide (x.Span.End<=2199023255552)
def mOK (m:Xj):Bool :=
 if m.Kind=1\/m.Kind=4 then isT m.Record.Time&&decide (m=⟨m.Kind,m.Record,0,row0⟩)
 else if m.Kind=2 then Xir m.Time&&decide (m=⟨m.Kind,Xmr,m.Time,row0⟩)
 else if m.Kind=3 then Xic m.Row&&decide (m=⟨m.Kind,Xmr,0,m.Row⟩)
 else false
theorem Xj1 (x y:Xj):X5f x y=decide (x=y):=by
 obtain⟨k,⟨a,b,c⟩,t,⟨d,⟨e,f⟩,⟨g,h⟩⟩⟩:=x
 obtain⟨k',⟨a',b',c'⟩,t',⟨d',⟨e',f'⟩,⟨g',h'⟩⟩⟩:=y
 rw[Bool.eq_iff_iff]
 simp[X5f,X3e,Xde,Xiz,Xiy,and_assoc]
theorem X7s (t:Int):X46 t=some (isT t):=by
 unfold X46 isT
 cases h1:decide (t >= -1099511627776)<;>simp_all
theorem Xb3 (t:Int):X4u t=some (Xir t):=by
 unfold X4u Xir
 rw[X7s,Yo]
 cases isT t<;>simp
theorem X3h (m:Xj):X2s m=some (if mOK m then 0 else 8):=by
 have fin:∀ (b:Bool) (w:Xj),(bif (bif (!b) then true else (!(X5f m w))) then some (8:Int) else some 0)=some (if (b&&decide (m=w)) then 0 else 8):=by
  intro b w
  rw[Xj1]
  cases b<;>cases decide (m=w)<;>rfl
 unfold X2s mOK
 rw[X7s,Xb3]
 by_cases h1:m.Kind=1
 ·rw[if_pos (show m.Kind=1\/m.Kind=4 from .inl h1),show(m.Kind==(1:Int))=true by simp[h1]]
  simp only[cond_true,Yo]
  exact fin _ _
 ·rw[show(m.Kind==(1:Int))=false by simp[h1]]
  by_cases h4:m.Kind=4
  ·rw[if_pos (show m.Kind=1\/m.Kind=4 from .inr h4),show(m.Kind==(4:Int))=true by simp[h4]]
   simp only[cond_true,cond_false,Yo]
   exact fin _ _
  ·rw[if_neg (show ¬ (m.Kind=1\/m.Kind=4) by simp[h1,h4]),show(m.Kind==(4:Int))=false by simp[h4]]
   by_cases h2:m.Kind=2
   ·rw[if_pos h2,show(m.Kind==(2:Int))=true by simp[h2]]
    simp only[cond_true,cond_false,Yo]
    exact fin _ _
   ·rw[if_neg h2,show(m.Kind==(2:Int))=false by simp[h2]]
    by_cases h3:m.Kind=3
    ·rw[if_pos h3,show(m.Kind==(3:Int))=true by simp[h3]]
     simp only[cond_true,cond_false,Yo]
     rw[fin]
     have:Xic m.Row=(bif (bif (decide ((-2199023255552:Int)<=m.Row.Span.Start)) then (decide (m.Row.Span.Start<m.Row.Span.End)) else false) then (decide (m.Row.Span.End<=(2199023255552:Int))) else false):=by
      unfold Xic
      cases decide ((-2199023255552:Int)<=m.Row.Span.Start)<;>cases decide (m.Row.Span.Start<m.Row.Span.End)<;>rfl
     rw[this];rfl
    ·rw[if_neg h3,show(m.Kind==(3:Int))=false by simp[h3]]
     simp only[cond_false,Yo]
     rw[fin];rfl
def sOK (s:X0g):Bool:=decide (0<=s.Out)&&decide (s.Out<3)&&mOK s.Message
theorem Xbv (Y:List X0g):∀ (xs:List X0g) (k:Nat),X4i Y xs k=some (if xs.all sOK then .x0 else .x1)
 |[],k=>rfl
 |x::xs,k=>by
  rw[X4i,X3h,List.all_cons,Xbv Y xs (k+1)]
  unfold sOK
  by_cases h1:x.Out<0
  ·rw[Yt h1,Yf (show ¬ 0<=x.Out by omega)];rfl
  ·rw[Yf h1,Yt (show 0<=x.Out by omega)]
   by_cases h2:x.Out >= 3
   ·rw[Yt h2,Yf (show ¬ x.Out<3 by omega)];rfl
   ·rw[Yf h2,Yt (show x.Out<3 by omega)]
    cases mOK x.Message<;>rfl
theorem Xea {l:List X0g} (h:l.length<=140737488355328):X8q l=some (l.all sOK):=by
 unfold X8q
 rw[X35 h,Yo,Xbv]
 cases l.all sOK<;>rfl
instance (a:X0q):Decidable (okA a):=by unfold okA;infer_instance
instance (x:X4):Decidable (okE x):=by unfold okE;infer_instance
instance (x y:X4):Decidable (ltE x y):=by unfold ltE;infer_instance
theorem Xcw (a:X0q):X2k a=some (if okA a then 0 else 8):=by
 by_cases h:okA a
 ·rw[if_pos h];exact X3g h
 ·rw[if_neg h]
  unfold okA at h
  unfold X2k
  rw[Xlx]
  by_cases h0:a.Count=0
  ·have:¬ a=⟨0,0,0,0⟩:=fun e=>h (.inl ⟨h0,e⟩)
   simp[h0,this]
  ·by_cases h1:a.Count=1
   ·have:¬ (a.Sum=a.Min/\a.Sum=a.Max):=fun e=>h (.inr (.inl ⟨h1,e⟩))
    rw[show(a.Count==(0:Int))=false by simpa using h0,show(a.Count==(1:Int))=true by simpa using h1]
    simp only[cond_true,cond_false,Yo]
    by_cases e1:a.Sum=a.Min
    ·have e2:¬ a.Sum=a.Max:=fun e=>this ⟨e1,e⟩
     rw[show(a.Sum==a.Min)=true by simpa using e1,show(a.Sum==a.Max)=false by simpa using e2];rfl
    ·rw[show(a.Sum==a.Min)=false by simpa using e1];rfl
   ·rw[show(a.Count==(0:Int))=false by simpa using h0,show(a.Count==(1:Int))=false by simpa using h1]
    simp only[cond_false]
    by_cases h2:1<a.Count
    ·by_cases h3:a.Count<=1073741824
     ·have:¬ a.Min<=a.Max:=fun e=>h (.inr (.inr ⟨h2,h3,e⟩))
      rw[Yt (show a.Count>1 from h2),Yt h3,Yf this];rfl
     ·rw[Yt (show a.Count>1 from h2),Yf h3];rfl
    ·rw[Yf (show ¬ a.Count>1 from h2)];rfl
theorem Xji (x:X4):X6d x=some (decide (okE x)):=by
 by_cases h:okE x
 ·rw[Yt h];exact Xai h
 ·rw[Yf h]
  unfold okE at h
  unfold X6d
  rw[Xcw,Xcw]
  by_cases h1:x.Span.Start < -1100585369600
  ·rw[Yt h1];rfl
  ·rw[Yf h1]
   by_cases h2:x.Span.End<=x.Span.Start
   ·rw[Yt h2];rfl
   ·rw[Yf h2]
    by_cases h3:x.Span.End>1100585369600
    ·rw[Yt h3];rfl
    ·rw[Yf h3]
     simp only[cond_false,Yo]
     by_cases a0:okA x.Values.e0
     ·by_cases a1:okA x.Values.e1
      ·have c0:=X3s a0
       have c1:=X3s a1
       have:¬ 0<x.Values.e0.Count+x.Values.e1.Count:=fun e=>h ⟨by omega,by omega,by omega,a0,a1,e⟩
       rw[if_pos a0,if_pos a1,X0e (by omega) (by omega),Yf (show ¬ x.Values.e0.Count+x.Values.e1.Count>0 from this)];rfl
      ·rw[if_pos a0,if_neg a1];rfl
     ·rw[if_neg a0];rfl
def bhd:Option X4->X4->Bool
 |none,_=>true
 |some e,x=>decide (ltE e x)
def Xis:Option X4->List X4->Bool
 |_,[]=>true
 |p,x::xs=>decide (okE x)&&bhd p x&&Xis (some x) xs
def Xq6 (l:List X4):Bool:=Xis none l
theorem Xn3:∀ (l:List X4) (p:Option X4),Xis p l=true↔(∀ x∈l,okE x)/\l.Pairwise ltE/\(∀ e,p=some e->∀ x∈l,ltE e x)
 |[],p=>by simp[Xis]
 |x::xs,p=>by
  rw[Xis,Bool.and_eq_true,Bool.and_eq_true,Xn3 xs (some x),List.pairwise_cons]
  constructor
  ·rintro⟨⟨h1,h2⟩,h3,h4,h5⟩
   have h5':=h5 x rfl
   refine⟨fun y hy=>?_,⟨h5',h4⟩,fun e he y hy=>?_⟩
   ·rcases List.mem_cons.1 hy with rfl|hy
    ·simpa using h1
    ·exact h3 y hy
   ·subst he
    have h2':ltE e x:=by simpa[bhd] using h2
    rcases List.mem_cons.1 hy with rfl|hy
    ·exact h2'
    ·exact Xem h2' (h5' y hy)
  ·rintro⟨h1,⟨h2,h3⟩,h4⟩
   refine⟨⟨by simpa using h1 x List.mem_cons_self,?_⟩,fun y hy=>h1 y (List.mem_cons_of_mem _ hy),h3,fun e he=>by cases he;exact h2⟩
   cases p with
   |none=>rfl
   |some e=>simpa[bhd] using h4 e rfl x List.mem_cons_self
theorem Xha {l:List X4}:Xq6 l=true↔(∀ x∈l,okE x)/\l.Pairwise ltE:=by
 unfold Xq6
 rw[Xn3]
 constructor
 ·rintro⟨h1,h2,_⟩;exact⟨h1,h2⟩
 ·rintro⟨h1,h2⟩;exact⟨h1,h2,fun e he=>by cases he⟩
theorem Xax (l:List X4) (hn:l.length<=1000000):∀ (xs:List X4) (k:Nat),l.drop k=xs->X2r l xs k=some (if Xis (if k=0 then none else l[k - 1]?) xs then .x0 else .x1)
 |[],k,_=>rfl
 |x::xs,k,h=>by
  have hk:l[k]?=some x:=by
   have:=congrArg (fun z=>z[0]?) h
   simpa using this
  have hlt:k<l.length:=(Ys.1 hk).1
  have hd:l.drop (k+1)=xs:=by
   have:=congrArg List.tail h
   simpa using this
  have ih:=Xax l hn xs (k+1) hd
  rw[if_neg (Nat.succ_ne_zero k),show k+1 - 1=k from rfl,hk] at ih
  rw[X2r,Xji,Yo,Xis]
  by_cases ho:okE x
  ·rw[Yt ho]
   cases k with
   |zero =>
    rw[Yf (by omega),if_pos rfl]
    simp only[Bool.not_true,cond_false,Yo,Bool.true_and]
    exact ih
   |succ k =>
    have hp:(l[k]'(by omega))=(l[k]'(by omega)):=rfl
    rw[Yt (show((k+1:Nat):Int)>0 by omega),if_neg (Nat.succ_ne_zero k),X0e (by omega) (by omega),show(((k+1:Nat):Int) - 1)=(k:Int) by omega,X49,show k+1 - 1=k from rfl,Ye (show k<l.length by omega)]
    simp only[Bool.not_true,cond_false,cond_true,Yo,X7y,Bool.true_and]
    by_cases hl:ltE (l[k]'(by omega)) x
    ·rw[show bhd (some (l[k]'(by omega))) x=true from Yt hl,show decide (Xsm (l[k]'(by omega)) x >= 0)=false from Yf fun e=>Xo7.1 e hl]
     simp only[cond_false,Bool.true_and]
     exact ih
    ·rw[show bhd (some (l[k]'(by omega))) x=false from Yf hl,show decide (Xsm (l[k]'(by omega)) x >= 0)=true from Yt (Xo7.2 hl)];rfl
  ·rw[Yf ho];rfl
theorem Xdp (l:List X4):X4j l=some (if l.length>4000 then 4 else if Xq6 l then 0 else 8):=by
 unfold X4j
 by_cases h:l.length>4000
 ·rw[Yt (by omega),if_pos h];rfl
 ·rw[Yf (by omega),if_neg h,cond_false,X35 (by omega),Yo,Xax l (by omega) l 0 rfl,if_pos rfl]
  unfold Xq6
  cases Xis none l<;>rfl
def mkL (t:Int):Bool:=(t == -9223372036854775808)||Xir t
def Xek (l:List Int):Bool:=decide (1<=l.length)&&decide (l.length<=4)&&l.all mkL
theorem Xp8 (t:Int):mOK ⟨2,⟨0,0,0⟩,t,⟨0,⟨0,0⟩,⟨0,0⟩⟩⟩=Xir t:=by
 unfold mOK
 simp[Xmr,row0]
theorem Xcm (t:Int):X6q t=some (Xir t):=by
 unfold X6q
 rw[X3h,Xp8]
 cases Xir t<;>rfl
theorem Xjh (t:Int):X95 t=some (mkL t):=by
 unfold X95 mkL
 rw[X3h,Xp8]
 cases(t == -9223372036854775808)<;>cases Xir t<;>rfl
theorem Xb4 (Y:List Int):∀ (xs:List Int) (k:Nat),X47 Y xs k=some (if xs.all mkL then .x0 else .x1)
 |[],k=>rfl
 |x::xs,k=>by
  rw[X47,Xcm,List.all_cons,Xb4 Y xs (k+1)]
  unfold mkL
  by_cases h:x = -9223372036854775808
  ·rw[show(x != -9223372036854775808)=false by simp[h],show(x == -9223372036854775808)=true by simp[h]];rfl
  ·rw[show(x != -9223372036854775808)=true by simp[h],show(x == -9223372036854775808)=false by simp[h]]
   cases Xir x<;>rfl
theorem Xju (l:List Int):X9u l=some (if Xek l then 0 else 8):=by
 unfold X9u Xek
 by_cases h0:l.length=0
 ·rw[show((l.length:Int)==0)=true by simp[h0],Yf (show ¬ 1<=l.length by omega)];rfl
 ·rw[show((l.length:Int)==0)=false by simp;intro e;simp[e] at h0,Yt (show 1<=l.length by omega)]
  by_cases h4:l.length>4
  ·rw[Yt (show(l.length:Int)>4 by omega),Yf (show ¬ l.length<=4 by omega)];rfl
  ·rw[Yf (show ¬ (l.length:Int)>4 by omega),Yt (show l.length<=4 by omega)]
   simp only[cond_false,Yo]
   rw[X35 (by omega),Yo,Xb4]
   cases l.all mkL<;>rfl
def Xwf (l:List Int) (m:Int):Int:=l.foldl (fun y e=>if e<y then e else y) m
def Xdl:List Int->Int
 |[]=>0
 |x::xs=>Xwf xs x
theorem X03m (l:List Int) (hl:l.length<=1000):∀ (m n k:Nat) (y:Int),m=l.length - k->m<n->k<=l.length->X0w l n y (k:Int)=some (.x0 (Xwf (l.drop k) y)):=by
 intro m
 induction m with
 |zero =>
  intro n k y hm hn hk
  obtain⟨n,rfl⟩:∃ q,n=q+1:=⟨n - 1,by omega⟩
  rw[X0w,Yf (by omega),List.drop_eq_nil_of_le (by omega)];rfl
 |succ m ih =>
  intro n k y hm hn hk
  obtain⟨n,rfl⟩:∃ q,n=q+1:=⟨n - 1,by omega⟩
  have hlt:k<l.length:=by omega
  rw[X0w,Yt (by omega),cond_true,X49,Ye hlt,Yo,X0e (by omega) (by omega),show((k:Int)+1)=((k+1:Nat):Int) by omega,ih n (k+1) _ (by omega) (by omega) (by omega),List.drop_eq_getElem_cons hlt]
  rfl
theorem Xee {l:List Int} (h1:1<=l.length) (h2:l.length<=1000):X23 l=some (Xdl l):=by
 unfold X23
 rw[Yf (by omega),cond_false]
 cases l with
 |nil=>simp at h1
 |cons x xs =>
  rw[show X32 (x::xs) 0=some x from X49 (x::xs) 0,Yo]
  have:=X03m (x::xs) h2 xs.length FU 1 x (by simp) (by simp at h2;unfold FU;omega) (by simp)
  rw[show((1:Nat):Int)=1 from rfl] at this
  rw[this];rfl
theorem X9s {l:List Int} (h:Xek l=true):1<=l.length/\l.length<=4/\l.all mkL=true:=by
 unfold Xek at h
 simp only[Bool.and_eq_true,decide_eq_true_eq] at h
 exact⟨h.1.1,h.1.2,h.2⟩
theorem Xan (l:List Int):X5b l=some (if Xek l then (Xdl l,0) else (0,8)):=by
 unfold X5b
 rw[Xju,Yo]
 cases h:Xek l with
 |false=>rfl
 |true =>
  obtain⟨h1,h2,_⟩:=X9s h
  rw[Xee h1 (by omega)];rfl
def X1f (l:List Int) (i:Nat) (t:Int):List Int:=l.set i (if t>l.getD i 0 then t else l.getD i 0)
theorem Xjt {l:List Int} (h:Xek l=true) {i:Nat} (hi:i<l.length) {t:Int} (ht:Xir t=true):X7t l (i:Int) t=some (X1f l i t,decide (Xdl (X1f l i t)>Xdl l),0):=by
 obtain⟨h1,h2,_⟩:=X9s h
 unfold X7t
 rw[Xan,h,Yo]
 simp only[if_true,bne_self_eq_false,cond_false]
 rw[Yf (show ¬ (i:Int)<0 by omega),Yf (show ¬ (i:Int) >= (l.length:Int) by omega),Xcm,ht]
 simp only[cond_false,Yo,Bool.not_true]
 have hc:(bif l.isEmpty then some l else (X2f l.length 8).bind fun _=>some l:Option (List Int))=some l:=by
  rw[X4o (by omega)];cases l.isEmpty<;>rfl
 rw[hc,Yo,X49,Ye hi,Yo,Int.toNat_natCast]
 have e:l.set i (if t>l[i] then t else l[i])=X1f l i t:=by
  unfold X1f;rw[List.getD_eq_getElem?_getD,Ye hi];rfl
 rw[e,Xee (by unfold X1f;simp;omega) (by unfold X1f;simp;omega)];rfl
theorem Xoh:∀ (l:List Int) (m:Int),Xwf l m<=m/\∀ x∈l,Xwf l m<=x
 |[],m=>⟨Int.le_refl _,fun _ h=>by cases h⟩
 |x::xs,m=>by
  obtain⟨h1,h2⟩:=Xoh xs (if x<m then x else m)
  have e:Xwf (x::xs) m=Xwf xs (if x<m then x else m):=rfl
  rw[e]
  have h3:(if x<m then x else m)<=m/\(if x<m then x else m)<=x:=by split<;>omega
  refine⟨by omega,fun y hy=>?_⟩
  rcases List.mem_cons.1 hy with rfl|hy
  ·omega
  ·exact h2 y hy
theorem Xqg:∀ (l:List Int) (m:Int),Xwf l m=m\/Xwf l m∈l
 |[],m=>.inl rfl
 |x::xs,m=>by
  have e:Xwf (x::xs) m=Xwf xs (if x<m then x else m):=rfl
  rw[e]
  rcases Xqg xs (if x<m then x else m) with h|h
  ·rw[h]
   split
   ·exact .inr List.mem_cons_self
   ·exact .inl rfl
  ·exact .inr (List.mem_cons_of_mem _ h)
theorem Xog {l:List Int} {x:Int} (h:x∈l):Xdl l<=x:=by
 cases l with
 |nil=>cases h
 |cons y ys =>
  rcases List.mem_cons.1 h with rfl|h
  ·exact(Xoh ys x).1
  ·exact(Xoh ys y).2 x h
theorem Xqf {l:List Int} (h:1<=l.length):Xdl l∈l:=by
 cases l with
 |nil=>simp at h
 |cons y ys =>
  rcases Xqg ys y with h|h
  ·exact List.mem_cons.2 (.inl h)
  ·exact List.mem_cons_of_mem _ h
theorem Xtj {l:List Int} {i:Nat} (h:1<=l.length) (t:Int):Xdl l<=Xdl (X1f l i t):=by
 have hm:=Xqf (l:=X1f l i t) (by unfold X1f;simpa using h)
 unfold X1f at hm
 rcases List.mem_or_eq_of_mem_set hm with h1|h1
 ·exact Xog h1
 ·show Xdl l<=Xdl (l.set i _)
  rw[h1]
  by_cases hi:i<l.length
  ·have:=Xog (l:=l) (x:=l.getD i 0) (by rw[List.getD_eq_getElem?_getD,Ye hi];exact List.getElem_mem hi)
   split<;>omega
  ·rw[List.set_eq_of_length_le (by omega)] at hm
   rw[List.set_eq_of_length_le (by omega)] at h1
   rw[<-h1];exact Xog hm
def Xe1 (k:Int):Int×Int×Bool×Bool×Bool×Bool :=
 if k=1 then (0,0,false,true,false,false) else if k=2 then (1,1,false,false,false,false) else if k=3 then (0,0,false,false,false,false)
 else if k=4 then (1,4,true,false,false,false) else if k=5 then (2,2,true,false,false,false) else if k=6 then (0,0,false,false,true,false)
 else if k=7 then (0,0,false,false,false,true) else (1,0,false,false,false,false)
theorem Xjg (k:Int):X94 k=some (Xe1 k):=by
 unfold X94 Xe1
 by_cases h1:k=1
 ·subst h1;rfl
 by_cases h2:k=2
 ·subst h2;rfl
 by_cases h3:k=3
 ·subst h3;rfl
 by_cases h4:k=4
 ·subst h4;rfl
 by_cases h5:k=5
 ·subst h5;rfl
 by_cases h6:k=6
 ·subst h6;rfl
 by_cases h7:k=7
 ·subst h7;rfl
 have b:∀ z:Int,¬ k=z->(k==z)=false:=fun z h=>by simpa using h
 rw[b _ h1,b _ h2,b _ h3,b _ h4,b _ h5,b _ h6,b _ h7,if_neg h1,if_neg h2,if_neg h3,if_neg h4,if_neg h5,if_neg h6,if_neg h7]
 rfl
def Xc0 (b:Bool) (n:Int):Int:=if b then n else 0
theorem Xmh (b:Bool) (n:Int):X93 b n=some (Xc0 b n):=by cases b<;>rfl
def Xcf (t:Xo):Bool :=
 decide ((t.Pending.length:Int)<=4000)&&decide ((t.Marks.length:Int) >= (Xe1 t.Op.Kind).1)&&decide ((t.Marks.length:Int)<=(Xe1 t.Op.Kind).2.1)&&decide ((t.Store.length:Int)<=Xc0 (Xe1 t.Op.Kind).2.2.1 4000)
 && decide ((t.Events.length:Int)<=Xc0 (Xe1 t.Op.Kind).2.2.2.1 60)&&decide ((t.Rows.length:Int)<=Xc0 (Xe1 t.Op.Kind).2.2.2.2.1 4000)&&decide ((t.Late.length:Int)<=Xc0 (Xe1 t.Op.Kind).2.2.2.2.2 4000)
def Xny (t:Xo):Bool:=decide (t.Turn >= 0)&&decide (t.Turn<20)&&decide (t.Op.N >= 0)&&decide (t.Op.N<4)
def evOK (e:X0c):Bool:=if e.Mark then Xir e.Time&&decide (e.Record=Xmr) else decide (e.Time=0)&&isT e.Record.Time
def Xga (t:Xo):Bool:=t.Marks.all mkL&&t.Events.all evOK&&t.Rows.all Xic&&t.Late.all (fun r=>isT r.Time)&&t.Store.all (fun x=>decide (t.Op.Kind≠4)||(x.Values.e1.Count==0))
def tOK (t:Xo):Bool:=Xny t&&Xcf t&&t.Pending.all sOK&&Xq6 t.Store&&Xga t
theorem Xj0 (x y:Xe):X3e x y=decide (x=y):=by
 obtain⟨a,b,c⟩:=x
 obtain⟨a',b',c'⟩:=y
 rw[Bool.eq_iff_iff]
 simp[X3e,and_assoc]
theorem Xh0 (e:X0c):X71 e=some (if evOK e then 0 else 8):=by
 unfold X71 Xd5 evOK
 rw[Xb3,X7s,Xj0]
 cases e.Mark with
 |true =>
  simp only[cond_true,Yo,if_true]
  show _=some (if (Xir e.Time&&decide (e.Record=⟨0,0,0⟩))=true then 0 else 8)
  cases Xir e.Time<;>cases decide (e.Record=⟨0,0,0⟩)<;>rfl
 |false =>
  simp only[cond_false,Yo,Bool.false_eq_true,if_false]
  by_cases h:e.Time=0
  ·rw[show(e.Time != 0)=false by simp[h],Yt h]
   cases isT e.Record.Time<;>rfl
  ·rw[show(e.Time != 0)=true by simp[h],Yf h];rfl
theorem X8c (t:Xo) (Y:List Int):∀ (xs:List Int) (k:Nat) (b:Bool),X3o t Y xs k b=some (.x0 (b&&xs.all mkL))
 |[],k,b=>by simp[X3o]
 |x::xs,k,b=>by
  rw[X3o,Xjh,List.all_cons]
  cases b with
  |false=>simp only[cond_false,Yo];rw[X8c t Y xs (k+1)];rfl
  |true=>simp only[cond_true,Yo];rw[X8c t Y xs (k+1)];rfl
theorem X8b (t:Xo) (Y:List X0c):∀ (xs:List X0c) (k:Nat) (b:Bool),X3n t Y xs k b=some (.x0 (b&&xs.all evOK))
 |[],k,b=>by simp[X3n]
 |x::xs,k,b=>by
  rw[X3n,Xh0,List.all_cons]
  cases b with
  |false=>simp only[cond_false,Yo];rw[X8b t Y xs (k+1)];rfl
  |true=>simp only[cond_true,Yo];rw[X8b t Y xs (k+1)];cases evOK x<;>rfl
theorem Xqa (x:X1g):mOK ⟨3,⟨0,0,0⟩,0,x⟩=Xic x:=by
 unfold mOK
 simp[Xmr]
theorem Xu3 (x:Xe):mOK ⟨4,x,0,⟨0,⟨0,0⟩,⟨0,0⟩⟩⟩=isT x.Time:=by
 unfold mOK
 simp[row0]
theorem X8a (t:Xo) (Y:List X1g):∀ (xs:List X1g) (k:Nat) (b:Bool),X3m t Y xs k b=some (.x0 (b&&xs.all Xic))
 |[],k,b=>by simp[X3m]
 |x::xs,k,b=>by
  rw[X3m,X3h,Xqa,List.all_cons]
  cases b with
  |false=>simp only[cond_false,Yo];rw[X8a t Y xs (k+1)];rfl
  |true=>simp only[cond_true,Yo];rw[X8a t Y xs (k+1)];cases Xic x<;>rfl
theorem X89 (t:Xo) (Y:List Xe):∀ (xs:List Xe) (k:Nat) (b:Bool),X3l t Y xs k b=some (.x0 (b&&xs.all fun r=>isT r.Time))
 |[],k,b=>by simp[X3l]
 |x::xs,k,b=>by
  rw[X3l,X3h,Xu3,List.all_cons]
  cases b with
  |false=>simp only[cond_false,Yo];rw[X89 t Y xs (k+1)];rfl
  |true=>simp only[cond_true,Yo];rw[X89 t Y xs (k+1)];cases isT x.Time<;>rfl
theorem X5z (t:Xo) (Y:List X4):∀ (xs:List X4) (k:Nat) (b:Bool),X3k t Y xs k b=some (.x0 (b&&xs.all fun x=>decide (t.Op.Kind≠4)||(x.Values.e1.Count==0)))
 |[],k,b=>by simp[X3k]
 |x::xs,k,b=>by
  rw[X3k,List.all_cons]
  cases b with
  |false=>simp only[cond_false,Yo];rw[X5z t Y xs (k+1)];rfl
  |true =>
   by_cases h:t.Op.Kind=4
   ·rw[show(t.Op.Kind != 4)=false by simp[h],show decide (t.Op.Kind≠4)=false by simp[h]]
    simp only[cond_true,cond_false,Yo,Bool.false_or]
    rw[X5z t Y xs (k+1),show decide (t.Op.Kind≠4)=false by simp[h]]
    simp
   ·rw[show(t.Op.Kind != 4)=true by simp[h],show decide (t.Op.Kind≠4)=true by simp[h]]
    simp only[cond_true,Yo,Bool.true_or]
    rw[X5z t Y xs (k+1),show decide (t.Op.Kind≠4)=true by simp[h]]
    simp
theorem Xfb {t:Xo} (h:Xcf t=true):t.Pending.length<=4000/\t.Marks.length<=4/\t.Store.length<=4000/\t.Events.length<=60/\t.Rows.length<=4000/\t.Late.length<=4000:=by
 unfold Xcf at h
 simp only[Bool.and_eq_true,decide_eq_true_eq] at h
 obtain⟨⟨⟨⟨⟨⟨h1,h2⟩,h3⟩,h4⟩,h5⟩,h6⟩,h7⟩:=h
 have hm:(Xe1 t.Op.Kind).2.1<=4:=by
  unfold Xe1
  (repeat' split)<;>decide
 have hr:∀ b (n:Int),0<=n->Xc0 b n<=n:=fun b n hn=>by cases b<;>simp[Xc0]<;>omega
 have r1:=hr (Xe1 t.Op.Kind).2.2.1 4000 (by omega)
 have r2:=hr (Xe1 t.Op.Kind).2.2.2.1 60 (by omega)
 have r3:=hr (Xe1 t.Op.Kind).2.2.2.2.1 4000 (by omega)
 have r4:=hr (Xe1 t.Op.Kind).2.2.2.2.2 4000 (by omega)
 omega
theorem Xeb (t:Xo):X8r t=some (if tOK t then 0 else 8):=by
 unfold X8r
 rw[Xjg,Yo]
 simp only[Xmh,Yo]
 have hs:(bif (decide ((List.length t.Pending:Int)<=(4000:Int))) then (bif (decide ((List.length t.Marks:Int) >= (Xe1 t.Op.Kind).1)) then (bif (decide ((List.length t.Marks:Int)<=(Xe1 t.Op.Kind).2.1)) then (bif (decide ((List.length t.Store:Int)<=Xc0 (Xe1 t.Op.Kind).2.2.1 4000)) then (bif (decide ((List.length t.Events:Int)<=Xc0 (Xe1 t.Op.Kind).2.2.2.1 60)) then (bif (decide ((List.length t.Rows:Int)<=Xc0 (Xe1 t.Op.Kind).2.2.2.2.1 4000)) then (some (bif (bif (bif (bif (bif (bif (decide ((List.length t.Pending:Int)<=(4000:Int))) then (decide ((List.length t.Marks:Int) >= (Xe1 t.Op.Kind).1)) else false) then (decide ((List.length t.Marks:Int)<=(Xe1 t.Op.Kind).2.1)) else false) then (decide ((List.length t.Store:Int)<=Xc0 (Xe1 t.Op.Kind).2.2.1 4000)) else false) then (decide ((List.length t.Events:Int)<=Xc0 (Xe1 t.Op.Kind).2.2.2.1 60)) else false) then (decide ((List.length t.Rows:Int)<=Xc0 (Xe1 t.Op.Kind).2.2.2.2.1 4000)) else false) then (decide ((List.length t.Late:Int)<=Xc0 (Xe1 t.Op.Kind).2.2.2.2.2 4000)) else false)) else (some false)) else (some false)) else (some false)) else (some false)) else (some false)) else (some false):Option Bool)=some (Xcf t):=by
  unfold Xcf
  cases decide ((List.length t.Pending:Int)<=(4000:Int))<;>cases decide ((List.length t.Marks:Int) >= (Xe1 t.Op.Kind).1)<;>cases decide ((List.length t.Marks:Int)<=(Xe1 t.Op.Kind).2.1)<;>cases decide ((List.length t.Store:Int)<=Xc0 (Xe1 t.Op.Kind).2.2.1 4000)<;>cases decide ((List.length t.Events:Int)<=Xc0 (Xe1 t.Op.Kind).2.2.2.1 60)<;>cases decide ((List.length t.Rows:Int)<=Xc0 (Xe1 t.Op.Kind).2.2.2.2.1 4000)<;>rfl
 rw[hs,Yo]
 have hn:(bif (bif (bif (decide (t.Turn >= (0:Int))) then (decide (t.Turn<(20:Int))) else false) then (decide (t.Op.N >= (0:Int))) else false) then (decide (t.Op.N<(4:Int))) else false)=Xny t:=by
  unfold Xny
  cases decide (t.Turn >= (0:Int))<;>cases decide (t.Turn<(20:Int))<;>cases decide (t.Op.N >= (0:Int))<;>rfl
 rw[hn]
 unfold tOK
 cases h1:Xny t with
 |false=>rfl
 |true =>
  cases h2:Xcf t with
  |false=>rfl
  |true =>
   obtain⟨l1,l2,l3,l4,l5,l6⟩:=Xfb h2
   simp only[Bool.not_true,cond_false]
   rw[Xea (by omega),Yo]
   cases h3:t.Pending.all sOK with
   |false=>rfl
   |true =>
    simp only[Bool.not_true,cond_false]
    rw[Xdp,if_neg (by omega),Yo]
    cases h4:Xq6 t.Store with
    |false=>rfl
    |true =>
     simp only[if_true,bne_self_eq_false,Yo,cond_false]
     rw[X35 (by omega),Yo,X8c,Yo]
     simp only
     rw[X35 (by omega),Yo,X8b,Yo]
     simp only
     rw[X35 (by omega),Yo,X8a,Yo]
     simp only
     rw[X35 (by omega),Yo,X89,Yo]
     simp only
     rw[X35 (by omega),Yo,X5z,Yo]
     simp only[Bool.true_and,Bool.and_true]
     unfold Xga
     generalize (t.Marks.all mkL&&t.Events.all evOK&&t.Rows.all Xic&&(t.Late.all fun r=>isT r.Time)&&t.Store.all fun x=>decide (t.Op.Kind≠4)||(x.Values.e1.Count==0))=b
     cases b<;>rfl
end Go.D


namespace Go.D
def t0:Xo:=⟨⟨0,0⟩,0,[],[],[],[],[],[]⟩
theorem bifS {α:Type} (l:List α) (x:Option (List α)) (h:x=some l):(bif l.isEmpty then some l else x)=some l:=by cases l.isEmpty<;>simp[h]
theorem X02e {l:List Int} (h:l.length<=100000):X1i l=some l:=by unfold X1i;exact bifS l _ (by rw[X4o (by omega)];rfl)
theorem X02f {l:List X4} (h:l.length<=100000):X1k l=some l:=by unfold X1k;exact bifS l _ (by rw[X4o (by omega)];rfl)
theorem X02c {l:List X0c} (h:l.length<=100000):X1j l=some l:=by unfold X1j;exact bifS l _ (by rw[X4o (by omega)];rfl)
theorem X02d {l:List X1g} (h:l.length<=100000):X2h l=some l:=by unfold X2h;exact bifS l _ (by rw[X4o (by omega)];rfl)
theorem X02g {l:List Xe} (h:l.length<=100000):X18 l=some l:=by unfold X18;exact bifS l _ (by rw[X4o (by omega)];rfl)
theorem Xaw {t:Xo} (h:tOK t=true):Xny t=true/\Xcf t=true/\t.Pending.all sOK=true/\Xq6 t.Store=true/\Xga t=true:=by
 unfold tOK at h
 simp only[Bool.and_eq_true] at h
 exact⟨h.1.1.1.1,h.1.1.1.2,h.1.1.2,h.1.2,h.2⟩
theorem Xmi {t:Xo} (hp:t.Pending=[]) {L:List X0g} (hL:L.length<=100000) :
  X54 t L=some (if tOK t then (if L.all sOK then (if L.length>4000 then (t0,4) else ({ t with Pending:=L },0)) else (t0,8)) else (t0,8)):=by
 unfold X54
 rw[Xeb,Yo]
 cases h:tOK t with
 |false=>rfl
 |true =>
  obtain⟨l1,l2,l3,l4,l5,l6⟩:=Xfb (Xaw h).2.1
  simp only[if_true,bne_self_eq_false,cond_false]
  rw[Xea (by omega),Yo]
  cases hs:L.all sOK with
  |false=>rfl
  |true =>
   simp only[Bool.not_true,cond_false,if_true]
   rw[hp]
   have e4:IntKind.i64.wrap (4000 - (([]:List X0g).length:Int))=4000:=by decide
   rw[e4]
   by_cases h4:L.length>4000
   ·rw[Yt (by omega),if_pos h4];rfl
   ·rw[Yf (by omega),if_neg h4,cond_false]
    simp only[List.isEmpty_nil,cond_true]
    rw[X02e (by omega),X02f (by omega),X02c (by omega),X02d (by omega),X02g (by omega)]
    simp only[Yo]
    rw[X4o (by omega)]
    cases L.isEmpty<;>rfl
def X7i (m:Int) (l:List X4):List X4:=l.filter fun x=>decide (x.Span.End<=m)
def Xc1 (m:Int) (l:List X4):List X4:=l.filter fun x=>!decide (x.Span.End<=m)
theorem Xpk (m:Int) (Y:List X4):∀ (xs:List X4) (k:Nat) (a b:List X4),a.length+b.length+xs.length<=100000->X3p m Y xs k a b=some (.x0 (a++X7i m xs) (b++Xc1 m xs))
 |[],k,a,b,_=>by simp[X3p,X7i,Xc1]
 |x::xs,k,a,b,hn=>by
  simp only[List.length_cons] at hn
  rw[X3p]
  unfold X7i Xc1
  rw[List.filter_cons,List.filter_cons]
  by_cases h:x.Span.End<=m
  ·rw[Yt h,cond_true,X4o (by simp;omega)]
   simp only[Yo,if_true,Bool.not_true,Bool.false_eq_true,if_false]
   rw[Xpk m Y xs (k+1) _ _ (by simp;omega)]
   simp[X7i,Xc1]
  ·rw[Yf h,cond_false,X4o (by simp;omega)]
   simp only[Yo,if_true,Bool.not_false,Bool.false_eq_true,if_false]
   rw[Xpk m Y xs (k+1) _ _ (by simp;omega)]
   simp[X7i,Xc1]
theorem Xl0 {l:List X4} (h:Xq6 l=true) (hl:l.length<=4000) (m:Int):X8s l m=some (X7i m l,Xc1 m l,0):=by
 unfold X8s
 rw[Xdp,if_neg (by omega),h,Yo]
 simp only[if_true,bne_self_eq_false,cond_false]
 rw[X35 (by omega),Yo,Xpk m l l 0 [] [] (by simp;omega)];rfl
theorem Xg2 {m:Int} {l:List X4} {x:X4} (h:x∈X7i m l):x∈l:=(List.mem_filter.1 h).1
theorem Xkl (m:Int) (l:List X4):(X7i m l).length<=l.length:=List.length_filter_le _ _
theorem Xx0 {a l:List X4} (hs:a.Sublist l) (h:Xq6 l=true):Xq6 a=true:=by
 rw[Xha] at *
 exact⟨fun x hx=>h.1 x (hs.subset hx),h.2.sublist hs⟩
def Xo3 (r:X1g):X0g:=⟨0,⟨3,⟨0,0,0⟩,0,r⟩⟩
theorem Xx6 {r:X1g} (h:Xic r=true):sOK (Xo3 r)=true:=by
 unfold sOK Xo3
 simp only
 rw[Xqa,h];rfl
theorem X00p {x:X4} (h:okE x) (r:X1g) (hr:r.Span=x.Span):Xic r=true:=by
 obtain⟨h1,h2,h3,_⟩:=h
 unfold Xic
 rw[hr,Yt (by omega),Yt (by omega),Yt (by omega)];rfl
def over (l:List X4) (x:X4):Bool :=
 match l[cnt l x]? with
 |some y=>decide (X4x y x/\(y.Values.e0.Count+x.Values.e0.Count>1073741824\/y.Values.e1.Count+x.Values.e1.Count>1073741824))
 |none=>false
end Go.D


namespace Go.D
theorem Xyy {z:Int} (h:wfI .u8 z):0<=z:=by
 have h:=h
 simp only[wfI,Lit.wf,IntKind.bits,IntKind.signed] at h
 simp at h
 have e1:IntKind.u8.min=0:=by decide
 omega
theorem Xzq {z:Int} (h:wfI .i64 z):z<=9223372036854775807 /\ -9223372036854775808<=z:=by
 have h:=h
 simp only[wfI,Lit.wf,IntKind.bits,IntKind.signed] at h
 simp at h
 have e1:IntKind.i64.min = -9223372036854775808:=by decide
 have e2:IntKind.i64.max=9223372036854775807:=by decide
 omega
theorem X051 {q:X0b} (w:Xhu q):QW q:=by
 obtain⟨_,⟨_,h1⟩,_,_,⟨_,h2⟩,h3,_⟩:=w
 exact⟨fun x hx=>Xyy (h1 x hx).1,fun x hx=>Xyy (h2 x hx).1,Xzq h3.2.2⟩
end Go.D


namespace Go.D
theorem Xx7 {q:X0b} (hq:QW q):X5s q=some (decide ((Xtl q).2=0)):=by
 unfold X5s
 rw[Xjp hq,Yo]
 rfl
end Go.D


namespace Go.D
theorem mks4 {t:Xo} (h:tOK t=true) (hk:t.Op.Kind=4):Xek t.Marks=true:=by
 obtain⟨o1,o2,o3,o4,o5⟩:=Xaw h
 have h2l:1<=t.Marks.length/\t.Marks.length<=4:=by
  unfold Xcf at o2
  simp only[Bool.and_eq_true,decide_eq_true_eq] at o2
  obtain⟨⟨⟨⟨⟨⟨_,h2⟩,h3⟩,_⟩,_⟩,_⟩,_⟩:=o2
  rw[hk] at h2 h3
  have h2':(1:Int)<=t.Marks.length:=h2
  have h3':(t.Marks.length:Int)<=4:=h3
  omega
 unfold Xga at o5
 simp only[Bool.and_eq_true] at o5
 unfold Xek
 rw[Yt h2l.1,Yt h2l.2,o5.1.1.1.1];rfl
theorem X021 {t:Xo} (h:tOK t=true) (hk:t.Op.Kind=4):∀ x∈t.Store,x.Values.e1.Count=0:=by
 obtain⟨o1,o2,o3,o4,o5⟩:=Xaw h
 intro x hx
 unfold Xga at o5
 simp only[Bool.and_eq_true,List.all_eq_true] at o5
 have:=o5.2 x hx
 simpa[hk] using this
theorem Xj8 {q:X0b} (hq:QW q):X86 q=some (decide ((Xtl q).2=0)&&!q.Join):=by
 unfold X86
 rw[Xj6 hq,Yo]
 by_cases h:(Xtl q).2=0
 ·rw[h,Yt rfl];cases q.Join<;>rfl
 ·rw[show((Xtl q).2==0)=false by simpa using h,Yf h];rfl
def rowG (q:X0b) (x:X4):X1g:=⟨x.Key,x.Span,⟨if x.Values.e0.Count=0 then 0 else Xyz q.Agg x.Values.e0,0⟩⟩
def Xdq (q:X0b) (l:List X4):List X0g:=l.map fun x=>Xo3 (rowG q x)
theorem Xbb {q:X0b} (h1:1<=q.Agg) (h2:q.Agg<=4) (t u:Xo) (Y:List X4):∀ (xs:List X4) (k:Nat) (o:List X0g),(∀ x∈xs,okE x)->o.length+xs.length<=100000->X2v t u q Y xs k o=some (.x0 (o++Xdq q xs))
 |[],k,o,_,_=>by simp[X2v,Xdq]
 |x::xs,k,o,hx,hn=>by
  simp only[List.length_cons] at hn
  obtain⟨_,_,_,a0,_,_⟩:=hx x List.mem_cons_self
  rw[X2v,Xcv h1 h2 a0,Yo,X4o (by simp;omega),Yo,Xbb h1 h2 t u Y xs (k+1) _ (fun y hy=>hx y (List.mem_cons_of_mem _ hy)) (by simp;omega)]
  have hv:(if x.Values.e0.Count=0 then ((0:Int),(6:Int)) else (Xyz q.Agg x.Values.e0,0)).1=(if x.Values.e0.Count=0 then 0 else Xyz q.Agg x.Values.e0):=by split<;>rfl
  rw[hv]
  simp[Xdq,Xo3,rowG]
theorem Xk9 (q:X0b) (l:List X4):(Xdq q l).length=l.length:=by unfold Xdq;rw[List.length_map]
theorem Xte (q:X0b) {l:List X4} (h:∀ x∈l,okE x):(Xdq q l).all sOK=true:=by
 rw[List.all_eq_true]
 intro s hs
 obtain⟨x,hx,rfl⟩:=List.mem_map.1 hs
 exact Xx6 (X00p (h x hx) _ rfl)
end Go.D


namespace Go.D
theorem ch5 (A B C D E:Bool):((bif A then (bif B then (bif C then (bif D then (some (bif (bif (bif (bif A then B else false) then C else false) then D else false) then E else false)) else (some (bif (bif (bif (bif A then B else false) then C else false) then D else false) then false else false))) else (some (bif (bif (bif (bif A then B else false) then C else false) then false else false) then false else false))) else (some (bif (bif (bif (bif A then B else false) then false else false) then false else false) then false else false))) else (some (bif (bif (bif (bif A then false else false) then false else false) then false else false) then false else false)):Option (Bool)).bind fun j=>some j)=some (A&&(B&&(C&&(D&&E)))):=by
 cases A<;>cases B<;>cases C<;>cases D<;>cases E<;>rfl
theorem X00u (t:Xo):∃ b,Xb0 t=some b/\(t.Op.Kind=4->b=true->(1<=t.Marks.length/\t.Marks.length<=4)/\t.Events=[]/\t.Rows=[]/\t.Late=[]):=by
 unfold Xb0
 by_cases h4:t.Op.Kind=4
 ·rw[show(t.Op.Kind==1)=false by simp[h4],show(t.Op.Kind==2)=false by simp[h4],show(t.Op.Kind==3)=false by simp[h4],show(t.Op.Kind==4)=true by simp[h4]]
  simp only[cond_true,cond_false]
  rw[ch5]
  refine⟨_,rfl,fun _ h=>?_⟩
  simp only[Bool.and_eq_true,decide_eq_true_eq,beq_iff_eq] at h
  obtain⟨h1,_,h2,h3,h5⟩:=h
  refine⟨?_,List.length_eq_zero_iff.1 (by omega),List.length_eq_zero_iff.1 (by omega),List.length_eq_zero_iff.1 (by omega)⟩
  split at h1<;>split at h1<;>omega
 ·have e4:(t.Op.Kind==4)=false:=by simp[h4]
  rw[e4]
  cases(t.Op.Kind==1) with
  |true=>simp only[cond_true];rw[ch5];exact⟨_,rfl,fun h=>absurd h h4⟩
  |false =>
  cases(t.Op.Kind==2) with
  |true=>simp only[cond_true,cond_false];rw[ch5];exact⟨_,rfl,fun h=>absurd h h4⟩
  |false =>
  cases(t.Op.Kind==3) with
  |true=>simp only[cond_true,cond_false];rw[ch5];exact⟨_,rfl,fun h=>absurd h h4⟩
  |false =>
  cases(t.Op.Kind==5) with
  |true=>simp only[cond_true,cond_false];rw[ch5];exact⟨_,rfl,fun h=>absurd h h4⟩
  |false =>
  cases(t.Op.Kind==6) with
  |true=>simp only[cond_true,cond_false];rw[ch5];exact⟨_,rfl,fun h=>absurd h h4⟩
  |false =>
  cases(t.Op.Kind==7) with
  |true=>simp only[cond_true,cond_false];rw[ch5];exact⟨_,rfl,fun h=>absurd h h4⟩
  |false=>exact⟨_,rfl,fun h=>absurd h h4⟩
theorem Xij (x:Int):X7o x=some (Xir x):=by
 unfold X7o Xir isT
 simp only[ge_iff_le]
 cases decide (-1099511627776<=x)<;>cases decide (x<=1099511627776)<;>cases(x==9223372036854775807)<;>rfl
theorem Xrl (x:Int):X9g x=some (mkL x):=by
 unfold X9g mkL
 rw[Xij]
 cases(x == -9223372036854775808)<;>cases Xir x<;>rfl
theorem Xdx (r:Xe):∃ b,X57 r=some b:=⟨_,rfl⟩
theorem Xmp (r:X1g):∃ b,Xcj r=some b:=⟨_,rfl⟩
theorem Xnw (m:Xj):∃ b,X9j m=some b:=by
 unfold X9j
 obtain⟨b1,h1⟩:=Xdx m.Record
 obtain⟨b3,h3⟩:=Xmp m.Row
 rw[h1,Xij,h3]
 cases(m.Kind==1)<;>cases(m.Kind==4)<;>cases(m.Kind==2)<;>cases(m.Kind==3)<;>cases b1<;>cases Xir m.Time<;>cases b3<;>exact⟨_,rfl⟩
theorem Xpl (e:X0c):∃ b,X9k e=some b:=by
 unfold X9k
 obtain⟨b1,h1⟩:=Xdx e.Record
 rw[h1,Xij]
 cases e.Mark<;>cases Xir e.Time<;>cases X3e e.Record (Xe.mk 0 0 0)<;>cases(e.Time==0)<;>cases b1<;>exact⟨_,rfl⟩
theorem Xo2 {l:List X0g} (hl:l.length<=140737488355328):∃ b,X9e l=some b:=by
 have h0:∀ (Y xs:List X0g) (k:Nat),∃ o,X3y Y xs k=some o:=by
  intro Y xs
  induction xs with
  |nil=>intro k;exact⟨_,rfl⟩
  |cons x xs ih =>
   intro k
   obtain⟨b,hb⟩:=Xnw x.Message
   obtain⟨o,ho⟩:=ih (k+1)
   rw[X3y,hb,ho]
   cases decide (x.Out<0)<;>cases decide (x.Out >= 3)<;>cases b<;>exact⟨_,rfl⟩
 unfold X9e
 rw[X35 hl,Yo]
 obtain⟨o,ho⟩:=h0 l l 0
 rw[ho]
 cases o<;>exact⟨_,rfl⟩
theorem Xxp (t:Xo) (hn:t.Marks.length<=1000000):∀ (m n k:Nat),m=t.Marks.length - k->m<n->k<=t.Marks.length->X42 t n (k:Int)=some (if (t.Marks.drop k).all mkL then .x1 else .x0):=by
 intro m
 induction m with
 |zero =>
  intro n k hm hmn hk
  obtain⟨n,rfl⟩:∃ q,n=q+1:=⟨n - 1,by omega⟩
  rw[X42,Yf (by omega),List.drop_eq_nil_of_le (by omega)];rfl
 |succ m ih =>
  intro n k hm hmn hk
  obtain⟨n,rfl⟩:∃ q,n=q+1:=⟨n - 1,by omega⟩
  have hlt:k<t.Marks.length:=by omega
  rw[X42,Yt (by omega),cond_true,X49,Ye hlt,Yo,Xrl,Yo,List.drop_eq_getElem_cons hlt,List.all_cons,X0e (by omega) (by omega),show((k:Int)+1)=((k+1:Nat):Int) by omega,ih n (k+1) (by omega) (by omega) (by omega)]
  cases mkL t.Marks[k]<;>rfl
theorem Xxo (t:Xo) (hn:t.Events.length<=1000000):∀ (m n k:Nat),m=t.Events.length - k->m<n->k<=t.Events.length->∃ o,X41 t n (k:Int)=some o:=by
 intro m
 induction m with
 |zero =>
  intro n k hm hmn hk
  obtain⟨n,rfl⟩:∃ q,n=q+1:=⟨n - 1,by omega⟩
  rw[X41,Yf (by omega)];exact⟨_,rfl⟩
 |succ m ih =>
  intro n k hm hmn hk
  obtain⟨n,rfl⟩:∃ q,n=q+1:=⟨n - 1,by omega⟩
  have hlt:k<t.Events.length:=by omega
  obtain⟨b,hb⟩:=Xpl t.Events[k]
  obtain⟨o,ho⟩:=ih n (k+1) (by omega) (by omega) (by omega)
  rw[X41,Yt (by omega),cond_true,X49,Ye hlt,Yo,hb,Yo,X0e (by omega) (by omega),show((k:Int)+1)=((k+1:Nat):Int) by omega,ho]
  cases(b != 0)<;>exact⟨_,rfl⟩
theorem Xxn (t:Xo) (hn:t.Rows.length<=1000000):∀ (m n k:Nat),m=t.Rows.length - k->m<n->k<=t.Rows.length->∃ o,X40 t n (k:Int)=some o:=by
 intro m
 induction m with
 |zero =>
  intro n k hm hmn hk
  obtain⟨n,rfl⟩:∃ q,n=q+1:=⟨n - 1,by omega⟩
  rw[X40,Yf (by omega)];exact⟨_,rfl⟩
 |succ m ih =>
  intro n k hm hmn hk
  obtain⟨n,rfl⟩:∃ q,n=q+1:=⟨n - 1,by omega⟩
  have hlt:k<t.Rows.length:=by omega
  obtain⟨b,hb⟩:=Xmp t.Rows[k]
  obtain⟨o,ho⟩:=ih n (k+1) (by omega) (by omega) (by omega)
  rw[X40,Yt (by omega),cond_true,X49,Ye hlt,Yo,hb,Yo,X0e (by omega) (by omega),show((k:Int)+1)=((k+1:Nat):Int) by omega,ho]
  cases b<;>exact⟨_,rfl⟩
theorem Xxm (t:Xo) (hn:t.Late.length<=1000000):∀ (m n k:Nat),m=t.Late.length - k->m<n->k<=t.Late.length->∃ o,X3z t n (k:Int)=some o:=by
 intro m
 induction m with
 |zero =>
  intro n k hm hmn hk
  obtain⟨n,rfl⟩:∃ q,n=q+1:=⟨n - 1,by omega⟩
  rw[X3z,Yf (by omega)];exact⟨_,rfl⟩
 |succ m ih =>
  intro n k hm hmn hk
  obtain⟨n,rfl⟩:∃ q,n=q+1:=⟨n - 1,by omega⟩
  have hlt:k<t.Late.length:=by omega
  obtain⟨b,hb⟩:=Xdx t.Late[k]
  obtain⟨o,ho⟩:=ih n (k+1) (by omega) (by omega) (by omega)
  rw[X3z,Yt (by omega),cond_true,X49,Ye hlt,Yo,hb,Yo,X0e (by omega) (by omega),show((k:Int)+1)=((k+1:Nat):Int) by omega,ho]
  cases b<;>exact⟨_,rfl⟩
theorem Xrk {t:Xo} (h1:t.Marks.length<=10000) (h2:t.Events.length<=10000) (h3:t.Rows.length<=10000) (h4:t.Late.length<=10000):∃ b,X9f t=some b/\(b=true->t.Marks.all mkL=true):=by
 have e0:=Xxp t (by omega) (t.Marks.length - 0) FU 0 rfl (by unfold FU;omega) (by omega)
 obtain⟨o1,e1⟩:=Xxo t (by omega) (t.Events.length - 0) FU 0 rfl (by unfold FU;omega) (by omega)
 obtain⟨o2,e2⟩:=Xxn t (by omega) (t.Rows.length - 0) FU 0 rfl (by unfold FU;omega) (by omega)
 obtain⟨o3,e3⟩:=Xxm t (by omega) (t.Late.length - 0) FU 0 rfl (by unfold FU;omega) (by omega)
 rw[show((0:Nat):Int)=0 from rfl] at e0 e1 e2 e3
 unfold X9f
 rw[e0,e1,e2,e3,List.drop_zero]
 cases h:t.Marks.all mkL with
 |false=>exact⟨false,rfl,fun e=>by cases e⟩
 |true=>cases o1<;>cases o2<;>cases o3<;>exact⟨_,rfl,fun _=>rfl⟩
theorem Xdt (a:X0q):X58 a=some (if okA a then 0 else 8):=by
 unfold X58
 by_cases n0:a.Count<0
 ·rw[Yt n0,if_neg (fun h=>by have:=X3s h;omega)];rfl
 ·rw[Yf n0]
  by_cases n1:a.Count>1073741824
  ·rw[Yt n1,if_neg (fun h=>by have:=X3s h;omega)];rfl
  ·rw[Yf n1]
   simp only[cond_false,Yo]
   by_cases c0:a.Count=0
   ·rw[show(a.Count==0)=true by simpa using c0,show(a.Count==1)=false by simp[c0]]
    by_cases hz:a=⟨0,0,0,0⟩
    ·rw[if_pos (show okA a from .inl ⟨c0,hz⟩),hz];rfl
    ·rw[if_neg (fun h=>by rcases h with ⟨_,h⟩|⟨h,_⟩|⟨h,_⟩<;>first|exact hz h|omega)]
     have:¬ (a.Sum=0/\a.Min=0/\a.Max=0):=fun⟨e1,e2,e3⟩=>hz (by cases a;simp_all)
     by_cases e1:a.Sum=0
     ·by_cases e2:a.Min=0
      ·have e3:¬ a.Max=0:=fun e=>this ⟨e1,e2,e⟩
       rw[show(a.Sum != 0)=false by simp[e1],show(a.Min != 0)=false by simp[e2],show(a.Max != 0)=true by simpa using e3];rfl
      ·rw[show(a.Sum != 0)=false by simp[e1],show(a.Min != 0)=true by simpa using e2];rfl
     ·rw[show(a.Sum != 0)=true by simpa using e1];rfl
   ·rw[show(a.Count==0)=false by simpa using c0]
    by_cases c1:a.Count=1
    ·rw[show(a.Count==1)=true by simpa using c1]
     by_cases e1:a.Sum=a.Min
     ·by_cases e2:a.Min=a.Max
      ·rw[if_pos (show okA a from .inr (.inl ⟨c1,e1,e1.trans e2⟩)),show(a.Sum != a.Min)=false by simp[e1],show(a.Min != a.Max)=false by simp[e2],Yf (show ¬ a.Min>a.Max by omega)];rfl
      ·rw[if_neg (fun h=>by rcases h with ⟨h,_⟩|⟨_,h1,h2⟩|⟨h,_⟩<;>omega),show(a.Sum != a.Min)=false by simp[e1],show(a.Min != a.Max)=true by simpa using e2];rfl
     ·rw[if_neg (fun h=>by rcases h with ⟨h,_⟩|⟨_,h1,h2⟩|⟨h,_⟩<;>omega),show(a.Sum != a.Min)=true by simpa using e1];rfl
    ·rw[show(a.Count==1)=false by simpa using c1]
     by_cases e:a.Min>a.Max
     ·rw[Yt e,if_neg (fun h=>by rcases h with ⟨h,_⟩|⟨h,_⟩|⟨_,_,h⟩<;>omega)];rfl
     ·rw[Yf e,if_pos (show okA a from .inr (.inr ⟨by omega,by omega,by omega⟩))];rfl
theorem Xl6 (x y:X4):X8v x y=some (decide (ltE x y)):=by
 unfold X8v
 by_cases e1:x.Span.End=y.Span.End
 ·rw[show(x.Span.End != y.Span.End)=false by simp[e1]]
  by_cases e2:x.Span.Start=y.Span.Start
  ·rw[show(x.Span.Start != y.Span.Start)=false by simp[e2]]
   simp only[cond_false]
   congr 1
   exact decide_eq_decide.2 (by unfold ltE;omega)
  ·rw[show(x.Span.Start != y.Span.Start)=true by simpa using e2]
   simp only[cond_false,cond_true]
   congr 1
   exact decide_eq_decide.2 (by unfold ltE;omega)
 ·rw[show(x.Span.End != y.Span.End)=true by simpa using e1]
  simp only[cond_true]
  congr 1
  exact decide_eq_decide.2 (by unfold ltE;omega)
theorem Xb1 (l:List X4) (hn:l.length<=1000000):∀ (xs:List X4) (k:Nat),l.drop k=xs->X44 l xs k=some (if Xis (if k=0 then none else l[k - 1]?) xs then .x0 else .x1)
 |[],k,_=>rfl
 |x::xs,k,h=>by
  have hk:l[k]?=some x:=by
   have:=congrArg (fun z=>z[0]?) h
   simpa using this
  have hlt:k<l.length:=(Ys.1 hk).1
  have hd:l.drop (k+1)=xs:=by
   have:=congrArg List.tail h
   simpa using this
  have ih:=Xb1 l hn xs (k+1) hd
  rw[if_neg (Nat.succ_ne_zero k),show k+1 - 1=k from rfl,hk] at ih
  have h96:((X58 x.Values.e0).bind fun v97=>bif (v97==(0:Int)) then ((X58 x.Values.e1).bind fun v100=>some (bif (v97==(0:Int)) then (v100==(0:Int)) else false)) else (some (bif (v97==(0:Int)) then false else false)):Option (Bool))=some (decide (okA x.Values.e0/\okA x.Values.e1)):=by
   rw[Xdt,Xdt]
   by_cases a0:okA x.Values.e0
   ·by_cases a1:okA x.Values.e1
    ·rw[if_pos a0,if_pos a1,Yt (⟨a0,a1⟩:_/\_)];rfl
    ·rw[if_pos a0,if_neg a1,Yf (fun h:_/\_=>a1 h.2)];rfl
   ·rw[if_neg a0,Yf (fun h:_/\_=>a0 h.1)];rfl
  rw[X44,h96,Yo,Xis]
  by_cases ho:okE x
  ·obtain⟨q1,q2,q3,a0,a1,q4⟩:=ho
   have c0:=X3s a0
   have c1:=X3s a1
   rw[Yt (show okE x from⟨q1,q2,q3,a0,a1,q4⟩),Yt (⟨a0,a1⟩:_/\_),Yt (show x.Span.Start >= -1100585369600 by omega),Yt (show x.Span.Start<x.Span.End by omega),Yt (show x.Span.End<=1100585369600 by omega)]
   have hcc:∀ (X:Option Bool) (Y:Option Bool),X=Y->(bif (x.Values.e0.Count==(0:Int)) then (bif (x.Values.e1.Count==(0:Int)) then (some true) else X) else Y)=Y:=by
    intro X Y e
    by_cases g0:x.Values.e0.Count=0
    ·have g1:¬ x.Values.e1.Count=0:=by omega
     rw[show(x.Values.e0.Count==0)=true by simpa using g0,show(x.Values.e1.Count==0)=false by simpa using g1,e];rfl
    ·rw[show(x.Values.e0.Count==0)=false by simpa using g0];rfl
   simp only[Bool.not_true,cond_true,cond_false]
   cases k with
   |zero =>
    rw[Yf (show ¬ ((0:Nat):Int)>0 by omega),if_pos rfl]
    simp only[cond_false]
    rw[hcc _ _ (by
     by_cases g0:x.Values.e0.Count=0
     ·have g1:¬ x.Values.e1.Count=0:=by omega
      rw[show(x.Values.e0.Count==0)=true by simpa using g0,show(x.Values.e1.Count==0)=false by simpa using g1];rfl
     ·rw[show(x.Values.e0.Count==0)=false by simpa using g0];rfl)]
    simp only[cond_false,Yo,Bool.true_and]
    exact ih
   |succ k =>
    rw[Yt (show((k+1:Nat):Int)>0 by omega),if_neg (Nat.succ_ne_zero k),X0e (by omega) (by omega),show(((k+1:Nat):Int) - 1)=(k:Int) by omega,X49,show k+1 - 1=k from rfl,Ye (show k<l.length by omega)]
    simp only[cond_true,Yo,Xl6]
    rw[hcc _ _ (by
     by_cases g0:x.Values.e0.Count=0
     ·have g1:¬ x.Values.e1.Count=0:=by omega
      rw[show(x.Values.e0.Count==0)=true by simpa using g0,show(x.Values.e1.Count==0)=false by simpa using g1];rfl
     ·rw[show(x.Values.e0.Count==0)=false by simpa using g0];rfl)]
    simp only[cond_false,Yo,Bool.true_and]
    by_cases hl:ltE (l[k]'(by omega)) x
    ·rw[show bhd (some (l[k]'(by omega))) x=true from Yt hl,Yt hl]
     simp only[Bool.not_true,cond_false,Bool.true_and]
     exact ih
    ·rw[show bhd (some (l[k]'(by omega))) x=false from Yf hl,Yf hl];rfl
  ·rw[Yf ho]
   have hbad:∀ (X:Option Bool),(bif (!(bif (bif (decide (x.Span.Start >= ((-1100585369600):Int))) then (decide (x.Span.Start<x.Span.End)) else false) then (decide (x.Span.End<=(1100585369600:Int))) else false)) then (some true) else (bif (!(decide (okA x.Values.e0/\okA x.Values.e1))) then (some true) else (bif (x.Values.e0.Count==(0:Int)) then (bif (x.Values.e1.Count==(0:Int)) then (some true) else X) else X)):Option Bool)=some true\/True:=fun _=>.inr trivial
   by_cases q1:x.Span.Start >= -1100585369600
   ·by_cases q2:x.Span.Start<x.Span.End
    ·by_cases q3:x.Span.End<=1100585369600
     ·by_cases a0:okA x.Values.e0
      ·by_cases a1:okA x.Values.e1
       ·have c0:=X3s a0
        have c1:=X3s a1
        have g0:x.Values.e0.Count=0:=by
         rcases Int.lt_or_le 0 x.Values.e0.Count with g|g
         ·exact absurd ⟨by omega,by omega,by omega,a0,a1,by omega⟩ ho
         ·omega
        have g1:x.Values.e1.Count=0:=by
         rcases Int.lt_or_le 0 x.Values.e1.Count with g|g
         ·exact absurd ⟨by omega,by omega,by omega,a0,a1,by omega⟩ ho
         ·omega
        rw[Yt q1,Yt q2,Yt q3,Yt (⟨a0,a1⟩:_/\_),show(x.Values.e0.Count==0)=true by simpa using g0,show(x.Values.e1.Count==0)=true by simpa using g1];rfl
       ·rw[Yt q1,Yt q2,Yt q3,Yf (fun h:_/\_=>a1 h.2)];rfl
      ·rw[Yt q1,Yt q2,Yt q3,Yf (fun h:_/\_=>a0 h.1)];rfl
     ·rw[Yt q1,Yt q2,Yf q3];rfl
    ·rw[Yt q1,Yf q2];rfl
   ·rw[Yf q1];rfl
theorem Xjn (l:List X4):X9l l=some (if l.length>4000 then 4 else if Xq6 l then 0 else 8):=by
 unfold X9l
 by_cases h:l.length>4000
 ·rw[Yt (by omega),if_pos h];rfl
 ·rw[Yf (by omega),if_neg h,cond_false,X35 (by omega),Yo,Xb1 l (by omega) l 0 rfl,if_pos rfl]
  unfold Xq6
  cases Xis none l<;>rfl
theorem Xsc (t:Xo) (hn:t.Store.length<=1000000):∀ (m n k:Nat),m=t.Store.length - k->m<n->k<=t.Store.length->X43 t n (k:Int)=some (if (t.Store.drop k).all (fun x=>decide (t.Op.Kind≠4)||(x.Values.e1.Count==0)) then .x1 else .x0):=by
 intro m
 induction m with
 |zero =>
  intro n k hm hmn hk
  obtain⟨n,rfl⟩:∃ q,n=q+1:=⟨n - 1,by omega⟩
  rw[X43,Yf (by omega),List.drop_eq_nil_of_le (by omega)];rfl
 |succ m ih =>
  intro n k hm hmn hk
  obtain⟨n,rfl⟩:∃ q,n=q+1:=⟨n - 1,by omega⟩
  have hlt:k<t.Store.length:=by omega
  rw[X43,Yt (by omega),cond_true,X49,Ye hlt,List.drop_eq_getElem_cons hlt,List.all_cons,X0e (by omega) (by omega),show((k:Int)+1)=((k+1:Nat):Int) by omega,ih n (k+1) (by omega) (by omega) (by omega)]
  by_cases h4:t.Op.Kind=4
  ·rw[show(t.Op.Kind==4)=true by simpa using h4,Yf (show ¬ t.Op.Kind≠4 by omega)]
   by_cases h1:t.Store[k].Values.e1.Count=0
   ·simp[h1]
   ·rw[show(t.Store[k].Values.e1.Count==0)=false by simpa using h1]
    simp only[cond_true,Yo,show(t.Store[k].Values.e1.Count != 0)=true by simpa using h1]
    rfl
  ·rw[show(t.Op.Kind==4)=false by simpa using h4,Yt (show t.Op.Kind≠4 from h4)];rfl
theorem Xrz (t:Xo):∃ b,X9h t=some b/\(b=false->t.Pending.length<=4010/\t.Rows.length<=4010/\t.Late.length<=4010/\t.Store.length<=100/\t.Events.length<=100/\t.Marks.length<=20):=by
 unfold X9h
 have g:∀ z:Int,∃ b,(bif (decide (z>(100:Int))) then (bif (decide (z<(3990:Int))) then (some (bif (bif (decide (z>(100:Int))) then (decide (z<(3990:Int))) else false) then true else false)) else (some (bif (bif (decide (z>(100:Int))) then (decide (z<(3990:Int))) else false) then true else (decide (z>(4010:Int)))))) else (some (bif (bif (decide (z>(100:Int))) then false else false) then true else (decide (z>(4010:Int))))):Option (Bool))=some b/\(b=false->z<=4010):=by
  intro z
  by_cases h1:z>100
  ·rw[Yt h1]
   by_cases h2:z<3990
   ·rw[Yt h2];exact⟨_,rfl,fun _=>by omega⟩
   ·rw[Yf h2];exact⟨_,rfl,fun h=>by have:=of_decide_eq_false h;omega⟩
  ·rw[Yf h1];exact⟨_,rfl,fun h=>by omega⟩
 obtain⟨b1,e1,f1⟩:=g (List.length t.Pending:Int)
 obtain⟨b2,e2,f2⟩:=g (List.length t.Rows:Int)
 obtain⟨b3,e3,f3⟩:=g (List.length t.Late:Int)
 rw[e1,Yo,e2,Yo,e3,Yo]
 cases b1 with
 |true=>exact⟨_,rfl,fun h=>by cases h⟩
 |false =>
 cases b2 with
 |true=>exact⟨_,rfl,fun h=>by cases h⟩
 |false =>
 cases b3 with
 |true=>exact⟨_,rfl,fun h=>by cases h⟩
 |false =>
 have f1:=f1 rfl
 have f2:=f2 rfl
 have f3:=f3 rfl
 by_cases h1:(List.length t.Store:Int)>100
 ·rw[Yt h1];exact⟨_,rfl,fun h=>by cases h⟩
 ·rw[Yf h1]
  by_cases h2:(List.length t.Events:Int)>100
  ·rw[Yt h2];exact⟨_,rfl,fun h=>by cases h⟩
  ·rw[Yf h2]
   refine⟨_,rfl,fun h=>?_⟩
   have h3:¬ (List.length t.Marks:Int)>20:=of_decide_eq_false h
   omega
theorem Xsb {t:Xo} (h1:t.Pending.length<=4010) (h2:t.Rows.length<=4010) (h3:t.Late.length<=4010) (h4:t.Store.length<=100) (h5:t.Events.length<=100) (h6:t.Marks.length<=20) :
  ∃ v,X9i t=some v/\(v=0->t.Op.Kind=4->t.Pending=[]->tOK t=true):=by
 obtain⟨k,hk,hk4⟩:=X00u t
 obtain⟨s,hs⟩:=Xo2 (l:=t.Pending) (by omega)
 obtain⟨b,hb,hbm⟩:=Xrk (t:=t) (by omega) (by omega) (by omega) (by omega)
 have hL:=Xsc t (by omega) (t.Store.length - 0) FU 0 rfl (by unfold FU;omega) (by omega)
 rw[show((0:Nat):Int)=0 from rfl,List.drop_zero] at hL
 unfold X9i
 rw[hk,hs,hb,Xjn,if_neg (by omega),hL]
 have no:∀ P:Prop,(8:Int)=0->P:=fun P h=>by omega
 by_cases n1:t.Turn<0
 ·rw[Yt n1];exact⟨_,rfl,no _⟩
 rw[Yf n1]
 by_cases n2:t.Turn >= 20
 ·rw[Yt n2];exact⟨_,rfl,no _⟩
 rw[Yf n2]
 by_cases n3:(List.length t.Pending:Int)>4000
 ·rw[Yt n3];exact⟨_,rfl,no _⟩
 rw[Yf n3]
 by_cases n4:t.Op.N<0
 ·rw[Yt n4];exact⟨_,rfl,no _⟩
 rw[Yf n4]
 by_cases n5:t.Op.N >= 4
 ·rw[Yt n5];exact⟨_,rfl,no _⟩
 rw[Yf n5]
 cases k with
 |false=>exact⟨_,rfl,no _⟩
 |true =>
 cases s with
 |false=>exact⟨_,rfl,no _⟩
 |true =>
 cases b with
 |false=>exact⟨_,rfl,no _⟩
 |true =>
 cases hst:Xq6 t.Store with
 |false=>exact⟨_,rfl,no _⟩
 |true =>
 cases he:t.Store.all (fun x=>decide (t.Op.Kind≠4)||(x.Values.e1.Count==0)) with
 |false=>exact⟨_,rfl,no _⟩
 |true =>
  refine⟨_,rfl,fun _ k4 hp=>?_⟩
  obtain⟨⟨m1,m2⟩,e1,e2,e3⟩:=hk4 k4 rfl
  have hm:=hbm rfl
  unfold tOK Xny Xcf Xga
  rw[k4] at he ⊢
  rw[hp,e1,e2,e3,hm,hst,he]
  simp only[List.length_nil,List.all_nil,Xe1,Xc0]
  simp
  omega
end Go.D


namespace Go.D
theorem X02k:Xbn=some true:=by decide +kernel
theorem X01s (q:X0b):∃ b,X9v q=some b:=by
 unfold X9v
 cases decide ((List.length q.Arg:Int)>100)<;>cases decide ((List.length q.Where:Int)>100)<;>exact⟨_,rfl⟩
end Go.D


namespace Go.D
theorem Xka {l:List Int} {j:Nat} {x:Int} (hms:Xek l=true) (hjl:j<l.length) (ht:Xir x=true):Xek (X1f l j x)=true:=by
 obtain⟨m1,m2,m3⟩:=X9s hms
 unfold Xek
 have hlr:(X1f l j x).length=l.length:=by unfold X1f;simp
 rw[hlr,Yt m1,Yt m2]
 simp only[Bool.true_and,List.all_eq_true]
 intro y hy
 unfold X1f at hy
 rcases List.mem_or_eq_of_mem_set hy with h|h
 ·exact List.all_eq_true.1 m3 y h
 ·rw[h]
  split
  ·unfold mkL;rw[ht];simp
  ·apply List.all_eq_true.1 m3
   rw[List.getD_eq_getElem?_getD,Ye hjl];exact List.getElem_mem hjl
theorem Xh8 {t:Xo} (h:tOK t=true) (hk:t.Op.Kind=4) {j:Nat} (hjl:j<t.Marks.length) {x:Int} (ht:Xir x=true) {S:List X4} (hS:S.Sublist t.Store):tOK { t with Marks:=X1f t.Marks j x,Store:=S }=true:=by
 have hms:=Xka (mks4 h hk) hjl ht
 have hlr:(X1f t.Marks j x).length=t.Marks.length:=by unfold X1f;simp
 obtain⟨o1,o2,o3,o4,o5⟩:=Xaw h
 have hsl:=hS.length_le
 have o2':Xcf { t with Marks:=X1f t.Marks j x,Store:=S }=true:=by
  unfold Xcf at o2 ⊢
  simp only[Bool.and_eq_true,decide_eq_true_eq] at o2 ⊢
  simp only[hlr]
  obtain⟨⟨⟨⟨⟨⟨a1,a2⟩,a3⟩,a4⟩,a5⟩,a6⟩,a7⟩:=o2
  exact⟨⟨⟨⟨⟨⟨a1,a2⟩,a3⟩,by omega⟩,a5⟩,a6⟩,a7⟩
 have o5':Xga { t with Marks:=X1f t.Marks j x,Store:=S }=true:=by
  unfold Xga at o5 ⊢
  simp only[Bool.and_eq_true] at o5 ⊢
  obtain⟨⟨⟨⟨a1,a2⟩,a3⟩,a4⟩,a5⟩:=o5
  refine⟨⟨⟨⟨(X9s hms).2.2,a2⟩,a3⟩,a4⟩,?_⟩
  rw[List.all_eq_true] at a5 ⊢
  exact fun y hy=>a5 y (hS.mem hy)
 have o1':Xny { t with Marks:=X1f t.Marks j x,Store:=S }=true:=o1
 unfold tOK
 rw[o1',o2',o5',show({ t with Marks:=X1f t.Marks j x,Store:=S }:Xo).Pending.all sOK=true from o3,show Xq6 ({ t with Marks:=X1f t.Marks j x,Store:=S }:Xo).Store=true from Xx0 hS o4]
 rfl
theorem Xm4 {q:X0b} (hq:RQ q) (hj:q.Join=false) {t:Xo} (hok:tOK t=true) (hk:t.Op.Kind=4) (hp:t.Pending=[]) {j:Nat} (hjl:j<t.Marks.length) {m:Xj} (hm:mOK m=true) (hmk:m.Kind=2) :
  (¬ Xdl (X1f t.Marks j m.Time)>Xdl t.Marks/\Xae q t (j:Int) m=some ({ t with Marks:=X1f t.Marks j m.Time },0)) \/
  (Xdl (X1f t.Marks j m.Time)>Xdl t.Marks/\Xae q t (j:Int) m=some ({ t with Marks:=X1f t.Marks j m.Time,Store:=Xc1 (Xdl (X1f t.Marks j m.Time)) t.Store,Pending:=Xdq q (X7i (Xdl (X1f t.Marks j m.Time)) t.Store) },0)):=by
 have hf:=hq.facts
 obtain⟨o1,o2,o3,o4,o5⟩:=Xaw hok
 obtain⟨l1,l2,l3,l4,l5,l6⟩:=Xfb o2
 have hi0:¬ (j:Int)<0:=by omega
 have hi1:¬ (j:Int) >= (List.length t.Marks:Int):=by omega
 have hpl:¬ (List.length t.Pending:Int)>0:=by rw[hp];decide
 have hkk:(bif (m.Kind != 1) then (m.Kind != 2) else false)=false:=by rw[hmk];rfl
 have hbase:∀ r,(bif (m.Kind==(1:Int)) then ((X6v t.Store q.Window m.Record 0).bind fun v13=>bif (v13.2 != (0:Int)) then (some (t0,v13.2)) else ((X54 (Xo.mk t.Op t.Turn t.Pending t.Marks v13.1 t.Events t.Rows t.Late) ([]:List X0g)).bind fun v16=>some (v16.1,v16.2))) else ((X7t t.Marks (j:Int) m.Time).bind fun v18=>bif (!v18.2.1) then ((X54 (Xo.mk t.Op t.Turn t.Pending v18.1 t.Store t.Events t.Rows t.Late) ([]:List X0g)).bind fun v21=>some (v21.1,v21.2)) else ((X5b v18.1).bind fun v23=>(X8s t.Store v23.1).bind fun v25=>(X5q (List.length v25.1)).bind fun u27=>(X2v (Xo.mk t.Op t.Turn t.Pending v18.1 v25.2.1 t.Events t.Rows t.Late) t0 q v25.1 v25.1 0 ([]:List X0g)).bind fun o90=>match o90 with|.x0 Xaf=>((X54 (Xo.mk t.Op t.Turn t.Pending v18.1 v25.2.1 t.Events t.Rows t.Late) Xaf).bind fun v92=>some (v92.1,v92.2)))):Option (Xo×Int))=r->Xae q t (j:Int) m=r:=by
  intro r hr
  unfold Xae
  rw[Xj8 hq.w,hq.ok,hj,Xeb,if_pos hok,show(t.Op.Kind != 4)=false by simpa using hk,Yf hi0,Yf hi1,X3h,if_pos hm,hkk,Yf hpl]
  exact hr
 have hpend:∀ (u:Xo),u.Pending=[]->∀ L:List X0g,L.all sOK=true->L.length<=4000->X54 u L=some (if tOK u then ({ u with Pending:=L },0) else (t0,8)):=by
  intro u hu L h1 h2
  rw[Xmi hu (by omega),if_pos h1,if_neg (show ¬ L.length>4000 by omega)]
 have hms:Xek t.Marks=true:=mks4 hok hk
 have ht:Xir m.Time=true:=by
  unfold mOK at hm
  rw[if_neg (by omega),if_pos hmk] at hm
  simp only[Bool.and_eq_true] at hm
  exact hm.1
 have hR:=Xjt hms hjl ht
 have hmr:=Xka hms hjl ht
 by_cases hgr:Xdl (X1f t.Marks j m.Time)>Xdl t.Marks
 ·refine .inr ⟨hgr,?_⟩
  have hokE:=(Xha.1 o4).1
  have hfl:=Xkl (Xdl (X1f t.Marks j m.Time)) t.Store
  have hsl:=Xk9 q (X7i (Xdl (X1f t.Marks j m.Time)) t.Store)
  have hPe:=hpend ⟨t.Op,t.Turn,t.Pending,X1f t.Marks j m.Time,Xc1 (Xdl (X1f t.Marks j m.Time)) t.Store,t.Events,t.Rows,t.Late⟩ hp _ (Xte q (l:=X7i (Xdl (X1f t.Marks j m.Time)) t.Store) fun x hx=>hokE x (Xg2 hx)) (by omega)
  have hok2:tOK ⟨t.Op,t.Turn,t.Pending,X1f t.Marks j m.Time,Xc1 (Xdl (X1f t.Marks j m.Time)) t.Store,t.Events,t.Rows,t.Late⟩=true:=Xh8 hok hk hjl ht List.filter_sublist
  refine hbase _ ?_
  rw[show(m.Kind==1)=false by simp;omega,cond_false,hR,Yo,Yt hgr]
  simp only[Bool.not_true,cond_false]
  rw[Xan,if_pos hmr,Yo]
  simp only
  rw[Xl0 o4 (by omega),Yo]
  simp only
  rw[X35 (by omega),Yo,Xbb hf.1.1 hf.1.2.1 _ _ _ _ 0 [] (fun x hx=>hokE x (Xg2 hx)) (by simp;omega),Yo]
  simp only[List.nil_append]
  rw[hPe,if_pos hok2,Yo]
 ·refine .inl ⟨hgr,?_⟩
  have hPe:=hpend ⟨t.Op,t.Turn,t.Pending,X1f t.Marks j m.Time,t.Store,t.Events,t.Rows,t.Late⟩ hp [] rfl (by simp)
  have hok2:tOK ⟨t.Op,t.Turn,t.Pending,X1f t.Marks j m.Time,t.Store,t.Events,t.Rows,t.Late⟩=true:=Xh8 hok hk hjl ht (List.Sublist.refl _)
  refine hbase _ ?_
  rw[show(m.Kind==1)=false by simp;omega,cond_false,hR,Yo,Yf hgr]
  simp only[Bool.not_false,cond_true]
  rw[hPe,if_pos hok2,Yo]
  simp only[<-hp]
theorem Xn9 (M:Int):∀ (l:List X4),l.Pairwise ltE->l=X7i M l++Xc1 M l
 |[],_=>rfl
 |x::l,h=>by
  rw[List.pairwise_cons] at h
  unfold X7i Xc1
  by_cases hx:x.Span.End<=M
  ·rw[List.filter_cons_of_pos (by simpa using hx),List.filter_cons_of_neg (by simpa using hx),List.cons_append]
   exact congrArg (x::·) (Xn9 M l h.2)
  ·have h1:∀ y∈l,¬ y.Span.End<=M:=fun y hy=>by have:=h.1 y hy;unfold ltE at this;omega
   rw[List.filter_cons_of_neg (by simpa using hx),List.filter_cons_of_pos (by simpa using hx)]
   rw[List.filter_eq_nil_iff.2 (fun y hy=>by simpa using h1 y hy),List.filter_eq_self.2 (fun y hy=>by simpa using h1 y hy)]
   rfl
theorem Xqr {q:X0b} (hq:RQ q) (t u s:Xo) (b:Bool) (z:Int) {F R:List X4} {y:Nat} (hy:t.Store.drop y=F++R) (hP:s.Pending=Xdq q F) (hF:∀ x∈F,okE x/\x.Values.e1.Count=0) (hl:t.Store.length<=10000) :
  ∀ (m n i:Nat),m=F.length - i->m<n->i<=F.length->X2o q t b u z s n ((y+i:Nat):Int) (i:Int)=some (.x1 ((y+F.length:Nat):Int)):=by
 have hPl:s.Pending.length=F.length:=by rw[hP,Xk9]
 have hdl:t.Store.length - y=F.length+R.length:=by have:=congrArg List.length hy;simpa using this
 intro m
 induction m with
 |zero =>
  intro n i hm hmn hi
  obtain⟨n,rfl⟩:∃ q,n=q+1:=⟨n - 1,by omega⟩
  rw[X2o,Yf (by omega),show i=F.length by omega];rfl
 |succ m ih =>
  intro n i hm hmn hi
  obtain⟨n,rfl⟩:∃ q,n=q+1:=⟨n - 1,by omega⟩
  have hlt:i<F.length:=by omega
  have hg:t.Store[y+i]?=some F[i]:=by
   have:=congrArg (fun l=>l[i]?) hy
   simp only[List.getElem?_drop] at this
   rw[this,List.getElem?_append_left hlt,Ye hlt]
  have hgp:s.Pending[i]?=some (Xo3 (rowG q F[i])):=by rw[hP];unfold Xdq;rw[List.getElem?_map,Ye hlt];rfl
  obtain⟨ho,h1⟩:=hF F[i] (List.getElem_mem hlt)
  obtain⟨_,_,_,a0,_,hc⟩:=ho
  have hc0:¬ F[i].Values.e0.Count=0:=by omega
  have hf:=hq.facts
  rw[X2o,Yt (show(i:Int)<(s.Pending.length:Int) by omega),cond_true,Yf (show ¬ ((y+i:Nat):Int) >= (t.Store.length:Int) by omega),cond_false,X49,hg,Yo,Xcv hf.1.1 hf.1.2.1 a0,if_neg hc0,Yo]
  simp only[bne_self_eq_false,cond_false]
  rw[X49,hgp,Yo]
  have he:Xde (Xo3 (rowG q F[i])).Message.Row (X1g.mk F[i].Key F[i].Span (V2.mk (Xyz q.Agg F[i].Values.e0) 0))=true:=by
   simp[Xo3,rowG,hc0,Xde,Xiz,Xiy]
  rw[he]
  simp only[Bool.not_true,Yo,cond_false]
  rw[X0e (by omega) (by omega),X0e (by omega) (by omega),show(((y+i:Nat):Int)+1)=((y+(i+1):Nat):Int) by omega,show((i:Int)+1)=((i+1:Nat):Int) by omega]
  exact ih n (i+1) (by omega) (by omega) (by omega)
def fin:Int:=9223372036854775807
structure FI (t s:Xo) (j y:Nat):Prop where
 ok:tOK s=true
 kind:s.Op.Kind=4
 pend:s.Pending=[]
 len:s.Marks.length=t.Marks.length
 store:s.Store=t.Store.drop y
 le:y<=t.Store.length
 done:∀ i,i<j->s.Marks[i]?=some fin
 all:Xdl s.Marks=fin->s.Store=[]
theorem X03l {x:Int} (h:mkL x=true):x<=fin:=by
 unfold mkL Xir isT at h
 unfold fin
 simp only[Bool.or_eq_true,Bool.and_eq_true,decide_eq_true_eq,beq_iff_eq] at h
 omega
theorem Xr8 {l:List Int} (hms:Xek l=true) {j:Nat} (hj:j<l.length):X1f l j fin=l.set j fin:=by
 unfold X1f
 have h1:l.getD j 0<=fin:=by
  rw[List.getD_eq_getElem?_getD,Ye hj]
  exact X03l (List.all_eq_true.1 (X9s hms).2.2 _ (List.getElem_mem hj))
 congr 1
 split<;>omega
theorem Xxk {l:List Int} (h1:1<=l.length) (h:∀ i,i<l.length->l[i]?=some fin):Xdl l=fin:=by
 obtain⟨i,hi,he⟩:=List.mem_iff_getElem.1 (Xqf h1)
 have:=h i hi
 rw[Ye hi] at this
 rw[<-he];exact Option.some.inj this
theorem Xyi {q:X0b} (hq:RQ q) (hj:q.Join=false) (t:Xo) (b:Bool) (hl:t.Store.length<=10000) (hml:t.Marks.length<=10000):∀ (d n j y:Nat) (s:Xo),d=t.Marks.length - j->d<n->j<=t.Marks.length->FI t s j y ->
  ∃ s',X2p q t b n (y:Int) s (j:Int)=some (.x1 (t.Store.length:Int) s')/\s'.Store=[]:=by
 intro d
 induction d with
 |zero =>
  intro n j y s hd hdn hjl I
  obtain⟨n,rfl⟩:∃ q,n=q+1:=⟨n - 1,by omega⟩
  have hms:=mks4 I.ok I.kind
  have h0:s.Store=[]:=I.all (Xxk (X9s hms).1 fun i hi=>I.done i (by have:=I.len;omega))
  have hyl:y=t.Store.length:=by
   have h:=I.store;rw[h0] at h
   have:=congrArg List.length h
   have hle:=I.le
   simp at this;omega
  refine⟨s,?_,h0⟩
  rw[X2p,Yf (by omega),hyl];rfl
 |succ d ih =>
  intro n j y s hd hdn hjl I
  obtain⟨n,rfl⟩:∃ q,n=q+1:=⟨n - 1,by omega⟩
  have hms:=mks4 I.ok I.kind
  have hjs:j<s.Marks.length:=by have:=I.len;omega
  have hfm:mOK ⟨2,⟨0,0,0⟩,9223372036854775807,⟨0,⟨0,0⟩,⟨0,0⟩⟩⟩=true:=by rw[Xp8];decide
  have hst:=(Xaw I.ok).2.2.2.1
  have hmk:Xir fin=true:=by decide
  rw[X2p,Yt (by omega),cond_true,show Xb7 9223372036854775807=some ⟨2,⟨0,0,0⟩,9223372036854775807,⟨0,⟨0,0⟩,⟨0,0⟩⟩⟩ from rfl,Yo]
  have hge:=Xtj (l:=s.Marks) (i:=j) (X9s hms).1 fin
  have hrf:=Xr8 hms hjs
  have hdone:∀ i,i<j+1->(X1f s.Marks j fin)[i]?=some fin:=by
   intro i hi
   rw[hrf]
   by_cases e:i=j
   ·rw[e,List.getElem?_set_self hjs]
   ·rw[List.getElem?_set_ne (by omega)];exact I.done i (by omega)
  have hlen:(X1f s.Marks j fin).length=t.Marks.length:=by unfold X1f;simp[I.len]
  rcases Xm4 hq hj I.ok I.kind I.pend hjs hfm rfl with ⟨hng,hT⟩|⟨hg,hT⟩
  ·rw[hT,Yo]
   simp only[bne_self_eq_false,cond_false]
   have h1:=Xqr hq t s { s with Marks:=X1f s.Marks j 9223372036854775807 } b (j:Int) (F:=[]) (R:=t.Store.drop y) (y:=y) rfl (by simp only[I.pend];rfl) (fun x hx=>by cases hx) hl 0 FU 0 rfl (by unfold FU;omega) (Nat.le_refl _)
   rw[Nat.add_zero,show((0:Nat):Int)=0 from rfl] at h1
   rw[h1,Yo]
   simp only
   rw[X0e (by omega) (by omega),show((j:Int)+1)=((j+1:Nat):Int) by omega]
   refine ih n (j+1) y _ (by omega) (by omega) (by omega) ⟨?_,I.kind,rfl,hlen,I.store,I.le,hdone,fun e=>I.all ?_⟩
   ·have:=Xh8 I.ok I.kind hjs hmk (List.Sublist.refl s.Store)
    rw[<-I.pend];exact this
   ·have e:Xdl (X1f s.Marks j fin)=fin:=e
    have hng:¬ Xdl (X1f s.Marks j fin)>Xdl s.Marks:=hng
    omega
  ·rw[hT,Yo]
   simp only[bne_self_eq_false,cond_false]
   generalize hM:Xdl (X1f s.Marks j 9223372036854775807)=M at *
   have hpre:=Xn9 M s.Store (Xha.1 hst).2
   have hok:∀ x∈s.Store,okE x/\x.Values.e1.Count=0:=fun x hx=>⟨(Xha.1 hst).1 x hx,X021 I.ok I.kind x hx⟩
   have hyd:t.Store.drop y=X7i M s.Store++Xc1 M s.Store:=by rw[<-I.store];exact hpre
   have hfl:=Xkl M s.Store
   have hsl:s.Store.length<=t.Store.length:=by rw[I.store];simp
   have hdl:t.Store.length - y=(X7i M s.Store).length+(Xc1 M s.Store).length:=by have:=congrArg List.length hyd;simpa using this
   have h1:=Xqr hq t s { s with Marks:=X1f s.Marks j 9223372036854775807,Store:=Xc1 M s.Store,Pending:=Xdq q (X7i M s.Store) } b (j:Int) hyd rfl (fun x hx=>hok x (Xg2 hx)) hl ((X7i M s.Store).length - 0) FU 0 rfl (by unfold FU;omega) (Nat.zero_le _)
   rw[Nat.add_zero,show((0:Nat):Int)=0 from rfl] at h1
   rw[h1,Yo]
   simp only
   rw[X0e (by omega) (by omega),show((j:Int)+1)=((j+1:Nat):Int) by omega]
   have hle:=I.le
   refine ih n (j+1) (y+(X7i M s.Store).length) _ (by omega) (by omega) (by omega) ⟨?_,I.kind,rfl,hlen,?_,by omega,hdone,fun e=>?_⟩
   ·have:=Xh8 I.ok I.kind hjs hmk (S:=Xc1 M s.Store) List.filter_sublist
    rw[<-I.pend];exact this
   ·show Xc1 M s.Store=_
    rw[<-List.drop_drop,hyd,List.drop_left]
   ·have e:Xdl (X1f s.Marks j 9223372036854775807)=fin:=e
    have hMf:M=fin:=by rw[<-hM];exact e
    show Xc1 M s.Store=[]
    unfold Xc1
    rw[List.filter_eq_nil_iff]
    intro x hx
    have:=(hok x hx).1.2.2.1
    have h2:x.Span.End<=M:=by rw[hMf];unfold fin;omega
    simp[h2]
theorem Xs3 {q:X0b} (hq:QW q) (t:Xo):X5x q t=some true:=by
 unfold X5x
 rw[X02k,Yo]
 obtain⟨g,hg⟩:=X01s q
 obtain⟨g2,hg2,hb⟩:=Xrz t
 rw[hg,Yo,hg2,Yo,Xx7 hq]
 cases g with
 |true=>rfl
 |false =>
 cases g2 with
 |true=>rfl
 |false =>
 obtain⟨b1,b2,b3,b4,b5,b6⟩:=hb rfl
 by_cases ha:(Xtl q).2=0
 rotate_left
 ·rw[Yf ha];rfl
 rw[Yt ha]
 cases hj:q.Join with
 |true=>rfl
 |false =>
 obtain⟨v,hv,hv0⟩:=Xsb b1 b2 b3 b4 b5 b6
 rw[hv]
 by_cases hz:v=0
 rotate_left
 ·simp only[Yo,Bool.not_true,cond_false,show(v != 0)=true by simpa using hz];rfl
 by_cases hk:t.Op.Kind=4
 rotate_left
 ·simp only[Yo,Bool.not_true,cond_false,show(v != 0)=false by simpa using hz,show(t.Op.Kind != 4)=true by simpa using hk];rfl
 by_cases hp:t.Pending=[]
 rotate_left
 ·have hpl:(List.length t.Pending:Int)>0:=by
   cases hpp:t.Pending with
   |nil=>exact absurd hpp hp
   |cons a b=>simp
  simp only[Yo,Bool.not_true,cond_false,show(v != 0)=false by simpa using hz,show(t.Op.Kind != 4)=false by simpa using hk,Yt hpl];rfl
 have hok:=hv0 hz hk hp
 have hpl:¬ (List.length t.Pending:Int)>0:=by rw[hp];decide
 have hms:=mks4 hok hk
 simp only[Yo,Bool.not_true,cond_false,show(v != 0)=false by simpa using hz,show(t.Op.Kind != 4)=false by simpa using hk,Yf hpl]
 rw[Xan,if_pos hms,Yo]
 simp only[bne_self_eq_false,cond_false]
 by_cases hf:Xdl t.Marks=9223372036854775807
 ·rw[show(Xdl t.Marks==9223372036854775807)=true by simpa using hf];rfl
 ·rw[show(Xdl t.Marks==9223372036854775807)=false by simpa using hf]
  simp only[cond_false]
  obtain⟨s',h1,h2⟩:=Xyi ⟨hq,ha⟩ hj t true (by omega) (by omega) (t.Marks.length - 0) FU 0 0 t rfl (by unfold FU;omega) (Nat.zero_le _) ⟨hok,hk,hp,rfl,rfl,Nat.zero_le _,fun i hi=>by omega,fun e=>absurd e hf⟩
  rw[show((0:Nat):Int)=0 from rfl] at h1
  rw[h1,Yo]
  simp[h2]
theorem Xfs (q:X0b) (t:Xo) (w0:Xhu q) {P:Prop} (_:P):X5x q t=some true:=Xs3 (X051 w0) t
end Go.D
