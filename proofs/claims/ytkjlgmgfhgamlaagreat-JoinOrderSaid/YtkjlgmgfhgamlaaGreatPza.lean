/- Parts of the proof, laid together. -/
import Derived.Test.YtkjlgmgfhgamlaaGreatDFunZ
set_option linter.all false

namespace Go.D
theorem X0m {z:Int} (h1 : -9223372036854775808<=z) (h2:z<=9223372036854775807):IntKind.i64.wrap z=z:=Go.IntWalk.i64_in z ⟨h1,h2⟩
theorem X36 {n:Nat} (h:n<=140737488355328):X5q n=some ():=by unfold X5q;rw[if_pos h]
theorem X2n {n b:Nat} (h:n*b<=140737488355328):X1w n b=some ():=by unfold X1w;rw[if_pos h]
theorem X4f {α:Type} (l:List α) (k:Nat):X3c l (k:Int)=l[k]?:=by simp[X3c]
def ltE (a b:X2):Prop:=a.Span.End<b.Span.End\/a.Span.End=b.Span.End/\(a.Span.Start<b.Span.Start\/a.Span.Start=b.Span.Start/\a.Key<b.Key)
instance (a b:X2):Decidable (ltE a b):=by unfold ltE;infer_instance
def X4w (a b:X2):Prop:=a.Key=b.Key/\a.Span=b.Span
instance (a b:X2):Decidable (X4w a b):=by unfold X4w;infer_instance
theorem Xg4 {a b:X05} (h1:a.Start=b.Start) (h2:a.End=b.End):a=b:=by cases a;cases b;simp_all
theorem Xdk {a b c:X2} (h:ltE a b) (k:ltE b c):ltE a c:=by unfold ltE at *;omega
theorem Xel (a:X2):¬ ltE a a:=by unfold ltE;omega
theorem Xs8 {a b:X2} (h:ltE a b):¬ ltE b a:=by unfold ltE at *;omega
theorem Xh5 {a b:X2}:ltE a b\/X4w a b\/ltE b a:=by
 by_cases h:X4w a b
 ·exact .inr (.inl h)
 ·have:¬ (a.Key=b.Key/\a.Span.Start=b.Span.Start/\a.Span.End=b.Span.End):=fun⟨h1,h2,h3⟩=>h ⟨h1,Xg4 h2 h3⟩
  unfold ltE;omega
theorem sameK_ltE {a b c:X2} (h:X4w a b):ltE c a↔ltE c b:=by unfold X4w at h;unfold ltE;rw[h.1,h.2]
theorem Xa7 {a b c:X2} (h:X4w a b):ltE a c↔ltE b c:=by unfold X4w at h;unfold ltE;rw[h.1,h.2]
theorem X9h {a b:X2} (h:X4w a b):¬ ltE a b:=by unfold X4w at h;unfold ltE;rw[h.1,h.2];omega
def cmpI (a b:Int):Int:=if a<b then -1 else if a>b then 1 else 0
theorem X01m (a b:Int):X2s a b=some (cmpI a b):=by
 simp only[X2s,X5e,bne_self_eq_false,Yo,cond_false,cmpI]
 by_cases h1:a<b
 ·simp[h1]
 ·by_cases h2:a>b
  ·simp[h1,h2]
  ·simp[h1,h2]
def Xqr (a b:X2):Int:=if ltE a b then -1 else if ltE b a then 1 else 0
theorem X7j (a b:X2):X65 a b=some (Xqr a b):=by
 simp only[X65,X01m,Yo,Xci,X5l,List.length_cons,List.length_nil]
 rw[X36 (by omega)]
 simp only[Yo,Xqr,ltE,cmpI]
 by_cases h1:a.Span.End<b.Span.End
 ·simp[h1]
 ·by_cases h2:a.Span.End>b.Span.End
  ·have:¬ a.Span.End=b.Span.End:=by omega
   simp[h1,h2,this]
  ·have he:a.Span.End=b.Span.End:=by omega
   by_cases h3:a.Span.Start<b.Span.Start
   ·simp[he,h3]
   ·by_cases h4:a.Span.Start>b.Span.Start
    ·have:¬ a.Span.Start=b.Span.Start:=by omega
     simp[he,h3,h4,this]
    ·have hs:a.Span.Start=b.Span.Start:=by omega
     by_cases h5:a.Key<b.Key
     ·simp[he,hs,h5]
     ·by_cases h6:a.Key>b.Key
      ·simp[he,hs,h5,h6]
      ·simp[he,hs,h5,h6]
theorem Xmm {a b:X2}:Xqr a b<0↔ltE a b:=by
 unfold Xqr
 by_cases h:ltE a b
 ·simp[h]
 ·by_cases h2:ltE b a<;>simp[h,h2]
theorem Xyb {a b:X2}:Xqr a b=0↔X4w a b:=by
 unfold Xqr
 by_cases h:ltE a b
 ·simp[h];exact fun hs=>X9h hs h
 ·by_cases h2:ltE b a
  ·simp[h,h2];exact fun hs=>h ((Xa7 hs).2 ((sameK_ltE hs).1 h2))
  ·simp[h,h2]
   rcases Xh5 (a:=a) (b:=b) with h3|h3|h3
   ·exact absurd h3 h
   ·exact h3
   ·exact absurd h3 h2
theorem Xmn {a b:X2}:0<=Xqr a b↔¬ ltE a b:=by rw[<-Xmm];omega
def okA (a:X15):Prop:=(a.Count=0/\a=⟨0,0,0,0⟩)\/(a.Count=1/\a.Sum=a.Min/\a.Sum=a.Max)\/(1<a.Count/\a.Count<=1073741824/\a.Min<=a.Max)
theorem Xke (x y:X15):Xez x y=decide (x=y):=by
 obtain⟨a,b,c,d⟩:=x
 obtain⟨e,f,g,h⟩:=y
 rw[Bool.eq_iff_iff]
 simp[Xez]
theorem X3j {a:X15} (h:okA a):X2m a=some 0:=by
 rcases h with ⟨h1,h2⟩|⟨h1,h2,h3⟩|⟨h1,h2,h3⟩
 ·subst h2;rfl
 ·have h3':a.Min=a.Max:=by omega
  simp[X2m,h1,h2,h3']
 ·have e0:(a.Count==0)=false:=by simp;omega
  have e1:(a.Count==1)=false:=by simp;omega
  simp[X2m,e0,e1,h1,h2,h3]
def X3v (a b:X15):X15 :=
 if a.Count=0 then b else if b.Count=0 then a else ⟨a.Count+b.Count,IntKind.i64.wrap (a.Sum+b.Sum),if b.Min<a.Min then b.Min else a.Min,if b.Max>a.Max then b.Max else a.Max⟩
theorem X7o {a:X15} (h:okA a):0<=a.Count/\a.Count<=1073741824:=by
 rcases h with ⟨h1,_⟩|⟨h1,_⟩|⟨h1,h2,_⟩<;>omega
theorem X44 {a b:X15} (ha:okA a) (hb:okA b) (hc:a.Count+b.Count<=1073741824):X2i a b=some (X3v a b,0):=by
 have h1:=X7o ha
 have h2:=X7o hb
 simp only[X2i,X3j ha,X3j hb,Yo,bne_self_eq_false,cond_false,X3v]
 rw[X0m (by omega) (by omega)]
 have e0:decide (a.Count+b.Count>1073741824)=false:=by simp;omega
 rw[e0,cond_false]
 by_cases h3:a.Count=0
 ·have e1:(a.Count==0)=true:=by simp[h3]
  rw[e1,cond_true,if_pos h3]
 ·have e1:(a.Count==0)=false:=by simp[h3]
  rw[e1,cond_false,if_neg h3]
  by_cases h4:b.Count=0
  ·have e2:(b.Count==0)=true:=by simp[h4]
   rw[e2,cond_true,if_pos h4]
  ·have e2:(b.Count==0)=false:=by simp[h4]
   rw[e2,cond_false,if_neg h4]
theorem Xrw {a:X15} (h:okA a):a.Min<=a.Max:=by
 rcases h with ⟨_,h2⟩|⟨_,h2,h3⟩|⟨_,_,h3⟩
 ·subst h2;decide
 ·omega
 ·exact h3
theorem Xvh {a b:X15} (ha:okA a) (hb:okA b) (hc:a.Count+b.Count<=1073741824):okA (X3v a b):=by
 unfold X3v
 have h1:=X7o ha
 have h2:=X7o hb
 by_cases h3:a.Count=0
 ·rw[if_pos h3];exact hb
 ·rw[if_neg h3]
  by_cases h4:b.Count=0
  ·rw[if_pos h4];exact ha
  ·rw[if_neg h4]
   have m1:=Xrw ha
   have m2:=Xrw hb
   refine .inr (.inr ⟨?_,hc,?_⟩)
   ·show 1<a.Count+b.Count;omega
   ·show(if b.Min<a.Min then b.Min else a.Min)<=(if b.Max>a.Max then b.Max else a.Max)
    split<;>split<;>omega
def okE (x:X2):Prop := -1100585369600<=x.Span.Start/\x.Span.Start<x.Span.End/\x.Span.End<=1100585369600/\okA x.Values.e0/\okA x.Values.e1/\0<x.Values.e0.Count+x.Values.e1.Count
theorem X9s {x:X2} (h:okE x):X64 x=some true:=by
 obtain⟨h1,h2,h3,h4,h5,h6⟩:=h
 have c1:=X7o h4
 have c2:=X7o h5
 have e1:¬ x.Span.Start < -1100585369600:=by omega
 have e2:¬ x.Span.End<=x.Span.Start:=by omega
 have e3:¬ x.Span.End>1100585369600:=by omega
 simp only[X64,X3j h4,X3j h5,Yo]
 rw[X0m (by omega) (by omega)]
 have e3:¬ 1100585369600<x.Span.End:=by omega
 simp[e1,e2,e3,h6]
theorem X7b (l:List X2) (hs:l.Pairwise ltE) (ho:∀ x∈l,okE x) (hn:l.length<=1000000):∀ (xs:List X2) (k:Nat),l.drop k=xs->X2u l xs k=some .x0:=by
 intro xs
 induction xs with
 |nil=>intro k _;rfl
 |cons x xs ih =>
  intro k hk
  have hlt:k<l.length:=by
   rcases Nat.lt_or_ge k l.length with h|h
   ·exact h
   ·rw[List.drop_eq_nil_of_le h] at hk;cases hk
  have hx:l[k]?=some x:=by have:=congrArg List.head? hk;simpa[List.head?_drop] using this
  have hmem:x∈l:=Yg hx
  have hnext:l.drop (k+1)=xs:=by rw[<-List.tail_drop,hk];rfl
  rw[X2u]
  simp only[X9s (ho x hmem),Yo,Bool.not_true,cond_false,cond_true]
  by_cases h0:k=0
  ·subst h0
   simp only[Int.ofNat_zero,Int.cast_ofNat_Int,gt_iff_lt,Int.lt_irrefl,decide_false,cond_false,Yo]
   exact ih 1 hnext
  ·have hpos:decide ((k:Int)>0)=true:=by simp;omega
   rw[hpos,cond_true]
   have hw:IntKind.i64.wrap ((k:Int) - 1)=((k - 1:Nat):Int):=by rw[X0m (by omega) (by omega)];omega
   rw[hw,X4f]
   have hp:l[k - 1]?=some l[k - 1]:=Ye (by omega)
   rw[hp]
   have hlt2:ltE l[k - 1] x:=by
    have h3:=List.pairwise_iff_getElem.1 hs (k - 1) k (by omega) hlt (by omega)
    have:l[k]=x:=by rw[Ye hlt] at hx;exact Option.some.inj hx
    rwa [this] at h3
   have hord:¬ (0<=Xqr l[k - 1] x):=by rw[Xmn];exact fun h=>h hlt2
   simp only[Yo,X7j,ge_iff_le,hord,decide_false,cond_false]
   exact ih (k+1) hnext
theorem X9t {l:List X2} (hs:l.Pairwise ltE) (ho:∀ x∈l,okE x) (hn:l.length<=4000):X4h l=some 0:=by
 unfold X4h
 have:¬ ((l.length:Int)>4000):=by omega
 simp only[this,decide_false,cond_false]
 rw[X36 (by omega),X7b l hs ho (by omega) l 0 rfl]
 rfl
theorem X00v {i j:Nat} (h:i+j<=1000000):IntKind.i64.wrap (Int.fdiv (IntKind.u64.wrap (IntKind.i64.wrap ((i:Int)+(j:Int)))) (2 ^ (min (Int.toNat 1) IntKind.u64.bits)))=(((i+j) / 2:Nat):Int):=by
 have h1:IntKind.i64.wrap ((i:Int)+(j:Int))=(i:Int)+j:=X0m (by omega) (by omega)
 rw[h1]
 have h2:IntKind.u64.wrap ((i:Int)+j)=(i:Int)+j:=Go.IntWalk.u64_in _ ⟨by omega,by omega⟩
 rw[h2]
 have h3:(min (Int.toNat 1) IntKind.u64.bits)=1:=by decide
 rw[h3]
 have h4:Int.fdiv ((i:Int)+j) (2 ^ 1)=(((i+j) / 2:Nat):Int):=by
  rw[Int.fdiv_eq_ediv_of_nonneg _ (by decide)]
  omega
 rw[h4,X0m (by omega) (by omega)]
theorem X048 (l:List X2) (x:X2) (c:Nat) (n:Int) (hn:l.length<=400000) (hc:∀ (k:Nat) y,l[k]?=some y->(ltE y x↔k<c)):∀ (f i j:Nat),i<=c->c<=j->j<=l.length->j - i<f ->
  Xu l x n f i j=some (.x0 c):=by
 intro f
 induction f with
 |zero=>intro i j _ _ _ h;omega
 |succ f ih =>
  intro i j h1 h2 h3 h4
  rw[Xu]
  by_cases hij:i<j
  ·have hd:decide ((i:Int)<(j:Int))=true:=by simp;exact hij
   rw[hd,cond_true,X00v (by omega),X4f]
   have hm:(i+j) / 2<l.length:=by omega
   rw[Ye hm]
   simp only[Yo,X7j]
   have hcc:=hc ((i+j) / 2) _ (Ye hm)
   by_cases hl:ltE l[(i+j) / 2] x
   ·have:Xqr l[(i+j) / 2] x<0:=Xmm.2 hl
    simp only[this,decide_true,cond_true]
    rw[X0m (by omega) (by omega)]
    have:=hcc.1 hl
    have h5:=ih ((i+j) / 2+1) j (by omega) h2 h3 (by omega)
    simpa using h5
   ·have:¬ Xqr l[(i+j) / 2] x<0:=fun h=>hl (Xmm.1 h)
    simp only[this,decide_false,cond_false]
    have:¬ (i+j) / 2<c:=fun h=>hl (hcc.2 h)
    exact ih i ((i+j) / 2) h1 (by omega) (by omega) (by omega)
  ·have hd:decide ((i:Int)<(j:Int))=false:=by simp;omega
   rw[hd,cond_false]
   have:i=c:=by omega
   rw[this]
def cnt (l:List X2) (x:X2):Nat:=(l.takeWhile fun y=>decide (ltE y x)).length
theorem Xte (l:List X2) (x:X2):cnt l x<=l.length:=by unfold cnt;exact(List.takeWhile_sublist _).length_le
theorem Xzm {l:List X2} {x:X2} (hs:l.Pairwise ltE):∀ (k:Nat) y,l[k]?=some y->(ltE y x↔k<cnt l x):=by
 induction l with
 |nil=>intro k y h;simp at h
 |cons z l ih =>
  intro k y h
  rw[List.pairwise_cons] at hs
  unfold cnt
  by_cases hz:ltE z x
  ·rw[List.takeWhile_cons_of_pos (by simpa using hz)]
   cases k with
   |zero=>simp at h;subst h;simp[hz]
   |succ k =>
    simp at h
    have:=ih hs.2 k y h
    unfold cnt at this
    rw[this];simp
  ·rw[List.takeWhile_cons_of_neg (by simpa using hz)]
   simp only[List.length_nil,Nat.not_lt_zero,iff_false]
   cases k with
   |zero=>simp at h;subst h;exact hz
   |succ k =>
    simp at h
    exact fun hy=>hz (Xdk (hs.1 y (Yg h)) hy)
theorem X01n {l:List X2} {x:X2} (hs:l.Pairwise ltE) (hn:l.length<=50000) :
  Xi l x=some ((cnt l x:Int),match l[cnt l x]? with|some y=>decide (X4w y x)|none=>false):=by
 unfold Xi
 have h0:=X048 l x (cnt l x) (l.length:Int) (by omega) (Xzm hs) FU 0 l.length (by omega) (Xte l x) (Nat.le_refl _) (by unfold FU;omega)
 rw[show((0:Nat):Int)=0 from rfl] at h0
 rw[h0]
 simp only[Yo]
 by_cases hlt:cnt l x<l.length
 ·have hd:decide ((cnt l x:Int)<(l.length:Int))=true:=by simp;exact hlt
  rw[hd,X4f,Ye hlt]
  simp only[cond_true,Yo,X7j]
  congr 2
  rw[Bool.eq_iff_iff]
  simp[Xyb]
 ·have hd:decide ((cnt l x:Int)<(l.length:Int))=false:=by simp;omega
  rw[hd,List.getElem?_eq_none (by omega)]
  rfl
end Go.D


namespace Go.D
def Xj6 (y x:X2):X2:=⟨y.Key,y.Span,⟨X3v y.Values.e0 x.Values.e0,X3v y.Values.e1 x.Values.e1⟩⟩
def Xjs:List X2->X2->List X2
 |[],x=>[x]
 |y::l,x=>if ltE y x then y::Xjs l x else if X4w y x then Xj6 y x::l else x::y::l
theorem Xrs {l:List X2} {x:X2} (hs:l.Pairwise ltE) :
  Xjs l x=(match l[cnt l x]? with
   |none=>l++[x]
   |some y=>if X4w y x then l.set (cnt l x) (Xj6 y x) else l.take (cnt l x)++x::l.drop (cnt l x)):=by
 induction l with
 |nil=>rfl
 |cons z l ih =>
  rw[List.pairwise_cons] at hs
  unfold Xjs
  by_cases hz:ltE z x
  ·have hc:cnt (z::l) x=cnt l x+1:=by unfold cnt;rw[List.takeWhile_cons_of_pos (by simpa using hz)];rfl
   rw[if_pos hz,hc,ih hs.2]
   simp only[List.getElem?_cons_succ]
   cases h:l[cnt l x]? with
   |none=>rfl
   |some y =>
    simp only
    split
    ·rfl
    ·rfl
  ·have hc:cnt (z::l) x=0:=by unfold cnt;rw[List.takeWhile_cons_of_neg (by simpa using hz)];rfl
   rw[if_neg hz,hc]
   simp only[List.getElem?_cons_zero]
   split<;>rfl
def putF (l:List X2) (x:X2):Option (List X2×Int) :=
 (Xi l x).bind fun v1393=>bif (!v1393.2) then (bif (v1393.1==(List.length l:Int)) then (((X76 l v1393.1 (List.length l:Int)).bind fun m1405=>bif (List.isEmpty m1405) then ((X1w (List.length (l++[x])) 88).bind fun u1408=>some ()) else ((X1w (List.length (l++[x])) 88).bind fun u1410=>some ()):Option (Unit)).bind fun _=>some ((l++[x]),0)) else ((Xq3 l v1393.1 x 88).bind fun m1413=>some (m1413,0))) else ((X3c l v1393.1).bind fun e1415=>((X2i e1415.Values.e0 x.Values.e0).bind fun v1430=>bif (v1430.2 != (0:Int)) then (some (l,v1430.2)) else ((X2i (((X2.mk e1415.Key e1415.Span (V2.mk v1430.1 e1415.Values.e1)).Values).e1) x.Values.e1).bind fun v1435=>bif (v1435.2 != (0:Int)) then (some ((List.set l (Int.toNat v1393.1) (X2.mk e1415.Key e1415.Span (V2.mk v1430.1 e1415.Values.e1))),v1435.2)) else (some ((List.set (List.set l (Int.toNat v1393.1) (X2.mk e1415.Key e1415.Span (V2.mk v1430.1 e1415.Values.e1))) (Int.toNat v1393.1) (X2.mk ((X2.mk e1415.Key e1415.Span (V2.mk v1430.1 e1415.Values.e1)).Key) ((X2.mk e1415.Key e1415.Span (V2.mk v1430.1 e1415.Values.e1)).Span) (V2.mk (((X2.mk e1415.Key e1415.Span (V2.mk v1430.1 e1415.Values.e1)).Values).e0) v1435.1))),0))):Option ((List X2)×Int)).bind fun w1427=>some (w1427.1,w1427.2))
theorem Xy8 {l:List X2} {x:X2} (hs:l.Pairwise ltE) (hn:l.length<=10000) (hx:okA x.Values.e0/\okA x.Values.e1)
  (ho:∀ y∈l,X4w y x->okA y.Values.e0/\okA y.Values.e1/\y.Values.e0.Count+x.Values.e0.Count<=1073741824/\y.Values.e1.Count+x.Values.e1.Count<=1073741824):putF l x=some (Xjs l x,0):=by
 unfold putF
 rw[X01n hs (by omega),Xrs hs]
 have hle:=Xte l x
 cases h:l[cnt l x]? with
 |none =>
  have hc:cnt l x=l.length:=by
   have:=List.getElem?_eq_none_iff.1 h;omega
  have hsl:X76 l (l.length:Int) (l.length:Int)=some []:=by simp[X76]
  simp only[Yo,Bool.not_false,cond_true,hc,beq_self_eq_true,hsl]
  rw[X2n (by simp;omega)]
  rfl
 |some y =>
  have hlt:cnt l x<l.length:=(Ys.1 h).1
  simp only[Yo]
  by_cases hk:X4w y x
  ·obtain⟨a1,a2,a3,a4⟩:=ho y (Yg h) hk
   simp only[hk,decide_true,Bool.not_true,cond_false,X4f,h,Yo,X44 a1 hx.1 a3,X44 a2 hx.2 a4,bne_self_eq_false,if_true,Int.toNat_natCast,List.set_set]
   rfl
  ·have hne:((cnt l x:Int)==(l.length:Int))=false:=by simp;omega
   have hi:Xq3 l (cnt l x:Int) x 88=some (l.take (cnt l x)++x::l.drop (cnt l x)):=by
    unfold Xq3;rw[if_pos ⟨by omega,by simpa using hlt,by omega⟩];simp
   simp only[hk,decide_false,Bool.not_false,cond_true,hne,cond_false,hi,Yo,if_false]
theorem Xjq {l:List X2} {x:X2} (hs:l.Pairwise ltE) (e:X2) :
  e∈Xjs l x↔(e∈l/\¬ X4w e x)\/(∃ y∈l,X4w y x/\e=Xj6 y x)\/((∀ y∈l,¬ X4w y x)/\e=x):=by
 induction l with
 |nil=>simp[Xjs]
 |cons z l ih =>
  rw[List.pairwise_cons] at hs
  unfold Xjs
  by_cases hz:ltE z x
  ·have hnz:¬ X4w z x:=fun h=>X9h h hz
   rw[if_pos hz,List.mem_cons,ih hs.2]
   constructor
   ·rintro(rfl|⟨h1,h2⟩|⟨y,h1,h2,h3⟩|⟨h1,h2⟩)
    ·exact .inl ⟨List.mem_cons_self,hnz⟩
    ·exact .inl ⟨List.mem_cons_of_mem _ h1,h2⟩
    ·exact .inr (.inl ⟨y,List.mem_cons_of_mem _ h1,h2,h3⟩)
    ·exact .inr (.inr ⟨fun y hy=>(List.mem_cons.1 hy).elim (fun h=>h▸hnz) (h1 y),h2⟩)
   ·rintro(⟨h1,h2⟩|⟨y,h1,h2,h3⟩|⟨h1,h2⟩)
    ·rcases List.mem_cons.1 h1 with h1|h1
     ·exact .inl h1
     ·exact .inr (.inl ⟨h1,h2⟩)
    ·rcases List.mem_cons.1 h1 with h1|h1
     ·subst h1;exact absurd h2 hnz
     ·exact .inr (.inr (.inl ⟨y,h1,h2,h3⟩))
    ·exact .inr (.inr (.inr ⟨fun y hy=>h1 y (List.mem_cons_of_mem _ hy),h2⟩))
  ·rw[if_neg hz]
   have hno:∀ y∈l,¬ (X4w z x/\X4w y x):=fun y hy ⟨h1,h2⟩=>by
    have:=hs.1 y hy
    exact X9h (a:=y) (b:=y) ⟨rfl,rfl⟩ (by rw[Xa7 (c:=y) h1] at this;rw[<-Xa7 h2] at this;exact this)
   by_cases hk:X4w z x
   ·rw[if_pos hk,List.mem_cons]
    constructor
    ·rintro(rfl|h1)
     ·exact .inr (.inl ⟨z,List.mem_cons_self,hk,rfl⟩)
     ·exact .inl ⟨List.mem_cons_of_mem _ h1,fun h=>hno e h1 ⟨hk,h⟩⟩
    ·rintro(⟨h1,h2⟩|⟨y,h1,h2,h3⟩|⟨h1,h2⟩)
     ·rcases List.mem_cons.1 h1 with h1|h1
      ·subst h1;exact absurd hk h2
      ·exact .inr h1
     ·rcases List.mem_cons.1 h1 with h1|h1
      ·subst h1;exact .inl h3
      ·exact absurd ⟨hk,h2⟩ (hno y h1)
     ·exact absurd hk (h1 z List.mem_cons_self)
   ·rw[if_neg hk]
    have hxz:ltE x z:=by
     rcases Xh5 (a:=z) (b:=x) with h|h|h
     ·exact absurd h hz
     ·exact absurd h hk
     ·exact h
    have hn:∀ y∈l,¬ X4w y x:=fun y hy h=>by
     have h1:=Xdk hxz (hs.1 y hy)
     exact X9h (a:=y) (b:=y) ⟨rfl,rfl⟩ (by rw[<-Xa7 h] at h1;exact h1)
    rw[List.mem_cons]
    constructor
    ·rintro(rfl|h1)
     ·exact .inr (.inr ⟨fun y hy=>(List.mem_cons.1 hy).elim (fun h=>h▸hk) (hn y),rfl⟩)
     ·exact .inl ⟨h1,fun h=>(List.mem_cons.1 h1).elim (fun h2=>hk (h2▸h)) (fun h2=>hn e h2 h)⟩
    ·rintro(⟨h1,h2⟩|⟨y,h1,h2,h3⟩|⟨h1,h2⟩)
     ·exact .inr h1
     ·rcases List.mem_cons.1 h1 with h1|h1
      ·subst h1;exact absurd h2 hk
      ·exact absurd h2 (hn y h1)
     ·exact .inl h2
theorem Xh1 (y x:X2):X4w (Xj6 y x) y:=⟨rfl,rfl⟩
theorem Xgy {l:List X2} {x:X2} (hs:l.Pairwise ltE):(Xjs l x).Pairwise ltE:=by
 induction l with
 |nil=>exact List.pairwise_singleton _ _
 |cons z l ih =>
  have hs0:=hs
  rw[List.pairwise_cons] at hs
  unfold Xjs
  by_cases hz:ltE z x
  ·rw[if_pos hz,List.pairwise_cons]
   refine⟨fun e he=>?_,ih hs.2⟩
   rcases(Xjq hs.2 e).1 he with ⟨h1,_⟩|⟨y,h1,h2,rfl⟩|⟨_,rfl⟩
   ·exact hs.1 e h1
   ·rw[sameK_ltE (Xh1 y x)];exact hs.1 y h1
   ·exact hz
  ·rw[if_neg hz]
   by_cases hk:X4w z x
   ·rw[if_pos hk,List.pairwise_cons]
    exact⟨fun e he=>by rw[Xa7 (Xh1 z x)];exact hs.1 e he,hs.2⟩
   ·rw[if_neg hk,List.pairwise_cons]
    have hxz:ltE x z:=by
     rcases Xh5 (a:=z) (b:=x) with h|h|h
     ·exact absurd h hz
     ·exact absurd h hk
     ·exact h
    exact⟨fun e he=>(List.mem_cons.1 he).elim (fun h=>h▸hxz) (fun h=>Xdk hxz (hs.1 e h)),hs0⟩
theorem Xjr (l:List X2) (x:X2):(Xjs l x).length<=l.length+1:=by
 induction l with
 |nil=>simp[Xjs]
 |cons z l ih =>
  unfold Xjs
  split
  ·simp;exact ih
  ·split<;>simp
end Go.D


namespace Go.D
theorem Xr4 (z:Int):IntKind.i64.wrap z=(z+9223372036854775808) % 18446744073709551616 - 9223372036854775808:=by
 have h:IntKind.i64.wrap z=if z % 18446744073709551616 >= 9223372036854775808 then z % 18446744073709551616 - 18446744073709551616 else z % 18446744073709551616:=by
  unfold IntKind.wrap
  simp[IntKind.bits,IntKind.signed]
 rw[h]
 split<;>omega
theorem X00i (a b:Int):IntKind.i64.wrap (IntKind.i64.wrap a+b)=IntKind.i64.wrap (a+b):=by simp only[Xr4];omega
theorem X00h (a b:Int):IntKind.i64.wrap (a+IntKind.i64.wrap b)=IntKind.i64.wrap (a+b):=by simp only[Xr4];omega
def Xbf:X15:=⟨0,0,0,0⟩
def ofA (v:Int):X15:=⟨1,v,v,v⟩
theorem Xle (v:Int):okA (ofA v):=.inr (.inl ⟨rfl,rfl,rfl⟩)
theorem Xjc:okA Xbf:=.inl ⟨rfl,rfl⟩
theorem Xm3 {a b:X15} (h1:a.Count=b.Count) (h2:a.Sum=b.Sum) (h3:a.Min=b.Min) (h4:a.Max=b.Max):a=b:=by cases a;cases b;simp_all
theorem Xjw (a:X15):X3v Xbf a=a:=by unfold X3v;rw[if_pos (show Xbf.Count=0 from rfl)]
theorem Xg8 {a:X15} (h:okA a):X3v a Xbf=a:=by
 unfold X3v
 by_cases h0:a.Count=0
 ·rw[if_pos h0]
  rcases h with ⟨_,h⟩|⟨h,_⟩|⟨h,_⟩
  ·exact h.symm
  ·omega
  ·omega
 ·rw[if_neg h0,if_pos (show Xbf.Count=0 from rfl)]
theorem Xpy {a b:X15} (ha:okA a) (hb:okA b):X3v a b=X3v b a:=by
 by_cases h1:a.Count=0
 ·have:a=Xbf:=by
   rcases ha with ⟨_,h⟩|⟨h,_⟩|⟨h,_⟩
   ·exact h
   ·omega
   ·omega
  rw[this,Xjw,Xg8 hb]
 ·by_cases h2:b.Count=0
  ·have:b=Xbf:=by
    rcases hb with ⟨_,h⟩|⟨h,_⟩|⟨h,_⟩
    ·exact h
    ·omega
    ·omega
   rw[this,Xjw,Xg8 ha]
  ·unfold X3v
   rw[if_neg h1,if_neg h2,if_neg h2,if_neg h1]
   apply Xm3
   ·show a.Count+b.Count=b.Count+a.Count;omega
   ·show IntKind.i64.wrap (a.Sum+b.Sum)=IntKind.i64.wrap (b.Sum+a.Sum);rw[Int.add_comm]
   ·show(if b.Min<a.Min then b.Min else a.Min)=(if a.Min<b.Min then a.Min else b.Min);split<;>split<;>omega
   ·show(if b.Max>a.Max then b.Max else a.Max)=(if a.Max>b.Max then a.Max else b.Max);split<;>split<;>omega
theorem Xd0 {a b c:X15} (ha:0<=a.Count) (hb:0<=b.Count) (hc:0<=c.Count):X3v (X3v a b) c=X3v a (X3v b c):=by
 by_cases h1:a.Count=0
 ·have e:∀ x,X3v a x=x:=fun x=>by unfold X3v;rw[if_pos h1]
  rw[e,e]
 ·by_cases h2:b.Count=0
  ·have e1:X3v a b=a:=by unfold X3v;rw[if_neg h1,if_pos h2]
   have e2:X3v b c=c:=by unfold X3v;rw[if_pos h2]
   rw[e1,e2]
  ·by_cases h3:c.Count=0
   ·have e:∀ x:X15,x.Count≠0->X3v x c=x:=fun x hx=>by unfold X3v;rw[if_neg hx,if_pos h3]
    have hab:(X3v a b).Count≠0:=by unfold X3v;rw[if_neg h1,if_neg h2];show a.Count+b.Count≠0;omega
    rw[e _ hab,e _ h2]
   ·have e:∀ x y:X15,x.Count≠0->y.Count≠0->X3v x y=⟨x.Count+y.Count,IntKind.i64.wrap (x.Sum+y.Sum),if y.Min<x.Min then y.Min else x.Min,if y.Max>x.Max then y.Max else x.Max⟩:=fun x y hx hy=>by unfold X3v;rw[if_neg hx,if_neg hy]
    rw[e a b h1 h2,e b c h2 h3,e _ c (by show a.Count+b.Count≠0;omega) h3,e a _ h1 (by show b.Count+c.Count≠0;omega)]
    apply Xm3
    ·show a.Count+b.Count+c.Count=a.Count+(b.Count+c.Count);omega
    ·show IntKind.i64.wrap (IntKind.i64.wrap (a.Sum+b.Sum)+c.Sum)=IntKind.i64.wrap (a.Sum+IntKind.i64.wrap (b.Sum+c.Sum));rw[X00i,X00h,Int.add_assoc]
    ·dsimp only;repeat' split<;>first|rfl|omega
    ·dsimp only;repeat' split<;>first|rfl|omega
def Xck (l:List Int):X15:=l.foldl (fun a v=>X3v a (ofA v)) Xbf
theorem Xc4 (l:List Int) (v:Int):Xck (l++[v])=X3v (Xck l) (ofA v):=by unfold Xck;rw[List.foldl_append];rfl
theorem Xkk:Xck []=Xbf:=rfl
theorem Xcj (v:Int):Xck [v]=ofA v:=Xjw _
theorem X3k:∀ (l:List Int),(Xck l).Count=l.length:=by
 have key:∀ (l:List Int) (a:X15),0<=a.Count->(l.foldl (fun a v=>X3v a (ofA v)) a).Count=a.Count+l.length:=by
  intro l
  induction l with
  |nil=>intro a _;simp
  |cons v l ih =>
   intro a ha
   have h1:(X3v a (ofA v)).Count=a.Count+1:=by
    unfold X3v
    by_cases h:a.Count=0
    ·rw[if_pos h,h];rfl
    ·rw[if_neg h,if_neg (by show ¬ (1:Int)=0;omega)];rfl
   rw[List.foldl_cons,ih _ (by omega),h1];simp;omega
 intro l
 rw[Xck,key l Xbf (Int.le_refl _)]
 show(0:Int)+_=_;omega
theorem Xhq:∀ {l:List Int},l.length<=1073741824->okA (Xck l):=by
 have key:∀ (n:Nat) (l:List Int),l.length=n->n<=1073741824->okA (Xck l):=by
  intro n
  induction n with
  |zero=>intro l hl _;rw[List.eq_nil_of_length_eq_zero hl];exact Xjc
  |succ n ih =>
   intro l hl hn
   have hne:l≠[]:=fun h=>by rw[h] at hl;cases hl
   have hd:l.dropLast.length=n:=by rw[List.length_dropLast];omega
   rw[<-List.dropLast_concat_getLast hne,Xc4]
   refine Xvh (ih _ hd (by omega)) (Xle _) ?_
   rw[X3k,hd]
   show(n:Int)+1<=_;omega
 intro l h
 exact key l.length l rfl h
theorem X6c:∀ (b a:List Int),Xck (a++b)=X3v (Xck a) (Xck b):=by
 have key:∀ (n:Nat) (b a:List Int),b.length=n->Xck (a++b)=X3v (Xck a) (Xck b):=by
  intro n
  induction n with
  |zero =>
   intro b a hb
   rw[List.eq_nil_of_length_eq_zero hb,List.append_nil,Xkk]
   by_cases h0:(Xck a).Count=0
   ·have:a=[]:=List.eq_nil_of_length_eq_zero (by rw[X3k] at h0;omega)
    rw[this];rfl
   ·unfold X3v;rw[if_neg h0,if_pos (show Xbf.Count=0 from rfl)]
  |succ n ih =>
   intro b a hb
   have hne:b≠[]:=fun h=>by rw[h] at hb;cases hb
   have hd:b.dropLast.length=n:=by rw[List.length_dropLast];omega
   rw[<-List.dropLast_concat_getLast hne,<-List.append_assoc,Xc4,Xc4,ih _ _ hd]
   exact Xd0 (by rw[X3k];omega) (by rw[X3k];omega) (by show(0:Int)<=1;decide)
 intro b a
 exact key b.length b a rfl
theorem Xe4 {a b:List Int} (h:a.Perm b):a.length<=1073741824->Xck a=Xck b:=by
 induction h with
 |nil=>intro _;rfl
 |@cons x l1 l2 h ih =>
  intro hl
  have:=ih (by simp at hl;omega)
  rw[show x::l1=[x]++l1 from rfl,show x::l2=[x]++l2 from rfl,X6c,X6c,this]
 |swap x y l =>
  intro hl
  rw[show y::x::l=[y]++([x]++l) from rfl,show x::y::l=[x]++([y]++l) from rfl,X6c,X6c,X6c,X6c,Xcj,Xcj]
  rw[<-Xd0 (by show(0:Int)<=1;decide) (by show(0:Int)<=1;decide) (by rw[X3k];omega),Xpy (Xle y) (Xle x),Xd0 (by show(0:Int)<=1;decide) (by show(0:Int)<=1;decide) (by rw[X3k];omega)]
 |trans h1 _ ih1 ih2=>intro hl;rw[ih1 hl,ih2 (by rw[<-h1.length_eq];exact hl)]
abbrev Pu:=Xl×Int
def inS (s:X05) (t:Int):Prop:=s.Start<=t/\t<s.End
instance (s:X05) (t:Int):Decidable (inS s t):=by unfold inS;infer_instance
def vals (L:List Pu) (k:Int) (s:X05) (side:Int):List Int:=(L.filter fun p=>decide (p.1.Key=k/\inS s p.1.Time/\p.2=side)).map fun p=>p.1.Value
def X74 (L:List Pu) (k t:Int):Prop:=∃ p∈L,p.1.Key=k/\p.1.Time=t
def Xlm (size every t:Int) (s:X05):Prop:=s.Start % every=0/\s.End=s.Start+size/\inS s t
def cov (size:Int) (T:Int->Prop) (x:Int):Prop:=∃ t,T t/\2*t<x/\x<2*(t+size)
def Xgu (size:Int) (T:Int->Prop) (s:X05):Prop:=s.Start<s.End/\(∀ x,2*s.Start<x->x<2*s.End->cov size T x)/\¬ cov size T (2*s.Start)/\¬ cov size T (2*s.End)
def Xct (w:X0n):Int:=if w.Kind=1 then w.Size else w.Every
def Xd5 (w:X0n) (T:Int->Prop) (s:X05):Prop:=if w.Kind=3 then Xgu w.Size T s else ∃ t,T t/\Xlm w.Size (Xct w) t s
def Xcu (L:List Pu) (k:Int) (s:X05):V2 X15:=⟨Xck (vals L k s 0),Xck (vals L k s 1)⟩
def Xo1 (w:X0n) (L:List Pu) (e:X2):Prop:=Xd5 w (X74 L e.Key) e.Span/\e.Values=Xcu L e.Key e.Span
structure X7r (w:X0n) (L:List Pu) (es:List X2):Prop where
 sorted:es.Pairwise ltE
 mem:∀ e,e∈es↔Xo1 w L e
 cover:w.Kind=3->∀ k t,X74 L k t->∃ e∈es,e.Key=k/\e.Span.Start<=t/\t+w.Size<=e.Span.End
theorem Xpj:∀ {a b:List X2},a.Pairwise ltE->b.Pairwise ltE->(∀ e,e∈a↔e∈b)->a=b:=by
 intro a
 induction a with
 |nil =>
  intro b _ _ h
  cases b with
  |nil=>rfl
  |cons y b=>exact absurd ((h y).2 List.mem_cons_self) (by simp)
 |cons x a ih =>
  intro b ha hb h
  cases b with
  |nil=>exact absurd ((h x).1 List.mem_cons_self) (by simp)
  |cons y b =>
   rw[List.pairwise_cons] at ha hb
   have hxy:x=y:=by
    rcases List.mem_cons.1 ((h x).1 List.mem_cons_self) with h1|h1
    ·exact h1
    ·rcases List.mem_cons.1 ((h y).2 List.mem_cons_self) with h2|h2
     ·exact h2.symm
     ·exact absurd (hb.1 x h1) (Xs8 (ha.1 y h2))
   subst hxy
   rw[ih ha.2 hb.2]
   intro e
   constructor
   ·intro he
    rcases List.mem_cons.1 ((h e).1 (List.mem_cons_of_mem _ he)) with h1|h1
    ·subst h1;exact absurd (ha.1 e he) (Xel e)
    ·exact h1
   ·intro he
    rcases List.mem_cons.1 ((h e).2 (List.mem_cons_of_mem _ he)) with h1|h1
    ·subst h1;exact absurd (hb.1 e he) (Xel e)
    ·exact h1
theorem X7r.unique {w:X0n} {L:List Pu} {a b:List X2} (ha:X7r w L a) (hb:X7r w L b):a=b:=Xpj ha.sorted hb.sorted fun e=>by rw[ha.mem,hb.mem]
theorem Xkw {L L':List Pu} (h:L.Perm L') (k:Int) (s:X05) (side:Int):(vals L k s side).Perm (vals L' k s side):=(h.filter _).map _
theorem Xd6 (L:List Pu) (k:Int) (s:X05) (side:Int):(vals L k s side).length<=L.length:=by unfold vals;rw[List.length_map];exact List.length_filter_le _ _
theorem Xiu {L L':List Pu} (h:L.Perm L') (k t:Int):X74 L k t↔X74 L' k t:=by
 unfold X74
 exact⟨fun⟨p,hp,q⟩=>⟨p,h.mem_iff.1 hp,q⟩,fun⟨p,hp,q⟩=>⟨p,h.mem_iff.2 hp,q⟩⟩
theorem X7r.perm {w:X0n} {L L':List Pu} {es:List X2} (h:L.Perm L') (hl:L.length<=1073741824) (c:X7r w L es):X7r w L' es:=by
 refine⟨c.sorted,fun e=>?_,fun h3 k t ht=>c.cover h3 k t ((Xiu h k t).2 ht)⟩
 rw[c.mem]
 have h1:X74 L e.Key=X74 L' e.Key:=funext fun t=>propext (Xiu h _ t)
 have h2:Xcu L e.Key e.Span=Xcu L' e.Key e.Span:=by
  unfold Xcu
  rw[Xe4 (Xkw h _ _ 0) (Nat.le_trans (Xd6 ..) hl),Xe4 (Xkw h _ _ 1) (Nat.le_trans (Xd6 ..) hl)]
 unfold Xo1
 rw[h1,h2]
end Go.D


namespace Go.D
theorem Xlw (x y:X07):X6w x y=decide (x=y):=by
 obtain⟨a,b,c,d,e⟩:=x
 obtain⟨f,g,h,i,j⟩:=y
 rw[Bool.eq_iff_iff]
 simp[X6w,and_assoc]
theorem Xjn {α:Type} {l:List α} {k:Nat} (h:k<=l.length):X76 l 0 (k:Int)=some (l.take k):=by
 unfold X76;rw[if_pos ⟨by omega,by omega,by simpa using h⟩];simp
theorem Xee {α:Type} {l:List α} {k:Nat} (h:k<=l.length):X76 l (k:Int) (l.length:Int)=some (l.drop k):=by
 unfold X76;rw[if_pos ⟨by omega,by omega,by simp⟩]
 simp only[Int.toNat_natCast]
 rw[List.take_of_length_le (by rw[List.length_drop];exact Nat.le_refl _)]
def okN (x:X07) (a b:Int):Prop:=1<=x.Kind/\x.Kind<=19/\0<=x.N/\(x.N=0\/x.Kind=1)/\0<=x.At/\x.At<=400/\x.A=a/\x.B=b
instance (x:X07) (a b:Int):Decidable (okN x a b):=by unfold okN;infer_instance
theorem Xjo (x:X07) (a b:Int):X69 x a b=some (decide (okN x a b)):=by
 unfold X69 okN
 congr 1
 rw[Bool.eq_iff_iff]
 by_cases h1:1<=x.Kind<;>by_cases h2:x.Kind<=19<;>by_cases h3:0<=x.N<;>by_cases h4:x.N=0<;>by_cases h5:0<=x.At<;>by_cases h6:x.At<=400<;>simp[h1,h2,h3,h4,h5,h6,and_assoc]
def nst (sd:List (Nat×Nat)) (x:X07):Option (Nat×Nat) :=
 if x.Kind<=4 then (if okN x 0 0 then some (1,1) else none)
 else match sd.getLast? with
  |none=>none
  |some (s2,d2) =>
   if x.Kind<=6 then (if okN x ((sd.length:Int) - 1) 0 then some (1+s2,1+d2) else none)
   else if sd.length - 1<s2 then none
   else match sd[sd.length - 1 - s2]? with
    |none=>none
    |some (s1,d1)=>if okN x ((sd.length:Int) - 1 - s2) ((sd.length:Int) - 1) then some (1+s2+s1,max (1+d2) (1+d1)) else none
def Xj0:List X07->List (Nat×Nat)->Option (List (Nat×Nat))
 |[],sd=>some sd
 |x::xs,sd=>match nst sd x with
  |some q=>Xj0 xs (sd++[q])
  |none=>none
def X7s (j:Nat) (q:Nat×Nat):Xg:=⟨(j:Int),(q.1:Int),(q.2:Int)⟩
inductive Xa0 (sd:List (Nat×Nat)):Nat->List Xg->Prop
 |nil:Xa0 sd 0 []
 |snoc {j:Nat} {q:Nat×Nat} {st:List Xg} (hq:sd[j]?=some q) (h1:1<=q.1) (h2:q.1<=j+1) (h3:q.2<=q.1) (h:Xa0 sd (j+1 - q.1) st):Xa0 sd (j+1) (st++[X7s j q])
theorem Xa0.more {sd sd':List (Nat×Nat)} {k:Nat} {st:List Xg} (h:Xa0 sd k st) (hs:∀ j,j<k->sd'[j]?=sd[j]?):Xa0 sd' k st:=by
 induction h with
 |nil=>exact .nil
 |@snoc j q st hq h1 h2 h3 _ ih=>exact .snoc (by rw[hs j (by omega)];exact hq) h1 h2 h3 (ih fun i hi=>hs i (by omega))
theorem Xa0.app {sd e:List (Nat×Nat)} {k:Nat} {st:List Xg} (h:Xa0 sd k st) (hk:k<=sd.length):Xa0 (sd++e) k st:=h.more fun j hj=>List.getElem?_append_left (by omega)
theorem Xa0.len {sd:List (Nat×Nat)} {k:Nat} {st:List Xg} (h:Xa0 sd k st):st.length<=k:=by
 induction h with
 |nil=>simp
 |snoc hq h1 h2 h3 _ ih=>simp;omega
theorem Xhp {k:Nat} (h:1<=k) (hk:k<=1000000):IntKind.i64.wrap ((k:Int) - 1)=((k - 1:Nat):Int):=by rw[X0m (by omega) (by omega)];omega
theorem Xv8 {x:X07} (h0:0<=x.Kind):X92 x.Kind=some (if 1<=x.Kind/\x.Kind<=19 then ((if x.Kind<=4 then 0 else if x.Kind<=6 then 1 else 2),0) else (0,2)):=by
 unfold X92
 by_cases h1:1<=x.Kind
 ·by_cases h4:x.Kind<=4
  ·simp[h1,h4,show x.Kind<=19 by omega]
  ·by_cases h6:x.Kind<=6
   ·have:(bif x.Kind==5 then true else x.Kind==6)=true:=by
     rcases(by omega:x.Kind=5\/x.Kind=6) with h|h<;>simp[h]
    simp[h1,h4,h6,this,show x.Kind<=19 by omega]
   ·have e5:(bif x.Kind==5 then true else x.Kind==6)=false:=by
     have a:(x.Kind==5)=false:=by simp;omega
     have b:(x.Kind==6)=false:=by simp;omega
     rw[a,b];rfl
    by_cases h19:x.Kind<=19
    ·simp[h1,h4,h6,e5,h19,show(7:Int)<=x.Kind by omega]
    ·simp[h1,h4,h6,e5,h19]
 ·have e:x.Kind=0:=by omega
  simp[e]
theorem Xrt {x : X07} {a b : Int} (h1 : 1 <= x.Kind) (h2 : x.Kind <= 19) :
    ((bif (x.Kind==(1:Int)) then (some (X07.mk x.Kind (if 0>x.N then 0 else x.N) a b (if 400<(if 0>x.At then 0 else x.At) then 400 else (if 0>x.At then 0 else x.At)))) else (some (X07.mk x.Kind 0 a b (if 400<(if 0>x.At then 0 else x.At) then 400 else (if 0>x.At then 0 else x.At)))):Option (X07)).bind fun o=>some (X6w o x))=some (decide (okN x a b)):=by
  obtain⟨K,N,A,B,At⟩:=x
  have hat:((if 400<(if 0>At then 0 else At) then 400 else (if 0>At then 0 else At))=At)↔(0<=At/\At<=400):=by
    by_cases g1:0>At
    · rw[if_pos g1];constructor
      · intro h;exfalso;split at h<;>omega
      · intro h;omega
    · rw[if_neg g1];split<;>omega
  have hn:((if 0>N then 0 else N)=N)↔0<=N:=by split<;>omega
  have key:∀ n':Int,(n'=N↔(0<=N/\(N=0\/K=1)))->(some (X6w (X07.mk K n' a b (if 400<(if 0>At then 0 else At) then 400 else (if 0>At then 0 else At))) ⟨K,N,A,B,At⟩):Option Bool)=some (decide (okN ⟨K,N,A,B,At⟩ a b)):=by
    intro n' hn'
    rw[Xlw]
    congr 1
    apply decide_eq_decide.2
    rw[X07.mk.injEq,hat,hn']
    unfold okN
    constructor
    · rintro⟨_,⟨g1,g2⟩,hA,hB,g3,g4⟩
      exact⟨h1,h2,g1,g2,g3,g4,hA.symm,hB.symm⟩
    · rintro⟨_,_,g1,g2,g3,g4,hA,hB⟩
      exact⟨rfl,⟨g1,g2⟩,hA.symm,hB.symm,g3,g4⟩
  by_cases hk:K=1
  · have:(K==1)=true:=by simp[hk]
    show(Option.bind (bif (K==1) then _ else _) _)=_
    rw[this,cond_true,Yo]
    exact key _ (by rw[hn];simp[hk])
  · have:(K==1)=false:=by simp[hk]
    show(Option.bind (bif (K==1) then _ else _) _)=_
    rw[this,cond_false,Yo]
    exact key _ (by constructor
                    · intro h;omega
                    · rintro⟨_,h⟩;rcases h with h|h<;>omega)
theorem Xki {β:Type} {o:Option X07} {x:X07} {d:Bool} {f g:Option β} (h:(o.bind fun z=>some (X6w z x))=some d):(o.bind fun z=>bif (!(X6w z x)) then f else g)=bif d then g else f:=by
 cases o with
 |none=>cases h
 |some z =>
  simp only[Yo,Option.some.injEq] at h
  rw[Yo,h];cases d<;>rfl
def X6d (sd:List (Nat×Nat)):List Xg:=sd.mapIdx X7s
theorem Xmf (sd:List (Nat×Nat)) (q:Nat×Nat):X6d (sd++[q])=X6d sd++[X7s sd.length q]:=by unfold X6d;simp
theorem Xpg (sd:List (Nat×Nat)):(X6d sd).length=sd.length:=by unfold X6d;simp
theorem Xa0.inv {sd:List (Nat×Nat)} {k:Nat} {st:List Xg} (h:Xa0 sd k st) (hk:0<k):∃ q st0,sd[k - 1]?=some q/\1<=q.1/\q.1<=k/\q.2<=q.1/\Xa0 sd (k - q.1) st0/\st=st0++[X7s (k - 1) q]:=by
 cases h with
 |nil=>omega
 |@snoc j q st0 hq h1 h2 h3 h=>exact⟨q,st0,hq,h1,h2,h3,h,rfl⟩
theorem Xa0.zero {sd:List (Nat×Nat)} {st:List Xg} (h:Xa0 sd 0 st):st=[]:=by
 cases h;rfl
theorem Xxt (Y : List X07) : ∀ (xs : List X07) (sd : List (Nat × Nat)) (st : List Xg), (∀ x ∈ xs, 0 <= x.Kind) -> sd.length + xs.length <= 1000 -> Xa0 sd sd.length st -> (∀ j q, sd[j]? = some q -> 1 <= q.1 /\ q.1 <= j + 1 /\ q.2 <= q.1) ->
    match Xj0 xs sd with
    |some sd'=>∃ st',X27 Y xs sd.length (X6d sd) st=some (.x0 (X6d sd') st')/\Xa0 sd' sd'.length st'
    |none=>∃ all,X27 Y xs sd.length (X6d sd) st=some (.x1 all):=by
  intro xs
  induction xs with
  |nil=>intro sd st _ _ hc _;exact⟨st,rfl,hc⟩
  |cons x xs ih =>
    intro sd st h0 hn hc hb
    simp only[List.length_cons] at hn
    have hx:=h0 x List.mem_cons_self
    rw[X27,Xv8 hx]
    have go : ∀ (q : Nat × Nat) (st0 : List Xg), nst sd x = some q -> Xa0 (sd ++ [q]) (sd.length + 1) (st0 ++ [X7s sd.length q]) -> 1 <= q.1 -> q.1 <= sd.length + 1 -> q.2 <= q.1 ->
        (match Xj0 (x::xs) sd with
          |some sd'=>∃ st',X27 Y xs (sd.length+1) (X6d sd++[X7s sd.length q]) (st0++[X7s sd.length q])=some (.x0 (X6d sd') st')/\Xa0 sd' sd'.length st'
          |none=>∃ all,X27 Y xs (sd.length+1) (X6d sd++[X7s sd.length q]) (st0++[X7s sd.length q])=some (.x1 all)):=by
      intro q st0 hq hc2 g1 g2 g3
      have:=ih (sd++[q]) (st0++[X7s sd.length q]) (fun y hy=>h0 y (List.mem_cons_of_mem _ hy)) (by simp;omega) (by simpa using hc2) (fun j q' hj=>by
        rw[List.getElem?_append] at hj
        split at hj
        · exact hb j q' hj
        · rename_i hlt
          have:j=sd.length:=by
            have:=(Ys.1 hj).1;simp at this;omega
          subst this
          simp at hj;subst hj;exact⟨g1,g2,g3⟩)
      rw[Xmf,List.length_append] at this
      unfold Xj0
      rw[hq]
      exact this
    have stop:nst sd x=none->∀ {o:Option X57},(∃ all,o=some (.x1 all))->(match Xj0 (x::xs) sd with
          |some sd'=>∃ st',o=some (.x0 (X6d sd') st')/\Xa0 sd' sd'.length st'
          |none=>∃ all,o=some (.x1 all)):=by
      intro hq o h
      unfold Xj0
      rw[hq];exact h
    have cap:∀ (l:List Xg) (t:Xg),l.length<=2000->X1w (List.length (l++[t])) 24=some ():=fun l t hl=>X2n (by simp;omega)
    have hla:(X6d sd).length<=2000:=by unfold X6d;simp;omega
    have hst:=hc.len
    by_cases hr:1<=x.Kind/\x.Kind<=19
    · rw[if_pos hr]
      simp only[Yo,bne_self_eq_false,cond_false]
      by_cases h4:x.Kind<=4
      · -- no parts
        have e1:decide ((if x.Kind<=4 then (0:Int) else if x.Kind<=6 then 1 else 2)>(st.length:Int))=false:=by rw[if_pos h4];simp
        rw[e1,cond_false,if_pos h4]
        have e2:IntKind.i64.wrap ((st.length:Int) - 0)=(st.length:Int):=by rw[X0m (by omega) (by omega)];omega
        rw[e2,Xjn (Nat.le_refl _),Xee (Nat.le_refl _),List.take_length,List.drop_length]
        simp only[Yo,List.isEmpty_nil,cond_true]
        rw[Xki (Xrt hr.1 hr.2)]
        by_cases hok:okN x 0 0
        · rw[Yt hok,cond_true,cap st _ (by omega),cap _ _ hla]
          exact go (1,1) st (by unfold nst;rw[if_pos h4,if_pos hok]) (.snoc (by simp) (Nat.le_refl _) (by omega) (Nat.le_refl _) (by simpa using hc.app (Nat.le_refl _))) (Nat.le_refl _) (by omega) (Nat.le_refl _)
        · rw[Yf hok,cond_false]
          exact stop (by unfold nst;rw[if_pos h4,if_neg hok]) ⟨_,rfl⟩
      · have hgl:0<sd.length->∃ q,sd.getLast?=some q/\sd[sd.length - 1]?=some q:=by
          intro h
          refine⟨sd[sd.length - 1]'(by omega),?_,?_⟩
          · rw[List.getLast?_eq_getElem?];exact Ye _
          · exact Ye _
        by_cases h6:x.Kind<=6
        · -- one part
          rw[if_neg h4,if_pos h6]
          by_cases hl:sd.length=0
          · rw[hl] at hc
            have:=hc.zero;subst this
            simp only[List.length_nil]
            exact stop (by unfold nst;rw[if_neg h4,List.eq_nil_of_length_eq_zero hl];rfl) ⟨_,rfl⟩
          · obtain⟨q,st0,hq,g1,g2,g3,hc0,rfl⟩:=hc.inv (by omega)
            obtain⟨q',hq1,hq2⟩:=hgl (by omega)
            rw[hq] at hq2;cases hq2
            have hs0:=hc0.len
            have e1:decide ((1:Int)>((st0++[X7s (sd.length - 1) q]).length:Int))=false:=by simp;omega
            rw[e1,cond_false]
            have e2:IntKind.i64.wrap (((st0++[X7s (sd.length - 1) q]).length:Int) - 1)=(st0.length:Int):=by
              rw[X0m (by rw[List.length_append,List.length_singleton];omega) (by rw[List.length_append,List.length_singleton];omega),List.length_append,List.length_singleton];omega
            rw[e2,Xjn (by simp),Xee (by simp),List.take_left,List.drop_left]
            simp only[Yo,List.isEmpty_cons,cond_false,List.length_singleton]
            rw[show(((1:Nat):Int)==1)=true from rfl,cond_true]
            rw[show X3c [X7s (sd.length - 1) q] 0=some (X7s (sd.length - 1) q) from rfl,Yo]
            rw[Xki (Xrt hr.1 hr.2)]
            have ea:(X7s (sd.length - 1) q).at_=(sd.length:Int) - 1:=by unfold X7s;simp only;omega
            rw[ea]
            by_cases hok:okN x ((sd.length:Int) - 1) 0
            · have e3:(Xg.mk (sd.length:Int) (IntKind.i64.wrap (1+(X7s (sd.length - 1) q).size)) (if (IntKind.i64.wrap ((X7s (sd.length - 1) q).depth+1))>1 then (IntKind.i64.wrap ((X7s (sd.length - 1) q).depth+1)) else 1))=X7s sd.length (1+q.1,1+q.2):=by
                unfold X7s
                simp only
                rw[X0m (by omega) (by omega),X0m (by omega) (by omega)]
                congr 1
                split<;>omega
              rw[Yt hok,cond_true,e3,cap st0 _ (by omega),cap _ _ hla]
              refine go (1+q.1,1+q.2) st0 (by unfold nst;rw[if_neg h4,hq1];simp only;rw[if_pos h6,if_pos hok]) (.snoc (by simp) (by simp only;omega) (by simp only;omega) (by simp only;omega) ?_) (by simp only;omega) (by simp only;omega) (by simp only;omega)
              have:=hc0.app (e:=[(1+q.1,1+q.2)]) (by omega)
              simp only
              rw[show sd.length+1 - (1+q.1)=sd.length - q.1 by omega];exact this
            · rw[Yf hok,cond_false]
              exact stop (by unfold nst;rw[if_neg h4,hq1];simp only;rw[if_pos h6,if_neg hok]) ⟨_,rfl⟩
        · -- two parts
          rw[if_neg h4,if_neg h6]
          by_cases hl:sd.length=0
          · rw[hl] at hc
            have:=hc.zero;subst this
            simp only[List.length_nil]
            exact stop (by unfold nst;rw[if_neg h4,List.eq_nil_of_length_eq_zero hl];rfl) ⟨_,rfl⟩
          · obtain⟨q,st1,hq,g1,g2,g3,hc1,rfl⟩:=hc.inv (by omega)
            obtain⟨q',hq1,hq2⟩:=hgl (by omega)
            rw[hq] at hq2;cases hq2
            by_cases hl1:sd.length - q.1=0
            · rw[hl1] at hc1
              have:=hc1.zero;subst this
              exact stop (by unfold nst;rw[if_neg h4,hq1];simp only;rw[if_neg h6,if_pos (by omega)]) ⟨_,rfl⟩
            · obtain⟨p,st0,hp,f1,f2,f3,hc0,rfl⟩:=hc1.inv (by omega)
              have hs0:=hc0.len
              rw[List.append_assoc]
              have e1:decide ((2:Int)>((st0++([X7s (sd.length - q.1 - 1) p]++[X7s (sd.length - 1) q])).length:Int))=false:=by simp;omega
              rw[e1,cond_false]
              have e2:IntKind.i64.wrap (((st0++([X7s (sd.length - q.1 - 1) p]++[X7s (sd.length - 1) q])).length:Int) - 2)=(st0.length:Int):=by
                rw[X0m (by simp only[List.length_append,List.length_singleton];omega) (by simp only[List.length_append,List.length_singleton];omega)];simp only[List.length_append,List.length_singleton];omega
              rw[e2,Xjn (by simp),Xee (by simp),List.take_left,List.drop_left]
              simp only[Yo,List.singleton_append,List.isEmpty_cons,cond_false,List.length_cons,List.length_nil]
              rw[show((((0:Nat)+1+1:Nat):Int)==1)=false from rfl,show((((0:Nat)+1+1:Nat):Int)==2)=true from rfl,cond_false,cond_true]
              rw[show X3c [X7s (sd.length - q.1 - 1) p,X7s (sd.length - 1) q] 0=some (X7s (sd.length - q.1 - 1) p) from rfl,show X3c [X7s (sd.length - q.1 - 1) p,X7s (sd.length - 1) q] 1=some (X7s (sd.length - 1) q) from rfl,Yo,Yo]
              rw[Xki (Xrt hr.1 hr.2)]
              have ea:(X7s (sd.length - 1) q).at_=(sd.length:Int) - 1:=by unfold X7s;simp only;omega
              have eb:(X7s (sd.length - q.1 - 1) p).at_=(sd.length:Int) - 1 - q.1:=by unfold X7s;simp only;omega
              rw[ea,eb]
              have hp':sd[sd.length - 1 - q.1]?=some p:=by rw[show sd.length - 1 - q.1=sd.length - q.1 - 1 by omega];exact hp
              by_cases hok:okN x ((sd.length:Int) - 1 - q.1) ((sd.length:Int) - 1)
              · have e3:(Xg.mk (sd.length:Int) (IntKind.i64.wrap ((IntKind.i64.wrap (1+(X7s (sd.length - q.1 - 1) p).size))+(X7s (sd.length - 1) q).size)) (if (IntKind.i64.wrap ((X7s (sd.length - 1) q).depth+1))>(if (IntKind.i64.wrap ((X7s (sd.length - q.1 - 1) p).depth+1))>1 then (IntKind.i64.wrap ((X7s (sd.length - q.1 - 1) p).depth+1)) else 1) then (IntKind.i64.wrap ((X7s (sd.length - 1) q).depth+1)) else (if (IntKind.i64.wrap ((X7s (sd.length - q.1 - 1) p).depth+1))>1 then (IntKind.i64.wrap ((X7s (sd.length - q.1 - 1) p).depth+1)) else 1)))=X7s sd.length (1+q.1+p.1,max (1+q.2) (1+p.2)):=by
                  unfold X7s
                  simp only
                  rw[X0m (z:=1+(p.1:Int)) (by omega) (by omega),X0m (by omega) (by omega),X0m (by omega) (by omega),X0m (by omega) (by omega)]
                  congr 1
                  · push_cast;omega
                  · split<;>split<;>omega
                rw[Yt hok,cond_true,e3,cap st0 _ (by omega),cap _ _ hla]
                refine go (1+q.1+p.1,max (1+q.2) (1+p.2)) st0 (by unfold nst;rw[if_neg h4,hq1];simp only;rw[if_neg h6,if_neg (by omega),hp'];simp only;rw[if_pos hok]) (.snoc (by simp) (by simp only;omega) (by simp only;omega) (by simp only;omega) ?_) (by simp only;omega) (by simp only;omega) (by simp only;omega)
                have:=hc0.app (e:=[(1+q.1+p.1,max (1+q.2) (1+p.2))]) (by omega)
                simp only
                rw[show sd.length+1 - (1+q.1+p.1)=sd.length - q.1 - p.1 by omega];exact this
              · rw[Yf hok,cond_false]
                exact stop (by unfold nst;rw[if_neg h4,hq1];simp only;rw[if_neg h6,if_neg (by omega),hp'];simp only;rw[if_neg hok]) ⟨_,rfl⟩
    · rw[if_neg hr]
      have hno:nst sd x=none:=by
        have no:∀ a b,¬ okN x a b:=fun a b h=>hr ⟨h.1,h.2.1⟩
        unfold nst
        simp only[no,if_false]
        split
        · rfl
        · split
          · rfl
          · split
            · rfl
            · split
              · rfl
              · split<;>rfl
      exact stop hno ⟨_,rfl⟩
def Xbd (l:List X07):Int :=
 if l.length>60 then 4 else match Xj0 l [] with
  |none=>8
  |some sd=>match sd.getLast? with
   |none=>8
   |some q=>if q.1=l.length then (if q.2>20 then 34 else 0) else 8
theorem Xg5:∀ (xs:List X07) (sd sd':List (Nat×Nat)),Xj0 xs sd=some sd'->sd'.length=sd.length+xs.length
 |[],sd,sd',h=>by cases h;simp
 |x::xs,sd,sd',h=>by
  unfold Xj0 at h
  split at h
  ·have:=Xg5 xs _ _ h;simp at this;simp;omega
  ·cases h
theorem Xph {sd:List (Nat×Nat)} {i:Nat} {q:Nat×Nat} (h:sd[i]?=some q):X3c (X6d sd) (i:Int)=some (X7s i q):=by
 rw[X4f];unfold X6d;rw[List.getElem?_mapIdx,h];rfl
theorem Xic {l:List X07} (h0:∀ x∈l,0<=x.Kind):∃ t,X91 l=some (t,Xbd l)/\(Xbd l=0->∃ sd,Xj0 l []=some sd/\t=X6d sd):=by
 unfold X91 Xbd
 by_cases h60:l.length>60
 ·rw[Yt (show(l.length:Int)>60 by omega),cond_true,if_pos h60];exact⟨_,rfl,by omega⟩
 ·rw[Yf (show ¬ (l.length:Int)>60 by omega),cond_false,if_neg h60]
  have hL:=Xxt l l [] [] h0 (by simp;omega) .nil (by simp)
  unfold Xc8
  rw[X36 (by omega)]
  cases hr:Xj0 l [] with
  |none =>
   rw[hr] at hL
   obtain⟨all,hL⟩:=hL
   simp only[List.length_nil] at hL
   rw[show X6d []=[] from rfl] at hL
   rw[hL]
   exact⟨_,rfl,by simp⟩
  |some sd =>
   rw[hr] at hL
   obtain⟨st,hL,hc⟩:=hL
   simp only[List.length_nil] at hL
   rw[show X6d []=[] from rfl] at hL
   rw[hL]
   have hn:=Xg5 l [] sd hr
   simp only[List.length_nil,Nat.zero_add] at hn
   simp only[Yo]
   by_cases hz:sd.length=0
   ·have:sd=[]:=List.eq_nil_of_length_eq_zero hz
    subst this
    have:=hc.zero;subst this
    exact⟨_,rfl,by simp⟩
   ·obtain⟨q,st0,hq,g1,g2,g3,hc0,rfl⟩:=hc.inv (by omega)
    have hg:sd.getLast?=some q:=by rw[List.getLast?_eq_getElem?];exact hq
    rw[hg]
    simp only
    have hst:(((st0++[X7s (sd.length - 1) q]).length:Int)==1)=decide (q.1=l.length):=by
     rw[Bool.eq_iff_iff]
     simp only[List.length_append,List.length_singleton,beq_iff_eq,decide_eq_true_eq]
     constructor
     ·intro h
      have h1:st0.length=0:=by omega
      by_cases hk:sd.length - q.1=0
      ·omega
      ·obtain⟨_,s1,_,_,_,_,_,rfl⟩:=hc0.inv (by omega)
       simp at h1
     ·intro h
      rw[show sd.length - q.1=0 by omega] at hc0
      rw[hc0.zero];rfl
    rw[hst]
    by_cases he:q.1=l.length
    ·rw[Yt he,if_pos he]
     simp only[Bool.not_true,cond_false]
     rw[show IntKind.i64.wrap (((X6d sd).length:Int) - 1)=((sd.length - 1:Nat):Int) by rw[Xpg,Xhp (by omega) (by omega)]]
     rw[Xph hq,Yo]
     by_cases hd:q.2>20
     ·rw[if_pos hd,show decide ((X7s (sd.length - 1) q).depth>20)=true from Yt (by unfold X7s;simp only;omega)]
      exact⟨_,rfl,by simp⟩
     ·rw[if_neg hd,show decide ((X7s (sd.length - 1) q).depth>20)=false from Yf (by unfold X7s;simp only;omega)]
      exact⟨_,rfl,fun _=>⟨sd,rfl,rfl⟩⟩
    ·rw[Yf he,if_neg he]
     exact⟨_,rfl,by simp⟩
theorem X9w {l:List X07} (h0:∀ x∈l,0<=x.Kind):X58 l=some (Xbd l):=by
 obtain⟨t,h,_⟩:=Xic h0
 unfold X58;rw[h];rfl
def szs (sd:List (Nat×Nat)):List Int:=sd.map fun q=>(q.1:Int)
def dps (sd:List (Nat×Nat)):List Int:=sd.map fun q=>(q.2:Int)
theorem Xmh {sd:List (Nat×Nat)} {i:Nat} {q:Nat×Nat} (h:sd[i]?=some q):X3c (szs sd) (i:Int)=some (q.1:Int):=by
 rw[X4f];unfold szs;rw[List.getElem?_map,h];rfl
theorem Xo3 {sd:List (Nat×Nat)} {i:Nat} {q:Nat×Nat} (h:sd[i]?=some q):X3c (dps sd) (i:Int)=some (q.2:Int):=by
 rw[X4f];unfold dps;rw[List.getElem?_map,h];rfl
theorem Xuu (Y : List X07) : ∀ (xs : List X07) (sd : List (Nat × Nat)), sd.length + xs.length <= 1000 -> (∀ j q, sd[j]? = some q -> 1 <= q.1 /\ q.1 <= j + 1 /\ q.2 <= q.1) ->
    match Xj0 xs sd with
    |some sd'=>X1q Y xs sd.length (szs sd) (dps sd)=some (.x0 (szs sd') (dps sd'))
    |none=>X1q Y xs sd.length (szs sd) (dps sd)=some (.x1 [] []):=by
  intro xs
  induction xs with
  |nil=>intro sd _ _;rfl
  |cons x xs ih =>
    intro sd hn hb
    simp only[List.length_cons] at hn
    rw[X1q]
    have go : ∀ (q : Nat × Nat), nst sd x = some q -> 1 <= q.1 -> q.1 <= sd.length + 1 -> q.2 <= q.1 ->
        (match Xj0 (x::xs) sd with
          |some sd'=>X1q Y xs (sd.length+1) (szs sd++[(q.1:Int)]) (dps sd++[(q.2:Int)])=some (.x0 (szs sd') (dps sd'))
          |none=>X1q Y xs (sd.length+1) (szs sd++[(q.1:Int)]) (dps sd++[(q.2:Int)])=some (.x1 [] [])):=by
      intro q hq g1 g2 g3
      have:=ih (sd++[q]) (by simp;omega) (fun j q' hj=>by
        rw[List.getElem?_append] at hj
        split at hj
        · exact hb j q' hj
        · rename_i hlt
          have:j=sd.length:=by
            have:=(Ys.1 hj).1;simp at this;omega
          subst this
          simp at hj;subst hj;exact⟨g1,g2,g3⟩)
      rw[List.length_append] at this
      unfold Xj0
      rw[hq]
      unfold szs dps at this ⊢
      rw[List.map_append,List.map_append] at this
      exact this
    have stop:nst sd x=none->∀ {o:Option X4o},o=some (.x1 [] [])->(match Xj0 (x::xs) sd with
          |some sd'=>o=some (.x0 (szs sd') (dps sd'))
          |none=>o=some (.x1 [] [])):=by
      intro hq o h
      unfold Xj0
      rw[hq];exact h
    have cap:∀ (l:List Int) (t:Int),l.length<=2000->X1w (List.length (l++[t])) 8=some ():=fun l t hl=>X2n (by simp;omega)
    have hls:(szs sd).length<=2000:=by unfold szs;simp;omega
    have hld:(dps sd).length<=2000:=by unfold dps;simp;omega
    unfold Xat
    by_cases h4:x.Kind<=4
    · rw[Yt h4,cond_true]
      simp only[Yo]
      rw[show decide ((0:Int)>0)=false from rfl,cond_false,Xjo,Yo]
      by_cases hok:okN x 0 0
      · rw[Yt hok,Bool.not_true,cond_false,cap _ _ hls,cap _ _ hld]
        exact go (1,1) (by unfold nst;rw[if_pos h4,if_pos hok]) (Nat.le_refl _) (by omega) (Nat.le_refl _)
      · rw[Yf hok,Bool.not_false,cond_true]
        exact stop (by unfold nst;rw[if_pos h4,if_neg hok]) rfl
    · rw[Yf h4,cond_false]
      have hgl:0<sd.length->∃ q,sd.getLast?=some q/\sd[sd.length - 1]?=some q:=by
        intro h
        refine⟨sd[sd.length - 1]'(by omega),?_,?_⟩
        · rw[List.getLast?_eq_getElem?];exact Ye _
        · exact Ye _
      by_cases hl:sd.length=0
      · have hnil:=List.eq_nil_of_length_eq_zero hl
        refine stop (by unfold nst;rw[if_neg h4,hnil];rfl) ?_
        rw[hl]
        by_cases h6:x.Kind<=6
        · rw[Yt h6];rfl
        · rw[Yf h6];rfl
      · obtain⟨q,hq1,hq⟩:=hgl (by omega)
        obtain⟨g1,g2,g3⟩:=hb _ _ hq
        have hw:IntKind.i64.wrap ((sd.length:Int) - 1)=((sd.length - 1:Nat):Int):=Xhp (by omega) (by omega)
        rw[hw]
        rw[show decide (((sd.length - 1:Nat):Int)<0)=false from Yf (by omega),Xmh hq,Xo3 hq]
        simp only[cond_false]
        by_cases h6:x.Kind<=6
        · rw[Yt h6,cond_true]
          simp only[Yo]
          rw[show decide ((1:Int)>0)=true from rfl,cond_true,show((1:Int)==2)=false from rfl,cond_false,Xjo,Yo]
          rw[show((sd.length - 1:Nat):Int)=(sd.length:Int) - 1 by omega]
          by_cases hok:okN x ((sd.length:Int) - 1) 0
          · rw[Yt hok,Bool.not_true,cond_false,cap _ _ hls,cap _ _ hld]
            rw[X0m (by omega) (by omega),X0m (by omega) (by omega)]
            have:=go (1+q.1,1+q.2) (by unfold nst;rw[if_neg h4,hq1];simp only;rw[if_pos h6,if_pos hok]) (by simp only;omega) (by simp only;omega) (by simp only;omega)
            simp only at this
            push_cast at this
            exact this
          · rw[Yf hok,Bool.not_false,cond_true]
            exact stop (by unfold nst;rw[if_neg h4,hq1];simp only;rw[if_pos h6,if_neg hok]) rfl
        · rw[Yf h6,cond_false]
          simp only[Yo]
          rw[show decide ((2:Int)>0)=true from rfl,cond_true,show((2:Int)==2)=true from rfl,cond_true]
          have hw2:IntKind.i64.wrap (((sd.length - 1:Nat):Int) - q.1)=(sd.length:Int) - 1 - q.1:=by rw[X0m (by omega) (by omega)];omega
          rw[hw2]
          by_cases hlt:sd.length - 1<q.1
          · rw[show decide ((sd.length:Int) - 1 - q.1<0)=true from Yt (by omega),cond_true]
            exact stop (by unfold nst;rw[if_neg h4,hq1];simp only;rw[if_neg h6,if_pos hlt]) rfl
          · rw[show decide ((sd.length:Int) - 1 - q.1<0)=false from Yf (by omega),cond_false]
            have hpe:sd[sd.length - 1 - q.1]?=some (sd[sd.length - 1 - q.1]'(by omega)):=Ye _
            generalize sd[sd.length - 1 - q.1]'(by omega)=p at hpe
            obtain⟨f1,f2,f3⟩:=hb _ _ hpe
            rw[show(sd.length:Int) - 1 - q.1=((sd.length - 1 - q.1:Nat):Int) by omega,Xmh hpe,Xo3 hpe]
            simp only[Yo]
            rw[Xjo,Yo]
            rw[show((sd.length - 1 - q.1:Nat):Int)=(sd.length:Int) - 1 - q.1 by omega,show((sd.length - 1:Nat):Int)=(sd.length:Int) - 1 by omega]
            by_cases hok:okN x ((sd.length:Int) - 1 - q.1) ((sd.length:Int) - 1)
            · rw[Yt hok,Bool.not_true,cond_false,cap _ _ hls,cap _ _ hld]
              rw[X0m (z:=1+(q.1:Int)) (by omega) (by omega),X0m (z:=1+(q.1:Int)+p.1) (by omega) (by omega),X0m (by omega) (by omega),X0m (by omega) (by omega)]
              have:=go (1+q.1+p.1,max (1+q.2) (1+p.2)) (by unfold nst;rw[if_neg h4,hq1];simp only;rw[if_neg h6,if_neg hlt,hpe];simp only;rw[if_pos hok]) (by simp only;omega) (by simp only;omega) (by simp only;omega)
              simp only at this
              rw[show((1+q.1+p.1:Nat):Int)=1+(q.1:Int)+p.1 by omega,show((max (1+q.2) (1+p.2):Nat):Int)=(if 1+(p.2:Int)>1+q.2 then 1+(p.2:Int) else 1+q.2) by split<;>omega] at this
              exact this
            · rw[Yf hok,Bool.not_false,cond_true]
              exact stop (by unfold nst;rw[if_neg h4,hq1];simp only;rw[if_neg h6,if_neg hlt,hpe];simp only;rw[if_neg hok]) rfl
theorem X9v {l:List X07}:X4i l=some (Xbd l):=by
 unfold X4i Xbd
 by_cases h60:l.length>60
 ·rw[Yt (show(l.length:Int)>60 by omega),cond_true,if_pos h60]
 ·rw[Yf (show ¬ (l.length:Int)>60 by omega),cond_false,if_neg h60]
  have hL:=Xuu l l [] (by simp;omega) (by simp)
  unfold Xas
  rw[X36 (by omega)]
  cases hr:Xj0 l [] with
  |none =>
   rw[hr] at hL
   simp only[List.length_nil] at hL
   rw[show szs []=[] from rfl,show dps []=[] from rfl] at hL
   rw[Yo,hL];rfl
  |some sd =>
   rw[hr] at hL
   simp only[List.length_nil] at hL
   rw[show szs []=[] from rfl,show dps []=[] from rfl] at hL
   rw[Yo,hL]
   have hn:=Xg5 l [] sd hr
   simp only[List.length_nil,Nat.zero_add] at hn
   simp only[Yo]
   by_cases hz:l.length=0
   ·rw[List.eq_nil_of_length_eq_zero (hn.trans hz),List.eq_nil_of_length_eq_zero hz];rfl
   ·have hq:sd[sd.length - 1]?=some (sd[sd.length - 1]'(by omega)):=Ye _
    generalize sd[sd.length - 1]'(by omega)=q at hq
    have hg:sd.getLast?=some q:=by rw[List.getLast?_eq_getElem?];exact hq
    rw[hg]
    have hw:IntKind.i64.wrap ((l.length:Int) - 1)=((sd.length - 1:Nat):Int):=by rw[<-hn];exact Xhp (by omega) (by omega)
    rw[show decide ((l.length:Int)>0)=true from Yt (by omega),cond_true,hw,Xmh hq]
    simp only[Yo,cond_true]
    rw[Xo3 hq]
    by_cases he:q.1=l.length
    ·rw[if_pos he,show((q.1:Int)==(l.length:Int))=true by rw[he];simp,Bool.not_true,cond_false]
     by_cases hd:q.2>20
     ·rw[if_pos hd,Yo,Yt (show(q.2:Int)>20 by omega)];rfl
     ·rw[if_neg hd,Yo,Yf (show ¬ (q.2:Int)>20 by omega)];rfl
    ·rw[if_neg he,show((q.1:Int)==(l.length:Int))=false by simp;omega,Bool.not_false,cond_true]
end Go.D


namespace Go.D
theorem X00s {sd:List (Nat×Nat)} {x:X07} {q:Nat×Nat} (h:nst sd x=some q):∃ a b,okN x a b/\(x.Kind<=4->a=0/\b=0)/\(5<=x.Kind->0<sd.length/\(x.Kind<=6->a=(sd.length:Int) - 1/\b=0)/\(7<=x.Kind->0<=a/\a<=(sd.length:Int) - 1/\b=(sd.length:Int) - 1)):=by
 unfold nst at h
 split at h
 ·rename_i h4
  split at h
  ·rename_i ho;exact⟨0,0,ho,fun _=>⟨rfl,rfl⟩,fun h5=>by omega⟩
  ·cases h
 ·rename_i h4
  split at h
  ·cases h
  ·rename_i s2 d2 hg
   have hl:0<sd.length:=by
    cases sd with
    |nil=>cases hg
    |cons=>simp
   split at h
   ·rename_i h6
    split at h
    ·rename_i ho;exact⟨_,_,ho,fun h4'=>absurd h4' h4,fun _=>⟨hl,fun _=>⟨rfl,rfl⟩,fun h7=>by omega⟩⟩
    ·cases h
   ·rename_i h6
    split at h
    ·cases h
    ·rename_i hlt
     split at h
     ·cases h
     ·split at h
      ·rename_i ho;exact⟨_,_,ho,fun h4'=>absurd h4' h4,fun _=>⟨hl,fun h6'=>absurd h6' h6,fun _=>⟨by omega,by omega,rfl⟩⟩⟩
      ·cases h
structure Xm5 (x:X07) (k:Nat):Prop where
 lo:1<=x.Kind
 hi:x.Kind<=19
 leaf:x.Kind<=4->x.A=0/\x.B=0
 a0:0<=x.A
 b0:0<=x.B
 ak:5<=x.Kind->x.A<k
 b1:5<=x.Kind->x.Kind<=6->x.B=0
 bk:5<=x.Kind->x.B<k
 n0:0<=x.N
 nk:x.N=0\/x.Kind=1
 at0:0<=x.At
 at1:x.At<=400
theorem Xrx:∀ (xs:List X07) (sd sd':List (Nat×Nat)),Xj0 xs sd=some sd'->∀ j x,xs[j]?=some x->Xm5 x (sd.length+j)
 |[],sd,sd',h,j,x,hj=>by simp at hj
 |y::ys,sd,sd',h,j,x,hj=>by
  unfold Xj0 at h
  split at h
  ·rename_i q hq
   cases j with
   |zero =>
    simp at hj;subst hj
    obtain⟨a,b,ho,h4,h5⟩:=X00s hq
    obtain⟨o1,o2,o3,o4,o5,o6,rfl,rfl⟩:=ho
    refine⟨o1,o2,h4,?_,?_,?_,?_,?_,o3,o4,o5,o6⟩
    all_goals
     by_cases h4':y.Kind<=4
     ·have:=h4 h4';omega
     ·have h5':=h5 (by omega)
      by_cases h6:y.Kind<=6
      ·have:=h5'.2.1 h6;omega
      ·have:=h5'.2.2 (by omega);omega
   |succ j =>
    have:=Xrx ys _ _ h j x (by simpa using hj)
    rw[List.length_append,List.length_singleton] at this
    rw[show sd.length+(j+1)=sd.length+1+j by omega];exact this
  ·cases h
def giv (K:Int):Bool:=(K==6)||decide (12<=K)
theorem Xk9 (K:Int):X68 K=some (giv K):=by
 unfold X68 giv
 congr 1
def X3a (l:List X07) (i:Int):Int:=match X3c l i with|some e=>e.Kind|none=>0
def Xkn (l:List X07) (x:X07):Bool :=
 if x.Kind<=4 then true
 else if x.Kind=5 then !(giv (X3a l x.A))
 else if x.Kind=6 then giv (X3a l x.A)
 else if x.Kind<=15 then !(giv (X3a l x.A))&&!(giv (X3a l x.B))
 else if x.Kind<=17 then (giv (X3a l x.A))==(giv (X3a l x.B))
 else giv (X3a l x.A)&&giv (X3a l x.B)
def wrN (l:List X07):List X07->Nat->Option Nat
 |[],_=>none
 |x::xs,k=>if Xkn l x then wrN l xs (k+1) else some k
theorem Xlq {α:Type} {l:List α} {i:Int} (h0:0<=i) (h1:i<l.length):∃ e,X3c l i=some e/\l[i.toNat]?=some e:=by
 obtain⟨n,rfl⟩:∃ n:Nat,i=n:=⟨i.toNat,by omega⟩
 exact⟨l[n]'(by omega),by rw[X4f];exact Ye _,by simp⟩
theorem Xay {l:List X07} {i:Int} (h0:0<=i) (h1:i<l.length):∃ e,X3c l i=some e/\X3a l i=e.Kind:=by
 obtain⟨e,h,_⟩:=Xlq h0 h1
 exact⟨e,h,by unfold X3a;rw[h]⟩
theorem Xz9 {l:List X07} {x:X07} {k:Nat} (hk:l[k]?=some x) (ho:Xm5 x k):Xa9 l (k:Int)=some (Xkn l x):=by
 have hlt:=(Ys.1 hk).1
 have hA:x.A<l.length:=by
  by_cases h:x.Kind<=4
  ·have:=(ho.leaf h).1;omega
  ·have:=ho.ak (by omega);omega
 have hB:x.B<l.length:=by
  by_cases h:x.Kind<=4
  ·have:=(ho.leaf h).2;omega
  ·have:=ho.bk (by omega);omega
 obtain⟨a,ha,hka⟩:=Xay ho.a0 hA
 obtain⟨b,hb,hkb⟩:=Xay ho.b0 hB
 unfold Xa9 Xkn
 rw[X4f,hk,Yo,ha,Yo,hb,Xk9,Yo,Yo,Xk9,Yo,hka,hkb]
 have h1:=ho.lo
 have h2:=ho.hi
 by_cases h4:x.Kind<=4
 ·rw[if_pos h4,Yt h4];rfl
 ·rw[if_neg h4,Yf h4,cond_false]
  by_cases h5:x.Kind=5
  ·rw[if_pos h5,show(x.Kind==5)=true by simp[h5]];rfl
  ·rw[if_neg h5,show(x.Kind==5)=false by simp[h5],cond_false]
   by_cases h6:x.Kind=6
   ·rw[if_pos h6,show(x.Kind==6)=true by simp[h6]];rfl
   ·rw[if_neg h6,show(x.Kind==6)=false by simp[h6],cond_false]
    by_cases h15:x.Kind<=15
    ·rw[if_pos h15,show(bif (x.Kind==16) then true else (x.Kind==17))=false by rw[show(x.Kind==16)=false by simp;omega,show(x.Kind==17)=false by simp;omega];rfl,Yf (show ¬ x.Kind >= 18 by omega)]
     cases giv a.Kind<;>cases giv b.Kind<;>rfl
    ·rw[if_neg h15]
     by_cases h17:x.Kind<=17
     ·rw[if_pos h17,show(bif (x.Kind==16) then true else (x.Kind==17))=true by rcases(by omega:x.Kind=16\/x.Kind=17) with h|h<;>simp[h]];rfl
     ·rw[if_neg h17,show(bif (x.Kind==16) then true else (x.Kind==17))=false by rw[show(x.Kind==16)=false by simp;omega,show(x.Kind==17)=false by simp;omega];rfl,Yt (show x.Kind >= 18 by omega)]
      cases giv a.Kind<;>cases giv b.Kind<;>rfl
theorem Xoc {l:List X07} (ho:∀ j x,l[j]?=some x->Xm5 x j):∀ (xs:List X07) (k:Nat),l.drop k=xs->X40 l xs k=some (match wrN l xs k with|none=>.x0|some j=>.x1 (j:Int))
 |[],k,_=>rfl
 |x::xs,k,h=>by
  have hk:l[k]?=some x:=by
   have:(l.drop k)[0]?=some x:=by rw[h];rfl
   simpa using this
  have hd:l.drop (k+1)=xs:=by
   have:(l.drop k).drop 1=xs:=by rw[h];rfl
   rw[List.drop_drop] at this;exact this
  rw[X40,Xz9 hk (ho k x hk),Yo,wrN]
  cases Xkn l x with
  |true=>exact Xoc ho xs (k+1) hd
  |false=>rfl
def gvs (l:List X07) (k:Nat):List Bool:=(l.take k).map fun e=>giv e.Kind
theorem Xny {l:List X07} {k:Nat} (hk:k<=l.length) {i:Int} (h0:0<=i) (h1:i<k):X3c (gvs l k) i=some (giv (X3a l i)):=by
 obtain⟨e,he,hke⟩:=Xay (l:=l) h0 (by omega)
 have hi:(i.toNat:Int)=i:=by omega
 rw[hke,<-hi,X4f]
 rw[<-hi,X4f] at he
 unfold gvs
 rw[List.getElem?_map,List.getElem?_take_of_lt (by omega),he];rfl
theorem Xp1 {l:List X07} {k:Nat} {x:X07} (hk:l[k]?=some x):gvs l (k+1)=gvs l k++[giv x.Kind]:=by
 unfold gvs
 rw[List.take_add_one,hk,List.map_append];rfl
theorem Xrb {l:List X07} (hn:l.length<=1000) (ho:∀ j x,l[j]?=some x->Xm5 x j):∀ (xs:List X07) (k:Nat),l.drop k=xs->X1t l xs k (gvs l k)=some (match wrN l xs k with|none=>.x0 (gvs l l.length)|some j=>.x1 [] (j:Int))
 |[],k,h=>by
  have:l.length<=k:=by
   have:=congrArg List.length h;simp at this;omega
  rw[X1t,wrN]
  unfold gvs
  rw[List.take_of_length_le this,List.take_length]
 |x::xs,k,h=>by
  have hk:l[k]?=some x:=by
   have:(l.drop k)[0]?=some x:=by rw[h];rfl
   simpa using this
  have hd:l.drop (k+1)=xs:=by
   have:(l.drop k).drop 1=xs:=by rw[h];rfl
   rw[List.drop_drop] at this;exact this
  have hlt:=(Ys.1 hk).1
  have hox:=ho k x hk
  have ih:=Xrb hn ho xs (k+1) hd
  have h1:=hox.lo
  have h2:=hox.hi
  have cap:∀ b,X1w (List.length (gvs l k++[b])) 1=some ():=fun b=>X2n (by unfold gvs;simp;omega)
  have go:giv x.Kind=false->Xkn l x=true->X1t l xs (k+1) (gvs l k++[false])=some (match wrN l (x::xs) k with|none=>.x0 (gvs l l.length)|some j=>.x1 [] (j:Int)):=by
   intro g f
   rw[wrN,f,if_pos rfl,<-ih,Xp1 hk,g]
  have go':giv x.Kind=true->Xkn l x=true->X1t l xs (k+1) (gvs l k++[true])=some (match wrN l (x::xs) k with|none=>.x0 (gvs l l.length)|some j=>.x1 [] (j:Int)):=by
   intro g f
   rw[wrN,f,if_pos rfl,<-ih,Xp1 hk,g]
  have stop:Xkn l x=false->(some (.x1 [] (k:Int)):Option X5b)=some (match wrN l (x::xs) k with|none=>.x0 (gvs l l.length)|some j=>.x1 [] (j:Int)):=by
   intro f
   rw[wrN,f];rfl
  rw[X1t]
  by_cases h4:x.Kind<=4
  ·rw[Yt h4,cond_true,cap,Yo]
   exact go (by unfold giv;simp;omega) (by unfold Xkn;rw[if_pos h4])
  ·rw[Yf h4,cond_false]
   have hA:X3c (gvs l k) x.A=some (giv (X3a l x.A)):=Xny (by omega) hox.a0 (hox.ak (by omega))
   have hB:X3c (gvs l k) x.B=some (giv (X3a l x.B)):=Xny (by omega) hox.b0 (hox.bk (by omega))
   by_cases h5:x.Kind=5
   ·have hf:Xkn l x=!(giv (X3a l x.A)):=by unfold Xkn;rw[if_neg h4,if_pos h5]
    rw[show(x.Kind==5)=true by simp[h5],cond_true,hA]
    cases hg:giv (X3a l x.A) with
    |true=>exact stop (by rw[hf,hg];rfl)
    |false =>
     show(X1w (List.length (gvs l k++[false])) 1).bind _=_
     rw[cap,Yo];exact go (by unfold giv;simp[h5]) (by rw[hf,hg];rfl)
   ·rw[show(x.Kind==5)=false by simp[h5],cond_false]
    by_cases h6:x.Kind=6
    ·have hf:Xkn l x=giv (X3a l x.A):=by unfold Xkn;rw[if_neg h4,if_neg h5,if_pos h6]
     rw[show(x.Kind==6)=true by simp[h6],cond_true,hA]
     cases hg:giv (X3a l x.A) with
     |false=>exact stop (by rw[hf,hg])
     |true =>
      show(X1w (List.length (gvs l k++[true])) 1).bind _=_
      rw[cap,Yo];exact go' (by unfold giv;simp[h6]) (by rw[hf,hg])
    ·rw[show(x.Kind==6)=false by simp[h6],cond_false]
     have lok:X5q (List.length [x.A,x.B])=some ():=X36 (by simp)
     by_cases h15:x.Kind<=15
     ·have hf:Xkn l x=(!(giv (X3a l x.A))&&!(giv (X3a l x.B))):=by unfold Xkn;rw[if_neg h4,if_neg h5,if_neg h6,if_pos h15]
      by_cases h11:x.Kind<=11
      ·have hgx:giv x.Kind=false:=by unfold giv;simp;omega
       rw[Yt h11,cond_true,Yo,lok]
       simp only[X0d,hA,hB]
       generalize giv (X3a l x.A)=p at hf
       generalize giv (X3a l x.B)=r at hf
       cases p<;>cases r
       ·show(X1w (List.length (gvs l k++[false])) 1).bind _=_
        rw[cap,Yo];exact go hgx hf
       all_goals exact stop hf
      ·have hgx:giv x.Kind=true:=by unfold giv;simp;omega
       rw[Yf h11,cond_false,Yt h15,cond_true,Yo,lok]
       simp only[X0d,hA,hB]
       generalize giv (X3a l x.A)=p at hf
       generalize giv (X3a l x.B)=r at hf
       cases p<;>cases r
       ·show(X1w (List.length (gvs l k++[true])) 1).bind _=_
        rw[cap,Yo];exact go' hgx hf
       all_goals exact stop hf
     ·rw[Yf (show ¬ x.Kind<=11 by omega),cond_false,Yf h15,cond_false]
      have hgx:giv x.Kind=true:=by unfold giv;simp;omega
      by_cases h17:x.Kind<=17
      ·have hf:Xkn l x=((giv (X3a l x.A))==(giv (X3a l x.B))):=by unfold Xkn;rw[if_neg h4,if_neg h5,if_neg h6,if_neg h15,if_pos h17]
       rw[Yt h17,cond_true,Yo,lok]
       simp only[X0d,X0e,hA,hB]
       generalize giv (X3a l x.A)=p at hf
       generalize giv (X3a l x.B)=r at hf
       cases p<;>cases r
       ·show(X1w (List.length (gvs l k++[true])) 1).bind _=_
        rw[cap,Yo];exact go' hgx hf
       ·exact stop hf
       ·exact stop hf
       ·show(X1w (List.length (gvs l k++[true])) 1).bind _=_
        rw[cap,Yo];exact go' hgx hf
      ·have hf:Xkn l x=((giv (X3a l x.A))&&(giv (X3a l x.B))):=by unfold Xkn;rw[if_neg h4,if_neg h5,if_neg h6,if_neg h15,if_neg h17]
       rw[Yf h17,cond_false,Yo,lok]
       simp only[X0d,X0e,hA,hB]
       generalize giv (X3a l x.A)=p at hf
       generalize giv (X3a l x.B)=r at hf
       cases p<;>cases r
       ·exact stop hf
       ·exact stop hf
       ·exact stop hf
       ·show(X1w (List.length (gvs l k++[true])) 1).bind _=_
        rw[cap,Yo];exact go' hgx hf
end Go.D


namespace Go.D
theorem Xxa (a b:Int):a<b\/b<=a:=by omega
theorem Xrz {α:Type} {l:List α} (h:l.Nodup):l.reverse.Nodup:=by
 unfold List.Nodup at *
 rw[List.pairwise_reverse]
 exact h.imp fun h=>Ne.symm h
def okT (t:Int):Prop := -1099511627776<=t/\t<=1099511627776
def okW (w:X0n):Prop:=1<=w.Size/\w.Size<=1073741824/\((w.Kind=2/\1<=w.Every/\w.Every<=w.Size/\w.Size<=16*w.Every)\/((w.Kind=1\/w.Kind=3)/\w.Every=0))
theorem X4d {w:X0n} (h:okW w):X18 w=some 0:=by
 obtain⟨h1,h2,h3⟩:=h
 have e1:decide (w.Size<1)=false:=by simp;omega
 have e2:decide (w.Size>1073741824)=false:=by simp;omega
 simp only[X18,e1,e2,cond_false]
 rcases h3 with ⟨k,a1,a2,a3⟩|⟨k|k,a⟩
 ·have e3:(w.Kind==2)=true:=by simp[k]
  have e4:decide (w.Every >= 1)=true:=by simp;omega
  have e5:decide (w.Every<=w.Size)=true:=by simp;omega
  have e6:decide (w.Size<=IntKind.i64.wrap (16*w.Every))=true:=by rw[X0m (by omega) (by omega)];simp;omega
  simp only[e3,e4,e5,e6,cond_true]
 ·have e3:(w.Kind==2)=false:=by simp[k]
  have e4:(w.Kind==1)=true:=by simp[k]
  have e5:(w.Every==0)=true:=by simp[a]
  simp only[e3,e4,e5,cond_true,cond_false]
 ·have e3:(w.Kind==2)=false:=by simp[k]
  have e4:(w.Kind==1)=false:=by simp[k]
  have e6:(w.Kind==3)=true:=by simp[k]
  have e5:(w.Every==0)=true:=by simp[a]
  simp only[e3,e4,e5,e6,cond_true,cond_false]
theorem Xbm {t size:Int} (ht:okT t) (h1:1<=size) (h2:size<=1073741824):Xa4 t size=some (⟨t / size*size,t / size*size+size⟩,0):=by
 obtain⟨t1,t2⟩:=ht
 have e1:decide (size<1)=false:=by simp;omega
 have e2:decide (size>1073741824)=false:=by simp;omega
 have e3:decide (t < -1099511627776)=false:=by simp;omega
 have e4:decide (t>1099511627776)=false:=by simp;omega
 have hm:=Int.mul_ediv_add_emod t size
 have hm1:=Int.emod_nonneg t (show size≠0 by omega)
 have hm2:=Int.emod_lt_of_pos t (show 0<size by omega)
 have q1 : -1099511627776<=t / size:=by
  rcases Xxa (t / size) (-1099511627776) with h|h
  ·exfalso
   have:size*(t / size)<=size*(-1099511627777):=Int.mul_le_mul_of_nonneg_left (by omega) (by omega)
   omega
  ·exact h
 have q2:t / size<=1099511627776:=by
  rcases Xxa 1099511627776 (t / size) with h|h
  ·exfalso
   have:size*1099511627777<=size*(t / size):=Int.mul_le_mul_of_nonneg_left (by omega) (by omega)
   omega
  ·exact h
 have hn:X6k t size=some (t / size,0):=by
  simp only[X6k,X9e,e1,e2,e3,e4,cond_false,Yo,bne_self_eq_false]
  have hd:Xt5 size=some ():=by unfold Xt5;rw[if_pos (by omega)]
  rw[hd,Yo]
  have htm:=Int.tmod_add_mul_tdiv t size
  by_cases hneg:Int.tmod t size<0
  ·have e5:decide (Int.tmod t size<0)=true:=by simp[hneg]
   rw[e5,cond_true,Yo]
   have hq:Int.tdiv t size - 1=t / size:=by
    have h3:Int.tdiv t size=t / size+if 0<=t\/size ∣ t then 0 else size.sign:=Int.tdiv_eq_ediv
    have h4:¬ (0<=t\/size ∣ t):=by
     rintro(h|h)
     ·have:=Int.tmod_nonneg size h;omega
     ·have:=Int.tmod_eq_zero_of_dvd h;omega
    rw[if_neg h4,Int.sign_eq_one_of_pos (by omega)] at h3
    omega
   have e6:IntKind.i64.wrap (Int.tdiv t size)=Int.tdiv t size:=X0m (by omega) (by omega)
   rw[e6,hq,X0m (by omega) (by omega)]
  ·have e5:decide (Int.tmod t size<0)=false:=by simp;omega
   rw[e5,cond_false,Yo]
   have hq:Int.tdiv t size=t / size:=by
    have h3:Int.tdiv t size=t / size+if 0<=t\/size ∣ t then 0 else size.sign:=Int.tdiv_eq_ediv
    by_cases h4:0<=t\/size ∣ t
    ·rw[if_pos h4] at h3;omega
    ·exfalso
     rw[if_neg h4,Int.sign_eq_one_of_pos (by omega)] at h3
     rw[h3,Int.mul_add,Int.mul_one] at htm
     omega
   rw[hq,X0m (by omega) (by omega)]
 simp only[Xa4,hn,Yo,bne_self_eq_false,cond_false]
 have e7:t / size*size=size*(t / size):=Int.mul_comm _ _
 have e8:IntKind.i64.wrap (t / size+1)=t / size+1:=X0m (by omega) (by omega)
 have e9:(t / size+1)*size=size*(t / size)+size:=by rw[Int.add_mul,e7];omega
 rw[e8,e9,e7,X0m (by omega) (by omega),X0m (by omega) (by omega)]
def Xai (t size every:Int):Nat->Int->List X05
 |0,_=>[]
 |K+1,s=>if s+size>t then ⟨s,s+size⟩::Xai t size every K (s - every) else []
theorem Xut {t size every:Int} (ht:okT t) (h1:1<=every) (h2:every<=size) (h3:size<=1073741824):∀ (K f:Nat) (acc:List X05) (s:Int),s<=t -> -1200000000000+K*1073741824<=s->s+size - t<=K*every->K<f->acc.length+K<=1000000 ->
  X55 t size every f acc s=some (.x0 (acc++Xai t size every K s)):=by
 obtain⟨t1,t2⟩:=ht
 intro K
 induction K with
 |zero =>
  intro f acc s hs hl hK hf ha
  cases f with
  |zero=>omega
  |succ f =>
   rw[X55]
   simp only[Int.natCast_zero,Int.zero_mul] at hK hl
   have:decide (IntKind.i64.wrap (s+size)>t)=false:=by rw[X0m (by omega) (by omega)];simp;omega
   rw[this,cond_false];simp[Xai]
 |succ K ih =>
  intro f acc s hs hl hK hf ha
  cases f with
  |zero=>omega
  |succ f =>
   rw[X55]
   have e0:((K+1:Nat):Int)*every=K*every+every:=by rw[Int.natCast_add,Int.natCast_one,Int.add_mul,Int.one_mul]
   have e00:((K+1:Nat):Int)*1073741824=K*1073741824+1073741824:=by omega
   have e1:IntKind.i64.wrap (s+size)=s+size:=X0m (by omega) (by omega)
   rw[e1]
   by_cases hgt:s+size>t
   ·have:decide (s+size>t)=true:=by simpa using hgt
    rw[this,cond_true,X2n (by simp;omega),Yo]
    have e2:IntKind.i64.wrap (s - every)=s - every:=X0m (by omega) (by omega)
    rw[e2,ih f _ _ (by omega) (by omega) (by omega) (by omega) (by simp;omega)]
    rw[Xai,if_pos hgt];simp
   ·have:decide (s+size>t)=false:=by simpa using hgt
    rw[this,cond_false,Xai,if_neg hgt];simp
theorem Xmi (back:List X05) (hb:back.length<=1000):∀ (k f:Nat) (acc:List X05),k<=back.length->k<f->acc.length+k<=1000000 ->
  X3e back f acc ((k:Int) - 1)=some (.x0 (acc++(back.take k).reverse) back):=by
 intro k
 induction k with
 |zero =>
  intro f acc _ hf _
  cases f with
  |zero=>omega
  |succ f =>
   rw[X3e]
   simp
 |succ k ih =>
  intro f acc hk hf ha
  cases f with
  |zero=>omega
  |succ f =>
   rw[X3e]
   have e1:(((k+1:Nat):Int) - 1)=(k:Int):=by omega
   rw[e1]
   have e2:decide ((k:Int) >= 0)=true:=by simp
   rw[e2,cond_true,X4f,Ye (by omega),Yo,X2n (by simp;omega),Yo]
   rw[X0m (by omega) (by omega),ih f _ (by omega) (by omega) (by simp;omega)]
   rw[List.take_add_one,Ye (by omega)]
   simp only[Option.toList_some,List.reverse_append,List.reverse_cons,List.reverse_nil,List.nil_append,List.append_assoc,List.cons_append]
theorem Xm2 (t size every:Int):∀ (K:Nat) (s:Int),(Xai t size every K s).length<=K:=by
 intro K
 induction K with
 |zero=>intro s;simp[Xai]
 |succ K ih=>intro s;rw[Xai];split<;>simp;exact ih _
theorem Xwt (t size every:Int) (h:1<=every):∀ (K:Nat) (s:Int),∀ x∈Xai t size every K s,x.Start<=s:=by
 intro K
 induction K with
 |zero=>intro s x hx;simp[Xai] at hx
 |succ K ih =>
  intro s x hx
  rw[Xai] at hx
  split at hx
  ·rcases List.mem_cons.1 hx with rfl|hx
   ·exact Int.le_refl _
   ·have:=ih _ x hx;omega
  ·simp at hx
theorem Xo8 (t size every:Int) (h:1<=every):∀ (K:Nat) (s:Int),(Xai t size every K s).Nodup:=by
 intro K
 induction K with
 |zero=>intro s;simp[Xai]
 |succ K ih =>
  intro s
  rw[Xai]
  split
  ·rw[List.nodup_cons]
   exact⟨fun hx=>by have:=Xwt t size every h K _ _ hx;simp at this;omega,ih _⟩
  ·exact List.nodup_nil
theorem Xtm (t size every:Int):∀ (K:Nat) (s:Int),s+size - t<=K*every->0<=every->∀ x:X05,x∈Xai t size every K s↔∃ j:Nat,x.Start=s - j*every/\x.End=x.Start+size/\t<x.End:=by
 intro K
 induction K with
 |zero =>
  intro s hK he x
  simp only[Int.natCast_zero,Int.zero_mul] at hK
  simp only[Xai,List.not_mem_nil,false_iff,not_exists,not_and]
  intro j h1 h2
  have:(0:Int)<=j*every:=Int.mul_nonneg (by omega) he
  omega
 |succ K ih =>
  intro s hK he x
  have e0:((K+1:Nat):Int)*every=K*every+every:=by rw[Int.natCast_add,Int.natCast_one,Int.add_mul,Int.one_mul]
  rw[Xai]
  by_cases hgt:s+size>t
  ·rw[if_pos hgt,List.mem_cons,ih (s - every) (by omega) he x]
   constructor
   ·rintro(rfl|⟨j,h1,h2,h3⟩)
    ·exact⟨0,by simp,rfl,hgt⟩
    ·refine⟨j+1,?_,h2,h3⟩
     have:((j+1:Nat):Int)*every=j*every+every:=by rw[Int.natCast_add,Int.natCast_one,Int.add_mul,Int.one_mul]
     omega
   ·rintro⟨j,h1,h2,h3⟩
    cases j with
    |zero=>left;apply Xg4;simp at h1;exact h1;simp at h1;show x.End=s+size;omega
    |succ j =>
     right
     have:((j+1:Nat):Int)*every=j*every+every:=by rw[Int.natCast_add,Int.natCast_one,Int.add_mul,Int.one_mul]
     exact⟨j,by omega,h2,h3⟩
  ·rw[if_neg hgt]
   simp only[List.not_mem_nil,false_iff,not_exists,not_and]
   intro j h1 h2
   have:(0:Int)<=j*every:=Int.mul_nonneg (by omega) he
   omega
theorem Xll {t size every:Int} (h1:1<=every) (x:X05):Xlm size every t x↔∃ j:Nat,x.Start=t / every*every - j*every/\x.End=x.Start+size/\t<x.End:=by
 have hm:=Int.mul_ediv_add_emod t every
 have hm1:=Int.emod_nonneg t (show every≠0 by omega)
 have hm2:=Int.emod_lt_of_pos t (show 0<every by omega)
 have hc:t / every*every=every*(t / every):=Int.mul_comm _ _
 unfold Xlm inS
 constructor
 ·rintro⟨a1,a2,a3,a4⟩
  have hx:=Int.mul_ediv_add_emod x.Start every
  rw[a1,Int.add_zero] at hx
  have hle:x.Start / every<=t / every:=by
   rcases Xxa (t / every) (x.Start / every) with h|h
   ·exfalso
    have:every*(t / every+1)<=every*(x.Start / every):=Int.mul_le_mul_of_nonneg_left (by omega) (by omega)
    rw[Int.mul_add,Int.mul_one] at this
    omega
   ·exact h
  refine⟨(t / every - x.Start / every).toNat,?_,a2,a4⟩
  have e1:(((t / every - x.Start / every).toNat:Nat):Int)=t / every - x.Start / every:=Int.toNat_of_nonneg (by omega)
  rw[e1,Int.sub_mul,Int.mul_comm (x.Start / every)]
  omega
 ·rintro⟨j,a1,a2,a3⟩
  have hj:(0:Int)<=j*every:=Int.mul_nonneg (by omega) (by omega)
  refine⟨?_,a2,by omega,a3⟩
  rw[a1,<-Int.sub_mul]
  exact Int.mul_emod_left _ _
theorem Xgp {w:X0n} {t:Int} (hw:okW w) (hk:w.Kind≠3) (ht:okT t):∃ W,Xdb w t=some (W,0)/\W.length<=16/\W.Nodup/\∀ s,s∈W↔Xlm w.Size (Xct w) t s:=by
 have hcw:=X4d hw
 obtain⟨w1,w2,w3⟩:=hw
 have ht':=ht
 obtain⟨t1,t2⟩:=ht
 unfold Xdb
 rw[hcw,Yo]
 rcases w3 with ⟨k,a1,a2,a3⟩|⟨k|k,a⟩
 ·have e1:(w.Kind==1)=false:=by simp[k]
  have e2:(w.Kind==2)=true:=by simp[k]
  have e3:Xct w=w.Every:=by unfold Xct;rw[if_neg (by omega)]
  simp only[bne_self_eq_false,cond_false,e1,e2,cond_true]
  have hm:=Int.mul_ediv_add_emod t w.Every
  have hm1:=Int.emod_nonneg t (show w.Every≠0 by omega)
  have hm2:=Int.emod_lt_of_pos t (show 0<w.Every by omega)
  have hc:t / w.Every*w.Every=w.Every*(t / w.Every):=Int.mul_comm _ _
  have hall:Xbo t w.Size w.Every=some ((Xai t w.Size w.Every 16 (t / w.Every*w.Every)).reverse,0):=by
   unfold Xbo
   have b1:decide ((if w.Every<w.Size then w.Every else w.Size)<1)=false:=by simp;split<;>omega
   have b2:decide (w.Size>1073741824)=false:=by simp;omega
   have b3:decide (w.Every>w.Size)=false:=by simp;omega
   have b4:decide (w.Size>IntKind.i64.wrap (16*w.Every))=false:=by rw[X0m (by omega) (by omega)];simp;omega
   simp only[b1,b2,b3,b4,cond_false,Xbm ht' a1 (by omega),Yo,bne_self_eq_false]
   have hL:=Xut ht' a1 a2 w2 16 FU [] (t / w.Every*w.Every) (by omega) (by omega) (by omega) (by unfold FU;omega) (by simp)
   rw[hL,Yo]
   simp only[List.nil_append]
   have hlen:=Xm2 t w.Size w.Every 16 (t / w.Every*w.Every)
   rw[X0m (by omega) (by omega)]
   have hR:=Xmi (Xai t w.Size w.Every 16 (t / w.Every*w.Every)) (by omega) (Xai t w.Size w.Every 16 (t / w.Every*w.Every)).length FU [] (Nat.le_refl _) (by unfold FU;omega) (by simp;omega)
   rw[hR,Yo]
   simp
  rw[hall,Yo]
  refine⟨_,rfl,by rw[List.length_reverse];exact Xm2 ..,Xrz (Xo8 t w.Size w.Every a1 _ _),fun s=>?_⟩
  rw[List.mem_reverse,e3,Xll a1,Xtm t w.Size w.Every 16 _ (by omega) (by omega)]
 ·have e1:(w.Kind==1)=true:=by simp[k]
  have e3:Xct w=w.Size:=by unfold Xct;rw[if_pos k]
  simp only[bne_self_eq_false,cond_false,e1,cond_true,Xbm ht' w1 w2,Yo]
  refine⟨_,rfl,by simp,by simp,fun s=>?_⟩
  rw[List.mem_singleton,e3,Xll w1]
  have hm:=Int.mul_ediv_add_emod t w.Size
  have hm1:=Int.emod_nonneg t (show w.Size≠0 by omega)
  have hm2:=Int.emod_lt_of_pos t (show 0<w.Size by omega)
  have hc:t / w.Size*w.Size=w.Size*(t / w.Size):=Int.mul_comm _ _
  constructor
  ·rintro rfl
   exact⟨0,by simp,rfl,by show t<t / w.Size*w.Size+w.Size;omega⟩
  ·rintro⟨j,h1,h2,h3⟩
   have hj:(j:Int)=0:=by
    rcases Xxa 0 (j:Int) with h|h
    ·exfalso
     have:(1:Int)*w.Size<=j*w.Size:=Int.mul_le_mul_of_nonneg_right (by omega) (by omega)
     omega
    ·omega
   rw[hj,Int.zero_mul] at h1
   exact Xg4 (by show s.Start=t / w.Size*w.Size;omega) (by show s.End=t / w.Size*w.Size+w.Size;omega)
 ·exact absurd k hk
end Go.D


namespace Go.D
def kOf (l:List X07):Bool×Int×Int :=
 if Xbd l≠0 then (false,0,Xbd l)
 else match wrN l l 0 with
  |some j=>(false,(j:Int),42)
  |none=>(giv (X3a l ((l.length:Int) - 1)),(l.length:Int) - 1,0)
theorem Xh0 {l:List X07} (h:Xbd l=0):l.length<=60/\1<=l.length/\∃ sd,Xj0 l []=some sd:=by
 unfold Xbd at h
 split at h
 ·cases h
 ·split at h
  ·cases h
  ·rename_i sd hr
   have hn:=Xg5 l [] sd hr
   simp only[List.length_nil,Nat.zero_add] at hn
   split at h
   ·cases h
   ·rename_i q hq
    have:1<=sd.length:=by
     cases sd with
     |nil=>cases hq
     |cons=>simp
    exact⟨by omega,by omega,sd,hr⟩
theorem Xj1 {l:List X07} (h:Xbd l=0):∀ j x,l[j]?=some x->Xm5 x j:=by
 obtain⟨_,_,sd,hr⟩:=Xh0 h
 intro j x hj
 have:=Xrx l [] sd hr j x hj
 simpa using this
theorem Xod (l:List X07):∀ (xs:List X07) (k j:Nat),wrN l xs k=some j->k<=j/\j<k+xs.length
 |[],k,j,h=>by cases h
 |x::xs,k,j,h=>by
  unfold wrN at h
  split at h
  ·have:=Xod l xs (k+1) j h;simp only[List.length_cons];omega
  ·cases h;simp only[List.length_cons];omega
theorem Xn0 {l:List X07} (h0:∀ x∈l,0<=x.Kind):Xdp l=some (kOf l):=by
 unfold Xdp kOf
 rw[X9w h0,Yo]
 by_cases hz:Xbd l=0
 ·obtain⟨h60,h1,_⟩:=Xh0 hz
  rw[if_neg (by omega),hz,show((0:Int) != 0)=false from rfl,cond_false]
  unfold Xca
  rw[X36 (by omega),Yo]
  have ht:=Xrb (by omega) (Xj1 hz) l 0 rfl
  rw[show gvs l 0=[] from by unfold gvs;simp] at ht
  rw[ht]
  cases hw:wrN l l 0 with
  |some j =>
   have:=(Xod l l 0 j hw).2
   simp only[Yo]
   rw[Yt (show(j:Int)<(l.length:Int) by omega)];rfl
  |none =>
   simp only[Yo]
   rw[Yf (show ¬ (l.length:Int)<(l.length:Int) by omega),cond_false,X0m (by omega) (by omega),Xny (Nat.le_refl _) (by omega) (by omega)];rfl
 ·rw[if_pos hz,show(Xbd l != 0)=true by simp[hz]];rfl
theorem Xml {l:List X07}:Xdg l=some (kOf l):=by
 unfold Xdg kOf
 rw[X9v,Yo]
 by_cases hz:Xbd l=0
 ·obtain⟨h60,h1,_⟩:=Xh0 hz
  rw[if_neg (by omega),hz,show((0:Int) != 0)=false from rfl,cond_false]
  unfold Xar
  rw[X36 (by omega),Yo,Xoc (Xj1 hz) l 0 rfl]
  cases hw:wrN l l 0 with
  |some j =>
   have:=(Xod l l 0 j hw).2
   simp only[Yo]
   rw[Yt (show(j:Int)<(l.length:Int) by omega)];rfl
  |none =>
   simp only[Yo]
   obtain⟨e,he,hk⟩:=Xay (l:=l) (i:=(l.length:Int) - 1) (by omega) (by omega)
   rw[Yf (show ¬ (l.length:Int)<(l.length:Int) by omega),cond_false,X0m (by omega) (by omega),he,Yo,Xk9,hk];rfl
 ·rw[if_pos hz,show(Xbd l != 0)=true by simp[hz]];rfl
def X39 (l:List X07) (b:Bool):Int×Int :=
 if (kOf l).2.2=0/\(kOf l).1≠b then ((kOf l).2.1,42) else ((kOf l).2.1,(kOf l).2.2)
theorem Xdo {l:List X07} {b:Bool} (h0:∀ x∈l,0<=x.Kind):X8i l b=some (X39 l b):=by
 unfold X8i X39
 rw[Xn0 h0,Yo]
 by_cases hz:(kOf l).2.2=0
 ·rw[hz,show((0:Int)==0)=true from rfl,cond_true]
  cases hb:(kOf l).1<;>cases b<;>simp
 ·rw[show((kOf l).2.2==0)=false by simp[hz],cond_false,cond_false,if_neg (fun h=>hz h.1)];rfl
theorem Xdf {l:List X07} {b:Bool}:X7e l b=some (X39 l b):=by
 unfold X7e X39
 rw[Xml,Yo]
 by_cases hz:(kOf l).2.2=0
 ·rw[hz,show((0:Int)==0)=true from rfl,cond_true]
  cases hb:(kOf l).1<;>cases b<;>simp
 ·rw[show((kOf l).2.2==0)=false by simp[hz],cond_false,cond_false,if_neg (fun h=>hz h.1)]
def Xoj (s:List Int) (j:Bool):Bool:=s.length==0||(j&&s.length != 2)||s.any fun x=>decide (x<0)||decide (x>3)
def X6n (s:List Int) (j:Bool):Int :=
 if s.length>4 then 4 else if Xoj s j then 8 else if s.Nodup then 0 else 43
theorem Xl4 (Y:List Int):∀ (xs:List Int) (k:Nat),∃ o,X0q Y xs k=some o/\((xs.any fun x=>decide (x<0)||decide (x>3))=true->∃ j:Nat,o=.x1 (j:Int))/\((xs.any fun x=>decide (x<0)||decide (x>3))=false->o=.x0)
 |[],k=>⟨.x0,rfl,by simp,fun _=>rfl⟩
 |x::xs,k=>by
  obtain⟨o,h1,h2,h3⟩:=Xl4 Y xs (k+1)
  rw[X0q]
  unfold X5m
  rw[Yo]
  by_cases hx:x<0\/x>3
  ·have:(bif decide (x<0) then true else decide (x >= 4))=true:=by
    rcases hx with h|h
    ·rw[Yt h];rfl
    ·rw[Yf (by omega),Yt (by omega)];rfl
   rw[this]
   refine⟨_,rfl,fun _=>⟨k,rfl⟩,fun h=>?_⟩
   exfalso
   simp only[List.any_cons,Bool.or_eq_false_iff,decide_eq_false_iff_not] at h
   omega
  ·have:(bif decide (x<0) then true else decide (x >= 4))=false:=by
    rw[Yf (by omega),Yf (by omega)];rfl
   rw[this]
   refine⟨o,h1,fun h=>h2 ?_,fun h=>h3 ?_⟩
   ·rw[List.any_cons,Yf (by omega),Yf (by omega)] at h;exact h
   ·rw[List.any_cons,Yf (by omega),Yf (by omega)] at h;exact h
theorem Xo6 {s:List Int} (hn:s.length<=1000):Xx s=some (s.any fun x=>decide (x<0)||decide (x>3)):=by
 unfold Xx X0p
 rw[X36 (by omega),Yo]
 obtain⟨o,h1,h2,h3⟩:=Xl4 s s 0
 rw[h1]
 cases hb:(s.any fun x=>decide (x<0)||decide (x>3)) with
 |true=>obtain⟨j,rfl⟩:=h2 hb;simp
 |false=>rw[h3 hb];rfl
end Go.D


namespace Go.D
def X04h:Int := -9223372036854775808
end Go.D


namespace Go.D
theorem Xt6:∀ (xs ks:List Int),(X7p ks xs).length<=ks.length+xs.length/\((X7p ks xs).length=ks.length+xs.length↔xs.Nodup/\∀ x∈xs,x ∉ ks):=by
 intro xs
 induction xs with
 |nil=>intro ks;simp[X7p]
 |cons x xs ih =>
  intro ks
  rw[X7p]
  unfold Xhl
  by_cases hm:x∈ks
  ·rw[if_pos hm]
   have:=ih ks
   refine⟨by have:=this.1;simp only[List.length_cons];omega,⟨fun h=>?_,fun h=>?_⟩⟩
   ·have:=this.1;simp only[List.length_cons] at h;omega
   ·exact absurd hm (h.2 x List.mem_cons_self)
  ·rw[if_neg hm]
   have:=ih (ks++[x])
   rw[List.length_append,List.length_singleton] at this
   refine⟨by have:=this.1;simp only[List.length_cons];omega,?_⟩
   rw[show ks.length+(x::xs).length=ks.length+1+xs.length by simp only[List.length_cons];omega,this.2]
   constructor
   ·rintro⟨h1,h2⟩
    refine⟨List.nodup_cons.2 ⟨fun hx=>h2 x hx (by simp),h1⟩,?_⟩
    intro y hy
    rcases List.mem_cons.1 hy with rfl|hy
    ·exact hm
    ·exact fun hk=>h2 y hy (by simp[hk])
   ·rintro⟨h1,h2⟩
    refine⟨(List.nodup_cons.1 h1).2,fun y hy hk=>?_⟩
    rcases List.mem_append.1 hk with hk|hk
    ·exact h2 y (List.mem_cons_of_mem _ hy) hk
    ·simp at hk;subst hk;exact(List.nodup_cons.1 h1).1 hy
theorem Xo4 {s:List Int} (hn:s.length<=1000):∃ v,X38 s=some v/\decide (v<(s.length:Int))=!(decide s.Nodup):=by
 unfold X38
 rw[X36 (by omega)]
 refine⟨_,rfl,?_⟩
 have h:=Xt6 s []
 simp only[List.length_nil,Nat.zero_add,List.not_mem_nil,not_false_eq_true,implies_true,and_true] at h
 by_cases hd:s.Nodup
 ·rw[Yt hd,h.2.2 hd];simp
 ·rw[Yf hd]
  have:(X7p [] s).length≠s.length:=fun e=>hd (h.2.1 e)
  have:=h.1
  simp;omega
theorem Xe1 (s:List Int) (j:Bool):X2h s j=some (X6n s j):=by
 unfold X2h X6n Xoj
 by_cases h4:s.length>4
 ·rw[if_pos h4,Yt (show(s.length:Int)>4 by omega)];rfl
 ·rw[if_neg h4,Yf (show ¬ (s.length:Int)>4 by omega),cond_false]
  obtain⟨v,hv,hd⟩:=Xo4 (s:=s) (by omega)
  rw[Xo6 (by omega),hv]
  simp only[Yo]
  rw[hd]
  have e0:((s.length:Int)==0)=(s.length==0):=by rw[Bool.eq_iff_iff];simp
  have e2:((s.length:Int) != 2)=(s.length != 2):=by rw[Bool.eq_iff_iff];simp;omega
  rw[e0,e2]
  generalize (s.any fun x=>decide (x<0)||decide (x>3))=b
  generalize (s.length==0)=z
  generalize (s.length != 2)=t
  by_cases hn:s.Nodup<;>cases z<;>cases t<;>cases j<;>cases b<;>simp[hn]
theorem Xf8 (Y:List Int):∀ (xs:List Int) (k:Nat),X34 Y xs k=some (bif (xs.any fun x=>decide (x<0)||decide (x>3)) then .x1 else .x0)
 |[],k=>rfl
 |x::xs,k=>by
  rw[X34,Xf8 Y xs (k+1),List.any_cons]
  cases decide (x<0)<;>cases decide (x>3)<;>rfl
theorem Xl8 (s:List Int) (i:Nat) (hi:i<s.length) (hs:s.length<=1000):∀ (m n j:Nat),m=i - j->m<n->∃ o,X33 s (i:Int) n (j:Int)=some o/\(o=.x0↔∃ j',j<=j'/\j'<i/\s[j']?=s[i]?):=by
 intro m
 induction m with
 |zero =>
  intro n j hm hn
  cases n with
  |zero=>omega
  |succ n =>
   rw[X33,Yf (show ¬ (j:Int)<(i:Int) by omega)]
   exact⟨.x1,rfl,⟨fun h=>(by cases h),fun⟨j',h1,h2,_⟩=>by omega⟩⟩
 |succ m ih =>
  intro n j hm hn
  cases n with
  |zero=>omega
  |succ n =>
   rw[X33,Yt (show(j:Int)<(i:Int) by omega),cond_true,show X3c s (j:Int)=some (s[j]'(by omega)) by rw[X4f];exact Ye _,show X3c s (i:Int)=some (s[i]'hi) by rw[X4f];exact Ye _]
   simp only[Yo]
   by_cases he:s[j]=s[i]
   ·refine⟨.x0,?_,⟨fun _=>⟨j,Nat.le_refl _,by omega,by rw[Ye (show j<s.length by omega),Ye hi,he]⟩,fun _=>rfl⟩⟩
    rw[show(s[j]==s[i])=true by simp[he]];rfl
   ·rw[show(s[j]==s[i])=false by simp[he],cond_false,X0m (by omega) (by omega)]
    obtain⟨o,h1,h2⟩:=ih n (j+1) (by omega) (by omega)
    refine⟨o,by rw[show(j:Int)+1=((j+1:Nat):Int) by omega];exact h1,h2.trans ⟨fun⟨j',a,b,c⟩=>⟨j',by omega,b,c⟩,fun⟨j',a,b,c⟩=>?_⟩⟩
    by_cases hj:j'=j
    ·subst hj
     rw[Ye (show j'<s.length by omega),Ye hi] at c
     exact absurd (Option.some.inj c) he
    ·exact⟨j',by omega,b,c⟩
theorem Xf7 (s:List Int) (hs:s.length<=1000):∀ (xs:List Int) (k:Nat),s.drop k=xs->(s.take k).Nodup->X2l s xs k=some (if s.Nodup then .x0 else .x1)
 |[],k,h,hd=>by
  have:s.length<=k:=by
   have:=congrArg List.length h;simp at this;omega
  rw[List.take_of_length_le this] at hd
  rw[X2l,if_pos hd]
 |x::xs,k,h,hd=>by
  have hk:s[k]?=some x:=by
   have:(s.drop k)[0]?=some x:=by rw[h];rfl
   simpa using this
  have hdr:s.drop (k+1)=xs:=by
   have:(s.drop k).drop 1=xs:=by rw[h];rfl
   rw[List.drop_drop] at this;exact this
  have hlt:=(Ys.1 hk).1
  rw[X2l]
  obtain⟨o,h1,h2⟩:=Xl8 s k hlt hs (k - 0) FU 0 rfl (by unfold FU;omega)
  rw[show((0:Nat):Int)=0 from rfl] at h1
  rw[h1,Yo]
  cases o with
  |x0 =>
   obtain⟨j,_,hj,he⟩:=h2.1 rfl
   have:¬ s.Nodup:=fun hn=>by
    have:=(List.getElem?_inj (by omega:j<s.length) hn).1 he
    omega
   rw[if_neg this]
  |x1 =>
   have hno:¬ ∃ j',0<=j'/\j'<k/\s[j']?=s[k]?:=fun h=>by have:=h2.2 h;cases this
   refine Xf7 s hs xs (k+1) hdr ?_
   rw[List.take_add_one,hk]
   simp only[Option.toList_some]
   rw[List.nodup_append]
   refine⟨hd,by simp,fun a ha b hb=>?_⟩
   simp at hb;subst hb
   intro e;subst e
   obtain⟨j,hj,e⟩:=List.getElem_of_mem ha
   simp at hj
   refine hno ⟨j,Nat.zero_le _,by omega,?_⟩
   rw[hk,<-e,List.getElem_take,Ye]
theorem Xft (s:List Int) (j:Bool):X6o s j=some (X6n s j):=by
 unfold X6o X6n Xoj
 by_cases h4:s.length>4
 ·rw[if_pos h4,Yt (show(s.length:Int)>4 by omega)];rfl
 ·rw[if_neg h4,Yf (show ¬ (s.length:Int)>4 by omega),cond_false,X36 (by omega),Xf8,Xf7 s (by omega) s 0 rfl (by simp)]
  have e0:((s.length:Int)==0)=(s.length==0):=by rw[Bool.eq_iff_iff];simp
  have e2:((s.length:Int) != 2)=(s.length != 2):=by rw[Bool.eq_iff_iff];simp;omega
  rw[e0,e2]
  generalize (s.any fun x=>decide (x<0)||decide (x>3))=b
  generalize (s.length==0)=z
  generalize (s.length != 2)=t
  by_cases hn:s.Nodup<;>cases z<;>cases t<;>cases j<;>cases b<;>simp[hn]
instance (w:X0n):Decidable (okW w):=by unfold okW;infer_instance
theorem Xxh (w:X0n) (hE:w.Every<=9223372036854775807 /\ -9223372036854775808<=w.Every):X7d w=some (decide (okW w))/\X18 w=some (if okW w then 0 else 8):=by
 by_cases hw:okW w
 ·refine⟨?_,by rw[if_pos hw];exact X4d hw⟩
  rw[Yt hw]
  obtain⟨h1,h2,h3⟩:=hw
  unfold X7d
  rw[Yf (show ¬ w.Size<1 by omega),Yf (show ¬ w.Size>1073741824 by omega)]
  rcases h3 with ⟨k,a1,a2,a3⟩|⟨k|k,a⟩
  ·rw[show(w.Kind==2)=true by simp[k],Yt a1,Yt a2,X0m (by omega) (by omega),Yt a3];rfl
  ·rw[show(w.Kind==2)=false by simp[k],show(w.Kind==1)=true by simp[k],show(w.Every==0)=true by simp[a]];rfl
  ·rw[show(w.Kind==2)=false by simp[k],show(w.Kind==3)=true by simp[k],show(w.Every==0)=true by simp[a],show(w.Kind==1)=false by simp[k]];rfl
 ·rw[if_neg hw,Yf hw]
  by_cases hs:w.Size<1\/w.Size>1073741824
  ·have:(bif decide (w.Size<1) then true else decide (w.Size>1073741824))=true:=by
    rcases hs with h|h
    ·rw[Yt h];rfl
    ·rw[Yf (by omega),Yt h];rfl
   constructor
   ·unfold X7d;rw[this];rfl
   ·unfold X18;rw[this];rfl
  ·have:(bif decide (w.Size<1) then true else decide (w.Size>1073741824))=false:=by
    rw[Yf (by omega),Yf (by omega)];rfl
   unfold X7d X18
   rw[this,cond_false,cond_false]
   by_cases k2:w.Kind=2
   ·rw[show(w.Kind==2)=true by simp[k2],cond_true,cond_true]
    have:(bif (bif decide (w.Every >= 1) then decide (w.Every<=w.Size) else false) then decide (w.Size<=IntKind.i64.wrap (16*w.Every)) else false)=false:=by
     by_cases g1:w.Every >= 1
     ·by_cases g2:w.Every<=w.Size
      ·rw[Yt g1,Yt g2,X0m (by omega) (by omega),Yf];rfl
       intro g3;exact hw ⟨by omega,by omega,.inl ⟨k2,g1,g2,g3⟩⟩
      ·rw[Yt g1,Yf g2];rfl
     ·rw[Yf g1];rfl
    rw[this];exact⟨rfl,rfl⟩
   ·rw[show(w.Kind==2)=false by simp[k2],cond_false,cond_false]
    by_cases k1:w.Kind=1
    ·have:w.Every≠0:=fun h=>hw ⟨by omega,by omega,.inr ⟨.inl k1,h⟩⟩
     rw[show(w.Kind==1)=true by simp[k1],show(w.Every==0)=false by simp[this]];exact⟨rfl,rfl⟩
    ·by_cases k3:w.Kind=3
     ·have:w.Every≠0:=fun h=>hw ⟨by omega,by omega,.inr ⟨.inr k3,h⟩⟩
      rw[show(w.Kind==1)=false by simp[k1],show(w.Kind==3)=true by simp[k3],show(w.Every==0)=false by simp[this]];exact⟨rfl,rfl⟩
     ·rw[show(w.Kind==1)=false by simp[k1],show(w.Kind==3)=false by simp[k3]];exact⟨rfl,rfl⟩
end Go.D


namespace Go.D
def Xqx (q:X06):Int :=
 if q.Agg<1\/q.Agg>4\/(q.Late≠1/\q.Late≠2) then 8
 else if q.Agg=1/\0<q.Arg.length then 8
 else if q.Agg≠1/\Xbd q.Arg≠0 then Xbd q.Arg
 else if 0<q.Where.length/\Xbd q.Where≠0 then Xbd q.Where
 else if X6n q.Sources q.Join≠0 then X6n q.Sources q.Join
 else if q.Join=true/\q.Window.Kind≠1 then 8
 else if okW q.Window then 0 else 8
structure QW (q:X06):Prop where
 arg:∀ x∈q.Arg,0<=x.Kind
 wher:∀ x∈q.Where,0<=x.Kind
 ev:q.Window.Every<=9223372036854775807 /\ -9223372036854775808<=q.Window.Every
theorem Xqj {a b:Int} (h:¬ a=b):(a != b)=true:=by simp[h]
theorem lz {n:Nat} (h:0<n):((n:Int)==0)=false:=by simp;omega
theorem lz' {n:Nat} (h:¬ 0<n):((n:Int)==0)=true:=by simp;omega
theorem Xxu {q:X06} (hq:QW q):((X2h q.Sources q.Join).bind fun v10=>bif (v10 != (0:Int)) then (some v10) else (bif (bif q.Join then (q.Window.Kind != (1:Int)) else false) then (some 8) else ((X18 q.Window).bind fun v14=>some v14)))=some (if X6n q.Sources q.Join≠0 then X6n q.Sources q.Join
 else if q.Join=true/\q.Window.Kind≠1 then 8
 else if okW q.Window then 0 else 8):=by
 rw[Xe1,Yo,(Xxh q.Window hq.ev).2]
 by_cases h:X6n q.Sources q.Join=0
 ·rw[h]
  by_cases hj:q.Join=true
  ·by_cases hk:q.Window.Kind=1
   ·simp[hj,hk]
   ·simp[hj,hk,Xqj hk]
  ·simp[hj]
 ·simp[h,Xqj h]
theorem Xg0 {q:X06} (hq:QW q):X6z q=some (Xqx q):=by
 unfold X6z Xqx
 rw[Xxu hq,X9w hq.arg,X9w hq.wher]
 generalize (if X6n q.Sources q.Join≠0 then X6n q.Sources q.Join else if q.Join=true/\q.Window.Kind≠1 then 8 else if okW q.Window then 0 else 8)=T
 have e1:(bif (bif (decide (q.Agg<(1:Int))) then true else (decide (q.Agg>(4:Int)))) then true else (bif (q.Late != (1:Int)) then (q.Late != (2:Int)) else false))=decide (q.Agg<1\/q.Agg>4\/(q.Late≠1/\q.Late≠2)):=by
  rw[Bool.eq_iff_iff]
  by_cases h1:q.Agg<1<;>by_cases h2:q.Agg>4<;>by_cases h3:q.Late=1<;>by_cases h4:q.Late=2<;>simp[h1,h2,h3,h4]
 rw[e1]
 by_cases hA:(q.Agg<1\/q.Agg>4\/(q.Late≠1/\q.Late≠2))
 ·rw[if_pos hA,Yt hA];rfl
 ·rw[if_neg hA,Yf hA,cond_false]
  by_cases h1:q.Agg=1
  ·rw[show(q.Agg != 1)=false by simp[h1],cond_false]
   by_cases hl:0<q.Arg.length
   ·rw[Yt (show(q.Arg.length:Int)>0 by omega),if_pos ⟨h1,hl⟩];rfl
   ·rw[Yf (show ¬ (q.Arg.length:Int)>0 by omega),if_neg (fun h=>hl h.2),if_neg (fun h=>h.1 h1),cond_false]
    by_cases hw:0<q.Where.length
    ·rw[Yt (show(q.Where.length:Int)>0 by omega),cond_true,Yo]
     by_cases hz:Xbd q.Where=0
     ·rw[hz];simp
     ·rw[if_pos ⟨hw,hz⟩,show(Xbd q.Where != 0)=true by simp[hz]];rfl
    ·rw[Yf (show ¬ (q.Where.length:Int)>0 by omega),if_neg (fun h=>hw h.1)];rfl
  ·rw[show(q.Agg != 1)=true by simp[h1],cond_true,if_neg (fun h=>h1 h.1),Yo]
   by_cases hn:Xbd q.Arg=0
   ·rw[hn,if_neg (fun h=>h.2 rfl),show((0:Int) != 0)=false from rfl,cond_false]
    by_cases hw:0<q.Where.length
    ·rw[Yt (show(q.Where.length:Int)>0 by omega),cond_true,Yo]
     by_cases hz:Xbd q.Where=0
     ·rw[hz];simp
     ·rw[if_pos ⟨hw,hz⟩,show(Xbd q.Where != 0)=true by simp[hz]];rfl
    ·rw[Yf (show ¬ (q.Where.length:Int)>0 by omega),if_neg (fun h=>hw h.1)];rfl
   ·rw[if_pos ⟨h1,hn⟩,show(Xbd q.Arg != 0)=true by simp[hn]];rfl
theorem Xia {q:X06} (hq:QW q):X8z q=some (Xqx q):=by
 unfold X8z Xqx
 rw[X9v,X9v,Xft,(Xxh q.Window hq.ev).1]
 have e1:(bif (bif (bif (decide (q.Agg<(1:Int))) then true else (decide (q.Agg>(4:Int)))) then true else (decide (q.Late<(1:Int)))) then true else (decide (q.Late>(2:Int))))=decide (q.Agg<1\/q.Agg>4\/(q.Late≠1/\q.Late≠2)):=by
  rw[Bool.eq_iff_iff]
  have g:(q.Late≠1/\q.Late≠2)↔(q.Late<1\/q.Late>2):=by omega
  rw[show decide (q.Agg<1\/q.Agg>4\/(q.Late≠1/\q.Late≠2))=decide (q.Agg<1\/q.Agg>4\/(q.Late<1\/q.Late>2)) from decide_eq_decide.2 (by rw[g])]
  by_cases h1:q.Agg<1<;>by_cases h2:q.Agg>4<;>by_cases h3:q.Late<1<;>by_cases h4:q.Late>2<;>simp[h1,h2,h3,h4]
 rw[e1]
 have tl:((some (X6n q.Sources q.Join)).bind fun v29=>bif (v29 != (0:Int)) then (some v29) else ((some (decide (okW q.Window))).bind fun v32=>bif (bif (!v32) then true else (bif q.Join then (q.Window.Kind != (1:Int)) else false)) then (some 8) else (some 0)))=some (if X6n q.Sources q.Join≠0 then X6n q.Sources q.Join
 else if q.Join=true/\q.Window.Kind≠1 then 8
 else if okW q.Window then 0 else 8):=by
  simp only[Yo]
  by_cases h:X6n q.Sources q.Join=0
  ·rw[h]
   by_cases hk:q.Window.Kind=1
   ·by_cases hj:q.Join=true<;>by_cases ho:okW q.Window<;>simp[hj,hk,ho]
   ·by_cases hj:q.Join=true<;>by_cases ho:okW q.Window<;>simp[hj,hk,ho,Xqj hk]
  ·simp[h,Xqj h]
 rw[tl]
 generalize (if X6n q.Sources q.Join≠0 then X6n q.Sources q.Join else if q.Join=true/\q.Window.Kind≠1 then 8 else if okW q.Window then 0 else 8)=T
 by_cases hA:(q.Agg<1\/q.Agg>4\/(q.Late≠1/\q.Late≠2))
 ·rw[if_pos hA,Yt hA];rfl
 ·rw[if_neg hA,Yf hA,cond_false]
  have wh:((bif (decide ((List.length q.Where:Int)>(0:Int))) then ((some (Xbd q.Where)).bind fun v23=>some (bif (decide ((List.length q.Where:Int)>(0:Int))) then (v23 != (0:Int)) else false)) else (some (bif (decide ((List.length q.Where:Int)>(0:Int))) then false else false)):Option (Bool)).bind fun Xlj=>bif Xlj then ((some (Xbd q.Where)).bind fun v27=>some v27) else some T)=some (if 0<q.Where.length/\Xbd q.Where≠0 then Xbd q.Where else T):=by
   by_cases hw:0<q.Where.length
   ·rw[Yt (show(q.Where.length:Int)>0 by omega)]
    by_cases hz:Xbd q.Where=0
    ·rw[hz];simp
    ·rw[if_pos ⟨hw,hz⟩];simp[hz,Xqj hz]
   ·rw[Yf (show ¬ (q.Where.length:Int)>0 by omega),if_neg (fun h=>hw h.1)];rfl
  rw[wh]
  generalize (if 0<q.Where.length/\Xbd q.Where≠0 then Xbd q.Where else T)=T2
  by_cases h1:q.Agg=1
  ·rw[show(q.Agg==1)=true by simp[h1],show(q.Agg != 1)=false by simp[h1]]
   by_cases hl:0<q.Arg.length
   ·rw[Yt (show(q.Arg.length:Int)>0 by omega),if_pos ⟨h1,hl⟩];rfl
   ·rw[Yf (show ¬ (q.Arg.length:Int)>0 by omega),if_neg (fun h=>hl h.2),if_neg (fun h=>h.1 h1)];rfl
  ·rw[show(q.Agg==1)=false by simp[h1],show(q.Agg != 1)=true by simp[h1],if_neg (fun h=>h1 h.1)]
   by_cases hn:Xbd q.Arg=0
   ·rw[hn,if_neg (fun h=>h.2 rfl)];rfl
   ·rw[if_pos ⟨h1,hn⟩]
    simp[hn,Xqj hn]
def Xzu (l:List X07) (i:Int):Int:=match X3c l i with|some e=>e.At|none=>0
theorem Xju {l:List X07} {b:Bool} (h:0<l.length):∃ e,X3c l (X39 l b).1=some e/\Xzu l (X39 l b).1=e.At:=by
 have hr:0<=(X39 l b).1/\(X39 l b).1<l.length:=by
  have:(X39 l b).1=(kOf l).2.1:=by unfold X39;split<;>rfl
  rw[this]
  unfold kOf
  split
  ·simp only;omega
  ·split
   ·rename_i j hj
    have:=Xod l l 0 j hj
    simp only;omega
   ·simp only;omega
 obtain⟨e,he,_⟩:=Xlq hr.1 hr.2
 exact⟨e,he,by unfold Xzu;rw[he]⟩
def rt (q:X06):Int×Int :=
 if 0<q.Arg.length/\(X39 q.Arg false).2≠0 then (Xzu q.Arg (X39 q.Arg false).1,(X39 q.Arg false).2)
 else if 0<q.Where.length/\(X39 q.Where true).2≠0 then (Xzu q.Where (X39 q.Where true).1,(X39 q.Where true).2)
 else (0,0)
theorem Xoe (q:X06) (hw:0<q.Where.length):(bif ((X39 q.Where true).2 != (0:Int)) then ((X3c q.Where (X39 q.Where true).1).bind fun e28=>some (e28.At,(X39 q.Where true).2)) else (some (0,0)))=some (if 0<q.Where.length/\(X39 q.Where true).2≠0 then (Xzu q.Where (X39 q.Where true).1,(X39 q.Where true).2) else (0,0)):=by
 obtain⟨e,he,ha⟩:=Xju (b:=true) hw
 by_cases hz:(X39 q.Where true).2=0
 ·rw[if_neg (fun h=>h.2 hz),show((X39 q.Where true).2 != 0)=false by simp[hz]];rfl
 ·rw[if_pos ⟨hw,hz⟩,show((X39 q.Where true).2 != 0)=true by simp[hz],he,ha];rfl
theorem Xi8 (q:X06):X8x q=some (rt q):=by
 unfold X8x rt
 rw[Xdf,Xdf]
 simp only[Yo]
 have wh:(bif (decide ((List.length q.Where:Int)>(0:Int))) then (bif ((X39 q.Where true).2 != (0:Int)) then ((X3c q.Where (X39 q.Where true).1).bind fun e28=>some (e28.At,(X39 q.Where true).2)) else (some (0,0))) else (some (0,0)))=some (if 0<q.Where.length/\(X39 q.Where true).2≠0 then (Xzu q.Where (X39 q.Where true).1,(X39 q.Where true).2) else (0,0)):=by
  by_cases hw:0<q.Where.length
  ·rw[Yt (show(q.Where.length:Int)>0 by omega),cond_true,Xoe q hw]
  ·rw[Yf (show ¬ (q.Where.length:Int)>0 by omega),if_neg (fun h=>hw h.1)];rfl
 rw[wh]
 by_cases ha:0<q.Arg.length
 ·rw[Yt (show(q.Arg.length:Int)>0 by omega),cond_true]
  obtain⟨e,he,hat⟩:=Xju (b:=false) ha
  by_cases hz:(X39 q.Arg false).2=0
  ·rw[if_neg (show ¬ (0<q.Arg.length/\(X39 q.Arg false).2≠0) from fun h=>h.2 hz),show((X39 q.Arg false).2 != 0)=false by simp[hz],cond_false]
  ·rw[if_pos (show(0<q.Arg.length/\(X39 q.Arg false).2≠0) from⟨ha,hz⟩),show((X39 q.Arg false).2 != 0)=true by simp[hz],he,hat];rfl
 ·rw[Yf (show ¬ (q.Arg.length:Int)>0 by omega),if_neg (show ¬ (0<q.Arg.length/\(X39 q.Arg false).2≠0) from fun h=>ha h.1),cond_false]
def Xrr (q:X06):Int×Int:=if Xqx q≠0 then (0,Xqx q) else rt q
theorem Xi9 {q:X06} (hq:QW q):X8y q=some (Xrr q):=by
 unfold X8y Xrr
 rw[Xia hq,Xi8,Yo]
 by_cases h:Xqx q=0
 ·rw[if_neg (by omega),h];rfl
 ·rw[if_pos h,show(Xqx q != 0)=true by simp[h]];rfl
theorem Xho {q:X06} (hq:QW q):X7q q=some (Xrr q):=by
 unfold X7q Xrr
 rw[Xg0 hq,Yo]
 by_cases h:Xqx q=0
 ·rw[if_neg (by omega),h,show((0:Int) != 0)=false from rfl,cond_false]
  unfold X96 X9j
  rw[Xdo hq.arg,Xdo hq.wher]
  simp only[Yo]
  unfold rt
  have wh:(bif ((List.length q.Where:Int)==(0:Int)) then (some (0,0)) else (bif ((X39 q.Where true).2 != (0:Int)) then ((X3c q.Where (X39 q.Where true).1).bind fun e28=>some (e28.At,(X39 q.Where true).2)) else (some (0,0))))=some (if 0<q.Where.length/\(X39 q.Where true).2≠0 then (Xzu q.Where (X39 q.Where true).1,(X39 q.Where true).2) else (0,0)):=by
   by_cases hw:0<q.Where.length
   ·rw[lz hw,cond_false,Xoe q hw]
   ·rw[lz' hw,if_neg (fun h=>hw h.1)];rfl
  rw[wh]
  by_cases ha:0<q.Arg.length
  ·rw[lz ha,cond_false]
   obtain⟨e,he,hat⟩:=Xju (b:=false) ha
   by_cases hz:(X39 q.Arg false).2=0
   ·rw[if_neg (show ¬ (0<q.Arg.length/\(X39 q.Arg false).2≠0) from fun h=>h.2 hz),show((X39 q.Arg false).2 != 0)=false by simp[hz],cond_false];rfl
   ·rw[if_pos (show(0<q.Arg.length/\(X39 q.Arg false).2≠0) from⟨ha,hz⟩),show((X39 q.Arg false).2 != 0)=true by simp[hz],he,hat];rfl
  ·rw[lz' ha,if_neg (show ¬ (0<q.Arg.length/\(X39 q.Arg false).2≠0) from fun h=>ha h.1)];rfl
 ·rw[if_pos h,show(Xqx q != 0)=true by simp[h]];rfl
end Go.D


namespace Go.D
def X73 (p:Pu) (s:X05):X2:=⟨p.1.Key,s,⟨if p.2=0 then ofA p.1.Value else Xbf,if p.2=1 then ofA p.1.Value else Xbf⟩⟩
theorem X53 (L:List Pu) (p:Pu) (k:Int) (s:X05) (side:Int):vals (L++[p]) k s side=vals L k s side++(if p.1.Key=k/\inS s p.1.Time/\p.2=side then [p.1.Value] else []):=by
 unfold vals
 rw[List.filter_append,List.map_append]
 congr 1
 by_cases h:p.1.Key=k/\inS s p.1.Time/\p.2=side
 ·rw[if_pos h,List.filter_cons_of_pos (by simpa using h)];rfl
 ·rw[if_neg h,List.filter_cons_of_neg (by simpa using h)];rfl
theorem X89 (L:List Pu) (p:Pu) (k t:Int):X74 (L++[p]) k t↔X74 L k t\/(p.1.Key=k/\p.1.Time=t):=by
 unfold X74
 constructor
 ·rintro⟨q,hq,h⟩
  rcases List.mem_append.1 hq with h1|h1
  ·exact .inl ⟨q,h1,h⟩
  ·rw[List.mem_singleton.1 h1] at h;exact .inr h
 ·rintro(⟨q,hq,h⟩|h)
  ·exact⟨q,List.mem_append_left _ hq,h⟩
  ·exact⟨p,by simp,h⟩
structure Xqy (w:X0n) (L:List Pu):Prop where
 time:∀ p∈L,okT p.1.Time
 side:∀ p∈L,p.2=0\/p.2=1
 len:L.length<=240
theorem Xqy.init {w:X0n} {L:List Pu} {p:Pu} (h:Xqy w (L++[p])):Xqy w L:=⟨fun q hq=>h.time q (List.mem_append_left _ hq),fun q hq=>h.side q (List.mem_append_left _ hq),by have:=h.len;simp at this;omega⟩
theorem Xkx {L:List Pu} {k:Int} {s:X05} (h:∀ t,X74 L k t->¬ inS s t) (side:Int):vals L k s side=[]:=by
 unfold vals
 rw[List.map_eq_nil_iff,List.filter_eq_nil_iff]
 intro p hp hc
 simp only[decide_eq_true_eq] at hc
 exact h p.1.Time ⟨p,hp,hc.1,rfl⟩ hc.2.1
theorem Xr7 {L:List Pu} {k t:Int} {s:X05} (hs:∀ p∈L,p.2=0\/p.2=1) (h:X74 L k t) (hi:inS s t):0<(vals L k s 0).length+(vals L k s 1).length:=by
 obtain⟨p,hp,hk,ht⟩:=h
 rcases hs p hp with h0|h0
 ·have:p.1.Value∈vals L k s 0:=List.mem_map.2 ⟨p,List.mem_filter.2 ⟨hp,by simp[hk,h0,ht,hi]⟩,rfl⟩
  have:=List.length_pos_of_mem this;omega
 ·have:p.1.Value∈vals L k s 1:=List.mem_map.2 ⟨p,List.mem_filter.2 ⟨hp,by simp[hk,h0,ht,hi]⟩,rfl⟩
  have:=List.length_pos_of_mem this;omega
structure Mid (w:X0n) (L:List Pu) (p:Pu) (done:X05->Prop) (es:List X2):Prop where
 sorted:es.Pairwise ltE
 mem:∀ e,e∈es↔(e.Key=p.1.Key/\done e.Span/\e.Values=Xcu (L++[p]) e.Key e.Span)\/(¬ (e.Key=p.1.Key/\done e.Span)/\Xo1 w L e)
theorem Xt3 {L:List Pu} {p:Pu} {s:X05} (h:∀ t,X74 L p.1.Key t->¬ inS s t) (hi:inS s p.1.Time):Xcu (L++[p]) p.1.Key s=(X73 p s).Values:=by
 unfold Xcu X73
 rw[X53,X53,Xkx h,Xkx h]
 simp only[List.nil_append]
 congr 1
 ·by_cases h0:p.2=0
  ·rw[if_pos ⟨trivial,hi,h0⟩,if_pos h0,Xcj]
  ·rw[if_neg (fun hc=>h0 hc.2.2),if_neg h0,Xkk]
 ·by_cases h0:p.2=1
  ·rw[if_pos ⟨trivial,hi,h0⟩,if_pos h0,Xcj]
  ·rw[if_neg (fun hc=>h0 hc.2.2),if_neg h0,Xkk]
theorem Xqd {L:List Pu} {p:Pu} {s:X05} (hl:L.length<=1000000) (hi:inS s p.1.Time) :
  Xcu (L++[p]) p.1.Key s=⟨X3v (Xcu L p.1.Key s).e0 (X73 p s).Values.e0,X3v (Xcu L p.1.Key s).e1 (X73 p s).Values.e1⟩:=by
 have ok:∀ side,okA (Xck (vals L p.1.Key s side)):=fun side=>Xhq (Nat.le_trans (Xd6 ..) (by omega))
 unfold Xcu X73
 rw[X53,X53]
 dsimp only
 congr 1
 ·by_cases h0:p.2=0
  ·rw[if_pos ⟨rfl,hi,h0⟩,if_pos h0,Xc4]
  ·rw[if_neg (fun hc=>h0 hc.2.2),if_neg h0,List.append_nil,Xg8 (ok 0)]
 ·by_cases h0:p.2=1
  ·rw[if_pos ⟨rfl,hi,h0⟩,if_pos h0,Xc4]
  ·rw[if_neg (fun hc=>h0 hc.2.2),if_neg h0,List.append_nil,Xg8 (ok 1)]
theorem Mid.step {w:X0n} {L:List Pu} {p:Pu} {done:X05->Prop} {es:List X2} {s:X05} (hk:w.Kind≠3) (hl:L.length<=1000000) (m:Mid w L p done es) (hs:¬ done s) (hi:Xlm w.Size (Xct w) p.1.Time s) :
  Mid w L p (fun x=>done x\/x=s) (Xjs es (X73 p s)):=by
 have hin:inS s p.1.Time:=hi.2.2
 have hkey:∀ e:X2,X4w e (X73 p s)↔e.Key=p.1.Key/\e.Span=s:=fun e=>Iff.rfl
 refine⟨Xgy m.sorted,fun e=>?_⟩
 rw[Xjq m.sorted]
 by_cases he:X4w e (X73 p s)
 ·have he2:=(hkey e).1 he
  have hno:∀ y∈es,X4w y (X73 p s)->y=⟨p.1.Key,s,Xcu L p.1.Key s⟩/\Xd5 w (X74 L p.1.Key) s:=by
   intro y hy hsy
   have hy2:=(hkey y).1 hsy
   rcases(m.mem y).1 hy with ⟨_,h2,_⟩|⟨_,h2,h3⟩
   ·exact absurd (hy2.2▸h2) hs
   ·rw[hy2.1,hy2.2] at h3 h2
    refine⟨?_,h2⟩
    cases y;simp only at hy2 h3;rw[hy2.1,hy2.2,h3]
  have hval:e.Values=Xcu (L++[p]) e.Key e.Span↔((e∈es/\¬ X4w e (X73 p s))\/(∃ y∈es,X4w y (X73 p s)/\e=Xj6 y (X73 p s))\/((∀ y∈es,¬ X4w y (X73 p s))/\e=X73 p s)):=by
   rw[he2.1,he2.2]
   by_cases hex:∃ y∈es,X4w y (X73 p s)
   ·obtain⟨y,hy,hsy⟩:=hex
    obtain⟨hyv,hyw⟩:=hno y hy hsy
    have hmg:Xj6 y (X73 p s)=⟨p.1.Key,s,Xcu (L++[p]) p.1.Key s⟩:=by rw[Xqd hl hin,hyv];rfl
    constructor
    ·intro hv
     refine .inr (.inl ⟨y,hy,hsy,?_⟩)
     rw[hmg];cases e;simp only at he2 hv;rw[he2.1,he2.2,hv]
    ·rintro(⟨_,h⟩|⟨y',hy',hsy',h⟩|⟨h,_⟩)
     ·exact absurd he h
     ·have:y'=y:=by rw[(hno y' hy' hsy').1,hyv]
      rw[h,this,hmg]
     ·exact absurd hsy (h y hy)
   ·have hex':∀ y∈es,¬ X4w y (X73 p s):=fun y hy h=>hex ⟨y,hy,h⟩
    have hnone:∀ t,X74 L p.1.Key t->¬ inS s t:=by
     intro t ht hst
     have:(⟨p.1.Key,s,Xcu L p.1.Key s⟩:X2)∈es:=by
      rw[m.mem]
      refine .inr ⟨fun h=>hs h.2,?_,rfl⟩
      show Xd5 w (X74 L p.1.Key) s
      unfold Xd5
      rw[if_neg hk]
      exact⟨t,ht,hi.1,hi.2.1,hst⟩
     exact hex' _ this ⟨rfl,rfl⟩
    have hvv:=Xt3 hnone hin
    constructor
    ·intro hv
     refine .inr (.inr ⟨hex',?_⟩)
     cases e;simp only at he2 hv;rw[he2.1,he2.2,hv,hvv];rfl
    ·rintro(⟨_,h⟩|⟨y',hy',hsy',_⟩|⟨_,h⟩)
     ·exact absurd he h
     ·exact absurd hsy' (hex' y' hy')
     ·rw[h,hvv]
  rw[<-hval]
  constructor
  ·intro h;exact .inl ⟨he2.1,.inr he2.2,h⟩
  ·rintro(⟨_,_,h⟩|⟨h,_⟩)
   ·exact h
   ·exact absurd ⟨he2.1,.inr he2.2⟩ h
 ·have hne:¬ (e.Key=p.1.Key/\e.Span=s):=fun h=>he ((hkey e).2 h)
  constructor
  ·rintro(⟨h1,_⟩|⟨y,hy,hsy,h⟩|⟨_,h⟩)
   ·rcases(m.mem e).1 h1 with ⟨a1,a2,a3⟩|⟨a1,a2⟩
    ·exact .inl ⟨a1,.inl a2,a3⟩
    ·exact .inr ⟨fun h=>a1 ⟨h.1,h.2.resolve_right fun hh=>hne ⟨h.1,hh⟩⟩,a2⟩
   ·exact absurd (by rw[h];exact⟨hsy.1,hsy.2⟩) he
   ·exact absurd (by rw[h];exact⟨rfl,rfl⟩) he
  ·rintro(⟨a1,a2,a3⟩|⟨a1,a2⟩)
   ·exact .inl ⟨(m.mem e).2 (.inl ⟨a1,a2.resolve_right fun hh=>hne ⟨a1,hh⟩,a3⟩),he⟩
   ·exact .inl ⟨(m.mem e).2 (.inr ⟨fun h=>a1 ⟨h.1,.inl h.2⟩,a2⟩),he⟩
theorem Mid.start {w:X0n} {L:List Pu} {p:Pu} {es:List X2} (c:X7r w L es):Mid w L p (fun _=>False) es:=by
 refine⟨c.sorted,fun e=>?_⟩
 rw[c.mem];simp
theorem Mid.end {w:X0n} {L:List Pu} {p:Pu} {es:List X2} {done:X05->Prop} (hk:w.Kind≠3) (hd:∀ s,done s↔Xlm w.Size (Xct w) p.1.Time s) (m:Mid w L p done es):X7r w (L++[p]) es:=by
 refine⟨m.sorted,fun e=>?_,fun h3=>absurd h3 hk⟩
 rw[m.mem]
 unfold Xo1 Xd5
 rw[if_neg hk,if_neg hk]
 by_cases he:e.Key=p.1.Key/\done e.Span
 ·constructor
  ·rintro(⟨_,_,h⟩|⟨h,_⟩)
   ·exact⟨⟨p.1.Time,(X89 ..).2 (.inr ⟨he.1.symm,rfl⟩),(hd _).1 he.2⟩,h⟩
   ·exact absurd he h
  ·rintro⟨_,h⟩;exact .inl ⟨he.1,he.2,h⟩
 ·have hv:Xcu (L++[p]) e.Key e.Span=Xcu L e.Key e.Span\/∀ t,X74 L e.Key t->¬ Xlm w.Size (Xct w) t e.Span:=by
   by_cases hkk:p.1.Key=e.Key/\inS e.Span p.1.Time
   ·right
    intro t _ hw
    exact he ⟨hkk.1.symm,(hd _).2 ⟨hw.1,hw.2.1,hkk.2⟩⟩
   ·left
    unfold Xcu
    rw[X53,X53,if_neg (fun h=>hkk ⟨h.1,h.2.1⟩),if_neg (fun h=>hkk ⟨h.1,h.2.1⟩),List.append_nil,List.append_nil]
  constructor
  ·rintro(⟨h1,h2,_⟩|⟨_,⟨t,ht,hw⟩,h⟩)
   ·exact absurd ⟨h1,h2⟩ he
   ·refine⟨⟨t,(X89 ..).2 (.inl ht),hw⟩,?_⟩
    rcases hv with hv|hv
    ·rw[hv];exact h
    ·exact absurd hw (hv t ht)
  ·rintro⟨⟨t,ht,hw⟩,h⟩
   refine .inr ⟨he,?_⟩
   rcases(X89 ..).1 ht with ht|⟨hkey,htt⟩
   ·refine⟨⟨t,ht,hw⟩,?_⟩
    rcases hv with hv|hv
    ·rw[<-hv];exact h
    ·exact absurd hw (hv t ht)
   ·exact absurd ⟨hkey.symm,(hd _).2 (htt▸hw)⟩ he
end Go.D


namespace Go.D
theorem Xkf {L:List Pu} (hl:L.length<=1000) (k:Int) (s:X05):okA (Xcu L k s).e0/\okA (Xcu L k s).e1/\(Xcu L k s).e0.Count<=1000/\(Xcu L k s).e1.Count<=1000:=by
 have h0:=Xd6 L k s 0
 have h1:=Xd6 L k s 1
 refine⟨Xhq (by omega),Xhq (by omega),?_,?_⟩
 ·show(Xck _).Count<=1000;rw[X3k];omega
 ·show(Xck _).Count<=1000;rw[X3k];omega
theorem Xzc (p:Pu) (s:X05):okA (X73 p s).Values.e0/\okA (X73 p s).Values.e1/\(X73 p s).Values.e0.Count<=1/\(X73 p s).Values.e1.Count<=1:=by
 unfold X73
 dsimp only
 refine⟨?_,?_,?_,?_⟩
 ·split
  ·exact Xle _
  ·exact Xjc
 ·split
  ·exact Xle _
  ·exact Xjc
 ·split
  ·exact Int.le_refl _
  ·show(0:Int)<=1;decide
 ·split
  ·exact Int.le_refl _
  ·show(0:Int)<=1;decide
theorem Mid.vals {w:X0n} {L:List Pu} {p:Pu} {done:X05->Prop} {es:List X2} (m:Mid w L p done es) (hl:L.length<=900) {e:X2} (he:e∈es):okA e.Values.e0/\okA e.Values.e1/\e.Values.e0.Count<=1000/\e.Values.e1.Count<=1000:=by
 rcases(m.mem e).1 he with ⟨_,_,h⟩|⟨_,_,h⟩
 ·rw[h];exact Xkf (by simp;omega) _ _
 ·rw[h];exact Xkf (by omega) _ _
theorem X01q {w:X0n} {L:List Pu} {p:Pu} (hk:w.Kind≠3) (hl:L.length<=900) (Y:List X05):∀ (xs:List X05) (k:Nat) (x0:X2) (l:List X2) (done:X05->Prop),Mid w L p done l->xs.Nodup->(∀ s∈xs,¬ done s/\Xlm w.Size (Xct w) p.1.Time s) ->
  x0.Key=p.1.Key->(∀ s,x0.Values=(X73 p s).Values)->l.length+xs.length<=9000->∃ l',X4e Y xs k x0 l=some (.x0 l')/\Mid w L p (fun s=>done s\/s∈xs) l'/\l'.length<=l.length+xs.length:=by
 intro xs
 induction xs with
 |nil=>intro k x0 l done m _ _ _ _ _;exact⟨l,rfl,by simpa using m,by simp⟩
 |cons s xs ih =>
  intro k x0 l done m hnd hs hk0 hv0 hlen
  rw[List.nodup_cons] at hnd
  have hs0:=hs s List.mem_cons_self
  have hx:(⟨x0.Key,s,x0.Values⟩:X2)=X73 p s:=by rw[hk0,hv0 s];rfl
  have er:=Xzc p s
  have m2:=m.step hk (by omega) hs0.1 hs0.2
  simp only[List.length_cons] at hlen
  obtain⟨l',h1,h2,h3⟩:=ih (k+1) (X73 p s) (Xjs l (X73 p s)) _ m2 hnd.2 (fun x hxx=>⟨fun h=>h.elim (hs x (List.mem_cons_of_mem _ hxx)).1 (fun e=>hnd.1 (e▸hxx)),(hs x (List.mem_cons_of_mem _ hxx)).2⟩) rfl (fun _=>rfl) (by have:=Xjr l (X73 p s);omega)
  refine⟨l',?_,⟨h2.sorted,fun e=>?_⟩,by have:=Xjr l (X73 p s);simp only[List.length_cons];omega⟩
  ·rw[X4e]
   have key:∀ o,X4e Y xs (k+1) (X73 p s) (Xjs l (X73 p s))=some o->((Xi l (X2.mk x0.Key s x0.Values)).bind fun v1891=>bif (!v1891.2) then (bif (v1891.1==(List.length l:Int)) then (((X76 l v1891.1 (List.length l:Int)).bind fun m1903=>bif (List.isEmpty m1903) then ((X1w (List.length (l++[(X2.mk x0.Key s x0.Values)])) 88).bind fun u1906=>some ()) else ((X1w (List.length (l++[(X2.mk x0.Key s x0.Values)])) 88).bind fun u1908=>some ()):Option (Unit)).bind fun _=>some ((X2.mk ((X2.mk x0.Key s x0.Values).Key) ((X2.mk x0.Key s x0.Values).Span) (V2.mk (((X2.mk x0.Key s x0.Values).Values).e0) (((X2.mk x0.Key s x0.Values).Values).e1))),(l++[(X2.mk x0.Key s x0.Values)]),0)) else ((Xq3 l v1891.1 (X2.mk x0.Key s x0.Values) 88).bind fun m1911=>some ((X2.mk x0.Key s x0.Values),m1911,0))) else ((X3c l v1891.1).bind fun e1913=>((X2i e1913.Values.e0 x0.Values.e0).bind fun v1928=>bif (v1928.2 != (0:Int)) then (some (l,v1928.2)) else ((X2i (((X2.mk e1913.Key e1913.Span (V2.mk v1928.1 e1913.Values.e1)).Values).e1) x0.Values.e1).bind fun v1933=>bif (v1933.2 != (0:Int)) then (some ((List.set l (Int.toNat v1891.1) (X2.mk e1913.Key e1913.Span (V2.mk v1928.1 e1913.Values.e1))),v1933.2)) else (some ((List.set (List.set l (Int.toNat v1891.1) (X2.mk e1913.Key e1913.Span (V2.mk v1928.1 e1913.Values.e1))) (Int.toNat v1891.1) (X2.mk ((X2.mk e1913.Key e1913.Span (V2.mk v1928.1 e1913.Values.e1)).Key) ((X2.mk e1913.Key e1913.Span (V2.mk v1928.1 e1913.Values.e1)).Span) (V2.mk (((X2.mk e1913.Key e1913.Span (V2.mk v1928.1 e1913.Values.e1)).Values).e0) v1933.1))),0))):Option ((List X2)×Int)).bind fun w1925=>some ((X2.mk ((X2.mk x0.Key s x0.Values).Key) ((X2.mk x0.Key s x0.Values).Span) (V2.mk (((X2.mk x0.Key s x0.Values).Values).e0) (((X2.mk x0.Key s x0.Values).Values).e1))),w1925.1,w1925.2)):Option (X2×(List X2)×Int))=some (X73 p s,Xjs l (X73 p s),0):=by
    intro o _
    rw[X01n m.sorted (by omega),Xrs m.sorted]
    have hle:=Xte l (X73 p s)
    have hval:x0.Values=(X73 p s).Values:=hv0 s
    rw[hx,hval]
    cases h:l[cnt l (X73 p s)]? with
    |none =>
     have hc:cnt l (X73 p s)=l.length:=by have:=List.getElem?_eq_none_iff.1 h;omega
     have hsl:X76 l (l.length:Int) (l.length:Int)=some []:=by simp[X76]
     simp only[Yo,Bool.not_false,cond_true,hc,beq_self_eq_true,hsl]
     rw[X2n (by simp;omega)]
     rfl
    |some y =>
     have hlt:cnt l (X73 p s)<l.length:=(Ys.1 h).1
     simp only[Yo]
     by_cases hkk:X4w y (X73 p s)
     ·obtain⟨a1,a2,a3,a4⟩:=m.vals hl (Yg h)
      simp only[hkk,decide_true,Bool.not_true,cond_false,X4f,h,Yo,X44 a1 er.1 (by omega),X44 a2 er.2.1 (by omega),bne_self_eq_false,if_true,Int.toNat_natCast,List.set_set]
      rfl
     ·have hne:((cnt l (X73 p s):Int)==(l.length:Int))=false:=by simp;omega
      have hi:Xq3 l (cnt l (X73 p s):Int) (X73 p s) 88=some (l.take (cnt l (X73 p s))++X73 p s::l.drop (cnt l (X73 p s))):=by
       unfold Xq3;rw[if_pos ⟨by omega,by simpa using hlt,by omega⟩];simp
      simp only[hkk,decide_false,Bool.not_false,cond_true,hne,cond_false,hi,Yo,if_false]
   rw[key _ h1,Yo]
   simp only[bne_self_eq_false,cond_false]
   exact h1
  ·rw[h2.mem]
   simp only[List.mem_cons,or_assoc]
theorem Xe2 {w:X0n} {L:List Pu} {es:List X2} (hw:okW w) (hL:Xqy w L) (c:X7r w L es):∀ e∈es,okE e:=by
 intro e he
 obtain⟨h1,h2⟩:=(c.mem e).1 he
 have hlen:=hL.len
 obtain⟨v1,v2,v3,v4⟩:=Xkf (L:=L) (by omega) e.Key e.Span
 rw[<-h2] at v1 v2 v3 v4
 have hpos:∀ t,X74 L e.Key t->inS e.Span t->0<e.Values.e0.Count+e.Values.e1.Count:=by
  intro t ht hi
  have:=Xr7 hL.side ht hi
  rw[h2]
  show 0<(Xck _).Count+(Xck _).Count
  rw[X3k,X3k];omega
 have htime:∀ t,X74 L e.Key t->okT t:=by
  rintro t ⟨p,hp,_,rfl⟩;exact hL.time p hp
 obtain⟨w1,w2,w3⟩:=hw
 unfold Xd5 at h1
 by_cases hk:w.Kind=3
 ·rw[if_pos hk] at h1
  obtain⟨s1,s2,s3,s4⟩:=h1
  obtain⟨t,ht,a1,a2⟩:=s2 (2*e.Span.Start+1) (by omega) (by omega)
  have hts:t=e.Span.Start:=by
   have:¬ (2*t<2*e.Span.Start):=fun h=>s3 ⟨t,ht,h,by omega⟩
   omega
  obtain⟨t',ht',b1,b2⟩:=s2 (2*e.Span.End - 1) (by omega) (by omega)
  have hte:t'+w.Size=e.Span.End:=by
   have:¬ (2*e.Span.End<2*(t'+w.Size)):=fun h=>s4 ⟨t',ht',by omega,h⟩
   omega
  have q1:=htime t ht
  have q2:=htime t' ht'
  unfold okT at q1 q2
  exact⟨by omega,s1,by omega,v1,v2,hpos t ht ⟨by omega,by omega⟩⟩
 ·rw[if_neg hk] at h1
  obtain⟨t,ht,a1,a2,a3,a4⟩:=h1
  have q1:=htime t ht
  unfold okT at q1
  exact⟨by omega,by omega,by omega,v1,v2,hpos t ht ⟨a3,a4⟩⟩
theorem Xgo {w:X0n} {L:List Pu} {p:Pu} {es:List X2} (hw:okW w) (hk:w.Kind≠3) (hL:Xqy w (L++[p])) (c:X7r w L es) (hn:es.length<=3900) :
  ∃ es',X54 es w p.1 p.2=some (es',0)/\X7r w (L++[p]) es'/\es'.length<=es.length+16:=by
 have ht:=hL.time p (by simp)
 have hsd:=hL.side p (by simp)
 have hll:=hL.init.len
 obtain⟨W,hW,hWl,hWn,hWm⟩:=Xgp hw hk ht
 obtain⟨l',h1,h2,h3⟩:=X01q (w:=w) (L:=L) (p:=p) hk (by omega) W W 0 (X73 p ⟨0,0⟩) es _ (Mid.start c) hWn (fun s hs=>⟨fun h=>h,(hWm s).1 hs⟩) rfl (fun _=>rfl) (by omega)
 refine⟨l',?_,Mid.end hk (fun s=>by simpa using hWm s) h2,by omega⟩
 unfold X54
 have e1:(bif (p.2 != 0) then (p.2 != 1) else false)=false:=by rcases hsd with h|h<;>simp[h]
 have e2:(bif (decide (p.1.Time<((-1099511627776):Int))) then true else (decide (p.1.Time>(1099511627776:Int))))=false:=by
  unfold okT at ht
  have a:decide (p.1.Time<((-1099511627776):Int))=false:=by simp;omega
  have b:decide (p.1.Time>(1099511627776:Int))=false:=by simp;omega
  rw[a,b];rfl
 have e3:((X99 p.1.Value).bind fun v14=>bif (p.2==(0:Int)) then (some (X2.mk p.1.Key (X05.mk 0 0) (V2.mk v14 (X15.mk 0 0 0 0)))) else (bif (p.2==(1:Int)) then (some (X2.mk p.1.Key (X05.mk 0 0) (V2.mk (X15.mk 0 0 0 0) v14))) else none):Option (X2))=some (X73 p ⟨0,0⟩):=by
  simp only[X99,Yo]
  rcases hsd with h|h
  ·simp[h,X73,ofA,Xbf]
  ·simp[h,X73,ofA,Xbf]
 have e4:(bif (List.isEmpty es) then (some es) else ((X1w (List.length es) 88).bind fun u28=>some es):Option ((List X2)))=some es:=by
  rw[X2n (by omega)]
  cases List.isEmpty es<;>rfl
 have e5:(w.Kind==3)=false:=by simp[hk]
 rw[X9t c.sorted (Xe2 hw hL.init c) (by omega),Yo]
 simp only[bne_self_eq_false,cond_false,X4d hw,Yo,e1,e2]
 rw[e3,Yo,e4,Yo]
 simp only[e5,cond_false,hW,Yo,bne_self_eq_false]
 rw[X36 (by omega),Yo,h1,Yo]
 have e6:decide ((l'.length:Int)>4000)=false:=by simp;omega
 simp only[e6,cond_false]
end Go.D


namespace Go.D
theorem Xom {size:Int} {T:Int->Prop} {a b:X05} (ha:Xgu size T a) (hb:Xgu size T b) (h1:a.Start<b.End) (h2:b.Start<a.End):a=b:=by
 obtain⟨a1,a2,a3,a4⟩:=ha
 obtain⟨b1,b2,b3,b4⟩:=hb
 apply Xg4
 ·rcases Xxa a.Start b.Start with h|h
  ·exact absurd (a2 (2*b.Start) (by omega) (by omega)) b3
  ·rcases Xxa b.Start a.Start with h'|h'
   ·exact absurd (b2 (2*a.Start) (by omega) (by omega)) a3
   ·omega
 ·rcases Xxa a.End b.End with h|h
  ·exact absurd (b2 (2*a.End) (by omega) (by omega)) a4
  ·rcases Xxa b.End a.End with h'|h'
   ·exact absurd (a2 (2*b.End) (by omega) (by omega)) b4
   ·omega
theorem Xgb {size:Int} {T T':Int->Prop} (h:∀ t,T t->T' t) {x:Int} (c:cov size T x):cov size T' x:=by
 obtain⟨t,h1,h2⟩:=c;exact⟨t,h t h1,h2⟩
def X8j (L:List Pu) (k:Int) (M:List X2) (side:Int):List Int:=(L.filter fun q=>decide (q.1.Key=k/\(∃ m∈M,inS m.Span q.1.Time)/\q.2=side)).map fun q=>q.1.Value
def pv (p:Pu) (side:Int):List Int:=if p.2=side then [p.1.Value] else []
theorem Xt0 {α:Type} (a b:α->Bool):∀ (l:List α),(∀ q∈l,¬ (a q=true/\b q=true))->(l.filter fun q=>a q||b q).Perm (l.filter a++l.filter b):=by
 intro l
 induction l with
 |nil=>intro _;simp
 |cons x l ih =>
  intro h
  have ih':=ih fun q hq=>h q (List.mem_cons_of_mem _ hq)
  have hx:=h x List.mem_cons_self
  cases ha:a x with
  |true =>
   have hb:b x=false:=by cases hb:b x with|true=>exact absurd ⟨ha,hb⟩ hx|false=>rfl
   rw[List.filter_cons_of_pos (by simp[ha]),List.filter_cons_of_pos ha,List.filter_cons_of_neg (by simp[hb])]
   exact ih'.cons x
  |false =>
   cases hb:b x with
   |true =>
    rw[List.filter_cons_of_pos (by simp[hb]),List.filter_cons_of_neg (by simp[ha]),List.filter_cons_of_pos hb]
    exact(ih'.cons x).trans List.perm_middle.symm
   |false =>
    rw[List.filter_cons_of_neg (by simp[ha,hb]),List.filter_cons_of_neg (by simp[ha]),List.filter_cons_of_neg (by simp[hb])]
    exact ih'
theorem Xme {L:List Pu} {k:Int} {M:List X2} {y:X2} {side:Int} (h:∀ q∈L,q.1.Key=k->inS y.Span q.1.Time->¬ ∃ m∈M,inS m.Span q.1.Time) :
  (X8j L k (y::M) side).Perm (X8j L k M side++vals L k y.Span side):=by
 unfold X8j vals
 rw[<-List.map_append]
 refine List.Perm.map _ ?_
 have h1:=Xt0 (fun q:Pu=>decide (q.1.Key=k/\(∃ m∈M,inS m.Span q.1.Time)/\q.2=side)) (fun q=>decide (q.1.Key=k/\inS y.Span q.1.Time/\q.2=side)) L (fun q hq hc=>by
  simp only[decide_eq_true_eq] at hc
  exact h q hq hc.1.1 hc.2.2.1 hc.1.2.1)
 refine List.Perm.trans (List.Perm.of_eq ?_) h1
 refine List.filter_congr fun q _=>?_
 rw[Bool.eq_iff_iff]
 simp only[decide_eq_true_eq,Bool.or_eq_true,List.mem_cons]
 constructor
 ·rintro⟨a1,⟨m,hm|hm,hi⟩,a2⟩
  ·exact .inr ⟨a1,by rw[<-hm];exact hi,a2⟩
  ·exact .inl ⟨a1,⟨m,hm,hi⟩,a2⟩
 ·rintro(⟨a1,⟨m,hm,hi⟩,a2⟩|⟨a1,hi,a2⟩)
  ·exact⟨a1,⟨m,.inr hm,hi⟩,a2⟩
  ·exact⟨a1,⟨y,.inl rfl,hi⟩,a2⟩
theorem Xa3 (L:List Pu) (k:Int) (M:List X2) (side:Int):(X8j L k M side).length<=L.length:=by unfold X8j;rw[List.length_map];exact List.length_filter_le _ _
theorem Xla (p:Pu) (side:Int):(pv p side).length<=1:=by unfold pv;split<;>simp
def Xyc (x y:X2):Prop:=y.Key=x.Key/\y.Span.Start<x.Span.End/\x.Span.Start<y.Span.End
instance (x y:X2):Decidable (Xyc x y):=by unfold Xyc;infer_instance
structure Ses (w:X0n) (L:List Pu) (p:Pu) (es l:List X2) (x:X2) (M:List X2):Prop where
 sub:l.Sublist es
 part:∀ e,e∈es↔e∈l\/e∈M
 apart:∀ e∈l,e ∉ M
 keyM:∀ m∈M,m.Key=p.1.Key
 key:x.Key=p.1.Key
 own:x.Span.Start<=p.1.Time/\p.1.Time+w.Size<=x.Span.End
 inner:∀ z,2*x.Span.Start<z->z<2*x.Span.End->cov w.Size (fun t=>X74 L p.1.Key t\/t=p.1.Time) z
 hull:∀ m∈M,x.Span.Start<=m.Span.Start/\m.Span.End<=x.Span.End
 val0:x.Values.e0=Xck (pv p 0++X8j L p.1.Key M 0)
 val1:x.Values.e1=Xck (pv p 1++X8j L p.1.Key M 1)
theorem Xtp (p:Pu) (s:X05):(X73 p s).Values.e0=Xck (pv p 0)/\(X73 p s).Values.e1=Xck (pv p 1):=by
 unfold X73 pv
 constructor
 ·dsimp only;split
  ·exact(Xcj _).symm
  ·rfl
 ·dsimp only;split
  ·exact(Xcj _).symm
  ·rfl
theorem Ses.start {w:X0n} {L:List Pu} {p:Pu} {es:List X2} (hw:1<=w.Size):Ses w L p es es (X73 p ⟨p.1.Time,p.1.Time+w.Size⟩) []:=by
 have hv:∀ side,X8j L p.1.Key [] side=[]:=fun side=>by unfold X8j;simp
 refine⟨.refl _,fun e=>by simp,fun e _=>by simp,fun m hm=>(by cases hm),rfl,⟨Int.le_refl _,Int.le_refl _⟩,fun z h1 h2=>?_,fun m hm=>(by cases hm),?_,?_⟩
 ·exact⟨p.1.Time,.inr rfl,h1,h2⟩
 ·rw[hv,List.append_nil];exact(Xtp p _).1
 ·rw[hv,List.append_nil];exact(Xtp p _).2
def Xln (x y:X2):X2:=⟨x.Key,⟨if y.Span.Start<x.Span.Start then y.Span.Start else x.Span.Start,if y.Span.End>x.Span.End then y.Span.End else x.Span.End⟩,⟨X3v x.Values.e0 y.Values.e0,X3v x.Values.e1 y.Values.e1⟩⟩
theorem Ses.step {w:X0n} {L:List Pu} {p:Pu} {es l:List X2} {x:X2} {M:List X2} (hk:w.Kind=3) (hl:L.length<=900) (c:X7r w L es) (s:Ses w L p es l x M) {i:Nat} {y:X2} (hi:l[i]?=some y) (ho:Xyc x y) :
  Ses w L p es (l.take i++l.drop (i+1)) (Xln x y) (y::M):=by
 have hyl:y∈l:=Yg hi
 have hye:y∈es:=(s.part y).2 (.inl hyl)
 have hyM:=s.apart y hyl
 have hky:y.Key=p.1.Key:=ho.1.trans s.key
 obtain⟨hyw,hyv⟩:=(c.mem y).1 hye
 unfold Xd5 at hyw
 rw[if_pos hk,hky] at hyw
 rw[hky] at hyv
 have hlt:i<l.length:=(Ys.1 hi).1
 have hsplit:l=l.take i++y::l.drop (i+1):=by
  have:l[i]=y:=(Ys.1 hi).2
  rw[<-this,<-List.drop_eq_getElem_cons hlt,List.take_append_drop]
 have hnd:l.Nodup:=s.sub.nodup (List.Pairwise.imp (R:=ltE) (S:=fun a b=>a≠b) (fun {a b} h (e:a=b)=>Xel b (by rw[e] at h;exact h)) c.sorted)
 have hyn:y ∉ l.take i++l.drop (i+1):=by
  rw[hsplit] at hnd
  exact(List.nodup_cons.1 (List.perm_middle.nodup_iff.1 hnd)).1
 have hmem:∀ e,e∈l↔e=y\/e∈l.take i++l.drop (i+1):=by
  intro e
  rw[hsplit]
  simp only[List.mem_append,List.mem_cons]
  rw[<-hsplit]
  constructor
  ·rintro(h|h|h)
   ·exact .inr (.inl h)
   ·exact .inl h
   ·exact .inr (.inr h)
  ·rintro(h|h|h)
   ·exact .inr (.inl h)
   ·exact .inl h
   ·exact .inr (.inr h)
 have hdis:∀ q∈L,q.1.Key=p.1.Key->inS y.Span q.1.Time->¬ ∃ m∈M,inS m.Span q.1.Time:=by
  rintro q hq _ hyq ⟨m,hm,hmq⟩
  have hme:m∈es:=(s.part m).2 (.inr hm)
  obtain⟨hmw,hmv⟩:=(c.mem m).1 hme
  unfold Xd5 at hmw
  rw[if_pos hk,s.keyM m hm] at hmw
  rw[s.keyM m hm] at hmv
  unfold inS at hyq hmq
  have hsp:y.Span=m.Span:=Xom hyw hmw (by omega) (by omega)
  have:y=m:=by cases y;cases m;simp only at hky hyv hsp hmv;simp only[X2.mk.injEq];exact⟨hky.trans (s.keyM _ hm).symm,hsp,by rw[hyv,hmv,hsp]⟩
  exact hyM (this▸hm)
 have hval:∀ side,(pv p side++X8j L p.1.Key M side).length<=1073741824:=fun side=>by
  have:=Xla p side;have:=Xa3 L p.1.Key M side;simp;omega
 have hperm:∀ side,Xck (pv p side++X8j L p.1.Key (y::M) side)=X3v (Xck (pv p side++X8j L p.1.Key M side)) (Xck (vals L p.1.Key y.Span side)):=fun side=>by
  have hp:=(Xme (L:=L) (k:=p.1.Key) (M:=M) (y:=y) (side:=side) hdis).append_left (pv p side)
  rw[Xe4 hp (by have:=Xla p side;have:=Xa3 L p.1.Key (y::M) side;simp;omega),<-List.append_assoc,X6c]
 obtain⟨_,o1,o2⟩:=ho
 refine⟨?_,fun e=>?_,fun e he hm=>?_,fun m hm=>?_,s.key,?_,fun z h1 h2=>?_,fun m hm=>?_,?_,?_⟩
 ·refine List.Sublist.trans ?_ s.sub
  conv=>rhs;rw[hsplit]
  exact List.Sublist.append_left (List.sublist_cons_self _ _) _
 ·rw[s.part,hmem,List.mem_cons]
  constructor
  ·rintro((h|h)|h)
   ·exact .inr (.inl h)
   ·exact .inl h
   ·exact .inr (.inr h)
  ·rintro(h|h|h)
   ·exact .inl (.inr h)
   ·exact .inl (.inl h)
   ·exact .inr h
 ·rcases List.mem_cons.1 hm with h|h
  ·exact hyn (h▸he)
  ·exact s.apart e ((hmem e).2 (.inr he)) h
 ·rcases List.mem_cons.1 hm with h|h
  ·rw[h];exact hky
  ·exact s.keyM m h
 ·have:=s.own
  unfold Xln
  constructor
  ·dsimp only;split<;>omega
  ·dsimp only;split<;>omega
 ·have hz:(2*x.Span.Start<z/\z<2*x.Span.End)\/(2*y.Span.Start<z/\z<2*y.Span.End):=by
   unfold Xln at h1 h2
   dsimp only at h1 h2
   split at h1<;>split at h2<;>omega
  rcases hz with ⟨g1,g2⟩|⟨g1,g2⟩
  ·exact s.inner z g1 g2
  ·exact Xgb (fun t h=>.inl h) (hyw.2.1 z g1 g2)
 ·have hx:(Xln x y).Span.Start<=x.Span.Start/\x.Span.End<=(Xln x y).Span.End/\(Xln x y).Span.Start<=y.Span.Start/\y.Span.End<=(Xln x y).Span.End:=by
   unfold Xln;dsimp only
   refine⟨?_,?_,?_,?_⟩<;>split<;>omega
  rcases List.mem_cons.1 hm with h|h
  ·rw[h];exact⟨hx.2.2.1,hx.2.2.2⟩
  ·have:=s.hull m h;omega
 ·show X3v x.Values.e0 y.Values.e0=_
  rw[hperm,s.val0,hyv];rfl
 ·show X3v x.Values.e1 y.Values.e1=_
  rw[hperm,s.val1,hyv];rfl
theorem Ses.end {w:X0n} {L:List Pu} {p:Pu} {es l:List X2} {x:X2} {M:List X2} (hk:w.Kind=3) (hw:1<=w.Size) (hl:L.length<=900) (c:X7r w L es) (s:Ses w L p es l x M) (hno:∀ y∈l,¬ Xyc x y):X7r w (L++[p]) (Xjs l x):=by
 have hsl:l.Pairwise ltE:=c.sorted.sublist s.sub
 have hxx:x.Span.Start<x.Span.End:=by have:=s.own;omega
 have hnl:∀ y∈l,y.Key=p.1.Key->¬ (y.Span.Start<x.Span.End/\x.Span.Start<y.Span.End):=fun y hy hky h=>hno y hy ⟨hky.trans s.key.symm,h.1,h.2⟩
 have hT:(X74 (L++[p]) p.1.Key)=fun t=>X74 L p.1.Key t\/t=p.1.Time:=by
  funext t;apply propext;rw[X89]
  exact⟨fun h=>h.imp id fun h=>h.2.symm,fun h=>h.imp id fun h=>⟨rfl,h.symm⟩⟩
 have hes:∀ e∈es,e.Key=p.1.Key->Xgu w.Size (X74 L p.1.Key) e.Span:=by
  intro e he hke
  have:=((c.mem e).1 he).1
  unfold Xd5 at this
  rw[if_pos hk,hke] at this;exact this
 have hxw:Xgu w.Size (fun t=>X74 L p.1.Key t\/t=p.1.Time) x.Span:=by
  refine⟨hxx,s.inner,?_,?_⟩
  ·rintro⟨t,ht|ht,h1,h2⟩
   ·obtain⟨e,he,hke,a1,a2⟩:=c.cover hk _ t ht
    rcases(s.part e).1 he with h|h
    ·exact hnl e h hke ⟨by omega,by omega⟩
    ·have:=s.hull e h;omega
   ·have:=s.own;omega
  ·rintro⟨t,ht|ht,h1,h2⟩
   ·obtain⟨e,he,hke,a1,a2⟩:=c.cover hk _ t ht
    rcases(s.part e).1 he with h|h
    ·exact hnl e h hke ⟨by omega,by omega⟩
    ·have:=s.hull e h;omega
   ·have:=s.own;omega
 have hpin:inS x.Span p.1.Time:=by have:=s.own;unfold inS;omega
 have hxv:x.Values=Xcu (L++[p]) p.1.Key x.Span:=by
  have hv:∀ side,Xck (pv p side++X8j L p.1.Key M side)=Xck (vals (L++[p]) p.1.Key x.Span side):=by
   intro side
   have h1:vals L p.1.Key x.Span side=X8j L p.1.Key M side:=by
    unfold vals X8j
    congr 1
    refine List.filter_congr fun q hq=>?_
    rw[Bool.eq_iff_iff]
    simp only[decide_eq_true_eq]
    constructor
    ·rintro⟨a1,a2,a3⟩
     refine⟨a1,?_,a3⟩
     obtain⟨e,he,hke,b1,b2⟩:=c.cover hk _ q.1.Time ⟨q,hq,a1,rfl⟩
     unfold inS at a2
     rcases(s.part e).1 he with h|h
     ·exact absurd ⟨by omega,by omega⟩ (hnl e h hke)
     ·exact⟨e,h,by unfold inS;omega⟩
    ·rintro⟨a1,⟨m,hm,b1,b2⟩,a3⟩
     have:=s.hull m hm
     exact⟨a1,⟨by omega,by omega⟩,a3⟩
   have h2:(if p.1.Key=p.1.Key/\inS x.Span p.1.Time/\p.2=side then [p.1.Value] else [])=pv p side:=by
    unfold pv
    by_cases h:p.2=side
    ·rw[if_pos ⟨rfl,hpin,h⟩,if_pos h]
    ·rw[if_neg (fun hc=>h hc.2.2),if_neg h]
   rw[X53,h1,h2]
   exact Xe4 List.perm_append_comm (by have:=Xla p side;have:=Xa3 L p.1.Key M side;simp;omega)
  have h0:=s.val0
  have h1:=s.val1
  rw[hv] at h0 h1
  unfold Xcu
  rw[<-h0,<-h1]
 have hns:∀ y∈l,¬ X4w y x:=fun y hy hs=>hno y hy ⟨hs.1,by rw[hs.2];exact hxx,by rw[hs.2];exact hxx⟩
 have hput:∀ e,e∈Xjs l x↔e∈l\/e=x:=by
  intro e
  rw[Xjq hsl]
  constructor
  ·rintro(⟨h,_⟩|⟨y,hy,hs,_⟩|⟨_,h⟩)
   ·exact .inl h
   ·exact absurd hs (hns y hy)
   ·exact .inr h
  ·rintro(h|h)
   ·exact .inl ⟨h,hns e h⟩
   ·exact .inr (.inr ⟨hns,h⟩)
 refine⟨Xgy hsl,fun e=>?_,fun _ k t ht=>?_⟩
 ·rw[hput]
  unfold Xo1 Xd5
  rw[if_pos hk]
  by_cases hke:e.Key=p.1.Key
  ·rw[hke,hT]
   have hsame:¬ (e.Span.Start<x.Span.End/\x.Span.Start<e.Span.End)->(Xgu w.Size (fun t=>X74 L p.1.Key t\/t=p.1.Time) e.Span/\e.Values=Xcu (L++[p]) p.1.Key e.Span↔Xgu w.Size (X74 L p.1.Key) e.Span/\e.Values=Xcu L p.1.Key e.Span):=by
    intro hn
    have hown:=s.own
    have hpn:e.Span.Start<e.Span.End->¬ inS e.Span p.1.Time:=fun h hi=>by unfold inS at hi;exact hn ⟨by omega,by omega⟩
    have hvv:e.Span.Start<e.Span.End->Xcu (L++[p]) p.1.Key e.Span=Xcu L p.1.Key e.Span:=fun h=>by
     unfold Xcu
     rw[X53,X53,if_neg (fun hc=>hpn h hc.2.1),if_neg (fun hc=>hpn h hc.2.1),List.append_nil,List.append_nil]
    constructor
    ·rintro⟨⟨a1,a2,a3,a4⟩,hv⟩
     refine⟨⟨a1,fun z h1 h2=>?_,fun h=>a3 (Xgb (fun t h=>.inl h) h),fun h=>a4 (Xgb (fun t h=>.inl h) h)⟩,by rw[hv,hvv a1]⟩
     obtain⟨t,ht|ht,b1,b2⟩:=a2 z h1 h2
     ·exact⟨t,ht,b1,b2⟩
     ·exact absurd ⟨by omega,by omega⟩ hn
    ·rintro⟨⟨a1,a2,a3,a4⟩,hv⟩
     refine⟨⟨a1,fun z h1 h2=>Xgb (fun t h=>.inl h) (a2 z h1 h2),?_,?_⟩,by rw[hv,hvv a1]⟩
     ·rintro⟨t,ht|ht,b1,b2⟩
      ·exact a3 ⟨t,ht,b1,b2⟩
      ·exact hn ⟨by omega,by omega⟩
     ·rintro⟨t,ht|ht,b1,b2⟩
      ·exact a4 ⟨t,ht,b1,b2⟩
      ·exact hn ⟨by omega,by omega⟩
   constructor
   ·rintro(h|h)
    ·have he:e∈es:=(s.part e).2 (.inl h)
     refine(hsame (hnl e h hke)).2 ⟨hes e he hke,?_⟩
     have:=((c.mem e).1 he).2
     rw[hke] at this;exact this
    ·rw[h];exact⟨hxw,hxv⟩
   ·intro h
    by_cases hov:e.Span.Start<x.Span.End/\x.Span.Start<e.Span.End
    ·right
     have hsp:=Xom h.1 hxw hov.1 hov.2
     have hkx:=s.key
     obtain⟨_,h2⟩:=h
     rw[hsp] at h2
     cases e;cases x
     simp only at hke hsp h2 hkx hxv
     simp only[X2.mk.injEq]
     exact⟨hke.trans hkx.symm,hsp,by rw[h2,hxv]⟩
    ·left
     have h3:=(hsame hov).1 h
     have he:e∈es:=(c.mem e).2 ⟨by unfold Xd5;rw[if_pos hk,hke];exact h3.1,by rw[hke];exact h3.2⟩
     rcases(s.part e).1 he with h4|h4
     ·exact h4
     ·have:=s.hull e h4
      exact absurd ⟨by have:=h3.1.1;omega,by have:=h3.1.1;omega⟩ hov
  ·have hT2:X74 (L++[p]) e.Key=X74 L e.Key:=by
    funext t;apply propext;rw[X89]
    exact⟨fun h=>h.resolve_right fun hc=>hke hc.1.symm,.inl⟩
   have hV2:Xcu (L++[p]) e.Key e.Span=Xcu L e.Key e.Span:=by
    unfold Xcu
    rw[X53,X53,if_neg (fun hc=>hke hc.1.symm),if_neg (fun hc=>hke hc.1.symm),List.append_nil,List.append_nil]
   rw[hT2,hV2]
   constructor
   ·rintro(h|h)
    ·have:=(c.mem e).1 ((s.part e).2 (.inl h))
     unfold Xo1 Xd5 at this
     rw[if_pos hk] at this;exact this
    ·exact absurd (by rw[h];exact s.key) hke
   ·intro h
    have he:e∈es:=(c.mem e).2 (by unfold Xo1 Xd5;rw[if_pos hk];exact h)
    rcases(s.part e).1 he with h4|h4
    ·exact .inl h4
    ·exact absurd (s.keyM e h4) hke
 ·rcases(X89 ..).1 ht with ht|⟨h1,h2⟩
  ·obtain⟨e,he,hke,a1,a2⟩:=c.cover hk k t ht
   rcases(s.part e).1 he with h|h
   ·exact⟨e,(hput e).2 (.inl h),hke,a1,a2⟩
   ·have:=s.hull e h
    exact⟨x,(hput x).2 (.inr rfl),s.key.trans ((s.keyM e h).symm.trans hke),by omega,by omega⟩
  ·have:=s.own
   exact⟨x,(hput x).2 (.inr rfl),s.key.trans h1,by omega,by omega⟩
end Go.D


namespace Go.D
theorem Xwd (Y:List X2) (x:X2):∀ (xs:List X2) (k:Nat),(Xk Y x xs k=some .x0/\∀ y∈xs,¬ Xyc x y) \/
  ∃ (i:Nat) (y:X2),Xk Y x xs k=some (.x1 ((k+i:Nat):Int))/\xs[i]?=some y/\Xyc x y:=by
 intro xs
 induction xs with
 |nil=>intro k;exact .inl ⟨rfl,fun y hy=>by cases hy⟩
 |cons z xs ih =>
  intro k
  rw[Xk]
  by_cases h:Xyc x z
  ·right
   have:(bif (bif (z.Key==x.Key) then (decide (z.Span.Start<x.Span.End)) else false) then (decide (x.Span.Start<z.Span.End)) else false)=true:=by
    obtain⟨h1,h2,h3⟩:=h;simp[h1,h2,h3]
   rw[this,cond_true]
   exact⟨0,z,rfl,rfl,h⟩
  ·have:(bif (bif (z.Key==x.Key) then (decide (z.Span.Start<x.Span.End)) else false) then (decide (x.Span.Start<z.Span.End)) else false)=false:=by
    rw[<-Bool.not_eq_true]
    intro hc
    apply h
    by_cases h1:z.Key=x.Key
    ·by_cases h2:z.Span.Start<x.Span.End
     ·by_cases h3:x.Span.Start<z.Span.End
      ·exact⟨h1,h2,h3⟩
      ·simp[h1,h2,h3] at hc
     ·simp[h1,h2] at hc
    ·have:(z.Key==x.Key)=false:=by simp[h1]
     simp[this] at hc
   rw[this,cond_false]
   rcases ih (k+1) with ⟨h1,h2⟩|⟨i,y,h1,h2,h3⟩
   ·exact .inl ⟨h1,fun y hy=>(List.mem_cons.1 hy).elim (fun e=>e▸h) (h2 y)⟩
   ·exact .inr ⟨i+1,y,by rw[h1];congr 2;omega,by simpa using h2,h3⟩
theorem Xyf {w:X0n} {L:List Pu} {p:Pu} {es:List X2} (hk:w.Kind=3) (hw:1<=w.Size) (hl:L.length<=900) (hn:es.length<=3900) (c:X7r w L es) (hu:∀ e∈es,okA e.Values.e0/\okA e.Values.e1/\e.Values.e0.Count<=1000/\e.Values.e1.Count<=1000):∀ (f:Nat) (l:List X2) (x:X2) (M:List X2),l.length<f->Ses w L p es l x M ->
  ∃ es',X1r f l x=some (.x0 es' 0)/\X7r w (L++[p]) es'/\es'.length<=es.length+1:=by
 intro f
 induction f with
 |zero=>intro l x M h;omega
 |succ f ih =>
  intro l x M hf s
  have hsl:l.Pairwise ltE:=c.sorted.sublist s.sub
  have hll:l.length<=es.length:=s.sub.length_le
  have hxv:okA x.Values.e0/\okA x.Values.e1/\x.Values.e0.Count<=1000/\x.Values.e1.Count<=1000:=by
   have h0:=Xla p 0
   have h1:=Xla p 1
   have h2:=Xa3 L p.1.Key M 0
   have h3:=Xa3 L p.1.Key M 1
   rw[s.val0,s.val1]
   refine⟨Xhq (by simp;omega),Xhq (by simp;omega),?_,?_⟩
   ·rw[X3k];simp;omega
   ·rw[X3k];simp;omega
  rw[X1r]
  rw[X36 (by omega),Yo]
  rcases Xwd l x l 0 with ⟨h1,h2⟩|⟨i,y,h1,h2,h3⟩
  ·rw[h1]
   simp only[Yo]
   have hneg:decide ((-1:Int)<0)=true:=by decide
   rw[hneg,cond_true]
   have hput:=Xy8 (x:=x) hsl (by omega) ⟨hxv.1,hxv.2.1⟩ (fun y hy _=>by
    obtain⟨a1,a2,a3,a4⟩:=hu y ((s.part y).2 (.inl hy))
    exact⟨a1,a2,by omega,by omega⟩)
   unfold putF at hput
   refine⟨Xjs l x,?_,Ses.end hk hw hl c s h2,by have:=Xjr l x;omega⟩
   rw[hput]
   rfl
  ·rw[h1]
   have hlt:i<l.length:=(Ys.1 h2).1
   simp only[Yo,Nat.zero_add]
   have hneg:decide ((i:Int)<0)=false:=by simp
   rw[hneg,cond_false,X4f,h2,Yo]
   obtain⟨a1,a2,a3,a4⟩:=hu y ((s.part y).2 (.inl (Yg h2)))
   have hd:delI l (i:Int)=some (l.take i++l.drop (i+1)):=by
    unfold delI;rw[if_pos ⟨by omega,by simpa using hlt,by omega⟩];simp
   simp only[X44 hxv.1 a1 (by omega),X44 hxv.2.1 a2 (by omega),Yo,bne_self_eq_false,cond_false,hd]
   have hstep:=s.step hk hl c h2 h3
   exact ih _ _ _ (by simp;omega) hstep
theorem Xjk {w:X0n} {L:List Pu} {p:Pu} {es:List X2} (hw:okW w) (hk:w.Kind=3) (hL:Xqy w (L++[p])) (c:X7r w L es) (hn:es.length<=3900) :
  ∃ es',X54 es w p.1 p.2=some (es',0)/\X7r w (L++[p]) es'/\es'.length<=es.length+1:=by
 have ht:=hL.time p (by simp)
 have hsd:=hL.side p (by simp)
 have hll:=hL.init.len
 have hw1:=hw.1
 have hw2:=hw.2.1
 have hu:∀ e∈es,okA e.Values.e0/\okA e.Values.e1/\e.Values.e0.Count<=1000/\e.Values.e1.Count<=1000:=fun e he=>by
  have:=((c.mem e).1 he).2
  rw[this];exact Xkf (by omega) _ _
 obtain⟨es',h1,h2,h3⟩:=Xyf hk hw1 (by omega) hn c hu FU es _ [] (by unfold FU;omega) (Ses.start (p:=p) hw1)
 refine⟨es',?_,h2,h3⟩
 have ht':=ht
 unfold okT at ht'
 unfold X54
 have e1:(bif (p.2 != 0) then (p.2 != 1) else false)=false:=by rcases hsd with h|h<;>simp[h]
 have b1:decide (p.1.Time<((-1099511627776):Int))=false:=by simp;omega
 have b2:decide (p.1.Time>(1099511627776:Int))=false:=by simp;omega
 have e2:(bif (decide (p.1.Time<((-1099511627776):Int))) then true else (decide (p.1.Time>(1099511627776:Int))))=false:=by rw[b1,b2];rfl
 have e3:((X99 p.1.Value).bind fun v14=>bif (p.2==(0:Int)) then (some (X2.mk p.1.Key (X05.mk 0 0) (V2.mk v14 (X15.mk 0 0 0 0)))) else (bif (p.2==(1:Int)) then (some (X2.mk p.1.Key (X05.mk 0 0) (V2.mk (X15.mk 0 0 0 0) v14))) else none):Option (X2))=some (X73 p ⟨0,0⟩):=by
  simp only[X99,Yo]
  rcases hsd with h|h
  ·simp[h,X73,ofA,Xbf]
  ·simp[h,X73,ofA,Xbf]
 have e4:(bif (List.isEmpty es) then (some es) else ((X1w (List.length es) 88).bind fun u28=>some es):Option ((List X2)))=some es:=by
  rw[X2n (by omega)]
  cases List.isEmpty es<;>rfl
 have e5:(w.Kind==3)=true:=by simp[hk]
 have c1:decide (w.Size<1)=false:=by simp;omega
 have c2:decide (w.Size>1073741824)=false:=by simp;omega
 have e6:X3t 0 w.Size=some 0:=by
  simp only[X3t,c1,c2,cond_false];rfl
 have e7:X3t p.1.Time w.Size=some 0:=by
  simp only[X3t,c1,c2,cond_false,b1,b2]
 have e8:X84 1=some 1:=by decide +kernel
 rw[X9t c.sorted (Xe2 hw hL.init c) (by omega),Yo]
 simp only[bne_self_eq_false,cond_false,X4d hw,Yo,e1,e2]
 rw[e3,Yo,e4,Yo]
 simp only[e5,cond_true,e6,e7,e8,Yo,bne_self_eq_false,cond_false]
 have hg:X3c [X05.mk p.1.Time (IntKind.i64.wrap (p.1.Time+w.Size))] 0=some ⟨p.1.Time,p.1.Time+w.Size⟩:=by
  rw[X0m (by omega) (by omega)];rfl
 rw[hg,Yo]
 have hent:(⟨(X73 p ⟨0,0⟩).Key,⟨p.1.Time,p.1.Time+w.Size⟩,(X73 p ⟨0,0⟩).Values⟩:X2)=X73 p ⟨p.1.Time,p.1.Time+w.Size⟩:=rfl
 rw[hent,h1,Yo,Yo]
 have e9:decide ((es'.length:Int)>4000)=false:=by simp;omega
 simp only[bne_self_eq_false,cond_false,e9]
theorem Xf5 {w:X0n} {L:List Pu} {p:Pu} {es:List X2} (hw:okW w) (hL:Xqy w (L++[p])) (c:X7r w L es) (hn:es.length<=3900) :
  ∃ es',X54 es w p.1 p.2=some (es',0)/\X7r w (L++[p]) es'/\es'.length<=es.length+16:=by
 by_cases hk:w.Kind=3
 ·obtain⟨es',h1,h2,h3⟩:=Xjk hw hk hL c hn
  exact⟨es',h1,h2,by omega⟩
 ·exact Xgo hw hk hL c hn
theorem Xth {w:X0n} (hw:1<=w.Size):X7r w [] []:=by
 refine⟨List.Pairwise.nil,fun e=>?_,fun _ k t ht=>?_⟩
 ·simp only[List.not_mem_nil,false_iff]
  rintro⟨h,_⟩
  unfold Xd5 at h
  split at h
  ·obtain⟨h1,h2,_⟩:=h
   obtain⟨t,ht,_⟩:=h2 (2*e.Span.Start+1) (by omega) (by omega)
   obtain⟨p,hp,_⟩:=ht
   cases hp
  ·obtain⟨t,⟨p,hp,_⟩,_⟩:=h
   cases hp
 ·obtain⟨p,hp,_⟩:=ht
  cases hp
end Go.D


namespace Go.D
structure RQ (q:X06):Prop where
 w:QW q
 ok:(Xrr q).2=0
theorem RQ.cz {q:X06} (h:RQ q):Xqx q=0:=by
 have:=h.ok
 unfold Xrr at this
 split at this
 ·rename_i h1;exact absurd this h1
 ·rename_i h1;omega
theorem RQ.facts {q:X06} (h:RQ q):(1<=q.Agg/\q.Agg<=4/\(q.Late=1\/q.Late=2))/\(q.Agg≠1->Xbd q.Arg=0)/\(0<q.Where.length->Xbd q.Where=0)/\X6n q.Sources q.Join=0/\okW q.Window/\(q.Join=true->q.Window.Kind=1):=by
 have hc:=h.cz
 unfold Xqx at hc
 split at hc
 ·cases hc
 ·rename_i h1
  split at hc
  ·cases hc
  ·split at hc
   ·rename_i h2;exact absurd hc h2.2
   ·rename_i h2
    split at hc
    ·rename_i h3;exact absurd hc h3.2
    ·rename_i h3
     split at hc
     ·rename_i h4;exact absurd hc h4
     ·rename_i h4
      split at hc
      ·cases hc
      ·rename_i h5
       split at hc
       ·rename_i h6
        refine⟨by omega,fun ha=>?_,fun hw=>?_,by omega,h6,fun hj=>?_⟩
        ·by_cases hz:Xbd q.Arg=0
         ·exact hz
         ·exact absurd ⟨ha,hz⟩ h2
        ·by_cases hz:Xbd q.Where=0
         ·exact hz
         ·exact absurd ⟨hw,hz⟩ h3
        ·by_cases hk:q.Window.Kind=1
         ·exact hk
         ·exact absurd ⟨hj,hk⟩ h5
       ·cases hc
theorem RQ.src {q:X06} (h:RQ q):1<=q.Sources.length/\q.Sources.length<=4/\(q.Join=true->q.Sources.length=2):=by
 have hs:=h.facts.2.2.2.1
 unfold X6n at hs
 split at hs
 ·cases hs
 ·split at hs
  ·cases hs
  ·rename_i h1 h2
   unfold Xoj at h2
   have h2:((q.Sources.length==0||(q.Join&&q.Sources.length != 2))||q.Sources.any fun x=>decide (x<0)||decide (x>3))=false:=by simpa using h2
   rw[Bool.or_eq_false_iff,Bool.or_eq_false_iff] at h2
   have a1:q.Sources.length≠0:=by simpa using h2.1.1
   refine⟨by omega,by omega,fun hj=>?_⟩
   have:=h2.1.2
   rw[hj] at this
   simpa using this
def valA (agg:Int) (a:X15):Int:=if agg=1 then a.Count else if agg=2 then a.Sum else if agg=3 then a.Min else a.Max
theorem Xc2 {agg:Int} {a:X15} (h1:1<=agg) (h2:agg<=4) (ha:okA a):X6h agg a=some (if a.Count=0 then (0,6) else (valA agg a,0)):=by
 unfold X6h
 rw[Yf (show ¬ agg<1 by omega),Yf (show ¬ agg>4 by omega),X3j ha]
 simp only[cond_false,Yo,bne_self_eq_false]
 by_cases hc:a.Count=0
 ·rw[if_pos hc,hc];rfl
 ·rw[if_neg hc,show(a.Count==0)=false by simp[hc]]
  unfold valA
  rcases(by omega:agg=1\/agg=2\/agg=3\/agg=4) with h|h|h|h<;>subst h<;>rfl
def live (q:X06) (e:X2):Bool:=decide (e.Values.e0.Count≠0)&&(!q.Join||decide (e.Values.e1.Count≠0))
def rowE (q:X06) (e:X2):X1x:=⟨e.Key,e.Span,⟨valA q.Agg e.Values.e0,if q.Join then valA q.Agg e.Values.e1 else 0⟩⟩
def X04e (q:X06) (es:List X2):List X1x:=(es.filter (live q)).map (rowE q)
end Go.D


namespace Go.D
def isT (t:Int):Bool:=decide (-1099511627776<=t)&&decide (t<=1099511627776)
def Xii (t:Int):Bool:=isT t||(t==9223372036854775807)
def Xl9:Xl:=⟨0,0,0⟩
def row0:X1x:=⟨0,⟨0,0⟩,⟨0,0⟩⟩
def Xgx (x:X1x):Bool:=decide (-2199023255552<=x.Span.Start)&&decide (x.Span.Start<x.Span.End)&&decide (x.Span.End<=2199023255552)
def mOK (m:Xh):Bool :=
 if m.Kind=1\/m.Kind=4 then isT m.Record.Time&&decide (m=⟨m.Kind,m.Record,0,row0⟩)
 else if m.Kind=2 then Xii m.Time&&decide (m=⟨m.Kind,Xl9,m.Time,row0⟩)
 else if m.Kind=3 then Xgx m.Row&&decide (m=⟨m.Kind,Xl9,0,m.Row⟩)
 else false
theorem Xhj (x y:Xh):X9o x y=decide (x=y):=by
 obtain⟨k,⟨a,b,c⟩,t,⟨d,⟨e,f⟩,⟨g,h⟩⟩⟩:=x
 obtain⟨k',⟨a',b',c'⟩,t',⟨d',⟨e',f'⟩,⟨g',h'⟩⟩⟩:=y
 rw[Bool.eq_iff_iff]
 simp[X9o,X98,Xdz,Xhh,Xhg,and_assoc]
theorem X7g (t:Int):X41 t=some (isT t):=by
 unfold X41 isT
 cases h1:decide (t >= -1099511627776)<;>simp_all
theorem Xaa (t:Int):X4s t=some (Xii t):=by
 unfold X4s Xii
 rw[X7g,Yo]
 cases isT t<;>simp
theorem X35 (m:Xh):X2v m=some (if mOK m then 0 else 8):=by
 have fin:∀ (b:Bool) (w:Xh),(bif (bif (!b) then true else (!(X9o m w))) then some (8:Int) else some 0)=some (if (b&&decide (m=w)) then 0 else 8):=by
  intro b w
  rw[Xhj]
  cases b<;>cases decide (m=w)<;>rfl
 unfold X2v mOK
 rw[X7g,Xaa]
 by_cases h1:m.Kind=1
 ·rw[if_pos (show m.Kind=1\/m.Kind=4 from .inl h1),show(m.Kind==(1:Int))=true by simp[h1]]
  simp only[cond_true,Yo]
  exact fin _ _
 ·rw[show(m.Kind==(1:Int))=false by simp[h1]]
  by_cases h4:m.Kind=4
  ·rw[if_pos (show m.Kind=1\/m.Kind=4 from .inr h4),show(m.Kind==(4:Int))=true by simp[h4]]
   simp only[cond_true,cond_false,Yo]
   exact fin _ _
  ·rw[if_neg (show ¬ (m.Kind=1\/m.Kind=4) by simp[h1,h4]),show(m.Kind==(4:Int))=false by simp[h4]]
   by_cases h2:m.Kind=2
   ·rw[if_pos h2,show(m.Kind==(2:Int))=true by simp[h2]]
    simp only[cond_true,cond_false,Yo]
    exact fin _ _
   ·rw[if_neg h2,show(m.Kind==(2:Int))=false by simp[h2]]
    by_cases h3:m.Kind=3
    ·rw[if_pos h3,show(m.Kind==(3:Int))=true by simp[h3]]
     simp only[cond_true,cond_false,Yo]
     rw[fin]
     have:Xgx m.Row=(bif (bif (decide ((-2199023255552:Int)<=m.Row.Span.Start)) then (decide (m.Row.Span.Start<m.Row.Span.End)) else false) then (decide (m.Row.Span.End<=(2199023255552:Int))) else false):=by
      unfold Xgx
      cases decide ((-2199023255552:Int)<=m.Row.Span.Start)<;>cases decide (m.Row.Span.Start<m.Row.Span.End)<;>rfl
     rw[this];rfl
    ·rw[if_neg h3,show(m.Kind==(3:Int))=false by simp[h3]]
     simp only[cond_false,Yo]
     rw[fin];rfl
def sOK (s:X13):Bool:=decide (0<=s.Out)&&decide (s.Out<3)&&mOK s.Message
theorem Xb6 (Y:List X13):∀ (xs:List X13) (k:Nat),X4g Y xs k=some (if xs.all sOK then .x0 else .x1)
 |[],k=>rfl
 |x::xs,k=>by
  rw[X4g,X35,List.all_cons,Xb6 Y xs (k+1)]
  unfold sOK
  by_cases h1:x.Out<0
  ·rw[Yt h1,Yf (show ¬ 0<=x.Out by omega)];rfl
  ·rw[Yf h1,Yt (show 0<=x.Out by omega)]
   by_cases h2:x.Out >= 3
   ·rw[Yt h2,Yf (show ¬ x.Out<3 by omega)];rfl
   ·rw[Yf h2,Yt (show x.Out<3 by omega)]
    cases mOK x.Message<;>rfl
theorem Xd8 {l:List X13} (h:l.length<=140737488355328):X8a l=some (l.all sOK):=by
 unfold X8a
 rw[X36 h,Yo,Xb6]
 cases l.all sOK<;>rfl
instance (a:X15):Decidable (okA a):=by unfold okA;infer_instance
instance (x:X2):Decidable (okE x):=by unfold okE;infer_instance
instance (x y:X2):Decidable (ltE x y):=by unfold ltE;infer_instance
theorem Xc3 (a:X15):X2m a=some (if okA a then 0 else 8):=by
 by_cases h:okA a
 ·rw[if_pos h];exact X3j h
 ·rw[if_neg h]
  unfold okA at h
  unfold X2m
  rw[Xke]
  by_cases h0:a.Count=0
  ·have:¬ a=⟨0,0,0,0⟩:=fun e=>h (.inl ⟨h0,e⟩)
   simp[h0,this]
  ·by_cases h1:a.Count=1
   ·have:¬ (a.Sum=a.Min/\a.Sum=a.Max):=fun e=>h (.inr (.inl ⟨h1,e⟩))
    rw[show(a.Count==(0:Int))=false by simpa using h0,show(a.Count==(1:Int))=true by simpa using h1]
    simp only[cond_true,cond_false,Yo]
    by_cases e1:a.Sum=a.Min
    ·have e2:¬ a.Sum=a.Max:=fun e=>this ⟨e1,e⟩
     rw[show(a.Sum==a.Min)=true by simpa using e1,show(a.Sum==a.Max)=false by simpa using e2];rfl
    ·rw[show(a.Sum==a.Min)=false by simpa using e1];rfl
   ·rw[show(a.Count==(0:Int))=false by simpa using h0,show(a.Count==(1:Int))=false by simpa using h1]
    simp only[cond_false]
    by_cases h2:1<a.Count
    ·by_cases h3:a.Count<=1073741824
     ·have:¬ a.Min<=a.Max:=fun e=>h (.inr (.inr ⟨h2,h3,e⟩))
      rw[Yt (show a.Count>1 from h2),Yt h3,Yf this];rfl
     ·rw[Yt (show a.Count>1 from h2),Yf h3];rfl
    ·rw[Yf (show ¬ a.Count>1 from h2)];rfl
theorem Xi2 (x:X2):X64 x=some (decide (okE x)):=by
 by_cases h:okE x
 ·rw[Yt h];exact X9s h
 ·rw[Yf h]
  unfold okE at h
  unfold X64
  rw[Xc3,Xc3]
  by_cases h1:x.Span.Start < -1100585369600
  ·rw[Yt h1];rfl
  ·rw[Yf h1]
   by_cases h2:x.Span.End<=x.Span.Start
   ·rw[Yt h2];rfl
   ·rw[Yf h2]
    by_cases h3:x.Span.End>1100585369600
    ·rw[Yt h3];rfl
    ·rw[Yf h3]
     simp only[cond_false,Yo]
     by_cases a0:okA x.Values.e0
     ·by_cases a1:okA x.Values.e1
      ·have c0:=X7o a0
       have c1:=X7o a1
       have:¬ 0<x.Values.e0.Count+x.Values.e1.Count:=fun e=>h ⟨by omega,by omega,by omega,a0,a1,e⟩
       rw[if_pos a0,if_pos a1,X0m (by omega) (by omega),Yf (show ¬ x.Values.e0.Count+x.Values.e1.Count>0 from this)];rfl
      ·rw[if_pos a0,if_neg a1];rfl
     ·rw[if_neg a0];rfl
def bhd:Option X2->X2->Bool
 |none,_=>true
 |some e,x=>decide (ltE e x)
def Xlp:Option X2->List X2->Bool
 |_,[]=>true
 |p,x::xs=>decide (okE x)&&bhd p x&&Xlp (some x) xs
def Xoi (l:List X2):Bool:=Xlp none l
theorem Xlo:∀ (l:List X2) (p:Option X2),Xlp p l=true↔(∀ x∈l,okE x)/\l.Pairwise ltE/\(∀ e,p=some e->∀ x∈l,ltE e x)
 |[],p=>by simp[Xlp]
 |x::xs,p=>by
  rw[Xlp,Bool.and_eq_true,Bool.and_eq_true,Xlo xs (some x),List.pairwise_cons]
  constructor
  ·rintro⟨⟨h1,h2⟩,h3,h4,h5⟩
   have h5':=h5 x rfl
   refine⟨fun y hy=>?_,⟨h5',h4⟩,fun e he y hy=>?_⟩
   ·rcases List.mem_cons.1 hy with rfl|hy
    ·simpa using h1
    ·exact h3 y hy
   ·subst he
    have h2':ltE e x:=by simpa[bhd] using h2
    rcases List.mem_cons.1 hy with rfl|hy
    ·exact h2'
    ·exact Xdk h2' (h5' y hy)
  ·rintro⟨h1,⟨h2,h3⟩,h4⟩
   refine⟨⟨by simpa using h1 x List.mem_cons_self,?_⟩,fun y hy=>h1 y (List.mem_cons_of_mem _ hy),h3,fun e he=>by cases he;exact h2⟩
   cases p with
   |none=>rfl
   |some e=>simpa[bhd] using h4 e rfl x List.mem_cons_self
theorem Xjl {l:List X2}:Xoi l=true↔(∀ x∈l,okE x)/\l.Pairwise ltE:=by
 unfold Xoi
 rw[Xlo]
 constructor
 ·rintro⟨h1,h2,_⟩;exact⟨h1,h2⟩
 ·rintro⟨h1,h2⟩;exact⟨h1,h2,fun e he=>by cases he⟩
theorem Xa5 (l:List X2) (hn:l.length<=1000000):∀ (xs:List X2) (k:Nat),l.drop k=xs->X2u l xs k=some (if Xlp (if k=0 then none else l[k - 1]?) xs then .x0 else .x1)
 |[],k,_=>rfl
 |x::xs,k,h=>by
  have hk:l[k]?=some x:=by
   have:=congrArg (fun z=>z[0]?) h
   simpa using this
  have hlt:k<l.length:=(Ys.1 hk).1
  have hd:l.drop (k+1)=xs:=by
   have:=congrArg List.tail h
   simpa using this
  have ih:=Xa5 l hn xs (k+1) hd
  rw[if_neg (Nat.succ_ne_zero k),show k+1 - 1=k from rfl,hk] at ih
  rw[X2u,Xi2,Yo,Xlp]
  by_cases ho:okE x
  ·rw[Yt ho]
   cases k with
   |zero =>
    rw[Yf (by omega),if_pos rfl]
    simp only[Bool.not_true,cond_false,Yo,Bool.true_and]
    exact ih
   |succ k =>
    have hp:(l[k]'(by omega))=(l[k]'(by omega)):=rfl
    rw[Yt (show((k+1:Nat):Int)>0 by omega),if_neg (Nat.succ_ne_zero k),X0m (by omega) (by omega),show(((k+1:Nat):Int) - 1)=(k:Int) by omega,X4f,show k+1 - 1=k from rfl,Ye (show k<l.length by omega)]
    simp only[Bool.not_true,cond_false,cond_true,Yo,X7j,Bool.true_and]
    by_cases hl:ltE (l[k]'(by omega)) x
    ·rw[show bhd (some (l[k]'(by omega))) x=true from Yt hl,show decide (Xqr (l[k]'(by omega)) x >= 0)=false from Yf fun e=>Xmn.1 e hl]
     simp only[cond_false,Bool.true_and]
     exact ih
    ·rw[show bhd (some (l[k]'(by omega))) x=false from Yf hl,show decide (Xqr (l[k]'(by omega)) x >= 0)=true from Yt (Xmn.2 hl)];rfl
  ·rw[Yf ho];rfl
theorem Xcn (l:List X2):X4h l=some (if l.length>4000 then 4 else if Xoi l then 0 else 8):=by
 unfold X4h
 by_cases h:l.length>4000
 ·rw[Yt (by omega),if_pos h];rfl
 ·rw[Yf (by omega),if_neg h,cond_false,X36 (by omega),Yo,Xa5 l (by omega) l 0 rfl,if_pos rfl]
  unfold Xoi
  cases Xlp none l<;>rfl
def mkL (t:Int):Bool:=(t == -9223372036854775808)||Xii t
def Xid (l:List Int):Bool:=decide (1<=l.length)&&decide (l.length<=4)&&l.all mkL
theorem Xnn (t:Int):mOK ⟨2,⟨0,0,0⟩,t,⟨0,⟨0,0⟩,⟨0,0⟩⟩⟩=Xii t:=by
 unfold mOK
 simp[Xl9,row0]
theorem Xbs (t:Int):X6g t=some (Xii t):=by
 unfold X6g
 rw[X35,Xnn]
 cases Xii t<;>rfl
theorem Xi1 (t:Int):X8n t=some (mkL t):=by
 unfold X8n mkL
 rw[X35,Xnn]
 cases(t == -9223372036854775808)<;>cases Xii t<;>rfl
theorem Xab (Y:List Int):∀ (xs:List Int) (k:Nat),X42 Y xs k=some (if xs.all mkL then .x0 else .x1)
 |[],k=>rfl
 |x::xs,k=>by
  rw[X42,Xbs,List.all_cons,Xab Y xs (k+1)]
  unfold mkL
  by_cases h:x = -9223372036854775808
  ·rw[show(x != -9223372036854775808)=false by simp[h],show(x == -9223372036854775808)=true by simp[h]];rfl
  ·rw[show(x != -9223372036854775808)=true by simp[h],show(x == -9223372036854775808)=false by simp[h]]
   cases Xii x<;>rfl
theorem Xif (l:List Int):X94 l=some (if Xid l then 0 else 8):=by
 unfold X94 Xid
 by_cases h0:l.length=0
 ·rw[show((l.length:Int)==0)=true by simp[h0],Yf (show ¬ 1<=l.length by omega)];rfl
 ·rw[show((l.length:Int)==0)=false by simp;intro e;simp[e] at h0,Yt (show 1<=l.length by omega)]
  by_cases h4:l.length>4
  ·rw[Yt (show(l.length:Int)>4 by omega),Yf (show ¬ l.length<=4 by omega)];rfl
  ·rw[Yf (show ¬ (l.length:Int)>4 by omega),Yt (show l.length<=4 by omega)]
   simp only[cond_false,Yo]
   rw[X36 (by omega),Yo,Xab]
   cases l.all mkL<;>rfl
def minF (l:List Int) (m:Int):Int:=l.foldl (fun y e=>if e<y then e else y) m
def Xcr:List Int->Int
 |[]=>0
 |x::xs=>minF xs x
theorem X00u (l:List Int) (hl:l.length<=1000):∀ (m n k:Nat) (y:Int),m=l.length - k->m<n->k<=l.length->X0y l n y (k:Int)=some (.x0 (minF (l.drop k) y)):=by
 intro m
 induction m with
 |zero =>
  intro n k y hm hn hk
  obtain⟨n,rfl⟩:∃ q,n=q+1:=⟨n - 1,by omega⟩
  rw[X0y,Yf (by omega),List.drop_eq_nil_of_le (by omega)];rfl
 |succ m ih =>
  intro n k y hm hn hk
  obtain⟨n,rfl⟩:∃ q,n=q+1:=⟨n - 1,by omega⟩
  have hlt:k<l.length:=by omega
  rw[X0y,Yt (by omega),cond_true,X4f,Ye hlt,Yo,X0m (by omega) (by omega),show((k:Int)+1)=((k+1:Nat):Int) by omega,ih n (k+1) _ (by omega) (by omega) (by omega),List.drop_eq_getElem_cons hlt]
  rfl
theorem Xdc {l:List Int} (h1:1<=l.length) (h2:l.length<=1000):X24 l=some (Xcr l):=by
 unfold X24
 rw[Yf (by omega),cond_false]
 cases l with
 |nil=>simp at h1
 |cons x xs =>
  rw[show X3c (x::xs) 0=some x from X4f (x::xs) 0,Yo]
  have:=X00u (x::xs) h2 xs.length FU 1 x (by simp) (by simp at h2;unfold FU;omega) (by simp)
  rw[show((1:Nat):Int)=1 from rfl] at this
  rw[this];rfl
theorem Xlh {l:List Int} (h:Xid l=true):1<=l.length/\l.length<=4/\l.all mkL=true:=by
 unfold Xid at h
 simp only[Bool.and_eq_true,decide_eq_true_eq] at h
 exact⟨h.1.1,h.1.2,h.2⟩
theorem Xcs (l:List Int):X59 l=some (if Xid l then (Xcr l,0) else (0,8)):=by
 unfold X59
 rw[Xif,Yo]
 cases h:Xid l with
 |false=>rfl
 |true =>
  obtain⟨h1,h2,_⟩:=Xlh h
  rw[Xdc h1 (by omega)];rfl
def X3u (l:List Int) (i:Nat) (t:Int):List Int:=l.set i (if t>l.getD i 0 then t else l.getD i 0)
theorem Xie {l:List Int} (h:Xid l=true) {i:Nat} (hi:i<l.length) {t:Int} (ht:Xii t=true):X6b l (i:Int) t=some (X3u l i t,decide (Xcr (X3u l i t)>Xcr l),0):=by
 obtain⟨h1,h2,_⟩:=Xlh h
 unfold X6b
 rw[Xcs,h,Yo]
 simp only[if_true,bne_self_eq_false,cond_false]
 rw[Yf (show ¬ (i:Int)<0 by omega),Yf (show ¬ (i:Int) >= (l.length:Int) by omega),Xbs,ht]
 simp only[cond_false,Yo,Bool.not_true]
 have hc:(bif l.isEmpty then some l else (X1w l.length 8).bind fun _=>some l:Option (List Int))=some l:=by
  rw[X2n (by omega)];cases l.isEmpty<;>rfl
 rw[hc,Yo,X4f,Ye hi,Yo,Int.toNat_natCast]
 have e:l.set i (if t>l[i] then t else l[i])=X3u l i t:=by
  unfold X3u;rw[List.getD_eq_getElem?_getD,Ye hi];rfl
 rw[e,Xdc (by unfold X3u;simp;omega) (by unfold X3u;simp;omega)];rfl
def Xcz (k:Int):Int×Int×Bool×Bool×Bool×Bool :=
 if k=1 then (0,0,false,true,false,false) else if k=2 then (1,1,false,false,false,false) else if k=3 then (0,0,false,false,false,false)
 else if k=4 then (1,4,true,false,false,false) else if k=5 then (2,2,true,false,false,false) else if k=6 then (0,0,false,false,true,false)
 else if k=7 then (0,0,false,false,false,true) else (1,0,false,false,false,false)
theorem Xi0 (k:Int):X8m k=some (Xcz k):=by
 unfold X8m Xcz
 by_cases h1:k=1
 ·subst h1;rfl
 by_cases h2:k=2
 ·subst h2;rfl
 by_cases h3:k=3
 ·subst h3;rfl
 by_cases h4:k=4
 ·subst h4;rfl
 by_cases h5:k=5
 ·subst h5;rfl
 by_cases h6:k=6
 ·subst h6;rfl
 by_cases h7:k=7
 ·subst h7;rfl
 have b:∀ z:Int,¬ k=z->(k==z)=false:=fun z h=>by simpa using h
 rw[b _ h1,b _ h2,b _ h3,b _ h4,b _ h5,b _ h6,b _ h7,if_neg h1,if_neg h2,if_neg h3,if_neg h4,if_neg h5,if_neg h6,if_neg h7]
 rfl
def Xbc (b:Bool) (n:Int):Int:=if b then n else 0
theorem Xl0 (b:Bool) (n:Int):X8l b n=some (Xbc b n):=by cases b<;>rfl
def Xd9 (t:X0a):Bool :=
 decide ((t.Pending.length:Int)<=4000)&&decide ((t.Marks.length:Int) >= (Xcz t.Op.Kind).1)&&decide ((t.Marks.length:Int)<=(Xcz t.Op.Kind).2.1)&&decide ((t.Store.length:Int)<=Xbc (Xcz t.Op.Kind).2.2.1 4000)
 && decide ((t.Events.length:Int)<=Xbc (Xcz t.Op.Kind).2.2.2.1 60)&&decide ((t.Rows.length:Int)<=Xbc (Xcz t.Op.Kind).2.2.2.2.1 4000)&&decide ((t.Late.length:Int)<=Xbc (Xcz t.Op.Kind).2.2.2.2.2 4000)
def Xpi (t:X0a):Bool:=decide (t.Turn >= 0)&&decide (t.Turn<20)&&decide (t.Op.N >= 0)&&decide (t.Op.N<4)
def evOK (e:X1e):Bool:=if e.Mark then Xii e.Time&&decide (e.Record=Xl9) else decide (e.Time=0)&&isT e.Record.Time
def Xl1 (t:X0a):Bool:=t.Marks.all mkL&&t.Events.all evOK&&t.Rows.all Xgx&&t.Late.all (fun r=>isT r.Time)&&t.Store.all (fun x=>decide (t.Op.Kind≠4)||(x.Values.e1.Count==0))
def tOK (t:X0a):Bool:=Xpi t&&Xd9 t&&t.Pending.all sOK&&Xoi t.Store&&Xl1 t
theorem Xhi (x y:Xl):X98 x y=decide (x=y):=by
 obtain⟨a,b,c⟩:=x
 obtain⟨a',b',c'⟩:=y
 rw[Bool.eq_iff_iff]
 simp[X98,and_assoc]
theorem Xfv (e:X1e):X6q e=some (if evOK e then 0 else 8):=by
 unfold X6q Xc9 evOK
 rw[Xaa,X7g,Xhi]
 cases e.Mark with
 |true =>
  simp only[cond_true,Yo,if_true]
  show _=some (if (Xii e.Time&&decide (e.Record=⟨0,0,0⟩))=true then 0 else 8)
  cases Xii e.Time<;>cases decide (e.Record=⟨0,0,0⟩)<;>rfl
 |false =>
  simp only[cond_false,Yo,Bool.false_eq_true,if_false]
  by_cases h:e.Time=0
  ·rw[show(e.Time != 0)=false by simp[h],Yt h]
   cases isT e.Record.Time<;>rfl
  ·rw[show(e.Time != 0)=true by simp[h],Yf h];rfl
theorem X7w (t:X0a) (Y:List Int):∀ (xs:List Int) (k:Nat) (b:Bool),X3q t Y xs k b=some (.x0 (b&&xs.all mkL))
 |[],k,b=>by simp[X3q]
 |x::xs,k,b=>by
  rw[X3q,Xi1,List.all_cons]
  cases b with
  |false=>simp only[cond_false,Yo];rw[X7w t Y xs (k+1)];rfl
  |true=>simp only[cond_true,Yo];rw[X7w t Y xs (k+1)];rfl
theorem X7v (t:X0a) (Y:List X1e):∀ (xs:List X1e) (k:Nat) (b:Bool),X3p t Y xs k b=some (.x0 (b&&xs.all evOK))
 |[],k,b=>by simp[X3p]
 |x::xs,k,b=>by
  rw[X3p,Xfv,List.all_cons]
  cases b with
  |false=>simp only[cond_false,Yo];rw[X7v t Y xs (k+1)];rfl
  |true=>simp only[cond_true,Yo];rw[X7v t Y xs (k+1)];cases evOK x<;>rfl
theorem Xoo (x:X1x):mOK ⟨3,⟨0,0,0⟩,0,x⟩=Xgx x:=by
 unfold mOK
 simp[Xl9]
theorem Xsc (x:Xl):mOK ⟨4,x,0,⟨0,⟨0,0⟩,⟨0,0⟩⟩⟩=isT x.Time:=by
 unfold mOK
 simp[row0]
theorem X7u (t:X0a) (Y:List X1x):∀ (xs:List X1x) (k:Nat) (b:Bool),X3o t Y xs k b=some (.x0 (b&&xs.all Xgx))
 |[],k,b=>by simp[X3o]
 |x::xs,k,b=>by
  rw[X3o,X35,Xoo,List.all_cons]
  cases b with
  |false=>simp only[cond_false,Yo];rw[X7u t Y xs (k+1)];rfl
  |true=>simp only[cond_true,Yo];rw[X7u t Y xs (k+1)];cases Xgx x<;>rfl
theorem X7t (t:X0a) (Y:List Xl):∀ (xs:List Xl) (k:Nat) (b:Bool),X3n t Y xs k b=some (.x0 (b&&xs.all fun r=>isT r.Time))
 |[],k,b=>by simp[X3n]
 |x::xs,k,b=>by
  rw[X3n,X35,Xsc,List.all_cons]
  cases b with
  |false=>simp only[cond_false,Yo];rw[X7t t Y xs (k+1)];rfl
  |true=>simp only[cond_true,Yo];rw[X7t t Y xs (k+1)];cases isT x.Time<;>rfl
theorem X5y (t:X0a) (Y:List X2):∀ (xs:List X2) (k:Nat) (b:Bool),X3m t Y xs k b=some (.x0 (b&&xs.all fun x=>decide (t.Op.Kind≠4)||(x.Values.e1.Count==0)))
 |[],k,b=>by simp[X3m]
 |x::xs,k,b=>by
  rw[X3m,List.all_cons]
  cases b with
  |false=>simp only[cond_false,Yo];rw[X5y t Y xs (k+1)];rfl
  |true =>
   by_cases h:t.Op.Kind=4
   ·rw[show(t.Op.Kind != 4)=false by simp[h],show decide (t.Op.Kind≠4)=false by simp[h]]
    simp only[cond_true,cond_false,Yo,Bool.false_or]
    rw[X5y t Y xs (k+1),show decide (t.Op.Kind≠4)=false by simp[h]]
    simp
   ·rw[show(t.Op.Kind != 4)=true by simp[h],show decide (t.Op.Kind≠4)=true by simp[h]]
    simp only[cond_true,Yo,Bool.true_or]
    rw[X5y t Y xs (k+1),show decide (t.Op.Kind≠4)=true by simp[h]]
    simp
theorem Xec {t:X0a} (h:Xd9 t=true):t.Pending.length<=4000/\t.Marks.length<=4/\t.Store.length<=4000/\t.Events.length<=60/\t.Rows.length<=4000/\t.Late.length<=4000:=by
 unfold Xd9 at h
 simp only[Bool.and_eq_true,decide_eq_true_eq] at h
 obtain⟨⟨⟨⟨⟨⟨h1,h2⟩,h3⟩,h4⟩,h5⟩,h6⟩,h7⟩:=h
 have hm:(Xcz t.Op.Kind).2.1<=4:=by
  unfold Xcz
  (repeat' split)<;>decide
 have hr:∀ b (n:Int),0<=n->Xbc b n<=n:=fun b n hn=>by cases b<;>simp[Xbc]<;>omega
 have r1:=hr (Xcz t.Op.Kind).2.2.1 4000 (by omega)
 have r2:=hr (Xcz t.Op.Kind).2.2.2.1 60 (by omega)
 have r3:=hr (Xcz t.Op.Kind).2.2.2.2.1 4000 (by omega)
 have r4:=hr (Xcz t.Op.Kind).2.2.2.2.2 4000 (by omega)
 omega
theorem Xao (t:X0a):X8b t=some (if tOK t then 0 else 8):=by
 unfold X8b
 rw[Xi0,Yo]
 simp only[Xl0,Yo]
 have hs:(bif (decide ((List.length t.Pending:Int)<=(4000:Int))) then (bif (decide ((List.length t.Marks:Int) >= (Xcz t.Op.Kind).1)) then (bif (decide ((List.length t.Marks:Int)<=(Xcz t.Op.Kind).2.1)) then (bif (decide ((List.length t.Store:Int)<=Xbc (Xcz t.Op.Kind).2.2.1 4000)) then (bif (decide ((List.length t.Events:Int)<=Xbc (Xcz t.Op.Kind).2.2.2.1 60)) then (bif (decide ((List.length t.Rows:Int)<=Xbc (Xcz t.Op.Kind).2.2.2.2.1 4000)) then (some (bif (bif (bif (bif (bif (bif (decide ((List.length t.Pending:Int)<=(4000:Int))) then (decide ((List.length t.Marks:Int) >= (Xcz t.Op.Kind).1)) else false) then (decide ((List.length t.Marks:Int)<=(Xcz t.Op.Kind).2.1)) else false) then (decide ((List.length t.Store:Int)<=Xbc (Xcz t.Op.Kind).2.2.1 4000)) else false) then (decide ((List.length t.Events:Int)<=Xbc (Xcz t.Op.Kind).2.2.2.1 60)) else false) then (decide ((List.length t.Rows:Int)<=Xbc (Xcz t.Op.Kind).2.2.2.2.1 4000)) else false) then (decide ((List.length t.Late:Int)<=Xbc (Xcz t.Op.Kind).2.2.2.2.2 4000)) else false)) else (some false)) else (some false)) else (some false)) else (some false)) else (some false)) else (some false):Option Bool)=some (Xd9 t):=by
  unfold Xd9
  cases decide ((List.length t.Pending:Int)<=(4000:Int))<;>cases decide ((List.length t.Marks:Int) >= (Xcz t.Op.Kind).1)<;>cases decide ((List.length t.Marks:Int)<=(Xcz t.Op.Kind).2.1)<;>cases decide ((List.length t.Store:Int)<=Xbc (Xcz t.Op.Kind).2.2.1 4000)<;>cases decide ((List.length t.Events:Int)<=Xbc (Xcz t.Op.Kind).2.2.2.1 60)<;>cases decide ((List.length t.Rows:Int)<=Xbc (Xcz t.Op.Kind).2.2.2.2.1 4000)<;>rfl
 rw[hs,Yo]
 have hn:(bif (bif (bif (decide (t.Turn >= (0:Int))) then (decide (t.Turn<(20:Int))) else false) then (decide (t.Op.N >= (0:Int))) else false) then (decide (t.Op.N<(4:Int))) else false)=Xpi t:=by
  unfold Xpi
  cases decide (t.Turn >= (0:Int))<;>cases decide (t.Turn<(20:Int))<;>cases decide (t.Op.N >= (0:Int))<;>rfl
 rw[hn]
 unfold tOK
 cases h1:Xpi t with
 |false=>rfl
 |true =>
  cases h2:Xd9 t with
  |false=>rfl
  |true =>
   obtain⟨l1,l2,l3,l4,l5,l6⟩:=Xec h2
   simp only[Bool.not_true,cond_false]
   rw[Xd8 (by omega),Yo]
   cases h3:t.Pending.all sOK with
   |false=>rfl
   |true =>
    simp only[Bool.not_true,cond_false]
    rw[Xcn,if_neg (by omega),Yo]
    cases h4:Xoi t.Store with
    |false=>rfl
    |true =>
     simp only[if_true,bne_self_eq_false,Yo,cond_false]
     rw[X36 (by omega),Yo,X7w,Yo]
     simp only
     rw[X36 (by omega),Yo,X7v,Yo]
     simp only
     rw[X36 (by omega),Yo,X7u,Yo]
     simp only
     rw[X36 (by omega),Yo,X7t,Yo]
     simp only
     rw[X36 (by omega),Yo,X5y,Yo]
     simp only[Bool.true_and,Bool.and_true]
     unfold Xl1
     generalize (t.Marks.all mkL&&t.Events.all evOK&&t.Rows.all Xgx&&(t.Late.all fun r=>isT r.Time)&&t.Store.all fun x=>decide (t.Op.Kind≠4)||(x.Values.e1.Count==0))=b
     cases b<;>rfl
end Go.D


namespace Go.D
def t0:X0a:=⟨⟨0,0⟩,0,[],[],[],[],[],[]⟩
theorem bifS {α:Type} (l:List α) (x:Option (List α)) (h:x=some l):(bif l.isEmpty then some l else x)=some l:=by cases l.isEmpty<;>simp[h]
theorem Xzq {l:List Int} (h:l.length<=100000):X1m l=some l:=by unfold X1m;exact bifS l _ (by rw[X2n (by omega)];rfl)
theorem Xzr {l:List X2} (h:l.length<=100000):X1o l=some l:=by unfold X1o;exact bifS l _ (by rw[X2n (by omega)];rfl)
theorem Xzo {l:List X1e} (h:l.length<=100000):X1n l=some l:=by unfold X1n;exact bifS l _ (by rw[X2n (by omega)];rfl)
theorem Xzp {l:List X1x} (h:l.length<=100000):X2j l=some l:=by unfold X2j;exact bifS l _ (by rw[X2n (by omega)];rfl)
theorem Xzs {l:List Xl} (h:l.length<=100000):X1b l=some l:=by unfold X1b;exact bifS l _ (by rw[X2n (by omega)];rfl)
theorem Xgn {t:X0a} (h:tOK t=true):Xpi t=true/\Xd9 t=true/\t.Pending.all sOK=true/\Xoi t.Store=true/\Xl1 t=true:=by
 unfold tOK at h
 simp only[Bool.and_eq_true] at h
 exact⟨h.1.1.1.1,h.1.1.1.2,h.1.1.2,h.1.2,h.2⟩
theorem Xf3 {t:X0a} (hp:t.Pending=[]) {L:List X13} (hL:L.length<=100000) :
  X3d t L=some (if tOK t then (if L.all sOK then (if L.length>4000 then (t0,4) else ({ t with Pending:=L },0)) else (t0,8)) else (t0,8)):=by
 unfold X3d
 rw[Xao,Yo]
 cases h:tOK t with
 |false=>rfl
 |true =>
  obtain⟨l1,l2,l3,l4,l5,l6⟩:=Xec (Xgn h).2.1
  simp only[if_true,bne_self_eq_false,cond_false]
  rw[Xd8 (by omega),Yo]
  cases hs:L.all sOK with
  |false=>rfl
  |true =>
   simp only[Bool.not_true,cond_false,if_true]
   rw[hp]
   have e4:IntKind.i64.wrap (4000 - (([]:List X13).length:Int))=4000:=by decide
   rw[e4]
   by_cases h4:L.length>4000
   ·rw[Yt (by omega),if_pos h4];rfl
   ·rw[Yf (by omega),if_neg h4,cond_false]
    simp only[List.isEmpty_nil,cond_true]
    rw[Xzq (by omega),Xzr (by omega),Xzo (by omega),Xzp (by omega),Xzs (by omega)]
    simp only[Yo]
    rw[X2n (by omega)]
    cases L.isEmpty<;>rfl
def X4r (m:Int) (l:List X2):List X2:=l.filter fun x=>decide (x.Span.End<=m)
def Xaq (m:Int) (l:List X2):List X2:=l.filter fun x=>!decide (x.Span.End<=m)
theorem Xnz (m:Int) (Y:List X2):∀ (xs:List X2) (k:Nat) (a b:List X2),a.length+b.length+xs.length<=100000->X3r m Y xs k a b=some (.x0 (a++X4r m xs) (b++Xaq m xs))
 |[],k,a,b,_=>by simp[X3r,X4r,Xaq]
 |x::xs,k,a,b,hn=>by
  simp only[List.length_cons] at hn
  rw[X3r]
  unfold X4r Xaq
  rw[List.filter_cons,List.filter_cons]
  by_cases h:x.Span.End<=m
  ·rw[Yt h,cond_true,X2n (by simp;omega)]
   simp only[Yo,if_true,Bool.not_true,Bool.false_eq_true,if_false]
   rw[Xnz m Y xs (k+1) _ _ (by simp;omega)]
   simp[X4r,Xaq]
  ·rw[Yf h,cond_false,X2n (by simp;omega)]
   simp only[Yo,if_true,Bool.not_false,Bool.false_eq_true,if_false]
   rw[Xnz m Y xs (k+1) _ _ (by simp;omega)]
   simp[X4r,Xaq]
theorem Xjj {l:List X2} (h:Xoi l=true) (hl:l.length<=4000) (m:Int):X7a l m=some (X4r m l,Xaq m l,0):=by
 unfold X7a
 rw[Xcn,if_neg (by omega),h,Yo]
 simp only[if_true,bne_self_eq_false,cond_false]
 rw[X36 (by omega),Yo,Xnz m l l 0 [] [] (by simp;omega)];rfl
theorem Xj9 {m:Int} {l:List X2} {x:X2} (h:x∈X4r m l):x∈l:=(List.mem_filter.1 h).1
theorem Xey (m:Int) (l:List X2):(X4r m l).length<=l.length:=List.length_filter_le _ _
theorem Xus {a l:List X2} (hs:a.Sublist l) (h:Xoi l=true):Xoi a=true:=by
 rw[Xjl] at *
 exact⟨fun x hx=>h.1 x (hs.subset hx),h.2.sublist hs⟩
def Xuy (r:X1x):X13:=⟨0,⟨3,⟨0,0,0⟩,0,r⟩⟩
theorem Xux {r:X1x} (h:Xgx r=true):sOK (Xuy r)=true:=by
 unfold sOK Xuy
 simp only
 rw[Xoo,h];rfl
theorem Xyd {x:X2} (h:okE x) (r:X1x) (hr:r.Span=x.Span):Xgx r=true:=by
 obtain⟨h1,h2,h3,_⟩:=h
 unfold Xgx
 rw[hr,Yt (by omega),Yt (by omega),Yt (by omega)];rfl
def Xya (l:List X2) (x:X2):Bool :=
 match l[cnt l x]? with
 |some y=>decide (X4w y x/\(y.Values.e0.Count+x.Values.e0.Count>1073741824\/y.Values.e1.Count+x.Values.e1.Count>1073741824))
 |none=>false
end Go.D


namespace Go.D
theorem Xww {z:Int} (h:wfI .u8 z):0<=z:=by
 have h:=h
 simp only[wfI,Lit.wf,IntKind.bits,IntKind.signed] at h
 simp at h
 have e1:IntKind.u8.min=0:=by decide
 omega
theorem Xxq {z:Int} (h:wfI .i64 z):z<=9223372036854775807 /\ -9223372036854775808<=z:=by
 have h:=h
 simp only[wfI,Lit.wf,IntKind.bits,IntKind.signed] at h
 simp at h
 have e1:IntKind.i64.min = -9223372036854775808:=by decide
 have e2:IntKind.i64.max=9223372036854775807:=by decide
 omega
theorem X028 {q:X06} (w:Xgj q):QW q:=by
 obtain⟨_,⟨_,h1⟩,_,_,⟨_,h2⟩,h3,_⟩:=w
 exact⟨fun x hx=>Xww (h1 x hx).1,fun x hx=>Xww (h2 x hx).1,Xxq h3.2.2⟩
end Go.D


namespace Go.D
theorem Xv0 {q:X06} (hq:QW q):X5t q=some (decide ((Xrr q).2=0)):=by
 unfold X5t
 rw[Xi9 hq,Yo]
 rfl
end Go.D


namespace Go.D
def rowJ (q:X06) (x:X2):X1x:=⟨x.Key,x.Span,⟨valA q.Agg x.Values.e0,valA q.Agg x.Values.e1⟩⟩
def Xqi (x:X2):Bool:=decide (x.Values.e0.Count≠0)&&decide (x.Values.e1.Count≠0)
theorem Xn1 {q:X06} (h1:1<=q.Agg) (h2:q.Agg<=4) {x:X2} (hx:okE x):Xdq q x=some (if Xqi x then (rowJ q x,true) else (⟨0,⟨0,0⟩,⟨0,0⟩⟩,false)):=by
 obtain⟨_,_,_,a0,a1,_⟩:=hx
 unfold Xdq Xqi
 rw[Xc2 h1 h2 a0,Xc2 h1 h2 a1]
 simp only[Yo]
 by_cases c0:x.Values.e0.Count=0
 ·rw[if_pos c0];simp[c0]
 ·by_cases c1:x.Values.e1.Count=0
  ·rw[if_neg c0,if_pos c1];simp[c1]
  ·rw[if_neg c0,if_neg c1];simp[c0,c1,rowJ]
def Xa6 (q:X06) (l:List X2):List X13:=(l.filter Xqi).map fun x=>Xuy (rowJ q x)
theorem X97 {q:X06} (h1:1<=q.Agg) (h2:q.Agg<=4) (t u:X0a) (Y:List X2):∀ (xs:List X2) (k:Nat) (o:List X13),(∀ x∈xs,okE x)->o.length+xs.length<=100000->X3b q t u Y xs k o=some (.x0 (o++Xa6 q xs))
 |[],k,o,_,_=>by simp[X3b,Xa6]
 |x::xs,k,o,hx,hn=>by
  simp only[List.length_cons] at hn
  rw[X3b,Xn1 h1 h2 (hx x List.mem_cons_self),Yo]
  unfold Xa6
  rw[List.filter_cons]
  cases hb:Xqi x with
  |false =>
   simp only[Bool.false_eq_true,if_false,cond_false,Yo]
   exact X97 h1 h2 t u Y xs (k+1) o (fun y hy=>hx y (List.mem_cons_of_mem _ hy)) (by omega)
  |true =>
   simp only[if_true,cond_true]
   rw[X2n (by simp;omega)]
   simp only[Yo]
   rw[X97 h1 h2 t u Y xs (k+1) _ (fun y hy=>hx y (List.mem_cons_of_mem _ hy)) (by simp;omega)]
   simp[Xa6,Xuy]
theorem Xiy (q:X06) (l:List X2):(Xa6 q l).length<=l.length:=by unfold Xa6;rw[List.length_map];exact List.length_filter_le _ _
theorem Xrl (q:X06) {l:List X2} (h:∀ x∈l,okE x):(Xa6 q l).all sOK=true:=by
 rw[List.all_eq_true]
 intro s hs
 obtain⟨x,hx,rfl⟩:=List.mem_map.1 hs
 exact Xux (Xyd (h x (List.mem_filter.1 hx).1) _ rfl)
theorem Xb9 {q:X06} (hq:QW q):X6s q=some (decide ((Xrr q).2=0)&&q.Join):=by
 unfold X6s
 rw[Xho hq,Yo]
 by_cases h:(Xrr q).2=0
 ·rw[h,Yt rfl];cases q.Join<;>rfl
 ·rw[show((Xrr q).2==0)=false by simpa using h,Yf h];rfl
end Go.D


namespace Go.D
theorem Xx8 {t:X0a} (h:tOK t=true) (hk:t.Op.Kind=5):Xid t.Marks=true/\t.Marks.length=2:=by
 obtain⟨o1,o2,o3,o4,o5⟩:=Xgn h
 have h2l:t.Marks.length=2:=by
  unfold Xd9 at o2
  simp only[Bool.and_eq_true,decide_eq_true_eq] at o2
  obtain⟨⟨⟨⟨⟨⟨_,h2⟩,h3⟩,_⟩,_⟩,_⟩,_⟩:=o2
  rw[hk] at h2 h3
  have h2':(2:Int)<=t.Marks.length:=h2
  have h3':(t.Marks.length:Int)<=2:=h3
  omega
 refine⟨?_,h2l⟩
 unfold Xl1 at o5
 simp only[Bool.and_eq_true] at o5
 unfold Xid
 rw[Yt (by omega),Yt (by omega),o5.1.1.1.1];rfl
theorem Xz6 (q:X06):∃ b,X95 q=some b:=by
 unfold X95
 cases decide ((List.length q.Arg:Int)>100)<;>cases decide ((List.length q.Where:Int)>100)<;>exact⟨_,rfl⟩
end Go.D


namespace Go.D
theorem Xzw:Xax=some true:=by decide +kernel
end Go.D


namespace Go.D
end Go.D


namespace Go.D
def Xkm (r:Xl):Xh:=⟨1,r,0,⟨0,⟨0,0⟩,⟨0,0⟩⟩⟩
def X6j (t:Int):Xh:=⟨2,⟨0,0,0⟩,t,⟨0,⟨0,0⟩,⟨0,0⟩⟩⟩
def low:Int := -9223372036854775808
theorem Xed {w:X0n} {L:List Pu} {es:List X2} (hw:okW w) (hL:Xqy w L) (c:X7r w L es):Xoi es=true:=Xjl.2 ⟨Xe2 hw hL c,c.sorted⟩
theorem Xvb {t:Int} (ht:Xii t=true):mOK (X6j t)=true:=by
 have:=Xnn t
 unfold X6j;rw[this];exact ht
theorem Xwa {t:Int} (ht:Xii t=true):t>low/\mkL t=true:=by
 refine⟨?_,by unfold mkL;rw[ht];simp⟩
 unfold Xii isT at ht
 unfold low
 simp only[Bool.or_eq_true,Bool.and_eq_true,decide_eq_true_eq,beq_iff_eq] at ht
 omega
theorem Xko {l:List Xl} {ins:List Int} (hn:ins.length=l.length):(l.zip ins).map (·.2)=ins/\(l.zip ins).map (fun p=>Xkm p.1)=l.map Xkm:=by
 have h1:(l.zip ins).map Prod.fst=l:=List.map_fst_zip (by omega)
 have h2:(l.zip ins).map Prod.snd=ins:=List.map_snd_zip (by omega)
 refine⟨h2,?_⟩
 have:(l.zip ins).map (fun p=>Xkm p.1)=((l.zip ins).map Prod.fst).map Xkm:=by rw[List.map_map];rfl
 rw[this,h1]
theorem Xot {w:X0n} {l:List Xl} {ins:List Int} (hn:ins.length=l.length) (hl:l.length<=20) (g1:∀ x∈l,isT x.Time=true) (g2:∀ i∈ins,i=0\/i=1):Xqy w (l.zip ins):=by
 refine⟨fun p hp=>?_,fun p hp=>g2 _ (List.of_mem_zip hp).2,by rw[List.length_zip];omega⟩
 have:=g1 _ (List.of_mem_zip hp).1
 unfold isT at this
 simp only[Bool.and_eq_true,decide_eq_true_eq] at this
 exact this
theorem Xxn {α β:Type} {l:List α} {m:List β} (h:m.length=l.length):l.reverse.zip m.reverse=(l.zip m).reverse:=by
 apply List.ext_getElem
 ·simp
 ·intro i h1 h2
  simp[List.getElem_reverse,h]
end Go.D


namespace Go.D
theorem Xjv {q:X06} (hq:RQ q) (hj:q.Join=true) {t:X0a} (hok:tOK t=true) (hk:t.Op.Kind=5) (hp:t.Pending=[]) {i:Int} (hi:i=0\/i=1) {m:Xh} (hm:mOK m=true) (hmk:m.Kind=1) {S:List X2} (hS:X54 t.Store q.Window m.Record i=some (S,0)) (hok2:tOK { t with Store:=S }=true) :
  X4q q t i m=some ({ t with Store:=S },0):=by
 have hi0:¬ i<0:=by omega
 have hi1:¬ i>1:=by omega
 have hpl:¬ (List.length t.Pending:Int)>0:=by rw[hp];decide
 have hkk:(bif (m.Kind != 1) then (m.Kind != 2) else false)=false:=by rw[hmk];rfl
 have hbase:∀ r,(bif (m.Kind==(1:Int)) then ((X54 t.Store q.Window m.Record i).bind fun v13=>bif (v13.2 != (0:Int)) then (some (t0,v13.2)) else ((X3d (X0a.mk t.Op t.Turn t.Pending t.Marks v13.1 t.Events t.Rows t.Late) ([]:List X13)).bind fun v16=>some (v16.1,v16.2))) else ((X6b t.Marks i m.Time).bind fun v18=>bif (!v18.2.1) then ((X3d (X0a.mk t.Op t.Turn t.Pending v18.1 t.Store t.Events t.Rows t.Late) ([]:List X13)).bind fun v21=>some (v21.1,v21.2)) else ((X59 v18.1).bind fun v23=>(X7a t.Store v23.1).bind fun v25=>(X5q (List.length v25.1)).bind fun u27=>(X3b q (X0a.mk t.Op t.Turn t.Pending v18.1 v25.2.1 t.Events t.Rows t.Late) t0 v25.1 v25.1 0 ([]:List X13)).bind fun o90=>match o90 with|.x0 X2a=>((X3d (X0a.mk t.Op t.Turn t.Pending v18.1 v25.2.1 t.Events t.Rows t.Late) X2a).bind fun v92=>some (v92.1,v92.2)))):Option (X0a×Int))=r->X4q q t i m=r:=by
  intro r hr
  unfold X4q
  rw[Xb9 hq.w,hq.ok,hj,Xao,if_pos hok,show(t.Op.Kind != 5)=false by simpa using hk,Yf hi0,Yf hi1,X35,if_pos hm,hkk,Yf hpl]
  exact hr
 have hpend:∀ (u:X0a),u.Pending=[]->∀ L:List X13,L.all sOK=true->L.length<=4000->X3d u L=some (if tOK u then ({ u with Pending:=L },0) else (t0,8)):=by
  intro u hu L h1 h2
  rw[Xf3 hu (by omega),if_pos h1,if_neg (show ¬ L.length>4000 by omega)]
 have hPe:=hpend ⟨t.Op,t.Turn,t.Pending,t.Marks,S,t.Events,t.Rows,t.Late⟩ hp [] rfl (by simp)
 refine hbase _ ?_
 rw[show(m.Kind==1)=true by simpa using hmk,cond_true,hS,Yo]
 simp only[bne_self_eq_false,cond_false]
 rw[hPe,if_pos hok2,Yo]
 simp only[<-hp]
theorem Xih {q:X06} (hq:RQ q) (hj:q.Join=true) {t:X0a} (hok:tOK t=true) (hk:t.Op.Kind=5) (hp:t.Pending=[]) {j:Nat} (hjl:j<2) {m:Xh} (hm:mOK m=true) (hmk:m.Kind=2)
  (hok2:∀ S:List X2,S.Sublist t.Store->tOK { t with Marks:=X3u t.Marks j m.Time,Store:=S }=true) :
  (¬ Xcr (X3u t.Marks j m.Time)>Xcr t.Marks/\X4q q t (j:Int) m=some ({ t with Marks:=X3u t.Marks j m.Time },0)) \/
  (Xcr (X3u t.Marks j m.Time)>Xcr t.Marks/\X4q q t (j:Int) m=some ({ t with Marks:=X3u t.Marks j m.Time,Store:=Xaq (Xcr (X3u t.Marks j m.Time)) t.Store,Pending:=Xa6 q (X4r (Xcr (X3u t.Marks j m.Time)) t.Store) },0)):=by
 have hf:=hq.facts
 obtain⟨o1,o2,o3,o4,o5⟩:=Xgn hok
 obtain⟨l1,l2,l3,l4,l5,l6⟩:=Xec o2
 have hi0:¬ (j:Int)<0:=by omega
 have hi1:¬ (j:Int)>1:=by omega
 have hpl:¬ (List.length t.Pending:Int)>0:=by rw[hp];decide
 have hkk:(bif (m.Kind != 1) then (m.Kind != 2) else false)=false:=by rw[hmk];rfl
 have hbase:∀ r,(bif (m.Kind==(1:Int)) then ((X54 t.Store q.Window m.Record (j:Int)).bind fun v13=>bif (v13.2 != (0:Int)) then (some (t0,v13.2)) else ((X3d (X0a.mk t.Op t.Turn t.Pending t.Marks v13.1 t.Events t.Rows t.Late) ([]:List X13)).bind fun v16=>some (v16.1,v16.2))) else ((X6b t.Marks (j:Int) m.Time).bind fun v18=>bif (!v18.2.1) then ((X3d (X0a.mk t.Op t.Turn t.Pending v18.1 t.Store t.Events t.Rows t.Late) ([]:List X13)).bind fun v21=>some (v21.1,v21.2)) else ((X59 v18.1).bind fun v23=>(X7a t.Store v23.1).bind fun v25=>(X5q (List.length v25.1)).bind fun u27=>(X3b q (X0a.mk t.Op t.Turn t.Pending v18.1 v25.2.1 t.Events t.Rows t.Late) t0 v25.1 v25.1 0 ([]:List X13)).bind fun o90=>match o90 with|.x0 X2a=>((X3d (X0a.mk t.Op t.Turn t.Pending v18.1 v25.2.1 t.Events t.Rows t.Late) X2a).bind fun v92=>some (v92.1,v92.2)))):Option (X0a×Int))=r->X4q q t (j:Int) m=r:=by
  intro r hr
  unfold X4q
  rw[Xb9 hq.w,hq.ok,hj,Xao,if_pos hok,show(t.Op.Kind != 5)=false by simpa using hk,Yf hi0,Yf hi1,X35,if_pos hm,hkk,Yf hpl]
  exact hr
 have hpend:∀ (u:X0a),u.Pending=[]->∀ L:List X13,L.all sOK=true->L.length<=4000->X3d u L=some (if tOK u then ({ u with Pending:=L },0) else (t0,8)):=by
  intro u hu L h1 h2
  rw[Xf3 hu (by omega),if_pos h1,if_neg (show ¬ L.length>4000 by omega)]
 obtain⟨hms,hml⟩:=Xx8 hok hk
 have ht:Xii m.Time=true:=by
  unfold mOK at hm
  rw[if_neg (by omega),if_pos hmk] at hm
  simp only[Bool.and_eq_true] at hm
  exact hm.1
 have hR:=Xie hms (show j<t.Marks.length by omega) ht
 have hmr:Xid (X3u t.Marks j m.Time)=true:=(Xx8 (hok2 _ (List.Sublist.refl _)) hk).1
 by_cases hgr:Xcr (X3u t.Marks j m.Time)>Xcr t.Marks
 ·refine .inr ⟨hgr,?_⟩
  have hokE:=(Xjl.1 o4).1
  have hfl:=Xey (Xcr (X3u t.Marks j m.Time)) t.Store
  have hsl:=Xiy q (X4r (Xcr (X3u t.Marks j m.Time)) t.Store)
  have hPe:=hpend ⟨t.Op,t.Turn,t.Pending,X3u t.Marks j m.Time,Xaq (Xcr (X3u t.Marks j m.Time)) t.Store,t.Events,t.Rows,t.Late⟩ hp _ (Xrl q (l:=X4r (Xcr (X3u t.Marks j m.Time)) t.Store) fun x hx=>hokE x (Xj9 hx)) (by omega)
  have hk2:tOK ⟨t.Op,t.Turn,t.Pending,X3u t.Marks j m.Time,Xaq (Xcr (X3u t.Marks j m.Time)) t.Store,t.Events,t.Rows,t.Late⟩=true:=hok2 _ List.filter_sublist
  refine hbase _ ?_
  rw[show(m.Kind==1)=false by simp;omega,cond_false,hR,Yo,Yt hgr]
  simp only[Bool.not_true,cond_false]
  rw[Xcs,if_pos hmr,Yo]
  simp only
  rw[Xjj o4 (by omega),Yo]
  simp only
  rw[X36 (by omega),Yo,X97 hf.1.1 hf.1.2.1 _ _ _ _ 0 [] (fun x hx=>hokE x (Xj9 hx)) (by simp;omega),Yo]
  simp only[List.nil_append]
  rw[hPe,if_pos hk2,Yo]
 ·refine .inl ⟨hgr,?_⟩
  have hPe:=hpend ⟨t.Op,t.Turn,t.Pending,X3u t.Marks j m.Time,t.Store,t.Events,t.Rows,t.Late⟩ hp [] rfl (by simp)
  have hk2:tOK ⟨t.Op,t.Turn,t.Pending,X3u t.Marks j m.Time,t.Store,t.Events,t.Rows,t.Late⟩=true:=hok2 _ (List.Sublist.refl _)
  refine hbase _ ?_
  rw[show(m.Kind==1)=false by simp;omega,cond_false,hR,Yo,Yf hgr]
  simp only[Bool.not_false,cond_true]
  rw[hPe,if_pos hk2,Yo]
  simp only[<-hp]
def jT (ms:List Int) (es:List X2):X0a:=⟨⟨5,0⟩,0,[],ms,es,[],[],[]⟩
theorem Xvi {ms:List Int} {es:List X2} (h1:ms.length=2) (h2:ms.all mkL=true) (h3:Xoi es=true) (h4:es.length<=4000):tOK (jT ms es)=true:=by
 unfold tOK Xpi Xd9 Xl1 jT
 simp only[h1,h2,h3,Xcz,Xbc,List.length_nil,List.all_nil]
 simp
 omega
theorem Xji (ins:List Int) (ms:List Xh) (q:X06) (t u s:X0a) (z:Int) (hl:s.Pending.length<=100000):∀ (m n i:Nat) (rows:List X1x),m=s.Pending.length - i->m<n->i<=s.Pending.length->rows.length+m<=200000 ->
  X43 ins ms q t u z s n rows (i:Int)=some (.x0 (rows++(s.Pending.drop i).map fun p=>p.Message.Row)):=by
 intro m
 induction m with
 |zero =>
  intro n i rows hm hmn hi _
  obtain⟨n,rfl⟩:∃ q,n=q+1:=⟨n - 1,by omega⟩
  rw[X43,Yf (by omega),List.drop_eq_nil_of_le (by omega)];simp
 |succ m ih =>
  intro n i rows hm hmn hi hrl
  obtain⟨n,rfl⟩:∃ q,n=q+1:=⟨n - 1,by omega⟩
  have hlt:i<s.Pending.length:=by omega
  rw[X43,Yt (by omega),cond_true,X4f,Ye hlt,Yo,X2n (by simp;omega),Yo,X0m (by omega) (by omega),show((i:Int)+1)=((i+1:Nat):Int) by omega,ih n (i+1) _ (by omega) (by omega) (by omega) (by simp;omega),List.drop_eq_getElem_cons hlt,List.map_cons,List.append_assoc,List.singleton_append]
theorem Xiv {q:X06} (hq:RQ q) (hj:q.Join=true) (ins:List Int) (Y:List Xh) (t0':X0a) (rest:List Xh) (rows:List X1x):∀ (ps L:List Pu) (es:List X2) (k:Nat),(∀ i p,ps[i]?=some p->ins[k+i]?=some p.2)->Xqy q.Window (L++ps)->X7r q.Window L es->es.length+16*ps.length<=3900->rows.length<=1000 ->
  ∃ es',X0s ins Y q t0' (ps.map (fun p=>Xkm p.1)++rest) k (jT [low,low] es) rows=X0s ins Y q t0' rest (k+ps.length) (jT [low,low] es') rows/\X7r q.Window (L++ps) es'/\es'.length<=es.length+16*ps.length
 |[],L,es,k,_,_,c,_,_=>⟨es,by simp,by simpa using c,by simp⟩
 |p::ps,L,es,k,hin,hL,c,hn,hr=>by
  simp only[List.length_cons] at hn
  have hL1:Xqy q.Window (L++[p]):=by
   have e:L++p::ps=(L++[p])++ps:=by simp
   rw[e] at hL
   exact⟨fun x hx=>hL.time x (List.mem_append_left _ hx),fun x hx=>hL.side x (List.mem_append_left _ hx),by have:=hL.len;simp at this ⊢;omega⟩
  have hw:=hq.facts.2.2.2.2.1
  obtain⟨es1,h1,c1,l1⟩:=Xf5 hw hL1 c (by omega)
  have hlow:([low,low]:List Int).all mkL=true:=by decide
  have hT:=Xjv hq hj (t:=jT [low,low] es) (Xvi rfl hlow (Xed hw hL1.init c) (by omega)) rfl rfl (hL1.side p (by simp)) (m:=Xkm p.1) (by
   have:=hL1.time p (by simp)
   unfold okT at this
   unfold mOK Xkm isT
   simp[row0,this.1,this.2]) rfl h1 (Xvi rfl hlow (Xed hw hL1 c1) (by omega))
  obtain⟨es',h2,c2,l2⟩:=Xiv hq hj ins Y t0' rest rows ps (L++[p]) es1 (k+1) (fun i x hx=>by have:=hin (i+1) x (by simpa using hx);rwa [show k+1+i=k+(i+1) by omega]) (by simpa using hL) c1 (by omega) hr
  refine⟨es',?_,by simpa using c2,by simp only[List.length_cons];omega⟩
  rw[List.map_cons,List.cons_append,X0s,X4f,show ins[k]?=some p.2 by simpa using hin 0 p rfl,Yo,hT,Yo]
  simp only[bne_self_eq_false,cond_false]
  have hL1':=Xji ins Y q t0' (jT [low,low] es) (jT [low,low] es1) (k:Int) (by simp[jT]) 0 FU 0 rows (by simp[jT]) (by unfold FU;omega) (by simp) (by omega)
  rw[show((0:Nat):Int)=0 from rfl] at hL1'
  have e1:({ jT [low,low] es with Store:=es1 }:X0a)=jT [low,low] es1:=rfl
  rw[e1,hL1',Yo]
  simp only[jT,List.drop_nil,List.map_nil,List.append_nil]
  rw[show k+(p::ps).length=k+1+ps.length by simp;omega]
  exact h2
end Go.D


namespace Go.D
def Xi6 (q:X06) (l:List X2):List X1x:=(l.filter Xqi).map (rowJ q)
theorem Xos {q:X06} (hq:RQ q) (hj:q.Join=true) {ms ms':List Int} {es:List X2} (h1:ms.length=2) (h2:ms.all mkL=true) (h1':ms'.length=2) (h2':ms'.all mkL=true) (h3:Xoi es=true) (h4:es.length<=4000) {t:Int} (ht:Xii t=true) {a:Nat} (ha:a<2) (hr:X3u ms a t=ms') :
  (¬ Xcr ms'>Xcr ms/\X4q q (jT ms es) (a:Int) (X6j t)=some (jT ms' es,0)) \/
  (Xcr ms'>Xcr ms/\X4q q (jT ms es) (a:Int) (X6j t)=some ({ jT ms' (Xaq (Xcr ms') es) with Pending:=Xa6 q (X4r (Xcr ms') es) },0)):=by
 have h:=Xih hq hj (t:=jT ms es) (Xvi h1 h2 h3 h4) rfl rfl ha (m:=X6j t) (Xvb ht) rfl (fun S hS=>by
  have e:X3u (jT ms es).Marks a (X6j t).Time=ms':=hr
  rw[e]
  exact Xvi (ms:=ms') h1' h2' (Xus hS h3) (by have:=hS.length_le;have e2:(jT ms es).Store=es:=rfl;rw[e2] at this;omega))
 have e:X3u (jT ms es).Marks a (X6j t).Time=ms':=hr
 rw[e] at h
 exact h
theorem Xmg {q:X06} (hq:RQ q) (hj:q.Join=true) (ins:List Int) (Y:List Xh) (t0':X0a) {t:Int} (ht:Xii t=true) {es:List X2} (h3:Xoi es=true) (h4:es.length<=4000) (rows:List X1x) (hr:rows.length<=1000) {k a b:Nat} (hab:(a=0/\b=1)\/(a=1/\b=0)) (ha:ins[k]?=some (a:Int)) (hb:ins[k+1]?=some (b:Int)) :
  X0s ins Y q t0' [X6j t,X6j t] k (jT [low,low] es) rows=some (.x0 (jT [t,t] (Xaq t es)) (rows++Xi6 q (X4r t es))):=by
 obtain⟨hl,hm⟩:=Xwa ht
 have hlow:mkL low=true:=by decide
 have hl0:Xcr [low,low]=low:=by unfold Xcr minF;simp[low]
 have hl1:Xcr [t,low]=low:=by unfold Xcr minF;simp[hl]
 have hl2:Xcr [low,t]=low:=by
  unfold Xcr minF;simp only[List.foldl_cons,List.foldl_nil]
  rw[if_neg (by omega)]
 have hl3:Xcr [t,t]=t:=by unfold Xcr minF;simp
 have step:∀ ms1:List Int,ms1.length=2->ms1.all mkL=true->Xcr ms1=low->X3u [low,low] a t=ms1->X3u ms1 b t=[t,t] ->
   X0s ins Y q t0' [X6j t,X6j t] k (jT [low,low] es) rows=some (.x0 (jT [t,t] (Xaq t es)) (rows++Xi6 q (X4r t es))):=by
  intro ms1 n1 n2 n3 n4 n5
  have ha2:a<2:=by omega
  have hb2:b<2:=by omega
  rw[X0s,X4f,ha,Yo]
  rcases Xos hq hj (ms:=[low,low]) (es:=es) rfl (by simp[hlow]) n1 n2 h3 h4 ht ha2 n4 with ⟨g,hT⟩|⟨g,_⟩
  rotate_left
  ·exfalso;rw[n3,hl0] at g;omega
  rw[hT,Yo]
  simp only[bne_self_eq_false,cond_false]
  have e1:=Xji ins Y q t0' (jT [low,low] es) (jT ms1 es) (k:Int) (by simp[jT]) 0 FU 0 rows (by simp[jT]) (by unfold FU;omega) (by simp) (by omega)
  rw[show((0:Nat):Int)=0 from rfl] at e1
  rw[e1,Yo]
  have e2:∀ X:List X1x,X0s ins Y q t0' [X6j t] (k+1) (X0a.mk (jT ms1 es).Op (jT ms1 es).Turn [] (jT ms1 es).Marks (jT ms1 es).Store (jT ms1 es).Events (jT ms1 es).Rows (jT ms1 es).Late) X=X0s ins Y q t0' [X6j t] (k+1) (jT ms1 es) X:=fun X=>rfl
  simp only[]
  rw[e2,X0s,X4f,hb,Yo]
  rcases Xos hq hj (ms:=ms1) (es:=es) n1 n2 (ms':=[t,t]) rfl (by simp[hm]) h3 h4 ht hb2 n5 with ⟨g,_⟩|⟨g,hT2⟩
  ·exfalso;rw[n3,hl3] at g;omega
  rw[hl3] at hT2
  rw[hT2,Yo]
  simp only[bne_self_eq_false,cond_false]
  have hfl:=Xey t es
  have hsl:=Xiy q (X4r t es)
  have e3:=Xji ins Y q t0' (jT ms1 es) { jT [t,t] (Xaq t es) with Pending:=Xa6 q (X4r t es) } ((k+1:Nat):Int) (by simp only;omega) ((Xa6 q (X4r t es)).length - 0) FU 0 (rows++((jT ms1 es).Pending.drop 0).map fun p=>p.Message.Row) rfl (by unfold FU;omega) (by simp) (by simp[jT];omega)
  rw[show((0:Nat):Int)=0 from rfl] at e3
  rw[e3,Yo]
  simp only[]
  have e4:(List.drop 0 (Xa6 q (X4r t es))).map (fun p=>p.Message.Row)=Xi6 q (X4r t es):=by
   rw[List.drop_zero];unfold Xa6 Xi6;rw[List.map_map];rfl
  rw[X0s]
  simp only[e4]
  simp[jT]
 rcases hab with ⟨rfl,rfl⟩|⟨rfl,rfl⟩
 ·refine step [t,low] rfl (by simp[hm,hlow]) hl1 ?_ ?_
  ·show[if t>low then t else low,low]=[t,low];rw[if_pos hl]
  ·show[t,if t>low then t else low]=[t,t];rw[if_pos hl]
 ·refine step [low,t] rfl (by simp[hm,hlow]) hl2 ?_ ?_
  ·show[low,if t>low then t else low]=[low,t];rw[if_pos hl]
  ·show[if t>low then t else low,t]=[t,t];rw[if_pos hl]
theorem Xog {q:X06} (hq:RQ q) (hj:q.Join=true) {ps:List Pu} (hL:Xqy q.Window ps) (hn:ps.length<=20) {t:Int} (ht:Xii t=true) {a b:Nat} (hab:(a=0/\b=1)\/(a=1/\b=0)) :
  ∃ es,X7r q.Window ps es/\es.length<=320/\X4j q (ps.map (·.2)++[(a:Int),(b:Int)]) (ps.map (fun p=>Xkm p.1)++[X6j t,X6j t])=some (jT [t,t] (Xaq t es),Xi6 q (X4r t es),true):=by
 have hw:=hq.facts.2.2.2.2.1
 obtain⟨es,h1,c,hl⟩:=Xiv hq hj (ps.map (·.2)++[(a:Int),(b:Int)]) (ps.map (fun p=>Xkm p.1)++[X6j t,X6j t]) t0 [X6j t,X6j t] [] ps [] [] 0 (fun i p hp=>by
  rw[Nat.zero_add]
  have hlt:i<ps.length:=(Ys.1 hp).1
  rw[List.getElem?_append_left (by simpa using hlt),List.getElem?_map,hp];rfl) (by simpa using hL) (Xth hw.1) (by simp;omega) (by simp)
 rw[List.nil_append] at c
 have hst:=Xed hw hL c
 simp only[List.length_nil,Nat.zero_add] at hl h1
 refine⟨es,c,by omega,?_⟩
 unfold X4j
 rw[show Xg7 0=some (⟨⟨5,0⟩,0,[],[-9223372036854775808,-9223372036854775808],[],[],[],[]⟩,0) by decide +kernel,Yo]
 simp only[bne_self_eq_false,cond_false]
 rw[X36 (by simp;omega),Yo]
 have h2:=Xmg hq hj (ps.map (·.2)++[(a:Int),(b:Int)]) (ps.map (fun p=>Xkm p.1)++[X6j t,X6j t]) t0 ht hst (by omega) [] (by simp) (k:=ps.length) hab (by
  rw[List.getElem?_append_right (by simp)];simp) (by
  rw[List.getElem?_append_right (by simp)];simp)
 have h3:=h1.trans h2
 have h3':X0s (ps.map (·.2)++[(a:Int),(b:Int)]) (ps.map (fun p=>Xkm p.1)++[X6j t,X6j t]) q (X0a.mk (GOp.mk 0 0) 0 ([]:List X13) ([]:List Int) ([]:List X2) ([]:List X1e) ([]:List X1x) ([]:List Xl)) (ps.map (fun p=>Xkm p.1)++[X6j t,X6j t]) 0 ⟨⟨5,0⟩,0,[],[-9223372036854775808,-9223372036854775808],[],[],[],[]⟩ []=some (.x0 (jT [t,t] (Xaq t es)) ([]++Xi6 q (X4r t es))):=h3
 rw[h3',Yo]
 rfl
end Go.D


namespace Go.D
theorem Xuz (r:Xl):X8w r=some (isT r.Time):=by
 unfold X8w isT
 simp only[ge_iff_le]
 cases decide (-1099511627776<=r.Time)<;>rfl
end Go.D


namespace Go.D
theorem Xor (ins:List Int) (l:List Xl) (q:X06) (b:Bool) (hn:ins.length=l.length) (hl:l.length<=1000):∀ (xs:List Xl) (k:Nat) (A B:List Xh) (C D:List Int),l.drop k=xs->k<=l.length->A.length+xs.length<=1000->B.length+xs.length<=1000->C.length+xs.length<=1000->D.length+xs.length<=1000 ->
  X1k ins l q b xs k A B C D=some .x1 \/
  (X1k ins l q b xs k A B C D=some (.x0 (A++xs.map Xkm) (B++(l.reverse.drop k).map Xkm) (C++ins.drop k) (D++ins.reverse.drop k))/\(∀ x∈xs,isT x.Time=true)/\(∀ i∈ins.drop k,i=0\/i=1))
 |[],k,A,B,C,D,h,hk,_,_,_,_=>by
  have hkl:l.length<=k:=List.drop_eq_nil_iff.1 h
  have h1:ins.drop k=[]:=List.drop_eq_nil_of_le (by omega)
  have h2:ins.reverse.drop k=[]:=List.drop_eq_nil_of_le (by rw[List.length_reverse];omega)
  have h3:l.reverse.drop k=[]:=List.drop_eq_nil_of_le (by rw[List.length_reverse];omega)
  refine .inr ⟨?_,fun x hx=>(by cases hx),fun i hi=>(by rw[h1] at hi;cases hi)⟩
  rw[X1k,h1,h2,h3];simp
 |x::xs,k,A,B,C,D,h,hk,hA,hB,hC,hD=>by
  simp only[List.length_cons] at hA hB hC hD
  have hkl:k<l.length:=by
   rcases Nat.lt_or_ge k l.length with g|g
   ·exact g
   ·rw[List.drop_eq_nil_of_le g] at h;cases h
  have hki:k<ins.length:=by omega
  have hd:l.drop (k+1)=xs:=by
   have:=congrArg List.tail h
   simpa using this
  have hw:IntKind.i64.wrap ((IntKind.i64.wrap ((List.length l:Int) - 1)) - (k:Int))=((l.length - 1 - k:Nat):Int):=by
   have e1:IntKind.i64.wrap ((List.length l:Int) - 1)=(List.length l:Int) - 1:=X0m (by omega) (by omega)
   rw[e1,X0m (by omega) (by omega)];omega
  have hlr:l.length - 1 - k<l.length:=by omega
  have hir:l.length - 1 - k<ins.length:=by omega
  have r1:l.reverse.drop k=l[l.length - 1 - k]::l.reverse.drop (k+1):=by
   rw[List.drop_eq_getElem_cons (by rw[List.length_reverse];exact hkl),List.getElem_reverse]
  have r2:ins.reverse.drop k=ins[l.length - 1 - k]::ins.reverse.drop (k+1):=by
   rw[List.drop_eq_getElem_cons (by rw[List.length_reverse];exact hki),List.getElem_reverse]
   simp only[hn]
  rw[X1k,Xuz,Yo,hw]
  simp only[X4f]
  rw[Ye hki,Yo]
  cases hx:isT x.Time with
  |false=>exact .inl rfl
  |true =>
   by_cases h0:ins[k]<0
   ·rw[Yt h0];exact .inl rfl
   ·rw[Yf h0]
    by_cases h1:ins[k]>1
    ·rw[Yt h1];exact .inl rfl
    ·rw[Yf h1]
     simp only[Bool.not_true,cond_false,Yo]
     rw[X2n (by simp;omega),Yo,Ye hlr,Yo,X2n (by simp;omega),Yo,X2n (by simp;omega),Yo,Ye hir,Yo,X2n (by simp;omega),Yo]
     rcases Xor ins l q b hn hl xs (k+1) (A++[Xkm x]) (B++[Xkm l[l.length - 1 - k]]) (C++[ins[k]]) (D++[ins[l.length - 1 - k]]) hd (by omega) (by simp;omega) (by simp;omega) (by simp;omega) (by simp;omega) with e|⟨e,g1,g2⟩
     ·exact .inl e
     ·refine .inr ⟨?_,fun y hy=>?_,fun i hi=>?_⟩
      ·refine Eq.trans e ?_
       rw[r1,r2,List.drop_eq_getElem_cons hki,List.map_cons,List.map_cons]
       simp only[List.append_assoc,List.singleton_append]
      ·rcases List.mem_cons.1 hy with rfl|hy
       ·exact hx
       ·exact g1 y hy
      ·rw[List.drop_eq_getElem_cons hki] at hi
       rcases List.mem_cons.1 hi with rfl|hi
       ·omega
       ·exact g2 i hi
theorem Xl7 (l Y:List X1x):∀ (xs:List X1x) (k:Nat),l.drop k=xs->X4k Y l xs k=some .x0
 |[],k,_=>rfl
 |x::xs,k,h=>by
  have hk:l[k]?=some x:=by
   have:=congrArg (fun z=>z[0]?) h
   simpa using this
  have hd:l.drop (k+1)=xs:=by
   have:=congrArg List.tail h
   simpa using this
  rw[X4k,X4f,hk,Yo,show Xdz x x=true by simp[Xdz,Xhh,Xhg]]
  exact Xl7 l Y xs (k+1) hd
theorem Xmj {l:List X1x} (h:l.length<=140737488355328):X8h l l=some true:=by
 unfold X8h
 rw[show((List.length l:Int) != (List.length l:Int))=false by simp,cond_false,X36 h,Yo,Xl7 l l l 0 rfl];rfl
theorem Xlc {q:X06} (hq:QW q) (ins:List Int) (l:List Xl):X5a q ins l=some true:=by
 unfold X5a
 rw[Xzw,Yo]
 obtain⟨g,hg⟩:=Xz6 q
 rw[hg,Yo,Xv0 hq]
 cases g with
 |true=>rfl
 |false =>
 by_cases ha:(Xrr q).2=0
 rotate_left
 ·rw[Yf ha];rfl
 rw[Yt ha]
 cases hj:q.Join with
 |false=>rfl
 |true =>
 by_cases hl:(List.length l:Int)>20
 ·rw[Yt hl];rfl
 rw[Yf hl]
 by_cases hn:ins.length=l.length
 rotate_left
 ·rw[show((List.length ins:Int) != (List.length l:Int))=true by simp;omega];rfl
 rw[show((List.length ins:Int) != (List.length l:Int))=false by simp[hn]]
 have hl':l.length<=20:=by omega
 simp only[cond_false,Yo,Bool.not_true]
 rw[X36 (by omega),Yo]
 rcases Xor ins l q true hn (by omega) l 0 [] [] [] [] rfl (by omega) (by simp;omega) (by simp;omega) (by simp;omega) (by simp;omega) with e|⟨e,g1,g2⟩
 ·rw[e];rfl
 rw[e,Yo]
 rw[List.drop_zero] at g2
 simp only[List.nil_append,List.drop_zero]
 have ht:Xii 9223372036854775807=true:=by decide
 rw[show Xae 9223372036854775807=some (X6j 9223372036854775807) from rfl,Yo,X2n (by simp;omega),Yo,X2n (by simp;omega),Yo]
 have hQ:RQ q:=⟨hq,ha⟩
 obtain⟨z1,z2⟩:=Xko hn
 have hn2:ins.reverse.length=l.reverse.length:=by simpa using hn
 obtain⟨z3,z4⟩:=Xko hn2
 have ok1:=Xot (w:=q.Window) hn hl' g1 g2
 have ok2:=Xot (w:=q.Window) hn2 (by simpa using hl') (fun x hx=>g1 x (List.mem_reverse.1 hx)) (fun i hi=>g2 i (List.mem_reverse.1 hi))
 obtain⟨es1,c1,s1,t1⟩:=Xog hQ hj ok1 (by rw[List.length_zip];omega) ht (a:=0) (b:=1) (.inl ⟨rfl,rfl⟩)
 obtain⟨es2,c2,s2,t2⟩:=Xog hQ hj ok2 (by rw[List.length_zip];simp;omega) ht (a:=0) (b:=1) (.inl ⟨rfl,rfl⟩)
 rw[z1,z2] at t1
 rw[z3,z4] at t2
 rw[Xxn hn] at c2
 have he:es2=es1:=X7r.unique c2 (c1.perm (List.reverse_perm _).symm (by rw[List.length_zip];omega))
 rw[he] at t2
 have t1':X4j q (ins++[0,1]) (l.map Xkm++[X6j 9223372036854775807,X6j 9223372036854775807])=some (jT [9223372036854775807,9223372036854775807] (Xaq 9223372036854775807 es1),Xi6 q (X4r 9223372036854775807 es1),true):=t1
 have t2':X4j q (ins.reverse++[0,1]) (l.reverse.map Xkm++[X6j 9223372036854775807,X6j 9223372036854775807])=some (jT [9223372036854775807,9223372036854775807] (Xaq 9223372036854775807 es1),Xi6 q (X4r 9223372036854775807 es1),true):=t2
 rw[t1',Yo,X2n (by simp;omega),Yo,X2n (by simp;omega),Yo,t2',Yo]
 have hr:Xaq 9223372036854775807 es1=[]:=by
  unfold Xaq
  rw[List.filter_eq_nil_iff]
  intro x hx
  have:=(Xe2 hQ.facts.2.2.2.2.1 ok1 c1 x hx).2.2.1
  have h2:x.Span.End<=9223372036854775807:=by omega
  simp[h2]
 have hXl:(Xi6 q (X4r 9223372036854775807 es1)).length<=100000:=by
  unfold Xi6
  rw[List.length_map]
  have h1:=List.length_filter_le Xqi (X4r 9223372036854775807 es1)
  have h2:=Xey 9223372036854775807 es1
  omega
 simp only[cond_true]
 rw[Xmj (by omega)]
 simp[jT,hr]
theorem Xdn (q:X06) (ins:List Int) (l:List Xl) (w0:Xgj q) {P:Prop} (_:P) {P2:Prop} (_:P2):X5a q ins l=some true:=Xlc (X028 w0) ins l
end Go.D
