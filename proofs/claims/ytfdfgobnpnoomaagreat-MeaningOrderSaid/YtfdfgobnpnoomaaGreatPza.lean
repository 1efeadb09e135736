/- Parts of the proof, laid together. -/
import Derived.Test.YtfdfgobnpnoomaaGreatDFunZ
set_option linter.all false

namespace Go.D
theorem X0e {z:Int} (h1 : -9223372036854775808<=z) (h2:z<=9223372036854775807):IntKind.i64.wrap z=z:=Go.IntWalk.i64_in z ⟨h1,h2⟩
theorem X31 {n:Nat} (h:n<=140737488355328):X4b n=some ():=by unfold X4b;rw[if_pos h]
theorem X5c {n b:Nat} (h:n*b<=140737488355328):X1u n b=some ():=by unfold X1u;rw[if_pos h]
theorem X58 {α:Type} (l:List α) (k:Nat):X1w l (k:Int)=l[k]?:=by simp[X1w]
def ltE (a b:X5):Prop:=a.Span.End<b.Span.End\/a.Span.End=b.Span.End/\(a.Span.Start<b.Span.Start\/a.Span.Start=b.Span.Start/\a.Key<b.Key)
instance (a b:X5):Decidable (ltE a b):=by unfold ltE;infer_instance
def X4j (a b:X5):Prop:=a.Key=b.Key/\a.Span=b.Span
instance (a b:X5):Decidable (X4j a b):=by unfold X4j;infer_instance
theorem Xfw {a b:X0n} (h1:a.Start=b.Start) (h2:a.End=b.End):a=b:=by cases a;cases b;simp_all
theorem Xh6 {a b c:X5} (h:ltE a b) (k:ltE b c):ltE a c:=by unfold ltE at *;omega
theorem Xed (a:X5):¬ ltE a a:=by unfold ltE;omega
theorem Xtx {a b:X5} (h:ltE a b):¬ ltE b a:=by unfold ltE at *;omega
theorem Xh7 {a b:X5}:ltE a b\/X4j a b\/ltE b a:=by
 by_cases h:X4j a b
 ·exact .inr (.inl h)
 ·have:¬ (a.Key=b.Key/\a.Span.Start=b.Span.Start/\a.Span.End=b.Span.End):=fun⟨h1,h2,h3⟩=>h ⟨h1,Xfw h2 h3⟩
  unfold ltE;omega
theorem sameK_ltE {a b c:X5} (h:X4j a b):ltE c a↔ltE c b:=by unfold X4j at h;unfold ltE;rw[h.1,h.2]
theorem X9y {a b c:X5} (h:X4j a b):ltE a c↔ltE b c:=by unfold X4j at h;unfold ltE;rw[h.1,h.2]
theorem X99 {a b:X5} (h:X4j a b):¬ ltE a b:=by unfold X4j at h;unfold ltE;rw[h.1,h.2];omega
def cmpI (a b:Int):Int:=if a<b then -1 else if a>b then 1 else 0
theorem X03t (a b:Int):X2f a b=some (cmpI a b):=by
 simp only[X2f,X4y,bne_self_eq_false,Yo,cond_false,cmpI]
 by_cases h1:a<b
 ·simp[h1]
 ·by_cases h2:a>b
  ·simp[h1,h2]
  ·simp[h1,h2]
def Xwd (a b:X5):Int:=if ltE a b then -1 else if ltE b a then 1 else 0
theorem X9k (a b:X5):X5p a b=some (Xwd a b):=by
 simp only[X5p,X03t,Yo,Xcf,X53,List.length_cons,List.length_nil]
 rw[X31 (by omega)]
 simp only[Yo,Xwd,ltE,cmpI]
 by_cases h1:a.Span.End<b.Span.End
 ·simp[h1]
 ·by_cases h2:a.Span.End>b.Span.End
  ·have:¬ a.Span.End=b.Span.End:=by omega
   simp[h1,h2,this]
  ·have he:a.Span.End=b.Span.End:=by omega
   by_cases h3:a.Span.Start<b.Span.Start
   ·simp[he,h3]
   ·by_cases h4:a.Span.Start>b.Span.Start
    ·have:¬ a.Span.Start=b.Span.Start:=by omega
     simp[he,h3,h4,this]
    ·have hs:a.Span.Start=b.Span.Start:=by omega
     by_cases h5:a.Key<b.Key
     ·simp[he,hs,h5]
     ·by_cases h6:a.Key>b.Key
      ·simp[he,hs,h5,h6]
      ·simp[he,hs,h5,h6]
theorem Xn5 {a b:X5}:Xwd a b<0↔ltE a b:=by
 unfold Xwd
 by_cases h:ltE a b
 ·simp[h]
 ·by_cases h2:ltE b a<;>simp[h,h2]
theorem X00c {a b:X5}:Xwd a b=0↔X4j a b:=by
 unfold Xwd
 by_cases h:ltE a b
 ·simp[h];exact fun hs=>X99 hs h
 ·by_cases h2:ltE b a
  ·simp[h,h2];exact fun hs=>h ((X9y hs).2 ((sameK_ltE hs).1 h2))
  ·simp[h,h2]
   rcases Xh7 (a:=a) (b:=b) with h3|h3|h3
   ·exact absurd h3 h
   ·exact h3
   ·exact absurd h3 h2
theorem X00b {a b:X5}:0<=Xwd a b↔¬ ltE a b:=by rw[<-Xn5];omega
def okA (a:X12):Prop:=(a.Count=0/\a=⟨0,0,0,0⟩)\/(a.Count=1/\a.Sum=a.Min/\a.Sum=a.Max)\/(1<a.Count/\a.Count<=1073741824/\a.Min<=a.Max)
theorem X3v {a:X12} (h:okA a):X2u a=some 0:=by
 rcases h with ⟨h1,h2⟩|⟨h1,h2,h3⟩|⟨h1,h2,h3⟩
 ·subst h2;rfl
 ·have h3':a.Min=a.Max:=by omega
  simp[X2u,h1,h2,h3']
 ·have e0:(a.Count==0)=false:=by simp;omega
  have e1:(a.Count==1)=false:=by simp;omega
  simp[X2u,e0,e1,h1,h2,h3]
def X39 (a b:X12):X12 :=
 if a.Count=0 then b else if b.Count=0 then a else ⟨a.Count+b.Count,IntKind.i64.wrap (a.Sum+b.Sum),if b.Min<a.Min then b.Min else a.Min,if b.Max>a.Max then b.Max else a.Max⟩
theorem Xa1 {a:X12} (h:okA a):0<=a.Count/\a.Count<=1073741824:=by
 rcases h with ⟨h1,_⟩|⟨h1,_⟩|⟨h1,h2,_⟩<;>omega
theorem X3o {a b:X12} (ha:okA a) (hb:okA b) (hc:a.Count+b.Count<=1073741824):X24 a b=some (X39 a b,0):=by
 have h1:=Xa1 ha
 have h2:=Xa1 hb
 simp only[X24,X3v ha,X3v hb,Yo,bne_self_eq_false,cond_false,X39]
 rw[X0e (by omega) (by omega)]
 have e0:decide (a.Count+b.Count>1073741824)=false:=by simp;omega
 rw[e0,cond_false]
 by_cases h3:a.Count=0
 ·have e1:(a.Count==0)=true:=by simp[h3]
  rw[e1,cond_true,if_pos h3]
 ·have e1:(a.Count==0)=false:=by simp[h3]
  rw[e1,cond_false,if_neg h3]
  by_cases h4:b.Count=0
  ·have e2:(b.Count==0)=true:=by simp[h4]
   rw[e2,cond_true,if_pos h4]
  ·have e2:(b.Count==0)=false:=by simp[h4]
   rw[e2,cond_false,if_neg h4]
theorem Xtl {a:X12} (h:okA a):a.Min<=a.Max:=by
 rcases h with ⟨_,h2⟩|⟨_,h2,h3⟩|⟨_,_,h3⟩
 ·subst h2;decide
 ·omega
 ·exact h3
theorem Xxg {a b:X12} (ha:okA a) (hb:okA b) (hc:a.Count+b.Count<=1073741824):okA (X39 a b):=by
 unfold X39
 have h1:=Xa1 ha
 have h2:=Xa1 hb
 by_cases h3:a.Count=0
 ·rw[if_pos h3];exact hb
 ·rw[if_neg h3]
  by_cases h4:b.Count=0
  ·rw[if_pos h4];exact ha
  ·rw[if_neg h4]
   have m1:=Xtl ha
   have m2:=Xtl hb
   refine .inr (.inr ⟨?_,hc,?_⟩)
   ·show 1<a.Count+b.Count;omega
   ·show(if b.Min<a.Min then b.Min else a.Min)<=(if b.Max>a.Max then b.Max else a.Max)
    split<;>split<;>omega
def okE (x:X5):Prop := -1100585369600<=x.Span.Start/\x.Span.Start<x.Span.End/\x.Span.End<=1100585369600/\okA x.Values.e0/\okA x.Values.e1/\0<x.Values.e0.Count+x.Values.e1.Count
theorem Xcl {x:X5} (h:okE x):X8e x=some true:=by
 obtain⟨h1,h2,h3,h4,h5,h6⟩:=h
 have c1:=Xa1 h4
 have c2:=Xa1 h5
 have e1:¬ x.Span.Start < -1100585369600:=by omega
 have e2:¬ x.Span.End<=x.Span.Start:=by omega
 have e3:¬ x.Span.End>1100585369600:=by omega
 simp only[X8e,X3v h4,X3v h5,Yo]
 rw[X0e (by omega) (by omega)]
 have e3:¬ 1100585369600<x.Span.End:=by omega
 simp[e1,e2,e3,h6]
theorem X70 (l:List X5) (hs:l.Pairwise ltE) (ho:∀ x∈l,okE x) (hn:l.length<=1000000):∀ (xs:List X5) (k:Nat),l.drop k=xs->X3f l xs k=some .x0:=by
 intro xs
 induction xs with
 |nil=>intro k _;rfl
 |cons x xs ih =>
  intro k hk
  have hlt:k<l.length:=by
   rcases Nat.lt_or_ge k l.length with h|h
   ·exact h
   ·rw[List.drop_eq_nil_of_le h] at hk;cases hk
  have hx:l[k]?=some x:=by have:=congrArg List.head? hk;simpa[List.head?_drop] using this
  have hmem:x∈l:=Yg hx
  have hnext:l.drop (k+1)=xs:=by rw[<-List.tail_drop,hk];rfl
  rw[X3f]
  simp only[Xcl (ho x hmem),Yo,Bool.not_true,cond_false,cond_true]
  by_cases h0:k=0
  ·subst h0
   simp only[Int.ofNat_zero,Int.cast_ofNat_Int,gt_iff_lt,Int.lt_irrefl,decide_false,cond_false,Yo]
   exact ih 1 hnext
  ·have hpos:decide ((k:Int)>0)=true:=by simp;omega
   rw[hpos,cond_true]
   have hw:IntKind.i64.wrap ((k:Int) - 1)=((k - 1:Nat):Int):=by rw[X0e (by omega) (by omega)];omega
   rw[hw,X58]
   have hp:l[k - 1]?=some l[k - 1]:=Ye (by omega)
   rw[hp]
   have hlt2:ltE l[k - 1] x:=by
    have h3:=List.pairwise_iff_getElem.1 hs (k - 1) k (by omega) hlt (by omega)
    have:l[k]=x:=by rw[Ye hlt] at hx;exact Option.some.inj hx
    rwa [this] at h3
   have hord:¬ (0<=Xwd l[k - 1] x):=by rw[X00b];exact fun h=>h hlt2
   simp only[Yo,X9k,ge_iff_le,hord,decide_false,cond_false]
   exact ih (k+1) hnext
theorem X9l {l:List X5} (hs:l.Pairwise ltE) (ho:∀ x∈l,okE x) (hn:l.length<=4000):X8f l=some 0:=by
 unfold X8f
 have:¬ ((l.length:Int)>4000):=by omega
 simp only[this,decide_false,cond_false]
 rw[X31 (by omega),X70 l hs ho (by omega) l 0 rfl]
 rfl
theorem X036 {i j:Nat} (h:i+j<=1000000):IntKind.i64.wrap (Int.fdiv (IntKind.u64.wrap (IntKind.i64.wrap ((i:Int)+(j:Int)))) (2 ^ (min (Int.toNat 1) IntKind.u64.bits)))=(((i+j) / 2:Nat):Int):=by
 have h1:IntKind.i64.wrap ((i:Int)+(j:Int))=(i:Int)+j:=X0e (by omega) (by omega)
 rw[h1]
 have h2:IntKind.u64.wrap ((i:Int)+j)=(i:Int)+j:=Go.IntWalk.u64_in _ ⟨by omega,by omega⟩
 rw[h2]
 have h3:(min (Int.toNat 1) IntKind.u64.bits)=1:=by decide
 rw[h3]
 have h4:Int.fdiv ((i:Int)+j) (2 ^ 1)=(((i+j) / 2:Nat):Int):=by
  rw[Int.fdiv_eq_ediv_of_nonneg _ (by decide)]
  omega
 rw[h4,X0e (by omega) (by omega)]
theorem X066 (l:List X5) (x:X5) (c:Nat) (n:Int) (hn:l.length<=400000) (hc:∀ (k:Nat) y,l[k]?=some y->(ltE y x↔k<c)):∀ (f i j:Nat),i<=c->c<=j->j<=l.length->j - i<f ->
  Xv l x n f i j=some (.x0 c):=by
 intro f
 induction f with
 |zero=>intro i j _ _ _ h;omega
 |succ f ih =>
  intro i j h1 h2 h3 h4
  rw[Xv]
  by_cases hij:i<j
  ·have hd:decide ((i:Int)<(j:Int))=true:=by simp;exact hij
   rw[hd,cond_true,X036 (by omega),X58]
   have hm:(i+j) / 2<l.length:=by omega
   rw[Ye hm]
   simp only[Yo,X9k]
   have hcc:=hc ((i+j) / 2) _ (Ye hm)
   by_cases hl:ltE l[(i+j) / 2] x
   ·have:Xwd l[(i+j) / 2] x<0:=Xn5.2 hl
    simp only[this,decide_true,cond_true]
    rw[X0e (by omega) (by omega)]
    have:=hcc.1 hl
    have h5:=ih ((i+j) / 2+1) j (by omega) h2 h3 (by omega)
    simpa using h5
   ·have:¬ Xwd l[(i+j) / 2] x<0:=fun h=>hl (Xn5.1 h)
    simp only[this,decide_false,cond_false]
    have:¬ (i+j) / 2<c:=fun h=>hl (hcc.2 h)
    exact ih i ((i+j) / 2) h1 (by omega) (by omega) (by omega)
  ·have hd:decide ((i:Int)<(j:Int))=false:=by simp;omega
   rw[hd,cond_false]
   have:i=c:=by omega
   rw[this]
def cnt (l:List X5) (x:X5):Nat:=(l.takeWhile fun y=>decide (ltE y x)).length
theorem Xvb (l:List X5) (x:X5):cnt l x<=l.length:=by unfold cnt;exact(List.takeWhile_sublist _).length_le
theorem X021 {l:List X5} {x:X5} (hs:l.Pairwise ltE):∀ (k:Nat) y,l[k]?=some y->(ltE y x↔k<cnt l x):=by
 induction l with
 |nil=>intro k y h;simp at h
 |cons z l ih =>
  intro k y h
  rw[List.pairwise_cons] at hs
  unfold cnt
  by_cases hz:ltE z x
  ·rw[List.takeWhile_cons_of_pos (by simpa using hz)]
   cases k with
   |zero=>simp at h;subst h;simp[hz]
   |succ k =>
    simp at h
    have:=ih hs.2 k y h
    unfold cnt at this
    rw[this];simp
  ·rw[List.takeWhile_cons_of_neg (by simpa using hz)]
   simp only[List.length_nil,Nat.not_lt_zero,iff_false]
   cases k with
   |zero=>simp at h;subst h;exact hz
   |succ k =>
    simp at h
    exact fun hy=>hz (Xh6 (hs.1 y (Yg h)) hy)
theorem X03v {l:List X5} {x:X5} (hs:l.Pairwise ltE) (hn:l.length<=50000) :
  Xi l x=some ((cnt l x:Int),match l[cnt l x]? with|some y=>decide (X4j y x)|none=>false):=by
 unfold Xi
 have h0:=X066 l x (cnt l x) (l.length:Int) (by omega) (X021 hs) FU 0 l.length (by omega) (Xvb l x) (Nat.le_refl _) (by unfold FU;omega)
 rw[show((0:Nat):Int)=0 from rfl] at h0
 rw[h0]
 simp only[Yo]
 by_cases hlt:cnt l x<l.length
 ·have hd:decide ((cnt l x:Int)<(l.length:Int))=true:=by simp;exact hlt
  rw[hd,X58,Ye hlt]
  simp only[cond_true,Yo,X9k]
  congr 2
  rw[Bool.eq_iff_iff]
  simp[X00c]
 ·have hd:decide ((cnt l x:Int)<(l.length:Int))=false:=by simp;omega
  rw[hd,List.getElem?_eq_none (by omega)]
  rfl
end Go.D


namespace Go.D
def Xjb (y x:X5):X5:=⟨y.Key,y.Span,⟨X39 y.Values.e0 x.Values.e0,X39 y.Values.e1 x.Values.e1⟩⟩
def Xjx:List X5->X5->List X5
 |[],x=>[x]
 |y::l,x=>if ltE y x then y::Xjx l x else if X4j y x then Xjb y x::l else x::y::l
theorem Xth {l:List X5} {x:X5} (hs:l.Pairwise ltE) :
  Xjx l x=(match l[cnt l x]? with
   |none=>l++[x]
   |some y=>if X4j y x then l.set (cnt l x) (Xjb y x) else l.take (cnt l x)++x::l.drop (cnt l x)):=by
 induction l with
 |nil=>rfl
 |cons z l ih =>
  rw[List.pairwise_cons] at hs
  unfold Xjx
  by_cases hz:ltE z x
  ·have hc:cnt (z::l) x=cnt l x+1:=by unfold cnt;rw[List.takeWhile_cons_of_pos (by simpa using hz)];rfl
   rw[if_pos hz,hc,ih hs.2]
   simp only[List.getElem?_cons_succ]
   cases h:l[cnt l x]? with
   |none=>rfl
   |some y =>
    simp only
    split
    ·rfl
    ·rfl
  ·have hc:cnt (z::l) x=0:=by unfold cnt;rw[List.takeWhile_cons_of_neg (by simpa using hz)];rfl
   rw[if_neg hz,hc]
   simp only[List.getElem?_cons_zero]
   split<;>rfl
def putF (l:List X5) (x:X5):Option (List X5×Int) :=
 (Xi l x).bind fun v1393=>bif (!v1393.2) then (bif (v1393.1==(List.length l:Int)) then (((X68 l v1393.1 (List.length l:Int)).bind fun m1405=>bif (List.isEmpty m1405) then ((X1u (List.length (l++[x])) 88).bind fun u1408=>some ()) else ((X1u (List.length (l++[x])) 88).bind fun u1410=>some ()):Option (Unit)).bind fun _=>some ((l++[x]),0)) else ((Xrc l v1393.1 x 88).bind fun m1413=>some (m1413,0))) else ((X1w l v1393.1).bind fun e1415=>((X24 e1415.Values.e0 x.Values.e0).bind fun v1430=>bif (v1430.2 != (0:Int)) then (some (l,v1430.2)) else ((X24 (((X5.mk e1415.Key e1415.Span (V2.mk v1430.1 e1415.Values.e1)).Values).e1) x.Values.e1).bind fun v1435=>bif (v1435.2 != (0:Int)) then (some ((List.set l (Int.toNat v1393.1) (X5.mk e1415.Key e1415.Span (V2.mk v1430.1 e1415.Values.e1))),v1435.2)) else (some ((List.set (List.set l (Int.toNat v1393.1) (X5.mk e1415.Key e1415.Span (V2.mk v1430.1 e1415.Values.e1))) (Int.toNat v1393.1) (X5.mk ((X5.mk e1415.Key e1415.Span (V2.mk v1430.1 e1415.Values.e1)).Key) ((X5.mk e1415.Key e1415.Span (V2.mk v1430.1 e1415.Values.e1)).Span) (V2.mk (((X5.mk e1415.Key e1415.Span (V2.mk v1430.1 e1415.Values.e1)).Values).e0) v1435.1))),0))):Option ((List X5)×Int)).bind fun w1427=>some (w1427.1,w1427.2))
theorem X008 {l:List X5} {x:X5} (hs:l.Pairwise ltE) (hn:l.length<=10000) (hx:okA x.Values.e0/\okA x.Values.e1)
  (ho:∀ y∈l,X4j y x->okA y.Values.e0/\okA y.Values.e1/\y.Values.e0.Count+x.Values.e0.Count<=1073741824/\y.Values.e1.Count+x.Values.e1.Count<=1073741824):putF l x=some (Xjx l x,0):=by
 unfold putF
 rw[X03v hs (by omega),Xth hs]
 have hle:=Xvb l x
 cases h:l[cnt l x]? with
 |none =>
  have hc:cnt l x=l.length:=by
   have:=List.getElem?_eq_none_iff.1 h;omega
  have hsl:X68 l (l.length:Int) (l.length:Int)=some []:=by simp[X68]
  simp only[Yo,Bool.not_false,cond_true,hc,beq_self_eq_true,hsl]
  rw[X5c (by simp;omega)]
  rfl
 |some y =>
  have hlt:cnt l x<l.length:=(Ys.1 h).1
  simp only[Yo]
  by_cases hk:X4j y x
  ·obtain⟨a1,a2,a3,a4⟩:=ho y (Yg h) hk
   simp only[hk,decide_true,Bool.not_true,cond_false,X58,h,Yo,X3o a1 hx.1 a3,X3o a2 hx.2 a4,bne_self_eq_false,if_true,Int.toNat_natCast,List.set_set]
   rfl
  ·have hne:((cnt l x:Int)==(l.length:Int))=false:=by simp;omega
   have hi:Xrc l (cnt l x:Int) x 88=some (l.take (cnt l x)++x::l.drop (cnt l x)):=by
    unfold Xrc;rw[if_pos ⟨by omega,by simpa using hlt,by omega⟩];simp
   simp only[hk,decide_false,Bool.not_false,cond_true,hne,cond_false,hi,Yo,if_false]
theorem Xjv {l:List X5} {x:X5} (hs:l.Pairwise ltE) (e:X5) :
  e∈Xjx l x↔(e∈l/\¬ X4j e x)\/(∃ y∈l,X4j y x/\e=Xjb y x)\/((∀ y∈l,¬ X4j y x)/\e=x):=by
 induction l with
 |nil=>simp[Xjx]
 |cons z l ih =>
  rw[List.pairwise_cons] at hs
  unfold Xjx
  by_cases hz:ltE z x
  ·have hnz:¬ X4j z x:=fun h=>X99 h hz
   rw[if_pos hz,List.mem_cons,ih hs.2]
   constructor
   ·rintro(rfl|⟨h1,h2⟩|⟨y,h1,h2,h3⟩|⟨h1,h2⟩)
    ·exact .inl ⟨List.mem_cons_self,hnz⟩
    ·exact .inl ⟨List.mem_cons_of_mem _ h1,h2⟩
    ·exact .inr (.inl ⟨y,List.mem_cons_of_mem _ h1,h2,h3⟩)
    ·exact .inr (.inr ⟨fun y hy=>(List.mem_cons.1 hy).elim (fun h=>h▸hnz) (h1 y),h2⟩)
   ·rintro(⟨h1,h2⟩|⟨y,h1,h2,h3⟩|⟨h1,h2⟩)
    ·rcases List.mem_cons.1 h1 with h1|h1
     ·exact .inl h1
     ·exact .inr (.inl ⟨h1,h2⟩)
    ·rcases List.mem_cons.1 h1 with h1|h1
     ·subst h1;exact absurd h2 hnz
     ·exact .inr (.inr (.inl ⟨y,h1,h2,h3⟩))
    ·exact .inr (.inr (.inr ⟨fun y hy=>h1 y (List.mem_cons_of_mem _ hy),h2⟩))
  ·rw[if_neg hz]
   have hno:∀ y∈l,¬ (X4j z x/\X4j y x):=fun y hy ⟨h1,h2⟩=>by
    have:=hs.1 y hy
    exact X99 (a:=y) (b:=y) ⟨rfl,rfl⟩ (by rw[X9y (c:=y) h1] at this;rw[<-X9y h2] at this;exact this)
   by_cases hk:X4j z x
   ·rw[if_pos hk,List.mem_cons]
    constructor
    ·rintro(rfl|h1)
     ·exact .inr (.inl ⟨z,List.mem_cons_self,hk,rfl⟩)
     ·exact .inl ⟨List.mem_cons_of_mem _ h1,fun h=>hno e h1 ⟨hk,h⟩⟩
    ·rintro(⟨h1,h2⟩|⟨y,h1,h2,h3⟩|⟨h1,h2⟩)
     ·rcases List.mem_cons.1 h1 with h1|h1
      ·subst h1;exact absurd hk h2
      ·exact .inr h1
     ·rcases List.mem_cons.1 h1 with h1|h1
      ·subst h1;exact .inl h3
      ·exact absurd ⟨hk,h2⟩ (hno y h1)
     ·exact absurd hk (h1 z List.mem_cons_self)
   ·rw[if_neg hk]
    have hxz:ltE x z:=by
     rcases Xh7 (a:=z) (b:=x) with h|h|h
     ·exact absurd h hz
     ·exact absurd h hk
     ·exact h
    have hn:∀ y∈l,¬ X4j y x:=fun y hy h=>by
     have h1:=Xh6 hxz (hs.1 y hy)
     exact X99 (a:=y) (b:=y) ⟨rfl,rfl⟩ (by rw[<-X9y h] at h1;exact h1)
    rw[List.mem_cons]
    constructor
    ·rintro(rfl|h1)
     ·exact .inr (.inr ⟨fun y hy=>(List.mem_cons.1 hy).elim (fun h=>h▸hk) (hn y),rfl⟩)
     ·exact .inl ⟨h1,fun h=>(List.mem_cons.1 h1).elim (fun h2=>hk (h2▸h)) (fun h2=>hn e h2 h)⟩
    ·rintro(⟨h1,h2⟩|⟨y,h1,h2,h3⟩|⟨h1,h2⟩)
     ·exact .inr h1
     ·rcases List.mem_cons.1 h1 with h1|h1
      ·subst h1;exact absurd h2 hk
      ·exact absurd h2 (hn y h1)
     ·exact .inl h2
theorem Xh3 (y x:X5):X4j (Xjb y x) y:=⟨rfl,rfl⟩
theorem Xh1 {l:List X5} {x:X5} (hs:l.Pairwise ltE):(Xjx l x).Pairwise ltE:=by
 induction l with
 |nil=>exact List.pairwise_singleton _ _
 |cons z l ih =>
  have hs0:=hs
  rw[List.pairwise_cons] at hs
  unfold Xjx
  by_cases hz:ltE z x
  ·rw[if_pos hz,List.pairwise_cons]
   refine⟨fun e he=>?_,ih hs.2⟩
   rcases(Xjv hs.2 e).1 he with ⟨h1,_⟩|⟨y,h1,h2,rfl⟩|⟨_,rfl⟩
   ·exact hs.1 e h1
   ·rw[sameK_ltE (Xh3 y x)];exact hs.1 y h1
   ·exact hz
  ·rw[if_neg hz]
   by_cases hk:X4j z x
   ·rw[if_pos hk,List.pairwise_cons]
    exact⟨fun e he=>by rw[X9y (Xh3 z x)];exact hs.1 e he,hs.2⟩
   ·rw[if_neg hk,List.pairwise_cons]
    have hxz:ltE x z:=by
     rcases Xh7 (a:=z) (b:=x) with h|h|h
     ·exact absurd h hz
     ·exact absurd h hk
     ·exact h
    exact⟨fun e he=>(List.mem_cons.1 he).elim (fun h=>h▸hxz) (fun h=>Xh6 hxz (hs.1 e h)),hs0⟩
theorem Xjw (l:List X5) (x:X5):(Xjx l x).length<=l.length+1:=by
 induction l with
 |nil=>simp[Xjx]
 |cons z l ih =>
  unfold Xjx
  split
  ·simp;exact ih
  ·split<;>simp
end Go.D


namespace Go.D
theorem Xsr (z:Int):IntKind.i64.wrap z=(z+9223372036854775808) % 18446744073709551616 - 9223372036854775808:=by
 have h:IntKind.i64.wrap z=if z % 18446744073709551616 >= 9223372036854775808 then z % 18446744073709551616 - 18446744073709551616 else z % 18446744073709551616:=by
  unfold IntKind.wrap
  simp[IntKind.bits,IntKind.signed]
 rw[h]
 split<;>omega
theorem X02p (a b:Int):IntKind.i64.wrap (IntKind.i64.wrap a+b)=IntKind.i64.wrap (a+b):=by simp only[Xsr];omega
theorem X02o (a b:Int):IntKind.i64.wrap (a+IntKind.i64.wrap b)=IntKind.i64.wrap (a+b):=by simp only[Xsr];omega
def Xbc:X12:=⟨0,0,0,0⟩
def ofA (v:Int):X12:=⟨1,v,v,v⟩
theorem Xlm (v:Int):okA (ofA v):=.inr (.inl ⟨rfl,rfl,rfl⟩)
theorem Xji:okA Xbc:=.inl ⟨rfl,rfl⟩
theorem Xmm {a b:X12} (h1:a.Count=b.Count) (h2:a.Sum=b.Sum) (h3:a.Min=b.Min) (h4:a.Max=b.Max):a=b:=by cases a;cases b;simp_all
theorem Xk2 (a:X12):X39 Xbc a=a:=by unfold X39;rw[if_pos (show Xbc.Count=0 from rfl)]
theorem Xg2 {a:X12} (h:okA a):X39 a Xbc=a:=by
 unfold X39
 by_cases h0:a.Count=0
 ·rw[if_pos h0]
  rcases h with ⟨_,h⟩|⟨h,_⟩|⟨h,_⟩
  ·exact h.symm
  ·omega
  ·omega
 ·rw[if_neg h0,if_pos (show Xbc.Count=0 from rfl)]
theorem Xr7 {a b:X12} (ha:okA a) (hb:okA b):X39 a b=X39 b a:=by
 by_cases h1:a.Count=0
 ·have:a=Xbc:=by
   rcases ha with ⟨_,h⟩|⟨h,_⟩|⟨h,_⟩
   ·exact h
   ·omega
   ·omega
  rw[this,Xk2,Xg2 hb]
 ·by_cases h2:b.Count=0
  ·have:b=Xbc:=by
    rcases hb with ⟨_,h⟩|⟨h,_⟩|⟨h,_⟩
    ·exact h
    ·omega
    ·omega
   rw[this,Xk2,Xg2 ha]
  ·unfold X39
   rw[if_neg h1,if_neg h2,if_neg h2,if_neg h1]
   apply Xmm
   ·show a.Count+b.Count=b.Count+a.Count;omega
   ·show IntKind.i64.wrap (a.Sum+b.Sum)=IntKind.i64.wrap (b.Sum+a.Sum);rw[Int.add_comm]
   ·show(if b.Min<a.Min then b.Min else a.Min)=(if a.Min<b.Min then a.Min else b.Min);split<;>split<;>omega
   ·show(if b.Max>a.Max then b.Max else a.Max)=(if a.Max>b.Max then a.Max else b.Max);split<;>split<;>omega
theorem Xcz {a b c:X12} (ha:0<=a.Count) (hb:0<=b.Count) (hc:0<=c.Count):X39 (X39 a b) c=X39 a (X39 b c):=by
 by_cases h1:a.Count=0
 ·have e:∀ x,X39 a x=x:=fun x=>by unfold X39;rw[if_pos h1]
  rw[e,e]
 ·by_cases h2:b.Count=0
  ·have e1:X39 a b=a:=by unfold X39;rw[if_neg h1,if_pos h2]
   have e2:X39 b c=c:=by unfold X39;rw[if_pos h2]
   rw[e1,e2]
  ·by_cases h3:c.Count=0
   ·have e:∀ x:X12,x.Count≠0->X39 x c=x:=fun x hx=>by unfold X39;rw[if_neg hx,if_pos h3]
    have hab:(X39 a b).Count≠0:=by unfold X39;rw[if_neg h1,if_neg h2];show a.Count+b.Count≠0;omega
    rw[e _ hab,e _ h2]
   ·have e:∀ x y:X12,x.Count≠0->y.Count≠0->X39 x y=⟨x.Count+y.Count,IntKind.i64.wrap (x.Sum+y.Sum),if y.Min<x.Min then y.Min else x.Min,if y.Max>x.Max then y.Max else x.Max⟩:=fun x y hx hy=>by unfold X39;rw[if_neg hx,if_neg hy]
    rw[e a b h1 h2,e b c h2 h3,e _ c (by show a.Count+b.Count≠0;omega) h3,e a _ h1 (by show b.Count+c.Count≠0;omega)]
    apply Xmm
    ·show a.Count+b.Count+c.Count=a.Count+(b.Count+c.Count);omega
    ·show IntKind.i64.wrap (IntKind.i64.wrap (a.Sum+b.Sum)+c.Sum)=IntKind.i64.wrap (a.Sum+IntKind.i64.wrap (b.Sum+c.Sum));rw[X02p,X02o,Int.add_assoc]
    ·dsimp only;repeat' split<;>first|rfl|omega
    ·dsimp only;repeat' split<;>first|rfl|omega
def Xch (l:List Int):X12:=l.foldl (fun a v=>X39 a (ofA v)) Xbc
theorem Xc2 (l:List Int) (v:Int):Xch (l++[v])=X39 (Xch l) (ofA v):=by unfold Xch;rw[List.foldl_append];rfl
theorem Xkw:Xch []=Xbc:=rfl
theorem Xcg (v:Int):Xch [v]=ofA v:=Xk2 _
theorem X34:∀ (l:List Int),(Xch l).Count=l.length:=by
 have key:∀ (l:List Int) (a:X12),0<=a.Count->(l.foldl (fun a v=>X39 a (ofA v)) a).Count=a.Count+l.length:=by
  intro l
  induction l with
  |nil=>intro a _;simp
  |cons v l ih =>
   intro a ha
   have h1:(X39 a (ofA v)).Count=a.Count+1:=by
    unfold X39
    by_cases h:a.Count=0
    ·rw[if_pos h,h];rfl
    ·rw[if_neg h,if_neg (by show ¬ (1:Int)=0;omega)];rfl
   rw[List.foldl_cons,ih _ (by omega),h1];simp;omega
 intro l
 rw[Xch,key l Xbc (Int.le_refl _)]
 show(0:Int)+_=_;omega
theorem Xhz:∀ {l:List Int},l.length<=1073741824->okA (Xch l):=by
 have key:∀ (n:Nat) (l:List Int),l.length=n->n<=1073741824->okA (Xch l):=by
  intro n
  induction n with
  |zero=>intro l hl _;rw[List.eq_nil_of_length_eq_zero hl];exact Xji
  |succ n ih =>
   intro l hl hn
   have hne:l≠[]:=fun h=>by rw[h] at hl;cases hl
   have hd:l.dropLast.length=n:=by rw[List.length_dropLast];omega
   rw[<-List.dropLast_concat_getLast hne,Xc2]
   refine Xxg (ih _ hd (by omega)) (Xlm _) ?_
   rw[X34,hd]
   show(n:Int)+1<=_;omega
 intro l h
 exact key l.length l rfl h
theorem X5w:∀ (b a:List Int),Xch (a++b)=X39 (Xch a) (Xch b):=by
 have key:∀ (n:Nat) (b a:List Int),b.length=n->Xch (a++b)=X39 (Xch a) (Xch b):=by
  intro n
  induction n with
  |zero =>
   intro b a hb
   rw[List.eq_nil_of_length_eq_zero hb,List.append_nil,Xkw]
   by_cases h0:(Xch a).Count=0
   ·have:a=[]:=List.eq_nil_of_length_eq_zero (by rw[X34] at h0;omega)
    rw[this];rfl
   ·unfold X39;rw[if_neg h0,if_pos (show Xbc.Count=0 from rfl)]
  |succ n ih =>
   intro b a hb
   have hne:b≠[]:=fun h=>by rw[h] at hb;cases hb
   have hd:b.dropLast.length=n:=by rw[List.length_dropLast];omega
   rw[<-List.dropLast_concat_getLast hne,<-List.append_assoc,Xc2,Xc2,ih _ _ hd]
   exact Xcz (by rw[X34];omega) (by rw[X34];omega) (by show(0:Int)<=1;decide)
 intro b a
 exact key b.length b a rfl
theorem Xdv {a b:List Int} (h:a.Perm b):a.length<=1073741824->Xch a=Xch b:=by
 induction h with
 |nil=>intro _;rfl
 |@cons x l1 l2 h ih =>
  intro hl
  have:=ih (by simp at hl;omega)
  rw[show x::l1=[x]++l1 from rfl,show x::l2=[x]++l2 from rfl,X5w,X5w,this]
 |swap x y l =>
  intro hl
  rw[show y::x::l=[y]++([x]++l) from rfl,show x::y::l=[x]++([y]++l) from rfl,X5w,X5w,X5w,X5w,Xcg,Xcg]
  rw[<-Xcz (by show(0:Int)<=1;decide) (by show(0:Int)<=1;decide) (by rw[X34];omega),Xr7 (Xlm y) (Xlm x),Xcz (by show(0:Int)<=1;decide) (by show(0:Int)<=1;decide) (by rw[X34];omega)]
 |trans h1 _ ih1 ih2=>intro hl;rw[ih1 hl,ih2 (by rw[<-h1.length_eq];exact hl)]
abbrev Pu:=Xb×Int
def inS (s:X0n) (t:Int):Prop:=s.Start<=t/\t<s.End
instance (s:X0n) (t:Int):Decidable (inS s t):=by unfold inS;infer_instance
def vals (L:List Pu) (k:Int) (s:X0n) (side:Int):List Int:=(L.filter fun p=>decide (p.1.Key=k/\inS s p.1.Time/\p.2=side)).map fun p=>p.1.Value
def X51 (L:List Pu) (k t:Int):Prop:=∃ p∈L,p.1.Key=k/\p.1.Time=t
def Xm2 (size every t:Int) (s:X0n):Prop:=s.Start % every=0/\s.End=s.Start+size/\inS s t
def cov (size:Int) (T:Int->Prop) (x:Int):Prop:=∃ t,T t/\2*t<x/\x<2*(t+size)
def Xgv (size:Int) (T:Int->Prop) (s:X0n):Prop:=s.Start<s.End/\(∀ x,2*s.Start<x->x<2*s.End->cov size T x)/\¬ cov size T (2*s.Start)/\¬ cov size T (2*s.End)
def Xcp (w:X0l):Int:=if w.Kind=1 then w.Size else w.Every
def Xcu (w:X0l) (T:Int->Prop) (s:X0n):Prop:=if w.Kind=3 then Xgv w.Size T s else ∃ t,T t/\Xm2 w.Size (Xcp w) t s
def Xba (L:List Pu) (k:Int) (s:X0n):V2 X12:=⟨Xch (vals L k s 0),Xch (vals L k s 1)⟩
def Xmf (w:X0l) (L:List Pu) (e:X5):Prop:=Xcu w (X51 L e.Key) e.Span/\e.Values=Xba L e.Key e.Span
structure X50 (w:X0l) (L:List Pu) (es:List X5):Prop where
 sorted:es.Pairwise ltE
 mem:∀ e,e∈es↔Xmf w L e
 cover:w.Kind=3->∀ k t,X51 L k t->∃ e∈es,e.Key=k/\e.Span.Start<=t/\t+w.Size<=e.Span.End
theorem Xqd:∀ {a b:List X5},a.Pairwise ltE->b.Pairwise ltE->(∀ e,e∈a↔e∈b)->a=b:=by
 intro a
 induction a with
 |nil =>
  intro b _ _ h
  cases b with
  |nil=>rfl
  |cons y b=>exact absurd ((h y).2 List.mem_cons_self) (by simp)
 |cons x a ih =>
  intro b ha hb h
  cases b with
  |nil=>exact absurd ((h x).1 List.mem_cons_self) (by simp)
  |cons y b =>
   rw[List.pairwise_cons] at ha hb
   have hxy:x=y:=by
    rcases List.mem_cons.1 ((h x).1 List.mem_cons_self) with h1|h1
    ·exact h1
    ·rcases List.mem_cons.1 ((h y).2 List.mem_cons_self) with h2|h2
     ·exact h2.symm
     ·exact absurd (hb.1 x h1) (Xtx (ha.1 y h2))
   subst hxy
   rw[ih ha.2 hb.2]
   intro e
   constructor
   ·intro he
    rcases List.mem_cons.1 ((h e).1 (List.mem_cons_of_mem _ he)) with h1|h1
    ·subst h1;exact absurd (ha.1 e he) (Xed e)
    ·exact h1
   ·intro he
    rcases List.mem_cons.1 ((h e).2 (List.mem_cons_of_mem _ he)) with h1|h1
    ·subst h1;exact absurd (hb.1 e he) (Xed e)
    ·exact h1
theorem X50.unique {w:X0l} {L:List Pu} {a b:List X5} (ha:X50 w L a) (hb:X50 w L b):a=b:=Xqd ha.sorted hb.sorted fun e=>by rw[ha.mem,hb.mem]
theorem Xl4 {L L':List Pu} (h:L.Perm L') (k:Int) (s:X0n) (side:Int):(vals L k s side).Perm (vals L' k s side):=(h.filter _).map _
theorem Xd6 (L:List Pu) (k:Int) (s:X0n) (side:Int):(vals L k s side).length<=L.length:=by unfold vals;rw[List.length_map];exact List.length_filter_le _ _
theorem Xiy {L L':List Pu} (h:L.Perm L') (k t:Int):X51 L k t↔X51 L' k t:=by
 unfold X51
 exact⟨fun⟨p,hp,q⟩=>⟨p,h.mem_iff.1 hp,q⟩,fun⟨p,hp,q⟩=>⟨p,h.mem_iff.2 hp,q⟩⟩
theorem X50.perm {w:X0l} {L L':List Pu} {es:List X5} (h:L.Perm L') (hl:L.length<=1073741824) (c:X50 w L es):X50 w L' es:=by
 refine⟨c.sorted,fun e=>?_,fun h3 k t ht=>c.cover h3 k t ((Xiy h k t).2 ht)⟩
 rw[c.mem]
 have h1:X51 L e.Key=X51 L' e.Key:=funext fun t=>propext (Xiy h _ t)
 have h2:Xba L e.Key e.Span=Xba L' e.Key e.Span:=by
  unfold Xba
  rw[Xdv (Xl4 h _ _ 0) (Nat.le_trans (Xd6 ..) hl),Xdv (Xl4 h _ _ 1) (Nat.le_trans (Xd6 ..) hl)]
 unfold Xmf
 rw[h1,h2]
end Go.D


namespace Go.D
theorem Xme (x y:Xw):X6i x y=decide (x=y):=by
 obtain⟨a,b,c,d,e⟩:=x
 obtain⟨f,g,h,i,j⟩:=y
 rw[Bool.eq_iff_iff]
 simp[X6i,and_assoc]
theorem Xjr {α:Type} {l:List α} {k:Nat} (h:k<=l.length):X68 l 0 (k:Int)=some (l.take k):=by
 unfold X68;rw[if_pos ⟨by omega,by omega,by simpa using h⟩];simp
theorem Xe0 {α:Type} {l:List α} {k:Nat} (h:k<=l.length):X68 l (k:Int) (l.length:Int)=some (l.drop k):=by
 unfold X68;rw[if_pos ⟨by omega,by omega,by simp⟩]
 simp only[Int.toNat_natCast]
 rw[List.take_of_length_le (by rw[List.length_drop];exact Nat.le_refl _)]
def okN (x:Xw) (a b:Int):Prop:=1<=x.Kind/\x.Kind<=19/\0<=x.N/\(x.N=0\/x.Kind=1)/\0<=x.At/\x.At<=400/\x.A=a/\x.B=b
instance (x:Xw) (a b:Int):Decidable (okN x a b):=by unfold okN;infer_instance
theorem Xjs (x:Xw) (a b:Int):X5t x a b=some (decide (okN x a b)):=by
 unfold X5t okN
 congr 1
 rw[Bool.eq_iff_iff]
 by_cases h1:1<=x.Kind<;>by_cases h2:x.Kind<=19<;>by_cases h3:0<=x.N<;>by_cases h4:x.N=0<;>by_cases h5:0<=x.At<;>by_cases h6:x.At<=400<;>simp[h1,h2,h3,h4,h5,h6,and_assoc]
def nst (sd:List (Nat×Nat)) (x:Xw):Option (Nat×Nat) :=
 if x.Kind<=4 then (if okN x 0 0 then some (1,1) else none)
 else match sd.getLast? with
  |none=>none
  |some (s2,d2) =>
   if x.Kind<=6 then (if okN x ((sd.length:Int) - 1) 0 then some (1+s2,1+d2) else none)
   else if sd.length - 1<s2 then none
   else match sd[sd.length - 1 - s2]? with
    |none=>none
    |some (s1,d1)=>if okN x ((sd.length:Int) - 1 - s2) ((sd.length:Int) - 1) then some (1+s2+s1,max (1+d2) (1+d1)) else none
def Xj5:List Xw->List (Nat×Nat)->Option (List (Nat×Nat))
 |[],sd=>some sd
 |x::xs,sd=>match nst sd x with
  |some q=>Xj5 xs (sd++[q])
  |none=>none
def X7q (j:Nat) (q:Nat×Nat):Xe:=⟨(j:Int),(q.1:Int),(q.2:Int)⟩
inductive X9t (sd:List (Nat×Nat)):Nat->List Xe->Prop
 |nil:X9t sd 0 []
 |snoc {j:Nat} {q:Nat×Nat} {st:List Xe} (hq:sd[j]?=some q) (h1:1<=q.1) (h2:q.1<=j+1) (h3:q.2<=q.1) (h:X9t sd (j+1 - q.1) st):X9t sd (j+1) (st++[X7q j q])
theorem X9t.more {sd sd':List (Nat×Nat)} {k:Nat} {st:List Xe} (h:X9t sd k st) (hs:∀ j,j<k->sd'[j]?=sd[j]?):X9t sd' k st:=by
 induction h with
 |nil=>exact .nil
 |@snoc j q st hq h1 h2 h3 _ ih=>exact .snoc (by rw[hs j (by omega)];exact hq) h1 h2 h3 (ih fun i hi=>hs i (by omega))
theorem X9t.app {sd e:List (Nat×Nat)} {k:Nat} {st:List Xe} (h:X9t sd k st) (hk:k<=sd.length):X9t (sd++e) k st:=h.more fun j hj=>List.getElem?_append_left (by omega)
theorem X9t.len {sd:List (Nat×Nat)} {k:Nat} {st:List Xe} (h:X9t sd k st):st.length<=k:=by
 induction h with
 |nil=>simp
 |snoc hq h1 h2 h3 _ ih=>simp;omega
theorem Xhv {k:Nat} (h:1<=k) (hk:k<=1000000):IntKind.i64.wrap ((k:Int) - 1)=((k - 1:Nat):Int):=by rw[X0e (by omega) (by omega)];omega
theorem Xx7 {x:Xw} (h0:0<=x.Kind):X8t x.Kind=some (if 1<=x.Kind/\x.Kind<=19 then ((if x.Kind<=4 then 0 else if x.Kind<=6 then 1 else 2),0) else (0,2)):=by
 unfold X8t
 by_cases h1:1<=x.Kind
 ·by_cases h4:x.Kind<=4
  ·simp[h1,h4,show x.Kind<=19 by omega]
  ·by_cases h6:x.Kind<=6
   ·have:(bif x.Kind==5 then true else x.Kind==6)=true:=by
     rcases(by omega:x.Kind=5\/x.Kind=6) with h|h<;>simp[h]
    simp[h1,h4,h6,this,show x.Kind<=19 by omega]
   ·have e5:(bif x.Kind==5 then true else x.Kind==6)=false:=by
     have a:(x.Kind==5)=false:=by simp;omega
     have b:(x.Kind==6)=false:=by simp;omega
     rw[a,b];rfl
    by_cases h19:x.Kind<=19
    ·simp[h1,h4,h6,e5,h19,show(7:Int)<=x.Kind by omega]
    ·simp[h1,h4,h6,e5,h19]
 ·have e:x.Kind=0:=by omega
  simp[e]
theorem Xti {x : Xw} {a b : Int} (h1 : 1 <= x.Kind) (h2 : x.Kind <= 19) :
    ((bif (x.Kind==(1:Int)) then (some (Xw.mk x.Kind (if 0>x.N then 0 else x.N) a b (if 400<(if 0>x.At then 0 else x.At) then 400 else (if 0>x.At then 0 else x.At)))) else (some (Xw.mk x.Kind 0 a b (if 400<(if 0>x.At then 0 else x.At) then 400 else (if 0>x.At then 0 else x.At)))):Option (Xw)).bind fun o=>some (X6i o x))=some (decide (okN x a b)):=by
  obtain⟨K,N,A,B,At⟩:=x
  have hat:((if 400<(if 0>At then 0 else At) then 400 else (if 0>At then 0 else At))=At)↔(0<=At/\At<=400):=by
    by_cases g1:0>At
    · rw[if_pos g1];constructor
      · intro h;exfalso;split at h<;>omega
      · intro h;omega
    · rw[if_neg g1];split<;>omega
  have hn:((if 0>N then 0 else N)=N)↔0<=N:=by split<;>omega
  have key:∀ n':Int,(n'=N↔(0<=N/\(N=0\/K=1)))->(some (X6i (Xw.mk K n' a b (if 400<(if 0>At then 0 else At) then 400 else (if 0>At then 0 else At))) ⟨K,N,A,B,At⟩):Option Bool)=some (decide (okN ⟨K,N,A,B,At⟩ a b)):=by
    intro n' hn'
    rw[Xme]
    congr 1
    apply decide_eq_decide.2
    rw[Xw.mk.injEq,hat,hn']
    unfold okN
    constructor
    · rintro⟨_,⟨g1,g2⟩,hA,hB,g3,g4⟩
      exact⟨h1,h2,g1,g2,g3,g4,hA.symm,hB.symm⟩
    · rintro⟨_,_,g1,g2,g3,g4,hA,hB⟩
      exact⟨rfl,⟨g1,g2⟩,hA.symm,hB.symm,g3,g4⟩
  by_cases hk:K=1
  · have:(K==1)=true:=by simp[hk]
    show(Option.bind (bif (K==1) then _ else _) _)=_
    rw[this,cond_true,Yo]
    exact key _ (by rw[hn];simp[hk])
  · have:(K==1)=false:=by simp[hk]
    show(Option.bind (bif (K==1) then _ else _) _)=_
    rw[this,cond_false,Yo]
    exact key _ (by constructor
                    · intro h;omega
                    · rintro⟨_,h⟩;rcases h with h|h<;>omega)
theorem Xku {β:Type} {o:Option Xw} {x:Xw} {d:Bool} {f g:Option β} (h:(o.bind fun z=>some (X6i z x))=some d):(o.bind fun z=>bif (!(X6i z x)) then f else g)=bif d then g else f:=by
 cases o with
 |none=>cases h
 |some z =>
  simp only[Yo,Option.some.injEq] at h
  rw[Yo,h];cases d<;>rfl
def X5x (sd:List (Nat×Nat)):List Xe:=sd.mapIdx X7q
theorem Xmx (sd:List (Nat×Nat)) (q:Nat×Nat):X5x (sd++[q])=X5x sd++[X7q sd.length q]:=by unfold X5x;simp
theorem Xqa (sd:List (Nat×Nat)):(X5x sd).length=sd.length:=by unfold X5x;simp
theorem X9t.inv {sd:List (Nat×Nat)} {k:Nat} {st:List Xe} (h:X9t sd k st) (hk:0<k):∃ q st0,sd[k - 1]?=some q/\1<=q.1/\q.1<=k/\q.2<=q.1/\X9t sd (k - q.1) st0/\st=st0++[X7q (k - 1) q]:=by
 cases h with
 |nil=>omega
 |@snoc j q st0 hq h1 h2 h3 h=>exact⟨q,st0,hq,h1,h2,h3,h,rfl⟩
theorem X9t.zero {sd:List (Nat×Nat)} {st:List Xe} (h:X9t sd 0 st):st=[]:=by
 cases h;rfl
theorem Xzk (Y : List Xw) : ∀ (xs : List Xw) (sd : List (Nat × Nat)) (st : List Xe), (∀ x ∈ xs, 0 <= x.Kind) -> sd.length + xs.length <= 1000 -> X9t sd sd.length st -> (∀ j q, sd[j]? = some q -> 1 <= q.1 /\ q.1 <= j + 1 /\ q.2 <= q.1) ->
    match Xj5 xs sd with
    |some sd'=>∃ st',X1p Y xs sd.length (X5x sd) st=some (.x0 (X5x sd') st')/\X9t sd' sd'.length st'
    |none=>∃ all,X1p Y xs sd.length (X5x sd) st=some (.x1 all):=by
  intro xs
  induction xs with
  |nil=>intro sd st _ _ hc _;exact⟨st,rfl,hc⟩
  |cons x xs ih =>
    intro sd st h0 hn hc hb
    simp only[List.length_cons] at hn
    have hx:=h0 x List.mem_cons_self
    rw[X1p,Xx7 hx]
    have go : ∀ (q : Nat × Nat) (st0 : List Xe), nst sd x = some q -> X9t (sd ++ [q]) (sd.length + 1) (st0 ++ [X7q sd.length q]) -> 1 <= q.1 -> q.1 <= sd.length + 1 -> q.2 <= q.1 ->
        (match Xj5 (x::xs) sd with
          |some sd'=>∃ st',X1p Y xs (sd.length+1) (X5x sd++[X7q sd.length q]) (st0++[X7q sd.length q])=some (.x0 (X5x sd') st')/\X9t sd' sd'.length st'
          |none=>∃ all,X1p Y xs (sd.length+1) (X5x sd++[X7q sd.length q]) (st0++[X7q sd.length q])=some (.x1 all)):=by
      intro q st0 hq hc2 g1 g2 g3
      have:=ih (sd++[q]) (st0++[X7q sd.length q]) (fun y hy=>h0 y (List.mem_cons_of_mem _ hy)) (by simp;omega) (by simpa using hc2) (fun j q' hj=>by
        rw[List.getElem?_append] at hj
        split at hj
        · exact hb j q' hj
        · rename_i hlt
          have:j=sd.length:=by
            have:=(Ys.1 hj).1;simp at this;omega
          subst this
          simp at hj;subst hj;exact⟨g1,g2,g3⟩)
      rw[Xmx,List.length_append] at this
      unfold Xj5
      rw[hq]
      exact this
    have stop:nst sd x=none->∀ {o:Option X4s},(∃ all,o=some (.x1 all))->(match Xj5 (x::xs) sd with
          |some sd'=>∃ st',o=some (.x0 (X5x sd') st')/\X9t sd' sd'.length st'
          |none=>∃ all,o=some (.x1 all)):=by
      intro hq o h
      unfold Xj5
      rw[hq];exact h
    have cap:∀ (l:List Xe) (t:Xe),l.length<=2000->X1u (List.length (l++[t])) 24=some ():=fun l t hl=>X5c (by simp;omega)
    have hla:(X5x sd).length<=2000:=by unfold X5x;simp;omega
    have hst:=hc.len
    by_cases hr:1<=x.Kind/\x.Kind<=19
    · rw[if_pos hr]
      simp only[Yo,bne_self_eq_false,cond_false]
      by_cases h4:x.Kind<=4
      · -- no parts
        have e1:decide ((if x.Kind<=4 then (0:Int) else if x.Kind<=6 then 1 else 2)>(st.length:Int))=false:=by rw[if_pos h4];simp
        rw[e1,cond_false,if_pos h4]
        have e2:IntKind.i64.wrap ((st.length:Int) - 0)=(st.length:Int):=by rw[X0e (by omega) (by omega)];omega
        rw[e2,Xjr (Nat.le_refl _),Xe0 (Nat.le_refl _),List.take_length,List.drop_length]
        simp only[Yo,List.isEmpty_nil,cond_true]
        rw[Xku (Xti hr.1 hr.2)]
        by_cases hok:okN x 0 0
        · rw[Yt hok,cond_true,cap st _ (by omega),cap _ _ hla]
          exact go (1,1) st (by unfold nst;rw[if_pos h4,if_pos hok]) (.snoc (by simp) (Nat.le_refl _) (by omega) (Nat.le_refl _) (by simpa using hc.app (Nat.le_refl _))) (Nat.le_refl _) (by omega) (Nat.le_refl _)
        · rw[Yf hok,cond_false]
          exact stop (by unfold nst;rw[if_pos h4,if_neg hok]) ⟨_,rfl⟩
      · have hgl:0<sd.length->∃ q,sd.getLast?=some q/\sd[sd.length - 1]?=some q:=by
          intro h
          refine⟨sd[sd.length - 1]'(by omega),?_,?_⟩
          · rw[List.getLast?_eq_getElem?];exact Ye _
          · exact Ye _
        by_cases h6:x.Kind<=6
        · -- one part
          rw[if_neg h4,if_pos h6]
          by_cases hl:sd.length=0
          · rw[hl] at hc
            have:=hc.zero;subst this
            simp only[List.length_nil]
            exact stop (by unfold nst;rw[if_neg h4,List.eq_nil_of_length_eq_zero hl];rfl) ⟨_,rfl⟩
          · obtain⟨q,st0,hq,g1,g2,g3,hc0,rfl⟩:=hc.inv (by omega)
            obtain⟨q',hq1,hq2⟩:=hgl (by omega)
            rw[hq] at hq2;cases hq2
            have hs0:=hc0.len
            have e1:decide ((1:Int)>((st0++[X7q (sd.length - 1) q]).length:Int))=false:=by simp;omega
            rw[e1,cond_false]
            have e2:IntKind.i64.wrap (((st0++[X7q (sd.length - 1) q]).length:Int) - 1)=(st0.length:Int):=by
              rw[X0e (by rw[List.length_append,List.length_singleton];omega) (by rw[List.length_append,List.length_singleton];omega),List.length_append,List.length_singleton];omega
            rw[e2,Xjr (by simp),Xe0 (by simp),List.take_left,List.drop_left]
            simp only[Yo,List.isEmpty_cons,cond_false,List.length_singleton]
            rw[show(((1:Nat):Int)==1)=true from rfl,cond_true]
            rw[show X1w [X7q (sd.length - 1) q] 0=some (X7q (sd.length - 1) q) from rfl,Yo]
            rw[Xku (Xti hr.1 hr.2)]
            have ea:(X7q (sd.length - 1) q).at_=(sd.length:Int) - 1:=by unfold X7q;simp only;omega
            rw[ea]
            by_cases hok:okN x ((sd.length:Int) - 1) 0
            · have e3:(Xe.mk (sd.length:Int) (IntKind.i64.wrap (1+(X7q (sd.length - 1) q).size)) (if (IntKind.i64.wrap ((X7q (sd.length - 1) q).depth+1))>1 then (IntKind.i64.wrap ((X7q (sd.length - 1) q).depth+1)) else 1))=X7q sd.length (1+q.1,1+q.2):=by
                unfold X7q
                simp only
                rw[X0e (by omega) (by omega),X0e (by omega) (by omega)]
                congr 1
                split<;>omega
              rw[Yt hok,cond_true,e3,cap st0 _ (by omega),cap _ _ hla]
              refine go (1+q.1,1+q.2) st0 (by unfold nst;rw[if_neg h4,hq1];simp only;rw[if_pos h6,if_pos hok]) (.snoc (by simp) (by simp only;omega) (by simp only;omega) (by simp only;omega) ?_) (by simp only;omega) (by simp only;omega) (by simp only;omega)
              have:=hc0.app (e:=[(1+q.1,1+q.2)]) (by omega)
              simp only
              rw[show sd.length+1 - (1+q.1)=sd.length - q.1 by omega];exact this
            · rw[Yf hok,cond_false]
              exact stop (by unfold nst;rw[if_neg h4,hq1];simp only;rw[if_pos h6,if_neg hok]) ⟨_,rfl⟩
        · -- two parts
          rw[if_neg h4,if_neg h6]
          by_cases hl:sd.length=0
          · rw[hl] at hc
            have:=hc.zero;subst this
            simp only[List.length_nil]
            exact stop (by unfold nst;rw[if_neg h4,List.eq_nil_of_length_eq_zero hl];rfl) ⟨_,rfl⟩
          · obtain⟨q,st1,hq,g1,g2,g3,hc1,rfl⟩:=hc.inv (by omega)
            obtain⟨q',hq1,hq2⟩:=hgl (by omega)
            rw[hq] at hq2;cases hq2
            by_cases hl1:sd.length - q.1=0
            · rw[hl1] at hc1
              have:=hc1.zero;subst this
              exact stop (by unfold nst;rw[if_neg h4,hq1];simp only;rw[if_neg h6,if_pos (by omega)]) ⟨_,rfl⟩
            · obtain⟨p,st0,hp,f1,f2,f3,hc0,rfl⟩:=hc1.inv (by omega)
              have hs0:=hc0.len
              rw[List.append_assoc]
              have e1:decide ((2:Int)>((st0++([X7q (sd.length - q.1 - 1) p]++[X7q (sd.length - 1) q])).length:Int))=false:=by simp;omega
              rw[e1,cond_false]
              have e2:IntKind.i64.wrap (((st0++([X7q (sd.length - q.1 - 1) p]++[X7q (sd.length - 1) q])).length:Int) - 2)=(st0.length:Int):=by
                rw[X0e (by simp only[List.length_append,List.length_singleton];omega) (by simp only[List.length_append,List.length_singleton];omega)];simp only[List.length_append,List.length_singleton];omega
              rw[e2,Xjr (by simp),Xe0 (by simp),List.take_left,List.drop_left]
              simp only[Yo,List.singleton_append,List.isEmpty_cons,cond_false,List.length_cons,List.length_nil]
              rw[show((((0:Nat)+1+1:Nat):Int)==1)=false from rfl,show((((0:Nat)+1+1:Nat):Int)==2)=true from rfl,cond_false,cond_true]
              rw[show X1w [X7q (sd.length - q.1 - 1) p,X7q (sd.length - 1) q] 0=some (X7q (sd.length - q.1 - 1) p) from rfl,show X1w [X7q (sd.length - q.1 - 1) p,X7q (sd.length - 1) q] 1=some (X7q (sd.length - 1) q) from rfl,Yo,Yo]
              rw[Xku (Xti hr.1 hr.2)]
              have ea:(X7q (sd.length - 1) q).at_=(sd.length:Int) - 1:=by unfold X7q;simp only;omega
              have eb:(X7q (sd.length - q.1 - 1) p).at_=(sd.length:Int) - 1 - q.1:=by unfold X7q;simp only;omega
              rw[ea,eb]
              have hp':sd[sd.length - 1 - q.1]?=some p:=by rw[show sd.length - 1 - q.1=sd.length - q.1 - 1 by omega];exact hp
              by_cases hok:okN x ((sd.length:Int) - 1 - q.1) ((sd.length:Int) - 1)
              · have e3:(Xe.mk (sd.length:Int) (IntKind.i64.wrap ((IntKind.i64.wrap (1+(X7q (sd.length - q.1 - 1) p).size))+(X7q (sd.length - 1) q).size)) (if (IntKind.i64.wrap ((X7q (sd.length - 1) q).depth+1))>(if (IntKind.i64.wrap ((X7q (sd.length - q.1 - 1) p).depth+1))>1 then (IntKind.i64.wrap ((X7q (sd.length - q.1 - 1) p).depth+1)) else 1) then (IntKind.i64.wrap ((X7q (sd.length - 1) q).depth+1)) else (if (IntKind.i64.wrap ((X7q (sd.length - q.1 - 1) p).depth+1))>1 then (IntKind.i64.wrap ((X7q (sd.length - q.1 - 1) p).depth+1)) else 1)))=X7q sd.length (1+q.1+p.1,max (1+q.2) (1+p.2)):=by
                  unfold X7q
                  simp only
                  rw[X0e (z:=1+(p.1:Int)) (by omega) (by omega),X0e (by omega) (by omega),X0e (by omega) (by omega),X0e (by omega) (by omega)]
                  congr 1
                  · push_cast;omega
                  · split<;>split<;>omega
                rw[Yt hok,cond_true,e3,cap st0 _ (by omega),cap _ _ hla]
                refine go (1+q.1+p.1,max (1+q.2) (1+p.2)) st0 (by unfold nst;rw[if_neg h4,hq1];simp only;rw[if_neg h6,if_neg (by omega),hp'];simp only;rw[if_pos hok]) (.snoc (by simp) (by simp only;omega) (by simp only;omega) (by simp only;omega) ?_) (by simp only;omega) (by simp only;omega) (by simp only;omega)
                have:=hc0.app (e:=[(1+q.1+p.1,max (1+q.2) (1+p.2))]) (by omega)
                simp only
                rw[show sd.length+1 - (1+q.1+p.1)=sd.length - q.1 - p.1 by omega];exact this
              · rw[Yf hok,cond_false]
                exact stop (by unfold nst;rw[if_neg h4,hq1];simp only;rw[if_neg h6,if_neg (by omega),hp'];simp only;rw[if_neg hok]) ⟨_,rfl⟩
    · rw[if_neg hr]
      have hno:nst sd x=none:=by
        have no:∀ a b,¬ okN x a b:=fun a b h=>hr ⟨h.1,h.2.1⟩
        unfold nst
        simp only[no,if_false]
        split
        · rfl
        · split
          · rfl
          · split
            · rfl
            · split
              · rfl
              · split<;>rfl
      exact stop hno ⟨_,rfl⟩
def Xap (l:List Xw):Int :=
 if l.length>60 then 4 else match Xj5 l [] with
  |none=>8
  |some sd=>match sd.getLast? with
   |none=>8
   |some q=>if q.1=l.length then (if q.2>20 then 34 else 0) else 8
theorem Xfx:∀ (xs:List Xw) (sd sd':List (Nat×Nat)),Xj5 xs sd=some sd'->sd'.length=sd.length+xs.length
 |[],sd,sd',h=>by cases h;simp
 |x::xs,sd,sd',h=>by
  unfold Xj5 at h
  split at h
  ·have:=Xfx xs _ _ h;simp at this;simp;omega
  ·cases h
theorem Xqb {sd:List (Nat×Nat)} {i:Nat} {q:Nat×Nat} (h:sd[i]?=some q):X1w (X5x sd) (i:Int)=some (X7q i q):=by
 rw[X58];unfold X5x;rw[List.getElem?_mapIdx,h];rfl
theorem Xih {l:List Xw} (h0:∀ x∈l,0<=x.Kind):∃ t,X8s l=some (t,Xap l)/\(Xap l=0->∃ sd,Xj5 l []=some sd/\t=X5x sd):=by
 unfold X8s Xap
 by_cases h60:l.length>60
 ·rw[Yt (show(l.length:Int)>60 by omega),cond_true,if_pos h60];exact⟨_,rfl,by omega⟩
 ·rw[Yf (show ¬ (l.length:Int)>60 by omega),cond_false,if_neg h60]
  have hL:=Xzk l l [] [] h0 (by simp;omega) .nil (by simp)
  unfold Xc8
  rw[X31 (by omega)]
  cases hr:Xj5 l [] with
  |none =>
   rw[hr] at hL
   obtain⟨all,hL⟩:=hL
   simp only[List.length_nil] at hL
   rw[show X5x []=[] from rfl] at hL
   rw[hL]
   exact⟨_,rfl,by simp⟩
  |some sd =>
   rw[hr] at hL
   obtain⟨st,hL,hc⟩:=hL
   simp only[List.length_nil] at hL
   rw[show X5x []=[] from rfl] at hL
   rw[hL]
   have hn:=Xfx l [] sd hr
   simp only[List.length_nil,Nat.zero_add] at hn
   simp only[Yo]
   by_cases hz:sd.length=0
   ·have:sd=[]:=List.eq_nil_of_length_eq_zero hz
    subst this
    have:=hc.zero;subst this
    exact⟨_,rfl,by simp⟩
   ·obtain⟨q,st0,hq,g1,g2,g3,hc0,rfl⟩:=hc.inv (by omega)
    have hg:sd.getLast?=some q:=by rw[List.getLast?_eq_getElem?];exact hq
    rw[hg]
    simp only
    have hst:(((st0++[X7q (sd.length - 1) q]).length:Int)==1)=decide (q.1=l.length):=by
     rw[Bool.eq_iff_iff]
     simp only[List.length_append,List.length_singleton,beq_iff_eq,decide_eq_true_eq]
     constructor
     ·intro h
      have h1:st0.length=0:=by omega
      by_cases hk:sd.length - q.1=0
      ·omega
      ·obtain⟨_,s1,_,_,_,_,_,rfl⟩:=hc0.inv (by omega)
       simp at h1
     ·intro h
      rw[show sd.length - q.1=0 by omega] at hc0
      rw[hc0.zero];rfl
    rw[hst]
    by_cases he:q.1=l.length
    ·rw[Yt he,if_pos he]
     simp only[Bool.not_true,cond_false]
     rw[show IntKind.i64.wrap (((X5x sd).length:Int) - 1)=((sd.length - 1:Nat):Int) by rw[Xqa,Xhv (by omega) (by omega)]]
     rw[Xqb hq,Yo]
     by_cases hd:q.2>20
     ·rw[if_pos hd,show decide ((X7q (sd.length - 1) q).depth>20)=true from Yt (by unfold X7q;simp only;omega)]
      exact⟨_,rfl,by simp⟩
     ·rw[if_neg hd,show decide ((X7q (sd.length - 1) q).depth>20)=false from Yf (by unfold X7q;simp only;omega)]
      exact⟨_,rfl,fun _=>⟨sd,rfl,rfl⟩⟩
    ·rw[Yf he,if_neg he]
     exact⟨_,rfl,by simp⟩
theorem X9o {l:List Xw} (h0:∀ x∈l,0<=x.Kind):X4t l=some (Xap l):=by
 obtain⟨t,h,_⟩:=Xih h0
 unfold X4t;rw[h];rfl
def szs (sd:List (Nat×Nat)):List Int:=sd.map fun q=>(q.1:Int)
def dps (sd:List (Nat×Nat)):List Int:=sd.map fun q=>(q.2:Int)
theorem Xmy {sd:List (Nat×Nat)} {i:Nat} {q:Nat×Nat} (h:sd[i]?=some q):X1w (szs sd) (i:Int)=some (q.1:Int):=by
 rw[X58];unfold szs;rw[List.getElem?_map,h];rfl
theorem Xos {sd:List (Nat×Nat)} {i:Nat} {q:Nat×Nat} (h:sd[i]?=some q):X1w (dps sd) (i:Int)=some (q.2:Int):=by
 rw[X58];unfold dps;rw[List.getElem?_map,h];rfl
theorem Xwv (Y : List Xw) : ∀ (xs : List Xw) (sd : List (Nat × Nat)), sd.length + xs.length <= 1000 -> (∀ j q, sd[j]? = some q -> 1 <= q.1 /\ q.1 <= j + 1 /\ q.2 <= q.1) ->
    match Xj5 xs sd with
    |some sd'=>X1b Y xs sd.length (szs sd) (dps sd)=some (.x0 (szs sd') (dps sd'))
    |none=>X1b Y xs sd.length (szs sd) (dps sd)=some (.x1 [] []):=by
  intro xs
  induction xs with
  |nil=>intro sd _ _;rfl
  |cons x xs ih =>
    intro sd hn hb
    simp only[List.length_cons] at hn
    rw[X1b]
    have go : ∀ (q : Nat × Nat), nst sd x = some q -> 1 <= q.1 -> q.1 <= sd.length + 1 -> q.2 <= q.1 ->
        (match Xj5 (x::xs) sd with
          |some sd'=>X1b Y xs (sd.length+1) (szs sd++[(q.1:Int)]) (dps sd++[(q.2:Int)])=some (.x0 (szs sd') (dps sd'))
          |none=>X1b Y xs (sd.length+1) (szs sd++[(q.1:Int)]) (dps sd++[(q.2:Int)])=some (.x1 [] [])):=by
      intro q hq g1 g2 g3
      have:=ih (sd++[q]) (by simp;omega) (fun j q' hj=>by
        rw[List.getElem?_append] at hj
        split at hj
        · exact hb j q' hj
        · rename_i hlt
          have:j=sd.length:=by
            have:=(Ys.1 hj).1;simp at this;omega
          subst this
          simp at hj;subst hj;exact⟨g1,g2,g3⟩)
      rw[List.length_append] at this
      unfold Xj5
      rw[hq]
      unfold szs dps at this ⊢
      rw[List.map_append,List.map_append] at this
      exact this
    have stop:nst sd x=none->∀ {o:Option X44},o=some (.x1 [] [])->(match Xj5 (x::xs) sd with
          |some sd'=>o=some (.x0 (szs sd') (dps sd'))
          |none=>o=some (.x1 [] [])):=by
      intro hq o h
      unfold Xj5
      rw[hq];exact h
    have cap:∀ (l:List Int) (t:Int),l.length<=2000->X1u (List.length (l++[t])) 8=some ():=fun l t hl=>X5c (by simp;omega)
    have hls:(szs sd).length<=2000:=by unfold szs;simp;omega
    have hld:(dps sd).length<=2000:=by unfold dps;simp;omega
    unfold Xak
    by_cases h4:x.Kind<=4
    · rw[Yt h4,cond_true]
      simp only[Yo]
      rw[show decide ((0:Int)>0)=false from rfl,cond_false,Xjs,Yo]
      by_cases hok:okN x 0 0
      · rw[Yt hok,Bool.not_true,cond_false,cap _ _ hls,cap _ _ hld]
        exact go (1,1) (by unfold nst;rw[if_pos h4,if_pos hok]) (Nat.le_refl _) (by omega) (Nat.le_refl _)
      · rw[Yf hok,Bool.not_false,cond_true]
        exact stop (by unfold nst;rw[if_pos h4,if_neg hok]) rfl
    · rw[Yf h4,cond_false]
      have hgl:0<sd.length->∃ q,sd.getLast?=some q/\sd[sd.length - 1]?=some q:=by
        intro h
        refine⟨sd[sd.length - 1]'(by omega),?_,?_⟩
        · rw[List.getLast?_eq_getElem?];exact Ye _
        · exact Ye _
      by_cases hl:sd.length=0
      · have hnil:=List.eq_nil_of_length_eq_zero hl
        refine stop (by unfold nst;rw[if_neg h4,hnil];rfl) ?_
        rw[hl]
        by_cases h6:x.Kind<=6
        · rw[Yt h6];rfl
        · rw[Yf h6];rfl
      · obtain⟨q,hq1,hq⟩:=hgl (by omega)
        obtain⟨g1,g2,g3⟩:=hb _ _ hq
        have hw:IntKind.i64.wrap ((sd.length:Int) - 1)=((sd.length - 1:Nat):Int):=Xhv (by omega) (by omega)
        rw[hw]
        rw[show decide (((sd.length - 1:Nat):Int)<0)=false from Yf (by omega),Xmy hq,Xos hq]
        simp only[cond_false]
        by_cases h6:x.Kind<=6
        · rw[Yt h6,cond_true]
          simp only[Yo]
          rw[show decide ((1:Int)>0)=true from rfl,cond_true,show((1:Int)==2)=false from rfl,cond_false,Xjs,Yo]
          rw[show((sd.length - 1:Nat):Int)=(sd.length:Int) - 1 by omega]
          by_cases hok:okN x ((sd.length:Int) - 1) 0
          · rw[Yt hok,Bool.not_true,cond_false,cap _ _ hls,cap _ _ hld]
            rw[X0e (by omega) (by omega),X0e (by omega) (by omega)]
            have:=go (1+q.1,1+q.2) (by unfold nst;rw[if_neg h4,hq1];simp only;rw[if_pos h6,if_pos hok]) (by simp only;omega) (by simp only;omega) (by simp only;omega)
            simp only at this
            push_cast at this
            exact this
          · rw[Yf hok,Bool.not_false,cond_true]
            exact stop (by unfold nst;rw[if_neg h4,hq1];simp only;rw[if_pos h6,if_neg hok]) rfl
        · rw[Yf h6,cond_false]
          simp only[Yo]
          rw[show decide ((2:Int)>0)=true from rfl,cond_true,show((2:Int)==2)=true from rfl,cond_true]
          have hw2:IntKind.i64.wrap (((sd.length - 1:Nat):Int) - q.1)=(sd.length:Int) - 1 - q.1:=by rw[X0e (by omega) (by omega)];omega
          rw[hw2]
          by_cases hlt:sd.length - 1<q.1
          · rw[show decide ((sd.length:Int) - 1 - q.1<0)=true from Yt (by omega),cond_true]
            exact stop (by unfold nst;rw[if_neg h4,hq1];simp only;rw[if_neg h6,if_pos hlt]) rfl
          · rw[show decide ((sd.length:Int) - 1 - q.1<0)=false from Yf (by omega),cond_false]
            have hpe:sd[sd.length - 1 - q.1]?=some (sd[sd.length - 1 - q.1]'(by omega)):=Ye _
            generalize sd[sd.length - 1 - q.1]'(by omega)=p at hpe
            obtain⟨f1,f2,f3⟩:=hb _ _ hpe
            rw[show(sd.length:Int) - 1 - q.1=((sd.length - 1 - q.1:Nat):Int) by omega,Xmy hpe,Xos hpe]
            simp only[Yo]
            rw[Xjs,Yo]
            rw[show((sd.length - 1 - q.1:Nat):Int)=(sd.length:Int) - 1 - q.1 by omega,show((sd.length - 1:Nat):Int)=(sd.length:Int) - 1 by omega]
            by_cases hok:okN x ((sd.length:Int) - 1 - q.1) ((sd.length:Int) - 1)
            · rw[Yt hok,Bool.not_true,cond_false,cap _ _ hls,cap _ _ hld]
              rw[X0e (z:=1+(q.1:Int)) (by omega) (by omega),X0e (z:=1+(q.1:Int)+p.1) (by omega) (by omega),X0e (by omega) (by omega),X0e (by omega) (by omega)]
              have:=go (1+q.1+p.1,max (1+q.2) (1+p.2)) (by unfold nst;rw[if_neg h4,hq1];simp only;rw[if_neg h6,if_neg hlt,hpe];simp only;rw[if_pos hok]) (by simp only;omega) (by simp only;omega) (by simp only;omega)
              simp only at this
              rw[show((1+q.1+p.1:Nat):Int)=1+(q.1:Int)+p.1 by omega,show((max (1+q.2) (1+p.2):Nat):Int)=(if 1+(p.2:Int)>1+q.2 then 1+(p.2:Int) else 1+q.2) by split<;>omega] at this
              exact this
            · rw[Yf hok,Bool.not_false,cond_true]
              exact stop (by unfold nst;rw[if_neg h4,hq1];simp only;rw[if_neg h6,if_neg hlt,hpe];simp only;rw[if_neg hok]) rfl
theorem X9n {l:List Xw}:X3z l=some (Xap l):=by
 unfold X3z Xap
 by_cases h60:l.length>60
 ·rw[Yt (show(l.length:Int)>60 by omega),cond_true,if_pos h60]
 ·rw[Yf (show ¬ (l.length:Int)>60 by omega),cond_false,if_neg h60]
  have hL:=Xwv l l [] (by simp;omega) (by simp)
  unfold Xaj
  rw[X31 (by omega)]
  cases hr:Xj5 l [] with
  |none =>
   rw[hr] at hL
   simp only[List.length_nil] at hL
   rw[show szs []=[] from rfl,show dps []=[] from rfl] at hL
   rw[Yo,hL];rfl
  |some sd =>
   rw[hr] at hL
   simp only[List.length_nil] at hL
   rw[show szs []=[] from rfl,show dps []=[] from rfl] at hL
   rw[Yo,hL]
   have hn:=Xfx l [] sd hr
   simp only[List.length_nil,Nat.zero_add] at hn
   simp only[Yo]
   by_cases hz:l.length=0
   ·rw[List.eq_nil_of_length_eq_zero (hn.trans hz),List.eq_nil_of_length_eq_zero hz];rfl
   ·have hq:sd[sd.length - 1]?=some (sd[sd.length - 1]'(by omega)):=Ye _
    generalize sd[sd.length - 1]'(by omega)=q at hq
    have hg:sd.getLast?=some q:=by rw[List.getLast?_eq_getElem?];exact hq
    rw[hg]
    have hw:IntKind.i64.wrap ((l.length:Int) - 1)=((sd.length - 1:Nat):Int):=by rw[<-hn];exact Xhv (by omega) (by omega)
    rw[show decide ((l.length:Int)>0)=true from Yt (by omega),cond_true,hw,Xmy hq]
    simp only[Yo,cond_true]
    rw[Xos hq]
    by_cases he:q.1=l.length
    ·rw[if_pos he,show((q.1:Int)==(l.length:Int))=true by rw[he];simp,Bool.not_true,cond_false]
     by_cases hd:q.2>20
     ·rw[if_pos hd,Yo,Yt (show(q.2:Int)>20 by omega)];rfl
     ·rw[if_neg hd,Yo,Yf (show ¬ (q.2:Int)>20 by omega)];rfl
    ·rw[if_neg he,show((q.1:Int)==(l.length:Int))=false by simp;omega,Bool.not_false,cond_true]
end Go.D


namespace Go.D
theorem X033 {sd:List (Nat×Nat)} {x:Xw} {q:Nat×Nat} (h:nst sd x=some q):∃ a b,okN x a b/\(x.Kind<=4->a=0/\b=0)/\(5<=x.Kind->0<sd.length/\(x.Kind<=6->a=(sd.length:Int) - 1/\b=0)/\(7<=x.Kind->0<=a/\a<=(sd.length:Int) - 1/\b=(sd.length:Int) - 1)):=by
 unfold nst at h
 split at h
 ·rename_i h4
  split at h
  ·rename_i ho;exact⟨0,0,ho,fun _=>⟨rfl,rfl⟩,fun h5=>by omega⟩
  ·cases h
 ·rename_i h4
  split at h
  ·cases h
  ·rename_i s2 d2 hg
   have hl:0<sd.length:=by
    cases sd with
    |nil=>cases hg
    |cons=>simp
   split at h
   ·rename_i h6
    split at h
    ·rename_i ho;exact⟨_,_,ho,fun h4'=>absurd h4' h4,fun _=>⟨hl,fun _=>⟨rfl,rfl⟩,fun h7=>by omega⟩⟩
    ·cases h
   ·rename_i h6
    split at h
    ·cases h
    ·rename_i hlt
     split at h
     ·cases h
     ·split at h
      ·rename_i ho;exact⟨_,_,ho,fun h4'=>absurd h4' h4,fun _=>⟨hl,fun h6'=>absurd h6' h6,fun _=>⟨by omega,by omega,rfl⟩⟩⟩
      ·cases h
structure Xjh (x:Xw) (k:Nat):Prop where
 lo:1<=x.Kind
 hi:x.Kind<=19
 leaf:x.Kind<=4->x.A=0/\x.B=0
 a0:0<=x.A
 b0:0<=x.B
 ak:5<=x.Kind->x.A<k
 b1:5<=x.Kind->x.Kind<=6->x.B=0
 bk:5<=x.Kind->x.B<k
 n0:0<=x.N
 nk:x.N=0\/x.Kind=1
 at0:0<=x.At
 at1:x.At<=400
theorem Xtm:∀ (xs:List Xw) (sd sd':List (Nat×Nat)),Xj5 xs sd=some sd'->∀ j x,xs[j]?=some x->Xjh x (sd.length+j)
 |[],sd,sd',h,j,x,hj=>by simp at hj
 |y::ys,sd,sd',h,j,x,hj=>by
  unfold Xj5 at h
  split at h
  ·rename_i q hq
   cases j with
   |zero =>
    simp at hj;subst hj
    obtain⟨a,b,ho,h4,h5⟩:=X033 hq
    obtain⟨o1,o2,o3,o4,o5,o6,rfl,rfl⟩:=ho
    refine⟨o1,o2,h4,?_,?_,?_,?_,?_,o3,o4,o5,o6⟩
    all_goals
     by_cases h4':y.Kind<=4
     ·have:=h4 h4';omega
     ·have h5':=h5 (by omega)
      by_cases h6:y.Kind<=6
      ·have:=h5'.2.1 h6;omega
      ·have:=h5'.2.2 (by omega);omega
   |succ j =>
    have:=Xtm ys _ _ h j x (by simpa using hj)
    rw[List.length_append,List.length_singleton] at this
    rw[show sd.length+(j+1)=sd.length+1+j by omega];exact this
  ·cases h
def giv (K:Int):Bool:=(K==6)||decide (12<=K)
theorem Xkm (K:Int):X5s K=some (giv K):=by
 unfold X5s giv
 congr 1
def X2t (l:List Xw) (i:Int):Int:=match X1w l i with|some e=>e.Kind|none=>0
def Xkz (l:List Xw) (x:Xw):Bool :=
 if x.Kind<=4 then true
 else if x.Kind=5 then !(giv (X2t l x.A))
 else if x.Kind=6 then giv (X2t l x.A)
 else if x.Kind<=15 then !(giv (X2t l x.A))&&!(giv (X2t l x.B))
 else if x.Kind<=17 then (giv (X2t l x.A))==(giv (X2t l x.B))
 else giv (X2t l x.A)&&giv (X2t l x.B)
def wrN (l:List Xw):List Xw->Nat->Option Nat
 |[],_=>none
 |x::xs,k=>if Xkz l x then wrN l xs (k+1) else some k
theorem Xbv {α:Type} {l:List α} {i:Int} (h0:0<=i) (h1:i<l.length):∃ e,X1w l i=some e/\l[i.toNat]?=some e:=by
 obtain⟨n,rfl⟩:∃ n:Nat,i=n:=⟨i.toNat,by omega⟩
 exact⟨l[n]'(by omega),by rw[X58];exact Ye _,by simp⟩
theorem Xat {l:List Xw} {i:Int} (h0:0<=i) (h1:i<l.length):∃ e,X1w l i=some e/\X2t l i=e.Kind:=by
 obtain⟨e,h,_⟩:=Xbv h0 h1
 exact⟨e,h,by unfold X2t;rw[h]⟩
theorem X01j {l:List Xw} {x:Xw} {k:Nat} (hk:l[k]?=some x) (ho:Xjh x k):Xa0 l (k:Int)=some (Xkz l x):=by
 have hlt:=(Ys.1 hk).1
 have hA:x.A<l.length:=by
  by_cases h:x.Kind<=4
  ·have:=(ho.leaf h).1;omega
  ·have:=ho.ak (by omega);omega
 have hB:x.B<l.length:=by
  by_cases h:x.Kind<=4
  ·have:=(ho.leaf h).2;omega
  ·have:=ho.bk (by omega);omega
 obtain⟨a,ha,hka⟩:=Xat ho.a0 hA
 obtain⟨b,hb,hkb⟩:=Xat ho.b0 hB
 unfold Xa0 Xkz
 rw[X58,hk,Yo,ha,Yo,hb,Xkm,Yo,Yo,Xkm,Yo,hka,hkb]
 have h1:=ho.lo
 have h2:=ho.hi
 by_cases h4:x.Kind<=4
 ·rw[if_pos h4,Yt h4];rfl
 ·rw[if_neg h4,Yf h4,cond_false]
  by_cases h5:x.Kind=5
  ·rw[if_pos h5,show(x.Kind==5)=true by simp[h5]];rfl
  ·rw[if_neg h5,show(x.Kind==5)=false by simp[h5],cond_false]
   by_cases h6:x.Kind=6
   ·rw[if_pos h6,show(x.Kind==6)=true by simp[h6]];rfl
   ·rw[if_neg h6,show(x.Kind==6)=false by simp[h6],cond_false]
    by_cases h15:x.Kind<=15
    ·rw[if_pos h15,show(bif (x.Kind==16) then true else (x.Kind==17))=false by rw[show(x.Kind==16)=false by simp;omega,show(x.Kind==17)=false by simp;omega];rfl,Yf (show ¬ x.Kind >= 18 by omega)]
     cases giv a.Kind<;>cases giv b.Kind<;>rfl
    ·rw[if_neg h15]
     by_cases h17:x.Kind<=17
     ·rw[if_pos h17,show(bif (x.Kind==16) then true else (x.Kind==17))=true by rcases(by omega:x.Kind=16\/x.Kind=17) with h|h<;>simp[h]];rfl
     ·rw[if_neg h17,show(bif (x.Kind==16) then true else (x.Kind==17))=false by rw[show(x.Kind==16)=false by simp;omega,show(x.Kind==17)=false by simp;omega];rfl,Yt (show x.Kind >= 18 by omega)]
      cases giv a.Kind<;>cases giv b.Kind<;>rfl
theorem Xp2 {l:List Xw} (ho:∀ j x,l[j]?=some x->Xjh x j):∀ (xs:List Xw) (k:Nat),l.drop k=xs->X3m l xs k=some (match wrN l xs k with|none=>.x0|some j=>.x1 (j:Int))
 |[],k,_=>rfl
 |x::xs,k,h=>by
  have hk:l[k]?=some x:=by
   have:(l.drop k)[0]?=some x:=by rw[h];rfl
   simpa using this
  have hd:l.drop (k+1)=xs:=by
   have:(l.drop k).drop 1=xs:=by rw[h];rfl
   rw[List.drop_drop] at this;exact this
  rw[X3m,X01j hk (ho k x hk),Yo,wrN]
  cases Xkz l x with
  |true=>exact Xp2 ho xs (k+1) hd
  |false=>rfl
def gvs (l:List Xw) (k:Nat):List Bool:=(l.take k).map fun e=>giv e.Kind
theorem Xoo {l:List Xw} {k:Nat} (hk:k<=l.length) {i:Int} (h0:0<=i) (h1:i<k):X1w (gvs l k) i=some (giv (X2t l i)):=by
 obtain⟨e,he,hke⟩:=Xat (l:=l) h0 (by omega)
 have hi:(i.toNat:Int)=i:=by omega
 rw[hke,<-hi,X58]
 rw[<-hi,X58] at he
 unfold gvs
 rw[List.getElem?_map,List.getElem?_take_of_lt (by omega),he];rfl
theorem Xps {l:List Xw} {k:Nat} {x:Xw} (hk:l[k]?=some x):gvs l (k+1)=gvs l k++[giv x.Kind]:=by
 unfold gvs
 rw[List.take_add_one,hk,List.map_append];rfl
theorem Xsz {l:List Xw} (hn:l.length<=1000) (ho:∀ j x,l[j]?=some x->Xjh x j):∀ (xs:List Xw) (k:Nat),l.drop k=xs->X1f l xs k (gvs l k)=some (match wrN l xs k with|none=>.x0 (gvs l l.length)|some j=>.x1 [] (j:Int))
 |[],k,h=>by
  have:l.length<=k:=by
   have:=congrArg List.length h;simp at this;omega
  rw[X1f,wrN]
  unfold gvs
  rw[List.take_of_length_le this,List.take_length]
 |x::xs,k,h=>by
  have hk:l[k]?=some x:=by
   have:(l.drop k)[0]?=some x:=by rw[h];rfl
   simpa using this
  have hd:l.drop (k+1)=xs:=by
   have:(l.drop k).drop 1=xs:=by rw[h];rfl
   rw[List.drop_drop] at this;exact this
  have hlt:=(Ys.1 hk).1
  have hox:=ho k x hk
  have ih:=Xsz hn ho xs (k+1) hd
  have h1:=hox.lo
  have h2:=hox.hi
  have cap:∀ b,X1u (List.length (gvs l k++[b])) 1=some ():=fun b=>X5c (by unfold gvs;simp;omega)
  have go:giv x.Kind=false->Xkz l x=true->X1f l xs (k+1) (gvs l k++[false])=some (match wrN l (x::xs) k with|none=>.x0 (gvs l l.length)|some j=>.x1 [] (j:Int)):=by
   intro g f
   rw[wrN,f,if_pos rfl,<-ih,Xps hk,g]
  have go':giv x.Kind=true->Xkz l x=true->X1f l xs (k+1) (gvs l k++[true])=some (match wrN l (x::xs) k with|none=>.x0 (gvs l l.length)|some j=>.x1 [] (j:Int)):=by
   intro g f
   rw[wrN,f,if_pos rfl,<-ih,Xps hk,g]
  have stop:Xkz l x=false->(some (.x1 [] (k:Int)):Option X4v)=some (match wrN l (x::xs) k with|none=>.x0 (gvs l l.length)|some j=>.x1 [] (j:Int)):=by
   intro f
   rw[wrN,f];rfl
  rw[X1f]
  by_cases h4:x.Kind<=4
  ·rw[Yt h4,cond_true,cap,Yo]
   exact go (by unfold giv;simp;omega) (by unfold Xkz;rw[if_pos h4])
  ·rw[Yf h4,cond_false]
   have hA:X1w (gvs l k) x.A=some (giv (X2t l x.A)):=Xoo (by omega) hox.a0 (hox.ak (by omega))
   have hB:X1w (gvs l k) x.B=some (giv (X2t l x.B)):=Xoo (by omega) hox.b0 (hox.bk (by omega))
   by_cases h5:x.Kind=5
   ·have hf:Xkz l x=!(giv (X2t l x.A)):=by unfold Xkz;rw[if_neg h4,if_pos h5]
    rw[show(x.Kind==5)=true by simp[h5],cond_true,hA]
    cases hg:giv (X2t l x.A) with
    |true=>exact stop (by rw[hf,hg];rfl)
    |false =>
     show(X1u (List.length (gvs l k++[false])) 1).bind _=_
     rw[cap,Yo];exact go (by unfold giv;simp[h5]) (by rw[hf,hg];rfl)
   ·rw[show(x.Kind==5)=false by simp[h5],cond_false]
    by_cases h6:x.Kind=6
    ·have hf:Xkz l x=giv (X2t l x.A):=by unfold Xkz;rw[if_neg h4,if_neg h5,if_pos h6]
     rw[show(x.Kind==6)=true by simp[h6],cond_true,hA]
     cases hg:giv (X2t l x.A) with
     |false=>exact stop (by rw[hf,hg])
     |true =>
      show(X1u (List.length (gvs l k++[true])) 1).bind _=_
      rw[cap,Yo];exact go' (by unfold giv;simp[h6]) (by rw[hf,hg])
    ·rw[show(x.Kind==6)=false by simp[h6],cond_false]
     have lok:X4b (List.length [x.A,x.B])=some ():=X31 (by simp)
     by_cases h15:x.Kind<=15
     ·have hf:Xkz l x=(!(giv (X2t l x.A))&&!(giv (X2t l x.B))):=by unfold Xkz;rw[if_neg h4,if_neg h5,if_neg h6,if_pos h15]
      by_cases h11:x.Kind<=11
      ·have hgx:giv x.Kind=false:=by unfold giv;simp;omega
       rw[Yt h11,cond_true,Yo,lok]
       simp only[X0a,hA,hB]
       generalize giv (X2t l x.A)=p at hf
       generalize giv (X2t l x.B)=r at hf
       cases p<;>cases r
       ·show(X1u (List.length (gvs l k++[false])) 1).bind _=_
        rw[cap,Yo];exact go hgx hf
       all_goals exact stop hf
      ·have hgx:giv x.Kind=true:=by unfold giv;simp;omega
       rw[Yf h11,cond_false,Yt h15,cond_true,Yo,lok]
       simp only[X0a,hA,hB]
       generalize giv (X2t l x.A)=p at hf
       generalize giv (X2t l x.B)=r at hf
       cases p<;>cases r
       ·show(X1u (List.length (gvs l k++[true])) 1).bind _=_
        rw[cap,Yo];exact go' hgx hf
       all_goals exact stop hf
     ·rw[Yf (show ¬ x.Kind<=11 by omega),cond_false,Yf h15,cond_false]
      have hgx:giv x.Kind=true:=by unfold giv;simp;omega
      by_cases h17:x.Kind<=17
      ·have hf:Xkz l x=((giv (X2t l x.A))==(giv (X2t l x.B))):=by unfold Xkz;rw[if_neg h4,if_neg h5,if_neg h6,if_neg h15,if_pos h17]
       rw[Yt h17,cond_true,Yo,lok]
       simp only[X0a,X0c,hA,hB]
       generalize giv (X2t l x.A)=p at hf
       generalize giv (X2t l x.B)=r at hf
       cases p<;>cases r
       ·show(X1u (List.length (gvs l k++[true])) 1).bind _=_
        rw[cap,Yo];exact go' hgx hf
       ·exact stop hf
       ·exact stop hf
       ·show(X1u (List.length (gvs l k++[true])) 1).bind _=_
        rw[cap,Yo];exact go' hgx hf
      ·have hf:Xkz l x=((giv (X2t l x.A))&&(giv (X2t l x.B))):=by unfold Xkz;rw[if_neg h4,if_neg h5,if_neg h6,if_neg h15,if_neg h17]
       rw[Yf h17,cond_false,Yo,lok]
       simp only[X0a,X0c,hA,hB]
       generalize giv (X2t l x.A)=p at hf
       generalize giv (X2t l x.B)=r at hf
       cases p<;>cases r
       ·exact stop hf
       ·exact stop hf
       ·exact stop hf
       ·show(X1u (List.length (gvs l k++[true])) 1).bind _=_
        rw[cap,Yo];exact go' hgx hf
end Go.D


namespace Go.D
theorem Xz0 (a b:Int):a<b\/b<=a:=by omega
theorem Xtn {α:Type} {l:List α} (h:l.Nodup):l.reverse.Nodup:=by
 unfold List.Nodup at *
 rw[List.pairwise_reverse]
 exact h.imp fun h=>Ne.symm h
def okT (t:Int):Prop := -1099511627776<=t/\t<=1099511627776
def okW (w:X0l):Prop:=1<=w.Size/\w.Size<=1073741824/\((w.Kind=2/\1<=w.Every/\w.Every<=w.Size/\w.Size<=16*w.Every)\/((w.Kind=1\/w.Kind=3)/\w.Every=0))
theorem X3u {w:X0l} (h:okW w):X0z w=some 0:=by
 obtain⟨h1,h2,h3⟩:=h
 have e1:decide (w.Size<1)=false:=by simp;omega
 have e2:decide (w.Size>1073741824)=false:=by simp;omega
 simp only[X0z,e1,e2,cond_false]
 rcases h3 with ⟨k,a1,a2,a3⟩|⟨k|k,a⟩
 ·have e3:(w.Kind==2)=true:=by simp[k]
  have e4:decide (w.Every >= 1)=true:=by simp;omega
  have e5:decide (w.Every<=w.Size)=true:=by simp;omega
  have e6:decide (w.Size<=IntKind.i64.wrap (16*w.Every))=true:=by rw[X0e (by omega) (by omega)];simp;omega
  simp only[e3,e4,e5,e6,cond_true]
 ·have e3:(w.Kind==2)=false:=by simp[k]
  have e4:(w.Kind==1)=true:=by simp[k]
  have e5:(w.Every==0)=true:=by simp[a]
  simp only[e3,e4,e5,cond_true,cond_false]
 ·have e3:(w.Kind==2)=false:=by simp[k]
  have e4:(w.Kind==1)=false:=by simp[k]
  have e6:(w.Kind==3)=true:=by simp[k]
  have e5:(w.Every==0)=true:=by simp[a]
  simp only[e3,e4,e5,e6,cond_true,cond_false]
theorem Xbi {t size:Int} (ht:okT t) (h1:1<=size) (h2:size<=1073741824):X9x t size=some (⟨t / size*size,t / size*size+size⟩,0):=by
 obtain⟨t1,t2⟩:=ht
 have e1:decide (size<1)=false:=by simp;omega
 have e2:decide (size>1073741824)=false:=by simp;omega
 have e3:decide (t < -1099511627776)=false:=by simp;omega
 have e4:decide (t>1099511627776)=false:=by simp;omega
 have hm:=Int.mul_ediv_add_emod t size
 have hm1:=Int.emod_nonneg t (show size≠0 by omega)
 have hm2:=Int.emod_lt_of_pos t (show 0<size by omega)
 have q1 : -1099511627776<=t / size:=by
  rcases Xz0 (t / size) (-1099511627776) with h|h
  ·exfalso
   have:size*(t / size)<=size*(-1099511627777):=Int.mul_le_mul_of_nonneg_left (by omega) (by omega)
   omega
  ·exact h
 have q2:t / size<=1099511627776:=by
  rcases Xz0 1099511627776 (t / size) with h|h
  ·exfalso
   have:size*1099511627777<=size*(t / size):=Int.mul_le_mul_of_nonneg_left (by omega) (by omega)
   omega
  ·exact h
 have hn:X66 t size=some (t / size,0):=by
  simp only[X66,X97,e1,e2,e3,e4,cond_false,Yo,bne_self_eq_false]
  have hd:Xv4 size=some ():=by unfold Xv4;rw[if_pos (by omega)]
  rw[hd,Yo]
  have htm:=Int.tmod_add_mul_tdiv t size
  by_cases hneg:Int.tmod t size<0
  ·have e5:decide (Int.tmod t size<0)=true:=by simp[hneg]
   rw[e5,cond_true,Yo]
   have hq:Int.tdiv t size - 1=t / size:=by
    have h3:Int.tdiv t size=t / size+if 0<=t\/size ∣ t then 0 else size.sign:=Int.tdiv_eq_ediv
    have h4:¬ (0<=t\/size ∣ t):=by
     rintro(h|h)
     ·have:=Int.tmod_nonneg size h;omega
     ·have:=Int.tmod_eq_zero_of_dvd h;omega
    rw[if_neg h4,Int.sign_eq_one_of_pos (by omega)] at h3
    omega
   have e6:IntKind.i64.wrap (Int.tdiv t size)=Int.tdiv t size:=X0e (by omega) (by omega)
   rw[e6,hq,X0e (by omega) (by omega)]
  ·have e5:decide (Int.tmod t size<0)=false:=by simp;omega
   rw[e5,cond_false,Yo]
   have hq:Int.tdiv t size=t / size:=by
    have h3:Int.tdiv t size=t / size+if 0<=t\/size ∣ t then 0 else size.sign:=Int.tdiv_eq_ediv
    by_cases h4:0<=t\/size ∣ t
    ·rw[if_pos h4] at h3;omega
    ·exfalso
     rw[if_neg h4,Int.sign_eq_one_of_pos (by omega)] at h3
     rw[h3,Int.mul_add,Int.mul_one] at htm
     omega
   rw[hq,X0e (by omega) (by omega)]
 simp only[X9x,hn,Yo,bne_self_eq_false,cond_false]
 have e7:t / size*size=size*(t / size):=Int.mul_comm _ _
 have e8:IntKind.i64.wrap (t / size+1)=t / size+1:=X0e (by omega) (by omega)
 have e9:(t / size+1)*size=size*(t / size)+size:=by rw[Int.add_mul,e7];omega
 rw[e8,e9,e7,X0e (by omega) (by omega),X0e (by omega) (by omega)]
def Xab (t size every:Int):Nat->Int->List X0n
 |0,_=>[]
 |K+1,s=>if s+size>t then ⟨s,s+size⟩::Xab t size every K (s - every) else []
theorem Xwu {t size every:Int} (ht:okT t) (h1:1<=every) (h2:every<=size) (h3:size<=1073741824):∀ (K f:Nat) (acc:List X0n) (s:Int),s<=t -> -1200000000000+K*1073741824<=s->s+size - t<=K*every->K<f->acc.length+K<=1000000 ->
  X4q t size every f acc s=some (.x0 (acc++Xab t size every K s)):=by
 obtain⟨t1,t2⟩:=ht
 intro K
 induction K with
 |zero =>
  intro f acc s hs hl hK hf ha
  cases f with
  |zero=>omega
  |succ f =>
   rw[X4q]
   simp only[Int.natCast_zero,Int.zero_mul] at hK hl
   have:decide (IntKind.i64.wrap (s+size)>t)=false:=by rw[X0e (by omega) (by omega)];simp;omega
   rw[this,cond_false];simp[Xab]
 |succ K ih =>
  intro f acc s hs hl hK hf ha
  cases f with
  |zero=>omega
  |succ f =>
   rw[X4q]
   have e0:((K+1:Nat):Int)*every=K*every+every:=by rw[Int.natCast_add,Int.natCast_one,Int.add_mul,Int.one_mul]
   have e00:((K+1:Nat):Int)*1073741824=K*1073741824+1073741824:=by omega
   have e1:IntKind.i64.wrap (s+size)=s+size:=X0e (by omega) (by omega)
   rw[e1]
   by_cases hgt:s+size>t
   ·have:decide (s+size>t)=true:=by simpa using hgt
    rw[this,cond_true,X5c (by simp;omega),Yo]
    have e2:IntKind.i64.wrap (s - every)=s - every:=X0e (by omega) (by omega)
    rw[e2,ih f _ _ (by omega) (by omega) (by omega) (by omega) (by simp;omega)]
    rw[Xab,if_pos hgt];simp
   ·have:decide (s+size>t)=false:=by simpa using hgt
    rw[this,cond_false,Xab,if_neg hgt];simp
theorem Xmz (back:List X0n) (hb:back.length<=1000):∀ (k f:Nat) (acc:List X0n),k<=back.length->k<f->acc.length+k<=1000000 ->
  X2x back f acc ((k:Int) - 1)=some (.x0 (acc++(back.take k).reverse) back):=by
 intro k
 induction k with
 |zero =>
  intro f acc _ hf _
  cases f with
  |zero=>omega
  |succ f =>
   rw[X2x]
   simp
 |succ k ih =>
  intro f acc hk hf ha
  cases f with
  |zero=>omega
  |succ f =>
   rw[X2x]
   have e1:(((k+1:Nat):Int) - 1)=(k:Int):=by omega
   rw[e1]
   have e2:decide ((k:Int) >= 0)=true:=by simp
   rw[e2,cond_true,X58,Ye (by omega),Yo,X5c (by simp;omega),Yo]
   rw[X0e (by omega) (by omega),ih f _ (by omega) (by omega) (by simp;omega)]
   rw[List.take_add_one,Ye (by omega)]
   simp only[Option.toList_some,List.reverse_append,List.reverse_cons,List.reverse_nil,List.nil_append,List.append_assoc,List.cons_append]
theorem Xmk (t size every:Int):∀ (K:Nat) (s:Int),(Xab t size every K s).length<=K:=by
 intro K
 induction K with
 |zero=>intro s;simp[Xab]
 |succ K ih=>intro s;rw[Xab];split<;>simp;exact ih _
theorem Xym (t size every:Int) (h:1<=every):∀ (K:Nat) (s:Int),∀ x∈Xab t size every K s,x.Start<=s:=by
 intro K
 induction K with
 |zero=>intro s x hx;simp[Xab] at hx
 |succ K ih =>
  intro s x hx
  rw[Xab] at hx
  split at hx
  ·rcases List.mem_cons.1 hx with rfl|hx
   ·exact Int.le_refl _
   ·have:=ih _ x hx;omega
  ·simp at hx
theorem Xoy (t size every:Int) (h:1<=every):∀ (K:Nat) (s:Int),(Xab t size every K s).Nodup:=by
 intro K
 induction K with
 |zero=>intro s;simp[Xab]
 |succ K ih =>
  intro s
  rw[Xab]
  split
  ·rw[List.nodup_cons]
   exact⟨fun hx=>by have:=Xym t size every h K _ _ hx;simp at this;omega,ih _⟩
  ·exact List.nodup_nil
theorem Xvm (t size every:Int):∀ (K:Nat) (s:Int),s+size - t<=K*every->0<=every->∀ x:X0n,x∈Xab t size every K s↔∃ j:Nat,x.Start=s - j*every/\x.End=x.Start+size/\t<x.End:=by
 intro K
 induction K with
 |zero =>
  intro s hK he x
  simp only[Int.natCast_zero,Int.zero_mul] at hK
  simp only[Xab,List.not_mem_nil,false_iff,not_exists,not_and]
  intro j h1 h2
  have:(0:Int)<=j*every:=Int.mul_nonneg (by omega) he
  omega
 |succ K ih =>
  intro s hK he x
  have e0:((K+1:Nat):Int)*every=K*every+every:=by rw[Int.natCast_add,Int.natCast_one,Int.add_mul,Int.one_mul]
  rw[Xab]
  by_cases hgt:s+size>t
  ·rw[if_pos hgt,List.mem_cons,ih (s - every) (by omega) he x]
   constructor
   ·rintro(rfl|⟨j,h1,h2,h3⟩)
    ·exact⟨0,by simp,rfl,hgt⟩
    ·refine⟨j+1,?_,h2,h3⟩
     have:((j+1:Nat):Int)*every=j*every+every:=by rw[Int.natCast_add,Int.natCast_one,Int.add_mul,Int.one_mul]
     omega
   ·rintro⟨j,h1,h2,h3⟩
    cases j with
    |zero=>left;apply Xfw;simp at h1;exact h1;simp at h1;show x.End=s+size;omega
    |succ j =>
     right
     have:((j+1:Nat):Int)*every=j*every+every:=by rw[Int.natCast_add,Int.natCast_one,Int.add_mul,Int.one_mul]
     exact⟨j,by omega,h2,h3⟩
  ·rw[if_neg hgt]
   simp only[List.not_mem_nil,false_iff,not_exists,not_and]
   intro j h1 h2
   have:(0:Int)<=j*every:=Int.mul_nonneg (by omega) he
   omega
theorem Xm1 {t size every:Int} (h1:1<=every) (x:X0n):Xm2 size every t x↔∃ j:Nat,x.Start=t / every*every - j*every/\x.End=x.Start+size/\t<x.End:=by
 have hm:=Int.mul_ediv_add_emod t every
 have hm1:=Int.emod_nonneg t (show every≠0 by omega)
 have hm2:=Int.emod_lt_of_pos t (show 0<every by omega)
 have hc:t / every*every=every*(t / every):=Int.mul_comm _ _
 unfold Xm2 inS
 constructor
 ·rintro⟨a1,a2,a3,a4⟩
  have hx:=Int.mul_ediv_add_emod x.Start every
  rw[a1,Int.add_zero] at hx
  have hle:x.Start / every<=t / every:=by
   rcases Xz0 (t / every) (x.Start / every) with h|h
   ·exfalso
    have:every*(t / every+1)<=every*(x.Start / every):=Int.mul_le_mul_of_nonneg_left (by omega) (by omega)
    rw[Int.mul_add,Int.mul_one] at this
    omega
   ·exact h
  refine⟨(t / every - x.Start / every).toNat,?_,a2,a4⟩
  have e1:(((t / every - x.Start / every).toNat:Nat):Int)=t / every - x.Start / every:=Int.toNat_of_nonneg (by omega)
  rw[e1,Int.sub_mul,Int.mul_comm (x.Start / every)]
  omega
 ·rintro⟨j,a1,a2,a3⟩
  have hj:(0:Int)<=j*every:=Int.mul_nonneg (by omega) (by omega)
  refine⟨?_,a2,by omega,a3⟩
  rw[a1,<-Int.sub_mul]
  exact Int.mul_emod_left _ _
theorem Xgs {w:X0l} {t:Int} (hw:okW w) (hk:w.Kind≠3) (ht:okT t):∃ W,Xd8 w t=some (W,0)/\W.length<=16/\W.Nodup/\∀ s,s∈W↔Xm2 w.Size (Xcp w) t s:=by
 have hcw:=X3u hw
 obtain⟨w1,w2,w3⟩:=hw
 have ht':=ht
 obtain⟨t1,t2⟩:=ht
 unfold Xd8
 rw[hcw,Yo]
 rcases w3 with ⟨k,a1,a2,a3⟩|⟨k|k,a⟩
 ·have e1:(w.Kind==1)=false:=by simp[k]
  have e2:(w.Kind==2)=true:=by simp[k]
  have e3:Xcp w=w.Every:=by unfold Xcp;rw[if_neg (by omega)]
  simp only[bne_self_eq_false,cond_false,e1,e2,cond_true]
  have hm:=Int.mul_ediv_add_emod t w.Every
  have hm1:=Int.emod_nonneg t (show w.Every≠0 by omega)
  have hm2:=Int.emod_lt_of_pos t (show 0<w.Every by omega)
  have hc:t / w.Every*w.Every=w.Every*(t / w.Every):=Int.mul_comm _ _
  have hall:Xbk t w.Size w.Every=some ((Xab t w.Size w.Every 16 (t / w.Every*w.Every)).reverse,0):=by
   unfold Xbk
   have b1:decide ((if w.Every<w.Size then w.Every else w.Size)<1)=false:=by simp;split<;>omega
   have b2:decide (w.Size>1073741824)=false:=by simp;omega
   have b3:decide (w.Every>w.Size)=false:=by simp;omega
   have b4:decide (w.Size>IntKind.i64.wrap (16*w.Every))=false:=by rw[X0e (by omega) (by omega)];simp;omega
   simp only[b1,b2,b3,b4,cond_false,Xbi ht' a1 (by omega),Yo,bne_self_eq_false]
   have hL:=Xwu ht' a1 a2 w2 16 FU [] (t / w.Every*w.Every) (by omega) (by omega) (by omega) (by unfold FU;omega) (by simp)
   rw[hL,Yo]
   simp only[List.nil_append]
   have hlen:=Xmk t w.Size w.Every 16 (t / w.Every*w.Every)
   rw[X0e (by omega) (by omega)]
   have hR:=Xmz (Xab t w.Size w.Every 16 (t / w.Every*w.Every)) (by omega) (Xab t w.Size w.Every 16 (t / w.Every*w.Every)).length FU [] (Nat.le_refl _) (by unfold FU;omega) (by simp;omega)
   rw[hR,Yo]
   simp
  rw[hall,Yo]
  refine⟨_,rfl,by rw[List.length_reverse];exact Xmk ..,Xtn (Xoy t w.Size w.Every a1 _ _),fun s=>?_⟩
  rw[List.mem_reverse,e3,Xm1 a1,Xvm t w.Size w.Every 16 _ (by omega) (by omega)]
 ·have e1:(w.Kind==1)=true:=by simp[k]
  have e3:Xcp w=w.Size:=by unfold Xcp;rw[if_pos k]
  simp only[bne_self_eq_false,cond_false,e1,cond_true,Xbi ht' w1 w2,Yo]
  refine⟨_,rfl,by simp,by simp,fun s=>?_⟩
  rw[List.mem_singleton,e3,Xm1 w1]
  have hm:=Int.mul_ediv_add_emod t w.Size
  have hm1:=Int.emod_nonneg t (show w.Size≠0 by omega)
  have hm2:=Int.emod_lt_of_pos t (show 0<w.Size by omega)
  have hc:t / w.Size*w.Size=w.Size*(t / w.Size):=Int.mul_comm _ _
  constructor
  ·rintro rfl
   exact⟨0,by simp,rfl,by show t<t / w.Size*w.Size+w.Size;omega⟩
  ·rintro⟨j,h1,h2,h3⟩
   have hj:(j:Int)=0:=by
    rcases Xz0 0 (j:Int) with h|h
    ·exfalso
     have:(1:Int)*w.Size<=j*w.Size:=Int.mul_le_mul_of_nonneg_right (by omega) (by omega)
     omega
    ·omega
   rw[hj,Int.zero_mul] at h1
   exact Xfw (by show s.Start=t / w.Size*w.Size;omega) (by show s.End=t / w.Size*w.Size+w.Size;omega)
 ·exact absurd k hk
end Go.D


namespace Go.D
def kOf (l:List Xw):Bool×Int×Int :=
 if Xap l≠0 then (false,0,Xap l)
 else match wrN l l 0 with
  |some j=>(false,(j:Int),42)
  |none=>(giv (X2t l ((l.length:Int) - 1)),(l.length:Int) - 1,0)
theorem X8u {l:List Xw} (h:Xap l=0):l.length<=60/\1<=l.length/\∃ sd,Xj5 l []=some sd:=by
 unfold Xap at h
 split at h
 ·cases h
 ·split at h
  ·cases h
  ·rename_i sd hr
   have hn:=Xfx l [] sd hr
   simp only[List.length_nil,Nat.zero_add] at hn
   split at h
   ·cases h
   ·rename_i q hq
    have:1<=sd.length:=by
     cases sd with
     |nil=>cases hq
     |cons=>simp
    exact⟨by omega,by omega,sd,hr⟩
theorem Xe9 {l:List Xw} (h:Xap l=0):∀ j x,l[j]?=some x->Xjh x j:=by
 obtain⟨_,_,sd,hr⟩:=X8u h
 intro j x hj
 have:=Xtm l [] sd hr j x hj
 simpa using this
theorem Xp3 (l:List Xw):∀ (xs:List Xw) (k j:Nat),wrN l xs k=some j->k<=j/\j<k+xs.length
 |[],k,j,h=>by cases h
 |x::xs,k,j,h=>by
  unfold wrN at h
  split at h
  ·have:=Xp3 l xs (k+1) j h;simp only[List.length_cons];omega
  ·cases h;simp only[List.length_cons];omega
theorem Xhc {l:List Xw} (h0:∀ x∈l,0<=x.Kind):Xca l=some (kOf l):=by
 unfold Xca kOf
 rw[X9o h0,Yo]
 by_cases hz:Xap l=0
 ·obtain⟨h60,h1,_⟩:=X8u hz
  rw[if_neg (by omega),hz,show((0:Int) != 0)=false from rfl,cond_false]
  unfold Xc9
  rw[X31 (by omega),Yo]
  have ht:=Xsz (by omega) (Xe9 hz) l 0 rfl
  rw[show gvs l 0=[] from by unfold gvs;simp] at ht
  rw[ht]
  cases hw:wrN l l 0 with
  |some j =>
   have:=(Xp3 l l 0 j hw).2
   simp only[Yo]
   rw[Yt (show(j:Int)<(l.length:Int) by omega)];rfl
  |none =>
   simp only[Yo]
   rw[Yf (show ¬ (l.length:Int)<(l.length:Int) by omega),cond_false,X0e (by omega) (by omega),Xoo (Nat.le_refl _) (by omega) (by omega)];rfl
 ·rw[if_pos hz,show(Xap l != 0)=true by simp[hz]];rfl
theorem Xn2 {l:List Xw}:Xdb l=some (kOf l):=by
 unfold Xdb kOf
 rw[X9n,Yo]
 by_cases hz:Xap l=0
 ·obtain⟨h60,h1,_⟩:=X8u hz
  rw[if_neg (by omega),hz,show((0:Int) != 0)=false from rfl,cond_false]
  unfold Xai
  rw[X31 (by omega),Yo,Xp2 (Xe9 hz) l 0 rfl]
  cases hw:wrN l l 0 with
  |some j =>
   have:=(Xp3 l l 0 j hw).2
   simp only[Yo]
   rw[Yt (show(j:Int)<(l.length:Int) by omega)];rfl
  |none =>
   simp only[Yo]
   obtain⟨e,he,hk⟩:=Xat (l:=l) (i:=(l.length:Int) - 1) (by omega) (by omega)
   rw[Yf (show ¬ (l.length:Int)<(l.length:Int) by omega),cond_false,X0e (by omega) (by omega),he,Yo,Xkm,hk];rfl
 ·rw[if_pos hz,show(Xap l != 0)=true by simp[hz]];rfl
def X29 (l:List Xw) (b:Bool):Int×Int :=
 if (kOf l).2.2=0/\(kOf l).1≠b then ((kOf l).2.1,42) else ((kOf l).2.1,(kOf l).2.2)
theorem Xdk {l:List Xw} {b:Bool} (h0:∀ x∈l,0<=x.Kind):X88 l b=some (X29 l b):=by
 unfold X88 X29
 rw[Xhc h0,Yo]
 by_cases hz:(kOf l).2.2=0
 ·rw[hz,show((0:Int)==0)=true from rfl,cond_true]
  cases hb:(kOf l).1<;>cases b<;>simp
 ·rw[show((kOf l).2.2==0)=false by simp[hz],cond_false,cond_false,if_neg (fun h=>hz h.1)];rfl
theorem Xda {l:List Xw} {b:Bool}:X75 l b=some (X29 l b):=by
 unfold X75 X29
 rw[Xn2,Yo]
 by_cases hz:(kOf l).2.2=0
 ·rw[hz,show((0:Int)==0)=true from rfl,cond_true]
  cases hb:(kOf l).1<;>cases b<;>simp
 ·rw[show((kOf l).2.2==0)=false by simp[hz],cond_false,cond_false,if_neg (fun h=>hz h.1)]
def Xlb (s:List Int) (j:Bool):Bool:=s.length==0||(j&&s.length != 2)||s.any fun x=>decide (x<0)||decide (x>3)
def X57 (s:List Int) (j:Bool):Int :=
 if s.length>4 then 4 else if Xlb s j then 8 else if s.Nodup then 0 else 43
theorem Xla (Y:List Int):∀ (xs:List Int) (k:Nat),∃ o,X0k Y xs k=some o/\((xs.any fun x=>decide (x<0)||decide (x>3))=true->∃ j:Nat,o=.x1 (j:Int))/\((xs.any fun x=>decide (x<0)||decide (x>3))=false->o=.x0)
 |[],k=>⟨.x0,rfl,by simp,fun _=>rfl⟩
 |x::xs,k=>by
  obtain⟨o,h1,h2,h3⟩:=Xla Y xs (k+1)
  rw[X0k]
  unfold X54
  rw[Yo]
  by_cases hx:x<0\/x>3
  ·have:(bif decide (x<0) then true else decide (x >= 4))=true:=by
    rcases hx with h|h
    ·rw[Yt h];rfl
    ·rw[Yf (by omega),Yt (by omega)];rfl
   rw[this]
   refine⟨_,rfl,fun _=>⟨k,rfl⟩,fun h=>?_⟩
   exfalso
   simp only[List.any_cons,Bool.or_eq_false_iff,decide_eq_false_iff_not] at h
   omega
  ·have:(bif decide (x<0) then true else decide (x >= 4))=false:=by
    rw[Yf (by omega),Yf (by omega)];rfl
   rw[this]
   refine⟨o,h1,fun h=>h2 ?_,fun h=>h3 ?_⟩
   ·rw[List.any_cons,Yf (by omega),Yf (by omega)] at h;exact h
   ·rw[List.any_cons,Yf (by omega),Yf (by omega)] at h;exact h
theorem Xov {s:List Int} (hn:s.length<=1000):Xz s=some (s.any fun x=>decide (x<0)||decide (x>3)):=by
 unfold Xz X0h
 rw[X31 (by omega),Yo]
 obtain⟨o,h1,h2,h3⟩:=Xla s s 0
 rw[h1]
 cases hb:(s.any fun x=>decide (x<0)||decide (x>3)) with
 |true=>obtain⟨j,rfl⟩:=h2 hb;simp
 |false=>rw[h3 hb];rfl
end Go.D


namespace Go.D
theorem Xcq (x y:Xb):X3n x y=decide (x=y):=by
 obtain⟨a,b,c⟩:=x
 obtain⟨a',b',c'⟩:=y
 simp only[X3n,Bool.and_true]
 rw[Bool.eq_iff_iff]
 simp
def Xf2:Int := -9223372036854775808
def Xma:Int:=9223372036854775807
def Xbt (t:Int):Bool:=decide (-1099511627776<=t)&&decide (t<=1099511627776)
def Xqj (x:Xg):Bool:=bif x.Mark then decide (x.Record=⟨0,0,0⟩)&&(Xbt x.Time||x.Time==Xma) else x.Time==0&&Xbt x.Record.Time
def chk (l:List Xg):Int:=if 60<l.length then 4 else bif l.all Xqj then 0 else 8
theorem Xls (t:Int):Xa5 t=some (Xbt t):=by
 unfold Xa5 Xbt
 simp only[ge_iff_le]
 cases decide (-1099511627776<=t)<;>rfl
theorem Xfm (l:List Xg):∀ (xs:List Xg) (k:Nat),X42 l xs k=some (bif xs.all Xqj then .x0 else .x1):=by
 intro xs
 induction xs with
 |nil=>intro k;rfl
 |cons x xs ih =>
  intro k
  rw[X42,ih]
  simp only[Xls,Xcq,List.all_cons,Xqj,Xma]
  generalize decide (x.Record=⟨0,0,0⟩)=b1
  generalize Xbt x.Time=b2
  generalize Xbt x.Record.Time=b3
  generalize (x.Time==9223372036854775807)=b4
  generalize (x.Time==0)=b5
  generalize x.Mark=b6
  cases b1<;>cases b2<;>cases b3<;>cases b4<;>cases b5<;>cases b6<;>rfl
theorem Xaq {n:Nat} (h:n<=140737488355328):X4b n=some ():=by unfold X4b;rw[if_pos h]
theorem Xhw {n b:Nat} (h:n*b<=140737488355328):X1u n b=some ():=by unfold X1u;rw[if_pos h]
theorem Xas (l:List Xg):X77 l=some (chk l):=by
 unfold X77 chk
 by_cases h:60<l.length
 ·rw[if_pos h,show decide ((l.length:Int)>60)=true from Yt (by omega)];rfl
 ·rw[if_neg h,show decide ((l.length:Int)>60)=false from Yf (by omega),Xaq (by omega)]
  simp only[cond_false,Yo,Xfm]
  cases l.all Xqj<;>rfl
theorem Xow {l:List Xg} (h:chk l=0):l.length<=60:=by
 unfold chk at h;split at h
 ·cases h
 ·omega
def Xjz (m:Int) (x:Xg):Int:=if x.Mark then (if x.Time>m then x.Time else m) else m
def Xtw (m:Int) (l:List Xg):Int:=l.foldl Xjz m
theorem Xhb (l:List Xg):∀ (xs:List Xg) (k:Nat) (m:Int),X4u l xs k m=some (.x0 (Xtw m xs)):=by
 intro xs
 induction xs with
 |nil=>intro k m;rfl
 |cons x xs ih =>
  intro k m
  rw[X4u]
  cases hx:x.Mark<;>simp[ih,Xtw,Xjz,hx]
theorem Xlt (l:List Xg):Xbs l=some (if chk l=0 then (Xtw Xf2 l,0) else (0,chk l)):=by
 unfold Xbs
 rw[Xas]
 by_cases h:chk l=0
 ·have:=Xow h
  simp[h,Xaq (show l.length<=140737488355328 by omega),Xhb,Xf2]
 ·have h':(chk l != 0)=true:=by simp[h]
  simp[h,h']
def Xn3 (late:Bool):Int->List Xg->List Xb
 |_,[]=>[]
 |m,x::l=>if !x.Mark&&(decide (x.Record.Time<m)==late) then x.Record::Xn3 late (Xjz m x) l else Xn3 late (Xjz m x) l
theorem Xpd (q:Bool):∀ (l:List Xg) (m:Int),(Xn3 q m l).length<=l.length:=by
 intro l
 induction l with
 |nil=>intro m;exact Nat.le_refl _
 |cons x l ih =>
  intro m
  have:=ih (Xjz m x)
  simp only[Xn3]
  split<;>simp only[List.length_cons]<;>omega
theorem Xfk (l:List Xg):∀ (xs:List Xg) (k:Nat) (a b:List Xb) (m:Int),a.length+xs.length<=1000000->b.length+xs.length<=1000000 ->
  X38 l xs k a b m=some (.x0 (a++Xn3 false m xs) (b++Xn3 true m xs)):=by
 intro xs
 induction xs with
 |nil=>intro k a b m _ _;simp[X38,Xn3]
 |cons x xs ih =>
  intro k a b m ha hb
  simp only[List.length_cons] at ha hb
  rw[X38]
  cases hx:x.Mark with
  |true=>simp[ih _ a b _ (by omega) (by omega),Xn3,Xjz,hx]
  |false =>
   by_cases ht:x.Record.Time<m
   ·simp[ht,Xhw (show(b.length+1)*24<=140737488355328 by omega),ih _ a (b++[x.Record]) _ (by omega) (by simp;omega),Xn3,Xjz,hx]
   ·simp[ht,Xhw (show(a.length+1)*24<=140737488355328 by omega),ih _ (a++[x.Record]) b _ (by simp;omega) (by omega),Xn3,Xjz,hx]
def X7v (l:List Xg):List Xb:=if chk l=0 then Xn3 false Xf2 l else []
def Xik (l:List Xg):List Xb:=if chk l=0 then Xn3 true Xf2 l else []
theorem Xk0 (l:List Xg):Xa6 l=some (X7v l,Xik l,chk l):=by
 unfold Xa6 X7v Xik
 rw[Xas]
 by_cases h:chk l=0
 ·have:=Xow h
  simp[h,Xaq (show l.length<=140737488355328 by omega),Xfk l l 0 [] [] _ (by simp;omega) (by simp;omega),Xf2]
 ·have h':(chk l != 0)=true:=by simp[h]
  simp[h,h']
end Go.D


namespace Go.D
theorem Xv5:∀ (xs ks:List Int),(X7m ks xs).length<=ks.length+xs.length/\((X7m ks xs).length=ks.length+xs.length↔xs.Nodup/\∀ x∈xs,x ∉ ks):=by
 intro xs
 induction xs with
 |nil=>intro ks;simp[X7m]
 |cons x xs ih =>
  intro ks
  rw[X7m]
  unfold Xhs
  by_cases hm:x∈ks
  ·rw[if_pos hm]
   have:=ih ks
   refine⟨by have:=this.1;simp only[List.length_cons];omega,⟨fun h=>?_,fun h=>?_⟩⟩
   ·have:=this.1;simp only[List.length_cons] at h;omega
   ·exact absurd hm (h.2 x List.mem_cons_self)
  ·rw[if_neg hm]
   have:=ih (ks++[x])
   rw[List.length_append,List.length_singleton] at this
   refine⟨by have:=this.1;simp only[List.length_cons];omega,?_⟩
   rw[show ks.length+(x::xs).length=ks.length+1+xs.length by simp only[List.length_cons];omega,this.2]
   constructor
   ·rintro⟨h1,h2⟩
    refine⟨List.nodup_cons.2 ⟨fun hx=>h2 x hx (by simp),h1⟩,?_⟩
    intro y hy
    rcases List.mem_cons.1 hy with rfl|hy
    ·exact hm
    ·exact fun hk=>h2 y hy (by simp[hk])
   ·rintro⟨h1,h2⟩
    refine⟨(List.nodup_cons.1 h1).2,fun y hy hk=>?_⟩
    rcases List.mem_append.1 hk with hk|hk
    ·exact h2 y (List.mem_cons_of_mem _ hy) hk
    ·simp at hk;subst hk;exact(List.nodup_cons.1 h1).1 hy
theorem Xot {s:List Int} (hn:s.length<=1000):∃ v,X2q s=some v/\decide (v<(s.length:Int))=!(decide s.Nodup):=by
 unfold X2q
 rw[X31 (by omega)]
 refine⟨_,rfl,?_⟩
 have h:=Xv5 s []
 simp only[List.length_nil,Nat.zero_add,List.not_mem_nil,not_false_eq_true,implies_true,and_true] at h
 by_cases hd:s.Nodup
 ·rw[Yt hd,h.2.2 hd];simp
 ·rw[Yf hd]
  have:(X7m [] s).length≠s.length:=fun e=>hd (h.2.1 e)
  have:=h.1
  simp;omega
theorem Xdt (s:List Int) (j:Bool):X23 s j=some (X57 s j):=by
 unfold X23 X57 Xlb
 by_cases h4:s.length>4
 ·rw[if_pos h4,Yt (show(s.length:Int)>4 by omega)];rfl
 ·rw[if_neg h4,Yf (show ¬ (s.length:Int)>4 by omega),cond_false]
  obtain⟨v,hv,hd⟩:=Xot (s:=s) (by omega)
  rw[Xov (by omega),hv]
  simp only[Yo]
  rw[hd]
  have e0:((s.length:Int)==0)=(s.length==0):=by rw[Bool.eq_iff_iff];simp
  have e2:((s.length:Int) != 2)=(s.length != 2):=by rw[Bool.eq_iff_iff];simp;omega
  rw[e0,e2]
  generalize (s.any fun x=>decide (x<0)||decide (x>3))=b
  generalize (s.length==0)=z
  generalize (s.length != 2)=t
  by_cases hn:s.Nodup<;>cases z<;>cases t<;>cases j<;>cases b<;>simp[hn]
theorem Xez (Y:List Int):∀ (xs:List Int) (k:Nat),X2n Y xs k=some (bif (xs.any fun x=>decide (x<0)||decide (x>3)) then .x1 else .x0)
 |[],k=>rfl
 |x::xs,k=>by
  rw[X2n,Xez Y xs (k+1),List.any_cons]
  cases decide (x<0)<;>cases decide (x>3)<;>rfl
theorem Xlf (s:List Int) (i:Nat) (hi:i<s.length) (hs:s.length<=1000):∀ (m n j:Nat),m=i - j->m<n->∃ o,X2m s (i:Int) n (j:Int)=some o/\(o=.x0↔∃ j',j<=j'/\j'<i/\s[j']?=s[i]?):=by
 intro m
 induction m with
 |zero =>
  intro n j hm hn
  cases n with
  |zero=>omega
  |succ n =>
   rw[X2m,Yf (show ¬ (j:Int)<(i:Int) by omega)]
   exact⟨.x1,rfl,⟨fun h=>(by cases h),fun⟨j',h1,h2,_⟩=>by omega⟩⟩
 |succ m ih =>
  intro n j hm hn
  cases n with
  |zero=>omega
  |succ n =>
   rw[X2m,Yt (show(j:Int)<(i:Int) by omega),cond_true,show X1w s (j:Int)=some (s[j]'(by omega)) by rw[X58];exact Ye _,show X1w s (i:Int)=some (s[i]'hi) by rw[X58];exact Ye _]
   simp only[Yo]
   by_cases he:s[j]=s[i]
   ·refine⟨.x0,?_,⟨fun _=>⟨j,Nat.le_refl _,by omega,by rw[Ye (show j<s.length by omega),Ye hi,he]⟩,fun _=>rfl⟩⟩
    rw[show(s[j]==s[i])=true by simp[he]];rfl
   ·rw[show(s[j]==s[i])=false by simp[he],cond_false,X0e (by omega) (by omega)]
    obtain⟨o,h1,h2⟩:=ih n (j+1) (by omega) (by omega)
    refine⟨o,by rw[show(j:Int)+1=((j+1:Nat):Int) by omega];exact h1,h2.trans ⟨fun⟨j',a,b,c⟩=>⟨j',by omega,b,c⟩,fun⟨j',a,b,c⟩=>?_⟩⟩
    by_cases hj:j'=j
    ·subst hj
     rw[Ye (show j'<s.length by omega),Ye hi] at c
     exact absurd (Option.some.inj c) he
    ·exact⟨j',by omega,b,c⟩
theorem Xey (s:List Int) (hs:s.length<=1000):∀ (xs:List Int) (k:Nat),s.drop k=xs->(s.take k).Nodup->X26 s xs k=some (if s.Nodup then .x0 else .x1)
 |[],k,h,hd=>by
  have:s.length<=k:=by
   have:=congrArg List.length h;simp at this;omega
  rw[List.take_of_length_le this] at hd
  rw[X26,if_pos hd]
 |x::xs,k,h,hd=>by
  have hk:s[k]?=some x:=by
   have:(s.drop k)[0]?=some x:=by rw[h];rfl
   simpa using this
  have hdr:s.drop (k+1)=xs:=by
   have:(s.drop k).drop 1=xs:=by rw[h];rfl
   rw[List.drop_drop] at this;exact this
  have hlt:=(Ys.1 hk).1
  rw[X26]
  obtain⟨o,h1,h2⟩:=Xlf s k hlt hs (k - 0) FU 0 rfl (by unfold FU;omega)
  rw[show((0:Nat):Int)=0 from rfl] at h1
  rw[h1,Yo]
  cases o with
  |x0 =>
   obtain⟨j,_,hj,he⟩:=h2.1 rfl
   have:¬ s.Nodup:=fun hn=>by
    have:=(List.getElem?_inj (by omega:j<s.length) hn).1 he
    omega
   rw[if_neg this]
  |x1 =>
   have hno:¬ ∃ j',0<=j'/\j'<k/\s[j']?=s[k]?:=fun h=>by have:=h2.2 h;cases this
   refine Xey s hs xs (k+1) hdr ?_
   rw[List.take_add_one,hk]
   simp only[Option.toList_some]
   rw[List.nodup_append]
   refine⟨hd,by simp,fun a ha b hb=>?_⟩
   simp at hb;subst hb
   intro e;subst e
   obtain⟨j,hj,e⟩:=List.getElem_of_mem ha
   simp at hj
   refine hno ⟨j,Nat.zero_le _,by omega,?_⟩
   rw[hk,<-e,List.getElem_take,Ye]
theorem Xfg (s:List Int) (j:Bool):X6b s j=some (X57 s j):=by
 unfold X6b X57 Xlb
 by_cases h4:s.length>4
 ·rw[if_pos h4,Yt (show(s.length:Int)>4 by omega)];rfl
 ·rw[if_neg h4,Yf (show ¬ (s.length:Int)>4 by omega),cond_false,X31 (by omega),Xez,Xey s (by omega) s 0 rfl (by simp)]
  have e0:((s.length:Int)==0)=(s.length==0):=by rw[Bool.eq_iff_iff];simp
  have e2:((s.length:Int) != 2)=(s.length != 2):=by rw[Bool.eq_iff_iff];simp;omega
  rw[e0,e2]
  generalize (s.any fun x=>decide (x<0)||decide (x>3))=b
  generalize (s.length==0)=z
  generalize (s.length != 2)=t
  by_cases hn:s.Nodup<;>cases z<;>cases t<;>cases j<;>cases b<;>simp[hn]
instance (w:X0l):Decidable (okW w):=by unfold okW;infer_instance
theorem Xz9 (w:X0l) (hE:w.Every<=9223372036854775807 /\ -9223372036854775808<=w.Every):X74 w=some (decide (okW w))/\X0z w=some (if okW w then 0 else 8):=by
 by_cases hw:okW w
 ·refine⟨?_,by rw[if_pos hw];exact X3u hw⟩
  rw[Yt hw]
  obtain⟨h1,h2,h3⟩:=hw
  unfold X74
  rw[Yf (show ¬ w.Size<1 by omega),Yf (show ¬ w.Size>1073741824 by omega)]
  rcases h3 with ⟨k,a1,a2,a3⟩|⟨k|k,a⟩
  ·rw[show(w.Kind==2)=true by simp[k],Yt a1,Yt a2,X0e (by omega) (by omega),Yt a3];rfl
  ·rw[show(w.Kind==2)=false by simp[k],show(w.Kind==1)=true by simp[k],show(w.Every==0)=true by simp[a]];rfl
  ·rw[show(w.Kind==2)=false by simp[k],show(w.Kind==3)=true by simp[k],show(w.Every==0)=true by simp[a],show(w.Kind==1)=false by simp[k]];rfl
 ·rw[if_neg hw,Yf hw]
  by_cases hs:w.Size<1\/w.Size>1073741824
  ·have:(bif decide (w.Size<1) then true else decide (w.Size>1073741824))=true:=by
    rcases hs with h|h
    ·rw[Yt h];rfl
    ·rw[Yf (by omega),Yt h];rfl
   constructor
   ·unfold X74;rw[this];rfl
   ·unfold X0z;rw[this];rfl
  ·have:(bif decide (w.Size<1) then true else decide (w.Size>1073741824))=false:=by
    rw[Yf (by omega),Yf (by omega)];rfl
   unfold X74 X0z
   rw[this,cond_false,cond_false]
   by_cases k2:w.Kind=2
   ·rw[show(w.Kind==2)=true by simp[k2],cond_true,cond_true]
    have:(bif (bif decide (w.Every >= 1) then decide (w.Every<=w.Size) else false) then decide (w.Size<=IntKind.i64.wrap (16*w.Every)) else false)=false:=by
     by_cases g1:w.Every >= 1
     ·by_cases g2:w.Every<=w.Size
      ·rw[Yt g1,Yt g2,X0e (by omega) (by omega),Yf];rfl
       intro g3;exact hw ⟨by omega,by omega,.inl ⟨k2,g1,g2,g3⟩⟩
      ·rw[Yt g1,Yf g2];rfl
     ·rw[Yf g1];rfl
    rw[this];exact⟨rfl,rfl⟩
   ·rw[show(w.Kind==2)=false by simp[k2],cond_false,cond_false]
    by_cases k1:w.Kind=1
    ·have:w.Every≠0:=fun h=>hw ⟨by omega,by omega,.inr ⟨.inl k1,h⟩⟩
     rw[show(w.Kind==1)=true by simp[k1],show(w.Every==0)=false by simp[this]];exact⟨rfl,rfl⟩
    ·by_cases k3:w.Kind=3
     ·have:w.Every≠0:=fun h=>hw ⟨by omega,by omega,.inr ⟨.inr k3,h⟩⟩
      rw[show(w.Kind==1)=false by simp[k1],show(w.Kind==3)=true by simp[k3],show(w.Every==0)=false by simp[this]];exact⟨rfl,rfl⟩
     ·rw[show(w.Kind==1)=false by simp[k1],show(w.Kind==3)=false by simp[k3]];exact⟨rfl,rfl⟩
end Go.D


namespace Go.D
def Xmq (q:Xu):Int :=
 if q.Agg<1\/q.Agg>4\/(q.Late≠1/\q.Late≠2) then 8
 else if q.Agg=1/\0<q.Arg.length then 8
 else if q.Agg≠1/\Xap q.Arg≠0 then Xap q.Arg
 else if 0<q.Where.length/\Xap q.Where≠0 then Xap q.Where
 else if X57 q.Sources q.Join≠0 then X57 q.Sources q.Join
 else if q.Join=true/\q.Window.Kind≠1 then 8
 else if okW q.Window then 0 else 8
structure QW (q:Xu):Prop where
 arg:∀ x∈q.Arg,0<=x.Kind
 wher:∀ x∈q.Where,0<=x.Kind
 ev:q.Window.Every<=9223372036854775807 /\ -9223372036854775808<=q.Window.Every
theorem Xfr {a b:Int} (h:¬ a=b):(a != b)=true:=by simp[h]
theorem lz {n:Nat} (h:0<n):((n:Int)==0)=false:=by simp;omega
theorem lz' {n:Nat} (h:¬ 0<n):((n:Int)==0)=true:=by simp;omega
theorem Xzl {q:Xu} (hq:QW q):((X23 q.Sources q.Join).bind fun v10=>bif (v10 != (0:Int)) then (some v10) else (bif (bif q.Join then (q.Window.Kind != (1:Int)) else false) then (some 8) else ((X0z q.Window).bind fun v14=>some v14)))=some (if X57 q.Sources q.Join≠0 then X57 q.Sources q.Join
 else if q.Join=true/\q.Window.Kind≠1 then 8
 else if okW q.Window then 0 else 8):=by
 rw[Xdt,Yo,(Xz9 q.Window hq.ev).2]
 by_cases h:X57 q.Sources q.Join=0
 ·rw[h]
  by_cases hj:q.Join=true
  ·by_cases hk:q.Window.Kind=1
   ·simp[hj,hk]
   ·simp[hj,hk,Xfr hk]
  ·simp[hj]
 ·simp[h,Xfr h]
theorem Xfq {q:Xu} (hq:QW q):X6m q=some (Xmq q):=by
 unfold X6m Xmq
 rw[Xzl hq,X9o hq.arg,X9o hq.wher]
 generalize (if X57 q.Sources q.Join≠0 then X57 q.Sources q.Join else if q.Join=true/\q.Window.Kind≠1 then 8 else if okW q.Window then 0 else 8)=T
 have e1:(bif (bif (decide (q.Agg<(1:Int))) then true else (decide (q.Agg>(4:Int)))) then true else (bif (q.Late != (1:Int)) then (q.Late != (2:Int)) else false))=decide (q.Agg<1\/q.Agg>4\/(q.Late≠1/\q.Late≠2)):=by
  rw[Bool.eq_iff_iff]
  by_cases h1:q.Agg<1<;>by_cases h2:q.Agg>4<;>by_cases h3:q.Late=1<;>by_cases h4:q.Late=2<;>simp[h1,h2,h3,h4]
 rw[e1]
 by_cases hA:(q.Agg<1\/q.Agg>4\/(q.Late≠1/\q.Late≠2))
 ·rw[if_pos hA,Yt hA];rfl
 ·rw[if_neg hA,Yf hA,cond_false]
  by_cases h1:q.Agg=1
  ·rw[show(q.Agg != 1)=false by simp[h1],cond_false]
   by_cases hl:0<q.Arg.length
   ·rw[Yt (show(q.Arg.length:Int)>0 by omega),if_pos ⟨h1,hl⟩];rfl
   ·rw[Yf (show ¬ (q.Arg.length:Int)>0 by omega),if_neg (fun h=>hl h.2),if_neg (fun h=>h.1 h1),cond_false]
    by_cases hw:0<q.Where.length
    ·rw[Yt (show(q.Where.length:Int)>0 by omega),cond_true,Yo]
     by_cases hz:Xap q.Where=0
     ·rw[hz];simp
     ·rw[if_pos ⟨hw,hz⟩,show(Xap q.Where != 0)=true by simp[hz]];rfl
    ·rw[Yf (show ¬ (q.Where.length:Int)>0 by omega),if_neg (fun h=>hw h.1)];rfl
  ·rw[show(q.Agg != 1)=true by simp[h1],cond_true,if_neg (fun h=>h1 h.1),Yo]
   by_cases hn:Xap q.Arg=0
   ·rw[hn,if_neg (fun h=>h.2 rfl),show((0:Int) != 0)=false from rfl,cond_false]
    by_cases hw:0<q.Where.length
    ·rw[Yt (show(q.Where.length:Int)>0 by omega),cond_true,Yo]
     by_cases hz:Xap q.Where=0
     ·rw[hz];simp
     ·rw[if_pos ⟨hw,hz⟩,show(Xap q.Where != 0)=true by simp[hz]];rfl
    ·rw[Yf (show ¬ (q.Where.length:Int)>0 by omega),if_neg (fun h=>hw h.1)];rfl
   ·rw[if_pos ⟨h1,hn⟩,show(Xap q.Arg != 0)=true by simp[hn]];rfl
theorem Xif {q:Xu} (hq:QW q):X8p q=some (Xmq q):=by
 unfold X8p Xmq
 rw[X9n,X9n,Xfg,(Xz9 q.Window hq.ev).1]
 have e1:(bif (bif (bif (decide (q.Agg<(1:Int))) then true else (decide (q.Agg>(4:Int)))) then true else (decide (q.Late<(1:Int)))) then true else (decide (q.Late>(2:Int))))=decide (q.Agg<1\/q.Agg>4\/(q.Late≠1/\q.Late≠2)):=by
  rw[Bool.eq_iff_iff]
  have g:(q.Late≠1/\q.Late≠2)↔(q.Late<1\/q.Late>2):=by omega
  rw[show decide (q.Agg<1\/q.Agg>4\/(q.Late≠1/\q.Late≠2))=decide (q.Agg<1\/q.Agg>4\/(q.Late<1\/q.Late>2)) from decide_eq_decide.2 (by rw[g])]
  by_cases h1:q.Agg<1<;>by_cases h2:q.Agg>4<;>by_cases h3:q.Late<1<;>by_cases h4:q.Late>2<;>simp[h1,h2,h3,h4]
 rw[e1]
 have tl:((some (X57 q.Sources q.Join)).bind fun v29=>bif (v29 != (0:Int)) then (some v29) else ((some (decide (okW q.Window))).bind fun v32=>bif (bif (!v32) then true else (bif q.Join then (q.Window.Kind != (1:Int)) else false)) then (some 8) else (some 0)))=some (if X57 q.Sources q.Join≠0 then X57 q.Sources q.Join
 else if q.Join=true/\q.Window.Kind≠1 then 8
 else if okW q.Window then 0 else 8):=by
  simp only[Yo]
  by_cases h:X57 q.Sources q.Join=0
  ·rw[h]
   by_cases hk:q.Window.Kind=1
   ·by_cases hj:q.Join=true<;>by_cases ho:okW q.Window<;>simp[hj,hk,ho]
   ·by_cases hj:q.Join=true<;>by_cases ho:okW q.Window<;>simp[hj,hk,ho,Xfr hk]
  ·simp[h,Xfr h]
 rw[tl]
 generalize (if X57 q.Sources q.Join≠0 then X57 q.Sources q.Join else if q.Join=true/\q.Window.Kind≠1 then 8 else if okW q.Window then 0 else 8)=T
 by_cases hA:(q.Agg<1\/q.Agg>4\/(q.Late≠1/\q.Late≠2))
 ·rw[if_pos hA,Yt hA];rfl
 ·rw[if_neg hA,Yf hA,cond_false]
  have wh:((bif (decide ((List.length q.Where:Int)>(0:Int))) then ((some (Xap q.Where)).bind fun v23=>some (bif (decide ((List.length q.Where:Int)>(0:Int))) then (v23 != (0:Int)) else false)) else (some (bif (decide ((List.length q.Where:Int)>(0:Int))) then false else false)):Option (Bool)).bind fun Xlx=>bif Xlx then ((some (Xap q.Where)).bind fun v27=>some v27) else some T)=some (if 0<q.Where.length/\Xap q.Where≠0 then Xap q.Where else T):=by
   by_cases hw:0<q.Where.length
   ·rw[Yt (show(q.Where.length:Int)>0 by omega)]
    by_cases hz:Xap q.Where=0
    ·rw[hz];simp
    ·rw[if_pos ⟨hw,hz⟩];simp[hz,Xfr hz]
   ·rw[Yf (show ¬ (q.Where.length:Int)>0 by omega),if_neg (fun h=>hw h.1)];rfl
  rw[wh]
  generalize (if 0<q.Where.length/\Xap q.Where≠0 then Xap q.Where else T)=T2
  by_cases h1:q.Agg=1
  ·rw[show(q.Agg==1)=true by simp[h1],show(q.Agg != 1)=false by simp[h1]]
   by_cases hl:0<q.Arg.length
   ·rw[Yt (show(q.Arg.length:Int)>0 by omega),if_pos ⟨h1,hl⟩];rfl
   ·rw[Yf (show ¬ (q.Arg.length:Int)>0 by omega),if_neg (fun h=>hl h.2),if_neg (fun h=>h.1 h1)];rfl
  ·rw[show(q.Agg==1)=false by simp[h1],show(q.Agg != 1)=true by simp[h1],if_neg (fun h=>h1 h.1)]
   by_cases hn:Xap q.Arg=0
   ·rw[hn,if_neg (fun h=>h.2 rfl)];rfl
   ·rw[if_pos ⟨h1,hn⟩]
    simp[hn,Xfr hn]
def atOf (l:List Xw) (i:Int):Int:=match X1w l i with|some e=>e.At|none=>0
theorem Xk1 {l:List Xw} {b:Bool} (h:0<l.length):∃ e,X1w l (X29 l b).1=some e/\atOf l (X29 l b).1=e.At:=by
 have hr:0<=(X29 l b).1/\(X29 l b).1<l.length:=by
  have:(X29 l b).1=(kOf l).2.1:=by unfold X29;split<;>rfl
  rw[this]
  unfold kOf
  split
  ·simp only;omega
  ·split
   ·rename_i j hj
    have:=Xp3 l l 0 j hj
    simp only;omega
   ·simp only;omega
 obtain⟨e,he,_⟩:=Xbv hr.1 hr.2
 exact⟨e,he,by unfold atOf;rw[he]⟩
def rt (q:Xu):Int×Int :=
 if 0<q.Arg.length/\(X29 q.Arg false).2≠0 then (atOf q.Arg (X29 q.Arg false).1,(X29 q.Arg false).2)
 else if 0<q.Where.length/\(X29 q.Where true).2≠0 then (atOf q.Where (X29 q.Where true).1,(X29 q.Where true).2)
 else (0,0)
theorem Xp4 (q:Xu) (hw:0<q.Where.length):(bif ((X29 q.Where true).2 != (0:Int)) then ((X1w q.Where (X29 q.Where true).1).bind fun e28=>some (e28.At,(X29 q.Where true).2)) else (some (0,0)))=some (if 0<q.Where.length/\(X29 q.Where true).2≠0 then (atOf q.Where (X29 q.Where true).1,(X29 q.Where true).2) else (0,0)):=by
 obtain⟨e,he,ha⟩:=Xk1 (b:=true) hw
 by_cases hz:(X29 q.Where true).2=0
 ·rw[if_neg (fun h=>h.2 hz),show((X29 q.Where true).2 != 0)=false by simp[hz]];rfl
 ·rw[if_pos ⟨hw,hz⟩,show((X29 q.Where true).2 != 0)=true by simp[hz],he,ha];rfl
theorem Xic (q:Xu):X8m q=some (rt q):=by
 unfold X8m rt
 rw[Xda,Xda]
 simp only[Yo]
 have wh:(bif (decide ((List.length q.Where:Int)>(0:Int))) then (bif ((X29 q.Where true).2 != (0:Int)) then ((X1w q.Where (X29 q.Where true).1).bind fun e28=>some (e28.At,(X29 q.Where true).2)) else (some (0,0))) else (some (0,0)))=some (if 0<q.Where.length/\(X29 q.Where true).2≠0 then (atOf q.Where (X29 q.Where true).1,(X29 q.Where true).2) else (0,0)):=by
  by_cases hw:0<q.Where.length
  ·rw[Yt (show(q.Where.length:Int)>0 by omega),cond_true,Xp4 q hw]
  ·rw[Yf (show ¬ (q.Where.length:Int)>0 by omega),if_neg (fun h=>hw h.1)];rfl
 rw[wh]
 by_cases ha:0<q.Arg.length
 ·rw[Yt (show(q.Arg.length:Int)>0 by omega),cond_true]
  obtain⟨e,he,hat⟩:=Xk1 (b:=false) ha
  by_cases hz:(X29 q.Arg false).2=0
  ·rw[if_neg (show ¬ (0<q.Arg.length/\(X29 q.Arg false).2≠0) from fun h=>h.2 hz),show((X29 q.Arg false).2 != 0)=false by simp[hz],cond_false]
  ·rw[if_pos (show(0<q.Arg.length/\(X29 q.Arg false).2≠0) from⟨ha,hz⟩),show((X29 q.Arg false).2 != 0)=true by simp[hz],he,hat];rfl
 ·rw[Yf (show ¬ (q.Arg.length:Int)>0 by omega),if_neg (show ¬ (0<q.Arg.length/\(X29 q.Arg false).2≠0) from fun h=>ha h.1),cond_false]
def Xwc (q:Xu):Int×Int:=if Xmq q≠0 then (0,Xmq q) else rt q
theorem Xid {q:Xu} (hq:QW q):X8n q=some (Xwc q):=by
 unfold X8n Xwc
 rw[Xif hq,Xic,Yo]
 by_cases h:Xmq q=0
 ·rw[if_neg (by omega),h];rfl
 ·rw[if_pos h,show(Xmq q != 0)=true by simp[h]];rfl
theorem Xhu {q:Xu} (hq:QW q):X7n q=some (Xwc q):=by
 unfold X7n Xwc
 rw[Xfq hq,Yo]
 by_cases h:Xmq q=0
 ·rw[if_neg (by omega),h,show((0:Int) != 0)=false from rfl,cond_false]
  unfold X8y X9c
  rw[Xdk hq.arg,Xdk hq.wher]
  simp only[Yo]
  unfold rt
  have wh:(bif ((List.length q.Where:Int)==(0:Int)) then (some (0,0)) else (bif ((X29 q.Where true).2 != (0:Int)) then ((X1w q.Where (X29 q.Where true).1).bind fun e28=>some (e28.At,(X29 q.Where true).2)) else (some (0,0))))=some (if 0<q.Where.length/\(X29 q.Where true).2≠0 then (atOf q.Where (X29 q.Where true).1,(X29 q.Where true).2) else (0,0)):=by
   by_cases hw:0<q.Where.length
   ·rw[lz hw,cond_false,Xp4 q hw]
   ·rw[lz' hw,if_neg (fun h=>hw h.1)];rfl
  rw[wh]
  by_cases ha:0<q.Arg.length
  ·rw[lz ha,cond_false]
   obtain⟨e,he,hat⟩:=Xk1 (b:=false) ha
   by_cases hz:(X29 q.Arg false).2=0
   ·rw[if_neg (show ¬ (0<q.Arg.length/\(X29 q.Arg false).2≠0) from fun h=>h.2 hz),show((X29 q.Arg false).2 != 0)=false by simp[hz],cond_false];rfl
   ·rw[if_pos (show(0<q.Arg.length/\(X29 q.Arg false).2≠0) from⟨ha,hz⟩),show((X29 q.Arg false).2 != 0)=true by simp[hz],he,hat];rfl
  ·rw[lz' ha,if_neg (show ¬ (0<q.Arg.length/\(X29 q.Arg false).2≠0) from fun h=>ha h.1)];rfl
 ·rw[if_pos h,show(Xmq q != 0)=true by simp[h]];rfl
end Go.D


namespace Go.D
theorem Xib (t:Int):X73 t 1=some (bif Xbt t then 0 else 16):=by
 unfold X73 Xbt
 by_cases h1 : -1099511627776<=t
 ·rw[show decide (t < -1099511627776)=false from Yf (by omega),Yt h1]
  by_cases h2:t<=1099511627776
  ·rw[show decide (t>1099511627776)=false from Yf (by omega),Yt h2];rfl
  ·rw[show decide (t>1099511627776)=true from Yt (by omega),Yf h2];rfl
 ·rw[show decide (t < -1099511627776)=true from Yt (by omega),Yf h1];rfl
theorem Xi9 (x:Xg):X8k x=some (Xqj x):=by
 unfold X8k Xqj Xma
 simp only[Xib,Xcq]
 generalize decide (x.Record=⟨0,0,0⟩)=b1
 generalize Xbt x.Time=b2
 generalize Xbt x.Record.Time=b3
 generalize (x.Time==9223372036854775807)=b4
 generalize (x.Time==0)=b5
 generalize x.Mark=b6
 cases b1<;>cases b2<;>cases b3<;>cases b4<;>cases b5<;>cases b6<;>rfl
theorem Xe4 (l:List Xg):∀ (xs:List Xg) (k:Nat),X3l l xs k=some (bif xs.all Xqj then .x0 else .x1):=by
 intro xs
 induction xs with
 |nil=>intro k;rfl
 |cons x xs ih =>
  intro k
  rw[X3l,ih]
  simp only[Xi9,List.all_cons,Yo]
  cases Xqj x<;>rfl
theorem Xia (l:List Xg):X8l l=some (chk l):=by
 unfold X8l chk
 by_cases h:60<l.length
 ·rw[if_pos h,show decide ((l.length:Int)>60)=true from Yt (by omega)];rfl
 ·rw[if_neg h,show decide ((l.length:Int)>60)=false from Yf (by omega),Xaq (by omega)]
  simp only[cond_false,Yo,Xe4]
  cases l.all Xqj<;>rfl
theorem X03u {l:List Xg}:chk l=0↔l.length<=60/\∀ x∈l,Xqj x=true:=by
 unfold chk
 constructor
 ·intro h
  split at h
  ·cases h
  ·refine⟨by omega,?_⟩
   cases ha:l.all Xqj with
   |true=>exact List.all_eq_true.1 ha
   |false=>rw[ha] at h;cases h
 ·rintro⟨h1,h2⟩
  rw[if_neg (by omega),List.all_eq_true.2 h2];rfl
theorem X068 (a:Int):0<=bits .and .i64 a 63:=by
 unfold bits
 simp only
 have h:((BitVec.ofInt IntKind.i64.bits a) &&& (BitVec.ofInt IntKind.i64.bits 63)).toNat<=63:=by
  rw[BitVec.toNat_and]
  exact Nat.le_trans Nat.and_le_right (by decide)
 rw[X0e (by omega) (by omega)]
 omega
theorem Xwt (b:Bool):X32 b=some (if b then 1 else 0):=by cases b<;>rfl
theorem Xjc {K a b:Int} (h1:5<=K) (h2:K<=19):∃ v,Xef K a b=some (v,0):=by
 have hs:shOk (bits .and .i64 b 63)=some ():=by unfold shOk;rw[if_pos (X068 b)]
 unfold Xef
 simp only[Xwt,hs,Yo]
 rcases(by omega:K=5\/K=6\/K=7\/K=8\/K=9\/K=10\/K=11\/K=12\/K=13\/K=14\/K=15\/K=16\/K=17\/K=18\/K=19) with h|h|h|h|h|h|h|h|h|h|h|h|h|h|h<;>subst h<;>exact⟨_,rfl⟩
theorem Xpx {l:List Xw} (env:V5 Int) (ho:∀ j x,l[j]?=some x->Xjh x j):∀ (xs:List Xw) (k:Nat) (vs:List Int),l.drop k=xs->vs.length=l.length->∃ vs',X1x env l xs k vs=some (.x0 vs')/\vs'.length=l.length
 |[],k,vs,_,hv=>⟨vs,rfl,hv⟩
 |x::xs,k,vs,h,hv=>by
  have hk:l[k]?=some x:=by
   have:(l.drop k)[0]?=some x:=by rw[h];rfl
   simpa using this
  have hd:l.drop (k+1)=xs:=by
   have:(l.drop k).drop 1=xs:=by rw[h];rfl
   rw[List.drop_drop] at this;exact this
  have hlt:=(Ys.1 hk).1
  have hx:=ho k x hk
  have hg:X1w vs (k:Int)=some (vs[k]'(by omega)):=by rw[X58];exact Ye _
  have go:∀ z,∃ vs',X1x env l xs (k+1) (vs.set (Int.toNat (k:Int)) z)=some (.x0 vs')/\vs'.length=l.length:=fun z=>Xpx env ho xs (k+1) _ hd (by rw[List.length_set];exact hv)
  rw[X1x]
  have h1:=hx.lo
  have h2:=hx.hi
  by_cases k1:x.Kind=1
  ·rw[show(x.Kind==1)=true by simp[k1],cond_true,hg,Yo];exact go _
  ·rw[show(x.Kind==1)=false by simp[k1],cond_false]
   by_cases k4:x.Kind<=4
   ·rw[Yt k4,cond_true,show(x.Kind==0)=false by simp;omega,hg]
    simp only[Yo,cond_false]
    rcases(by omega:x.Kind=2\/x.Kind=3\/x.Kind=4) with h|h|h
    ·rw[h];exact go _
    ·rw[h];exact go _
    ·rw[h];exact go _
   ·rw[Yf k4,cond_false]
    have hA:=hx.ak (by omega)
    have hB:=hx.bk (by omega)
    obtain⟨a,ha,_⟩:=Xbv (l:=vs) hx.a0 (by omega)
    obtain⟨b,hb,_⟩:=Xbv (l:=vs) hx.b0 (by omega)
    obtain⟨v,hdo⟩:=Xjc (K:=x.Kind) (a:=a) (b:=b) (by omega) h2
    rw[ha,Yo,hb,Yo,hdo,hg]
    exact go _
def evV (l:List Xw) (r:Xb):Int:=match X5n l r with|some v=>v.1|none=>0
theorem Xd2 {l:List Xw} (h0:∀ x∈l,0<=x.Kind) (h:(kOf l).2.2=0) (r:Xb):X5n l r=some (evV l r,0):=by
 have hz:Xap l=0:=by
  by_cases hz:Xap l=0
  ·exact hz
  ·unfold kOf at h;rw[if_pos hz] at h;exact h
 obtain⟨h60,h1,_⟩:=X8u hz
 have:∃ v,X5n l r=some (v,0):=by
  unfold X5n Xdr Xaz
  rw[Xhc h0,Yo,Yo,h]
  have hm:mkOk (l.length:Int) (l.length:Int) 8=some ():=by unfold mkOk;rw[if_pos ⟨by omega,rfl,by omega⟩]
  rw[hm,X31 (by omega)]
  obtain⟨vs,hvs,hl⟩:=Xpx (V5.mk 0 0 r.Key r.Time r.Value) (Xe9 hz) l 0 (List.replicate (Int.toNat (l.length:Int)) 0) rfl (by simp)
  simp only[Yo]
  rw[show((l.length:Int)==0)=false from lz h1,hvs]
  simp only[bne_self_eq_false,cond_false,Yo]
  rw[hl,X0e (by omega) (by omega)]
  obtain⟨v,hv,_⟩:=Xbv (l:=vs) (i:=(l.length:Int) - 1) (by omega) (by omega)
  exact⟨v,by rw[hv];rfl⟩
 obtain⟨v,hv⟩:=this
 unfold evV
 rw[hv]
theorem Xpn {l:List Xw} {b:Bool} (h:(X29 l b).2=0):(kOf l).2.2=0:=by
 unfold X29 at h
 split at h
 ·cases h
 ·exact h
def Xb4:List (List Xg)->Int
 |[]=>0
 |x::xs=>if chk x≠0 then chk x else Xb4 xs
theorem Xdg (Y:List (List Xg)):∀ (xs:List (List Xg)) (k:Nat),∃ o,X28 Y xs k=some o/\(match o with|.x0=>(0:Int)|.x1 z=>z)=Xb4 xs
 |[],k=>⟨_,rfl,rfl⟩
 |x::xs,k=>by
  rw[X28,Xas,Yo,Xb4]
  by_cases h:chk x=0
  ·rw[if_neg (by omega),h];exact Xdg Y xs (k+1)
  ·rw[if_pos h,Xfr h];exact⟨_,rfl,rfl⟩
theorem Xa2 {l:List (List Xg)} (hn:l.length<=1000):X4a l=some (Xb4 l):=by
 unfold X4a
 rw[X31 (by omega),Yo]
 obtain⟨o,h1,h2⟩:=Xdg l l 0
 rw[h1,<-h2]
 cases o<;>rfl
theorem Xj2 (Y:List (List Xg)):∀ (xs:List (List Xg)) (k:Nat),∃ o,X3j Y xs k=some o/\(match o with|.x0=>(0:Int)|.x1 z=>z)=Xb4 xs
 |[],k=>⟨_,rfl,rfl⟩
 |x::xs,k=>by
  rw[X3j,Xia,Yo,Xb4]
  by_cases h:chk x=0
  ·rw[if_neg (by omega),h];exact Xj2 Y xs (k+1)
  ·rw[if_pos h,Xfr h];exact⟨_,rfl,rfl⟩
theorem Xi7 {l:List (List Xg)} (hn:l.length<=1000):X8i l=some (Xb4 l):=by
 unfold X8i
 rw[X31 (by omega),Yo]
 obtain⟨o,h1,h2⟩:=Xj2 l l 0
 rw[h1,<-h2]
 cases o<;>rfl
theorem Xct {l:List (List Xg)}:Xb4 l=0↔∀ x∈l,chk x=0:=by
 induction l with
 |nil=>simp[Xb4]
 |cons x xs ih =>
  rw[Xb4]
  by_cases h:chk x=0
  ·rw[if_neg (by omega),ih];simp[h]
  ·rw[if_pos h];simp[h]
end Go.D


namespace Go.D
def X6q (p:Pu) (s:X0n):X5:=⟨p.1.Key,s,⟨if p.2=0 then ofA p.1.Value else Xbc,if p.2=1 then ofA p.1.Value else Xbc⟩⟩
theorem X4p (L:List Pu) (p:Pu) (k:Int) (s:X0n) (side:Int):vals (L++[p]) k s side=vals L k s side++(if p.1.Key=k/\inS s p.1.Time/\p.2=side then [p.1.Value] else []):=by
 unfold vals
 rw[List.filter_append,List.map_append]
 congr 1
 by_cases h:p.1.Key=k/\inS s p.1.Time/\p.2=side
 ·rw[if_pos h,List.filter_cons_of_pos (by simpa using h)];rfl
 ·rw[if_neg h,List.filter_cons_of_neg (by simpa using h)];rfl
theorem X82 (L:List Pu) (p:Pu) (k t:Int):X51 (L++[p]) k t↔X51 L k t\/(p.1.Key=k/\p.1.Time=t):=by
 unfold X51
 constructor
 ·rintro⟨q,hq,h⟩
  rcases List.mem_append.1 hq with h1|h1
  ·exact .inl ⟨q,h1,h⟩
  ·rw[List.mem_singleton.1 h1] at h;exact .inr h
 ·rintro(⟨q,hq,h⟩|h)
  ·exact⟨q,List.mem_append_left _ hq,h⟩
  ·exact⟨p,by simp,h⟩
structure Xsn (w:X0l) (L:List Pu):Prop where
 time:∀ p∈L,okT p.1.Time
 side:∀ p∈L,p.2=0\/p.2=1
 len:L.length<=240
theorem Xsn.init {w:X0l} {L:List Pu} {p:Pu} (h:Xsn w (L++[p])):Xsn w L:=⟨fun q hq=>h.time q (List.mem_append_left _ hq),fun q hq=>h.side q (List.mem_append_left _ hq),by have:=h.len;simp at this;omega⟩
theorem Xl5 {L:List Pu} {k:Int} {s:X0n} (h:∀ t,X51 L k t->¬ inS s t) (side:Int):vals L k s side=[]:=by
 unfold vals
 rw[List.map_eq_nil_iff,List.filter_eq_nil_iff]
 intro p hp hc
 simp only[decide_eq_true_eq] at hc
 exact h p.1.Time ⟨p,hp,hc.1,rfl⟩ hc.2.1
theorem Xsx {L:List Pu} {k t:Int} {s:X0n} (hs:∀ p∈L,p.2=0\/p.2=1) (h:X51 L k t) (hi:inS s t):0<(vals L k s 0).length+(vals L k s 1).length:=by
 obtain⟨p,hp,hk,ht⟩:=h
 rcases hs p hp with h0|h0
 ·have:p.1.Value∈vals L k s 0:=List.mem_map.2 ⟨p,List.mem_filter.2 ⟨hp,by simp[hk,h0,ht,hi]⟩,rfl⟩
  have:=List.length_pos_of_mem this;omega
 ·have:p.1.Value∈vals L k s 1:=List.mem_map.2 ⟨p,List.mem_filter.2 ⟨hp,by simp[hk,h0,ht,hi]⟩,rfl⟩
  have:=List.length_pos_of_mem this;omega
structure Mid (w:X0l) (L:List Pu) (p:Pu) (done:X0n->Prop) (es:List X5):Prop where
 sorted:es.Pairwise ltE
 mem:∀ e,e∈es↔(e.Key=p.1.Key/\done e.Span/\e.Values=Xba (L++[p]) e.Key e.Span)\/(¬ (e.Key=p.1.Key/\done e.Span)/\Xmf w L e)
theorem Xv2 {L:List Pu} {p:Pu} {s:X0n} (h:∀ t,X51 L p.1.Key t->¬ inS s t) (hi:inS s p.1.Time):Xba (L++[p]) p.1.Key s=(X6q p s).Values:=by
 unfold Xba X6q
 rw[X4p,X4p,Xl5 h,Xl5 h]
 simp only[List.nil_append]
 congr 1
 ·by_cases h0:p.2=0
  ·rw[if_pos ⟨trivial,hi,h0⟩,if_pos h0,Xcg]
  ·rw[if_neg (fun hc=>h0 hc.2.2),if_neg h0,Xkw]
 ·by_cases h0:p.2=1
  ·rw[if_pos ⟨trivial,hi,h0⟩,if_pos h0,Xcg]
  ·rw[if_neg (fun hc=>h0 hc.2.2),if_neg h0,Xkw]
theorem Xs4 {L:List Pu} {p:Pu} {s:X0n} (hl:L.length<=1000000) (hi:inS s p.1.Time) :
  Xba (L++[p]) p.1.Key s=⟨X39 (Xba L p.1.Key s).e0 (X6q p s).Values.e0,X39 (Xba L p.1.Key s).e1 (X6q p s).Values.e1⟩:=by
 have ok:∀ side,okA (Xch (vals L p.1.Key s side)):=fun side=>Xhz (Nat.le_trans (Xd6 ..) (by omega))
 unfold Xba X6q
 rw[X4p,X4p]
 dsimp only
 congr 1
 ·by_cases h0:p.2=0
  ·rw[if_pos ⟨rfl,hi,h0⟩,if_pos h0,Xc2]
  ·rw[if_neg (fun hc=>h0 hc.2.2),if_neg h0,List.append_nil,Xg2 (ok 0)]
 ·by_cases h0:p.2=1
  ·rw[if_pos ⟨rfl,hi,h0⟩,if_pos h0,Xc2]
  ·rw[if_neg (fun hc=>h0 hc.2.2),if_neg h0,List.append_nil,Xg2 (ok 1)]
theorem Mid.step {w:X0l} {L:List Pu} {p:Pu} {done:X0n->Prop} {es:List X5} {s:X0n} (hk:w.Kind≠3) (hl:L.length<=1000000) (m:Mid w L p done es) (hs:¬ done s) (hi:Xm2 w.Size (Xcp w) p.1.Time s) :
  Mid w L p (fun x=>done x\/x=s) (Xjx es (X6q p s)):=by
 have hin:inS s p.1.Time:=hi.2.2
 have hkey:∀ e:X5,X4j e (X6q p s)↔e.Key=p.1.Key/\e.Span=s:=fun e=>Iff.rfl
 refine⟨Xh1 m.sorted,fun e=>?_⟩
 rw[Xjv m.sorted]
 by_cases he:X4j e (X6q p s)
 ·have he2:=(hkey e).1 he
  have hno:∀ y∈es,X4j y (X6q p s)->y=⟨p.1.Key,s,Xba L p.1.Key s⟩/\Xcu w (X51 L p.1.Key) s:=by
   intro y hy hsy
   have hy2:=(hkey y).1 hsy
   rcases(m.mem y).1 hy with ⟨_,h2,_⟩|⟨_,h2,h3⟩
   ·exact absurd (hy2.2▸h2) hs
   ·rw[hy2.1,hy2.2] at h3 h2
    refine⟨?_,h2⟩
    cases y;simp only at hy2 h3;rw[hy2.1,hy2.2,h3]
  have hval:e.Values=Xba (L++[p]) e.Key e.Span↔((e∈es/\¬ X4j e (X6q p s))\/(∃ y∈es,X4j y (X6q p s)/\e=Xjb y (X6q p s))\/((∀ y∈es,¬ X4j y (X6q p s))/\e=X6q p s)):=by
   rw[he2.1,he2.2]
   by_cases hex:∃ y∈es,X4j y (X6q p s)
   ·obtain⟨y,hy,hsy⟩:=hex
    obtain⟨hyv,hyw⟩:=hno y hy hsy
    have hmg:Xjb y (X6q p s)=⟨p.1.Key,s,Xba (L++[p]) p.1.Key s⟩:=by rw[Xs4 hl hin,hyv];rfl
    constructor
    ·intro hv
     refine .inr (.inl ⟨y,hy,hsy,?_⟩)
     rw[hmg];cases e;simp only at he2 hv;rw[he2.1,he2.2,hv]
    ·rintro(⟨_,h⟩|⟨y',hy',hsy',h⟩|⟨h,_⟩)
     ·exact absurd he h
     ·have:y'=y:=by rw[(hno y' hy' hsy').1,hyv]
      rw[h,this,hmg]
     ·exact absurd hsy (h y hy)
   ·have hex':∀ y∈es,¬ X4j y (X6q p s):=fun y hy h=>hex ⟨y,hy,h⟩
    have hnone:∀ t,X51 L p.1.Key t->¬ inS s t:=by
     intro t ht hst
     have:(⟨p.1.Key,s,Xba L p.1.Key s⟩:X5)∈es:=by
      rw[m.mem]
      refine .inr ⟨fun h=>hs h.2,?_,rfl⟩
      show Xcu w (X51 L p.1.Key) s
      unfold Xcu
      rw[if_neg hk]
      exact⟨t,ht,hi.1,hi.2.1,hst⟩
     exact hex' _ this ⟨rfl,rfl⟩
    have hvv:=Xv2 hnone hin
    constructor
    ·intro hv
     refine .inr (.inr ⟨hex',?_⟩)
     cases e;simp only at he2 hv;rw[he2.1,he2.2,hv,hvv];rfl
    ·rintro(⟨_,h⟩|⟨y',hy',hsy',_⟩|⟨_,h⟩)
     ·exact absurd he h
     ·exact absurd hsy' (hex' y' hy')
     ·rw[h,hvv]
  rw[<-hval]
  constructor
  ·intro h;exact .inl ⟨he2.1,.inr he2.2,h⟩
  ·rintro(⟨_,_,h⟩|⟨h,_⟩)
   ·exact h
   ·exact absurd ⟨he2.1,.inr he2.2⟩ h
 ·have hne:¬ (e.Key=p.1.Key/\e.Span=s):=fun h=>he ((hkey e).2 h)
  constructor
  ·rintro(⟨h1,_⟩|⟨y,hy,hsy,h⟩|⟨_,h⟩)
   ·rcases(m.mem e).1 h1 with ⟨a1,a2,a3⟩|⟨a1,a2⟩
    ·exact .inl ⟨a1,.inl a2,a3⟩
    ·exact .inr ⟨fun h=>a1 ⟨h.1,h.2.resolve_right fun hh=>hne ⟨h.1,hh⟩⟩,a2⟩
   ·exact absurd (by rw[h];exact⟨hsy.1,hsy.2⟩) he
   ·exact absurd (by rw[h];exact⟨rfl,rfl⟩) he
  ·rintro(⟨a1,a2,a3⟩|⟨a1,a2⟩)
   ·exact .inl ⟨(m.mem e).2 (.inl ⟨a1,a2.resolve_right fun hh=>hne ⟨a1,hh⟩,a3⟩),he⟩
   ·exact .inl ⟨(m.mem e).2 (.inr ⟨fun h=>a1 ⟨h.1,.inl h.2⟩,a2⟩),he⟩
theorem Mid.start {w:X0l} {L:List Pu} {p:Pu} {es:List X5} (c:X50 w L es):Mid w L p (fun _=>False) es:=by
 refine⟨c.sorted,fun e=>?_⟩
 rw[c.mem];simp
theorem Mid.end {w:X0l} {L:List Pu} {p:Pu} {es:List X5} {done:X0n->Prop} (hk:w.Kind≠3) (hd:∀ s,done s↔Xm2 w.Size (Xcp w) p.1.Time s) (m:Mid w L p done es):X50 w (L++[p]) es:=by
 refine⟨m.sorted,fun e=>?_,fun h3=>absurd h3 hk⟩
 rw[m.mem]
 unfold Xmf Xcu
 rw[if_neg hk,if_neg hk]
 by_cases he:e.Key=p.1.Key/\done e.Span
 ·constructor
  ·rintro(⟨_,_,h⟩|⟨h,_⟩)
   ·exact⟨⟨p.1.Time,(X82 ..).2 (.inr ⟨he.1.symm,rfl⟩),(hd _).1 he.2⟩,h⟩
   ·exact absurd he h
  ·rintro⟨_,h⟩;exact .inl ⟨he.1,he.2,h⟩
 ·have hv:Xba (L++[p]) e.Key e.Span=Xba L e.Key e.Span\/∀ t,X51 L e.Key t->¬ Xm2 w.Size (Xcp w) t e.Span:=by
   by_cases hkk:p.1.Key=e.Key/\inS e.Span p.1.Time
   ·right
    intro t _ hw
    exact he ⟨hkk.1.symm,(hd _).2 ⟨hw.1,hw.2.1,hkk.2⟩⟩
   ·left
    unfold Xba
    rw[X4p,X4p,if_neg (fun h=>hkk ⟨h.1,h.2.1⟩),if_neg (fun h=>hkk ⟨h.1,h.2.1⟩),List.append_nil,List.append_nil]
  constructor
  ·rintro(⟨h1,h2,_⟩|⟨_,⟨t,ht,hw⟩,h⟩)
   ·exact absurd ⟨h1,h2⟩ he
   ·refine⟨⟨t,(X82 ..).2 (.inl ht),hw⟩,?_⟩
    rcases hv with hv|hv
    ·rw[hv];exact h
    ·exact absurd hw (hv t ht)
  ·rintro⟨⟨t,ht,hw⟩,h⟩
   refine .inr ⟨he,?_⟩
   rcases(X82 ..).1 ht with ht|⟨hkey,htt⟩
   ·refine⟨⟨t,ht,hw⟩,?_⟩
    rcases hv with hv|hv
    ·rw[<-hv];exact h
    ·exact absurd hw (hv t ht)
   ·exact absurd ⟨hkey.symm,(hd _).2 (htt▸hw)⟩ he
end Go.D


namespace Go.D
theorem Xks {L:List Pu} (hl:L.length<=1000) (k:Int) (s:X0n):okA (Xba L k s).e0/\okA (Xba L k s).e1/\(Xba L k s).e0.Count<=1000/\(Xba L k s).e1.Count<=1000:=by
 have h0:=Xd6 L k s 0
 have h1:=Xd6 L k s 1
 refine⟨Xhz (by omega),Xhz (by omega),?_,?_⟩
 ·show(Xch _).Count<=1000;rw[X34];omega
 ·show(Xch _).Count<=1000;rw[X34];omega
theorem X01m (p:Pu) (s:X0n):okA (X6q p s).Values.e0/\okA (X6q p s).Values.e1/\(X6q p s).Values.e0.Count<=1/\(X6q p s).Values.e1.Count<=1:=by
 unfold X6q
 dsimp only
 refine⟨?_,?_,?_,?_⟩
 ·split
  ·exact Xlm _
  ·exact Xji
 ·split
  ·exact Xlm _
  ·exact Xji
 ·split
  ·exact Int.le_refl _
  ·show(0:Int)<=1;decide
 ·split
  ·exact Int.le_refl _
  ·show(0:Int)<=1;decide
theorem Mid.vals {w:X0l} {L:List Pu} {p:Pu} {done:X0n->Prop} {es:List X5} (m:Mid w L p done es) (hl:L.length<=900) {e:X5} (he:e∈es):okA e.Values.e0/\okA e.Values.e1/\e.Values.e0.Count<=1000/\e.Values.e1.Count<=1000:=by
 rcases(m.mem e).1 he with ⟨_,_,h⟩|⟨_,_,h⟩
 ·rw[h];exact Xks (by simp;omega) _ _
 ·rw[h];exact Xks (by omega) _ _
theorem X03x {w:X0l} {L:List Pu} {p:Pu} (hk:w.Kind≠3) (hl:L.length<=900) (Y:List X0n):∀ (xs:List X0n) (k:Nat) (x0:X5) (l:List X5) (done:X0n->Prop),Mid w L p done l->xs.Nodup->(∀ s∈xs,¬ done s/\Xm2 w.Size (Xcp w) p.1.Time s) ->
  x0.Key=p.1.Key->(∀ s,x0.Values=(X6q p s).Values)->l.length+xs.length<=9000->∃ l',X3y Y xs k x0 l=some (.x0 l')/\Mid w L p (fun s=>done s\/s∈xs) l'/\l'.length<=l.length+xs.length:=by
 intro xs
 induction xs with
 |nil=>intro k x0 l done m _ _ _ _ _;exact⟨l,rfl,by simpa using m,by simp⟩
 |cons s xs ih =>
  intro k x0 l done m hnd hs hk0 hv0 hlen
  rw[List.nodup_cons] at hnd
  have hs0:=hs s List.mem_cons_self
  have hx:(⟨x0.Key,s,x0.Values⟩:X5)=X6q p s:=by rw[hk0,hv0 s];rfl
  have er:=X01m p s
  have m2:=m.step hk (by omega) hs0.1 hs0.2
  simp only[List.length_cons] at hlen
  obtain⟨l',h1,h2,h3⟩:=ih (k+1) (X6q p s) (Xjx l (X6q p s)) _ m2 hnd.2 (fun x hxx=>⟨fun h=>h.elim (hs x (List.mem_cons_of_mem _ hxx)).1 (fun e=>hnd.1 (e▸hxx)),(hs x (List.mem_cons_of_mem _ hxx)).2⟩) rfl (fun _=>rfl) (by have:=Xjw l (X6q p s);omega)
  refine⟨l',?_,⟨h2.sorted,fun e=>?_⟩,by have:=Xjw l (X6q p s);simp only[List.length_cons];omega⟩
  ·rw[X3y]
   have key:∀ o,X3y Y xs (k+1) (X6q p s) (Xjx l (X6q p s))=some o->((Xi l (X5.mk x0.Key s x0.Values)).bind fun v1891=>bif (!v1891.2) then (bif (v1891.1==(List.length l:Int)) then (((X68 l v1891.1 (List.length l:Int)).bind fun m1903=>bif (List.isEmpty m1903) then ((X1u (List.length (l++[(X5.mk x0.Key s x0.Values)])) 88).bind fun u1906=>some ()) else ((X1u (List.length (l++[(X5.mk x0.Key s x0.Values)])) 88).bind fun u1908=>some ()):Option (Unit)).bind fun _=>some ((X5.mk ((X5.mk x0.Key s x0.Values).Key) ((X5.mk x0.Key s x0.Values).Span) (V2.mk (((X5.mk x0.Key s x0.Values).Values).e0) (((X5.mk x0.Key s x0.Values).Values).e1))),(l++[(X5.mk x0.Key s x0.Values)]),0)) else ((Xrc l v1891.1 (X5.mk x0.Key s x0.Values) 88).bind fun m1911=>some ((X5.mk x0.Key s x0.Values),m1911,0))) else ((X1w l v1891.1).bind fun e1913=>((X24 e1913.Values.e0 x0.Values.e0).bind fun v1928=>bif (v1928.2 != (0:Int)) then (some (l,v1928.2)) else ((X24 (((X5.mk e1913.Key e1913.Span (V2.mk v1928.1 e1913.Values.e1)).Values).e1) x0.Values.e1).bind fun v1933=>bif (v1933.2 != (0:Int)) then (some ((List.set l (Int.toNat v1891.1) (X5.mk e1913.Key e1913.Span (V2.mk v1928.1 e1913.Values.e1))),v1933.2)) else (some ((List.set (List.set l (Int.toNat v1891.1) (X5.mk e1913.Key e1913.Span (V2.mk v1928.1 e1913.Values.e1))) (Int.toNat v1891.1) (X5.mk ((X5.mk e1913.Key e1913.Span (V2.mk v1928.1 e1913.Values.e1)).Key) ((X5.mk e1913.Key e1913.Span (V2.mk v1928.1 e1913.Values.e1)).Span) (V2.mk (((X5.mk e1913.Key e1913.Span (V2.mk v1928.1 e1913.Values.e1)).Values).e0) v1933.1))),0))):Option ((List X5)×Int)).bind fun w1925=>some ((X5.mk ((X5.mk x0.Key s x0.Values).Key) ((X5.mk x0.Key s x0.Values).Span) (V2.mk (((X5.mk x0.Key s x0.Values).Values).e0) (((X5.mk x0.Key s x0.Values).Values).e1))),w1925.1,w1925.2)):Option (X5×(List X5)×Int))=some (X6q p s,Xjx l (X6q p s),0):=by
    intro o _
    rw[X03v m.sorted (by omega),Xth m.sorted]
    have hle:=Xvb l (X6q p s)
    have hval:x0.Values=(X6q p s).Values:=hv0 s
    rw[hx,hval]
    cases h:l[cnt l (X6q p s)]? with
    |none =>
     have hc:cnt l (X6q p s)=l.length:=by have:=List.getElem?_eq_none_iff.1 h;omega
     have hsl:X68 l (l.length:Int) (l.length:Int)=some []:=by simp[X68]
     simp only[Yo,Bool.not_false,cond_true,hc,beq_self_eq_true,hsl]
     rw[X5c (by simp;omega)]
     rfl
    |some y =>
     have hlt:cnt l (X6q p s)<l.length:=(Ys.1 h).1
     simp only[Yo]
     by_cases hkk:X4j y (X6q p s)
     ·obtain⟨a1,a2,a3,a4⟩:=m.vals hl (Yg h)
      simp only[hkk,decide_true,Bool.not_true,cond_false,X58,h,Yo,X3o a1 er.1 (by omega),X3o a2 er.2.1 (by omega),bne_self_eq_false,if_true,Int.toNat_natCast,List.set_set]
      rfl
     ·have hne:((cnt l (X6q p s):Int)==(l.length:Int))=false:=by simp;omega
      have hi:Xrc l (cnt l (X6q p s):Int) (X6q p s) 88=some (l.take (cnt l (X6q p s))++X6q p s::l.drop (cnt l (X6q p s))):=by
       unfold Xrc;rw[if_pos ⟨by omega,by simpa using hlt,by omega⟩];simp
      simp only[hkk,decide_false,Bool.not_false,cond_true,hne,cond_false,hi,Yo,if_false]
   rw[key _ h1,Yo]
   simp only[bne_self_eq_false,cond_false]
   exact h1
  ·rw[h2.mem]
   simp only[List.mem_cons,or_assoc]
theorem Xhx {w:X0l} {L:List Pu} {es:List X5} (hw:okW w) (hL:Xsn w L) (c:X50 w L es):∀ e∈es,okE e:=by
 intro e he
 obtain⟨h1,h2⟩:=(c.mem e).1 he
 have hlen:=hL.len
 obtain⟨v1,v2,v3,v4⟩:=Xks (L:=L) (by omega) e.Key e.Span
 rw[<-h2] at v1 v2 v3 v4
 have hpos:∀ t,X51 L e.Key t->inS e.Span t->0<e.Values.e0.Count+e.Values.e1.Count:=by
  intro t ht hi
  have:=Xsx hL.side ht hi
  rw[h2]
  show 0<(Xch _).Count+(Xch _).Count
  rw[X34,X34];omega
 have htime:∀ t,X51 L e.Key t->okT t:=by
  rintro t ⟨p,hp,_,rfl⟩;exact hL.time p hp
 obtain⟨w1,w2,w3⟩:=hw
 unfold Xcu at h1
 by_cases hk:w.Kind=3
 ·rw[if_pos hk] at h1
  obtain⟨s1,s2,s3,s4⟩:=h1
  obtain⟨t,ht,a1,a2⟩:=s2 (2*e.Span.Start+1) (by omega) (by omega)
  have hts:t=e.Span.Start:=by
   have:¬ (2*t<2*e.Span.Start):=fun h=>s3 ⟨t,ht,h,by omega⟩
   omega
  obtain⟨t',ht',b1,b2⟩:=s2 (2*e.Span.End - 1) (by omega) (by omega)
  have hte:t'+w.Size=e.Span.End:=by
   have:¬ (2*e.Span.End<2*(t'+w.Size)):=fun h=>s4 ⟨t',ht',by omega,h⟩
   omega
  have q1:=htime t ht
  have q2:=htime t' ht'
  unfold okT at q1 q2
  exact⟨by omega,s1,by omega,v1,v2,hpos t ht ⟨by omega,by omega⟩⟩
 ·rw[if_neg hk] at h1
  obtain⟨t,ht,a1,a2,a3,a4⟩:=h1
  have q1:=htime t ht
  unfold okT at q1
  exact⟨by omega,by omega,by omega,v1,v2,hpos t ht ⟨a3,a4⟩⟩
theorem Xgq {w:X0l} {L:List Pu} {p:Pu} {es:List X5} (hw:okW w) (hk:w.Kind≠3) (hL:Xsn w (L++[p])) (c:X50 w L es) (hn:es.length<=3900) :
  ∃ es',X7k es w p.1 p.2=some (es',0)/\X50 w (L++[p]) es'/\es'.length<=es.length+16:=by
 have ht:=hL.time p (by simp)
 have hsd:=hL.side p (by simp)
 have hll:=hL.init.len
 obtain⟨W,hW,hWl,hWn,hWm⟩:=Xgs hw hk ht
 obtain⟨l',h1,h2,h3⟩:=X03x (w:=w) (L:=L) (p:=p) hk (by omega) W W 0 (X6q p ⟨0,0⟩) es _ (Mid.start c) hWn (fun s hs=>⟨fun h=>h,(hWm s).1 hs⟩) rfl (fun _=>rfl) (by omega)
 refine⟨l',?_,Mid.end hk (fun s=>by simpa using hWm s) h2,by omega⟩
 unfold X7k
 have e1:(bif (p.2 != 0) then (p.2 != 1) else false)=false:=by rcases hsd with h|h<;>simp[h]
 have e2:(bif (decide (p.1.Time<((-1099511627776):Int))) then true else (decide (p.1.Time>(1099511627776:Int))))=false:=by
  unfold okT at ht
  have a:decide (p.1.Time<((-1099511627776):Int))=false:=by simp;omega
  have b:decide (p.1.Time>(1099511627776:Int))=false:=by simp;omega
  rw[a,b];rfl
 have e3:((X8z p.1.Value).bind fun v14=>bif (p.2==(0:Int)) then (some (X5.mk p.1.Key (X0n.mk 0 0) (V2.mk v14 (X12.mk 0 0 0 0)))) else (bif (p.2==(1:Int)) then (some (X5.mk p.1.Key (X0n.mk 0 0) (V2.mk (X12.mk 0 0 0 0) v14))) else none):Option (X5))=some (X6q p ⟨0,0⟩):=by
  simp only[X8z,Yo]
  rcases hsd with h|h
  ·simp[h,X6q,ofA,Xbc]
  ·simp[h,X6q,ofA,Xbc]
 have e4:(bif (List.isEmpty es) then (some es) else ((X1u (List.length es) 88).bind fun u28=>some es):Option ((List X5)))=some es:=by
  rw[X5c (by omega)]
  cases List.isEmpty es<;>rfl
 have e5:(w.Kind==3)=false:=by simp[hk]
 rw[X9l c.sorted (Xhx hw hL.init c) (by omega),Yo]
 simp only[bne_self_eq_false,cond_false,X3u hw,Yo,e1,e2]
 rw[e3,Yo,e4,Yo]
 simp only[e5,cond_false,hW,Yo,bne_self_eq_false]
 rw[X31 (by omega),Yo,h1,Yo]
 have e6:decide ((l'.length:Int)>4000)=false:=by simp;omega
 simp only[e6,cond_false]
end Go.D


namespace Go.D
theorem Xpa {size:Int} {T:Int->Prop} {a b:X0n} (ha:Xgv size T a) (hb:Xgv size T b) (h1:a.Start<b.End) (h2:b.Start<a.End):a=b:=by
 obtain⟨a1,a2,a3,a4⟩:=ha
 obtain⟨b1,b2,b3,b4⟩:=hb
 apply Xfw
 ·rcases Xz0 a.Start b.Start with h|h
  ·exact absurd (a2 (2*b.Start) (by omega) (by omega)) b3
  ·rcases Xz0 b.Start a.Start with h'|h'
   ·exact absurd (b2 (2*a.Start) (by omega) (by omega)) a3
   ·omega
 ·rcases Xz0 a.End b.End with h|h
  ·exact absurd (b2 (2*a.End) (by omega) (by omega)) a4
  ·rcases Xz0 b.End a.End with h'|h'
   ·exact absurd (a2 (2*b.End) (by omega) (by omega)) b4
   ·omega
theorem Xg6 {size:Int} {T T':Int->Prop} (h:∀ t,T t->T' t) {x:Int} (c:cov size T x):cov size T' x:=by
 obtain⟨t,h1,h2⟩:=c;exact⟨t,h t h1,h2⟩
def X8c (L:List Pu) (k:Int) (M:List X5) (side:Int):List Int:=(L.filter fun q=>decide (q.1.Key=k/\(∃ m∈M,inS m.Span q.1.Time)/\q.2=side)).map fun q=>q.1.Value
def pv (p:Pu) (side:Int):List Int:=if p.2=side then [p.1.Value] else []
theorem Xuz {α:Type} (a b:α->Bool):∀ (l:List α),(∀ q∈l,¬ (a q=true/\b q=true))->(l.filter fun q=>a q||b q).Perm (l.filter a++l.filter b):=by
 intro l
 induction l with
 |nil=>intro _;simp
 |cons x l ih =>
  intro h
  have ih':=ih fun q hq=>h q (List.mem_cons_of_mem _ hq)
  have hx:=h x List.mem_cons_self
  cases ha:a x with
  |true =>
   have hb:b x=false:=by cases hb:b x with|true=>exact absurd ⟨ha,hb⟩ hx|false=>rfl
   rw[List.filter_cons_of_pos (by simp[ha]),List.filter_cons_of_pos ha,List.filter_cons_of_neg (by simp[hb])]
   exact ih'.cons x
  |false =>
   cases hb:b x with
   |true =>
    rw[List.filter_cons_of_pos (by simp[hb]),List.filter_cons_of_neg (by simp[ha]),List.filter_cons_of_pos hb]
    exact(ih'.cons x).trans List.perm_middle.symm
   |false =>
    rw[List.filter_cons_of_neg (by simp[ha,hb]),List.filter_cons_of_neg (by simp[ha]),List.filter_cons_of_neg (by simp[hb])]
    exact ih'
theorem Xmw {L:List Pu} {k:Int} {M:List X5} {y:X5} {side:Int} (h:∀ q∈L,q.1.Key=k->inS y.Span q.1.Time->¬ ∃ m∈M,inS m.Span q.1.Time) :
  (X8c L k (y::M) side).Perm (X8c L k M side++vals L k y.Span side):=by
 unfold X8c vals
 rw[<-List.map_append]
 refine List.Perm.map _ ?_
 have h1:=Xuz (fun q:Pu=>decide (q.1.Key=k/\(∃ m∈M,inS m.Span q.1.Time)/\q.2=side)) (fun q=>decide (q.1.Key=k/\inS y.Span q.1.Time/\q.2=side)) L (fun q hq hc=>by
  simp only[decide_eq_true_eq] at hc
  exact h q hq hc.1.1 hc.2.2.1 hc.1.2.1)
 refine List.Perm.trans (List.Perm.of_eq ?_) h1
 refine List.filter_congr fun q _=>?_
 rw[Bool.eq_iff_iff]
 simp only[decide_eq_true_eq,Bool.or_eq_true,List.mem_cons]
 constructor
 ·rintro⟨a1,⟨m,hm|hm,hi⟩,a2⟩
  ·exact .inr ⟨a1,by rw[<-hm];exact hi,a2⟩
  ·exact .inl ⟨a1,⟨m,hm,hi⟩,a2⟩
 ·rintro(⟨a1,⟨m,hm,hi⟩,a2⟩|⟨a1,hi,a2⟩)
  ·exact⟨a1,⟨m,.inr hm,hi⟩,a2⟩
  ·exact⟨a1,⟨y,.inl rfl,hi⟩,a2⟩
theorem X9w (L:List Pu) (k:Int) (M:List X5) (side:Int):(X8c L k M side).length<=L.length:=by unfold X8c;rw[List.length_map];exact List.length_filter_le _ _
theorem Xli (p:Pu) (side:Int):(pv p side).length<=1:=by unfold pv;split<;>simp
def olap (x y:X5):Prop:=y.Key=x.Key/\y.Span.Start<x.Span.End/\x.Span.Start<y.Span.End
instance (x y:X5):Decidable (olap x y):=by unfold olap;infer_instance
structure Ses (w:X0l) (L:List Pu) (p:Pu) (es l:List X5) (x:X5) (M:List X5):Prop where
 sub:l.Sublist es
 part:∀ e,e∈es↔e∈l\/e∈M
 apart:∀ e∈l,e ∉ M
 keyM:∀ m∈M,m.Key=p.1.Key
 key:x.Key=p.1.Key
 own:x.Span.Start<=p.1.Time/\p.1.Time+w.Size<=x.Span.End
 inner:∀ z,2*x.Span.Start<z->z<2*x.Span.End->cov w.Size (fun t=>X51 L p.1.Key t\/t=p.1.Time) z
 hull:∀ m∈M,x.Span.Start<=m.Span.Start/\m.Span.End<=x.Span.End
 val0:x.Values.e0=Xch (pv p 0++X8c L p.1.Key M 0)
 val1:x.Values.e1=Xch (pv p 1++X8c L p.1.Key M 1)
theorem Xvp (p:Pu) (s:X0n):(X6q p s).Values.e0=Xch (pv p 0)/\(X6q p s).Values.e1=Xch (pv p 1):=by
 unfold X6q pv
 constructor
 ·dsimp only;split
  ·exact(Xcg _).symm
  ·rfl
 ·dsimp only;split
  ·exact(Xcg _).symm
  ·rfl
theorem Ses.start {w:X0l} {L:List Pu} {p:Pu} {es:List X5} (hw:1<=w.Size):Ses w L p es es (X6q p ⟨p.1.Time,p.1.Time+w.Size⟩) []:=by
 have hv:∀ side,X8c L p.1.Key [] side=[]:=fun side=>by unfold X8c;simp
 refine⟨.refl _,fun e=>by simp,fun e _=>by simp,fun m hm=>(by cases hm),rfl,⟨Int.le_refl _,Int.le_refl _⟩,fun z h1 h2=>?_,fun m hm=>(by cases hm),?_,?_⟩
 ·exact⟨p.1.Time,.inr rfl,h1,h2⟩
 ·rw[hv,List.append_nil];exact(Xvp p _).1
 ·rw[hv,List.append_nil];exact(Xvp p _).2
def Xm3 (x y:X5):X5:=⟨x.Key,⟨if y.Span.Start<x.Span.Start then y.Span.Start else x.Span.Start,if y.Span.End>x.Span.End then y.Span.End else x.Span.End⟩,⟨X39 x.Values.e0 y.Values.e0,X39 x.Values.e1 y.Values.e1⟩⟩
theorem Ses.step {w:X0l} {L:List Pu} {p:Pu} {es l:List X5} {x:X5} {M:List X5} (hk:w.Kind=3) (hl:L.length<=900) (c:X50 w L es) (s:Ses w L p es l x M) {i:Nat} {y:X5} (hi:l[i]?=some y) (ho:olap x y) :
  Ses w L p es (l.take i++l.drop (i+1)) (Xm3 x y) (y::M):=by
 have hyl:y∈l:=Yg hi
 have hye:y∈es:=(s.part y).2 (.inl hyl)
 have hyM:=s.apart y hyl
 have hky:y.Key=p.1.Key:=ho.1.trans s.key
 obtain⟨hyw,hyv⟩:=(c.mem y).1 hye
 unfold Xcu at hyw
 rw[if_pos hk,hky] at hyw
 rw[hky] at hyv
 have hlt:i<l.length:=(Ys.1 hi).1
 have hsplit:l=l.take i++y::l.drop (i+1):=by
  have:l[i]=y:=(Ys.1 hi).2
  rw[<-this,<-List.drop_eq_getElem_cons hlt,List.take_append_drop]
 have hnd:l.Nodup:=s.sub.nodup (List.Pairwise.imp (R:=ltE) (S:=fun a b=>a≠b) (fun {a b} h (e:a=b)=>Xed b (by rw[e] at h;exact h)) c.sorted)
 have hyn:y ∉ l.take i++l.drop (i+1):=by
  rw[hsplit] at hnd
  exact(List.nodup_cons.1 (List.perm_middle.nodup_iff.1 hnd)).1
 have hmem:∀ e,e∈l↔e=y\/e∈l.take i++l.drop (i+1):=by
  intro e
  rw[hsplit]
  simp only[List.mem_append,List.mem_cons]
  rw[<-hsplit]
  constructor
  ·rintro(h|h|h)
   ·exact .inr (.inl h)
   ·exact .inl h
   ·exact .inr (.inr h)
  ·rintro(h|h|h)
   ·exact .inr (.inl h)
   ·exact .inl h
   ·exact .inr (.inr h)
 have hdis:∀ q∈L,q.1.Key=p.1.Key->inS y.Span q.1.Time->¬ ∃ m∈M,inS m.Span q.1.Time:=by
  rintro q hq _ hyq ⟨m,hm,hmq⟩
  have hme:m∈es:=(s.part m).2 (.inr hm)
  obtain⟨hmw,hmv⟩:=(c.mem m).1 hme
  unfold Xcu at hmw
  rw[if_pos hk,s.keyM m hm] at hmw
  rw[s.keyM m hm] at hmv
  unfold inS at hyq hmq
  have hsp:y.Span=m.Span:=Xpa hyw hmw (by omega) (by omega)
  have:y=m:=by cases y;cases m;simp only at hky hyv hsp hmv;simp only[X5.mk.injEq];exact⟨hky.trans (s.keyM _ hm).symm,hsp,by rw[hyv,hmv,hsp]⟩
  exact hyM (this▸hm)
 have hval:∀ side,(pv p side++X8c L p.1.Key M side).length<=1073741824:=fun side=>by
  have:=Xli p side;have:=X9w L p.1.Key M side;simp;omega
 have hperm:∀ side,Xch (pv p side++X8c L p.1.Key (y::M) side)=X39 (Xch (pv p side++X8c L p.1.Key M side)) (Xch (vals L p.1.Key y.Span side)):=fun side=>by
  have hp:=(Xmw (L:=L) (k:=p.1.Key) (M:=M) (y:=y) (side:=side) hdis).append_left (pv p side)
  rw[Xdv hp (by have:=Xli p side;have:=X9w L p.1.Key (y::M) side;simp;omega),<-List.append_assoc,X5w]
 obtain⟨_,o1,o2⟩:=ho
 refine⟨?_,fun e=>?_,fun e he hm=>?_,fun m hm=>?_,s.key,?_,fun z h1 h2=>?_,fun m hm=>?_,?_,?_⟩
 ·refine List.Sublist.trans ?_ s.sub
  conv=>rhs;rw[hsplit]
  exact List.Sublist.append_left (List.sublist_cons_self _ _) _
 ·rw[s.part,hmem,List.mem_cons]
  constructor
  ·rintro((h|h)|h)
   ·exact .inr (.inl h)
   ·exact .inl h
   ·exact .inr (.inr h)
  ·rintro(h|h|h)
   ·exact .inl (.inr h)
   ·exact .inl (.inl h)
   ·exact .inr h
 ·rcases List.mem_cons.1 hm with h|h
  ·exact hyn (h▸he)
  ·exact s.apart e ((hmem e).2 (.inr he)) h
 ·rcases List.mem_cons.1 hm with h|h
  ·rw[h];exact hky
  ·exact s.keyM m h
 ·have:=s.own
  unfold Xm3
  constructor
  ·dsimp only;split<;>omega
  ·dsimp only;split<;>omega
 ·have hz:(2*x.Span.Start<z/\z<2*x.Span.End)\/(2*y.Span.Start<z/\z<2*y.Span.End):=by
   unfold Xm3 at h1 h2
   dsimp only at h1 h2
   split at h1<;>split at h2<;>omega
  rcases hz with ⟨g1,g2⟩|⟨g1,g2⟩
  ·exact s.inner z g1 g2
  ·exact Xg6 (fun t h=>.inl h) (hyw.2.1 z g1 g2)
 ·have hx:(Xm3 x y).Span.Start<=x.Span.Start/\x.Span.End<=(Xm3 x y).Span.End/\(Xm3 x y).Span.Start<=y.Span.Start/\y.Span.End<=(Xm3 x y).Span.End:=by
   unfold Xm3;dsimp only
   refine⟨?_,?_,?_,?_⟩<;>split<;>omega
  rcases List.mem_cons.1 hm with h|h
  ·rw[h];exact⟨hx.2.2.1,hx.2.2.2⟩
  ·have:=s.hull m h;omega
 ·show X39 x.Values.e0 y.Values.e0=_
  rw[hperm,s.val0,hyv];rfl
 ·show X39 x.Values.e1 y.Values.e1=_
  rw[hperm,s.val1,hyv];rfl
theorem Ses.end {w:X0l} {L:List Pu} {p:Pu} {es l:List X5} {x:X5} {M:List X5} (hk:w.Kind=3) (hw:1<=w.Size) (hl:L.length<=900) (c:X50 w L es) (s:Ses w L p es l x M) (hno:∀ y∈l,¬ olap x y):X50 w (L++[p]) (Xjx l x):=by
 have hsl:l.Pairwise ltE:=c.sorted.sublist s.sub
 have hxx:x.Span.Start<x.Span.End:=by have:=s.own;omega
 have hnl:∀ y∈l,y.Key=p.1.Key->¬ (y.Span.Start<x.Span.End/\x.Span.Start<y.Span.End):=fun y hy hky h=>hno y hy ⟨hky.trans s.key.symm,h.1,h.2⟩
 have hT:(X51 (L++[p]) p.1.Key)=fun t=>X51 L p.1.Key t\/t=p.1.Time:=by
  funext t;apply propext;rw[X82]
  exact⟨fun h=>h.imp id fun h=>h.2.symm,fun h=>h.imp id fun h=>⟨rfl,h.symm⟩⟩
 have hes:∀ e∈es,e.Key=p.1.Key->Xgv w.Size (X51 L p.1.Key) e.Span:=by
  intro e he hke
  have:=((c.mem e).1 he).1
  unfold Xcu at this
  rw[if_pos hk,hke] at this;exact this
 have hxw:Xgv w.Size (fun t=>X51 L p.1.Key t\/t=p.1.Time) x.Span:=by
  refine⟨hxx,s.inner,?_,?_⟩
  ·rintro⟨t,ht|ht,h1,h2⟩
   ·obtain⟨e,he,hke,a1,a2⟩:=c.cover hk _ t ht
    rcases(s.part e).1 he with h|h
    ·exact hnl e h hke ⟨by omega,by omega⟩
    ·have:=s.hull e h;omega
   ·have:=s.own;omega
  ·rintro⟨t,ht|ht,h1,h2⟩
   ·obtain⟨e,he,hke,a1,a2⟩:=c.cover hk _ t ht
    rcases(s.part e).1 he with h|h
    ·exact hnl e h hke ⟨by omega,by omega⟩
    ·have:=s.hull e h;omega
   ·have:=s.own;omega
 have hpin:inS x.Span p.1.Time:=by have:=s.own;unfold inS;omega
 have hxv:x.Values=Xba (L++[p]) p.1.Key x.Span:=by
  have hv:∀ side,Xch (pv p side++X8c L p.1.Key M side)=Xch (vals (L++[p]) p.1.Key x.Span side):=by
   intro side
   have h1:vals L p.1.Key x.Span side=X8c L p.1.Key M side:=by
    unfold vals X8c
    congr 1
    refine List.filter_congr fun q hq=>?_
    rw[Bool.eq_iff_iff]
    simp only[decide_eq_true_eq]
    constructor
    ·rintro⟨a1,a2,a3⟩
     refine⟨a1,?_,a3⟩
     obtain⟨e,he,hke,b1,b2⟩:=c.cover hk _ q.1.Time ⟨q,hq,a1,rfl⟩
     unfold inS at a2
     rcases(s.part e).1 he with h|h
     ·exact absurd ⟨by omega,by omega⟩ (hnl e h hke)
     ·exact⟨e,h,by unfold inS;omega⟩
    ·rintro⟨a1,⟨m,hm,b1,b2⟩,a3⟩
     have:=s.hull m hm
     exact⟨a1,⟨by omega,by omega⟩,a3⟩
   have h2:(if p.1.Key=p.1.Key/\inS x.Span p.1.Time/\p.2=side then [p.1.Value] else [])=pv p side:=by
    unfold pv
    by_cases h:p.2=side
    ·rw[if_pos ⟨rfl,hpin,h⟩,if_pos h]
    ·rw[if_neg (fun hc=>h hc.2.2),if_neg h]
   rw[X4p,h1,h2]
   exact Xdv List.perm_append_comm (by have:=Xli p side;have:=X9w L p.1.Key M side;simp;omega)
  have h0:=s.val0
  have h1:=s.val1
  rw[hv] at h0 h1
  unfold Xba
  rw[<-h0,<-h1]
 have hns:∀ y∈l,¬ X4j y x:=fun y hy hs=>hno y hy ⟨hs.1,by rw[hs.2];exact hxx,by rw[hs.2];exact hxx⟩
 have hput:∀ e,e∈Xjx l x↔e∈l\/e=x:=by
  intro e
  rw[Xjv hsl]
  constructor
  ·rintro(⟨h,_⟩|⟨y,hy,hs,_⟩|⟨_,h⟩)
   ·exact .inl h
   ·exact absurd hs (hns y hy)
   ·exact .inr h
  ·rintro(h|h)
   ·exact .inl ⟨h,hns e h⟩
   ·exact .inr (.inr ⟨hns,h⟩)
 refine⟨Xh1 hsl,fun e=>?_,fun _ k t ht=>?_⟩
 ·rw[hput]
  unfold Xmf Xcu
  rw[if_pos hk]
  by_cases hke:e.Key=p.1.Key
  ·rw[hke,hT]
   have hsame:¬ (e.Span.Start<x.Span.End/\x.Span.Start<e.Span.End)->(Xgv w.Size (fun t=>X51 L p.1.Key t\/t=p.1.Time) e.Span/\e.Values=Xba (L++[p]) p.1.Key e.Span↔Xgv w.Size (X51 L p.1.Key) e.Span/\e.Values=Xba L p.1.Key e.Span):=by
    intro hn
    have hown:=s.own
    have hpn:e.Span.Start<e.Span.End->¬ inS e.Span p.1.Time:=fun h hi=>by unfold inS at hi;exact hn ⟨by omega,by omega⟩
    have hvv:e.Span.Start<e.Span.End->Xba (L++[p]) p.1.Key e.Span=Xba L p.1.Key e.Span:=fun h=>by
     unfold Xba
     rw[X4p,X4p,if_neg (fun hc=>hpn h hc.2.1),if_neg (fun hc=>hpn h hc.2.1),List.append_nil,List.append_nil]
    constructor
    ·rintro⟨⟨a1,a2,a3,a4⟩,hv⟩
     refine⟨⟨a1,fun z h1 h2=>?_,fun h=>a3 (Xg6 (fun t h=>.inl h) h),fun h=>a4 (Xg6 (fun t h=>.inl h) h)⟩,by rw[hv,hvv a1]⟩
     obtain⟨t,ht|ht,b1,b2⟩:=a2 z h1 h2
     ·exact⟨t,ht,b1,b2⟩
     ·exact absurd ⟨by omega,by omega⟩ hn
    ·rintro⟨⟨a1,a2,a3,a4⟩,hv⟩
     refine⟨⟨a1,fun z h1 h2=>Xg6 (fun t h=>.inl h) (a2 z h1 h2),?_,?_⟩,by rw[hv,hvv a1]⟩
     ·rintro⟨t,ht|ht,b1,b2⟩
      ·exact a3 ⟨t,ht,b1,b2⟩
      ·exact hn ⟨by omega,by omega⟩
     ·rintro⟨t,ht|ht,b1,b2⟩
      ·exact a4 ⟨t,ht,b1,b2⟩
      ·exact hn ⟨by omega,by omega⟩
   constructor
   ·rintro(h|h)
    ·have he:e∈es:=(s.part e).2 (.inl h)
     refine(hsame (hnl e h hke)).2 ⟨hes e he hke,?_⟩
     have:=((c.mem e).1 he).2
     rw[hke] at this;exact this
    ·rw[h];exact⟨hxw,hxv⟩
   ·intro h
    by_cases hov:e.Span.Start<x.Span.End/\x.Span.Start<e.Span.End
    ·right
     have hsp:=Xpa h.1 hxw hov.1 hov.2
     have hkx:=s.key
     obtain⟨_,h2⟩:=h
     rw[hsp] at h2
     cases e;cases x
     simp only at hke hsp h2 hkx hxv
     simp only[X5.mk.injEq]
     exact⟨hke.trans hkx.symm,hsp,by rw[h2,hxv]⟩
    ·left
     have h3:=(hsame hov).1 h
     have he:e∈es:=(c.mem e).2 ⟨by unfold Xcu;rw[if_pos hk,hke];exact h3.1,by rw[hke];exact h3.2⟩
     rcases(s.part e).1 he with h4|h4
     ·exact h4
     ·have:=s.hull e h4
      exact absurd ⟨by have:=h3.1.1;omega,by have:=h3.1.1;omega⟩ hov
  ·have hT2:X51 (L++[p]) e.Key=X51 L e.Key:=by
    funext t;apply propext;rw[X82]
    exact⟨fun h=>h.resolve_right fun hc=>hke hc.1.symm,.inl⟩
   have hV2:Xba (L++[p]) e.Key e.Span=Xba L e.Key e.Span:=by
    unfold Xba
    rw[X4p,X4p,if_neg (fun hc=>hke hc.1.symm),if_neg (fun hc=>hke hc.1.symm),List.append_nil,List.append_nil]
   rw[hT2,hV2]
   constructor
   ·rintro(h|h)
    ·have:=(c.mem e).1 ((s.part e).2 (.inl h))
     unfold Xmf Xcu at this
     rw[if_pos hk] at this;exact this
    ·exact absurd (by rw[h];exact s.key) hke
   ·intro h
    have he:e∈es:=(c.mem e).2 (by unfold Xmf Xcu;rw[if_pos hk];exact h)
    rcases(s.part e).1 he with h4|h4
    ·exact .inl h4
    ·exact absurd (s.keyM e h4) hke
 ·rcases(X82 ..).1 ht with ht|⟨h1,h2⟩
  ·obtain⟨e,he,hke,a1,a2⟩:=c.cover hk k t ht
   rcases(s.part e).1 he with h|h
   ·exact⟨e,(hput e).2 (.inl h),hke,a1,a2⟩
   ·have:=s.hull e h
    exact⟨x,(hput x).2 (.inr rfl),s.key.trans ((s.keyM e h).symm.trans hke),by omega,by omega⟩
  ·have:=s.own
   exact⟨x,(hput x).2 (.inr rfl),s.key.trans h1,by omega,by omega⟩
end Go.D


namespace Go.D
theorem Xxy (Y:List X5) (x:X5):∀ (xs:List X5) (k:Nat),(Xj Y x xs k=some .x0/\∀ y∈xs,¬ olap x y) \/
  ∃ (i:Nat) (y:X5),Xj Y x xs k=some (.x1 ((k+i:Nat):Int))/\xs[i]?=some y/\olap x y:=by
 intro xs
 induction xs with
 |nil=>intro k;exact .inl ⟨rfl,fun y hy=>by cases hy⟩
 |cons z xs ih =>
  intro k
  rw[Xj]
  by_cases h:olap x z
  ·right
   have:(bif (bif (z.Key==x.Key) then (decide (z.Span.Start<x.Span.End)) else false) then (decide (x.Span.Start<z.Span.End)) else false)=true:=by
    obtain⟨h1,h2,h3⟩:=h;simp[h1,h2,h3]
   rw[this,cond_true]
   exact⟨0,z,rfl,rfl,h⟩
  ·have:(bif (bif (z.Key==x.Key) then (decide (z.Span.Start<x.Span.End)) else false) then (decide (x.Span.Start<z.Span.End)) else false)=false:=by
    rw[<-Bool.not_eq_true]
    intro hc
    apply h
    by_cases h1:z.Key=x.Key
    ·by_cases h2:z.Span.Start<x.Span.End
     ·by_cases h3:x.Span.Start<z.Span.End
      ·exact⟨h1,h2,h3⟩
      ·simp[h1,h2,h3] at hc
     ·simp[h1,h2] at hc
    ·have:(z.Key==x.Key)=false:=by simp[h1]
     simp[this] at hc
   rw[this,cond_false]
   rcases ih (k+1) with ⟨h1,h2⟩|⟨i,y,h1,h2,h3⟩
   ·exact .inl ⟨h1,fun y hy=>(List.mem_cons.1 hy).elim (fun e=>e▸h) (h2 y)⟩
   ·exact .inr ⟨i+1,y,by rw[h1];congr 2;omega,by simpa using h2,h3⟩
theorem X00h {w:X0l} {L:List Pu} {p:Pu} {es:List X5} (hk:w.Kind=3) (hw:1<=w.Size) (hl:L.length<=900) (hn:es.length<=3900) (c:X50 w L es) (hu:∀ e∈es,okA e.Values.e0/\okA e.Values.e1/\e.Values.e0.Count<=1000/\e.Values.e1.Count<=1000):∀ (f:Nat) (l:List X5) (x:X5) (M:List X5),l.length<f->Ses w L p es l x M ->
  ∃ es',X1d f l x=some (.x0 es' 0)/\X50 w (L++[p]) es'/\es'.length<=es.length+1:=by
 intro f
 induction f with
 |zero=>intro l x M h;omega
 |succ f ih =>
  intro l x M hf s
  have hsl:l.Pairwise ltE:=c.sorted.sublist s.sub
  have hll:l.length<=es.length:=s.sub.length_le
  have hxv:okA x.Values.e0/\okA x.Values.e1/\x.Values.e0.Count<=1000/\x.Values.e1.Count<=1000:=by
   have h0:=Xli p 0
   have h1:=Xli p 1
   have h2:=X9w L p.1.Key M 0
   have h3:=X9w L p.1.Key M 1
   rw[s.val0,s.val1]
   refine⟨Xhz (by simp;omega),Xhz (by simp;omega),?_,?_⟩
   ·rw[X34];simp;omega
   ·rw[X34];simp;omega
  rw[X1d]
  rw[X31 (by omega),Yo]
  rcases Xxy l x l 0 with ⟨h1,h2⟩|⟨i,y,h1,h2,h3⟩
  ·rw[h1]
   simp only[Yo]
   have hneg:decide ((-1:Int)<0)=true:=by decide
   rw[hneg,cond_true]
   have hput:=X008 (x:=x) hsl (by omega) ⟨hxv.1,hxv.2.1⟩ (fun y hy _=>by
    obtain⟨a1,a2,a3,a4⟩:=hu y ((s.part y).2 (.inl hy))
    exact⟨a1,a2,by omega,by omega⟩)
   unfold putF at hput
   refine⟨Xjx l x,?_,Ses.end hk hw hl c s h2,by have:=Xjw l x;omega⟩
   rw[hput]
   rfl
  ·rw[h1]
   have hlt:i<l.length:=(Ys.1 h2).1
   simp only[Yo,Nat.zero_add]
   have hneg:decide ((i:Int)<0)=false:=by simp
   rw[hneg,cond_false,X58,h2,Yo]
   obtain⟨a1,a2,a3,a4⟩:=hu y ((s.part y).2 (.inl (Yg h2)))
   have hd:delI l (i:Int)=some (l.take i++l.drop (i+1)):=by
    unfold delI;rw[if_pos ⟨by omega,by simpa using hlt,by omega⟩];simp
   simp only[X3o hxv.1 a1 (by omega),X3o hxv.2.1 a2 (by omega),Yo,bne_self_eq_false,cond_false,hd]
   have hstep:=s.step hk hl c h2 h3
   exact ih _ _ _ (by simp;omega) hstep
theorem Xjq {w:X0l} {L:List Pu} {p:Pu} {es:List X5} (hw:okW w) (hk:w.Kind=3) (hL:Xsn w (L++[p])) (c:X50 w L es) (hn:es.length<=3900) :
  ∃ es',X7k es w p.1 p.2=some (es',0)/\X50 w (L++[p]) es'/\es'.length<=es.length+1:=by
 have ht:=hL.time p (by simp)
 have hsd:=hL.side p (by simp)
 have hll:=hL.init.len
 have hw1:=hw.1
 have hw2:=hw.2.1
 have hu:∀ e∈es,okA e.Values.e0/\okA e.Values.e1/\e.Values.e0.Count<=1000/\e.Values.e1.Count<=1000:=fun e he=>by
  have:=((c.mem e).1 he).2
  rw[this];exact Xks (by omega) _ _
 obtain⟨es',h1,h2,h3⟩:=X00h hk hw1 (by omega) hn c hu FU es _ [] (by unfold FU;omega) (Ses.start (p:=p) hw1)
 refine⟨es',?_,h2,h3⟩
 have ht':=ht
 unfold okT at ht'
 unfold X7k
 have e1:(bif (p.2 != 0) then (p.2 != 1) else false)=false:=by rcases hsd with h|h<;>simp[h]
 have b1:decide (p.1.Time<((-1099511627776):Int))=false:=by simp;omega
 have b2:decide (p.1.Time>(1099511627776:Int))=false:=by simp;omega
 have e2:(bif (decide (p.1.Time<((-1099511627776):Int))) then true else (decide (p.1.Time>(1099511627776:Int))))=false:=by rw[b1,b2];rfl
 have e3:((X8z p.1.Value).bind fun v14=>bif (p.2==(0:Int)) then (some (X5.mk p.1.Key (X0n.mk 0 0) (V2.mk v14 (X12.mk 0 0 0 0)))) else (bif (p.2==(1:Int)) then (some (X5.mk p.1.Key (X0n.mk 0 0) (V2.mk (X12.mk 0 0 0 0) v14))) else none):Option (X5))=some (X6q p ⟨0,0⟩):=by
  simp only[X8z,Yo]
  rcases hsd with h|h
  ·simp[h,X6q,ofA,Xbc]
  ·simp[h,X6q,ofA,Xbc]
 have e4:(bif (List.isEmpty es) then (some es) else ((X1u (List.length es) 88).bind fun u28=>some es):Option ((List X5)))=some es:=by
  rw[X5c (by omega)]
  cases List.isEmpty es<;>rfl
 have e5:(w.Kind==3)=true:=by simp[hk]
 have c1:decide (w.Size<1)=false:=by simp;omega
 have c2:decide (w.Size>1073741824)=false:=by simp;omega
 have e6:X36 0 w.Size=some 0:=by
  simp only[X36,c1,c2,cond_false];rfl
 have e7:X36 p.1.Time w.Size=some 0:=by
  simp only[X36,c1,c2,cond_false,b1,b2]
 have e8:X7z 1=some 1:=by decide +kernel
 rw[X9l c.sorted (Xhx hw hL.init c) (by omega),Yo]
 simp only[bne_self_eq_false,cond_false,X3u hw,Yo,e1,e2]
 rw[e3,Yo,e4,Yo]
 simp only[e5,cond_true,e6,e7,e8,Yo,bne_self_eq_false,cond_false]
 have hg:X1w [X0n.mk p.1.Time (IntKind.i64.wrap (p.1.Time+w.Size))] 0=some ⟨p.1.Time,p.1.Time+w.Size⟩:=by
  rw[X0e (by omega) (by omega)];rfl
 rw[hg,Yo]
 have hent:(⟨(X6q p ⟨0,0⟩).Key,⟨p.1.Time,p.1.Time+w.Size⟩,(X6q p ⟨0,0⟩).Values⟩:X5)=X6q p ⟨p.1.Time,p.1.Time+w.Size⟩:=rfl
 rw[hent,h1,Yo,Yo]
 have e9:decide ((es'.length:Int)>4000)=false:=by simp;omega
 simp only[bne_self_eq_false,cond_false,e9]
theorem Xew {w:X0l} {L:List Pu} {p:Pu} {es:List X5} (hw:okW w) (hL:Xsn w (L++[p])) (c:X50 w L es) (hn:es.length<=3900) :
  ∃ es',X7k es w p.1 p.2=some (es',0)/\X50 w (L++[p]) es'/\es'.length<=es.length+16:=by
 by_cases hk:w.Kind=3
 ·obtain⟨es',h1,h2,h3⟩:=Xjq hw hk hL c hn
  exact⟨es',h1,h2,by omega⟩
 ·exact Xgq hw hk hL c hn
theorem Xve {w:X0l} (hw:1<=w.Size):X50 w [] []:=by
 refine⟨List.Pairwise.nil,fun e=>?_,fun _ k t ht=>?_⟩
 ·simp only[List.not_mem_nil,false_iff]
  rintro⟨h,_⟩
  unfold Xcu at h
  split at h
  ·obtain⟨h1,h2,_⟩:=h
   obtain⟨t,ht,_⟩:=h2 (2*e.Span.Start+1) (by omega) (by omega)
   obtain⟨p,hp,_⟩:=ht
   cases hp
  ·obtain⟨t,⟨p,hp,_⟩,_⟩:=h
   cases hp
 ·obtain⟨p,hp,_⟩:=ht
  cases hp
end Go.D


namespace Go.D
structure RQ (q:Xu):Prop where
 w:QW q
 ok:(Xwc q).2=0
theorem RQ.cz {q:Xu} (h:RQ q):Xmq q=0:=by
 have:=h.ok
 unfold Xwc at this
 split at this
 ·rename_i h1;exact absurd this h1
 ·rename_i h1;omega
theorem RQ.facts {q:Xu} (h:RQ q):(1<=q.Agg/\q.Agg<=4/\(q.Late=1\/q.Late=2))/\(q.Agg≠1->Xap q.Arg=0)/\(0<q.Where.length->Xap q.Where=0)/\X57 q.Sources q.Join=0/\okW q.Window/\(q.Join=true->q.Window.Kind=1):=by
 have hc:=h.cz
 unfold Xmq at hc
 split at hc
 ·cases hc
 ·rename_i h1
  split at hc
  ·cases hc
  ·split at hc
   ·rename_i h2;exact absurd hc h2.2
   ·rename_i h2
    split at hc
    ·rename_i h3;exact absurd hc h3.2
    ·rename_i h3
     split at hc
     ·rename_i h4;exact absurd hc h4
     ·rename_i h4
      split at hc
      ·cases hc
      ·rename_i h5
       split at hc
       ·rename_i h6
        refine⟨by omega,fun ha=>?_,fun hw=>?_,by omega,h6,fun hj=>?_⟩
        ·by_cases hz:Xap q.Arg=0
         ·exact hz
         ·exact absurd ⟨ha,hz⟩ h2
        ·by_cases hz:Xap q.Where=0
         ·exact hz
         ·exact absurd ⟨hw,hz⟩ h3
        ·by_cases hk:q.Window.Kind=1
         ·exact hk
         ·exact absurd ⟨hj,hk⟩ h5
       ·cases hc
theorem RQ.rts {q:Xu} (h:RQ q):(0<q.Arg.length->(X29 q.Arg false).2=0)/\(0<q.Where.length->(X29 q.Where true).2=0):=by
 have h0:=h.ok
 unfold Xwc at h0
 rw[if_neg (by have:=h.cz;omega)] at h0
 unfold rt at h0
 split at h0
 ·rename_i h1;exact absurd h0 h1.2
 ·rename_i h1
  split at h0
  ·rename_i h2;exact absurd h0 h2.2
  ·rename_i h2
   refine⟨fun ha=>?_,fun hw=>?_⟩
   ·by_cases hz:(X29 q.Arg false).2=0
    ·exact hz
    ·exact absurd ⟨ha,hz⟩ h1
   ·by_cases hz:(X29 q.Where true).2=0
    ·exact hz
    ·exact absurd ⟨hw,hz⟩ h2
theorem RQ.wher {q:Xu} (h:RQ q) (hw:0<q.Where.length) (r:Xb):X5n q.Where r=some (evV q.Where r,0):=Xd2 h.w.wher (Xpn (h.rts.2 hw)) r
theorem RQ.arg {q:Xu} (h:RQ q) (ha:q.Agg≠1) (r:Xb):X5n q.Arg r=some (evV q.Arg r,0):=by
 have h1:=(X8u (h.facts.2.1 ha)).2.1
 exact Xd2 h.w.arg (Xpn (h.rts.1 (by omega))) r
theorem RQ.src {q:Xu} (h:RQ q):1<=q.Sources.length/\q.Sources.length<=4/\(q.Join=true->q.Sources.length=2):=by
 have hs:=h.facts.2.2.2.1
 unfold X57 at hs
 split at hs
 ·cases hs
 ·split at hs
  ·cases hs
  ·rename_i h1 h2
   unfold Xlb at h2
   have h2:((q.Sources.length==0||(q.Join&&q.Sources.length != 2))||q.Sources.any fun x=>decide (x<0)||decide (x>3))=false:=by simpa using h2
   rw[Bool.or_eq_false_iff,Bool.or_eq_false_iff] at h2
   have a1:q.Sources.length≠0:=by simpa using h2.1.1
   refine⟨by omega,by omega,fun hj=>?_⟩
   have:=h2.1.2
   rw[hj] at this
   simpa using this
def Xd3 (q:Xu) (r:Xb):Bool:=if 0<q.Where.length then decide (evV q.Where r≠0) else true
def Xn4 (q:Xu) (r:Xb):Xb:=⟨if q.ByKey then r.Key else 0,r.Time,if q.Agg=1 then 0 else evV q.Arg r⟩
theorem Xea {q:Xu} (h:RQ q) (r:Xb):X5e q r=some (if Xd3 q r then (Xn4 q r,true) else (⟨0,0,0⟩,false)):=by
 have body:((bif q.ByKey then (some (Xb.mk r.Key r.Time 0)) else (some (Xb.mk 0 r.Time 0)):Option (Xb)).bind fun Xk3=>(bif (q.Agg != (1:Int)) then ((X5n q.Arg r).bind fun v14=>some (Xb.mk Xk3.Key Xk3.Time v14.1)) else (some Xk3):Option (Xb)).bind fun Xlz=>some (Xlz,true))=some (Xn4 q r,true):=by
  unfold Xn4
  by_cases ha:q.Agg=1
  ·rw[show(q.Agg != 1)=false by simp[ha],if_pos ha];cases q.ByKey<;>rfl
  ·rw[Xfr ha,if_neg ha,h.arg ha r];cases q.ByKey<;>rfl
 unfold X5e Xd3
 rw[body]
 by_cases hw:0<q.Where.length
 ·rw[Yt (show(q.Where.length:Int)>0 by omega),cond_true,if_pos hw,h.wher hw r]
  by_cases hv:evV q.Where r=0
  ·rw[hv];rfl
  ·simp[hv,show(evV q.Where r==0)=false by simp[hv]]
 ·rw[Yf (show ¬ (q.Where.length:Int)>0 by omega),cond_false,if_neg hw];rfl
def Xju (q:Xu) (side:Int) (rs:List Xb):List Pu:=(rs.filter (Xd3 q)).map fun r=>(Xn4 q r,side)
theorem Xtg (q:Xu) (side:Int) (r:Xb) (rs:List Xb):Xju q side (r::rs)=(if Xd3 q r then [(Xn4 q r,side)] else [])++Xju q side rs:=by
 unfold Xju
 rw[List.filter_cons]
 split<;>simp
theorem Xx3 (q:Xu) (side:Int) (rs:List Xb):(Xju q side rs).length<=rs.length:=by unfold Xju;rw[List.length_map];exact List.length_filter_le _ _
def X4r (q:Xu) (k:Int):Int:=if q.Join then k else 0
theorem Xng {q:Xu} (h:RQ q) (late:List Xb) (k0:Int) (Y:List (List Xg)) (a b:Int) (R:List Xb) (hside:X4r q k0=0\/X4r q k0=1):∀ (xs:List Xb) (k:Nat) (L:List Pu) (es:List X5),X50 q.Window L es->Xsn q.Window (L++Xju q (X4r q k0) xs)->es.length+16*xs.length<=3900 ->
  ∃ es',X2g q late k0 Y a b R xs k es=some (.x0 es' late)/\X50 q.Window (L++Xju q (X4r q k0) xs) es'/\es'.length<=es.length+16*xs.length
 |[],k,L,es,hc,ho,hn=>⟨es,rfl,by simpa[Xju] using hc,by simp⟩
 |x::xs,k,L,es,hc,ho,hn=>by
  simp only[List.length_cons] at hn
  rw[X2g,Xea h,Yo]
  rw[Xtg] at ho ⊢
  cases hcx:Xd3 q x with
  |false =>
   rw[hcx] at ho
   simp only[Bool.false_eq_true,if_false,List.nil_append] at ho ⊢
   obtain⟨es',h1,h2,h3⟩:=Xng h late k0 Y a b R hside xs (k+1) L es hc ho (by omega)
   exact⟨es',h1,h2,by simp only[List.length_cons];omega⟩
  |true =>
   rw[hcx] at ho
   simp only[if_true] at ho ⊢
   rw[<-List.append_assoc] at ho ⊢
   have ho1:Xsn q.Window (L++[(Xn4 q x,X4r q k0)]):=⟨fun p hp=>ho.time p (List.mem_append_left _ hp),fun p hp=>ho.side p (List.mem_append_left _ hp),by have:=ho.len;rw[List.length_append] at this;omega⟩
   obtain⟨es1,g1,g2,g3⟩:=Xew h.facts.2.2.2.2.1 ho1 hc (by omega)
   have hs:(bif q.Join then (some k0) else (some 0):Option Int)=some (X4r q k0):=by unfold X4r;cases q.Join<;>rfl
   rw[hs]
   simp only[Yo,Bool.not_true,cond_false]
   rw[g1]
   obtain⟨es',h1,h2,h3⟩:=Xng h late k0 Y a b R hside xs (k+1) _ es1 g2 ho (by omega)
   exact⟨es',h1,h2,by simp only[List.length_cons];omega⟩
def X6r (q:Xu):Nat->List (List Xg)->List Pu
 |_,[]=>[]
 |k,x::xs=>Xju q (X4r q (k:Int)) (X7v x)++X6r q (k+1) xs
def Xh9 (l:List (List Xg)):List Xb:=(l.map Xik).flatten
theorem Xj1 (x:List Xg):(X7v x).length<=x.length:=by
 unfold X7v;split
 ·exact Xpd _ _ _
 ·simp
theorem Xu1 (x:List Xg):(Xik x).length<=x.length:=by
 unfold Xik;split
 ·exact Xpd _ _ _
 ·simp
theorem Xtv {q:Xu} (h:RQ q) (Y:List (List Xg)):∀ (xs:List (List Xg)) (k:Nat) (L:List Pu) (es:List X5) (la:List Xb),(∀ x∈xs,chk x=0/\x.length<=30)->X50 q.Window L es->Xsn q.Window (L++X6r q k xs)->es.length+480*xs.length<=3900->la.length+30*xs.length<=10000->(∀ j,j<xs.length->X4r q ((k+j:Nat):Int)=0\/X4r q ((k+j:Nat):Int)=1) ->
  ∃ es',X2h q Y xs k es la=some (.x0 es' (la++Xh9 xs))/\X50 q.Window (L++X6r q k xs) es'/\es'.length<=es.length+480*xs.length
 |[],k,L,es,la,_,hc,_,_,_,_=>⟨es,by simp[X2h,Xh9],by simpa[X6r] using hc,by simp⟩
 |x::xs,k,L,es,la,hx,hc,ho,hn,hla,hsd=>by
  simp only[List.length_cons] at hn hla hsd
  obtain⟨hx1,hx2⟩:=hx x List.mem_cons_self
  have hr:=Xj1 x
  have hl:=Xu1 x
  rw[X6r,<-List.append_assoc] at ho ⊢
  have ho1:Xsn q.Window (L++Xju q (X4r q (k:Int)) (X7v x)):=⟨fun p hp=>ho.time p (List.mem_append_left _ hp),fun p hp=>ho.side p (List.mem_append_left _ hp),by have:=ho.len;rw[List.length_append] at this;omega⟩
  have hs0:X4r q (k:Int)=0\/X4r q (k:Int)=1:=by have:=hsd 0 (by omega);simpa using this
  obtain⟨es1,g1,g2,g3⟩:=Xng h (la++Xik x) (k:Int) Y (Y.length:Int) (k:Int) (X7v x) hs0 (X7v x) 0 L es hc ho1 (by omega)
  obtain⟨es',h1,h2,h3⟩:=Xtv h Y xs (k+1) _ es1 (la++Xik x) (fun y hy=>hx y (List.mem_cons_of_mem _ hy)) g2 ho (by omega) (by rw[List.length_append];omega) (fun j hj=>by have:=hsd (j+1) (by omega);rw[show k+(j+1)=k+1+j by omega] at this;exact this)
  refine⟨es',?_,h2,by simp only[List.length_cons];omega⟩
  rw[X2h,Xk0,Yo]
  simp only[hx1,bne_self_eq_false,cond_false]
  rw[show la++Xh9 (x::xs)=la++Xik x++Xh9 xs by unfold Xh9;simp,<-h1]
  cases hle:(Xik x).isEmpty with
  |true =>
   rw[cond_true,X31 (by omega),Yo,g1];rfl
  |false =>
   rw[cond_false,X5c (by rw[List.length_append];omega),Yo,X31 (by omega),Yo,g1];rfl
def Xyp (agg:Int) (a:X12):Int:=if agg=1 then a.Count else if agg=2 then a.Sum else if agg=3 then a.Min else a.Max
theorem Xc1 {agg:Int} {a:X12} (h1:1<=agg) (h2:agg<=4) (ha:okA a):X63 agg a=some (if a.Count=0 then (0,6) else (Xyp agg a,0)):=by
 unfold X63
 rw[Yf (show ¬ agg<1 by omega),Yf (show ¬ agg>4 by omega),X3v ha]
 simp only[cond_false,Yo,bne_self_eq_false]
 by_cases hc:a.Count=0
 ·rw[if_pos hc,hc];rfl
 ·rw[if_neg hc,show(a.Count==0)=false by simp[hc]]
  unfold Xyp
  rcases(by omega:agg=1\/agg=2\/agg=3\/agg=4) with h|h|h|h<;>subst h<;>rfl
def live (q:Xu) (e:X5):Bool:=decide (e.Values.e0.Count≠0)&&(!q.Join||decide (e.Values.e1.Count≠0))
def rowE (q:Xu) (e:X5):X3w:=⟨e.Key,e.Span,⟨Xyp q.Agg e.Values.e0,if q.Join then Xyp q.Agg e.Values.e1 else 0⟩⟩
def X6s (q:Xu) (es:List X5):List X3w:=(es.filter (live q)).map (rowE q)
theorem Xii {q:Xu} (h1:1<=q.Agg) (h2:q.Agg<=4) {e:X5} (he:okE e):X8v q e=some (if live q e then (rowE q e,true) else (⟨0,⟨0,0⟩,⟨0,0⟩⟩,false)):=by
 obtain⟨_,_,_,a0,a1,_⟩:=he
 unfold X8v live rowE
 rw[Xc1 h1 h2 a0,Xc1 h1 h2 a1]
 simp only[Yo]
 by_cases c0:e.Values.e0.Count=0
 ·rw[if_pos c0];simp[c0]
 ·rw[if_neg c0]
  cases hj:q.Join with
  |false=>simp[c0]
  |true =>
   by_cases c1:e.Values.e1.Count=0
   ·simp[c1]
   ·simp[c0,c1]
theorem Xnf {q:Xu} (h1:1<=q.Agg) (h2:q.Agg<=4) (la:List Xb) (E:List X5):∀ (xs:List X5) (k:Nat) (rows:List X3w),(∀ e∈xs,okE e)->rows.length+xs.length<=10000->X2s q la E xs k rows=some (.x0 la (rows++X6s q xs))
 |[],k,rows,_,_=>by simp[X2s,X6s]
 |x::xs,k,rows,ho,hn=>by
  simp only[List.length_cons] at hn
  rw[X2s,Xii h1 h2 (ho x List.mem_cons_self),Yo]
  unfold X6s
  rw[List.filter_cons]
  cases hl:live q x with
  |false =>
   simp only[Bool.false_eq_true,if_false,cond_false,Yo]
   exact Xnf h1 h2 la E xs (k+1) rows (fun e he=>ho e (List.mem_cons_of_mem _ he)) (by omega)
  |true =>
   simp only[if_true,cond_true]
   rw[X5c (by rw[List.length_append,List.length_singleton];omega)]
   simp only[Yo]
   rw[Xnf h1 h2 la E xs (k+1) _ (fun e he=>ho e (List.mem_cons_of_mem _ he)) (by rw[List.length_append,List.length_singleton];omega)]
   simp[X6s]
structure RI (q:Xu) (l:List (List Xg)):Prop where
 rq:RQ q
 len:l.length=q.Sources.length
 ev:∀ x∈l,chk x=0/\x.length<=30
theorem Xlg {late:Bool}:∀ (l:List Xg) (m:Int),(∀ x∈l,Xqj x=true)->∀ r∈Xn3 late m l,okT r.Time
 |[],_,_,r,hr=>by simp[Xn3] at hr
 |x::l,m,h,r,hr=>by
  have ih:=Xlg (late:=late) l (Xjz m x) (fun y hy=>h y (List.mem_cons_of_mem _ hy)) r
  unfold Xn3 at hr
  split at hr
  ·rename_i hc
   rcases List.mem_cons.1 hr with rfl|hr
   ·have hm:x.Mark=false:=by
     cases hm:x.Mark with
     |false=>rfl
     |true=>simp[hm] at hc
    have:=h x List.mem_cons_self
    unfold Xqj Xbt at this
    rw[hm] at this
    simp at this
    exact⟨this.2.1,this.2.2⟩
   ·exact ih hr
  ·exact ih hr
theorem Xgz {q:Xu}:∀ (l:List (List Xg)) (k:Nat) (p:Pu),p∈X6r q k l->∃ j x r,l[j]?=some x/\r∈X7v x/\Xd3 q r=true/\p=(Xn4 q r,X4r q ((k+j:Nat):Int))
 |[],k,p,h=>by simp[X6r] at h
 |x::l,k,p,h=>by
  rw[X6r] at h
  rcases List.mem_append.1 h with h|h
  ·unfold Xju at h
   obtain⟨r,hr,rfl⟩:=List.mem_map.1 h
   rw[List.mem_filter] at hr
   exact⟨0,x,r,rfl,hr.1,hr.2,rfl⟩
  ·obtain⟨j,y,r,h1,h2,h3,h4⟩:=Xgz l (k+1) p h
   exact⟨j+1,y,r,by simpa using h1,h2,h3,by rw[show k+(j+1)=k+1+j by omega];exact h4⟩
theorem Xh0 {q:Xu}:∀ (l:List (List Xg)) (k:Nat),(∀ x∈l,x.length<=30)->(X6r q k l).length<=30*l.length
 |[],k,_=>by simp[X6r]
 |x::l,k,h=>by
  rw[X6r,List.length_append,List.length_cons]
  have h1:=Xx3 q (X4r q (k:Int)) (X7v x)
  have h2:=Xj1 x
  have h3:=h x List.mem_cons_self
  have h4:=Xh0 (q:=q) l (k+1) fun y hy=>h y (List.mem_cons_of_mem _ hy)
  omega
theorem RI.ok {q:Xu} {l:List (List Xg)} (h:RI q l):Xsn q.Window (X6r q 0 l):=by
 have hs:=h.rq.src
 refine⟨fun p hp=>?_,fun p hp=>?_,?_⟩
 ·obtain⟨j,x,r,h1,h2,h3,rfl⟩:=Xgz l 0 p hp
  have hx:=h.ev x (Yg h1)
  unfold X7v at h2
  rw[if_pos hx.1] at h2
  exact Xlg x Xf2 (X03u.1 hx.1).2 r h2
 ·obtain⟨j,x,r,h1,h2,h3,rfl⟩:=Xgz l 0 p hp
  have:=(Ys.1 h1).1
  show X4r q _=0\/X4r q _=1
  unfold X4r
  split
  ·rename_i hj;have:=hs.2.2 hj;have:=h.len;omega
  ·exact .inl rfl
 ·have:=Xh0 (q:=q) l 0 fun x hx=>(h.ev x hx).2
  have:=h.len
  omega
theorem Xco {q:Xu} {l:List (List Xg)} (h:RI q l):∃ es,X50 q.Window (X6r q 0 l) es/\es.length<=3900/\X5u q l=some (X6s q es,if q.Late=2 then Xh9 l else [],0):=by
 have hs:=h.rq.src
 have hf:=h.rq.facts
 have hlen:=h.len
 have hok:=h.ok
 obtain⟨es,h1,h2,h3⟩:=Xtv h.rq l l 0 [] [] [] h.ev (Xve hf.2.2.2.2.1.1) (by simpa using hok) (by simp;omega) (by simp;omega) (fun j hj=>by
  unfold X4r
  split
  ·rename_i hj2;have:=hs.2.2 hj2;omega
  ·exact .inl rfl)
 simp only[List.nil_append,List.length_nil,Nat.zero_add] at h1 h2 h3
 refine⟨es,h2,by omega,?_⟩
 unfold X5u
 rw[Xhu h.rq.w,Yo]
 rw[h.rq.ok]
 simp only[bne_self_eq_false,cond_false]
 rw[show((l.length:Int) != (q.Sources.length:Int))=false by rw[hlen];simp,cond_false,Xa2 (by omega),Xct.2 fun x hx=>(h.ev x hx).1]
 simp only[Yo,bne_self_eq_false,cond_false]
 rw[X31 (by omega),Yo,h1,Yo]
 simp only
 rw[X31 (by omega),Yo,Xnf hf.1.1 hf.1.2.1 _ _ es 0 [] (Xhx hf.2.2.2.2.1 hok h2) (by simp;omega)]
 simp only[Yo,List.nil_append]
 by_cases hL:q.Late=2
 ·rw[hL];rfl
 ·rw[Xfr hL,if_neg hL];rfl
end Go.D


namespace Go.D
theorem Xoq (x y:X3w):Xg5 x y=decide (x=y):=by
 obtain⟨a,⟨b,c⟩,⟨d,e⟩⟩:=x
 obtain⟨a',⟨b',c'⟩,⟨d',e'⟩⟩:=y
 rw[Bool.eq_iff_iff]
 simp[Xg5,Xmd,Xmc,and_assoc]
def Xbo:Int->List (List Xg)->Int
 |m,[]=>m
 |m,x::xs=>Xbo (if Xtw Xf2 x<m then Xtw Xf2 x else m) xs
theorem Xpm (Y:List (List Xg)):∀ (xs:List (List Xg)) (k:Nat) (m:Int),(∀ x∈xs,chk x=0)->X2o Y xs k m=some (.x0 (Xbo m xs))
 |[],k,m,_=>rfl
 |x::xs,k,m,h=>by
  rw[X2o,Xlt,if_pos (h x List.mem_cons_self),Yo,Xbo]
  exact Xpm Y xs (k+1) _ fun y hy=>h y (List.mem_cons_of_mem _ hy)
theorem Xfi {l:List (List Xg)} (h1:1<=l.length) (h4:l.length<=4) (h:∀ x∈l,chk x=0):X6d l=some (Xbo Xma l,0):=by
 unfold X6d
 rw[Yf (show ¬ (l.length:Int)<1 by omega),Yf (show ¬ (l.length:Int)>4 by omega),Xa2 (by omega),Xct.2 h]
 simp only[cond_false,Yo,bne_self_eq_false]
 rw[X31 (by omega),Yo,show(9223372036854775807:Int)=Xma from rfl,Xpm l l 0 Xma h];rfl
def Xyb (m:Int) (rows:List X3w):List X3w:=rows.filter fun r=>decide (r.Span.End<=m)
theorem Xep (a:List Xb) (m:Int) (Y:List X3w):∀ (xs:List X3w) (k:Nat) (o:List X3w),o.length+xs.length<=10000->X1l a m Y xs k o=some (.x0 (o++Xyb m xs))
 |[],k,o,_=>by simp[X1l,Xyb]
 |x::xs,k,o,hn=>by
  simp only[List.length_cons] at hn
  rw[X1l]
  unfold Xyb
  rw[List.filter_cons]
  by_cases h:x.Span.End<=m
  ·rw[Yt h,cond_true,X5c (by rw[List.length_append,List.length_singleton];omega)]
   simp only[Yo,if_true]
   rw[Xep a m Y xs (k+1) _ (by rw[List.length_append,List.length_singleton];omega)]
   simp[Xyb]
  ·rw[Yf h,cond_false]
   simp only[Yo,Bool.false_eq_true,if_false]
   exact Xep a m Y xs (k+1) o (by omega)
theorem Xj0 (q:Xu) (es:List X5):(X6s q es).length<=es.length:=by
 unfold X6s;rw[List.length_map];exact List.length_filter_le _ _
def Xlu (q:Xu) (l:List (List Xg)):List Xb:=if q.Late=2 then Xh9 l else []
theorem X9b {q:Xu} {l:List (List Xg)} (h:RI q l) {es:List X5} (hc:X50 q.Window (X6r q 0 l) es):X5u q l=some (X6s q es,Xlu q l,0)/\es.length<=3900/\X21 q l=some (Xyb (Xbo Xma l) (X6s q es),Xlu q l,0):=by
 obtain⟨es',h1,h2,h3⟩:=Xco h
 have:=hc.unique h1
 subst this
 have hs:=h.rq.src
 have hlen:=h.len
 have hr:=Xj0 q es
 refine⟨h3,h2,?_⟩
 unfold X21
 rw[h3,Yo]
 simp only[bne_self_eq_false,cond_false]
 rw[Xfi (by omega) (by omega) fun x hx=>(h.ev x hx).1,Yo]
 simp only[bne_self_eq_false,cond_false]
 rw[X31 (by omega),Yo,Xep _ _ _ _ _ _ (by simp;omega)];rfl
theorem Xy1 (l:List (List Xg)):∀ (m n i:Nat),m=7 - i->i<=7->m<n->∃ o,X3k l n (i:Int)=some o/\(o=.x1->∀ j x,i<=j->j<7->l[j]?=some x->x.length<=20\/x.length=61):=by
 intro m
 induction m with
 |zero =>
  intro n i hm hi hn
  cases n with
  |zero=>omega
  |succ n =>
   have:i=7:=by omega
   subst this
   refine⟨.x1,?_,fun _ j x h1 h2=>by omega⟩
   rw[X3k]
   cases decide (((7:Nat):Int)<(l.length:Int))<;>rfl
 |succ m ih =>
  intro n i hm hi hn
  cases n with
  |zero=>omega
  |succ n =>
   rw[X3k]
   by_cases hl:i<l.length
   ·rw[Yt (show(i:Int)<(l.length:Int) by omega),cond_true,Yt (show(i:Int)<7 by omega),cond_true]
    have hg:X1w l (i:Int)=some (l[i]'hl):=by rw[X58];exact Ye _
    rw[hg,Yo,X0e (by omega) (by omega)]
    obtain⟨o,h1,h2⟩:=ih n (i+1) (by omega) (by omega) (by omega)
    rw[show((i+1:Nat):Int)=(i:Int)+1 by omega] at h1
    by_cases hgt:(l[i]'hl).length>20/\(l[i]'hl).length≠61
    ·rw[Yt (show((l[i]'hl).length:Int)>20 by omega),Xfr (show ¬ ((l[i]'hl).length:Int)=61 by omega)]
     exact⟨.x0,rfl,fun h=>by cases h⟩
    ·have e:(bif (decide (((l[i]'hl).length:Int)>(20:Int))) then (some (bif (decide (((l[i]'hl).length:Int)>(20:Int))) then (((l[i]'hl).length:Int) != (61:Int)) else false)) else (some (bif (decide (((l[i]'hl).length:Int)>(20:Int))) then false else false)):Option (Bool))=some false:=by
      by_cases h20:(l[i]'hl).length>20
      ·rw[Yt (show((l[i]'hl).length:Int)>20 by omega),show(l[i]'hl).length=61 by omega];rfl
      ·rw[Yf (show ¬ ((l[i]'hl).length:Int)>20 by omega)];rfl
     rw[e,Yo,cond_false]
     refine⟨o,h1,fun ho j x hj1 hj2 hj3=>?_⟩
     by_cases hji:j=i
     ·subst hji
      rw[Ye hl] at hj3
      cases hj3;omega
     ·exact h2 ho j x (by omega) hj2 hj3
   ·rw[Yf (show ¬ (i:Int)<(l.length:Int) by omega)]
    refine⟨.x1,rfl,fun _ j x h1 h2 h3=>?_⟩
    have:=(Ys.1 h3).1
    omega
theorem Xi8 (l:List (List Xg)):∃ b,X8j l=some b/\(b=false->l.length<=6/\∀ x∈l,x.length<=20\/x.length=61):=by
 unfold X8j
 obtain⟨o,h1,h2⟩:=Xy1 l 7 FU 0 rfl (by omega) (by unfold FU;omega)
 rw[show((0:Nat):Int)=0 from rfl] at h1
 rw[h1,Yo]
 cases o with
 |x0=>exact⟨true,rfl,fun h=>by cases h⟩
 |x1 =>
  refine⟨_,rfl,fun hb=>?_⟩
  have hb:=of_decide_eq_false hb
  refine⟨by omega,fun x hx=>?_⟩
  obtain⟨j,hj,e⟩:=List.getElem_of_mem hx
  exact h2 rfl j x (Nat.zero_le _) (by omega) (by rw[Ye hj,e])
theorem Xie (q:Xu):∃ b,X8o q=some b:=by
 unfold X8o X8q
 simp only[Yo]
 cases decide ((q.Arg.length:Int)>70)<;>cases decide ((q.Where.length:Int)>70)<;>exact⟨_,rfl⟩
theorem Xlr {q:Xu} (hq:QW q) (l:List (List Xg)):∃ b,Xbp q l=some b/\(b=true->RI q l/\∀ x∈l,x.length<=20):=by
 unfold Xbp
 obtain⟨g,hg⟩:=Xie q
 rw[hg,Yo]
 cases g with
 |true=>exact⟨false,rfl,fun h=>by cases h⟩
 |false =>
  obtain⟨b,hb,hb2⟩:=Xi8 l
  rw[Bool.not_false,cond_true,hb,Yo]
  cases b with
  |true=>exact⟨false,rfl,fun h=>by cases h⟩
  |false =>
   obtain⟨hl,hx⟩:=hb2 rfl
   unfold Xah
   rw[Xid hq]
   simp only[Bool.not_false,cond_true,Yo]
   by_cases hz:(Xwc q).2=0
   ·rw[hz]
    simp only[bne_self_eq_false,cond_false]
    by_cases hlen:l.length=q.Sources.length
    ·rw[show((l.length:Int) != (q.Sources.length:Int))=false by rw[hlen];simp,cond_false,Xi7 (by omega)]
     simp only[Yo]
     by_cases hw:Xb4 l=0
     ·refine⟨true,by rw[hw];rfl,fun _=>?_⟩
      have hev:=Xct.1 hw
      have h20:∀ x∈l,x.length<=20:=fun x hxm=>by
       have:=Xow (hev x hxm)
       have:=hx x hxm
       omega
      exact⟨⟨⟨hq,hz⟩,hlen,fun x hxm=>⟨hev x hxm,by have:=h20 x hxm;omega⟩⟩,h20⟩
     ·exact⟨false,by rw[show(Xb4 l==0)=false by simp[hw]],fun h=>by cases h⟩
    ·rw[show((l.length:Int) != (q.Sources.length:Int))=true by simp;omega]
     exact⟨false,rfl,fun h=>by cases h⟩
   ·rw[Xfr hz]
    simp only[cond_true,Yo]
    exact⟨false,by rw[show((Xwc q).2==0)=false by simp[hz]],fun h=>by cases h⟩
theorem Xsc:Xar=some true:=by decide +kernel
theorem RQ.agg1 {q:Xu} (h:RQ q):q.Agg=1->q.Arg.length=0:=by
 have hc:=h.cz
 intro ha
 unfold Xmq at hc
 split at hc
 ·cases hc
 ·split at hc
  ·cases hc
  ·rename_i h2
   by_cases hz:q.Arg.length=0
   ·exact hz
   ·exact absurd ⟨ha,by omega⟩ h2
theorem RQ.lens {q:Xu} (h:RQ q):q.Arg.length<=60/\q.Where.length<=60:=by
 constructor
 ·by_cases ha:q.Agg=1
  ·have:=h.agg1 ha;omega
  ·exact(X8u (h.facts.2.1 ha)).1
 ·by_cases hw:0<q.Where.length
  ·exact(X8u (h.facts.2.2.1 hw)).1
  ·omega
end Go.D


namespace Go.D
def swP (p:Pu):Pu:=(p.1,1 - p.2)
def swE (e:X5):X5:=⟨e.Key,e.Span,⟨e.Values.e1,e.Values.e0⟩⟩
def swR (r:X3w):X3w:=⟨r.Key,r.Span,⟨r.Values.e1,r.Values.e0⟩⟩
theorem Xzm (e:X5):swE (swE e)=e:=rfl
theorem Xsw (L:List Pu) (k:Int) (s:X0n) (side:Int):vals (L.map swP) k s side=vals L k s (1 - side):=by
 unfold vals
 rw[List.filter_map,List.map_map]
 have e:((fun p:Pu=>decide (p.1.Key=k/\inS s p.1.Time/\p.2=side))∘swP)=fun p:Pu=>decide (p.1.Key=k/\inS s p.1.Time/\p.2=1 - side):=by
  funext p
  show decide (p.1.Key=k/\inS s p.1.Time/\1 - p.2=side)=decide (p.1.Key=k/\inS s p.1.Time/\p.2=1 - side)
  have h:(1 - p.2=side)↔(p.2=1 - side):=by omega
  simp only[h]
 rw[e];rfl
theorem Xp6 (L:List Pu) (k t:Int):X51 (L.map swP) k t↔X51 L k t:=by
 unfold X51
 constructor
 ·rintro⟨p,hp,h1,h2⟩
  obtain⟨p',hp',rfl⟩:=List.mem_map.1 hp
  exact⟨p',hp',h1,h2⟩
 ·rintro⟨p,hp,h1,h2⟩
  exact⟨swP p,List.mem_map.2 ⟨p,hp,rfl⟩,h1,h2⟩
theorem X01l (L:List Pu) (k:Int) (s:X0n):Xba (L.map swP) k s=⟨(Xba L k s).e1,(Xba L k s).e0⟩:=by
 unfold Xba
 rw[Xsw,Xsw];rfl
theorem X037 {es:List X5} {e:X5}:e∈es.map swE↔swE e∈es:=by
 rw[List.mem_map]
 exact⟨fun⟨a,h1,h2⟩=>by rw[<-h2,Xzm];exact h1,fun h=>⟨swE e,h,rfl⟩⟩
theorem X50.sw {w:X0l} {L:List Pu} {es:List X5} (c:X50 w L es):X50 w (L.map swP) (es.map swE):=by
 refine⟨c.sorted.map swE fun a b h=>h,fun e=>?_,fun h3 k t ht=>?_⟩
 ·rw[X037,c.mem]
  unfold Xmf
  have hT:X51 (L.map swP) e.Key=X51 L e.Key:=funext fun t=>propext (Xp6 L _ t)
  rw[hT,X01l]
  show Xcu w (X51 L e.Key) e.Span/\(⟨e.Values.e1,e.Values.e0⟩:V2 X12)=Xba L e.Key e.Span↔_
  constructor
  ·rintro⟨h1,h2⟩;exact⟨h1,by rw[<-h2]⟩
  ·rintro⟨h1,h2⟩;exact⟨h1,by rw[h2]⟩
 ·obtain⟨e,he,h1,h2,h4⟩:=c.cover h3 k t ((Xp6 L k t).1 ht)
  exact⟨swE e,List.mem_map.2 ⟨e,he,rfl⟩,h1,h2,h4⟩
def Xfc (q:Xu):Xu:=Xu.mk q.Agg q.Arg q.Sources.reverse q.Join q.Where q.Window q.ByKey q.Late
theorem Xqc (s:List Int) (j:Bool):X57 s.reverse j=X57 s j:=by
 unfold X57 Xlb
 have h:s.reverse.Nodup=s.Nodup:=propext (List.reverse_perm s).nodup_iff
 simp only[List.length_reverse,List.any_reverse,h]
theorem RQ.turn {q:Xu} (h:RQ q):RQ (Xfc q):=by
 have hw:QW (Xfc q):=⟨h.w.arg,h.w.wher,h.w.ev⟩
 have hc:Xmq (Xfc q)=Xmq q:=by
  unfold Xmq Xfc
  simp only[Xqc]
 refine⟨hw,?_⟩
 have:=h.ok
 unfold Xwc at this ⊢
 rw[hc]
 exact this
theorem RI.turn {q:Xu} {l:List (List Xg)} (h:RI q l):RI (Xfc q) l.reverse :=
 ⟨h.rq.turn,by rw[List.length_reverse];show l.length=q.Sources.reverse.length;rw[List.length_reverse];exact h.len,fun x hx=>h.ev x (List.mem_reverse.1 hx)⟩
theorem Xj3 (q:Xu):∀ (l:List (List Xg)) (k:Nat),X6r (Xfc q) k l=X6r q k l
 |[],_=>rfl
 |x::xs,k=>by rw[X6r,X6r,Xj3 q xs (k+1)];rfl
theorem Xn0 (q:Xu) (es:List X5):X6s (Xfc q) es=X6s q es:=rfl
theorem Xe7 {q:Xu} (hj:q.Join=false):∀ (l:List (List Xg)) (k:Nat),X6r q k l=l.flatMap fun x=>Xju q 0 (X7v x)
 |[],_=>rfl
 |x::xs,k=>by
  rw[X6r,Xe7 hj xs (k+1),List.flatMap_cons]
  have:X4r q (k:Int)=0:=by unfold X4r;rw[hj];rfl
  rw[this]
theorem Xtf (q:Xu) (side:Int) (rs:List Xb):(Xju q side rs).map swP=Xju q (1 - side) rs:=by
 unfold Xju
 rw[List.map_map];rfl
theorem Xlj {q:Xu} (hj:q.Join=true) (x y:List Xg):X6r q 0 [x,y]=Xju q 0 (X7v x)++Xju q 1 (X7v y):=by
 have e:∀ k:Int,X4r q k=k:=fun k=>by unfold X4r;rw[hj];rfl
 rw[X6r,X6r,X6r,e,e,List.append_nil];rfl
theorem Xgy {q:Xu} {l:List (List Xg)} (h:RI q l):(X6r q 0 l).length<=1073741824:=by
 have h1:=Xh0 (q:=q) l 0 fun x hx=>(h.ev x hx).2
 have h2:=h.rq.src
 have h3:=h.len
 omega
theorem Xsa {q:Xu} {l:List (List Xg)} (h:RI q l) {es:List X5} (c:X50 q.Window (X6r q 0 l) es):X50 (Xfc q).Window (X6r (Xfc q) 0 l.reverse) (if q.Join=true then es.map swE else es):=by
 rw[Xj3]
 show X50 q.Window _ _
 by_cases hj:q.Join=true
 ·rw[if_pos hj]
  have h2:l.length=2:=by rw[h.len];exact h.rq.src.2.2 hj
  match l,h2 with
  |[x,y],_ =>
   have h3:=Xgy h
   rw[Xlj hj] at c h3
   show X50 q.Window (X6r q 0 [y,x]) _
   rw[Xlj hj]
   refine X50.perm (L:=(Xju q 0 (X7v x)++Xju q 1 (X7v y)).map swP) ?_ (by rw[List.length_map];exact h3) c.sw
   rw[List.map_append,Xtf,Xtf]
   exact List.perm_append_comm
 ·rw[if_neg hj]
  refine c.perm ?_ (Xgy h)
  have hj':q.Join=false:=by cases hq:q.Join<;>simp_all
  rw[Xe7 hj',Xe7 hj']
  exact(List.reverse_perm l).symm.flatMap_right _
theorem Xq8 {q:Xu} (hj:q.Join=true) (es:List X5):X6s q (es.map swE)=(X6s q es).map swR:=by
 unfold X6s
 rw[List.filter_map,List.map_map,List.map_map]
 have e1:live q∘swE=live q:=by
  funext e
  show(decide (e.Values.e1.Count≠0)&&(!q.Join||decide (e.Values.e0.Count≠0)))=(decide (e.Values.e0.Count≠0)&&(!q.Join||decide (e.Values.e1.Count≠0)))
  rw[hj]
  simp only[Bool.not_true,Bool.false_or]
  exact Bool.and_comm ..
 have e2:rowE q∘swE=swR∘rowE q:=by
  funext e
  show(⟨e.Key,e.Span,⟨Xyp q.Agg e.Values.e1,if q.Join then Xyp q.Agg e.Values.e0 else 0⟩⟩:X3w)=swR ⟨e.Key,e.Span,⟨Xyp q.Agg e.Values.e0,if q.Join then Xyp q.Agg e.Values.e1 else 0⟩⟩
  rw[hj];rfl
 rw[e1,e2]
def swJ (j:Bool) (r:X3w):X3w:=if j=true then swR r else r
theorem Xta (q:Xu) (es:List X5):X6s q (if q.Join=true then es.map swE else es)=(X6s q es).map (swJ q.Join):=by
 by_cases hj:q.Join=true
 ·rw[if_pos hj,Xq8 hj]
  congr 1
  funext r;unfold swJ;rw[if_pos hj]
 ·rw[if_neg hj]
  have:swJ q.Join=id:=by funext r;unfold swJ;rw[if_neg hj];rfl
  rw[this,List.map_id]
theorem X01n (m:Int) (j:Bool) (rows:List X3w):Xyb m (rows.map (swJ j))=(Xyb m rows).map (swJ j):=by
 unfold Xyb
 rw[List.filter_map]
 congr 1
 refine List.filter_congr fun r _=>?_
 show decide ((swJ j r).Span.End<=m)=_
 unfold swJ
 split<;>rfl
theorem Xnj {a b:List (List Xg)} (h:a.Perm b):∀ m,Xbo m a=Xbo m b:=by
 induction h with
 |nil=>intro m;rfl
 |cons x _ ih=>intro m;rw[Xbo,Xbo,ih]
 |swap x y l =>
  intro m
  simp only[Xbo]
  congr 1
  (repeat' split)<;>omega
 |trans _ _ h1 h2=>intro m;rw[h1,h2]
theorem Xu0 (l:List (List Xg)):(Xh9 l.reverse).length=(Xh9 l).length:=by
 unfold Xh9
 exact((List.reverse_perm l).map Xik).flatten.length_eq
theorem Xnk (q:Xu) (l:List (List Xg)):(Xlu (Xfc q) l.reverse).length=(Xlu q l).length:=by
 unfold Xlu
 show(if q.Late=2 then Xh9 l.reverse else []).length=_
 split
 ·exact Xu0 l
 ·rfl
theorem Xmg {q:Xu} {l:List (List Xg)} (h:RI q l):∃ rows la la',rows.length<=3900/\X21 q l=some (rows,la,0)/\X21 (Xfc q) l.reverse=some (rows.map (swJ q.Join),la',0)/\la'.length=la.length:=by
 obtain⟨es,hc,_,_⟩:=Xco h
 obtain⟨_,hn,he⟩:=X9b h hc
 obtain⟨_,_,he2⟩:=X9b h.turn (Xsa h hc)
 refine⟨_,_,_,?_,he,?_,Xnk q l⟩
 ·have h1:=Xj0 q es
  have h2:(Xyb (Xbo Xma l) (X6s q es)).length<=(X6s q es).length:=List.length_filter_le _ _
  omega
 ·rw[he2,Xn0,Xta,X01n,Xnj (List.reverse_perm l)]
end Go.D


namespace Go.D
theorem Xx8 (l:List (List Xg)) (q:Xu) (v:Bool) (a:Int) (o2:List Xw) (b:Bool) (o4:List Xw) (c d e:Int) (f:Bool) (g:Int) (hl:l.length=q.Sources.length) (hs:l.length<=1000) :
  ∀ (j n:Nat) (o3:List Int),j<n->j<=l.length->o3.length=l.length->o3.take (l.length - j)=(q.Sources.drop j).reverse ->
   X11 l q v a o2 b o4 c d e f g n o3 (l.drop j).reverse ((j:Int) - 1)=some (.x0 q.Sources.reverse l.reverse):=by
 intro j
 induction j with
 |zero =>
  intro n o3 hn _ ho ht
  obtain⟨n,rfl⟩:∃ k,n=k+1:=⟨n - 1,by omega⟩
  rw[X11,Yf (by omega),cond_false]
  rw[Nat.sub_zero,<-ho,List.take_length] at ht
  rw[ht];rfl
 |succ j ih =>
  intro n o3 hn hj ho ht
  obtain⟨n,rfl⟩:∃ k,n=k+1:=⟨n - 1,by omega⟩
  have hj1:j<l.length:=by omega
  have hj2:j<q.Sources.length:=by omega
  have hj3:l.length - 1 - j<o3.length:=by omega
  rw[X11,Yt (by omega),cond_true]
  have ez:((j+1:Nat):Int) - 1=(j:Int):=by omega
  have ew:IntKind.i64.wrap (IntKind.i64.wrap ((List.length l:Int) - 1) - (j:Int))=((l.length - 1 - j:Nat):Int):=by
   rw[X0e (z:=(List.length l:Int) - 1) (by omega) (by omega),X0e (by omega) (by omega)];omega
  have ew2:IntKind.i64.wrap ((j:Int) - 1)=(j:Int) - 1:=X0e (by omega) (by omega)
  rw[ez,ew,ew2,X58,X58,X58,Ye hj2,Ye hj1,Ye hj3]
  simp only[Yo]
  rw[X5c (by simp;omega),Yo]
  have e1:(l.drop (j+1)).reverse++[l[j]]=(l.drop j).reverse:=by
   rw[List.drop_eq_getElem_cons hj1,List.reverse_cons]
  rw[e1,Int.toNat_natCast]
  refine ih n _ (by omega) (by omega) (by rw[List.length_set];exact ho) ?_
  rw[List.drop_eq_getElem_cons hj2,List.reverse_cons,<-ht]
  have e2:l.length - j=(l.length - 1 - j)+1:=by omega
  have e3:l.length - (j+1)=l.length - 1 - j:=by omega
  rw[e2,e3,List.take_add_one,List.take_set_of_le (Nat.le_refl _),List.getElem?_set_self hj3];rfl
theorem Xpg (q:Xu) (v:Bool) (A a:List X3w):∀ (xs:List X3w) (k:Nat),a.drop k=xs.map (swJ q.Join)->X1a q v A a xs k=some .x0
 |[],k,_=>rfl
 |x::xs,k,h=>by
  have hg:a[k]?=some (swJ q.Join x):=by
   have:=congrArg (fun z=>z[0]?) h
   simpa using this
  have hd:a.drop (k+1)=xs.map (swJ q.Join):=by
   have:=congrArg List.tail h
   simpa using this
  rw[X1a,X58,hg,Yo]
  have e:(bif q.Join then (some (X3w.mk (swJ q.Join x).Key (swJ q.Join x).Span (V2.mk (swJ q.Join x).Values.e1 (swJ q.Join x).Values.e0))) else (some (swJ q.Join x)):Option X3w)=some x:=by
   cases hj:q.Join<;>rfl
  rw[e,Yo,Xoq]
  simp only[decide_true,Bool.not_true,cond_false]
  exact Xpg q v A a xs (k+1) hd
theorem Xqi {q:Xu} (hq:QW q) (l:List (List Xg)):X37 q l=some true:=by
 unfold X37
 obtain⟨b,hb,hR⟩:=Xlr hq l
 rw[Xsc,Yo,hb,Yo]
 cases b with
 |false=>rfl
 |true =>
  obtain⟨hri,_⟩:=hR rfl
  have hs:=hri.rq.src
  have hlen:=hri.len
  have h1:=hri.rq.lens
  obtain⟨rows,la,la',hn,he,he2,hl⟩:=Xmg hri
  simp only[Bool.not_true,cond_false]
  rw[X5c (by omega),X5c (by omega),X5c (by omega)]
  simp only[Yo]
  have ht:∀ a b c:Bool,(bif a then (bif b then (bif c then some q.Sources else some q.Sources) else (bif c then some q.Sources else some q.Sources)) else (bif b then (bif c then some q.Sources else some q.Sources) else (bif c then some q.Sources else some q.Sources)))=some q.Sources:=by
   intro a b c;cases a<;>cases b<;>cases c<;>rfl
  rw[ht,Yo]
  have ew:IntKind.i64.wrap ((List.length l:Int) - 1)=(List.length l:Int) - 1:=X0e (by omega) (by omega)
  have h0:=Xx8 l q true q.Agg q.Arg q.Join q.Where q.Window.Kind q.Window.Size q.Window.Every q.ByKey q.Late hlen (by omega) l.length FU q.Sources (by unfold FU;omega) (Nat.le_refl _) hlen.symm (by rw[Nat.sub_self,hlen,List.drop_length];rfl)
  rw[List.drop_length,List.reverse_nil] at h0
  rw[ew]
  show((X11 l q true q.Agg q.Arg q.Join q.Where q.Window.Kind q.Window.Size q.Window.Every q.ByKey q.Late FU q.Sources [] ((List.length l:Int) - 1)).bind _)=_
  rw[h0,Yo]
  simp only
  unfold Xfc at he2
  rw[he,Yo,he2,Yo]
  simp only[bne_self_eq_false,cond_false,List.length_map,hl,Yo]
  rw[X31 (by omega),Yo,Xpg q true rows _ rows 0 rfl];rfl
end Go.D


namespace Go.D
theorem Xyo {z:Int} (h:wfI .u8 z):0<=z:=by
 have h:=h
 simp only[wfI,Lit.wf,IntKind.bits,IntKind.signed] at h
 simp at h
 have e1:IntKind.u8.min=0:=by decide
 omega
theorem Xzh {z:Int} (h:wfI .i64 z):z<=9223372036854775807 /\ -9223372036854775808<=z:=by
 have h:=h
 simp only[wfI,Lit.wf,IntKind.bits,IntKind.signed] at h
 simp at h
 have e1:IntKind.i64.min = -9223372036854775808:=by decide
 have e2:IntKind.i64.max=9223372036854775807:=by decide
 omega
theorem X04i {q:Xu} (w:Xgn q):QW q:=by
 obtain⟨_,⟨_,h1⟩,_,_,⟨_,h2⟩,h3,_⟩:=w
 exact⟨fun x hx=>Xyo (h1 x hx).1,fun x hx=>Xyo (h2 x hx).1,Xzh h3.2.2⟩
end Go.D


namespace Go.D
theorem Xbr (q:Xu) (l:List (List Xg)) (w0:Xgn q) {P:Prop} (_:P):X37 q l=some true:=Xqi (X04i w0) l
end Go.D
