/- Parts of the proof, laid together. -/
import Derived.Test.YtfdfgobnpnoomaaGreatDFunZ
set_option linter.all false

namespace Go.D
theorem X03 {z:Int} (h1 : -9223372036854775808<=z) (h2:z<=9223372036854775807):IntKind.i64.wrap z=z:=Go.IntWalk.i64_in z ⟨h1,h2⟩
theorem X19 {n:Nat} (h:n<=140737488355328):X2o n=some ():=by unfold X2o;rw[if_pos h]
theorem X1y {n b:Nat} (h:n*b<=140737488355328):X1l n b=some ():=by unfold X1l;rw[if_pos h]
theorem X3i {α:Type} (l:List α) (k:Nat):X1p l (k:Int)=l[k]?:=by simp[X1p]
def ltE (a b:X8):Prop:=a.Span.End<b.Span.End\/a.Span.End=b.Span.End/\(a.Span.Start<b.Span.Start\/a.Span.Start=b.Span.Start/\a.Key<b.Key)
instance (a b:X8):Decidable (ltE a b):=by unfold ltE;infer_instance
def X69 (a b:X8):Prop:=a.Key=b.Key/\a.Span=b.Span
instance (a b:X8):Decidable (X69 a b):=by unfold X69;infer_instance
theorem Xc9 {a b:Xr} (h1:a.Start=b.Start) (h2:a.End=b.End):a=b:=by cases a;cases b;simp_all
theorem Xm2 {a b c:X8} (h:ltE a b) (k:ltE b c):ltE a c:=by unfold ltE at *;omega
theorem Xji (a:X8):¬ ltE a a:=by unfold ltE;omega
theorem X01a {a b:X8} (h:ltE a b):¬ ltE b a:=by unfold ltE at *;omega
theorem Xm3 {a b:X8}:ltE a b\/X69 a b\/ltE b a:=by
 by_cases h:X69 a b
 ·exact .inr (.inl h)
 ·have:¬ (a.Key=b.Key/\a.Span.Start=b.Span.Start/\a.Span.End=b.Span.End):=fun⟨h1,h2,h3⟩=>h ⟨h1,Xc9 h2 h3⟩
  unfold ltE;omega
theorem sameK_ltE {a b c:X8} (h:X69 a b):ltE c a↔ltE c b:=by unfold X69 at h;unfold ltE;rw[h.1,h.2]
theorem Xd8 {a b c:X8} (h:X69 a b):ltE a c↔ltE b c:=by unfold X69 at h;unfold ltE;rw[h.1,h.2]
theorem Xcf {a b:X8} (h:X69 a b):¬ ltE a b:=by unfold X69 at h;unfold ltE;rw[h.1,h.2];omega
def cmpI (a b:Int):Int:=if a<b then -1 else if a>b then 1 else 0
theorem X0c1 (a b:Int):X0j a b=some (cmpI a b):=by
 simp only[X0j,X3f,bne_self_eq_false,Yo,cond_false,cmpI]
 by_cases h1:a<b
 ·simp[h1]
 ·by_cases h2:a>b
  ·simp[h1,h2]
  ·simp[h1,h2]
def ordE (a b:X8):Int:=if ltE a b then -1 else if ltE b a then 1 else 0
theorem Xcr (a b:X8):X7j a b=some (ordE a b):=by
 simp only[X7j,X0c1,Yo,X81,X3u,List.length_cons,List.length_nil]
 rw[X19 (by omega)]
 simp only[Yo,ordE,ltE,cmpI]
 by_cases h1:a.Span.End<b.Span.End
 ·simp[h1]
 ·by_cases h2:a.Span.End>b.Span.End
  ·have:¬ a.Span.End=b.Span.End:=by omega
   simp[h1,h2,this]
  ·have he:a.Span.End=b.Span.End:=by omega
   by_cases h3:a.Span.Start<b.Span.Start
   ·simp[he,h3]
   ·by_cases h4:a.Span.Start>b.Span.Start
    ·have:¬ a.Span.Start=b.Span.Start:=by omega
     simp[he,h3,h4,this]
    ·have hs:a.Span.Start=b.Span.Start:=by omega
     by_cases h5:a.Key<b.Key
     ·simp[he,hs,h5]
     ·by_cases h6:a.Key>b.Key
      ·simp[he,hs,h5,h6]
      ·simp[he,hs,h5,h6]
theorem Xtn {a b:X8}:ordE a b<0↔ltE a b:=by
 unfold ordE
 by_cases h:ltE a b
 ·simp[h]
 ·by_cases h2:ltE b a<;>simp[h,h2]
theorem X08r {a b:X8}:ordE a b=0↔X69 a b:=by
 unfold ordE
 by_cases h:ltE a b
 ·simp[h];exact fun hs=>Xcf hs h
 ·by_cases h2:ltE b a
  ·simp[h,h2];exact fun hs=>h ((Xd8 hs).2 ((sameK_ltE hs).1 h2))
  ·simp[h,h2]
   rcases Xm3 (a:=a) (b:=b) with h3|h3|h3
   ·exact absurd h3 h
   ·exact h3
   ·exact absurd h3 h2
theorem X08q {a b:X8}:0<=ordE a b↔¬ ltE a b:=by rw[<-Xtn];omega
def okA (a:X0b):Prop:=(a.Count=0/\a=⟨0,0,0,0⟩)\/(a.Count=1/\a.Sum=a.Min/\a.Sum=a.Max)\/(1<a.Count/\a.Count<=1073741824/\a.Min<=a.Max)
theorem X58 {a:X0b} (h:okA a):X40 a=some 0:=by
 rcases h with ⟨h1,h2⟩|⟨h1,h2,h3⟩|⟨h1,h2,h3⟩
 ·subst h2;rfl
 ·have h3':a.Min=a.Max:=by omega
  simp[X40,h1,h2,h3']
 ·have e0:(a.Count==0)=false:=by simp;omega
  have e1:(a.Count==1)=false:=by simp;omega
  simp[X40,e0,e1,h1,h2,h3]
def X44 (a b:X0b):X0b :=
 if a.Count=0 then b else if b.Count=0 then a else ⟨a.Count+b.Count,IntKind.i64.wrap (a.Sum+b.Sum),if b.Min<a.Min then b.Min else a.Min,if b.Max>a.Max then b.Max else a.Max⟩
theorem Xbr {a:X0b} (h:okA a):0<=a.Count/\a.Count<=1073741824:=by
 rcases h with ⟨h1,_⟩|⟨h1,_⟩|⟨h1,h2,_⟩<;>omega
theorem X51 {a b:X0b} (ha:okA a) (hb:okA b) (hc:a.Count+b.Count<=1073741824):X2m a b=some (X44 a b,0):=by
 have h1:=Xbr ha
 have h2:=Xbr hb
 simp only[X2m,X58 ha,X58 hb,Yo,bne_self_eq_false,cond_false,X44]
 rw[X03 (by omega) (by omega)]
 have e0:decide (a.Count+b.Count>1073741824)=false:=by simp;omega
 rw[e0,cond_false]
 by_cases h3:a.Count=0
 ·have e1:(a.Count==0)=true:=by simp[h3]
  rw[e1,cond_true,if_pos h3]
 ·have e1:(a.Count==0)=false:=by simp[h3]
  rw[e1,cond_false,if_neg h3]
  by_cases h4:b.Count=0
  ·have e2:(b.Count==0)=true:=by simp[h4]
   rw[e2,cond_true,if_pos h4]
  ·have e2:(b.Count==0)=false:=by simp[h4]
   rw[e2,cond_false,if_neg h4]
theorem X00o {a:X0b} (h:okA a):a.Min<=a.Max:=by
 rcases h with ⟨_,h2⟩|⟨_,h2,h3⟩|⟨_,_,h3⟩
 ·subst h2;decide
 ·omega
 ·exact h3
theorem X05r {a b:X0b} (ha:okA a) (hb:okA b) (hc:a.Count+b.Count<=1073741824):okA (X44 a b):=by
 unfold X44
 have h1:=Xbr ha
 have h2:=Xbr hb
 by_cases h3:a.Count=0
 ·rw[if_pos h3];exact hb
 ·rw[if_neg h3]
  by_cases h4:b.Count=0
  ·rw[if_pos h4];exact ha
  ·rw[if_neg h4]
   have m1:=X00o ha
   have m2:=X00o hb
   refine .inr (.inr ⟨?_,hc,?_⟩)
   ·show 1<a.Count+b.Count;omega
   ·show(if b.Min<a.Min then b.Min else a.Min)<=(if b.Max>a.Max then b.Max else a.Max)
    split<;>split<;>omega
def okE (x:X8):Prop := -1100585369600<=x.Span.Start/\x.Span.Start<x.Span.End/\x.Span.End<=1100585369600/\okA x.Values.e0/\okA x.Values.e1/\0<x.Values.e0.Count+x.Values.e1.Count
theorem Xh0 {x:X8} (h:okE x):Xb3 x=some true:=by
 obtain⟨h1,h2,h3,h4,h5,h6⟩:=h
 have c1:=Xbr h4
 have c2:=Xbr h5
 have e1:¬ x.Span.Start < -1100585369600:=by omega
 have e2:¬ x.Span.End<=x.Span.Start:=by omega
 have e3:¬ x.Span.End>1100585369600:=by omega
 simp only[Xb3,X58 h4,X58 h5,Yo]
 rw[X03 (by omega) (by omega)]
 have e3:¬ 1100585369600<x.Span.End:=by omega
 simp[e1,e2,e3,h6]
theorem X98 (l:List X8) (hs:l.Pairwise ltE) (ho:∀ x∈l,okE x) (hn:l.length<=1000000):∀ (xs:List X8) (k:Nat),l.drop k=xs->X4p l xs k=some .x0:=by
 intro xs
 induction xs with
 |nil=>intro k _;rfl
 |cons x xs ih =>
  intro k hk
  have hlt:k<l.length:=by
   rcases Nat.lt_or_ge k l.length with h|h
   ·exact h
   ·rw[List.drop_eq_nil_of_le h] at hk;cases hk
  have hx:l[k]?=some x:=by have:=congrArg List.head? hk;simpa[List.head?_drop] using this
  have hmem:x∈l:=Yg hx
  have hnext:l.drop (k+1)=xs:=by rw[<-List.tail_drop,hk];rfl
  rw[X4p]
  simp only[Xh0 (ho x hmem),Yo,Bool.not_true,cond_false,cond_true]
  by_cases h0:k=0
  ·subst h0
   simp only[Int.ofNat_zero,Int.cast_ofNat_Int,gt_iff_lt,Int.lt_irrefl,decide_false,cond_false,Yo]
   exact ih 1 hnext
  ·have hpos:decide ((k:Int)>0)=true:=by simp;omega
   rw[hpos,cond_true]
   have hw:IntKind.i64.wrap ((k:Int) - 1)=((k - 1:Nat):Int):=by rw[X03 (by omega) (by omega)];omega
   rw[hw,X3i]
   have hp:l[k - 1]?=some l[k - 1]:=Ye (by omega)
   rw[hp]
   have hlt2:ltE l[k - 1] x:=by
    have h3:=List.pairwise_iff_getElem.1 hs (k - 1) k (by omega) hlt (by omega)
    have:l[k]=x:=by rw[Ye hlt] at hx;exact Option.some.inj hx
    rwa [this] at h3
   have hord:¬ (0<=ordE l[k - 1] x):=by rw[X08q];exact fun h=>h hlt2
   simp only[Yo,Xcr,ge_iff_le,hord,decide_false,cond_false]
   exact ih (k+1) hnext
theorem Xcs {l:List X8} (hs:l.Pairwise ltE) (ho:∀ x∈l,okE x) (hn:l.length<=4000):Xb4 l=some 0:=by
 unfold Xb4
 have:¬ ((l.length:Int)>4000):=by omega
 simp only[this,decide_false,cond_false]
 rw[X19 (by omega),X98 l hs ho (by omega) l 0 rfl]
 rfl
theorem X0b9 {i j:Nat} (h:i+j<=1000000):IntKind.i64.wrap (Int.fdiv (IntKind.u64.wrap (IntKind.i64.wrap ((i:Int)+(j:Int)))) (2 ^ (min (Int.toNat 1) IntKind.u64.bits)))=(((i+j) / 2:Nat):Int):=by
 have h1:IntKind.i64.wrap ((i:Int)+(j:Int))=(i:Int)+j:=X03 (by omega) (by omega)
 rw[h1]
 have h2:IntKind.u64.wrap ((i:Int)+j)=(i:Int)+j:=Go.IntWalk.u64_in _ ⟨by omega,by omega⟩
 rw[h2]
 have h3:(min (Int.toNat 1) IntKind.u64.bits)=1:=by decide
 rw[h3]
 have h4:Int.fdiv ((i:Int)+j) (2 ^ 1)=(((i+j) / 2:Nat):Int):=by
  rw[Int.fdiv_eq_ediv_of_nonneg _ (by decide)]
  omega
 rw[h4,X03 (by omega) (by omega)]
theorem X0ew (l:List X8) (x:X8) (c:Nat) (n:Int) (hn:l.length<=400000) (hc:∀ (k:Nat) y,l[k]?=some y->(ltE y x↔k<c)):∀ (f i j:Nat),i<=c->c<=j->j<=l.length->j - i<f ->
  Xz l x n f i j=some (.x0 c):=by
 intro f
 induction f with
 |zero=>intro i j _ _ _ h;omega
 |succ f ih =>
  intro i j h1 h2 h3 h4
  rw[Xz]
  by_cases hij:i<j
  ·have hd:decide ((i:Int)<(j:Int))=true:=by simp;exact hij
   rw[hd,cond_true,X0b9 (by omega),X3i]
   have hm:(i+j) / 2<l.length:=by omega
   rw[Ye hm]
   simp only[Yo,Xcr]
   have hcc:=hc ((i+j) / 2) _ (Ye hm)
   by_cases hl:ltE l[(i+j) / 2] x
   ·have:ordE l[(i+j) / 2] x<0:=Xtn.2 hl
    simp only[this,decide_true,cond_true]
    rw[X03 (by omega) (by omega)]
    have:=hcc.1 hl
    have h5:=ih ((i+j) / 2+1) j (by omega) h2 h3 (by omega)
    simpa using h5
   ·have:¬ ordE l[(i+j) / 2] x<0:=fun h=>hl (Xtn.1 h)
    simp only[this,decide_false,cond_false]
    have:¬ (i+j) / 2<c:=fun h=>hl (hcc.2 h)
    exact ih i ((i+j) / 2) h1 (by omega) (by omega) (by omega)
  ·have hd:decide ((i:Int)<(j:Int))=false:=by simp;omega
   rw[hd,cond_false]
   have:i=c:=by omega
   rw[this]
def cnt (l:List X8) (x:X8):Nat:=(l.takeWhile fun y=>decide (ltE y x)).length
theorem X034 (l:List X8) (x:X8):cnt l x<=l.length:=by unfold cnt;exact(List.takeWhile_sublist _).length_le
theorem X0ab {l:List X8} {x:X8} (hs:l.Pairwise ltE):∀ (k:Nat) y,l[k]?=some y->(ltE y x↔k<cnt l x):=by
 induction l with
 |nil=>intro k y h;simp at h
 |cons z l ih =>
  intro k y h
  rw[List.pairwise_cons] at hs
  unfold cnt
  by_cases hz:ltE z x
  ·rw[List.takeWhile_cons_of_pos (by simpa using hz)]
   cases k with
   |zero=>simp at h;subst h;simp[hz]
   |succ k =>
    simp at h
    have:=ih hs.2 k y h
    unfold cnt at this
    rw[this];simp
  ·rw[List.takeWhile_cons_of_neg (by simpa using hz)]
   simp only[List.length_nil,Nat.not_lt_zero,iff_false]
   cases k with
   |zero=>simp at h;subst h;exact hz
   |succ k =>
    simp at h
    exact fun hy=>hz (Xm2 (hs.1 y (Yg h)) hy)
theorem X0c3 {l:List X8} {x:X8} (hs:l.Pairwise ltE) (hn:l.length<=50000) :
  Xp l x=some ((cnt l x:Int),match l[cnt l x]? with|some y=>decide (X69 y x)|none=>false):=by
 unfold Xp
 have h0:=X0ew l x (cnt l x) (l.length:Int) (by omega) (X0ab hs) FU 0 l.length (by omega) (X034 l x) (Nat.le_refl _) (by unfold FU;omega)
 rw[show((0:Nat):Int)=0 from rfl] at h0
 rw[h0]
 simp only[Yo]
 by_cases hlt:cnt l x<l.length
 ·have hd:decide ((cnt l x:Int)<(l.length:Int))=true:=by simp;exact hlt
  rw[hd,X3i,Ye hlt]
  simp only[cond_true,Yo,Xcr]
  congr 2
  rw[Bool.eq_iff_iff]
  simp[X08r]
 ·have hd:decide ((cnt l x:Int)<(l.length:Int))=false:=by simp;omega
  rw[hd,List.getElem?_eq_none (by omega)]
  rfl
end Go.D


namespace Go.D
def Xoj (y x:X8):X8:=⟨y.Key,y.Span,⟨X44 y.Values.e0 x.Values.e0,X44 y.Values.e1 x.Values.e1⟩⟩
def Xpd:List X8->X8->List X8
 |[],x=>[x]
 |y::l,x=>if ltE y x then y::Xpd l x else if X69 y x then Xoj y x::l else x::y::l
theorem X00k {l:List X8} {x:X8} (hs:l.Pairwise ltE) :
  Xpd l x=(match l[cnt l x]? with
   |none=>l++[x]
   |some y=>if X69 y x then l.set (cnt l x) (Xoj y x) else l.take (cnt l x)++x::l.drop (cnt l x)):=by
 induction l with
 |nil=>rfl
 |cons z l ih =>
  rw[List.pairwise_cons] at hs
  unfold Xpd
  by_cases hz:ltE z x
  ·have hc:cnt (z::l) x=cnt l x+1:=by unfold cnt;rw[List.takeWhile_cons_of_pos (by simpa using hz)];rfl
   rw[if_pos hz,hc,ih hs.2]
   simp only[List.getElem?_cons_succ]
   cases h:l[cnt l x]? with
   |none=>rfl
   |some y =>
    simp only
    split
    ·rfl
    ·rfl
  ·have hc:cnt (z::l) x=0:=by unfold cnt;rw[List.takeWhile_cons_of_neg (by simpa using hz)];rfl
   rw[if_neg hz,hc]
   simp only[List.getElem?_cons_zero]
   split<;>rfl
def putF (l:List X8) (x:X8):Option (List X8×Int) :=
 (Xp l x).bind fun v1393=>bif (!v1393.2) then (bif (v1393.1==(List.length l:Int)) then (((X71 l v1393.1 (List.length l:Int)).bind fun m1405=>bif (List.isEmpty m1405) then ((X1l (List.length (l++[x])) 88).bind fun u1408=>some ()) else ((X1l (List.length (l++[x])) 88).bind fun u1410=>some ()):Option (Unit)).bind fun _=>some ((l++[x]),0)) else ((Xy7 l v1393.1 x 88).bind fun m1413=>some (m1413,0))) else ((X1p l v1393.1).bind fun e1415=>((X2m e1415.Values.e0 x.Values.e0).bind fun v1430=>bif (v1430.2 != (0:Int)) then (some (l,v1430.2)) else ((X2m (((X8.mk e1415.Key e1415.Span (V2.mk v1430.1 e1415.Values.e1)).Values).e1) x.Values.e1).bind fun v1435=>bif (v1435.2 != (0:Int)) then (some ((List.set l (Int.toNat v1393.1) (X8.mk e1415.Key e1415.Span (V2.mk v1430.1 e1415.Values.e1))),v1435.2)) else (some ((List.set (List.set l (Int.toNat v1393.1) (X8.mk e1415.Key e1415.Span (V2.mk v1430.1 e1415.Values.e1))) (Int.toNat v1393.1) (X8.mk ((X8.mk e1415.Key e1415.Span (V2.mk v1430.1 e1415.Values.e1)).Key) ((X8.mk e1415.Key e1415.Span (V2.mk v1430.1 e1415.Values.e1)).Span) (V2.mk (((X8.mk e1415.Key e1415.Span (V2.mk v1430.1 e1415.Values.e1)).Values).e0) v1435.1))),0))):Option ((List X8)×Int)).bind fun w1427=>some (w1427.1,w1427.2))
theorem X08o {l:List X8} {x:X8} (hs:l.Pairwise ltE) (hn:l.length<=10000) (hx:okA x.Values.e0/\okA x.Values.e1)
  (ho:∀ y∈l,X69 y x->okA y.Values.e0/\okA y.Values.e1/\y.Values.e0.Count+x.Values.e0.Count<=1073741824/\y.Values.e1.Count+x.Values.e1.Count<=1073741824):putF l x=some (Xpd l x,0):=by
 unfold putF
 rw[X0c3 hs (by omega),X00k hs]
 have hle:=X034 l x
 cases h:l[cnt l x]? with
 |none =>
  have hc:cnt l x=l.length:=by
   have:=List.getElem?_eq_none_iff.1 h;omega
  have hsl:X71 l (l.length:Int) (l.length:Int)=some []:=by simp[X71]
  simp only[Yo,Bool.not_false,cond_true,hc,beq_self_eq_true,hsl]
  rw[X1y (by simp;omega)]
  rfl
 |some y =>
  have hlt:cnt l x<l.length:=(Ys.1 h).1
  simp only[Yo]
  by_cases hk:X69 y x
  ·obtain⟨a1,a2,a3,a4⟩:=ho y (Yg h) hk
   simp only[hk,decide_true,Bool.not_true,cond_false,X3i,h,Yo,X51 a1 hx.1 a3,X51 a2 hx.2 a4,bne_self_eq_false,if_true,Int.toNat_natCast,List.set_set]
   rfl
  ·have hne:((cnt l x:Int)==(l.length:Int))=false:=by simp;omega
   have hi:Xy7 l (cnt l x:Int) x 88=some (l.take (cnt l x)++x::l.drop (cnt l x)):=by
    unfold Xy7;rw[if_pos ⟨by omega,by simpa using hlt,by omega⟩];simp
   simp only[hk,decide_false,Bool.not_false,cond_true,hne,cond_false,hi,Yo,if_false]
theorem Xpb {l:List X8} {x:X8} (hs:l.Pairwise ltE) (e:X8) :
  e∈Xpd l x↔(e∈l/\¬ X69 e x)\/(∃ y∈l,X69 y x/\e=Xoj y x)\/((∀ y∈l,¬ X69 y x)/\e=x):=by
 induction l with
 |nil=>simp[Xpd]
 |cons z l ih =>
  rw[List.pairwise_cons] at hs
  unfold Xpd
  by_cases hz:ltE z x
  ·have hnz:¬ X69 z x:=fun h=>Xcf h hz
   rw[if_pos hz,List.mem_cons,ih hs.2]
   constructor
   ·rintro(rfl|⟨h1,h2⟩|⟨y,h1,h2,h3⟩|⟨h1,h2⟩)
    ·exact .inl ⟨List.mem_cons_self,hnz⟩
    ·exact .inl ⟨List.mem_cons_of_mem _ h1,h2⟩
    ·exact .inr (.inl ⟨y,List.mem_cons_of_mem _ h1,h2,h3⟩)
    ·exact .inr (.inr ⟨fun y hy=>(List.mem_cons.1 hy).elim (fun h=>h▸hnz) (h1 y),h2⟩)
   ·rintro(⟨h1,h2⟩|⟨y,h1,h2,h3⟩|⟨h1,h2⟩)
    ·rcases List.mem_cons.1 h1 with h1|h1
     ·exact .inl h1
     ·exact .inr (.inl ⟨h1,h2⟩)
    ·rcases List.mem_cons.1 h1 with h1|h1
     ·subst h1;exact absurd h2 hnz
     ·exact .inr (.inr (.inl ⟨y,h1,h2,h3⟩))
    ·exact .inr (.inr (.inr ⟨fun y hy=>h1 y (List.mem_cons_of_mem _ hy),h2⟩))
  ·rw[if_neg hz]
   have hno:∀ y∈l,¬ (X69 z x/\X69 y x):=fun y hy ⟨h1,h2⟩=>by
    have:=hs.1 y hy
    exact Xcf (a:=y) (b:=y) ⟨rfl,rfl⟩ (by rw[Xd8 (c:=y) h1] at this;rw[<-Xd8 h2] at this;exact this)
   by_cases hk:X69 z x
   ·rw[if_pos hk,List.mem_cons]
    constructor
    ·rintro(rfl|h1)
     ·exact .inr (.inl ⟨z,List.mem_cons_self,hk,rfl⟩)
     ·exact .inl ⟨List.mem_cons_of_mem _ h1,fun h=>hno e h1 ⟨hk,h⟩⟩
    ·rintro(⟨h1,h2⟩|⟨y,h1,h2,h3⟩|⟨h1,h2⟩)
     ·rcases List.mem_cons.1 h1 with h1|h1
      ·subst h1;exact absurd hk h2
      ·exact .inr h1
     ·rcases List.mem_cons.1 h1 with h1|h1
      ·subst h1;exact .inl h3
      ·exact absurd ⟨hk,h2⟩ (hno y h1)
     ·exact absurd hk (h1 z List.mem_cons_self)
   ·rw[if_neg hk]
    have hxz:ltE x z:=by
     rcases Xm3 (a:=z) (b:=x) with h|h|h
     ·exact absurd h hz
     ·exact absurd h hk
     ·exact h
    have hn:∀ y∈l,¬ X69 y x:=fun y hy h=>by
     have h1:=Xm2 hxz (hs.1 y hy)
     exact Xcf (a:=y) (b:=y) ⟨rfl,rfl⟩ (by rw[<-Xd8 h] at h1;exact h1)
    rw[List.mem_cons]
    constructor
    ·rintro(rfl|h1)
     ·exact .inr (.inr ⟨fun y hy=>(List.mem_cons.1 hy).elim (fun h=>h▸hk) (hn y),rfl⟩)
     ·exact .inl ⟨h1,fun h=>(List.mem_cons.1 h1).elim (fun h2=>hk (h2▸h)) (fun h2=>hn e h2 h)⟩
    ·rintro(⟨h1,h2⟩|⟨y,h1,h2,h3⟩|⟨h1,h2⟩)
     ·exact .inr h1
     ·rcases List.mem_cons.1 h1 with h1|h1
      ·subst h1;exact absurd h2 hk
      ·exact absurd h2 (hn y h1)
     ·exact .inl h2
theorem Xlz (y x:X8):X69 (Xoj y x) y:=⟨rfl,rfl⟩
theorem Xlt {l:List X8} {x:X8} (hs:l.Pairwise ltE):(Xpd l x).Pairwise ltE:=by
 induction l with
 |nil=>exact List.pairwise_singleton _ _
 |cons z l ih =>
  have hs0:=hs
  rw[List.pairwise_cons] at hs
  unfold Xpd
  by_cases hz:ltE z x
  ·rw[if_pos hz,List.pairwise_cons]
   refine⟨fun e he=>?_,ih hs.2⟩
   rcases(Xpb hs.2 e).1 he with ⟨h1,_⟩|⟨y,h1,h2,rfl⟩|⟨_,rfl⟩
   ·exact hs.1 e h1
   ·rw[sameK_ltE (Xlz y x)];exact hs.1 y h1
   ·exact hz
  ·rw[if_neg hz]
   by_cases hk:X69 z x
   ·rw[if_pos hk,List.pairwise_cons]
    exact⟨fun e he=>by rw[Xd8 (Xlz z x)];exact hs.1 e he,hs.2⟩
   ·rw[if_neg hk,List.pairwise_cons]
    have hxz:ltE x z:=by
     rcases Xm3 (a:=z) (b:=x) with h|h|h
     ·exact absurd h hz
     ·exact absurd h hk
     ·exact h
    exact⟨fun e he=>(List.mem_cons.1 he).elim (fun h=>h▸hxz) (fun h=>Xm2 hxz (hs.1 e h)),hs0⟩
theorem Xpc (l:List X8) (x:X8):(Xpd l x).length<=l.length+1:=by
 induction l with
 |nil=>simp[Xpd]
 |cons z l ih =>
  unfold Xpd
  split
  ·simp;exact ih
  ·split<;>simp
end Go.D


namespace Go.D
theorem Xiy (z:Int):IntKind.i64.wrap z=(z+9223372036854775808) % 18446744073709551616 - 9223372036854775808:=by
 have h:IntKind.i64.wrap z=if z % 18446744073709551616 >= 9223372036854775808 then z % 18446744073709551616 - 18446744073709551616 else z % 18446744073709551616:=by
  unfold IntKind.wrap
  simp[IntKind.bits,IntKind.signed]
 rw[h]
 split<;>omega
theorem X0ax (a b:Int):IntKind.i64.wrap (IntKind.i64.wrap a+b)=IntKind.i64.wrap (a+b):=by simp only[Xiy];omega
theorem X0aw (a b:Int):IntKind.i64.wrap (a+IntKind.i64.wrap b)=IntKind.i64.wrap (a+b):=by simp only[Xiy];omega
def Xd3:X0b:=⟨0,0,0,0⟩
def ofA (v:Int):X0b:=⟨1,v,v,v⟩
theorem Xrc (v:Int):okA (ofA v):=.inr (.inl ⟨rfl,rfl,rfl⟩)
theorem Xos:okA Xd3:=.inl ⟨rfl,rfl⟩
theorem Xsx {a b:X0b} (h1:a.Count=b.Count) (h2:a.Sum=b.Sum) (h3:a.Min=b.Min) (h4:a.Max=b.Max):a=b:=by cases a;cases b;simp_all
theorem Xl8 (a:X0b):X44 Xd3 a=a:=by unfold X44;rw[if_pos (show Xd3.Count=0 from rfl)]
theorem Xl7 {a:X0b} (h:okA a):X44 a Xd3=a:=by
 unfold X44
 by_cases h0:a.Count=0
 ·rw[if_pos h0]
  rcases h with ⟨_,h⟩|⟨h,_⟩|⟨h,_⟩
  ·exact h.symm
  ·omega
  ·omega
 ·rw[if_neg h0,if_pos (show Xd3.Count=0 from rfl)]
theorem Xy2 {a b:X0b} (ha:okA a) (hb:okA b):X44 a b=X44 b a:=by
 by_cases h1:a.Count=0
 ·have:a=Xd3:=by
   rcases ha with ⟨_,h⟩|⟨h,_⟩|⟨h,_⟩
   ·exact h
   ·omega
   ·omega
  rw[this,Xl8,Xl7 hb]
 ·by_cases h2:b.Count=0
  ·have:b=Xd3:=by
    rcases hb with ⟨_,h⟩|⟨h,_⟩|⟨h,_⟩
    ·exact h
    ·omega
    ·omega
   rw[this,Xl8,Xl7 ha]
  ·unfold X44
   rw[if_neg h1,if_neg h2,if_neg h2,if_neg h1]
   apply Xsx
   ·show a.Count+b.Count=b.Count+a.Count;omega
   ·show IntKind.i64.wrap (a.Sum+b.Sum)=IntKind.i64.wrap (b.Sum+a.Sum);rw[Int.add_comm]
   ·show(if b.Min<a.Min then b.Min else a.Min)=(if a.Min<b.Min then a.Min else b.Min);split<;>split<;>omega
   ·show(if b.Max>a.Max then b.Max else a.Max)=(if a.Max>b.Max then a.Max else b.Max);split<;>split<;>omega
theorem Xhl {a b c:X0b} (ha:0<=a.Count) (hb:0<=b.Count) (hc:0<=c.Count):X44 (X44 a b) c=X44 a (X44 b c):=by
 by_cases h1:a.Count=0
 ·have e:∀ x,X44 a x=x:=fun x=>by unfold X44;rw[if_pos h1]
  rw[e,e]
 ·by_cases h2:b.Count=0
  ·have e1:X44 a b=a:=by unfold X44;rw[if_neg h1,if_pos h2]
   have e2:X44 b c=c:=by unfold X44;rw[if_pos h2]
   rw[e1,e2]
  ·by_cases h3:c.Count=0
   ·have e:∀ x:X0b,x.Count≠0->X44 x c=x:=fun x hx=>by unfold X44;rw[if_neg hx,if_pos h3]
    have hab:(X44 a b).Count≠0:=by unfold X44;rw[if_neg h1,if_neg h2];show a.Count+b.Count≠0;omega
    rw[e _ hab,e _ h2]
   ·have e:∀ x y:X0b,x.Count≠0->y.Count≠0->X44 x y=⟨x.Count+y.Count,IntKind.i64.wrap (x.Sum+y.Sum),if y.Min<x.Min then y.Min else x.Min,if y.Max>x.Max then y.Max else x.Max⟩:=fun x y hx hy=>by unfold X44;rw[if_neg hx,if_neg hy]
    rw[e a b h1 h2,e b c h2 h3,e _ c (by show a.Count+b.Count≠0;omega) h3,e a _ h1 (by show b.Count+c.Count≠0;omega)]
    apply Xsx
    ·show a.Count+b.Count+c.Count=a.Count+(b.Count+c.Count);omega
    ·show IntKind.i64.wrap (IntKind.i64.wrap (a.Sum+b.Sum)+c.Sum)=IntKind.i64.wrap (a.Sum+IntKind.i64.wrap (b.Sum+c.Sum));rw[X0ax,X0aw,Int.add_assoc]
    ·dsimp only;repeat' split<;>first|rfl|omega
    ·dsimp only;repeat' split<;>first|rfl|omega
def Xgp (l:List Int):X0b:=l.foldl (fun a v=>X44 a (ofA v)) Xd3
theorem Xc2 (l:List Int) (v:Int):Xgp (l++[v])=X44 (Xgp l) (ofA v):=by unfold Xgp;rw[List.foldl_append];rfl
theorem Xqe:Xgp []=Xd3:=rfl
theorem Xgo (v:Int):Xgp [v]=ofA v:=Xl8 _
theorem X4f:∀ (l:List Int),(Xgp l).Count=l.length:=by
 have key:∀ (l:List Int) (a:X0b),0<=a.Count->(l.foldl (fun a v=>X44 a (ofA v)) a).Count=a.Count+l.length:=by
  intro l
  induction l with
  |nil=>intro a _;simp
  |cons v l ih =>
   intro a ha
   have h1:(X44 a (ofA v)).Count=a.Count+1:=by
    unfold X44
    by_cases h:a.Count=0
    ·rw[if_pos h,h];rfl
    ·rw[if_neg h,if_neg (by show ¬ (1:Int)=0;omega)];rfl
   rw[List.foldl_cons,ih _ (by omega),h1];simp;omega
 intro l
 rw[Xgp,key l Xd3 (Int.le_refl _)]
 show(0:Int)+_=_;omega
theorem Xn8:∀ {l:List Int},l.length<=1073741824->okA (Xgp l):=by
 have key:∀ (n:Nat) (l:List Int),l.length=n->n<=1073741824->okA (Xgp l):=by
  intro n
  induction n with
  |zero=>intro l hl _;rw[List.eq_nil_of_length_eq_zero hl];exact Xos
  |succ n ih =>
   intro l hl hn
   have hne:l≠[]:=fun h=>by rw[h] at hl;cases hl
   have hd:l.dropLast.length=n:=by rw[List.length_dropLast];omega
   rw[<-List.dropLast_concat_getLast hne,Xc2]
   refine X05r (ih _ hd (by omega)) (Xrc _) ?_
   rw[X4f,hd]
   show(n:Int)+1<=_;omega
 intro l h
 exact key l.length l rfl h
theorem X7t:∀ (b a:List Int),Xgp (a++b)=X44 (Xgp a) (Xgp b):=by
 have key:∀ (n:Nat) (b a:List Int),b.length=n->Xgp (a++b)=X44 (Xgp a) (Xgp b):=by
  intro n
  induction n with
  |zero =>
   intro b a hb
   rw[List.eq_nil_of_length_eq_zero hb,List.append_nil,Xqe]
   by_cases h0:(Xgp a).Count=0
   ·have:a=[]:=List.eq_nil_of_length_eq_zero (by rw[X4f] at h0;omega)
    rw[this];rfl
   ·unfold X44;rw[if_neg h0,if_pos (show Xd3.Count=0 from rfl)]
  |succ n ih =>
   intro b a hb
   have hne:b≠[]:=fun h=>by rw[h] at hb;cases hb
   have hd:b.dropLast.length=n:=by rw[List.length_dropLast];omega
   rw[<-List.dropLast_concat_getLast hne,<-List.append_assoc,Xc2,Xc2,ih _ _ hd]
   exact Xhl (by rw[X4f];omega) (by rw[X4f];omega) (by show(0:Int)<=1;decide)
 intro b a
 exact key b.length b a rfl
theorem Xsy {a b:List Int} (h:a.Perm b):a.length<=1073741824->Xgp a=Xgp b:=by
 induction h with
 |nil=>intro _;rfl
 |@cons x l1 l2 h ih =>
  intro hl
  have:=ih (by simp at hl;omega)
  rw[show x::l1=[x]++l1 from rfl,show x::l2=[x]++l2 from rfl,X7t,X7t,this]
 |swap x y l =>
  intro hl
  rw[show y::x::l=[y]++([x]++l) from rfl,show x::y::l=[x]++([y]++l) from rfl,X7t,X7t,X7t,X7t,Xgo,Xgo]
  rw[<-Xhl (by show(0:Int)<=1;decide) (by show(0:Int)<=1;decide) (by rw[X4f];omega),Xy2 (Xrc y) (Xrc x),Xhl (by show(0:Int)<=1;decide) (by show(0:Int)<=1;decide) (by rw[X4f];omega)]
 |trans h1 _ ih1 ih2=>intro hl;rw[ih1 hl,ih2 (by rw[<-h1.length_eq];exact hl)]
abbrev Pu:=X7×Int
def inS (s:Xr) (t:Int):Prop:=s.Start<=t/\t<s.End
instance (s:Xr) (t:Int):Decidable (inS s t):=by unfold inS;infer_instance
def vals (L:List Pu) (k:Int) (s:Xr) (side:Int):List Int:=(L.filter fun p=>decide (p.1.Key=k/\inS s p.1.Time/\p.2=side)).map fun p=>p.1.Value
def X60 (L:List Pu) (k t:Int):Prop:=∃ p∈L,p.1.Key=k/\p.1.Time=t
def Xmr (size every t:Int) (s:Xr):Prop:=s.Start % every=0/\s.End=s.Start+size/\inS s t
def cov (size:Int) (T:Int->Prop) (x:Int):Prop:=∃ t,T t/\2*t<x/\x<2*(t+size)
def Xff (size:Int) (T:Int->Prop) (s:Xr):Prop:=s.Start<s.End/\(∀ x,2*s.Start<x->x<2*s.End->cov size T x)/\¬ cov size T (2*s.Start)/\¬ cov size T (2*s.End)
def Xdo (w:X0l):Int:=if w.Kind=1 then w.Size else w.Every
def Xak (w:X0l) (T:Int->Prop) (s:Xr):Prop:=if w.Kind=3 then Xff w.Size T s else ∃ t,T t/\Xmr w.Size (Xdo w) t s
def Xaq (L:List Pu) (k:Int) (s:Xr):V2 X0b:=⟨Xgp (vals L k s 0),Xgp (vals L k s 1)⟩
def Xyz (w:X0l) (L:List Pu) (e:X8):Prop:=Xak w (X60 L e.Key) e.Span/\e.Values=Xaq L e.Key e.Span
structure X90 (w:X0l) (L:List Pu) (es:List X8):Prop where
 sorted:es.Pairwise ltE
 mem:∀ e,e∈es↔Xyz w L e
 cover:w.Kind=3->∀ k t,X60 L k t->∃ e∈es,e.Key=k/\e.Span.Start<=t/\t+w.Size<=e.Span.End
theorem Xx4:∀ {a b:List X8},a.Pairwise ltE->b.Pairwise ltE->(∀ e,e∈a↔e∈b)->a=b:=by
 intro a
 induction a with
 |nil =>
  intro b _ _ h
  cases b with
  |nil=>rfl
  |cons y b=>exact absurd ((h y).2 List.mem_cons_self) (by simp)
 |cons x a ih =>
  intro b ha hb h
  cases b with
  |nil=>exact absurd ((h x).1 List.mem_cons_self) (by simp)
  |cons y b =>
   rw[List.pairwise_cons] at ha hb
   have hxy:x=y:=by
    rcases List.mem_cons.1 ((h x).1 List.mem_cons_self) with h1|h1
    ·exact h1
    ·rcases List.mem_cons.1 ((h y).2 List.mem_cons_self) with h2|h2
     ·exact h2.symm
     ·exact absurd (hb.1 x h1) (X01a (ha.1 y h2))
   subst hxy
   rw[ih ha.2 hb.2]
   intro e
   constructor
   ·intro he
    rcases List.mem_cons.1 ((h e).1 (List.mem_cons_of_mem _ he)) with h1|h1
    ·subst h1;exact absurd (ha.1 e he) (Xji e)
    ·exact h1
   ·intro he
    rcases List.mem_cons.1 ((h e).2 (List.mem_cons_of_mem _ he)) with h1|h1
    ·subst h1;exact absurd (hb.1 e he) (Xji e)
    ·exact h1
theorem X90.unique {w:X0l} {L:List Pu} {a b:List X8} (ha:X90 w L a) (hb:X90 w L b):a=b:=Xx4 ha.sorted hb.sorted fun e=>by rw[ha.mem,hb.mem]
theorem Xov (L:List Pu) (k:Int) (s:Xr) (side:Int):(vals L k s side).length<=L.length:=by unfold vals;rw[List.length_map];exact List.length_filter_le _ _
end Go.D


namespace Go.D
theorem Xsm (x y:X05):X8r x y=decide (x=y):=by
 obtain⟨a,b,c,d,e⟩:=x
 obtain⟨f,g,h,i,j⟩:=y
 rw[Bool.eq_iff_iff]
 simp[X8r,and_assoc]
theorem Xp2 {α:Type} {l:List α} {k:Nat} (h:k<=l.length):X71 l 0 (k:Int)=some (l.take k):=by
 unfold X71;rw[if_pos ⟨by omega,by omega,by simpa using h⟩];simp
theorem Xj0 {α:Type} {l:List α} {k:Nat} (h:k<=l.length):X71 l (k:Int) (l.length:Int)=some (l.drop k):=by
 unfold X71;rw[if_pos ⟨by omega,by omega,by simp⟩]
 simp only[Int.toNat_natCast]
 rw[List.take_of_length_le (by rw[List.length_drop];exact Nat.le_refl _)]
def okN (x:X05) (a b:Int):Prop:=1<=x.Kind/\x.Kind<=19/\0<=x.N/\(x.N=0\/x.Kind=1)/\0<=x.At/\x.At<=400/\x.A=a/\x.B=b
instance (x:X05) (a b:Int):Decidable (okN x a b):=by unfold okN;infer_instance
theorem Xp4 (x:X05) (a b:Int):X7p x a b=some (decide (okN x a b)):=by
 unfold X7p okN
 congr 1
 rw[Bool.eq_iff_iff]
 by_cases h1:1<=x.Kind<;>by_cases h2:x.Kind<=19<;>by_cases h3:0<=x.N<;>by_cases h4:x.N=0<;>by_cases h5:0<=x.At<;>by_cases h6:x.At<=400<;>simp[h1,h2,h3,h4,h5,h6,and_assoc]
def nst (sd:List (Nat×Nat)) (x:X05):Option (Nat×Nat) :=
 if x.Kind<=4 then (if okN x 0 0 then some (1,1) else none)
 else match sd.getLast? with
  |none=>none
  |some (s2,d2) =>
   if x.Kind<=6 then (if okN x ((sd.length:Int) - 1) 0 then some (1+s2,1+d2) else none)
   else if sd.length - 1<s2 then none
   else match sd[sd.length - 1 - s2]? with
    |none=>none
    |some (s1,d1)=>if okN x ((sd.length:Int) - 1 - s2) ((sd.length:Int) - 1) then some (1+s2+s1,max (1+d2) (1+d1)) else none
def Xoe:List X05->List (Nat×Nat)->Option (List (Nat×Nat))
 |[],sd=>some sd
 |x::xs,sd=>match nst sd x with
  |some q=>Xoe xs (sd++[q])
  |none=>none
def Xaa (j:Nat) (q:Nat×Nat):Xo:=⟨(j:Int),(q.1:Int),(q.2:Int)⟩
inductive Xd2 (sd:List (Nat×Nat)):Nat->List Xo->Prop
 |nil:Xd2 sd 0 []
 |snoc {j:Nat} {q:Nat×Nat} {st:List Xo} (hq:sd[j]?=some q) (h1:1<=q.1) (h2:q.1<=j+1) (h3:q.2<=q.1) (h:Xd2 sd (j+1 - q.1) st):Xd2 sd (j+1) (st++[Xaa j q])
theorem Xd2.more {sd sd':List (Nat×Nat)} {k:Nat} {st:List Xo} (h:Xd2 sd k st) (hs:∀ j,j<k->sd'[j]?=sd[j]?):Xd2 sd' k st:=by
 induction h with
 |nil=>exact .nil
 |@snoc j q st hq h1 h2 h3 _ ih=>exact .snoc (by rw[hs j (by omega)];exact hq) h1 h2 h3 (ih fun i hi=>hs i (by omega))
theorem Xd2.app {sd e:List (Nat×Nat)} {k:Nat} {st:List Xo} (h:Xd2 sd k st) (hk:k<=sd.length):Xd2 (sd++e) k st:=h.more fun j hj=>List.getElem?_append_left (by omega)
theorem Xd2.len {sd:List (Nat×Nat)} {k:Nat} {st:List Xo} (h:Xd2 sd k st):st.length<=k:=by
 induction h with
 |nil=>simp
 |snoc hq h1 h2 h3 _ ih=>simp;omega
theorem Xn5 {k:Nat} (h:1<=k) (hk:k<=1000000):IntKind.i64.wrap ((k:Int) - 1)=((k - 1:Nat):Int):=by rw[X03 (by omega) (by omega)];omega
theorem X05i {x:X05} (h0:0<=x.Kind):Xbu x.Kind=some (if 1<=x.Kind/\x.Kind<=19 then ((if x.Kind<=4 then 0 else if x.Kind<=6 then 1 else 2),0) else (0,2)):=by
 unfold Xbu
 by_cases h1:1<=x.Kind
 ·by_cases h4:x.Kind<=4
  ·simp[h1,h4,show x.Kind<=19 by omega]
  ·by_cases h6:x.Kind<=6
   ·have:(bif x.Kind==5 then true else x.Kind==6)=true:=by
     rcases(by omega:x.Kind=5\/x.Kind=6) with h|h<;>simp[h]
    simp[h1,h4,h6,this,show x.Kind<=19 by omega]
   ·have e5:(bif x.Kind==5 then true else x.Kind==6)=false:=by
     have a:(x.Kind==5)=false:=by simp;omega
     have b:(x.Kind==6)=false:=by simp;omega
     rw[a,b];rfl
    by_cases h19:x.Kind<=19
    ·simp[h1,h4,h6,e5,h19,show(7:Int)<=x.Kind by omega]
    ·simp[h1,h4,h6,e5,h19]
 ·have e:x.Kind=0:=by omega
  simp[e]
theorem X00m {x : X05} {a b : Int} (h1 : 1 <= x.Kind) (h2 : x.Kind <= 19) :
    ((bif (x.Kind==(1:Int)) then (some (X05.mk x.Kind (if 0>x.N then 0 else x.N) a b (if 400<(if 0>x.At then 0 else x.At) then 400 else (if 0>x.At then 0 else x.At)))) else (some (X05.mk x.Kind 0 a b (if 400<(if 0>x.At then 0 else x.At) then 400 else (if 0>x.At then 0 else x.At)))):Option (X05)).bind fun o=>some (X8r o x))=some (decide (okN x a b)):=by
  obtain⟨K,N,A,B,At⟩:=x
  have hat:((if 400<(if 0>At then 0 else At) then 400 else (if 0>At then 0 else At))=At)↔(0<=At/\At<=400):=by
    by_cases g1:0>At
    · rw[if_pos g1];constructor
      · intro h;exfalso;split at h<;>omega
      · intro h;omega
    · rw[if_neg g1];split<;>omega
  have hn:((if 0>N then 0 else N)=N)↔0<=N:=by split<;>omega
  have key:∀ n':Int,(n'=N↔(0<=N/\(N=0\/K=1)))->(some (X8r (X05.mk K n' a b (if 400<(if 0>At then 0 else At) then 400 else (if 0>At then 0 else At))) ⟨K,N,A,B,At⟩):Option Bool)=some (decide (okN ⟨K,N,A,B,At⟩ a b)):=by
    intro n' hn'
    rw[Xsm]
    congr 1
    apply decide_eq_decide.2
    rw[X05.mk.injEq,hat,hn']
    unfold okN
    constructor
    · rintro⟨_,⟨g1,g2⟩,hA,hB,g3,g4⟩
      exact⟨h1,h2,g1,g2,g3,g4,hA.symm,hB.symm⟩
    · rintro⟨_,_,g1,g2,g3,g4,hA,hB⟩
      exact⟨rfl,⟨g1,g2⟩,hA.symm,hB.symm,g3,g4⟩
  by_cases hk:K=1
  · have:(K==1)=true:=by simp[hk]
    show(Option.bind (bif (K==1) then _ else _) _)=_
    rw[this,cond_true,Yo]
    exact key _ (by rw[hn];simp[hk])
  · have:(K==1)=false:=by simp[hk]
    show(Option.bind (bif (K==1) then _ else _) _)=_
    rw[this,cond_false,Yo]
    exact key _ (by constructor
                    · intro h;omega
                    · rintro⟨_,h⟩;rcases h with h|h<;>omega)
theorem Xqc {β:Type} {o:Option X05} {x:X05} {d:Bool} {f g:Option β} (h:(o.bind fun z=>some (X8r z x))=some d):(o.bind fun z=>bif (!(X8r z x)) then f else g)=bif d then g else f:=by
 cases o with
 |none=>cases h
 |some z =>
  simp only[Yo,Option.some.injEq] at h
  rw[Yo,h];cases d<;>rfl
def X7u (sd:List (Nat×Nat)):List Xo:=sd.mapIdx Xaa
theorem Xtf (sd:List (Nat×Nat)) (q:Nat×Nat):X7u (sd++[q])=X7u sd++[Xaa sd.length q]:=by unfold X7u;simp
theorem Xx2 (sd:List (Nat×Nat)):(X7u sd).length=sd.length:=by unfold X7u;simp
theorem Xd2.inv {sd:List (Nat×Nat)} {k:Nat} {st:List Xo} (h:Xd2 sd k st) (hk:0<k):∃ q st0,sd[k - 1]?=some q/\1<=q.1/\q.1<=k/\q.2<=q.1/\Xd2 sd (k - q.1) st0/\st=st0++[Xaa (k - 1) q]:=by
 cases h with
 |nil=>omega
 |@snoc j q st0 hq h1 h2 h3 h=>exact⟨q,st0,hq,h1,h2,h3,h,rfl⟩
theorem Xd2.zero {sd:List (Nat×Nat)} {st:List Xo} (h:Xd2 sd 0 st):st=[]:=by
 cases h;rfl
theorem X082 (Y : List X05) : ∀ (xs : List X05) (sd : List (Nat × Nat)) (st : List Xo), (∀ x ∈ xs, 0 <= x.Kind) -> sd.length + xs.length <= 1000 -> Xd2 sd sd.length st -> (∀ j q, sd[j]? = some q -> 1 <= q.1 /\ q.1 <= j + 1 /\ q.2 <= q.1) ->
    match Xoe xs sd with
    |some sd'=>∃ st',X2a Y xs sd.length (X7u sd) st=some (.x0 (X7u sd') st')/\Xd2 sd' sd'.length st'
    |none=>∃ all,X2a Y xs sd.length (X7u sd) st=some (.x1 all):=by
  intro xs
  induction xs with
  |nil=>intro sd st _ _ hc _;exact⟨st,rfl,hc⟩
  |cons x xs ih =>
    intro sd st h0 hn hc hb
    simp only[List.length_cons] at hn
    have hx:=h0 x List.mem_cons_self
    rw[X2a,X05i hx]
    have go : ∀ (q : Nat × Nat) (st0 : List Xo), nst sd x = some q -> Xd2 (sd ++ [q]) (sd.length + 1) (st0 ++ [Xaa sd.length q]) -> 1 <= q.1 -> q.1 <= sd.length + 1 -> q.2 <= q.1 ->
        (match Xoe (x::xs) sd with
          |some sd'=>∃ st',X2a Y xs (sd.length+1) (X7u sd++[Xaa sd.length q]) (st0++[Xaa sd.length q])=some (.x0 (X7u sd') st')/\Xd2 sd' sd'.length st'
          |none=>∃ all,X2a Y xs (sd.length+1) (X7u sd++[Xaa sd.length q]) (st0++[Xaa sd.length q])=some (.x1 all)):=by
      intro q st0 hq hc2 g1 g2 g3
      have:=ih (sd++[q]) (st0++[Xaa sd.length q]) (fun y hy=>h0 y (List.mem_cons_of_mem _ hy)) (by simp;omega) (by simpa using hc2) (fun j q' hj=>by
        rw[List.getElem?_append] at hj
        split at hj
        · exact hb j q' hj
        · rename_i hlt
          have:j=sd.length:=by
            have:=(Ys.1 hj).1;simp at this;omega
          subst this
          simp at hj;subst hj;exact⟨g1,g2,g3⟩)
      rw[Xtf,List.length_append] at this
      unfold Xoe
      rw[hq]
      exact this
    have stop:nst sd x=none->∀ {o:Option X6i},(∃ all,o=some (.x1 all))->(match Xoe (x::xs) sd with
          |some sd'=>∃ st',o=some (.x0 (X7u sd') st')/\Xd2 sd' sd'.length st'
          |none=>∃ all,o=some (.x1 all)):=by
      intro hq o h
      unfold Xoe
      rw[hq];exact h
    have cap:∀ (l:List Xo) (t:Xo),l.length<=2000->X1l (List.length (l++[t])) 24=some ():=fun l t hl=>X1y (by simp;omega)
    have hla:(X7u sd).length<=2000:=by unfold X7u;simp;omega
    have hst:=hc.len
    by_cases hr:1<=x.Kind/\x.Kind<=19
    · rw[if_pos hr]
      simp only[Yo,bne_self_eq_false,cond_false]
      by_cases h4:x.Kind<=4
      · -- no parts
        have e1:decide ((if x.Kind<=4 then (0:Int) else if x.Kind<=6 then 1 else 2)>(st.length:Int))=false:=by rw[if_pos h4];simp
        rw[e1,cond_false,if_pos h4]
        have e2:IntKind.i64.wrap ((st.length:Int) - 0)=(st.length:Int):=by rw[X03 (by omega) (by omega)];omega
        rw[e2,Xp2 (Nat.le_refl _),Xj0 (Nat.le_refl _),List.take_length,List.drop_length]
        simp only[Yo,List.isEmpty_nil,cond_true]
        rw[Xqc (X00m hr.1 hr.2)]
        by_cases hok:okN x 0 0
        · rw[Yt hok,cond_true,cap st _ (by omega),cap _ _ hla]
          exact go (1,1) st (by unfold nst;rw[if_pos h4,if_pos hok]) (.snoc (by simp) (Nat.le_refl _) (by omega) (Nat.le_refl _) (by simpa using hc.app (Nat.le_refl _))) (Nat.le_refl _) (by omega) (Nat.le_refl _)
        · rw[Yf hok,cond_false]
          exact stop (by unfold nst;rw[if_pos h4,if_neg hok]) ⟨_,rfl⟩
      · have hgl:0<sd.length->∃ q,sd.getLast?=some q/\sd[sd.length - 1]?=some q:=by
          intro h
          refine⟨sd[sd.length - 1]'(by omega),?_,?_⟩
          · rw[List.getLast?_eq_getElem?];exact Ye _
          · exact Ye _
        by_cases h6:x.Kind<=6
        · -- one part
          rw[if_neg h4,if_pos h6]
          by_cases hl:sd.length=0
          · rw[hl] at hc
            have:=hc.zero;subst this
            simp only[List.length_nil]
            exact stop (by unfold nst;rw[if_neg h4,List.eq_nil_of_length_eq_zero hl];rfl) ⟨_,rfl⟩
          · obtain⟨q,st0,hq,g1,g2,g3,hc0,rfl⟩:=hc.inv (by omega)
            obtain⟨q',hq1,hq2⟩:=hgl (by omega)
            rw[hq] at hq2;cases hq2
            have hs0:=hc0.len
            have e1:decide ((1:Int)>((st0++[Xaa (sd.length - 1) q]).length:Int))=false:=by simp;omega
            rw[e1,cond_false]
            have e2:IntKind.i64.wrap (((st0++[Xaa (sd.length - 1) q]).length:Int) - 1)=(st0.length:Int):=by
              rw[X03 (by rw[List.length_append,List.length_singleton];omega) (by rw[List.length_append,List.length_singleton];omega),List.length_append,List.length_singleton];omega
            rw[e2,Xp2 (by simp),Xj0 (by simp),List.take_left,List.drop_left]
            simp only[Yo,List.isEmpty_cons,cond_false,List.length_singleton]
            rw[show(((1:Nat):Int)==1)=true from rfl,cond_true]
            rw[show X1p [Xaa (sd.length - 1) q] 0=some (Xaa (sd.length - 1) q) from rfl,Yo]
            rw[Xqc (X00m hr.1 hr.2)]
            have ea:(Xaa (sd.length - 1) q).at_=(sd.length:Int) - 1:=by unfold Xaa;simp only;omega
            rw[ea]
            by_cases hok:okN x ((sd.length:Int) - 1) 0
            · have e3:(Xo.mk (sd.length:Int) (IntKind.i64.wrap (1+(Xaa (sd.length - 1) q).size)) (if (IntKind.i64.wrap ((Xaa (sd.length - 1) q).depth+1))>1 then (IntKind.i64.wrap ((Xaa (sd.length - 1) q).depth+1)) else 1))=Xaa sd.length (1+q.1,1+q.2):=by
                unfold Xaa
                simp only
                rw[X03 (by omega) (by omega),X03 (by omega) (by omega)]
                congr 1
                split<;>omega
              rw[Yt hok,cond_true,e3,cap st0 _ (by omega),cap _ _ hla]
              refine go (1+q.1,1+q.2) st0 (by unfold nst;rw[if_neg h4,hq1];simp only;rw[if_pos h6,if_pos hok]) (.snoc (by simp) (by simp only;omega) (by simp only;omega) (by simp only;omega) ?_) (by simp only;omega) (by simp only;omega) (by simp only;omega)
              have:=hc0.app (e:=[(1+q.1,1+q.2)]) (by omega)
              simp only
              rw[show sd.length+1 - (1+q.1)=sd.length - q.1 by omega];exact this
            · rw[Yf hok,cond_false]
              exact stop (by unfold nst;rw[if_neg h4,hq1];simp only;rw[if_pos h6,if_neg hok]) ⟨_,rfl⟩
        · -- two parts
          rw[if_neg h4,if_neg h6]
          by_cases hl:sd.length=0
          · rw[hl] at hc
            have:=hc.zero;subst this
            simp only[List.length_nil]
            exact stop (by unfold nst;rw[if_neg h4,List.eq_nil_of_length_eq_zero hl];rfl) ⟨_,rfl⟩
          · obtain⟨q,st1,hq,g1,g2,g3,hc1,rfl⟩:=hc.inv (by omega)
            obtain⟨q',hq1,hq2⟩:=hgl (by omega)
            rw[hq] at hq2;cases hq2
            by_cases hl1:sd.length - q.1=0
            · rw[hl1] at hc1
              have:=hc1.zero;subst this
              exact stop (by unfold nst;rw[if_neg h4,hq1];simp only;rw[if_neg h6,if_pos (by omega)]) ⟨_,rfl⟩
            · obtain⟨p,st0,hp,f1,f2,f3,hc0,rfl⟩:=hc1.inv (by omega)
              have hs0:=hc0.len
              rw[List.append_assoc]
              have e1:decide ((2:Int)>((st0++([Xaa (sd.length - q.1 - 1) p]++[Xaa (sd.length - 1) q])).length:Int))=false:=by simp;omega
              rw[e1,cond_false]
              have e2:IntKind.i64.wrap (((st0++([Xaa (sd.length - q.1 - 1) p]++[Xaa (sd.length - 1) q])).length:Int) - 2)=(st0.length:Int):=by
                rw[X03 (by simp only[List.length_append,List.length_singleton];omega) (by simp only[List.length_append,List.length_singleton];omega)];simp only[List.length_append,List.length_singleton];omega
              rw[e2,Xp2 (by simp),Xj0 (by simp),List.take_left,List.drop_left]
              simp only[Yo,List.singleton_append,List.isEmpty_cons,cond_false,List.length_cons,List.length_nil]
              rw[show((((0:Nat)+1+1:Nat):Int)==1)=false from rfl,show((((0:Nat)+1+1:Nat):Int)==2)=true from rfl,cond_false,cond_true]
              rw[show X1p [Xaa (sd.length - q.1 - 1) p,Xaa (sd.length - 1) q] 0=some (Xaa (sd.length - q.1 - 1) p) from rfl,show X1p [Xaa (sd.length - q.1 - 1) p,Xaa (sd.length - 1) q] 1=some (Xaa (sd.length - 1) q) from rfl,Yo,Yo]
              rw[Xqc (X00m hr.1 hr.2)]
              have ea:(Xaa (sd.length - 1) q).at_=(sd.length:Int) - 1:=by unfold Xaa;simp only;omega
              have eb:(Xaa (sd.length - q.1 - 1) p).at_=(sd.length:Int) - 1 - q.1:=by unfold Xaa;simp only;omega
              rw[ea,eb]
              have hp':sd[sd.length - 1 - q.1]?=some p:=by rw[show sd.length - 1 - q.1=sd.length - q.1 - 1 by omega];exact hp
              by_cases hok:okN x ((sd.length:Int) - 1 - q.1) ((sd.length:Int) - 1)
              · have e3:(Xo.mk (sd.length:Int) (IntKind.i64.wrap ((IntKind.i64.wrap (1+(Xaa (sd.length - q.1 - 1) p).size))+(Xaa (sd.length - 1) q).size)) (if (IntKind.i64.wrap ((Xaa (sd.length - 1) q).depth+1))>(if (IntKind.i64.wrap ((Xaa (sd.length - q.1 - 1) p).depth+1))>1 then (IntKind.i64.wrap ((Xaa (sd.length - q.1 - 1) p).depth+1)) else 1) then (IntKind.i64.wrap ((Xaa (sd.length - 1) q).depth+1)) else (if (IntKind.i64.wrap ((Xaa (sd.length - q.1 - 1) p).depth+1))>1 then (IntKind.i64.wrap ((Xaa (sd.length - q.1 - 1) p).depth+1)) else 1)))=Xaa sd.length (1+q.1+p.1,max (1+q.2) (1+p.2)):=by
                  unfold Xaa
                  simp only
                  rw[X03 (z:=1+(p.1:Int)) (by omega) (by omega),X03 (by omega) (by omega),X03 (by omega) (by omega),X03 (by omega) (by omega)]
                  congr 1
                  · push_cast;omega
                  · split<;>split<;>omega
                rw[Yt hok,cond_true,e3,cap st0 _ (by omega),cap _ _ hla]
                refine go (1+q.1+p.1,max (1+q.2) (1+p.2)) st0 (by unfold nst;rw[if_neg h4,hq1];simp only;rw[if_neg h6,if_neg (by omega),hp'];simp only;rw[if_pos hok]) (.snoc (by simp) (by simp only;omega) (by simp only;omega) (by simp only;omega) ?_) (by simp only;omega) (by simp only;omega) (by simp only;omega)
                have:=hc0.app (e:=[(1+q.1+p.1,max (1+q.2) (1+p.2))]) (by omega)
                simp only
                rw[show sd.length+1 - (1+q.1+p.1)=sd.length - q.1 - p.1 by omega];exact this
              · rw[Yf hok,cond_false]
                exact stop (by unfold nst;rw[if_neg h4,hq1];simp only;rw[if_neg h6,if_neg (by omega),hp'];simp only;rw[if_neg hok]) ⟨_,rfl⟩
    · rw[if_neg hr]
      have hno:nst sd x=none:=by
        have no:∀ a b,¬ okN x a b:=fun a b h=>hr ⟨h.1,h.2.1⟩
        unfold nst
        simp only[no,if_false]
        split
        · rfl
        · split
          · rfl
          · split
            · rfl
            · split
              · rfl
              · split<;>rfl
      exact stop hno ⟨_,rfl⟩
def Xcy (l:List X05):Int :=
 if l.length>60 then 4 else match Xoe l [] with
  |none=>8
  |some sd=>match sd.getLast? with
   |none=>8
   |some q=>if q.1=l.length then (if q.2>20 then 34 else 0) else 8
theorem Xl4:∀ (xs:List X05) (sd sd':List (Nat×Nat)),Xoe xs sd=some sd'->sd'.length=sd.length+xs.length
 |[],sd,sd',h=>by cases h;simp
 |x::xs,sd,sd',h=>by
  unfold Xoe at h
  split at h
  ·have:=Xl4 xs _ _ h;simp at this;simp;omega
  ·cases h
theorem Xx3 {sd:List (Nat×Nat)} {i:Nat} {q:Nat×Nat} (h:sd[i]?=some q):X1p (X7u sd) (i:Int)=some (Xaa i q):=by
 rw[X3i];unfold X7u;rw[List.getElem?_mapIdx,h];rfl
theorem Xnr {l:List X05} (h0:∀ x∈l,0<=x.Kind):∃ t,Xbt l=some (t,Xcy l)/\(Xcy l=0->∃ sd,Xoe l []=some sd/\t=X7u sd):=by
 unfold Xbt Xcy
 by_cases h60:l.length>60
 ·rw[Yt (show(l.length:Int)>60 by omega),cond_true,if_pos h60];exact⟨_,rfl,by omega⟩
 ·rw[Yf (show ¬ (l.length:Int)>60 by omega),cond_false,if_neg h60]
  have hL:=X082 l l [] [] h0 (by simp;omega) .nil (by simp)
  unfold Xge
  rw[X19 (by omega)]
  cases hr:Xoe l [] with
  |none =>
   rw[hr] at hL
   obtain⟨all,hL⟩:=hL
   simp only[List.length_nil] at hL
   rw[show X7u []=[] from rfl] at hL
   rw[hL]
   exact⟨_,rfl,by simp⟩
  |some sd =>
   rw[hr] at hL
   obtain⟨st,hL,hc⟩:=hL
   simp only[List.length_nil] at hL
   rw[show X7u []=[] from rfl] at hL
   rw[hL]
   have hn:=Xl4 l [] sd hr
   simp only[List.length_nil,Nat.zero_add] at hn
   simp only[Yo]
   by_cases hz:sd.length=0
   ·have:sd=[]:=List.eq_nil_of_length_eq_zero hz
    subst this
    have:=hc.zero;subst this
    exact⟨_,rfl,by simp⟩
   ·obtain⟨q,st0,hq,g1,g2,g3,hc0,rfl⟩:=hc.inv (by omega)
    have hg:sd.getLast?=some q:=by rw[List.getLast?_eq_getElem?];exact hq
    rw[hg]
    simp only
    have hst:(((st0++[Xaa (sd.length - 1) q]).length:Int)==1)=decide (q.1=l.length):=by
     rw[Bool.eq_iff_iff]
     simp only[List.length_append,List.length_singleton,beq_iff_eq,decide_eq_true_eq]
     constructor
     ·intro h
      have h1:st0.length=0:=by omega
      by_cases hk:sd.length - q.1=0
      ·omega
      ·obtain⟨_,s1,_,_,_,_,_,rfl⟩:=hc0.inv (by omega)
       simp at h1
     ·intro h
      rw[show sd.length - q.1=0 by omega] at hc0
      rw[hc0.zero];rfl
    rw[hst]
    by_cases he:q.1=l.length
    ·rw[Yt he,if_pos he]
     simp only[Bool.not_true,cond_false]
     rw[show IntKind.i64.wrap (((X7u sd).length:Int) - 1)=((sd.length - 1:Nat):Int) by rw[Xx2,Xn5 (by omega) (by omega)]]
     rw[Xx3 hq,Yo]
     by_cases hd:q.2>20
     ·rw[if_pos hd,show decide ((Xaa (sd.length - 1) q).depth>20)=true from Yt (by unfold Xaa;simp only;omega)]
      exact⟨_,rfl,by simp⟩
     ·rw[if_neg hd,show decide ((Xaa (sd.length - 1) q).depth>20)=false from Yf (by unfold Xaa;simp only;omega)]
      exact⟨_,rfl,fun _=>⟨sd,rfl,rfl⟩⟩
    ·rw[Yf he,if_neg he]
     exact⟨_,rfl,by simp⟩
theorem Xcx {l:List X05} (h0:∀ x∈l,0<=x.Kind):X6j l=some (Xcy l):=by
 obtain⟨t,h,_⟩:=Xnr h0
 unfold X6j;rw[h];rfl
def szs (sd:List (Nat×Nat)):List Int:=sd.map fun q=>(q.1:Int)
def dps (sd:List (Nat×Nat)):List Int:=sd.map fun q=>(q.2:Int)
theorem Xtg {sd:List (Nat×Nat)} {i:Nat} {q:Nat×Nat} (h:sd[i]?=some q):X1p (szs sd) (i:Int)=some (q.1:Int):=by
 rw[X3i];unfold szs;rw[List.getElem?_map,h];rfl
theorem Xvg {sd:List (Nat×Nat)} {i:Nat} {q:Nat×Nat} (h:sd[i]?=some q):X1p (dps sd) (i:Int)=some (q.2:Int):=by
 rw[X3i];unfold dps;rw[List.getElem?_map,h];rfl
theorem X04y (Y : List X05) : ∀ (xs : List X05) (sd : List (Nat × Nat)), sd.length + xs.length <= 1000 -> (∀ j q, sd[j]? = some q -> 1 <= q.1 /\ q.1 <= j + 1 /\ q.2 <= q.1) ->
    match Xoe xs sd with
    |some sd'=>X1r Y xs sd.length (szs sd) (dps sd)=some (.x0 (szs sd') (dps sd'))
    |none=>X1r Y xs sd.length (szs sd) (dps sd)=some (.x1 [] []):=by
  intro xs
  induction xs with
  |nil=>intro sd _ _;rfl
  |cons x xs ih =>
    intro sd hn hb
    simp only[List.length_cons] at hn
    rw[X1r]
    have go : ∀ (q : Nat × Nat), nst sd x = some q -> 1 <= q.1 -> q.1 <= sd.length + 1 -> q.2 <= q.1 ->
        (match Xoe (x::xs) sd with
          |some sd'=>X1r Y xs (sd.length+1) (szs sd++[(q.1:Int)]) (dps sd++[(q.2:Int)])=some (.x0 (szs sd') (dps sd'))
          |none=>X1r Y xs (sd.length+1) (szs sd++[(q.1:Int)]) (dps sd++[(q.2:Int)])=some (.x1 [] [])):=by
      intro q hq g1 g2 g3
      have:=ih (sd++[q]) (by simp;omega) (fun j q' hj=>by
        rw[List.getElem?_append] at hj
        split at hj
        · exact hb j q' hj
        · rename_i hlt
          have:j=sd.length:=by
            have:=(Ys.1 hj).1;simp at this;omega
          subst this
          simp at hj;subst hj;exact⟨g1,g2,g3⟩)
      rw[List.length_append] at this
      unfold Xoe
      rw[hq]
      unfold szs dps at this ⊢
      rw[List.map_append,List.map_append] at this
      exact this
    have stop:nst sd x=none->∀ {o:Option X5u},o=some (.x1 [] [])->(match Xoe (x::xs) sd with
          |some sd'=>o=some (.x0 (szs sd') (dps sd'))
          |none=>o=some (.x1 [] [])):=by
      intro hq o h
      unfold Xoe
      rw[hq];exact h
    have cap:∀ (l:List Int) (t:Int),l.length<=2000->X1l (List.length (l++[t])) 8=some ():=fun l t hl=>X1y (by simp;omega)
    have hls:(szs sd).length<=2000:=by unfold szs;simp;omega
    have hld:(dps sd).length<=2000:=by unfold dps;simp;omega
    unfold X2k
    by_cases h4:x.Kind<=4
    · rw[Yt h4,cond_true]
      simp only[Yo]
      rw[show decide ((0:Int)>0)=false from rfl,cond_false,Xp4,Yo]
      by_cases hok:okN x 0 0
      · rw[Yt hok,Bool.not_true,cond_false,cap _ _ hls,cap _ _ hld]
        exact go (1,1) (by unfold nst;rw[if_pos h4,if_pos hok]) (Nat.le_refl _) (by omega) (Nat.le_refl _)
      · rw[Yf hok,Bool.not_false,cond_true]
        exact stop (by unfold nst;rw[if_pos h4,if_neg hok]) rfl
    · rw[Yf h4,cond_false]
      have hgl:0<sd.length->∃ q,sd.getLast?=some q/\sd[sd.length - 1]?=some q:=by
        intro h
        refine⟨sd[sd.length - 1]'(by omega),?_,?_⟩
        · rw[List.getLast?_eq_getElem?];exact Ye _
        · exact Ye _
      by_cases hl:sd.length=0
      · have hnil:=List.eq_nil_of_length_eq_zero hl
        refine stop (by unfold nst;rw[if_neg h4,hnil];rfl) ?_
        rw[hl]
        by_cases h6:x.Kind<=6
        · rw[Yt h6];rfl
        · rw[Yf h6];rfl
      · obtain⟨q,hq1,hq⟩:=hgl (by omega)
        obtain⟨g1,g2,g3⟩:=hb _ _ hq
        have hw:IntKind.i64.wrap ((sd.length:Int) - 1)=((sd.length - 1:Nat):Int):=Xn5 (by omega) (by omega)
        rw[hw]
        rw[show decide (((sd.length - 1:Nat):Int)<0)=false from Yf (by omega),Xtg hq,Xvg hq]
        simp only[cond_false]
        by_cases h6:x.Kind<=6
        · rw[Yt h6,cond_true]
          simp only[Yo]
          rw[show decide ((1:Int)>0)=true from rfl,cond_true,show((1:Int)==2)=false from rfl,cond_false,Xp4,Yo]
          rw[show((sd.length - 1:Nat):Int)=(sd.length:Int) - 1 by omega]
          by_cases hok:okN x ((sd.length:Int) - 1) 0
          · rw[Yt hok,Bool.not_true,cond_false,cap _ _ hls,cap _ _ hld]
            rw[X03 (by omega) (by omega),X03 (by omega) (by omega)]
            have:=go (1+q.1,1+q.2) (by unfold nst;rw[if_neg h4,hq1];simp only;rw[if_pos h6,if_pos hok]) (by simp only;omega) (by simp only;omega) (by simp only;omega)
            simp only at this
            push_cast at this
            exact this
          · rw[Yf hok,Bool.not_false,cond_true]
            exact stop (by unfold nst;rw[if_neg h4,hq1];simp only;rw[if_pos h6,if_neg hok]) rfl
        · rw[Yf h6,cond_false]
          simp only[Yo]
          rw[show decide ((2:Int)>0)=true from rfl,cond_true,show((2:Int)==2)=true from rfl,cond_true]
          have hw2:IntKind.i64.wrap (((sd.length - 1:Nat):Int) - q.1)=(sd.length:Int) - 1 - q.1:=by rw[X03 (by omega) (by omega)];omega
          rw[hw2]
          by_cases hlt:sd.length - 1<q.1
          · rw[show decide ((sd.length:Int) - 1 - q.1<0)=true from Yt (by omega),cond_true]
            exact stop (by unfold nst;rw[if_neg h4,hq1];simp only;rw[if_neg h6,if_pos hlt]) rfl
          · rw[show decide ((sd.length:Int) - 1 - q.1<0)=false from Yf (by omega),cond_false]
            have hpe:sd[sd.length - 1 - q.1]?=some (sd[sd.length - 1 - q.1]'(by omega)):=Ye _
            generalize sd[sd.length - 1 - q.1]'(by omega)=p at hpe
            obtain⟨f1,f2,f3⟩:=hb _ _ hpe
            rw[show(sd.length:Int) - 1 - q.1=((sd.length - 1 - q.1:Nat):Int) by omega,Xtg hpe,Xvg hpe]
            simp only[Yo]
            rw[Xp4,Yo]
            rw[show((sd.length - 1 - q.1:Nat):Int)=(sd.length:Int) - 1 - q.1 by omega,show((sd.length - 1:Nat):Int)=(sd.length:Int) - 1 by omega]
            by_cases hok:okN x ((sd.length:Int) - 1 - q.1) ((sd.length:Int) - 1)
            · rw[Yt hok,Bool.not_true,cond_false,cap _ _ hls,cap _ _ hld]
              rw[X03 (z:=1+(q.1:Int)) (by omega) (by omega),X03 (z:=1+(q.1:Int)+p.1) (by omega) (by omega),X03 (by omega) (by omega),X03 (by omega) (by omega)]
              have:=go (1+q.1+p.1,max (1+q.2) (1+p.2)) (by unfold nst;rw[if_neg h4,hq1];simp only;rw[if_neg h6,if_neg hlt,hpe];simp only;rw[if_pos hok]) (by simp only;omega) (by simp only;omega) (by simp only;omega)
              simp only at this
              rw[show((1+q.1+p.1:Nat):Int)=1+(q.1:Int)+p.1 by omega,show((max (1+q.2) (1+p.2):Nat):Int)=(if 1+(p.2:Int)>1+q.2 then 1+(p.2:Int) else 1+q.2) by split<;>omega] at this
              exact this
            · rw[Yf hok,Bool.not_false,cond_true]
              exact stop (by unfold nst;rw[if_neg h4,hq1];simp only;rw[if_neg h6,if_neg hlt,hpe];simp only;rw[if_neg hok]) rfl
theorem Xcv {l:List X05}:X5j l=some (Xcy l):=by
 unfold X5j Xcy
 by_cases h60:l.length>60
 ·rw[Yt (show(l.length:Int)>60 by omega),cond_true,if_pos h60]
 ·rw[Yf (show ¬ (l.length:Int)>60 by omega),cond_false,if_neg h60]
  have hL:=X04y l l [] (by simp;omega) (by simp)
  unfold Xe1
  rw[X19 (by omega)]
  cases hr:Xoe l [] with
  |none =>
   rw[hr] at hL
   simp only[List.length_nil] at hL
   rw[show szs []=[] from rfl,show dps []=[] from rfl] at hL
   rw[Yo,hL];rfl
  |some sd =>
   rw[hr] at hL
   simp only[List.length_nil] at hL
   rw[show szs []=[] from rfl,show dps []=[] from rfl] at hL
   rw[Yo,hL]
   have hn:=Xl4 l [] sd hr
   simp only[List.length_nil,Nat.zero_add] at hn
   simp only[Yo]
   by_cases hz:l.length=0
   ·rw[List.eq_nil_of_length_eq_zero (hn.trans hz),List.eq_nil_of_length_eq_zero hz];rfl
   ·have hq:sd[sd.length - 1]?=some (sd[sd.length - 1]'(by omega)):=Ye _
    generalize sd[sd.length - 1]'(by omega)=q at hq
    have hg:sd.getLast?=some q:=by rw[List.getLast?_eq_getElem?];exact hq
    rw[hg]
    have hw:IntKind.i64.wrap ((l.length:Int) - 1)=((sd.length - 1:Nat):Int):=by rw[<-hn];exact Xn5 (by omega) (by omega)
    rw[show decide ((l.length:Int)>0)=true from Yt (by omega),cond_true,hw,Xtg hq]
    simp only[Yo,cond_true]
    rw[Xvg hq]
    by_cases he:q.1=l.length
    ·rw[if_pos he,show((q.1:Int)==(l.length:Int))=true by rw[he];simp,Bool.not_true,cond_false]
     by_cases hd:q.2>20
     ·rw[if_pos hd,Yo,Yt (show(q.2:Int)>20 by omega)];rfl
     ·rw[if_neg hd,Yo,Yf (show ¬ (q.2:Int)>20 by omega)];rfl
    ·rw[if_neg he,show((q.1:Int)==(l.length:Int))=false by simp;omega,Bool.not_false,cond_true]
end Go.D


namespace Go.D
theorem X0b7 {sd:List (Nat×Nat)} {x:X05} {q:Nat×Nat} (h:nst sd x=some q):∃ a b,okN x a b/\(x.Kind<=4->a=0/\b=0)/\(5<=x.Kind->0<sd.length/\(x.Kind<=6->a=(sd.length:Int) - 1/\b=0)/\(7<=x.Kind->0<=a/\a<=(sd.length:Int) - 1/\b=(sd.length:Int) - 1)):=by
 unfold nst at h
 split at h
 ·rename_i h4
  split at h
  ·rename_i ho;exact⟨0,0,ho,fun _=>⟨rfl,rfl⟩,fun h5=>by omega⟩
  ·cases h
 ·rename_i h4
  split at h
  ·cases h
  ·rename_i s2 d2 hg
   have hl:0<sd.length:=by
    cases sd with
    |nil=>cases hg
    |cons=>simp
   split at h
   ·rename_i h6
    split at h
    ·rename_i ho;exact⟨_,_,ho,fun h4'=>absurd h4' h4,fun _=>⟨hl,fun _=>⟨rfl,rfl⟩,fun h7=>by omega⟩⟩
    ·cases h
   ·rename_i h6
    split at h
    ·cases h
    ·rename_i hlt
     split at h
     ·cases h
     ·split at h
      ·rename_i ho;exact⟨_,_,ho,fun h4'=>absurd h4' h4,fun _=>⟨hl,fun h6'=>absurd h6' h6,fun _=>⟨by omega,by omega,rfl⟩⟩⟩
      ·cases h
structure Xkd (x:X05) (k:Nat):Prop where
 lo:1<=x.Kind
 hi:x.Kind<=19
 leaf:x.Kind<=4->x.A=0/\x.B=0
 a0:0<=x.A
 b0:0<=x.B
 ak:5<=x.Kind->x.A<k
 b1:5<=x.Kind->x.Kind<=6->x.B=0
 bk:5<=x.Kind->x.B<k
 n0:0<=x.N
 nk:x.N=0\/x.Kind=1
 at0:0<=x.At
 at1:x.At<=400
theorem X00p:∀ (xs:List X05) (sd sd':List (Nat×Nat)),Xoe xs sd=some sd'->∀ j x,xs[j]?=some x->Xkd x (sd.length+j)
 |[],sd,sd',h,j,x,hj=>by simp at hj
 |y::ys,sd,sd',h,j,x,hj=>by
  unfold Xoe at h
  split at h
  ·rename_i q hq
   cases j with
   |zero =>
    simp at hj;subst hj
    obtain⟨a,b,ho,h4,h5⟩:=X0b7 hq
    obtain⟨o1,o2,o3,o4,o5,o6,rfl,rfl⟩:=ho
    refine⟨o1,o2,h4,?_,?_,?_,?_,?_,o3,o4,o5,o6⟩
    all_goals
     by_cases h4':y.Kind<=4
     ·have:=h4 h4';omega
     ·have h5':=h5 (by omega)
      by_cases h6:y.Kind<=6
      ·have:=h5'.2.1 h6;omega
      ·have:=h5'.2.2 (by omega);omega
   |succ j =>
    have:=X00p ys _ _ h j x (by simpa using hj)
    rw[List.length_append,List.length_singleton] at this
    rw[show sd.length+(j+1)=sd.length+1+j by omega];exact this
  ·cases h
def giv (K:Int):Bool:=(K==6)||decide (12<=K)
theorem Xq1 (K:Int):X7o K=some (giv K):=by
 unfold X7o giv
 congr 1
def X3z (l:List X05) (i:Int):Int:=match X1p l i with|some e=>e.Kind|none=>0
def Xqh (l:List X05) (x:X05):Bool :=
 if x.Kind<=4 then true
 else if x.Kind=5 then !(giv (X3z l x.A))
 else if x.Kind=6 then giv (X3z l x.A)
 else if x.Kind<=15 then !(giv (X3z l x.A))&&!(giv (X3z l x.B))
 else if x.Kind<=17 then (giv (X3z l x.A))==(giv (X3z l x.B))
 else giv (X3z l x.A)&&giv (X3z l x.B)
def wrN (l:List X05):List X05->Nat->Option Nat
 |[],_=>none
 |x::xs,k=>if Xqh l x then wrN l xs (k+1) else some k
theorem Xfu {α:Type} {l:List α} {i:Int} (h0:0<=i) (h1:i<l.length):∃ e,X1p l i=some e/\l[i.toNat]?=some e:=by
 obtain⟨n,rfl⟩:∃ n:Nat,i=n:=⟨i.toNat,by omega⟩
 exact⟨l[n]'(by omega),by rw[X3i];exact Ye _,by simp⟩
theorem Xe9 {l:List X05} {i:Int} (h0:0<=i) (h1:i<l.length):∃ e,X1p l i=some e/\X3z l i=e.Kind:=by
 obtain⟨e,h,_⟩:=Xfu h0 h1
 exact⟨e,h,by unfold X3z;rw[h]⟩
theorem X09z {l:List X05} {x:X05} {k:Nat} (hk:l[k]?=some x) (ho:Xkd x k):Xdf l (k:Int)=some (Xqh l x):=by
 have hlt:=(Ys.1 hk).1
 have hA:x.A<l.length:=by
  by_cases h:x.Kind<=4
  ·have:=(ho.leaf h).1;omega
  ·have:=ho.ak (by omega);omega
 have hB:x.B<l.length:=by
  by_cases h:x.Kind<=4
  ·have:=(ho.leaf h).2;omega
  ·have:=ho.bk (by omega);omega
 obtain⟨a,ha,hka⟩:=Xe9 ho.a0 hA
 obtain⟨b,hb,hkb⟩:=Xe9 ho.b0 hB
 unfold Xdf Xqh
 rw[X3i,hk,Yo,ha,Yo,hb,Xq1,Yo,Yo,Xq1,Yo,hka,hkb]
 have h1:=ho.lo
 have h2:=ho.hi
 by_cases h4:x.Kind<=4
 ·rw[if_pos h4,Yt h4];rfl
 ·rw[if_neg h4,Yf h4,cond_false]
  by_cases h5:x.Kind=5
  ·rw[if_pos h5,show(x.Kind==5)=true by simp[h5]];rfl
  ·rw[if_neg h5,show(x.Kind==5)=false by simp[h5],cond_false]
   by_cases h6:x.Kind=6
   ·rw[if_pos h6,show(x.Kind==6)=true by simp[h6]];rfl
   ·rw[if_neg h6,show(x.Kind==6)=false by simp[h6],cond_false]
    by_cases h15:x.Kind<=15
    ·rw[if_pos h15,show(bif (x.Kind==16) then true else (x.Kind==17))=false by rw[show(x.Kind==16)=false by simp;omega,show(x.Kind==17)=false by simp;omega];rfl,Yf (show ¬ x.Kind >= 18 by omega)]
     cases giv a.Kind<;>cases giv b.Kind<;>rfl
    ·rw[if_neg h15]
     by_cases h17:x.Kind<=17
     ·rw[if_pos h17,show(bif (x.Kind==16) then true else (x.Kind==17))=true by rcases(by omega:x.Kind=16\/x.Kind=17) with h|h<;>simp[h]];rfl
     ·rw[if_neg h17,show(bif (x.Kind==16) then true else (x.Kind==17))=false by rw[show(x.Kind==16)=false by simp;omega,show(x.Kind==17)=false by simp;omega];rfl,Yt (show x.Kind >= 18 by omega)]
      cases giv a.Kind<;>cases giv b.Kind<;>rfl
theorem Xvr {l:List X05} (ho:∀ j x,l[j]?=some x->Xkd x j):∀ (xs:List X05) (k:Nat),l.drop k=xs->X4z l xs k=some (match wrN l xs k with|none=>.x0|some j=>.x1 (j:Int))
 |[],k,_=>rfl
 |x::xs,k,h=>by
  have hk:l[k]?=some x:=by
   have:(l.drop k)[0]?=some x:=by rw[h];rfl
   simpa using this
  have hd:l.drop (k+1)=xs:=by
   have:(l.drop k).drop 1=xs:=by rw[h];rfl
   rw[List.drop_drop] at this;exact this
  rw[X4z,X09z hk (ho k x hk),Yo,wrN]
  cases Xqh l x with
  |true=>exact Xvr ho xs (k+1) hd
  |false=>rfl
def gvs (l:List X05) (k:Nat):List Bool:=(l.take k).map fun e=>giv e.Kind
theorem Xvb {l:List X05} {k:Nat} (hk:k<=l.length) {i:Int} (h0:0<=i) (h1:i<k):X1p (gvs l k) i=some (giv (X3z l i)):=by
 obtain⟨e,he,hke⟩:=Xe9 (l:=l) h0 (by omega)
 have hi:(i.toNat:Int)=i:=by omega
 rw[hke,<-hi,X3i]
 rw[<-hi,X3i] at he
 unfold gvs
 rw[List.getElem?_map,List.getElem?_take_of_lt (by omega),he];rfl
theorem Xwh {l:List X05} {k:Nat} {x:X05} (hk:l[k]?=some x):gvs l (k+1)=gvs l k++[giv x.Kind]:=by
 unfold gvs
 rw[List.take_add_one,hk,List.map_append];rfl
theorem Xzu {l:List X05} (hn:l.length<=1000) (ho:∀ j x,l[j]?=some x->Xkd x j):∀ (xs:List X05) (k:Nat),l.drop k=xs->X1w l xs k (gvs l k)=some (match wrN l xs k with|none=>.x0 (gvs l l.length)|some j=>.x1 [] (j:Int))
 |[],k,h=>by
  have:l.length<=k:=by
   have:=congrArg List.length h;simp at this;omega
  rw[X1w,wrN]
  unfold gvs
  rw[List.take_of_length_le this,List.take_length]
 |x::xs,k,h=>by
  have hk:l[k]?=some x:=by
   have:(l.drop k)[0]?=some x:=by rw[h];rfl
   simpa using this
  have hd:l.drop (k+1)=xs:=by
   have:(l.drop k).drop 1=xs:=by rw[h];rfl
   rw[List.drop_drop] at this;exact this
  have hlt:=(Ys.1 hk).1
  have hox:=ho k x hk
  have ih:=Xzu hn ho xs (k+1) hd
  have h1:=hox.lo
  have h2:=hox.hi
  have cap:∀ b,X1l (List.length (gvs l k++[b])) 1=some ():=fun b=>X1y (by unfold gvs;simp;omega)
  have go:giv x.Kind=false->Xqh l x=true->X1w l xs (k+1) (gvs l k++[false])=some (match wrN l (x::xs) k with|none=>.x0 (gvs l l.length)|some j=>.x1 [] (j:Int)):=by
   intro g f
   rw[wrN,f,if_pos rfl,<-ih,Xwh hk,g]
  have go':giv x.Kind=true->Xqh l x=true->X1w l xs (k+1) (gvs l k++[true])=some (match wrN l (x::xs) k with|none=>.x0 (gvs l l.length)|some j=>.x1 [] (j:Int)):=by
   intro g f
   rw[wrN,f,if_pos rfl,<-ih,Xwh hk,g]
  have stop:Xqh l x=false->(some (.x1 [] (k:Int)):Option X6k)=some (match wrN l (x::xs) k with|none=>.x0 (gvs l l.length)|some j=>.x1 [] (j:Int)):=by
   intro f
   rw[wrN,f];rfl
  rw[X1w]
  by_cases h4:x.Kind<=4
  ·rw[Yt h4,cond_true,cap,Yo]
   exact go (by unfold giv;simp;omega) (by unfold Xqh;rw[if_pos h4])
  ·rw[Yf h4,cond_false]
   have hA:X1p (gvs l k) x.A=some (giv (X3z l x.A)):=Xvb (by omega) hox.a0 (hox.ak (by omega))
   have hB:X1p (gvs l k) x.B=some (giv (X3z l x.B)):=Xvb (by omega) hox.b0 (hox.bk (by omega))
   by_cases h5:x.Kind=5
   ·have hf:Xqh l x=!(giv (X3z l x.A)):=by unfold Xqh;rw[if_neg h4,if_pos h5]
    rw[show(x.Kind==5)=true by simp[h5],cond_true,hA]
    cases hg:giv (X3z l x.A) with
    |true=>exact stop (by rw[hf,hg];rfl)
    |false =>
     show(X1l (List.length (gvs l k++[false])) 1).bind _=_
     rw[cap,Yo];exact go (by unfold giv;simp[h5]) (by rw[hf,hg];rfl)
   ·rw[show(x.Kind==5)=false by simp[h5],cond_false]
    by_cases h6:x.Kind=6
    ·have hf:Xqh l x=giv (X3z l x.A):=by unfold Xqh;rw[if_neg h4,if_neg h5,if_pos h6]
     rw[show(x.Kind==6)=true by simp[h6],cond_true,hA]
     cases hg:giv (X3z l x.A) with
     |false=>exact stop (by rw[hf,hg])
     |true =>
      show(X1l (List.length (gvs l k++[true])) 1).bind _=_
      rw[cap,Yo];exact go' (by unfold giv;simp[h6]) (by rw[hf,hg])
    ·rw[show(x.Kind==6)=false by simp[h6],cond_false]
     have lok:X2o (List.length [x.A,x.B])=some ():=X19 (by simp)
     by_cases h15:x.Kind<=15
     ·have hf:Xqh l x=(!(giv (X3z l x.A))&&!(giv (X3z l x.B))):=by unfold Xqh;rw[if_neg h4,if_neg h5,if_neg h6,if_pos h15]
      by_cases h11:x.Kind<=11
      ·have hgx:giv x.Kind=false:=by unfold giv;simp;omega
       rw[Yt h11,cond_true,Yo,lok]
       simp only[X0o,hA,hB]
       generalize giv (X3z l x.A)=p at hf
       generalize giv (X3z l x.B)=r at hf
       cases p<;>cases r
       ·show(X1l (List.length (gvs l k++[false])) 1).bind _=_
        rw[cap,Yo];exact go hgx hf
       all_goals exact stop hf
      ·have hgx:giv x.Kind=true:=by unfold giv;simp;omega
       rw[Yf h11,cond_false,Yt h15,cond_true,Yo,lok]
       simp only[X0o,hA,hB]
       generalize giv (X3z l x.A)=p at hf
       generalize giv (X3z l x.B)=r at hf
       cases p<;>cases r
       ·show(X1l (List.length (gvs l k++[true])) 1).bind _=_
        rw[cap,Yo];exact go' hgx hf
       all_goals exact stop hf
     ·rw[Yf (show ¬ x.Kind<=11 by omega),cond_false,Yf h15,cond_false]
      have hgx:giv x.Kind=true:=by unfold giv;simp;omega
      by_cases h17:x.Kind<=17
      ·have hf:Xqh l x=((giv (X3z l x.A))==(giv (X3z l x.B))):=by unfold Xqh;rw[if_neg h4,if_neg h5,if_neg h6,if_neg h15,if_pos h17]
       rw[Yt h17,cond_true,Yo,lok]
       simp only[X0o,X0p,hA,hB]
       generalize giv (X3z l x.A)=p at hf
       generalize giv (X3z l x.B)=r at hf
       cases p<;>cases r
       ·show(X1l (List.length (gvs l k++[true])) 1).bind _=_
        rw[cap,Yo];exact go' hgx hf
       ·exact stop hf
       ·exact stop hf
       ·show(X1l (List.length (gvs l k++[true])) 1).bind _=_
        rw[cap,Yo];exact go' hgx hf
      ·have hf:Xqh l x=((giv (X3z l x.A))&&(giv (X3z l x.B))):=by unfold Xqh;rw[if_neg h4,if_neg h5,if_neg h6,if_neg h15,if_neg h17]
       rw[Yf h17,cond_false,Yo,lok]
       simp only[X0o,X0p,hA,hB]
       generalize giv (X3z l x.A)=p at hf
       generalize giv (X3z l x.B)=r at hf
       cases p<;>cases r
       ·exact stop hf
       ·exact stop hf
       ·exact stop hf
       ·show(X1l (List.length (gvs l k++[true])) 1).bind _=_
        rw[cap,Yo];exact go' hgx hf
end Go.D


namespace Go.D
theorem Xt3 (a b:Int):a<b\/b<=a:=by omega
theorem X00r {α:Type} {l:List α} (h:l.Nodup):l.reverse.Nodup:=by
 unfold List.Nodup at *
 rw[List.pairwise_reverse]
 exact h.imp fun h=>Ne.symm h
def okT (t:Int):Prop := -1099511627776<=t/\t<=1099511627776
def okW (w:X0l):Prop:=1<=w.Size/\w.Size<=1073741824/\((w.Kind=2/\1<=w.Every/\w.Every<=w.Size/\w.Size<=16*w.Every)\/((w.Kind=1\/w.Kind=3)/\w.Every=0))
theorem X57 {w:X0l} (h:okW w):X1f w=some 0:=by
 obtain⟨h1,h2,h3⟩:=h
 have e1:decide (w.Size<1)=false:=by simp;omega
 have e2:decide (w.Size>1073741824)=false:=by simp;omega
 simp only[X1f,e1,e2,cond_false]
 rcases h3 with ⟨k,a1,a2,a3⟩|⟨k|k,a⟩
 ·have e3:(w.Kind==2)=true:=by simp[k]
  have e4:decide (w.Every >= 1)=true:=by simp;omega
  have e5:decide (w.Every<=w.Size)=true:=by simp;omega
  have e6:decide (w.Size<=IntKind.i64.wrap (16*w.Every))=true:=by rw[X03 (by omega) (by omega)];simp;omega
  simp only[e3,e4,e5,e6,cond_true]
 ·have e3:(w.Kind==2)=false:=by simp[k]
  have e4:(w.Kind==1)=true:=by simp[k]
  have e5:(w.Every==0)=true:=by simp[a]
  simp only[e3,e4,e5,cond_true,cond_false]
 ·have e3:(w.Kind==2)=false:=by simp[k]
  have e4:(w.Kind==1)=false:=by simp[k]
  have e6:(w.Kind==3)=true:=by simp[k]
  have e5:(w.Every==0)=true:=by simp[a]
  simp only[e3,e4,e5,e6,cond_true,cond_false]
theorem Xf9 {t size:Int} (ht:okT t) (h1:1<=size) (h2:size<=1073741824):Xd7 t size=some (⟨t / size*size,t / size*size+size⟩,0):=by
 obtain⟨t1,t2⟩:=ht
 have e1:decide (size<1)=false:=by simp;omega
 have e2:decide (size>1073741824)=false:=by simp;omega
 have e3:decide (t < -1099511627776)=false:=by simp;omega
 have e4:decide (t>1099511627776)=false:=by simp;omega
 have hm:=Int.mul_ediv_add_emod t size
 have hm1:=Int.emod_nonneg t (show size≠0 by omega)
 have hm2:=Int.emod_lt_of_pos t (show 0<size by omega)
 have q1 : -1099511627776<=t / size:=by
  rcases Xt3 (t / size) (-1099511627776) with h|h
  ·exfalso
   have:size*(t / size)<=size*(-1099511627777):=Int.mul_le_mul_of_nonneg_left (by omega) (by omega)
   omega
  ·exact h
 have q2:t / size<=1099511627776:=by
  rcases Xt3 1099511627776 (t / size) with h|h
  ·exfalso
   have:size*1099511627777<=size*(t / size):=Int.mul_le_mul_of_nonneg_left (by omega) (by omega)
   omega
  ·exact h
 have hn:X88 t size=some (t / size,0):=by
  simp only[X88,Xc7,e1,e2,e3,e4,cond_false,Yo,bne_self_eq_false]
  have hd:Xsp size=some ():=by unfold Xsp;rw[if_pos (by omega)]
  rw[hd,Yo]
  have htm:=Int.tmod_add_mul_tdiv t size
  by_cases hneg:Int.tmod t size<0
  ·have e5:decide (Int.tmod t size<0)=true:=by simp[hneg]
   rw[e5,cond_true,Yo]
   have hq:Int.tdiv t size - 1=t / size:=by
    have h3:Int.tdiv t size=t / size+if 0<=t\/size ∣ t then 0 else size.sign:=Int.tdiv_eq_ediv
    have h4:¬ (0<=t\/size ∣ t):=by
     rintro(h|h)
     ·have:=Int.tmod_nonneg size h;omega
     ·have:=Int.tmod_eq_zero_of_dvd h;omega
    rw[if_neg h4,Int.sign_eq_one_of_pos (by omega)] at h3
    omega
   have e6:IntKind.i64.wrap (Int.tdiv t size)=Int.tdiv t size:=X03 (by omega) (by omega)
   rw[e6,hq,X03 (by omega) (by omega)]
  ·have e5:decide (Int.tmod t size<0)=false:=by simp;omega
   rw[e5,cond_false,Yo]
   have hq:Int.tdiv t size=t / size:=by
    have h3:Int.tdiv t size=t / size+if 0<=t\/size ∣ t then 0 else size.sign:=Int.tdiv_eq_ediv
    by_cases h4:0<=t\/size ∣ t
    ·rw[if_pos h4] at h3;omega
    ·exfalso
     rw[if_neg h4,Int.sign_eq_one_of_pos (by omega)] at h3
     rw[h3,Int.mul_add,Int.mul_one] at htm
     omega
   rw[hq,X03 (by omega) (by omega)]
 simp only[Xd7,hn,Yo,bne_self_eq_false,cond_false]
 have e7:t / size*size=size*(t / size):=Int.mul_comm _ _
 have e8:IntKind.i64.wrap (t / size+1)=t / size+1:=X03 (by omega) (by omega)
 have e9:(t / size+1)*size=size*(t / size)+size:=by rw[Int.add_mul,e7];omega
 rw[e8,e9,e7,X03 (by omega) (by omega),X03 (by omega) (by omega)]
def Xdr (t size every:Int):Nat->Int->List Xr
 |0,_=>[]
 |K+1,s=>if s+size>t then ⟨s,s+size⟩::Xdr t size every K (s - every) else []
theorem X04x {t size every:Int} (ht:okT t) (h1:1<=every) (h2:every<=size) (h3:size<=1073741824):∀ (K f:Nat) (acc:List Xr) (s:Int),s<=t -> -1200000000000+K*1073741824<=s->s+size - t<=K*every->K<f->acc.length+K<=1000000 ->
  X6e t size every f acc s=some (.x0 (acc++Xdr t size every K s)):=by
 obtain⟨t1,t2⟩:=ht
 intro K
 induction K with
 |zero =>
  intro f acc s hs hl hK hf ha
  cases f with
  |zero=>omega
  |succ f =>
   rw[X6e]
   simp only[Int.natCast_zero,Int.zero_mul] at hK hl
   have:decide (IntKind.i64.wrap (s+size)>t)=false:=by rw[X03 (by omega) (by omega)];simp;omega
   rw[this,cond_false];simp[Xdr]
 |succ K ih =>
  intro f acc s hs hl hK hf ha
  cases f with
  |zero=>omega
  |succ f =>
   rw[X6e]
   have e0:((K+1:Nat):Int)*every=K*every+every:=by rw[Int.natCast_add,Int.natCast_one,Int.add_mul,Int.one_mul]
   have e00:((K+1:Nat):Int)*1073741824=K*1073741824+1073741824:=by omega
   have e1:IntKind.i64.wrap (s+size)=s+size:=X03 (by omega) (by omega)
   rw[e1]
   by_cases hgt:s+size>t
   ·have:decide (s+size>t)=true:=by simpa using hgt
    rw[this,cond_true,X1y (by simp;omega),Yo]
    have e2:IntKind.i64.wrap (s - every)=s - every:=X03 (by omega) (by omega)
    rw[e2,ih f _ _ (by omega) (by omega) (by omega) (by omega) (by simp;omega)]
    rw[Xdr,if_pos hgt];simp
   ·have:decide (s+size>t)=false:=by simpa using hgt
    rw[this,cond_false,Xdr,if_neg hgt];simp
theorem Xth (back:List Xr) (hb:back.length<=1000):∀ (k f:Nat) (acc:List Xr),k<=back.length->k<f->acc.length+k<=1000000 ->
  X45 back f acc ((k:Int) - 1)=some (.x0 (acc++(back.take k).reverse) back):=by
 intro k
 induction k with
 |zero =>
  intro f acc _ hf _
  cases f with
  |zero=>omega
  |succ f =>
   rw[X45]
   simp
 |succ k ih =>
  intro f acc hk hf ha
  cases f with
  |zero=>omega
  |succ f =>
   rw[X45]
   have e1:(((k+1:Nat):Int) - 1)=(k:Int):=by omega
   rw[e1]
   have e2:decide ((k:Int) >= 0)=true:=by simp
   rw[e2,cond_true,X3i,Ye (by omega),Yo,X1y (by simp;omega),Yo]
   rw[X03 (by omega) (by omega),ih f _ (by omega) (by omega) (by simp;omega)]
   rw[List.take_add_one,Ye (by omega)]
   simp only[Option.toList_some,List.reverse_append,List.reverse_cons,List.reverse_nil,List.nil_append,List.append_assoc,List.cons_append]
theorem Xsw (t size every:Int):∀ (K:Nat) (s:Int),(Xdr t size every K s).length<=K:=by
 intro K
 induction K with
 |zero=>intro s;simp[Xdr]
 |succ K ih=>intro s;rw[Xdr];split<;>simp;exact ih _
theorem X06s (t size every:Int) (h:1<=every):∀ (K:Nat) (s:Int),∀ x∈Xdr t size every K s,x.Start<=s:=by
 intro K
 induction K with
 |zero=>intro s x hx;simp[Xdr] at hx
 |succ K ih =>
  intro s x hx
  rw[Xdr] at hx
  split at hx
  ·rcases List.mem_cons.1 hx with rfl|hx
   ·exact Int.le_refl _
   ·have:=ih _ x hx;omega
  ·simp at hx
theorem Xvm (t size every:Int) (h:1<=every):∀ (K:Nat) (s:Int),(Xdr t size every K s).Nodup:=by
 intro K
 induction K with
 |zero=>intro s;simp[Xdr]
 |succ K ih =>
  intro s
  rw[Xdr]
  split
  ·rw[List.nodup_cons]
   exact⟨fun hx=>by have:=X06s t size every h K _ _ hx;simp at this;omega,ih _⟩
  ·exact List.nodup_nil
theorem X03d (t size every:Int):∀ (K:Nat) (s:Int),s+size - t<=K*every->0<=every->∀ x:Xr,x∈Xdr t size every K s↔∃ j:Nat,x.Start=s - j*every/\x.End=x.Start+size/\t<x.End:=by
 intro K
 induction K with
 |zero =>
  intro s hK he x
  simp only[Int.natCast_zero,Int.zero_mul] at hK
  simp only[Xdr,List.not_mem_nil,false_iff,not_exists,not_and]
  intro j h1 h2
  have:(0:Int)<=j*every:=Int.mul_nonneg (by omega) he
  omega
 |succ K ih =>
  intro s hK he x
  have e0:((K+1:Nat):Int)*every=K*every+every:=by rw[Int.natCast_add,Int.natCast_one,Int.add_mul,Int.one_mul]
  rw[Xdr]
  by_cases hgt:s+size>t
  ·rw[if_pos hgt,List.mem_cons,ih (s - every) (by omega) he x]
   constructor
   ·rintro(rfl|⟨j,h1,h2,h3⟩)
    ·exact⟨0,by simp,rfl,hgt⟩
    ·refine⟨j+1,?_,h2,h3⟩
     have:((j+1:Nat):Int)*every=j*every+every:=by rw[Int.natCast_add,Int.natCast_one,Int.add_mul,Int.one_mul]
     omega
   ·rintro⟨j,h1,h2,h3⟩
    cases j with
    |zero=>left;apply Xc9;simp at h1;exact h1;simp at h1;show x.End=s+size;omega
    |succ j =>
     right
     have:((j+1:Nat):Int)*every=j*every+every:=by rw[Int.natCast_add,Int.natCast_one,Int.add_mul,Int.one_mul]
     exact⟨j,by omega,h2,h3⟩
  ·rw[if_neg hgt]
   simp only[List.not_mem_nil,false_iff,not_exists,not_and]
   intro j h1 h2
   have:(0:Int)<=j*every:=Int.mul_nonneg (by omega) he
   omega
theorem Xs5 {t size every:Int} (h1:1<=every) (x:Xr):Xmr size every t x↔∃ j:Nat,x.Start=t / every*every - j*every/\x.End=x.Start+size/\t<x.End:=by
 have hm:=Int.mul_ediv_add_emod t every
 have hm1:=Int.emod_nonneg t (show every≠0 by omega)
 have hm2:=Int.emod_lt_of_pos t (show 0<every by omega)
 have hc:t / every*every=every*(t / every):=Int.mul_comm _ _
 unfold Xmr inS
 constructor
 ·rintro⟨a1,a2,a3,a4⟩
  have hx:=Int.mul_ediv_add_emod x.Start every
  rw[a1,Int.add_zero] at hx
  have hle:x.Start / every<=t / every:=by
   rcases Xt3 (t / every) (x.Start / every) with h|h
   ·exfalso
    have:every*(t / every+1)<=every*(x.Start / every):=Int.mul_le_mul_of_nonneg_left (by omega) (by omega)
    rw[Int.mul_add,Int.mul_one] at this
    omega
   ·exact h
  refine⟨(t / every - x.Start / every).toNat,?_,a2,a4⟩
  have e1:(((t / every - x.Start / every).toNat:Nat):Int)=t / every - x.Start / every:=Int.toNat_of_nonneg (by omega)
  rw[e1,Int.sub_mul,Int.mul_comm (x.Start / every)]
  omega
 ·rintro⟨j,a1,a2,a3⟩
  have hj:(0:Int)<=j*every:=Int.mul_nonneg (by omega) (by omega)
  refine⟨?_,a2,by omega,a3⟩
  rw[a1,<-Int.sub_mul]
  exact Int.mul_emod_left _ _
theorem Xlj {w:X0l} {t:Int} (hw:okW w) (hk:w.Kind≠3) (ht:okT t):∃ W,Xhy w t=some (W,0)/\W.length<=16/\W.Nodup/\∀ s,s∈W↔Xmr w.Size (Xdo w) t s:=by
 have hcw:=X57 hw
 obtain⟨w1,w2,w3⟩:=hw
 have ht':=ht
 obtain⟨t1,t2⟩:=ht
 unfold Xhy
 rw[hcw,Yo]
 rcases w3 with ⟨k,a1,a2,a3⟩|⟨k|k,a⟩
 ·have e1:(w.Kind==1)=false:=by simp[k]
  have e2:(w.Kind==2)=true:=by simp[k]
  have e3:Xdo w=w.Every:=by unfold Xdo;rw[if_neg (by omega)]
  simp only[bne_self_eq_false,cond_false,e1,e2,cond_true]
  have hm:=Int.mul_ediv_add_emod t w.Every
  have hm1:=Int.emod_nonneg t (show w.Every≠0 by omega)
  have hm2:=Int.emod_lt_of_pos t (show 0<w.Every by omega)
  have hc:t / w.Every*w.Every=w.Every*(t / w.Every):=Int.mul_comm _ _
  have hall:Xfb t w.Size w.Every=some ((Xdr t w.Size w.Every 16 (t / w.Every*w.Every)).reverse,0):=by
   unfold Xfb
   have b1:decide ((if w.Every<w.Size then w.Every else w.Size)<1)=false:=by simp;split<;>omega
   have b2:decide (w.Size>1073741824)=false:=by simp;omega
   have b3:decide (w.Every>w.Size)=false:=by simp;omega
   have b4:decide (w.Size>IntKind.i64.wrap (16*w.Every))=false:=by rw[X03 (by omega) (by omega)];simp;omega
   simp only[b1,b2,b3,b4,cond_false,Xf9 ht' a1 (by omega),Yo,bne_self_eq_false]
   have hL:=X04x ht' a1 a2 w2 16 FU [] (t / w.Every*w.Every) (by omega) (by omega) (by omega) (by unfold FU;omega) (by simp)
   rw[hL,Yo]
   simp only[List.nil_append]
   have hlen:=Xsw t w.Size w.Every 16 (t / w.Every*w.Every)
   rw[X03 (by omega) (by omega)]
   have hR:=Xth (Xdr t w.Size w.Every 16 (t / w.Every*w.Every)) (by omega) (Xdr t w.Size w.Every 16 (t / w.Every*w.Every)).length FU [] (Nat.le_refl _) (by unfold FU;omega) (by simp;omega)
   rw[hR,Yo]
   simp
  rw[hall,Yo]
  refine⟨_,rfl,by rw[List.length_reverse];exact Xsw ..,X00r (Xvm t w.Size w.Every a1 _ _),fun s=>?_⟩
  rw[List.mem_reverse,e3,Xs5 a1,X03d t w.Size w.Every 16 _ (by omega) (by omega)]
 ·have e1:(w.Kind==1)=true:=by simp[k]
  have e3:Xdo w=w.Size:=by unfold Xdo;rw[if_pos k]
  simp only[bne_self_eq_false,cond_false,e1,cond_true,Xf9 ht' w1 w2,Yo]
  refine⟨_,rfl,by simp,by simp,fun s=>?_⟩
  rw[List.mem_singleton,e3,Xs5 w1]
  have hm:=Int.mul_ediv_add_emod t w.Size
  have hm1:=Int.emod_nonneg t (show w.Size≠0 by omega)
  have hm2:=Int.emod_lt_of_pos t (show 0<w.Size by omega)
  have hc:t / w.Size*w.Size=w.Size*(t / w.Size):=Int.mul_comm _ _
  constructor
  ·rintro rfl
   exact⟨0,by simp,rfl,by show t<t / w.Size*w.Size+w.Size;omega⟩
  ·rintro⟨j,h1,h2,h3⟩
   have hj:(j:Int)=0:=by
    rcases Xt3 0 (j:Int) with h|h
    ·exfalso
     have:(1:Int)*w.Size<=j*w.Size:=Int.mul_le_mul_of_nonneg_right (by omega) (by omega)
     omega
    ·omega
   rw[hj,Int.zero_mul] at h1
   exact Xc9 (by show s.Start=t / w.Size*w.Size;omega) (by show s.End=t / w.Size*w.Size+w.Size;omega)
 ·exact absurd k hk
end Go.D


namespace Go.D
def kOf (l:List X05):Bool×Int×Int :=
 if Xcy l≠0 then (false,0,Xcy l)
 else match wrN l l 0 with
  |some j=>(false,(j:Int),42)
  |none=>(giv (X3z l ((l.length:Int) - 1)),(l.length:Int) - 1,0)
theorem Xa5 {l:List X05} (h:Xcy l=0):l.length<=60/\1<=l.length/\∃ sd,Xoe l []=some sd:=by
 unfold Xcy at h
 split at h
 ·cases h
 ·split at h
  ·cases h
  ·rename_i sd hr
   have hn:=Xl4 l [] sd hr
   simp only[List.length_nil,Nat.zero_add] at hn
   split at h
   ·cases h
   ·rename_i q hq
    have:1<=sd.length:=by
     cases sd with
     |nil=>cases hq
     |cons=>simp
    exact⟨by omega,by omega,sd,hr⟩
theorem Xdi {l:List X05} (h:Xcy l=0):∀ j x,l[j]?=some x->Xkd x j:=by
 obtain⟨_,_,sd,hr⟩:=Xa5 h
 intro j x hj
 have:=X00p l [] sd hr j x hj
 simpa using this
theorem Xvs (l:List X05):∀ (xs:List X05) (k j:Nat),wrN l xs k=some j->k<=j/\j<k+xs.length
 |[],k,j,h=>by cases h
 |x::xs,k,j,h=>by
  unfold wrN at h
  split at h
  ·have:=Xvs l xs (k+1) j h;simp only[List.length_cons];omega
  ·cases h;simp only[List.length_cons];omega
theorem Xhk {l:List X05} (h0:∀ x∈l,0<=x.Kind):Xgi l=some (kOf l):=by
 unfold Xgi kOf
 rw[Xcx h0,Yo]
 by_cases hz:Xcy l=0
 ·obtain⟨h60,h1,_⟩:=Xa5 hz
  rw[if_neg (by omega),hz,show((0:Int) != 0)=false from rfl,cond_false]
  unfold Xgh
  rw[X19 (by omega),Yo]
  have ht:=Xzu (by omega) (Xdi hz) l 0 rfl
  rw[show gvs l 0=[] from by unfold gvs;simp] at ht
  rw[ht]
  cases hw:wrN l l 0 with
  |some j =>
   have:=(Xvs l l 0 j hw).2
   simp only[Yo]
   rw[Yt (show(j:Int)<(l.length:Int) by omega)];rfl
  |none =>
   simp only[Yo]
   rw[Yf (show ¬ (l.length:Int)<(l.length:Int) by omega),cond_false,X03 (by omega) (by omega),Xvb (Nat.le_refl _) (by omega) (by omega)];rfl
 ·rw[if_pos hz,show(Xcy l != 0)=true by simp[hz]];rfl
theorem Xhi {l:List X05}:Xgc l=some (kOf l):=by
 unfold Xgc kOf
 rw[Xcv,Yo]
 by_cases hz:Xcy l=0
 ·obtain⟨h60,h1,_⟩:=Xa5 hz
  rw[if_neg (by omega),hz,show((0:Int) != 0)=false from rfl,cond_false]
  unfold Xe0
  rw[X19 (by omega),Yo,Xvr (Xdi hz) l 0 rfl]
  cases hw:wrN l l 0 with
  |some j =>
   have:=(Xvs l l 0 j hw).2
   simp only[Yo]
   rw[Yt (show(j:Int)<(l.length:Int) by omega)];rfl
  |none =>
   simp only[Yo]
   obtain⟨e,he,hk⟩:=Xe9 (l:=l) (i:=(l.length:Int) - 1) (by omega) (by omega)
   rw[Yf (show ¬ (l.length:Int)<(l.length:Int) by omega),cond_false,X03 (by omega) (by omega),he,Yo,Xq1,hk];rfl
 ·rw[if_pos hz,show(Xcy l != 0)=true by simp[hz]];rfl
def X2x (l:List X05) (b:Bool):Int×Int :=
 if (kOf l).2.2=0/\(kOf l).1≠b then ((kOf l).2.1,42) else ((kOf l).2.1,(kOf l).2.2)
theorem Xif {l:List X05} {b:Bool} (h0:∀ x∈l,0<=x.Kind):Xay l b=some (X2x l b):=by
 unfold Xay X2x
 rw[Xhk h0,Yo]
 by_cases hz:(kOf l).2.2=0
 ·rw[hz,show((0:Int)==0)=true from rfl,cond_true]
  cases hb:(kOf l).1<;>cases b<;>simp
 ·rw[show((kOf l).2.2==0)=false by simp[hz],cond_false,cond_false,if_neg (fun h=>hz h.1)];rfl
theorem Xi5 {l:List X05} {b:Bool}:X9f l b=some (X2x l b):=by
 unfold X9f X2x
 rw[Xhi,Yo]
 by_cases hz:(kOf l).2.2=0
 ·rw[hz,show((0:Int)==0)=true from rfl,cond_true]
  cases hb:(kOf l).1<;>cases b<;>simp
 ·rw[show((kOf l).2.2==0)=false by simp[hz],cond_false,cond_false,if_neg (fun h=>hz h.1)]
def Xvy (s:List Int) (j:Bool):Bool:=s.length==0||(j&&s.length != 2)||s.any fun x=>decide (x<0)||decide (x>3)
def X8a (s:List Int) (j:Bool):Int :=
 if s.length>4 then 4 else if Xvy s j then 8 else if s.Nodup then 0 else 43
theorem Xqs (Y:List Int):∀ (xs:List Int) (k:Nat),∃ o,X0z Y xs k=some o/\((xs.any fun x=>decide (x<0)||decide (x>3))=true->∃ j:Nat,o=.x1 (j:Int))/\((xs.any fun x=>decide (x<0)||decide (x>3))=false->o=.x0)
 |[],k=>⟨.x0,rfl,by simp,fun _=>rfl⟩
 |x::xs,k=>by
  obtain⟨o,h1,h2,h3⟩:=Xqs Y xs (k+1)
  rw[X0z]
  unfold X6t
  rw[Yo]
  by_cases hx:x<0\/x>3
  ·have:(bif decide (x<0) then true else decide (x >= 4))=true:=by
    rcases hx with h|h
    ·rw[Yt h];rfl
    ·rw[Yf (by omega),Yt (by omega)];rfl
   rw[this]
   refine⟨_,rfl,fun _=>⟨k,rfl⟩,fun h=>?_⟩
   exfalso
   simp only[List.any_cons,Bool.or_eq_false_iff,decide_eq_false_iff_not] at h
   omega
  ·have:(bif decide (x<0) then true else decide (x >= 4))=false:=by
    rw[Yf (by omega),Yf (by omega)];rfl
   rw[this]
   refine⟨o,h1,fun h=>h2 ?_,fun h=>h3 ?_⟩
   ·rw[List.any_cons,Yf (by omega),Yf (by omega)] at h;exact h
   ·rw[List.any_cons,Yf (by omega),Yf (by omega)] at h;exact h
theorem Xvk {s:List Int} (hn:s.length<=1000):X09 s=some (s.any fun x=>decide (x<0)||decide (x>3)):=by
 unfold X09 X0y
 rw[X19 (by omega),Yo]
 obtain⟨o,h1,h2,h3⟩:=Xqs s s 0
 rw[h1]
 cases hb:(s.any fun x=>decide (x<0)||decide (x>3)) with
 |true=>obtain⟨j,rfl⟩:=h2 hb;simp
 |false=>rw[h3 hb];rfl
end Go.D


namespace Go.D
theorem Xd0 (x y:X7):X4b x y=decide (x=y):=by
 obtain⟨a,b,c⟩:=x
 obtain⟨a',b',c'⟩:=y
 simp only[X4b,Bool.and_true]
 rw[Bool.eq_iff_iff]
 simp
def X66:Int := -9223372036854775808
def Xvc:Int:=9223372036854775807
def Xfm (t:Int):Bool:=decide (-1099511627776<=t)&&decide (t<=1099511627776)
def Xxd (x:Xk):Bool:=bif x.Mark then decide (x.Record=⟨0,0,0⟩)&&(Xfm x.Time||x.Time==Xvc) else x.Time==0&&Xfm x.Record.Time
def chk (l:List Xk):Int:=if 60<l.length then 4 else bif l.all Xxd then 0 else 8
theorem Xe7 {n:Nat} (h:n<=140737488355328):X2o n=some ():=by unfold X2o;rw[if_pos h]
theorem Xn6 {n b:Nat} (h:n*b<=140737488355328):X1l n b=some ():=by unfold X1l;rw[if_pos h]
theorem Xn4 {l:List Xk} (h:chk l=0):l.length<=60:=by
 unfold chk at h;split at h
 ·cases h
 ·omega
def Xkn (m:Int) (x:Xk):Int:=if x.Mark then (if x.Time>m then x.Time else m) else m
def Xgv (m:Int) (l:List Xk):Int:=l.foldl Xkn m
def Xi6 (late:Bool):Int->List Xk->List X7
 |_,[]=>[]
 |m,x::l=>if !x.Mark&&(decide (x.Record.Time<m)==late) then x.Record::Xi6 late (Xkn m x) l else Xi6 late (Xkn m x) l
theorem Xl2 (q:Bool):∀ (l:List Xk) (m:Int),(Xi6 q m l).length<=l.length:=by
 intro l
 induction l with
 |nil=>intro m;exact Nat.le_refl _
 |cons x l ih =>
  intro m
  have:=ih (Xkn m x)
  simp only[Xi6]
  split<;>simp only[List.length_cons]<;>omega
def Xcb (l:List Xk):List X7:=if chk l=0 then Xi6 false X66 l else []
def Xm7 (l:List Xk):List X7:=if chk l=0 then Xi6 true X66 l else []
end Go.D


namespace Go.D
theorem X02v:∀ (xs ks:List Int),(Xa8 ks xs).length<=ks.length+xs.length/\((Xa8 ks xs).length=ks.length+xs.length↔xs.Nodup/\∀ x∈xs,x ∉ ks):=by
 intro xs
 induction xs with
 |nil=>intro ks;simp[Xa8]
 |cons x xs ih =>
  intro ks
  rw[Xa8]
  unfold Xn1
  by_cases hm:x∈ks
  ·rw[if_pos hm]
   have:=ih ks
   refine⟨by have:=this.1;simp only[List.length_cons];omega,⟨fun h=>?_,fun h=>?_⟩⟩
   ·have:=this.1;simp only[List.length_cons] at h;omega
   ·exact absurd hm (h.2 x List.mem_cons_self)
  ·rw[if_neg hm]
   have:=ih (ks++[x])
   rw[List.length_append,List.length_singleton] at this
   refine⟨by have:=this.1;simp only[List.length_cons];omega,?_⟩
   rw[show ks.length+(x::xs).length=ks.length+1+xs.length by simp only[List.length_cons];omega,this.2]
   constructor
   ·rintro⟨h1,h2⟩
    refine⟨List.nodup_cons.2 ⟨fun hx=>h2 x hx (by simp),h1⟩,?_⟩
    intro y hy
    rcases List.mem_cons.1 hy with rfl|hy
    ·exact hm
    ·exact fun hk=>h2 y hy (by simp[hk])
   ·rintro⟨h1,h2⟩
    refine⟨(List.nodup_cons.1 h1).2,fun y hy hk=>?_⟩
    rcases List.mem_append.1 hk with hk|hk
    ·exact h2 y (List.mem_cons_of_mem _ hy) hk
    ·simp at hk;subst hk;exact(List.nodup_cons.1 h1).1 hy
theorem Xvh {s:List Int} (hn:s.length<=1000):∃ v,X3s s=some v/\decide (v<(s.length:Int))=!(decide s.Nodup):=by
 unfold X3s
 rw[X19 (by omega)]
 refine⟨_,rfl,?_⟩
 have h:=X02v s []
 simp only[List.length_nil,Nat.zero_add,List.not_mem_nil,not_false_eq_true,implies_true,and_true] at h
 by_cases hd:s.Nodup
 ·rw[Yt hd,h.2.2 hd];simp
 ·rw[Yf hd]
  have:(Xa8 [] s).length≠s.length:=fun e=>hd (h.2.1 e)
  have:=h.1
  simp;omega
theorem Xis (s:List Int) (j:Bool):X2l s j=some (X8a s j):=by
 unfold X2l X8a Xvy
 by_cases h4:s.length>4
 ·rw[if_pos h4,Yt (show(s.length:Int)>4 by omega)];rfl
 ·rw[if_neg h4,Yf (show ¬ (s.length:Int)>4 by omega),cond_false]
  obtain⟨v,hv,hd⟩:=Xvh (s:=s) (by omega)
  rw[Xvk (by omega),hv]
  simp only[Yo]
  rw[hd]
  have e0:((s.length:Int)==0)=(s.length==0):=by rw[Bool.eq_iff_iff];simp
  have e2:((s.length:Int) != 2)=(s.length != 2):=by rw[Bool.eq_iff_iff];simp;omega
  rw[e0,e2]
  generalize (s.any fun x=>decide (x<0)||decide (x>3))=b
  generalize (s.length==0)=z
  generalize (s.length != 2)=t
  by_cases hn:s.Nodup<;>cases z<;>cases t<;>cases j<;>cases b<;>simp[hn]
theorem Xk0 (Y:List Int):∀ (xs:List Int) (k:Nat),X3o Y xs k=some (bif (xs.any fun x=>decide (x<0)||decide (x>3)) then .x1 else .x0)
 |[],k=>rfl
 |x::xs,k=>by
  rw[X3o,Xk0 Y xs (k+1),List.any_cons]
  cases decide (x<0)<;>cases decide (x>3)<;>rfl
theorem Xr3 (s:List Int) (i:Nat) (hi:i<s.length) (hs:s.length<=1000):∀ (m n j:Nat),m=i - j->m<n->∃ o,X3n s (i:Int) n (j:Int)=some o/\(o=.x0↔∃ j',j<=j'/\j'<i/\s[j']?=s[i]?):=by
 intro m
 induction m with
 |zero =>
  intro n j hm hn
  cases n with
  |zero=>omega
  |succ n =>
   rw[X3n,Yf (show ¬ (j:Int)<(i:Int) by omega)]
   exact⟨.x1,rfl,⟨fun h=>(by cases h),fun⟨j',h1,h2,_⟩=>by omega⟩⟩
 |succ m ih =>
  intro n j hm hn
  cases n with
  |zero=>omega
  |succ n =>
   rw[X3n,Yt (show(j:Int)<(i:Int) by omega),cond_true,show X1p s (j:Int)=some (s[j]'(by omega)) by rw[X3i];exact Ye _,show X1p s (i:Int)=some (s[i]'hi) by rw[X3i];exact Ye _]
   simp only[Yo]
   by_cases he:s[j]=s[i]
   ·refine⟨.x0,?_,⟨fun _=>⟨j,Nat.le_refl _,by omega,by rw[Ye (show j<s.length by omega),Ye hi,he]⟩,fun _=>rfl⟩⟩
    rw[show(s[j]==s[i])=true by simp[he]];rfl
   ·rw[show(s[j]==s[i])=false by simp[he],cond_false,X03 (by omega) (by omega)]
    obtain⟨o,h1,h2⟩:=ih n (j+1) (by omega) (by omega)
    refine⟨o,by rw[show(j:Int)+1=((j+1:Nat):Int) by omega];exact h1,h2.trans ⟨fun⟨j',a,b,c⟩=>⟨j',by omega,b,c⟩,fun⟨j',a,b,c⟩=>?_⟩⟩
    by_cases hj:j'=j
    ·subst hj
     rw[Ye (show j'<s.length by omega),Ye hi] at c
     exact absurd (Option.some.inj c) he
    ·exact⟨j',by omega,b,c⟩
theorem Xjz (s:List Int) (hs:s.length<=1000):∀ (xs:List Int) (k:Nat),s.drop k=xs->(s.take k).Nodup->X2r s xs k=some (if s.Nodup then .x0 else .x1)
 |[],k,h,hd=>by
  have:s.length<=k:=by
   have:=congrArg List.length h;simp at this;omega
  rw[List.take_of_length_le this] at hd
  rw[X2r,if_pos hd]
 |x::xs,k,h,hd=>by
  have hk:s[k]?=some x:=by
   have:(s.drop k)[0]?=some x:=by rw[h];rfl
   simpa using this
  have hdr:s.drop (k+1)=xs:=by
   have:(s.drop k).drop 1=xs:=by rw[h];rfl
   rw[List.drop_drop] at this;exact this
  have hlt:=(Ys.1 hk).1
  rw[X2r]
  obtain⟨o,h1,h2⟩:=Xr3 s k hlt hs (k - 0) FU 0 rfl (by unfold FU;omega)
  rw[show((0:Nat):Int)=0 from rfl] at h1
  rw[h1,Yo]
  cases o with
  |x0 =>
   obtain⟨j,_,hj,he⟩:=h2.1 rfl
   have:¬ s.Nodup:=fun hn=>by
    have:=(List.getElem?_inj (by omega:j<s.length) hn).1 he
    omega
   rw[if_neg this]
  |x1 =>
   have hno:¬ ∃ j',0<=j'/\j'<k/\s[j']?=s[k]?:=fun h=>by have:=h2.2 h;cases this
   refine Xjz s hs xs (k+1) hdr ?_
   rw[List.take_add_one,hk]
   simp only[Option.toList_some]
   rw[List.nodup_append]
   refine⟨hd,by simp,fun a ha b hb=>?_⟩
   simp at hb;subst hb
   intro e;subst e
   obtain⟨j,hj,e⟩:=List.getElem_of_mem ha
   simp at hj
   refine hno ⟨j,Nat.zero_le _,by omega,?_⟩
   rw[hk,<-e,List.getElem_take,Ye]
theorem Xkl (s:List Int) (j:Bool):X8h s j=some (X8a s j):=by
 unfold X8h X8a Xvy
 by_cases h4:s.length>4
 ·rw[if_pos h4,Yt (show(s.length:Int)>4 by omega)];rfl
 ·rw[if_neg h4,Yf (show ¬ (s.length:Int)>4 by omega),cond_false,X19 (by omega),Xk0,Xjz s (by omega) s 0 rfl (by simp)]
  have e0:((s.length:Int)==0)=(s.length==0):=by rw[Bool.eq_iff_iff];simp
  have e2:((s.length:Int) != 2)=(s.length != 2):=by rw[Bool.eq_iff_iff];simp;omega
  rw[e0,e2]
  generalize (s.any fun x=>decide (x<0)||decide (x>3))=b
  generalize (s.length==0)=z
  generalize (s.length != 2)=t
  by_cases hn:s.Nodup<;>cases z<;>cases t<;>cases j<;>cases b<;>simp[hn]
instance (w:X0l):Decidable (okW w):=by unfold okW;infer_instance
theorem X07k (w:X0l) (hE:w.Every<=9223372036854775807 /\ -9223372036854775808<=w.Every):X9e w=some (decide (okW w))/\X1f w=some (if okW w then 0 else 8):=by
 by_cases hw:okW w
 ·refine⟨?_,by rw[if_pos hw];exact X57 hw⟩
  rw[Yt hw]
  obtain⟨h1,h2,h3⟩:=hw
  unfold X9e
  rw[Yf (show ¬ w.Size<1 by omega),Yf (show ¬ w.Size>1073741824 by omega)]
  rcases h3 with ⟨k,a1,a2,a3⟩|⟨k|k,a⟩
  ·rw[show(w.Kind==2)=true by simp[k],Yt a1,Yt a2,X03 (by omega) (by omega),Yt a3];rfl
  ·rw[show(w.Kind==2)=false by simp[k],show(w.Kind==1)=true by simp[k],show(w.Every==0)=true by simp[a]];rfl
  ·rw[show(w.Kind==2)=false by simp[k],show(w.Kind==3)=true by simp[k],show(w.Every==0)=true by simp[a],show(w.Kind==1)=false by simp[k]];rfl
 ·rw[if_neg hw,Yf hw]
  by_cases hs:w.Size<1\/w.Size>1073741824
  ·have:(bif decide (w.Size<1) then true else decide (w.Size>1073741824))=true:=by
    rcases hs with h|h
    ·rw[Yt h];rfl
    ·rw[Yf (by omega),Yt h];rfl
   constructor
   ·unfold X9e;rw[this];rfl
   ·unfold X1f;rw[this];rfl
  ·have:(bif decide (w.Size<1) then true else decide (w.Size>1073741824))=false:=by
    rw[Yf (by omega),Yf (by omega)];rfl
   unfold X9e X1f
   rw[this,cond_false,cond_false]
   by_cases k2:w.Kind=2
   ·rw[show(w.Kind==2)=true by simp[k2],cond_true,cond_true]
    have:(bif (bif decide (w.Every >= 1) then decide (w.Every<=w.Size) else false) then decide (w.Size<=IntKind.i64.wrap (16*w.Every)) else false)=false:=by
     by_cases g1:w.Every >= 1
     ·by_cases g2:w.Every<=w.Size
      ·rw[Yt g1,Yt g2,X03 (by omega) (by omega),Yf];rfl
       intro g3;exact hw ⟨by omega,by omega,.inl ⟨k2,g1,g2,g3⟩⟩
      ·rw[Yt g1,Yf g2];rfl
     ·rw[Yf g1];rfl
    rw[this];exact⟨rfl,rfl⟩
   ·rw[show(w.Kind==2)=false by simp[k2],cond_false,cond_false]
    by_cases k1:w.Kind=1
    ·have:w.Every≠0:=fun h=>hw ⟨by omega,by omega,.inr ⟨.inl k1,h⟩⟩
     rw[show(w.Kind==1)=true by simp[k1],show(w.Every==0)=false by simp[this]];exact⟨rfl,rfl⟩
    ·by_cases k3:w.Kind=3
     ·have:w.Every≠0:=fun h=>hw ⟨by omega,by omega,.inr ⟨.inr k3,h⟩⟩
      rw[show(w.Kind==1)=false by simp[k1],show(w.Kind==3)=true by simp[k3],show(w.Every==0)=false by simp[this]];exact⟨rfl,rfl⟩
     ·rw[show(w.Kind==1)=false by simp[k1],show(w.Kind==3)=false by simp[k3]];exact⟨rfl,rfl⟩
end Go.D


namespace Go.D
def Xzj (q:Xu):Int :=
 if q.Agg<1\/q.Agg>4\/(q.Late≠1/\q.Late≠2) then 8
 else if q.Agg=1/\0<q.Arg.length then 8
 else if q.Agg≠1/\Xcy q.Arg≠0 then Xcy q.Arg
 else if 0<q.Where.length/\Xcy q.Where≠0 then Xcy q.Where
 else if X8a q.Sources q.Join≠0 then X8a q.Sources q.Join
 else if q.Join=true/\q.Window.Kind≠1 then 8
 else if okW q.Window then 0 else 8
structure QW (q:Xu):Prop where
 arg:∀ x∈q.Arg,0<=x.Kind
 wher:∀ x∈q.Where,0<=x.Kind
 ev:q.Window.Every<=9223372036854775807 /\ -9223372036854775808<=q.Window.Every
theorem Xej {a b:Int} (h:¬ a=b):(a != b)=true:=by simp[h]
theorem lz {n:Nat} (h:0<n):((n:Int)==0)=false:=by simp;omega
theorem lz' {n:Nat} (h:¬ 0<n):((n:Int)==0)=true:=by simp;omega
theorem X083 {q:Xu} (hq:QW q):((X2l q.Sources q.Join).bind fun v10=>bif (v10 != (0:Int)) then (some v10) else (bif (bif q.Join then (q.Window.Kind != (1:Int)) else false) then (some 8) else ((X1f q.Window).bind fun v14=>some v14)))=some (if X8a q.Sources q.Join≠0 then X8a q.Sources q.Join
 else if q.Join=true/\q.Window.Kind≠1 then 8
 else if okW q.Window then 0 else 8):=by
 rw[Xis,Yo,(X07k q.Window hq.ev).2]
 by_cases h:X8a q.Sources q.Join=0
 ·rw[h]
  by_cases hj:q.Join=true
  ·by_cases hk:q.Window.Kind=1
   ·simp[hj,hk]
   ·simp[hj,hk,Xej hk]
  ·simp[hj]
 ·simp[h,Xej h]
theorem Xkv {q:Xu} (hq:QW q):X8v q=some (Xzj q):=by
 unfold X8v Xzj
 rw[X083 hq,Xcx hq.arg,Xcx hq.wher]
 generalize (if X8a q.Sources q.Join≠0 then X8a q.Sources q.Join else if q.Join=true/\q.Window.Kind≠1 then 8 else if okW q.Window then 0 else 8)=T
 have e1:(bif (bif (decide (q.Agg<(1:Int))) then true else (decide (q.Agg>(4:Int)))) then true else (bif (q.Late != (1:Int)) then (q.Late != (2:Int)) else false))=decide (q.Agg<1\/q.Agg>4\/(q.Late≠1/\q.Late≠2)):=by
  rw[Bool.eq_iff_iff]
  by_cases h1:q.Agg<1<;>by_cases h2:q.Agg>4<;>by_cases h3:q.Late=1<;>by_cases h4:q.Late=2<;>simp[h1,h2,h3,h4]
 rw[e1]
 by_cases hA:(q.Agg<1\/q.Agg>4\/(q.Late≠1/\q.Late≠2))
 ·rw[if_pos hA,Yt hA];rfl
 ·rw[if_neg hA,Yf hA,cond_false]
  by_cases h1:q.Agg=1
  ·rw[show(q.Agg != 1)=false by simp[h1],cond_false]
   by_cases hl:0<q.Arg.length
   ·rw[Yt (show(q.Arg.length:Int)>0 by omega),if_pos ⟨h1,hl⟩];rfl
   ·rw[Yf (show ¬ (q.Arg.length:Int)>0 by omega),if_neg (fun h=>hl h.2),if_neg (fun h=>h.1 h1),cond_false]
    by_cases hw:0<q.Where.length
    ·rw[Yt (show(q.Where.length:Int)>0 by omega),cond_true,Yo]
     by_cases hz:Xcy q.Where=0
     ·rw[hz];simp
     ·rw[if_pos ⟨hw,hz⟩,show(Xcy q.Where != 0)=true by simp[hz]];rfl
    ·rw[Yf (show ¬ (q.Where.length:Int)>0 by omega),if_neg (fun h=>hw h.1)];rfl
  ·rw[show(q.Agg != 1)=true by simp[h1],cond_true,if_neg (fun h=>h1 h.1),Yo]
   by_cases hn:Xcy q.Arg=0
   ·rw[hn,if_neg (fun h=>h.2 rfl),show((0:Int) != 0)=false from rfl,cond_false]
    by_cases hw:0<q.Where.length
    ·rw[Yt (show(q.Where.length:Int)>0 by omega),cond_true,Yo]
     by_cases hz:Xcy q.Where=0
     ·rw[hz];simp
     ·rw[if_pos ⟨hw,hz⟩,show(Xcy q.Where != 0)=true by simp[hz]];rfl
    ·rw[Yf (show ¬ (q.Where.length:Int)>0 by omega),if_neg (fun h=>hw h.1)];rfl
   ·rw[if_pos ⟨h1,hn⟩,show(Xcy q.Arg != 0)=true by simp[hn]];rfl
theorem Xnn {q:Xu} (hq:QW q):Xbp q=some (Xzj q):=by
 unfold Xbp Xzj
 rw[Xcv,Xcv,Xkl,(X07k q.Window hq.ev).1]
 have e1:(bif (bif (bif (decide (q.Agg<(1:Int))) then true else (decide (q.Agg>(4:Int)))) then true else (decide (q.Late<(1:Int)))) then true else (decide (q.Late>(2:Int))))=decide (q.Agg<1\/q.Agg>4\/(q.Late≠1/\q.Late≠2)):=by
  rw[Bool.eq_iff_iff]
  have g:(q.Late≠1/\q.Late≠2)↔(q.Late<1\/q.Late>2):=by omega
  rw[show decide (q.Agg<1\/q.Agg>4\/(q.Late≠1/\q.Late≠2))=decide (q.Agg<1\/q.Agg>4\/(q.Late<1\/q.Late>2)) from decide_eq_decide.2 (by rw[g])]
  by_cases h1:q.Agg<1<;>by_cases h2:q.Agg>4<;>by_cases h3:q.Late<1<;>by_cases h4:q.Late>2<;>simp[h1,h2,h3,h4]
 rw[e1]
 have tl:((some (X8a q.Sources q.Join)).bind fun v29=>bif (v29 != (0:Int)) then (some v29) else ((some (decide (okW q.Window))).bind fun v32=>bif (bif (!v32) then true else (bif q.Join then (q.Window.Kind != (1:Int)) else false)) then (some 8) else (some 0)))=some (if X8a q.Sources q.Join≠0 then X8a q.Sources q.Join
 else if q.Join=true/\q.Window.Kind≠1 then 8
 else if okW q.Window then 0 else 8):=by
  simp only[Yo]
  by_cases h:X8a q.Sources q.Join=0
  ·rw[h]
   by_cases hk:q.Window.Kind=1
   ·by_cases hj:q.Join=true<;>by_cases ho:okW q.Window<;>simp[hj,hk,ho]
   ·by_cases hj:q.Join=true<;>by_cases ho:okW q.Window<;>simp[hj,hk,ho,Xej hk]
  ·simp[h,Xej h]
 rw[tl]
 generalize (if X8a q.Sources q.Join≠0 then X8a q.Sources q.Join else if q.Join=true/\q.Window.Kind≠1 then 8 else if okW q.Window then 0 else 8)=T
 by_cases hA:(q.Agg<1\/q.Agg>4\/(q.Late≠1/\q.Late≠2))
 ·rw[if_pos hA,Yt hA];rfl
 ·rw[if_neg hA,Yf hA,cond_false]
  have wh:((bif (decide ((List.length q.Where:Int)>(0:Int))) then ((some (Xcy q.Where)).bind fun v23=>some (bif (decide ((List.length q.Where:Int)>(0:Int))) then (v23 != (0:Int)) else false)) else (some (bif (decide ((List.length q.Where:Int)>(0:Int))) then false else false)):Option (Bool)).bind fun Xs1=>bif Xs1 then ((some (Xcy q.Where)).bind fun v27=>some v27) else some T)=some (if 0<q.Where.length/\Xcy q.Where≠0 then Xcy q.Where else T):=by
   by_cases hw:0<q.Where.length
   ·rw[Yt (show(q.Where.length:Int)>0 by omega)]
    by_cases hz:Xcy q.Where=0
    ·rw[hz];simp
    ·rw[if_pos ⟨hw,hz⟩];simp[hz,Xej hz]
   ·rw[Yf (show ¬ (q.Where.length:Int)>0 by omega),if_neg (fun h=>hw h.1)];rfl
  rw[wh]
  generalize (if 0<q.Where.length/\Xcy q.Where≠0 then Xcy q.Where else T)=T2
  by_cases h1:q.Agg=1
  ·rw[show(q.Agg==1)=true by simp[h1],show(q.Agg != 1)=false by simp[h1]]
   by_cases hl:0<q.Arg.length
   ·rw[Yt (show(q.Arg.length:Int)>0 by omega),if_pos ⟨h1,hl⟩];rfl
   ·rw[Yf (show ¬ (q.Arg.length:Int)>0 by omega),if_neg (fun h=>hl h.2),if_neg (fun h=>h.1 h1)];rfl
  ·rw[show(q.Agg==1)=false by simp[h1],show(q.Agg != 1)=true by simp[h1],if_neg (fun h=>h1 h.1)]
   by_cases hn:Xcy q.Arg=0
   ·rw[hn,if_neg (fun h=>h.2 rfl)];rfl
   ·rw[if_pos ⟨h1,hn⟩]
    simp[hn,Xej hn]
def atOf (l:List X05) (i:Int):Int:=match X1p l i with|some e=>e.At|none=>0
theorem Xph {l:List X05} {b:Bool} (h:0<l.length):∃ e,X1p l (X2x l b).1=some e/\atOf l (X2x l b).1=e.At:=by
 have hr:0<=(X2x l b).1/\(X2x l b).1<l.length:=by
  have:(X2x l b).1=(kOf l).2.1:=by unfold X2x;split<;>rfl
  rw[this]
  unfold kOf
  split
  ·simp only;omega
  ·split
   ·rename_i j hj
    have:=Xvs l l 0 j hj
    simp only;omega
   ·simp only;omega
 obtain⟨e,he,_⟩:=Xfu hr.1 hr.2
 exact⟨e,he,by unfold atOf;rw[he]⟩
def rt (q:Xu):Int×Int :=
 if 0<q.Arg.length/\(X2x q.Arg false).2≠0 then (atOf q.Arg (X2x q.Arg false).1,(X2x q.Arg false).2)
 else if 0<q.Where.length/\(X2x q.Where true).2≠0 then (atOf q.Where (X2x q.Where true).1,(X2x q.Where true).2)
 else (0,0)
theorem Xvt (q:Xu) (hw:0<q.Where.length):(bif ((X2x q.Where true).2 != (0:Int)) then ((X1p q.Where (X2x q.Where true).1).bind fun e28=>some (e28.At,(X2x q.Where true).2)) else (some (0,0)))=some (if 0<q.Where.length/\(X2x q.Where true).2≠0 then (atOf q.Where (X2x q.Where true).1,(X2x q.Where true).2) else (0,0)):=by
 obtain⟨e,he,ha⟩:=Xph (b:=true) hw
 by_cases hz:(X2x q.Where true).2=0
 ·rw[if_neg (fun h=>h.2 hz),show((X2x q.Where true).2 != 0)=false by simp[hz]];rfl
 ·rw[if_pos ⟨hw,hz⟩,show((X2x q.Where true).2 != 0)=true by simp[hz],he,ha];rfl
theorem Xnl (q:Xu):Xbm q=some (rt q):=by
 unfold Xbm rt
 rw[Xi5,Xi5]
 simp only[Yo]
 have wh:(bif (decide ((List.length q.Where:Int)>(0:Int))) then (bif ((X2x q.Where true).2 != (0:Int)) then ((X1p q.Where (X2x q.Where true).1).bind fun e28=>some (e28.At,(X2x q.Where true).2)) else (some (0,0))) else (some (0,0)))=some (if 0<q.Where.length/\(X2x q.Where true).2≠0 then (atOf q.Where (X2x q.Where true).1,(X2x q.Where true).2) else (0,0)):=by
  by_cases hw:0<q.Where.length
  ·rw[Yt (show(q.Where.length:Int)>0 by omega),cond_true,Xvt q hw]
  ·rw[Yf (show ¬ (q.Where.length:Int)>0 by omega),if_neg (fun h=>hw h.1)];rfl
 rw[wh]
 by_cases ha:0<q.Arg.length
 ·rw[Yt (show(q.Arg.length:Int)>0 by omega),cond_true]
  obtain⟨e,he,hat⟩:=Xph (b:=false) ha
  by_cases hz:(X2x q.Arg false).2=0
  ·rw[if_neg (show ¬ (0<q.Arg.length/\(X2x q.Arg false).2≠0) from fun h=>h.2 hz),show((X2x q.Arg false).2 != 0)=false by simp[hz],cond_false]
  ·rw[if_pos (show(0<q.Arg.length/\(X2x q.Arg false).2≠0) from⟨ha,hz⟩),show((X2x q.Arg false).2 != 0)=true by simp[hz],he,hat];rfl
 ·rw[Yf (show ¬ (q.Arg.length:Int)>0 by omega),if_neg (show ¬ (0<q.Arg.length/\(X2x q.Arg false).2≠0) from fun h=>ha h.1),cond_false]
def Xt2 (q:Xu):Int×Int:=if Xzj q≠0 then (0,Xzj q) else rt q
theorem Xnm {q:Xu} (hq:QW q):Xbn q=some (Xt2 q):=by
 unfold Xbn Xt2
 rw[Xnn hq,Xnl,Yo]
 by_cases h:Xzj q=0
 ·rw[if_neg (by omega),h];rfl
 ·rw[if_pos h,show(Xzj q != 0)=true by simp[h]];rfl
theorem Xg2 {q:Xu} (hq:QW q):Xa9 q=some (Xt2 q):=by
 unfold Xa9 Xt2
 rw[Xkv hq,Yo]
 by_cases h:Xzj q=0
 ·rw[if_neg (by omega),h,show((0:Int) != 0)=false from rfl,cond_false]
  unfold Xby Xci
  rw[Xif hq.arg,Xif hq.wher]
  simp only[Yo]
  unfold rt
  have wh:(bif ((List.length q.Where:Int)==(0:Int)) then (some (0,0)) else (bif ((X2x q.Where true).2 != (0:Int)) then ((X1p q.Where (X2x q.Where true).1).bind fun e28=>some (e28.At,(X2x q.Where true).2)) else (some (0,0))))=some (if 0<q.Where.length/\(X2x q.Where true).2≠0 then (atOf q.Where (X2x q.Where true).1,(X2x q.Where true).2) else (0,0)):=by
   by_cases hw:0<q.Where.length
   ·rw[lz hw,cond_false,Xvt q hw]
   ·rw[lz' hw,if_neg (fun h=>hw h.1)];rfl
  rw[wh]
  by_cases ha:0<q.Arg.length
  ·rw[lz ha,cond_false]
   obtain⟨e,he,hat⟩:=Xph (b:=false) ha
   by_cases hz:(X2x q.Arg false).2=0
   ·rw[if_neg (show ¬ (0<q.Arg.length/\(X2x q.Arg false).2≠0) from fun h=>h.2 hz),show((X2x q.Arg false).2 != 0)=false by simp[hz],cond_false];rfl
   ·rw[if_pos (show(0<q.Arg.length/\(X2x q.Arg false).2≠0) from⟨ha,hz⟩),show((X2x q.Arg false).2 != 0)=true by simp[hz],he,hat];rfl
  ·rw[lz' ha,if_neg (show ¬ (0<q.Arg.length/\(X2x q.Arg false).2≠0) from fun h=>ha h.1)];rfl
 ·rw[if_pos h,show(Xzj q != 0)=true by simp[h]];rfl
end Go.D


namespace Go.D
theorem Xrs (t:Int):Xdl t=some (Xfm t):=by
 unfold Xdl Xfm
 simp only[ge_iff_le]
 cases decide (-1099511627776<=t)<;>rfl
theorem Xks (l:List Xk):∀ (xs:List Xk) (k:Nat),X5l l xs k=some (bif xs.all Xxd then .x0 else .x1):=by
 intro xs
 induction xs with
 |nil=>intro k;rfl
 |cons x xs ih =>
  intro k
  rw[X5l,ih]
  simp only[Xrs,Xd0,List.all_cons,Xxd,Xvc]
  generalize decide (x.Record=⟨0,0,0⟩)=b1
  generalize Xfm x.Time=b2
  generalize Xfm x.Record.Time=b3
  generalize (x.Time==9223372036854775807)=b4
  generalize (x.Time==0)=b5
  generalize x.Mark=b6
  cases b1<;>cases b2<;>cases b3<;>cases b4<;>cases b5<;>cases b6<;>rfl
theorem Xe8 (l:List Xk):X9k l=some (chk l):=by
 unfold X9k chk
 by_cases h:60<l.length
 ·rw[if_pos h,show decide ((l.length:Int)>60)=true from Yt (by omega)];rfl
 ·rw[if_neg h,show decide ((l.length:Int)>60)=false from Yf (by omega),Xe7 (by omega)]
  simp only[cond_false,Yo,Xks]
  cases l.all Xxd<;>rfl
theorem Xm5 (l:List Xk):∀ (xs:List Xk) (k:Nat) (m:Int),Xch l xs k m=some (.x0 (Xgv m xs)):=by
 intro xs
 induction xs with
 |nil=>intro k m;rfl
 |cons x xs ih =>
  intro k m
  rw[Xch]
  cases hx:x.Mark<;>simp[ih,Xgv,Xkn,hx]
theorem Xrt (l:List Xk):Xm6 l=some (if chk l=0 then (Xgv X66 l,0) else (0,chk l)):=by
 unfold Xm6
 rw[Xe8]
 by_cases h:chk l=0
 ·have:=Xn4 h
  simp[h,Xe7 (show l.length<=140737488355328 by omega),Xm5,X66]
 ·have h':(chk l != 0)=true:=by simp[h]
  simp[h,h']
theorem Xkq (l:List Xk):∀ (xs:List Xk) (k:Nat) (a b:List X7) (m:Int),a.length+xs.length<=1000000->b.length+xs.length<=1000000 ->
  X4n l xs k a b m=some (.x0 (a++Xi6 false m xs) (b++Xi6 true m xs)):=by
 intro xs
 induction xs with
 |nil=>intro k a b m _ _;simp[X4n,Xi6]
 |cons x xs ih =>
  intro k a b m ha hb
  simp only[List.length_cons] at ha hb
  rw[X4n]
  cases hx:x.Mark with
  |true=>simp[ih _ a b _ (by omega) (by omega),Xi6,Xkn,hx]
  |false =>
   by_cases ht:x.Record.Time<m
   ·simp[ht,Xn6 (show(b.length+1)*24<=140737488355328 by omega),ih _ a (b++[x.Record]) _ (by omega) (by simp;omega),Xi6,Xkn,hx]
   ·simp[ht,Xn6 (show(a.length+1)*24<=140737488355328 by omega),ih _ (a++[x.Record]) b _ (by simp;omega) (by omega),Xi6,Xkn,hx]
theorem Xpg (l:List Xk):Xdm l=some (Xcb l,Xm7 l,chk l):=by
 unfold Xdm Xcb Xm7
 rw[Xe8]
 by_cases h:chk l=0
 ·have:=Xn4 h
  simp[h,Xe7 (show l.length<=140737488355328 by omega),Xkq l l 0 [] [] _ (by simp;omega) (by simp;omega),X66]
 ·have h':(chk l != 0)=true:=by simp[h]
  simp[h,h']
end Go.D


namespace Go.D
theorem Xnk (t:Int):X5i t 1=some (bif Xfm t then 0 else 16):=by
 unfold X5i Xfm
 by_cases h1 : -1099511627776<=t
 ·rw[show decide (t < -1099511627776)=false from Yf (by omega),Yt h1]
  by_cases h2:t<=1099511627776
  ·rw[show decide (t>1099511627776)=false from Yf (by omega),Yt h2];rfl
  ·rw[show decide (t>1099511627776)=true from Yt (by omega),Yf h2];rfl
 ·rw[show decide (t < -1099511627776)=true from Yt (by omega),Yf h1];rfl
theorem Xnh (x:Xk):Xbk x=some (Xxd x):=by
 unfold Xbk Xxd Xvc
 simp only[Xnk,Xd0]
 generalize decide (x.Record=⟨0,0,0⟩)=b1
 generalize Xfm x.Time=b2
 generalize Xfm x.Record.Time=b3
 generalize (x.Time==9223372036854775807)=b4
 generalize (x.Time==0)=b5
 generalize x.Mark=b6
 cases b1<;>cases b2<;>cases b3<;>cases b4<;>cases b5<;>cases b6<;>rfl
theorem Xj8 (l:List Xk):∀ (xs:List Xk) (k:Nat),X4y l xs k=some (bif xs.all Xxd then .x0 else .x1):=by
 intro xs
 induction xs with
 |nil=>intro k;rfl
 |cons x xs ih =>
  intro k
  rw[X4y,ih]
  simp only[Xnh,List.all_cons,Yo]
  cases Xxd x<;>rfl
theorem Xnj (l:List Xk):Xbl l=some (chk l):=by
 unfold Xbl chk
 by_cases h:60<l.length
 ·rw[if_pos h,show decide ((l.length:Int)>60)=true from Yt (by omega)];rfl
 ·rw[if_neg h,show decide ((l.length:Int)>60)=false from Yf (by omega),Xe7 (by omega)]
  simp only[cond_false,Yo,Xj8]
  cases l.all Xxd<;>rfl
theorem X0c2 {l:List Xk}:chk l=0↔l.length<=60/\∀ x∈l,Xxd x=true:=by
 unfold chk
 constructor
 ·intro h
  split at h
  ·cases h
  ·refine⟨by omega,?_⟩
   cases ha:l.all Xxd with
   |true=>exact List.all_eq_true.1 ha
   |false=>rw[ha] at h;cases h
 ·rintro⟨h1,h2⟩
  rw[if_neg (by omega),List.all_eq_true.2 h2];rfl
theorem Xrn (a b:List Xk) (m:Int):Xgv m (a++b)=Xgv (Xgv m a) b:=List.foldl_append ..
theorem X0ey (a:Int):0<=bits .and .i64 a 63:=by
 unfold bits
 simp only
 have h:((BitVec.ofInt IntKind.i64.bits a) &&& (BitVec.ofInt IntKind.i64.bits 63)).toNat<=63:=by
  rw[BitVec.toNat_and]
  exact Nat.le_trans Nat.and_le_right (by decide)
 rw[X03 (by omega) (by omega)]
 omega
theorem Xvw (b:Bool):X4e b=some (if b then 1 else 0):=by cases b<;>rfl
theorem Xol {K a b:Int} (h1:5<=K) (h2:K<=19):∃ v,Xfn K a b=some (v,0):=by
 have hs:shOk (bits .and .i64 b 63)=some ():=by unfold shOk;rw[if_pos (X0ey b)]
 unfold Xfn
 simp only[Xvw,hs,Yo]
 rcases(by omega:K=5\/K=6\/K=7\/K=8\/K=9\/K=10\/K=11\/K=12\/K=13\/K=14\/K=15\/K=16\/K=17\/K=18\/K=19) with h|h|h|h|h|h|h|h|h|h|h|h|h|h|h<;>subst h<;>exact⟨_,rfl⟩
theorem Xwn {l:List X05} (env:V5 Int) (ho:∀ j x,l[j]?=some x->Xkd x j):∀ (xs:List X05) (k:Nat) (vs:List Int),l.drop k=xs->vs.length=l.length->∃ vs',X1k env l xs k vs=some (.x0 vs')/\vs'.length=l.length
 |[],k,vs,_,hv=>⟨vs,rfl,hv⟩
 |x::xs,k,vs,h,hv=>by
  have hk:l[k]?=some x:=by
   have:(l.drop k)[0]?=some x:=by rw[h];rfl
   simpa using this
  have hd:l.drop (k+1)=xs:=by
   have:(l.drop k).drop 1=xs:=by rw[h];rfl
   rw[List.drop_drop] at this;exact this
  have hlt:=(Ys.1 hk).1
  have hx:=ho k x hk
  have hg:X1p vs (k:Int)=some (vs[k]'(by omega)):=by rw[X3i];exact Ye _
  have go:∀ z,∃ vs',X1k env l xs (k+1) (vs.set (Int.toNat (k:Int)) z)=some (.x0 vs')/\vs'.length=l.length:=fun z=>Xwn env ho xs (k+1) _ hd (by rw[List.length_set];exact hv)
  rw[X1k]
  have h1:=hx.lo
  have h2:=hx.hi
  by_cases k1:x.Kind=1
  ·rw[show(x.Kind==1)=true by simp[k1],cond_true,hg,Yo];exact go _
  ·rw[show(x.Kind==1)=false by simp[k1],cond_false]
   by_cases k4:x.Kind<=4
   ·rw[Yt k4,cond_true,show(x.Kind==0)=false by simp;omega,hg]
    simp only[Yo,cond_false]
    rcases(by omega:x.Kind=2\/x.Kind=3\/x.Kind=4) with h|h|h
    ·rw[h];exact go _
    ·rw[h];exact go _
    ·rw[h];exact go _
   ·rw[Yf k4,cond_false]
    have hA:=hx.ak (by omega)
    have hB:=hx.bk (by omega)
    obtain⟨a,ha,_⟩:=Xfu (l:=vs) hx.a0 (by omega)
    obtain⟨b,hb,_⟩:=Xfu (l:=vs) hx.b0 (by omega)
    obtain⟨v,hdo⟩:=Xol (K:=x.Kind) (a:=a) (b:=b) (by omega) h2
    rw[ha,Yo,hb,Yo,hdo,hg]
    exact go _
def evV (l:List X05) (r:X7):Int:=match X67 l r with|some v=>v.1|none=>0
theorem Xho {l:List X05} (h0:∀ x∈l,0<=x.Kind) (h:(kOf l).2.2=0) (r:X7):X67 l r=some (evV l r,0):=by
 have hz:Xcy l=0:=by
  by_cases hz:Xcy l=0
  ·exact hz
  ·unfold kOf at h;rw[if_pos hz] at h;exact h
 obtain⟨h60,h1,_⟩:=Xa5 hz
 have:∃ v,X67 l r=some (v,0):=by
  unfold X67 Xg0 Xc0
  rw[Xhk h0,Yo,Yo,h]
  have hm:mkOk (l.length:Int) (l.length:Int) 8=some ():=by unfold mkOk;rw[if_pos ⟨by omega,rfl,by omega⟩]
  rw[hm,X19 (by omega)]
  obtain⟨vs,hvs,hl⟩:=Xwn (V5.mk 0 0 r.Key r.Time r.Value) (Xdi hz) l 0 (List.replicate (Int.toNat (l.length:Int)) 0) rfl (by simp)
  simp only[Yo]
  rw[show((l.length:Int)==0)=false from lz h1,hvs]
  simp only[bne_self_eq_false,cond_false,Yo]
  rw[hl,X03 (by omega) (by omega)]
  obtain⟨v,hv,_⟩:=Xfu (l:=vs) (i:=(l.length:Int) - 1) (by omega) (by omega)
  exact⟨v,by rw[hv];rfl⟩
 obtain⟨v,hv⟩:=this
 unfold evV
 rw[hv]
theorem Xig {l:List X05} {b:Bool} (h:(X2x l b).2=0):(kOf l).2.2=0:=by
 unfold X2x at h
 split at h
 ·cases h
 ·exact h
def Xd5:List (List Xk)->Int
 |[]=>0
 |x::xs=>if chk x≠0 then chk x else Xd5 xs
theorem Xia (Y:List (List Xk)):∀ (xs:List (List Xk)) (k:Nat),∃ o,X2u Y xs k=some o/\(match o with|.x0=>(0:Int)|.x1 z=>z)=Xd5 xs
 |[],k=>⟨_,rfl,rfl⟩
 |x::xs,k=>by
  rw[X2u,Xe8,Yo,Xd5]
  by_cases h:chk x=0
  ·rw[if_neg (by omega),h];exact Xia Y xs (k+1)
  ·rw[if_pos h,Xej h];exact⟨_,rfl,rfl⟩
theorem X9j {l:List (List Xk)} (hn:l.length<=1000):X5y l=some (Xd5 l):=by
 unfold X5y
 rw[X19 (by omega),Yo]
 obtain⟨o,h1,h2⟩:=Xia l l 0
 rw[h1,<-h2]
 cases o<;>rfl
theorem Xoc (Y:List (List Xk)):∀ (xs:List (List Xk)) (k:Nat),∃ o,X4x Y xs k=some o/\(match o with|.x0=>(0:Int)|.x1 z=>z)=Xd5 xs
 |[],k=>⟨_,rfl,rfl⟩
 |x::xs,k=>by
  rw[X4x,Xnj,Yo,Xd5]
  by_cases h:chk x=0
  ·rw[if_neg (by omega),h];exact Xoc Y xs (k+1)
  ·rw[if_pos h,Xej h];exact⟨_,rfl,rfl⟩
theorem Xng {l:List (List Xk)} (hn:l.length<=1000):Xbb l=some (Xd5 l):=by
 unfold Xbb
 rw[X19 (by omega),Yo]
 obtain⟨o,h1,h2⟩:=Xoc l l 0
 rw[h1,<-h2]
 cases o<;>rfl
theorem Xh8 {l:List (List Xk)}:Xd5 l=0↔∀ x∈l,chk x=0:=by
 induction l with
 |nil=>simp[Xd5]
 |cons x xs ih =>
  rw[Xd5]
  by_cases h:chk x=0
  ·rw[if_neg (by omega),ih];simp[h]
  ·rw[if_pos h];simp[h]
end Go.D


namespace Go.D
def X91 (p:Pu) (s:Xr):X8:=⟨p.1.Key,s,⟨if p.2=0 then ofA p.1.Value else Xd3,if p.2=1 then ofA p.1.Value else Xd3⟩⟩
theorem X3c (L:List Pu) (p:Pu) (k:Int) (s:Xr) (side:Int):vals (L++[p]) k s side=vals L k s side++(if p.1.Key=k/\inS s p.1.Time/\p.2=side then [p.1.Value] else []):=by
 unfold vals
 rw[List.filter_append,List.map_append]
 congr 1
 by_cases h:p.1.Key=k/\inS s p.1.Time/\p.2=side
 ·rw[if_pos h,List.filter_cons_of_pos (by simpa using h)];rfl
 ·rw[if_neg h,List.filter_cons_of_neg (by simpa using h)];rfl
theorem X7v (L:List Pu) (p:Pu) (k t:Int):X60 (L++[p]) k t↔X60 L k t\/(p.1.Key=k/\p.1.Time=t):=by
 unfold X60
 constructor
 ·rintro⟨q,hq,h⟩
  rcases List.mem_append.1 hq with h1|h1
  ·exact .inl ⟨q,h1,h⟩
  ·rw[List.mem_singleton.1 h1] at h;exact .inr h
 ·rintro(⟨q,hq,h⟩|h)
  ·exact⟨q,List.mem_append_left _ hq,h⟩
  ·exact⟨p,by simp,h⟩
structure Xvp (w:X0l) (L:List Pu):Prop where
 time:∀ p∈L,okT p.1.Time
 side:∀ p∈L,p.2=0\/p.2=1
 len:L.length<=240
theorem Xvp.init {w:X0l} {L:List Pu} {p:Pu} (h:Xvp w (L++[p])):Xvp w L:=⟨fun q hq=>h.time q (List.mem_append_left _ hq),fun q hq=>h.side q (List.mem_append_left _ hq),by have:=h.len;simp at this;omega⟩
theorem Xqn {L:List Pu} {k:Int} {s:Xr} (h:∀ t,X60 L k t->¬ inS s t) (side:Int):vals L k s side=[]:=by
 unfold vals
 rw[List.map_eq_nil_iff,List.filter_eq_nil_iff]
 intro p hp hc
 simp only[decide_eq_true_eq] at hc
 exact h p.1.Time ⟨p,hp,hc.1,rfl⟩ hc.2.1
theorem Xzq {L:List Pu} {k t:Int} {s:Xr} (hs:∀ p∈L,p.2=0\/p.2=1) (h:X60 L k t) (hi:inS s t):0<(vals L k s 0).length+(vals L k s 1).length:=by
 obtain⟨p,hp,hk,ht⟩:=h
 rcases hs p hp with h0|h0
 ·have:p.1.Value∈vals L k s 0:=List.mem_map.2 ⟨p,List.mem_filter.2 ⟨hp,by simp[hk,h0,ht,hi]⟩,rfl⟩
  have:=List.length_pos_of_mem this;omega
 ·have:p.1.Value∈vals L k s 1:=List.mem_map.2 ⟨p,List.mem_filter.2 ⟨hp,by simp[hk,h0,ht,hi]⟩,rfl⟩
  have:=List.length_pos_of_mem this;omega
structure Mid (w:X0l) (L:List Pu) (p:Pu) (done:Xr->Prop) (es:List X8):Prop where
 sorted:es.Pairwise ltE
 mem:∀ e,e∈es↔(e.Key=p.1.Key/\done e.Span/\e.Values=Xaq (L++[p]) e.Key e.Span)\/(¬ (e.Key=p.1.Key/\done e.Span)/\Xyz w L e)
theorem X02t {L:List Pu} {p:Pu} {s:Xr} (h:∀ t,X60 L p.1.Key t->¬ inS s t) (hi:inS s p.1.Time):Xaq (L++[p]) p.1.Key s=(X91 p s).Values:=by
 unfold Xaq X91
 rw[X3c,X3c,Xqn h,Xqn h]
 simp only[List.nil_append]
 congr 1
 ·by_cases h0:p.2=0
  ·rw[if_pos ⟨trivial,hi,h0⟩,if_pos h0,Xgo]
  ·rw[if_neg (fun hc=>h0 hc.2.2),if_neg h0,Xqe]
 ·by_cases h0:p.2=1
  ·rw[if_pos ⟨trivial,hi,h0⟩,if_pos h0,Xgo]
  ·rw[if_neg (fun hc=>h0 hc.2.2),if_neg h0,Xqe]
theorem Xyy {L:List Pu} {p:Pu} {s:Xr} (hl:L.length<=1000000) (hi:inS s p.1.Time) :
  Xaq (L++[p]) p.1.Key s=⟨X44 (Xaq L p.1.Key s).e0 (X91 p s).Values.e0,X44 (Xaq L p.1.Key s).e1 (X91 p s).Values.e1⟩:=by
 have ok:∀ side,okA (Xgp (vals L p.1.Key s side)):=fun side=>Xn8 (Nat.le_trans (Xov ..) (by omega))
 unfold Xaq X91
 rw[X3c,X3c]
 dsimp only
 congr 1
 ·by_cases h0:p.2=0
  ·rw[if_pos ⟨rfl,hi,h0⟩,if_pos h0,Xc2]
  ·rw[if_neg (fun hc=>h0 hc.2.2),if_neg h0,List.append_nil,Xl7 (ok 0)]
 ·by_cases h0:p.2=1
  ·rw[if_pos ⟨rfl,hi,h0⟩,if_pos h0,Xc2]
  ·rw[if_neg (fun hc=>h0 hc.2.2),if_neg h0,List.append_nil,Xl7 (ok 1)]
theorem Mid.step {w:X0l} {L:List Pu} {p:Pu} {done:Xr->Prop} {es:List X8} {s:Xr} (hk:w.Kind≠3) (hl:L.length<=1000000) (m:Mid w L p done es) (hs:¬ done s) (hi:Xmr w.Size (Xdo w) p.1.Time s) :
  Mid w L p (fun x=>done x\/x=s) (Xpd es (X91 p s)):=by
 have hin:inS s p.1.Time:=hi.2.2
 have hkey:∀ e:X8,X69 e (X91 p s)↔e.Key=p.1.Key/\e.Span=s:=fun e=>Iff.rfl
 refine⟨Xlt m.sorted,fun e=>?_⟩
 rw[Xpb m.sorted]
 by_cases he:X69 e (X91 p s)
 ·have he2:=(hkey e).1 he
  have hno:∀ y∈es,X69 y (X91 p s)->y=⟨p.1.Key,s,Xaq L p.1.Key s⟩/\Xak w (X60 L p.1.Key) s:=by
   intro y hy hsy
   have hy2:=(hkey y).1 hsy
   rcases(m.mem y).1 hy with ⟨_,h2,_⟩|⟨_,h2,h3⟩
   ·exact absurd (hy2.2▸h2) hs
   ·rw[hy2.1,hy2.2] at h3 h2
    refine⟨?_,h2⟩
    cases y;simp only at hy2 h3;rw[hy2.1,hy2.2,h3]
  have hval:e.Values=Xaq (L++[p]) e.Key e.Span↔((e∈es/\¬ X69 e (X91 p s))\/(∃ y∈es,X69 y (X91 p s)/\e=Xoj y (X91 p s))\/((∀ y∈es,¬ X69 y (X91 p s))/\e=X91 p s)):=by
   rw[he2.1,he2.2]
   by_cases hex:∃ y∈es,X69 y (X91 p s)
   ·obtain⟨y,hy,hsy⟩:=hex
    obtain⟨hyv,hyw⟩:=hno y hy hsy
    have hmg:Xoj y (X91 p s)=⟨p.1.Key,s,Xaq (L++[p]) p.1.Key s⟩:=by rw[Xyy hl hin,hyv];rfl
    constructor
    ·intro hv
     refine .inr (.inl ⟨y,hy,hsy,?_⟩)
     rw[hmg];cases e;simp only at he2 hv;rw[he2.1,he2.2,hv]
    ·rintro(⟨_,h⟩|⟨y',hy',hsy',h⟩|⟨h,_⟩)
     ·exact absurd he h
     ·have:y'=y:=by rw[(hno y' hy' hsy').1,hyv]
      rw[h,this,hmg]
     ·exact absurd hsy (h y hy)
   ·have hex':∀ y∈es,¬ X69 y (X91 p s):=fun y hy h=>hex ⟨y,hy,h⟩
    have hnone:∀ t,X60 L p.1.Key t->¬ inS s t:=by
     intro t ht hst
     have:(⟨p.1.Key,s,Xaq L p.1.Key s⟩:X8)∈es:=by
      rw[m.mem]
      refine .inr ⟨fun h=>hs h.2,?_,rfl⟩
      show Xak w (X60 L p.1.Key) s
      unfold Xak
      rw[if_neg hk]
      exact⟨t,ht,hi.1,hi.2.1,hst⟩
     exact hex' _ this ⟨rfl,rfl⟩
    have hvv:=X02t hnone hin
    constructor
    ·intro hv
     refine .inr (.inr ⟨hex',?_⟩)
     cases e;simp only at he2 hv;rw[he2.1,he2.2,hv,hvv];rfl
    ·rintro(⟨_,h⟩|⟨y',hy',hsy',_⟩|⟨_,h⟩)
     ·exact absurd he h
     ·exact absurd hsy' (hex' y' hy')
     ·rw[h,hvv]
  rw[<-hval]
  constructor
  ·intro h;exact .inl ⟨he2.1,.inr he2.2,h⟩
  ·rintro(⟨_,_,h⟩|⟨h,_⟩)
   ·exact h
   ·exact absurd ⟨he2.1,.inr he2.2⟩ h
 ·have hne:¬ (e.Key=p.1.Key/\e.Span=s):=fun h=>he ((hkey e).2 h)
  constructor
  ·rintro(⟨h1,_⟩|⟨y,hy,hsy,h⟩|⟨_,h⟩)
   ·rcases(m.mem e).1 h1 with ⟨a1,a2,a3⟩|⟨a1,a2⟩
    ·exact .inl ⟨a1,.inl a2,a3⟩
    ·exact .inr ⟨fun h=>a1 ⟨h.1,h.2.resolve_right fun hh=>hne ⟨h.1,hh⟩⟩,a2⟩
   ·exact absurd (by rw[h];exact⟨hsy.1,hsy.2⟩) he
   ·exact absurd (by rw[h];exact⟨rfl,rfl⟩) he
  ·rintro(⟨a1,a2,a3⟩|⟨a1,a2⟩)
   ·exact .inl ⟨(m.mem e).2 (.inl ⟨a1,a2.resolve_right fun hh=>hne ⟨a1,hh⟩,a3⟩),he⟩
   ·exact .inl ⟨(m.mem e).2 (.inr ⟨fun h=>a1 ⟨h.1,.inl h.2⟩,a2⟩),he⟩
theorem Mid.start {w:X0l} {L:List Pu} {p:Pu} {es:List X8} (c:X90 w L es):Mid w L p (fun _=>False) es:=by
 refine⟨c.sorted,fun e=>?_⟩
 rw[c.mem];simp
theorem Mid.end {w:X0l} {L:List Pu} {p:Pu} {es:List X8} {done:Xr->Prop} (hk:w.Kind≠3) (hd:∀ s,done s↔Xmr w.Size (Xdo w) p.1.Time s) (m:Mid w L p done es):X90 w (L++[p]) es:=by
 refine⟨m.sorted,fun e=>?_,fun h3=>absurd h3 hk⟩
 rw[m.mem]
 unfold Xyz Xak
 rw[if_neg hk,if_neg hk]
 by_cases he:e.Key=p.1.Key/\done e.Span
 ·constructor
  ·rintro(⟨_,_,h⟩|⟨h,_⟩)
   ·exact⟨⟨p.1.Time,(X7v ..).2 (.inr ⟨he.1.symm,rfl⟩),(hd _).1 he.2⟩,h⟩
   ·exact absurd he h
  ·rintro⟨_,h⟩;exact .inl ⟨he.1,he.2,h⟩
 ·have hv:Xaq (L++[p]) e.Key e.Span=Xaq L e.Key e.Span\/∀ t,X60 L e.Key t->¬ Xmr w.Size (Xdo w) t e.Span:=by
   by_cases hkk:p.1.Key=e.Key/\inS e.Span p.1.Time
   ·right
    intro t _ hw
    exact he ⟨hkk.1.symm,(hd _).2 ⟨hw.1,hw.2.1,hkk.2⟩⟩
   ·left
    unfold Xaq
    rw[X3c,X3c,if_neg (fun h=>hkk ⟨h.1,h.2.1⟩),if_neg (fun h=>hkk ⟨h.1,h.2.1⟩),List.append_nil,List.append_nil]
  constructor
  ·rintro(⟨h1,h2,_⟩|⟨_,⟨t,ht,hw⟩,h⟩)
   ·exact absurd ⟨h1,h2⟩ he
   ·refine⟨⟨t,(X7v ..).2 (.inl ht),hw⟩,?_⟩
    rcases hv with hv|hv
    ·rw[hv];exact h
    ·exact absurd hw (hv t ht)
  ·rintro⟨⟨t,ht,hw⟩,h⟩
   refine .inr ⟨he,?_⟩
   rcases(X7v ..).1 ht with ht|⟨hkey,htt⟩
   ·refine⟨⟨t,ht,hw⟩,?_⟩
    rcases hv with hv|hv
    ·rw[<-hv];exact h
    ·exact absurd hw (hv t ht)
   ·exact absurd ⟨hkey.symm,(hd _).2 (htt▸hw)⟩ he
end Go.D


namespace Go.D
theorem Xn0 {L:List Pu} (hl:L.length<=1000) (k:Int) (s:Xr):okA (Xaq L k s).e0/\okA (Xaq L k s).e1/\(Xaq L k s).e0.Count<=1000/\(Xaq L k s).e1.Count<=1000:=by
 have h0:=Xov L k s 0
 have h1:=Xov L k s 1
 refine⟨Xn8 (by omega),Xn8 (by omega),?_,?_⟩
 ·show(Xgp _).Count<=1000;rw[X4f];omega
 ·show(Xgp _).Count<=1000;rw[X4f];omega
theorem X0a2 (p:Pu) (s:Xr):okA (X91 p s).Values.e0/\okA (X91 p s).Values.e1/\(X91 p s).Values.e0.Count<=1/\(X91 p s).Values.e1.Count<=1:=by
 unfold X91
 dsimp only
 refine⟨?_,?_,?_,?_⟩
 ·split
  ·exact Xrc _
  ·exact Xos
 ·split
  ·exact Xrc _
  ·exact Xos
 ·split
  ·exact Int.le_refl _
  ·show(0:Int)<=1;decide
 ·split
  ·exact Int.le_refl _
  ·show(0:Int)<=1;decide
theorem Mid.vals {w:X0l} {L:List Pu} {p:Pu} {done:Xr->Prop} {es:List X8} (m:Mid w L p done es) (hl:L.length<=900) {e:X8} (he:e∈es):okA e.Values.e0/\okA e.Values.e1/\e.Values.e0.Count<=1000/\e.Values.e1.Count<=1000:=by
 rcases(m.mem e).1 he with ⟨_,_,h⟩|⟨_,_,h⟩
 ·rw[h];exact Xn0 (by simp;omega) _ _
 ·rw[h];exact Xn0 (by omega) _ _
theorem X0c6 {w:X0l} {L:List Pu} {p:Pu} (hk:w.Kind≠3) (hl:L.length<=900) (Y:List Xr):∀ (xs:List Xr) (k:Nat) (x0:X8) (l:List X8) (done:Xr->Prop),Mid w L p done l->xs.Nodup->(∀ s∈xs,¬ done s/\Xmr w.Size (Xdo w) p.1.Time s) ->
  x0.Key=p.1.Key->(∀ s,x0.Values=(X91 p s).Values)->l.length+xs.length<=9000->∃ l',X5a Y xs k x0 l=some (.x0 l')/\Mid w L p (fun s=>done s\/s∈xs) l'/\l'.length<=l.length+xs.length:=by
 intro xs
 induction xs with
 |nil=>intro k x0 l done m _ _ _ _ _;exact⟨l,rfl,by simpa using m,by simp⟩
 |cons s xs ih =>
  intro k x0 l done m hnd hs hk0 hv0 hlen
  rw[List.nodup_cons] at hnd
  have hs0:=hs s List.mem_cons_self
  have hx:(⟨x0.Key,s,x0.Values⟩:X8)=X91 p s:=by rw[hk0,hv0 s];rfl
  have er:=X0a2 p s
  have m2:=m.step hk (by omega) hs0.1 hs0.2
  simp only[List.length_cons] at hlen
  obtain⟨l',h1,h2,h3⟩:=ih (k+1) (X91 p s) (Xpd l (X91 p s)) _ m2 hnd.2 (fun x hxx=>⟨fun h=>h.elim (hs x (List.mem_cons_of_mem _ hxx)).1 (fun e=>hnd.1 (e▸hxx)),(hs x (List.mem_cons_of_mem _ hxx)).2⟩) rfl (fun _=>rfl) (by have:=Xpc l (X91 p s);omega)
  refine⟨l',?_,⟨h2.sorted,fun e=>?_⟩,by have:=Xpc l (X91 p s);simp only[List.length_cons];omega⟩
  ·rw[X5a]
   have key:∀ o,X5a Y xs (k+1) (X91 p s) (Xpd l (X91 p s))=some o->((Xp l (X8.mk x0.Key s x0.Values)).bind fun v1891=>bif (!v1891.2) then (bif (v1891.1==(List.length l:Int)) then (((X71 l v1891.1 (List.length l:Int)).bind fun m1903=>bif (List.isEmpty m1903) then ((X1l (List.length (l++[(X8.mk x0.Key s x0.Values)])) 88).bind fun u1906=>some ()) else ((X1l (List.length (l++[(X8.mk x0.Key s x0.Values)])) 88).bind fun u1908=>some ()):Option (Unit)).bind fun _=>some ((X8.mk ((X8.mk x0.Key s x0.Values).Key) ((X8.mk x0.Key s x0.Values).Span) (V2.mk (((X8.mk x0.Key s x0.Values).Values).e0) (((X8.mk x0.Key s x0.Values).Values).e1))),(l++[(X8.mk x0.Key s x0.Values)]),0)) else ((Xy7 l v1891.1 (X8.mk x0.Key s x0.Values) 88).bind fun m1911=>some ((X8.mk x0.Key s x0.Values),m1911,0))) else ((X1p l v1891.1).bind fun e1913=>((X2m e1913.Values.e0 x0.Values.e0).bind fun v1928=>bif (v1928.2 != (0:Int)) then (some (l,v1928.2)) else ((X2m (((X8.mk e1913.Key e1913.Span (V2.mk v1928.1 e1913.Values.e1)).Values).e1) x0.Values.e1).bind fun v1933=>bif (v1933.2 != (0:Int)) then (some ((List.set l (Int.toNat v1891.1) (X8.mk e1913.Key e1913.Span (V2.mk v1928.1 e1913.Values.e1))),v1933.2)) else (some ((List.set (List.set l (Int.toNat v1891.1) (X8.mk e1913.Key e1913.Span (V2.mk v1928.1 e1913.Values.e1))) (Int.toNat v1891.1) (X8.mk ((X8.mk e1913.Key e1913.Span (V2.mk v1928.1 e1913.Values.e1)).Key) ((X8.mk e1913.Key e1913.Span (V2.mk v1928.1 e1913.Values.e1)).Span) (V2.mk (((X8.mk e1913.Key e1913.Span (V2.mk v1928.1 e1913.Values.e1)).Values).e0) v1933.1))),0))):Option ((List X8)×Int)).bind fun w1925=>some ((X8.mk ((X8.mk x0.Key s x0.Values).Key) ((X8.mk x0.Key s x0.Values).Span) (V2.mk (((X8.mk x0.Key s x0.Values).Values).e0) (((X8.mk x0.Key s x0.Values).Values).e1))),w1925.1,w1925.2)):Option (X8×(List X8)×Int))=some (X91 p s,Xpd l (X91 p s),0):=by
    intro o _
    rw[X0c3 m.sorted (by omega),X00k m.sorted]
    have hle:=X034 l (X91 p s)
    have hval:x0.Values=(X91 p s).Values:=hv0 s
    rw[hx,hval]
    cases h:l[cnt l (X91 p s)]? with
    |none =>
     have hc:cnt l (X91 p s)=l.length:=by have:=List.getElem?_eq_none_iff.1 h;omega
     have hsl:X71 l (l.length:Int) (l.length:Int)=some []:=by simp[X71]
     simp only[Yo,Bool.not_false,cond_true,hc,beq_self_eq_true,hsl]
     rw[X1y (by simp;omega)]
     rfl
    |some y =>
     have hlt:cnt l (X91 p s)<l.length:=(Ys.1 h).1
     simp only[Yo]
     by_cases hkk:X69 y (X91 p s)
     ·obtain⟨a1,a2,a3,a4⟩:=m.vals hl (Yg h)
      simp only[hkk,decide_true,Bool.not_true,cond_false,X3i,h,Yo,X51 a1 er.1 (by omega),X51 a2 er.2.1 (by omega),bne_self_eq_false,if_true,Int.toNat_natCast,List.set_set]
      rfl
     ·have hne:((cnt l (X91 p s):Int)==(l.length:Int))=false:=by simp;omega
      have hi:Xy7 l (cnt l (X91 p s):Int) (X91 p s) 88=some (l.take (cnt l (X91 p s))++X91 p s::l.drop (cnt l (X91 p s))):=by
       unfold Xy7;rw[if_pos ⟨by omega,by simpa using hlt,by omega⟩];simp
      simp only[hkk,decide_false,Bool.not_false,cond_true,hne,cond_false,hi,Yo,if_false]
   rw[key _ h1,Yo]
   simp only[bne_self_eq_false,cond_false]
   exact h1
  ·rw[h2.mem]
   simp only[List.mem_cons,or_assoc]
theorem Xn7 {w:X0l} {L:List Pu} {es:List X8} (hw:okW w) (hL:Xvp w L) (c:X90 w L es):∀ e∈es,okE e:=by
 intro e he
 obtain⟨h1,h2⟩:=(c.mem e).1 he
 have hlen:=hL.len
 obtain⟨v1,v2,v3,v4⟩:=Xn0 (L:=L) (by omega) e.Key e.Span
 rw[<-h2] at v1 v2 v3 v4
 have hpos:∀ t,X60 L e.Key t->inS e.Span t->0<e.Values.e0.Count+e.Values.e1.Count:=by
  intro t ht hi
  have:=Xzq hL.side ht hi
  rw[h2]
  show 0<(Xgp _).Count+(Xgp _).Count
  rw[X4f,X4f];omega
 have htime:∀ t,X60 L e.Key t->okT t:=by
  rintro t ⟨p,hp,_,rfl⟩;exact hL.time p hp
 obtain⟨w1,w2,w3⟩:=hw
 unfold Xak at h1
 by_cases hk:w.Kind=3
 ·rw[if_pos hk] at h1
  obtain⟨s1,s2,s3,s4⟩:=h1
  obtain⟨t,ht,a1,a2⟩:=s2 (2*e.Span.Start+1) (by omega) (by omega)
  have hts:t=e.Span.Start:=by
   have:¬ (2*t<2*e.Span.Start):=fun h=>s3 ⟨t,ht,h,by omega⟩
   omega
  obtain⟨t',ht',b1,b2⟩:=s2 (2*e.Span.End - 1) (by omega) (by omega)
  have hte:t'+w.Size=e.Span.End:=by
   have:¬ (2*e.Span.End<2*(t'+w.Size)):=fun h=>s4 ⟨t',ht',by omega,h⟩
   omega
  have q1:=htime t ht
  have q2:=htime t' ht'
  unfold okT at q1 q2
  exact⟨by omega,s1,by omega,v1,v2,hpos t ht ⟨by omega,by omega⟩⟩
 ·rw[if_neg hk] at h1
  obtain⟨t,ht,a1,a2,a3,a4⟩:=h1
  have q1:=htime t ht
  unfold okT at q1
  exact⟨by omega,by omega,by omega,v1,v2,hpos t ht ⟨a3,a4⟩⟩
theorem Xlh {w:X0l} {L:List Pu} {p:Pu} {es:List X8} (hw:okW w) (hk:w.Kind≠3) (hL:Xvp w (L++[p])) (c:X90 w L es) (hn:es.length<=3900) :
  ∃ es',Xa1 es w p.1 p.2=some (es',0)/\X90 w (L++[p]) es'/\es'.length<=es.length+16:=by
 have ht:=hL.time p (by simp)
 have hsd:=hL.side p (by simp)
 have hll:=hL.init.len
 obtain⟨W,hW,hWl,hWn,hWm⟩:=Xlj hw hk ht
 obtain⟨l',h1,h2,h3⟩:=X0c6 (w:=w) (L:=L) (p:=p) hk (by omega) W W 0 (X91 p ⟨0,0⟩) es _ (Mid.start c) hWn (fun s hs=>⟨fun h=>h,(hWm s).1 hs⟩) rfl (fun _=>rfl) (by omega)
 refine⟨l',?_,Mid.end hk (fun s=>by simpa using hWm s) h2,by omega⟩
 unfold Xa1
 have e1:(bif (p.2 != 0) then (p.2 != 1) else false)=false:=by rcases hsd with h|h<;>simp[h]
 have e2:(bif (decide (p.1.Time<((-1099511627776):Int))) then true else (decide (p.1.Time>(1099511627776:Int))))=false:=by
  unfold okT at ht
  have a:decide (p.1.Time<((-1099511627776):Int))=false:=by simp;omega
  have b:decide (p.1.Time>(1099511627776:Int))=false:=by simp;omega
  rw[a,b];rfl
 have e3:((Xc1 p.1.Value).bind fun v14=>bif (p.2==(0:Int)) then (some (X8.mk p.1.Key (Xr.mk 0 0) (V2.mk v14 (X0b.mk 0 0 0 0)))) else (bif (p.2==(1:Int)) then (some (X8.mk p.1.Key (Xr.mk 0 0) (V2.mk (X0b.mk 0 0 0 0) v14))) else none):Option (X8))=some (X91 p ⟨0,0⟩):=by
  simp only[Xc1,Yo]
  rcases hsd with h|h
  ·simp[h,X91,ofA,Xd3]
  ·simp[h,X91,ofA,Xd3]
 have e4:(bif (List.isEmpty es) then (some es) else ((X1l (List.length es) 88).bind fun u28=>some es):Option ((List X8)))=some es:=by
  rw[X1y (by omega)]
  cases List.isEmpty es<;>rfl
 have e5:(w.Kind==3)=false:=by simp[hk]
 rw[Xcs c.sorted (Xn7 hw hL.init c) (by omega),Yo]
 simp only[bne_self_eq_false,cond_false,X57 hw,Yo,e1,e2]
 rw[e3,Yo,e4,Yo]
 simp only[e5,cond_false,hW,Yo,bne_self_eq_false]
 rw[X19 (by omega),Yo,h1,Yo]
 have e6:decide ((l'.length:Int)>4000)=false:=by simp;omega
 simp only[e6,cond_false]
end Go.D


namespace Go.D
theorem Xdu {size:Int} {T:Int->Prop} {a b:Xr} (ha:Xff size T a) (hb:Xff size T b) (h1:a.Start<b.End) (h2:b.Start<a.End):a=b:=by
 obtain⟨a1,a2,a3,a4⟩:=ha
 obtain⟨b1,b2,b3,b4⟩:=hb
 apply Xc9
 ·rcases Xt3 a.Start b.Start with h|h
  ·exact absurd (a2 (2*b.Start) (by omega) (by omega)) b3
  ·rcases Xt3 b.Start a.Start with h'|h'
   ·exact absurd (b2 (2*a.Start) (by omega) (by omega)) a3
   ·omega
 ·rcases Xt3 a.End b.End with h|h
  ·exact absurd (b2 (2*a.End) (by omega) (by omega)) a4
  ·rcases Xt3 b.End a.End with h'|h'
   ·exact absurd (a2 (2*b.End) (by omega) (by omega)) b4
   ·omega
theorem Xir {size:Int} {T T':Int->Prop} (h:∀ t,T t->T' t) {x:Int} (c:cov size T x):cov size T' x:=by
 obtain⟨t,h1,h2⟩:=c;exact⟨t,h t h1,h2⟩
def Xb1 (L:List Pu) (k:Int) (M:List X8) (side:Int):List Int:=(L.filter fun q=>decide (q.1.Key=k/\(∃ m∈M,inS m.Span q.1.Time)/\q.2=side)).map fun q=>q.1.Value
def pv (p:Pu) (side:Int):List Int:=if p.2=side then [p.1.Value] else []
theorem X02q {α:Type} (a b:α->Bool):∀ (l:List α),(∀ q∈l,¬ (a q=true/\b q=true))->(l.filter fun q=>a q||b q).Perm (l.filter a++l.filter b):=by
 intro l
 induction l with
 |nil=>intro _;simp
 |cons x l ih =>
  intro h
  have ih':=ih fun q hq=>h q (List.mem_cons_of_mem _ hq)
  have hx:=h x List.mem_cons_self
  cases ha:a x with
  |true =>
   have hb:b x=false:=by cases hb:b x with|true=>exact absurd ⟨ha,hb⟩ hx|false=>rfl
   rw[List.filter_cons_of_pos (by simp[ha]),List.filter_cons_of_pos ha,List.filter_cons_of_neg (by simp[hb])]
   exact ih'.cons x
  |false =>
   cases hb:b x with
   |true =>
    rw[List.filter_cons_of_pos (by simp[hb]),List.filter_cons_of_neg (by simp[ha]),List.filter_cons_of_pos hb]
    exact(ih'.cons x).trans List.perm_middle.symm
   |false =>
    rw[List.filter_cons_of_neg (by simp[ha,hb]),List.filter_cons_of_neg (by simp[ha]),List.filter_cons_of_neg (by simp[hb])]
    exact ih'
theorem Xte {L:List Pu} {k:Int} {M:List X8} {y:X8} {side:Int} (h:∀ q∈L,q.1.Key=k->inS y.Span q.1.Time->¬ ∃ m∈M,inS m.Span q.1.Time) :
  (Xb1 L k (y::M) side).Perm (Xb1 L k M side++vals L k y.Span side):=by
 unfold Xb1 vals
 rw[<-List.map_append]
 refine List.Perm.map _ ?_
 have h1:=X02q (fun q:Pu=>decide (q.1.Key=k/\(∃ m∈M,inS m.Span q.1.Time)/\q.2=side)) (fun q=>decide (q.1.Key=k/\inS y.Span q.1.Time/\q.2=side)) L (fun q hq hc=>by
  simp only[decide_eq_true_eq] at hc
  exact h q hq hc.1.1 hc.2.2.1 hc.1.2.1)
 refine List.Perm.trans (List.Perm.of_eq ?_) h1
 refine List.filter_congr fun q _=>?_
 rw[Bool.eq_iff_iff]
 simp only[decide_eq_true_eq,Bool.or_eq_true,List.mem_cons]
 constructor
 ·rintro⟨a1,⟨m,hm|hm,hi⟩,a2⟩
  ·exact .inr ⟨a1,by rw[<-hm];exact hi,a2⟩
  ·exact .inl ⟨a1,⟨m,hm,hi⟩,a2⟩
 ·rintro(⟨a1,⟨m,hm,hi⟩,a2⟩|⟨a1,hi,a2⟩)
  ·exact⟨a1,⟨m,.inr hm,hi⟩,a2⟩
  ·exact⟨a1,⟨y,.inl rfl,hi⟩,a2⟩
theorem Xd6 (L:List Pu) (k:Int) (M:List X8) (side:Int):(Xb1 L k M side).length<=L.length:=by unfold Xb1;rw[List.length_map];exact List.length_filter_le _ _
theorem Xr7 (p:Pu) (side:Int):(pv p side).length<=1:=by unfold pv;split<;>simp
def olap (x y:X8):Prop:=y.Key=x.Key/\y.Span.Start<x.Span.End/\x.Span.Start<y.Span.End
instance (x y:X8):Decidable (olap x y):=by unfold olap;infer_instance
structure Ses (w:X0l) (L:List Pu) (p:Pu) (es l:List X8) (x:X8) (M:List X8):Prop where
 sub:l.Sublist es
 part:∀ e,e∈es↔e∈l\/e∈M
 apart:∀ e∈l,e ∉ M
 keyM:∀ m∈M,m.Key=p.1.Key
 key:x.Key=p.1.Key
 own:x.Span.Start<=p.1.Time/\p.1.Time+w.Size<=x.Span.End
 inner:∀ z,2*x.Span.Start<z->z<2*x.Span.End->cov w.Size (fun t=>X60 L p.1.Key t\/t=p.1.Time) z
 hull:∀ m∈M,x.Span.Start<=m.Span.Start/\m.Span.End<=x.Span.End
 val0:x.Values.e0=Xgp (pv p 0++Xb1 L p.1.Key M 0)
 val1:x.Values.e1=Xgp (pv p 1++Xb1 L p.1.Key M 1)
theorem X03i (p:Pu) (s:Xr):(X91 p s).Values.e0=Xgp (pv p 0)/\(X91 p s).Values.e1=Xgp (pv p 1):=by
 unfold X91 pv
 constructor
 ·dsimp only;split
  ·exact(Xgo _).symm
  ·rfl
 ·dsimp only;split
  ·exact(Xgo _).symm
  ·rfl
theorem Ses.start {w:X0l} {L:List Pu} {p:Pu} {es:List X8} (hw:1<=w.Size):Ses w L p es es (X91 p ⟨p.1.Time,p.1.Time+w.Size⟩) []:=by
 have hv:∀ side,Xb1 L p.1.Key [] side=[]:=fun side=>by unfold Xb1;simp
 refine⟨.refl _,fun e=>by simp,fun e _=>by simp,fun m hm=>(by cases hm),rfl,⟨Int.le_refl _,Int.le_refl _⟩,fun z h1 h2=>?_,fun m hm=>(by cases hm),?_,?_⟩
 ·exact⟨p.1.Time,.inr rfl,h1,h2⟩
 ·rw[hv,List.append_nil];exact(X03i p _).1
 ·rw[hv,List.append_nil];exact(X03i p _).2
def Xs7 (x y:X8):X8:=⟨x.Key,⟨if y.Span.Start<x.Span.Start then y.Span.Start else x.Span.Start,if y.Span.End>x.Span.End then y.Span.End else x.Span.End⟩,⟨X44 x.Values.e0 y.Values.e0,X44 x.Values.e1 y.Values.e1⟩⟩
theorem Ses.step {w:X0l} {L:List Pu} {p:Pu} {es l:List X8} {x:X8} {M:List X8} (hk:w.Kind=3) (hl:L.length<=900) (c:X90 w L es) (s:Ses w L p es l x M) {i:Nat} {y:X8} (hi:l[i]?=some y) (ho:olap x y) :
  Ses w L p es (l.take i++l.drop (i+1)) (Xs7 x y) (y::M):=by
 have hyl:y∈l:=Yg hi
 have hye:y∈es:=(s.part y).2 (.inl hyl)
 have hyM:=s.apart y hyl
 have hky:y.Key=p.1.Key:=ho.1.trans s.key
 obtain⟨hyw,hyv⟩:=(c.mem y).1 hye
 unfold Xak at hyw
 rw[if_pos hk,hky] at hyw
 rw[hky] at hyv
 have hlt:i<l.length:=(Ys.1 hi).1
 have hsplit:l=l.take i++y::l.drop (i+1):=by
  have:l[i]=y:=(Ys.1 hi).2
  rw[<-this,<-List.drop_eq_getElem_cons hlt,List.take_append_drop]
 have hnd:l.Nodup:=s.sub.nodup (List.Pairwise.imp (R:=ltE) (S:=fun a b=>a≠b) (fun {a b} h (e:a=b)=>Xji b (by rw[e] at h;exact h)) c.sorted)
 have hyn:y ∉ l.take i++l.drop (i+1):=by
  rw[hsplit] at hnd
  exact(List.nodup_cons.1 (List.perm_middle.nodup_iff.1 hnd)).1
 have hmem:∀ e,e∈l↔e=y\/e∈l.take i++l.drop (i+1):=by
  intro e
  rw[hsplit]
  simp only[List.mem_append,List.mem_cons]
  rw[<-hsplit]
  constructor
  ·rintro(h|h|h)
   ·exact .inr (.inl h)
   ·exact .inl h
   ·exact .inr (.inr h)
  ·rintro(h|h|h)
   ·exact .inr (.inl h)
   ·exact .inl h
   ·exact .inr (.inr h)
 have hdis:∀ q∈L,q.1.Key=p.1.Key->inS y.Span q.1.Time->¬ ∃ m∈M,inS m.Span q.1.Time:=by
  rintro q hq _ hyq ⟨m,hm,hmq⟩
  have hme:m∈es:=(s.part m).2 (.inr hm)
  obtain⟨hmw,hmv⟩:=(c.mem m).1 hme
  unfold Xak at hmw
  rw[if_pos hk,s.keyM m hm] at hmw
  rw[s.keyM m hm] at hmv
  unfold inS at hyq hmq
  have hsp:y.Span=m.Span:=Xdu hyw hmw (by omega) (by omega)
  have:y=m:=by cases y;cases m;simp only at hky hyv hsp hmv;simp only[X8.mk.injEq];exact⟨hky.trans (s.keyM _ hm).symm,hsp,by rw[hyv,hmv,hsp]⟩
  exact hyM (this▸hm)
 have hval:∀ side,(pv p side++Xb1 L p.1.Key M side).length<=1073741824:=fun side=>by
  have:=Xr7 p side;have:=Xd6 L p.1.Key M side;simp;omega
 have hperm:∀ side,Xgp (pv p side++Xb1 L p.1.Key (y::M) side)=X44 (Xgp (pv p side++Xb1 L p.1.Key M side)) (Xgp (vals L p.1.Key y.Span side)):=fun side=>by
  have hp:=(Xte (L:=L) (k:=p.1.Key) (M:=M) (y:=y) (side:=side) hdis).append_left (pv p side)
  rw[Xsy hp (by have:=Xr7 p side;have:=Xd6 L p.1.Key (y::M) side;simp;omega),<-List.append_assoc,X7t]
 obtain⟨_,o1,o2⟩:=ho
 refine⟨?_,fun e=>?_,fun e he hm=>?_,fun m hm=>?_,s.key,?_,fun z h1 h2=>?_,fun m hm=>?_,?_,?_⟩
 ·refine List.Sublist.trans ?_ s.sub
  conv=>rhs;rw[hsplit]
  exact List.Sublist.append_left (List.sublist_cons_self _ _) _
 ·rw[s.part,hmem,List.mem_cons]
  constructor
  ·rintro((h|h)|h)
   ·exact .inr (.inl h)
   ·exact .inl h
   ·exact .inr (.inr h)
  ·rintro(h|h|h)
   ·exact .inl (.inr h)
   ·exact .inl (.inl h)
   ·exact .inr h
 ·rcases List.mem_cons.1 hm with h|h
  ·exact hyn (h▸he)
  ·exact s.apart e ((hmem e).2 (.inr he)) h
 ·rcases List.mem_cons.1 hm with h|h
  ·rw[h];exact hky
  ·exact s.keyM m h
 ·have:=s.own
  unfold Xs7
  constructor
  ·dsimp only;split<;>omega
  ·dsimp only;split<;>omega
 ·have hz:(2*x.Span.Start<z/\z<2*x.Span.End)\/(2*y.Span.Start<z/\z<2*y.Span.End):=by
   unfold Xs7 at h1 h2
   dsimp only at h1 h2
   split at h1<;>split at h2<;>omega
  rcases hz with ⟨g1,g2⟩|⟨g1,g2⟩
  ·exact s.inner z g1 g2
  ·exact Xir (fun t h=>.inl h) (hyw.2.1 z g1 g2)
 ·have hx:(Xs7 x y).Span.Start<=x.Span.Start/\x.Span.End<=(Xs7 x y).Span.End/\(Xs7 x y).Span.Start<=y.Span.Start/\y.Span.End<=(Xs7 x y).Span.End:=by
   unfold Xs7;dsimp only
   refine⟨?_,?_,?_,?_⟩<;>split<;>omega
  rcases List.mem_cons.1 hm with h|h
  ·rw[h];exact⟨hx.2.2.1,hx.2.2.2⟩
  ·have:=s.hull m h;omega
 ·show X44 x.Values.e0 y.Values.e0=_
  rw[hperm,s.val0,hyv];rfl
 ·show X44 x.Values.e1 y.Values.e1=_
  rw[hperm,s.val1,hyv];rfl
theorem Ses.end {w:X0l} {L:List Pu} {p:Pu} {es l:List X8} {x:X8} {M:List X8} (hk:w.Kind=3) (hw:1<=w.Size) (hl:L.length<=900) (c:X90 w L es) (s:Ses w L p es l x M) (hno:∀ y∈l,¬ olap x y):X90 w (L++[p]) (Xpd l x):=by
 have hsl:l.Pairwise ltE:=c.sorted.sublist s.sub
 have hxx:x.Span.Start<x.Span.End:=by have:=s.own;omega
 have hnl:∀ y∈l,y.Key=p.1.Key->¬ (y.Span.Start<x.Span.End/\x.Span.Start<y.Span.End):=fun y hy hky h=>hno y hy ⟨hky.trans s.key.symm,h.1,h.2⟩
 have hT:(X60 (L++[p]) p.1.Key)=fun t=>X60 L p.1.Key t\/t=p.1.Time:=by
  funext t;apply propext;rw[X7v]
  exact⟨fun h=>h.imp id fun h=>h.2.symm,fun h=>h.imp id fun h=>⟨rfl,h.symm⟩⟩
 have hes:∀ e∈es,e.Key=p.1.Key->Xff w.Size (X60 L p.1.Key) e.Span:=by
  intro e he hke
  have:=((c.mem e).1 he).1
  unfold Xak at this
  rw[if_pos hk,hke] at this;exact this
 have hxw:Xff w.Size (fun t=>X60 L p.1.Key t\/t=p.1.Time) x.Span:=by
  refine⟨hxx,s.inner,?_,?_⟩
  ·rintro⟨t,ht|ht,h1,h2⟩
   ·obtain⟨e,he,hke,a1,a2⟩:=c.cover hk _ t ht
    rcases(s.part e).1 he with h|h
    ·exact hnl e h hke ⟨by omega,by omega⟩
    ·have:=s.hull e h;omega
   ·have:=s.own;omega
  ·rintro⟨t,ht|ht,h1,h2⟩
   ·obtain⟨e,he,hke,a1,a2⟩:=c.cover hk _ t ht
    rcases(s.part e).1 he with h|h
    ·exact hnl e h hke ⟨by omega,by omega⟩
    ·have:=s.hull e h;omega
   ·have:=s.own;omega
 have hpin:inS x.Span p.1.Time:=by have:=s.own;unfold inS;omega
 have hxv:x.Values=Xaq (L++[p]) p.1.Key x.Span:=by
  have hv:∀ side,Xgp (pv p side++Xb1 L p.1.Key M side)=Xgp (vals (L++[p]) p.1.Key x.Span side):=by
   intro side
   have h1:vals L p.1.Key x.Span side=Xb1 L p.1.Key M side:=by
    unfold vals Xb1
    congr 1
    refine List.filter_congr fun q hq=>?_
    rw[Bool.eq_iff_iff]
    simp only[decide_eq_true_eq]
    constructor
    ·rintro⟨a1,a2,a3⟩
     refine⟨a1,?_,a3⟩
     obtain⟨e,he,hke,b1,b2⟩:=c.cover hk _ q.1.Time ⟨q,hq,a1,rfl⟩
     unfold inS at a2
     rcases(s.part e).1 he with h|h
     ·exact absurd ⟨by omega,by omega⟩ (hnl e h hke)
     ·exact⟨e,h,by unfold inS;omega⟩
    ·rintro⟨a1,⟨m,hm,b1,b2⟩,a3⟩
     have:=s.hull m hm
     exact⟨a1,⟨by omega,by omega⟩,a3⟩
   have h2:(if p.1.Key=p.1.Key/\inS x.Span p.1.Time/\p.2=side then [p.1.Value] else [])=pv p side:=by
    unfold pv
    by_cases h:p.2=side
    ·rw[if_pos ⟨rfl,hpin,h⟩,if_pos h]
    ·rw[if_neg (fun hc=>h hc.2.2),if_neg h]
   rw[X3c,h1,h2]
   exact Xsy List.perm_append_comm (by have:=Xr7 p side;have:=Xd6 L p.1.Key M side;simp;omega)
  have h0:=s.val0
  have h1:=s.val1
  rw[hv] at h0 h1
  unfold Xaq
  rw[<-h0,<-h1]
 have hns:∀ y∈l,¬ X69 y x:=fun y hy hs=>hno y hy ⟨hs.1,by rw[hs.2];exact hxx,by rw[hs.2];exact hxx⟩
 have hput:∀ e,e∈Xpd l x↔e∈l\/e=x:=by
  intro e
  rw[Xpb hsl]
  constructor
  ·rintro(⟨h,_⟩|⟨y,hy,hs,_⟩|⟨_,h⟩)
   ·exact .inl h
   ·exact absurd hs (hns y hy)
   ·exact .inr h
  ·rintro(h|h)
   ·exact .inl ⟨h,hns e h⟩
   ·exact .inr (.inr ⟨hns,h⟩)
 refine⟨Xlt hsl,fun e=>?_,fun _ k t ht=>?_⟩
 ·rw[hput]
  unfold Xyz Xak
  rw[if_pos hk]
  by_cases hke:e.Key=p.1.Key
  ·rw[hke,hT]
   have hsame:¬ (e.Span.Start<x.Span.End/\x.Span.Start<e.Span.End)->(Xff w.Size (fun t=>X60 L p.1.Key t\/t=p.1.Time) e.Span/\e.Values=Xaq (L++[p]) p.1.Key e.Span↔Xff w.Size (X60 L p.1.Key) e.Span/\e.Values=Xaq L p.1.Key e.Span):=by
    intro hn
    have hown:=s.own
    have hpn:e.Span.Start<e.Span.End->¬ inS e.Span p.1.Time:=fun h hi=>by unfold inS at hi;exact hn ⟨by omega,by omega⟩
    have hvv:e.Span.Start<e.Span.End->Xaq (L++[p]) p.1.Key e.Span=Xaq L p.1.Key e.Span:=fun h=>by
     unfold Xaq
     rw[X3c,X3c,if_neg (fun hc=>hpn h hc.2.1),if_neg (fun hc=>hpn h hc.2.1),List.append_nil,List.append_nil]
    constructor
    ·rintro⟨⟨a1,a2,a3,a4⟩,hv⟩
     refine⟨⟨a1,fun z h1 h2=>?_,fun h=>a3 (Xir (fun t h=>.inl h) h),fun h=>a4 (Xir (fun t h=>.inl h) h)⟩,by rw[hv,hvv a1]⟩
     obtain⟨t,ht|ht,b1,b2⟩:=a2 z h1 h2
     ·exact⟨t,ht,b1,b2⟩
     ·exact absurd ⟨by omega,by omega⟩ hn
    ·rintro⟨⟨a1,a2,a3,a4⟩,hv⟩
     refine⟨⟨a1,fun z h1 h2=>Xir (fun t h=>.inl h) (a2 z h1 h2),?_,?_⟩,by rw[hv,hvv a1]⟩
     ·rintro⟨t,ht|ht,b1,b2⟩
      ·exact a3 ⟨t,ht,b1,b2⟩
      ·exact hn ⟨by omega,by omega⟩
     ·rintro⟨t,ht|ht,b1,b2⟩
      ·exact a4 ⟨t,ht,b1,b2⟩
      ·exact hn ⟨by omega,by omega⟩
   constructor
   ·rintro(h|h)
    ·have he:e∈es:=(s.part e).2 (.inl h)
     refine(hsame (hnl e h hke)).2 ⟨hes e he hke,?_⟩
     have:=((c.mem e).1 he).2
     rw[hke] at this;exact this
    ·rw[h];exact⟨hxw,hxv⟩
   ·intro h
    by_cases hov:e.Span.Start<x.Span.End/\x.Span.Start<e.Span.End
    ·right
     have hsp:=Xdu h.1 hxw hov.1 hov.2
     have hkx:=s.key
     obtain⟨_,h2⟩:=h
     rw[hsp] at h2
     cases e;cases x
     simp only at hke hsp h2 hkx hxv
     simp only[X8.mk.injEq]
     exact⟨hke.trans hkx.symm,hsp,by rw[h2,hxv]⟩
    ·left
     have h3:=(hsame hov).1 h
     have he:e∈es:=(c.mem e).2 ⟨by unfold Xak;rw[if_pos hk,hke];exact h3.1,by rw[hke];exact h3.2⟩
     rcases(s.part e).1 he with h4|h4
     ·exact h4
     ·have:=s.hull e h4
      exact absurd ⟨by have:=h3.1.1;omega,by have:=h3.1.1;omega⟩ hov
  ·have hT2:X60 (L++[p]) e.Key=X60 L e.Key:=by
    funext t;apply propext;rw[X7v]
    exact⟨fun h=>h.resolve_right fun hc=>hke hc.1.symm,.inl⟩
   have hV2:Xaq (L++[p]) e.Key e.Span=Xaq L e.Key e.Span:=by
    unfold Xaq
    rw[X3c,X3c,if_neg (fun hc=>hke hc.1.symm),if_neg (fun hc=>hke hc.1.symm),List.append_nil,List.append_nil]
   rw[hT2,hV2]
   constructor
   ·rintro(h|h)
    ·have:=(c.mem e).1 ((s.part e).2 (.inl h))
     unfold Xyz Xak at this
     rw[if_pos hk] at this;exact this
    ·exact absurd (by rw[h];exact s.key) hke
   ·intro h
    have he:e∈es:=(c.mem e).2 (by unfold Xyz Xak;rw[if_pos hk];exact h)
    rcases(s.part e).1 he with h4|h4
    ·exact .inl h4
    ·exact absurd (s.keyM e h4) hke
 ·rcases(X7v ..).1 ht with ht|⟨h1,h2⟩
  ·obtain⟨e,he,hke,a1,a2⟩:=c.cover hk k t ht
   rcases(s.part e).1 he with h|h
   ·exact⟨e,(hput e).2 (.inl h),hke,a1,a2⟩
   ·have:=s.hull e h
    exact⟨x,(hput x).2 (.inr rfl),s.key.trans ((s.keyM e h).symm.trans hke),by omega,by omega⟩
  ·have:=s.own
   exact⟨x,(hput x).2 (.inr rfl),s.key.trans h1,by omega,by omega⟩
end Go.D


namespace Go.D
theorem X06a (Y:List X8) (x:X8):∀ (xs:List X8) (k:Nat),(Xq Y x xs k=some .x0/\∀ y∈xs,¬ olap x y) \/
  ∃ (i:Nat) (y:X8),Xq Y x xs k=some (.x1 ((k+i:Nat):Int))/\xs[i]?=some y/\olap x y:=by
 intro xs
 induction xs with
 |nil=>intro k;exact .inl ⟨rfl,fun y hy=>by cases hy⟩
 |cons z xs ih =>
  intro k
  rw[Xq]
  by_cases h:olap x z
  ·right
   have:(bif (bif (z.Key==x.Key) then (decide (z.Span.Start<x.Span.End)) else false) then (decide (x.Span.Start<z.Span.End)) else false)=true:=by
    obtain⟨h1,h2,h3⟩:=h;simp[h1,h2,h3]
   rw[this,cond_true]
   exact⟨0,z,rfl,rfl,h⟩
  ·have:(bif (bif (z.Key==x.Key) then (decide (z.Span.Start<x.Span.End)) else false) then (decide (x.Span.Start<z.Span.End)) else false)=false:=by
    rw[<-Bool.not_eq_true]
    intro hc
    apply h
    by_cases h1:z.Key=x.Key
    ·by_cases h2:z.Span.Start<x.Span.End
     ·by_cases h3:x.Span.Start<z.Span.End
      ·exact⟨h1,h2,h3⟩
      ·simp[h1,h2,h3] at hc
     ·simp[h1,h2] at hc
    ·have:(z.Key==x.Key)=false:=by simp[h1]
     simp[this] at hc
   rw[this,cond_false]
   rcases ih (k+1) with ⟨h1,h2⟩|⟨i,y,h1,h2,h3⟩
   ·exact .inl ⟨h1,fun y hy=>(List.mem_cons.1 hy).elim (fun e=>e▸h) (h2 y)⟩
   ·exact .inr ⟨i+1,y,by rw[h1];congr 2;omega,by simpa using h2,h3⟩
theorem X08w {w:X0l} {L:List Pu} {p:Pu} {es:List X8} (hk:w.Kind=3) (hw:1<=w.Size) (hl:L.length<=900) (hn:es.length<=3900) (c:X90 w L es) (hu:∀ e∈es,okA e.Values.e0/\okA e.Values.e1/\e.Values.e0.Count<=1000/\e.Values.e1.Count<=1000):∀ (f:Nat) (l:List X8) (x:X8) (M:List X8),l.length<f->Ses w L p es l x M ->
  ∃ es',X1u f l x=some (.x0 es' 0)/\X90 w (L++[p]) es'/\es'.length<=es.length+1:=by
 intro f
 induction f with
 |zero=>intro l x M h;omega
 |succ f ih =>
  intro l x M hf s
  have hsl:l.Pairwise ltE:=c.sorted.sublist s.sub
  have hll:l.length<=es.length:=s.sub.length_le
  have hxv:okA x.Values.e0/\okA x.Values.e1/\x.Values.e0.Count<=1000/\x.Values.e1.Count<=1000:=by
   have h0:=Xr7 p 0
   have h1:=Xr7 p 1
   have h2:=Xd6 L p.1.Key M 0
   have h3:=Xd6 L p.1.Key M 1
   rw[s.val0,s.val1]
   refine⟨Xn8 (by simp;omega),Xn8 (by simp;omega),?_,?_⟩
   ·rw[X4f];simp;omega
   ·rw[X4f];simp;omega
  rw[X1u]
  rw[X19 (by omega),Yo]
  rcases X06a l x l 0 with ⟨h1,h2⟩|⟨i,y,h1,h2,h3⟩
  ·rw[h1]
   simp only[Yo]
   have hneg:decide ((-1:Int)<0)=true:=by decide
   rw[hneg,cond_true]
   have hput:=X08o (x:=x) hsl (by omega) ⟨hxv.1,hxv.2.1⟩ (fun y hy _=>by
    obtain⟨a1,a2,a3,a4⟩:=hu y ((s.part y).2 (.inl hy))
    exact⟨a1,a2,by omega,by omega⟩)
   unfold putF at hput
   refine⟨Xpd l x,?_,Ses.end hk hw hl c s h2,by have:=Xpc l x;omega⟩
   rw[hput]
   rfl
  ·rw[h1]
   have hlt:i<l.length:=(Ys.1 h2).1
   simp only[Yo,Nat.zero_add]
   have hneg:decide ((i:Int)<0)=false:=by simp
   rw[hneg,cond_false,X3i,h2,Yo]
   obtain⟨a1,a2,a3,a4⟩:=hu y ((s.part y).2 (.inl (Yg h2)))
   have hd:delI l (i:Int)=some (l.take i++l.drop (i+1)):=by
    unfold delI;rw[if_pos ⟨by omega,by simpa using hlt,by omega⟩];simp
   simp only[X51 hxv.1 a1 (by omega),X51 hxv.2.1 a2 (by omega),Yo,bne_self_eq_false,cond_false,hd]
   have hstep:=s.step hk hl c h2 h3
   exact ih _ _ _ (by simp;omega) hstep
theorem Xoz {w:X0l} {L:List Pu} {p:Pu} {es:List X8} (hw:okW w) (hk:w.Kind=3) (hL:Xvp w (L++[p])) (c:X90 w L es) (hn:es.length<=3900) :
  ∃ es',Xa1 es w p.1 p.2=some (es',0)/\X90 w (L++[p]) es'/\es'.length<=es.length+1:=by
 have ht:=hL.time p (by simp)
 have hsd:=hL.side p (by simp)
 have hll:=hL.init.len
 have hw1:=hw.1
 have hw2:=hw.2.1
 have hu:∀ e∈es,okA e.Values.e0/\okA e.Values.e1/\e.Values.e0.Count<=1000/\e.Values.e1.Count<=1000:=fun e he=>by
  have:=((c.mem e).1 he).2
  rw[this];exact Xn0 (by omega) _ _
 obtain⟨es',h1,h2,h3⟩:=X08w hk hw1 (by omega) hn c hu FU es _ [] (by unfold FU;omega) (Ses.start (p:=p) hw1)
 refine⟨es',?_,h2,h3⟩
 have ht':=ht
 unfold okT at ht'
 unfold Xa1
 have e1:(bif (p.2 != 0) then (p.2 != 1) else false)=false:=by rcases hsd with h|h<;>simp[h]
 have b1:decide (p.1.Time<((-1099511627776):Int))=false:=by simp;omega
 have b2:decide (p.1.Time>(1099511627776:Int))=false:=by simp;omega
 have e2:(bif (decide (p.1.Time<((-1099511627776):Int))) then true else (decide (p.1.Time>(1099511627776:Int))))=false:=by rw[b1,b2];rfl
 have e3:((Xc1 p.1.Value).bind fun v14=>bif (p.2==(0:Int)) then (some (X8.mk p.1.Key (Xr.mk 0 0) (V2.mk v14 (X0b.mk 0 0 0 0)))) else (bif (p.2==(1:Int)) then (some (X8.mk p.1.Key (Xr.mk 0 0) (V2.mk (X0b.mk 0 0 0 0) v14))) else none):Option (X8))=some (X91 p ⟨0,0⟩):=by
  simp only[Xc1,Yo]
  rcases hsd with h|h
  ·simp[h,X91,ofA,Xd3]
  ·simp[h,X91,ofA,Xd3]
 have e4:(bif (List.isEmpty es) then (some es) else ((X1l (List.length es) 88).bind fun u28=>some es):Option ((List X8)))=some es:=by
  rw[X1y (by omega)]
  cases List.isEmpty es<;>rfl
 have e5:(w.Kind==3)=true:=by simp[hk]
 have c1:decide (w.Size<1)=false:=by simp;omega
 have c2:decide (w.Size>1073741824)=false:=by simp;omega
 have e6:X4h 0 w.Size=some 0:=by
  simp only[X4h,c1,c2,cond_false];rfl
 have e7:X4h p.1.Time w.Size=some 0:=by
  simp only[X4h,c1,c2,cond_false,b1,b2]
 have e8:Xan 1=some 1:=by decide +kernel
 rw[Xcs c.sorted (Xn7 hw hL.init c) (by omega),Yo]
 simp only[bne_self_eq_false,cond_false,X57 hw,Yo,e1,e2]
 rw[e3,Yo,e4,Yo]
 simp only[e5,cond_true,e6,e7,e8,Yo,bne_self_eq_false,cond_false]
 have hg:X1p [Xr.mk p.1.Time (IntKind.i64.wrap (p.1.Time+w.Size))] 0=some ⟨p.1.Time,p.1.Time+w.Size⟩:=by
  rw[X03 (by omega) (by omega)];rfl
 rw[hg,Yo]
 have hent:(⟨(X91 p ⟨0,0⟩).Key,⟨p.1.Time,p.1.Time+w.Size⟩,(X91 p ⟨0,0⟩).Values⟩:X8)=X91 p ⟨p.1.Time,p.1.Time+w.Size⟩:=rfl
 rw[hent,h1,Yo,Yo]
 have e9:decide ((es'.length:Int)>4000)=false:=by simp;omega
 simp only[bne_self_eq_false,cond_false,e9]
theorem Xjv {w:X0l} {L:List Pu} {p:Pu} {es:List X8} (hw:okW w) (hL:Xvp w (L++[p])) (c:X90 w L es) (hn:es.length<=3900) :
  ∃ es',Xa1 es w p.1 p.2=some (es',0)/\X90 w (L++[p]) es'/\es'.length<=es.length+16:=by
 by_cases hk:w.Kind=3
 ·obtain⟨es',h1,h2,h3⟩:=Xoz hw hk hL c hn
  exact⟨es',h1,h2,by omega⟩
 ·exact Xlh hw hk hL c hn
theorem X037 {w:X0l} (hw:1<=w.Size):X90 w [] []:=by
 refine⟨List.Pairwise.nil,fun e=>?_,fun _ k t ht=>?_⟩
 ·simp only[List.not_mem_nil,false_iff]
  rintro⟨h,_⟩
  unfold Xak at h
  split at h
  ·obtain⟨h1,h2,_⟩:=h
   obtain⟨t,ht,_⟩:=h2 (2*e.Span.Start+1) (by omega) (by omega)
   obtain⟨p,hp,_⟩:=ht
   cases hp
  ·obtain⟨t,⟨p,hp,_⟩,_⟩:=h
   cases hp
 ·obtain⟨p,hp,_⟩:=ht
  cases hp
end Go.D


namespace Go.D
structure RQ (q:Xu):Prop where
 w:QW q
 ok:(Xt2 q).2=0
theorem RQ.cz {q:Xu} (h:RQ q):Xzj q=0:=by
 have:=h.ok
 unfold Xt2 at this
 split at this
 ·rename_i h1;exact absurd this h1
 ·rename_i h1;omega
theorem RQ.facts {q:Xu} (h:RQ q):(1<=q.Agg/\q.Agg<=4/\(q.Late=1\/q.Late=2))/\(q.Agg≠1->Xcy q.Arg=0)/\(0<q.Where.length->Xcy q.Where=0)/\X8a q.Sources q.Join=0/\okW q.Window/\(q.Join=true->q.Window.Kind=1):=by
 have hc:=h.cz
 unfold Xzj at hc
 split at hc
 ·cases hc
 ·rename_i h1
  split at hc
  ·cases hc
  ·split at hc
   ·rename_i h2;exact absurd hc h2.2
   ·rename_i h2
    split at hc
    ·rename_i h3;exact absurd hc h3.2
    ·rename_i h3
     split at hc
     ·rename_i h4;exact absurd hc h4
     ·rename_i h4
      split at hc
      ·cases hc
      ·rename_i h5
       split at hc
       ·rename_i h6
        refine⟨by omega,fun ha=>?_,fun hw=>?_,by omega,h6,fun hj=>?_⟩
        ·by_cases hz:Xcy q.Arg=0
         ·exact hz
         ·exact absurd ⟨ha,hz⟩ h2
        ·by_cases hz:Xcy q.Where=0
         ·exact hz
         ·exact absurd ⟨hw,hz⟩ h3
        ·by_cases hk:q.Window.Kind=1
         ·exact hk
         ·exact absurd ⟨hj,hk⟩ h5
       ·cases hc
theorem RQ.src {q:Xu} (h:RQ q):1<=q.Sources.length/\q.Sources.length<=4/\(q.Join=true->q.Sources.length=2):=by
 have hs:=h.facts.2.2.2.1
 unfold X8a at hs
 split at hs
 ·cases hs
 ·split at hs
  ·cases hs
  ·rename_i h1 h2
   unfold Xvy at h2
   have h2:((q.Sources.length==0||(q.Join&&q.Sources.length != 2))||q.Sources.any fun x=>decide (x<0)||decide (x>3))=false:=by simpa using h2
   rw[Bool.or_eq_false_iff,Bool.or_eq_false_iff] at h2
   have a1:q.Sources.length≠0:=by simpa using h2.1.1
   refine⟨by omega,by omega,fun hj=>?_⟩
   have:=h2.1.2
   rw[hj] at this
   simpa using this
def valA (agg:Int) (a:X0b):Int:=if agg=1 then a.Count else if agg=2 then a.Sum else if agg=3 then a.Min else a.Max
theorem Xg3 {agg:Int} {a:X0b} (h1:1<=agg) (h2:agg<=4) (ha:okA a):X82 agg a=some (if a.Count=0 then (0,6) else (valA agg a,0)):=by
 unfold X82
 rw[Yf (show ¬ agg<1 by omega),Yf (show ¬ agg>4 by omega),X58 ha]
 simp only[cond_false,Yo,bne_self_eq_false]
 by_cases hc:a.Count=0
 ·rw[if_pos hc,hc];rfl
 ·rw[if_neg hc,show(a.Count==0)=false by simp[hc]]
  unfold valA
  rcases(by omega:agg=1\/agg=2\/agg=3\/agg=4) with h|h|h|h<;>subst h<;>rfl
def live (q:Xu) (e:X8):Bool:=decide (e.Values.e0.Count≠0)&&(!q.Join||decide (e.Values.e1.Count≠0))
def Xz8 (q:Xu) (e:X8):X0t:=⟨e.Key,e.Span,⟨valA q.Agg e.Values.e0,if q.Join then valA q.Agg e.Values.e1 else 0⟩⟩
def Xa3 (q:Xu) (es:List X8):List X0t:=(es.filter (live q)).map (Xz8 q)
end Go.D


namespace Go.D
theorem RQ.rts {q:Xu} (h:RQ q):(0<q.Arg.length->(X2x q.Arg false).2=0)/\(0<q.Where.length->(X2x q.Where true).2=0):=by
 have h0:=h.ok
 unfold Xt2 at h0
 rw[if_neg (by have:=h.cz;omega)] at h0
 unfold rt at h0
 split at h0
 ·rename_i h1;exact absurd h0 h1.2
 ·rename_i h1
  split at h0
  ·rename_i h2;exact absurd h0 h2.2
  ·rename_i h2
   refine⟨fun ha=>?_,fun hw=>?_⟩
   ·by_cases hz:(X2x q.Arg false).2=0
    ·exact hz
    ·exact absurd ⟨ha,hz⟩ h1
   ·by_cases hz:(X2x q.Where true).2=0
    ·exact hz
    ·exact absurd ⟨hw,hz⟩ h2
theorem RQ.wher {q:Xu} (h:RQ q) (hw:0<q.Where.length) (r:X7):X67 q.Where r=some (evV q.Where r,0):=Xho h.w.wher (Xig (h.rts.2 hw)) r
theorem RQ.arg {q:Xu} (h:RQ q) (ha:q.Agg≠1) (r:X7):X67 q.Arg r=some (evV q.Arg r,0):=by
 have h1:=(Xa5 (h.facts.2.1 ha)).2.1
 exact Xho h.w.arg (Xig (h.rts.1 (by omega))) r
def Xd1 (q:Xu) (r:X7):Bool:=if 0<q.Where.length then decide (evV q.Where r≠0) else true
def Xnp (q:Xu) (r:X7):X7:=⟨if q.ByKey then r.Key else 0,r.Time,if q.Agg=1 then 0 else evV q.Arg r⟩
theorem Xjf {q:Xu} (h:RQ q) (r:X7):X73 q r=some (if Xd1 q r then (Xnp q r,true) else (⟨0,0,0⟩,false)):=by
 have body:((bif q.ByKey then (some (X7.mk r.Key r.Time 0)) else (some (X7.mk 0 r.Time 0)):Option (X7)).bind fun Xpj=>(bif (q.Agg != (1:Int)) then ((X67 q.Arg r).bind fun v14=>some (X7.mk Xpj.Key Xpj.Time v14.1)) else (some Xpj):Option (X7)).bind fun Xs3=>some (Xs3,true))=some (Xnp q r,true):=by
  unfold Xnp
  by_cases ha:q.Agg=1
  ·rw[show(q.Agg != 1)=false by simp[ha],if_pos ha];cases q.ByKey<;>rfl
  ·rw[Xej ha,if_neg ha,h.arg ha r];cases q.ByKey<;>rfl
 unfold X73 Xd1
 rw[body]
 by_cases hw:0<q.Where.length
 ·rw[Yt (show(q.Where.length:Int)>0 by omega),cond_true,if_pos hw,h.wher hw r]
  by_cases hv:evV q.Where r=0
  ·rw[hv];rfl
  ·simp[hv,show(evV q.Where r==0)=false by simp[hv]]
 ·rw[Yf (show ¬ (q.Where.length:Int)>0 by omega),cond_false,if_neg hw];rfl
def Xw5 (q:Xu) (side:Int) (rs:List X7):List Pu:=(rs.filter (Xd1 q)).map fun r=>(Xnp q r,side)
theorem Xr8 (q:Xu) (side:Int) (r:X7) (rs:List X7):Xw5 q side (r::rs)=(if Xd1 q r then [(Xnp q r,side)] else [])++Xw5 q side rs:=by
 unfold Xw5
 rw[List.filter_cons]
 split<;>simp
theorem Xw4 (q:Xu) (side:Int) (rs:List X7):(Xw5 q side rs).length<=rs.length:=by unfold Xw5;rw[List.length_map];exact List.length_filter_le _ _
def X61 (q:Xu) (k:Int):Int:=if q.Join then k else 0
theorem Xtz {q:Xu} (h:RQ q) (late:List X7) (k0:Int) (Y:List (List Xk)) (a b:Int) (R:List X7) (hside:X61 q k0=0\/X61 q k0=1):∀ (xs:List X7) (k:Nat) (L:List Pu) (es:List X8),X90 q.Window L es->Xvp q.Window (L++Xw5 q (X61 q k0) xs)->es.length+16*xs.length<=3900 ->
  ∃ es',X38 q late k0 Y a b R xs k es=some (.x0 es' late)/\X90 q.Window (L++Xw5 q (X61 q k0) xs) es'/\es'.length<=es.length+16*xs.length
 |[],k,L,es,hc,ho,hn=>⟨es,rfl,by simpa[Xw5] using hc,by simp⟩
 |x::xs,k,L,es,hc,ho,hn=>by
  simp only[List.length_cons] at hn
  rw[X38,Xjf h,Yo]
  rw[Xr8] at ho ⊢
  cases hcx:Xd1 q x with
  |false =>
   rw[hcx] at ho
   simp only[Bool.false_eq_true,if_false,List.nil_append] at ho ⊢
   obtain⟨es',h1,h2,h3⟩:=Xtz h late k0 Y a b R hside xs (k+1) L es hc ho (by omega)
   exact⟨es',h1,h2,by simp only[List.length_cons];omega⟩
  |true =>
   rw[hcx] at ho
   simp only[if_true] at ho ⊢
   rw[<-List.append_assoc] at ho ⊢
   have ho1:Xvp q.Window (L++[(Xnp q x,X61 q k0)]):=⟨fun p hp=>ho.time p (List.mem_append_left _ hp),fun p hp=>ho.side p (List.mem_append_left _ hp),by have:=ho.len;rw[List.length_append] at this;omega⟩
   obtain⟨es1,g1,g2,g3⟩:=Xjv h.facts.2.2.2.2.1 ho1 hc (by omega)
   have hs:(bif q.Join then (some k0) else (some 0):Option Int)=some (X61 q k0):=by unfold X61;cases q.Join<;>rfl
   rw[hs]
   simp only[Yo,Bool.not_true,cond_false]
   rw[g1]
   obtain⟨es',h1,h2,h3⟩:=Xtz h late k0 Y a b R hside xs (k+1) _ es1 g2 ho (by omega)
   exact⟨es',h1,h2,by simp only[List.length_cons];omega⟩
def Xdh (q:Xu):Nat->List (List Xk)->List Pu
 |_,[]=>[]
 |k,x::xs=>Xw5 q (X61 q (k:Int)) (Xcb x)++Xdh q (k+1) xs
def Xhj (l:List (List Xk)):List X7:=(l.map Xm7).flatten
theorem Xob (x:List Xk):(Xcb x).length<=x.length:=by
 unfold Xcb;split
 ·exact Xl2 _ _ _
 ·simp
theorem Xru (x:List Xk):(Xm7 x).length<=x.length:=by
 unfold Xm7;split
 ·exact Xl2 _ _ _
 ·simp
theorem X017 {q:Xu} (h:RQ q) (Y:List (List Xk)):∀ (xs:List (List Xk)) (k:Nat) (L:List Pu) (es:List X8) (la:List X7),(∀ x∈xs,chk x=0/\x.length<=60)->X90 q.Window L es->Xvp q.Window (L++Xdh q k xs)->es.length+960*xs.length<=3900->la.length+60*xs.length<=10000->(∀ j,j<xs.length->X61 q ((k+j:Nat):Int)=0\/X61 q ((k+j:Nat):Int)=1) ->
  ∃ es',X39 q Y xs k es la=some (.x0 es' (la++Xhj xs))/\X90 q.Window (L++Xdh q k xs) es'/\es'.length<=es.length+960*xs.length
 |[],k,L,es,la,_,hc,_,_,_,_=>⟨es,by simp[X39,Xhj],by simpa[Xdh] using hc,by simp⟩
 |x::xs,k,L,es,la,hx,hc,ho,hn,hla,hsd=>by
  simp only[List.length_cons] at hn hla hsd
  obtain⟨hx1,hx2⟩:=hx x List.mem_cons_self
  have hr:=Xob x
  have hl:=Xru x
  rw[Xdh,<-List.append_assoc] at ho ⊢
  have ho1:Xvp q.Window (L++Xw5 q (X61 q (k:Int)) (Xcb x)):=⟨fun p hp=>ho.time p (List.mem_append_left _ hp),fun p hp=>ho.side p (List.mem_append_left _ hp),by have:=ho.len;rw[List.length_append] at this;omega⟩
  have hs0:X61 q (k:Int)=0\/X61 q (k:Int)=1:=by have:=hsd 0 (by omega);simpa using this
  obtain⟨es1,g1,g2,g3⟩:=Xtz h (la++Xm7 x) (k:Int) Y (Y.length:Int) (k:Int) (Xcb x) hs0 (Xcb x) 0 L es hc ho1 (by omega)
  obtain⟨es',h1,h2,h3⟩:=X017 h Y xs (k+1) _ es1 (la++Xm7 x) (fun y hy=>hx y (List.mem_cons_of_mem _ hy)) g2 ho (by omega) (by rw[List.length_append];omega) (fun j hj=>by have:=hsd (j+1) (by omega);rw[show k+(j+1)=k+1+j by omega] at this;exact this)
  refine⟨es',?_,h2,by simp only[List.length_cons];omega⟩
  rw[X39,Xpg,Yo]
  simp only[hx1,bne_self_eq_false,cond_false]
  rw[show la++Xhj (x::xs)=la++Xm7 x++Xhj xs by unfold Xhj;simp,<-h1]
  cases hle:(Xm7 x).isEmpty with
  |true =>
   rw[cond_true,X19 (by omega),Yo,g1];rfl
  |false =>
   rw[cond_false,X1y (by rw[List.length_append];omega),Yo,X19 (by omega),Yo,g1];rfl
theorem Xns {q:Xu} (h1:1<=q.Agg) (h2:q.Agg<=4) {e:X8} (he:okE e):Xbv q e=some (if live q e then (Xz8 q e,true) else (⟨0,⟨0,0⟩,⟨0,0⟩⟩,false)):=by
 obtain⟨_,_,_,a0,a1,_⟩:=he
 unfold Xbv live Xz8
 rw[Xg3 h1 h2 a0,Xg3 h1 h2 a1]
 simp only[Yo]
 by_cases c0:e.Values.e0.Count=0
 ·rw[if_pos c0];simp[c0]
 ·rw[if_neg c0]
  cases hj:q.Join with
  |false=>simp[c0]
  |true =>
   by_cases c1:e.Values.e1.Count=0
   ·simp[c1]
   ·simp[c0,c1]
theorem Xty {q:Xu} (h1:1<=q.Agg) (h2:q.Agg<=4) (la:List X7) (E:List X8):∀ (xs:List X8) (k:Nat) (rows:List X0t),(∀ e∈xs,okE e)->rows.length+xs.length<=10000->X3y q la E xs k rows=some (.x0 la (rows++Xa3 q xs))
 |[],k,rows,_,_=>by simp[X3y,Xa3]
 |x::xs,k,rows,ho,hn=>by
  simp only[List.length_cons] at hn
  rw[X3y,Xns h1 h2 (ho x List.mem_cons_self),Yo]
  unfold Xa3
  rw[List.filter_cons]
  cases hl:live q x with
  |false =>
   simp only[Bool.false_eq_true,if_false,cond_false,Yo]
   exact Xty h1 h2 la E xs (k+1) rows (fun e he=>ho e (List.mem_cons_of_mem _ he)) (by omega)
  |true =>
   simp only[if_true,cond_true]
   rw[X1y (by rw[List.length_append,List.length_singleton];omega)]
   simp only[Yo]
   rw[Xty h1 h2 la E xs (k+1) _ (fun e he=>ho e (List.mem_cons_of_mem _ he)) (by rw[List.length_append,List.length_singleton];omega)]
   simp[Xa3]
structure RI (q:Xu) (l:List (List Xk)):Prop where
 rq:RQ q
 len:l.length=q.Sources.length
 ev:∀ x∈l,chk x=0/\x.length<=60
theorem Xr4 {late:Bool}:∀ (l:List Xk) (m:Int),(∀ x∈l,Xxd x=true)->∀ r∈Xi6 late m l,okT r.Time
 |[],_,_,r,hr=>by simp[Xi6] at hr
 |x::l,m,h,r,hr=>by
  have ih:=Xr4 (late:=late) l (Xkn m x) (fun y hy=>h y (List.mem_cons_of_mem _ hy)) r
  unfold Xi6 at hr
  split at hr
  ·rename_i hc
   rcases List.mem_cons.1 hr with rfl|hr
   ·have hm:x.Mark=false:=by
     cases hm:x.Mark with
     |false=>rfl
     |true=>simp[hm] at hc
    have:=h x List.mem_cons_self
    unfold Xxd Xfm at this
    rw[hm] at this
    simp at this
    exact⟨this.2.1,this.2.2⟩
   ·exact ih hr
  ·exact ih hr
theorem Xi8 {q:Xu}:∀ (l:List (List Xk)) (k:Nat) (p:Pu),p∈Xdh q k l->∃ j x r,l[j]?=some x/\r∈Xcb x/\Xd1 q r=true/\p=(Xnp q r,X61 q ((k+j:Nat):Int))
 |[],k,p,h=>by simp[Xdh] at h
 |x::l,k,p,h=>by
  rw[Xdh] at h
  rcases List.mem_append.1 h with h|h
  ·unfold Xw5 at h
   obtain⟨r,hr,rfl⟩:=List.mem_map.1 h
   rw[List.mem_filter] at hr
   exact⟨0,x,r,rfl,hr.1,hr.2,rfl⟩
  ·obtain⟨j,y,r,h1,h2,h3,h4⟩:=Xi8 l (k+1) p h
   exact⟨j+1,y,r,by simpa using h1,h2,h3,by rw[show k+(j+1)=k+1+j by omega];exact h4⟩
theorem Xr9 {q:Xu}:∀ (l:List (List Xk)) (k:Nat),(∀ x∈l,x.length<=60)->(Xdh q k l).length<=60*l.length
 |[],k,_=>by simp[Xdh]
 |x::l,k,h=>by
  rw[Xdh,List.length_append,List.length_cons]
  have h1:=Xw4 q (X61 q (k:Int)) (Xcb x)
  have h2:=Xob x
  have h3:=h x List.mem_cons_self
  have h4:=Xr9 (q:=q) l (k+1) fun y hy=>h y (List.mem_cons_of_mem _ hy)
  omega
theorem RI.ok {q:Xu} {l:List (List Xk)} (h:RI q l):Xvp q.Window (Xdh q 0 l):=by
 have hs:=h.rq.src
 refine⟨fun p hp=>?_,fun p hp=>?_,?_⟩
 ·obtain⟨j,x,r,h1,h2,h3,rfl⟩:=Xi8 l 0 p hp
  have hx:=h.ev x (Yg h1)
  unfold Xcb at h2
  rw[if_pos hx.1] at h2
  exact Xr4 x X66 (X0c2.1 hx.1).2 r h2
 ·obtain⟨j,x,r,h1,h2,h3,rfl⟩:=Xi8 l 0 p hp
  have:=(Ys.1 h1).1
  show X61 q _=0\/X61 q _=1
  unfold X61
  split
  ·rename_i hj;have:=hs.2.2 hj;have:=h.len;omega
  ·exact .inl rfl
 ·have:=Xr9 (q:=q) l 0 fun x hx=>(h.ev x hx).2
  have:=h.len
  omega
theorem Xh7 {q:Xu} {l:List (List Xk)} (h:RI q l):∃ es,X90 q.Window (Xdh q 0 l) es/\es.length<=3900/\X4a q l=some (Xa3 q es,if q.Late=2 then Xhj l else [],0):=by
 have hs:=h.rq.src
 have hf:=h.rq.facts
 have hlen:=h.len
 have hok:=h.ok
 obtain⟨es,h1,h2,h3⟩:=X017 h.rq l l 0 [] [] [] h.ev (X037 hf.2.2.2.2.1.1) (by simpa using hok) (by simp;omega) (by simp;omega) (fun j hj=>by
  unfold X61
  split
  ·rename_i hj2;have:=hs.2.2 hj2;omega
  ·exact .inl rfl)
 simp only[List.nil_append,List.length_nil,Nat.zero_add] at h1 h2 h3
 refine⟨es,h2,by omega,?_⟩
 unfold X4a
 rw[Xg2 h.rq.w,Yo]
 rw[h.rq.ok]
 simp only[bne_self_eq_false,cond_false]
 rw[show((l.length:Int) != (q.Sources.length:Int))=false by rw[hlen];simp,cond_false,X9j (by omega),Xh8.2 fun x hx=>(h.ev x hx).1]
 simp only[Yo,bne_self_eq_false,cond_false]
 rw[X19 (by omega),Yo,h1,Yo]
 simp only
 rw[X19 (by omega),Yo,Xty hf.1.1 hf.1.2.1 _ _ es 0 [] (Xn7 hf.2.2.2.2.1 hok h2) (by simp;omega)]
 simp only[Yo,List.nil_append]
 by_cases hL:q.Late=2
 ·rw[hL];rfl
 ·rw[Xej hL,if_neg hL];rfl
end Go.D


namespace Go.D
theorem Xve (x y:X0t):Xq7 x y=decide (x=y):=by
 obtain⟨a,⟨b,c⟩,⟨d,e⟩⟩:=x
 obtain⟨a',⟨b',c'⟩,⟨d',e'⟩⟩:=y
 rw[Bool.eq_iff_iff]
 simp[Xq7,Xdp,Xsl,and_assoc]
def Xrq:Int->List (List Xk)->Int
 |m,[]=>m
 |m,x::xs=>Xrq (if Xgv X66 x<m then Xgv X66 x else m) xs
theorem Xwc (Y:List (List Xk)):∀ (xs:List (List Xk)) (k:Nat) (m:Int),(∀ x∈xs,chk x=0)->X7e Y xs k m=some (.x0 (Xrq m xs))
 |[],k,m,_=>rfl
 |x::xs,k,m,h=>by
  rw[X7e,Xrt,if_pos (h x List.mem_cons_self),Yo,Xrq]
  exact Xwc Y xs (k+1) _ fun y hy=>h y (List.mem_cons_of_mem _ hy)
theorem Xko {l:List (List Xk)} (h1:1<=l.length) (h4:l.length<=4) (h:∀ x∈l,chk x=0):Xe6 l=some (Xrq Xvc l,0):=by
 unfold Xe6
 rw[Yf (show ¬ (l.length:Int)<1 by omega),Yf (show ¬ (l.length:Int)>4 by omega),X9j (by omega),Xh8.2 h]
 simp only[cond_false,Yo,bne_self_eq_false]
 rw[X19 (by omega),Yo,show(9223372036854775807:Int)=Xvc from rfl,Xwc l l 0 Xvc h];rfl
def Xso (m:Int) (rows:List X0t):List X0t:=rows.filter fun r=>decide (r.Span.End<=m)
theorem Xjr (a:List X7) (m:Int) (Y:List X0t):∀ (xs:List X0t) (k:Nat) (o:List X0t),o.length+xs.length<=10000->X4m a m Y xs k o=some (.x0 (o++Xso m xs))
 |[],k,o,_=>by simp[X4m,Xso]
 |x::xs,k,o,hn=>by
  simp only[List.length_cons] at hn
  rw[X4m]
  unfold Xso
  rw[List.filter_cons]
  by_cases h:x.Span.End<=m
  ·rw[Yt h,cond_true,X1y (by rw[List.length_append,List.length_singleton];omega)]
   simp only[Yo,if_true]
   rw[Xjr a m Y xs (k+1) _ (by rw[List.length_append,List.length_singleton];omega)]
   simp[Xso]
  ·rw[Yf h,cond_false]
   simp only[Yo,Bool.false_eq_true,if_false]
   exact Xjr a m Y xs (k+1) o (by omega)
theorem Xj1 (q:Xu) (es:List X8):(Xa3 q es).length<=es.length:=by
 unfold Xa3;rw[List.length_map];exact List.length_filter_le _ _
def Xm8 (q:Xu) (l:List (List Xk)):List X7:=if q.Late=2 then Xhj l else []
theorem Xic {q:Xu} {l:List (List Xk)} (h:RI q l) {es:List X8} (hc:X90 q.Window (Xdh q 0 l) es):X4a q l=some (Xa3 q es,Xm8 q l,0)/\es.length<=3900/\X8k q l=some (Xso (Xrq Xvc l) (Xa3 q es),Xm8 q l,0):=by
 obtain⟨es',h1,h2,h3⟩:=Xh7 h
 have:=hc.unique h1
 subst this
 have hs:=h.rq.src
 have hlen:=h.len
 have hr:=Xj1 q es
 refine⟨h3,h2,?_⟩
 unfold X8k
 rw[h3,Yo]
 simp only[bne_self_eq_false,cond_false]
 rw[Xko (by omega) (by omega) fun x hx=>(h.ev x hx).1,Yo]
 simp only[bne_self_eq_false,cond_false]
 rw[X19 (by omega),Yo,Xjr _ _ _ _ _ _ (by simp;omega)];rfl
theorem Xh5 (q:Xu):∃ b,Xbo q=some b:=by
 unfold Xbo Xbq
 simp only[Yo]
 cases decide ((q.Arg.length:Int)>70)<;>cases decide ((q.Where.length:Int)>70)<;>exact⟨_,rfl⟩
end Go.D


namespace Go.D
def i64 (z:Int):Prop := -9223372036854775808<=z/\z<=9223372036854775807
theorem Xgk (z:Int):i64 (IntKind.i64.wrap z):=by rw[Xiy];unfold i64;omega
theorem X07f {z:Int} (h:i64 z):IntKind.i64.wrap z=z:=X03 h.1 h.2
theorem Xii (b:Bool):i64 (if b then 1 else 0):=by unfold i64;cases b<;>simp
theorem Xqb (a:Int):(BitVec.ofInt 64 a).toNat=(a % 18446744073709551616).toNat:=by
 rw[BitVec.toNat_ofInt];rfl
theorem X0c5 (a:Int):bits .and .i64 a 63=a % 64:=by
 unfold bits
 simp only
 have h1:((BitVec.ofInt IntKind.i64.bits a) &&& (BitVec.ofInt IntKind.i64.bits 63)).toNat=(a % 64).toNat:=by
  show((BitVec.ofInt 64 a) &&& (BitVec.ofInt 64 63)).toNat=_
  rw[BitVec.toNat_and,Xqb,show(BitVec.ofInt 64 63).toNat=2 ^ 6 - 1 by decide,Nat.and_two_pow_sub_one_eq_mod]
  omega
 rw[h1,X03 (by omega) (by omega)]
 omega
theorem Xqa (a:Int):X9h a=some (a % 64):=by
 unfold X9h
 have h:IntKind.u64.wrap a=a % 18446744073709551616:=by
  simp only[IntKind.wrap,IntKind.bits,IntKind.signed]
  simp
 have h0:(0:Int)<=a % 18446744073709551616:=by omega
 rw[h,Int.tmod_eq_emod_of_nonneg h0,X03 (by omega) (by omega)]
 congr 1;omega
theorem X0ct {a b:Int} (ha:i64 a) (hb:i64 b):(bits .or .i64 a b != 0)=(bif (a != 0) then true else (b != 0)):=by
 unfold bits
 simp only
 have key:((BitVec.ofInt IntKind.i64.bits a) ||| (BitVec.ofInt IntKind.i64.bits b)).toNat=0↔a=0/\b=0:=by
  show((BitVec.ofInt 64 a) ||| (BitVec.ofInt 64 b)).toNat=0↔_
  rw[BitVec.toNat_or,Nat.or_eq_zero_iff,Xqb,Xqb]
  unfold i64 at ha hb
  omega
 have hlt:((BitVec.ofInt IntKind.i64.bits a) ||| (BitVec.ofInt IntKind.i64.bits b)).toNat<18446744073709551616:=BitVec.isLt _
 generalize ((BitVec.ofInt IntKind.i64.bits a) ||| (BitVec.ofInt IntKind.i64.bits b)).toNat=n at key hlt
 have hw:IntKind.i64.wrap (n:Int)=0↔n=0:=by rw[Xiy];omega
 by_cases h0:n=0
 ·obtain⟨rfl,rfl⟩:=key.1 h0
  subst h0
  simp[show IntKind.i64.wrap (0:Int)=0 from rfl]
 ·have h1:¬ (a=0/\b=0):=fun h=>h0 (key.2 h)
  have h2:IntKind.i64.wrap (n:Int)≠0:=fun h=>h0 (hw.1 h)
  rw[show(IntKind.i64.wrap (n:Int) != 0)=true by simpa using h2]
  by_cases ha0:a=0
  ·have:b≠0:=fun hb0=>h1 ⟨ha0,hb0⟩
   simp[ha0,this]
  ·simp[ha0]
theorem X09w {a:Int} (h:i64 a):Xdg a=some (a.fdiv 2):=by
 unfold Xdg
 unfold i64 at h
 have hf:a.fdiv 2=a / 2:=Int.fdiv_eq_ediv_of_nonneg _ (by omega)
 have e:=Int.tdiv_eq_ediv (a:=a) (b:=2)
 rw[show Int.sign 2=1 from rfl] at e
 have e0:=Int.tmod_add_mul_tdiv a 2
 by_cases hn:a.tmod 2<0
 ·rw[Yt hn,cond_true]
  have h2:a.tdiv 2=a / 2+1:=by split at e<;>omega
  rw[hf,h2,X03 (z:=a / 2+1) (by omega) (by omega),X03 (by omega) (by omega)]
  congr 1;omega
 ·rw[Yf hn,cond_false]
  have h2:a.tdiv 2=a / 2:=by split at e<;>omega
  rw[hf,h2,X03 (by omega) (by omega)]
theorem X06b {a:Int} (h:i64 a):i64 (a.fdiv 2):=by
 rw[Int.fdiv_eq_ediv_of_nonneg _ (by omega)];unfold i64 at *;omega
theorem X05g (c:Int) (hc:c<64):∀ (m n i:Nat) (y:Int),m=(c - (i:Int)).toNat->m<n->(i:Int)<=c->X3w c n y (i:Int)=some (.x0 (IntKind.i64.wrap (y*2 ^ m)))\/(m=0/\X3w c n y (i:Int)=some (.x0 y)):=by
 intro m
 induction m with
 |zero =>
  intro n i y hm hn hi
  obtain⟨n,rfl⟩:∃ q,n=q+1:=⟨n - 1,by omega⟩
  right
  refine⟨rfl,?_⟩
  rw[X3w,Yf (by omega)];rfl
 |succ m ih =>
  intro n i y hm hn hi
  obtain⟨n,rfl⟩:∃ q,n=q+1:=⟨n - 1,by omega⟩
  left
  rw[X3w,Yt (by omega),cond_true]
  have e:IntKind.i64.wrap ((i:Int)+1)=((i+1:Nat):Int):=by rw[X03 (by omega) (by omega)];omega
  rw[e]
  have hw:IntKind.i64.wrap (IntKind.i64.wrap (y+y)*2 ^ m)=IntKind.i64.wrap (y*2 ^ (m+1)):=by
   rw[Int.pow_succ]
   have:y*(2 ^ m*2)=(y+y)*2 ^ m:=by rw[Int.add_mul,<-Int.mul_assoc,Int.mul_comm (y*2 ^ m) 2];omega
   rw[this]
   generalize y+y=z
   generalize (2:Int) ^ m=q
   simp only[Xiy]
   have h1:∃ k:Int,(z+9223372036854775808) % 18446744073709551616 - 9223372036854775808=z+18446744073709551616*k:=⟨-((z+9223372036854775808) / 18446744073709551616),by omega⟩
   obtain⟨k,hk⟩:=h1
   rw[hk,Int.add_mul,Int.mul_assoc]
   generalize k*q=j
   omega
  rcases ih n (i+1) (IntKind.i64.wrap (y+y)) (by omega) (by omega) (by omega) with h|⟨h0,h⟩
  ·rw[h,hw]
  ·subst h0
   rw[h,<-hw]
   simp only[Int.pow_zero,Int.mul_one]
   rw[X07f (Xgk _)]
theorem X05f {c:Int} (h0:0<=c) (hc:c<64):∃ v,X9g c=some v/\∀ a,IntKind.i64.wrap (a*v)=IntKind.i64.wrap (a*2 ^ c.toNat):=by
 unfold X9g
 rcases X05g c hc c.toNat FU 0 1 (by omega) (by unfold FU;omega) (by omega) with h|⟨hz,h⟩
 ·refine⟨_,by rw[show(0:Int)=((0:Nat):Int) from rfl,h];rfl,fun a=>?_⟩
  rw[Int.one_mul]
  generalize (2:Int) ^ c.toNat=z
  simp only[Xiy]
  have h1:∃ k:Int,(z+9223372036854775808) % 18446744073709551616 - 9223372036854775808=z+18446744073709551616*k:=⟨-((z+9223372036854775808) / 18446744073709551616),by omega⟩
  obtain⟨k,hk⟩:=h1
  rw[hk,Int.mul_add,Int.mul_left_comm]
  generalize a*k=j
  omega
 ·refine⟨1,by rw[show(0:Int)=((0:Nat):Int) from rfl,h];rfl,fun a=>?_⟩
  rw[hz];simp
theorem X06d (b:Int) (c:Int) (hb:b % 64=c):∀ (m n i:Nat) (y:Int),m=(c - (i:Int)).toNat->m<n->(i:Int)<=c->i64 y->X3x b n y (i:Int)=some (.x0 (y.fdiv (2 ^ m)))/\i64 (y.fdiv (2 ^ m)):=by
 intro m
 induction m with
 |zero =>
  intro n i y hm hn hi hy
  obtain⟨n,rfl⟩:∃ q,n=q+1:=⟨n - 1,by omega⟩
  have e:y.fdiv (2 ^ 0)=y:=by rw[Int.pow_zero,Int.fdiv_one]
  rw[e]
  refine⟨?_,hy⟩
  rw[X3x,Xqa,Yo,Yf (by omega)];rfl
 |succ m ih =>
  intro n i y hm hn hi hy
  obtain⟨n,rfl⟩:∃ q,n=q+1:=⟨n - 1,by omega⟩
  have e:IntKind.i64.wrap ((i:Int)+1)=((i+1:Nat):Int):=by rw[X03 (by omega) (by omega)];omega
  have e2:y.fdiv (2 ^ (m+1))=(y.fdiv 2).fdiv (2 ^ m):=by
   have hp:(0:Int)<=2 ^ m:=Int.pow_nonneg (by omega)
   rw[Int.fdiv_eq_ediv_of_nonneg y (Int.pow_nonneg (by omega)),Int.fdiv_eq_ediv_of_nonneg (y.fdiv 2) hp,Int.fdiv_eq_ediv_of_nonneg y (show(0:Int)<=2 by omega),Int.pow_succ,Int.mul_comm,Int.ediv_ediv_of_nonneg (by omega)]
  obtain⟨g1,g2⟩:=ih n (i+1) (y.fdiv 2) (by omega) (by omega) (by omega) (X06b hy)
  rw[e2]
  refine⟨?_,g2⟩
  rw[X3x,Xqa,Yo,Yt (by omega),cond_true,X09w hy,Yo,e,g1]
theorem Xzs (b:Bool):X7q b=some (if b then 1 else 0):=by cases b<;>rfl
theorem Xq2 {K a b:Int} (h1:5<=K) (h2:K<=19) (ha:i64 a) (hb:i64 b):∃ v,Xfn K a b=some (v,0)/\X48 K a b=some v/\i64 v:=by
 have hs:shOk (b % 64)=some ():=by unfold shOk;rw[if_pos (by omega)]
 have hmin:min (Int.toNat (b % 64)) IntKind.i64.bits=(b % 64).toNat:=by
  show min (Int.toNat (b % 64)) 64=_
  omega
 unfold Xfn X48 Xal
 simp only[Xvw,Xzs,hs,X0c5,Xqa,Yo,hmin]
 rcases(by omega:K=5\/K=6\/K=7\/K=8\/K=9\/K=10\/K=11\/K=12\/K=13\/K=14\/K=15\/K=16\/K=17\/K=18\/K=19) with h|h|h|h|h|h|h|h|h|h|h|h|h|h|h<;>subst h
 ·exact⟨_,rfl,rfl,Xgk _⟩
 ·exact⟨_,rfl,rfl,Xii _⟩
 ·exact⟨_,rfl,rfl,Xgk _⟩
 ·exact⟨_,rfl,rfl,Xgk _⟩
 ·exact⟨_,rfl,rfl,Xgk _⟩
 ·obtain⟨v,hv,hw⟩:=X05f (c:=b % 64) (by omega) (by omega)
  refine⟨_,rfl,?_,Xgk _⟩
  show(X9g (b % 64)).bind (fun v11=>some (IntKind.i64.wrap (a*v11)))=_
  rw[hv,Yo,hw]
 ·obtain⟨g1,g2⟩:=X06d b (b % 64) rfl (b % 64).toNat FU 0 a (by omega) (by unfold FU;omega) (by omega) ha
  refine⟨_,rfl,?_,g2⟩
  show(X3x b FU a ((0:Nat):Int)).bind _=_
  rw[g1];rfl
 ·exact⟨_,rfl,rfl,Xii _⟩
 ·refine⟨_,rfl,?_,Xii _⟩
  show some (if (bif decide (a<b) then true else a==b)=true then (1:Int) else 0)=_
  congr 2
  by_cases h:a<b
  ·simp[h];omega
  ·by_cases h3:a=b
   ·simp[h3]
   ·simp[h,h3];omega
 ·exact⟨_,rfl,rfl,Xii _⟩
 ·refine⟨_,rfl,?_,Xii _⟩
  show some (if (bif decide (b<a) then true else a==b)=true then (1:Int) else 0)=_
  congr 2
  by_cases h:b<a
  ·simp[h];omega
  ·by_cases h3:a=b
   ·simp[h3]
   ·simp[h,h3];omega
 ·exact⟨_,rfl,rfl,Xii _⟩
 ·exact⟨_,rfl,rfl,Xii _⟩
 ·exact⟨_,rfl,rfl,Xii _⟩
 ·refine⟨_,rfl,?_,Xii _⟩
  rw[X0ct ha hb];rfl
def Xfj (l:List X05) (r:X7) (j:Nat):Int:=(X1c (j+1) l (j:Int) r).getD 0
theorem Xhw {l:List X05} {r:X7} (ho:∀ j x,l[j]?=some x->Xkd x j) (hN:∀ x∈l,i64 x.N) (hr:i64 r.Key/\i64 r.Time/\i64 r.Value):∀ (b j:Nat),j<b->j<l.length->∀ n,j<n->X1c n l (j:Int) r=some (Xfj l r j)/\i64 (Xfj l r j):=by
 intro b
 induction b with
 |zero=>intro j h;omega
 |succ b ih =>
  intro j _ hj
  have main:∃ v,i64 v/\∀ n,j<n->X1c n l (j:Int) r=some v:=by
   have hx:=ho j l[j] (Ye hj)
   have hg:X1p l (j:Int)=some l[j]:=by rw[X3i];exact Ye hj
   generalize hxe:l[j]=x at hx hg
   have hmem:x∈l:=by rw[<-hxe];exact List.getElem_mem hj
   by_cases k4:x.Kind<=4
   ·have lo:=hx.lo
    rcases(by omega:x.Kind=1\/x.Kind=2\/x.Kind=3\/x.Kind=4) with h|h|h|h
    ·refine⟨x.N,hN x hmem,fun n hn=>?_⟩
     obtain⟨n,rfl⟩:∃ q,n=q+1:=⟨n - 1,by omega⟩
     rw[X1c,hg,Yo,h];rfl
    ·refine⟨r.Key,hr.1,fun n hn=>?_⟩
     obtain⟨n,rfl⟩:∃ q,n=q+1:=⟨n - 1,by omega⟩
     rw[X1c,hg,Yo,h];rfl
    ·refine⟨r.Time,hr.2.1,fun n hn=>?_⟩
     obtain⟨n,rfl⟩:∃ q,n=q+1:=⟨n - 1,by omega⟩
     rw[X1c,hg,Yo,h];rfl
    ·refine⟨r.Value,hr.2.2,fun n hn=>?_⟩
     obtain⟨n,rfl⟩:∃ q,n=q+1:=⟨n - 1,by omega⟩
     rw[X1c,hg,Yo,h];rfl
   ·have hi:=hx.hi
    have hA:=hx.ak (by omega)
    have hB:=hx.bk (by omega)
    have hA0:=hx.a0
    have hB0:=hx.b0
    have eA:x.A=((x.A.toNat:Nat):Int):=by omega
    have eB:x.B=((x.B.toNat:Nat):Int):=by omega
    have gA:=ih x.A.toNat (by omega) (by omega)
    have gB:=ih x.B.toNat (by omega) (by omega)
    have e1:(x.Kind==1)=false:=by simp;omega
    have e2:(x.Kind==2)=false:=by simp;omega
    have e3:(x.Kind==3)=false:=by simp;omega
    have e4:(x.Kind==4)=false:=by simp;omega
    have body:∀ n:Nat,j<n+1->X1c (n+1) l (j:Int) r=(X2k x.Kind).bind fun v7=>(bif (v7==(2:Int)) then ((X1c n l x.B r).bind fun v14=>some v14) else (some 0):Option (Int)).bind fun j12=>(X1c n l x.A r).bind fun v17=>(X48 x.Kind v17 j12).bind fun v19=>some v19:=by
     intro n _
     rw[X1c,hg,Yo,e1,e2,e3,e4];rfl
    by_cases k6:x.Kind<=6
    ·obtain⟨v,_,hv,hv2⟩:=Xq2 (K:=x.Kind) (b:=0) (by omega) hi (gA (x.A.toNat+1) (by omega)).2 (by unfold i64;omega)
     refine⟨v,hv2,fun n hn=>?_⟩
     obtain⟨n,rfl⟩:∃ q,n=q+1:=⟨n - 1,by omega⟩
     rw[body n hn,show X2k x.Kind=some 1 by unfold X2k;rw[Yf (by omega),Yt k6];rfl,Yo]
     show(X1c n l x.A r).bind _=_
     rw[eA,(gA n (by omega)).1,Yo,hv];rfl
    ·obtain⟨v,_,hv,hv2⟩:=Xq2 (K:=x.Kind) (by omega) hi (gA (x.A.toNat+1) (by omega)).2 (gB (x.B.toNat+1) (by omega)).2
     refine⟨v,hv2,fun n hn=>?_⟩
     obtain⟨n,rfl⟩:∃ q,n=q+1:=⟨n - 1,by omega⟩
     rw[body n hn,show X2k x.Kind=some 2 by unfold X2k;rw[Yf (by omega),Yf k6];rfl,Yo]
     show((X1c n l x.B r).bind fun v14=>some v14).bind _=_
     rw[eB,(gB n (by omega)).1,Yo,Yo,eA,(gA n (by omega)).1,Yo,hv];rfl
  obtain⟨v,hv,hn⟩:=main
  have:Xfj l r j=v:=by unfold Xfj;rw[hn (j+1) (by omega)];rfl
  intro n hjn
  rw[this];exact⟨hn n hjn,hv⟩
theorem Xwm {l:List X05} {r:X7} (ho:∀ j x,l[j]?=some x->Xkd x j) (hN:∀ x∈l,i64 x.N) (hr:i64 r.Key/\i64 r.Time/\i64 r.Value):∀ (xs:List X05) (k:Nat) (vs:List Int),l.drop k=xs->vs.length=l.length->(∀ j,j<k->vs[j]?=some (Xfj l r j))->∃ vs',X1k (V5.mk 0 0 r.Key r.Time r.Value) l xs k vs=some (.x0 vs')/\vs'.length=l.length/\(∀ j,j<l.length->vs'[j]?=some (Xfj l r j))
 |[],k,vs,h,hv,hk=>⟨vs,rfl,hv,fun j hj=>hk j (by have:=Go.Av.drop_nil h;omega)⟩
 |x::xs,k,vs,h,hv,hk=>by
  obtain⟨hlt,hkx,hd⟩:=Go.Av.drop_cons h
  have hx:=ho k x hkx
  have hg:X1p vs (k:Int)=some (vs[k]'(by omega)):=by rw[X3i];exact Ye _
  have hmem:x∈l:=Yg hkx
  have hgl:X1p l (k:Int)=some x:=by rw[X3i];exact hkx
  have go:∀ z,z=Xfj l r k->∃ vs',X1k (V5.mk 0 0 r.Key r.Time r.Value) l xs (k+1) (vs.set (Int.toNat (k:Int)) z)=some (.x0 vs')/\vs'.length=l.length/\(∀ j,j<l.length->vs'[j]?=some (Xfj l r j)):=by
   intro z hz
   refine Xwm ho hN hr xs (k+1) _ hd (by rw[List.length_set];exact hv) fun j hj=>?_
   rw[Int.toNat_natCast]
   by_cases hjk:j=k
   ·subst hjk;rw[List.getElem?_set_self (by omega),hz]
   ·rw[List.getElem?_set_ne (by omega)];exact hk j (by omega)
  have hval:∀ n,k<n->X1c n l (k:Int) r=some (Xfj l r k):=fun n hn=>(Xhw ho hN hr (k+1) k (by omega) hlt n hn).1
  have hone:=hval (k+1) (by omega)
  rw[X1c,hgl,Yo] at hone
  rw[X1k]
  have h1:=hx.lo
  have h2:=hx.hi
  by_cases k1:x.Kind=1
  ·rw[show(x.Kind==1)=true by simp[k1],cond_true,hg,Yo]
   rw[k1] at hone
   exact go _ (Option.some.inj hone)
  ·rw[show(x.Kind==1)=false by simp[k1],cond_false]
   by_cases k4:x.Kind<=4
   ·rw[Yt k4,cond_true,show(x.Kind==0)=false by simp;omega,hg]
    simp only[Yo,cond_false]
    rcases(by omega:x.Kind=2\/x.Kind=3\/x.Kind=4) with h|h|h
    ·rw[h] at hone ⊢;exact go _ (Option.some.inj hone)
    ·rw[h] at hone ⊢;exact go _ (Option.some.inj hone)
    ·rw[h] at hone ⊢;exact go _ (Option.some.inj hone)
   ·rw[Yf k4,cond_false]
    have hA:=hx.ak (by omega)
    have hB:=hx.bk (by omega)
    have hA0:=hx.a0
    have hB0:=hx.b0
    have eA:x.A=((x.A.toNat:Nat):Int):=by omega
    have eB:x.B=((x.B.toNat:Nat):Int):=by omega
    have gA:=Xhw ho hN hr k x.A.toNat (by omega) (by omega) k (by omega)
    have gB:=Xhw ho hN hr k x.B.toNat (by omega) (by omega) k (by omega)
    have ga:X1p vs x.A=some (Xfj l r x.A.toNat):=by rw[eA,X3i];exact hk _ (by omega)
    have gb:X1p vs x.B=some (Xfj l r x.B.toNat):=by rw[eB,X3i];exact hk _ (by omega)
    obtain⟨v,hdo,hgv,_⟩:=Xq2 (K:=x.Kind) (by omega) h2 gA.2 gB.2
    have e1:(x.Kind==1)=false:=by simp;omega
    have e2:(x.Kind==2)=false:=by simp;omega
    have e3:(x.Kind==3)=false:=by simp;omega
    have e4:(x.Kind==4)=false:=by simp;omega
    rw[e1,e2,e3,e4] at hone
    simp only[cond_false] at hone
    have hz:v=Xfj l r k:=by
     rw[eA,gA.1] at hone
     by_cases k6:x.Kind<=6
     ·rw[show X2k x.Kind=some 1 by unfold X2k;rw[Yf (by omega),Yt k6];rfl] at hone
      have h56:∀ q,X48 x.Kind (Xfj l r x.A.toNat) q=X48 x.Kind (Xfj l r x.A.toNat) 0:=by
       intro q
       unfold X48
       rcases(by omega:x.Kind=5\/x.Kind=6) with h|h<;>rw[h]<;>rfl
      rw[h56] at hgv
      simp only[Yo,show((1:Int)==2)=false from rfl,cond_false,hgv] at hone
      exact Option.some.inj hone
     ·rw[show X2k x.Kind=some 2 by unfold X2k;rw[Yf (by omega),Yf k6];rfl,eB,gB.1] at hone
      simp only[Yo,show((2:Int)==2)=true from rfl,cond_true,hgv] at hone
      exact Option.some.inj hone
    rw[ga,Yo,gb,Yo,hdo,hg]
    exact go _ hz
theorem Xdz {l:List X05} (h0:∀ x∈l,0<=x.Kind) (hN:∀ x∈l,i64 x.N) (h:(kOf l).2.2=0) {r:X7} (hr:i64 r.Key/\i64 r.Time/\i64 r.Value):Xgb l r=some (evV l r,0):=by
 have hz:Xcy l=0:=by
  by_cases hz:Xcy l=0
  ·exact hz
  ·unfold kOf at h;rw[if_pos hz] at h;exact h
 obtain⟨h60,h1,_⟩:=Xa5 hz
 have ho:=Xdi hz
 have hev:X67 l r=some (Xfj l r (l.length - 1),0):=by
  unfold X67 Xg0 Xc0
  rw[Xhk h0,Yo,Yo,h]
  have hm:mkOk (l.length:Int) (l.length:Int) 8=some ():=by unfold mkOk;rw[if_pos ⟨by omega,rfl,by omega⟩]
  rw[hm,X19 (by omega)]
  obtain⟨vs,hvs,hl,hj⟩:=Xwm ho hN hr l 0 (List.replicate (Int.toNat (l.length:Int)) 0) rfl (by simp) (fun j hj=>by omega)
  simp only[Yo]
  rw[show((l.length:Int)==0)=false from lz h1,hvs]
  simp only[bne_self_eq_false,cond_false,Yo]
  rw[hl,X03 (by omega) (by omega),show(l.length:Int) - 1=((l.length - 1:Nat):Int) by omega,X3i,hj _ (by omega)];rfl
 have:evV l r=Xfj l r (l.length - 1):=by unfold evV;rw[hev]
 unfold Xgb
 rw[Xhi,Yo,h]
 simp only[bne_self_eq_false,cond_false]
 rw[X03 (by omega) (by omega),show(l.length:Int) - 1=((l.length - 1:Nat):Int) by omega,(Xhw ho hN hr l.length (l.length - 1) (by omega) (by omega) FU (by unfold FU;omega)).1,this];rfl
end Go.D


namespace Go.D
theorem Xpa {t g:Int} (ht:okT t) (h1:1<=g) (h2:g<=1073741824):X5i t g=some 0:=by
 obtain⟨t1,t2⟩:=ht
 unfold X5i
 have e1:decide (g<1)=false:=Yf (by omega)
 have e2:decide (g>1073741824)=false:=Yf (by omega)
 have e3:decide (t < -1099511627776)=false:=Yf (by omega)
 have e4:decide (t>1099511627776)=false:=Yf (by omega)
 simp only[e1,e2,e3,e4];rfl
theorem Xhe {t e:Int} (ht:okT t) (h1:1<=e) (h2:e<=1073741824):Xga t e=some (t / e):=by
 obtain⟨t1,t2⟩:=ht
 unfold Xga
 have hd:Xsp e=some ():=by unfold Xsp;rw[if_pos (by omega)]
 rw[hd,Yo]
 have q0:Int.tdiv 1099511627776 e=1099511627776 / e:=Int.tdiv_eq_ediv_of_nonneg (by omega)
 have q1:(0:Int)<=1099511627776 / e:=Int.ediv_nonneg (by omega) (by omega)
 have q2:1099511627776 / e<=1099511627776:=Int.ediv_le_self _ (by omega)
 have m1:=Int.mul_ediv_add_emod 1099511627776 e
 have m2:=Int.emod_nonneg 1099511627776 (show e≠0 by omega)
 have m3:=Int.emod_lt_of_pos 1099511627776 (show 0<e by omega)
 generalize 1099511627776 / e=q at *
 have p1:(q+1)*e=e*q+e:=by rw[Int.add_mul,Int.mul_comm];omega
 rw[q0,X03 (z:=q) (by omega) (by omega),X03 (z:=q+1) (by omega) (by omega),p1,X03 (z:=e*q+e) (by omega) (by omega),X03 (z:=t+(e*q+e)) (by omega) (by omega)]
 have hn:0<=t+(e*q+e):=by omega
 have h3:Int.tdiv (t+(e*q+e)) e=t / e+(q+1):=by
  rw[Int.tdiv_eq_ediv_of_nonneg hn,show t+(e*q+e)=t+(q+1)*e by rw[p1],Int.add_mul_ediv_right _ _ (by omega)]
 have b1:t / e<=1099511627776:=by
  have hm:=Int.mul_ediv_add_emod t e
  have hm1:=Int.emod_nonneg t (show e≠0 by omega)
  rcases Xt3 1099511627776 (t / e) with h|h
  ·exfalso
   have:e*1099511627777<=e*(t / e):=Int.mul_le_mul_of_nonneg_left (by omega) (by omega)
   omega
  ·exact h
 have b2 : -1099511627776<=t / e:=by
  have hm:=Int.mul_ediv_add_emod t e
  have hm2:=Int.emod_lt_of_pos t (show 0<e by omega)
  rcases Xt3 (t / e) (-1099511627776) with h|h
  ·exfalso
   have:e*(t / e)<=e*(-1099511627777):=Int.mul_le_mul_of_nonneg_left (by omega) (by omega)
   omega
  ·exact h
 rw[h3,X03 (z:=t / e+(q+1)) (by omega) (by omega),X03 (by omega) (by omega)]
 congr 1;omega
theorem X0af {t e:Int} (ht:okT t) (h1:1<=e):e*(t / e)<=t/\t<e*(t / e)+e /\ -1099511627776<=t / e/\t / e<=1099511627776:=by
 obtain⟨t1,t2⟩:=ht
 have hm:=Int.mul_ediv_add_emod t e
 have hm1:=Int.emod_nonneg t (show e≠0 by omega)
 have hm2:=Int.emod_lt_of_pos t (show 0<e by omega)
 refine⟨by omega,by omega,?_,?_⟩
 ·rcases Xt3 (t / e) (-1099511627776) with h|h
  ·exfalso
   have:e*(t / e)<=e*(-1099511627777):=Int.mul_le_mul_of_nonneg_left (by omega) (by omega)
   omega
  ·exact h
 ·rcases Xt3 1099511627776 (t / e) with h|h
  ·exfalso
   have:e*1099511627777<=e*(t / e):=Int.mul_le_mul_of_nonneg_left (by omega) (by omega)
   omega
  ·exact h
theorem X0ay {t size every n:Int} (ht:okT t) (h1:1<=every) (h2:size<=1073741824) (h3:every<=size) (hn:n=t / every):∀ (m f:Nat) (i:Int) (acc:List Xr),m=(n+2 - i).toNat->m<f->n - 16<=i->i<=n+2->acc.length+m<=100 ->
  ∃ W,X3m t size every n f acc i=some (.x0 (acc++W))/\W.length<=m/\∀ s,s∈W↔∃ j,i<=j/\j<=n+1/\s.Start=j*every/\s.End=j*every+size/\s.Start<=t/\t<s.End:=by
 obtain⟨a1,a2,a3,a4⟩:=X0af ht h1
 rw[<-hn] at a1 a2 a3 a4
 obtain⟨t1,t2⟩:=ht
 intro m
 induction m with
 |zero =>
  intro f i acc hm hf hi hi2 hacc
  obtain⟨f,rfl⟩:∃ q,f=q+1:=⟨f - 1,by omega⟩
  refine⟨[],?_,by simp,fun s=>⟨fun h=>by simp at h,fun⟨j,g1,g2,_⟩=>by omega⟩⟩
  rw[X3m,X03 (by omega) (by omega),Yf (by omega)];simp
 |succ m ih =>
  intro f i acc hm hf hi hi2 hacc
  obtain⟨f,rfl⟩:∃ q,f=q+1:=⟨f - 1,by omega⟩
  have b1:every*(n - 16)<=every*i:=Int.mul_le_mul_of_nonneg_left hi (by omega)
  have b2:every*i<=every*(n+1):=Int.mul_le_mul_of_nonneg_left (by omega) (by omega)
  rw[Int.mul_sub] at b1
  rw[Int.mul_add] at b2
  have e1:i*every=every*i:=Int.mul_comm _ _
  have w1:IntKind.i64.wrap (i*every)=i*every:=X03 (by omega) (by omega)
  have w2:IntKind.i64.wrap (i*every+size)=i*every+size:=X03 (by omega) (by omega)
  have w3:IntKind.i64.wrap (i+1)=i+1:=X03 (by omega) (by omega)
  have w4:IntKind.i64.wrap (n+1)=n+1:=X03 (by omega) (by omega)
  rw[X3m,w4,Yt (show i<=n+1 by omega),cond_true,w1,w2,w3]
  by_cases hin:i*every<=t/\t<i*every+size
  ·rw[Yt hin.1,cond_true,Yt hin.2,cond_true,X1y (by rw[List.length_append,List.length_singleton];omega)]
   simp only[Yo]
   obtain⟨W,g1,g2,g3⟩:=ih f (i+1) (acc++[⟨i*every,i*every+size⟩]) (by omega) (by omega) (by omega) (by omega) (by rw[List.length_append,List.length_singleton];omega)
   refine⟨⟨i*every,i*every+size⟩::W,?_,by simp only[List.length_cons];omega,fun s=>?_⟩
   ·rw[g1];simp
   ·rw[List.mem_cons,g3]
    constructor
    ·rintro(rfl|⟨j,q1,q2⟩)
     ·exact⟨i,by omega,by omega,rfl,rfl,hin.1,hin.2⟩
     ·exact⟨j,by omega,q2⟩
    ·rintro⟨j,q1,q2,q3,q4,q5⟩
     by_cases hj:j=i
     ·subst hj;left;exact Xc9 q3 q4
     ·right;exact⟨j,by omega,q2,q3,q4,q5⟩
  ·have hb:(bif decide (i*every<=t) then decide (t<i*every+size) else false)=false:=by
    by_cases hx:i*every<=t
    ·rw[Yt hx,cond_true,Yf (fun h=>hin ⟨hx,h⟩)]
    ·rw[Yf hx];rfl
   rw[hb]
   simp only[cond_false,Yo]
   obtain⟨W,g1,g2,g3⟩:=ih f (i+1) acc (by omega) (by omega) (by omega) (by omega) (by omega)
   refine⟨W,g1,by omega,fun s=>?_⟩
   rw[g3]
   constructor
   ·rintro⟨j,q1,q2⟩;exact⟨j,by omega,q2⟩
   ·rintro⟨j,q1,q2,q3,q4,q5,q6⟩
    by_cases hj:j=i
    ·subst hj;rw[q3] at q5;rw[q4] at q6;exact absurd ⟨q5,q6⟩ hin
    ·exact⟨j,by omega,q2,q3,q4,q5,q6⟩
theorem X04w {w:X0l} {t:Int} (hw:okW w) (hk:w.Kind≠3) (ht:okT t):∃ W,X7n w t=some W/\W.length<=18/\∀ s,s∈W↔Xmr w.Size (Xdo w) t s:=by
 obtain⟨z1,z2,z3⟩:=hw
 unfold X7n
 by_cases k1:w.Kind=1
 ·have e:(w.Kind==1)=true:=by simp[k1]
  obtain⟨a1,a2,a3,a4⟩:=X0af ht z1
  have hc:w.Size*(t / w.Size)=t / w.Size*w.Size:=Int.mul_comm _ _
  have ho:Xi4 t w.Size=some (⟨t / w.Size*w.Size,t / w.Size*w.Size+w.Size⟩,0):=by
   unfold Xi4
   rw[Xpa ht z1 z2,Yo]
   simp only[bne_self_eq_false,cond_false]
   obtain⟨t1,t2⟩:=ht
   rw[Xhe ⟨t1,t2⟩ z1 z2,Yo,X03 (z:=t / w.Size*w.Size) (by omega) (by omega),X03 (by omega) (by omega)]
  rw[e,cond_true,ho]
  refine⟨_,rfl,by simp,fun s=>?_⟩
  rw[List.mem_singleton]
  unfold Xdo Xmr inS
  rw[if_pos k1]
  constructor
  ·rintro rfl
   exact⟨Int.mul_emod_left _ _,rfl,by show t / w.Size*w.Size<=t;omega,by show t<t / w.Size*w.Size+w.Size;omega⟩
  ·rintro⟨q1,q2,q3,q4⟩
   have hd:=Int.mul_ediv_add_emod s.Start w.Size
   rw[q1] at hd
   have hq:s.Start / w.Size=t / w.Size:=by
    rcases Xt3 (s.Start / w.Size) (t / w.Size) with h|h
    ·exfalso
     have:w.Size*(s.Start / w.Size+1)<=w.Size*(t / w.Size):=Int.mul_le_mul_of_nonneg_left (by omega) (by omega)
     rw[Int.mul_add] at this
     omega
    ·rcases Xt3 (t / w.Size) (s.Start / w.Size) with h'|h'
     ·exfalso
      have:w.Size*(t / w.Size+1)<=w.Size*(s.Start / w.Size):=Int.mul_le_mul_of_nonneg_left (by omega) (by omega)
      rw[Int.mul_add] at this
      omega
     ·omega
   rw[hq] at hd
   exact Xc9 (by show s.Start=t / w.Size*w.Size;omega) (by show s.End=t / w.Size*w.Size+w.Size;omega)
 ·have e:(w.Kind==1)=false:=by simp[k1]
  have z4:w.Kind=2/\1<=w.Every/\w.Every<=w.Size/\w.Size<=16*w.Every:=by
   rcases z3 with h|⟨h|h,_⟩
   ·exact h
   ·exact absurd h k1
   ·exact absurd h hk
  obtain⟨_,y1,y2,y3⟩:=z4
  obtain⟨a1,a2,a3,a4⟩:=X0af ht y1
  obtain⟨W,g1,g2,g3⟩:=X0ay (n:=t / w.Every) ht y1 z2 y2 rfl 18 FU (t / w.Every - 16) [] (by omega) (by unfold FU;omega) (by omega) (by omega) (by simp)
  rw[List.nil_append] at g1
  have hW:X8g t w.Size w.Every=some W:=by
   unfold X8g
   rw[Xhe ht y1 (by omega),Yo,X03 (z:=t / w.Every - 16) (by omega) (by omega),g1];rfl
  rw[e,cond_false,hW]
  refine⟨W,rfl,g2,fun s=>?_⟩
  rw[g3]
  unfold Xdo Xmr inS
  rw[if_neg k1]
  constructor
  ·rintro⟨j,q1,q2,q3,q4,q5,q6⟩
   refine⟨by rw[q3];exact Int.mul_emod_left _ _,by omega,q5,q6⟩
  ·rintro⟨q1,q2,q3,q4⟩
   have hd:=Int.mul_ediv_add_emod s.Start w.Every
   rw[q1] at hd
   have hc:w.Every*(s.Start / w.Every)=s.Start / w.Every*w.Every:=Int.mul_comm _ _
   refine⟨s.Start / w.Every,?_,?_,by omega,by omega,q3,q4⟩
   ·rcases Xt3 (s.Start / w.Every) (t / w.Every - 16) with h|h
    ·exfalso
     have:w.Every*(s.Start / w.Every+17)<=w.Every*(t / w.Every):=Int.mul_le_mul_of_nonneg_left (by omega) (by omega)
     rw[Int.mul_add] at this
     omega
    ·exact h
   ·rcases Xt3 (t / w.Every+1) (s.Start / w.Every) with h|h
    ·exfalso
     have:w.Every*(t / w.Every+2)<=w.Every*(s.Start / w.Every):=Int.mul_le_mul_of_nonneg_left (by omega) (by omega)
     rw[Int.mul_add] at this
     omega
    ·exact h
def X6w (a b:Xr):Prop:=a.Start<b.End/\b.Start<a.End
instance (a b:Xr):Decidable (X6w a b):=by unfold X6w;infer_instance
theorem Xxc (a b:Xr):X8e a b=some (decide (X6w a b)):=by
 unfold X8e X6w
 by_cases h:a.Start<b.End<;>simp[h]
def Xms (x s:Xr):Xr:=⟨if x.Start<s.Start then x.Start else s.Start,if x.End>s.End then x.End else s.End⟩
theorem X028 {x s z:Xr} (hz0:z.Start<z.End) (ho:X6w x s) (hz:¬ X6w z s) (hzx:¬ X6w z x):¬ X6w z (Xms x s):=by
 unfold X6w Xms at *
 simp only
 intro ⟨h1,h2⟩
 split at h1<;>split at h2<;>omega
structure X0c7 (xs:List Xr) (s:Xr) (a b:List Xr) (s':Xr) (a' b':List Xr):Prop where
 len:a'.length+b'.length<=a.length+b.length+xs.length
 lo:s'.Start<=s.Start
 hi:s.End<=s'.End
 st:s'.Start=s.Start\/∃ x∈xs,s'.Start=x.Start
 en:s'.End=s.End\/∃ x∈xs,s'.End=x.End
 mem:∀ x,(x∈a'\/x∈b')↔((x∈a\/x∈b)\/x∈xs/\¬ X6w x s')
 inn:∀ x∈xs,X6w x s'->s'.Start<=x.Start/\x.End<=s'.End
 pts:∀ p,2*s'.Start<p->p<2*s'.End->(2*s.Start<p/\p<2*s.End)\/∃ x∈xs,2*x.Start<p/\p<2*x.End
 out:∀ z:Xr,z.Start<z.End->¬ X6w z s->(∀ x∈xs,¬ X6w z x)->¬ X6w z s'
 nod:(a++b++xs).Nodup->(a'++b').Nodup
theorem Xta (w:X0l) (Y:List Xr):∀ (xs:List Xr) (k:Nat) (s:Xr) (a b:List Xr),xs.Pairwise (fun x y=>¬ X6w x y/\¬ X6w y x)->(∀ x∈xs,x.Start<x.End)->s.Start<s.End->a.length+b.length+xs.length<=100000 ->
  ∃ s' a' b',X0m w Y xs k s a b=some (.x0 s' a' b')/\X0c7 xs s a b s' a' b'
 |[],k,s,a,b,_,_,hs,_=>⟨s,a,b,rfl,⟨by simp,Int.le_refl _,Int.le_refl _,.inl rfl,.inl rfl,fun x=>by simp,fun x hx=>by simp at hx,fun p h1 h2=>.inl ⟨h1,h2⟩,fun z _ hz _=>hz,fun h=>by simpa using h⟩⟩
 |x::xs,k,s,a,b,hp,hx,hs,hn=>by
  rw[List.pairwise_cons] at hp
  simp only[List.length_cons] at hn
  have hx0:=hx x List.mem_cons_self
  have hxs:∀ y∈xs,y.Start<y.End:=fun y hy=>hx y (List.mem_cons_of_mem _ hy)
  rw[X0m,Xxc,Yo]
  by_cases ho:X6w x s
  ·rw[Yt ho]
   simp only[cond_true,Yo]
   have hh:(Xms x s).Start<(Xms x s).End:=by unfold X6w at ho;unfold Xms;simp only;split<;>split<;>omega
   obtain⟨s',a',b',g1,g⟩:=Xta w Y xs (k+1) (Xms x s) a b hp.2 hxs hh (by omega)
   have g3:=g.lo
   have g4:=g.hi
   have hx':s'.Start<=x.Start/\x.End<=s'.End:=by unfold Xms at g3 g4;simp only at g3 g4;split at g3<;>split at g4<;>omega
   have hs':s'.Start<=s.Start/\s.End<=s'.End:=by unfold Xms at g3 g4;simp only at g3 g4;split at g3<;>split at g4<;>omega
   have hxo:X6w x s':=by unfold X6w;omega
   refine⟨s',a',b',g1,⟨by have:=g.len;simp only[List.length_cons];omega,hs'.1,hs'.2,?_,?_,fun y=>?_,fun y hy hyo=>?_,fun p q1 q2=>?_,fun z hz0 hz hzx=>?_,fun h=>?_⟩⟩
   ·rcases g.st with h|⟨y,hy,h⟩
    ·unfold Xms at h;simp only at h
     split at h
     ·exact .inr ⟨x,List.mem_cons_self,h⟩
     ·exact .inl h
    ·exact .inr ⟨y,List.mem_cons_of_mem _ hy,h⟩
   ·rcases g.en with h|⟨y,hy,h⟩
    ·unfold Xms at h;simp only at h
     split at h
     ·exact .inr ⟨x,List.mem_cons_self,h⟩
     ·exact .inl h
    ·exact .inr ⟨y,List.mem_cons_of_mem _ hy,h⟩
   ·rw[g.mem]
    constructor
    ·rintro(h|⟨h,h'⟩)
     ·exact .inl h
     ·exact .inr ⟨List.mem_cons_of_mem _ h,h'⟩
    ·rintro(h|⟨h,h'⟩)
     ·exact .inl h
     ·rcases List.mem_cons.1 h with rfl|h
      ·exact absurd hxo h'
      ·exact .inr ⟨h,h'⟩
   ·rcases List.mem_cons.1 hy with rfl|hy
    ·exact hx'
    ·exact g.inn y hy hyo
   ·rcases g.pts p q1 q2 with ⟨r1,r2⟩|⟨y,hy,h⟩
    ·have:(2*s.Start<p/\p<2*s.End)\/(2*x.Start<p/\p<2*x.End):=by
      unfold X6w at ho;unfold Xms at r1 r2;simp only at r1 r2
      split at r1<;>split at r2<;>omega
     rcases this with h|h
     ·exact .inl h
     ·exact .inr ⟨x,List.mem_cons_self,h⟩
    ·exact .inr ⟨y,List.mem_cons_of_mem _ hy,h⟩
   ·exact g.out z hz0 (X028 hz0 ho hz (hzx x List.mem_cons_self)) fun y hy=>hzx y (List.mem_cons_of_mem _ hy)
   ·refine g.nod ?_
    rw[List.nodup_append] at h ⊢
    exact⟨h.1,(List.nodup_cons.1 h.2.1).2,fun u hu v hv=>h.2.2 u hu v (List.mem_cons_of_mem _ hv)⟩
  ·rw[Yf ho]
   simp only[cond_false]
   have fin:∀ a1 b1:List Xr,(a1++b1).Perm (x::(a++b))->∃ s' a' b',X0m w Y xs (k+1) s a1 b1=some (.x0 s' a' b')/\X0c7 (x::xs) s a b s' a' b':=by
    intro a1 b1 hm
    have hl:=hm.length_eq
    rw[List.length_append,List.length_cons,List.length_append] at hl
    have hmem:∀ y,(y∈a1\/y∈b1)↔(y=x\/y∈a\/y∈b):=fun y=>by
     have:=hm.mem_iff (a:=y)
     simpa using this
    obtain⟨s',a',b',g1,g⟩:=Xta w Y xs (k+1) s a1 b1 hp.2 hxs hs (by omega)
    have hno:¬ X6w x s':=g.out x hx0 ho fun y hy=>(hp.1 y hy).1
    refine⟨s',a',b',g1,⟨by have:=g.len;simp only[List.length_cons];omega,g.lo,g.hi,?_,?_,fun y=>?_,fun y hy hyo=>?_,fun p q1 q2=>?_,fun z hz0 hz hzx=>g.out z hz0 hz fun y hy=>hzx y (List.mem_cons_of_mem _ hy),fun h=>?_⟩⟩
    ·exact g.st.imp id fun⟨y,hy,h⟩=>⟨y,List.mem_cons_of_mem _ hy,h⟩
    ·exact g.en.imp id fun⟨y,hy,h⟩=>⟨y,List.mem_cons_of_mem _ hy,h⟩
    ·rw[g.mem,hmem]
     constructor
     ·rintro((rfl|h)|⟨h,h'⟩)
      ·exact .inr ⟨List.mem_cons_self,hno⟩
      ·exact .inl h
      ·exact .inr ⟨List.mem_cons_of_mem _ h,h'⟩
     ·rintro(h|⟨h,h'⟩)
      ·exact .inl (.inr h)
      ·rcases List.mem_cons.1 h with rfl|h
       ·exact .inl (.inl rfl)
       ·exact .inr ⟨h,h'⟩
    ·rcases List.mem_cons.1 hy with rfl|hy
     ·exact absurd hyo hno
     ·exact g.inn y hy hyo
    ·rcases g.pts p q1 q2 with h|⟨y,hy,h⟩
     ·exact .inl h
     ·exact .inr ⟨y,List.mem_cons_of_mem _ hy,h⟩
    ·refine g.nod ?_
     have hp2:(a1++b1++xs).Perm (a++b++x::xs):=(hm.append_right xs).trans (List.perm_middle (a:=x) (l₁:=a++b) (l₂:=xs)).symm
     exact hp2.nodup_iff.2 h
   by_cases hlt:x.Start<s.Start
   ·rw[Yt hlt,cond_true,X1y (by rw[List.length_append,List.length_singleton];omega)]
    simp only[Yo]
    exact fin (a++[x]) b (by rw[List.append_assoc];exact List.perm_middle)
   ·rw[Yf hlt,cond_false,X1y (by rw[List.length_append,List.length_singleton];omega)]
    simp only[Yo]
    exact fin a (b++[x]) (by rw[<-List.append_assoc];exact List.perm_append_singleton _ _)
structure SesL (size:Int) (T:Int->Prop) (l:List Xr):Prop where
 mem:∀ s,s∈l↔Xff size T s
 cover:∀ t,T t->∃ s∈l,s.Start<=t/\t+size<=s.End
 nod:l.Nodup
theorem SesL.nil {size:Int} (hs:1<=size):SesL size (fun _=>False) []:=by
 refine⟨fun s=>⟨fun h=>by simp at h,fun⟨h1,h2,_⟩=>?_⟩,fun t h=>h.elim,List.nodup_nil⟩
 obtain⟨t,h,_⟩:=h2 (2*s.Start+1) (by omega) (by omega)
 exact h.elim
def Xzp (w:X0l) (l:List Xr) (t:Int):Option (List Xr) :=
 (X2o (List.length l)).bind fun _=>(X0m w l l 0 (Xr.mk t (IntKind.i64.wrap (t+w.Size))) ([]:List Xr) ([]:List Xr)).bind fun o=>match o with|.x0 z2 z3 z4=>(X1l (List.length (z3++[z2])) 16).bind fun _=>bif (List.isEmpty z4) then (some ((z3++[z2])++z4)) else ((X1l (List.length ((z3++[z2])++z4)) 16).bind fun _=>some ((z3++[z2])++z4))
theorem X07x {w:X0l} {T:Int->Prop} {l:List Xr} {t:Int} (hw:1<=w.Size/\w.Size<=1073741824) (ht:okT t) (h:SesL w.Size T l) (hl:l.length<=10000) :
  ∃ l',Xzp w l t=some l'/\SesL w.Size (fun u=>T u\/u=t) l'/\l'.length<=l.length+1:=by
 obtain⟨t1,t2⟩:=ht
 have hpw:l.Pairwise (fun x y=>¬ X6w x y/\¬ X6w y x):=by
  refine h.nod.imp_of_mem fun {x y} hx hy hne=>?_
  have hx':=(h.mem x).1 hx
  have hy':=(h.mem y).1 hy
  exact⟨fun o=>hne (Xdu hx' hy' o.1 o.2),fun o=>hne (Xdu hx' hy' o.2 o.1)⟩
 obtain⟨S,a,b,g1,g⟩:=Xta w l l 0 ⟨t,t+w.Size⟩ [] [] hpw (fun x hx=>((h.mem x).1 hx).1) (by show t<t+w.Size;omega) (by simp;omega)
 have glo:S.Start<=t:=g.lo
 have ghi:t+w.Size<=S.End:=g.hi
 have glen:=g.len
 simp only[List.length_nil,Nat.zero_add] at glen
 have gm:∀ x,(x∈a\/x∈b)↔(x∈l/\¬ X6w x S):=fun x=>by rw[g.mem];simp
 have hT:∀ {p},cov w.Size T p->cov w.Size (fun u=>T u\/u=t) p:=fun c=>Xir (fun _ h=>.inl h) c
 have hS:Xff w.Size (fun u=>T u\/u=t) S:=by
  refine⟨by omega,fun p q1 q2=>?_,?_,?_⟩
  ·rcases g.pts p q1 q2 with h1|⟨y,hy,h1⟩
   ·exact⟨t,.inr rfl,by simpa using h1.1,by simpa using h1.2⟩
   ·exact hT (((h.mem y).1 hy).2.1 p h1.1 h1.2)
  ·rintro⟨u,hu|rfl,q1,q2⟩
   ·obtain⟨y,hy,r1,r2⟩:=h.cover u hu
    have:=(g.inn y hy (by unfold X6w;omega)).1
    omega
   ·omega
  ·rintro⟨u,hu|rfl,q1,q2⟩
   ·obtain⟨y,hy,r1,r2⟩:=h.cover u hu
    have:=(g.inn y hy (by unfold X6w;omega)).2
    omega
   ·omega
 have hold:∀ x,x∈l->¬ X6w x S->Xff w.Size (fun u=>T u\/u=t) x:=by
  intro x hx hno
  obtain⟨x1,x2,x3,x4⟩:=(h.mem x).1 hx
  refine⟨x1,fun p q1 q2=>hT (x2 p q1 q2),?_,?_⟩
  ·rintro⟨u,hu|rfl,q1,q2⟩
   ·exact x3 ⟨u,hu,q1,q2⟩
   ·exact hno (by unfold X6w;omega)
  ·rintro⟨u,hu|rfl,q1,q2⟩
   ·exact x4 ⟨u,hu,q1,q2⟩
   ·exact hno (by unfold X6w;omega)
 have hmem:∀ s,s∈(a++[S])++b↔Xff w.Size (fun u=>T u\/u=t) s:=by
  intro s
  have e:s∈(a++[S])++b↔(s∈a\/s∈b)\/s=S:=by simp only[List.mem_append,List.mem_singleton];constructor<;>(intro h;rcases h with (h|h)|h<;>simp[h])
  rw[e,gm]
  constructor
  ·rintro(⟨h1,h2⟩|rfl)
   ·exact hold s h1 h2
   ·exact hS
  ·intro hs
   obtain⟨u,hu,q1,q2⟩:=hs.2.1 (2*s.Start+1) (by omega) (by have:=hs.1;omega)
   have hs1:=hs.1
   rcases hu with hu|rfl
   ·obtain⟨y,hy,r1,r2⟩:=h.cover u hu
    by_cases hyo:X6w y S
    ·have:=g.inn y hy hyo
     right
     exact Xdu hs hS (by omega) (by omega)
    ·left
     have:=Xdu hs (hold y hy hyo) (by omega) (by omega)
     subst this
     exact⟨hy,hyo⟩
   ·right
    exact Xdu hs hS (by omega) (by omega)
 have hnod:((a++[S])++b).Nodup:=by
  have h1:=g.nod (by simpa using h.nod)
  have h2:((a++[S])++b).Perm (S::(a++b)):=by rw[List.append_assoc];exact List.perm_middle
  refine h2.nodup_iff.2 (List.nodup_cons.2 ⟨fun hm=>?_,h1⟩)
  have:=(gm S).1 (List.mem_append.1 hm)
  exact this.2 (by unfold X6w;omega)
 refine⟨(a++[S])++b,?_,⟨hmem,fun u hu=>?_,hnod⟩,by simp only[List.length_append,List.length_singleton];omega⟩
 ·unfold Xzp
  rw[X19 (by omega),Yo,X03 (by omega) (by omega),g1,Yo]
  simp only
  rw[X1y (by simp only[List.length_append,List.length_singleton];omega),Yo,X1y (by simp only[List.length_append,List.length_singleton];omega)]
  cases List.isEmpty b<;>rfl
 ·rcases hu with hu|rfl
  ·obtain⟨y,hy,r1,r2⟩:=h.cover u hu
   by_cases hyo:X6w y S
   ·have:=g.inn y hy hyo
    exact⟨S,(hmem S).2 hS,by omega,by omega⟩
   ·exact⟨y,(hmem y).2 (hold y hy hyo),r1,r2⟩
  ·exact⟨S,(hmem S).2 hS,glo,ghi⟩
def Xce (p:Pu):Xv:=⟨p.1,p.2⟩
structure WinL (w:X0l) (T:Int->Prop) (l:List Xr):Prop where
 mem:∀ s,s∈l↔Xak w T s
 ses:w.Kind=3->SesL w.Size T l
theorem Xo6 {w:X0l} (hw:okW w) (key:Int) (Y:List Xv):∀ (xs:List Pu) (k:Nat) (L:List Pu) (l:List Xr),(∀ p∈xs,okT p.1.Time)->WinL w (X60 L key) l->l.length+18*xs.length<=10000 ->
  ∃ l',X3l Y key w (xs.map Xce) k l=some (.x0 l')/\WinL w (X60 (L++xs) key) l'/\l'.length<=l.length+18*xs.length
 |[],k,L,l,_,h,_=>⟨l,rfl,by simpa using h,by simp⟩
 |p::xs,k,L,l,ht,h,hn=>by
  simp only[List.length_cons] at hn
  have hp:=ht p List.mem_cons_self
  have step:∃ l1,(bif ((Xce p).Record.Key != key) then (some l) else (bif (w.Kind==(3:Int)) then ((Xzp w l (Xce p).Record.Time).bind fun j=>some j) else ((X7n w (Xce p).Record.Time).bind fun v=>bif (List.isEmpty v) then (some (l++v)) else ((X1l (List.length (l++v)) 16).bind fun _=>some (l++v)))):Option (List Xr))=some l1/\WinL w (X60 (L++[p]) key) l1/\l1.length<=l.length+18:=by
   by_cases hk:p.1.Key=key
   ·have e:((Xce p).Record.Key != key)=false:=by simp[Xce,hk]
    have hTk:∀ t,X60 (L++[p]) key t↔(X60 L key t\/t=p.1.Time):=fun t=>by
     rw[X7v];constructor<;>(rintro(h|h);exact .inl h)
     ·exact .inr h.2.symm
     ·exact .inr ⟨hk,h.symm⟩
    have hTe:X60 (L++[p]) key=fun t=>X60 L key t\/t=p.1.Time:=funext fun t=>propext (hTk t)
    rw[e,cond_false]
    by_cases k3:w.Kind=3
    ·rw[show(w.Kind==3)=true by simp[k3],cond_true]
     obtain⟨l1,g1,g2,g3⟩:=X07x (t:=p.1.Time) ⟨hw.1,hw.2.1⟩ hp (h.ses k3) (by omega)
     refine⟨l1,by show(Xzp w l p.1.Time).bind _=_;rw[g1];rfl,⟨fun s=>?_,fun _=>by rw[hTe];exact g2⟩,by omega⟩
     rw[g2.mem,hTe];unfold Xak;rw[if_pos k3]
    ·rw[show(w.Kind==3)=false by simp[k3],cond_false]
     obtain⟨W,g1,g2,g3⟩:=X04w hw k3 hp
     refine⟨l++W,?_,⟨fun s=>?_,fun h3=>absurd h3 k3⟩,by rw[List.length_append];omega⟩
     ·show(X7n w p.1.Time).bind _=_
      rw[g1,Yo,X1y (by rw[List.length_append];omega)]
      cases List.isEmpty W<;>rfl
     ·rw[List.mem_append,h.mem,g3,hTe]
      unfold Xak
      rw[if_neg k3,if_neg k3]
      constructor
      ·rintro(⟨t,h1,h2⟩|h1)
       ·exact⟨t,.inl h1,h2⟩
       ·exact⟨_,.inr rfl,h1⟩
      ·rintro⟨t,h1|rfl,h2⟩
       ·exact .inl ⟨t,h1,h2⟩
       ·exact .inr h2
   ·have e:((Xce p).Record.Key != key)=true:=by simpa[Xce] using hk
    have hTe:X60 (L++[p]) key=X60 L key:=funext fun t=>propext (by rw[X7v];exact⟨fun h=>h.elim id fun h=>absurd h.1 hk,.inl⟩)
    rw[e,cond_true]
    exact⟨l,rfl,by rw[hTe];exact h,by omega⟩
  obtain⟨l1,s1,s2,s3⟩:=step
  obtain⟨l',g1,g2,g3⟩:=Xo6 hw key Y xs (k+1) (L++[p]) l1 (fun q hq=>ht q (List.mem_cons_of_mem _ hq)) s2 (by omega)
  refine⟨l',?_,by rw[show L++p::xs=(L++[p])++xs by simp];exact g2,by simp only[List.length_cons];omega⟩
  rw[List.map_cons,X3l]
  have s1':=s1
  unfold Xzp at s1'
  rw[s1',Yo,g1]
theorem Xwz {w:X0l} (hw:okW w) (L:List Pu) (hL:Xvp w L) (key:Int):∃ l,X6o w (L.map Xce) key=some l/\l.length<=18*L.length/\∀ s,s∈l↔Xak w (X60 L key) s:=by
 have h0:X60 [] key=fun _=>False:=funext fun t=>propext ⟨fun⟨_,h,_⟩=>by simp at h,fun h=>h.elim⟩
 have hlen:=hL.len
 obtain⟨l,g1,g2,g3⟩:=Xo6 hw key (L.map Xce) L 0 [] [] hL.time (by
  rw[h0]
  refine⟨fun s=>⟨fun h=>by simp at h,fun h=>?_⟩,fun _=>.nil hw.1⟩
  unfold Xak at h
  split at h
  ·exact((SesL.nil hw.1).mem s).2 h
  ·obtain⟨t,h,_⟩:=h;exact h.elim) (by simp;omega)
 refine⟨l,?_,by simpa using g3,fun s=>by simpa using g2.mem s⟩
 unfold X6o
 rw[List.length_map,X19 (by omega),Yo,g1];rfl
end Go.D


namespace Go.D
theorem Xdy {a:X0b} (h:okA a) (hc:a.Count<=1000) {v:Int} (hv:i64 v):X7y a v=some (X44 a (ofA v)):=by
 have hn:=Xbr h
 have hg:∀ s,X48 8 s v=some (IntKind.i64.wrap (s+v)):=fun s=>rfl
 unfold X7y
 by_cases h0:a.Count=0
 ·have ha:a=Xd3:=by
   rcases h with h|h|h
   ·exact h.2
   ·omega
   ·omega
  subst ha
  have e:(Xd3.Count==0)=true:=rfl
  rw[e,cond_true,Yo]
  simp only[Yf (show ¬ v<v by omega),Yf (show ¬ v>v by omega),cond_false,Yo,hg]
  rw[Xl8]
  unfold ofA Xd3
  simp only[Int.zero_add]
  rw[X07f hv];rfl
 ·have e:(a.Count==0)=false:=by simpa using h0
  rw[e,cond_false,Yo]
  have hw:IntKind.i64.wrap (a.Count+1)=a.Count+1:=X03 (by omega) (by omega)
  unfold X44
  rw[if_neg h0,if_neg (by show ¬ (1:Int)=0;omega)]
  unfold ofA
  by_cases h1:v<a.Min
  ·rw[Yt h1,cond_true,Yo]
   by_cases h2:v>a.Max
   ·rw[Yt h2,cond_true,Yo,hg,Yo];simp only[hw,if_pos h1,if_pos h2]
   ·rw[Yf h2,cond_false,Yo,hg,Yo];simp only[hw,if_pos h1,if_neg h2]
  ·rw[Yf h1,cond_false,Yo]
   by_cases h2:v>a.Max
   ·rw[Yt h2,cond_true,Yo,hg,Yo];simp only[hw,if_neg h1,if_pos h2]
   ·rw[Yf h2,cond_false,Yo,hg,Yo];simp only[hw,if_neg h1,if_neg h2]
theorem Xzt {agg:Int} (h1:1<=agg) (h2:agg<=4) (a:X0b):Xav agg a=some (valA agg a):=by
 unfold Xav valA
 rcases(by omega:agg=1\/agg=2\/agg=3\/agg=4) with rfl|rfl|rfl|rfl<;>rfl
theorem X073 (Y:List Xv) (key:Int) (q:Xu) (s:Xr) (r0:X0t):∀ (xs:List Pu) (k:Nat) (P:List Pu),(∀ p∈xs,(p.2=0\/p.2=1)/\i64 p.1.Value)->P.length+xs.length<=900 ->
  X6h Y key q s r0 (xs.map Xce) k (Xaq P key s)=some (.x0 (Xaq (P++xs) key s))
 |[],k,P,_,_=>by rw[List.append_nil];rfl
 |p::xs,k,P,hx,hn=>by
  simp only[List.length_cons] at hn
  obtain⟨hs,hv⟩:=hx p List.mem_cons_self
  have he:=Xn0 (L:=P) (by omega) key s
  have go:=X073 Y key q s r0 xs (k+1) (P++[p]) (fun y hy=>hx y (List.mem_cons_of_mem _ hy)) (by rw[List.length_append,List.length_singleton];omega)
  rw[List.append_assoc,List.singleton_append] at go
  rw[List.map_cons,X6h]
  have hc:(bif (bif ((Xce p).Record.Key==key) then (decide (s.Start<=(Xce p).Record.Time)) else false) then (decide ((Xce p).Record.Time<s.End)) else false)=decide (p.1.Key=key/\inS s p.1.Time):=by
   show(bif (bif (p.1.Key==key) then (decide (s.Start<=p.1.Time)) else false) then (decide (p.1.Time<s.End)) else false)=_
   unfold inS
   by_cases h1:p.1.Key=key
   ·by_cases h2:s.Start<=p.1.Time<;>simp[h1,h2]
   ·simp[h1]
  rw[hc]
  by_cases hin:p.1.Key=key/\inS s p.1.Time
  ·rw[Yt hin,cond_true]
   have h0:((Xce p).Side==0)=decide (p.2=0):=by show(p.2==0)=_;by_cases h:p.2=0<;>simp[h]
   have h1:((Xce p).Side==1)=decide (p.2=1):=by show(p.2==1)=_;by_cases h:p.2=1<;>simp[h]
   rw[h0,h1]
   rcases hs with hs|hs
   ·rw[Yt hs,cond_true]
    show((((X7y (Xaq P key s).e0 p.1.Value).bind fun v93=>some (V2.mk v93 (Xaq P key s).e1)).bind fun j=>some j).bind fun j=>_)=_
    rw[Xdy he.1 he.2.2.1 hv,Yo,Yo,Yo]
    have:(V2.mk (X44 (Xaq P key s).e0 (ofA p.1.Value)) (Xaq P key s).e1)=Xaq (P++[p]) key s:=by
     unfold Xaq
     rw[X3c,X3c,if_pos ⟨hin.1,hin.2,hs⟩,if_neg (fun h=>by have:=h.2.2;omega),Xc2,List.append_nil]
    rw[this];exact go
   ·rw[Yf (by omega),cond_false,Yt hs,cond_true]
    show((((X7y (Xaq P key s).e1 p.1.Value).bind fun v93=>some (V2.mk (Xaq P key s).e0 v93)).bind fun j=>some j).bind fun j=>_)=_
    rw[Xdy he.2.1 he.2.2.2 hv,Yo,Yo,Yo]
    have:(V2.mk (Xaq P key s).e0 (X44 (Xaq P key s).e1 (ofA p.1.Value)))=Xaq (P++[p]) key s:=by
     unfold Xaq
     rw[X3c P p key s 0,X3c P p key s 1,if_neg (fun h=>by have:=h.2.2;omega),if_pos ⟨hin.1,hin.2,hs⟩,Xc2,List.append_nil]
    rw[this];exact go
  ·rw[Yf hin,cond_false,Yo]
   have:Xaq P key s=Xaq (P++[p]) key s:=by
    unfold Xaq
    rw[X3c,X3c,if_neg (fun h=>hin ⟨h.1,h.2.1⟩),if_neg (fun h=>hin ⟨h.1,h.2.1⟩),List.append_nil,List.append_nil]
   rw[this];exact go
def Xsn (L:List Pu) (key:Int) (s:Xr):X8:=⟨key,s,Xaq L key s⟩
theorem Xjy {q:Xu} (h1:1<=q.Agg) (h2:q.Agg<=4) {L:List Pu} (hL:∀ p∈L,(p.2=0\/p.2=1)/\i64 p.1.Value) (hn:L.length<=900) (key:Int) (s:Xr) :
  Xfg q (L.map Xce) key s=some (if live q (Xsn L key s) then (Xz8 q (Xsn L key s),true) else (⟨0,⟨0,0⟩,⟨0,0⟩⟩,false)):=by
 unfold Xfg
 rw[List.length_map,X19 (by omega),Yo]
 have h0:(V2.mk (X0b.mk 0 0 0 0) (X0b.mk 0 0 0 0))=Xaq [] key s:=rfl
 rw[h0,X073 _ key q s _ L 0 [] hL (by simp;omega),Yo]
 simp only[List.nil_append]
 rw[Xzt h1 h2,Xzt h1 h2]
 unfold live Xz8 Xsn
 simp only
 generalize Xaq L key s=V
 by_cases c0:V.e0.Count=0
 ·have e0:(V.e0.Count==0)=true:=by simp[c0]
  rw[e0,Yf (show ¬ V.e0.Count≠0 by omega)];rfl
 ·have e0:(V.e0.Count==0)=false:=by simpa using c0
  rw[e0,Yt c0]
  by_cases c1:V.e1.Count=0
  ·have e1:(V.e1.Count==0)=true:=by simp[c1]
   rw[e1,Yf (show ¬ V.e1.Count≠0 by omega)]
   cases q.Join<;>rfl
  ·have e1:(V.e1.Count==0)=false:=by simpa using c1
   rw[e1,Yt c1]
   cases q.Join<;>rfl
def ltR (a b:X0t):Prop:=a.Span.End<b.Span.End\/a.Span.End=b.Span.End/\(a.Span.Start<b.Span.Start\/a.Span.Start=b.Span.Start/\a.Key<b.Key)
instance (a b:X0t):Decidable (ltR a b):=by unfold ltR;infer_instance
theorem X018 {a b c:X0t} (h:ltR a b) (k:ltR b c):ltR a c:=by unfold ltR at *;omega
theorem Xjh (a:X0t):¬ ltR a a:=by unfold ltR;omega
theorem X019 {a b:X0t} (h:ltR a b):¬ ltR b a:=by unfold ltR at *;omega
theorem X08z (a b:X0t):Xdd a b=some (decide (ltR a b)):=by
 unfold Xdd Xg9 ltR
 simp only
 by_cases h1:a.Span.End=b.Span.End
 ·rw[show(a.Span.End != b.Span.End)=false by simp[h1],cond_false]
  by_cases h2:a.Span.Start=b.Span.Start
  ·rw[show(a.Span.Start != b.Span.Start)=false by simp[h2],cond_false,Yo]
   congr 1;simp[h1,h2]
  ·rw[show(a.Span.Start != b.Span.Start)=true by simpa using h2,cond_true,Yo]
   congr 1
   by_cases h3:a.Span.Start<b.Span.Start
   ·rw[Yt h3];exact(Yt (.inr ⟨h1,.inl h3⟩)).symm
   ·rw[Yf h3];exact(Yf (by omega)).symm
 ·rw[show(a.Span.End != b.Span.End)=true by simpa using h1,cond_true,Yo]
  congr 1
  by_cases h3:a.Span.End<b.Span.End
  ·rw[Yt h3];exact(Yt (.inl h3)).symm
  ·rw[Yf h3];exact(Yf (by omega)).symm
theorem Xq3 {α:Type} (a:List α) (x:α) (b:List α):X1p (a++x::b) (a.length:Int)=some x:=by rw[X3i];simp
theorem X007 (q:Xu) (L:List Xv) (i key:Int) (W:List Xr) (k:Int) (x:X0t):∀ (n f:Nat) (a b:List X0t),a.length=n->n<f->n+b.length<=90000->(a++b).Pairwise ltR->(∀ y∈a,ltR x y\/ltR y x)->(∀ y∈b,ltR x y) ->
  ∃ r,X5h q L i key W k f (a++x::b) (n:Int)=some (.x0 r)/\r.Pairwise ltR/\r.Perm (x::(a++b))
 |0,f,a,b,ha,hf,hn,hs,hx,hb=>by
  obtain⟨f,rfl⟩:∃ z,f=z+1:=⟨f - 1,by omega⟩
  obtain rfl:=List.eq_nil_of_length_eq_zero ha
  refine⟨x::b,?_,List.pairwise_cons.2 ⟨hb,by simpa using hs⟩,by simp⟩
  rw[X5h];rfl
 |n+1,f,a,b,ha,hf,hn,hs,hx,hb=>by
  obtain⟨f,rfl⟩:∃ z,f=z+1:=⟨f - 1,by omega⟩
  obtain⟨c,y,rfl⟩:∃ c y,a=c++[y]:=⟨a.dropLast,a.getLast (fun h=>by rw[h] at ha;cases ha),(List.dropLast_concat_getLast _).symm⟩
  have hc:c.length=n:=by rw[List.length_append,List.length_singleton] at ha;omega
  have e0:((n+1:Nat):Int)=((c++[y]).length:Int):=by rw[ha]
  have e1:X1p (c++[y]++x::b) ((n+1:Nat):Int)=some x:=by rw[e0];exact Xq3 _ _ _
  have e2:IntKind.i64.wrap (((n+1:Nat):Int) - 1)=(n:Int):=by rw[X03 (by omega) (by omega)];omega
  have e3:X1p (c++[y]++x::b) (n:Int)=some y:=by rw[List.append_assoc,List.singleton_append,<-hc];exact Xq3 _ _ _
  rw[X5h,Yt (show((n+1:Nat):Int)>0 by omega),cond_true,e2,e1,e3]
  simp only[Yo,X08z,cond_true]
  by_cases hlt:ltR x y
  ·rw[Yt hlt,cond_true]
   have s1:List.set (c++[y]++x::b) (Int.toNat ((n+1:Nat):Int)) y=c++y::y::b:=by
    rw[Int.toNat_natCast,List.append_assoc,List.singleton_append,show n+1=c.length+1 by omega,List.set_append_right _ _ (by omega)];simp
   have s2:X1p (c++y::y::b) (n:Int)=some y:=by rw[<-hc];exact Xq3 _ _ _
   have s3:List.set (c++y::y::b) (Int.toNat (n:Int)) x=c++x::(y::b):=by
    rw[Int.toNat_natCast,<-hc,List.set_append_right _ _ (by omega)];simp
   rw[s1,s2,Yo,s3]
   have hs':(c++y::b).Pairwise ltR:=by rw[List.append_assoc,List.singleton_append] at hs;exact hs
   obtain⟨r,g1,g2,g3⟩:=X007 q L i key W k x n f c (y::b) hc (by omega) (by simp only[List.length_cons];omega) hs' (fun z hz=>hx z (by simp[hz])) (fun z hz=>by
    rcases List.mem_cons.1 hz with rfl|hz
    ·exact hlt
    ·exact hb z hz)
   exact⟨r,g1,g2,by rw[List.append_assoc,List.singleton_append];exact g3⟩
  ·rw[Yf hlt,cond_false]
   have hyx:ltR y x:=(hx y (by simp)).resolve_left hlt
   refine⟨_,rfl,?_,List.perm_middle⟩
   rw[List.pairwise_append] at hs ⊢
   refine⟨hs.1,List.pairwise_cons.2 ⟨hb,hs.2.1⟩,fun u hu v hv=>?_⟩
   rcases List.mem_cons.1 hv with rfl|hv
   ·rw[List.pairwise_append] at hs
    rcases List.mem_append.1 hu with hu|hu
    ·exact X018 (hs.1.2.2 u hu y (by simp)) hyx
    ·rw[List.mem_singleton.1 hu];exact hyx
   ·exact hs.2.2 u hu v hv
theorem X07h (Y:List X0t) (key:Int) (s:Xr):∀ (xs:List X0t) (k:Nat),X5c Y key s xs k=some (if ∃ r∈xs,r.Key=key/\r.Span=s then .x1 else .x0)
 |[],k=>by simp[X5c]
 |x::xs,k=>by
  rw[X5c,X07h Y key s xs]
  have hc:((bif (x.Key==key) then (some (bif (x.Key==key) then (Xdp x.Span s) else false)) else (some false):Option Bool))=some (decide (x.Key=key/\x.Span=s)):=by
   have hsp:Xdp x.Span s=decide (x.Span=s):=by
    unfold Xdp
    by_cases h:x.Span=s
    ·subst h;simp
    ·rw[Yf h]
     by_cases h1:x.Span.Start=s.Start
     ·have:x.Span.End≠s.End:=fun h2=>h (Xc9 h1 h2)
      simp[h1,this]
     ·simp[h1]
   rw[hsp]
   by_cases h:x.Key=key
   ·simp[h]
   ·rw[show(x.Key==key)=false by simpa using h,Yf (p:=x.Key=key/\x.Span=s) (fun hh=>h hh.1)];rfl
  rw[hc,Yo]
  by_cases h:x.Key=key/\x.Span=s
  ·rw[Yt h,cond_true,if_pos ⟨x,List.mem_cons_self,h⟩]
  ·rw[Yf h,cond_false]
   by_cases h2:∃ r∈xs,r.Key=key/\r.Span=s
   ·obtain⟨r,hr,h3⟩:=h2
    rw[if_pos ⟨r,hr,h3⟩,if_pos ⟨r,List.mem_cons_of_mem _ hr,h3⟩]
   ·rw[if_neg h2,if_neg]
    rintro⟨r,hr,h3⟩
    rcases List.mem_cons.1 hr with rfl|hr
    ·exact h h3
    ·exact h2 ⟨r,hr,h3⟩
theorem X0bk (Y:List X0t) (hn:Y.length<=100000) (key:Int) (s:Xr):Xfh Y key s=some (decide (∃ r∈Y,r.Key=key/\r.Span=s)):=by
 unfold Xfh
 rw[X19 (by omega),Yo,X07h]
 by_cases h:∃ r∈Y,r.Key=key/\r.Span=s
 ·rw[if_pos h,Yt h];rfl
 ·rw[if_neg h,Yf h];rfl
theorem Xrd {α:Type} [DecidableEq α]:∀ (a b:List α),a.Nodup->(∀ x∈a,x∈b)->a.length<=b.length
 |[],b,_,_=>by simp
 |x::a,b,hn,hs=>by
  rw[List.nodup_cons] at hn
  have hx:=hs x List.mem_cons_self
  have:=Xrd a (b.erase x) hn.2 fun y hy=>(List.mem_erase_of_ne (fun h:y=x=>hn.1 (by rw[<-h];exact hy))).2 (hs y (List.mem_cons_of_mem _ hy))
  rw[List.length_erase_of_mem hx] at this
  have hb:0<b.length:=List.length_pos_of_mem hx
  simp only[List.length_cons];omega
theorem Xqt {l:List X0t} (h:l.Pairwise ltR):l.Nodup:=h.imp fun hab e=>by subst e;exact Xjh _ hab
theorem Xtj:∀ {a b:List X0t},a.Pairwise ltR->b.Pairwise ltR->(∀ e,e∈a↔e∈b)->a=b:=by
 intro a
 induction a with
 |nil =>
  intro b _ _ h
  cases b with
  |nil=>rfl
  |cons y b=>exact absurd ((h y).2 List.mem_cons_self) (by simp)
 |cons x a ih =>
  intro b ha hb h
  cases b with
  |nil=>exact absurd ((h x).1 List.mem_cons_self) (by simp)
  |cons y b =>
   rw[List.pairwise_cons] at ha hb
   have hxy:x=y:=by
    rcases List.mem_cons.1 ((h x).1 List.mem_cons_self) with h1|h1
    ·exact h1
    ·rcases List.mem_cons.1 ((h y).2 List.mem_cons_self) with h2|h2
     ·exact h2.symm
     ·exact absurd (hb.1 x h1) (X019 (ha.1 y h2))
   subst hxy
   rw[ih ha.2 hb.2]
   intro e
   constructor
   ·intro he
    rcases List.mem_cons.1 ((h e).1 (List.mem_cons_of_mem _ he)) with h1|h1
    ·subst h1;exact absurd (ha.1 e he) (Xjh e)
    ·exact h1
   ·intro he
    rcases List.mem_cons.1 ((h e).2 (List.mem_cons_of_mem _ he)) with h1|h1
    ·subst h1;exact absurd (hb.1 e he) (Xjh e)
    ·exact h1
structure RIn (q:Xu) (es:List X8) (out:List X0t):Prop where
 sorted:out.Pairwise ltR
 sub:∀ r∈out,r∈Xa3 q es
theorem Xl5 {q:Xu} {w:X0l} {L:List Pu} {es:List X8} (c:X90 w L es) (r:X0t):r∈Xa3 q es↔∃ key s,Xak w (X60 L key) s/\live q (Xsn L key s)=true/\r=Xz8 q (Xsn L key s):=by
 unfold Xa3
 rw[List.mem_map]
 constructor
 ·rintro⟨e,he,rfl⟩
  rw[List.mem_filter,c.mem] at he
  obtain⟨⟨h1,h2⟩,h3⟩:=he
  have:e=Xsn L e.Key e.Span:=by cases e;unfold Xsn;simp only at h2 ⊢;rw[h2]
  exact⟨e.Key,e.Span,h1,by rw[<-this];exact h3,by rw[<-this]⟩
 ·rintro⟨key,s,h1,h2,rfl⟩
  exact⟨Xsn L key s,List.mem_filter.2 ⟨(c.mem _).2 ⟨h1,rfl⟩,h2⟩,rfl⟩
theorem RIn.len {q:Xu} {es:List X8} {out:List X0t} (h:RIn q es out):out.length<=es.length :=
 Nat.le_trans (Xrd out _ (Xqt h.sorted) h.sub) (Xj1 q es)
theorem X008 {q:Xu} (h1:1<=q.Agg) (h2:q.Agg<=4) {L:List Pu} {es:List X8} (hL:∀ p∈L,(p.2=0\/p.2=1)/\i64 p.1.Value) (hn:L.length<=900) (c:X90 q.Window L es) (hes:es.length<=3900) {i:Nat} {p:Pu} (hi:L[i]?=some p) (W:List Xr) :
  ∀ (xs:List Xr) (k:Nat) (out:List X0t),(∀ s∈xs,Xak q.Window (X60 L p.1.Key) s)->RIn q es out ->
  ∃ out',X35 q (L.map Xce) (i:Int) p.1.Key W xs k out=some (.x0 out')/\RIn q es out'/\(∀ r∈out,r∈out')/\(∀ s∈xs,inS s p.1.Time->live q (Xsn L p.1.Key s)=true->Xz8 q (Xsn L p.1.Key s)∈out')
 |[],k,out,_,ho=>⟨out,rfl,ho,fun r h=>h,fun s h=>by simp at h⟩
 |s::xs,k,out,hx,ho=>by
  have hg:X1p (L.map Xce) (i:Int)=some (Xce p):=by rw[X3i,List.getElem?_map,hi];rfl
  have hs:=hx s List.mem_cons_self
  have hlen:=ho.len
  have rest:=fun out1 (h:RIn q es out1)=>X008 h1 h2 hL hn c hes hi W xs (k+1) out1 (fun y hy=>hx y (List.mem_cons_of_mem _ hy)) h
  rw[X35,hg,Yo,X0bk out (by omega),Xjy h1 h2 hL hn]
  have hcond:((bif (decide ((Xce p).Record.Time<s.Start)) then (some (bif (bif (decide ((Xce p).Record.Time<s.Start)) then true else false) then true else false)) else (bif (decide ((Xce p).Record.Time >= s.End)) then (some (bif (bif (decide ((Xce p).Record.Time<s.Start)) then true else (decide ((Xce p).Record.Time >= s.End))) then true else false)) else ((some (decide (∃ r∈out,r.Key=p.1.Key/\r.Span=s))).bind fun v2456=>some (bif (bif (decide ((Xce p).Record.Time<s.Start)) then true else (decide ((Xce p).Record.Time >= s.End))) then true else v2456))):Option Bool))=some (decide (¬ inS s p.1.Time\/∃ r∈out,r.Key=p.1.Key/\r.Span=s)):=by
   show((bif (decide (p.1.Time<s.Start)) then (some (bif (bif (decide (p.1.Time<s.Start)) then true else false) then true else false)) else (bif (decide (p.1.Time >= s.End)) then (some (bif (bif (decide (p.1.Time<s.Start)) then true else (decide (p.1.Time >= s.End))) then true else false)) else ((some (decide (∃ r∈out,r.Key=p.1.Key/\r.Span=s))).bind fun v2456=>some (bif (bif (decide (p.1.Time<s.Start)) then true else (decide (p.1.Time >= s.End))) then true else v2456))):Option Bool))=_
   by_cases c1:p.1.Time<s.Start
   ·rw[Yt c1];simp only[cond_true];rw[Yt (.inl (by unfold inS;omega))]
   ·rw[Yf c1]
    by_cases c2:p.1.Time >= s.End
    ·rw[Yt c2];simp only[cond_true,cond_false];rw[Yt (.inl (by unfold inS;omega))]
    ·rw[Yf c2];simp only[cond_false,Yo]
     have:inS s p.1.Time:=by unfold inS;omega
     exact congrArg some (decide_eq_decide.2 ⟨fun h=>.inr h,fun h=>h.resolve_left fun h=>h this⟩)
  rw[hcond,Yo]
  by_cases hb:¬ inS s p.1.Time\/∃ r∈out,r.Key=p.1.Key/\r.Span=s
  ·rw[Yt hb,cond_true]
   obtain⟨o,g1,g2,g3,g4⟩:=rest out ho
   refine⟨o,g1,g2,g3,fun y hy hin hl=>?_⟩
   rcases List.mem_cons.1 hy with rfl|hy
   ·rcases hb with hb|⟨r,hr,hk,hsp⟩
    ·exact absurd hin hb
    ·obtain⟨key,s2,r1,r2,r3⟩:=(Xl5 c r).1 (ho.sub r hr)
     rw[r3] at hk hsp
     have hk':key=p.1.Key:=hk
     have hs':s2=y:=hsp
     subst hk' hs'
     rw[<-r3];exact g3 r hr
   ·exact g4 y hy hin hl
  ·rw[Yf hb,cond_false]
   have hno:¬ ∃ r∈out,r.Key=p.1.Key/\r.Span=s:=fun h=>hb (.inr h)
   by_cases hl:live q (Xsn L p.1.Key s)=true
   ·rw[if_pos hl]
    simp only[Yo,Bool.not_true,cond_false]
    rw[X1y (by rw[List.length_append,List.length_singleton];omega),Yo]
    have hidx:IntKind.i64.wrap ((List.length (out++[Xz8 q (Xsn L p.1.Key s)]):Int) - 1)=(out.length:Int):=by
     rw[List.length_append,List.length_singleton,X03 (by omega) (by omega)];omega
    rw[hidx]
    obtain⟨r,g1,g2,g3⟩:=X007 q (L.map Xce) (i:Int) p.1.Key W (k:Int) (Xz8 q (Xsn L p.1.Key s)) out.length FU out [] rfl (by unfold FU;omega) (by simp;omega) (by simpa using ho.sorted) (fun y hy=>by
     obtain⟨key,s2,r1,r2,r3⟩:=(Xl5 c y).1 (ho.sub y hy)
     have hne:¬ (y.Key=p.1.Key/\y.Span=s):=fun h=>hno ⟨y,hy,h⟩
     have:¬ (y.Span.End=s.End/\y.Span.Start=s.Start/\y.Key=p.1.Key):=fun h=>hne ⟨h.2.2,Xc9 h.2.1 h.1⟩
     have e1:(Xz8 q (Xsn L p.1.Key s)).Span=s:=rfl
     have e2:(Xz8 q (Xsn L p.1.Key s)).Key=p.1.Key:=rfl
     unfold ltR
     rw[e1,e2];omega) (fun y hy=>by simp at hy)
    rw[g1]
    rw[List.append_nil] at g3
    have hr:RIn q es r:=⟨g2,fun y hy=>by
     rcases List.mem_cons.1 (g3.mem_iff.1 hy) with rfl|hy
     ·exact(Xl5 c _).2 ⟨_,_,hs,hl,rfl⟩
     ·exact ho.sub y hy⟩
    obtain⟨o,f1,f2,f3,f4⟩:=rest r hr
    refine⟨o,f1,f2,fun y hy=>f3 y (g3.mem_iff.2 (List.mem_cons_of_mem _ hy)),fun y hy hin hl2=>?_⟩
    rcases List.mem_cons.1 hy with rfl|hy
    ·exact f3 _ (g3.mem_iff.2 List.mem_cons_self)
    ·exact f4 y hy hin hl2
   ·rw[if_neg hl]
    simp only[Yo,Bool.not_false,cond_true]
    obtain⟨o,g1,g2,g3,g4⟩:=rest out ho
    refine⟨o,g1,g2,g3,fun y hy hin hl2=>?_⟩
    rcases List.mem_cons.1 hy with rfl|hy
    ·exact absurd hl2 hl
    ·exact g4 y hy hin hl2
theorem X009 {q:Xu} (hw:okW q.Window) (h1:1<=q.Agg) (h2:q.Agg<=4) {L:List Pu} {es:List X8} (hok:Xvp q.Window L) (hL:∀ p∈L,(p.2=0\/p.2=1)/\i64 p.1.Value) (c:X90 q.Window L es) (hes:es.length<=3900) :
  ∀ (xs:List Pu) (k:Nat) (out:List X0t),L.drop k=xs->RIn q es out ->
  ∃ out',X4k q (L.map Xce) (xs.map Xce) k out=some (.x0 out')/\RIn q es out'/\(∀ r∈out,r∈out')/\(∀ p∈xs,∀ s,Xak q.Window (X60 L p.1.Key) s->inS s p.1.Time->live q (Xsn L p.1.Key s)=true->Xz8 q (Xsn L p.1.Key s)∈out')
 |[],k,out,_,ho=>⟨out,rfl,ho,fun r h=>h,fun p h=>by simp at h⟩
 |p::xs,k,out,hd,ho=>by
  obtain⟨hlt,hkx,hd'⟩:=Go.Av.drop_cons hd
  have hlen:=hok.len
  obtain⟨W,w1,w2,w3⟩:=Xwz hw L hok p.1.Key
  obtain⟨o,g1,g2,g3,g4⟩:=X008 h1 h2 hL (by omega) c hes hkx W W 0 out (fun s hs=>(w3 s).1 hs) ho
  obtain⟨o',f1,f2,f3,f4⟩:=X009 hw h1 h2 hok hL c hes xs (k+1) o hd' g2
  refine⟨o',?_,f2,fun r hr=>f3 r (g3 r hr),fun p2 hp2 s hs hin hl=>?_⟩
  ·rw[List.map_cons,X4k]
   show(X6o q.Window (L.map Xce) p.1.Key).bind _=_
   rw[w1,Yo,X19 (by omega),Yo]
   show(X35 q (L.map Xce) (k:Int) p.1.Key W W 0 out).bind _=_
   rw[g1,Yo]
   exact f1
  ·rcases List.mem_cons.1 hp2 with rfl|hp2
   ·exact f3 _ (g4 s ((w3 s).2 hs) hin hl)
   ·exact f4 p2 hp2 s hs hin hl
theorem Xx0 {w:X0l} {T:Int->Prop} {s:Xr} (h:Xak w T s) (hw:1<=w.Size):∃ t,T t/\inS s t:=by
 unfold Xak at h
 split at h
 ·obtain⟨a1,a2,a3,a4⟩:=h
  obtain⟨t,ht,q1,q2⟩:=a2 (2*s.Start+1) (by omega) (by omega)
  by_cases h2:t<s.Start
  ·exact absurd ⟨t,ht,by omega,by omega⟩ a3
  ·exact⟨t,ht,by unfold inS;omega⟩
 ·obtain⟨t,ht,h⟩:=h;exact⟨t,ht,h.2.2⟩
theorem Xp3 {q:Xu} {es:List X8} (h:es.Pairwise ltE):(Xa3 q es).Pairwise ltR:=by
 unfold Xa3
 rw[List.pairwise_map]
 exact(h.filter _).imp fun hab=>hab
theorem Xlp {q:Xu} (hw:okW q.Window) (h1:1<=q.Agg) (h2:q.Agg<=4) {L:List Pu} {es:List X8} (hok:Xvp q.Window L) (hL:∀ p∈L,(p.2=0\/p.2=1)/\i64 p.1.Value) (c:X90 q.Window L es) (hes:es.length<=3900) :
  X4k q (L.map Xce) (L.map Xce) 0 []=some (.x0 (Xa3 q es)):=by
 obtain⟨o,g1,g2,g3,g4⟩:=X009 hw h1 h2 hok hL c hes L 0 [] rfl ⟨List.Pairwise.nil,fun r h=>by simp at h⟩
 rw[g1]
 congr 2
 refine Xtj g2.sorted (Xp3 c.sorted) fun r=>⟨g2.sub r,fun hr=>?_⟩
 obtain⟨key,s,r1,r2,rfl⟩:=(Xl5 c r).1 hr
 obtain⟨t,⟨p,hp,rfl,rfl⟩,hin⟩:=Xx0 r1 hw.1
 exact g4 p hp s r1 hin r2
end Go.D


namespace Go.D
theorem Xtl {l:List Xk} (hn:l.length<=1000):Xdx l=some (Xgv X66 l):=by
 have key:∀ (xs:List Xk) (k:Nat) (m:Int),X7m l xs k m=some (.x0 (Xgv m xs)):=by
  intro xs
  induction xs with
  |nil=>intro k m;rfl
  |cons x xs ih =>
   intro k m
   rw[X7m]
   have hm:Xgv m (x::xs)=Xgv (Xkn m x) xs:=rfl
   rw[hm]
   unfold Xkn
   cases hx:x.Mark with
   |false=>simp only[cond_false,Yo];rw[ih];simp
   |true =>
    simp only[cond_true,Yo]
    by_cases h:x.Time>m
    ·rw[Yt h,cond_true,Yo,ih,if_pos trivial,if_pos h]
    ·rw[Yf h,cond_false,Yo,ih,if_pos trivial,if_neg h]
 unfold Xdx
 rw[X19 (by omega),Yo,show(-9223372036854775808:Int)=X66 from rfl,key];rfl
theorem Xgd {l:List Xk} (hl:l.length<=60) (b:Bool):∀ (xs:List Xk) (k:Nat) (out:List X7),l.drop k=xs->out.length+xs.length<=100->X2q l b xs k out=some (.x0 (out++Xi6 b (Xgv X66 (l.take k)) xs))
 |[],k,out,_,_=>by simp[X2q,Xi6]
 |x::xs,k,out,hd,hn=>by
  obtain⟨hlt,hkx,hd'⟩:=Go.Av.drop_cons hd
  simp only[List.length_cons] at hn
  have hs:X71 l 0 (k:Int)=some (l.take k):=by
   unfold X71
   rw[if_pos ⟨by omega,by omega,by omega⟩]
   simp
  have ht:l.take (k+1)=l.take k++[x]:=by rw[List.take_add_one,hkx];rfl
  have hm:Xgv X66 (l.take (k+1))=Xkn (Xgv X66 (l.take k)) x:=by rw[ht,Xrn];rfl
  have tk:(l.take k).length<=1000:=by rw[List.length_take];omega
  rw[X2q,hs,Yo,Xtl tk,Yo,Xi6]
  cases hx:x.Mark with
  |true =>
   simp only[Bool.not_true,cond_false,Yo,Bool.false_and,Bool.false_eq_true,if_false]
   rw[Xgd hl b xs (k+1) out hd' (by omega),hm]
  |false =>
   simp only[Bool.not_false,cond_true,Yo,Bool.true_and]
   cases hb:(decide (x.Record.Time<Xgv X66 (l.take k))==b) with
   |true =>
    simp only[cond_true,if_true]
    rw[X1y (by rw[List.length_append,List.length_singleton];omega),Yo,Yo,Xgd hl b xs (k+1) _ hd' (by rw[List.length_append,List.length_singleton];omega),hm]
    simp
   |false =>
    simp only[cond_false,Yo,Bool.false_eq_true,if_false]
    rw[Xgd hl b xs (k+1) out hd' (by omega),hm]
theorem Xer {l:List Xk} (hl:l.length<=60) (b:Bool):X6p l b=some (Xi6 b X66 l):=by
 unfold X6p
 rw[X19 (by omega),Yo,Xgd hl b l 0 [] rfl (by simp;omega)];rfl
def Xzh (r:X7):Prop:=i64 r.Key/\i64 r.Time/\i64 r.Value
structure QN (q:Xu):Prop where
 arg:∀ x∈q.Arg,i64 x.N
 wher:∀ x∈q.Where,i64 x.N
theorem X07z {q:Xu} (h:RQ q) (hn:QN q) (hw:0<q.Where.length) {r:X7} (hr:Xzh r):X4w q.Where r=some (evV q.Where r):=by
 unfold X4w
 rw[Xdz h.w.wher hn.wher (Xig (h.rts.2 hw)) hr];rfl
theorem X03e {q:Xu} (h:RQ q) (ha:q.Agg≠1):0<q.Arg.length:=by have:=(Xa5 (h.facts.2.1 ha)).2.1;omega
theorem X080 {q:Xu} (h:RQ q) (hn:QN q) (ha:q.Agg≠1) {r:X7} (hr:Xzh r):X4w q.Arg r=some (evV q.Arg r):=by
 unfold X4w
 rw[Xdz h.w.arg hn.arg (Xig (h.rts.1 (X03e h ha))) hr];rfl
theorem X00h {q:Xu} (h:RQ q) (hn:QN q) (Y:List (List Xk)) (i:Int) (R:List X7):∀ (xs:List X7) (k:Nat) (out:List Pu),(∀ r∈xs,Xzh r)->out.length+xs.length<=10000 ->
  X36 Y q i R xs k (out.map Xce)=some (.x0 ((out++Xw5 q (X61 q i) xs).map Xce))
 |[],k,out,_,_=>by simp[X36,Xw5]
 |x::xs,k,out,hx,hl=>by
  simp only[List.length_cons] at hl
  have hr:=hx x List.mem_cons_self
  have go:=fun out1 (hl1:out1.length+xs.length<=10000)=>X00h h hn Y i R xs (k+1) out1 (fun y hy=>hx y (List.mem_cons_of_mem _ hy)) hl1
  rw[X36,Xr8]
  have hc:((bif (decide ((q.Where.length:Int)>0)) then ((X4w q.Where x).bind fun v690=>some (bif (decide ((q.Where.length:Int)>0)) then (v690==(0:Int)) else false)) else (some false):Option Bool))=some (!(Xd1 q x)):=by
   unfold Xd1
   by_cases hw:0<q.Where.length
   ·rw[Yt (show(q.Where.length:Int)>0 by omega),cond_true,X07z h hn hw hr,Yo,cond_true,if_pos hw]
    by_cases hz:evV q.Where x=0
    ·simp[hz]
    ·simp[hz]
   ·rw[Yf (show ¬ (q.Where.length:Int)>0 by omega),cond_false,if_neg hw];rfl
  rw[hc,Yo]
  cases hcx:Xd1 q x with
  |false =>
   simp only[Bool.not_false,cond_true,Bool.false_eq_true,if_false,List.nil_append]
   exact go out (by omega)
  |true =>
   simp only[Bool.not_true,cond_false,if_true]
   have hp:((bif q.ByKey then (some (Xv.mk (X7.mk x.Key x.Time 0) 0)) else (some (Xv.mk (X7.mk 0 x.Time 0) 0)):Option (Xv)).bind fun Xbz=>(bif (q.Agg != (1:Int)) then ((X4w q.Arg x).bind fun v703=>some (Xv.mk (X7.mk Xbz.Record.Key Xbz.Record.Time v703) Xbz.Side)) else (some Xbz):Option (Xv)).bind fun Xhm=>(bif q.Join then (some (Xv.mk Xhm.Record i)) else (some Xhm):Option (Xv)))=some (Xce (Xnp q x,X61 q i)):=by
    unfold Xce Xnp X61
    by_cases ha:q.Agg=1
    ·rw[show(q.Agg != 1)=false by simp[ha],if_pos ha];cases q.ByKey<;>cases q.Join<;>rfl
    ·rw[Xej ha,if_neg ha,X080 h hn ha hr];cases q.ByKey<;>cases q.Join<;>rfl
   have bindA:∀ {α β γ:Type} (o:Option α) (f:α->Option β) (g:β->Option γ),(o.bind f).bind g=o.bind fun x=>(f x).bind g:=fun o f g=>by cases o<;>rfl
   have hp2:=congrArg (fun o:Option Xv=>o.bind fun j707=>(X1l (List.length (out.map Xce++[j707])) 32).bind fun _=>X36 Y q i R xs (k+1) (out.map Xce++[j707])) hp
   simp only[bindA] at hp2
   refine hp2.trans ?_
   rw[Yo,X1y (by rw[List.length_append,List.length_singleton,List.length_map];omega),Yo]
   have:=go (out++[(Xnp q x,X61 q i)]) (by rw[List.length_append,List.length_singleton];omega)
   rw[List.map_append] at this
   rw[List.append_assoc] at this
   exact this
theorem Xl1 {late:Bool}:∀ (l:List Xk) (m:Int) (r:X7),r∈Xi6 late m l->∃ x∈l,x.Record=r
 |[],_,r,h=>by simp[Xi6] at h
 |x::l,m,r,h=>by
  rw[Xi6] at h
  split at h
  ·rcases List.mem_cons.1 h with rfl|h
   ·exact⟨x,List.mem_cons_self,rfl⟩
   ·obtain⟨y,hy,e⟩:=Xl1 l _ r h;exact⟨y,List.mem_cons_of_mem _ hy,e⟩
  ·obtain⟨y,hy,e⟩:=Xl1 l _ r h;exact⟨y,List.mem_cons_of_mem _ hy,e⟩
theorem X00i {q:Xu} (h:RQ q) (hn:QN q) (Y:List (List Xk)):∀ (xs:List (List Xk)) (k:Nat) (out:List Pu),(∀ x∈xs,chk x=0/\∀ e∈x,Xzh e.Record)->out.length+60*xs.length<=10000 ->
  X4l Y q xs k (out.map Xce)=some (.x0 ((out++Xdh q k xs).map Xce))
 |[],k,out,_,_=>by simp[X4l,Xdh]
 |x::xs,k,out,hx,hl=>by
  simp only[List.length_cons] at hl
  obtain⟨hc,hr⟩:=hx x List.mem_cons_self
  have h60:=Xn4 hc
  have hrl:=Xl2 false x X66
  have hrm:∀ r∈Xi6 false X66 x,Xzh r:=fun r h=>by obtain⟨y,hy,rfl⟩:=Xl1 _ _ _ h;exact hr y hy
  have hrs:Xcb x=Xi6 false X66 x:=by unfold Xcb;rw[if_pos hc]
  have hpl:=Xw4 q (X61 q (k:Int)) (Xi6 false X66 x)
  rw[X4l,Xer h60,Yo,X19 (by omega),Yo,X00h h hn Y (k:Int) _ _ 0 out hrm (by omega),Yo]
  simp only
  rw[X00i h hn Y xs (k+1) _ (fun y hy=>hx y (List.mem_cons_of_mem _ hy)) (by rw[List.length_append];omega),Xdh,hrs,List.append_assoc]
theorem Xp8 {q:Xu} {l:List (List Xk)} (h:RI q l) (hn:QN q) (hr:∀ x∈l,∀ e∈x,Xzh e.Record):Xdc q l=some ((Xdh q 0 l).map Xce):=by
 have hs:=h.rq.src
 have hlen:=h.len
 unfold Xdc
 rw[X19 (by omega),Yo,show([]:List Xv)=([]:List Pu).map Xce from rfl,X00i h.rq hn l l 0 [] (fun x hx=>⟨(h.ev x hx).1,hr x hx⟩) (by simp;omega)];rfl
theorem X0a1 {l:List X05} (h0:∀ x∈l,0<=x.Kind) (hN:∀ x∈l,i64 x.N) (h:(kOf l).2.2=0) {r:X7} (hr:Xzh r):i64 (evV l r):=by
 have hz:Xcy l=0:=by
  by_cases hz:Xcy l=0
  ·exact hz
  ·unfold kOf at h;rw[if_pos hz] at h;exact h
 obtain⟨h60,h1,_⟩:=Xa5 hz
 have h7:=Xdz h0 hN h hr
 have hv:=Xhw (Xdi hz) hN hr l.length (l.length - 1) (by omega) (by omega) FU (by unfold FU;omega)
 unfold Xgb at h7
 rw[Xhi,Yo,h] at h7
 simp only[bne_self_eq_false,cond_false] at h7
 rw[X03 (by omega) (by omega),show(l.length:Int) - 1=((l.length - 1:Nat):Int) by omega,hv.1,Yo] at h7
 have:Xfj l r (l.length - 1)=evV l r:=congrArg Prod.fst (Option.some.inj h7)
 rw[<-this];exact hv.2
theorem X00j {q:Xu} {l:List (List Xk)} (h:RI q l) (hn:QN q) (hr:∀ x∈l,∀ e∈x,Xzh e.Record):∀ p∈Xdh q 0 l,i64 p.1.Value:=by
 intro p hp
 obtain⟨j,x,r,hj,hrx,_,rfl⟩:=Xi8 l 0 p hp
 have hxm:=Yg hj
 have hir:Xzh r:=by
  unfold Xcb at hrx
  rw[if_pos (h.ev x hxm).1] at hrx
  obtain⟨y,hy,rfl⟩:=Xl1 _ _ _ hrx
  exact hr x hxm y hy
 show i64 (if q.Agg=1 then 0 else evV q.Arg r)
 split
 ·unfold i64;omega
 ·rename_i ha
  exact X0a1 h.rq.w.arg hn.arg (Xig (h.rq.rts.1 (X03e h.rq ha))) hir
theorem Xp7 {q:Xu} {l:List (List Xk)} (h:RI q l) (hn:QN q) (hr:∀ x∈l,∀ e∈x,Xzh e.Record) {es:List X8} (hc:X90 q.Window (Xdh q 0 l) es) (hes:es.length<=3900):Xdb q l=some (Xa3 q es):=by
 have hok:=h.ok
 have hf:=h.rq.facts
 have hlen:=hok.len
 unfold Xdb
 rw[Xp8 h hn hr,Yo,List.length_map,X19 (by omega),Yo,Xlp hf.2.2.2.2.1 hf.1.1 hf.1.2.1 hok (fun p hp=>⟨hok.side p hp,X00j h hn hr p hp⟩) hc hes];rfl
theorem X01e {q:Xu} (hq:q.Late=2) (l:List (List Xk)) (hx:∀ x∈l,chk x=0) (hl:l.length<=10):∀ (m n k:Nat) (out:List X7),m=l.length - k->m<n->k<=l.length->out.length+60*m<=1000->X37 l q n out (k:Int)=some (.x0 (out++Xhj (l.drop k)))
 |0,n,k,out,hm,hn,hk,ho=>by
  obtain⟨n,rfl⟩:∃ z,n=z+1:=⟨n - 1,by omega⟩
  rw[X37,Yf (by omega),List.drop_of_length_le (by omega)]
  simp[Xhj]
 |m+1,n,k,out,hm,hn,hk,ho=>by
  obtain⟨n,rfl⟩:∃ z,n=z+1:=⟨n - 1,by omega⟩
  have hk':k<l.length:=by omega
  have hc:=hx _ (List.getElem_mem hk')
  have h60:=Xn4 hc
  have hrl:=Xl2 true l[k] X66
  have e:IntKind.i64.wrap ((k:Int)+1)=((k+1:Nat):Int):=by rw[X03 (by omega) (by omega)];omega
  have go:=X01e hq l hx hl m n (k+1) (out++Xi6 true X66 l[k]) (by omega) (by omega) (by omega) (by rw[List.length_append];omega)
  have hls:Xm7 l[k]=Xi6 true X66 l[k]:=by unfold Xm7;rw[if_pos hc]
  rw[X37,Yt (show(k:Int)<(l.length:Int) by omega),cond_true,show(q.Late==2)=true by simp[hq],cond_true,X3i,Ye hk',Yo,Xer h60,Yo,e,go,X1y (by rw[List.length_append];omega),Yo,List.drop_eq_getElem_cons hk']
  have:out++Xi6 true X66 l[k]++Xhj (l.drop (k+1))=out++Xhj (l[k]::l.drop (k+1)):=by
   unfold Xhj;rw[List.map_cons,List.flatten_cons,hls,List.append_assoc]
  rw[this]
  cases List.isEmpty (Xi6 true X66 l[k])<;>rfl
theorem Xp9 {q:Xu} {l:List (List Xk)} (h:RI q l):Xde q l=some (Xm8 q l):=by
 have hs:=h.rq.src
 have hlen:=h.len
 unfold Xde Xm8
 by_cases hq:q.Late=2
 ·rw[if_pos hq,show(0:Int)=((0:Nat):Int) from rfl,X01e hq l (fun x hx=>(h.ev x hx).1) (by omega) l.length FU 0 [] rfl (by unfold FU;omega) (by omega) (by simp;omega)];rfl
 ·rw[if_neg hq]
  have:X37 l q FU [] 0=some (.x0 []):=by
   rw[show FU=99999+1 from rfl,X37,show(q.Late==2)=false by simpa using hq]
   cases decide ((0:Int)<(l.length:Int))<;>rfl
  rw[this];rfl
theorem Xow (Y:List X0t) (m:Int):∀ (xs:List X0t) (k:Nat) (o:List X0t),o.length+xs.length<=10000->X3v Y m xs k o=some (.x0 (o++Xso m xs))
 |[],k,o,_=>by simp[X3v,Xso]
 |x::xs,k,o,hn=>by
  simp only[List.length_cons] at hn
  rw[X3v]
  unfold Xso
  rw[List.filter_cons]
  by_cases h:x.Span.End<=m
  ·rw[Yt h,cond_true,X1y (by rw[List.length_append,List.length_singleton];omega)]
   simp only[Yo,if_true]
   rw[Xow Y m xs (k+1) _ (by rw[List.length_append,List.length_singleton];omega)]
   simp[Xso]
  ·rw[Yf h,cond_false]
   simp only[Yo,Bool.false_eq_true,if_false]
   exact Xow Y m xs (k+1) o (by omega)
theorem Xh4 {q:Xu} (hq:QW q) {l:List (List Xk)} (hn:l.length<=1000):Xbj q l=some (if (Xt2 q).2≠0 then (Xt2 q).2 else if l.length≠q.Sources.length then 2 else Xd5 l):=by
 unfold Xbj
 rw[Xnm hq,Yo]
 by_cases hz:(Xt2 q).2=0
 ·rw[hz]
  simp only[bne_self_eq_false,cond_false,ne_eq,not_true,if_false]
  by_cases hlen:l.length=q.Sources.length
  ·rw[show((l.length:Int) != (q.Sources.length:Int))=false by rw[hlen];simp,cond_false,Xng hn,Yo,if_neg (by omega)]
  ·rw[show((l.length:Int) != (q.Sources.length:Int))=true by simp;omega,cond_true,if_pos hlen]
 ·rw[Xej hz,cond_true,if_pos hz]
theorem X03g {q:Xu} (hq:QW q) {l:List (List Xk)} (hn:l.length<=1000) (e:Int) (he:e≠0) (h:(if (Xt2 q).2≠0 then (Xt2 q).2 else if l.length≠q.Sources.length then 2 else Xd5 l)=e):X4a q l=some ([],[],e)/\X72 q l=some ([],[],e)/\X8k q l=some ([],[],e)/\Xi3 q l=some ([],[],e):=by
 have m1:X4a q l=some ([],[],e):=by
  unfold X4a
  rw[Xg2 hq,Yo]
  by_cases hz:(Xt2 q).2=0
  ·rw[hz] at h ⊢
   simp only[bne_self_eq_false,cond_false,ne_eq,not_true,if_false] at h ⊢
   by_cases hlen:l.length=q.Sources.length
   ·rw[if_neg (by omega)] at h
    rw[show((l.length:Int) != (q.Sources.length:Int))=false by rw[hlen];simp,cond_false,X9j hn,Yo,h,Xej he];rfl
   ·rw[if_pos hlen] at h
    rw[show((l.length:Int) != (q.Sources.length:Int))=true by simp;omega,<-h];rfl
  ·rw[if_pos hz] at h
   rw[Xej hz,h];rfl
 have r1:X72 q l=some ([],[],e):=by
  unfold X72
  rw[Xh4 hq hn,h,Yo,Xej he];rfl
 refine⟨m1,r1,?_,?_⟩
 ·unfold X8k
  rw[m1,Yo]
  simp only[Xej he,cond_true]
 ·unfold Xi3
  rw[r1,Yo]
  simp only[Xej he,cond_true]
theorem Xy1 {q:Xu} {l:List (List Xk)} (h:RI q l):(Xm8 q l).length<=4000:=by
 have hs:=h.rq.src
 have hlen:=h.len
 have key:∀ (m:List (List Xk)),(∀ x∈m,x.length<=60)->(Xhj m).length<=60*m.length:=by
  intro m
  induction m with
  |nil=>intro _;simp[Xhj]
  |cons x m ih =>
   intro hx
   have h1:=hx x List.mem_cons_self
   have h2:=ih fun y hy=>hx y (List.mem_cons_of_mem _ hy)
   have h3:=Xru x
   unfold Xhj at h2 ⊢
   rw[List.map_cons,List.flatten_cons,List.length_append,List.length_cons]
   omega
 unfold Xm8
 split
 ·have:=key l fun x hx=>(h.ev x hx).2
  omega
 ·simp
end Go.D
