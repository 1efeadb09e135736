/- Parts of the proof, laid together. -/
import Derived.Test.YtkjlgmgfhgamlaaGreatDFunZ
set_option linter.all false

namespace Go.D
theorem Xz {z:Int} (h1 : -9223372036854775808<=z) (h2:z<=9223372036854775807):IntKind.i64.wrap z=z:=Go.IntWalk.i64_in z ⟨h1,h2⟩
theorem X26 {n:Nat} (h:n<=140737488355328):X5d n=some ():=by unfold X5d;rw[if_pos h]
theorem X1j {n b:Nat} (h:n*b<=140737488355328):X1f n b=some ():=by unfold X1f;rw[if_pos h]
theorem X2a {α:Type} (l:List α) (k:Nat):X15 l (k:Int)=l[k]?:=by simp[X15]
def ltE (a b:X1):Prop:=a.Span.End<b.Span.End\/a.Span.End=b.Span.End/\(a.Span.Start<b.Span.Start\/a.Span.Start=b.Span.Start/\a.Key<b.Key)
instance (a b:X1):Decidable (ltE a b):=by unfold ltE;infer_instance
def X2m (a b:X1):Prop:=a.Key=b.Key/\a.Span=b.Span
instance (a b:X1):Decidable (X2m a b):=by unfold X2m;infer_instance
theorem Xa1 {a b:Xy} (h1:a.Start=b.Start) (h2:a.End=b.End):a=b:=by cases a;cases b;simp_all
theorem Xd4 {a b c:X1} (h:ltE a b) (k:ltE b c):ltE a c:=by unfold ltE at *;omega
theorem Xio (a:X1):¬ ltE a a:=by unfold ltE;omega
theorem Xyn {a b:X1} (h:ltE a b):¬ ltE b a:=by unfold ltE at *;omega
theorem Xhd {a b:X1}:ltE a b\/X2m a b\/ltE b a:=by
 by_cases h:X2m a b
 ·exact .inr (.inl h)
 ·have:¬ (a.Key=b.Key/\a.Span.Start=b.Span.Start/\a.Span.End=b.Span.End):=λ⟨h1,h2,h3⟩=>h ⟨h1,Xa1 h2 h3⟩;unfold ltE;omega
theorem sameK_ltE {a b c:X1} (h:X2m a b):ltE c a↔ltE c b:=by unfold X2m at h;unfold ltE;rw[h.1,h.2]
theorem Xcu {a b c:X1} (h:X2m a b):ltE a c↔ltE b c:=by unfold X2m at h;unfold ltE;rw[h.1,h.2]
theorem X7k {a b:X1} (h:X2m a b):¬ ltE a b:=by unfold X2m at h;unfold ltE;rw[h.1,h.2];omega
def cmpI (a b:Int):Int:=if a<b then -1 else if a>b then 1 else 0
theorem X0ae (a b:Int):X2p a b=some (cmpI a b):=by
 simp only[X2p,X5w,bne_self_eq_false,Yo,cond_false,cmpI];by_cases h1:a<b
 ·simp[h1]
 ·by_cases h2:a>b
  ·simp[h1,h2]
  ·simp[h1,h2]
def Xwm (a b:X1):Int:=if ltE a b then -1 else if ltE b a then 1 else 0
theorem X9b (a b:X1):X6y a b=some (Xwm a b):=by
 simp only[X6y,X0ae,Yo,Xfs,X65,List.length_cons,List.length_nil];rw[X26 om];simp only[Yo,Xwm,ltE,cmpI];by_cases h1:a.Span.End<b.Span.End
 ·simp[h1]
 ·by_cases h2:a.Span.End>b.Span.End
  ·have:¬ a.Span.End=b.Span.End:=by omega
   simp[h1,h2,this]
  ·have he:a.Span.End=b.Span.End:=by omega
   by_cases h3:a.Span.Start<b.Span.Start
   ·simp[he,h3]
   ·by_cases h4:a.Span.Start>b.Span.Start
    ·have:¬ a.Span.Start=b.Span.Start:=by omega
     simp[he,h3,h4,this]
    ·have hs:a.Span.Start=b.Span.Start:=by omega
     by_cases h5:a.Key<b.Key
     ·simp[he,hs,h5]
     ·by_cases h6:a.Key>b.Key
      ·simp[he,hs,h5,h6]
      ·simp[he,hs,h5,h6]
theorem Xrj {a b:X1}:Xwm a b<0↔ltE a b:=by
 unfold Xwm;by_cases h:ltE a b
 ·simp[h]
 ·by_cases h2:ltE b a<;>simp[h,h2]
theorem X06d {a b:X1}:Xwm a b=0↔X2m a b:=by
 unfold Xwm;by_cases h:ltE a b
 ·simp[h];exact λhs=>X7k hs h
 ·by_cases h2:ltE b a
  ·simp[h,h2];exact λhs=>h ((Xcu hs).2 ((sameK_ltE hs).1 h2))
  ·simp[h,h2];rcases Xhd (a:=a) (b:=b) with h3|h3|h3
   ·exact absurd h3 h
   ·exact h3
   ·exact absurd h3 h2
theorem Xrk {a b:X1}:0<=Xwm a b↔¬ ltE a b:=by rw[<-Xrj];omega
def okA (a:Xm):Prop:=(a.Count=0/\a=⟨0,0,0,0⟩)\/(a.Count=1/\a.Sum=a.Min/\a.Sum=a.Max)\/(1<a.Count/\a.Count<=1073741824/\a.Min<=a.Max)
theorem Xp4 (x y:Xm):Xao x y=decide (x=y):=by
 obtain⟨a,b,c,d⟩:=x;obtain⟨e,f,g,h⟩:=y;rw[Bool.eq_iff_iff];simp[Xao]
theorem X2g {a:Xm} (h:okA a):X2l a=some 0:=by
 rcases h with ⟨h1,h2⟩|⟨h1,h2,h3⟩|⟨h1,h2,h3⟩
 ·subst h2;rfl
 ·have h3':a.Min=a.Max:=by omega
  simp[X2l,h1,h2,h3']
 ·have e0:(a.Count==0)=false:=by simp;omega
  have e1:(a.Count==1)=false:=by simp;omega
  simp[X2l,e0,e1,h1,h2,h3]
def X36 (a b:Xm):Xm :=
 if a.Count=0 then b else if b.Count=0 then a else ⟨a.Count+b.Count,IntKind.i64.wrap (a.Sum+b.Sum),if b.Min<a.Min then b.Min else a.Min,if b.Max>a.Max then b.Max else a.Max⟩
theorem X05 {a:Xm} (h:okA a):0<=a.Count/\a.Count<=1073741824:=by
 rcases h with ⟨h1,_⟩|⟨h1,_⟩|⟨h1,h2,_⟩<;>omega
theorem X6i {a b:Xm} (ha:okA a) (hb:okA b) (hc:a.Count+b.Count<=1073741824):X34 a b=some (X36 a b,0):=by
 have h1:=X05 ha;have h2:=X05 hb;simp only[X34,X2g ha,X2g hb,Yo,bne_self_eq_false,cond_false,X36];rw[Xz om om];have e0:decide (a.Count+b.Count>1073741824)=false:=by simp;omega
 rw[e0,cond_false];by_cases h3:a.Count=0
 ·have e1:(a.Count==0)=true:=by simp[h3]
  rw[e1,cond_true,if_pos h3]
 ·have e1:(a.Count==0)=false:=by simp[h3]
  rw[e1,cond_false,if_neg h3];by_cases h4:b.Count=0
  ·have e2:(b.Count==0)=true:=by simp[h4]
   rw[e2,cond_true,if_pos h4]
  ·have e2:(b.Count==0)=false:=by simp[h4]
   rw[e2,cond_false,if_neg h4]
theorem Xy8 {a:Xm} (h:okA a):a.Min<=a.Max:=by
 rcases h with ⟨_,h2⟩|⟨_,h2,h3⟩|⟨_,_,h3⟩
 ·subst h2;decide
 ·omega
 ·exact h3
theorem Xc7 {a b:Xm} (ha:okA a) (hb:okA b) (hc:a.Count+b.Count<=1073741824):okA (X36 a b):=by
 unfold X36;have h1:=X05 ha;have h2:=X05 hb;by_cases h3:a.Count=0
 ·rw[if_pos h3];exact hb
 ·rw[if_neg h3];by_cases h4:b.Count=0
  ·rw[if_pos h4];exact ha
  ·rw[if_neg h4];have m1:=Xy8 ha;have m2:=Xy8 hb;refine .inr (.inr ⟨?_,hc,?_⟩)
   ·show 1<a.Count+b.Count;omega
   ·show(if b.Min<a.Min then b.Min else a.Min)<=(if b.Max>a.Max then b.Max else a.Max);split<;>split<;>omega
def okE (x:X1):Prop := -1100585369600<=x.Span.Start/\x.Span.Start<x.Span.End/\x.Span.End<=1100585369600/\okA x.Values.e0/\okA x.Values.e1/\0<x.Values.e0.Count+x.Values.e1.Count
theorem Xce {x:X1} (h:okE x):X6x x=some true:=by
 obtain⟨h1,h2,h3,h4,h5,h6⟩:=h;have c1:=X05 h4;have c2:=X05 h5;have e1:¬ x.Span.Start < -1100585369600:=by omega
 have e2:¬ x.Span.End<=x.Span.Start:=by omega
 have e3:¬ x.Span.End>1100585369600:=by omega
 simp only[X6x,X2g h4,X2g h5,Yo];rw[Xz om om];have e3:¬ 1100585369600<x.Span.End:=by omega
 simp[e1,e2,e3,h6]
theorem X8l (l:List X1) (hs:l.Pairwise ltE) (ho:∀ x∈l,okE x) (hn:l.length<=1000000):∀ (xs:List X1) (k:Nat),l.drop k=xs->X2q l xs k=some .x0:=by
 intro xs
 induction xs with
 |nil=>intro k _;rfl
 |cons x xs ih =>
  intro k hk;have hlt:k<l.length:=by
   rcases Nat.lt_or_ge k l.length with h|h
   ·exact h
   ·rw[List.drop_eq_nil_of_le h] at hk;cases hk
  have hx:l[k]?=some x:=by have:=congrArg List.head? hk;simpa[List.head?_drop] using this
  have hmem:x∈l:=Yg hx;have hnext:l.drop (k+1)=xs:=by rw[<-List.tail_drop,hk];rfl
  rw[X2q];simp only[Xce (ho x hmem),Yo,Bool.not_true,cond_false,cond_true];by_cases h0:k=0
  ·subst h0;simp only[Int.ofNat_zero,Int.cast_ofNat_Int,gt_iff_lt,Int.lt_irrefl,decide_false,cond_false,Yo];exact ih 1 hnext
  ·have hpos:decide ((k:Int)>0)=true:=by simp;omega
   rw[hpos,cond_true];have hw:IntKind.i64.wrap ((k:Int) - 1)=((k - 1:Nat):Int):=by rw[Xz om om];omega
   rw[hw,X2a];have hp:l[k - 1]?=some l[k - 1]:=Ye om;rw[hp];have hlt2:ltE l[k - 1] x:=by
    have h3:=List.pairwise_iff_getElem.1 hs (k - 1) k om hlt om;have:l[k]=x:=by rw[Ye hlt] at hx;exact Option.some.inj hx
    rwa [this] at h3
   have hord:¬ (0<=Xwm l[k - 1] x):=by rw[Xrk];exact λh=>h hlt2
   simp only[Yo,X9b,ge_iff_le,hord,decide_false,cond_false];exact ih (k+1) hnext
theorem Xml {l:List X1} (hs:l.Pairwise ltE) (ho:∀ x∈l,okE x) (hn:l.length<=4000):X3x l=some 0:=by
 unfold X3x;have:¬ ((l.length:Int)>4000):=by omega
 simp only[this,decide_false,cond_false];rw[X26 om,X8l l hs ho om l 0 rfl];rfl
theorem X09m {i j:Nat} (h:i+j<=1000000):IntKind.i64.wrap (Int.fdiv (IntKind.u64.wrap (IntKind.i64.wrap ((i:Int)+(j:Int)))) (2 ^ (min (Int.toNat 1) IntKind.u64.bits)))=(((i+j) / 2:Nat):Int):=by
 have h1:IntKind.i64.wrap ((i:Int)+(j:Int))=(i:Int)+j:=Xz om om;rw[h1];have h2:IntKind.u64.wrap ((i:Int)+j)=(i:Int)+j:=Go.IntWalk.u64_in _ ⟨by omega,by omega⟩;rw[h2];have h3:(min (Int.toNat 1) IntKind.u64.bits)=1:=by decide
 rw[h3];have h4:Int.fdiv ((i:Int)+j) (2 ^ 1)=(((i+j) / 2:Nat):Int):=by
  rw[Int.fdiv_eq_ediv_of_nonneg _ (by decide)];omega
 rw[h4,Xz om om]
theorem X0dx (l:List X1) (x:X1) (c:Nat) (n:Int) (hn:l.length<=400000) (hc:∀ (k:Nat) y,l[k]?=some y->(ltE y x↔k<c)):∀ (f i j:Nat),i<=c->c<=j->j<=l.length->j - i<f ->
  X00 l x n f i j=some (.x0 c):=by
 intro f
 induction f with
 |zero=>intro i j _ _ _ h;omega
 |succ f ih =>
  intro i j h1 h2 h3 h4;rw[X00];by_cases hij:i<j
  ·have hd:decide ((i:Int)<(j:Int))=true:=by simp;exact hij
   rw[hd,cond_true,X09m om,X2a];have hm:(i+j) / 2<l.length:=by omega
   rw[Ye hm];simp only[Yo,X9b];have hcc:=hc ((i+j) / 2) _ (Ye hm);by_cases hl:ltE l[(i+j) / 2] x
   ·have:Xwm l[(i+j) / 2] x<0:=Xrj.2 hl;simp only[this,decide_true,cond_true];rw[Xz om om];have:=hcc.1 hl;have h5:=ih ((i+j) / 2+1) j om h2 h3 om;simpa using h5
   ·have:¬ Xwm l[(i+j) / 2] x<0:=λh=>hl (Xrj.1 h);simp only[this,decide_false,cond_false];have:¬ (i+j) / 2<c:=λh=>hl (hcc.2 h);exact ih i ((i+j) / 2) h1 om om om
  ·have hd:decide ((i:Int)<(j:Int))=false:=by simp;omega
   rw[hd,cond_false];have:i=c:=by omega
   rw[this]
def cnt (l:List X1) (x:X1):Nat:=(l.takeWhile λy=>decide (ltE y x)).length
theorem X00k (l:List X1) (x:X1):cnt l x<=l.length:=by unfold cnt;exact(List.takeWhile_sublist _).length_le
theorem Xt9 {l:List X1} {x:X1} (hs:l.Pairwise ltE):∀ (k:Nat) y,l[k]?=some y->(ltE y x↔k<cnt l x):=by
 induction l with
 |nil=>intro k y h;simp at h
 |cons z l ih =>
  intro k y h;rw[List.pairwise_cons] at hs;unfold cnt;by_cases hz:ltE z x
  ·rw[List.takeWhile_cons_of_pos (by simpa using hz)]
   cases k with
   |zero=>simp at h;subst h;simp[hz]
   |succ k =>
    simp at h;have:=ih hs.2 k y h;unfold cnt at this;rw[this];simp
  ·rw[List.takeWhile_cons_of_neg (by simpa using hz)];simp only[List.length_nil,Nat.not_lt_zero,iff_false]
   cases k with
   |zero=>simp at h;subst h;exact hz
   |succ k =>
    simp at h;exact λhy=>hz (Xd4 (hs.1 y (Yg h)) hy)
theorem X0ag {l:List X1} {x:X1} (hs:l.Pairwise ltE) (hn:l.length<=50000) :
  Xw l x=some ((cnt l x:Int),match l[cnt l x]? with|some y=>decide (X2m y x)|none=>false):=by
 unfold Xw;have h0:=X0dx l x (cnt l x) (l.length:Int) om (Xt9 hs) FU 0 l.length om (X00k l x) (Nat.le_refl _) (by unfold FU;omega);rw[show((0:Nat):Int)=0 from rfl] at h0;rw[h0];simp only[Yo];by_cases hlt:cnt l x<l.length
 ·have hd:decide ((cnt l x:Int)<(l.length:Int))=true:=by simp;exact hlt
  rw[hd,X2a,Ye hlt];simp only[cond_true,Yo,X9b];congr 2
  rw[Bool.eq_iff_iff];simp[X06d]
 ·have hd:decide ((cnt l x:Int)<(l.length:Int))=false:=by simp;omega
  rw[hd,List.getElem?_eq_none om];rfl
end Go.D


namespace Go.D
def Xq6 (y x:X1):X1:=⟨y.Key,y.Span,⟨X36 y.Values.e0 x.Values.e0,X36 y.Values.e1 x.Values.e1⟩⟩
def Xmb:List X1->X1->List X1
 |[],x=>[x]
 |y::l,x=>if ltE y x then y::Xmb l x else if X2m y x then Xq6 y x::l else x::y::l
theorem Xy0 {l:List X1} {x:X1} (hs:l.Pairwise ltE) :
  Xmb l x=(match l[cnt l x]? with
   |none=>l++[x]
   |some y=>if X2m y x then l.set (cnt l x) (Xq6 y x) else l.take (cnt l x)++x::l.drop (cnt l x)):=by
 induction l with
 |nil=>rfl
 |cons z l ih =>
  rw[List.pairwise_cons] at hs;unfold Xmb;by_cases hz:ltE z x
  ·have hc:cnt (z::l) x=cnt l x+1:=by unfold cnt;rw[List.takeWhile_cons_of_pos (by simpa using hz)];rfl
   rw[if_pos hz,hc,ih hs.2];simp only[List.getElem?_cons_succ]
   cases h:l[cnt l x]? with
   |none=>rfl
   |some y =>
    simp only;split
    ·rfl
    ·rfl
  ·have hc:cnt (z::l) x=0:=by unfold cnt;rw[List.takeWhile_cons_of_neg (by simpa using hz)];rfl
   rw[if_neg hz,hc];simp only[List.getElem?_cons_zero];split<;>rfl
theorem Xkh {l:List X1} {x:X1} (hs:l.Pairwise ltE) (e:X1) :
  e∈Xmb l x↔(e∈l/\¬ X2m e x)\/(∃ y∈l,X2m y x/\e=Xq6 y x)\/((∀ y∈l,¬ X2m y x)/\e=x):=by
 induction l with
 |nil=>simp[Xmb]
 |cons z l ih =>
  rw[List.pairwise_cons] at hs;unfold Xmb;by_cases hz:ltE z x
  ·have hnz:¬ X2m z x:=λh=>X7k h hz;rw[if_pos hz,List.mem_cons,ih hs.2];constructor
   ·rintro(rfl|⟨h1,h2⟩|⟨y,h1,h2,h3⟩|⟨h1,h2⟩)
    ·exact .inl ⟨List.mem_cons_self,hnz⟩
    ·exact .inl ⟨List.mem_cons_of_mem _ h1,h2⟩
    ·exact .inr (.inl ⟨y,List.mem_cons_of_mem _ h1,h2,h3⟩)
    ·exact .inr (.inr ⟨λy hy=>(List.mem_cons.1 hy).elim (λh=>h▸hnz) (h1 y),h2⟩)
   ·rintro(⟨h1,h2⟩|⟨y,h1,h2,h3⟩|⟨h1,h2⟩)
    ·rcases List.mem_cons.1 h1 with h1|h1
     ·exact .inl h1
     ·exact .inr (.inl ⟨h1,h2⟩)
    ·rcases List.mem_cons.1 h1 with h1|h1
     ·subst h1;exact absurd h2 hnz
     ·exact .inr (.inr (.inl ⟨y,h1,h2,h3⟩))
    ·exact .inr (.inr (.inr ⟨λy hy=>h1 y (List.mem_cons_of_mem _ hy),h2⟩))
  ·rw[if_neg hz];have hno:∀ y∈l,¬ (X2m z x/\X2m y x):=λy hy ⟨h1,h2⟩=>by
    have:=hs.1 y hy;exact X7k (a:=y) (b:=y) ⟨rfl,rfl⟩ (by rw[Xcu (c:=y) h1] at this;rw[<-Xcu h2] at this;exact this)
   by_cases hk:X2m z x
   ·rw[if_pos hk,List.mem_cons];constructor
    ·rintro(rfl|h1)
     ·exact .inr (.inl ⟨z,List.mem_cons_self,hk,rfl⟩)
     ·exact .inl ⟨List.mem_cons_of_mem _ h1,λh=>hno e h1 ⟨hk,h⟩⟩
    ·rintro(⟨h1,h2⟩|⟨y,h1,h2,h3⟩|⟨h1,h2⟩)
     ·rcases List.mem_cons.1 h1 with h1|h1
      ·subst h1;exact absurd hk h2
      ·exact .inr h1
     ·rcases List.mem_cons.1 h1 with h1|h1
      ·subst h1;exact .inl h3
      ·exact absurd ⟨hk,h2⟩ (hno y h1)
     ·exact absurd hk (h1 z List.mem_cons_self)
   ·rw[if_neg hk];have hxz:ltE x z:=by
     rcases Xhd (a:=z) (b:=x) with h|h|h
     ·exact absurd h hz
     ·exact absurd h hk
     ·exact h
    have hn:∀ y∈l,¬ X2m y x:=λy hy h=>by
     have h1:=Xd4 hxz (hs.1 y hy);exact X7k (a:=y) (b:=y) ⟨rfl,rfl⟩ (by rw[<-Xcu h] at h1;exact h1)
    rw[List.mem_cons];constructor
    ·rintro(rfl|h1)
     ·exact .inr (.inr ⟨λy hy=>(List.mem_cons.1 hy).elim (λh=>h▸hk) (hn y),rfl⟩)
     ·exact .inl ⟨h1,λh=>(List.mem_cons.1 h1).elim (λh2=>hk (h2▸h)) (λh2=>hn e h2 h)⟩
    ·rintro(⟨h1,h2⟩|⟨y,h1,h2,h3⟩|⟨h1,h2⟩)
     ·exact .inr h1
     ·rcases List.mem_cons.1 h1 with h1|h1
      ·subst h1;exact absurd h2 hk
      ·exact absurd h2 (hn y h1)
     ·exact .inl h2
theorem Xlg (y x:X1):X2m (Xq6 y x) y:=⟨rfl,rfl⟩
theorem Xgj {l:List X1} {x:X1} (hs:l.Pairwise ltE):(Xmb l x).Pairwise ltE:=by
 induction l with
 |nil=>exact List.pairwise_singleton _ _
 |cons z l ih =>
  have hs0:=hs;rw[List.pairwise_cons] at hs;unfold Xmb;by_cases hz:ltE z x
  ·rw[if_pos hz,List.pairwise_cons];refine⟨λe he=>?_,ih hs.2⟩;rcases(Xkh hs.2 e).1 he with ⟨h1,_⟩|⟨y,h1,h2,rfl⟩|⟨_,rfl⟩
   ·exact hs.1 e h1
   ·rw[sameK_ltE (Xlg y x)];exact hs.1 y h1
   ·exact hz
  ·rw[if_neg hz];by_cases hk:X2m z x
   ·rw[if_pos hk,List.pairwise_cons];exact⟨λe he=>by rw[Xcu (Xlg z x)];exact hs.1 e he,hs.2⟩
   ·rw[if_neg hk,List.pairwise_cons];have hxz:ltE x z:=by
     rcases Xhd (a:=z) (b:=x) with h|h|h
     ·exact absurd h hz
     ·exact absurd h hk
     ·exact h
    exact⟨λe he=>(List.mem_cons.1 he).elim (λh=>h▸hxz) (λh=>Xd4 hxz (hs.1 e h)),hs0⟩
theorem Xtv (l:List X1) (x:X1):(Xmb l x).length<=l.length+1:=by
 induction l with
 |nil=>simp[Xmb]
 |cons z l ih =>
  unfold Xmb;split
  ·simp;exact ih
  ·split<;>simp
end Go.D


namespace Go.D
theorem Xwx (z:Int):IntKind.i64.wrap z=(z+9223372036854775808) % 18446744073709551616 - 9223372036854775808:=by
 have h:IntKind.i64.wrap z=if z % 18446744073709551616 >= 9223372036854775808 then z % 18446744073709551616 - 18446744073709551616 else z % 18446744073709551616:=by
  unfold IntKind.wrap;simp[IntKind.bits,IntKind.signed]
 rw[h];split<;>omega
theorem X093 (a b:Int):IntKind.i64.wrap (IntKind.i64.wrap a+b)=IntKind.i64.wrap (a+b):=by simp only[Xwx];omega
theorem X092 (a b:Int):IntKind.i64.wrap (a+IntKind.i64.wrap b)=IntKind.i64.wrap (a+b):=by simp only[Xwx];omega
def Xhw:Xm:=⟨0,0,0,0⟩
def ofA (v:Int):Xm:=⟨1,v,v,v⟩
theorem X057 (v:Int):okA (ofA v):=.inr (.inl ⟨rfl,rfl,rfl⟩)
theorem Xth:okA Xhw:=.inl ⟨rfl,rfl⟩
theorem Xqt {a b:Xm} (h1:a.Count=b.Count) (h2:a.Sum=b.Sum) (h3:a.Min=b.Min) (h4:a.Max=b.Max):a=b:=by cases a;cases b;simp_all
theorem Xu5 (a:Xm):X36 Xhw a=a:=by unfold X36;rw[if_pos (show Xhw.Count=0 from rfl)]
theorem Xu4 {a:Xm} (h:okA a):X36 a Xhw=a:=by
 unfold X36;by_cases h0:a.Count=0
 ·rw[if_pos h0];rcases h with ⟨_,h⟩|⟨h,_⟩|⟨h,_⟩
  ·exact h.symm
  ·omega
  ·omega
 ·rw[if_neg h0,if_pos (show Xhw.Count=0 from rfl)]
theorem Xip {a b:Xm} (ha:okA a) (hb:okA b):X36 a b=X36 b a:=by
 by_cases h1:a.Count=0
 ·have:a=Xhw:=by
   rcases ha with ⟨_,h⟩|⟨h,_⟩|⟨h,_⟩
   ·exact h
   ·omega
   ·omega
  rw[this,Xu5,Xu4 hb]
 ·by_cases h2:b.Count=0
  ·have:b=Xhw:=by
    rcases hb with ⟨_,h⟩|⟨h,_⟩|⟨h,_⟩
    ·exact h
    ·omega
    ·omega
   rw[this,Xu5,Xu4 ha]
  ·unfold X36;rw[if_neg h1,if_neg h2,if_neg h2,if_neg h1];apply Xqt
   ·show a.Count+b.Count=b.Count+a.Count;omega
   ·show IntKind.i64.wrap (a.Sum+b.Sum)=IntKind.i64.wrap (b.Sum+a.Sum);rw[Int.add_comm]
   ·show(if b.Min<a.Min then b.Min else a.Min)=(if a.Min<b.Min then a.Min else b.Min);split<;>split<;>omega
   ·show(if b.Max>a.Max then b.Max else a.Max)=(if a.Max>b.Max then a.Max else b.Max);split<;>split<;>omega
theorem Xlm {a b c:Xm} (ha:0<=a.Count) (hb:0<=b.Count) (hc:0<=c.Count):X36 (X36 a b) c=X36 a (X36 b c):=by
 by_cases h1:a.Count=0
 ·have e:∀ x,X36 a x=x:=λx=>by unfold X36;rw[if_pos h1]
  rw[e,e]
 ·by_cases h2:b.Count=0
  ·have e1:X36 a b=a:=by unfold X36;rw[if_neg h1,if_pos h2]
   have e2:X36 b c=c:=by unfold X36;rw[if_pos h2]
   rw[e1,e2]
  ·by_cases h3:c.Count=0
   ·have e:∀ x:Xm,x.Count≠0->X36 x c=x:=λx hx=>by unfold X36;rw[if_neg hx,if_pos h3]
    have hab:(X36 a b).Count≠0:=by unfold X36;rw[if_neg h1,if_neg h2];show a.Count+b.Count≠0;omega
    rw[e _ hab,e _ h2]
   ·have e:∀ x y:Xm,x.Count≠0->y.Count≠0->X36 x y=⟨x.Count+y.Count,IntKind.i64.wrap (x.Sum+y.Sum),if y.Min<x.Min then y.Min else x.Min,if y.Max>x.Max then y.Max else x.Max⟩:=λx y hx hy=>by unfold X36;rw[if_neg hx,if_neg hy]
    rw[e a b h1 h2,e b c h2 h3,e _ c (by show a.Count+b.Count≠0;omega) h3,e a _ h1 (by show b.Count+c.Count≠0;omega)];apply Xqt
    ·show a.Count+b.Count+c.Count=a.Count+(b.Count+c.Count);omega
    ·show IntKind.i64.wrap (IntKind.i64.wrap (a.Sum+b.Sum)+c.Sum)=IntKind.i64.wrap (a.Sum+IntKind.i64.wrap (b.Sum+c.Sum));rw[X093,X092,Int.add_assoc]
    ·dsimp only;repeat' split<;>first|rfl|omega
    ·dsimp only;repeat' split<;>first|rfl|omega
abbrev Pu:=Xg×Int
def inS (s:Xy) (t:Int):Prop:=s.Start<=t/\t<s.End
instance (s:Xy) (t:Int):Decidable (inS s t):=by unfold inS;infer_instance
def Xsp (size every t:Int) (s:Xy):Prop:=s.Start % every=0/\s.End=s.Start+size/\inS s t
def Xhr (w:X1z):Int:=if w.Kind=1 then w.Size else w.Every
theorem Xi5:∀ {a b:List X1},a.Pairwise ltE->b.Pairwise ltE->(∀ e,e∈a↔e∈b)->a=b:=by
 intro a
 induction a with
 |nil =>
  intro b _ _ h
  cases b with
  |nil=>rfl
  |cons y b=>exact absurd ((h y).2 List.mem_cons_self) (by simp)
 |cons x a ih =>
  intro b ha hb h
  cases b with
  |nil=>exact absurd ((h x).1 List.mem_cons_self) (by simp)
  |cons y b =>
   rw[List.pairwise_cons] at ha hb;have hxy:x=y:=by
    rcases List.mem_cons.1 ((h x).1 List.mem_cons_self) with h1|h1
    ·exact h1
    ·rcases List.mem_cons.1 ((h y).2 List.mem_cons_self) with h2|h2
     ·exact h2.symm
     ·exact absurd (hb.1 x h1) (Xyn (ha.1 y h2))
   subst hxy;rw[ih ha.2 hb.2];intro e;constructor
   ·intro he;rcases List.mem_cons.1 ((h e).1 (List.mem_cons_of_mem _ he)) with h1|h1
    ·subst h1;exact absurd (ha.1 e he) (Xio e)
    ·exact h1
   ·intro he;rcases List.mem_cons.1 ((h e).2 (List.mem_cons_of_mem _ he)) with h1|h1
    ·subst h1;exact absurd (hb.1 e he) (Xio e)
    ·exact h1
end Go.D


namespace Go.D
theorem Xql (x y:X0f):X88 x y=decide (x=y):=by
 obtain⟨a,b,c,d,e⟩:=x;obtain⟨f,g,h,i,j⟩:=y;rw[Bool.eq_iff_iff];simp[X88,and_assoc]
theorem Xo8 {α:Type} {l:List α} {k:Nat} (h:k<=l.length):X5n l 0 (k:Int)=some (l.take k):=by
 unfold X5n;rw[if_pos ⟨by omega,by omega,by simpa using h⟩];simp
theorem Xi6 {α:Type} {l:List α} {k:Nat} (h:k<=l.length):X5n l (k:Int) (l.length:Int)=some (l.drop k):=by
 unfold X5n;rw[if_pos ⟨by omega,by omega,by simp⟩];simp only[Int.toNat_natCast];rw[List.take_of_length_le (by rw[List.length_drop];exact Nat.le_refl _)]
def okN (x:X0f) (a b:Int):Prop:=1<=x.Kind/\x.Kind<=19/\0<=x.N/\(x.N=0\/x.Kind=1)/\0<=x.At/\x.At<=400/\x.A=a/\x.B=b
instance (x:X0f) (a b:Int):Decidable (okN x a b):=by unfold okN;infer_instance
theorem Xo9 (x:X0f) (a b:Int):X72 x a b=some (decide (okN x a b)):=by
 unfold X72 okN;congr 1
 rw[Bool.eq_iff_iff];by_cases h1:1<=x.Kind<;>by_cases h2:x.Kind<=19<;>by_cases h3:0<=x.N<;>by_cases h4:x.N=0<;>by_cases h5:0<=x.At<;>by_cases h6:x.At<=400<;>simp[h1,h2,h3,h4,h5,h6,and_assoc]
def nst (sd:List (Nat×Nat)) (x:X0f):Option (Nat×Nat) :=
 if x.Kind<=4 then (if okN x 0 0 then some (1,1) else none)
 else match sd.getLast? with
  |none=>none
  |some (s2,d2) =>
   if x.Kind<=6 then (if okN x ((sd.length:Int) - 1) 0 then some (1+s2,1+d2) else none)
   else if sd.length - 1<s2 then none
   else match sd[sd.length - 1 - s2]? with
    |none=>none
    |some (s1,d1)=>if okN x ((sd.length:Int) - 1 - s2) ((sd.length:Int) - 1) then some (1+s2+s1,max (1+d2) (1+d1)) else none
def Xnj:List X0f->List (Nat×Nat)->Option (List (Nat×Nat))
 |[],sd=>some sd
 |x::xs,sd=>match nst sd x with
  |some q=>Xnj xs (sd++[q])
  |none=>none
def X9o (j:Nat) (q:Nat×Nat):Xi:=⟨(j:Int),(q.1:Int),(q.2:Int)⟩
inductive Xcm (sd:List (Nat×Nat)):Nat->List Xi->Prop
 |nil:Xcm sd 0 []
 |snoc {j:Nat} {q:Nat×Nat} {st:List Xi} (hq:sd[j]?=some q) (h1:1<=q.1) (h2:q.1<=j+1) (h3:q.2<=q.1) (h:Xcm sd (j+1 - q.1) st):Xcm sd (j+1) (st++[X9o j q])
theorem Xcm.more {sd sd':List (Nat×Nat)} {k:Nat} {st:List Xi} (h:Xcm sd k st) (hs:∀ j,j<k->sd'[j]?=sd[j]?):Xcm sd' k st:=by
 induction h with
 |nil=>exact .nil
 |@snoc j q st hq h1 h2 h3 _ ih=>exact .snoc (by rw[hs j om];exact hq) h1 h2 h3 (ih λi hi=>hs i om)
theorem Xcm.app {sd e:List (Nat×Nat)} {k:Nat} {st:List Xi} (h:Xcm sd k st) (hk:k<=sd.length):Xcm (sd++e) k st:=h.more λj hj=>List.getElem?_append_left om
theorem Xcm.len {sd:List (Nat×Nat)} {k:Nat} {st:List Xi} (h:Xcm sd k st):st.length<=k:=by
 induction h with
 |nil=>simp
 |snoc hq h1 h2 h3 _ ih=>simp;omega
theorem Xm6 {k:Nat} (h:1<=k) (hk:k<=1000000):IntKind.i64.wrap ((k:Int) - 1)=((k - 1:Nat):Int):=by rw[Xz om om];omega
theorem X03a {x:X0f} (h0:0<=x.Kind):Xbi x.Kind=some (if 1<=x.Kind/\x.Kind<=19 then ((if x.Kind<=4 then 0 else if x.Kind<=6 then 1 else 2),0) else (0,2)):=by
 unfold Xbi;by_cases h1:1<=x.Kind
 ·by_cases h4:x.Kind<=4
  ·simp[h1,h4,show x.Kind<=19 by omega]
  ·by_cases h6:x.Kind<=6
   ·have:(bif x.Kind==5 then true else x.Kind==6)=true:=by
     rcases(by omega:x.Kind=5\/x.Kind=6) with h|h<;>simp[h]
    simp[h1,h4,h6,this,show x.Kind<=19 by omega]
   ·have e5:(bif x.Kind==5 then true else x.Kind==6)=false:=by
     have a:(x.Kind==5)=false:=by simp;omega
     have b:(x.Kind==6)=false:=by simp;omega
     rw[a,b];rfl
    by_cases h19:x.Kind<=19
    ·simp[h1,h4,h6,e5,h19,show(7:Int)<=x.Kind by omega]
    ·simp[h1,h4,h6,e5,h19]
 ·have e:x.Kind=0:=by omega
  simp[e]
theorem Xy4 {x : X0f} {a b : Int} (h1 : 1 <= x.Kind) (h2 : x.Kind <= 19) :
    ((bif (x.Kind==(1:Int)) then (some (X0f.mk x.Kind (if 0>x.N then 0 else x.N) a b (if 400<(if 0>x.At then 0 else x.At) then 400 else (if 0>x.At then 0 else x.At)))) else (some (X0f.mk x.Kind 0 a b (if 400<(if 0>x.At then 0 else x.At) then 400 else (if 0>x.At then 0 else x.At)))):Option (X0f)).bind λo=>some (X88 o x))=some (decide (okN x a b)):=by
  obtain⟨K,N,A,B,At⟩:=x;have hat:((if 400<(if 0>At then 0 else At) then 400 else (if 0>At then 0 else At))=At)↔(0<=At/\At<=400):=by
    by_cases g1:0>At
    · rw[if_pos g1];constructor
      · intro h;exfalso;split at h<;>omega
      · intro h;omega
    · rw[if_neg g1];split<;>omega
  have hn:((if 0>N then 0 else N)=N)↔0<=N:=by split<;>omega
  have key:∀ n':Int,(n'=N↔(0<=N/\(N=0\/K=1)))->(some (X88 (X0f.mk K n' a b (if 400<(if 0>At then 0 else At) then 400 else (if 0>At then 0 else At))) ⟨K,N,A,B,At⟩):Option Bool)=some (decide (okN ⟨K,N,A,B,At⟩ a b)):=by
    intro n' hn';rw[Xql];congr 1
    apply decide_eq_decide.2;rw[X0f.mk.injEq,hat,hn'];unfold okN;constructor
    · rintro⟨_,⟨g1,g2⟩,hA,hB,g3,g4⟩
      exact⟨h1,h2,g1,g2,g3,g4,hA.symm,hB.symm⟩
    · rintro⟨_,_,g1,g2,g3,g4,hA,hB⟩
      exact⟨rfl,⟨g1,g2⟩,hA.symm,hB.symm,g3,g4⟩
  by_cases hk:K=1
  · have:(K==1)=true:=by simp[hk]
    show(Option.bind (bif (K==1) then _ else _) _)=_;rw[this,cond_true,Yo];exact key _ (by rw[hn];simp[hk])
  · have:(K==1)=false:=by simp[hk]
    show(Option.bind (bif (K==1) then _ else _) _)=_;rw[this,cond_false,Yo]
    exact key _ (by constructor
                    · intro h;omega
                    · rintro⟨_,h⟩;rcases h with h|h<;>omega)
theorem Xp8 {β:Type} {o:Option X0f} {x:X0f} {d:Bool} {f g:Option β} (h:(o.bind λz=>some (X88 z x))=some d):(o.bind λz=>bif (!(X88 z x)) then f else g)=bif d then g else f:=by
 cases o with
 |none=>cases h
 |some z =>
  simp only[Yo,Option.some.injEq] at h;rw[Yo,h];cases d<;>rfl
def X77 (sd:List (Nat×Nat)):List Xi:=sd.mapIdx X9o
theorem Xr9 (sd:List (Nat×Nat)) (q:Nat×Nat):X77 (sd++[q])=X77 sd++[X9o sd.length q]:=by unfold X77;simp
theorem Xut (sd:List (Nat×Nat)):(X77 sd).length=sd.length:=by unfold X77;simp
theorem Xcm.inv {sd:List (Nat×Nat)} {k:Nat} {st:List Xi} (h:Xcm sd k st) (hk:0<k):∃ q st0,sd[k - 1]?=some q/\1<=q.1/\q.1<=k/\q.2<=q.1/\Xcm sd (k - q.1) st0/\st=st0++[X9o (k - 1) q]:=by
 cases h with
 |nil=>omega
 |@snoc j q st0 hq h1 h2 h3 h=>exact⟨q,st0,hq,h1,h2,h3,h,rfl⟩
theorem Xcm.zero {sd:List (Nat×Nat)} {st:List Xi} (h:Xcm sd 0 st):st=[]:=by
 cases h;rfl
theorem X05l (Y : List X0f) : ∀ (xs : List X0f) (sd : List (Nat × Nat)) (st : List Xi), (∀ x ∈ xs, 0 <= x.Kind) -> sd.length + xs.length <= 1000 -> Xcm sd sd.length st -> (∀ j q, sd[j]? = some q -> 1 <= q.1 /\ q.1 <= j + 1 /\ q.2 <= q.1) ->
    match Xnj xs sd with
    |some sd'=>∃ st',X24 Y xs sd.length (X77 sd) st=some (.x0 (X77 sd') st')/\Xcm sd' sd'.length st'
    |none=>∃ all,X24 Y xs sd.length (X77 sd) st=some (.x1 all):=by
  intro xs
  induction xs with
  |nil=>intro sd st _ _ hc _;exact⟨st,rfl,hc⟩
  |cons x xs ih =>
    intro sd st h0 hn hc hb;simp only[List.length_cons] at hn;have hx:=h0 x List.mem_cons_self;rw[X24,X03a hx];have go : ∀ (q : Nat × Nat) (st0 : List Xi), nst sd x = some q -> Xcm (sd ++ [q]) (sd.length + 1) (st0 ++ [X9o sd.length q]) -> 1 <= q.1 -> q.1 <= sd.length + 1 -> q.2 <= q.1 ->
        (match Xnj (x::xs) sd with
          |some sd'=>∃ st',X24 Y xs (sd.length+1) (X77 sd++[X9o sd.length q]) (st0++[X9o sd.length q])=some (.x0 (X77 sd') st')/\Xcm sd' sd'.length st'
          |none=>∃ all,X24 Y xs (sd.length+1) (X77 sd++[X9o sd.length q]) (st0++[X9o sd.length q])=some (.x1 all)):=by
      intro q st0 hq hc2 g1 g2 g3
      have:=ih (sd++[q]) (st0++[X9o sd.length q]) (λy hy=>h0 y (List.mem_cons_of_mem _ hy)) (by simp;omega) (by simpa using hc2) (λj q' hj=>by
        rw[List.getElem?_append] at hj;split at hj
        · exact hb j q' hj
        · rename_i hlt
          have:j=sd.length:=by
            have:=(Ys.1 hj).1;simp at this;omega
          subst this
          simp at hj;subst hj;exact⟨g1,g2,g3⟩)
      rw[Xr9,List.length_append] at this;unfold Xnj;rw[hq];exact this
    have stop:nst sd x=none->∀ {o:Option X5r},(∃ all,o=some (.x1 all))->(match Xnj (x::xs) sd with
          |some sd'=>∃ st',o=some (.x0 (X77 sd') st')/\Xcm sd' sd'.length st'
          |none=>∃ all,o=some (.x1 all)):=by
      intro hq o h;unfold Xnj;rw[hq];exact h
    have cap:∀ (l:List Xi) (t:Xi),l.length<=2000->X1f (List.length (l++[t])) 24=some ():=λl t hl=>X1j (by simp;omega);have hla:(X77 sd).length<=2000:=by unfold X77;simp;omega
    have hst:=hc.len;by_cases hr:1<=x.Kind/\x.Kind<=19
    · rw[if_pos hr]
      simp only[Yo,bne_self_eq_false,cond_false];by_cases h4:x.Kind<=4
      · -- no parts
        have e1:decide ((if x.Kind<=4 then (0:Int) else if x.Kind<=6 then 1 else 2)>(st.length:Int))=false:=by rw[if_pos h4];simp
        rw[e1,cond_false,if_pos h4];have e2:IntKind.i64.wrap ((st.length:Int) - 0)=(st.length:Int):=by rw[Xz om om];omega
        rw[e2,Xo8 (Nat.le_refl _),Xi6 (Nat.le_refl _),List.take_length,List.drop_length];simp only[Yo,List.isEmpty_nil,cond_true];rw[Xp8 (Xy4 hr.1 hr.2)];by_cases hok:okN x 0 0
        · rw[Yt hok,cond_true,cap st _ om,cap _ _ hla]
          exact go (1,1) st (by unfold nst;rw[if_pos h4,if_pos hok]) (.snoc (by simp) (Nat.le_refl _) om (Nat.le_refl _) (by simpa using hc.app (Nat.le_refl _))) (Nat.le_refl _) om (Nat.le_refl _)
        · rw[Yf hok,cond_false]
          exact stop (by unfold nst;rw[if_pos h4,if_neg hok]) ⟨_,rfl⟩
      · have hgl:0<sd.length->∃ q,sd.getLast?=some q/\sd[sd.length - 1]?=some q:=by
          intro h;refine⟨sd[sd.length - 1]'om,?_,?_⟩
          · rw[List.getLast?_eq_getElem?];exact Ye _
          · exact Ye _
        by_cases h6:x.Kind<=6
        · -- one part
          rw[if_neg h4,if_pos h6];by_cases hl:sd.length=0
          · rw[hl] at hc
            have:=hc.zero;subst this;simp only[List.length_nil];exact stop (by unfold nst;rw[if_neg h4,List.eq_nil_of_length_eq_zero hl];rfl) ⟨_,rfl⟩
          · obtain⟨q,st0,hq,g1,g2,g3,hc0,rfl⟩:=hc.inv om
            obtain⟨q',hq1,hq2⟩:=hgl om;rw[hq] at hq2;cases hq2;have hs0:=hc0.len;have e1:decide ((1:Int)>((st0++[X9o (sd.length - 1) q]).length:Int))=false:=by simp;omega
            rw[e1,cond_false];have e2:IntKind.i64.wrap (((st0++[X9o (sd.length - 1) q]).length:Int) - 1)=(st0.length:Int):=by
              rw[Xz (by rw[List.length_append,List.length_singleton];omega) (by rw[List.length_append,List.length_singleton];omega),List.length_append,List.length_singleton];omega
            rw[e2,Xo8 (by simp),Xi6 (by simp),List.take_left,List.drop_left];simp only[Yo,List.isEmpty_cons,cond_false,List.length_singleton];rw[show(((1:Nat):Int)==1)=true from rfl,cond_true];rw[show X15 [X9o (sd.length - 1) q] 0=some (X9o (sd.length - 1) q) from rfl,Yo];rw[Xp8 (Xy4 hr.1 hr.2)];have ea:(X9o (sd.length - 1) q).at_=(sd.length:Int) - 1:=by unfold X9o;simp only;omega
            rw[ea];by_cases hok:okN x ((sd.length:Int) - 1) 0
            · have e3:(Xi.mk (sd.length:Int) (IntKind.i64.wrap (1+(X9o (sd.length - 1) q).size)) (if (IntKind.i64.wrap ((X9o (sd.length - 1) q).depth+1))>1 then (IntKind.i64.wrap ((X9o (sd.length - 1) q).depth+1)) else 1))=X9o sd.length (1+q.1,1+q.2):=by
                unfold X9o;simp only;rw[Xz om om,Xz om om];congr 1
                split<;>omega
              rw[Yt hok,cond_true,e3,cap st0 _ om,cap _ _ hla];refine go (1+q.1,1+q.2) st0 (by unfold nst;rw[if_neg h4,hq1];simp only;rw[if_pos h6,if_pos hok]) (.snoc (by simp) (by simp only;omega) (by simp only;omega) (by simp only;omega) ?_) (by simp only;omega) (by simp only;omega) (by simp only;omega);have:=hc0.app (e:=[(1+q.1,1+q.2)]) om;simp only;rw[show sd.length+1 - (1+q.1)=sd.length - q.1 by omega];exact this
            · rw[Yf hok,cond_false]
              exact stop (by unfold nst;rw[if_neg h4,hq1];simp only;rw[if_pos h6,if_neg hok]) ⟨_,rfl⟩
        · -- two parts
          rw[if_neg h4,if_neg h6];by_cases hl:sd.length=0
          · rw[hl] at hc
            have:=hc.zero;subst this;simp only[List.length_nil];exact stop (by unfold nst;rw[if_neg h4,List.eq_nil_of_length_eq_zero hl];rfl) ⟨_,rfl⟩
          · obtain⟨q,st1,hq,g1,g2,g3,hc1,rfl⟩:=hc.inv om
            obtain⟨q',hq1,hq2⟩:=hgl om;rw[hq] at hq2;cases hq2;by_cases hl1:sd.length - q.1=0
            · rw[hl1] at hc1
              have:=hc1.zero;subst this;exact stop (by unfold nst;rw[if_neg h4,hq1];simp only;rw[if_neg h6,if_pos om]) ⟨_,rfl⟩
            · obtain⟨p,st0,hp,f1,f2,f3,hc0,rfl⟩:=hc1.inv om
              have hs0:=hc0.len;rw[List.append_assoc];have e1:decide ((2:Int)>((st0++([X9o (sd.length - q.1 - 1) p]++[X9o (sd.length - 1) q])).length:Int))=false:=by simp;omega
              rw[e1,cond_false];have e2:IntKind.i64.wrap (((st0++([X9o (sd.length - q.1 - 1) p]++[X9o (sd.length - 1) q])).length:Int) - 2)=(st0.length:Int):=by
                rw[Xz (by simp only[List.length_append,List.length_singleton];omega) (by simp only[List.length_append,List.length_singleton];omega)];simp only[List.length_append,List.length_singleton];omega
              rw[e2,Xo8 (by simp),Xi6 (by simp),List.take_left,List.drop_left];simp only[Yo,List.singleton_append,List.isEmpty_cons,cond_false,List.length_cons,List.length_nil];rw[show((((0:Nat)+1+1:Nat):Int)==1)=false from rfl,show((((0:Nat)+1+1:Nat):Int)==2)=true from rfl,cond_false,cond_true];rw[show X15 [X9o (sd.length - q.1 - 1) p,X9o (sd.length - 1) q] 0=some (X9o (sd.length - q.1 - 1) p) from rfl,show X15 [X9o (sd.length - q.1 - 1) p,X9o (sd.length - 1) q] 1=some (X9o (sd.length - 1) q) from rfl,Yo,Yo];rw[Xp8 (Xy4 hr.1 hr.2)];have ea:(X9o (sd.length - 1) q).at_=(sd.length:Int) - 1:=by unfold X9o;simp only;omega
              have eb:(X9o (sd.length - q.1 - 1) p).at_=(sd.length:Int) - 1 - q.1:=by unfold X9o;simp only;omega
              rw[ea,eb];have hp':sd[sd.length - 1 - q.1]?=some p:=by rw[show sd.length - 1 - q.1=sd.length - q.1 - 1 by omega];exact hp
              by_cases hok:okN x ((sd.length:Int) - 1 - q.1) ((sd.length:Int) - 1)
              · have e3:(Xi.mk (sd.length:Int) (IntKind.i64.wrap ((IntKind.i64.wrap (1+(X9o (sd.length - q.1 - 1) p).size))+(X9o (sd.length - 1) q).size)) (if (IntKind.i64.wrap ((X9o (sd.length - 1) q).depth+1))>(if (IntKind.i64.wrap ((X9o (sd.length - q.1 - 1) p).depth+1))>1 then (IntKind.i64.wrap ((X9o (sd.length - q.1 - 1) p).depth+1)) else 1) then (IntKind.i64.wrap ((X9o (sd.length - 1) q).depth+1)) else (if (IntKind.i64.wrap ((X9o (sd.length - q.1 - 1) p).depth+1))>1 then (IntKind.i64.wrap ((X9o (sd.length - q.1 - 1) p).depth+1)) else 1)))=X9o sd.length (1+q.1+p.1,max (1+q.2) (1+p.2)):=by
                  unfold X9o;simp only;rw[Xz (z:=1+(p.1:Int)) om om,Xz om om,Xz om om,Xz om om];congr 1
                  · push_cast;omega
                  · split<;>split<;>omega
                rw[Yt hok,cond_true,e3,cap st0 _ om,cap _ _ hla];refine go (1+q.1+p.1,max (1+q.2) (1+p.2)) st0 (by unfold nst;rw[if_neg h4,hq1];simp only;rw[if_neg h6,if_neg om,hp'];simp only;rw[if_pos hok]) (.snoc (by simp) (by simp only;omega) (by simp only;omega) (by simp only;omega) ?_) (by simp only;omega) (by simp only;omega) (by simp only;omega);have:=hc0.app (e:=[(1+q.1+p.1,max (1+q.2) (1+p.2))]) om;simp only;rw[show sd.length+1 - (1+q.1+p.1)=sd.length - q.1 - p.1 by omega];exact this
              · rw[Yf hok,cond_false]
                exact stop (by unfold nst;rw[if_neg h4,hq1];simp only;rw[if_neg h6,if_neg om,hp'];simp only;rw[if_neg hok]) ⟨_,rfl⟩
    · rw[if_neg hr]
      have hno:nst sd x=none:=by
        have no:∀ a b,¬ okN x a b:=λa b h=>hr ⟨h.1,h.2.1⟩;unfold nst;simp only[no,if_false];split
        · rfl
        · split
          · rfl
          · split
            · rfl
            · split
              · rfl
              · split<;>rfl
      exact stop hno ⟨_,rfl⟩
def Xe5 (l:List X0f):Int :=
 if l.length>60 then 4 else match Xnj l [] with
  |none=>8
  |some sd=>match sd.getLast? with
   |none=>8
   |some q=>if q.1=l.length then (if q.2>20 then 34 else 0) else 8
theorem Xkj:∀ (xs:List X0f) (sd sd':List (Nat×Nat)),Xnj xs sd=some sd'->sd'.length=sd.length+xs.length
 |[],sd,sd',h=>by cases h;simp
 |x::xs,sd,sd',h=>by
  unfold Xnj at h;split at h
  ·have:=Xkj xs _ _ h;simp at this;simp;omega
  ·cases h
theorem Xuu {sd:List (Nat×Nat)} {i:Nat} {q:Nat×Nat} (h:sd[i]?=some q):X15 (X77 sd) (i:Int)=some (X9o i q):=by
 rw[X2a];unfold X77;rw[List.getElem?_mapIdx,h];rfl
theorem Xmu {l:List X0f} (h0:∀ x∈l,0<=x.Kind):∃ t,Xbh l=some (t,Xe5 l)/\(Xe5 l=0->∃ sd,Xnj l []=some sd/\t=X77 sd):=by
 unfold Xbh Xe5;by_cases h60:l.length>60
 ·rw[Yt (show(l.length:Int)>60 by omega),cond_true,if_pos h60];exact⟨_,rfl,by omega⟩
 ·rw[Yf (show ¬ (l.length:Int)>60 by omega),cond_false,if_neg h60];have hL:=X05l l l [] [] h0 (by simp;omega) .nil (by simp);unfold Xfg;rw[X26 om]
  cases hr:Xnj l [] with
  |none =>
   rw[hr] at hL;obtain⟨all,hL⟩:=hL;simp only[List.length_nil] at hL;rw[show X77 []=[] from rfl] at hL;rw[hL];exact⟨_,rfl,by simp⟩
  |some sd =>
   rw[hr] at hL;obtain⟨st,hL,hc⟩:=hL;simp only[List.length_nil] at hL;rw[show X77 []=[] from rfl] at hL;rw[hL];have hn:=Xkj l [] sd hr;simp only[List.length_nil,Nat.zero_add] at hn;simp only[Yo];by_cases hz:sd.length=0
   ·have:sd=[]:=List.eq_nil_of_length_eq_zero hz;subst this;have:=hc.zero;subst this;exact⟨_,rfl,by simp⟩
   ·obtain⟨q,st0,hq,g1,g2,g3,hc0,rfl⟩:=hc.inv om;have hg:sd.getLast?=some q:=by rw[List.getLast?_eq_getElem?];exact hq
    rw[hg];simp only;have hst:(((st0++[X9o (sd.length - 1) q]).length:Int)==1)=decide (q.1=l.length):=by
     rw[Bool.eq_iff_iff];simp only[List.length_append,List.length_singleton,beq_iff_eq,decide_eq_true_eq];constructor
     ·intro h;have h1:st0.length=0:=by omega
      by_cases hk:sd.length - q.1=0
      ·omega
      ·obtain⟨_,s1,_,_,_,_,_,rfl⟩:=hc0.inv om;simp at h1
     ·intro h;rw[show sd.length - q.1=0 by omega] at hc0;rw[hc0.zero];rfl
    rw[hst];by_cases he:q.1=l.length
    ·rw[Yt he,if_pos he];simp only[Bool.not_true,cond_false];rw[show IntKind.i64.wrap (((X77 sd).length:Int) - 1)=((sd.length - 1:Nat):Int) by rw[Xut,Xm6 om om]];rw[Xuu hq,Yo];by_cases hd:q.2>20
     ·rw[if_pos hd,show decide ((X9o (sd.length - 1) q).depth>20)=true from Yt (by unfold X9o;simp only;omega)];exact⟨_,rfl,by simp⟩
     ·rw[if_neg hd,show decide ((X9o (sd.length - 1) q).depth>20)=false from Yf (by unfold X9o;simp only;omega)];exact⟨_,rfl,λ_=>⟨sd,rfl,rfl⟩⟩
    ·rw[Yf he,if_neg he];exact⟨_,rfl,by simp⟩
theorem Xcj {l:List X0f} (h0:∀ x∈l,0<=x.Kind):X5s l=some (Xe5 l):=by
 obtain⟨t,h,_⟩:=Xmu h0;unfold X5s;rw[h];rfl
def szs (sd:List (Nat×Nat)):List Int:=sd.map λq=>(q.1:Int)
def dps (sd:List (Nat×Nat)):List Int:=sd.map λq=>(q.2:Int)
theorem Xrb {sd:List (Nat×Nat)} {i:Nat} {q:Nat×Nat} (h:sd[i]?=some q):X15 (szs sd) (i:Int)=some (q.1:Int):=by
 rw[X2a];unfold szs;rw[List.getElem?_map,h];rfl
theorem Xt5 {sd:List (Nat×Nat)} {i:Nat} {q:Nat×Nat} (h:sd[i]?=some q):X15 (dps sd) (i:Int)=some (q.2:Int):=by
 rw[X2a];unfold dps;rw[List.getElem?_map,h];rfl
theorem X02j (Y : List X0f) : ∀ (xs : List X0f) (sd : List (Nat × Nat)), sd.length + xs.length <= 1000 -> (∀ j q, sd[j]? = some q -> 1 <= q.1 /\ q.1 <= j + 1 /\ q.2 <= q.1) ->
    match Xnj xs sd with
    |some sd'=>X1q Y xs sd.length (szs sd) (dps sd)=some (.x0 (szs sd') (dps sd'))
    |none=>X1q Y xs sd.length (szs sd) (dps sd)=some (.x1 [] []):=by
  intro xs
  induction xs with
  |nil=>intro sd _ _;rfl
  |cons x xs ih =>
    intro sd hn hb;simp only[List.length_cons] at hn;rw[X1q];have go : ∀ (q : Nat × Nat), nst sd x = some q -> 1 <= q.1 -> q.1 <= sd.length + 1 -> q.2 <= q.1 ->
        (match Xnj (x::xs) sd with
          |some sd'=>X1q Y xs (sd.length+1) (szs sd++[(q.1:Int)]) (dps sd++[(q.2:Int)])=some (.x0 (szs sd') (dps sd'))
          |none=>X1q Y xs (sd.length+1) (szs sd++[(q.1:Int)]) (dps sd++[(q.2:Int)])=some (.x1 [] [])):=by
      intro q hq g1 g2 g3
      have:=ih (sd++[q]) (by simp;omega) (λj q' hj=>by
        rw[List.getElem?_append] at hj;split at hj
        · exact hb j q' hj
        · rename_i hlt
          have:j=sd.length:=by
            have:=(Ys.1 hj).1;simp at this;omega
          subst this
          simp at hj;subst hj;exact⟨g1,g2,g3⟩)
      rw[List.length_append] at this;unfold Xnj;rw[hq];unfold szs dps at this ⊢;rw[List.map_append,List.map_append] at this;exact this
    have stop:nst sd x=none->∀ {o:Option X53},o=some (.x1 [] [])->(match Xnj (x::xs) sd with
          |some sd'=>o=some (.x0 (szs sd') (dps sd'))
          |none=>o=some (.x1 [] [])):=by
      intro hq o h;unfold Xnj;rw[hq];exact h
    have cap:∀ (l:List Int) (t:Int),l.length<=2000->X1f (List.length (l++[t])) 8=some ():=λl t hl=>X1j (by simp;omega);have hls:(szs sd).length<=2000:=by unfold szs;simp;omega
    have hld:(dps sd).length<=2000:=by unfold dps;simp;omega
    unfold Xdi;by_cases h4:x.Kind<=4
    · rw[Yt h4,cond_true]
      simp only[Yo];rw[show decide ((0:Int)>0)=false from rfl,cond_false,Xo9,Yo];by_cases hok:okN x 0 0
      · rw[Yt hok,Bool.not_true,cond_false,cap _ _ hls,cap _ _ hld]
        exact go (1,1) (by unfold nst;rw[if_pos h4,if_pos hok]) (Nat.le_refl _) om (Nat.le_refl _)
      · rw[Yf hok,Bool.not_false,cond_true]
        exact stop (by unfold nst;rw[if_pos h4,if_neg hok]) rfl
    · rw[Yf h4,cond_false]
      have hgl:0<sd.length->∃ q,sd.getLast?=some q/\sd[sd.length - 1]?=some q:=by
        intro h;refine⟨sd[sd.length - 1]'om,?_,?_⟩
        · rw[List.getLast?_eq_getElem?];exact Ye _
        · exact Ye _
      by_cases hl:sd.length=0
      · have hnil:=List.eq_nil_of_length_eq_zero hl
        refine stop (by unfold nst;rw[if_neg h4,hnil];rfl) ?_;rw[hl];by_cases h6:x.Kind<=6
        · rw[Yt h6];rfl
        · rw[Yf h6];rfl
      · obtain⟨q,hq1,hq⟩:=hgl om
        obtain⟨g1,g2,g3⟩:=hb _ _ hq;have hw:IntKind.i64.wrap ((sd.length:Int) - 1)=((sd.length - 1:Nat):Int):=Xm6 om om;rw[hw];rw[show decide (((sd.length - 1:Nat):Int)<0)=false from Yf om,Xrb hq,Xt5 hq];simp only[cond_false];by_cases h6:x.Kind<=6
        · rw[Yt h6,cond_true]
          simp only[Yo];rw[show decide ((1:Int)>0)=true from rfl,cond_true,show((1:Int)==2)=false from rfl,cond_false,Xo9,Yo];rw[show((sd.length - 1:Nat):Int)=(sd.length:Int) - 1 by omega];by_cases hok:okN x ((sd.length:Int) - 1) 0
          · rw[Yt hok,Bool.not_true,cond_false,cap _ _ hls,cap _ _ hld]
            rw[Xz om om,Xz om om];have:=go (1+q.1,1+q.2) (by unfold nst;rw[if_neg h4,hq1];simp only;rw[if_pos h6,if_pos hok]) (by simp only;omega) (by simp only;omega) (by simp only;omega);simp only at this
            push_cast at this
            exact this
          · rw[Yf hok,Bool.not_false,cond_true]
            exact stop (by unfold nst;rw[if_neg h4,hq1];simp only;rw[if_pos h6,if_neg hok]) rfl
        · rw[Yf h6,cond_false]
          simp only[Yo];rw[show decide ((2:Int)>0)=true from rfl,cond_true,show((2:Int)==2)=true from rfl,cond_true];have hw2:IntKind.i64.wrap (((sd.length - 1:Nat):Int) - q.1)=(sd.length:Int) - 1 - q.1:=by rw[Xz om om];omega
          rw[hw2];by_cases hlt:sd.length - 1<q.1
          · rw[show decide ((sd.length:Int) - 1 - q.1<0)=true from Yt om,cond_true]
            exact stop (by unfold nst;rw[if_neg h4,hq1];simp only;rw[if_neg h6,if_pos hlt]) rfl
          · rw[show decide ((sd.length:Int) - 1 - q.1<0)=false from Yf om,cond_false]
            have hpe:sd[sd.length - 1 - q.1]?=some (sd[sd.length - 1 - q.1]'om):=Ye _;generalize sd[sd.length - 1 - q.1]'om=p at hpe;obtain⟨f1,f2,f3⟩:=hb _ _ hpe;rw[show(sd.length:Int) - 1 - q.1=((sd.length - 1 - q.1:Nat):Int) by omega,Xrb hpe,Xt5 hpe];simp only[Yo];rw[Xo9,Yo];rw[show((sd.length - 1 - q.1:Nat):Int)=(sd.length:Int) - 1 - q.1 by omega,show((sd.length - 1:Nat):Int)=(sd.length:Int) - 1 by omega];by_cases hok:okN x ((sd.length:Int) - 1 - q.1) ((sd.length:Int) - 1)
            · rw[Yt hok,Bool.not_true,cond_false,cap _ _ hls,cap _ _ hld]
              rw[Xz (z:=1+(q.1:Int)) om om,Xz (z:=1+(q.1:Int)+p.1) om om,Xz om om,Xz om om];have:=go (1+q.1+p.1,max (1+q.2) (1+p.2)) (by unfold nst;rw[if_neg h4,hq1];simp only;rw[if_neg h6,if_neg hlt,hpe];simp only;rw[if_pos hok]) (by simp only;omega) (by simp only;omega) (by simp only;omega);simp only at this;rw[show((1+q.1+p.1:Nat):Int)=1+(q.1:Int)+p.1 by omega,show((max (1+q.2) (1+p.2):Nat):Int)=(if 1+(p.2:Int)>1+q.2 then 1+(p.2:Int) else 1+q.2) by split<;>omega] at this;exact this
            · rw[Yf hok,Bool.not_false,cond_true]
              exact stop (by unfold nst;rw[if_neg h4,hq1];simp only;rw[if_neg h6,if_neg hlt,hpe];simp only;rw[if_neg hok]) rfl
theorem Xci {l:List X0f}:X4x l=some (Xe5 l):=by
 unfold X4x Xe5;by_cases h60:l.length>60
 ·rw[Yt (show(l.length:Int)>60 by omega),cond_true,if_pos h60]
 ·rw[Yf (show ¬ (l.length:Int)>60 by omega),cond_false,if_neg h60];have hL:=X02j l l [] (by simp;omega) (by simp);unfold Xdh;rw[X26 om]
  cases hr:Xnj l [] with
  |none =>
   rw[hr] at hL;simp only[List.length_nil] at hL;rw[show szs []=[] from rfl,show dps []=[] from rfl] at hL;rw[Yo,hL];rfl
  |some sd =>
   rw[hr] at hL;simp only[List.length_nil] at hL;rw[show szs []=[] from rfl,show dps []=[] from rfl] at hL;rw[Yo,hL];have hn:=Xkj l [] sd hr;simp only[List.length_nil,Nat.zero_add] at hn;simp only[Yo];by_cases hz:l.length=0
   ·rw[List.eq_nil_of_length_eq_zero (hn.trans hz),List.eq_nil_of_length_eq_zero hz];rfl
   ·have hq:sd[sd.length - 1]?=some (sd[sd.length - 1]'om):=Ye _;generalize sd[sd.length - 1]'om=q at hq;have hg:sd.getLast?=some q:=by rw[List.getLast?_eq_getElem?];exact hq
    rw[hg];have hw:IntKind.i64.wrap ((l.length:Int) - 1)=((sd.length - 1:Nat):Int):=by rw[<-hn];exact Xm6 om om
    rw[show decide ((l.length:Int)>0)=true from Yt om,cond_true,hw,Xrb hq];simp only[Yo,cond_true];rw[Xt5 hq];by_cases he:q.1=l.length
    ·rw[if_pos he,show((q.1:Int)==(l.length:Int))=true by rw[he];simp,Bool.not_true,cond_false];by_cases hd:q.2>20
     ·rw[if_pos hd,Yo,Yt (show(q.2:Int)>20 by omega)];rfl
     ·rw[if_neg hd,Yo,Yf (show ¬ (q.2:Int)>20 by omega)];rfl
    ·rw[if_neg he,show((q.1:Int)==(l.length:Int))=false by simp;omega,Bool.not_false,cond_true]
end Go.D


namespace Go.D
theorem X09j {sd:List (Nat×Nat)} {x:X0f} {q:Nat×Nat} (h:nst sd x=some q):∃ a b,okN x a b/\(x.Kind<=4->a=0/\b=0)/\(5<=x.Kind->0<sd.length/\(x.Kind<=6->a=(sd.length:Int) - 1/\b=0)/\(7<=x.Kind->0<=a/\a<=(sd.length:Int) - 1/\b=(sd.length:Int) - 1)):=by
 unfold nst at h;split at h
 ·rename_i h4;split at h
  ·rename_i ho;exact⟨0,0,ho,λ_=>⟨rfl,rfl⟩,λh5=>by omega⟩
  ·cases h
 ·rename_i h4;split at h
  ·cases h
  ·rename_i s2 d2 hg;have hl:0<sd.length:=by
    cases sd with
    |nil=>cases hg
    |cons=>simp
   split at h
   ·rename_i h6;split at h
    ·rename_i ho;exact⟨_,_,ho,λh4'=>absurd h4' h4,λ_=>⟨hl,λ_=>⟨rfl,rfl⟩,λh7=>by omega⟩⟩
    ·cases h
   ·rename_i h6;split at h
    ·cases h
    ·rename_i hlt;split at h
     ·cases h
     ·split at h
      ·rename_i ho;exact⟨_,_,ho,λh4'=>absurd h4' h4,λ_=>⟨hl,λh6'=>absurd h6' h6,λ_=>⟨by omega,by omega,rfl⟩⟩⟩
      ·cases h
structure Xqv (x:X0f) (k:Nat):Prop where
 lo:1<=x.Kind
 hi:x.Kind<=19
 leaf:x.Kind<=4->x.A=0/\x.B=0
 a0:0<=x.A
 b0:0<=x.B
 ak:5<=x.Kind->x.A<k
 b1:5<=x.Kind->x.Kind<=6->x.B=0
 bk:5<=x.Kind->x.B<k
 n0:0<=x.N
 nk:x.N=0\/x.Kind=1
 at0:0<=x.At
 at1:x.At<=400
theorem Xy9:∀ (xs:List X0f) (sd sd':List (Nat×Nat)),Xnj xs sd=some sd'->∀ j x,xs[j]?=some x->Xqv x (sd.length+j)
 |[],sd,sd',h,j,x,hj=>by simp at hj
 |y::ys,sd,sd',h,j,x,hj=>by
  unfold Xnj at h;split at h
  ·rename_i q hq
   cases j with
   |zero =>
    simp at hj;subst hj;obtain⟨a,b,ho,h4,h5⟩:=X09j hq;obtain⟨o1,o2,o3,o4,o5,o6,rfl,rfl⟩:=ho;refine⟨o1,o2,h4,?_,?_,?_,?_,?_,o3,o4,o5,o6⟩;all_goals
     by_cases h4':y.Kind<=4
     ·have:=h4 h4';omega
     ·have h5':=h5 om;by_cases h6:y.Kind<=6
      ·have:=h5'.2.1 h6;omega
      ·have:=h5'.2.2 om;omega
   |succ j =>
    have:=Xy9 ys _ _ h j x (by simpa using hj);rw[List.length_append,List.length_singleton] at this;rw[show sd.length+(j+1)=sd.length+1+j by omega];exact this
  ·cases h
def giv (K:Int):Bool:=(K==6)||decide (12<=K)
theorem Xow (K:Int):X71 K=some (giv K):=by
 unfold X71 giv;congr 1
def X3a (l:List X0f) (i:Int):Int:=match X15 l i with|some e=>e.Kind|none=>0
def Xpd (l:List X0f) (x:X0f):Bool :=
 if x.Kind<=4 then true
 else if x.Kind=5 then !(giv (X3a l x.A))
 else if x.Kind=6 then giv (X3a l x.A)
 else if x.Kind<=15 then !(giv (X3a l x.A))&&!(giv (X3a l x.B))
 else if x.Kind<=17 then (giv (X3a l x.A))==(giv (X3a l x.B))
 else giv (X3a l x.A)&&giv (X3a l x.B)
def wrN (l:List X0f):List X0f->Nat->Option Nat
 |[],_=>none
 |x::xs,k=>if Xpd l x then wrN l xs (k+1) else some k
theorem Xqd {α:Type} {l:List α} {i:Int} (h0:0<=i) (h1:i<l.length):∃ e,X15 l i=some e/\l[i.toNat]?=some e:=by
 obtain⟨n,rfl⟩:∃ n:Nat,i=n:=⟨i.toNat,by omega⟩;exact⟨l[n]'om,by rw[X2a];exact Ye _,by simp⟩
theorem Xdo {l:List X0f} {i:Int} (h0:0<=i) (h1:i<l.length):∃ e,X15 l i=some e/\X3a l i=e.Kind:=by
 obtain⟨e,h,_⟩:=Xqd h0 h1;exact⟨e,h,by unfold X3a;rw[h]⟩
theorem X07t {l:List X0f} {x:X0f} {k:Nat} (hk:l[k]?=some x) (ho:Xqv x k):Xd1 l (k:Int)=some (Xpd l x):=by
 have hlt:=(Ys.1 hk).1;have hA:x.A<l.length:=by
  by_cases h:x.Kind<=4
  ·have:=(ho.leaf h).1;omega
  ·have:=ho.ak om;omega
 have hB:x.B<l.length:=by
  by_cases h:x.Kind<=4
  ·have:=(ho.leaf h).2;omega
  ·have:=ho.bk om;omega
 obtain⟨a,ha,hka⟩:=Xdo ho.a0 hA;obtain⟨b,hb,hkb⟩:=Xdo ho.b0 hB;unfold Xd1 Xpd;rw[X2a,hk,Yo,ha,Yo,hb,Xow,Yo,Yo,Xow,Yo,hka,hkb];have h1:=ho.lo;have h2:=ho.hi;by_cases h4:x.Kind<=4
 ·rw[if_pos h4,Yt h4];rfl
 ·rw[if_neg h4,Yf h4,cond_false];by_cases h5:x.Kind=5
  ·rw[if_pos h5,show(x.Kind==5)=true by simp[h5]];rfl
  ·rw[if_neg h5,show(x.Kind==5)=false by simp[h5],cond_false];by_cases h6:x.Kind=6
   ·rw[if_pos h6,show(x.Kind==6)=true by simp[h6]];rfl
   ·rw[if_neg h6,show(x.Kind==6)=false by simp[h6],cond_false];by_cases h15:x.Kind<=15
    ·rw[if_pos h15,show(bif (x.Kind==16) then true else (x.Kind==17))=false by rw[show(x.Kind==16)=false by simp;omega,show(x.Kind==17)=false by simp;omega];rfl,Yf (show ¬ x.Kind >= 18 by omega)];cases giv a.Kind<;>cases giv b.Kind<;>rfl
    ·rw[if_neg h15];by_cases h17:x.Kind<=17
     ·rw[if_pos h17,show(bif (x.Kind==16) then true else (x.Kind==17))=true by rcases(by omega:x.Kind=16\/x.Kind=17) with h|h<;>simp[h]];rfl
     ·rw[if_neg h17,show(bif (x.Kind==16) then true else (x.Kind==17))=false by rw[show(x.Kind==16)=false by simp;omega,show(x.Kind==17)=false by simp;omega];rfl,Yt (show x.Kind >= 18 by omega)];cases giv a.Kind<;>cases giv b.Kind<;>rfl
theorem Xti {l:List X0f} (ho:∀ j x,l[j]?=some x->Xqv x j):∀ (xs:List X0f) (k:Nat),l.drop k=xs->X49 l xs k=some (match wrN l xs k with|none=>.x0|some j=>.x1 (j:Int))
 |[],k,_=>rfl
 |x::xs,k,h=>by
  have hk:l[k]?=some x:=by
   have:(l.drop k)[0]?=some x:=by rw[h];rfl
   simpa using this
  have hd:l.drop (k+1)=xs:=by
   have:(l.drop k).drop 1=xs:=by rw[h];rfl
   rw[List.drop_drop] at this;exact this
  rw[X49,X07t hk (ho k x hk),Yo,wrN]
  cases Xpd l x with
  |true=>exact Xti ho xs (k+1) hd
  |false=>rfl
def gvs (l:List X0f) (k:Nat):List Bool:=(l.take k).map λe=>giv e.Kind
theorem Xsz {l:List X0f} {k:Nat} (hk:k<=l.length) {i:Int} (h0:0<=i) (h1:i<k):X15 (gvs l k) i=some (giv (X3a l i)):=by
 obtain⟨e,he,hke⟩:=Xdo (l:=l) h0 om;have hi:(i.toNat:Int)=i:=by omega
 rw[hke,<-hi,X2a];rw[<-hi,X2a] at he;unfold gvs;rw[List.getElem?_map,List.getElem?_take_of_lt om,he];rfl
theorem Xub {l:List X0f} {k:Nat} {x:X0f} (hk:l[k]?=some x):gvs l (k+1)=gvs l k++[giv x.Kind]:=by
 unfold gvs;rw[List.take_add_one,hk,List.map_append];rfl
theorem Xx3 {l:List X0f} (hn:l.length<=1000) (ho:∀ j x,l[j]?=some x->Xqv x j):∀ (xs:List X0f) (k:Nat),l.drop k=xs->X1u l xs k (gvs l k)=some (match wrN l xs k with|none=>.x0 (gvs l l.length)|some j=>.x1 [] (j:Int))
 |[],k,h=>by
  have:l.length<=k:=by
   have:=congrArg List.length h;simp at this;omega
  rw[X1u,wrN];unfold gvs;rw[List.take_of_length_le this,List.take_length]
 |x::xs,k,h=>by
  have hk:l[k]?=some x:=by
   have:(l.drop k)[0]?=some x:=by rw[h];rfl
   simpa using this
  have hd:l.drop (k+1)=xs:=by
   have:(l.drop k).drop 1=xs:=by rw[h];rfl
   rw[List.drop_drop] at this;exact this
  have hlt:=(Ys.1 hk).1;have hox:=ho k x hk;have ih:=Xx3 hn ho xs (k+1) hd;have h1:=hox.lo;have h2:=hox.hi;have cap:∀ b,X1f (List.length (gvs l k++[b])) 1=some ():=λb=>X1j (by unfold gvs;simp;omega);have go:giv x.Kind=false->Xpd l x=true->X1u l xs (k+1) (gvs l k++[false])=some (match wrN l (x::xs) k with|none=>.x0 (gvs l l.length)|some j=>.x1 [] (j:Int)):=by
   intro g f;rw[wrN,f,if_pos rfl,<-ih,Xub hk,g]
  have go':giv x.Kind=true->Xpd l x=true->X1u l xs (k+1) (gvs l k++[true])=some (match wrN l (x::xs) k with|none=>.x0 (gvs l l.length)|some j=>.x1 [] (j:Int)):=by
   intro g f;rw[wrN,f,if_pos rfl,<-ih,Xub hk,g]
  have stop:Xpd l x=false->(some (.x1 [] (k:Int)):Option X5u)=some (match wrN l (x::xs) k with|none=>.x0 (gvs l l.length)|some j=>.x1 [] (j:Int)):=by
   intro f;rw[wrN,f];rfl
  rw[X1u];by_cases h4:x.Kind<=4
  ·rw[Yt h4,cond_true,cap,Yo];exact go (by unfold giv;simp;omega) (by unfold Xpd;rw[if_pos h4])
  ·rw[Yf h4,cond_false];have hA:X15 (gvs l k) x.A=some (giv (X3a l x.A)):=Xsz om hox.a0 (hox.ak om);have hB:X15 (gvs l k) x.B=some (giv (X3a l x.B)):=Xsz om hox.b0 (hox.bk om);by_cases h5:x.Kind=5
   ·have hf:Xpd l x=!(giv (X3a l x.A)):=by unfold Xpd;rw[if_neg h4,if_pos h5]
    rw[show(x.Kind==5)=true by simp[h5],cond_true,hA]
    cases hg:giv (X3a l x.A) with
    |true=>exact stop (by rw[hf,hg];rfl)
    |false =>
     show(X1f (List.length (gvs l k++[false])) 1).bind _=_;rw[cap,Yo];exact go (by unfold giv;simp[h5]) (by rw[hf,hg];rfl)
   ·rw[show(x.Kind==5)=false by simp[h5],cond_false];by_cases h6:x.Kind=6
    ·have hf:Xpd l x=giv (X3a l x.A):=by unfold Xpd;rw[if_neg h4,if_neg h5,if_pos h6]
     rw[show(x.Kind==6)=true by simp[h6],cond_true,hA]
     cases hg:giv (X3a l x.A) with
     |false=>exact stop (by rw[hf,hg])
     |true =>
      show(X1f (List.length (gvs l k++[true])) 1).bind _=_;rw[cap,Yo];exact go' (by unfold giv;simp[h6]) (by rw[hf,hg])
    ·rw[show(x.Kind==6)=false by simp[h6],cond_false];have lok:X5d (List.length [x.A,x.B])=some ():=X26 (by simp);by_cases h15:x.Kind<=15
     ·have hf:Xpd l x=(!(giv (X3a l x.A))&&!(giv (X3a l x.B))):=by unfold Xpd;rw[if_neg h4,if_neg h5,if_neg h6,if_pos h15]
      by_cases h11:x.Kind<=11
      ·have hgx:giv x.Kind=false:=by unfold giv;simp;omega
       rw[Yt h11,cond_true,Yo,lok];simp only[X0i,hA,hB];generalize giv (X3a l x.A)=p at hf;generalize giv (X3a l x.B)=r at hf;cases p<;>cases r
       ·show(X1f (List.length (gvs l k++[false])) 1).bind _=_;rw[cap,Yo];exact go hgx hf
       all_goals exact stop hf
      ·have hgx:giv x.Kind=true:=by unfold giv;simp;omega
       rw[Yf h11,cond_false,Yt h15,cond_true,Yo,lok];simp only[X0i,hA,hB];generalize giv (X3a l x.A)=p at hf;generalize giv (X3a l x.B)=r at hf;cases p<;>cases r
       ·show(X1f (List.length (gvs l k++[true])) 1).bind _=_;rw[cap,Yo];exact go' hgx hf
       all_goals exact stop hf
     ·rw[Yf (show ¬ x.Kind<=11 by omega),cond_false,Yf h15,cond_false];have hgx:giv x.Kind=true:=by unfold giv;simp;omega
      by_cases h17:x.Kind<=17
      ·have hf:Xpd l x=((giv (X3a l x.A))==(giv (X3a l x.B))):=by unfold Xpd;rw[if_neg h4,if_neg h5,if_neg h6,if_neg h15,if_pos h17]
       rw[Yt h17,cond_true,Yo,lok];simp only[X0i,X0k,hA,hB];generalize giv (X3a l x.A)=p at hf;generalize giv (X3a l x.B)=r at hf;cases p<;>cases r
       ·show(X1f (List.length (gvs l k++[true])) 1).bind _=_;rw[cap,Yo];exact go' hgx hf
       ·exact stop hf
       ·exact stop hf
       ·show(X1f (List.length (gvs l k++[true])) 1).bind _=_;rw[cap,Yo];exact go' hgx hf
      ·have hf:Xpd l x=((giv (X3a l x.A))&&(giv (X3a l x.B))):=by unfold Xpd;rw[if_neg h4,if_neg h5,if_neg h6,if_neg h15,if_neg h17]
       rw[Yf h17,cond_false,Yo,lok];simp only[X0i,X0k,hA,hB];generalize giv (X3a l x.A)=p at hf;generalize giv (X3a l x.B)=r at hf;cases p<;>cases r
       ·exact stop hf
       ·exact stop hf
       ·exact stop hf
       ·show(X1f (List.length (gvs l k++[true])) 1).bind _=_;rw[cap,Yo];exact go' hgx hf
end Go.D


namespace Go.D
theorem Xwq (a b:Int):a<b\/b<=a:=by omega
theorem Xyb {α:Type} {l:List α} (h:l.Nodup):l.reverse.Nodup:=by
 unfold List.Nodup at *;rw[List.pairwise_reverse];exact h.imp λh=>Ne.symm h
def okT (t:Int):Prop := -1099511627776<=t/\t<=1099511627776
def okW (w:X1z):Prop:=1<=w.Size/\w.Size<=1073741824/\((w.Kind=2/\1<=w.Every/\w.Every<=w.Size/\w.Size<=16*w.Every)\/((w.Kind=1\/w.Kind=3)/\w.Every=0))
theorem X4j {w:X1z} (h:okW w):X1a w=some 0:=by
 obtain⟨h1,h2,h3⟩:=h;have e1:decide (w.Size<1)=false:=by simp;omega
 have e2:decide (w.Size>1073741824)=false:=by simp;omega
 simp only[X1a,e1,e2,cond_false];rcases h3 with ⟨k,a1,a2,a3⟩|⟨k|k,a⟩
 ·have e3:(w.Kind==2)=true:=by simp[k]
  have e4:decide (w.Every >= 1)=true:=by simp;omega
  have e5:decide (w.Every<=w.Size)=true:=by simp;omega
  have e6:decide (w.Size<=IntKind.i64.wrap (16*w.Every))=true:=by rw[Xz om om];simp;omega
  simp only[e3,e4,e5,e6,cond_true]
 ·have e3:(w.Kind==2)=false:=by simp[k]
  have e4:(w.Kind==1)=true:=by simp[k]
  have e5:(w.Every==0)=true:=by simp[a]
  simp only[e3,e4,e5,cond_true,cond_false]
 ·have e3:(w.Kind==2)=false:=by simp[k]
  have e4:(w.Kind==1)=false:=by simp[k]
  have e6:(w.Kind==3)=true:=by simp[k]
  have e5:(w.Every==0)=true:=by simp[a]
  simp only[e3,e4,e5,e6,cond_true,cond_false]
theorem Xej {t size:Int} (ht:okT t) (h1:1<=size) (h2:size<=1073741824):Xcs t size=some (⟨t / size*size,t / size*size+size⟩,0):=by
 obtain⟨t1,t2⟩:=ht;have e1:decide (size<1)=false:=by simp;omega
 have e2:decide (size>1073741824)=false:=by simp;omega
 have e3:decide (t < -1099511627776)=false:=by simp;omega
 have e4:decide (t>1099511627776)=false:=by simp;omega
 have hm:=Int.mul_ediv_add_emod t size;have hm1:=Int.emod_nonneg t (show size≠0 by omega);have hm2:=Int.emod_lt_of_pos t (show 0<size by omega);have q1 : -1099511627776<=t / size:=by
  rcases Xwq (t / size) (-1099511627776) with h|h
  ·exfalso;have:size*(t / size)<=size*(-1099511627777):=Int.mul_le_mul_of_nonneg_left om om;omega
  ·exact h
 have q2:t / size<=1099511627776:=by
  rcases Xwq 1099511627776 (t / size) with h|h
  ·exfalso;have:size*1099511627777<=size*(t / size):=Int.mul_le_mul_of_nonneg_left om om;omega
  ·exact h
 have hn:X7o t size=some (t / size,0):=by
  simp only[X7o,Xbz,e1,e2,e3,e4,cond_false,Yo,bne_self_eq_false];have hd:Xqm size=some ():=by unfold Xqm;rw[if_pos om]
  rw[hd,Yo];have htm:=Int.tmod_add_mul_tdiv t size;by_cases hneg:Int.tmod t size<0
  ·have e5:decide (Int.tmod t size<0)=true:=by simp[hneg]
   rw[e5,cond_true,Yo];have hq:Int.tdiv t size - 1=t / size:=by
    have h3:Int.tdiv t size=t / size+if 0<=t\/size ∣ t then 0 else size.sign:=Int.tdiv_eq_ediv;have h4:¬ (0<=t\/size ∣ t):=by
     rintro(h|h)
     ·have:=Int.tmod_nonneg size h;omega
     ·have:=Int.tmod_eq_zero_of_dvd h;omega
    rw[if_neg h4,Int.sign_eq_one_of_pos om] at h3;omega
   have e6:IntKind.i64.wrap (Int.tdiv t size)=Int.tdiv t size:=Xz om om;rw[e6,hq,Xz om om]
  ·have e5:decide (Int.tmod t size<0)=false:=by simp;omega
   rw[e5,cond_false,Yo];have hq:Int.tdiv t size=t / size:=by
    have h3:Int.tdiv t size=t / size+if 0<=t\/size ∣ t then 0 else size.sign:=Int.tdiv_eq_ediv;by_cases h4:0<=t\/size ∣ t
    ·rw[if_pos h4] at h3;omega
    ·exfalso;rw[if_neg h4,Int.sign_eq_one_of_pos om] at h3;rw[h3,Int.mul_add,Int.mul_one] at htm;omega
   rw[hq,Xz om om]
 simp only[Xcs,hn,Yo,bne_self_eq_false,cond_false];have e7:t / size*size=size*(t / size):=Int.mul_comm _ _;have e8:IntKind.i64.wrap (t / size+1)=t / size+1:=Xz om om;have e9:(t / size+1)*size=size*(t / size)+size:=by rw[Int.add_mul,e7];omega
 rw[e8,e9,e7,Xz om om,Xz om om]
def Xd8 (t size every:Int):Nat->Int->List Xy
 |0,_=>[]
 |K+1,s=>if s+size>t then ⟨s,s+size⟩::Xd8 t size every K (s - every) else []
theorem X02i {t size every:Int} (ht:okT t) (h1:1<=every) (h2:every<=size) (h3:size<=1073741824):∀ (K f:Nat) (acc:List Xy) (s:Int),s<=t -> -1200000000000+K*1073741824<=s->s+size - t<=K*every->K<f->acc.length+K<=1000000 ->
  X5l t size every f acc s=some (.x0 (acc++Xd8 t size every K s)):=by
 obtain⟨t1,t2⟩:=ht;intro K
 induction K with
 |zero =>
  intro f acc s hs hl hK hf ha
  cases f with
  |zero=>omega
  |succ f =>
   rw[X5l];simp only[Int.natCast_zero,Int.zero_mul] at hK hl;have:decide (IntKind.i64.wrap (s+size)>t)=false:=by rw[Xz om om];simp;omega
   rw[this,cond_false];simp[Xd8]
 |succ K ih =>
  intro f acc s hs hl hK hf ha
  cases f with
  |zero=>omega
  |succ f =>
   rw[X5l];have e0:((K+1:Nat):Int)*every=K*every+every:=by rw[Int.natCast_add,Int.natCast_one,Int.add_mul,Int.one_mul]
   have e00:((K+1:Nat):Int)*1073741824=K*1073741824+1073741824:=by omega
   have e1:IntKind.i64.wrap (s+size)=s+size:=Xz om om;rw[e1];by_cases hgt:s+size>t
   ·have:decide (s+size>t)=true:=by simpa using hgt
    rw[this,cond_true,X1j (by simp;omega),Yo];have e2:IntKind.i64.wrap (s - every)=s - every:=Xz om om;rw[e2,ih f _ _ om om om om (by simp;omega)];rw[Xd8,if_pos hgt];simp
   ·have:decide (s+size>t)=false:=by simpa using hgt
    rw[this,cond_false,Xd8,if_neg hgt];simp
theorem Xrc (back:List Xy) (hb:back.length<=1000):∀ (k f:Nat) (acc:List Xy),k<=back.length->k<f->acc.length+k<=1000000 ->
  X3e back f acc ((k:Int) - 1)=some (.x0 (acc++(back.take k).reverse) back):=by
 intro k
 induction k with
 |zero =>
  intro f acc _ hf _
  cases f with
  |zero=>omega
  |succ f =>
   rw[X3e];simp
 |succ k ih =>
  intro f acc hk hf ha
  cases f with
  |zero=>omega
  |succ f =>
   rw[X3e];have e1:(((k+1:Nat):Int) - 1)=(k:Int):=by omega
   rw[e1];have e2:decide ((k:Int) >= 0)=true:=by simp
   rw[e2,cond_true,X2a,Ye om,Yo,X1j (by simp;omega),Yo];rw[Xz om om,ih f _ om om (by simp;omega)];rw[List.take_add_one,Ye om];simp only[Option.toList_some,List.reverse_append,List.reverse_cons,List.reverse_nil,List.nil_append,List.append_assoc,List.cons_append]
theorem Xqs (t size every:Int):∀ (K:Nat) (s:Int),(Xd8 t size every K s).length<=K:=by
 intro K
 induction K with
 |zero=>intro s;simp[Xd8]
 |succ K ih=>intro s;rw[Xd8];split<;>simp;exact ih _
theorem X04j (t size every:Int) (h:1<=every):∀ (K:Nat) (s:Int),∀ x∈Xd8 t size every K s,x.Start<=s:=by
 intro K
 induction K with
 |zero=>intro s x hx;simp[Xd8] at hx
 |succ K ih =>
  intro s x hx;rw[Xd8] at hx;split at hx
  ·rcases List.mem_cons.1 hx with rfl|hx
   ·exact Int.le_refl _
   ·have:=ih _ x hx;omega
  ·simp at hx
theorem Xtc (t size every:Int) (h:1<=every):∀ (K:Nat) (s:Int),(Xd8 t size every K s).Nodup:=by
 intro K
 induction K with
 |zero=>intro s;simp[Xd8]
 |succ K ih =>
  intro s;rw[Xd8];split
  ·rw[List.nodup_cons];exact⟨λhx=>by have:=X04j t size every h K _ _ hx;simp at this;omega,ih _⟩
  ·exact List.nodup_nil
theorem X00r (t size every:Int):∀ (K:Nat) (s:Int),s+size - t<=K*every->0<=every->∀ x:Xy,x∈Xd8 t size every K s↔∃ j:Nat,x.Start=s - j*every/\x.End=x.Start+size/\t<x.End:=by
 intro K
 induction K with
 |zero =>
  intro s hK he x;simp only[Int.natCast_zero,Int.zero_mul] at hK;simp only[Xd8,List.not_mem_nil,false_iff,not_exists,not_and];intro j h1 h2;have:(0:Int)<=j*every:=Int.mul_nonneg om he;omega
 |succ K ih =>
  intro s hK he x;have e0:((K+1:Nat):Int)*every=K*every+every:=by rw[Int.natCast_add,Int.natCast_one,Int.add_mul,Int.one_mul]
  rw[Xd8];by_cases hgt:s+size>t
  ·rw[if_pos hgt,List.mem_cons,ih (s - every) om he x];constructor
   ·rintro(rfl|⟨j,h1,h2,h3⟩)
    ·exact⟨0,by simp,rfl,hgt⟩
    ·refine⟨j+1,?_,h2,h3⟩;have:((j+1:Nat):Int)*every=j*every+every:=by rw[Int.natCast_add,Int.natCast_one,Int.add_mul,Int.one_mul]
     omega
   ·rintro⟨j,h1,h2,h3⟩
    cases j with
    |zero=>left;apply Xa1;simp at h1;exact h1;simp at h1;show x.End=s+size;omega
    |succ j =>
     right;have:((j+1:Nat):Int)*every=j*every+every:=by rw[Int.natCast_add,Int.natCast_one,Int.add_mul,Int.one_mul]
     exact⟨j,by omega,h2,h3⟩
  ·rw[if_neg hgt];simp only[List.not_mem_nil,false_iff,not_exists,not_and];intro j h1 h2;have:(0:Int)<=j*every:=Int.mul_nonneg om he;omega
theorem Xqb {t size every:Int} (h1:1<=every) (x:Xy):Xsp size every t x↔∃ j:Nat,x.Start=t / every*every - j*every/\x.End=x.Start+size/\t<x.End:=by
 have hm:=Int.mul_ediv_add_emod t every;have hm1:=Int.emod_nonneg t (show every≠0 by omega);have hm2:=Int.emod_lt_of_pos t (show 0<every by omega);have hc:t / every*every=every*(t / every):=Int.mul_comm _ _;unfold Xsp inS;constructor
 ·rintro⟨a1,a2,a3,a4⟩;have hx:=Int.mul_ediv_add_emod x.Start every;rw[a1,Int.add_zero] at hx;have hle:x.Start / every<=t / every:=by
   rcases Xwq (t / every) (x.Start / every) with h|h
   ·exfalso;have:every*(t / every+1)<=every*(x.Start / every):=Int.mul_le_mul_of_nonneg_left om om;rw[Int.mul_add,Int.mul_one] at this;omega
   ·exact h
  refine⟨(t / every - x.Start / every).toNat,?_,a2,a4⟩;have e1:(((t / every - x.Start / every).toNat:Nat):Int)=t / every - x.Start / every:=Int.toNat_of_nonneg om;rw[e1,Int.sub_mul,Int.mul_comm (x.Start / every)];omega
 ·rintro⟨j,a1,a2,a3⟩;have hj:(0:Int)<=j*every:=Int.mul_nonneg om om;refine⟨?_,a2,by omega,a3⟩;rw[a1,<-Int.sub_mul];exact Int.mul_emod_left _ _
theorem Xl4 {w:X1z} {t:Int} (hw:okW w) (hk:w.Kind≠3) (ht:okT t):∃ W,Xgv w t=some (W,0)/\W.length<=16/\W.Nodup/\∀ s,s∈W↔Xsp w.Size (Xhr w) t s:=by
 have hcw:=X4j hw;obtain⟨w1,w2,w3⟩:=hw;have ht':=ht;obtain⟨t1,t2⟩:=ht;unfold Xgv;rw[hcw,Yo];rcases w3 with ⟨k,a1,a2,a3⟩|⟨k|k,a⟩
 ·have e1:(w.Kind==1)=false:=by simp[k]
  have e2:(w.Kind==2)=true:=by simp[k]
  have e3:Xhr w=w.Every:=by unfold Xhr;rw[if_neg om]
  simp only[bne_self_eq_false,cond_false,e1,e2,cond_true];have hm:=Int.mul_ediv_add_emod t w.Every;have hm1:=Int.emod_nonneg t (show w.Every≠0 by omega);have hm2:=Int.emod_lt_of_pos t (show 0<w.Every by omega);have hc:t / w.Every*w.Every=w.Every*(t / w.Every):=Int.mul_comm _ _;have hall:Xel t w.Size w.Every=some ((Xd8 t w.Size w.Every 16 (t / w.Every*w.Every)).reverse,0):=by
   unfold Xel;have b1:decide ((if w.Every<w.Size then w.Every else w.Size)<1)=false:=by simp;split<;>omega
   have b2:decide (w.Size>1073741824)=false:=by simp;omega
   have b3:decide (w.Every>w.Size)=false:=by simp;omega
   have b4:decide (w.Size>IntKind.i64.wrap (16*w.Every))=false:=by rw[Xz om om];simp;omega
   simp only[b1,b2,b3,b4,cond_false,Xej ht' a1 om,Yo,bne_self_eq_false];have hL:=X02i ht' a1 a2 w2 16 FU [] (t / w.Every*w.Every) om om om (by unfold FU;omega) (by simp);rw[hL,Yo];simp only[List.nil_append];have hlen:=Xqs t w.Size w.Every 16 (t / w.Every*w.Every);rw[Xz om om];have hR:=Xrc (Xd8 t w.Size w.Every 16 (t / w.Every*w.Every)) om (Xd8 t w.Size w.Every 16 (t / w.Every*w.Every)).length FU [] (Nat.le_refl _) (by unfold FU;omega) (by simp;omega);rw[hR,Yo];simp
  rw[hall,Yo];refine⟨_,rfl,by rw[List.length_reverse];exact Xqs ..,Xyb (Xtc t w.Size w.Every a1 _ _),λs=>?_⟩;rw[List.mem_reverse,e3,Xqb a1,X00r t w.Size w.Every 16 _ om om]
 ·have e1:(w.Kind==1)=true:=by simp[k]
  have e3:Xhr w=w.Size:=by unfold Xhr;rw[if_pos k]
  simp only[bne_self_eq_false,cond_false,e1,cond_true,Xej ht' w1 w2,Yo];refine⟨_,rfl,by simp,by simp,λs=>?_⟩;rw[List.mem_singleton,e3,Xqb w1];have hm:=Int.mul_ediv_add_emod t w.Size;have hm1:=Int.emod_nonneg t (show w.Size≠0 by omega);have hm2:=Int.emod_lt_of_pos t (show 0<w.Size by omega);have hc:t / w.Size*w.Size=w.Size*(t / w.Size):=Int.mul_comm _ _;constructor
  ·rintro rfl;exact⟨0,by simp,rfl,by show t<t / w.Size*w.Size+w.Size;omega⟩
  ·rintro⟨j,h1,h2,h3⟩;have hj:(j:Int)=0:=by
    rcases Xwq 0 (j:Int) with h|h
    ·exfalso;have:(1:Int)*w.Size<=j*w.Size:=Int.mul_le_mul_of_nonneg_right om om;omega
    ·omega
   rw[hj,Int.zero_mul] at h1;exact Xa1 (by show s.Start=t / w.Size*w.Size;omega) (by show s.End=t / w.Size*w.Size+w.Size;omega)
 ·exact absurd k hk
end Go.D


namespace Go.D
def kOf (l:List X0f):Bool×Int×Int :=
 if Xe5 l≠0 then (false,0,Xe5 l)
 else match wrN l l 0 with
  |some j=>(false,(j:Int),42)
  |none=>(giv (X3a l ((l.length:Int) - 1)),(l.length:Int) - 1,0)
theorem Xle {l:List X0f} (h:Xe5 l=0):l.length<=60/\1<=l.length/\∃ sd,Xnj l []=some sd:=by
 unfold Xe5 at h;split at h
 ·cases h
 ·split at h
  ·cases h
  ·rename_i sd hr;have hn:=Xkj l [] sd hr;simp only[List.length_nil,Nat.zero_add] at hn;split at h
   ·cases h
   ·rename_i q hq;have:1<=sd.length:=by
     cases sd with
     |nil=>cases hq
     |cons=>simp
    exact⟨by omega,by omega,sd,hr⟩
theorem Xnk {l:List X0f} (h:Xe5 l=0):∀ j x,l[j]?=some x->Xqv x j:=by
 obtain⟨_,_,sd,hr⟩:=Xle h;intro j x hj;have:=Xy9 l [] sd hr j x hj;simpa using this
theorem Xtj (l:List X0f):∀ (xs:List X0f) (k j:Nat),wrN l xs k=some j->k<=j/\j<k+xs.length
 |[],k,j,h=>by cases h
 |x::xs,k,j,h=>by
  unfold wrN at h;split at h
  ·have:=Xtj l xs (k+1) j h;simp only[List.length_cons];omega
  ·cases h;simp only[List.length_cons];omega
theorem Xrx {l:List X0f} (h0:∀ x∈l,0<=x.Kind):Xhh l=some (kOf l):=by
 unfold Xhh kOf;rw[Xcj h0,Yo];by_cases hz:Xe5 l=0
 ·obtain⟨h60,h1,_⟩:=Xle hz;rw[if_neg om,hz,show((0:Int) != 0)=false from rfl,cond_false];unfold Xfj;rw[X26 om,Yo];have ht:=Xx3 om (Xnk hz) l 0 rfl;rw[show gvs l 0=[] from by unfold gvs;simp] at ht;rw[ht]
  cases hw:wrN l l 0 with
  |some j =>
   have:=(Xtj l l 0 j hw).2;simp only[Yo];rw[Yt (show(j:Int)<(l.length:Int) by omega)];rfl
  |none =>
   simp only[Yo];rw[Yf (show ¬ (l.length:Int)<(l.length:Int) by omega),cond_false,Xz om om,Xsz (Nat.le_refl _) om om];rfl
 ·rw[if_pos hz,show(Xe5 l != 0)=true by simp[hz]];rfl
theorem Xrh {l:List X0f}:Xh8 l=some (kOf l):=by
 unfold Xh8 kOf;rw[Xci,Yo];by_cases hz:Xe5 l=0
 ·obtain⟨h60,h1,_⟩:=Xle hz;rw[if_neg om,hz,show((0:Int) != 0)=false from rfl,cond_false];unfold Xdg;rw[X26 om,Yo,Xti (Xnk hz) l 0 rfl]
  cases hw:wrN l l 0 with
  |some j =>
   have:=(Xtj l l 0 j hw).2;simp only[Yo];rw[Yt (show(j:Int)<(l.length:Int) by omega)];rfl
  |none =>
   simp only[Yo];obtain⟨e,he,hk⟩:=Xdo (l:=l) (i:=(l.length:Int) - 1) om om;rw[Yf (show ¬ (l.length:Int)<(l.length:Int) by omega),cond_false,Xz om om,he,Yo,Xow,hk];rfl
 ·rw[if_pos hz,show(Xe5 l != 0)=true by simp[hz]];rfl
def X39 (l:List X0f) (b:Bool):Int×Int :=
 if (kOf l).2.2=0/\(kOf l).1≠b then ((kOf l).2.1,42) else ((kOf l).2.1,(kOf l).2.2)
theorem Xhg {l:List X0f} {b:Bool} (h0:∀ x∈l,0<=x.Kind):Xan l b=some (X39 l b):=by
 unfold Xan X39;rw[Xrx h0,Yo];by_cases hz:(kOf l).2.2=0
 ·rw[hz,show((0:Int)==0)=true from rfl,cond_true];cases hb:(kOf l).1<;>cases b<;>simp
 ·rw[show((kOf l).2.2==0)=false by simp[hz],cond_false,cond_false,if_neg (λh=>hz h.1)];rfl
theorem Xh7 {l:List X0f} {b:Bool}:X91 l b=some (X39 l b):=by
 unfold X91 X39;rw[Xrh,Yo];by_cases hz:(kOf l).2.2=0
 ·rw[hz,show((0:Int)==0)=true from rfl,cond_true];cases hb:(kOf l).1<;>cases b<;>simp
 ·rw[show((kOf l).2.2==0)=false by simp[hz],cond_false,cond_false,if_neg (λh=>hz h.1)]
def Xto (s:List Int) (j:Bool):Bool:=s.length==0||(j&&s.length != 2)||s.any λx=>decide (x<0)||decide (x>3)
def X7r (s:List Int) (j:Bool):Int :=
 if s.length>4 then 4 else if Xto s j then 8 else if s.Nodup then 0 else 43
theorem Xpv (Y:List Int):∀ (xs:List Int) (k:Nat),∃ o,X0t Y xs k=some o/\((xs.any λx=>decide (x<0)||decide (x>3))=true->∃ j:Nat,o=.x1 (j:Int))/\((xs.any λx=>decide (x<0)||decide (x>3))=false->o=.x0)
 |[],k=>⟨.x0,rfl,by simp,λ_=>rfl⟩
 |x::xs,k=>by
  obtain⟨o,h1,h2,h3⟩:=Xpv Y xs (k+1);rw[X0t];unfold X66;rw[Yo];by_cases hx:x<0\/x>3
  ·have:(bif decide (x<0) then true else decide (x >= 4))=true:=by
    rcases hx with h|h
    ·rw[Yt h];rfl
    ·rw[Yf om,Yt om];rfl
   rw[this];refine⟨_,rfl,λ_=>⟨k,rfl⟩,λh=>?_⟩;exfalso;simp only[List.any_cons,Bool.or_eq_false_iff,decide_eq_false_iff_not] at h;omega
  ·have:(bif decide (x<0) then true else decide (x >= 4))=false:=by
    rw[Yf om,Yf om];rfl
   rw[this];refine⟨o,h1,λh=>h2 ?_,λh=>h3 ?_⟩
   ·rw[List.any_cons,Yf om,Yf om] at h;exact h
   ·rw[List.any_cons,Yf om,Yf om] at h;exact h
theorem Xt8 {s:List Int} (hn:s.length<=1000):X04 s=some (s.any λx=>decide (x<0)||decide (x>3)):=by
 unfold X04 X0s;rw[X26 om,Yo];obtain⟨o,h1,h2,h3⟩:=Xpv s s 0;rw[h1]
 cases hb:(s.any λx=>decide (x<0)||decide (x>3)) with
 |true=>obtain⟨j,rfl⟩:=h2 hb;simp
 |false=>rw[h3 hb];rfl
end Go.D


namespace Go.D
def X0e8:Int := -9223372036854775808
end Go.D


namespace Go.D
theorem X00b:∀ (xs ks:List Int),(X9l ks xs).length<=ks.length+xs.length/\((X9l ks xs).length=ks.length+xs.length↔xs.Nodup/\∀ x∈xs,x ∉ ks):=by
 intro xs
 induction xs with
 |nil=>intro ks;simp[X9l]
 |cons x xs ih =>
  intro ks;rw[X9l];unfold Xm2;by_cases hm:x∈ks
  ·rw[if_pos hm];have:=ih ks;refine⟨by have:=this.1;simp only[List.length_cons];omega,⟨λh=>?_,λh=>?_⟩⟩
   ·have:=this.1;simp only[List.length_cons] at h;omega
   ·exact absurd hm (h.2 x List.mem_cons_self)
  ·rw[if_neg hm];have:=ih (ks++[x]);rw[List.length_append,List.length_singleton] at this;refine⟨by have:=this.1;simp only[List.length_cons];omega,?_⟩;rw[show ks.length+(x::xs).length=ks.length+1+xs.length by simp only[List.length_cons];omega,this.2];constructor
   ·rintro⟨h1,h2⟩;refine⟨List.nodup_cons.2 ⟨λhx=>h2 x hx (by simp),h1⟩,?_⟩;intro y hy;rcases List.mem_cons.1 hy with rfl|hy
    ·exact hm
    ·exact λhk=>h2 y hy (by simp[hk])
   ·rintro⟨h1,h2⟩;refine⟨(List.nodup_cons.1 h1).2,λy hy hk=>?_⟩;rcases List.mem_append.1 hk with hk|hk
    ·exact h2 y (List.mem_cons_of_mem _ hy) hk
    ·simp at hk;subst hk;exact(List.nodup_cons.1 h1).1 hy
theorem Xt6 {s:List Int} (hn:s.length<=1000):∃ v,X37 s=some v/\decide (v<(s.length:Int))=!(decide s.Nodup):=by
 unfold X37;rw[X26 om];refine⟨_,rfl,?_⟩;have h:=X00b s [];simp only[List.length_nil,Nat.zero_add,List.not_mem_nil,not_false_eq_true,implies_true,and_true] at h;by_cases hd:s.Nodup
 ·rw[Yt hd,h.2.2 hd];simp
 ·rw[Yf hd];have:(X9l [] s).length≠s.length:=λe=>hd (h.2.1 e);have:=h.1;simp;omega
theorem Xhu (s:List Int) (j:Bool):X2f s j=some (X7r s j):=by
 unfold X2f X7r Xto;by_cases h4:s.length>4
 ·rw[if_pos h4,Yt (show(s.length:Int)>4 by omega)];rfl
 ·rw[if_neg h4,Yf (show ¬ (s.length:Int)>4 by omega),cond_false];obtain⟨v,hv,hd⟩:=Xt6 (s:=s) om;rw[Xt8 om,hv];simp only[Yo];rw[hd];have e0:((s.length:Int)==0)=(s.length==0):=by rw[Bool.eq_iff_iff];simp
  have e2:((s.length:Int) != 2)=(s.length != 2):=by rw[Bool.eq_iff_iff];simp;omega
  rw[e0,e2];generalize (s.any λx=>decide (x<0)||decide (x>3))=b;generalize (s.length==0)=z;generalize (s.length != 2)=t;by_cases hn:s.Nodup<;>cases z<;>cases t<;>cases j<;>cases b<;>simp[hn]
theorem Xje (Y:List Int):∀ (xs:List Int) (k:Nat),X32 Y xs k=some (bif (xs.any λx=>decide (x<0)||decide (x>3)) then .x1 else .x0)
 |[],k=>rfl
 |x::xs,k=>by
  rw[X32,Xje Y xs (k+1),List.any_cons];cases decide (x<0)<;>cases decide (x>3)<;>rfl
theorem Xpz (s:List Int) (i:Nat) (hi:i<s.length) (hs:s.length<=1000):∀ (m n j:Nat),m=i - j->m<n->∃ o,X31 s (i:Int) n (j:Int)=some o/\(o=.x0↔∃ j',j<=j'/\j'<i/\s[j']?=s[i]?):=by
 intro m
 induction m with
 |zero =>
  intro n j hm hn
  cases n with
  |zero=>omega
  |succ n =>
   rw[X31,Yf (show ¬ (j:Int)<(i:Int) by omega)];exact⟨.x1,rfl,⟨λh=>(by cases h),λ⟨j',h1,h2,_⟩=>by omega⟩⟩
 |succ m ih =>
  intro n j hm hn
  cases n with
  |zero=>omega
  |succ n =>
   rw[X31,Yt (show(j:Int)<(i:Int) by omega),cond_true,show X15 s (j:Int)=some (s[j]'om) by rw[X2a];exact Ye _,show X15 s (i:Int)=some (s[i]'hi) by rw[X2a];exact Ye _];simp only[Yo];by_cases he:s[j]=s[i]
   ·refine⟨.x0,?_,⟨λ_=>⟨j,Nat.le_refl _,by omega,by rw[Ye (show j<s.length by omega),Ye hi,he]⟩,λ_=>rfl⟩⟩;rw[show(s[j]==s[i])=true by simp[he]];rfl
   ·rw[show(s[j]==s[i])=false by simp[he],cond_false,Xz om om];obtain⟨o,h1,h2⟩:=ih n (j+1) om om;refine⟨o,by rw[show(j:Int)+1=((j+1:Nat):Int) by omega];exact h1,h2.trans ⟨λ⟨j',a,b,c⟩=>⟨j',by omega,b,c⟩,λ⟨j',a,b,c⟩=>?_⟩⟩;by_cases hj:j'=j
    ·subst hj;rw[Ye (show j'<s.length by omega),Ye hi] at c;exact absurd (Option.some.inj c) he
    ·exact⟨j',by omega,b,c⟩
theorem Xjd (s:List Int) (hs:s.length<=1000):∀ (xs:List Int) (k:Nat),s.drop k=xs->(s.take k).Nodup->X2j s xs k=some (if s.Nodup then .x0 else .x1)
 |[],k,h,hd=>by
  have:s.length<=k:=by
   have:=congrArg List.length h;simp at this;omega
  rw[List.take_of_length_le this] at hd;rw[X2j,if_pos hd]
 |x::xs,k,h,hd=>by
  have hk:s[k]?=some x:=by
   have:(s.drop k)[0]?=some x:=by rw[h];rfl
   simpa using this
  have hdr:s.drop (k+1)=xs:=by
   have:(s.drop k).drop 1=xs:=by rw[h];rfl
   rw[List.drop_drop] at this;exact this
  have hlt:=(Ys.1 hk).1;rw[X2j];obtain⟨o,h1,h2⟩:=Xpz s k hlt hs (k - 0) FU 0 rfl (by unfold FU;omega);rw[show((0:Nat):Int)=0 from rfl] at h1;rw[h1,Yo]
  cases o with
  |x0 =>
   obtain⟨j,_,hj,he⟩:=h2.1 rfl;have:¬ s.Nodup:=λhn=>by
    have:=(List.getElem?_inj (by omega:j<s.length) hn).1 he;omega
   rw[if_neg this]
  |x1 =>
   have hno:¬ ∃ j',0<=j'/\j'<k/\s[j']?=s[k]?:=λh=>by have:=h2.2 h;cases this
   refine Xjd s hs xs (k+1) hdr ?_;rw[List.take_add_one,hk];simp only[Option.toList_some];rw[List.nodup_append];refine⟨hd,by simp,λa ha b hb=>?_⟩;simp at hb;subst hb;intro e;subst e;obtain⟨j,hj,e⟩:=List.getElem_of_mem ha;simp at hj;refine hno ⟨j,Nat.zero_le _,by omega,?_⟩;rw[hk,<-e,List.getElem_take,Ye]
theorem Xk6 (s:List Int) (j:Bool):X82 s j=some (X7r s j):=by
 unfold X82 X7r Xto;by_cases h4:s.length>4
 ·rw[if_pos h4,Yt (show(s.length:Int)>4 by omega)];rfl
 ·rw[if_neg h4,Yf (show ¬ (s.length:Int)>4 by omega),cond_false,X26 om,Xje,Xjd s om s 0 rfl (by simp)];have e0:((s.length:Int)==0)=(s.length==0):=by rw[Bool.eq_iff_iff];simp
  have e2:((s.length:Int) != 2)=(s.length != 2):=by rw[Bool.eq_iff_iff];simp;omega
  rw[e0,e2];generalize (s.any λx=>decide (x<0)||decide (x>3))=b;generalize (s.length==0)=z;generalize (s.length != 2)=t;by_cases hn:s.Nodup<;>cases z<;>cases t<;>cases j<;>cases b<;>simp[hn]
instance (w:X1z):Decidable (okW w):=by unfold okW;infer_instance
theorem X006 (w:X1z) (hE:w.Every<=9223372036854775807 /\ -9223372036854775808<=w.Every):X7i w=some (decide (okW w))/\X1a w=some (if okW w then 0 else 8):=by
 by_cases hw:okW w
 ·refine⟨?_,by rw[if_pos hw];exact X4j hw⟩;rw[Yt hw];obtain⟨h1,h2,h3⟩:=hw;unfold X7i;rw[Yf (show ¬ w.Size<1 by omega),Yf (show ¬ w.Size>1073741824 by omega)];rcases h3 with ⟨k,a1,a2,a3⟩|⟨k|k,a⟩
  ·rw[show(w.Kind==2)=true by simp[k],Yt a1,Yt a2,Xz om om,Yt a3];rfl
  ·rw[show(w.Kind==2)=false by simp[k],show(w.Kind==1)=true by simp[k],show(w.Every==0)=true by simp[a]];rfl
  ·rw[show(w.Kind==2)=false by simp[k],show(w.Kind==3)=true by simp[k],show(w.Every==0)=true by simp[a],show(w.Kind==1)=false by simp[k]];rfl
 ·rw[if_neg hw,Yf hw];by_cases hs:w.Size<1\/w.Size>1073741824
  ·have:(bif decide (w.Size<1) then true else decide (w.Size>1073741824))=true:=by
    rcases hs with h|h
    ·rw[Yt h];rfl
    ·rw[Yf om,Yt h];rfl
   constructor
   ·unfold X7i;rw[this];rfl
   ·unfold X1a;rw[this];rfl
  ·have:(bif decide (w.Size<1) then true else decide (w.Size>1073741824))=false:=by
    rw[Yf om,Yf om];rfl
   unfold X7i X1a;rw[this,cond_false,cond_false];by_cases k2:w.Kind=2
   ·rw[show(w.Kind==2)=true by simp[k2],cond_true,cond_true];have:(bif (bif decide (w.Every >= 1) then decide (w.Every<=w.Size) else false) then decide (w.Size<=IntKind.i64.wrap (16*w.Every)) else false)=false:=by
     by_cases g1:w.Every >= 1
     ·by_cases g2:w.Every<=w.Size
      ·rw[Yt g1,Yt g2,Xz om om,Yf];rfl;intro g3;exact hw ⟨by omega,by omega,.inl ⟨k2,g1,g2,g3⟩⟩
      ·rw[Yt g1,Yf g2];rfl
     ·rw[Yf g1];rfl
    rw[this];exact⟨rfl,rfl⟩
   ·rw[show(w.Kind==2)=false by simp[k2],cond_false,cond_false];by_cases k1:w.Kind=1
    ·have:w.Every≠0:=λh=>hw ⟨by omega,by omega,.inr ⟨.inl k1,h⟩⟩;rw[show(w.Kind==1)=true by simp[k1],show(w.Every==0)=false by simp[this]];exact⟨rfl,rfl⟩
    ·by_cases k3:w.Kind=3
     ·have:w.Every≠0:=λh=>hw ⟨by omega,by omega,.inr ⟨.inr k3,h⟩⟩;rw[show(w.Kind==1)=false by simp[k1],show(w.Kind==3)=true by simp[k3],show(w.Every==0)=false by simp[this]];exact⟨rfl,rfl⟩
     ·rw[show(w.Kind==1)=false by simp[k1],show(w.Kind==3)=false by simp[k3]];exact⟨rfl,rfl⟩
end Go.D


namespace Go.D
def Xwt (q:X0g):Int :=
 if q.Agg<1\/q.Agg>4\/(q.Late≠1/\q.Late≠2) then 8
 else if q.Agg=1/\0<q.Arg.length then 8
 else if q.Agg≠1/\Xe5 q.Arg≠0 then Xe5 q.Arg
 else if 0<q.Where.length/\Xe5 q.Where≠0 then Xe5 q.Where
 else if X7r q.Sources q.Join≠0 then X7r q.Sources q.Join
 else if q.Join=true/\q.Window.Kind≠1 then 8
 else if okW q.Window then 0 else 8
structure QW (q:X0g):Prop where
 arg:∀ x∈q.Arg,0<=x.Kind
 wher:∀ x∈q.Where,0<=x.Kind
 ev:q.Window.Every<=9223372036854775807 /\ -9223372036854775808<=q.Window.Every
theorem Xwa {a b:Int} (h:¬ a=b):(a != b)=true:=by simp[h]
theorem lz {n:Nat} (h:0<n):((n:Int)==0)=false:=by simp;omega
theorem lz' {n:Nat} (h:¬ 0<n):((n:Int)==0)=true:=by simp;omega
theorem X05m {q:X0g} (hq:QW q):((X2f q.Sources q.Join).bind λv10=>bif (v10 != (0:Int)) then (some v10) else (bif (bif q.Join then (q.Window.Kind != (1:Int)) else false) then (some 8) else ((X1a q.Window).bind λv14=>some v14)))=some (if X7r q.Sources q.Join≠0 then X7r q.Sources q.Join
 else if q.Join=true/\q.Window.Kind≠1 then 8
 else if okW q.Window then 0 else 8):=by
 rw[Xhu,Yo,(X006 q.Window hq.ev).2];by_cases h:X7r q.Sources q.Join=0
 ·rw[h];by_cases hj:q.Join=true
  ·by_cases hk:q.Window.Kind=1
   ·simp[hj,hk]
   ·simp[hj,hk,Xwa hk]
  ·simp[hj]
 ·simp[h,Xwa h]
theorem Xkd {q:X0g} (hq:QW q):X8b q=some (Xwt q):=by
 unfold X8b Xwt;rw[X05m hq,Xcj hq.arg,Xcj hq.wher];generalize (if X7r q.Sources q.Join≠0 then X7r q.Sources q.Join else if q.Join=true/\q.Window.Kind≠1 then 8 else if okW q.Window then 0 else 8)=T;have e1:(bif (bif (decide (q.Agg<(1:Int))) then true else (decide (q.Agg>(4:Int)))) then true else (bif (q.Late != (1:Int)) then (q.Late != (2:Int)) else false))=decide (q.Agg<1\/q.Agg>4\/(q.Late≠1/\q.Late≠2)):=by
  rw[Bool.eq_iff_iff];by_cases h1:q.Agg<1<;>by_cases h2:q.Agg>4<;>by_cases h3:q.Late=1<;>by_cases h4:q.Late=2<;>simp[h1,h2,h3,h4]
 rw[e1];by_cases hA:(q.Agg<1\/q.Agg>4\/(q.Late≠1/\q.Late≠2))
 ·rw[if_pos hA,Yt hA];rfl
 ·rw[if_neg hA,Yf hA,cond_false];by_cases h1:q.Agg=1
  ·rw[show(q.Agg != 1)=false by simp[h1],cond_false];by_cases hl:0<q.Arg.length
   ·rw[Yt (show(q.Arg.length:Int)>0 by omega),if_pos ⟨h1,hl⟩];rfl
   ·rw[Yf (show ¬ (q.Arg.length:Int)>0 by omega),if_neg (λh=>hl h.2),if_neg (λh=>h.1 h1),cond_false];by_cases hw:0<q.Where.length
    ·rw[Yt (show(q.Where.length:Int)>0 by omega),cond_true,Yo];by_cases hz:Xe5 q.Where=0
     ·rw[hz];simp
     ·rw[if_pos ⟨hw,hz⟩,show(Xe5 q.Where != 0)=true by simp[hz]];rfl
    ·rw[Yf (show ¬ (q.Where.length:Int)>0 by omega),if_neg (λh=>hw h.1)];rfl
  ·rw[show(q.Agg != 1)=true by simp[h1],cond_true,if_neg (λh=>h1 h.1),Yo];by_cases hn:Xe5 q.Arg=0
   ·rw[hn,if_neg (λh=>h.2 rfl),show((0:Int) != 0)=false from rfl,cond_false];by_cases hw:0<q.Where.length
    ·rw[Yt (show(q.Where.length:Int)>0 by omega),cond_true,Yo];by_cases hz:Xe5 q.Where=0
     ·rw[hz];simp
     ·rw[if_pos ⟨hw,hz⟩,show(Xe5 q.Where != 0)=true by simp[hz]];rfl
    ·rw[Yf (show ¬ (q.Where.length:Int)>0 by omega),if_neg (λh=>hw h.1)];rfl
   ·rw[if_pos ⟨h1,hn⟩,show(Xe5 q.Arg != 0)=true by simp[hn]];rfl
theorem Xms {q:X0g} (hq:QW q):Xbe q=some (Xwt q):=by
 unfold Xbe Xwt;rw[Xci,Xci,Xk6,(X006 q.Window hq.ev).1];have e1:(bif (bif (bif (decide (q.Agg<(1:Int))) then true else (decide (q.Agg>(4:Int)))) then true else (decide (q.Late<(1:Int)))) then true else (decide (q.Late>(2:Int))))=decide (q.Agg<1\/q.Agg>4\/(q.Late≠1/\q.Late≠2)):=by
  rw[Bool.eq_iff_iff];have g:(q.Late≠1/\q.Late≠2)↔(q.Late<1\/q.Late>2):=by omega
  rw[show decide (q.Agg<1\/q.Agg>4\/(q.Late≠1/\q.Late≠2))=decide (q.Agg<1\/q.Agg>4\/(q.Late<1\/q.Late>2)) from decide_eq_decide.2 (by rw[g])];by_cases h1:q.Agg<1<;>by_cases h2:q.Agg>4<;>by_cases h3:q.Late<1<;>by_cases h4:q.Late>2<;>simp[h1,h2,h3,h4]
 rw[e1]
 have tl:((some (X7r q.Sources q.Join)).bind λv29=>bif (v29 != (0:Int)) then (some v29) else ((some (decide (okW q.Window))).bind λv32=>bif (bif (!v32) then true else (bif q.Join then (q.Window.Kind != (1:Int)) else false)) then (some 8) else (some 0)))=some (if X7r q.Sources q.Join≠0 then X7r q.Sources q.Join
 else if q.Join=true/\q.Window.Kind≠1 then 8
 else if okW q.Window then 0 else 8):=by
  simp only[Yo];by_cases h:X7r q.Sources q.Join=0
  ·rw[h];by_cases hk:q.Window.Kind=1
   ·by_cases hj:q.Join=true<;>by_cases ho:okW q.Window<;>simp[hj,hk,ho]
   ·by_cases hj:q.Join=true<;>by_cases ho:okW q.Window<;>simp[hj,hk,ho,Xwa hk]
  ·simp[h,Xwa h]
 rw[tl];generalize (if X7r q.Sources q.Join≠0 then X7r q.Sources q.Join else if q.Join=true/\q.Window.Kind≠1 then 8 else if okW q.Window then 0 else 8)=T;by_cases hA:(q.Agg<1\/q.Agg>4\/(q.Late≠1/\q.Late≠2))
 ·rw[if_pos hA,Yt hA];rfl
 ·rw[if_neg hA,Yf hA,cond_false];have wh:((bif (decide ((List.length q.Where:Int)>(0:Int))) then ((some (Xe5 q.Where)).bind λv23=>some (bif (decide ((List.length q.Where:Int)>(0:Int))) then (v23 != (0:Int)) else false)) else (some (bif (decide ((List.length q.Where:Int)>(0:Int))) then false else false)):Option (Bool)).bind λXq9=>bif Xq9 then ((some (Xe5 q.Where)).bind λv27=>some v27) else some T)=some (if 0<q.Where.length/\Xe5 q.Where≠0 then Xe5 q.Where else T):=by
   by_cases hw:0<q.Where.length
   ·rw[Yt (show(q.Where.length:Int)>0 by omega)];by_cases hz:Xe5 q.Where=0
    ·rw[hz];simp
    ·rw[if_pos ⟨hw,hz⟩];simp[hz,Xwa hz]
   ·rw[Yf (show ¬ (q.Where.length:Int)>0 by omega),if_neg (λh=>hw h.1)];rfl
  rw[wh];generalize (if 0<q.Where.length/\Xe5 q.Where≠0 then Xe5 q.Where else T)=T2;by_cases h1:q.Agg=1
  ·rw[show(q.Agg==1)=true by simp[h1],show(q.Agg != 1)=false by simp[h1]];by_cases hl:0<q.Arg.length
   ·rw[Yt (show(q.Arg.length:Int)>0 by omega),if_pos ⟨h1,hl⟩];rfl
   ·rw[Yf (show ¬ (q.Arg.length:Int)>0 by omega),if_neg (λh=>hl h.2),if_neg (λh=>h.1 h1)];rfl
  ·rw[show(q.Agg==1)=false by simp[h1],show(q.Agg != 1)=true by simp[h1],if_neg (λh=>h1 h.1)];by_cases hn:Xe5 q.Arg=0
   ·rw[hn,if_neg (λh=>h.2 rfl)];rfl
   ·rw[if_pos ⟨h1,hn⟩];simp[hn,Xwa hn]
def atOf (l:List X0f) (i:Int):Int:=match X15 l i with|some e=>e.At|none=>0
theorem Xog {l:List X0f} {b:Bool} (h:0<l.length):∃ e,X15 l (X39 l b).1=some e/\atOf l (X39 l b).1=e.At:=by
 have hr:0<=(X39 l b).1/\(X39 l b).1<l.length:=by
  have:(X39 l b).1=(kOf l).2.1:=by unfold X39;split<;>rfl
  rw[this];unfold kOf;split
  ·simp only;omega
  ·split
   ·rename_i j hj;have:=Xtj l l 0 j hj;simp only;omega
   ·simp only;omega
 obtain⟨e,he,_⟩:=Xqd hr.1 hr.2;exact⟨e,he,by unfold atOf;rw[he]⟩
def rt (q:X0g):Int×Int :=
 if 0<q.Arg.length/\(X39 q.Arg false).2≠0 then (atOf q.Arg (X39 q.Arg false).1,(X39 q.Arg false).2)
 else if 0<q.Where.length/\(X39 q.Where true).2≠0 then (atOf q.Where (X39 q.Where true).1,(X39 q.Where true).2)
 else (0,0)
theorem Xtk (q:X0g) (hw:0<q.Where.length):(bif ((X39 q.Where true).2 != (0:Int)) then ((X15 q.Where (X39 q.Where true).1).bind λe28=>some (e28.At,(X39 q.Where true).2)) else (some (0,0)))=some (if 0<q.Where.length/\(X39 q.Where true).2≠0 then (atOf q.Where (X39 q.Where true).1,(X39 q.Where true).2) else (0,0)):=by
 obtain⟨e,he,ha⟩:=Xog (b:=true) hw;by_cases hz:(X39 q.Where true).2=0
 ·rw[if_neg (λh=>h.2 hz),show((X39 q.Where true).2 != 0)=false by simp[hz]];rfl
 ·rw[if_pos ⟨hw,hz⟩,show((X39 q.Where true).2 != 0)=true by simp[hz],he,ha];rfl
theorem Xmq (q:X0g):Xbc q=some (rt q):=by
 unfold Xbc rt;rw[Xh7,Xh7];simp only[Yo];have wh:(bif (decide ((List.length q.Where:Int)>(0:Int))) then (bif ((X39 q.Where true).2 != (0:Int)) then ((X15 q.Where (X39 q.Where true).1).bind λe28=>some (e28.At,(X39 q.Where true).2)) else (some (0,0))) else (some (0,0)))=some (if 0<q.Where.length/\(X39 q.Where true).2≠0 then (atOf q.Where (X39 q.Where true).1,(X39 q.Where true).2) else (0,0)):=by
  by_cases hw:0<q.Where.length
  ·rw[Yt (show(q.Where.length:Int)>0 by omega),cond_true,Xtk q hw]
  ·rw[Yf (show ¬ (q.Where.length:Int)>0 by omega),if_neg (λh=>hw h.1)];rfl
 rw[wh];by_cases ha:0<q.Arg.length
 ·rw[Yt (show(q.Arg.length:Int)>0 by omega),cond_true];obtain⟨e,he,hat⟩:=Xog (b:=false) ha;by_cases hz:(X39 q.Arg false).2=0
  ·rw[if_neg (show ¬ (0<q.Arg.length/\(X39 q.Arg false).2≠0) from λh=>h.2 hz),show((X39 q.Arg false).2 != 0)=false by simp[hz],cond_false]
  ·rw[if_pos (show(0<q.Arg.length/\(X39 q.Arg false).2≠0) from⟨ha,hz⟩),show((X39 q.Arg false).2 != 0)=true by simp[hz],he,hat];rfl
 ·rw[Yf (show ¬ (q.Arg.length:Int)>0 by omega),if_neg (show ¬ (0<q.Arg.length/\(X39 q.Arg false).2≠0) from λh=>ha h.1),cond_false]
def Xq0 (q:X0g):Int×Int:=if Xwt q≠0 then (0,Xwt q) else rt q
theorem Xmr {q:X0g} (hq:QW q):Xbd q=some (Xq0 q):=by
 unfold Xbd Xq0;rw[Xms hq,Xmq,Yo];by_cases h:Xwt q=0
 ·rw[if_neg om,h];rfl
 ·rw[if_pos h,show(Xwt q != 0)=true by simp[h]];rfl
theorem Xm5 {q:X0g} (hq:QW q):X9m q=some (Xq0 q):=by
 unfold X9m Xq0;rw[Xkd hq,Yo];by_cases h:Xwt q=0
 ·rw[if_neg om,h,show((0:Int) != 0)=false from rfl,cond_false];unfold Xbm Xc6;rw[Xhg hq.arg,Xhg hq.wher];simp only[Yo];unfold rt;have wh:(bif ((List.length q.Where:Int)==(0:Int)) then (some (0,0)) else (bif ((X39 q.Where true).2 != (0:Int)) then ((X15 q.Where (X39 q.Where true).1).bind λe28=>some (e28.At,(X39 q.Where true).2)) else (some (0,0))))=some (if 0<q.Where.length/\(X39 q.Where true).2≠0 then (atOf q.Where (X39 q.Where true).1,(X39 q.Where true).2) else (0,0)):=by
   by_cases hw:0<q.Where.length
   ·rw[lz hw,cond_false,Xtk q hw]
   ·rw[lz' hw,if_neg (λh=>hw h.1)];rfl
  rw[wh];by_cases ha:0<q.Arg.length
  ·rw[lz ha,cond_false];obtain⟨e,he,hat⟩:=Xog (b:=false) ha;by_cases hz:(X39 q.Arg false).2=0
   ·rw[if_neg (show ¬ (0<q.Arg.length/\(X39 q.Arg false).2≠0) from λh=>h.2 hz),show((X39 q.Arg false).2 != 0)=false by simp[hz],cond_false];rfl
   ·rw[if_pos (show(0<q.Arg.length/\(X39 q.Arg false).2≠0) from⟨ha,hz⟩),show((X39 q.Arg false).2 != 0)=true by simp[hz],he,hat];rfl
  ·rw[lz' ha,if_neg (show ¬ (0<q.Arg.length/\(X39 q.Arg false).2≠0) from λh=>ha h.1)];rfl
 ·rw[if_pos h,show(Xwt q != 0)=true by simp[h]];rfl
end Go.D


namespace Go.D
def Xe7 (p:Pu) (s:Xy):X1:=⟨p.1.Key,s,⟨if p.2=0 then ofA p.1.Value else Xhw,if p.2=1 then ofA p.1.Value else Xhw⟩⟩
end Go.D


namespace Go.D
theorem Xt3 (p:Pu) (s:Xy):okA (Xe7 p s).Values.e0/\okA (Xe7 p s).Values.e1/\(Xe7 p s).Values.e0.Count<=1/\(Xe7 p s).Values.e1.Count<=1:=by
 unfold Xe7;dsimp only;refine⟨?_,?_,?_,?_⟩
 ·split
  ·exact X057 _
  ·exact Xth
 ·split
  ·exact X057 _
  ·exact Xth
 ·split
  ·exact Int.le_refl _
  ·show(0:Int)<=1;decide
 ·split
  ·exact Int.le_refl _
  ·show(0:Int)<=1;decide
end Go.D


namespace Go.D
def Xki (x y:X1):Prop:=y.Key=x.Key/\y.Span.Start<x.Span.End/\x.Span.Start<y.Span.End
instance (x y:X1):Decidable (Xki x y):=by unfold Xki;infer_instance
def X33 (x y:X1):X1:=⟨x.Key,⟨if y.Span.Start<x.Span.Start then y.Span.Start else x.Span.Start,if y.Span.End>x.Span.End then y.Span.End else x.Span.End⟩,⟨X36 x.Values.e0 y.Values.e0,X36 x.Values.e1 y.Values.e1⟩⟩
end Go.D


namespace Go.D
theorem X040 (Y:List X1) (x:X1):∀ (xs:List X1) (k:Nat),(Xj Y x xs k=some .x0/\∀ y∈xs,¬ Xki x y) \/
  ∃ (i:Nat) (y:X1),Xj Y x xs k=some (.x1 ((k+i:Nat):Int))/\xs[i]?=some y/\Xki x y:=by
 intro xs
 induction xs with
 |nil=>intro k;exact .inl ⟨rfl,λy hy=>by cases hy⟩
 |cons z xs ih =>
  intro k;rw[Xj];by_cases h:Xki x z
  ·right;have:(bif (bif (z.Key==x.Key) then (decide (z.Span.Start<x.Span.End)) else false) then (decide (x.Span.Start<z.Span.End)) else false)=true:=by
    obtain⟨h1,h2,h3⟩:=h;simp[h1,h2,h3]
   rw[this,cond_true];exact⟨0,z,rfl,rfl,h⟩
  ·have:(bif (bif (z.Key==x.Key) then (decide (z.Span.Start<x.Span.End)) else false) then (decide (x.Span.Start<z.Span.End)) else false)=false:=by
    rw[<-Bool.not_eq_true];intro hc;apply h;by_cases h1:z.Key=x.Key
    ·by_cases h2:z.Span.Start<x.Span.End
     ·by_cases h3:x.Span.Start<z.Span.End
      ·exact⟨h1,h2,h3⟩
      ·simp[h1,h2,h3] at hc
     ·simp[h1,h2] at hc
    ·have:(z.Key==x.Key)=false:=by simp[h1]
     simp[this] at hc
   rw[this,cond_false];rcases ih (k+1) with ⟨h1,h2⟩|⟨i,y,h1,h2,h3⟩
   ·exact .inl ⟨h1,λy hy=>(List.mem_cons.1 hy).elim (λe=>e▸h) (h2 y)⟩
   ·exact .inr ⟨i+1,y,by rw[h1];congr 2;omega,by simpa using h2,h3⟩
end Go.D


namespace Go.D
structure RQ (q:X0g):Prop where
 w:QW q
 ok:(Xq0 q).2=0
theorem RQ.cz {q:X0g} (h:RQ q):Xwt q=0:=by
 have:=h.ok;unfold Xq0 at this;split at this
 ·rename_i h1;exact absurd this h1
 ·rename_i h1;omega
theorem RQ.facts {q:X0g} (h:RQ q):(1<=q.Agg/\q.Agg<=4/\(q.Late=1\/q.Late=2))/\(q.Agg≠1->Xe5 q.Arg=0)/\(0<q.Where.length->Xe5 q.Where=0)/\X7r q.Sources q.Join=0/\okW q.Window/\(q.Join=true->q.Window.Kind=1):=by
 have hc:=h.cz;unfold Xwt at hc;split at hc
 ·cases hc
 ·rename_i h1;split at hc
  ·cases hc
  ·split at hc
   ·rename_i h2;exact absurd hc h2.2
   ·rename_i h2;split at hc
    ·rename_i h3;exact absurd hc h3.2
    ·rename_i h3;split at hc
     ·rename_i h4;exact absurd hc h4
     ·rename_i h4;split at hc
      ·cases hc
      ·rename_i h5;split at hc
       ·rename_i h6;refine⟨by omega,λha=>?_,λhw=>?_,by omega,h6,λhj=>?_⟩
        ·by_cases hz:Xe5 q.Arg=0
         ·exact hz
         ·exact absurd ⟨ha,hz⟩ h2
        ·by_cases hz:Xe5 q.Where=0
         ·exact hz
         ·exact absurd ⟨hw,hz⟩ h3
        ·by_cases hk:q.Window.Kind=1
         ·exact hk
         ·exact absurd ⟨hj,hk⟩ h5
       ·cases hc
theorem RQ.src {q:X0g} (h:RQ q):1<=q.Sources.length/\q.Sources.length<=4/\(q.Join=true->q.Sources.length=2):=by
 have hs:=h.facts.2.2.2.1;unfold X7r at hs;split at hs
 ·cases hs
 ·split at hs
  ·cases hs
  ·rename_i h1 h2;unfold Xto at h2;have h2:((q.Sources.length==0||(q.Join&&q.Sources.length != 2))||q.Sources.any λx=>decide (x<0)||decide (x>3))=false:=by simpa using h2
   rw[Bool.or_eq_false_iff,Bool.or_eq_false_iff] at h2;have a1:q.Sources.length≠0:=by simpa using h2.1.1
   refine⟨by omega,by omega,λhj=>?_⟩;have:=h2.1.2;rw[hj] at this;simpa using this
def valA (agg:Int) (a:Xm):Int:=if agg=1 then a.Count else if agg=2 then a.Sum else if agg=3 then a.Min else a.Max
theorem Xf6 {agg:Int} {a:Xm} (h1:1<=agg) (h2:agg<=4) (ha:okA a):X7m agg a=some (if a.Count=0 then (0,6) else (valA agg a,0)):=by
 unfold X7m;rw[Yf (show ¬ agg<1 by omega),Yf (show ¬ agg>4 by omega),X2g ha];simp only[cond_false,Yo,bne_self_eq_false];by_cases hc:a.Count=0
 ·rw[if_pos hc,hc];rfl
 ·rw[if_neg hc,show(a.Count==0)=false by simp[hc]];unfold valA;rcases(by omega:agg=1\/agg=2\/agg=3\/agg=4) with h|h|h|h<;>subst h<;>rfl
def live (q:X0g) (e:X1):Bool:=decide (e.Values.e0.Count≠0)&&(!q.Join||decide (e.Values.e1.Count≠0))
def rowE (q:X0g) (e:X1):X1b:=⟨e.Key,e.Span,⟨valA q.Agg e.Values.e0,if q.Join then valA q.Agg e.Values.e1 else 0⟩⟩
def X0e4 (q:X0g) (es:List X1):List X1b:=(es.filter (live q)).map (rowE q)
end Go.D


namespace Go.D
def isT (t:Int):Bool:=decide (-1099511627776<=t)&&decide (t<=1099511627776)
def Xmz (t:Int):Bool:=isT t||(t==9223372036854775807)
def Xob:Xg:=⟨0,0,0⟩
def row0:X1b:=⟨0,⟨0,0⟩,⟨0,0⟩⟩
def Xcw (x:X1b):Bool:=decide (-2199023255552<=x.Span.Start)&&decide (x.Span.Start<x.Span.End)&&decide (x.Span.End<=2199023255552)
def mOK (m:Xp):Bool :=
 if m.Kind=1\/m.Kind=4 then isT m.Record.Time&&decide (m=⟨m.Kind,m.Record,0,row0⟩)
 else if m.Kind=2 then Xmz m.Time&&decide (m=⟨m.Kind,Xob,m.Time,row0⟩)
 else if m.Kind=3 then Xcw m.Row&&decide (m=⟨m.Kind,Xob,0,m.Row⟩)
 else false
theorem Xbq (x y:Xp):X4m x y=decide (x=y):=by
 obtain⟨k,⟨a,b,c⟩,t,⟨d,⟨e,f⟩,⟨g,h⟩⟩⟩:=x;obtain⟨k',⟨a',b',c'⟩,t',⟨d',⟨e',f'⟩,⟨g',h'⟩⟩⟩:=y;rw[Bool.eq_iff_iff];simp[X4m,X27,X6u,X1e,Xhs,and_assoc]
theorem X94 (t:Int):X4a t=some (isT t):=by
 unfold X4a isT;cases h1:decide (t >= -1099511627776)<;>simp_all
theorem Xd2 (t:Int):X5a t=some (Xmz t):=by
 unfold X5a Xmz;rw[X94,Yo];cases isT t<;>simp
theorem X2k (m:Xp):X2r m=some (if mOK m then 0 else 8):=by
 have fin:∀ (b:Bool) (w:Xp),(bif (bif (!b) then true else (!(X4m m w))) then some (8:Int) else some 0)=some (if (b&&decide (m=w)) then 0 else 8):=by
  intro b w;rw[Xbq];cases b<;>cases decide (m=w)<;>rfl
 unfold X2r mOK;rw[X94,Xd2];by_cases h1:m.Kind=1
 ·rw[if_pos (show m.Kind=1\/m.Kind=4 from .inl h1),show(m.Kind==(1:Int))=true by simp[h1]];simp only[cond_true,Yo];exact fin _ _
 ·rw[show(m.Kind==(1:Int))=false by simp[h1]];by_cases h4:m.Kind=4
  ·rw[if_pos (show m.Kind=1\/m.Kind=4 from .inr h4),show(m.Kind==(4:Int))=true by simp[h4]];simp only[cond_true,cond_false,Yo];exact fin _ _
  ·rw[if_neg (show ¬ (m.Kind=1\/m.Kind=4) by simp[h1,h4]),show(m.Kind==(4:Int))=false by simp[h4]];by_cases h2:m.Kind=2
   ·rw[if_pos h2,show(m.Kind==(2:Int))=true by simp[h2]];simp only[cond_true,cond_false,Yo];exact fin _ _
   ·rw[if_neg h2,show(m.Kind==(2:Int))=false by simp[h2]];by_cases h3:m.Kind=3
    ·rw[if_pos h3,show(m.Kind==(3:Int))=true by simp[h3]];simp only[cond_true,cond_false,Yo];rw[fin];have:Xcw m.Row=(bif (bif (decide ((-2199023255552:Int)<=m.Row.Span.Start)) then (decide (m.Row.Span.Start<m.Row.Span.End)) else false) then (decide (m.Row.Span.End<=(2199023255552:Int))) else false):=by
      unfold Xcw;cases decide ((-2199023255552:Int)<=m.Row.Span.Start)<;>cases decide (m.Row.Span.Start<m.Row.Span.End)<;>rfl
     rw[this];rfl
    ·rw[if_neg h3,show(m.Kind==(3:Int))=false by simp[h3]];simp only[cond_false,Yo];rw[fin];rfl
def sOK (s:X09):Bool:=decide (0<=s.Out)&&decide (s.Out<3)&&mOK s.Message
theorem Xdw (Y:List X09):∀ (xs:List X09) (k:Nat),X4p Y xs k=some (if xs.all sOK then .x0 else .x1)
 |[],k=>rfl
 |x::xs,k=>by
  rw[X4p,X2k,List.all_cons,Xdw Y xs (k+1)];unfold sOK;by_cases h1:x.Out<0
  ·rw[Yt h1,Yf (show ¬ 0<=x.Out by omega)];rfl
  ·rw[Yf h1,Yt (show 0<=x.Out by omega)];by_cases h2:x.Out >= 3
   ·rw[Yt h2,Yf (show ¬ x.Out<3 by omega)];rfl
   ·rw[Yf h2,Yt (show x.Out<3 by omega)];cases mOK x.Message<;>rfl
theorem Xgr {l:List X09} (h:l.length<=140737488355328):Xa9 l=some (l.all sOK):=by
 unfold Xa9;rw[X26 h,Yo,Xdw];cases l.all sOK<;>rfl
instance (a:Xm):Decidable (okA a):=by unfold okA;infer_instance
instance (x:X1):Decidable (okE x):=by unfold okE;infer_instance
instance (x y:X1):Decidable (ltE x y):=by unfold ltE;infer_instance
theorem Xf8 (a:Xm):X2l a=some (if okA a then 0 else 8):=by
 by_cases h:okA a
 ·rw[if_pos h];exact X2g h
 ·rw[if_neg h];unfold okA at h;unfold X2l;rw[Xp4];by_cases h0:a.Count=0
  ·have:¬ a=⟨0,0,0,0⟩:=λe=>h (.inl ⟨h0,e⟩);simp[h0,this]
  ·by_cases h1:a.Count=1
   ·have:¬ (a.Sum=a.Min/\a.Sum=a.Max):=λe=>h (.inr (.inl ⟨h1,e⟩));rw[show(a.Count==(0:Int))=false by simpa using h0,show(a.Count==(1:Int))=true by simpa using h1];simp only[cond_true,cond_false,Yo];by_cases e1:a.Sum=a.Min
    ·have e2:¬ a.Sum=a.Max:=λe=>this ⟨e1,e⟩;rw[show(a.Sum==a.Min)=true by simpa using e1,show(a.Sum==a.Max)=false by simpa using e2];rfl
    ·rw[show(a.Sum==a.Min)=false by simpa using e1];rfl
   ·rw[show(a.Count==(0:Int))=false by simpa using h0,show(a.Count==(1:Int))=false by simpa using h1];simp only[cond_false];by_cases h2:1<a.Count
    ·by_cases h3:a.Count<=1073741824
     ·have:¬ a.Min<=a.Max:=λe=>h (.inr (.inr ⟨h2,h3,e⟩));rw[Yt (show a.Count>1 from h2),Yt h3,Yf this];rfl
     ·rw[Yt (show a.Count>1 from h2),Yf h3];rfl
    ·rw[Yf (show ¬ a.Count>1 from h2)];rfl
theorem Xmk (x:X1):X6x x=some (decide (okE x)):=by
 by_cases h:okE x
 ·rw[Yt h];exact Xce h
 ·rw[Yf h];unfold okE at h;unfold X6x;rw[Xf8,Xf8];by_cases h1:x.Span.Start < -1100585369600
  ·rw[Yt h1];rfl
  ·rw[Yf h1];by_cases h2:x.Span.End<=x.Span.Start
   ·rw[Yt h2];rfl
   ·rw[Yf h2];by_cases h3:x.Span.End>1100585369600
    ·rw[Yt h3];rfl
    ·rw[Yf h3];simp only[cond_false,Yo];by_cases a0:okA x.Values.e0
     ·by_cases a1:okA x.Values.e1
      ·have c0:=X05 a0;have c1:=X05 a1;have:¬ 0<x.Values.e0.Count+x.Values.e1.Count:=λe=>h ⟨by omega,by omega,by omega,a0,a1,e⟩;rw[if_pos a0,if_pos a1,Xz om om,Yf (show ¬ x.Values.e0.Count+x.Values.e1.Count>0 from this)];rfl
      ·rw[if_pos a0,if_neg a1];rfl
     ·rw[if_neg a0];rfl
def bhd:Option X1->X1->Bool
 |none,_=>true
 |some e,x=>decide (ltE e x)
def Xlt:Option X1->List X1->Bool
 |_,[]=>true
 |p,x::xs=>decide (okE x)&&bhd p x&&Xlt (some x) xs
def Xo6 (l:List X1):Bool:=Xlt none l
theorem Xqc:∀ (l:List X1) (p:Option X1),Xlt p l=true↔(∀ x∈l,okE x)/\l.Pairwise ltE/\(∀ e,p=some e->∀ x∈l,ltE e x)
 |[],p=>by simp[Xlt]
 |x::xs,p=>by
  rw[Xlt,Bool.and_eq_true,Bool.and_eq_true,Xqc xs (some x),List.pairwise_cons];constructor
  ·rintro⟨⟨h1,h2⟩,h3,h4,h5⟩;have h5':=h5 x rfl;refine⟨λy hy=>?_,⟨h5',h4⟩,λe he y hy=>?_⟩
   ·rcases List.mem_cons.1 hy with rfl|hy
    ·simpa using h1
    ·exact h3 y hy
   ·subst he;have h2':ltE e x:=by simpa[bhd] using h2
    rcases List.mem_cons.1 hy with rfl|hy
    ·exact h2'
    ·exact Xd4 h2' (h5' y hy)
  ·rintro⟨h1,⟨h2,h3⟩,h4⟩;refine⟨⟨by simpa using h1 x List.mem_cons_self,?_⟩,λy hy=>h1 y (List.mem_cons_of_mem _ hy),h3,λe he=>by cases he;exact h2⟩
   cases p with
   |none=>rfl
   |some e=>simpa[bhd] using h4 e rfl x List.mem_cons_self
theorem Xc1 {l:List X1}:Xo6 l=true↔(∀ x∈l,okE x)/\l.Pairwise ltE:=by
 unfold Xo6;rw[Xqc];constructor
 ·rintro⟨h1,h2,_⟩;exact⟨h1,h2⟩
 ·rintro⟨h1,h2⟩;exact⟨h1,h2,λe he=>by cases he⟩
theorem Xct (l:List X1) (hn:l.length<=1000000):∀ (xs:List X1) (k:Nat),l.drop k=xs->X2q l xs k=some (if Xlt (if k=0 then none else l[k - 1]?) xs then .x0 else .x1)
 |[],k,_=>rfl
 |x::xs,k,h=>by
  have hk:l[k]?=some x:=by
   have:=congrArg (λz=>z[0]?) h;simpa using this
  have hlt:k<l.length:=(Ys.1 hk).1;have hd:l.drop (k+1)=xs:=by
   have:=congrArg List.tail h;simpa using this
  have ih:=Xct l hn xs (k+1) hd;rw[if_neg (Nat.succ_ne_zero k),show k+1 - 1=k from rfl,hk] at ih;rw[X2q,Xmk,Yo,Xlt];by_cases ho:okE x
  ·rw[Yt ho]
   cases k with
   |zero =>
    rw[Yf om,if_pos rfl];simp only[Bool.not_true,cond_false,Yo,Bool.true_and];exact ih
   |succ k =>
    have hp:(l[k]'om)=(l[k]'om):=rfl;rw[Yt (show((k+1:Nat):Int)>0 by omega),if_neg (Nat.succ_ne_zero k),Xz om om,show(((k+1:Nat):Int) - 1)=(k:Int) by omega,X2a,show k+1 - 1=k from rfl,Ye (show k<l.length by omega)];simp only[Bool.not_true,cond_false,cond_true,Yo,X9b,Bool.true_and];by_cases hl:ltE (l[k]'om) x
    ·rw[show bhd (some (l[k]'om)) x=true from Yt hl,show decide (Xwm (l[k]'om) x >= 0)=false from Yf λe=>Xrk.1 e hl];simp only[cond_false,Bool.true_and];exact ih
    ·rw[show bhd (some (l[k]'om)) x=false from Yf hl,show decide (Xwm (l[k]'om) x >= 0)=true from Yt (Xrk.2 hl)];rfl
  ·rw[Yf ho];rfl
theorem X6c (l:List X1):X3x l=some (if l.length>4000 then 4 else if Xo6 l then 0 else 8):=by
 unfold X3x;by_cases h:l.length>4000
 ·rw[Yt om,if_pos h];rfl
 ·rw[Yf om,if_neg h,cond_false,X26 om,Yo,Xct l om l 0 rfl,if_pos rfl];unfold Xo6;cases Xlt none l<;>rfl
def mkL (t:Int):Bool:=(t == -9223372036854775808)||Xmz t
def Xk8 (l:List Int):Bool:=decide (1<=l.length)&&decide (l.length<=4)&&l.all mkL
theorem Xzj (t:Int):mOK ⟨2,⟨0,0,0⟩,t,⟨0,⟨0,0⟩,⟨0,0⟩⟩⟩=Xmz t:=by
 unfold mOK;simp[Xob,row0]
theorem Xet (t:Int):X7l t=some (Xmz t):=by
 unfold X7l;rw[X2k,Xzj];cases Xmz t<;>rfl
theorem Xmj (t:Int):Xas t=some (mkL t):=by
 unfold Xas mkL;rw[X2k,Xzj];cases(t == -9223372036854775808)<;>cases Xmz t<;>rfl
theorem Xd3 (Y:List Int):∀ (xs:List Int) (k:Nat),X4b Y xs k=some (if xs.all mkL then .x0 else .x1)
 |[],k=>rfl
 |x::xs,k=>by
  rw[X4b,Xet,List.all_cons,Xd3 Y xs (k+1)];unfold mkL;by_cases h:x = -9223372036854775808
  ·rw[show(x != -9223372036854775808)=false by simp[h],show(x == -9223372036854775808)=true by simp[h]];rfl
  ·rw[show(x != -9223372036854775808)=true by simp[h],show(x == -9223372036854775808)=false by simp[h]];cases Xmz x<;>rfl
theorem Xmw (l:List Int):Xbk l=some (if Xk8 l then 0 else 8):=by
 unfold Xbk Xk8;by_cases h0:l.length=0
 ·rw[show((l.length:Int)==0)=true by simp[h0],Yf (show ¬ 1<=l.length by omega)];rfl
 ·rw[show((l.length:Int)==0)=false by simp;intro e;simp[e] at h0,Yt (show 1<=l.length by omega)];by_cases h4:l.length>4
  ·rw[Yt (show(l.length:Int)>4 by omega),Yf (show ¬ l.length<=4 by omega)];rfl
  ·rw[Yf (show ¬ (l.length:Int)>4 by omega),Yt (show l.length<=4 by omega)];simp only[cond_false,Yo];rw[X26 om,Yo,Xd3];cases l.all mkL<;>rfl
def minF (l:List Int) (m:Int):Int:=l.foldl (λy e=>if e<y then e else y) m
def Xlf:List Int->Int
 |[]=>0
 |x::xs=>minF xs x
theorem X09l (l:List Int) (hl:l.length<=1000):∀ (m n k:Nat) (y:Int),m=l.length - k->m<n->k<=l.length->X0y l n y (k:Int)=some (.x0 (minF (l.drop k) y)):=by
 intro m
 induction m with
 |zero =>
  intro n k y hm hn hk;obtain⟨n,rfl⟩:∃ q,n=q+1:=⟨n - 1,by omega⟩;rw[X0y,Yf om,List.drop_eq_nil_of_le om];rfl
 |succ m ih =>
  intro n k y hm hn hk;obtain⟨n,rfl⟩:∃ q,n=q+1:=⟨n - 1,by omega⟩;have hlt:k<l.length:=by omega
  rw[X0y,Yt om,cond_true,X2a,Ye hlt,Yo,Xz om om,show((k:Int)+1)=((k+1:Nat):Int) by omega,ih n (k+1) _ om om om,List.drop_eq_getElem_cons hlt];rfl
theorem Xgw {l:List Int} (h1:1<=l.length) (h2:l.length<=1000):X22 l=some (Xlf l):=by
 unfold X22;rw[Yf om,cond_false]
 cases l with
 |nil=>simp at h1
 |cons x xs =>
  rw[show X15 (x::xs) 0=some x from X2a (x::xs) 0,Yo];have:=X09l (x::xs) h2 xs.length FU 1 x (by simp) (by simp at h2;unfold FU;omega) (by simp);rw[show((1:Nat):Int)=1 from rfl] at this;rw[this];rfl
theorem Xhb {l:List Int} (h:Xk8 l=true):1<=l.length/\l.length<=4/\l.all mkL=true:=by
 unfold Xk8 at h;simp only[Bool.and_eq_true,decide_eq_true_eq] at h;exact⟨h.1.1,h.1.2,h.2⟩
theorem Xg1 (l:List Int):X74 l=some (if Xk8 l then (Xlf l,0) else (0,8)):=by
 unfold X74;rw[Xmw,Yo]
 cases h:Xk8 l with
 |false=>rfl
 |true =>
  obtain⟨h1,h2,_⟩:=Xhb h;rw[Xgw h1 om];rfl
def X28 (l:List Int) (i:Nat) (t:Int):List Int:=l.set i (if t>l.getD i 0 then t else l.getD i 0)
theorem Xmv {l:List Int} (h:Xk8 l=true) {i:Nat} (hi:i<l.length) {t:Int} (ht:Xmz t=true):X95 l (i:Int) t=some (X28 l i t,decide (Xlf (X28 l i t)>Xlf l),0):=by
 obtain⟨h1,h2,_⟩:=Xhb h;unfold X95;rw[Xg1,h,Yo];simp only[if_true,bne_self_eq_false,cond_false];rw[Yf (show ¬ (i:Int)<0 by omega),Yf (show ¬ (i:Int) >= (l.length:Int) by omega),Xet,ht];simp only[cond_false,Yo,Bool.not_true];have hc:(bif l.isEmpty then some l else (X1f l.length 8).bind λ_=>some l:Option (List Int))=some l:=by
  rw[X1j om];cases l.isEmpty<;>rfl
 rw[hc,Yo,X2a,Ye hi,Yo,Int.toNat_natCast];have e:l.set i (if t>l[i] then t else l[i])=X28 l i t:=by
  unfold X28;rw[List.getD_eq_getElem?_getD,Ye hi];rfl
 rw[e,Xgw (by unfold X28;simp;omega) (by unfold X28;simp;omega)];rfl
def Xbs (k:Int):Int×Int×Bool×Bool×Bool×Bool :=
 if k=1 then (0,0,false,true,false,false) else if k=2 then (1,1,false,false,false,false) else if k=3 then (0,0,false,false,false,false)
 else if k=4 then (1,4,true,false,false,false) else if k=5 then (2,2,true,false,false,false) else if k=6 then (0,0,false,false,true,false)
 else if k=7 then (0,0,false,false,false,true) else (1,0,false,false,false,false)
theorem Xmi (k:Int):Xar k=some (Xbs k):=by
 unfold Xar Xbs;by_cases h1:k=1
 ·subst h1;rfl
 by_cases h2:k=2
 ·subst h2;rfl
 by_cases h3:k=3
 ·subst h3;rfl
 by_cases h4:k=4
 ·subst h4;rfl
 by_cases h5:k=5
 ·subst h5;rfl
 by_cases h6:k=6
 ·subst h6;rfl
 by_cases h7:k=7
 ·subst h7;rfl
 have b:∀ z:Int,¬ k=z->(k==z)=false:=λz h=>by simpa using h
 rw[b _ h1,b _ h2,b _ h3,b _ h4,b _ h5,b _ h6,b _ h7,if_neg h1,if_neg h2,if_neg h3,if_neg h4,if_neg h5,if_neg h6,if_neg h7];rfl
def X7t (b:Bool) (n:Int):Int:=if b then n else 0
theorem Xpq (b:Bool) (n:Int):Xaq b n=some (X7t b n):=by cases b<;>rfl
def Xgs (t:Xo):Bool :=
 decide ((t.Pending.length:Int)<=4000)&&decide ((t.Marks.length:Int) >= (Xbs t.Op.Kind).1)&&decide ((t.Marks.length:Int)<=(Xbs t.Op.Kind).2.1)&&decide ((t.Store.length:Int)<=X7t (Xbs t.Op.Kind).2.2.1 4000)
 && decide ((t.Events.length:Int)<=X7t (Xbs t.Op.Kind).2.2.2.1 60)&&decide ((t.Rows.length:Int)<=X7t (Xbs t.Op.Kind).2.2.2.2.1 4000)&&decide ((t.Late.length:Int)<=X7t (Xbs t.Op.Kind).2.2.2.2.2 4000)
def Xux (t:Xo):Bool:=decide (t.Turn >= 0)&&decide (t.Turn<20)&&decide (t.Op.N >= 0)&&decide (t.Op.N<4)
def Xui (e:X01):Bool:=if e.Mark then Xmz e.Time&&decide (e.Record=Xob) else decide (e.Time=0)&&isT e.Record.Time
def Xps (t:Xo):Bool:=t.Marks.all mkL&&t.Events.all Xui&&t.Rows.all Xcw&&t.Late.all (λr=>isT r.Time)&&t.Store.all (λx=>decide (t.Op.Kind≠4)||(x.Values.e1.Count==0))
def tOK (t:Xo):Bool:=Xux t&&Xgs t&&t.Pending.all sOK&&Xo6 t.Store&&Xps t
theorem Xf4 (x y:Xg):X27 x y=decide (x=y):=by
 obtain⟨a,b,c⟩:=x;obtain⟨a',b',c'⟩:=y;rw[Bool.eq_iff_iff];simp[X27,and_assoc]
theorem Xk9 (e:X01):X84 e=some (if Xui e then 0 else 8):=by
 unfold X84 Xfi Xui;rw[Xd2,X94,Xf4]
 cases e.Mark with
 |true =>
  simp only[cond_true,Yo,if_true];show _=some (if (Xmz e.Time&&decide (e.Record=⟨0,0,0⟩))=true then 0 else 8);cases Xmz e.Time<;>cases decide (e.Record=⟨0,0,0⟩)<;>rfl
 |false =>
  simp only[cond_false,Yo,Bool.false_eq_true,if_false];by_cases h:e.Time=0
  ·rw[show(e.Time != 0)=false by simp[h],Yt h];cases isT e.Record.Time<;>rfl
  ·rw[show(e.Time != 0)=true by simp[h],Yf h];rfl
theorem X9s (t:Xo) (Y:List Int):∀ (xs:List Int) (k:Nat) (b:Bool),X3q t Y xs k b=some (.x0 (b&&xs.all mkL))
 |[],k,b=>by simp[X3q]
 |x::xs,k,b=>by
  rw[X3q,Xmj,List.all_cons]
  cases b with
  |false=>simp only[cond_false,Yo];rw[X9s t Y xs (k+1)];rfl
  |true=>simp only[cond_true,Yo];rw[X9s t Y xs (k+1)];rfl
theorem X9r (t:Xo) (Y:List X01):∀ (xs:List X01) (k:Nat) (b:Bool),X3p t Y xs k b=some (.x0 (b&&xs.all Xui))
 |[],k,b=>by simp[X3p]
 |x::xs,k,b=>by
  rw[X3p,Xk9,List.all_cons]
  cases b with
  |false=>simp only[cond_false,Yo];rw[X9r t Y xs (k+1)];rfl
  |true=>simp only[cond_true,Yo];rw[X9r t Y xs (k+1)];cases Xui x<;>rfl
theorem Xtq (x:X1b):mOK ⟨3,⟨0,0,0⟩,0,x⟩=Xcw x:=by
 unfold mOK;simp[Xob]
theorem Xyt (x:Xg):mOK ⟨4,x,0,⟨0,⟨0,0⟩,⟨0,0⟩⟩⟩=isT x.Time:=by
 unfold mOK;simp[row0]
theorem X9q (t:Xo) (Y:List X1b):∀ (xs:List X1b) (k:Nat) (b:Bool),X3o t Y xs k b=some (.x0 (b&&xs.all Xcw))
 |[],k,b=>by simp[X3o]
 |x::xs,k,b=>by
  rw[X3o,X2k,Xtq,List.all_cons]
  cases b with
  |false=>simp only[cond_false,Yo];rw[X9q t Y xs (k+1)];rfl
  |true=>simp only[cond_true,Yo];rw[X9q t Y xs (k+1)];cases Xcw x<;>rfl
theorem X9p (t:Xo) (Y:List Xg):∀ (xs:List Xg) (k:Nat) (b:Bool),X3n t Y xs k b=some (.x0 (b&&xs.all λr=>isT r.Time))
 |[],k,b=>by simp[X3n]
 |x::xs,k,b=>by
  rw[X3n,X2k,Xyt,List.all_cons]
  cases b with
  |false=>simp only[cond_false,Yo];rw[X9p t Y xs (k+1)];rfl
  |true=>simp only[cond_true,Yo];rw[X9p t Y xs (k+1)];cases isT x.Time<;>rfl
theorem X6j (t:Xo) (Y:List X1):∀ (xs:List X1) (k:Nat) (b:Bool),X3m t Y xs k b=some (.x0 (b&&xs.all λx=>decide (t.Op.Kind≠4)||(x.Values.e1.Count==0)))
 |[],k,b=>by simp[X3m]
 |x::xs,k,b=>by
  rw[X3m,List.all_cons]
  cases b with
  |false=>simp only[cond_false,Yo];rw[X6j t Y xs (k+1)];rfl
  |true =>
   by_cases h:t.Op.Kind=4
   ·rw[show(t.Op.Kind != 4)=false by simp[h],show decide (t.Op.Kind≠4)=false by simp[h]];simp only[cond_true,cond_false,Yo,Bool.false_or];rw[X6j t Y xs (k+1),show decide (t.Op.Kind≠4)=false by simp[h]];simp
   ·rw[show(t.Op.Kind != 4)=true by simp[h],show decide (t.Op.Kind≠4)=true by simp[h]];simp only[cond_true,Yo,Bool.true_or];rw[X6j t Y xs (k+1),show decide (t.Op.Kind≠4)=true by simp[h]];simp
theorem Xi4 {t:Xo} (h:Xgs t=true):t.Pending.length<=4000/\t.Marks.length<=4/\t.Store.length<=4000/\t.Events.length<=60/\t.Rows.length<=4000/\t.Late.length<=4000:=by
 unfold Xgs at h;simp only[Bool.and_eq_true,decide_eq_true_eq] at h;obtain⟨⟨⟨⟨⟨⟨h1,h2⟩,h3⟩,h4⟩,h5⟩,h6⟩,h7⟩:=h;have hm:(Xbs t.Op.Kind).2.1<=4:=by
  unfold Xbs
  (repeat' split)<;>decide
 have hr:∀ b (n:Int),0<=n->X7t b n<=n:=λb n hn=>by cases b<;>simp[X7t]<;>omega
 have r1:=hr (Xbs t.Op.Kind).2.2.1 4000 om;have r2:=hr (Xbs t.Op.Kind).2.2.2.1 60 om;have r3:=hr (Xbs t.Op.Kind).2.2.2.2.1 4000 om;have r4:=hr (Xbs t.Op.Kind).2.2.2.2.2 4000 om;omega
theorem Xa0 (t:Xo):Xaa t=some (if tOK t then 0 else 8):=by
 unfold Xaa;rw[Xmi,Yo];simp only[Xpq,Yo];have hs:(bif (decide ((List.length t.Pending:Int)<=(4000:Int))) then (bif (decide ((List.length t.Marks:Int) >= (Xbs t.Op.Kind).1)) then (bif (decide ((List.length t.Marks:Int)<=(Xbs t.Op.Kind).2.1)) then (bif (decide ((List.length t.Store:Int)<=X7t (Xbs t.Op.Kind).2.2.1 4000)) then (bif (decide ((List.length t.Events:Int)<=X7t (Xbs t.Op.Kind).2.2.2.1 60)) then (bif (decide ((List.length t.Rows:Int)<=X7t (Xbs t.Op.Kind).2.2.2.2.1 4000)) then (some (bif (bif (bif (bif (bif (bif (decide ((List.length t.Pending:Int)<=(4000:Int))) then (decide ((List.length t.Marks:Int) >= (Xbs t.Op.Kind).1)) else false) then (decide ((List.length t.Marks:Int)<=(Xbs t.Op.Kind).2.1)) else false) then (decide ((List.length t.Store:Int)<=X7t (Xbs t.Op.Kind).2.2.1 4000)) else false) then (decide ((List.length t.Events:Int)<=X7t (Xbs t.Op.Kind).2.2.2.1 60)) else false) then (decide ((List.length t.Rows:Int)<=X7t (Xbs t.Op.Kind).2.2.2.2.1 4000)) else false) then (decide ((List.length t.Late:Int)<=X7t (Xbs t.Op.Kind).2.2.2.2.2 4000)) else false)) else (some false)) else (some false)) else (some false)) else (some false)) else (some false)) else (some false):Option Bool)=some (Xgs t):=by
  unfold Xgs;cases decide ((List.length t.Pending:Int)<=(4000:Int))<;>cases decide ((List.length t.Marks:Int) >= (Xbs t.Op.Kind).1)<;>cases decide ((List.length t.Marks:Int)<=(Xbs t.Op.Kind).2.1)<;>cases decide ((List.length t.Store:Int)<=X7t (Xbs t.Op.Kind).2.2.1 4000)<;>cases decide ((List.length t.Events:Int)<=X7t (Xbs t.Op.Kind).2.2.2.1 60)<;>cases decide ((List.length t.Rows:Int)<=X7t (Xbs t.Op.Kind).2.2.2.2.1 4000)<;>rfl
 rw[hs,Yo];have hn:(bif (bif (bif (decide (t.Turn >= (0:Int))) then (decide (t.Turn<(20:Int))) else false) then (decide (t.Op.N >= (0:Int))) else false) then (decide (t.Op.N<(4:Int))) else false)=Xux t:=by
  unfold Xux;cases decide (t.Turn >= (0:Int))<;>cases decide (t.Turn<(20:Int))<;>cases decide (t.Op.N >= (0:Int))<;>rfl
 rw[hn];unfold tOK
 cases h1:Xux t with
 |false=>rfl
 |true =>
  cases h2:Xgs t with
  |false=>rfl
  |true =>
   obtain⟨l1,l2,l3,l4,l5,l6⟩:=Xi4 h2;simp only[Bool.not_true,cond_false];rw[Xgr om,Yo]
   cases h3:t.Pending.all sOK with
   |false=>rfl
   |true =>
    simp only[Bool.not_true,cond_false];rw[X6c,if_neg om,Yo]
    cases h4:Xo6 t.Store with
    |false=>rfl
    |true =>
     simp only[if_true,bne_self_eq_false,Yo,cond_false];rw[X26 om,Yo,X9s,Yo];simp only;rw[X26 om,Yo,X9r,Yo];simp only;rw[X26 om,Yo,X9q,Yo];simp only;rw[X26 om,Yo,X9p,Yo];simp only;rw[X26 om,Yo,X6j,Yo];simp only[Bool.true_and,Bool.and_true];unfold Xps;generalize (t.Marks.all mkL&&t.Events.all Xui&&t.Rows.all Xcw&&(t.Late.all λr=>isT r.Time)&&t.Store.all λx=>decide (t.Op.Kind≠4)||(x.Values.e1.Count==0))=b;cases b<;>rfl
end Go.D


namespace Go.D
def t0:Xo:=⟨⟨0,0⟩,0,[],[],[],[],[],[]⟩
theorem bifS {α:Type} (l:List α) (x:Option (List α)) (h:x=some l):(bif l.isEmpty then some l else x)=some l:=by cases l.isEmpty<;>simp[h]
theorem X08a {l:List Int} (h:l.length<=100000):X1m l=some l:=by unfold X1m;exact bifS l _ (by rw[X1j om];rfl)
theorem X08b {l:List X1} (h:l.length<=100000):X1o l=some l:=by unfold X1o;exact bifS l _ (by rw[X1j om];rfl)
theorem X088 {l:List X01} (h:l.length<=100000):X1n l=some l:=by unfold X1n;exact bifS l _ (by rw[X1j om];rfl)
theorem X089 {l:List X1b} (h:l.length<=100000):X2h l=some l:=by unfold X2h;exact bifS l _ (by rw[X1j om];rfl)
theorem X08c {l:List Xg} (h:l.length<=100000):X1c l=some l:=by unfold X1c;exact bifS l _ (by rw[X1j om];rfl)
theorem Xgt {t:Xo} (h:tOK t=true):Xux t=true/\Xgs t=true/\t.Pending.all sOK=true/\Xo6 t.Store=true/\Xps t=true:=by
 unfold tOK at h;simp only[Bool.and_eq_true] at h;exact⟨h.1.1.1.1,h.1.1.1.2,h.1.1.2,h.1.2,h.2⟩
theorem Xj9 {t:Xo} (hp:t.Pending=[]) {L:List X09} (hL:L.length<=100000) :
  X52 t L=some (if tOK t then (if L.all sOK then (if L.length>4000 then (t0,4) else ({ t with Pending:=L },0)) else (t0,8)) else (t0,8)):=by
 unfold X52;rw[Xa0,Yo]
 cases h:tOK t with
 |false=>rfl
 |true =>
  obtain⟨l1,l2,l3,l4,l5,l6⟩:=Xi4 (Xgt h).2.1;simp only[if_true,bne_self_eq_false,cond_false];rw[Xgr om,Yo]
  cases hs:L.all sOK with
  |false=>rfl
  |true =>
   simp only[Bool.not_true,cond_false,if_true];rw[hp];have e4:IntKind.i64.wrap (4000 - (([]:List X09).length:Int))=4000:=by decide
   rw[e4];by_cases h4:L.length>4000
   ·rw[Yt om,if_pos h4];rfl
   ·rw[Yf om,if_neg h4,cond_false];simp only[List.isEmpty_nil,cond_true];rw[X08a om,X08b om,X088 om,X089 om,X08c om];simp only[Yo];rw[X1j om];cases L.isEmpty<;>rfl
def X69 (m:Int) (l:List X1):List X1:=l.filter λx=>decide (x.Span.End<=m)
def Xfu (m:Int) (l:List X1):List X1:=l.filter λx=>!decide (x.Span.End<=m)
theorem Xt1 (m:Int) (Y:List X1):∀ (xs:List X1) (k:Nat) (a b:List X1),a.length+b.length+xs.length<=100000->X3r m Y xs k a b=some (.x0 (a++X69 m xs) (b++Xfu m xs))
 |[],k,a,b,_=>by simp[X3r,X69,Xfu]
 |x::xs,k,a,b,hn=>by
  simp only[List.length_cons] at hn;rw[X3r];unfold X69 Xfu;rw[List.filter_cons,List.filter_cons];by_cases h:x.Span.End<=m
  ·rw[Yt h,cond_true,X1j (by simp;omega)];simp only[Yo,if_true,Bool.not_true,Bool.false_eq_true,if_false];rw[Xt1 m Y xs (k+1) _ _ (by simp;omega)];simp[X69,Xfu]
  ·rw[Yf h,cond_false,X1j (by simp;omega)];simp only[Yo,if_true,Bool.not_false,Bool.false_eq_true,if_false];rw[Xt1 m Y xs (k+1) _ _ (by simp;omega)];simp[X69,Xfu]
theorem Xo5 {l:List X1} (h:Xo6 l=true) (hl:l.length<=4000) (m:Int):Xab l m=some (X69 m l,Xfu m l,0):=by
 unfold Xab;rw[X6c,if_neg om,h,Yo];simp only[if_true,bne_self_eq_false,cond_false];rw[X26 om,Yo,Xt1 m l l 0 [] [] (by simp;omega)];rfl
theorem Xns {m:Int} {l:List X1} {x:X1} (h:x∈X69 m l):x∈l:=(List.mem_filter.1 h).1
theorem Xj1 (m:Int) (l:List X1):(X69 m l).length<=l.length:=List.length_filter_le _ _
theorem Xpy (m:Int) (l:List X1):(Xfu m l).length<=l.length:=List.length_filter_le _ _
theorem X02g {a l:List X1} (hs:a.Sublist l) (h:Xo6 l=true):Xo6 a=true:=by
 rw[Xc1] at *;exact⟨λx hx=>h.1 x (hs.subset hx),h.2.sublist hs⟩
def Xxk (r:X1b):X09:=⟨0,⟨3,⟨0,0,0⟩,0,r⟩⟩
theorem X02n {r:X1b} (h:Xcw r=true):sOK (Xxk r)=true:=by
 unfold sOK Xxk;simp only;rw[Xtq,h];rfl
theorem X06e {x:X1} (h:okE x) (r:X1b) (hr:r.Span=x.Span):Xcw r=true:=by
 obtain⟨h1,h2,h3,_⟩:=h;unfold Xcw;rw[hr,Yt om,Yt om,Yt om];rfl
def Xqy (l:List X1) (x:X1):Bool :=
 match l[cnt l x]? with
 |some y=>decide (X2m y x/\(y.Values.e0.Count+x.Values.e0.Count>1073741824\/y.Values.e1.Count+x.Values.e1.Count>1073741824))
 |none=>false
theorem X6v {a b:Xm} (ha:okA a) (hb:okA b) (hc:a.Count+b.Count>1073741824):X34 a b=some (⟨0,0,0,0⟩,4):=by
 have h1:=X05 ha;have h2:=X05 hb;simp only[X34,X2g ha,X2g hb,Yo,bne_self_eq_false,cond_false];rw[Xz om om,Yt hc];rfl
theorem X04k {l:List X1} {x0:X1} {s:Xy} (hs:l.Pairwise ltE) (hn:l.length<=10000) (hx:okA x0.Values.e0/\okA x0.Values.e1) (hl:∀ y∈l,okA y.Values.e0/\okA y.Values.e1) (Y xs:List Xy) (k:Nat) :
  X2w Y (s::xs) k x0 l=(if Xqy l ⟨x0.Key,s,x0.Values⟩ then some (.x1 [] 4) else X2w Y xs (k+1) ⟨x0.Key,s,x0.Values⟩ (Xmb l ⟨x0.Key,s,x0.Values⟩)):=by
 rw[X2w];obtain⟨x,hxe⟩:∃ x:X1,(⟨x0.Key,s,x0.Values⟩:X1)=x:=⟨_,rfl⟩;have hv:x0.Values=x.Values:=by rw[<-hxe]
 have hxk:x0.Key=x.Key:=by rw[<-hxe]
 have hxs:s=x.Span:=by rw[<-hxe]
 rw[hv] at hx;unfold Xqy;rw[hxe,hv];rw[X0ag hs om,Xy0 hs];have hle:=X00k l x
 cases h:l[cnt l x]? with
 |none =>
  have hc:cnt l x=l.length:=by have:=List.getElem?_eq_none_iff.1 h;omega
  have hsl:X5n l (l.length:Int) (l.length:Int)=some []:=by simp[X5n]
  simp only[Yo,Bool.not_false,cond_true,hc,beq_self_eq_true,hsl,Bool.false_eq_true,if_false];rw[X1j (by simp;omega)];rfl
 |some y =>
  have hlt:cnt l x<l.length:=(Ys.1 h).1;obtain⟨a1,a2⟩:=hl y (Yg h);simp only[Yo];by_cases hk:X2m y x
  ·simp only[hk,decide_true,Bool.not_true,cond_false,X2a,h,Yo,true_and,if_true];by_cases o0:y.Values.e0.Count+x.Values.e0.Count>1073741824
   ·rw[X6v a1 hx.1 o0,Yt (.inl o0)];rfl
   ·rw[X6i a1 hx.1 om];by_cases o1:y.Values.e1.Count+x.Values.e1.Count>1073741824
    ·simp only[Yo,bne_self_eq_false,cond_false];rw[X6v a2 hx.2 o1,Yt (.inr o1)];rfl
    ·simp only[Yo,bne_self_eq_false,cond_false];rw[X6i a2 hx.2 om,Yf om];simp only[Yo,bne_self_eq_false,cond_false,Bool.false_eq_true,if_false,Int.toNat_natCast,List.set_set];rfl
  ·have hne:((cnt l x:Int)==(l.length:Int))=false:=by simp;omega
   have hi:Xzl l (cnt l x:Int) x 88=some (l.take (cnt l x)++x::l.drop (cnt l x)):=by
    unfold Xzl;rw[if_pos ⟨by omega,by simpa using hlt,by omega⟩];simp
   simp only[hk,decide_false,Bool.not_false,cond_true,hne,cond_false,false_and,if_false,Bool.false_eq_true];rw[hi];simp only[Yo,bne_self_eq_false,cond_false]
end Go.D


namespace Go.D
theorem X04o {z:Int} (h:wfI .u8 z):0<=z:=by
 have h:=h;simp only[wfI,Lit.wf,IntKind.bits,IntKind.signed] at h;simp at h;have e1:IntKind.u8.min=0:=by decide
 omega
theorem Xx0 {z:Int} (h:wfI .i64 z):z<=9223372036854775807 /\ -9223372036854775808<=z:=by
 have h:=h;simp only[wfI,Lit.wf,IntKind.bits,IntKind.signed] at h;simp at h;have e1:IntKind.i64.min = -9223372036854775808:=by decide
 have e2:IntKind.i64.max=9223372036854775807:=by decide
 omega
theorem X0b0 {q:X0g} (w:Xkw q):QW q:=by
 obtain⟨_,⟨_,h1⟩,_,_,⟨_,h2⟩,h3,_⟩:=w;exact⟨λx hx=>X04o (h1 x hx).1,λx hx=>X04o (h2 x hx).1,Xx0 h3.2.2⟩
end Go.D


namespace Go.D
theorem Xty {l:List X1} {x y:X1} (hs:l.Pairwise ltE) (h:Xqy l x=false) (hy:y∈l) (hk:X2m y x):y.Values.e0.Count+x.Values.e0.Count<=1073741824/\y.Values.e1.Count+x.Values.e1.Count<=1073741824:=by
 obtain⟨k,hlt,rfl⟩:=List.mem_iff_getElem.1 hy;have hg:l[k]?=some l[k]:=Ye hlt;have h1:¬ k<cnt l x:=λe=>X7k hk ((Xt9 hs k _ hg).2 e);have h2:¬ cnt l x<k:=λe=>by
  have hc:cnt l x<l.length:=by omega
  have:=List.pairwise_iff_getElem.1 hs (cnt l x) k hc hlt e;have h3:ltE l[cnt l x] x:=(sameK_ltE hk).1 this;have:=(Xt9 hs (cnt l x) _ (Ye hc)).1 h3;omega
 have h3:cnt l x=k:=by omega
 unfold Xqy at h;rw[h3,hg] at h;simp only[decide_eq_false_iff_not,not_and,not_or] at h;have:=h hk;omega
theorem X035 {l:List X1} {x:X1} (hs:l.Pairwise ltE) (ho:Xqy l x=false) (hx:okA x.Values.e0/\okA x.Values.e1) (hl:∀ y∈l,okA y.Values.e0/\okA y.Values.e1):∀ y∈Xmb l x,okA y.Values.e0/\okA y.Values.e1:=by
 intro y hy;rcases(Xkh hs y).1 hy with ⟨h,_⟩|⟨z,hz,hk,rfl⟩|⟨_,rfl⟩
 ·exact hl y h
 ·obtain⟨a1,a2⟩:=hl z hz;obtain⟨c1,c2⟩:=Xty hs ho hz hk;exact⟨Xc7 a1 hx.1 c1,Xc7 a2 hx.2 c2⟩
 ·exact hx
theorem X02h {l:List X1} (h:Xo6 l=true):∀ y∈l,okA y.Values.e0/\okA y.Values.e1:=λy hy=>by
 obtain⟨_,_,_,h1,h2,_⟩:=(Xc1.1 h).1 y hy;exact⟨h1,h2⟩
theorem Xn3 (x:X09):Xlz x x=true:=by
 simp[Xlz,Xbq]
theorem Xtt {q:X0g} (hq:QW q):X57 q=some (decide ((Xq0 q).2=0)):=by
 unfold X57;rw[Xmr hq,Yo];rfl
end Go.D


namespace Go.D
theorem Xnh {l:List Int} {j:Nat} {x:Int} (hms:Xk8 l=true) (hjl:j<l.length) (ht:Xmz x=true):Xk8 (X28 l j x)=true:=by
 obtain⟨m1,m2,m3⟩:=Xhb hms;unfold Xk8;have hlr:(X28 l j x).length=l.length:=by unfold X28;simp
 rw[hlr,Yt m1,Yt m2];simp only[Bool.true_and,List.all_eq_true];intro y hy;unfold X28 at hy;rcases List.mem_or_eq_of_mem_set hy with h|h
 ·exact List.all_eq_true.1 m3 y h
 ·rw[h];split
  ·unfold mkL;rw[ht];simp
  ·apply List.all_eq_true.1 m3;rw[List.getD_eq_getElem?_getD,Ye hjl];exact List.getElem_mem hjl
end Go.D


namespace Go.D
theorem ch5 (A B C D E:Bool):((bif A then (bif B then (bif C then (bif D then (some (bif (bif (bif (bif A then B else false) then C else false) then D else false) then E else false)) else (some (bif (bif (bif (bif A then B else false) then C else false) then D else false) then false else false))) else (some (bif (bif (bif (bif A then B else false) then C else false) then false else false) then false else false))) else (some (bif (bif (bif (bif A then B else false) then false else false) then false else false) then false else false))) else (some (bif (bif (bif (bif A then false else false) then false else false) then false else false) then false else false)):Option (Bool)).bind λj=>some j)=some (A&&(B&&(C&&(D&&E)))):=by
 cases A<;>cases B<;>cases C<;>cases D<;>cases E<;>rfl
theorem Xli (x:Int):X8u x=some (Xmz x):=by
 unfold X8u Xmz isT;simp only[ge_iff_le];cases decide (-1099511627776<=x)<;>cases decide (x<=1099511627776)<;>cases(x==9223372036854775807)<;>rfl
theorem Xvh (x:Int):Xb4 x=some (mkL x):=by
 unfold Xb4 mkL;rw[Xli];cases(x == -9223372036854775808)<;>cases Xmz x<;>rfl
theorem X03f (t:Xo) (hn:t.Marks.length<=1000000):∀ (m n k:Nat),m=t.Marks.length - k->m<n->k<=t.Marks.length->X45 t n (k:Int)=some (if (t.Marks.drop k).all mkL then .x1 else .x0):=by
 intro m
 induction m with
 |zero =>
  intro n k hm hmn hk;obtain⟨n,rfl⟩:∃ q,n=q+1:=⟨n - 1,by omega⟩;rw[X45,Yf om,List.drop_eq_nil_of_le om];rfl
 |succ m ih =>
  intro n k hm hmn hk;obtain⟨n,rfl⟩:∃ q,n=q+1:=⟨n - 1,by omega⟩;have hlt:k<t.Marks.length:=by omega
  rw[X45,Yt om,cond_true,X2a,Ye hlt,Yo,Xvh,Yo,List.drop_eq_getElem_cons hlt,List.all_cons,Xz om om,show((k:Int)+1)=((k+1:Nat):Int) by omega,ih n (k+1) om om om];cases mkL t.Marks[k]<;>rfl
theorem Xfy (a:Xm):X5q a=some (if okA a then 0 else 8):=by
 unfold X5q;by_cases n0:a.Count<0
 ·rw[Yt n0,if_neg (λh=>by have:=X05 h;omega)];rfl
 ·rw[Yf n0];by_cases n1:a.Count>1073741824
  ·rw[Yt n1,if_neg (λh=>by have:=X05 h;omega)];rfl
  ·rw[Yf n1];simp only[cond_false,Yo];by_cases c0:a.Count=0
   ·rw[show(a.Count==0)=true by simpa using c0,show(a.Count==1)=false by simp[c0]];by_cases hz:a=⟨0,0,0,0⟩
    ·rw[if_pos (show okA a from .inl ⟨c0,hz⟩),hz];rfl
    ·rw[if_neg (λh=>by rcases h with ⟨_,h⟩|⟨h,_⟩|⟨h,_⟩<;>first|exact hz h|omega)];have:¬ (a.Sum=0/\a.Min=0/\a.Max=0):=λ⟨e1,e2,e3⟩=>hz (by cases a;simp_all);by_cases e1:a.Sum=0
     ·by_cases e2:a.Min=0
      ·have e3:¬ a.Max=0:=λe=>this ⟨e1,e2,e⟩;rw[show(a.Sum != 0)=false by simp[e1],show(a.Min != 0)=false by simp[e2],show(a.Max != 0)=true by simpa using e3];rfl
      ·rw[show(a.Sum != 0)=false by simp[e1],show(a.Min != 0)=true by simpa using e2];rfl
     ·rw[show(a.Sum != 0)=true by simpa using e1];rfl
   ·rw[show(a.Count==0)=false by simpa using c0];by_cases c1:a.Count=1
    ·rw[show(a.Count==1)=true by simpa using c1];by_cases e1:a.Sum=a.Min
     ·by_cases e2:a.Min=a.Max
      ·rw[if_pos (show okA a from .inr (.inl ⟨c1,e1,e1.trans e2⟩)),show(a.Sum != a.Min)=false by simp[e1],show(a.Min != a.Max)=false by simp[e2],Yf (show ¬ a.Min>a.Max by omega)];rfl
      ·rw[if_neg (λh=>by rcases h with ⟨h,_⟩|⟨_,h1,h2⟩|⟨h,_⟩<;>omega),show(a.Sum != a.Min)=false by simp[e1],show(a.Min != a.Max)=true by simpa using e2];rfl
     ·rw[if_neg (λh=>by rcases h with ⟨h,_⟩|⟨_,h1,h2⟩|⟨h,_⟩<;>omega),show(a.Sum != a.Min)=true by simpa using e1];rfl
    ·rw[show(a.Count==1)=false by simpa using c1];by_cases e:a.Min>a.Max
     ·rw[Yt e,if_neg (λh=>by rcases h with ⟨h,_⟩|⟨h,_⟩|⟨_,_,h⟩<;>omega)];rfl
     ·rw[Yf e,if_pos (show okA a from .inr (.inr ⟨by omega,by omega,by omega⟩))];rfl
theorem Xh2 (x y:X1):X8z x y=some (decide (ltE x y)):=by
 unfold X8z;by_cases e1:x.Span.End=y.Span.End
 ·rw[show(x.Span.End != y.Span.End)=false by simp[e1]];by_cases e2:x.Span.Start=y.Span.Start
  ·rw[show(x.Span.Start != y.Span.Start)=false by simp[e2]];simp only[cond_false];congr 1
   exact decide_eq_decide.2 (by unfold ltE;omega)
  ·rw[show(x.Span.Start != y.Span.Start)=true by simpa using e2];simp only[cond_false,cond_true];congr 1
   exact decide_eq_decide.2 (by unfold ltE;omega)
 ·rw[show(x.Span.End != y.Span.End)=true by simpa using e1];simp only[cond_true];congr 1
  exact decide_eq_decide.2 (by unfold ltE;omega)
theorem Xcz (l:List X1) (hn:l.length<=1000000):∀ (xs:List X1) (k:Nat),l.drop k=xs->X48 l xs k=some (if Xlt (if k=0 then none else l[k - 1]?) xs then .x0 else .x1)
 |[],k,_=>rfl
 |x::xs,k,h=>by
  have hk:l[k]?=some x:=by
   have:=congrArg (λz=>z[0]?) h;simpa using this
  have hlt:k<l.length:=(Ys.1 hk).1;have hd:l.drop (k+1)=xs:=by
   have:=congrArg List.tail h;simpa using this
  have ih:=Xcz l hn xs (k+1) hd;rw[if_neg (Nat.succ_ne_zero k),show k+1 - 1=k from rfl,hk] at ih;have h96:((X5q x.Values.e0).bind λv97=>bif (v97==(0:Int)) then ((X5q x.Values.e1).bind λv100=>some (bif (v97==(0:Int)) then (v100==(0:Int)) else false)) else (some (bif (v97==(0:Int)) then false else false)):Option (Bool))=some (decide (okA x.Values.e0/\okA x.Values.e1)):=by
   rw[Xfy,Xfy];by_cases a0:okA x.Values.e0
   ·by_cases a1:okA x.Values.e1
    ·rw[if_pos a0,if_pos a1,Yt (⟨a0,a1⟩:_/\_)];rfl
    ·rw[if_pos a0,if_neg a1,Yf (λh:_/\_=>a1 h.2)];rfl
   ·rw[if_neg a0,Yf (λh:_/\_=>a0 h.1)];rfl
  rw[X48,h96,Yo,Xlt];by_cases ho:okE x
  ·obtain⟨q1,q2,q3,a0,a1,q4⟩:=ho;have c0:=X05 a0;have c1:=X05 a1;rw[Yt (show okE x from⟨q1,q2,q3,a0,a1,q4⟩),Yt (⟨a0,a1⟩:_/\_),Yt (show x.Span.Start >= -1100585369600 by omega),Yt (show x.Span.Start<x.Span.End by omega),Yt (show x.Span.End<=1100585369600 by omega)];have hcc:∀ (X:Option Bool) (Y:Option Bool),X=Y->(bif (x.Values.e0.Count==(0:Int)) then (bif (x.Values.e1.Count==(0:Int)) then (some true) else X) else Y)=Y:=by
    intro X Y e;by_cases g0:x.Values.e0.Count=0
    ·have g1:¬ x.Values.e1.Count=0:=by omega
     rw[show(x.Values.e0.Count==0)=true by simpa using g0,show(x.Values.e1.Count==0)=false by simpa using g1,e];rfl
    ·rw[show(x.Values.e0.Count==0)=false by simpa using g0];rfl
   simp only[Bool.not_true,cond_true,cond_false]
   cases k with
   |zero =>
    rw[Yf (show ¬ ((0:Nat):Int)>0 by omega),if_pos rfl];simp only[cond_false]
    rw[hcc _ _ (by
     by_cases g0:x.Values.e0.Count=0
     ·have g1:¬ x.Values.e1.Count=0:=by omega
      rw[show(x.Values.e0.Count==0)=true by simpa using g0,show(x.Values.e1.Count==0)=false by simpa using g1];rfl
     ·rw[show(x.Values.e0.Count==0)=false by simpa using g0];rfl)]
    simp only[cond_false,Yo,Bool.true_and];exact ih
   |succ k =>
    rw[Yt (show((k+1:Nat):Int)>0 by omega),if_neg (Nat.succ_ne_zero k),Xz om om,show(((k+1:Nat):Int) - 1)=(k:Int) by omega,X2a,show k+1 - 1=k from rfl,Ye (show k<l.length by omega)];simp only[cond_true,Yo,Xh2]
    rw[hcc _ _ (by
     by_cases g0:x.Values.e0.Count=0
     ·have g1:¬ x.Values.e1.Count=0:=by omega
      rw[show(x.Values.e0.Count==0)=true by simpa using g0,show(x.Values.e1.Count==0)=false by simpa using g1];rfl
     ·rw[show(x.Values.e0.Count==0)=false by simpa using g0];rfl)]
    simp only[cond_false,Yo,Bool.true_and];by_cases hl:ltE (l[k]'om) x
    ·rw[show bhd (some (l[k]'om)) x=true from Yt hl,Yt hl];simp only[Bool.not_true,cond_false,Bool.true_and];exact ih
    ·rw[show bhd (some (l[k]'om)) x=false from Yf hl,Yf hl];rfl
  ·rw[Yf ho];have hbad:∀ (X:Option Bool),(bif (!(bif (bif (decide (x.Span.Start >= ((-1100585369600):Int))) then (decide (x.Span.Start<x.Span.End)) else false) then (decide (x.Span.End<=(1100585369600:Int))) else false)) then (some true) else (bif (!(decide (okA x.Values.e0/\okA x.Values.e1))) then (some true) else (bif (x.Values.e0.Count==(0:Int)) then (bif (x.Values.e1.Count==(0:Int)) then (some true) else X) else X)):Option Bool)=some true\/True:=λ_=>.inr trivial;by_cases q1:x.Span.Start >= -1100585369600
   ·by_cases q2:x.Span.Start<x.Span.End
    ·by_cases q3:x.Span.End<=1100585369600
     ·by_cases a0:okA x.Values.e0
      ·by_cases a1:okA x.Values.e1
       ·have c0:=X05 a0;have c1:=X05 a1;have g0:x.Values.e0.Count=0:=by
         rcases Int.lt_or_le 0 x.Values.e0.Count with g|g
         ·exact absurd ⟨by omega,by omega,by omega,a0,a1,by omega⟩ ho
         ·omega
        have g1:x.Values.e1.Count=0:=by
         rcases Int.lt_or_le 0 x.Values.e1.Count with g|g
         ·exact absurd ⟨by omega,by omega,by omega,a0,a1,by omega⟩ ho
         ·omega
        rw[Yt q1,Yt q2,Yt q3,Yt (⟨a0,a1⟩:_/\_),show(x.Values.e0.Count==0)=true by simpa using g0,show(x.Values.e1.Count==0)=true by simpa using g1];rfl
       ·rw[Yt q1,Yt q2,Yt q3,Yf (λh:_/\_=>a1 h.2)];rfl
      ·rw[Yt q1,Yt q2,Yt q3,Yf (λh:_/\_=>a0 h.1)];rfl
     ·rw[Yt q1,Yt q2,Yf q3];rfl
    ·rw[Yt q1,Yf q2];rfl
   ·rw[Yf q1];rfl
theorem Xch (l:List X1):X70 l=some (if l.length>4000 then 4 else if Xo6 l then 0 else 8):=by
 unfold X70;by_cases h:l.length>4000
 ·rw[Yt om,if_pos h];rfl
 ·rw[Yf om,if_neg h,cond_false,X26 om,Yo,Xcz l om l 0 rfl,if_pos rfl];unfold Xo6;cases Xlt none l<;>rfl
theorem Xw7 (t:Xo) (hn:t.Store.length<=1000000):∀ (m n k:Nat),m=t.Store.length - k->m<n->k<=t.Store.length->X46 t n (k:Int)=some (if (t.Store.drop k).all (λx=>decide (t.Op.Kind≠4)||(x.Values.e1.Count==0)) then .x1 else .x0):=by
 intro m
 induction m with
 |zero =>
  intro n k hm hmn hk;obtain⟨n,rfl⟩:∃ q,n=q+1:=⟨n - 1,by omega⟩;rw[X46,Yf om,List.drop_eq_nil_of_le om];rfl
 |succ m ih =>
  intro n k hm hmn hk;obtain⟨n,rfl⟩:∃ q,n=q+1:=⟨n - 1,by omega⟩;have hlt:k<t.Store.length:=by omega
  rw[X46,Yt om,cond_true,X2a,Ye hlt,List.drop_eq_getElem_cons hlt,List.all_cons,Xz om om,show((k:Int)+1)=((k+1:Nat):Int) by omega,ih n (k+1) om om om];by_cases h4:t.Op.Kind=4
  ·rw[show(t.Op.Kind==4)=true by simpa using h4,Yf (show ¬ t.Op.Kind≠4 by omega)];by_cases h1:t.Store[k].Values.e1.Count=0
   ·simp[h1]
   ·rw[show(t.Store[k].Values.e1.Count==0)=false by simpa using h1];simp only[cond_true,Yo,show(t.Store[k].Values.e1.Count != 0)=true by simpa using h1];rfl
  ·rw[show(t.Op.Kind==4)=false by simpa using h4,Yt (show t.Op.Kind≠4 from h4)];rfl
theorem Xvu (t:Xo):∃ b,X8s t=some b/\(b=false->t.Pending.length<=4010/\t.Rows.length<=4010/\t.Late.length<=4010/\t.Store.length<=100/\t.Events.length<=100/\t.Marks.length<=20):=by
 unfold X8s;have g:∀ z:Int,∃ b,(bif (decide (z>(100:Int))) then (bif (decide (z<(3990:Int))) then (some (bif (bif (decide (z>(100:Int))) then (decide (z<(3990:Int))) else false) then true else false)) else (some (bif (bif (decide (z>(100:Int))) then (decide (z<(3990:Int))) else false) then true else (decide (z>(4010:Int)))))) else (some (bif (bif (decide (z>(100:Int))) then false else false) then true else (decide (z>(4010:Int))))):Option (Bool))=some b/\(b=false->z<=4010):=by
  intro z;by_cases h1:z>100
  ·rw[Yt h1];by_cases h2:z<3990
   ·rw[Yt h2];exact⟨_,rfl,λ_=>by omega⟩
   ·rw[Yf h2];exact⟨_,rfl,λh=>by have:=of_decide_eq_false h;omega⟩
  ·rw[Yf h1];exact⟨_,rfl,λh=>by omega⟩
 obtain⟨b1,e1,f1⟩:=g (List.length t.Pending:Int);obtain⟨b2,e2,f2⟩:=g (List.length t.Rows:Int);obtain⟨b3,e3,f3⟩:=g (List.length t.Late:Int);rw[e1,Yo,e2,Yo,e3,Yo]
 cases b1 with
 |true=>exact⟨_,rfl,λh=>by cases h⟩
 |false =>
 cases b2 with
 |true=>exact⟨_,rfl,λh=>by cases h⟩
 |false =>
 cases b3 with
 |true=>exact⟨_,rfl,λh=>by cases h⟩
 |false =>
 have f1:=f1 rfl;have f2:=f2 rfl;have f3:=f3 rfl;by_cases h1:(List.length t.Store:Int)>100
 ·rw[Yt h1];exact⟨_,rfl,λh=>by cases h⟩
 ·rw[Yf h1];by_cases h2:(List.length t.Events:Int)>100
  ·rw[Yt h2];exact⟨_,rfl,λh=>by cases h⟩
  ·rw[Yf h2];refine⟨_,rfl,λh=>?_⟩;have h3:¬ (List.length t.Marks:Int)>20:=of_decide_eq_false h;omega
end Go.D


namespace Go.D
theorem Xi7 (r:Xg):X4v r=some (isT r.Time):=by
 unfold X4v isT;simp only[ge_iff_le];cases decide (-1099511627776<=r.Time)<;>rfl
theorem Xtr (r:X1b):Xcy r=some (Xcw r):=by
 unfold Xcy Xcw;simp only[ge_iff_le];cases decide (-2199023255552<=r.Span.Start)<;>cases decide (r.Span.Start<r.Span.End)<;>cases decide (r.Span.End<=2199023255552)<;>rfl
theorem Xnb (m:Xp):X8t m=some (mOK m):=by
 unfold X8t mOK;rw[Xi7,Xli,Xtr];simp only[Xbq];by_cases h1:m.Kind=1
 ·rw[if_pos (.inl h1),show(m.Kind==1)=true by simpa using h1];simp only[cond_true,Yo];cases isT m.Record.Time<;>rfl
 ·rw[show(m.Kind==1)=false by simpa using h1];by_cases h4:m.Kind=4
  ·rw[if_pos (.inr h4),show(m.Kind==4)=true by simpa using h4];simp only[cond_true,cond_false,Yo];cases isT m.Record.Time<;>rfl
  ·rw[if_neg om,show(m.Kind==4)=false by simpa using h4];simp only[cond_false,Yo];by_cases h2:m.Kind=2
   ·rw[if_pos h2,show(m.Kind==2)=true by simpa using h2];simp only[cond_true,Yo];cases Xmz m.Time<;>rfl
   ·rw[if_neg h2,show(m.Kind==2)=false by simpa using h2];by_cases h3:m.Kind=3
    ·rw[if_pos h3,show(m.Kind==3)=true by simpa using h3];simp only[cond_true,cond_false,Yo];cases Xcw m.Row<;>rfl
    ·rw[if_neg h3,show(m.Kind==3)=false by simpa using h3];rfl
theorem Xw1 (e:X01):Xb6 e=some (if Xui e then 0 else 8):=by
 unfold Xb6 Xui;rw[Xi7,Xli,Xf4];have hr:(Xg.mk 0 0 0)=Xob:=rfl;rw[hr];have ht:(e.Time==0)=decide (e.Time=0):=by by_cases h:e.Time=0<;>simp[h]
 rw[ht];cases e.Mark<;>cases Xmz e.Time<;>cases decide (e.Record=Xob)<;>cases decide (e.Time=0)<;>cases isT e.Record.Time<;>rfl
theorem Xng (Y:List X09):∀ (xs:List X09) (k:Nat),X41 Y xs k=some (if xs.all sOK then .x0 else .x1)
 |[],k=>rfl
 |x::xs,k=>by
  rw[X41,Xnb,Xng Y xs (k+1),List.all_cons];unfold sOK;by_cases h1:x.Out<0
  ·rw[Yt h1,Yf (show ¬ 0<=x.Out by omega)];rfl
  ·rw[Yf h1,Yt (show 0<=x.Out by omega)];by_cases h2:x.Out >= 3
   ·rw[Yt h2,Yf (show ¬ x.Out<3 by omega)];rfl
   ·rw[Yf h2,Yt (show x.Out<3 by omega)];cases mOK x.Message<;>rfl
theorem Xv0 {l:List X09} (hl:l.length<=140737488355328):Xb2 l=some (l.all sOK):=by
 unfold Xb2;rw[X26 hl,Yo,Xng];cases l.all sOK<;>rfl
theorem Xyr (t:Xo) (hn:t.Events.length<=1000000):∀ (m n k:Nat),m=t.Events.length - k->m<n->k<=t.Events.length->X44 t n (k:Int)=some (if (t.Events.drop k).all Xui then .x1 else .x0):=by
 intro m
 induction m with
 |zero =>
  intro n k hm hmn hk;obtain⟨n,rfl⟩:∃ q,n=q+1:=⟨n - 1,by omega⟩;rw[X44,Yf om,List.drop_eq_nil_of_le om];rfl
 |succ m ih =>
  intro n k hm hmn hk;obtain⟨n,rfl⟩:∃ q,n=q+1:=⟨n - 1,by omega⟩;have hlt:k<t.Events.length:=by omega
  rw[X44,Yt om,cond_true,X2a,Ye hlt,Yo,Xw1,Yo,List.drop_eq_getElem_cons hlt,List.all_cons,Xz om om,show((k:Int)+1)=((k+1:Nat):Int) by omega,ih n (k+1) om om om];cases Xui t.Events[k]<;>rfl
theorem Xyq (t:Xo) (hn:t.Rows.length<=1000000):∀ (m n k:Nat),m=t.Rows.length - k->m<n->k<=t.Rows.length->X43 t n (k:Int)=some (if (t.Rows.drop k).all Xcw then .x1 else .x0):=by
 intro m
 induction m with
 |zero =>
  intro n k hm hmn hk;obtain⟨n,rfl⟩:∃ q,n=q+1:=⟨n - 1,by omega⟩;rw[X43,Yf om,List.drop_eq_nil_of_le om];rfl
 |succ m ih =>
  intro n k hm hmn hk;obtain⟨n,rfl⟩:∃ q,n=q+1:=⟨n - 1,by omega⟩;have hlt:k<t.Rows.length:=by omega
  rw[X43,Yt om,cond_true,X2a,Ye hlt,Yo,Xtr,Yo,List.drop_eq_getElem_cons hlt,List.all_cons,Xz om om,show((k:Int)+1)=((k+1:Nat):Int) by omega,ih n (k+1) om om om];cases Xcw t.Rows[k]<;>rfl
theorem Xyp (t:Xo) (hn:t.Late.length<=1000000):∀ (m n k:Nat),m=t.Late.length - k->m<n->k<=t.Late.length->X42 t n (k:Int)=some (if (t.Late.drop k).all (λr=>isT r.Time) then .x1 else .x0):=by
 intro m
 induction m with
 |zero =>
  intro n k hm hmn hk;obtain⟨n,rfl⟩:∃ q,n=q+1:=⟨n - 1,by omega⟩;rw[X42,Yf om,List.drop_eq_nil_of_le om];rfl
 |succ m ih =>
  intro n k hm hmn hk;obtain⟨n,rfl⟩:∃ q,n=q+1:=⟨n - 1,by omega⟩;have hlt:k<t.Late.length:=by omega
  rw[X42,Yt om,cond_true,X2a,Ye hlt,Yo,Xi7,Yo,List.drop_eq_getElem_cons hlt,List.all_cons,Xz om om,show((k:Int)+1)=((k+1:Nat):Int) by omega,ih n (k+1) om om om];cases isT t.Late[k].Time<;>rfl
theorem X03g {t:Xo} (h1:t.Marks.length<=10000) (h2:t.Events.length<=10000) (h3:t.Rows.length<=10000) (h4:t.Late.length<=10000):Xb3 t=some (t.Marks.all mkL&&(t.Events.all Xui&&(t.Rows.all Xcw&&t.Late.all λr=>isT r.Time))):=by
 have e0:=X03f t om (t.Marks.length - 0) FU 0 rfl (by unfold FU;omega) om;have e1:=Xyr t om (t.Events.length - 0) FU 0 rfl (by unfold FU;omega) om;have e2:=Xyq t om (t.Rows.length - 0) FU 0 rfl (by unfold FU;omega) om;have e3:=Xyp t om (t.Late.length - 0) FU 0 rfl (by unfold FU;omega) om;rw[show((0:Nat):Int)=0 from rfl,List.drop_zero] at e0 e1 e2 e3;unfold Xb3;rw[e0,e1,e2,e3];cases t.Marks.all mkL<;>cases t.Events.all Xui<;>cases t.Rows.all Xcw<;>cases t.Late.all (λr=>isT r.Time)<;>rfl
def Xyw (t:Xo):Prop:=(t.Marks.length:Int) >= (Xbs t.Op.Kind).1/\(t.Marks.length:Int)<=(Xbs t.Op.Kind).2.1/\(t.Store.length:Int)<=X7t (Xbs t.Op.Kind).2.2.1 4000/\(t.Events.length:Int)<=X7t (Xbs t.Op.Kind).2.2.2.1 60/\(t.Rows.length:Int)<=X7t (Xbs t.Op.Kind).2.2.2.2.1 4000/\(t.Late.length:Int)<=X7t (Xbs t.Op.Kind).2.2.2.2.2 4000
theorem X09p {t:Xo} (hs:t.Store.length<=100):∃ b,Xcx t=some b/\(b=true↔Xyw t):=by
 unfold Xcx Xyw;have i:∀ {A B C D E:Bool} {P:Prop},((A&&(B&&(C&&(D&&E))))=true↔P)->∃ b,some (A&&(B&&(C&&(D&&E))))=some b/\(b=true↔P):=λh=>⟨_,rfl,h⟩;by_cases h1:t.Op.Kind=1
 ·rw[show(t.Op.Kind==1)=true by simp[h1],cond_true];simp only[ch5];apply i;rw[h1,show Xbs 1=(0,0,false,true,false,false) from rfl];simp only[Bool.and_eq_true,decide_eq_true_eq,beq_iff_eq,X7t,if_true,if_false,Bool.false_eq_true]
  first|omega|(repeat' split<;>omega)
 rw[show(t.Op.Kind==1)=false by simp[h1],cond_false];by_cases h2:t.Op.Kind=2
 ·rw[show(t.Op.Kind==2)=true by simp[h2],cond_true];simp only[ch5];apply i;rw[h2,show Xbs 2=(1,1,false,false,false,false) from rfl];simp only[Bool.and_eq_true,decide_eq_true_eq,beq_iff_eq,X7t,if_true,if_false,Bool.false_eq_true]
  first|omega|(repeat' split<;>omega)
 rw[show(t.Op.Kind==2)=false by simp[h2],cond_false];by_cases h3:t.Op.Kind=3
 ·rw[show(t.Op.Kind==3)=true by simp[h3],cond_true];simp only[ch5];apply i;rw[h3,show Xbs 3=(0,0,false,false,false,false) from rfl];simp only[Bool.and_eq_true,decide_eq_true_eq,beq_iff_eq,X7t,if_true,if_false,Bool.false_eq_true]
  first|omega|(repeat' split<;>omega)
 rw[show(t.Op.Kind==3)=false by simp[h3],cond_false];by_cases h4:t.Op.Kind=4
 ·rw[show(t.Op.Kind==4)=true by simp[h4],cond_true];simp only[ch5];apply i;rw[h4,show Xbs 4=(1,4,true,false,false,false) from rfl];simp only[Bool.and_eq_true,decide_eq_true_eq,beq_iff_eq,X7t,if_true,if_false,Bool.false_eq_true]
  first|omega|(repeat' split<;>omega)
 rw[show(t.Op.Kind==4)=false by simp[h4],cond_false];by_cases h5:t.Op.Kind=5
 ·rw[show(t.Op.Kind==5)=true by simp[h5],cond_true];simp only[ch5];apply i;rw[h5,show Xbs 5=(2,2,true,false,false,false) from rfl];simp only[Bool.and_eq_true,decide_eq_true_eq,beq_iff_eq,X7t,if_true,if_false,Bool.false_eq_true]
  first|omega|(repeat' split<;>omega)
 rw[show(t.Op.Kind==5)=false by simp[h5],cond_false];by_cases h6:t.Op.Kind=6
 ·rw[show(t.Op.Kind==6)=true by simp[h6],cond_true];simp only[ch5];apply i;rw[h6,show Xbs 6=(0,0,false,false,true,false) from rfl];simp only[Bool.and_eq_true,decide_eq_true_eq,beq_iff_eq,X7t,if_true,if_false,Bool.false_eq_true]
  first|omega|(repeat' split<;>omega)
 rw[show(t.Op.Kind==6)=false by simp[h6],cond_false];by_cases h7:t.Op.Kind=7
 ·rw[show(t.Op.Kind==7)=true by simp[h7],cond_true];simp only[ch5];apply i;rw[h7,show Xbs 7=(0,0,false,false,false,true) from rfl];simp only[Bool.and_eq_true,decide_eq_true_eq,beq_iff_eq,X7t,if_true,if_false,Bool.false_eq_true]
  first|omega|(repeat' split<;>omega)
 rw[show(t.Op.Kind==7)=false by simp[h7],cond_false];refine⟨false,rfl,?_⟩;rw[show Xbs t.Op.Kind=(1,0,false,false,false,false) by unfold Xbs;rw[if_neg h1,if_neg h2,if_neg h3,if_neg h4,if_neg h5,if_neg h6,if_neg h7]];constructor
 ·intro h;cases h
 ·intro h;have a1:(t.Marks.length:Int) >= 1:=h.1;have a2:(t.Marks.length:Int)<=0:=h.2.1;omega
theorem Xl3 (t:Xo):tOK t=true↔(0<=t.Turn/\t.Turn<20/\0<=t.Op.N/\t.Op.N<4)/\((t.Pending.length:Int)<=4000/\Xyw t)/\t.Pending.all sOK=true/\Xo6 t.Store=true/\(t.Marks.all mkL=true/\t.Events.all Xui=true/\t.Rows.all Xcw=true/\t.Late.all (λr=>isT r.Time)=true)/\t.Store.all (λx=>decide (t.Op.Kind≠4)||(x.Values.e1.Count==0))=true:=by
 unfold tOK Xux Xgs Xps Xyw;simp only[Bool.and_eq_true,decide_eq_true_eq,ge_iff_le];constructor
 ·rintro⟨⟨⟨⟨h1,h2⟩,h3⟩,h4⟩,h5⟩;refine⟨⟨h1.1.1.1,h1.1.1.2,h1.1.2,h1.2⟩,⟨h2.1.1.1.1.1.1,h2.1.1.1.1.1.2,h2.1.1.1.1.2,h2.1.1.1.2,h2.1.1.2,h2.1.2,h2.2⟩,h3,h4,⟨h5.1.1.1.1,h5.1.1.1.2,h5.1.1.2,h5.1.2⟩,h5.2⟩
 ·rintro⟨⟨a1,a2,a3,a4⟩,⟨b1,b2,b3,b4,b5,b6,b7⟩,h3,h4,⟨c1,c2,c3,c4⟩,h5⟩;exact⟨⟨⟨⟨⟨⟨⟨a1,a2⟩,a3⟩,a4⟩,⟨⟨⟨⟨⟨⟨b1,b2⟩,b3⟩,b4⟩,b5⟩,b6⟩,b7⟩⟩,h3⟩,h4⟩,⟨⟨⟨⟨c1,c2⟩,c3⟩,c4⟩,h5⟩⟩
theorem X04h {t:Xo} (h1:t.Pending.length<=4010) (h2:t.Rows.length<=4010) (h3:t.Late.length<=4010) (h4:t.Store.length<=100) (h5:t.Events.length<=100) (h6:t.Marks.length<=20) :
  Xb5 t=some (if tOK t then 0 else 8):=by
 obtain⟨k,hk,hk4⟩:=X09p h4;have hs:=Xv0 (l:=t.Pending) om;have hb:=X03g (t:=t) om om om om;have hL:=Xw7 t om (t.Store.length - 0) FU 0 rfl (by unfold FU;omega) om;rw[show((0:Nat):Int)=0 from rfl,List.drop_zero] at hL;have hI:=Xl3 t;unfold Xb5;rw[hk,hs,hb,Xch,if_neg om,hL];by_cases n1:t.Turn<0
 ·rw[Yt n1,if_neg (c:=tOK t=true) (λh=>by have:=(hI.1 h).1.1;omega)];rfl
 rw[Yf n1];by_cases n2:t.Turn >= 20
 ·rw[Yt n2,if_neg (c:=tOK t=true) (λh=>by have:=(hI.1 h).1.2.1;omega)];rfl
 rw[Yf n2];by_cases n3:(List.length t.Pending:Int)>4000
 ·rw[Yt n3,if_neg (c:=tOK t=true) (λh=>by have:=(hI.1 h).2.1.1;omega)];rfl
 rw[Yf n3];by_cases n4:t.Op.N<0
 ·rw[Yt n4,if_neg (c:=tOK t=true) (λh=>by have:=(hI.1 h).1.2.2.1;omega)];rfl
 rw[Yf n4];by_cases n5:t.Op.N >= 4
 ·rw[Yt n5,if_neg (c:=tOK t=true) (λh=>by have:=(hI.1 h).1.2.2.2;omega)];rfl
 rw[Yf n5]
 cases k with
 |false=>rw[if_neg (c:=tOK t=true) (λh=>by have:=hk4.2 (hI.1 h).2.1.2;cases this)];rfl
 |true =>
 cases hs':t.Pending.all sOK with
 |false=>rw[if_neg (c:=tOK t=true) (λh=>by have:=(hI.1 h).2.2.1;rw[hs'] at this;cases this)];rfl
 |true =>
 cases hb':(t.Marks.all mkL&&(t.Events.all Xui&&(t.Rows.all Xcw&&t.Late.all λr=>isT r.Time))) with
 |false =>
  rw[if_neg (c:=tOK t=true) (λh=>by
   obtain⟨a,b,c,d⟩:=(hI.1 h).2.2.2.2.1
   rw[a,b,c,d] at hb';cases hb')];rfl
 |true =>
 simp only[Bool.and_eq_true] at hb'
 cases hst:Xo6 t.Store with
 |false=>rw[if_neg (c:=tOK t=true) (λh=>by have:=(hI.1 h).2.2.2.1;rw[hst] at this;cases this)];rfl
 |true =>
 cases he:t.Store.all (λx=>decide (t.Op.Kind≠4)||(x.Values.e1.Count==0)) with
 |false=>rw[if_neg (c:=tOK t=true) (λh=>by have:=(hI.1 h).2.2.2.2.2;rw[he] at this;cases this)];rfl
 |true =>
  rw[if_pos (c:=tOK t=true) (hI.2 ⟨⟨by omega,by omega,by omega,by omega⟩,⟨by omega,hk4.1 rfl⟩,hs',hst,⟨hb'.1,hb'.2.1,hb'.2.2.1,hb'.2.2.2⟩,he⟩)];rfl
end Go.D


namespace Go.D
theorem Xm0 (x:X1):Xj3 x x=true:=by
 simp[Xj3,X1e,Xjm,Xao]
theorem Xjc (l Y:List X09):∀ (xs:List X09) (k:Nat),l.drop k=xs->X2e Y l xs k=some .x0
 |[],k,_=>rfl
 |x::xs,k,h=>by
  have hk:l[k]?=some x:=by
   have:=congrArg (λz=>z[0]?) h;simpa using this
  have hd:l.drop (k+1)=xs:=by
   have:=congrArg List.tail h;simpa using this
  rw[X2e,X2a,hk,Yo,Xn3];exact Xjc l Y xs (k+1) hd
theorem Xxp (t:Xo) (hn:t.Marks.length<=90000):∀ (m n k:Nat),m=t.Marks.length - k->m<n->k<=t.Marks.length->X4u t t n (k:Int)=some .x1:=by
 intro m
 induction m with
 |zero =>
  intro n k hm hmn hk;obtain⟨n,rfl⟩:∃ q,n=q+1:=⟨n - 1,by omega⟩;rw[X4u,Yf om];rfl
 |succ m ih =>
  intro n k hm hmn hk;obtain⟨n,rfl⟩:∃ q,n=q+1:=⟨n - 1,by omega⟩;have hlt:k<t.Marks.length:=by omega
  rw[X4u,Yt om,cond_true,X2a,Ye hlt,Yo,Yo,show(t.Marks[k] != t.Marks[k])=false by simp,cond_false,Xz om om,show((k:Int)+1)=((k+1:Nat):Int) by omega,ih n (k+1) om om om]
theorem Xxo (t:Xo) (hn:t.Store.length<=90000):∀ (m n k:Nat),m=t.Store.length - k->m<n->k<=t.Store.length->X4t t t n (k:Int)=some .x1:=by
 intro m
 induction m with
 |zero =>
  intro n k hm hmn hk;obtain⟨n,rfl⟩:∃ q,n=q+1:=⟨n - 1,by omega⟩;rw[X4t,Yf om];rfl
 |succ m ih =>
  intro n k hm hmn hk;obtain⟨n,rfl⟩:∃ q,n=q+1:=⟨n - 1,by omega⟩;have hlt:k<t.Store.length:=by omega
  rw[X4t,Yt om,cond_true,X2a,Ye hlt,Yo,Yo,Xm0,Bool.not_true,cond_false,Xz om om,show((k:Int)+1)=((k+1:Nat):Int) by omega,ih n (k+1) om om om]
theorem Xxn (t:Xo) (hn:t.Events.length<=90000):∀ (m n k:Nat),m=t.Events.length - k->m<n->k<=t.Events.length->X4s t t n (k:Int)=some .x1:=by
 intro m
 induction m with
 |zero =>
  intro n k hm hmn hk;obtain⟨n,rfl⟩:∃ q,n=q+1:=⟨n - 1,by omega⟩;rw[X4s,Yf om];rfl
 |succ m ih =>
  intro n k hm hmn hk;obtain⟨n,rfl⟩:∃ q,n=q+1:=⟨n - 1,by omega⟩;have hlt:k<t.Events.length:=by omega
  rw[X4s,Yt om,cond_true,X2a,Ye hlt,Yo,Yo,show Xj2 t.Events[k] t.Events[k]=true by simp[Xj2,X27],Bool.not_true,cond_false,Xz om om,show((k:Int)+1)=((k+1:Nat):Int) by omega,ih n (k+1) om om om]
theorem Xxm (t:Xo) (hn:t.Rows.length<=90000):∀ (m n k:Nat),m=t.Rows.length - k->m<n->k<=t.Rows.length->X4r t t n (k:Int)=some .x1:=by
 intro m
 induction m with
 |zero =>
  intro n k hm hmn hk;obtain⟨n,rfl⟩:∃ q,n=q+1:=⟨n - 1,by omega⟩;rw[X4r,Yf om];rfl
 |succ m ih =>
  intro n k hm hmn hk;obtain⟨n,rfl⟩:∃ q,n=q+1:=⟨n - 1,by omega⟩;have hlt:k<t.Rows.length:=by omega
  rw[X4r,Yt om,cond_true,X2a,Ye hlt,Yo,Yo,show X6u t.Rows[k] t.Rows[k]=true by simp[X6u,X1e,Xhs],Bool.not_true,cond_false,Xz om om,show((k:Int)+1)=((k+1:Nat):Int) by omega,ih n (k+1) om om om]
theorem Xxl (t:Xo) (hn:t.Late.length<=90000):∀ (m n k:Nat),m=t.Late.length - k->m<n->k<=t.Late.length->X4q t t n (k:Int)=some .x1:=by
 intro m
 induction m with
 |zero =>
  intro n k hm hmn hk;obtain⟨n,rfl⟩:∃ q,n=q+1:=⟨n - 1,by omega⟩;rw[X4q,Yf om];rfl
 |succ m ih =>
  intro n k hm hmn hk;obtain⟨n,rfl⟩:∃ q,n=q+1:=⟨n - 1,by omega⟩;have hlt:k<t.Late.length:=by omega
  rw[X4q,Yt om,cond_true,X2a,Ye hlt,Yo,Yo,show X27 t.Late[k] t.Late[k]=true by simp[X27],Bool.not_true,cond_false,Xz om om,show((k:Int)+1)=((k+1:Nat):Int) by omega,ih n (k+1) om om om]
theorem Xre {t:Xo} (h1:t.Pending.length<=90000) (h2:t.Marks.length<=90000) (h3:t.Store.length<=90000) (h4:t.Events.length<=90000) (h5:t.Rows.length<=90000) (h6:t.Late.length<=90000):X7f t t=some true:=by
 have e0:=Xxp t h2 (t.Marks.length - 0) FU 0 rfl (by unfold FU;omega) om;have e1:=Xxo t h3 (t.Store.length - 0) FU 0 rfl (by unfold FU;omega) om;have e2:=Xxn t h4 (t.Events.length - 0) FU 0 rfl (by unfold FU;omega) om;have e3:=Xxm t h5 (t.Rows.length - 0) FU 0 rfl (by unfold FU;omega) om;have e4:=Xxl t h6 (t.Late.length - 0) FU 0 rfl (by unfold FU;omega) om;rw[show((0:Nat):Int)=0 from rfl] at e0 e1 e2 e3 e4;have es:X5o t.Pending t.Pending=some true:=by
  unfold X5o;rw[show((List.length t.Pending:Int) != (List.length t.Pending:Int))=false by simp,cond_false,X26 om,Yo,Xjc t.Pending t.Pending t.Pending 0 rfl];rfl
 have ho:Xbp t.Op t.Op=true:=by simp[Xbp]
 have ne:∀ z:Int,(z != z)=false:=λz=>by simp
 unfold X7f;rw[ho,es,e0,e1,e2,e3,e4];simp only[ne,Bool.not_true,cond_false,Yo]
end Go.D


namespace Go.D
theorem X09e {l out:List X1} {x:X1} {k:Nat} (hx:l[k]?=some x) (hn:out.length<=90000):∀ (f a:Nat),a<f->a<=out.length ->
  ∃ b:Nat,X4g l out (k:Int) f (a:Int)=some (.x0 out (b:Int))/\b<=a/\(∀ i,b<=i->i<a->∀ y,out[i]?=some y->ltE x y)/\(∀ y,0<b->out[b - 1]?=some y->¬ ltE x y):=by
 intro f
 induction f with
 |zero=>intro a h;omega
 |succ f ih =>
  intro a hf ha;rw[X4g];by_cases h0:0<a
  ·have hlt:a - 1<out.length:=by omega
   have hw:IntKind.i64.wrap ((a:Int) - 1)=((a - 1:Nat):Int):=by rw[Xz om om];omega
   rw[Yt (show(a:Int)>0 by omega),cond_true,X2a,hx,Yo,hw,X2a,Ye hlt,Yo,Xh2,Yo];by_cases hl:ltE x out[a - 1]
   ·rw[Yt hl];simp only[cond_true,Yo];obtain⟨b,h1,h2,h3,h4⟩:=ih (a - 1) om om;refine⟨b,h1,by omega,λi hi hia y hy=>?_,h4⟩;by_cases e:i=a - 1
    ·subst e;rw[Ye hlt] at hy;cases hy;exact hl
    ·exact h3 i hi om y hy
   ·rw[Yf hl];simp only[cond_true,cond_false,Yo];exact⟨a,rfl,Nat.le_refl _,λi h1 h2=>by omega,λy _ hy=>by rw[Ye hlt] at hy;cases hy;exact hl⟩
  ·rw[Yf (show ¬ (a:Int)>0 by omega)];simp only[cond_false,Yo];exact⟨a,rfl,Nat.le_refl _,λi h1 h2=>by omega,λy h=>absurd h h0⟩
theorem X09d {l out:List X1} {k a:Nat} (hn:out.length<=90000):∀ (f j:Nat) (z:X1),j - a<f->a<=j->j<=out.length ->
  ∃ z',X4f l (k:Int) (a:Int) f (out.take j++z::out.drop j) (j:Int)=some (.x0 (out.take a++z'::out.drop a)):=by
 intro f
 induction f with
 |zero=>intro j z h;omega
 |succ f ih =>
  intro j z hf ha hj;rw[X4f];by_cases h0:a<j
  ·have hlt:j - 1<out.length:=by omega
   have hw:IntKind.i64.wrap ((j:Int) - 1)=((j - 1:Nat):Int):=by rw[Xz om om];omega
   have htl:(out.take j).length=j:=by rw[List.length_take];omega
   have hg:(out.take j++z::out.drop j)[j - 1]?=some out[j - 1]:=by
    rw[List.getElem?_append_left om,List.getElem?_take,if_pos om,Ye hlt]
   have hg2:(out.take j++z::out.drop j)[j]?=some z:=by
    rw[List.getElem?_append_right om,htl];simp
   rw[Yt (show(j:Int)>(a:Int) by omega),cond_true,hw,X2a,hg,Yo,X2a,hg2,Yo];have hs:(out.take j++z::out.drop j).set (Int.toNat (j:Int)) out[j - 1]=out.take (j - 1)++out[j - 1]::out.drop (j - 1):=by
    rw[show Int.toNat (j:Int)=j by omega,List.set_append_right _ _ om,htl,Nat.sub_self,List.set_cons_zero];have e1:out.take j=out.take (j - 1)++[out[j - 1]]:=by
     have:=List.take_succ_eq_append_getElem hlt
     rwa [show j - 1+1=j by omega] at this
    have e2:out.drop (j - 1)=out[j - 1]::out.drop j:=by
     have:=List.drop_eq_getElem_cons hlt
     rwa [show j - 1+1=j by omega] at this
    rw[e1,e2,List.append_assoc];rfl
   rw[hs];exact ih (j - 1) _ om om om
  ·have:j=a:=by omega
   subst this;rw[Yf (show ¬ (j:Int)>(j:Int) by omega)];exact⟨z,rfl⟩
theorem X04v (l:List X1):∀ (xs:List X1) (k:Nat) (out:List X1),l.drop k=xs->out.length+xs.length<=80000->out.Pairwise ltE->(∀ x∈xs,∀ y∈out,¬ X2m y x)->xs.Pairwise (λx y=>¬ X2m x y) ->
  ∃ o,X3i l xs k out=some (.x0 o)/\o.Pairwise ltE/\(∀ e,e∈o↔e∈out\/e∈xs)/\o.length=out.length+xs.length
 |[],k,out,_,_,hs,_,_=>⟨out,rfl,hs,by simp,by simp⟩
 |x::xs,k,out,hd,hn,hs,hx,hp=>by
  simp only[List.length_cons] at hn;rw[List.pairwise_cons] at hp;have hk:l[k]?=some x:=by
   have:=congrArg (λz=>z[0]?) hd;simpa using this
  have hd':l.drop (k+1)=xs:=by
   have:=congrArg List.tail hd;simpa using this
  obtain⟨a,h1,h2,h3,h4⟩:=X09e hk (out:=out) om FU out.length (by unfold FU;omega) (Nat.le_refl _);have hw:IntKind.i64.wrap ((List.length (out++[(X1.mk 0 (Xy.mk 0 0) (V2.mk (Xm.mk 0 0 0 0) (Xm.mk 0 0 0 0)))]):Int) - 1)=((out.length:Nat):Int):=by
   rw[List.length_append,List.length_singleton,Xz om om];omega
  obtain⟨z,g1⟩:=X09d (l:=l) (k:=k) (a:=a) (out:=out) om FU out.length (X1.mk 0 (Xy.mk 0 0) (V2.mk (Xm.mk 0 0 0 0) (Xm.mk 0 0 0 0))) (by unfold FU;omega) h2 (Nat.le_refl _);rw[List.take_length,List.drop_length] at g1;have htl:(out.take a).length=a:=by rw[List.length_take];omega
  have hset:(out.take a++z::out.drop a).set (Int.toNat (a:Int)) x=out.take a++x::out.drop a:=by
   rw[show Int.toNat (a:Int)=a by omega,List.set_append_right _ _ om,htl,Nat.sub_self,List.set_cons_zero]
  have hgz:(out.take a++z::out.drop a)[a]?=some z:=by rw[List.getElem?_append_right om,htl];simp
  have hlt:∀ y∈out,ltE y x\/ltE x y:=λy hy=>by
   rcases Xhd (a:=y) (b:=x) with h|h|h
   ·exact .inl h
   ·exact absurd h (hx x (by simp) y hy)
   ·exact .inr h
  have hbef:∀ y∈out.take a,ltE y x:=by
   intro y hy;obtain⟨i,hi,he⟩:=List.mem_iff_getElem.1 hy;rw[htl] at hi;rw[List.getElem_take] at he;have hyo:y∈out:=List.take_subset _ _ hy;rcases hlt y hyo with h|h
   ·exact h
   ·exfalso;have hal:a - 1<out.length:=by omega
    have hna:=h4 out[a - 1] om (Ye hal);by_cases e:i=a - 1
    ·subst e;rw[he] at hna;exact hna h
    ·have:=List.pairwise_iff_getElem.1 hs i (a - 1) om hal om;rw[he] at this;exact hna (Xd4 h this)
  have haft:∀ y∈out.drop a,ltE x y:=by
   intro y hy;obtain⟨i,hi,he⟩:=List.mem_iff_getElem.1 hy;rw[List.length_drop] at hi;rw[List.getElem_drop] at he;exact h3 (a+i) om om y (by rw[Ye om,he])
  have hs':(out.take a++x::out.drop a).Pairwise ltE:=by
   rw[List.pairwise_append];refine⟨hs.sublist (List.take_sublist _ _),List.pairwise_cons.2 ⟨haft,hs.sublist (List.drop_sublist _ _)⟩,λy hy w hw=>?_⟩;rcases List.mem_cons.1 hw with rfl|hw
   ·exact hbef y hy
   ·exact Xd4 (hbef y hy) (haft w hw)
  have hm:∀ e,e∈out.take a++x::out.drop a↔e∈out\/e=x:=by
   intro e
   conv=>rhs;rw[<-List.take_append_drop a out]
   simp only[List.mem_append,List.mem_cons];constructor
   ·rintro(h|h|h)<;>simp[h]
   ·rintro((h|h)|h)<;>simp[h]
  have hlen:(out.take a++x::out.drop a).length=out.length+1:=by rw[List.length_append,List.length_cons,List.length_take,List.length_drop];omega
  obtain⟨o,o1,o2,o3,o4⟩:=X04v l xs (k+1) (out.take a++x::out.drop a) hd' om hs' (λy hy w hw=>by
   rcases(hm w).1 hw with h|rfl
   ·exact hx y (List.mem_cons_of_mem _ hy) w h
   ·exact hp.1 y hy) hp.2
  refine⟨o,?_,o2,λe=>?_,by simp only[List.length_cons];omega⟩
  ·rw[X3i,h1,Yo];simp only;rw[X1j (by rw[List.length_append,List.length_singleton];omega),Yo,hw,g1,Yo];simp only;rw[X2a,hgz,Yo,hset];exact o1
  ·rw[o3,hm];simp only[List.mem_cons];constructor
   ·rintro((h|h)|h)<;>simp[h]
   ·rintro(h|h|h)<;>simp[h]
theorem Xb9 {l:List X1} (hp:l.Pairwise λx y=>¬ X2m x y) (hn:l.length<=80000) :
  ∃ o,X7g l=some o/\o.Pairwise ltE/\(∀ e,e∈o↔e∈l)/\o.length=l.length:=by
 obtain⟨o,h1,h2,h3,h4⟩:=X04v l l 0 [] rfl (by simpa using hn) .nil (by simp) hp;refine⟨o,?_,h2,by simpa using h3,by simpa using h4⟩;unfold X7g;rw[X26 om,Yo,h1];rfl
end Go.D


namespace Go.D
theorem Xh6 {t g:Int} (ht:okT t) (h1:1<=g) (h2:g<=1073741824):X90 t g=some 0:=by
 obtain⟨t1,t2⟩:=ht;unfold X90;have e1:decide (g<1)=false:=Yf om;have e2:decide (g>1073741824)=false:=Yf om;have e3:decide (t < -1099511627776)=false:=Yf om;have e4:decide (t>1099511627776)=false:=Yf om;simp only[e1,e2,e3,e4];rfl
theorem Xge {t e:Int} (ht:okT t) (h1:1<=e) (h2:e<=1073741824):Xff t e=some (t / e):=by
 obtain⟨t1,t2⟩:=ht;unfold Xff;have hd:Xqm e=some ():=by unfold Xqm;rw[if_pos om]
 rw[hd,Yo];have q0:Int.tdiv 1099511627776 e=1099511627776 / e:=Int.tdiv_eq_ediv_of_nonneg om;have q1:(0:Int)<=1099511627776 / e:=Int.ediv_nonneg om om;have q2:1099511627776 / e<=1099511627776:=Int.ediv_le_self _ om;have m1:=Int.mul_ediv_add_emod 1099511627776 e;have m2:=Int.emod_nonneg 1099511627776 (show e≠0 by omega);have m3:=Int.emod_lt_of_pos 1099511627776 (show 0<e by omega);generalize 1099511627776 / e=q at *;have p1:(q+1)*e=e*q+e:=by rw[Int.add_mul,Int.mul_comm];omega
 rw[q0,Xz (z:=q) om om,Xz (z:=q+1) om om,p1,Xz (z:=e*q+e) om om,Xz (z:=t+(e*q+e)) om om];have hn:0<=t+(e*q+e):=by omega
 have h3:Int.tdiv (t+(e*q+e)) e=t / e+(q+1):=by
  rw[Int.tdiv_eq_ediv_of_nonneg hn,show t+(e*q+e)=t+(q+1)*e by rw[p1],Int.add_mul_ediv_right _ _ om]
 have b1:t / e<=1099511627776:=by
  have hm:=Int.mul_ediv_add_emod t e;have hm1:=Int.emod_nonneg t (show e≠0 by omega);rcases Xwq 1099511627776 (t / e) with h|h
  ·exfalso;have:e*1099511627777<=e*(t / e):=Int.mul_le_mul_of_nonneg_left om om;omega
  ·exact h
 have b2 : -1099511627776<=t / e:=by
  have hm:=Int.mul_ediv_add_emod t e;have hm2:=Int.emod_lt_of_pos t (show 0<e by omega);rcases Xwq (t / e) (-1099511627776) with h|h
  ·exfalso;have:e*(t / e)<=e*(-1099511627777):=Int.mul_le_mul_of_nonneg_left om om;omega
  ·exact h
 rw[h3,Xz (z:=t / e+(q+1)) om om,Xz om om];congr 1;omega
theorem X08f {t e:Int} (ht:okT t) (h1:1<=e):e*(t / e)<=t/\t<e*(t / e)+e /\ -1099511627776<=t / e/\t / e<=1099511627776:=by
 obtain⟨t1,t2⟩:=ht;have hm:=Int.mul_ediv_add_emod t e;have hm1:=Int.emod_nonneg t (show e≠0 by omega);have hm2:=Int.emod_lt_of_pos t (show 0<e by omega);refine⟨by omega,by omega,?_,?_⟩
 ·rcases Xwq (t / e) (-1099511627776) with h|h
  ·exfalso;have:e*(t / e)<=e*(-1099511627777):=Int.mul_le_mul_of_nonneg_left om om;omega
  ·exact h
 ·rcases Xwq 1099511627776 (t / e) with h|h
  ·exfalso;have:e*1099511627777<=e*(t / e):=Int.mul_le_mul_of_nonneg_left om om;omega
  ·exact h
theorem X096 {t size every n:Int} (ht:okT t) (h1:1<=every) (h2:size<=1073741824) (h3:every<=size) (hn:n=t / every):∀ (m f:Nat) (i:Int) (acc:List Xy),m=(n+2 - i).toNat->m<f->n - 16<=i->i<=n+2->acc.length+m<=100 ->
  ∃ W,X30 t size every n f acc i=some (.x0 (acc++W))/\(W.length<=m/\W.Nodup)/\∀ s,s∈W↔∃ j,i<=j/\j<=n+1/\s.Start=j*every/\s.End=j*every+size/\s.Start<=t/\t<s.End:=by
 obtain⟨a1,a2,a3,a4⟩:=X08f ht h1;rw[<-hn] at a1 a2 a3 a4;obtain⟨t1,t2⟩:=ht;intro m
 induction m with
 |zero =>
  intro f i acc hm hf hi hi2 hacc;obtain⟨f,rfl⟩:∃ q,f=q+1:=⟨f - 1,by omega⟩;refine⟨[],?_,⟨by simp,List.nodup_nil⟩,λs=>⟨λh=>by simp at h,λ⟨j,g1,g2,_⟩=>by omega⟩⟩;rw[X30,Xz om om,Yf om];simp
 |succ m ih =>
  intro f i acc hm hf hi hi2 hacc;obtain⟨f,rfl⟩:∃ q,f=q+1:=⟨f - 1,by omega⟩;have b1:every*(n - 16)<=every*i:=Int.mul_le_mul_of_nonneg_left hi om;have b2:every*i<=every*(n+1):=Int.mul_le_mul_of_nonneg_left om om;rw[Int.mul_sub] at b1;rw[Int.mul_add] at b2;have e1:i*every=every*i:=Int.mul_comm _ _;have w1:IntKind.i64.wrap (i*every)=i*every:=Xz om om;have w2:IntKind.i64.wrap (i*every+size)=i*every+size:=Xz om om;have w3:IntKind.i64.wrap (i+1)=i+1:=Xz om om;have w4:IntKind.i64.wrap (n+1)=n+1:=Xz om om;rw[X30,w4,Yt (show i<=n+1 by omega),cond_true,w1,w2,w3];by_cases hin:i*every<=t/\t<i*every+size
  ·rw[Yt hin.1,cond_true,Yt hin.2,cond_true,X1j (by rw[List.length_append,List.length_singleton];omega)];simp only[Yo];obtain⟨W,g1,⟨g2,gn⟩,g3⟩:=ih f (i+1) (acc++[⟨i*every,i*every+size⟩]) om om om om (by rw[List.length_append,List.length_singleton];omega);refine⟨⟨i*every,i*every+size⟩::W,?_,⟨by simp only[List.length_cons];omega,List.nodup_cons.2 ⟨λhm=>?_,gn⟩⟩,λs=>?_⟩
   ·rw[g1];simp
   ·obtain⟨j,q1,_,q3,_⟩:=(g3 _).1 hm;have q3:i*every=j*every:=q3;have:(i+1)*every<=j*every:=Int.mul_le_mul_of_nonneg_right q1 om;rw[Int.add_mul] at this;omega
   ·rw[List.mem_cons,g3];constructor
    ·rintro(rfl|⟨j,q1,q2⟩)
     ·exact⟨i,by omega,by omega,rfl,rfl,hin.1,hin.2⟩
     ·exact⟨j,by omega,q2⟩
    ·rintro⟨j,q1,q2,q3,q4,q5⟩;by_cases hj:j=i
     ·subst hj;left;exact Xa1 q3 q4
     ·right;exact⟨j,by omega,q2,q3,q4,q5⟩
  ·have hb:(bif decide (i*every<=t) then decide (t<i*every+size) else false)=false:=by
    by_cases hx:i*every<=t
    ·rw[Yt hx,cond_true,Yf (λh=>hin ⟨hx,h⟩)]
    ·rw[Yf hx];rfl
   rw[hb];simp only[cond_false,Yo];obtain⟨W,g1,⟨g2,gn⟩,g3⟩:=ih f (i+1) acc om om om om om;refine⟨W,g1,⟨by omega,gn⟩,λs=>?_⟩;rw[g3];constructor
   ·rintro⟨j,q1,q2⟩;exact⟨j,by omega,q2⟩
   ·rintro⟨j,q1,q2,q3,q4,q5,q6⟩;by_cases hj:j=i
    ·subst hj;rw[q3] at q5;rw[q4] at q6;exact absurd ⟨q5,q6⟩ hin
    ·exact⟨j,by omega,q2,q3,q4,q5,q6⟩
theorem Xx8 {w:X1z} {t:Int} (hw:okW w) (hk:w.Kind≠3) (ht:okT t):∃ W,Xbb w t=some W/\(W.length<=18/\W.Nodup)/\∀ s,s∈W↔Xsp w.Size (Xhr w) t s:=by
 obtain⟨z1,z2,z3⟩:=hw;unfold Xbb;by_cases k1:w.Kind=1
 ·have e:(w.Kind==1)=true:=by simp[k1]
  obtain⟨a1,a2,a3,a4⟩:=X08f ht z1;have hc:w.Size*(t / w.Size)=t / w.Size*w.Size:=Int.mul_comm _ _;have ho:Xh5 t w.Size=some (⟨t / w.Size*w.Size,t / w.Size*w.Size+w.Size⟩,0):=by
   unfold Xh5;rw[Xh6 ht z1 z2,Yo];simp only[bne_self_eq_false,cond_false];obtain⟨t1,t2⟩:=ht;rw[Xge ⟨t1,t2⟩ z1 z2,Yo,Xz (z:=t / w.Size*w.Size) om om,Xz om om]
  rw[e,cond_true,ho];refine⟨_,rfl,⟨by simp,by simp⟩,λs=>?_⟩;rw[List.mem_singleton];unfold Xhr Xsp inS;rw[if_pos k1];constructor
  ·rintro rfl;exact⟨Int.mul_emod_left _ _,rfl,by show t / w.Size*w.Size<=t;omega,by show t<t / w.Size*w.Size+w.Size;omega⟩
  ·rintro⟨q1,q2,q3,q4⟩;have hd:=Int.mul_ediv_add_emod s.Start w.Size;rw[q1] at hd;have hq:s.Start / w.Size=t / w.Size:=by
    rcases Xwq (s.Start / w.Size) (t / w.Size) with h|h
    ·exfalso;have:w.Size*(s.Start / w.Size+1)<=w.Size*(t / w.Size):=Int.mul_le_mul_of_nonneg_left om om;rw[Int.mul_add] at this;omega
    ·rcases Xwq (t / w.Size) (s.Start / w.Size) with h'|h'
     ·exfalso;have:w.Size*(t / w.Size+1)<=w.Size*(s.Start / w.Size):=Int.mul_le_mul_of_nonneg_left om om;rw[Int.mul_add] at this;omega
     ·omega
   rw[hq] at hd;exact Xa1 (by show s.Start=t / w.Size*w.Size;omega) (by show s.End=t / w.Size*w.Size+w.Size;omega)
 ·have e:(w.Kind==1)=false:=by simp[k1]
  have z4:w.Kind=2/\1<=w.Every/\w.Every<=w.Size/\w.Size<=16*w.Every:=by
   rcases z3 with h|⟨h|h,_⟩
   ·exact h
   ·exact absurd h k1
   ·exact absurd h hk
  obtain⟨_,y1,y2,y3⟩:=z4;obtain⟨a1,a2,a3,a4⟩:=X08f ht y1;obtain⟨W,g1,g2,g3⟩:=X096 (n:=t / w.Every) ht y1 z2 y2 rfl 18 FU (t / w.Every - 16) [] om (by unfold FU;omega) om om (by simp);rw[List.nil_append] at g1;have hW:X81 t w.Size w.Every=some W:=by
   unfold X81;rw[Xge ht y1 om,Yo,Xz (z:=t / w.Every - 16) om om,g1];rfl
  rw[e,cond_false,hW];refine⟨W,rfl,g2,λs=>?_⟩;rw[g3];unfold Xhr Xsp inS;rw[if_neg k1];constructor
  ·rintro⟨j,q1,q2,q3,q4,q5,q6⟩;refine⟨by rw[q3];exact Int.mul_emod_left _ _,by omega,q5,q6⟩
  ·rintro⟨q1,q2,q3,q4⟩;have hd:=Int.mul_ediv_add_emod s.Start w.Every;rw[q1] at hd;have hc:w.Every*(s.Start / w.Every)=s.Start / w.Every*w.Every:=Int.mul_comm _ _;refine⟨s.Start / w.Every,?_,?_,by omega,by omega,q3,q4⟩
   ·rcases Xwq (s.Start / w.Every) (t / w.Every - 16) with h|h
    ·exfalso;have:w.Every*(s.Start / w.Every+17)<=w.Every*(t / w.Every):=Int.mul_le_mul_of_nonneg_left om om;rw[Int.mul_add] at this;omega
    ·exact h
   ·rcases Xwq (t / w.Every+1) (s.Start / w.Every) with h|h
    ·exfalso;have:w.Every*(t / w.Every+2)<=w.Every*(s.Start / w.Every):=Int.mul_le_mul_of_nonneg_left om om;rw[Int.mul_add] at this;omega
    ·exact h
def Xv5 (a b:Xy):Prop:=a.Start<b.End/\b.Start<a.End
instance (a b:Xy):Decidable (Xv5 a b):=by unfold Xv5;infer_instance
theorem Xv4 (a b:Xy):X4w a b=some (decide (Xv5 a b)):=by
 unfold X4w Xv5;by_cases h:a.Start<b.End<;>simp[h]
end Go.D


namespace Go.D
theorem X05b (a b:Int):Xbf 8 a b=some (IntKind.i64.wrap (a+b)):=rfl
theorem Xh4 {a b:Xm} (ha:0<=a.Count/\a.Count<=1000000000000) (hb:0<=b.Count/\b.Count<=1000000000000):Xah a b=some (X36 a b):=by
 unfold Xah X36;by_cases h1:a.Count=0
 ·rw[show(a.Count==0)=true by simpa using h1,if_pos h1];rfl
 ·rw[show(a.Count==0)=false by simpa using h1,if_neg h1,cond_false];by_cases h2:b.Count=0
  ·rw[show(b.Count==0)=true by simpa using h2,if_pos h2];rfl
  ·rw[show(b.Count==0)=false by simpa using h2,if_neg h2,cond_false,X05b,Yo,Xz om om];by_cases h3:b.Min<a.Min
   ·rw[Yt h3,cond_true,Yo,if_pos h3];by_cases h4:b.Max>a.Max
    ·rw[Yt h4,if_pos h4];rfl
    ·rw[Yf h4,if_neg h4];rfl
   ·rw[Yf h3,cond_false,Yo,if_neg h3];by_cases h4:b.Max>a.Max
    ·rw[Yt h4,if_pos h4];rfl
    ·rw[Yf h4,if_neg h4];rfl
theorem X85 {a b:Xm} (ha:0<=a.Count) (hb:0<=b.Count):(X36 a b).Count=a.Count+b.Count:=by
 unfold X36;split
 ·omega
 ·split
  ·omega
  ·rfl
def cB (n:Nat) (x:X1):Prop:=(0<=x.Values.e0.Count/\x.Values.e0.Count<=1073741824*n)/\0<=x.Values.e1.Count/\x.Values.e1.Count<=1073741824*n
def Xfr (x:X1):Bool:=decide (x.Values.e0.Count<=1073741824)&&decide (x.Values.e1.Count<=1073741824)
theorem Xev {x y:X1} {n m:Nat} (hx:cB n x) (hy:cB m y):(X33 x y).Values.e0.Count=x.Values.e0.Count+y.Values.e0.Count/\(X33 x y).Values.e1.Count=x.Values.e1.Count+y.Values.e1.Count:=by
 obtain⟨⟨a1,a2⟩,a3,a4⟩:=hx;obtain⟨⟨b1,b2⟩,b3,b4⟩:=hy;exact⟨X85 a1 b1,X85 a3 b3⟩
theorem Xu9 {x y:X1} {n m:Nat} (hx:cB n x) (hy:cB m y):cB (n+m) (X33 x y):=by
 obtain⟨h1,h2⟩:=Xev hx hy;obtain⟨⟨a1,a2⟩,a3,a4⟩:=hx;obtain⟨⟨b1,b2⟩,b3,b4⟩:=hy;unfold cB;rw[h1,h2];omega
theorem Xh3 {x y:X1} (hx:cB 200 x) (hy:cB 200 y):Xd0 x y=some (X33 x y,Xfr (X33 x y)):=by
 obtain⟨h1,h2⟩:=Xev hx hy;obtain⟨⟨a1,a2⟩,a3,a4⟩:=hx;obtain⟨⟨b1,b2⟩,b3,b4⟩:=hy;unfold Xd0;rw[Xh4 ⟨a1,by omega⟩ ⟨b1,by omega⟩,Yo,Xh4 (a:=x.Values.e1) ⟨a3,by omega⟩ ⟨b3,by omega⟩];rw[Xz (z:=x.Values.e0.Count+y.Values.e0.Count) om om,Xz (z:=x.Values.e1.Count+y.Values.e1.Count) om om];unfold Xfr;rw[h1,h2];by_cases c0:x.Values.e0.Count+y.Values.e0.Count<=1073741824
 ·rw[Yt c0];rfl
 ·rw[Yf c0];rfl
inductive Cl:X1->List X1->X1->List X1->List X1->Prop
 |refl (x R):Cl x R x R []
 |step {x x' y:X1} {a b R' M:List X1} (h:Xki x y) (r:Cl (X33 x y) (a++b) x' R' M):Cl x (a++y::b) x' R' (y::M)
theorem Cl.perm {x x':X1} {R R' M:List X1} (h:Cl x R x' R' M):R.Perm (M++R'):=by
 induction h with
 |refl=>exact .refl _
 |step h r ih=>exact List.perm_middle.trans (List.Perm.cons _ ih)
theorem Cl.sub {x x':X1} {R R' M:List X1} (h:Cl x R x' R' M):R'.Sublist R:=by
 induction h with
 |refl=>exact .refl _
 |step h r ih=>exact ih.trans (List.Sublist.append_left (List.sublist_cons_self _ _) _)
theorem Cl.fold {x x':X1} {R R' M:List X1} (h:Cl x R x' R' M):x'=M.foldl X33 x:=by
 induction h with
 |refl=>rfl
 |step h r ih=>exact ih
theorem Cl.trans {x x' x'':X1} {R R' R'' M M':List X1} (h:Cl x R x' R' M) (k:Cl x' R' x'' R'' M'):Cl x R x'' R'' (M++M'):=by
 induction h with
 |refl=>exact k
 |step h r ih=>exact .step h (ih k)
def inE (a b:X1):Prop:=a.Key=b.Key/\b.Span.Start<=a.Span.Start/\a.Span.End<=b.Span.End
theorem inE.hull (x y:X1):inE x (X33 x y):=by
 refine⟨rfl,?_,?_⟩
 ·show(if y.Span.Start<x.Span.Start then y.Span.Start else x.Span.Start)<=x.Span.Start;split<;>omega
 ·show x.Span.End<=(if y.Span.End>x.Span.End then y.Span.End else x.Span.End);split<;>omega
theorem inE.hull2 {x y:X1} (h:y.Key=x.Key):inE y (X33 x y):=by
 refine⟨h,?_,?_⟩
 ·show(if y.Span.Start<x.Span.Start then y.Span.Start else x.Span.Start)<=y.Span.Start;split<;>omega
 ·show y.Span.End<=(if y.Span.End>x.Span.End then y.Span.End else x.Span.End);split<;>omega
theorem inE.trans {a b c:X1} (h:inE a b) (k:inE b c):inE a c:=⟨h.1.trans k.1,by have:=h.2.1;have:=k.2.1;omega,by have:=h.2.2;have:=k.2.2;omega⟩
theorem inE.lub {x y z:X1} (h:inE x z) (k:inE y z):inE (X33 x y) z:=by
 refine⟨h.1,?_,?_⟩
 ·show z.Span.Start<=(if y.Span.Start<x.Span.Start then y.Span.Start else x.Span.Start);have:=h.2.1;have:=k.2.1;split<;>omega
 ·show(if y.Span.End>x.Span.End then y.Span.End else x.Span.End)<=z.Span.End;have:=h.2.2;have:=k.2.2;split<;>omega
theorem Xy6 {x z y:X1} (h:Xki x y) (k:inE x z):Xki z y:=by
 obtain⟨h1,h2,h3⟩:=h;obtain⟨k1,k2,k3⟩:=k;exact⟨h1.trans k1,by omega,by omega⟩
theorem Cl.grow {x x':X1} {R R' M:List X1} (h:Cl x R x' R' M):inE x x'/\∀ m∈M,inE m x':=by
 induction h with
 |refl x R=>exact⟨⟨rfl,Int.le_refl _,Int.le_refl _⟩,λm hm=>by cases hm⟩
 |@step x x' y a b R' M h r ih =>
  exact⟨(inE.hull _ _).trans ih.1,λm hm=>(List.mem_cons.1 hm).elim (λe=>e▸(inE.hull2 h.1).trans ih.1) (ih.2 m)⟩
theorem Cl.subset {x x1 x2:X1} {R0 R R1 R2 M1 M2:List X1} (h:Cl x R x1 R1 M1) (hx:inE x x2) (hR:∀ y∈R,y∈R0) (g2:∀ m∈M2,inE m x2) (g0:∀ y∈R0,y∈M2\/y∈R2) (g:∀ y∈R2,¬ Xki x2 y):∀ y∈M1,y∈M2:=by
 induction h with
 |refl=>intro y hy;cases hy
 |@step x x' y a b R' M h r ih =>
  have hy:y∈M2:=by
   rcases g0 y (hR y (by simp)) with hh|hh
   ·exact hh
   ·exact absurd (Xy6 h hx) (g y hh)
  intro z hz;rcases List.mem_cons.1 hz with rfl|hz
  ·exact hy
  ·exact ih (hx.lub (g2 y hy)) (λw hw=>hR w (by simp only[List.mem_append,List.mem_cons] at *;rcases hw with hw|hw<;>simp[hw])) z hz
theorem Cl.exists:∀ (n:Nat) (R:List X1) (x:X1),R.length=n->∃ x' R' M,Cl x R x' R' M/\∀ y∈R',¬ Xki x' y:=by
 intro n
 induction n with
 |zero =>
  intro R x h;have:R=[]:=List.length_eq_zero_iff.1 h;subst this;exact⟨x,[],[],.refl _ _,λy hy=>by cases hy⟩
 |succ n ih =>
  intro R x h;by_cases ho:∃ y∈R,Xki x y
  ·obtain⟨y,hy,ho⟩:=ho;obtain⟨a,b,rfl⟩:=List.append_of_mem hy;obtain⟨x',R',M,h1,h2⟩:=ih (a++b) (X33 x y) (by simp at h ⊢;omega);exact⟨x',R',_,.step ho h1,h2⟩
  ·exact⟨x,R,[],.refl _ _,λy hy hh=>ho ⟨y,hy,hh⟩⟩
theorem X005 {l1 l2:List X1} (p:l1.Perm l2):(∀ y∈l1,okA y.Values.e0/\okA y.Values.e1)->∀ z:X1,0<=z.Values.e0.Count->0<=z.Values.e1.Count->l1.foldl X33 z=l2.foldl X33 z:=by
 have nn:∀ {z y:X1},0<=z.Values.e0.Count->0<=z.Values.e1.Count->okA y.Values.e0/\okA y.Values.e1->0<=(X33 z y).Values.e0.Count/\0<=(X33 z y).Values.e1.Count:=by
  intro z y h0 h1 ⟨k0,k1⟩;have c0:=X05 k0;have c1:=X05 k1;refine⟨?_,?_⟩
  ·show 0<=(X36 _ _).Count;rw[X85 h0 c0.1];omega
  ·show 0<=(X36 _ _).Count;rw[X85 h1 c1.1];omega
 induction p with
 |nil=>intro _ z _ _;rfl
 |cons x p ih =>
  intro hk z h0 h1;obtain⟨n0,n1⟩:=nn h0 h1 (hk x (by simp));exact ih (λy hy=>hk y (by simp[hy])) _ n0 n1
 |swap x y l =>
  intro hk z h0 h1;obtain⟨x0,x1⟩:=hk x (by simp);obtain⟨y0,y1⟩:=hk y (by simp);have hs:X33 (X33 z y) x=X33 (X33 z x) y:=by
   have e:∀ {a b c:Xm},0<=a.Count->okA b->okA c->X36 (X36 a b) c=X36 (X36 a c) b:=by
    intro a b c ha hb hc;rw[Xlm ha (X05 hb).1 (X05 hc).1,Xip hb hc,<-Xlm ha (X05 hc).1 (X05 hb).1]
   unfold X33;simp only;rw[e h0 y0 x0,e h1 y1 x1];congr 1
   congr 1
   ·repeat' split<;>first|rfl|omega
   ·repeat' split<;>first|rfl|omega
  show List.foldl X33 (X33 (X33 z y) x) l=List.foldl X33 (X33 (X33 z x) y) l;rw[hs]
 |trans p q ih1 ih2 =>
  intro hk z h0 h1;rw[ih1 hk z h0 h1,ih2 (λy hy=>hk y (p.mem_iff.2 hy)) z h0 h1]
end Go.D


namespace Go.D
def nnE (x:X1):Prop:=0<=x.Values.e0.Count/\0<=x.Values.e1.Count
theorem Xld {x y:X1} (hx:nnE x) (hy:nnE y):(X33 x y).Values.e0.Count=x.Values.e0.Count+y.Values.e0.Count/\(X33 x y).Values.e1.Count=x.Values.e1.Count+y.Values.e1.Count:=⟨X85 hx.1 hy.1,X85 hx.2 hy.2⟩
theorem Xe2 {y:X1} (h:okA y.Values.e0/\okA y.Values.e1):nnE y:=⟨(X05 h.1).1,(X05 h.2).1⟩
theorem Cl.cnt {x x':X1} {R R' M:List X1} (h:Cl x R x' R' M):nnE x->(∀ y∈R,nnE y)->x.Values.e0.Count<=x'.Values.e0.Count/\x.Values.e1.Count<=x'.Values.e1.Count:=by
 induction h with
 |refl=>intro _ _;exact⟨Int.le_refl _,Int.le_refl _⟩
 |@step x x' y a b R' M h r ih =>
  intro hx hR;have hy:=hR y (by simp);obtain⟨h1,h2⟩:=Xld hx hy;have hxy:nnE (X33 x y):=by unfold nnE;rw[h1,h2];unfold nnE at hx hy;omega
  have:=ih hxy (λz hz=>hR z (by simp only[List.mem_append,List.mem_cons] at *;rcases hz with hz|hz<;>simp[hz]));rw[h1,h2] at this;unfold nnE at hy;omega
theorem Cl.unique {x x1 x2:X1} {R R1 R2 M1 M2:List X1} (h1:Cl x R x1 R1 M1) (n1:∀ y∈R1,¬ Xki x1 y) (h2:Cl x R x2 R2 M2) (n2:∀ y∈R2,¬ Xki x2 y) (hs:R.Pairwise ltE) (hR:∀ y∈R,okA y.Values.e0/\okA y.Values.e1) (hx:nnE x):x1=x2/\R1=R2:=by
 have nd:R.Nodup:=hs.imp λhab e=>by subst e;exact Xio _ hab
 have a1:∀ y∈M1,y∈M2:=h1.subset h2.grow.1 (λ_ h=>h) h2.grow.2 (λy hy=>List.mem_append.1 (h2.perm.mem_iff.1 hy)) n2;have a2:∀ y∈M2,y∈M1:=h2.subset h1.grow.1 (λ_ h=>h) h1.grow.2 (λy hy=>List.mem_append.1 (h1.perm.mem_iff.1 hy)) n1;have d1:=(h1.perm.nodup_iff).1 nd;have d2:=(h2.perm.nodup_iff).1 nd;rw[List.nodup_append] at d1 d2;have hp:M1.Perm M2:=(List.perm_ext_iff_of_nodup d1.1 d2.1).2 λy=>⟨a1 y,a2 y⟩;refine⟨?_,?_⟩
 ·rw[h1.fold,h2.fold];exact X005 hp (λy hy=>hR y (h1.perm.mem_iff.2 (List.mem_append_left _ hy))) _ hx.1 hx.2
 ·refine Xi5 (hs.sublist h1.sub) (hs.sublist h2.sub) λe=>⟨λhe=>?_,λhe=>?_⟩
  ·rcases List.mem_append.1 (h2.perm.mem_iff.1 (h1.sub.mem he)) with h|h
   ·exact absurd rfl (d1.2.2 e (a2 e h) e he)
   ·exact h
  ·rcases List.mem_append.1 (h1.perm.mem_iff.1 (h2.sub.mem he)) with h|h
   ·exact absurd rfl (d2.2.2 e (a1 e h) e he)
   ·exact h
theorem X09y {x y:X1} (hx:x.Span.Start<x.Span.End):(bif (y.Key==x.Key) then (bif (X1e y.Span x.Span) then (some (bif (y.Key==x.Key) then (bif (X1e y.Span x.Span) then true else false) else false)) else (bif true then ((X4w y.Span x.Span).bind λv1362=>some (bif (y.Key==x.Key) then (bif (X1e y.Span x.Span) then true else (bif true then v1362 else false)) else false)) else (some (bif (y.Key==x.Key) then (bif (X1e y.Span x.Span) then true else (bif true then false else false)) else false)))) else (some (bif (y.Key==x.Key) then false else false)):Option (Bool))=some (decide (Xki x y)):=by
 by_cases hk:y.Key=x.Key
 ·rw[show(y.Key==x.Key)=true by simpa using hk,Xv4];have ho:Xv5 y.Span x.Span↔Xki x y:=by unfold Xv5 Xki;exact⟨λh=>⟨hk,h.1,h.2⟩,λh=>⟨h.2.1,h.2.2⟩⟩
  by_cases he:X1e y.Span x.Span=true
  ·have:y.Span=x.Span:=by
    simp only[X1e,Bool.and_eq_true,beq_iff_eq] at he;exact Xa1 he.1 he.2.1
   have:Xki x y:=⟨hk,by rw[this];exact hx,by rw[this];exact hx⟩;rw[he,Yt this];rfl
  ·rw[show X1e y.Span x.Span=false by simpa using he];simp only[cond_true,cond_false,Yo,ho]
 ·rw[show(y.Key==x.Key)=false by simpa using hk,Yf (λh:Xki x y=>hk h.1)];rfl
theorem Xls {x y:X1} (hx:x.Span.Start<x.Span.End):(X33 x y).Span.Start<(X33 x y).Span.End:=by
 show(if y.Span.Start<x.Span.Start then y.Span.Start else x.Span.Start)<(if y.Span.End>x.Span.End then y.Span.End else x.Span.End);split<;>split<;>omega
theorem X027 (Y:List X1):∀ (xs:List X1) (k:Nat) (x:X1) (m:Bool) (o:List X1) (n:Nat),cB n x->(∀ y∈xs,cB 1 y)->x.Span.Start<x.Span.End->n+xs.length<=190->o.length+xs.length<=10000 ->
  ∃ x1 M rest,X14 true Y xs k x (Xfr x) m o=some (.x0 x1 (Xfr x1) (m||!M.isEmpty) (o++rest))/\Cl x (o++xs) x1 (o++rest) M/\cB (n+M.length) x1/\x1.Span.Start<x1.Span.End/\(M=[]->x1=x/\rest=xs/\∀ y∈xs,¬ Xki x y)/\rest.length+M.length=xs.length/\(∀ y∈rest,y∈xs):=by
 intro xs
 induction xs with
 |nil =>
  intro k x m o n hx _ hs _ _;exact⟨x,[],[],by simp[X14],.refl _ _,hx,hs,λ_=>⟨rfl,rfl,λy hy=>by cases hy⟩,rfl,λy hy=>by cases hy⟩
 |cons y xs ih =>
  intro k x m o n hx hl hs hn ho;simp only[List.length_cons] at hn ho;have hy:=hl y (by simp);rw[X14,X09y hs,Yo];by_cases h:Xki x y
  ·rw[Yt h,cond_true,Xh3 (x:=x) (y:=y) (by obtain⟨⟨a1,a2⟩,a3,a4⟩:=hx;unfold cB;omega) (by obtain⟨⟨a1,a2⟩,a3,a4⟩:=hy;unfold cB;omega),Yo];have hc:=Xu9 hx hy;have hf:(bif Xfr x then Xfr (X33 x y) else false)=Xfr (X33 x y):=by
    cases hfx:Xfr x with
    |true=>rfl
    |false =>
     rw[cond_false];unfold Xfr at hfx ⊢;obtain⟨h1,h2⟩:=Xev hx hy;rw[h1,h2];obtain⟨⟨b1,b2⟩,b3,b4⟩:=hy;rw[Bool.and_eq_false_iff,decide_eq_false_iff_not,decide_eq_false_iff_not] at hfx
     symm
     rw[Bool.and_eq_false_iff,decide_eq_false_iff_not,decide_eq_false_iff_not];rcases hfx with h|h
     ·left;omega
     ·right;omega
   simp only[hf];obtain⟨x1,M,rest,g1,g2,g3,g4,g5,g6,g7⟩:=ih (k+1) (X33 x y) true o (n+1) hc (λz hz=>hl z (by simp[hz])) (Xls hs) om om;refine⟨x1,y::M,rest,?_,.step h g2,by rw[List.length_cons,show n+(M.length+1)=n+1+M.length by omega];exact g3,g4,(λe=>by cases e),by simp only[List.length_cons];omega,λz hz=>List.mem_cons_of_mem _ (g7 z hz)⟩;rw[g1];simp
  ·rw[Yf h,cond_false,X1j (by rw[List.length_append,List.length_singleton];omega),Yo];obtain⟨x1,M,rest,g1,g2,g3,g4,g5,g6,g7⟩:=ih (k+1) x m (o++[y]) n hx (λz hz=>hl z (by simp[hz])) hs om (by rw[List.length_append,List.length_singleton];omega);refine⟨x1,M,y::rest,?_,by simpa using g2,g3,g4,λe=>?_,by simp only[List.length_cons];omega,λz hz=>?_⟩
   ·rw[g1];simp
   ·obtain⟨e1,e2,e3⟩:=g5 e;exact⟨e1,by rw[e2],λz hz=>(List.mem_cons.1 hz).elim (λe=>e▸h) (e3 z)⟩
   ·rcases List.mem_cons.1 hz with rfl|hz
    ·simp
    ·exact List.mem_cons_of_mem _ (g7 z hz)
theorem X029:∀ (f:Nat) (R:List X1) (x:X1) (n:Nat),R.length+1<f->cB n x->(∀ y∈R,cB 1 y)->x.Span.Start<x.Span.End->n+R.length<=190 ->
  ∃ x' R' M,X1k true f x R (Xfr x) true=some (.x0 x' R' (Xfr x'))/\Cl x R x' R' M/\(∀ y∈R',¬ Xki x' y)/\x'.Span.Start<x'.Span.End:=by
 intro f
 induction f with
 |zero=>intro R x n h;omega
 |succ f ih =>
  intro R x n hf hx hR hs hn;rw[X1k,cond_true,X26 om,Yo];obtain⟨x1,M,rest,g1,g2,g3,g4,g5,g6,g7⟩:=X027 R R 0 x false [] n hx hR hs hn (by simp;omega);rw[List.nil_append] at g1 g2;rw[g1,Yo];simp only;rw[List.nil_append] at g2
  cases hM:M with
  |nil =>
   obtain⟨e1,e2,e3⟩:=g5 hM;obtain⟨f,rfl⟩:∃ q,f=q+1:=⟨f - 1,by omega⟩;subst e1 e2;refine⟨x1,rest,[],?_,.refl _ _,e3,g4⟩;rw[X1k];rfl
  |cons z M' =>
   have hl:rest.length<R.length:=by rw[hM] at g6;simp only[List.length_cons] at g6;omega
   obtain⟨x',R',M2,k1,k2,k3,k4⟩:=ih rest x1 (n+M.length) om g3 (λy hy=>hR y (g7 y hy)) g4 om;refine⟨x',R',M++M2,?_,g2.trans k2,k3,k4⟩;simpa using k1
theorem X094 {l:List X1} {x:X1} (hn:l.length<=150) (hl:∀ y∈l,okA y.Values.e0/\okA y.Values.e1) (hx:okA x.Values.e0/\okA x.Values.e1) (hs:x.Span.Start<x.Span.End) :
  ∃ x' R' M,X58 l x true=some (R'++[x'],Xfr x')/\Cl x l x' R' M/\(∀ y∈R',¬ Xki x' y):=by
 have cb:∀ {y:X1},okA y.Values.e0/\okA y.Values.e1->cB 1 y:=λ{y} h=>by
  have c0:=X05 h.1;have c1:=X05 h.2;unfold cB;omega
 have hf:Xfr x=true:=by
  have c0:=X05 hx.1;have c1:=X05 hx.2;unfold Xfr;simp;omega
 obtain⟨x',R',M,h1,h2,h3,_⟩:=X029 FU l x 1 (by unfold FU;omega) (cb hx) (λy hy=>cb (hl y hy)) hs om;refine⟨x',R',M,?_,h2,h3⟩;have hlen:R'.length<=l.length:=h2.sub.length_le;rw[hf] at h1;unfold X58
 cases he:l.isEmpty with
 |true=>rw[cond_true,h1,Yo];simp only;rw[X1j (by rw[List.length_append,List.length_singleton];omega)];rfl
 |false=>rw[cond_false,X1j om,Yo,h1,Yo];simp only;rw[X1j (by rw[List.length_append,List.length_singleton];omega)];rfl
end Go.D


namespace Go.D
theorem Xoc {l:List X1} {x:X1} (hs:l.Pairwise ltE) (hn:∀ y∈l,¬ X2m y x):∀ e,e∈Xmb l x↔e∈l\/e=x:=by
 intro e;rw[Xkh hs];constructor
 ·rintro(⟨h,_⟩|⟨y,h1,h2,_⟩|⟨_,h⟩)
  ·exact .inl h
  ·exact absurd h2 (hn y h1)
  ·exact .inr h
 ·rintro(h|h)
  ·exact .inl ⟨h,hn e h⟩
  ·exact .inr (.inr ⟨hn,h⟩)
theorem Xu0 {x y:X1} (hx:x.Span.Start<x.Span.End) (h:¬ Xki x y):¬ X2m y x:=λ⟨k1,k2⟩=>h ⟨k1,by rw[k2];exact hx,by rw[k2];exact hx⟩
theorem X06g:∀ (f:Nat) (l:List X1) (x:X1),l.length<f->l.length<=10000->l.Pairwise ltE->(∀ y∈l,okA y.Values.e0/\okA y.Values.e1)->(okA x.Values.e0/\okA x.Values.e1)->x.Span.Start<x.Span.End ->
  ∀ x' R' M,Cl x l x' R' M->(∀ y∈R',¬ Xki x' y)->X1s f l x=some (if Xfr x' then .x0 (Xmb R' x') 0 else .x0 [] 4):=by
 intro f
 induction f with
 |zero=>intro l x h;omega
 |succ f ih =>
  intro l x hf hn hs hl hx hsp x' R' M hC hN;have hlen:∀ y∈l,nnE y:=λy hy=>Xe2 (hl y hy);rw[X1s];rw[X26 om,Yo];rcases X040 l x l 0 with ⟨h1,h2⟩|⟨i,y,h1,h2,h3⟩
  ·rw[h1];simp only[Yo];obtain⟨e1,e2⟩:=hC.unique hN (.refl x l) h2 hs hl (Xe2 hx);subst e1 e2;have hft:Xfr x'=true:=by
    have c0:=X05 hx.1;have c1:=X05 hx.2;unfold Xfr;simp;omega
   rw[hft,if_pos rfl];rw[show decide ((-1:Int)<0)=true by decide,cond_true,X0ag hs om,Xy0 hs];have hle:=X00k R' x'
   cases h:R'[cnt R' x']? with
   |none =>
    have hc:cnt R' x'=R'.length:=by have:=List.getElem?_eq_none_iff.1 h;omega
    have hsl:X5n R' (R'.length:Int) (R'.length:Int)=some []:=by simp[X5n]
    simp only[Yo,Bool.not_false,cond_true,hc,beq_self_eq_true,hsl];rw[X1j (by simp;omega)];rfl
   |some y =>
    have hlt:cnt R' x'<R'.length:=(Ys.1 h).1;have hk:¬ X2m y x':=Xu0 hsp (h2 y (Yg h));have hne:((cnt R' x':Int)==(R'.length:Int))=false:=by simp;omega
    have hi:Xzl R' (cnt R' x':Int) x' 88=some (R'.take (cnt R' x')++x'::R'.drop (cnt R' x')):=by
     unfold Xzl;rw[if_pos ⟨by omega,by simpa using hlt,by omega⟩];simp
    simp only[hk,decide_false,Bool.not_false,cond_true,hne,cond_false,Yo,hi,if_false]
  ·rw[h1];have hlt:i<l.length:=(Ys.1 h2).1;have hyl:=Yg h2;have hsplit:l=l.take i++y::l.drop (i+1):=by
    have h:=(List.take_append_drop i l).symm;rw[List.drop_eq_getElem_cons hlt] at h;have:l[i]=y:=by rw[Ye hlt] at h2;exact Option.some.inj h2
    rwa [this] at h
   have hsub:(l.take i++l.drop (i+1)).Sublist l:=by
    have h:=List.Sublist.append_left (List.drop_sublist_drop_left l (show i<=i+1 by omega)) (l.take i)
    rwa [List.take_append_drop] at h
   obtain⟨x2,R2,M2,k1,k2⟩:=Cl.exists _ (l.take i++l.drop (i+1)) (X33 x y) rfl;have hst:Cl x l x2 R2 (y::M2):=by rw[hsplit];exact .step h3 k1
   obtain⟨e1,e2⟩:=hC.unique hN hst k2 hs hl (Xe2 hx);subst e1 e2;obtain⟨a1,a2⟩:=hl y hyl;have hnn:nnE (X33 x y):=by
    obtain⟨q1,q2⟩:=Xld (Xe2 hx) (Xe2 ⟨a1,a2⟩);have c0:=X05 a1;have c1:=X05 a2;have c2:=X05 hx.1;have c3:=X05 hx.2;unfold nnE;rw[q1,q2];omega
   have hcnt:=k1.cnt hnn (λz hz=>hlen z (hsub.mem hz));obtain⟨q1,q2⟩:=Xld (Xe2 hx) (Xe2 ⟨a1,a2⟩);rw[q1,q2] at hcnt;simp only[Yo,Nat.zero_add];rw[show decide ((i:Int)<0)=false by simp,cond_false,X2a,h2,Yo];have hd:delI l (i:Int)=some (l.take i++l.drop (i+1)):=by
    unfold delI;rw[if_pos ⟨by omega,by simpa using hlt,by omega⟩];simp
   by_cases o0:x.Values.e0.Count+y.Values.e0.Count>1073741824
   ·rw[X6v hx.1 a1 o0,show Xfr x'=false by unfold Xfr;rw[Bool.and_eq_false_iff,decide_eq_false_iff_not,decide_eq_false_iff_not];left;omega];rfl
   ·rw[X6i hx.1 a1 om];by_cases o1:x.Values.e1.Count+y.Values.e1.Count>1073741824
    ·simp only[Yo,bne_self_eq_false,cond_false];rw[X6v hx.2 a2 o1,show Xfr x'=false by unfold Xfr;rw[Bool.and_eq_false_iff,decide_eq_false_iff_not,decide_eq_false_iff_not];right;omega];rfl
    ·simp only[Yo,bne_self_eq_false,cond_false];rw[X6i hx.2 a2 om];simp only[Yo,bne_self_eq_false,cond_false,hd];exact ih _ (X33 x y) (by simp;omega) (by simp;omega) (hs.sublist hsub) (λz hz=>hl z (hsub.mem hz)) ⟨Xc7 hx.1 a1 om,Xc7 hx.2 a2 om⟩ (Xls hsp) _ _ _ k1 k2
theorem Cl.oke {x x':X1} {R R' M:List X1} (h:Cl x R x' R' M):okE x->(∀ y∈R,okE y)->Xfr x'=true->okE x':=by
 induction h with
 |refl=>intro h _ _;exact h
 |@step x x' y a b R' M h r ih =>
  intro hx hR hf;have hy:=hR y (by simp);have hR':∀ z∈a++b,okE z:=λz hz=>hR z (by simp only[List.mem_append,List.mem_cons] at *;rcases hz with hz|hz<;>simp[hz]);refine ih ?_ hR' hf;obtain⟨x1,x2,x3,x4,x5,x6⟩:=hx;obtain⟨y1,y2,y3,y4,y5,y6⟩:=hy;obtain⟨q1,q2⟩:=Xld (Xe2 ⟨x4,x5⟩) (Xe2 ⟨y4,y5⟩);have c0:=X05 x4;have c1:=X05 x5;have c2:=X05 y4;have c3:=X05 y5;have hnn:nnE (X33 x y):=by unfold nnE;rw[q1,q2];omega
  have hc:=r.cnt hnn (λz hz=>Xe2 ⟨(hR' z hz).2.2.2.1,(hR' z hz).2.2.2.2.1⟩);rw[q1,q2] at hc;unfold Xfr at hf;simp only[Bool.and_eq_true,decide_eq_true_eq] at hf;refine⟨?_,Xls x2,?_,Xc7 x4 y4 om,Xc7 x5 y5 om,by rw[q1,q2];omega⟩
  ·show _<=(if y.Span.Start<x.Span.Start then y.Span.Start else x.Span.Start);split<;>omega
  ·show(if y.Span.End>x.Span.End then y.Span.End else x.Span.End)<=_;split<;>omega
theorem Cl.zero {x x':X1} {R R' M:List X1} (h:Cl x R x' R' M):nnE x->(∀ y∈R,nnE y)->x.Values.e1.Count=0->(∀ y∈R,y.Values.e1.Count=0)->x'.Values.e1.Count=0:=by
 induction h with
 |refl=>intro _ _ h _;exact h
 |@step x x' y a b R' M h r ih =>
  intro hx hR h0 hR0;have hm:∀ z,z∈a++b->z∈a++y::b:=λz hz=>by simp only[List.mem_append,List.mem_cons] at *;rcases hz with hz|hz<;>simp[hz]
  have hy:=hR y (by simp);obtain⟨q1,q2⟩:=Xld hx hy;unfold nnE at hx hy;refine ih (by unfold nnE;rw[q1,q2];omega) (λz hz=>hR z (hm z hz)) ?_ (λz hz=>hR0 z (hm z hz));rw[q2,h0,hR0 y (by simp)];rfl
end Go.D


namespace Go.D
def newV (l:List X1) (k:Int) (v:V2 Xm) (s:Xy) (z:V2 Xm):Prop :=
 (∃ y∈l,y.Key=k/\y.Span=s/\z=⟨X36 y.Values.e0 v.e0,X36 y.Values.e1 v.e1⟩)\/((∀ y∈l,¬ (y.Key=k/\y.Span=s))/\z=v)
def Xwu (l:List X1) (k:Int) (v:V2 Xm) (D:Xy->Prop) (l':List X1):Prop :=
 ∀ e,e∈l'↔(e.Key=k/\D e.Span/\newV l k v e.Span e.Values)\/(¬ (e.Key=k/\D e.Span)/\e∈l)
theorem Xwu.step {l l1 l2:List X1} {k:Int} {v:V2 Xm} {D:Xy->Prop} {s:Xy} (h:Xwu l k v D l1) (hs:¬ D s) (g:Xwu l1 k v (λx=>x=s) l2):Xwu l k v (λx=>D x\/x=s) l2:=by
 have hsame:∀ y,y.Key=k->y.Span=s->(y∈l1↔y∈l):=λy h1 h2=>by
  rw[h y];have hn:¬ (y.Key=k/\D y.Span):=λhh=>hs (h2▸hh.2);exact⟨λhh=>hh.elim (λq=>absurd ⟨q.1,q.2.1⟩ hn) λq=>q.2,λhh=>.inr ⟨hn,hh⟩⟩
 have hv:∀ z,newV l1 k v s z↔newV l k v s z:=λz=>by
  unfold newV;constructor
  ·rintro(⟨y,h1,h2,h3,h4⟩|⟨h1,h2⟩)
   ·exact .inl ⟨y,(hsame y h2 h3).1 h1,h2,h3,h4⟩
   ·exact .inr ⟨λy hy hh=>h1 y ((hsame y hh.1 hh.2).2 hy) hh,h2⟩
  ·rintro(⟨y,h1,h2,h3,h4⟩|⟨h1,h2⟩)
   ·exact .inl ⟨y,(hsame y h2 h3).2 h1,h2,h3,h4⟩
   ·exact .inr ⟨λy hy hh=>h1 y ((hsame y hh.1 hh.2).1 hy) hh,h2⟩
 intro e;rw[g e];by_cases he:e.Key=k/\e.Span=s
 ·obtain⟨e1,e2⟩:=he;rw[e2,hv];constructor
  ·rintro(⟨_,_,q⟩|⟨q,_⟩)
   ·exact .inl ⟨e1,.inr rfl,q⟩
   ·exact absurd ⟨e1,rfl⟩ q
  ·rintro(⟨_,_,q⟩|⟨q,_⟩)
   ·exact .inl ⟨e1,rfl,q⟩
   ·exact absurd ⟨e1,.inr rfl⟩ q
 ·rw[h e];constructor
  ·rintro(⟨q1,q2,_⟩|⟨_,⟨q1,q2,q3⟩|⟨q1,q2⟩⟩)
   ·exact absurd ⟨q1,q2⟩ he
   ·exact .inl ⟨q1,.inl q2,q3⟩
   ·exact .inr ⟨λhh=>hh.2.elim (λd=>q1 ⟨hh.1,d⟩) λd=>he ⟨hh.1,d⟩,q2⟩
  ·rintro(⟨q1,q2,q3⟩|⟨q1,q2⟩)
   ·rcases q2 with d|d
    ·exact .inr ⟨he,.inl ⟨q1,d,q3⟩⟩
    ·exact absurd ⟨q1,d⟩ he
   ·exact .inr ⟨he,.inr ⟨λhh=>q1 ⟨hh.1,.inl hh.2⟩,q2⟩⟩
def fitW (l:List X1) (k:Int) (v:V2 Xm) (s:Xy):Prop:=∀ y∈l,y.Key=k->y.Span=s->y.Values.e0.Count+v.e0.Count<=1073741824/\y.Values.e1.Count+v.e1.Count<=1073741824
theorem Xkp {l l1:List X1} {k:Int} {v:V2 Xm} {D:Xy->Prop} (h:Xwu l k v D l1) {s:Xy} (hs:¬ D s):fitW l1 k v s↔fitW l k v s:=by
 have hsame:∀ y,y.Key=k->y.Span=s->(y∈l1↔y∈l):=λy h1 h2=>by
  rw[h y];have hn:¬ (y.Key=k/\D y.Span):=λhh=>hs (h2▸hh.2);exact⟨λhh=>hh.elim (λq=>absurd ⟨q.1,q.2.1⟩ hn) λq=>q.2,λhh=>.inr ⟨hn,hh⟩⟩
 exact⟨λg y hy h1 h2=>g y ((hsame y h1 h2).2 hy) h1 h2,λg y hy h1 h2=>g y ((hsame y h1 h2).1 hy) h1 h2⟩
theorem Xy1 {l:List X1} (hs:l.Pairwise ltE) (k:Int) (v:V2 Xm) (s:Xy):Xwu l k v (λx=>x=s) (Xmb l ⟨k,s,v⟩):=by
 intro e;rw[Xkh hs];have hk:∀ y:X1,X2m y ⟨k,s,v⟩↔y.Key=k/\y.Span=s:=λy=>Iff.rfl;by_cases he:e.Key=k/\e.Span=s
 ·constructor
  ·rintro(⟨_,q⟩|⟨y,q1,q2,q3⟩|⟨q1,q2⟩)
   ·exact absurd ((hk e).2 he) q
   ·refine .inl ⟨he.1,he.2,.inl ⟨y,q1,q2.1,by rw[he.2];exact q2.2,by rw[q3];rfl⟩⟩
   ·exact .inl ⟨he.1,he.2,.inr ⟨λy hy hh=>q1 y hy ⟨hh.1,by rw[hh.2];exact he.2⟩,by rw[q2]⟩⟩
  ·rintro(⟨_,_,⟨y,q1,q2,q3,q4⟩|⟨q1,q2⟩⟩|⟨q,_⟩)
   ·refine .inr (.inl ⟨y,q1,⟨q2,by rw[q3];exact he.2⟩,?_⟩);cases e
    simp only at he q4 q3;unfold Xq6;rw[q4,q2,q3,he.1]
   ·refine .inr (.inr ⟨λy hy hh=>q1 y hy ⟨hh.1,by rw[he.2];exact hh.2⟩,?_⟩);cases e
    simp only at he q2;rw[q2,he.1,he.2]
   ·exact absurd he q
 ·constructor
  ·rintro(⟨q1,q2⟩|⟨y,q1,q2,q3⟩|⟨q1,q2⟩)
   ·exact .inr ⟨he,q1⟩
   ·exact absurd (by rw[q3];exact q2) he
   ·exact absurd (by rw[q2];exact⟨rfl,rfl⟩) he
  ·rintro(⟨q1,q2,_⟩|⟨_,q⟩)
   ·exact absurd ⟨q1,q2⟩ he
   ·exact .inl ⟨q,λhh=>he hh⟩
theorem Xq2 {l:List X1} (hs:l.Pairwise ltE) (k:Int) (v:V2 Xm) (s:Xy):Xqy l ⟨k,s,v⟩=false↔fitW l k v s:=by
 constructor
 ·intro h y hy h1 h2;exact Xty hs h hy ⟨h1,h2⟩
 ·intro h;unfold Xqy
  cases hg:l[cnt l ⟨k,s,v⟩]? with
  |none=>rfl
  |some y =>
   simp only[decide_eq_false_iff_not];rintro⟨h1,h2⟩;have:=h y (Yg hg) h1.1 h1.2;omega
theorem Xo4 (Y:List Xy) (k:Int) (v:V2 Xm) (l:List X1) (hv:okA v.e0/\okA v.e1):∀ (xs:List Xy) (j:Nat) (s0:Xy) (l1:List X1) (D:Xy->Prop),Xwu l k v D l1->l1.Pairwise ltE->(∀ y∈l1,okA y.Values.e0/\okA y.Values.e1)->xs.Nodup->(∀ s∈xs,¬ D s)->l1.length+xs.length<=9000 ->
  ((∀ s∈xs,fitW l k v s)/\∃ l2,X2w Y xs j ⟨k,s0,v⟩ l1=some (.x0 l2)/\Xwu l k v (λx=>D x\/x∈xs) l2/\l2.Pairwise ltE/\(∀ y∈l2,okA y.Values.e0/\okA y.Values.e1)/\l2.length<=l1.length+xs.length) \/
  (¬ (∀ s∈xs,fitW l k v s)/\X2w Y xs j ⟨k,s0,v⟩ l1=some (.x1 [] 4)):=by
 intro xs
 induction xs with
 |nil=>intro j s0 l1 D h hs hl _ _ _;exact .inl ⟨(λs hs=>by cases hs),l1,rfl,by simpa using h,hs,hl,by simp⟩
 |cons s xs ih =>
  intro j s0 l1 D h hs hl hnd hD hn;simp only[List.length_cons] at hn;rw[List.nodup_cons] at hnd;have hDs:=hD s (by simp);rw[X04k hs om hv hl];by_cases ho:Xqy l1 ⟨k,s,v⟩=true
  ·right;refine⟨λhh=>?_,by rw[if_pos ho]⟩;have:=(Xq2 hs k v s).2 ((Xkp h hDs).2 (hh s (by simp)));rw[this] at ho;cases ho
  ·have ho':Xqy l1 ⟨k,s,v⟩=false:=by simpa using ho
   rw[if_neg ho];have hf:fitW l k v s:=(Xkp h hDs).1 ((Xq2 hs k v s).1 ho');have hst:=h.step hDs (Xy1 hs k v s);have hlen:=Xtv l1 ⟨k,s,v⟩;rcases ih (j+1) s (Xmb l1 ⟨k,s,v⟩) _ hst (Xgj hs) (X035 hs ho' hv hl) hnd.2 (λx hx hh=>hh.elim (hD x (by simp[hx])) λe=>hnd.1 (e▸hx)) om with ⟨g1,l2,g2,g3,g4,g5,g6⟩|⟨g1,g2⟩
   ·refine .inl ⟨λx hx=>(List.mem_cons.1 hx).elim (λe=>e▸hf) (g1 x),l2,g2,?_,g4,g5,by simp only[List.length_cons];omega⟩;intro e;rw[g3 e];simp only[List.mem_cons,or_assoc]
   ·exact .inr ⟨λhh=>g1 λx hx=>hh x (by simp[hx]),g2⟩
theorem Xzt (x y:X1):(bif (y.Key==x.Key) then (bif (X1e y.Span x.Span) then (some (bif (y.Key==x.Key) then (bif (X1e y.Span x.Span) then true else false) else false)) else (bif false then ((X4w y.Span x.Span).bind λv1362=>some (bif (y.Key==x.Key) then (bif (X1e y.Span x.Span) then true else (bif false then v1362 else false)) else false)) else (some (bif (y.Key==x.Key) then (bif (X1e y.Span x.Span) then true else (bif false then false else false)) else false)))) else (some (bif (y.Key==x.Key) then false else false)):Option (Bool))=some (decide (y.Key=x.Key/\y.Span=x.Span)):=by
 by_cases hk:y.Key=x.Key
 ·rw[show(y.Key==x.Key)=true by simpa using hk];by_cases he:y.Span=x.Span
  ·have:X1e y.Span x.Span=true:=by rw[he];simp[X1e]
   rw[this,Yt ⟨hk,he⟩];rfl
  ·have:X1e y.Span x.Span=false:=by
    rw[<-Bool.not_eq_true];intro hh;simp only[X1e,Bool.and_eq_true,beq_iff_eq] at hh;exact he (Xa1 hh.1 hh.2.1)
   rw[this,Yf (λh=>he h.2)];rfl
 ·rw[show(y.Key==x.Key)=false by simpa using hk,Yf (λh=>hk h.1)];rfl
theorem X028 (Y:List X1):∀ (xs:List X1) (k:Nat) (x:X1) (f m:Bool) (o:List X1),cB 2 x->(∀ y∈xs,cB 30 y)->xs.Pairwise (λa b=>¬ X2m a b)->o.length+xs.length<=10000 ->
  (∃ y∈xs,X2m y x/\X14 false Y xs k x f m o=some (.x0 (X33 x y) (bif f then Xfr (X33 x y) else false) false (o++xs.filter λz=>decide (¬ X2m z x)))) \/
  ((∀ y∈xs,¬ X2m y x)/\X14 false Y xs k x f m o=some (.x0 x f m (o++xs))):=by
 intro xs
 induction xs with
 |nil=>intro k x f m o _ _ _ _;exact .inr ⟨(λy hy=>by cases hy),by simp[X14]⟩
 |cons y xs ih =>
  intro k x f m o hx hl hp hn;simp only[List.length_cons] at hn;rw[List.pairwise_cons] at hp;rw[X14,Xzt,Yo];have hy:=hl y (by simp);by_cases h:y.Key=x.Key/\y.Span=x.Span
  ·left;refine⟨y,by simp,h,?_⟩;rw[Yt h,cond_true,Xh3 (x:=x) (y:=y) (by obtain⟨⟨a1,a2⟩,a3,a4⟩:=hx;unfold cB;omega) (by obtain⟨⟨a1,a2⟩,a3,a4⟩:=hy;unfold cB;omega),Yo];have hno:∀ z∈xs,¬ X2m z x:=λz hz hh=>hp.1 z hz ⟨h.1.trans hh.1.symm,h.2.trans hh.2.symm⟩;have hsp:(X33 x y).Span=x.Span:=by
    unfold X33;simp only;rw[h.2];exact Xa1 (by simp) (by simp)
   have hpass:∀ (xs:List X1) (k:Nat) (o:List X1) (f:Bool),(∀ z∈xs,¬ X2m z x)->o.length+xs.length<=10000->X14 false Y xs k (X33 x y) f false o=some (.x0 (X33 x y) f false (o++xs)):=by
    intro xs
    induction xs with
    |nil=>intro k o f _ _;simp[X14]
    |cons z xs ih2 =>
     intro k o f hz ho;simp only[List.length_cons] at ho;rw[X14,Xzt,Yo,hsp,Yf (show ¬ (z.Key=(X33 x y).Key/\z.Span=x.Span) from λhh=>hz z (by simp) ⟨hh.1,hh.2⟩),cond_false,X1j (by rw[List.length_append,List.length_singleton];omega),Yo,ih2 _ _ _ (λw hw=>hz w (by simp[hw])) (by rw[List.length_append,List.length_singleton];omega)];simp
   simp only;rw[hpass xs (k+1) o _ hno om];rw[List.filter_cons_of_neg (by simpa[X2m] using h),List.filter_eq_self.2 (λz hz=>by simpa using hno z hz)]
  ·rw[Yf h,cond_false,X1j (by rw[List.length_append,List.length_singleton];omega),Yo];rcases ih (k+1) x f m (o++[y]) hx (λz hz=>hl z (by simp[hz])) hp.2 (by rw[List.length_append,List.length_singleton];omega) with ⟨w,g1,g2,g3⟩|⟨g1,g2⟩
   ·refine .inl ⟨w,by simp[g1],g2,?_⟩;rw[g3,List.filter_cons,if_pos (Yt (show ¬ X2m y x from h))];simp
   ·refine .inr ⟨λz hz=>(List.mem_cons.1 hz).elim (λe=>e▸h) (g1 z),?_⟩;rw[g2];simp
theorem X095 {l:List X1} {k:Int} {v:V2 Xm} {s:Xy} (hn:l.length<=9000) (hl:∀ y∈l,cB 30 y) (hx:cB 2 ⟨k,s,v⟩) (hp:l.Pairwise λa b=>¬ X2m a b) :
  ∃ b x' L,X58 l ⟨k,s,v⟩ false=some (L++[x'],b)/\L=(l.filter λz=>decide (¬ X2m z ⟨k,s,v⟩))/\((∃ y∈l,X2m y ⟨k,s,v⟩/\x'=X33 ⟨k,s,v⟩ y/\b=Xfr x')\/((∀ y∈l,¬ X2m y ⟨k,s,v⟩)/\x'=⟨k,s,v⟩/\b=true)):=by
 have h0:∀ f:Nat,∀ (x':X1) (L:List X1) (b:Bool),X1k false (f+1) x' L b false=some (.x0 x' L b):=λf x' L b=>by rw[X1k];rfl
 have hfu:FU=99998+1+1:=rfl;rcases X028 l l 0 ⟨k,s,v⟩ true false [] hx hl hp (by simp;omega) with ⟨y,g1,g2,g3⟩|⟨g1,g2⟩
 ·rw[List.nil_append,cond_true] at g3;have hlen:=List.length_filter_le (λz=>decide (¬ X2m z ⟨k,s,v⟩)) l;refine⟨Xfr (X33 ⟨k,s,v⟩ y),X33 ⟨k,s,v⟩ y,_,?_,rfl,.inl ⟨y,g1,g2,rfl,rfl⟩⟩;have hL:X1k false FU ⟨k,s,v⟩ l true true=some (.x0 (X33 ⟨k,s,v⟩ y) (l.filter λz=>decide (¬ X2m z ⟨k,s,v⟩)) (Xfr (X33 ⟨k,s,v⟩ y))):=by
   rw[hfu,X1k,cond_true,X26 om,Yo,g3,Yo];exact h0 _ _ _ _
  unfold X58
  cases he:l.isEmpty with
  |true=>rw[cond_true,hL,Yo];simp only;rw[X1j (by rw[List.length_append,List.length_singleton];omega)];rfl
  |false=>rw[cond_false,X1j om,Yo,hL,Yo];simp only;rw[X1j (by rw[List.length_append,List.length_singleton];omega)];rfl
 ·rw[List.nil_append] at g2;refine⟨true,⟨k,s,v⟩,l,?_,(List.filter_eq_self.2 λz hz=>by simpa using g1 z hz).symm,.inr ⟨g1,rfl,rfl⟩⟩;have hL:X1k false FU ⟨k,s,v⟩ l true true=some (.x0 ⟨k,s,v⟩ l true):=by
   rw[hfu,X1k,cond_true,X26 om,Yo,g2,Yo];exact h0 _ _ _ _
  unfold X58
  cases he:l.isEmpty with
  |true=>rw[cond_true,hL,Yo];simp only;rw[X1j (by rw[List.length_append,List.length_singleton];omega)];rfl
  |false=>rw[cond_false,X1j om,Yo,hL,Yo];simp only;rw[X1j (by rw[List.length_append,List.length_singleton];omega)];rfl
end Go.D


namespace Go.D
theorem X05i {L1:List X1} {k:Int} {v:V2 Xm} {s:Xy} {n:Nat} (hn:L1.length<=9000) (hl:∀ y∈L1,cB n y) (hn30:n+1<=30) (hx:cB 1 ⟨k,s,v⟩) (hp:L1.Pairwise λa b=>¬ X2m a b) :
  ∃ b L2,X58 L1 ⟨k,s,v⟩ false=some (L2,b)/\(L2.Pairwise λa b=>¬ X2m a b)/\(∀ y∈L2,cB (n+1) y)/\L2.length<=L1.length+1 /\
   (b=true↔fitW L1 k v s)/\((∀ y∈L1,okA y.Values.e0/\okA y.Values.e1)->okA v.e0/\okA v.e1->Xwu L1 k v (λx=>x=s) L2/\(b=true->∀ y∈L2,okA y.Values.e0/\okA y.Values.e1)):=by
 have up:∀ {m m':Nat} {y:X1},m<=m'->cB m y->cB m' y:=λ{m m' y} h g=>by
  obtain⟨⟨a1,a2⟩,a3,a4⟩:=g;unfold cB;omega
 obtain⟨b,x',L,h1,rfl,h3⟩:=X095 hn (λy hy=>up om (hl y hy)) (up om hx) hp;have hkey:x'.Key=k/\x'.Span=s:=by
  rcases h3 with ⟨y,_,g2,g3,_⟩|⟨_,g2,_⟩
  ·rw[g3];refine⟨rfl,?_⟩;unfold X33;simp only;rw[g2.2];exact Xa1 (by simp) (by simp)
  ·rw[g2];exact⟨rfl,rfl⟩
 have hf:∀ z,z∈(L1.filter λz=>decide (¬ X2m z ⟨k,s,v⟩))↔z∈L1/\¬ (z.Key=k/\z.Span=s):=λz=>by rw[List.mem_filter,decide_eq_true_eq];exact Iff.rfl
 refine⟨b,_,h1,?_,?_,?_,?_,λhok hv=>⟨?_,?_⟩⟩
 ·rw[List.pairwise_append];refine⟨hp.sublist List.filter_sublist,List.pairwise_singleton _ _,λz hz w hw hh=>?_⟩;rw[List.mem_singleton.1 hw] at hh;exact((hf z).1 hz).2 ⟨hh.1.trans hkey.1,hh.2.trans hkey.2⟩
 ·intro y hy;rcases List.mem_append.1 hy with h|h
  ·exact up om (hl y ((hf y).1 h).1)
  ·rw[List.mem_singleton.1 h];rcases h3 with ⟨y,g1,_,g3,_⟩|⟨_,g2,_⟩
   ·rw[g3,Nat.add_comm];exact Xu9 hx (hl y g1)
   ·rw[g2];exact up om hx
 ·rw[List.length_append,List.length_singleton];have:=List.length_filter_le (λz=>decide (¬ X2m z ⟨k,s,v⟩)) L1;omega
 ·rcases h3 with ⟨y,g1,g2,g3,g4⟩|⟨g1,g2,g3⟩
  ·obtain⟨q1,q2⟩:=Xev hx (hl y g1);rw[g4,g3];unfold Xfr;rw[q1,q2,Bool.and_eq_true,decide_eq_true_eq,decide_eq_true_eq];have huniq:∀ z∈L1,z.Key=k->z.Span=s->z=y:=by
    intro z hz e1 e2;obtain⟨i,hi,rfl⟩:=List.mem_iff_getElem.1 hz;obtain⟨j,hj,rfl⟩:=List.mem_iff_getElem.1 g1;have hpp:=List.pairwise_iff_getElem.1 hp;rcases Nat.lt_trichotomy i j with h|h|h
    ·exact absurd ⟨e1.trans g2.1.symm,e2.trans g2.2.symm⟩ (hpp i j hi hj h)
    ·subst h;rfl
    ·exact absurd ⟨g2.1.trans e1.symm,g2.2.trans e2.symm⟩ (hpp j i hj hi h)
   constructor
   ·intro hh z hz e1 e2;rw[huniq z hz e1 e2];have h1:v.e0.Count+y.Values.e0.Count<=1073741824:=hh.1;have h2:v.e1.Count+y.Values.e1.Count<=1073741824:=hh.2;omega
   ·intro hh;have:=hh y g1 g2.1 g2.2;show v.e0.Count+y.Values.e0.Count<=1073741824/\v.e1.Count+y.Values.e1.Count<=1073741824;omega
  ·rw[g3];exact⟨λ_ y hy e1 e2=>absurd ⟨e1,e2⟩ (g1 y hy),λ_=>rfl⟩
 ·intro e;rw[List.mem_append,hf,List.mem_singleton];have hnew:newV L1 k v s x'.Values/\∀ z,newV L1 k v s z->z=x'.Values:=by
   rcases h3 with ⟨y,g1,g2,g3,g4⟩|⟨g1,g2,g3⟩
   ·have huniq:∀ z∈L1,z.Key=k->z.Span=s->z=y:=by
     intro z hz e1 e2;obtain⟨i,hi,rfl⟩:=List.mem_iff_getElem.1 hz;obtain⟨j,hj,rfl⟩:=List.mem_iff_getElem.1 g1;have hpp:=List.pairwise_iff_getElem.1 hp;rcases Nat.lt_trichotomy i j with h|h|h
     ·exact absurd ⟨e1.trans g2.1.symm,e2.trans g2.2.symm⟩ (hpp i j hi hj h)
     ·subst h;rfl
     ·exact absurd ⟨g2.1.trans e1.symm,g2.2.trans e2.symm⟩ (hpp j i hj hi h)
    have hval:x'.Values=⟨X36 y.Values.e0 v.e0,X36 y.Values.e1 v.e1⟩:=by
     rw[g3];show(⟨X36 v.e0 y.Values.e0,X36 v.e1 y.Values.e1⟩:V2 Xm)=_;rw[Xip hv.1 (hok y g1).1,Xip hv.2 (hok y g1).2]
    refine⟨.inl ⟨y,g1,g2.1,g2.2,hval⟩,λz hz=>?_⟩;rcases hz with ⟨w,w1,w2,w3,w4⟩|⟨w1,_⟩
    ·rw[huniq w w1 w2 w3] at w4;rw[w4,hval]
    ·exact absurd ⟨g2.1,g2.2⟩ (w1 y g1)
   ·refine⟨.inr ⟨g1,by rw[g2]⟩,λz hz=>?_⟩;rcases hz with ⟨w,w1,w2,w3,_⟩|⟨_,w2⟩
    ·exact absurd ⟨w2,w3⟩ (g1 w w1)
    ·rw[w2,g2]
  constructor
  ·rintro(⟨q1,q2⟩|q)
   ·exact .inr ⟨q2,q1⟩
   ·subst q;exact .inl ⟨hkey.1,hkey.2,by rw[hkey.2];exact hnew.1⟩
  ·rintro(⟨q1,q2,q3⟩|⟨q1,q2⟩)
   ·right;rw[q2] at q3;have:=hnew.2 _ q3;cases e;cases x'
    simp only at q1 q2 this hkey;rw[q1,q2,this,hkey.1,hkey.2]
   ·exact .inl ⟨q2,q1⟩
 ·intro hb y hy;rcases List.mem_append.1 hy with h|h
  ·exact hok y ((hf y).1 h).1
  ·rw[List.mem_singleton.1 h];rcases h3 with ⟨y,g1,g2,g3,g4⟩|⟨_,g2,_⟩
   ·rw[hb] at g4;have hfb:=g4.symm;rw[g3] at hfb;obtain⟨q1,q2⟩:=Xev hx (hl y g1);unfold Xfr at hfb;rw[q1,q2,Bool.and_eq_true,decide_eq_true_eq,decide_eq_true_eq] at hfb;rw[g3];exact⟨Xc7 hv.1 (hok y g1).1 hfb.1,Xc7 hv.2 (hok y g1).2 hfb.2⟩
   ·rw[g2];exact hv
theorem Xzu (Y:List Xy) (k:Int) (v:V2 Xm) (l:List X1) (hv:okA v.e0/\okA v.e1) (hv1:v.e0.Count<=1073741824/\v.e1.Count<=1073741824):∀ (xs:List Xy) (j:Nat) (s0:Xy) (L1:List X1) (D:Xy->Prop) (b:Bool) (n:Nat),(L1.Pairwise λa b=>¬ X2m a b)->(∀ y∈L1,cB n y)->n+xs.length<=29->L1.length+xs.length<=9000->xs.Nodup->(∀ s∈xs,¬ D s)->(b=true->Xwu l k v D L1/\∀ y∈L1,okA y.Values.e0/\okA y.Values.e1) ->
  ∃ L2 b',X47 Y xs j L1 ⟨k,s0,v⟩ b=some (.x0 L2 b')/\(L2.Pairwise λa b=>¬ X2m a b)/\L2.length<=L1.length+xs.length/\(b=true/\(∀ s∈xs,fitW l k v s)->b'=true/\Xwu l k v (λx=>D x\/x∈xs) L2)/\(¬ (b=true/\∀ s∈xs,fitW l k v s)->b'=false):=by
 intro xs
 induction xs with
 |nil =>
  intro j s0 L1 D b n hp hl _ _ _ _ hb;refine⟨L1,b,rfl,hp,by simp,λh=>⟨h.1,by simpa using(hb h.1).1⟩,λh=>?_⟩
  cases b with
  |false=>rfl
  |true=>exact absurd ⟨rfl,λs hs=>by cases hs⟩ h
 |cons s xs ih =>
  intro j s0 L1 D b n hp hl hn hln hnd hD hb;simp only[List.length_cons] at hn hln;rw[List.nodup_cons] at hnd;have hx:cB 1 ⟨k,s,v⟩:=by
   have c0:=X05 hv.1;have c1:=X05 hv.2;unfold cB;simp only;omega
  obtain⟨c,L2,g1,g2,g3,g4,g5,g6⟩:=X05i om hl om hx hp;have hDs:=hD s (by simp);rw[X47];simp only;rw[g1,Yo];simp only
  obtain⟨L3,b',k1,k2,k3,k4,k5⟩:=ih (j+1) s L2 (λx=>D x\/x=s) (bif b then c else false) (n+1) g2 g3 om om hnd.2 (λx hx hh=>hh.elim (hD x (by simp[hx])) λe=>hnd.1 (e▸hx)) (by
   intro hh
   cases b with
   |false=>cases hh
   |true =>
    obtain⟨p1,p2⟩:=hb rfl;obtain⟨p3,p4⟩:=g6 p2 hv
    exact⟨p1.step hDs p3,p4 hh⟩)
  refine⟨L3,b',k1,k2,by simp only[List.length_cons];omega,λh=>?_,λh=>?_⟩
  ·obtain⟨p1,p2⟩:=hb h.1;have hc:c=true:=g5.2 ((Xkp p1 hDs).2 (h.2 s (by simp)));obtain⟨q1,q2⟩:=k4 ⟨by rw[h.1,hc];rfl,λx hx=>h.2 x (by simp[hx])⟩;refine⟨q1,λe=>?_⟩;rw[q2 e];simp only[List.mem_cons,or_assoc]
  ·refine k5 λhh=>h ?_;have hb1:b=true:=by cases b with
    |false=>exact absurd hh.1 (by simp)
    |true=>rfl
   refine⟨hb1,λx hx=>?_⟩;rcases List.mem_cons.1 hx with rfl|hx
   ·have hc:c=true:=by
     have:=hh.1;rw[hb1] at this;exact this
    exact(Xkp (hb hb1).1 hDs).1 (g5.1 hc)
   ·exact hh.2 x hx
theorem Xfz {l:List X1} (h:l.Pairwise ltE):l.Pairwise λa b=>¬ X2m a b:=h.imp λhab hk=>X7k hk hab
end Go.D


namespace Go.D
theorem Xrg {v:Int} (hv : -9223372036854775808<=v/\v<=9223372036854775807):Xfe v=some (ofA v):=by
 unfold Xfe Xfd;rw[show((Xm.mk 0 0 0 0).Count==0)=true from rfl,cond_true,Yo];simp only;rw[Yf (show ¬ v<v by omega),cond_false,Yo];simp only;rw[Yf (show ¬ v>v by omega),cond_false,Yo];simp only;rw[X05b,Yo];simp only[Int.zero_add v,Xz hv.1 hv.2];rfl
theorem X041 {w:X1z} {t:Int} {s:Xy} (hw:okW w) (ht:okT t) (h:Xsp w.Size (Xhr w) t s) : -1100585369600<=s.Start/\s.Start<s.End/\s.End<=1100585369600:=by
 obtain⟨_,h2,h3,h4⟩:=h;obtain⟨w1,w2,_⟩:=hw;unfold okT at ht;omega
theorem X04l {l:List X1} {w:X1z} {r:Xg} {i:Int} (hl:Xo6 l=true) (hn:l.length<=110) (hw:okW w) (ht:okT r.Time) (hv : -9223372036854775808<=r.Value/\r.Value<=9223372036854775807) (hi:i=0\/i=1) :
  ∃ S e,X6d l w r i=some (S,e)/\Xba l w r i=some (S,e)/\(e=0->Xo6 S=true/\S.length<=l.length+18/\(i=0->(∀ x∈l,x.Values.e1.Count=0)->∀ x∈S,x.Values.e1.Count=0)):=by
 have hst:=(Xc1.1 hl);have hokA:=X02h hl;have ht':=ht;unfold okT at ht';obtain⟨w1,w2,w3⟩:=hw;have hw:okW w:=⟨w1,w2,w3⟩;have e1:(bif (i != 0) then (i != 1) else false)=false:=by rcases hi with h|h<;>simp[h]
 have b1:decide (r.Time<((-1099511627776):Int))=false:=by simp;omega
 have b2:decide (r.Time>(1099511627776:Int))=false:=by simp;omega
 have e2:(bif (decide (r.Time<((-1099511627776):Int))) then true else (decide (r.Time>(1099511627776:Int))))=false:=by rw[b1,b2];rfl
 have e3:((Xf7 r.Value).bind λv14=>bif (i==(0:Int)) then (some (X1.mk r.Key (Xy.mk 0 0) (V2.mk v14 (Xm.mk 0 0 0 0)))) else (bif (i==(1:Int)) then (some (X1.mk r.Key (Xy.mk 0 0) (V2.mk (Xm.mk 0 0 0 0) v14))) else none):Option (X1))=some (Xe7 (r,i) ⟨0,0⟩):=by
  simp only[Xf7,Yo];rcases hi with h|h
  ·simp[h,Xe7,ofA,Xhw]
  ·simp[h,Xe7,ofA,Xhw]
 have e3':((Xfe r.Value).bind λv6=>bif (i==(0:Int)) then (some (X1.mk r.Key (Xy.mk r.Time (IntKind.i64.wrap (r.Time+w.Size))) (V2.mk v6 (Xm.mk 0 0 0 0)))) else (bif (i==(1:Int)) then (some (X1.mk r.Key (Xy.mk r.Time (IntKind.i64.wrap (r.Time+w.Size))) (V2.mk (Xm.mk 0 0 0 0) v6))) else none):Option (X1))=some (Xe7 (r,i) ⟨r.Time,r.Time+w.Size⟩):=by
  rw[Xrg hv,Xz om om];simp only[Yo];rcases hi with h|h
  ·simp[h,Xe7,ofA,Xhw]
  ·simp[h,Xe7,ofA,Xhw]
 have e4:(bif (List.isEmpty l) then (some l) else ((X1f (List.length l) 88).bind λu28=>some l):Option ((List X1)))=some l:=by
  rw[X1j om];cases List.isEmpty l<;>rfl
 have hvv:okA (Xe7 (r,i) ⟨0,0⟩).Values.e0/\okA (Xe7 (r,i) ⟨0,0⟩).Values.e1:=⟨(Xt3 _ _).1,(Xt3 _ _).2.1⟩;have hvc:(Xe7 (r,i) ⟨0,0⟩).Values.e0.Count<=1/\(Xe7 (r,i) ⟨0,0⟩).Values.e1.Count<=1:=(Xt3 _ _).2.2;have hvs:0<(Xe7 (r,i) ⟨0,0⟩).Values.e0.Count+(Xe7 (r,i) ⟨0,0⟩).Values.e1.Count:=by
  unfold Xe7;rcases hi with h|h
  ·simp only[h];show(0:Int)<1+0;omega
  ·simp only[h];show(0:Int)<0+1;omega
 have hv0:i=0->(Xe7 (r,i) ⟨0,0⟩).Values.e1.Count=0:=by rintro rfl;rfl
 have hbase:∀ (S:List X1) (b:Bool),X5p l w r i=some (S,b)->Xba l w r i=some (if b then (S,0) else ([],4)):=by
  intro S b h;unfold Xba;have c2:(X9j w)=some 0:=by
   have:=(X006 w (by rcases w3 with h|h<;>omega)).1;unfold X9j;rw[this,Yt hw];rfl
  have c3:(bif (decide (i<(0:Int))) then true else (decide (i>(1:Int))))=false:=by rcases hi with h|h<;>simp[h]
  rw[Xch,if_neg om,if_pos hl,Yo];simp only[bne_self_eq_false,cond_false];rw[c2,Yo];simp only[bne_self_eq_false,cond_false];rw[c3,cond_false,Xh6 ht om om,Yo];simp only[bne_self_eq_false,cond_false];rw[h,Yo];cases b<;>rfl
 by_cases hk:w.Kind=3
 ·-- sessions
  have hent:(⟨(Xe7 (r,i) ⟨0,0⟩).Key,⟨r.Time,r.Time+w.Size⟩,(Xe7 (r,i) ⟨0,0⟩).Values⟩:X1)=Xe7 (r,i) ⟨r.Time,r.Time+w.Size⟩:=rfl;have hx:okA (Xe7 (r,i) ⟨r.Time,r.Time+w.Size⟩).Values.e0/\okA (Xe7 (r,i) ⟨r.Time,r.Time+w.Size⟩).Values.e1:=hvv;have hsp:(Xe7 (r,i) ⟨r.Time,r.Time+w.Size⟩).Span.Start<(Xe7 (r,i) ⟨r.Time,r.Time+w.Size⟩).Span.End:=by show r.Time<r.Time+w.Size;omega
  obtain⟨x',R',M,h1,h2,h3⟩:=X094 om hokA hx hsp;have hmeet:=X06g FU l _ (by unfold FU;omega) om hst.2 hokA hx hsp x' R' M h2 h3;have hsub:=h2.sub;have hRs:R'.Pairwise ltE:=hst.2.sublist hsub;have hxs:x'.Span.Start<x'.Span.End:=by
   obtain⟨g1,g2,g3⟩:=h2.grow.1;omega
  have hno:∀ y∈R',¬ X2m y x':=λy hy=>Xu0 hxs (h3 y hy);have hpw:(R'++[x']).Pairwise λa b=>¬ X2m a b:=by
   rw[List.pairwise_append];exact⟨Xfz hRs,List.pairwise_singleton _ _,λy hy z hz=>by rw[List.mem_singleton.1 hz];exact hno y hy⟩
  have hlen:=hsub.length_le;obtain⟨o,o1,o2,o3,o4⟩:=Xb9 hpw (by rw[List.length_append,List.length_singleton];omega);have hpl:=Xtv R' x';have hoS:o=Xmb R' x':=Xi5 o2 (Xgj hRs) λe=>by rw[o3,Xoc hRs hno];simp
  subst hoS;have hgiven:X5p l w r i=some (Xmb R' x',Xfr x'):=by
   unfold X5p;rw[e3',Yo,show(w.Kind==3)=true by simp[hk],cond_true,h1,Yo];simp only;rw[o1,Yo];have hd:decide (((R'++[x']).length:Int)<=4000)=true:=by rw[List.length_append,List.length_singleton];simp;omega
   rw[hd];cases Xfr x'<;>rfl
  have c1:decide (w.Size<1)=false:=by simp;omega
  have c2:decide (w.Size>1073741824)=false:=by simp;omega
  have e6:X3s 0 w.Size=some 0:=by simp only[X3s,c1,c2,cond_false];rfl
  have e7:X3s r.Time w.Size=some 0:=by simp only[X3s,c1,c2,cond_false,b1,b2]
  have e8:Xa4 1=some 1:=by decide +kernel
  have hg:X15 [Xy.mk r.Time (IntKind.i64.wrap (r.Time+w.Size))] 0=some ⟨r.Time,r.Time+w.Size⟩:=by rw[Xz om om];rfl
  have hadd:X6d l w r i=some (if Xfr x' then (Xmb R' x',0) else ([],4)):=by
   unfold X6d;rw[X6c,if_neg om,if_pos hl,Yo];simp only[bne_self_eq_false,cond_false,X4j hw,Yo,e1,e2];rw[e3,Yo,e4,Yo];simp only[show(w.Kind==3)=true by simp[hk],cond_true,e6,e7,e8,Yo,bne_self_eq_false,cond_false];rw[hg,Yo,hent,hmeet]
   cases Xfr x' with
   |true =>
    simp only[if_true,Yo,bne_self_eq_false,cond_false];rw[Yf (show ¬ ((Xmb R' x').length:Int)>4000 by omega)];rfl
   |false=>rfl
  cases hf:Xfr x' with
  |false =>
   refine⟨[],4,by rw[hadd,hf];rfl,by rw[hbase _ _ hgiven,hf];rfl,λh=>by cases h⟩
  |true =>
   refine⟨Xmb R' x',0,by rw[hadd,hf];rfl,by rw[hbase _ _ hgiven,hf];rfl,λ_=>⟨Xc1.2 ⟨λe he=>?_,Xgj hRs⟩,by omega,λh0 hz e he=>?_⟩⟩
   ·rcases(Xoc hRs hno e).1 he with h|h
    ·exact hst.1 e (hsub.mem h)
    ·rw[h];refine h2.oke ⟨?_,hsp,?_,hx.1,hx.2,hvs⟩ hst.1 hf
     ·show -1100585369600<=r.Time;omega
     ·show r.Time+w.Size<=1100585369600;omega
   ·rcases(Xoc hRs hno e).1 he with h|h
    ·exact hz e (hsub.mem h)
    ·rw[h];exact h2.zero (Xe2 hx) (λy hy=>Xe2 (hokA y hy)) (hv0 h0) hz
 ·-- windows
  obtain⟨W,hW,hWl,hWn,hWm⟩:=Xl4 hw hk ht;obtain⟨W',hW',⟨hWl',hWn'⟩,hWm'⟩:=Xx8 hw hk ht;have hmem:∀ s,s∈W↔s∈W':=λs=>by rw[hWm,hWm']
  have hP0:Xwu l r.Key (Xe7 (r,i) ⟨0,0⟩).Values (λ_=>False) l:=λe=>by simp
  have hE:∀ s,(⟨r.Key,s,(Xe7 (r,i) ⟨0,0⟩).Values⟩:X1)=Xe7 (r,i) s:=λs=>rfl
  obtain⟨L2,b',g1,g2,g3,g4,g5⟩:=Xzu W' r.Key (Xe7 (r,i) ⟨0,0⟩).Values l hvv om W' 0 ⟨r.Time,r.Time+w.Size⟩ l (λ_=>False) true 1 (Xfz hst.2) (λy hy=>by
   have c0:=X05 (hokA y hy).1;have c1:=X05 (hokA y hy).2
   unfold cB;omega) om om hWn' (λ_ _ h=>h) (λ_=>⟨hP0,hokA⟩)
  obtain⟨o,o1,o2,o3,o4⟩:=Xb9 g2 om;have hgiven:X5p l w r i=some (o,b'):=by
   unfold X5p;rw[e3',Yo,show(w.Kind==3)=false by simp[hk],cond_false,hW',Yo,X26 om,Yo];rw[show Xe7 (r,i) ⟨r.Time,r.Time+w.Size⟩=⟨r.Key,⟨r.Time,r.Time+w.Size⟩,(Xe7 (r,i) ⟨0,0⟩).Values⟩ from rfl,g1,Yo];simp only;rw[o1,Yo];have hd:decide ((L2.length:Int)<=4000)=true:=by simp;omega
   rw[hd];cases b'<;>rfl
  have hadd:∀ o,X2w W W 0 (Xe7 (r,i) ⟨0,0⟩) l=some o->X6d l w r i=match o with|.x0 z=>(bif (decide ((List.length z:Int)>(4000:Int))) then (some (([]:List X1),4)) else (some (z,0)))|.x1 z e=>some (z,e):=by
   intro o ho;unfold X6d;rw[X6c,if_neg om,if_pos hl,Yo];simp only[bne_self_eq_false,cond_false,X4j hw,Yo,e1,e2];rw[e3,Yo,e4,Yo];simp only[show(w.Kind==3)=false by simp[hk],cond_false,hW,Yo,bne_self_eq_false];rw[X26 om,Yo,ho,Yo];cases o<;>rfl
  have hfit:(∀ s∈W,fitW l r.Key (Xe7 (r,i) ⟨0,0⟩).Values s)↔(∀ s∈W',fitW l r.Key (Xe7 (r,i) ⟨0,0⟩).Values s):=⟨λh s hs=>h s ((hmem s).2 hs),λh s hs=>h s ((hmem s).1 hs)⟩;rcases Xo4 W r.Key (Xe7 (r,i) ⟨0,0⟩).Values l hvv W 0 ⟨0,0⟩ l (λ_=>False) hP0 hst.2 hokA hWn (λ_ _ h=>h) om with ⟨f1,l2,f2,f3,f4,f5,f6⟩|⟨f1,f2⟩
  ·obtain⟨k1,k2⟩:=g4 ⟨rfl,hfit.1 f1⟩;have heq:o=l2:=Xi5 o2 f4 λe=>by
    rw[o3,k2 e,f3 e];simp only[false_or,hmem]
   subst heq;have hl2:o.length<=l.length+18:=by omega
   refine⟨o,0,?_,by rw[hbase _ _ hgiven,k1];rfl,λ_=>⟨Xc1.2 ⟨λe he=>?_,f4⟩,hl2,λh0 hz e he=>?_⟩⟩
   ·rw[hadd _ f2];simp only;rw[Yf (show ¬ (o.length:Int)>4000 by omega)];rfl
   ·rcases(f3 e).1 he with ⟨_,q2,q3⟩|⟨_,q2⟩
    ·have hs:e.Span∈W:=q2.resolve_left id;obtain⟨s1,s2,s3⟩:=X041 hw ht ((hWm _).1 hs);obtain⟨p1,p2⟩:=f5 e he;refine⟨s1,s2,s3,p1,p2,?_⟩;rcases q3 with ⟨y,y1,_,_,y4⟩|⟨_,y4⟩
     ·have c0:=X05 (hokA y y1).1;have c1:=X05 (hokA y y1).2;have d0:=X05 hvv.1;have d1:=X05 hvv.2;rw[y4];show 0<(X36 _ _).Count+(X36 _ _).Count;rw[X85 c0.1 d0.1,X85 c1.1 d1.1];omega
     ·rw[y4];exact hvs
    ·exact hst.1 e q2
   ·rcases(f3 e).1 he with ⟨_,_,q3⟩|⟨_,q2⟩
    ·rcases q3 with ⟨y,y1,_,_,y4⟩|⟨_,y4⟩
     ·have c1:=X05 (hokA y y1).2;have d1:=X05 hvv.2;rw[y4];show(X36 _ _).Count=0;rw[X85 c1.1 d1.1,hz y y1,hv0 h0];rfl
     ·rw[y4];exact hv0 h0
    ·exact hz e q2
  ·have hb:b'=false:=g5 λh=>f1 (hfit.2 h.2);refine⟨[],4,by rw[hadd _ f2],by rw[hbase _ _ hgiven,hb];rfl,λh=>by cases h⟩
end Go.D


namespace Go.D
structure Few (t:Xo):Prop where
 pend:t.Pending.length<=4010
 rows:t.Rows.length<=4010
 late:t.Late.length<=4010
 store:t.Store.length<=100
 events:t.Events.length<=100
 marks:t.Marks.length<=20
theorem cu {α:Type} (l:List α) (b:Nat) (h:l.length*b<=140737488355328):(bif (List.isEmpty l) then (some ()) else ((X1f (List.length l) b).bind λ_=>some ()):Option (Unit))=some ():=by
 rw[X1j h];cases l.isEmpty<;>rfl
theorem Xpn {t:Xo} (f:Few t):Xaf t=some t:=by
 obtain⟨f1,f2,f3,f4,f5,f6⟩:=f;unfold Xaf;rw[cu _ _ om,Yo,cu _ _ om,Yo,cu _ _ om,Yo,cu _ _ om,Yo,cu _ _ om,Yo,cu _ _ om,Yo]
theorem X03e (l:List Int) (hl:l.length<=1000):∀ (m n k:Nat) (y:Int),m=l.length - k->m<n->k<=l.length->X3h l n y (k:Int)=some (.x0 (minF (l.drop k) y)):=by
 intro m
 induction m with
 |zero =>
  intro n k y hm hn hk;obtain⟨n,rfl⟩:∃ q,n=q+1:=⟨n - 1,by omega⟩;rw[X3h,Yf om,List.drop_eq_nil_of_le om];rfl
 |succ m ih =>
  intro n k y hm hn hk;obtain⟨n,rfl⟩:∃ q,n=q+1:=⟨n - 1,by omega⟩;have hlt:k<l.length:=by omega
  rw[X3h,Yt om,cond_true,X2a,Ye hlt,Yo,Xz om om,show((k:Int)+1)=((k+1:Nat):Int) by omega,ih n (k+1) _ om om om,List.drop_eq_getElem_cons hlt];rfl
theorem Xof {l:List Int} (h1:1<=l.length) (h2:l.length<=1000):X4l l=some (Xlf l):=by
 unfold X4l
 cases l with
 |nil=>simp at h1
 |cons x xs =>
  rw[show X15 (x::xs) 0=some x from X2a (x::xs) 0,Yo];have:=X03e (x::xs) h2 xs.length FU 1 x (by simp) (by simp at h2;unfold FU;omega) (by simp);rw[show((1:Nat):Int)=1 from rfl] at this;rw[this];rfl
theorem Xri {l:List Int} {j:Nat} (hj:j<l.length) (hl:l.length<=20) (t:Int):X7e l (j:Int) t=some (X28 l j t,decide (Xlf (X28 l j t)>Xlf l)):=by
 unfold X7e;rw[X1j om,Yo,X2a,Ye hj,Yo];have e:l.set (Int.toNat (j:Int)) (if t>l[j] then t else l[j])=X28 l j t:=by
  unfold X28;rw[List.getD_eq_getElem?_getD,Ye hj];rfl
 have hr:(X28 l j t).length=l.length:=by unfold X28;simp
 rw[e,Xof om om,Yo,Xof om om];rfl
theorem Xqj (M:Int):∀ (l:List X1),l.Pairwise ltE->l=X69 M l++Xfu M l
 |[],_=>rfl
 |x::l,h=>by
  rw[List.pairwise_cons] at h;unfold X69 Xfu;by_cases hx:x.Span.End<=M
  ·rw[List.filter_cons_of_pos (by simpa using hx),List.filter_cons_of_neg (by simpa using hx),List.cons_append];exact congrArg (x::·) (Xqj M l h.2)
  ·have h1:∀ y∈l,¬ y.Span.End<=M:=λy hy=>by have:=h.1 y hy;unfold ltE at this;omega
   rw[List.filter_cons_of_neg (by simpa using hx),List.filter_cons_of_pos (by simpa using hx)];rw[List.filter_eq_nil_iff.2 (λy hy=>by simpa using h1 y hy),List.filter_eq_self.2 (λy hy=>by simpa using h1 y hy)];rfl
theorem Xy3 {l F R:List X1} {M:Int} (hl:l=F++R) (hF:∀ x∈F,x.Span.End<=M) (hR:∀ x∈R,¬ x.Span.End<=M) (hn:l.length<=1000):∀ (m f n:Nat),m=F.length - n->m<f->n<=F.length->X3j l M f (n:Int)=some (.x0 (F.length:Int)):=by
 intro m
 induction m with
 |zero =>
  intro f n hm hf hn';obtain⟨f,rfl⟩:∃ q,f=q+1:=⟨f - 1,by omega⟩;have:n=F.length:=by omega
  subst this;rw[X3j]
  cases R with
  |nil =>
   rw[Yf (show ¬ ((F.length:Int)<(l.length:Int)) by rw[hl];simp)];rfl
  |cons x R =>
   have hg:l[F.length]?=some x:=by rw[hl];simp
   rw[Yt (show((F.length:Int)<(l.length:Int)) by rw[hl];simp;omega),cond_true,X2a,hg,Yo,Yf (hR x (by simp))];rfl
 |succ m ih =>
  intro f n hm hf hn';obtain⟨f,rfl⟩:∃ q,f=q+1:=⟨f - 1,by omega⟩;have hlt:n<F.length:=by omega
  have hg:l[n]?=some F[n]:=by rw[hl,List.getElem?_append_left hlt,Ye hlt]
  have hll:F.length<=l.length:=by rw[hl];simp
  rw[X3j,Yt (show((n:Int)<(l.length:Int)) by omega),cond_true,X2a,hg,Yo,Yt (hF _ (List.getElem_mem hlt))];simp only[cond_true,Yo];rw[Xz om om,show((n:Int)+1)=((n+1:Nat):Int) by omega,ih f (n+1) om om om]
theorem Xy2 {l:List X1} (hs:l.Pairwise ltE) (hn:l.length<=1000) (M:Int):X7h l M=some (X69 M l,Xfu M l):=by
 have hpre:=Xqj M l hs;have hfl:=Xj1 M l;have hL:=Xy3 hpre (λx hx=>by simpa using(List.mem_filter.1 hx).2) (λx hx=>by simpa using(List.mem_filter.1 hx).2) hn ((X69 M l).length - 0) FU 0 rfl (by unfold FU;omega) om;rw[show((0:Nat):Int)=0 from rfl] at hL;have hle:(X69 M l).length<=l.length:=hfl;have t1:∀ A B:List X1,l=A++B->l.take A.length=A:=by rintro A B rfl;exact List.take_left
 have t2:∀ A B:List X1,l=A++B->l.drop A.length=B:=by rintro A B rfl;exact List.drop_left
 have s1:X5n l 0 ((X69 M l).length:Int)=some (X69 M l):=by
  unfold X5n;rw[if_pos ⟨by omega,by omega,by simpa using hle⟩];simp only[Int.toNat_natCast];congr 1
  rw[show Int.toNat 0=0 from rfl,List.drop_zero,Nat.sub_zero];exact t1 _ _ hpre
 have s2:X5n l ((X69 M l).length:Int) (l.length:Int)=some (Xfu M l):=by
  unfold X5n;rw[if_pos ⟨by omega,by omega,by simp⟩];simp only[Int.toNat_natCast];congr 1
  have:l.drop (X69 M l).length=Xfu M l:=by
   exact t2 _ _ hpre
  rw[this,List.take_of_length_le];have:=congrArg List.length hpre;rw[List.length_append] at this;omega
 have hrl:=Xpy M l;unfold X7h;rw[hL,Yo];simp only;rw[s1,Yo,s2,X1j om];simp only[Yo];rw[X1j om];cases(X69 M l).isEmpty<;>cases(Xfu M l).isEmpty<;>rfl
theorem X03c (n:Int):Xep n=Xeu n:=by
 unfold Xep Xeu;by_cases h1:n<1
 ·rw[Yt h1];rfl
 ·rw[Yf h1];by_cases h2:n>4
  ·rw[Yt h2];rfl
  ·rw[Yf h2];rcases(by omega:n=1\/n=2\/n=3\/n=4) with h|h|h|h<;>subst h<;>decide +kernel
theorem Xw8 (m:Xp):X7u m=some (mOK m&&(decide (m.Kind=1)||decide (m.Kind=2))):=by
 unfold X7u;rw[Xnb,Yo]
 cases mOK m with
 |false=>rfl
 |true =>
  by_cases h1:m.Kind=1
  ·simp[h1]
  ·by_cases h2:m.Kind=2<;>simp[h1,h2]
def Xm7 (t:Xo) (k i:Int) (m:Xp):Int :=
 if tOK t then (if t.Op.Kind≠k\/i<0\/i >= t.Marks.length then 2 else if mOK m=true/\(m.Kind=1\/m.Kind=2) then (if t.Pending=[] then 0 else 18) else 8) else 8
theorem Xnv {t:Xo} (f:Few t) (k i:Int) (m:Xp):X8q t k i m=some (Xm7 t k i m):=by
 unfold X8q Xm7;rw[X04h f.pend f.rows f.late f.store f.events f.marks,Yo,Xw8]
 cases tOK t with
 |false=>rfl
 |true =>
  simp only[if_true,bne_self_eq_false,cond_false];by_cases hk:t.Op.Kind=k
  ·rw[show(t.Op.Kind != k)=false by simpa using hk];by_cases h0:i<0
   ·rw[Yt h0,if_pos (.inr (.inl h0))];rfl
   ·rw[Yf h0];by_cases h1:i >= (List.length t.Marks:Int)
    ·rw[Yt h1,if_pos (.inr (.inr h1))];rfl
    ·rw[Yf h1,if_neg om];simp only[cond_false,Yo];by_cases hm:mOK m=true/\(m.Kind=1\/m.Kind=2)
     ·rw[if_pos hm,hm.1,show(decide (m.Kind=1)||decide (m.Kind=2))=true by simpa using hm.2];simp only[Bool.and_self,Bool.not_true,cond_false]
      cases hp:t.Pending with
      |nil=>rfl
      |cons a b =>
       rw[if_neg (by simp),Yt (by simp)];rfl
     ·rw[if_neg hm];have:(mOK m&&(decide (m.Kind=1)||decide (m.Kind=2)))=false:=by
       rw[<-Bool.not_eq_true];intro h;simp only[Bool.and_eq_true,Bool.or_eq_true,decide_eq_true_eq] at h;exact hm h
      rw[this];rfl
  ·rw[show(t.Op.Kind != k)=true by simpa using hk,if_pos (.inl hk)];rfl
end Go.D


namespace Go.D
def rowJ (q:X0g) (x:X1):X1b:=⟨x.Key,x.Span,⟨valA q.Agg x.Values.e0,valA q.Agg x.Values.e1⟩⟩
def Xta (x:X1):Bool:=decide (x.Values.e0.Count≠0)&&decide (x.Values.e1.Count≠0)
theorem Xlk {q:X0g} (h1:1<=q.Agg) (h2:q.Agg<=4) {x:X1} (hx:okE x):Xfk q x=some (if Xta x then (rowJ q x,true) else (⟨0,⟨0,0⟩,⟨0,0⟩⟩,false)):=by
 obtain⟨_,_,_,a0,a1,_⟩:=hx;unfold Xfk Xta;rw[Xf6 h1 h2 a0,Xf6 h1 h2 a1];simp only[Yo];by_cases c0:x.Values.e0.Count=0
 ·rw[if_pos c0];simp[c0]
 ·by_cases c1:x.Values.e1.Count=0
  ·rw[if_neg c0,if_pos c1];simp[c1]
  ·rw[if_neg c0,if_neg c1];simp[c0,c1,rowJ]
def Xdx (q:X0g) (l:List X1):List X09:=(l.filter Xta).map λx=>Xxk (rowJ q x)
theorem Xbn {q:X0g} (h1:1<=q.Agg) (h2:q.Agg<=4) (t u:Xo) (Y:List X1):∀ (xs:List X1) (k:Nat) (o:List X09),(∀ x∈xs,okE x)->o.length+xs.length<=100000->X3t q t u Y xs k o=some (.x0 (o++Xdx q xs))
 |[],k,o,_,_=>by simp[X3t,Xdx]
 |x::xs,k,o,hx,hn=>by
  simp only[List.length_cons] at hn;rw[X3t,Xlk h1 h2 (hx x List.mem_cons_self),Yo];unfold Xdx;rw[List.filter_cons]
  cases hb:Xta x with
  |false =>
   simp only[Bool.false_eq_true,if_false,cond_false,Yo];exact Xbn h1 h2 t u Y xs (k+1) o (λy hy=>hx y (List.mem_cons_of_mem _ hy)) om
  |true =>
   simp only[if_true,cond_true];rw[X1j (by simp;omega)];simp only[Yo];rw[Xbn h1 h2 t u Y xs (k+1) _ (λy hy=>hx y (List.mem_cons_of_mem _ hy)) (by simp;omega)];simp[Xdx,Xxk]
theorem Xnf (q:X0g) (l:List X1):(Xdx q l).length<=l.length:=by unfold Xdx;rw[List.length_map];exact List.length_filter_le _ _
theorem Xxj (q:X0g) {l:List X1} (h:∀ x∈l,okE x):(Xdx q l).all sOK=true:=by
 rw[List.all_eq_true];intro s hs;obtain⟨x,hx,rfl⟩:=List.mem_map.1 hs;exact X02n (X06e (h x (List.mem_filter.1 hx).1) _ rfl)
theorem X9x {q:X0g} (hq:QW q):X62 q=some (decide ((Xq0 q).2=0)&&q.Join):=by
 unfold X62;rw[Xm5 hq,Yo];by_cases h:(Xq0 q).2=0
 ·rw[h,Yt rfl];cases q.Join<;>rfl
 ·rw[show((Xq0 q).2==0)=false by simpa using h,Yf h];rfl
end Go.D


namespace Go.D
theorem Xu1 {t:Xo} (h:tOK t=true) (hk:t.Op.Kind=5):Xk8 t.Marks=true/\t.Marks.length=2:=by
 obtain⟨o1,o2,o3,o4,o5⟩:=Xgt h;have h2l:t.Marks.length=2:=by
  unfold Xgs at o2;simp only[Bool.and_eq_true,decide_eq_true_eq] at o2;obtain⟨⟨⟨⟨⟨⟨_,h2⟩,h3⟩,_⟩,_⟩,_⟩,_⟩:=o2;rw[hk] at h2 h3;have h2':(2:Int)<=t.Marks.length:=h2;have h3':(t.Marks.length:Int)<=2:=h3;omega
 refine⟨?_,h2l⟩;unfold Xps at o5;simp only[Bool.and_eq_true] at o5;unfold Xk8;rw[Yt om,Yt om,o5.1.1.1.1];rfl
theorem X07n (q:X0g):∃ b,Xbl q=some b:=by
 unfold Xbl;cases decide ((List.length q.Arg:Int)>100)<;>cases decide ((List.length q.Where:Int)>100)<;>exact⟨_,rfl⟩
end Go.D


namespace Go.D
theorem Xpp {agg:Int} (h1:1<=agg) (h2:agg<=4) (a:Xm):Xag agg a=some (valA agg a):=by
 unfold Xag valA;rcases(by omega:agg=1\/agg=2\/agg=3\/agg=4) with h|h|h|h<;>subst h<;>rfl
theorem Xpo {q:X0g} (h1:1<=q.Agg) (h2:q.Agg<=4) (x:X1):Xae q x=some (if Xta x then (rowJ q x,true) else (⟨0,⟨0,0⟩,⟨0,0⟩⟩,false)):=by
 unfold Xae Xta;rw[Xpp h1 h2,Xpp h1 h2];by_cases c0:x.Values.e0.Count=0
 ·simp[c0]
 ·by_cases c1:x.Values.e1.Count=0
  ·have e0:(x.Values.e0.Count==0)=false:=by simpa using c0
   rw[e0];simp[c0,c1]
  ·have e0:(x.Values.e0.Count==0)=false:=by simpa using c0
   have e1:(x.Values.e1.Count==0)=false:=by simpa using c1
   rw[e0,e1];simp[c0,c1,rowJ]
theorem Xl2 {q:X0g} (h1:1<=q.Agg) (h2:q.Agg<=4) (t:Xo) (a b c:Int) (d:List Int) (e:List X1) (f:List X01) (g:List X1b) (h:List Xg) (Y:List X1):∀ (xs:List X1) (k:Nat) (o:List X09),o.length+xs.length<=100000->X38 q t a b c d e f g h Y xs k o=some (.x0 (o++Xdx q xs))
 |[],k,o,_=>by simp[X38,Xdx]
 |x::xs,k,o,hn=>by
  simp only[List.length_cons] at hn;unfold X38;rw[Xpo h1 h2,Yo]
  cases hb:Xta x with
  |true =>
   simp only[if_true,cond_true];rw[X1j (by rw[List.length_append,List.length_singleton];omega)];simp only[Yo];rw[Xl2 h1 h2 t a b c d e f g h Y xs (k+1) _ (by rw[List.length_append,List.length_singleton];omega)];simp[Xdx,Xxk,hb]
  |false =>
   simp only[Bool.false_eq_true,if_false,cond_false,Yo];rw[Xl2 h1 h2 t a b c d e f g h Y xs (k+1) _ om];simp[Xdx,hb]
theorem Xuw {t:Xo} (h:tOK t=true) (hk:t.Op.Kind=5) {S:List X1} (hS:Xo6 S=true) (hl:S.length<=4000):tOK { t with Store:=S }=true:=by
 obtain⟨a1,⟨a2,a3⟩,a4,a5,a6,a7⟩:=(Xl3 t).1 h;refine(Xl3 _).2 ⟨a1,⟨a2,?_⟩,a4,hS,a6,?_⟩
 ·obtain⟨b1,b2,b3,b4,b5,b6⟩:=a3;refine⟨b1,b2,?_,b4,b5,b6⟩;show(S.length:Int)<=X7t (Xbs t.Op.Kind).2.2.1 4000;rw[hk];show(S.length:Int)<=4000;omega
 ·rw[List.all_eq_true];intro x _;simp[hk]
theorem Xpr {t:Xo} (h:tOK t=true) (hk:t.Op.Kind=5) {j:Nat} (hjl:j<t.Marks.length) {x:Int} (ht:Xmz x=true) {S:List X1} (hS:S.Sublist t.Store):tOK { t with Marks:=X28 t.Marks j x,Store:=S }=true:=by
 have hms:=Xnh (Xu1 h hk).1 hjl ht;have hlr:(X28 t.Marks j x).length=t.Marks.length:=by unfold X28;simp
 have hsl:=hS.length_le;obtain⟨a1,⟨a2,a3⟩,a4,a5,a6,a7⟩:=(Xl3 t).1 h;refine(Xl3 _).2 ⟨a1,⟨a2,?_⟩,a4,X02g hS a5,⟨(Xhb hms).2.2,a6.2⟩,?_⟩
 ·obtain⟨b1,b2,b3,b4,b5,b6⟩:=a3;unfold Xyw;simp only[hlr];exact⟨b1,b2,by omega,b4,b5,b6⟩
 ·rw[List.all_eq_true];intro y _;simp[hk]
theorem Xmy {q:X0g} (hq:RQ q) (hj:q.Join=true) {t:Xo} (hok:tOK t=true) (hk:t.Op.Kind=5) (hp:t.Pending=[]) {j:Nat} (hjl:j<t.Marks.length) {m:Xp} (hm:mOK m=true) (hmk:m.Kind=2) :
  (¬ Xlf (X28 t.Marks j m.Time)>Xlf t.Marks/\X4h q t (j:Int) m=some ({ t with Marks:=X28 t.Marks j m.Time },0)) \/
  (Xlf (X28 t.Marks j m.Time)>Xlf t.Marks/\X4h q t (j:Int) m=some ({ t with Marks:=X28 t.Marks j m.Time,Store:=Xfu (Xlf (X28 t.Marks j m.Time)) t.Store,Pending:=Xdx q (X69 (Xlf (X28 t.Marks j m.Time)) t.Store) },0)):=by
 have hf:=hq.facts;obtain⟨o1,o2,o3,o4,o5⟩:=Xgt hok;obtain⟨l1,l2,l3,l4,l5,l6⟩:=Xi4 o2;obtain⟨hms,h2l⟩:=Xu1 hok hk;have hi0:¬ (j:Int)<0:=by omega
 have hi1:¬ (j:Int)>1:=by omega
 have hpl:¬ (List.length t.Pending:Int)>0:=by rw[hp];decide
 have hkk:(bif (m.Kind != 1) then (m.Kind != 2) else false)=false:=by rw[hmk];rfl
 have hbase:∀ r,(bif (m.Kind==(1:Int)) then ((X6d t.Store q.Window m.Record (j:Int)).bind λv13=>bif (v13.2 != (0:Int)) then (some (t0,v13.2)) else ((X52 (Xo.mk t.Op t.Turn t.Pending t.Marks v13.1 t.Events t.Rows t.Late) ([]:List X09)).bind λv16=>some (v16.1,v16.2))) else ((X95 t.Marks (j:Int) m.Time).bind λv18=>bif (!v18.2.1) then ((X52 (Xo.mk t.Op t.Turn t.Pending v18.1 t.Store t.Events t.Rows t.Late) ([]:List X09)).bind λv21=>some (v21.1,v21.2)) else ((X74 v18.1).bind λv23=>(Xab t.Store v23.1).bind λv25=>(X5d (List.length v25.1)).bind λu27=>(X3t q (Xo.mk t.Op t.Turn t.Pending v18.1 v25.2.1 t.Events t.Rows t.Late) t0 v25.1 v25.1 0 ([]:List X09)).bind λo90=>match o90 with|.x0 X4o=>((X52 (Xo.mk t.Op t.Turn t.Pending v18.1 v25.2.1 t.Events t.Rows t.Late) X4o).bind λv92=>some (v92.1,v92.2)))):Option (Xo×Int))=r->X4h q t (j:Int) m=r:=by
  intro r hr;unfold X4h;rw[X9x hq.w,hq.ok,hj,Xa0,if_pos hok,show(t.Op.Kind != 5)=false by simpa using hk,Yf hi0,Yf hi1,X2k,if_pos hm,hkk,Yf hpl];exact hr
 have hpend:∀ (u:Xo),u.Pending=[]->∀ L:List X09,L.all sOK=true->L.length<=4000->X52 u L=some (if tOK u then ({ u with Pending:=L },0) else (t0,8)):=by
  intro u hu L h1 h2;rw[Xj9 hu om,if_pos h1,if_neg (show ¬ L.length>4000 by omega)]
 have ht:Xmz m.Time=true:=by
  unfold mOK at hm;rw[if_neg om,if_pos hmk] at hm;simp only[Bool.and_eq_true] at hm;exact hm.1
 have hR:=Xmv hms hjl ht;have hmr:=Xnh hms hjl ht;by_cases hgr:Xlf (X28 t.Marks j m.Time)>Xlf t.Marks
 ·refine .inr ⟨hgr,?_⟩;have hokE:=(Xc1.1 o4).1;have hfl:=Xj1 (Xlf (X28 t.Marks j m.Time)) t.Store;have hsl:=Xnf q (X69 (Xlf (X28 t.Marks j m.Time)) t.Store);have hPe:=hpend ⟨t.Op,t.Turn,t.Pending,X28 t.Marks j m.Time,Xfu (Xlf (X28 t.Marks j m.Time)) t.Store,t.Events,t.Rows,t.Late⟩ hp _ (Xxj q (l:=X69 (Xlf (X28 t.Marks j m.Time)) t.Store) λx hx=>hokE x (Xns hx)) om;have hok2:tOK ⟨t.Op,t.Turn,t.Pending,X28 t.Marks j m.Time,Xfu (Xlf (X28 t.Marks j m.Time)) t.Store,t.Events,t.Rows,t.Late⟩=true:=Xpr hok hk hjl ht List.filter_sublist;refine hbase _ ?_;rw[show(m.Kind==1)=false by simp;omega,cond_false,hR,Yo,Yt hgr];simp only[Bool.not_true,cond_false];rw[Xg1,if_pos hmr,Yo];simp only;rw[Xo5 o4 om,Yo];simp only;rw[X26 om,Yo,Xbn hf.1.1 hf.1.2.1 _ _ _ _ 0 [] (λx hx=>hokE x (Xns hx)) (by simp;omega),Yo];simp only[List.nil_append];rw[hPe,if_pos hok2,Yo]
 ·refine .inl ⟨hgr,?_⟩;have hPe:=hpend ⟨t.Op,t.Turn,t.Pending,X28 t.Marks j m.Time,t.Store,t.Events,t.Rows,t.Late⟩ hp [] rfl (by simp);have hok2:tOK ⟨t.Op,t.Turn,t.Pending,X28 t.Marks j m.Time,t.Store,t.Events,t.Rows,t.Late⟩=true:=Xpr hok hk hjl ht (List.Sublist.refl _);refine hbase _ ?_;rw[show(m.Kind==1)=false by simp;omega,cond_false,hR,Yo,Yf hgr];simp only[Bool.not_false,cond_true];rw[hPe,if_pos hok2,Yo];simp only[<-hp]
structure Cmp (t:Xo):Prop where
 pend:t.Pending.length<=90000
 marks:t.Marks.length<=90000
 store:t.Store.length<=90000
 events:t.Events.length<=90000
 rows:t.Rows.length<=90000
 late:t.Late.length<=90000
theorem Cmp.same {t:Xo} (h:Cmp t):X7f t t=some true:=Xre h.pend h.marks h.store h.events h.rows h.late
theorem cmp0:Cmp t0:=⟨by decide,by decide,by decide,by decide,by decide,by decide⟩
theorem Few.cmp {t:Xo} (f:Few t):Cmp t:=by
 obtain⟨f1,f2,f3,f4,f5,f6⟩:=f;exact⟨by omega,by omega,by omega,by omega,by omega,by omega⟩
theorem Xuv {q:X0g} (hq:QW q) {t:Xo} (f:Few t) (i:Int) {m:Xp} (hv : -9223372036854775808<=m.Record.Value/\m.Record.Value<=9223372036854775807) :
  ∃ r,X4h q t i m=some r/\X7d q t i m=some r/\Cmp r.1:=by
 have ha:=X9x hq;have h29:=Xtt hq;by_cases hok:(Xq0 q).2=0/\q.Join=true
 rotate_left
 ·refine⟨(t0,8),?_,?_,cmp0⟩
  ·unfold X4h;rw[ha,show(decide ((Xq0 q).2=0)&&q.Join)=false by rw[<-Bool.not_eq_true];intro h;simp at h;exact hok h];rfl
  ·unfold X7d
   rw[h29,Yo,show(bif (!(decide ((Xq0 q).2=0))) then true else (!q.Join))=true by
    by_cases h:(Xq0 q).2=0
    ·have:q.Join=false:=by cases hj:q.Join with
      |false=>rfl
      |true=>exact absurd ⟨h,hj⟩ hok
     simp[h,this]
    ·simp[h]];rfl
 have hRQ:RQ q:=⟨hq,hok.1⟩;have hf:=hRQ.facts;have hA:(decide ((Xq0 q).2=0)&&q.Join)=true:=by simp[hok.1,hok.2]
 have hB:(bif (!(decide ((Xq0 q).2=0))) then true else (!q.Join))=false:=by simp[hok.1,hok.2]
 by_cases h0:Xm7 t 5 i m=0
 rotate_left
 ·refine⟨(t0,Xm7 t 5 i m),?_,?_,cmp0⟩
  ·unfold Xm7 at h0 ⊢;unfold X4h;rw[ha,hA,Xa0]
   cases hT:tOK t with
   |false=>rfl
   |true =>
   rw[hT] at h0;simp only[if_true,Yo,Bool.not_true,cond_false,bne_self_eq_false] at h0 ⊢;by_cases hk:t.Op.Kind=5
   rotate_left
   ·rw[if_pos (.inl hk),show(t.Op.Kind != 5)=true by simpa using hk];rfl
   have h2l:=(Xu1 hT hk).2;rw[show(t.Op.Kind != 5)=false by simpa using hk];by_cases hi0:i<0
   ·rw[if_pos (.inr (.inl hi0)),Yt hi0];rfl
   rw[Yf hi0];by_cases hi1:i>1
   ·rw[if_pos (.inr (.inr om)),Yt hi1];rfl
   rw[if_neg (show ¬ (t.Op.Kind≠5\/i<0\/i >= (List.length t.Marks:Int)) by omega)] at h0 ⊢;rw[Yf hi1];simp only[cond_false];rw[X2k];by_cases hm:mOK m=true
   rotate_left
   ·rw[if_neg hm,if_neg (λh=>hm h.1)];rfl
   rw[if_pos hm] ;by_cases hmk:m.Kind=1\/m.Kind=2
   rotate_left
   ·rw[if_neg (λh=>hmk h.2),show(m.Kind != 1)=true by simp;omega,show(m.Kind != 2)=true by simp;omega];rfl
   rw[if_pos ⟨hm,hmk⟩] at h0 ⊢;have hkk:(bif (m.Kind != 1) then (m.Kind != 2) else false)=false:=by
    rcases hmk with h|h<;>rw[h]<;>rfl
   rw[hkk];by_cases hp:t.Pending=[]
   ·rw[if_pos hp] at h0;exact absurd rfl h0
   ·have hpl:(List.length t.Pending:Int)>0:=by
     cases hpp:t.Pending with
     |nil=>exact absurd hpp hp
     |cons a b=>simp
    rw[if_neg hp,Yt hpl];rfl
  ·unfold X7d;rw[h29,Yo,hB,cond_false,Xnv f,Yo,show(Xm7 t 5 i m != 0)=true by simpa using h0];rfl
 have hfacts:tOK t=true/\t.Op.Kind=5/\(0<=i/\i<t.Marks.length)/\mOK m=true/\(m.Kind=1\/m.Kind=2)/\t.Pending=[]:=by
  unfold Xm7 at h0;split at h0
  ·split at h0
   ·cases h0
   ·split at h0
    ·split at h0
     ·exact⟨by assumption,by omega,by omega,by rename_i h _;exact h.1,by rename_i h _;exact h.2,by assumption⟩
     ·cases h0
    ·cases h0
  ·cases h0
 obtain⟨hT,hk,hi,hm,hmk,hp⟩:=hfacts;obtain⟨o1,o2,o3,o4,o5⟩:=Xgt hT;have h2l:=(Xu1 hT hk).2;have hasked:X8q t 5 i m=some 0:=by rw[Xnv f,h0]
 obtain⟨f1,f2,f3,f4,f5,f6⟩:=f;have f:Few t:=⟨f1,f2,f3,f4,f5,f6⟩;obtain⟨j,rfl⟩:∃ j:Nat,i=(j:Int):=⟨i.toNat,by omega⟩;have hjl:j<t.Marks.length:=by omega
 have hbase:∀ r,(bif (m.Kind==(1:Int)) then ((X6d t.Store q.Window m.Record (j:Int)).bind λv13=>bif (v13.2 != (0:Int)) then (some (t0,v13.2)) else ((X52 (Xo.mk t.Op t.Turn t.Pending t.Marks v13.1 t.Events t.Rows t.Late) ([]:List X09)).bind λv16=>some (v16.1,v16.2))) else X4h q t (j:Int) m)=some r->X4h q t (j:Int) m=some r:=by
  intro r hr;by_cases h1:m.Kind=1
  ·rw[show(m.Kind==(1:Int))=true by simpa using h1,cond_true] at hr;unfold X4h;rw[ha,hA,Xa0,if_pos hT,show(t.Op.Kind != 5)=false by simpa using hk,Yf (show ¬ (j:Int)<0 by omega),Yf (show ¬ (j:Int)>1 by omega),X2k,if_pos hm,show(bif (m.Kind != 1) then (m.Kind != 2) else false)=false by rw[h1];rfl,Yf (show ¬ (List.length t.Pending:Int)>0 by rw[hp];decide),show(m.Kind==1)=true by simpa using h1];exact hr
  ·rw[show(m.Kind==(1:Int))=false by simpa using h1,cond_false] at hr;exact hr
 have href:∀ r,(bif (m.Kind==(1:Int)) then ((Xba t.Store q.Window m.Record (j:Int)).bind λv8=>bif (v8.2 != (0:Int)) then (some (t0,v8.2)) else (some ({ t with Store:=v8.1 },0))) else ((X7e t.Marks (j:Int) m.Time).bind λv384=>bif (!v384.2) then (some ({ t with Marks:=v384.1 },0)) else ((X4l v384.1).bind λv387=>(X7h t.Store v387).bind λv389=>(X5d (List.length v389.1)).bind λu391=>(X38 q t0 t.Op.Kind t.Op.N t.Turn v384.1 v389.2 t.Events t.Rows t.Late v389.1 v389.1 0 []).bind λo418=>match o418 with|.x0 z=>(some ({ t with Pending:=z,Marks:=v384.1,Store:=v389.2 },0)))))=some r->X7d q t (j:Int) m=some r:=by
  intro r hr;unfold X7d;rw[h29,Yo,hB,cond_false,hasked,Yo];simp only[bne_self_eq_false,cond_false];rw[Xpn f,show List.isEmpty t.Pending=true by rw[hp];rfl,cond_true,cu _ _ om,cu _ _ om,cu _ _ om,cu _ _ om,cu _ _ om];simp only[Yo,hp];simp only[hp] at hr;exact hr
 rcases hmk with hm1|hm2
 ·have hit:isT m.Record.Time=true:=by
   unfold mOK at hm;rw[if_pos (.inl hm1)] at hm;simp only[Bool.and_eq_true] at hm;exact hm.1
  have hot:okT m.Record.Time:=by unfold isT at hit;simp only[Bool.and_eq_true,decide_eq_true_eq] at hit;exact hit
  obtain⟨S,e,s1,s2,s3⟩:=X04l o4 om hf.2.2.2.2.1 hot hv (show(j:Int)=0\/(j:Int)=1 by omega);have hb1:=hbase;rw[show(m.Kind==(1:Int))=true by simpa using hm1] at hb1 href;simp only[cond_true] at hb1 href;rw[s1,Yo] at hb1;rw[s2,Yo] at href;by_cases he:e=0
  ·subst he;obtain⟨g1,g2,g3⟩:=s3 rfl;have hok2:tOK { t with Store:=S }=true:=Xuw hT hk g1 om;simp only[bne_self_eq_false,cond_false] at hb1 href;refine⟨({ t with Store:=S },0),hb1 _ ?_,href _ rfl,⟨by simp only;omega,by simp only;omega,by simp only;omega,by simp only;omega,by simp only;omega,by simp only;omega⟩⟩;have hP:=Xj9 (t:=⟨t.Op,t.Turn,t.Pending,t.Marks,S,t.Events,t.Rows,t.Late⟩) hp (L:=[]) (by simp);rw[if_pos (show tOK ⟨t.Op,t.Turn,t.Pending,t.Marks,S,t.Events,t.Rows,t.Late⟩=true from hok2),if_pos (show([]:List X09).all sOK=true from rfl),if_neg (show ¬ ([]:List X09).length>4000 by simp)] at hP;rw[hP];simp only[Yo,<-hp]
  ·have hne:(e != 0)=true:=by simpa using he
   simp only[hne,cond_true] at hb1 href;exact⟨(t0,e),hb1 _ rfl,href _ rfl,cmp0⟩
 ·rw[show(m.Kind==(1:Int))=false by simp;omega] at href;simp only[cond_false] at href;rw[Xri hjl om,Yo] at href;have hrl:(X28 t.Marks j m.Time).length=t.Marks.length:=by unfold X28;simp
  rcases Xmy hRQ hok.2 hT hk hp hjl hm hm2 with ⟨hng,hTk⟩|⟨hg,hTk⟩
  ·simp only[Yf hng,Bool.not_false,cond_true] at href;exact⟨_,hTk,href _ rfl,⟨by simp only;omega,by simp only;omega,by simp only;omega,by simp only;omega,by simp only;omega,by simp only;omega⟩⟩
  ·simp only[Yt hg,Bool.not_true,cond_false] at href;have hst:=(Xc1.1 o4);have hfl:=Xj1 (Xlf (X28 t.Marks j m.Time)) t.Store;have hrs:=Xpy (Xlf (X28 t.Marks j m.Time)) t.Store;have hsl:=Xnf q (X69 (Xlf (X28 t.Marks j m.Time)) t.Store);rw[Xof om om,Yo,Xy2 hst.2 om,Yo] at href;simp only at href;rw[X26 om,Yo,Xl2 hf.1.1 hf.1.2.1 _ _ _ _ _ _ _ _ _ _ _ 0 [] (by simp;omega),Yo] at href;exact⟨_,hTk,href _ (by simp),⟨by simp only;omega,by simp only;omega,by simp only;omega,by simp only;omega,by simp only;omega,by simp only;omega⟩⟩
theorem Xyd (n:Int):∃ r,Xhj n=some r/\Xeo n=some r/\Cmp r.1:=by
 unfold Xhj Xeo;rw[X03c];by_cases n0:n<0
 ·rw[Yt n0];exact⟨(t0,2),rfl,rfl,cmp0⟩
 rw[Yf n0];by_cases n1:n >= 3
 ·rw[Yt n1];exact⟨(t0,2),rfl,rfl,cmp0⟩
 rw[Yf n1];exact⟨(⟨⟨5,n⟩,0,[],[-9223372036854775808,-9223372036854775808],[],[],[],[]⟩,0),rfl,rfl,⟨by simp,by simp,by simp,by simp,by simp,by simp⟩⟩
theorem Xxs {q:X0g} (hq:QW q) (x:X1):∃ r,Xhi q x=some r/\Xen q x=some r:=by
 unfold Xhi Xen;rw[X9x hq,Xtt hq,X6c,Xch];have h1:¬ [x].length>4000:=by simp
 rw[if_neg h1];by_cases ha:(Xq0 q).2=0
 rotate_left
 ·rw[Yf ha];exact⟨_,rfl,rfl⟩
 rw[Yt ha]
 cases hj:q.Join with
 |false=>exact⟨_,rfl,rfl⟩
 |true =>
 cases hs:Xo6 [x] with
 |false=>exact⟨_,rfl,rfl⟩
 |true =>
 have hf:=(show RQ q from⟨hq,ha⟩).facts;have hx:=(Xc1.1 hs).1 x (by simp);rw[Xlk hf.1.1 hf.1.2.1 hx,Xpo hf.1.1 hf.1.2.1];exact⟨_,rfl,rfl⟩
theorem Xt0 (t:Xo):∃ b,X8s t=some b/\(b=false->Few t):=by
 obtain⟨b,h1,h2⟩:=Xvu t;exact⟨b,h1,λh=>by obtain⟨a1,a2,a3,a4,a5,a6⟩:=h2 h;exact⟨a1,a2,a3,a4,a5,a6⟩⟩
theorem Xp3 (x:X1b):X6u x x=true:=by simp[X6u,X1e,Xhs]
theorem Xra {q:X0g} (hq:QW q) (t:Xo) (i:Int) {m:Xp} (hv : -9223372036854775808<=m.Record.Value/\m.Record.Value<=9223372036854775807) (n:Int) (x:X1):X5t q t i m n x=some true:=by
 obtain⟨g,hg⟩:=X07n q;obtain⟨g2,hg2,hb⟩:=Xt0 t;obtain⟨⟨r0,r1⟩,h1,h2,h3⟩:=Xyd n;obtain⟨⟨y0,y1,y2⟩,k1,k2⟩:=Xxs hq x;unfold X5t;rw[hg,hg2]
 cases g with
 |true=>rfl
 |false =>
 cases g2 with
 |true=>rfl
 |false =>
 have f:=hb rfl;obtain⟨⟨u0,u1⟩,t1,t2,t3⟩:=Xuv hq f i hv;have hne:∀ z:Int,(z==z)=true:=λz=>by simp
 have hnb:∀ z:Bool,(z==z)=true:=λz=>by simp
 simp only[Yo,cond_false];rw[Xpn f,Yo,t1,Yo,t2,Yo,h1,h2];simp only[Yo];rw[k1,k2];simp only[Yo];rw[t3.same,h3.same,f.cmp.same];simp only[Yo,cond_true,hne,hnb,Xp3]
theorem Xhf (q:X0g) (t:Xo) (i:Int) (m:Xp) (n:Int) (x:X1) (w0:Xkw q) {P1:Prop} (_:P1) {P2:Prop} (_:P2) (w3:Xgb m) {P4:Prop} (_:P4) {P5:Prop} (_:P5):X5t q t i m n x=some true :=
 Xra (X0b0 w0) t i (by
  have:=Xx0 w3.2.1.2.2
  omega) n x
end Go.D
