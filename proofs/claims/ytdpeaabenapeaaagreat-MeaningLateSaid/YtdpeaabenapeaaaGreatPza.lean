/- Parts of the proof, laid together. -/
import Derived.Test.YtdpeaabenapeaaaGreatDFunZ
set_option linter.all false

namespace Go.D
theorem X0d {z:Int} (h1 : -9223372036854775808<=z) (h2:z<=9223372036854775807):IntKind.i64.wrap z=z:=Go.IntWalk.i64_in z ⟨h1,h2⟩
theorem X2n {n:Nat} (h:n<=140737488355328):X3t n=some ():=by unfold X3t;rw[if_pos h]
theorem X5q {n b:Nat} (h:n*b<=140737488355328):X1p n b=some ():=by unfold X1p;rw[if_pos h]
theorem X4m {α:Type} (l:List α) (k:Nat):X0u l (k:Int)=l[k]?:=by simp[X0u]
def ltE (a b:X5):Prop:=a.Span.End<b.Span.End\/a.Span.End=b.Span.End/\(a.Span.Start<b.Span.Start\/a.Span.Start=b.Span.Start/\a.Key<b.Key)
instance (a b:X5):Decidable (ltE a b):=by unfold ltE;infer_instance
def X49 (a b:X5):Prop:=a.Key=b.Key/\a.Span=b.Span
instance (a b:X5):Decidable (X49 a b):=by unfold X49;infer_instance
theorem Xfn {a b:X0k} (h1:a.Start=b.Start) (h2:a.End=b.End):a=b:=by cases a;cases b;simp_all
theorem Xgm {a b c:X5} (h:ltE a b) (k:ltE b c):ltE a c:=by unfold ltE at *;omega
theorem Xea (a:X5):¬ ltE a a:=by unfold ltE;omega
theorem Xst {a b:X5} (h:ltE a b):¬ ltE b a:=by unfold ltE at *;omega
theorem Xgn {a b:X5}:ltE a b\/X49 a b\/ltE b a:=by
 by_cases h:X49 a b
 ·exact .inr (.inl h)
 ·have:¬ (a.Key=b.Key/\a.Span.Start=b.Span.Start/\a.Span.End=b.Span.End):=λ⟨h1,h2,h3⟩=>h ⟨h1,Xfn h2 h3⟩;unfold ltE;omega
theorem sameK_ltE {a b c:X5} (h:X49 a b):ltE c a↔ltE c b:=by unfold X49 at h;unfold ltE;rw[h.1,h.2]
theorem X9m {a b c:X5} (h:X49 a b):ltE a c↔ltE b c:=by unfold X49 at h;unfold ltE;rw[h.1,h.2]
theorem X8v {a b:X5} (h:X49 a b):¬ ltE a b:=by unfold X49 at h;unfold ltE;rw[h.1,h.2];omega
def cmpI (a b:Int):Int:=if a<b then -1 else if a>b then 1 else 0
theorem X01w (a b:Int):X1w a b=some (cmpI a b):=by
 simp only[X1w,X4p,bne_self_eq_false,Yo,cond_false,cmpI];by_cases h1:a<b
 ·simp[h1]
 ·by_cases h2:a>b
  ·simp[h1,h2]
  ·simp[h1,h2]
def Xv7 (a b:X5):Int:=if ltE a b then -1 else if ltE b a then 1 else 0
theorem X97 (a b:X5):X5j a b=some (Xv7 a b):=by
 simp only[X5j,X01w,Yo,Xca,X4w,List.length_cons,List.length_nil];rw[X2n om];simp only[Yo,Xv7,ltE,cmpI];by_cases h1:a.Span.End<b.Span.End
 ·simp[h1]
 ·by_cases h2:a.Span.End>b.Span.End
  ·have:¬ a.Span.End=b.Span.End:=by omega
   simp[h1,h2,this]
  ·have he:a.Span.End=b.Span.End:=by omega
   by_cases h3:a.Span.Start<b.Span.Start
   ·simp[he,h3]
   ·by_cases h4:a.Span.Start>b.Span.Start
    ·have:¬ a.Span.Start=b.Span.Start:=by omega
     simp[he,h3,h4,this]
    ·have hs:a.Span.Start=b.Span.Start:=by omega
     by_cases h5:a.Key<b.Key
     ·simp[he,hs,h5]
     ·by_cases h6:a.Key>b.Key
      ·simp[he,hs,h5,h6]
      ·simp[he,hs,h5,h6]
theorem Xmd {a b:X5}:Xv7 a b<0↔ltE a b:=by
 unfold Xv7;by_cases h:ltE a b
 ·simp[h]
 ·by_cases h2:ltE b a<;>simp[h,h2]
theorem Xyx {a b:X5}:Xv7 a b=0↔X49 a b:=by
 unfold Xv7;by_cases h:ltE a b
 ·simp[h];exact λhs=>X8v hs h
 ·by_cases h2:ltE b a
  ·simp[h,h2];exact λhs=>h ((X9m hs).2 ((sameK_ltE hs).1 h2))
  ·simp[h,h2];rcases Xgn (a:=a) (b:=b) with h3|h3|h3
   ·exact absurd h3 h
   ·exact h3
   ·exact absurd h3 h2
theorem Xyw {a b:X5}:0<=Xv7 a b↔¬ ltE a b:=by rw[<-Xmd];omega
def okA (a:X0x):Prop:=(a.Count=0/\a=⟨0,0,0,0⟩)\/(a.Count=1/\a.Sum=a.Min/\a.Sum=a.Max)\/(1<a.Count/\a.Count<=1073741824/\a.Min<=a.Max)
theorem X3f {a:X0x} (h:okA a):X2d a=some 0:=by
 rcases h with ⟨h1,h2⟩|⟨h1,h2,h3⟩|⟨h1,h2,h3⟩
 ·subst h2;rfl
 ·have h3':a.Min=a.Max:=by omega
  simp[X2d,h1,h2,h3']
 ·have e0:(a.Count==0)=false:=by simp;omega
  have e1:(a.Count==1)=false:=by simp;omega
  simp[X2d,e0,e1,h1,h2,h3]
def X2u (a b:X0x):X0x :=
 if a.Count=0 then b else if b.Count=0 then a else ⟨a.Count+b.Count,IntKind.i64.wrap (a.Sum+b.Sum),if b.Min<a.Min then b.Min else a.Min,if b.Max>a.Max then b.Max else a.Max⟩
theorem X9p {a:X0x} (h:okA a):0<=a.Count/\a.Count<=1073741824:=by
 rcases h with ⟨h1,_⟩|⟨h1,_⟩|⟨h1,h2,_⟩<;>omega
theorem X38 {a b:X0x} (ha:okA a) (hb:okA b) (hc:a.Count+b.Count<=1073741824):X1l a b=some (X2u a b,0):=by
 have h1:=X9p ha;have h2:=X9p hb;simp only[X1l,X3f ha,X3f hb,Yo,bne_self_eq_false,cond_false,X2u];rw[X0d om om];have e0:decide (a.Count+b.Count>1073741824)=false:=by simp;omega
 rw[e0,cond_false];by_cases h3:a.Count=0
 ·have e1:(a.Count==0)=true:=by simp[h3]
  rw[e1,cond_true,if_pos h3]
 ·have e1:(a.Count==0)=false:=by simp[h3]
  rw[e1,cond_false,if_neg h3];by_cases h4:b.Count=0
  ·have e2:(b.Count==0)=true:=by simp[h4]
   rw[e2,cond_true,if_pos h4]
  ·have e2:(b.Count==0)=false:=by simp[h4]
   rw[e2,cond_false,if_neg h4]
theorem Xsh {a:X0x} (h:okA a):a.Min<=a.Max:=by
 rcases h with ⟨_,h2⟩|⟨_,h2,h3⟩|⟨_,_,h3⟩
 ·subst h2;decide
 ·omega
 ·exact h3
theorem Xwb {a b:X0x} (ha:okA a) (hb:okA b) (hc:a.Count+b.Count<=1073741824):okA (X2u a b):=by
 unfold X2u;have h1:=X9p ha;have h2:=X9p hb;by_cases h3:a.Count=0
 ·rw[if_pos h3];exact hb
 ·rw[if_neg h3];by_cases h4:b.Count=0
  ·rw[if_pos h4];exact ha
  ·rw[if_neg h4];have m1:=Xsh ha;have m2:=Xsh hb;refine .inr (.inr ⟨?_,hc,?_⟩)
   ·show 1<a.Count+b.Count;omega
   ·show(if b.Min<a.Min then b.Min else a.Min)<=(if b.Max>a.Max then b.Max else a.Max);split<;>split<;>omega
def okE (x:X5):Prop := -1100585369600<=x.Span.Start/\x.Span.Start<x.Span.End/\x.Span.End<=1100585369600/\okA x.Values.e0/\okA x.Values.e1/\0<x.Values.e0.Count+x.Values.e1.Count
theorem Xcj {x:X5} (h:okE x):X81 x=some true:=by
 obtain⟨h1,h2,h3,h4,h5,h6⟩:=h;have c1:=X9p h4;have c2:=X9p h5;have e1:¬ x.Span.Start < -1100585369600:=by omega
 have e2:¬ x.Span.End<=x.Span.Start:=by omega
 have e3:¬ x.Span.End>1100585369600:=by omega
 simp only[X81,X3f h4,X3f h5,Yo];rw[X0d om om];have e3:¬ 1100585369600<x.Span.End:=by omega
 simp[e1,e2,e3,h6]
theorem X6s (l:List X5) (hs:l.Pairwise ltE) (ho:∀ x∈l,okE x) (hn:l.length<=1000000):∀ (xs:List X5) (k:Nat),l.drop k=xs->X2z l xs k=some .x0:=by
 intro xs
 induction xs with
 |nil=>intro k _;rfl
 |cons x xs ih =>
  intro k hk;have hlt:k<l.length:=by
   rcases Nat.lt_or_ge k l.length with h|h
   ·exact h
   ·rw[List.drop_eq_nil_of_le h] at hk;cases hk
  have hx:l[k]?=some x:=by have:=congrArg List.head? hk;simpa[List.head?_drop] using this
  have hmem:x∈l:=Yg hx;have hnext:l.drop (k+1)=xs:=by rw[<-List.tail_drop,hk];rfl
  rw[X2z];simp only[Xcj (ho x hmem),Yo,Bool.not_true,cond_false,cond_true];by_cases h0:k=0
  ·subst h0;simp only[Int.ofNat_zero,Int.cast_ofNat_Int,gt_iff_lt,Int.lt_irrefl,decide_false,cond_false,Yo];exact ih 1 hnext
  ·have hpos:decide ((k:Int)>0)=true:=by simp;omega
   rw[hpos,cond_true];have hw:IntKind.i64.wrap ((k:Int) - 1)=((k - 1:Nat):Int):=by rw[X0d om om];omega
   rw[hw,X4m];have hp:l[k - 1]?=some l[k - 1]:=Ye om;rw[hp];have hlt2:ltE l[k - 1] x:=by
    have h3:=List.pairwise_iff_getElem.1 hs (k - 1) k om hlt om;have:l[k]=x:=by rw[Ye hlt] at hx;exact Option.some.inj hx
    rwa [this] at h3
   have hord:¬ (0<=Xv7 l[k - 1] x):=by rw[Xyw];exact λh=>h hlt2
   simp only[Yo,X97,ge_iff_le,hord,decide_false,cond_false];exact ih (k+1) hnext
theorem X98 {l:List X5} (hs:l.Pairwise ltE) (ho:∀ x∈l,okE x) (hn:l.length<=4000):X82 l=some 0:=by
 unfold X82;have:¬ ((l.length:Int)>4000):=by omega
 simp only[this,decide_false,cond_false];rw[X2n om,X6s l hs ho om l 0 rfl];rfl
theorem X01f {i j:Nat} (h:i+j<=1000000):IntKind.i64.wrap (Int.fdiv (IntKind.u64.wrap (IntKind.i64.wrap ((i:Int)+(j:Int)))) (2 ^ (min (Int.toNat 1) IntKind.u64.bits)))=(((i+j) / 2:Nat):Int):=by
 have h1:IntKind.i64.wrap ((i:Int)+(j:Int))=(i:Int)+j:=X0d om om;rw[h1];have h2:IntKind.u64.wrap ((i:Int)+j)=(i:Int)+j:=Go.IntWalk.u64_in _ ⟨by omega,by omega⟩;rw[h2];have h3:(min (Int.toNat 1) IntKind.u64.bits)=1:=by decide
 rw[h3];have h4:Int.fdiv ((i:Int)+j) (2 ^ 1)=(((i+j) / 2:Nat):Int):=by
  rw[Int.fdiv_eq_ediv_of_nonneg _ (by decide)];omega
 rw[h4,X0d om om]
theorem X03i (l:List X5) (x:X5) (c:Nat) (n:Int) (hn:l.length<=400000) (hc:∀ (k:Nat) y,l[k]?=some y->(ltE y x↔k<c)):∀ (f i j:Nat),i<=c->c<=j->j<=l.length->j - i<f ->
  Xr l x n f i j=some (.x0 c):=by
 intro f
 induction f with
 |zero=>intro i j _ _ _ h;omega
 |succ f ih =>
  intro i j h1 h2 h3 h4;rw[Xr];by_cases hij:i<j
  ·have hd:decide ((i:Int)<(j:Int))=true:=by simp;exact hij
   rw[hd,cond_true,X01f om,X4m];have hm:(i+j) / 2<l.length:=by omega
   rw[Ye hm];simp only[Yo,X97];have hcc:=hc ((i+j) / 2) _ (Ye hm);by_cases hl:ltE l[(i+j) / 2] x
   ·have:Xv7 l[(i+j) / 2] x<0:=Xmd.2 hl;simp only[this,decide_true,cond_true];rw[X0d om om];have:=hcc.1 hl;have h5:=ih ((i+j) / 2+1) j om h2 h3 om;simpa using h5
   ·have:¬ Xv7 l[(i+j) / 2] x<0:=λh=>hl (Xmd.1 h);simp only[this,decide_false,cond_false];have:¬ (i+j) / 2<c:=λh=>hl (hcc.2 h);exact ih i ((i+j) / 2) h1 om om om
  ·have hd:decide ((i:Int)<(j:Int))=false:=by simp;omega
   rw[hd,cond_false];have:i=c:=by omega
   rw[this]
def cnt (l:List X5) (x:X5):Nat:=(l.takeWhile λy=>decide (ltE y x)).length
theorem Xu5 (l:List X5) (x:X5):cnt l x<=l.length:=by unfold cnt;exact(List.takeWhile_sublist _).length_le
theorem X00f {l:List X5} {x:X5} (hs:l.Pairwise ltE):∀ (k:Nat) y,l[k]?=some y->(ltE y x↔k<cnt l x):=by
 induction l with
 |nil=>intro k y h;simp at h
 |cons z l ih =>
  intro k y h;rw[List.pairwise_cons] at hs;unfold cnt;by_cases hz:ltE z x
  ·rw[List.takeWhile_cons_of_pos (by simpa using hz)]
   cases k with
   |zero=>simp at h;subst h;simp[hz]
   |succ k =>
    simp at h;have:=ih hs.2 k y h;unfold cnt at this;rw[this];simp
  ·rw[List.takeWhile_cons_of_neg (by simpa using hz)];simp only[List.length_nil,Nat.not_lt_zero,iff_false]
   cases k with
   |zero=>simp at h;subst h;exact hz
   |succ k =>
    simp at h;exact λhy=>hz (Xgm (hs.1 y (Yg h)) hy)
theorem X01y {l:List X5} {x:X5} (hs:l.Pairwise ltE) (hn:l.length<=50000) :
  Xf l x=some ((cnt l x:Int),match l[cnt l x]? with|some y=>decide (X49 y x)|none=>false):=by
 unfold Xf;have h0:=X03i l x (cnt l x) (l.length:Int) om (X00f hs) FU 0 l.length om (Xu5 l x) (Nat.le_refl _) (by unfold FU;omega);rw[show((0:Nat):Int)=0 from rfl] at h0;rw[h0];simp only[Yo];by_cases hlt:cnt l x<l.length
 ·have hd:decide ((cnt l x:Int)<(l.length:Int))=true:=by simp;exact hlt
  rw[hd,X4m,Ye hlt];simp only[cond_true,Yo,X97];congr 2
  rw[Bool.eq_iff_iff];simp[Xyx]
 ·have hd:decide ((cnt l x:Int)<(l.length:Int))=false:=by simp;omega
  rw[hd,List.getElem?_eq_none om];rfl
end Go.D


namespace Go.D
def Xil (y x:X5):X5:=⟨y.Key,y.Span,⟨X2u y.Values.e0 x.Values.e0,X2u y.Values.e1 x.Values.e1⟩⟩
def Xj5:List X5->X5->List X5
 |[],x=>[x]
 |y::l,x=>if ltE y x then y::Xj5 l x else if X49 y x then Xil y x::l else x::y::l
theorem Xsd {l:List X5} {x:X5} (hs:l.Pairwise ltE) :
  Xj5 l x=(match l[cnt l x]? with
   |none=>l++[x]
   |some y=>if X49 y x then l.set (cnt l x) (Xil y x) else l.take (cnt l x)++x::l.drop (cnt l x)):=by
 induction l with
 |nil=>rfl
 |cons z l ih =>
  rw[List.pairwise_cons] at hs;unfold Xj5;by_cases hz:ltE z x
  ·have hc:cnt (z::l) x=cnt l x+1:=by unfold cnt;rw[List.takeWhile_cons_of_pos (by simpa using hz)];rfl
   rw[if_pos hz,hc,ih hs.2];simp only[List.getElem?_cons_succ]
   cases h:l[cnt l x]? with
   |none=>rfl
   |some y =>
    simp only;split
    ·rfl
    ·rfl
  ·have hc:cnt (z::l) x=0:=by unfold cnt;rw[List.takeWhile_cons_of_neg (by simpa using hz)];rfl
   rw[if_neg hz,hc];simp only[List.getElem?_cons_zero];split<;>rfl
def putF (l:List X5) (x:X5):Option (List X5×Int) :=
 (Xf l x).bind λv1393=>bif (!v1393.2) then (bif (v1393.1==(List.length l:Int)) then (((X50 l v1393.1 (List.length l:Int)).bind λm1405=>bif (List.isEmpty m1405) then ((X1p (List.length (l++[x])) 88).bind λu1408=>some ()) else ((X1p (List.length (l++[x])) 88).bind λu1410=>some ()):Option (Unit)).bind λ_=>some ((l++[x]),0)) else ((Xqb l v1393.1 x 88).bind λm1413=>some (m1413,0))) else ((X0u l v1393.1).bind λe1415=>((X1l e1415.Values.e0 x.Values.e0).bind λv1430=>bif (v1430.2 != (0:Int)) then (some (l,v1430.2)) else ((X1l (((X5.mk e1415.Key e1415.Span (V2.mk v1430.1 e1415.Values.e1)).Values).e1) x.Values.e1).bind λv1435=>bif (v1435.2 != (0:Int)) then (some ((List.set l (Int.toNat v1393.1) (X5.mk e1415.Key e1415.Span (V2.mk v1430.1 e1415.Values.e1))),v1435.2)) else (some ((List.set (List.set l (Int.toNat v1393.1) (X5.mk e1415.Key e1415.Span (V2.mk v1430.1 e1415.Values.e1))) (Int.toNat v1393.1) (X5.mk ((X5.mk e1415.Key e1415.Span (V2.mk v1430.1 e1415.Values.e1)).Key) ((X5.mk e1415.Key e1415.Span (V2.mk v1430.1 e1415.Values.e1)).Span) (V2.mk (((X5.mk e1415.Key e1415.Span (V2.mk v1430.1 e1415.Values.e1)).Values).e0) v1435.1))),0))):Option ((List X5)×Int)).bind λw1427=>some (w1427.1,w1427.2))
theorem Xyu {l:List X5} {x:X5} (hs:l.Pairwise ltE) (hn:l.length<=10000) (hx:okA x.Values.e0/\okA x.Values.e1)
  (ho:∀ y∈l,X49 y x->okA y.Values.e0/\okA y.Values.e1/\y.Values.e0.Count+x.Values.e0.Count<=1073741824/\y.Values.e1.Count+x.Values.e1.Count<=1073741824):putF l x=some (Xj5 l x,0):=by
 unfold putF;rw[X01y hs om,Xsd hs];have hle:=Xu5 l x
 cases h:l[cnt l x]? with
 |none =>
  have hc:cnt l x=l.length:=by
   have:=List.getElem?_eq_none_iff.1 h;omega
  have hsl:X50 l (l.length:Int) (l.length:Int)=some []:=by simp[X50]
  simp only[Yo,Bool.not_false,cond_true,hc,beq_self_eq_true,hsl];rw[X5q (by simp;omega)];rfl
 |some y =>
  have hlt:cnt l x<l.length:=(Ys.1 h).1;simp only[Yo];by_cases hk:X49 y x
  ·obtain⟨a1,a2,a3,a4⟩:=ho y (Yg h) hk;simp only[hk,decide_true,Bool.not_true,cond_false,X4m,h,Yo,X38 a1 hx.1 a3,X38 a2 hx.2 a4,bne_self_eq_false,if_true,Int.toNat_natCast,List.set_set];rfl
  ·have hne:((cnt l x:Int)==(l.length:Int))=false:=by simp;omega
   have hi:Xqb l (cnt l x:Int) x 88=some (l.take (cnt l x)++x::l.drop (cnt l x)):=by
    unfold Xqb;rw[if_pos ⟨by omega,by simpa using hlt,by omega⟩];simp
   simp only[hk,decide_false,Bool.not_false,cond_true,hne,cond_false,hi,Yo,if_false]
theorem Xj3 {l:List X5} {x:X5} (hs:l.Pairwise ltE) (e:X5) :
  e∈Xj5 l x↔(e∈l/\¬ X49 e x)\/(∃ y∈l,X49 y x/\e=Xil y x)\/((∀ y∈l,¬ X49 y x)/\e=x):=by
 induction l with
 |nil=>simp[Xj5]
 |cons z l ih =>
  rw[List.pairwise_cons] at hs;unfold Xj5;by_cases hz:ltE z x
  ·have hnz:¬ X49 z x:=λh=>X8v h hz;rw[if_pos hz,List.mem_cons,ih hs.2];constructor
   ·rintro(rfl|⟨h1,h2⟩|⟨y,h1,h2,h3⟩|⟨h1,h2⟩)
    ·exact .inl ⟨List.mem_cons_self,hnz⟩
    ·exact .inl ⟨List.mem_cons_of_mem _ h1,h2⟩
    ·exact .inr (.inl ⟨y,List.mem_cons_of_mem _ h1,h2,h3⟩)
    ·exact .inr (.inr ⟨λy hy=>(List.mem_cons.1 hy).elim (λh=>h▸hnz) (h1 y),h2⟩)
   ·rintro(⟨h1,h2⟩|⟨y,h1,h2,h3⟩|⟨h1,h2⟩)
    ·rcases List.mem_cons.1 h1 with h1|h1
     ·exact .inl h1
     ·exact .inr (.inl ⟨h1,h2⟩)
    ·rcases List.mem_cons.1 h1 with h1|h1
     ·subst h1;exact absurd h2 hnz
     ·exact .inr (.inr (.inl ⟨y,h1,h2,h3⟩))
    ·exact .inr (.inr (.inr ⟨λy hy=>h1 y (List.mem_cons_of_mem _ hy),h2⟩))
  ·rw[if_neg hz];have hno:∀ y∈l,¬ (X49 z x/\X49 y x):=λy hy ⟨h1,h2⟩=>by
    have:=hs.1 y hy;exact X8v (a:=y) (b:=y) ⟨rfl,rfl⟩ (by rw[X9m (c:=y) h1] at this;rw[<-X9m h2] at this;exact this)
   by_cases hk:X49 z x
   ·rw[if_pos hk,List.mem_cons];constructor
    ·rintro(rfl|h1)
     ·exact .inr (.inl ⟨z,List.mem_cons_self,hk,rfl⟩)
     ·exact .inl ⟨List.mem_cons_of_mem _ h1,λh=>hno e h1 ⟨hk,h⟩⟩
    ·rintro(⟨h1,h2⟩|⟨y,h1,h2,h3⟩|⟨h1,h2⟩)
     ·rcases List.mem_cons.1 h1 with h1|h1
      ·subst h1;exact absurd hk h2
      ·exact .inr h1
     ·rcases List.mem_cons.1 h1 with h1|h1
      ·subst h1;exact .inl h3
      ·exact absurd ⟨hk,h2⟩ (hno y h1)
     ·exact absurd hk (h1 z List.mem_cons_self)
   ·rw[if_neg hk];have hxz:ltE x z:=by
     rcases Xgn (a:=z) (b:=x) with h|h|h
     ·exact absurd h hz
     ·exact absurd h hk
     ·exact h
    have hn:∀ y∈l,¬ X49 y x:=λy hy h=>by
     have h1:=Xgm hxz (hs.1 y hy);exact X8v (a:=y) (b:=y) ⟨rfl,rfl⟩ (by rw[<-X9m h] at h1;exact h1)
    rw[List.mem_cons];constructor
    ·rintro(rfl|h1)
     ·exact .inr (.inr ⟨λy hy=>(List.mem_cons.1 hy).elim (λh=>h▸hk) (hn y),rfl⟩)
     ·exact .inl ⟨h1,λh=>(List.mem_cons.1 h1).elim (λh2=>hk (h2▸h)) (λh2=>hn e h2 h)⟩
    ·rintro(⟨h1,h2⟩|⟨y,h1,h2,h3⟩|⟨h1,h2⟩)
     ·exact .inr h1
     ·rcases List.mem_cons.1 h1 with h1|h1
      ·subst h1;exact absurd h2 hk
      ·exact absurd h2 (hn y h1)
     ·exact .inl h2
theorem Xgj (y x:X5):X49 (Xil y x) y:=⟨rfl,rfl⟩
theorem Xgg {l:List X5} {x:X5} (hs:l.Pairwise ltE):(Xj5 l x).Pairwise ltE:=by
 induction l with
 |nil=>exact List.pairwise_singleton _ _
 |cons z l ih =>
  have hs0:=hs;rw[List.pairwise_cons] at hs;unfold Xj5;by_cases hz:ltE z x
  ·rw[if_pos hz,List.pairwise_cons];refine⟨λe he=>?_,ih hs.2⟩;rcases(Xj3 hs.2 e).1 he with ⟨h1,_⟩|⟨y,h1,h2,rfl⟩|⟨_,rfl⟩
   ·exact hs.1 e h1
   ·rw[sameK_ltE (Xgj y x)];exact hs.1 y h1
   ·exact hz
  ·rw[if_neg hz];by_cases hk:X49 z x
   ·rw[if_pos hk,List.pairwise_cons];exact⟨λe he=>by rw[X9m (Xgj z x)];exact hs.1 e he,hs.2⟩
   ·rw[if_neg hk,List.pairwise_cons];have hxz:ltE x z:=by
     rcases Xgn (a:=z) (b:=x) with h|h|h
     ·exact absurd h hz
     ·exact absurd h hk
     ·exact h
    exact⟨λe he=>(List.mem_cons.1 he).elim (λh=>h▸hxz) (λh=>Xgm hxz (hs.1 e h)),hs0⟩
theorem Xj4 (l:List X5) (x:X5):(Xj5 l x).length<=l.length+1:=by
 induction l with
 |nil=>simp[Xj5]
 |cons z l ih =>
  unfold Xj5;split
  ·simp;exact ih
  ·split<;>simp
end Go.D


namespace Go.D
theorem Xrm (z:Int):IntKind.i64.wrap z=(z+9223372036854775808) % 18446744073709551616 - 9223372036854775808:=by
 have h:IntKind.i64.wrap z=if z % 18446744073709551616 >= 9223372036854775808 then z % 18446744073709551616 - 18446744073709551616 else z % 18446744073709551616:=by
  unfold IntKind.wrap;simp[IntKind.bits,IntKind.signed]
 rw[h];split<;>omega
theorem X013 (a b:Int):IntKind.i64.wrap (IntKind.i64.wrap a+b)=IntKind.i64.wrap (a+b):=by simp only[Xrm];omega
theorem X012 (a b:Int):IntKind.i64.wrap (a+IntKind.i64.wrap b)=IntKind.i64.wrap (a+b):=by simp only[Xrm];omega
def Xb1:X0x:=⟨0,0,0,0⟩
def ofA (v:Int):X0x:=⟨1,v,v,v⟩
theorem Xl1 (v:Int):okA (ofA v):=.inr (.inl ⟨rfl,rfl,rfl⟩)
theorem Xir:okA Xb1:=.inl ⟨rfl,rfl⟩
theorem Xlv {a b:X0x} (h1:a.Count=b.Count) (h2:a.Sum=b.Sum) (h3:a.Min=b.Min) (h4:a.Max=b.Max):a=b:=by cases a;cases b;simp_all
theorem Xja (a:X0x):X2u Xb1 a=a:=by unfold X2u;rw[if_pos (show Xb1.Count=0 from rfl)]
theorem Xft {a:X0x} (h:okA a):X2u a Xb1=a:=by
 unfold X2u;by_cases h0:a.Count=0
 ·rw[if_pos h0];rcases h with ⟨_,h⟩|⟨h,_⟩|⟨h,_⟩
  ·exact h.symm
  ·omega
  ·omega
 ·rw[if_neg h0,if_pos (show Xb1.Count=0 from rfl)]
theorem Xq6 {a b:X0x} (ha:okA a) (hb:okA b):X2u a b=X2u b a:=by
 by_cases h1:a.Count=0
 ·have:a=Xb1:=by
   rcases ha with ⟨_,h⟩|⟨h,_⟩|⟨h,_⟩
   ·exact h
   ·omega
   ·omega
  rw[this,Xja,Xft hb]
 ·by_cases h2:b.Count=0
  ·have:b=Xb1:=by
    rcases hb with ⟨_,h⟩|⟨h,_⟩|⟨h,_⟩
    ·exact h
    ·omega
    ·omega
   rw[this,Xja,Xft ha]
  ·unfold X2u;rw[if_neg h1,if_neg h2,if_neg h2,if_neg h1];apply Xlv
   ·show a.Count+b.Count=b.Count+a.Count;omega
   ·show IntKind.i64.wrap (a.Sum+b.Sum)=IntKind.i64.wrap (b.Sum+a.Sum);rw[Int.add_comm]
   ·show(if b.Min<a.Min then b.Min else a.Min)=(if a.Min<b.Min then a.Min else b.Min);split<;>split<;>omega
   ·show(if b.Max>a.Max then b.Max else a.Max)=(if a.Max>b.Max then a.Max else b.Max);split<;>split<;>omega
theorem Xcu {a b c:X0x} (ha:0<=a.Count) (hb:0<=b.Count) (hc:0<=c.Count):X2u (X2u a b) c=X2u a (X2u b c):=by
 by_cases h1:a.Count=0
 ·have e:∀ x,X2u a x=x:=λx=>by unfold X2u;rw[if_pos h1]
  rw[e,e]
 ·by_cases h2:b.Count=0
  ·have e1:X2u a b=a:=by unfold X2u;rw[if_neg h1,if_pos h2]
   have e2:X2u b c=c:=by unfold X2u;rw[if_pos h2]
   rw[e1,e2]
  ·by_cases h3:c.Count=0
   ·have e:∀ x:X0x,x.Count≠0->X2u x c=x:=λx hx=>by unfold X2u;rw[if_neg hx,if_pos h3]
    have hab:(X2u a b).Count≠0:=by unfold X2u;rw[if_neg h1,if_neg h2];show a.Count+b.Count≠0;omega
    rw[e _ hab,e _ h2]
   ·have e:∀ x y:X0x,x.Count≠0->y.Count≠0->X2u x y=⟨x.Count+y.Count,IntKind.i64.wrap (x.Sum+y.Sum),if y.Min<x.Min then y.Min else x.Min,if y.Max>x.Max then y.Max else x.Max⟩:=λx y hx hy=>by unfold X2u;rw[if_neg hx,if_neg hy]
    rw[e a b h1 h2,e b c h2 h3,e _ c (by show a.Count+b.Count≠0;omega) h3,e a _ h1 (by show b.Count+c.Count≠0;omega)];apply Xlv
    ·show a.Count+b.Count+c.Count=a.Count+(b.Count+c.Count);omega
    ·show IntKind.i64.wrap (IntKind.i64.wrap (a.Sum+b.Sum)+c.Sum)=IntKind.i64.wrap (a.Sum+IntKind.i64.wrap (b.Sum+c.Sum));rw[X013,X012,Int.add_assoc]
    ·dsimp only;repeat' split<;>first|rfl|omega
    ·dsimp only;repeat' split<;>first|rfl|omega
def Xcc (l:List Int):X0x:=l.foldl (λa v=>X2u a (ofA v)) Xb1
theorem Xbq (l:List Int) (v:Int):Xcc (l++[v])=X2u (Xcc l) (ofA v):=by unfold Xcc;rw[List.foldl_append];rfl
theorem Xk9:Xcc []=Xb1:=rfl
theorem Xcb (v:Int):Xcc [v]=ofA v:=Xja _
theorem X2q:∀ (l:List Int),(Xcc l).Count=l.length:=by
 have key:∀ (l:List Int) (a:X0x),0<=a.Count->(l.foldl (λa v=>X2u a (ofA v)) a).Count=a.Count+l.length:=by
  intro l
  induction l with
  |nil=>intro a _;simp
  |cons v l ih =>
   intro a ha;have h1:(X2u a (ofA v)).Count=a.Count+1:=by
    unfold X2u;by_cases h:a.Count=0
    ·rw[if_pos h,h];rfl
    ·rw[if_neg h,if_neg (by show ¬ (1:Int)=0;omega)];rfl
   rw[List.foldl_cons,ih _ om,h1];simp;omega
 intro l;rw[Xcc,key l Xb1 (Int.le_refl _)];show(0:Int)+_=_;omega
theorem Xhc:∀ {l:List Int},l.length<=1073741824->okA (Xcc l):=by
 have key:∀ (n:Nat) (l:List Int),l.length=n->n<=1073741824->okA (Xcc l):=by
  intro n
  induction n with
  |zero=>intro l hl _;rw[List.eq_nil_of_length_eq_zero hl];exact Xir
  |succ n ih =>
   intro l hl hn;have hne:l≠[]:=λh=>by rw[h] at hl;cases hl
   have hd:l.dropLast.length=n:=by rw[List.length_dropLast];omega
   rw[<-List.dropLast_concat_getLast hne,Xbq];refine Xwb (ih _ hd om) (Xl1 _) ?_;rw[X2q,hd];show(n:Int)+1<=_;omega
 intro l h;exact key l.length l rfl h
theorem X5r:∀ (b a:List Int),Xcc (a++b)=X2u (Xcc a) (Xcc b):=by
 have key:∀ (n:Nat) (b a:List Int),b.length=n->Xcc (a++b)=X2u (Xcc a) (Xcc b):=by
  intro n
  induction n with
  |zero =>
   intro b a hb;rw[List.eq_nil_of_length_eq_zero hb,List.append_nil,Xk9];by_cases h0:(Xcc a).Count=0
   ·have:a=[]:=List.eq_nil_of_length_eq_zero (by rw[X2q] at h0;omega);rw[this];rfl
   ·unfold X2u;rw[if_neg h0,if_pos (show Xb1.Count=0 from rfl)]
  |succ n ih =>
   intro b a hb;have hne:b≠[]:=λh=>by rw[h] at hb;cases hb
   have hd:b.dropLast.length=n:=by rw[List.length_dropLast];omega
   rw[<-List.dropLast_concat_getLast hne,<-List.append_assoc,Xbq,Xbq,ih _ _ hd];exact Xcu (by rw[X2q];omega) (by rw[X2q];omega) (by show(0:Int)<=1;decide)
 intro b a;exact key b.length b a rfl
theorem Xlw {a b:List Int} (h:a.Perm b):a.length<=1073741824->Xcc a=Xcc b:=by
 induction h with
 |nil=>intro _;rfl
 |@cons x l1 l2 h ih =>
  intro hl;have:=ih (by simp at hl;omega);rw[show x::l1=[x]++l1 from rfl,show x::l2=[x]++l2 from rfl,X5r,X5r,this]
 |swap x y l =>
  intro hl;rw[show y::x::l=[y]++([x]++l) from rfl,show x::y::l=[x]++([y]++l) from rfl,X5r,X5r,X5r,X5r,Xcb,Xcb];rw[<-Xcu (by show(0:Int)<=1;decide) (by show(0:Int)<=1;decide) (by rw[X2q];omega),Xq6 (Xl1 y) (Xl1 x),Xcu (by show(0:Int)<=1;decide) (by show(0:Int)<=1;decide) (by rw[X2q];omega)]
 |trans h1 _ ih1 ih2=>intro hl;rw[ih1 hl,ih2 (by rw[<-h1.length_eq];exact hl)]
abbrev Pu:=X9×Int
def inS (s:X0k) (t:Int):Prop:=s.Start<=t/\t<s.End
instance (s:X0k) (t:Int):Decidable (inS s t):=by unfold inS;infer_instance
def vals (L:List Pu) (k:Int) (s:X0k) (side:Int):List Int:=(L.filter λp=>decide (p.1.Key=k/\inS s p.1.Time/\p.2=side)).map λp=>p.1.Value
def X80 (L:List Pu) (k t:Int):Prop:=∃ p∈L,p.1.Key=k/\p.1.Time=t
def Xle (size every t:Int) (s:X0k):Prop:=s.Start % every=0/\s.End=s.Start+size/\inS s t
def cov (size:Int) (T:Int->Prop) (x:Int):Prop:=∃ t,T t/\2*t<x/\x<2*(t+size)
def Xgb (size:Int) (T:Int->Prop) (s:X0k):Prop:=s.Start<s.End/\(∀ x,2*s.Start<x->x<2*s.End->cov size T x)/\¬ cov size T (2*s.Start)/\¬ cov size T (2*s.End)
def Xcm (w:X0g):Int:=if w.Kind=1 then w.Size else w.Every
def Xd1 (w:X0g) (T:Int->Prop) (s:X0k):Prop:=if w.Kind=3 then Xgb w.Size T s else ∃ t,T t/\Xle w.Size (Xcm w) t s
def Xdp (L:List Pu) (k:Int) (s:X0k):V2 X0x:=⟨Xcc (vals L k s 0),Xcc (vals L k s 1)⟩
def Xr5 (w:X0g) (L:List Pu) (e:X5):Prop:=Xd1 w (X80 L e.Key) e.Span/\e.Values=Xdp L e.Key e.Span
structure X8m (w:X0g) (L:List Pu) (es:List X5):Prop where
 sorted:es.Pairwise ltE
 mem:∀ e,e∈es↔Xr5 w L e
 cover:w.Kind=3->∀ k t,X80 L k t->∃ e∈es,e.Key=k/\e.Span.Start<=t/\t+w.Size<=e.Span.End
theorem Xpc:∀ {a b:List X5},a.Pairwise ltE->b.Pairwise ltE->(∀ e,e∈a↔e∈b)->a=b:=by
 intro a
 induction a with
 |nil =>
  intro b _ _ h
  cases b with
  |nil=>rfl
  |cons y b=>exact absurd ((h y).2 List.mem_cons_self) (by simp)
 |cons x a ih =>
  intro b ha hb h
  cases b with
  |nil=>exact absurd ((h x).1 List.mem_cons_self) (by simp)
  |cons y b =>
   rw[List.pairwise_cons] at ha hb;have hxy:x=y:=by
    rcases List.mem_cons.1 ((h x).1 List.mem_cons_self) with h1|h1
    ·exact h1
    ·rcases List.mem_cons.1 ((h y).2 List.mem_cons_self) with h2|h2
     ·exact h2.symm
     ·exact absurd (hb.1 x h1) (Xst (ha.1 y h2))
   subst hxy;rw[ih ha.2 hb.2];intro e;constructor
   ·intro he;rcases List.mem_cons.1 ((h e).1 (List.mem_cons_of_mem _ he)) with h1|h1
    ·subst h1;exact absurd (ha.1 e he) (Xea e)
    ·exact h1
   ·intro he;rcases List.mem_cons.1 ((h e).2 (List.mem_cons_of_mem _ he)) with h1|h1
    ·subst h1;exact absurd (hb.1 e he) (Xea e)
    ·exact h1
theorem X8m.unique {w:X0g} {L:List Pu} {a b:List X5} (ha:X8m w L a) (hb:X8m w L b):a=b:=Xpc ha.sorted hb.sorted λe=>by rw[ha.mem,hb.mem]
theorem Xiw (L:List Pu) (k:Int) (s:X0k) (side:Int):(vals L k s side).length<=L.length:=by unfold vals;rw[List.length_map];exact List.length_filter_le _ _
end Go.D


namespace Go.D
theorem Xlq (x y:Xu):X6d x y=decide (x=y):=by
 obtain⟨a,b,c,d,e⟩:=x;obtain⟨f,g,h,i,j⟩:=y;rw[Bool.eq_iff_iff];simp[X6d,and_assoc]
theorem Xj0 {α:Type} {l:List α} {k:Nat} (h:k<=l.length):X50 l 0 (k:Int)=some (l.take k):=by
 unfold X50;rw[if_pos ⟨by omega,by omega,by simpa using h⟩];simp
theorem Xdx {α:Type} {l:List α} {k:Nat} (h:k<=l.length):X50 l (k:Int) (l.length:Int)=some (l.drop k):=by
 unfold X50;rw[if_pos ⟨by omega,by omega,by simp⟩];simp only[Int.toNat_natCast];rw[List.take_of_length_le (by rw[List.length_drop];exact Nat.le_refl _)]
def okN (x:Xu) (a b:Int):Prop:=1<=x.Kind/\x.Kind<=19/\0<=x.N/\(x.N=0\/x.Kind=1)/\0<=x.At/\x.At<=400/\x.A=a/\x.B=b
instance (x:Xu) (a b:Int):Decidable (okN x a b):=by unfold okN;infer_instance
theorem Xj1 (x:Xu) (a b:Int):X5n x a b=some (decide (okN x a b)):=by
 unfold X5n okN;congr 1
 rw[Bool.eq_iff_iff];by_cases h1:1<=x.Kind<;>by_cases h2:x.Kind<=19<;>by_cases h3:0<=x.N<;>by_cases h4:x.N=0<;>by_cases h5:0<=x.At<;>by_cases h6:x.At<=400<;>simp[h1,h2,h3,h4,h5,h6,and_assoc]
def nst (sd:List (Nat×Nat)) (x:Xu):Option (Nat×Nat) :=
 if x.Kind<=4 then (if okN x 0 0 then some (1,1) else none)
 else match sd.getLast? with
  |none=>none
  |some (s2,d2) =>
   if x.Kind<=6 then (if okN x ((sd.length:Int) - 1) 0 then some (1+s2,1+d2) else none)
   else if sd.length - 1<s2 then none
   else match sd[sd.length - 1 - s2]? with
    |none=>none
    |some (s1,d1)=>if okN x ((sd.length:Int) - 1 - s2) ((sd.length:Int) - 1) then some (1+s2+s1,max (1+d2) (1+d1)) else none
def Xif:List Xu->List (Nat×Nat)->Option (List (Nat×Nat))
 |[],sd=>some sd
 |x::xs,sd=>match nst sd x with
  |some q=>Xif xs (sd++[q])
  |none=>none
def X7f (j:Nat) (q:Nat×Nat):Xe:=⟨(j:Int),(q.1:Int),(q.2:Int)⟩
inductive X9g (sd:List (Nat×Nat)):Nat->List Xe->Prop
 |nil:X9g sd 0 []
 |snoc {j:Nat} {q:Nat×Nat} {st:List Xe} (hq:sd[j]?=some q) (h1:1<=q.1) (h2:q.1<=j+1) (h3:q.2<=q.1) (h:X9g sd (j+1 - q.1) st):X9g sd (j+1) (st++[X7f j q])
theorem X9g.more {sd sd':List (Nat×Nat)} {k:Nat} {st:List Xe} (h:X9g sd k st) (hs:∀ j,j<k->sd'[j]?=sd[j]?):X9g sd' k st:=by
 induction h with
 |nil=>exact .nil
 |@snoc j q st hq h1 h2 h3 _ ih=>exact .snoc (by rw[hs j om];exact hq) h1 h2 h3 (ih λi hi=>hs i om)
theorem X9g.app {sd e:List (Nat×Nat)} {k:Nat} {st:List Xe} (h:X9g sd k st) (hk:k<=sd.length):X9g (sd++e) k st:=h.more λj hj=>List.getElem?_append_left om
theorem X9g.len {sd:List (Nat×Nat)} {k:Nat} {st:List Xe} (h:X9g sd k st):st.length<=k:=by
 induction h with
 |nil=>simp
 |snoc hq h1 h2 h3 _ ih=>simp;omega
theorem Xh9 {k:Nat} (h:1<=k) (hk:k<=1000000):IntKind.i64.wrap ((k:Int) - 1)=((k - 1:Nat):Int):=by rw[X0d om om];omega
theorem Xw4 {x:Xu} (h0:0<=x.Kind):X8f x.Kind=some (if 1<=x.Kind/\x.Kind<=19 then ((if x.Kind<=4 then 0 else if x.Kind<=6 then 1 else 2),0) else (0,2)):=by
 unfold X8f;by_cases h1:1<=x.Kind
 ·by_cases h4:x.Kind<=4
  ·simp[h1,h4,show x.Kind<=19 by omega]
  ·by_cases h6:x.Kind<=6
   ·have:(bif x.Kind==5 then true else x.Kind==6)=true:=by
     rcases(by omega:x.Kind=5\/x.Kind=6) with h|h<;>simp[h]
    simp[h1,h4,h6,this,show x.Kind<=19 by omega]
   ·have e5:(bif x.Kind==5 then true else x.Kind==6)=false:=by
     have a:(x.Kind==5)=false:=by simp;omega
     have b:(x.Kind==6)=false:=by simp;omega
     rw[a,b];rfl
    by_cases h19:x.Kind<=19
    ·simp[h1,h4,h6,e5,h19,show(7:Int)<=x.Kind by omega]
    ·simp[h1,h4,h6,e5,h19]
 ·have e:x.Kind=0:=by omega
  simp[e]
theorem Xse {x : Xu} {a b : Int} (h1 : 1 <= x.Kind) (h2 : x.Kind <= 19) :
    ((bif (x.Kind==(1:Int)) then (some (Xu.mk x.Kind (if 0>x.N then 0 else x.N) a b (if 400<(if 0>x.At then 0 else x.At) then 400 else (if 0>x.At then 0 else x.At)))) else (some (Xu.mk x.Kind 0 a b (if 400<(if 0>x.At then 0 else x.At) then 400 else (if 0>x.At then 0 else x.At)))):Option (Xu)).bind λo=>some (X6d o x))=some (decide (okN x a b)):=by
  obtain⟨K,N,A,B,At⟩:=x;have hat:((if 400<(if 0>At then 0 else At) then 400 else (if 0>At then 0 else At))=At)↔(0<=At/\At<=400):=by
    by_cases g1:0>At
    · rw[if_pos g1];constructor
      · intro h;exfalso;split at h<;>omega
      · intro h;omega
    · rw[if_neg g1];split<;>omega
  have hn:((if 0>N then 0 else N)=N)↔0<=N:=by split<;>omega
  have key:∀ n':Int,(n'=N↔(0<=N/\(N=0\/K=1)))->(some (X6d (Xu.mk K n' a b (if 400<(if 0>At then 0 else At) then 400 else (if 0>At then 0 else At))) ⟨K,N,A,B,At⟩):Option Bool)=some (decide (okN ⟨K,N,A,B,At⟩ a b)):=by
    intro n' hn';rw[Xlq];congr 1
    apply decide_eq_decide.2;rw[Xu.mk.injEq,hat,hn'];unfold okN;constructor
    · rintro⟨_,⟨g1,g2⟩,hA,hB,g3,g4⟩
      exact⟨h1,h2,g1,g2,g3,g4,hA.symm,hB.symm⟩
    · rintro⟨_,_,g1,g2,g3,g4,hA,hB⟩
      exact⟨rfl,⟨g1,g2⟩,hA.symm,hB.symm,g3,g4⟩
  by_cases hk:K=1
  · have:(K==1)=true:=by simp[hk]
    show(Option.bind (bif (K==1) then _ else _) _)=_;rw[this,cond_true,Yo];exact key _ (by rw[hn];simp[hk])
  · have:(K==1)=false:=by simp[hk]
    show(Option.bind (bif (K==1) then _ else _) _)=_;rw[this,cond_false,Yo]
    exact key _ (by constructor
                    · intro h;omega
                    · rintro⟨_,h⟩;rcases h with h|h<;>omega)
theorem Xk7 {β:Type} {o:Option Xu} {x:Xu} {d:Bool} {f g:Option β} (h:(o.bind λz=>some (X6d z x))=some d):(o.bind λz=>bif (!(X6d z x)) then f else g)=bif d then g else f:=by
 cases o with
 |none=>cases h
 |some z =>
  simp only[Yo,Option.some.injEq] at h;rw[Yo,h];cases d<;>rfl
def X5s (sd:List (Nat×Nat)):List Xe:=sd.mapIdx X7f
theorem Xm7 (sd:List (Nat×Nat)) (q:Nat×Nat):X5s (sd++[q])=X5s sd++[X7f sd.length q]:=by unfold X5s;simp
theorem Xpa (sd:List (Nat×Nat)):(X5s sd).length=sd.length:=by unfold X5s;simp
theorem X9g.inv {sd:List (Nat×Nat)} {k:Nat} {st:List Xe} (h:X9g sd k st) (hk:0<k):∃ q st0,sd[k - 1]?=some q/\1<=q.1/\q.1<=k/\q.2<=q.1/\X9g sd (k - q.1) st0/\st=st0++[X7f (k - 1) q]:=by
 cases h with
 |nil=>omega
 |@snoc j q st0 hq h1 h2 h3 h=>exact⟨q,st0,hq,h1,h2,h3,h,rfl⟩
theorem X9g.zero {sd:List (Nat×Nat)} {st:List Xe} (h:X9g sd 0 st):st=[]:=by
 cases h;rfl
theorem Xya (Y : List Xu) : ∀ (xs : List Xu) (sd : List (Nat × Nat)) (st : List Xe), (∀ x ∈ xs, 0 <= x.Kind) -> sd.length + xs.length <= 1000 -> X9g sd sd.length st -> (∀ j q, sd[j]? = some q -> 1 <= q.1 /\ q.1 <= j + 1 /\ q.2 <= q.1) ->
    match Xif xs sd with
    |some sd'=>∃ st',X1e Y xs sd.length (X5s sd) st=some (.x0 (X5s sd') st')/\X9g sd' sd'.length st'
    |none=>∃ all,X1e Y xs sd.length (X5s sd) st=some (.x1 all):=by
  intro xs
  induction xs with
  |nil=>intro sd st _ _ hc _;exact⟨st,rfl,hc⟩
  |cons x xs ih =>
    intro sd st h0 hn hc hb;simp only[List.length_cons] at hn;have hx:=h0 x List.mem_cons_self;rw[X1e,Xw4 hx];have go : ∀ (q : Nat × Nat) (st0 : List Xe), nst sd x = some q -> X9g (sd ++ [q]) (sd.length + 1) (st0 ++ [X7f sd.length q]) -> 1 <= q.1 -> q.1 <= sd.length + 1 -> q.2 <= q.1 ->
        (match Xif (x::xs) sd with
          |some sd'=>∃ st',X1e Y xs (sd.length+1) (X5s sd++[X7f sd.length q]) (st0++[X7f sd.length q])=some (.x0 (X5s sd') st')/\X9g sd' sd'.length st'
          |none=>∃ all,X1e Y xs (sd.length+1) (X5s sd++[X7f sd.length q]) (st0++[X7f sd.length q])=some (.x1 all)):=by
      intro q st0 hq hc2 g1 g2 g3
      have:=ih (sd++[q]) (st0++[X7f sd.length q]) (λy hy=>h0 y (List.mem_cons_of_mem _ hy)) (by simp;omega) (by simpa using hc2) (λj q' hj=>by
        rw[List.getElem?_append] at hj;split at hj
        · exact hb j q' hj
        · rename_i hlt
          have:j=sd.length:=by
            have:=(Ys.1 hj).1;simp at this;omega
          subst this
          simp at hj;subst hj;exact⟨g1,g2,g3⟩)
      rw[Xm7,List.length_append] at this;unfold Xif;rw[hq];exact this
    have stop:nst sd x=none->∀ {o:Option X4i},(∃ all,o=some (.x1 all))->(match Xif (x::xs) sd with
          |some sd'=>∃ st',o=some (.x0 (X5s sd') st')/\X9g sd' sd'.length st'
          |none=>∃ all,o=some (.x1 all)):=by
      intro hq o h;unfold Xif;rw[hq];exact h
    have cap:∀ (l:List Xe) (t:Xe),l.length<=2000->X1p (List.length (l++[t])) 24=some ():=λl t hl=>X5q (by simp;omega);have hla:(X5s sd).length<=2000:=by unfold X5s;simp;omega
    have hst:=hc.len;by_cases hr:1<=x.Kind/\x.Kind<=19
    · rw[if_pos hr]
      simp only[Yo,bne_self_eq_false,cond_false];by_cases h4:x.Kind<=4
      · -- no parts
        have e1:decide ((if x.Kind<=4 then (0:Int) else if x.Kind<=6 then 1 else 2)>(st.length:Int))=false:=by rw[if_pos h4];simp
        rw[e1,cond_false,if_pos h4];have e2:IntKind.i64.wrap ((st.length:Int) - 0)=(st.length:Int):=by rw[X0d om om];omega
        rw[e2,Xj0 (Nat.le_refl _),Xdx (Nat.le_refl _),List.take_length,List.drop_length];simp only[Yo,List.isEmpty_nil,cond_true];rw[Xk7 (Xse hr.1 hr.2)];by_cases hok:okN x 0 0
        · rw[Yt hok,cond_true,cap st _ om,cap _ _ hla]
          exact go (1,1) st (by unfold nst;rw[if_pos h4,if_pos hok]) (.snoc (by simp) (Nat.le_refl _) om (Nat.le_refl _) (by simpa using hc.app (Nat.le_refl _))) (Nat.le_refl _) om (Nat.le_refl _)
        · rw[Yf hok,cond_false]
          exact stop (by unfold nst;rw[if_pos h4,if_neg hok]) ⟨_,rfl⟩
      · have hgl:0<sd.length->∃ q,sd.getLast?=some q/\sd[sd.length - 1]?=some q:=by
          intro h;refine⟨sd[sd.length - 1]' om,?_,?_⟩
          · rw[List.getLast?_eq_getElem?];exact Ye _
          · exact Ye _
        by_cases h6:x.Kind<=6
        · -- one part
          rw[if_neg h4,if_pos h6];by_cases hl:sd.length=0
          · rw[hl] at hc
            have:=hc.zero;subst this;simp only[List.length_nil];exact stop (by unfold nst;rw[if_neg h4,List.eq_nil_of_length_eq_zero hl];rfl) ⟨_,rfl⟩
          · obtain⟨q,st0,hq,g1,g2,g3,hc0,rfl⟩:=hc.inv om
            obtain⟨q',hq1,hq2⟩:=hgl om;rw[hq] at hq2;cases hq2;have hs0:=hc0.len;have e1:decide ((1:Int)>((st0++[X7f (sd.length - 1) q]).length:Int))=false:=by simp;omega
            rw[e1,cond_false];have e2:IntKind.i64.wrap (((st0++[X7f (sd.length - 1) q]).length:Int) - 1)=(st0.length:Int):=by
              rw[X0d (by rw[List.length_append,List.length_singleton];omega) (by rw[List.length_append,List.length_singleton];omega),List.length_append,List.length_singleton];omega
            rw[e2,Xj0 (by simp),Xdx (by simp),List.take_left,List.drop_left];simp only[Yo,List.isEmpty_cons,cond_false,List.length_singleton];rw[show(((1:Nat):Int)==1)=true from rfl,cond_true];rw[show X0u [X7f (sd.length - 1) q] 0=some (X7f (sd.length - 1) q) from rfl,Yo];rw[Xk7 (Xse hr.1 hr.2)];have ea:(X7f (sd.length - 1) q).at_=(sd.length:Int) - 1:=by unfold X7f;simp only;omega
            rw[ea];by_cases hok:okN x ((sd.length:Int) - 1) 0
            · have e3:(Xe.mk (sd.length:Int) (IntKind.i64.wrap (1+(X7f (sd.length - 1) q).size)) (if (IntKind.i64.wrap ((X7f (sd.length - 1) q).depth+1))>1 then (IntKind.i64.wrap ((X7f (sd.length - 1) q).depth+1)) else 1))=X7f sd.length (1+q.1,1+q.2):=by
                unfold X7f;simp only;rw[X0d om om,X0d om om];congr 1
                split<;>omega
              rw[Yt hok,cond_true,e3,cap st0 _ om,cap _ _ hla];refine go (1+q.1,1+q.2) st0 (by unfold nst;rw[if_neg h4,hq1];simp only;rw[if_pos h6,if_pos hok]) (.snoc (by simp) (by simp only;omega) (by simp only;omega) (by simp only;omega) ?_) (by simp only;omega) (by simp only;omega) (by simp only;omega);have:=hc0.app (e:=[(1+q.1,1+q.2)]) om;simp only;rw[show sd.length+1 - (1+q.1)=sd.length - q.1 by omega];exact this
            · rw[Yf hok,cond_false]
              exact stop (by unfold nst;rw[if_neg h4,hq1];simp only;rw[if_pos h6,if_neg hok]) ⟨_,rfl⟩
        · -- two parts
          rw[if_neg h4,if_neg h6];by_cases hl:sd.length=0
          · rw[hl] at hc
            have:=hc.zero;subst this;simp only[List.length_nil];exact stop (by unfold nst;rw[if_neg h4,List.eq_nil_of_length_eq_zero hl];rfl) ⟨_,rfl⟩
          · obtain⟨q,st1,hq,g1,g2,g3,hc1,rfl⟩:=hc.inv om
            obtain⟨q',hq1,hq2⟩:=hgl om;rw[hq] at hq2;cases hq2;by_cases hl1:sd.length - q.1=0
            · rw[hl1] at hc1
              have:=hc1.zero;subst this;exact stop (by unfold nst;rw[if_neg h4,hq1];simp only;rw[if_neg h6,if_pos om]) ⟨_,rfl⟩
            · obtain⟨p,st0,hp,f1,f2,f3,hc0,rfl⟩:=hc1.inv om
              have hs0:=hc0.len;rw[List.append_assoc];have e1:decide ((2:Int)>((st0++([X7f (sd.length - q.1 - 1) p]++[X7f (sd.length - 1) q])).length:Int))=false:=by simp;omega
              rw[e1,cond_false];have e2:IntKind.i64.wrap (((st0++([X7f (sd.length - q.1 - 1) p]++[X7f (sd.length - 1) q])).length:Int) - 2)=(st0.length:Int):=by
                rw[X0d (by simp only[List.length_append,List.length_singleton];omega) (by simp only[List.length_append,List.length_singleton];omega)];simp only[List.length_append,List.length_singleton];omega
              rw[e2,Xj0 (by simp),Xdx (by simp),List.take_left,List.drop_left];simp only[Yo,List.singleton_append,List.isEmpty_cons,cond_false,List.length_cons,List.length_nil];rw[show((((0:Nat)+1+1:Nat):Int)==1)=false from rfl,show((((0:Nat)+1+1:Nat):Int)==2)=true from rfl,cond_false,cond_true];rw[show X0u [X7f (sd.length - q.1 - 1) p,X7f (sd.length - 1) q] 0=some (X7f (sd.length - q.1 - 1) p) from rfl,show X0u [X7f (sd.length - q.1 - 1) p,X7f (sd.length - 1) q] 1=some (X7f (sd.length - 1) q) from rfl,Yo,Yo];rw[Xk7 (Xse hr.1 hr.2)];have ea:(X7f (sd.length - 1) q).at_=(sd.length:Int) - 1:=by unfold X7f;simp only;omega
              have eb:(X7f (sd.length - q.1 - 1) p).at_=(sd.length:Int) - 1 - q.1:=by unfold X7f;simp only;omega
              rw[ea,eb];have hp':sd[sd.length - 1 - q.1]?=some p:=by rw[show sd.length - 1 - q.1=sd.length - q.1 - 1 by omega];exact hp
              by_cases hok:okN x ((sd.length:Int) - 1 - q.1) ((sd.length:Int) - 1)
              · have e3:(Xe.mk (sd.length:Int) (IntKind.i64.wrap ((IntKind.i64.wrap (1+(X7f (sd.length - q.1 - 1) p).size))+(X7f (sd.length - 1) q).size)) (if (IntKind.i64.wrap ((X7f (sd.length - 1) q).depth+1))>(if (IntKind.i64.wrap ((X7f (sd.length - q.1 - 1) p).depth+1))>1 then (IntKind.i64.wrap ((X7f (sd.length - q.1 - 1) p).depth+1)) else 1) then (IntKind.i64.wrap ((X7f (sd.length - 1) q).depth+1)) else (if (IntKind.i64.wrap ((X7f (sd.length - q.1 - 1) p).depth+1))>1 then (IntKind.i64.wrap ((X7f (sd.length - q.1 - 1) p).depth+1)) else 1)))=X7f sd.length (1+q.1+p.1,max (1+q.2) (1+p.2)):=by
                  unfold X7f;simp only;rw[X0d (z:=1+(p.1:Int)) om om,X0d om om,X0d om om,X0d om om];congr 1
                  · push_cast;omega
                  · split<;>split<;>omega
                rw[Yt hok,cond_true,e3,cap st0 _ om,cap _ _ hla];refine go (1+q.1+p.1,max (1+q.2) (1+p.2)) st0 (by unfold nst;rw[if_neg h4,hq1];simp only;rw[if_neg h6,if_neg om,hp'];simp only;rw[if_pos hok]) (.snoc (by simp) (by simp only;omega) (by simp only;omega) (by simp only;omega) ?_) (by simp only;omega) (by simp only;omega) (by simp only;omega);have:=hc0.app (e:=[(1+q.1+p.1,max (1+q.2) (1+p.2))]) om;simp only;rw[show sd.length+1 - (1+q.1+p.1)=sd.length - q.1 - p.1 by omega];exact this
              · rw[Yf hok,cond_false]
                exact stop (by unfold nst;rw[if_neg h4,hq1];simp only;rw[if_neg h6,if_neg om,hp'];simp only;rw[if_neg hok]) ⟨_,rfl⟩
    · rw[if_neg hr]
      have hno:nst sd x=none:=by
        have no:∀ a b,¬ okN x a b:=λa b h=>hr ⟨h.1,h.2.1⟩;unfold nst;simp only[no,if_false];split
        · rfl
        · split
          · rfl
          · split
            · rfl
            · split
              · rfl
              · split<;>rfl
      exact stop hno ⟨_,rfl⟩
def Xac (l:List Xu):Int :=
 if l.length>60 then 4 else match Xif l [] with
  |none=>8
  |some sd=>match sd.getLast? with
   |none=>8
   |some q=>if q.1=l.length then (if q.2>20 then 34 else 0) else 8
theorem Xfo:∀ (xs:List Xu) (sd sd':List (Nat×Nat)),Xif xs sd=some sd'->sd'.length=sd.length+xs.length
 |[],sd,sd',h=>by cases h;simp
 |x::xs,sd,sd',h=>by
  unfold Xif at h;split at h
  ·have:=Xfo xs _ _ h;simp at this;simp;omega
  ·cases h
theorem Xpb {sd:List (Nat×Nat)} {i:Nat} {q:Nat×Nat} (h:sd[i]?=some q):X0u (X5s sd) (i:Int)=some (X7f i q):=by
 rw[X4m];unfold X5s;rw[List.getElem?_mapIdx,h];rfl
theorem Xhu {l:List Xu} (h0:∀ x∈l,0<=x.Kind):∃ t,X8e l=some (t,Xac l)/\(Xac l=0->∃ sd,Xif l []=some sd/\t=X5s sd):=by
 unfold X8e Xac;by_cases h60:l.length>60
 ·rw[Yt (show(l.length:Int)>60 by omega),cond_true,if_pos h60];exact⟨_,rfl,by omega⟩
 ·rw[Yf (show ¬ (l.length:Int)>60 by omega),cond_false,if_neg h60];have hL:=Xya l l [] [] h0 (by simp;omega) .nil (by simp);unfold Xc1;rw[X2n om]
  cases hr:Xif l [] with
  |none =>
   rw[hr] at hL;obtain⟨all,hL⟩:=hL;simp only[List.length_nil] at hL;rw[show X5s []=[] from rfl] at hL;rw[hL];exact⟨_,rfl,by simp⟩
  |some sd =>
   rw[hr] at hL;obtain⟨st,hL,hc⟩:=hL;simp only[List.length_nil] at hL;rw[show X5s []=[] from rfl] at hL;rw[hL];have hn:=Xfo l [] sd hr;simp only[List.length_nil,Nat.zero_add] at hn;simp only[Yo];by_cases hz:sd.length=0
   ·have:sd=[]:=List.eq_nil_of_length_eq_zero hz;subst this;have:=hc.zero;subst this;exact⟨_,rfl,by simp⟩
   ·obtain⟨q,st0,hq,g1,g2,g3,hc0,rfl⟩:=hc.inv om;have hg:sd.getLast?=some q:=by rw[List.getLast?_eq_getElem?];exact hq
    rw[hg];simp only;have hst:(((st0++[X7f (sd.length - 1) q]).length:Int)==1)=decide (q.1=l.length):=by
     rw[Bool.eq_iff_iff];simp only[List.length_append,List.length_singleton,beq_iff_eq,decide_eq_true_eq];constructor
     ·intro h;have h1:st0.length=0:=by omega
      by_cases hk:sd.length - q.1=0
      ·omega
      ·obtain⟨_,s1,_,_,_,_,_,rfl⟩:=hc0.inv om;simp at h1
     ·intro h;rw[show sd.length - q.1=0 by omega] at hc0;rw[hc0.zero];rfl
    rw[hst];by_cases he:q.1=l.length
    ·rw[Yt he,if_pos he];simp only[Bool.not_true,cond_false];rw[show IntKind.i64.wrap (((X5s sd).length:Int) - 1)=((sd.length - 1:Nat):Int) by rw[Xpa,Xh9 om om]];rw[Xpb hq,Yo];by_cases hd:q.2>20
     ·rw[if_pos hd,show decide ((X7f (sd.length - 1) q).depth>20)=true from Yt (by unfold X7f;simp only;omega)];exact⟨_,rfl,by simp⟩
     ·rw[if_neg hd,show decide ((X7f (sd.length - 1) q).depth>20)=false from Yf (by unfold X7f;simp only;omega)];exact⟨_,rfl,λ_=>⟨sd,rfl,rfl⟩⟩
    ·rw[Yf he,if_neg he];exact⟨_,rfl,by simp⟩
theorem X9c {l:List Xu} (h0:∀ x∈l,0<=x.Kind):X4j l=some (Xac l):=by
 obtain⟨t,h,_⟩:=Xhu h0;unfold X4j;rw[h];rfl
def szs (sd:List (Nat×Nat)):List Int:=sd.map λq=>(q.1:Int)
def dps (sd:List (Nat×Nat)):List Int:=sd.map λq=>(q.2:Int)
theorem Xm8 {sd:List (Nat×Nat)} {i:Nat} {q:Nat×Nat} (h:sd[i]?=some q):X0u (szs sd) (i:Int)=some (q.1:Int):=by
 rw[X4m];unfold szs;rw[List.getElem?_map,h];rfl
theorem Xny {sd:List (Nat×Nat)} {i:Nat} {q:Nat×Nat} (h:sd[i]?=some q):X0u (dps sd) (i:Int)=some (q.2:Int):=by
 rw[X4m];unfold dps;rw[List.getElem?_map,h];rfl
theorem Xvt (Y : List Xu) : ∀ (xs : List Xu) (sd : List (Nat × Nat)), sd.length + xs.length <= 1000 -> (∀ j q, sd[j]? = some q -> 1 <= q.1 /\ q.1 <= j + 1 /\ q.2 <= q.1) ->
    match Xif xs sd with
    |some sd'=>X13 Y xs sd.length (szs sd) (dps sd)=some (.x0 (szs sd') (dps sd'))
    |none=>X13 Y xs sd.length (szs sd) (dps sd)=some (.x1 [] []):=by
  intro xs
  induction xs with
  |nil=>intro sd _ _;rfl
  |cons x xs ih =>
    intro sd hn hb;simp only[List.length_cons] at hn;rw[X13];have go : ∀ (q : Nat × Nat), nst sd x = some q -> 1 <= q.1 -> q.1 <= sd.length + 1 -> q.2 <= q.1 ->
        (match Xif (x::xs) sd with
          |some sd'=>X13 Y xs (sd.length+1) (szs sd++[(q.1:Int)]) (dps sd++[(q.2:Int)])=some (.x0 (szs sd') (dps sd'))
          |none=>X13 Y xs (sd.length+1) (szs sd++[(q.1:Int)]) (dps sd++[(q.2:Int)])=some (.x1 [] [])):=by
      intro q hq g1 g2 g3
      have:=ih (sd++[q]) (by simp;omega) (λj q' hj=>by
        rw[List.getElem?_append] at hj;split at hj
        · exact hb j q' hj
        · rename_i hlt
          have:j=sd.length:=by
            have:=(Ys.1 hj).1;simp at this;omega
          subst this
          simp at hj;subst hj;exact⟨g1,g2,g3⟩)
      rw[List.length_append] at this;unfold Xif;rw[hq];unfold szs dps at this ⊢;rw[List.map_append,List.map_append] at this;exact this
    have stop:nst sd x=none->∀ {o:Option X3q},o=some (.x1 [] [])->(match Xif (x::xs) sd with
          |some sd'=>o=some (.x0 (szs sd') (dps sd'))
          |none=>o=some (.x1 [] [])):=by
      intro hq o h;unfold Xif;rw[hq];exact h
    have cap:∀ (l:List Int) (t:Int),l.length<=2000->X1p (List.length (l++[t])) 8=some ():=λl t hl=>X5q (by simp;omega);have hls:(szs sd).length<=2000:=by unfold szs;simp;omega
    have hld:(dps sd).length<=2000:=by unfold dps;simp;omega
    unfold Xa6;by_cases h4:x.Kind<=4
    · rw[Yt h4,cond_true]
      simp only[Yo];rw[show decide ((0:Int)>0)=false from rfl,cond_false,Xj1,Yo];by_cases hok:okN x 0 0
      · rw[Yt hok,Bool.not_true,cond_false,cap _ _ hls,cap _ _ hld]
        exact go (1,1) (by unfold nst;rw[if_pos h4,if_pos hok]) (Nat.le_refl _) om (Nat.le_refl _)
      · rw[Yf hok,Bool.not_false,cond_true]
        exact stop (by unfold nst;rw[if_pos h4,if_neg hok]) rfl
    · rw[Yf h4,cond_false]
      have hgl:0<sd.length->∃ q,sd.getLast?=some q/\sd[sd.length - 1]?=some q:=by
        intro h;refine⟨sd[sd.length - 1]' om,?_,?_⟩
        · rw[List.getLast?_eq_getElem?];exact Ye _
        · exact Ye _
      by_cases hl:sd.length=0
      · have hnil:=List.eq_nil_of_length_eq_zero hl
        refine stop (by unfold nst;rw[if_neg h4,hnil];rfl) ?_;rw[hl];by_cases h6:x.Kind<=6
        · rw[Yt h6];rfl
        · rw[Yf h6];rfl
      · obtain⟨q,hq1,hq⟩:=hgl om
        obtain⟨g1,g2,g3⟩:=hb _ _ hq;have hw:IntKind.i64.wrap ((sd.length:Int) - 1)=((sd.length - 1:Nat):Int):=Xh9 om om;rw[hw];rw[show decide (((sd.length - 1:Nat):Int)<0)=false from Yf om,Xm8 hq,Xny hq];simp only[cond_false];by_cases h6:x.Kind<=6
        · rw[Yt h6,cond_true]
          simp only[Yo];rw[show decide ((1:Int)>0)=true from rfl,cond_true,show((1:Int)==2)=false from rfl,cond_false,Xj1,Yo];rw[show((sd.length - 1:Nat):Int)=(sd.length:Int) - 1 by omega];by_cases hok:okN x ((sd.length:Int) - 1) 0
          · rw[Yt hok,Bool.not_true,cond_false,cap _ _ hls,cap _ _ hld]
            rw[X0d om om,X0d om om];have:=go (1+q.1,1+q.2) (by unfold nst;rw[if_neg h4,hq1];simp only;rw[if_pos h6,if_pos hok]) (by simp only;omega) (by simp only;omega) (by simp only;omega);simp only at this
            push_cast at this
            exact this
          · rw[Yf hok,Bool.not_false,cond_true]
            exact stop (by unfold nst;rw[if_neg h4,hq1];simp only;rw[if_pos h6,if_neg hok]) rfl
        · rw[Yf h6,cond_false]
          simp only[Yo];rw[show decide ((2:Int)>0)=true from rfl,cond_true,show((2:Int)==2)=true from rfl,cond_true];have hw2:IntKind.i64.wrap (((sd.length - 1:Nat):Int) - q.1)=(sd.length:Int) - 1 - q.1:=by rw[X0d om om];omega
          rw[hw2];by_cases hlt:sd.length - 1<q.1
          · rw[show decide ((sd.length:Int) - 1 - q.1<0)=true from Yt om,cond_true]
            exact stop (by unfold nst;rw[if_neg h4,hq1];simp only;rw[if_neg h6,if_pos hlt]) rfl
          · rw[show decide ((sd.length:Int) - 1 - q.1<0)=false from Yf om,cond_false]
            have hpe:sd[sd.length - 1 - q.1]?=some (sd[sd.length - 1 - q.1]' om):=Ye _;generalize sd[sd.length - 1 - q.1]' om=p at hpe;obtain⟨f1,f2,f3⟩:=hb _ _ hpe;rw[show(sd.length:Int) - 1 - q.1=((sd.length - 1 - q.1:Nat):Int) by omega,Xm8 hpe,Xny hpe];simp only[Yo];rw[Xj1,Yo];rw[show((sd.length - 1 - q.1:Nat):Int)=(sd.length:Int) - 1 - q.1 by omega,show((sd.length - 1:Nat):Int)=(sd.length:Int) - 1 by omega];by_cases hok:okN x ((sd.length:Int) - 1 - q.1) ((sd.length:Int) - 1)
            · rw[Yt hok,Bool.not_true,cond_false,cap _ _ hls,cap _ _ hld]
              rw[X0d (z:=1+(q.1:Int)) om om,X0d (z:=1+(q.1:Int)+p.1) om om,X0d om om,X0d om om];have:=go (1+q.1+p.1,max (1+q.2) (1+p.2)) (by unfold nst;rw[if_neg h4,hq1];simp only;rw[if_neg h6,if_neg hlt,hpe];simp only;rw[if_pos hok]) (by simp only;omega) (by simp only;omega) (by simp only;omega);simp only at this;rw[show((1+q.1+p.1:Nat):Int)=1+(q.1:Int)+p.1 by omega,show((max (1+q.2) (1+p.2):Nat):Int)=(if 1+(p.2:Int)>1+q.2 then 1+(p.2:Int) else 1+q.2) by split<;>omega] at this;exact this
            · rw[Yf hok,Bool.not_false,cond_true]
              exact stop (by unfold nst;rw[if_neg h4,hq1];simp only;rw[if_neg h6,if_neg hlt,hpe];simp only;rw[if_neg hok]) rfl
theorem X9a {l:List Xu}:X3l l=some (Xac l):=by
 unfold X3l Xac;by_cases h60:l.length>60
 ·rw[Yt (show(l.length:Int)>60 by omega),cond_true,if_pos h60]
 ·rw[Yf (show ¬ (l.length:Int)>60 by omega),cond_false,if_neg h60];have hL:=Xvt l l [] (by simp;omega) (by simp);unfold Xa5;rw[X2n om]
  cases hr:Xif l [] with
  |none =>
   rw[hr] at hL;simp only[List.length_nil] at hL;rw[show szs []=[] from rfl,show dps []=[] from rfl] at hL;rw[Yo,hL];rfl
  |some sd =>
   rw[hr] at hL;simp only[List.length_nil] at hL;rw[show szs []=[] from rfl,show dps []=[] from rfl] at hL;rw[Yo,hL];have hn:=Xfo l [] sd hr;simp only[List.length_nil,Nat.zero_add] at hn;simp only[Yo];by_cases hz:l.length=0
   ·rw[List.eq_nil_of_length_eq_zero (hn.trans hz),List.eq_nil_of_length_eq_zero hz];rfl
   ·have hq:sd[sd.length - 1]?=some (sd[sd.length - 1]' om):=Ye _;generalize sd[sd.length - 1]' om=q at hq;have hg:sd.getLast?=some q:=by rw[List.getLast?_eq_getElem?];exact hq
    rw[hg];have hw:IntKind.i64.wrap ((l.length:Int) - 1)=((sd.length - 1:Nat):Int):=by rw[<-hn];exact Xh9 om om
    rw[show decide ((l.length:Int)>0)=true from Yt om,cond_true,hw,Xm8 hq];simp only[Yo,cond_true];rw[Xny hq];by_cases he:q.1=l.length
    ·rw[if_pos he,show((q.1:Int)==(l.length:Int))=true by rw[he];simp,Bool.not_true,cond_false];by_cases hd:q.2>20
     ·rw[if_pos hd,Yo,Yt (show(q.2:Int)>20 by omega)];rfl
     ·rw[if_neg hd,Yo,Yf (show ¬ (q.2:Int)>20 by omega)];rfl
    ·rw[if_neg he,show((q.1:Int)==(l.length:Int))=false by simp;omega,Bool.not_false,cond_true]
end Go.D


namespace Go.D
theorem X01c {sd:List (Nat×Nat)} {x:Xu} {q:Nat×Nat} (h:nst sd x=some q):∃ a b,okN x a b/\(x.Kind<=4->a=0/\b=0)/\(5<=x.Kind->0<sd.length/\(x.Kind<=6->a=(sd.length:Int) - 1/\b=0)/\(7<=x.Kind->0<=a/\a<=(sd.length:Int) - 1/\b=(sd.length:Int) - 1)):=by
 unfold nst at h;split at h
 ·rename_i h4;split at h
  ·rename_i ho;exact⟨0,0,ho,λ_=>⟨rfl,rfl⟩,λh5=>by omega⟩
  ·cases h
 ·rename_i h4;split at h
  ·cases h
  ·rename_i s2 d2 hg;have hl:0<sd.length:=by
    cases sd with
    |nil=>cases hg
    |cons=>simp
   split at h
   ·rename_i h6;split at h
    ·rename_i ho;exact⟨_,_,ho,λh4'=>absurd h4' h4,λ_=>⟨hl,λ_=>⟨rfl,rfl⟩,λh7=>by omega⟩⟩
    ·cases h
   ·rename_i h6;split at h
    ·cases h
    ·rename_i hlt;split at h
     ·cases h
     ·split at h
      ·rename_i ho;exact⟨_,_,ho,λh4'=>absurd h4' h4,λ_=>⟨hl,λh6'=>absurd h6' h6,λ_=>⟨by omega,by omega,rfl⟩⟩⟩
      ·cases h
structure Xiq (x:Xu) (k:Nat):Prop where
 lo:1<=x.Kind
 hi:x.Kind<=19
 leaf:x.Kind<=4->x.A=0/\x.B=0
 a0:0<=x.A
 b0:0<=x.B
 ak:5<=x.Kind->x.A<k
 b1:5<=x.Kind->x.Kind<=6->x.B=0
 bk:5<=x.Kind->x.B<k
 n0:0<=x.N
 nk:x.N=0\/x.Kind=1
 at0:0<=x.At
 at1:x.At<=400
theorem Xsj:∀ (xs:List Xu) (sd sd':List (Nat×Nat)),Xif xs sd=some sd'->∀ j x,xs[j]?=some x->Xiq x (sd.length+j)
 |[],sd,sd',h,j,x,hj=>by simp at hj
 |y::ys,sd,sd',h,j,x,hj=>by
  unfold Xif at h;split at h
  ·rename_i q hq
   cases j with
   |zero =>
    simp at hj;subst hj;obtain⟨a,b,ho,h4,h5⟩:=X01c hq;obtain⟨o1,o2,o3,o4,o5,o6,rfl,rfl⟩:=ho;refine⟨o1,o2,h4,?_,?_,?_,?_,?_,o3,o4,o5,o6⟩;all_goals
     by_cases h4':y.Kind<=4
     ·have:=h4 h4';omega
     ·have h5':=h5 om;by_cases h6:y.Kind<=6
      ·have:=h5'.2.1 h6;omega
      ·have:=h5'.2.2 om;omega
   |succ j =>
    have:=Xsj ys _ _ h j x (by simpa using hj);rw[List.length_append,List.length_singleton] at this;rw[show sd.length+(j+1)=sd.length+1+j by omega];exact this
  ·cases h
def giv (K:Int):Bool:=(K==6)||decide (12<=K)
theorem Xjz (K:Int):X5m K=some (giv K):=by
 unfold X5m giv;congr 1
def X2c (l:List Xu) (i:Int):Int:=match X0u l i with|some e=>e.Kind|none=>0
def Xke (l:List Xu) (x:Xu):Bool :=
 if x.Kind<=4 then true
 else if x.Kind=5 then !(giv (X2c l x.A))
 else if x.Kind=6 then giv (X2c l x.A)
 else if x.Kind<=15 then !(giv (X2c l x.A))&&!(giv (X2c l x.B))
 else if x.Kind<=17 then (giv (X2c l x.A))==(giv (X2c l x.B))
 else giv (X2c l x.A)&&giv (X2c l x.B)
def wrN (l:List Xu):List Xu->Nat->Option Nat
 |[],_=>none
 |x::xs,k=>if Xke l x then wrN l xs (k+1) else some k
theorem Xbj {α:Type} {l:List α} {i:Int} (h0:0<=i) (h1:i<l.length):∃ e,X0u l i=some e/\l[i.toNat]?=some e:=by
 obtain⟨n,rfl⟩:∃ n:Nat,i=n:=⟨i.toNat,by omega⟩;exact⟨l[n]' om,by rw[X4m];exact Ye _,by simp⟩
theorem Xai {l:List Xu} {i:Int} (h0:0<=i) (h1:i<l.length):∃ e,X0u l i=some e/\X2c l i=e.Kind:=by
 obtain⟨e,h,_⟩:=Xbj h0 h1;exact⟨e,h,by unfold X2c;rw[h]⟩
theorem Xzz {l:List Xu} {x:Xu} {k:Nat} (hk:l[k]?=some x) (ho:Xiq x k):X9o l (k:Int)=some (Xke l x):=by
 have hlt:=(Ys.1 hk).1;have hA:x.A<l.length:=by
  by_cases h:x.Kind<=4
  ·have:=(ho.leaf h).1;omega
  ·have:=ho.ak om;omega
 have hB:x.B<l.length:=by
  by_cases h:x.Kind<=4
  ·have:=(ho.leaf h).2;omega
  ·have:=ho.bk om;omega
 obtain⟨a,ha,hka⟩:=Xai ho.a0 hA;obtain⟨b,hb,hkb⟩:=Xai ho.b0 hB;unfold X9o Xke;rw[X4m,hk,Yo,ha,Yo,hb,Xjz,Yo,Yo,Xjz,Yo,hka,hkb];have h1:=ho.lo;have h2:=ho.hi;by_cases h4:x.Kind<=4
 ·rw[if_pos h4,Yt h4];rfl
 ·rw[if_neg h4,Yf h4,cond_false];by_cases h5:x.Kind=5
  ·rw[if_pos h5,show(x.Kind==5)=true by simp[h5]];rfl
  ·rw[if_neg h5,show(x.Kind==5)=false by simp[h5],cond_false];by_cases h6:x.Kind=6
   ·rw[if_pos h6,show(x.Kind==6)=true by simp[h6]];rfl
   ·rw[if_neg h6,show(x.Kind==6)=false by simp[h6],cond_false];by_cases h15:x.Kind<=15
    ·rw[if_pos h15,show(bif (x.Kind==16) then true else (x.Kind==17))=false by rw[show(x.Kind==16)=false by simp;omega,show(x.Kind==17)=false by simp;omega];rfl,Yf (show ¬ x.Kind >= 18 by omega)];cases giv a.Kind<;>cases giv b.Kind<;>rfl
    ·rw[if_neg h15];by_cases h17:x.Kind<=17
     ·rw[if_pos h17,show(bif (x.Kind==16) then true else (x.Kind==17))=true by rcases(by omega:x.Kind=16\/x.Kind=17) with h|h<;>simp[h]];rfl
     ·rw[if_neg h17,show(bif (x.Kind==16) then true else (x.Kind==17))=false by rw[show(x.Kind==16)=false by simp;omega,show(x.Kind==17)=false by simp;omega];rfl,Yt (show x.Kind >= 18 by omega)];cases giv a.Kind<;>cases giv b.Kind<;>rfl
theorem Xo7 {l:List Xu} (ho:∀ j x,l[j]?=some x->Xiq x j):∀ (xs:List Xu) (k:Nat),l.drop k=xs->X37 l xs k=some (match wrN l xs k with|none=>.x0|some j=>.x1 (j:Int))
 |[],k,_=>rfl
 |x::xs,k,h=>by
  have hk:l[k]?=some x:=by
   have:(l.drop k)[0]?=some x:=by rw[h];rfl
   simpa using this
  have hd:l.drop (k+1)=xs:=by
   have:(l.drop k).drop 1=xs:=by rw[h];rfl
   rw[List.drop_drop] at this;exact this
  rw[X37,Xzz hk (ho k x hk),Yo,wrN]
  cases Xke l x with
  |true=>exact Xo7 ho xs (k+1) hd
  |false=>rfl
def gvs (l:List Xu) (k:Nat):List Bool:=(l.take k).map λe=>giv e.Kind
theorem Xnu {l:List Xu} {k:Nat} (hk:k<=l.length) {i:Int} (h0:0<=i) (h1:i<k):X0u (gvs l k) i=some (giv (X2c l i)):=by
 obtain⟨e,he,hke⟩:=Xai (l:=l) h0 om;have hi:(i.toNat:Int)=i:=by omega
 rw[hke,<-hi,X4m];rw[<-hi,X4m] at he;unfold gvs;rw[List.getElem?_map,List.getElem?_take_of_lt om,he];rfl
theorem Xot {l:List Xu} {k:Nat} {x:Xu} (hk:l[k]?=some x):gvs l (k+1)=gvs l k++[giv x.Kind]:=by
 unfold gvs;rw[List.take_add_one,hk,List.map_append];rfl
theorem Xrt {l:List Xu} (hn:l.length<=1000) (ho:∀ j x,l[j]?=some x->Xiq x j):∀ (xs:List Xu) (k:Nat),l.drop k=xs->X18 l xs k (gvs l k)=some (match wrN l xs k with|none=>.x0 (gvs l l.length)|some j=>.x1 [] (j:Int))
 |[],k,h=>by
  have:l.length<=k:=by
   have:=congrArg List.length h;simp at this;omega
  rw[X18,wrN];unfold gvs;rw[List.take_of_length_le this,List.take_length]
 |x::xs,k,h=>by
  have hk:l[k]?=some x:=by
   have:(l.drop k)[0]?=some x:=by rw[h];rfl
   simpa using this
  have hd:l.drop (k+1)=xs:=by
   have:(l.drop k).drop 1=xs:=by rw[h];rfl
   rw[List.drop_drop] at this;exact this
  have hlt:=(Ys.1 hk).1;have hox:=ho k x hk;have ih:=Xrt hn ho xs (k+1) hd;have h1:=hox.lo;have h2:=hox.hi;have cap:∀ b,X1p (List.length (gvs l k++[b])) 1=some ():=λb=>X5q (by unfold gvs;simp;omega);have go:giv x.Kind=false->Xke l x=true->X18 l xs (k+1) (gvs l k++[false])=some (match wrN l (x::xs) k with|none=>.x0 (gvs l l.length)|some j=>.x1 [] (j:Int)):=by
   intro g f;rw[wrN,f,if_pos rfl,<-ih,Xot hk,g]
  have go':giv x.Kind=true->Xke l x=true->X18 l xs (k+1) (gvs l k++[true])=some (match wrN l (x::xs) k with|none=>.x0 (gvs l l.length)|some j=>.x1 [] (j:Int)):=by
   intro g f;rw[wrN,f,if_pos rfl,<-ih,Xot hk,g]
  have stop:Xke l x=false->(some (.x1 [] (k:Int)):Option X4l)=some (match wrN l (x::xs) k with|none=>.x0 (gvs l l.length)|some j=>.x1 [] (j:Int)):=by
   intro f;rw[wrN,f];rfl
  rw[X18];by_cases h4:x.Kind<=4
  ·rw[Yt h4,cond_true,cap,Yo];exact go (by unfold giv;simp;omega) (by unfold Xke;rw[if_pos h4])
  ·rw[Yf h4,cond_false];have hA:X0u (gvs l k) x.A=some (giv (X2c l x.A)):=Xnu om hox.a0 (hox.ak om);have hB:X0u (gvs l k) x.B=some (giv (X2c l x.B)):=Xnu om hox.b0 (hox.bk om);by_cases h5:x.Kind=5
   ·have hf:Xke l x=!(giv (X2c l x.A)):=by unfold Xke;rw[if_neg h4,if_pos h5]
    rw[show(x.Kind==5)=true by simp[h5],cond_true,hA]
    cases hg:giv (X2c l x.A) with
    |true=>exact stop (by rw[hf,hg];rfl)
    |false =>
     show(X1p (List.length (gvs l k++[false])) 1).bind _=_;rw[cap,Yo];exact go (by unfold giv;simp[h5]) (by rw[hf,hg];rfl)
   ·rw[show(x.Kind==5)=false by simp[h5],cond_false];by_cases h6:x.Kind=6
    ·have hf:Xke l x=giv (X2c l x.A):=by unfold Xke;rw[if_neg h4,if_neg h5,if_pos h6]
     rw[show(x.Kind==6)=true by simp[h6],cond_true,hA]
     cases hg:giv (X2c l x.A) with
     |false=>exact stop (by rw[hf,hg])
     |true =>
      show(X1p (List.length (gvs l k++[true])) 1).bind _=_;rw[cap,Yo];exact go' (by unfold giv;simp[h6]) (by rw[hf,hg])
    ·rw[show(x.Kind==6)=false by simp[h6],cond_false];have lok:X3t (List.length [x.A,x.B])=some ():=X2n (by simp);by_cases h15:x.Kind<=15
     ·have hf:Xke l x=(!(giv (X2c l x.A))&&!(giv (X2c l x.B))):=by unfold Xke;rw[if_neg h4,if_neg h5,if_neg h6,if_pos h15]
      by_cases h11:x.Kind<=11
      ·have hgx:giv x.Kind=false:=by unfold giv;simp;omega
       rw[Yt h11,cond_true,Yo,lok];simp only[X04,hA,hB];generalize giv (X2c l x.A)=p at hf;generalize giv (X2c l x.B)=r at hf;cases p<;>cases r
       ·show(X1p (List.length (gvs l k++[false])) 1).bind _=_;rw[cap,Yo];exact go hgx hf
       all_goals exact stop hf
      ·have hgx:giv x.Kind=true:=by unfold giv;simp;omega
       rw[Yf h11,cond_false,Yt h15,cond_true,Yo,lok];simp only[X04,hA,hB];generalize giv (X2c l x.A)=p at hf;generalize giv (X2c l x.B)=r at hf;cases p<;>cases r
       ·show(X1p (List.length (gvs l k++[true])) 1).bind _=_;rw[cap,Yo];exact go' hgx hf
       all_goals exact stop hf
     ·rw[Yf (show ¬ x.Kind<=11 by omega),cond_false,Yf h15,cond_false];have hgx:giv x.Kind=true:=by unfold giv;simp;omega
      by_cases h17:x.Kind<=17
      ·have hf:Xke l x=((giv (X2c l x.A))==(giv (X2c l x.B))):=by unfold Xke;rw[if_neg h4,if_neg h5,if_neg h6,if_neg h15,if_pos h17]
       rw[Yt h17,cond_true,Yo,lok];simp only[X04,X06,hA,hB];generalize giv (X2c l x.A)=p at hf;generalize giv (X2c l x.B)=r at hf;cases p<;>cases r
       ·show(X1p (List.length (gvs l k++[true])) 1).bind _=_;rw[cap,Yo];exact go' hgx hf
       ·exact stop hf
       ·exact stop hf
       ·show(X1p (List.length (gvs l k++[true])) 1).bind _=_;rw[cap,Yo];exact go' hgx hf
      ·have hf:Xke l x=((giv (X2c l x.A))&&(giv (X2c l x.B))):=by unfold Xke;rw[if_neg h4,if_neg h5,if_neg h6,if_neg h15,if_neg h17]
       rw[Yf h17,cond_false,Yo,lok];simp only[X04,X06,hA,hB];generalize giv (X2c l x.A)=p at hf;generalize giv (X2c l x.B)=r at hf;cases p<;>cases r
       ·exact stop hf
       ·exact stop hf
       ·exact stop hf
       ·show(X1p (List.length (gvs l k++[true])) 1).bind _=_;rw[cap,Yo];exact go' hgx hf
end Go.D


namespace Go.D
theorem Xxp (a b:Int):a<b\/b<=a:=by omega
theorem Xsl {α:Type} {l:List α} (h:l.Nodup):l.reverse.Nodup:=by
 unfold List.Nodup at *;rw[List.pairwise_reverse];exact h.imp λh=>Ne.symm h
def okT (t:Int):Prop := -1099511627776<=t/\t<=1099511627776
def okW (w:X0g):Prop:=1<=w.Size/\w.Size<=1073741824/\((w.Kind=2/\1<=w.Every/\w.Every<=w.Size/\w.Size<=16*w.Every)\/((w.Kind=1\/w.Kind=3)/\w.Every=0))
theorem X3e {w:X0g} (h:okW w):X0v w=some 0:=by
 obtain⟨h1,h2,h3⟩:=h;have e1:decide (w.Size<1)=false:=by simp;omega
 have e2:decide (w.Size>1073741824)=false:=by simp;omega
 simp only[X0v,e1,e2,cond_false];rcases h3 with ⟨k,a1,a2,a3⟩|⟨k|k,a⟩
 ·have e3:(w.Kind==2)=true:=by simp[k]
  have e4:decide (w.Every >= 1)=true:=by simp;omega
  have e5:decide (w.Every<=w.Size)=true:=by simp;omega
  have e6:decide (w.Size<=IntKind.i64.wrap (16*w.Every))=true:=by rw[X0d om om];simp;omega
  simp only[e3,e4,e5,e6,cond_true]
 ·have e3:(w.Kind==2)=false:=by simp[k]
  have e4:(w.Kind==1)=true:=by simp[k]
  have e5:(w.Every==0)=true:=by simp[a]
  simp only[e3,e4,e5,cond_true,cond_false]
 ·have e3:(w.Kind==2)=false:=by simp[k]
  have e4:(w.Kind==1)=false:=by simp[k]
  have e6:(w.Kind==3)=true:=by simp[k]
  have e5:(w.Every==0)=true:=by simp[a]
  simp only[e3,e4,e5,e6,cond_true,cond_false]
theorem Xb9 {t size:Int} (ht:okT t) (h1:1<=size) (h2:size<=1073741824):X9l t size=some (⟨t / size*size,t / size*size+size⟩,0):=by
 obtain⟨t1,t2⟩:=ht;have e1:decide (size<1)=false:=by simp;omega
 have e2:decide (size>1073741824)=false:=by simp;omega
 have e3:decide (t < -1099511627776)=false:=by simp;omega
 have e4:decide (t>1099511627776)=false:=by simp;omega
 have hm:=Int.mul_ediv_add_emod t size;have hm1:=Int.emod_nonneg t (show size≠0 by omega);have hm2:=Int.emod_lt_of_pos t (show 0<size by omega);have q1 : -1099511627776<=t / size:=by
  rcases Xxp (t / size) (-1099511627776) with h|h
  ·exfalso;have:size*(t / size)<=size*(-1099511627777):=Int.mul_le_mul_of_nonneg_left om om;omega
  ·exact h
 have q2:t / size<=1099511627776:=by
  rcases Xxp 1099511627776 (t / size) with h|h
  ·exfalso;have:size*1099511627777<=size*(t / size):=Int.mul_le_mul_of_nonneg_left om om;omega
  ·exact h
 have hn:X62 t size=some (t / size,0):=by
  simp only[X62,X8s,e1,e2,e3,e4,cond_false,Yo,bne_self_eq_false];have hd:Xty size=some ():=by unfold Xty;rw[if_pos om]
  rw[hd,Yo];have htm:=Int.tmod_add_mul_tdiv t size;by_cases hneg:Int.tmod t size<0
  ·have e5:decide (Int.tmod t size<0)=true:=by simp[hneg]
   rw[e5,cond_true,Yo];have hq:Int.tdiv t size - 1=t / size:=by
    have h3:Int.tdiv t size=t / size+if 0<=t\/size ∣ t then 0 else size.sign:=Int.tdiv_eq_ediv;have h4:¬ (0<=t\/size ∣ t):=by
     rintro(h|h)
     ·have:=Int.tmod_nonneg size h;omega
     ·have:=Int.tmod_eq_zero_of_dvd h;omega
    rw[if_neg h4,Int.sign_eq_one_of_pos om] at h3;omega
   have e6:IntKind.i64.wrap (Int.tdiv t size)=Int.tdiv t size:=X0d om om;rw[e6,hq,X0d om om]
  ·have e5:decide (Int.tmod t size<0)=false:=by simp;omega
   rw[e5,cond_false,Yo];have hq:Int.tdiv t size=t / size:=by
    have h3:Int.tdiv t size=t / size+if 0<=t\/size ∣ t then 0 else size.sign:=Int.tdiv_eq_ediv;by_cases h4:0<=t\/size ∣ t
    ·rw[if_pos h4] at h3;omega
    ·exfalso;rw[if_neg h4,Int.sign_eq_one_of_pos om] at h3;rw[h3,Int.mul_add,Int.mul_one] at htm;omega
   rw[hq,X0d om om]
 simp only[X9l,hn,Yo,bne_self_eq_false,cond_false];have e7:t / size*size=size*(t / size):=Int.mul_comm _ _;have e8:IntKind.i64.wrap (t / size+1)=t / size+1:=X0d om om;have e9:(t / size+1)*size=size*(t / size)+size:=by rw[Int.add_mul,e7];omega
 rw[e8,e9,e7,X0d om om,X0d om om]
def X9x (t size every:Int):Nat->Int->List X0k
 |0,_=>[]
 |K+1,s=>if s+size>t then ⟨s,s+size⟩::X9x t size every K (s - every) else []
theorem Xvs {t size every:Int} (ht:okT t) (h1:1<=every) (h2:every<=size) (h3:size<=1073741824):∀ (K f:Nat) (acc:List X0k) (s:Int),s<=t -> -1200000000000+K*1073741824<=s->s+size - t<=K*every->K<f->acc.length+K<=1000000 ->
  X4g t size every f acc s=some (.x0 (acc++X9x t size every K s)):=by
 obtain⟨t1,t2⟩:=ht;intro K
 induction K with
 |zero =>
  intro f acc s hs hl hK hf ha
  cases f with
  |zero=>omega
  |succ f =>
   rw[X4g];simp only[Int.natCast_zero,Int.zero_mul] at hK hl;have:decide (IntKind.i64.wrap (s+size)>t)=false:=by rw[X0d om om];simp;omega
   rw[this,cond_false];simp[X9x]
 |succ K ih =>
  intro f acc s hs hl hK hf ha
  cases f with
  |zero=>omega
  |succ f =>
   rw[X4g];have e0:((K+1:Nat):Int)*every=K*every+every:=by rw[Int.natCast_add,Int.natCast_one,Int.add_mul,Int.one_mul]
   have e00:((K+1:Nat):Int)*1073741824=K*1073741824+1073741824:=by omega
   have e1:IntKind.i64.wrap (s+size)=s+size:=X0d om om;rw[e1];by_cases hgt:s+size>t
   ·have:decide (s+size>t)=true:=by simpa using hgt
    rw[this,cond_true,X5q (by simp;omega),Yo];have e2:IntKind.i64.wrap (s - every)=s - every:=X0d om om;rw[e2,ih f _ _ om om om om (by simp;omega)];rw[X9x,if_pos hgt];simp
   ·have:decide (s+size>t)=false:=by simpa using hgt
    rw[this,cond_false,X9x,if_neg hgt];simp
theorem Xm9 (back:List X0k) (hb:back.length<=1000):∀ (k f:Nat) (acc:List X0k),k<=back.length->k<f->acc.length+k<=1000000 ->
  X2g back f acc ((k:Int) - 1)=some (.x0 (acc++(back.take k).reverse) back):=by
 intro k
 induction k with
 |zero =>
  intro f acc _ hf _
  cases f with
  |zero=>omega
  |succ f =>
   rw[X2g];simp
 |succ k ih =>
  intro f acc hk hf ha
  cases f with
  |zero=>omega
  |succ f =>
   rw[X2g];have e1:(((k+1:Nat):Int) - 1)=(k:Int):=by omega
   rw[e1];have e2:decide ((k:Int) >= 0)=true:=by simp
   rw[e2,cond_true,X4m,Ye om,Yo,X5q (by simp;omega),Yo];rw[X0d om om,ih f _ om om (by simp;omega)];rw[List.take_add_one,Ye om];simp only[Option.toList_some,List.reverse_append,List.reverse_cons,List.reverse_nil,List.nil_append,List.append_assoc,List.cons_append]
theorem Xlu (t size every:Int):∀ (K:Nat) (s:Int),(X9x t size every K s).length<=K:=by
 intro K
 induction K with
 |zero=>intro s;simp[X9x]
 |succ K ih=>intro s;rw[X9x];split<;>simp;exact ih _
theorem Xxc (t size every:Int) (h:1<=every):∀ (K:Nat) (s:Int),∀ x∈X9x t size every K s,x.Start<=s:=by
 intro K
 induction K with
 |zero=>intro s x hx;simp[X9x] at hx
 |succ K ih =>
  intro s x hx;rw[X9x] at hx;split at hx
  ·rcases List.mem_cons.1 hx with rfl|hx
   ·exact Int.le_refl _
   ·have:=ih _ x hx;omega
  ·simp at hx
theorem Xo3 (t size every:Int) (h:1<=every):∀ (K:Nat) (s:Int),(X9x t size every K s).Nodup:=by
 intro K
 induction K with
 |zero=>intro s;simp[X9x]
 |succ K ih =>
  intro s;rw[X9x];split
  ·rw[List.nodup_cons];exact⟨λhx=>by have:=Xxc t size every h K _ _ hx;simp at this;omega,ih _⟩
  ·exact List.nodup_nil
theorem Xug (t size every:Int):∀ (K:Nat) (s:Int),s+size - t<=K*every->0<=every->∀ x:X0k,x∈X9x t size every K s↔∃ j:Nat,x.Start=s - j*every/\x.End=x.Start+size/\t<x.End:=by
 intro K
 induction K with
 |zero =>
  intro s hK he x;simp only[Int.natCast_zero,Int.zero_mul] at hK;simp only[X9x,List.not_mem_nil,false_iff,not_exists,not_and];intro j h1 h2;have:(0:Int)<=j*every:=Int.mul_nonneg om he;omega
 |succ K ih =>
  intro s hK he x;have e0:((K+1:Nat):Int)*every=K*every+every:=by rw[Int.natCast_add,Int.natCast_one,Int.add_mul,Int.one_mul]
  rw[X9x];by_cases hgt:s+size>t
  ·rw[if_pos hgt,List.mem_cons,ih (s - every) om he x];constructor
   ·rintro(rfl|⟨j,h1,h2,h3⟩)
    ·exact⟨0,by simp,rfl,hgt⟩
    ·refine⟨j+1,?_,h2,h3⟩;have:((j+1:Nat):Int)*every=j*every+every:=by rw[Int.natCast_add,Int.natCast_one,Int.add_mul,Int.one_mul]
     omega
   ·rintro⟨j,h1,h2,h3⟩
    cases j with
    |zero=>left;apply Xfn;simp at h1;exact h1;simp at h1;show x.End=s+size;omega
    |succ j =>
     right;have:((j+1:Nat):Int)*every=j*every+every:=by rw[Int.natCast_add,Int.natCast_one,Int.add_mul,Int.one_mul]
     exact⟨j,by omega,h2,h3⟩
  ·rw[if_neg hgt];simp only[List.not_mem_nil,false_iff,not_exists,not_and];intro j h1 h2;have:(0:Int)<=j*every:=Int.mul_nonneg om he;omega
theorem Xld {t size every:Int} (h1:1<=every) (x:X0k):Xle size every t x↔∃ j:Nat,x.Start=t / every*every - j*every/\x.End=x.Start+size/\t<x.End:=by
 have hm:=Int.mul_ediv_add_emod t every;have hm1:=Int.emod_nonneg t (show every≠0 by omega);have hm2:=Int.emod_lt_of_pos t (show 0<every by omega);have hc:t / every*every=every*(t / every):=Int.mul_comm _ _;unfold Xle inS;constructor
 ·rintro⟨a1,a2,a3,a4⟩;have hx:=Int.mul_ediv_add_emod x.Start every;rw[a1,Int.add_zero] at hx;have hle:x.Start / every<=t / every:=by
   rcases Xxp (t / every) (x.Start / every) with h|h
   ·exfalso;have:every*(t / every+1)<=every*(x.Start / every):=Int.mul_le_mul_of_nonneg_left om om;rw[Int.mul_add,Int.mul_one] at this;omega
   ·exact h
  refine⟨(t / every - x.Start / every).toNat,?_,a2,a4⟩;have e1:(((t / every - x.Start / every).toNat:Nat):Int)=t / every - x.Start / every:=Int.toNat_of_nonneg om;rw[e1,Int.sub_mul,Int.mul_comm (x.Start / every)];omega
 ·rintro⟨j,a1,a2,a3⟩;have hj:(0:Int)<=j*every:=Int.mul_nonneg om om;refine⟨?_,a2,by omega,a3⟩;rw[a1,<-Int.sub_mul];exact Int.mul_emod_left _ _
theorem Xg8 {w:X0g} {t:Int} (hw:okW w) (hk:w.Kind≠3) (ht:okT t):∃ W,Xd4 w t=some (W,0)/\W.length<=16/\W.Nodup/\∀ s,s∈W↔Xle w.Size (Xcm w) t s:=by
 have hcw:=X3e hw;obtain⟨w1,w2,w3⟩:=hw;have ht':=ht;obtain⟨t1,t2⟩:=ht;unfold Xd4;rw[hcw,Yo];rcases w3 with ⟨k,a1,a2,a3⟩|⟨k|k,a⟩
 ·have e1:(w.Kind==1)=false:=by simp[k]
  have e2:(w.Kind==2)=true:=by simp[k]
  have e3:Xcm w=w.Every:=by unfold Xcm;rw[if_neg om]
  simp only[bne_self_eq_false,cond_false,e1,e2,cond_true];have hm:=Int.mul_ediv_add_emod t w.Every;have hm1:=Int.emod_nonneg t (show w.Every≠0 by omega);have hm2:=Int.emod_lt_of_pos t (show 0<w.Every by omega);have hc:t / w.Every*w.Every=w.Every*(t / w.Every):=Int.mul_comm _ _;have hall:Xbb t w.Size w.Every=some ((X9x t w.Size w.Every 16 (t / w.Every*w.Every)).reverse,0):=by
   unfold Xbb;have b1:decide ((if w.Every<w.Size then w.Every else w.Size)<1)=false:=by simp;split<;>omega
   have b2:decide (w.Size>1073741824)=false:=by simp;omega
   have b3:decide (w.Every>w.Size)=false:=by simp;omega
   have b4:decide (w.Size>IntKind.i64.wrap (16*w.Every))=false:=by rw[X0d om om];simp;omega
   simp only[b1,b2,b3,b4,cond_false,Xb9 ht' a1 om,Yo,bne_self_eq_false];have hL:=Xvs ht' a1 a2 w2 16 FU [] (t / w.Every*w.Every) om om om (by unfold FU;omega) (by simp);rw[hL,Yo];simp only[List.nil_append];have hlen:=Xlu t w.Size w.Every 16 (t / w.Every*w.Every);rw[X0d om om];have hR:=Xm9 (X9x t w.Size w.Every 16 (t / w.Every*w.Every)) om (X9x t w.Size w.Every 16 (t / w.Every*w.Every)).length FU [] (Nat.le_refl _) (by unfold FU;omega) (by simp;omega);rw[hR,Yo];simp
  rw[hall,Yo];refine⟨_,rfl,by rw[List.length_reverse];exact Xlu ..,Xsl (Xo3 t w.Size w.Every a1 _ _),λs=>?_⟩;rw[List.mem_reverse,e3,Xld a1,Xug t w.Size w.Every 16 _ om om]
 ·have e1:(w.Kind==1)=true:=by simp[k]
  have e3:Xcm w=w.Size:=by unfold Xcm;rw[if_pos k]
  simp only[bne_self_eq_false,cond_false,e1,cond_true,Xb9 ht' w1 w2,Yo];refine⟨_,rfl,by simp,by simp,λs=>?_⟩;rw[List.mem_singleton,e3,Xld w1];have hm:=Int.mul_ediv_add_emod t w.Size;have hm1:=Int.emod_nonneg t (show w.Size≠0 by omega);have hm2:=Int.emod_lt_of_pos t (show 0<w.Size by omega);have hc:t / w.Size*w.Size=w.Size*(t / w.Size):=Int.mul_comm _ _;constructor
  ·rintro rfl;exact⟨0,by simp,rfl,by show t<t / w.Size*w.Size+w.Size;omega⟩
  ·rintro⟨j,h1,h2,h3⟩;have hj:(j:Int)=0:=by
    rcases Xxp 0 (j:Int) with h|h
    ·exfalso;have:(1:Int)*w.Size<=j*w.Size:=Int.mul_le_mul_of_nonneg_right om om;omega
    ·omega
   rw[hj,Int.zero_mul] at h1;exact Xfn (by show s.Start=t / w.Size*w.Size;omega) (by show s.End=t / w.Size*w.Size+w.Size;omega)
 ·exact absurd k hk
end Go.D


namespace Go.D
def kOf (l:List Xu):Bool×Int×Int :=
 if Xac l≠0 then (false,0,Xac l)
 else match wrN l l 0 with
  |some j=>(false,(j:Int),42)
  |none=>(giv (X2c l ((l.length:Int) - 1)),(l.length:Int) - 1,0)
theorem Xbe {l:List Xu} (h:Xac l=0):l.length<=60/\1<=l.length/\∃ sd,Xif l []=some sd:=by
 unfold Xac at h;split at h
 ·cases h
 ·split at h
  ·cases h
  ·rename_i sd hr;have hn:=Xfo l [] sd hr;simp only[List.length_nil,Nat.zero_add] at hn;split at h
   ·cases h
   ·rename_i q hq;have:1<=sd.length:=by
     cases sd with
     |nil=>cases hq
     |cons=>simp
    exact⟨by omega,by omega,sd,hr⟩
theorem Xe6 {l:List Xu} (h:Xac l=0):∀ j x,l[j]?=some x->Xiq x j:=by
 obtain⟨_,_,sd,hr⟩:=Xbe h;intro j x hj;have:=Xsj l [] sd hr j x hj;simpa using this
theorem Xo8 (l:List Xu):∀ (xs:List Xu) (k j:Nat),wrN l xs k=some j->k<=j/\j<k+xs.length
 |[],k,j,h=>by cases h
 |x::xs,k,j,h=>by
  unfold wrN at h;split at h
  ·have:=Xo8 l xs (k+1) j h;simp only[List.length_cons];omega
  ·cases h;simp only[List.length_cons];omega
theorem Xgr {l:List Xu} (h0:∀ x∈l,0<=x.Kind):Xc4 l=some (kOf l):=by
 unfold Xc4 kOf;rw[X9c h0,Yo];by_cases hz:Xac l=0
 ·obtain⟨h60,h1,_⟩:=Xbe hz;rw[if_neg om,hz,show((0:Int) != 0)=false from rfl,cond_false];unfold Xc3;rw[X2n om,Yo];have ht:=Xrt om (Xe6 hz) l 0 rfl;rw[show gvs l 0=[] from by unfold gvs;simp] at ht;rw[ht]
  cases hw:wrN l l 0 with
  |some j =>
   have:=(Xo8 l l 0 j hw).2;simp only[Yo];rw[Yt (show(j:Int)<(l.length:Int) by omega)];rfl
  |none =>
   simp only[Yo];rw[Yf (show ¬ (l.length:Int)<(l.length:Int) by omega),cond_false,X0d om om,Xnu (Nat.le_refl _) om om];rfl
 ·rw[if_pos hz,show(Xac l != 0)=true by simp[hz]];rfl
theorem Xmb {l:List Xu}:Xd7 l=some (kOf l):=by
 unfold Xd7 kOf;rw[X9a,Yo];by_cases hz:Xac l=0
 ·obtain⟨h60,h1,_⟩:=Xbe hz;rw[if_neg om,hz,show((0:Int) != 0)=false from rfl,cond_false];unfold Xa4;rw[X2n om,Yo,Xo7 (Xe6 hz) l 0 rfl]
  cases hw:wrN l l 0 with
  |some j =>
   have:=(Xo8 l l 0 j hw).2;simp only[Yo];rw[Yt (show(j:Int)<(l.length:Int) by omega)];rfl
  |none =>
   simp only[Yo];obtain⟨e,he,hk⟩:=Xai (l:=l) (i:=(l.length:Int) - 1) om om;rw[Yf (show ¬ (l.length:Int)<(l.length:Int) by omega),cond_false,X0d om om,he,Yo,Xjz,hk];rfl
 ·rw[if_pos hz,show(Xac l != 0)=true by simp[hz]];rfl
def X1s (l:List Xu) (b:Bool):Int×Int :=
 if (kOf l).2.2=0/\(kOf l).1≠b then ((kOf l).2.1,42) else ((kOf l).2.1,(kOf l).2.2)
theorem Xdh {l:List Xu} {b:Bool} (h0:∀ x∈l,0<=x.Kind):X7v l b=some (X1s l b):=by
 unfold X7v X1s;rw[Xgr h0,Yo];by_cases hz:(kOf l).2.2=0
 ·rw[hz,show((0:Int)==0)=true from rfl,cond_true];cases hb:(kOf l).1<;>cases b<;>simp
 ·rw[show((kOf l).2.2==0)=false by simp[hz],cond_false,cond_false,if_neg (λh=>hz h.1)];rfl
theorem Xd6 {l:List Xu} {b:Bool}:X6y l b=some (X1s l b):=by
 unfold X6y X1s;rw[Xmb,Yo];by_cases hz:(kOf l).2.2=0
 ·rw[hz,show((0:Int)==0)=true from rfl,cond_true];cases hb:(kOf l).1<;>cases b<;>simp
 ·rw[show((kOf l).2.2==0)=false by simp[hz],cond_false,cond_false,if_neg (λh=>hz h.1)]
def Xoc (s:List Int) (j:Bool):Bool:=s.length==0||(j&&s.length != 2)||s.any λx=>decide (x<0)||decide (x>3)
def X64 (s:List Int) (j:Bool):Int :=
 if s.length>4 then 4 else if Xoc s j then 8 else if s.Nodup then 0 else 43
theorem Xkq (Y:List Int):∀ (xs:List Int) (k:Nat),∃ o,X0e Y xs k=some o/\((xs.any λx=>decide (x<0)||decide (x>3))=true->∃ j:Nat,o=.x1 (j:Int))/\((xs.any λx=>decide (x<0)||decide (x>3))=false->o=.x0)
 |[],k=>⟨.x0,rfl,by simp,λ_=>rfl⟩
 |x::xs,k=>by
  obtain⟨o,h1,h2,h3⟩:=Xkq Y xs (k+1);rw[X0e];unfold X4x;rw[Yo];by_cases hx:x<0\/x>3
  ·have:(bif decide (x<0) then true else decide (x >= 4))=true:=by
    rcases hx with h|h
    ·rw[Yt h];rfl
    ·rw[Yf om,Yt om];rfl
   rw[this];refine⟨_,rfl,λ_=>⟨k,rfl⟩,λh=>?_⟩;exfalso;simp only[List.any_cons,Bool.or_eq_false_iff,decide_eq_false_iff_not] at h;omega
  ·have:(bif decide (x<0) then true else decide (x >= 4))=false:=by
    rw[Yf om,Yf om];rfl
   rw[this];refine⟨o,h1,λh=>h2 ?_,λh=>h3 ?_⟩
   ·rw[List.any_cons,Yf om,Yf om] at h;exact h
   ·rw[List.any_cons,Yf om,Yf om] at h;exact h
theorem Xo1 {s:List Int} (hn:s.length<=1000):Xs s=some (s.any λx=>decide (x<0)||decide (x>3)):=by
 unfold Xs X0c;rw[X2n om,Yo];obtain⟨o,h1,h2,h3⟩:=Xkq s s 0;rw[h1]
 cases hb:(s.any λx=>decide (x<0)||decide (x>3)) with
 |true=>obtain⟨j,rfl⟩:=h2 hb;simp
 |false=>rw[h3 hb];rfl
end Go.D


namespace Go.D
theorem Xcn (x y:X9):X2j x y=decide (x=y):=by
 obtain⟨a,b,c⟩:=x;obtain⟨a',b',c'⟩:=y;simp only[X2j,Bool.and_true];rw[Bool.eq_iff_iff];simp
def X4k:Int := -9223372036854775808
def X000:Int:=9223372036854775807
def Xax (t:Int):Bool:=decide (-1099511627776<=t)&&decide (t<=1099511627776)
def Xkd (x:Xa):Bool:=bif x.Mark then decide (x.Record=⟨0,0,0⟩)&&(Xax x.Time||x.Time==X000) else x.Time==0&&Xax x.Record.Time
def chk (l:List Xa):Int:=if 60<l.length then 4 else bif l.all Xkd then 0 else 8
theorem Xct {n:Nat} (h:n<=140737488355328):X3t n=some ():=by unfold X3t;rw[if_pos h]
theorem Xha {n b:Nat} (h:n*b<=140737488355328):X1p n b=some ():=by unfold X1p;rw[if_pos h]
theorem Xu6 {l:List Xa} (h:chk l=0):l.length<=60:=by
 unfold chk at h;split at h
 ·cases h
 ·omega
def Xce (m:Int) (x:Xa):Int:=if x.Mark then (if x.Time>m then x.Time else m) else m
def Xbg (m:Int) (l:List Xa):Int:=l.foldl Xce m
def Xev (late:Bool):Int->List Xa->List X9
 |_,[]=>[]
 |m,x::l=>if !x.Mark&&(decide (x.Record.Time<m)==late) then x.Record::Xev late (Xce m x) l else Xev late (Xce m x) l
theorem Xoh (q:Bool):∀ (l:List Xa) (m:Int),(Xev q m l).length<=l.length:=by
 intro l
 induction l with
 |nil=>intro m;exact Nat.le_refl _
 |cons x l ih =>
  intro m;have:=ih (Xce m x);simp only[Xev];split<;>simp only[List.length_cons]<;>omega
def X55 (l:List Xa):List X9:=if chk l=0 then Xev false X4k l else []
def Xdg (l:List Xa):List X9:=if chk l=0 then Xev true X4k l else []
end Go.D


namespace Go.D
theorem Xtz:∀ (xs ks:List Int),(X7d ks xs).length<=ks.length+xs.length/\((X7d ks xs).length=ks.length+xs.length↔xs.Nodup/\∀ x∈xs,x ∉ ks):=by
 intro xs
 induction xs with
 |nil=>intro ks;simp[X7d]
 |cons x xs ih =>
  intro ks;rw[X7d];unfold Xh6;by_cases hm:x∈ks
  ·rw[if_pos hm];have:=ih ks;refine⟨by have:=this.1;simp only[List.length_cons];omega,⟨λh=>?_,λh=>?_⟩⟩
   ·have:=this.1;simp only[List.length_cons] at h;omega
   ·exact absurd hm (h.2 x List.mem_cons_self)
  ·rw[if_neg hm];have:=ih (ks++[x]);rw[List.length_append,List.length_singleton] at this;refine⟨by have:=this.1;simp only[List.length_cons];omega,?_⟩;rw[show ks.length+(x::xs).length=ks.length+1+xs.length by simp only[List.length_cons];omega,this.2];constructor
   ·rintro⟨h1,h2⟩;refine⟨List.nodup_cons.2 ⟨λhx=>h2 x hx (by simp),h1⟩,?_⟩;intro y hy;rcases List.mem_cons.1 hy with rfl|hy
    ·exact hm
    ·exact λhk=>h2 y hy (by simp[hk])
   ·rintro⟨h1,h2⟩;refine⟨(List.nodup_cons.1 h1).2,λy hy hk=>?_⟩;rcases List.mem_append.1 hk with hk|hk
    ·exact h2 y (List.mem_cons_of_mem _ hy) hk
    ·simp at hk;subst hk;exact(List.nodup_cons.1 h1).1 hy
theorem Xnz {s:List Int} (hn:s.length<=1000):∃ v,X28 s=some v/\decide (v<(s.length:Int))=!(decide s.Nodup):=by
 unfold X28;rw[X2n om];refine⟨_,rfl,?_⟩;have h:=Xtz s [];simp only[List.length_nil,Nat.zero_add,List.not_mem_nil,not_false_eq_true,implies_true,and_true] at h;by_cases hd:s.Nodup
 ·rw[Yt hd,h.2.2 hd];simp
 ·rw[Yf hd];have:(X7d [] s).length≠s.length:=λe=>hd (h.2.1 e);have:=h.1;simp;omega
theorem Xdr (s:List Int) (j:Bool):X1k s j=some (X64 s j):=by
 unfold X1k X64 Xoc;by_cases h4:s.length>4
 ·rw[if_pos h4,Yt (show(s.length:Int)>4 by omega)];rfl
 ·rw[if_neg h4,Yf (show ¬ (s.length:Int)>4 by omega),cond_false];obtain⟨v,hv,hd⟩:=Xnz (s:=s) om;rw[Xo1 om,hv];simp only[Yo];rw[hd];have e0:((s.length:Int)==0)=(s.length==0):=by rw[Bool.eq_iff_iff];simp
  have e2:((s.length:Int) != 2)=(s.length != 2):=by rw[Bool.eq_iff_iff];simp;omega
  rw[e0,e2];generalize (s.any λx=>decide (x<0)||decide (x>3))=b;generalize (s.length==0)=z;generalize (s.length != 2)=t;by_cases hn:s.Nodup<;>cases z<;>cases t<;>cases j<;>cases b<;>simp[hn]
theorem Xeu (Y:List Int):∀ (xs:List Int) (k:Nat),X26 Y xs k=some (bif (xs.any λx=>decide (x<0)||decide (x>3)) then .x1 else .x0)
 |[],k=>rfl
 |x::xs,k=>by
  rw[X26,Xeu Y xs (k+1),List.any_cons];cases decide (x<0)<;>cases decide (x>3)<;>rfl
theorem Xkt (s:List Int) (i:Nat) (hi:i<s.length) (hs:s.length<=1000):∀ (m n j:Nat),m=i - j->m<n->∃ o,X25 s (i:Int) n (j:Int)=some o/\(o=.x0↔∃ j',j<=j'/\j'<i/\s[j']?=s[i]?):=by
 intro m
 induction m with
 |zero =>
  intro n j hm hn
  cases n with
  |zero=>omega
  |succ n =>
   rw[X25,Yf (show ¬ (j:Int)<(i:Int) by omega)];exact⟨.x1,rfl,⟨λh=>(by cases h),λ⟨j',h1,h2,_⟩=>by omega⟩⟩
 |succ m ih =>
  intro n j hm hn
  cases n with
  |zero=>omega
  |succ n =>
   rw[X25,Yt (show(j:Int)<(i:Int) by omega),cond_true,show X0u s (j:Int)=some (s[j]' om) by rw[X4m];exact Ye _,show X0u s (i:Int)=some (s[i]'hi) by rw[X4m];exact Ye _];simp only[Yo];by_cases he:s[j]=s[i]
   ·refine⟨.x0,?_,⟨λ_=>⟨j,Nat.le_refl _,by omega,by rw[Ye (show j<s.length by omega),Ye hi,he]⟩,λ_=>rfl⟩⟩;rw[show(s[j]==s[i])=true by simp[he]];rfl
   ·rw[show(s[j]==s[i])=false by simp[he],cond_false,X0d om om];obtain⟨o,h1,h2⟩:=ih n (j+1) om om;refine⟨o,by rw[show(j:Int)+1=((j+1:Nat):Int) by omega];exact h1,h2.trans ⟨λ⟨j',a,b,c⟩=>⟨j',by omega,b,c⟩,λ⟨j',a,b,c⟩=>?_⟩⟩;by_cases hj:j'=j
    ·subst hj;rw[Ye (show j'<s.length by omega),Ye hi] at c;exact absurd (Option.some.inj c) he
    ·exact⟨j',by omega,b,c⟩
theorem Xet (s:List Int) (hs:s.length<=1000):∀ (xs:List Int) (k:Nat),s.drop k=xs->(s.take k).Nodup->X1o s xs k=some (if s.Nodup then .x0 else .x1)
 |[],k,h,hd=>by
  have:s.length<=k:=by
   have:=congrArg List.length h;simp at this;omega
  rw[List.take_of_length_le this] at hd;rw[X1o,if_pos hd]
 |x::xs,k,h,hd=>by
  have hk:s[k]?=some x:=by
   have:(s.drop k)[0]?=some x:=by rw[h];rfl
   simpa using this
  have hdr:s.drop (k+1)=xs:=by
   have:(s.drop k).drop 1=xs:=by rw[h];rfl
   rw[List.drop_drop] at this;exact this
  have hlt:=(Ys.1 hk).1;rw[X1o];obtain⟨o,h1,h2⟩:=Xkt s k hlt hs (k - 0) FU 0 rfl (by unfold FU;omega);rw[show((0:Nat):Int)=0 from rfl] at h1;rw[h1,Yo]
  cases o with
  |x0 =>
   obtain⟨j,_,hj,he⟩:=h2.1 rfl;have:¬ s.Nodup:=λhn=>by
    have:=(List.getElem?_inj (by omega:j<s.length) hn).1 he;omega
   rw[if_neg this]
  |x1 =>
   have hno:¬ ∃ j',0<=j'/\j'<k/\s[j']?=s[k]?:=λh=>by have:=h2.2 h;cases this
   refine Xet s hs xs (k+1) hdr ?_;rw[List.take_add_one,hk];simp only[Option.toList_some];rw[List.nodup_append];refine⟨hd,by simp,λa ha b hb=>?_⟩;simp at hb;subst hb;intro e;subst e;obtain⟨j,hj,e⟩:=List.getElem_of_mem ha;simp at hj;refine hno ⟨j,Nat.zero_le _,by omega,?_⟩;rw[hk,<-e,List.getElem_take,Ye]
theorem Xfa (s:List Int) (j:Bool):X68 s j=some (X64 s j):=by
 unfold X68 X64 Xoc;by_cases h4:s.length>4
 ·rw[if_pos h4,Yt (show(s.length:Int)>4 by omega)];rfl
 ·rw[if_neg h4,Yf (show ¬ (s.length:Int)>4 by omega),cond_false,X2n om,Xeu,Xet s om s 0 rfl (by simp)];have e0:((s.length:Int)==0)=(s.length==0):=by rw[Bool.eq_iff_iff];simp
  have e2:((s.length:Int) != 2)=(s.length != 2):=by rw[Bool.eq_iff_iff];simp;omega
  rw[e0,e2];generalize (s.any λx=>decide (x<0)||decide (x>3))=b;generalize (s.length==0)=z;generalize (s.length != 2)=t;by_cases hn:s.Nodup<;>cases z<;>cases t<;>cases j<;>cases b<;>simp[hn]
instance (w:X0g):Decidable (okW w):=by unfold okW;infer_instance
theorem Xxy (w:X0g) (hE:w.Every<=9223372036854775807 /\ -9223372036854775808<=w.Every):X6x w=some (decide (okW w))/\X0v w=some (if okW w then 0 else 8):=by
 by_cases hw:okW w
 ·refine⟨?_,by rw[if_pos hw];exact X3e hw⟩;rw[Yt hw];obtain⟨h1,h2,h3⟩:=hw;unfold X6x;rw[Yf (show ¬ w.Size<1 by omega),Yf (show ¬ w.Size>1073741824 by omega)];rcases h3 with ⟨k,a1,a2,a3⟩|⟨k|k,a⟩
  ·rw[show(w.Kind==2)=true by simp[k],Yt a1,Yt a2,X0d om om,Yt a3];rfl
  ·rw[show(w.Kind==2)=false by simp[k],show(w.Kind==1)=true by simp[k],show(w.Every==0)=true by simp[a]];rfl
  ·rw[show(w.Kind==2)=false by simp[k],show(w.Kind==3)=true by simp[k],show(w.Every==0)=true by simp[a],show(w.Kind==1)=false by simp[k]];rfl
 ·rw[if_neg hw,Yf hw];by_cases hs:w.Size<1\/w.Size>1073741824
  ·have:(bif decide (w.Size<1) then true else decide (w.Size>1073741824))=true:=by
    rcases hs with h|h
    ·rw[Yt h];rfl
    ·rw[Yf om,Yt h];rfl
   constructor
   ·unfold X6x;rw[this];rfl
   ·unfold X0v;rw[this];rfl
  ·have:(bif decide (w.Size<1) then true else decide (w.Size>1073741824))=false:=by
    rw[Yf om,Yf om];rfl
   unfold X6x X0v;rw[this,cond_false,cond_false];by_cases k2:w.Kind=2
   ·rw[show(w.Kind==2)=true by simp[k2],cond_true,cond_true];have:(bif (bif decide (w.Every >= 1) then decide (w.Every<=w.Size) else false) then decide (w.Size<=IntKind.i64.wrap (16*w.Every)) else false)=false:=by
     by_cases g1:w.Every >= 1
     ·by_cases g2:w.Every<=w.Size
      ·rw[Yt g1,Yt g2,X0d om om,Yf];rfl;intro g3;exact hw ⟨by omega,by omega,.inl ⟨k2,g1,g2,g3⟩⟩
      ·rw[Yt g1,Yf g2];rfl
     ·rw[Yf g1];rfl
    rw[this];exact⟨rfl,rfl⟩
   ·rw[show(w.Kind==2)=false by simp[k2],cond_false,cond_false];by_cases k1:w.Kind=1
    ·have:w.Every≠0:=λh=>hw ⟨by omega,by omega,.inr ⟨.inl k1,h⟩⟩;rw[show(w.Kind==1)=true by simp[k1],show(w.Every==0)=false by simp[this]];exact⟨rfl,rfl⟩
    ·by_cases k3:w.Kind=3
     ·have:w.Every≠0:=λh=>hw ⟨by omega,by omega,.inr ⟨.inr k3,h⟩⟩;rw[show(w.Kind==1)=false by simp[k1],show(w.Kind==3)=true by simp[k3],show(w.Every==0)=false by simp[this]];exact⟨rfl,rfl⟩
     ·rw[show(w.Kind==1)=false by simp[k1],show(w.Kind==3)=false by simp[k3]];exact⟨rfl,rfl⟩
end Go.D


namespace Go.D
def Xrk (q:Xt):Int :=
 if q.Agg<1\/q.Agg>4\/(q.Late≠1/\q.Late≠2) then 8
 else if q.Agg=1/\0<q.Arg.length then 8
 else if q.Agg≠1/\Xac q.Arg≠0 then Xac q.Arg
 else if 0<q.Where.length/\Xac q.Where≠0 then Xac q.Where
 else if X64 q.Sources q.Join≠0 then X64 q.Sources q.Join
 else if q.Join=true/\q.Window.Kind≠1 then 8
 else if okW q.Window then 0 else 8
structure QW (q:Xt):Prop where
 arg:∀ x∈q.Arg,0<=x.Kind
 wher:∀ x∈q.Where,0<=x.Kind
 ev:q.Window.Every<=9223372036854775807 /\ -9223372036854775808<=q.Window.Every
theorem Xfj {a b:Int} (h:¬ a=b):(a != b)=true:=by simp[h]
theorem lz {n:Nat} (h:0<n):((n:Int)==0)=false:=by simp;omega
theorem lz' {n:Nat} (h:¬ 0<n):((n:Int)==0)=true:=by simp;omega
theorem Xyb {q:Xt} (hq:QW q):((X1k q.Sources q.Join).bind λv10=>bif (v10 != (0:Int)) then (some v10) else (bif (bif q.Join then (q.Window.Kind != (1:Int)) else false) then (some 8) else ((X0v q.Window).bind λv14=>some v14)))=some (if X64 q.Sources q.Join≠0 then X64 q.Sources q.Join
 else if q.Join=true/\q.Window.Kind≠1 then 8
 else if okW q.Window then 0 else 8):=by
 rw[Xdr,Yo,(Xxy q.Window hq.ev).2];by_cases h:X64 q.Sources q.Join=0
 ·rw[h];by_cases hj:q.Join=true
  ·by_cases hk:q.Window.Kind=1
   ·simp[hj,hk]
   ·simp[hj,hk,Xfj hk]
  ·simp[hj]
 ·simp[h,Xfj h]
theorem Xfi {q:Xt} (hq:QW q):X6g q=some (Xrk q):=by
 unfold X6g Xrk;rw[Xyb hq,X9c hq.arg,X9c hq.wher];generalize (if X64 q.Sources q.Join≠0 then X64 q.Sources q.Join else if q.Join=true/\q.Window.Kind≠1 then 8 else if okW q.Window then 0 else 8)=T;have e1:(bif (bif (decide (q.Agg<(1:Int))) then true else (decide (q.Agg>(4:Int)))) then true else (bif (q.Late != (1:Int)) then (q.Late != (2:Int)) else false))=decide (q.Agg<1\/q.Agg>4\/(q.Late≠1/\q.Late≠2)):=by
  rw[Bool.eq_iff_iff];by_cases h1:q.Agg<1<;>by_cases h2:q.Agg>4<;>by_cases h3:q.Late=1<;>by_cases h4:q.Late=2<;>simp[h1,h2,h3,h4]
 rw[e1];by_cases hA:(q.Agg<1\/q.Agg>4\/(q.Late≠1/\q.Late≠2))
 ·rw[if_pos hA,Yt hA];rfl
 ·rw[if_neg hA,Yf hA,cond_false];by_cases h1:q.Agg=1
  ·rw[show(q.Agg != 1)=false by simp[h1],cond_false];by_cases hl:0<q.Arg.length
   ·rw[Yt (show(q.Arg.length:Int)>0 by omega),if_pos ⟨h1,hl⟩];rfl
   ·rw[Yf (show ¬ (q.Arg.length:Int)>0 by omega),if_neg (λh=>hl h.2),if_neg (λh=>h.1 h1),cond_false];by_cases hw:0<q.Where.length
    ·rw[Yt (show(q.Where.length:Int)>0 by omega),cond_true,Yo];by_cases hz:Xac q.Where=0
     ·rw[hz];simp
     ·rw[if_pos ⟨hw,hz⟩,show(Xac q.Where != 0)=true by simp[hz]];rfl
    ·rw[Yf (show ¬ (q.Where.length:Int)>0 by omega),if_neg (λh=>hw h.1)];rfl
  ·rw[show(q.Agg != 1)=true by simp[h1],cond_true,if_neg (λh=>h1 h.1),Yo];by_cases hn:Xac q.Arg=0
   ·rw[hn,if_neg (λh=>h.2 rfl),show((0:Int) != 0)=false from rfl,cond_false];by_cases hw:0<q.Where.length
    ·rw[Yt (show(q.Where.length:Int)>0 by omega),cond_true,Yo];by_cases hz:Xac q.Where=0
     ·rw[hz];simp
     ·rw[if_pos ⟨hw,hz⟩,show(Xac q.Where != 0)=true by simp[hz]];rfl
    ·rw[Yf (show ¬ (q.Where.length:Int)>0 by omega),if_neg (λh=>hw h.1)];rfl
   ·rw[if_pos ⟨h1,hn⟩,show(Xac q.Arg != 0)=true by simp[hn]];rfl
theorem Xhs {q:Xt} (hq:QW q):X8b q=some (Xrk q):=by
 unfold X8b Xrk;rw[X9a,X9a,Xfa,(Xxy q.Window hq.ev).1];have e1:(bif (bif (bif (decide (q.Agg<(1:Int))) then true else (decide (q.Agg>(4:Int)))) then true else (decide (q.Late<(1:Int)))) then true else (decide (q.Late>(2:Int))))=decide (q.Agg<1\/q.Agg>4\/(q.Late≠1/\q.Late≠2)):=by
  rw[Bool.eq_iff_iff];have g:(q.Late≠1/\q.Late≠2)↔(q.Late<1\/q.Late>2):=by omega
  rw[show decide (q.Agg<1\/q.Agg>4\/(q.Late≠1/\q.Late≠2))=decide (q.Agg<1\/q.Agg>4\/(q.Late<1\/q.Late>2)) from decide_eq_decide.2 (by rw[g])];by_cases h1:q.Agg<1<;>by_cases h2:q.Agg>4<;>by_cases h3:q.Late<1<;>by_cases h4:q.Late>2<;>simp[h1,h2,h3,h4]
 rw[e1]
 have tl:((some (X64 q.Sources q.Join)).bind λv29=>bif (v29 != (0:Int)) then (some v29) else ((some (decide (okW q.Window))).bind λv32=>bif (bif (!v32) then true else (bif q.Join then (q.Window.Kind != (1:Int)) else false)) then (some 8) else (some 0)))=some (if X64 q.Sources q.Join≠0 then X64 q.Sources q.Join
 else if q.Join=true/\q.Window.Kind≠1 then 8
 else if okW q.Window then 0 else 8):=by
  simp only[Yo];by_cases h:X64 q.Sources q.Join=0
  ·rw[h];by_cases hk:q.Window.Kind=1
   ·by_cases hj:q.Join=true<;>by_cases ho:okW q.Window<;>simp[hj,hk,ho]
   ·by_cases hj:q.Join=true<;>by_cases ho:okW q.Window<;>simp[hj,hk,ho,Xfj hk]
  ·simp[h,Xfj h]
 rw[tl];generalize (if X64 q.Sources q.Join≠0 then X64 q.Sources q.Join else if q.Join=true/\q.Window.Kind≠1 then 8 else if okW q.Window then 0 else 8)=T;by_cases hA:(q.Agg<1\/q.Agg>4\/(q.Late≠1/\q.Late≠2))
 ·rw[if_pos hA,Yt hA];rfl
 ·rw[if_neg hA,Yf hA,cond_false];have wh:((bif (decide ((List.length q.Where:Int)>(0:Int))) then ((some (Xac q.Where)).bind λv23=>some (bif (decide ((List.length q.Where:Int)>(0:Int))) then (v23 != (0:Int)) else false)) else (some (bif (decide ((List.length q.Where:Int)>(0:Int))) then false else false)):Option (Bool)).bind λXl9=>bif Xl9 then ((some (Xac q.Where)).bind λv27=>some v27) else some T)=some (if 0<q.Where.length/\Xac q.Where≠0 then Xac q.Where else T):=by
   by_cases hw:0<q.Where.length
   ·rw[Yt (show(q.Where.length:Int)>0 by omega)];by_cases hz:Xac q.Where=0
    ·rw[hz];simp
    ·rw[if_pos ⟨hw,hz⟩];simp[hz,Xfj hz]
   ·rw[Yf (show ¬ (q.Where.length:Int)>0 by omega),if_neg (λh=>hw h.1)];rfl
  rw[wh];generalize (if 0<q.Where.length/\Xac q.Where≠0 then Xac q.Where else T)=T2;by_cases h1:q.Agg=1
  ·rw[show(q.Agg==1)=true by simp[h1],show(q.Agg != 1)=false by simp[h1]];by_cases hl:0<q.Arg.length
   ·rw[Yt (show(q.Arg.length:Int)>0 by omega),if_pos ⟨h1,hl⟩];rfl
   ·rw[Yf (show ¬ (q.Arg.length:Int)>0 by omega),if_neg (λh=>hl h.2),if_neg (λh=>h.1 h1)];rfl
  ·rw[show(q.Agg==1)=false by simp[h1],show(q.Agg != 1)=true by simp[h1],if_neg (λh=>h1 h.1)];by_cases hn:Xac q.Arg=0
   ·rw[hn,if_neg (λh=>h.2 rfl)];rfl
   ·rw[if_pos ⟨h1,hn⟩];simp[hn,Xfj hn]
def atOf (l:List Xu) (i:Int):Int:=match X0u l i with|some e=>e.At|none=>0
theorem Xj9 {l:List Xu} {b:Bool} (h:0<l.length):∃ e,X0u l (X1s l b).1=some e/\atOf l (X1s l b).1=e.At:=by
 have hr:0<=(X1s l b).1/\(X1s l b).1<l.length:=by
  have:(X1s l b).1=(kOf l).2.1:=by unfold X1s;split<;>rfl
  rw[this];unfold kOf;split
  ·simp only;omega
  ·split
   ·rename_i j hj;have:=Xo8 l l 0 j hj;simp only;omega
   ·simp only;omega
 obtain⟨e,he,_⟩:=Xbj hr.1 hr.2;exact⟨e,he,by unfold atOf;rw[he]⟩
def rt (q:Xt):Int×Int :=
 if 0<q.Arg.length/\(X1s q.Arg false).2≠0 then (atOf q.Arg (X1s q.Arg false).1,(X1s q.Arg false).2)
 else if 0<q.Where.length/\(X1s q.Where true).2≠0 then (atOf q.Where (X1s q.Where true).1,(X1s q.Where true).2)
 else (0,0)
theorem Xo9 (q:Xt) (hw:0<q.Where.length):(bif ((X1s q.Where true).2 != (0:Int)) then ((X0u q.Where (X1s q.Where true).1).bind λe28=>some (e28.At,(X1s q.Where true).2)) else (some (0,0)))=some (if 0<q.Where.length/\(X1s q.Where true).2≠0 then (atOf q.Where (X1s q.Where true).1,(X1s q.Where true).2) else (0,0)):=by
 obtain⟨e,he,ha⟩:=Xj9 (b:=true) hw;by_cases hz:(X1s q.Where true).2=0
 ·rw[if_neg (λh=>h.2 hz),show((X1s q.Where true).2 != 0)=false by simp[hz]];rfl
 ·rw[if_pos ⟨hw,hz⟩,show((X1s q.Where true).2 != 0)=true by simp[hz],he,ha];rfl
theorem Xhp (q:Xt):X88 q=some (rt q):=by
 unfold X88 rt;rw[Xd6,Xd6];simp only[Yo];have wh:(bif (decide ((List.length q.Where:Int)>(0:Int))) then (bif ((X1s q.Where true).2 != (0:Int)) then ((X0u q.Where (X1s q.Where true).1).bind λe28=>some (e28.At,(X1s q.Where true).2)) else (some (0,0))) else (some (0,0)))=some (if 0<q.Where.length/\(X1s q.Where true).2≠0 then (atOf q.Where (X1s q.Where true).1,(X1s q.Where true).2) else (0,0)):=by
  by_cases hw:0<q.Where.length
  ·rw[Yt (show(q.Where.length:Int)>0 by omega),cond_true,Xo9 q hw]
  ·rw[Yf (show ¬ (q.Where.length:Int)>0 by omega),if_neg (λh=>hw h.1)];rfl
 rw[wh];by_cases ha:0<q.Arg.length
 ·rw[Yt (show(q.Arg.length:Int)>0 by omega),cond_true];obtain⟨e,he,hat⟩:=Xj9 (b:=false) ha;by_cases hz:(X1s q.Arg false).2=0
  ·rw[if_neg (show ¬ (0<q.Arg.length/\(X1s q.Arg false).2≠0) from λh=>h.2 hz),show((X1s q.Arg false).2 != 0)=false by simp[hz],cond_false]
  ·rw[if_pos (show(0<q.Arg.length/\(X1s q.Arg false).2≠0) from⟨ha,hz⟩),show((X1s q.Arg false).2 != 0)=true by simp[hz],he,hat];rfl
 ·rw[Yf (show ¬ (q.Arg.length:Int)>0 by omega),if_neg (show ¬ (0<q.Arg.length/\(X1s q.Arg false).2≠0) from λh=>ha h.1),cond_false]
def Xvz (q:Xt):Int×Int:=if Xrk q≠0 then (0,Xrk q) else rt q
theorem Xhq {q:Xt} (hq:QW q):X89 q=some (Xvz q):=by
 unfold X89 Xvz;rw[Xhs hq,Xhp,Yo];by_cases h:Xrk q=0
 ·rw[if_neg om,h];rfl
 ·rw[if_pos h,show(Xrk q != 0)=true by simp[h]];rfl
theorem Xh8 {q:Xt} (hq:QW q):X7e q=some (Xvz q):=by
 unfold X7e Xvz;rw[Xfi hq,Yo];by_cases h:Xrk q=0
 ·rw[if_neg om,h,show((0:Int) != 0)=false from rfl,cond_false];unfold X8k X8x;rw[Xdh hq.arg,Xdh hq.wher];simp only[Yo];unfold rt;have wh:(bif ((List.length q.Where:Int)==(0:Int)) then (some (0,0)) else (bif ((X1s q.Where true).2 != (0:Int)) then ((X0u q.Where (X1s q.Where true).1).bind λe28=>some (e28.At,(X1s q.Where true).2)) else (some (0,0))))=some (if 0<q.Where.length/\(X1s q.Where true).2≠0 then (atOf q.Where (X1s q.Where true).1,(X1s q.Where true).2) else (0,0)):=by
   by_cases hw:0<q.Where.length
   ·rw[lz hw,cond_false,Xo9 q hw]
   ·rw[lz' hw,if_neg (λh=>hw h.1)];rfl
  rw[wh];by_cases ha:0<q.Arg.length
  ·rw[lz ha,cond_false];obtain⟨e,he,hat⟩:=Xj9 (b:=false) ha;by_cases hz:(X1s q.Arg false).2=0
   ·rw[if_neg (show ¬ (0<q.Arg.length/\(X1s q.Arg false).2≠0) from λh=>h.2 hz),show((X1s q.Arg false).2 != 0)=false by simp[hz],cond_false];rfl
   ·rw[if_pos (show(0<q.Arg.length/\(X1s q.Arg false).2≠0) from⟨ha,hz⟩),show((X1s q.Arg false).2 != 0)=true by simp[hz],he,hat];rfl
  ·rw[lz' ha,if_neg (show ¬ (0<q.Arg.length/\(X1s q.Arg false).2≠0) from λh=>ha h.1)];rfl
 ·rw[if_pos h,show(Xrk q != 0)=true by simp[h]];rfl
end Go.D


namespace Go.D
theorem Xl6 (t:Int):X9s t=some (Xax t):=by
 unfold X9s Xax;simp only[ge_iff_le];cases decide (-1099511627776<=t)<;>rfl
theorem Xff (l:List Xa):∀ (xs:List Xa) (k:Nat),X3n l xs k=some (bif xs.all Xkd then .x0 else .x1):=by
 intro xs
 induction xs with
 |nil=>intro k;rfl
 |cons x xs ih =>
  intro k;rw[X3n,ih];simp only[Xl6,Xcn,List.all_cons,Xkd,X000];generalize decide (x.Record=⟨0,0,0⟩)=b1;generalize Xax x.Time=b2;generalize Xax x.Record.Time=b3;generalize (x.Time==9223372036854775807)=b4;generalize (x.Time==0)=b5;generalize x.Mark=b6;cases b1<;>cases b2<;>cases b3<;>cases b4<;>cases b5<;>cases b6<;>rfl
theorem Xdf (l:List Xa):X70 l=some (chk l):=by
 unfold X70 chk;by_cases h:60<l.length
 ·rw[if_pos h,show decide ((l.length:Int)>60)=true from Yt om];rfl
 ·rw[if_neg h,show decide ((l.length:Int)>60)=false from Yf om,Xct om];simp only[cond_false,Yo,Xff];cases l.all Xkd<;>rfl
theorem Xfd (l:List Xa):∀ (xs:List Xa) (k:Nat) (a b:List X9) (m:Int),a.length+xs.length<=1000000->b.length+xs.length<=1000000 ->
  X2t l xs k a b m=some (.x0 (a++Xev false m xs) (b++Xev true m xs)):=by
 intro xs
 induction xs with
 |nil=>intro k a b m _ _;simp[X2t,Xev]
 |cons x xs ih =>
  intro k a b m ha hb;simp only[List.length_cons] at ha hb;rw[X2t]
  cases hx:x.Mark with
  |true=>simp[ih _ a b _ om om,Xev,Xce,hx]
  |false =>
   by_cases ht:x.Record.Time<m
   ·simp[ht,Xha (show(b.length+1)*24<=140737488355328 by omega),ih _ a (b++[x.Record]) _ om (by simp;omega),Xev,Xce,hx]
   ·simp[ht,Xha (show(a.length+1)*24<=140737488355328 by omega),ih _ (a++[x.Record]) b _ (by simp;omega) om,Xev,Xce,hx]
theorem Xj7 (l:List Xa):X9t l=some (X55 l,Xdg l,chk l):=by
 unfold X9t X55 Xdg;rw[Xdf];by_cases h:chk l=0
 ·have:=Xu6 h;simp[h,Xct (show l.length<=140737488355328 by omega),Xfd l l 0 [] [] _ (by simp;omega) (by simp;omega),X4k]
 ·have h':(chk l != 0)=true:=by simp[h]
  simp[h,h']
end Go.D


namespace Go.D
theorem Xho (t:Int):X3k t 1=some (bif Xax t then 0 else 16):=by
 unfold X3k Xax;by_cases h1 : -1099511627776<=t
 ·rw[show decide (t < -1099511627776)=false from Yf om,Yt h1];by_cases h2:t<=1099511627776
  ·rw[show decide (t>1099511627776)=false from Yf om,Yt h2];rfl
  ·rw[show decide (t>1099511627776)=true from Yt om,Yf h2];rfl
 ·rw[show decide (t < -1099511627776)=true from Yt om,Yf h1];rfl
theorem Xhl (x:Xa):X35 x=some (Xkd x):=by
 unfold X35 Xkd X000;simp only[Xho,Xcn];generalize decide (x.Record=⟨0,0,0⟩)=b1;generalize Xax x.Time=b2;generalize Xax x.Record.Time=b3;generalize (x.Time==9223372036854775807)=b4;generalize (x.Time==0)=b5;generalize x.Mark=b6;cases b1<;>cases b2<;>cases b3<;>cases b4<;>cases b5<;>cases b6<;>rfl
theorem Xe1 (l:List Xa):∀ (xs:List Xa) (k:Nat),X36 l xs k=some (bif xs.all Xkd then .x0 else .x1):=by
 intro xs
 induction xs with
 |nil=>intro k;rfl
 |cons x xs ih =>
  intro k;rw[X36,ih];simp only[Xhl,List.all_cons,Yo];cases Xkd x<;>rfl
theorem Xhn (l:List Xa):X87 l=some (chk l):=by
 unfold X87 chk;by_cases h:60<l.length
 ·rw[if_pos h,show decide ((l.length:Int)>60)=true from Yt om];rfl
 ·rw[if_neg h,show decide ((l.length:Int)>60)=false from Yf om,Xct om];simp only[cond_false,Yo,Xe1];cases l.all Xkd<;>rfl
theorem X01x {l:List Xa}:chk l=0↔l.length<=60/\∀ x∈l,Xkd x=true:=by
 unfold chk;constructor
 ·intro h;split at h
  ·cases h
  ·refine⟨by omega,?_⟩
   cases ha:l.all Xkd with
   |true=>exact List.all_eq_true.1 ha
   |false=>rw[ha] at h;cases h
 ·rintro⟨h1,h2⟩;rw[if_neg om,List.all_eq_true.2 h2];rfl
theorem X03k (a:Int):0<=bits .and .i64 a 63:=by
 unfold bits;simp only;have h:((BitVec.ofInt IntKind.i64.bits a) &&& (BitVec.ofInt IntKind.i64.bits 63)).toNat<=63:=by
  rw[BitVec.toNat_and];exact Nat.le_trans Nat.and_le_right (by decide)
 rw[X0d om om];omega
theorem Xvr (b:Bool):X2p b=some (if b then 1 else 0):=by cases b<;>rfl
theorem Xim {K a b:Int} (h1:5<=K) (h2:K<=19):∃ v,Xec K a b=some (v,0):=by
 have hs:shOk (bits .and .i64 b 63)=some ():=by unfold shOk;rw[if_pos (X03k b)]
 unfold Xec;simp only[Xvr,hs,Yo];rcases(by omega:K=5\/K=6\/K=7\/K=8\/K=9\/K=10\/K=11\/K=12\/K=13\/K=14\/K=15\/K=16\/K=17\/K=18\/K=19) with h|h|h|h|h|h|h|h|h|h|h|h|h|h|h<;>subst h<;>exact⟨_,rfl⟩
theorem Xoz {l:List Xu} (env:V5 Int) (ho:∀ j x,l[j]?=some x->Xiq x j):∀ (xs:List Xu) (k:Nat) (vs:List Int),l.drop k=xs->vs.length=l.length->∃ vs',X1h env l xs k vs=some (.x0 vs')/\vs'.length=l.length
 |[],k,vs,_,hv=>⟨vs,rfl,hv⟩
 |x::xs,k,vs,h,hv=>by
  have hk:l[k]?=some x:=by
   have:(l.drop k)[0]?=some x:=by rw[h];rfl
   simpa using this
  have hd:l.drop (k+1)=xs:=by
   have:(l.drop k).drop 1=xs:=by rw[h];rfl
   rw[List.drop_drop] at this;exact this
  have hlt:=(Ys.1 hk).1;have hx:=ho k x hk;have hg:X0u vs (k:Int)=some (vs[k]' om):=by rw[X4m];exact Ye _
  have go:∀ z,∃ vs',X1h env l xs (k+1) (vs.set (Int.toNat (k:Int)) z)=some (.x0 vs')/\vs'.length=l.length:=λz=>Xoz env ho xs (k+1) _ hd (by rw[List.length_set];exact hv);rw[X1h];have h1:=hx.lo;have h2:=hx.hi;by_cases k1:x.Kind=1
  ·rw[show(x.Kind==1)=true by simp[k1],cond_true,hg,Yo];exact go _
  ·rw[show(x.Kind==1)=false by simp[k1],cond_false];by_cases k4:x.Kind<=4
   ·rw[Yt k4,cond_true,show(x.Kind==0)=false by simp;omega,hg];simp only[Yo,cond_false];rcases(by omega:x.Kind=2\/x.Kind=3\/x.Kind=4) with h|h|h
    ·rw[h];exact go _
    ·rw[h];exact go _
    ·rw[h];exact go _
   ·rw[Yf k4,cond_false];have hA:=hx.ak om;have hB:=hx.bk om;obtain⟨a,ha,_⟩:=Xbj (l:=vs) hx.a0 om;obtain⟨b,hb,_⟩:=Xbj (l:=vs) hx.b0 om;obtain⟨v,hdo⟩:=Xim (K:=x.Kind) (a:=a) (b:=b) om h2;rw[ha,Yo,hb,Yo,hdo,hg];exact go _
def evV (l:List Xu) (r:X9):Int:=match X5g l r with|some v=>v.1|none=>0
theorem Xcx {l:List Xu} (h0:∀ x∈l,0<=x.Kind) (h:(kOf l).2.2=0) (r:X9):X5g l r=some (evV l r,0):=by
 have hz:Xac l=0:=by
  by_cases hz:Xac l=0
  ·exact hz
  ·unfold kOf at h;rw[if_pos hz] at h;exact h
 obtain⟨h60,h1,_⟩:=Xbe hz;have:∃ v,X5g l r=some (v,0):=by
  unfold X5g Xdo Xap;rw[Xgr h0,Yo,Yo,h];have hm:mkOk (l.length:Int) (l.length:Int) 8=some ():=by unfold mkOk;rw[if_pos ⟨by omega,rfl,by omega⟩]
  rw[hm,X2n om];obtain⟨vs,hvs,hl⟩:=Xoz (V5.mk 0 0 r.Key r.Time r.Value) (Xe6 hz) l 0 (List.replicate (Int.toNat (l.length:Int)) 0) rfl (by simp);simp only[Yo];rw[show((l.length:Int)==0)=false from lz h1,hvs];simp only[bne_self_eq_false,cond_false,Yo];rw[hl,X0d om om];obtain⟨v,hv,_⟩:=Xbj (l:=vs) (i:=(l.length:Int) - 1) om om;exact⟨v,by rw[hv];rfl⟩
 obtain⟨v,hv⟩:=this;unfold evV;rw[hv]
theorem Xoo {l:List Xu} {b:Bool} (h:(X1s l b).2=0):(kOf l).2.2=0:=by
 unfold X1s at h;split at h
 ·cases h
 ·exact h
def Xau:List (List Xa)->Int
 |[]=>0
 |x::xs=>if chk x≠0 then chk x else Xau xs
theorem Xdb (Y:List (List Xa)):∀ (xs:List (List Xa)) (k:Nat),∃ o,X1r Y xs k=some o/\(match o with|.x0=>(0:Int)|.x1 z=>z)=Xau xs
 |[],k=>⟨_,rfl,rfl⟩
 |x::xs,k=>by
  rw[X1r,Xdf,Yo,Xau];by_cases h:chk x=0
  ·rw[if_neg om,h];exact Xdb Y xs (k+1)
  ·rw[if_pos h,Xfj h];exact⟨_,rfl,rfl⟩
theorem Xe7 {l:List (List Xa)} (hn:l.length<=1000):X3z l=some (Xau l):=by
 unfold X3z;rw[X2n om,Yo];obtain⟨o,h1,h2⟩:=Xdb l l 0;rw[h1,<-h2];cases o<;>rfl
theorem Xid (Y:List (List Xa)):∀ (xs:List (List Xa)) (k:Nat),∃ o,X33 Y xs k=some o/\(match o with|.x0=>(0:Int)|.x1 z=>z)=Xau xs
 |[],k=>⟨_,rfl,rfl⟩
 |x::xs,k=>by
  rw[X33,Xhn,Yo,Xau];by_cases h:chk x=0
  ·rw[if_neg om,h];exact Xid Y xs (k+1)
  ·rw[if_pos h,Xfj h];exact⟨_,rfl,rfl⟩
theorem Xhj {l:List (List Xa)} (hn:l.length<=1000):X85 l=some (Xau l):=by
 unfold X85;rw[X2n om,Yo];obtain⟨o,h1,h2⟩:=Xid l l 0;rw[h1,<-h2];cases o<;>rfl
theorem Xg3 {l:List (List Xa)}:Xau l=0↔∀ x∈l,chk x=0:=by
 induction l with
 |nil=>simp[Xau]
 |cons x xs ih =>
  rw[Xau];by_cases h:chk x=0
  ·rw[if_neg om,ih];simp[h]
  ·rw[if_pos h];simp[h]
end Go.D


namespace Go.D
def X6l (p:Pu) (s:X0k):X5:=⟨p.1.Key,s,⟨if p.2=0 then ofA p.1.Value else Xb1,if p.2=1 then ofA p.1.Value else Xb1⟩⟩
theorem X4f (L:List Pu) (p:Pu) (k:Int) (s:X0k) (side:Int):vals (L++[p]) k s side=vals L k s side++(if p.1.Key=k/\inS s p.1.Time/\p.2=side then [p.1.Value] else []):=by
 unfold vals;rw[List.filter_append,List.map_append];congr 1
 by_cases h:p.1.Key=k/\inS s p.1.Time/\p.2=side
 ·rw[if_pos h,List.filter_cons_of_pos (by simpa using h)];rfl
 ·rw[if_neg h,List.filter_cons_of_neg (by simpa using h)];rfl
theorem X7o (L:List Pu) (p:Pu) (k t:Int):X80 (L++[p]) k t↔X80 L k t\/(p.1.Key=k/\p.1.Time=t):=by
 unfold X80;constructor
 ·rintro⟨q,hq,h⟩;rcases List.mem_append.1 hq with h1|h1
  ·exact .inl ⟨q,h1,h⟩
  ·rw[List.mem_singleton.1 h1] at h;exact .inr h
 ·rintro(⟨q,hq,h⟩|h)
  ·exact⟨q,List.mem_append_left _ hq,h⟩
  ·exact⟨p,by simp,h⟩
structure Xrl (w:X0g) (L:List Pu):Prop where
 time:∀ p∈L,okT p.1.Time
 side:∀ p∈L,p.2=0\/p.2=1
 len:L.length<=240
theorem Xrl.init {w:X0g} {L:List Pu} {p:Pu} (h:Xrl w (L++[p])):Xrl w L:=⟨λq hq=>h.time q (List.mem_append_left _ hq),λq hq=>h.side q (List.mem_append_left _ hq),by have:=h.len;simp at this;omega⟩
theorem Xkl {L:List Pu} {k:Int} {s:X0k} (h:∀ t,X80 L k t->¬ inS s t) (side:Int):vals L k s side=[]:=by
 unfold vals;rw[List.map_eq_nil_iff,List.filter_eq_nil_iff];intro p hp hc;simp only[decide_eq_true_eq] at hc;exact h p.1.Time ⟨p,hp,hc.1,rfl⟩ hc.2.1
theorem Xrr {L:List Pu} {k t:Int} {s:X0k} (hs:∀ p∈L,p.2=0\/p.2=1) (h:X80 L k t) (hi:inS s t):0<(vals L k s 0).length+(vals L k s 1).length:=by
 obtain⟨p,hp,hk,ht⟩:=h;rcases hs p hp with h0|h0
 ·have:p.1.Value∈vals L k s 0:=List.mem_map.2 ⟨p,List.mem_filter.2 ⟨hp,by simp[hk,h0,ht,hi]⟩,rfl⟩;have:=List.length_pos_of_mem this;omega
 ·have:p.1.Value∈vals L k s 1:=List.mem_map.2 ⟨p,List.mem_filter.2 ⟨hp,by simp[hk,h0,ht,hi]⟩,rfl⟩;have:=List.length_pos_of_mem this;omega
structure Mid (w:X0g) (L:List Pu) (p:Pu) (done:X0k->Prop) (es:List X5):Prop where
 sorted:es.Pairwise ltE
 mem:∀ e,e∈es↔(e.Key=p.1.Key/\done e.Span/\e.Values=Xdp (L++[p]) e.Key e.Span)\/(¬ (e.Key=p.1.Key/\done e.Span)/\Xr5 w L e)
theorem Xtw {L:List Pu} {p:Pu} {s:X0k} (h:∀ t,X80 L p.1.Key t->¬ inS s t) (hi:inS s p.1.Time):Xdp (L++[p]) p.1.Key s=(X6l p s).Values:=by
 unfold Xdp X6l;rw[X4f,X4f,Xkl h,Xkl h];simp only[List.nil_append];congr 1
 ·by_cases h0:p.2=0
  ·rw[if_pos ⟨trivial,hi,h0⟩,if_pos h0,Xcb]
  ·rw[if_neg (λhc=>h0 hc.2.2),if_neg h0,Xk9]
 ·by_cases h0:p.2=1
  ·rw[if_pos ⟨trivial,hi,h0⟩,if_pos h0,Xcb]
  ·rw[if_neg (λhc=>h0 hc.2.2),if_neg h0,Xk9]
theorem Xr4 {L:List Pu} {p:Pu} {s:X0k} (hl:L.length<=1000000) (hi:inS s p.1.Time) :
  Xdp (L++[p]) p.1.Key s=⟨X2u (Xdp L p.1.Key s).e0 (X6l p s).Values.e0,X2u (Xdp L p.1.Key s).e1 (X6l p s).Values.e1⟩:=by
 have ok:∀ side,okA (Xcc (vals L p.1.Key s side)):=λside=>Xhc (Nat.le_trans (Xiw ..) om);unfold Xdp X6l;rw[X4f,X4f];dsimp only;congr 1
 ·by_cases h0:p.2=0
  ·rw[if_pos ⟨rfl,hi,h0⟩,if_pos h0,Xbq]
  ·rw[if_neg (λhc=>h0 hc.2.2),if_neg h0,List.append_nil,Xft (ok 0)]
 ·by_cases h0:p.2=1
  ·rw[if_pos ⟨rfl,hi,h0⟩,if_pos h0,Xbq]
  ·rw[if_neg (λhc=>h0 hc.2.2),if_neg h0,List.append_nil,Xft (ok 1)]
theorem Mid.step {w:X0g} {L:List Pu} {p:Pu} {done:X0k->Prop} {es:List X5} {s:X0k} (hk:w.Kind≠3) (hl:L.length<=1000000) (m:Mid w L p done es) (hs:¬ done s) (hi:Xle w.Size (Xcm w) p.1.Time s) :
  Mid w L p (λx=>done x\/x=s) (Xj5 es (X6l p s)):=by
 have hin:inS s p.1.Time:=hi.2.2;have hkey:∀ e:X5,X49 e (X6l p s)↔e.Key=p.1.Key/\e.Span=s:=λe=>Iff.rfl;refine⟨Xgg m.sorted,λe=>?_⟩;rw[Xj3 m.sorted];by_cases he:X49 e (X6l p s)
 ·have he2:=(hkey e).1 he;have hno:∀ y∈es,X49 y (X6l p s)->y=⟨p.1.Key,s,Xdp L p.1.Key s⟩/\Xd1 w (X80 L p.1.Key) s:=by
   intro y hy hsy;have hy2:=(hkey y).1 hsy;rcases(m.mem y).1 hy with ⟨_,h2,_⟩|⟨_,h2,h3⟩
   ·exact absurd (hy2.2▸h2) hs
   ·rw[hy2.1,hy2.2] at h3 h2;refine⟨?_,h2⟩;cases y;simp only at hy2 h3;rw[hy2.1,hy2.2,h3]
  have hval:e.Values=Xdp (L++[p]) e.Key e.Span↔((e∈es/\¬ X49 e (X6l p s))\/(∃ y∈es,X49 y (X6l p s)/\e=Xil y (X6l p s))\/((∀ y∈es,¬ X49 y (X6l p s))/\e=X6l p s)):=by
   rw[he2.1,he2.2];by_cases hex:∃ y∈es,X49 y (X6l p s)
   ·obtain⟨y,hy,hsy⟩:=hex;obtain⟨hyv,hyw⟩:=hno y hy hsy;have hmg:Xil y (X6l p s)=⟨p.1.Key,s,Xdp (L++[p]) p.1.Key s⟩:=by rw[Xr4 hl hin,hyv];rfl
    constructor
    ·intro hv;refine .inr (.inl ⟨y,hy,hsy,?_⟩);rw[hmg];cases e;simp only at he2 hv;rw[he2.1,he2.2,hv]
    ·rintro(⟨_,h⟩|⟨y',hy',hsy',h⟩|⟨h,_⟩)
     ·exact absurd he h
     ·have:y'=y:=by rw[(hno y' hy' hsy').1,hyv]
      rw[h,this,hmg]
     ·exact absurd hsy (h y hy)
   ·have hex':∀ y∈es,¬ X49 y (X6l p s):=λy hy h=>hex ⟨y,hy,h⟩;have hnone:∀ t,X80 L p.1.Key t->¬ inS s t:=by
     intro t ht hst;have:(⟨p.1.Key,s,Xdp L p.1.Key s⟩:X5)∈es:=by
      rw[m.mem];refine .inr ⟨λh=>hs h.2,?_,rfl⟩;show Xd1 w (X80 L p.1.Key) s;unfold Xd1;rw[if_neg hk];exact⟨t,ht,hi.1,hi.2.1,hst⟩
     exact hex' _ this ⟨rfl,rfl⟩
    have hvv:=Xtw hnone hin;constructor
    ·intro hv;refine .inr (.inr ⟨hex',?_⟩);cases e;simp only at he2 hv;rw[he2.1,he2.2,hv,hvv];rfl
    ·rintro(⟨_,h⟩|⟨y',hy',hsy',_⟩|⟨_,h⟩)
     ·exact absurd he h
     ·exact absurd hsy' (hex' y' hy')
     ·rw[h,hvv]
  rw[<-hval];constructor
  ·intro h;exact .inl ⟨he2.1,.inr he2.2,h⟩
  ·rintro(⟨_,_,h⟩|⟨h,_⟩)
   ·exact h
   ·exact absurd ⟨he2.1,.inr he2.2⟩ h
 ·have hne:¬ (e.Key=p.1.Key/\e.Span=s):=λh=>he ((hkey e).2 h);constructor
  ·rintro(⟨h1,_⟩|⟨y,hy,hsy,h⟩|⟨_,h⟩)
   ·rcases(m.mem e).1 h1 with ⟨a1,a2,a3⟩|⟨a1,a2⟩
    ·exact .inl ⟨a1,.inl a2,a3⟩
    ·exact .inr ⟨λh=>a1 ⟨h.1,h.2.resolve_right λhh=>hne ⟨h.1,hh⟩⟩,a2⟩
   ·exact absurd (by rw[h];exact⟨hsy.1,hsy.2⟩) he
   ·exact absurd (by rw[h];exact⟨rfl,rfl⟩) he
  ·rintro(⟨a1,a2,a3⟩|⟨a1,a2⟩)
   ·exact .inl ⟨(m.mem e).2 (.inl ⟨a1,a2.resolve_right λhh=>hne ⟨a1,hh⟩,a3⟩),he⟩
   ·exact .inl ⟨(m.mem e).2 (.inr ⟨λh=>a1 ⟨h.1,.inl h.2⟩,a2⟩),he⟩
theorem Mid.start {w:X0g} {L:List Pu} {p:Pu} {es:List X5} (c:X8m w L es):Mid w L p (λ_=>False) es:=by
 refine⟨c.sorted,λe=>?_⟩;rw[c.mem];simp
theorem Mid.end {w:X0g} {L:List Pu} {p:Pu} {es:List X5} {done:X0k->Prop} (hk:w.Kind≠3) (hd:∀ s,done s↔Xle w.Size (Xcm w) p.1.Time s) (m:Mid w L p done es):X8m w (L++[p]) es:=by
 refine⟨m.sorted,λe=>?_,λh3=>absurd h3 hk⟩;rw[m.mem];unfold Xr5 Xd1;rw[if_neg hk,if_neg hk];by_cases he:e.Key=p.1.Key/\done e.Span
 ·constructor
  ·rintro(⟨_,_,h⟩|⟨h,_⟩)
   ·exact⟨⟨p.1.Time,(X7o ..).2 (.inr ⟨he.1.symm,rfl⟩),(hd _).1 he.2⟩,h⟩
   ·exact absurd he h
  ·rintro⟨_,h⟩;exact .inl ⟨he.1,he.2,h⟩
 ·have hv:Xdp (L++[p]) e.Key e.Span=Xdp L e.Key e.Span\/∀ t,X80 L e.Key t->¬ Xle w.Size (Xcm w) t e.Span:=by
   by_cases hkk:p.1.Key=e.Key/\inS e.Span p.1.Time
   ·right;intro t _ hw;exact he ⟨hkk.1.symm,(hd _).2 ⟨hw.1,hw.2.1,hkk.2⟩⟩
   ·left;unfold Xdp;rw[X4f,X4f,if_neg (λh=>hkk ⟨h.1,h.2.1⟩),if_neg (λh=>hkk ⟨h.1,h.2.1⟩),List.append_nil,List.append_nil]
  constructor
  ·rintro(⟨h1,h2,_⟩|⟨_,⟨t,ht,hw⟩,h⟩)
   ·exact absurd ⟨h1,h2⟩ he
   ·refine⟨⟨t,(X7o ..).2 (.inl ht),hw⟩,?_⟩;rcases hv with hv|hv
    ·rw[hv];exact h
    ·exact absurd hw (hv t ht)
  ·rintro⟨⟨t,ht,hw⟩,h⟩;refine .inr ⟨he,?_⟩;rcases(X7o ..).1 ht with ht|⟨hkey,htt⟩
   ·refine⟨⟨t,ht,hw⟩,?_⟩;rcases hv with hv|hv
    ·rw[<-hv];exact h
    ·exact absurd hw (hv t ht)
   ·exact absurd ⟨hkey.symm,(hd _).2 (htt▸hw)⟩ he
end Go.D


namespace Go.D
theorem Xk5 {L:List Pu} (hl:L.length<=1000) (k:Int) (s:X0k):okA (Xdp L k s).e0/\okA (Xdp L k s).e1/\(Xdp L k s).e0.Count<=1000/\(Xdp L k s).e1.Count<=1000:=by
 have h0:=Xiw L k s 0;have h1:=Xiw L k s 1;refine⟨Xhc om,Xhc om,?_,?_⟩
 ·show(Xcc _).Count<=1000;rw[X2q];omega
 ·show(Xcc _).Count<=1000;rw[X2q];omega
theorem X002 (p:Pu) (s:X0k):okA (X6l p s).Values.e0/\okA (X6l p s).Values.e1/\(X6l p s).Values.e0.Count<=1/\(X6l p s).Values.e1.Count<=1:=by
 unfold X6l;dsimp only;refine⟨?_,?_,?_,?_⟩
 ·split
  ·exact Xl1 _
  ·exact Xir
 ·split
  ·exact Xl1 _
  ·exact Xir
 ·split
  ·exact Int.le_refl _
  ·show(0:Int)<=1;decide
 ·split
  ·exact Int.le_refl _
  ·show(0:Int)<=1;decide
theorem Mid.vals {w:X0g} {L:List Pu} {p:Pu} {done:X0k->Prop} {es:List X5} (m:Mid w L p done es) (hl:L.length<=900) {e:X5} (he:e∈es):okA e.Values.e0/\okA e.Values.e1/\e.Values.e0.Count<=1000/\e.Values.e1.Count<=1000:=by
 rcases(m.mem e).1 he with ⟨_,_,h⟩|⟨_,_,h⟩
 ·rw[h];exact Xk5 (by simp;omega) _ _
 ·rw[h];exact Xk5 om _ _
theorem X020 {w:X0g} {L:List Pu} {p:Pu} (hk:w.Kind≠3) (hl:L.length<=900) (Y:List X0k):∀ (xs:List X0k) (k:Nat) (x0:X5) (l:List X5) (done:X0k->Prop),Mid w L p done l->xs.Nodup->(∀ s∈xs,¬ done s/\Xle w.Size (Xcm w) p.1.Time s) ->
  x0.Key=p.1.Key->(∀ s,x0.Values=(X6l p s).Values)->l.length+xs.length<=9000->∃ l',X3h Y xs k x0 l=some (.x0 l')/\Mid w L p (λs=>done s\/s∈xs) l'/\l'.length<=l.length+xs.length:=by
 intro xs
 induction xs with
 |nil=>intro k x0 l done m _ _ _ _ _;exact⟨l,rfl,by simpa using m,by simp⟩
 |cons s xs ih =>
  intro k x0 l done m hnd hs hk0 hv0 hlen;rw[List.nodup_cons] at hnd;have hs0:=hs s List.mem_cons_self;have hx:(⟨x0.Key,s,x0.Values⟩:X5)=X6l p s:=by rw[hk0,hv0 s];rfl
  have er:=X002 p s;have m2:=m.step hk om hs0.1 hs0.2;simp only[List.length_cons] at hlen;obtain⟨l',h1,h2,h3⟩:=ih (k+1) (X6l p s) (Xj5 l (X6l p s)) _ m2 hnd.2 (λx hxx=>⟨λh=>h.elim (hs x (List.mem_cons_of_mem _ hxx)).1 (λe=>hnd.1 (e▸hxx)),(hs x (List.mem_cons_of_mem _ hxx)).2⟩) rfl (λ_=>rfl) (by have:=Xj4 l (X6l p s);omega);refine⟨l',?_,⟨h2.sorted,λe=>?_⟩,by have:=Xj4 l (X6l p s);simp only[List.length_cons];omega⟩
  ·rw[X3h];have key:∀ o,X3h Y xs (k+1) (X6l p s) (Xj5 l (X6l p s))=some o->((Xf l (X5.mk x0.Key s x0.Values)).bind λv1891=>bif (!v1891.2) then (bif (v1891.1==(List.length l:Int)) then (((X50 l v1891.1 (List.length l:Int)).bind λm1903=>bif (List.isEmpty m1903) then ((X1p (List.length (l++[(X5.mk x0.Key s x0.Values)])) 88).bind λu1906=>some ()) else ((X1p (List.length (l++[(X5.mk x0.Key s x0.Values)])) 88).bind λu1908=>some ()):Option (Unit)).bind λ_=>some ((X5.mk ((X5.mk x0.Key s x0.Values).Key) ((X5.mk x0.Key s x0.Values).Span) (V2.mk (((X5.mk x0.Key s x0.Values).Values).e0) (((X5.mk x0.Key s x0.Values).Values).e1))),(l++[(X5.mk x0.Key s x0.Values)]),0)) else ((Xqb l v1891.1 (X5.mk x0.Key s x0.Values) 88).bind λm1911=>some ((X5.mk x0.Key s x0.Values),m1911,0))) else ((X0u l v1891.1).bind λe1913=>((X1l e1913.Values.e0 x0.Values.e0).bind λv1928=>bif (v1928.2 != (0:Int)) then (some (l,v1928.2)) else ((X1l (((X5.mk e1913.Key e1913.Span (V2.mk v1928.1 e1913.Values.e1)).Values).e1) x0.Values.e1).bind λv1933=>bif (v1933.2 != (0:Int)) then (some ((List.set l (Int.toNat v1891.1) (X5.mk e1913.Key e1913.Span (V2.mk v1928.1 e1913.Values.e1))),v1933.2)) else (some ((List.set (List.set l (Int.toNat v1891.1) (X5.mk e1913.Key e1913.Span (V2.mk v1928.1 e1913.Values.e1))) (Int.toNat v1891.1) (X5.mk ((X5.mk e1913.Key e1913.Span (V2.mk v1928.1 e1913.Values.e1)).Key) ((X5.mk e1913.Key e1913.Span (V2.mk v1928.1 e1913.Values.e1)).Span) (V2.mk (((X5.mk e1913.Key e1913.Span (V2.mk v1928.1 e1913.Values.e1)).Values).e0) v1933.1))),0))):Option ((List X5)×Int)).bind λw1925=>some ((X5.mk ((X5.mk x0.Key s x0.Values).Key) ((X5.mk x0.Key s x0.Values).Span) (V2.mk (((X5.mk x0.Key s x0.Values).Values).e0) (((X5.mk x0.Key s x0.Values).Values).e1))),w1925.1,w1925.2)):Option (X5×(List X5)×Int))=some (X6l p s,Xj5 l (X6l p s),0):=by
    intro o _;rw[X01y m.sorted om,Xsd m.sorted];have hle:=Xu5 l (X6l p s);have hval:x0.Values=(X6l p s).Values:=hv0 s;rw[hx,hval]
    cases h:l[cnt l (X6l p s)]? with
    |none =>
     have hc:cnt l (X6l p s)=l.length:=by have:=List.getElem?_eq_none_iff.1 h;omega
     have hsl:X50 l (l.length:Int) (l.length:Int)=some []:=by simp[X50]
     simp only[Yo,Bool.not_false,cond_true,hc,beq_self_eq_true,hsl];rw[X5q (by simp;omega)];rfl
    |some y =>
     have hlt:cnt l (X6l p s)<l.length:=(Ys.1 h).1;simp only[Yo];by_cases hkk:X49 y (X6l p s)
     ·obtain⟨a1,a2,a3,a4⟩:=m.vals hl (Yg h);simp only[hkk,decide_true,Bool.not_true,cond_false,X4m,h,Yo,X38 a1 er.1 om,X38 a2 er.2.1 om,bne_self_eq_false,if_true,Int.toNat_natCast,List.set_set];rfl
     ·have hne:((cnt l (X6l p s):Int)==(l.length:Int))=false:=by simp;omega
      have hi:Xqb l (cnt l (X6l p s):Int) (X6l p s) 88=some (l.take (cnt l (X6l p s))++X6l p s::l.drop (cnt l (X6l p s))):=by
       unfold Xqb;rw[if_pos ⟨by omega,by simpa using hlt,by omega⟩];simp
      simp only[hkk,decide_false,Bool.not_false,cond_true,hne,cond_false,hi,Yo,if_false]
   rw[key _ h1,Yo];simp only[bne_self_eq_false,cond_false];exact h1
  ·rw[h2.mem];simp only[List.mem_cons,or_assoc]
theorem Xhb {w:X0g} {L:List Pu} {es:List X5} (hw:okW w) (hL:Xrl w L) (c:X8m w L es):∀ e∈es,okE e:=by
 intro e he;obtain⟨h1,h2⟩:=(c.mem e).1 he;have hlen:=hL.len;obtain⟨v1,v2,v3,v4⟩:=Xk5 (L:=L) om e.Key e.Span;rw[<-h2] at v1 v2 v3 v4;have hpos:∀ t,X80 L e.Key t->inS e.Span t->0<e.Values.e0.Count+e.Values.e1.Count:=by
  intro t ht hi;have:=Xrr hL.side ht hi;rw[h2];show 0<(Xcc _).Count+(Xcc _).Count;rw[X2q,X2q];omega
 have htime:∀ t,X80 L e.Key t->okT t:=by
  rintro t ⟨p,hp,_,rfl⟩;exact hL.time p hp
 obtain⟨w1,w2,w3⟩:=hw;unfold Xd1 at h1;by_cases hk:w.Kind=3
 ·rw[if_pos hk] at h1;obtain⟨s1,s2,s3,s4⟩:=h1;obtain⟨t,ht,a1,a2⟩:=s2 (2*e.Span.Start+1) om om;have hts:t=e.Span.Start:=by
   have:¬ (2*t<2*e.Span.Start):=λh=>s3 ⟨t,ht,h,by omega⟩;omega
  obtain⟨t',ht',b1,b2⟩:=s2 (2*e.Span.End - 1) om om;have hte:t'+w.Size=e.Span.End:=by
   have:¬ (2*e.Span.End<2*(t'+w.Size)):=λh=>s4 ⟨t',ht',by omega,h⟩;omega
  have q1:=htime t ht;have q2:=htime t' ht';unfold okT at q1 q2;exact⟨by omega,s1,by omega,v1,v2,hpos t ht ⟨by omega,by omega⟩⟩
 ·rw[if_neg hk] at h1;obtain⟨t,ht,a1,a2,a3,a4⟩:=h1;have q1:=htime t ht;unfold okT at q1;exact⟨by omega,by omega,by omega,v1,v2,hpos t ht ⟨a3,a4⟩⟩
theorem Xg7 {w:X0g} {L:List Pu} {p:Pu} {es:List X5} (hw:okW w) (hk:w.Kind≠3) (hL:Xrl w (L++[p])) (c:X8m w L es) (hn:es.length<=3900) :
  ∃ es',X7a es w p.1 p.2=some (es',0)/\X8m w (L++[p]) es'/\es'.length<=es.length+16:=by
 have ht:=hL.time p (by simp);have hsd:=hL.side p (by simp);have hll:=hL.init.len;obtain⟨W,hW,hWl,hWn,hWm⟩:=Xg8 hw hk ht;obtain⟨l',h1,h2,h3⟩:=X020 (w:=w) (L:=L) (p:=p) hk om W W 0 (X6l p ⟨0,0⟩) es _ (Mid.start c) hWn (λs hs=>⟨λh=>h,(hWm s).1 hs⟩) rfl (λ_=>rfl) om;refine⟨l',?_,Mid.end hk (λs=>by simpa using hWm s) h2,by omega⟩;unfold X7a;have e1:(bif (p.2 != 0) then (p.2 != 1) else false)=false:=by rcases hsd with h|h<;>simp[h]
 have e2:(bif (decide (p.1.Time<((-1099511627776):Int))) then true else (decide (p.1.Time>(1099511627776:Int))))=false:=by
  unfold okT at ht;have a:decide (p.1.Time<((-1099511627776):Int))=false:=by simp;omega
  have b:decide (p.1.Time>(1099511627776:Int))=false:=by simp;omega
  rw[a,b];rfl
 have e3:((X8l p.1.Value).bind λv14=>bif (p.2==(0:Int)) then (some (X5.mk p.1.Key (X0k.mk 0 0) (V2.mk v14 (X0x.mk 0 0 0 0)))) else (bif (p.2==(1:Int)) then (some (X5.mk p.1.Key (X0k.mk 0 0) (V2.mk (X0x.mk 0 0 0 0) v14))) else none):Option (X5))=some (X6l p ⟨0,0⟩):=by
  simp only[X8l,Yo];rcases hsd with h|h
  ·simp[h,X6l,ofA,Xb1]
  ·simp[h,X6l,ofA,Xb1]
 have e4:(bif (List.isEmpty es) then (some es) else ((X1p (List.length es) 88).bind λu28=>some es):Option ((List X5)))=some es:=by
  rw[X5q om];cases List.isEmpty es<;>rfl
 have e5:(w.Kind==3)=false:=by simp[hk]
 rw[X98 c.sorted (Xhb hw hL.init c) om,Yo];simp only[bne_self_eq_false,cond_false,X3e hw,Yo,e1,e2];rw[e3,Yo,e4,Yo];simp only[e5,cond_false,hW,Yo,bne_self_eq_false];rw[X2n om,Yo,h1,Yo];have e6:decide ((l'.length:Int)>4000)=false:=by simp;omega
 simp only[e6,cond_false]
end Go.D


namespace Go.D
theorem Xof {size:Int} {T:Int->Prop} {a b:X0k} (ha:Xgb size T a) (hb:Xgb size T b) (h1:a.Start<b.End) (h2:b.Start<a.End):a=b:=by
 obtain⟨a1,a2,a3,a4⟩:=ha;obtain⟨b1,b2,b3,b4⟩:=hb;apply Xfn
 ·rcases Xxp a.Start b.Start with h|h
  ·exact absurd (a2 (2*b.Start) om om) b3
  ·rcases Xxp b.Start a.Start with h'|h'
   ·exact absurd (b2 (2*a.Start) om om) a3
   ·omega
 ·rcases Xxp a.End b.End with h|h
  ·exact absurd (b2 (2*a.End) om om) a4
  ·rcases Xxp b.End a.End with h'|h'
   ·exact absurd (a2 (2*b.End) om om) b4
   ·omega
theorem Xfx {size:Int} {T T':Int->Prop} (h:∀ t,T t->T' t) {x:Int} (c:cov size T x):cov size T' x:=by
 obtain⟨t,h1,h2⟩:=c;exact⟨t,h t h1,h2⟩
def X7y (L:List Pu) (k:Int) (M:List X5) (side:Int):List Int:=(L.filter λq=>decide (q.1.Key=k/\(∃ m∈M,inS m.Span q.1.Time)/\q.2=side)).map λq=>q.1.Value
def pv (p:Pu) (side:Int):List Int:=if p.2=side then [p.1.Value] else []
theorem Xtt {α:Type} (a b:α->Bool):∀ (l:List α),(∀ q∈l,¬ (a q=true/\b q=true))->(l.filter λq=>a q||b q).Perm (l.filter a++l.filter b):=by
 intro l
 induction l with
 |nil=>intro _;simp
 |cons x l ih =>
  intro h;have ih':=ih λq hq=>h q (List.mem_cons_of_mem _ hq);have hx:=h x List.mem_cons_self
  cases ha:a x with
  |true =>
   have hb:b x=false:=by cases hb:b x with|true=>exact absurd ⟨ha,hb⟩ hx|false=>rfl
   rw[List.filter_cons_of_pos (by simp[ha]),List.filter_cons_of_pos ha,List.filter_cons_of_neg (by simp[hb])];exact ih'.cons x
  |false =>
   cases hb:b x with
   |true =>
    rw[List.filter_cons_of_pos (by simp[hb]),List.filter_cons_of_neg (by simp[ha]),List.filter_cons_of_pos hb];exact(ih'.cons x).trans List.perm_middle.symm
   |false =>
    rw[List.filter_cons_of_neg (by simp[ha,hb]),List.filter_cons_of_neg (by simp[ha]),List.filter_cons_of_neg (by simp[hb])];exact ih'
theorem Xm5 {L:List Pu} {k:Int} {M:List X5} {y:X5} {side:Int} (h:∀ q∈L,q.1.Key=k->inS y.Span q.1.Time->¬ ∃ m∈M,inS m.Span q.1.Time) :
  (X7y L k (y::M) side).Perm (X7y L k M side++vals L k y.Span side):=by
 unfold X7y vals;rw[<-List.map_append];refine List.Perm.map _ ?_
 have h1:=Xtt (λq:Pu=>decide (q.1.Key=k/\(∃ m∈M,inS m.Span q.1.Time)/\q.2=side)) (λq=>decide (q.1.Key=k/\inS y.Span q.1.Time/\q.2=side)) L (λq hq hc=>by
  simp only[decide_eq_true_eq] at hc
  exact h q hq hc.1.1 hc.2.2.1 hc.1.2.1)
 refine List.Perm.trans (List.Perm.of_eq ?_) h1;refine List.filter_congr λq _=>?_;rw[Bool.eq_iff_iff];simp only[decide_eq_true_eq,Bool.or_eq_true,List.mem_cons];constructor
 ·rintro⟨a1,⟨m,hm|hm,hi⟩,a2⟩
  ·exact .inr ⟨a1,by rw[<-hm];exact hi,a2⟩
  ·exact .inl ⟨a1,⟨m,hm,hi⟩,a2⟩
 ·rintro(⟨a1,⟨m,hm,hi⟩,a2⟩|⟨a1,hi,a2⟩)
  ·exact⟨a1,⟨m,.inr hm,hi⟩,a2⟩
  ·exact⟨a1,⟨y,.inl rfl,hi⟩,a2⟩
theorem X9k (L:List Pu) (k:Int) (M:List X5) (side:Int):(X7y L k M side).length<=L.length:=by unfold X7y;rw[List.length_map];exact List.length_filter_le _ _
theorem Xkw (p:Pu) (side:Int):(pv p side).length<=1:=by unfold pv;split<;>simp
def Xyy (x y:X5):Prop:=y.Key=x.Key/\y.Span.Start<x.Span.End/\x.Span.Start<y.Span.End
instance (x y:X5):Decidable (Xyy x y):=by unfold Xyy;infer_instance
structure Ses (w:X0g) (L:List Pu) (p:Pu) (es l:List X5) (x:X5) (M:List X5):Prop where
 sub:l.Sublist es
 part:∀ e,e∈es↔e∈l\/e∈M
 apart:∀ e∈l,e ∉ M
 keyM:∀ m∈M,m.Key=p.1.Key
 key:x.Key=p.1.Key
 own:x.Span.Start<=p.1.Time/\p.1.Time+w.Size<=x.Span.End
 inner:∀ z,2*x.Span.Start<z->z<2*x.Span.End->cov w.Size (λt=>X80 L p.1.Key t\/t=p.1.Time) z
 hull:∀ m∈M,x.Span.Start<=m.Span.Start/\m.Span.End<=x.Span.End
 val0:x.Values.e0=Xcc (pv p 0++X7y L p.1.Key M 0)
 val1:x.Values.e1=Xcc (pv p 1++X7y L p.1.Key M 1)
theorem Xuk (p:Pu) (s:X0k):(X6l p s).Values.e0=Xcc (pv p 0)/\(X6l p s).Values.e1=Xcc (pv p 1):=by
 unfold X6l pv;constructor
 ·dsimp only;split
  ·exact(Xcb _).symm
  ·rfl
 ·dsimp only;split
  ·exact(Xcb _).symm
  ·rfl
theorem Ses.start {w:X0g} {L:List Pu} {p:Pu} {es:List X5} (hw:1<=w.Size):Ses w L p es es (X6l p ⟨p.1.Time,p.1.Time+w.Size⟩) []:=by
 have hv:∀ side,X7y L p.1.Key [] side=[]:=λside=>by unfold X7y;simp
 refine⟨.refl _,λe=>by simp,λe _=>by simp,λm hm=>(by cases hm),rfl,⟨Int.le_refl _,Int.le_refl _⟩,λz h1 h2=>?_,λm hm=>(by cases hm),?_,?_⟩
 ·exact⟨p.1.Time,.inr rfl,h1,h2⟩
 ·rw[hv,List.append_nil];exact(Xuk p _).1
 ·rw[hv,List.append_nil];exact(Xuk p _).2
def Xlf (x y:X5):X5:=⟨x.Key,⟨if y.Span.Start<x.Span.Start then y.Span.Start else x.Span.Start,if y.Span.End>x.Span.End then y.Span.End else x.Span.End⟩,⟨X2u x.Values.e0 y.Values.e0,X2u x.Values.e1 y.Values.e1⟩⟩
theorem Ses.step {w:X0g} {L:List Pu} {p:Pu} {es l:List X5} {x:X5} {M:List X5} (hk:w.Kind=3) (hl:L.length<=900) (c:X8m w L es) (s:Ses w L p es l x M) {i:Nat} {y:X5} (hi:l[i]?=some y) (ho:Xyy x y) :
  Ses w L p es (l.take i++l.drop (i+1)) (Xlf x y) (y::M):=by
 have hyl:y∈l:=Yg hi;have hye:y∈es:=(s.part y).2 (.inl hyl);have hyM:=s.apart y hyl;have hky:y.Key=p.1.Key:=ho.1.trans s.key;obtain⟨hyw,hyv⟩:=(c.mem y).1 hye;unfold Xd1 at hyw;rw[if_pos hk,hky] at hyw;rw[hky] at hyv;have hlt:i<l.length:=(Ys.1 hi).1;have hsplit:l=l.take i++y::l.drop (i+1):=by
  have:l[i]=y:=(Ys.1 hi).2;rw[<-this,<-List.drop_eq_getElem_cons hlt,List.take_append_drop]
 have hnd:l.Nodup:=s.sub.nodup (List.Pairwise.imp (R:=ltE) (S:=λa b=>a≠b) (λ{a b} h (e:a=b)=>Xea b (by rw[e] at h;exact h)) c.sorted);have hyn:y ∉ l.take i++l.drop (i+1):=by
  rw[hsplit] at hnd;exact(List.nodup_cons.1 (List.perm_middle.nodup_iff.1 hnd)).1
 have hmem:∀ e,e∈l↔e=y\/e∈l.take i++l.drop (i+1):=by
  intro e;rw[hsplit];simp only[List.mem_append,List.mem_cons];rw[<-hsplit];constructor
  ·rintro(h|h|h)
   ·exact .inr (.inl h)
   ·exact .inl h
   ·exact .inr (.inr h)
  ·rintro(h|h|h)
   ·exact .inr (.inl h)
   ·exact .inl h
   ·exact .inr (.inr h)
 have hdis:∀ q∈L,q.1.Key=p.1.Key->inS y.Span q.1.Time->¬ ∃ m∈M,inS m.Span q.1.Time:=by
  rintro q hq _ hyq ⟨m,hm,hmq⟩;have hme:m∈es:=(s.part m).2 (.inr hm);obtain⟨hmw,hmv⟩:=(c.mem m).1 hme;unfold Xd1 at hmw;rw[if_pos hk,s.keyM m hm] at hmw;rw[s.keyM m hm] at hmv;unfold inS at hyq hmq;have hsp:y.Span=m.Span:=Xof hyw hmw om om;have:y=m:=by cases y;cases m;simp only at hky hyv hsp hmv;simp only[X5.mk.injEq];exact⟨hky.trans (s.keyM _ hm).symm,hsp,by rw[hyv,hmv,hsp]⟩
  exact hyM (this▸hm)
 have hval:∀ side,(pv p side++X7y L p.1.Key M side).length<=1073741824:=λside=>by
  have:=Xkw p side;have:=X9k L p.1.Key M side;simp;omega
 have hperm:∀ side,Xcc (pv p side++X7y L p.1.Key (y::M) side)=X2u (Xcc (pv p side++X7y L p.1.Key M side)) (Xcc (vals L p.1.Key y.Span side)):=λside=>by
  have hp:=(Xm5 (L:=L) (k:=p.1.Key) (M:=M) (y:=y) (side:=side) hdis).append_left (pv p side);rw[Xlw hp (by have:=Xkw p side;have:=X9k L p.1.Key (y::M) side;simp;omega),<-List.append_assoc,X5r]
 obtain⟨_,o1,o2⟩:=ho;refine⟨?_,λe=>?_,λe he hm=>?_,λm hm=>?_,s.key,?_,λz h1 h2=>?_,λm hm=>?_,?_,?_⟩
 ·refine List.Sublist.trans ?_ s.sub
  conv=>rhs;rw[hsplit]
  exact List.Sublist.append_left (List.sublist_cons_self _ _) _
 ·rw[s.part,hmem,List.mem_cons];constructor
  ·rintro((h|h)|h)
   ·exact .inr (.inl h)
   ·exact .inl h
   ·exact .inr (.inr h)
  ·rintro(h|h|h)
   ·exact .inl (.inr h)
   ·exact .inl (.inl h)
   ·exact .inr h
 ·rcases List.mem_cons.1 hm with h|h
  ·exact hyn (h▸he)
  ·exact s.apart e ((hmem e).2 (.inr he)) h
 ·rcases List.mem_cons.1 hm with h|h
  ·rw[h];exact hky
  ·exact s.keyM m h
 ·have:=s.own;unfold Xlf;constructor
  ·dsimp only;split<;>omega
  ·dsimp only;split<;>omega
 ·have hz:(2*x.Span.Start<z/\z<2*x.Span.End)\/(2*y.Span.Start<z/\z<2*y.Span.End):=by
   unfold Xlf at h1 h2;dsimp only at h1 h2;split at h1<;>split at h2<;>omega
  rcases hz with ⟨g1,g2⟩|⟨g1,g2⟩
  ·exact s.inner z g1 g2
  ·exact Xfx (λt h=>.inl h) (hyw.2.1 z g1 g2)
 ·have hx:(Xlf x y).Span.Start<=x.Span.Start/\x.Span.End<=(Xlf x y).Span.End/\(Xlf x y).Span.Start<=y.Span.Start/\y.Span.End<=(Xlf x y).Span.End:=by
   unfold Xlf;dsimp only;refine⟨?_,?_,?_,?_⟩<;>split<;>omega
  rcases List.mem_cons.1 hm with h|h
  ·rw[h];exact⟨hx.2.2.1,hx.2.2.2⟩
  ·have:=s.hull m h;omega
 ·show X2u x.Values.e0 y.Values.e0=_;rw[hperm,s.val0,hyv];rfl
 ·show X2u x.Values.e1 y.Values.e1=_;rw[hperm,s.val1,hyv];rfl
theorem Ses.end {w:X0g} {L:List Pu} {p:Pu} {es l:List X5} {x:X5} {M:List X5} (hk:w.Kind=3) (hw:1<=w.Size) (hl:L.length<=900) (c:X8m w L es) (s:Ses w L p es l x M) (hno:∀ y∈l,¬ Xyy x y):X8m w (L++[p]) (Xj5 l x):=by
 have hsl:l.Pairwise ltE:=c.sorted.sublist s.sub;have hxx:x.Span.Start<x.Span.End:=by have:=s.own;omega
 have hnl:∀ y∈l,y.Key=p.1.Key->¬ (y.Span.Start<x.Span.End/\x.Span.Start<y.Span.End):=λy hy hky h=>hno y hy ⟨hky.trans s.key.symm,h.1,h.2⟩;have hT:(X80 (L++[p]) p.1.Key)=λt=>X80 L p.1.Key t\/t=p.1.Time:=by
  funext t;apply propext;rw[X7o]
  exact⟨λh=>h.imp id λh=>h.2.symm,λh=>h.imp id λh=>⟨rfl,h.symm⟩⟩
 have hes:∀ e∈es,e.Key=p.1.Key->Xgb w.Size (X80 L p.1.Key) e.Span:=by
  intro e he hke;have:=((c.mem e).1 he).1;unfold Xd1 at this;rw[if_pos hk,hke] at this;exact this
 have hxw:Xgb w.Size (λt=>X80 L p.1.Key t\/t=p.1.Time) x.Span:=by
  refine⟨hxx,s.inner,?_,?_⟩
  ·rintro⟨t,ht|ht,h1,h2⟩
   ·obtain⟨e,he,hke,a1,a2⟩:=c.cover hk _ t ht;rcases(s.part e).1 he with h|h
    ·exact hnl e h hke ⟨by omega,by omega⟩
    ·have:=s.hull e h;omega
   ·have:=s.own;omega
  ·rintro⟨t,ht|ht,h1,h2⟩
   ·obtain⟨e,he,hke,a1,a2⟩:=c.cover hk _ t ht;rcases(s.part e).1 he with h|h
    ·exact hnl e h hke ⟨by omega,by omega⟩
    ·have:=s.hull e h;omega
   ·have:=s.own;omega
 have hpin:inS x.Span p.1.Time:=by have:=s.own;unfold inS;omega
 have hxv:x.Values=Xdp (L++[p]) p.1.Key x.Span:=by
  have hv:∀ side,Xcc (pv p side++X7y L p.1.Key M side)=Xcc (vals (L++[p]) p.1.Key x.Span side):=by
   intro side;have h1:vals L p.1.Key x.Span side=X7y L p.1.Key M side:=by
    unfold vals X7y;congr 1
    refine List.filter_congr λq hq=>?_;rw[Bool.eq_iff_iff];simp only[decide_eq_true_eq];constructor
    ·rintro⟨a1,a2,a3⟩;refine⟨a1,?_,a3⟩;obtain⟨e,he,hke,b1,b2⟩:=c.cover hk _ q.1.Time ⟨q,hq,a1,rfl⟩;unfold inS at a2;rcases(s.part e).1 he with h|h
     ·exact absurd ⟨by omega,by omega⟩ (hnl e h hke)
     ·exact⟨e,h,by unfold inS;omega⟩
    ·rintro⟨a1,⟨m,hm,b1,b2⟩,a3⟩;have:=s.hull m hm;exact⟨a1,⟨by omega,by omega⟩,a3⟩
   have h2:(if p.1.Key=p.1.Key/\inS x.Span p.1.Time/\p.2=side then [p.1.Value] else [])=pv p side:=by
    unfold pv;by_cases h:p.2=side
    ·rw[if_pos ⟨rfl,hpin,h⟩,if_pos h]
    ·rw[if_neg (λhc=>h hc.2.2),if_neg h]
   rw[X4f,h1,h2];exact Xlw List.perm_append_comm (by have:=Xkw p side;have:=X9k L p.1.Key M side;simp;omega)
  have h0:=s.val0;have h1:=s.val1;rw[hv] at h0 h1;unfold Xdp;rw[<-h0,<-h1]
 have hns:∀ y∈l,¬ X49 y x:=λy hy hs=>hno y hy ⟨hs.1,by rw[hs.2];exact hxx,by rw[hs.2];exact hxx⟩;have hput:∀ e,e∈Xj5 l x↔e∈l\/e=x:=by
  intro e;rw[Xj3 hsl];constructor
  ·rintro(⟨h,_⟩|⟨y,hy,hs,_⟩|⟨_,h⟩)
   ·exact .inl h
   ·exact absurd hs (hns y hy)
   ·exact .inr h
  ·rintro(h|h)
   ·exact .inl ⟨h,hns e h⟩
   ·exact .inr (.inr ⟨hns,h⟩)
 refine⟨Xgg hsl,λe=>?_,λ_ k t ht=>?_⟩
 ·rw[hput];unfold Xr5 Xd1;rw[if_pos hk];by_cases hke:e.Key=p.1.Key
  ·rw[hke,hT];have hsame:¬ (e.Span.Start<x.Span.End/\x.Span.Start<e.Span.End)->(Xgb w.Size (λt=>X80 L p.1.Key t\/t=p.1.Time) e.Span/\e.Values=Xdp (L++[p]) p.1.Key e.Span↔Xgb w.Size (X80 L p.1.Key) e.Span/\e.Values=Xdp L p.1.Key e.Span):=by
    intro hn;have hown:=s.own;have hpn:e.Span.Start<e.Span.End->¬ inS e.Span p.1.Time:=λh hi=>by unfold inS at hi;exact hn ⟨by omega,by omega⟩
    have hvv:e.Span.Start<e.Span.End->Xdp (L++[p]) p.1.Key e.Span=Xdp L p.1.Key e.Span:=λh=>by
     unfold Xdp;rw[X4f,X4f,if_neg (λhc=>hpn h hc.2.1),if_neg (λhc=>hpn h hc.2.1),List.append_nil,List.append_nil]
    constructor
    ·rintro⟨⟨a1,a2,a3,a4⟩,hv⟩;refine⟨⟨a1,λz h1 h2=>?_,λh=>a3 (Xfx (λt h=>.inl h) h),λh=>a4 (Xfx (λt h=>.inl h) h)⟩,by rw[hv,hvv a1]⟩;obtain⟨t,ht|ht,b1,b2⟩:=a2 z h1 h2
     ·exact⟨t,ht,b1,b2⟩
     ·exact absurd ⟨by omega,by omega⟩ hn
    ·rintro⟨⟨a1,a2,a3,a4⟩,hv⟩;refine⟨⟨a1,λz h1 h2=>Xfx (λt h=>.inl h) (a2 z h1 h2),?_,?_⟩,by rw[hv,hvv a1]⟩
     ·rintro⟨t,ht|ht,b1,b2⟩
      ·exact a3 ⟨t,ht,b1,b2⟩
      ·exact hn ⟨by omega,by omega⟩
     ·rintro⟨t,ht|ht,b1,b2⟩
      ·exact a4 ⟨t,ht,b1,b2⟩
      ·exact hn ⟨by omega,by omega⟩
   constructor
   ·rintro(h|h)
    ·have he:e∈es:=(s.part e).2 (.inl h);refine(hsame (hnl e h hke)).2 ⟨hes e he hke,?_⟩;have:=((c.mem e).1 he).2;rw[hke] at this;exact this
    ·rw[h];exact⟨hxw,hxv⟩
   ·intro h;by_cases hov:e.Span.Start<x.Span.End/\x.Span.Start<e.Span.End
    ·right;have hsp:=Xof h.1 hxw hov.1 hov.2;have hkx:=s.key;obtain⟨_,h2⟩:=h;rw[hsp] at h2;cases e;cases x
     simp only at hke hsp h2 hkx hxv;simp only[X5.mk.injEq];exact⟨hke.trans hkx.symm,hsp,by rw[h2,hxv]⟩
    ·left;have h3:=(hsame hov).1 h;have he:e∈es:=(c.mem e).2 ⟨by unfold Xd1;rw[if_pos hk,hke];exact h3.1,by rw[hke];exact h3.2⟩;rcases(s.part e).1 he with h4|h4
     ·exact h4
     ·have:=s.hull e h4;exact absurd ⟨by have:=h3.1.1;omega,by have:=h3.1.1;omega⟩ hov
  ·have hT2:X80 (L++[p]) e.Key=X80 L e.Key:=by
    funext t;apply propext;rw[X7o]
    exact⟨λh=>h.resolve_right λhc=>hke hc.1.symm,.inl⟩
   have hV2:Xdp (L++[p]) e.Key e.Span=Xdp L e.Key e.Span:=by
    unfold Xdp;rw[X4f,X4f,if_neg (λhc=>hke hc.1.symm),if_neg (λhc=>hke hc.1.symm),List.append_nil,List.append_nil]
   rw[hT2,hV2];constructor
   ·rintro(h|h)
    ·have:=(c.mem e).1 ((s.part e).2 (.inl h));unfold Xr5 Xd1 at this;rw[if_pos hk] at this;exact this
    ·exact absurd (by rw[h];exact s.key) hke
   ·intro h;have he:e∈es:=(c.mem e).2 (by unfold Xr5 Xd1;rw[if_pos hk];exact h);rcases(s.part e).1 he with h4|h4
    ·exact .inl h4
    ·exact absurd (s.keyM e h4) hke
 ·rcases(X7o ..).1 ht with ht|⟨h1,h2⟩
  ·obtain⟨e,he,hke,a1,a2⟩:=c.cover hk k t ht;rcases(s.part e).1 he with h|h
   ·exact⟨e,(hput e).2 (.inl h),hke,a1,a2⟩
   ·have:=s.hull e h;exact⟨x,(hput x).2 (.inr rfl),s.key.trans ((s.keyM e h).symm.trans hke),by omega,by omega⟩
  ·have:=s.own;exact⟨x,(hput x).2 (.inr rfl),s.key.trans h1,by omega,by omega⟩
end Go.D


namespace Go.D
theorem Xwx (Y:List X5) (x:X5):∀ (xs:List X5) (k:Nat),(Xg Y x xs k=some .x0/\∀ y∈xs,¬ Xyy x y) \/
  ∃ (i:Nat) (y:X5),Xg Y x xs k=some (.x1 ((k+i:Nat):Int))/\xs[i]?=some y/\Xyy x y:=by
 intro xs
 induction xs with
 |nil=>intro k;exact .inl ⟨rfl,λy hy=>by cases hy⟩
 |cons z xs ih =>
  intro k;rw[Xg];by_cases h:Xyy x z
  ·right;have:(bif (bif (z.Key==x.Key) then (decide (z.Span.Start<x.Span.End)) else false) then (decide (x.Span.Start<z.Span.End)) else false)=true:=by
    obtain⟨h1,h2,h3⟩:=h;simp[h1,h2,h3]
   rw[this,cond_true];exact⟨0,z,rfl,rfl,h⟩
  ·have:(bif (bif (z.Key==x.Key) then (decide (z.Span.Start<x.Span.End)) else false) then (decide (x.Span.Start<z.Span.End)) else false)=false:=by
    rw[<-Bool.not_eq_true];intro hc;apply h;by_cases h1:z.Key=x.Key
    ·by_cases h2:z.Span.Start<x.Span.End
     ·by_cases h3:x.Span.Start<z.Span.End
      ·exact⟨h1,h2,h3⟩
      ·simp[h1,h2,h3] at hc
     ·simp[h1,h2] at hc
    ·have:(z.Key==x.Key)=false:=by simp[h1]
     simp[this] at hc
   rw[this,cond_false];rcases ih (k+1) with ⟨h1,h2⟩|⟨i,y,h1,h2,h3⟩
   ·exact .inl ⟨h1,λy hy=>(List.mem_cons.1 hy).elim (λe=>e▸h) (h2 y)⟩
   ·exact .inr ⟨i+1,y,by rw[h1];congr 2;omega,by simpa using h2,h3⟩
theorem Xz1 {w:X0g} {L:List Pu} {p:Pu} {es:List X5} (hk:w.Kind=3) (hw:1<=w.Size) (hl:L.length<=900) (hn:es.length<=3900) (c:X8m w L es) (hu:∀ e∈es,okA e.Values.e0/\okA e.Values.e1/\e.Values.e0.Count<=1000/\e.Values.e1.Count<=1000):∀ (f:Nat) (l:List X5) (x:X5) (M:List X5),l.length<f->Ses w L p es l x M ->
  ∃ es',X16 f l x=some (.x0 es' 0)/\X8m w (L++[p]) es'/\es'.length<=es.length+1:=by
 intro f
 induction f with
 |zero=>intro l x M h;omega
 |succ f ih =>
  intro l x M hf s;have hsl:l.Pairwise ltE:=c.sorted.sublist s.sub;have hll:l.length<=es.length:=s.sub.length_le;have hxv:okA x.Values.e0/\okA x.Values.e1/\x.Values.e0.Count<=1000/\x.Values.e1.Count<=1000:=by
   have h0:=Xkw p 0;have h1:=Xkw p 1;have h2:=X9k L p.1.Key M 0;have h3:=X9k L p.1.Key M 1;rw[s.val0,s.val1];refine⟨Xhc (by simp;omega),Xhc (by simp;omega),?_,?_⟩
   ·rw[X2q];simp;omega
   ·rw[X2q];simp;omega
  rw[X16];rw[X2n om,Yo];rcases Xwx l x l 0 with ⟨h1,h2⟩|⟨i,y,h1,h2,h3⟩
  ·rw[h1];simp only[Yo];have hneg:decide ((-1:Int)<0)=true:=by decide
   rw[hneg,cond_true]
   have hput:=Xyu (x:=x) hsl om ⟨hxv.1,hxv.2.1⟩ (λy hy _=>by
    obtain⟨a1,a2,a3,a4⟩:=hu y ((s.part y).2 (.inl hy))
    exact⟨a1,a2,by omega,by omega⟩)
   unfold putF at hput;refine⟨Xj5 l x,?_,Ses.end hk hw hl c s h2,by have:=Xj4 l x;omega⟩;rw[hput];rfl
  ·rw[h1];have hlt:i<l.length:=(Ys.1 h2).1;simp only[Yo,Nat.zero_add];have hneg:decide ((i:Int)<0)=false:=by simp
   rw[hneg,cond_false,X4m,h2,Yo];obtain⟨a1,a2,a3,a4⟩:=hu y ((s.part y).2 (.inl (Yg h2)));have hd:delI l (i:Int)=some (l.take i++l.drop (i+1)):=by
    unfold delI;rw[if_pos ⟨by omega,by simpa using hlt,by omega⟩];simp
   simp only[X38 hxv.1 a1 om,X38 hxv.2.1 a2 om,Yo,bne_self_eq_false,cond_false,hd];have hstep:=s.step hk hl c h2 h3;exact ih _ _ _ (by simp;omega) hstep
theorem Xiz {w:X0g} {L:List Pu} {p:Pu} {es:List X5} (hw:okW w) (hk:w.Kind=3) (hL:Xrl w (L++[p])) (c:X8m w L es) (hn:es.length<=3900) :
  ∃ es',X7a es w p.1 p.2=some (es',0)/\X8m w (L++[p]) es'/\es'.length<=es.length+1:=by
 have ht:=hL.time p (by simp);have hsd:=hL.side p (by simp);have hll:=hL.init.len;have hw1:=hw.1;have hw2:=hw.2.1;have hu:∀ e∈es,okA e.Values.e0/\okA e.Values.e1/\e.Values.e0.Count<=1000/\e.Values.e1.Count<=1000:=λe he=>by
  have:=((c.mem e).1 he).2;rw[this];exact Xk5 om _ _
 obtain⟨es',h1,h2,h3⟩:=Xz1 hk hw1 om hn c hu FU es _ [] (by unfold FU;omega) (Ses.start (p:=p) hw1);refine⟨es',?_,h2,h3⟩;have ht':=ht;unfold okT at ht';unfold X7a;have e1:(bif (p.2 != 0) then (p.2 != 1) else false)=false:=by rcases hsd with h|h<;>simp[h]
 have b1:decide (p.1.Time<((-1099511627776):Int))=false:=by simp;omega
 have b2:decide (p.1.Time>(1099511627776:Int))=false:=by simp;omega
 have e2:(bif (decide (p.1.Time<((-1099511627776):Int))) then true else (decide (p.1.Time>(1099511627776:Int))))=false:=by rw[b1,b2];rfl
 have e3:((X8l p.1.Value).bind λv14=>bif (p.2==(0:Int)) then (some (X5.mk p.1.Key (X0k.mk 0 0) (V2.mk v14 (X0x.mk 0 0 0 0)))) else (bif (p.2==(1:Int)) then (some (X5.mk p.1.Key (X0k.mk 0 0) (V2.mk (X0x.mk 0 0 0 0) v14))) else none):Option (X5))=some (X6l p ⟨0,0⟩):=by
  simp only[X8l,Yo];rcases hsd with h|h
  ·simp[h,X6l,ofA,Xb1]
  ·simp[h,X6l,ofA,Xb1]
 have e4:(bif (List.isEmpty es) then (some es) else ((X1p (List.length es) 88).bind λu28=>some es):Option ((List X5)))=some es:=by
  rw[X5q om];cases List.isEmpty es<;>rfl
 have e5:(w.Kind==3)=true:=by simp[hk]
 have c1:decide (w.Size<1)=false:=by simp;omega
 have c2:decide (w.Size>1073741824)=false:=by simp;omega
 have e6:X2r 0 w.Size=some 0:=by
  simp only[X2r,c1,c2,cond_false];rfl
 have e7:X2r p.1.Time w.Size=some 0:=by
  simp only[X2r,c1,c2,cond_false,b1,b2]
 have e8:X7l 1=some 1:=by decide +kernel
 rw[X98 c.sorted (Xhb hw hL.init c) om,Yo];simp only[bne_self_eq_false,cond_false,X3e hw,Yo,e1,e2];rw[e3,Yo,e4,Yo];simp only[e5,cond_true,e6,e7,e8,Yo,bne_self_eq_false,cond_false];have hg:X0u [X0k.mk p.1.Time (IntKind.i64.wrap (p.1.Time+w.Size))] 0=some ⟨p.1.Time,p.1.Time+w.Size⟩:=by
  rw[X0d om om];rfl
 rw[hg,Yo];have hent:(⟨(X6l p ⟨0,0⟩).Key,⟨p.1.Time,p.1.Time+w.Size⟩,(X6l p ⟨0,0⟩).Values⟩:X5)=X6l p ⟨p.1.Time,p.1.Time+w.Size⟩:=rfl;rw[hent,h1,Yo,Yo];have e9:decide ((es'.length:Int)>4000)=false:=by simp;omega
 simp only[bne_self_eq_false,cond_false,e9]
theorem Xer {w:X0g} {L:List Pu} {p:Pu} {es:List X5} (hw:okW w) (hL:Xrl w (L++[p])) (c:X8m w L es) (hn:es.length<=3900) :
  ∃ es',X7a es w p.1 p.2=some (es',0)/\X8m w (L++[p]) es'/\es'.length<=es.length+16:=by
 by_cases hk:w.Kind=3
 ·obtain⟨es',h1,h2,h3⟩:=Xiz hw hk hL c hn;exact⟨es',h1,h2,by omega⟩
 ·exact Xg7 hw hk hL c hn
theorem Xua {w:X0g} (hw:1<=w.Size):X8m w [] []:=by
 refine⟨List.Pairwise.nil,λe=>?_,λ_ k t ht=>?_⟩
 ·simp only[List.not_mem_nil,false_iff];rintro⟨h,_⟩;unfold Xd1 at h;split at h
  ·obtain⟨h1,h2,_⟩:=h;obtain⟨t,ht,_⟩:=h2 (2*e.Span.Start+1) om om;obtain⟨p,hp,_⟩:=ht;cases hp
  ·obtain⟨t,⟨p,hp,_⟩,_⟩:=h;cases hp
 ·obtain⟨p,hp,_⟩:=ht;cases hp
end Go.D


namespace Go.D
structure RQ (q:Xt):Prop where
 w:QW q
 ok:(Xvz q).2=0
theorem RQ.cz {q:Xt} (h:RQ q):Xrk q=0:=by
 have:=h.ok;unfold Xvz at this;split at this
 ·rename_i h1;exact absurd this h1
 ·rename_i h1;omega
theorem RQ.facts {q:Xt} (h:RQ q):(1<=q.Agg/\q.Agg<=4/\(q.Late=1\/q.Late=2))/\(q.Agg≠1->Xac q.Arg=0)/\(0<q.Where.length->Xac q.Where=0)/\X64 q.Sources q.Join=0/\okW q.Window/\(q.Join=true->q.Window.Kind=1):=by
 have hc:=h.cz;unfold Xrk at hc;split at hc
 ·cases hc
 ·rename_i h1;split at hc
  ·cases hc
  ·split at hc
   ·rename_i h2;exact absurd hc h2.2
   ·rename_i h2;split at hc
    ·rename_i h3;exact absurd hc h3.2
    ·rename_i h3;split at hc
     ·rename_i h4;exact absurd hc h4
     ·rename_i h4;split at hc
      ·cases hc
      ·rename_i h5;split at hc
       ·rename_i h6;refine⟨by omega,λha=>?_,λhw=>?_,by omega,h6,λhj=>?_⟩
        ·by_cases hz:Xac q.Arg=0
         ·exact hz
         ·exact absurd ⟨ha,hz⟩ h2
        ·by_cases hz:Xac q.Where=0
         ·exact hz
         ·exact absurd ⟨hw,hz⟩ h3
        ·by_cases hk:q.Window.Kind=1
         ·exact hk
         ·exact absurd ⟨hj,hk⟩ h5
       ·cases hc
theorem RQ.src {q:Xt} (h:RQ q):1<=q.Sources.length/\q.Sources.length<=4/\(q.Join=true->q.Sources.length=2):=by
 have hs:=h.facts.2.2.2.1;unfold X64 at hs;split at hs
 ·cases hs
 ·split at hs
  ·cases hs
  ·rename_i h1 h2;unfold Xoc at h2;have h2:((q.Sources.length==0||(q.Join&&q.Sources.length != 2))||q.Sources.any λx=>decide (x<0)||decide (x>3))=false:=by simpa using h2
   rw[Bool.or_eq_false_iff,Bool.or_eq_false_iff] at h2;have a1:q.Sources.length≠0:=by simpa using h2.1.1
   refine⟨by omega,by omega,λhj=>?_⟩;have:=h2.1.2;rw[hj] at this;simpa using this
def valA (agg:Int) (a:X0x):Int:=if agg=1 then a.Count else if agg=2 then a.Sum else if agg=3 then a.Min else a.Max
theorem Xbp {agg:Int} {a:X0x} (h1:1<=agg) (h2:agg<=4) (ha:okA a):X5z agg a=some (if a.Count=0 then (0,6) else (valA agg a,0)):=by
 unfold X5z;rw[Yf (show ¬ agg<1 by omega),Yf (show ¬ agg>4 by omega),X3f ha];simp only[cond_false,Yo,bne_self_eq_false];by_cases hc:a.Count=0
 ·rw[if_pos hc,hc];rfl
 ·rw[if_neg hc,show(a.Count==0)=false by simp[hc]];unfold valA;rcases(by omega:agg=1\/agg=2\/agg=3\/agg=4) with h|h|h|h<;>subst h<;>rfl
def live (q:Xt) (e:X5):Bool:=decide (e.Values.e0.Count≠0)&&(!q.Join||decide (e.Values.e1.Count≠0))
def rowE (q:Xt) (e:X5):X52:=⟨e.Key,e.Span,⟨valA q.Agg e.Values.e0,if q.Join then valA q.Agg e.Values.e1 else 0⟩⟩
def X66 (q:Xt) (es:List X5):List X52:=(es.filter (live q)).map (rowE q)
end Go.D


namespace Go.D
theorem RQ.rts {q:Xt} (h:RQ q):(0<q.Arg.length->(X1s q.Arg false).2=0)/\(0<q.Where.length->(X1s q.Where true).2=0):=by
 have h0:=h.ok;unfold Xvz at h0;rw[if_neg (by have:=h.cz;omega)] at h0;unfold rt at h0;split at h0
 ·rename_i h1;exact absurd h0 h1.2
 ·rename_i h1;split at h0
  ·rename_i h2;exact absurd h0 h2.2
  ·rename_i h2;refine⟨λha=>?_,λhw=>?_⟩
   ·by_cases hz:(X1s q.Arg false).2=0
    ·exact hz
    ·exact absurd ⟨ha,hz⟩ h1
   ·by_cases hz:(X1s q.Where true).2=0
    ·exact hz
    ·exact absurd ⟨hw,hz⟩ h2
theorem RQ.wher {q:Xt} (h:RQ q) (hw:0<q.Where.length) (r:X9):X5g q.Where r=some (evV q.Where r,0):=Xcx h.w.wher (Xoo (h.rts.2 hw)) r
theorem RQ.arg {q:Xt} (h:RQ q) (ha:q.Agg≠1) (r:X9):X5g q.Arg r=some (evV q.Arg r,0):=by
 have h1:=(Xbe (h.facts.2.1 ha)).2.1;exact Xcx h.w.arg (Xoo (h.rts.1 om)) r
def Xcy (q:Xt) (r:X9):Bool:=if 0<q.Where.length then decide (evV q.Where r≠0) else true
def Xmc (q:Xt) (r:X9):X9:=⟨if q.ByKey then r.Key else 0,r.Time,if q.Agg=1 then 0 else evV q.Arg r⟩
theorem Xe8 {q:Xt} (h:RQ q) (r:X9):X56 q r=some (if Xcy q r then (Xmc q r,true) else (⟨0,0,0⟩,false)):=by
 have body:((bif q.ByKey then (some (X9.mk r.Key r.Time 0)) else (some (X9.mk 0 r.Time 0)):Option (X9)).bind λXjf=>(bif (q.Agg != (1:Int)) then ((X5g q.Arg r).bind λv14=>some (X9.mk Xjf.Key Xjf.Time v14.1)) else (some Xjf):Option (X9)).bind λXlb=>some (Xlb,true))=some (Xmc q r,true):=by
  unfold Xmc;by_cases ha:q.Agg=1
  ·rw[show(q.Agg != 1)=false by simp[ha],if_pos ha];cases q.ByKey<;>rfl
  ·rw[Xfj ha,if_neg ha,h.arg ha r];cases q.ByKey<;>rfl
 unfold X56 Xcy;rw[body];by_cases hw:0<q.Where.length
 ·rw[Yt (show(q.Where.length:Int)>0 by omega),cond_true,if_pos hw,h.wher hw r];by_cases hv:evV q.Where r=0
  ·rw[hv];rfl
  ·simp[hv,show(evV q.Where r==0)=false by simp[hv]]
 ·rw[Yf (show ¬ (q.Where.length:Int)>0 by omega),cond_false,if_neg hw];rfl
def Xsc (q:Xt) (side:Int) (rs:List X9):List Pu:=(rs.filter (Xcy q)).map λr=>(Xmc q r,side)
theorem Xsb (q:Xt) (side:Int) (r:X9) (rs:List X9):Xsc q side (r::rs)=(if Xcy q r then [(Xmc q r,side)] else [])++Xsc q side rs:=by
 unfold Xsc;rw[List.filter_cons];split<;>simp
theorem Xw0 (q:Xt) (side:Int) (rs:List X9):(Xsc q side rs).length<=rs.length:=by unfold Xsc;rw[List.length_map];exact List.length_filter_le _ _
def X65 (q:Xt) (k:Int):Int:=if q.Join then k else 0
theorem Xmo {q:Xt} (h:RQ q) (late:List X9) (k0:Int) (Y:List (List Xa)) (a b:Int) (R:List X9) (hside:X65 q k0=0\/X65 q k0=1):∀ (xs:List X9) (k:Nat) (L:List Pu) (es:List X5),X8m q.Window L es->Xrl q.Window (L++Xsc q (X65 q k0) xs)->es.length+16*xs.length<=3900 ->
  ∃ es',X1x q late k0 Y a b R xs k es=some (.x0 es' late)/\X8m q.Window (L++Xsc q (X65 q k0) xs) es'/\es'.length<=es.length+16*xs.length
 |[],k,L,es,hc,ho,hn=>⟨es,rfl,by simpa[Xsc] using hc,by simp⟩
 |x::xs,k,L,es,hc,ho,hn=>by
  simp only[List.length_cons] at hn;rw[X1x,Xe8 h,Yo];rw[Xsb] at ho ⊢
  cases hcx:Xcy q x with
  |false =>
   rw[hcx] at ho;simp only[Bool.false_eq_true,if_false,List.nil_append] at ho ⊢;obtain⟨es',h1,h2,h3⟩:=Xmo h late k0 Y a b R hside xs (k+1) L es hc ho om;exact⟨es',h1,h2,by simp only[List.length_cons];omega⟩
  |true =>
   rw[hcx] at ho;simp only[if_true] at ho ⊢;rw[<-List.append_assoc] at ho ⊢;have ho1:Xrl q.Window (L++[(Xmc q x,X65 q k0)]):=⟨λp hp=>ho.time p (List.mem_append_left _ hp),λp hp=>ho.side p (List.mem_append_left _ hp),by have:=ho.len;rw[List.length_append] at this;omega⟩;obtain⟨es1,g1,g2,g3⟩:=Xer h.facts.2.2.2.2.1 ho1 hc om;have hs:(bif q.Join then (some k0) else (some 0):Option Int)=some (X65 q k0):=by unfold X65;cases q.Join<;>rfl
   rw[hs];simp only[Yo,Bool.not_true,cond_false];rw[g1];obtain⟨es',h1,h2,h3⟩:=Xmo h late k0 Y a b R hside xs (k+1) _ es1 g2 ho om;exact⟨es',h1,h2,by simp only[List.length_cons];omega⟩
def Xa7 (q:Xt):Nat->List (List Xa)->List Pu
 |_,[]=>[]
 |k,x::xs=>Xsc q (X65 q (k:Int)) (X55 x)++Xa7 q (k+1) xs
def Xde (l:List (List Xa)):List X9:=(l.map Xdg).flatten
theorem Xic (x:List Xa):(X55 x).length<=x.length:=by
 unfold X55;split
 ·exact Xoh _ _ _
 ·simp
theorem Xl7 (x:List Xa):(Xdg x).length<=x.length:=by
 unfold Xdg;split
 ·exact Xoh _ _ _
 ·simp
theorem Xss {q:Xt} (h:RQ q) (Y:List (List Xa)):∀ (xs:List (List Xa)) (k:Nat) (L:List Pu) (es:List X5) (la:List X9),(∀ x∈xs,chk x=0/\x.length<=60)->X8m q.Window L es->Xrl q.Window (L++Xa7 q k xs)->es.length+960*xs.length<=3900->la.length+60*xs.length<=10000->(∀ j,j<xs.length->X65 q ((k+j:Nat):Int)=0\/X65 q ((k+j:Nat):Int)=1) ->
  ∃ es',X1y q Y xs k es la=some (.x0 es' (la++Xde xs))/\X8m q.Window (L++Xa7 q k xs) es'/\es'.length<=es.length+960*xs.length
 |[],k,L,es,la,_,hc,_,_,_,_=>⟨es,by simp[X1y,Xde],by simpa[Xa7] using hc,by simp⟩
 |x::xs,k,L,es,la,hx,hc,ho,hn,hla,hsd=>by
  simp only[List.length_cons] at hn hla hsd;obtain⟨hx1,hx2⟩:=hx x List.mem_cons_self;have hr:=Xic x;have hl:=Xl7 x;rw[Xa7,<-List.append_assoc] at ho ⊢;have ho1:Xrl q.Window (L++Xsc q (X65 q (k:Int)) (X55 x)):=⟨λp hp=>ho.time p (List.mem_append_left _ hp),λp hp=>ho.side p (List.mem_append_left _ hp),by have:=ho.len;rw[List.length_append] at this;omega⟩;have hs0:X65 q (k:Int)=0\/X65 q (k:Int)=1:=by have:=hsd 0 om;simpa using this
  obtain⟨es1,g1,g2,g3⟩:=Xmo h (la++Xdg x) (k:Int) Y (Y.length:Int) (k:Int) (X55 x) hs0 (X55 x) 0 L es hc ho1 om;obtain⟨es',h1,h2,h3⟩:=Xss h Y xs (k+1) _ es1 (la++Xdg x) (λy hy=>hx y (List.mem_cons_of_mem _ hy)) g2 ho om (by rw[List.length_append];omega) (λj hj=>by have:=hsd (j+1) om;rw[show k+(j+1)=k+1+j by omega] at this;exact this);refine⟨es',?_,h2,by simp only[List.length_cons];omega⟩;rw[X1y,Xj7,Yo];simp only[hx1,bne_self_eq_false,cond_false];rw[show la++Xde (x::xs)=la++Xdg x++Xde xs by unfold Xde;simp,<-h1]
  cases hle:(Xdg x).isEmpty with
  |true =>
   rw[cond_true,X2n om,Yo,g1];rfl
  |false =>
   rw[cond_false,X5q (by rw[List.length_append];omega),Yo,X2n om,Yo,g1];rfl
theorem Xhv {q:Xt} (h1:1<=q.Agg) (h2:q.Agg<=4) {e:X5} (he:okE e):X8g q e=some (if live q e then (rowE q e,true) else (⟨0,⟨0,0⟩,⟨0,0⟩⟩,false)):=by
 obtain⟨_,_,_,a0,a1,_⟩:=he;unfold X8g live rowE;rw[Xbp h1 h2 a0,Xbp h1 h2 a1];simp only[Yo];by_cases c0:e.Values.e0.Count=0
 ·rw[if_pos c0];simp[c0]
 ·rw[if_neg c0]
  cases hj:q.Join with
  |false=>simp[c0]
  |true =>
   by_cases c1:e.Values.e1.Count=0
   ·simp[c1]
   ·simp[c0,c1]
theorem Xmn {q:Xt} (h1:1<=q.Agg) (h2:q.Agg<=4) (la:List X9) (E:List X5):∀ (xs:List X5) (k:Nat) (rows:List X52),(∀ e∈xs,okE e)->rows.length+xs.length<=10000->X2b q la E xs k rows=some (.x0 la (rows++X66 q xs))
 |[],k,rows,_,_=>by simp[X2b,X66]
 |x::xs,k,rows,ho,hn=>by
  simp only[List.length_cons] at hn;rw[X2b,Xhv h1 h2 (ho x List.mem_cons_self),Yo];unfold X66;rw[List.filter_cons]
  cases hl:live q x with
  |false =>
   simp only[Bool.false_eq_true,if_false,cond_false,Yo];exact Xmn h1 h2 la E xs (k+1) rows (λe he=>ho e (List.mem_cons_of_mem _ he)) om
  |true =>
   simp only[if_true,cond_true];rw[X5q (by rw[List.length_append,List.length_singleton];omega)];simp only[Yo];rw[Xmn h1 h2 la E xs (k+1) _ (λe he=>ho e (List.mem_cons_of_mem _ he)) (by rw[List.length_append,List.length_singleton];omega)];simp[X66]
structure RI (q:Xt) (l:List (List Xa)):Prop where
 rq:RQ q
 len:l.length=q.Sources.length
 ev:∀ x∈l,chk x=0/\x.length<=60
theorem Xku {late:Bool}:∀ (l:List Xa) (m:Int),(∀ x∈l,Xkd x=true)->∀ r∈Xev late m l,okT r.Time
 |[],_,_,r,hr=>by simp[Xev] at hr
 |x::l,m,h,r,hr=>by
  have ih:=Xku (late:=late) l (Xce m x) (λy hy=>h y (List.mem_cons_of_mem _ hy)) r;unfold Xev at hr;split at hr
  ·rename_i hc;rcases List.mem_cons.1 hr with rfl|hr
   ·have hm:x.Mark=false:=by
     cases hm:x.Mark with
     |false=>rfl
     |true=>simp[hm] at hc
    have:=h x List.mem_cons_self;unfold Xkd Xax at this;rw[hm] at this;simp at this;exact⟨this.2.1,this.2.2⟩
   ·exact ih hr
  ·exact ih hr
theorem Xgf {q:Xt}:∀ (l:List (List Xa)) (k:Nat) (p:Pu),p∈Xa7 q k l->∃ j x r,l[j]?=some x/\r∈X55 x/\Xcy q r=true/\p=(Xmc q r,X65 q ((k+j:Nat):Int))
 |[],k,p,h=>by simp[Xa7] at h
 |x::l,k,p,h=>by
  rw[Xa7] at h;rcases List.mem_append.1 h with h|h
  ·unfold Xsc at h;obtain⟨r,hr,rfl⟩:=List.mem_map.1 h;rw[List.mem_filter] at hr;exact⟨0,x,r,rfl,hr.1,hr.2,rfl⟩
  ·obtain⟨j,y,r,h1,h2,h3,h4⟩:=Xgf l (k+1) p h;exact⟨j+1,y,r,by simpa using h1,h2,h3,by rw[show k+(j+1)=k+1+j by omega];exact h4⟩
theorem Xky {q:Xt}:∀ (l:List (List Xa)) (k:Nat),(∀ x∈l,x.length<=60)->(Xa7 q k l).length<=60*l.length
 |[],k,_=>by simp[Xa7]
 |x::l,k,h=>by
  rw[Xa7,List.length_append,List.length_cons];have h1:=Xw0 q (X65 q (k:Int)) (X55 x);have h2:=Xic x;have h3:=h x List.mem_cons_self;have h4:=Xky (q:=q) l (k+1) λy hy=>h y (List.mem_cons_of_mem _ hy);omega
theorem RI.ok {q:Xt} {l:List (List Xa)} (h:RI q l):Xrl q.Window (Xa7 q 0 l):=by
 have hs:=h.rq.src;refine⟨λp hp=>?_,λp hp=>?_,?_⟩
 ·obtain⟨j,x,r,h1,h2,h3,rfl⟩:=Xgf l 0 p hp;have hx:=h.ev x (Yg h1);unfold X55 at h2;rw[if_pos hx.1] at h2;exact Xku x X4k (X01x.1 hx.1).2 r h2
 ·obtain⟨j,x,r,h1,h2,h3,rfl⟩:=Xgf l 0 p hp;have:=(Ys.1 h1).1;show X65 q _=0\/X65 q _=1;unfold X65;split
  ·rename_i hj;have:=hs.2.2 hj;have:=h.len;omega
  ·exact .inl rfl
 ·have:=Xky (q:=q) l 0 λx hx=>(h.ev x hx).2;have:=h.len;omega
theorem X9d {q:Xt} {l:List (List Xa)} (h:RI q l):∃ es,X8m q.Window (Xa7 q 0 l) es/\es.length<=3900/\X1i q l=some (X66 q es,if q.Late=2 then Xde l else [],0):=by
 have hs:=h.rq.src;have hf:=h.rq.facts;have hlen:=h.len;have hok:=h.ok
 obtain⟨es,h1,h2,h3⟩:=Xss h.rq l l 0 [] [] [] h.ev (Xua hf.2.2.2.2.1.1) (by simpa using hok) (by simp;omega) (by simp;omega) (λj hj=>by
  unfold X65;split
  ·rename_i hj2;have:=hs.2.2 hj2;omega
  ·exact .inl rfl)
 simp only[List.nil_append,List.length_nil,Nat.zero_add] at h1 h2 h3;refine⟨es,h2,by omega,?_⟩;unfold X1i;rw[Xh8 h.rq.w,Yo];rw[h.rq.ok];simp only[bne_self_eq_false,cond_false];rw[show((l.length:Int) != (q.Sources.length:Int))=false by rw[hlen];simp,cond_false,Xe7 om,Xg3.2 λx hx=>(h.ev x hx).1];simp only[Yo,bne_self_eq_false,cond_false];rw[X2n om,Yo,h1,Yo];simp only;rw[X2n om,Yo,Xmn hf.1.1 hf.1.2.1 _ _ es 0 [] (Xhb hf.2.2.2.2.1 hok h2) (by simp;omega)];simp only[Yo,List.nil_append];by_cases hL:q.Late=2
 ·rw[hL];rfl
 ·rw[Xfj hL,if_neg hL];rfl
end Go.D


namespace Go.D
theorem Xnw (x y:X52):Xk4 x y=decide (x=y):=by
 obtain⟨a,⟨b,c⟩,⟨d,e⟩⟩:=x;obtain⟨a',⟨b',c'⟩,⟨d',e'⟩⟩:=y;rw[Bool.eq_iff_iff];simp[Xk4,Xlp,Xlo,and_assoc]
theorem Xs5 (a:List X52):∀ (xs:List X52) (k:Nat),a.drop k=xs->X3j a a xs k=some .x0
 |[],k,_=>rfl
 |x::xs,k,h=>by
  have hk:a[k]?=some x:=by
   have:(a.drop k)[0]?=some x:=by rw[h];rfl
   simpa using this
  have hd:a.drop (k+1)=xs:=by
   have:(a.drop k).drop 1=xs:=by rw[h];rfl
   rw[List.drop_drop] at this;exact this
  rw[X3j,X4m,hk,Yo,Xnw];simp only[decide_true,Bool.not_true,cond_false];exact Xs5 a xs (k+1) hd
theorem Xs4 {a:List X52} (h:a.length<=10000):X3w a a=some true:=by
 unfold X3w;rw[show((a.length:Int) != (a.length:Int))=false by simp,cond_false,X2n om,Yo,Xs5 a a 0 rfl];rfl
theorem Xpg (q:Xt) (es:List X5):(X66 q es).length<=es.length:=by
 unfold X66;rw[List.length_map];exact List.length_filter_le _ _
def X9u (q:Xt) (l:List (List Xa)):List X9:=if q.Late=2 then Xde l else []
theorem Xwz (l:List (List Xa)):∀ (m n i:Nat),m=7 - i->i<=7->m<n->∃ o,X34 l n (i:Int)=some o/\(o=.x1->∀ j x,i<=j->j<7->l[j]?=some x->x.length<=20\/x.length=61):=by
 intro m
 induction m with
 |zero =>
  intro n i hm hi hn
  cases n with
  |zero=>omega
  |succ n =>
   have:i=7:=by omega
   subst this;refine⟨.x1,?_,λ_ j x h1 h2=>by omega⟩;rw[X34];cases decide (((7:Nat):Int)<(l.length:Int))<;>rfl
 |succ m ih =>
  intro n i hm hi hn
  cases n with
  |zero=>omega
  |succ n =>
   rw[X34];by_cases hl:i<l.length
   ·rw[Yt (show(i:Int)<(l.length:Int) by omega),cond_true,Yt (show(i:Int)<7 by omega),cond_true];have hg:X0u l (i:Int)=some (l[i]'hl):=by rw[X4m];exact Ye _
    rw[hg,Yo,X0d om om];obtain⟨o,h1,h2⟩:=ih n (i+1) om om om;rw[show((i+1:Nat):Int)=(i:Int)+1 by omega] at h1;by_cases hgt:(l[i]'hl).length>20/\(l[i]'hl).length≠61
    ·rw[Yt (show((l[i]'hl).length:Int)>20 by omega),Xfj (show ¬ ((l[i]'hl).length:Int)=61 by omega)];exact⟨.x0,rfl,λh=>by cases h⟩
    ·have e:(bif (decide (((l[i]'hl).length:Int)>(20:Int))) then (some (bif (decide (((l[i]'hl).length:Int)>(20:Int))) then (((l[i]'hl).length:Int) != (61:Int)) else false)) else (some (bif (decide (((l[i]'hl).length:Int)>(20:Int))) then false else false)):Option (Bool))=some false:=by
      by_cases h20:(l[i]'hl).length>20
      ·rw[Yt (show((l[i]'hl).length:Int)>20 by omega),show(l[i]'hl).length=61 by omega];rfl
      ·rw[Yf (show ¬ ((l[i]'hl).length:Int)>20 by omega)];rfl
     rw[e,Yo,cond_false];refine⟨o,h1,λho j x hj1 hj2 hj3=>?_⟩;by_cases hji:j=i
     ·subst hji;rw[Ye hl] at hj3;cases hj3;omega
     ·exact h2 ho j x om hj2 hj3
   ·rw[Yf (show ¬ (i:Int)<(l.length:Int) by omega)];refine⟨.x1,rfl,λ_ j x h1 h2 h3=>?_⟩;have:=(Ys.1 h3).1;omega
theorem Xhk (l:List (List Xa)):∃ b,X86 l=some b/\(b=false->l.length<=6/\∀ x∈l,x.length<=20\/x.length=61):=by
 unfold X86;obtain⟨o,h1,h2⟩:=Xwz l 7 FU 0 rfl om (by unfold FU;omega);rw[show((0:Nat):Int)=0 from rfl] at h1;rw[h1,Yo]
 cases o with
 |x0=>exact⟨true,rfl,λh=>by cases h⟩
 |x1 =>
  refine⟨_,rfl,λhb=>?_⟩;have hb:=of_decide_eq_false hb;refine⟨by omega,λx hx=>?_⟩;obtain⟨j,hj,e⟩:=List.getElem_of_mem hx;exact h2 rfl j x (Nat.zero_le _) om (by rw[Ye hj,e])
theorem Xhr (q:Xt):∃ b,X8a q=some b:=by
 unfold X8a X8c;simp only[Yo];cases decide ((q.Arg.length:Int)>70)<;>cases decide ((q.Where.length:Int)>70)<;>exact⟨_,rfl⟩
end Go.D


namespace Go.D
theorem Xl4 {q:Xt} (hq:QW q) (l:List (List Xa)):∃ b,Xbh q l=some b/\(b=true->RI q l/\∀ x∈l,x.length<=20):=by
 unfold Xbh;obtain⟨g,hg⟩:=Xhr q;rw[hg,Yo]
 cases g with
 |true=>exact⟨false,rfl,λh=>by cases h⟩
 |false =>
  obtain⟨b,hb,hb2⟩:=Xhk l;rw[Bool.not_false,cond_true,hb,Yo]
  cases b with
  |true=>exact⟨false,rfl,λh=>by cases h⟩
  |false =>
   obtain⟨hl,hx⟩:=hb2 rfl;unfold Xa2;rw[Xhq hq];simp only[Bool.not_false,cond_true,Yo];by_cases hz:(Xvz q).2=0
   ·rw[hz];simp only[bne_self_eq_false,cond_false];by_cases hlen:l.length=q.Sources.length
    ·rw[show((l.length:Int) != (q.Sources.length:Int))=false by rw[hlen];simp,cond_false,Xhj om];simp only[Yo];by_cases hw:Xau l=0
     ·refine⟨true,by rw[hw];rfl,λ_=>?_⟩;have hev:=Xg3.1 hw;have h20:∀ x∈l,x.length<=20:=λx hxm=>by
       have:=Xu6 (hev x hxm);have:=hx x hxm;omega
      exact⟨⟨⟨hq,hz⟩,hlen,λx hxm=>⟨hev x hxm,by have:=h20 x hxm;omega⟩⟩,h20⟩
     ·exact⟨false,by rw[show(Xau l==0)=false by simp[hw]],λh=>by cases h⟩
    ·rw[show((l.length:Int) != (q.Sources.length:Int))=true by simp;omega];exact⟨false,rfl,λh=>by cases h⟩
   ·rw[Xfj hz];simp only[cond_true,Yo];exact⟨false,by rw[show((Xvz q).2==0)=false by simp[hz]],λh=>by cases h⟩
theorem Xra:Xaf=some true:=by decide +kernel
end Go.D


namespace Go.D
theorem Xxf {z:Int} (h:wfI .u8 z):0<=z:=by
 have h:=h;simp only[wfI,Lit.wf,IntKind.bits,IntKind.signed] at h;simp at h;have e1:IntKind.u8.min=0:=by decide
 omega
theorem Xy7 {z:Int} (h:wfI .i64 z):z<=9223372036854775807 /\ -9223372036854775808<=z:=by
 have h:=h;simp only[wfI,Lit.wf,IntKind.bits,IntKind.signed] at h;simp at h;have e1:IntKind.i64.min = -9223372036854775808:=by decide
 have e2:IntKind.i64.max=9223372036854775807:=by decide
 omega
theorem X02n {q:Xt} (w:Xg4 q):QW q:=by
 obtain⟨_,⟨_,h1⟩,_,_,⟨_,h2⟩,h3,_⟩:=w;exact⟨λx hx=>Xxf (h1 x hx).1,λx hx=>Xxf (h2 x hx).1,Xy7 h3.2.2⟩
end Go.D


namespace Go.D
theorem Xsi {l:List Xa} (hn:l.length<=1000):Xc0 l=some (Xbg X4k l):=by
 have key:∀ (xs:List Xa) (k:Nat) (m:Int),X5l l xs k m=some (.x0 (Xbg m xs)):=by
  intro xs
  induction xs with
  |nil=>intro k m;rfl
  |cons x xs ih =>
   intro k m;rw[X5l];have hm:Xbg m (x::xs)=Xbg (Xce m x) xs:=rfl;rw[hm];unfold Xce
   cases hx:x.Mark with
   |false=>simp only[cond_false,Yo];rw[ih];simp
   |true =>
    simp only[cond_true,Yo];by_cases h:x.Time>m
    ·rw[Yt h,cond_true,Yo,ih,if_pos trivial,if_pos h]
    ·rw[Yf h,cond_false,Yo,ih,if_pos trivial,if_neg h]
 unfold Xc0;rw[X2n om,Yo,show(-9223372036854775808:Int)=X4k from rfl,key];rfl
def Xms:Int->List Xa->List Xa
 |_,[]=>[]
 |m,x::l=>if x.Mark||decide (x.Record.Time >= m) then x::Xms (Xce m x) l else Xms (Xce m x) l
theorem Xj8:∀ (l:List Xa) (m:Int),(Xms m l).Sublist l
 |[],_=>.slnil
 |x::l,m=>by
  unfold Xms;split
  ·exact(Xj8 l _).cons_cons x
  ·exact(Xj8 l _).cons x
theorem Xdi:∀ (l:List Xa) (m:Int),Xev false m (Xms m l)=Xev false m l
 |[],_=>rfl
 |x::l,m=>by
  unfold Xms
  cases hm:x.Mark with
  |true =>
   simp only[Bool.true_or,if_true];rw[Xev,Xev,Xdi l]
  |false =>
   have hs:Xce m x=m:=by unfold Xce;rw[hm];rfl
   by_cases h:x.Record.Time >= m
   ·rw[Yt h];simp only[Bool.or_true,if_true];rw[Xev,Xev,Xdi l]
   ·rw[Yf h];simp only[Bool.or_false,Bool.false_eq_true,if_false];rw[Xev,hs,Xdi l,hm];have hlt:x.Record.Time<m:=by omega
    simp[hlt]
theorem Xge (b:Bool) (a:Xa):∀ (l:List Xa) (m:Int),Xev b m (l++[a])=Xev b m l++(if !a.Mark&&(decide (a.Record.Time<Xbg m l)==b) then [a.Record] else [])
 |[],m=>rfl
 |x::l,m=>by
  have hm:Xbg m (x::l)=Xbg (Xce m x) l:=rfl;rw[List.cons_append,Xev,Xev,Xge b a l,hm];split<;>simp
theorem Xy1 {l:List Xa} (h1:l.length<=60) (h2:l.all Xkd=true):chk l=0:=by
 unfold chk;rw[if_neg om,h2];rfl
theorem Xu7 {l:List Xa} (h:chk l=0):l.all Xkd=true:=by
 unfold chk at h;split at h
 ·cases h
 ·cases hq:l.all Xkd with
  |true=>rfl
  |false=>rw[hq] at h;cases h
theorem Xkx {q:Xt} {x y:List Xa} (hr:X55 y=X55 x):∀ (l:List (List Xa)) (j k:Nat),l[k]?=some x->Xa7 q j (l.set k y)=Xa7 q j l
 |[],_,_,h=>by simp at h
 |z::l,j,0,h=>by
  simp at h;subst h;rw[List.set_cons_zero,Xa7,Xa7,hr]
 |z::l,j,k+1,h=>by
  rw[List.set_cons_succ,Xa7,Xa7,Xkx hr l (j+1) k (by simpa using h)]
theorem Xl5 {x y:List Xa}:∀ (l:List (List Xa)) (k:Nat),l[k]?=some x->(Xde (l.set k y)).length+(Xdg x).length=(Xde l).length+(Xdg y).length
 |[],_,h=>by simp at h
 |z::l,0,h=>by
  simp at h;subst h;simp[Xde];omega
 |z::l,k+1,h=>by
  have:=Xl5 (y:=y) l k (by simpa using h);simp[Xde] at this ⊢;omega
theorem RI.set {q:Xt} {l:List (List Xa)} (h:RI q l) {k:Nat} {y:List Xa} (hy:chk y=0/\y.length<=60):RI q (l.set k y) :=
 ⟨h.rq,by rw[List.length_set];exact h.len,λx hx=>by
  rcases List.mem_or_eq_of_mem_set hx with hx|hx
  ·exact h.ev x hx
  ·rw[hx];exact hy⟩
theorem Xui {q:Xt} {l:List (List Xa)} (h:RI q l) {k:Nat} {x y:List Xa} (hk:l[k]?=some x) (hy:chk y=0/\y.length<=60) (hr:X55 y=X55 x) :
  ∃ es,es.length<=3900/\X1i q l=some (X66 q es,X9u q l,0)/\X1i q (l.set k y)=some (X66 q es,X9u q (l.set k y),0):=by
 obtain⟨e1,a1,a2,a3⟩:=X9d h;obtain⟨e2,b1,b2,b3⟩:=X9d (h.set (k:=k) hy);rw[Xkx hr l 0 k hk] at b1;have:=a1.unique b1;subst this;exact⟨e1,a2,a3,b3⟩
theorem Xz4 {ev:List (List Xa)} {x:List Xa} {i:Nat} (hi:ev[i]?=some x) (hx:x.length<=60) (q:Xt) (r:X9) (b:Bool) (R:List X52) (la:List X9):∀ (m f j:Nat) (acc:List Xa),m=x.length - j->m<f->j<=x.length->acc.length+m<=100 ->
  X19 ev q r b R la (i:Int) ev f acc (j:Int)=some (.x0 (acc++Xms (Xbg X4k (x.take j)) (x.drop j))):=by
 intro m
 induction m with
 |zero =>
  intro f j acc hm hf hj _;obtain⟨f,rfl⟩:∃ q,f=q+1:=⟨f - 1,by omega⟩;rw[X19,X4m,hi,Yo,Yf om,List.drop_eq_nil_of_le om];simp[Xms]
 |succ m ih =>
  intro f j acc hm hf hj hacc;obtain⟨f,rfl⟩:∃ q,f=q+1:=⟨f - 1,by omega⟩;have hlt:j<x.length:=by omega
  have hsl:X50 x 0 (j:Int)=some (x.take j):=by
   unfold X50;rw[if_pos ⟨by omega,by omega,by simp;omega⟩];simp
  have hmk:Xbg X4k (x.take (j+1))=Xce (Xbg X4k (x.take j)) x[j]:=by
   rw[List.take_succ_eq_append_getElem hlt];unfold Xbg;rw[List.foldl_append];rfl
  rw[X19,X4m,hi,Yo,Yt (show(j:Int)<(x.length:Int) by omega),cond_true,X4m,Ye hlt,Yo,hsl,Yo,Xsi (by rw[List.length_take];omega),Yo];have hcond:(bif x[j].Mark then (some true) else (some (bif x[j].Mark then true else (decide (x[j].Record.Time >= Xbg X4k (x.take j))))):Option Bool)=some (x[j].Mark||decide (x[j].Record.Time >= Xbg X4k (x.take j))):=by
   cases x[j].Mark<;>rfl
  rw[hcond,Yo,List.drop_eq_getElem_cons hlt,Xms,<-hmk];have hw:IntKind.i64.wrap ((j:Int)+1)=((j+1:Nat):Int):=by rw[X0d om om];omega
  cases hc:(x[j].Mark||decide (x[j].Record.Time >= Xbg X4k (x.take j))) with
  |true =>
   simp only[cond_true,if_true,Yo];rw[X5q (by rw[List.length_append,List.length_singleton];omega),Yo,Yo,hw,ih f (j+1) _ om om om (by rw[List.length_append,List.length_singleton];omega)];simp
  |false =>
   simp only[cond_false,Bool.false_eq_true,if_false,Yo];rw[hw,ih f (j+1) _ om om om om]
theorem Xp8 {r:X9} {b:Bool} (h:X35 (Xa.mk false 0 (X9.mk r.Key r.Time r.Value))=some b) (hb:b=true):Xkd (Xa.mk false 0 (X9.mk r.Key r.Time r.Value))=true:=by
 unfold X35 at h;unfold Xkd Xax;subst hb;simp only[cond_false,beq_self_eq_true,cond_true] at h ⊢;unfold X3k at h;by_cases h1:r.Time < -1099511627776
 ·rw[Yt h1] at h;cases h
 ·by_cases h2:r.Time>1099511627776
  ·rw[Yf h1,Yt h2] at h;cases h
  ·rw[Yt (show -1099511627776<=r.Time by omega),Yt (show r.Time<=1099511627776 by omega)];rfl
theorem Xm6 (a:Xa):∃ b,X35 a=some b:=by
 unfold X35;have h13:∀ t,∃ v,X3k t 1=some v:=λt=>by
  unfold X3k;rw[Yf (show ¬ (1:Int)<1 by omega),Yf (show ¬ (1:Int)>1073741824 by omega)];cases decide (t < -1099511627776)<;>cases decide (t>1099511627776)<;>exact⟨_,rfl⟩
 obtain⟨v,hv⟩:=h13 a.Time;obtain⟨w,hw⟩:=h13 a.Record.Time;rw[hv,hw];cases a.Mark<;>cases X2j a.Record (X9.mk 0 0 0)<;>cases(a.Time==9223372036854775807)<;>cases(a.Time==0)<;>exact⟨_,rfl⟩
theorem Xsx {q:Xt} {ev:List (List Xa)} (h:RI q ev) (h20:∀ x∈ev,x.length<=20) (r:X9) (b:Bool) {es:List X5} (hes:es.length<=3900) (hev:X1i q ev=some (X66 q es,X9u q ev,0)):∀ (xs:List (List Xa)) (k:Nat),ev.drop k=xs ->
  X0s ev q r b (X66 q es) (X9u q ev) xs k=some .x0
 |[],k,_=>rfl
 |x::xs,k,hd=>by
  have hk:ev[k]?=some x:=by
   have:=congrArg (λz=>z[0]?) hd;simpa using this
  have hd':ev.drop (k+1)=xs:=by
   have:=congrArg List.tail hd;simpa using this
  have hxm:=Yg hk;have hx20:=h20 x hxm;have hxc:=(h.ev x hxm).1;have hlen:=h.len;have hsrc:=h.rq.src;have ih:=Xsx h h20 r b hes hev xs (k+1) hd';have hrl:=Xpg q es;have hsame:X3w (X66 q es) (X66 q es)=some true:=Xs4 om;have h1:=Xz4 hk om q r b (X66 q es) (X9u q ev) (x.length - 0) FU 0 [] rfl (by unfold FU;omega) om (by simp;omega);rw[show((0:Nat):Int)=0 from rfl,List.nil_append,List.take_zero,List.drop_zero,show Xbg X4k []=X4k from rfl] at h1;have hks:=Xj8 x X4k;have hkl:=hks.length_le;have hkc:chk (Xms X4k x)=0/\(Xms X4k x).length<=60:=by
   refine⟨Xy1 om ?_,by omega⟩;have:=Xu7 hxc;rw[List.all_eq_true] at this ⊢;exact λy hy=>this y (hks.mem hy)
  have hkr:X55 (Xms X4k x)=X55 x:=by unfold X55;rw[if_pos hkc.1,if_pos hxc,Xdi]
  obtain⟨es1,g1,g2,g3⟩:=Xui h hk hkc hkr;have hrow1:X66 q es1=X66 q es:=by
   rw[hev] at g2;have:=congrArg (λz=>z.map Prod.fst) g2;simpa using this.symm
  rw[hrow1] at g3;rw[X0s,X5q om,Yo,h1,Yo];simp only[Int.toNat_natCast];rw[g3,Yo];simp only[bne_self_eq_false,cond_false];rw[hsame,Yo];simp only[Bool.not_true,Yo,cond_false];rw[show Xae r.Key r.Time r.Value=some (Xa.mk false 0 (X9.mk r.Key r.Time r.Value)) from rfl,Yo];obtain⟨v,hv⟩:=Xm6 (Xa.mk false 0 (X9.mk r.Key r.Time r.Value));rw[hv,Yo]
  cases v with
  |false=>exact ih
  |true =>
  rw[Xsi om];simp only[Bool.not_true,cond_false,Yo];by_cases hlate:r.Time >= Xbg X4k x
  ·rw[Yt hlate];exact ih
  rw[Yf hlate];rw[Yf (show ¬ ((List.length x:Int) >= 60) by omega)];simp only[cond_false,Yo];have hyc:chk (x++[Xa.mk false 0 (X9.mk r.Key r.Time r.Value)])=0/\(x++[Xa.mk false 0 (X9.mk r.Key r.Time r.Value)]).length<=60:=by
   refine⟨Xy1 (by rw[List.length_append,List.length_singleton];omega) ?_,by rw[List.length_append,List.length_singleton];omega⟩;rw[List.all_append,Xu7 hxc];simp only[List.all_cons,List.all_nil,Bool.true_and,Bool.and_true];exact Xp8 hv rfl
  have hlt:r.Time<Xbg X4k x:=by omega
  have hyr:X55 (x++[Xa.mk false 0 (X9.mk r.Key r.Time r.Value)])=X55 x:=by
   unfold X55;rw[if_pos hyc.1,if_pos hxc,Xge];simp[hlt]
  have hyl:(Xdg (x++[Xa.mk false 0 (X9.mk r.Key r.Time r.Value)])).length=(Xdg x).length+1:=by
   unfold Xdg;rw[if_pos hyc.1,if_pos hxc,Xge];simp[hlt]
  obtain⟨es2,k1,k2,k3⟩:=Xui h hk hyc hyr;have hrow2:X66 q es2=X66 q es:=by
   rw[hev] at k2;have:=congrArg (λz=>z.map Prod.fst) k2;simpa using this.symm
  rw[hrow2] at k3;have hset:((ev.set k (Xms X4k x)).set k (x++[Xa.mk false 0 (X9.mk r.Key r.Time r.Value)]))=ev.set k (x++[Xa.mk false 0 (X9.mk r.Key r.Time r.Value)]):=by rw[List.set_set]
  have hklt:k<ev.length:=(Ys.1 hk).1;have hget:X0u (ev.set k (Xms X4k x)) (k:Int)=some (Xms X4k x):=by rw[X4m,List.getElem?_set_self hklt]
  have hll:(X9u q ev).length<=100000:=by
   unfold X9u;split
   ·have:∀ l:List (List Xa),(∀ x∈l,x.length<=20)->(Xde l).length<=20*l.length:=by
     intro l
     induction l with
     |nil=>intro _;simp[Xde]
     |cons z l ih =>
      intro hz;have h1:=ih λy hy=>hz y (by simp[hy]);have h2:=Xl7 z;have h3:=hz z (by simp);simp[Xde] at h1 ⊢;omega
    have:=this ev h20;omega
   ·simp
  have hlen2:q.Late=2->((List.length (X9u q (ev.set k (x++[Xa.mk false 0 (X9.mk r.Key r.Time r.Value)]))):Int) != IntKind.i64.wrap ((List.length (X9u q ev):Int)+1))=false:=by
   intro hL;rw[X0d om om];unfold X9u;rw[if_pos hL,if_pos hL];have:=Xl5 (y:=x++[Xa.mk false 0 (X9.mk r.Key r.Time r.Value)]) ev k hk;rw[hyl] at this;simp;omega
  rw[hset,hget,k3];simp only[Yo,bne_self_eq_false,cond_false];rw[hsame];simp only[Yo,Bool.not_true,cond_false];rw[X5q (by rw[List.length_append,List.length_singleton];omega),X5q om];simp only[Yo];by_cases hL:q.Late=2
  ·rw[show(q.Late==2)=true by simpa using hL];simp only[cond_true,hlen2 hL,Yo,cond_false,ih];cases x.isEmpty<;>rfl
  ·rw[show(q.Late==2)=false by simpa using hL];simp only[cond_false,Yo,ih];cases x.isEmpty<;>rfl
theorem Xsw {q:Xt} (hq:QW q) (ev:List (List Xa)) (r:X9):X3c q ev r=some true:=by
 obtain⟨b,hb,hb2⟩:=Xl4 hq ev;unfold X3c;rw[Xra,Yo,hb,Yo]
 cases b with
 |false=>rfl
 |true =>
  obtain⟨h,h20⟩:=hb2 rfl;have hlen:=h.len;have hsrc:=h.rq.src;obtain⟨es,a1,a2,a3⟩:=X9d h;have a3:X1i q ev=some (X66 q es,X9u q ev,0):=a3;have h0:=Xsx h h20 r true a2 a3 ev 0 rfl;simp only[Bool.not_true,cond_false];rw[a3,Yo];simp only[bne_self_eq_false,cond_false];rw[X2n om,h0];by_cases hL:q.Late=1
  ·have hl0:X9u q ev=[]:=by unfold X9u;rw[if_neg om]
   rw[hl0,show(q.Late==1)=true by simpa using hL];rfl
  ·rw[show(q.Late==1)=false by simpa using hL];rfl
theorem Xch (q:Xt) (ev:List (List Xa)) (r:X9) (w0:Xg4 q) {P1:Prop} (_:P1) {P2:Prop} (_:P2):X3c q ev r=some true:=Xsw (X02n w0) ev r
end Go.D
