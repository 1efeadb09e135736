/- What PrefixOrder says: parts of multisets, by counting. -/
import Derived.Test.YtoodllakhlkekaaGreatDoorDFunZ
set_option linter.all false

namespace Go.D
open Go.Av
section
variable {α:Type} [DecidableEq α]
theorem Xak {z:Int} (h1 : -4611686018427387904<=z) (h2:z<=4611686018427387904):IntKind.i64.wrap z=z:=X7j om om
theorem Xeg:∀ (xs:List α) (ks:List (α×Int)),(∀ y,0<=X2b y ks/\X2b y ks+xs.length<=4611686018427387904)->∀ y,X2b y (X0y ks xs)=X2b y ks+xs.count y:=by
 intro xs
 induction xs with
 |nil=>intro ks _ y;simp[X0y]
 |cons x xs ih =>
  intro ks h y;have hx:=h x;simp only[List.length_cons] at hx;have hw:IntKind.i64.wrap (X2b x ks+1)=X2b x ks+1:=Xak om om;rw[X0y,hw];rw[ih]
  ·by_cases hy:y=x
   ·subst hy;rw[X56,List.count_cons_self];omega
   ·rw[X30 hy,List.count_cons_of_ne (λe=>hy e.symm)]
  ·intro z;have hz:=h z;simp only[List.length_cons] at hz;by_cases hy:z=x
   ·subst hy;rw[X56];omega
   ·rw[X30 hy];omega
theorem Xdb:∀ (xs:List α) (ks:List (α×Int)),(∀ y,0<=X2b y ks/\X2b y ks<=4611686018427387904)->(X0k ks xs=true↔∀ y,(xs.count y:Int)<=X2b y ks):=by
 intro xs
 induction xs with
 |nil=>intro ks h;simp[X0k];exact λy=>(h y).1
 |cons x xs ih =>
  intro ks h;have hx:=h x;have hw:IntKind.i64.wrap (X2b x ks - 1)=X2b x ks - 1:=Xak om om;rw[X0k,hw,X56];by_cases hn:X2b x ks - 1<0
  ·rw[Yt hn,cond_true];constructor
   ·intro h;cases h
   ·intro h2;have:=h2 x;rw[List.count_cons_self] at this;omega
  ·rw[Yf hn,cond_false,ih]
   ·constructor
    ·intro h2 y;have h3:=h2 y;by_cases hy:y=x
     ·subst hy;rw[X56] at h3;rw[List.count_cons_self];omega
     ·rw[X30 hy] at h3;rw[List.count_cons_of_ne (λe=>hy e.symm)];exact h3
    ·intro h2 y;have h3:=h2 y;by_cases hy:y=x
     ·subst hy;rw[X56];rw[List.count_cons_self] at h3;omega
     ·rw[X30 hy];rw[List.count_cons_of_ne (λe=>hy e.symm)] at h3;exact h3
   ·intro z;have hz:=h z;by_cases hy:z=x
    ·subst hy;rw[X56];omega
    ·rw[X30 hy];exact hz
theorem X50 (a b:List α) (hb:b.length<=4611686018427387904):X0k (X0y [] b) a=true↔∀ y,a.count y<=b.count y:=by
 have h0:∀ y,X2b y (X0y [] b)=b.count y:=λy=>by
  rw[Xeg b [] (λy=>by simp[X2b];omega)];simp[X2b]
 rw[Xdb]
 ·constructor
  ·intro h y;have:=h y;rw[h0] at this;omega
  ·intro h y;have:=h y;rw[h0];omega
 ·intro y;rw[h0];have:=List.count_le_length (a:=y) (l:=b);omega
theorem X6l:∀ (a b:List α),(∀ y,a.count y<=b.count y)->a.length<=b.length/\(a.length=b.length->∀ y,b.count y<=a.count y):=by
 intro a
 induction a with
 |nil =>
  intro b _;refine⟨by simp,λh y=>?_⟩;have:b=[]:=List.eq_nil_of_length_eq_zero (by simpa using h.symm);subst this;simp
 |cons x a ih =>
  intro b h;have hx:x∈b:=by
   have:=h x;rw[List.count_cons_self] at this;exact List.count_pos_iff.1 om
  have hp:=List.perm_cons_erase hx;have hc:∀ y,b.count y=(x::b.erase x).count y:=λy=>hp.count_eq y
  obtain⟨h1,h2⟩:=ih (b.erase x) (λy=>by
   have h3:=h y;rw[hc y] at h3;by_cases hy:y=x
   ·subst hy;rw[List.count_cons_self,List.count_cons_self] at h3;omega
   ·rw[List.count_cons_of_ne (λe=>hy e.symm),List.count_cons_of_ne (λe=>hy e.symm)] at h3;exact h3)
  have hl:b.length=(b.erase x).length+1:=by rw[hp.length_eq];simp
  refine⟨by simp;omega,λhe y=>?_⟩;have h3:=h2 (by simp at he;omega) y;rw[hc y];by_cases hy:y=x
  ·subst hy;rw[List.count_cons_self,List.count_cons_self];omega
  ·rw[List.count_cons_of_ne (λe=>hy e.symm),List.count_cons_of_ne (λe=>hy e.symm)];exact h3
theorem X7x (a b:List α) (ha:a.length<=4611686018427387904) (hb:b.length<=4611686018427387904):(X0k (X0y [] b) a&&X0k (X0y [] a) b)=(X0k (X0y [] b) a&&decide (a.length=b.length)):=by
 rw[Bool.eq_iff_iff];simp only[Bool.and_eq_true,decide_eq_true_eq];rw[X50 a b hb,X50 b a ha];constructor
 ·rintro⟨h1,h2⟩;refine⟨h1,?_⟩;have:=(X6l a b h1).1;have:=(X6l b a h2).1;omega
 ·rintro⟨h1,h2⟩;exact⟨h1,(X6l a b h1).2 h2⟩
end
theorem Xuq (n:Nat):decide ((n:Int)>4000)=decide (4000<n):=decide_eq_decide.2 om
theorem g100 (n:Nat):decide ((n:Int)>100)=decide (100<n):=decide_eq_decide.2 om
theorem Xxf (n:Nat):decide ((n:Int)>4010)=decide (4010<n):=decide_eq_decide.2 om
theorem Xwv (n:Nat):decide ((n:Int)<=4000)=decide (n<=4000):=decide_eq_decide.2 om
def X89 (x:Xb):Bool:=decide (4000<x.Rows.length)||decide (4000<x.Late.length)
theorem Xmy (a b:Xb):X2e [a,b]=some (if X89 a||X89 b then 4 else 0):=by
 have h0:X0n [a,b] [a,b] 0=some (if X89 a||X89 b then .x1 else .x0):=by
  unfold X89;simp only[X0n,Xuq];by_cases h1:4000<a.Rows.length<;>by_cases h2:4000<a.Late.length<;>by_cases h3:4000<b.Rows.length<;>by_cases h4:4000<b.Late.length<;>simp[h1,h2,h3,h4]
 unfold X2e;rw[h0];by_cases h:(X89 a||X89 b)=true
 ·simp[h,X5p]
 ·simp[h,X5p]
def X9l (x:Xb):Bool:=decide (100<x.Rows.length/\x.Rows.length<=4000)||decide (4010<x.Rows.length)||decide (100<x.Late.length/\x.Late.length<=4000)||decide (4010<x.Late.length)
theorem Xa4 (x:Xb):X1q x=some (X9l x):=by
 unfold X1q X9l;simp only[Xuq,g100,Xxf,Xwv];by_cases h1:100<x.Rows.length<;>by_cases h2:x.Rows.length<=4000<;>by_cases h3:4010<x.Rows.length<;>by_cases h4:100<x.Late.length<;>by_cases h5:x.Late.length<=4000<;>by_cases h6:4010<x.Late.length<;>simp[h1,h2,h3,h4,h5,h6]
theorem X7p {n:Nat} (h:n<=140737488355328):X5p n=some ():=by unfold X5p;rw[if_pos h]
def X8s (a b:Xb):Bool:=X0k (X0y [] b.Rows) a.Rows&&X0k (X0y [] b.Late) a.Late
structure Few (a:Xb):Prop where
 wf:X2v a
 r:a.Rows.length<=3001
 l:a.Late.length<=3001
theorem X3a {a b:Xb} (hb:Few b):X8s a b=true↔(∀ y,a.Rows.count y<=b.Rows.count y)/\∀ y,a.Late.count y<=b.Late.count y:=by
 have h1:=hb.r;have h2:=hb.l;unfold X8s;rw[Bool.and_eq_true,X50 _ _ om,X50 _ _ om]
theorem Xd2 {a b:Xb} (ha:Few a) (hb:Few b):X24 a b=some (X8s a b,0):=by
 have a1:=ha.r;have a2:=ha.l;have b1:=hb.r;have b2:=hb.l;have hr:X0x a.Rows b.Rows=some (X0k (X0y [] b.Rows) a.Rows):=by
  unfold X0x;rw[X7p om,X7p om,X9s ha.wf.1.2,X9s hb.wf.1.2];rfl
 have hl:X0g a.Late b.Late=some (X0k (X0y [] b.Late) a.Late):=by
  unfold X0g;rw[X7p om,X7p om,X9s ha.wf.2.2,X9s hb.wf.2.2];rfl
 have m1:X89 a=false:=by unfold X89;rw[Yf om,Yf om];rfl
 have m2:X89 b=false:=by unfold X89;rw[Yf om,Yf om];rfl
 unfold X24 X8s;rw[Xmy,hr,hl,m1,m2];cases X0k (X0y [] b.Rows) a.Rows<;>simp
theorem X51 {a b:Xb} (ha:Few a) (hb:Few b):X0f a b=some (X8s a b):=by
 unfold X0f;rw[Xd2 ha hb];rfl
theorem Xaf {a b:Xb} (ha:Few a) (hb:Few b):X0v a b=some (X8s a b&&X8s b a,0):=by
 have a1:=ha.r;have a2:=ha.l;have b1:=hb.r;have b2:=hb.l;have h1:=X7x a.Rows b.Rows om om;have h2:=X7x a.Late b.Late om om;have e1:((a.Rows.length:Int)==(b.Rows.length:Int))=decide (a.Rows.length=b.Rows.length):=by
  rw[Bool.eq_iff_iff];simp;omega
 have e2:((a.Late.length:Int)==(b.Late.length:Int))=decide (a.Late.length=b.Late.length):=by
  rw[Bool.eq_iff_iff];simp;omega
 unfold X0v;rw[Xd2 ha hb];simp only[Yo,e1,e2];unfold X8s;revert h1 h2;cases X0k (X0y [] b.Rows) a.Rows<;>cases X0k (X0y [] b.Late) a.Late<;>cases X0k (X0y [] a.Rows) b.Rows<;>cases X0k (X0y [] a.Late) b.Late<;>cases decide (a.Rows.length=b.Rows.length)<;>cases decide (a.Late.length=b.Late.length)<;>simp
theorem Xc9 {α:Type} (l:List α) (m:Nat) (x:α) (h:l[m]?=some x):[x]++(l.take m).reverse=(l.take (m+1)).reverse:=by
 rw[List.take_add_one,h];simp
theorem Xy4 (o0 o1:Xb) (o2:X1v) (v:Bool) (o5:List Xk) (o7:List X1v) (o8:List Xk) (hl:o0.Rows.length<=3000):∀ (m n:Nat) (acc:List X1v),m<n->m<=o0.Rows.length->acc.length+m<=3000 ->
  X03 o0 o1 o2 v o5 o7 o8 n acc (IntKind.i64.wrap ((m:Int) - 1))=some (.x0 (acc++(o0.Rows.take m).reverse) o5 o7 o8):=by
 intro m
 induction m with
 |zero =>
  intro n acc hn _ _
  cases n with
  |zero=>omega
  |succ n =>
   rw[X03];have:IntKind.i64.wrap (((0:Nat):Int) - 1) = -1:=rfl;rw[this];simp
 |succ m ih =>
  intro n acc hn hm hb
  cases n with
  |zero=>omega
  |succ n =>
   have hw:IntKind.i64.wrap (((m+1:Nat):Int) - 1)=(m:Int):=by rw[X7j om om];omega
   rw[X03,hw];have hx:o0.Rows[m]?=some (o0.Rows[m]' om):=Ye om;have hg:Xes o0.Rows (m:Int)=some (o0.Rows[m]' om):=by simp[Xes,hx]
   rw[Yt om,cond_true,hg,Yo];have hc:X4k (List.length (acc++[o0.Rows[m]' om])) 40=some ():=by
    unfold X4k;rw[if_pos (by simp;omega)]
   rw[hc,Yo,ih n _ om om (by simp;omega),List.append_assoc,Xc9 _ _ _ hx]
theorem Xy3 (o0 o1:Xb) (o2:X1v) (v:Bool) (o4:List X1v) (o7:List X1v) (o8:List Xk) (hl:o0.Late.length<=3000):∀ (m n:Nat) (acc:List Xk),m<n->m<=o0.Late.length->acc.length+m<=3000 ->
  X02 o0 o1 o2 v o4 o7 o8 n acc (IntKind.i64.wrap ((m:Int) - 1))=some (.x0 o4 (acc++(o0.Late.take m).reverse) o7 o8):=by
 intro m
 induction m with
 |zero =>
  intro n acc hn _ _
  cases n with
  |zero=>omega
  |succ n =>
   rw[X02];have:IntKind.i64.wrap (((0:Nat):Int) - 1) = -1:=rfl;rw[this];simp
 |succ m ih =>
  intro n acc hn hm hb
  cases n with
  |zero=>omega
  |succ n =>
   have hw:IntKind.i64.wrap (((m+1:Nat):Int) - 1)=(m:Int):=by rw[X7j om om];omega
   rw[X02,hw];have hx:o0.Late[m]?=some (o0.Late[m]' om):=Ye om;have hg:Xes o0.Late (m:Int)=some (o0.Late[m]' om):=by simp[Xes,hx]
   rw[Yt om,cond_true,hg,Yo];have hc:X4k (List.length (acc++[o0.Late[m]' om])) 24=some ():=by
    unfold X4k;rw[if_pos (by simp;omega)]
   rw[hc,Yo,ih n _ om om (by simp;omega),List.append_assoc,Xc9 _ _ _ hx]
theorem X5a (a b c:Xb) (x:X1v) (wa:X2v a) (wb:X2v b) (wc:X2v c) (wx:X3x x):X1f a b c x=some true:=by
 unfold X1f;rw[Xa4,Xa4,Xa4];simp only[X5q,Yo];generalize hj:(bif X9l a then _ else _:Option Bool)=J;have hJ:J=some true\/(J=some false/\a.Rows.length<=3000/\b.Rows.length<=3000/\c.Rows.length<=3000/\a.Late.length<=3000/\b.Late.length<=3000/\c.Late.length<=3000):=by
  subst hj
  cases X9l a with
  |true=>left;rfl
  |false =>
  cases X9l b with
  |true=>left;rfl
  |false =>
  cases X9l c with
  |true=>left;rfl
  |false =>
  by_cases h1:(a.Rows.length:Int)>3000
  ·left;simp[h1]
  by_cases h2:(b.Rows.length:Int)>3000
  ·left;simp[h1,h2]
  by_cases h3:(c.Rows.length:Int)>3000
  ·left;simp[h1,h2,h3]
  by_cases h4:(a.Late.length:Int)>3000
  ·left;simp[h1,h2,h3,h4]
  by_cases h5:(b.Late.length:Int)>3000
  ·left;simp[h1,h2,h3,h4,h5]
  by_cases h6:(c.Late.length:Int)>3000
  ·left;simp[h1,h2,h3,h4,h5,h6]
  right;refine⟨?_,by omega,by omega,by omega,by omega,by omega,by omega⟩;simp[h1,h2,h3,h4,h5,h6]
 clear hj;rcases hJ with rfl|⟨rfl,ra,rb,rc,la,lb,lc⟩
 ·rfl
 have fa:Few a:=⟨wa,by omega,by omega⟩;have fb:Few b:=⟨wb,by omega,by omega⟩;have fc:Few c:=⟨wc,by omega,by omega⟩;have f0:Few (Xb.mk [] []):=⟨⟨⟨Nat.zero_le _,λy h=>by cases h⟩,⟨Nat.zero_le _,λy h=>by cases h⟩⟩,Nat.zero_le _,Nat.zero_le _⟩;have ft:Few (Xb.mk a.Rows.reverse a.Late.reverse):=⟨⟨⟨by simpa using wa.1.1,λy h=>wa.1.2 y (by simpa using h)⟩,⟨by simpa using wa.2.1,λy h=>wa.2.2 y (by simpa using h)⟩⟩,by simp;omega,by simp;omega⟩;have fm:Few (Xb.mk (a.Rows++[x]) a.Late):=⟨⟨⟨by simp[maxLen];omega,λy h=>(List.mem_append.1 h).elim (wa.1.2 y) (λh=>by rw[List.mem_singleton.1 h];exact wx)⟩,wa.2⟩,by simp;omega,by show a.Late.length<=_;omega⟩;have s0:X8s (Xb.mk [] []) a=true:=(X3a fa).2 ⟨λy=>by simp,λy=>by simp⟩;have st:(X8s a b&&X8s b c)=true->X8s a c=true:=by
  intro h;obtain⟨h1,h2⟩:=Bool.and_eq_true_iff.1 h;obtain⟨p1,p2⟩:=(X3a fb).1 h1;obtain⟨q1,q2⟩:=(X3a fc).1 h2;exact(X3a fc).2 ⟨λy=>Nat.le_trans (p1 y) (q1 y),λy=>Nat.le_trans (p2 y) (q2 y)⟩
 have t1:X8s a (Xb.mk a.Rows.reverse a.Late.reverse)=true:=(X3a ft).2 ⟨λy=>by simp,λy=>by simp⟩;have t2:X8s (Xb.mk a.Rows.reverse a.Late.reverse) a=true:=(X3a fa).2 ⟨λy=>by simp,λy=>by simp⟩;have m1:X8s a (Xb.mk (a.Rows++[x]) a.Late)=true:=(X3a fm).2 ⟨λy=>by simp,λy=>Nat.le_refl _⟩;have m2:X8s (Xb.mk (a.Rows++[x]) a.Late) a=false:=by
  cases h:X8s (Xb.mk (a.Rows++[x]) a.Late) a with
  |false=>rfl
  |true =>
   have:=(X6l _ _ ((X3a fa).1 h).1).1;simp at this;omega
 have hc1:X4k (List.length (a.Rows++[x])) 40=some ():=by unfold X4k;rw[if_pos (by simp;omega)]
 have hc2:X4k (List.length a.Rows) 40=some ():=by unfold X4k;rw[if_pos om]
 have e0:=Xy4 a b x true [] [] [] ra a.Rows.length FU [] (by unfold FU;omega) (Nat.le_refl _) (by simp;omega);have e1:=Xy3 a b x true a.Rows.reverse [] [] la a.Late.length FU [] (by unfold FU;omega) (Nat.le_refl _) (by simp;omega);simp only[List.nil_append,List.take_length] at e0 e1;simp only[Yo,cond_false,X51 f0 fa,X51 fa fb,X51 fb fc,X51 fa fc,X51 fb fa,s0,e0,e1,List.nil_append,hc1,hc2,Xaf fa ft,Xaf fa fm,Xaf fa fb,X51 fa fm,t1,t2,m1,m2,Bool.not_true,Bool.and_self,Bool.and_false,Bool.not_false,cond_true];revert st;cases X8s a b<;>cases X8s b c<;>cases X8s a c<;>cases X8s b a<;>cases List.isEmpty a.Rows<;>simp
end Go.D
