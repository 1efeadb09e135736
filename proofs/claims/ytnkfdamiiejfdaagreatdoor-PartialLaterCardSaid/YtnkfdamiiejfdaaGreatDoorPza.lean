/- Parts of the proof, laid together. -/
import Derived.Test.YtnkfdamiiejfdaaGreatDoorSortZ
set_option linter.all false
set_option maxHeartbeats 4000000

namespace Go.D
theorem X0q {z:Int} (h1 : -9223372036854775808<=z) (h2:z<=9223372036854775807):IntKind.i64.wrap z=z:=Go.IntWalk.i64_in z ⟨h1,h2⟩
theorem X22 {n:Nat} (h:n<=140737488355328):X3b n=some ():=by unfold X3b;rw[if_pos h]
theorem X2u {n b:Nat} (h:n*b<=140737488355328):X0x n b=some ():=by unfold X0x;rw[if_pos h]
theorem X40 {α:Type} (l:List α) (k:Nat):X18 l (k:Int)=l[k]?:=by simp[X18]
theorem Xxc (z:Int):IntKind.i64.wrap z=(z+9223372036854775808) % 18446744073709551616 - 9223372036854775808:=by
 have h:IntKind.i64.wrap z=if z % 18446744073709551616 >= 9223372036854775808 then z % 18446744073709551616 - 18446744073709551616 else z % 18446744073709551616:=by
  grind [IntKind.wrap,IntKind.bits,IntKind.signed]
 grind
theorem X0bb (a b:Int):IntKind.i64.wrap (IntKind.i64.wrap a+b)=IntKind.i64.wrap (a+b):=by simp only[Xxc];omega
theorem X0ba (a b:Int):IntKind.i64.wrap (a+IntKind.i64.wrap b)=IntKind.i64.wrap (a+b):=by simp only[Xxc];omega
theorem ltge (a b:Int):a<b\/b<=a:=by omega
theorem Xyp {α:Type} {l:List α} (h:l.Nodup):l.reverse.Nodup:=by
 unfold List.Nodup at *;rw[List.pairwise_reverse];exact h.imp λh=>Ne.symm h
def okT (t:Int):Prop := -1099511627776<=t/\t<=1099511627776
def okW (w:X0r):Prop:=1<=w.Size/\w.Size<=1073741824/\((w.Kind=2/\1<=w.Every/\w.Every<=w.Size/\w.Size<=16*w.Every)\/((w.Kind=1\/w.Kind=3)/\w.Every=0))
theorem Xlf {a b:Int} (h:¬ a=b):(a != b)=true:=by simp[h]
theorem lz {n:Nat} (h:0<n):((n:Int)==0)=false:=by simp;omega
theorem lz' {n:Nat} (h:¬ 0<n):((n:Int)==0)=true:=by simp;omega
theorem X41 {w:X0r} (h:okW w):X0u w=some 0:=by
 obtain⟨h1,h2,h3⟩:=h;have e1:decide (w.Size<1)=false:=by simp;omega
 have e2:decide (w.Size>1073741824)=false:=by simp;omega
 simp only[X0u,e1,e2,cond_false];rcases h3 with ⟨k,a1,a2,a3⟩|⟨k|k,a⟩
 ·have e3:(w.Kind==2)=true:=by simp[k]
  have e4:decide (w.Every >= 1)=true:=by simp;omega
  have e5:decide (w.Every<=w.Size)=true:=by simp;omega
  have e6:decide (w.Size<=IntKind.i64.wrap (16*w.Every))=true:=by rw[X0q om om];simp;omega
  simp only[e3,e4,e5,e6,cond_true]
 ·have e3:(w.Kind==2)=false:=by simp[k]
  have e4:(w.Kind==1)=true:=by simp[k]
  have e5:(w.Every==0)=true:=by simp[a]
  simp only[e3,e4,e5,cond_true,cond_false]
 ·have e3:(w.Kind==2)=false:=by simp[k]
  have e4:(w.Kind==1)=false:=by simp[k]
  have e6:(w.Kind==3)=true:=by simp[k]
  have e5:(w.Every==0)=true:=by simp[a]
  simp only[e3,e4,e5,e6,cond_true,cond_false]
end Go.D


namespace Go.D
theorem Xpo (x y:Xy):X6n x y=decide (x=y):=by
 obtain⟨a,b,c,d,e⟩:=x;obtain⟨f,g,h,i,j⟩:=y;rw[Bool.eq_iff_iff];simp[X6n,and_assoc]
theorem Xmk {α:Type} {l:List α} {k:Nat} (h:k<=l.length):X6x l 0 (k:Int)=some (l.take k):=by
 simp_all [X6x,if_pos]
theorem Xg8 {α:Type} {l:List α} {k:Nat} (h:k<=l.length):X6x l (k:Int) (l.length:Int)=some (l.drop k):=by
 simp_all [X6x,if_pos,Int.toNat_natCast,List.take_of_length_le,List.length_drop,Nat.le_refl]
def okN (x:Xy) (a b:Int):Prop:=1<=x.Kind/\x.Kind<=19/\0<=x.N/\(x.N=0\/x.Kind=1)/\0<=x.At/\x.At<=400/\x.A=a/\x.B=b
instance (x:Xy) (a b:Int):Decidable (okN x a b):=by unfold okN;infer_instance
theorem Xml (x:Xy) (a b:Int):X5t x a b=some (decide (okN x a b)):=by
 unfold X5t okN
 grind
def nst (sd:List (Nat×Nat)) (x:Xy):Option (Nat×Nat) :=
 if x.Kind<=4 then (if okN x 0 0 then some (1,1) else none)
 else match sd.getLast? with
  |none=>none
  |some (s2,d2) =>
   if x.Kind<=6 then (if okN x ((sd.length:Int) - 1) 0 then some (1+s2,1+d2) else none)
   else if sd.length - 1<s2 then none
   else match sd[sd.length - 1 - s2]? with
    |none=>none
    |some (s1,d1)=>if okN x ((sd.length:Int) - 1 - s2) ((sd.length:Int) - 1) then some (1+s2+s1,max (1+d2) (1+d1)) else none
def Xlt:List Xy->List (Nat×Nat)->Option (List (Nat×Nat))
 |[],sd=>some sd
 |x::xs,sd=>match nst sd x with
  |some q=>Xlt xs (sd++[q])
  |none=>none
def X80 (j:Nat) (q:Nat×Nat):Xd:=⟨(j:Int),(q.1:Int),(q.2:Int)⟩
inductive Xam (sd:List (Nat×Nat)):Nat->List Xd->Prop
 |nil:Xam sd 0 []
 |snoc {j:Nat} {q:Nat×Nat} {st:List Xd} (hq:sd[j]?=some q) (h1:1<=q.1) (h2:q.1<=j+1) (h3:q.2<=q.1) (h:Xam sd (j+1 - q.1) st):Xam sd (j+1) (st++[X80 j q])
theorem Xam.more {sd sd':List (Nat×Nat)} {k:Nat} {st:List Xd} (h:Xam sd k st) (hs:∀ j,j<k->sd'[j]?=sd[j]?):Xam sd' k st:=by
 induction h with
 |nil=>exact .nil
 |@snoc j q st hq h1 h2 h3 _ ih=>exact .snoc (by grind) h1 h2 h3 (ih λi hi=>hs i om)
theorem Xam.app {sd e:List (Nat×Nat)} {k:Nat} {st:List Xd} (h:Xam sd k st) (hk:k<=sd.length):Xam (sd++e) k st:=h.more λj hj=>List.getElem?_append_left om
theorem Xam.len {sd:List (Nat×Nat)} {k:Nat} {st:List Xd} (h:Xam sd k st):st.length<=k:=by
 induction h with
 |nil=>simp
 |snoc hq h1 h2 h3 _ ih=>simp;omega
theorem Xkh {k:Nat} (h:1<=k) (hk:k<=1000000):IntKind.i64.wrap ((k:Int) - 1)=((k - 1:Nat):Int):=by grind [X0q]
theorem X03b {x:Xy} (h0:0<=x.Kind):X9c x.Kind=some (if 1<=x.Kind/\x.Kind<=19 then ((if x.Kind<=4 then 0 else if x.Kind<=6 then 1 else 2),0) else (0,2)):=by
 grind [X9c]
theorem Xyg {x : Xy} {a b : Int} (h1 : 1 <= x.Kind) (h2 : x.Kind <= 19) :
    ((bif (x.Kind==(1:Int)) then (some (Xy.mk x.Kind (if 0>x.N then 0 else x.N) a b (if 400<(if 0>x.At then 0 else x.At) then 400 else (if 0>x.At then 0 else x.At)))) else (some (Xy.mk x.Kind 0 a b (if 400<(if 0>x.At then 0 else x.At) then 400 else (if 0>x.At then 0 else x.At)))):Option (Xy)).bind λo=>some (X6n o x))=some (decide (okN x a b)):=by
  obtain⟨K,N,A,B,At⟩:=x;have hat:((if 400<(if 0>At then 0 else At) then 400 else (if 0>At then 0 else At))=At)↔(0<=At/\At<=400):=by
    grind
  have hn:((if 0>N then 0 else N)=N)↔0<=N:=by grind
  have key:∀ n':Int,(n'=N↔(0<=N/\(N=0\/K=1)))->(some (X6n (Xy.mk K n' a b (if 400<(if 0>At then 0 else At) then 400 else (if 0>At then 0 else At))) ⟨K,N,A,B,At⟩):Option Bool)=some (decide (okN ⟨K,N,A,B,At⟩ a b)):=by
    intro n' hn';rw[Xpo];congr 1
    apply decide_eq_decide.2;rw[Xy.mk.injEq,hat,hn'];unfold okN;constructor
    · rintro⟨_,⟨g1,g2⟩,hA,hB,g3,g4⟩
      exact⟨h1,h2,g1,g2,g3,g4,hA.symm,hB.symm⟩
    · rintro⟨_,_,g1,g2,g3,g4,hA,hB⟩
      exact⟨rfl,⟨g1,g2⟩,hA.symm,hB.symm,g3,g4⟩
  by_cases hk:K=1
  · have:(K==1)=true:=by simp[hk]
    show(Option.bind (bif (K==1) then _ else _) _)=_;rw[this,cond_true,Yo];exact key _ (by rw[hn];simp[hk])
  · have:(K==1)=false:=by simp[hk]
    show(Option.bind (bif (K==1) then _ else _) _)=_;rw[this,cond_false,Yo]
    exact key _ (by constructor
                    · intro h;omega
                    · rintro⟨_,h⟩;rcases h with h|h<;>omega)
theorem Xnt {β:Type} {o:Option Xy} {x:Xy} {d:Bool} {f g:Option β} (h:(o.bind λz=>some (X6n z x))=some d):(o.bind λz=>bif (!(X6n z x)) then f else g)=bif d then g else f:=by
 cases o with
 |none=>cases h
 |some z =>
  simp only[Yo,Option.some.injEq] at h;rw[Yo,h];cases d<;>rfl
def X5y (sd:List (Nat×Nat)):List Xd:=sd.mapIdx X80
theorem Xqf (sd:List (Nat×Nat)) (q:Nat×Nat):X5y (sd++[q])=X5y sd++[X80 sd.length q]:=by unfold X5y;simp
theorem Xuj (sd:List (Nat×Nat)):(X5y sd).length=sd.length:=by unfold X5y;simp
theorem Xam.inv {sd:List (Nat×Nat)} {k:Nat} {st:List Xd} (h:Xam sd k st) (hk:0<k):∃ q st0,sd[k - 1]?=some q/\1<=q.1/\q.1<=k/\q.2<=q.1/\Xam sd (k - q.1) st0/\st=st0++[X80 (k - 1) q]:=by
 cases h with
 |nil=>omega
 |@snoc j q st0 hq h1 h2 h3 h=>exact⟨q,st0,hq,h1,h2,h3,h,rfl⟩
theorem Xam.zero {sd:List (Nat×Nat)} {st:List Xd} (h:Xam sd 0 st):st=[]:=by
 cases h;rfl
theorem X06s (Y : List Xy) : ∀ (xs : List Xy) (sd : List (Nat × Nat)) (st : List Xd), (∀ x ∈ xs, 0 <= x.Kind) -> sd.length + xs.length <= 1000 -> Xam sd sd.length st -> (∀ j q, sd[j]? = some q -> 1 <= q.1 /\ q.1 <= j + 1 /\ q.2 <= q.1) ->
    match Xlt xs sd with
    |some sd'=>∃ st',X1m Y xs sd.length (X5y sd) st=some (.x0 (X5y sd') st')/\Xam sd' sd'.length st'
    |none=>∃ all,X1m Y xs sd.length (X5y sd) st=some (.x1 all):=by
  intro xs
  induction xs with
  |nil=>intro sd st _ _ hc _;exact⟨st,rfl,hc⟩
  |cons x xs ih =>
    intro sd st h0 hn hc hb;simp only[List.length_cons] at hn;have hx:=h0 x List.mem_cons_self;rw[X1m,X03b hx];have go : ∀ (q : Nat × Nat) (st0 : List Xd), nst sd x = some q -> Xam (sd ++ [q]) (sd.length + 1) (st0 ++ [X80 sd.length q]) -> 1 <= q.1 -> q.1 <= sd.length + 1 -> q.2 <= q.1 ->
        (match Xlt (x::xs) sd with
          |some sd'=>∃ st',X1m Y xs (sd.length+1) (X5y sd++[X80 sd.length q]) (st0++[X80 sd.length q])=some (.x0 (X5y sd') st')/\Xam sd' sd'.length st'
          |none=>∃ all,X1m Y xs (sd.length+1) (X5y sd++[X80 sd.length q]) (st0++[X80 sd.length q])=some (.x1 all)):=by
      intro q st0 hq hc2 g1 g2 g3
      have:=ih (sd++[q]) (st0++[X80 sd.length q]) (λy hy=>h0 y (List.mem_cons_of_mem _ hy)) (by simp;omega) (by simpa using hc2) (λj q' hj=>by
        rw[List.getElem?_append] at hj;split at hj
        · exact hb j q' hj
        · rename_i hlt
          have:j=sd.length:=by
            have:=(Ys.1 hj).1;simp at this;omega
          subst this
          simp at hj;subst hj;exact⟨g1,g2,g3⟩)
      rw[Xqf,List.length_append] at this;unfold Xlt;rw[hq];exact this
    have stop:nst sd x=none->∀ {o:Option X4z},(∃ all,o=some (.x1 all))->(match Xlt (x::xs) sd with
          |some sd'=>∃ st',o=some (.x0 (X5y sd') st')/\Xam sd' sd'.length st'
          |none=>∃ all,o=some (.x1 all)):=by
      grind [Xlt]
    have cap:∀ (l:List Xd) (t:Xd),l.length<=2000->X0x (List.length (l++[t])) 24=some ():=λl t hl=>X2u (by simp;omega);have hla:(X5y sd).length<=2000:=by unfold X5y;simp;omega
    have hst:=hc.len;by_cases hr:1<=x.Kind/\x.Kind<=19
    · rw[if_pos hr]
      simp only[Yo,bne_self_eq_false,cond_false];by_cases h4:x.Kind<=4
      · -- no parts
        have e1:decide ((if x.Kind<=4 then (0:Int) else if x.Kind<=6 then 1 else 2)>(st.length:Int))=false:=by grind
        rw[e1,cond_false,if_pos h4];have e2:IntKind.i64.wrap ((st.length:Int) - 0)=(st.length:Int):=by grind [X0q]
        rw[e2,Xmk (Nat.le_refl _),Xg8 (Nat.le_refl _),List.take_length,List.drop_length];simp only[Yo,List.isEmpty_nil,cond_true];rw[Xnt (Xyg hr.1 hr.2)];by_cases hok:okN x 0 0
        · rw[Yt hok,cond_true,cap st _ om,cap _ _ hla]
          exact go (1,1) st (by unfold nst;rw[if_pos h4,if_pos hok]) (.snoc (by simp) (Nat.le_refl _) om (Nat.le_refl _) (by simpa using hc.app (Nat.le_refl _))) (Nat.le_refl _) om (Nat.le_refl _)
        · rw[Yf hok,cond_false]
          exact stop (by unfold nst;rw[if_pos h4,if_neg hok]) ⟨_,rfl⟩
      · have hgl:0<sd.length->∃ q,sd.getLast?=some q/\sd[sd.length - 1]?=some q:=by
          intro h;refine⟨sd[sd.length - 1]' om,?_,?_⟩
          · rw[List.getLast?_eq_getElem?];exact Ye _
          · exact Ye _
        by_cases h6:x.Kind<=6
        · -- one part
          rw[if_neg h4,if_pos h6];by_cases hl:sd.length=0
          · rw[hl] at hc
            have:=hc.zero;subst this;simp only[List.length_nil];exact stop (by unfold nst;grind) ⟨_,rfl⟩
          · obtain⟨q,st0,hq,g1,g2,g3,hc0,rfl⟩:=hc.inv om
            obtain⟨q',hq1,hq2⟩:=hgl om;rw[hq] at hq2;cases hq2;have hs0:=hc0.len;have e1:decide ((1:Int)>((st0++[X80 (sd.length - 1) q]).length:Int))=false:=by simp;omega
            rw[e1,cond_false];have e2:IntKind.i64.wrap (((st0++[X80 (sd.length - 1) q]).length:Int) - 1)=(st0.length:Int):=by
              grind [X0q,List.length_append,List.length_singleton]
            rw[e2,Xmk (by simp),Xg8 (by simp),List.take_left,List.drop_left];simp only[Yo,List.isEmpty_cons,cond_false,List.length_singleton];rw[show(((1:Nat):Int)==1)=true from rfl,cond_true];rw[show X18 [X80 (sd.length - 1) q] 0=some (X80 (sd.length - 1) q) from rfl,Yo];rw[Xnt (Xyg hr.1 hr.2)];have ea:(X80 (sd.length - 1) q).at_=(sd.length:Int) - 1:=by unfold X80;grind
            rw[ea];by_cases hok:okN x ((sd.length:Int) - 1) 0
            · have e3:(Xd.mk (sd.length:Int) (IntKind.i64.wrap (1+(X80 (sd.length - 1) q).size)) (if (IntKind.i64.wrap ((X80 (sd.length - 1) q).depth+1))>1 then (IntKind.i64.wrap ((X80 (sd.length - 1) q).depth+1)) else 1))=X80 sd.length (1+q.1,1+q.2):=by
                grind [X80,X0q]
              rw[Yt hok,cond_true,e3,cap st0 _ om,cap _ _ hla];refine go (1+q.1,1+q.2) st0 (by unfold nst;grind) (.snoc (by simp) (by grind) (by grind) (by grind) ?_) (by grind) (by grind) (by grind);have:=hc0.app (e:=[(1+q.1,1+q.2)]) om
              grind
            · rw[Yf hok,cond_false]
              exact stop (by unfold nst;grind) ⟨_,rfl⟩
        · -- two parts
          rw[if_neg h4,if_neg h6];by_cases hl:sd.length=0
          · rw[hl] at hc
            have:=hc.zero;subst this;simp only[List.length_nil];exact stop (by unfold nst;grind) ⟨_,rfl⟩
          · obtain⟨q,st1,hq,g1,g2,g3,hc1,rfl⟩:=hc.inv om
            obtain⟨q',hq1,hq2⟩:=hgl om;rw[hq] at hq2;cases hq2;by_cases hl1:sd.length - q.1=0
            · rw[hl1] at hc1
              have:=hc1.zero;subst this;exact stop (by unfold nst;rw[if_neg h4,hq1];simp only;rw[if_neg h6,if_pos om]) ⟨_,rfl⟩
            · obtain⟨p,st0,hp,f1,f2,f3,hc0,rfl⟩:=hc1.inv om
              have hs0:=hc0.len;rw[List.append_assoc];have e1:decide ((2:Int)>((st0++([X80 (sd.length - q.1 - 1) p]++[X80 (sd.length - 1) q])).length:Int))=false:=by simp;omega
              rw[e1,cond_false];have e2:IntKind.i64.wrap (((st0++([X80 (sd.length - q.1 - 1) p]++[X80 (sd.length - 1) q])).length:Int) - 2)=(st0.length:Int):=by
                rw[X0q (by simp only[List.length_append,List.length_singleton];omega) (by simp only[List.length_append,List.length_singleton];omega)];simp only[List.length_append,List.length_singleton];omega
              rw[e2,Xmk (by simp),Xg8 (by simp),List.take_left,List.drop_left];simp only[Yo,List.singleton_append,List.isEmpty_cons,cond_false,List.length_cons,List.length_nil];rw[show((((0:Nat)+1+1:Nat):Int)==1)=false from rfl,show((((0:Nat)+1+1:Nat):Int)==2)=true from rfl,cond_false,cond_true];rw[show X18 [X80 (sd.length - q.1 - 1) p,X80 (sd.length - 1) q] 0=some (X80 (sd.length - q.1 - 1) p) from rfl,show X18 [X80 (sd.length - q.1 - 1) p,X80 (sd.length - 1) q] 1=some (X80 (sd.length - 1) q) from rfl,Yo,Yo];rw[Xnt (Xyg hr.1 hr.2)];have ea:(X80 (sd.length - 1) q).at_=(sd.length:Int) - 1:=by unfold X80;grind
              have eb:(X80 (sd.length - q.1 - 1) p).at_=(sd.length:Int) - 1 - q.1:=by unfold X80;grind
              rw[ea,eb];have hp':sd[sd.length - 1 - q.1]?=some p:=by grind
              by_cases hok:okN x ((sd.length:Int) - 1 - q.1) ((sd.length:Int) - 1)
              · have e3:(Xd.mk (sd.length:Int) (IntKind.i64.wrap ((IntKind.i64.wrap (1+(X80 (sd.length - q.1 - 1) p).size))+(X80 (sd.length - 1) q).size)) (if (IntKind.i64.wrap ((X80 (sd.length - 1) q).depth+1))>(if (IntKind.i64.wrap ((X80 (sd.length - q.1 - 1) p).depth+1))>1 then (IntKind.i64.wrap ((X80 (sd.length - q.1 - 1) p).depth+1)) else 1) then (IntKind.i64.wrap ((X80 (sd.length - 1) q).depth+1)) else (if (IntKind.i64.wrap ((X80 (sd.length - q.1 - 1) p).depth+1))>1 then (IntKind.i64.wrap ((X80 (sd.length - q.1 - 1) p).depth+1)) else 1)))=X80 sd.length (1+q.1+p.1,max (1+q.2) (1+p.2)):=by
                  unfold X80;simp only;rw[X0q (z:=1+(p.1:Int)) om om,X0q om om,X0q om om,X0q om om];congr 1
                  · push_cast;omega
                  · split<;>split<;>omega
                rw[Yt hok,cond_true,e3,cap st0 _ om,cap _ _ hla];refine go (1+q.1+p.1,max (1+q.2) (1+p.2)) st0 (by unfold nst;rw[if_neg h4,hq1];simp only;rw[if_neg h6,if_neg om,hp'];simp only;rw[if_pos hok]) (.snoc (by simp) (by simp only;omega) (by simp only;omega) (by simp only;omega) ?_) (by simp only;omega) (by simp only;omega) (by simp only;omega);have:=hc0.app (e:=[(1+q.1+p.1,max (1+q.2) (1+p.2))]) om;simp only;rw[show sd.length+1 - (1+q.1+p.1)=sd.length - q.1 - p.1 by omega];exact this
              · rw[Yf hok,cond_false]
                exact stop (by unfold nst;simp_all [if_neg]) ⟨_,rfl⟩
    · rw[if_neg hr]
      have hno:nst sd x=none:=by
        have no:∀ a b,¬ okN x a b:=λa b h=>hr ⟨h.1,h.2.1⟩;unfold nst;simp only[no,if_false];split
        · rfl
        · split
          · rfl
          · split
            · rfl
            · split
              · rfl
              · split<;>rfl
      exact stop hno ⟨_,rfl⟩
def Xc8 (l:List Xy):Int :=
 if l.length>60 then 4 else match Xlt l [] with
  |none=>8
  |some sd=>match sd.getLast? with
   |none=>8
   |some q=>if q.1=l.length then (if q.2>20 then 34 else 0) else 8
theorem Xi9:∀ (xs:List Xy) (sd sd':List (Nat×Nat)),Xlt xs sd=some sd'->sd'.length=sd.length+xs.length
 |[],sd,sd',h=>by cases h;simp
 |x::xs,sd,sd',h=>by
  unfold Xlt at h;split at h
  ·have:=Xi9 xs _ _ h;simp at this;simp;omega
  ·cases h
theorem Xuk {sd:List (Nat×Nat)} {i:Nat} {q:Nat×Nat} (h:sd[i]?=some q):X18 (X5y sd) (i:Int)=some (X80 i q):=by
 rw[X40];unfold X5y;rw[List.getElem?_mapIdx,h];rfl
theorem Xl4 {l:List Xy} (h0:∀ x∈l,0<=x.Kind):∃ t,X9b l=some (t,Xc8 l)/\(Xc8 l=0->∃ sd,Xlt l []=some sd/\t=X5y sd):=by
 unfold X9b Xc8;by_cases h60:l.length>60
 ·rw[Yt (show(l.length:Int)>60 by omega),cond_true,if_pos h60];exact⟨_,rfl,by omega⟩
 ·rw[Yf (show ¬ (l.length:Int)>60 by omega),cond_false,if_neg h60];have hL:=X06s l l [] [] h0 (by simp;omega) .nil (by simp);unfold Xda;rw[X22 om]
  cases hr:Xlt l [] with
  |none =>
   rw[hr] at hL;obtain⟨all,hL⟩:=hL;simp only[List.length_nil] at hL;rw[show X5y []=[] from rfl] at hL;rw[hL];exact⟨_,rfl,by simp⟩
  |some sd =>
   rw[hr] at hL;obtain⟨st,hL,hc⟩:=hL;simp only[List.length_nil] at hL;rw[show X5y []=[] from rfl] at hL;rw[hL];have hn:=Xi9 l [] sd hr;simp only[List.length_nil,Nat.zero_add] at hn;simp only[Yo];by_cases hz:sd.length=0
   ·have:sd=[]:=List.eq_nil_of_length_eq_zero hz;subst this;have:=hc.zero;subst this;simp
   ·obtain⟨q,st0,hq,g1,g2,g3,hc0,rfl⟩:=hc.inv om;have hg:sd.getLast?=some q:=by grind
    rw[hg];simp only;have hst:(((st0++[X80 (sd.length - 1) q]).length:Int)==1)=decide (q.1=l.length):=by
     rw[Bool.eq_iff_iff];simp only[List.length_append,List.length_singleton,beq_iff_eq,decide_eq_true_eq];constructor
     ·intro h;have h1:st0.length=0:=by omega
      by_cases hk:sd.length - q.1=0
      ·omega
      ·obtain⟨_,s1,_,_,_,_,_,rfl⟩:=hc0.inv om;simp at h1
     ·intro h;rw[show sd.length - q.1=0 by omega] at hc0;rw[hc0.zero];rfl
    rw[hst];by_cases he:q.1=l.length
    ·rw[Yt he,if_pos he];simp only[Bool.not_true,cond_false];rw[show IntKind.i64.wrap (((X5y sd).length:Int) - 1)=((sd.length - 1:Nat):Int) by grind [Xuj,Xkh]];rw[Xuk hq,Yo];by_cases hd:q.2>20
     ·rw[if_pos hd,show decide ((X80 (sd.length - 1) q).depth>20)=true from Yt (by unfold X80;grind)]
      grind
     ·rw[if_neg hd,show decide ((X80 (sd.length - 1) q).depth>20)=false from Yf (by unfold X80;grind)]
      grind
    simp_all
theorem Xaf {l:List Xy} (h0:∀ x∈l,0<=x.Kind):X50 l=some (Xc8 l):=by
 obtain⟨t,h,_⟩:=Xl4 h0;unfold X50;rw[h];rfl
def szs (sd:List (Nat×Nat)):List Int:=sd.map λq=>(q.1:Int)
def dps (sd:List (Nat×Nat)):List Int:=sd.map λq=>(q.2:Int)
theorem Xqg {sd:List (Nat×Nat)} {i:Nat} {q:Nat×Nat} (h:sd[i]?=some q):X18 (szs sd) (i:Int)=some (q.1:Int):=by
 rw[X40];unfold szs;grind
theorem Xsg {sd:List (Nat×Nat)} {i:Nat} {q:Nat×Nat} (h:sd[i]?=some q):X18 (dps sd) (i:Int)=some (q.2:Int):=by
 rw[X40];unfold dps;grind
theorem X02w (Y : List Xy) : ∀ (xs : List Xy) (sd : List (Nat × Nat)), sd.length + xs.length <= 1000 -> (∀ j q, sd[j]? = some q -> 1 <= q.1 /\ q.1 <= j + 1 /\ q.2 <= q.1) ->
    match Xlt xs sd with
    |some sd'=>X19 Y xs sd.length (szs sd) (dps sd)=some (.x0 (szs sd') (dps sd'))
    |none=>X19 Y xs sd.length (szs sd) (dps sd)=some (.x1 [] []):=by
  intro xs
  induction xs with
  |nil=>intro sd _ _;rfl
  |cons x xs ih =>
    intro sd hn hb;simp only[List.length_cons] at hn;rw[X19];have go : ∀ (q : Nat × Nat), nst sd x = some q -> 1 <= q.1 -> q.1 <= sd.length + 1 -> q.2 <= q.1 ->
        (match Xlt (x::xs) sd with
          |some sd'=>X19 Y xs (sd.length+1) (szs sd++[(q.1:Int)]) (dps sd++[(q.2:Int)])=some (.x0 (szs sd') (dps sd'))
          |none=>X19 Y xs (sd.length+1) (szs sd++[(q.1:Int)]) (dps sd++[(q.2:Int)])=some (.x1 [] [])):=by
      intro q hq g1 g2 g3
      have:=ih (sd++[q]) (by simp;omega) (λj q' hj=>by
        grind)
      rw[List.length_append] at this;unfold Xlt;rw[hq];unfold szs dps at this ⊢
      simp_all
    have stop:nst sd x=none->∀ {o:Option X4g},o=some (.x1 [] [])->(match Xlt (x::xs) sd with
          |some sd'=>o=some (.x0 (szs sd') (dps sd'))
          |none=>o=some (.x1 [] [])):=by
      grind [Xlt]
    have cap:∀ (l:List Int) (t:Int),l.length<=2000->X0x (List.length (l++[t])) 8=some ():=λl t hl=>X2u (by simp;omega);have hls:(szs sd).length<=2000:=by unfold szs;simp;omega
    have hld:(dps sd).length<=2000:=by unfold dps;simp;omega
    unfold Xbi;by_cases h4:x.Kind<=4
    · rw[Yt h4,cond_true]
      simp only[Yo];rw[show decide ((0:Int)>0)=false from rfl,cond_false,Xml,Yo];by_cases hok:okN x 0 0
      · rw[Yt hok,Bool.not_true,cond_false,cap _ _ hls,cap _ _ hld]
        exact go (1,1) (by unfold nst;grind) (Nat.le_refl _) om (Nat.le_refl _)
      · rw[Yf hok,Bool.not_false,cond_true]
        exact stop (by unfold nst;rw[if_pos h4,if_neg hok]) rfl
    · rw[Yf h4,cond_false]
      have hgl:0<sd.length->∃ q,sd.getLast?=some q/\sd[sd.length - 1]?=some q:=by
        intro h;refine⟨sd[sd.length - 1]' om,?_,?_⟩
        · rw[List.getLast?_eq_getElem?];exact Ye _
        · exact Ye _
      by_cases hl:sd.length=0
      · have hnil:=List.eq_nil_of_length_eq_zero hl
        refine stop (by unfold nst;grind) ?_;rw[hl];by_cases h6:x.Kind<=6
        · rw[Yt h6];rfl
        · rw[Yf h6];rfl
      · obtain⟨q,hq1,hq⟩:=hgl om
        obtain⟨g1,g2,g3⟩:=hb _ _ hq;have hw:IntKind.i64.wrap ((sd.length:Int) - 1)=((sd.length - 1:Nat):Int):=Xkh om om;rw[hw];rw[show decide (((sd.length - 1:Nat):Int)<0)=false from Yf om,Xqg hq,Xsg hq];simp only[cond_false];by_cases h6:x.Kind<=6
        · rw[Yt h6,cond_true]
          simp only[Yo];rw[show decide ((1:Int)>0)=true from rfl,cond_true,show((1:Int)==2)=false from rfl,cond_false,Xml,Yo];rw[show((sd.length - 1:Nat):Int)=(sd.length:Int) - 1 by omega];by_cases hok:okN x ((sd.length:Int) - 1) 0
          · rw[Yt hok,Bool.not_true,cond_false,cap _ _ hls,cap _ _ hld]
            rw[X0q om om,X0q om om];have:=go (1+q.1,1+q.2) (by unfold nst;grind) (by grind) (by grind) (by grind)
            grind
          · rw[Yf hok,Bool.not_false,cond_true]
            exact stop (by unfold nst;grind) rfl
        · rw[Yf h6,cond_false]
          simp only[Yo];rw[show decide ((2:Int)>0)=true from rfl,cond_true,show((2:Int)==2)=true from rfl,cond_true];have hw2:IntKind.i64.wrap (((sd.length - 1:Nat):Int) - q.1)=(sd.length:Int) - 1 - q.1:=by grind [X0q]
          rw[hw2];by_cases hlt:sd.length - 1<q.1
          · rw[show decide ((sd.length:Int) - 1 - q.1<0)=true from Yt om,cond_true]
            exact stop (by unfold nst;grind) rfl
          · rw[show decide ((sd.length:Int) - 1 - q.1<0)=false from Yf om,cond_false]
            have hpe:sd[sd.length - 1 - q.1]?=some (sd[sd.length - 1 - q.1]' om):=Ye _;generalize sd[sd.length - 1 - q.1]' om=p at hpe;obtain⟨f1,f2,f3⟩:=hb _ _ hpe;rw[show(sd.length:Int) - 1 - q.1=((sd.length - 1 - q.1:Nat):Int) by omega,Xqg hpe,Xsg hpe];simp only[Yo];rw[Xml,Yo];rw[show((sd.length - 1 - q.1:Nat):Int)=(sd.length:Int) - 1 - q.1 by omega,show((sd.length - 1:Nat):Int)=(sd.length:Int) - 1 by omega];by_cases hok:okN x ((sd.length:Int) - 1 - q.1) ((sd.length:Int) - 1)
            · rw[Yt hok,Bool.not_true,cond_false,cap _ _ hls,cap _ _ hld]
              rw[X0q (z:=1+(q.1:Int)) om om,X0q (z:=1+(q.1:Int)+p.1) om om,X0q om om,X0q om om];have:=go (1+q.1+p.1,max (1+q.2) (1+p.2)) (by unfold nst;grind) (by grind) (by grind) (by grind);simp only at this;rw[show((1+q.1+p.1:Nat):Int)=1+(q.1:Int)+p.1 by omega,show((max (1+q.2) (1+p.2):Nat):Int)=(if 1+(p.2:Int)>1+q.2 then 1+(p.2:Int) else 1+q.2) by omega] at this;exact this
            · rw[Yf hok,Bool.not_false,cond_true]
              exact stop (by unfold nst;grind) rfl
theorem Xae {l:List Xy}:X48 l=some (Xc8 l):=by
 unfold X48 Xc8;by_cases h60:l.length>60
 ·grind
 ·rw[Yf (show ¬ (l.length:Int)>60 by omega),cond_false,if_neg h60];have hL:=X02w l l [] (by simp;omega) (by simp);unfold Xbh;rw[X22 om]
  cases hr:Xlt l [] with
  |none =>
   rw[hr] at hL;simp only[List.length_nil] at hL;rw[show szs []=[] from rfl,show dps []=[] from rfl] at hL
   grind
  |some sd =>
   rw[hr] at hL;simp only[List.length_nil] at hL;rw[show szs []=[] from rfl,show dps []=[] from rfl] at hL;rw[Yo,hL];have hn:=Xi9 l [] sd hr;simp only[List.length_nil,Nat.zero_add] at hn;simp only[Yo];by_cases hz:l.length=0
   ·grind
   ·have hq:sd[sd.length - 1]?=some (sd[sd.length - 1]' om):=Ye _;generalize sd[sd.length - 1]' om=q at hq;have hg:sd.getLast?=some q:=by grind
    rw[hg];have hw:IntKind.i64.wrap ((l.length:Int) - 1)=((sd.length - 1:Nat):Int):=by grind [Xkh]
    rw[show decide ((l.length:Int)>0)=true from Yt om,cond_true,hw,Xqg hq];simp only[Yo,cond_true];rw[Xsg hq]
    grind
end Go.D


namespace Go.D
theorem X0cc {sd:List (Nat×Nat)} {x:Xy} {q:Nat×Nat} (h:nst sd x=some q):∃ a b,okN x a b/\(x.Kind<=4->a=0/\b=0)/\(5<=x.Kind->0<sd.length/\(x.Kind<=6->a=(sd.length:Int) - 1/\b=0)/\(7<=x.Kind->0<=a/\a<=(sd.length:Int) - 1/\b=(sd.length:Int) - 1)):=by
 unfold nst at h;split at h
 ·rename_i h4;split at h
  ·rename_i ho;exact⟨0,0,ho,λ_=>⟨rfl,rfl⟩,λh5=>by omega⟩
  ·cases h
 ·rename_i h4;split at h
  ·cases h
  ·rename_i s2 d2 hg;have hl:0<sd.length:=by
    cases sd with
    |nil=>cases hg
    |cons=>simp
   split at h
   ·rename_i h6;split at h
    ·rename_i ho;exact⟨_,_,ho,λh4'=>absurd h4' h4,λ_=>⟨hl,λ_=>⟨rfl,rfl⟩,λh7=>by omega⟩⟩
    ·cases h
   ·rename_i h6;split at h
    ·cases h
    ·rename_i hlt;split at h
     ·cases h
     ·split at h
      ·rename_i ho;exact⟨_,_,ho,λh4'=>absurd h4' h4,λ_=>⟨hl,λh6'=>absurd h6' h6,λ_=>⟨by omega,by omega,rfl⟩⟩⟩
      ·cases h
structure Xmb (x:Xy) (k:Nat):Prop where
 lo:1<=x.Kind
 hi:x.Kind<=19
 leaf:x.Kind<=4->x.A=0/\x.B=0
 a0:0<=x.A
 b0:0<=x.B
 ak:5<=x.Kind->x.A<k
 b1:5<=x.Kind->x.Kind<=6->x.B=0
 bk:5<=x.Kind->x.B<k
 n0:0<=x.N
 nk:x.N=0\/x.Kind=1
 at0:0<=x.At
 at1:x.At<=400
theorem Xyn:∀ (xs:List Xy) (sd sd':List (Nat×Nat)),Xlt xs sd=some sd'->∀ j x,xs[j]?=some x->Xmb x (sd.length+j)
 |[],sd,sd',h,j,x,hj=>by simp at hj
 |y::ys,sd,sd',h,j,x,hj=>by
  unfold Xlt at h;split at h
  ·rename_i q hq
   cases j with
   |zero =>
    simp at hj;subst hj;obtain⟨a,b,ho,h4,h5⟩:=X0cc hq;obtain⟨o1,o2,o3,o4,o5,o6,rfl,rfl⟩:=ho;refine⟨o1,o2,h4,?_,?_,?_,?_,?_,o3,o4,o5,o6⟩;all_goals
     by_cases h4':y.Kind<=4
     ·have:=h4 h4';omega
     ·have h5':=h5 om;by_cases h6:y.Kind<=6
      ·have:=h5'.2.1 h6;omega
      ·have:=h5'.2.2 om;omega
   |succ j =>
    have:=Xyn ys _ _ h j x (by simpa using hj);rw[List.length_append,List.length_singleton] at this;rw[show sd.length+(j+1)=sd.length+1+j by omega];exact this
  ·cases h
def giv (K:Int):Bool:=(K==6)||decide (12<=K)
theorem Xnk (K:Int):X5s K=some (giv K):=by
 unfold X5s giv;congr 1
def X2x (l:List Xy) (i:Int):Int:=match X18 l i with|some e=>e.Kind|none=>0
def Xo1 (l:List Xy) (x:Xy):Bool :=
 if x.Kind<=4 then true
 else if x.Kind=5 then !(giv (X2x l x.A))
 else if x.Kind=6 then giv (X2x l x.A)
 else if x.Kind<=15 then !(giv (X2x l x.A))&&!(giv (X2x l x.B))
 else if x.Kind<=17 then (giv (X2x l x.A))==(giv (X2x l x.B))
 else giv (X2x l x.A)&&giv (X2x l x.B)
def wrN (l:List Xy):List Xy->Nat->Option Nat
 |[],_=>none
 |x::xs,k=>if Xo1 l x then wrN l xs (k+1) else some k
theorem Xcs {α:Type} {l:List α} {i:Int} (h0:0<=i) (h1:i<l.length):∃ e,X18 l i=some e/\l[i.toNat]?=some e:=by
 obtain⟨n,rfl⟩:∃ n:Nat,i=n:=⟨i.toNat,by omega⟩;exact⟨l[n]' om,by rw[X40];exact Ye _,by simp⟩
theorem Xbl {l:List Xy} {i:Int} (h0:0<=i) (h1:i<l.length):∃ e,X18 l i=some e/\X2x l i=e.Kind:=by
 obtain⟨e,h,_⟩:=Xcs h0 h1;exact⟨e,h,by unfold X2x;rw[h]⟩
theorem X09c {l:List Xy} {x:Xy} {k:Nat} (hk:l[k]?=some x) (ho:Xmb x k):Xaw l (k:Int)=some (Xo1 l x):=by
 have hlt:=(Ys.1 hk).1;have hA:x.A<l.length:=by
  by_cases h:x.Kind<=4
  ·have:=(ho.leaf h).1;omega
  ·have:=ho.ak om;omega
 have hB:x.B<l.length:=by
  by_cases h:x.Kind<=4
  ·have:=(ho.leaf h).2;omega
  ·have:=ho.bk om;omega
 obtain⟨a,ha,hka⟩:=Xbl ho.a0 hA;obtain⟨b,hb,hkb⟩:=Xbl ho.b0 hB;unfold Xaw Xo1;rw[X40,hk,Yo,ha,Yo,hb,Xnk,Yo,Yo,Xnk,Yo,hka,hkb];have h1:=ho.lo;have h2:=ho.hi;by_cases h4:x.Kind<=4
 ·rw[if_pos h4,Yt h4];rfl
 ·rw[if_neg h4,Yf h4,cond_false];by_cases h5:x.Kind=5
  ·rw[if_pos h5,show(x.Kind==5)=true by simp[h5]];rfl
  ·rw[if_neg h5,show(x.Kind==5)=false by simp[h5],cond_false];by_cases h6:x.Kind=6
   ·rw[if_pos h6,show(x.Kind==6)=true by simp[h6]];rfl
   ·rw[if_neg h6,show(x.Kind==6)=false by simp[h6],cond_false];by_cases h15:x.Kind<=15
    ·rw[if_pos h15,show(bif (x.Kind==16) then true else (x.Kind==17))=false by rw[show(x.Kind==16)=false by simp;omega,show(x.Kind==17)=false by simp;omega];rfl,Yf (show ¬ x.Kind >= 18 by omega)];cases giv a.Kind<;>cases giv b.Kind<;>rfl
    ·rw[if_neg h15];by_cases h17:x.Kind<=17
     ·rw[if_pos h17,show(bif (x.Kind==16) then true else (x.Kind==17))=true by rcases(by omega:x.Kind=16\/x.Kind=17) with h|h<;>simp[h]];rfl
     ·rw[if_neg h17,show(bif (x.Kind==16) then true else (x.Kind==17))=false by rw[show(x.Kind==16)=false by simp;omega,show(x.Kind==17)=false by simp;omega];rfl,Yt (show x.Kind >= 18 by omega)];cases giv a.Kind<;>cases giv b.Kind<;>rfl
theorem Xsv {l:List Xy} (ho:∀ j x,l[j]?=some x->Xmb x j):∀ (xs:List Xy) (k:Nat),l.drop k=xs->X3t l xs k=some (match wrN l xs k with|none=>.x0|some j=>.x1 (j:Int))
 |[],k,_=>rfl
 |x::xs,k,h=>by
  have hk:l[k]?=some x:=by
   have:(l.drop k)[0]?=some x:=by rw[h];rfl
   simpa using this
  have hd:l.drop (k+1)=xs:=by
   have:(l.drop k).drop 1=xs:=by rw[h];rfl
   rw[List.drop_drop] at this;exact this
  rw[X3t,X09c hk (ho k x hk),Yo,wrN]
  cases Xo1 l x with
  |true=>exact Xsv ho xs (k+1) hd
  |false=>rfl
def gvs (l:List Xy) (k:Nat):List Bool:=(l.take k).map λe=>giv e.Kind
theorem Xsa {l:List Xy} {k:Nat} (hk:k<=l.length) {i:Int} (h0:0<=i) (h1:i<k):X18 (gvs l k) i=some (giv (X2x l i)):=by
 obtain⟨e,he,hke⟩:=Xbl (l:=l) h0 om;have hi:(i.toNat:Int)=i:=by omega
 rw[hke,<-hi,X40];rw[<-hi,X40] at he;unfold gvs;rw[List.getElem?_map,List.getElem?_take_of_lt om,he];rfl
theorem Xtv {l:List Xy} {k:Nat} {x:Xy} (hk:l[k]?=some x):gvs l (k+1)=gvs l k++[giv x.Kind]:=by
 unfold gvs;rw[List.take_add_one,hk,List.map_append];rfl
theorem Xxk {l:List Xy} (hn:l.length<=1000) (ho:∀ j x,l[j]?=some x->Xmb x j):∀ (xs:List Xy) (k:Nat),l.drop k=xs->X1c l xs k (gvs l k)=some (match wrN l xs k with|none=>.x0 (gvs l l.length)|some j=>.x1 [] (j:Int))
 |[],k,h=>by
  have:l.length<=k:=by
   have:=congrArg List.length h;simp at this;omega
  rw[X1c,wrN];unfold gvs;rw[List.take_of_length_le this,List.take_length]
 |x::xs,k,h=>by
  have hk:l[k]?=some x:=by
   have:(l.drop k)[0]?=some x:=by rw[h];rfl
   simpa using this
  have hd:l.drop (k+1)=xs:=by
   have:(l.drop k).drop 1=xs:=by rw[h];rfl
   rw[List.drop_drop] at this;exact this
  have hlt:=(Ys.1 hk).1;have hox:=ho k x hk;have ih:=Xxk hn ho xs (k+1) hd;have h1:=hox.lo;have h2:=hox.hi;have cap:∀ b,X0x (List.length (gvs l k++[b])) 1=some ():=λb=>X2u (by unfold gvs;simp;omega);have go:giv x.Kind=false->Xo1 l x=true->X1c l xs (k+1) (gvs l k++[false])=some (match wrN l (x::xs) k with|none=>.x0 (gvs l l.length)|some j=>.x1 [] (j:Int)):=by
   intro g f;rw[wrN,f,if_pos rfl,<-ih,Xtv hk,g]
  have go':giv x.Kind=true->Xo1 l x=true->X1c l xs (k+1) (gvs l k++[true])=some (match wrN l (x::xs) k with|none=>.x0 (gvs l l.length)|some j=>.x1 [] (j:Int)):=by
   intro g f;rw[wrN,f,if_pos rfl,<-ih,Xtv hk,g]
  have stop:Xo1 l x=false->(some (.x1 [] (k:Int)):Option X51)=some (match wrN l (x::xs) k with|none=>.x0 (gvs l l.length)|some j=>.x1 [] (j:Int)):=by
   intro f;rw[wrN,f];rfl
  rw[X1c];by_cases h4:x.Kind<=4
  ·rw[Yt h4,cond_true,cap,Yo];exact go (by unfold giv;simp;omega) (by unfold Xo1;rw[if_pos h4])
  ·rw[Yf h4,cond_false];have hA:X18 (gvs l k) x.A=some (giv (X2x l x.A)):=Xsa om hox.a0 (hox.ak om);have hB:X18 (gvs l k) x.B=some (giv (X2x l x.B)):=Xsa om hox.b0 (hox.bk om);by_cases h5:x.Kind=5
   ·have hf:Xo1 l x=!(giv (X2x l x.A)):=by unfold Xo1;rw[if_neg h4,if_pos h5]
    rw[show(x.Kind==5)=true by simp[h5],cond_true,hA]
    cases hg:giv (X2x l x.A) with
    |true=>exact stop (by rw[hf,hg];rfl)
    |false =>
     show(X0x (List.length (gvs l k++[false])) 1).bind _=_;rw[cap,Yo];exact go (by unfold giv;simp[h5]) (by rw[hf,hg];rfl)
   ·rw[show(x.Kind==5)=false by simp[h5],cond_false];by_cases h6:x.Kind=6
    ·have hf:Xo1 l x=giv (X2x l x.A):=by unfold Xo1;rw[if_neg h4,if_neg h5,if_pos h6]
     rw[show(x.Kind==6)=true by simp[h6],cond_true,hA]
     cases hg:giv (X2x l x.A) with
     |false=>exact stop (by rw[hf,hg])
     |true =>
      show(X0x (List.length (gvs l k++[true])) 1).bind _=_;rw[cap,Yo];exact go' (by unfold giv;simp[h6]) (by rw[hf,hg])
    ·rw[show(x.Kind==6)=false by simp[h6],cond_false];have lok:X3b (List.length [x.A,x.B])=some ():=X22 (by simp);by_cases h15:x.Kind<=15
     ·have hf:Xo1 l x=(!(giv (X2x l x.A))&&!(giv (X2x l x.B))):=by unfold Xo1;rw[if_neg h4,if_neg h5,if_neg h6,if_pos h15]
      by_cases h11:x.Kind<=11
      ·have hgx:giv x.Kind=false:=by unfold giv;simp;omega
       rw[Yt h11,cond_true,Yo,lok];simp only[X06,hA,hB];generalize giv (X2x l x.A)=p at hf;generalize giv (X2x l x.B)=r at hf;cases p<;>cases r
       ·show(X0x (List.length (gvs l k++[false])) 1).bind _=_;rw[cap,Yo];exact go hgx hf
       all_goals exact stop hf
      ·have hgx:giv x.Kind=true:=by unfold giv;simp;omega
       rw[Yf h11,cond_false,Yt h15,cond_true,Yo,lok];simp only[X06,hA,hB];generalize giv (X2x l x.A)=p at hf;generalize giv (X2x l x.B)=r at hf;cases p<;>cases r
       ·show(X0x (List.length (gvs l k++[true])) 1).bind _=_;rw[cap,Yo];exact go' hgx hf
       all_goals exact stop hf
     ·rw[Yf (show ¬ x.Kind<=11 by omega),cond_false,Yf h15,cond_false];have hgx:giv x.Kind=true:=by unfold giv;simp;omega
      by_cases h17:x.Kind<=17
      ·have hf:Xo1 l x=((giv (X2x l x.A))==(giv (X2x l x.B))):=by unfold Xo1;rw[if_neg h4,if_neg h5,if_neg h6,if_neg h15,if_pos h17]
       rw[Yt h17,cond_true,Yo,lok];simp only[X06,X07,hA,hB];generalize giv (X2x l x.A)=p at hf;generalize giv (X2x l x.B)=r at hf;cases p<;>cases r
       ·show(X0x (List.length (gvs l k++[true])) 1).bind _=_;rw[cap,Yo];exact go' hgx hf
       ·exact stop hf
       ·exact stop hf
       ·show(X0x (List.length (gvs l k++[true])) 1).bind _=_;rw[cap,Yo];exact go' hgx hf
      ·have hf:Xo1 l x=((giv (X2x l x.A))&&(giv (X2x l x.B))):=by unfold Xo1;rw[if_neg h4,if_neg h5,if_neg h6,if_neg h15,if_neg h17]
       rw[Yf h17,cond_false,Yo,lok];simp only[X06,X07,hA,hB];generalize giv (X2x l x.A)=p at hf;generalize giv (X2x l x.B)=r at hf;cases p<;>cases r
       ·exact stop hf
       ·exact stop hf
       ·exact stop hf
       ·show(X0x (List.length (gvs l k++[true])) 1).bind _=_;rw[cap,Yo];exact go' hgx hf
end Go.D


namespace Go.D
def kOf (l:List Xy):Bool×Int×Int :=
 if Xc8 l≠0 then (false,0,Xc8 l)
 else match wrN l l 0 with
  |some j=>(false,(j:Int),42)
  |none=>(giv (X2x l ((l.length:Int) - 1)),(l.length:Int) - 1,0)
theorem Xcm {l:List Xy} (h:Xc8 l=0):l.length<=60/\1<=l.length/\∃ sd,Xlt l []=some sd:=by
 unfold Xc8 at h;split at h
 ·cases h
 ·split at h
  ·cases h
  ·rename_i sd hr;have hn:=Xi9 l [] sd hr
   grind
theorem Xgo {l:List Xy} (h:Xc8 l=0):∀ j x,l[j]?=some x->Xmb x j:=by
 obtain⟨_,_,sd,hr⟩:=Xcm h;intro j x hj;have:=Xyn l [] sd hr j x hj
 grind
theorem Xsw (l:List Xy):∀ (xs:List Xy) (k j:Nat),wrN l xs k=some j->k<=j/\j<k+xs.length
 |[],k,j,h=>by cases h
 |x::xs,k,j,h=>by
  unfold wrN at h;split at h
  ·have:=Xsw l xs (k+1) j h;grind
  grind
theorem Xjs {l:List Xy} (h0:∀ x∈l,0<=x.Kind):Xdg l=some (kOf l):=by
 unfold Xdg kOf;rw[Xaf h0,Yo];by_cases hz:Xc8 l=0
 ·obtain⟨h60,h1,_⟩:=Xcm hz;rw[if_neg om,hz,show((0:Int) != 0)=false from rfl,cond_false];unfold Xdf;rw[X22 om,Yo];have ht:=Xxk om (Xgo hz) l 0 rfl;rw[show gvs l 0=[] from by rfl] at ht;rw[ht]
  cases hw:wrN l l 0 with
  |some j =>
   have:=(Xsw l l 0 j hw).2
   grind
  |none =>
   simp only[Yo];rw[Yf (show ¬ (l.length:Int)<(l.length:Int) by omega),cond_false,X0q om om,Xsa (Nat.le_refl _) om om];rfl
 grind
theorem Xqn {l:List Xy}:Xfc l=some (kOf l):=by
 unfold Xfc kOf;rw[Xae,Yo];by_cases hz:Xc8 l=0
 ·obtain⟨h60,h1,_⟩:=Xcm hz;rw[if_neg om,hz,show((0:Int) != 0)=false from rfl,cond_false];unfold Xbg;rw[X22 om,Yo,Xsv (Xgo hz) l 0 rfl]
  cases hw:wrN l l 0 with
  |some j =>
   have:=(Xsw l l 0 j hw).2
   grind
  |none =>
   simp only[Yo];obtain⟨e,he,hk⟩:=Xbl (l:=l) (i:=(l.length:Int) - 1) om om;rw[Yf (show ¬ (l.length:Int)<(l.length:Int) by omega),cond_false,X0q om om,he,Yo,Xnk,hk];rfl
 grind
def X2h (l:List Xy) (b:Bool):Int×Int :=
 if (kOf l).2.2=0/\(kOf l).1≠b then ((kOf l).2.1,42) else ((kOf l).2.1,(kOf l).2.2)
theorem Xfp {l:List Xy} {b:Bool} (h0:∀ x∈l,0<=x.Kind):X8o l b=some (X2h l b):=by
 unfold X8o X2h;rw[Xjs h0,Yo]
 grind
theorem Xfb {l:List Xy} {b:Bool}:X7e l b=some (X2h l b):=by
 unfold X7e X2h;rw[Xqn,Yo]
 grind
def Xt2 (s:List Int) (j:Bool):Bool:=s.length==0||(j&&s.length != 2)||s.any λx=>decide (x<0)||decide (x>3)
def X6g (s:List Int) (j:Bool):Int :=
 if s.length>4 then 4 else if Xt2 s j then 8 else if s.Nodup then 0 else 43
theorem Xof (Y:List Int):∀ (xs:List Int) (k:Nat),∃ o,X0i Y xs k=some o/\((xs.any λx=>decide (x<0)||decide (x>3))=true->∃ j:Nat,o=.x1 (j:Int))/\((xs.any λx=>decide (x<0)||decide (x>3))=false->o=.x0)
 |[],k=>⟨.x0,rfl,by simp,λ_=>rfl⟩
 |x::xs,k=>by
  obtain⟨o,h1,h2,h3⟩:=Xof Y xs (k+1);rw[X0i]
  grind [X5e,decide,Yt,Yf,Bool.or_eq_false_iff,decide_eq_false_iff_not]
theorem Xsl {s:List Int} (hn:s.length<=1000):Xs s=some (s.any λx=>decide (x<0)||decide (x>3)):=by
 unfold Xs X0h;rw[X22 om,Yo];obtain⟨o,h1,h2,h3⟩:=Xof s s 0
 grind [decide]
end Go.D


namespace Go.D
theorem X00o:∀ (xs ks:List Int),(X5l ks xs).length<=ks.length+xs.length/\((X5l ks xs).length=ks.length+xs.length↔xs.Nodup/\∀ x∈xs,x ∉ ks):=by
 intro xs
 induction xs with
 |nil=>intro ks;simp[X5l]
 |cons x xs ih =>
  intro ks;rw[X5l];unfold Xd2;by_cases hm:x∈ks
  ·grind
  ·rw[if_neg hm];have:=ih (ks++[x])
   grind
theorem Xsh {s:List Int} (hn:s.length<=1000):∃ v,X0t s=some v/\decide (v<(s.length:Int))=!(decide s.Nodup):=by
 unfold X0t;rw[X22 om];refine⟨_,rfl,?_⟩;have h:=X00o s []
 grind
theorem Xg3 (s:List Int) (j:Bool):X1x s j=some (X6g s j):=by
 unfold X1x X6g Xt2;by_cases h4:s.length>4
 ·grind
 ·rw[if_neg h4,Yf (show ¬ (s.length:Int)>4 by omega),cond_false];obtain⟨v,hv,hd⟩:=Xsh (s:=s) om;rw[Xsl om,hv]
  grind
theorem Xhb (Y:List Int):∀ (xs:List Int) (k:Nat),X2p Y xs k=some (bif (xs.any λx=>decide (x<0)||decide (x>3)) then .x1 else .x0)
 |[],k=>rfl
 |x::xs,k=>by
  rw[X2p,Xhb Y xs (k+1),List.any_cons];cases decide (x<0)<;>cases decide (x>3)<;>rfl
theorem Xoo (s:List Int) (i:Nat) (hi:i<s.length) (hs:s.length<=1000):∀ (m n j:Nat),m=i - j->m<n->∃ o,X2o s (i:Int) n (j:Int)=some o/\(o=.x0↔∃ j',j<=j'/\j'<i/\s[j']?=s[i]?):=by
 intro m
 induction m with
 |zero =>
  intro n j hm hn
  cases n with
  |zero=>omega
  |succ n =>
   rw[X2o,Yf (show ¬ (j:Int)<(i:Int) by omega)]
   grind
 |succ m ih =>
  intro n j hm hn
  cases n with
  |zero=>omega
  |succ n =>
   rw[X2o,Yt (show(j:Int)<(i:Int) by omega),cond_true,show X18 s (j:Int)=some (s[j]' om) by grind [X40,Ye],show X18 s (i:Int)=some (s[i]'hi) by grind [X40,Ye]];simp only[Yo];by_cases he:s[j]=s[i]
   ·refine⟨.x0,?_,⟨λ_=>⟨j,Nat.le_refl _,by omega,by grind⟩,λ_=>rfl⟩⟩
    grind
   ·rw[show(s[j]==s[i])=false by simp[he],cond_false,X0q om om];obtain⟨o,h1,h2⟩:=ih n (j+1) om om
    grind
theorem Xha (s:List Int) (hs:s.length<=1000):∀ (xs:List Int) (k:Nat),s.drop k=xs->(s.take k).Nodup->X20 s xs k=some (if s.Nodup then .x0 else .x1)
 |[],k,h,hd=>by
  simp_all [congrArg,List.length,List.take_of_length_le,X20,if_pos]
 |x::xs,k,h,hd=>by
  have hk:s[k]?=some x:=by
   have:(s.drop k)[0]?=some x:=by rw[h];rfl
   grind
  have hdr:s.drop (k+1)=xs:=by
   have:(s.drop k).drop 1=xs:=by rw[h];rfl
   rw[List.drop_drop] at this;exact this
  have hlt:=(Ys.1 hk).1;rw[X20];obtain⟨o,h1,h2⟩:=Xoo s k hlt hs (k - 0) FU 0 rfl (by unfold FU;omega);rw[show((0:Nat):Int)=0 from rfl] at h1;rw[h1,Yo]
  cases o with
  |x0 =>
   obtain⟨j,_,hj,he⟩:=h2.1 rfl;have:¬ s.Nodup:=λhn=>by
    grind [List.getElem?_inj]
   grind
  |x1 =>
   have hno:¬ ∃ j',0<=j'/\j'<k/\s[j']?=s[k]?:=λh=>by grind
   refine Xha s hs xs (k+1) hdr ?_;rw[List.take_add_one,hk];simp only[Option.toList_some];rw[List.nodup_append];refine⟨hd,by simp,λa ha b hb=>?_⟩;simp at hb;subst hb;intro e;subst e;obtain⟨j,hj,e⟩:=List.getElem_of_mem ha;simp at hj;refine hno ⟨j,Nat.zero_le _,by omega,?_⟩
   grind
theorem Xht (s:List Int) (j:Bool):X6j s j=some (X6g s j):=by
 unfold X6j X6g Xt2;by_cases h4:s.length>4
 ·grind
 ·rw[if_neg h4,Yf (show ¬ (s.length:Int)>4 by omega),cond_false,X22 om,Xhb,Xha s om s 0 rfl (by simp)]
  grind
instance (w:X0r):Decidable (okW w):=by unfold okW;infer_instance
theorem X068 (w:X0r) (hE:w.Every<=9223372036854775807 /\ -9223372036854775808<=w.Every):X7d w=some (decide (okW w))/\X0u w=some (if okW w then 0 else 8):=by
 by_cases hw:okW w
 ·refine⟨?_,by simp_all [if_pos,X41]⟩;rw[Yt hw];obtain⟨h1,h2,h3⟩:=hw
  grind [X7d,Yf,Yt,X0q]
 ·rw[if_neg hw,Yf hw];by_cases hs:w.Size<1\/w.Size>1073741824
  ·grind [decide,Yt,Yf,X7d,X0u]
  ·have:(bif decide (w.Size<1) then true else decide (w.Size>1073741824))=false:=by
    grind
   unfold X7d X0u;rw[this,cond_false,cond_false];by_cases k2:w.Kind=2
   ·rw[show(w.Kind==2)=true by simp[k2],cond_true,cond_true];have:(bif (bif decide (w.Every >= 1) then decide (w.Every<=w.Size) else false) then decide (w.Size<=IntKind.i64.wrap (16*w.Every)) else false)=false:=by
     by_cases g1:w.Every >= 1
     ·by_cases g2:w.Every<=w.Size
      ·rw[Yt g1,Yt g2,X0q om om,Yf];rfl;intro g3;exact hw ⟨by omega,by omega,.inl ⟨k2,g1,g2,g3⟩⟩
      grind
     grind
    grind
   ·rw[show(w.Kind==2)=false by simp[k2],cond_false,cond_false];by_cases k1:w.Kind=1
    ·have:w.Every≠0:=λh=>hw ⟨by omega,by omega,.inr ⟨.inl k1,h⟩⟩
     grind
    ·by_cases k3:w.Kind=3
     ·have:w.Every≠0:=λh=>hw ⟨by omega,by omega,.inr ⟨.inr k3,h⟩⟩
      grind
     grind
end Go.D


namespace Go.D
def Xx9 (q:X00):Int :=
 if q.Agg<1\/q.Agg>4\/(q.Late≠1/\q.Late≠2) then 8
 else if q.Agg=1/\0<q.Arg.length then 8
 else if q.Agg≠1/\Xc8 q.Arg≠0 then Xc8 q.Arg
 else if 0<q.Where.length/\Xc8 q.Where≠0 then Xc8 q.Where
 else if X6g q.Sources q.Join≠0 then X6g q.Sources q.Join
 else if q.Join=true/\q.Window.Kind≠1 then 8
 else if okW q.Window then 0 else 8
structure QW (q:X00):Prop where
 arg:∀ x∈q.Arg,0<=x.Kind
 wher:∀ x∈q.Where,0<=x.Kind
 ev:q.Window.Every<=9223372036854775807 /\ -9223372036854775808<=q.Window.Every
theorem X06t {q:X00} (hq:QW q):((X1x q.Sources q.Join).bind λv10=>bif (v10 != (0:Int)) then (some v10) else (bif (bif q.Join then (q.Window.Kind != (1:Int)) else false) then (some 8) else ((X0u q.Window).bind λv14=>some v14)))=some (if X6g q.Sources q.Join≠0 then X6g q.Sources q.Join
 else if q.Join=true/\q.Window.Kind≠1 then 8
 else if okW q.Window then 0 else 8):=by
 rw[Xg3,Yo,(X068 q.Window hq.ev).2];by_cases h:X6g q.Sources q.Join=0
 ·rw[h];by_cases hj:q.Join=true
  ·by_cases hk:q.Window.Kind=1
   ·simp[hj,hk]
   ·simp[hj,hk,Xlf hk]
  ·simp[hj]
 ·simp[h,Xlf h]
theorem Xi4 {q:X00} (hq:QW q):X6p q=some (Xx9 q):=by
 unfold X6p Xx9;rw[X06t hq,Xaf hq.arg,Xaf hq.wher];generalize (if X6g q.Sources q.Join≠0 then X6g q.Sources q.Join else if q.Join=true/\q.Window.Kind≠1 then 8 else if okW q.Window then 0 else 8)=T;have e1:(bif (bif (decide (q.Agg<(1:Int))) then true else (decide (q.Agg>(4:Int)))) then true else (bif (q.Late != (1:Int)) then (q.Late != (2:Int)) else false))=decide (q.Agg<1\/q.Agg>4\/(q.Late≠1/\q.Late≠2)):=by
  rw[Bool.eq_iff_iff];by_cases h1:q.Agg<1<;>by_cases h2:q.Agg>4<;>by_cases h3:q.Late=1<;>by_cases h4:q.Late=2<;>simp[h1,h2,h3,h4]
 rw[e1];by_cases hA:(q.Agg<1\/q.Agg>4\/(q.Late≠1/\q.Late≠2))
 ·rw[if_pos hA,Yt hA];rfl
 ·rw[if_neg hA,Yf hA,cond_false];by_cases h1:q.Agg=1
  ·rw[show(q.Agg != 1)=false by simp[h1],cond_false];by_cases hl:0<q.Arg.length
   ·rw[Yt (show(q.Arg.length:Int)>0 by omega),if_pos ⟨h1,hl⟩];rfl
   ·rw[Yf (show ¬ (q.Arg.length:Int)>0 by omega),if_neg (λh=>hl h.2),if_neg (λh=>h.1 h1),cond_false];by_cases hw:0<q.Where.length
    ·rw[Yt (show(q.Where.length:Int)>0 by omega),cond_true,Yo];by_cases hz:Xc8 q.Where=0
     ·rw[hz];simp
     ·rw[if_pos ⟨hw,hz⟩,show(Xc8 q.Where != 0)=true by simp[hz]];rfl
    ·rw[Yf (show ¬ (q.Where.length:Int)>0 by omega),if_neg (λh=>hw h.1)];rfl
  ·rw[show(q.Agg != 1)=true by simp[h1],cond_true,if_neg (λh=>h1 h.1),Yo];by_cases hn:Xc8 q.Arg=0
   ·rw[hn,if_neg (λh=>h.2 rfl),show((0:Int) != 0)=false from rfl,cond_false];by_cases hw:0<q.Where.length
    ·rw[Yt (show(q.Where.length:Int)>0 by omega),cond_true,Yo];by_cases hz:Xc8 q.Where=0
     ·rw[hz];simp
     ·rw[if_pos ⟨hw,hz⟩,show(Xc8 q.Where != 0)=true by simp[hz]];rfl
    ·rw[Yf (show ¬ (q.Where.length:Int)>0 by omega),if_neg (λh=>hw h.1)];rfl
   ·rw[if_pos ⟨h1,hn⟩,show(Xc8 q.Arg != 0)=true by simp[hn]];rfl
theorem Xl2 {q:X00} (hq:QW q):X98 q=some (Xx9 q):=by
 unfold X98 Xx9;rw[Xae,Xae,Xht,(X068 q.Window hq.ev).1];have e1:(bif (bif (bif (decide (q.Agg<(1:Int))) then true else (decide (q.Agg>(4:Int)))) then true else (decide (q.Late<(1:Int)))) then true else (decide (q.Late>(2:Int))))=decide (q.Agg<1\/q.Agg>4\/(q.Late≠1/\q.Late≠2)):=by
  rw[Bool.eq_iff_iff];have g:(q.Late≠1/\q.Late≠2)↔(q.Late<1\/q.Late>2):=by omega
  rw[show decide (q.Agg<1\/q.Agg>4\/(q.Late≠1/\q.Late≠2))=decide (q.Agg<1\/q.Agg>4\/(q.Late<1\/q.Late>2)) from decide_eq_decide.2 (by rw[g])];by_cases h1:q.Agg<1<;>by_cases h2:q.Agg>4<;>by_cases h3:q.Late<1<;>by_cases h4:q.Late>2<;>simp[h1,h2,h3,h4]
 rw[e1]
 have tl:((some (X6g q.Sources q.Join)).bind λv29=>bif (v29 != (0:Int)) then (some v29) else ((some (decide (okW q.Window))).bind λv32=>bif (bif (!v32) then true else (bif q.Join then (q.Window.Kind != (1:Int)) else false)) then (some 8) else (some 0)))=some (if X6g q.Sources q.Join≠0 then X6g q.Sources q.Join
 else if q.Join=true/\q.Window.Kind≠1 then 8
 else if okW q.Window then 0 else 8):=by
  simp only[Yo];by_cases h:X6g q.Sources q.Join=0
  ·rw[h];by_cases hk:q.Window.Kind=1
   ·by_cases hj:q.Join=true<;>by_cases ho:okW q.Window<;>simp[hj,hk,ho]
   ·by_cases hj:q.Join=true<;>by_cases ho:okW q.Window<;>simp[hj,hk,ho,Xlf hk]
  ·simp[h,Xlf h]
 rw[tl];generalize (if X6g q.Sources q.Join≠0 then X6g q.Sources q.Join else if q.Join=true/\q.Window.Kind≠1 then 8 else if okW q.Window then 0 else 8)=T;by_cases hA:(q.Agg<1\/q.Agg>4\/(q.Late≠1/\q.Late≠2))
 ·rw[if_pos hA,Yt hA];rfl
 ·rw[if_neg hA,Yf hA,cond_false];have wh:((bif (decide ((List.length q.Where:Int)>(0:Int))) then ((some (Xc8 q.Where)).bind λv23=>some (bif (decide ((List.length q.Where:Int)>(0:Int))) then (v23 != (0:Int)) else false)) else (some (bif (decide ((List.length q.Where:Int)>(0:Int))) then false else false)):Option (Bool)).bind λX0cw=>bif X0cw then ((some (Xc8 q.Where)).bind λv27=>some v27) else some T)=some (if 0<q.Where.length/\Xc8 q.Where≠0 then Xc8 q.Where else T):=by
   by_cases hw:0<q.Where.length
   ·rw[Yt (show(q.Where.length:Int)>0 by omega)];by_cases hz:Xc8 q.Where=0
    ·rw[hz];simp
    ·rw[if_pos ⟨hw,hz⟩];simp[hz,Xlf hz]
   ·rw[Yf (show ¬ (q.Where.length:Int)>0 by omega),if_neg (λh=>hw h.1)];rfl
  rw[wh];generalize (if 0<q.Where.length/\Xc8 q.Where≠0 then Xc8 q.Where else T)=T2;by_cases h1:q.Agg=1
  ·rw[show(q.Agg==1)=true by simp[h1],show(q.Agg != 1)=false by simp[h1]];by_cases hl:0<q.Arg.length
   ·rw[Yt (show(q.Arg.length:Int)>0 by omega),if_pos ⟨h1,hl⟩];rfl
   ·rw[Yf (show ¬ (q.Arg.length:Int)>0 by omega),if_neg (λh=>hl h.2),if_neg (λh=>h.1 h1)];rfl
  ·rw[show(q.Agg==1)=false by simp[h1],show(q.Agg != 1)=true by simp[h1],if_neg (λh=>h1 h.1)];by_cases hn:Xc8 q.Arg=0
   ·rw[hn,if_neg (λh=>h.2 rfl)];rfl
   ·rw[if_pos ⟨h1,hn⟩];simp[hn,Xlf hn]
def atOf (l:List Xy) (i:Int):Int:=match X18 l i with|some e=>e.At|none=>0
theorem Xmx {l:List Xy} {b:Bool} (h:0<l.length):∃ e,X18 l (X2h l b).1=some e/\atOf l (X2h l b).1=e.At:=by
 have hr:0<=(X2h l b).1/\(X2h l b).1<l.length:=by
  have:(X2h l b).1=(kOf l).2.1:=by unfold X2h;split<;>rfl
  rw[this];unfold kOf;split
  ·simp only;omega
  ·split
   ·rename_i j hj;have:=Xsw l l 0 j hj;simp only;omega
   ·simp only;omega
 obtain⟨e,he,_⟩:=Xcs hr.1 hr.2;exact⟨e,he,by unfold atOf;rw[he]⟩
def rt (q:X00):Int×Int :=
 if 0<q.Arg.length/\(X2h q.Arg false).2≠0 then (atOf q.Arg (X2h q.Arg false).1,(X2h q.Arg false).2)
 else if 0<q.Where.length/\(X2h q.Where true).2≠0 then (atOf q.Where (X2h q.Where true).1,(X2h q.Where true).2)
 else (0,0)
theorem Xsx (q:X00) (hw:0<q.Where.length):(bif ((X2h q.Where true).2 != (0:Int)) then ((X18 q.Where (X2h q.Where true).1).bind λe28=>some (e28.At,(X2h q.Where true).2)) else (some (0,0)))=some (if 0<q.Where.length/\(X2h q.Where true).2≠0 then (atOf q.Where (X2h q.Where true).1,(X2h q.Where true).2) else (0,0)):=by
 obtain⟨e,he,ha⟩:=Xmx (b:=true) hw;by_cases hz:(X2h q.Where true).2=0
 ·rw[if_neg (λh=>h.2 hz),show((X2h q.Where true).2 != 0)=false by simp[hz]];rfl
 ·rw[if_pos ⟨hw,hz⟩,show((X2h q.Where true).2 != 0)=true by simp[hz],he,ha];rfl
theorem Xkz (q:X00):X95 q=some (rt q):=by
 unfold X95 rt;rw[Xfb,Xfb];simp only[Yo];have wh:(bif (decide ((List.length q.Where:Int)>(0:Int))) then (bif ((X2h q.Where true).2 != (0:Int)) then ((X18 q.Where (X2h q.Where true).1).bind λe28=>some (e28.At,(X2h q.Where true).2)) else (some (0,0))) else (some (0,0)))=some (if 0<q.Where.length/\(X2h q.Where true).2≠0 then (atOf q.Where (X2h q.Where true).1,(X2h q.Where true).2) else (0,0)):=by
  by_cases hw:0<q.Where.length
  ·rw[Yt (show(q.Where.length:Int)>0 by omega),cond_true,Xsx q hw]
  ·rw[Yf (show ¬ (q.Where.length:Int)>0 by omega),if_neg (λh=>hw h.1)];rfl
 rw[wh];by_cases ha:0<q.Arg.length
 ·rw[Yt (show(q.Arg.length:Int)>0 by omega),cond_true];obtain⟨e,he,hat⟩:=Xmx (b:=false) ha;by_cases hz:(X2h q.Arg false).2=0
  ·rw[if_neg (show ¬ (0<q.Arg.length/\(X2h q.Arg false).2≠0) from λh=>h.2 hz),show((X2h q.Arg false).2 != 0)=false by simp[hz],cond_false]
  ·rw[if_pos (show(0<q.Arg.length/\(X2h q.Arg false).2≠0) from⟨ha,hz⟩),show((X2h q.Arg false).2 != 0)=true by simp[hz],he,hat];rfl
 ·rw[Yf (show ¬ (q.Arg.length:Int)>0 by omega),if_neg (show ¬ (0<q.Arg.length/\(X2h q.Arg false).2≠0) from λh=>ha h.1),cond_false]
def qChk (q:X00):Int×Int:=if Xx9 q≠0 then (0,Xx9 q) else rt q
theorem Xl0 {q:X00} (hq:QW q):X96 q=some (qChk q):=by
 unfold X96 qChk;rw[Xl2 hq,Xkz,Yo];by_cases h:Xx9 q=0
 ·rw[if_neg om,h];rfl
 ·rw[if_pos h,show(Xx9 q != 0)=true by simp[h]];rfl
theorem Xkg {q:X00} (hq:QW q):X7y q=some (qChk q):=by
 unfold X7y qChk;rw[Xi4 hq,Yo];by_cases h:Xx9 q=0
 ·rw[if_neg om,h,show((0:Int) != 0)=false from rfl,cond_false];unfold X9i Xa0;rw[Xfp hq.arg,Xfp hq.wher];simp only[Yo];unfold rt;have wh:(bif ((List.length q.Where:Int)==(0:Int)) then (some (0,0)) else (bif ((X2h q.Where true).2 != (0:Int)) then ((X18 q.Where (X2h q.Where true).1).bind λe28=>some (e28.At,(X2h q.Where true).2)) else (some (0,0))))=some (if 0<q.Where.length/\(X2h q.Where true).2≠0 then (atOf q.Where (X2h q.Where true).1,(X2h q.Where true).2) else (0,0)):=by
   by_cases hw:0<q.Where.length
   ·rw[lz hw,cond_false,Xsx q hw]
   ·rw[lz' hw,if_neg (λh=>hw h.1)];rfl
  rw[wh];by_cases ha:0<q.Arg.length
  ·rw[lz ha,cond_false];obtain⟨e,he,hat⟩:=Xmx (b:=false) ha;by_cases hz:(X2h q.Arg false).2=0
   ·rw[if_neg (show ¬ (0<q.Arg.length/\(X2h q.Arg false).2≠0) from λh=>h.2 hz),show((X2h q.Arg false).2 != 0)=false by simp[hz],cond_false];rfl
   ·rw[if_pos (show(0<q.Arg.length/\(X2h q.Arg false).2≠0) from⟨ha,hz⟩),show((X2h q.Arg false).2 != 0)=true by simp[hz],he,hat];rfl
  ·rw[lz' ha,if_neg (show ¬ (0<q.Arg.length/\(X2h q.Arg false).2≠0) from λh=>ha h.1)];rfl
 ·rw[if_pos h,show(Xx9 q != 0)=true by simp[h]];rfl
end Go.D


namespace Go.D
theorem Xai (x y:X6):X38 x y=decide (x=y):=by
 obtain⟨a,b,c⟩:=x;obtain⟨a',b',c'⟩:=y;simp only[X38,Bool.and_true]
 grind
def Xtm:Int := -9223372036854775808
def X09d:Int:=9223372036854775807
def Xcr (t:Int):Bool:=decide (-1099511627776<=t)&&decide (t<=1099511627776)
def Xux (x:Xq):Bool:=bif x.Mark then decide (x.Record=⟨0,0,0⟩)&&(Xcr x.Time||x.Time==X09d) else x.Time==0&&Xcr x.Record.Time
def chk (l:List Xq):Int:=if 60<l.length then 4 else bif l.all Xux then 0 else 8
theorem Xes {n:Nat} (h:n<=140737488355328):X3b n=some ():=by unfold X3b;rw[if_pos h]
theorem Xki {n b:Nat} (h:n*b<=140737488355328):X0x n b=some ():=by unfold X0x;rw[if_pos h]
theorem X0a4 {l:List Xq} (h:chk l=0):l.length<=60:=by
 unfold chk at h;grind
def Xr3 (m:Int) (x:Xq):Int:=if x.Mark then (if x.Time>m then x.Time else m) else m
def Xta (late:Bool):Int->List Xq->List X6
 |_,[]=>[]
 |m,x::l=>if !x.Mark&&(decide (x.Record.Time<m)==late) then x.Record::Xta late (Xr3 m x) l else Xta late (Xr3 m x) l
theorem Xt9 (q:Bool):∀ (l:List Xq) (m:Int),(Xta q m l).length<=l.length:=by
 intro l
 induction l with
 |nil=>intro m;exact Nat.le_refl _
 |cons x l ih =>
  grind [Xr3,Xta,List.length_cons]
def Xck (l:List Xq):List X6:=if chk l=0 then Xta false Xtm l else []
def Xmw (l:List Xq):List X6:=if chk l=0 then Xta true Xtm l else []
end Go.D


namespace Go.D
theorem Xp2 (t:Int):Xb1 t=some (Xcr t):=by
 unfold Xb1 Xcr;simp only[ge_iff_le];cases decide (-1099511627776<=t)<;>rfl
theorem Xi0 (l:List Xq):∀ (xs:List Xq) (k:Nat),X4a l xs k=some (bif xs.all Xux then .x0 else .x1):=by
 intro xs
 induction xs with
 |nil=>intro k;rfl
 |cons x xs ih =>
  intro k;rw[X4a,ih];simp only[Xp2,Xai,List.all_cons,Xux,X09d];generalize decide (x.Record=⟨0,0,0⟩)=b1;generalize Xcr x.Time=b2;generalize Xcr x.Record.Time=b3;generalize (x.Time==9223372036854775807)=b4;generalize (x.Time==0)=b5;generalize x.Mark=b6;cases b1<;>cases b2<;>cases b3<;>cases b4<;>cases b5<;>cases b6<;>rfl
theorem Xfo (l:List Xq):X8n l=some (chk l):=by
 unfold X8n chk;by_cases h:60<l.length
 ·rw[if_pos h,show decide ((l.length:Int)>60)=true from Yt om];rfl
 ·rw[if_neg h,show decide ((l.length:Int)>60)=false from Yf om,Xes om];simp only[cond_false,Yo,Xi0];cases l.all Xux<;>rfl
theorem Xhy (l:List Xq):∀ (xs:List Xq) (k:Nat) (a b:List X6) (m:Int),a.length+xs.length<=1000000->b.length+xs.length<=1000000 ->
  X3k l xs k a b m=some (.x0 (a++Xta false m xs) (b++Xta true m xs)):=by
 intro xs
 induction xs with
 |nil=>intro k a b m _ _;simp[X3k,Xta]
 |cons x xs ih =>
  intro k a b m ha hb;simp only[List.length_cons] at ha hb;rw[X3k]
  cases hx:x.Mark with
  |true=>simp[ih _ a b _ om om,Xta,Xr3,hx]
  |false =>
   by_cases ht:x.Record.Time<m
   ·simp[ht,Xki (show(b.length+1)*24<=140737488355328 by omega),ih _ a (b++[x.Record]) _ om (by simp;omega),Xta,Xr3,hx]
   ·simp[ht,Xki (show(a.length+1)*24<=140737488355328 by omega),ih _ (a++[x.Record]) b _ (by simp;omega) om,Xta,Xr3,hx]
theorem Xmv (l:List Xq):Xb2 l=some (Xck l,Xmw l,chk l):=by
 unfold Xb2 Xck Xmw;rw[Xfo];by_cases h:chk l=0
 ·have:=X0a4 h;simp[h,Xes (show l.length<=140737488355328 by omega),Xhy l l 0 [] [] _ (by simp;omega) (by simp;omega),Xtm]
 ·have h':(chk l != 0)=true:=by simp[h]
  simp[h,h']
end Go.D


namespace Go.D
theorem X0ik (a:Int):0<=bits .and .i64 a 63:=by
 unfold bits;simp only;have h:((BitVec.ofInt IntKind.i64.bits a) &&& (BitVec.ofInt IntKind.i64.bits 63)).toNat<=63:=by
  rw[BitVec.toNat_and];exact Nat.le_trans Nat.and_le_right (by decide)
 rw[X0q om om];omega
theorem X02t (b:Bool):X3d b=some (if b then 1 else 0):=by cases b<;>rfl
theorem Xm1 {K a b:Int} (h1:5<=K) (h2:K<=19):∃ v,Xk0 K a b=some (v,0):=by
 have hs:shOk (bits .and .i64 b 63)=some ():=by unfold shOk;rw[if_pos (X0ik b)]
 unfold Xk0;simp only[X02t,hs,Yo];rcases(by omega:K=5\/K=6\/K=7\/K=8\/K=9\/K=10\/K=11\/K=12\/K=13\/K=14\/K=15\/K=16\/K=17\/K=18\/K=19) with h|h|h|h|h|h|h|h|h|h|h|h|h|h|h<;>subst h<;>exact⟨_,rfl⟩
def i64 (z:Int):Prop := -9223372036854775808<=z/\z<=9223372036854775807
end Go.D


namespace Go.D
theorem Xu0 {l:List Xy} (env:V5 Int) (ho:∀ j x,l[j]?=some x->Xmb x j):∀ (xs:List Xy) (k:Nat) (vs:List Int),l.drop k=xs->vs.length=l.length->∃ vs',X2y env l xs k vs=some (.x0 vs')/\vs'.length=l.length
 |[],k,vs,_,hv=>⟨vs,rfl,hv⟩
 |x::xs,k,vs,h,hv=>by
  have hk:l[k]?=some x:=by
   have:(l.drop k)[0]?=some x:=by rw[h];rfl
   simpa using this
  have hd:l.drop (k+1)=xs:=by
   have:(l.drop k).drop 1=xs:=by rw[h];rfl
   rw[List.drop_drop] at this;exact this
  have hlt:=(Ys.1 hk).1;have hx:=ho k x hk;have hg:X18 vs (k:Int)=some (vs[k]' om):=by rw[X40];exact Ye _
  have go:∀ z,∃ vs',X2y env l xs (k+1) (vs.set (Int.toNat (k:Int)) z)=some (.x0 vs')/\vs'.length=l.length:=λz=>Xu0 env ho xs (k+1) _ hd (by rw[List.length_set];exact hv);rw[X2y];have h1:=hx.lo;have h2:=hx.hi;by_cases k1:x.Kind=1
  ·rw[show(x.Kind==1)=true by simp[k1],cond_true,hg,Yo];exact go _
  ·rw[show(x.Kind==1)=false by simp[k1],cond_false];by_cases k4:x.Kind<=4
   ·rw[Yt k4,cond_true,show(x.Kind==0)=false by simp;omega,hg];simp only[Yo,cond_false];rcases(by omega:x.Kind=2\/x.Kind=3\/x.Kind=4) with h|h|h
    ·rw[h];exact go _
    ·rw[h];exact go _
    ·rw[h];exact go _
   ·rw[Yf k4,cond_false];have hA:=hx.ak om;have hB:=hx.bk om;obtain⟨a,ha,_⟩:=Xcs (l:=vs) hx.a0 om;obtain⟨b,hb,_⟩:=Xcs (l:=vs) hx.b0 om;obtain⟨v,hdo⟩:=Xm1 (K:=x.Kind) (a:=a) (b:=b) om h2;rw[ha,Yo,hb,Yo,hdo,hg];exact go _
def evV (l:List Xy) (r:X6):Int:=match X5p l r with|some v=>v.1|none=>0
theorem Xew {l:List Xy} (h0:∀ x∈l,0<=x.Kind) (h:(kOf l).2.2=0) (r:X6):X5p l r=some (evV l r,0):=by
 have hz:Xc8 l=0:=by
  by_cases hz:Xc8 l=0
  ·exact hz
  ·unfold kOf at h;rw[if_pos hz] at h;exact h
 obtain⟨h60,h1,_⟩:=Xcm hz;have:∃ v,X5p l r=some (v,0):=by
  unfold X5p Xfz Xbt;rw[Xjs h0,Yo,Yo,h];have hm:mkOk (l.length:Int) (l.length:Int) 8=some ():=by unfold mkOk;rw[if_pos ⟨by omega,rfl,by omega⟩]
  rw[hm,X22 om];obtain⟨vs,hvs,hl⟩:=Xu0 (V5.mk 0 0 r.Key r.Time r.Value) (Xgo hz) l 0 (List.replicate (Int.toNat (l.length:Int)) 0) rfl (by simp);simp only[Yo];rw[hvs];simp only[bne_self_eq_false,cond_false,Yo];rw[hl,X0q om om];obtain⟨v,hv,_⟩:=Xcs (l:=vs) (i:=(l.length:Int) - 1) om om;exact⟨v,by rw[hv];rfl⟩
 obtain⟨v,hv⟩:=this;unfold evV;rw[hv]
theorem Xtp {l:List Xy} {b:Bool} (h:(X2h l b).2=0):(kOf l).2.2=0:=by
 unfold X2h at h;split at h
 ·cases h
 ·exact h
end Go.D


namespace Go.D
theorem Xky (t:Int):X7c t 1=some (bif Xcr t then 0 else 16):=by
 unfold X7c Xcr;by_cases h1 : -1099511627776<=t
 ·rw[show decide (t < -1099511627776)=false from Yf om,Yt h1];by_cases h2:t<=1099511627776
  ·rw[show decide (t>1099511627776)=false from Yf om,Yt h2];rfl
  ·rw[show decide (t>1099511627776)=true from Yt om,Yf h2];rfl
 ·rw[show decide (t < -1099511627776)=true from Yt om,Yf h1];rfl
theorem Xkw (x:Xq):X93 x=some (Xux x):=by
 unfold X93 Xux X09d;simp only[Xky,Xai];generalize decide (x.Record=⟨0,0,0⟩)=b1;generalize Xcr x.Time=b2;generalize Xcr x.Record.Time=b3;generalize (x.Time==9223372036854775807)=b4;generalize (x.Time==0)=b5;generalize x.Mark=b6;cases b1<;>cases b2<;>cases b3<;>cases b4<;>cases b5<;>cases b6<;>rfl
theorem Xgf (l:List Xq):∀ (xs:List Xq) (k:Nat),X3s l xs k=some (bif xs.all Xux then .x0 else .x1):=by
 intro xs
 induction xs with
 |nil=>intro k;rfl
 |cons x xs ih =>
  intro k;rw[X3s,ih];simp only[Xkw,List.all_cons,Yo];cases Xux x<;>rfl
theorem Xkx (l:List Xq):X94 l=some (chk l):=by
 unfold X94 chk;by_cases h:60<l.length
 ·rw[if_pos h,show decide ((l.length:Int)>60)=true from Yt om];rfl
 ·rw[if_neg h,show decide ((l.length:Int)>60)=false from Yf om,Xes om];simp only[cond_false,Yo,Xgf];cases l.all Xux<;>rfl
theorem X00z {l:List Xq}:chk l=0↔l.length<=60/\∀ x∈l,Xux x=true:=by
 unfold chk;constructor
 ·intro h;split at h
  ·cases h
  ·refine⟨by omega,?_⟩
   cases ha:l.all Xux with
   |true=>exact List.all_eq_true.1 ha
   |false=>rw[ha] at h;cases h
 ·rintro⟨h1,h2⟩;rw[if_neg om,List.all_eq_true.2 h2];rfl
def Xe1:List (List Xq)->Int
 |[]=>0
 |x::xs=>if chk x≠0 then chk x else Xe1 xs
theorem Xfh (Y:List (List Xq)):∀ (xs:List (List Xq)) (k:Nat),∃ o,X28 Y xs k=some o/\(match o with|.x0=>(0:Int)|.x1 z=>z)=Xe1 xs
 |[],k=>⟨_,rfl,rfl⟩
 |x::xs,k=>by
  rw[X28,Xfo,Yo,Xe1];by_cases h:chk x=0
  ·rw[if_neg om,h];exact Xfh Y xs (k+1)
  ·rw[if_pos h,Xlf h];exact⟨_,rfl,rfl⟩
theorem Xgp {l:List (List Xq)} (hn:l.length<=1000):X5j l=some (Xe1 l):=by
 unfold X5j;rw[X22 om,Yo];obtain⟨o,h1,h2⟩:=Xfh l l 0;rw[h1,<-h2];cases o<;>rfl
theorem Xek {l:List (List Xq)}:Xe1 l=0↔∀ x∈l,chk x=0:=by
 induction l with
 |nil=>simp[Xe1]
 |cons x xs ih =>
  rw[Xe1];by_cases h:chk x=0
  ·rw[if_neg om,ih];simp[h]
  ·rw[if_pos h];simp[h]
end Go.D


namespace Go.D
def ltE (a b:X4):Prop:=a.Span.End<b.Span.End\/a.Span.End=b.Span.End/\(a.Span.Start<b.Span.Start\/a.Span.Start=b.Span.Start/\a.Key<b.Key)
instance (a b:X4):Decidable (ltE a b):=by unfold ltE;infer_instance
def X4t (a b:X4):Prop:=a.Key=b.Key/\a.Span=b.Span
instance (a b:X4):Decidable (X4t a b):=by unfold X4t;infer_instance
theorem Xi7 {a b:X0p} (h1:a.Start=b.Start) (h2:a.End=b.End):a=b:=by cases a;simp_all
theorem Xjo {a b c:X4} (h:ltE a b) (k:ltE b c):ltE a c:=by unfold ltE at *;omega
theorem Xvj (a:X4):¬ ltE a a:=by unfold ltE;omega
theorem Xjp {a b:X4}:ltE a b\/X4t a b\/ltE b a:=by
 grind [X4t,Xi7,ltE]
theorem sameK_ltE {a b c:X4} (h:X4t a b):ltE c a↔ltE c b:=by grind [X4t,ltE]
theorem Xd8 {a b c:X4} (h:X4t a b):ltE a c↔ltE b c:=by grind [X4t,ltE]
theorem X9y {a b:X4} (h:X4t a b):¬ ltE a b:=by grind [X4t,ltE]
def cmpI (a b:Int):Int:=if a<b then -1 else if a>b then 1 else 0
theorem X0dt (a b:Int):X02 a b=some (cmpI a b):=by
 simp only[X02,X2i,bne_self_eq_false,Yo,cond_false,cmpI]
 grind
def ordE (a b:X4):Int:=if ltE a b then -1 else if ltE b a then 1 else 0
theorem Xab (a b:X4):X5r a b=some (ordE a b):=by
 simp only[X5r,X0dt,Yo,X67,X2s,List.length_cons,List.length_nil]
 grind [X22,ordE,ltE,cmpI]
theorem Xqr {a b:X4}:ordE a b<0↔ltE a b:=by
 grind [ordE,ltE]
theorem X081 {a b:X4}:ordE a b=0↔X4t a b:=by
 unfold ordE;by_cases h:ltE a b
 ·grind [X9y]
 ·by_cases h2:ltE b a
  ·simp[h,h2];exact λhs=>h ((Xd8 hs).2 ((sameK_ltE hs).1 h2))
  grind [Xjp,absurd]
theorem X080 {a b:X4}:0<=ordE a b↔¬ ltE a b:=by rw[<-Xqr];omega
def okA (a:X0y):Prop:=(a.Count=0/\a=⟨0,0,0,0⟩)\/(a.Count=1/\a.Sum=a.Min/\a.Sum=a.Max)\/(1<a.Count/\a.Count<=1073741824/\a.Min<=a.Max)
theorem X42 {a:X0y} (h:okA a):X2z a=some 0:=by
 rcases h with ⟨h1,h2⟩|⟨h1,h2,h3⟩|⟨h1,h2,h3⟩
 ·subst h2;rfl
 ·have h3':a.Min=a.Max:=by omega
  simp[X2z,h1,h2,h3']
 ·have e0:(a.Count==0)=false:=by simp;omega
  have e1:(a.Count==1)=false:=by simp;omega
  simp[X2z,e0,e1,h1,h2,h3]
def X4b (a b:X0y):X0y :=
 if a.Count=0 then b else if b.Count=0 then a else ⟨a.Count+b.Count,IntKind.i64.wrap (a.Sum+b.Sum),if b.Min<a.Min then b.Min else a.Min,if b.Max>a.Max then b.Max else a.Max⟩
theorem Xay {a:X0y} (h:okA a):0<=a.Count/\a.Count<=1073741824:=by
 rcases h with ⟨h1,_⟩|⟨h1,_⟩|⟨h1,h2,_⟩<;>omega
theorem X3u {a b:X0y} (ha:okA a) (hb:okA b) (hc:a.Count+b.Count<=1073741824):X1y a b=some (X4b a b,0):=by
 have h1:=Xay ha;have h2:=Xay hb;simp only[X1y,X42 ha,X42 hb,Yo,bne_self_eq_false,cond_false,X4b];rw[X0q om om];have e0:decide (a.Count+b.Count>1073741824)=false:=by simp;omega
 rw[e0,cond_false];by_cases h3:a.Count=0
 ·have e1:(a.Count==0)=true:=by simp[h3]
  rw[e1,cond_true,if_pos h3]
 ·have e1:(a.Count==0)=false:=by simp[h3]
  rw[e1,cond_false,if_neg h3];by_cases h4:b.Count=0
  ·have e2:(b.Count==0)=true:=by simp[h4]
   rw[e2,cond_true,if_pos h4]
  ·have e2:(b.Count==0)=false:=by simp[h4]
   rw[e2,cond_false,if_neg h4]
theorem Xyl {a:X0y} (h:okA a):a.Min<=a.Max:=by
 rcases h with ⟨_,h2⟩|⟨_,h2,h3⟩|⟨_,_,h3⟩
 ·subst h2;decide
 ·omega
 ·exact h3
theorem X03t {a b:X0y} (ha:okA a) (hb:okA b) (hc:a.Count+b.Count<=1073741824):okA (X4b a b):=by
 unfold X4b;have h1:=Xay ha;have h2:=Xay hb;by_cases h3:a.Count=0
 ·rw[if_pos h3];exact hb
 ·rw[if_neg h3];by_cases h4:b.Count=0
  ·rw[if_pos h4];exact ha
  ·rw[if_neg h4];have m1:=Xyl ha;have m2:=Xyl hb;refine .inr (.inr ⟨?_,hc,?_⟩)
   ·show 1<a.Count+b.Count;omega
   ·show(if b.Min<a.Min then b.Min else a.Min)<=(if b.Max>a.Max then b.Max else a.Max);split<;>split<;>omega
def okE (x:X4):Prop := -1100585369600<=x.Span.Start/\x.Span.Start<x.Span.End/\x.Span.End<=1100585369600/\okA x.Values.e0/\okA x.Values.e1/\0<x.Values.e0.Count+x.Values.e1.Count
theorem Xe2 {x:X4} (h:okE x):X8t x=some true:=by
 obtain⟨h1,h2,h3,h4,h5,h6⟩:=h;have c1:=Xay h4;have c2:=Xay h5;have e1:¬ x.Span.Start < -1100585369600:=by omega
 have e2:¬ x.Span.End<=x.Span.Start:=by omega
 have e3:¬ x.Span.End>1100585369600:=by omega
 simp only[X8t,X42 h4,X42 h5,Yo];rw[X0q om om]
 grind
theorem X74 (l:List X4) (hs:l.Pairwise ltE) (ho:∀ x∈l,okE x) (hn:l.length<=1000000):∀ (xs:List X4) (k:Nat),l.drop k=xs->X3l l xs k=some .x0:=by
 intro xs
 induction xs with
 |nil=>intro k _;rfl
 |cons x xs ih =>
  intro k hk;have hlt:k<l.length:=by
   grind [Nat.lt_or_ge,List.drop_eq_nil_of_le]
  have hx:l[k]?=some x:=by have:=congrArg List.head? hk;simpa[List.head?_drop] using this
  have hmem:x∈l:=Yg hx;have hnext:l.drop (k+1)=xs:=by rw[<-List.tail_drop,hk];rfl
  rw[X3l];simp only[Xe2 (ho x hmem),Yo,Bool.not_true,cond_false,cond_true];by_cases h0:k=0
  ·grind
  ·have hpos:decide ((k:Int)>0)=true:=by simp;omega
   rw[hpos,cond_true];have hw:IntKind.i64.wrap ((k:Int) - 1)=((k - 1:Nat):Int):=by grind [X0q]
   rw[hw,X40];have hp:l[k - 1]?=some l[k - 1]:=Ye om;rw[hp];have hlt2:ltE l[k - 1] x:=by
    grind [List.pairwise_iff_getElem,Ye,Option.some.inj]
   simp_all [ordE,X080,Yo,Xab,ge_iff_le,decide_false,cond_false]
theorem Xac {l:List X4} (hs:l.Pairwise ltE) (ho:∀ x∈l,okE x) (hn:l.length<=4000):X8u l=some 0:=by
 unfold X8u;have:¬ ((l.length:Int)>4000):=by omega
 simp only[this,decide_false,cond_false];rw[X22 om,X74 l hs ho om l 0 rfl];rfl
theorem X0ch {i j:Nat} (h:i+j<=1000000):IntKind.i64.wrap (Int.fdiv (IntKind.u64.wrap (IntKind.i64.wrap ((i:Int)+(j:Int)))) (2 ^ (min (Int.toNat 1) IntKind.u64.bits)))=(((i+j) / 2:Nat):Int):=by
 have h1:IntKind.i64.wrap ((i:Int)+(j:Int))=(i:Int)+j:=X0q om om;rw[h1];have h2:IntKind.u64.wrap ((i:Int)+j)=(i:Int)+j:=Go.IntWalk.u64_in _ ⟨by omega,by omega⟩;rw[h2];have h3:(min (Int.toNat 1) IntKind.u64.bits)=1:=by decide
 rw[h3];have h4:Int.fdiv ((i:Int)+j) (2 ^ 1)=(((i+j) / 2:Nat):Int):=by
  grind
 rw[h4,X0q om om]
theorem X0ig (l:List X4) (x:X4) (c:Nat) (n:Int) (hn:l.length<=400000) (hc:∀ (k:Nat) y,l[k]?=some y->(ltE y x↔k<c)):∀ (f i j:Nat),i<=c->c<=j->j<=l.length->j - i<f ->
  Xo l x n f i j=some (.x0 c):=by
 intro f
 induction f with
 |zero=>grind
 |succ f ih =>
  intro i j h1 h2 h3 h4;rw[Xo];by_cases hij:i<j
  ·have hd:decide ((i:Int)<(j:Int))=true:=by grind
   rw[hd,cond_true,X0ch om,X40];have hm:(i+j) / 2<l.length:=by omega
   rw[Ye hm];simp only[Yo,Xab];have hcc:=hc ((i+j) / 2) _ (Ye hm);by_cases hl:ltE l[(i+j) / 2] x
   ·have:ordE l[(i+j) / 2] x<0:=Xqr.2 hl;simp only[this,decide_true,cond_true]
    grind [X0q]
   ·have:¬ ordE l[(i+j) / 2] x<0:=λh=>hl (Xqr.1 h);simp only[this,decide_false,cond_false];have:¬ (i+j) / 2<c:=λh=>hl (hcc.2 h)
    grind
  grind
def cnt (l:List X4) (x:X4):Nat:=(l.takeWhile λy=>decide (ltE y x)).length
theorem X00y (l:List X4) (x:X4):cnt l x<=l.length:=by grind [cnt,List.takeWhile_sublist]
theorem X0a0 {l:List X4} {x:X4} (hs:l.Pairwise ltE):∀ (k:Nat) y,l[k]?=some y->(ltE y x↔k<cnt l x):=by
 induction l with
 |nil=>grind
 |cons z l ih =>
  intro k y h;rw[List.pairwise_cons] at hs;unfold cnt;by_cases hz:ltE z x
  ·grind [List.takeWhile_cons_of_pos,cnt]
  ·rw[List.takeWhile_cons_of_neg (by grind)];simp only[List.length_nil,Nat.not_lt_zero,iff_false]
   cases k with
   |zero=>grind
   |succ k =>
    simp at h;exact λhy=>hz (Xjo (hs.1 y (Yg h)) hy)
theorem X0dw {l:List X4} {x:X4} (hs:l.Pairwise ltE) (hn:l.length<=50000) :
  Xg l x=some ((cnt l x:Int),match l[cnt l x]? with|some y=>decide (X4t y x)|none=>false):=by
 unfold Xg;have h0:=X0ig l x (cnt l x) (l.length:Int) om (X0a0 hs) FU 0 l.length om (X00y l x) (Nat.le_refl _) (by unfold FU;omega);rw[show((0:Nat):Int)=0 from rfl] at h0;rw[h0];simp only[Yo];by_cases hlt:cnt l x<l.length
 ·have hd:decide ((cnt l x:Int)<(l.length:Int))=true:=by grind
  rw[hd,X40,Ye hlt];simp only[cond_true,Yo,Xab];congr 2
  rw[Bool.eq_iff_iff];simp[X081]
 grind
end Go.D


namespace Go.D
def Xm0 (y x:X4):X4:=⟨y.Key,y.Span,⟨X4b y.Values.e0 x.Values.e0,X4b y.Values.e1 x.Values.e1⟩⟩
def Xmq:List X4->X4->List X4
 |[],x=>[x]
 |y::l,x=>if ltE y x then y::Xmq l x else if X4t y x then Xm0 y x::l else x::y::l
theorem Xye {l:List X4} {x:X4} (hs:l.Pairwise ltE) :
  Xmq l x=(match l[cnt l x]? with
   |none=>l++[x]
   |some y=>if X4t y x then l.set (cnt l x) (Xm0 y x) else l.take (cnt l x)++x::l.drop (cnt l x)):=by
 induction l with
 |nil=>rfl
 |cons z l ih =>
  rw[List.pairwise_cons] at hs;unfold Xmq;by_cases hz:ltE z x
  ·have hc:cnt (z::l) x=cnt l x+1:=by unfold cnt;simp_all
   grind
  ·have hc:cnt (z::l) x=0:=by unfold cnt;simp_all
   grind
def putF (l:List X4) (x:X4):Option (List X4×Int) :=
 (Xg l x).bind λv1393=>bif (!v1393.2) then (bif (v1393.1==(List.length l:Int)) then (((X6x l v1393.1 (List.length l:Int)).bind λm1405=>bif (List.isEmpty m1405) then ((X0x (List.length (l++[x])) 88).bind λu1408=>some ()) else ((X0x (List.length (l++[x])) 88).bind λu1410=>some ()):Option (Unit)).bind λ_=>some ((l++[x]),0)) else ((Xvt l v1393.1 x 88).bind λm1413=>some (m1413,0))) else ((X18 l v1393.1).bind λe1415=>((X1y e1415.Values.e0 x.Values.e0).bind λv1430=>bif (v1430.2 != (0:Int)) then (some (l,v1430.2)) else ((X1y (((X4.mk e1415.Key e1415.Span (V2.mk v1430.1 e1415.Values.e1)).Values).e1) x.Values.e1).bind λv1435=>bif (v1435.2 != (0:Int)) then (some ((List.set l (Int.toNat v1393.1) (X4.mk e1415.Key e1415.Span (V2.mk v1430.1 e1415.Values.e1))),v1435.2)) else (some ((List.set (List.set l (Int.toNat v1393.1) (X4.mk e1415.Key e1415.Span (V2.mk v1430.1 e1415.Values.e1))) (Int.toNat v1393.1) (X4.mk ((X4.mk e1415.Key e1415.Span (V2.mk v1430.1 e1415.Values.e1)).Key) ((X4.mk e1415.Key e1415.Span (V2.mk v1430.1 e1415.Values.e1)).Span) (V2.mk (((X4.mk e1415.Key e1415.Span (V2.mk v1430.1 e1415.Values.e1)).Values).e0) v1435.1))),0))):Option ((List X4)×Int)).bind λw1427=>some (w1427.1,w1427.2))
theorem X07x {l:List X4} {x:X4} (hs:l.Pairwise ltE) (hn:l.length<=10000) (hx:okA x.Values.e0/\okA x.Values.e1)
  (ho:∀ y∈l,X4t y x->okA y.Values.e0/\okA y.Values.e1/\y.Values.e0.Count+x.Values.e0.Count<=1073741824/\y.Values.e1.Count+x.Values.e1.Count<=1073741824):putF l x=some (Xmq l x,0):=by
 unfold putF;rw[X0dw hs om,Xye hs];have hle:=X00y l x
 cases h:l[cnt l x]? with
 |none =>
  have hc:cnt l x=l.length:=by
   grind
  have hsl:X6x l (l.length:Int) (l.length:Int)=some []:=by simp[X6x]
  simp only[Yo,Bool.not_false,cond_true,hc,beq_self_eq_true,hsl];rw[X2u (by simp;omega)];rfl
 |some y =>
  have hlt:cnt l x<l.length:=(Ys.1 h).1;simp only[Yo];by_cases hk:X4t y x
  ·obtain⟨a1,a2,a3,a4⟩:=ho y (Yg h) hk;simp only[hk,decide_true,Bool.not_true,cond_false,X40,h,Yo,X3u a1 hx.1 a3,X3u a2 hx.2 a4,bne_self_eq_false,if_true,Int.toNat_natCast,List.set_set];rfl
  ·have hne:((cnt l x:Int)==(l.length:Int))=false:=by simp;omega
   have hi:Xvt l (cnt l x:Int) x 88=some (l.take (cnt l x)++x::l.drop (cnt l x)):=by
    unfold Xvt;grind
   grind
theorem Xmo {l:List X4} {x:X4} (hs:l.Pairwise ltE) (e:X4) :
  e∈Xmq l x↔(e∈l/\¬ X4t e x)\/(∃ y∈l,X4t y x/\e=Xm0 y x)\/((∀ y∈l,¬ X4t y x)/\e=x):=by
 induction l with
 |nil=>simp[Xmq]
 |cons z l ih =>
  rw[List.pairwise_cons] at hs;unfold Xmq;by_cases hz:ltE z x
  ·have hnz:¬ X4t z x:=λh=>X9y h hz
   grind
  ·rw[if_neg hz];have hno:∀ y∈l,¬ (X4t z x/\X4t y x):=λy hy ⟨h1,h2⟩=>by
    have:=hs.1 y hy;exact X9y (a:=y) (b:=y) ⟨rfl,rfl⟩ (by rw[Xd8 (c:=y) h1] at this;grind [Xd8])
   by_cases hk:X4t z x
   ·grind
   ·rw[if_neg hk]
    grind [Xjp,absurd,X4t,Xjo,X9y,Xd8]
theorem Xr4 (y x:X4):X4t (Xm0 y x) y:=⟨rfl,rfl⟩
theorem Xjd {l:List X4} {x:X4} (hs:l.Pairwise ltE):(Xmq l x).Pairwise ltE:=by
 induction l with
 |nil=>exact List.pairwise_singleton _ _
 |cons z l ih =>
  have hs0:=hs;rw[List.pairwise_cons] at hs;unfold Xmq;by_cases hz:ltE z x
  ·rw[if_pos hz,List.pairwise_cons]
   grind [Xmo,sameK_ltE,Xr4]
  ·rw[if_neg hz];by_cases hk:X4t z x
   ·rw[if_pos hk,List.pairwise_cons];assumption
   ·rw[if_neg hk,List.pairwise_cons]
    grind [Xjp,absurd,Xjo]
theorem Xmp (l:List X4) (x:X4):(Xmq l x).length<=l.length+1:=by
 induction l with
 |nil=>simp[Xmq]
 |cons z l ih =>
  grind [Xmq]
end Go.D


namespace Go.D
def Xds:X0y:=⟨0,0,0,0⟩
def ofA (v:Int):X0y:=⟨1,v,v,v⟩
theorem Xow (v:Int):okA (ofA v):=.inr (.inl ⟨rfl,rfl,rfl⟩)
theorem Xmc:okA Xds:=.inl ⟨rfl,rfl⟩
theorem X01i {a b:X0y} (h1:a.Count=b.Count) (h2:a.Sum=b.Sum) (h3:a.Min=b.Min) (h4:a.Max=b.Max):a=b:=by cases a;simp_all
theorem Xmy (a:X0y):X4b Xds a=a:=by rfl
theorem Xif {a:X0y} (h:okA a):X4b a Xds=a:=by
 unfold X4b;by_cases h0:a.Count=0
 ·rw[if_pos h0];rcases h with ⟨_,h⟩|⟨h,_⟩|⟨h,_⟩
  ·exact h.symm
  ·omega
  ·omega
 ·rw[if_neg h0,if_pos (show Xds.Count=0 from rfl)]
theorem Xvo {a b:X0y} (ha:okA a) (hb:okA b):X4b a b=X4b b a:=by
 by_cases h1:a.Count=0
 ·have:a=Xds:=by
   rcases ha with ⟨_,h⟩|⟨h,_⟩|⟨h,_⟩
   ·exact h
   ·omega
   ·omega
  rw[this,Xmy,Xif hb]
 ·by_cases h2:b.Count=0
  ·have:b=Xds:=by
    rcases hb with ⟨_,h⟩|⟨h,_⟩|⟨h,_⟩
    ·exact h
    ·omega
    ·omega
   rw[this,Xmy,Xif ha]
  ·unfold X4b
   grind
theorem Xeu {a b c:X0y} (ha:0<=a.Count) (hb:0<=b.Count) (hc:0<=c.Count):X4b (X4b a b) c=X4b a (X4b b c):=by
 by_cases h1:a.Count=0
 ·simp_all [X4b,if_pos]
 ·by_cases h2:b.Count=0
  ·simp_all [X4b,if_neg,if_pos]
  ·by_cases h3:c.Count=0
   ·have e:∀ x:X0y,x.Count≠0->X4b x c=x:=λx hx=>by unfold X4b;grind
    have hab:(X4b a b).Count≠0:=by unfold X4b;grind
    grind
   ·have e:∀ x y:X0y,x.Count≠0->y.Count≠0->X4b x y=⟨x.Count+y.Count,IntKind.i64.wrap (x.Sum+y.Sum),if y.Min<x.Min then y.Min else x.Min,if y.Max>x.Max then y.Max else x.Max⟩:=λx y hx hy=>by unfold X4b;grind
    rw[e a b h1 h2,e b c h2 h3,e _ c (by grind) h3,e a _ h1 (by grind)]
    grind [X01i,X0bb,X0ba,Int.add_assoc]
def Xdq (l:List Int):X0y:=l.foldl (λa v=>X4b a (ofA v)) Xds
theorem Xd5 (l:List Int) (v:Int):Xdq (l++[v])=X4b (Xdq l) (ofA v):=by unfold Xdq;grind
theorem Xnw:Xdq []=Xds:=rfl
theorem Xdp (v:Int):Xdq [v]=ofA v:=Xmy _
theorem X3e:∀ (l:List Int),(Xdq l).Count=l.length:=by
 have key:∀ (l:List Int) (a:X0y),0<=a.Count->(l.foldl (λa v=>X4b a (ofA v)) a).Count=a.Count+l.length:=by
  intro l
  induction l with
  |nil=>grind
  |cons v l ih =>
   intro a ha;have h1:(X4b a (ofA v)).Count=a.Count+1:=by
    unfold X4b;by_cases h:a.Count=0
    ·rw[if_pos h,h];rfl
    ·rw[if_neg h,if_neg (by show ¬ (1:Int)=0;omega)];rfl
   grind
 simp_all [Xdq,Xds,Int.le_refl]
theorem Xkl:∀ {l:List Int},l.length<=1073741824->okA (Xdq l):=by
 have key:∀ (n:Nat) (l:List Int),l.length=n->n<=1073741824->okA (Xdq l):=by
  intro n
  induction n with
  |zero=>intro l hl _;rw[List.eq_nil_of_length_eq_zero hl];exact Xmc
  |succ n ih =>
   intro l hl hn;have hne:l≠[]:=λh=>by grind
   have hd:l.dropLast.length=n:=by grind
   rw[<-List.dropLast_concat_getLast hne,Xd5];refine X03t (ih _ hd om) (Xow _) ?_;rw[X3e,hd];show(n:Int)+1<=_;omega
 grind
theorem X5w:∀ (b a:List Int),Xdq (a++b)=X4b (Xdq a) (Xdq b):=by
 have key:∀ (n:Nat) (b a:List Int),b.length=n->Xdq (a++b)=X4b (Xdq a) (Xdq b):=by
  intro n
  induction n with
  |zero =>
   intro b a hb;rw[List.eq_nil_of_length_eq_zero hb,List.append_nil,Xnw];by_cases h0:(Xdq a).Count=0
   ·have:a=[]:=List.eq_nil_of_length_eq_zero (by rw[X3e] at h0;omega);rw[this];rfl
   ·unfold X4b;rw[if_neg h0,if_pos (show Xds.Count=0 from rfl)]
  |succ n ih =>
   intro b a hb;have hne:b≠[]:=λh=>by grind
   have hd:b.dropLast.length=n:=by grind
   rw[<-List.dropLast_concat_getLast hne,<-List.append_assoc,Xd5,Xd5,ih _ _ hd];exact Xeu (by rw[X3e];omega) (by rw[X3e];omega) (by show(0:Int)<=1;decide)
 grind
theorem Xpy {a b:List Int} (h:a.Perm b):a.length<=1073741824->Xdq a=Xdq b:=by
 induction h with
 |nil=>intro _;rfl
 |@cons x l1 l2 h ih =>
  intro hl;have:=ih (by grind);rw[show x::l1=[x]++l1 from rfl,show x::l2=[x]++l2 from rfl,X5w,X5w,this]
 |swap x y l =>
  intro hl;rw[show y::x::l=[y]++([x]++l) from rfl,show x::y::l=[x]++([y]++l) from rfl,X5w,X5w,X5w,X5w,Xdp,Xdp];rw[<-Xeu (by show(0:Int)<=1;decide) (by show(0:Int)<=1;decide) (by rw[X3e];omega),Xvo (Xow y) (Xow x),Xeu (by show(0:Int)<=1;decide) (by show(0:Int)<=1;decide) (by rw[X3e];omega)]
 |trans h1 _ ih1 ih2=>intro hl;rw[ih1 hl,ih2 (by rw[<-h1.length_eq];exact hl)]
abbrev Pu:=X6×Int
def inS (s:X0p) (t:Int):Prop:=s.Start<=t/\t<s.End
instance (s:X0p) (t:Int):Decidable (inS s t):=by unfold inS;infer_instance
def vals (L:List Pu) (k:Int) (s:X0p) (side:Int):List Int:=(L.filter λp=>decide (p.1.Key=k/\inS s p.1.Time/\p.2=side)).map λp=>p.1.Value
def X8s (L:List Pu) (k t:Int):Prop:=∃ p∈L,p.1.Key=k/\p.1.Time=t
def Xpd (size every t:Int) (s:X0p):Prop:=s.Start % every=0/\s.End=s.Start+size/\inS s t
def cov (size:Int) (T:Int->Prop) (x:Int):Prop:=∃ t,T t/\2*t<x/\x<2*(t+size)
def Xj5 (size:Int) (T:Int->Prop) (s:X0p):Prop:=s.Start<s.End/\(∀ x,2*s.Start<x->x<2*s.End->cov size T x)/\¬ cov size T (2*s.Start)/\¬ cov size T (2*s.End)
def Xed (w:X0r):Int:=if w.Kind=1 then w.Size else w.Every
def Xf1 (w:X0r) (T:Int->Prop) (s:X0p):Prop:=if w.Kind=3 then Xj5 w.Size T s else ∃ t,T t/\Xpd w.Size (Xed w) t s
def Xg0 (L:List Pu) (k:Int) (s:X0p):V2 X0y:=⟨Xdq (vals L k s 0),Xdq (vals L k s 1)⟩
def Xwn (w:X0r) (L:List Pu) (e:X4):Prop:=Xf1 w (X8s L e.Key) e.Span/\e.Values=Xg0 L e.Key e.Span
structure Xb7 (w:X0r) (L:List Pu) (es:List X4):Prop where
 sorted:es.Pairwise ltE
 mem:∀ e,e∈es↔Xwn w L e
 cover:w.Kind=3->∀ k t,X8s L k t->∃ e∈es,e.Key=k/\e.Span.Start<=t/\t+w.Size<=e.Span.End
theorem Xmf (L:List Pu) (k:Int) (s:X0p) (side:Int):(vals L k s side).length<=L.length:=by grind [vals,List.length_map,List.length_filter_le]
end Go.D


namespace Go.D
theorem Xcd {t size:Int} (ht:okT t) (h1:1<=size) (h2:size<=1073741824):Xar t size=some (⟨t / size*size,t / size*size+size⟩,0):=by
 obtain⟨t1,t2⟩:=ht;have e1:decide (size<1)=false:=by simp;omega
 have e2:decide (size>1073741824)=false:=by simp;omega
 have e3:decide (t < -1099511627776)=false:=by simp;omega
 have e4:decide (t>1099511627776)=false:=by simp;omega
 have hm:=Int.mul_ediv_add_emod t size;have hm1:=Int.emod_nonneg t (show size≠0 by omega);have hm2:=Int.emod_lt_of_pos t (show 0<size by omega);have q1 : -1099511627776<=t / size:=by
  rcases ltge (t / size) (-1099511627776) with h|h
  ·exfalso;have:size*(t / size)<=size*(-1099511627777):=Int.mul_le_mul_of_nonneg_left om om;omega
  ·exact h
 have q2:t / size<=1099511627776:=by
  rcases ltge 1099511627776 (t / size) with h|h
  ·exfalso;have:size*1099511627777<=size*(t / size):=Int.mul_le_mul_of_nonneg_left om om;omega
  ·exact h
 have hn:X6f t size=some (t / size,0):=by
  simp only[X6f,X9r,e1,e2,e3,e4,cond_false,Yo,bne_self_eq_false];have hd:X00n size=some ():=by unfold X00n;grind
  rw[hd,Yo];have htm:=Int.tmod_add_mul_tdiv t size;by_cases hneg:Int.tmod t size<0
  ·have e5:decide (Int.tmod t size<0)=true:=by simp[hneg]
   rw[e5,cond_true,Yo];have hq:Int.tdiv t size - 1=t / size:=by
    grind
   grind [Int.tdiv,X0q]
  ·have e5:decide (Int.tmod t size<0)=false:=by simp;omega
   rw[e5,cond_false,Yo];have hq:Int.tdiv t size=t / size:=by
    grind
   rw[hq,X0q om om]
 simp only[Xar,hn,Yo,bne_self_eq_false,cond_false]
 grind [Int.mul_comm,X0q,Int.add_mul]
def Xbw (t size every:Int):Nat->Int->List X0p
 |0,_=>[]
 |K+1,s=>if s+size>t then ⟨s,s+size⟩::Xbw t size every K (s - every) else []
theorem X02v {t size every:Int} (ht:okT t) (h1:1<=every) (h2:every<=size) (h3:size<=1073741824):∀ (K f:Nat) (acc:List X0p) (s:Int),s<=t -> -1200000000000+K*1073741824<=s->s+size - t<=K*every->K<f->acc.length+K<=1000000 ->
  X4y t size every f acc s=some (.x0 (acc++Xbw t size every K s)):=by
 obtain⟨t1,t2⟩:=ht;intro K
 induction K with
 |zero =>
  intro f acc s hs hl hK hf ha
  cases f with
  |zero=>omega
  |succ f =>
   rw[X4y];simp only[Int.natCast_zero,Int.zero_mul] at hK hl;have:decide (IntKind.i64.wrap (s+size)>t)=false:=by grind [X0q]
   rw[this,cond_false];simp[Xbw]
 |succ K ih =>
  intro f acc s hs hl hK hf ha
  cases f with
  |zero=>omega
  |succ f =>
   rw[X4y];have e0:((K+1:Nat):Int)*every=K*every+every:=by grind
   have e00:((K+1:Nat):Int)*1073741824=K*1073741824+1073741824:=by omega
   have e1:IntKind.i64.wrap (s+size)=s+size:=X0q om om;rw[e1];by_cases hgt:s+size>t
   ·have:decide (s+size>t)=true:=by grind
    rw[this,cond_true,X2u (by simp;omega),Yo];have e2:IntKind.i64.wrap (s - every)=s - every:=X0q om om;rw[e2,ih f _ _ om om om om (by simp;omega)];rw[Xbw,if_pos hgt];simp
   ·have:decide (s+size>t)=false:=by grind
    rw[this,cond_false,Xbw,if_neg hgt];simp
theorem Xqh (back:List X0p) (hb:back.length<=1000):∀ (k f:Nat) (acc:List X0p),k<=back.length->k<f->acc.length+k<=1000000 ->
  X36 back f acc ((k:Int) - 1)=some (.x0 (acc++(back.take k).reverse) back):=by
 intro k
 induction k with
 |zero =>
  intro f acc _ hf _
  cases f with
  |zero=>omega
  |succ f =>
   rw[X36];simp
 |succ k ih =>
  intro f acc hk hf ha
  cases f with
  |zero=>omega
  |succ f =>
   rw[X36];have e1:(((k+1:Nat):Int) - 1)=(k:Int):=by omega
   rw[e1];have e2:decide ((k:Int) >= 0)=true:=by simp
   rw[e2,cond_true,X40,Ye om,Yo,X2u (by simp;omega),Yo];rw[X0q om om,ih f _ om om (by simp;omega)];rw[List.take_add_one,Ye om]
   grind
theorem Xpw (t size every:Int):∀ (K:Nat) (s:Int),(Xbw t size every K s).length<=K:=by
 intro K
 induction K with
 |zero=>intro s;simp[Xbw]
 |succ K ih=>grind [Xbw]
theorem X054 (t size every:Int) (h:1<=every):∀ (K:Nat) (s:Int),∀ x∈Xbw t size every K s,x.Start<=s:=by
 intro K
 induction K with
 |zero=>intro s x hx;trivial
 |succ K ih =>
  intro s x hx;rw[Xbw] at hx
  grind
theorem Xst (t size every:Int) (h:1<=every):∀ (K:Nat) (s:Int),(Xbw t size every K s).Nodup:=by
 intro K
 induction K with
 |zero=>intro s;simp[Xbw]
 |succ K ih =>
  intro s;rw[Xbw];split
  ·rw[List.nodup_cons];exact⟨λhx=>by have:=X054 t size every h K _ _ hx;grind,ih _⟩
  grind
theorem X01c (t size every:Int):∀ (K:Nat) (s:Int),s+size - t<=K*every->0<=every->∀ x:X0p,x∈Xbw t size every K s↔∃ j:Nat,x.Start=s - j*every/\x.End=x.Start+size/\t<x.End:=by
 intro K
 induction K with
 |zero =>
  intro s hK he x;simp only[Int.natCast_zero,Int.zero_mul] at hK;simp only[Xbw,List.not_mem_nil,false_iff,not_exists,not_and];intro j h1 h2;have:(0:Int)<=j*every:=Int.mul_nonneg om he;omega
 |succ K ih =>
  intro s hK he x;have e0:((K+1:Nat):Int)*every=K*every+every:=by grind
  rw[Xbw];by_cases hgt:s+size>t
  ·rw[if_pos hgt,List.mem_cons,ih (s - every) om he x];constructor
   ·rintro(rfl|⟨j,h1,h2,h3⟩)
    ·exact⟨0,by simp,rfl,hgt⟩
    ·refine⟨j+1,?_,h2,h3⟩
     grind
   ·rintro⟨j,h1,h2,h3⟩
    cases j with
    |zero=>left;apply Xi7;simp at h1;exact h1;simp at h1;show x.End=s+size;omega
    |succ j =>
     grind
  ·rw[if_neg hgt];simp only[List.not_mem_nil,false_iff,not_exists,not_and];intro j h1 h2;have:(0:Int)<=j*every:=Int.mul_nonneg om he;omega
theorem Xpc {t size every:Int} (h1:1<=every) (x:X0p):Xpd size every t x↔∃ j:Nat,x.Start=t / every*every - j*every/\x.End=x.Start+size/\t<x.End:=by
 have hm:=Int.mul_ediv_add_emod t every;have hm1:=Int.emod_nonneg t (show every≠0 by omega);have hm2:=Int.emod_lt_of_pos t (show 0<every by omega);have hc:t / every*every=every*(t / every):=Int.mul_comm _ _;unfold Xpd inS;constructor
 ·rintro⟨a1,a2,a3,a4⟩;have hx:=Int.mul_ediv_add_emod x.Start every;rw[a1,Int.add_zero] at hx;have hle:x.Start / every<=t / every:=by
   rcases ltge (t / every) (x.Start / every) with h|h
   ·exfalso;have:every*(t / every+1)<=every*(x.Start / every):=Int.mul_le_mul_of_nonneg_left om om
    grind
   ·exact h
  refine⟨(t / every - x.Start / every).toNat,?_,a2,a4⟩
  grind
 ·rintro⟨j,a1,a2,a3⟩;have hj:(0:Int)<=j*every:=Int.mul_nonneg om om;refine⟨?_,a2,by omega,a3⟩
  simp_all
theorem Xj1 {w:X0r} {t:Int} (hw:okW w) (hk:w.Kind≠3) (ht:okT t):∃ W,Xf5 w t=some (W,0)/\W.length<=16/\W.Nodup/\∀ s,s∈W↔Xpd w.Size (Xed w) t s:=by
 have hcw:=X41 hw;obtain⟨w1,w2,w3⟩:=hw;have ht':=ht;obtain⟨t1,t2⟩:=ht;unfold Xf5;rw[hcw,Yo];rcases w3 with ⟨k,a1,a2,a3⟩|⟨k|k,a⟩
 ·have e1:(w.Kind==1)=false:=by simp[k]
  have e2:(w.Kind==2)=true:=by simp[k]
  have e3:Xed w=w.Every:=by unfold Xed;grind
  simp only[bne_self_eq_false,cond_false,e1,e2,cond_true];have hm:=Int.mul_ediv_add_emod t w.Every;have hm1:=Int.emod_nonneg t (show w.Every≠0 by omega);have hm2:=Int.emod_lt_of_pos t (show 0<w.Every by omega);have hc:t / w.Every*w.Every=w.Every*(t / w.Every):=Int.mul_comm _ _;have hall:Xcf t w.Size w.Every=some ((Xbw t w.Size w.Every 16 (t / w.Every*w.Every)).reverse,0):=by
   unfold Xcf;have b1:decide ((if w.Every<w.Size then w.Every else w.Size)<1)=false:=by grind
   have b2:decide (w.Size>1073741824)=false:=by simp;omega
   have b3:decide (w.Every>w.Size)=false:=by simp;omega
   have b4:decide (w.Size>IntKind.i64.wrap (16*w.Every))=false:=by grind [X0q]
   simp only[b1,b2,b3,b4,cond_false,Xcd ht' a1 om,Yo,bne_self_eq_false];have hL:=X02v ht' a1 a2 w2 16 FU [] (t / w.Every*w.Every) om om om (by trivial) (by simp);rw[hL,Yo];simp only[List.nil_append];have hlen:=Xpw t w.Size w.Every 16 (t / w.Every*w.Every);rw[X0q om om];have hR:=Xqh (Xbw t w.Size w.Every 16 (t / w.Every*w.Every)) om (Xbw t w.Size w.Every 16 (t / w.Every*w.Every)).length FU [] (Nat.le_refl _) (by unfold FU;omega) (by simp;omega)
   grind
  grind [List.length_reverse,Xpw,Xyp,Xst,Xpc,X01c]
 ·have e1:(w.Kind==1)=true:=by simp[k]
  have e3:Xed w=w.Size:=by unfold Xed;rw[if_pos k]
  simp only[bne_self_eq_false,cond_false,e1,cond_true,Xcd ht' w1 w2,Yo];refine⟨_,rfl,by simp,by simp,λs=>?_⟩;rw[List.mem_singleton,e3,Xpc w1];have hm:=Int.mul_ediv_add_emod t w.Size;have hm1:=Int.emod_nonneg t (show w.Size≠0 by omega);have hm2:=Int.emod_lt_of_pos t (show 0<w.Size by omega);have hc:t / w.Size*w.Size=w.Size*(t / w.Size):=Int.mul_comm _ _;constructor
  ·rintro rfl;exact⟨0,by simp,rfl,by grind⟩
  ·rintro⟨j,h1,h2,h3⟩;have hj:(j:Int)=0:=by
    rcases ltge 0 (j:Int) with h|h
    ·exfalso;have:(1:Int)*w.Size<=j*w.Size:=Int.mul_le_mul_of_nonneg_right om om;omega
    ·omega
   rw[hj,Int.zero_mul] at h1;exact Xi7 (by grind) (by grind)
 grind
end Go.D


namespace Go.D
def X6t (p:Pu) (s:X0p):X4:=⟨p.1.Key,s,⟨if p.2=0 then ofA p.1.Value else Xds,if p.2=1 then ofA p.1.Value else Xds⟩⟩
theorem X6e (L:List Pu) (p:Pu) (k:Int) (s:X0p) (side:Int):vals (L++[p]) k s side=vals L k s side++(if p.1.Key=k/\inS s p.1.Time/\p.2=side then [p.1.Value] else []):=by
 unfold vals
 grind
theorem Xas (L:List Pu) (p:Pu) (k t:Int):X8s (L++[p]) k t↔X8s L k t\/(p.1.Key=k/\p.1.Time=t):=by
 simp_all [X8s,List.mem_append,List.mem_singleton,List.mem_append_left]
structure Xxa (w:X0r) (L:List Pu):Prop where
 time:∀ p∈L,okT p.1.Time
 side:∀ p∈L,p.2=0\/p.2=1
 len:L.length<=240
theorem Xxa.init {w:X0r} {L:List Pu} {p:Pu} (h:Xxa w (L++[p])):Xxa w L:=⟨λq hq=>h.time q (List.mem_append_left _ hq),λq hq=>h.side q (List.mem_append_left _ hq),by have:=h.len;grind⟩
theorem Xo9 {L:List Pu} {k:Int} {s:X0p} (h:∀ t,X8s L k t->¬ inS s t) (side:Int):vals L k s side=[]:=by
 unfold vals;rw[List.map_eq_nil_iff,List.filter_eq_nil_iff];intro p hp hc;simp only[decide_eq_true_eq] at hc;exact h p.1.Time ⟨p,hp,hc.1,rfl⟩ hc.2.1
theorem Xxi {L:List Pu} {k t:Int} {s:X0p} (hs:∀ p∈L,p.2=0\/p.2=1) (h:X8s L k t) (hi:inS s t):0<(vals L k s 0).length+(vals L k s 1).length:=by
 obtain⟨p,hp,hk,ht⟩:=h;rcases hs p hp with h0|h0
 ·have:p.1.Value∈vals L k s 0:=List.mem_map.2 ⟨p,List.mem_filter.2 ⟨hp,by grind⟩,rfl⟩
  grind
 ·have:p.1.Value∈vals L k s 1:=List.mem_map.2 ⟨p,List.mem_filter.2 ⟨hp,by grind⟩,rfl⟩
  grind
structure Mid (w:X0r) (L:List Pu) (p:Pu) (done:X0p->Prop) (es:List X4):Prop where
 sorted:es.Pairwise ltE
 mem:∀ e,e∈es↔(e.Key=p.1.Key/\done e.Span/\e.Values=Xg0 (L++[p]) e.Key e.Span)\/(¬ (e.Key=p.1.Key/\done e.Span)/\Xwn w L e)
theorem X00h {L:List Pu} {p:Pu} {s:X0p} (h:∀ t,X8s L p.1.Key t->¬ inS s t) (hi:inS s p.1.Time):Xg0 (L++[p]) p.1.Key s=(X6t p s).Values:=by
 unfold Xg0 X6t;rw[X6e,X6e,Xo9 h,Xo9 h];simp only[List.nil_append];congr 1
 ·by_cases h0:p.2=0
  ·rw[if_pos ⟨trivial,hi,h0⟩,if_pos h0,Xdp]
  ·rw[if_neg (λhc=>h0 hc.2.2),if_neg h0,Xnw]
 ·by_cases h0:p.2=1
  ·rw[if_pos ⟨trivial,hi,h0⟩,if_pos h0,Xdp]
  ·rw[if_neg (λhc=>h0 hc.2.2),if_neg h0,Xnw]
theorem Xwm {L:List Pu} {p:Pu} {s:X0p} (hl:L.length<=1000000) (hi:inS s p.1.Time) :
  Xg0 (L++[p]) p.1.Key s=⟨X4b (Xg0 L p.1.Key s).e0 (X6t p s).Values.e0,X4b (Xg0 L p.1.Key s).e1 (X6t p s).Values.e1⟩:=by
 have ok:∀ side,okA (Xdq (vals L p.1.Key s side)):=λside=>Xkl (Nat.le_trans (Xmf ..) om);unfold Xg0 X6t;rw[X6e,X6e];dsimp only;congr 1
 ·by_cases h0:p.2=0
  ·rw[if_pos ⟨rfl,hi,h0⟩,if_pos h0,Xd5]
  ·rw[if_neg (λhc=>h0 hc.2.2),if_neg h0,List.append_nil,Xif (ok 0)]
 ·by_cases h0:p.2=1
  ·rw[if_pos ⟨rfl,hi,h0⟩,if_pos h0,Xd5]
  ·rw[if_neg (λhc=>h0 hc.2.2),if_neg h0,List.append_nil,Xif (ok 1)]
theorem Mid.step {w:X0r} {L:List Pu} {p:Pu} {done:X0p->Prop} {es:List X4} {s:X0p} (hk:w.Kind≠3) (hl:L.length<=1000000) (m:Mid w L p done es) (hs:¬ done s) (hi:Xpd w.Size (Xed w) p.1.Time s) :
  Mid w L p (λx=>done x\/x=s) (Xmq es (X6t p s)):=by
 have hin:inS s p.1.Time:=hi.2.2;have hkey:∀ e:X4,X4t e (X6t p s)↔e.Key=p.1.Key/\e.Span=s:=λe=>Iff.rfl;refine⟨Xjd m.sorted,λe=>?_⟩;rw[Xmo m.sorted];by_cases he:X4t e (X6t p s)
 ·have he2:=(hkey e).1 he;have hno:∀ y∈es,X4t y (X6t p s)->y=⟨p.1.Key,s,Xg0 L p.1.Key s⟩/\Xf1 w (X8s L p.1.Key) s:=by
   intro y hy hsy;have hy2:=(hkey y).1 hsy;rcases(m.mem y).1 hy with ⟨_,h2,_⟩|⟨_,h2,h3⟩
   ·grind
   ·rw[hy2.1,hy2.2] at h3 h2;refine⟨?_,h2⟩;cases y;grind
  have hval:e.Values=Xg0 (L++[p]) e.Key e.Span↔((e∈es/\¬ X4t e (X6t p s))\/(∃ y∈es,X4t y (X6t p s)/\e=Xm0 y (X6t p s))\/((∀ y∈es,¬ X4t y (X6t p s))/\e=X6t p s)):=by
   rw[he2.1,he2.2];by_cases hex:∃ y∈es,X4t y (X6t p s)
   ·obtain⟨y,hy,hsy⟩:=hex;obtain⟨hyv,hyw⟩:=hno y hy hsy;have hmg:Xm0 y (X6t p s)=⟨p.1.Key,s,Xg0 (L++[p]) p.1.Key s⟩:=by rw[Xwm hl hin,hyv];rfl
    constructor
    ·intro hv;refine .inr (.inl ⟨y,hy,hsy,?_⟩);rw[hmg];cases e;grind
    grind
   ·have hex':∀ y∈es,¬ X4t y (X6t p s):=λy hy h=>hex ⟨y,hy,h⟩;have hnone:∀ t,X8s L p.1.Key t->¬ inS s t:=by
     intro t ht hst;have:(⟨p.1.Key,s,Xg0 L p.1.Key s⟩:X4)∈es:=by
      rw[m.mem];refine .inr ⟨λh=>hs h.2,?_,rfl⟩;show Xf1 w (X8s L p.1.Key) s;unfold Xf1;rw[if_neg hk];exact⟨t,ht,hi.1,hi.2.1,hst⟩
     grind
    have hvv:=X00h hnone hin;constructor
    ·intro hv;refine .inr (.inr ⟨hex',?_⟩);cases e;simp only at he2 hv;rw[he2.1,he2.2,hv,hvv];rfl
    grind
  grind
 ·have hne:¬ (e.Key=p.1.Key/\e.Span=s):=λh=>he ((hkey e).2 h);constructor
  ·rintro(⟨h1,_⟩|⟨y,hy,hsy,h⟩|⟨_,h⟩)
   ·rcases(m.mem e).1 h1 with ⟨a1,a2,a3⟩|⟨a1,a2⟩
    ·exact .inl ⟨a1,.inl a2,a3⟩
    ·exact .inr ⟨λh=>a1 ⟨h.1,h.2.resolve_right λhh=>hne ⟨h.1,hh⟩⟩,a2⟩
   ·exact absurd (by rw[h];exact⟨hsy.1,hsy.2⟩) he
   ·exact absurd (by rw[h];exact⟨rfl,rfl⟩) he
  ·rintro(⟨a1,a2,a3⟩|⟨a1,a2⟩)
   ·exact .inl ⟨(m.mem e).2 (.inl ⟨a1,a2.resolve_right λhh=>hne ⟨a1,hh⟩,a3⟩),he⟩
   ·exact .inl ⟨(m.mem e).2 (.inr ⟨λh=>a1 ⟨h.1,.inl h.2⟩,a2⟩),he⟩
theorem Mid.start {w:X0r} {L:List Pu} {p:Pu} {es:List X4} (c:Xb7 w L es):Mid w L p (λ_=>False) es:=by
 refine⟨c.sorted,λe=>?_⟩;rw[c.mem];simp
theorem Mid.end {w:X0r} {L:List Pu} {p:Pu} {es:List X4} {done:X0p->Prop} (hk:w.Kind≠3) (hd:∀ s,done s↔Xpd w.Size (Xed w) p.1.Time s) (m:Mid w L p done es):Xb7 w (L++[p]) es:=by
 refine⟨m.sorted,λe=>?_,λh3=>absurd h3 hk⟩;rw[m.mem];unfold Xwn Xf1;rw[if_neg hk,if_neg hk];by_cases he:e.Key=p.1.Key/\done e.Span
 ·grind [Xas,absurd]
 ·have hv:Xg0 (L++[p]) e.Key e.Span=Xg0 L e.Key e.Span\/∀ t,X8s L e.Key t->¬ Xpd w.Size (Xed w) t e.Span:=by
   by_cases hkk:p.1.Key=e.Key/\inS e.Span p.1.Time
   ·right;intro t _ hw;exact he ⟨hkk.1.symm,(hd _).2 ⟨hw.1,hw.2.1,hkk.2⟩⟩
   simp_all [Xg0,X6e,if_neg,List.append_nil]
  grind [absurd,Xas]
end Go.D


namespace Go.D
theorem Xnp {L:List Pu} (hl:L.length<=1000) (k:Int) (s:X0p):okA (Xg0 L k s).e0/\okA (Xg0 L k s).e1/\(Xg0 L k s).e0.Count<=1000/\(Xg0 L k s).e1.Count<=1000:=by
 have h0:=Xmf L k s 0;have h1:=Xmf L k s 1;refine⟨Xkl om,Xkl om,?_,?_⟩
 ·show(Xdq _).Count<=1000;rw[X3e];omega
 ·show(Xdq _).Count<=1000;rw[X3e];omega
theorem X09j (p:Pu) (s:X0p):okA (X6t p s).Values.e0/\okA (X6t p s).Values.e1/\(X6t p s).Values.e0.Count<=1/\(X6t p s).Values.e1.Count<=1:=by
 unfold X6t;dsimp only;refine⟨?_,?_,?_,?_⟩
 ·grind [Xow,Xmc]
 ·grind [Xow,Xmc]
 ·split
  ·exact Int.le_refl _
  trivial
 ·split
  ·exact Int.le_refl _
  ·show(0:Int)<=1;decide
theorem Mid.vals {w:X0r} {L:List Pu} {p:Pu} {done:X0p->Prop} {es:List X4} (m:Mid w L p done es) (hl:L.length<=900) {e:X4} (he:e∈es):okA e.Values.e0/\okA e.Values.e1/\e.Values.e0.Count<=1000/\e.Values.e1.Count<=1000:=by
 rcases(m.mem e).1 he with ⟨_,_,h⟩|⟨_,_,h⟩
 ·rw[h];exact Xnp (by simp;omega) _ _
 ·rw[h];exact Xnp om _ _
theorem X0dz {w:X0r} {L:List Pu} {p:Pu} (hk:w.Kind≠3) (hl:L.length<=900) (Y:List X0p):∀ (xs:List X0p) (k:Nat) (x0:X4) (l:List X4) (done:X0p->Prop),Mid w L p done l->xs.Nodup->(∀ s∈xs,¬ done s/\Xpd w.Size (Xed w) p.1.Time s) ->
  x0.Key=p.1.Key->(∀ s,x0.Values=(X6t p s).Values)->l.length+xs.length<=9000->∃ l',X45 Y xs k x0 l=some (.x0 l')/\Mid w L p (λs=>done s\/s∈xs) l'/\l'.length<=l.length+xs.length:=by
 intro xs
 induction xs with
 |nil=>intro k x0 l done m _ _ _ _ _;exact⟨l,rfl,by simpa using m,by simp⟩
 |cons s xs ih =>
  intro k x0 l done m hnd hs hk0 hv0 hlen;rw[List.nodup_cons] at hnd;have hs0:=hs s List.mem_cons_self;have hx:(⟨x0.Key,s,x0.Values⟩:X4)=X6t p s:=by rw[hk0,hv0 s];rfl
  have er:=X09j p s;have m2:=m.step hk om hs0.1 hs0.2;simp only[List.length_cons] at hlen;obtain⟨l',h1,h2,h3⟩:=ih (k+1) (X6t p s) (Xmq l (X6t p s)) _ m2 hnd.2 (λx hxx=>⟨λh=>h.elim (hs x (List.mem_cons_of_mem _ hxx)).1 (λe=>hnd.1 (e▸hxx)),(hs x (List.mem_cons_of_mem _ hxx)).2⟩) rfl (λ_=>rfl) (by have:=Xmp l (X6t p s);omega);refine⟨l',?_,⟨h2.sorted,λe=>?_⟩,by grind [Xmp,X6t,List.length_cons]⟩
  ·rw[X45];have key:∀ o,X45 Y xs (k+1) (X6t p s) (Xmq l (X6t p s))=some o->((Xg l (X4.mk x0.Key s x0.Values)).bind λv1891=>bif (!v1891.2) then (bif (v1891.1==(List.length l:Int)) then (((X6x l v1891.1 (List.length l:Int)).bind λm1903=>bif (List.isEmpty m1903) then ((X0x (List.length (l++[(X4.mk x0.Key s x0.Values)])) 88).bind λu1906=>some ()) else ((X0x (List.length (l++[(X4.mk x0.Key s x0.Values)])) 88).bind λu1908=>some ()):Option (Unit)).bind λ_=>some ((X4.mk ((X4.mk x0.Key s x0.Values).Key) ((X4.mk x0.Key s x0.Values).Span) (V2.mk (((X4.mk x0.Key s x0.Values).Values).e0) (((X4.mk x0.Key s x0.Values).Values).e1))),(l++[(X4.mk x0.Key s x0.Values)]),0)) else ((Xvt l v1891.1 (X4.mk x0.Key s x0.Values) 88).bind λm1911=>some ((X4.mk x0.Key s x0.Values),m1911,0))) else ((X18 l v1891.1).bind λe1913=>((X1y e1913.Values.e0 x0.Values.e0).bind λv1928=>bif (v1928.2 != (0:Int)) then (some (l,v1928.2)) else ((X1y (((X4.mk e1913.Key e1913.Span (V2.mk v1928.1 e1913.Values.e1)).Values).e1) x0.Values.e1).bind λv1933=>bif (v1933.2 != (0:Int)) then (some ((List.set l (Int.toNat v1891.1) (X4.mk e1913.Key e1913.Span (V2.mk v1928.1 e1913.Values.e1))),v1933.2)) else (some ((List.set (List.set l (Int.toNat v1891.1) (X4.mk e1913.Key e1913.Span (V2.mk v1928.1 e1913.Values.e1))) (Int.toNat v1891.1) (X4.mk ((X4.mk e1913.Key e1913.Span (V2.mk v1928.1 e1913.Values.e1)).Key) ((X4.mk e1913.Key e1913.Span (V2.mk v1928.1 e1913.Values.e1)).Span) (V2.mk (((X4.mk e1913.Key e1913.Span (V2.mk v1928.1 e1913.Values.e1)).Values).e0) v1933.1))),0))):Option ((List X4)×Int)).bind λw1925=>some ((X4.mk ((X4.mk x0.Key s x0.Values).Key) ((X4.mk x0.Key s x0.Values).Span) (V2.mk (((X4.mk x0.Key s x0.Values).Values).e0) (((X4.mk x0.Key s x0.Values).Values).e1))),w1925.1,w1925.2)):Option (X4×(List X4)×Int))=some (X6t p s,Xmq l (X6t p s),0):=by
    intro o _;rw[X0dw m.sorted om,Xye m.sorted];have hle:=X00y l (X6t p s);have hval:x0.Values=(X6t p s).Values:=hv0 s;rw[hx,hval]
    cases h:l[cnt l (X6t p s)]? with
    |none =>
     have hc:cnt l (X6t p s)=l.length:=by grind
     have hsl:X6x l (l.length:Int) (l.length:Int)=some []:=by simp[X6x]
     simp only[Yo,Bool.not_false,cond_true,hc,beq_self_eq_true,hsl]
     grind [X2u]
    |some y =>
     have hlt:cnt l (X6t p s)<l.length:=(Ys.1 h).1;simp only[Yo];by_cases hkk:X4t y (X6t p s)
     ·obtain⟨a1,a2,a3,a4⟩:=m.vals hl (Yg h);simp only[hkk,decide_true,Bool.not_true,cond_false,X40,h,Yo,X3u a1 er.1 om,X3u a2 er.2.1 om,bne_self_eq_false,if_true,Int.toNat_natCast,List.set_set];rfl
     ·have hne:((cnt l (X6t p s):Int)==(l.length:Int))=false:=by simp;omega
      have hi:Xvt l (cnt l (X6t p s):Int) (X6t p s) 88=some (l.take (cnt l (X6t p s))++X6t p s::l.drop (cnt l (X6t p s))):=by
       unfold Xvt;grind
      grind
   grind
  ·rw[h2.mem]
   grind
theorem Xg4 {w:X0r} {L:List Pu} {es:List X4} (hw:okW w) (hL:Xxa w L) (c:Xb7 w L es):∀ e∈es,okE e:=by
 intro e he;obtain⟨h1,h2⟩:=(c.mem e).1 he;have hlen:=hL.len;obtain⟨v1,v2,v3,v4⟩:=Xnp (L:=L) om e.Key e.Span;rw[<-h2] at v1 v2 v3 v4;have hpos:∀ t,X8s L e.Key t->inS e.Span t->0<e.Values.e0.Count+e.Values.e1.Count:=by
  intro t ht hi;have:=Xxi hL.side ht hi;rw[h2];show 0<(Xdq _).Count+(Xdq _).Count;rw[X3e,X3e];omega
 have htime:∀ t,X8s L e.Key t->okT t:=by
  rintro t ⟨p,hp,_,rfl⟩;exact hL.time p hp
 obtain⟨w1,w2,w3⟩:=hw;unfold Xf1 at h1;by_cases hk:w.Kind=3
 ·rw[if_pos hk] at h1;obtain⟨s1,s2,s3,s4⟩:=h1;obtain⟨t,ht,a1,a2⟩:=s2 (2*e.Span.Start+1) om om;have hts:t=e.Span.Start:=by
   have:¬ (2*t<2*e.Span.Start):=λh=>s3 ⟨t,ht,h,by omega⟩;omega
  obtain⟨t',ht',b1,b2⟩:=s2 (2*e.Span.End - 1) om om;have hte:t'+w.Size=e.Span.End:=by
   have:¬ (2*e.Span.End<2*(t'+w.Size)):=λh=>s4 ⟨t',ht',by omega,h⟩;omega
  have q1:=htime t ht;have q2:=htime t' ht';unfold okT at q1 q2;exact⟨by omega,s1,by omega,v1,v2,hpos t ht ⟨by omega,by omega⟩⟩
 ·rw[if_neg hk] at h1;obtain⟨t,ht,a1,a2,a3,a4⟩:=h1;have q1:=htime t ht;unfold okT at q1;exact⟨by omega,by omega,by omega,v1,v2,hpos t ht ⟨a3,a4⟩⟩
theorem Xiz {w:X0r} {L:List Pu} {p:Pu} {es:List X4} (hw:okW w) (hk:w.Kind≠3) (hL:Xxa w (L++[p])) (c:Xb7 w L es) (hn:es.length<=3900) :
  ∃ es',X7u es w p.1 p.2=some (es',0)/\Xb7 w (L++[p]) es'/\es'.length<=es.length+16:=by
 have ht:=hL.time p (by simp);have hsd:=hL.side p (by simp);have hll:=hL.init.len;obtain⟨W,hW,hWl,hWn,hWm⟩:=Xj1 hw hk ht;obtain⟨l',h1,h2,h3⟩:=X0dz (w:=w) (L:=L) (p:=p) hk om W W 0 (X6t p ⟨0,0⟩) es _ (Mid.start c) hWn (λs hs=>⟨λh=>h,(hWm s).1 hs⟩) rfl (λ_=>rfl) om;refine⟨l',?_,Mid.end hk (λs=>by grind) h2,by omega⟩;unfold X7u;have e1:(bif (p.2 != 0) then (p.2 != 1) else false)=false:=by grind
 have e2:(bif (decide (p.1.Time<((-1099511627776):Int))) then true else (decide (p.1.Time>(1099511627776:Int))))=false:=by
  unfold okT at ht
  grind
 have e3:((X9m p.1.Value).bind λv14=>bif (p.2==(0:Int)) then (some (X4.mk p.1.Key (X0p.mk 0 0) (V2.mk v14 (X0y.mk 0 0 0 0)))) else (bif (p.2==(1:Int)) then (some (X4.mk p.1.Key (X0p.mk 0 0) (V2.mk (X0y.mk 0 0 0 0) v14))) else none):Option (X4))=some (X6t p ⟨0,0⟩):=by
  simp only[X9m,Yo];rcases hsd with h|h
  ·simp[h,X6t,ofA,Xds]
  ·simp[h,X6t,ofA,Xds]
 have e4:(bif (List.isEmpty es) then (some es) else ((X0x (List.length es) 88).bind λu28=>some es):Option ((List X4)))=some es:=by
  grind [X2u,List.isEmpty]
 have e5:(w.Kind==3)=false:=by simp[hk]
 rw[Xac c.sorted (Xg4 hw hL.init c) om,Yo];simp only[bne_self_eq_false,cond_false,X41 hw,Yo,e1,e2];rw[e3,Yo,e4,Yo];simp only[e5,cond_false,hW,Yo,bne_self_eq_false];rw[X22 om,Yo,h1,Yo]
 grind
end Go.D


namespace Go.D
theorem Xt7 {size:Int} {T:Int->Prop} {a b:X0p} (ha:Xj5 size T a) (hb:Xj5 size T b) (h1:a.Start<b.End) (h2:b.Start<a.End):a=b:=by
 obtain⟨a1,a2,a3,a4⟩:=ha;obtain⟨b1,b2,b3,b4⟩:=hb
 grind [Xi7,ltge,absurd]
theorem Xil {size:Int} {T T':Int->Prop} (h:∀ t,T t->T' t) {x:Int} (c:cov size T x):cov size T' x:=by
 obtain⟨t,h1,h2⟩:=c;exact⟨t,h t h1,h2⟩
def X8q (L:List Pu) (k:Int) (M:List X4) (side:Int):List Int:=(L.filter λq=>decide (q.1.Key=k/\(∃ m∈M,inS m.Span q.1.Time)/\q.2=side)).map λq=>q.1.Value
def pv (p:Pu) (side:Int):List Int:=if p.2=side then [p.1.Value] else []
theorem X008 {α:Type} (a b:α->Bool):∀ (l:List α),(∀ q∈l,¬ (a q=true/\b q=true))->(l.filter λq=>a q||b q).Perm (l.filter a++l.filter b):=by
 intro l
 induction l with
 |nil=>intro _;simp
 |cons x l ih =>
  intro h;have ih':=ih λq hq=>h q (List.mem_cons_of_mem _ hq);have hx:=h x List.mem_cons_self
  cases ha:a x with
  |true =>
   have hb:b x=false:=by cases hb:b x with|true=>exact absurd ⟨ha,hb⟩ hx|false=>rfl
   rw[List.filter_cons_of_pos (by simp[ha]),List.filter_cons_of_pos ha,List.filter_cons_of_neg (by simp[hb])];exact ih'.cons x
  |false =>
   cases hb:b x with
   |true =>
    rw[List.filter_cons_of_pos (by simp[hb]),List.filter_cons_of_neg (by simp[ha]),List.filter_cons_of_pos hb];exact(ih'.cons x).trans List.perm_middle.symm
   |false =>
    rw[List.filter_cons_of_neg (by simp[ha,hb]),List.filter_cons_of_neg (by simp[ha]),List.filter_cons_of_neg (by simp[hb])];exact ih'
theorem Xqd {L:List Pu} {k:Int} {M:List X4} {y:X4} {side:Int} (h:∀ q∈L,q.1.Key=k->inS y.Span q.1.Time->¬ ∃ m∈M,inS m.Span q.1.Time) :
  (X8q L k (y::M) side).Perm (X8q L k M side++vals L k y.Span side):=by
 unfold X8q vals;rw[<-List.map_append];refine List.Perm.map _ ?_
 have h1:=X008 (λq:Pu=>decide (q.1.Key=k/\(∃ m∈M,inS m.Span q.1.Time)/\q.2=side)) (λq=>decide (q.1.Key=k/\inS y.Span q.1.Time/\q.2=side)) L (λq hq hc=>by
  simp only[decide_eq_true_eq] at hc
  exact h q hq hc.1.1 hc.2.2.1 hc.1.2.1)
 refine List.Perm.trans (List.Perm.of_eq ?_) h1;refine List.filter_congr λq _=>?_;rw[Bool.eq_iff_iff];simp only[decide_eq_true_eq,Bool.or_eq_true,List.mem_cons];constructor
 ·rintro⟨a1,⟨m,hm|hm,hi⟩,a2⟩
  ·exact .inr ⟨a1,by rw[<-hm];exact hi,a2⟩
  ·exact .inl ⟨a1,⟨m,hm,hi⟩,a2⟩
 ·rintro(⟨a1,⟨m,hm,hi⟩,a2⟩|⟨a1,hi,a2⟩)
  ·exact⟨a1,⟨m,.inr hm,hi⟩,a2⟩
  ·exact⟨a1,⟨y,.inl rfl,hi⟩,a2⟩
theorem Xaq (L:List Pu) (k:Int) (M:List X4) (side:Int):(X8q L k M side).length<=L.length:=by unfold X8q;rw[List.length_map];exact List.length_filter_le _ _
theorem Xos (p:Pu) (side:Int):(pv p side).length<=1:=by unfold pv;split<;>simp
def olap (x y:X4):Prop:=y.Key=x.Key/\y.Span.Start<x.Span.End/\x.Span.Start<y.Span.End
instance (x y:X4):Decidable (olap x y):=by unfold olap;infer_instance
structure Ses (w:X0r) (L:List Pu) (p:Pu) (es l:List X4) (x:X4) (M:List X4):Prop where
 sub:l.Sublist es
 part:∀ e,e∈es↔e∈l\/e∈M
 apart:∀ e∈l,e ∉ M
 keyM:∀ m∈M,m.Key=p.1.Key
 key:x.Key=p.1.Key
 own:x.Span.Start<=p.1.Time/\p.1.Time+w.Size<=x.Span.End
 inner:∀ z,2*x.Span.Start<z->z<2*x.Span.End->cov w.Size (λt=>X8s L p.1.Key t\/t=p.1.Time) z
 hull:∀ m∈M,x.Span.Start<=m.Span.Start/\m.Span.End<=x.Span.End
 val0:x.Values.e0=Xdq (pv p 0++X8q L p.1.Key M 0)
 val1:x.Values.e1=Xdq (pv p 1++X8q L p.1.Key M 1)
theorem X01j (p:Pu) (s:X0p):(X6t p s).Values.e0=Xdq (pv p 0)/\(X6t p s).Values.e1=Xdq (pv p 1):=by
 unfold X6t pv;constructor
 ·dsimp only;split
  ·exact(Xdp _).symm
  ·rfl
 ·dsimp only;split
  ·exact(Xdp _).symm
  ·rfl
theorem Ses.start {w:X0r} {L:List Pu} {p:Pu} {es:List X4} (hw:1<=w.Size):Ses w L p es es (X6t p ⟨p.1.Time,p.1.Time+w.Size⟩) []:=by
 have hv:∀ side,X8q L p.1.Key [] side=[]:=λside=>by unfold X8q;simp
 refine⟨.refl _,λe=>by simp,λe _=>by simp,λm hm=>(by cases hm),rfl,⟨Int.le_refl _,Int.le_refl _⟩,λz h1 h2=>?_,λm hm=>(by cases hm),?_,?_⟩
 ·exact⟨p.1.Time,.inr rfl,h1,h2⟩
 ·rw[hv,List.append_nil];exact(X01j p _).1
 ·rw[hv,List.append_nil];exact(X01j p _).2
def Xpe (x y:X4):X4:=⟨x.Key,⟨if y.Span.Start<x.Span.Start then y.Span.Start else x.Span.Start,if y.Span.End>x.Span.End then y.Span.End else x.Span.End⟩,⟨X4b x.Values.e0 y.Values.e0,X4b x.Values.e1 y.Values.e1⟩⟩
theorem Ses.step {w:X0r} {L:List Pu} {p:Pu} {es l:List X4} {x:X4} {M:List X4} (hk:w.Kind=3) (hl:L.length<=900) (c:Xb7 w L es) (s:Ses w L p es l x M) {i:Nat} {y:X4} (hi:l[i]?=some y) (ho:olap x y) :
  Ses w L p es (l.take i++l.drop (i+1)) (Xpe x y) (y::M):=by
 have hyl:y∈l:=Yg hi;have hye:y∈es:=(s.part y).2 (.inl hyl);have hyM:=s.apart y hyl;have hky:y.Key=p.1.Key:=ho.1.trans s.key;obtain⟨hyw,hyv⟩:=(c.mem y).1 hye;unfold Xf1 at hyw;rw[if_pos hk,hky] at hyw;rw[hky] at hyv;have hlt:i<l.length:=(Ys.1 hi).1;have hsplit:l=l.take i++y::l.drop (i+1):=by
  grind [Ys,List.drop_eq_getElem_cons,List.take_append_drop]
 have hnd:l.Nodup:=s.sub.nodup (List.Pairwise.imp (R:=ltE) (S:=λa b=>a≠b) (λ{a b} h (e:a=b)=>Xvj b (by grind)) c.sorted);have hyn:y ∉ l.take i++l.drop (i+1):=by
  grind
 have hmem:∀ e,e∈l↔e=y\/e∈l.take i++l.drop (i+1):=by
  grind
 have hdis:∀ q∈L,q.1.Key=p.1.Key->inS y.Span q.1.Time->¬ ∃ m∈M,inS m.Span q.1.Time:=by
  rintro q hq _ hyq ⟨m,hm,hmq⟩;have hme:m∈es:=(s.part m).2 (.inr hm);obtain⟨hmw,hmv⟩:=(c.mem m).1 hme;unfold Xf1 at hmw;rw[if_pos hk,s.keyM m hm] at hmw;rw[s.keyM m hm] at hmv;unfold inS at hyq hmq;have hsp:y.Span=m.Span:=Xt7 hyw hmw om om;have:y=m:=by cases y;cases m;simp only at hky hyv hsp hmv;simp only[X4.mk.injEq];exact⟨hky.trans (s.keyM _ hm).symm,hsp,by grind⟩
  grind
 have hval:∀ side,(pv p side++X8q L p.1.Key M side).length<=1073741824:=λside=>by
  grind [Xos,Xaq]
 have hperm:∀ side,Xdq (pv p side++X8q L p.1.Key (y::M) side)=X4b (Xdq (pv p side++X8q L p.1.Key M side)) (Xdq (vals L p.1.Key y.Span side)):=λside=>by
  have hp:=(Xqd (L:=L) (k:=p.1.Key) (M:=M) (y:=y) (side:=side) hdis).append_left (pv p side)
  grind [Xpy,Xos,Xaq,List.append_assoc,X5w]
 obtain⟨_,o1,o2⟩:=ho;refine⟨?_,λe=>?_,λe he hm=>?_,λm hm=>?_,s.key,?_,λz h1 h2=>?_,λm hm=>?_,?_,?_⟩
 ·refine List.Sublist.trans ?_ s.sub
  grind
 ·rw[s.part,hmem,List.mem_cons]
  grind
 ·rcases List.mem_cons.1 hm with h|h
  ·grind
  ·exact s.apart e ((hmem e).2 (.inr he)) h
 ·rcases List.mem_cons.1 hm with h|h
  ·grind
  ·exact s.keyM m h
 ·have:=s.own
  grind [Xpe]
 ·have hz:(2*x.Span.Start<z/\z<2*x.Span.End)\/(2*y.Span.Start<z/\z<2*y.Span.End):=by
   grind [Xpe]
  rcases hz with ⟨g1,g2⟩|⟨g1,g2⟩
  ·exact s.inner z g1 g2
  ·exact Xil (λt h=>.inl h) (hyw.2.1 z g1 g2)
 ·have hx:(Xpe x y).Span.Start<=x.Span.Start/\x.Span.End<=(Xpe x y).Span.End/\(Xpe x y).Span.Start<=y.Span.Start/\y.Span.End<=(Xpe x y).Span.End:=by
   grind [Xpe]
  rcases List.mem_cons.1 hm with h|h
  ·grind
  ·have:=s.hull m h;omega
 ·show X4b x.Values.e0 y.Values.e0=_;rw[hperm,s.val0,hyv];rfl
 ·show X4b x.Values.e1 y.Values.e1=_;rw[hperm,s.val1,hyv];rfl
theorem Ses.end {w:X0r} {L:List Pu} {p:Pu} {es l:List X4} {x:X4} {M:List X4} (hk:w.Kind=3) (hw:1<=w.Size) (hl:L.length<=900) (c:Xb7 w L es) (s:Ses w L p es l x M) (hno:∀ y∈l,¬ olap x y):Xb7 w (L++[p]) (Xmq l x):=by
 have hsl:l.Pairwise ltE:=c.sorted.sublist s.sub;have hxx:x.Span.Start<x.Span.End:=by have:=s.own;omega
 have hnl:∀ y∈l,y.Key=p.1.Key->¬ (y.Span.Start<x.Span.End/\x.Span.Start<y.Span.End):=λy hy hky h=>hno y hy ⟨hky.trans s.key.symm,h.1,h.2⟩;have hT:(X8s (L++[p]) p.1.Key)=λt=>X8s L p.1.Key t\/t=p.1.Time:=by
  funext t;apply propext;rw[Xas]
  grind
 have hes:∀ e∈es,e.Key=p.1.Key->Xj5 w.Size (X8s L p.1.Key) e.Span:=by
  intro e he hke;have:=((c.mem e).1 he).1
  simp_all [Xf1,if_pos]
 have hxw:Xj5 w.Size (λt=>X8s L p.1.Key t\/t=p.1.Time) x.Span:=by
  refine⟨hxx,s.inner,?_,?_⟩
  ·rintro⟨t,ht|ht,h1,h2⟩
   ·obtain⟨e,he,hke,a1,a2⟩:=c.cover hk _ t ht;rcases(s.part e).1 he with h|h
    ·grind
    ·have:=s.hull e h;omega
   ·have:=s.own;omega
  ·rintro⟨t,ht|ht,h1,h2⟩
   ·obtain⟨e,he,hke,a1,a2⟩:=c.cover hk _ t ht;rcases(s.part e).1 he with h|h
    ·grind
    ·have:=s.hull e h;omega
   ·have:=s.own;omega
 have hpin:inS x.Span p.1.Time:=by have:=s.own;unfold inS;omega
 have hxv:x.Values=Xg0 (L++[p]) p.1.Key x.Span:=by
  have hv:∀ side,Xdq (pv p side++X8q L p.1.Key M side)=Xdq (vals (L++[p]) p.1.Key x.Span side):=by
   intro side;have h1:vals L p.1.Key x.Span side=X8q L p.1.Key M side:=by
    unfold vals X8q;congr 1
    refine List.filter_congr λq hq=>?_;rw[Bool.eq_iff_iff];simp only[decide_eq_true_eq];constructor
    ·rintro⟨a1,a2,a3⟩;refine⟨a1,?_,a3⟩;obtain⟨e,he,hke,b1,b2⟩:=c.cover hk _ q.1.Time ⟨q,hq,a1,rfl⟩;unfold inS at a2;rcases(s.part e).1 he with h|h
     ·exact absurd ⟨by omega,by omega⟩ (hnl e h hke)
     ·exact⟨e,h,by unfold inS;omega⟩
    ·rintro⟨a1,⟨m,hm,b1,b2⟩,a3⟩;have:=s.hull m hm;exact⟨a1,⟨by omega,by omega⟩,a3⟩
   have h2:(if p.1.Key=p.1.Key/\inS x.Span p.1.Time/\p.2=side then [p.1.Value] else [])=pv p side:=by
    unfold pv
    grind
   grind [X6e,Xpy,List.perm_append_comm,Xos,Xaq]
  have h0:=s.val0;have h1:=s.val1;rw[hv] at h0 h1;unfold Xg0;rw[<-h0,<-h1]
 have hns:∀ y∈l,¬ X4t y x:=λy hy hs=>hno y hy ⟨hs.1,by rw[hs.2];exact hxx,by rw[hs.2];exact hxx⟩;have hput:∀ e,e∈Xmq l x↔e∈l\/e=x:=by
  grind [Xmo,absurd]
 refine⟨Xjd hsl,λe=>?_,λ_ k t ht=>?_⟩
 ·rw[hput];unfold Xwn Xf1;rw[if_pos hk];by_cases hke:e.Key=p.1.Key
  ·rw[hke,hT];have hsame:¬ (e.Span.Start<x.Span.End/\x.Span.Start<e.Span.End)->(Xj5 w.Size (λt=>X8s L p.1.Key t\/t=p.1.Time) e.Span/\e.Values=Xg0 (L++[p]) p.1.Key e.Span↔Xj5 w.Size (X8s L p.1.Key) e.Span/\e.Values=Xg0 L p.1.Key e.Span):=by
    intro hn;have hown:=s.own;have hpn:e.Span.Start<e.Span.End->¬ inS e.Span p.1.Time:=λh hi=>by grind [inS]
    have hvv:e.Span.Start<e.Span.End->Xg0 (L++[p]) p.1.Key e.Span=Xg0 L p.1.Key e.Span:=λh=>by
     simp_all [Xg0,X6e,if_neg,List.append_nil]
    constructor
    ·rintro⟨⟨a1,a2,a3,a4⟩,hv⟩;refine⟨⟨a1,λz h1 h2=>?_,λh=>a3 (Xil (λt h=>.inl h) h),λh=>a4 (Xil (λt h=>.inl h) h)⟩,by grind⟩;obtain⟨t,ht|ht,b1,b2⟩:=a2 z h1 h2
     ·exact⟨t,ht,b1,b2⟩
     grind
    ·rintro⟨⟨a1,a2,a3,a4⟩,hv⟩;refine⟨⟨a1,λz h1 h2=>Xil (λt h=>.inl h) (a2 z h1 h2),?_,?_⟩,by grind⟩
     ·rintro⟨t,ht|ht,b1,b2⟩
      ·exact a3 ⟨t,ht,b1,b2⟩
      grind
     ·rintro⟨t,ht|ht,b1,b2⟩
      ·exact a4 ⟨t,ht,b1,b2⟩
      grind
   constructor
   ·rintro(h|h)
    ·have he:e∈es:=(s.part e).2 (.inl h);refine(hsame (hnl e h hke)).2 ⟨hes e he hke,?_⟩;have:=((c.mem e).1 he).2
     grind
    grind
   ·intro h;by_cases hov:e.Span.Start<x.Span.End/\x.Span.Start<e.Span.End
    ·right;have hsp:=Xt7 h.1 hxw hov.1 hov.2;have hkx:=s.key;obtain⟨_,h2⟩:=h;rw[hsp] at h2;cases e;cases x
     grind
    ·left;have h3:=(hsame hov).1 h;have he:e∈es:=(c.mem e).2 ⟨by simp_all [Xf1,if_pos],by grind⟩;rcases(s.part e).1 he with h4|h4
     ·exact h4
     ·have:=s.hull e h4;exact absurd ⟨by have:=h3.1.1;omega,by have:=h3.1.1;omega⟩ hov
  ·have hT2:X8s (L++[p]) e.Key=X8s L e.Key:=by
    grind [Xas]
   have hV2:Xg0 (L++[p]) e.Key e.Span=Xg0 L e.Key e.Span:=by
    unfold Xg0;rw[X6e,X6e,if_neg (λhc=>hke hc.1.symm),if_neg (λhc=>hke hc.1.symm),List.append_nil,List.append_nil]
   rw[hT2,hV2];constructor
   ·rintro(h|h)
    ·have:=(c.mem e).1 ((s.part e).2 (.inl h))
     simp_all [Xwn,Xf1,if_pos]
    ·exact absurd (by rw[h];exact s.key) hke
   ·intro h;have he:e∈es:=(c.mem e).2 (by simp_all [Xwn,Xf1,if_pos]);rcases(s.part e).1 he with h4|h4
    ·exact .inl h4
    ·exact absurd (s.keyM e h4) hke
 ·rcases(Xas ..).1 ht with ht|⟨h1,h2⟩
  ·obtain⟨e,he,hke,a1,a2⟩:=c.cover hk k t ht;rcases(s.part e).1 he with h|h
   ·grind
   ·have:=s.hull e h;exact⟨x,(hput x).2 (.inr rfl),s.key.trans ((s.keyM e h).symm.trans hke),by omega,by omega⟩
  ·have:=s.own;exact⟨x,(hput x).2 (.inr rfl),s.key.trans h1,by omega,by omega⟩
end Go.D


namespace Go.D
theorem X04d (Y:List X4) (x:X4):∀ (xs:List X4) (k:Nat),(Xh Y x xs k=some .x0/\∀ y∈xs,¬ olap x y) \/
  ∃ (i:Nat) (y:X4),Xh Y x xs k=some (.x1 ((k+i:Nat):Int))/\xs[i]?=some y/\olap x y:=by
 intro xs
 induction xs with
 |nil=>intro k;exact .inl ⟨rfl,λy hy=>by cases hy⟩
 |cons z xs ih =>
  intro k;rw[Xh];by_cases h:olap x z
  ·right;have:(bif (bif (z.Key==x.Key) then (decide (z.Span.Start<x.Span.End)) else false) then (decide (x.Span.Start<z.Span.End)) else false)=true:=by
    obtain⟨h1,h2,h3⟩:=h;simp[h1,h2,h3]
   rw[this,cond_true];exact⟨0,z,rfl,rfl,h⟩
  ·have:(bif (bif (z.Key==x.Key) then (decide (z.Span.Start<x.Span.End)) else false) then (decide (x.Span.Start<z.Span.End)) else false)=false:=by
    rw[<-Bool.not_eq_true];intro hc;apply h;by_cases h1:z.Key=x.Key
    ·by_cases h2:z.Span.Start<x.Span.End
     ·by_cases h3:x.Span.Start<z.Span.End
      ·exact⟨h1,h2,h3⟩
      ·simp[h1,h2,h3] at hc
     ·simp[h1,h2] at hc
    ·have:(z.Key==x.Key)=false:=by simp[h1]
     simp[this] at hc
   rw[this,cond_false];rcases ih (k+1) with ⟨h1,h2⟩|⟨i,y,h1,h2,h3⟩
   ·exact .inl ⟨h1,λy hy=>(List.mem_cons.1 hy).elim (λe=>e▸h) (h2 y)⟩
   ·exact .inr ⟨i+1,y,by rw[h1];congr 2;omega,by simpa using h2,h3⟩
theorem X089 {w:X0r} {L:List Pu} {p:Pu} {es:List X4} (hk:w.Kind=3) (hw:1<=w.Size) (hl:L.length<=900) (hn:es.length<=3900) (c:Xb7 w L es) (hu:∀ e∈es,okA e.Values.e0/\okA e.Values.e1/\e.Values.e0.Count<=1000/\e.Values.e1.Count<=1000):∀ (f:Nat) (l:List X4) (x:X4) (M:List X4),l.length<f->Ses w L p es l x M ->
  ∃ es',X1a f l x=some (.x0 es' 0)/\Xb7 w (L++[p]) es'/\es'.length<=es.length+1:=by
 intro f
 induction f with
 |zero=>intro l x M h;omega
 |succ f ih =>
  intro l x M hf s;have hsl:l.Pairwise ltE:=c.sorted.sublist s.sub;have hll:l.length<=es.length:=s.sub.length_le;have hxv:okA x.Values.e0/\okA x.Values.e1/\x.Values.e0.Count<=1000/\x.Values.e1.Count<=1000:=by
   have h0:=Xos p 0;have h1:=Xos p 1;have h2:=Xaq L p.1.Key M 0;have h3:=Xaq L p.1.Key M 1;rw[s.val0,s.val1];refine⟨Xkl (by simp;omega),Xkl (by simp;omega),?_,?_⟩
   ·rw[X3e];simp;omega
   ·rw[X3e];simp;omega
  rw[X1a];rw[X22 om,Yo];rcases X04d l x l 0 with ⟨h1,h2⟩|⟨i,y,h1,h2,h3⟩
  ·rw[h1];simp only[Yo];have hneg:decide ((-1:Int)<0)=true:=by decide
   rw[hneg,cond_true]
   have hput:=X07x (x:=x) hsl om ⟨hxv.1,hxv.2.1⟩ (λy hy _=>by
    obtain⟨a1,a2,a3,a4⟩:=hu y ((s.part y).2 (.inl hy))
    exact⟨a1,a2,by omega,by omega⟩)
   unfold putF at hput;refine⟨Xmq l x,?_,Ses.end hk hw hl c s h2,by have:=Xmp l x;omega⟩;rw[hput];rfl
  ·rw[h1];have hlt:i<l.length:=(Ys.1 h2).1;simp only[Yo,Nat.zero_add];have hneg:decide ((i:Int)<0)=false:=by simp
   rw[hneg,cond_false,X40,h2,Yo];obtain⟨a1,a2,a3,a4⟩:=hu y ((s.part y).2 (.inl (Yg h2)));have hd:delI l (i:Int)=some (l.take i++l.drop (i+1)):=by
    unfold delI;rw[if_pos ⟨by omega,by simpa using hlt,by omega⟩];simp
   simp only[X3u hxv.1 a1 om,X3u hxv.2.1 a2 om,Yo,bne_self_eq_false,cond_false,hd];have hstep:=s.step hk hl c h2 h3;exact ih _ _ _ (by simp;omega) hstep
theorem Xmh {w:X0r} {L:List Pu} {p:Pu} {es:List X4} (hw:okW w) (hk:w.Kind=3) (hL:Xxa w (L++[p])) (c:Xb7 w L es) (hn:es.length<=3900) :
  ∃ es',X7u es w p.1 p.2=some (es',0)/\Xb7 w (L++[p]) es'/\es'.length<=es.length+1:=by
 have ht:=hL.time p (by simp);have hsd:=hL.side p (by simp);have hll:=hL.init.len;have hw1:=hw.1;have hw2:=hw.2.1;have hu:∀ e∈es,okA e.Values.e0/\okA e.Values.e1/\e.Values.e0.Count<=1000/\e.Values.e1.Count<=1000:=λe he=>by
  have:=((c.mem e).1 he).2;rw[this];exact Xnp om _ _
 obtain⟨es',h1,h2,h3⟩:=X089 hk hw1 om hn c hu FU es _ [] (by unfold FU;omega) (Ses.start (p:=p) hw1);refine⟨es',?_,h2,h3⟩;have ht':=ht;unfold okT at ht';unfold X7u;have e1:(bif (p.2 != 0) then (p.2 != 1) else false)=false:=by rcases hsd with h|h<;>simp[h]
 have b1:decide (p.1.Time<((-1099511627776):Int))=false:=by simp;omega
 have b2:decide (p.1.Time>(1099511627776:Int))=false:=by simp;omega
 have e2:(bif (decide (p.1.Time<((-1099511627776):Int))) then true else (decide (p.1.Time>(1099511627776:Int))))=false:=by rw[b1,b2];rfl
 have e3:((X9m p.1.Value).bind λv14=>bif (p.2==(0:Int)) then (some (X4.mk p.1.Key (X0p.mk 0 0) (V2.mk v14 (X0y.mk 0 0 0 0)))) else (bif (p.2==(1:Int)) then (some (X4.mk p.1.Key (X0p.mk 0 0) (V2.mk (X0y.mk 0 0 0 0) v14))) else none):Option (X4))=some (X6t p ⟨0,0⟩):=by
  simp only[X9m,Yo];rcases hsd with h|h
  ·simp[h,X6t,ofA,Xds]
  ·simp[h,X6t,ofA,Xds]
 have e4:(bif (List.isEmpty es) then (some es) else ((X0x (List.length es) 88).bind λu28=>some es):Option ((List X4)))=some es:=by
  rw[X2u om];cases List.isEmpty es<;>rfl
 have e5:(w.Kind==3)=true:=by simp[hk]
 have c1:decide (w.Size<1)=false:=by simp;omega
 have c2:decide (w.Size>1073741824)=false:=by simp;omega
 have e6:X3g 0 w.Size=some 0:=by
  simp only[X3g,c1,c2,cond_false];rfl
 have e7:X3g p.1.Time w.Size=some 0:=by
  simp only[X3g,c1,c2,cond_false,b1,b2]
 have e8:X8c 1=some 1:=by decide +kernel
 rw[Xac c.sorted (Xg4 hw hL.init c) om,Yo];simp only[bne_self_eq_false,cond_false,X41 hw,Yo,e1,e2];rw[e3,Yo,e4,Yo];simp only[e5,cond_true,e6,e7,e8,Yo,bne_self_eq_false,cond_false];have hg:X18 [X0p.mk p.1.Time (IntKind.i64.wrap (p.1.Time+w.Size))] 0=some ⟨p.1.Time,p.1.Time+w.Size⟩:=by
  rw[X0q om om];rfl
 rw[hg,Yo];have hent:(⟨(X6t p ⟨0,0⟩).Key,⟨p.1.Time,p.1.Time+w.Size⟩,(X6t p ⟨0,0⟩).Values⟩:X4)=X6t p ⟨p.1.Time,p.1.Time+w.Size⟩:=rfl;rw[hent,h1,Yo,Yo];have e9:decide ((es'.length:Int)>4000)=false:=by simp;omega
 simp only[bne_self_eq_false,cond_false,e9]
theorem Xh7 {w:X0r} {L:List Pu} {p:Pu} {es:List X4} (hw:okW w) (hL:Xxa w (L++[p])) (c:Xb7 w L es) (hn:es.length<=3900) :
  ∃ es',X7u es w p.1 p.2=some (es',0)/\Xb7 w (L++[p]) es'/\es'.length<=es.length+16:=by
 by_cases hk:w.Kind=3
 ·obtain⟨es',h1,h2,h3⟩:=Xmh hw hk hL c hn;exact⟨es',h1,h2,by omega⟩
 ·exact Xiz hw hk hL c hn
theorem X016 {w:X0r} (hw:1<=w.Size):Xb7 w [] []:=by
 refine⟨List.Pairwise.nil,λe=>?_,λ_ k t ht=>?_⟩
 ·simp only[List.not_mem_nil,false_iff];rintro⟨h,_⟩;unfold Xf1 at h;split at h
  ·obtain⟨h1,h2,_⟩:=h;obtain⟨t,ht,_⟩:=h2 (2*e.Span.Start+1) om om;obtain⟨p,hp,_⟩:=ht;cases hp
  ·obtain⟨t,⟨p,hp,_⟩,_⟩:=h;cases hp
 ·obtain⟨p,hp,_⟩:=ht;cases hp
end Go.D


namespace Go.D
structure RQ (q:X00):Prop where
 w:QW q
 ok:(qChk q).2=0
theorem RQ.cz {q:X00} (h:RQ q):Xx9 q=0:=by
 have:=h.ok;unfold qChk at this;split at this
 ·rename_i h1;exact absurd this h1
 ·rename_i h1;omega
theorem RQ.facts {q:X00} (h:RQ q):(1<=q.Agg/\q.Agg<=4/\(q.Late=1\/q.Late=2))/\(q.Agg≠1->Xc8 q.Arg=0)/\(0<q.Where.length->Xc8 q.Where=0)/\X6g q.Sources q.Join=0/\okW q.Window/\(q.Join=true->q.Window.Kind=1):=by
 have hc:=h.cz;unfold Xx9 at hc;split at hc
 ·cases hc
 ·rename_i h1;split at hc
  ·cases hc
  ·split at hc
   ·rename_i h2;exact absurd hc h2.2
   ·rename_i h2;split at hc
    ·rename_i h3;exact absurd hc h3.2
    ·rename_i h3;split at hc
     ·rename_i h4;exact absurd hc h4
     ·rename_i h4;split at hc
      ·cases hc
      ·rename_i h5;split at hc
       ·rename_i h6;refine⟨by omega,λha=>?_,λhw=>?_,by omega,h6,λhj=>?_⟩
        ·by_cases hz:Xc8 q.Arg=0
         ·exact hz
         ·exact absurd ⟨ha,hz⟩ h2
        ·by_cases hz:Xc8 q.Where=0
         ·exact hz
         ·exact absurd ⟨hw,hz⟩ h3
        ·by_cases hk:q.Window.Kind=1
         ·exact hk
         ·exact absurd ⟨hj,hk⟩ h5
       ·cases hc
theorem RQ.src {q:X00} (h:RQ q):1<=q.Sources.length/\q.Sources.length<=4/\(q.Join=true->q.Sources.length=2):=by
 have hs:=h.facts.2.2.2.1
 grind [X6g,Xt2,decide,Bool.or_eq_false_iff]
def valA (agg:Int) (a:X0y):Int:=if agg=1 then a.Count else if agg=2 then a.Sum else if agg=3 then a.Min else a.Max
theorem Xd4 {agg:Int} {a:X0y} (h1:1<=agg) (h2:agg<=4) (ha:okA a):X68 agg a=some (if a.Count=0 then (0,6) else (valA agg a,0)):=by
 unfold X68;rw[Yf (show ¬ agg<1 by omega),Yf (show ¬ agg>4 by omega),X42 ha];simp only[cond_false,Yo,bne_self_eq_false];by_cases hc:a.Count=0
 ·grind
 ·rw[if_neg hc,show(a.Count==0)=false by simp[hc]]
  grind [valA]
def live (q:X00) (e:X4):Bool:=decide (e.Values.e0.Count≠0)&&(!q.Join||decide (e.Values.e1.Count≠0))
def rowE (q:X00) (e:X4):X1z:=⟨e.Key,e.Span,⟨valA q.Agg e.Values.e0,if q.Join then valA q.Agg e.Values.e1 else 0⟩⟩
def Xe7 (q:X00) (es:List X4):List X1z:=(es.filter (live q)).map (rowE q)
end Go.D


namespace Go.D
theorem RQ.rts {q:X00} (h:RQ q):(0<q.Arg.length->(X2h q.Arg false).2=0)/\(0<q.Where.length->(X2h q.Where true).2=0):=by
 have h0:=h.ok;unfold qChk at h0;rw[if_neg (by grind)] at h0;unfold rt at h0
 grind
theorem RQ.wher {q:X00} (h:RQ q) (hw:0<q.Where.length) (r:X6):X5p q.Where r=some (evV q.Where r,0):=Xew h.w.wher (Xtp (h.rts.2 hw)) r
theorem RQ.arg {q:X00} (h:RQ q) (ha:q.Agg≠1) (r:X6):X5p q.Arg r=some (evV q.Arg r,0):=by
 have h1:=(Xcm (h.facts.2.1 ha)).2.1;exact Xew h.w.arg (Xtp (h.rts.1 om)) r
def Xex (q:X00) (r:X6):Bool:=if 0<q.Where.length then decide (evV q.Where r≠0) else true
def Xqo (q:X00) (r:X6):X6:=⟨if q.ByKey then r.Key else 0,r.Time,if q.Agg=1 then 0 else evV q.Arg r⟩
theorem Xgq {q:X00} (h:RQ q) (r:X6):X5k q r=some (if Xex q r then (Xqo q r,true) else (⟨0,0,0⟩,false)):=by
 have body:((bif q.ByKey then (some (X6.mk r.Key r.Time 0)) else (some (X6.mk 0 r.Time 0)):Option (X6)).bind λXmz=>(bif (q.Agg != (1:Int)) then ((X5p q.Arg r).bind λv14=>some (X6.mk Xmz.Key Xmz.Time v14.1)) else (some Xmz):Option (X6)).bind λXp8=>some (Xp8,true))=some (Xqo q r,true):=by
  unfold Xqo;by_cases ha:q.Agg=1
  ·grind
  ·rw[Xlf ha,if_neg ha,h.arg ha r];grind
 unfold X5k Xex;rw[body];by_cases hw:0<q.Where.length
 ·rw[Yt (show(q.Where.length:Int)>0 by omega),cond_true,if_pos hw,h.wher hw r]
  grind
 grind
def Xyd (q:X00) (side:Int) (rs:List X6):List Pu:=(rs.filter (Xex q)).map λr=>(Xqo q r,side)
theorem Xyc (q:X00) (side:Int) (r:X6) (rs:List X6):Xyd q side (r::rs)=(if Xex q r then [(Xqo q r,side)] else [])++Xyd q side rs:=by
 grind [Xyd]
theorem X037 (q:X00) (side:Int) (rs:List X6):(Xyd q side rs).length<=rs.length:=by grind [Xyd,List.length_map,List.length_filter_le]
def X6i (q:X00) (k:Int):Int:=if q.Join then k else 0
theorem Xr6 {q:X00} (h:RQ q) (late:List X6) (k0:Int) (Y:List (List Xq)) (a b:Int) (R:List X6) (hside:X6i q k0=0\/X6i q k0=1):∀ (xs:List X6) (k:Nat) (L:List Pu) (es:List X4),Xb7 q.Window L es->Xxa q.Window (L++Xyd q (X6i q k0) xs)->es.length+16*xs.length<=3900 ->
  ∃ es',X2b q late k0 Y a b R xs k es=some (.x0 es' late)/\Xb7 q.Window (L++Xyd q (X6i q k0) xs) es'/\es'.length<=es.length+16*xs.length
 |[],k,L,es,hc,ho,hn=>⟨es,rfl,by simpa[Xyd] using hc,by simp⟩
 |x::xs,k,L,es,hc,ho,hn=>by
  simp only[List.length_cons] at hn;rw[X2b,Xgq h,Yo];rw[Xyc] at ho ⊢
  cases hcx:Xex q x with
  |false =>
   rw[hcx] at ho;simp only[Bool.false_eq_true,if_false,List.nil_append] at ho ⊢;obtain⟨es',h1,h2,h3⟩:=Xr6 h late k0 Y a b R hside xs (k+1) L es hc ho om
   grind
  |true =>
   rw[hcx] at ho;simp only[if_true] at ho ⊢;rw[<-List.append_assoc] at ho ⊢;have ho1:Xxa q.Window (L++[(Xqo q x,X6i q k0)]):=⟨λp hp=>ho.time p (List.mem_append_left _ hp),λp hp=>ho.side p (List.mem_append_left _ hp),by have:=ho.len;grind⟩;obtain⟨es1,g1,g2,g3⟩:=Xh7 h.facts.2.2.2.2.1 ho1 hc om;have hs:(bif q.Join then (some k0) else (some 0):Option Int)=some (X6i q k0):=by unfold X6i;grind
   rw[hs];simp only[Yo,Bool.not_true,cond_false];rw[g1];obtain⟨es',h1,h2,h3⟩:=Xr6 h late k0 Y a b R hside xs (k+1) _ es1 g2 ho om
   grind
def Xhu (q:X00):Nat->List (List Xq)->List Pu
 |_,[]=>[]
 |k,x::xs=>Xyd q (X6i q (k:Int)) (Xck x)++Xhu q (k+1) xs
def Xhw (l:List (List Xq)):List X6:=(l.map Xmw).flatten
theorem Xlq (x:List Xq):(Xck x).length<=x.length:=by
 grind [Xck,Xt9]
theorem Xp3 (x:List Xq):(Xmw x).length<=x.length:=by
 grind [Xmw,Xt9]
theorem Xz0 {q:X00} (h:RQ q) (Y:List (List Xq)):∀ (xs:List (List Xq)) (k:Nat) (L:List Pu) (es:List X4) (la:List X6),(∀ x∈xs,chk x=0/\x.length<=60)->Xb7 q.Window L es->Xxa q.Window (L++Xhu q k xs)->es.length+960*xs.length<=3900->la.length+60*xs.length<=10000->(∀ j,j<xs.length->X6i q ((k+j:Nat):Int)=0\/X6i q ((k+j:Nat):Int)=1) ->
  ∃ es',X2c q Y xs k es la=some (.x0 es' (la++Xhw xs))/\Xb7 q.Window (L++Xhu q k xs) es'/\es'.length<=es.length+960*xs.length
 |[],k,L,es,la,_,hc,_,_,_,_=>⟨es,by simp[X2c,Xhw],by simpa[Xhu] using hc,by simp⟩
 |x::xs,k,L,es,la,hx,hc,ho,hn,hla,hsd=>by
  simp only[List.length_cons] at hn hla hsd;obtain⟨hx1,hx2⟩:=hx x List.mem_cons_self;have hr:=Xlq x;have hl:=Xp3 x;rw[Xhu,<-List.append_assoc] at ho ⊢;have ho1:Xxa q.Window (L++Xyd q (X6i q (k:Int)) (Xck x)):=⟨λp hp=>ho.time p (List.mem_append_left _ hp),λp hp=>ho.side p (List.mem_append_left _ hp),by have:=ho.len;grind⟩;have hs0:X6i q (k:Int)=0\/X6i q (k:Int)=1:=by grind
  obtain⟨es1,g1,g2,g3⟩:=Xr6 h (la++Xmw x) (k:Int) Y (Y.length:Int) (k:Int) (Xck x) hs0 (Xck x) 0 L es hc ho1 om;obtain⟨es',h1,h2,h3⟩:=Xz0 h Y xs (k+1) _ es1 (la++Xmw x) (λy hy=>hx y (List.mem_cons_of_mem _ hy)) g2 ho om (by grind) (λj hj=>by grind);refine⟨es',?_,h2,by grind⟩;rw[X2c,Xmv,Yo];simp only[hx1,bne_self_eq_false,cond_false];rw[show la++Xhw (x::xs)=la++Xmw x++Xhw xs by unfold Xhw;simp,<-h1]
  cases hle:(Xmw x).isEmpty with
  |true =>
   rw[cond_true,X22 om,Yo,g1];rfl
  |false =>
   rw[cond_false,X2u (by grind),Yo,X22 om,Yo,g1];rfl
theorem Xl5 {q:X00} (h1:1<=q.Agg) (h2:q.Agg<=4) {e:X4} (he:okE e):X9d q e=some (if live q e then (rowE q e,true) else (⟨0,⟨0,0⟩,⟨0,0⟩⟩,false)):=by
 obtain⟨_,_,_,a0,a1,_⟩:=he;unfold X9d live rowE;rw[Xd4 h1 h2 a0,Xd4 h1 h2 a1]
 grind
theorem Xr5 {q:X00} (h1:1<=q.Agg) (h2:q.Agg<=4) (la:List X6) (E:List X4):∀ (xs:List X4) (k:Nat) (rows:List X1z),(∀ e∈xs,okE e)->rows.length+xs.length<=10000->X2w q la E xs k rows=some (.x0 la (rows++Xe7 q xs))
 |[],k,rows,_,_=>by simp[X2w,Xe7]
 |x::xs,k,rows,ho,hn=>by
  simp only[List.length_cons] at hn;rw[X2w,Xl5 h1 h2 (ho x List.mem_cons_self),Yo];unfold Xe7;rw[List.filter_cons]
  cases hl:live q x with
  |false =>
   simp only[Bool.false_eq_true,if_false,cond_false,Yo];exact Xr5 h1 h2 la E xs (k+1) rows (λe he=>ho e (List.mem_cons_of_mem _ he)) om
  |true =>
   simp only[if_true,cond_true];rw[X2u (by rw[List.length_append,List.length_singleton];omega)];simp only[Yo];rw[Xr5 h1 h2 la E xs (k+1) _ (λe he=>ho e (List.mem_cons_of_mem _ he)) (by rw[List.length_append,List.length_singleton];omega)];simp[Xe7]
structure RI (q:X00) (l:List (List Xq)):Prop where
 rq:RQ q
 len:l.length=q.Sources.length
 ev:∀ x∈l,chk x=0/\x.length<=60
theorem Xop {late:Bool}:∀ (l:List Xq) (m:Int),(∀ x∈l,Xux x=true)->∀ r∈Xta late m l,okT r.Time
 |[],_,_,r,hr=>by trivial
 |x::l,m,h,r,hr=>by
  have ih:=Xop (late:=late) l (Xr3 m x) (λy hy=>h y (List.mem_cons_of_mem _ hy)) r;unfold Xta at hr;split at hr
  ·rename_i hc;rcases List.mem_cons.1 hr with rfl|hr
   ·have hm:x.Mark=false:=by
     cases hm:x.Mark with
     |false=>rfl
     |true=>simp[hm] at hc
    have:=h x List.mem_cons_self;unfold Xux Xcr at this;rw[hm] at this;simp at this;exact⟨this.2.1,this.2.2⟩
   ·exact ih hr
  ·exact ih hr
theorem Xjc {q:X00}:∀ (l:List (List Xq)) (k:Nat) (p:Pu),p∈Xhu q k l->∃ j x r,l[j]?=some x/\r∈Xck x/\Xex q r=true/\p=(Xqo q r,X6i q ((k+j:Nat):Int))
 |[],k,p,h=>by trivial
 |x::l,k,p,h=>by
  rw[Xhu] at h;rcases List.mem_append.1 h with h|h
  ·unfold Xyd at h;obtain⟨r,hr,rfl⟩:=List.mem_map.1 h;rw[List.mem_filter] at hr;exact⟨0,x,r,rfl,hr.1,hr.2,rfl⟩
  ·obtain⟨j,y,r,h1,h2,h3,h4⟩:=Xjc l (k+1) p h;exact⟨j+1,y,r,by simpa using h1,h2,h3,by rw[show k+(j+1)=k+1+j by omega];exact h4⟩
theorem Xot {q:X00}:∀ (l:List (List Xq)) (k:Nat),(∀ x∈l,x.length<=60)->(Xhu q k l).length<=60*l.length
 |[],k,_=>by simp[Xhu]
 |x::l,k,h=>by
  rw[Xhu,List.length_append,List.length_cons];have h1:=X037 q (X6i q (k:Int)) (Xck x);have h2:=Xlq x;have h3:=h x List.mem_cons_self;have h4:=Xot (q:=q) l (k+1) λy hy=>h y (List.mem_cons_of_mem _ hy);omega
theorem RI.ok {q:X00} {l:List (List Xq)} (h:RI q l):Xxa q.Window (Xhu q 0 l):=by
 have hs:=h.rq.src;refine⟨λp hp=>?_,λp hp=>?_,?_⟩
 ·obtain⟨j,x,r,h1,h2,h3,rfl⟩:=Xjc l 0 p hp;have hx:=h.ev x (Yg h1);unfold Xck at h2;rw[if_pos hx.1] at h2;exact Xop x Xtm (X00z.1 hx.1).2 r h2
 ·obtain⟨j,x,r,h1,h2,h3,rfl⟩:=Xjc l 0 p hp;have:=(Ys.1 h1).1;show X6i q _=0\/X6i q _=1;unfold X6i;split
  ·rename_i hj;have:=hs.2.2 hj;have:=h.len;omega
  grind
 ·have:=Xot (q:=q) l 0 λx hx=>(h.ev x hx).2;have:=h.len;omega
theorem Xl6 {q:X00} {l:List (List Xq)} (h:RI q l):∃ es,Xb7 q.Window (Xhu q 0 l) es/\es.length<=3900/\X5v q l=some (Xe7 q es,if q.Late=2 then Xhw l else [],0):=by
 have hs:=h.rq.src;have hf:=h.rq.facts;have hlen:=h.len;have hok:=h.ok
 obtain⟨es,h1,h2,h3⟩:=Xz0 h.rq l l 0 [] [] [] h.ev (X016 hf.2.2.2.2.1.1) (by grind) (by simp;omega) (by simp;omega) (λj hj=>by
  grind [X6i])
 simp only[List.nil_append,List.length_nil,Nat.zero_add] at h1 h2 h3;refine⟨es,h2,by omega,?_⟩;unfold X5v;rw[Xkg h.rq.w,Yo];rw[h.rq.ok];simp only[bne_self_eq_false,cond_false];rw[show((l.length:Int) != (q.Sources.length:Int))=false by grind,cond_false,Xgp om,Xek.2 λx hx=>(h.ev x hx).1];simp only[Yo,bne_self_eq_false,cond_false];rw[X22 om,Yo,h1,Yo];simp only;rw[X22 om,Yo,Xr5 hf.1.1 hf.1.2.1 _ _ es 0 [] (Xg4 hf.2.2.2.2.1 hok h2) (by simp;omega)]
 grind
end Go.D


namespace Go.D
theorem Xkc (x y:X1z):Xik x y=decide (x=y):=by
 obtain⟨a,⟨b,c⟩,⟨d,e⟩⟩:=x;obtain⟨a',⟨b',c'⟩,⟨d',e'⟩⟩:=y;rw[Bool.eq_iff_iff];simp[Xik,Xpn,Xpm,and_assoc]
def Xe0 (m:Int) (rows:List X1z):List X1z:=rows.filter λr=>decide (r.Span.End<=m)
theorem Xuq (q:X00) (es:List X4):(Xe7 q es).length<=es.length:=by
 unfold Xe7;rw[List.length_map];exact List.length_filter_le _ _
def X05z (q:X00) (l:List (List Xq)):List X6:=if q.Late=2 then Xhw l else []
theorem Xl1 (q:X00):∃ b,X97 q=some b:=by
 unfold X97 X99;simp only[Yo];cases decide ((q.Arg.length:Int)>70)<;>cases decide ((q.Where.length:Int)>70)<;>exact⟨_,rfl⟩
end Go.D


namespace Go.D
def leC (a b:List Int):Bool:=!(decide (Xde b a<0))
theorem Xfn {w:Nat} {a b c:List Int} (ha:a.length=w) (hb:b.length=w) (hc:c.length=w) (h1:leC a b=true) (h2:leC b c=true):leC a c=true:=by
 unfold leC at *;simp only[Bool.not_eq_true',decide_eq_false_iff_not] at *;intro h;by_cases h3:Xde a b<0
 ·exact h2 (Xdd c a b om om h h3)
 ·have:=Xfl a b om h3 h1;rw[this] at h;exact h2 h
theorem Xjq {a b:List Int}:(leC a b||leC b a)=true:=by
 unfold leC;by_cases h:Xde b a<0
 ·have:=Xoz b a h;simp[h,this]
 ·simp[h]
theorem Xz6 {a b:List Int} (h:a.length=b.length) (h1:leC a b=true) (h2:leC b a=true):a=b:=by
 unfold leC at *
 grind [Bool.not_eq_true',decide_eq_false_iff_not,Xfl]
theorem Xtn (a b:List Int) (hl:a.length=b.length):∀ (xs:List Int) (k:Nat),a.drop k=xs->∃ o,X3r a b xs k=some o/\(match o with|.x0=>false|.x1 v=>v)=decide (Xde xs (b.drop k)<0)
 |[],k,h=>⟨.x0,rfl,by simp[Xde]⟩
 |x::xs,k,h=>by
  have hk:k<a.length:=by
   have:=congrArg List.length h
   grind
  have hd:a.drop (k+1)=xs:=by
   have:=congrArg List.tail h;simpa using this
  have hb:b.drop k=b[k]' om::b.drop (k+1):=List.drop_eq_getElem_cons om;rw[X3r,X40,Ye (show k<b.length by omega),Yo,hb,Xde];by_cases h1:x=b[k]' om
  ·simp_all [Xtn,cond_false,if_neg]
  ·refine⟨.x1 (decide (x<b[k]' om)),by grind,?_⟩
   grind
theorem X03l {a b:List Int} (hl:a.length=b.length) (h:a.length<=100):X8z a b=some (decide (Xde a b<0)):=by
 unfold X8z;obtain⟨o,h1,h2⟩:=Xtn a b hl a 0 rfl
 grind [X22]
def leN (N:List (List Int)) (i j:Nat):Bool:=leC (N.getD i []) (N.getD j [])
theorem getD_some {α:Type} {l:List α} {i:Nat} {d:α} (h:i<l.length):l[i]?=some (l.getD i d):=by
 grind
theorem Xti {α:Type} (f:α->α->Bool) (l:List α):[].merge l f=l:=by simp
theorem X03k {w:Nat} (N:List (List Int)) (hN:∀ x∈N,x.length=w) (hw:w<=100) (a b:List Nat) (ha:∀ x∈a,x<N.length) (hb:∀ x∈b,x<N.length) (hab:a.length+b.length<=10000) :
  ∀ (m n i k:Nat) (out:List Int),m=(a.length - i)+(b.length - k)->m<n->i<=a.length->k<=b.length->out.length+m<=10000 ->
   X2a N (a.map Int.ofNat) (b.map Int.ofNat) n out (i:Int) (k:Int)=some (.x0 (out++((a.drop i).merge (b.drop k) (leN N)).map Int.ofNat)):=by
 have hA:∀ i (h:i<a.length),X18 (a.map Int.ofNat) (i:Int)=some (a[i]:Int):=λi h=>by rw[X40];simp[h]
 have hB:∀ i (h:i<b.length),X18 (b.map Int.ofNat) (i:Int)=some (b[i]:Int):=λi h=>by rw[X40];simp[h]
 have hK:∀ j,j<N.length->X18 N (j:Int)=some (N.getD j [])/\(N.getD j []).length=w:=λj h=>by
  grind [X40,getD_some,Ye,List.getElem_mem]
 have ew:∀ j:Nat,j<=10000->IntKind.i64.wrap ((j:Int)+1)=((j+1:Nat):Int):=λj h=>by grind [X0q]
 intro m
 induction m with
 |zero =>
  intro n i k out hm hn hi hk ho;obtain⟨n,rfl⟩:∃ q,n=q+1:=⟨n - 1,by omega⟩;obtain rfl:i=a.length:=by omega
  obtain rfl:k=b.length:=by omega
  rw[X2a];simp
 |succ m ih =>
  intro n i k out hm hn hi hk ho;obtain⟨n,rfl⟩:∃ q,n=q+1:=⟨n - 1,by omega⟩;rw[X2a];simp only[List.length_map];have hc:(bif decide ((i:Int)<(a.length:Int)) then true else decide ((k:Int)<(b.length:Int)))=true:=by
   grind
  rw[hc,cond_true];by_cases hkb:k=b.length
  ·subst hkb;have hia:i<a.length:=by omega
   simp only[beq_self_eq_true,cond_true,Yo];rw[hA i hia,Yo,X2u (by simp;omega),Yo,ew i om];rw[ih n (i+1) b.length _ om om om om (by simp;omega)]
   grind [List.drop_length,List.merge_right,List.drop_eq_getElem_cons,List.append_assoc]
  ·have hkb':k<b.length:=by omega
   rw[show((k:Int)==(b.length:Int))=false by simp;omega];simp only[cond_false];have hdb:b.drop k=b[k]::b.drop (k+1):=List.drop_eq_getElem_cons hkb';by_cases hia:i<a.length
   ·have hda:a.drop i=a[i]::a.drop (i+1):=List.drop_eq_getElem_cons hia;rw[Yt (show(i:Int)<(a.length:Int) by omega)];obtain⟨k1,k2⟩:=hK b[k] (hb _ (List.getElem_mem hkb'));obtain⟨k3,k4⟩:=hK a[i] (ha _ (List.getElem_mem hia));simp only[cond_true];rw[hB k hkb',Yo,k1,Yo,hA i hia,Yo,k3,Yo,X03l (by rw[k2,k4]) om];simp only[Yo];rw[hda,hdb,List.cons_merge_cons];have hle:leN N a[i] b[k]=!(decide (Xde (N.getD b[k] []) (N.getD a[i] [])<0)):=rfl;rw[<-hle]
    cases hl:leN N a[i] b[k] with
    |true =>
     rw[cond_true,if_pos rfl,X2u (by simp;omega),Yo,ew i om,ih n (i+1) k _ om om om om (by simp;omega),hdb];simp
    |false =>
     rw[cond_false,if_neg (by simp),X2u (by simp;omega),Yo,ew k om,ih n i (k+1) _ om om om om (by simp;omega),hda];simp
   ·rw[Yf (show ¬ (i:Int)<(a.length:Int) by omega)];simp only[cond_false,Yo];obtain rfl:i=a.length:=by omega
    rw[hB k hkb',Yo,X2u (by simp;omega),Yo,ew k om,ih n a.length (k+1) _ om om om om (by simp;omega)];rw[List.drop_length,Xti,Xti,hdb,List.map_cons,List.append_assoc];rfl
theorem Xi8 {w:Nat} (N:List (List Int)) (hN:∀ x∈N,x.length=w) (hw:w<=100) (hlen:N.length<=10000):∀ (n a b:Nat),b - a<n->a<=b->b<=N.length ->
  ∃ P:List Nat,X3q n N (a:Int) (b:Int)=some (P.map Int.ofNat)/\P.Perm (List.range' a (b - a))/\P.Pairwise (λi j=>leN N i j=true)
 |0,a,b,h,_,_=>absurd h om
 |n+1,a,b,h,hab,hb=>by
  rw[X3q,X0q (z:=(b:Int) - a) om om];by_cases h2:b - a<2
  ·rw[Yt om,cond_true];by_cases h3:a<b
   ·rw[Yt om,cond_true];exact⟨[a],rfl,by grind,List.pairwise_singleton _ _⟩
   simp_all [Yf,cond_false]
  ·rw[Yf om,cond_false];have hm:IntKind.i64.wrap (Int.tdiv (IntKind.i64.wrap ((a:Int)+b)) 2)=(((a+b) / 2:Nat):Int):=by
    grind [X0q,Int.tdiv]
   rw[hm];obtain⟨P,p1,p2,p3⟩:=Xi8 N hN hw hlen n a ((a+b) / 2) om om om;obtain⟨Q,q1,q2,q3⟩:=Xi8 N hN hw hlen n ((a+b) / 2) b om om om;have pl:P.length=(a+b) / 2 - a:=by rw[p2.length_eq];simp
   have ql:Q.length=b - (a+b) / 2:=by rw[q2.length_eq];simp
   have pm:∀ x∈P,x<N.length:=λx hx=>by
    grind
   have qm:∀ x∈Q,x<N.length:=λx hx=>by
    grind
   have hml:=X03k N hN hw P Q pm qm om (P.length+Q.length) FU 0 0 [] om (by unfold FU;omega) om om (by simp;omega);rw[p1,Yo,q1,Yo];have hml':X2a N (P.map Int.ofNat) (Q.map Int.ofNat) FU [] 0 0=_:=hml;rw[hml',Yo];refine⟨P.merge Q (leN N),by simp,?_,?_⟩
   ·refine(List.merge_perm_append (leN N)).trans ((p2.append q2).trans ?_);rw[show b - a=((a+b) / 2 - a)+(b - (a+b) / 2) by omega,<-List.range'_append_1,show a+((a+b) / 2 - a)=(a+b) / 2 by omega]
   ·have hmem:∀ x∈P.merge Q (leN N),x<N.length:=λx hx=>by
     grind [List.merge_perm_append]
    have key:∀ (xs ys:List Nat),(∀ x∈xs,x<N.length)->(∀ x∈ys,x<N.length)->xs.Pairwise (λi j=>leN N i j=true)->ys.Pairwise (λi j=>leN N i j=true)->(xs.merge ys (leN N)).Pairwise (λi j=>leN N i j=true):=by
     have hKl:∀ j,j<N.length->(N.getD j []).length=w:=λj h=>by
      grind
     intro xs ys
     induction xs generalizing ys with
     |nil=>simp_all
     |cons x xs ihx =>
      intro hx hy h1 h2
      induction ys with
      |nil=>simp_all
      |cons y ys ihy =>
       rw[List.cons_merge_cons];have hxx:=hx x List.mem_cons_self;have hyy:=hy y List.mem_cons_self;split
       ·rename_i hle;refine List.pairwise_cons.2 ⟨λz hz=>?_,ihx (y::ys) (λq hq=>hx q (List.mem_cons_of_mem _ hq)) hy (List.pairwise_cons.1 h1).2 h2⟩;rcases List.mem_append.1 ((List.merge_perm_append (leN N)).mem_iff.1 hz) with hz|hz
        ·simp_all
        ·rcases List.mem_cons.1 hz with rfl|hz
         ·exact hle
         ·exact Xfn (hKl x hxx) (hKl y hyy) (hKl z (hy z (List.mem_cons_of_mem _ hz))) hle ((List.pairwise_cons.1 h2).1 z hz)
       ·rename_i hle;have hyx:leN N y x=true:=by
         have:=Xjq (a:=N.getD x []) (b:=N.getD y []);rw[show leC (N.getD x []) (N.getD y [])=false by simpa[leN] using hle] at this;assumption
        refine List.pairwise_cons.2 ⟨λz hz=>?_,ihy (λq hq=>hy q (List.mem_cons_of_mem _ hq)) (List.pairwise_cons.1 h2).2⟩;rcases List.mem_append.1 ((List.merge_perm_append (leN N)).mem_iff.1 hz) with hz|hz
        ·rcases List.mem_cons.1 hz with rfl|hz
         ·exact hyx
         ·exact Xfn (hKl y hyy) (hKl x hxx) (hKl z (hx z (List.mem_cons_of_mem _ hz))) hyx ((List.pairwise_cons.1 h1).1 z hz)
        simp_all
    simp_all
theorem Xj0 {α:Type} [Inhabited α] {w:Nat} {c:α->α->Option Int} (K:α->List Int) (hK:∀ x,(K x).length=w) (hinj:∀ x y,K x=K y->x=y) (hc:∀ x y,c x y=some (Xde (K x) (K y))) (l:List α) {P:List Nat}
  (h1:P.Perm (List.range' 0 l.length)) (h2:P.Pairwise (λi j=>leN (l.map K) i j=true)):P.map (λi=>l.getD i default)=X6b c l:=by
 have hle:∀ x y,(!(decide ((c y x).getD 0<0)))=leC (K x) (K y):=λx y=>by rw[hc];rfl
 have hs:X6b c l=l.mergeSort λx y=>leC (K x) (K y):=by
  grind [X6b]
 have hmem:∀ i∈P,i<l.length:=λi hi=>by
  grind
 have hget:∀ i,i<l.length->(l.map K).getD i []=K (l.getD i default):=λi hi=>by
  grind
 rw[hs];refine List.Perm.eq_of_pairwise (le:=λx y=>leC (K x) (K y)=true) (λa b _ _ g1 g2=>hinj a b (Xz6 (by rw[hK,hK]) g1 g2)) ?_ ?_ ?_
 ·rw[List.pairwise_map];refine h2.imp_of_mem λ{i j} hi hj h=>?_;unfold leN at h
  grind
 ·exact List.pairwise_mergeSort (λa b d g1 g2=>Xfn (hK a) (hK b) (hK d) g1 g2) (λa b=>Xjq) l
 ·refine(h1.map _).trans (List.Perm.trans ?_ (List.mergeSort_perm _ _).symm);have:(List.range' 0 l.length).map (λi=>l.getD i default)=l:=by
   apply List.ext_getElem?
   grind
  rw[this]
theorem Xoh (Y:List X1z):∀ (xs:List X1z) (k:Nat) (o:List (List Int)),o.length+xs.length<=10000->X2g Y xs k o=some (.x0 (o++xs.map X2q))
 |[],k,o,_=>by simp[X2g]
 |x::xs,k,o,h=>by
  simp only[List.length_cons] at h;rw[X2g,show Xf9 x=some (X2q x) from rfl,Yo,X2u (by simp;omega),Yo,Xoh Y xs (k+1) _ (by simp;omega)];simp
theorem Xog (l:List X1z) (Y:List Int):∀ (P:List Nat) (k:Nat) (o:List X1z),(∀ i∈P,i<l.length)->o.length+P.length<=10000->X2f l Y (P.map Int.ofNat) k o=some (.x0 (o++P.map (λi=>l.getD i default)))
 |[],k,o,_,_=>by simp[X2f]
 |i::P,k,o,h,hn=>by
  simp only[List.length_cons] at hn;rw[List.map_cons,X2f,show X18 l (Int.ofNat i)=l[i]? from X40 l i,getD_some (d:=default) (h i List.mem_cons_self),Yo,X2u (by simp;omega),Yo,Xog l Y P (k+1) _ (λj hj=>h j (List.mem_cons_of_mem _ hj)) (by simp;omega)];simp
theorem Xjb {l:List X1z} (hl:l.length<=4500):X7w l=some (X6b Xp l):=by
 unfold X7w;rw[X22 om,Yo,Xoh l l 0 [] (by simp;omega)];simp only[Yo,List.nil_append];obtain⟨P,p1,p2,p3⟩:=Xi8 (w:=5) (l.map X2q) (λx hx=>by obtain⟨y,_,rfl⟩:=List.mem_map.1 hx;rfl) om (by simp;omega) FU 0 (l.map X2q).length (by simp;unfold FU;omega) om om;have p1':X3q FU (l.map X2q) 0 ((l.map X2q).length:Int)=_:=p1;rw[p1',Yo];rw[Nat.sub_zero,List.length_map] at p2;have pl:P.length=l.length:=by rw[p2.length_eq];simp
 rw[X22 (by simp;omega),Yo,Xog l _ P 0 [] (λi hi=>by grind) (by simp;omega)];simp only[Yo,List.nil_append]
 rw[Xj0 X2q (w:=5) (λ_=>rfl) (λx y h=>by
  obtain⟨k1,⟨a1,b1⟩,⟨c1,d1⟩⟩:=x
  simp_all [X2q,List.cons.injEq,and_true]) Xja l p2 p3]
theorem Xp5 (Y:List X6):∀ (xs:List X6) (k:Nat) (o:List (List Int)),o.length+xs.length<=10000->X3i Y xs k o=some (.x0 (o++xs.map Xc6))
 |[],k,o,_=>by simp[X3i]
 |x::xs,k,o,h=>by
  simp only[List.length_cons] at h;rw[X3i,show X9t x=some (Xc6 x) from rfl,Yo,X2u (by simp;omega),Yo,Xp5 Y xs (k+1) _ (by simp;omega)];simp
theorem Xp4 (l:List X6) (Y:List Int):∀ (P:List Nat) (k:Nat) (o:List X6),(∀ i∈P,i<l.length)->o.length+P.length<=10000->X3h l Y (P.map Int.ofNat) k o=some (.x0 (o++P.map (λi=>l.getD i default)))
 |[],k,o,_,_=>by simp[X3h]
 |i::P,k,o,h,hn=>by
  simp only[List.length_cons] at hn;rw[List.map_cons,X3h,show X18 l (Int.ofNat i)=l[i]? from X40 l i,getD_some (d:=default) (h i List.mem_cons_self),Yo,X2u (by simp;omega),Yo,Xp4 l Y P (k+1) _ (λj hj=>h j (List.mem_cons_of_mem _ hj)) (by simp;omega)];simp
theorem Xmn {l:List X6} (hl:l.length<=4000):Xav l=some (X6b X26 l,0):=by
 unfold Xav;rw[Yf om,cond_false,X22 om,Yo,Xp5 l l 0 [] (by simp;omega)];simp only[Yo,List.nil_append];obtain⟨P,p1,p2,p3⟩:=Xi8 (w:=3) (l.map Xc6) (λx hx=>by obtain⟨y,_,rfl⟩:=List.mem_map.1 hx;rfl) om (by simp;omega) FU 0 (l.map Xc6).length (by simp;unfold FU;omega) om om;have p1':X3q FU (l.map Xc6) 0 ((l.map Xc6).length:Int)=_:=p1;rw[p1',Yo];rw[Nat.sub_zero,List.length_map] at p2;have pl:P.length=l.length:=by rw[p2.length_eq];simp
 rw[X22 (by simp;omega),Yo,Xp4 l _ P 0 [] (λi hi=>by grind) (by simp;omega)];simp only[Yo,List.nil_append]
 rw[Xj0 Xc6 (w:=3) (λ_=>rfl) (λx y h=>by
  obtain⟨k1,a1,b1⟩:=x
  simp_all [Xc6,List.cons.injEq,and_true]) Xoq l p2 p3]
theorem Xxo {α:Type} {c:α->α->Option Int} {l:List α} (h:l.length<=10000):Xmj c l=some (X6b c l):=by unfold Xmj;grind
theorem Xok {l:List X1z} (h:l.length<=4000):Xch l=some (X6b Xp l,0):=by
 unfold Xch;rw[Yf om,cond_false,X2u om]
 grind [bind,Xxo]
theorem Xol {l:List X6} (h:l.length<=4000):Xci l=some (X6b X26 l,0):=by
 unfold Xci X1h;rw[Yf om,cond_false,X2u om]
 grind [bind,Xxo]
end Go.D


namespace Go.D
theorem X05e {z:Int} (h:wfI .u8 z):0<=z:=by
 have h:=h;simp only[wfI,Lit.wf,IntKind.bits,IntKind.signed] at h;simp at h;have e1:IntKind.u8.min=0:=by decide
 omega
theorem X06p {z:Int} (h:wfI .i64 z):z<=9223372036854775807 /\ -9223372036854775808<=z:=by
 have h:=h;simp only[wfI,Lit.wf,IntKind.bits,IntKind.signed] at h;simp at h;have e1:IntKind.i64.min = -9223372036854775808:=by decide
 grind
theorem X0fb {q:X00} (w:Xiv q):QW q:=by
 obtain⟨_,⟨_,h1⟩,_,_,⟨_,h2⟩,h3,_⟩:=w;exact⟨λx hx=>X05e (h1 x hx).1,λx hx=>X05e (h2 x hx).1,X06p h3.2.2⟩
end Go.D


namespace Go.D
theorem Xje (t:Int) (o0:Xr) (o9 o3:List X6) (Y:List X1z):∀ (xs:List X1z) (k:Nat) (o:List X1z),o.length+xs.length<=10000->X1q t o0 o9 o3 Y xs k o=some (.x0 (o++Xe0 t xs) o3)
 |[],k,o,_=>by simp[X1q,Xe0]
 |x::xs,k,o,hn=>by
  simp only[List.length_cons] at hn;rw[X1q];unfold Xe0;rw[List.filter_cons];by_cases h:x.Span.End<=t
  ·rw[Yt h,cond_true,X2u (by rw[List.length_append,List.length_singleton];omega)];simp only[Yo,if_true];rw[Xje t o0 o9 o3 Y xs (k+1) _ (by rw[List.length_append,List.length_singleton];omega)];simp[Xe0]
  ·rw[Yf h,cond_false];simp only[Yo,Bool.false_eq_true,if_false];exact Xje t o0 o9 o3 Y xs (k+1) o om
theorem Xj6 (a:List X1z):∀ (xs:List X1z) (k:Nat),a.drop k=xs->X27 a a xs k=some .x0
 |[],k,_=>rfl
 |x::xs,k,h=>by
  have hkx:a[k]?=some x:=by
   have:=congrArg (λz=>z[0]?) h;simpa using this
  have hd:a.drop (k+1)=xs:=by
   have:=congrArg List.tail h;simpa using this
  rw[X27,X40,hkx,Yo,Xkc,Yt rfl];exact Xj6 a xs (k+1) hd
theorem Xe4 (a:List X6):∀ (xs:List X6) (k:Nat),a.drop k=xs->X1f a a xs k=some .x0
 |[],k,_=>rfl
 |x::xs,k,h=>by
  have hkx:a[k]?=some x:=by
   have:=congrArg (λz=>z[0]?) h;simpa using this
  have hd:a.drop (k+1)=xs:=by
   have:=congrArg List.tail h;simpa using this
  rw[X1f,X40,hkx,Yo,Xai,Yt rfl];exact Xe4 a xs (k+1) hd
theorem Xwk {a:Xr} (h1:a.Rows.length<=10000) (h2:a.Late.length<=10000):X8x a a=some true:=by
 unfold X8x X7n X57;rw[bne_self_eq_false,cond_false,X22 om,Yo,Xj6 a.Rows a.Rows 0 rfl,bne_self_eq_false,cond_false,X22 om,Yo,Xe4 a.Late a.Late 0 rfl];rfl
theorem Xm3 (Y:List (List Xq)):∀ (xs:List (List Xq)) (k:Nat),∃ o,X3o Y xs k=some o
 |[],k=>⟨_,rfl⟩
 |x::xs,k=>by
  rw[X3o]
  cases decide ((x.length:Int)>70) with
  |true=>exact⟨_,rfl⟩
  |false=>exact Xm3 Y xs (k+1)
theorem Xkv (q:X00) (l:List (List Xq)):∃ b,X8y q l=some b/\(b=false->l.length<=6):=by
 obtain⟨g,hg⟩:=Xl1 q;unfold X8y;rw[hg,Yo]
 cases g with
 |true=>exact⟨true,rfl,λh=>by cases h⟩
 |false =>
  by_cases h6:l.length>6
  ·rw[Yt om];exact⟨true,rfl,λh=>by cases h⟩
  ·rw[Yf om];simp only[cond_false];rw[X22 om,Yo];obtain⟨o,ho⟩:=Xm3 l l 0;rw[ho,Yo]
   cases o with
   |x0=>exact⟨false,rfl,λ_=>by omega⟩
   |x1=>exact⟨true,rfl,λh=>by cases h⟩
theorem Xu9 (Y:List (List Xq)) (a b:Int):∀ (xs:List (List Xq)) (k:Nat),∃ o,X3p Y a b xs k=some o/\(match o with|.x0=>(0:Int)|.x1 z=>z)=Xe1 xs
 |[],k=>⟨_,rfl,rfl⟩
 |x::xs,k=>by
  rw[X3p,Xkx,Yo];unfold Xe1;by_cases h:chk x=0
  ·rw[h];simp only[bne_self_eq_false,cond_false];obtain⟨o,ho,h2⟩:=Xu9 Y a b xs (k+1);exact⟨o,ho,by rw[h2];simp⟩
  ·rw[Xlf h];exact⟨_,rfl,by simp[h]⟩
theorem Xp1 {q:X00} (hq:QW q) (l:List (List Xq)):∃ b,Xcn q l 1 1=some b/\(b=true->RI q l):=by
 unfold Xcn;obtain⟨b,hb,hb2⟩:=Xkv q l;rw[hb,Yo]
 cases b with
 |true=>exact⟨false,rfl,λh=>by cases h⟩
 |false =>
  have h6:=hb2 rfl;unfold Xbe;rw[Xl0 hq];simp only[Bool.not_false,cond_true,Yo];by_cases hz:(qChk q).2=0
  ·rw[hz];simp only[bne_self_eq_false,cond_false];by_cases hlen:l.length=q.Sources.length
   ·rw[show((l.length:Int) != (q.Sources.length:Int))=false by rw[hlen];simp,cond_false,X22 om,Yo];obtain⟨o,ho,h2⟩:=Xu9 l 1 1 l 0;rw[ho,Yo]
    cases o with
    |x0 =>
     refine⟨true,rfl,λ_=>?_⟩;have hev:=Xek.1 h2.symm;exact⟨⟨hq,hz⟩,hlen,λx hxm=>⟨hev x hxm,(X00z.1 (hev x hxm)).1⟩⟩
    |x1 z =>
     refine⟨z==0,rfl,λhz0=>?_⟩;have hw:Xe1 l=0:=by rw[<-h2];simpa using hz0
     have hev:=Xek.1 hw;exact⟨⟨hq,hz⟩,hlen,λx hxm=>⟨hev x hxm,(X00z.1 (hev x hxm)).1⟩⟩
   ·rw[show((l.length:Int) != (q.Sources.length:Int))=true by simp;omega];exact⟨false,rfl,λh=>by cases h⟩
  ·rw[Xlf hz];simp only[cond_true,Yo];exact⟨false,by rw[show((qChk q).2==0)=false by simp[hz]],λh=>by cases h⟩
theorem Xvm {q:X00} {l:List (List Xq)} (h:RI q l):(X05z q l).length<=4000:=by
 have hs:=h.rq.src;have hlen:=h.len;have key:∀ (m:List (List Xq)),(∀ x∈m,x.length<=60)->(Xhw m).length<=60*m.length:=by
  intro m
  induction m with
  |nil=>intro _;simp[Xhw]
  |cons x m ih =>
   intro hx;have h1:=hx x List.mem_cons_self;have h2:=ih λy hy=>hx y (List.mem_cons_of_mem _ hy);have h3:=Xp3 x;unfold Xhw at h2 ⊢;rw[List.map_cons,List.flatten_cons,List.length_append,List.length_cons];omega
 unfold X05z;split
 ·have:=key l λx hx=>(h.ev x hx).2;omega
 ·simp
abbrev sR:=X6b Xp
theorem Xxy (l:List X1z):(sR l).length=l.length:=List.length_mergeSort ..
theorem Xnr (t:Int) (l:List X1z):(Xe0 t l).length<=l.length:=List.length_filter_le _ _
theorem Xyf {q:X00} {l:List (List Xq)} {A:List X1z} {B:List X6} (h:X5v q l=some (A,B,0)) (n1:A.length<=4000) (n2:B.length<=4000) (t:Int) :
  X2v q l t=some (⟨sR (Xe0 t A),X6b X26 B⟩,0):=by
 have hel:=Xnr t A;unfold X2v;rw[h,Yo];simp only[bne_self_eq_false,cond_false];rw[X22 om,Yo,Xje t _ _ _ _ A 0 [] (by simp;omega),Yo];simp only[List.nil_append];rw[Xok om,Yo];simp only[bne_self_eq_false,cond_false];rw[Xol om,Yo];rfl
theorem X0f8:∀ x y,(!(decide ((Xp y x).getD 0<0)))=leC (X2q x) (X2q y):=λx y=>by rw[Xja];rfl
theorem Xvn {x y:X1z} (h:X2q x=X2q y):x=y:=by
 obtain⟨k1,⟨a1,b1⟩,⟨c1,d1⟩⟩:=x;obtain⟨k2,⟨a2,b2⟩,⟨c2,d2⟩⟩:=y;simp only[X2q,List.cons.injEq,and_true] at h;obtain⟨rfl,rfl,rfl,rfl,rfl⟩:=h;rfl
theorem Xxz (l:List X1z):sR l=l.mergeSort λx y=>leC (X2q x) (X2q y):=by
 show l.mergeSort (λx y=>!(decide ((Xp y x).getD 0<0)))=_;congr 1
 funext x y;exact X0f8 x y
theorem Xj7 (l:List X1z):(sR l).Pairwise λx y=>leC (X2q x) (X2q y)=true:=by
 rw[Xxz];exact List.pairwise_mergeSort (λa b d g1 g2=>Xfn (show(X2q a).length=5 from rfl) (show(X2q b).length=5 from rfl) (show(X2q d).length=5 from rfl) g1 g2) (λa b=>Xjq) l
theorem X00j (t:Int) (l:List X1z):sR (Xe0 t l)=Xe0 t (sR l):=by
 refine List.Perm.eq_of_pairwise (le:=λx y=>leC (X2q x) (X2q y)=true) (λa b _ _ g1 g2=>Xvn (Xz6 rfl g1 g2)) (Xj7 _) ((Xj7 l).filter _) ?_;rw[Xxz,Xxz];exact(List.mergeSort_perm _ _).trans ((List.mergeSort_perm _ _).filter _).symm
theorem Xz5 {x y:X1z} (h:leC (X2q x) (X2q y)=true):x.Span.End<=y.Span.End:=by
 unfold leC at h;simp only[X2q,Xde] at h;by_cases hlt:y.Span.End<x.Span.End
 ·rw[if_pos hlt] at h;simp at h
 ·omega
theorem Xzs (m:Int):∀ (B:List X1z),B.Pairwise (λx y=>leC (X2q x) (X2q y)=true)->∀ (k:Nat) (r:X1z),B[k]?=some r->(r.Span.End<=m↔k<(Xe0 m B).length)/\(k<(Xe0 m B).length->(Xe0 m B)[k]?=some r)
 |[],_,k,r,h=>by simp at h
 |x::B,hp,k,r,h=>by
  obtain⟨h1,h2⟩:=List.pairwise_cons.1 hp;by_cases hx:x.Span.End<=m
  ·have he:Xe0 m (x::B)=x::Xe0 m B:=by unfold Xe0;rw[List.filter_cons,if_pos (by simpa using hx)]
   rw[he]
   cases k with
   |zero=>cases h;simp[hx]
   |succ k =>
    have:=Xzs m B h2 k r (by simpa using h);simpa using this
  ·have he:Xe0 m (x::B)=[]:=by
    unfold Xe0;rw[List.filter_eq_nil_iff];intro y hy;rcases List.mem_cons.1 hy with rfl|hy
    ·simpa using hx
    ·have:=Xz5 (h1 y hy);simp;omega
   rw[he];refine⟨⟨λhr=>?_,λh=>by simp at h⟩,λh=>by simp at h⟩;rcases List.mem_cons.1 (Yg h) with rfl|hy
   ·exact absurd hr hx
   ·have:=Xz5 (h1 r hy);omega
theorem X00k {m n:Int} (h:m<=n) (l:List X1z):Xe0 m (Xe0 n l)=Xe0 m l:=by
 unfold Xe0;rw[List.filter_filter];congr 1
 funext x
 by_cases h1:x.Span.End<=m
 ·simp[h1];omega
 ·simp[h1]
theorem X03o {u t:Int} (v:Bool) (a b c d:Xr) (A:List X1z) (L:List X6) (hb:b.Rows.Pairwise (λx y=>leC (X2q x) (X2q y)=true)) (hl:b.Rows.length<=10000) (ha:a.Rows=Xe0 (if u<t then u else t) b.Rows) :
  ∀ (m n k:Nat),m=b.Rows.length - k->k<=b.Rows.length->m<n->X17 t u v a b A L c d n (k:Int)=some .x1:=by
 intro m
 induction m with
 |zero =>
  intro n k hm hk hn;obtain⟨n,rfl⟩:∃ q,n=q+1:=⟨n - 1,by omega⟩;rw[X17,Yf om,cond_false]
 |succ m ih =>
  intro n k hm hk hn;obtain⟨n,rfl⟩:∃ q,n=q+1:=⟨n - 1,by omega⟩;rw[X17,Yt om,cond_true,X40,Ye (show k<b.Rows.length by omega),Yo];obtain⟨h1,h2⟩:=Xzs (if u<t then u else t) b.Rows hb k _ (Ye (show k<b.Rows.length by omega));rw[<-ha] at h1 h2;have hw:IntKind.i64.wrap ((k:Int)+1)=((k+1:Nat):Int):=by rw[IntKind.wrap_i64];omega
  by_cases hka:k<a.Rows.length
  ·rw[Yt (h1.2 hka),Yt (show(k:Int)<(a.Rows.length:Int) by omega)];simp only[beq_self_eq_true,Bool.not_true,cond_false,cond_true];rw[X40,h2 hka,Yo,Xkc,Yt rfl];simp only[Bool.not_true,Yo,cond_false];rw[hw];exact ih n (k+1) om om om
  ·rw[Yf (λh=>hka (h1.1 h)),Yf (show ¬ (k:Int)<(a.Rows.length:Int) by omega)];simp only[beq_self_eq_true,Bool.not_true,cond_false,Yo];rw[hw];exact ih n (k+1) om om om
theorem X0a7 {A:List X1z} {B:List X6} (n1:A.length<=4000) (n2:B.length<=4000):Xau ⟨A,B⟩ ⟨[],[]⟩=some ⟨sR A,X6b X26 B⟩:=by
 have hs:X0m (Xr.mk (A++[]) (B++[]))=some ⟨sR A,X6b X26 B⟩:=by
  unfold X0m;simp only[List.append_nil];rw[Xmn n2,Yo,Xjb om];rfl
 have c1:X0x A.length 40=some ():=X2u om;have c2:X0x B.length 24=some ():=X2u om;have c3:X0x (A++[]).length 40=some ():=by rw[List.append_nil];exact c1
 have c4:X0x (B++[]).length 24=some ():=by rw[List.append_nil];exact c2
 unfold Xau;simp only[List.isEmpty_nil,cond_true,hs,c1,c2,c3,c4,Yo];cases List.isEmpty A<;>cases List.isEmpty B<;>rfl
theorem Xvl {q:X00} (hq:QW q) (l:List (List Xq)) (t u:Int):X3j q l t u=some true:=by
 unfold X3j;rw[show Xet=some true from rfl,Yo];obtain⟨b,hb,hb2⟩:=Xp1 hq l;rw[hb,Yo]
 cases b with
 |false=>rfl
 |true =>
  have hri:=hb2 rfl;obtain⟨es,hc,hes,hall⟩:=Xl6 hri;have hrl:=Xuq q es;have hll:(if q.Late=2 then Xhw l else []).length<=4000:=Xvm hri;generalize (if q.Late=2 then Xhw l else [])=B at hall hll;have hEnd:∀ r∈Xe7 q es,-1100585369600<r.Span.End/\r.Span.End<=1100585369600:=by
   intro r hr;unfold Xe7 at hr;obtain⟨e,he,rfl⟩:=List.mem_map.1 hr;have:=Xg4 hri.rq.facts.2.2.2.2.1 hri.ok hc e (List.mem_filter.1 he).1;obtain⟨g1,g2,g3,_⟩:=this;show -1100585369600<e.Span.End/\e.Span.End<=1100585369600;omega
  generalize Xe7 q es=A at hall hrl hEnd;have hp:=Xyf hall om hll;have hfin:Xe0 9223372036854775807 A=A:=by
   unfold Xe0;rw[List.filter_eq_self];intro r hr;have:=(hEnd r hr).2;simp;omega
  have hlow:Xe0 (-9223372036854775808) A=[]:=by
   unfold Xe0;rw[List.filter_eq_nil_iff];intro r hr;have:=(hEnd r hr).1;simp;omega
  have hmn:(if u<t then u else t)<=(if u>t then u else t):=by split<;>split<;>omega
  generalize hmx:(if u>t then u else t)=mx at hmn;rw[hp,hp,hp,hp,hall,hfin,hlow];simp only[Bool.not_true,cond_false,Yo,bne_self_eq_false];have ha:sR (Xe0 (if u<t then u else t) A)=Xe0 (if u<t then u else t) (sR (Xe0 mx A)):=by rw[X00j,X00j,X00k hmn]
  have hle:(sR (Xe0 (if u<t then u else t) A)).length<=(sR (Xe0 mx A)).length:=by rw[ha];exact Xnr _ _
  have h0:(sR ([]:List X1z)).length=0:=Xxy _;rw[Yf om,Yf (by rw[h0];omega),cond_false];have hlm:=Xnr mx A;have:=Xxy (Xe0 mx A);rw[show(0:Int)=((0:Nat):Int) from rfl,X03o true _ _ _ _ _ _ (Xj7 _) (by show(sR (Xe0 mx A)).length<=10000;omega) ha _ FU 0 rfl om (by show(sR (Xe0 mx A)).length - 0<FU;unfold FU;omega),Yo];simp only[cond_true];have hsl:(X6b X26 B).length=B.length:=List.length_mergeSort ..;rw[X0a7 om hll,Yo,Xwk (by show(sR A).length<=10000;rw[Xxy];omega) (by show(X6b _ B).length<=10000;omega),Yo];simp[hsl]
theorem Xcp (q:X00) (l:List (List Xq)) (t u:Int) (w0:Xiv q) {P2 P3 P:Prop} (_:P2) (_:P3) (_:P):X3j q l t u=some true:=Xvl (X0fb w0) l t u
end Go.D
