/- Parts of the proof, laid together. -/
import Derived.Test.YtnfamdbgcgjlaaaGreatDoorDFunR
set_option linter.all false

namespace Go.D
theorem Xv {z:Int} (h1 : -9223372036854775808<=z) (h2:z<=9223372036854775807):IntKind.i64.wrap z=z:=Go.IntWalk.i64_in z ⟨h1,h2⟩
theorem X2o {n:Nat} (h:n<=140737488355328):X6e n=some ():=by unfold X6e;rw[if_pos h]
theorem X2z {n b:Nat} (h:n*b<=140737488355328):X1c n b=some ():=by unfold X1c;rw[if_pos h]
theorem X2u {α:Type} (l:List α) (k:Nat):getI l (k:Int)=l[k]?:=by simp[getI]
theorem Xe8 (z:Int):IntKind.i64.wrap z=(z+9223372036854775808) % 18446744073709551616 - 9223372036854775808:=by
 have h:IntKind.i64.wrap z=if z % 18446744073709551616 >= 9223372036854775808 then z % 18446744073709551616 - 18446744073709551616 else z % 18446744073709551616:=by
  unfold IntKind.wrap;simp[IntKind.bits,IntKind.signed]
 rw[h];split<;>omega
def okW (w:Xk):Prop:=1<=w.Size/\w.Size<=1073741824/\((w.Kind=2/\1<=w.Every/\w.Every<=w.Size/\w.Size<=16*w.Every)\/((w.Kind=1\/w.Kind=3)/\w.Every=0))
theorem Xn6 {a b:Int} (h:¬ a=b):(a != b)=true:=by simp[h]
theorem lz {n:Nat} (h:0<n):((n:Int)==0)=false:=by simp;omega
theorem lz' {n:Nat} (h:¬ 0<n):((n:Int)==0)=true:=by simp;omega
theorem X8i {w:Xk} (h:okW w):X0x w=some 0:=by
 obtain⟨h1,h2,h3⟩:=h;have e1:decide (w.Size<1)=false:=by simp;omega
 have e2:decide (w.Size>1073741824)=false:=by simp;omega
 simp only[X0x,e1,e2,cond_false];rcases h3 with ⟨k,a1,a2,a3⟩|⟨k|k,a⟩
 ·have e3:(w.Kind==2)=true:=by simp[k]
  have e4:decide (w.Every >= 1)=true:=by simp;omega
  have e5:decide (w.Every<=w.Size)=true:=by simp;omega
  have e6:decide (w.Size<=IntKind.i64.wrap (16*w.Every))=true:=by rw[Xv om om];simp;omega
  simp only[e3,e4,e5,e6,cond_true]
 ·have e3:(w.Kind==2)=false:=by simp[k]
  have e4:(w.Kind==1)=true:=by simp[k]
  have e5:(w.Every==0)=true:=by simp[a]
  simp only[e3,e4,e5,cond_true,cond_false]
 ·have e3:(w.Kind==2)=false:=by simp[k]
  have e4:(w.Kind==1)=false:=by simp[k]
  have e6:(w.Kind==3)=true:=by simp[k]
  have e5:(w.Every==0)=true:=by simp[a]
  simp only[e3,e4,e5,e6,cond_true,cond_false]
end Go.D


namespace Go.D
theorem X7s (x y:X1):X1p x y=decide (x=y):=by
 obtain⟨a,b,c,d,e⟩:=x;obtain⟨f,g,h,i,j⟩:=y;rw[Bool.eq_iff_iff];simp[X1p,and_assoc]
theorem Xdw {α:Type} {l:List α} {k:Nat} (h:k<=l.length):X7m l 0 (k:Int)=some (l.take k):=by
 unfold X7m;rw[if_pos ⟨by omega,by omega,by simpa using h⟩];simp
theorem Xc9 {α:Type} {l:List α} {k:Nat} (h:k<=l.length):X7m l (k:Int) (l.length:Int)=some (l.drop k):=by
 unfold X7m;rw[if_pos ⟨by omega,by omega,by simp⟩];simp only[Int.toNat_natCast];rw[List.take_of_length_le (by rw[List.length_drop];exact Nat.le_refl _)]
def okN (x:X1) (a b:Int):Prop:=1<=x.Kind/\x.Kind<=19/\0<=x.N/\(x.N=0\/x.Kind=1)/\0<=x.At/\x.At<=400/\x.A=a/\x.B=b
instance (x:X1) (a b:Int):Decidable (okN x a b):=by unfold okN;infer_instance
theorem Xh9 (x:X1) (a b:Int):X4u x a b=some (decide (okN x a b)):=by
 unfold X4u okN;congr 1
 rw[Bool.eq_iff_iff];by_cases h1:1<=x.Kind<;>by_cases h2:x.Kind<=19<;>by_cases h3:0<=x.N<;>by_cases h4:x.N=0<;>by_cases h5:0<=x.At<;>by_cases h6:x.At<=400<;>simp[h1,h2,h3,h4,h5,h6,and_assoc]
def nst (sd:List (Nat×Nat)) (x:X1):Option (Nat×Nat) :=
 if x.Kind<=4 then (if okN x 0 0 then some (1,1) else none)
 else match sd.getLast? with
  |none=>none
  |some (s2,d2) =>
   if x.Kind<=6 then (if okN x ((sd.length:Int) - 1) 0 then some (1+s2,1+d2) else none)
   else if sd.length - 1<s2 then none
   else match sd[sd.length - 1 - s2]? with
    |none=>none
    |some (s1,d1)=>if okN x ((sd.length:Int) - 1 - s2) ((sd.length:Int) - 1) then some (1+s2+s1,max (1+d2) (1+d1)) else none
def Xap:List X1->List (Nat×Nat)->Option (List (Nat×Nat))
 |[],sd=>some sd
 |x::xs,sd=>match nst sd x with
  |some q=>Xap xs (sd++[q])
  |none=>none
def X6f (j:Nat) (q:Nat×Nat):Xe:=⟨(j:Int),(q.1:Int),(q.2:Int)⟩
inductive X83 (sd:List (Nat×Nat)):Nat->List Xe->Prop
 |nil:X83 sd 0 []
 |snoc {j:Nat} {q:Nat×Nat} {st:List Xe} (hq:sd[j]?=some q) (h1:1<=q.1) (h2:q.1<=j+1) (h3:q.2<=q.1) (h:X83 sd (j+1 - q.1) st):X83 sd (j+1) (st++[X6f j q])
theorem X83.more {sd sd':List (Nat×Nat)} {k:Nat} {st:List Xe} (h:X83 sd k st) (hs:∀ j,j<k->sd'[j]?=sd[j]?):X83 sd' k st:=by
 induction h with
 |nil=>exact .nil
 |@snoc j q st hq h1 h2 h3 _ ih=>exact .snoc (by rw[hs j om];exact hq) h1 h2 h3 (ih λi hi=>hs i om)
theorem X83.app {sd e:List (Nat×Nat)} {k:Nat} {st:List Xe} (h:X83 sd k st) (hk:k<=sd.length):X83 (sd++e) k st:=h.more λj hj=>List.getElem?_append_left om
theorem X83.len {sd:List (Nat×Nat)} {k:Nat} {st:List Xe} (h:X83 sd k st):st.length<=k:=by
 induction h with
 |nil=>simp
 |snoc hq h1 h2 h3 _ ih=>simp;omega
theorem Xfo {k:Nat} (h:1<=k) (hk:k<=1000000):IntKind.i64.wrap ((k:Int) - 1)=((k - 1:Nat):Int):=by rw[Xv om om];omega
theorem Xhc {x:X1} (h0:0<=x.Kind):X27 x.Kind=some (if 1<=x.Kind/\x.Kind<=19 then ((if x.Kind<=4 then 0 else if x.Kind<=6 then 1 else 2),0) else (0,2)):=by
 unfold X27;by_cases h1:1<=x.Kind
 ·by_cases h4:x.Kind<=4
  ·simp[h1,h4,show x.Kind<=19 by omega]
  ·by_cases h6:x.Kind<=6
   ·have:(bif x.Kind==5 then true else x.Kind==6)=true:=by
     rcases(by omega:x.Kind=5\/x.Kind=6) with h|h<;>simp[h]
    simp[h1,h4,h6,this,show x.Kind<=19 by omega]
   ·have e5:(bif x.Kind==5 then true else x.Kind==6)=false:=by
     have a:(x.Kind==5)=false:=by simp;omega
     have b:(x.Kind==6)=false:=by simp;omega
     rw[a,b];rfl
    by_cases h19:x.Kind<=19
    ·simp[h1,h4,h6,e5,h19,show(7:Int)<=x.Kind by omega]
    ·simp[h1,h4,h6,e5,h19]
 ·have e:x.Kind=0:=by omega
  simp[e]
theorem Xog {x : X1} {a b : Int} (h1 : 1 <= x.Kind) (h2 : x.Kind <= 19) :
    ((bif (x.Kind==(1:Int)) then (some (X1.mk x.Kind (if 0>x.N then 0 else x.N) a b (if 400<(if 0>x.At then 0 else x.At) then 400 else (if 0>x.At then 0 else x.At)))) else (some (X1.mk x.Kind 0 a b (if 400<(if 0>x.At then 0 else x.At) then 400 else (if 0>x.At then 0 else x.At)))):Option (X1)).bind λo=>some (X1p o x))=some (decide (okN x a b)):=by
  obtain⟨K,N,A,B,At⟩:=x;have hat:((if 400<(if 0>At then 0 else At) then 400 else (if 0>At then 0 else At))=At)↔(0<=At/\At<=400):=by
    by_cases g1:0>At
    · rw[if_pos g1];constructor
      · intro h;exfalso;split at h<;>omega
      · intro h;omega
    · rw[if_neg g1];split<;>omega
  have hn:((if 0>N then 0 else N)=N)↔0<=N:=by split<;>omega
  have key:∀ n':Int,(n'=N↔(0<=N/\(N=0\/K=1)))->(some (X1p (X1.mk K n' a b (if 400<(if 0>At then 0 else At) then 400 else (if 0>At then 0 else At))) ⟨K,N,A,B,At⟩):Option Bool)=some (decide (okN ⟨K,N,A,B,At⟩ a b)):=by
    intro n' hn';rw[X7s];congr 1
    apply decide_eq_decide.2;rw[X1.mk.injEq,hat,hn'];unfold okN;constructor
    · rintro⟨_,⟨g1,g2⟩,hA,hB,g3,g4⟩
      exact⟨h1,h2,g1,g2,g3,g4,hA.symm,hB.symm⟩
    · rintro⟨_,_,g1,g2,g3,g4,hA,hB⟩
      exact⟨rfl,⟨g1,g2⟩,hA.symm,hB.symm,g3,g4⟩
  by_cases hk:K=1
  · have:(K==1)=true:=by simp[hk]
    show(Option.bind (bif (K==1) then _ else _) _)=_;rw[this,cond_true,Yo];exact key _ (by rw[hn];simp[hk])
  · have:(K==1)=false:=by simp[hk]
    show(Option.bind (bif (K==1) then _ else _) _)=_;rw[this,cond_false,Yo]
    exact key _ (by constructor
                    · intro h;omega
                    · rintro⟨_,h⟩;rcases h with h|h<;>omega)
theorem Xi6 {β:Type} {o:Option X1} {x:X1} {d:Bool} {f g:Option β} (h:(o.bind λz=>some (X1p z x))=some d):(o.bind λz=>bif (!(X1p z x)) then f else g)=bif d then g else f:=by
 cases o with
 |none=>cases h
 |some z =>
  simp only[Yo,Option.some.injEq] at h;rw[Yo,h];cases d<;>rfl
def X50 (sd:List (Nat×Nat)):List Xe:=sd.mapIdx X6f
theorem Xju (sd:List (Nat×Nat)) (q:Nat×Nat):X50 (sd++[q])=X50 sd++[X6f sd.length q]:=by unfold X50;simp
theorem Xgk (sd:List (Nat×Nat)):(X50 sd).length=sd.length:=by unfold X50;simp
theorem X83.inv {sd:List (Nat×Nat)} {k:Nat} {st:List Xe} (h:X83 sd k st) (hk:0<k):∃ q st0,sd[k - 1]?=some q/\1<=q.1/\q.1<=k/\q.2<=q.1/\X83 sd (k - q.1) st0/\st=st0++[X6f (k - 1) q]:=by
 cases h with
 |nil=>omega
 |@snoc j q st0 hq h1 h2 h3 h=>exact⟨q,st0,hq,h1,h2,h3,h,rfl⟩
theorem X83.zero {sd:List (Nat×Nat)} {st:List Xe} (h:X83 sd 0 st):st=[]:=by
 cases h;rfl
theorem Xw3 (Y : List X1) : ∀ (xs : List X1) (sd : List (Nat × Nat)) (st : List Xe), (∀ x ∈ xs, 0 <= x.Kind) -> sd.length + xs.length <= 1000 -> X83 sd sd.length st -> (∀ j q, sd[j]? = some q -> 1 <= q.1 /\ q.1 <= j + 1 /\ q.2 <= q.1) ->
    match Xap xs sd with
    |some sd'=>∃ st',X1e Y xs sd.length (X50 sd) st=some (.x0 (X50 sd') st')/\X83 sd' sd'.length st'
    |none=>∃ all,X1e Y xs sd.length (X50 sd) st=some (.x1 all):=by
  intro xs
  induction xs with
  |nil=>intro sd st _ _ hc _;exact⟨st,rfl,hc⟩
  |cons x xs ih =>
    intro sd st h0 hn hc hb;simp only[List.length_cons] at hn;have hx:=h0 x List.mem_cons_self;rw[X1e,Xhc hx];have go : ∀ (q : Nat × Nat) (st0 : List Xe), nst sd x = some q -> X83 (sd ++ [q]) (sd.length + 1) (st0 ++ [X6f sd.length q]) -> 1 <= q.1 -> q.1 <= sd.length + 1 -> q.2 <= q.1 ->
        (match Xap (x::xs) sd with
          |some sd'=>∃ st',X1e Y xs (sd.length+1) (X50 sd++[X6f sd.length q]) (st0++[X6f sd.length q])=some (.x0 (X50 sd') st')/\X83 sd' sd'.length st'
          |none=>∃ all,X1e Y xs (sd.length+1) (X50 sd++[X6f sd.length q]) (st0++[X6f sd.length q])=some (.x1 all)):=by
      intro q st0 hq hc2 g1 g2 g3
      have:=ih (sd++[q]) (st0++[X6f sd.length q]) (λy hy=>h0 y (List.mem_cons_of_mem _ hy)) (by simp;omega) (by simpa using hc2) (λj q' hj=>by
        rw[List.getElem?_append] at hj;split at hj
        · exact hb j q' hj
        · rename_i hlt
          have:j=sd.length:=by
            have:=(Ys.1 hj).1;simp at this;omega
          subst this
          simp at hj;subst hj;exact⟨g1,g2,g3⟩)
      rw[Xju,List.length_append] at this;unfold Xap;rw[hq];exact this
    have stop:nst sd x=none->∀ {o:Option X41},(∃ all,o=some (.x1 all))->(match Xap (x::xs) sd with
          |some sd'=>∃ st',o=some (.x0 (X50 sd') st')/\X83 sd' sd'.length st'
          |none=>∃ all,o=some (.x1 all)):=by
      intro hq o h;unfold Xap;rw[hq];exact h
    have cap:∀ (l:List Xe) (t:Xe),l.length<=2000->X1c (List.length (l++[t])) 24=some ():=λl t hl=>X2z (by simp;omega);have hla:(X50 sd).length<=2000:=by unfold X50;simp;omega
    have hst:=hc.len;by_cases hr:1<=x.Kind/\x.Kind<=19
    · rw[if_pos hr]
      simp only[Yo,bne_self_eq_false,cond_false];by_cases h4:x.Kind<=4
      · -- no parts
        have e1:decide ((if x.Kind<=4 then (0:Int) else if x.Kind<=6 then 1 else 2)>(st.length:Int))=false:=by rw[if_pos h4];simp
        rw[e1,cond_false,if_pos h4];have e2:IntKind.i64.wrap ((st.length:Int) - 0)=(st.length:Int):=by rw[Xv om om];omega
        rw[e2,Xdw (Nat.le_refl _),Xc9 (Nat.le_refl _),List.take_length,List.drop_length];simp only[Yo,List.isEmpty_nil,cond_true];rw[Xi6 (Xog hr.1 hr.2)];by_cases hok:okN x 0 0
        · rw[Yt hok,cond_true,cap st _ om,cap _ _ hla]
          exact go (1,1) st (by unfold nst;rw[if_pos h4,if_pos hok]) (.snoc (by simp) (Nat.le_refl _) om (Nat.le_refl _) (by simpa using hc.app (Nat.le_refl _))) (Nat.le_refl _) om (Nat.le_refl _)
        · rw[Yf hok,cond_false]
          exact stop (by unfold nst;rw[if_pos h4,if_neg hok]) ⟨_,rfl⟩
      · have hgl:0<sd.length->∃ q,sd.getLast?=some q/\sd[sd.length - 1]?=some q:=by
          intro h;refine⟨sd[sd.length - 1]' om,?_,?_⟩
          · rw[List.getLast?_eq_getElem?];exact Ye _
          · exact Ye _
        by_cases h6:x.Kind<=6
        · -- one part
          rw[if_neg h4,if_pos h6];by_cases hl:sd.length=0
          · rw[hl] at hc
            have:=hc.zero;subst this;simp only[List.length_nil];exact stop (by unfold nst;rw[if_neg h4,List.eq_nil_of_length_eq_zero hl];rfl) ⟨_,rfl⟩
          · obtain⟨q,st0,hq,g1,g2,g3,hc0,rfl⟩:=hc.inv om
            obtain⟨q',hq1,hq2⟩:=hgl om;rw[hq] at hq2;cases hq2;have hs0:=hc0.len;have e1:decide ((1:Int)>((st0++[X6f (sd.length - 1) q]).length:Int))=false:=by simp;omega
            rw[e1,cond_false];have e2:IntKind.i64.wrap (((st0++[X6f (sd.length - 1) q]).length:Int) - 1)=(st0.length:Int):=by
              rw[Xv (by rw[List.length_append,List.length_singleton];omega) (by rw[List.length_append,List.length_singleton];omega),List.length_append,List.length_singleton];omega
            rw[e2,Xdw (by simp),Xc9 (by simp),List.take_left,List.drop_left];simp only[Yo,List.isEmpty_cons,cond_false,List.length_singleton];rw[show(((1:Nat):Int)==1)=true from rfl,cond_true];rw[show getI [X6f (sd.length - 1) q] 0=some (X6f (sd.length - 1) q) from rfl,Yo];rw[Xi6 (Xog hr.1 hr.2)];have ea:(X6f (sd.length - 1) q).at_=(sd.length:Int) - 1:=by unfold X6f;simp only;omega
            rw[ea];by_cases hok:okN x ((sd.length:Int) - 1) 0
            · have e3:(Xe.mk (sd.length:Int) (IntKind.i64.wrap (1+(X6f (sd.length - 1) q).size)) (if (IntKind.i64.wrap ((X6f (sd.length - 1) q).depth+1))>1 then (IntKind.i64.wrap ((X6f (sd.length - 1) q).depth+1)) else 1))=X6f sd.length (1+q.1,1+q.2):=by
                unfold X6f;simp only;rw[Xv om om,Xv om om];congr 1
                split<;>omega
              rw[Yt hok,cond_true,e3,cap st0 _ om,cap _ _ hla];refine go (1+q.1,1+q.2) st0 (by unfold nst;rw[if_neg h4,hq1];simp only;rw[if_pos h6,if_pos hok]) (.snoc (by simp) (by simp only;omega) (by simp only;omega) (by simp only;omega) ?_) (by simp only;omega) (by simp only;omega) (by simp only;omega);have:=hc0.app (e:=[(1+q.1,1+q.2)]) om;simp only;rw[show sd.length+1 - (1+q.1)=sd.length - q.1 by omega];exact this
            · rw[Yf hok,cond_false]
              exact stop (by unfold nst;rw[if_neg h4,hq1];simp only;rw[if_pos h6,if_neg hok]) ⟨_,rfl⟩
        · -- two parts
          rw[if_neg h4,if_neg h6];by_cases hl:sd.length=0
          · rw[hl] at hc
            have:=hc.zero;subst this;simp only[List.length_nil];exact stop (by unfold nst;rw[if_neg h4,List.eq_nil_of_length_eq_zero hl];rfl) ⟨_,rfl⟩
          · obtain⟨q,st1,hq,g1,g2,g3,hc1,rfl⟩:=hc.inv om
            obtain⟨q',hq1,hq2⟩:=hgl om;rw[hq] at hq2;cases hq2;by_cases hl1:sd.length - q.1=0
            · rw[hl1] at hc1
              have:=hc1.zero;subst this;exact stop (by unfold nst;rw[if_neg h4,hq1];simp only;rw[if_neg h6,if_pos om]) ⟨_,rfl⟩
            · obtain⟨p,st0,hp,f1,f2,f3,hc0,rfl⟩:=hc1.inv om
              have hs0:=hc0.len;rw[List.append_assoc];have e1:decide ((2:Int)>((st0++([X6f (sd.length - q.1 - 1) p]++[X6f (sd.length - 1) q])).length:Int))=false:=by simp;omega
              rw[e1,cond_false];have e2:IntKind.i64.wrap (((st0++([X6f (sd.length - q.1 - 1) p]++[X6f (sd.length - 1) q])).length:Int) - 2)=(st0.length:Int):=by
                rw[Xv (by simp only[List.length_append,List.length_singleton];omega) (by simp only[List.length_append,List.length_singleton];omega)];simp only[List.length_append,List.length_singleton];omega
              rw[e2,Xdw (by simp),Xc9 (by simp),List.take_left,List.drop_left];simp only[Yo,List.singleton_append,List.isEmpty_cons,cond_false,List.length_cons,List.length_nil];rw[show((((0:Nat)+1+1:Nat):Int)==1)=false from rfl,show((((0:Nat)+1+1:Nat):Int)==2)=true from rfl,cond_false,cond_true];rw[show getI [X6f (sd.length - q.1 - 1) p,X6f (sd.length - 1) q] 0=some (X6f (sd.length - q.1 - 1) p) from rfl,show getI [X6f (sd.length - q.1 - 1) p,X6f (sd.length - 1) q] 1=some (X6f (sd.length - 1) q) from rfl,Yo,Yo];rw[Xi6 (Xog hr.1 hr.2)];have ea:(X6f (sd.length - 1) q).at_=(sd.length:Int) - 1:=by unfold X6f;simp only;omega
              have eb:(X6f (sd.length - q.1 - 1) p).at_=(sd.length:Int) - 1 - q.1:=by unfold X6f;simp only;omega
              rw[ea,eb];have hp':sd[sd.length - 1 - q.1]?=some p:=by rw[show sd.length - 1 - q.1=sd.length - q.1 - 1 by omega];exact hp
              by_cases hok:okN x ((sd.length:Int) - 1 - q.1) ((sd.length:Int) - 1)
              · have e3:(Xe.mk (sd.length:Int) (IntKind.i64.wrap ((IntKind.i64.wrap (1+(X6f (sd.length - q.1 - 1) p).size))+(X6f (sd.length - 1) q).size)) (if (IntKind.i64.wrap ((X6f (sd.length - 1) q).depth+1))>(if (IntKind.i64.wrap ((X6f (sd.length - q.1 - 1) p).depth+1))>1 then (IntKind.i64.wrap ((X6f (sd.length - q.1 - 1) p).depth+1)) else 1) then (IntKind.i64.wrap ((X6f (sd.length - 1) q).depth+1)) else (if (IntKind.i64.wrap ((X6f (sd.length - q.1 - 1) p).depth+1))>1 then (IntKind.i64.wrap ((X6f (sd.length - q.1 - 1) p).depth+1)) else 1)))=X6f sd.length (1+q.1+p.1,max (1+q.2) (1+p.2)):=by
                  unfold X6f;simp only;rw[Xv (z:=1+(p.1:Int)) om om,Xv om om,Xv om om,Xv om om];congr 1
                  · push_cast;omega
                  · split<;>split<;>omega
                rw[Yt hok,cond_true,e3,cap st0 _ om,cap _ _ hla];refine go (1+q.1+p.1,max (1+q.2) (1+p.2)) st0 (by unfold nst;rw[if_neg h4,hq1];simp only;rw[if_neg h6,if_neg om,hp'];simp only;rw[if_pos hok]) (.snoc (by simp) (by simp only;omega) (by simp only;omega) (by simp only;omega) ?_) (by simp only;omega) (by simp only;omega) (by simp only;omega);have:=hc0.app (e:=[(1+q.1+p.1,max (1+q.2) (1+p.2))]) om;simp only;rw[show sd.length+1 - (1+q.1+p.1)=sd.length - q.1 - p.1 by omega];exact this
              · rw[Yf hok,cond_false]
                exact stop (by unfold nst;rw[if_neg h4,hq1];simp only;rw[if_neg h6,if_neg om,hp'];simp only;rw[if_neg hok]) ⟨_,rfl⟩
    · rw[if_neg hr]
      have hno:nst sd x=none:=by
        have no:∀ a b,¬ okN x a b:=λa b h=>hr ⟨h.1,h.2.1⟩;unfold nst;simp only[no,if_false];split
        · rfl
        · split
          · rfl
          · split
            · rfl
            · split
              · rfl
              · split<;>rfl
      exact stop hno ⟨_,rfl⟩
def nchk (l:List X1):Int :=
 if l.length>60 then 4 else match Xap l [] with
  |none=>8
  |some sd=>match sd.getLast? with
   |none=>8
   |some q=>if q.1=l.length then (if q.2>20 then 34 else 0) else 8
theorem Xbp:∀ (xs:List X1) (sd sd':List (Nat×Nat)),Xap xs sd=some sd'->sd'.length=sd.length+xs.length
 |[],sd,sd',h=>by cases h;simp
 |x::xs,sd,sd',h=>by
  unfold Xap at h;split at h
  ·have:=Xbp xs _ _ h;simp at this;simp;omega
  ·cases h
theorem Xgl {sd:List (Nat×Nat)} {i:Nat} {q:Nat×Nat} (h:sd[i]?=some q):getI (X50 sd) (i:Int)=some (X6f i q):=by
 rw[X2u];unfold X50;rw[List.getElem?_mapIdx,h];rfl
theorem Xaq {l:List X1} (h0:∀ x∈l,0<=x.Kind):∃ t,X5v l=some (t,nchk l)/\(nchk l=0->∃ sd,Xap l []=some sd/\t=X50 sd):=by
 unfold X5v nchk;by_cases h60:l.length>60
 ·rw[Yt (show(l.length:Int)>60 by omega),cond_true,if_pos h60];exact⟨_,rfl,by omega⟩
 ·rw[Yf (show ¬ (l.length:Int)>60 by omega),cond_false,if_neg h60];have hL:=Xw3 l l [] [] h0 (by simp;omega) .nil (by simp);unfold Xa9;rw[X2o om]
  cases hr:Xap l [] with
  |none =>
   rw[hr] at hL;obtain⟨all,hL⟩:=hL;simp only[List.length_nil] at hL;rw[show X50 []=[] from rfl] at hL;rw[hL];exact⟨_,rfl,by simp⟩
  |some sd =>
   rw[hr] at hL;obtain⟨st,hL,hc⟩:=hL;simp only[List.length_nil] at hL;rw[show X50 []=[] from rfl] at hL;rw[hL];have hn:=Xbp l [] sd hr;simp only[List.length_nil,Nat.zero_add] at hn;simp only[Yo];by_cases hz:sd.length=0
   ·have:sd=[]:=List.eq_nil_of_length_eq_zero hz;subst this;have:=hc.zero;subst this;exact⟨_,rfl,by simp⟩
   ·obtain⟨q,st0,hq,g1,g2,g3,hc0,rfl⟩:=hc.inv om;have hg:sd.getLast?=some q:=by rw[List.getLast?_eq_getElem?];exact hq
    rw[hg];simp only;have hst:(((st0++[X6f (sd.length - 1) q]).length:Int)==1)=decide (q.1=l.length):=by
     rw[Bool.eq_iff_iff];simp only[List.length_append,List.length_singleton,beq_iff_eq,decide_eq_true_eq];constructor
     ·intro h;have h1:st0.length=0:=by omega
      by_cases hk:sd.length - q.1=0
      ·omega
      ·obtain⟨_,s1,_,_,_,_,_,rfl⟩:=hc0.inv om;simp at h1
     ·intro h;rw[show sd.length - q.1=0 by omega] at hc0;rw[hc0.zero];rfl
    rw[hst];by_cases he:q.1=l.length
    ·rw[Yt he,if_pos he];simp only[Bool.not_true,cond_false];rw[show IntKind.i64.wrap (((X50 sd).length:Int) - 1)=((sd.length - 1:Nat):Int) by rw[Xgk,Xfo om om]];rw[Xgl hq,Yo];by_cases hd:q.2>20
     ·rw[if_pos hd,show decide ((X6f (sd.length - 1) q).depth>20)=true from Yt (by unfold X6f;simp only;omega)];exact⟨_,rfl,by simp⟩
     ·rw[if_neg hd,show decide ((X6f (sd.length - 1) q).depth>20)=false from Yf (by unfold X6f;simp only;omega)];exact⟨_,rfl,λ_=>⟨sd,rfl,rfl⟩⟩
    ·rw[Yf he,if_neg he];exact⟨_,rfl,by simp⟩
theorem X4h {l:List X1} (h0:∀ x∈l,0<=x.Kind):X1n l=some (nchk l):=by
 obtain⟨t,h,_⟩:=Xaq h0;unfold X1n;rw[h];rfl
def szs (sd:List (Nat×Nat)):List Int:=sd.map λq=>(q.1:Int)
def dps (sd:List (Nat×Nat)):List Int:=sd.map λq=>(q.2:Int)
theorem Xee {sd:List (Nat×Nat)} {i:Nat} {q:Nat×Nat} (h:sd[i]?=some q):getI (szs sd) (i:Int)=some (q.1:Int):=by
 rw[X2u];unfold szs;rw[List.getElem?_map,h];rfl
theorem Xki {sd:List (Nat×Nat)} {i:Nat} {q:Nat×Nat} (h:sd[i]?=some q):getI (dps sd) (i:Int)=some (q.2:Int):=by
 rw[X2u];unfold dps;rw[List.getElem?_map,h];rfl
theorem Xl0 (Y : List X1) : ∀ (xs : List X1) (sd : List (Nat × Nat)), sd.length + xs.length <= 1000 -> (∀ j q, sd[j]? = some q -> 1 <= q.1 /\ q.1 <= j + 1 /\ q.2 <= q.1) ->
    match Xap xs sd with
    |some sd'=>X0w Y xs sd.length (szs sd) (dps sd)=some (.x0 (szs sd') (dps sd'))
    |none=>X0w Y xs sd.length (szs sd) (dps sd)=some (.x1 [] []):=by
  intro xs
  induction xs with
  |nil=>intro sd _ _;rfl
  |cons x xs ih =>
    intro sd hn hb;simp only[List.length_cons] at hn;rw[X0w];have go : ∀ (q : Nat × Nat), nst sd x = some q -> 1 <= q.1 -> q.1 <= sd.length + 1 -> q.2 <= q.1 ->
        (match Xap (x::xs) sd with
          |some sd'=>X0w Y xs (sd.length+1) (szs sd++[(q.1:Int)]) (dps sd++[(q.2:Int)])=some (.x0 (szs sd') (dps sd'))
          |none=>X0w Y xs (sd.length+1) (szs sd++[(q.1:Int)]) (dps sd++[(q.2:Int)])=some (.x1 [] [])):=by
      intro q hq g1 g2 g3
      have:=ih (sd++[q]) (by simp;omega) (λj q' hj=>by
        rw[List.getElem?_append] at hj;split at hj
        · exact hb j q' hj
        · rename_i hlt
          have:j=sd.length:=by
            have:=(Ys.1 hj).1;simp at this;omega
          subst this
          simp at hj;subst hj;exact⟨g1,g2,g3⟩)
      rw[List.length_append] at this;unfold Xap;rw[hq];unfold szs dps at this ⊢;rw[List.map_append,List.map_append] at this;exact this
    have stop:nst sd x=none->∀ {o:Option X3h},o=some (.x1 [] [])->(match Xap (x::xs) sd with
          |some sd'=>o=some (.x0 (szs sd') (dps sd'))
          |none=>o=some (.x1 [] [])):=by
      intro hq o h;unfold Xap;rw[hq];exact h
    have cap:∀ (l:List Int) (t:Int),l.length<=2000->X1c (List.length (l++[t])) 8=some ():=λl t hl=>X2z (by simp;omega);have hls:(szs sd).length<=2000:=by unfold szs;simp;omega
    have hld:(dps sd).length<=2000:=by unfold dps;simp;omega
    unfold X0b;by_cases h4:x.Kind<=4
    · rw[Yt h4,cond_true]
      simp only[Yo];rw[show decide ((0:Int)>0)=false from rfl,cond_false,Xh9,Yo];by_cases hok:okN x 0 0
      · rw[Yt hok,Bool.not_true,cond_false,cap _ _ hls,cap _ _ hld]
        exact go (1,1) (by unfold nst;rw[if_pos h4,if_pos hok]) (Nat.le_refl _) om (Nat.le_refl _)
      · rw[Yf hok,Bool.not_false,cond_true]
        exact stop (by unfold nst;rw[if_pos h4,if_neg hok]) rfl
    · rw[Yf h4,cond_false]
      have hgl:0<sd.length->∃ q,sd.getLast?=some q/\sd[sd.length - 1]?=some q:=by
        intro h;refine⟨sd[sd.length - 1]' om,?_,?_⟩
        · rw[List.getLast?_eq_getElem?];exact Ye _
        · exact Ye _
      by_cases hl:sd.length=0
      · have hnil:=List.eq_nil_of_length_eq_zero hl
        refine stop (by unfold nst;rw[if_neg h4,hnil];rfl) ?_;rw[hl];by_cases h6:x.Kind<=6
        · rw[Yt h6];rfl
        · rw[Yf h6];rfl
      · obtain⟨q,hq1,hq⟩:=hgl om
        obtain⟨g1,g2,g3⟩:=hb _ _ hq;have hw:IntKind.i64.wrap ((sd.length:Int) - 1)=((sd.length - 1:Nat):Int):=Xfo om om;rw[hw];rw[show decide (((sd.length - 1:Nat):Int)<0)=false from Yf om,Xee hq,Xki hq];simp only[cond_false];by_cases h6:x.Kind<=6
        · rw[Yt h6,cond_true]
          simp only[Yo];rw[show decide ((1:Int)>0)=true from rfl,cond_true,show((1:Int)==2)=false from rfl,cond_false,Xh9,Yo];rw[show((sd.length - 1:Nat):Int)=(sd.length:Int) - 1 by omega];by_cases hok:okN x ((sd.length:Int) - 1) 0
          · rw[Yt hok,Bool.not_true,cond_false,cap _ _ hls,cap _ _ hld]
            rw[Xv om om,Xv om om];have:=go (1+q.1,1+q.2) (by unfold nst;rw[if_neg h4,hq1];simp only;rw[if_pos h6,if_pos hok]) (by simp only;omega) (by simp only;omega) (by simp only;omega);simp only at this
            push_cast at this
            exact this
          · rw[Yf hok,Bool.not_false,cond_true]
            exact stop (by unfold nst;rw[if_neg h4,hq1];simp only;rw[if_pos h6,if_neg hok]) rfl
        · rw[Yf h6,cond_false]
          simp only[Yo];rw[show decide ((2:Int)>0)=true from rfl,cond_true,show((2:Int)==2)=true from rfl,cond_true];have hw2:IntKind.i64.wrap (((sd.length - 1:Nat):Int) - q.1)=(sd.length:Int) - 1 - q.1:=by rw[Xv om om];omega
          rw[hw2];by_cases hlt:sd.length - 1<q.1
          · rw[show decide ((sd.length:Int) - 1 - q.1<0)=true from Yt om,cond_true]
            exact stop (by unfold nst;rw[if_neg h4,hq1];simp only;rw[if_neg h6,if_pos hlt]) rfl
          · rw[show decide ((sd.length:Int) - 1 - q.1<0)=false from Yf om,cond_false]
            have hpe:sd[sd.length - 1 - q.1]?=some (sd[sd.length - 1 - q.1]' om):=Ye _;generalize sd[sd.length - 1 - q.1]' om=p at hpe;obtain⟨f1,f2,f3⟩:=hb _ _ hpe;rw[show(sd.length:Int) - 1 - q.1=((sd.length - 1 - q.1:Nat):Int) by omega,Xee hpe,Xki hpe];simp only[Yo];rw[Xh9,Yo];rw[show((sd.length - 1 - q.1:Nat):Int)=(sd.length:Int) - 1 - q.1 by omega,show((sd.length - 1:Nat):Int)=(sd.length:Int) - 1 by omega];by_cases hok:okN x ((sd.length:Int) - 1 - q.1) ((sd.length:Int) - 1)
            · rw[Yt hok,Bool.not_true,cond_false,cap _ _ hls,cap _ _ hld]
              rw[Xv (z:=1+(q.1:Int)) om om,Xv (z:=1+(q.1:Int)+p.1) om om,Xv om om,Xv om om];have:=go (1+q.1+p.1,max (1+q.2) (1+p.2)) (by unfold nst;rw[if_neg h4,hq1];simp only;rw[if_neg h6,if_neg hlt,hpe];simp only;rw[if_pos hok]) (by simp only;omega) (by simp only;omega) (by simp only;omega);simp only at this;rw[show((1+q.1+p.1:Nat):Int)=1+(q.1:Int)+p.1 by omega,show((max (1+q.2) (1+p.2):Nat):Int)=(if 1+(p.2:Int)>1+q.2 then 1+(p.2:Int) else 1+q.2) by split<;>omega] at this;exact this
            · rw[Yf hok,Bool.not_false,cond_true]
              exact stop (by unfold nst;rw[if_neg h4,hq1];simp only;rw[if_neg h6,if_neg hlt,hpe];simp only;rw[if_neg hok]) rfl
theorem X7x {l:List X1}:X3a l=some (nchk l):=by
 unfold X3a nchk;by_cases h60:l.length>60
 ·rw[Yt (show(l.length:Int)>60 by omega),cond_true,if_pos h60]
 ·rw[Yf (show ¬ (l.length:Int)>60 by omega),cond_false,if_neg h60];have hL:=Xl0 l l [] (by simp;omega) (by simp);unfold X4v;rw[X2o om]
  cases hr:Xap l [] with
  |none =>
   rw[hr] at hL;simp only[List.length_nil] at hL;rw[show szs []=[] from rfl,show dps []=[] from rfl] at hL;rw[Yo,hL];rfl
  |some sd =>
   rw[hr] at hL;simp only[List.length_nil] at hL;rw[show szs []=[] from rfl,show dps []=[] from rfl] at hL;rw[Yo,hL];have hn:=Xbp l [] sd hr;simp only[List.length_nil,Nat.zero_add] at hn;simp only[Yo];by_cases hz:l.length=0
   ·rw[List.eq_nil_of_length_eq_zero (hn.trans hz),List.eq_nil_of_length_eq_zero hz];rfl
   ·have hq:sd[sd.length - 1]?=some (sd[sd.length - 1]' om):=Ye _;generalize sd[sd.length - 1]' om=q at hq;have hg:sd.getLast?=some q:=by rw[List.getLast?_eq_getElem?];exact hq
    rw[hg];have hw:IntKind.i64.wrap ((l.length:Int) - 1)=((sd.length - 1:Nat):Int):=by rw[<-hn];exact Xfo om om
    rw[show decide ((l.length:Int)>0)=true from Yt om,cond_true,hw,Xee hq];simp only[Yo,cond_true];rw[Xki hq];by_cases he:q.1=l.length
    ·rw[if_pos he,show((q.1:Int)==(l.length:Int))=true by rw[he];simp,Bool.not_true,cond_false];by_cases hd:q.2>20
     ·rw[if_pos hd,Yo,Yt (show(q.2:Int)>20 by omega)];rfl
     ·rw[if_neg hd,Yo,Yf (show ¬ (q.2:Int)>20 by omega)];rfl
    ·rw[if_neg he,show((q.1:Int)==(l.length:Int))=false by simp;omega,Bool.not_false,cond_true]
end Go.D


namespace Go.D
theorem X010 {sd:List (Nat×Nat)} {x:X1} {q:Nat×Nat} (h:nst sd x=some q):∃ a b,okN x a b/\(x.Kind<=4->a=0/\b=0)/\(5<=x.Kind->0<sd.length/\(x.Kind<=6->a=(sd.length:Int) - 1/\b=0)/\(7<=x.Kind->0<=a/\a<=(sd.length:Int) - 1/\b=(sd.length:Int) - 1)):=by
 unfold nst at h;split at h
 ·rename_i h4;split at h
  ·rename_i ho;exact⟨0,0,ho,λ_=>⟨rfl,rfl⟩,λh5=>by omega⟩
  ·cases h
 ·rename_i h4;split at h
  ·cases h
  ·rename_i s2 d2 hg;have hl:0<sd.length:=by
    cases sd with
    |nil=>cases hg
    |cons=>simp
   split at h
   ·rename_i h6;split at h
    ·rename_i ho;exact⟨_,_,ho,λh4'=>absurd h4' h4,λ_=>⟨hl,λ_=>⟨rfl,rfl⟩,λh7=>by omega⟩⟩
    ·cases h
   ·rename_i h6;split at h
    ·cases h
    ·rename_i hlt;split at h
     ·cases h
     ·split at h
      ·rename_i ho;exact⟨_,_,ho,λh4'=>absurd h4' h4,λ_=>⟨hl,λh6'=>absurd h6' h6,λ_=>⟨by omega,by omega,rfl⟩⟩⟩
      ·cases h
structure Xc1 (x:X1) (k:Nat):Prop where
 lo:1<=x.Kind
 hi:x.Kind<=19
 leaf:x.Kind<=4->x.A=0/\x.B=0
 a0:0<=x.A
 b0:0<=x.B
 ak:5<=x.Kind->x.A<k
 b1:5<=x.Kind->x.Kind<=6->x.B=0
 bk:5<=x.Kind->x.B<k
 n0:0<=x.N
 nk:x.N=0\/x.Kind=1
 at0:0<=x.At
 at1:x.At<=400
theorem Xoi:∀ (xs:List X1) (sd sd':List (Nat×Nat)),Xap xs sd=some sd'->∀ j x,xs[j]?=some x->Xc1 x (sd.length+j)
 |[],sd,sd',h,j,x,hj=>by simp at hj
 |y::ys,sd,sd',h,j,x,hj=>by
  unfold Xap at h;split at h
  ·rename_i q hq
   cases j with
   |zero =>
    simp at hj;subst hj;obtain⟨a,b,ho,h4,h5⟩:=X010 hq;obtain⟨o1,o2,o3,o4,o5,o6,rfl,rfl⟩:=ho;refine⟨o1,o2,h4,?_,?_,?_,?_,?_,o3,o4,o5,o6⟩;all_goals
     by_cases h4':y.Kind<=4
     ·have:=h4 h4';omega
     ·have h5':=h5 om;by_cases h6:y.Kind<=6
      ·have:=h5'.2.1 h6;omega
      ·have:=h5'.2.2 om;omega
   |succ j =>
    have:=Xoi ys _ _ h j x (by simpa using hj);rw[List.length_append,List.length_singleton] at this;rw[show sd.length+(j+1)=sd.length+1+j by omega];exact this
  ·cases h
def giv (K:Int):Bool:=(K==6)||decide (12<=K)
theorem Xad (K:Int):X3z K=some (giv K):=by
 unfold X3z giv;congr 1
def kindAt (l:List X1) (i:Int):Int:=match getI l i with|some e=>e.Kind|none=>0
def Xcs (l:List X1) (x:X1):Bool :=
 if x.Kind<=4 then true
 else if x.Kind=5 then !(giv (kindAt l x.A))
 else if x.Kind=6 then giv (kindAt l x.A)
 else if x.Kind<=15 then !(giv (kindAt l x.A))&&!(giv (kindAt l x.B))
 else if x.Kind<=17 then (giv (kindAt l x.A))==(giv (kindAt l x.B))
 else giv (kindAt l x.A)&&giv (kindAt l x.B)
def wrN (l:List X1):List X1->Nat->Option Nat
 |[],_=>none
 |x::xs,k=>if Xcs l x then wrN l xs (k+1) else some k
theorem X9t {α:Type} {l:List α} {i:Int} (h0:0<=i) (h1:i<l.length):∃ e,getI l i=some e/\l[i.toNat]?=some e:=by
 obtain⟨n,rfl⟩:∃ n:Nat,i=n:=⟨i.toNat,by omega⟩;exact⟨l[n]' om,by rw[X2u];exact Ye _,by simp⟩
theorem X90 {l:List X1} {i:Int} (h0:0<=i) (h1:i<l.length):∃ e,getI l i=some e/\kindAt l i=e.Kind:=by
 obtain⟨e,h,_⟩:=X9t h0 h1;exact⟨e,h,by unfold kindAt;rw[h]⟩
theorem Xye {l:List X1} {x:X1} {k:Nat} (hk:l[k]?=some x) (ho:Xc1 x k):X8a l (k:Int)=some (Xcs l x):=by
 have hlt:=(Ys.1 hk).1;have hA:x.A<l.length:=by
  by_cases h:x.Kind<=4
  ·have:=(ho.leaf h).1;omega
  ·have:=ho.ak om;omega
 have hB:x.B<l.length:=by
  by_cases h:x.Kind<=4
  ·have:=(ho.leaf h).2;omega
  ·have:=ho.bk om;omega
 obtain⟨a,ha,hka⟩:=X90 ho.a0 hA;obtain⟨b,hb,hkb⟩:=X90 ho.b0 hB;unfold X8a Xcs;rw[X2u,hk,Yo,ha,Yo,hb,Xad,Yo,Yo,Xad,Yo,hka,hkb];have h1:=ho.lo;have h2:=ho.hi;by_cases h4:x.Kind<=4
 ·rw[if_pos h4,Yt h4];rfl
 ·rw[if_neg h4,Yf h4,cond_false];by_cases h5:x.Kind=5
  ·rw[if_pos h5,show(x.Kind==5)=true by simp[h5]];rfl
  ·rw[if_neg h5,show(x.Kind==5)=false by simp[h5],cond_false];by_cases h6:x.Kind=6
   ·rw[if_pos h6,show(x.Kind==6)=true by simp[h6]];rfl
   ·rw[if_neg h6,show(x.Kind==6)=false by simp[h6],cond_false];by_cases h15:x.Kind<=15
    ·rw[if_pos h15,show(bif (x.Kind==16) then true else (x.Kind==17))=false by rw[show(x.Kind==16)=false by simp;omega,show(x.Kind==17)=false by simp;omega];rfl,Yf (show ¬ x.Kind >= 18 by omega)];cases giv a.Kind<;>cases giv b.Kind<;>rfl
    ·rw[if_neg h15];by_cases h17:x.Kind<=17
     ·rw[if_pos h17,show(bif (x.Kind==16) then true else (x.Kind==17))=true by rcases(by omega:x.Kind=16\/x.Kind=17) with h|h<;>simp[h]];rfl
     ·rw[if_neg h17,show(bif (x.Kind==16) then true else (x.Kind==17))=false by rw[show(x.Kind==16)=false by simp;omega,show(x.Kind==17)=false by simp;omega];rfl,Yt (show x.Kind >= 18 by omega)];cases giv a.Kind<;>cases giv b.Kind<;>rfl
theorem Xkt {l:List X1} (ho:∀ j x,l[j]?=some x->Xc1 x j):∀ (xs:List X1) (k:Nat),l.drop k=xs->X2y l xs k=some (match wrN l xs k with|none=>.x0|some j=>.x1 (j:Int))
 |[],k,_=>rfl
 |x::xs,k,h=>by
  have hk:l[k]?=some x:=by
   have:(l.drop k)[0]?=some x:=by rw[h];rfl
   simpa using this
  have hd:l.drop (k+1)=xs:=by
   have:(l.drop k).drop 1=xs:=by rw[h];rfl
   rw[List.drop_drop] at this;exact this
  rw[X2y,Xye hk (ho k x hk),Yo,wrN]
  cases Xcs l x with
  |true=>exact Xkt ho xs (k+1) hd
  |false=>rfl
def gvs (l:List X1) (k:Nat):List Bool:=(l.take k).map λe=>giv e.Kind
theorem Xhq {l:List X1} {k:Nat} (hk:k<=l.length) {i:Int} (h0:0<=i) (h1:i<k):getI (gvs l k) i=some (giv (kindAt l i)):=by
 obtain⟨e,he,hke⟩:=X90 (l:=l) h0 om;have hi:(i.toNat:Int)=i:=by omega
 rw[hke,<-hi,X2u];rw[<-hi,X2u] at he;unfold gvs;rw[List.getElem?_map,List.getElem?_take_of_lt om,he];rfl
theorem Xlm {l:List X1} {k:Nat} {x:X1} (hk:l[k]?=some x):gvs l (k+1)=gvs l k++[giv x.Kind]:=by
 unfold gvs;rw[List.take_add_one,hk,List.map_append];rfl
theorem Xjv {l:List X1} (hn:l.length<=1000) (ho:∀ j x,l[j]?=some x->Xc1 x j):∀ (xs:List X1) (k:Nat),l.drop k=xs->X10 l xs k (gvs l k)=some (match wrN l xs k with|none=>.x0 (gvs l l.length)|some j=>.x1 [] (j:Int))
 |[],k,h=>by
  have:l.length<=k:=by
   have:=congrArg List.length h;simp at this;omega
  rw[X10,wrN];unfold gvs;rw[List.take_of_length_le this,List.take_length]
 |x::xs,k,h=>by
  have hk:l[k]?=some x:=by
   have:(l.drop k)[0]?=some x:=by rw[h];rfl
   simpa using this
  have hd:l.drop (k+1)=xs:=by
   have:(l.drop k).drop 1=xs:=by rw[h];rfl
   rw[List.drop_drop] at this;exact this
  have hlt:=(Ys.1 hk).1;have hox:=ho k x hk;have ih:=Xjv hn ho xs (k+1) hd;have h1:=hox.lo;have h2:=hox.hi;have cap:∀ b,X1c (List.length (gvs l k++[b])) 1=some ():=λb=>X2z (by unfold gvs;simp;omega);have go:giv x.Kind=false->Xcs l x=true->X10 l xs (k+1) (gvs l k++[false])=some (match wrN l (x::xs) k with|none=>.x0 (gvs l l.length)|some j=>.x1 [] (j:Int)):=by
   intro g f;rw[wrN,f,if_pos rfl,<-ih,Xlm hk,g]
  have go':giv x.Kind=true->Xcs l x=true->X10 l xs (k+1) (gvs l k++[true])=some (match wrN l (x::xs) k with|none=>.x0 (gvs l l.length)|some j=>.x1 [] (j:Int)):=by
   intro g f;rw[wrN,f,if_pos rfl,<-ih,Xlm hk,g]
  have stop:Xcs l x=false->(some (.x1 [] (k:Int)):Option X42)=some (match wrN l (x::xs) k with|none=>.x0 (gvs l l.length)|some j=>.x1 [] (j:Int)):=by
   intro f;rw[wrN,f];rfl
  rw[X10];by_cases h4:x.Kind<=4
  ·rw[Yt h4,cond_true,cap,Yo];exact go (by unfold giv;simp;omega) (by unfold Xcs;rw[if_pos h4])
  ·rw[Yf h4,cond_false];have hA:getI (gvs l k) x.A=some (giv (kindAt l x.A)):=Xhq om hox.a0 (hox.ak om);have hB:getI (gvs l k) x.B=some (giv (kindAt l x.B)):=Xhq om hox.b0 (hox.bk om);by_cases h5:x.Kind=5
   ·have hf:Xcs l x=!(giv (kindAt l x.A)):=by unfold Xcs;rw[if_neg h4,if_pos h5]
    rw[show(x.Kind==5)=true by simp[h5],cond_true,hA]
    cases hg:giv (kindAt l x.A) with
    |true=>exact stop (by rw[hf,hg];rfl)
    |false =>
     show(X1c (List.length (gvs l k++[false])) 1).bind _=_;rw[cap,Yo];exact go (by unfold giv;simp[h5]) (by rw[hf,hg];rfl)
   ·rw[show(x.Kind==5)=false by simp[h5],cond_false];by_cases h6:x.Kind=6
    ·have hf:Xcs l x=giv (kindAt l x.A):=by unfold Xcs;rw[if_neg h4,if_neg h5,if_pos h6]
     rw[show(x.Kind==6)=true by simp[h6],cond_true,hA]
     cases hg:giv (kindAt l x.A) with
     |false=>exact stop (by rw[hf,hg])
     |true =>
      show(X1c (List.length (gvs l k++[true])) 1).bind _=_;rw[cap,Yo];exact go' (by unfold giv;simp[h6]) (by rw[hf,hg])
    ·rw[show(x.Kind==6)=false by simp[h6],cond_false];have lok:X6e (List.length [x.A,x.B])=some ():=X2o (by simp);by_cases h15:x.Kind<=15
     ·have hf:Xcs l x=(!(giv (kindAt l x.A))&&!(giv (kindAt l x.B))):=by unfold Xcs;rw[if_neg h4,if_neg h5,if_neg h6,if_pos h15]
      by_cases h11:x.Kind<=11
      ·have hgx:giv x.Kind=false:=by unfold giv;simp;omega
       rw[Yt h11,cond_true,Yo,lok];simp only[X00,hA,hB];generalize giv (kindAt l x.A)=p at hf;generalize giv (kindAt l x.B)=r at hf;cases p<;>cases r
       ·show(X1c (List.length (gvs l k++[false])) 1).bind _=_;rw[cap,Yo];exact go hgx hf
       all_goals exact stop hf
      ·have hgx:giv x.Kind=true:=by unfold giv;simp;omega
       rw[Yf h11,cond_false,Yt h15,cond_true,Yo,lok];simp only[X00,hA,hB];generalize giv (kindAt l x.A)=p at hf;generalize giv (kindAt l x.B)=r at hf;cases p<;>cases r
       ·show(X1c (List.length (gvs l k++[true])) 1).bind _=_;rw[cap,Yo];exact go' hgx hf
       all_goals exact stop hf
     ·rw[Yf (show ¬ x.Kind<=11 by omega),cond_false,Yf h15,cond_false];have hgx:giv x.Kind=true:=by unfold giv;simp;omega
      by_cases h17:x.Kind<=17
      ·have hf:Xcs l x=((giv (kindAt l x.A))==(giv (kindAt l x.B))):=by unfold Xcs;rw[if_neg h4,if_neg h5,if_neg h6,if_neg h15,if_pos h17]
       rw[Yt h17,cond_true,Yo,lok];simp only[X00,X02,hA,hB];generalize giv (kindAt l x.A)=p at hf;generalize giv (kindAt l x.B)=r at hf;cases p<;>cases r
       ·show(X1c (List.length (gvs l k++[true])) 1).bind _=_;rw[cap,Yo];exact go' hgx hf
       ·exact stop hf
       ·exact stop hf
       ·show(X1c (List.length (gvs l k++[true])) 1).bind _=_;rw[cap,Yo];exact go' hgx hf
      ·have hf:Xcs l x=((giv (kindAt l x.A))&&(giv (kindAt l x.B))):=by unfold Xcs;rw[if_neg h4,if_neg h5,if_neg h6,if_neg h15,if_neg h17]
       rw[Yf h17,cond_false,Yo,lok];simp only[X00,X02,hA,hB];generalize giv (kindAt l x.A)=p at hf;generalize giv (kindAt l x.B)=r at hf;cases p<;>cases r
       ·exact stop hf
       ·exact stop hf
       ·exact stop hf
       ·show(X1c (List.length (gvs l k++[true])) 1).bind _=_;rw[cap,Yo];exact go' hgx hf
end Go.D


namespace Go.D
def kOf (l:List X1):Bool×Int×Int :=
 if nchk l≠0 then (false,0,nchk l)
 else match wrN l l 0 with
  |some j=>(false,(j:Int),42)
  |none=>(giv (kindAt l ((l.length:Int) - 1)),(l.length:Int) - 1,0)
theorem Xbq {l:List X1} (h:nchk l=0):l.length<=60/\1<=l.length/\∃ sd,Xap l []=some sd:=by
 unfold nchk at h;split at h
 ·cases h
 ·split at h
  ·cases h
  ·rename_i sd hr;have hn:=Xbp l [] sd hr;simp only[List.length_nil,Nat.zero_add] at hn;split at h
   ·cases h
   ·rename_i q hq;have:1<=sd.length:=by
     cases sd with
     |nil=>cases hq
     |cons=>simp
    exact⟨by omega,by omega,sd,hr⟩
theorem X6v {l:List X1} (h:nchk l=0):∀ j x,l[j]?=some x->Xc1 x j:=by
 obtain⟨_,_,sd,hr⟩:=Xbq h;intro j x hj;have:=Xoi l [] sd hr j x hj;simpa using this
theorem Xku (l:List X1):∀ (xs:List X1) (k j:Nat),wrN l xs k=some j->k<=j/\j<k+xs.length
 |[],k,j,h=>by cases h
 |x::xs,k,j,h=>by
  unfold wrN at h;split at h
  ·have:=Xku l xs (k+1) j h;simp only[List.length_cons];omega
  ·cases h;simp only[List.length_cons];omega
theorem X7b {l:List X1} (h0:∀ x∈l,0<=x.Kind):X7o l=some (kOf l):=by
 unfold X7o kOf;rw[X4h h0,Yo];by_cases hz:nchk l=0
 ·obtain⟨h60,h1,_⟩:=Xbq hz;rw[if_neg om,hz,show((0:Int) != 0)=false from rfl,cond_false];unfold X6y;rw[X2o om,Yo];have ht:=Xjv om (X6v hz) l 0 rfl;rw[show gvs l 0=[] from by unfold gvs;simp] at ht;rw[ht]
  cases hw:wrN l l 0 with
  |some j =>
   have:=(Xku l l 0 j hw).2;simp only[Yo];rw[Yt (show(j:Int)<(l.length:Int) by omega)];rfl
  |none =>
   simp only[Yo];rw[Yf (show ¬ (l.length:Int)<(l.length:Int) by omega),cond_false,Xv om om,Xhq (Nat.le_refl _) om om];rfl
 ·rw[if_pos hz,show(nchk l != 0)=true by simp[hz]];rfl
theorem Xb2 {l:List X1}:X8u l=some (kOf l):=by
 unfold X8u kOf;rw[X7x,Yo];by_cases hz:nchk l=0
 ·obtain⟨h60,h1,_⟩:=Xbq hz;rw[if_neg om,hz,show((0:Int) != 0)=false from rfl,cond_false];unfold X8t;rw[X2o om,Yo,Xkt (X6v hz) l 0 rfl]
  cases hw:wrN l l 0 with
  |some j =>
   have:=(Xku l l 0 j hw).2;simp only[Yo];rw[Yt (show(j:Int)<(l.length:Int) by omega)];rfl
  |none =>
   simp only[Yo];obtain⟨e,he,hk⟩:=X90 (l:=l) (i:=(l.length:Int) - 1) om om;rw[Yf (show ¬ (l.length:Int)<(l.length:Int) by omega),cond_false,Xv om om,he,Yo,Xad,hk];rfl
 ·rw[if_pos hz,show(nchk l != 0)=true by simp[hz]];rfl
def X1i (l:List X1) (b:Bool):Int×Int :=
 if (kOf l).2.2=0/\(kOf l).1≠b then ((kOf l).2.1,42) else ((kOf l).2.1,(kOf l).2.2)
theorem Xbs {l:List X1} {b:Bool} (h0:∀ x∈l,0<=x.Kind):X6x l b=some (X1i l b):=by
 unfold X6x X1i;rw[X7b h0,Yo];by_cases hz:(kOf l).2.2=0
 ·rw[hz,show((0:Int)==0)=true from rfl,cond_true];cases hb:(kOf l).1<;>cases b<;>simp
 ·rw[show((kOf l).2.2==0)=false by simp[hz],cond_false,cond_false,if_neg (λh=>hz h.1)];rfl
theorem Xbl {l:List X1} {b:Bool}:X5t l b=some (X1i l b):=by
 unfold X5t X1i;rw[Xb2,Yo];by_cases hz:(kOf l).2.2=0
 ·rw[hz,show((0:Int)==0)=true from rfl,cond_true];cases hb:(kOf l).1<;>cases b<;>simp
 ·rw[show((kOf l).2.2==0)=false by simp[hz],cond_false,cond_false,if_neg (λh=>hz h.1)]
def Xnt (s:List Int) (j:Bool):Bool:=s.length==0||(j&&s.length != 2)||s.any λx=>decide (x<0)||decide (x>3)
def X4g (s:List Int) (j:Bool):Int :=
 if s.length>4 then 4 else if Xnt s j then 8 else if s.Nodup then 0 else 43
theorem Xig (Y:List Int):∀ (xs:List Int) (k:Nat),∃ o,X0e Y xs k=some o/\((xs.any λx=>decide (x<0)||decide (x>3))=true->∃ j:Nat,o=.x1 (j:Int))/\((xs.any λx=>decide (x<0)||decide (x>3))=false->o=.x0)
 |[],k=>⟨.x0,rfl,by simp,λ_=>rfl⟩
 |x::xs,k=>by
  obtain⟨o,h1,h2,h3⟩:=Xig Y xs (k+1);rw[X0e];unfold X4e;rw[Yo];by_cases hx:x<0\/x>3
  ·have:(bif decide (x<0) then true else decide (x >= 4))=true:=by
    rcases hx with h|h
    ·rw[Yt h];rfl
    ·rw[Yf om,Yt om];rfl
   rw[this];refine⟨_,rfl,λ_=>⟨k,rfl⟩,λh=>?_⟩;exfalso;simp only[List.any_cons,Bool.or_eq_false_iff,decide_eq_false_iff_not] at h;omega
  ·have:(bif decide (x<0) then true else decide (x >= 4))=false:=by
    rw[Yf om,Yf om];rfl
   rw[this];refine⟨o,h1,λh=>h2 ?_,λh=>h3 ?_⟩
   ·rw[List.any_cons,Yf om,Yf om] at h;exact h
   ·rw[List.any_cons,Yf om,Yf om] at h;exact h
theorem Xkl {s:List Int} (hn:s.length<=1000):Xo s=some (s.any λx=>decide (x<0)||decide (x>3)):=by
 unfold Xo X0d;rw[X2o om,Yo];obtain⟨o,h1,h2,h3⟩:=Xig s s 0;rw[h1]
 cases hb:(s.any λx=>decide (x<0)||decide (x>3)) with
 |true=>obtain⟨j,rfl⟩:=h2 hb;simp
 |false=>rw[h3 hb];rfl
end Go.D


namespace Go.D
inductive Ex where
 |leaf (k n t:Int)
 |un (k t:Int) (a:Ex)
 |bin (k t:Int) (a b:Ex)
def Ex.sz:Ex->Nat
 |.leaf ..=>1
 |.un _ _ a=>a.sz+1
 |.bin _ _ a b=>a.sz+b.sz+1
def Ex.dp:Ex->Nat
 |.leaf ..=>1
 |.un _ _ a=>a.dp+1
 |.bin _ _ a b=>max a.dp b.dp+1
def Ex.fl:Ex->Int->List X1
 |.leaf k n t,_=>[⟨k,n,0,0,t⟩]
 |.un k t a,o=>a.fl o++[⟨k,0,o+a.sz - 1,0,t⟩]
 |.bin k t a b,o=>a.fl o++(b.fl (o+a.sz)++[⟨k,0,o+a.sz - 1,o+a.sz+b.sz - 1,t⟩])
def Ex.kd:Ex->Int
 |.leaf k _ _=>k
 |.un k _ _=>k
 |.bin k _ _ _=>k
def Ex.tx:Ex->Int
 |.leaf _ _ t=>t
 |.un _ t _=>t
 |.bin _ t _ _=>t
def Ex.ok:Ex->Prop
 |.leaf k n t=>1<=k/\k<=4/\0<=n/\(n=0\/k=1)/\0<=t/\t<=400
 |.un k t a=>5<=k/\k<=6/\0<=t/\t<=400/\a.ok
 |.bin k t a b=>7<=k/\k<=19/\0<=t/\t<=400/\a.ok/\b.ok
def Ex.sdo:Ex->List (Nat×Nat)
 |.leaf ..=>[(1,1)]
 |.un _ _ a=>a.sdo++[(a.sz+1,a.dp+1)]
 |.bin _ _ a b=>a.sdo++(b.sdo++[(a.sz+b.sz+1,max a.dp b.dp+1)])
theorem Ex.sz_pos (e:Ex):1<=e.sz:=by cases e<;>simp[Ex.sz]
theorem Ex.dp_le (e:Ex):e.dp<=e.sz:=by induction e<;>simp[Ex.sz,Ex.dp]<;>omega
theorem Ex.dp_pos (e:Ex):1<=e.dp:=by cases e<;>simp[Ex.dp]
theorem Ex.fl_len (e:Ex):∀ o,(e.fl o).length=e.sz:=by
 induction e with
 |leaf=>intro o;rfl
 |un k t a ih=>intro o;simp[Ex.fl,Ex.sz,ih]
 |bin k t a b iha ihb=>intro o;simp[Ex.fl,Ex.sz,iha,ihb];omega
theorem Ex.sdo_len (e:Ex):e.sdo.length=e.sz:=by
 induction e with
 |leaf=>rfl
 |un k t a ih=>simp[Ex.sdo,Ex.sz,ih]
 |bin k t a b iha ihb=>simp[Ex.sdo,Ex.sz,iha,ihb];omega
theorem Ex.sdo_last (e:Ex):∃ l,e.sdo=l++[(e.sz,e.dp)]/\l.length+1=e.sz:=by
 cases e with
 |leaf=>exact⟨[],rfl,rfl⟩
 |un k t a=>exact⟨a.sdo,rfl,by simp[Ex.sz,a.sdo_len]⟩
 |bin k t a b=>exact⟨a.sdo++b.sdo,by simp[Ex.sdo,Ex.sz,Ex.dp],by simp[Ex.sz,a.sdo_len,b.sdo_len]⟩
def Ex.rt:Ex->Int->X1
 |.leaf k n t,_=>⟨k,n,0,0,t⟩
 |.un k t a,o=>⟨k,0,o+a.sz - 1,0,t⟩
 |.bin k t a b,o=>⟨k,0,o+a.sz - 1,o+a.sz+b.sz - 1,t⟩
theorem Ex.fl_last (e:Ex) (o:Int):∃ l,e.fl o=l++[e.rt o]/\l.length+1=e.sz:=by
 cases e with
 |leaf=>exact⟨[],rfl,rfl⟩
 |un k t a=>exact⟨a.fl o,rfl,by simp[Ex.sz,a.fl_len]⟩
 |bin k t a b=>exact⟨a.fl o++b.fl (o+a.sz),by simp[Ex.fl,Ex.rt],by simp[Ex.sz,a.fl_len,b.fl_len]⟩
theorem Ex.rt_kd (e:Ex) (o:Int):(e.rt o).Kind=e.kd:=by cases e<;>rfl
theorem Ex.rt_at (e:Ex) (o:Int):(e.rt o).At=e.tx:=by cases e<;>rfl
theorem X79:∀ (xs ys:List X1) (sd:List (Nat×Nat)),Xap (xs++ys) sd=(Xap xs sd).bind (Xap ys)
 |[],ys,sd=>rfl
 |x::xs,ys,sd=>by
  rw[List.cons_append];unfold Xap
  cases nst sd x with
  |none=>rfl
  |some q=>exact X79 xs ys _
theorem Xdz (x:X1) (sd:List (Nat×Nat)):Xap [x] sd=(nst sd x).map λq=>sd++[q]:=by
 unfold Xap;cases nst sd x<;>rfl
theorem Xx9 (e:Ex):∀ (sd:List (Nat×Nat)) (o:Int),o=sd.length->e.ok->Xap (e.fl o) sd=some (sd++e.sdo):=by
 induction e with
 |leaf k n t =>
  intro sd o ho ⟨h1,h2,h3,h4,h5,h6⟩;rw[Ex.fl,Xdz];unfold nst;rw[if_pos h2,if_pos ⟨h1,by show k<=19;omega,h3,h4,h5,h6,rfl,rfl⟩];rfl
 |un k t a ih =>
  intro sd o ho ⟨h1,h2,h3,h4,h5⟩;rw[Ex.fl,X79,ih sd o ho h5,Yo,Xdz];obtain⟨l,hl,hn⟩:=a.sdo_last;unfold nst;rw[if_neg (by show ¬ k<=4;omega),Ex.sdo,hl,<-List.append_assoc,List.getLast?_concat];simp only[];rw[if_pos h2,if_pos ⟨by show 1<=k;omega,by show k<=19;omega,Int.le_refl _,.inl rfl,h3,h4,by simp only[List.length_append,List.length_singleton];omega,rfl⟩];simp[Nat.add_comm]
 |bin k t a b iha ihb =>
  intro sd o ho ⟨h1,h2,h3,h4,h5,h6⟩;rw[Ex.fl,X79,iha sd o ho h5,Yo,X79,ihb _ (o+a.sz) (by rw[List.length_append,a.sdo_len];omega) h6,Yo,Xdz];obtain⟨l,hl,hn⟩:=b.sdo_last;obtain⟨m,hm,hk⟩:=a.sdo_last;have hb:=b.sz_pos;unfold nst;have e1:(sd++a.sdo++b.sdo).getLast?=some (b.sz,b.dp):=by rw[hl,<-List.append_assoc,List.getLast?_concat]
  have e2:(sd++a.sdo++b.sdo).length=sd.length+a.sz+b.sz:=by simp[a.sdo_len,b.sdo_len];omega
  have e3:(sd++a.sdo++b.sdo)[(sd++a.sdo++b.sdo).length - 1 - b.sz]?=some (a.sz,a.dp):=by
   rw[e2,hm,show sd++(m++[(a.sz,a.dp)])++b.sdo=(sd++m)++((a.sz,a.dp)::b.sdo) by simp,List.getElem?_append_right (by simp;omega)];rw[show sd.length+a.sz+b.sz - 1 - b.sz - (sd++m).length=0 by simp;omega];rfl
  rw[if_neg (by show ¬ k<=4;omega),e1];simp only[];rw[if_neg (by show ¬ k<=6;omega),if_neg (by rw[e2];have:=a.sz_pos;omega),e3];simp only[];rw[if_pos ⟨by show 1<=k;omega,h2,Int.le_refl _,.inl rfl,h3,h4,by rw[e2];show o+a.sz - 1=_;omega,by rw[e2];show o+a.sz+b.sz - 1=_;omega⟩];simp[Ex.sdo,Nat.max_comm,Nat.add_comm,Nat.add_left_comm]
def flS:List Ex->Int->List X1
 |[],_=>[]
 |e::r,o=>e.fl o++flS r (o+e.sz)
def szS:List Ex->Nat
 |[]=>0
 |e::r=>e.sz+szS r
def sdS:List Ex->List (Nat×Nat)
 |[]=>[]
 |e::r=>e.sdo++sdS r
theorem X92 (e:Ex):∀ (l:List Ex) (o:Int),flS (l++[e]) o=flS l o++e.fl (o+szS l)
 |[],o=>by simp[flS,szS]
 |a::l,o=>by simp[flS,szS,X92 e l,List.append_assoc,Int.add_assoc]
theorem Xbj (e:Ex):∀ (l:List Ex),szS (l++[e])=szS l+e.sz
 |[]=>by simp[szS]
 |a::l=>by simp[szS,Xbj e l];omega
theorem X56 (e:Ex):∀ (l:List Ex),sdS (l++[e])=sdS l++e.sdo
 |[]=>by simp[sdS]
 |a::l=>by simp[sdS,X56 e l]
theorem Xem:∀ (l:List Ex),(sdS l).length=szS l
 |[]=>rfl
 |a::l=>by simp[sdS,szS,Xem l,a.sdo_len]
theorem Xh6 {α:Type} {l:List α} (h:l≠[]):∃ r a,l=r++[a]:=⟨l.dropLast,l.getLast h,(List.dropLast_concat_getLast h).symm⟩
theorem Xo5 {α:Type} {p:List α->Prop} (h0:p []) (h1:∀ l a,p l->p (l++[a])):∀ (n:Nat) (l:List α),l.length=n->p l
 |0,l,h=>by rw[List.length_eq_zero_iff.1 h];exact h0
 |n+1,l,h=>by
  obtain⟨r,a,rfl⟩:=Xh6 (l:=l) (by intro h2;subst h2;cases h);exact h1 r a (Xo5 h0 h1 n r (by simpa using h))
theorem Xmk (l:List X1):∀ sd,Xap l []=some sd->∃ st:List Ex,(∀ e∈st,e.ok)/\l=flS st 0/\sd=sdS st:=by
 refine Xo5 (p:=λl=>∀ sd,Xap l []=some sd->∃ st:List Ex,(∀ e∈st,e.ok)/\l=flS st 0/\sd=sdS st) ?_ ?_ _ l rfl
 ·intro sd h;cases h;exact⟨[],by simp,rfl,rfl⟩
 ·intro l x ih sd h;rw[X79] at h
  cases hr:Xap l [] with
  |none=>rw[hr] at h;cases h
  |some sd0 =>
   obtain⟨st,h1,h2,h3⟩:=ih sd0 hr;rw[hr,Yo,Xdz] at h
   cases hq:nst sd0 x with
   |none=>rw[hq] at h;cases h
   |some q =>
    rw[hq] at h;cases h
    obtain⟨K,N,A,B,T⟩:=x;have hlen:sd0.length=szS st:=by rw[h3,Xem]
    unfold nst at hq;split at hq
    ·rename_i h4;split at hq
     ·rename_i ho;cases hq
      obtain⟨o1,o2,o3,o4,o5,o6,o7,o8⟩:=ho;simp only at o1 o2 o3 o4 o5 o6 o7 o8 h4;subst o7 o8;refine⟨st++[.leaf K N T],?_,?_,?_⟩
      ·intro e he;rcases List.mem_append.1 he with he|he
       ·exact h1 e he
       ·rw[List.mem_singleton.1 he];exact⟨o1,h4,o3,o4,o5,o6⟩
      ·rw[X92,h2];rfl
      ·rw[X56,h3];rfl
     ·cases hq
    ·rename_i h4;simp only at h4;split at hq
     ·cases hq
     ·rename_i s2 d2 hg;have hne:st≠[]:=by
       intro h0;subst h0;rw[h3] at hg;cases hg
      obtain⟨st1,b,rfl⟩:=Xh6 hne;obtain⟨lb,hlb,hlbn⟩:=b.sdo_last;rw[Xbj] at hlen;have hg2:(s2,d2)=(b.sz,b.dp):=by
       rw[h3,X56,hlb,<-List.append_assoc,List.getLast?_concat] at hg;exact(Option.some.inj hg).symm
      cases hg2
      split at hq
      ·rename_i h6;simp only at h6;split at hq
       ·rename_i ho;cases hq
        obtain⟨o1,o2,o3,o4,o5,o6,o7,o8⟩:=ho;simp only at o1 o2 o3 o4 o5 o6 o7 o8;have hn:N=0:=by omega
        subst hn o8;refine⟨st1++[.un K T b],?_,?_,?_⟩
        ·intro e he;rcases List.mem_append.1 he with he|he
         ·exact h1 e (List.mem_append_left _ he)
         ·rw[List.mem_singleton.1 he];exact⟨by omega,h6,o5,o6,h1 b (by simp)⟩
        ·rw[X92,h2,X92,Ex.fl,List.append_assoc];congr 3
         rw[o7,hlen];congr 1;omega
        ·rw[X56,h3,X56,Ex.sdo];simp[Nat.add_comm]
       ·cases hq
      ·rename_i h6;simp only at h6;split at hq
       ·cases hq
       ·rename_i hlt;split at hq
        ·cases hq
        ·rename_i s1 d1 hg1;have hne1:st1≠[]:=by
          intro h0;subst h0;simp only[szS] at hlen;have:=b.sz_pos;omega
         obtain⟨st2,a,rfl⟩:=Xh6 hne1;rw[Xbj] at hlen;obtain⟨la,hla,hlan⟩:=a.sdo_last;have hg3:(s1,d1)=(a.sz,a.dp):=by
          rw[hlen,h3,X56,X56,hla,show sdS st2++(la++[(a.sz,a.dp)])++b.sdo=(sdS st2++la)++((a.sz,a.dp)::b.sdo) by simp,
           List.getElem?_append_right (by simp[Xem];omega),show szS st2+a.sz+b.sz - 1 - b.sz - (sdS st2++la).length=0 by simp[Xem];omega] at hg1
          exact(Option.some.inj hg1).symm
         cases hg3
         split at hq
         ·rename_i ho;cases hq
          obtain⟨o1,o2,o3,o4,o5,o6,o7,o8⟩:=ho;simp only at o1 o2 o3 o4 o5 o6 o7 o8;have hn:N=0:=by omega
          subst hn;refine⟨st2++[.bin K T a b],?_,?_,?_⟩
          ·intro e he;rcases List.mem_append.1 he with he|he
           ·exact h1 e (List.mem_append_left _ (List.mem_append_left _ he))
           ·rw[List.mem_singleton.1 he];exact⟨by omega,o2,o5,o6,h1 a (by simp),h1 b (by simp)⟩
          ·rw[X92,h2,X92,X92,Ex.fl,Xbj];simp only[List.append_assoc];congr 2
           ·congr 1
            ·congr 1;omega
            ·congr 2
             ·rw[o7,hlen];omega
             ·rw[o8,hlen];omega
          ·rw[X56,h3,X56,X56,Ex.sdo];simp only[List.append_assoc];congr 4
           simp only[Prod.mk.injEq];exact⟨by omega,by omega⟩
         ·cases hq
theorem Xoj {l:List X1} (h:nchk l=0):∃ e:Ex,e.ok/\e.sz<=60/\e.dp<=20/\l=e.fl 0/\Xap l []=some e.sdo:=by
 unfold nchk at h;split at h
 ·cases h
 ·rename_i h60;split at h
  ·cases h
  ·rename_i sd hr;obtain⟨st,h1,h2,h3⟩:=Xmk l sd hr;split at h
   ·cases h
   ·rename_i q hq;have hne:st≠[]:=by
     intro h0;subst h0;rw[h3] at hq;cases hq
    obtain⟨st1,b,rfl⟩:=Xh6 hne;obtain⟨lb,hlb,hlbn⟩:=b.sdo_last;have hg:q=(b.sz,b.dp):=by
     rw[h3,X56,hlb,<-List.append_assoc,List.getLast?_concat] at hq;exact(Option.some.inj hq).symm
    subst hg;have hn:=Xbp l [] sd hr;rw[h3,Xem,Xbj] at hn;simp only[List.length_nil,Nat.zero_add] at hn;split at h
    ·rename_i hs;simp only at hs;have hs1:st1=[]:=by
      cases st1 with
      |nil=>rfl
      |cons a r=>exfalso;have:=a.sz_pos;simp only[szS] at hn;omega
     subst hs1;split at h
     ·cases h
     ·rename_i hd;simp only at hd;refine⟨b,h1 b (by simp),by omega,by omega,?_,?_⟩
      ·rw[h2];simp[flS]
      ·rw[hr,h3];simp[sdS]
    ·cases h
theorem X54 {e:Ex} (h:e.ok) (hs:e.sz<=60) (hd:e.dp<=20):nchk (e.fl 0)=0/\Xap (e.fl 0) []=some e.sdo:=by
 have hr:=Xx9 e [] 0 rfl h;rw[List.nil_append] at hr;refine⟨?_,hr⟩;obtain⟨l,hl,_⟩:=e.sdo_last;unfold nchk;rw[if_neg (by rw[e.fl_len];omega),hr];simp only[];rw[hl,List.getLast?_concat];simp only[];rw[if_pos (by rw[e.fl_len]),if_neg om]
end Go.D


namespace Go.D
theorem X05x (a:Int):0<=bits .and .i64 a 63:=by
 unfold bits;simp only;have h:((BitVec.ofInt IntKind.i64.bits a) &&& (BitVec.ofInt IntKind.i64.bits 63)).toNat<=63:=by
  rw[BitVec.toNat_and];exact Nat.le_trans Nat.and_le_right (by decide)
 rw[Xv om om];omega
theorem Xbg (b:Bool):X2q b=some (if b then 1 else 0):=by cases b<;>rfl
theorem Xgs {K a b:Int} (h1:5<=K) (h2:K<=19):∃ v,X6h K a b=some (v,0):=by
 have hs:Xur (bits .and .i64 b 63)=some ():=by unfold Xur;rw[if_pos (X05x b)]
 unfold X6h;simp only[Xbg,hs,Yo];rcases(by omega:K=5\/K=6\/K=7\/K=8\/K=9\/K=10\/K=11\/K=12\/K=13\/K=14\/K=15\/K=16\/K=17\/K=18\/K=19) with h|h|h|h|h|h|h|h|h|h|h|h|h|h|h<;>subst h<;>exact⟨_,rfl⟩
def i64 (z:Int):Prop := -9223372036854775808<=z/\z<=9223372036854775807
theorem Xac (z:Int):i64 (IntKind.i64.wrap z):=by rw[Xe8];unfold i64;omega
theorem X01x {z:Int} (h:i64 z):IntKind.i64.wrap z=z:=Xv h.1 h.2
theorem Xbw (b:Bool):i64 (if b then 1 else 0):=by unfold i64;cases b<;>simp
theorem Xi4 (a:Int):(BitVec.ofInt 64 a).toNat=(a % 18446744073709551616).toNat:=by
 rw[BitVec.toNat_ofInt];rfl
theorem X02m (a:Int):bits .and .i64 a 63=a % 64:=by
 unfold bits;simp only;have h1:((BitVec.ofInt IntKind.i64.bits a) &&& (BitVec.ofInt IntKind.i64.bits 63)).toNat=(a % 64).toNat:=by
  show((BitVec.ofInt 64 a) &&& (BitVec.ofInt 64 63)).toNat=_;rw[BitVec.toNat_and,Xi4,show(BitVec.ofInt 64 63).toNat=2 ^ 6 - 1 by decide,Nat.and_two_pow_sub_one_eq_mod];omega
 rw[h1,Xv om om];omega
theorem Xi2 (a:Int):X8w a=some (a % 64):=by
 unfold X8w;have h:IntKind.u64.wrap a=a % 18446744073709551616:=by
  simp only[IntKind.wrap,IntKind.bits,IntKind.signed];simp
 have h0:(0:Int)<=a % 18446744073709551616:=by omega
 rw[h,Int.tmod_eq_emod_of_nonneg h0,Xv om om];congr 1;omega
theorem X048 {a b:Int} (ha:i64 a) (hb:i64 b):(bits .or .i64 a b != 0)=(bif (a != 0) then true else (b != 0)):=by
 unfold bits;simp only;have key:((BitVec.ofInt IntKind.i64.bits a) ||| (BitVec.ofInt IntKind.i64.bits b)).toNat=0↔a=0/\b=0:=by
  show((BitVec.ofInt 64 a) ||| (BitVec.ofInt 64 b)).toNat=0↔_;rw[BitVec.toNat_or,Nat.or_eq_zero_iff,Xi4,Xi4];unfold i64 at ha hb;omega
 have hlt:((BitVec.ofInt IntKind.i64.bits a) ||| (BitVec.ofInt IntKind.i64.bits b)).toNat<18446744073709551616:=BitVec.isLt _;generalize ((BitVec.ofInt IntKind.i64.bits a) ||| (BitVec.ofInt IntKind.i64.bits b)).toNat=n at key hlt;have hw:IntKind.i64.wrap (n:Int)=0↔n=0:=by rw[Xe8];omega
 by_cases h0:n=0
 ·obtain⟨rfl,rfl⟩:=key.1 h0;subst h0;simp[show IntKind.i64.wrap (0:Int)=0 from rfl]
 ·have h1:¬ (a=0/\b=0):=λh=>h0 (key.2 h);have h2:IntKind.i64.wrap (n:Int)≠0:=λh=>h0 (hw.1 h);rw[show(IntKind.i64.wrap (n:Int) != 0)=true by simpa using h2];by_cases ha0:a=0
  ·have:b≠0:=λhb0=>h1 ⟨ha0,hb0⟩;simp[ha0,this]
  ·simp[ha0]
theorem Xy5 {a:Int} (h:i64 a):Xcl a=some (a.fdiv 2):=by
 unfold Xcl;unfold i64 at h;have hf:a.fdiv 2=a / 2:=Int.fdiv_eq_ediv_of_nonneg _ om;have e:=Int.tdiv_eq_ediv (a:=a) (b:=2);rw[show Int.sign 2=1 from rfl] at e;have e0:=Int.tmod_add_mul_tdiv a 2;by_cases hn:a.tmod 2<0
 ·rw[Yt hn,cond_true];have h2:a.tdiv 2=a / 2+1:=by split at e<;>omega
  rw[hf,h2,Xv (z:=a / 2+1) om om,Xv om om];congr 1;omega
 ·rw[Yf hn,cond_false];have h2:a.tdiv 2=a / 2:=by split at e<;>omega
  rw[hf,h2,Xv om om]
theorem Xta {a:Int} (h:i64 a):i64 (a.fdiv 2):=by
 rw[Int.fdiv_eq_ediv_of_nonneg _ om];unfold i64 at *;omega
theorem Xsj (c:Int) (hc:c<64):∀ (m n i:Nat) (y:Int),m=(c - (i:Int)).toNat->m<n->(i:Int)<=c->X3k c n y (i:Int)=some (.x0 (IntKind.i64.wrap (y*2 ^ m)))\/(m=0/\X3k c n y (i:Int)=some (.x0 y)):=by
 intro m
 induction m with
 |zero =>
  intro n i y hm hn hi;obtain⟨n,rfl⟩:∃ q,n=q+1:=⟨n - 1,by omega⟩;right;refine⟨rfl,?_⟩;rw[X3k,Yf om];rfl
 |succ m ih =>
  intro n i y hm hn hi;obtain⟨n,rfl⟩:∃ q,n=q+1:=⟨n - 1,by omega⟩;left;rw[X3k,Yt om,cond_true];have e:IntKind.i64.wrap ((i:Int)+1)=((i+1:Nat):Int):=by rw[Xv om om];omega
  rw[e];have hw:IntKind.i64.wrap (IntKind.i64.wrap (y+y)*2 ^ m)=IntKind.i64.wrap (y*2 ^ (m+1)):=by
   rw[Int.pow_succ];have:y*(2 ^ m*2)=(y+y)*2 ^ m:=by rw[Int.add_mul,<-Int.mul_assoc,Int.mul_comm (y*2 ^ m) 2];omega
   rw[this];generalize y+y=z;generalize (2:Int) ^ m=q;simp only[Xe8];have h1:∃ k:Int,(z+9223372036854775808) % 18446744073709551616 - 9223372036854775808=z+18446744073709551616*k:=⟨-((z+9223372036854775808) / 18446744073709551616),by omega⟩;obtain⟨k,hk⟩:=h1;rw[hk,Int.add_mul,Int.mul_assoc];generalize k*q=j;omega
  rcases ih n (i+1) (IntKind.i64.wrap (y+y)) om om om with h|⟨h0,h⟩
  ·rw[h,hw]
  ·subst h0;rw[h,<-hw];simp only[Int.pow_zero,Int.mul_one];rw[X01x (Xac _)]
theorem Xsi {c:Int} (h0:0<=c) (hc:c<64):∃ v,X8v c=some v/\∀ a,IntKind.i64.wrap (a*v)=IntKind.i64.wrap (a*2 ^ c.toNat):=by
 unfold X8v;rcases Xsj c hc c.toNat FU 0 1 om (by unfold FU;omega) om with h|⟨hz,h⟩
 ·refine⟨_,by rw[show(0:Int)=((0:Nat):Int) from rfl,h];rfl,λa=>?_⟩;rw[Int.one_mul];generalize (2:Int) ^ c.toNat=z;simp only[Xe8];have h1:∃ k:Int,(z+9223372036854775808) % 18446744073709551616 - 9223372036854775808=z+18446744073709551616*k:=⟨-((z+9223372036854775808) / 18446744073709551616),by omega⟩;obtain⟨k,hk⟩:=h1;rw[hk,Int.mul_add,Int.mul_left_comm];generalize a*k=j;omega
 ·refine⟨1,by rw[show(0:Int)=((0:Nat):Int) from rfl,h];rfl,λa=>?_⟩;rw[hz];simp
theorem Xtg (b:Int) (c:Int) (hb:b % 64=c):∀ (m n i:Nat) (y:Int),m=(c - (i:Int)).toNat->m<n->(i:Int)<=c->i64 y->X3l b n y (i:Int)=some (.x0 (y.fdiv (2 ^ m)))/\i64 (y.fdiv (2 ^ m)):=by
 intro m
 induction m with
 |zero =>
  intro n i y hm hn hi hy;obtain⟨n,rfl⟩:∃ q,n=q+1:=⟨n - 1,by omega⟩;have e:y.fdiv (2 ^ 0)=y:=by rw[Int.pow_zero,Int.fdiv_one]
  rw[e];refine⟨?_,hy⟩;rw[X3l,Xi2,Yo,Yf om];rfl
 |succ m ih =>
  intro n i y hm hn hi hy;obtain⟨n,rfl⟩:∃ q,n=q+1:=⟨n - 1,by omega⟩;have e:IntKind.i64.wrap ((i:Int)+1)=((i+1:Nat):Int):=by rw[Xv om om];omega
  have e2:y.fdiv (2 ^ (m+1))=(y.fdiv 2).fdiv (2 ^ m):=by
   have hp:(0:Int)<=2 ^ m:=Int.pow_nonneg om;rw[Int.fdiv_eq_ediv_of_nonneg y (Int.pow_nonneg om),Int.fdiv_eq_ediv_of_nonneg (y.fdiv 2) hp,Int.fdiv_eq_ediv_of_nonneg y (show(0:Int)<=2 by omega),Int.pow_succ,Int.mul_comm,Int.ediv_ediv_of_nonneg om]
  obtain⟨g1,g2⟩:=ih n (i+1) (y.fdiv 2) om om om (Xta hy);rw[e2];refine⟨?_,g2⟩;rw[X3l,Xi2,Yo,Yt om,cond_true,Xy5 hy,Yo,e,g1]
theorem Xnm (b:Bool):X77 b=some (if b then 1 else 0):=by cases b<;>rfl
theorem Xe3 {K a b:Int} (h1:5<=K) (h2:K<=19) (ha:i64 a) (hb:i64 b):∃ v,X6h K a b=some (v,0)/\X40 K a b=some v/\i64 v:=by
 have hs:Xur (b % 64)=some ():=by unfold Xur;rw[if_pos om]
 have hmin:min (Int.toNat (b % 64)) IntKind.i64.bits=(b % 64).toNat:=by
  show min (Int.toNat (b % 64)) 64=_;omega
 unfold X6h X40 Xbm;simp only[Xbg,Xnm,hs,X02m,Xi2,Yo,hmin];rcases(by omega:K=5\/K=6\/K=7\/K=8\/K=9\/K=10\/K=11\/K=12\/K=13\/K=14\/K=15\/K=16\/K=17\/K=18\/K=19) with h|h|h|h|h|h|h|h|h|h|h|h|h|h|h<;>subst h
 ·exact⟨_,rfl,rfl,Xac _⟩
 ·exact⟨_,rfl,rfl,Xbw _⟩
 ·exact⟨_,rfl,rfl,Xac _⟩
 ·exact⟨_,rfl,rfl,Xac _⟩
 ·exact⟨_,rfl,rfl,Xac _⟩
 ·obtain⟨v,hv,hw⟩:=Xsi (c:=b % 64) om om;refine⟨_,rfl,?_,Xac _⟩;show(X8v (b % 64)).bind (λv11=>some (IntKind.i64.wrap (a*v11)))=_;rw[hv,Yo,hw]
 ·obtain⟨g1,g2⟩:=Xtg b (b % 64) rfl (b % 64).toNat FU 0 a om (by unfold FU;omega) om ha;refine⟨_,rfl,?_,g2⟩;show(X3l b FU a ((0:Nat):Int)).bind _=_;rw[g1];rfl
 ·exact⟨_,rfl,rfl,Xbw _⟩
 ·refine⟨_,rfl,?_,Xbw _⟩;show some (if (bif decide (a<b) then true else a==b)=true then (1:Int) else 0)=_;congr 2
  by_cases h:a<b
  ·simp[h];omega
  ·by_cases h3:a=b
   ·simp[h3]
   ·simp[h,h3];omega
 ·exact⟨_,rfl,rfl,Xbw _⟩
 ·refine⟨_,rfl,?_,Xbw _⟩;show some (if (bif decide (b<a) then true else a==b)=true then (1:Int) else 0)=_;congr 2
  by_cases h:b<a
  ·simp[h];omega
  ·by_cases h3:a=b
   ·simp[h3]
   ·simp[h,h3];omega
 ·exact⟨_,rfl,rfl,Xbw _⟩
 ·exact⟨_,rfl,rfl,Xbw _⟩
 ·exact⟨_,rfl,rfl,Xbw _⟩
 ·refine⟨_,rfl,?_,Xbw _⟩;rw[X048 ha hb];rfl
end Go.D


namespace Go.D
theorem Xlw {l:List X1} (env:V5 Int) (ho:∀ j x,l[j]?=some x->Xc1 x j):∀ (xs:List X1) (k:Nat) (vs:List Int),l.drop k=xs->vs.length=l.length->∃ vs',X1g env l xs k vs=some (.x0 vs')/\vs'.length=l.length
 |[],k,vs,_,hv=>⟨vs,rfl,hv⟩
 |x::xs,k,vs,h,hv=>by
  have hk:l[k]?=some x:=by
   have:(l.drop k)[0]?=some x:=by rw[h];rfl
   simpa using this
  have hd:l.drop (k+1)=xs:=by
   have:(l.drop k).drop 1=xs:=by rw[h];rfl
   rw[List.drop_drop] at this;exact this
  have hlt:=(Ys.1 hk).1;have hx:=ho k x hk;have hg:getI vs (k:Int)=some (vs[k]' om):=by rw[X2u];exact Ye _
  have go:∀ z,∃ vs',X1g env l xs (k+1) (vs.set (Int.toNat (k:Int)) z)=some (.x0 vs')/\vs'.length=l.length:=λz=>Xlw env ho xs (k+1) _ hd (by rw[List.length_set];exact hv);rw[X1g];have h1:=hx.lo;have h2:=hx.hi;by_cases k1:x.Kind=1
  ·rw[show(x.Kind==1)=true by simp[k1],cond_true,hg,Yo];exact go _
  ·rw[show(x.Kind==1)=false by simp[k1],cond_false];by_cases k4:x.Kind<=4
   ·rw[Yt k4,cond_true,show(x.Kind==0)=false by simp;omega,hg];simp only[Yo,cond_false];rcases(by omega:x.Kind=2\/x.Kind=3\/x.Kind=4) with h|h|h
    ·rw[h];exact go _
    ·rw[h];exact go _
    ·rw[h];exact go _
   ·rw[Yf k4,cond_false];have hA:=hx.ak om;have hB:=hx.bk om;obtain⟨a,ha,_⟩:=X9t (l:=vs) hx.a0 om;obtain⟨b,hb,_⟩:=X9t (l:=vs) hx.b0 om;obtain⟨v,hdo⟩:=Xgs (K:=x.Kind) (a:=a) (b:=b) om h2;rw[ha,Yo,hb,Yo,hdo,hg];exact go _
def evV (l:List X1) (r:X1w):Int:=match X6r l r with|some v=>v.1|none=>0
theorem Xkf {l:List X1} (h0:∀ x∈l,0<=x.Kind) (h:(kOf l).2.2=0) (r:X1w):X6r l r=some (evV l r,0):=by
 have hz:nchk l=0:=by
  by_cases hz:nchk l=0
  ·exact hz
  ·unfold kOf at h;rw[if_pos hz] at h;exact h
 obtain⟨h60,h1,_⟩:=Xbq hz;have:∃ v,X6r l r=some (v,0):=by
  unfold X6r Xa2 X7e;rw[X7b h0,Yo,Yo,h];have hm:Xrl (l.length:Int) (l.length:Int) 8=some ():=by unfold Xrl;rw[if_pos ⟨by omega,rfl,by omega⟩]
  rw[hm,X2o om];obtain⟨vs,hvs,hl⟩:=Xlw (V5.mk 0 0 r.Key r.Time r.Value) (X6v hz) l 0 (List.replicate (Int.toNat (l.length:Int)) 0) rfl (by simp);simp only[Yo];rw[hvs];simp only[bne_self_eq_false,cond_false,Yo];rw[hl,Xv om om];obtain⟨v,hv,_⟩:=X9t (l:=vs) (i:=(l.length:Int) - 1) om om;exact⟨v,by rw[hv];rfl⟩
 obtain⟨v,hv⟩:=this;unfold evV;rw[hv]
def Xb4 (l:List X1) (r:X1w) (j:Nat):Int:=(X0a (j+1) l (j:Int) r).getD 0
theorem Xh3 {l:List X1} {r:X1w} (ho:∀ j x,l[j]?=some x->Xc1 x j) (hN:∀ x∈l,i64 x.N) (hr:i64 r.Key/\i64 r.Time/\i64 r.Value):∀ (b j:Nat),j<b->j<l.length->∀ n,j<n->X0a n l (j:Int) r=some (Xb4 l r j)/\i64 (Xb4 l r j):=by
 intro b
 induction b with
 |zero=>intro j h;omega
 |succ b ih =>
  intro j _ hj;have main:∃ v,i64 v/\∀ n,j<n->X0a n l (j:Int) r=some v:=by
   have hx:=ho j l[j] (Ye hj);have hg:getI l (j:Int)=some l[j]:=by rw[X2u];exact Ye hj
   generalize hxe:l[j]=x at hx hg;have hmem:x∈l:=by rw[<-hxe];exact List.getElem_mem hj
   by_cases k4:x.Kind<=4
   ·have lo:=hx.lo;rcases(by omega:x.Kind=1\/x.Kind=2\/x.Kind=3\/x.Kind=4) with h|h|h|h
    ·refine⟨x.N,hN x hmem,λn hn=>?_⟩;obtain⟨n,rfl⟩:∃ q,n=q+1:=⟨n - 1,by omega⟩;rw[X0a,hg,Yo,h];rfl
    ·refine⟨r.Key,hr.1,λn hn=>?_⟩;obtain⟨n,rfl⟩:∃ q,n=q+1:=⟨n - 1,by omega⟩;rw[X0a,hg,Yo,h];rfl
    ·refine⟨r.Time,hr.2.1,λn hn=>?_⟩;obtain⟨n,rfl⟩:∃ q,n=q+1:=⟨n - 1,by omega⟩;rw[X0a,hg,Yo,h];rfl
    ·refine⟨r.Value,hr.2.2,λn hn=>?_⟩;obtain⟨n,rfl⟩:∃ q,n=q+1:=⟨n - 1,by omega⟩;rw[X0a,hg,Yo,h];rfl
   ·have hi:=hx.hi;have hA:=hx.ak om;have hB:=hx.bk om;have hA0:=hx.a0;have hB0:=hx.b0;have eA:x.A=((x.A.toNat:Nat):Int):=by omega
    have eB:x.B=((x.B.toNat:Nat):Int):=by omega
    have gA:=ih x.A.toNat om om;have gB:=ih x.B.toNat om om;have e1:(x.Kind==1)=false:=by simp;omega
    have e2:(x.Kind==2)=false:=by simp;omega
    have e3:(x.Kind==3)=false:=by simp;omega
    have e4:(x.Kind==4)=false:=by simp;omega
    have body:∀ n:Nat,j<n+1->X0a (n+1) l (j:Int) r=(X0b x.Kind).bind λv7=>(bif (v7==(2:Int)) then ((X0a n l x.B r).bind λv14=>some v14) else (some 0):Option (Int)).bind λj12=>(X0a n l x.A r).bind λv17=>(X40 x.Kind v17 j12).bind λv19=>some v19:=by
     intro n _;rw[X0a,hg,Yo,e1,e2,e3,e4];rfl
    by_cases k6:x.Kind<=6
    ·obtain⟨v,_,hv,hv2⟩:=Xe3 (K:=x.Kind) (b:=0) om hi (gA (x.A.toNat+1) om).2 (by unfold i64;omega);refine⟨v,hv2,λn hn=>?_⟩;obtain⟨n,rfl⟩:∃ q,n=q+1:=⟨n - 1,by omega⟩;rw[body n hn,show X0b x.Kind=some 1 by unfold X0b;rw[Yf om,Yt k6];rfl,Yo];show(X0a n l x.A r).bind _=_;rw[eA,(gA n om).1,Yo,hv];rfl
    ·obtain⟨v,_,hv,hv2⟩:=Xe3 (K:=x.Kind) om hi (gA (x.A.toNat+1) om).2 (gB (x.B.toNat+1) om).2;refine⟨v,hv2,λn hn=>?_⟩;obtain⟨n,rfl⟩:∃ q,n=q+1:=⟨n - 1,by omega⟩;rw[body n hn,show X0b x.Kind=some 2 by unfold X0b;rw[Yf om,Yf k6];rfl,Yo];show((X0a n l x.B r).bind λv14=>some v14).bind _=_;rw[eB,(gB n om).1,Yo,Yo,eA,(gA n om).1,Yo,hv];rfl
  obtain⟨v,hv,hn⟩:=main;have:Xb4 l r j=v:=by unfold Xb4;rw[hn (j+1) om];rfl
  intro n hjn;rw[this];exact⟨hn n hjn,hv⟩
theorem Xlv {l:List X1} {r:X1w} (ho:∀ j x,l[j]?=some x->Xc1 x j) (hN:∀ x∈l,i64 x.N) (hr:i64 r.Key/\i64 r.Time/\i64 r.Value):∀ (xs:List X1) (k:Nat) (vs:List Int),l.drop k=xs->vs.length=l.length->(∀ j,j<k->vs[j]?=some (Xb4 l r j))->∃ vs',X1g (V5.mk 0 0 r.Key r.Time r.Value) l xs k vs=some (.x0 vs')/\vs'.length=l.length/\(∀ j,j<l.length->vs'[j]?=some (Xb4 l r j))
 |[],k,vs,h,hv,hk=>⟨vs,rfl,hv,λj hj=>hk j (by have:=Go.Av.drop_nil h;omega)⟩
 |x::xs,k,vs,h,hv,hk=>by
  obtain⟨hlt,hkx,hd⟩:=Go.Av.drop_cons h;have hx:=ho k x hkx;have hg:getI vs (k:Int)=some (vs[k]' om):=by rw[X2u];exact Ye _
  have hmem:x∈l:=Yg hkx;have hgl:getI l (k:Int)=some x:=by rw[X2u];exact hkx
  have go:∀ z,z=Xb4 l r k->∃ vs',X1g (V5.mk 0 0 r.Key r.Time r.Value) l xs (k+1) (vs.set (Int.toNat (k:Int)) z)=some (.x0 vs')/\vs'.length=l.length/\(∀ j,j<l.length->vs'[j]?=some (Xb4 l r j)):=by
   intro z hz;refine Xlv ho hN hr xs (k+1) _ hd (by rw[List.length_set];exact hv) λj hj=>?_;rw[Int.toNat_natCast];by_cases hjk:j=k
   ·subst hjk;rw[List.getElem?_set_self om,hz]
   ·rw[List.getElem?_set_ne om];exact hk j om
  have hval:∀ n,k<n->X0a n l (k:Int) r=some (Xb4 l r k):=λn hn=>(Xh3 ho hN hr (k+1) k om hlt n hn).1;have hone:=hval (k+1) om;rw[X0a,hgl,Yo] at hone;rw[X1g];have h1:=hx.lo;have h2:=hx.hi;by_cases k1:x.Kind=1
  ·rw[show(x.Kind==1)=true by simp[k1],cond_true,hg,Yo];rw[k1] at hone;exact go _ (Option.some.inj hone)
  ·rw[show(x.Kind==1)=false by simp[k1],cond_false];by_cases k4:x.Kind<=4
   ·rw[Yt k4,cond_true,show(x.Kind==0)=false by simp;omega,hg];simp only[Yo,cond_false];rcases(by omega:x.Kind=2\/x.Kind=3\/x.Kind=4) with h|h|h
    ·rw[h] at hone ⊢;exact go _ (Option.some.inj hone)
    ·rw[h] at hone ⊢;exact go _ (Option.some.inj hone)
    ·rw[h] at hone ⊢;exact go _ (Option.some.inj hone)
   ·rw[Yf k4,cond_false];have hA:=hx.ak om;have hB:=hx.bk om;have hA0:=hx.a0;have hB0:=hx.b0;have eA:x.A=((x.A.toNat:Nat):Int):=by omega
    have eB:x.B=((x.B.toNat:Nat):Int):=by omega
    have gA:=Xh3 ho hN hr k x.A.toNat om om k om;have gB:=Xh3 ho hN hr k x.B.toNat om om k om;have ga:getI vs x.A=some (Xb4 l r x.A.toNat):=by rw[eA,X2u];exact hk _ om
    have gb:getI vs x.B=some (Xb4 l r x.B.toNat):=by rw[eB,X2u];exact hk _ om
    obtain⟨v,hdo,hgv,_⟩:=Xe3 (K:=x.Kind) om h2 gA.2 gB.2;have e1:(x.Kind==1)=false:=by simp;omega
    have e2:(x.Kind==2)=false:=by simp;omega
    have e3:(x.Kind==3)=false:=by simp;omega
    have e4:(x.Kind==4)=false:=by simp;omega
    rw[e1,e2,e3,e4] at hone;simp only[cond_false] at hone;have hz:v=Xb4 l r k:=by
     rw[eA,gA.1] at hone;by_cases k6:x.Kind<=6
     ·rw[show X0b x.Kind=some 1 by unfold X0b;rw[Yf om,Yt k6];rfl] at hone;have h56:∀ q,X40 x.Kind (Xb4 l r x.A.toNat) q=X40 x.Kind (Xb4 l r x.A.toNat) 0:=by
       intro q;unfold X40;rcases(by omega:x.Kind=5\/x.Kind=6) with h|h<;>rw[h]<;>rfl
      rw[h56] at hgv;simp only[Yo,show((1:Int)==2)=false from rfl,cond_false,hgv] at hone;exact Option.some.inj hone
     ·rw[show X0b x.Kind=some 2 by unfold X0b;rw[Yf om,Yf k6];rfl,eB,gB.1] at hone;simp only[Yo,show((2:Int)==2)=true from rfl,cond_true,hgv] at hone;exact Option.some.inj hone
    rw[ga,Yo,gb,Yo,hdo,hg];exact go _ hz
end Go.D


namespace Go.D
inductive Sub (s:Ex):Nat->Ex->Prop
 |refl:Sub s 0 s
 |un {o:Nat} {k t:Int} {a:Ex} (h:Sub s o a):Sub s o (.un k t a)
 |l {o:Nat} {k t:Int} {a b:Ex} (h:Sub s o a):Sub s o (.bin k t a b)
 |r {o:Nat} {k t:Int} {a b:Ex} (h:Sub s o b):Sub s (a.sz+o) (.bin k t a b)
theorem Sub.fl {s e:Ex} {o:Nat} (h:Sub s o e):∀ base:Int,∃ P S,e.fl base=P++(s.fl (base+o)++S)/\P.length=o:=by
 induction h with
 |refl=>intro base;exact⟨[],[],by simp,rfl⟩
 |un h ih=>intro base;obtain⟨P,S,h1,h2⟩:=ih base;exact⟨P,_,by rw[Ex.fl,h1,List.append_assoc,List.append_assoc],h2⟩
 |l h ih=>intro base;obtain⟨P,S,h1,h2⟩:=ih base;exact⟨P,_,by rw[Ex.fl,h1,List.append_assoc,List.append_assoc],h2⟩
 |@r o k t a b h ih =>
  intro base;obtain⟨P,S,h1,h2⟩:=ih (base+a.sz);refine⟨a.fl base++P,S++[⟨k,0,base+a.sz - 1,base+a.sz+b.sz - 1,t⟩],?_,by simp[a.fl_len,h2]⟩;rw[Ex.fl,h1,show base+(a.sz:Int)+(o:Int)=base+((a.sz+o:Nat):Int) by omega];simp only[List.append_assoc]
theorem Sub.sdo {s e:Ex} {o:Nat} (h:Sub s o e):∃ P S,e.sdo=P++(s.sdo++S)/\P.length=o:=by
 induction h with
 |refl=>exact⟨[],[],by simp,rfl⟩
 |un h ih=>obtain⟨P,S,h1,h2⟩:=ih;exact⟨P,_,by rw[Ex.sdo,h1,List.append_assoc,List.append_assoc],h2⟩
 |l h ih=>obtain⟨P,S,h1,h2⟩:=ih;exact⟨P,_,by rw[Ex.sdo,h1,List.append_assoc,List.append_assoc],h2⟩
 |@r o k t a b h ih =>
  obtain⟨P,S,h1,h2⟩:=ih;exact⟨a.sdo++P,S++[_],by rw[Ex.sdo,h1];simp only[List.append_assoc];rfl,by simp[a.sdo_len,h2]⟩
theorem Sub.le {s e:Ex} {o:Nat} (h:Sub s o e):o+s.sz<=e.sz:=by
 induction h with
 |refl=>omega
 |un h ih=>simp only[Ex.sz];omega
 |l h ih=>simp only[Ex.sz];omega
 |r h ih=>simp only[Ex.sz];omega
theorem Sub.dple {s e:Ex} {o:Nat} (h:Sub s o e):s.dp<=e.dp:=by
 induction h with
 |refl=>omega
 |un h ih=>simp only[Ex.dp];omega
 |l h ih=>simp only[Ex.dp];omega
 |r h ih=>simp only[Ex.dp];omega
theorem Sub.ok {s e:Ex} {o:Nat} (h:Sub s o e):e.ok->s.ok:=by
 induction h with
 |refl=>exact id
 |un h ih=>exact λg=>ih g.2.2.2.2
 |l h ih=>exact λg=>ih g.2.2.2.2.1
 |r h ih=>exact λg=>ih g.2.2.2.2.2
theorem Sub.trans {s m e:Ex} {o p:Nat} (h:Sub s o m) (g:Sub m p e):Sub s (p+o) e:=by
 induction g with
 |refl=>rw[Nat.zero_add];exact h
 |un g ih=>exact .un ih
 |l g ih=>exact .l ih
 |r g ih=>rw[Nat.add_assoc];exact .r ih
theorem Sub.u {e a:Ex} {k t:Int} {o:Nat} (h:Sub (.un k t a) o e):Sub a o e:=(Sub.un Sub.refl).trans h
theorem Sub.a {e a b:Ex} {k t:Int} {o:Nat} (h:Sub (.bin k t a b) o e):Sub a o e:=(Sub.l Sub.refl).trans h
theorem Sub.b {e a b:Ex} {k t:Int} {o:Nat} (h:Sub (.bin k t a b) o e):Sub b (o+a.sz) e:=(Sub.r Sub.refl).trans h
theorem Sub.get {s e:Ex} {o:Nat} (h:Sub s o e):(e.fl 0)[o+s.sz - 1]?=some (s.rt o):=by
 obtain⟨P,S,h1,h2⟩:=h.fl 0;obtain⟨l,h3,h4⟩:=s.fl_last (0+(o:Int));rw[h1,h3,List.getElem?_append_right om,List.append_assoc,List.getElem?_append_right om,show o+s.sz - 1 - P.length - l.length=0 by omega,Int.zero_add];rfl
theorem Sub.getI {s e:Ex} {o:Nat} (h:Sub s o e) {i:Int} (hi:i=(o:Int)+s.sz - 1):getI (e.fl 0) i=some (s.rt o):=by
 have:=s.sz_pos;rw[hi,show(o:Int)+s.sz - 1=((o+s.sz - 1:Nat):Int) by omega,X2u];exact h.get
theorem Sub.sd {s e:Ex} {o:Nat} (h:Sub s o e):e.sdo[o+s.sz - 1]?=some (s.sz,s.dp):=by
 obtain⟨P,S,h1,h2⟩:=h.sdo;obtain⟨l,h3,h4⟩:=s.sdo_last;rw[h1,h3,List.getElem?_append_right om,List.append_assoc,List.getElem?_append_right om,show o+s.sz - 1 - P.length - l.length=0 by omega];rfl
theorem Sub.kindAt {s e:Ex} {o:Nat} (h:Sub s o e) {i:Int} (hi:i=(o:Int)+s.sz - 1):kindAt (e.fl 0) i=s.kd:=by
 unfold Go.D.kindAt;rw[h.getI hi];exact s.rt_kd _
def Ex.ty:Ex->Bool
 |.leaf ..=>true
 |.un k _ a=>a.ty&&(if k=5 then !(giv a.kd) else giv a.kd)
 |.bin k _ a b=>(a.ty&&b.ty)&&(if k<=15 then !(giv a.kd)&&!(giv b.kd) else if k<=17 then giv a.kd==giv b.kd else giv a.kd&&giv b.kd)
theorem Xhw {e:Ex} (s:Ex):∀ (o:Nat),Sub s o e->s.ok->((s.fl o).all (Xcs (e.fl 0))=s.ty):=by
 induction s with
 |leaf k n t =>
  intro o h ⟨h1,h2,_⟩;have:Xcs (e.fl 0) ⟨k,n,0,0,t⟩=true:=by unfold Xcs;rw[if_pos h2]
  simp[Ex.fl,Ex.ty,this]
 |un k t a ih =>
  intro o h ⟨h1,h2,_,_,h5⟩;have hk:=h.u.kindAt (i:=(o:Int)+a.sz - 1) rfl;have:Xcs (e.fl 0) ⟨k,0,(o:Int)+a.sz - 1,0,t⟩=(if k=5 then !(giv a.kd) else giv a.kd):=by
   unfold Xcs;simp only[hk];rw[if_neg om];by_cases h:k=5
   ·rw[if_pos h,if_pos h]
   ·rw[if_neg h,if_neg h,if_pos om]
  simp[Ex.fl,Ex.ty,this,ih o h.u h5]
 |bin k t a b iha ihb =>
  intro o h ⟨h1,h2,_,_,h5,h6⟩;have hk:=h.a.kindAt (i:=(o:Int)+a.sz - 1) rfl;have hb:=h.b.kindAt (i:=(o:Int)+a.sz+b.sz - 1) om;have:Xcs (e.fl 0) ⟨k,0,(o:Int)+a.sz - 1,(o:Int)+a.sz+b.sz - 1,t⟩=(if k<=15 then !(giv a.kd)&&!(giv b.kd) else if k<=17 then giv a.kd==giv b.kd else giv a.kd&&giv b.kd):=by
   unfold Xcs;simp only[hk,hb];rw[if_neg om,if_neg om,if_neg om]
  have e2:=ihb (o+a.sz) h.b h6;rw[show((o+a.sz:Nat):Int)=(o:Int)+a.sz by omega] at e2;simp only[Ex.fl,Ex.ty,List.all_append,List.all_cons,List.all_nil,Bool.and_true,this,iha o h.a h5,e2,Bool.and_assoc]
theorem Xdu (l:List X1):∀ (xs:List X1) (k:Nat),wrN l xs k=none↔xs.all (Xcs l)=true
 |[],k=>by simp[wrN]
 |x::xs,k=>by
  unfold wrN
  cases h:Xcs l x with
  |true=>rw[if_pos rfl,Xdu l xs (k+1)];simp[h]
  |false=>simp[h]
structure Ex.fits (e:Ex):Prop where
 ok:e.ok
 sz:e.sz<=60
 dp:e.dp<=20
theorem Ex.fits.sub {e s:Ex} {o:Nat} (h:e.fits) (g:Sub s o e):s.fits:=⟨g.ok h.ok,by have:=g.le;have:=h.sz;omega,Nat.le_trans g.dple h.dp⟩
theorem Xsz {e:Ex} (h:e.fits):(kOf (e.fl 0)).2.2=0↔e.ty=true:=by
 unfold kOf;rw[if_neg (by rw[(X54 h.ok h.sz h.dp).1];simp)];have hf:=Xhw e 0 (Sub.refl (s:=e)) h.ok;have hw:=Xdu (e.fl 0) (e.fl 0) 0;rw[show((0:Nat):Int)=0 from rfl] at hf;rw[hf] at hw
 cases hx:wrN (e.fl 0) (e.fl 0) 0 with
 |none=>simp only[true_iff];exact hw.1 hx
 |some j =>
  simp only[];constructor
  ·intro h0;cases h0
  ·intro h0;rw[hw.2 h0] at hx;cases hx
theorem X7c {e:Ex} (h:e.fits) (ht:e.ty=true):kOf (e.fl 0)=(giv e.kd,(e.sz:Int) - 1,0):=by
 unfold kOf;rw[if_neg (by rw[(X54 h.ok h.sz h.dp).1];simp)];have hf:=Xhw e 0 (Sub.refl (s:=e)) h.ok;have hw:=Xdu (e.fl 0) (e.fl 0) 0;rw[show((0:Nat):Int)=0 from rfl] at hf;rw[hf] at hw;rw[hw.2 ht];simp only[];rw[e.fl_len,(Sub.refl (s:=e)).kindAt (by simp)]
theorem Sub.ty {s e:Ex} {o:Nat} (h:Sub s o e):e.ty=true->s.ty=true:=by
 induction h with
 |refl=>exact id
 |un h ih=>intro g;simp only[Ex.ty,Bool.and_eq_true] at g;exact ih g.1
 |l h ih=>intro g;simp only[Ex.ty,Bool.and_eq_true] at g;exact ih g.1.1
 |r h ih=>intro g;simp only[Ex.ty,Bool.and_eq_true] at g;exact ih g.1.2
theorem X01f {l:List X1} (h:(kOf l).2.2=0):∃ e:Ex,e.fits/\e.ty=true/\l=e.fl 0:=by
 have hz:nchk l=0:=by
  by_cases hz:nchk l=0
  ·exact hz
  ·unfold kOf at h;rw[if_pos hz] at h;exact h
 obtain⟨e,h1,h2,h3,rfl,_⟩:=Xoj hz;exact⟨e,⟨h1,h2,h3⟩,(Xsz ⟨h1,h2,h3⟩).1 h,rfl⟩
theorem Xto {e:Ex} (h:e.ok):∀ o:Int,∀ x∈e.fl o,1<=x.Kind/\x.Kind<=19:=by
 induction e with
 |leaf k n t=>intro o x hx;rw[List.mem_singleton.1 hx];obtain⟨h1,h2,_⟩:=h;exact⟨h1,by show k<=19;omega⟩
 |un k t a ih =>
  intro o x hx;obtain⟨h1,h2,_,_,h5⟩:=h;rcases List.mem_append.1 hx with hx|hx
  ·exact ih h5 o x hx
  ·rw[List.mem_singleton.1 hx];exact⟨by show 1<=k;omega,by show k<=19;omega⟩
 |bin k t a b iha ihb =>
  intro o x hx;obtain⟨h1,h2,_,_,h5,h6⟩:=h;rcases List.mem_append.1 hx with hx|hx
  ·exact iha h5 o x hx
  ·rcases List.mem_append.1 hx with hx|hx
   ·exact ihb h6 _ x hx
   ·rw[List.mem_singleton.1 hx];exact⟨by show 1<=k;omega,by show k<=19;omega⟩
theorem Xj7 {e:Ex} (h:e.ok) (o:Int):∀ x∈e.fl o,0<=x.Kind:=λx hx=>by have:=Xto h o x hx;omega
def Ex.cs:Ex->Bool
 |.leaf k _ _=>decide (k<=1)
 |.un _ _ a=>a.cs
 |.bin _ _ a b=>a.cs&&b.cs
def X7d (x:X1):Bool:=decide (1<x.Kind)&&decide (x.Kind<5)
theorem Xjg {e:Ex} (h:e.ok):∀ o:Int,(e.fl o).any X7d=!e.cs:=by
 induction e with
 |leaf k n t =>
  intro o;obtain⟨h1,h2,_⟩:=h;simp only[Ex.fl,Ex.cs,List.any_cons,List.any_nil,Bool.or_false,X7d];by_cases hk:k<=1
  ·rw[Yf om,Yt hk];rfl
  ·rw[Yt (show 1<k by omega),Yt (show k<5 by omega),Yf hk];rfl
 |un k t a ih =>
  intro o;obtain⟨h1,h2,_,_,h5⟩:=h;have:X7d ⟨k,0,o+a.sz - 1,0,t⟩=false:=by unfold X7d;rw[Yf (show ¬ k<5 by omega),Bool.and_false]
  simp[Ex.fl,Ex.cs,ih h5,this]
 |bin k t a b iha ihb =>
  intro o;obtain⟨h1,h2,_,_,h5,h6⟩:=h;have:X7d ⟨k,0,o+a.sz - 1,o+a.sz+b.sz - 1,t⟩=false:=by unfold X7d;rw[Yf (show ¬ k<5 by omega),Bool.and_false]
  simp[Ex.fl,Ex.cs,iha h5,ihb h6,this]
theorem Xjb {x:X1} {k:Nat} (h:Xc1 x k):X1v x=some (X7d x):=by
 have h1:=h.lo;have h2:=h.leaf;have h3:=h.nk;obtain⟨K,N,A,B,T⟩:=x;simp only at h1 h2 h3;unfold X1v X7d;simp only[X7s,X1.mk.injEq];by_cases hk:K<=4
 ·obtain⟨rfl,rfl⟩:=h2 hk;rcases(by omega:K=1\/K=2\/K=3\/K=4) with rfl|rfl|rfl|rfl
  ·simp
  ·obtain rfl:N=0:=by omega
   simp
  ·obtain rfl:N=0:=by omega
   simp
  ·obtain rfl:N=0:=by omega
   simp
 ·have k2:¬ K=2:=by omega
  have k3:¬ K=3:=by omega
  have k4:¬ K=4:=by omega
  have k5:¬ K<5:=by omega
  simp[k2,k3,k4,k5]
theorem Xfn (Y:List X1):∀ (xs:List X1) (k:Nat),(∀ x∈xs,X1v x=some (X7d x))->(xs.any X7d=true/\∃ j:Nat,Xz Y xs k=some (.x1 (j:Int)))\/(xs.any X7d=false/\Xz Y xs k=some .x0)
 |[],k,h=>.inr ⟨rfl,rfl⟩
 |x::xs,k,h=>by
  unfold Xz;rw[h x List.mem_cons_self,Yo]
  cases hf:X7d x with
  |true=>exact .inl ⟨by simp[hf],k,rfl⟩
  |false =>
   rw[cond_false,List.any_cons,hf,Bool.false_or];exact Xfn Y xs (k+1) λy hy=>h y (List.mem_cons_of_mem _ hy)
theorem Xak {e:Ex} (h:e.fits):X49 (e.fl 0)=some (e.cs,0):=by
 have hn:=X54 h.ok h.sz h.dp;have hl:(e.fl 0).length<=60:=by rw[e.fl_len];exact h.sz
 unfold X49;rw[X4h (Xj7 h.ok 0),hn.1,Yo];simp only[bne_self_eq_false,cond_false];unfold X04 X08;rw[X2o om,Yo];have hk:∀ x∈e.fl 0,X1v x=some (X7d x):=by
  intro x hx;obtain⟨j,hj⟩:=List.getElem?_of_mem hx;exact Xjb (X6v hn.1 j x hj)
 have ha:=Xjg h.ok 0;rcases Xfn (e.fl 0) (e.fl 0) 0 hk with ⟨h1,j,h2⟩|⟨h1,h2⟩
 ·rw[h2];rw[ha] at h1;simp only[Yo];rw[Yt (show(j:Int) >= 0 by omega),show e.cs=false by simpa using h1];rfl
 ·rw[h2];rw[ha] at h1;simp only[Yo];rw[Yf (show ¬ (-1:Int) >= 0 by omega),show e.cs=true by simpa using h1];rfl
theorem Xls (Y:List X1):∀ (xs:List X1) (k:Nat),X60 Y xs k=some (bif xs.any X7d then .x1 else .x0)
 |[],k=>rfl
 |x::xs,k=>by
  unfold X60;rw[List.any_cons,Xls Y xs (k+1)];unfold X7d;by_cases h1:x.Kind>1<;>by_cases h2:x.Kind<5<;>simp[h1,h2]
theorem X4l {e:Ex} (h:e.fits) (o:Int):X8r (e.fl o)=some e.cs:=by
 unfold X8r;rw[X2o (by rw[e.fl_len];have:=h.sz;omega),Yo,Xls,Xjg h.ok];cases e.cs<;>rfl
end Go.D


namespace Go.D
def mv (d:Int) (x:X1):X1 :=
 if x.Kind<=4 then x else if x.Kind<=6 then ⟨x.Kind,x.N,x.A+d,x.B,x.At⟩ else ⟨x.Kind,x.N,x.A+d,x.B+d,x.At⟩
theorem Xpr {e:Ex} (h:e.ok) (d:Int):∀ o:Int,(e.fl o).map (mv d)=e.fl (o+d):=by
 induction e with
 |leaf k n t=>intro o;obtain⟨h1,h2,_⟩:=h;simp[Ex.fl,mv,h2]
 |un k t a ih =>
  intro o;obtain⟨h1,h2,_,_,h5⟩:=h;have:mv d ⟨k,0,o+a.sz - 1,0,t⟩=⟨k,0,o+d+a.sz - 1,0,t⟩:=by
   unfold mv;rw[if_neg (by show ¬ k<=4;omega),if_pos h2,show o+d+(a.sz:Int) - 1=o+a.sz - 1+d by omega]
  simp only[Ex.fl,List.map_append,ih h5,List.map_cons,List.map_nil,this]
 |bin k t a b iha ihb =>
  intro o;obtain⟨h1,h2,_,_,h5,h6⟩:=h;have:mv d ⟨k,0,o+a.sz - 1,o+a.sz+b.sz - 1,t⟩=⟨k,0,o+d+a.sz - 1,o+d+a.sz+b.sz - 1,t⟩:=by
   unfold mv;rw[if_neg (by show ¬ k<=4;omega),if_neg (by show ¬ k<=6;omega),show o+d+(a.sz:Int) - 1=o+a.sz - 1+d by omega,show o+d+(a.sz:Int)+b.sz - 1=o+a.sz+b.sz - 1+d by omega]
  simp only[Ex.fl,List.map_append,iha h5,ihb h6,List.map_cons,List.map_nil,this];rw[show o+(a.sz:Int)+d=o+d+a.sz by omega]
structure Xzv (x:X1):Prop where
 lo:1<=x.Kind
 hi:x.Kind<=19
 a : -1000000<=x.A/\x.A<=1000000
 b : -1000000<=x.B/\x.B<=1000000
theorem Xfe {e:Ex} (h:e.ok):∀ o:Int,-100000<=o->o+e.sz<=100000->∀ x∈e.fl o,Xzv x:=by
 induction e with
 |leaf k n t=>intro o _ _ x hx;rw[List.mem_singleton.1 hx];obtain⟨h1,h2,_⟩:=h;exact⟨h1,by show k<=19;omega,⟨by show(-1000000:Int)<=0;omega,by show(0:Int)<=_;omega⟩,⟨by show(-1000000:Int)<=0;omega,by show(0:Int)<=_;omega⟩⟩
 |un k t a ih =>
  intro o g1 g2 x hx;obtain⟨h1,h2,_,_,h5⟩:=h;simp only[Ex.sz] at g2;have hp:=a.sz_pos;generalize hz:(a.sz:Int)=z at g2;rcases List.mem_append.1 hx with hx|hx
  ·exact ih h5 o g1 om x hx
  ·rw[List.mem_singleton.1 hx,hz];exact⟨by show 1<=k;omega,by show k<=19;omega,⟨by show _<=o+z - 1;omega,by show o+z - 1<=_;omega⟩,⟨by show(-1000000:Int)<=0;omega,by show(0:Int)<=_;omega⟩⟩
 |bin k t a b iha ihb =>
  intro o g1 g2 x hx;obtain⟨h1,h2,_,_,h5,h6⟩:=h;simp only[Ex.sz] at g2;have hp:=a.sz_pos;have hq:=b.sz_pos;rcases List.mem_append.1 hx with hx|hx
  ·exact iha h5 o g1 om x hx
  ·rcases List.mem_append.1 hx with hx|hx
   ·exact ihb h6 _ om om x hx
   ·rw[List.mem_singleton.1 hx];generalize hz:(a.sz:Int)=z at g2;generalize hy:(b.sz:Int)=y at g2;exact⟨by show 1<=k;omega,by show k<=19;omega,⟨by show _<=o+z - 1;omega,by show o+z - 1<=_;omega⟩,⟨by show _<=o+z+y - 1;omega,by show o+z+y - 1<=_;omega⟩⟩
theorem Xyc {α:Type} (P:List α) (x:α) (Q:List α):(P++x::Q)[P.length]?=some x:=by simp
theorem Xhr {α:Type} (P:List α) (x:α) (Q:List α):getI (P++x::Q) (P.length:Int)=some x:=by rw[X2u];exact Xyc P x Q
theorem Xjw {α:Type} (P:List α) (x y:α) (Q:List α):(P++x::Q).set (Int.toNat (P.length:Int)) y=P++y::Q:=by
 rw[Int.toNat_natCast,List.set_append_right _ _ (Nat.le_refl _),Nat.sub_self];rfl
theorem Xlc (d:Int) (hd : -1000000<=d/\d<=1000000):∀ (Q P:List X1) (n:Nat),Q.length<n->P.length+Q.length<=1000->(∀ x∈Q,Xzv x) ->
  X2f d ((P.length+Q.length:Nat):Int) n (P++Q) (P.length:Int)=some (.x0 (P++Q.map (mv d)))
 |[],P,n,hn,_,_=>by
  obtain⟨n,rfl⟩:∃ q,n=q+1:=⟨n - 1,by simp at hn;omega⟩;rw[X2f,Yf (by simp),cond_false];rfl
 |x::Q,P,n,hn,hl,hx=>by
  simp only[List.length_cons] at hn hl;obtain⟨n,rfl⟩:∃ q,n=q+1:=⟨n - 1,by omega⟩;obtain⟨h1,h2,ha,hb⟩:=hx x List.mem_cons_self;have go:∀ y,y=mv d x->X2f d ((P.length+(x::Q).length:Nat):Int) n (P++y::Q) (IntKind.i64.wrap ((P.length:Int)+1))=some (.x0 (P++(x::Q).map (mv d))):=by
   intro y hy;have:=Xlc d hd Q (P++[y]) n om (by simp;omega) λz hz=>hx z (List.mem_cons_of_mem _ hz);simp only[List.length_append,List.length_singleton,List.append_assoc,List.singleton_append] at this;rw[Xv om om,show(P.length:Int)+1=((P.length+1:Nat):Int) by omega,show P.length+(x::Q).length=P.length+1+Q.length by simp;omega,this,hy];rfl
  rw[X2f,Yt (by simp only[List.length_cons];omega),cond_true,Xhr,Yo,Xhc om,if_pos ⟨h1,h2⟩,Yo];by_cases k4:x.Kind<=4
  ·rw[if_pos k4];exact go x (by unfold mv;rw[if_pos k4])
  ·rw[if_neg k4];by_cases k6:x.Kind<=6
   ·rw[if_pos k6];simp only[show decide ((1:Int)>0)=true from rfl,show decide ((1:Int)>1)=false from rfl,cond_true,cond_false,Yo];rw[Xjw,Xv (z:=x.A+d) om om];exact go _ (by unfold mv;rw[if_neg k4,if_pos k6])
   ·rw[if_neg k6];simp only[show decide ((2:Int)>0)=true from rfl,show decide ((2:Int)>1)=true from rfl,cond_true,Yo];rw[Xjw,Xhr,Yo,Yo,Xjw,Xv (z:=x.A+d) om om,Xv (z:=x.B+d) om om];exact go _ (by unfold mv;rw[if_neg k4,if_neg k6])
theorem Xg4 {d:Int} (hd : -1000000<=d/\d<=1000000) {l:List X1} (hl:l.length<=900) (h:∀ x∈l,Xzv x):X4w l d=some (l.map (mv d)):=by
 have:=Xlc d hd l [] FU (by unfold FU;omega) (by simp;omega) h;simp only[List.length_nil,Nat.zero_add,List.nil_append] at this;unfold X4w;rw[X2z om];have e:((bif l.isEmpty then some l else (some ()).bind λ_=>some l):Option (List X1))=some l:=by cases l<;>rfl
 rw[e,Yo];rw[show((0:Nat):Int)=0 from rfl] at this;rw[this];rfl
theorem X4n {e:Ex} (h:e.fits) {o d:Int} (ho : -1000<=o/\o<=1000) (hd : -1000<=d/\d<=1000):X4w (e.fl o) d=some (e.fl (o+d)):=by
 have:=h.sz;rw[Xg4 om (by rw[e.fl_len];omega) (Xfe h.ok o om om),Xpr h.ok]
theorem Xnu {α:Type} (P Q S:List α):X7m (P++(Q++S)) (P.length:Int) ((P.length+Q.length:Nat):Int)=some Q:=by
 unfold X7m;rw[if_pos ⟨by omega,by omega,by rw[Int.toNat_natCast];simp⟩,Int.toNat_natCast,Int.toNat_natCast,List.drop_left,show P.length+Q.length - P.length=Q.length by omega,List.take_left]
theorem Xev {e s:Ex} {o:Nat} (h:e.fits) (g:Sub s o e):X8c (e.fl 0) ((o:Int)+s.sz - 1)=some ((s.sz:Int),0):=by
 obtain⟨h0,hr⟩:=X54 h.ok h.sz h.dp;obtain⟨t,ht,hs⟩:=Xaq (Xj7 h.ok 0);obtain⟨sd,hsd,rfl⟩:=hs h0;rw[hr] at hsd;cases hsd
 have hp:=s.sz_pos;have hle:=g.le;have hsz:=h.sz;unfold X8c;rw[ht,h0];simp only[Yo,bne_self_eq_false,cond_false];rw[Xgk,e.sdo_len,Yf (show ¬ (o:Int)+s.sz - 1<0 by omega),Yf (show ¬ (o:Int)+s.sz - 1 >= (e.sz:Int) by omega)];simp only[cond_false,Yo];rw[show(o:Int)+s.sz - 1=((o+s.sz - 1:Nat):Int) by omega,Xgl g.sd];rfl
theorem Xew {e s:Ex} {o:Nat} (h:e.fits) (g:Sub s o e):X8d (e.fl 0) ((o:Int)+s.sz - 1)=some (s.fl 0,0):=by
 have hp:=s.sz_pos;have hle:=g.le;have hsz:=h.sz;unfold X8d;rw[Xev h g];simp only[Yo,bne_self_eq_false,cond_false];obtain⟨P,S,h1,h2⟩:=g.fl 0;rw[Xv (z:=(o:Int)+s.sz - 1+1) om om,Xv (z:=(o:Int)+s.sz - 1+1 - s.sz) om om,Xv (z:=0 - _) om om];have:=Xnu P (s.fl (0+(o:Int))) S;rw[<-h1,h2,s.fl_len] at this
 rw[show(o:Int)+s.sz - 1+1=((o+s.sz:Nat):Int) by omega,show((o+s.sz:Nat):Int) - (s.sz:Int)=(o:Int) by omega,this,Yo,
  X4n (h.sub g) om om,Yo,show 0+(o:Int)+(0 - (o:Int))=0 by omega]
theorem Xex {K N T:Int} {c:Nat} {l:List (List X1)} {x:X1} {out:List X1} (hp:X27 K=some ((c:Int),0)) (hc:c=l.length) (hn:0<=N) (hk:N=0\/K=1) (h5:0<=T) (h6:T<=400) (hl:l.length<=100)
  (hL:X1m l l 0 ⟨K,N,0,0,T⟩ []=some (.x0 x out)) (ho:out.length<=1000) (hck:X1n (out++[x])=some 0):X2g K N T l=some (out++[x],0):=by
 subst hc;unfold X2g;rw[hp,hL,X2o om];have e2:decide (N<0)=false:=Yf om;have e3:decide (T<0)=false:=Yf om;have e4:decide (T>400)=false:=Yf om;simp only[Yo,bne_self_eq_false,cond_false,e2,e3,e4];have fin:((X1c (out++[x]).length 40).bind λ_=>(X1n (out++[x])).bind λv=>bif v != 0 then some (([]:List X1),v) else some (out++[x],0))=some (out++[x],0):=by
  rw[X2z (by simp;omega),hck];rfl
 rw[fin];by_cases hd:N>0
 ·have hk1:K=1:=by omega
  rw[Yt hd,hk1];rfl
 ·rw[Yf hd];rfl
theorem X8x {k:Int} (h1:1<=k) (h2:k<=19):X27 k=some (if k<=4 then 0 else if k<=6 then 1 else 2,0):=by
 have:=Xhc (x:=⟨k,0,0,0,0⟩) (by show 0<=k;omega);simp only at this;rw[this,if_pos ⟨h1,h2⟩]
theorem X6z {e:Ex} (h:e.fits):X1n (e.fl 0)=some 0:=by
 rw[X4h (Xj7 h.ok 0),(X54 h.ok h.sz h.dp).1]
theorem Xsq {k n t:Int} (h:(Ex.leaf k n t).fits):X2g k n t []=some ((Ex.leaf k n t).fl 0,0):=by
 obtain⟨h1,h2,h3,h4,h5,h6⟩:=h.ok;exact Xex (c:=0) (l:=[]) (x:=⟨k,n,0,0,t⟩) (out:=[]) (by rw[X8x h1 om,if_pos h2];rfl) rfl h3 h4 h5 h6 (by simp) rfl (by simp) (X6z h)
theorem Xlz (e:Ex) (o:Int):(e.fl o).isEmpty=false:=by
 obtain⟨l,h,_⟩:=e.fl_last o;rw[h];cases l<;>rfl
theorem Xl9 {k t:Int} {a:Ex} (h:(Ex.un k t a).fits):X2g k 0 t [a.fl 0]=some ((Ex.un k t a).fl 0,0):=by
 obtain⟨h1,h2,h3,h4,h5⟩:=h.ok;have ha:=h.sub (Sub.un Sub.refl);have hp:=a.sz_pos;have hz:=ha.sz;have e:(Ex.un k t a).fl 0=a.fl 0++[⟨k,0,(a.sz:Int) - 1,0,t⟩]:=by rw[Ex.fl,Int.zero_add]
 rw[e];refine Xex (c:=1) (l:=[a.fl 0]) (x:=⟨k,0,(a.sz:Int) - 1,0,t⟩) (out:=a.fl 0) (by rw[X8x (k:=k) om om,if_neg om,if_pos h2];rfl) rfl om (.inl rfl) h3 h4 (by simp) ?_ (by rw[a.fl_len];omega) ?_
 ·rw[X1m,X6z ha,Yo];simp only[bne_self_eq_false,cond_false,List.nil_append];rw[X4n (o:=0) (d:=(([]:List X1).length:Int)) ha om (by simp),Yo,Xlz,cond_false,show(0:Int)+(([]:List X1).length:Int)=0 by simp,show X1c (a.fl 0).length 40=some () from X2z (by rw[a.fl_len];omega),Yo,a.fl_len,Xv (z:=(a.sz:Int) - 1) om om];rfl
 ·have:=X6z h;rw[e] at this;exact this
theorem Xl8 {k t:Int} {a b:Ex} (h:(Ex.bin k t a b).fits):X2g k 0 t [a.fl 0,b.fl 0]=some ((Ex.bin k t a b).fl 0,0):=by
 obtain⟨h1,h2,h3,h4,h5,h6⟩:=h.ok;have ha:=h.sub (Sub.l Sub.refl);have hb:=h.sub (Sub.r Sub.refl);have hp:=a.sz_pos;have hq:=b.sz_pos;have hz:=ha.sz;have hy:=hb.sz;have e:(Ex.bin k t a b).fl 0=a.fl 0++b.fl a.sz++[⟨k,0,(a.sz:Int) - 1,(a.sz:Int)+b.sz - 1,t⟩]:=by rw[Ex.fl,Int.zero_add,List.append_assoc]
 rw[e];refine Xex (c:=2) (l:=[a.fl 0,b.fl 0]) (x:=⟨k,0,(a.sz:Int) - 1,(a.sz:Int)+b.sz - 1,t⟩) (out:=a.fl 0++b.fl a.sz) (by rw[X8x (k:=k) om om,if_neg om,if_neg om];rfl) rfl om (.inl rfl) h3 h4 (by simp) ?_ (by rw[List.length_append,a.fl_len,b.fl_len];omega) ?_
 ·rw[X1m,X6z ha,Yo];simp only[bne_self_eq_false,cond_false,List.nil_append];rw[X4n (o:=0) (d:=(([]:List X1).length:Int)) ha om (by simp),Yo,Xlz,cond_false,show(0:Int)+(([]:List X1).length:Int)=0 by simp,show X1c (a.fl 0).length 40=some () from X2z (by rw[a.fl_len];omega),Yo,a.fl_len,Xv (z:=(a.sz:Int) - 1) om om];simp only[show(((0:Nat):Int)==0)=true from rfl,cond_true,Yo];rw[X1m,X6z hb,Yo];simp only[bne_self_eq_false,cond_false];rw[X4n (o:=0) (d:=((a.fl 0).length:Int)) hb om (by rw[a.fl_len];omega),Yo,Xlz,cond_false,a.fl_len,Int.zero_add,show X1c (a.fl 0++b.fl a.sz).length 40=some () from X2z (by rw[List.length_append,a.fl_len,b.fl_len];omega),Yo,List.length_append,a.fl_len,b.fl_len,Xv (z:=((a.sz+b.sz:Nat):Int) - 1) om om];simp only[show(((0+1:Nat):Int)==0)=false from rfl,cond_false,Yo];rw[X1m,show((a.sz+b.sz:Nat):Int) - 1=(a.sz:Int)+b.sz - 1 by omega]
 ·have:=X6z h;rw[e] at this;exact this
end Go.D


namespace Go.D
theorem Xi3 {k:Int}:X0b k=some (if k<=4 then 0 else if k<=6 then 1 else 2):=by
 unfold X0b;by_cases h1:k<=4
 ·rw[Yt h1,if_pos h1];rfl
 ·rw[Yf h1,if_neg h1];by_cases h2:k<=6
  ·rw[Yt h2,if_pos h2];rfl
  ·rw[Yf h2,if_neg h2];rfl
theorem Xlb {x:X1} (h:Xzv x) {d:Int} (hd : -1000000<=d/\d<=1000000) {β:Type} (f:X1->Option β) :
  ((X0b x.Kind).bind λv77=>(bif (decide (v77>(0:Int))) then (some (X1.mk x.Kind x.N (IntKind.i64.wrap (x.A+d)) x.B x.At)) else (some x):Option (X1)).bind λy=>(X0b y.Kind).bind λv83=>(bif (decide (v83>(1:Int))) then (some (X1.mk y.Kind y.N y.A (IntKind.i64.wrap (y.B+d)) y.At)) else (some y):Option (X1)).bind f)=f (mv d x):=by
 obtain⟨h1,h2,ha,hb⟩:=h;rw[Xv (z:=x.A+d) om om,Xi3,Yo];unfold mv;by_cases k4:x.Kind<=4
 ·rw[if_pos k4,if_pos k4];simp only[show decide ((0:Int)>0)=false from rfl,cond_false,Yo];rw[Xi3,if_pos k4];rfl
 ·rw[if_neg k4,if_neg k4];by_cases k6:x.Kind<=6
  ·rw[if_pos k6,if_pos k6];simp only[show decide ((1:Int)>0)=true from rfl,cond_true,Yo];rw[Xi3,if_neg k4,if_pos k6];rfl
  ·rw[if_neg k6,if_neg k6];simp only[show decide ((2:Int)>0)=true from rfl,cond_true,Yo];rw[Xi3,if_neg k4,if_neg k6];simp only[show decide ((2:Int)>1)=true from rfl,cond_true,Yo];rw[Xv (z:=x.B+d) om om]
theorem Xvn (l S:List X1) (p:Nat) (d:Int) (hd : -1000<=d/\d<=1000):∀ (Q:List X1) (i n:Nat) (out:List X1),l.drop i=Q++S->i+Q.length=p+1->Q.length<n->p<=1000->out.length+Q.length<=1000->(∀ x∈Q,Xzv x) ->
  X52 l (p:Int) d n out (i:Int)=some (.x0 (out++Q.map (mv (-d))))
 |[],i,n,out,hl,hp,hn,_,_,_=>by
  obtain⟨n,rfl⟩:∃ q,n=q+1:=⟨n - 1,by simp at hn;omega⟩;simp only[List.length_nil] at hp;rw[X52,Yf om,cond_false];simp
 |x::Q,i,n,out,hl,hp,hn,hb,ho,hx=>by
  simp only[List.length_cons] at hp hn ho;obtain⟨n,rfl⟩:∃ q,n=q+1:=⟨n - 1,by omega⟩;have hk:l[i]?=some x:=by
   have:(l.drop i)[0]?=some x:=by rw[hl];rfl
   simpa using this
  have hdr:l.drop (i+1)=Q++S:=by
   have:(l.drop i).drop 1=Q++S:=by rw[hl];rfl
   rw[List.drop_drop] at this;exact this
  rw[X52,Yt om,cond_true,X2u,hk,Yo];have:=Xlb (hx x List.mem_cons_self) (d := -d) om (λj86=>(X1c (List.length (out++[j86])) 40).bind λu89=>X52 l (p:Int) d n (out++[j86]) (IntKind.i64.wrap ((i:Int)+1)));simp only[<-Int.sub_eq_add_neg] at this;rw[this,X2z (by simp;omega),Yo,Xv om om,show(i:Int)+1=((i+1:Nat):Int) by omega,Xvn l S p d hd Q (i+1) n _ hdr om om hb (by simp;omega) λy hy=>hx y (List.mem_cons_of_mem _ hy)];simp
theorem Xmf {e:Ex} (h:e.fits):∃ d b,X4v (e.fl 0)=some (szs e.sdo,d,b):=by
 have hsz:=h.sz;have hL:=Xl0 (e.fl 0) (e.fl 0) [] (by simp[e.fl_len];omega) (by simp);rw[(X54 h.ok h.sz h.dp).2] at hL;simp only[List.length_nil] at hL;rw[show szs []=[] from rfl,show dps []=[] from rfl] at hL;unfold X4v;rw[X2o (by rw[e.fl_len];omega),Yo,hL];have hp:=e.sz_pos;obtain⟨m,hm,hn⟩:=e.sdo_last;have hg:=(Sub.refl (s:=e)).sd;simp only[Yo];rw[e.fl_len,Yt (show(e.sz:Int)>0 by omega),cond_true,Xv om om,show(e.sz:Int) - 1=((0+e.sz - 1:Nat):Int) by omega,Xee hg];exact⟨_,_,rfl⟩
theorem X7w {e s:Ex} {o:Nat} (h:e.fits) (g:Sub s o e):Xet (e.fl 0) ((o:Int)+s.sz - 1)=some (s.fl 0):=by
 obtain⟨d,b,hs⟩:=Xmf h;have hp:=s.sz_pos;have hle:=g.le;have hsz:=h.sz;obtain⟨P,S,h1,h2⟩:=g.fl 0;unfold Xet;rw[hs,Yo,show(o:Int)+s.sz - 1=((o+s.sz - 1:Nat):Int) by omega,Xee g.sd,Yo];simp only
 rw[Xv (z:=((o+s.sz - 1:Nat):Int)+1) om om,Xv om om,show((o+s.sz - 1:Nat):Int)+1 - (s.sz:Int)=(o:Int) by omega,
  Xvn (e.fl 0) S (o+s.sz - 1) (o:Int) om (s.fl (0+(o:Int))) o FU [] (by rw[h1,<-h2,List.drop_left]) (by rw[s.fl_len];omega) (by rw[s.fl_len];unfold FU;omega) om (by simp[s.fl_len];omega) (Xfe (g.ok h.ok) _ om om),Yo,Xpr (g.ok h.ok)]
 simp only[List.nil_append];rw[show 0+(o:Int) + -(o:Int)=0 by omega]
theorem Xhg (Y:List (List X1)) (x0:X1) (j:Nat) (d:Int) (hd : -1000<=d/\d<=1000) (L:List X1) (hY:Y[j]?=some L):∀ (Q:List X1) (i n:Nat) (out:List X1),L.drop i=Q->Q.length<n->L.length<=1000->out.length+Q.length<=1000->(∀ x∈Q,Xzv x) ->
  X4d Y x0 (j:Int) d n out (i:Int)=some (.x0 (out++Q.map (mv d)))
 |[],i,n,out,hl,hn,hL,_,_=>by
  obtain⟨n,rfl⟩:∃ q,n=q+1:=⟨n - 1,by simp at hn;omega⟩;have:L.length<=i:=by have:=congrArg List.length hl;simp at this;omega
  rw[X4d,X2u,hY,Yo,Yf om,cond_false];simp
 |x::Q,i,n,out,hl,hn,hL,ho,hx=>by
  simp only[List.length_cons] at hn ho;obtain⟨n,rfl⟩:∃ q,n=q+1:=⟨n - 1,by omega⟩;have hk:L[i]?=some x:=by
   have:(L.drop i)[0]?=some x:=by rw[hl];rfl
   simpa using this
  have hlt:=(Ys.1 hk).1;have hdr:L.drop (i+1)=Q:=by
   have:(L.drop i).drop 1=Q:=by rw[hl];rfl
   rw[List.drop_drop] at this;exact this
  rw[X4d,X2u,hY,Yo,Yt om,cond_true,X2u,hk,Yo];have:=Xlb (hx x List.mem_cons_self) (d:=d) om (λj86=>(X1c (List.length (out++[j86])) 40).bind λu89=>X4d Y x0 (j:Int) d n (out++[j86]) (IntKind.i64.wrap ((i:Int)+1)));rw[this,X2z (by simp;omega),Yo,Xv om om,show(i:Int)+1=((i+1:Nat):Int) by omega,Xhg Y x0 j d hd L hY Q (i+1) n _ hdr om hL (by simp;omega) λy hy=>hx y (List.mem_cons_of_mem _ hy)];simp
theorem Xsu {k n t:Int}:X23 k n t []=some ((Ex.leaf k n t).fl 0):=by
 unfold X23;rw[X2o (by simp),Yo,X2s,Yo];simp only[List.nil_append];rw[X2z (by simp)];rfl
theorem Xle {k t:Int} {a:Ex} (h:(Ex.un k t a).fits):X23 k 0 t [a.fl 0]=some ((Ex.un k t a).fl 0):=by
 have ha:=h.sub (Sub.un Sub.refl);have hp:=a.sz_pos;have hz:=ha.sz;unfold X23;have l1:=Xhg [a.fl 0] ⟨k,0,0,0,t⟩ 0 0 om (a.fl 0) rfl (a.fl 0) 0 FU [] rfl (by rw[a.fl_len];unfold FU;omega) (by rw[a.fl_len];omega) (by simp[a.fl_len];omega) (Xfe ha.ok 0 om om);rw[Xpr ha.ok] at l1;simp only[List.nil_append,Int.add_zero] at l1;rw[X2o (by simp),Yo,X2s];rw[show((([]:List X1).length:Nat):Int)=0 from rfl,show((0:Nat):Int)=0 from rfl] at *;rw[l1,Yo];simp only[show((0:Int)==0)=true from rfl,cond_true,Yo];rw[X2s,Yo];simp only;rw[a.fl_len,Xv om om,X2z (by rw[List.length_append,a.fl_len];simp;omega),Yo,Ex.fl,Int.zero_add]
theorem Xhh {k t:Int} {a b:Ex} (h:(Ex.bin k t a b).fits):X23 k 0 t [a.fl 0,b.fl 0]=some ((Ex.bin k t a b).fl 0):=by
 have ha:=h.sub (Sub.l Sub.refl);have hb:=h.sub (Sub.r Sub.refl);have hp:=a.sz_pos;have hq:=b.sz_pos;have hz:=ha.sz;have hy:=hb.sz;unfold X23;have l1:=Xhg [a.fl 0,b.fl 0] ⟨k,0,0,0,t⟩ 0 0 om (a.fl 0) rfl (a.fl 0) 0 FU [] rfl (by rw[a.fl_len];unfold FU;omega) (by rw[a.fl_len];omega) (by simp[a.fl_len];omega) (Xfe ha.ok 0 om om);rw[Xpr ha.ok] at l1;simp only[List.nil_append,Int.add_zero] at l1;have l2:=Xhg [a.fl 0,b.fl 0] ⟨k,0,(a.sz:Int) - 1,0,t⟩ 1 (a.sz:Int) om (b.fl 0) rfl (b.fl 0) 0 FU (a.fl 0) rfl (by rw[b.fl_len];unfold FU;omega) (by rw[b.fl_len];omega) (by rw[a.fl_len,b.fl_len];omega) (Xfe hb.ok 0 om om);rw[Xpr hb.ok] at l2;rw[X2o (by simp),Yo,X2s];rw[show((([]:List X1).length:Nat):Int)=0 from rfl,show((0:Nat):Int)=0 from rfl] at *;rw[l1,Yo];simp only[show((0:Int)==0)=true from rfl,cond_true,Yo];rw[a.fl_len,Xv (z:=(a.sz:Int) - 1) om om,X2s,a.fl_len];rw[show((0+1:Nat):Int)=((1:Nat):Int) from rfl,l2,Yo];simp only[show(((1:Nat):Int)==0)=false from rfl,cond_false,Yo];rw[X2s,Yo];simp only;have hlen:(a.fl 0++b.fl (0+(a.sz:Int))).length=a.sz+b.sz:=by rw[List.length_append,a.fl_len,b.fl_len]
 rw[hlen,Xv om om,X2z (by rw[List.length_append,hlen];simp;omega),Yo,Ex.fl,List.append_assoc];simp only[Int.zero_add];rw[show((a.sz+b.sz:Nat):Int) - 1=(a.sz:Int)+b.sz - 1 by omega]
def opv (k a b:Int):Int:=match X6h k a b with|some v=>v.1|none=>0
theorem Xgo {k a b:Int} (h1:5<=k) (h2:k<=19) (ha:i64 a) (hb:i64 b):X40 k a b=some (opv k a b)/\i64 (opv k a b):=by
 obtain⟨v,e1,e2,e3⟩:=Xe3 h1 h2 ha hb;unfold opv;rw[e1];exact⟨e2,e3⟩
def Ex.ir:Ex->Prop
 |.leaf _ n _=>i64 n
 |.un _ _ a=>a.ir
 |.bin _ _ a b=>a.ir/\b.ir
def Ex.vl (r:X1w):Ex->Int
 |.leaf k n _=>if k=1 then n else if k=2 then r.Key else if k=3 then r.Time else r.Value
 |.un k _ a=>opv k (a.vl r) 0
 |.bin k _ a b=>opv k (a.vl r) (b.vl r)
def rI (r:X1w):Prop:=i64 r.Key/\i64 r.Time/\i64 r.Value
theorem Xdn:i64 0:=by unfold i64;omega
theorem Ex.vl_i64 {e:Ex} {r:X1w} (hr:rI r):e.ok->e.ir->i64 (e.vl r):=by
 induction e with
 |leaf k n t =>
  intro h g;unfold Ex.vl;split
  ·exact g
  ·split
   ·exact hr.1
   ·split
    ·exact hr.2.1
    ·exact hr.2.2
 |un k t a ih=>intro h g;exact(Xgo h.1 (by have:=h.2.1;omega) (ih h.2.2.2.2 g) Xdn).2
 |bin k t a b iha ihb=>intro h g;exact(Xgo (by have:=h.1;omega) h.2.1 (iha h.2.2.2.2.1 g.1) (ihb h.2.2.2.2.2 g.2)).2
theorem Xci {e:Ex} {r:X1w} (hr:rI r) (s:Ex):∀ (o n:Nat),Sub s o e->s.ok->s.ir->s.dp<=n->X0a n (e.fl 0) ((o:Int)+s.sz - 1) r=some (s.vl r):=by
 induction s with
 |leaf k n t =>
  intro o m h g i hm;obtain⟨m,rfl⟩:∃ q,m=q+1:=⟨m - 1,by simp only[Ex.dp] at hm;omega⟩;obtain⟨h1,h2,_⟩:=g;rw[X0a,h.getI rfl,Yo];simp only[Ex.rt,Ex.vl];rcases(by omega:k=1\/k=2\/k=3\/k=4) with rfl|rfl|rfl|rfl<;>rfl
 |un k t a ih =>
  intro o m h g i hm;simp only[Ex.dp] at hm;obtain⟨m,rfl⟩:∃ q,m=q+1:=⟨m - 1,by omega⟩;obtain⟨h1,h2,_,_,h5⟩:=g;rw[X0a,h.getI rfl,Yo];simp only[Ex.rt,Ex.vl];rw[show(k==1)=false by simp;omega,show(k==2)=false by simp;omega,show(k==3)=false by simp;omega,show(k==4)=false by simp;omega,Xi3,if_neg om,if_pos h2];simp only[cond_false,Yo,show((1:Int)==2)=false from rfl];rw[ih o m h.u h5 i om,Yo,(Xgo h1 om (Ex.vl_i64 hr h5 i) Xdn).1];rfl
 |bin k t a b iha ihb =>
  intro o m h g i hm;simp only[Ex.dp] at hm;obtain⟨m,rfl⟩:∃ q,m=q+1:=⟨m - 1,by omega⟩;obtain⟨h1,h2,_,_,h5,h6⟩:=g;rw[X0a,h.getI rfl,Yo];simp only[Ex.rt,Ex.vl];rw[show(k==1)=false by simp;omega,show(k==2)=false by simp;omega,show(k==3)=false by simp;omega,show(k==4)=false by simp;omega,Xi3,if_neg om,if_neg om];simp only[cond_false,cond_true,Yo,show((2:Int)==2)=true from rfl];have:=ihb (o+a.sz) m h.b h6 i.2 om;rw[show((o+a.sz:Nat):Int)+b.sz - 1=(o:Int)+a.sz+b.sz - 1 by omega] at this;rw[this,Yo,Yo,iha o m h.a h5 i.1 om,Yo,(Xgo om h2 (Ex.vl_i64 hr h5 i.1) (Ex.vl_i64 hr h6 i.2)).1];rfl
theorem X025 {e:Ex} (h:e.ir):∀ o:Int,∀ x∈e.fl o,i64 x.N:=by
 induction e with
 |leaf k n t=>intro o x hx;rw[List.mem_singleton.1 hx];exact h
 |un k t a ih =>
  intro o x hx;rcases List.mem_append.1 hx with hx|hx
  ·exact ih h o x hx
  ·rw[List.mem_singleton.1 hx];exact Xdn
 |bin k t a b iha ihb =>
  intro o x hx;rcases List.mem_append.1 hx with hx|hx
  ·exact iha h.1 o x hx
  ·rcases List.mem_append.1 hx with hx|hx
   ·exact ihb h.2 _ x hx
   ·rw[List.mem_singleton.1 hx];exact Xdn
theorem X04p {e:Ex}:∀ o:Int,(∀ x∈e.fl o,i64 x.N)->e.ir:=by
 induction e with
 |leaf k n t=>intro o h;exact h _ (List.mem_singleton.2 rfl)
 |un k t a ih=>intro o h;exact ih o λx hx=>h x (List.mem_append_left _ hx)
 |bin k t a b iha ihb=>intro o h;exact⟨iha o λx hx=>h x (List.mem_append_left _ hx),ihb _ λx hx=>h x (List.mem_append_right _ (List.mem_append_left _ hx))⟩
theorem Xmy {e:Ex} (h:e.fits) (ht:e.ty=true) (hi:e.ir) {r:X1w} (hr:rI r):X6r (e.fl 0) r=some (e.vl r,0):=by
 have hz:=(X54 h.ok h.sz h.dp).1;have hsz:=h.sz;have hp:=e.sz_pos;unfold X6r Xa2 X7e;rw[X7b (Xj7 h.ok 0),X7c h ht,Yo,Yo,e.fl_len];have hm:Xrl (e.sz:Int) (e.sz:Int) 8=some ():=by unfold Xrl;rw[if_pos ⟨by omega,rfl,by omega⟩]
 rw[hm,X2o om];obtain⟨vs,hvs,hl,hj⟩:=Xlv (X6v hz) (X025 hi 0) hr (e.fl 0) 0 (List.replicate (Int.toNat (e.sz:Int)) 0) rfl (by simp[e.fl_len]) (λj hj=>by omega);rw[e.fl_len] at hl hj;simp only[bne_self_eq_false,cond_false,Yo];rw[hvs];simp only[bne_self_eq_false,cond_false,Yo];rw[hl,Xv om om,show(e.sz:Int) - 1=((e.sz - 1:Nat):Int) by omega,X2u,hj _ om];have:=Xci hr e 0 (e.sz - 1+1) .refl h.ok hi (by have:=e.dp_le;omega);rw[show((0:Nat):Int)+(e.sz:Int) - 1=((e.sz - 1:Nat):Int) by omega] at this;unfold Xb4;rw[this];rfl
end Go.D


namespace Go.D
def zr:X1w:=⟨0,0,0⟩
theorem Xc4:rI zr:=⟨Xdn,Xdn,Xdn⟩
def fm (v:Int) (g:Bool) (t:Int):Option Ex :=
 if g=true then some (.bin (if v≠0 then 16 else 17) t (.leaf 1 0 t) (.leaf 1 0 t))
 else if 0<=v then some (.leaf 1 v t)
 else if v > -9223372036854775808 then some (.un 5 t (.leaf 1 (-v) t)) else none
def fdw (c:Bool) (v:Int) (g:Bool) (t:Int) (x:Ex):Ex:=if c=true then (fm v g t).getD x else x
def Ex.fd:Ex->Ex
 |.leaf k n t=>.leaf k n t
 |.un k t a=>fdw a.cs (opv k (a.vl zr) 0) (giv k) t (.un k t a.fd)
 |.bin k t a b=>fdw (a.cs&&b.cs) (opv k (a.vl zr) (b.vl zr)) (giv k) t (.bin k t a.fd b.fd)
theorem Xj0 {k:Int} (h:k<=5):giv k=false:=by
 unfold giv;rw[show(k==6)=false by simp;omega,Yf om];rfl
theorem Xkd {k:Int} (h:giv k=true):k=6\/12<=k:=by
 unfold giv at h;simp only[Bool.or_eq_true,beq_iff_eq,decide_eq_true_eq] at h;exact h
theorem if01 (b:Bool):(if b=true then (1:Int) else 0)=0\/(if b=true then (1:Int) else 0)=1:=by cases b<;>simp
theorem Xl6 {k a b:Int} (h:giv k=true) (hk:k<=19):opv k a b=0\/opv k a b=1:=by
 unfold opv X6h;simp only[Xbg];rcases(by have:=Xkd h;omega:k=6\/k=12\/k=13\/k=14\/k=15\/k=16\/k=17\/k=18\/k=19) with h|h|h|h|h|h|h|h|h<;>subst h<;>exact if01 _
theorem Xry {e:Ex} {r:X1w} (h:e.ok) (g:giv e.kd=true):e.vl r=0\/e.vl r=1:=by
 cases e with
 |leaf k n t=>rw[show(Ex.leaf k n t).kd=k from rfl,Xj0 (by have:=h.2.1;omega)] at g;cases g
 |un k t a=>exact Xl6 g (by have:=h.2.1;show k<=19;omega)
 |bin k t a b=>exact Xl6 g h.2.1
theorem Xbf (r:X1w) {e:Ex}:e.ok->e.cs=true->e.vl r=e.vl zr:=by
 induction e with
 |leaf k n t =>
  intro h g;simp only[Ex.cs,decide_eq_true_eq] at g;have hk:k=1:=by have:=h.1;omega
  simp[Ex.vl,hk]
 |un k t a ih=>intro h g;simp only[Ex.vl,ih h.2.2.2.2 g]
 |bin k t a b iha ihb =>
  intro h g;simp only[Ex.cs,Bool.and_eq_true] at g;simp only[Ex.vl,iha h.2.2.2.2.1 g.1,ihb h.2.2.2.2.2 g.2]
theorem Xs0 {e:Ex} (h:e.ok) (ht:e.ty=true) (g:giv e.kd=true):3<=e.sz/\2<=e.dp:=by
 induction e with
 |leaf k n t=>rw[show(Ex.leaf k n t).kd=k from rfl,Xj0 (by have:=h.2.1;omega)] at g;cases g
 |un k t a ih =>
  have hk:k=6:=by
   have:=Xkd g;have h2:=h.2.1;simp only[Ex.kd] at this;omega
  subst hk;simp only[Ex.ty,show((6:Int)=5)=False by simp,if_false,Bool.and_eq_true] at ht;have:=ih h.2.2.2.2 ht.1 ht.2;simp only[Ex.sz,Ex.dp];omega
 |bin k t a b=>have:=a.sz_pos;have:=b.sz_pos;have:=a.dp_pos;simp only[Ex.sz,Ex.dp];omega
structure FmOk (v:Int) (g:Bool) (t:Int) (f:Ex):Prop where
 ok:f.ok
 ir:f.ir
 ty:f.ty=true
 kd:giv f.kd=g
 cs:f.cs=true
 vl:f.vl zr=v
 tx:f.tx=t
 sz:f.sz<=(if g=true then 3 else 2)
 dp:f.dp<=2
 fd:f.fd=f
theorem X00s (a b:Int):opv 16 a b=if a=b then 1 else 0:=by
 unfold opv X6h;simp only[show((16:Int)==5)=false from rfl,show((16:Int)==6)=false from rfl,show((16:Int)==7)=false from rfl,show((16:Int)==8)=false from rfl,show((16:Int)==9)=false from rfl,show((16:Int)==10)=false from rfl,show((16:Int)==11)=false from rfl,show((16:Int)==12)=false from rfl,show((16:Int)==13)=false from rfl,show((16:Int)==14)=false from rfl,show((16:Int)==15)=false from rfl,show((16:Int)==16)=true from rfl,cond_true,cond_false,Xbg,Yo];by_cases h:a=b<;>simp[h]
theorem X00r (a b:Int):opv 17 a b=if a=b then 0 else 1:=by
 unfold opv X6h;simp only[show((17:Int)==5)=false from rfl,show((17:Int)==6)=false from rfl,show((17:Int)==7)=false from rfl,show((17:Int)==8)=false from rfl,show((17:Int)==9)=false from rfl,show((17:Int)==10)=false from rfl,show((17:Int)==11)=false from rfl,show((17:Int)==12)=false from rfl,show((17:Int)==13)=false from rfl,show((17:Int)==14)=false from rfl,show((17:Int)==15)=false from rfl,show((17:Int)==16)=false from rfl,show((17:Int)==17)=true from rfl,cond_true,cond_false,Xbg,Yo];by_cases h:a=b<;>simp[h]
theorem Xx5 (a b:Int):opv 5 a b=IntKind.i64.wrap (0 - a):=by
 unfold opv X6h;simp only[show((5:Int)==5)=true from rfl,cond_true]
theorem X024 {v:Int} {g:Bool} {t:Int} {f:Ex} (hv:i64 v) (hg:g=true->v=0\/v=1) (h1:0<=t) (h2:t<=400) (h:fm v g t=some f):FmOk v g t f:=by
 unfold i64 at hv;unfold fm at h;split at h
 ·rename_i hgt;subst hgt;cases h
  have hl:(Ex.leaf 1 0 t).ok:=⟨by omega,by omega,by omega,.inl rfl,h1,h2⟩;rcases hg rfl with rfl|rfl
  ·have hvl:opv 17 ((Ex.leaf 1 0 t).vl zr) ((Ex.leaf 1 0 t).vl zr)=0:=by rw[X00r,if_pos rfl]
   refine⟨⟨by simp,by simp,h1,h2,hl,hl⟩,⟨Xdn,Xdn⟩,rfl,rfl,rfl,hvl,rfl,by simp[Ex.sz],by simp[Ex.dp],?_⟩;show fdw true (opv 17 ((Ex.leaf 1 0 t).vl zr) ((Ex.leaf 1 0 t).vl zr)) true t _=_;rw[hvl];rfl
  ·have hvl:opv 16 ((Ex.leaf 1 0 t).vl zr) ((Ex.leaf 1 0 t).vl zr)=1:=by rw[X00s,if_pos rfl]
   refine⟨⟨by simp,by simp,h1,h2,hl,hl⟩,⟨Xdn,Xdn⟩,rfl,rfl,rfl,hvl,rfl,by simp[Ex.sz],by simp[Ex.dp],?_⟩;show fdw true (opv 16 ((Ex.leaf 1 0 t).vl zr) ((Ex.leaf 1 0 t).vl zr)) true t _=_;rw[hvl];rfl
 ·rename_i hgt;have hgf:g=false:=by simpa using hgt
  subst hgf;split at h
  ·rename_i h0;cases h
   exact⟨⟨by omega,by omega,h0,.inr rfl,h1,h2⟩,hv,rfl,rfl,rfl,rfl,rfl,by simp[Ex.sz],by simp[Ex.dp],rfl⟩
  ·rename_i h0;split at h
   ·rename_i hlo;cases h
    have hvl:opv 5 ((Ex.leaf 1 (-v) t).vl zr) 0=v:=by
     rw[Xx5,show(Ex.leaf 1 (-v) t).vl zr = -v from rfl,Xv om om];omega
    refine⟨⟨by omega,by omega,h1,h2,⟨by omega,by omega,by omega,.inr rfl,h1,h2⟩⟩,⟨by omega,by omega⟩,rfl,rfl,rfl,hvl,rfl,by simp[Ex.sz],by simp[Ex.dp],?_⟩;show fdw true (opv 5 ((Ex.leaf 1 (-v) t).vl zr) 0) false t _=_;rw[hvl];unfold fdw fm;rw[if_pos rfl,if_neg (by simp),if_neg h0,if_pos hlo];rfl
   ·cases h
structure FdOk (e:Ex):Prop where
 ok:e.fd.ok
 ir:e.fd.ir
 ty:e.fd.ty=true
 kd:giv e.fd.kd=giv e.kd
 cs:e.fd.cs=e.cs
 vl:∀ r,rI r->e.fd.vl r=e.vl r
 sz:e.fd.sz<=e.sz
 dp:e.fd.dp<=e.dp
 fd:e.fd.fd=e.fd
theorem Xmw (e:Ex):e.ok->e.ir->e.ty=true->FdOk e:=by
 induction e with
 |leaf k n t=>intro h1 h2 h3;exact⟨h1,h2,h3,rfl,rfl,λ_ _=>rfl,Nat.le_refl _,Nat.le_refl _,rfl⟩
 |un k t a ih =>
  intro h1 h2 h3;have h3':=h3;simp only[Ex.ty,Bool.and_eq_true] at h3;obtain⟨k1,k2,t1,t2,ha⟩:=h1;have ia:=ih ha h2 h3.1;have rec_:(Ex.un k t a).fd=.un k t a.fd->FdOk (.un k t a):=by
   intro hf;refine⟨?_,?_,?_,?_,?_,?_,?_,?_,?_⟩
   ·rw[hf];exact⟨k1,k2,t1,t2,ia.ok⟩
   ·rw[hf];exact ia.ir
   ·rw[hf];simp only[Ex.ty,ia.ty,Bool.true_and,ia.kd];exact h3.2
   ·rw[hf];rfl
   ·rw[hf];exact ia.cs
   ·intro r hr;rw[hf];simp only[Ex.vl,ia.vl r hr]
   ·rw[hf];have:=ia.sz;simp only[Ex.sz];omega
   ·rw[hf];have:=ia.dp;simp only[Ex.dp];omega
   ·rw[hf];show fdw a.fd.cs (opv k (a.fd.vl zr) 0) (giv k) t (.un k t a.fd.fd)=_;rw[ia.cs,ia.vl zr Xc4,ia.fd];exact hf
  by_cases hc:a.cs=true
  ·cases hm:fm (opv k (a.vl zr) 0) (giv k) t with
   |none=>exact rec_ (by show fdw _ _ _ _ _=_;unfold fdw;rw[if_pos hc,hm];rfl)
   |some f =>
    have hf:(Ex.un k t a).fd=f:=by show fdw _ _ _ _ _=_;unfold fdw;rw[if_pos hc,hm];rfl
    have hv:=(Xgo k1 om (Ex.vl_i64 Xc4 ha h2) Xdn).2;have o:=X024 hv (λg=>Xl6 g om) t1 t2 hm;have hs:=a.sz_pos;have hd:=a.dp_pos;have htr:giv k=true->3<=a.sz:=by
     intro g;have h6:k=6:=by have:=Xkd g;omega
     rw[if_neg om] at h3;exact(Xs0 ha h3.1 h3.2).1
    refine⟨?_,?_,?_,?_,?_,?_,?_,?_,?_⟩
    ·rw[hf];exact o.ok
    ·rw[hf];exact o.ir
    ·rw[hf];exact o.ty
    ·rw[hf];exact o.kd
    ·rw[hf];exact o.cs.trans hc.symm
    ·intro r hr;rw[hf,Xbf r o.ok o.cs,o.vl];simp only[Ex.vl];rw[Xbf r ha hc]
    ·rw[hf];have:=o.sz;by_cases g:giv k=true
     ·rw[if_pos g] at this;have:=htr g;simp only[Ex.sz];omega
     ·rw[if_neg g] at this;simp only[Ex.sz];omega
    ·rw[hf];have:=o.dp;simp only[Ex.dp];omega
    ·rw[hf];exact o.fd
  ·exact rec_ (by show fdw _ _ _ _ _=_;unfold fdw;rw[if_neg hc])
 |bin k t a b iha ihb =>
  intro h1 h2 h3;have h3':=h3;simp only[Ex.ty,Bool.and_eq_true] at h3;obtain⟨k1,k2,t1,t2,ha,hb⟩:=h1;have ia:=iha ha h2.1 h3.1.1;have ib:=ihb hb h2.2 h3.1.2;have rec_:(Ex.bin k t a b).fd=.bin k t a.fd b.fd->FdOk (.bin k t a b):=by
   intro hf;refine⟨?_,?_,?_,?_,?_,?_,?_,?_,?_⟩
   ·rw[hf];exact⟨k1,k2,t1,t2,ia.ok,ib.ok⟩
   ·rw[hf];exact⟨ia.ir,ib.ir⟩
   ·rw[hf];simp only[Ex.ty,ia.ty,ib.ty,Bool.true_and,ia.kd,ib.kd];exact h3.2
   ·rw[hf];rfl
   ·rw[hf];simp only[Ex.cs,ia.cs,ib.cs]
   ·intro r hr;rw[hf];simp only[Ex.vl,ia.vl r hr,ib.vl r hr]
   ·rw[hf];have:=ia.sz;have:=ib.sz;simp only[Ex.sz];omega
   ·rw[hf];have:=ia.dp;have:=ib.dp;simp only[Ex.dp];omega
   ·rw[hf];show fdw (a.fd.cs&&b.fd.cs) (opv k (a.fd.vl zr) (b.fd.vl zr)) (giv k) t (.bin k t a.fd.fd b.fd.fd)=_;rw[ia.cs,ib.cs,ia.vl zr Xc4,ib.vl zr Xc4,ia.fd,ib.fd];exact hf
  by_cases hc:(a.cs&&b.cs)=true
  ·cases hm:fm (opv k (a.vl zr) (b.vl zr)) (giv k) t with
   |none=>exact rec_ (by show fdw _ _ _ _ _=_;unfold fdw;rw[if_pos hc,hm];rfl)
   |some f =>
    have hf:(Ex.bin k t a b).fd=f:=by show fdw _ _ _ _ _=_;unfold fdw;rw[if_pos hc,hm];rfl
    have hv:=(Xgo om k2 (Ex.vl_i64 Xc4 ha h2.1) (Ex.vl_i64 Xc4 hb h2.2)).2;have o:=X024 hv (λg=>Xl6 g om) t1 t2 hm;have hs:=a.sz_pos;have hs2:=b.sz_pos;have hd:=a.dp_pos;have hc':=hc;simp only[Bool.and_eq_true] at hc';refine⟨?_,?_,?_,?_,?_,?_,?_,?_,?_⟩
    ·rw[hf];exact o.ok
    ·rw[hf];exact o.ir
    ·rw[hf];exact o.ty
    ·rw[hf];exact o.kd
    ·rw[hf];exact o.cs.trans hc.symm
    ·intro r hr;rw[hf,Xbf r o.ok o.cs,o.vl];simp only[Ex.vl];rw[Xbf r ha hc'.1,Xbf r hb hc'.2]
    ·rw[hf];have:=o.sz;simp only[Ex.sz];split at this<;>omega
    ·rw[hf];have:=o.dp;simp only[Ex.dp];omega
    ·rw[hf];exact o.fd
  ·exact rec_ (by show fdw _ _ _ _ _=_;unfold fdw;rw[if_neg hc])
theorem Xct {e:Ex} (h:e.fits) (hi:e.ir) (ht:e.ty=true):e.fd.fits:=by
 have o:=Xmw e h.ok hi ht;exact⟨o.ok,Nat.le_trans o.sz h.sz,Nat.le_trans o.dp h.dp⟩
end Go.D


namespace Go.D
abbrev FF:=Xb
theorem X99 {e:Ex} (h:e.fits) (ht:e.ty=true) (hi:e.ir):X5y (e.fl 0)=some (if e.cs=true then (e.vl zr,true,0) else (0,false,0)):=by
 unfold X5y;rw[X7b (Xj7 h.ok 0),X7c h ht,Yo,Xak h];simp only[bne_self_eq_false,cond_false,Yo]
 cases hc:e.cs with
 |false=>rfl
 |true =>
  rw[if_pos rfl,show(X1w.mk 0 0 0)=zr from rfl,Xmy h ht hi Xc4];rfl
theorem Xde {e:Ex} (h:e.fits) (ht:e.ty=true) (hi:e.ir):X8q (e.fl 0)=some (if e.cs=true then (e.vl zr,true,0) else (0,false,0)):=by
 have hsz:=h.sz;have hp:=e.sz_pos;unfold X8q;rw[Xb2,X7c h ht,Yo,X4l h];simp only[bne_self_eq_false,cond_false,Yo]
 cases hc:e.cs with
 |false=>rfl
 |true =>
  have:=Xci Xc4 e 0 FU .refl h.ok hi (by have:=h.dp;unfold FU;omega);rw[if_pos rfl,e.fl_len,Xv om om,show(X1w.mk 0 0 0)=zr from rfl,show(e.sz:Int) - 1=((0:Nat):Int)+e.sz - 1 by omega,this];rfl
def frm (f:Option Ex):FF:=⟨match f with|some f=>f.fl 0|none=>[],f.isSome⟩
theorem Xf0 {n t:Int} (h0:0<=n) (h1:0<=t) (h2:t<=400):(Ex.leaf 1 n t).fits:=⟨⟨by omega,by omega,h0,.inr rfl,h1,h2⟩,by simp[Ex.sz],by simp[Ex.dp]⟩
theorem Xkg {k t:Int} (hk:k=16\/k=17) (h1:0<=t) (h2:t<=400):(Ex.bin k t (.leaf 1 0 t) (.leaf 1 0 t)).fits :=
 ⟨⟨by omega,by omega,h1,h2,(Xf0 (Int.le_refl 0) h1 h2).ok,(Xf0 (Int.le_refl 0) h1 h2).ok⟩,by simp[Ex.sz],by simp[Ex.dp]⟩
theorem Xla {n t:Int} (h0:0<=n) (h1:0<=t) (h2:t<=400):(Ex.un 5 t (.leaf 1 n t)).fits:=⟨⟨by omega,by omega,h1,h2,(Xf0 h0 h1 h2).ok⟩,by simp[Ex.sz],by simp[Ex.dp]⟩
theorem Xht {v:Int} {g:Bool} {t:Int} (hv:i64 v) (h1:0<=t) (h2:t<=400):X8g v g t=some (frm (fm v g t)):=by
 unfold i64 at hv;unfold X8g fm
 cases g with
 |true =>
  rw[if_pos rfl,cond_true];have key:∀ k,k=16\/k=17->((some k:Option Int).bind λXix=>(X43 0 t).bind λv22=>(X2g Xix 0 t [v22,v22]).bind λv24=>(bif (v24.2==(0:Int)) then (some (Xb.mk v24.1 (bif (v24.2==(0:Int)) then (decide ((List.length v24.1:Int)>(0:Int))) else false))) else (some (Xb.mk v24.1 (bif (v24.2==(0:Int)) then false else false))):Option (Xb)).bind λXiv=>some Xiv)=some (frm (some (.bin k t (.leaf 1 0 t) (.leaf 1 0 t)))):=by
   intro k hk;rw[Yo,show X43 0 t=some ((Ex.leaf 1 0 t).fl 0) from rfl,Yo,Xl8 (Xkg hk h1 h2),Yo];rfl
  by_cases hz:v=0
  ·rw[show(v != 0)=false by simp[hz],cond_false,if_neg (by simp[hz])];exact key 17 (.inr rfl)
  ·rw[show(v != 0)=true by simp[hz],cond_true,if_pos hz];exact key 16 (.inl rfl)
 |false =>
  rw[if_neg (by simp),cond_false];by_cases h0:0<=v
  ·rw[Yt h0,cond_true,if_pos h0];rfl
  ·rw[Yf h0,cond_false,if_neg h0];by_cases hl:v > -9223372036854775808
   ·rw[Xv om om,Yt om,cond_true,if_pos hl,show(0:Int) - v = -v by omega,show X43 (-v) t=some ((Ex.leaf 1 (-v) t).fl 0) from rfl,Yo,Xl9 (Xla om h1 h2),Yo];rfl
   ·rw[if_neg hl,show v = -9223372036854775808 by omega,show IntKind.i64.wrap (0 - -9223372036854775808) = -9223372036854775808 by rw[Xe8];omega];rfl
theorem Xhb {v:Int} {g:Bool} {t:Int} (hv:i64 v) (hg:g=true->v=0\/v=1) (h1:0<=t) (h2:t<=400):X5q v g t=some (match fm v g t with|some f=>f.fl 0|none=>[],(fm v g t).isSome):=by
 unfold i64 at hv;unfold X5q fm;rw[show X6b 0 t=some ((Ex.leaf 1 0 t).fl 0) from rfl,Yo]
 cases g with
 |true =>
  rw[if_pos rfl];simp only[cond_true];rcases hg rfl with rfl|rfl
  ·rw[show((0:Int)==1)=false from rfl,cond_false,Xhh (Xkg (.inr rfl) h1 h2)];rfl
  ·rw[show((1:Int)==1)=true from rfl,cond_true,Xhh (Xkg (.inl rfl) h1 h2)];rfl
 |false =>
  rw[if_neg (by simp)];simp only[cond_false];by_cases h0:0<=v
  ·rw[Yt (show v >= 0 from h0),cond_true,if_pos h0];rfl
  ·rw[Yf (show ¬ v >= 0 from h0),cond_false,if_neg h0];by_cases hl:v > -9223372036854775808
   ·rw[Yt hl,cond_true,if_pos hl,Xv om om,show(0:Int) - v = -v by omega,show X6b (-v) t=some ((Ex.leaf 1 (-v) t).fl 0) from rfl,Yo,Xle (Xla om h1 h2)];rfl
   ·rw[Yf hl,if_neg hl];rfl
def nf:FF:=⟨[],false⟩
def Ex.fmE (e:Ex):Option Ex:=fm (e.vl zr) (giv e.kd) e.tx
def Ex.fmC (e:Ex):Option Ex:=if e.cs=true then e.fmE else none
def Ex.mkr (e:Ex) (o:Nat) (L:List FF):List FF:=if e.cs=true then L.set (o+e.sz - 1) (frm e.fmE) else L
def Ex.mk:Ex->Nat->List FF->List FF
 |.leaf k n t,o,L=>(Ex.leaf k n t).mkr o L
 |.un k t a,o,L=>if (Ex.un k t a).fmC.isSome=true then (Ex.un k t a).mkr o L else a.mk o ((Ex.un k t a).mkr o L)
 |.bin k t a b,o,L=>if (Ex.bin k t a b).fmC.isSome=true then (Ex.bin k t a b).mkr o L else a.mk o (b.mk (o+a.sz) ((Ex.bin k t a b).mkr o L))
theorem Ex.mkr_ne (e:Ex) {o j:Nat} {L:List FF} (h:j≠o+e.sz - 1):(e.mkr o L)[j]?=L[j]?:=by
 unfold Ex.mkr;split
 ·exact List.getElem?_set_ne (Ne.symm h)
 ·rfl
theorem Ex.mk_ne (e:Ex):∀ {o j:Nat} {L:List FF},j<o\/o+e.sz<=j->(e.mk o L)[j]?=L[j]?:=by
 induction e with
 |leaf k n t=>intro o j L h;exact Ex.mkr_ne _ (by simp only[Ex.sz] at *;omega)
 |un k t a ih =>
  intro o j L h;have:=a.sz_pos;simp only[Ex.sz] at h;have hr:((Ex.un k t a).mkr o L)[j]?=L[j]?:=Ex.mkr_ne _ (by simp only[Ex.sz];omega);unfold Ex.mk;split
  ·exact hr
  ·rw[ih om];exact hr
 |bin k t a b iha ihb =>
  intro o j L h;have:=a.sz_pos;have:=b.sz_pos;simp only[Ex.sz] at h;have hr:((Ex.bin k t a b).mkr o L)[j]?=L[j]?:=Ex.mkr_ne _ (by simp only[Ex.sz];omega);unfold Ex.mk;split
  ·exact hr
  ·rw[iha om,ihb om];exact hr
theorem Ex.mkr_at (e:Ex) {o:Nat} {L:List FF} (h:L[o+e.sz - 1]?=some nf):(e.mkr o L)[o+e.sz - 1]?=some (frm e.fmC):=by
 have hlt:=(Ys.1 h).1;unfold Ex.mkr Ex.fmC;split
 ·rw[List.getElem?_set_self hlt]
 ·exact h
def Ex.kids:Ex->Nat->List Int->List Int
 |.leaf _ _ _,_,st=>st
 |.un _ _ a,o,st=>st++[(o:Int)+a.sz - 1]
 |.bin _ _ a b,o,st=>st++[(o:Int)+a.sz - 1,(o:Int)+a.sz+b.sz - 1]
theorem X9x {e s:Ex} {o:Nat} (h:e.fits) (ht:e.ty=true) (hi:e.ir) (g:Sub s o e) (hsi:s.ir) {L:List FF} (hL:L[o+s.sz - 1]?=some nf) {st:List Int} (hst:st.length<=1000) (n:Nat) (A:List X1) (B:Int) :
  Xq (e.fl 0) A B (gvs (e.fl 0) e.sz) (e.fl 0) (n+1) L (st++[(o:Int)+s.sz - 1]) =
   Xq (e.fl 0) A B (gvs (e.fl 0) e.sz) (e.fl 0) n (s.mkr o L) (if s.fmC.isSome=true then st else s.kids o st):=by
 have hp:=s.sz_pos;have hle:=g.le;have hsz:=h.sz;have hsf:=h.sub g;have hok:=hsf.ok;have hlen:(st++[(o:Int)+s.sz - 1]).length=st.length+1:=by simp
 have hidx:(o:Int)+s.sz - 1=((o+s.sz - 1:Nat):Int):=by omega
 have hget:∀ (M:List FF) x,M[o+s.sz - 1]?=some x->getI M ((o:Int)+s.sz - 1)=some x:=λM x hx=>by rw[hidx,X2u];exact hx
 rw[Xq,hlen,Yt (show((st.length+1:Nat):Int)>0 by omega),cond_true,Xv om om,show((st.length+1:Nat):Int) - 1=(st.length:Int) by omega,Xhr,Yo,
  Xdw (by simp),List.take_left,Yo,Xew h g,Yo]
 simp only[bne_self_eq_false,cond_false];rw[X99 hsf (g.ty ht) hsi,Yo];have hfin:∀ (M:List FF),M=s.mkr o L->((getI M ((o:Int)+s.sz - 1)).bind λe277=>bif (!(!e277.there)) then (Xq (e.fl 0) A B (gvs (e.fl 0) e.sz) (e.fl 0) n M st) else ((some (s.rt (o:Int))).bind λe280=>(X27 e280.Kind).bind λv282=>bif (v282.1==(1:Int)) then ((X1c (List.length (st++[e280.A])) 8).bind λu285=>Xq (e.fl 0) A B (gvs (e.fl 0) e.sz) (e.fl 0) n M (st++[e280.A])) else (bif (v282.1==(2:Int)) then ((X1c (List.length (st++[e280.A,e280.B])) 8).bind λu288=>Xq (e.fl 0) A B (gvs (e.fl 0) e.sz) (e.fl 0) n M (st++[e280.A,e280.B])) else (Xq (e.fl 0) A B (gvs (e.fl 0) e.sz) (e.fl 0) n M st)))) =
   Xq (e.fl 0) A B (gvs (e.fl 0) e.sz) (e.fl 0) n (s.mkr o L) (if s.fmC.isSome=true then st else s.kids o st):=by
  rintro M rfl;rw[hget _ _ (s.mkr_at hL),Yo]
  cases hc:s.fmC.isSome with
  |true=>rw[show(frm s.fmC).there=true from hc,if_pos rfl];rfl
  |false =>
   rw[show(frm s.fmC).there=false from hc,if_neg (by simp)];simp only[Bool.not_false,Bool.not_true,cond_false];rw[Yo]
   cases s with
   |leaf k m t=>rw[show(Ex.rt (.leaf k m t) (o:Int)).Kind=k from rfl,X8x hok.1 (by have:=hok.2.1;omega),if_pos hok.2.1];rfl
   |un k t a =>
    obtain⟨k1,k2,_⟩:=hok;rw[show(Ex.rt (.un k t a) (o:Int)).Kind=k from rfl,X8x om om,if_neg om,if_pos k2];simp only[Yo,show((1:Int)==1)=true from rfl,cond_true,Ex.rt];rw[X2z (by simp;omega),Yo];rfl
   |bin k t a b =>
    obtain⟨k1,k2,_⟩:=hok;rw[show(Ex.rt (.bin k t a b) (o:Int)).Kind=k from rfl,X8x om k2,if_neg om,if_neg om];simp only[Yo,show((2:Int)==1)=false from rfl,show((2:Int)==2)=true from rfl,cond_true,cond_false,Ex.rt];rw[X2z (by simp;omega),Yo];rfl
 cases hc:s.cs with
 |false =>
  rw[if_neg (by simp)];simp only[show((0:Int)==0)=true from rfl,cond_true,cond_false,Yo];rw[g.getI rfl];exact hfin L (by unfold Ex.mkr;rw[hc];rfl)
 |true =>
  have hgv:getI (gvs (e.fl 0) e.sz) ((o:Int)+s.sz - 1)=some (giv s.kd):=by
   rw[Xhq (by rw[e.fl_len];omega) om om,g.kindAt rfl]
  have htx:0<=s.tx/\s.tx<=400:=by
   cases s with
   |leaf k m t=>exact⟨hok.2.2.2.2.1,hok.2.2.2.2.2⟩
   |un k t a=>exact⟨hok.2.2.1,hok.2.2.2.1⟩
   |bin k t a b=>exact⟨hok.2.2.1,hok.2.2.2.1⟩
  rw[if_pos rfl];simp only[show((0:Int)==0)=true from rfl,cond_true];rw[hgv,Yo,g.getI rfl,Yo,s.rt_at,Xht (Ex.vl_i64 Xc4 hok hsi) htx.1 htx.2,Yo,hget _ _ hL,Yo,Yo];rw[show Int.toNat ((o:Int)+s.sz - 1)=o+s.sz - 1 by omega];exact hfin (L.set (o+s.sz - 1) (frm s.fmE)) (by unfold Ex.mkr;rw[hc,if_pos rfl])
theorem Sub.ir {s e:Ex} {o:Nat} (h:Sub s o e):e.ir->s.ir:=by
 induction h with
 |refl=>exact id
 |un h ih=>exact λg=>ih g
 |l h ih=>exact λg=>ih g.1
 |r h ih=>exact λg=>ih g.2
theorem Xpq {e:Ex} (h:e.fits) (ht:e.ty=true) (hi:e.ir) (A:List X1) (B:Int) (s:Ex):∀ (o:Nat) (L:List FF),Sub s o e->(∀ j,o<=j->j<o+s.sz->L[j]?=some nf) ->
  ∃ m,m<=s.sz/\∀ (n:Nat) (st:List Int),st.length+s.sz<=900->Xq (e.fl 0) A B (gvs (e.fl 0) e.sz) (e.fl 0) (n+m) L (st++[(o:Int)+s.sz - 1])=Xq (e.fl 0) A B (gvs (e.fl 0) e.sz) (e.fl 0) n (s.mk o L) st:=by
 induction s with
 |leaf k x t =>
  intro o L g hL;refine⟨1,by simp[Ex.sz],λn st hst=>?_⟩;rw[X9x h ht hi g (g.ir hi) (hL _ (by simp[Ex.sz]) (by simp[Ex.sz])) om];have:(if (Ex.leaf k x t).fmC.isSome=true then st else (Ex.leaf k x t).kids o st)=st:=by split<;>rfl
  rw[this];rfl
 |un k t a ih =>
  intro o L g hL;have hp:=a.sz_pos;have hroot:=hL (o+(Ex.un k t a).sz - 1) (by simp only[Ex.sz];omega) (by simp only[Ex.sz];omega);by_cases hf:(Ex.un k t a).fmC.isSome=true
  ·refine⟨1,by simp[Ex.sz],λn st hst=>?_⟩;rw[X9x h ht hi g (g.ir hi) hroot om,if_pos hf];unfold Ex.mk;rw[if_pos hf]
  ·obtain⟨m,hm,ha⟩:=ih o ((Ex.un k t a).mkr o L) g.u λj h1 h2=>by
    rw[Ex.mkr_ne _ (by simp only[Ex.sz];omega)];exact hL j h1 (by simp only[Ex.sz];omega)
   refine⟨m+1,by simp only[Ex.sz];omega,λn st hst=>?_⟩;simp only[Ex.sz] at hst;rw[show n+(m+1)=(n+m)+1 by omega,X9x h ht hi g (g.ir hi) hroot om,if_neg hf];show Xq _ _ _ _ _ _ _ (st++[(o:Int)+a.sz - 1])=_;rw[ha n st om]
   conv=>rhs;unfold Ex.mk
   rw[if_neg hf]
 |bin k t a b iha ihb =>
  intro o L g hL;have hp:=a.sz_pos;have hq:=b.sz_pos;have hroot:=hL (o+(Ex.bin k t a b).sz - 1) (by simp only[Ex.sz];omega) (by simp only[Ex.sz];omega);by_cases hf:(Ex.bin k t a b).fmC.isSome=true
  ·refine⟨1,by simp[Ex.sz],λn st hst=>?_⟩;rw[X9x h ht hi g (g.ir hi) hroot om,if_pos hf];unfold Ex.mk;rw[if_pos hf]
  ·obtain⟨m1,hm1,hb⟩:=ihb (o+a.sz) ((Ex.bin k t a b).mkr o L) g.b λj h1 h2=>by
    rw[Ex.mkr_ne _ (by simp only[Ex.sz];omega)];exact hL j om (by simp only[Ex.sz];omega)
   obtain⟨m2,hm2,ha⟩:=iha o (b.mk (o+a.sz) ((Ex.bin k t a b).mkr o L)) g.a λj h1 h2=>by
    rw[Ex.mk_ne _ (.inl om),Ex.mkr_ne _ (by simp only[Ex.sz];omega)];exact hL j h1 (by simp only[Ex.sz];omega)
   refine⟨m2+m1+1,by simp only[Ex.sz];omega,λn st hst=>?_⟩;simp only[Ex.sz] at hst;rw[show n+(m2+m1+1)=(n+m2+m1)+1 by omega,X9x h ht hi g (g.ir hi) hroot om,if_neg hf];show Xq _ _ _ _ _ _ _ (st++[(o:Int)+a.sz - 1,(o:Int)+a.sz+b.sz - 1])=_;have e1:=hb (n+m2) (st++[(o:Int)+a.sz - 1]) (by simp;omega);rw[show((o+a.sz:Nat):Int)+b.sz - 1=(o:Int)+a.sz+b.sz - 1 by omega,List.append_assoc] at e1;rw[show st++[(o:Int)+a.sz - 1,(o:Int)+a.sz+b.sz - 1]=st++([(o:Int)+a.sz - 1]++[(o:Int)+a.sz+b.sz - 1]) from rfl,e1,ha n st om]
   conv=>rhs;unfold Ex.mk
   rw[if_neg hf]
def FOk (F:List FF):Ex->Nat->Prop
 |.leaf k n t,o=>F[o+1 - 1]?=some (frm (Ex.leaf k n t).fmC)
 |.un k t a,o=>F[o+(a.sz+1) - 1]?=some (frm (Ex.un k t a).fmC)/\((Ex.un k t a).fmC=none->FOk F a o)
 |.bin k t a b,o=>F[o+(a.sz+b.sz+1) - 1]?=some (frm (Ex.bin k t a b).fmC)/\((Ex.bin k t a b).fmC=none->FOk F a o/\FOk F b (o+a.sz))
theorem FOk.congr (s:Ex):∀ {F F':List FF} {o:Nat},(∀ j,o<=j->j<o+s.sz->F'[j]?=F[j]?)->FOk F s o->FOk F' s o:=by
 induction s with
 |leaf k n t=>intro F F' o h g;show F'[o+1 - 1]?=_;rw[h _ om (by simp[Ex.sz])];exact g
 |un k t a ih =>
  intro F F' o h g;simp only[Ex.sz] at h;obtain⟨g1,g2⟩:=(show _/\_ from g);show _/\_;exact⟨by rw[h _ om om];exact g1,λhn=>ih (λj h1 h2=>h j h1 om) (g2 hn)⟩
 |bin k t a b iha ihb =>
  intro F F' o h g;simp only[Ex.sz] at h;obtain⟨g1,g2⟩:=(show _/\_ from g);show _/\_;exact⟨by rw[h _ om om];exact g1,λhn=>⟨iha (λj h1 h2=>h j h1 om) (g2 hn).1,ihb (λj h1 h2=>h j om om) (g2 hn).2⟩⟩
theorem X017 (s:Ex):∀ (o:Nat) (L:List FF),(∀ j,o<=j->j<o+s.sz->L[j]?=some nf)->FOk (s.mk o L) s o:=by
 induction s with
 |leaf k n t=>intro o L h;exact Ex.mkr_at _ (h _ (by simp[Ex.sz]) (by simp[Ex.sz]))
 |un k t a ih =>
  intro o L h;have hp:=a.sz_pos;simp only[Ex.sz] at h;have hr:=Ex.mkr_at (.un k t a) (L:=L) (h (o+(a.sz+1) - 1) om om);show FOk (if _ then _ else _) _ _
  cases hf:(Ex.un k t a).fmC with
  |some f =>
   rw[hf] at hr;rw[if_pos (show(some f).isSome=true from rfl)];exact(show _/\_ from⟨by rw[hf];exact hr,λh=>by rw[hf] at h;cases h⟩)
  |none =>
   rw[hf] at hr;rw[if_neg (by simp)];show _/\_;exact⟨by rw[hf,Ex.mk_ne _ (.inr om)];exact hr,λ_=>ih o _ λj h1 h2=>by rw[Ex.mkr_ne _ (by simp only[Ex.sz];omega)];exact h j h1 om⟩
 |bin k t a b iha ihb =>
  intro o L h;have hp:=a.sz_pos;have hq:=b.sz_pos;simp only[Ex.sz] at h;have hr:=Ex.mkr_at (.bin k t a b) (L:=L) (h (o+(a.sz+b.sz+1) - 1) om om);show FOk (if _ then _ else _) _ _
  cases hf:(Ex.bin k t a b).fmC with
  |some f =>
   rw[hf] at hr;rw[if_pos (show(some f).isSome=true from rfl)];exact(show _/\_ from⟨by rw[hf];exact hr,λh=>by rw[hf] at h;cases h⟩)
  |none =>
   rw[hf] at hr;rw[if_neg (by simp)];show _/\_;refine⟨by rw[hf,Ex.mk_ne _ (.inr om),Ex.mk_ne _ (.inr om)];exact hr,λ_=>⟨iha o _ λj h1 h2=>?_,?_⟩⟩
   ·rw[Ex.mk_ne _ (.inl om),Ex.mkr_ne _ (by simp only[Ex.sz];omega)];exact h j h1 om
   ·refine FOk.congr b (λj h1 h2=>Ex.mk_ne _ (.inr om)) (ihb (o+a.sz) _ λj h1 h2=>?_);rw[Ex.mkr_ne _ (by simp only[Ex.sz];omega)];exact h j om om
end Go.D


namespace Go.D
theorem X03p {s:Ex} (h:s.ok):0<=s.tx/\s.tx<=400:=by
 cases s with
 |leaf k m t=>exact⟨h.2.2.2.2.1,h.2.2.2.2.2⟩
 |un k t a=>exact⟨h.2.2.1,h.2.2.2.1⟩
 |bin k t a b=>exact⟨h.2.2.1,h.2.2.2.1⟩
theorem Xb9 {s f:Ex} (h:s.ok) (hf:s.fmC=some f):s.fd=f:=by
 unfold Ex.fmC at hf;split at hf
 ·rename_i hc
  cases s with
  |leaf k n t =>
   have hk:k=1:=by
    have:decide (k<=1)=true:=hc;have:=of_decide_eq_true this;have:=h.1;omega
   subst hk;unfold Ex.fmE fm at hf;rw[if_neg (by simp[Ex.kd,giv]),if_pos (show 0<=(Ex.leaf 1 n t).vl zr from h.2.2.1)] at hf;exact Option.some.inj hf
  |un k t a =>
   show fdw _ _ _ _ _=_;unfold fdw;rw[if_pos (show a.cs=true from hc),show fm (opv k (a.vl zr) 0) (giv k) t=some f from hf];rfl
  |bin k t a b =>
   show fdw _ _ _ _ _=_;unfold fdw;rw[if_pos (show(a.cs&&b.cs)=true from hc),show fm (opv k (a.vl zr) (b.vl zr)) (giv k) t=some f from hf];rfl
 ·cases hf
theorem X027 {k t:Int} {a:Ex} (hf:(Ex.un k t a).fmC=none):(Ex.un k t a).fd=.un k t a.fd:=by
 show fdw _ _ _ _ _=_;unfold fdw;unfold Ex.fmC at hf;by_cases hc:a.cs=true
 ·rw[if_pos (show(Ex.un k t a).cs=true from hc)] at hf;rw[if_pos hc,show fm (opv k (a.vl zr) 0) (giv k) t=none from hf];rfl
 ·rw[if_neg hc]
theorem Xvc {k t:Int} {a b:Ex} (hf:(Ex.bin k t a b).fmC=none):(Ex.bin k t a b).fd=.bin k t a.fd b.fd:=by
 show fdw _ _ _ _ _=_;unfold fdw;unfold Ex.fmC at hf;by_cases hc:(a.cs&&b.cs)=true
 ·rw[if_pos (show(Ex.bin k t a b).cs=true from hc)] at hf;rw[if_pos hc,show fm (opv k (a.vl zr) (b.vl zr)) (giv k) t=none from hf];rfl
 ·rw[if_neg hc]
theorem Xcw {n:Nat} {l:List X1} {F:List FF} {i:Int} {f:Ex} (h:getI F i=some (frm (some f))) (hz:f.sz<=60):X1o (n+1) l F i=some (f.fl 0,0):=by
 rw[X1o,h,Yo];simp only[show(frm (some f)).there=true from rfl,show(frm (some f)).value=f.fl 0 from rfl,cond_true];rw[Xlz,cond_false,X2z (by rw[f.fl_len];omega)];rfl
theorem Xhv {s f:Ex} (h:s.fits) (hi:s.ir) (ht:s.ty=true) (hf:s.fmC=some f):f.fits:=by rw[<-Xb9 h.ok hf];exact Xct h hi ht
theorem Xn5 {e:Ex} (h:e.fits) (ht:e.ty=true) (hi:e.ir) {F:List FF} (s:Ex):∀ (o n:Nat),Sub s o e->FOk F s o->s.dp<=n->X1o n (e.fl 0) F ((o:Int)+s.sz - 1)=some (s.fd.fl 0,0):=by
 induction s with
 |leaf k x t =>
  intro o n g hF hn;have hs:=h.sub g;obtain⟨n,rfl⟩:∃ q,n=q+1:=⟨n - 1,by simp only[Ex.dp] at hn;omega⟩;have hg:getI F ((o:Int)+(Ex.leaf k x t).sz - 1)=some (frm (Ex.leaf k x t).fmC):=by
   rw[show(o:Int)+(Ex.leaf k x t).sz - 1=((o+1 - 1:Nat):Int) by simp[Ex.sz],X2u];exact hF
  cases hf:(Ex.leaf k x t).fmC with
  |some f=>rw[hf] at hg;rw[Xcw hg (Xhv hs (g.ir hi) (g.ty ht) hf).sz,Xb9 hs.ok hf]
  |none =>
   rw[hf] at hg;obtain⟨k1,k2,_⟩:=hs.ok;rw[X1o,hg,Yo];simp only[show(frm none).there=false from rfl,cond_false];rw[g.getI rfl,Yo];simp only[Ex.rt];rw[X8x k1 om,if_pos k2];simp only[Yo,show((0:Int)==0)=true from rfl,cond_true,List.length_nil];rw[X2o om,Yo,X3m,Yo];simp only[bne_self_eq_false,cond_false];rw[Xsq hs];rfl
 |un k t a ih =>
  intro o n g hF hn;have hs:=h.sub g;obtain⟨n,rfl⟩:∃ q,n=q+1:=⟨n - 1,by simp only[Ex.dp] at hn;omega⟩;simp only[Ex.dp] at hn;obtain⟨hF1,hF2⟩:=(show _/\_ from hF);have hg:getI F ((o:Int)+(Ex.un k t a).sz - 1)=some (frm (Ex.un k t a).fmC):=by
   rw[show(o:Int)+(Ex.un k t a).sz - 1=((o+(a.sz+1) - 1:Nat):Int) by simp only[Ex.sz];omega,X2u];exact hF1
  cases hf:(Ex.un k t a).fmC with
  |some f=>rw[hf] at hg;rw[Xcw hg (Xhv hs (g.ir hi) (g.ty ht) hf).sz,Xb9 hs.ok hf]
  |none =>
   rw[hf] at hg;obtain⟨k1,k2,_⟩:=hs.ok;have hd:=Xct hs (g.ir hi) (g.ty ht);rw[X027 hf] at hd ⊢;rw[X1o,hg,Yo];simp only[show(frm none).there=false from rfl,cond_false];rw[g.getI rfl,Yo];simp only[Ex.rt];rw[X8x om om,if_neg om,if_pos k2];simp only[Yo,show((1:Int)==0)=false from rfl,show((1:Int)==1)=true from rfl,cond_true,cond_false];rw[ih o n g.u (hF2 hf) om,Yo];simp only[bne_self_eq_false,cond_false];rw[Xl9 hd];rfl
 |bin k t a b iha ihb =>
  intro o n g hF hn;have hs:=h.sub g;obtain⟨n,rfl⟩:∃ q,n=q+1:=⟨n - 1,by simp only[Ex.dp] at hn;omega⟩;simp only[Ex.dp] at hn;obtain⟨hF1,hF2⟩:=(show _/\_ from hF);have hg:getI F ((o:Int)+(Ex.bin k t a b).sz - 1)=some (frm (Ex.bin k t a b).fmC):=by
   rw[show(o:Int)+(Ex.bin k t a b).sz - 1=((o+(a.sz+b.sz+1) - 1:Nat):Int) by simp only[Ex.sz];omega,X2u];exact hF1
  cases hf:(Ex.bin k t a b).fmC with
  |some f=>rw[hf] at hg;rw[Xcw hg (Xhv hs (g.ir hi) (g.ty ht) hf).sz,Xb9 hs.ok hf]
  |none =>
   rw[hf] at hg;obtain⟨k1,k2,_⟩:=hs.ok;have hd:=Xct hs (g.ir hi) (g.ty ht);rw[Xvc hf] at hd ⊢;rw[X1o,hg,Yo];simp only[show(frm none).there=false from rfl,cond_false];rw[g.getI rfl,Yo];simp only[Ex.rt];rw[X8x om k2,if_neg om,if_neg om];simp only[Yo,show((2:Int)==0)=false from rfl,show((2:Int)==1)=false from rfl,show((2:Int)==2)=true from rfl,cond_true,cond_false];have e2:=ihb (o+a.sz) n g.b (hF2 hf).2 om;rw[show((o+a.sz:Nat):Int)+b.sz - 1=(o:Int)+a.sz+b.sz - 1 by omega] at e2;rw[iha o n g.a (hF2 hf).1 om,Yo];simp only[bne_self_eq_false,cond_false];rw[e2,Yo];simp only[bne_self_eq_false,cond_false];rw[Xl8 hd];rfl
theorem Xg5 {e:Ex} (h:e.fits) (ht:e.ty=true):X9r (e.fl 0)=some (gvs (e.fl 0) e.sz,0):=by
 have hz:=(X54 h.ok h.sz h.dp).1;have hsz:=h.sz;have hf:=Xhw e 0 (Sub.refl (s:=e)) h.ok;rw[show((0:Nat):Int)=0 from rfl] at hf;unfold X9r X6y;rw[X7b (Xj7 h.ok 0),X7c h ht,Yo,X2o (by rw[e.fl_len];omega)];have htd:=Xjv (l:=e.fl 0) (by rw[e.fl_len];omega) (X6v hz) (e.fl 0) 0 rfl;rw[show gvs (e.fl 0) 0=[] from by unfold gvs;simp,(Xdu (e.fl 0) (e.fl 0) 0).2 (hf.trans ht)] at htd;simp only[bne_self_eq_false,cond_false,Yo];rw[htd,e.fl_len];rfl
theorem Xfb {e:Ex} (h:e.fits) (ht:e.ty=true) (hi:e.ir):X38 (e.fl 0)=some (e.fd.fl 0,0):=by
 have hsz:=h.sz;have hp:=e.sz_pos;unfold X38;rw[Xg5 h ht,Yo,e.fl_len];simp only[bne_self_eq_false,cond_false];have hm:Xrl (e.sz:Int) (e.sz:Int) 32=some ():=by unfold Xrl;rw[if_pos ⟨by omega,rfl,by omega⟩]
 have hdef:∀ j,0<=j->j<0+e.sz->(List.replicate (Int.toNat (e.sz:Int)) nf)[j]?=some nf:=by
  intro j _ hj;rw[List.getElem?_replicate,if_pos om]
 obtain⟨m,hm1,hl⟩:=Xpq h ht hi ([]:List X1) 0 e 0 (List.replicate (Int.toNat (e.sz:Int)) nf) .refl hdef;have hstep:=hl (FU - m) [] (by simp;omega);obtain⟨q,hq⟩:∃ q,FU - m=q+1:=⟨FU - m - 1,by unfold FU;omega⟩;rw[show FU - m+m=FU by unfold FU;omega,hq,List.nil_append,show((0:Nat):Int)+(e.sz:Int) - 1=(e.sz:Int) - 1 by omega] at hstep;rw[hm,Yo,Xv om om,show(Xb.mk [] false)=nf from rfl,hstep];rw[show Xq (e.fl 0) [] 0 (gvs (e.fl 0) e.sz) (e.fl 0) (q+1) (e.mk 0 (List.replicate (Int.toNat (e.sz:Int)) nf)) []=some (.x0 [] (e.mk 0 (List.replicate (Int.toNat (e.sz:Int)) nf))) from rfl,Yo];simp only;have hb:=Xn5 h ht hi e 0 FU .refl (X017 e 0 _ hdef) (by have:=h.dp;unfold FU;omega);rw[show((0:Nat):Int)+(e.sz:Int) - 1=(e.sz:Int) - 1 by omega] at hb;rw[hb];rfl
theorem Xcg {e:Ex} (h:e.fits) (ht:e.ty=true) (hi:e.ir) (s:Ex):∀ (o n:Nat),Sub s o e->s.dp<=n->X2r n (e.fl 0) ((o:Int)+s.sz - 1)=some (s.fd.fl 0):=by
 have form:∀ (s:Ex) (o:Nat),Sub s o e->s.cs=true->(X0a FU (e.fl 0) ((o:Int)+s.sz - 1) (X1w.mk 0 0 0))=some (s.vl zr)/\X5q (s.vl zr) (giv s.kd) s.tx=some (match s.fmC with|some f=>f.fl 0|none=>[],s.fmC.isSome):=by
  intro s o g hc;have hs:=h.sub g;have htx:=X03p hs.ok;refine⟨Xci Xc4 s o FU g hs.ok (g.ir hi) (by have:=hs.dp;unfold FU;omega),?_⟩;rw[Xhb (Ex.vl_i64 Xc4 hs.ok (g.ir hi)) (λg=>Xry hs.ok g) htx.1 htx.2];unfold Ex.fmC;rw[if_pos hc];rfl
 have nocs:∀ (s:Ex),s.cs=false->s.fmC=none:=λs hc=>by unfold Ex.fmC;rw[if_neg (by rw[hc];simp)]
 induction s with
 |leaf k x t =>
  intro o n g hn;have hs:=h.sub g;obtain⟨n,rfl⟩:∃ q,n=q+1:=⟨n - 1,by simp only[Ex.dp] at hn;omega⟩;rw[X2r,g.getI rfl,Yo,X7w h g,Yo,X4l hs,Yo];have rec_:(X23 k x t [])=some ((Ex.leaf k x t).fl 0):=Xsu;simp only[Ex.rt];rw[Xi3,if_pos hs.ok.2.1]
  cases hc:(Ex.leaf k x t).cs with
  |true =>
   obtain⟨f1,f2⟩:=form _ o g hc;rw[cond_true,f1,Yo,Xad,Yo,show X5q ((Ex.leaf k x t).vl zr) (giv k) t=_ from f2,Yo]
   cases hf:(Ex.leaf k x t).fmC with
   |some f=>simp only[Option.isSome_some,cond_true];rw[Xb9 hs.ok hf]
   |none =>
    simp only[Option.isSome_none,cond_false,Yo,show decide ((0:Int)>0)=false from rfl,show decide ((0:Int)>1)=false from rfl];rw[rec_];rfl
  |false =>
   simp only[cond_false,Yo,show decide ((0:Int)>0)=false from rfl,show decide ((0:Int)>1)=false from rfl];rw[rec_];rfl
 |un k t a ih =>
  intro o n g hn;have hs:=h.sub g;obtain⟨k1,k2,_⟩:=hs.ok;obtain⟨n,rfl⟩:∃ q,n=q+1:=⟨n - 1,by simp only[Ex.dp] at hn;omega⟩;simp only[Ex.dp] at hn;rw[X2r,g.getI rfl,Yo,X7w h g,Yo,X4l hs,Yo];have rec_:(Ex.un k t a).fmC=none->X23 k 0 t [a.fd.fl 0]=some ((Ex.un k t a).fd.fl 0):=λhf=>by
   have hd:=Xct hs (g.ir hi) (g.ty ht);rw[X027 hf] at hd ⊢;exact Xle hd
  simp only[Ex.rt];rw[Xi3,if_neg om,if_pos k2];have ia:=ih o n g.u om
  cases hc:(Ex.un k t a).cs with
  |true =>
   obtain⟨f1,f2⟩:=form _ o g hc;rw[cond_true,f1,Yo,Xad,Yo,show X5q ((Ex.un k t a).vl zr) (giv k) t=_ from f2,Yo]
   cases hf:(Ex.un k t a).fmC with
   |some f=>simp only[Option.isSome_some,cond_true];rw[Xb9 hs.ok hf]
   |none =>
    simp only[Option.isSome_none,cond_false,cond_true,Yo,show decide ((1:Int)>0)=true from rfl,show decide ((1:Int)>1)=false from rfl,ia];rw[rec_ hf];rfl
  |false =>
   simp only[cond_false,cond_true,Yo,show decide ((1:Int)>0)=true from rfl,show decide ((1:Int)>1)=false from rfl,ia];rw[rec_ (nocs _ hc)];rfl
 |bin k t a b iha ihb =>
  intro o n g hn;have hs:=h.sub g;obtain⟨k1,k2,_⟩:=hs.ok;obtain⟨n,rfl⟩:∃ q,n=q+1:=⟨n - 1,by simp only[Ex.dp] at hn;omega⟩;simp only[Ex.dp] at hn;rw[X2r,g.getI rfl,Yo,X7w h g,Yo,X4l hs,Yo];have rec_:(Ex.bin k t a b).fmC=none->X23 k 0 t [a.fd.fl 0,b.fd.fl 0]=some ((Ex.bin k t a b).fd.fl 0):=λhf=>by
   have hd:=Xct hs (g.ir hi) (g.ty ht);rw[Xvc hf] at hd ⊢;exact Xhh hd
  simp only[Ex.rt];rw[Xi3,if_neg om,if_neg om];have ia:=iha o n g.a om;have ib:=ihb (o+a.sz) n g.b om;rw[show((o+a.sz:Nat):Int)+b.sz - 1=(o:Int)+a.sz+b.sz - 1 by omega] at ib;have hcap:∀ (x y:List X1),X1c ([x]++[y]).length 24=some ():=λx y=>X2z (by simp)
  cases hc:(Ex.bin k t a b).cs with
  |true =>
   obtain⟨f1,f2⟩:=form _ o g hc;rw[cond_true,f1,Yo,Xad,Yo,show X5q ((Ex.bin k t a b).vl zr) (giv k) t=_ from f2,Yo]
   cases hf:(Ex.bin k t a b).fmC with
   |some f=>simp only[Option.isSome_some,cond_true];rw[Xb9 hs.ok hf]
   |none =>
    simp only[Option.isSome_none,cond_false,cond_true,Yo,show decide ((2:Int)>0)=true from rfl,show decide ((2:Int)>1)=true from rfl,ia,ib,hcap];rw[List.singleton_append,rec_ hf];rfl
  |false =>
   simp only[cond_false,cond_true,Yo,show decide ((2:Int)>0)=true from rfl,show decide ((2:Int)>1)=true from rfl,ia,ib,hcap];rw[List.singleton_append,rec_ (nocs _ hc)];rfl
theorem Xeq {e:Ex} (h:e.fits) (ht:e.ty=true) (hi:e.ir):X5r (e.fl 0)=some (e.fd.fl 0,0):=by
 have hsz:=h.sz;have hp:=e.sz_pos;unfold X5r;rw[Xb2,X7c h ht,Yo,e.fl_len];simp only[bne_self_eq_false,cond_false];have:=Xcg h ht hi e 0 FU .refl (by have:=h.dp;unfold FU;omega);rw[Xv om om,show(e.sz:Int) - 1=((0:Nat):Int)+(e.sz:Int) - 1 by omega,this];rfl
end Go.D


namespace Go.D
theorem Xq3:∀ (xs ks:List Int),(X47 ks xs).length<=ks.length+xs.length/\((X47 ks xs).length=ks.length+xs.length↔xs.Nodup/\∀ x∈xs,x ∉ ks):=by
 intro xs
 induction xs with
 |nil=>intro ks;simp[X47]
 |cons x xs ih =>
  intro ks;rw[X47];unfold Xa5;by_cases hm:x∈ks
  ·rw[if_pos hm];have:=ih ks;refine⟨by have:=this.1;simp only[List.length_cons];omega,⟨λh=>?_,λh=>?_⟩⟩
   ·have:=this.1;simp only[List.length_cons] at h;omega
   ·exact absurd hm (h.2 x List.mem_cons_self)
  ·rw[if_neg hm];have:=ih (ks++[x]);rw[List.length_append,List.length_singleton] at this;refine⟨by have:=this.1;simp only[List.length_cons];omega,?_⟩;rw[show ks.length+(x::xs).length=ks.length+1+xs.length by simp only[List.length_cons];omega,this.2];constructor
   ·rintro⟨h1,h2⟩;refine⟨List.nodup_cons.2 ⟨λhx=>h2 x hx (by simp),h1⟩,?_⟩;intro y hy;rcases List.mem_cons.1 hy with rfl|hy
    ·exact hm
    ·exact λhk=>h2 y hy (by simp[hk])
   ·rintro⟨h1,h2⟩;refine⟨(List.nodup_cons.1 h1).2,λy hy hk=>?_⟩;rcases List.mem_append.1 hk with hk|hk
    ·exact h2 y (List.mem_cons_of_mem _ hy) hk
    ·simp at hk;subst hk;exact(List.nodup_cons.1 h1).1 hy
theorem Xkj {s:List Int} (hn:s.length<=1000):∃ v,X0m s=some v/\decide (v<(s.length:Int))=!(decide s.Nodup):=by
 unfold X0m;rw[X2o om];refine⟨_,rfl,?_⟩;have h:=Xq3 s [];simp only[List.length_nil,Nat.zero_add,List.not_mem_nil,not_false_eq_true,implies_true,and_true] at h;by_cases hd:s.Nodup
 ·rw[Yt hd,h.2.2 hd];simp
 ·rw[Yf hd];have:(X47 [] s).length≠s.length:=λe=>hd (h.2.1 e);have:=h.1;simp;omega
theorem Xc0 (s:List Int) (j:Bool):X1r s j=some (X4g s j):=by
 unfold X1r X4g Xnt;by_cases h4:s.length>4
 ·rw[if_pos h4,Yt (show(s.length:Int)>4 by omega)];rfl
 ·rw[if_neg h4,Yf (show ¬ (s.length:Int)>4 by omega),cond_false];obtain⟨v,hv,hd⟩:=Xkj (s:=s) om;rw[Xkl om,hv];simp only[Yo];rw[hd];have e0:((s.length:Int)==0)=(s.length==0):=by rw[Bool.eq_iff_iff];simp
  have e2:((s.length:Int) != 2)=(s.length != 2):=by rw[Bool.eq_iff_iff];simp;omega
  rw[e0,e2];generalize (s.any λx=>decide (x<0)||decide (x>3))=b;generalize (s.length==0)=z;generalize (s.length != 2)=t;by_cases hn:s.Nodup<;>cases z<;>cases t<;>cases j<;>cases b<;>simp[hn]
theorem Xd3 (Y:List Int):∀ (xs:List Int) (k:Nat),X26 Y xs k=some (bif (xs.any λx=>decide (x<0)||decide (x>3)) then .x1 else .x0)
 |[],k=>rfl
 |x::xs,k=>by
  rw[X26,Xd3 Y xs (k+1),List.any_cons];cases decide (x<0)<;>cases decide (x>3)<;>rfl
theorem Xik (s:List Int) (i:Nat) (hi:i<s.length) (hs:s.length<=1000):∀ (m n j:Nat),m=i - j->m<n->∃ o,X25 s (i:Int) n (j:Int)=some o/\(o=.x0↔∃ j',j<=j'/\j'<i/\s[j']?=s[i]?):=by
 intro m
 induction m with
 |zero =>
  intro n j hm hn
  cases n with
  |zero=>omega
  |succ n =>
   rw[X25,Yf (show ¬ (j:Int)<(i:Int) by omega)];exact⟨.x1,rfl,⟨λh=>(by cases h),λ⟨j',h1,h2,_⟩=>by omega⟩⟩
 |succ m ih =>
  intro n j hm hn
  cases n with
  |zero=>omega
  |succ n =>
   rw[X25,Yt (show(j:Int)<(i:Int) by omega),cond_true,show getI s (j:Int)=some (s[j]' om) by rw[X2u];exact Ye _,show getI s (i:Int)=some (s[i]'hi) by rw[X2u];exact Ye _];simp only[Yo];by_cases he:s[j]=s[i]
   ·refine⟨.x0,?_,⟨λ_=>⟨j,Nat.le_refl _,by omega,by rw[Ye (show j<s.length by omega),Ye hi,he]⟩,λ_=>rfl⟩⟩;rw[show(s[j]==s[i])=true by simp[he]];rfl
   ·rw[show(s[j]==s[i])=false by simp[he],cond_false,Xv om om];obtain⟨o,h1,h2⟩:=ih n (j+1) om om;refine⟨o,by rw[show(j:Int)+1=((j+1:Nat):Int) by omega];exact h1,h2.trans ⟨λ⟨j',a,b,c⟩=>⟨j',by omega,b,c⟩,λ⟨j',a,b,c⟩=>?_⟩⟩;by_cases hj:j'=j
    ·subst hj;rw[Ye (show j'<s.length by omega),Ye hi] at c;exact absurd (Option.some.inj c) he
    ·exact⟨j',by omega,b,c⟩
theorem Xd2 (s:List Int) (hs:s.length<=1000):∀ (xs:List Int) (k:Nat),s.drop k=xs->(s.take k).Nodup->X1t s xs k=some (if s.Nodup then .x0 else .x1)
 |[],k,h,hd=>by
  have:s.length<=k:=by
   have:=congrArg List.length h;simp at this;omega
  rw[List.take_of_length_le this] at hd;rw[X1t,if_pos hd]
 |x::xs,k,h,hd=>by
  have hk:s[k]?=some x:=by
   have:(s.drop k)[0]?=some x:=by rw[h];rfl
   simpa using this
  have hdr:s.drop (k+1)=xs:=by
   have:(s.drop k).drop 1=xs:=by rw[h];rfl
   rw[List.drop_drop] at this;exact this
  have hlt:=(Ys.1 hk).1;rw[X1t];obtain⟨o,h1,h2⟩:=Xik s k hlt hs (k - 0) FU 0 rfl (by unfold FU;omega);rw[show((0:Nat):Int)=0 from rfl] at h1;rw[h1,Yo]
  cases o with
  |x0 =>
   obtain⟨j,_,hj,he⟩:=h2.1 rfl;have:¬ s.Nodup:=λhn=>by
    have:=(List.getElem?_inj (by omega:j<s.length) hn).1 he;omega
   rw[if_neg this]
  |x1 =>
   have hno:¬ ∃ j',0<=j'/\j'<k/\s[j']?=s[k]?:=λh=>by have:=h2.2 h;cases this
   refine Xd2 s hs xs (k+1) hdr ?_;rw[List.take_add_one,hk];simp only[Option.toList_some];rw[List.nodup_append];refine⟨hd,by simp,λa ha b hb=>?_⟩;simp at hb;subst hb;intro e;subst e;obtain⟨j,hj,e⟩:=List.getElem_of_mem ha;simp at hj;refine hno ⟨j,Nat.zero_le _,by omega,?_⟩;rw[hk,<-e,List.getElem_take,Ye]
theorem Xdg (s:List Int) (j:Bool):X57 s j=some (X4g s j):=by
 unfold X57 X4g Xnt;by_cases h4:s.length>4
 ·rw[if_pos h4,Yt (show(s.length:Int)>4 by omega)];rfl
 ·rw[if_neg h4,Yf (show ¬ (s.length:Int)>4 by omega),cond_false,X2o om,Xd3,Xd2 s om s 0 rfl (by simp)];have e0:((s.length:Int)==0)=(s.length==0):=by rw[Bool.eq_iff_iff];simp
  have e2:((s.length:Int) != 2)=(s.length != 2):=by rw[Bool.eq_iff_iff];simp;omega
  rw[e0,e2];generalize (s.any λx=>decide (x<0)||decide (x>3))=b;generalize (s.length==0)=z;generalize (s.length != 2)=t;by_cases hn:s.Nodup<;>cases z<;>cases t<;>cases j<;>cases b<;>simp[hn]
instance (w:Xk):Decidable (okW w):=by unfold okW;infer_instance
theorem Xva (w:Xk) (hE:w.Every<=9223372036854775807 /\ -9223372036854775808<=w.Every):X5s w=some (decide (okW w))/\X0x w=some (if okW w then 0 else 8):=by
 by_cases hw:okW w
 ·refine⟨?_,by rw[if_pos hw];exact X8i hw⟩;rw[Yt hw];obtain⟨h1,h2,h3⟩:=hw;unfold X5s;rw[Yf (show ¬ w.Size<1 by omega),Yf (show ¬ w.Size>1073741824 by omega)];rcases h3 with ⟨k,a1,a2,a3⟩|⟨k|k,a⟩
  ·rw[show(w.Kind==2)=true by simp[k],Yt a1,Yt a2,Xv om om,Yt a3];rfl
  ·rw[show(w.Kind==2)=false by simp[k],show(w.Kind==1)=true by simp[k],show(w.Every==0)=true by simp[a]];rfl
  ·rw[show(w.Kind==2)=false by simp[k],show(w.Kind==3)=true by simp[k],show(w.Every==0)=true by simp[a],show(w.Kind==1)=false by simp[k]];rfl
 ·rw[if_neg hw,Yf hw];by_cases hs:w.Size<1\/w.Size>1073741824
  ·have:(bif decide (w.Size<1) then true else decide (w.Size>1073741824))=true:=by
    rcases hs with h|h
    ·rw[Yt h];rfl
    ·rw[Yf om,Yt h];rfl
   constructor
   ·unfold X5s;rw[this];rfl
   ·unfold X0x;rw[this];rfl
  ·have:(bif decide (w.Size<1) then true else decide (w.Size>1073741824))=false:=by
    rw[Yf om,Yf om];rfl
   unfold X5s X0x;rw[this,cond_false,cond_false];by_cases k2:w.Kind=2
   ·rw[show(w.Kind==2)=true by simp[k2],cond_true,cond_true];have:(bif (bif decide (w.Every >= 1) then decide (w.Every<=w.Size) else false) then decide (w.Size<=IntKind.i64.wrap (16*w.Every)) else false)=false:=by
     by_cases g1:w.Every >= 1
     ·by_cases g2:w.Every<=w.Size
      ·rw[Yt g1,Yt g2,Xv om om,Yf];rfl;intro g3;exact hw ⟨by omega,by omega,.inl ⟨k2,g1,g2,g3⟩⟩
      ·rw[Yt g1,Yf g2];rfl
     ·rw[Yf g1];rfl
    rw[this];exact⟨rfl,rfl⟩
   ·rw[show(w.Kind==2)=false by simp[k2],cond_false,cond_false];by_cases k1:w.Kind=1
    ·have:w.Every≠0:=λh=>hw ⟨by omega,by omega,.inr ⟨.inl k1,h⟩⟩;rw[show(w.Kind==1)=true by simp[k1],show(w.Every==0)=false by simp[this]];exact⟨rfl,rfl⟩
    ·by_cases k3:w.Kind=3
     ·have:w.Every≠0:=λh=>hw ⟨by omega,by omega,.inr ⟨.inr k3,h⟩⟩;rw[show(w.Kind==1)=false by simp[k1],show(w.Kind==3)=true by simp[k3],show(w.Every==0)=false by simp[this]];exact⟨rfl,rfl⟩
     ·rw[show(w.Kind==1)=false by simp[k1],show(w.Kind==3)=false by simp[k3]];exact⟨rfl,rfl⟩
end Go.D


namespace Go.D
def Xkm (q:Xa):Int :=
 if q.Agg<1\/q.Agg>4\/(q.Late≠1/\q.Late≠2) then 8
 else if q.Agg=1/\0<q.Arg.length then 8
 else if q.Agg≠1/\nchk q.Arg≠0 then nchk q.Arg
 else if 0<q.Where.length/\nchk q.Where≠0 then nchk q.Where
 else if X4g q.Sources q.Join≠0 then X4g q.Sources q.Join
 else if q.Join=true/\q.Window.Kind≠1 then 8
 else if okW q.Window then 0 else 8
structure QW (q:Xa):Prop where
 arg:∀ x∈q.Arg,0<=x.Kind
 wher:∀ x∈q.Where,0<=x.Kind
 ev:q.Window.Every<=9223372036854775807 /\ -9223372036854775808<=q.Window.Every
theorem Xw4 {q:Xa} (hq:QW q):((X1r q.Sources q.Join).bind λv10=>bif (v10 != (0:Int)) then (some v10) else (bif (bif q.Join then (q.Window.Kind != (1:Int)) else false) then (some 8) else ((X0x q.Window).bind λv14=>some v14)))=some (if X4g q.Sources q.Join≠0 then X4g q.Sources q.Join
 else if q.Join=true/\q.Window.Kind≠1 then 8
 else if okW q.Window then 0 else 8):=by
 rw[Xc0,Yo,(Xva q.Window hq.ev).2];by_cases h:X4g q.Sources q.Join=0
 ·rw[h];by_cases hj:q.Join=true
  ·by_cases hk:q.Window.Kind=1
   ·simp[hj,hk]
   ·simp[hj,hk,Xn6 hk]
  ·simp[hj]
 ·simp[h,Xn6 h]
theorem Xdr {q:Xa} (hq:QW q):X5d q=some (Xkm q):=by
 unfold X5d Xkm;rw[Xw4 hq,X4h hq.arg,X4h hq.wher];generalize (if X4g q.Sources q.Join≠0 then X4g q.Sources q.Join else if q.Join=true/\q.Window.Kind≠1 then 8 else if okW q.Window then 0 else 8)=T;have e1:(bif (bif (decide (q.Agg<(1:Int))) then true else (decide (q.Agg>(4:Int)))) then true else (bif (q.Late != (1:Int)) then (q.Late != (2:Int)) else false))=decide (q.Agg<1\/q.Agg>4\/(q.Late≠1/\q.Late≠2)):=by
  rw[Bool.eq_iff_iff];by_cases h1:q.Agg<1<;>by_cases h2:q.Agg>4<;>by_cases h3:q.Late=1<;>by_cases h4:q.Late=2<;>simp[h1,h2,h3,h4]
 rw[e1];by_cases hA:(q.Agg<1\/q.Agg>4\/(q.Late≠1/\q.Late≠2))
 ·rw[if_pos hA,Yt hA];rfl
 ·rw[if_neg hA,Yf hA,cond_false];by_cases h1:q.Agg=1
  ·rw[show(q.Agg != 1)=false by simp[h1],cond_false];by_cases hl:0<q.Arg.length
   ·rw[Yt (show(q.Arg.length:Int)>0 by omega),if_pos ⟨h1,hl⟩];rfl
   ·rw[Yf (show ¬ (q.Arg.length:Int)>0 by omega),if_neg (λh=>hl h.2),if_neg (λh=>h.1 h1),cond_false];by_cases hw:0<q.Where.length
    ·rw[Yt (show(q.Where.length:Int)>0 by omega),cond_true,Yo];by_cases hz:nchk q.Where=0
     ·rw[hz];simp
     ·rw[if_pos ⟨hw,hz⟩,show(nchk q.Where != 0)=true by simp[hz]];rfl
    ·rw[Yf (show ¬ (q.Where.length:Int)>0 by omega),if_neg (λh=>hw h.1)];rfl
  ·rw[show(q.Agg != 1)=true by simp[h1],cond_true,if_neg (λh=>h1 h.1),Yo];by_cases hn:nchk q.Arg=0
   ·rw[hn,if_neg (λh=>h.2 rfl),show((0:Int) != 0)=false from rfl,cond_false];by_cases hw:0<q.Where.length
    ·rw[Yt (show(q.Where.length:Int)>0 by omega),cond_true,Yo];by_cases hz:nchk q.Where=0
     ·rw[hz];simp
     ·rw[if_pos ⟨hw,hz⟩,show(nchk q.Where != 0)=true by simp[hz]];rfl
    ·rw[Yf (show ¬ (q.Where.length:Int)>0 by omega),if_neg (λh=>hw h.1)];rfl
   ·rw[if_pos ⟨h1,hn⟩,show(nchk q.Arg != 0)=true by simp[hn]];rfl
theorem Xg1 {q:Xa} (hq:QW q):X75 q=some (Xkm q):=by
 unfold X75 Xkm;rw[X7x,X7x,Xdg,(Xva q.Window hq.ev).1];have e1:(bif (bif (bif (decide (q.Agg<(1:Int))) then true else (decide (q.Agg>(4:Int)))) then true else (decide (q.Late<(1:Int)))) then true else (decide (q.Late>(2:Int))))=decide (q.Agg<1\/q.Agg>4\/(q.Late≠1/\q.Late≠2)):=by
  rw[Bool.eq_iff_iff];have g:(q.Late≠1/\q.Late≠2)↔(q.Late<1\/q.Late>2):=by omega
  rw[show decide (q.Agg<1\/q.Agg>4\/(q.Late≠1/\q.Late≠2))=decide (q.Agg<1\/q.Agg>4\/(q.Late<1\/q.Late>2)) from decide_eq_decide.2 (by rw[g])];by_cases h1:q.Agg<1<;>by_cases h2:q.Agg>4<;>by_cases h3:q.Late<1<;>by_cases h4:q.Late>2<;>simp[h1,h2,h3,h4]
 rw[e1]
 have tl:((some (X4g q.Sources q.Join)).bind λv29=>bif (v29 != (0:Int)) then (some v29) else ((some (decide (okW q.Window))).bind λv32=>bif (bif (!v32) then true else (bif q.Join then (q.Window.Kind != (1:Int)) else false)) then (some 8) else (some 0)))=some (if X4g q.Sources q.Join≠0 then X4g q.Sources q.Join
 else if q.Join=true/\q.Window.Kind≠1 then 8
 else if okW q.Window then 0 else 8):=by
  simp only[Yo];by_cases h:X4g q.Sources q.Join=0
  ·rw[h];by_cases hk:q.Window.Kind=1
   ·by_cases hj:q.Join=true<;>by_cases ho:okW q.Window<;>simp[hj,hk,ho]
   ·by_cases hj:q.Join=true<;>by_cases ho:okW q.Window<;>simp[hj,hk,ho,Xn6 hk]
  ·simp[h,Xn6 h]
 rw[tl];generalize (if X4g q.Sources q.Join≠0 then X4g q.Sources q.Join else if q.Join=true/\q.Window.Kind≠1 then 8 else if okW q.Window then 0 else 8)=T;by_cases hA:(q.Agg<1\/q.Agg>4\/(q.Late≠1/\q.Late≠2))
 ·rw[if_pos hA,Yt hA];rfl
 ·rw[if_neg hA,Yf hA,cond_false];have wh:((bif (decide ((List.length q.Where:Int)>(0:Int))) then ((some (nchk q.Where)).bind λv23=>some (bif (decide ((List.length q.Where:Int)>(0:Int))) then (v23 != (0:Int)) else false)) else (some (bif (decide ((List.length q.Where:Int)>(0:Int))) then false else false)):Option (Bool)).bind λXiw=>bif Xiw then ((some (nchk q.Where)).bind λv27=>some v27) else some T)=some (if 0<q.Where.length/\nchk q.Where≠0 then nchk q.Where else T):=by
   by_cases hw:0<q.Where.length
   ·rw[Yt (show(q.Where.length:Int)>0 by omega)];by_cases hz:nchk q.Where=0
    ·rw[hz];simp
    ·rw[if_pos ⟨hw,hz⟩];simp[hz,Xn6 hz]
   ·rw[Yf (show ¬ (q.Where.length:Int)>0 by omega),if_neg (λh=>hw h.1)];rfl
  rw[wh];generalize (if 0<q.Where.length/\nchk q.Where≠0 then nchk q.Where else T)=T2;by_cases h1:q.Agg=1
  ·rw[show(q.Agg==1)=true by simp[h1],show(q.Agg != 1)=false by simp[h1]];by_cases hl:0<q.Arg.length
   ·rw[Yt (show(q.Arg.length:Int)>0 by omega),if_pos ⟨h1,hl⟩];rfl
   ·rw[Yf (show ¬ (q.Arg.length:Int)>0 by omega),if_neg (λh=>hl h.2),if_neg (λh=>h.1 h1)];rfl
  ·rw[show(q.Agg==1)=false by simp[h1],show(q.Agg != 1)=true by simp[h1],if_neg (λh=>h1 h.1)];by_cases hn:nchk q.Arg=0
   ·rw[hn,if_neg (λh=>h.2 rfl)];rfl
   ·rw[if_pos ⟨h1,hn⟩];simp[hn,Xn6 hn]
def Xz3 (l:List X1) (i:Int):Int:=match getI l i with|some e=>e.At|none=>0
theorem Xhi {l:List X1} {b:Bool} (h:0<l.length):∃ e,getI l (X1i l b).1=some e/\Xz3 l (X1i l b).1=e.At:=by
 have hr:0<=(X1i l b).1/\(X1i l b).1<l.length:=by
  have:(X1i l b).1=(kOf l).2.1:=by unfold X1i;split<;>rfl
  rw[this];unfold kOf;split
  ·simp only;omega
  ·split
   ·rename_i j hj;have:=Xku l l 0 j hj;simp only;omega
   ·simp only;omega
 obtain⟨e,he,_⟩:=X9t hr.1 hr.2;exact⟨e,he,by unfold Xz3;rw[he]⟩
def rt (q:Xa):Int×Int :=
 if 0<q.Arg.length/\(X1i q.Arg false).2≠0 then (Xz3 q.Arg (X1i q.Arg false).1,(X1i q.Arg false).2)
 else if 0<q.Where.length/\(X1i q.Where true).2≠0 then (Xz3 q.Where (X1i q.Where true).1,(X1i q.Where true).2)
 else (0,0)
theorem Xkv (q:Xa) (hw:0<q.Where.length):(bif ((X1i q.Where true).2 != (0:Int)) then ((getI q.Where (X1i q.Where true).1).bind λe28=>some (e28.At,(X1i q.Where true).2)) else (some (0,0)))=some (if 0<q.Where.length/\(X1i q.Where true).2≠0 then (Xz3 q.Where (X1i q.Where true).1,(X1i q.Where true).2) else (0,0)):=by
 obtain⟨e,he,ha⟩:=Xhi (b:=true) hw;by_cases hz:(X1i q.Where true).2=0
 ·rw[if_neg (λh=>h.2 hz),show((X1i q.Where true).2 != 0)=false by simp[hz]];rfl
 ·rw[if_pos ⟨hw,hz⟩,show((X1i q.Where true).2 != 0)=true by simp[hz],he,ha];rfl
theorem Xg0 (q:Xa):X73 q=some (rt q):=by
 unfold X73 rt;rw[Xbl,Xbl];simp only[Yo];have wh:(bif (decide ((List.length q.Where:Int)>(0:Int))) then (bif ((X1i q.Where true).2 != (0:Int)) then ((getI q.Where (X1i q.Where true).1).bind λe28=>some (e28.At,(X1i q.Where true).2)) else (some (0,0))) else (some (0,0)))=some (if 0<q.Where.length/\(X1i q.Where true).2≠0 then (Xz3 q.Where (X1i q.Where true).1,(X1i q.Where true).2) else (0,0)):=by
  by_cases hw:0<q.Where.length
  ·rw[Yt (show(q.Where.length:Int)>0 by omega),cond_true,Xkv q hw]
  ·rw[Yf (show ¬ (q.Where.length:Int)>0 by omega),if_neg (λh=>hw h.1)];rfl
 rw[wh];by_cases ha:0<q.Arg.length
 ·rw[Yt (show(q.Arg.length:Int)>0 by omega),cond_true];obtain⟨e,he,hat⟩:=Xhi (b:=false) ha;by_cases hz:(X1i q.Arg false).2=0
  ·rw[if_neg (show ¬ (0<q.Arg.length/\(X1i q.Arg false).2≠0) from λh=>h.2 hz),show((X1i q.Arg false).2 != 0)=false by simp[hz],cond_false]
  ·rw[if_pos (show(0<q.Arg.length/\(X1i q.Arg false).2≠0) from⟨ha,hz⟩),show((X1i q.Arg false).2 != 0)=true by simp[hz],he,hat];rfl
 ·rw[Yf (show ¬ (q.Arg.length:Int)>0 by omega),if_neg (show ¬ (0<q.Arg.length/\(X1i q.Arg false).2≠0) from λh=>ha h.1),cond_false]
def Xsf (q:Xa):Int×Int:=if Xkm q≠0 then (0,Xkm q) else rt q
theorem X7v {q:Xa} (hq:QW q):X4t q=some (Xsf q):=by
 unfold X4t Xsf;rw[Xg1 hq,Xg0,Yo];by_cases h:Xkm q=0
 ·rw[if_neg om,h];rfl
 ·rw[if_pos h,show(Xkm q != 0)=true by simp[h]];rfl
theorem Xa6 {q:Xa} (hq:QW q):X4a q=some (Xsf q):=by
 unfold X4a Xsf;rw[Xdr hq,Yo];by_cases h:Xkm q=0
 ·rw[if_neg om,h,show((0:Int) != 0)=false from rfl,cond_false];unfold X7a X7p;rw[Xbs hq.arg,Xbs hq.wher];simp only[Yo];unfold rt;have wh:(bif ((List.length q.Where:Int)==(0:Int)) then (some (0,0)) else (bif ((X1i q.Where true).2 != (0:Int)) then ((getI q.Where (X1i q.Where true).1).bind λe28=>some (e28.At,(X1i q.Where true).2)) else (some (0,0))))=some (if 0<q.Where.length/\(X1i q.Where true).2≠0 then (Xz3 q.Where (X1i q.Where true).1,(X1i q.Where true).2) else (0,0)):=by
   by_cases hw:0<q.Where.length
   ·rw[lz hw,cond_false,Xkv q hw]
   ·rw[lz' hw,if_neg (λh=>hw h.1)];rfl
  rw[wh];by_cases ha:0<q.Arg.length
  ·rw[lz ha,cond_false];obtain⟨e,he,hat⟩:=Xhi (b:=false) ha;by_cases hz:(X1i q.Arg false).2=0
   ·rw[if_neg (show ¬ (0<q.Arg.length/\(X1i q.Arg false).2≠0) from λh=>h.2 hz),show((X1i q.Arg false).2 != 0)=false by simp[hz],cond_false];rfl
   ·rw[if_pos (show(0<q.Arg.length/\(X1i q.Arg false).2≠0) from⟨ha,hz⟩),show((X1i q.Arg false).2 != 0)=true by simp[hz],he,hat];rfl
  ·rw[lz' ha,if_neg (show ¬ (0<q.Arg.length/\(X1i q.Arg false).2≠0) from λh=>ha h.1)];rfl
 ·rw[if_pos h,show(Xkm q != 0)=true by simp[h]];rfl
end Go.D


namespace Go.D
def eL:Option Ex->List X1
 |none=>[]
 |some e=>e.fl 0
theorem Xvi {o:Option Ex} (h:∀ x,o=some x->x.fits):(eL o).length<=60:=by
 cases o with
 |none=>simp[eL]
 |some e=>simp only[eL];rw[e.fl_len];exact(h e rfl).sz
theorem Xas (o:Option Ex):(0<(eL o).length↔o≠none):=by
 cases o with
 |none=>simp[eL]
 |some e=>simp only[eL];rw[e.fl_len];have:=e.sz_pos;simp;omega
def tOk (b:Bool) (o:Option Ex):Prop:=∀ x,o=some x->x.fits/\x.ty=true/\giv x.kd=b/\x.ir
def mkQ (q:Xa) (a w:Option Ex) (n:Xk):Xa:=⟨q.Agg,eL a,q.Sources,q.Join,eL w,n,q.ByKey,q.Late⟩
structure Rr (q:Xa) (a w:Option Ex) (n:Xk):Prop where
 ta:tOk false a
 tw:tOk true w
 agg:1<=q.Agg/\q.Agg<=4
 none_:q.Agg=1↔a=none
 late:q.Late=1\/q.Late=2
 src:X4g q.Sources q.Join=0
 join:q.Join=true->n.Kind=1
 win:okW n
theorem tOk.fits {b:Bool} {o:Option Ex} (h:tOk b o):∀ x,o=some x->x.fits:=λx hx=>(h x hx).1
theorem tOk.want {b:Bool} {o:Option Ex} (h:tOk b o) (hn:o≠none):(X1i (eL o) b).2=0:=by
 cases o with
 |none=>exact absurd rfl hn
 |some e =>
  obtain⟨h1,h2,h3,_⟩:=h e rfl;simp only[eL];unfold X1i;rw[X7c h1 h2,if_neg (by simp[h3])]
theorem tOk.nchk {b:Bool} {o:Option Ex} (h:tOk b o) (hn:o≠none):nchk (eL o)=0:=by
 cases o with
 |none=>exact absurd rfl hn
 |some e=>have:=h.fits e rfl;exact(X54 this.ok this.sz this.dp).1
theorem Rr.qw {q:Xa} {a w:Option Ex} {n:Xk} (h:Rr q a w n):QW (mkQ q a w n):=by
 refine⟨λx hx=>?_,λx hx=>?_,?_⟩
 ·cases a with
  |none=>cases hx
  |some e=>exact Xj7 (h.ta.fits e rfl).ok 0 x hx
 ·cases w with
  |none=>cases hx
  |some e=>exact Xj7 (h.tw.fits e rfl).ok 0 x hx
 ·have:=h.win;unfold okW at this;show n.Every<=_/\_<=n.Every;omega
theorem X05s {q:Xa} (h1:1<=q.Agg/\q.Agg<=4) (h2:q.Late=1\/q.Late=2) (h3:q.Agg=1->¬ 0<q.Arg.length) (h4:q.Agg≠1->nchk q.Arg=0) (h5:0<q.Where.length->nchk q.Where=0) (h6:X4g q.Sources q.Join=0) (h7:q.Join=true->q.Window.Kind=1) (h8:okW q.Window):Xkm q=0:=by
 unfold Xkm;rw[if_neg om,if_neg (λ⟨k,l⟩=>h3 k l),if_neg (λ⟨k,l⟩=>l (h4 k)),if_neg (λ⟨k,l⟩=>l (h5 k)),if_neg (by rw[h6];simp),if_neg (λ⟨k,l⟩=>l (h7 k)),if_pos h8]
theorem rt0 {q:Xa} (h1:0<q.Arg.length->(X1i q.Arg false).2=0) (h2:0<q.Where.length->(X1i q.Where true).2=0):rt q=(0,0):=by
 unfold rt;rw[if_neg (λ⟨k,l⟩=>l (h1 k)),if_neg (λ⟨k,l⟩=>l (h2 k))]
theorem Rr.chk {q:Xa} {a w:Option Ex} {n:Xk} (h:Rr q a w n):Xsf (mkQ q a w n)=(0,0):=by
 have hc:Xkm (mkQ q a w n)=0:=X05s h.agg h.late (λk l=>(Xas a).1 l (h.none_.1 k)) (λk=>h.ta.nchk λe=>k (h.none_.2 e)) (λk=>h.tw.nchk ((Xas w).1 k)) h.src h.join h.win;unfold Xsf;rw[if_neg (by rw[hc];simp)];exact rt0 (λk=>h.ta.want ((Xas a).1 k)) (λk=>h.tw.want ((Xas w).1 k))
theorem Xnj {l:List X1} {b:Bool} (hN:∀ x∈l,i64 x.N) (h:(X1i l b).2=0):∃ e:Ex,l=e.fl 0/\e.fits/\e.ty=true/\giv e.kd=b/\e.ir:=by
 unfold X1i at h;split at h
 ·cases h
 ·rename_i hk;obtain⟨e,h1,h2,rfl⟩:=X01f h;rw[X7c h1 h2] at hk;refine⟨e,rfl,h1,h2,?_,X04p 0 hN⟩;by_cases hb:giv e.kd=b
  ·exact hb
  ·exact absurd ⟨rfl,hb⟩ hk
theorem Xl7 {l:List X1} {b:Bool} (hN:∀ x∈l,i64 x.N) (h:0<l.length->(X1i l b).2=0):∃ o,l=eL o/\tOk b o:=by
 by_cases hl:0<l.length
 ·obtain⟨e,h1,h2,h3,h4,h5⟩:=Xnj hN (h hl);exact⟨some e,h1,λx hx=>by cases hx;exact⟨h2,h3,h4,h5⟩⟩
 ·exact⟨none,List.length_eq_zero_iff.1 om,λx hx=>by cases hx⟩
theorem Xh8 {q:Xa} (hA:∀ x∈q.Arg,i64 x.N) (hW:∀ x∈q.Where,i64 x.N) (h:(Xsf q).2=0):∃ a w,Rr q a w q.Window/\q=mkQ q a w q.Window:=by
 unfold Xsf at h;split at h
 ·rename_i hc;exact absurd h hc
 ·rename_i hc;have hc:Xkm q=0:=by simpa using hc
  unfold rt at h;have h1:0<q.Arg.length->(X1i q.Arg false).2=0:=by
   intro hl;by_cases hw:(X1i q.Arg false).2=0
   ·exact hw
   ·rw[if_pos ⟨hl,hw⟩] at h;exact h
  have h2:0<q.Where.length->(X1i q.Where true).2=0:=by
   intro hl;by_cases hw:(X1i q.Where true).2=0
   ·exact hw
   ·rw[if_neg (λ⟨k,l⟩=>l (h1 k)),if_pos ⟨hl,hw⟩] at h;exact h
  obtain⟨a,ha,oa⟩:=Xl7 hA h1;obtain⟨w,hw,ow⟩:=Xl7 hW h2;unfold Xkm at hc;split at hc
  ·cases hc
  ·rename_i c1;split at hc
   ·cases hc
   ·rename_i c2;split at hc
    ·rename_i c3;exact absurd hc c3.2
    ·rename_i c3;split at hc
     ·rename_i c4;exact absurd hc c4.2
     ·split at hc
      ·rename_i c5;exact absurd hc c5
      ·rename_i c5;split at hc
       ·cases hc
       ·rename_i c6;split at hc
        ·rename_i c7;refine⟨a,w,⟨oa,ow,by omega,⟨λk=>?_,λk=>?_⟩,by omega,by simpa using c5,λk=>?_,c7⟩,?_⟩
         ·have:¬ 0<q.Arg.length:=λl=>c2 ⟨k,l⟩;rw[ha] at this;by_cases hn:a=none
          ·exact hn
          ·exact absurd ((Xas a).2 hn) this
         ·by_cases hg:q.Agg=1
          ·exact hg
          ·exfalso;apply c3;refine⟨hg,?_⟩;rw[ha,k];decide
         ·by_cases hk:q.Window.Kind=1
          ·exact hk
          ·exact absurd ⟨k,hk⟩ c6
         ·obtain⟨x1,x2,x3,x4,x5,x6,x7,x8⟩:=q;simp only at ha hw;subst ha hw;rfl
        ·cases hc
def X46 (w:Option Ex):Option Ex:=match w with
 |none=>none
 |some x=>if x.cs=true/\x.vl zr≠0 then none else some x
def tum (n:Xk):Xk:=if n.Kind=2/\n.Size=n.Every then ⟨1,n.Size,0⟩ else n
theorem tOk.fd {b:Bool} {o:Option Ex} (h:tOk b o):tOk b (o.map Ex.fd):=by
 intro x hx
 cases o with
 |none=>cases hx
 |some e =>
  cases hx
  obtain⟨h1,h2,h3,h4⟩:=h e rfl;have o:=Xmw e h1.ok h4 h2;exact⟨Xct h1 h4 h2,o.ty,o.kd.trans h3,o.ir⟩
theorem tOk.drop {o:Option Ex} (h:tOk true o):tOk true (X46 o):=by
 intro x hx
 cases o with
 |none=>cases hx
 |some e =>
  unfold X46 at hx;simp only at hx;split at hx
  ·cases hx
  ·exact h x hx
theorem X004 {n:Xk} (h:okW n):okW (tum n):=by
 unfold tum;split
 ·obtain⟨h1,h2,h3⟩:=h;exact⟨h1,h2,.inr ⟨.inl rfl,rfl⟩⟩
 ·exact h
theorem Rr.m1 {q:Xa} {a w:Option Ex} {n:Xk} (h:Rr q a w n):Rr q (a.map Ex.fd) (w.map Ex.fd) n :=
 ⟨h.ta.fd,h.tw.fd,h.agg,by rw[h.none_];cases a<;>simp,h.late,h.src,h.join,h.win⟩
theorem Rr.m2 {q:Xa} {a w:Option Ex} {n:Xk} (h:Rr q a w n):Rr q a (X46 w) n :=
 ⟨h.ta,h.tw.drop,h.agg,h.none_,h.late,h.src,h.join,h.win⟩
theorem Rr.m3 {q:Xa} {a w:Option Ex} {n:Xk} (h:Rr q a w n):Rr q a w (tum n) :=
 ⟨h.ta,h.tw,h.agg,h.none_,h.late,h.src,λk=>by have:=h.join k;unfold tum;rw[if_neg om];exact this,X004 h.win⟩
theorem Xh5 {s:List Int} {j:Bool} (h:X4g s j=0):s.length<=4:=by
 unfold X4g at h;split at h
 ·cases h
 ·omega
theorem Xu5 {α β:Type} (l:List α) (b:Nat) (x:β) (h:l.length*b<=140737488355328):((bif (List.isEmpty l) then (some x) else ((X1c (List.length l) b).bind λ_=>some x):Option β))=some x:=by
 rw[X2z h];cases l<;>rfl
theorem Xjd {l:List X1} (h:l.length<=100):X1a l=some l:=by
 unfold X1a;rw[Xu5 _ _ _ om]
theorem Xqb {l:List Int} (h:l.length<=100):X29 l=some l:=by
 unfold X29;rw[Xu5 _ _ _ om]
theorem Xw1 {q:Xa} (h1:q.Arg.length<=100) (h2:q.Where.length<=100) (h3:q.Sources.length<=100):X68 q=some q:=by
 unfold X68;rw[Xjd h1,Xjd h2,Xqb h3];rfl
theorem Xnk {q:Xa} (h1:q.Arg.length<=100) (h2:q.Where.length<=100) (h3:q.Sources.length<=100):Xch q=some q:=by
 unfold Xch;rw[X2z (b:=40) om,X2z (b:=40) om,X2z (b:=8) om];cases q.Arg<;>cases q.Where<;>cases q.Sources<;>rfl
theorem Rr.lens {q:Xa} {a w:Option Ex} {n:Xk} (h:Rr q a w n):(mkQ q a w n).Arg.length<=100/\(mkQ q a w n).Where.length<=100/\(mkQ q a w n).Sources.length<=100 :=
 ⟨Nat.le_trans (Xvi h.ta.fits) om,Nat.le_trans (Xvi h.tw.fits) om,Nat.le_trans (Xh5 h.src) om⟩
theorem Xhu {b:Bool} {o:Option Ex} (h:tOk b o) (hn:o≠none):X38 (eL o)=some (eL (o.map Ex.fd),0)/\X5r (eL o)=some (eL (o.map Ex.fd),0):=by
 cases o with
 |none=>exact absurd rfl hn
 |some e =>
  obtain⟨h1,h2,_,h4⟩:=h e rfl;exact⟨Xfb h1 h2 h4,Xeq h1 h2 h4⟩
theorem Xfa {q:Xa} {fa fw:List X1} (hc:X4a q=some (0,0)) (hs:q.Sources.length<=100) (hA:(q.Arg.length=0/\fa=q.Arg)\/(q.Arg.length≠0/\X38 q.Arg=some (fa,0)))
  (hW:(q.Where.length=0/\fw=q.Where)\/(q.Where.length≠0/\X38 q.Where=some (fw,0))):X5z q=some (⟨q.Agg,fa,q.Sources,q.Join,fw,q.Window,q.ByKey,q.Late⟩,0):=by
 unfold X5z;rw[hc,Yo];simp only[bne_self_eq_false,cond_false];rw[Xu5 _ _ _ om,Yo];rcases hA with ⟨a1,rfl⟩|⟨a1,a2⟩
 ·rw[show((q.Arg.length:Int)==0)=true from lz' om,cond_true];rcases hW with ⟨w1,rfl⟩|⟨w1,w2⟩
  ·rw[show((q.Where.length:Int)==0)=true from lz' om,cond_true]
  ·rw[show((q.Where.length:Int)==0)=false from lz om,cond_false,w2];rfl
 ·rw[show((q.Arg.length:Int)==0)=false from lz om,cond_false,a2,Yo];simp only[bne_self_eq_false,cond_false];rcases hW with ⟨w1,rfl⟩|⟨w1,w2⟩
  ·rw[show((q.Where.length:Int)==0)=true from lz' om,cond_true]
  ·rw[show((q.Where.length:Int)==0)=false from lz om,cond_false,w2];rfl
theorem Xlq {b:Bool} {o:Option Ex} (h:tOk b o):((eL o).length=0/\eL (o.map Ex.fd)=eL o)\/((eL o).length≠0/\X38 (eL o)=some (eL (o.map Ex.fd),0)):=by
 cases o with
 |none=>exact .inl ⟨rfl,rfl⟩
 |some e=>exact .inr ⟨by have:=(Xas (some e)).2 (by simp);omega,(Xhu h (by simp)).1⟩
theorem Xg9 {q:Xa} {a w:Option Ex} {n:Xk} (h:Rr q a w n):X5z (mkQ q a w n)=some (mkQ q (a.map Ex.fd) (w.map Ex.fd) n,0) :=
 Xfa (by rw[Xa6 h.qw,h.chk]) h.lens.2.2 (Xlq h.ta) (Xlq h.tw)
theorem Xfz {q:Xa} {a w:Option Ex} {n:Xk} (h:Rr q a w n):Xay (mkQ q a w n)=some (mkQ q (a.map Ex.fd) (w.map Ex.fd) n,0):=by
 have hs:=h.lens.2.2;unfold Xay;rw[X7v h.qw,h.chk,Yo];simp only[bne_self_eq_false,cond_false];have e1:((bif (decide ((List.length (mkQ q a w n).Arg:Int)>(0:Int))) then ((X5r (mkQ q a w n).Arg).bind λv9=>some (Xa.mk (mkQ q a w n).Agg v9.1 (mkQ q a w n).Sources (mkQ q a w n).Join (mkQ q a w n).Where (mkQ q a w n).Window (mkQ q a w n).ByKey (mkQ q a w n).Late)) else (some (mkQ q a w n)):Option (Xa)))=some (mkQ q (a.map Ex.fd) w n):=by
  cases a with
  |none=>rfl
  |some x =>
   have hx:=(Xhu h.ta (by simp)).2;rw[Yt (by have:=(Xas (some x)).2 (by simp);show((eL (some x)).length:Int)>0;omega),cond_true,show(mkQ q (some x) w n).Arg=eL (some x) from rfl,hx,Yo];rfl
 rw[e1,Yo];have e2:((bif (decide ((List.length (mkQ q (a.map Ex.fd) w n).Where:Int)>(0:Int))) then ((X5r (mkQ q (a.map Ex.fd) w n).Where).bind λv17=>some (Xa.mk (mkQ q (a.map Ex.fd) w n).Agg (mkQ q (a.map Ex.fd) w n).Arg (mkQ q (a.map Ex.fd) w n).Sources (mkQ q (a.map Ex.fd) w n).Join v17.1 (mkQ q (a.map Ex.fd) w n).Window (mkQ q (a.map Ex.fd) w n).ByKey (mkQ q (a.map Ex.fd) w n).Late)) else (some (mkQ q (a.map Ex.fd) w n)):Option (Xa)))=some (mkQ q (a.map Ex.fd) (w.map Ex.fd) n):=by
  cases w with
  |none=>rfl
  |some x =>
   have hx:=(Xhu h.tw (by simp)).2;rw[Yt (by have:=(Xas (some x)).2 (by simp);show((eL (some x)).length:Int)>0;omega),cond_true,show(mkQ q (a.map Ex.fd) (some x) n).Where=eL (some x) from rfl,hx,Yo];rfl
 rw[e2,Yo,Xu5 _ _ _ (by show q.Sources.length*8<=_;have:=Xh5 h.src;omega)]
theorem Xm0 {y:Ex} (h:y.cs=false):X46 (some y)=some y:=by unfold X46;simp[h]
theorem Xq0 {y:Ex} (h:y.vl zr=0):X46 (some y)=some y:=by unfold X46;simp[h]
theorem Xfk {y:Ex} (h:y.cs=true) (g:y.vl zr≠0):X46 (some y)=none:=by unfold X46;simp[h,g]
theorem Xw2 {n:Xk} (h:n.Kind=2) (g:n.Size=n.Every):tum n=⟨1,n.Size,0⟩:=by unfold tum;rw[if_pos ⟨h,g⟩]
theorem Xnl {n:Xk} (h:¬ (n.Kind=2/\n.Size=n.Every)):tum n=n:=by unfold tum;rw[if_neg h]
def Xai (q:Xa) (a w:Option Ex) (n:Xk) (r:Int):Xa :=
 if r=1 then mkQ q (a.map Ex.fd) (w.map Ex.fd) n else if r=2 then mkQ q a (X46 w) n else mkQ q a w (tum n)
theorem Xxd {q:Xa} {a w:Option Ex} {n:Xk} (h:Rr q a w n) {r:Int} (hr:r=1\/r=2\/r=3):X6a (mkQ q a w n) r=some (Xai q a w n r,0):=by
 obtain⟨l1,l2,l3⟩:=h.lens;unfold X6a Xai;rw[Xw1 l1 l2 l3,Yo];rcases hr with rfl|rfl|rfl
 ·rw[show((1:Int)==1)=true from rfl,cond_true,Xg9 h];rfl
 ·rw[show((2:Int)==1)=false from rfl,show((2:Int)==2)=true from rfl,cond_false,cond_true,if_neg (by simp),if_pos rfl]
  cases w with
  |none=>rfl
  |some y =>
   obtain⟨h1,h2,_,h4⟩:=h.tw y rfl;rw[show((List.length (mkQ q a (some y) n).Where:Int)==0)=false from lz ((Xas (some y)).2 (by simp)),cond_false,show(mkQ q a (some y) n).Where=y.fl 0 from rfl,X99 h1 h2 h4,Yo]
   cases hc:y.cs with
   |false=>rw[if_neg (by simp),Xm0 hc];rfl
   |true =>
    rw[if_pos rfl];by_cases hv:y.vl zr=0
    ·rw[Xq0 hv,hv];rfl
    ·rw[Xfk hc hv];have e:(y.vl zr != 0)=true:=by simp[hv]
     simp only[cond_true,e,bne_self_eq_false,cond_false,Yo];rfl
 ·rw[show((3:Int)==1)=false from rfl,show((3:Int)==2)=false from rfl,show((3:Int)==3)=true from rfl,if_neg (by simp),if_neg (by simp)];simp only[cond_false,cond_true];show((bif (bif (n.Kind==(2:Int)) then (n.Size==n.Every) else false) then _ else _:Option Xa).bind _)=_;by_cases hk:n.Kind=2
  ·by_cases hs:n.Size=n.Every
   ·rw[Xw2 hk hs,show(n.Kind==2)=true by simp[hk],show(n.Size==n.Every)=true by simp[hs]];rfl
   ·rw[Xnl (λk=>hs k.2),show(n.Kind==2)=true by simp[hk],show(n.Size==n.Every)=false by simp[hs]];rfl
  ·rw[Xnl (λk=>hk k.1),show(n.Kind==2)=false by simp[hk]];rfl
theorem Xop {q:Xa} {a w:Option Ex} {n:Xk} (h:Rr q a w n) {r:Int} (hr:r=1\/r=2\/r=3):Xce (mkQ q a w n) r=some (Xai q a w n r):=by
 obtain⟨l1,l2,l3⟩:=h.lens;unfold Xce Xai;rw[Xnk l1 l2 l3,Yo];rcases hr with rfl|rfl|rfl
 ·simp only[show((1:Int)==1)=true from rfl,show((1:Int)==2)=false from rfl,show((1:Int)==3)=false from rfl,cond_true,cond_false,if_true];rw[Xfz h];rfl
 ·simp only[show((2:Int)==1)=false from rfl,show((2:Int)==2)=true from rfl,show((2:Int)==3)=false from rfl,cond_true,cond_false];rw[if_neg (by decide),if_pos (by trivial)]
  cases w with
  |none=>rfl
  |some y =>
   obtain⟨h1,h2,_,h4⟩:=h.tw y rfl;rw[Yt (by have:=(Xas (some y)).2 (by simp);show((eL (some y)).length:Int)>0;omega),show(mkQ q a (some y) n).Where=y.fl 0 from rfl,Xde h1 h2 h4];simp only[Yo,cond_true]
   cases hc:y.cs with
   |false=>rw[if_neg (by simp),Xm0 hc];rfl
   |true =>
    rw[if_pos rfl];by_cases hv:y.vl zr=0
    ·rw[Xq0 hv,hv];rfl
    ·rw[Xfk hc hv];have e:(y.vl zr != 0)=true:=by simp[hv]
     simp only[cond_true,e,bne_self_eq_false,cond_false,Yo];rfl
 ·simp only[show((3:Int)==1)=false from rfl,show((3:Int)==2)=false from rfl,show((3:Int)==3)=true from rfl,cond_true,cond_false,Yo];rw[if_neg (by simp),if_neg (by simp)];show((bif (bif (n.Kind==(2:Int)) then (n.Size==n.Every) else false) then _ else _:Option Xa).bind _)=_;by_cases hk:n.Kind=2
  ·by_cases hs:n.Size=n.Every
   ·rw[Xw2 hk hs,show(n.Kind==2)=true by simp[hk],show(n.Size==n.Every)=true by simp[hs]];rfl
   ·rw[Xnl (λk=>hs k.2),show(n.Kind==2)=true by simp[hk],show(n.Size==n.Every)=false by simp[hs]];rfl
  ·rw[Xnl (λk=>hk k.1),show(n.Kind==2)=false by simp[hk]];rfl
end Go.D


namespace Go.D
theorem Xcu {α:Type} {l:List α} {k:Nat} {x:α} {xs:List α} (h:l.drop k=x::xs):l[k]?=some x/\l.drop (k+1)=xs:=by
 constructor
 ·have:(l.drop k)[0]?=some x:=by rw[h];rfl
  simpa using this
 ·have:(l.drop k).drop 1=xs:=by rw[h];rfl
  rw[List.drop_drop] at this;exact this
theorem Xvh (X Y:List X1):∀ (xs:List X1) (k:Nat),xs.length=(Y.drop k).length->X0c X Y xs k=some (if xs=Y.drop k then .x0 else .x1)
 |[],k,h=>by
  have:Y.drop k=[]:=List.length_eq_zero_iff.1 h.symm;rw[X0c,this,if_pos rfl]
 |x::xs,k,h=>by
  cases hy:Y.drop k with
  |nil=>rw[hy] at h;cases h
  |cons y ys =>
   obtain⟨h1,h2⟩:=Xcu hy;rw[X0c,X2u,h1,Yo,X7s];by_cases he:x=y
   ·rw[Yt he,Bool.not_true,cond_false,Xvh X Y xs (k+1) (by rw[h2];rw[hy] at h;simpa using h),h2];simp[he]
   ·rw[Yf he,Bool.not_false,cond_true,if_neg (by simp[he])]
theorem Xlx {a b:List X1} (h:a.length<=100000):X19 a b=some (decide (a=b)):=by
 unfold X19;by_cases hl:a.length=b.length
 ·rw[show((a.length:Int) != (b.length:Int))=false by simp[hl],cond_false,X2o om,Yo,Xvh a b a 0 (by simpa using hl)];by_cases he:a=b
  ·subst he;simp
  ·simp[he]
 ·rw[show((a.length:Int) != (b.length:Int))=true by simp;omega,cond_true,Yf (λh=>hl (by rw[h]))]
theorem Xlu (X Y:List X1):∀ (xs:List X1) (k:Nat),xs.length=(Y.drop k).length->X2e X Y xs k=some (if xs=Y.drop k then .x0 else .x1)
 |[],k,h=>by
  have:Y.drop k=[]:=List.length_eq_zero_iff.1 h.symm;rw[X2e,this,if_pos rfl]
 |x::xs,k,h=>by
  cases hy:Y.drop k with
  |nil=>rw[hy] at h;cases h
  |cons y ys =>
   obtain⟨h1,h2⟩:=Xcu hy;rw[X2e,X2u,h1,Yo,X7s];by_cases he:x=y
   ·rw[Yt he,Bool.not_true,cond_false,Xlu X Y xs (k+1) (by rw[h2];rw[hy] at h;simpa using h),h2];simp[he]
   ·rw[Yf he,Bool.not_false,cond_true,if_neg (by simp[he])]
theorem Xlt {a b:List X1} (h:a.length<=100000):X5p a b=some (decide (a=b)):=by
 unfold X5p;by_cases hl:a.length=b.length
 ·rw[show((a.length:Int) != (b.length:Int))=false by simp[hl],cond_false,X2o om,Yo,Xlu a b a 0 (by simpa using hl)];by_cases he:a=b
  ·subst he;simp
  ·simp[he]
 ·rw[show((a.length:Int) != (b.length:Int))=true by simp;omega,cond_true,Yf (λh=>hl (by rw[h]))]
theorem Xns (X Y:List Int):∀ (xs:List Int) (k:Nat),xs.length=(Y.drop k).length->X0r X Y xs k=some (if xs=Y.drop k then .x0 else .x1)
 |[],k,h=>by
  have:Y.drop k=[]:=List.length_eq_zero_iff.1 h.symm;rw[X0r,this,if_pos rfl]
 |x::xs,k,h=>by
  cases hy:Y.drop k with
  |nil=>rw[hy] at h;cases h
  |cons y ys =>
   obtain⟨h1,h2⟩:=Xcu hy;rw[X0r,X2u,h1,Yo];by_cases he:x=y
   ·rw[show(x != y)=false by simp[he],cond_false,Xns X Y xs (k+1) (by rw[h2];rw[hy] at h;simpa using h),h2];simp[he]
   ·rw[show(x != y)=true by simp[he],cond_true,if_neg (by simp[he])]
theorem Xnr {a b:List Int} (h:a.length<=100000):X1u a b=some (decide (a=b)):=by
 unfold X1u;by_cases hl:a.length=b.length
 ·rw[show((a.length:Int) != (b.length:Int))=false by simp[hl],cond_false,X2o om,Yo,Xns a b a 0 (by simpa using hl)];by_cases he:a=b
  ·subst he;simp
  ·simp[he]
 ·rw[show((a.length:Int) != (b.length:Int))=true by simp;omega,cond_true,Yf (λh=>hl (by rw[h]))]
theorem X63 (x y:Xk):X3d x y=decide (x=y):=by
 obtain⟨a,b,c⟩:=x;obtain⟨a',b',c'⟩:=y;simp only[X3d,Bool.and_true];rw[Bool.eq_iff_iff];simp
theorem Xwc {p q:Xa} (h1:p.Arg.length<=100000) (h2:p.Where.length<=100000):X69 p q=some (decide (p.Arg=q.Arg/\p.Where=q.Where/\p.Window=q.Window)):=by
 unfold X69;rw[Xlx h1,Xlx h2,X63];by_cases e1:p.Arg=q.Arg<;>by_cases e2:p.Where=q.Where<;>by_cases e3:p.Window=q.Window<;>simp[e1,e2,e3]
theorem Xl1 {p q:Xa} (h1:p.Arg.length<=100000) (h2:p.Where.length<=100000) (h3:p.Sources.length<=100000):Xy p q=some (decide (p=q)):=by
 obtain⟨x1,x2,x3,x4,x5,x6,x7,x8⟩:=p;obtain⟨y1,y2,y3,y4,y5,y6,y7,y8⟩:=q;unfold Xy;rw[Xlt h1,Xlt h2,Xnr h3,X63];simp only[Xa.mk.injEq];have hb:∀ p q:Bool,(p==q)=decide (p=q):=by decide
 have hi:∀ p q:Int,(p==q)=decide (p=q):=λp q=>by rw[Bool.eq_iff_iff];simp
 rw[hb x4 y4,hb x7 y7,hi x1 y1,hi x8 y8];by_cases e1:x1=y1<;>by_cases e2:x2=y2<;>by_cases e3:x3=y3<;>by_cases e4:x4=y4<;>by_cases e5:x5=y5<;>by_cases e6:x6=y6<;>by_cases e7:x7=y7<;>by_cases e8:x8=y8<;>simp[e1,e2,e3,e4,e5,e6,e7,e8]
theorem Xmh {p:Xa} (h1:p.Arg.length<=100000) (h2:p.Where.length<=100000) (h3:p.Sources.length<=100000):Xy p p=some true:=by
 rw[Xl1 h1 h2 h3];simp
theorem Xs2 {q:Xa} {a w:Option Ex} {n:Xk} (h:Rr q a w n) {r:Int} (hr:r=1\/r=2\/r=3):∃ a' w' n',Rr q a' w' n'/\Xai q a w n r=mkQ q a' w' n':=by
 rcases hr with rfl|rfl|rfl
 ·exact⟨_,_,_,h.m1,rfl⟩
 ·exact⟨_,_,_,h.m2,rfl⟩
 ·exact⟨_,_,_,h.m3,rfl⟩
theorem X018 {q:Xa} {a w a' w':Option Ex} {n n':Xk}:((mkQ q a w n).Arg=(mkQ q a' w' n').Arg/\(mkQ q a w n).Where=(mkQ q a' w' n').Where/\(mkQ q a w n).Window=(mkQ q a' w' n').Window)↔mkQ q a w n=mkQ q a' w' n':=by
 unfold mkQ;simp only[Xa.mk.injEq,true_and,and_true]
theorem X64 {q:Xa} {a w:Option Ex} {n:Xk} (h:Rr q a w n) {r:Int} (hr:r=1\/r=2\/r=3) :
  Xn (mkQ q a w n) r=some (Xai q a w n r,!(decide (mkQ q a w n=Xai q a w n r)),0)/\Xep (mkQ q a w n) r=some (Xai q a w n r,!(decide (mkQ q a w n=Xai q a w n r)),0):=by
 obtain⟨l1,l2,l3⟩:=h.lens;have e:(bif (decide (r<(1:Int))) then true else (decide (r>(3:Int))))=false:=by
  rcases hr with rfl|rfl|rfl<;>rfl
 obtain⟨a',w',n',h',he⟩:=Xs2 h hr;constructor
 ·unfold Xn;rw[Xa6 h.qw,h.chk,Yo,e,Xxd h hr];simp only[bne_self_eq_false,cond_false,Yo];rw[Xwc om om,he,Yo];congr 4
  exact decide_eq_decide.2 X018
 ·unfold Xep;rw[X7v h.qw,h.chk,Yo,e,Xop h hr];simp only[bne_self_eq_false,cond_false,Yo];rw[Xl1 om om om];rfl
def Xah (q:Xa) (a w:Option Ex) (n:Xk):Xa:=mkQ q (a.map Ex.fd) (X46 (w.map Ex.fd)) (tum n)
theorem Rr.all {q:Xa} {a w:Option Ex} {n:Xk} (h:Rr q a w n):Rr q (a.map Ex.fd) (X46 (w.map Ex.fd)) (tum n):=h.m1.m2.m3
theorem Xa1 {b:Bool} {o:Option Ex} (h:tOk b o):(o.map Ex.fd).map Ex.fd=o.map Ex.fd:=by
 cases o with
 |none=>rfl
 |some e=>obtain⟨h1,h2,_,h4⟩:=h e rfl;simp only[Option.map_some];rw[(Xmw e h1.ok h4 h2).fd]
theorem Xhz {o:Option Ex} (h:tOk true o):(X46 (o.map Ex.fd)).map Ex.fd=X46 (o.map Ex.fd):=by
 cases o with
 |none=>rfl
 |some e =>
  obtain⟨h1,h2,_,h4⟩:=h e rfl;simp only[Option.map_some,X46];split
  ·rfl
  ·simp only[Option.map_some];rw[(Xmw e h1.ok h4 h2).fd]
theorem Xmz (o:Option Ex):X46 (X46 o)=X46 o:=by
 cases o with
 |none=>rfl
 |some e =>
  by_cases hc:e.cs=true/\e.vl zr≠0
  ·rw[Xfk hc.1 hc.2];rfl
  ·have:X46 (some e)=some e:=by unfold X46;simp only;rw[if_neg hc]
   rw[this,this]
theorem Xzg (n:Xk):tum (tum n)=tum n:=by
 unfold tum;by_cases h:n.Kind=2/\n.Size=n.Every
 ·rw[if_pos h];simp
 ·rw[if_neg h,if_neg h]
theorem Xof {q:Xa} {a w:Option Ex} {n:Xk} (h:Rr q a w n):∃ c1 c2 c3,Xn (mkQ q a w n) 1=some (mkQ q (a.map Ex.fd) (w.map Ex.fd) n,c1,0)/\Xn (mkQ q (a.map Ex.fd) (w.map Ex.fd) n) 2=some (mkQ q (a.map Ex.fd) (X46 (w.map Ex.fd)) n,c2,0) /\
  Xn (mkQ q (a.map Ex.fd) (X46 (w.map Ex.fd)) n) 3=some (Xah q a w n,c3,0)/\(a.map Ex.fd=a->w.map Ex.fd=w->X46 w=w->tum n=n->c1=false/\c2=false/\c3=false):=by
 refine⟨_,_,_,(X64 h (.inl rfl)).1,(X64 h.m1 (.inr (.inl rfl))).1,(X64 h.m1.m2 (.inr (.inr rfl))).1,λe1 e2 e3 e4=>?_⟩;unfold Xai;rw[if_pos rfl,if_neg (by decide),if_pos rfl,if_neg (by decide),if_neg (by decide),e1,e2,e3,e4];simp
theorem Xjh {q:Xa} {a w:Option Ex} {n:Xk} (h:Rr q a w n):X2j (mkQ q a w n)=some (Xah q a w n,0):=by
 obtain⟨c1,c2,c3,p1,p2,p3,_⟩:=Xof h;obtain⟨d1,d2,d3,r1,r2,r3,r4⟩:=Xof h.all;obtain⟨rfl,rfl,rfl⟩:=r4 (Xa1 h.ta) (Xhz h.tw) (Xmz _) (Xzg n);have hid:Xah q (a.map Ex.fd) (X46 (w.map Ex.fd)) (tum n)=Xah q a w n:=by
  unfold Xah;rw[Xa1 h.ta,Xhz h.tw,Xmz,Xzg]
 rw[hid] at r3;unfold X2j;obtain⟨k,hk⟩:∃ k,FU=k+1+1:=⟨99998,rfl⟩;rw[hk,X3j,show decide ((0:Int)<20)=true from rfl,cond_true,p1,Yo];simp only[bne_self_eq_false,cond_false];rw[p2,Yo];simp only[bne_self_eq_false,cond_false];rw[p3,Yo];simp only[bne_self_eq_false,cond_false];by_cases hc:(!(bif (bif c1 then true else c2) then true else c3))=true
 ·rw[hc];rfl
 ·rw[Bool.not_eq_true] at hc;rw[hc,cond_false,show IntKind.i64.wrap (0+1)=1 from rfl,X3j,show decide ((1:Int)<20)=true from rfl,cond_true,show Xah q a w n=mkQ q (a.map Ex.fd) (X46 (w.map Ex.fd)) (tum n) from rfl,r1,Yo];simp only[bne_self_eq_false,cond_false];rw[r2,Yo];simp only[bne_self_eq_false,cond_false];rw[r3];rfl
end Go.D


namespace Go.D
theorem Xun {z:Int} (h:wfI .u8 z):0<=z:=by
 have h:=h;simp only[wfI,Lit.wf,IntKind.bits,IntKind.signed] at h;simp at h;have e1:IntKind.u8.min=0:=by decide
 omega
theorem Xeb {z:Int} (h:wfI .i64 z):z<=9223372036854775807 /\ -9223372036854775808<=z:=by
 have h:=h;simp only[wfI,Lit.wf,IntKind.bits,IntKind.signed] at h;simp at h;have e1:IntKind.i64.min = -9223372036854775808:=by decide
 have e2:IntKind.i64.max=9223372036854775807:=by decide
 omega
theorem Xx1 {q:Xa} (w:X65 q):QW q:=by
 obtain⟨_,⟨_,h1⟩,_,_,⟨_,h2⟩,h3,_⟩:=w;exact⟨λx hx=>Xun (h1 x hx).1,λx hx=>Xun (h2 x hx).1,Xeb h3.2.2⟩
end Go.D


namespace Go.D
theorem Xy9 {q:Xa}:X74 q=some (decide (q.Arg.length>70\/q.Where.length>70\/q.Sources.length>10)):=by
 unfold X74 X76;have e:∀ {n m:Nat},decide ((n:Int)>(m:Int))=decide (n>m):=λ{n m}=>decide_eq_decide.2 om;have e1:decide ((q.Arg.length:Int)>70)=decide (q.Arg.length>70):=e (m:=70);have e2:decide ((q.Where.length:Int)>70)=decide (q.Where.length>70):=e (m:=70);have e3:decide ((q.Sources.length:Int)>10)=decide (q.Sources.length>10):=e (m:=10);simp only[Yo,e1,e2,e3];by_cases h1:q.Arg.length>70<;>by_cases h2:q.Where.length>70<;>by_cases h3:q.Sources.length>10<;>simp[h1,h2,h3]
theorem wf_N {q:Xa} (w:X65 q):(∀ x∈q.Arg,i64 x.N)/\(∀ x∈q.Where,i64 x.N):=by
 obtain⟨_,⟨_,h1⟩,_,_,⟨_,h2⟩,_⟩:=w;exact⟨λx hx=>⟨(Xeb (h1 x hx).2.1).2,(Xeb (h1 x hx).2.1).1⟩,λx hx=>⟨(Xeb (h2 x hx).2.1).2,(Xeb (h2 x hx).2.1).1⟩⟩
theorem Xcc {q:Xa} (hq:QW q):∃ b,X4x q=some b/\(b=true->(Xsf q).2=0):=by
 unfold X4x;rw[Xy9,Yo];by_cases hg:q.Arg.length>70\/q.Where.length>70\/q.Sources.length>10
 ·rw[Yt hg];exact⟨false,rfl,λh=>by cases h⟩
 ·rw[Yf hg,cond_false,X7v hq];exact⟨_,rfl,λh=>by simpa using h⟩
theorem Xvp {q:Xa} {a w:Option Ex} {n:Xk} (h:Rr q a w n):Xah q (a.map Ex.fd) (X46 (w.map Ex.fd)) (tum n)=Xah q a w n:=by
 unfold Xah;rw[Xa1 h.ta,Xhz h.tw,Xmz,Xzg]
theorem Xj9 {o:Option Ex} (h:tOk true o):(X46 o).map Ex.fd=X46 (o.map Ex.fd):=by
 cases o with
 |none=>rfl
 |some e =>
  obtain⟨h1,h2,_,h4⟩:=h e rfl;have o:=Xmw e h1.ok h4 h2;by_cases hc:e.cs=true/\e.vl zr≠0
  ·rw[Xfk hc.1 hc.2,Option.map_some,Xfk (o.cs.trans hc.1) (by rw[o.vl zr Xc4];exact hc.2)];rfl
  ·have e1:X46 (some e)=some e:=by unfold X46;simp only;rw[if_neg hc]
   have e2:X46 (some e.fd)=some e.fd:=by
    unfold X46;simp only;rw[if_neg (by rw[o.cs,o.vl zr Xc4];exact hc)]
   rw[e1,Option.map_some,e2]
theorem Xax {q:Xa} {a w:Option Ex} {n:Xk} (h:Rr q a w n) {r:Int} (hr:r=1\/r=2\/r=3):∃ a' w' n',Rr q a' w' n'/\Xah q a' w' n'=Xah q a w n/\(∃ c,Xn (mkQ q a w n) r=some (mkQ q a' w' n',c,0))/\Xn (mkQ q a' w' n') r=some (mkQ q a' w' n',false,0) /\
  ((r=1/\a'=a.map Ex.fd/\w'=w.map Ex.fd/\n'=n)\/(r=2/\a'=a/\w'=X46 w/\n'=n)\/(r=3/\a'=a/\w'=w/\n'=tum n)):=by
 rcases hr with rfl|rfl|rfl
 ·refine⟨_,_,_,h.m1,?_,⟨_,(X64 h (.inl rfl)).1⟩,?_,.inl ⟨rfl,rfl,rfl,rfl⟩⟩
  ·unfold Xah;rw[Xa1 h.ta,Xa1 h.tw]
  ·rw[(X64 h.m1 (.inl rfl)).1];unfold Xai;rw[if_pos rfl,Xa1 h.ta,Xa1 h.tw];simp
 ·refine⟨_,_,_,h.m2,?_,⟨_,(X64 h (.inr (.inl rfl))).1⟩,?_,.inr (.inl ⟨rfl,rfl,rfl,rfl⟩)⟩
  ·unfold Xah;rw[Xj9 h.tw,Xmz]
  ·rw[(X64 h.m2 (.inr (.inl rfl))).1];unfold Xai;rw[if_neg (by decide),if_pos rfl,Xmz];simp
 ·refine⟨_,_,_,h.m3,?_,⟨_,(X64 h (.inr (.inr rfl))).1⟩,?_,.inr (.inr ⟨rfl,rfl,rfl,rfl⟩)⟩
  ·unfold Xah;rw[Xzg]
  ·rw[(X64 h.m3 (.inr (.inr rfl))).1];unfold Xai;rw[if_neg (by decide),if_neg (by decide),Xzg];simp
theorem Xko {q:Xa} {a w:Option Ex} {n:Xk} (h:Rr q a w n) {r:Int} (hr:r=1\/r=2\/r=3):Xn (Xah q a w n) r=some (Xah q a w n,false,0):=by
 have e:=Xvp h;unfold Xah at e ⊢;rw[(X64 h.all hr).1];rcases hr with rfl|rfl|rfl
 ·unfold Xai;rw[if_pos rfl,Xa1 h.ta,Xhz h.tw];simp
 ·unfold Xai;rw[if_neg (by decide),if_pos rfl,Xmz];simp
 ·unfold Xai;rw[if_neg (by decide),if_neg (by decide),Xzg];simp
theorem Xz5 {q:Xa} {a w:Option Ex} {n:Xk} (h:Rr q a w n):X2j (Xah q a w n)=some (Xah q a w n,0):=by
 have:=Xjh h.all;rw[Xvp h] at this;exact this
theorem Rr.self {q:Xa} {a w:Option Ex} {n:Xk} (h:Rr q a w n):Xy (mkQ q a w n) (mkQ q a w n)=some true:=by
 obtain⟨l1,l2,l3⟩:=h.lens;exact Xmh om om om
theorem X9o (q:Xa) (wq:X65 q):X3r q=some true:=by
 have hq:=Xx1 wq;obtain⟨hA,hW⟩:=wf_N wq;obtain⟨b,hb,hb2⟩:=Xcc hq;unfold X3r;rw[show X4y=some true from rfl,Yo,hb,Yo]
 cases b with
 |false=>rfl
 |true =>
  obtain⟨a,w,hr,he⟩:=Xh8 hA hW (hb2 rfl);have r0:=Xjh hr;have r1:=Xz5 hr;have s0:Xy (Xah q a w q.Window) (Xah q a w q.Window)=some true:=hr.all.self;have f1:=Xko hr (r:=1) (.inl rfl);have f2:=Xko hr (r:=2) (.inr (.inl rfl));have f3:=Xko hr (r:=3) (.inr (.inr rfl));obtain⟨_,_,_,h1,_,⟨c1,t1⟩,u1,_⟩:=Xax hr (r:=1) (.inl rfl);obtain⟨_,_,_,h2,_,⟨c2,t2⟩,u2,_⟩:=Xax hr (r:=2) (.inr (.inl rfl));obtain⟨_,_,_,h3,_,⟨c3,t3⟩,u3,_⟩:=Xax hr (r:=3) (.inr (.inr rfl));rw[<-he] at r0 t1 t2 t3;simp only[r0,r1,s0,f1,f2,f3,t1,t2,t3,u1,u2,u3,h1.self,h2.self,h3.self,Yo,cond_true,cond_false,bne_self_eq_false,Bool.not_true]
theorem Xmi {q:Xa} {a w:Option Ex} {n:Xk} (h:Rr q a w n) {r s:Int} (hr:r=1\/r=2\/r=3) (hs:s=1\/s=2\/s=3):∃ A B C c d e f,Xn (mkQ q a w n) r=some (A,c,0)/\Xn A s=some (C,d,0)/\Xn (mkQ q a w n) s=some (B,e,0)/\Xn B r=some (C,f,0)/\X2j C=some (Xah q a w n,0)/\Xy C C=some true:=by
 obtain⟨a1,w1,n1,h1,e1,⟨c1,t1⟩,_,k1⟩:=Xax h hr;obtain⟨a2,w2,n2,h2,e2,⟨c2,t2⟩,_,k2⟩:=Xax h1 hs;obtain⟨a3,w3,n3,h3,e3,⟨c3,t3⟩,_,k3⟩:=Xax h hs;obtain⟨a4,w4,n4,h4,e4,⟨c4,t4⟩,_,k4⟩:=Xax h3 hr;have ha:=Xjh h2;rw[e2,e1] at ha;have hc:mkQ q a4 w4 n4=mkQ q a2 w2 n2:=by
  have key:a4=a2/\w4=w2/\n4=n2:=by
   have hd:=Xj9 h.tw;rcases k1 with ⟨x,rfl,rfl,rfl⟩|⟨x,rfl,rfl,rfl⟩|⟨x,rfl,rfl,rfl⟩<;>rcases k2 with ⟨y,rfl,rfl,rfl⟩|⟨y,rfl,rfl,rfl⟩|⟨y,rfl,rfl,rfl⟩<;>rcases k3 with ⟨z,rfl,rfl,rfl⟩|⟨z,rfl,rfl,rfl⟩|⟨z,rfl,rfl,rfl⟩<;>rcases k4 with ⟨u,rfl,rfl,rfl⟩|⟨u,rfl,rfl,rfl⟩|⟨u,rfl,rfl,rfl⟩<;>first|omega|exact⟨rfl,rfl,rfl⟩|exact⟨rfl,hd,rfl⟩|exact⟨rfl,hd.symm,rfl⟩
  obtain⟨rfl,rfl,rfl⟩:=key;rfl
 rw[hc] at t4;exact⟨_,_,_,_,_,_,_,t1,t2,t3,t4,ha,h2.self⟩
theorem X9q (q:Xa) (r s:Int) (wq:X65 q) (wr:wfI .i64 r) (ws:wfI .i64 s):X3s q r s=some true:=by
 have hq:=Xx1 wq;obtain⟨hA,hW⟩:=wf_N wq;obtain⟨b,hb,hb2⟩:=Xcc hq;unfold X3s;rw[show X4y=some true from rfl,Yo,hb,Yo]
 cases b with
 |false=>rfl
 |true =>
  by_cases x1:r<1
  ·simp only[Yt x1,cond_true,cond_false,Bool.not_true]
  by_cases x2:r>3
  ·simp only[Yt x2,Yf x1,cond_true,cond_false,Bool.not_true]
  by_cases x3:s<1
  ·simp only[Yt x3,Yf x2,Yf x1,cond_true,cond_false,Bool.not_true]
  by_cases x4:s>3
  ·simp only[Yt x4,Yf x3,Yf x2,Yf x1,cond_true,cond_false,Bool.not_true]
  simp only[Yf x4,Yf x3,Yf x2,Yf x1,cond_false,Bool.not_true];obtain⟨a,w,hr,he⟩:=Xh8 hA hW (hb2 rfl);have r0:=Xjh hr;obtain⟨A,B,C,c,d,e,f,t1,t2,t3,t4,t5,t6⟩:=Xmi hr (r:=r) (s:=s) om om;have s0:Xy (Xah q a w q.Window) (Xah q a w q.Window)=some true:=hr.all.self;rw[<-he] at r0 t1 t3;simp only[r0,t1,t2,t3,t4,t5,t6,s0,Yo,cond_true,cond_false,beq_self_eq_true];cases(r==s)<;>rfl
theorem Xvb {b:Bool} {o:Option Ex} (h:tOk b o):(eL (o.map Ex.fd)).length<=(eL o).length:=by
 cases o with
 |none=>exact Nat.le_refl _
 |some e =>
  obtain⟨h1,h2,_,h4⟩:=h e rfl;simp only[Option.map_some,eL];rw[Ex.fl_len,Ex.fl_len];exact(Xmw e h1.ok h4 h2).sz
theorem Xtv (o:Option Ex):(eL (X46 o)).length<=(eL o).length:=by
 cases o with
 |none=>exact Nat.le_refl _
 |some e =>
  unfold X46;simp only;split
  ·exact Nat.zero_le _
  ·exact Nat.le_refl _
theorem X9c (q:Xa) (wq:X65 q):X3b q=some true:=by
 have hq:=Xx1 wq;obtain⟨hA,hW⟩:=wf_N wq;obtain⟨b,hb,hb2⟩:=Xcc hq;unfold X3b;rw[show X4y=some true from rfl,Yo,hb,Yo]
 cases b with
 |false=>rfl
 |true =>
  obtain⟨a,w,hr,he⟩:=Xh8 hA hW (hb2 rfl);have r0:=Xjh hr;rw[<-he] at r0;have eA:(Xah q a w q.Window).Agg=q.Agg:=rfl;have eS:(Xah q a w q.Window).Sources=q.Sources:=rfl;have eJ:(Xah q a w q.Window).Join=q.Join:=rfl;have eK:(Xah q a w q.Window).ByKey=q.ByKey:=rfl;have eL':(Xah q a w q.Window).Late=q.Late:=rfl;have eN:(Xah q a w q.Window).Window=tum q.Window:=rfl;have lW:(Xah q a w q.Window).Where.length<=q.Where.length:=by
   have h1:q.Where=eL w:=congrArg Xa.Where he;rw[h1];exact Nat.le_trans (Xtv _) (Xvb hr.tw)
  have lA:(Xah q a w q.Window).Arg.length<=q.Arg.length:=by
   have h1:q.Arg=eL a:=congrArg Xa.Arg he;rw[h1];exact Xvb hr.ta
  have hs:X1u q.Sources q.Sources=some true:=by
   have l3:q.Sources.length<=100:=hr.lens.2.2;rw[Xnr om];simp
  have dW:decide (((Xah q a w q.Window).Where.length:Int)>(if (q.Where.length:Int)>3 then (q.Where.length:Int) else 3))=false:=Yf (by split<;>omega);have dA:decide (((Xah q a w q.Window).Arg.length:Int)>(if (q.Arg.length:Int)>2 then (q.Arg.length:Int) else 2))=false:=Yf (by split<;>omega);simp only[r0,eA,eS,eJ,eK,eL',eN,hs,dW,dA,Yo,cond_true,cond_false,bne_self_eq_false,beq_self_eq_true,Bool.not_true,Bool.not_false];rw[X63];by_cases hk:q.Window.Kind=2/\q.Window.Size=q.Window.Every
  ·rw[Xw2 hk.1 hk.2,Yf (λe=>by have:=congrArg Xk.Kind e;rw[hk.1] at this;cases this)];have k1:(q.Window.Kind==2)=true:=by simp[hk.1]
   have k2:(q.Window.Size==q.Window.Every)=true:=by simp[hk.2]
   simp only[k1,k2,X63,decide_true,cond_true,cond_false,Yo]
  ·rw[Xnl hk,Yt rfl,cond_true];by_cases hk1:q.Window.Kind=2
   ·have hk2:¬ q.Window.Size=q.Window.Every:=λe=>hk ⟨hk1,e⟩;have k1:(q.Window.Kind != 2)=false:=by simp[hk1]
    have k2:(q.Window.Size != q.Window.Every)=true:=by simp[hk2]
    rw[k1,k2];rfl
   ·have k1:(q.Window.Kind != 2)=true:=by simp[hk1]
    rw[k1];rfl
end Go.D
