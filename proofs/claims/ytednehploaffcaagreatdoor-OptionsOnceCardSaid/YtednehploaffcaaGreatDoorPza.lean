/- Parts of the proof, laid together. -/
import Derived.Test.YtednehploaffcaaGreatDoorDFunR
set_option linter.all false
set_option maxHeartbeats 4000000

namespace Go.D
theorem X0q {z:Int} (h1 : -9223372036854775808<=z) (h2:z<=9223372036854775807):IntKind.i64.wrap z=z:=Go.IntWalk.i64_in z ⟨h1,h2⟩
theorem X2z {n:Nat} (h:n<=140737488355328):X4s n=some ():=by unfold X4s;rw[if_pos h]
theorem X77 {n b:Nat} (h:n*b<=140737488355328):X1o n b=some ():=by unfold X1o;rw[if_pos h]
theorem X30 {α:Type} (l:List α) (k:Nat):getI l (k:Int)=l[k]?:=by simp[getI]
theorem Xnk (z:Int):IntKind.i64.wrap z=(z+9223372036854775808) % 18446744073709551616 - 9223372036854775808:=by
 have h:IntKind.i64.wrap z=if z % 18446744073709551616 >= 9223372036854775808 then z % 18446744073709551616 - 18446744073709551616 else z % 18446744073709551616:=by
  grind [IntKind.wrap,IntKind.bits,IntKind.signed]
 grind
def okW (w:Xi):Prop:=1<=w.Size/\w.Size<=1073741824/\((w.Kind=2/\1<=w.Every/\w.Every<=w.Size/\w.Size<=16*w.Every)\/((w.Kind=1\/w.Kind=3)/\w.Every=0))
theorem Xsf {a b:Int} (h:¬ a=b):(a != b)=true:=by simp[h]
theorem lz {n:Nat} (h:0<n):((n:Int)==0)=false:=by simp;omega
theorem lz' {n:Nat} (h:¬ 0<n):((n:Int)==0)=true:=by simp;omega
theorem Xbp {w:Xi} (h:okW w):X1q w=some 0:=by
 obtain⟨h1,h2,h3⟩:=h;have e1:decide (w.Size<1)=false:=by simp;omega
 have e2:decide (w.Size>1073741824)=false:=by simp;omega
 simp only[X1q,e1,e2,cond_false];rcases h3 with ⟨k,a1,a2,a3⟩|⟨k|k,a⟩
 ·have e3:(w.Kind==2)=true:=by simp[k]
  have e4:decide (w.Every >= 1)=true:=by simp;omega
  have e5:decide (w.Every<=w.Size)=true:=by simp;omega
  have e6:decide (w.Size<=IntKind.i64.wrap (16*w.Every))=true:=by rw[X0q om om];simp;omega
  simp only[e3,e4,e5,e6,cond_true]
 ·have e3:(w.Kind==2)=false:=by simp[k]
  have e4:(w.Kind==1)=true:=by simp[k]
  have e5:(w.Every==0)=true:=by simp[a]
  simp only[e3,e4,e5,cond_true,cond_false]
 ·have e3:(w.Kind==2)=false:=by simp[k]
  have e4:(w.Kind==1)=false:=by simp[k]
  have e6:(w.Kind==3)=true:=by simp[k]
  have e5:(w.Every==0)=true:=by simp[a]
  simp only[e3,e4,e5,e6,cond_true,cond_false]
end Go.D


namespace Go.D
theorem Xau (x y:X1):X2a x y=decide (x=y):=by
 obtain⟨a,b,c,d,e⟩:=x;obtain⟨f,g,h,i,j⟩:=y;rw[Bool.eq_iff_iff];simp[X2a,and_assoc]
theorem Xj9 {α:Type} {l:List α} {k:Nat} (h:k<=l.length):Xan l 0 (k:Int)=some (l.take k):=by
 simp_all [Xan,if_pos]
theorem Xh0 {α:Type} {l:List α} {k:Nat} (h:k<=l.length):Xan l (k:Int) (l.length:Int)=some (l.drop k):=by
 simp_all [Xan,if_pos,Int.toNat_natCast,List.take_of_length_le,List.length_drop,Nat.le_refl]
def okN (x:X1) (a b:Int):Prop:=1<=x.Kind/\x.Kind<=19/\0<=x.N/\(x.N=0\/x.Kind=1)/\0<=x.At/\x.At<=400/\x.A=a/\x.B=b
instance (x:X1) (a b:Int):Decidable (okN x a b):=by unfold okN;infer_instance
theorem Xnw (x:X1) (a b:Int):X67 x a b=some (decide (okN x a b)):=by
 unfold X67 okN
 grind
def nst (sd:List (Nat×Nat)) (x:X1):Option (Nat×Nat) :=
 if x.Kind<=4 then (if okN x 0 0 then some (1,1) else none)
 else match sd.getLast? with
  |none=>none
  |some (s2,d2) =>
   if x.Kind<=6 then (if okN x ((sd.length:Int) - 1) 0 then some (1+s2,1+d2) else none)
   else if sd.length - 1<s2 then none
   else match sd[sd.length - 1 - s2]? with
    |none=>none
    |some (s1,d1)=>if okN x ((sd.length:Int) - 1 - s2) ((sd.length:Int) - 1) then some (1+s2+s1,max (1+d2) (1+d1)) else none
def Xes:List X1->List (Nat×Nat)->Option (List (Nat×Nat))
 |[],sd=>some sd
 |x::xs,sd=>match nst sd x with
  |some q=>Xes xs (sd++[q])
  |none=>none
def X8m (j:Nat) (q:Nat×Nat):Xf:=⟨(j:Int),(q.1:Int),(q.2:Int)⟩
inductive Xb5 (sd:List (Nat×Nat)):Nat->List Xf->Prop
 |nil:Xb5 sd 0 []
 |snoc {j:Nat} {q:Nat×Nat} {st:List Xf} (hq:sd[j]?=some q) (h1:1<=q.1) (h2:q.1<=j+1) (h3:q.2<=q.1) (h:Xb5 sd (j+1 - q.1) st):Xb5 sd (j+1) (st++[X8m j q])
theorem Xb5.more {sd sd':List (Nat×Nat)} {k:Nat} {st:List Xf} (h:Xb5 sd k st) (hs:∀ j,j<k->sd'[j]?=sd[j]?):Xb5 sd' k st:=by
 induction h with
 |nil=>exact .nil
 |@snoc j q st hq h1 h2 h3 _ ih=>exact .snoc (by grind) h1 h2 h3 (ih λi hi=>hs i om)
theorem Xb5.app {sd e:List (Nat×Nat)} {k:Nat} {st:List Xf} (h:Xb5 sd k st) (hk:k<=sd.length):Xb5 (sd++e) k st:=h.more λj hj=>List.getElem?_append_left om
theorem Xb5.len {sd:List (Nat×Nat)} {k:Nat} {st:List Xf} (h:Xb5 sd k st):st.length<=k:=by
 induction h with
 |nil=>simp
 |snoc hq h1 h2 h3 _ ih=>simp;omega
theorem Xlj {k:Nat} (h:1<=k) (hk:k<=1000000):IntKind.i64.wrap ((k:Int) - 1)=((k - 1:Nat):Int):=by grind [X0q]
theorem Xny {x:X1} (h0:0<=x.Kind):X2y x.Kind=some (if 1<=x.Kind/\x.Kind<=19 then ((if x.Kind<=4 then 0 else if x.Kind<=6 then 1 else 2),0) else (0,2)):=by
 grind [X2y]
theorem Xwt {x : X1} {a b : Int} (h1 : 1 <= x.Kind) (h2 : x.Kind <= 19) :
    ((bif (x.Kind==(1:Int)) then (some (X1.mk x.Kind (if 0>x.N then 0 else x.N) a b (if 400<(if 0>x.At then 0 else x.At) then 400 else (if 0>x.At then 0 else x.At)))) else (some (X1.mk x.Kind 0 a b (if 400<(if 0>x.At then 0 else x.At) then 400 else (if 0>x.At then 0 else x.At)))):Option (X1)).bind λo=>some (X2a o x))=some (decide (okN x a b)):=by
  obtain⟨K,N,A,B,At⟩:=x;have hat:((if 400<(if 0>At then 0 else At) then 400 else (if 0>At then 0 else At))=At)↔(0<=At/\At<=400):=by
    grind
  have hn:((if 0>N then 0 else N)=N)↔0<=N:=by grind
  have key:∀ n':Int,(n'=N↔(0<=N/\(N=0\/K=1)))->(some (X2a (X1.mk K n' a b (if 400<(if 0>At then 0 else At) then 400 else (if 0>At then 0 else At))) ⟨K,N,A,B,At⟩):Option Bool)=some (decide (okN ⟨K,N,A,B,At⟩ a b)):=by
    intro n' hn';rw[Xau];congr 1
    apply decide_eq_decide.2;rw[X1.mk.injEq,hat,hn'];unfold okN;constructor
    · rintro⟨_,⟨g1,g2⟩,hA,hB,g3,g4⟩
      exact⟨h1,h2,g1,g2,g3,g4,hA.symm,hB.symm⟩
    · rintro⟨_,_,g1,g2,g3,g4,hA,hB⟩
      exact⟨rfl,⟨g1,g2⟩,hA.symm,hB.symm,g3,g4⟩
  by_cases hk:K=1
  · have:(K==1)=true:=by simp[hk]
    show(Option.bind (bif (K==1) then _ else _) _)=_;rw[this,cond_true,Yo];exact key _ (by rw[hn];simp[hk])
  · have:(K==1)=false:=by simp[hk]
    show(Option.bind (bif (K==1) then _ else _) _)=_;rw[this,cond_false,Yo]
    exact key _ (by constructor
                    · intro h;omega
                    · rintro⟨_,h⟩;rcases h with h|h<;>omega)
theorem Xp8 {β:Type} {o:Option X1} {x:X1} {d:Bool} {f g:Option β} (h:(o.bind λz=>some (X2a z x))=some d):(o.bind λz=>bif (!(X2a z x)) then f else g)=bif d then g else f:=by
 cases o with
 |none=>cases h
 |some z =>
  simp only[Yo,Option.some.injEq] at h;rw[Yo,h];cases d<;>rfl
def X6c (sd:List (Nat×Nat)):List Xf:=sd.mapIdx X8m
theorem Xrj (sd:List (Nat×Nat)) (q:Nat×Nat):X6c (sd++[q])=X6c sd++[X8m sd.length q]:=by unfold X6c;simp
theorem Xmu (sd:List (Nat×Nat)):(X6c sd).length=sd.length:=by unfold X6c;simp
theorem Xb5.inv {sd:List (Nat×Nat)} {k:Nat} {st:List Xf} (h:Xb5 sd k st) (hk:0<k):∃ q st0,sd[k - 1]?=some q/\1<=q.1/\q.1<=k/\q.2<=q.1/\Xb5 sd (k - q.1) st0/\st=st0++[X8m (k - 1) q]:=by
 cases h with
 |nil=>omega
 |@snoc j q st0 hq h1 h2 h3 h=>exact⟨q,st0,hq,h1,h2,h3,h,rfl⟩
theorem Xb5.zero {sd:List (Nat×Nat)} {st:List Xf} (h:Xb5 sd 0 st):st=[]:=by
 cases h;rfl
theorem X051 (Y : List X1) : ∀ (xs : List X1) (sd : List (Nat × Nat)) (st : List Xf), (∀ x ∈ xs, 0 <= x.Kind) -> sd.length + xs.length <= 1000 -> Xb5 sd sd.length st -> (∀ j q, sd[j]? = some q -> 1 <= q.1 /\ q.1 <= j + 1 /\ q.2 <= q.1) ->
    match Xes xs sd with
    |some sd'=>∃ st',X22 Y xs sd.length (X6c sd) st=some (.x0 (X6c sd') st')/\Xb5 sd' sd'.length st'
    |none=>∃ all,X22 Y xs sd.length (X6c sd) st=some (.x1 all):=by
  intro xs
  induction xs with
  |nil=>intro sd st _ _ hc _;exact⟨st,rfl,hc⟩
  |cons x xs ih =>
    intro sd st h0 hn hc hb;simp only[List.length_cons] at hn;have hx:=h0 x List.mem_cons_self;rw[X22,Xny hx];have go : ∀ (q : Nat × Nat) (st0 : List Xf), nst sd x = some q -> Xb5 (sd ++ [q]) (sd.length + 1) (st0 ++ [X8m sd.length q]) -> 1 <= q.1 -> q.1 <= sd.length + 1 -> q.2 <= q.1 ->
        (match Xes (x::xs) sd with
          |some sd'=>∃ st',X22 Y xs (sd.length+1) (X6c sd++[X8m sd.length q]) (st0++[X8m sd.length q])=some (.x0 (X6c sd') st')/\Xb5 sd' sd'.length st'
          |none=>∃ all,X22 Y xs (sd.length+1) (X6c sd++[X8m sd.length q]) (st0++[X8m sd.length q])=some (.x1 all)):=by
      intro q st0 hq hc2 g1 g2 g3
      have:=ih (sd++[q]) (st0++[X8m sd.length q]) (λy hy=>h0 y (List.mem_cons_of_mem _ hy)) (by simp;omega) (by simpa using hc2) (λj q' hj=>by
        rw[List.getElem?_append] at hj;split at hj
        · exact hb j q' hj
        · rename_i hlt
          have:j=sd.length:=by
            have:=(Ys.1 hj).1;simp at this;omega
          subst this
          simp at hj;subst hj;exact⟨g1,g2,g3⟩)
      rw[Xrj,List.length_append] at this;unfold Xes;rw[hq];exact this
    have stop:nst sd x=none->∀ {o:Option X56},(∃ all,o=some (.x1 all))->(match Xes (x::xs) sd with
          |some sd'=>∃ st',o=some (.x0 (X6c sd') st')/\Xb5 sd' sd'.length st'
          |none=>∃ all,o=some (.x1 all)):=by
      grind [Xes]
    have cap:∀ (l:List Xf) (t:Xf),l.length<=2000->X1o (List.length (l++[t])) 24=some ():=λl t hl=>X77 (by simp;omega);have hla:(X6c sd).length<=2000:=by unfold X6c;simp;omega
    have hst:=hc.len;by_cases hr:1<=x.Kind/\x.Kind<=19
    · rw[if_pos hr]
      simp only[Yo,bne_self_eq_false,cond_false];by_cases h4:x.Kind<=4
      · -- no parts
        have e1:decide ((if x.Kind<=4 then (0:Int) else if x.Kind<=6 then 1 else 2)>(st.length:Int))=false:=by grind
        rw[e1,cond_false,if_pos h4];have e2:IntKind.i64.wrap ((st.length:Int) - 0)=(st.length:Int):=by grind [X0q]
        rw[e2,Xj9 (Nat.le_refl _),Xh0 (Nat.le_refl _),List.take_length,List.drop_length];simp only[Yo,List.isEmpty_nil,cond_true];rw[Xp8 (Xwt hr.1 hr.2)];by_cases hok:okN x 0 0
        · rw[Yt hok,cond_true,cap st _ om,cap _ _ hla]
          exact go (1,1) st (by unfold nst;rw[if_pos h4,if_pos hok]) (.snoc (by simp) (Nat.le_refl _) om (Nat.le_refl _) (by simpa using hc.app (Nat.le_refl _))) (Nat.le_refl _) om (Nat.le_refl _)
        · rw[Yf hok,cond_false]
          exact stop (by unfold nst;rw[if_pos h4,if_neg hok]) ⟨_,rfl⟩
      · have hgl:0<sd.length->∃ q,sd.getLast?=some q/\sd[sd.length - 1]?=some q:=by
          intro h;refine⟨sd[sd.length - 1]' om,?_,?_⟩
          · rw[List.getLast?_eq_getElem?];exact Ye _
          · exact Ye _
        by_cases h6:x.Kind<=6
        · -- one part
          rw[if_neg h4,if_pos h6];by_cases hl:sd.length=0
          · rw[hl] at hc
            have:=hc.zero;subst this;simp only[List.length_nil];exact stop (by unfold nst;grind) ⟨_,rfl⟩
          · obtain⟨q,st0,hq,g1,g2,g3,hc0,rfl⟩:=hc.inv om
            obtain⟨q',hq1,hq2⟩:=hgl om;rw[hq] at hq2;cases hq2;have hs0:=hc0.len;have e1:decide ((1:Int)>((st0++[X8m (sd.length - 1) q]).length:Int))=false:=by simp;omega
            rw[e1,cond_false];have e2:IntKind.i64.wrap (((st0++[X8m (sd.length - 1) q]).length:Int) - 1)=(st0.length:Int):=by
              grind [X0q,List.length_append,List.length_singleton]
            rw[e2,Xj9 (by simp),Xh0 (by simp),List.take_left,List.drop_left];simp only[Yo,List.isEmpty_cons,cond_false,List.length_singleton];rw[show(((1:Nat):Int)==1)=true from rfl,cond_true];rw[show getI [X8m (sd.length - 1) q] 0=some (X8m (sd.length - 1) q) from rfl,Yo];rw[Xp8 (Xwt hr.1 hr.2)];have ea:(X8m (sd.length - 1) q).at_=(sd.length:Int) - 1:=by unfold X8m;grind
            rw[ea];by_cases hok:okN x ((sd.length:Int) - 1) 0
            · have e3:(Xf.mk (sd.length:Int) (IntKind.i64.wrap (1+(X8m (sd.length - 1) q).size)) (if (IntKind.i64.wrap ((X8m (sd.length - 1) q).depth+1))>1 then (IntKind.i64.wrap ((X8m (sd.length - 1) q).depth+1)) else 1))=X8m sd.length (1+q.1,1+q.2):=by
                grind [X8m,X0q]
              rw[Yt hok,cond_true,e3,cap st0 _ om,cap _ _ hla];refine go (1+q.1,1+q.2) st0 (by unfold nst;grind) (.snoc (by simp) (by grind) (by grind) (by grind) ?_) (by grind) (by grind) (by grind);have:=hc0.app (e:=[(1+q.1,1+q.2)]) om
              grind
            · rw[Yf hok,cond_false]
              exact stop (by unfold nst;grind) ⟨_,rfl⟩
        · -- two parts
          rw[if_neg h4,if_neg h6];by_cases hl:sd.length=0
          · rw[hl] at hc
            have:=hc.zero;subst this;simp only[List.length_nil];exact stop (by unfold nst;grind) ⟨_,rfl⟩
          · obtain⟨q,st1,hq,g1,g2,g3,hc1,rfl⟩:=hc.inv om
            obtain⟨q',hq1,hq2⟩:=hgl om;rw[hq] at hq2;cases hq2;by_cases hl1:sd.length - q.1=0
            · rw[hl1] at hc1
              have:=hc1.zero;subst this;exact stop (by unfold nst;rw[if_neg h4,hq1];simp only;rw[if_neg h6,if_pos om]) ⟨_,rfl⟩
            · obtain⟨p,st0,hp,f1,f2,f3,hc0,rfl⟩:=hc1.inv om
              have hs0:=hc0.len;rw[List.append_assoc];have e1:decide ((2:Int)>((st0++([X8m (sd.length - q.1 - 1) p]++[X8m (sd.length - 1) q])).length:Int))=false:=by simp;omega
              rw[e1,cond_false];have e2:IntKind.i64.wrap (((st0++([X8m (sd.length - q.1 - 1) p]++[X8m (sd.length - 1) q])).length:Int) - 2)=(st0.length:Int):=by
                rw[X0q (by simp only[List.length_append,List.length_singleton];omega) (by simp only[List.length_append,List.length_singleton];omega)];simp only[List.length_append,List.length_singleton];omega
              rw[e2,Xj9 (by simp),Xh0 (by simp),List.take_left,List.drop_left];simp only[Yo,List.singleton_append,List.isEmpty_cons,cond_false,List.length_cons,List.length_nil];rw[show((((0:Nat)+1+1:Nat):Int)==1)=false from rfl,show((((0:Nat)+1+1:Nat):Int)==2)=true from rfl,cond_false,cond_true];rw[show getI [X8m (sd.length - q.1 - 1) p,X8m (sd.length - 1) q] 0=some (X8m (sd.length - q.1 - 1) p) from rfl,show getI [X8m (sd.length - q.1 - 1) p,X8m (sd.length - 1) q] 1=some (X8m (sd.length - 1) q) from rfl,Yo,Yo];rw[Xp8 (Xwt hr.1 hr.2)];have ea:(X8m (sd.length - 1) q).at_=(sd.length:Int) - 1:=by unfold X8m;grind
              have eb:(X8m (sd.length - q.1 - 1) p).at_=(sd.length:Int) - 1 - q.1:=by unfold X8m;grind
              rw[ea,eb];have hp':sd[sd.length - 1 - q.1]?=some p:=by grind
              by_cases hok:okN x ((sd.length:Int) - 1 - q.1) ((sd.length:Int) - 1)
              · have e3:(Xf.mk (sd.length:Int) (IntKind.i64.wrap ((IntKind.i64.wrap (1+(X8m (sd.length - q.1 - 1) p).size))+(X8m (sd.length - 1) q).size)) (if (IntKind.i64.wrap ((X8m (sd.length - 1) q).depth+1))>(if (IntKind.i64.wrap ((X8m (sd.length - q.1 - 1) p).depth+1))>1 then (IntKind.i64.wrap ((X8m (sd.length - q.1 - 1) p).depth+1)) else 1) then (IntKind.i64.wrap ((X8m (sd.length - 1) q).depth+1)) else (if (IntKind.i64.wrap ((X8m (sd.length - q.1 - 1) p).depth+1))>1 then (IntKind.i64.wrap ((X8m (sd.length - q.1 - 1) p).depth+1)) else 1)))=X8m sd.length (1+q.1+p.1,max (1+q.2) (1+p.2)):=by
                  unfold X8m;simp only;rw[X0q (z:=1+(p.1:Int)) om om,X0q om om,X0q om om,X0q om om];congr 1
                  · push_cast;omega
                  · split<;>split<;>omega
                rw[Yt hok,cond_true,e3,cap st0 _ om,cap _ _ hla];refine go (1+q.1+p.1,max (1+q.2) (1+p.2)) st0 (by unfold nst;rw[if_neg h4,hq1];simp only;rw[if_neg h6,if_neg om,hp'];simp only;rw[if_pos hok]) (.snoc (by simp) (by simp only;omega) (by simp only;omega) (by simp only;omega) ?_) (by simp only;omega) (by simp only;omega) (by simp only;omega);have:=hc0.app (e:=[(1+q.1+p.1,max (1+q.2) (1+p.2))]) om;simp only;rw[show sd.length+1 - (1+q.1+p.1)=sd.length - q.1 - p.1 by omega];exact this
              · rw[Yf hok,cond_false]
                exact stop (by unfold nst;simp_all [if_neg]) ⟨_,rfl⟩
    · rw[if_neg hr]
      have hno:nst sd x=none:=by
        have no:∀ a b,¬ okN x a b:=λa b h=>hr ⟨h.1,h.2.1⟩;unfold nst;simp only[no,if_false];split
        · rfl
        · split
          · rfl
          · split
            · rfl
            · split
              · rfl
              · split<;>rfl
      exact stop hno ⟨_,rfl⟩
def nchk (l:List X1):Int :=
 if l.length>60 then 4 else match Xes l [] with
  |none=>8
  |some sd=>match sd.getLast? with
   |none=>8
   |some q=>if q.1=l.length then (if q.2>20 then 34 else 0) else 8
theorem Xgc:∀ (xs:List X1) (sd sd':List (Nat×Nat)),Xes xs sd=some sd'->sd'.length=sd.length+xs.length
 |[],sd,sd',h=>by cases h;simp
 |x::xs,sd,sd',h=>by
  unfold Xes at h;split at h
  ·have:=Xgc xs _ _ h;simp at this;simp;omega
  ·cases h
theorem Xmv {sd:List (Nat×Nat)} {i:Nat} {q:Nat×Nat} (h:sd[i]?=some q):getI (X6c sd) (i:Int)=some (X8m i q):=by
 rw[X30];unfold X6c;rw[List.getElem?_mapIdx,h];rfl
theorem Xet {l:List X1} (h0:∀ x∈l,0<=x.Kind):∃ t,X7s l=some (t,nchk l)/\(nchk l=0->∃ sd,Xes l []=some sd/\t=X6c sd):=by
 unfold X7s nchk;by_cases h60:l.length>60
 ·rw[Yt (show(l.length:Int)>60 by omega),cond_true,if_pos h60];exact⟨_,rfl,by omega⟩
 ·rw[Yf (show ¬ (l.length:Int)>60 by omega),cond_false,if_neg h60];have hL:=X051 l l [] [] h0 (by simp;omega) .nil (by simp);unfold Xe0;rw[X2z om]
  cases hr:Xes l [] with
  |none =>
   rw[hr] at hL;obtain⟨all,hL⟩:=hL;simp only[List.length_nil] at hL;rw[show X6c []=[] from rfl] at hL;rw[hL];exact⟨_,rfl,by simp⟩
  |some sd =>
   rw[hr] at hL;obtain⟨st,hL,hc⟩:=hL;simp only[List.length_nil] at hL;rw[show X6c []=[] from rfl] at hL;rw[hL];have hn:=Xgc l [] sd hr;simp only[List.length_nil,Nat.zero_add] at hn;simp only[Yo];by_cases hz:sd.length=0
   ·have:sd=[]:=List.eq_nil_of_length_eq_zero hz;subst this;have:=hc.zero;subst this;simp
   ·obtain⟨q,st0,hq,g1,g2,g3,hc0,rfl⟩:=hc.inv om;have hg:sd.getLast?=some q:=by grind
    rw[hg];simp only;have hst:(((st0++[X8m (sd.length - 1) q]).length:Int)==1)=decide (q.1=l.length):=by
     rw[Bool.eq_iff_iff];simp only[List.length_append,List.length_singleton,beq_iff_eq,decide_eq_true_eq];constructor
     ·intro h;have h1:st0.length=0:=by omega
      by_cases hk:sd.length - q.1=0
      ·omega
      ·obtain⟨_,s1,_,_,_,_,_,rfl⟩:=hc0.inv om;simp at h1
     ·intro h;rw[show sd.length - q.1=0 by omega] at hc0;rw[hc0.zero];rfl
    rw[hst];by_cases he:q.1=l.length
    ·rw[Yt he,if_pos he];simp only[Bool.not_true,cond_false];rw[show IntKind.i64.wrap (((X6c sd).length:Int) - 1)=((sd.length - 1:Nat):Int) by grind [Xmu,Xlj]];rw[Xmv hq,Yo];by_cases hd:q.2>20
     ·rw[if_pos hd,show decide ((X8m (sd.length - 1) q).depth>20)=true from Yt (by unfold X8m;grind)]
      grind
     ·rw[if_neg hd,show decide ((X8m (sd.length - 1) q).depth>20)=false from Yf (by unfold X8m;grind)]
      grind
    simp_all
theorem X5v {l:List X1} (h0:∀ x∈l,0<=x.Kind):X28 l=some (nchk l):=by
 obtain⟨t,h,_⟩:=Xet h0;unfold X28;rw[h];rfl
def szs (sd:List (Nat×Nat)):List Int:=sd.map λq=>(q.1:Int)
def dps (sd:List (Nat×Nat)):List Int:=sd.map λq=>(q.2:Int)
theorem Xrl {sd:List (Nat×Nat)} {i:Nat} {q:Nat×Nat} (h:sd[i]?=some q):getI (szs sd) (i:Int)=some (q.1:Int):=by
 rw[X30];unfold szs;grind
theorem Xs9 {sd:List (Nat×Nat)} {i:Nat} {q:Nat×Nat} (h:sd[i]?=some q):getI (dps sd) (i:Int)=some (q.2:Int):=by
 rw[X30];unfold dps;grind
theorem X00y (Y : List X1) : ∀ (xs : List X1) (sd : List (Nat × Nat)), sd.length + xs.length <= 1000 -> (∀ j q, sd[j]? = some q -> 1 <= q.1 /\ q.1 <= j + 1 /\ q.2 <= q.1) ->
    match Xes xs sd with
    |some sd'=>X1p Y xs sd.length (szs sd) (dps sd)=some (.x0 (szs sd') (dps sd'))
    |none=>X1p Y xs sd.length (szs sd) (dps sd)=some (.x1 [] []):=by
  intro xs
  induction xs with
  |nil=>intro sd _ _;rfl
  |cons x xs ih =>
    intro sd hn hb;simp only[List.length_cons] at hn;rw[X1p];have go : ∀ (q : Nat × Nat), nst sd x = some q -> 1 <= q.1 -> q.1 <= sd.length + 1 -> q.2 <= q.1 ->
        (match Xes (x::xs) sd with
          |some sd'=>X1p Y xs (sd.length+1) (szs sd++[(q.1:Int)]) (dps sd++[(q.2:Int)])=some (.x0 (szs sd') (dps sd'))
          |none=>X1p Y xs (sd.length+1) (szs sd++[(q.1:Int)]) (dps sd++[(q.2:Int)])=some (.x1 [] [])):=by
      intro q hq g1 g2 g3
      have:=ih (sd++[q]) (by simp;omega) (λj q' hj=>by
        grind)
      rw[List.length_append] at this;unfold Xes;rw[hq];unfold szs dps at this ⊢
      simp_all
    have stop:nst sd x=none->∀ {o:Option X4r},o=some (.x1 [] [])->(match Xes (x::xs) sd with
          |some sd'=>o=some (.x0 (szs sd') (dps sd'))
          |none=>o=some (.x1 [] [])):=by
      grind [Xes]
    have cap:∀ (l:List Int) (t:Int),l.length<=2000->X1o (List.length (l++[t])) 8=some ():=λl t hl=>X77 (by simp;omega);have hls:(szs sd).length<=2000:=by unfold szs;simp;omega
    have hld:(dps sd).length<=2000:=by unfold dps;simp;omega
    unfold X1w;by_cases h4:x.Kind<=4
    · rw[Yt h4,cond_true]
      simp only[Yo];rw[show decide ((0:Int)>0)=false from rfl,cond_false,Xnw,Yo];by_cases hok:okN x 0 0
      · rw[Yt hok,Bool.not_true,cond_false,cap _ _ hls,cap _ _ hld]
        exact go (1,1) (by unfold nst;grind) (Nat.le_refl _) om (Nat.le_refl _)
      · rw[Yf hok,Bool.not_false,cond_true]
        exact stop (by unfold nst;rw[if_pos h4,if_neg hok]) rfl
    · rw[Yf h4,cond_false]
      have hgl:0<sd.length->∃ q,sd.getLast?=some q/\sd[sd.length - 1]?=some q:=by
        intro h;refine⟨sd[sd.length - 1]' om,?_,?_⟩
        · rw[List.getLast?_eq_getElem?];exact Ye _
        · exact Ye _
      by_cases hl:sd.length=0
      · have hnil:=List.eq_nil_of_length_eq_zero hl
        refine stop (by unfold nst;grind) ?_;rw[hl];by_cases h6:x.Kind<=6
        · rw[Yt h6];rfl
        · rw[Yf h6];rfl
      · obtain⟨q,hq1,hq⟩:=hgl om
        obtain⟨g1,g2,g3⟩:=hb _ _ hq;have hw:IntKind.i64.wrap ((sd.length:Int) - 1)=((sd.length - 1:Nat):Int):=Xlj om om;rw[hw];rw[show decide (((sd.length - 1:Nat):Int)<0)=false from Yf om,Xrl hq,Xs9 hq];simp only[cond_false];by_cases h6:x.Kind<=6
        · rw[Yt h6,cond_true]
          simp only[Yo];rw[show decide ((1:Int)>0)=true from rfl,cond_true,show((1:Int)==2)=false from rfl,cond_false,Xnw,Yo];rw[show((sd.length - 1:Nat):Int)=(sd.length:Int) - 1 by omega];by_cases hok:okN x ((sd.length:Int) - 1) 0
          · rw[Yt hok,Bool.not_true,cond_false,cap _ _ hls,cap _ _ hld]
            rw[X0q om om,X0q om om];have:=go (1+q.1,1+q.2) (by unfold nst;grind) (by grind) (by grind) (by grind)
            grind
          · rw[Yf hok,Bool.not_false,cond_true]
            exact stop (by unfold nst;grind) rfl
        · rw[Yf h6,cond_false]
          simp only[Yo];rw[show decide ((2:Int)>0)=true from rfl,cond_true,show((2:Int)==2)=true from rfl,cond_true];have hw2:IntKind.i64.wrap (((sd.length - 1:Nat):Int) - q.1)=(sd.length:Int) - 1 - q.1:=by grind [X0q]
          rw[hw2];by_cases hlt:sd.length - 1<q.1
          · rw[show decide ((sd.length:Int) - 1 - q.1<0)=true from Yt om,cond_true]
            exact stop (by unfold nst;grind) rfl
          · rw[show decide ((sd.length:Int) - 1 - q.1<0)=false from Yf om,cond_false]
            have hpe:sd[sd.length - 1 - q.1]?=some (sd[sd.length - 1 - q.1]' om):=Ye _;generalize sd[sd.length - 1 - q.1]' om=p at hpe;obtain⟨f1,f2,f3⟩:=hb _ _ hpe;rw[show(sd.length:Int) - 1 - q.1=((sd.length - 1 - q.1:Nat):Int) by omega,Xrl hpe,Xs9 hpe];simp only[Yo];rw[Xnw,Yo];rw[show((sd.length - 1 - q.1:Nat):Int)=(sd.length:Int) - 1 - q.1 by omega,show((sd.length - 1:Nat):Int)=(sd.length:Int) - 1 by omega];by_cases hok:okN x ((sd.length:Int) - 1 - q.1) ((sd.length:Int) - 1)
            · rw[Yt hok,Bool.not_true,cond_false,cap _ _ hls,cap _ _ hld]
              rw[X0q (z:=1+(q.1:Int)) om om,X0q (z:=1+(q.1:Int)+p.1) om om,X0q om om,X0q om om];have:=go (1+q.1+p.1,max (1+q.2) (1+p.2)) (by unfold nst;grind) (by grind) (by grind) (by grind);simp only at this;rw[show((1+q.1+p.1:Nat):Int)=1+(q.1:Int)+p.1 by omega,show((max (1+q.2) (1+p.2):Nat):Int)=(if 1+(p.2:Int)>1+q.2 then 1+(p.2:Int) else 1+q.2) by omega] at this;exact this
            · rw[Yf hok,Bool.not_false,cond_true]
              exact stop (by unfold nst;grind) rfl
theorem Xaz {l:List X1}:X4h l=some (nchk l):=by
 unfold X4h nchk;by_cases h60:l.length>60
 ·grind
 ·rw[Yf (show ¬ (l.length:Int)>60 by omega),cond_false,if_neg h60];have hL:=X00y l l [] (by simp;omega) (by simp);unfold Xc6;rw[X2z om]
  cases hr:Xes l [] with
  |none =>
   rw[hr] at hL;simp only[List.length_nil] at hL;rw[show szs []=[] from rfl,show dps []=[] from rfl] at hL
   grind
  |some sd =>
   rw[hr] at hL;simp only[List.length_nil] at hL;rw[show szs []=[] from rfl,show dps []=[] from rfl] at hL;rw[Yo,hL];have hn:=Xgc l [] sd hr;simp only[List.length_nil,Nat.zero_add] at hn;simp only[Yo];by_cases hz:l.length=0
   ·grind
   ·have hq:sd[sd.length - 1]?=some (sd[sd.length - 1]' om):=Ye _;generalize sd[sd.length - 1]' om=q at hq;have hg:sd.getLast?=some q:=by grind
    rw[hg];have hw:IntKind.i64.wrap ((l.length:Int) - 1)=((sd.length - 1:Nat):Int):=by grind [Xlj]
    rw[show decide ((l.length:Int)>0)=true from Yt om,cond_true,hw,Xrl hq];simp only[Yo,cond_true];rw[Xs9 hq]
    grind
end Go.D


namespace Go.D
theorem X0ap {sd:List (Nat×Nat)} {x:X1} {q:Nat×Nat} (h:nst sd x=some q):∃ a b,okN x a b/\(x.Kind<=4->a=0/\b=0)/\(5<=x.Kind->0<sd.length/\(x.Kind<=6->a=(sd.length:Int) - 1/\b=0)/\(7<=x.Kind->0<=a/\a<=(sd.length:Int) - 1/\b=(sd.length:Int) - 1)):=by
 unfold nst at h
 grind
structure Xgs (x:X1) (k:Nat):Prop where
 lo:1<=x.Kind
 hi:x.Kind<=19
 leaf:x.Kind<=4->x.A=0/\x.B=0
 a0:0<=x.A
 b0:0<=x.B
 ak:5<=x.Kind->x.A<k
 b1:5<=x.Kind->x.Kind<=6->x.B=0
 bk:5<=x.Kind->x.B<k
 n0:0<=x.N
 nk:x.N=0\/x.Kind=1
 at0:0<=x.At
 at1:x.At<=400
theorem Xx5:∀ (xs:List X1) (sd sd':List (Nat×Nat)),Xes xs sd=some sd'->∀ j x,xs[j]?=some x->Xgs x (sd.length+j)
 |[],sd,sd',h,j,x,hj=>by simp at hj
 |y::ys,sd,sd',h,j,x,hj=>by
  unfold Xes at h;split at h
  ·rename_i q hq
   cases j with
   |zero =>
    simp at hj;subst hj;obtain⟨a,b,ho,h4,h5⟩:=X0ap hq;obtain⟨o1,o2,o3,o4,o5,o6,rfl,rfl⟩:=ho;refine⟨o1,o2,h4,?_,?_,?_,?_,?_,o3,o4,o5,o6⟩;all_goals
     by_cases h4':y.Kind<=4
     ·have:=h4 h4';omega
     ·have h5':=h5 om;by_cases h6:y.Kind<=6
      ·have:=h5'.2.1 h6;omega
      ·have:=h5'.2.2 om;omega
   |succ j =>
    have:=Xx5 ys _ _ h j x (by simpa using hj);rw[List.length_append,List.length_singleton] at this;rw[show sd.length+(j+1)=sd.length+1+j by omega];exact this
  ·cases h
def giv (K:Int):Bool:=(K==6)||decide (12<=K)
theorem Xor (K:Int):X7p K=some (giv K):=by
 rfl
def kindAt (l:List X1) (i:Int):Int:=match getI l i with|some e=>e.Kind|none=>0
def Xi6 (l:List X1) (x:X1):Bool :=
 if x.Kind<=4 then true
 else if x.Kind=5 then !(giv (kindAt l x.A))
 else if x.Kind=6 then giv (kindAt l x.A)
 else if x.Kind<=15 then !(giv (kindAt l x.A))&&!(giv (kindAt l x.B))
 else if x.Kind<=17 then (giv (kindAt l x.A))==(giv (kindAt l x.B))
 else giv (kindAt l x.A)&&giv (kindAt l x.B)
def wrN (l:List X1):List X1->Nat->Option Nat
 |[],_=>none
 |x::xs,k=>if Xi6 l x then wrN l xs (k+1) else some k
theorem Xdh {α:Type} {l:List α} {i:Int} (h0:0<=i) (h1:i<l.length):∃ e,getI l i=some e/\l[i.toNat]?=some e:=by
 obtain⟨n,rfl⟩:∃ n:Nat,i=n:=⟨i.toNat,by omega⟩
 simp_all [X30,Ye]
theorem Xce {l:List X1} {i:Int} (h0:0<=i) (h1:i<l.length):∃ e,getI l i=some e/\kindAt l i=e.Kind:=by
 obtain⟨e,h,_⟩:=Xdh h0 h1
 grind [kindAt]
theorem X07q {l:List X1} {x:X1} {k:Nat} (hk:l[k]?=some x) (ho:Xgs x k):Xbe l (k:Int)=some (Xi6 l x):=by
 have hlt:=(Ys.1 hk).1;have hA:x.A<l.length:=by
  by_cases h:x.Kind<=4
  ·have:=(ho.leaf h).1;omega
  ·have:=ho.ak om;omega
 have hB:x.B<l.length:=by
  by_cases h:x.Kind<=4
  ·have:=(ho.leaf h).2;omega
  ·have:=ho.bk om;omega
 obtain⟨a,ha,hka⟩:=Xce ho.a0 hA;obtain⟨b,hb,hkb⟩:=Xce ho.b0 hB;unfold Xbe Xi6;rw[X30,hk,Yo,ha,Yo,hb,Xor,Yo,Yo,Xor,Yo,hka,hkb]
 grind
theorem Xsj {l:List X1} (ho:∀ j x,l[j]?=some x->Xgs x j):∀ (xs:List X1) (k:Nat),l.drop k=xs->X3t l xs k=some (match wrN l xs k with|none=>.x0|some j=>.x1 (j:Int))
 |[],k,_=>rfl
 |x::xs,k,h=>by
  have hk:l[k]?=some x:=by
   have:(l.drop k)[0]?=some x:=by rw[h];rfl
   grind
  have hd:l.drop (k+1)=xs:=by
   have:(l.drop k).drop 1=xs:=by rw[h];rfl
   rw[List.drop_drop] at this;exact this
  rw[X3t,X07q hk (ho k x hk),Yo,wrN]
  cases Xi6 l x with
  |true=>exact Xsj ho xs (k+1) hd
  |false=>rfl
def gvs (l:List X1) (k:Nat):List Bool:=(l.take k).map λe=>giv e.Kind
theorem Xom {l:List X1} {k:Nat} (hk:k<=l.length) {i:Int} (h0:0<=i) (h1:i<k):getI (gvs l k) i=some (giv (kindAt l i)):=by
 obtain⟨e,he,hke⟩:=Xce (l:=l) h0 om;have hi:(i.toNat:Int)=i:=by omega
 rw[hke,<-hi,X30];rw[<-hi,X30] at he;unfold gvs
 grind
theorem Xtd {l:List X1} {k:Nat} {x:X1} (hk:l[k]?=some x):gvs l (k+1)=gvs l k++[giv x.Kind]:=by
 unfold gvs
 grind [List.take_add_one]
theorem Xrk {l:List X1} (hn:l.length<=1000) (ho:∀ j x,l[j]?=some x->Xgs x j):∀ (xs:List X1) (k:Nat),l.drop k=xs->X1s l xs k (gvs l k)=some (match wrN l xs k with|none=>.x0 (gvs l l.length)|some j=>.x1 [] (j:Int))
 |[],k,h=>by
  have:l.length<=k:=by
   simp_all
  rw[X1s,wrN];unfold gvs
  grind
 |x::xs,k,h=>by
  have hk:l[k]?=some x:=by
   have:(l.drop k)[0]?=some x:=by rw[h];rfl
   simpa using this
  have hd:l.drop (k+1)=xs:=by
   have:(l.drop k).drop 1=xs:=by rw[h];rfl
   rw[List.drop_drop] at this;exact this
  have hlt:=(Ys.1 hk).1;have hox:=ho k x hk;have ih:=Xrk hn ho xs (k+1) hd;have h1:=hox.lo;have h2:=hox.hi;have cap:∀ b,X1o (List.length (gvs l k++[b])) 1=some ():=λb=>X77 (by unfold gvs;simp;omega);have go:giv x.Kind=false->Xi6 l x=true->X1s l xs (k+1) (gvs l k++[false])=some (match wrN l (x::xs) k with|none=>.x0 (gvs l l.length)|some j=>.x1 [] (j:Int)):=by
   intro g f;rw[wrN,f,if_pos rfl,<-ih,Xtd hk,g]
  have go':giv x.Kind=true->Xi6 l x=true->X1s l xs (k+1) (gvs l k++[true])=some (match wrN l (x::xs) k with|none=>.x0 (gvs l l.length)|some j=>.x1 [] (j:Int)):=by
   intro g f;rw[wrN,f,if_pos rfl,<-ih,Xtd hk,g]
  have stop:Xi6 l x=false->(some (.x1 [] (k:Int)):Option X57)=some (match wrN l (x::xs) k with|none=>.x0 (gvs l l.length)|some j=>.x1 [] (j:Int)):=by
   intro f;rw[wrN,f];rfl
  rw[X1s];by_cases h4:x.Kind<=4
  ·rw[Yt h4,cond_true,cap,Yo];exact go (by unfold giv;simp;omega) (by unfold Xi6;grind)
  ·rw[Yf h4,cond_false];have hA:getI (gvs l k) x.A=some (giv (kindAt l x.A)):=Xom om hox.a0 (hox.ak om);have hB:getI (gvs l k) x.B=some (giv (kindAt l x.B)):=Xom om hox.b0 (hox.bk om);by_cases h5:x.Kind=5
   ·have hf:Xi6 l x=!(giv (kindAt l x.A)):=by unfold Xi6;rw[if_neg h4,if_pos h5]
    rw[show(x.Kind==5)=true by simp[h5],cond_true,hA]
    cases hg:giv (kindAt l x.A) with
    |true=>exact stop (by rw[hf,hg];rfl)
    |false =>
     show(X1o (List.length (gvs l k++[false])) 1).bind _=_;rw[cap,Yo];exact go (by unfold giv;simp[h5]) (by rw[hf,hg];rfl)
   ·rw[show(x.Kind==5)=false by simp[h5],cond_false];by_cases h6:x.Kind=6
    ·have hf:Xi6 l x=giv (kindAt l x.A):=by unfold Xi6;rw[if_neg h4,if_neg h5,if_pos h6]
     rw[show(x.Kind==6)=true by simp[h6],cond_true,hA]
     cases hg:giv (kindAt l x.A) with
     |false=>exact stop (by rw[hf,hg])
     |true =>
      show(X1o (List.length (gvs l k++[true])) 1).bind _=_;rw[cap,Yo];exact go' (by unfold giv;simp[h6]) (by rw[hf,hg])
    ·rw[show(x.Kind==6)=false by simp[h6],cond_false];have lok:X4s (List.length [x.A,x.B])=some ():=X2z (by simp);by_cases h15:x.Kind<=15
     ·have hf:Xi6 l x=(!(giv (kindAt l x.A))&&!(giv (kindAt l x.B))):=by unfold Xi6;rw[if_neg h4,if_neg h5,if_neg h6,if_pos h15]
      by_cases h11:x.Kind<=11
      ·have hgx:giv x.Kind=false:=by unfold giv;simp;omega
       rw[Yt h11,cond_true,Yo,lok];simp only[X08,hA,hB];generalize giv (kindAt l x.A)=p at hf;generalize giv (kindAt l x.B)=r at hf;cases p<;>cases r
       ·show(X1o (List.length (gvs l k++[false])) 1).bind _=_;rw[cap,Yo];exact go hgx hf
       all_goals exact stop hf
      ·have hgx:giv x.Kind=true:=by unfold giv;simp;omega
       rw[Yf h11,cond_false,Yt h15,cond_true,Yo,lok];simp only[X08,hA,hB];generalize giv (kindAt l x.A)=p at hf;generalize giv (kindAt l x.B)=r at hf;cases p<;>cases r
       ·show(X1o (List.length (gvs l k++[true])) 1).bind _=_;rw[cap,Yo];exact go' hgx hf
       all_goals exact stop hf
     ·rw[Yf (show ¬ x.Kind<=11 by omega),cond_false,Yf h15,cond_false];have hgx:giv x.Kind=true:=by unfold giv;simp;omega
      by_cases h17:x.Kind<=17
      ·have hf:Xi6 l x=((giv (kindAt l x.A))==(giv (kindAt l x.B))):=by unfold Xi6;rw[if_neg h4,if_neg h5,if_neg h6,if_neg h15,if_pos h17]
       rw[Yt h17,cond_true,Yo,lok];simp only[X08,X09,hA,hB];generalize giv (kindAt l x.A)=p at hf;generalize giv (kindAt l x.B)=r at hf;cases p<;>cases r
       ·show(X1o (List.length (gvs l k++[true])) 1).bind _=_;rw[cap,Yo];exact go' hgx hf
       ·exact stop hf
       ·exact stop hf
       ·show(X1o (List.length (gvs l k++[true])) 1).bind _=_;rw[cap,Yo];exact go' hgx hf
      ·have hf:Xi6 l x=((giv (kindAt l x.A))&&(giv (kindAt l x.B))):=by unfold Xi6;rw[if_neg h4,if_neg h5,if_neg h6,if_neg h15,if_neg h17]
       rw[Yf h17,cond_false,Yo,lok];simp only[X08,X09,hA,hB];generalize giv (kindAt l x.A)=p at hf;generalize giv (kindAt l x.B)=r at hf;cases p<;>cases r
       ·exact stop hf
       ·exact stop hf
       ·exact stop hf
       ·show(X1o (List.length (gvs l k++[true])) 1).bind _=_;rw[cap,Yo];exact go' hgx hf
end Go.D


namespace Go.D
def kOf (l:List X1):Bool×Int×Int :=
 if nchk l≠0 then (false,0,nchk l)
 else match wrN l l 0 with
  |some j=>(false,(j:Int),42)
  |none=>(giv (kindAt l ((l.length:Int) - 1)),(l.length:Int) - 1,0)
theorem Xgd {l:List X1} (h:nchk l=0):l.length<=60/\1<=l.length/\∃ sd,Xes l []=some sd:=by
 unfold nchk at h;split at h
 ·cases h
 ·split at h
  ·cases h
  ·rename_i sd hr;have hn:=Xgc l [] sd hr
   grind
theorem X9j {l:List X1} (h:nchk l=0):∀ j x,l[j]?=some x->Xgs x j:=by
 obtain⟨_,_,sd,hr⟩:=Xgd h;intro j x hj;have:=Xx5 l [] sd hr j x hj
 grind
theorem Xsk (l:List X1):∀ (xs:List X1) (k j:Nat),wrN l xs k=some j->k<=j/\j<k+xs.length
 |[],k,j,h=>by cases h
 |x::xs,k,j,h=>by
  unfold wrN at h;split at h
  ·have:=Xsk l xs (k+1) j h;grind
  grind
theorem Xa8 {l:List X1} (h0:∀ x∈l,0<=x.Kind):Xao l=some (kOf l):=by
 unfold Xao kOf;rw[X5v h0,Yo];by_cases hz:nchk l=0
 ·obtain⟨h60,h1,_⟩:=Xgd hz;rw[if_neg om,hz,show((0:Int) != 0)=false from rfl,cond_false];unfold X9l;rw[X2z om,Yo];have ht:=Xrk om (X9j hz) l 0 rfl;rw[show gvs l 0=[] from by rfl] at ht;rw[ht]
  cases hw:wrN l l 0 with
  |some j =>
   have:=(Xsk l l 0 j hw).2
   grind
  |none =>
   simp only[Yo];rw[Yf (show ¬ (l.length:Int)<(l.length:Int) by omega),cond_false,X0q om om,Xom (Nat.le_refl _) om om];rfl
 grind
theorem Xrq {l:List X1}:Xg6 l=some (kOf l):=by
 unfold Xg6 kOf;rw[Xaz,Yo];by_cases hz:nchk l=0
 ·obtain⟨h60,h1,_⟩:=Xgd hz;rw[if_neg om,hz,show((0:Int) != 0)=false from rfl,cond_false];unfold Xc5;rw[X2z om,Yo,Xsj (X9j hz) l 0 rfl]
  cases hw:wrN l l 0 with
  |some j =>
   have:=(Xsk l l 0 j hw).2
   grind
  |none =>
   simp only[Yo];obtain⟨e,he,hk⟩:=Xce (l:=l) (i:=(l.length:Int) - 1) om om;rw[Yf (show ¬ (l.length:Int)<(l.length:Int) by omega),cond_false,X0q om om,he,Yo,Xor,hk];rfl
 grind
def X2e (l:List X1) (b:Bool):Int×Int :=
 if (kOf l).2.2=0/\(kOf l).1≠b then ((kOf l).2.1,42) else ((kOf l).2.1,(kOf l).2.2)
theorem Xgg {l:List X1} {b:Bool} (h0:∀ x∈l,0<=x.Kind):X9k l b=some (X2e l b):=by
 unfold X9k X2e;rw[Xa8 h0,Yo]
 grind
theorem Xg5 {l:List X1} {b:Bool}:X7o l b=some (X2e l b):=by
 unfold X7o X2e;rw[Xrq,Yo]
 grind
def Xw3 (s:List Int) (j:Bool):Bool:=s.length==0||(j&&s.length != 2)||s.any λx=>decide (x<0)||decide (x>3)
def X6n (s:List Int) (j:Bool):Int :=
 if s.length>4 then 4 else if Xw3 s j then 8 else if s.Nodup then 0 else 43
theorem Xpv (Y:List Int):∀ (xs:List Int) (k:Nat),∃ o,X0s Y xs k=some o/\((xs.any λx=>decide (x<0)||decide (x>3))=true->∃ j:Nat,o=.x1 (j:Int))/\((xs.any λx=>decide (x<0)||decide (x>3))=false->o=.x0)
 |[],k=>⟨.x0,rfl,by simp,λ_=>rfl⟩
 |x::xs,k=>by
  obtain⟨o,h1,h2,h3⟩:=Xpv Y xs (k+1);rw[X0s]
  grind [X5o,decide,Yt,Yf,Bool.or_eq_false_iff,decide_eq_false_iff_not]
theorem Xsd {s:List Int} (hn:s.length<=1000):Xy s=some (s.any λx=>decide (x<0)||decide (x>3)):=by
 unfold Xy X0r;rw[X2z om,Yo];obtain⟨o,h1,h2,h3⟩:=Xpv s s 0
 grind [decide]
end Go.D


namespace Go.D
inductive Ex where
 |leaf (k n t:Int)
 |un (k t:Int) (a:Ex)
 |bin (k t:Int) (a b:Ex)
def Ex.sz:Ex->Nat
 |.leaf ..=>1
 |.un _ _ a=>a.sz+1
 |.bin _ _ a b=>a.sz+b.sz+1
def Ex.dp:Ex->Nat
 |.leaf ..=>1
 |.un _ _ a=>a.dp+1
 |.bin _ _ a b=>max a.dp b.dp+1
def Ex.fl:Ex->Int->List X1
 |.leaf k n t,_=>[⟨k,n,0,0,t⟩]
 |.un k t a,o=>a.fl o++[⟨k,0,o+a.sz - 1,0,t⟩]
 |.bin k t a b,o=>a.fl o++(b.fl (o+a.sz)++[⟨k,0,o+a.sz - 1,o+a.sz+b.sz - 1,t⟩])
def Ex.kd:Ex->Int
 |.leaf k _ _=>k
 |.un k _ _=>k
 |.bin k _ _ _=>k
def Ex.tx:Ex->Int
 |.leaf _ _ t=>t
 |.un _ t _=>t
 |.bin _ t _ _=>t
def Ex.ok:Ex->Prop
 |.leaf k n t=>1<=k/\k<=4/\0<=n/\(n=0\/k=1)/\0<=t/\t<=400
 |.un k t a=>5<=k/\k<=6/\0<=t/\t<=400/\a.ok
 |.bin k t a b=>7<=k/\k<=19/\0<=t/\t<=400/\a.ok/\b.ok
def Ex.sdo:Ex->List (Nat×Nat)
 |.leaf ..=>[(1,1)]
 |.un _ _ a=>a.sdo++[(a.sz+1,a.dp+1)]
 |.bin _ _ a b=>a.sdo++(b.sdo++[(a.sz+b.sz+1,max a.dp b.dp+1)])
theorem Ex.sz_pos (e:Ex):1<=e.sz:=by cases e<;>simp[Ex.sz]
theorem Ex.dp_le (e:Ex):e.dp<=e.sz:=by induction e<;>simp[Ex.sz,Ex.dp]<;>omega
theorem Ex.dp_pos (e:Ex):1<=e.dp:=by cases e<;>simp[Ex.dp]
theorem Ex.fl_len (e:Ex):∀ o,(e.fl o).length=e.sz:=by
 induction e with
 |leaf=>intro o;rfl
 |un k t a ih=>intro o;simp[Ex.fl,Ex.sz,ih]
 |bin k t a b iha ihb=>grind [Ex.fl,Ex.sz]
theorem Ex.sdo_len (e:Ex):e.sdo.length=e.sz:=by
 induction e with
 |leaf=>rfl
 |un k t a ih=>simp[Ex.sdo,Ex.sz,ih]
 |bin k t a b iha ihb=>simp[Ex.sdo,Ex.sz,iha,ihb];omega
theorem Ex.sdo_last (e:Ex):∃ l,e.sdo=l++[(e.sz,e.dp)]/\l.length+1=e.sz:=by
 cases e with
 |leaf=>exact⟨[],rfl,rfl⟩
 |un k t a=>exact⟨a.sdo,rfl,by simp[Ex.sz,a.sdo_len]⟩
 |bin k t a b=>exact⟨a.sdo++b.sdo,by simp[Ex.sdo,Ex.sz,Ex.dp],by simp[Ex.sz,a.sdo_len,b.sdo_len]⟩
def Ex.rt:Ex->Int->X1
 |.leaf k n t,_=>⟨k,n,0,0,t⟩
 |.un k t a,o=>⟨k,0,o+a.sz - 1,0,t⟩
 |.bin k t a b,o=>⟨k,0,o+a.sz - 1,o+a.sz+b.sz - 1,t⟩
theorem Ex.fl_last (e:Ex) (o:Int):∃ l,e.fl o=l++[e.rt o]/\l.length+1=e.sz:=by
 cases e with
 |leaf=>exact⟨[],rfl,rfl⟩
 |un k t a=>exact⟨a.fl o,rfl,by simp[Ex.sz,a.fl_len]⟩
 |bin k t a b=>exact⟨a.fl o++b.fl (o+a.sz),by simp[Ex.fl,Ex.rt],by simp[Ex.sz,a.fl_len,b.fl_len]⟩
theorem Ex.rt_kd (e:Ex) (o:Int):(e.rt o).Kind=e.kd:=by cases e<;>rfl
theorem Ex.rt_at (e:Ex) (o:Int):(e.rt o).At=e.tx:=by cases e<;>rfl
theorem Xa6:∀ (xs ys:List X1) (sd:List (Nat×Nat)),Xes (xs++ys) sd=(Xes xs sd).bind (Xes ys)
 |[],ys,sd=>rfl
 |x::xs,ys,sd=>by
  rw[List.cons_append];unfold Xes
  cases nst sd x with
  |none=>rfl
  |some q=>exact Xa6 xs ys _
theorem Xjb (x:X1) (sd:List (Nat×Nat)):Xes [x] sd=(nst sd x).map λq=>sd++[q]:=by
 unfold Xes;cases nst sd x<;>rfl
theorem X06i (e:Ex):∀ (sd:List (Nat×Nat)) (o:Int),o=sd.length->e.ok->Xes (e.fl o) sd=some (sd++e.sdo):=by
 induction e with
 |leaf k n t =>
  intro sd o ho ⟨h1,h2,h3,h4,h5,h6⟩;rw[Ex.fl,Xjb];unfold nst;rw[if_pos h2,if_pos ⟨h1,by grind,h3,h4,h5,h6,rfl,rfl⟩];rfl
 |un k t a ih =>
  intro sd o ho ⟨h1,h2,h3,h4,h5⟩;rw[Ex.fl,Xa6,ih sd o ho h5,Yo,Xjb];obtain⟨l,hl,hn⟩:=a.sdo_last;unfold nst;rw[if_neg (by grind),Ex.sdo,hl,<-List.append_assoc,List.getLast?_concat];simp only[];rw[if_pos h2,if_pos ⟨by grind,by grind,Int.le_refl _,.inl rfl,h3,h4,by grind,rfl⟩]
  grind
 |bin k t a b iha ihb =>
  intro sd o ho ⟨h1,h2,h3,h4,h5,h6⟩;rw[Ex.fl,Xa6,iha sd o ho h5,Yo,Xa6,ihb _ (o+a.sz) (by rw[List.length_append,a.sdo_len];omega) h6,Yo,Xjb];obtain⟨l,hl,hn⟩:=b.sdo_last;obtain⟨m,hm,hk⟩:=a.sdo_last;have hb:=b.sz_pos;unfold nst;have e1:(sd++a.sdo++b.sdo).getLast?=some (b.sz,b.dp):=by grind
  have e2:(sd++a.sdo++b.sdo).length=sd.length+a.sz+b.sz:=by grind
  have e3:(sd++a.sdo++b.sdo)[(sd++a.sdo++b.sdo).length - 1 - b.sz]?=some (a.sz,a.dp):=by
   rw[e2,hm,show sd++(m++[(a.sz,a.dp)])++b.sdo=(sd++m)++((a.sz,a.dp)::b.sdo) by simp,List.getElem?_append_right (by simp;omega)]
   grind
  rw[if_neg (by grind),e1];simp only[];rw[if_neg (by grind),if_neg (by grind),e3];simp only[];rw[if_pos ⟨by grind,h2,Int.le_refl _,.inl rfl,h3,h4,by grind,by grind⟩];simp[Ex.sdo,Nat.max_comm,Nat.add_comm,Nat.add_left_comm]
def flS:List Ex->Int->List X1
 |[],_=>[]
 |e::r,o=>e.fl o++flS r (o+e.sz)
def szS:List Ex->Nat
 |[]=>0
 |e::r=>e.sz+szS r
def sdS:List Ex->List (Nat×Nat)
 |[]=>[]
 |e::r=>e.sdo++sdS r
theorem Xgp (e:Ex):∀ (l:List Ex) (o:Int),flS (l++[e]) o=flS l o++e.fl (o+szS l)
 |[],o=>by simp[flS,szS]
 |a::l,o=>by simp[flS,szS,Xgp e l,List.append_assoc,Int.add_assoc]
theorem Xfy (e:Ex):∀ (l:List Ex),szS (l++[e])=szS l+e.sz
 |[]=>by simp[szS]
 |a::l=>by simp[szS,Xfy e l];omega
theorem X90 (e:Ex):∀ (l:List Ex),sdS (l++[e])=sdS l++e.sdo
 |[]=>by simp[sdS]
 |a::l=>by simp[sdS,X90 e l]
theorem Xka:∀ (l:List Ex),(sdS l).length=szS l
 |[]=>rfl
 |a::l=>by simp[sdS,szS,Xka l,a.sdo_len]
theorem Xnu {α:Type} {l:List α} (h:l≠[]):∃ r a,l=r++[a]:=⟨l.dropLast,l.getLast h,(List.dropLast_concat_getLast h).symm⟩
theorem Xwj {α:Type} {p:List α->Prop} (h0:p []) (h1:∀ l a,p l->p (l++[a])):∀ (n:Nat) (l:List α),l.length=n->p l
 |0,l,h=>by rw[List.length_eq_zero_iff.1 h];exact h0
 |n+1,l,h=>by
  obtain⟨r,a,rfl⟩:=Xnu (l:=l) (by intro h2;subst h2;cases h);exact h1 r a (Xwj h0 h1 n r (by simpa using h))
theorem Xuf (l:List X1):∀ sd,Xes l []=some sd->∃ st:List Ex,(∀ e∈st,e.ok)/\l=flS st 0/\sd=sdS st:=by
 refine Xwj (p:=λl=>∀ sd,Xes l []=some sd->∃ st:List Ex,(∀ e∈st,e.ok)/\l=flS st 0/\sd=sdS st) ?_ ?_ _ l rfl
 ·intro sd h;cases h;exact⟨[],by simp,rfl,rfl⟩
 ·intro l x ih sd h;rw[Xa6] at h
  cases hr:Xes l [] with
  |none=>grind
  |some sd0 =>
   obtain⟨st,h1,h2,h3⟩:=ih sd0 hr;rw[hr,Yo,Xjb] at h
   cases hq:nst sd0 x with
   |none=>grind
   |some q =>
    rw[hq] at h;cases h
    obtain⟨K,N,A,B,T⟩:=x;have hlen:sd0.length=szS st:=by rw[h3,Xka]
    unfold nst at hq;split at hq
    ·rename_i h4;split at hq
     ·rename_i ho;cases hq
      obtain⟨o1,o2,o3,o4,o5,o6,o7,o8⟩:=ho;simp only at o1 o2 o3 o4 o5 o6 o7 o8 h4;subst o7 o8;refine⟨st++[.leaf K N T],?_,?_,?_⟩
      ·intro e he;rcases List.mem_append.1 he with he|he
       ·exact h1 e he
       ·rw[List.mem_singleton.1 he];trivial
      ·rw[Xgp,h2];rfl
      ·rw[X90,h3];rfl
     ·cases hq
    ·rename_i h4;simp only at h4;split at hq
     ·cases hq
     ·rename_i s2 d2 hg;have hne:st≠[]:=by
       intro h0;subst h0;rw[h3] at hg;cases hg
      obtain⟨st1,b,rfl⟩:=Xnu hne;obtain⟨lb,hlb,hlbn⟩:=b.sdo_last;rw[Xfy] at hlen;have hg2:(s2,d2)=(b.sz,b.dp):=by
       rw[h3,X90,hlb,<-List.append_assoc,List.getLast?_concat] at hg;exact(Option.some.inj hg).symm
      cases hg2
      split at hq
      ·rename_i h6;simp only at h6;split at hq
       ·rename_i ho;cases hq
        obtain⟨o1,o2,o3,o4,o5,o6,o7,o8⟩:=ho;simp only at o1 o2 o3 o4 o5 o6 o7 o8;have hn:N=0:=by omega
        subst hn o8;refine⟨st1++[.un K T b],?_,?_,?_⟩
        ·intro e he;rcases List.mem_append.1 he with he|he
         ·exact h1 e (List.mem_append_left _ he)
         ·rw[List.mem_singleton.1 he];exact⟨by omega,h6,o5,o6,h1 b (by simp)⟩
        ·rw[Xgp,h2,Xgp,Ex.fl,List.append_assoc];congr 3
         rw[o7,hlen];congr 1;omega
        ·rw[X90,h3,X90,Ex.sdo];simp[Nat.add_comm]
       ·cases hq
      ·rename_i h6;simp only at h6;split at hq
       ·cases hq
       ·rename_i hlt;split at hq
        ·cases hq
        ·rename_i s1 d1 hg1;have hne1:st1≠[]:=by
          intro h0;subst h0;simp only[szS] at hlen
          grind
         obtain⟨st2,a,rfl⟩:=Xnu hne1;rw[Xfy] at hlen;obtain⟨la,hla,hlan⟩:=a.sdo_last;have hg3:(s1,d1)=(a.sz,a.dp):=by
          rw[hlen,h3,X90,X90,hla,show sdS st2++(la++[(a.sz,a.dp)])++b.sdo=(sdS st2++la)++((a.sz,a.dp)::b.sdo) by simp,
           List.getElem?_append_right (by simp[Xka];omega),show szS st2+a.sz+b.sz - 1 - b.sz - (sdS st2++la).length=0 by simp[Xka];omega] at hg1
          grind
         cases hg3
         split at hq
         ·rename_i ho;cases hq
          obtain⟨o1,o2,o3,o4,o5,o6,o7,o8⟩:=ho;simp only at o1 o2 o3 o4 o5 o6 o7 o8;have hn:N=0:=by omega
          subst hn;refine⟨st2++[.bin K T a b],?_,?_,?_⟩
          ·intro e he;rcases List.mem_append.1 he with he|he
           ·grind
           ·rw[List.mem_singleton.1 he];exact⟨by omega,o2,o5,o6,h1 a (by simp),h1 b (by simp)⟩
          ·grind [Xgp,Ex.fl,Xfy,List.append_assoc]
          grind [X90,Ex.sdo,List.append_assoc,Prod.mk.injEq]
         ·cases hq
theorem Xx7 {l:List X1} (h:nchk l=0):∃ e:Ex,e.ok/\e.sz<=60/\e.dp<=20/\l=e.fl 0/\Xes l []=some e.sdo:=by
 unfold nchk at h;split at h
 ·cases h
 ·rename_i h60;split at h
  ·cases h
  ·rename_i sd hr;obtain⟨st,h1,h2,h3⟩:=Xuf l sd hr;split at h
   ·cases h
   ·rename_i q hq;have hne:st≠[]:=by
     intro h0;subst h0;rw[h3] at hq;cases hq
    obtain⟨st1,b,rfl⟩:=Xnu hne;obtain⟨lb,hlb,hlbn⟩:=b.sdo_last;have hg:q=(b.sz,b.dp):=by
     grind [X90,List.append_assoc,List.getLast?_concat,Option.some.inj]
    subst hg;have hn:=Xgc l [] sd hr;rw[h3,Xka,Xfy] at hn;simp only[List.length_nil,Nat.zero_add] at hn;split at h
    ·rename_i hs;simp only at hs;have hs1:st1=[]:=by
      cases st1 with
      |nil=>rfl
      |cons a r=>exfalso;have:=a.sz_pos;simp only[szS] at hn;omega
     subst hs1;split at h
     ·cases h
     ·rename_i hd;simp only at hd;refine⟨b,h1 b (by simp),by omega,by omega,?_,?_⟩
      ·rw[h2];simp[flS]
      ·rw[hr,h3];simp[sdS]
    ·cases h
theorem X85 {e:Ex} (h:e.ok) (hs:e.sz<=60) (hd:e.dp<=20):nchk (e.fl 0)=0/\Xes (e.fl 0) []=some e.sdo:=by
 have hr:=X06i e [] 0 rfl h;rw[List.nil_append] at hr;refine⟨?_,hr⟩;obtain⟨l,hl,_⟩:=e.sdo_last;unfold nchk;rw[if_neg (by rw[e.fl_len];omega),hr];simp only[];rw[hl,List.getLast?_concat];simp only[];rw[if_pos (by rw[e.fl_len]),if_neg om]
end Go.D


namespace Go.D
theorem X0gh (a:Int):0<=bits .and .i64 a 63:=by
 unfold bits;simp only;have h:((BitVec.ofInt IntKind.i64.bits a) &&& (BitVec.ofInt IntKind.i64.bits 63)).toNat<=63:=by
  rw[BitVec.toNat_and];exact Nat.le_trans Nat.and_le_right (by decide)
 rw[X0q om om];omega
theorem Xnr (b:Bool):X3g b=some (if b then 1 else 0):=by cases b<;>rfl
theorem Xn3 {K a b:Int} (h1:5<=K) (h2:K<=19):∃ v,Xcg K a b=some (v,0):=by
 have hs:shOk (bits .and .i64 b 63)=some ():=by unfold shOk;rw[if_pos (X0gh b)]
 unfold Xcg;simp only[Xnr,hs,Yo];rcases(by omega:K=5\/K=6\/K=7\/K=8\/K=9\/K=10\/K=11\/K=12\/K=13\/K=14\/K=15\/K=16\/K=17\/K=18\/K=19) with h|h|h|h|h|h|h|h|h|h|h|h|h|h|h<;>subst h<;>exact⟨_,rfl⟩
def i64 (z:Int):Prop := -9223372036854775808<=z/\z<=9223372036854775807
theorem Xe9 (z:Int):i64 (IntKind.i64.wrap z):=by rw[Xnk];unfold i64;omega
theorem X0bh {z:Int} (h:i64 z):IntKind.i64.wrap z=z:=X0q h.1 h.2
theorem Xgj (b:Bool):i64 (if b then 1 else 0):=by unfold i64;cases b<;>simp
theorem Xp7 (a:Int):(BitVec.ofInt 64 a).toNat=(a % 18446744073709551616).toNat:=by
 rw[BitVec.toNat_ofInt];rfl
theorem X0cj (a:Int):bits .and .i64 a 63=a % 64:=by
 unfold bits;simp only;have h1:((BitVec.ofInt IntKind.i64.bits a) &&& (BitVec.ofInt IntKind.i64.bits 63)).toNat=(a % 64).toNat:=by
  show((BitVec.ofInt 64 a) &&& (BitVec.ofInt 64 63)).toNat=_;rw[BitVec.toNat_and,Xp7,show(BitVec.ofInt 64 63).toNat=2 ^ 6 - 1 by decide,Nat.and_two_pow_sub_one_eq_mod];omega
 rw[h1,X0q om om];omega
theorem Xp6 (a:Int):Xc8 a=some (a % 64):=by
 unfold Xc8;have h:IntKind.u64.wrap a=a % 18446744073709551616:=by
  simp only[IntKind.wrap,IntKind.bits,IntKind.signed];simp
 have h0:(0:Int)<=a % 18446744073709551616:=by omega
 rw[h,Int.tmod_eq_emod_of_nonneg h0,X0q om om];congr 1;omega
theorem X0e4 {a b:Int} (ha:i64 a) (hb:i64 b):(bits .or .i64 a b != 0)=(bif (a != 0) then true else (b != 0)):=by
 unfold bits;simp only;have key:((BitVec.ofInt IntKind.i64.bits a) ||| (BitVec.ofInt IntKind.i64.bits b)).toNat=0↔a=0/\b=0:=by
  show((BitVec.ofInt 64 a) ||| (BitVec.ofInt 64 b)).toNat=0↔_;rw[BitVec.toNat_or,Nat.or_eq_zero_iff,Xp7,Xp7];unfold i64 at ha hb;omega
 have hlt:((BitVec.ofInt IntKind.i64.bits a) ||| (BitVec.ofInt IntKind.i64.bits b)).toNat<18446744073709551616:=BitVec.isLt _;generalize ((BitVec.ofInt IntKind.i64.bits a) ||| (BitVec.ofInt IntKind.i64.bits b)).toNat=n at key hlt;have hw:IntKind.i64.wrap (n:Int)=0↔n=0:=by rw[Xnk];omega
 by_cases h0:n=0
 ·obtain⟨rfl,rfl⟩:=key.1 h0;subst h0;simp[show IntKind.i64.wrap (0:Int)=0 from rfl]
 ·have h1:¬ (a=0/\b=0):=λh=>h0 (key.2 h);have h2:IntKind.i64.wrap (n:Int)≠0:=λh=>h0 (hw.1 h);rw[show(IntKind.i64.wrap (n:Int) != 0)=true by simpa using h2];by_cases ha0:a=0
  ·have:b≠0:=λhb0=>h1 ⟨ha0,hb0⟩;simp[ha0,this]
  ·simp[ha0]
theorem X07h {a:Int} (h:i64 a):Xha a=some (a.fdiv 2):=by
 unfold Xha;unfold i64 at h;have hf:a.fdiv 2=a / 2:=Int.fdiv_eq_ediv_of_nonneg _ om;have e:=Int.tdiv_eq_ediv (a:=a) (b:=2);rw[show Int.sign 2=1 from rfl] at e;have e0:=Int.tmod_add_mul_tdiv a 2;by_cases hn:a.tmod 2<0
 ·rw[Yt hn,cond_true];have h2:a.tdiv 2=a / 2+1:=by split at e<;>omega
  rw[hf,h2,X0q (z:=a / 2+1) om om,X0q om om];congr 1;omega
 ·rw[Yf hn,cond_false];have h2:a.tdiv 2=a / 2:=by split at e<;>omega
  rw[hf,h2,X0q om om]
theorem X02e {a:Int} (h:i64 a):i64 (a.fdiv 2):=by
 rw[Int.fdiv_eq_ediv_of_nonneg _ om];unfold i64 at *;omega
theorem X01f (c:Int) (hc:c<64):∀ (m n i:Nat) (y:Int),m=(c - (i:Int)).toNat->m<n->(i:Int)<=c->X4x c n y (i:Int)=some (.x0 (IntKind.i64.wrap (y*2 ^ m)))\/(m=0/\X4x c n y (i:Int)=some (.x0 y)):=by
 intro m
 induction m with
 |zero =>
  intro n i y hm hn hi;obtain⟨n,rfl⟩:∃ q,n=q+1:=⟨n - 1,by omega⟩;right;refine⟨rfl,?_⟩;rw[X4x,Yf om];rfl
 |succ m ih =>
  intro n i y hm hn hi;obtain⟨n,rfl⟩:∃ q,n=q+1:=⟨n - 1,by omega⟩;left;rw[X4x,Yt om,cond_true];have e:IntKind.i64.wrap ((i:Int)+1)=((i+1:Nat):Int):=by rw[X0q om om];omega
  rw[e];have hw:IntKind.i64.wrap (IntKind.i64.wrap (y+y)*2 ^ m)=IntKind.i64.wrap (y*2 ^ (m+1)):=by
   rw[Int.pow_succ];have:y*(2 ^ m*2)=(y+y)*2 ^ m:=by rw[Int.add_mul,<-Int.mul_assoc,Int.mul_comm (y*2 ^ m) 2];omega
   rw[this];generalize y+y=z;generalize (2:Int) ^ m=q;simp only[Xnk];have h1:∃ k:Int,(z+9223372036854775808) % 18446744073709551616 - 9223372036854775808=z+18446744073709551616*k:=⟨-((z+9223372036854775808) / 18446744073709551616),by omega⟩;obtain⟨k,hk⟩:=h1;rw[hk,Int.add_mul,Int.mul_assoc];generalize k*q=j;omega
  rcases ih n (i+1) (IntKind.i64.wrap (y+y)) om om om with h|⟨h0,h⟩
  ·rw[h,hw]
  ·subst h0;rw[h,<-hw];simp only[Int.pow_zero,Int.mul_one];rw[X0bh (Xe9 _)]
theorem X01e {c:Int} (h0:0<=c) (hc:c<64):∃ v,Xc7 c=some v/\∀ a,IntKind.i64.wrap (a*v)=IntKind.i64.wrap (a*2 ^ c.toNat):=by
 unfold Xc7;rcases X01f c hc c.toNat FU 0 1 om (by unfold FU;omega) om with h|⟨hz,h⟩
 ·refine⟨_,by rw[show(0:Int)=((0:Nat):Int) from rfl,h];rfl,λa=>?_⟩;rw[Int.one_mul];generalize (2:Int) ^ c.toNat=z;simp only[Xnk];have h1:∃ k:Int,(z+9223372036854775808) % 18446744073709551616 - 9223372036854775808=z+18446744073709551616*k:=⟨-((z+9223372036854775808) / 18446744073709551616),by omega⟩;obtain⟨k,hk⟩:=h1;rw[hk,Int.mul_add,Int.mul_left_comm];generalize a*k=j;omega
 ·refine⟨1,by rw[show(0:Int)=((0:Nat):Int) from rfl,h];rfl,λa=>?_⟩;rw[hz];simp
theorem X02k (b:Int) (c:Int) (hb:b % 64=c):∀ (m n i:Nat) (y:Int),m=(c - (i:Int)).toNat->m<n->(i:Int)<=c->i64 y->X4y b n y (i:Int)=some (.x0 (y.fdiv (2 ^ m)))/\i64 (y.fdiv (2 ^ m)):=by
 intro m
 induction m with
 |zero =>
  intro n i y hm hn hi hy;obtain⟨n,rfl⟩:∃ q,n=q+1:=⟨n - 1,by omega⟩;have e:y.fdiv (2 ^ 0)=y:=by rw[Int.pow_zero,Int.fdiv_one]
  rw[e];refine⟨?_,hy⟩;rw[X4y,Xp6,Yo,Yf om];rfl
 |succ m ih =>
  intro n i y hm hn hi hy;obtain⟨n,rfl⟩:∃ q,n=q+1:=⟨n - 1,by omega⟩;have e:IntKind.i64.wrap ((i:Int)+1)=((i+1:Nat):Int):=by rw[X0q om om];omega
  have e2:y.fdiv (2 ^ (m+1))=(y.fdiv 2).fdiv (2 ^ m):=by
   have hp:(0:Int)<=2 ^ m:=Int.pow_nonneg om;rw[Int.fdiv_eq_ediv_of_nonneg y (Int.pow_nonneg om),Int.fdiv_eq_ediv_of_nonneg (y.fdiv 2) hp,Int.fdiv_eq_ediv_of_nonneg y (show(0:Int)<=2 by omega),Int.pow_succ,Int.mul_comm,Int.ediv_ediv_of_nonneg om]
  obtain⟨g1,g2⟩:=ih n (i+1) (y.fdiv 2) om om om (X02e hy);rw[e2];refine⟨?_,g2⟩;rw[X4y,Xp6,Yo,Yt om,cond_true,X07h hy,Yo,e,g1]
theorem Xvz (b:Bool):Xa4 b=some (if b then 1 else 0):=by cases b<;>rfl
theorem Xjg {K a b:Int} (h1:5<=K) (h2:K<=19) (ha:i64 a) (hb:i64 b):∃ v,Xcg K a b=some (v,0)/\X55 K a b=some v/\i64 v:=by
 have hs:shOk (b % 64)=some ():=by unfold shOk;rw[if_pos om]
 have hmin:min (Int.toNat (b % 64)) IntKind.i64.bits=(b % 64).toNat:=by
  show min (Int.toNat (b % 64)) 64=_;omega
 unfold Xcg X55 Xg7;simp only[Xnr,Xvz,hs,X0cj,Xp6,Yo,hmin];rcases(by omega:K=5\/K=6\/K=7\/K=8\/K=9\/K=10\/K=11\/K=12\/K=13\/K=14\/K=15\/K=16\/K=17\/K=18\/K=19) with h|h|h|h|h|h|h|h|h|h|h|h|h|h|h<;>subst h
 ·exact⟨_,rfl,rfl,Xe9 _⟩
 ·exact⟨_,rfl,rfl,Xgj _⟩
 ·exact⟨_,rfl,rfl,Xe9 _⟩
 ·exact⟨_,rfl,rfl,Xe9 _⟩
 ·exact⟨_,rfl,rfl,Xe9 _⟩
 ·obtain⟨v,hv,hw⟩:=X01e (c:=b % 64) om om;refine⟨_,rfl,?_,Xe9 _⟩;show(Xc7 (b % 64)).bind (λv11=>some (IntKind.i64.wrap (a*v11)))=_;rw[hv,Yo,hw]
 ·obtain⟨g1,g2⟩:=X02k b (b % 64) rfl (b % 64).toNat FU 0 a om (by unfold FU;omega) om ha;refine⟨_,rfl,?_,g2⟩;show(X4y b FU a ((0:Nat):Int)).bind _=_;rw[g1];rfl
 ·exact⟨_,rfl,rfl,Xgj _⟩
 ·refine⟨_,rfl,?_,Xgj _⟩;show some (if (bif decide (a<b) then true else a==b)=true then (1:Int) else 0)=_;congr 2
  by_cases h:a<b
  ·simp[h];omega
  ·by_cases h3:a=b
   ·simp[h3]
   ·simp[h,h3];omega
 ·exact⟨_,rfl,rfl,Xgj _⟩
 ·refine⟨_,rfl,?_,Xgj _⟩;show some (if (bif decide (b<a) then true else a==b)=true then (1:Int) else 0)=_;congr 2
  by_cases h:b<a
  ·simp[h];omega
  ·by_cases h3:a=b
   ·simp[h3]
   ·simp[h,h3];omega
 ·exact⟨_,rfl,rfl,Xgj _⟩
 ·exact⟨_,rfl,rfl,Xgj _⟩
 ·exact⟨_,rfl,rfl,Xgj _⟩
 ·refine⟨_,rfl,?_,Xgj _⟩;rw[X0e4 ha hb];rfl
end Go.D


namespace Go.D
theorem Xtk {l:List X1} (env:V5 Int) (ho:∀ j x,l[j]?=some x->Xgs x j):∀ (xs:List X1) (k:Nat) (vs:List Int),l.drop k=xs->vs.length=l.length->∃ vs',X24 env l xs k vs=some (.x0 vs')/\vs'.length=l.length
 |[],k,vs,_,hv=>⟨vs,rfl,hv⟩
 |x::xs,k,vs,h,hv=>by
  have hk:l[k]?=some x:=by
   have:(l.drop k)[0]?=some x:=by rw[h];rfl
   simpa using this
  have hd:l.drop (k+1)=xs:=by
   have:(l.drop k).drop 1=xs:=by rw[h];rfl
   rw[List.drop_drop] at this;exact this
  have hlt:=(Ys.1 hk).1;have hx:=ho k x hk;have hg:getI vs (k:Int)=some (vs[k]' om):=by rw[X30];exact Ye _
  have go:∀ z,∃ vs',X24 env l xs (k+1) (vs.set (Int.toNat (k:Int)) z)=some (.x0 vs')/\vs'.length=l.length:=λz=>Xtk env ho xs (k+1) _ hd (by rw[List.length_set];exact hv);rw[X24];have h1:=hx.lo;have h2:=hx.hi;by_cases k1:x.Kind=1
  ·rw[show(x.Kind==1)=true by simp[k1],cond_true,hg,Yo];exact go _
  ·rw[show(x.Kind==1)=false by simp[k1],cond_false];by_cases k4:x.Kind<=4
   ·rw[Yt k4,cond_true,show(x.Kind==0)=false by simp;omega,hg];simp only[Yo,cond_false];rcases(by omega:x.Kind=2\/x.Kind=3\/x.Kind=4) with h|h|h
    ·rw[h];exact go _
    ·rw[h];exact go _
    ·rw[h];exact go _
   ·rw[Yf k4,cond_false];have hA:=hx.ak om;have hB:=hx.bk om;obtain⟨a,ha,_⟩:=Xdh (l:=vs) hx.a0 om;obtain⟨b,hb,_⟩:=Xdh (l:=vs) hx.b0 om;obtain⟨v,hdo⟩:=Xn3 (K:=x.Kind) (a:=a) (b:=b) om h2;rw[ha,Yo,hb,Yo,hdo,hg];exact go _
def evV (l:List X1) (r:X04):Int:=match X9a l r with|some v=>v.1|none=>0
theorem Xs6 {l:List X1} (h0:∀ x∈l,0<=x.Kind) (h:(kOf l).2.2=0) (r:X04):X9a l r=some (evV l r,0):=by
 have hz:nchk l=0:=by
  by_cases hz:nchk l=0
  ·exact hz
  ·unfold kOf at h;rw[if_pos hz] at h;exact h
 obtain⟨h60,h1,_⟩:=Xgd hz;have:∃ v,X9a l r=some (v,0):=by
  unfold X9a Xdq Xac;rw[Xa8 h0,Yo,Yo,h];have hm:mkOk (l.length:Int) (l.length:Int) 8=some ():=by unfold mkOk;rw[if_pos ⟨by omega,rfl,by omega⟩]
  rw[hm,X2z om];obtain⟨vs,hvs,hl⟩:=Xtk (V5.mk 0 0 r.Key r.Time r.Value) (X9j hz) l 0 (List.replicate (Int.toNat (l.length:Int)) 0) rfl (by simp);simp only[Yo];rw[hvs];simp only[bne_self_eq_false,cond_false,Yo];rw[hl,X0q om om];obtain⟨v,hv,_⟩:=Xdh (l:=vs) (i:=(l.length:Int) - 1) om om;exact⟨v,by rw[hv];rfl⟩
 obtain⟨v,hv⟩:=this;unfold evV;rw[hv]
def Xfi (l:List X1) (r:X04) (j:Nat):Int:=(X15 (j+1) l (j:Int) r).getD 0
theorem Xnp {l:List X1} {r:X04} (ho:∀ j x,l[j]?=some x->Xgs x j) (hN:∀ x∈l,i64 x.N) (hr:i64 r.Key/\i64 r.Time/\i64 r.Value):∀ (b j:Nat),j<b->j<l.length->∀ n,j<n->X15 n l (j:Int) r=some (Xfi l r j)/\i64 (Xfi l r j):=by
 intro b
 induction b with
 |zero=>intro j h;omega
 |succ b ih =>
  intro j _ hj;have main:∃ v,i64 v/\∀ n,j<n->X15 n l (j:Int) r=some v:=by
   have hx:=ho j l[j] (Ye hj);have hg:getI l (j:Int)=some l[j]:=by rw[X30];exact Ye hj
   generalize hxe:l[j]=x at hx hg;have hmem:x∈l:=by rw[<-hxe];exact List.getElem_mem hj
   by_cases k4:x.Kind<=4
   ·have lo:=hx.lo;rcases(by omega:x.Kind=1\/x.Kind=2\/x.Kind=3\/x.Kind=4) with h|h|h|h
    ·refine⟨x.N,hN x hmem,λn hn=>?_⟩;obtain⟨n,rfl⟩:∃ q,n=q+1:=⟨n - 1,by omega⟩;rw[X15,hg,Yo,h];rfl
    ·refine⟨r.Key,hr.1,λn hn=>?_⟩;obtain⟨n,rfl⟩:∃ q,n=q+1:=⟨n - 1,by omega⟩;rw[X15,hg,Yo,h];rfl
    ·refine⟨r.Time,hr.2.1,λn hn=>?_⟩;obtain⟨n,rfl⟩:∃ q,n=q+1:=⟨n - 1,by omega⟩;rw[X15,hg,Yo,h];rfl
    ·refine⟨r.Value,hr.2.2,λn hn=>?_⟩;obtain⟨n,rfl⟩:∃ q,n=q+1:=⟨n - 1,by omega⟩;rw[X15,hg,Yo,h];rfl
   ·have hi:=hx.hi;have hA:=hx.ak om;have hB:=hx.bk om;have hA0:=hx.a0;have hB0:=hx.b0;have eA:x.A=((x.A.toNat:Nat):Int):=by omega
    have eB:x.B=((x.B.toNat:Nat):Int):=by omega
    have gA:=ih x.A.toNat om om;have gB:=ih x.B.toNat om om;have e1:(x.Kind==1)=false:=by simp;omega
    have e2:(x.Kind==2)=false:=by simp;omega
    have e3:(x.Kind==3)=false:=by simp;omega
    have e4:(x.Kind==4)=false:=by simp;omega
    have body:∀ n:Nat,j<n+1->X15 (n+1) l (j:Int) r=(X1w x.Kind).bind λv7=>(bif (v7==(2:Int)) then ((X15 n l x.B r).bind λv14=>some v14) else (some 0):Option (Int)).bind λj12=>(X15 n l x.A r).bind λv17=>(X55 x.Kind v17 j12).bind λv19=>some v19:=by
     intro n _;rw[X15,hg,Yo,e1,e2,e3,e4];rfl
    by_cases k6:x.Kind<=6
    ·obtain⟨v,_,hv,hv2⟩:=Xjg (K:=x.Kind) (b:=0) om hi (gA (x.A.toNat+1) om).2 (by unfold i64;omega);refine⟨v,hv2,λn hn=>?_⟩;obtain⟨n,rfl⟩:∃ q,n=q+1:=⟨n - 1,by omega⟩;rw[body n hn,show X1w x.Kind=some 1 by unfold X1w;rw[Yf om,Yt k6];rfl,Yo];show(X15 n l x.A r).bind _=_;rw[eA,(gA n om).1,Yo,hv];rfl
    ·obtain⟨v,_,hv,hv2⟩:=Xjg (K:=x.Kind) om hi (gA (x.A.toNat+1) om).2 (gB (x.B.toNat+1) om).2;refine⟨v,hv2,λn hn=>?_⟩;obtain⟨n,rfl⟩:∃ q,n=q+1:=⟨n - 1,by omega⟩;rw[body n hn,show X1w x.Kind=some 2 by unfold X1w;rw[Yf om,Yf k6];rfl,Yo];show((X15 n l x.B r).bind λv14=>some v14).bind _=_;rw[eB,(gB n om).1,Yo,Yo,eA,(gA n om).1,Yo,hv];rfl
  obtain⟨v,hv,hn⟩:=main;have:Xfi l r j=v:=by unfold Xfi;rw[hn (j+1) om];rfl
  intro n hjn;rw[this];exact⟨hn n hjn,hv⟩
theorem Xtj {l:List X1} {r:X04} (ho:∀ j x,l[j]?=some x->Xgs x j) (hN:∀ x∈l,i64 x.N) (hr:i64 r.Key/\i64 r.Time/\i64 r.Value):∀ (xs:List X1) (k:Nat) (vs:List Int),l.drop k=xs->vs.length=l.length->(∀ j,j<k->vs[j]?=some (Xfi l r j))->∃ vs',X24 (V5.mk 0 0 r.Key r.Time r.Value) l xs k vs=some (.x0 vs')/\vs'.length=l.length/\(∀ j,j<l.length->vs'[j]?=some (Xfi l r j))
 |[],k,vs,h,hv,hk=>⟨vs,rfl,hv,λj hj=>hk j (by have:=Go.Av.drop_nil h;omega)⟩
 |x::xs,k,vs,h,hv,hk=>by
  obtain⟨hlt,hkx,hd⟩:=Go.Av.drop_cons h;have hx:=ho k x hkx;have hg:getI vs (k:Int)=some (vs[k]' om):=by rw[X30];exact Ye _
  have hmem:x∈l:=Yg hkx;have hgl:getI l (k:Int)=some x:=by rw[X30];exact hkx
  have go:∀ z,z=Xfi l r k->∃ vs',X24 (V5.mk 0 0 r.Key r.Time r.Value) l xs (k+1) (vs.set (Int.toNat (k:Int)) z)=some (.x0 vs')/\vs'.length=l.length/\(∀ j,j<l.length->vs'[j]?=some (Xfi l r j)):=by
   intro z hz;refine Xtj ho hN hr xs (k+1) _ hd (by rw[List.length_set];exact hv) λj hj=>?_;rw[Int.toNat_natCast];by_cases hjk:j=k
   ·subst hjk;rw[List.getElem?_set_self om,hz]
   ·rw[List.getElem?_set_ne om];exact hk j om
  have hval:∀ n,k<n->X15 n l (k:Int) r=some (Xfi l r k):=λn hn=>(Xnp ho hN hr (k+1) k om hlt n hn).1;have hone:=hval (k+1) om;rw[X15,hgl,Yo] at hone;rw[X24];have h1:=hx.lo;have h2:=hx.hi;by_cases k1:x.Kind=1
  ·rw[show(x.Kind==1)=true by simp[k1],cond_true,hg,Yo];rw[k1] at hone;exact go _ (Option.some.inj hone)
  ·rw[show(x.Kind==1)=false by simp[k1],cond_false];by_cases k4:x.Kind<=4
   ·rw[Yt k4,cond_true,show(x.Kind==0)=false by simp;omega,hg];simp only[Yo,cond_false];rcases(by omega:x.Kind=2\/x.Kind=3\/x.Kind=4) with h|h|h
    ·rw[h] at hone ⊢;exact go _ (Option.some.inj hone)
    ·rw[h] at hone ⊢;exact go _ (Option.some.inj hone)
    ·rw[h] at hone ⊢;exact go _ (Option.some.inj hone)
   ·rw[Yf k4,cond_false];have hA:=hx.ak om;have hB:=hx.bk om;have hA0:=hx.a0;have hB0:=hx.b0;have eA:x.A=((x.A.toNat:Nat):Int):=by omega
    have eB:x.B=((x.B.toNat:Nat):Int):=by omega
    have gA:=Xnp ho hN hr k x.A.toNat om om k om;have gB:=Xnp ho hN hr k x.B.toNat om om k om;have ga:getI vs x.A=some (Xfi l r x.A.toNat):=by rw[eA,X30];exact hk _ om
    have gb:getI vs x.B=some (Xfi l r x.B.toNat):=by rw[eB,X30];exact hk _ om
    obtain⟨v,hdo,hgv,_⟩:=Xjg (K:=x.Kind) om h2 gA.2 gB.2;have e1:(x.Kind==1)=false:=by simp;omega
    have e2:(x.Kind==2)=false:=by simp;omega
    have e3:(x.Kind==3)=false:=by simp;omega
    have e4:(x.Kind==4)=false:=by simp;omega
    rw[e1,e2,e3,e4] at hone;simp only[cond_false] at hone;have hz:v=Xfi l r k:=by
     rw[eA,gA.1] at hone;by_cases k6:x.Kind<=6
     ·rw[show X1w x.Kind=some 1 by unfold X1w;rw[Yf om,Yt k6];rfl] at hone;have h56:∀ q,X55 x.Kind (Xfi l r x.A.toNat) q=X55 x.Kind (Xfi l r x.A.toNat) 0:=by
       intro q;unfold X55;rcases(by omega:x.Kind=5\/x.Kind=6) with h|h<;>rw[h]<;>rfl
      rw[h56] at hgv;simp only[Yo,show((1:Int)==2)=false from rfl,cond_false,hgv] at hone;exact Option.some.inj hone
     ·rw[show X1w x.Kind=some 2 by unfold X1w;rw[Yf om,Yf k6];rfl,eB,gB.1] at hone;simp only[Yo,show((2:Int)==2)=true from rfl,cond_true,hgv] at hone;exact Option.some.inj hone
    rw[ga,Yo,gb,Yo,hdo,hg];exact go _ hz
end Go.D


namespace Go.D
inductive Sub (s:Ex):Nat->Ex->Prop
 |refl:Sub s 0 s
 |un {o:Nat} {k t:Int} {a:Ex} (h:Sub s o a):Sub s o (.un k t a)
 |l {o:Nat} {k t:Int} {a b:Ex} (h:Sub s o a):Sub s o (.bin k t a b)
 |r {o:Nat} {k t:Int} {a b:Ex} (h:Sub s o b):Sub s (a.sz+o) (.bin k t a b)
theorem Sub.fl {s e:Ex} {o:Nat} (h:Sub s o e):∀ base:Int,∃ P S,e.fl base=P++(s.fl (base+o)++S)/\P.length=o:=by
 induction h with
 |refl=>simp_all
 |un h ih=>intro base;obtain⟨P,S,h1,h2⟩:=ih base;grind [Ex.fl,List.append_assoc]
 |l h ih=>intro base;obtain⟨P,S,h1,h2⟩:=ih base;grind [Ex.fl,List.append_assoc]
 |@r o k t a b h ih =>
  intro base;obtain⟨P,S,h1,h2⟩:=ih (base+a.sz);refine⟨a.fl base++P,S++[⟨k,0,base+a.sz - 1,base+a.sz+b.sz - 1,t⟩],?_,by simp[a.fl_len,h2]⟩
  grind [Ex.fl,List.append_assoc]
theorem Sub.sdo {s e:Ex} {o:Nat} (h:Sub s o e):∃ P S,e.sdo=P++(s.sdo++S)/\P.length=o:=by
 induction h with
 |refl=>simp_all
 |un h ih=>grind [Ex.sdo,List.append_assoc]
 |l h ih=>grind [Ex.sdo,List.append_assoc]
 |@r o k t a b h ih =>
  obtain⟨P,S,h1,h2⟩:=ih;exact⟨a.sdo++P,S++[_],by rw[Ex.sdo,h1];simp only[List.append_assoc];rfl,by simp[a.sdo_len,h2]⟩
theorem Sub.le {s e:Ex} {o:Nat} (h:Sub s o e):o+s.sz<=e.sz:=by
 induction h with
 |refl=>omega
 |un h ih=>simp only[Ex.sz];omega
 |l h ih=>simp only[Ex.sz];omega
 |r h ih=>simp only[Ex.sz];omega
theorem Sub.dple {s e:Ex} {o:Nat} (h:Sub s o e):s.dp<=e.dp:=by
 induction h with
 |refl=>omega
 |un h ih=>simp only[Ex.dp];omega
 |l h ih=>simp only[Ex.dp];omega
 |r h ih=>simp only[Ex.dp];omega
theorem Sub.ok {s e:Ex} {o:Nat} (h:Sub s o e):e.ok->s.ok:=by
 induction h with
 |refl=>exact id
 |un h ih=>exact λg=>ih g.2.2.2.2
 |l h ih=>exact λg=>ih g.2.2.2.2.1
 |r h ih=>exact λg=>ih g.2.2.2.2.2
theorem Sub.trans {s m e:Ex} {o p:Nat} (h:Sub s o m) (g:Sub m p e):Sub s (p+o) e:=by
 induction g with
 |refl=>grind
 |un g ih=>exact .un ih
 |l g ih=>exact .l ih
 |r g ih=>rw[Nat.add_assoc];exact .r ih
theorem Sub.u {e a:Ex} {k t:Int} {o:Nat} (h:Sub (.un k t a) o e):Sub a o e:=(Sub.un Sub.refl).trans h
theorem Sub.a {e a b:Ex} {k t:Int} {o:Nat} (h:Sub (.bin k t a b) o e):Sub a o e:=(Sub.l Sub.refl).trans h
theorem Sub.b {e a b:Ex} {k t:Int} {o:Nat} (h:Sub (.bin k t a b) o e):Sub b (o+a.sz) e:=(Sub.r Sub.refl).trans h
theorem Sub.get {s e:Ex} {o:Nat} (h:Sub s o e):(e.fl 0)[o+s.sz - 1]?=some (s.rt o):=by
 obtain⟨P,S,h1,h2⟩:=h.fl 0;obtain⟨l,h3,h4⟩:=s.fl_last (0+(o:Int))
 grind
theorem Sub.getI {s e:Ex} {o:Nat} (h:Sub s o e) {i:Int} (hi:i=(o:Int)+s.sz - 1):getI (e.fl 0) i=some (s.rt o):=by
 have:=s.sz_pos;rw[hi,show(o:Int)+s.sz - 1=((o+s.sz - 1:Nat):Int) by omega,X30];exact h.get
theorem Sub.sd {s e:Ex} {o:Nat} (h:Sub s o e):e.sdo[o+s.sz - 1]?=some (s.sz,s.dp):=by
 obtain⟨P,S,h1,h2⟩:=h.sdo;obtain⟨l,h3,h4⟩:=s.sdo_last
 grind
theorem Sub.kindAt {s e:Ex} {o:Nat} (h:Sub s o e) {i:Int} (hi:i=(o:Int)+s.sz - 1):kindAt (e.fl 0) i=s.kd:=by
 unfold Go.D.kindAt;rw[h.getI hi];exact s.rt_kd _
def Ex.ty:Ex->Bool
 |.leaf ..=>true
 |.un k _ a=>a.ty&&(if k=5 then !(giv a.kd) else giv a.kd)
 |.bin k _ a b=>(a.ty&&b.ty)&&(if k<=15 then !(giv a.kd)&&!(giv b.kd) else if k<=17 then giv a.kd==giv b.kd else giv a.kd&&giv b.kd)
theorem Xoy {e:Ex} (s:Ex):∀ (o:Nat),Sub s o e->s.ok->((s.fl o).all (Xi6 (e.fl 0))=s.ty):=by
 induction s with
 |leaf k n t =>
  intro o h ⟨h1,h2,_⟩
  simp_all [Xi6,if_pos,Ex.fl,Ex.ty]
 |un k t a ih =>
  intro o h ⟨h1,h2,_,_,h5⟩;have hk:=h.u.kindAt (i:=(o:Int)+a.sz - 1) rfl;have:Xi6 (e.fl 0) ⟨k,0,(o:Int)+a.sz - 1,0,t⟩=(if k=5 then !(giv a.kd) else giv a.kd):=by
   unfold Xi6
   grind
  simp[Ex.fl,Ex.ty,this,ih o h.u h5]
 |bin k t a b iha ihb =>
  intro o h ⟨h1,h2,_,_,h5,h6⟩;have hk:=h.a.kindAt (i:=(o:Int)+a.sz - 1) rfl;have hb:=h.b.kindAt (i:=(o:Int)+a.sz+b.sz - 1) om;have:Xi6 (e.fl 0) ⟨k,0,(o:Int)+a.sz - 1,(o:Int)+a.sz+b.sz - 1,t⟩=(if k<=15 then !(giv a.kd)&&!(giv b.kd) else if k<=17 then giv a.kd==giv b.kd else giv a.kd&&giv b.kd):=by
   unfold Xi6
   grind
  have e2:=ihb (o+a.sz) h.b h6;rw[show((o+a.sz:Nat):Int)=(o:Int)+a.sz by omega] at e2;simp only[Ex.fl,Ex.ty,List.all_append,List.all_cons,List.all_nil,Bool.and_true,this,iha o h.a h5,e2,Bool.and_assoc]
theorem Xj5 (l:List X1):∀ (xs:List X1) (k:Nat),wrN l xs k=none↔xs.all (Xi6 l)=true
 |[],k=>by simp[wrN]
 |x::xs,k=>by
  unfold wrN
  cases h:Xi6 l x with
  |true=>rw[if_pos rfl,Xj5 l xs (k+1)];simp[h]
  |false=>simp[h]
structure Ex.fits (e:Ex):Prop where
 ok:e.ok
 sz:e.sz<=60
 dp:e.dp<=20
theorem Ex.fits.sub {e s:Ex} {o:Nat} (h:e.fits) (g:Sub s o e):s.fits:=⟨g.ok h.ok,by have:=g.le;have:=h.sz;omega,Nat.le_trans g.dple h.dp⟩
theorem X021 {e:Ex} (h:e.fits):(kOf (e.fl 0)).2.2=0↔e.ty=true:=by
 unfold kOf;rw[if_neg (by rw[(X85 h.ok h.sz h.dp).1];simp)];have hf:=Xoy e 0 (Sub.refl (s:=e)) h.ok;have hw:=Xj5 (e.fl 0) (e.fl 0) 0
 grind
theorem Xdf {e:Ex} (h:e.fits) (ht:e.ty=true):kOf (e.fl 0)=(giv e.kd,(e.sz:Int) - 1,0):=by
 unfold kOf;rw[if_neg (by rw[(X85 h.ok h.sz h.dp).1];simp)];have hf:=Xoy e 0 (Sub.refl (s:=e)) h.ok;have hw:=Xj5 (e.fl 0) (e.fl 0) 0;rw[show((0:Nat):Int)=0 from rfl] at hf;rw[hf] at hw;rw[hw.2 ht];simp only[];rw[e.fl_len,(Sub.refl (s:=e)).kindAt (by simp)]
theorem Sub.ty {s e:Ex} {o:Nat} (h:Sub s o e):e.ty=true->s.ty=true:=by
 induction h with
 |refl=>exact id
 |un h ih=>simp_all [Ex.ty,Bool.and_eq_true]
 |l h ih=>simp_all [Ex.ty,Bool.and_eq_true]
 |r h ih=>simp_all [Ex.ty,Bool.and_eq_true]
theorem X0b4 {l:List X1} (h:(kOf l).2.2=0):∃ e:Ex,e.fits/\e.ty=true/\l=e.fl 0:=by
 have hz:nchk l=0:=by
  by_cases hz:nchk l=0
  ·exact hz
  ·unfold kOf at h;grind
 obtain⟨e,h1,h2,h3,rfl,_⟩:=Xx7 hz;exact⟨e,⟨h1,h2,h3⟩,(X021 ⟨h1,h2,h3⟩).1 h,rfl⟩
theorem X02s {e:Ex} (h:e.ok):∀ o:Int,∀ x∈e.fl o,1<=x.Kind/\x.Kind<=19:=by
 induction e with
 |leaf k n t=>intro o x hx;rw[List.mem_singleton.1 hx];obtain⟨h1,h2,_⟩:=h;exact⟨h1,by show k<=19;omega⟩
 |un k t a ih =>
  intro o x hx;obtain⟨h1,h2,_,_,h5⟩:=h;rcases List.mem_append.1 hx with hx|hx
  ·exact ih h5 o x hx
  ·rw[List.mem_singleton.1 hx];exact⟨by show 1<=k;omega,by show k<=19;omega⟩
 |bin k t a b iha ihb =>
  intro o x hx;obtain⟨h1,h2,_,_,h5,h6⟩:=h;rcases List.mem_append.1 hx with hx|hx
  ·exact iha h5 o x hx
  ·rcases List.mem_append.1 hx with hx|hx
   ·exact ihb h6 _ x hx
   ·rw[List.mem_singleton.1 hx];exact⟨by show 1<=k;omega,by show k<=19;omega⟩
theorem Xqk {e:Ex} (h:e.ok) (o:Int):∀ x∈e.fl o,0<=x.Kind:=λx hx=>by have:=X02s h o x hx;omega
def Ex.cs:Ex->Bool
 |.leaf k _ _=>decide (k<=1)
 |.un _ _ a=>a.cs
 |.bin _ _ a b=>a.cs&&b.cs
def Xcx (x:X1):Bool:=decide (1<x.Kind)&&decide (x.Kind<5)
theorem Xzd {e:Ex} (h:e.ok):∀ o:Int,(e.fl o).any Xcx=!e.cs:=by
 induction e with
 |leaf k n t =>
  intro o;obtain⟨h1,h2,_⟩:=h;simp only[Ex.fl,Ex.cs,List.any_cons,List.any_nil,Bool.or_false,Xcx]
  grind
 |un k t a ih =>
  intro o;obtain⟨h1,h2,_,_,h5⟩:=h
  simp_all [Xcx,Yf,Bool.and_false,Ex.fl,Ex.cs]
 |bin k t a b iha ihb =>
  intro o;obtain⟨h1,h2,_,_,h5,h6⟩:=h;have:Xcx ⟨k,0,o+a.sz - 1,o+a.sz+b.sz - 1,t⟩=false:=by unfold Xcx;grind
  grind [Ex.fl,Ex.cs]
theorem Xqt {x:X1} {k:Nat} (h:Xgs x k):X2j x=some (Xcx x):=by
 have h1:=h.lo;have h2:=h.leaf;have h3:=h.nk
 grind [X2j,Xcx,Xau,X1.mk.injEq]
theorem Xlh (Y:List X1):∀ (xs:List X1) (k:Nat),(∀ x∈xs,X2j x=some (Xcx x))->(xs.any Xcx=true/\∃ j:Nat,X06 Y xs k=some (.x1 (j:Int)))\/(xs.any Xcx=false/\X06 Y xs k=some .x0)
 |[],k,h=>.inr ⟨rfl,rfl⟩
 |x::xs,k,h=>by
  unfold X06;rw[h x List.mem_cons_self,Yo]
  cases hf:Xcx x with
  |true=>grind
  |false =>
   rw[cond_false,List.any_cons,hf,Bool.false_or];exact Xlh Y xs (k+1) λy hy=>h y (List.mem_cons_of_mem _ hy)
theorem Xeo {e:Ex} (h:e.fits):X5a (e.fl 0)=some (e.cs,0):=by
 have hn:=X85 h.ok h.sz h.dp;have hl:(e.fl 0).length<=60:=by rw[e.fl_len];exact h.sz
 unfold X5a;rw[X5v (Xqk h.ok 0),hn.1,Yo];simp only[bne_self_eq_false,cond_false];unfold X0c X0k;rw[X2z om,Yo];have hk:∀ x∈e.fl 0,X2j x=some (Xcx x):=by
  intro x hx;obtain⟨j,hj⟩:=List.getElem?_of_mem hx;exact Xqt (X9j hn.1 j x hj)
 have ha:=Xzd h.ok 0
 grind [Xlh,Yt,Yf]
end Go.D


namespace Go.D
def mv (d:Int) (x:X1):X1 :=
 if x.Kind<=4 then x else if x.Kind<=6 then ⟨x.Kind,x.N,x.A+d,x.B,x.At⟩ else ⟨x.Kind,x.N,x.A+d,x.B+d,x.At⟩
theorem X0fv {e:Ex} (h:e.ok) (d:Int):∀ o:Int,(e.fl o).map (mv d)=e.fl (o+d):=by
 induction e with
 |leaf k n t=>intro o;obtain⟨h1,h2,_⟩:=h;simp[Ex.fl,mv,h2]
 |un k t a ih =>
  intro o;obtain⟨h1,h2,_,_,h5⟩:=h;have:mv d ⟨k,0,o+a.sz - 1,0,t⟩=⟨k,0,o+d+a.sz - 1,0,t⟩:=by
   unfold mv;grind
  grind [Ex.fl]
 |bin k t a b iha ihb =>
  intro o;obtain⟨h1,h2,_,_,h5,h6⟩:=h;have:mv d ⟨k,0,o+a.sz - 1,o+a.sz+b.sz - 1,t⟩=⟨k,0,o+d+a.sz - 1,o+d+a.sz+b.sz - 1,t⟩:=by
   unfold mv;grind
  grind [Ex.fl]
structure Near (x:X1):Prop where
 lo:1<=x.Kind
 hi:x.Kind<=19
 a : -1000000<=x.A/\x.A<=1000000
 b : -1000000<=x.B/\x.B<=1000000
theorem X07o {e:Ex} (h:e.ok):∀ o:Int,-100000<=o->o+e.sz<=100000->∀ x∈e.fl o,Near x:=by
 induction e with
 |leaf k n t=>intro o _ _ x hx;rw[List.mem_singleton.1 hx];obtain⟨h1,h2,_⟩:=h;exact⟨h1,by grind,⟨by grind,by grind⟩,⟨by show(-1000000:Int)<=0;omega,by show(0:Int)<=_;omega⟩⟩
 |un k t a ih =>
  intro o g1 g2 x hx;obtain⟨h1,h2,_,_,h5⟩:=h;simp only[Ex.sz] at g2;have hp:=a.sz_pos;generalize hz:(a.sz:Int)=z at g2;rcases List.mem_append.1 hx with hx|hx
  ·grind
  ·rw[List.mem_singleton.1 hx,hz];exact⟨by grind,by show k<=19;omega,⟨by grind,by grind⟩,⟨by show(-1000000:Int)<=0;omega,by show(0:Int)<=_;omega⟩⟩
 |bin k t a b iha ihb =>
  intro o g1 g2 x hx;obtain⟨h1,h2,_,_,h5,h6⟩:=h;simp only[Ex.sz] at g2;have hp:=a.sz_pos;have hq:=b.sz_pos;rcases List.mem_append.1 hx with hx|hx
  ·grind
  ·rcases List.mem_append.1 hx with hx|hx
   ·grind
   ·rw[List.mem_singleton.1 hx];generalize hz:(a.sz:Int)=z at g2;generalize hy:(b.sz:Int)=y at g2;exact⟨by show 1<=k;omega,by show k<=19;omega,⟨by show _<=o+z - 1;omega,by show o+z - 1<=_;omega⟩,⟨by grind,by grind⟩⟩
theorem Xos {α:Type} (P:List α) (x:α) (Q:List α):getI (P++x::Q) (P.length:Int)=some x:=by rw[X30];grind
theorem Xrn {α:Type} (P:List α) (x y:α) (Q:List α):(P++x::Q).set (Int.toNat (P.length:Int)) y=P++y::Q:=by
 simp_all
theorem Xt2 (d:Int) (hd : -1000000<=d/\d<=1000000):∀ (Q P:List X1) (n:Nat),Q.length<n->P.length+Q.length<=1000->(∀ x∈Q,Near x) ->
  X34 d ((P.length+Q.length:Nat):Int) n (P++Q) (P.length:Int)=some (.x0 (P++Q.map (mv d)))
 |[],P,n,hn,_,_=>by
  obtain⟨n,rfl⟩:∃ q,n=q+1:=⟨n - 1,by grind⟩
  simp_all [X34,Yf,cond_false]
 |x::Q,P,n,hn,hl,hx=>by
  simp only[List.length_cons] at hn hl;obtain⟨n,rfl⟩:∃ q,n=q+1:=⟨n - 1,by omega⟩;obtain⟨h1,h2,ha,hb⟩:=hx x List.mem_cons_self;have go:∀ y,y=mv d x->X34 d ((P.length+(x::Q).length:Nat):Int) n (P++y::Q) (IntKind.i64.wrap ((P.length:Int)+1))=some (.x0 (P++(x::Q).map (mv d))):=by
   intro y hy;have:=Xt2 d hd Q (P++[y]) n om (by simp;omega) λz hz=>hx z (List.mem_cons_of_mem _ hz)
   grind [List.length_append,List.length_singleton,List.append_assoc,List.singleton_append,X0q]
  rw[X34,Yt (by grind),cond_true,Xos,Yo,Xny om,if_pos ⟨h1,h2⟩,Yo];by_cases k4:x.Kind<=4
  ·rw[if_pos k4];exact go x (by unfold mv;rw[if_pos k4])
  ·rw[if_neg k4];by_cases k6:x.Kind<=6
   ·rw[if_pos k6];simp only[show decide ((1:Int)>0)=true from rfl,show decide ((1:Int)>1)=false from rfl,cond_true,cond_false,Yo];rw[Xrn,X0q (z:=x.A+d) om om];exact go _ (by unfold mv;grind)
   ·rw[if_neg k6];simp only[show decide ((2:Int)>0)=true from rfl,show decide ((2:Int)>1)=true from rfl,cond_true,Yo];rw[Xrn,Xos,Yo,Yo,Xrn,X0q (z:=x.A+d) om om,X0q (z:=x.B+d) om om];exact go _ (by unfold mv;grind)
theorem Xm4 {d:Int} (hd : -1000000<=d/\d<=1000000) {l:List X1} (hl:l.length<=900) (h:∀ x∈l,Near x):X68 l d=some (l.map (mv d)):=by
 have:=Xt2 d hd l [] FU (by unfold FU;omega) (by simp;omega) h;simp only[List.length_nil,Nat.zero_add,List.nil_append] at this;unfold X68;rw[X77 om];have e:((bif l.isEmpty then some l else (some ()).bind λ_=>some l):Option (List X1))=some l:=by cases l<;>rfl
 rw[e,Yo];rw[show((0:Nat):Int)=0 from rfl] at this;rw[this];rfl
theorem X5z {e:Ex} (h:e.fits) {o d:Int} (ho : -1000<=o/\o<=1000) (hd : -1000<=d/\d<=1000):X68 (e.fl o) d=some (e.fl (o+d)):=by
 have:=h.sz;rw[Xm4 om (by rw[e.fl_len];omega) (X07o h.ok o om om),X0fv h.ok]
theorem Xw6 {α:Type} (P Q S:List α):Xan (P++(Q++S)) (P.length:Int) ((P.length+Q.length:Nat):Int)=some Q:=by
 unfold Xan;rw[if_pos ⟨by omega,by omega,by rw[Int.toNat_natCast];simp⟩,Int.toNat_natCast,Int.toNat_natCast,List.drop_left,show P.length+Q.length - P.length=Q.length by omega,List.take_left]
theorem Xkr {e s:Ex} {o:Nat} (h:e.fits) (g:Sub s o e):Xbg (e.fl 0) ((o:Int)+s.sz - 1)=some ((s.sz:Int),0):=by
 obtain⟨h0,hr⟩:=X85 h.ok h.sz h.dp;obtain⟨t,ht,hs⟩:=Xet (Xqk h.ok 0);obtain⟨sd,hsd,rfl⟩:=hs h0;rw[hr] at hsd;cases hsd
 have hp:=s.sz_pos;have hle:=g.le;have hsz:=h.sz;unfold Xbg;rw[ht,h0];simp only[Yo,bne_self_eq_false,cond_false];rw[Xmu,e.sdo_len,Yf (show ¬ (o:Int)+s.sz - 1<0 by omega),Yf (show ¬ (o:Int)+s.sz - 1 >= (e.sz:Int) by omega)];simp only[cond_false,Yo];rw[show(o:Int)+s.sz - 1=((o+s.sz - 1:Nat):Int) by omega,Xmv g.sd];rfl
theorem Xks {e s:Ex} {o:Nat} (h:e.fits) (g:Sub s o e):Xbh (e.fl 0) ((o:Int)+s.sz - 1)=some (s.fl 0,0):=by
 have hp:=s.sz_pos;have hle:=g.le;have hsz:=h.sz;unfold Xbh;rw[Xkr h g];simp only[Yo,bne_self_eq_false,cond_false];obtain⟨P,S,h1,h2⟩:=g.fl 0;rw[X0q (z:=(o:Int)+s.sz - 1+1) om om,X0q (z:=(o:Int)+s.sz - 1+1 - s.sz) om om,X0q (z:=0 - _) om om];have:=Xw6 P (s.fl (0+(o:Int))) S;rw[<-h1,h2,s.fl_len] at this
 rw[show(o:Int)+s.sz - 1+1=((o+s.sz:Nat):Int) by omega,show((o+s.sz:Nat):Int) - (s.sz:Int)=(o:Int) by omega,this,Yo,
  X5z (h.sub g) om om,Yo,show 0+(o:Int)+(0 - (o:Int))=0 by omega]
theorem Xkt {K N T:Int} {c:Nat} {l:List (List X1)} {x:X1} {out:List X1} (hp:X2y K=some ((c:Int),0)) (hc:c=l.length) (hn:0<=N) (hk:N=0\/K=1) (h5:0<=T) (h6:T<=400) (hl:l.length<=100)
  (hL:X27 l l 0 ⟨K,N,0,0,T⟩ []=some (.x0 x out)) (ho:out.length<=1000) (hck:X28 (out++[x])=some 0):X36 K N T l=some (out++[x],0):=by
 subst hc;unfold X36;rw[hp,hL,X2z om];have e2:decide (N<0)=false:=Yf om;have e3:decide (T<0)=false:=Yf om;have e4:decide (T>400)=false:=Yf om;simp only[Yo,bne_self_eq_false,cond_false,e2,e3,e4];have fin:((X1o (out++[x]).length 40).bind λ_=>(X28 (out++[x])).bind λv=>bif v != 0 then some (([]:List X1),v) else some (out++[x],0))=some (out++[x],0):=by
  rw[X77 (by simp;omega),hck];rfl
 rw[fin];by_cases hd:N>0
 ·have hk1:K=1:=by omega
  rw[Yt hd,hk1];rfl
 ·rw[Yf hd];rfl
theorem Xc9 {k:Int} (h1:1<=k) (h2:k<=19):X2y k=some (if k<=4 then 0 else if k<=6 then 1 else 2,0):=by
 have:=Xny (x:=⟨k,0,0,0,0⟩) (by show 0<=k;omega);simp only at this;rw[this,if_pos ⟨h1,h2⟩]
theorem X9n {e:Ex} (h:e.fits):X28 (e.fl 0)=some 0:=by
 rw[X5v (Xqk h.ok 0),(X85 h.ok h.sz h.dp).1]
theorem X01o {k n t:Int} (h:(Ex.leaf k n t).fits):X36 k n t []=some ((Ex.leaf k n t).fl 0,0):=by
 obtain⟨h1,h2,h3,h4,h5,h6⟩:=h.ok;exact Xkt (c:=0) (l:=[]) (x:=⟨k,n,0,0,t⟩) (out:=[]) (by rw[Xc9 h1 om,if_pos h2];rfl) rfl h3 h4 h5 h6 (by simp) rfl (by simp) (X9n h)
theorem Xtn (e:Ex) (o:Int):(e.fl o).isEmpty=false:=by
 obtain⟨l,h,_⟩:=e.fl_last o;rw[h];cases l<;>rfl
theorem Xt1 {k t:Int} {a:Ex} (h:(Ex.un k t a).fits):X36 k 0 t [a.fl 0]=some ((Ex.un k t a).fl 0,0):=by
 obtain⟨h1,h2,h3,h4,h5⟩:=h.ok;have ha:=h.sub (Sub.un Sub.refl);have hp:=a.sz_pos;have hz:=ha.sz;have e:(Ex.un k t a).fl 0=a.fl 0++[⟨k,0,(a.sz:Int) - 1,0,t⟩]:=by rw[Ex.fl,Int.zero_add]
 rw[e];refine Xkt (c:=1) (l:=[a.fl 0]) (x:=⟨k,0,(a.sz:Int) - 1,0,t⟩) (out:=a.fl 0) (by rw[Xc9 (k:=k) om om,if_neg om,if_pos h2];rfl) rfl om (.inl rfl) h3 h4 (by simp) ?_ (by rw[a.fl_len];omega) ?_
 ·rw[X27,X9n ha,Yo];simp only[bne_self_eq_false,cond_false,List.nil_append];rw[X5z (o:=0) (d:=(([]:List X1).length:Int)) ha om (by simp),Yo,Xtn,cond_false,show(0:Int)+(([]:List X1).length:Int)=0 by simp,show X1o (a.fl 0).length 40=some () from X77 (by rw[a.fl_len];omega),Yo,a.fl_len,X0q (z:=(a.sz:Int) - 1) om om];rfl
 ·have:=X9n h;rw[e] at this;exact this
theorem Xt0 {k t:Int} {a b:Ex} (h:(Ex.bin k t a b).fits):X36 k 0 t [a.fl 0,b.fl 0]=some ((Ex.bin k t a b).fl 0,0):=by
 obtain⟨h1,h2,h3,h4,h5,h6⟩:=h.ok;have ha:=h.sub (Sub.l Sub.refl);have hb:=h.sub (Sub.r Sub.refl);have hp:=a.sz_pos;have hq:=b.sz_pos;have hz:=ha.sz;have hy:=hb.sz;have e:(Ex.bin k t a b).fl 0=a.fl 0++b.fl a.sz++[⟨k,0,(a.sz:Int) - 1,(a.sz:Int)+b.sz - 1,t⟩]:=by rw[Ex.fl,Int.zero_add,List.append_assoc]
 rw[e];refine Xkt (c:=2) (l:=[a.fl 0,b.fl 0]) (x:=⟨k,0,(a.sz:Int) - 1,(a.sz:Int)+b.sz - 1,t⟩) (out:=a.fl 0++b.fl a.sz) (by rw[Xc9 (k:=k) om om,if_neg om,if_neg om];rfl) rfl om (.inl rfl) h3 h4 (by simp) ?_ (by rw[List.length_append,a.fl_len,b.fl_len];omega) ?_
 ·rw[X27,X9n ha,Yo];simp only[bne_self_eq_false,cond_false,List.nil_append];rw[X5z (o:=0) (d:=(([]:List X1).length:Int)) ha om (by simp),Yo,Xtn,cond_false,show(0:Int)+(([]:List X1).length:Int)=0 by simp,show X1o (a.fl 0).length 40=some () from X77 (by rw[a.fl_len];omega),Yo,a.fl_len,X0q (z:=(a.sz:Int) - 1) om om];simp only[show(((0:Nat):Int)==0)=true from rfl,cond_true,Yo];rw[X27,X9n hb,Yo];simp only[bne_self_eq_false,cond_false];rw[X5z (o:=0) (d:=((a.fl 0).length:Int)) hb om (by rw[a.fl_len];omega),Yo,Xtn,cond_false,a.fl_len,Int.zero_add,show X1o (a.fl 0++b.fl a.sz).length 40=some () from X77 (by rw[List.length_append,a.fl_len,b.fl_len];omega),Yo,List.length_append,a.fl_len,b.fl_len,X0q (z:=((a.sz+b.sz:Nat):Int) - 1) om om];simp only[show(((0+1:Nat):Int)==0)=false from rfl,cond_false,Yo];rw[X27,show((a.sz+b.sz:Nat):Int) - 1=(a.sz:Int)+b.sz - 1 by omega]
 ·have:=X9n h;rw[e] at this;exact this
end Go.D


namespace Go.D
theorem X0cc {k:Int}:X1w k=some (if k<=4 then 0 else if k<=6 then 1 else 2):=by
 unfold X1w
 grind
def opv (k a b:Int):Int:=match Xcg k a b with|some v=>v.1|none=>0
theorem Xmy {k a b:Int} (h1:5<=k) (h2:k<=19) (ha:i64 a) (hb:i64 b):X55 k a b=some (opv k a b)/\i64 (opv k a b):=by
 obtain⟨v,e1,e2,e3⟩:=Xjg h1 h2 ha hb;unfold opv
 grind
def Ex.ir:Ex->Prop
 |.leaf _ n _=>i64 n
 |.un _ _ a=>a.ir
 |.bin _ _ a b=>a.ir/\b.ir
def Ex.vl (r:X04):Ex->Int
 |.leaf k n _=>if k=1 then n else if k=2 then r.Key else if k=3 then r.Time else r.Value
 |.un k _ a=>opv k (a.vl r) 0
 |.bin k _ a b=>opv k (a.vl r) (b.vl r)
def rI (r:X04):Prop:=i64 r.Key/\i64 r.Time/\i64 r.Value
theorem Xj1:i64 0:=by trivial
theorem Ex.vl_i64 {e:Ex} {r:X04} (hr:rI r):e.ok->e.ir->i64 (e.vl r):=by
 induction e with
 |leaf k n t =>
  intro h g;unfold Ex.vl;split
  ·exact g
  ·split
   ·exact hr.1
   ·split
    ·exact hr.2.1
    ·exact hr.2.2
 |un k t a ih=>intro h g;exact(Xmy h.1 (by have:=h.2.1;omega) (ih h.2.2.2.2 g) Xj1).2
 |bin k t a b iha ihb=>intro h g;exact(Xmy (by have:=h.1;omega) h.2.1 (iha h.2.2.2.2.1 g.1) (ihb h.2.2.2.2.2 g.2)).2
theorem Xuc {e:Ex} {r:X04} (hr:rI r) (s:Ex):∀ (o n:Nat),Sub s o e->s.ok->s.ir->s.dp<=n->X15 n (e.fl 0) ((o:Int)+s.sz - 1) r=some (s.vl r):=by
 induction s with
 |leaf k n t =>
  intro o m h g i hm;obtain⟨m,rfl⟩:∃ q,m=q+1:=⟨m - 1,by simp only[Ex.dp] at hm;omega⟩;obtain⟨h1,h2,_⟩:=g;rw[X15,h.getI rfl,Yo]
  grind [Ex.rt,Ex.vl]
 |un k t a ih =>
  intro o m h g i hm;simp only[Ex.dp] at hm;obtain⟨m,rfl⟩:∃ q,m=q+1:=⟨m - 1,by omega⟩;obtain⟨h1,h2,_,_,h5⟩:=g;rw[X15,h.getI rfl,Yo];simp only[Ex.rt,Ex.vl];rw[show(k==1)=false by simp;omega,show(k==2)=false by simp;omega,show(k==3)=false by simp;omega,show(k==4)=false by simp;omega,X0cc,if_neg om,if_pos h2];simp only[cond_false,Yo,show((1:Int)==2)=false from rfl];rw[ih o m h.u h5 i om,Yo,(Xmy h1 om (Ex.vl_i64 hr h5 i) Xj1).1];rfl
 |bin k t a b iha ihb =>
  intro o m h g i hm;simp only[Ex.dp] at hm;obtain⟨m,rfl⟩:∃ q,m=q+1:=⟨m - 1,by omega⟩;obtain⟨h1,h2,_,_,h5,h6⟩:=g;rw[X15,h.getI rfl,Yo];simp only[Ex.rt,Ex.vl];rw[show(k==1)=false by simp;omega,show(k==2)=false by simp;omega,show(k==3)=false by simp;omega,show(k==4)=false by simp;omega,X0cc,if_neg om,if_neg om];simp only[cond_false,cond_true,Yo,show((2:Int)==2)=true from rfl];have:=ihb (o+a.sz) m h.b h6 i.2 om;rw[show((o+a.sz:Nat):Int)+b.sz - 1=(o:Int)+a.sz+b.sz - 1 by omega] at this;rw[this,Yo,Yo,iha o m h.a h5 i.1 om,Yo,(Xmy om h2 (Ex.vl_i64 hr h5 i.1) (Ex.vl_i64 hr h6 i.2)).1];rfl
theorem X0bu {e:Ex} (h:e.ir):∀ o:Int,∀ x∈e.fl o,i64 x.N:=by
 induction e with
 |leaf k n t=>intro o x hx;rw[List.mem_singleton.1 hx];exact h
 |un k t a ih =>
  intro o x hx;rcases List.mem_append.1 hx with hx|hx
  ·exact ih h o x hx
  ·rw[List.mem_singleton.1 hx];exact Xj1
 |bin k t a b iha ihb =>
  intro o x hx;rcases List.mem_append.1 hx with hx|hx
  ·exact iha h.1 o x hx
  ·rcases List.mem_append.1 hx with hx|hx
   ·exact ihb h.2 _ x hx
   ·rw[List.mem_singleton.1 hx];exact Xj1
theorem X0ep {e:Ex}:∀ o:Int,(∀ x∈e.fl o,i64 x.N)->e.ir:=by
 induction e with
 |leaf k n t=>intro o h;exact h _ (List.mem_singleton.2 rfl)
 |un k t a ih=>intro o h;exact ih o λx hx=>h x (List.mem_append_left _ hx)
 |bin k t a b iha ihb=>intro o h;exact⟨iha o λx hx=>h x (List.mem_append_left _ hx),ihb _ λx hx=>h x (List.mem_append_right _ (List.mem_append_left _ hx))⟩
theorem Xuz {e:Ex} (h:e.fits) (ht:e.ty=true) (hi:e.ir) {r:X04} (hr:rI r):X9a (e.fl 0) r=some (e.vl r,0):=by
 have hz:=(X85 h.ok h.sz h.dp).1;have hsz:=h.sz;have hp:=e.sz_pos;unfold X9a Xdq Xac;rw[Xa8 (Xqk h.ok 0),Xdf h ht,Yo,Yo,e.fl_len];have hm:mkOk (e.sz:Int) (e.sz:Int) 8=some ():=by unfold mkOk;rw[if_pos ⟨by omega,rfl,by omega⟩]
 rw[hm,X2z om];obtain⟨vs,hvs,hl,hj⟩:=Xtj (X9j hz) (X0bu hi 0) hr (e.fl 0) 0 (List.replicate (Int.toNat (e.sz:Int)) 0) rfl (by simp[e.fl_len]) (λj hj=>by omega);rw[e.fl_len] at hl hj;simp only[bne_self_eq_false,cond_false,Yo];rw[hvs];simp only[bne_self_eq_false,cond_false,Yo];rw[hl,X0q om om,show(e.sz:Int) - 1=((e.sz - 1:Nat):Int) by omega,X30,hj _ om];have:=Xuc hr e 0 (e.sz - 1+1) .refl h.ok hi (by have:=e.dp_le;omega);rw[show((0:Nat):Int)+(e.sz:Int) - 1=((e.sz - 1:Nat):Int) by omega] at this;unfold Xfi;rw[this];rfl
end Go.D


namespace Go.D
def zr:X04:=⟨0,0,0⟩
theorem Xpg:rI zr:=⟨Xj1,Xj1,Xj1⟩
def fm (v:Int) (g:Bool) (t:Int):Option Ex :=
 if g=true then some (.bin (if v≠0 then 16 else 17) t (.leaf 1 0 t) (.leaf 1 0 t))
 else if 0<=v then some (.leaf 1 v t)
 else if v > -9223372036854775808 then some (.un 5 t (.leaf 1 (-v) t)) else none
def fdw (c:Bool) (v:Int) (g:Bool) (t:Int) (x:Ex):Ex:=if c=true then (fm v g t).getD x else x
def Ex.fd:Ex->Ex
 |.leaf k n t=>.leaf k n t
 |.un k t a=>fdw a.cs (opv k (a.vl zr) 0) (giv k) t (.un k t a.fd)
 |.bin k t a b=>fdw (a.cs&&b.cs) (opv k (a.vl zr) (b.vl zr)) (giv k) t (.bin k t a.fd b.fd)
theorem Xy3 {k:Int} (h:k<=5):giv k=false:=by
 unfold giv
 grind
theorem Xs2 {k:Int} (h:giv k=true):k=6\/12<=k:=by
 unfold giv at h
 grind
theorem if01 (b:Bool):(if b=true then (1:Int) else 0)=0\/(if b=true then (1:Int) else 0)=1:=by grind
theorem X03t {k a b:Int} (h:giv k=true) (hk:k<=19):opv k a b=0\/opv k a b=1:=by
 unfold opv Xcg;simp only[Xnr];rcases(by have:=Xs2 h;omega:k=6\/k=12\/k=13\/k=14\/k=15\/k=16\/k=17\/k=18\/k=19) with h|h|h|h|h|h|h|h|h<;>subst h<;>exact if01 _
theorem Xj7 (r:X04) {e:Ex}:e.ok->e.cs=true->e.vl r=e.vl zr:=by
 induction e with
 |leaf k n t =>
  intro h g;simp only[Ex.cs,decide_eq_true_eq] at g;have hk:k=1:=by have:=h.1;omega
  simp[Ex.vl,hk]
 |un k t a ih=>intro h g;simp only[Ex.vl,ih h.2.2.2.2 g]
 |bin k t a b iha ihb =>
  intro h g;simp only[Ex.cs,Bool.and_eq_true] at g;simp only[Ex.vl,iha h.2.2.2.2.1 g.1,ihb h.2.2.2.2.2 g.2]
theorem X00u {e:Ex} (h:e.ok) (ht:e.ty=true) (g:giv e.kd=true):3<=e.sz/\2<=e.dp:=by
 induction e with
 |leaf k n t=>rw[show(Ex.leaf k n t).kd=k from rfl,Xy3 (by have:=h.2.1;omega)] at g;cases g
 |un k t a ih =>
  have hk:k=6:=by
   have:=Xs2 g;have h2:=h.2.1;simp only[Ex.kd] at this;omega
  subst hk;simp only[Ex.ty,show((6:Int)=5)=False by simp,if_false,Bool.and_eq_true] at ht;have:=ih h.2.2.2.2 ht.1 ht.2;simp only[Ex.sz,Ex.dp];omega
 |bin k t a b=>have:=a.sz_pos;have:=b.sz_pos;have:=a.dp_pos;simp only[Ex.sz,Ex.dp];omega
structure FmOk (v:Int) (g:Bool) (t:Int) (f:Ex):Prop where
 ok:f.ok
 ir:f.ir
 ty:f.ty=true
 kd:giv f.kd=g
 cs:f.cs=true
 vl:f.vl zr=v
 tx:f.tx=t
 sz:f.sz<=(if g=true then 3 else 2)
 dp:f.dp<=2
 fd:f.fd=f
theorem X06f (a b:Int):opv 5 a b=IntKind.i64.wrap (0 - a):=by
 rfl
theorem X0bt {v:Int} {g:Bool} {t:Int} {f:Ex} (hv:i64 v) (hg:g=true->v=0\/v=1) (h1:0<=t) (h2:t<=400) (h:fm v g t=some f):FmOk v g t f:=by
 unfold i64 at hv;unfold fm at h;split at h
 ·rename_i hgt;subst hgt;cases h
  have hl:(Ex.leaf 1 0 t).ok:=⟨by omega,by omega,by omega,.inl rfl,h1,h2⟩;rcases hg rfl with rfl|rfl
  ·have hvl:opv 17 ((Ex.leaf 1 0 t).vl zr) ((Ex.leaf 1 0 t).vl zr)=0:=by rfl
   refine⟨⟨by simp,by simp,h1,h2,hl,hl⟩,⟨Xj1,Xj1⟩,rfl,rfl,rfl,hvl,rfl,by simp[Ex.sz],by simp[Ex.dp],?_⟩;rfl
  ·have hvl:opv 16 ((Ex.leaf 1 0 t).vl zr) ((Ex.leaf 1 0 t).vl zr)=1:=by rfl
   refine⟨⟨by simp,by simp,h1,h2,hl,hl⟩,⟨Xj1,Xj1⟩,rfl,rfl,rfl,hvl,rfl,by simp[Ex.sz],by simp[Ex.dp],?_⟩;rfl
 ·rename_i hgt;have hgf:g=false:=by grind
  subst hgf;split at h
  ·rename_i h0;cases h
   exact⟨⟨by omega,by omega,h0,.inr rfl,h1,h2⟩,hv,rfl,rfl,rfl,rfl,rfl,by simp[Ex.sz],by simp[Ex.dp],rfl⟩
  ·rename_i h0;split at h
   ·rename_i hlo;cases h
    have hvl:opv 5 ((Ex.leaf 1 (-v) t).vl zr) 0=v:=by
     rw[X06f,show(Ex.leaf 1 (-v) t).vl zr = -v from rfl,X0q om om];omega
    refine⟨⟨by omega,by omega,h1,h2,⟨by omega,by omega,by omega,.inr rfl,h1,h2⟩⟩,⟨by omega,by omega⟩,rfl,rfl,rfl,hvl,rfl,by simp[Ex.sz],by simp[Ex.dp],?_⟩;show fdw true (opv 5 ((Ex.leaf 1 (-v) t).vl zr) 0) false t _=_;rw[hvl];unfold fdw fm
    grind
   ·cases h
structure FdOk (e:Ex):Prop where
 ok:e.fd.ok
 ir:e.fd.ir
 ty:e.fd.ty=true
 kd:giv e.fd.kd=giv e.kd
 cs:e.fd.cs=e.cs
 vl:∀ r,rI r->e.fd.vl r=e.vl r
 sz:e.fd.sz<=e.sz
 dp:e.fd.dp<=e.dp
 fd:e.fd.fd=e.fd
theorem X02z (e:Ex):e.ok->e.ir->e.ty=true->FdOk e:=by
 induction e with
 |leaf k n t=>intro h1 h2 h3;exact⟨h1,h2,h3,rfl,rfl,λ_ _=>rfl,Nat.le_refl _,Nat.le_refl _,rfl⟩
 |un k t a ih =>
  intro h1 h2 h3;have h3':=h3;simp only[Ex.ty,Bool.and_eq_true] at h3;obtain⟨k1,k2,t1,t2,ha⟩:=h1;have ia:=ih ha h2 h3.1;have rec_:(Ex.un k t a).fd=.un k t a.fd->FdOk (.un k t a):=by
   intro hf;refine⟨?_,?_,?_,?_,?_,?_,?_,?_,?_⟩
   ·rw[hf];exact⟨k1,k2,t1,t2,ia.ok⟩
   ·rw[hf];exact ia.ir
   ·rw[hf];simp only[Ex.ty,ia.ty,Bool.true_and,ia.kd];exact h3.2
   ·rw[hf];rfl
   ·rw[hf];exact ia.cs
   ·intro r hr;rw[hf];simp only[Ex.vl,ia.vl r hr]
   ·rw[hf];have:=ia.sz;simp only[Ex.sz];omega
   ·rw[hf];have:=ia.dp;simp only[Ex.dp];omega
   ·rw[hf];show fdw a.fd.cs (opv k (a.fd.vl zr) 0) (giv k) t (.un k t a.fd.fd)=_;rw[ia.cs,ia.vl zr Xpg,ia.fd];exact hf
  by_cases hc:a.cs=true
  ·cases hm:fm (opv k (a.vl zr) 0) (giv k) t with
   |none=>exact rec_ (by show fdw _ _ _ _ _=_;unfold fdw;grind)
   |some f =>
    have hf:(Ex.un k t a).fd=f:=by show fdw _ _ _ _ _=_;unfold fdw;grind
    have hv:=(Xmy k1 om (Ex.vl_i64 Xpg ha h2) Xj1).2;have o:=X0bt hv (λg=>X03t g om) t1 t2 hm;have hs:=a.sz_pos;have hd:=a.dp_pos;have htr:giv k=true->3<=a.sz:=by
     intro g;have h6:k=6:=by have:=Xs2 g;omega
     simp_all [if_neg,X00u]
    refine⟨?_,?_,?_,?_,?_,?_,?_,?_,?_⟩
    ·rw[hf];exact o.ok
    ·rw[hf];exact o.ir
    ·rw[hf];exact o.ty
    ·rw[hf];exact o.kd
    ·rw[hf];exact o.cs.trans hc.symm
    ·intro r hr;rw[hf,Xj7 r o.ok o.cs,o.vl];simp only[Ex.vl];rw[Xj7 r ha hc]
    ·rw[hf];have:=o.sz;by_cases g:giv k=true
     ·rw[if_pos g] at this;have:=htr g;simp only[Ex.sz];omega
     ·rw[if_neg g] at this;simp only[Ex.sz];omega
    ·rw[hf];have:=o.dp;simp only[Ex.dp];omega
    ·rw[hf];exact o.fd
  ·exact rec_ (by show fdw _ _ _ _ _=_;unfold fdw;grind)
 |bin k t a b iha ihb =>
  intro h1 h2 h3;have h3':=h3;simp only[Ex.ty,Bool.and_eq_true] at h3;obtain⟨k1,k2,t1,t2,ha,hb⟩:=h1;have ia:=iha ha h2.1 h3.1.1;have ib:=ihb hb h2.2 h3.1.2;have rec_:(Ex.bin k t a b).fd=.bin k t a.fd b.fd->FdOk (.bin k t a b):=by
   intro hf;refine⟨?_,?_,?_,?_,?_,?_,?_,?_,?_⟩
   ·rw[hf];exact⟨k1,k2,t1,t2,ia.ok,ib.ok⟩
   ·rw[hf];exact⟨ia.ir,ib.ir⟩
   ·rw[hf];simp only[Ex.ty,ia.ty,ib.ty,Bool.true_and,ia.kd,ib.kd];exact h3.2
   ·rw[hf];rfl
   ·rw[hf];simp only[Ex.cs,ia.cs,ib.cs]
   ·intro r hr;rw[hf];simp only[Ex.vl,ia.vl r hr,ib.vl r hr]
   ·rw[hf];have:=ia.sz;have:=ib.sz;simp only[Ex.sz];omega
   ·rw[hf];have:=ia.dp;have:=ib.dp;simp only[Ex.dp];omega
   ·rw[hf];show fdw (a.fd.cs&&b.fd.cs) (opv k (a.fd.vl zr) (b.fd.vl zr)) (giv k) t (.bin k t a.fd.fd b.fd.fd)=_;rw[ia.cs,ib.cs,ia.vl zr Xpg,ib.vl zr Xpg,ia.fd,ib.fd];exact hf
  by_cases hc:(a.cs&&b.cs)=true
  ·cases hm:fm (opv k (a.vl zr) (b.vl zr)) (giv k) t with
   |none=>exact rec_ (by show fdw _ _ _ _ _=_;unfold fdw;grind)
   |some f =>
    have hf:(Ex.bin k t a b).fd=f:=by show fdw _ _ _ _ _=_;unfold fdw;grind
    have hv:=(Xmy om k2 (Ex.vl_i64 Xpg ha h2.1) (Ex.vl_i64 Xpg hb h2.2)).2;have o:=X0bt hv (λg=>X03t g om) t1 t2 hm;have hs:=a.sz_pos;have hs2:=b.sz_pos;have hd:=a.dp_pos;have hc':=hc;simp only[Bool.and_eq_true] at hc';refine⟨?_,?_,?_,?_,?_,?_,?_,?_,?_⟩
    ·rw[hf];exact o.ok
    ·rw[hf];exact o.ir
    ·rw[hf];exact o.ty
    ·rw[hf];exact o.kd
    ·rw[hf];exact o.cs.trans hc.symm
    ·intro r hr;rw[hf,Xj7 r o.ok o.cs,o.vl];grind [Ex.vl,Xj7]
    ·rw[hf];have:=o.sz;grind [Ex.sz]
    ·rw[hf];have:=o.dp;simp only[Ex.dp];omega
    ·rw[hf];exact o.fd
  ·exact rec_ (by show fdw _ _ _ _ _=_;unfold fdw;grind)
theorem Xp1 {e:Ex} (h:e.fits) (hi:e.ir) (ht:e.ty=true):e.fd.fits:=by
 have o:=X02z e h.ok hi ht;exact⟨o.ok,Nat.le_trans o.sz h.sz,Nat.le_trans o.dp h.dp⟩
end Go.D


namespace Go.D
abbrev FF:=Xj
theorem Xcw {e:Ex} (h:e.fits) (ht:e.ty=true) (hi:e.ir):X7u (e.fl 0)=some (if e.cs=true then (e.vl zr,true,0) else (0,false,0)):=by
 unfold X7u;rw[Xa8 (Xqk h.ok 0),Xdf h ht,Yo,Xeo h];simp only[bne_self_eq_false,cond_false,Yo]
 cases hc:e.cs with
 |false=>rfl
 |true =>
  rw[if_pos rfl,show(X04.mk 0 0 0)=zr from rfl,Xuz h ht hi Xpg];rfl
def frm (f:Option Ex):FF:=⟨match f with|some f=>f.fl 0|none=>[],f.isSome⟩
theorem Xkw {n t:Int} (h0:0<=n) (h1:0<=t) (h2:t<=400):(Ex.leaf 1 n t).fits:=⟨⟨by omega,by omega,h0,.inr rfl,h1,h2⟩,by simp[Ex.sz],by simp[Ex.dp]⟩
theorem X07x {k t:Int} (hk:k=16\/k=17) (h1:0<=t) (h2:t<=400):(Ex.bin k t (.leaf 1 0 t) (.leaf 1 0 t)).fits :=
 ⟨⟨by omega,by omega,h1,h2,(Xkw (Int.le_refl 0) h1 h2).ok,(Xkw (Int.le_refl 0) h1 h2).ok⟩,by simp[Ex.sz],by simp[Ex.dp]⟩
theorem X01r {n t:Int} (h0:0<=n) (h1:0<=t) (h2:t<=400):(Ex.un 5 t (.leaf 1 n t)).fits:=⟨⟨by omega,by omega,h1,h2,(Xkw h0 h1 h2).ok⟩,by simp[Ex.sz],by simp[Ex.dp]⟩
theorem Xou {v:Int} {g:Bool} {t:Int} (hv:i64 v) (h1:0<=t) (h2:t<=400):Xbm v g t=some (frm (fm v g t)):=by
 unfold i64 at hv;unfold Xbm fm
 cases g with
 |true =>
  rw[if_pos rfl,cond_true];have key:∀ k,k=16\/k=17->((some k:Option Int).bind λXq9=>(X58 0 t).bind λv22=>(X36 Xq9 0 t [v22,v22]).bind λv24=>some (Xj.mk v24.1 (bif (v24.2==(0:Int)) then (decide ((List.length v24.1:Int)>(0:Int))) else false)))=some (frm (some (.bin k t (.leaf 1 0 t) (.leaf 1 0 t)))):=by
   intro k hk;rw[Yo,show X58 0 t=some ((Ex.leaf 1 0 t).fl 0) from rfl,Yo,Xt0 (X07x hk h1 h2),Yo];rfl
  grind
 |false =>
  rw[if_neg (by simp),cond_false];by_cases h0:0<=v
  ·rw[Yt h0,cond_true,if_pos h0];rfl
  ·rw[Yf h0,cond_false,if_neg h0];by_cases hl:v > -9223372036854775808
   ·rw[X0q om om,Yt om,cond_true,if_pos hl,show(0:Int) - v = -v by omega,show X58 (-v) t=some ((Ex.leaf 1 (-v) t).fl 0) from rfl,Yo,Xt1 (X01r om h1 h2),Yo];rfl
   ·rw[if_neg hl,show v = -9223372036854775808 by omega,show IntKind.i64.wrap (0 - -9223372036854775808) = -9223372036854775808 by rfl];rfl
def nf:FF:=⟨[],false⟩
def Ex.fmE (e:Ex):Option Ex:=fm (e.vl zr) (giv e.kd) e.tx
def Ex.fmC (e:Ex):Option Ex:=if e.cs=true then e.fmE else none
def Ex.mkr (e:Ex) (o:Nat) (L:List FF):List FF:=if e.cs=true then L.set (o+e.sz - 1) (frm e.fmE) else L
def Ex.mk:Ex->Nat->List FF->List FF
 |.leaf k n t,o,L=>(Ex.leaf k n t).mkr o L
 |.un k t a,o,L=>if (Ex.un k t a).fmC.isSome=true then (Ex.un k t a).mkr o L else a.mk o ((Ex.un k t a).mkr o L)
 |.bin k t a b,o,L=>if (Ex.bin k t a b).fmC.isSome=true then (Ex.bin k t a b).mkr o L else a.mk o (b.mk (o+a.sz) ((Ex.bin k t a b).mkr o L))
theorem Ex.mkr_ne (e:Ex) {o j:Nat} {L:List FF} (h:j≠o+e.sz - 1):(e.mkr o L)[j]?=L[j]?:=by
 unfold Ex.mkr;grind
theorem Ex.mk_ne (e:Ex):∀ {o j:Nat} {L:List FF},j<o\/o+e.sz<=j->(e.mk o L)[j]?=L[j]?:=by
 induction e with
 |leaf k n t=>intro o j L h;exact Ex.mkr_ne _ (by simp only[Ex.sz] at *;omega)
 |un k t a ih =>
  grind [Ex.sz,Ex.mkr_ne,Ex.mk]
 |bin k t a b iha ihb =>
  grind [Ex.sz,Ex.mkr_ne,Ex.mk]
theorem Ex.mkr_at (e:Ex) {o:Nat} {L:List FF} (h:L[o+e.sz - 1]?=some nf):(e.mkr o L)[o+e.sz - 1]?=some (frm e.fmC):=by
 have hlt:=(Ys.1 h).1;unfold Ex.mkr Ex.fmC;split
 ·grind
 ·exact h
def Ex.kids:Ex->Nat->List Int->List Int
 |.leaf _ _ _,_,st=>st
 |.un _ _ a,o,st=>st++[(o:Int)+a.sz - 1]
 |.bin _ _ a b,o,st=>st++[(o:Int)+a.sz - 1,(o:Int)+a.sz+b.sz - 1]
theorem Xdn {e s:Ex} {o:Nat} (h:e.fits) (ht:e.ty=true) (hi:e.ir) (g:Sub s o e) (hsi:s.ir) {L:List FF} (hL:L[o+s.sz - 1]?=some nf) {st:List Int} (hst:st.length<=1000) (n:Nat) (A:List X1) (B:Int) :
  X01 (e.fl 0) A B (gvs (e.fl 0) e.sz) (e.fl 0) (n+1) L (st++[(o:Int)+s.sz - 1]) =
   X01 (e.fl 0) A B (gvs (e.fl 0) e.sz) (e.fl 0) n (s.mkr o L) (if s.fmC.isSome=true then st else s.kids o st):=by
 have hp:=s.sz_pos;have hle:=g.le;have hsz:=h.sz;have hsf:=h.sub g;have hok:=hsf.ok;have hlen:(st++[(o:Int)+s.sz - 1]).length=st.length+1:=by simp
 have hidx:(o:Int)+s.sz - 1=((o+s.sz - 1:Nat):Int):=by omega
 have hget:∀ (M:List FF) x,M[o+s.sz - 1]?=some x->getI M ((o:Int)+s.sz - 1)=some x:=λM x hx=>by rw[hidx,X30];exact hx
 rw[X01,hlen,Yt (show((st.length+1:Nat):Int)>0 by omega),cond_true,X0q om om,show((st.length+1:Nat):Int) - 1=(st.length:Int) by omega,Xos,Yo,
  Xj9 (by simp),List.take_left,Yo,Xks h g,Yo]
 simp only[bne_self_eq_false,cond_false];rw[Xcw hsf (g.ty ht) hsi,Yo];have hfin:∀ (M:List FF),M=s.mkr o L->((getI M ((o:Int)+s.sz - 1)).bind λe277=>bif (!(!e277.there)) then (X01 (e.fl 0) A B (gvs (e.fl 0) e.sz) (e.fl 0) n M st) else ((some (s.rt (o:Int))).bind λe280=>(X2y e280.Kind).bind λv282=>bif (v282.1==(1:Int)) then ((X1o (List.length (st++[e280.A])) 8).bind λu285=>X01 (e.fl 0) A B (gvs (e.fl 0) e.sz) (e.fl 0) n M (st++[e280.A])) else (bif (v282.1==(2:Int)) then ((X1o (List.length (st++[e280.A,e280.B])) 8).bind λu288=>X01 (e.fl 0) A B (gvs (e.fl 0) e.sz) (e.fl 0) n M (st++[e280.A,e280.B])) else (X01 (e.fl 0) A B (gvs (e.fl 0) e.sz) (e.fl 0) n M st)))) =
   X01 (e.fl 0) A B (gvs (e.fl 0) e.sz) (e.fl 0) n (s.mkr o L) (if s.fmC.isSome=true then st else s.kids o st):=by
  rintro M rfl;rw[hget _ _ (s.mkr_at hL),Yo]
  cases hc:s.fmC.isSome with
  |true=>rw[show(frm s.fmC).there=true from hc,if_pos rfl];rfl
  |false =>
   rw[show(frm s.fmC).there=false from hc,if_neg (by simp)];simp only[Bool.not_false,Bool.not_true,cond_false];rw[Yo]
   cases s with
   |leaf k m t=>rw[show(Ex.rt (.leaf k m t) (o:Int)).Kind=k from rfl,Xc9 hok.1 (by have:=hok.2.1;omega),if_pos hok.2.1];rfl
   |un k t a =>
    obtain⟨k1,k2,_⟩:=hok;rw[show(Ex.rt (.un k t a) (o:Int)).Kind=k from rfl,Xc9 om om,if_neg om,if_pos k2];simp only[Yo,show((1:Int)==1)=true from rfl,cond_true,Ex.rt];rw[X77 (by simp;omega),Yo];rfl
   |bin k t a b =>
    obtain⟨k1,k2,_⟩:=hok;rw[show(Ex.rt (.bin k t a b) (o:Int)).Kind=k from rfl,Xc9 om k2,if_neg om,if_neg om];simp only[Yo,show((2:Int)==1)=false from rfl,show((2:Int)==2)=true from rfl,cond_true,cond_false,Ex.rt];rw[X77 (by simp;omega),Yo];rfl
 cases hc:s.cs with
 |false =>
  rw[if_neg (by simp)];simp only[show((0:Int)==0)=true from rfl,cond_true,cond_false,Yo];rw[g.getI rfl]
  grind [Ex.mkr]
 |true =>
  have hgv:getI (gvs (e.fl 0) e.sz) ((o:Int)+s.sz - 1)=some (giv s.kd):=by
   rw[Xom (by rw[e.fl_len];omega) om om,g.kindAt rfl]
  have htx:0<=s.tx/\s.tx<=400:=by
   cases s with
   |leaf k m t=>exact⟨hok.2.2.2.2.1,hok.2.2.2.2.2⟩
   |un k t a=>exact⟨hok.2.2.1,hok.2.2.2.1⟩
   |bin k t a b=>exact⟨hok.2.2.1,hok.2.2.2.1⟩
  rw[if_pos rfl];simp only[show((0:Int)==0)=true from rfl,cond_true];rw[hgv,Yo,g.getI rfl,Yo,s.rt_at,Xou (Ex.vl_i64 Xpg hok hsi) htx.1 htx.2,Yo,hget _ _ hL,Yo,Yo];rw[show Int.toNat ((o:Int)+s.sz - 1)=o+s.sz - 1 by omega];exact hfin (L.set (o+s.sz - 1) (frm s.fmE)) (by unfold Ex.mkr;grind)
theorem Sub.ir {s e:Ex} {o:Nat} (h:Sub s o e):e.ir->s.ir:=by
 induction h with
 |refl=>exact id
 |un h ih=>assumption
 |l h ih=>exact λg=>ih g.1
 |r h ih=>exact λg=>ih g.2
theorem Xy7 {e:Ex} (h:e.fits) (ht:e.ty=true) (hi:e.ir) (A:List X1) (B:Int) (s:Ex):∀ (o:Nat) (L:List FF),Sub s o e->(∀ j,o<=j->j<o+s.sz->L[j]?=some nf) ->
  ∃ m,m<=s.sz/\∀ (n:Nat) (st:List Int),st.length+s.sz<=900->X01 (e.fl 0) A B (gvs (e.fl 0) e.sz) (e.fl 0) (n+m) L (st++[(o:Int)+s.sz - 1])=X01 (e.fl 0) A B (gvs (e.fl 0) e.sz) (e.fl 0) n (s.mk o L) st:=by
 induction s with
 |leaf k x t =>
  intro o L g hL;refine⟨1,by simp[Ex.sz],λn st hst=>?_⟩;rw[Xdn h ht hi g (g.ir hi) (hL _ (by simp[Ex.sz]) (by simp[Ex.sz])) om];have:(if (Ex.leaf k x t).fmC.isSome=true then st else (Ex.leaf k x t).kids o st)=st:=by split<;>rfl
  rw[this];rfl
 |un k t a ih =>
  intro o L g hL;have hp:=a.sz_pos;have hroot:=hL (o+(Ex.un k t a).sz - 1) (by simp only[Ex.sz];omega) (by simp only[Ex.sz];omega);by_cases hf:(Ex.un k t a).fmC.isSome=true
  ·refine⟨1,by simp[Ex.sz],λn st hst=>?_⟩;rw[Xdn h ht hi g (g.ir hi) hroot om,if_pos hf];unfold Ex.mk;grind
  ·obtain⟨m,hm,ha⟩:=ih o ((Ex.un k t a).mkr o L) g.u λj h1 h2=>by
    grind [Ex.mkr_ne,Ex.sz]
   refine⟨m+1,by simp only[Ex.sz];omega,λn st hst=>?_⟩;simp only[Ex.sz] at hst;rw[show n+(m+1)=(n+m)+1 by omega,Xdn h ht hi g (g.ir hi) hroot om,if_neg hf];show X01 _ _ _ _ _ _ _ (st++[(o:Int)+a.sz - 1])=_;rw[ha n st om]
   simp_all [Ex.mk,if_neg]
 |bin k t a b iha ihb =>
  intro o L g hL;have hp:=a.sz_pos;have hq:=b.sz_pos;have hroot:=hL (o+(Ex.bin k t a b).sz - 1) (by simp only[Ex.sz];omega) (by simp only[Ex.sz];omega);by_cases hf:(Ex.bin k t a b).fmC.isSome=true
  ·refine⟨1,by simp[Ex.sz],λn st hst=>?_⟩;rw[Xdn h ht hi g (g.ir hi) hroot om,if_pos hf];unfold Ex.mk;grind
  ·obtain⟨m1,hm1,hb⟩:=ihb (o+a.sz) ((Ex.bin k t a b).mkr o L) g.b λj h1 h2=>by
    grind [Ex.mkr_ne,Ex.sz]
   obtain⟨m2,hm2,ha⟩:=iha o (b.mk (o+a.sz) ((Ex.bin k t a b).mkr o L)) g.a λj h1 h2=>by
    grind [Ex.mk_ne,Ex.mkr_ne,Ex.sz]
   refine⟨m2+m1+1,by simp only[Ex.sz];omega,λn st hst=>?_⟩;simp only[Ex.sz] at hst;rw[show n+(m2+m1+1)=(n+m2+m1)+1 by omega,Xdn h ht hi g (g.ir hi) hroot om,if_neg hf];show X01 _ _ _ _ _ _ _ (st++[(o:Int)+a.sz - 1,(o:Int)+a.sz+b.sz - 1])=_;have e1:=hb (n+m2) (st++[(o:Int)+a.sz - 1]) (by simp;omega);rw[show((o+a.sz:Nat):Int)+b.sz - 1=(o:Int)+a.sz+b.sz - 1 by omega,List.append_assoc] at e1;rw[show st++[(o:Int)+a.sz - 1,(o:Int)+a.sz+b.sz - 1]=st++([(o:Int)+a.sz - 1]++[(o:Int)+a.sz+b.sz - 1]) from rfl,e1,ha n st om]
   simp_all [Ex.mk,if_neg]
def FOk (F:List FF):Ex->Nat->Prop
 |.leaf k n t,o=>F[o+1 - 1]?=some (frm (Ex.leaf k n t).fmC)
 |.un k t a,o=>F[o+(a.sz+1) - 1]?=some (frm (Ex.un k t a).fmC)/\((Ex.un k t a).fmC=none->FOk F a o)
 |.bin k t a b,o=>F[o+(a.sz+b.sz+1) - 1]?=some (frm (Ex.bin k t a b).fmC)/\((Ex.bin k t a b).fmC=none->FOk F a o/\FOk F b (o+a.sz))
theorem FOk.congr (s:Ex):∀ {F F':List FF} {o:Nat},(∀ j,o<=j->j<o+s.sz->F'[j]?=F[j]?)->FOk F s o->FOk F' s o:=by
 induction s with
 |leaf k n t=>intro F F' o h g;show F'[o+1 - 1]?=_;rw[h _ om (by simp[Ex.sz])];exact g
 |un k t a ih =>
  intro F F' o h g;simp only[Ex.sz] at h;obtain⟨g1,g2⟩:=(show _/\_ from g);show _/\_
  grind
 |bin k t a b iha ihb =>
  intro F F' o h g;simp only[Ex.sz] at h;obtain⟨g1,g2⟩:=(show _/\_ from g);show _/\_
  grind
theorem X0at (s:Ex):∀ (o:Nat) (L:List FF),(∀ j,o<=j->j<o+s.sz->L[j]?=some nf)->FOk (s.mk o L) s o:=by
 induction s with
 |leaf k n t=>intro o L h;exact Ex.mkr_at _ (h _ (by simp[Ex.sz]) (by simp[Ex.sz]))
 |un k t a ih =>
  intro o L h;have hp:=a.sz_pos;simp only[Ex.sz] at h;have hr:=Ex.mkr_at (.un k t a) (L:=L) (h (o+(a.sz+1) - 1) om om);show FOk (if _ then _ else _) _ _
  cases hf:(Ex.un k t a).fmC with
  |some f =>
   rw[hf] at hr;rw[if_pos (show(some f).isSome=true from rfl)];exact(show _/\_ from⟨by rw[hf];exact hr,λh=>by grind⟩)
  |none =>
   rw[hf] at hr;rw[if_neg (by simp)];show _/\_
   grind [Ex.mk_ne,Ex.mkr_ne,Ex.sz]
 |bin k t a b iha ihb =>
  intro o L h;have hp:=a.sz_pos;have hq:=b.sz_pos;simp only[Ex.sz] at h;have hr:=Ex.mkr_at (.bin k t a b) (L:=L) (h (o+(a.sz+b.sz+1) - 1) om om);show FOk (if _ then _ else _) _ _
  cases hf:(Ex.bin k t a b).fmC with
  |some f =>
   rw[hf] at hr;rw[if_pos (show(some f).isSome=true from rfl)];exact(show _/\_ from⟨by rw[hf];exact hr,λh=>by grind⟩)
  |none =>
   rw[hf] at hr;rw[if_neg (by simp)];show _/\_
   grind [Ex.mk_ne,Ex.mkr_ne,Ex.sz,FOk.congr]
end Go.D


namespace Go.D
theorem Xp0 {s f:Ex} (h:s.ok) (hf:s.fmC=some f):s.fd=f:=by
 unfold Ex.fmC at hf;split at hf
 ·rename_i hc
  cases s with
  |leaf k n t =>
   have hk:k=1:=by
    have:decide (k<=1)=true:=hc;have:=of_decide_eq_true this;have:=h.1;omega
   subst hk;unfold Ex.fmE fm at hf;rw[if_neg (by simp[Ex.kd,giv]),if_pos (show 0<=(Ex.leaf 1 n t).vl zr from h.2.2.1)] at hf;exact Option.some.inj hf
  |un k t a =>
   show fdw _ _ _ _ _=_;unfold fdw;rw[if_pos (show a.cs=true from hc),show fm (opv k (a.vl zr) 0) (giv k) t=some f from hf];rfl
  |bin k t a b =>
   show fdw _ _ _ _ _=_;unfold fdw;rw[if_pos (show(a.cs&&b.cs)=true from hc),show fm (opv k (a.vl zr) (b.vl zr)) (giv k) t=some f from hf];rfl
 ·cases hf
theorem X0fx {k t:Int} {a:Ex} (hf:(Ex.un k t a).fmC=none):(Ex.un k t a).fd=.un k t a.fd:=by
 show fdw _ _ _ _ _=_;unfold fdw;unfold Ex.fmC at hf;by_cases hc:a.cs=true
 ·rw[if_pos (show(Ex.un k t a).cs=true from hc)] at hf;rw[if_pos hc,show fm (opv k (a.vl zr) 0) (giv k) t=none from hf];rfl
 grind
theorem X0by {k t:Int} {a b:Ex} (hf:(Ex.bin k t a b).fmC=none):(Ex.bin k t a b).fd=.bin k t a.fd b.fd:=by
 show fdw _ _ _ _ _=_;unfold fdw;unfold Ex.fmC at hf;by_cases hc:(a.cs&&b.cs)=true
 ·rw[if_pos (show(Ex.bin k t a b).cs=true from hc)] at hf;rw[if_pos hc,show fm (opv k (a.vl zr) (b.vl zr)) (giv k) t=none from hf];rfl
 ·rw[if_neg hc]
theorem Xhp {n:Nat} {l:List X1} {F:List FF} {i:Int} {f:Ex} (h:getI F i=some (frm (some f))) (hz:f.sz<=60):X29 (n+1) l F i=some (f.fl 0,0):=by
 rw[X29,h,Yo];simp only[show(frm (some f)).there=true from rfl,show(frm (some f)).value=f.fl 0 from rfl,cond_true];rw[Xtn,cond_false,X77 (by rw[f.fl_len];omega)];rfl
theorem Xow {s f:Ex} (h:s.fits) (hi:s.ir) (ht:s.ty=true) (hf:s.fmC=some f):f.fits:=by rw[<-Xp0 h.ok hf];exact Xp1 h hi ht
theorem Xv9 {e:Ex} (h:e.fits) (ht:e.ty=true) (hi:e.ir) {F:List FF} (s:Ex):∀ (o n:Nat),Sub s o e->FOk F s o->s.dp<=n->X29 n (e.fl 0) F ((o:Int)+s.sz - 1)=some (s.fd.fl 0,0):=by
 induction s with
 |leaf k x t =>
  intro o n g hF hn;have hs:=h.sub g;obtain⟨n,rfl⟩:∃ q,n=q+1:=⟨n - 1,by simp only[Ex.dp] at hn;omega⟩;have hg:getI F ((o:Int)+(Ex.leaf k x t).sz - 1)=some (frm (Ex.leaf k x t).fmC):=by
   rw[show(o:Int)+(Ex.leaf k x t).sz - 1=((o+1 - 1:Nat):Int) by simp[Ex.sz],X30];exact hF
  cases hf:(Ex.leaf k x t).fmC with
  |some f=>rw[hf] at hg;rw[Xhp hg (Xow hs (g.ir hi) (g.ty ht) hf).sz,Xp0 hs.ok hf]
  |none =>
   rw[hf] at hg;obtain⟨k1,k2,_⟩:=hs.ok;rw[X29,hg,Yo];simp only[show(frm none).there=false from rfl,cond_false];rw[g.getI rfl,Yo];simp only[Ex.rt];rw[Xc9 k1 om,if_pos k2];simp only[Yo,show((0:Int)==0)=true from rfl,cond_true,List.length_nil];rw[X2z om,Yo,X50,Yo];simp only[bne_self_eq_false,cond_false];rw[X01o hs];rfl
 |un k t a ih =>
  intro o n g hF hn;have hs:=h.sub g;obtain⟨n,rfl⟩:∃ q,n=q+1:=⟨n - 1,by simp only[Ex.dp] at hn;omega⟩;simp only[Ex.dp] at hn;obtain⟨hF1,hF2⟩:=(show _/\_ from hF);have hg:getI F ((o:Int)+(Ex.un k t a).sz - 1)=some (frm (Ex.un k t a).fmC):=by
   rw[show(o:Int)+(Ex.un k t a).sz - 1=((o+(a.sz+1) - 1:Nat):Int) by simp only[Ex.sz];omega,X30];exact hF1
  cases hf:(Ex.un k t a).fmC with
  |some f=>rw[hf] at hg;rw[Xhp hg (Xow hs (g.ir hi) (g.ty ht) hf).sz,Xp0 hs.ok hf]
  |none =>
   rw[hf] at hg;obtain⟨k1,k2,_⟩:=hs.ok;have hd:=Xp1 hs (g.ir hi) (g.ty ht);rw[X0fx hf] at hd ⊢;rw[X29,hg,Yo];simp only[show(frm none).there=false from rfl,cond_false];rw[g.getI rfl,Yo];simp only[Ex.rt];rw[Xc9 om om,if_neg om,if_pos k2];simp only[Yo,show((1:Int)==0)=false from rfl,show((1:Int)==1)=true from rfl,cond_true,cond_false];rw[ih o n g.u (hF2 hf) om,Yo]
   simp_all [bne_self_eq_false,cond_false,Xt1]
 |bin k t a b iha ihb =>
  intro o n g hF hn;have hs:=h.sub g;obtain⟨n,rfl⟩:∃ q,n=q+1:=⟨n - 1,by simp only[Ex.dp] at hn;omega⟩;simp only[Ex.dp] at hn;obtain⟨hF1,hF2⟩:=(show _/\_ from hF);have hg:getI F ((o:Int)+(Ex.bin k t a b).sz - 1)=some (frm (Ex.bin k t a b).fmC):=by
   rw[show(o:Int)+(Ex.bin k t a b).sz - 1=((o+(a.sz+b.sz+1) - 1:Nat):Int) by simp only[Ex.sz];omega,X30];exact hF1
  cases hf:(Ex.bin k t a b).fmC with
  |some f=>rw[hf] at hg;rw[Xhp hg (Xow hs (g.ir hi) (g.ty ht) hf).sz,Xp0 hs.ok hf]
  |none =>
   rw[hf] at hg;obtain⟨k1,k2,_⟩:=hs.ok;have hd:=Xp1 hs (g.ir hi) (g.ty ht);rw[X0by hf] at hd ⊢;rw[X29,hg,Yo];simp only[show(frm none).there=false from rfl,cond_false];rw[g.getI rfl,Yo];simp only[Ex.rt];rw[Xc9 om k2,if_neg om,if_neg om];simp only[Yo,show((2:Int)==0)=false from rfl,show((2:Int)==1)=false from rfl,show((2:Int)==2)=true from rfl,cond_true,cond_false];have e2:=ihb (o+a.sz) n g.b (hF2 hf).2 om;rw[show((o+a.sz:Nat):Int)+b.sz - 1=(o:Int)+a.sz+b.sz - 1 by omega] at e2;rw[iha o n g.a (hF2 hf).1 om,Yo]
   simp_all [bne_self_eq_false,cond_false,Yo,Xt0]
theorem Xm5 {e:Ex} (h:e.fits) (ht:e.ty=true):Xde (e.fl 0)=some (gvs (e.fl 0) e.sz,0):=by
 have hz:=(X85 h.ok h.sz h.dp).1;have hsz:=h.sz;have hf:=Xoy e 0 (Sub.refl (s:=e)) h.ok;rw[show((0:Nat):Int)=0 from rfl] at hf;unfold Xde X9l;rw[Xa8 (Xqk h.ok 0),Xdf h ht,Yo,X2z (by rw[e.fl_len];omega)];have htd:=Xrk (l:=e.fl 0) (by rw[e.fl_len];omega) (X9j hz) (e.fl 0) 0 rfl;rw[show gvs (e.fl 0) 0=[] from by unfold gvs;simp,(Xj5 (e.fl 0) (e.fl 0) 0).2 (hf.trans ht)] at htd;simp only[bne_self_eq_false,cond_false,Yo];rw[htd,e.fl_len];rfl
theorem Xl8 {e:Ex} (h:e.fits) (ht:e.ty=true) (hi:e.ir):X48 (e.fl 0)=some (e.fd.fl 0,0):=by
 have hsz:=h.sz;have hp:=e.sz_pos;unfold X48;rw[Xm5 h ht,Yo,e.fl_len];simp only[bne_self_eq_false,cond_false];have hm:mkOk (e.sz:Int) (e.sz:Int) 32=some ():=by unfold mkOk;rw[if_pos ⟨by omega,rfl,by omega⟩]
 have hdef:∀ j,0<=j->j<0+e.sz->(List.replicate (Int.toNat (e.sz:Int)) nf)[j]?=some nf:=by
  intro j _ hj;rw[List.getElem?_replicate,if_pos om]
 obtain⟨m,hm1,hl⟩:=Xy7 h ht hi ([]:List X1) 0 e 0 (List.replicate (Int.toNat (e.sz:Int)) nf) .refl hdef;have hstep:=hl (FU - m) [] (by simp;omega);obtain⟨q,hq⟩:∃ q,FU - m=q+1:=⟨FU - m - 1,by unfold FU;omega⟩;rw[show FU - m+m=FU by unfold FU;omega,hq,List.nil_append,show((0:Nat):Int)+(e.sz:Int) - 1=(e.sz:Int) - 1 by omega] at hstep;rw[hm,Yo,X0q om om,show(Xj.mk [] false)=nf from rfl,hstep];rw[show X01 (e.fl 0) [] 0 (gvs (e.fl 0) e.sz) (e.fl 0) (q+1) (e.mk 0 (List.replicate (Int.toNat (e.sz:Int)) nf)) []=some (.x0 [] (e.mk 0 (List.replicate (Int.toNat (e.sz:Int)) nf))) from rfl,Yo];simp only;have hb:=Xv9 h ht hi e 0 FU .refl (X0at e 0 _ hdef) (by have:=h.dp;unfold FU;omega);rw[show((0:Nat):Int)+(e.sz:Int) - 1=(e.sz:Int) - 1 by omega] at hb;rw[hb];rfl
end Go.D


namespace Go.D
theorem Xyn:∀ (xs ks:List Int),(X5x ks xs).length<=ks.length+xs.length/\((X5x ks xs).length=ks.length+xs.length↔xs.Nodup/\∀ x∈xs,x ∉ ks):=by
 intro xs
 induction xs with
 |nil=>intro ks;simp[X5x]
 |cons x xs ih =>
  intro ks;rw[X5x];unfold Xdu;by_cases hm:x∈ks
  ·grind
  ·rw[if_neg hm];have:=ih (ks++[x])
   grind
theorem Xsa {s:List Int} (hn:s.length<=1000):∃ v,X1d s=some v/\decide (v<(s.length:Int))=!(decide s.Nodup):=by
 unfold X1d;rw[X2z om];refine⟨_,rfl,?_⟩;have h:=Xyn s []
 grind
theorem Xgr (s:List Int) (j:Bool):X2c s j=some (X6n s j):=by
 unfold X2c X6n Xw3;by_cases h4:s.length>4
 ·grind
 ·rw[if_neg h4,Yf (show ¬ (s.length:Int)>4 by omega),cond_false];obtain⟨v,hv,hd⟩:=Xsa (s:=s) om;rw[Xsd om,hv]
  grind
theorem Xhy (Y:List Int):∀ (xs:List Int) (k:Nat),X2x Y xs k=some (bif (xs.any λx=>decide (x<0)||decide (x>3)) then .x1 else .x0)
 |[],k=>rfl
 |x::xs,k=>by
  rw[X2x,Xhy Y xs (k+1),List.any_cons];cases decide (x<0)<;>cases decide (x>3)<;>rfl
theorem Xpy (s:List Int) (i:Nat) (hi:i<s.length) (hs:s.length<=1000):∀ (m n j:Nat),m=i - j->m<n->∃ o,X2w s (i:Int) n (j:Int)=some o/\(o=.x0↔∃ j',j<=j'/\j'<i/\s[j']?=s[i]?):=by
 intro m
 induction m with
 |zero =>
  intro n j hm hn
  cases n with
  |zero=>omega
  |succ n =>
   rw[X2w,Yf (show ¬ (j:Int)<(i:Int) by omega)]
   grind
 |succ m ih =>
  intro n j hm hn
  cases n with
  |zero=>omega
  |succ n =>
   rw[X2w,Yt (show(j:Int)<(i:Int) by omega),cond_true,show getI s (j:Int)=some (s[j]' om) by grind [X30,Ye],show getI s (i:Int)=some (s[i]'hi) by grind [X30,Ye]];simp only[Yo];by_cases he:s[j]=s[i]
   ·refine⟨.x0,?_,⟨λ_=>⟨j,Nat.le_refl _,by omega,by grind⟩,λ_=>rfl⟩⟩
    grind
   ·rw[show(s[j]==s[i])=false by simp[he],cond_false,X0q om om];obtain⟨o,h1,h2⟩:=ih n (j+1) om om
    grind
theorem Xhx (s:List Int) (hs:s.length<=1000):∀ (xs:List Int) (k:Nat),s.drop k=xs->(s.take k).Nodup->X2f s xs k=some (if s.Nodup then .x0 else .x1)
 |[],k,h,hd=>by
  simp_all [congrArg,List.length,List.take_of_length_le,X2f,if_pos]
 |x::xs,k,h,hd=>by
  have hk:s[k]?=some x:=by
   have:(s.drop k)[0]?=some x:=by rw[h];rfl
   grind
  have hdr:s.drop (k+1)=xs:=by
   have:(s.drop k).drop 1=xs:=by rw[h];rfl
   rw[List.drop_drop] at this;exact this
  have hlt:=(Ys.1 hk).1;rw[X2f];obtain⟨o,h1,h2⟩:=Xpy s k hlt hs (k - 0) FU 0 rfl (by unfold FU;omega);rw[show((0:Nat):Int)=0 from rfl] at h1;rw[h1,Yo]
  cases o with
  |x0 =>
   obtain⟨j,_,hj,he⟩:=h2.1 rfl;have:¬ s.Nodup:=λhn=>by
    grind [List.getElem?_inj]
   grind
  |x1 =>
   have hno:¬ ∃ j',0<=j'/\j'<k/\s[j']?=s[k]?:=λh=>by grind
   refine Xhx s hs xs (k+1) hdr ?_;rw[List.take_add_one,hk];simp only[Option.toList_some];rw[List.nodup_append];refine⟨hd,by simp,λa ha b hb=>?_⟩;simp at hb;subst hb;intro e;subst e;obtain⟨j,hj,e⟩:=List.getElem_of_mem ha;simp at hj;refine hno ⟨j,Nat.zero_le _,by omega,?_⟩
   grind
theorem Xir (s:List Int) (j:Bool):X6t s j=some (X6n s j):=by
 unfold X6t X6n Xw3;by_cases h4:s.length>4
 ·grind
 ·rw[if_neg h4,Yf (show ¬ (s.length:Int)>4 by omega),cond_false,X2z om,Xhy,Xhx s om s 0 rfl (by simp)]
  grind
instance (w:Xi):Decidable (okW w):=by unfold okW;infer_instance
theorem X04a (w:Xi) (hE:w.Every<=9223372036854775807 /\ -9223372036854775808<=w.Every):X7n w=some (decide (okW w))/\X1q w=some (if okW w then 0 else 8):=by
 by_cases hw:okW w
 ·refine⟨?_,by simp_all [if_pos,Xbp]⟩;rw[Yt hw];obtain⟨h1,h2,h3⟩:=hw
  grind [X7n,Yf,Yt,X0q]
 ·rw[if_neg hw,Yf hw];by_cases hs:w.Size<1\/w.Size>1073741824
  ·grind [decide,Yt,Yf,X7n,X1q]
  ·have:(bif decide (w.Size<1) then true else decide (w.Size>1073741824))=false:=by
    grind
   unfold X7n X1q;rw[this,cond_false,cond_false];by_cases k2:w.Kind=2
   ·rw[show(w.Kind==2)=true by simp[k2],cond_true,cond_true];have:(bif (bif decide (w.Every >= 1) then decide (w.Every<=w.Size) else false) then decide (w.Size<=IntKind.i64.wrap (16*w.Every)) else false)=false:=by
     by_cases g1:w.Every >= 1
     ·by_cases g2:w.Every<=w.Size
      ·rw[Yt g1,Yt g2,X0q om om,Yf];rfl;intro g3;exact hw ⟨by omega,by omega,.inl ⟨k2,g1,g2,g3⟩⟩
      grind
     grind
    grind
   ·rw[show(w.Kind==2)=false by simp[k2],cond_false,cond_false];by_cases k1:w.Kind=1
    ·have:w.Every≠0:=λh=>hw ⟨by omega,by omega,.inr ⟨.inl k1,h⟩⟩
     grind
    ·by_cases k3:w.Kind=3
     ·have:w.Every≠0:=λh=>hw ⟨by omega,by omega,.inr ⟨.inr k3,h⟩⟩
      grind
     grind
end Go.D


namespace Go.D
def Xse (q:X6):Int :=
 if q.Agg<1\/q.Agg>4\/(q.Late≠1/\q.Late≠2) then 8
 else if q.Agg=1/\0<q.Arg.length then 8
 else if q.Agg≠1/\nchk q.Arg≠0 then nchk q.Arg
 else if 0<q.Where.length/\nchk q.Where≠0 then nchk q.Where
 else if X6n q.Sources q.Join≠0 then X6n q.Sources q.Join
 else if q.Join=true/\q.Window.Kind≠1 then 8
 else if okW q.Window then 0 else 8
structure QW (q:X6):Prop where
 arg:∀ x∈q.Arg,0<=x.Kind
 wher:∀ x∈q.Where,0<=x.Kind
 ev:q.Window.Every<=9223372036854775807 /\ -9223372036854775808<=q.Window.Every
theorem X052 {q:X6} (hq:QW q):((X2c q.Sources q.Join).bind λv10=>bif (v10 != (0:Int)) then (some v10) else (bif (bif q.Join then (q.Window.Kind != (1:Int)) else false) then (some 8) else ((X1q q.Window).bind λv14=>some v14)))=some (if X6n q.Sources q.Join≠0 then X6n q.Sources q.Join
 else if q.Join=true/\q.Window.Kind≠1 then 8
 else if okW q.Window then 0 else 8):=by
 rw[Xgr,Yo,(X04a q.Window hq.ev).2]
 grind
theorem Xj3 {q:X6} (hq:QW q):X75 q=some (Xse q):=by
 unfold X75 Xse;rw[X052 hq,X5v hq.arg,X5v hq.wher]
 grind
theorem Xm2 {q:X6} (hq:QW q):Xa1 q=some (Xse q):=by
 unfold Xa1 Xse;rw[Xaz,Xaz,Xir,(X04a q.Window hq.ev).1];have e1:(bif (bif (bif (decide (q.Agg<(1:Int))) then true else (decide (q.Agg>(4:Int)))) then true else (decide (q.Late<(1:Int)))) then true else (decide (q.Late>(2:Int))))=decide (q.Agg<1\/q.Agg>4\/(q.Late≠1/\q.Late≠2)):=by
  rw[Bool.eq_iff_iff];have g:(q.Late≠1/\q.Late≠2)↔(q.Late<1\/q.Late>2):=by omega
  rw[show decide (q.Agg<1\/q.Agg>4\/(q.Late≠1/\q.Late≠2))=decide (q.Agg<1\/q.Agg>4\/(q.Late<1\/q.Late>2)) from decide_eq_decide.2 (by rw[g])];by_cases h1:q.Agg<1<;>by_cases h2:q.Agg>4<;>by_cases h3:q.Late<1<;>by_cases h4:q.Late>2<;>simp[h1,h2,h3,h4]
 rw[e1]
 have tl:((some (X6n q.Sources q.Join)).bind λv29=>bif (v29 != (0:Int)) then (some v29) else ((some (decide (okW q.Window))).bind λv32=>bif (bif (!v32) then true else (bif q.Join then (q.Window.Kind != (1:Int)) else false)) then (some 8) else (some 0)))=some (if X6n q.Sources q.Join≠0 then X6n q.Sources q.Join
 else if q.Join=true/\q.Window.Kind≠1 then 8
 else if okW q.Window then 0 else 8):=by
  simp only[Yo];by_cases h:X6n q.Sources q.Join=0
  ·rw[h];by_cases hk:q.Window.Kind=1
   ·by_cases hj:q.Join=true<;>by_cases ho:okW q.Window<;>simp[hj,hk,ho]
   ·by_cases hj:q.Join=true<;>by_cases ho:okW q.Window<;>simp[hj,hk,ho,Xsf hk]
  ·simp[h,Xsf h]
 rw[tl];generalize (if X6n q.Sources q.Join≠0 then X6n q.Sources q.Join else if q.Join=true/\q.Window.Kind≠1 then 8 else if okW q.Window then 0 else 8)=T;by_cases hA:(q.Agg<1\/q.Agg>4\/(q.Late≠1/\q.Late≠2))
 ·rw[if_pos hA,Yt hA];rfl
 ·rw[if_neg hA,Yf hA,cond_false];have wh:((bif (decide ((List.length q.Where:Int)>(0:Int))) then ((some (nchk q.Where)).bind λv23=>some (bif (decide ((List.length q.Where:Int)>(0:Int))) then (v23 != (0:Int)) else false)) else (some (bif (decide ((List.length q.Where:Int)>(0:Int))) then false else false)):Option (Bool)).bind λX0ba=>bif X0ba then ((some (nchk q.Where)).bind λv27=>some v27) else some T)=some (if 0<q.Where.length/\nchk q.Where≠0 then nchk q.Where else T):=by
   by_cases hw:0<q.Where.length
   ·rw[Yt (show(q.Where.length:Int)>0 by omega)];by_cases hz:nchk q.Where=0
    ·rw[hz];simp
    ·rw[if_pos ⟨hw,hz⟩];simp[hz,Xsf hz]
   ·rw[Yf (show ¬ (q.Where.length:Int)>0 by omega),if_neg (λh=>hw h.1)];rfl
  rw[wh];generalize (if 0<q.Where.length/\nchk q.Where≠0 then nchk q.Where else T)=T2;by_cases h1:q.Agg=1
  ·rw[show(q.Agg==1)=true by simp[h1],show(q.Agg != 1)=false by simp[h1]];by_cases hl:0<q.Arg.length
   ·rw[Yt (show(q.Arg.length:Int)>0 by omega),if_pos ⟨h1,hl⟩];rfl
   ·rw[Yf (show ¬ (q.Arg.length:Int)>0 by omega),if_neg (λh=>hl h.2),if_neg (λh=>h.1 h1)];rfl
  ·rw[show(q.Agg==1)=false by simp[h1],show(q.Agg != 1)=true by simp[h1],if_neg (λh=>h1 h.1)];by_cases hn:nchk q.Arg=0
   ·rw[hn,if_neg (λh=>h.2 rfl)];rfl
   ·rw[if_pos ⟨h1,hn⟩];simp[hn,Xsf hn]
def atOf (l:List X1) (i:Int):Int:=match getI l i with|some e=>e.At|none=>0
theorem Xo7 {l:List X1} {b:Bool} (h:0<l.length):∃ e,getI l (X2e l b).1=some e/\atOf l (X2e l b).1=e.At:=by
 have hr:0<=(X2e l b).1/\(X2e l b).1<l.length:=by
  have:(X2e l b).1=(kOf l).2.1:=by unfold X2e;split<;>rfl
  rw[this];unfold kOf;split
  ·simp only;omega
  ·split
   ·rename_i j hj;have:=Xsk l l 0 j hj;simp only;omega
   ·simp only;omega
 obtain⟨e,he,_⟩:=Xdh hr.1 hr.2;exact⟨e,he,by unfold atOf;rw[he]⟩
def rt (q:X6):Int×Int :=
 if 0<q.Arg.length/\(X2e q.Arg false).2≠0 then (atOf q.Arg (X2e q.Arg false).1,(X2e q.Arg false).2)
 else if 0<q.Where.length/\(X2e q.Where true).2≠0 then (atOf q.Where (X2e q.Where true).1,(X2e q.Where true).2)
 else (0,0)
theorem Xsl (q:X6) (hw:0<q.Where.length):(bif ((X2e q.Where true).2 != (0:Int)) then ((getI q.Where (X2e q.Where true).1).bind λe28=>some (e28.At,(X2e q.Where true).2)) else (some (0,0)))=some (if 0<q.Where.length/\(X2e q.Where true).2≠0 then (atOf q.Where (X2e q.Where true).1,(X2e q.Where true).2) else (0,0)):=by
 obtain⟨e,he,ha⟩:=Xo7 (b:=true) hw;by_cases hz:(X2e q.Where true).2=0
 ·rw[if_neg (λh=>h.2 hz),show((X2e q.Where true).2 != 0)=false by simp[hz]];rfl
 ·rw[if_pos ⟨hw,hz⟩,show((X2e q.Where true).2 != 0)=true by simp[hz],he,ha];rfl
theorem Xm0 (q:X6):X9y q=some (rt q):=by
 unfold X9y rt;rw[Xg5,Xg5];simp only[Yo];have wh:(bif (decide ((List.length q.Where:Int)>(0:Int))) then (bif ((X2e q.Where true).2 != (0:Int)) then ((getI q.Where (X2e q.Where true).1).bind λe28=>some (e28.At,(X2e q.Where true).2)) else (some (0,0))) else (some (0,0)))=some (if 0<q.Where.length/\(X2e q.Where true).2≠0 then (atOf q.Where (X2e q.Where true).1,(X2e q.Where true).2) else (0,0)):=by
  by_cases hw:0<q.Where.length
  ·rw[Yt (show(q.Where.length:Int)>0 by omega),cond_true,Xsl q hw]
  ·rw[Yf (show ¬ (q.Where.length:Int)>0 by omega),if_neg (λh=>hw h.1)];rfl
 rw[wh];by_cases ha:0<q.Arg.length
 ·rw[Yt (show(q.Arg.length:Int)>0 by omega),cond_true];obtain⟨e,he,hat⟩:=Xo7 (b:=false) ha;by_cases hz:(X2e q.Arg false).2=0
  ·rw[if_neg (show ¬ (0<q.Arg.length/\(X2e q.Arg false).2≠0) from λh=>h.2 hz),show((X2e q.Arg false).2 != 0)=false by simp[hz],cond_false]
  ·rw[if_pos (show(0<q.Arg.length/\(X2e q.Arg false).2≠0) from⟨ha,hz⟩),show((X2e q.Arg false).2 != 0)=true by simp[hz],he,hat];rfl
 ·rw[Yf (show ¬ (q.Arg.length:Int)>0 by omega),if_neg (show ¬ (0<q.Arg.length/\(X2e q.Arg false).2≠0) from λh=>ha h.1),cond_false]
def Xwq (q:X6):Int×Int:=if Xse q≠0 then (0,Xse q) else rt q
theorem Xm1 {q:X6} (hq:QW q):X9z q=some (Xwq q):=by
 unfold X9z Xwq;rw[Xm2 hq,Xm0,Yo];by_cases h:Xse q=0
 ·rw[if_neg om,h];rfl
 ·rw[if_pos h,show(Xse q != 0)=true by simp[h]];rfl
theorem X76 {q:X6} (hq:QW q):X1n q=some (Xwq q):=by
 unfold X1n Xwq;rw[Xj3 hq,Yo];by_cases h:Xse q=0
 ·rw[if_neg om,h,show((0:Int) != 0)=false from rfl,cond_false];unfold Xa7 Xap;rw[Xgg hq.arg,Xgg hq.wher];simp only[Yo];unfold rt;have wh:(bif ((List.length q.Where:Int)==(0:Int)) then (some (0,0)) else (bif ((X2e q.Where true).2 != (0:Int)) then ((getI q.Where (X2e q.Where true).1).bind λe28=>some (e28.At,(X2e q.Where true).2)) else (some (0,0))))=some (if 0<q.Where.length/\(X2e q.Where true).2≠0 then (atOf q.Where (X2e q.Where true).1,(X2e q.Where true).2) else (0,0)):=by
   by_cases hw:0<q.Where.length
   ·rw[lz hw,cond_false,Xsl q hw]
   ·rw[lz' hw,if_neg (λh=>hw h.1)];rfl
  rw[wh];by_cases ha:0<q.Arg.length
  ·rw[lz ha,cond_false];obtain⟨e,he,hat⟩:=Xo7 (b:=false) ha;by_cases hz:(X2e q.Arg false).2=0
   ·rw[if_neg (show ¬ (0<q.Arg.length/\(X2e q.Arg false).2≠0) from λh=>h.2 hz),show((X2e q.Arg false).2 != 0)=false by simp[hz],cond_false];rfl
   ·rw[if_pos (show(0<q.Arg.length/\(X2e q.Arg false).2≠0) from⟨ha,hz⟩),show((X2e q.Arg false).2 != 0)=true by simp[hz],he,hat];rfl
  ·rw[lz' ha,if_neg (show ¬ (0<q.Arg.length/\(X2e q.Arg false).2≠0) from λh=>ha h.1)];rfl
 ·rw[if_pos h,show(Xse q != 0)=true by simp[h]];rfl
end Go.D


namespace Go.D
def eL:Option Ex->List X1
 |none=>[]
 |some e=>e.fl 0
theorem X04g {o:Option Ex} (h:∀ x,o=some x->x.fits):(eL o).length<=60:=by
 cases o with
 |none=>simp[eL]
 |some e=>simp only[eL];rw[e.fl_len];exact(h e rfl).sz
theorem Xle (o:Option Ex):(0<(eL o).length↔o≠none):=by
 cases o with
 |none=>simp[eL]
 |some e=>simp only[eL];rw[e.fl_len];have:=e.sz_pos;simp;omega
def tOk (b:Bool) (o:Option Ex):Prop:=∀ x,o=some x->x.fits/\x.ty=true/\giv x.kd=b/\x.ir
def mkQ (q:X6) (a w:Option Ex) (n:Xi):X6:=⟨q.Agg,eL a,q.Sources,q.Join,eL w,n,q.ByKey,q.Late⟩
structure Rr (q:X6) (a w:Option Ex) (n:Xi):Prop where
 ta:tOk false a
 tw:tOk true w
 agg:1<=q.Agg/\q.Agg<=4
 none_:q.Agg=1↔a=none
 late:q.Late=1\/q.Late=2
 src:X6n q.Sources q.Join=0
 join:q.Join=true->n.Kind=1
 win:okW n
theorem tOk.fits {b:Bool} {o:Option Ex} (h:tOk b o):∀ x,o=some x->x.fits:=λx hx=>(h x hx).1
theorem tOk.want {b:Bool} {o:Option Ex} (h:tOk b o) (hn:o≠none):(X2e (eL o) b).2=0:=by
 cases o with
 |none=>grind
 |some e =>
  obtain⟨h1,h2,h3,_⟩:=h e rfl;simp only[eL]
  simp_all [X2e,Xdf,if_neg]
theorem tOk.nchk {b:Bool} {o:Option Ex} (h:tOk b o) (hn:o≠none):nchk (eL o)=0:=by
 cases o with
 |none=>grind
 |some e=>have:=h.fits e rfl;exact(X85 this.ok this.sz this.dp).1
theorem Rr.qw {q:X6} {a w:Option Ex} {n:Xi} (h:Rr q a w n):QW (mkQ q a w n):=by
 refine⟨λx hx=>?_,λx hx=>?_,?_⟩
 ·cases a with
  |none=>cases hx
  |some e=>exact Xqk (h.ta.fits e rfl).ok 0 x hx
 ·cases w with
  |none=>cases hx
  |some e=>exact Xqk (h.tw.fits e rfl).ok 0 x hx
 ·have:=h.win;unfold okW at this;show n.Every<=_/\_<=n.Every;omega
theorem X0gb {q:X6} (h1:1<=q.Agg/\q.Agg<=4) (h2:q.Late=1\/q.Late=2) (h3:q.Agg=1->¬ 0<q.Arg.length) (h4:q.Agg≠1->nchk q.Arg=0) (h5:0<q.Where.length->nchk q.Where=0) (h6:X6n q.Sources q.Join=0) (h7:q.Join=true->q.Window.Kind=1) (h8:okW q.Window):Xse q=0:=by
 unfold Xse
 grind
theorem rt0 {q:X6} (h1:0<q.Arg.length->(X2e q.Arg false).2=0) (h2:0<q.Where.length->(X2e q.Where true).2=0):rt q=(0,0):=by
 unfold rt
 grind
theorem Rr.chk {q:X6} {a w:Option Ex} {n:Xi} (h:Rr q a w n):Xwq (mkQ q a w n)=(0,0):=by
 have hc:Xse (mkQ q a w n)=0:=X0gb h.agg h.late (λk l=>(Xle a).1 l (h.none_.1 k)) (λk=>h.ta.nchk λe=>k (h.none_.2 e)) (λk=>h.tw.nchk ((Xle w).1 k)) h.src h.join h.win;unfold Xwq;rw[if_neg (by rw[hc];simp)];exact rt0 (λk=>h.ta.want ((Xle a).1 k)) (λk=>h.tw.want ((Xle w).1 k))
theorem Xvy {l:List X1} {b:Bool} (hN:∀ x∈l,i64 x.N) (h:(X2e l b).2=0):∃ e:Ex,l=e.fl 0/\e.fits/\e.ty=true/\giv e.kd=b/\e.ir:=by
 unfold X2e at h;split at h
 ·cases h
 ·rename_i hk;obtain⟨e,h1,h2,rfl⟩:=X0b4 h;rw[Xdf h1 h2] at hk;refine⟨e,rfl,h1,h2,?_,X0ep 0 hN⟩
  grind
theorem Xsw {l:List X1} {b:Bool} (hN:∀ x∈l,i64 x.N) (h:0<l.length->(X2e l b).2=0):∃ o,l=eL o/\tOk b o:=by
 by_cases hl:0<l.length
 ·obtain⟨e,h1,h2,h3,h4,h5⟩:=Xvy hN (h hl);exact⟨some e,h1,λx hx=>by grind⟩
 ·exact⟨none,List.length_eq_zero_iff.1 om,λx hx=>by cases hx⟩
theorem X011 {q:X6} (hA:∀ x∈q.Arg,i64 x.N) (hW:∀ x∈q.Where,i64 x.N) (h:(Xwq q).2=0):∃ a w,Rr q a w q.Window/\q=mkQ q a w q.Window:=by
 unfold Xwq at h;split at h
 ·grind
 ·rename_i hc;have hc:Xse q=0:=by grind
  unfold rt at h;have h1:0<q.Arg.length->(X2e q.Arg false).2=0:=by
   grind
  have h2:0<q.Where.length->(X2e q.Where true).2=0:=by
   grind
  obtain⟨a,ha,oa⟩:=Xsw hA h1;obtain⟨w,hw,ow⟩:=Xsw hW h2;unfold Xse at hc;split at hc
  ·cases hc
  ·rename_i c1;split at hc
   ·cases hc
   ·rename_i c2;split at hc
    ·grind
    ·rename_i c3;split at hc
     ·grind
     ·split at hc
      ·grind
      ·rename_i c5;split at hc
       ·cases hc
       ·rename_i c6;split at hc
        ·rename_i c7;refine⟨a,w,⟨oa,ow,by omega,⟨λk=>?_,λk=>?_⟩,by omega,by grind,λk=>?_,c7⟩,?_⟩
         ·grind [absurd,Xle]
         ·by_cases hg:q.Agg=1
          ·exact hg
          ·exfalso;apply c3;refine⟨hg,?_⟩;rw[ha,k];decide
         ·grind
         ·obtain⟨x1,x2,x3,x4,x5,x6,x7,x8⟩:=q;simp only at ha hw;subst ha hw;rfl
        ·cases hc
def X8i (w:Option Ex):Option Ex:=match w with
 |none=>none
 |some x=>if x.cs=true/\x.vl zr≠0 then none else some x
def tum (n:Xi):Xi:=if n.Kind=2/\n.Size=n.Every then ⟨1,n.Size,0⟩ else n
theorem tOk.fd {b:Bool} {o:Option Ex} (h:tOk b o):tOk b (o.map Ex.fd):=by
 intro x hx
 cases o with
 |none=>cases hx
 |some e =>
  cases hx
  obtain⟨h1,h2,h3,h4⟩:=h e rfl;have o:=X02z e h1.ok h4 h2;exact⟨Xp1 h1 h4 h2,o.ty,o.kd.trans h3,o.ir⟩
theorem tOk.drop {o:Option Ex} (h:tOk true o):tOk true (X8i o):=by
 intro x hx
 cases o with
 |none=>cases hx
 |some e =>
  unfold X8i at hx;simp only at hx;split at hx
  ·cases hx
  ·exact h x hx
theorem X09s {n:Xi} (h:okW n):okW (tum n):=by
 unfold tum;split
 ·obtain⟨h1,h2,h3⟩:=h;exact⟨h1,h2,.inr ⟨.inl rfl,rfl⟩⟩
 ·exact h
theorem Rr.m1 {q:X6} {a w:Option Ex} {n:Xi} (h:Rr q a w n):Rr q (a.map Ex.fd) (w.map Ex.fd) n :=
 ⟨h.ta.fd,h.tw.fd,h.agg,by rw[h.none_];simp_all,h.late,h.src,h.join,h.win⟩
theorem Rr.m2 {q:X6} {a w:Option Ex} {n:Xi} (h:Rr q a w n):Rr q a (X8i w) n :=
 ⟨h.ta,h.tw.drop,h.agg,h.none_,h.late,h.src,h.join,h.win⟩
theorem Rr.m3 {q:X6} {a w:Option Ex} {n:Xi} (h:Rr q a w n):Rr q a w (tum n) :=
 ⟨h.ta,h.tw,h.agg,h.none_,h.late,h.src,λk=>by have:=h.join k;unfold tum;grind,X09s h.win⟩
theorem Xnt {s:List Int} {j:Bool} (h:X6n s j=0):s.length<=4:=by
 grind [X6n]
theorem X03a {α β:Type} (l:List α) (b:Nat) (x:β) (h:l.length*b<=140737488355328):((bif (List.isEmpty l) then (some x) else ((X1o (List.length l) b).bind λ_=>some x):Option β))=some x:=by
 rw[X77 h];grind
theorem Xdv {l:List X1} (h:l.length<=100):X0i l=some l:=by
 grind [X0i,X03a]
theorem Xli {l:List Int} (h:l.length<=100):X1u l=some l:=by
 grind [X1u,X03a]
theorem X050 {q:X6} (h1:q.Arg.length<=100) (h2:q.Where.length<=100) (h3:q.Sources.length<=100):X8b q=some q:=by
 simp_all [X8b,Xdv,Xli]
theorem Rr.lens {q:X6} {a w:Option Ex} {n:Xi} (h:Rr q a w n):(mkQ q a w n).Arg.length<=100/\(mkQ q a w n).Where.length<=100/\(mkQ q a w n).Sources.length<=100 :=
 ⟨Nat.le_trans (X04g h.ta.fits) om,Nat.le_trans (X04g h.tw.fits) om,Nat.le_trans (Xnt h.src) om⟩
theorem X02o {b:Bool} {o:Option Ex} (h:tOk b o) (hn:o≠none):X48 (eL o)=some (eL (o.map Ex.fd),0):=by
 cases o with
 |none=>grind
 |some e =>
  obtain⟨h1,h2,_,h4⟩:=h e rfl;exact Xl8 h1 h2 h4
theorem Xl7 {q:X6} {fa fw:List X1} (hc:X1n q=some (0,0)) (hs:q.Sources.length<=100) (hA:(q.Arg.length=0/\fa=q.Arg)\/(q.Arg.length≠0/\X48 q.Arg=some (fa,0)))
  (hW:(q.Where.length=0/\fw=q.Where)\/(q.Where.length≠0/\X48 q.Where=some (fw,0))):X7v q=some (⟨q.Agg,fa,q.Sources,q.Join,fw,q.Window,q.ByKey,q.Late⟩,0):=by
 unfold X7v;rw[hc,Yo];simp only[bne_self_eq_false,cond_false];rw[X03a _ _ _ om,Yo]
 grind
theorem Xtg {b:Bool} {o:Option Ex} (h:tOk b o):((eL o).length=0/\eL (o.map Ex.fd)=eL o)\/((eL o).length≠0/\X48 (eL o)=some (eL (o.map Ex.fd),0)):=by
 grind [Xle,X02o]
theorem Xmd {q:X6} {a w:Option Ex} {n:Xi} (h:Rr q a w n):X7v (mkQ q a w n)=some (mkQ q (a.map Ex.fd) (w.map Ex.fd) n,0) :=
 Xl7 (by rw[X76 h.qw,h.chk]) h.lens.2.2 (Xtg h.ta) (Xtg h.tw)
theorem X034 {y:Ex} (h:y.cs=false):X8i (some y)=some y:=by unfold X8i;simp[h]
theorem X082 {y:Ex} (h:y.vl zr=0):X8i (some y)=some y:=by unfold X8i;simp[h]
theorem Xyk {y:Ex} (h:y.cs=true) (g:y.vl zr≠0):X8i (some y)=none:=by unfold X8i;simp[h,g]
theorem X0dh {n:Xi} (h:n.Kind=2) (g:n.Size=n.Every):tum n=⟨1,n.Size,0⟩:=by unfold tum;grind
theorem X09t {n:Xi} (h:¬ (n.Kind=2/\n.Size=n.Every)):tum n=n:=by unfold tum;rw[if_neg h]
def Xu9 (q:X6) (a w:Option Ex) (n:Xi) (r:Int):X6 :=
 if r=1 then mkQ q (a.map Ex.fd) (w.map Ex.fd) n else if r=2 then mkQ q a (X8i w) n else mkQ q a w (tum n)
theorem X06n {q:X6} {a w:Option Ex} {n:Xi} (h:Rr q a w n) {r:Int} (hr:r=1\/r=2\/r=3):X8d (mkQ q a w n) r=some (Xu9 q a w n r,0):=by
 obtain⟨l1,l2,l3⟩:=h.lens;unfold X8d Xu9;rw[X050 l1 l2 l3,Yo];rcases hr with rfl|rfl|rfl
 ·simp_all [cond_true,Xmd]
 ·rw[show((2:Int)==1)=false from rfl,show((2:Int)==2)=true from rfl,cond_false,cond_true,if_neg (by simp),if_pos rfl]
  cases w with
  |none=>rfl
  |some y =>
   obtain⟨h1,h2,_,h4⟩:=h.tw y rfl;rw[show((List.length (mkQ q a (some y) n).Where:Int)==0)=false from lz ((Xle (some y)).2 (by simp)),cond_false,show(mkQ q a (some y) n).Where=y.fl 0 from rfl,Xcw h1 h2 h4,Yo]
   cases hc:y.cs with
   |false=>rw[if_neg (by simp),X034 hc];rfl
   |true =>
    rw[if_pos rfl];by_cases hv:y.vl zr=0
    ·rw[X082 hv,hv];rfl
    ·rw[Xyk hc hv];have e:(y.vl zr != 0)=true:=by simp[hv]
     simp only[cond_true,e,bne_self_eq_false,cond_false,Yo];rfl
 ·rw[show((3:Int)==1)=false from rfl,show((3:Int)==2)=false from rfl,show((3:Int)==3)=true from rfl,if_neg (by simp),if_neg (by simp)];simp only[cond_false,cond_true];show((bif (bif (n.Kind==(2:Int)) then (n.Size==n.Every) else false) then _ else _:Option X6).bind _)=_;by_cases hk:n.Kind=2
  ·by_cases hs:n.Size=n.Every
   ·rw[X0dh hk hs,show(n.Kind==2)=true by simp[hk],show(n.Size==n.Every)=true by simp[hs]];rfl
   grind [X09t]
  grind [X09t]
end Go.D


namespace Go.D
theorem Xv1 {α:Type} {l:List α} {k:Nat} {x:α} {xs:List α} (h:l.drop k=x::xs):l[k]?=some x/\l.drop (k+1)=xs:=by
 constructor
 ·have:(l.drop k)[0]?=some x:=by rw[h];rfl
  grind
 ·have:(l.drop k).drop 1=xs:=by rw[h];rfl
  rw[List.drop_drop] at this;exact this
theorem X04e (X Y:List X1):∀ (xs:List X1) (k:Nat),xs.length=(Y.drop k).length->X0p X Y xs k=some (if xs=Y.drop k then .x0 else .x1)
 |[],k,h=>by
  have:Y.drop k=[]:=List.length_eq_zero_iff.1 h.symm;rw[X0p,this,if_pos rfl]
 |x::xs,k,h=>by
  cases hy:Y.drop k with
  |nil=>rw[hy] at h;cases h
  |cons y ys =>
   obtain⟨h1,h2⟩:=Xv1 hy;rw[X0p,X30,h1,Yo,Xau];by_cases he:x=y
   ·rw[Yt he,Bool.not_true,cond_false,X04e X Y xs (k+1) (by rw[h2];rw[hy] at h;simpa using h),h2];simp[he]
   ·rw[Yf he,Bool.not_false,cond_true,if_neg (by simp[he])]
theorem X031 {a b:List X1} (h:a.length<=100000):X21 a b=some (decide (a=b)):=by
 unfold X21;by_cases hl:a.length=b.length
 ·rw[show((a.length:Int) != (b.length:Int))=false by simp[hl],cond_false,X2z om,Yo,X04e a b a 0 (by grind)]
  grind
 ·rw[show((a.length:Int) != (b.length:Int))=true by simp;omega,cond_true,Yf (λh=>hl (by rw[h]))]
theorem Xew (x y:Xi):X69 x y=decide (x=y):=by
 obtain⟨a,b,c⟩:=x;obtain⟨a',b',c'⟩:=y;simp only[X69,Bool.and_true]
 grind
theorem X05n {p q:X6} (h1:p.Arg.length<=100000) (h2:p.Where.length<=100000):X8c p q=some (decide (p.Arg=q.Arg/\p.Where=q.Where/\p.Window=q.Window)):=by
 grind [X8c,X031,Xew]
theorem X010 {q:X6} {a w:Option Ex} {n:Xi} (h:Rr q a w n) {r:Int} (hr:r=1\/r=2\/r=3):∃ a' w' n',Rr q a' w' n'/\Xu9 q a w n r=mkQ q a' w' n':=by
 rcases hr with rfl|rfl|rfl
 ·exact⟨_,_,_,h.m1,rfl⟩
 ·exact⟨_,_,_,h.m2,rfl⟩
 ·exact⟨_,_,_,h.m3,rfl⟩
theorem X0au {q:X6} {a w a' w':Option Ex} {n n':Xi}:((mkQ q a w n).Arg=(mkQ q a' w' n').Arg/\(mkQ q a w n).Where=(mkQ q a' w' n').Where/\(mkQ q a w n).Window=(mkQ q a' w' n').Window)↔mkQ q a w n=mkQ q a' w' n':=by
 unfold mkQ
 grind
theorem Xp9 {q:X6} {a w:Option Ex} {n:Xi} (h:Rr q a w n) {r:Int} (hr:r=1\/r=2\/r=3) :
  X2l (mkQ q a w n) r=some (Xu9 q a w n r,!(decide (mkQ q a w n=Xu9 q a w n r)),0):=by
 obtain⟨l1,l2,l3⟩:=h.lens;have e:(bif (decide (r<(1:Int))) then true else (decide (r>(3:Int))))=false:=by
  grind
 obtain⟨a',w',n',h',he⟩:=X010 h hr
 ·unfold X2l;rw[X76 h.qw,h.chk,Yo,e,X06n h hr];simp only[bne_self_eq_false,cond_false,Yo];rw[X05n om om,he,Yo]
  simp_all [decide_eq_decide,X0au]
def Xtw (q:X6) (a w:Option Ex) (n:Xi):X6:=mkQ q (a.map Ex.fd) (X8i (w.map Ex.fd)) (tum n)
theorem Rr.all {q:X6} {a w:Option Ex} {n:Xi} (h:Rr q a w n):Rr q (a.map Ex.fd) (X8i (w.map Ex.fd)) (tum n):=h.m1.m2.m3
theorem Xs5 {b:Bool} {o:Option Ex} (h:tOk b o):(o.map Ex.fd).map Ex.fd=o.map Ex.fd:=by
 cases o with
 |none=>rfl
 |some e=>obtain⟨h1,h2,_,h4⟩:=h e rfl;simp only[Option.map_some];rw[(X02z e h1.ok h4 h2).fd]
theorem Xs8 {o:Option Ex} (h:tOk true o):(X8i (o.map Ex.fd)).map Ex.fd=X8i (o.map Ex.fd):=by
 cases o with
 |none=>rfl
 |some e =>
  obtain⟨h1,h2,_,h4⟩:=h e rfl;simp only[Option.map_some,X8i];split
  ·rfl
  ·simp only[Option.map_some];rw[(X02z e h1.ok h4 h2).fd]
theorem X083 (o:Option Ex):X8i (X8i o)=X8i o:=by
 cases o with
 |none=>rfl
 |some e =>
  by_cases hc:e.cs=true/\e.vl zr≠0
  ·rw[Xyk hc.1 hc.2];rfl
  ·have:X8i (some e)=some e:=by unfold X8i;simp only;rw[if_neg hc]
   rw[this,this]
theorem tum2 (n:Xi):tum (tum n)=tum n:=by
 unfold tum
 grind
theorem Xws {q:X6} {a w:Option Ex} {n:Xi} (h:Rr q a w n):∃ c1 c2 c3,X2l (mkQ q a w n) 1=some (mkQ q (a.map Ex.fd) (w.map Ex.fd) n,c1,0)/\X2l (mkQ q (a.map Ex.fd) (w.map Ex.fd) n) 2=some (mkQ q (a.map Ex.fd) (X8i (w.map Ex.fd)) n,c2,0) /\
  X2l (mkQ q (a.map Ex.fd) (X8i (w.map Ex.fd)) n) 3=some (Xtw q a w n,c3,0)/\(a.map Ex.fd=a->w.map Ex.fd=w->X8i w=w->tum n=n->c1=false/\c2=false/\c3=false):=by
 refine⟨_,_,_,Xp9 h (.inl rfl),Xp9 h.m1 (.inr (.inl rfl)),Xp9 h.m1.m2 (.inr (.inr rfl)),λe1 e2 e3 e4=>?_⟩
 simp_all [Xu9,if_pos,if_neg]
theorem X04o {q:X6} {a w:Option Ex} {n:Xi} (h:Rr q a w n):X66 (mkQ q a w n)=some (Xtw q a w n,0):=by
 obtain⟨c1,c2,c3,p1,p2,p3,_⟩:=Xws h;obtain⟨d1,d2,d3,r1,r2,r3,r4⟩:=Xws h.all;obtain⟨rfl,rfl,rfl⟩:=r4 (Xs5 h.ta) (Xs8 h.tw) (X083 _) (tum2 n);have hid:Xtw q (a.map Ex.fd) (X8i (w.map Ex.fd)) (tum n)=Xtw q a w n:=by
  unfold Xtw;rw[Xs5 h.ta,Xs8 h.tw,X083,tum2]
 rw[hid] at r3;unfold X66;obtain⟨k,hk⟩:∃ k,FU=k+1+1:=⟨99998,rfl⟩;rw[hk,X4w,show decide ((0:Int)<20)=true from rfl,cond_true,p1,Yo];simp only[bne_self_eq_false,cond_false];rw[p2,Yo];simp only[bne_self_eq_false,cond_false];rw[p3,Yo];simp only[bne_self_eq_false,cond_false];by_cases hc:(!(bif (bif c1 then true else c2) then true else c3))=true
 ·rw[hc];rfl
 ·rw[Bool.not_eq_true] at hc;rw[hc,cond_false,show IntKind.i64.wrap (0+1)=1 from rfl,X4w,show decide ((1:Int)<20)=true from rfl,cond_true,show Xtw q a w n=mkQ q (a.map Ex.fd) (X8i (w.map Ex.fd)) (tum n) from rfl,r1,Yo];simp only[bne_self_eq_false,cond_false];rw[r2,Yo];simp only[bne_self_eq_false,cond_false];rw[r3];rfl
end Go.D


namespace Go.D
theorem X03k {z:Int} (h:wfI .u8 z):0<=z:=by
 have h:=h;simp only[wfI,Lit.wf,IntKind.bits,IntKind.signed] at h;simp at h;have e1:IntKind.u8.min=0:=by decide
 omega
theorem Xk3 {z:Int} (h:wfI .i64 z):z<=9223372036854775807 /\ -9223372036854775808<=z:=by
 have h:=h;simp only[wfI,Lit.wf,IntKind.bits,IntKind.signed] at h;simp at h;have e1:IntKind.i64.min = -9223372036854775808:=by decide
 grind
theorem X0dw {q:X6} (w:Xfu q):QW q:=by
 obtain⟨_,⟨_,h1⟩,_,_,⟨_,h2⟩,h3,_⟩:=w;exact⟨λx hx=>X03k (h1 x hx).1,λx hx=>X03k (h2 x hx).1,Xk3 h3.2.2⟩
end Go.D


namespace Go.D
theorem X07i {q:X6}:Xa0 q=some (decide (q.Arg.length>70\/q.Where.length>70\/q.Sources.length>10)):=by
 unfold Xa0 Xa3;have e:∀ {n m:Nat},decide ((n:Int)>(m:Int))=decide (n>m):=λ{n m}=>decide_eq_decide.2 om;have e1:decide ((q.Arg.length:Int)>70)=decide (q.Arg.length>70):=e (m:=70);have e2:decide ((q.Where.length:Int)>70)=decide (q.Where.length>70):=e (m:=70);have e3:decide ((q.Sources.length:Int)>10)=decide (q.Sources.length>10):=e (m:=10);simp only[Yo,e1,e2,e3];by_cases h1:q.Arg.length>70<;>by_cases h2:q.Where.length>70<;>by_cases h3:q.Sources.length>10<;>simp[h1,h2,h3]
theorem wf_N {q:X6} (w:Xfu q):(∀ x∈q.Arg,i64 x.N)/\(∀ x∈q.Where,i64 x.N):=by
 obtain⟨_,⟨_,h1⟩,_,_,⟨_,h2⟩,_⟩:=w;exact⟨λx hx=>⟨(Xk3 (h1 x hx).2.1).2,(Xk3 (h1 x hx).2.1).1⟩,λx hx=>⟨(Xk3 (h2 x hx).2.1).2,(Xk3 (h2 x hx).2.1).1⟩⟩
theorem X0ck {q:X6} {a w:Option Ex} {n:Xi} (h:Rr q a w n):Xtw q (a.map Ex.fd) (X8i (w.map Ex.fd)) (tum n)=Xtw q a w n:=by
 unfold Xtw;rw[Xs5 h.ta,Xs8 h.tw,X083,tum2]
theorem X08q {q:X6} {a w:Option Ex} {n:Xi} (h:Rr q a w n):X66 (Xtw q a w n)=some (Xtw q a w n,0):=by
 have:=X04o h.all;rw[X0ck h] at this;exact this
end Go.D


namespace Go.D
theorem Xb3 (x y:X04):X23 x y=decide (x=y):=by
 obtain⟨a,b,c⟩:=x;obtain⟨a',b',c'⟩:=y;simp only[X23,Bool.and_true]
 grind
def X03x:Int := -9223372036854775808
def X02v:Int:=9223372036854775807
def Xas (t:Int):Bool:=decide (-1099511627776<=t)&&decide (t<=1099511627776)
def Xsx (x:Xv):Bool:=bif x.Mark then decide (x.Record=⟨0,0,0⟩)&&(Xas x.Time||x.Time==X02v) else x.Time==0&&Xas x.Record.Time
def chk (l:List Xv):Int:=if 60<l.length then 4 else bif l.all Xsx then 0 else 8
theorem Xkv {n:Nat} (h:n<=140737488355328):X4s n=some ():=by unfold X4s;rw[if_pos h]
end Go.D


namespace Go.D
theorem Xq4 (t:Int):Xbi t=some (Xas t):=by
 unfold Xbi Xas;simp only[ge_iff_le];cases decide (-1099511627776<=t)<;>rfl
theorem Xiz (l:List Xv):∀ (xs:List Xv) (k:Nat),X4i l xs k=some (bif xs.all Xsx then .x0 else .x1):=by
 intro xs
 induction xs with
 |nil=>intro k;rfl
 |cons x xs ih =>
  intro k;rw[X4i,ih];simp only[Xq4,Xb3,List.all_cons,Xsx,X02v];generalize decide (x.Record=⟨0,0,0⟩)=b1;generalize Xas x.Time=b2;generalize Xas x.Record.Time=b3;generalize (x.Time==9223372036854775807)=b4;generalize (x.Time==0)=b5;generalize x.Mark=b6;cases b1<;>cases b2<;>cases b3<;>cases b4<;>cases b5<;>cases b6<;>rfl
theorem Xo6 (l:List Xv):Xbj l=some (chk l):=by
 unfold Xbj chk;by_cases h:60<l.length
 ·rw[if_pos h,show decide ((l.length:Int)>60)=true from Yt om];rfl
 ·rw[if_neg h,show decide ((l.length:Int)>60)=false from Yf om,Xkv om];simp only[cond_false,Yo,Xiz];cases l.all Xsx<;>rfl
end Go.D


namespace Go.D
theorem Xlz (t:Int):X7m t 1=some (bif Xas t then 0 else 16):=by
 unfold X7m Xas;by_cases h1 : -1099511627776<=t
 ·rw[show decide (t < -1099511627776)=false from Yf om,Yt h1];by_cases h2:t<=1099511627776
  ·rw[show decide (t>1099511627776)=false from Yf om,Yt h2];rfl
  ·rw[show decide (t>1099511627776)=true from Yt om,Yf h2];rfl
 ·rw[show decide (t < -1099511627776)=true from Yt om,Yf h1];rfl
theorem Xlx (x:Xv):X9w x=some (Xsx x):=by
 unfold X9w Xsx X02v;simp only[Xlz,Xb3];generalize decide (x.Record=⟨0,0,0⟩)=b1;generalize Xas x.Time=b2;generalize Xas x.Record.Time=b3;generalize (x.Time==9223372036854775807)=b4;generalize (x.Time==0)=b5;generalize x.Mark=b6;cases b1<;>cases b2<;>cases b3<;>cases b4<;>cases b5<;>cases b6<;>rfl
theorem Xh6 (l:List Xv):∀ (xs:List Xv) (k:Nat),X3s l xs k=some (bif xs.all Xsx then .x0 else .x1):=by
 intro xs
 induction xs with
 |nil=>intro k;rfl
 |cons x xs ih =>
  intro k;rw[X3s,ih];simp only[Xlx,List.all_cons,Yo];cases Xsx x<;>rfl
theorem Xly (l:List Xv):X9x l=some (chk l):=by
 unfold X9x chk;by_cases h:60<l.length
 ·rw[if_pos h,show decide ((l.length:Int)>60)=true from Yt om];rfl
 ·rw[if_neg h,show decide ((l.length:Int)>60)=false from Yf om,Xkv om];simp only[cond_false,Yo,Xh6];cases l.all Xsx<;>rfl
theorem X04m {l:List Xv}:chk l=0↔l.length<=60/\∀ x∈l,Xsx x=true:=by
 unfold chk;constructor
 ·intro h;split at h
  ·cases h
  ·refine⟨by omega,?_⟩
   cases ha:l.all Xsx with
   |true=>exact List.all_eq_true.1 ha
   |false=>rw[ha] at h;cases h
 ·rintro⟨h1,h2⟩;rw[if_neg om,List.all_eq_true.2 h2];rfl
end Go.D


namespace Go.D
theorem nxt {k:Nat} (h:k<=100000):IntKind.i64.wrap ((k:Int)+1)=((k+1:Nat):Int):=by rw[X0q om om];omega
theorem X0gd {α β:Type} {o:Option α} {f:α->Option β} {Q:α->Prop} {R:β->Prop} (h:∃ a,o=some a/\Q a) (k:∀ a,Q a->∃ r,f a=some r/\R r):∃ r,o.bind f=some r/\R r:=by
 obtain⟨a,rfl,q⟩:=h;exact k a q
theorem X0cm (l Y:List X1):∀ (xs:List X1) (k:Nat),l.drop k=xs->X3u Y l xs k=some .x0
 |[],k,_=>rfl
 |x::xs,k,h=>by
  obtain⟨_,hk,hd⟩:=Go.Av.drop_cons h;rw[X3u,X30,hk,Yo,Xau,Yt rfl];exact X0cm l Y xs (k+1) hd
theorem Xzf {l:List X1} (h:l.length<=100):X7q l l=some true:=by
 unfold X7q;rw[bne_self_eq_false,cond_false,X2z om,Yo,X0cm l l l 0 rfl];rfl
theorem X09z (l Y:List Int):∀ (xs:List Int) (k:Nat),l.drop k=xs->X1v Y l xs k=some .x0
 |[],k,_=>rfl
 |x::xs,k,h=>by
  obtain⟨_,hk,hd⟩:=Go.Av.drop_cons h;rw[X1v,X30,hk,Yo,bne_self_eq_false];exact X09z l Y xs (k+1) hd
theorem X054 {l:List Int} (h:l.length<=100):X44 l l=some true:=by
 unfold X44;rw[bne_self_eq_false,cond_false,X2z om,Yo,X09z l l l 0 rfl];rfl
theorem X0ac {q:X6} (h1:q.Arg.length<=100) (h2:q.Where.length<=100) (h3:q.Sources.length<=100):Xa2 q q=some true:=by
 unfold Xa2;rw[Xzf h1,Xzf h2,X054 h3,Xew,Yt rfl];simp only[beq_self_eq_true,cond_true,Yo]
theorem g_L0 (g:Xu) (h:g.Ops.length<=100):∀ (n k:Nat),g.Ops.length - k<n->k<=g.Ops.length->X5h g g n (k:Int)=some .x1
 |0,k,h1,_=>by omega
 |n+1,k,h1,h2=>by
  rw[X5h];by_cases hk:k<g.Ops.length
  ·rw[Yt om,cond_true,X30,Ye hk,Yo,Yo,show X74 g.Ops[k] g.Ops[k]=true by simp[X74],nxt om];exact g_L0 g h n (k+1) om om
  ·rw[Yf om];rfl
theorem g_L1 (g:Xu) (h:g.Channels.length<=100):∀ (n k:Nat),g.Channels.length - k<n->k<=g.Channels.length->X5g g g n (k:Int)=some .x1
 |0,k,h1,_=>by omega
 |n+1,k,h1,h2=>by
  rw[X5g];by_cases hk:k<g.Channels.length
  ·rw[Yt om,cond_true,X30,Ye hk,Yo,Yo,show Xds g.Channels[k] g.Channels[k]=true by simp[Xds],nxt om];exact g_L1 g h n (k+1) om om
  ·rw[Yf om];rfl
theorem X0bn {g:Xu} (h1:g.Ops.length<=100) (h2:g.Channels.length<=100):Xbd g g=some true:=by
 have e0:=g_L0 g h1 FU 0 (by unfold FU;omega) om;have e1:=g_L1 g h2 FU 0 (by unfold FU;omega) om;unfold Xbd;rw[bne_self_eq_false,bne_self_eq_false];simp only[cond_false];rw[show(0:Int)=((0:Nat):Int) from rfl,e0,e1];rfl
def nt (o:GOp) (m:List Int) (e:List Xv):X02:=⟨o,0,[],m,[],e,[],[]⟩
def TF (t:X02):Prop:=∃ o m e,t=nt o m e/\m.length<=4/\e.length<=60
theorem t_L0 (t:X02) (h:t.Marks.length<=100):∀ (n k:Nat),t.Marks.length - k<n->k<=t.Marks.length->X5f t t n (k:Int)=some .x1
 |0,k,h1,_=>by omega
 |n+1,k,h1,h2=>by
  rw[X5f];by_cases hk:k<t.Marks.length
  ·rw[Yt om,cond_true,X30,Ye hk,Yo,Yo,bne_self_eq_false,nxt om];exact t_L0 t h n (k+1) om om
  ·rw[Yf om];rfl
theorem t_L2 (t:X02) (h:t.Events.length<=100):∀ (n k:Nat),t.Events.length - k<n->k<=t.Events.length->X5e t t n (k:Int)=some .x1
 |0,k,h1,_=>by omega
 |n+1,k,h1,h2=>by
  rw[X5e];by_cases hk:k<t.Events.length
  ·rw[Yt om,cond_true,X30,Ye hk,Yo,Yo,show Xhn t.Events[k] t.Events[k]=true by simp[Xhn,X23],nxt om];exact t_L2 t h n (k+1) om om
  ·rw[Yf om];rfl
theorem X09u {t:X02} (h:TF t):Xbb t t=some true:=by
 obtain⟨o,m,e,rfl,hm,he⟩:=h;have e0:=t_L0 (nt o m e) (by show m.length<=_;omega) FU 0 (by unfold FU;show m.length - 0<_;omega) om;have e2:=t_L2 (nt o m e) (by show e.length<=_;omega) FU 0 (by unfold FU;show e.length - 0<_;omega) om;have e1:X6r (nt o m e) (nt o m e) FU 0=some .x1:=rfl;have e3:X6q (nt o m e) (nt o m e) FU 0=some .x1:=rfl;have e4:X6p (nt o m e) (nt o m e) FU 0=some .x1:=rfl;have es:X6s (nt o m e).Pending (nt o m e).Pending=some true:=rfl;have ho:X74 (nt o m e).Op (nt o m e).Op=true:=by simp[X74]
 rw[show((0:Nat):Int)=0 from rfl] at e0 e2;unfold Xbb;rw[ho,es,e0,e1,e2,e3,e4];simp only[bne_self_eq_false,Bool.not_true,cond_false,Yo]
theorem X0ab (l Y:List X05) (hq:∀ q∈l,q.List=[]):∀ (xs:List X05) (k:Nat),l.drop k=xs->X2v Y l xs k=some .x0
 |[],k,_=>rfl
 |x::xs,k,h=>by
  obtain⟨_,hk,hd⟩:=Go.Av.drop_cons h;have e:Xbc x x=some true:=by
   unfold Xbc;rw[hq x (Yg hk),beq_self_eq_true];rfl
  rw[X2v,X30,hk,Yo,e];exact X0ab l Y hq xs (k+1) hd
theorem m_L0 (m:Xl) (h:m.Tasks.length<=100) (ht:∀ t∈m.Tasks,TF t):∀ (n k:Nat),m.Tasks.length - k<n->k<=m.Tasks.length->X5d m m n (k:Int)=some .x1
 |0,k,h1,_=>by omega
 |n+1,k,h1,h2=>by
  rw[X5d];by_cases hk:k<m.Tasks.length
  ·rw[Yt om,cond_true,X30,Ye hk,Yo,Yo,X09u (ht _ (List.getElem_mem hk)),nxt om];exact m_L0 m h ht n (k+1) om om
  ·rw[Yf om];rfl
theorem X0aw {m:Xl} (h1:m.Query.Arg.length<=100) (h2:m.Query.Where.length<=100) (h3:m.Query.Sources.length<=100) (h4:m.Graph.Ops.length<=100) (h5:m.Graph.Channels.length<=100)
  (h6:m.Tasks.length<=100) (ht:∀ t∈m.Tasks,TF t) (h7:m.Queues.length<=100) (hq:∀ q∈m.Queues,q.List=[]):X6e m m=some true:=by
 have e:=m_L0 m h6 ht FU 0 (by unfold FU;omega) om;unfold X6e Xdz X91;rw[X0ac h1 h2 h3,X0bn h4 h5,bne_self_eq_false,bne_self_eq_false,X2z om];simp only[cond_false,cond_true,Yo];rw[X0ab m.Queues m.Queues hq m.Queues 0 rfl];simp only[cond_false,cond_true,Yo,Bool.not_true];rw[show(0:Int)=((0:Nat):Int) from rfl,e];rfl
def gOk (n:Int) (o:GOp):Bool :=
 decide (0<=o.N)&&(bif o.Kind==1 then decide (o.N<n) else bif o.Kind==2||o.Kind==3 then decide (o.N<4) else bif o.Kind==4||o.Kind==5 then decide (o.N<3) else o.Kind==6||o.Kind==7)
def gA (n:Int):Option (Xu×Int)->Bool
 |some (g,e)=>e==0&&(!g.Ops.isEmpty&&(!g.Channels.isEmpty&&(decide (g.Ops.length<=100)&&(decide (g.Channels.length<=100)&&(g.Ops.all (gOk n)&&g.Channels.all λc=>decide (1<=c.Room)&&decide (c.Room<=8))))))
 |none=>false
theorem X02j {p:X5y} {parts room:Int} (hp:X9h p=some 0) (hn:1<=p.Query.Sources.length/\p.Query.Sources.length<=4) (hl:p.Query.Late=1\/p.Query.Late=2) (h1:1<=parts/\parts<=3) (h2:1<=room/\room<=8) :
  gA p.Query.Sources.length (Xeb p parts room)=true:=by
 unfold Xeb;rw[hp];obtain⟨st,⟨ag,ar,src,jn,wh,wi,bk,la⟩⟩:=p;clear hp;have hq:parts=1\/parts=2\/parts=3:=by omega
 have hr:room=1\/room=2\/room=3\/room=4\/room=5\/room=6\/room=7\/room=8:=by omega
 change la=1\/la=2 at hl
 change 1<=src.length/\src.length<=4 at hn
 clear h1 h2;rcases src with _|⟨a,_|⟨b,_|⟨c,_|⟨d,_|⟨e,s⟩⟩⟩⟩⟩
 ·simp at hn
 iterate 4 (rcases hl with rfl|rfl<;>rcases hq with rfl|rfl|rfl<;>rcases hr with rfl|rfl|rfl|rfl|rfl|rfl|rfl|rfl<;>cases jn<;>cases bk<;>(show(_:Bool)=_)<;>kernel_rfl)
 ·simp at hn
theorem X00w (q:X6):∃ st,X9g q=some st/\st.length<=20:=by
 unfold X9g;cases decide ((List.length q.Where:Int)>0)<;>cases q.ByKey<;>cases q.Join<;>cases(q.Late==(2:Int))<;>exact⟨_,rfl,by decide⟩
theorem X04f (l Y:List Int):∀ (xs:List Int) (k:Nat),l.drop k=xs->X0t Y l xs k=some .x0
 |[],k,_=>rfl
 |x::xs,k,h=>by
  obtain⟨_,hk,hd⟩:=Go.Av.drop_cons h;rw[X0t,X30,hk,Yo,bne_self_eq_false];exact X04f l Y xs (k+1) hd
theorem X06c {q:X6} (hc:X1n q=some (0,0)) (h1:q.Arg.length<=100) (h2:q.Where.length<=100) (h3:q.Sources.length<=100):∃ st,Xkl q=some (⟨st,q⟩,0)/\X9h ⟨st,q⟩=some 0:=by
 obtain⟨st,hs,hl⟩:=X00w q;refine⟨st,?_,?_⟩
 ·unfold Xkl;rw[hc,Xdv h1,Xdv h2,Xli h3];simp only[Yo,bne_self_eq_false,cond_false,hs]
 ·unfold X9h X2p;simp only[hc,hs,Yo,bne_self_eq_false,cond_false];rw[X2z om,Yo,X04f st st st 0 rfl];rfl
theorem src1 {e:Xv} (h:Xsx e=true):X88 e=some false:=by
 obtain⟨k,t,r⟩:=e;have it:∀ z:Int,X4z z=some (Xas z):=λz=>by
  unfold X4z Xas;by_cases h1:(-1099511627776:Int)<=z<;>by_cases h2:z<=1099511627776<;>simp[h1,h2]
 unfold X88 X93 Xe8 X7z;unfold Xsx X02v at h;simp only[it,Yo,Xb3]
 cases k with
 |true =>
  simp only[cond_true,Bool.and_eq_true] at h ⊢;obtain⟨h1,h2⟩:=h;have e:(bif Xas t then true else t==(9223372036854775807:Int))=true:=by rw[<-h2];cases Xas t<;>rfl
  rw[e,h1];rfl
 |false =>
  simp only[cond_false,Bool.and_eq_true] at h ⊢;obtain⟨h1,h2⟩:=h;rw[h2,show(t != 0)=false by simpa using h1];rfl
theorem srcI (l:List Xv) (Y:List Xv) (h:∀ e∈l,Xsx e=true):∀ (xs:List Xv) (k:Nat),l.drop k=xs->X0a Y xs k=some .x0
 |[],k,_=>rfl
 |x::xs,k,hd=>by
  obtain⟨_,hk,hd2⟩:=Go.Av.drop_cons hd;rw[X0a,src1 (h x (Yg hk)),Yo,cond_false];exact srcI l Y h xs (k+1) hd2
theorem rng {i n:Int} (h:0<=i/\i<n):(bif decide (i<(0:Int)) then true else decide (i >= n))=false:=by
 rw[Yf om,cond_false,Yf om]
theorem Xw4 {i:Int} {l:List Xv} (h:0<=i/\i<4) (hc:chk l=0):Xba i l=some (nt ⟨1,i⟩ [] l,0):=by
 obtain⟨h1,h2⟩:=X04m.1 hc;unfold Xba X0l X0v;rw[rng h,Yf (show ¬ (l.length:Int)>60 by omega),X2z om,srcI l l h2 l 0 rfl,X03a _ _ _ om];rfl
theorem Xt6 {n:Int} (h:1<=n/\n<=4):∃ m,Xdc n=some (m,0)/\m.length<=4:=by
 have:n=1\/n=2\/n=3\/n=4:=by omega
 rcases this with rfl|rfl|rfl|rfl<;>exact⟨_,rfl,by decide⟩
theorem X06s {l:List (List Xv)} {q:X6} (hn:1<=l.length/\l.length<=4) (hq:q.Sources.length=l.length) (hev:∀ x∈l,chk x=0) {x:GOp} (hx:gOk l.length x=true) {r:Option (X02×Int)}
  (h1:x.Kind=1->r=(X79 x.N l).bind λv=>some (v.1,v.2)) (h2:x.Kind=2->r=(Xbo x.N).bind λv=>some (v.1,v.2)) (h3:x.Kind=3->r=(Xgb x.N).bind λv=>some (v.1,v.2))
  (h4:x.Kind=4->r=(X78 x.N q).bind λv=>some (v.1,v.2)) (h5:x.Kind=5->r=(Xgi x.N).bind λv=>some (v.1,v.2)) (h6:x.Kind=6->r=(X9d x.N).bind λv=>some (v.1,v.2)) (h7:x.Kind=7->r=(X9c x.N).bind λv=>some (v.1,v.2)) :
  ∃ a,r=some a/\a.2=0/\TF a.1:=by
 obtain⟨k,i⟩:=x;unfold gOk at hx;simp only[Bool.and_eq_true,decide_eq_true_eq] at hx h1 h2 h3 h4 h5 h6 h7;obtain⟨h0,hx⟩:=hx;have hk:k=1\/k=2\/k=3\/k=4\/k=5\/k=6\/k=7:=by
  by_cases a1:k=1
  ·exact .inl a1
  by_cases a2:k=2\/k=3
  ·omega
  by_cases a3:k=4\/k=5
  ·omega
  ·have e1:(k==1)=false:=by simp[a1]
   have e2:(k==2||k==3)=false:=by simp;omega
   have e3:(k==4||k==5)=false:=by simp;omega
   rw[e1,e2,e3] at hx;simp at hx;omega
 rcases hk with rfl|rfl|rfl|rfl|rfl|rfl|rfl
 ·have hi:i<l.length:=of_decide_eq_true hx;have hlt:i.toNat<l.length:=by omega
  have e:getI l i=some l[i.toNat]:=by
   have:=X30 l i.toNat;rw[Int.toNat_of_nonneg h0] at this;exact this.trans (Ye hlt)
  have hc:=hev _ (List.getElem_mem hlt);refine⟨(nt ⟨1,i⟩ [] l[i.toNat],0),(h1 rfl).trans ?_,rfl,_,_,_,rfl,Nat.zero_le _,(X04m.1 hc).1⟩;unfold X79;rw[e,Yo,Xw4 om hc];rfl
 ·have hi:i<4:=of_decide_eq_true hx;refine⟨(nt ⟨2,i⟩ [X03x] [],0),(h2 rfl).trans ?_,rfl,⟨2,i⟩,[X03x],[],rfl,by decide,Nat.zero_le _⟩;unfold Xbo;rw[rng ⟨h0,hi⟩];rfl
 ·have hi:i<4:=of_decide_eq_true hx;refine⟨(nt ⟨3,i⟩ [] [],0),(h3 rfl).trans ?_,rfl,⟨3,i⟩,[],[],rfl,Nat.zero_le _,Nat.zero_le _⟩;unfold Xgb;rw[rng ⟨h0,hi⟩];rfl
 ·have hi:i<3:=of_decide_eq_true hx;obtain⟨m,hm,hl⟩:=Xt6 (n:=q.Sources.length) om;refine⟨(nt ⟨4,i⟩ m [],0),(h4 rfl).trans ?_,rfl,⟨4,i⟩,m,[],rfl,hl,Nat.zero_le _⟩;unfold X78 Xpc;simp only[hm,Yo,bne_self_eq_false,cond_false];rw[rng ⟨h0,hi⟩];rfl
 ·have hi:i<3:=of_decide_eq_true hx;obtain⟨m,hm,hl⟩:=Xt6 (n:=2) om;refine⟨(nt ⟨5,i⟩ m [],0),(h5 rfl).trans ?_,rfl,⟨5,i⟩,m,[],rfl,hl,Nat.zero_le _⟩;unfold Xgi;rw[rng ⟨h0,hi⟩,hm];rfl
 ·exact⟨_,h6 rfl,rfl,⟨6,0⟩,[],[],rfl,Nat.zero_le _,Nat.zero_le _⟩
 ·exact⟨_,h7 rfl,rfl,⟨7,0⟩,[],[],rfl,Nat.zero_le _,Nat.zero_le _⟩
theorem X0ch {a b:Int} {q:X6} {m:Xl} (l Y:List (List Xv)) (hev:∀ x∈l,chk x=0):∀ (xs:List (List Xv)) (k:Nat),l.drop k=xs->X3x a b q Y m xs k=some .x0
 |[],k,_=>rfl
 |x::xs,k,hd=>by
  obtain⟨_,hk,hd2⟩:=Go.Av.drop_cons hd;rw[X3x,Xo6,Yo,hev x (Yg hk),bne_self_eq_false,cond_false];exact X0ch l Y hev xs (k+1) hd2
theorem X0cg {o0:Xl} {o1:Xu} {a0 a5 a6 a7 a9:Int} {a1 a4:List X1} {a2:List Int} {a3 a8:Bool} {b1:List GOp} {b2:List X7} {l:List (List Xv)} {q:X6} (hn:1<=l.length/\l.length<=4) (hq:q.Sources.length=l.length) (hev:∀ x∈l,chk x=0) :
  ∀ (xs:List GOp) (k:Nat) (acc:List X02),(∀ x∈xs,gOk l.length x=true)->(∀ t∈acc,TF t)->acc.length+xs.length<=100->∃ r,X3w o0 o1 a0 a1 a2 a3 a4 a5 a6 a7 a8 a9 b1 b2 l q xs k acc=some r/\∃ ts,r=.x0 ts/\(∀ t∈ts,TF t)/\ts.length=acc.length+xs.length
 |[],k,acc,_,ha,_=>⟨_,rfl,acc,rfl,ha,rfl⟩
 |x::xs,k,acc,hx,ha,hl=>by
  rw[X3w];refine X0gd (X06s hn hq hev (hx x List.mem_cons_self) ?_ ?_ ?_ ?_ ?_ ?_ ?_) λa h=>?_
  iterate 7 (intro hk;rw[hk];rfl)
  obtain⟨h1,h2⟩:=h;rw[List.length_cons] at hl;rw[h1,bne_self_eq_false,cond_false,X77 (by rw[List.length_append,List.length_singleton];omega),Yo]
  obtain⟨r,e,ts,rfl,g1,g2⟩:=X0cg hn hq hev xs (k+1) (acc++[a.1]) (λy hy=>hx y (List.mem_cons_of_mem _ hy)) (λt ht=>by
   rcases List.mem_append.1 ht with h|h
   ·exact ha t h
   ·rw[List.mem_singleton.1 h];exact h2) (by rw[List.length_append,List.length_singleton];omega)
  exact⟨_,e,ts,rfl,g1,by rw[g2,List.length_append,List.length_singleton,List.length_cons];omega⟩
theorem X0cf {o0:Xl} {a0 a5 a6 a7 a9:Int} {a1 a4:List X1} {a2:List Int} {a3 a8:Bool} {b1:List GOp} {b2:List X7} {b3:List X02} :
  ∀ (xs:List X7) (k:Nat) (acc:List X05),(∀ x∈xs,1<=x.Room/\x.Room<=8)->(∀ t∈acc,t.List=[])->acc.length+xs.length<=100->∃ r,X3v o0 a0 a1 a2 a3 a4 a5 a6 a7 a8 a9 b1 b2 b3 xs k acc=some r/\∃ ts,r=.x0 ts/\(∀ t∈ts,t.List=[])/\ts.length=acc.length+xs.length
 |[],k,acc,_,ha,_=>⟨_,rfl,acc,rfl,ha,rfl⟩
 |x::xs,k,acc,hx,ha,hl=>by
  rw[X3v];have h0:=hx x List.mem_cons_self;have e0:Xae x.Room=some (⟨x.Room,[]⟩,0):=by
   unfold Xae;rw[Yf om,cond_false,Yf om];rfl
  rw[List.length_cons] at hl;simp only[e0,Yo,bne_self_eq_false,cond_false];rw[X77 (by rw[List.length_append,List.length_singleton];omega),Yo]
  obtain⟨r,e,ts,rfl,g1,g2⟩:=X0cf xs (k+1) (acc++[⟨x.Room,[]⟩]) (λy hy=>hx y (List.mem_cons_of_mem _ hy)) (λt ht=>by
   rcases List.mem_append.1 ht with h|h
   ·exact ha t h
   ·rw[List.mem_singleton.1 h]) (by rw[List.length_append,List.length_singleton];omega)
  exact⟨_,e,ts,rfl,g1,by rw[g2,List.length_append,List.length_singleton,List.length_cons];omega⟩
theorem Xtv {q:X6} {l:List (List Xv)} {parts room:Int} (hc:X1n q=some (0,0)) (hlen:l.length=q.Sources.length) (hev:∀ x∈l,chk x=0) (h1:q.Arg.length<=100) (h2:q.Where.length<=100)
  (hs:1<=q.Sources.length/\q.Sources.length<=4) (hl:q.Late=1\/q.Late=2) (hp:1<=parts/\parts<=3) (hr:1<=room/\room<=8):∃ m,X6a q l parts room=some (m,0)/\X6e m m=some true:=by
 obtain⟨st,p1,p2⟩:=X06c hc h1 h2 om;have hg:=X02j p2 hs hl hp hr
 cases e:Xeb ⟨st,q⟩ parts room with
 |none=>rw[e] at hg;cases hg
 |some ge =>
  obtain⟨g,z⟩:=ge;rw[e] at hg;simp only[gA,Bool.and_eq_true,beq_iff_eq,decide_eq_true_eq,List.all_eq_true,Bool.not_eq_true'] at hg;obtain⟨rfl,g1,g2,g3,g4,g5,g6⟩:=hg;have k1:g.Ops≠[]:=λh=>by rw[h] at g1;cases g1
  have k2:g.Channels≠[]:=λh=>by rw[h] at g2;cases g2
  unfold X6a;simp only[hc,Yo,bne_self_eq_false,cond_false,hlen];rw[X2z om,X0ch l l hev l 0 rfl];simp only[p1,e,Yo,bne_self_eq_false,cond_false,Xdv h1,Xdv h2,Xli (show q.Sources.length<=100 by omega)];rw[X2z om,Yo];obtain⟨r,e1,ts,rfl,t1,t2⟩:=X0cg (o0:=⟨⟨0,[],[],false,[],⟨0,0,0⟩,false,0⟩,⟨[],[]⟩,[],[]⟩) (o1:=g) (a0:=q.Agg) (a1:=q.Arg) (a2:=q.Sources) (a3:=q.Join) (a4:=q.Where) (a5:=q.Window.Kind) (a6:=q.Window.Size) (a7:=q.Window.Every) (a8:=q.ByKey) (a9:=q.Late) (b1:=g.Ops) (b2:=g.Channels) (q:=q) om hlen.symm hev g.Ops 0 [] (λx hx=>by rw[hlen];exact g5 x hx) (λ_ h=>by cases h) (by simp;omega);have b0:ts.length=g.Ops.length:=by rw[t2];simp
  have b1:List.isEmpty ts=false:=by
   cases ts with
   |nil=>cases ho:g.Ops with
    |nil=>exact absurd ho k1
    |cons=>rw[ho] at b0;cases b0
   |cons=>rfl
  rw[e1];simp only[Yo,b1,cond_false];rw[X2z om,Yo];obtain⟨r,e2,qs,rfl,q1,q2⟩:=X0cf (o0:=⟨⟨0,[],[],false,[],⟨0,0,0⟩,false,0⟩,⟨[],[]⟩,[],[]⟩) (a0:=q.Agg) (a1:=q.Arg) (a2:=q.Sources) (a3:=q.Join) (a4:=q.Where) (a5:=q.Window.Kind) (a6:=q.Window.Size) (a7:=q.Window.Every) (a8:=q.ByKey) (a9:=q.Late) (b1:=g.Ops) (b2:=g.Channels) (b3:=ts) g.Channels 0 [] g6 (λ_ h=>by cases h) (by simp;omega);have b2:qs.length=g.Channels.length:=by rw[q2];simp
  have b3:List.isEmpty qs=false:=by
   cases qs with
   |nil=>cases ho:g.Channels with
    |nil=>exact absurd ho k2
    |cons=>rw[ho] at b2;cases b2
   |cons=>rfl
  rw[e2];simp only[Yo,b3,cond_false];exact⟨_,rfl,X0aw h1 h2 (by show q.Sources.length<=_;omega) g3 g4 (by show ts.length<=_;omega) t1 (by show qs.length<=_;omega) q1⟩
theorem X04n {a b:Int} (l Y:List (List Xv)):∀ (xs:List (List Xv)) (k:Nat),l.drop k=xs->∃ r,X3r Y a b xs k=some r/\(r=.x0->∀ x∈xs,chk x=0)/\∀ z,r=.x1 z->z≠0
 |[],k,_=>⟨_,rfl,λ_ x hx=>(by cases hx),λ_ h=>(by cases h)⟩
 |x::xs,k,hd=>by
  obtain⟨_,hk,hd2⟩:=Go.Av.drop_cons hd;rw[X3r,Xly,Yo];by_cases h:chk x=0
  ·obtain⟨r,h1,h2,h3⟩:=X04n l Y xs (k+1) hd2;rw[h,bne_self_eq_false,cond_false,h1]
   exact⟨r,rfl,λe y hy=>by
    rcases List.mem_cons.1 hy with rfl|hy
    ·exact h
    ·exact h2 e y hy,h3⟩
  ·rw[Xsf h,cond_true];exact⟨_,rfl,λe=>(by cases e),λz e=>by cases e;exact h⟩
theorem X0bj (Y:List (List Xv)):∀ (xs:List (List Xv)) (k:Nat),∃ r,X3q Y xs k=some r
 |[],k=>⟨_,rfl⟩
 |x::xs,k=>by
  rw[X3q]
  cases decide ((x.length:Int)>70) with
  |true=>exact⟨_,rfl⟩
  |false=>exact X0bj Y xs (k+1)
theorem X0f0 (q:X6) (l:List (List Xv)):∃ b,X9v q l=some b/\(b=false->l.length<=6):=by
 unfold X9v;rw[X07i,Yo];generalize decide (q.Arg.length>70\/q.Where.length>70\/q.Sources.length>10)=c
 cases c with
 |true=>exact⟨true,rfl,λh=>by cases h⟩
 |false =>
  by_cases h:l.length<=6
  ·rw[cond_false,Yf om,cond_false,X2z om,Yo];obtain⟨r,e⟩:=X0bj l l 0;rw[e];cases r<;>exact⟨_,rfl,λ_=>h⟩
  ·rw[cond_false,Yt om];exact⟨true,rfl,λh=>by cases h⟩
theorem X0bv {q:X6} {l:List (List Xv)} {o:X2u} (hq:QW q):∃ b,Xdd q l o=some b/\(b=true->(Xwq q).2=0/\l.length=q.Sources.length/\(∀ x∈l,chk x=0)/\(1<=o.Parts/\o.Parts<=3)/\1<=o.Room/\o.Room<=8):=by
 obtain⟨g,hg,hl⟩:=X0f0 q l;unfold Xdd;rw[hg,Yo]
 cases g with
 |true=>exact⟨_,rfl,λh=>by cases h⟩
 |false =>
  have hl:=hl rfl;unfold Xc3;rw[Xm1 hq];simp only[Bool.not_false,cond_true,Yo];by_cases hz:(Xwq q).2=0
  ·rw[hz,bne_self_eq_false,cond_false];by_cases hn:l.length=q.Sources.length
   ·rw[show((l.length:Int) != (q.Sources.length:Int))=false by rw[hn,bne_self_eq_false],cond_false,X2z om,Yo];obtain⟨r,h1,h2,h3⟩:=X04n (a:=o.Parts) (b:=o.Room) l l l 0 rfl;rw[h1]
    cases r with
    |x0 =>
     simp only[Yo];by_cases hp:o.Parts<1\/o.Parts>3\/o.Room<1\/o.Room>8
     ·have:(bif (bif (bif decide (o.Parts<1) then true else decide (o.Parts>3)) then true else decide (o.Room<1)) then true else decide (o.Room>8))=true:=by
       rcases hp with h|h|h|h<;>rw[Yt h]<;>simp
      rw[this];exact⟨_,rfl,λh=>by cases h⟩
     ·simp only[Yf (show ¬ o.Parts<1 by omega),Yf (show ¬ o.Parts>3 by omega),Yf (show ¬ o.Room<1 by omega),Yf (show ¬ o.Room>8 by omega),cond_false,Yo];exact⟨_,rfl,λ_=>⟨trivial,hn,h2 rfl,by omega,by omega⟩⟩
    |x1 z=>exact⟨z==0,rfl,λe=>absurd (by simpa using e) (h3 z rfl)⟩
   ·rw[Xsf om];exact⟨_,rfl,λh=>by cases h⟩
  ·rw[Xsf hz,cond_true];exact⟨(Xwq q).2==0,rfl,λe=>absurd (by simpa using e) hz⟩
theorem X053 {s:List Int} {j:Bool} (h:X6n s j=0):1<=s.length:=by
 cases s with
 |nil=>cases j<;>(revert h;decide)
 |cons=>simp
theorem Xek (q:X6) (l:List (List Xv)) (o:X2u) (wq:Xfu q) (wl:(List.length l<=maxLen/\∀ y∈l,(List.length y<=maxLen/\∀ yy∈y,Xfv yy))) {P:Prop} (_:P):X5i q l o=some true:=by
 have hq:=X0dw wq;obtain⟨hA,hW⟩:=wf_N wq;obtain⟨b,hb,hb2⟩:=X0bv (l:=l) (o:=o) hq;unfold X5i;rw[show Xfk=some true from rfl,Yo,hb,Yo]
 cases b with
 |false=>rfl
 |true =>
  obtain⟨hz,hlen,hev,hp,hr⟩:=hb2 rfl;obtain⟨a,w,h,he⟩:=X011 hA hW hz;obtain⟨l1,l2,l3⟩:=h.lens;obtain⟨m1,m2,m3⟩:=h.all.lens;have ck:X1n q=some (0,0):=by rw[X76 hq,he,h.chk]
  have cx:X1n (Xtw q a w q.Window)=some (0,0):=(X76 h.all.qw).trans (congrArg some h.all.chk);rw[<-he] at l1 l2 l3;have hs:1<=q.Sources.length/\q.Sources.length<=4:=⟨X053 h.src,Xnt h.src⟩;obtain⟨A,a1,a2⟩:=Xtv ck hlen hev l1 l2 hs h.late hp hr;obtain⟨B,b1,b2⟩:=Xtv cx hlen hev m1 m2 hs h.late hp hr;have r0:=X04o h;rw[<-he] at r0;have r1:=X08q h;have oc:∀ c,X6w ⟨o.Parts,o.Room,c⟩=some 0:=λc=>by
   unfold X6w;simp only[Yf (show ¬ o.Parts<1 by omega),Yf (show ¬ o.Parts>3 by omega),Yf (show ¬ o.Room<1 by omega),Yf (show ¬ o.Room>8 by omega),cond_false]
  have x1:X11 q l ⟨o.Parts,o.Room,true⟩=some (B,0):=by
   unfold X11;simp only[ck,oc,r0,b1,Yo,bne_self_eq_false,cond_false,cond_true]
  have x2:X11 (Xtw q a w q.Window) l ⟨o.Parts,o.Room,true⟩=some (B,0):=by
   unfold X11;simp only[cx,oc,r1,b1,Yo,bne_self_eq_false,cond_false,cond_true]
  have x3:X11 (Xtw q a w q.Window) l ⟨o.Parts,o.Room,false⟩=some (B,0):=by
   unfold X11;simp only[cx,oc,b1,Yo,bne_self_eq_false,cond_false]
  have x4:X11 q l ⟨o.Parts,o.Room,false⟩=some (A,0):=by
   unfold X11;simp only[ck,oc,a1,Yo,bne_self_eq_false,cond_false]
  simp only[r0,x1,x2,x3,x4,a1,a2,b2,Yo,Bool.not_true,cond_false,cond_true,beq_self_eq_true]
end Go.D
