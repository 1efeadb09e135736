/- Parts of the proof, laid together. -/
import Derived.Test.YtomaojndejpfgaaGreatDoorDFunR
set_option linter.all false
set_option maxHeartbeats 4000000

namespace Go.D
theorem X05 {z:Int} (h1 : -9223372036854775808<=z) (h2:z<=9223372036854775807):IntKind.i64.wrap z=z:=Go.IntWalk.i64_in z ⟨h1,h2⟩
theorem X1w {n:Nat} (h:n<=140737488355328):X3t n=some ():=by unfold X3t;rw[if_pos h]
theorem X3q {n b:Nat} (h:n*b<=140737488355328):X1c n b=some ():=by unfold X1c;rw[if_pos h]
theorem X2r {α:Type} (l:List α) (k:Nat):getI l (k:Int)=l[k]?:=by simp[getI]
theorem Xgi (z:Int):IntKind.i64.wrap z=(z+9223372036854775808) % 18446744073709551616 - 9223372036854775808:=by
 have h:IntKind.i64.wrap z=if z % 18446744073709551616 >= 9223372036854775808 then z % 18446744073709551616 - 18446744073709551616 else z % 18446744073709551616:=by
  grind [IntKind.wrap,IntKind.bits,IntKind.signed]
 grind
theorem X0d3 (a b:Int):IntKind.i64.wrap (IntKind.i64.wrap a+b)=IntKind.i64.wrap (a+b):=by simp only[Xgi];omega
theorem X0d2 (a b:Int):IntKind.i64.wrap (a+IntKind.i64.wrap b)=IntKind.i64.wrap (a+b):=by simp only[Xgi];omega
theorem ltge (a b:Int):a<b\/b<=a:=by omega
theorem Xzp {α:Type} {l:List α} (h:l.Nodup):l.reverse.Nodup:=by
 unfold List.Nodup at *;rw[List.pairwise_reverse];exact h.imp λh=>Ne.symm h
def okT (t:Int):Prop := -1099511627776<=t/\t<=1099511627776
def okW (w:Xn):Prop:=1<=w.Size/\w.Size<=1073741824/\((w.Kind=2/\1<=w.Every/\w.Every<=w.Size/\w.Size<=16*w.Every)\/((w.Kind=1\/w.Kind=3)/\w.Every=0))
theorem Xpe {a b:Int} (h:¬ a=b):(a != b)=true:=by simp[h]
theorem lz {n:Nat} (h:0<n):((n:Int)==0)=false:=by simp;omega
theorem lz' {n:Nat} (h:¬ 0<n):((n:Int)==0)=true:=by simp;omega
theorem X3x {w:Xn} (h:okW w):X0y w=some 0:=by
 obtain⟨h1,h2,h3⟩:=h;have e1:decide (w.Size<1)=false:=by simp;omega
 have e2:decide (w.Size>1073741824)=false:=by simp;omega
 simp only[X0y,e1,e2,cond_false];rcases h3 with ⟨k,a1,a2,a3⟩|⟨k|k,a⟩
 ·have e3:(w.Kind==2)=true:=by simp[k]
  have e4:decide (w.Every >= 1)=true:=by simp;omega
  have e5:decide (w.Every<=w.Size)=true:=by simp;omega
  have e6:decide (w.Size<=IntKind.i64.wrap (16*w.Every))=true:=by rw[X05 om om];simp;omega
  simp only[e3,e4,e5,e6,cond_true]
 ·have e3:(w.Kind==2)=false:=by simp[k]
  have e4:(w.Kind==1)=true:=by simp[k]
  have e5:(w.Every==0)=true:=by simp[a]
  simp only[e3,e4,e5,cond_true,cond_false]
 ·have e3:(w.Kind==2)=false:=by simp[k]
  have e4:(w.Kind==1)=false:=by simp[k]
  have e6:(w.Kind==3)=true:=by simp[k]
  have e5:(w.Every==0)=true:=by simp[a]
  simp only[e3,e4,e5,e6,cond_true,cond_false]
end Go.D


namespace Go.D
theorem Xdj (x y:X4):X25 x y=decide (x=y):=by
 obtain⟨a,b,c,d,e⟩:=x;obtain⟨f,g,h,i,j⟩:=y;rw[Bool.eq_iff_iff];simp[X25,and_assoc]
theorem Xj3 {α:Type} {l:List α} {k:Nat} (h:k<=l.length):X5n l 0 (k:Int)=some (l.take k):=by
 simp_all [X5n,if_pos]
theorem Xgl {α:Type} {l:List α} {k:Nat} (h:k<=l.length):X5n l (k:Int) (l.length:Int)=some (l.drop k):=by
 simp_all [X5n,if_pos,Int.toNat_natCast,List.take_of_length_le,List.length_drop,Nat.le_refl]
def okN (x:X4) (a b:Int):Prop:=1<=x.Kind/\x.Kind<=19/\0<=x.N/\(x.N=0\/x.Kind=1)/\0<=x.At/\x.At<=400/\x.A=a/\x.B=b
instance (x:X4) (a b:Int):Decidable (okN x a b):=by unfold okN;infer_instance
theorem Xnx (x:X4) (a b:Int):X62 x a b=some (decide (okN x a b)):=by
 unfold X62 okN
 grind
def nst (sd:List (Nat×Nat)) (x:X4):Option (Nat×Nat) :=
 if x.Kind<=4 then (if okN x 0 0 then some (1,1) else none)
 else match sd.getLast? with
  |none=>none
  |some (s2,d2) =>
   if x.Kind<=6 then (if okN x ((sd.length:Int) - 1) 0 then some (1+s2,1+d2) else none)
   else if sd.length - 1<s2 then none
   else match sd[sd.length - 1 - s2]? with
    |none=>none
    |some (s1,d1)=>if okN x ((sd.length:Int) - 1 - s2) ((sd.length:Int) - 1) then some (1+s2+s1,max (1+d2) (1+d1)) else none
def Xej:List X4->List (Nat×Nat)->Option (List (Nat×Nat))
 |[],sd=>some sd
 |x::xs,sd=>match nst sd x with
  |some q=>Xej xs (sd++[q])
  |none=>none
def X8d (j:Nat) (q:Nat×Nat):Xh:=⟨(j:Int),(q.1:Int),(q.2:Int)⟩
inductive Xax (sd:List (Nat×Nat)):Nat->List Xh->Prop
 |nil:Xax sd 0 []
 |snoc {j:Nat} {q:Nat×Nat} {st:List Xh} (hq:sd[j]?=some q) (h1:1<=q.1) (h2:q.1<=j+1) (h3:q.2<=q.1) (h:Xax sd (j+1 - q.1) st):Xax sd (j+1) (st++[X8d j q])
theorem Xax.more {sd sd':List (Nat×Nat)} {k:Nat} {st:List Xh} (h:Xax sd k st) (hs:∀ j,j<k->sd'[j]?=sd[j]?):Xax sd' k st:=by
 induction h with
 |nil=>exact .nil
 |@snoc j q st hq h1 h2 h3 _ ih=>exact .snoc (by grind) h1 h2 h3 (ih λi hi=>hs i om)
theorem Xax.app {sd e:List (Nat×Nat)} {k:Nat} {st:List Xh} (h:Xax sd k st) (hk:k<=sd.length):Xax (sd++e) k st:=h.more λj hj=>List.getElem?_append_left om
theorem Xax.len {sd:List (Nat×Nat)} {k:Nat} {st:List Xh} (h:Xax sd k st):st.length<=k:=by
 induction h with
 |nil=>simp
 |snoc hq h1 h2 h3 _ ih=>simp;omega
theorem Xlj {k:Nat} (h:1<=k) (hk:k<=1000000):IntKind.i64.wrap ((k:Int) - 1)=((k - 1:Nat):Int):=by grind [X05]
theorem Xo2 {x:X4} (h0:0<=x.Kind):X2n x.Kind=some (if 1<=x.Kind/\x.Kind<=19 then ((if x.Kind<=4 then 0 else if x.Kind<=6 then 1 else 2),0) else (0,2)):=by
 grind [X2n]
theorem Xzi {x : X4} {a b : Int} (h1 : 1 <= x.Kind) (h2 : x.Kind <= 19) :
    ((bif (x.Kind==(1:Int)) then (some (X4.mk x.Kind (if 0>x.N then 0 else x.N) a b (if 400<(if 0>x.At then 0 else x.At) then 400 else (if 0>x.At then 0 else x.At)))) else (some (X4.mk x.Kind 0 a b (if 400<(if 0>x.At then 0 else x.At) then 400 else (if 0>x.At then 0 else x.At)))):Option (X4)).bind λo=>some (X25 o x))=some (decide (okN x a b)):=by
  obtain⟨K,N,A,B,At⟩:=x;have hat:((if 400<(if 0>At then 0 else At) then 400 else (if 0>At then 0 else At))=At)↔(0<=At/\At<=400):=by
    grind
  have hn:((if 0>N then 0 else N)=N)↔0<=N:=by grind
  have key:∀ n':Int,(n'=N↔(0<=N/\(N=0\/K=1)))->(some (X25 (X4.mk K n' a b (if 400<(if 0>At then 0 else At) then 400 else (if 0>At then 0 else At))) ⟨K,N,A,B,At⟩):Option Bool)=some (decide (okN ⟨K,N,A,B,At⟩ a b)):=by
    intro n' hn';rw[Xdj];congr 1
    apply decide_eq_decide.2;rw[X4.mk.injEq,hat,hn'];unfold okN;constructor
    · rintro⟨_,⟨g1,g2⟩,hA,hB,g3,g4⟩
      exact⟨h1,h2,g1,g2,g3,g4,hA.symm,hB.symm⟩
    · rintro⟨_,_,g1,g2,g3,g4,hA,hB⟩
      exact⟨rfl,⟨g1,g2⟩,hA.symm,hB.symm,g3,g4⟩
  by_cases hk:K=1
  · have:(K==1)=true:=by simp[hk]
    show(Option.bind (bif (K==1) then _ else _) _)=_;rw[this,cond_true,Yo];exact key _ (by rw[hn];simp[hk])
  · have:(K==1)=false:=by simp[hk]
    show(Option.bind (bif (K==1) then _ else _) _)=_;rw[this,cond_false,Yo]
    exact key _ (by constructor
                    · intro h;omega
                    · rintro⟨_,h⟩;rcases h with h|h<;>omega)
theorem Xpg {β:Type} {o:Option X4} {x:X4} {d:Bool} {f g:Option β} (h:(o.bind λz=>some (X25 z x))=some d):(o.bind λz=>bif (!(X25 z x)) then f else g)=bif d then g else f:=by
 cases o with
 |none=>cases h
 |some z =>
  simp only[Yo,Option.some.injEq] at h;rw[Yo,h];cases d<;>rfl
def X67 (sd:List (Nat×Nat)):List Xh:=sd.mapIdx X8d
theorem Xry (sd:List (Nat×Nat)) (q:Nat×Nat):X67 (sd++[q])=X67 sd++[X8d sd.length q]:=by unfold X67;simp
theorem Xmt (sd:List (Nat×Nat)):(X67 sd).length=sd.length:=by unfold X67;simp
theorem Xax.inv {sd:List (Nat×Nat)} {k:Nat} {st:List Xh} (h:Xax sd k st) (hk:0<k):∃ q st0,sd[k - 1]?=some q/\1<=q.1/\q.1<=k/\q.2<=q.1/\Xax sd (k - q.1) st0/\st=st0++[X8d (k - 1) q]:=by
 cases h with
 |nil=>omega
 |@snoc j q st0 hq h1 h2 h3 h=>exact⟨q,st0,hq,h1,h2,h3,h,rfl⟩
theorem Xax.zero {sd:List (Nat×Nat)} {st:List Xh} (h:Xax sd 0 st):st=[]:=by
 cases h;rfl
theorem X08m (Y : List X4) : ∀ (xs : List X4) (sd : List (Nat × Nat)) (st : List Xh), (∀ x ∈ xs, 0 <= x.Kind) -> sd.length + xs.length <= 1000 -> Xax sd sd.length st -> (∀ j q, sd[j]? = some q -> 1 <= q.1 /\ q.1 <= j + 1 /\ q.2 <= q.1) ->
    match Xej xs sd with
    |some sd'=>∃ st',X1m Y xs sd.length (X67 sd) st=some (.x0 (X67 sd') st')/\Xax sd' sd'.length st'
    |none=>∃ all,X1m Y xs sd.length (X67 sd) st=some (.x1 all):=by
  intro xs
  induction xs with
  |nil=>intro sd st _ _ hc _;exact⟨st,rfl,hc⟩
  |cons x xs ih =>
    intro sd st h0 hn hc hb;simp only[List.length_cons] at hn;have hx:=h0 x List.mem_cons_self;rw[X1m,Xo2 hx];have go : ∀ (q : Nat × Nat) (st0 : List Xh), nst sd x = some q -> Xax (sd ++ [q]) (sd.length + 1) (st0 ++ [X8d sd.length q]) -> 1 <= q.1 -> q.1 <= sd.length + 1 -> q.2 <= q.1 ->
        (match Xej (x::xs) sd with
          |some sd'=>∃ st',X1m Y xs (sd.length+1) (X67 sd++[X8d sd.length q]) (st0++[X8d sd.length q])=some (.x0 (X67 sd') st')/\Xax sd' sd'.length st'
          |none=>∃ all,X1m Y xs (sd.length+1) (X67 sd++[X8d sd.length q]) (st0++[X8d sd.length q])=some (.x1 all)):=by
      intro q st0 hq hc2 g1 g2 g3
      have:=ih (sd++[q]) (st0++[X8d sd.length q]) (λy hy=>h0 y (List.mem_cons_of_mem _ hy)) (by simp;omega) (by simpa using hc2) (λj q' hj=>by
        rw[List.getElem?_append] at hj;split at hj
        · exact hb j q' hj
        · rename_i hlt
          have:j=sd.length:=by
            have:=(Ys.1 hj).1;simp at this;omega
          subst this
          simp at hj;subst hj;exact⟨g1,g2,g3⟩)
      rw[Xry,List.length_append] at this;unfold Xej;rw[hq];exact this
    have stop:nst sd x=none->∀ {o:Option X53},(∃ all,o=some (.x1 all))->(match Xej (x::xs) sd with
          |some sd'=>∃ st',o=some (.x0 (X67 sd') st')/\Xax sd' sd'.length st'
          |none=>∃ all,o=some (.x1 all)):=by
      grind [Xej]
    have cap:∀ (l:List Xh) (t:Xh),l.length<=2000->X1c (List.length (l++[t])) 24=some ():=λl t hl=>X3q (by simp;omega);have hla:(X67 sd).length<=2000:=by unfold X67;simp;omega
    have hst:=hc.len;by_cases hr:1<=x.Kind/\x.Kind<=19
    · rw[if_pos hr]
      simp only[Yo,bne_self_eq_false,cond_false];by_cases h4:x.Kind<=4
      · -- no parts
        have e1:decide ((if x.Kind<=4 then (0:Int) else if x.Kind<=6 then 1 else 2)>(st.length:Int))=false:=by grind
        rw[e1,cond_false,if_pos h4];have e2:IntKind.i64.wrap ((st.length:Int) - 0)=(st.length:Int):=by grind [X05]
        rw[e2,Xj3 (Nat.le_refl _),Xgl (Nat.le_refl _),List.take_length,List.drop_length];simp only[Yo,List.isEmpty_nil,cond_true];rw[Xpg (Xzi hr.1 hr.2)];by_cases hok:okN x 0 0
        · rw[Yt hok,cond_true,cap st _ om,cap _ _ hla]
          exact go (1,1) st (by unfold nst;rw[if_pos h4,if_pos hok]) (.snoc (by simp) (Nat.le_refl _) om (Nat.le_refl _) (by simpa using hc.app (Nat.le_refl _))) (Nat.le_refl _) om (Nat.le_refl _)
        · rw[Yf hok,cond_false]
          exact stop (by unfold nst;rw[if_pos h4,if_neg hok]) ⟨_,rfl⟩
      · have hgl:0<sd.length->∃ q,sd.getLast?=some q/\sd[sd.length - 1]?=some q:=by
          intro h;refine⟨sd[sd.length - 1]' om,?_,?_⟩
          · rw[List.getLast?_eq_getElem?];exact Ye _
          · exact Ye _
        by_cases h6:x.Kind<=6
        · -- one part
          rw[if_neg h4,if_pos h6];by_cases hl:sd.length=0
          · rw[hl] at hc
            have:=hc.zero;subst this;simp only[List.length_nil];exact stop (by unfold nst;grind) ⟨_,rfl⟩
          · obtain⟨q,st0,hq,g1,g2,g3,hc0,rfl⟩:=hc.inv om
            obtain⟨q',hq1,hq2⟩:=hgl om;rw[hq] at hq2;cases hq2;have hs0:=hc0.len;have e1:decide ((1:Int)>((st0++[X8d (sd.length - 1) q]).length:Int))=false:=by simp;omega
            rw[e1,cond_false];have e2:IntKind.i64.wrap (((st0++[X8d (sd.length - 1) q]).length:Int) - 1)=(st0.length:Int):=by
              grind [X05,List.length_append,List.length_singleton]
            rw[e2,Xj3 (by simp),Xgl (by simp),List.take_left,List.drop_left];simp only[Yo,List.isEmpty_cons,cond_false,List.length_singleton];rw[show(((1:Nat):Int)==1)=true from rfl,cond_true];rw[show getI [X8d (sd.length - 1) q] 0=some (X8d (sd.length - 1) q) from rfl,Yo];rw[Xpg (Xzi hr.1 hr.2)];have ea:(X8d (sd.length - 1) q).at_=(sd.length:Int) - 1:=by unfold X8d;grind
            rw[ea];by_cases hok:okN x ((sd.length:Int) - 1) 0
            · have e3:(Xh.mk (sd.length:Int) (IntKind.i64.wrap (1+(X8d (sd.length - 1) q).size)) (if (IntKind.i64.wrap ((X8d (sd.length - 1) q).depth+1))>1 then (IntKind.i64.wrap ((X8d (sd.length - 1) q).depth+1)) else 1))=X8d sd.length (1+q.1,1+q.2):=by
                grind [X8d,X05]
              rw[Yt hok,cond_true,e3,cap st0 _ om,cap _ _ hla];refine go (1+q.1,1+q.2) st0 (by unfold nst;grind) (.snoc (by simp) (by grind) (by grind) (by grind) ?_) (by grind) (by grind) (by grind);have:=hc0.app (e:=[(1+q.1,1+q.2)]) om
              grind
            · rw[Yf hok,cond_false]
              exact stop (by unfold nst;grind) ⟨_,rfl⟩
        · -- two parts
          rw[if_neg h4,if_neg h6];by_cases hl:sd.length=0
          · rw[hl] at hc
            have:=hc.zero;subst this;simp only[List.length_nil];exact stop (by unfold nst;grind) ⟨_,rfl⟩
          · obtain⟨q,st1,hq,g1,g2,g3,hc1,rfl⟩:=hc.inv om
            obtain⟨q',hq1,hq2⟩:=hgl om;rw[hq] at hq2;cases hq2;by_cases hl1:sd.length - q.1=0
            · rw[hl1] at hc1
              have:=hc1.zero;subst this;exact stop (by unfold nst;rw[if_neg h4,hq1];simp only;rw[if_neg h6,if_pos om]) ⟨_,rfl⟩
            · obtain⟨p,st0,hp,f1,f2,f3,hc0,rfl⟩:=hc1.inv om
              have hs0:=hc0.len;rw[List.append_assoc];have e1:decide ((2:Int)>((st0++([X8d (sd.length - q.1 - 1) p]++[X8d (sd.length - 1) q])).length:Int))=false:=by simp;omega
              rw[e1,cond_false];have e2:IntKind.i64.wrap (((st0++([X8d (sd.length - q.1 - 1) p]++[X8d (sd.length - 1) q])).length:Int) - 2)=(st0.length:Int):=by
                rw[X05 (by simp only[List.length_append,List.length_singleton];omega) (by simp only[List.length_append,List.length_singleton];omega)];simp only[List.length_append,List.length_singleton];omega
              rw[e2,Xj3 (by simp),Xgl (by simp),List.take_left,List.drop_left];simp only[Yo,List.singleton_append,List.isEmpty_cons,cond_false,List.length_cons,List.length_nil];rw[show((((0:Nat)+1+1:Nat):Int)==1)=false from rfl,show((((0:Nat)+1+1:Nat):Int)==2)=true from rfl,cond_false,cond_true];rw[show getI [X8d (sd.length - q.1 - 1) p,X8d (sd.length - 1) q] 0=some (X8d (sd.length - q.1 - 1) p) from rfl,show getI [X8d (sd.length - q.1 - 1) p,X8d (sd.length - 1) q] 1=some (X8d (sd.length - 1) q) from rfl,Yo,Yo];rw[Xpg (Xzi hr.1 hr.2)];have ea:(X8d (sd.length - 1) q).at_=(sd.length:Int) - 1:=by unfold X8d;grind
              have eb:(X8d (sd.length - q.1 - 1) p).at_=(sd.length:Int) - 1 - q.1:=by unfold X8d;grind
              rw[ea,eb];have hp':sd[sd.length - 1 - q.1]?=some p:=by grind
              by_cases hok:okN x ((sd.length:Int) - 1 - q.1) ((sd.length:Int) - 1)
              · have e3:(Xh.mk (sd.length:Int) (IntKind.i64.wrap ((IntKind.i64.wrap (1+(X8d (sd.length - q.1 - 1) p).size))+(X8d (sd.length - 1) q).size)) (if (IntKind.i64.wrap ((X8d (sd.length - 1) q).depth+1))>(if (IntKind.i64.wrap ((X8d (sd.length - q.1 - 1) p).depth+1))>1 then (IntKind.i64.wrap ((X8d (sd.length - q.1 - 1) p).depth+1)) else 1) then (IntKind.i64.wrap ((X8d (sd.length - 1) q).depth+1)) else (if (IntKind.i64.wrap ((X8d (sd.length - q.1 - 1) p).depth+1))>1 then (IntKind.i64.wrap ((X8d (sd.length - q.1 - 1) p).depth+1)) else 1)))=X8d sd.length (1+q.1+p.1,max (1+q.2) (1+p.2)):=by
                  unfold X8d;simp only;rw[X05 (z:=1+(p.1:Int)) om om,X05 om om,X05 om om,X05 om om];congr 1
                  · push_cast;omega
                  · split<;>split<;>omega
                rw[Yt hok,cond_true,e3,cap st0 _ om,cap _ _ hla];refine go (1+q.1+p.1,max (1+q.2) (1+p.2)) st0 (by unfold nst;rw[if_neg h4,hq1];simp only;rw[if_neg h6,if_neg om,hp'];simp only;rw[if_pos hok]) (.snoc (by simp) (by simp only;omega) (by simp only;omega) (by simp only;omega) ?_) (by simp only;omega) (by simp only;omega) (by simp only;omega);have:=hc0.app (e:=[(1+q.1+p.1,max (1+q.2) (1+p.2))]) om;simp only;rw[show sd.length+1 - (1+q.1+p.1)=sd.length - q.1 - p.1 by omega];exact this
              · rw[Yf hok,cond_false]
                exact stop (by unfold nst;simp_all [if_neg]) ⟨_,rfl⟩
    · rw[if_neg hr]
      have hno:nst sd x=none:=by
        have no:∀ a b,¬ okN x a b:=λa b h=>hr ⟨h.1,h.2.1⟩;unfold nst;simp only[no,if_false];split
        · rfl
        · split
          · rfl
          · split
            · rfl
            · split
              · rfl
              · split<;>rfl
      exact stop hno ⟨_,rfl⟩
def nchk (l:List X4):Int :=
 if l.length>60 then 4 else match Xej l [] with
  |none=>8
  |some sd=>match sd.getLast? with
   |none=>8
   |some q=>if q.1=l.length then (if q.2>20 then 34 else 0) else 8
theorem Xfu:∀ (xs:List X4) (sd sd':List (Nat×Nat)),Xej xs sd=some sd'->sd'.length=sd.length+xs.length
 |[],sd,sd',h=>by cases h;simp
 |x::xs,sd,sd',h=>by
  unfold Xej at h;split at h
  ·have:=Xfu xs _ _ h;simp at this;simp;omega
  ·cases h
theorem Xmu {sd:List (Nat×Nat)} {i:Nat} {q:Nat×Nat} (h:sd[i]?=some q):getI (X67 sd) (i:Int)=some (X8d i q):=by
 rw[X2r];unfold X67;rw[List.getElem?_mapIdx,h];rfl
theorem Xek {l:List X4} (h0:∀ x∈l,0<=x.Kind):∃ t,X7m l=some (t,nchk l)/\(nchk l=0->∃ sd,Xej l []=some sd/\t=X67 sd):=by
 unfold X7m nchk;by_cases h60:l.length>60
 ·rw[Yt (show(l.length:Int)>60 by omega),cond_true,if_pos h60];exact⟨_,rfl,by omega⟩
 ·rw[Yf (show ¬ (l.length:Int)>60 by omega),cond_false,if_neg h60];have hL:=X08m l l [] [] h0 (by simp;omega) .nil (by simp);unfold Xdt;rw[X1w om]
  cases hr:Xej l [] with
  |none =>
   rw[hr] at hL;obtain⟨all,hL⟩:=hL;simp only[List.length_nil] at hL;rw[show X67 []=[] from rfl] at hL;rw[hL];exact⟨_,rfl,by simp⟩
  |some sd =>
   rw[hr] at hL;obtain⟨st,hL,hc⟩:=hL;simp only[List.length_nil] at hL;rw[show X67 []=[] from rfl] at hL;rw[hL];have hn:=Xfu l [] sd hr;simp only[List.length_nil,Nat.zero_add] at hn;simp only[Yo];by_cases hz:sd.length=0
   ·have:sd=[]:=List.eq_nil_of_length_eq_zero hz;subst this;have:=hc.zero;subst this;simp
   ·obtain⟨q,st0,hq,g1,g2,g3,hc0,rfl⟩:=hc.inv om;have hg:sd.getLast?=some q:=by grind
    rw[hg];simp only;have hst:(((st0++[X8d (sd.length - 1) q]).length:Int)==1)=decide (q.1=l.length):=by
     rw[Bool.eq_iff_iff];simp only[List.length_append,List.length_singleton,beq_iff_eq,decide_eq_true_eq];constructor
     ·intro h;have h1:st0.length=0:=by omega
      by_cases hk:sd.length - q.1=0
      ·omega
      ·obtain⟨_,s1,_,_,_,_,_,rfl⟩:=hc0.inv om;simp at h1
     ·intro h;rw[show sd.length - q.1=0 by omega] at hc0;rw[hc0.zero];rfl
    rw[hst];by_cases he:q.1=l.length
    ·rw[Yt he,if_pos he];simp only[Bool.not_true,cond_false];rw[show IntKind.i64.wrap (((X67 sd).length:Int) - 1)=((sd.length - 1:Nat):Int) by grind [Xmt,Xlj]];rw[Xmu hq,Yo];by_cases hd:q.2>20
     ·rw[if_pos hd,show decide ((X8d (sd.length - 1) q).depth>20)=true from Yt (by unfold X8d;grind)]
      grind
     ·rw[if_neg hd,show decide ((X8d (sd.length - 1) q).depth>20)=false from Yf (by unfold X8d;grind)]
      grind
    simp_all
theorem X5s {l:List X4} (h0:∀ x∈l,0<=x.Kind):X1v l=some (nchk l):=by
 obtain⟨t,h,_⟩:=Xek h0;unfold X1v;rw[h];rfl
def szs (sd:List (Nat×Nat)):List Int:=sd.map λq=>(q.1:Int)
def dps (sd:List (Nat×Nat)):List Int:=sd.map λq=>(q.2:Int)
theorem Xs0 {sd:List (Nat×Nat)} {i:Nat} {q:Nat×Nat} (h:sd[i]?=some q):getI (szs sd) (i:Int)=some (q.1:Int):=by
 rw[X2r];unfold szs;grind
theorem Xtw {sd:List (Nat×Nat)} {i:Nat} {q:Nat×Nat} (h:sd[i]?=some q):getI (dps sd) (i:Int)=some (q.2:Int):=by
 rw[X2r];unfold dps;grind
theorem X04b (Y : List X4) : ∀ (xs : List X4) (sd : List (Nat × Nat)), sd.length + xs.length <= 1000 -> (∀ j q, sd[j]? = some q -> 1 <= q.1 /\ q.1 <= j + 1 /\ q.2 <= q.1) ->
    match Xej xs sd with
    |some sd'=>X17 Y xs sd.length (szs sd) (dps sd)=some (.x0 (szs sd') (dps sd'))
    |none=>X17 Y xs sd.length (szs sd) (dps sd)=some (.x1 [] []):=by
  intro xs
  induction xs with
  |nil=>intro sd _ _;rfl
  |cons x xs ih =>
    intro sd hn hb;simp only[List.length_cons] at hn;rw[X17];have go : ∀ (q : Nat × Nat), nst sd x = some q -> 1 <= q.1 -> q.1 <= sd.length + 1 -> q.2 <= q.1 ->
        (match Xej (x::xs) sd with
          |some sd'=>X17 Y xs (sd.length+1) (szs sd++[(q.1:Int)]) (dps sd++[(q.2:Int)])=some (.x0 (szs sd') (dps sd'))
          |none=>X17 Y xs (sd.length+1) (szs sd++[(q.1:Int)]) (dps sd++[(q.2:Int)])=some (.x1 [] [])):=by
      intro q hq g1 g2 g3
      have:=ih (sd++[q]) (by simp;omega) (λj q' hj=>by
        grind)
      rw[List.length_append] at this;unfold Xej;rw[hq];unfold szs dps at this ⊢
      simp_all
    have stop:nst sd x=none->∀ {o:Option X4f},o=some (.x1 [] [])->(match Xej (x::xs) sd with
          |some sd'=>o=some (.x0 (szs sd') (dps sd'))
          |none=>o=some (.x1 [] [])):=by
      grind [Xej]
    have cap:∀ (l:List Int) (t:Int),l.length<=2000->X1c (List.length (l++[t])) 8=some ():=λl t hl=>X3q (by simp;omega);have hls:(szs sd).length<=2000:=by unfold szs;simp;omega
    have hld:(dps sd).length<=2000:=by unfold dps;simp;omega
    unfold X1e;by_cases h4:x.Kind<=4
    · rw[Yt h4,cond_true]
      simp only[Yo];rw[show decide ((0:Int)>0)=false from rfl,cond_false,Xnx,Yo];by_cases hok:okN x 0 0
      · rw[Yt hok,Bool.not_true,cond_false,cap _ _ hls,cap _ _ hld]
        exact go (1,1) (by unfold nst;grind) (Nat.le_refl _) om (Nat.le_refl _)
      · rw[Yf hok,Bool.not_false,cond_true]
        exact stop (by unfold nst;rw[if_pos h4,if_neg hok]) rfl
    · rw[Yf h4,cond_false]
      have hgl:0<sd.length->∃ q,sd.getLast?=some q/\sd[sd.length - 1]?=some q:=by
        intro h;refine⟨sd[sd.length - 1]' om,?_,?_⟩
        · rw[List.getLast?_eq_getElem?];exact Ye _
        · exact Ye _
      by_cases hl:sd.length=0
      · have hnil:=List.eq_nil_of_length_eq_zero hl
        refine stop (by unfold nst;grind) ?_;rw[hl];by_cases h6:x.Kind<=6
        · rw[Yt h6];rfl
        · rw[Yf h6];rfl
      · obtain⟨q,hq1,hq⟩:=hgl om
        obtain⟨g1,g2,g3⟩:=hb _ _ hq;have hw:IntKind.i64.wrap ((sd.length:Int) - 1)=((sd.length - 1:Nat):Int):=Xlj om om;rw[hw];rw[show decide (((sd.length - 1:Nat):Int)<0)=false from Yf om,Xs0 hq,Xtw hq];simp only[cond_false];by_cases h6:x.Kind<=6
        · rw[Yt h6,cond_true]
          simp only[Yo];rw[show decide ((1:Int)>0)=true from rfl,cond_true,show((1:Int)==2)=false from rfl,cond_false,Xnx,Yo];rw[show((sd.length - 1:Nat):Int)=(sd.length:Int) - 1 by omega];by_cases hok:okN x ((sd.length:Int) - 1) 0
          · rw[Yt hok,Bool.not_true,cond_false,cap _ _ hls,cap _ _ hld]
            rw[X05 om om,X05 om om];have:=go (1+q.1,1+q.2) (by unfold nst;grind) (by grind) (by grind) (by grind)
            grind
          · rw[Yf hok,Bool.not_false,cond_true]
            exact stop (by unfold nst;grind) rfl
        · rw[Yf h6,cond_false]
          simp only[Yo];rw[show decide ((2:Int)>0)=true from rfl,cond_true,show((2:Int)==2)=true from rfl,cond_true];have hw2:IntKind.i64.wrap (((sd.length - 1:Nat):Int) - q.1)=(sd.length:Int) - 1 - q.1:=by grind [X05]
          rw[hw2];by_cases hlt:sd.length - 1<q.1
          · rw[show decide ((sd.length:Int) - 1 - q.1<0)=true from Yt om,cond_true]
            exact stop (by unfold nst;grind) rfl
          · rw[show decide ((sd.length:Int) - 1 - q.1<0)=false from Yf om,cond_false]
            have hpe:sd[sd.length - 1 - q.1]?=some (sd[sd.length - 1 - q.1]' om):=Ye _;generalize sd[sd.length - 1 - q.1]' om=p at hpe;obtain⟨f1,f2,f3⟩:=hb _ _ hpe;rw[show(sd.length:Int) - 1 - q.1=((sd.length - 1 - q.1:Nat):Int) by omega,Xs0 hpe,Xtw hpe];simp only[Yo];rw[Xnx,Yo];rw[show((sd.length - 1 - q.1:Nat):Int)=(sd.length:Int) - 1 - q.1 by omega,show((sd.length - 1:Nat):Int)=(sd.length:Int) - 1 by omega];by_cases hok:okN x ((sd.length:Int) - 1 - q.1) ((sd.length:Int) - 1)
            · rw[Yt hok,Bool.not_true,cond_false,cap _ _ hls,cap _ _ hld]
              rw[X05 (z:=1+(q.1:Int)) om om,X05 (z:=1+(q.1:Int)+p.1) om om,X05 om om,X05 om om];have:=go (1+q.1+p.1,max (1+q.2) (1+p.2)) (by unfold nst;grind) (by grind) (by grind) (by grind);simp only at this;rw[show((1+q.1+p.1:Nat):Int)=1+(q.1:Int)+p.1 by omega,show((max (1+q.2) (1+p.2):Nat):Int)=(if 1+(p.2:Int)>1+q.2 then 1+(p.2:Int) else 1+q.2) by omega] at this;exact this
            · rw[Yf hok,Bool.not_false,cond_true]
              exact stop (by unfold nst;grind) rfl
theorem Xar {l:List X4}:X47 l=some (nchk l):=by
 unfold X47 nchk;by_cases h60:l.length>60
 ·grind
 ·rw[Yf (show ¬ (l.length:Int)>60 by omega),cond_false,if_neg h60];have hL:=X04b l l [] (by simp;omega) (by simp);unfold Xbz;rw[X1w om]
  cases hr:Xej l [] with
  |none =>
   rw[hr] at hL;simp only[List.length_nil] at hL;rw[show szs []=[] from rfl,show dps []=[] from rfl] at hL
   grind
  |some sd =>
   rw[hr] at hL;simp only[List.length_nil] at hL;rw[show szs []=[] from rfl,show dps []=[] from rfl] at hL;rw[Yo,hL];have hn:=Xfu l [] sd hr;simp only[List.length_nil,Nat.zero_add] at hn;simp only[Yo];by_cases hz:l.length=0
   ·grind
   ·have hq:sd[sd.length - 1]?=some (sd[sd.length - 1]' om):=Ye _;generalize sd[sd.length - 1]' om=q at hq;have hg:sd.getLast?=some q:=by grind
    rw[hg];have hw:IntKind.i64.wrap ((l.length:Int) - 1)=((sd.length - 1:Nat):Int):=by grind [Xlj]
    rw[show decide ((l.length:Int)>0)=true from Yt om,cond_true,hw,Xs0 hq];simp only[Yo,cond_true];rw[Xtw hq]
    grind
end Go.D


namespace Go.D
theorem X0e5 {sd:List (Nat×Nat)} {x:X4} {q:Nat×Nat} (h:nst sd x=some q):∃ a b,okN x a b/\(x.Kind<=4->a=0/\b=0)/\(5<=x.Kind->0<sd.length/\(x.Kind<=6->a=(sd.length:Int) - 1/\b=0)/\(7<=x.Kind->0<=a/\a<=(sd.length:Int) - 1/\b=(sd.length:Int) - 1)):=by
 unfold nst at h
 grind
structure Xgh (x:X4) (k:Nat):Prop where
 lo:1<=x.Kind
 hi:x.Kind<=19
 leaf:x.Kind<=4->x.A=0/\x.B=0
 a0:0<=x.A
 b0:0<=x.B
 ak:5<=x.Kind->x.A<k
 b1:5<=x.Kind->x.Kind<=6->x.B=0
 bk:5<=x.Kind->x.B<k
 n0:0<=x.N
 nk:x.N=0\/x.Kind=1
 at0:0<=x.At
 at1:x.At<=400
theorem Xzn:∀ (xs:List X4) (sd sd':List (Nat×Nat)),Xej xs sd=some sd'->∀ j x,xs[j]?=some x->Xgh x (sd.length+j)
 |[],sd,sd',h,j,x,hj=>by simp at hj
 |y::ys,sd,sd',h,j,x,hj=>by
  unfold Xej at h;split at h
  ·rename_i q hq
   cases j with
   |zero =>
    simp at hj;subst hj;obtain⟨a,b,ho,h4,h5⟩:=X0e5 hq;obtain⟨o1,o2,o3,o4,o5,o6,rfl,rfl⟩:=ho;refine⟨o1,o2,h4,?_,?_,?_,?_,?_,o3,o4,o5,o6⟩;all_goals
     by_cases h4':y.Kind<=4
     ·have:=h4 h4';omega
     ·have h5':=h5 om;by_cases h6:y.Kind<=6
      ·have:=h5'.2.1 h6;omega
      ·have:=h5'.2.2 om;omega
   |succ j =>
    have:=Xzn ys _ _ h j x (by simpa using hj);rw[List.length_append,List.length_singleton] at this;rw[show sd.length+(j+1)=sd.length+1+j by omega];exact this
  ·cases h
def giv (K:Int):Bool:=(K==6)||decide (12<=K)
theorem Xox (K:Int):X7k K=some (giv K):=by
 rfl
def kindAt (l:List X4) (i:Int):Int:=match getI l i with|some e=>e.Kind|none=>0
def Xi1 (l:List X4) (x:X4):Bool :=
 if x.Kind<=4 then true
 else if x.Kind=5 then !(giv (kindAt l x.A))
 else if x.Kind=6 then giv (kindAt l x.A)
 else if x.Kind<=15 then !(giv (kindAt l x.A))&&!(giv (kindAt l x.B))
 else if x.Kind<=17 then (giv (kindAt l x.A))==(giv (kindAt l x.B))
 else giv (kindAt l x.A)&&giv (kindAt l x.B)
def wrN (l:List X4):List X4->Nat->Option Nat
 |[],_=>none
 |x::xs,k=>if Xi1 l x then wrN l xs (k+1) else some k
theorem Xd6 {α:Type} {l:List α} {i:Int} (h0:0<=i) (h1:i<l.length):∃ e,getI l i=some e/\l[i.toNat]?=some e:=by
 obtain⟨n,rfl⟩:∃ n:Nat,i=n:=⟨i.toNat,by omega⟩
 simp_all [X2r,Ye]
theorem Xc7 {l:List X4} {i:Int} (h0:0<=i) (h1:i<l.length):∃ e,getI l i=some e/\kindAt l i=e.Kind:=by
 obtain⟨e,h,_⟩:=Xd6 h0 h1
 grind [kindAt]
theorem X0b7 {l:List X4} {x:X4} {k:Nat} (hk:l[k]?=some x) (ho:Xgh x k):Xb7 l (k:Int)=some (Xi1 l x):=by
 have hlt:=(Ys.1 hk).1;have hA:x.A<l.length:=by
  by_cases h:x.Kind<=4
  ·have:=(ho.leaf h).1;omega
  ·have:=ho.ak om;omega
 have hB:x.B<l.length:=by
  by_cases h:x.Kind<=4
  ·have:=(ho.leaf h).2;omega
  ·have:=ho.bk om;omega
 obtain⟨a,ha,hka⟩:=Xc7 ho.a0 hA;obtain⟨b,hb,hkb⟩:=Xc7 ho.b0 hB;unfold Xb7 Xi1;rw[X2r,hk,Yo,ha,Yo,hb,Xox,Yo,Yo,Xox,Yo,hka,hkb]
 grind
theorem Xu5 {l:List X4} (ho:∀ j x,l[j]?=some x->Xgh x j):∀ (xs:List X4) (k:Nat),l.drop k=xs->X3p l xs k=some (match wrN l xs k with|none=>.x0|some j=>.x1 (j:Int))
 |[],k,_=>rfl
 |x::xs,k,h=>by
  have hk:l[k]?=some x:=by
   have:(l.drop k)[0]?=some x:=by rw[h];rfl
   grind
  have hd:l.drop (k+1)=xs:=by
   have:(l.drop k).drop 1=xs:=by rw[h];rfl
   rw[List.drop_drop] at this;exact this
  rw[X3p,X0b7 hk (ho k x hk),Yo,wrN]
  cases Xi1 l x with
  |true=>exact Xu5 ho xs (k+1) hd
  |false=>rfl
def gvs (l:List X4) (k:Nat):List Bool:=(l.take k).map λe=>giv e.Kind
theorem Xov {l:List X4} {k:Nat} (hk:k<=l.length) {i:Int} (h0:0<=i) (h1:i<k):getI (gvs l k) i=some (giv (kindAt l i)):=by
 obtain⟨e,he,hke⟩:=Xc7 (l:=l) h0 om;have hi:(i.toNat:Int)=i:=by omega
 rw[hke,<-hi,X2r];rw[<-hi,X2r] at he;unfold gvs
 grind
theorem Xv5 {l:List X4} {k:Nat} {x:X4} (hk:l[k]?=some x):gvs l (k+1)=gvs l k++[giv x.Kind]:=by
 unfold gvs
 grind [List.take_add_one]
theorem Xrz {l:List X4} (hn:l.length<=1000) (ho:∀ j x,l[j]?=some x->Xgh x j):∀ (xs:List X4) (k:Nat),l.drop k=xs->X1b l xs k (gvs l k)=some (match wrN l xs k with|none=>.x0 (gvs l l.length)|some j=>.x1 [] (j:Int))
 |[],k,h=>by
  have:l.length<=k:=by
   simp_all
  rw[X1b,wrN];unfold gvs
  grind
 |x::xs,k,h=>by
  have hk:l[k]?=some x:=by
   have:(l.drop k)[0]?=some x:=by rw[h];rfl
   simpa using this
  have hd:l.drop (k+1)=xs:=by
   have:(l.drop k).drop 1=xs:=by rw[h];rfl
   rw[List.drop_drop] at this;exact this
  have hlt:=(Ys.1 hk).1;have hox:=ho k x hk;have ih:=Xrz hn ho xs (k+1) hd;have h1:=hox.lo;have h2:=hox.hi;have cap:∀ b,X1c (List.length (gvs l k++[b])) 1=some ():=λb=>X3q (by unfold gvs;simp;omega);have go:giv x.Kind=false->Xi1 l x=true->X1b l xs (k+1) (gvs l k++[false])=some (match wrN l (x::xs) k with|none=>.x0 (gvs l l.length)|some j=>.x1 [] (j:Int)):=by
   intro g f;rw[wrN,f,if_pos rfl,<-ih,Xv5 hk,g]
  have go':giv x.Kind=true->Xi1 l x=true->X1b l xs (k+1) (gvs l k++[true])=some (match wrN l (x::xs) k with|none=>.x0 (gvs l l.length)|some j=>.x1 [] (j:Int)):=by
   intro g f;rw[wrN,f,if_pos rfl,<-ih,Xv5 hk,g]
  have stop:Xi1 l x=false->(some (.x1 [] (k:Int)):Option X55)=some (match wrN l (x::xs) k with|none=>.x0 (gvs l l.length)|some j=>.x1 [] (j:Int)):=by
   intro f;rw[wrN,f];rfl
  rw[X1b];by_cases h4:x.Kind<=4
  ·rw[Yt h4,cond_true,cap,Yo];exact go (by unfold giv;simp;omega) (by unfold Xi1;grind)
  ·rw[Yf h4,cond_false];have hA:getI (gvs l k) x.A=some (giv (kindAt l x.A)):=Xov om hox.a0 (hox.ak om);have hB:getI (gvs l k) x.B=some (giv (kindAt l x.B)):=Xov om hox.b0 (hox.bk om);by_cases h5:x.Kind=5
   ·have hf:Xi1 l x=!(giv (kindAt l x.A)):=by unfold Xi1;rw[if_neg h4,if_pos h5]
    rw[show(x.Kind==5)=true by simp[h5],cond_true,hA]
    cases hg:giv (kindAt l x.A) with
    |true=>exact stop (by rw[hf,hg];rfl)
    |false =>
     show(X1c (List.length (gvs l k++[false])) 1).bind _=_;rw[cap,Yo];exact go (by unfold giv;simp[h5]) (by rw[hf,hg];rfl)
   ·rw[show(x.Kind==5)=false by simp[h5],cond_false];by_cases h6:x.Kind=6
    ·have hf:Xi1 l x=giv (kindAt l x.A):=by unfold Xi1;rw[if_neg h4,if_neg h5,if_pos h6]
     rw[show(x.Kind==6)=true by simp[h6],cond_true,hA]
     cases hg:giv (kindAt l x.A) with
     |false=>exact stop (by rw[hf,hg])
     |true =>
      show(X1c (List.length (gvs l k++[true])) 1).bind _=_;rw[cap,Yo];exact go' (by unfold giv;simp[h6]) (by rw[hf,hg])
    ·rw[show(x.Kind==6)=false by simp[h6],cond_false];have lok:X3t (List.length [x.A,x.B])=some ():=X1w (by simp);by_cases h15:x.Kind<=15
     ·have hf:Xi1 l x=(!(giv (kindAt l x.A))&&!(giv (kindAt l x.B))):=by unfold Xi1;rw[if_neg h4,if_neg h5,if_neg h6,if_pos h15]
      by_cases h11:x.Kind<=11
      ·have hgx:giv x.Kind=false:=by unfold giv;simp;omega
       rw[Yt h11,cond_true,Yo,lok];simp only[X0b,hA,hB];generalize giv (kindAt l x.A)=p at hf;generalize giv (kindAt l x.B)=r at hf;cases p<;>cases r
       ·show(X1c (List.length (gvs l k++[false])) 1).bind _=_;rw[cap,Yo];exact go hgx hf
       all_goals exact stop hf
      ·have hgx:giv x.Kind=true:=by unfold giv;simp;omega
       rw[Yf h11,cond_false,Yt h15,cond_true,Yo,lok];simp only[X0b,hA,hB];generalize giv (kindAt l x.A)=p at hf;generalize giv (kindAt l x.B)=r at hf;cases p<;>cases r
       ·show(X1c (List.length (gvs l k++[true])) 1).bind _=_;rw[cap,Yo];exact go' hgx hf
       all_goals exact stop hf
     ·rw[Yf (show ¬ x.Kind<=11 by omega),cond_false,Yf h15,cond_false];have hgx:giv x.Kind=true:=by unfold giv;simp;omega
      by_cases h17:x.Kind<=17
      ·have hf:Xi1 l x=((giv (kindAt l x.A))==(giv (kindAt l x.B))):=by unfold Xi1;rw[if_neg h4,if_neg h5,if_neg h6,if_neg h15,if_pos h17]
       rw[Yt h17,cond_true,Yo,lok];simp only[X0b,X0c,hA,hB];generalize giv (kindAt l x.A)=p at hf;generalize giv (kindAt l x.B)=r at hf;cases p<;>cases r
       ·show(X1c (List.length (gvs l k++[true])) 1).bind _=_;rw[cap,Yo];exact go' hgx hf
       ·exact stop hf
       ·exact stop hf
       ·show(X1c (List.length (gvs l k++[true])) 1).bind _=_;rw[cap,Yo];exact go' hgx hf
      ·have hf:Xi1 l x=((giv (kindAt l x.A))&&(giv (kindAt l x.B))):=by unfold Xi1;rw[if_neg h4,if_neg h5,if_neg h6,if_neg h15,if_neg h17]
       rw[Yf h17,cond_false,Yo,lok];simp only[X0b,X0c,hA,hB];generalize giv (kindAt l x.A)=p at hf;generalize giv (kindAt l x.B)=r at hf;cases p<;>cases r
       ·exact stop hf
       ·exact stop hf
       ·exact stop hf
       ·show(X1c (List.length (gvs l k++[true])) 1).bind _=_;rw[cap,Yo];exact go' hgx hf
end Go.D


namespace Go.D
def kOf (l:List X4):Bool×Int×Int :=
 if nchk l≠0 then (false,0,nchk l)
 else match wrN l l 0 with
  |some j=>(false,(j:Int),42)
  |none=>(giv (kindAt l ((l.length:Int) - 1)),(l.length:Int) - 1,0)
theorem X9w {l:List X4} (h:nchk l=0):l.length<=60/\1<=l.length/\∃ sd,Xej l []=some sd:=by
 unfold nchk at h;split at h
 ·cases h
 ·split at h
  ·cases h
  ·rename_i sd hr;have hn:=Xfu l [] sd hr
   grind
theorem X93 {l:List X4} (h:nchk l=0):∀ j x,l[j]?=some x->Xgh x j:=by
 obtain⟨_,_,sd,hr⟩:=X9w h;intro j x hj;have:=Xzn l [] sd hr j x hj
 grind
theorem Xu6 (l:List X4):∀ (xs:List X4) (k j:Nat),wrN l xs k=some j->k<=j/\j<k+xs.length
 |[],k,j,h=>by cases h
 |x::xs,k,j,h=>by
  unfold wrN at h;split at h
  ·have:=Xu6 l xs (k+1) j h;grind
  grind
theorem Xa1 {l:List X4} (h0:∀ x∈l,0<=x.Kind):Xae l=some (kOf l):=by
 unfold Xae kOf;rw[X5s h0,Yo];by_cases hz:nchk l=0
 ·obtain⟨h60,h1,_⟩:=X9w hz;rw[if_neg om,hz,show((0:Int) != 0)=false from rfl,cond_false];unfold X97;rw[X1w om,Yo];have ht:=Xrz om (X93 hz) l 0 rfl;rw[show gvs l 0=[] from by rfl] at ht;rw[ht]
  cases hw:wrN l l 0 with
  |some j =>
   have:=(Xu6 l l 0 j hw).2
   grind
  |none =>
   simp only[Yo];rw[Yf (show ¬ (l.length:Int)<(l.length:Int) by omega),cond_false,X05 om om,Xov (Nat.le_refl _) om om];rfl
 grind
theorem Xs6 {l:List X4}:Xfp l=some (kOf l):=by
 unfold Xfp kOf;rw[Xar,Yo];by_cases hz:nchk l=0
 ·obtain⟨h60,h1,_⟩:=X9w hz;rw[if_neg om,hz,show((0:Int) != 0)=false from rfl,cond_false];unfold Xby;rw[X1w om,Yo,Xu5 (X93 hz) l 0 rfl]
  cases hw:wrN l l 0 with
  |some j =>
   have:=(Xu6 l l 0 j hw).2
   grind
  |none =>
   simp only[Yo];obtain⟨e,he,hk⟩:=Xc7 (l:=l) (i:=(l.length:Int) - 1) om om;rw[Yf (show ¬ (l.length:Int)<(l.length:Int) by omega),cond_false,X05 om om,he,Yo,Xox,hk];rfl
 grind
def X1n (l:List X4) (b:Bool):Int×Int :=
 if (kOf l).2.2=0/\(kOf l).1≠b then ((kOf l).2.1,42) else ((kOf l).2.1,(kOf l).2.2)
theorem Xg1 {l:List X4} {b:Bool} (h0:∀ x∈l,0<=x.Kind):X96 l b=some (X1n l b):=by
 unfold X96 X1n;rw[Xa1 h0,Yo]
 grind
theorem Xfo {l:List X4} {b:Bool}:X7j l b=some (X1n l b):=by
 unfold X7j X1n;rw[Xs6,Yo]
 grind
def Xua (s:List Int) (j:Bool):Bool:=s.length==0||(j&&s.length != 2)||s.any λx=>decide (x<0)||decide (x>3)
def X6b (s:List Int) (j:Bool):Int :=
 if s.length>4 then 4 else if Xua s j then 8 else if s.Nodup then 0 else 43
theorem Xq1 (Y:List Int):∀ (xs:List Int) (k:Nat),∃ o,X0m Y xs k=some o/\((xs.any λx=>decide (x<0)||decide (x>3))=true->∃ j:Nat,o=.x1 (j:Int))/\((xs.any λx=>decide (x<0)||decide (x>3))=false->o=.x0)
 |[],k=>⟨.x0,rfl,by simp,λ_=>rfl⟩
 |x::xs,k=>by
  obtain⟨o,h1,h2,h3⟩:=Xq1 Y xs (k+1);rw[X0m]
  grind [X5k,decide,Yt,Yf,Bool.or_eq_false_iff,decide_eq_false_iff_not]
theorem Xtz {s:List Int} (hn:s.length<=1000):Xw s=some (s.any λx=>decide (x<0)||decide (x>3)):=by
 unfold Xw X0l;rw[X1w om,Yo];obtain⟨o,h1,h2,h3⟩:=Xq1 s s 0
 grind [decide]
end Go.D


namespace Go.D
inductive Ex where
 |leaf (k n t:Int)
 |un (k t:Int) (a:Ex)
 |bin (k t:Int) (a b:Ex)
def Ex.sz:Ex->Nat
 |.leaf ..=>1
 |.un _ _ a=>a.sz+1
 |.bin _ _ a b=>a.sz+b.sz+1
def Ex.dp:Ex->Nat
 |.leaf ..=>1
 |.un _ _ a=>a.dp+1
 |.bin _ _ a b=>max a.dp b.dp+1
def Ex.fl:Ex->Int->List X4
 |.leaf k n t,_=>[⟨k,n,0,0,t⟩]
 |.un k t a,o=>a.fl o++[⟨k,0,o+a.sz - 1,0,t⟩]
 |.bin k t a b,o=>a.fl o++(b.fl (o+a.sz)++[⟨k,0,o+a.sz - 1,o+a.sz+b.sz - 1,t⟩])
def Ex.kd:Ex->Int
 |.leaf k _ _=>k
 |.un k _ _=>k
 |.bin k _ _ _=>k
def Ex.tx:Ex->Int
 |.leaf _ _ t=>t
 |.un _ t _=>t
 |.bin _ t _ _=>t
def Ex.ok:Ex->Prop
 |.leaf k n t=>1<=k/\k<=4/\0<=n/\(n=0\/k=1)/\0<=t/\t<=400
 |.un k t a=>5<=k/\k<=6/\0<=t/\t<=400/\a.ok
 |.bin k t a b=>7<=k/\k<=19/\0<=t/\t<=400/\a.ok/\b.ok
def Ex.sdo:Ex->List (Nat×Nat)
 |.leaf ..=>[(1,1)]
 |.un _ _ a=>a.sdo++[(a.sz+1,a.dp+1)]
 |.bin _ _ a b=>a.sdo++(b.sdo++[(a.sz+b.sz+1,max a.dp b.dp+1)])
theorem Ex.sz_pos (e:Ex):1<=e.sz:=by cases e<;>simp[Ex.sz]
theorem Ex.dp_le (e:Ex):e.dp<=e.sz:=by induction e<;>simp[Ex.sz,Ex.dp]<;>omega
theorem Ex.dp_pos (e:Ex):1<=e.dp:=by cases e<;>simp[Ex.dp]
theorem Ex.fl_len (e:Ex):∀ o,(e.fl o).length=e.sz:=by
 induction e with
 |leaf=>intro o;rfl
 |un k t a ih=>intro o;simp[Ex.fl,Ex.sz,ih]
 |bin k t a b iha ihb=>grind [Ex.fl,Ex.sz]
theorem Ex.sdo_len (e:Ex):e.sdo.length=e.sz:=by
 induction e with
 |leaf=>rfl
 |un k t a ih=>simp[Ex.sdo,Ex.sz,ih]
 |bin k t a b iha ihb=>simp[Ex.sdo,Ex.sz,iha,ihb];omega
theorem Ex.sdo_last (e:Ex):∃ l,e.sdo=l++[(e.sz,e.dp)]/\l.length+1=e.sz:=by
 cases e with
 |leaf=>exact⟨[],rfl,rfl⟩
 |un k t a=>exact⟨a.sdo,rfl,by simp[Ex.sz,a.sdo_len]⟩
 |bin k t a b=>exact⟨a.sdo++b.sdo,by simp[Ex.sdo,Ex.sz,Ex.dp],by simp[Ex.sz,a.sdo_len,b.sdo_len]⟩
def Ex.rt:Ex->Int->X4
 |.leaf k n t,_=>⟨k,n,0,0,t⟩
 |.un k t a,o=>⟨k,0,o+a.sz - 1,0,t⟩
 |.bin k t a b,o=>⟨k,0,o+a.sz - 1,o+a.sz+b.sz - 1,t⟩
theorem Ex.fl_last (e:Ex) (o:Int):∃ l,e.fl o=l++[e.rt o]/\l.length+1=e.sz:=by
 cases e with
 |leaf=>exact⟨[],rfl,rfl⟩
 |un k t a=>exact⟨a.fl o,rfl,by simp[Ex.sz,a.fl_len]⟩
 |bin k t a b=>exact⟨a.fl o++b.fl (o+a.sz),by simp[Ex.fl,Ex.rt],by simp[Ex.sz,a.fl_len,b.fl_len]⟩
theorem Ex.rt_kd (e:Ex) (o:Int):(e.rt o).Kind=e.kd:=by cases e<;>rfl
theorem Ex.rt_at (e:Ex) (o:Int):(e.rt o).At=e.tx:=by cases e<;>rfl
theorem X9v:∀ (xs ys:List X4) (sd:List (Nat×Nat)),Xej (xs++ys) sd=(Xej xs sd).bind (Xej ys)
 |[],ys,sd=>rfl
 |x::xs,ys,sd=>by
  rw[List.cons_append];unfold Xej
  cases nst sd x with
  |none=>rfl
  |some q=>exact X9v xs ys _
theorem Xj5 (x:X4) (sd:List (Nat×Nat)):Xej [x] sd=(nst sd x).map λq=>sd++[q]:=by
 unfold Xej;cases nst sd x<;>rfl
theorem X0a1 (e:Ex):∀ (sd:List (Nat×Nat)) (o:Int),o=sd.length->e.ok->Xej (e.fl o) sd=some (sd++e.sdo):=by
 induction e with
 |leaf k n t =>
  intro sd o ho ⟨h1,h2,h3,h4,h5,h6⟩;rw[Ex.fl,Xj5];unfold nst;rw[if_pos h2,if_pos ⟨h1,by grind,h3,h4,h5,h6,rfl,rfl⟩];rfl
 |un k t a ih =>
  intro sd o ho ⟨h1,h2,h3,h4,h5⟩;rw[Ex.fl,X9v,ih sd o ho h5,Yo,Xj5];obtain⟨l,hl,hn⟩:=a.sdo_last;unfold nst;rw[if_neg (by grind),Ex.sdo,hl,<-List.append_assoc,List.getLast?_concat];simp only[];rw[if_pos h2,if_pos ⟨by grind,by grind,Int.le_refl _,.inl rfl,h3,h4,by grind,rfl⟩]
  grind
 |bin k t a b iha ihb =>
  intro sd o ho ⟨h1,h2,h3,h4,h5,h6⟩;rw[Ex.fl,X9v,iha sd o ho h5,Yo,X9v,ihb _ (o+a.sz) (by rw[List.length_append,a.sdo_len];omega) h6,Yo,Xj5];obtain⟨l,hl,hn⟩:=b.sdo_last;obtain⟨m,hm,hk⟩:=a.sdo_last;have hb:=b.sz_pos;unfold nst;have e1:(sd++a.sdo++b.sdo).getLast?=some (b.sz,b.dp):=by grind
  have e2:(sd++a.sdo++b.sdo).length=sd.length+a.sz+b.sz:=by grind
  have e3:(sd++a.sdo++b.sdo)[(sd++a.sdo++b.sdo).length - 1 - b.sz]?=some (a.sz,a.dp):=by
   rw[e2,hm,show sd++(m++[(a.sz,a.dp)])++b.sdo=(sd++m)++((a.sz,a.dp)::b.sdo) by simp,List.getElem?_append_right (by simp;omega)]
   grind
  rw[if_neg (by grind),e1];simp only[];rw[if_neg (by grind),if_neg (by grind),e3];simp only[];rw[if_pos ⟨by grind,h2,Int.le_refl _,.inl rfl,h3,h4,by grind,by grind⟩];simp[Ex.sdo,Nat.max_comm,Nat.add_comm,Nat.add_left_comm]
def flS:List Ex->Int->List X4
 |[],_=>[]
 |e::r,o=>e.fl o++flS r (o+e.sz)
def szS:List Ex->Nat
 |[]=>0
 |e::r=>e.sz+szS r
def sdS:List Ex->List (Nat×Nat)
 |[]=>[]
 |e::r=>e.sdo++sdS r
theorem Xgc (e:Ex):∀ (l:List Ex) (o:Int),flS (l++[e]) o=flS l o++e.fl (o+szS l)
 |[],o=>by simp[flS,szS]
 |a::l,o=>by simp[flS,szS,Xgc e l,List.append_assoc,Int.add_assoc]
theorem Xfg (e:Ex):∀ (l:List Ex),szS (l++[e])=szS l+e.sz
 |[]=>by simp[szS]
 |a::l=>by simp[szS,Xfg e l];omega
theorem X8p (e:Ex):∀ (l:List Ex),sdS (l++[e])=sdS l++e.sdo
 |[]=>by simp[sdS]
 |a::l=>by simp[sdS,X8p e l]
theorem Xk3:∀ (l:List Ex),(sdS l).length=szS l
 |[]=>rfl
 |a::l=>by simp[sdS,szS,Xk3 l,a.sdo_len]
theorem Xnu {α:Type} {l:List α} (h:l≠[]):∃ r a,l=r++[a]:=⟨l.dropLast,l.getLast h,(List.dropLast_concat_getLast h).symm⟩
theorem Xz6 {α:Type} {p:List α->Prop} (h0:p []) (h1:∀ l a,p l->p (l++[a])):∀ (n:Nat) (l:List α),l.length=n->p l
 |0,l,h=>by rw[List.length_eq_zero_iff.1 h];exact h0
 |n+1,l,h=>by
  obtain⟨r,a,rfl⟩:=Xnu (l:=l) (by intro h2;subst h2;cases h);exact h1 r a (Xz6 h0 h1 n r (by simpa using h))
theorem Xw5 (l:List X4):∀ sd,Xej l []=some sd->∃ st:List Ex,(∀ e∈st,e.ok)/\l=flS st 0/\sd=sdS st:=by
 refine Xz6 (p:=λl=>∀ sd,Xej l []=some sd->∃ st:List Ex,(∀ e∈st,e.ok)/\l=flS st 0/\sd=sdS st) ?_ ?_ _ l rfl
 ·intro sd h;cases h;exact⟨[],by simp,rfl,rfl⟩
 ·intro l x ih sd h;rw[X9v] at h
  cases hr:Xej l [] with
  |none=>grind
  |some sd0 =>
   obtain⟨st,h1,h2,h3⟩:=ih sd0 hr;rw[hr,Yo,Xj5] at h
   cases hq:nst sd0 x with
   |none=>grind
   |some q =>
    rw[hq] at h;cases h
    obtain⟨K,N,A,B,T⟩:=x;have hlen:sd0.length=szS st:=by rw[h3,Xk3]
    unfold nst at hq;split at hq
    ·rename_i h4;split at hq
     ·rename_i ho;cases hq
      obtain⟨o1,o2,o3,o4,o5,o6,o7,o8⟩:=ho;simp only at o1 o2 o3 o4 o5 o6 o7 o8 h4;subst o7 o8;refine⟨st++[.leaf K N T],?_,?_,?_⟩
      ·intro e he;rcases List.mem_append.1 he with he|he
       ·exact h1 e he
       ·rw[List.mem_singleton.1 he];trivial
      ·rw[Xgc,h2];rfl
      ·rw[X8p,h3];rfl
     ·cases hq
    ·rename_i h4;simp only at h4;split at hq
     ·cases hq
     ·rename_i s2 d2 hg;have hne:st≠[]:=by
       intro h0;subst h0;rw[h3] at hg;cases hg
      obtain⟨st1,b,rfl⟩:=Xnu hne;obtain⟨lb,hlb,hlbn⟩:=b.sdo_last;rw[Xfg] at hlen;have hg2:(s2,d2)=(b.sz,b.dp):=by
       rw[h3,X8p,hlb,<-List.append_assoc,List.getLast?_concat] at hg;exact(Option.some.inj hg).symm
      cases hg2
      split at hq
      ·rename_i h6;simp only at h6;split at hq
       ·rename_i ho;cases hq
        obtain⟨o1,o2,o3,o4,o5,o6,o7,o8⟩:=ho;simp only at o1 o2 o3 o4 o5 o6 o7 o8;have hn:N=0:=by omega
        subst hn o8;refine⟨st1++[.un K T b],?_,?_,?_⟩
        ·intro e he;rcases List.mem_append.1 he with he|he
         ·exact h1 e (List.mem_append_left _ he)
         ·rw[List.mem_singleton.1 he];exact⟨by omega,h6,o5,o6,h1 b (by simp)⟩
        ·rw[Xgc,h2,Xgc,Ex.fl,List.append_assoc];congr 3
         rw[o7,hlen];congr 1;omega
        ·rw[X8p,h3,X8p,Ex.sdo];simp[Nat.add_comm]
       ·cases hq
      ·rename_i h6;simp only at h6;split at hq
       ·cases hq
       ·rename_i hlt;split at hq
        ·cases hq
        ·rename_i s1 d1 hg1;have hne1:st1≠[]:=by
          intro h0;subst h0;simp only[szS] at hlen
          grind
         obtain⟨st2,a,rfl⟩:=Xnu hne1;rw[Xfg] at hlen;obtain⟨la,hla,hlan⟩:=a.sdo_last;have hg3:(s1,d1)=(a.sz,a.dp):=by
          rw[hlen,h3,X8p,X8p,hla,show sdS st2++(la++[(a.sz,a.dp)])++b.sdo=(sdS st2++la)++((a.sz,a.dp)::b.sdo) by simp,
           List.getElem?_append_right (by simp[Xk3];omega),show szS st2+a.sz+b.sz - 1 - b.sz - (sdS st2++la).length=0 by simp[Xk3];omega] at hg1
          grind
         cases hg3
         split at hq
         ·rename_i ho;cases hq
          obtain⟨o1,o2,o3,o4,o5,o6,o7,o8⟩:=ho;simp only at o1 o2 o3 o4 o5 o6 o7 o8;have hn:N=0:=by omega
          subst hn;refine⟨st2++[.bin K T a b],?_,?_,?_⟩
          ·intro e he;rcases List.mem_append.1 he with he|he
           ·grind
           ·rw[List.mem_singleton.1 he];exact⟨by omega,o2,o5,o6,h1 a (by simp),h1 b (by simp)⟩
          ·grind [Xgc,Ex.fl,Xfg,List.append_assoc]
          grind [X8p,Ex.sdo,List.append_assoc,Prod.mk.injEq]
         ·cases hq
theorem Xzq {l:List X4} (h:nchk l=0):∃ e:Ex,e.ok/\e.sz<=60/\e.dp<=20/\l=e.fl 0/\Xej l []=some e.sdo:=by
 unfold nchk at h;split at h
 ·cases h
 ·rename_i h60;split at h
  ·cases h
  ·rename_i sd hr;obtain⟨st,h1,h2,h3⟩:=Xw5 l sd hr;split at h
   ·cases h
   ·rename_i q hq;have hne:st≠[]:=by
     intro h0;subst h0;rw[h3] at hq;cases hq
    obtain⟨st1,b,rfl⟩:=Xnu hne;obtain⟨lb,hlb,hlbn⟩:=b.sdo_last;have hg:q=(b.sz,b.dp):=by
     grind [X8p,List.append_assoc,List.getLast?_concat,Option.some.inj]
    subst hg;have hn:=Xfu l [] sd hr;rw[h3,Xk3,Xfg] at hn;simp only[List.length_nil,Nat.zero_add] at hn;split at h
    ·rename_i hs;simp only at hs;have hs1:st1=[]:=by
      cases st1 with
      |nil=>rfl
      |cons a r=>exfalso;have:=a.sz_pos;simp only[szS] at hn;omega
     subst hs1;split at h
     ·cases h
     ·rename_i hd;simp only at hd;refine⟨b,h1 b (by simp),by omega,by omega,?_,?_⟩
      ·rw[h2];simp[flS]
      ·rw[hr,h3];simp[sdS]
    ·cases h
theorem X83 {e:Ex} (h:e.ok) (hs:e.sz<=60) (hd:e.dp<=20):nchk (e.fl 0)=0/\Xej (e.fl 0) []=some e.sdo:=by
 have hr:=X0a1 e [] 0 rfl h;rw[List.nil_append] at hr;refine⟨?_,hr⟩;obtain⟨l,hl,_⟩:=e.sdo_last;unfold nchk;rw[if_neg (by rw[e.fl_len];omega),hr];simp only[];rw[hl,List.getLast?_concat];simp only[];rw[if_pos (by rw[e.fl_len]),if_neg om]
end Go.D


namespace Go.D
theorem X0kd (a:Int):0<=bits .and .i64 a 63:=by
 unfold bits;simp only;have h:((BitVec.ofInt IntKind.i64.bits a) &&& (BitVec.ofInt IntKind.i64.bits 63)).toNat<=63:=by
  rw[BitVec.toNat_and];exact Nat.le_trans Nat.and_le_right (by decide)
 rw[X05 om om];omega
theorem Xfd (b:Bool):X3f b=some (if b then 1 else 0):=by cases b<;>rfl
theorem Xnb {K a b:Int} (h1:5<=K) (h2:K<=19):∃ v,Xa2 K a b=some (v,0):=by
 have hs:shOk (bits .and .i64 b 63)=some ():=by unfold shOk;rw[if_pos (X0kd b)]
 unfold Xa2;simp only[Xfd,hs,Yo];rcases(by omega:K=5\/K=6\/K=7\/K=8\/K=9\/K=10\/K=11\/K=12\/K=13\/K=14\/K=15\/K=16\/K=17\/K=18\/K=19) with h|h|h|h|h|h|h|h|h|h|h|h|h|h|h<;>subst h<;>exact⟨_,rfl⟩
def i64 (z:Int):Prop := -9223372036854775808<=z/\z<=9223372036854775807
theorem Xdw (z:Int):i64 (IntKind.i64.wrap z):=by rw[Xgi];unfold i64;omega
theorem X0f0 {z:Int} (h:i64 z):IntKind.i64.wrap z=z:=X05 h.1 h.2
theorem Xg5 (b:Bool):i64 (if b then 1 else 0):=by unfold i64;cases b<;>simp
theorem Xpd (a:Int):(BitVec.ofInt 64 a).toNat=(a % 18446744073709551616).toNat:=by
 rw[BitVec.toNat_ofInt];rfl
theorem X0g5 (a:Int):bits .and .i64 a 63=a % 64:=by
 unfold bits;simp only;have h1:((BitVec.ofInt IntKind.i64.bits a) &&& (BitVec.ofInt IntKind.i64.bits 63)).toNat=(a % 64).toNat:=by
  show((BitVec.ofInt 64 a) &&& (BitVec.ofInt 64 63)).toNat=_;rw[BitVec.toNat_and,Xpd,show(BitVec.ofInt 64 63).toNat=2 ^ 6 - 1 by decide,Nat.and_two_pow_sub_one_eq_mod];omega
 rw[h1,X05 om om];omega
theorem Xpc (a:Int):Xc1 a=some (a % 64):=by
 unfold Xc1;have h:IntKind.u64.wrap a=a % 18446744073709551616:=by
  simp only[IntKind.wrap,IntKind.bits,IntKind.signed];simp
 have h0:(0:Int)<=a % 18446744073709551616:=by omega
 rw[h,Int.tmod_eq_emod_of_nonneg h0,X05 om om];congr 1;omega
theorem X0hq {a b:Int} (ha:i64 a) (hb:i64 b):(bits .or .i64 a b != 0)=(bif (a != 0) then true else (b != 0)):=by
 unfold bits;simp only;have key:((BitVec.ofInt IntKind.i64.bits a) ||| (BitVec.ofInt IntKind.i64.bits b)).toNat=0↔a=0/\b=0:=by
  show((BitVec.ofInt 64 a) ||| (BitVec.ofInt 64 b)).toNat=0↔_;rw[BitVec.toNat_or,Nat.or_eq_zero_iff,Xpd,Xpd];unfold i64 at ha hb;omega
 have hlt:((BitVec.ofInt IntKind.i64.bits a) ||| (BitVec.ofInt IntKind.i64.bits b)).toNat<18446744073709551616:=BitVec.isLt _;generalize ((BitVec.ofInt IntKind.i64.bits a) ||| (BitVec.ofInt IntKind.i64.bits b)).toNat=n at key hlt;have hw:IntKind.i64.wrap (n:Int)=0↔n=0:=by rw[Xgi];omega
 by_cases h0:n=0
 ·obtain⟨rfl,rfl⟩:=key.1 h0;subst h0;simp[show IntKind.i64.wrap (0:Int)=0 from rfl]
 ·have h1:¬ (a=0/\b=0):=λh=>h0 (key.2 h);have h2:IntKind.i64.wrap (n:Int)≠0:=λh=>h0 (hw.1 h);rw[show(IntKind.i64.wrap (n:Int) != 0)=true by simpa using h2];by_cases ha0:a=0
  ·have:b≠0:=λhb0=>h1 ⟨ha0,hb0⟩;simp[ha0,this]
  ·simp[ha0]
theorem X0ax {a:Int} (h:i64 a):Xgu a=some (a.fdiv 2):=by
 unfold Xgu;unfold i64 at h;have hf:a.fdiv 2=a / 2:=Int.fdiv_eq_ediv_of_nonneg _ om;have e:=Int.tdiv_eq_ediv (a:=a) (b:=2);rw[show Int.sign 2=1 from rfl] at e;have e0:=Int.tmod_add_mul_tdiv a 2;by_cases hn:a.tmod 2<0
 ·rw[Yt hn,cond_true];have h2:a.tdiv 2=a / 2+1:=by split at e<;>omega
  rw[hf,h2,X05 (z:=a / 2+1) om om,X05 om om];congr 1;omega
 ·rw[Yf hn,cond_false];have h2:a.tdiv 2=a / 2:=by split at e<;>omega
  rw[hf,h2,X05 om om]
theorem X05y {a:Int} (h:i64 a):i64 (a.fdiv 2):=by
 rw[Int.fdiv_eq_ediv_of_nonneg _ om];unfold i64 at *;omega
theorem X04r (c:Int) (hc:c<64):∀ (m n i:Nat) (y:Int),m=(c - (i:Int)).toNat->m<n->(i:Int)<=c->X4k c n y (i:Int)=some (.x0 (IntKind.i64.wrap (y*2 ^ m)))\/(m=0/\X4k c n y (i:Int)=some (.x0 y)):=by
 intro m
 induction m with
 |zero =>
  intro n i y hm hn hi;obtain⟨n,rfl⟩:∃ q,n=q+1:=⟨n - 1,by omega⟩;right;refine⟨rfl,?_⟩;rw[X4k,Yf om];rfl
 |succ m ih =>
  intro n i y hm hn hi;obtain⟨n,rfl⟩:∃ q,n=q+1:=⟨n - 1,by omega⟩;left;rw[X4k,Yt om,cond_true];have e:IntKind.i64.wrap ((i:Int)+1)=((i+1:Nat):Int):=by rw[X05 om om];omega
  rw[e];have hw:IntKind.i64.wrap (IntKind.i64.wrap (y+y)*2 ^ m)=IntKind.i64.wrap (y*2 ^ (m+1)):=by
   rw[Int.pow_succ];have:y*(2 ^ m*2)=(y+y)*2 ^ m:=by rw[Int.add_mul,<-Int.mul_assoc,Int.mul_comm (y*2 ^ m) 2];omega
   rw[this];generalize y+y=z;generalize (2:Int) ^ m=q;simp only[Xgi];have h1:∃ k:Int,(z+9223372036854775808) % 18446744073709551616 - 9223372036854775808=z+18446744073709551616*k:=⟨-((z+9223372036854775808) / 18446744073709551616),by omega⟩;obtain⟨k,hk⟩:=h1;rw[hk,Int.add_mul,Int.mul_assoc];generalize k*q=j;omega
  rcases ih n (i+1) (IntKind.i64.wrap (y+y)) om om om with h|⟨h0,h⟩
  ·rw[h,hw]
  ·subst h0;rw[h,<-hw];simp only[Int.pow_zero,Int.mul_one];rw[X0f0 (Xdw _)]
theorem X04q {c:Int} (h0:0<=c) (hc:c<64):∃ v,Xc0 c=some v/\∀ a,IntKind.i64.wrap (a*v)=IntKind.i64.wrap (a*2 ^ c.toNat):=by
 unfold Xc0;rcases X04r c hc c.toNat FU 0 1 om (by unfold FU;omega) om with h|⟨hz,h⟩
 ·refine⟨_,by rw[show(0:Int)=((0:Nat):Int) from rfl,h];rfl,λa=>?_⟩;rw[Int.one_mul];generalize (2:Int) ^ c.toNat=z;simp only[Xgi];have h1:∃ k:Int,(z+9223372036854775808) % 18446744073709551616 - 9223372036854775808=z+18446744073709551616*k:=⟨-((z+9223372036854775808) / 18446744073709551616),by omega⟩;obtain⟨k,hk⟩:=h1;rw[hk,Int.mul_add,Int.mul_left_comm];generalize a*k=j;omega
 ·refine⟨1,by rw[show(0:Int)=((0:Nat):Int) from rfl,h];rfl,λa=>?_⟩;rw[hz];simp
theorem X064 (b:Int) (c:Int) (hb:b % 64=c):∀ (m n i:Nat) (y:Int),m=(c - (i:Int)).toNat->m<n->(i:Int)<=c->i64 y->X4l b n y (i:Int)=some (.x0 (y.fdiv (2 ^ m)))/\i64 (y.fdiv (2 ^ m)):=by
 intro m
 induction m with
 |zero =>
  intro n i y hm hn hi hy;obtain⟨n,rfl⟩:∃ q,n=q+1:=⟨n - 1,by omega⟩;have e:y.fdiv (2 ^ 0)=y:=by rw[Int.pow_zero,Int.fdiv_one]
  rw[e];refine⟨?_,hy⟩;rw[X4l,Xpc,Yo,Yf om];rfl
 |succ m ih =>
  intro n i y hm hn hi hy;obtain⟨n,rfl⟩:∃ q,n=q+1:=⟨n - 1,by omega⟩;have e:IntKind.i64.wrap ((i:Int)+1)=((i+1:Nat):Int):=by rw[X05 om om];omega
  have e2:y.fdiv (2 ^ (m+1))=(y.fdiv 2).fdiv (2 ^ m):=by
   have hp:(0:Int)<=2 ^ m:=Int.pow_nonneg om;rw[Int.fdiv_eq_ediv_of_nonneg y (Int.pow_nonneg om),Int.fdiv_eq_ediv_of_nonneg (y.fdiv 2) hp,Int.fdiv_eq_ediv_of_nonneg y (show(0:Int)<=2 by omega),Int.pow_succ,Int.mul_comm,Int.ediv_ediv_of_nonneg om]
  obtain⟨g1,g2⟩:=ih n (i+1) (y.fdiv 2) om om om (X05y hy);rw[e2];refine⟨?_,g2⟩;rw[X4l,Xpc,Yo,Yt om,cond_true,X0ax hy,Yo,e,g1]
theorem Xyn (b:Bool):X9t b=some (if b then 1 else 0):=by cases b<;>rfl
theorem Xjd {K a b:Int} (h1:5<=K) (h2:K<=19) (ha:i64 a) (hb:i64 b):∃ v,Xa2 K a b=some (v,0)/\X52 K a b=some v/\i64 v:=by
 have hs:shOk (b % 64)=some ():=by unfold shOk;rw[if_pos om]
 have hmin:min (Int.toNat (b % 64)) IntKind.i64.bits=(b % 64).toNat:=by
  show min (Int.toNat (b % 64)) 64=_;omega
 unfold Xa2 X52 Xfq;simp only[Xfd,Xyn,hs,X0g5,Xpc,Yo,hmin];rcases(by omega:K=5\/K=6\/K=7\/K=8\/K=9\/K=10\/K=11\/K=12\/K=13\/K=14\/K=15\/K=16\/K=17\/K=18\/K=19) with h|h|h|h|h|h|h|h|h|h|h|h|h|h|h<;>subst h
 ·exact⟨_,rfl,rfl,Xdw _⟩
 ·exact⟨_,rfl,rfl,Xg5 _⟩
 ·exact⟨_,rfl,rfl,Xdw _⟩
 ·exact⟨_,rfl,rfl,Xdw _⟩
 ·exact⟨_,rfl,rfl,Xdw _⟩
 ·obtain⟨v,hv,hw⟩:=X04q (c:=b % 64) om om;refine⟨_,rfl,?_,Xdw _⟩;show(Xc0 (b % 64)).bind (λv11=>some (IntKind.i64.wrap (a*v11)))=_;rw[hv,Yo,hw]
 ·obtain⟨g1,g2⟩:=X064 b (b % 64) rfl (b % 64).toNat FU 0 a om (by unfold FU;omega) om ha;refine⟨_,rfl,?_,g2⟩;show(X4l b FU a ((0:Nat):Int)).bind _=_;rw[g1];rfl
 ·exact⟨_,rfl,rfl,Xg5 _⟩
 ·refine⟨_,rfl,?_,Xg5 _⟩;show some (if (bif decide (a<b) then true else a==b)=true then (1:Int) else 0)=_;congr 2
  by_cases h:a<b
  ·simp[h];omega
  ·by_cases h3:a=b
   ·simp[h3]
   ·simp[h,h3];omega
 ·exact⟨_,rfl,rfl,Xg5 _⟩
 ·refine⟨_,rfl,?_,Xg5 _⟩;show some (if (bif decide (b<a) then true else a==b)=true then (1:Int) else 0)=_;congr 2
  by_cases h:b<a
  ·simp[h];omega
  ·by_cases h3:a=b
   ·simp[h3]
   ·simp[h,h3];omega
 ·exact⟨_,rfl,rfl,Xg5 _⟩
 ·exact⟨_,rfl,rfl,Xg5 _⟩
 ·exact⟨_,rfl,rfl,Xg5 _⟩
 ·refine⟨_,rfl,?_,Xg5 _⟩;rw[X0hq ha hb];rfl
end Go.D


namespace Go.D
theorem Xvd {l:List X4} (env:V5 Int) (ho:∀ j x,l[j]?=some x->Xgh x j):∀ (xs:List X4) (k:Nat) (vs:List Int),l.drop k=xs->vs.length=l.length->∃ vs',X1q env l xs k vs=some (.x0 vs')/\vs'.length=l.length
 |[],k,vs,_,hv=>⟨vs,rfl,hv⟩
 |x::xs,k,vs,h,hv=>by
  have hk:l[k]?=some x:=by
   have:(l.drop k)[0]?=some x:=by rw[h];rfl
   simpa using this
  have hd:l.drop (k+1)=xs:=by
   have:(l.drop k).drop 1=xs:=by rw[h];rfl
   rw[List.drop_drop] at this;exact this
  have hlt:=(Ys.1 hk).1;have hx:=ho k x hk;have hg:getI vs (k:Int)=some (vs[k]' om):=by rw[X2r];exact Ye _
  have go:∀ z,∃ vs',X1q env l xs (k+1) (vs.set (Int.toNat (k:Int)) z)=some (.x0 vs')/\vs'.length=l.length:=λz=>Xvd env ho xs (k+1) _ hd (by rw[List.length_set];exact hv);rw[X1q];have h1:=hx.lo;have h2:=hx.hi;by_cases k1:x.Kind=1
  ·rw[show(x.Kind==1)=true by simp[k1],cond_true,hg,Yo];exact go _
  ·rw[show(x.Kind==1)=false by simp[k1],cond_false];by_cases k4:x.Kind<=4
   ·rw[Yt k4,cond_true,show(x.Kind==0)=false by simp;omega,hg];simp only[Yo,cond_false];rcases(by omega:x.Kind=2\/x.Kind=3\/x.Kind=4) with h|h|h
    ·rw[h];exact go _
    ·rw[h];exact go _
    ·rw[h];exact go _
   ·rw[Yf k4,cond_false];have hA:=hx.ak om;have hB:=hx.bk om;obtain⟨a,ha,_⟩:=Xd6 (l:=vs) hx.a0 om;obtain⟨b,hb,_⟩:=Xd6 (l:=vs) hx.b0 om;obtain⟨v,hdo⟩:=Xnb (K:=x.Kind) (a:=a) (b:=b) om h2;rw[ha,Yo,hb,Yo,hdo,hg];exact go _
def evV (l:List X4) (r:X9):Int:=match X4b l r with|some v=>v.1|none=>0
theorem Xf5 {l:List X4} (h0:∀ x∈l,0<=x.Kind) (h:(kOf l).2.2=0) (r:X9):X4b l r=some (evV l r,0):=by
 have hz:nchk l=0:=by
  by_cases hz:nchk l=0
  ·exact hz
  ·unfold kOf at h;rw[if_pos hz] at h;exact h
 obtain⟨h60,h1,_⟩:=X9w hz;have:∃ v,X4b l r=some (v,0):=by
  unfold X4b Xdh Xa4;rw[Xa1 h0,Yo,Yo,h];have hm:mkOk (l.length:Int) (l.length:Int) 8=some ():=by unfold mkOk;rw[if_pos ⟨by omega,rfl,by omega⟩]
  rw[hm,X1w om];obtain⟨vs,hvs,hl⟩:=Xvd (V5.mk 0 0 r.Key r.Time r.Value) (X93 hz) l 0 (List.replicate (Int.toNat (l.length:Int)) 0) rfl (by simp);simp only[Yo];rw[hvs];simp only[bne_self_eq_false,cond_false,Yo];rw[hl,X05 om om];obtain⟨v,hv,_⟩:=Xd6 (l:=vs) (i:=(l.length:Int) - 1) om om;exact⟨v,by rw[hv];rfl⟩
 obtain⟨v,hv⟩:=this;unfold evV;rw[hv]
theorem Xuz {l:List X4} {b:Bool} (h:(X1n l b).2=0):(kOf l).2.2=0:=by
 unfold X1n at h;split at h
 ·cases h
 ·exact h
def Xex (l:List X4) (r:X9) (j:Nat):Int:=(X0u (j+1) l (j:Int) r).getD 0
theorem Xnp {l:List X4} {r:X9} (ho:∀ j x,l[j]?=some x->Xgh x j) (hN:∀ x∈l,i64 x.N) (hr:i64 r.Key/\i64 r.Time/\i64 r.Value):∀ (b j:Nat),j<b->j<l.length->∀ n,j<n->X0u n l (j:Int) r=some (Xex l r j)/\i64 (Xex l r j):=by
 intro b
 induction b with
 |zero=>intro j h;omega
 |succ b ih =>
  intro j _ hj;have main:∃ v,i64 v/\∀ n,j<n->X0u n l (j:Int) r=some v:=by
   have hx:=ho j l[j] (Ye hj);have hg:getI l (j:Int)=some l[j]:=by rw[X2r];exact Ye hj
   generalize hxe:l[j]=x at hx hg;have hmem:x∈l:=by rw[<-hxe];exact List.getElem_mem hj
   by_cases k4:x.Kind<=4
   ·have lo:=hx.lo;rcases(by omega:x.Kind=1\/x.Kind=2\/x.Kind=3\/x.Kind=4) with h|h|h|h
    ·refine⟨x.N,hN x hmem,λn hn=>?_⟩;obtain⟨n,rfl⟩:∃ q,n=q+1:=⟨n - 1,by omega⟩;rw[X0u,hg,Yo,h];rfl
    ·refine⟨r.Key,hr.1,λn hn=>?_⟩;obtain⟨n,rfl⟩:∃ q,n=q+1:=⟨n - 1,by omega⟩;rw[X0u,hg,Yo,h];rfl
    ·refine⟨r.Time,hr.2.1,λn hn=>?_⟩;obtain⟨n,rfl⟩:∃ q,n=q+1:=⟨n - 1,by omega⟩;rw[X0u,hg,Yo,h];rfl
    ·refine⟨r.Value,hr.2.2,λn hn=>?_⟩;obtain⟨n,rfl⟩:∃ q,n=q+1:=⟨n - 1,by omega⟩;rw[X0u,hg,Yo,h];rfl
   ·have hi:=hx.hi;have hA:=hx.ak om;have hB:=hx.bk om;have hA0:=hx.a0;have hB0:=hx.b0;have eA:x.A=((x.A.toNat:Nat):Int):=by omega
    have eB:x.B=((x.B.toNat:Nat):Int):=by omega
    have gA:=ih x.A.toNat om om;have gB:=ih x.B.toNat om om;have e1:(x.Kind==1)=false:=by simp;omega
    have e2:(x.Kind==2)=false:=by simp;omega
    have e3:(x.Kind==3)=false:=by simp;omega
    have e4:(x.Kind==4)=false:=by simp;omega
    have body:∀ n:Nat,j<n+1->X0u (n+1) l (j:Int) r=(X1e x.Kind).bind λv7=>(bif (v7==(2:Int)) then ((X0u n l x.B r).bind λv14=>some v14) else (some 0):Option (Int)).bind λj12=>(X0u n l x.A r).bind λv17=>(X52 x.Kind v17 j12).bind λv19=>some v19:=by
     intro n _;rw[X0u,hg,Yo,e1,e2,e3,e4];rfl
    by_cases k6:x.Kind<=6
    ·obtain⟨v,_,hv,hv2⟩:=Xjd (K:=x.Kind) (b:=0) om hi (gA (x.A.toNat+1) om).2 (by unfold i64;omega);refine⟨v,hv2,λn hn=>?_⟩;obtain⟨n,rfl⟩:∃ q,n=q+1:=⟨n - 1,by omega⟩;rw[body n hn,show X1e x.Kind=some 1 by unfold X1e;rw[Yf om,Yt k6];rfl,Yo];show(X0u n l x.A r).bind _=_;rw[eA,(gA n om).1,Yo,hv];rfl
    ·obtain⟨v,_,hv,hv2⟩:=Xjd (K:=x.Kind) om hi (gA (x.A.toNat+1) om).2 (gB (x.B.toNat+1) om).2;refine⟨v,hv2,λn hn=>?_⟩;obtain⟨n,rfl⟩:∃ q,n=q+1:=⟨n - 1,by omega⟩;rw[body n hn,show X1e x.Kind=some 2 by unfold X1e;rw[Yf om,Yf k6];rfl,Yo];show((X0u n l x.B r).bind λv14=>some v14).bind _=_;rw[eB,(gB n om).1,Yo,Yo,eA,(gA n om).1,Yo,hv];rfl
  obtain⟨v,hv,hn⟩:=main;have:Xex l r j=v:=by unfold Xex;rw[hn (j+1) om];rfl
  intro n hjn;rw[this];exact⟨hn n hjn,hv⟩
theorem Xvc {l:List X4} {r:X9} (ho:∀ j x,l[j]?=some x->Xgh x j) (hN:∀ x∈l,i64 x.N) (hr:i64 r.Key/\i64 r.Time/\i64 r.Value):∀ (xs:List X4) (k:Nat) (vs:List Int),l.drop k=xs->vs.length=l.length->(∀ j,j<k->vs[j]?=some (Xex l r j))->∃ vs',X1q (V5.mk 0 0 r.Key r.Time r.Value) l xs k vs=some (.x0 vs')/\vs'.length=l.length/\(∀ j,j<l.length->vs'[j]?=some (Xex l r j))
 |[],k,vs,h,hv,hk=>⟨vs,rfl,hv,λj hj=>hk j (by have:=Go.Av.drop_nil h;omega)⟩
 |x::xs,k,vs,h,hv,hk=>by
  obtain⟨hlt,hkx,hd⟩:=Go.Av.drop_cons h;have hx:=ho k x hkx;have hg:getI vs (k:Int)=some (vs[k]' om):=by rw[X2r];exact Ye _
  have hmem:x∈l:=Yg hkx;have hgl:getI l (k:Int)=some x:=by rw[X2r];exact hkx
  have go:∀ z,z=Xex l r k->∃ vs',X1q (V5.mk 0 0 r.Key r.Time r.Value) l xs (k+1) (vs.set (Int.toNat (k:Int)) z)=some (.x0 vs')/\vs'.length=l.length/\(∀ j,j<l.length->vs'[j]?=some (Xex l r j)):=by
   intro z hz;refine Xvc ho hN hr xs (k+1) _ hd (by rw[List.length_set];exact hv) λj hj=>?_;rw[Int.toNat_natCast];by_cases hjk:j=k
   ·subst hjk;rw[List.getElem?_set_self om,hz]
   ·rw[List.getElem?_set_ne om];exact hk j om
  have hval:∀ n,k<n->X0u n l (k:Int) r=some (Xex l r k):=λn hn=>(Xnp ho hN hr (k+1) k om hlt n hn).1;have hone:=hval (k+1) om;rw[X0u,hgl,Yo] at hone;rw[X1q];have h1:=hx.lo;have h2:=hx.hi;by_cases k1:x.Kind=1
  ·rw[show(x.Kind==1)=true by simp[k1],cond_true,hg,Yo];rw[k1] at hone;exact go _ (Option.some.inj hone)
  ·rw[show(x.Kind==1)=false by simp[k1],cond_false];by_cases k4:x.Kind<=4
   ·rw[Yt k4,cond_true,show(x.Kind==0)=false by simp;omega,hg];simp only[Yo,cond_false];rcases(by omega:x.Kind=2\/x.Kind=3\/x.Kind=4) with h|h|h
    ·rw[h] at hone ⊢;exact go _ (Option.some.inj hone)
    ·rw[h] at hone ⊢;exact go _ (Option.some.inj hone)
    ·rw[h] at hone ⊢;exact go _ (Option.some.inj hone)
   ·rw[Yf k4,cond_false];have hA:=hx.ak om;have hB:=hx.bk om;have hA0:=hx.a0;have hB0:=hx.b0;have eA:x.A=((x.A.toNat:Nat):Int):=by omega
    have eB:x.B=((x.B.toNat:Nat):Int):=by omega
    have gA:=Xnp ho hN hr k x.A.toNat om om k om;have gB:=Xnp ho hN hr k x.B.toNat om om k om;have ga:getI vs x.A=some (Xex l r x.A.toNat):=by rw[eA,X2r];exact hk _ om
    have gb:getI vs x.B=some (Xex l r x.B.toNat):=by rw[eB,X2r];exact hk _ om
    obtain⟨v,hdo,hgv,_⟩:=Xjd (K:=x.Kind) om h2 gA.2 gB.2;have e1:(x.Kind==1)=false:=by simp;omega
    have e2:(x.Kind==2)=false:=by simp;omega
    have e3:(x.Kind==3)=false:=by simp;omega
    have e4:(x.Kind==4)=false:=by simp;omega
    rw[e1,e2,e3,e4] at hone;simp only[cond_false] at hone;have hz:v=Xex l r k:=by
     rw[eA,gA.1] at hone;by_cases k6:x.Kind<=6
     ·rw[show X1e x.Kind=some 1 by unfold X1e;rw[Yf om,Yt k6];rfl] at hone;have h56:∀ q,X52 x.Kind (Xex l r x.A.toNat) q=X52 x.Kind (Xex l r x.A.toNat) 0:=by
       intro q;unfold X52;rcases(by omega:x.Kind=5\/x.Kind=6) with h|h<;>rw[h]<;>rfl
      rw[h56] at hgv;simp only[Yo,show((1:Int)==2)=false from rfl,cond_false,hgv] at hone;exact Option.some.inj hone
     ·rw[show X1e x.Kind=some 2 by unfold X1e;rw[Yf om,Yf k6];rfl,eB,gB.1] at hone;simp only[Yo,show((2:Int)==2)=true from rfl,cond_true,hgv] at hone;exact Option.some.inj hone
    rw[ga,Yo,gb,Yo,hdo,hg];exact go _ hz
end Go.D


namespace Go.D
inductive Sub (s:Ex):Nat->Ex->Prop
 |refl:Sub s 0 s
 |un {o:Nat} {k t:Int} {a:Ex} (h:Sub s o a):Sub s o (.un k t a)
 |l {o:Nat} {k t:Int} {a b:Ex} (h:Sub s o a):Sub s o (.bin k t a b)
 |r {o:Nat} {k t:Int} {a b:Ex} (h:Sub s o b):Sub s (a.sz+o) (.bin k t a b)
theorem Sub.fl {s e:Ex} {o:Nat} (h:Sub s o e):∀ base:Int,∃ P S,e.fl base=P++(s.fl (base+o)++S)/\P.length=o:=by
 induction h with
 |refl=>simp_all
 |un h ih=>intro base;obtain⟨P,S,h1,h2⟩:=ih base;grind [Ex.fl,List.append_assoc]
 |l h ih=>intro base;obtain⟨P,S,h1,h2⟩:=ih base;grind [Ex.fl,List.append_assoc]
 |@r o k t a b h ih =>
  intro base;obtain⟨P,S,h1,h2⟩:=ih (base+a.sz);refine⟨a.fl base++P,S++[⟨k,0,base+a.sz - 1,base+a.sz+b.sz - 1,t⟩],?_,by simp[a.fl_len,h2]⟩
  grind [Ex.fl,List.append_assoc]
theorem Sub.sdo {s e:Ex} {o:Nat} (h:Sub s o e):∃ P S,e.sdo=P++(s.sdo++S)/\P.length=o:=by
 induction h with
 |refl=>simp_all
 |un h ih=>grind [Ex.sdo,List.append_assoc]
 |l h ih=>grind [Ex.sdo,List.append_assoc]
 |@r o k t a b h ih =>
  obtain⟨P,S,h1,h2⟩:=ih;exact⟨a.sdo++P,S++[_],by rw[Ex.sdo,h1];simp only[List.append_assoc];rfl,by simp[a.sdo_len,h2]⟩
theorem Sub.le {s e:Ex} {o:Nat} (h:Sub s o e):o+s.sz<=e.sz:=by
 induction h with
 |refl=>omega
 |un h ih=>simp only[Ex.sz];omega
 |l h ih=>simp only[Ex.sz];omega
 |r h ih=>simp only[Ex.sz];omega
theorem Sub.dple {s e:Ex} {o:Nat} (h:Sub s o e):s.dp<=e.dp:=by
 induction h with
 |refl=>omega
 |un h ih=>simp only[Ex.dp];omega
 |l h ih=>simp only[Ex.dp];omega
 |r h ih=>simp only[Ex.dp];omega
theorem Sub.ok {s e:Ex} {o:Nat} (h:Sub s o e):e.ok->s.ok:=by
 induction h with
 |refl=>exact id
 |un h ih=>exact λg=>ih g.2.2.2.2
 |l h ih=>exact λg=>ih g.2.2.2.2.1
 |r h ih=>exact λg=>ih g.2.2.2.2.2
theorem Sub.trans {s m e:Ex} {o p:Nat} (h:Sub s o m) (g:Sub m p e):Sub s (p+o) e:=by
 induction g with
 |refl=>grind
 |un g ih=>exact .un ih
 |l g ih=>exact .l ih
 |r g ih=>rw[Nat.add_assoc];exact .r ih
theorem Sub.u {e a:Ex} {k t:Int} {o:Nat} (h:Sub (.un k t a) o e):Sub a o e:=(Sub.un Sub.refl).trans h
theorem Sub.a {e a b:Ex} {k t:Int} {o:Nat} (h:Sub (.bin k t a b) o e):Sub a o e:=(Sub.l Sub.refl).trans h
theorem Sub.b {e a b:Ex} {k t:Int} {o:Nat} (h:Sub (.bin k t a b) o e):Sub b (o+a.sz) e:=(Sub.r Sub.refl).trans h
theorem Sub.get {s e:Ex} {o:Nat} (h:Sub s o e):(e.fl 0)[o+s.sz - 1]?=some (s.rt o):=by
 obtain⟨P,S,h1,h2⟩:=h.fl 0;obtain⟨l,h3,h4⟩:=s.fl_last (0+(o:Int))
 grind
theorem Sub.getI {s e:Ex} {o:Nat} (h:Sub s o e) {i:Int} (hi:i=(o:Int)+s.sz - 1):getI (e.fl 0) i=some (s.rt o):=by
 have:=s.sz_pos;rw[hi,show(o:Int)+s.sz - 1=((o+s.sz - 1:Nat):Int) by omega,X2r];exact h.get
theorem Sub.sd {s e:Ex} {o:Nat} (h:Sub s o e):e.sdo[o+s.sz - 1]?=some (s.sz,s.dp):=by
 obtain⟨P,S,h1,h2⟩:=h.sdo;obtain⟨l,h3,h4⟩:=s.sdo_last
 grind
theorem Sub.kindAt {s e:Ex} {o:Nat} (h:Sub s o e) {i:Int} (hi:i=(o:Int)+s.sz - 1):kindAt (e.fl 0) i=s.kd:=by
 unfold Go.D.kindAt;rw[h.getI hi];exact s.rt_kd _
def Ex.ty:Ex->Bool
 |.leaf ..=>true
 |.un k _ a=>a.ty&&(if k=5 then !(giv a.kd) else giv a.kd)
 |.bin k _ a b=>(a.ty&&b.ty)&&(if k<=15 then !(giv a.kd)&&!(giv b.kd) else if k<=17 then giv a.kd==giv b.kd else giv a.kd&&giv b.kd)
theorem Xp2 {e:Ex} (s:Ex):∀ (o:Nat),Sub s o e->s.ok->((s.fl o).all (Xi1 (e.fl 0))=s.ty):=by
 induction s with
 |leaf k n t =>
  intro o h ⟨h1,h2,_⟩
  simp_all [Xi1,if_pos,Ex.fl,Ex.ty]
 |un k t a ih =>
  intro o h ⟨h1,h2,_,_,h5⟩;have hk:=h.u.kindAt (i:=(o:Int)+a.sz - 1) rfl;have:Xi1 (e.fl 0) ⟨k,0,(o:Int)+a.sz - 1,0,t⟩=(if k=5 then !(giv a.kd) else giv a.kd):=by
   unfold Xi1
   grind
  simp[Ex.fl,Ex.ty,this,ih o h.u h5]
 |bin k t a b iha ihb =>
  intro o h ⟨h1,h2,_,_,h5,h6⟩;have hk:=h.a.kindAt (i:=(o:Int)+a.sz - 1) rfl;have hb:=h.b.kindAt (i:=(o:Int)+a.sz+b.sz - 1) om;have:Xi1 (e.fl 0) ⟨k,0,(o:Int)+a.sz - 1,(o:Int)+a.sz+b.sz - 1,t⟩=(if k<=15 then !(giv a.kd)&&!(giv b.kd) else if k<=17 then giv a.kd==giv b.kd else giv a.kd&&giv b.kd):=by
   unfold Xi1
   grind
  have e2:=ihb (o+a.sz) h.b h6;rw[show((o+a.sz:Nat):Int)=(o:Int)+a.sz by omega] at e2;simp only[Ex.fl,Ex.ty,List.all_append,List.all_cons,List.all_nil,Bool.and_true,this,iha o h.a h5,e2,Bool.and_assoc]
theorem Xiz (l:List X4):∀ (xs:List X4) (k:Nat),wrN l xs k=none↔xs.all (Xi1 l)=true
 |[],k=>by simp[wrN]
 |x::xs,k=>by
  unfold wrN
  cases h:Xi1 l x with
  |true=>rw[if_pos rfl,Xiz l xs (k+1)];simp[h]
  |false=>simp[h]
structure Ex.fits (e:Ex):Prop where
 ok:e.ok
 sz:e.sz<=60
 dp:e.dp<=20
theorem Ex.fits.sub {e s:Ex} {o:Nat} (h:e.fits) (g:Sub s o e):s.fits:=⟨g.ok h.ok,by have:=g.le;have:=h.sz;omega,Nat.le_trans g.dple h.dp⟩
theorem X05b {e:Ex} (h:e.fits):(kOf (e.fl 0)).2.2=0↔e.ty=true:=by
 unfold kOf;rw[if_neg (by rw[(X83 h.ok h.sz h.dp).1];simp)];have hf:=Xp2 e 0 (Sub.refl (s:=e)) h.ok;have hw:=Xiz (e.fl 0) (e.fl 0) 0
 grind
theorem Xd2 {e:Ex} (h:e.fits) (ht:e.ty=true):kOf (e.fl 0)=(giv e.kd,(e.sz:Int) - 1,0):=by
 unfold kOf;rw[if_neg (by rw[(X83 h.ok h.sz h.dp).1];simp)];have hf:=Xp2 e 0 (Sub.refl (s:=e)) h.ok;have hw:=Xiz (e.fl 0) (e.fl 0) 0;rw[show((0:Nat):Int)=0 from rfl] at hf;rw[hf] at hw;rw[hw.2 ht];simp only[];rw[e.fl_len,(Sub.refl (s:=e)).kindAt (by simp)]
theorem Sub.ty {s e:Ex} {o:Nat} (h:Sub s o e):e.ty=true->s.ty=true:=by
 induction h with
 |refl=>exact id
 |un h ih=>simp_all [Ex.ty,Bool.and_eq_true]
 |l h ih=>simp_all [Ex.ty,Bool.and_eq_true]
 |r h ih=>simp_all [Ex.ty,Bool.and_eq_true]
theorem X0em {l:List X4} (h:(kOf l).2.2=0):∃ e:Ex,e.fits/\e.ty=true/\l=e.fl 0:=by
 have hz:nchk l=0:=by
  by_cases hz:nchk l=0
  ·exact hz
  ·unfold kOf at h;grind
 obtain⟨e,h1,h2,h3,rfl,_⟩:=Xzq hz;exact⟨e,⟨h1,h2,h3⟩,(X05b ⟨h1,h2,h3⟩).1 h,rfl⟩
theorem X06b {e:Ex} (h:e.ok):∀ o:Int,∀ x∈e.fl o,1<=x.Kind/\x.Kind<=19:=by
 induction e with
 |leaf k n t=>intro o x hx;rw[List.mem_singleton.1 hx];obtain⟨h1,h2,_⟩:=h;exact⟨h1,by show k<=19;omega⟩
 |un k t a ih =>
  intro o x hx;obtain⟨h1,h2,_,_,h5⟩:=h;rcases List.mem_append.1 hx with hx|hx
  ·exact ih h5 o x hx
  ·rw[List.mem_singleton.1 hx];exact⟨by show 1<=k;omega,by show k<=19;omega⟩
 |bin k t a b iha ihb =>
  intro o x hx;obtain⟨h1,h2,_,_,h5,h6⟩:=h;rcases List.mem_append.1 hx with hx|hx
  ·exact iha h5 o x hx
  ·rcases List.mem_append.1 hx with hx|hx
   ·exact ihb h6 _ x hx
   ·rw[List.mem_singleton.1 hx];exact⟨by show 1<=k;omega,by show k<=19;omega⟩
theorem Xr3 {e:Ex} (h:e.ok) (o:Int):∀ x∈e.fl o,0<=x.Kind:=λx hx=>by have:=X06b h o x hx;omega
def Ex.cs:Ex->Bool
 |.leaf k _ _=>decide (k<=1)
 |.un _ _ a=>a.cs
 |.bin _ _ a b=>a.cs&&b.cs
def Xcm (x:X4):Bool:=decide (1<x.Kind)&&decide (x.Kind<5)
theorem X02n {e:Ex} (h:e.ok):∀ o:Int,(e.fl o).any Xcm=!e.cs:=by
 induction e with
 |leaf k n t =>
  intro o;obtain⟨h1,h2,_⟩:=h;simp only[Ex.fl,Ex.cs,List.any_cons,List.any_nil,Bool.or_false,Xcm]
  grind
 |un k t a ih =>
  intro o;obtain⟨h1,h2,_,_,h5⟩:=h
  simp_all [Xcm,Yf,Bool.and_false,Ex.fl,Ex.cs]
 |bin k t a b iha ihb =>
  intro o;obtain⟨h1,h2,_,_,h5,h6⟩:=h;have:Xcm ⟨k,0,o+a.sz - 1,o+a.sz+b.sz - 1,t⟩=false:=by unfold Xcm;grind
  grind [Ex.fl,Ex.cs]
theorem Xr9 {x:X4} {k:Nat} (h:Xgh x k):X2c x=some (Xcm x):=by
 have h1:=h.lo;have h2:=h.leaf;have h3:=h.nk
 grind [X2c,Xcm,Xdj,X4.mk.injEq]
theorem Xlh (Y:List X4):∀ (xs:List X4) (k:Nat),(∀ x∈xs,X2c x=some (Xcm x))->(xs.any Xcm=true/\∃ j:Nat,X0a Y xs k=some (.x1 (j:Int)))\/(xs.any Xcm=false/\X0a Y xs k=some .x0)
 |[],k,h=>.inr ⟨rfl,rfl⟩
 |x::xs,k,h=>by
  unfold X0a;rw[h x List.mem_cons_self,Yo]
  cases hf:Xcm x with
  |true=>grind
  |false =>
   rw[cond_false,List.any_cons,hf,Bool.false_or];exact Xlh Y xs (k+1) λy hy=>h y (List.mem_cons_of_mem _ hy)
theorem Xed {e:Ex} (h:e.fits):X5a (e.fl 0)=some (e.cs,0):=by
 have hn:=X83 h.ok h.sz h.dp;have hl:(e.fl 0).length<=60:=by rw[e.fl_len];exact h.sz
 unfold X5a;rw[X5s (Xr3 h.ok 0),hn.1,Yo];simp only[bne_self_eq_false,cond_false];unfold X0d X0i;rw[X1w om,Yo];have hk:∀ x∈e.fl 0,X2c x=some (Xcm x):=by
  intro x hx;obtain⟨j,hj⟩:=List.getElem?_of_mem hx;exact Xr9 (X93 hn.1 j x hj)
 have ha:=X02n h.ok 0
 grind [Xlh,Yt,Yf]
end Go.D


namespace Go.D
def mv (d:Int) (x:X4):X4 :=
 if x.Kind<=4 then x else if x.Kind<=6 then ⟨x.Kind,x.N,x.A+d,x.B,x.At⟩ else ⟨x.Kind,x.N,x.A+d,x.B+d,x.At⟩
theorem X0jp {e:Ex} (h:e.ok) (d:Int):∀ o:Int,(e.fl o).map (mv d)=e.fl (o+d):=by
 induction e with
 |leaf k n t=>intro o;obtain⟨h1,h2,_⟩:=h;simp[Ex.fl,mv,h2]
 |un k t a ih =>
  intro o;obtain⟨h1,h2,_,_,h5⟩:=h;have:mv d ⟨k,0,o+a.sz - 1,0,t⟩=⟨k,0,o+d+a.sz - 1,0,t⟩:=by
   unfold mv;grind
  grind [Ex.fl]
 |bin k t a b iha ihb =>
  intro o;obtain⟨h1,h2,_,_,h5,h6⟩:=h;have:mv d ⟨k,0,o+a.sz - 1,o+a.sz+b.sz - 1,t⟩=⟨k,0,o+d+a.sz - 1,o+d+a.sz+b.sz - 1,t⟩:=by
   unfold mv;grind
  grind [Ex.fl]
structure Near (x:X4):Prop where
 lo:1<=x.Kind
 hi:x.Kind<=19
 a : -1000000<=x.A/\x.A<=1000000
 b : -1000000<=x.B/\x.B<=1000000
theorem X0b5 {e:Ex} (h:e.ok):∀ o:Int,-100000<=o->o+e.sz<=100000->∀ x∈e.fl o,Near x:=by
 induction e with
 |leaf k n t=>intro o _ _ x hx;rw[List.mem_singleton.1 hx];obtain⟨h1,h2,_⟩:=h;exact⟨h1,by grind,⟨by grind,by grind⟩,⟨by show(-1000000:Int)<=0;omega,by show(0:Int)<=_;omega⟩⟩
 |un k t a ih =>
  intro o g1 g2 x hx;obtain⟨h1,h2,_,_,h5⟩:=h;simp only[Ex.sz] at g2;have hp:=a.sz_pos;generalize hz:(a.sz:Int)=z at g2;rcases List.mem_append.1 hx with hx|hx
  ·grind
  ·rw[List.mem_singleton.1 hx,hz];exact⟨by grind,by show k<=19;omega,⟨by grind,by grind⟩,⟨by show(-1000000:Int)<=0;omega,by show(0:Int)<=_;omega⟩⟩
 |bin k t a b iha ihb =>
  intro o g1 g2 x hx;obtain⟨h1,h2,_,_,h5,h6⟩:=h;simp only[Ex.sz] at g2;have hp:=a.sz_pos;have hq:=b.sz_pos;rcases List.mem_append.1 hx with hx|hx
  ·grind
  ·rcases List.mem_append.1 hx with hx|hx
   ·grind
   ·rw[List.mem_singleton.1 hx];generalize hz:(a.sz:Int)=z at g2;generalize hy:(b.sz:Int)=y at g2;exact⟨by show 1<=k;omega,by show k<=19;omega,⟨by show _<=o+z - 1;omega,by show o+z - 1<=_;omega⟩,⟨by grind,by grind⟩⟩
theorem X0il {α:Type} (P:List α) (x:α) (Q:List α):(P++x::Q)[P.length]?=some x:=by simp
theorem Xoy {α:Type} (P:List α) (x:α) (Q:List α):getI (P++x::Q) (P.length:Int)=some x:=by rw[X2r];grind
theorem Xs3 {α:Type} (P:List α) (x y:α) (Q:List α):(P++x::Q).set (Int.toNat (P.length:Int)) y=P++y::Q:=by
 simp_all
theorem Xuq (d:Int) (hd : -1000000<=d/\d<=1000000):∀ (Q P:List X4) (n:Nat),Q.length<n->P.length+Q.length<=1000->(∀ x∈Q,Near x) ->
  X2w d ((P.length+Q.length:Nat):Int) n (P++Q) (P.length:Int)=some (.x0 (P++Q.map (mv d)))
 |[],P,n,hn,_,_=>by
  obtain⟨n,rfl⟩:∃ q,n=q+1:=⟨n - 1,by grind⟩
  simp_all [X2w,Yf,cond_false]
 |x::Q,P,n,hn,hl,hx=>by
  simp only[List.length_cons] at hn hl;obtain⟨n,rfl⟩:∃ q,n=q+1:=⟨n - 1,by omega⟩;obtain⟨h1,h2,ha,hb⟩:=hx x List.mem_cons_self;have go:∀ y,y=mv d x->X2w d ((P.length+(x::Q).length:Nat):Int) n (P++y::Q) (IntKind.i64.wrap ((P.length:Int)+1))=some (.x0 (P++(x::Q).map (mv d))):=by
   intro y hy;have:=Xuq d hd Q (P++[y]) n om (by simp;omega) λz hz=>hx z (List.mem_cons_of_mem _ hz)
   grind [List.length_append,List.length_singleton,List.append_assoc,List.singleton_append,X05]
  rw[X2w,Yt (by grind),cond_true,Xoy,Yo,Xo2 om,if_pos ⟨h1,h2⟩,Yo];by_cases k4:x.Kind<=4
  ·rw[if_pos k4];exact go x (by unfold mv;rw[if_pos k4])
  ·rw[if_neg k4];by_cases k6:x.Kind<=6
   ·rw[if_pos k6];simp only[show decide ((1:Int)>0)=true from rfl,show decide ((1:Int)>1)=false from rfl,cond_true,cond_false,Yo];rw[Xs3,X05 (z:=x.A+d) om om];exact go _ (by unfold mv;grind)
   ·rw[if_neg k6];simp only[show decide ((2:Int)>0)=true from rfl,show decide ((2:Int)>1)=true from rfl,cond_true,Yo];rw[Xs3,Xoy,Yo,Yo,Xs3,X05 (z:=x.A+d) om om,X05 (z:=x.B+d) om om];exact go _ (by unfold mv;grind)
theorem Xm8 {d:Int} (hd : -1000000<=d/\d<=1000000) {l:List X4} (hl:l.length<=900) (h:∀ x∈l,Near x):X63 l d=some (l.map (mv d)):=by
 have:=Xuq d hd l [] FU (by unfold FU;omega) (by simp;omega) h;simp only[List.length_nil,Nat.zero_add,List.nil_append] at this;unfold X63;rw[X3q om];have e:((bif l.isEmpty then some l else (some ()).bind λ_=>some l):Option (List X4))=some l:=by cases l<;>rfl
 rw[e,Yo];rw[show((0:Nat):Int)=0 from rfl] at this;rw[this];rfl
theorem X5w {e:Ex} (h:e.fits) {o d:Int} (ho : -1000<=o/\o<=1000) (hd : -1000<=d/\d<=1000):X63 (e.fl o) d=some (e.fl (o+d)):=by
 have:=h.sz;rw[Xm8 om (by rw[e.fl_len];omega) (X0b5 h.ok o om om),X0jp h.ok]
theorem Xyr {α:Type} (P Q S:List α):X5n (P++(Q++S)) (P.length:Int) ((P.length+Q.length:Nat):Int)=some Q:=by
 unfold X5n;rw[if_pos ⟨by omega,by omega,by rw[Int.toNat_natCast];simp⟩,Int.toNat_natCast,Int.toNat_natCast,List.drop_left,show P.length+Q.length - P.length=Q.length by omega,List.take_left]
theorem Xkh {e s:Ex} {o:Nat} (h:e.fits) (g:Sub s o e):Xbc (e.fl 0) ((o:Int)+s.sz - 1)=some ((s.sz:Int),0):=by
 obtain⟨h0,hr⟩:=X83 h.ok h.sz h.dp;obtain⟨t,ht,hs⟩:=Xek (Xr3 h.ok 0);obtain⟨sd,hsd,rfl⟩:=hs h0;rw[hr] at hsd;cases hsd
 have hp:=s.sz_pos;have hle:=g.le;have hsz:=h.sz;unfold Xbc;rw[ht,h0];simp only[Yo,bne_self_eq_false,cond_false];rw[Xmt,e.sdo_len,Yf (show ¬ (o:Int)+s.sz - 1<0 by omega),Yf (show ¬ (o:Int)+s.sz - 1 >= (e.sz:Int) by omega)];simp only[cond_false,Yo];rw[show(o:Int)+s.sz - 1=((o+s.sz - 1:Nat):Int) by omega,Xmu g.sd];rfl
theorem Xki {e s:Ex} {o:Nat} (h:e.fits) (g:Sub s o e):Xbd (e.fl 0) ((o:Int)+s.sz - 1)=some (s.fl 0,0):=by
 have hp:=s.sz_pos;have hle:=g.le;have hsz:=h.sz;unfold Xbd;rw[Xkh h g];simp only[Yo,bne_self_eq_false,cond_false];obtain⟨P,S,h1,h2⟩:=g.fl 0;rw[X05 (z:=(o:Int)+s.sz - 1+1) om om,X05 (z:=(o:Int)+s.sz - 1+1 - s.sz) om om,X05 (z:=0 - _) om om];have:=Xyr P (s.fl (0+(o:Int))) S;rw[<-h1,h2,s.fl_len] at this
 rw[show(o:Int)+s.sz - 1+1=((o+s.sz:Nat):Int) by omega,show((o+s.sz:Nat):Int) - (s.sz:Int)=(o:Int) by omega,this,Yo,
  X5w (h.sub g) om om,Yo,show 0+(o:Int)+(0 - (o:Int))=0 by omega]
theorem Xkj {K N T:Int} {c:Nat} {l:List (List X4)} {x:X4} {out:List X4} (hp:X2n K=some ((c:Int),0)) (hc:c=l.length) (hn:0<=N) (hk:N=0\/K=1) (h5:0<=T) (h6:T<=400) (hl:l.length<=100)
  (hL:X1u l l 0 ⟨K,N,0,0,T⟩ []=some (.x0 x out)) (ho:out.length<=1000) (hck:X1v (out++[x])=some 0):X2z K N T l=some (out++[x],0):=by
 subst hc;unfold X2z;rw[hp,hL,X1w om];have e2:decide (N<0)=false:=Yf om;have e3:decide (T<0)=false:=Yf om;have e4:decide (T>400)=false:=Yf om;simp only[Yo,bne_self_eq_false,cond_false,e2,e3,e4];have fin:((X1c (out++[x]).length 40).bind λ_=>(X1v (out++[x])).bind λv=>bif v != 0 then some (([]:List X4),v) else some (out++[x],0))=some (out++[x],0):=by
  rw[X3q (by simp;omega),hck];rfl
 rw[fin];by_cases hd:N>0
 ·have hk1:K=1:=by omega
  rw[Yt hd,hk1];rfl
 ·rw[Yf hd];rfl
theorem Xc2 {k:Int} (h1:1<=k) (h2:k<=19):X2n k=some (if k<=4 then 0 else if k<=6 then 1 else 2,0):=by
 have:=Xo2 (x:=⟨k,0,0,0,0⟩) (by show 0<=k;omega);simp only at this;rw[this,if_pos ⟨h1,h2⟩]
theorem X98 {e:Ex} (h:e.fits):X1v (e.fl 0)=some 0:=by
 rw[X5s (Xr3 h.ok 0),(X83 h.ok h.sz h.dp).1]
theorem X04y {k n t:Int} (h:(Ex.leaf k n t).fits):X2z k n t []=some ((Ex.leaf k n t).fl 0,0):=by
 obtain⟨h1,h2,h3,h4,h5,h6⟩:=h.ok;exact Xkj (c:=0) (l:=[]) (x:=⟨k,n,0,0,t⟩) (out:=[]) (by rw[Xc2 h1 om,if_pos h2];rfl) rfl h3 h4 h5 h6 (by simp) rfl (by simp) (X98 h)
theorem Xvf (e:Ex) (o:Int):(e.fl o).isEmpty=false:=by
 obtain⟨l,h,_⟩:=e.fl_last o;rw[h];cases l<;>rfl
theorem Xup {k t:Int} {a:Ex} (h:(Ex.un k t a).fits):X2z k 0 t [a.fl 0]=some ((Ex.un k t a).fl 0,0):=by
 obtain⟨h1,h2,h3,h4,h5⟩:=h.ok;have ha:=h.sub (Sub.un Sub.refl);have hp:=a.sz_pos;have hz:=ha.sz;have e:(Ex.un k t a).fl 0=a.fl 0++[⟨k,0,(a.sz:Int) - 1,0,t⟩]:=by rw[Ex.fl,Int.zero_add]
 rw[e];refine Xkj (c:=1) (l:=[a.fl 0]) (x:=⟨k,0,(a.sz:Int) - 1,0,t⟩) (out:=a.fl 0) (by rw[Xc2 (k:=k) om om,if_neg om,if_pos h2];rfl) rfl om (.inl rfl) h3 h4 (by simp) ?_ (by rw[a.fl_len];omega) ?_
 ·rw[X1u,X98 ha,Yo];simp only[bne_self_eq_false,cond_false,List.nil_append];rw[X5w (o:=0) (d:=(([]:List X4).length:Int)) ha om (by simp),Yo,Xvf,cond_false,show(0:Int)+(([]:List X4).length:Int)=0 by simp,show X1c (a.fl 0).length 40=some () from X3q (by rw[a.fl_len];omega),Yo,a.fl_len,X05 (z:=(a.sz:Int) - 1) om om];rfl
 ·have:=X98 h;rw[e] at this;exact this
theorem Xuo {k t:Int} {a b:Ex} (h:(Ex.bin k t a b).fits):X2z k 0 t [a.fl 0,b.fl 0]=some ((Ex.bin k t a b).fl 0,0):=by
 obtain⟨h1,h2,h3,h4,h5,h6⟩:=h.ok;have ha:=h.sub (Sub.l Sub.refl);have hb:=h.sub (Sub.r Sub.refl);have hp:=a.sz_pos;have hq:=b.sz_pos;have hz:=ha.sz;have hy:=hb.sz;have e:(Ex.bin k t a b).fl 0=a.fl 0++b.fl a.sz++[⟨k,0,(a.sz:Int) - 1,(a.sz:Int)+b.sz - 1,t⟩]:=by rw[Ex.fl,Int.zero_add,List.append_assoc]
 rw[e];refine Xkj (c:=2) (l:=[a.fl 0,b.fl 0]) (x:=⟨k,0,(a.sz:Int) - 1,(a.sz:Int)+b.sz - 1,t⟩) (out:=a.fl 0++b.fl a.sz) (by rw[Xc2 (k:=k) om om,if_neg om,if_neg om];rfl) rfl om (.inl rfl) h3 h4 (by simp) ?_ (by rw[List.length_append,a.fl_len,b.fl_len];omega) ?_
 ·rw[X1u,X98 ha,Yo];simp only[bne_self_eq_false,cond_false,List.nil_append];rw[X5w (o:=0) (d:=(([]:List X4).length:Int)) ha om (by simp),Yo,Xvf,cond_false,show(0:Int)+(([]:List X4).length:Int)=0 by simp,show X1c (a.fl 0).length 40=some () from X3q (by rw[a.fl_len];omega),Yo,a.fl_len,X05 (z:=(a.sz:Int) - 1) om om];simp only[show(((0:Nat):Int)==0)=true from rfl,cond_true,Yo];rw[X1u,X98 hb,Yo];simp only[bne_self_eq_false,cond_false];rw[X5w (o:=0) (d:=((a.fl 0).length:Int)) hb om (by rw[a.fl_len];omega),Yo,Xvf,cond_false,a.fl_len,Int.zero_add,show X1c (a.fl 0++b.fl a.sz).length 40=some () from X3q (by rw[List.length_append,a.fl_len,b.fl_len];omega),Yo,List.length_append,a.fl_len,b.fl_len,X05 (z:=((a.sz+b.sz:Nat):Int) - 1) om om];simp only[show(((0+1:Nat):Int)==0)=false from rfl,cond_false,Yo];rw[X1u,show((a.sz+b.sz:Nat):Int) - 1=(a.sz:Int)+b.sz - 1 by omega]
 ·have:=X98 h;rw[e] at this;exact this
end Go.D


namespace Go.D
theorem X0fz {k:Int}:X1e k=some (if k<=4 then 0 else if k<=6 then 1 else 2):=by
 unfold X1e
 grind
def opv (k a b:Int):Int:=match Xa2 k a b with|some v=>v.1|none=>0
theorem Xmz {k a b:Int} (h1:5<=k) (h2:k<=19) (ha:i64 a) (hb:i64 b):X52 k a b=some (opv k a b)/\i64 (opv k a b):=by
 obtain⟨v,e1,e2,e3⟩:=Xjd h1 h2 ha hb;unfold opv
 grind
def Ex.ir:Ex->Prop
 |.leaf _ n _=>i64 n
 |.un _ _ a=>a.ir
 |.bin _ _ a b=>a.ir/\b.ir
def Ex.vl (r:X9):Ex->Int
 |.leaf k n _=>if k=1 then n else if k=2 then r.Key else if k=3 then r.Time else r.Value
 |.un k _ a=>opv k (a.vl r) 0
 |.bin k _ a b=>opv k (a.vl r) (b.vl r)
def rI (r:X9):Prop:=i64 r.Key/\i64 r.Time/\i64 r.Value
theorem Xit:i64 0:=by trivial
theorem Ex.vl_i64 {e:Ex} {r:X9} (hr:rI r):e.ok->e.ir->i64 (e.vl r):=by
 induction e with
 |leaf k n t =>
  intro h g;unfold Ex.vl;split
  ·exact g
  ·split
   ·exact hr.1
   ·split
    ·exact hr.2.1
    ·exact hr.2.2
 |un k t a ih=>intro h g;exact(Xmz h.1 (by have:=h.2.1;omega) (ih h.2.2.2.2 g) Xit).2
 |bin k t a b iha ihb=>intro h g;exact(Xmz (by have:=h.1;omega) h.2.1 (iha h.2.2.2.2.1 g.1) (ihb h.2.2.2.2.2 g.2)).2
theorem Xw0 {e:Ex} {r:X9} (hr:rI r) (s:Ex):∀ (o n:Nat),Sub s o e->s.ok->s.ir->s.dp<=n->X0u n (e.fl 0) ((o:Int)+s.sz - 1) r=some (s.vl r):=by
 induction s with
 |leaf k n t =>
  intro o m h g i hm;obtain⟨m,rfl⟩:∃ q,m=q+1:=⟨m - 1,by simp only[Ex.dp] at hm;omega⟩;obtain⟨h1,h2,_⟩:=g;rw[X0u,h.getI rfl,Yo]
  grind [Ex.rt,Ex.vl]
 |un k t a ih =>
  intro o m h g i hm;simp only[Ex.dp] at hm;obtain⟨m,rfl⟩:∃ q,m=q+1:=⟨m - 1,by omega⟩;obtain⟨h1,h2,_,_,h5⟩:=g;rw[X0u,h.getI rfl,Yo];simp only[Ex.rt,Ex.vl];rw[show(k==1)=false by simp;omega,show(k==2)=false by simp;omega,show(k==3)=false by simp;omega,show(k==4)=false by simp;omega,X0fz,if_neg om,if_pos h2];simp only[cond_false,Yo,show((1:Int)==2)=false from rfl];rw[ih o m h.u h5 i om,Yo,(Xmz h1 om (Ex.vl_i64 hr h5 i) Xit).1];rfl
 |bin k t a b iha ihb =>
  intro o m h g i hm;simp only[Ex.dp] at hm;obtain⟨m,rfl⟩:∃ q,m=q+1:=⟨m - 1,by omega⟩;obtain⟨h1,h2,_,_,h5,h6⟩:=g;rw[X0u,h.getI rfl,Yo];simp only[Ex.rt,Ex.vl];rw[show(k==1)=false by simp;omega,show(k==2)=false by simp;omega,show(k==3)=false by simp;omega,show(k==4)=false by simp;omega,X0fz,if_neg om,if_neg om];simp only[cond_false,cond_true,Yo,show((2:Int)==2)=true from rfl];have:=ihb (o+a.sz) m h.b h6 i.2 om;rw[show((o+a.sz:Nat):Int)+b.sz - 1=(o:Int)+a.sz+b.sz - 1 by omega] at this;rw[this,Yo,Yo,iha o m h.a h5 i.1 om,Yo,(Xmz om h2 (Ex.vl_i64 hr h5 i.1) (Ex.vl_i64 hr h6 i.2)).1];rfl
theorem X0fh {e:Ex} (h:e.ir):∀ o:Int,∀ x∈e.fl o,i64 x.N:=by
 induction e with
 |leaf k n t=>intro o x hx;rw[List.mem_singleton.1 hx];exact h
 |un k t a ih =>
  intro o x hx;rcases List.mem_append.1 hx with hx|hx
  ·exact ih h o x hx
  ·rw[List.mem_singleton.1 hx];exact Xit
 |bin k t a b iha ihb =>
  intro o x hx;rcases List.mem_append.1 hx with hx|hx
  ·exact iha h.1 o x hx
  ·rcases List.mem_append.1 hx with hx|hx
   ·exact ihb h.2 _ x hx
   ·rw[List.mem_singleton.1 hx];exact Xit
theorem X0ia {e:Ex}:∀ o:Int,(∀ x∈e.fl o,i64 x.N)->e.ir:=by
 induction e with
 |leaf k n t=>intro o h;exact h _ (List.mem_singleton.2 rfl)
 |un k t a ih=>intro o h;exact ih o λx hx=>h x (List.mem_append_left _ hx)
 |bin k t a b iha ihb=>intro o h;exact⟨iha o λx hx=>h x (List.mem_append_left _ hx),ihb _ λx hx=>h x (List.mem_append_right _ (List.mem_append_left _ hx))⟩
theorem Xnh {e:Ex} (h:e.fits) (ht:e.ty=true) (hi:e.ir) {r:X9} (hr:rI r):X4b (e.fl 0) r=some (e.vl r,0):=by
 have hz:=(X83 h.ok h.sz h.dp).1;have hsz:=h.sz;have hp:=e.sz_pos;unfold X4b Xdh Xa4;rw[Xa1 (Xr3 h.ok 0),Xd2 h ht,Yo,Yo,e.fl_len];have hm:mkOk (e.sz:Int) (e.sz:Int) 8=some ():=by unfold mkOk;rw[if_pos ⟨by omega,rfl,by omega⟩]
 rw[hm,X1w om];obtain⟨vs,hvs,hl,hj⟩:=Xvc (X93 hz) (X0fh hi 0) hr (e.fl 0) 0 (List.replicate (Int.toNat (e.sz:Int)) 0) rfl (by simp[e.fl_len]) (λj hj=>by omega);rw[e.fl_len] at hl hj;simp only[bne_self_eq_false,cond_false,Yo];rw[hvs];simp only[bne_self_eq_false,cond_false,Yo];rw[hl,X05 om om,show(e.sz:Int) - 1=((e.sz - 1:Nat):Int) by omega,X2r,hj _ om];have:=Xw0 hr e 0 (e.sz - 1+1) .refl h.ok hi (by have:=e.dp_le;omega);rw[show((0:Nat):Int)+(e.sz:Int) - 1=((e.sz - 1:Nat):Int) by omega] at this;unfold Xex;rw[this];rfl
end Go.D


namespace Go.D
def zr:X9:=⟨0,0,0⟩
theorem Xpo:rI zr:=⟨Xit,Xit,Xit⟩
def fm (v:Int) (g:Bool) (t:Int):Option Ex :=
 if g=true then some (.bin (if v≠0 then 16 else 17) t (.leaf 1 0 t) (.leaf 1 0 t))
 else if 0<=v then some (.leaf 1 v t)
 else if v > -9223372036854775808 then some (.un 5 t (.leaf 1 (-v) t)) else none
def fdw (c:Bool) (v:Int) (g:Bool) (t:Int) (x:Ex):Ex:=if c=true then (fm v g t).getD x else x
def Ex.fd:Ex->Ex
 |.leaf k n t=>.leaf k n t
 |.un k t a=>fdw a.cs (opv k (a.vl zr) 0) (giv k) t (.un k t a.fd)
 |.bin k t a b=>fdw (a.cs&&b.cs) (opv k (a.vl zr) (b.vl zr)) (giv k) t (.bin k t a.fd b.fd)
theorem X014 {k:Int} (h:k<=5):giv k=false:=by
 unfold giv
 grind
theorem Xto {k:Int} (h:giv k=true):k=6\/12<=k:=by
 unfold giv at h
 grind
theorem if01 (b:Bool):(if b=true then (1:Int) else 0)=0\/(if b=true then (1:Int) else 0)=1:=by grind
theorem X07g {k a b:Int} (h:giv k=true) (hk:k<=19):opv k a b=0\/opv k a b=1:=by
 unfold opv Xa2;simp only[Xfd];rcases(by have:=Xto h;omega:k=6\/k=12\/k=13\/k=14\/k=15\/k=16\/k=17\/k=18\/k=19) with h|h|h|h|h|h|h|h|h<;>subst h<;>exact if01 _
theorem Xfc (r:X9) {e:Ex}:e.ok->e.cs=true->e.vl r=e.vl zr:=by
 induction e with
 |leaf k n t =>
  intro h g;simp only[Ex.cs,decide_eq_true_eq] at g;have hk:k=1:=by have:=h.1;omega
  simp[Ex.vl,hk]
 |un k t a ih=>intro h g;simp only[Ex.vl,ih h.2.2.2.2 g]
 |bin k t a b iha ihb =>
  intro h g;simp only[Ex.cs,Bool.and_eq_true] at g;simp only[Ex.vl,iha h.2.2.2.2.1 g.1,ihb h.2.2.2.2.2 g.2]
theorem X048 {e:Ex} (h:e.ok) (ht:e.ty=true) (g:giv e.kd=true):3<=e.sz/\2<=e.dp:=by
 induction e with
 |leaf k n t=>rw[show(Ex.leaf k n t).kd=k from rfl,X014 (by have:=h.2.1;omega)] at g;cases g
 |un k t a ih =>
  have hk:k=6:=by
   have:=Xto g;have h2:=h.2.1;simp only[Ex.kd] at this;omega
  subst hk;simp only[Ex.ty,show((6:Int)=5)=False by simp,if_false,Bool.and_eq_true] at ht;have:=ih h.2.2.2.2 ht.1 ht.2;simp only[Ex.sz,Ex.dp];omega
 |bin k t a b=>have:=a.sz_pos;have:=b.sz_pos;have:=a.dp_pos;simp only[Ex.sz,Ex.dp];omega
structure FmOk (v:Int) (g:Bool) (t:Int) (f:Ex):Prop where
 ok:f.ok
 ir:f.ir
 ty:f.ty=true
 kd:giv f.kd=g
 cs:f.cs=true
 vl:f.vl zr=v
 tx:f.tx=t
 sz:f.sz<=(if g=true then 3 else 2)
 dp:f.dp<=2
 fd:f.fd=f
theorem X0kt (a b:Int):opv 16 a b=if a=b then 1 else 0:=by
 unfold opv Xa2
 simp_all [cond_true,cond_false,Xfd,Yo]
theorem X0ks (a b:Int):opv 17 a b=if a=b then 0 else 1:=by
 unfold opv Xa2
 simp_all [cond_true,cond_false,Xfd,Yo]
theorem X09x (a b:Int):opv 5 a b=IntKind.i64.wrap (0 - a):=by
 rfl
theorem X0fg {v:Int} {g:Bool} {t:Int} {f:Ex} (hv:i64 v) (hg:g=true->v=0\/v=1) (h1:0<=t) (h2:t<=400) (h:fm v g t=some f):FmOk v g t f:=by
 unfold i64 at hv;unfold fm at h;split at h
 ·rename_i hgt;subst hgt;cases h
  have hl:(Ex.leaf 1 0 t).ok:=⟨by omega,by omega,by omega,.inl rfl,h1,h2⟩;rcases hg rfl with rfl|rfl
  ·have hvl:opv 17 ((Ex.leaf 1 0 t).vl zr) ((Ex.leaf 1 0 t).vl zr)=0:=by rfl
   refine⟨⟨by simp,by simp,h1,h2,hl,hl⟩,⟨Xit,Xit⟩,rfl,rfl,rfl,hvl,rfl,by simp[Ex.sz],by simp[Ex.dp],?_⟩;rfl
  ·have hvl:opv 16 ((Ex.leaf 1 0 t).vl zr) ((Ex.leaf 1 0 t).vl zr)=1:=by rfl
   refine⟨⟨by simp,by simp,h1,h2,hl,hl⟩,⟨Xit,Xit⟩,rfl,rfl,rfl,hvl,rfl,by simp[Ex.sz],by simp[Ex.dp],?_⟩;rfl
 ·rename_i hgt;have hgf:g=false:=by grind
  subst hgf;split at h
  ·rename_i h0;cases h
   exact⟨⟨by omega,by omega,h0,.inr rfl,h1,h2⟩,hv,rfl,rfl,rfl,rfl,rfl,by simp[Ex.sz],by simp[Ex.dp],rfl⟩
  ·rename_i h0;split at h
   ·rename_i hlo;cases h
    have hvl:opv 5 ((Ex.leaf 1 (-v) t).vl zr) 0=v:=by
     rw[X09x,show(Ex.leaf 1 (-v) t).vl zr = -v from rfl,X05 om om];omega
    refine⟨⟨by omega,by omega,h1,h2,⟨by omega,by omega,by omega,.inr rfl,h1,h2⟩⟩,⟨by omega,by omega⟩,rfl,rfl,rfl,hvl,rfl,by simp[Ex.sz],by simp[Ex.dp],?_⟩;show fdw true (opv 5 ((Ex.leaf 1 (-v) t).vl zr) 0) false t _=_;rw[hvl];unfold fdw fm
    grind
   ·cases h
structure FdOk (e:Ex):Prop where
 ok:e.fd.ok
 ir:e.fd.ir
 ty:e.fd.ty=true
 kd:giv e.fd.kd=giv e.kd
 cs:e.fd.cs=e.cs
 vl:∀ r,rI r->e.fd.vl r=e.vl r
 sz:e.fd.sz<=e.sz
 dp:e.fd.dp<=e.dp
 fd:e.fd.fd=e.fd
theorem X01d (e:Ex):e.ok->e.ir->e.ty=true->FdOk e:=by
 induction e with
 |leaf k n t=>intro h1 h2 h3;exact⟨h1,h2,h3,rfl,rfl,λ_ _=>rfl,Nat.le_refl _,Nat.le_refl _,rfl⟩
 |un k t a ih =>
  intro h1 h2 h3;have h3':=h3;simp only[Ex.ty,Bool.and_eq_true] at h3;obtain⟨k1,k2,t1,t2,ha⟩:=h1;have ia:=ih ha h2 h3.1;have rec_:(Ex.un k t a).fd=.un k t a.fd->FdOk (.un k t a):=by
   intro hf;refine⟨?_,?_,?_,?_,?_,?_,?_,?_,?_⟩
   ·rw[hf];exact⟨k1,k2,t1,t2,ia.ok⟩
   ·rw[hf];exact ia.ir
   ·rw[hf];simp only[Ex.ty,ia.ty,Bool.true_and,ia.kd];exact h3.2
   ·rw[hf];rfl
   ·rw[hf];exact ia.cs
   ·intro r hr;rw[hf];simp only[Ex.vl,ia.vl r hr]
   ·rw[hf];have:=ia.sz;simp only[Ex.sz];omega
   ·rw[hf];have:=ia.dp;simp only[Ex.dp];omega
   ·rw[hf];show fdw a.fd.cs (opv k (a.fd.vl zr) 0) (giv k) t (.un k t a.fd.fd)=_;rw[ia.cs,ia.vl zr Xpo,ia.fd];exact hf
  by_cases hc:a.cs=true
  ·cases hm:fm (opv k (a.vl zr) 0) (giv k) t with
   |none=>exact rec_ (by show fdw _ _ _ _ _=_;unfold fdw;grind)
   |some f =>
    have hf:(Ex.un k t a).fd=f:=by show fdw _ _ _ _ _=_;unfold fdw;grind
    have hv:=(Xmz k1 om (Ex.vl_i64 Xpo ha h2) Xit).2;have o:=X0fg hv (λg=>X07g g om) t1 t2 hm;have hs:=a.sz_pos;have hd:=a.dp_pos;have htr:giv k=true->3<=a.sz:=by
     intro g;have h6:k=6:=by have:=Xto g;omega
     simp_all [if_neg,X048]
    refine⟨?_,?_,?_,?_,?_,?_,?_,?_,?_⟩
    ·rw[hf];exact o.ok
    ·rw[hf];exact o.ir
    ·rw[hf];exact o.ty
    ·rw[hf];exact o.kd
    ·rw[hf];exact o.cs.trans hc.symm
    ·intro r hr;rw[hf,Xfc r o.ok o.cs,o.vl];simp only[Ex.vl];rw[Xfc r ha hc]
    ·rw[hf];have:=o.sz;by_cases g:giv k=true
     ·rw[if_pos g] at this;have:=htr g;simp only[Ex.sz];omega
     ·rw[if_neg g] at this;simp only[Ex.sz];omega
    ·rw[hf];have:=o.dp;simp only[Ex.dp];omega
    ·rw[hf];exact o.fd
  ·exact rec_ (by show fdw _ _ _ _ _=_;unfold fdw;grind)
 |bin k t a b iha ihb =>
  intro h1 h2 h3;have h3':=h3;simp only[Ex.ty,Bool.and_eq_true] at h3;obtain⟨k1,k2,t1,t2,ha,hb⟩:=h1;have ia:=iha ha h2.1 h3.1.1;have ib:=ihb hb h2.2 h3.1.2;have rec_:(Ex.bin k t a b).fd=.bin k t a.fd b.fd->FdOk (.bin k t a b):=by
   intro hf;refine⟨?_,?_,?_,?_,?_,?_,?_,?_,?_⟩
   ·rw[hf];exact⟨k1,k2,t1,t2,ia.ok,ib.ok⟩
   ·rw[hf];exact⟨ia.ir,ib.ir⟩
   ·rw[hf];simp only[Ex.ty,ia.ty,ib.ty,Bool.true_and,ia.kd,ib.kd];exact h3.2
   ·rw[hf];rfl
   ·rw[hf];simp only[Ex.cs,ia.cs,ib.cs]
   ·intro r hr;rw[hf];simp only[Ex.vl,ia.vl r hr,ib.vl r hr]
   ·rw[hf];have:=ia.sz;have:=ib.sz;simp only[Ex.sz];omega
   ·rw[hf];have:=ia.dp;have:=ib.dp;simp only[Ex.dp];omega
   ·rw[hf];show fdw (a.fd.cs&&b.fd.cs) (opv k (a.fd.vl zr) (b.fd.vl zr)) (giv k) t (.bin k t a.fd.fd b.fd.fd)=_;rw[ia.cs,ib.cs,ia.vl zr Xpo,ib.vl zr Xpo,ia.fd,ib.fd];exact hf
  by_cases hc:(a.cs&&b.cs)=true
  ·cases hm:fm (opv k (a.vl zr) (b.vl zr)) (giv k) t with
   |none=>exact rec_ (by show fdw _ _ _ _ _=_;unfold fdw;grind)
   |some f =>
    have hf:(Ex.bin k t a b).fd=f:=by show fdw _ _ _ _ _=_;unfold fdw;grind
    have hv:=(Xmz om k2 (Ex.vl_i64 Xpo ha h2.1) (Ex.vl_i64 Xpo hb h2.2)).2;have o:=X0fg hv (λg=>X07g g om) t1 t2 hm;have hs:=a.sz_pos;have hs2:=b.sz_pos;have hd:=a.dp_pos;have hc':=hc;simp only[Bool.and_eq_true] at hc';refine⟨?_,?_,?_,?_,?_,?_,?_,?_,?_⟩
    ·rw[hf];exact o.ok
    ·rw[hf];exact o.ir
    ·rw[hf];exact o.ty
    ·rw[hf];exact o.kd
    ·rw[hf];exact o.cs.trans hc.symm
    ·intro r hr;rw[hf,Xfc r o.ok o.cs,o.vl];grind [Ex.vl,Xfc]
    ·rw[hf];have:=o.sz;grind [Ex.sz]
    ·rw[hf];have:=o.dp;simp only[Ex.dp];omega
    ·rw[hf];exact o.fd
  ·exact rec_ (by show fdw _ _ _ _ _=_;unfold fdw;grind)
theorem Xp6 {e:Ex} (h:e.fits) (hi:e.ir) (ht:e.ty=true):e.fd.fits:=by
 have o:=X01d e h.ok hi ht;exact⟨o.ok,Nat.le_trans o.sz h.sz,Nat.le_trans o.dp h.dp⟩
end Go.D


namespace Go.D
abbrev FF:=Xj
theorem Xcl {e:Ex} (h:e.fits) (ht:e.ty=true) (hi:e.ir):X7t (e.fl 0)=some (if e.cs=true then (e.vl zr,true,0) else (0,false,0)):=by
 unfold X7t;rw[Xa1 (Xr3 h.ok 0),Xd2 h ht,Yo,Xed h];simp only[bne_self_eq_false,cond_false,Yo]
 cases hc:e.cs with
 |false=>rfl
 |true =>
  rw[if_pos rfl,show(X9.mk 0 0 0)=zr from rfl,Xnh h ht hi Xpo];rfl
def frm (f:Option Ex):FF:=⟨match f with|some f=>f.fl 0|none=>[],f.isSome⟩
theorem Xkp {n t:Int} (h0:0<=n) (h1:0<=t) (h2:t<=400):(Ex.leaf 1 n t).fits:=⟨⟨by omega,by omega,h0,.inr rfl,h1,h2⟩,by simp[Ex.sz],by simp[Ex.dp]⟩
theorem X0bc {k t:Int} (hk:k=16\/k=17) (h1:0<=t) (h2:t<=400):(Ex.bin k t (.leaf 1 0 t) (.leaf 1 0 t)).fits :=
 ⟨⟨by omega,by omega,h1,h2,(Xkp (Int.le_refl 0) h1 h2).ok,(Xkp (Int.le_refl 0) h1 h2).ok⟩,by simp[Ex.sz],by simp[Ex.dp]⟩
theorem X051 {n t:Int} (h0:0<=n) (h1:0<=t) (h2:t<=400):(Ex.un 5 t (.leaf 1 n t)).fits:=⟨⟨by omega,by omega,h1,h2,(Xkp h0 h1 h2).ok⟩,by simp[Ex.sz],by simp[Ex.dp]⟩
theorem Xp0 {v:Int} {g:Bool} {t:Int} (hv:i64 v) (h1:0<=t) (h2:t<=400):Xbk v g t=some (frm (fm v g t)):=by
 unfold i64 at hv;unfold Xbk fm
 cases g with
 |true =>
  rw[if_pos rfl,cond_true];have key:∀ k,k=16\/k=17->((some k:Option Int).bind λXqo=>(X56 0 t).bind λv22=>(X2z Xqo 0 t [v22,v22]).bind λv24=>some (Xj.mk v24.1 (bif (v24.2==(0:Int)) then (decide ((List.length v24.1:Int)>(0:Int))) else false)))=some (frm (some (.bin k t (.leaf 1 0 t) (.leaf 1 0 t)))):=by
   intro k hk;rw[Yo,show X56 0 t=some ((Ex.leaf 1 0 t).fl 0) from rfl,Yo,Xuo (X0bc hk h1 h2),Yo];rfl
  grind
 |false =>
  rw[if_neg (by simp),cond_false];by_cases h0:0<=v
  ·rw[Yt h0,cond_true,if_pos h0];rfl
  ·rw[Yf h0,cond_false,if_neg h0];by_cases hl:v > -9223372036854775808
   ·rw[X05 om om,Yt om,cond_true,if_pos hl,show(0:Int) - v = -v by omega,show X56 (-v) t=some ((Ex.leaf 1 (-v) t).fl 0) from rfl,Yo,Xup (X051 om h1 h2),Yo];rfl
   ·rw[if_neg hl,show v = -9223372036854775808 by omega,show IntKind.i64.wrap (0 - -9223372036854775808) = -9223372036854775808 by rfl];rfl
def nf:FF:=⟨[],false⟩
def Ex.fmE (e:Ex):Option Ex:=fm (e.vl zr) (giv e.kd) e.tx
def Ex.fmC (e:Ex):Option Ex:=if e.cs=true then e.fmE else none
def Ex.mkr (e:Ex) (o:Nat) (L:List FF):List FF:=if e.cs=true then L.set (o+e.sz - 1) (frm e.fmE) else L
def Ex.mk:Ex->Nat->List FF->List FF
 |.leaf k n t,o,L=>(Ex.leaf k n t).mkr o L
 |.un k t a,o,L=>if (Ex.un k t a).fmC.isSome=true then (Ex.un k t a).mkr o L else a.mk o ((Ex.un k t a).mkr o L)
 |.bin k t a b,o,L=>if (Ex.bin k t a b).fmC.isSome=true then (Ex.bin k t a b).mkr o L else a.mk o (b.mk (o+a.sz) ((Ex.bin k t a b).mkr o L))
theorem Ex.mkr_ne (e:Ex) {o j:Nat} {L:List FF} (h:j≠o+e.sz - 1):(e.mkr o L)[j]?=L[j]?:=by
 unfold Ex.mkr;grind
theorem Ex.mk_ne (e:Ex):∀ {o j:Nat} {L:List FF},j<o\/o+e.sz<=j->(e.mk o L)[j]?=L[j]?:=by
 induction e with
 |leaf k n t=>intro o j L h;exact Ex.mkr_ne _ (by simp only[Ex.sz] at *;omega)
 |un k t a ih =>
  grind [Ex.sz,Ex.mkr_ne,Ex.mk]
 |bin k t a b iha ihb =>
  grind [Ex.sz,Ex.mkr_ne,Ex.mk]
theorem Ex.mkr_at (e:Ex) {o:Nat} {L:List FF} (h:L[o+e.sz - 1]?=some nf):(e.mkr o L)[o+e.sz - 1]?=some (frm e.fmC):=by
 have hlt:=(Ys.1 h).1;unfold Ex.mkr Ex.fmC;split
 ·grind
 ·exact h
def Ex.kids:Ex->Nat->List Int->List Int
 |.leaf _ _ _,_,st=>st
 |.un _ _ a,o,st=>st++[(o:Int)+a.sz - 1]
 |.bin _ _ a b,o,st=>st++[(o:Int)+a.sz - 1,(o:Int)+a.sz+b.sz - 1]
theorem Xdc {e s:Ex} {o:Nat} (h:e.fits) (ht:e.ty=true) (hi:e.ir) (g:Sub s o e) (hsi:s.ir) {L:List FF} (hL:L[o+s.sz - 1]?=some nf) {st:List Int} (hst:st.length<=1000) (n:Nat) (A:List X4) (B:Int) :
  X03 (e.fl 0) A B (gvs (e.fl 0) e.sz) (e.fl 0) (n+1) L (st++[(o:Int)+s.sz - 1]) =
   X03 (e.fl 0) A B (gvs (e.fl 0) e.sz) (e.fl 0) n (s.mkr o L) (if s.fmC.isSome=true then st else s.kids o st):=by
 have hp:=s.sz_pos;have hle:=g.le;have hsz:=h.sz;have hsf:=h.sub g;have hok:=hsf.ok;have hlen:(st++[(o:Int)+s.sz - 1]).length=st.length+1:=by simp
 have hidx:(o:Int)+s.sz - 1=((o+s.sz - 1:Nat):Int):=by omega
 have hget:∀ (M:List FF) x,M[o+s.sz - 1]?=some x->getI M ((o:Int)+s.sz - 1)=some x:=λM x hx=>by rw[hidx,X2r];exact hx
 rw[X03,hlen,Yt (show((st.length+1:Nat):Int)>0 by omega),cond_true,X05 om om,show((st.length+1:Nat):Int) - 1=(st.length:Int) by omega,Xoy,Yo,
  Xj3 (by simp),List.take_left,Yo,Xki h g,Yo]
 simp only[bne_self_eq_false,cond_false];rw[Xcl hsf (g.ty ht) hsi,Yo];have hfin:∀ (M:List FF),M=s.mkr o L->((getI M ((o:Int)+s.sz - 1)).bind λe277=>bif (!(!e277.there)) then (X03 (e.fl 0) A B (gvs (e.fl 0) e.sz) (e.fl 0) n M st) else ((some (s.rt (o:Int))).bind λe280=>(X2n e280.Kind).bind λv282=>bif (v282.1==(1:Int)) then ((X1c (List.length (st++[e280.A])) 8).bind λu285=>X03 (e.fl 0) A B (gvs (e.fl 0) e.sz) (e.fl 0) n M (st++[e280.A])) else (bif (v282.1==(2:Int)) then ((X1c (List.length (st++[e280.A,e280.B])) 8).bind λu288=>X03 (e.fl 0) A B (gvs (e.fl 0) e.sz) (e.fl 0) n M (st++[e280.A,e280.B])) else (X03 (e.fl 0) A B (gvs (e.fl 0) e.sz) (e.fl 0) n M st)))) =
   X03 (e.fl 0) A B (gvs (e.fl 0) e.sz) (e.fl 0) n (s.mkr o L) (if s.fmC.isSome=true then st else s.kids o st):=by
  rintro M rfl;rw[hget _ _ (s.mkr_at hL),Yo]
  cases hc:s.fmC.isSome with
  |true=>rw[show(frm s.fmC).there=true from hc,if_pos rfl];rfl
  |false =>
   rw[show(frm s.fmC).there=false from hc,if_neg (by simp)];simp only[Bool.not_false,Bool.not_true,cond_false];rw[Yo]
   cases s with
   |leaf k m t=>rw[show(Ex.rt (.leaf k m t) (o:Int)).Kind=k from rfl,Xc2 hok.1 (by have:=hok.2.1;omega),if_pos hok.2.1];rfl
   |un k t a =>
    obtain⟨k1,k2,_⟩:=hok;rw[show(Ex.rt (.un k t a) (o:Int)).Kind=k from rfl,Xc2 om om,if_neg om,if_pos k2];simp only[Yo,show((1:Int)==1)=true from rfl,cond_true,Ex.rt];rw[X3q (by simp;omega),Yo];rfl
   |bin k t a b =>
    obtain⟨k1,k2,_⟩:=hok;rw[show(Ex.rt (.bin k t a b) (o:Int)).Kind=k from rfl,Xc2 om k2,if_neg om,if_neg om];simp only[Yo,show((2:Int)==1)=false from rfl,show((2:Int)==2)=true from rfl,cond_true,cond_false,Ex.rt];rw[X3q (by simp;omega),Yo];rfl
 cases hc:s.cs with
 |false =>
  rw[if_neg (by simp)];simp only[show((0:Int)==0)=true from rfl,cond_true,cond_false,Yo];rw[g.getI rfl]
  grind [Ex.mkr]
 |true =>
  have hgv:getI (gvs (e.fl 0) e.sz) ((o:Int)+s.sz - 1)=some (giv s.kd):=by
   rw[Xov (by rw[e.fl_len];omega) om om,g.kindAt rfl]
  have htx:0<=s.tx/\s.tx<=400:=by
   cases s with
   |leaf k m t=>exact⟨hok.2.2.2.2.1,hok.2.2.2.2.2⟩
   |un k t a=>exact⟨hok.2.2.1,hok.2.2.2.1⟩
   |bin k t a b=>exact⟨hok.2.2.1,hok.2.2.2.1⟩
  rw[if_pos rfl];simp only[show((0:Int)==0)=true from rfl,cond_true];rw[hgv,Yo,g.getI rfl,Yo,s.rt_at,Xp0 (Ex.vl_i64 Xpo hok hsi) htx.1 htx.2,Yo,hget _ _ hL,Yo,Yo];rw[show Int.toNat ((o:Int)+s.sz - 1)=o+s.sz - 1 by omega];exact hfin (L.set (o+s.sz - 1) (frm s.fmE)) (by unfold Ex.mkr;grind)
theorem Sub.ir {s e:Ex} {o:Nat} (h:Sub s o e):e.ir->s.ir:=by
 induction h with
 |refl=>exact id
 |un h ih=>assumption
 |l h ih=>exact λg=>ih g.1
 |r h ih=>exact λg=>ih g.2
theorem X018 {e:Ex} (h:e.fits) (ht:e.ty=true) (hi:e.ir) (A:List X4) (B:Int) (s:Ex):∀ (o:Nat) (L:List FF),Sub s o e->(∀ j,o<=j->j<o+s.sz->L[j]?=some nf) ->
  ∃ m,m<=s.sz/\∀ (n:Nat) (st:List Int),st.length+s.sz<=900->X03 (e.fl 0) A B (gvs (e.fl 0) e.sz) (e.fl 0) (n+m) L (st++[(o:Int)+s.sz - 1])=X03 (e.fl 0) A B (gvs (e.fl 0) e.sz) (e.fl 0) n (s.mk o L) st:=by
 induction s with
 |leaf k x t =>
  intro o L g hL;refine⟨1,by simp[Ex.sz],λn st hst=>?_⟩;rw[Xdc h ht hi g (g.ir hi) (hL _ (by simp[Ex.sz]) (by simp[Ex.sz])) om];have:(if (Ex.leaf k x t).fmC.isSome=true then st else (Ex.leaf k x t).kids o st)=st:=by split<;>rfl
  rw[this];rfl
 |un k t a ih =>
  intro o L g hL;have hp:=a.sz_pos;have hroot:=hL (o+(Ex.un k t a).sz - 1) (by simp only[Ex.sz];omega) (by simp only[Ex.sz];omega);by_cases hf:(Ex.un k t a).fmC.isSome=true
  ·refine⟨1,by simp[Ex.sz],λn st hst=>?_⟩;rw[Xdc h ht hi g (g.ir hi) hroot om,if_pos hf];unfold Ex.mk;grind
  ·obtain⟨m,hm,ha⟩:=ih o ((Ex.un k t a).mkr o L) g.u λj h1 h2=>by
    grind [Ex.mkr_ne,Ex.sz]
   refine⟨m+1,by simp only[Ex.sz];omega,λn st hst=>?_⟩;simp only[Ex.sz] at hst;rw[show n+(m+1)=(n+m)+1 by omega,Xdc h ht hi g (g.ir hi) hroot om,if_neg hf];show X03 _ _ _ _ _ _ _ (st++[(o:Int)+a.sz - 1])=_;rw[ha n st om]
   simp_all [Ex.mk,if_neg]
 |bin k t a b iha ihb =>
  intro o L g hL;have hp:=a.sz_pos;have hq:=b.sz_pos;have hroot:=hL (o+(Ex.bin k t a b).sz - 1) (by simp only[Ex.sz];omega) (by simp only[Ex.sz];omega);by_cases hf:(Ex.bin k t a b).fmC.isSome=true
  ·refine⟨1,by simp[Ex.sz],λn st hst=>?_⟩;rw[Xdc h ht hi g (g.ir hi) hroot om,if_pos hf];unfold Ex.mk;grind
  ·obtain⟨m1,hm1,hb⟩:=ihb (o+a.sz) ((Ex.bin k t a b).mkr o L) g.b λj h1 h2=>by
    grind [Ex.mkr_ne,Ex.sz]
   obtain⟨m2,hm2,ha⟩:=iha o (b.mk (o+a.sz) ((Ex.bin k t a b).mkr o L)) g.a λj h1 h2=>by
    grind [Ex.mk_ne,Ex.mkr_ne,Ex.sz]
   refine⟨m2+m1+1,by simp only[Ex.sz];omega,λn st hst=>?_⟩;simp only[Ex.sz] at hst;rw[show n+(m2+m1+1)=(n+m2+m1)+1 by omega,Xdc h ht hi g (g.ir hi) hroot om,if_neg hf];show X03 _ _ _ _ _ _ _ (st++[(o:Int)+a.sz - 1,(o:Int)+a.sz+b.sz - 1])=_;have e1:=hb (n+m2) (st++[(o:Int)+a.sz - 1]) (by simp;omega);rw[show((o+a.sz:Nat):Int)+b.sz - 1=(o:Int)+a.sz+b.sz - 1 by omega,List.append_assoc] at e1;rw[show st++[(o:Int)+a.sz - 1,(o:Int)+a.sz+b.sz - 1]=st++([(o:Int)+a.sz - 1]++[(o:Int)+a.sz+b.sz - 1]) from rfl,e1,ha n st om]
   simp_all [Ex.mk,if_neg]
def FOk (F:List FF):Ex->Nat->Prop
 |.leaf k n t,o=>F[o+1 - 1]?=some (frm (Ex.leaf k n t).fmC)
 |.un k t a,o=>F[o+(a.sz+1) - 1]?=some (frm (Ex.un k t a).fmC)/\((Ex.un k t a).fmC=none->FOk F a o)
 |.bin k t a b,o=>F[o+(a.sz+b.sz+1) - 1]?=some (frm (Ex.bin k t a b).fmC)/\((Ex.bin k t a b).fmC=none->FOk F a o/\FOk F b (o+a.sz))
theorem FOk.congr (s:Ex):∀ {F F':List FF} {o:Nat},(∀ j,o<=j->j<o+s.sz->F'[j]?=F[j]?)->FOk F s o->FOk F' s o:=by
 induction s with
 |leaf k n t=>intro F F' o h g;show F'[o+1 - 1]?=_;rw[h _ om (by simp[Ex.sz])];exact g
 |un k t a ih =>
  intro F F' o h g;simp only[Ex.sz] at h;obtain⟨g1,g2⟩:=(show _/\_ from g);show _/\_
  grind
 |bin k t a b iha ihb =>
  intro F F' o h g;simp only[Ex.sz] at h;obtain⟨g1,g2⟩:=(show _/\_ from g);show _/\_
  grind
theorem X0ec (s:Ex):∀ (o:Nat) (L:List FF),(∀ j,o<=j->j<o+s.sz->L[j]?=some nf)->FOk (s.mk o L) s o:=by
 induction s with
 |leaf k n t=>intro o L h;exact Ex.mkr_at _ (h _ (by simp[Ex.sz]) (by simp[Ex.sz]))
 |un k t a ih =>
  intro o L h;have hp:=a.sz_pos;simp only[Ex.sz] at h;have hr:=Ex.mkr_at (.un k t a) (L:=L) (h (o+(a.sz+1) - 1) om om);show FOk (if _ then _ else _) _ _
  cases hf:(Ex.un k t a).fmC with
  |some f =>
   rw[hf] at hr;rw[if_pos (show(some f).isSome=true from rfl)];exact(show _/\_ from⟨by rw[hf];exact hr,λh=>by grind⟩)
  |none =>
   rw[hf] at hr;rw[if_neg (by simp)];show _/\_
   grind [Ex.mk_ne,Ex.mkr_ne,Ex.sz]
 |bin k t a b iha ihb =>
  intro o L h;have hp:=a.sz_pos;have hq:=b.sz_pos;simp only[Ex.sz] at h;have hr:=Ex.mkr_at (.bin k t a b) (L:=L) (h (o+(a.sz+b.sz+1) - 1) om om);show FOk (if _ then _ else _) _ _
  cases hf:(Ex.bin k t a b).fmC with
  |some f =>
   rw[hf] at hr;rw[if_pos (show(some f).isSome=true from rfl)];exact(show _/\_ from⟨by rw[hf];exact hr,λh=>by grind⟩)
  |none =>
   rw[hf] at hr;rw[if_neg (by simp)];show _/\_
   grind [Ex.mk_ne,Ex.mkr_ne,Ex.sz,FOk.congr]
end Go.D


namespace Go.D
theorem Xp5 {s f:Ex} (h:s.ok) (hf:s.fmC=some f):s.fd=f:=by
 unfold Ex.fmC at hf;split at hf
 ·rename_i hc
  cases s with
  |leaf k n t =>
   have hk:k=1:=by
    have:decide (k<=1)=true:=hc;have:=of_decide_eq_true this;have:=h.1;omega
   subst hk;unfold Ex.fmE fm at hf;rw[if_neg (by simp[Ex.kd,giv]),if_pos (show 0<=(Ex.leaf 1 n t).vl zr from h.2.2.1)] at hf;exact Option.some.inj hf
  |un k t a =>
   show fdw _ _ _ _ _=_;unfold fdw;rw[if_pos (show a.cs=true from hc),show fm (opv k (a.vl zr) 0) (giv k) t=some f from hf];rfl
  |bin k t a b =>
   show fdw _ _ _ _ _=_;unfold fdw;rw[if_pos (show(a.cs&&b.cs)=true from hc),show fm (opv k (a.vl zr) (b.vl zr)) (giv k) t=some f from hf];rfl
 ·cases hf
theorem X0jr {k t:Int} {a:Ex} (hf:(Ex.un k t a).fmC=none):(Ex.un k t a).fd=.un k t a.fd:=by
 show fdw _ _ _ _ _=_;unfold fdw;unfold Ex.fmC at hf;by_cases hc:a.cs=true
 ·rw[if_pos (show(Ex.un k t a).cs=true from hc)] at hf;rw[if_pos hc,show fm (opv k (a.vl zr) 0) (giv k) t=none from hf];rfl
 grind
theorem X0fl {k t:Int} {a b:Ex} (hf:(Ex.bin k t a b).fmC=none):(Ex.bin k t a b).fd=.bin k t a.fd b.fd:=by
 show fdw _ _ _ _ _=_;unfold fdw;unfold Ex.fmC at hf;by_cases hc:(a.cs&&b.cs)=true
 ·rw[if_pos (show(Ex.bin k t a b).cs=true from hc)] at hf;rw[if_pos hc,show fm (opv k (a.vl zr) (b.vl zr)) (giv k) t=none from hf];rfl
 ·rw[if_neg hc]
theorem Xhf {n:Nat} {l:List X4} {F:List FF} {i:Int} {f:Ex} (h:getI F i=some (frm (some f))) (hz:f.sz<=60):X1x (n+1) l F i=some (f.fl 0,0):=by
 rw[X1x,h,Yo];simp only[show(frm (some f)).there=true from rfl,show(frm (some f)).value=f.fl 0 from rfl,cond_true];rw[Xvf,cond_false,X3q (by rw[f.fl_len];omega)];rfl
theorem Xp1 {s f:Ex} (h:s.fits) (hi:s.ir) (ht:s.ty=true) (hf:s.fmC=some f):f.fits:=by rw[<-Xp5 h.ok hf];exact Xp6 h hi ht
theorem Xxy {e:Ex} (h:e.fits) (ht:e.ty=true) (hi:e.ir) {F:List FF} (s:Ex):∀ (o n:Nat),Sub s o e->FOk F s o->s.dp<=n->X1x n (e.fl 0) F ((o:Int)+s.sz - 1)=some (s.fd.fl 0,0):=by
 induction s with
 |leaf k x t =>
  intro o n g hF hn;have hs:=h.sub g;obtain⟨n,rfl⟩:∃ q,n=q+1:=⟨n - 1,by simp only[Ex.dp] at hn;omega⟩;have hg:getI F ((o:Int)+(Ex.leaf k x t).sz - 1)=some (frm (Ex.leaf k x t).fmC):=by
   rw[show(o:Int)+(Ex.leaf k x t).sz - 1=((o+1 - 1:Nat):Int) by simp[Ex.sz],X2r];exact hF
  cases hf:(Ex.leaf k x t).fmC with
  |some f=>rw[hf] at hg;rw[Xhf hg (Xp1 hs (g.ir hi) (g.ty ht) hf).sz,Xp5 hs.ok hf]
  |none =>
   rw[hf] at hg;obtain⟨k1,k2,_⟩:=hs.ok;rw[X1x,hg,Yo];simp only[show(frm none).there=false from rfl,cond_false];rw[g.getI rfl,Yo];simp only[Ex.rt];rw[Xc2 k1 om,if_pos k2];simp only[Yo,show((0:Int)==0)=true from rfl,cond_true,List.length_nil];rw[X1w om,Yo,X4p,Yo];simp only[bne_self_eq_false,cond_false];rw[X04y hs];rfl
 |un k t a ih =>
  intro o n g hF hn;have hs:=h.sub g;obtain⟨n,rfl⟩:∃ q,n=q+1:=⟨n - 1,by simp only[Ex.dp] at hn;omega⟩;simp only[Ex.dp] at hn;obtain⟨hF1,hF2⟩:=(show _/\_ from hF);have hg:getI F ((o:Int)+(Ex.un k t a).sz - 1)=some (frm (Ex.un k t a).fmC):=by
   rw[show(o:Int)+(Ex.un k t a).sz - 1=((o+(a.sz+1) - 1:Nat):Int) by simp only[Ex.sz];omega,X2r];exact hF1
  cases hf:(Ex.un k t a).fmC with
  |some f=>rw[hf] at hg;rw[Xhf hg (Xp1 hs (g.ir hi) (g.ty ht) hf).sz,Xp5 hs.ok hf]
  |none =>
   rw[hf] at hg;obtain⟨k1,k2,_⟩:=hs.ok;have hd:=Xp6 hs (g.ir hi) (g.ty ht);rw[X0jr hf] at hd ⊢;rw[X1x,hg,Yo];simp only[show(frm none).there=false from rfl,cond_false];rw[g.getI rfl,Yo];simp only[Ex.rt];rw[Xc2 om om,if_neg om,if_pos k2];simp only[Yo,show((1:Int)==0)=false from rfl,show((1:Int)==1)=true from rfl,cond_true,cond_false];rw[ih o n g.u (hF2 hf) om,Yo]
   simp_all [bne_self_eq_false,cond_false,Xup]
 |bin k t a b iha ihb =>
  intro o n g hF hn;have hs:=h.sub g;obtain⟨n,rfl⟩:∃ q,n=q+1:=⟨n - 1,by simp only[Ex.dp] at hn;omega⟩;simp only[Ex.dp] at hn;obtain⟨hF1,hF2⟩:=(show _/\_ from hF);have hg:getI F ((o:Int)+(Ex.bin k t a b).sz - 1)=some (frm (Ex.bin k t a b).fmC):=by
   rw[show(o:Int)+(Ex.bin k t a b).sz - 1=((o+(a.sz+b.sz+1) - 1:Nat):Int) by simp only[Ex.sz];omega,X2r];exact hF1
  cases hf:(Ex.bin k t a b).fmC with
  |some f=>rw[hf] at hg;rw[Xhf hg (Xp1 hs (g.ir hi) (g.ty ht) hf).sz,Xp5 hs.ok hf]
  |none =>
   rw[hf] at hg;obtain⟨k1,k2,_⟩:=hs.ok;have hd:=Xp6 hs (g.ir hi) (g.ty ht);rw[X0fl hf] at hd ⊢;rw[X1x,hg,Yo];simp only[show(frm none).there=false from rfl,cond_false];rw[g.getI rfl,Yo];simp only[Ex.rt];rw[Xc2 om k2,if_neg om,if_neg om];simp only[Yo,show((2:Int)==0)=false from rfl,show((2:Int)==1)=false from rfl,show((2:Int)==2)=true from rfl,cond_true,cond_false];have e2:=ihb (o+a.sz) n g.b (hF2 hf).2 om;rw[show((o+a.sz:Nat):Int)+b.sz - 1=(o:Int)+a.sz+b.sz - 1 by omega] at e2;rw[iha o n g.a (hF2 hf).1 om,Yo]
   simp_all [bne_self_eq_false,cond_false,Yo,Xuo]
theorem Xmd {e:Ex} (h:e.fits) (ht:e.ty=true):Xd1 (e.fl 0)=some (gvs (e.fl 0) e.sz,0):=by
 have hz:=(X83 h.ok h.sz h.dp).1;have hsz:=h.sz;have hf:=Xp2 e 0 (Sub.refl (s:=e)) h.ok;rw[show((0:Nat):Int)=0 from rfl] at hf;unfold Xd1 X97;rw[Xa1 (Xr3 h.ok 0),Xd2 h ht,Yo,X1w (by rw[e.fl_len];omega)];have htd:=Xrz (l:=e.fl 0) (by rw[e.fl_len];omega) (X93 hz) (e.fl 0) 0 rfl;rw[show gvs (e.fl 0) 0=[] from by unfold gvs;simp,(Xiz (e.fl 0) (e.fl 0) 0).2 (hf.trans ht)] at htd;simp only[bne_self_eq_false,cond_false,Yo];rw[htd,e.fl_len];rfl
theorem Xl6 {e:Ex} (h:e.fits) (ht:e.ty=true) (hi:e.ir):X3w (e.fl 0)=some (e.fd.fl 0,0):=by
 have hsz:=h.sz;have hp:=e.sz_pos;unfold X3w;rw[Xmd h ht,Yo,e.fl_len];simp only[bne_self_eq_false,cond_false];have hm:mkOk (e.sz:Int) (e.sz:Int) 32=some ():=by unfold mkOk;rw[if_pos ⟨by omega,rfl,by omega⟩]
 have hdef:∀ j,0<=j->j<0+e.sz->(List.replicate (Int.toNat (e.sz:Int)) nf)[j]?=some nf:=by
  intro j _ hj;rw[List.getElem?_replicate,if_pos om]
 obtain⟨m,hm1,hl⟩:=X018 h ht hi ([]:List X4) 0 e 0 (List.replicate (Int.toNat (e.sz:Int)) nf) .refl hdef;have hstep:=hl (FU - m) [] (by simp;omega);obtain⟨q,hq⟩:∃ q,FU - m=q+1:=⟨FU - m - 1,by unfold FU;omega⟩;rw[show FU - m+m=FU by unfold FU;omega,hq,List.nil_append,show((0:Nat):Int)+(e.sz:Int) - 1=(e.sz:Int) - 1 by omega] at hstep;rw[hm,Yo,X05 om om,show(Xj.mk [] false)=nf from rfl,hstep];rw[show X03 (e.fl 0) [] 0 (gvs (e.fl 0) e.sz) (e.fl 0) (q+1) (e.mk 0 (List.replicate (Int.toNat (e.sz:Int)) nf)) []=some (.x0 [] (e.mk 0 (List.replicate (Int.toNat (e.sz:Int)) nf))) from rfl,Yo];simp only;have hb:=Xxy h ht hi e 0 FU .refl (X0ec e 0 _ hdef) (by have:=h.dp;unfold FU;omega);rw[show((0:Nat):Int)+(e.sz:Int) - 1=(e.sz:Int) - 1 by omega] at hb;rw[hb];rfl
end Go.D


namespace Go.D
theorem X01q:∀ (xs ks:List Int),(X5u ks xs).length<=ks.length+xs.length/\((X5u ks xs).length=ks.length+xs.length↔xs.Nodup/\∀ x∈xs,x ∉ ks):=by
 intro xs
 induction xs with
 |nil=>intro ks;simp[X5u]
 |cons x xs ih =>
  intro ks;rw[X5u];unfold Xdl;by_cases hm:x∈ks
  ·grind
  ·rw[if_neg hm];have:=ih (ks++[x])
   grind
theorem Xtx {s:List Int} (hn:s.length<=1000):∃ v,X0x s=some v/\decide (v<(s.length:Int))=!(decide s.Nodup):=by
 unfold X0x;rw[X1w om];refine⟨_,rfl,?_⟩;have h:=X01q s []
 grind
theorem Xgg (s:List Int) (j:Bool):X1z s j=some (X6b s j):=by
 unfold X1z X6b Xua;by_cases h4:s.length>4
 ·grind
 ·rw[if_neg h4,Yf (show ¬ (s.length:Int)>4 by omega),cond_false];obtain⟨v,hv,hd⟩:=Xtx (s:=s) om;rw[Xtz om,hv]
  grind
theorem Xhp (Y:List Int):∀ (xs:List Int) (k:Nat),X2m Y xs k=some (bif (xs.any λx=>decide (x<0)||decide (x>3)) then .x1 else .x0)
 |[],k=>rfl
 |x::xs,k=>by
  rw[X2m,Xhp Y xs (k+1),List.any_cons];cases decide (x<0)<;>cases decide (x>3)<;>rfl
theorem Xq5 (s:List Int) (i:Nat) (hi:i<s.length) (hs:s.length<=1000):∀ (m n j:Nat),m=i - j->m<n->∃ o,X2l s (i:Int) n (j:Int)=some o/\(o=.x0↔∃ j',j<=j'/\j'<i/\s[j']?=s[i]?):=by
 intro m
 induction m with
 |zero =>
  intro n j hm hn
  cases n with
  |zero=>omega
  |succ n =>
   rw[X2l,Yf (show ¬ (j:Int)<(i:Int) by omega)]
   grind
 |succ m ih =>
  intro n j hm hn
  cases n with
  |zero=>omega
  |succ n =>
   rw[X2l,Yt (show(j:Int)<(i:Int) by omega),cond_true,show getI s (j:Int)=some (s[j]' om) by grind [X2r,Ye],show getI s (i:Int)=some (s[i]'hi) by grind [X2r,Ye]];simp only[Yo];by_cases he:s[j]=s[i]
   ·refine⟨.x0,?_,⟨λ_=>⟨j,Nat.le_refl _,by omega,by grind⟩,λ_=>rfl⟩⟩
    grind
   ·rw[show(s[j]==s[i])=false by simp[he],cond_false,X05 om om];obtain⟨o,h1,h2⟩:=ih n (j+1) om om
    grind
theorem Xho (s:List Int) (hs:s.length<=1000):∀ (xs:List Int) (k:Nat),s.drop k=xs->(s.take k).Nodup->X21 s xs k=some (if s.Nodup then .x0 else .x1)
 |[],k,h,hd=>by
  simp_all [congrArg,List.length,List.take_of_length_le,X21,if_pos]
 |x::xs,k,h,hd=>by
  have hk:s[k]?=some x:=by
   have:(s.drop k)[0]?=some x:=by rw[h];rfl
   grind
  have hdr:s.drop (k+1)=xs:=by
   have:(s.drop k).drop 1=xs:=by rw[h];rfl
   rw[List.drop_drop] at this;exact this
  have hlt:=(Ys.1 hk).1;rw[X21];obtain⟨o,h1,h2⟩:=Xq5 s k hlt hs (k - 0) FU 0 rfl (by unfold FU;omega);rw[show((0:Nat):Int)=0 from rfl] at h1;rw[h1,Yo]
  cases o with
  |x0 =>
   obtain⟨j,_,hj,he⟩:=h2.1 rfl;have:¬ s.Nodup:=λhn=>by
    grind [List.getElem?_inj]
   grind
  |x1 =>
   have hno:¬ ∃ j',0<=j'/\j'<k/\s[j']?=s[k]?:=λh=>by grind
   refine Xho s hs xs (k+1) hdr ?_;rw[List.take_add_one,hk];simp only[Option.toList_some];rw[List.nodup_append];refine⟨hd,by simp,λa ha b hb=>?_⟩;simp at hb;subst hb;intro e;subst e;obtain⟨j,hj,e⟩:=List.getElem_of_mem ha;simp at hj;refine hno ⟨j,Nat.zero_le _,by omega,?_⟩
   grind
theorem Xih (s:List Int) (j:Bool):X6k s j=some (X6b s j):=by
 unfold X6k X6b Xua;by_cases h4:s.length>4
 ·grind
 ·rw[if_neg h4,Yf (show ¬ (s.length:Int)>4 by omega),cond_false,X1w om,Xhp,Xho s om s 0 rfl (by simp)]
  grind
instance (w:Xn):Decidable (okW w):=by unfold okW;infer_instance
theorem X07w (w:Xn) (hE:w.Every<=9223372036854775807 /\ -9223372036854775808<=w.Every):X7i w=some (decide (okW w))/\X0y w=some (if okW w then 0 else 8):=by
 by_cases hw:okW w
 ·refine⟨?_,by simp_all [if_pos,X3x]⟩;rw[Yt hw];obtain⟨h1,h2,h3⟩:=hw
  grind [X7i,Yf,Yt,X05]
 ·rw[if_neg hw,Yf hw];by_cases hs:w.Size<1\/w.Size>1073741824
  ·grind [decide,Yt,Yf,X7i,X0y]
  ·have:(bif decide (w.Size<1) then true else decide (w.Size>1073741824))=false:=by
    grind
   unfold X7i X0y;rw[this,cond_false,cond_false];by_cases k2:w.Kind=2
   ·rw[show(w.Kind==2)=true by simp[k2],cond_true,cond_true];have:(bif (bif decide (w.Every >= 1) then decide (w.Every<=w.Size) else false) then decide (w.Size<=IntKind.i64.wrap (16*w.Every)) else false)=false:=by
     by_cases g1:w.Every >= 1
     ·by_cases g2:w.Every<=w.Size
      ·rw[Yt g1,Yt g2,X05 om om,Yf];rfl;intro g3;exact hw ⟨by omega,by omega,.inl ⟨k2,g1,g2,g3⟩⟩
      grind
     grind
    grind
   ·rw[show(w.Kind==2)=false by simp[k2],cond_false,cond_false];by_cases k1:w.Kind=1
    ·have:w.Every≠0:=λh=>hw ⟨by omega,by omega,.inr ⟨.inl k1,h⟩⟩
     grind
    ·by_cases k3:w.Kind=3
     ·have:w.Every≠0:=λh=>hw ⟨by omega,by omega,.inr ⟨.inr k3,h⟩⟩
      grind
     grind
end Go.D


namespace Go.D
def Xpn (q:Xb):Int :=
 if q.Agg<1\/q.Agg>4\/(q.Late≠1/\q.Late≠2) then 8
 else if q.Agg=1/\0<q.Arg.length then 8
 else if q.Agg≠1/\nchk q.Arg≠0 then nchk q.Arg
 else if 0<q.Where.length/\nchk q.Where≠0 then nchk q.Where
 else if X6b q.Sources q.Join≠0 then X6b q.Sources q.Join
 else if q.Join=true/\q.Window.Kind≠1 then 8
 else if okW q.Window then 0 else 8
structure QW (q:Xb):Prop where
 arg:∀ x∈q.Arg,0<=x.Kind
 wher:∀ x∈q.Where,0<=x.Kind
 ev:q.Window.Every<=9223372036854775807 /\ -9223372036854775808<=q.Window.Every
theorem X08n {q:Xb} (hq:QW q):((X1z q.Sources q.Join).bind λv10=>bif (v10 != (0:Int)) then (some v10) else (bif (bif q.Join then (q.Window.Kind != (1:Int)) else false) then (some 8) else ((X0y q.Window).bind λv14=>some v14)))=some (if X6b q.Sources q.Join≠0 then X6b q.Sources q.Join
 else if q.Join=true/\q.Window.Kind≠1 then 8
 else if okW q.Window then 0 else 8):=by
 rw[Xgg,Yo,(X07w q.Window hq.ev).2]
 grind
theorem Xiw {q:Xb} (hq:QW q):X6u q=some (Xpn q):=by
 unfold X6u Xpn;rw[X08n hq,X5s hq.arg,X5s hq.wher]
 grind
theorem Xm6 {q:Xb} (hq:QW q):X9r q=some (Xpn q):=by
 unfold X9r Xpn;rw[Xar,Xar,Xih,(X07w q.Window hq.ev).1];have e1:(bif (bif (bif (decide (q.Agg<(1:Int))) then true else (decide (q.Agg>(4:Int)))) then true else (decide (q.Late<(1:Int)))) then true else (decide (q.Late>(2:Int))))=decide (q.Agg<1\/q.Agg>4\/(q.Late≠1/\q.Late≠2)):=by
  rw[Bool.eq_iff_iff];have g:(q.Late≠1/\q.Late≠2)↔(q.Late<1\/q.Late>2):=by omega
  rw[show decide (q.Agg<1\/q.Agg>4\/(q.Late≠1/\q.Late≠2))=decide (q.Agg<1\/q.Agg>4\/(q.Late<1\/q.Late>2)) from decide_eq_decide.2 (by rw[g])];by_cases h1:q.Agg<1<;>by_cases h2:q.Agg>4<;>by_cases h3:q.Late<1<;>by_cases h4:q.Late>2<;>simp[h1,h2,h3,h4]
 rw[e1]
 have tl:((some (X6b q.Sources q.Join)).bind λv29=>bif (v29 != (0:Int)) then (some v29) else ((some (decide (okW q.Window))).bind λv32=>bif (bif (!v32) then true else (bif q.Join then (q.Window.Kind != (1:Int)) else false)) then (some 8) else (some 0)))=some (if X6b q.Sources q.Join≠0 then X6b q.Sources q.Join
 else if q.Join=true/\q.Window.Kind≠1 then 8
 else if okW q.Window then 0 else 8):=by
  simp only[Yo];by_cases h:X6b q.Sources q.Join=0
  ·rw[h];by_cases hk:q.Window.Kind=1
   ·by_cases hj:q.Join=true<;>by_cases ho:okW q.Window<;>simp[hj,hk,ho]
   ·by_cases hj:q.Join=true<;>by_cases ho:okW q.Window<;>simp[hj,hk,ho,Xpe hk]
  ·simp[h,Xpe h]
 rw[tl];generalize (if X6b q.Sources q.Join≠0 then X6b q.Sources q.Join else if q.Join=true/\q.Window.Kind≠1 then 8 else if okW q.Window then 0 else 8)=T;by_cases hA:(q.Agg<1\/q.Agg>4\/(q.Late≠1/\q.Late≠2))
 ·rw[if_pos hA,Yt hA];rfl
 ·rw[if_neg hA,Yf hA,cond_false];have wh:((bif (decide ((List.length q.Where:Int)>(0:Int))) then ((some (nchk q.Where)).bind λv23=>some (bif (decide ((List.length q.Where:Int)>(0:Int))) then (v23 != (0:Int)) else false)) else (some (bif (decide ((List.length q.Where:Int)>(0:Int))) then false else false)):Option (Bool)).bind λX0et=>bif X0et then ((some (nchk q.Where)).bind λv27=>some v27) else some T)=some (if 0<q.Where.length/\nchk q.Where≠0 then nchk q.Where else T):=by
   by_cases hw:0<q.Where.length
   ·rw[Yt (show(q.Where.length:Int)>0 by omega)];by_cases hz:nchk q.Where=0
    ·rw[hz];simp
    ·rw[if_pos ⟨hw,hz⟩];simp[hz,Xpe hz]
   ·rw[Yf (show ¬ (q.Where.length:Int)>0 by omega),if_neg (λh=>hw h.1)];rfl
  rw[wh];generalize (if 0<q.Where.length/\nchk q.Where≠0 then nchk q.Where else T)=T2;by_cases h1:q.Agg=1
  ·rw[show(q.Agg==1)=true by simp[h1],show(q.Agg != 1)=false by simp[h1]];by_cases hl:0<q.Arg.length
   ·rw[Yt (show(q.Arg.length:Int)>0 by omega),if_pos ⟨h1,hl⟩];rfl
   ·rw[Yf (show ¬ (q.Arg.length:Int)>0 by omega),if_neg (λh=>hl h.2),if_neg (λh=>h.1 h1)];rfl
  ·rw[show(q.Agg==1)=false by simp[h1],show(q.Agg != 1)=true by simp[h1],if_neg (λh=>h1 h.1)];by_cases hn:nchk q.Arg=0
   ·rw[hn,if_neg (λh=>h.2 rfl)];rfl
   ·rw[if_pos ⟨h1,hn⟩];simp[hn,Xpe hn]
def atOf (l:List X4) (i:Int):Int:=match getI l i with|some e=>e.At|none=>0
theorem Xoa {l:List X4} {b:Bool} (h:0<l.length):∃ e,getI l (X1n l b).1=some e/\atOf l (X1n l b).1=e.At:=by
 have hr:0<=(X1n l b).1/\(X1n l b).1<l.length:=by
  have:(X1n l b).1=(kOf l).2.1:=by unfold X1n;split<;>rfl
  rw[this];unfold kOf;split
  ·simp only;omega
  ·split
   ·rename_i j hj;have:=Xu6 l l 0 j hj;simp only;omega
   ·simp only;omega
 obtain⟨e,he,_⟩:=Xd6 hr.1 hr.2;exact⟨e,he,by unfold atOf;rw[he]⟩
def rt (q:Xb):Int×Int :=
 if 0<q.Arg.length/\(X1n q.Arg false).2≠0 then (atOf q.Arg (X1n q.Arg false).1,(X1n q.Arg false).2)
 else if 0<q.Where.length/\(X1n q.Where true).2≠0 then (atOf q.Where (X1n q.Where true).1,(X1n q.Where true).2)
 else (0,0)
theorem Xu7 (q:Xb) (hw:0<q.Where.length):(bif ((X1n q.Where true).2 != (0:Int)) then ((getI q.Where (X1n q.Where true).1).bind λe28=>some (e28.At,(X1n q.Where true).2)) else (some (0,0)))=some (if 0<q.Where.length/\(X1n q.Where true).2≠0 then (atOf q.Where (X1n q.Where true).1,(X1n q.Where true).2) else (0,0)):=by
 obtain⟨e,he,ha⟩:=Xoa (b:=true) hw;by_cases hz:(X1n q.Where true).2=0
 ·rw[if_neg (λh=>h.2 hz),show((X1n q.Where true).2 != 0)=false by simp[hz]];rfl
 ·rw[if_pos ⟨hw,hz⟩,show((X1n q.Where true).2 != 0)=true by simp[hz],he,ha];rfl
theorem Xm5 (q:Xb):X9p q=some (rt q):=by
 unfold X9p rt;rw[Xfo,Xfo];simp only[Yo];have wh:(bif (decide ((List.length q.Where:Int)>(0:Int))) then (bif ((X1n q.Where true).2 != (0:Int)) then ((getI q.Where (X1n q.Where true).1).bind λe28=>some (e28.At,(X1n q.Where true).2)) else (some (0,0))) else (some (0,0)))=some (if 0<q.Where.length/\(X1n q.Where true).2≠0 then (atOf q.Where (X1n q.Where true).1,(X1n q.Where true).2) else (0,0)):=by
  by_cases hw:0<q.Where.length
  ·rw[Yt (show(q.Where.length:Int)>0 by omega),cond_true,Xu7 q hw]
  ·rw[Yf (show ¬ (q.Where.length:Int)>0 by omega),if_neg (λh=>hw h.1)];rfl
 rw[wh];by_cases ha:0<q.Arg.length
 ·rw[Yt (show(q.Arg.length:Int)>0 by omega),cond_true];obtain⟨e,he,hat⟩:=Xoa (b:=false) ha;by_cases hz:(X1n q.Arg false).2=0
  ·rw[if_neg (show ¬ (0<q.Arg.length/\(X1n q.Arg false).2≠0) from λh=>h.2 hz),show((X1n q.Arg false).2 != 0)=false by simp[hz],cond_false]
  ·rw[if_pos (show(0<q.Arg.length/\(X1n q.Arg false).2≠0) from⟨ha,hz⟩),show((X1n q.Arg false).2 != 0)=true by simp[hz],he,hat];rfl
 ·rw[Yf (show ¬ (q.Arg.length:Int)>0 by omega),if_neg (show ¬ (0<q.Arg.length/\(X1n q.Arg false).2≠0) from λh=>ha h.1),cond_false]
def Xs8 (q:Xb):Int×Int:=if Xpn q≠0 then (0,Xpn q) else rt q
theorem Xaq {q:Xb} (hq:QW q):X7h q=some (Xs8 q):=by
 unfold X7h Xs8;rw[Xm6 hq,Xm5,Yo];by_cases h:Xpn q=0
 ·rw[if_neg om,h];rfl
 ·rw[if_pos h,show(Xpn q != 0)=true by simp[h]];rfl
theorem X6v {q:Xb} (hq:QW q):X43 q=some (Xs8 q):=by
 unfold X43 Xs8;rw[Xiw hq,Yo];by_cases h:Xpn q=0
 ·rw[if_neg om,h,show((0:Int) != 0)=false from rfl,cond_false];unfold Xa0 Xaf;rw[Xg1 hq.arg,Xg1 hq.wher];simp only[Yo];unfold rt;have wh:(bif ((List.length q.Where:Int)==(0:Int)) then (some (0,0)) else (bif ((X1n q.Where true).2 != (0:Int)) then ((getI q.Where (X1n q.Where true).1).bind λe28=>some (e28.At,(X1n q.Where true).2)) else (some (0,0))))=some (if 0<q.Where.length/\(X1n q.Where true).2≠0 then (atOf q.Where (X1n q.Where true).1,(X1n q.Where true).2) else (0,0)):=by
   by_cases hw:0<q.Where.length
   ·rw[lz hw,cond_false,Xu7 q hw]
   ·rw[lz' hw,if_neg (λh=>hw h.1)];rfl
  rw[wh];by_cases ha:0<q.Arg.length
  ·rw[lz ha,cond_false];obtain⟨e,he,hat⟩:=Xoa (b:=false) ha;by_cases hz:(X1n q.Arg false).2=0
   ·rw[if_neg (show ¬ (0<q.Arg.length/\(X1n q.Arg false).2≠0) from λh=>h.2 hz),show((X1n q.Arg false).2 != 0)=false by simp[hz],cond_false];rfl
   ·rw[if_pos (show(0<q.Arg.length/\(X1n q.Arg false).2≠0) from⟨ha,hz⟩),show((X1n q.Arg false).2 != 0)=true by simp[hz],he,hat];rfl
  ·rw[lz' ha,if_neg (show ¬ (0<q.Arg.length/\(X1n q.Arg false).2≠0) from λh=>ha h.1)];rfl
 ·rw[if_pos h,show(Xpn q != 0)=true by simp[h]];rfl
end Go.D


namespace Go.D
def eL:Option Ex->List X4
 |none=>[]
 |some e=>e.fl 0
theorem Xvg {o:Option Ex} (h:∀ x,o=some x->x.fits):(eL o).length<=60:=by
 cases o with
 |none=>simp[eL]
 |some e=>simp only[eL];rw[e.fl_len];exact(h e rfl).sz
theorem Xi3 (o:Option Ex):(0<(eL o).length↔o≠none):=by
 cases o with
 |none=>simp[eL]
 |some e=>simp only[eL];rw[e.fl_len];have:=e.sz_pos;simp;omega
def tOk (b:Bool) (o:Option Ex):Prop:=∀ x,o=some x->x.fits/\x.ty=true/\giv x.kd=b/\x.ir
def mkQ (q:Xb) (a w:Option Ex) (n:Xn):Xb:=⟨q.Agg,eL a,q.Sources,q.Join,eL w,n,q.ByKey,q.Late⟩
structure Rr (q:Xb) (a w:Option Ex) (n:Xn):Prop where
 ta:tOk false a
 tw:tOk true w
 agg:1<=q.Agg/\q.Agg<=4
 none_:q.Agg=1↔a=none
 late:q.Late=1\/q.Late=2
 src:X6b q.Sources q.Join=0
 join:q.Join=true->n.Kind=1
 win:okW n
theorem tOk.fits {b:Bool} {o:Option Ex} (h:tOk b o):∀ x,o=some x->x.fits:=λx hx=>(h x hx).1
theorem tOk.want {b:Bool} {o:Option Ex} (h:tOk b o) (hn:o≠none):(X1n (eL o) b).2=0:=by
 cases o with
 |none=>grind
 |some e =>
  obtain⟨h1,h2,h3,_⟩:=h e rfl;simp only[eL]
  simp_all [X1n,Xd2,if_neg]
theorem tOk.nchk {b:Bool} {o:Option Ex} (h:tOk b o) (hn:o≠none):nchk (eL o)=0:=by
 cases o with
 |none=>grind
 |some e=>have:=h.fits e rfl;exact(X83 this.ok this.sz this.dp).1
theorem Rr.qw {q:Xb} {a w:Option Ex} {n:Xn} (h:Rr q a w n):QW (mkQ q a w n):=by
 refine⟨λx hx=>?_,λx hx=>?_,?_⟩
 ·cases a with
  |none=>cases hx
  |some e=>exact Xr3 (h.ta.fits e rfl).ok 0 x hx
 ·cases w with
  |none=>cases hx
  |some e=>exact Xr3 (h.tw.fits e rfl).ok 0 x hx
 ·have:=h.win;unfold okW at this;show n.Every<=_/\_<=n.Every;omega
theorem X0k7 {q:Xb} (h1:1<=q.Agg/\q.Agg<=4) (h2:q.Late=1\/q.Late=2) (h3:q.Agg=1->¬ 0<q.Arg.length) (h4:q.Agg≠1->nchk q.Arg=0) (h5:0<q.Where.length->nchk q.Where=0) (h6:X6b q.Sources q.Join=0) (h7:q.Join=true->q.Window.Kind=1) (h8:okW q.Window):Xpn q=0:=by
 unfold Xpn
 grind
theorem rt0 {q:Xb} (h1:0<q.Arg.length->(X1n q.Arg false).2=0) (h2:0<q.Where.length->(X1n q.Where true).2=0):rt q=(0,0):=by
 unfold rt
 grind
theorem Rr.chk {q:Xb} {a w:Option Ex} {n:Xn} (h:Rr q a w n):Xs8 (mkQ q a w n)=(0,0):=by
 have hc:Xpn (mkQ q a w n)=0:=X0k7 h.agg h.late (λk l=>(Xi3 a).1 l (h.none_.1 k)) (λk=>h.ta.nchk λe=>k (h.none_.2 e)) (λk=>h.tw.nchk ((Xi3 w).1 k)) h.src h.join h.win;unfold Xs8;rw[if_neg (by rw[hc];simp)];exact rt0 (λk=>h.ta.want ((Xi3 a).1 k)) (λk=>h.tw.want ((Xi3 w).1 k))
theorem Xyk {l:List X4} {b:Bool} (hN:∀ x∈l,i64 x.N) (h:(X1n l b).2=0):∃ e:Ex,l=e.fl 0/\e.fits/\e.ty=true/\giv e.kd=b/\e.ir:=by
 unfold X1n at h;split at h
 ·cases h
 ·rename_i hk;obtain⟨e,h1,h2,rfl⟩:=X0em h;rw[Xd2 h1 h2] at hk;refine⟨e,rfl,h1,h2,?_,X0ia 0 hN⟩
  grind
theorem Xuk {l:List X4} {b:Bool} (hN:∀ x∈l,i64 x.N) (h:0<l.length->(X1n l b).2=0):∃ o,l=eL o/\tOk b o:=by
 by_cases hl:0<l.length
 ·obtain⟨e,h1,h2,h3,h4,h5⟩:=Xyk hN (h hl);exact⟨some e,h1,λx hx=>by grind⟩
 ·exact⟨none,List.length_eq_zero_iff.1 om,λx hx=>by cases hx⟩
theorem X04g {q:Xb} (hA:∀ x∈q.Arg,i64 x.N) (hW:∀ x∈q.Where,i64 x.N) (h:(Xs8 q).2=0):∃ a w,Rr q a w q.Window/\q=mkQ q a w q.Window:=by
 unfold Xs8 at h;split at h
 ·grind
 ·rename_i hc;have hc:Xpn q=0:=by grind
  unfold rt at h;have h1:0<q.Arg.length->(X1n q.Arg false).2=0:=by
   grind
  have h2:0<q.Where.length->(X1n q.Where true).2=0:=by
   grind
  obtain⟨a,ha,oa⟩:=Xuk hA h1;obtain⟨w,hw,ow⟩:=Xuk hW h2;unfold Xpn at hc;split at hc
  ·cases hc
  ·rename_i c1;split at hc
   ·cases hc
   ·rename_i c2;split at hc
    ·grind
    ·rename_i c3;split at hc
     ·grind
     ·split at hc
      ·grind
      ·rename_i c5;split at hc
       ·cases hc
       ·rename_i c6;split at hc
        ·rename_i c7;refine⟨a,w,⟨oa,ow,by omega,⟨λk=>?_,λk=>?_⟩,by omega,by grind,λk=>?_,c7⟩,?_⟩
         ·grind [absurd,Xi3]
         ·by_cases hg:q.Agg=1
          ·exact hg
          ·exfalso;apply c3;refine⟨hg,?_⟩;rw[ha,k];decide
         ·grind
         ·obtain⟨x1,x2,x3,x4,x5,x6,x7,x8⟩:=q;simp only at ha hw;subst ha hw;rfl
        ·cases hc
def X7w (w:Option Ex):Option Ex:=match w with
 |none=>none
 |some x=>if x.cs=true/\x.vl zr≠0 then none else some x
def tum (n:Xn):Xn:=if n.Kind=2/\n.Size=n.Every then ⟨1,n.Size,0⟩ else n
theorem tOk.fd {b:Bool} {o:Option Ex} (h:tOk b o):tOk b (o.map Ex.fd):=by
 intro x hx
 cases o with
 |none=>cases hx
 |some e =>
  cases hx
  obtain⟨h1,h2,h3,h4⟩:=h e rfl;have o:=X01d e h1.ok h4 h2;exact⟨Xp6 h1 h4 h2,o.ty,o.kd.trans h3,o.ir⟩
theorem tOk.drop {o:Option Ex} (h:tOk true o):tOk true (X7w o):=by
 intro x hx
 cases o with
 |none=>cases hx
 |some e =>
  unfold X7w at hx;simp only at hx;split at hx
  ·cases hx
  ·exact h x hx
theorem X0da {n:Xn} (h:okW n):okW (tum n):=by
 unfold tum;split
 ·obtain⟨h1,h2,h3⟩:=h;exact⟨h1,h2,.inr ⟨.inl rfl,rfl⟩⟩
 ·exact h
theorem Rr.m1 {q:Xb} {a w:Option Ex} {n:Xn} (h:Rr q a w n):Rr q (a.map Ex.fd) (w.map Ex.fd) n :=
 ⟨h.ta.fd,h.tw.fd,h.agg,by rw[h.none_];simp_all,h.late,h.src,h.join,h.win⟩
theorem Rr.m2 {q:Xb} {a w:Option Ex} {n:Xn} (h:Rr q a w n):Rr q a (X7w w) n :=
 ⟨h.ta,h.tw.drop,h.agg,h.none_,h.late,h.src,h.join,h.win⟩
theorem Rr.m3 {q:Xb} {a w:Option Ex} {n:Xn} (h:Rr q a w n):Rr q a w (tum n) :=
 ⟨h.ta,h.tw,h.agg,h.none_,h.late,h.src,λk=>by have:=h.join k;unfold tum;grind,X0da h.win⟩
theorem Xjw {s:List Int} {j:Bool} (h:X6b s j=0):s.length<=4:=by
 grind [X6b]
theorem X0c0 {α β:Type} (l:List α) (b:Nat) (x:β) (h:l.length*b<=140737488355328):((bif (List.isEmpty l) then (some x) else ((X1c (List.length l) b).bind λ_=>some x):Option β))=some x:=by
 rw[X3q h];grind
theorem X022 {l:List X4} (h:l.length<=100):X1j l=some l:=by
 grind [X1j,X0c0]
theorem X023 {l:List Int} (h:l.length<=100):X2q l=some l:=by
 grind [X2q,X0c0]
theorem X08k {q:Xb} (h1:q.Arg.length<=100) (h2:q.Where.length<=100) (h3:q.Sources.length<=100):X86 q=some q:=by
 simp_all [X86,X022,X023]
theorem Rr.lens {q:Xb} {a w:Option Ex} {n:Xn} (h:Rr q a w n):(mkQ q a w n).Arg.length<=100/\(mkQ q a w n).Where.length<=100/\(mkQ q a w n).Sources.length<=100 :=
 ⟨Nat.le_trans (Xvg h.ta.fits) om,Nat.le_trans (Xvg h.tw.fits) om,Nat.le_trans (Xjw h.src) om⟩
theorem X068 {b:Bool} {o:Option Ex} (h:tOk b o) (hn:o≠none):X3w (eL o)=some (eL (o.map Ex.fd),0):=by
 cases o with
 |none=>grind
 |some e =>
  obtain⟨h1,h2,_,h4⟩:=h e rfl;exact Xl6 h1 h2 h4
theorem Xl5 {q:Xb} {fa fw:List X4} (hc:X43 q=some (0,0)) (hs:q.Sources.length<=100) (hA:(q.Arg.length=0/\fa=q.Arg)\/(q.Arg.length≠0/\X3w q.Arg=some (fa,0)))
  (hW:(q.Where.length=0/\fw=q.Where)\/(q.Where.length≠0/\X3w q.Where=some (fw,0))):X7u q=some (⟨q.Agg,fa,q.Sources,q.Join,fw,q.Window,q.ByKey,q.Late⟩,0):=by
 unfold X7u;rw[hc,Yo];simp only[bne_self_eq_false,cond_false];rw[X0c0 _ _ _ om,Yo]
 grind
theorem Xv9 {b:Bool} {o:Option Ex} (h:tOk b o):((eL o).length=0/\eL (o.map Ex.fd)=eL o)\/((eL o).length≠0/\X3w (eL o)=some (eL (o.map Ex.fd),0)):=by
 grind [Xi3,X068]
theorem Xmg {q:Xb} {a w:Option Ex} {n:Xn} (h:Rr q a w n):X7u (mkQ q a w n)=some (mkQ q (a.map Ex.fd) (w.map Ex.fd) n,0) :=
 Xl5 (by rw[X6v h.qw,h.chk]) h.lens.2.2 (Xv9 h.ta) (Xv9 h.tw)
theorem X06k {y:Ex} (h:y.cs=false):X7w (some y)=some y:=by unfold X7w;simp[h]
theorem X0bj {y:Ex} (h:y.vl zr=0):X7w (some y)=some y:=by unfold X7w;simp[h]
theorem Xtv {y:Ex} (h:y.cs=true) (g:y.vl zr≠0):X7w (some y)=none:=by unfold X7w;simp[h,g]
theorem X0d9 {n:Xn} (h:n.Kind=2) (g:n.Size=n.Every):tum n=⟨1,n.Size,0⟩:=by unfold tum;grind
theorem X08l {n:Xn} (h:¬ (n.Kind=2/\n.Size=n.Every)):tum n=n:=by unfold tum;rw[if_neg h]
def Xnw (q:Xb) (a w:Option Ex) (n:Xn) (r:Int):Xb :=
 if r=1 then mkQ q (a.map Ex.fd) (w.map Ex.fd) n else if r=2 then mkQ q a (X7w w) n else mkQ q a w (tum n)
theorem X0a7 {q:Xb} {a w:Option Ex} {n:Xn} (h:Rr q a w n) {r:Int} (hr:r=1\/r=2\/r=3):X88 (mkQ q a w n) r=some (Xnw q a w n r,0):=by
 obtain⟨l1,l2,l3⟩:=h.lens;unfold X88 Xnw;rw[X08k l1 l2 l3,Yo];rcases hr with rfl|rfl|rfl
 ·simp_all [cond_true,Xmg]
 ·rw[show((2:Int)==1)=false from rfl,show((2:Int)==2)=true from rfl,cond_false,cond_true,if_neg (by simp),if_pos rfl]
  cases w with
  |none=>rfl
  |some y =>
   obtain⟨h1,h2,_,h4⟩:=h.tw y rfl;rw[show((List.length (mkQ q a (some y) n).Where:Int)==0)=false from lz ((Xi3 (some y)).2 (by simp)),cond_false,show(mkQ q a (some y) n).Where=y.fl 0 from rfl,Xcl h1 h2 h4,Yo]
   cases hc:y.cs with
   |false=>rw[if_neg (by simp),X06k hc];rfl
   |true =>
    rw[if_pos rfl];by_cases hv:y.vl zr=0
    ·rw[X0bj hv,hv];rfl
    ·rw[Xtv hc hv];have e:(y.vl zr != 0)=true:=by simp[hv]
     simp only[cond_true,e,bne_self_eq_false,cond_false,Yo];rfl
 ·rw[show((3:Int)==1)=false from rfl,show((3:Int)==2)=false from rfl,show((3:Int)==3)=true from rfl,if_neg (by simp),if_neg (by simp)];simp only[cond_false,cond_true];show((bif (bif (n.Kind==(2:Int)) then (n.Size==n.Every) else false) then _ else _:Option Xb).bind _)=_;by_cases hk:n.Kind=2
  ·by_cases hs:n.Size=n.Every
   ·rw[X0d9 hk hs,show(n.Kind==2)=true by simp[hk],show(n.Size==n.Every)=true by simp[hs]];rfl
   grind [X08l]
  grind [X08l]
end Go.D


namespace Go.D
theorem Xxr {α:Type} {l:List α} {k:Nat} {x:α} {xs:List α} (h:l.drop k=x::xs):l[k]?=some x/\l.drop (k+1)=xs:=by
 constructor
 ·have:(l.drop k)[0]?=some x:=by rw[h];rfl
  grind
 ·have:(l.drop k).drop 1=xs:=by rw[h];rfl
  rw[List.drop_drop] at this;exact this
theorem X081 (X Y:List X4):∀ (xs:List X4) (k:Nat),xs.length=(Y.drop k).length->X0k X Y xs k=some (if xs=Y.drop k then .x0 else .x1)
 |[],k,h=>by
  have:Y.drop k=[]:=List.length_eq_zero_iff.1 h.symm;rw[X0k,this,if_pos rfl]
 |x::xs,k,h=>by
  cases hy:Y.drop k with
  |nil=>rw[hy] at h;cases h
  |cons y ys =>
   obtain⟨h1,h2⟩:=Xxr hy;rw[X0k,X2r,h1,Yo,Xdj];by_cases he:x=y
   ·rw[Yt he,Bool.not_true,cond_false,X081 X Y xs (k+1) (by rw[h2];rw[hy] at h;simpa using h),h2];simp[he]
   ·rw[Yf he,Bool.not_false,cond_true,if_neg (by simp[he])]
theorem X06h {a b:List X4} (h:a.length<=100000):X1i a b=some (decide (a=b)):=by
 unfold X1i;by_cases hl:a.length=b.length
 ·rw[show((a.length:Int) != (b.length:Int))=false by simp[hl],cond_false,X1w om,Yo,X081 a b a 0 (by grind)]
  grind
 ·rw[show((a.length:Int) != (b.length:Int))=true by simp;omega,cond_true,Yf (λh=>hl (by rw[h]))]
theorem Xmi (x y:Xn):Xf6 x y=decide (x=y):=by
 obtain⟨a,b,c⟩:=x;obtain⟨a',b',c'⟩:=y;simp only[Xf6,Bool.and_true]
 grind
theorem X093 {p q:Xb} (h1:p.Arg.length<=100000) (h2:p.Where.length<=100000):X87 p q=some (decide (p.Arg=q.Arg/\p.Where=q.Where/\p.Window=q.Window)):=by
 grind [X87,X06h,Xmi]
def zq:Xb:=Xb.mk 0 [] [] false [] (Xn.mk 0 0 0) false 0
theorem Xxz {q:Xb} {a w:Option Ex} {n:Xn} (h:Rr q a w n) {r:Int} (hr:¬ (r=1\/r=2\/r=3)):X19 (mkQ q a w n) r=some (zq,false,2):=by
 have e:(bif (decide (r<(1:Int))) then true else (decide (r>(3:Int))))=true:=by
  grind
 unfold X19;rw[X6v h.qw,h.chk,Yo,e];rfl
theorem X04e {q:Xb} {a w:Option Ex} {n:Xn} (h:Rr q a w n) {r:Int} (hr:r=1\/r=2\/r=3):∃ a' w' n',Rr q a' w' n'/\Xnw q a w n r=mkQ q a' w' n':=by
 rcases hr with rfl|rfl|rfl
 ·exact⟨_,_,_,h.m1,rfl⟩
 ·exact⟨_,_,_,h.m2,rfl⟩
 ·exact⟨_,_,_,h.m3,rfl⟩
theorem X0ed {q:Xb} {a w a' w':Option Ex} {n n':Xn}:((mkQ q a w n).Arg=(mkQ q a' w' n').Arg/\(mkQ q a w n).Where=(mkQ q a' w' n').Where/\(mkQ q a w n).Window=(mkQ q a' w' n').Window)↔mkQ q a w n=mkQ q a' w' n':=by
 unfold mkQ
 grind
theorem Xji {q:Xb} {a w:Option Ex} {n:Xn} (h:Rr q a w n) {r:Int} (hr:r=1\/r=2\/r=3) :
  X19 (mkQ q a w n) r=some (Xnw q a w n r,!(decide (mkQ q a w n=Xnw q a w n r)),0):=by
 obtain⟨l1,l2,l3⟩:=h.lens;have e:(bif (decide (r<(1:Int))) then true else (decide (r>(3:Int))))=false:=by
  grind
 obtain⟨a',w',n',h',he⟩:=X04e h hr
 ·unfold X19;rw[X6v h.qw,h.chk,Yo,e,X0a7 h hr];simp only[bne_self_eq_false,cond_false,Yo];rw[X093 om om,he,Yo]
  simp_all [decide_eq_decide,X0ed]
def allQ (q:Xb) (a w:Option Ex) (n:Xn):Xb:=mkQ q (a.map Ex.fd) (X7w (w.map Ex.fd)) (tum n)
theorem Rr.all {q:Xb} {a w:Option Ex} {n:Xn} (h:Rr q a w n):Rr q (a.map Ex.fd) (X7w (w.map Ex.fd)) (tum n):=h.m1.m2.m3
theorem X01e {b:Bool} {o:Option Ex} (h:tOk b o):(o.map Ex.fd).map Ex.fd=o.map Ex.fd:=by
 cases o with
 |none=>rfl
 |some e=>obtain⟨h1,h2,_,h4⟩:=h e rfl;simp only[Option.map_some];rw[(X01d e h1.ok h4 h2).fd]
theorem X01n {o:Option Ex} (h:tOk true o):(X7w (o.map Ex.fd)).map Ex.fd=X7w (o.map Ex.fd):=by
 cases o with
 |none=>rfl
 |some e =>
  obtain⟨h1,h2,_,h4⟩:=h e rfl;simp only[Option.map_some,X7w];split
  ·rfl
  ·simp only[Option.map_some];rw[(X01d e h1.ok h4 h2).fd]
theorem X0fu (o:Option Ex):X7w (X7w o)=X7w o:=by
 cases o with
 |none=>rfl
 |some e =>
  by_cases hc:e.cs=true/\e.vl zr≠0
  ·rw[Xtv hc.1 hc.2];rfl
  ·have:X7w (some e)=some e:=by unfold X7w;simp only;rw[if_neg hc]
   rw[this,this]
theorem tum2 (n:Xn):tum (tum n)=tum n:=by
 unfold tum
 grind
theorem Xzh {q:Xb} {a w:Option Ex} {n:Xn} (h:Rr q a w n):∃ c1 c2 c3,X19 (mkQ q a w n) 1=some (mkQ q (a.map Ex.fd) (w.map Ex.fd) n,c1,0)/\X19 (mkQ q (a.map Ex.fd) (w.map Ex.fd) n) 2=some (mkQ q (a.map Ex.fd) (X7w (w.map Ex.fd)) n,c2,0) /\
  X19 (mkQ q (a.map Ex.fd) (X7w (w.map Ex.fd)) n) 3=some (allQ q a w n,c3,0)/\(a.map Ex.fd=a->w.map Ex.fd=w->X7w w=w->tum n=n->c1=false/\c2=false/\c3=false):=by
 refine⟨_,_,_,Xji h (.inl rfl),Xji h.m1 (.inr (.inl rfl)),Xji h.m1.m2 (.inr (.inr rfl)),λe1 e2 e3 e4=>?_⟩
 simp_all [Xnw,if_pos,if_neg]
theorem X0g6 {q:Xb} {a w:Option Ex} {n:Xn} (h:Rr q a w n):X9j (mkQ q a w n)=some (allQ q a w n,0):=by
 obtain⟨c1,c2,c3,p1,p2,p3,_⟩:=Xzh h;obtain⟨d1,d2,d3,r1,r2,r3,r4⟩:=Xzh h.all;obtain⟨rfl,rfl,rfl⟩:=r4 (X01e h.ta) (X01n h.tw) (X0fu _) (tum2 n);have hid:allQ q (a.map Ex.fd) (X7w (w.map Ex.fd)) (tum n)=allQ q a w n:=by
  unfold allQ;rw[X01e h.ta,X01n h.tw,X0fu,tum2]
 rw[hid] at r3;unfold X9j;obtain⟨k,hk⟩:∃ k,FU=k+1+1:=⟨99998,rfl⟩;rw[hk,X4j,show decide ((0:Int)<20)=true from rfl,cond_true,p1,Yo];simp only[bne_self_eq_false,cond_false];rw[p2,Yo];simp only[bne_self_eq_false,cond_false];rw[p3,Yo];simp only[bne_self_eq_false,cond_false];by_cases hc:(!(bif (bif c1 then true else c2) then true else c3))=true
 ·rw[hc];rfl
 ·rw[Bool.not_eq_true] at hc;rw[hc,cond_false,show IntKind.i64.wrap (0+1)=1 from rfl,X4j,show decide ((1:Int)<20)=true from rfl,cond_true,show allQ q a w n=mkQ q (a.map Ex.fd) (X7w (w.map Ex.fd)) (tum n) from rfl,r1,Yo];simp only[bne_self_eq_false,cond_false];rw[r2,Yo];simp only[bne_self_eq_false,cond_false];rw[r3];rfl
end Go.D


namespace Go.D
theorem Xav (x y:X9):X38 x y=decide (x=y):=by
 obtain⟨a,b,c⟩:=x;obtain⟨a',b',c'⟩:=y;simp only[X38,Bool.and_true]
 grind
def Xhs:Int := -9223372036854775808
def Xp4:Int:=9223372036854775807
def Xd4 (t:Int):Bool:=decide (-1099511627776<=t)&&decide (t<=1099511627776)
def Xw4 (x:Xs):Bool:=bif x.Mark then decide (x.Record=⟨0,0,0⟩)&&(Xd4 x.Time||x.Time==Xp4) else x.Time==0&&Xd4 x.Record.Time
def chk (l:List Xs):Int:=if 60<l.length then 4 else bif l.all Xw4 then 0 else 8
theorem Xc5 {n:Nat} (h:n<=140737488355328):X3t n=some ():=by unfold X3t;rw[if_pos h]
theorem Xlk {n b:Nat} (h:n*b<=140737488355328):X1c n b=some ():=by unfold X1c;rw[if_pos h]
theorem X024 {l:List Xs} (h:chk l=0):l.length<=60:=by
 unfold chk at h;grind
def Xm9 (m:Int) (x:Xs):Int:=if x.Mark then (if x.Time>m then x.Time else m) else m
def X002 (m:Int) (l:List Xs):Int:=l.foldl Xm9 m
def Xrh (late:Bool):Int->List Xs->List X9
 |_,[]=>[]
 |m,x::l=>if !x.Mark&&(decide (x.Record.Time<m)==late) then x.Record::Xrh late (Xm9 m x) l else Xrh late (Xm9 m x) l
theorem Xud (q:Bool):∀ (l:List Xs) (m:Int),(Xrh q m l).length<=l.length:=by
 intro l
 induction l with
 |nil=>intro m;exact Nat.le_refl _
 |cons x l ih =>
  grind [Xm9,Xrh,List.length_cons]
def Xb6 (l:List Xs):List X9:=if chk l=0 then Xrh false Xhs l else []
def Xo9 (l:List Xs):List X9:=if chk l=0 then Xrh true Xhs l else []
end Go.D


namespace Go.D
theorem Xqh (t:Int):Xbg t=some (Xd4 t):=by
 unfold Xbg Xd4;simp only[ge_iff_le];cases decide (-1099511627776<=t)<;>rfl
theorem Xir (l:List Xs):∀ (xs:List Xs) (k:Nat),X48 l xs k=some (bif xs.all Xw4 then .x0 else .x1):=by
 intro xs
 induction xs with
 |nil=>intro k;rfl
 |cons x xs ih =>
  intro k;rw[X48,ih];simp only[Xqh,Xav,List.all_cons,Xw4,Xp4];generalize decide (x.Record=⟨0,0,0⟩)=b1;generalize Xd4 x.Time=b2;generalize Xd4 x.Record.Time=b3;generalize (x.Time==9223372036854775807)=b4;generalize (x.Time==0)=b5;generalize x.Mark=b6;cases b1<;>cases b2<;>cases b3<;>cases b4<;>cases b5<;>cases b6<;>rfl
theorem Xc6 (l:List Xs):X7o l=some (chk l):=by
 unfold X7o chk;by_cases h:60<l.length
 ·rw[if_pos h,show decide ((l.length:Int)>60)=true from Yt om];rfl
 ·rw[if_neg h,show decide ((l.length:Int)>60)=false from Yf om,Xc5 om];simp only[cond_false,Yo,Xir];cases l.all Xw4<;>rfl
theorem Xkr (l:List Xs):∀ (xs:List Xs) (k:Nat) (m:Int),X54 l xs k m=some (.x0 (X002 m xs)):=by
 intro xs
 induction xs with
 |nil=>intro k m;rfl
 |cons x xs ih =>
  intro k m;rw[X54];cases hx:x.Mark<;>simp[ih,X002,Xm9,hx]
theorem Xqi (l:List Xs):Xd0 l=some (if chk l=0 then (X002 Xhs l,0) else (0,chk l)):=by
 unfold Xd0;rw[Xc6];by_cases h:chk l=0
 ·have:=X024 h;simp[h,Xc5 (show l.length<=140737488355328 by omega),Xkr,Xhs]
 ·have h':(chk l != 0)=true:=by simp[h]
  simp[h,h']
theorem Xip (l:List Xs):∀ (xs:List Xs) (k:Nat) (a b:List X9) (m:Int),a.length+xs.length<=1000000->b.length+xs.length<=1000000 ->
  X3h l xs k a b m=some (.x0 (a++Xrh false m xs) (b++Xrh true m xs)):=by
 intro xs
 induction xs with
 |nil=>intro k a b m _ _;simp[X3h,Xrh]
 |cons x xs ih =>
  intro k a b m ha hb;simp only[List.length_cons] at ha hb;rw[X3h]
  cases hx:x.Mark with
  |true=>simp[ih _ a b _ om om,Xrh,Xm9,hx]
  |false =>
   by_cases ht:x.Record.Time<m
   ·simp[ht,Xlk (show(b.length+1)*24<=140737488355328 by omega),ih _ a (b++[x.Record]) _ om (by simp;omega),Xrh,Xm9,hx]
   ·simp[ht,Xlk (show(a.length+1)*24<=140737488355328 by omega),ih _ (a++[x.Record]) b _ (by simp;omega) om,Xrh,Xm9,hx]
theorem Xo8 (l:List Xs):Xbh l=some (Xb6 l,Xo9 l,chk l):=by
 unfold Xbh Xb6 Xo9;rw[Xc6];by_cases h:chk l=0
 ·have:=X024 h;simp[h,Xc5 (show l.length<=140737488355328 by omega),Xip l l 0 [] [] _ (by simp;omega) (by simp;omega),Xhs]
 ·have h':(chk l != 0)=true:=by simp[h]
  simp[h,h']
end Go.D


namespace Go.D
theorem Xm4 (t:Int):X7g t 1=some (bif Xd4 t then 0 else 16):=by
 unfold X7g Xd4;by_cases h1 : -1099511627776<=t
 ·rw[show decide (t < -1099511627776)=false from Yf om,Yt h1];by_cases h2:t<=1099511627776
  ·rw[show decide (t>1099511627776)=false from Yf om,Yt h2];rfl
  ·rw[show decide (t>1099511627776)=true from Yt om,Yf h2];rfl
 ·rw[show decide (t < -1099511627776)=true from Yt om,Yf h1];rfl
theorem Xm2 (x:Xs):X9n x=some (Xw4 x):=by
 unfold X9n Xw4 Xp4;simp only[Xm4,Xav];generalize decide (x.Record=⟨0,0,0⟩)=b1;generalize Xd4 x.Time=b2;generalize Xd4 x.Record.Time=b3;generalize (x.Time==9223372036854775807)=b4;generalize (x.Time==0)=b5;generalize x.Mark=b6;cases b1<;>cases b2<;>cases b3<;>cases b4<;>cases b5<;>cases b6<;>rfl
theorem Xgr (l:List Xs):∀ (xs:List Xs) (k:Nat),X3o l xs k=some (bif xs.all Xw4 then .x0 else .x1):=by
 intro xs
 induction xs with
 |nil=>intro k;rfl
 |cons x xs ih =>
  intro k;rw[X3o,ih];simp only[Xm2,List.all_cons,Yo];cases Xw4 x<;>rfl
theorem Xm3 (l:List Xs):X9o l=some (chk l):=by
 unfold X9o chk;by_cases h:60<l.length
 ·rw[if_pos h,show decide ((l.length:Int)>60)=true from Yt om];rfl
 ·rw[if_neg h,show decide ((l.length:Int)>60)=false from Yf om,Xc5 om];simp only[cond_false,Yo,Xgr];cases l.all Xw4<;>rfl
theorem X087 {l:List Xs}:chk l=0↔l.length<=60/\∀ x∈l,Xw4 x=true:=by
 unfold chk;constructor
 ·intro h;split at h
  ·cases h
  ·refine⟨by omega,?_⟩
   cases ha:l.all Xw4 with
   |true=>exact List.all_eq_true.1 ha
   |false=>rw[ha] at h;cases h
 ·rintro⟨h1,h2⟩;rw[if_neg om,List.all_eq_true.2 h2];rfl
def Xci:List (List Xs)->Int
 |[]=>0
 |x::xs=>if chk x≠0 then chk x else Xci xs
theorem Xfx (Y:List (List Xs)):∀ (xs:List (List Xs)) (k:Nat),∃ o,X27 Y xs k=some o/\(match o with|.x0=>(0:Int)|.x1 z=>z)=Xci xs
 |[],k=>⟨_,rfl,rfl⟩
 |x::xs,k=>by
  rw[X27,Xc6,Yo,Xci];by_cases h:chk x=0
  ·rw[if_neg om,h];exact Xfx Y xs (k+1)
  ·rw[if_pos h,Xpe h];exact⟨_,rfl,rfl⟩
theorem Xbe {l:List (List Xs)} (hn:l.length<=1000):X4o l=some (Xci l):=by
 unfold X4o;rw[X1w om,Yo];obtain⟨o,h1,h2⟩:=Xfx l l 0;rw[h1,<-h2];cases o<;>rfl
theorem Xmy (Y:List (List Xs)):∀ (xs:List (List Xs)) (k:Nat),∃ o,X3m Y xs k=some o/\(match o with|.x0=>(0:Int)|.x1 z=>z)=Xci xs
 |[],k=>⟨_,rfl,rfl⟩
 |x::xs,k=>by
  rw[X3m,Xm3,Yo,Xci];by_cases h:chk x=0
  ·rw[if_neg om,h];exact Xmy Y xs (k+1)
  ·rw[if_pos h,Xpe h];exact⟨_,rfl,rfl⟩
theorem Xm0 {l:List (List Xs)} (hn:l.length<=1000):X9k l=some (Xci l):=by
 unfold X9k;rw[X1w om,Yo];obtain⟨o,h1,h2⟩:=Xmy l l 0;rw[h1,<-h2];cases o<;>rfl
theorem Xbs {l:List (List Xs)}:Xci l=0↔∀ x∈l,chk x=0:=by
 induction l with
 |nil=>simp[Xci]
 |cons x xs ih =>
  rw[Xci];by_cases h:chk x=0
  ·rw[if_neg om,ih];simp[h]
  ·rw[if_pos h];simp[h]
end Go.D


namespace Go.D
def ltE (a b:X3):Prop:=a.Span.End<b.Span.End\/a.Span.End=b.Span.End/\(a.Span.Start<b.Span.Start\/a.Span.Start=b.Span.Start/\a.Key<b.Key)
instance (a b:X3):Decidable (ltE a b):=by unfold ltE;infer_instance
def X4x (a b:X3):Prop:=a.Key=b.Key/\a.Span=b.Span
instance (a b:X3):Decidable (X4x a b):=by unfold X4x;infer_instance
theorem Xj2 {a b:X0s} (h1:a.Start=b.Start) (h2:a.End=b.End):a=b:=by cases a;simp_all
theorem Xkm {a b c:X3} (h:ltE a b) (k:ltE b c):ltE a c:=by unfold ltE at *;omega
theorem Xna (a:X3):¬ ltE a a:=by unfold ltE;omega
theorem X003 {a b:X3} (h:ltE a b):¬ ltE b a:=by unfold ltE at *;omega
theorem Xkn {a b:X3}:ltE a b\/X4x a b\/ltE b a:=by
 grind [X4x,Xj2,ltE]
theorem sameK_ltE {a b c:X3} (h:X4x a b):ltE c a↔ltE c b:=by grind [X4x,ltE]
theorem Xdr {a b c:X3} (h:X4x a b):ltE a c↔ltE b c:=by grind [X4x,ltE]
theorem Xac {a b:X3} (h:X4x a b):¬ ltE a b:=by grind [X4x,ltE]
def cmpI (a b:Int):Int:=if a<b then -1 else if a>b then 1 else 0
theorem X0g0 (a b:Int):X2b a b=some (cmpI a b):=by
 simp only[X2b,X59,bne_self_eq_false,Yo,cond_false,cmpI]
 grind
def ordE (a b:X3):Int:=if ltE a b then -1 else if ltE b a then 1 else 0
theorem Xan (a b:X3):X61 a b=some (ordE a b):=by
 simp only[X61,X0g0,Yo,Xe3,X5j,List.length_cons,List.length_nil]
 grind [X1w,ordE,ltE,cmpI]
theorem Xs9 {a b:X3}:ordE a b<0↔ltE a b:=by
 grind [ordE,ltE]
theorem X09w {a b:X3}:ordE a b=0↔X4x a b:=by
 unfold ordE;by_cases h:ltE a b
 ·grind [Xac]
 ·by_cases h2:ltE b a
  ·simp[h,h2];exact λhs=>h ((Xdr hs).2 ((sameK_ltE hs).1 h2))
  grind [Xkn,absurd]
theorem X09v {a b:X3}:0<=ordE a b↔¬ ltE a b:=by rw[<-Xs9];omega
def okA (a:X0z):Prop:=(a.Count=0/\a=⟨0,0,0,0⟩)\/(a.Count=1/\a.Sum=a.Min/\a.Sum=a.Max)\/(1<a.Count/\a.Count<=1073741824/\a.Min<=a.Max)
theorem X3y {a:X0z} (h:okA a):X2y a=some 0:=by
 rcases h with ⟨h1,h2⟩|⟨h1,h2,h3⟩|⟨h1,h2,h3⟩
 ·subst h2;rfl
 ·have h3':a.Min=a.Max:=by omega
  simp[X2y,h1,h2,h3']
 ·have e0:(a.Count==0)=false:=by simp;omega
  have e1:(a.Count==1)=false:=by simp;omega
  simp[X2y,e0,e1,h1,h2,h3]
def X49 (a b:X0z):X0z :=
 if a.Count=0 then b else if b.Count=0 then a else ⟨a.Count+b.Count,IntKind.i64.wrap (a.Sum+b.Sum),if b.Min<a.Min then b.Min else a.Min,if b.Max>a.Max then b.Max else a.Max⟩
theorem Xba {a:X0z} (h:okA a):0<=a.Count/\a.Count<=1073741824:=by
 rcases h with ⟨h1,_⟩|⟨h1,_⟩|⟨h1,h2,_⟩<;>omega
theorem X3r {a b:X0z} (ha:okA a) (hb:okA b) (hc:a.Count+b.Count<=1073741824):X20 a b=some (X49 a b,0):=by
 have h1:=Xba ha;have h2:=Xba hb;simp only[X20,X3y ha,X3y hb,Yo,bne_self_eq_false,cond_false,X49];rw[X05 om om];have e0:decide (a.Count+b.Count>1073741824)=false:=by simp;omega
 rw[e0,cond_false];by_cases h3:a.Count=0
 ·have e1:(a.Count==0)=true:=by simp[h3]
  rw[e1,cond_true,if_pos h3]
 ·have e1:(a.Count==0)=false:=by simp[h3]
  rw[e1,cond_false,if_neg h3];by_cases h4:b.Count=0
  ·have e2:(b.Count==0)=true:=by simp[h4]
   rw[e2,cond_true,if_pos h4]
  ·have e2:(b.Count==0)=false:=by simp[h4]
   rw[e2,cond_false,if_neg h4]
theorem Xzl {a:X0z} (h:okA a):a.Min<=a.Max:=by
 rcases h with ⟨_,h2⟩|⟨_,h2,h3⟩|⟨_,_,h3⟩
 ·subst h2;decide
 ·omega
 ·exact h3
theorem X05c {a b:X0z} (ha:okA a) (hb:okA b) (hc:a.Count+b.Count<=1073741824):okA (X49 a b):=by
 unfold X49;have h1:=Xba ha;have h2:=Xba hb;by_cases h3:a.Count=0
 ·rw[if_pos h3];exact hb
 ·rw[if_neg h3];by_cases h4:b.Count=0
  ·rw[if_pos h4];exact ha
  ·rw[if_neg h4];have m1:=Xzl ha;have m2:=Xzl hb;refine .inr (.inr ⟨?_,hc,?_⟩)
   ·show 1<a.Count+b.Count;omega
   ·show(if b.Min<a.Min then b.Min else a.Min)<=(if b.Max>a.Max then b.Max else a.Max);split<;>split<;>omega
def okE (x:X3):Prop := -1100585369600<=x.Span.Start/\x.Span.Start<x.Span.End/\x.Span.End<=1100585369600/\okA x.Values.e0/\okA x.Values.e1/\0<x.Values.e0.Count+x.Values.e1.Count
theorem Xee {x:X3} (h:okE x):X9e x=some true:=by
 obtain⟨h1,h2,h3,h4,h5,h6⟩:=h;have c1:=Xba h4;have c2:=Xba h5;have e1:¬ x.Span.Start < -1100585369600:=by omega
 have e2:¬ x.Span.End<=x.Span.Start:=by omega
 have e3:¬ x.Span.End>1100585369600:=by omega
 simp only[X9e,X3y h4,X3y h5,Yo];rw[X05 om om]
 grind
theorem X7a (l:List X3) (hs:l.Pairwise ltE) (ho:∀ x∈l,okE x) (hn:l.length<=1000000):∀ (xs:List X3) (k:Nat),l.drop k=xs->X3i l xs k=some .x0:=by
 intro xs
 induction xs with
 |nil=>intro k _;rfl
 |cons x xs ih =>
  intro k hk;have hlt:k<l.length:=by
   grind [Nat.lt_or_ge,List.drop_eq_nil_of_le]
  have hx:l[k]?=some x:=by have:=congrArg List.head? hk;simpa[List.head?_drop] using this
  have hmem:x∈l:=Yg hx;have hnext:l.drop (k+1)=xs:=by rw[<-List.tail_drop,hk];rfl
  rw[X3i];simp only[Xee (ho x hmem),Yo,Bool.not_true,cond_false,cond_true];by_cases h0:k=0
  ·grind
  ·have hpos:decide ((k:Int)>0)=true:=by simp;omega
   rw[hpos,cond_true];have hw:IntKind.i64.wrap ((k:Int) - 1)=((k - 1:Nat):Int):=by grind [X05]
   rw[hw,X2r];have hp:l[k - 1]?=some l[k - 1]:=Ye om;rw[hp];have hlt2:ltE l[k - 1] x:=by
    grind [List.pairwise_iff_getElem,Ye,Option.some.inj]
   simp_all [ordE,X09v,Yo,Xan,ge_iff_le,decide_false,cond_false]
theorem Xao {l:List X3} (hs:l.Pairwise ltE) (ho:∀ x∈l,okE x) (hn:l.length<=4000):X9f l=some 0:=by
 unfold X9f;have:¬ ((l.length:Int)>4000):=by omega
 simp only[this,decide_false,cond_false];rw[X1w om,X7a l hs ho om l 0 rfl];rfl
theorem X0ee {i j:Nat} (h:i+j<=1000000):IntKind.i64.wrap (Int.fdiv (IntKind.u64.wrap (IntKind.i64.wrap ((i:Int)+(j:Int)))) (2 ^ (min (Int.toNat 1) IntKind.u64.bits)))=(((i+j) / 2:Nat):Int):=by
 have h1:IntKind.i64.wrap ((i:Int)+(j:Int))=(i:Int)+j:=X05 om om;rw[h1];have h2:IntKind.u64.wrap ((i:Int)+j)=(i:Int)+j:=Go.IntWalk.u64_in _ ⟨by omega,by omega⟩;rw[h2];have h3:(min (Int.toNat 1) IntKind.u64.bits)=1:=by decide
 rw[h3];have h4:Int.fdiv ((i:Int)+j) (2 ^ 1)=(((i+j) / 2:Nat):Int):=by
  grind
 rw[h4,X05 om om]
theorem X0k9 (l:List X3) (x:X3) (c:Nat) (n:Int) (hn:l.length<=400000) (hc:∀ (k:Nat) y,l[k]?=some y->(ltE y x↔k<c)):∀ (f i j:Nat),i<=c->c<=j->j<=l.length->j - i<f ->
  Xu l x n f i j=some (.x0 c):=by
 intro f
 induction f with
 |zero=>grind
 |succ f ih =>
  intro i j h1 h2 h3 h4;rw[Xu];by_cases hij:i<j
  ·have hd:decide ((i:Int)<(j:Int))=true:=by grind
   rw[hd,cond_true,X0ee om,X2r];have hm:(i+j) / 2<l.length:=by omega
   rw[Ye hm];simp only[Yo,Xan];have hcc:=hc ((i+j) / 2) _ (Ye hm);by_cases hl:ltE l[(i+j) / 2] x
   ·have:ordE l[(i+j) / 2] x<0:=Xs9.2 hl;simp only[this,decide_true,cond_true]
    grind [X05]
   ·have:¬ ordE l[(i+j) / 2] x<0:=λh=>hl (Xs9.1 h);simp only[this,decide_false,cond_false];have:¬ (i+j) / 2<c:=λh=>hl (hcc.2 h)
    grind
  grind
def cnt (l:List X3) (x:X3):Nat:=(l.takeWhile λy=>decide (ltE y x)).length
theorem X021 (l:List X3) (x:X3):cnt l x<=l.length:=by grind [cnt,List.takeWhile_sublist]
theorem X0bx {l:List X3} {x:X3} (hs:l.Pairwise ltE):∀ (k:Nat) y,l[k]?=some y->(ltE y x↔k<cnt l x):=by
 induction l with
 |nil=>grind
 |cons z l ih =>
  intro k y h;rw[List.pairwise_cons] at hs;unfold cnt;by_cases hz:ltE z x
  ·grind [List.takeWhile_cons_of_pos,cnt]
  ·rw[List.takeWhile_cons_of_neg (by grind)];simp only[List.length_nil,Nat.not_lt_zero,iff_false]
   cases k with
   |zero=>grind
   |succ k =>
    simp at h;exact λhy=>hz (Xkm (hs.1 y (Yg h)) hy)
theorem X0g3 {l:List X3} {x:X3} (hs:l.Pairwise ltE) (hn:l.length<=50000) :
  Xl l x=some ((cnt l x:Int),match l[cnt l x]? with|some y=>decide (X4x y x)|none=>false):=by
 unfold Xl;have h0:=X0k9 l x (cnt l x) (l.length:Int) om (X0bx hs) FU 0 l.length om (X021 l x) (Nat.le_refl _) (by unfold FU;omega);rw[show((0:Nat):Int)=0 from rfl] at h0;rw[h0];simp only[Yo];by_cases hlt:cnt l x<l.length
 ·have hd:decide ((cnt l x:Int)<(l.length:Int))=true:=by grind
  rw[hd,X2r,Ye hlt];simp only[cond_true,Yo,Xan];congr 2
  rw[Bool.eq_iff_iff];simp[X09w]
 grind
end Go.D


namespace Go.D
def Xn8 (y x:X3):X3:=⟨y.Key,y.Span,⟨X49 y.Values.e0 x.Values.e0,X49 y.Values.e1 x.Values.e1⟩⟩
def Xo1:List X3->X3->List X3
 |[],x=>[x]
 |y::l,x=>if ltE y x then y::Xo1 l x else if X4x y x then Xn8 y x::l else x::y::l
theorem Xzf {l:List X3} {x:X3} (hs:l.Pairwise ltE) :
  Xo1 l x=(match l[cnt l x]? with
   |none=>l++[x]
   |some y=>if X4x y x then l.set (cnt l x) (Xn8 y x) else l.take (cnt l x)++x::l.drop (cnt l x)):=by
 induction l with
 |nil=>rfl
 |cons z l ih =>
  rw[List.pairwise_cons] at hs;unfold Xo1;by_cases hz:ltE z x
  ·have hc:cnt (z::l) x=cnt l x+1:=by unfold cnt;simp_all
   grind
  ·have hc:cnt (z::l) x=0:=by unfold cnt;simp_all
   grind
def putF (l:List X3) (x:X3):Option (List X3×Int) :=
 (Xl l x).bind λv1393=>bif (!v1393.2) then (bif (v1393.1==(List.length l:Int)) then (((X5n l v1393.1 (List.length l:Int)).bind λm1405=>bif (List.isEmpty m1405) then ((X1c (List.length (l++[x])) 88).bind λu1408=>some ()) else ((X1c (List.length (l++[x])) 88).bind λu1410=>some ()):Option (Unit)).bind λ_=>some ((l++[x]),0)) else ((Xwx l v1393.1 x 88).bind λm1413=>some (m1413,0))) else ((getI l v1393.1).bind λe1415=>((X20 e1415.Values.e0 x.Values.e0).bind λv1430=>bif (v1430.2 != (0:Int)) then (some (l,v1430.2)) else ((X20 (((X3.mk e1415.Key e1415.Span (V2.mk v1430.1 e1415.Values.e1)).Values).e1) x.Values.e1).bind λv1435=>bif (v1435.2 != (0:Int)) then (some ((List.set l (Int.toNat v1393.1) (X3.mk e1415.Key e1415.Span (V2.mk v1430.1 e1415.Values.e1))),v1435.2)) else (some ((List.set (List.set l (Int.toNat v1393.1) (X3.mk e1415.Key e1415.Span (V2.mk v1430.1 e1415.Values.e1))) (Int.toNat v1393.1) (X3.mk ((X3.mk e1415.Key e1415.Span (V2.mk v1430.1 e1415.Values.e1)).Key) ((X3.mk e1415.Key e1415.Span (V2.mk v1430.1 e1415.Values.e1)).Span) (V2.mk (((X3.mk e1415.Key e1415.Span (V2.mk v1430.1 e1415.Values.e1)).Values).e0) v1435.1))),0))):Option ((List X3)×Int)).bind λw1427=>some (w1427.1,w1427.2))
theorem X09s {l:List X3} {x:X3} (hs:l.Pairwise ltE) (hn:l.length<=10000) (hx:okA x.Values.e0/\okA x.Values.e1)
  (ho:∀ y∈l,X4x y x->okA y.Values.e0/\okA y.Values.e1/\y.Values.e0.Count+x.Values.e0.Count<=1073741824/\y.Values.e1.Count+x.Values.e1.Count<=1073741824):putF l x=some (Xo1 l x,0):=by
 unfold putF;rw[X0g3 hs om,Xzf hs];have hle:=X021 l x
 cases h:l[cnt l x]? with
 |none =>
  have hc:cnt l x=l.length:=by
   grind
  have hsl:X5n l (l.length:Int) (l.length:Int)=some []:=by simp[X5n]
  simp only[Yo,Bool.not_false,cond_true,hc,beq_self_eq_true,hsl];rw[X3q (by simp;omega)];rfl
 |some y =>
  have hlt:cnt l x<l.length:=(Ys.1 h).1;simp only[Yo];by_cases hk:X4x y x
  ·obtain⟨a1,a2,a3,a4⟩:=ho y (Yg h) hk;simp only[hk,decide_true,Bool.not_true,cond_false,X2r,h,Yo,X3r a1 hx.1 a3,X3r a2 hx.2 a4,bne_self_eq_false,if_true,Int.toNat_natCast,List.set_set];rfl
  ·have hne:((cnt l x:Int)==(l.length:Int))=false:=by simp;omega
   have hi:Xwx l (cnt l x:Int) x 88=some (l.take (cnt l x)++x::l.drop (cnt l x)):=by
    unfold Xwx;grind
   grind
theorem Xnz {l:List X3} {x:X3} (hs:l.Pairwise ltE) (e:X3) :
  e∈Xo1 l x↔(e∈l/\¬ X4x e x)\/(∃ y∈l,X4x y x/\e=Xn8 y x)\/((∀ y∈l,¬ X4x y x)/\e=x):=by
 induction l with
 |nil=>simp[Xo1]
 |cons z l ih =>
  rw[List.pairwise_cons] at hs;unfold Xo1;by_cases hz:ltE z x
  ·have hnz:¬ X4x z x:=λh=>Xac h hz
   grind
  ·rw[if_neg hz];have hno:∀ y∈l,¬ (X4x z x/\X4x y x):=λy hy ⟨h1,h2⟩=>by
    have:=hs.1 y hy;exact Xac (a:=y) (b:=y) ⟨rfl,rfl⟩ (by rw[Xdr (c:=y) h1] at this;grind [Xdr])
   by_cases hk:X4x z x
   ·grind
   ·rw[if_neg hk]
    grind [Xkn,absurd,X4x,Xkm,Xac,Xdr]
theorem Xsk (y x:X3):X4x (Xn8 y x) y:=⟨rfl,rfl⟩
theorem Xkb {l:List X3} {x:X3} (hs:l.Pairwise ltE):(Xo1 l x).Pairwise ltE:=by
 induction l with
 |nil=>exact List.pairwise_singleton _ _
 |cons z l ih =>
  have hs0:=hs;rw[List.pairwise_cons] at hs;unfold Xo1;by_cases hz:ltE z x
  ·rw[if_pos hz,List.pairwise_cons]
   grind [Xnz,sameK_ltE,Xsk]
  ·rw[if_neg hz];by_cases hk:X4x z x
   ·rw[if_pos hk,List.pairwise_cons];assumption
   ·rw[if_neg hk,List.pairwise_cons]
    grind [Xkn,absurd,Xkm]
theorem Xo0 (l:List X3) (x:X3):(Xo1 l x).length<=l.length+1:=by
 induction l with
 |nil=>simp[Xo1]
 |cons z l ih =>
  grind [Xo1]
end Go.D


namespace Go.D
def Xe6:X0z:=⟨0,0,0,0⟩
def ofA (v:Int):X0z:=⟨1,v,v,v⟩
theorem Xqd (v:Int):okA (ofA v):=.inr (.inl ⟨rfl,rfl,rfl⟩)
theorem Xnm:okA Xe6:=.inl ⟨rfl,rfl⟩
theorem X02r {a b:X0z} (h1:a.Count=b.Count) (h2:a.Sum=b.Sum) (h3:a.Min=b.Min) (h4:a.Max=b.Max):a=b:=by cases a;simp_all
theorem Xob (a:X0z):X49 Xe6 a=a:=by rfl
theorem Xja {a:X0z} (h:okA a):X49 a Xe6=a:=by
 unfold X49;by_cases h0:a.Count=0
 ·rw[if_pos h0];rcases h with ⟨_,h⟩|⟨h,_⟩|⟨h,_⟩
  ·exact h.symm
  ·omega
  ·omega
 ·rw[if_neg h0,if_pos (show Xe6.Count=0 from rfl)]
theorem Xws {a b:X0z} (ha:okA a) (hb:okA b):X49 a b=X49 b a:=by
 by_cases h1:a.Count=0
 ·have:a=Xe6:=by
   rcases ha with ⟨_,h⟩|⟨h,_⟩|⟨h,_⟩
   ·exact h
   ·omega
   ·omega
  rw[this,Xob,Xja hb]
 ·by_cases h2:b.Count=0
  ·have:b=Xe6:=by
    rcases hb with ⟨_,h⟩|⟨h,_⟩|⟨h,_⟩
    ·exact h
    ·omega
    ·omega
   rw[this,Xob,Xja ha]
  ·unfold X49
   grind
theorem Xf2 {a b c:X0z} (ha:0<=a.Count) (hb:0<=b.Count) (hc:0<=c.Count):X49 (X49 a b) c=X49 a (X49 b c):=by
 by_cases h1:a.Count=0
 ·simp_all [X49,if_pos]
 ·by_cases h2:b.Count=0
  ·simp_all [X49,if_neg,if_pos]
  ·by_cases h3:c.Count=0
   ·have e:∀ x:X0z,x.Count≠0->X49 x c=x:=λx hx=>by unfold X49;grind
    have hab:(X49 a b).Count≠0:=by unfold X49;grind
    grind
   ·have e:∀ x y:X0z,x.Count≠0->y.Count≠0->X49 x y=⟨x.Count+y.Count,IntKind.i64.wrap (x.Sum+y.Sum),if y.Min<x.Min then y.Min else x.Min,if y.Max>x.Max then y.Max else x.Max⟩:=λx y hx hy=>by unfold X49;grind
    rw[e a b h1 h2,e b c h2 h3,e _ c (by grind) h3,e a _ h1 (by grind)]
    grind [X02r,X0d3,X0d2,Int.add_assoc]
def Xe5 (l:List Int):X0z:=l.foldl (λa v=>X49 a (ofA v)) Xe6
theorem Xdn (l:List Int) (v:Int):Xe5 (l++[v])=X49 (Xe5 l) (ofA v):=by unfold Xe5;grind
theorem Xpk:Xe5 []=Xe6:=rfl
theorem Xe4 (v:Int):Xe5 [v]=ofA v:=Xob _
theorem X3z:∀ (l:List Int),(Xe5 l).Count=l.length:=by
 have key:∀ (l:List Int) (a:X0z),0<=a.Count->(l.foldl (λa v=>X49 a (ofA v)) a).Count=a.Count+l.length:=by
  intro l
  induction l with
  |nil=>grind
  |cons v l ih =>
   intro a ha;have h1:(X49 a (ofA v)).Count=a.Count+1:=by
    unfold X49;by_cases h:a.Count=0
    ·rw[if_pos h,h];rfl
    ·rw[if_neg h,if_neg (by show ¬ (1:Int)=0;omega)];rfl
   grind
 simp_all [Xe5,Xe6,Int.le_refl]
theorem Xpj:∀ {l:List Int},l.length<=1073741824->okA (Xe5 l):=by
 have key:∀ (n:Nat) (l:List Int),l.length=n->n<=1073741824->okA (Xe5 l):=by
  intro n
  induction n with
  |zero=>intro l hl _;rw[List.eq_nil_of_length_eq_zero hl];exact Xnm
  |succ n ih =>
   intro l hl hn;have hne:l≠[]:=λh=>by grind
   have hd:l.dropLast.length=n:=by grind
   rw[<-List.dropLast_concat_getLast hne,Xdn];refine X05c (ih _ hd om) (Xqd _) ?_;rw[X3z,hd];show(n:Int)+1<=_;omega
 grind
theorem X65:∀ (b a:List Int),Xe5 (a++b)=X49 (Xe5 a) (Xe5 b):=by
 have key:∀ (n:Nat) (b a:List Int),b.length=n->Xe5 (a++b)=X49 (Xe5 a) (Xe5 b):=by
  intro n
  induction n with
  |zero =>
   intro b a hb;rw[List.eq_nil_of_length_eq_zero hb,List.append_nil,Xpk];by_cases h0:(Xe5 a).Count=0
   ·have:a=[]:=List.eq_nil_of_length_eq_zero (by rw[X3z] at h0;omega);rw[this];rfl
   ·unfold X49;rw[if_neg h0,if_pos (show Xe6.Count=0 from rfl)]
  |succ n ih =>
   intro b a hb;have hne:b≠[]:=λh=>by grind
   have hd:b.dropLast.length=n:=by grind
   rw[<-List.dropLast_concat_getLast hne,<-List.append_assoc,Xdn,Xdn,ih _ _ hd];exact Xf2 (by rw[X3z];omega) (by rw[X3z];omega) (by show(0:Int)<=1;decide)
 grind
theorem Xre {a b:List Int} (h:a.Perm b):a.length<=1073741824->Xe5 a=Xe5 b:=by
 induction h with
 |nil=>intro _;rfl
 |@cons x l1 l2 h ih =>
  intro hl;have:=ih (by grind);rw[show x::l1=[x]++l1 from rfl,show x::l2=[x]++l2 from rfl,X65,X65,this]
 |swap x y l =>
  intro hl;rw[show y::x::l=[y]++([x]++l) from rfl,show x::y::l=[x]++([y]++l) from rfl,X65,X65,X65,X65,Xe4,Xe4];rw[<-Xf2 (by show(0:Int)<=1;decide) (by show(0:Int)<=1;decide) (by rw[X3z];omega),Xws (Xqd y) (Xqd x),Xf2 (by show(0:Int)<=1;decide) (by show(0:Int)<=1;decide) (by rw[X3z];omega)]
 |trans h1 _ ih1 ih2=>intro hl;rw[ih1 hl,ih2 (by rw[<-h1.length_eq];exact hl)]
abbrev Pu:=X9×Int
def inS (s:X0s) (t:Int):Prop:=s.Start<=t/\t<s.End
instance (s:X0s) (t:Int):Decidable (inS s t):=by unfold inS;infer_instance
def vals (L:List Pu) (k:Int) (s:X0s) (side:Int):List Int:=(L.filter λp=>decide (p.1.Key=k/\inS s p.1.Time/\p.2=side)).map λp=>p.1.Value
def X9d (L:List Pu) (k t:Int):Prop:=∃ p∈L,p.1.Key=k/\p.1.Time=t
def Xqu (size every t:Int) (s:X0s):Prop:=s.Start % every=0/\s.End=s.Start+size/\inS s t
def cov (size:Int) (T:Int->Prop) (x:Int):Prop:=∃ t,T t/\2*t<x/\x<2*(t+size)
def Xk2 (size:Int) (T:Int->Prop) (s:X0s):Prop:=s.Start<s.End/\(∀ x,2*s.Start<x->x<2*s.End->cov size T x)/\¬ cov size T (2*s.Start)/\¬ cov size T (2*s.End)
def Xdg (w:Xn):Int:=if w.Kind=1 then w.Size else w.Every
def Xcq (w:Xn) (T:Int->Prop) (s:X0s):Prop:=if w.Kind=3 then Xk2 w.Size T s else ∃ t,T t/\Xqu w.Size (Xdg w) t s
def Xgd (L:List Pu) (k:Int) (s:X0s):V2 X0z:=⟨Xe5 (vals L k s 0),Xe5 (vals L k s 1)⟩
def Xts (w:Xn) (L:List Pu) (e:X3):Prop:=Xcq w (X9d L e.Key) e.Span/\e.Values=Xgd L e.Key e.Span
structure X7y (w:Xn) (L:List Pu) (es:List X3):Prop where
 sorted:es.Pairwise ltE
 mem:∀ e,e∈es↔Xts w L e
 cover:w.Kind=3->∀ k t,X9d L k t->∃ e∈es,e.Key=k/\e.Span.Start<=t/\t+w.Size<=e.Span.End
theorem Xvv:∀ {a b:List X3},a.Pairwise ltE->b.Pairwise ltE->(∀ e,e∈a↔e∈b)->a=b:=by
 intro a
 induction a with
 |nil =>
  intro b _ _ h
  cases b with
  |nil=>rfl
  |cons y b=>grind [absurd,List.mem_cons_self]
 |cons x a ih =>
  intro b ha hb h
  cases b with
  |nil=>grind
  |cons y b =>
   grind [List.pairwise_cons,List.mem_cons_self,absurd,X003,List.mem_cons_of_mem,Xna]
theorem X7y.unique {w:Xn} {L:List Pu} {a b:List X3} (ha:X7y w L a) (hb:X7y w L b):a=b:=Xvv ha.sorted hb.sorted λe=>by rw[ha.mem,hb.mem]
theorem Xnq (L:List Pu) (k:Int) (s:X0s) (side:Int):(vals L k s side).length<=L.length:=by grind [vals,List.length_map,List.length_filter_le]
end Go.D


namespace Go.D
theorem Xcr {t size:Int} (ht:okT t) (h1:1<=size) (h2:size<=1073741824):Xb4 t size=some (⟨t / size*size,t / size*size+size⟩,0):=by
 obtain⟨t1,t2⟩:=ht;have e1:decide (size<1)=false:=by simp;omega
 have e2:decide (size>1073741824)=false:=by simp;omega
 have e3:decide (t < -1099511627776)=false:=by simp;omega
 have e4:decide (t>1099511627776)=false:=by simp;omega
 have hm:=Int.mul_ediv_add_emod t size;have hm1:=Int.emod_nonneg t (show size≠0 by omega);have hm2:=Int.emod_lt_of_pos t (show 0<size by omega);have q1 : -1099511627776<=t / size:=by
  rcases ltge (t / size) (-1099511627776) with h|h
  ·exfalso;have:size*(t / size)<=size*(-1099511627777):=Int.mul_le_mul_of_nonneg_left om om;omega
  ·exact h
 have q2:t / size<=1099511627776:=by
  rcases ltge 1099511627776 (t / size) with h|h
  ·exfalso;have:size*1099511627777<=size*(t / size):=Int.mul_le_mul_of_nonneg_left om om;omega
  ·exact h
 have hn:X6j t size=some (t / size,0):=by
  simp only[X6j,Xaa,e1,e2,e3,e4,cond_false,Yo,bne_self_eq_false];have hd:X01p size=some ():=by unfold X01p;grind
  rw[hd,Yo];have htm:=Int.tmod_add_mul_tdiv t size;by_cases hneg:Int.tmod t size<0
  ·have e5:decide (Int.tmod t size<0)=true:=by simp[hneg]
   rw[e5,cond_true,Yo];have hq:Int.tdiv t size - 1=t / size:=by
    grind
   grind [Int.tdiv,X05]
  ·have e5:decide (Int.tmod t size<0)=false:=by simp;omega
   rw[e5,cond_false,Yo];have hq:Int.tdiv t size=t / size:=by
    grind
   rw[hq,X05 om om]
 simp only[Xb4,hn,Yo,bne_self_eq_false,cond_false]
 grind [Int.mul_comm,X05,Int.add_mul]
def Xcf (t size every:Int):Nat->Int->List X0s
 |0,_=>[]
 |K+1,s=>if s+size>t then ⟨s,s+size⟩::Xcf t size every K (s - every) else []
theorem X04a {t size every:Int} (ht:okT t) (h1:1<=every) (h2:every<=size) (h3:size<=1073741824):∀ (K f:Nat) (acc:List X0s) (s:Int),s<=t -> -1200000000000+K*1073741824<=s->s+size - t<=K*every->K<f->acc.length+K<=1000000 ->
  X51 t size every f acc s=some (.x0 (acc++Xcf t size every K s)):=by
 obtain⟨t1,t2⟩:=ht;intro K
 induction K with
 |zero =>
  intro f acc s hs hl hK hf ha
  cases f with
  |zero=>omega
  |succ f =>
   rw[X51];simp only[Int.natCast_zero,Int.zero_mul] at hK hl;have:decide (IntKind.i64.wrap (s+size)>t)=false:=by grind [X05]
   rw[this,cond_false];simp[Xcf]
 |succ K ih =>
  intro f acc s hs hl hK hf ha
  cases f with
  |zero=>omega
  |succ f =>
   rw[X51];have e0:((K+1:Nat):Int)*every=K*every+every:=by grind
   have e00:((K+1:Nat):Int)*1073741824=K*1073741824+1073741824:=by omega
   have e1:IntKind.i64.wrap (s+size)=s+size:=X05 om om;rw[e1];by_cases hgt:s+size>t
   ·have:decide (s+size>t)=true:=by grind
    rw[this,cond_true,X3q (by simp;omega),Yo];have e2:IntKind.i64.wrap (s - every)=s - every:=X05 om om;rw[e2,ih f _ _ om om om om (by simp;omega)];rw[Xcf,if_pos hgt];simp
   ·have:decide (s+size>t)=false:=by grind
    rw[this,cond_false,Xcf,if_neg hgt];simp
theorem Xs2 (back:List X0s) (hb:back.length<=1000):∀ (k f:Nat) (acc:List X0s),k<=back.length->k<f->acc.length+k<=1000000 ->
  X35 back f acc ((k:Int) - 1)=some (.x0 (acc++(back.take k).reverse) back):=by
 intro k
 induction k with
 |zero =>
  intro f acc _ hf _
  cases f with
  |zero=>omega
  |succ f =>
   rw[X35];simp
 |succ k ih =>
  intro f acc hk hf ha
  cases f with
  |zero=>omega
  |succ f =>
   rw[X35];have e1:(((k+1:Nat):Int) - 1)=(k:Int):=by omega
   rw[e1];have e2:decide ((k:Int) >= 0)=true:=by simp
   rw[e2,cond_true,X2r,Ye om,Yo,X3q (by simp;omega),Yo];rw[X05 om om,ih f _ om om (by simp;omega)];rw[List.take_add_one,Ye om]
   grind
theorem Xrd (t size every:Int):∀ (K:Nat) (s:Int),(Xcf t size every K s).length<=K:=by
 intro K
 induction K with
 |zero=>intro s;simp[Xcf]
 |succ K ih=>grind [Xcf]
theorem X06u (t size every:Int) (h:1<=every):∀ (K:Nat) (s:Int),∀ x∈Xcf t size every K s,x.Start<=s:=by
 intro K
 induction K with
 |zero=>intro s x hx;trivial
 |succ K ih =>
  intro s x hx;rw[Xcf] at hx
  grind
theorem Xu1 (t size every:Int) (h:1<=every):∀ (K:Nat) (s:Int),(Xcf t size every K s).Nodup:=by
 intro K
 induction K with
 |zero=>intro s;simp[Xcf]
 |succ K ih =>
  intro s;rw[Xcf];split
  ·rw[List.nodup_cons];exact⟨λhx=>by have:=X06u t size every h K _ _ hx;grind,ih _⟩
  grind
theorem X02j (t size every:Int):∀ (K:Nat) (s:Int),s+size - t<=K*every->0<=every->∀ x:X0s,x∈Xcf t size every K s↔∃ j:Nat,x.Start=s - j*every/\x.End=x.Start+size/\t<x.End:=by
 intro K
 induction K with
 |zero =>
  intro s hK he x;simp only[Int.natCast_zero,Int.zero_mul] at hK;simp only[Xcf,List.not_mem_nil,false_iff,not_exists,not_and];intro j h1 h2;have:(0:Int)<=j*every:=Int.mul_nonneg om he;omega
 |succ K ih =>
  intro s hK he x;have e0:((K+1:Nat):Int)*every=K*every+every:=by grind
  rw[Xcf];by_cases hgt:s+size>t
  ·rw[if_pos hgt,List.mem_cons,ih (s - every) om he x];constructor
   ·rintro(rfl|⟨j,h1,h2,h3⟩)
    ·exact⟨0,by simp,rfl,hgt⟩
    ·refine⟨j+1,?_,h2,h3⟩
     grind
   ·rintro⟨j,h1,h2,h3⟩
    cases j with
    |zero=>left;apply Xj2;simp at h1;exact h1;simp at h1;show x.End=s+size;omega
    |succ j =>
     grind
  ·rw[if_neg hgt];simp only[List.not_mem_nil,false_iff,not_exists,not_and];intro j h1 h2;have:(0:Int)<=j*every:=Int.mul_nonneg om he;omega
theorem Xqt {t size every:Int} (h1:1<=every) (x:X0s):Xqu size every t x↔∃ j:Nat,x.Start=t / every*every - j*every/\x.End=x.Start+size/\t<x.End:=by
 have hm:=Int.mul_ediv_add_emod t every;have hm1:=Int.emod_nonneg t (show every≠0 by omega);have hm2:=Int.emod_lt_of_pos t (show 0<every by omega);have hc:t / every*every=every*(t / every):=Int.mul_comm _ _;unfold Xqu inS;constructor
 ·rintro⟨a1,a2,a3,a4⟩;have hx:=Int.mul_ediv_add_emod x.Start every;rw[a1,Int.add_zero] at hx;have hle:x.Start / every<=t / every:=by
   rcases ltge (t / every) (x.Start / every) with h|h
   ·exfalso;have:every*(t / every+1)<=every*(x.Start / every):=Int.mul_le_mul_of_nonneg_left om om
    grind
   ·exact h
  refine⟨(t / every - x.Start / every).toNat,?_,a2,a4⟩
  grind
 ·rintro⟨j,a1,a2,a3⟩;have hj:(0:Int)<=j*every:=Int.mul_nonneg om om;refine⟨?_,a2,by omega,a3⟩
  simp_all
theorem Xjx {w:Xn} {t:Int} (hw:okW w) (hk:w.Kind≠3) (ht:okT t):∃ W,Xfi w t=some (W,0)/\W.length<=16/\W.Nodup/\∀ s,s∈W↔Xqu w.Size (Xdg w) t s:=by
 have hcw:=X3x hw;obtain⟨w1,w2,w3⟩:=hw;have ht':=ht;obtain⟨t1,t2⟩:=ht;unfold Xfi;rw[hcw,Yo];rcases w3 with ⟨k,a1,a2,a3⟩|⟨k|k,a⟩
 ·have e1:(w.Kind==1)=false:=by simp[k]
  have e2:(w.Kind==2)=true:=by simp[k]
  have e3:Xdg w=w.Every:=by unfold Xdg;grind
  simp only[bne_self_eq_false,cond_false,e1,e2,cond_true];have hm:=Int.mul_ediv_add_emod t w.Every;have hm1:=Int.emod_nonneg t (show w.Every≠0 by omega);have hm2:=Int.emod_lt_of_pos t (show 0<w.Every by omega);have hc:t / w.Every*w.Every=w.Every*(t / w.Every):=Int.mul_comm _ _;have hall:Xct t w.Size w.Every=some ((Xcf t w.Size w.Every 16 (t / w.Every*w.Every)).reverse,0):=by
   unfold Xct;have b1:decide ((if w.Every<w.Size then w.Every else w.Size)<1)=false:=by grind
   have b2:decide (w.Size>1073741824)=false:=by simp;omega
   have b3:decide (w.Every>w.Size)=false:=by simp;omega
   have b4:decide (w.Size>IntKind.i64.wrap (16*w.Every))=false:=by grind [X05]
   simp only[b1,b2,b3,b4,cond_false,Xcr ht' a1 om,Yo,bne_self_eq_false];have hL:=X04a ht' a1 a2 w2 16 FU [] (t / w.Every*w.Every) om om om (by trivial) (by simp);rw[hL,Yo];simp only[List.nil_append];have hlen:=Xrd t w.Size w.Every 16 (t / w.Every*w.Every);rw[X05 om om];have hR:=Xs2 (Xcf t w.Size w.Every 16 (t / w.Every*w.Every)) om (Xcf t w.Size w.Every 16 (t / w.Every*w.Every)).length FU [] (Nat.le_refl _) (by unfold FU;omega) (by simp;omega)
   grind
  grind [List.length_reverse,Xrd,Xzp,Xu1,Xqt,X02j]
 ·have e1:(w.Kind==1)=true:=by simp[k]
  have e3:Xdg w=w.Size:=by unfold Xdg;rw[if_pos k]
  simp only[bne_self_eq_false,cond_false,e1,cond_true,Xcr ht' w1 w2,Yo];refine⟨_,rfl,by simp,by simp,λs=>?_⟩;rw[List.mem_singleton,e3,Xqt w1];have hm:=Int.mul_ediv_add_emod t w.Size;have hm1:=Int.emod_nonneg t (show w.Size≠0 by omega);have hm2:=Int.emod_lt_of_pos t (show 0<w.Size by omega);have hc:t / w.Size*w.Size=w.Size*(t / w.Size):=Int.mul_comm _ _;constructor
  ·rintro rfl;exact⟨0,by simp,rfl,by grind⟩
  ·rintro⟨j,h1,h2,h3⟩;have hj:(j:Int)=0:=by
    rcases ltge 0 (j:Int) with h|h
    ·exfalso;have:(1:Int)*w.Size<=j*w.Size:=Int.mul_le_mul_of_nonneg_right om om;omega
    ·omega
   rw[hj,Int.zero_mul] at h1;exact Xj2 (by grind) (by grind)
 grind
end Go.D


namespace Go.D
def X6y (p:Pu) (s:X0s):X3:=⟨p.1.Key,s,⟨if p.2=0 then ofA p.1.Value else Xe6,if p.2=1 then ofA p.1.Value else Xe6⟩⟩
theorem X6i (L:List Pu) (p:Pu) (k:Int) (s:X0s) (side:Int):vals (L++[p]) k s side=vals L k s side++(if p.1.Key=k/\inS s p.1.Time/\p.2=side then [p.1.Value] else []):=by
 unfold vals
 grind
theorem Xb5 (L:List Pu) (p:Pu) (k t:Int):X9d (L++[p]) k t↔X9d L k t\/(p.1.Key=k/\p.1.Time=t):=by
 simp_all [X9d,List.mem_append,List.mem_singleton,List.mem_append_left]
structure Xyc (w:Xn) (L:List Pu):Prop where
 time:∀ p∈L,okT p.1.Time
 side:∀ p∈L,p.2=0\/p.2=1
 len:L.length<=240
theorem Xyc.init {w:Xn} {L:List Pu} {p:Pu} (h:Xyc w (L++[p])):Xyc w L:=⟨λq hq=>h.time q (List.mem_append_left _ hq),λq hq=>h.side q (List.mem_append_left _ hq),by have:=h.len;grind⟩
theorem Xpw {L:List Pu} {k:Int} {s:X0s} (h:∀ t,X9d L k t->¬ inS s t) (side:Int):vals L k s side=[]:=by
 unfold vals;rw[List.map_eq_nil_iff,List.filter_eq_nil_iff];intro p hp hc;simp only[decide_eq_true_eq] at hc;exact h p.1.Time ⟨p,hp,hc.1,rfl⟩ hc.2.1
theorem Xyl {L:List Pu} {k t:Int} {s:X0s} (hs:∀ p∈L,p.2=0\/p.2=1) (h:X9d L k t) (hi:inS s t):0<(vals L k s 0).length+(vals L k s 1).length:=by
 obtain⟨p,hp,hk,ht⟩:=h;rcases hs p hp with h0|h0
 ·have:p.1.Value∈vals L k s 0:=List.mem_map.2 ⟨p,List.mem_filter.2 ⟨hp,by grind⟩,rfl⟩
  grind
 ·have:p.1.Value∈vals L k s 1:=List.mem_map.2 ⟨p,List.mem_filter.2 ⟨hp,by grind⟩,rfl⟩
  grind
structure Mid (w:Xn) (L:List Pu) (p:Pu) (done:X0s->Prop) (es:List X3):Prop where
 sorted:es.Pairwise ltE
 mem:∀ e,e∈es↔(e.Key=p.1.Key/\done e.Span/\e.Values=Xgd (L++[p]) e.Key e.Span)\/(¬ (e.Key=p.1.Key/\done e.Span)/\Xts w L e)
theorem X01l {L:List Pu} {p:Pu} {s:X0s} (h:∀ t,X9d L p.1.Key t->¬ inS s t) (hi:inS s p.1.Time):Xgd (L++[p]) p.1.Key s=(X6y p s).Values:=by
 unfold Xgd X6y;rw[X6i,X6i,Xpw h,Xpw h];simp only[List.nil_append];congr 1
 ·by_cases h0:p.2=0
  ·rw[if_pos ⟨trivial,hi,h0⟩,if_pos h0,Xe4]
  ·rw[if_neg (λhc=>h0 hc.2.2),if_neg h0,Xpk]
 ·by_cases h0:p.2=1
  ·rw[if_pos ⟨trivial,hi,h0⟩,if_pos h0,Xe4]
  ·rw[if_neg (λhc=>h0 hc.2.2),if_neg h0,Xpk]
theorem Xxq {L:List Pu} {p:Pu} {s:X0s} (hl:L.length<=1000000) (hi:inS s p.1.Time) :
  Xgd (L++[p]) p.1.Key s=⟨X49 (Xgd L p.1.Key s).e0 (X6y p s).Values.e0,X49 (Xgd L p.1.Key s).e1 (X6y p s).Values.e1⟩:=by
 have ok:∀ side,okA (Xe5 (vals L p.1.Key s side)):=λside=>Xpj (Nat.le_trans (Xnq ..) om);unfold Xgd X6y;rw[X6i,X6i];dsimp only;congr 1
 ·by_cases h0:p.2=0
  ·rw[if_pos ⟨rfl,hi,h0⟩,if_pos h0,Xdn]
  ·rw[if_neg (λhc=>h0 hc.2.2),if_neg h0,List.append_nil,Xja (ok 0)]
 ·by_cases h0:p.2=1
  ·rw[if_pos ⟨rfl,hi,h0⟩,if_pos h0,Xdn]
  ·rw[if_neg (λhc=>h0 hc.2.2),if_neg h0,List.append_nil,Xja (ok 1)]
theorem Mid.step {w:Xn} {L:List Pu} {p:Pu} {done:X0s->Prop} {es:List X3} {s:X0s} (hk:w.Kind≠3) (hl:L.length<=1000000) (m:Mid w L p done es) (hs:¬ done s) (hi:Xqu w.Size (Xdg w) p.1.Time s) :
  Mid w L p (λx=>done x\/x=s) (Xo1 es (X6y p s)):=by
 have hin:inS s p.1.Time:=hi.2.2;have hkey:∀ e:X3,X4x e (X6y p s)↔e.Key=p.1.Key/\e.Span=s:=λe=>Iff.rfl;refine⟨Xkb m.sorted,λe=>?_⟩;rw[Xnz m.sorted];by_cases he:X4x e (X6y p s)
 ·have he2:=(hkey e).1 he;have hno:∀ y∈es,X4x y (X6y p s)->y=⟨p.1.Key,s,Xgd L p.1.Key s⟩/\Xcq w (X9d L p.1.Key) s:=by
   intro y hy hsy;have hy2:=(hkey y).1 hsy;rcases(m.mem y).1 hy with ⟨_,h2,_⟩|⟨_,h2,h3⟩
   ·grind
   ·rw[hy2.1,hy2.2] at h3 h2;refine⟨?_,h2⟩;cases y;grind
  have hval:e.Values=Xgd (L++[p]) e.Key e.Span↔((e∈es/\¬ X4x e (X6y p s))\/(∃ y∈es,X4x y (X6y p s)/\e=Xn8 y (X6y p s))\/((∀ y∈es,¬ X4x y (X6y p s))/\e=X6y p s)):=by
   rw[he2.1,he2.2];by_cases hex:∃ y∈es,X4x y (X6y p s)
   ·obtain⟨y,hy,hsy⟩:=hex;obtain⟨hyv,hyw⟩:=hno y hy hsy;have hmg:Xn8 y (X6y p s)=⟨p.1.Key,s,Xgd (L++[p]) p.1.Key s⟩:=by rw[Xxq hl hin,hyv];rfl
    constructor
    ·intro hv;refine .inr (.inl ⟨y,hy,hsy,?_⟩);rw[hmg];cases e;grind
    grind
   ·have hex':∀ y∈es,¬ X4x y (X6y p s):=λy hy h=>hex ⟨y,hy,h⟩;have hnone:∀ t,X9d L p.1.Key t->¬ inS s t:=by
     intro t ht hst;have:(⟨p.1.Key,s,Xgd L p.1.Key s⟩:X3)∈es:=by
      rw[m.mem];refine .inr ⟨λh=>hs h.2,?_,rfl⟩;show Xcq w (X9d L p.1.Key) s;unfold Xcq;rw[if_neg hk];exact⟨t,ht,hi.1,hi.2.1,hst⟩
     grind
    have hvv:=X01l hnone hin;constructor
    ·intro hv;refine .inr (.inr ⟨hex',?_⟩);cases e;simp only at he2 hv;rw[he2.1,he2.2,hv,hvv];rfl
    grind
  grind
 ·have hne:¬ (e.Key=p.1.Key/\e.Span=s):=λh=>he ((hkey e).2 h);constructor
  ·rintro(⟨h1,_⟩|⟨y,hy,hsy,h⟩|⟨_,h⟩)
   ·rcases(m.mem e).1 h1 with ⟨a1,a2,a3⟩|⟨a1,a2⟩
    ·exact .inl ⟨a1,.inl a2,a3⟩
    ·exact .inr ⟨λh=>a1 ⟨h.1,h.2.resolve_right λhh=>hne ⟨h.1,hh⟩⟩,a2⟩
   ·exact absurd (by rw[h];exact⟨hsy.1,hsy.2⟩) he
   ·exact absurd (by rw[h];exact⟨rfl,rfl⟩) he
  ·rintro(⟨a1,a2,a3⟩|⟨a1,a2⟩)
   ·exact .inl ⟨(m.mem e).2 (.inl ⟨a1,a2.resolve_right λhh=>hne ⟨a1,hh⟩,a3⟩),he⟩
   ·exact .inl ⟨(m.mem e).2 (.inr ⟨λh=>a1 ⟨h.1,.inl h.2⟩,a2⟩),he⟩
theorem Mid.start {w:Xn} {L:List Pu} {p:Pu} {es:List X3} (c:X7y w L es):Mid w L p (λ_=>False) es:=by
 refine⟨c.sorted,λe=>?_⟩;rw[c.mem];simp
theorem Mid.end {w:Xn} {L:List Pu} {p:Pu} {es:List X3} {done:X0s->Prop} (hk:w.Kind≠3) (hd:∀ s,done s↔Xqu w.Size (Xdg w) p.1.Time s) (m:Mid w L p done es):X7y w (L++[p]) es:=by
 refine⟨m.sorted,λe=>?_,λh3=>absurd h3 hk⟩;rw[m.mem];unfold Xts Xcq;rw[if_neg hk,if_neg hk];by_cases he:e.Key=p.1.Key/\done e.Span
 ·grind [Xb5,absurd]
 ·have hv:Xgd (L++[p]) e.Key e.Span=Xgd L e.Key e.Span\/∀ t,X9d L e.Key t->¬ Xqu w.Size (Xdg w) t e.Span:=by
   by_cases hkk:p.1.Key=e.Key/\inS e.Span p.1.Time
   ·right;intro t _ hw;exact he ⟨hkk.1.symm,(hd _).2 ⟨hw.1,hw.2.1,hkk.2⟩⟩
   simp_all [Xgd,X6i,if_neg,List.append_nil]
  grind [absurd,Xb5]
end Go.D


namespace Go.D
theorem Xp9 {L:List Pu} (hl:L.length<=1000) (k:Int) (s:X0s):okA (Xgd L k s).e0/\okA (Xgd L k s).e1/\(Xgd L k s).e0.Count<=1000/\(Xgd L k s).e1.Count<=1000:=by
 have h0:=Xnq L k s 0;have h1:=Xnq L k s 1;refine⟨Xpj om,Xpj om,?_,?_⟩
 ·show(Xe5 _).Count<=1000;rw[X3z];omega
 ·show(Xe5 _).Count<=1000;rw[X3z];omega
theorem X0bf (p:Pu) (s:X0s):okA (X6y p s).Values.e0/\okA (X6y p s).Values.e1/\(X6y p s).Values.e0.Count<=1/\(X6y p s).Values.e1.Count<=1:=by
 unfold X6y;dsimp only;refine⟨?_,?_,?_,?_⟩
 ·grind [Xqd,Xnm]
 ·grind [Xqd,Xnm]
 ·split
  ·exact Int.le_refl _
  trivial
 ·split
  ·exact Int.le_refl _
  ·show(0:Int)<=1;decide
theorem Mid.vals {w:Xn} {L:List Pu} {p:Pu} {done:X0s->Prop} {es:List X3} (m:Mid w L p done es) (hl:L.length<=900) {e:X3} (he:e∈es):okA e.Values.e0/\okA e.Values.e1/\e.Values.e0.Count<=1000/\e.Values.e1.Count<=1000:=by
 rcases(m.mem e).1 he with ⟨_,_,h⟩|⟨_,_,h⟩
 ·rw[h];exact Xp9 (by simp;omega) _ _
 ·rw[h];exact Xp9 om _ _
theorem X0g8 {w:Xn} {L:List Pu} {p:Pu} (hk:w.Kind≠3) (hl:L.length<=900) (Y:List X0s):∀ (xs:List X0s) (k:Nat) (x0:X3) (l:List X3) (done:X0s->Prop),Mid w L p done l->xs.Nodup->(∀ s∈xs,¬ done s/\Xqu w.Size (Xdg w) p.1.Time s) ->
  x0.Key=p.1.Key->(∀ s,x0.Values=(X6y p s).Values)->l.length+xs.length<=9000->∃ l',X42 Y xs k x0 l=some (.x0 l')/\Mid w L p (λs=>done s\/s∈xs) l'/\l'.length<=l.length+xs.length:=by
 intro xs
 induction xs with
 |nil=>intro k x0 l done m _ _ _ _ _;exact⟨l,rfl,by simpa using m,by simp⟩
 |cons s xs ih =>
  intro k x0 l done m hnd hs hk0 hv0 hlen;rw[List.nodup_cons] at hnd;have hs0:=hs s List.mem_cons_self;have hx:(⟨x0.Key,s,x0.Values⟩:X3)=X6y p s:=by rw[hk0,hv0 s];rfl
  have er:=X0bf p s;have m2:=m.step hk om hs0.1 hs0.2;simp only[List.length_cons] at hlen;obtain⟨l',h1,h2,h3⟩:=ih (k+1) (X6y p s) (Xo1 l (X6y p s)) _ m2 hnd.2 (λx hxx=>⟨λh=>h.elim (hs x (List.mem_cons_of_mem _ hxx)).1 (λe=>hnd.1 (e▸hxx)),(hs x (List.mem_cons_of_mem _ hxx)).2⟩) rfl (λ_=>rfl) (by have:=Xo0 l (X6y p s);omega);refine⟨l',?_,⟨h2.sorted,λe=>?_⟩,by grind [Xo0,X6y,List.length_cons]⟩
  ·rw[X42];have key:∀ o,X42 Y xs (k+1) (X6y p s) (Xo1 l (X6y p s))=some o->((Xl l (X3.mk x0.Key s x0.Values)).bind λv1891=>bif (!v1891.2) then (bif (v1891.1==(List.length l:Int)) then (((X5n l v1891.1 (List.length l:Int)).bind λm1903=>bif (List.isEmpty m1903) then ((X1c (List.length (l++[(X3.mk x0.Key s x0.Values)])) 88).bind λu1906=>some ()) else ((X1c (List.length (l++[(X3.mk x0.Key s x0.Values)])) 88).bind λu1908=>some ()):Option (Unit)).bind λ_=>some ((X3.mk ((X3.mk x0.Key s x0.Values).Key) ((X3.mk x0.Key s x0.Values).Span) (V2.mk (((X3.mk x0.Key s x0.Values).Values).e0) (((X3.mk x0.Key s x0.Values).Values).e1))),(l++[(X3.mk x0.Key s x0.Values)]),0)) else ((Xwx l v1891.1 (X3.mk x0.Key s x0.Values) 88).bind λm1911=>some ((X3.mk x0.Key s x0.Values),m1911,0))) else ((getI l v1891.1).bind λe1913=>((X20 e1913.Values.e0 x0.Values.e0).bind λv1928=>bif (v1928.2 != (0:Int)) then (some (l,v1928.2)) else ((X20 (((X3.mk e1913.Key e1913.Span (V2.mk v1928.1 e1913.Values.e1)).Values).e1) x0.Values.e1).bind λv1933=>bif (v1933.2 != (0:Int)) then (some ((List.set l (Int.toNat v1891.1) (X3.mk e1913.Key e1913.Span (V2.mk v1928.1 e1913.Values.e1))),v1933.2)) else (some ((List.set (List.set l (Int.toNat v1891.1) (X3.mk e1913.Key e1913.Span (V2.mk v1928.1 e1913.Values.e1))) (Int.toNat v1891.1) (X3.mk ((X3.mk e1913.Key e1913.Span (V2.mk v1928.1 e1913.Values.e1)).Key) ((X3.mk e1913.Key e1913.Span (V2.mk v1928.1 e1913.Values.e1)).Span) (V2.mk (((X3.mk e1913.Key e1913.Span (V2.mk v1928.1 e1913.Values.e1)).Values).e0) v1933.1))),0))):Option ((List X3)×Int)).bind λw1925=>some ((X3.mk ((X3.mk x0.Key s x0.Values).Key) ((X3.mk x0.Key s x0.Values).Span) (V2.mk (((X3.mk x0.Key s x0.Values).Values).e0) (((X3.mk x0.Key s x0.Values).Values).e1))),w1925.1,w1925.2)):Option (X3×(List X3)×Int))=some (X6y p s,Xo1 l (X6y p s),0):=by
    intro o _;rw[X0g3 m.sorted om,Xzf m.sorted];have hle:=X021 l (X6y p s);have hval:x0.Values=(X6y p s).Values:=hv0 s;rw[hx,hval]
    cases h:l[cnt l (X6y p s)]? with
    |none =>
     have hc:cnt l (X6y p s)=l.length:=by grind
     have hsl:X5n l (l.length:Int) (l.length:Int)=some []:=by simp[X5n]
     simp only[Yo,Bool.not_false,cond_true,hc,beq_self_eq_true,hsl]
     grind [X3q]
    |some y =>
     have hlt:cnt l (X6y p s)<l.length:=(Ys.1 h).1;simp only[Yo];by_cases hkk:X4x y (X6y p s)
     ·obtain⟨a1,a2,a3,a4⟩:=m.vals hl (Yg h);simp only[hkk,decide_true,Bool.not_true,cond_false,X2r,h,Yo,X3r a1 er.1 om,X3r a2 er.2.1 om,bne_self_eq_false,if_true,Int.toNat_natCast,List.set_set];rfl
     ·have hne:((cnt l (X6y p s):Int)==(l.length:Int))=false:=by simp;omega
      have hi:Xwx l (cnt l (X6y p s):Int) (X6y p s) 88=some (l.take (cnt l (X6y p s))++X6y p s::l.drop (cnt l (X6y p s))):=by
       unfold Xwx;grind
      grind
   grind
  ·rw[h2.mem]
   grind
theorem Xll {w:Xn} {L:List Pu} {es:List X3} (hw:okW w) (hL:Xyc w L) (c:X7y w L es):∀ e∈es,okE e:=by
 intro e he;obtain⟨h1,h2⟩:=(c.mem e).1 he;have hlen:=hL.len;obtain⟨v1,v2,v3,v4⟩:=Xp9 (L:=L) om e.Key e.Span;rw[<-h2] at v1 v2 v3 v4;have hpos:∀ t,X9d L e.Key t->inS e.Span t->0<e.Values.e0.Count+e.Values.e1.Count:=by
  intro t ht hi;have:=Xyl hL.side ht hi;rw[h2];show 0<(Xe5 _).Count+(Xe5 _).Count;rw[X3z,X3z];omega
 have htime:∀ t,X9d L e.Key t->okT t:=by
  rintro t ⟨p,hp,_,rfl⟩;exact hL.time p hp
 obtain⟨w1,w2,w3⟩:=hw;unfold Xcq at h1;by_cases hk:w.Kind=3
 ·rw[if_pos hk] at h1;obtain⟨s1,s2,s3,s4⟩:=h1;obtain⟨t,ht,a1,a2⟩:=s2 (2*e.Span.Start+1) om om;have hts:t=e.Span.Start:=by
   have:¬ (2*t<2*e.Span.Start):=λh=>s3 ⟨t,ht,h,by omega⟩;omega
  obtain⟨t',ht',b1,b2⟩:=s2 (2*e.Span.End - 1) om om;have hte:t'+w.Size=e.Span.End:=by
   have:¬ (2*e.Span.End<2*(t'+w.Size)):=λh=>s4 ⟨t',ht',by omega,h⟩;omega
  have q1:=htime t ht;have q2:=htime t' ht';unfold okT at q1 q2;exact⟨by omega,s1,by omega,v1,v2,hpos t ht ⟨by omega,by omega⟩⟩
 ·rw[if_neg hk] at h1;obtain⟨t,ht,a1,a2,a3,a4⟩:=h1;have q1:=htime t ht;unfold okT at q1;exact⟨by omega,by omega,by omega,v1,v2,hpos t ht ⟨a3,a4⟩⟩
theorem Xjv {w:Xn} {L:List Pu} {p:Pu} {es:List X3} (hw:okW w) (hk:w.Kind≠3) (hL:Xyc w (L++[p])) (c:X7y w L es) (hn:es.length<=3900) :
  ∃ es',X84 es w p.1 p.2=some (es',0)/\X7y w (L++[p]) es'/\es'.length<=es.length+16:=by
 have ht:=hL.time p (by simp);have hsd:=hL.side p (by simp);have hll:=hL.init.len;obtain⟨W,hW,hWl,hWn,hWm⟩:=Xjx hw hk ht;obtain⟨l',h1,h2,h3⟩:=X0g8 (w:=w) (L:=L) (p:=p) hk om W W 0 (X6y p ⟨0,0⟩) es _ (Mid.start c) hWn (λs hs=>⟨λh=>h,(hWm s).1 hs⟩) rfl (λ_=>rfl) om;refine⟨l',?_,Mid.end hk (λs=>by grind) h2,by omega⟩;unfold X84;have e1:(bif (p.2 != 0) then (p.2 != 1) else false)=false:=by grind
 have e2:(bif (decide (p.1.Time<((-1099511627776):Int))) then true else (decide (p.1.Time>(1099511627776:Int))))=false:=by
  unfold okT at ht
  grind
 have e3:((Xa6 p.1.Value).bind λv14=>bif (p.2==(0:Int)) then (some (X3.mk p.1.Key (X0s.mk 0 0) (V2.mk v14 (X0z.mk 0 0 0 0)))) else (bif (p.2==(1:Int)) then (some (X3.mk p.1.Key (X0s.mk 0 0) (V2.mk (X0z.mk 0 0 0 0) v14))) else none):Option (X3))=some (X6y p ⟨0,0⟩):=by
  simp only[Xa6,Yo];rcases hsd with h|h
  ·simp[h,X6y,ofA,Xe6]
  ·simp[h,X6y,ofA,Xe6]
 have e4:(bif (List.isEmpty es) then (some es) else ((X1c (List.length es) 88).bind λu28=>some es):Option ((List X3)))=some es:=by
  grind [X3q,List.isEmpty]
 have e5:(w.Kind==3)=false:=by simp[hk]
 rw[Xao c.sorted (Xll hw hL.init c) om,Yo];simp only[bne_self_eq_false,cond_false,X3x hw,Yo,e1,e2];rw[e3,Yo,e4,Yo];simp only[e5,cond_false,hW,Yo,bne_self_eq_false];rw[X1w om,Yo,h1,Yo]
 grind
end Go.D


namespace Go.D
theorem Xuc {size:Int} {T:Int->Prop} {a b:X0s} (ha:Xk2 size T a) (hb:Xk2 size T b) (h1:a.Start<b.End) (h2:b.Start<a.End):a=b:=by
 obtain⟨a1,a2,a3,a4⟩:=ha;obtain⟨b1,b2,b3,b4⟩:=hb
 grind [Xj2,ltge,absurd]
theorem Xjg {size:Int} {T T':Int->Prop} (h:∀ t,T t->T' t) {x:Int} (c:cov size T x):cov size T' x:=by
 obtain⟨t,h1,h2⟩:=c;exact⟨t,h t h1,h2⟩
def X9b (L:List Pu) (k:Int) (M:List X3) (side:Int):List Int:=(L.filter λq=>decide (q.1.Key=k/\(∃ m∈M,inS m.Span q.1.Time)/\q.2=side)).map λq=>q.1.Value
def pv (p:Pu) (side:Int):List Int:=if p.2=side then [p.1.Value] else []
theorem X01a {α:Type} (a b:α->Bool):∀ (l:List α),(∀ q∈l,¬ (a q=true/\b q=true))->(l.filter λq=>a q||b q).Perm (l.filter a++l.filter b):=by
 intro l
 induction l with
 |nil=>intro _;simp
 |cons x l ih =>
  intro h;have ih':=ih λq hq=>h q (List.mem_cons_of_mem _ hq);have hx:=h x List.mem_cons_self
  cases ha:a x with
  |true =>
   have hb:b x=false:=by cases hb:b x with|true=>exact absurd ⟨ha,hb⟩ hx|false=>rfl
   rw[List.filter_cons_of_pos (by simp[ha]),List.filter_cons_of_pos ha,List.filter_cons_of_neg (by simp[hb])];exact ih'.cons x
  |false =>
   cases hb:b x with
   |true =>
    rw[List.filter_cons_of_pos (by simp[hb]),List.filter_cons_of_neg (by simp[ha]),List.filter_cons_of_pos hb];exact(ih'.cons x).trans List.perm_middle.symm
   |false =>
    rw[List.filter_cons_of_neg (by simp[ha,hb]),List.filter_cons_of_neg (by simp[ha]),List.filter_cons_of_neg (by simp[hb])];exact ih'
theorem Xrw {L:List Pu} {k:Int} {M:List X3} {y:X3} {side:Int} (h:∀ q∈L,q.1.Key=k->inS y.Span q.1.Time->¬ ∃ m∈M,inS m.Span q.1.Time) :
  (X9b L k (y::M) side).Perm (X9b L k M side++vals L k y.Span side):=by
 unfold X9b vals;rw[<-List.map_append];refine List.Perm.map _ ?_
 have h1:=X01a (λq:Pu=>decide (q.1.Key=k/\(∃ m∈M,inS m.Span q.1.Time)/\q.2=side)) (λq=>decide (q.1.Key=k/\inS y.Span q.1.Time/\q.2=side)) L (λq hq hc=>by
  simp only[decide_eq_true_eq] at hc
  exact h q hq hc.1.1 hc.2.2.1 hc.1.2.1)
 refine List.Perm.trans (List.Perm.of_eq ?_) h1;refine List.filter_congr λq _=>?_;rw[Bool.eq_iff_iff];simp only[decide_eq_true_eq,Bool.or_eq_true,List.mem_cons];constructor
 ·rintro⟨a1,⟨m,hm|hm,hi⟩,a2⟩
  ·exact .inr ⟨a1,by rw[<-hm];exact hi,a2⟩
  ·exact .inl ⟨a1,⟨m,hm,hi⟩,a2⟩
 ·rintro(⟨a1,⟨m,hm,hi⟩,a2⟩|⟨a1,hi,a2⟩)
  ·exact⟨a1,⟨m,.inr hm,hi⟩,a2⟩
  ·exact⟨a1,⟨y,.inl rfl,hi⟩,a2⟩
theorem Xb3 (L:List Pu) (k:Int) (M:List X3) (side:Int):(X9b L k M side).length<=L.length:=by unfold X9b;rw[List.length_map];exact List.length_filter_le _ _
theorem Xq9 (p:Pu) (side:Int):(pv p side).length<=1:=by unfold pv;split<;>simp
def olap (x y:X3):Prop:=y.Key=x.Key/\y.Span.Start<x.Span.End/\x.Span.Start<y.Span.End
instance (x y:X3):Decidable (olap x y):=by unfold olap;infer_instance
structure Ses (w:Xn) (L:List Pu) (p:Pu) (es l:List X3) (x:X3) (M:List X3):Prop where
 sub:l.Sublist es
 part:∀ e,e∈es↔e∈l\/e∈M
 apart:∀ e∈l,e ∉ M
 keyM:∀ m∈M,m.Key=p.1.Key
 key:x.Key=p.1.Key
 own:x.Span.Start<=p.1.Time/\p.1.Time+w.Size<=x.Span.End
 inner:∀ z,2*x.Span.Start<z->z<2*x.Span.End->cov w.Size (λt=>X9d L p.1.Key t\/t=p.1.Time) z
 hull:∀ m∈M,x.Span.Start<=m.Span.Start/\m.Span.End<=x.Span.End
 val0:x.Values.e0=Xe5 (pv p 0++X9b L p.1.Key M 0)
 val1:x.Values.e1=Xe5 (pv p 1++X9b L p.1.Key M 1)
theorem X02s (p:Pu) (s:X0s):(X6y p s).Values.e0=Xe5 (pv p 0)/\(X6y p s).Values.e1=Xe5 (pv p 1):=by
 unfold X6y pv;constructor
 ·dsimp only;split
  ·exact(Xe4 _).symm
  ·rfl
 ·dsimp only;split
  ·exact(Xe4 _).symm
  ·rfl
theorem Ses.start {w:Xn} {L:List Pu} {p:Pu} {es:List X3} (hw:1<=w.Size):Ses w L p es es (X6y p ⟨p.1.Time,p.1.Time+w.Size⟩) []:=by
 have hv:∀ side,X9b L p.1.Key [] side=[]:=λside=>by unfold X9b;simp
 refine⟨.refl _,λe=>by simp,λe _=>by simp,λm hm=>(by cases hm),rfl,⟨Int.le_refl _,Int.le_refl _⟩,λz h1 h2=>?_,λm hm=>(by cases hm),?_,?_⟩
 ·exact⟨p.1.Time,.inr rfl,h1,h2⟩
 ·rw[hv,List.append_nil];exact(X02s p _).1
 ·rw[hv,List.append_nil];exact(X02s p _).2
def Xqv (x y:X3):X3:=⟨x.Key,⟨if y.Span.Start<x.Span.Start then y.Span.Start else x.Span.Start,if y.Span.End>x.Span.End then y.Span.End else x.Span.End⟩,⟨X49 x.Values.e0 y.Values.e0,X49 x.Values.e1 y.Values.e1⟩⟩
theorem Ses.step {w:Xn} {L:List Pu} {p:Pu} {es l:List X3} {x:X3} {M:List X3} (hk:w.Kind=3) (hl:L.length<=900) (c:X7y w L es) (s:Ses w L p es l x M) {i:Nat} {y:X3} (hi:l[i]?=some y) (ho:olap x y) :
  Ses w L p es (l.take i++l.drop (i+1)) (Xqv x y) (y::M):=by
 have hyl:y∈l:=Yg hi;have hye:y∈es:=(s.part y).2 (.inl hyl);have hyM:=s.apart y hyl;have hky:y.Key=p.1.Key:=ho.1.trans s.key;obtain⟨hyw,hyv⟩:=(c.mem y).1 hye;unfold Xcq at hyw;rw[if_pos hk,hky] at hyw;rw[hky] at hyv;have hlt:i<l.length:=(Ys.1 hi).1;have hsplit:l=l.take i++y::l.drop (i+1):=by
  grind [Ys,List.drop_eq_getElem_cons,List.take_append_drop]
 have hnd:l.Nodup:=s.sub.nodup (List.Pairwise.imp (R:=ltE) (S:=λa b=>a≠b) (λ{a b} h (e:a=b)=>Xna b (by grind)) c.sorted);have hyn:y ∉ l.take i++l.drop (i+1):=by
  grind
 have hmem:∀ e,e∈l↔e=y\/e∈l.take i++l.drop (i+1):=by
  grind
 have hdis:∀ q∈L,q.1.Key=p.1.Key->inS y.Span q.1.Time->¬ ∃ m∈M,inS m.Span q.1.Time:=by
  rintro q hq _ hyq ⟨m,hm,hmq⟩;have hme:m∈es:=(s.part m).2 (.inr hm);obtain⟨hmw,hmv⟩:=(c.mem m).1 hme;unfold Xcq at hmw;rw[if_pos hk,s.keyM m hm] at hmw;rw[s.keyM m hm] at hmv;unfold inS at hyq hmq;have hsp:y.Span=m.Span:=Xuc hyw hmw om om;have:y=m:=by cases y;cases m;simp only at hky hyv hsp hmv;simp only[X3.mk.injEq];exact⟨hky.trans (s.keyM _ hm).symm,hsp,by grind⟩
  grind
 have hval:∀ side,(pv p side++X9b L p.1.Key M side).length<=1073741824:=λside=>by
  grind [Xq9,Xb3]
 have hperm:∀ side,Xe5 (pv p side++X9b L p.1.Key (y::M) side)=X49 (Xe5 (pv p side++X9b L p.1.Key M side)) (Xe5 (vals L p.1.Key y.Span side)):=λside=>by
  have hp:=(Xrw (L:=L) (k:=p.1.Key) (M:=M) (y:=y) (side:=side) hdis).append_left (pv p side)
  grind [Xre,Xq9,Xb3,List.append_assoc,X65]
 obtain⟨_,o1,o2⟩:=ho;refine⟨?_,λe=>?_,λe he hm=>?_,λm hm=>?_,s.key,?_,λz h1 h2=>?_,λm hm=>?_,?_,?_⟩
 ·refine List.Sublist.trans ?_ s.sub
  grind
 ·rw[s.part,hmem,List.mem_cons]
  grind
 ·rcases List.mem_cons.1 hm with h|h
  ·grind
  ·exact s.apart e ((hmem e).2 (.inr he)) h
 ·rcases List.mem_cons.1 hm with h|h
  ·grind
  ·exact s.keyM m h
 ·have:=s.own
  grind [Xqv]
 ·have hz:(2*x.Span.Start<z/\z<2*x.Span.End)\/(2*y.Span.Start<z/\z<2*y.Span.End):=by
   grind [Xqv]
  rcases hz with ⟨g1,g2⟩|⟨g1,g2⟩
  ·exact s.inner z g1 g2
  ·exact Xjg (λt h=>.inl h) (hyw.2.1 z g1 g2)
 ·have hx:(Xqv x y).Span.Start<=x.Span.Start/\x.Span.End<=(Xqv x y).Span.End/\(Xqv x y).Span.Start<=y.Span.Start/\y.Span.End<=(Xqv x y).Span.End:=by
   grind [Xqv]
  rcases List.mem_cons.1 hm with h|h
  ·grind
  ·have:=s.hull m h;omega
 ·show X49 x.Values.e0 y.Values.e0=_;rw[hperm,s.val0,hyv];rfl
 ·show X49 x.Values.e1 y.Values.e1=_;rw[hperm,s.val1,hyv];rfl
theorem Ses.end {w:Xn} {L:List Pu} {p:Pu} {es l:List X3} {x:X3} {M:List X3} (hk:w.Kind=3) (hw:1<=w.Size) (hl:L.length<=900) (c:X7y w L es) (s:Ses w L p es l x M) (hno:∀ y∈l,¬ olap x y):X7y w (L++[p]) (Xo1 l x):=by
 have hsl:l.Pairwise ltE:=c.sorted.sublist s.sub;have hxx:x.Span.Start<x.Span.End:=by have:=s.own;omega
 have hnl:∀ y∈l,y.Key=p.1.Key->¬ (y.Span.Start<x.Span.End/\x.Span.Start<y.Span.End):=λy hy hky h=>hno y hy ⟨hky.trans s.key.symm,h.1,h.2⟩;have hT:(X9d (L++[p]) p.1.Key)=λt=>X9d L p.1.Key t\/t=p.1.Time:=by
  funext t;apply propext;rw[Xb5]
  grind
 have hes:∀ e∈es,e.Key=p.1.Key->Xk2 w.Size (X9d L p.1.Key) e.Span:=by
  intro e he hke;have:=((c.mem e).1 he).1
  simp_all [Xcq,if_pos]
 have hxw:Xk2 w.Size (λt=>X9d L p.1.Key t\/t=p.1.Time) x.Span:=by
  refine⟨hxx,s.inner,?_,?_⟩
  ·rintro⟨t,ht|ht,h1,h2⟩
   ·obtain⟨e,he,hke,a1,a2⟩:=c.cover hk _ t ht;rcases(s.part e).1 he with h|h
    ·grind
    ·have:=s.hull e h;omega
   ·have:=s.own;omega
  ·rintro⟨t,ht|ht,h1,h2⟩
   ·obtain⟨e,he,hke,a1,a2⟩:=c.cover hk _ t ht;rcases(s.part e).1 he with h|h
    ·grind
    ·have:=s.hull e h;omega
   ·have:=s.own;omega
 have hpin:inS x.Span p.1.Time:=by have:=s.own;unfold inS;omega
 have hxv:x.Values=Xgd (L++[p]) p.1.Key x.Span:=by
  have hv:∀ side,Xe5 (pv p side++X9b L p.1.Key M side)=Xe5 (vals (L++[p]) p.1.Key x.Span side):=by
   intro side;have h1:vals L p.1.Key x.Span side=X9b L p.1.Key M side:=by
    unfold vals X9b;congr 1
    refine List.filter_congr λq hq=>?_;rw[Bool.eq_iff_iff];simp only[decide_eq_true_eq];constructor
    ·rintro⟨a1,a2,a3⟩;refine⟨a1,?_,a3⟩;obtain⟨e,he,hke,b1,b2⟩:=c.cover hk _ q.1.Time ⟨q,hq,a1,rfl⟩;unfold inS at a2;rcases(s.part e).1 he with h|h
     ·exact absurd ⟨by omega,by omega⟩ (hnl e h hke)
     ·exact⟨e,h,by unfold inS;omega⟩
    ·rintro⟨a1,⟨m,hm,b1,b2⟩,a3⟩;have:=s.hull m hm;exact⟨a1,⟨by omega,by omega⟩,a3⟩
   have h2:(if p.1.Key=p.1.Key/\inS x.Span p.1.Time/\p.2=side then [p.1.Value] else [])=pv p side:=by
    unfold pv
    grind
   grind [X6i,Xre,List.perm_append_comm,Xq9,Xb3]
  have h0:=s.val0;have h1:=s.val1;rw[hv] at h0 h1;unfold Xgd;rw[<-h0,<-h1]
 have hns:∀ y∈l,¬ X4x y x:=λy hy hs=>hno y hy ⟨hs.1,by rw[hs.2];exact hxx,by rw[hs.2];exact hxx⟩;have hput:∀ e,e∈Xo1 l x↔e∈l\/e=x:=by
  grind [Xnz,absurd]
 refine⟨Xkb hsl,λe=>?_,λ_ k t ht=>?_⟩
 ·rw[hput];unfold Xts Xcq;rw[if_pos hk];by_cases hke:e.Key=p.1.Key
  ·rw[hke,hT];have hsame:¬ (e.Span.Start<x.Span.End/\x.Span.Start<e.Span.End)->(Xk2 w.Size (λt=>X9d L p.1.Key t\/t=p.1.Time) e.Span/\e.Values=Xgd (L++[p]) p.1.Key e.Span↔Xk2 w.Size (X9d L p.1.Key) e.Span/\e.Values=Xgd L p.1.Key e.Span):=by
    intro hn;have hown:=s.own;have hpn:e.Span.Start<e.Span.End->¬ inS e.Span p.1.Time:=λh hi=>by grind [inS]
    have hvv:e.Span.Start<e.Span.End->Xgd (L++[p]) p.1.Key e.Span=Xgd L p.1.Key e.Span:=λh=>by
     simp_all [Xgd,X6i,if_neg,List.append_nil]
    constructor
    ·rintro⟨⟨a1,a2,a3,a4⟩,hv⟩;refine⟨⟨a1,λz h1 h2=>?_,λh=>a3 (Xjg (λt h=>.inl h) h),λh=>a4 (Xjg (λt h=>.inl h) h)⟩,by grind⟩;obtain⟨t,ht|ht,b1,b2⟩:=a2 z h1 h2
     ·exact⟨t,ht,b1,b2⟩
     grind
    ·rintro⟨⟨a1,a2,a3,a4⟩,hv⟩;refine⟨⟨a1,λz h1 h2=>Xjg (λt h=>.inl h) (a2 z h1 h2),?_,?_⟩,by grind⟩
     ·rintro⟨t,ht|ht,b1,b2⟩
      ·exact a3 ⟨t,ht,b1,b2⟩
      grind
     ·rintro⟨t,ht|ht,b1,b2⟩
      ·exact a4 ⟨t,ht,b1,b2⟩
      grind
   constructor
   ·rintro(h|h)
    ·have he:e∈es:=(s.part e).2 (.inl h);refine(hsame (hnl e h hke)).2 ⟨hes e he hke,?_⟩;have:=((c.mem e).1 he).2
     grind
    grind
   ·intro h;by_cases hov:e.Span.Start<x.Span.End/\x.Span.Start<e.Span.End
    ·right;have hsp:=Xuc h.1 hxw hov.1 hov.2;have hkx:=s.key;obtain⟨_,h2⟩:=h;rw[hsp] at h2;cases e;cases x
     grind
    ·left;have h3:=(hsame hov).1 h;have he:e∈es:=(c.mem e).2 ⟨by simp_all [Xcq,if_pos],by grind⟩;rcases(s.part e).1 he with h4|h4
     ·exact h4
     ·have:=s.hull e h4;exact absurd ⟨by have:=h3.1.1;omega,by have:=h3.1.1;omega⟩ hov
  ·have hT2:X9d (L++[p]) e.Key=X9d L e.Key:=by
    grind [Xb5]
   have hV2:Xgd (L++[p]) e.Key e.Span=Xgd L e.Key e.Span:=by
    unfold Xgd;rw[X6i,X6i,if_neg (λhc=>hke hc.1.symm),if_neg (λhc=>hke hc.1.symm),List.append_nil,List.append_nil]
   rw[hT2,hV2];constructor
   ·rintro(h|h)
    ·have:=(c.mem e).1 ((s.part e).2 (.inl h))
     simp_all [Xts,Xcq,if_pos]
    ·exact absurd (by rw[h];exact s.key) hke
   ·intro h;have he:e∈es:=(c.mem e).2 (by simp_all [Xts,Xcq,if_pos]);rcases(s.part e).1 he with h4|h4
    ·exact .inl h4
    ·exact absurd (s.keyM e h4) hke
 ·rcases(Xb5 ..).1 ht with ht|⟨h1,h2⟩
  ·obtain⟨e,he,hke,a1,a2⟩:=c.cover hk k t ht;rcases(s.part e).1 he with h|h
   ·grind
   ·have:=s.hull e h;exact⟨x,(hput x).2 (.inr rfl),s.key.trans ((s.keyM e h).symm.trans hke),by omega,by omega⟩
  ·have:=s.own;exact⟨x,(hput x).2 (.inr rfl),s.key.trans h1,by omega,by omega⟩
end Go.D


namespace Go.D
theorem X05x (Y:List X3) (x:X3):∀ (xs:List X3) (k:Nat),(Xm Y x xs k=some .x0/\∀ y∈xs,¬ olap x y) \/
  ∃ (i:Nat) (y:X3),Xm Y x xs k=some (.x1 ((k+i:Nat):Int))/\xs[i]?=some y/\olap x y:=by
 intro xs
 induction xs with
 |nil=>intro k;exact .inl ⟨rfl,λy hy=>by cases hy⟩
 |cons z xs ih =>
  intro k;rw[Xm];by_cases h:olap x z
  ·right;have:(bif (bif (z.Key==x.Key) then (decide (z.Span.Start<x.Span.End)) else false) then (decide (x.Span.Start<z.Span.End)) else false)=true:=by
    obtain⟨h1,h2,h3⟩:=h;grind
   rw[this,cond_true];exact⟨0,z,rfl,rfl,h⟩
  ·have:(bif (bif (z.Key==x.Key) then (decide (z.Span.Start<x.Span.End)) else false) then (decide (x.Span.Start<z.Span.End)) else false)=false:=by
    rw[<-Bool.not_eq_true];intro hc;apply h;by_cases h1:z.Key=x.Key
    ·by_cases h2:z.Span.Start<x.Span.End
     ·by_cases h3:x.Span.Start<z.Span.End
      ·trivial
      grind
     grind
    grind
   rw[this,cond_false];rcases ih (k+1) with ⟨h1,h2⟩|⟨i,y,h1,h2,h3⟩
   ·grind
   ·exact .inr ⟨i+1,y,by grind,by grind,h3⟩
theorem X0a5 {w:Xn} {L:List Pu} {p:Pu} {es:List X3} (hk:w.Kind=3) (hw:1<=w.Size) (hl:L.length<=900) (hn:es.length<=3900) (c:X7y w L es) (hu:∀ e∈es,okA e.Values.e0/\okA e.Values.e1/\e.Values.e0.Count<=1000/\e.Values.e1.Count<=1000):∀ (f:Nat) (l:List X3) (x:X3) (M:List X3),l.length<f->Ses w L p es l x M ->
  ∃ es',X18 f l x=some (.x0 es' 0)/\X7y w (L++[p]) es'/\es'.length<=es.length+1:=by
 intro f
 induction f with
 |zero=>grind
 |succ f ih =>
  intro l x M hf s;have hsl:l.Pairwise ltE:=c.sorted.sublist s.sub;have hll:l.length<=es.length:=s.sub.length_le;have hxv:okA x.Values.e0/\okA x.Values.e1/\x.Values.e0.Count<=1000/\x.Values.e1.Count<=1000:=by
   have h0:=Xq9 p 0;have h1:=Xq9 p 1;have h2:=Xb3 L p.1.Key M 0;have h3:=Xb3 L p.1.Key M 1;rw[s.val0,s.val1]
   grind [Xpj,X3z]
  rw[X18];rw[X1w om,Yo];rcases X05x l x l 0 with ⟨h1,h2⟩|⟨i,y,h1,h2,h3⟩
  ·rw[h1];simp only[Yo];have hneg:decide ((-1:Int)<0)=true:=by decide
   rw[hneg,cond_true]
   have hput:=X09s (x:=x) hsl om ⟨hxv.1,hxv.2.1⟩ (λy hy _=>by
    obtain⟨a1,a2,a3,a4⟩:=hu y ((s.part y).2 (.inl hy))
    grind)
   grind [putF,Xo1,Ses.end,Xo0]
  ·rw[h1];have hlt:i<l.length:=(Ys.1 h2).1;simp only[Yo,Nat.zero_add];have hneg:decide ((i:Int)<0)=false:=by simp
   rw[hneg,cond_false,X2r,h2,Yo];obtain⟨a1,a2,a3,a4⟩:=hu y ((s.part y).2 (.inl (Yg h2)));have hd:delI l (i:Int)=some (l.take i++l.drop (i+1)):=by
    unfold delI;grind
   simp only[X3r hxv.1 a1 om,X3r hxv.2.1 a2 om,Yo,bne_self_eq_false,cond_false,hd];have hstep:=s.step hk hl c h2 h3;exact ih _ _ _ (by simp;omega) hstep
theorem Xns {w:Xn} {L:List Pu} {p:Pu} {es:List X3} (hw:okW w) (hk:w.Kind=3) (hL:Xyc w (L++[p])) (c:X7y w L es) (hn:es.length<=3900) :
  ∃ es',X84 es w p.1 p.2=some (es',0)/\X7y w (L++[p]) es'/\es'.length<=es.length+1:=by
 have ht:=hL.time p (by simp);have hsd:=hL.side p (by simp);have hll:=hL.init.len;have hw1:=hw.1;have hw2:=hw.2.1;have hu:∀ e∈es,okA e.Values.e0/\okA e.Values.e1/\e.Values.e0.Count<=1000/\e.Values.e1.Count<=1000:=λe he=>by
  have:=((c.mem e).1 he).2;rw[this];exact Xp9 om _ _
 obtain⟨es',h1,h2,h3⟩:=X0a5 hk hw1 om hn c hu FU es _ [] (by unfold FU;omega) (Ses.start (p:=p) hw1);refine⟨es',?_,h2,h3⟩;have ht':=ht;unfold okT at ht';unfold X84;have e1:(bif (p.2 != 0) then (p.2 != 1) else false)=false:=by rcases hsd with h|h<;>simp[h]
 have b1:decide (p.1.Time<((-1099511627776):Int))=false:=by simp;omega
 have b2:decide (p.1.Time>(1099511627776:Int))=false:=by simp;omega
 have e2:(bif (decide (p.1.Time<((-1099511627776):Int))) then true else (decide (p.1.Time>(1099511627776:Int))))=false:=by rw[b1,b2];rfl
 have e3:((Xa6 p.1.Value).bind λv14=>bif (p.2==(0:Int)) then (some (X3.mk p.1.Key (X0s.mk 0 0) (V2.mk v14 (X0z.mk 0 0 0 0)))) else (bif (p.2==(1:Int)) then (some (X3.mk p.1.Key (X0s.mk 0 0) (V2.mk (X0z.mk 0 0 0 0) v14))) else none):Option (X3))=some (X6y p ⟨0,0⟩):=by
  simp only[Xa6,Yo];rcases hsd with h|h
  ·simp[h,X6y,ofA,Xe6]
  ·simp[h,X6y,ofA,Xe6]
 have e4:(bif (List.isEmpty es) then (some es) else ((X1c (List.length es) 88).bind λu28=>some es):Option ((List X3)))=some es:=by
  rw[X3q om];cases List.isEmpty es<;>rfl
 have e5:(w.Kind==3)=true:=by simp[hk]
 have c1:decide (w.Size<1)=false:=by simp;omega
 have c2:decide (w.Size>1073741824)=false:=by simp;omega
 have e6:X3g 0 w.Size=some 0:=by
  simp only[X3g,c1,c2,cond_false];rfl
 have e7:X3g p.1.Time w.Size=some 0:=by
  simp only[X3g,c1,c2,cond_false,b1,b2]
 have e8:X8s 1=some 1:=by decide +kernel
 rw[Xao c.sorted (Xll hw hL.init c) om,Yo];simp only[bne_self_eq_false,cond_false,X3x hw,Yo,e1,e2];rw[e3,Yo,e4,Yo];simp only[e5,cond_true,e6,e7,e8,Yo,bne_self_eq_false,cond_false];have hg:getI [X0s.mk p.1.Time (IntKind.i64.wrap (p.1.Time+w.Size))] 0=some ⟨p.1.Time,p.1.Time+w.Size⟩:=by
  rw[X05 om om];rfl
 rw[hg,Yo];have hent:(⟨(X6y p ⟨0,0⟩).Key,⟨p.1.Time,p.1.Time+w.Size⟩,(X6y p ⟨0,0⟩).Values⟩:X3)=X6y p ⟨p.1.Time,p.1.Time+w.Size⟩:=rfl;rw[hent,h1,Yo,Yo];have e9:decide ((es'.length:Int)>4000)=false:=by simp;omega
 simp only[bne_self_eq_false,cond_false,e9]
theorem Xhl {w:Xn} {L:List Pu} {p:Pu} {es:List X3} (hw:okW w) (hL:Xyc w (L++[p])) (c:X7y w L es) (hn:es.length<=3900) :
  ∃ es',X84 es w p.1 p.2=some (es',0)/\X7y w (L++[p]) es'/\es'.length<=es.length+16:=by
 by_cases hk:w.Kind=3
 ·obtain⟨es',h1,h2,h3⟩:=Xns hw hk hL c hn;exact⟨es',h1,h2,by omega⟩
 ·exact Xjv hw hk hL c hn
theorem X02c {w:Xn} (hw:1<=w.Size):X7y w [] []:=by
 refine⟨List.Pairwise.nil,λe=>?_,λ_ k t ht=>?_⟩
 ·simp only[List.not_mem_nil,false_iff];rintro⟨h,_⟩;unfold Xcq at h;split at h
  ·obtain⟨h1,h2,_⟩:=h;obtain⟨t,ht,_⟩:=h2 (2*e.Span.Start+1) om om;obtain⟨p,hp,_⟩:=ht;cases hp
  ·obtain⟨t,⟨p,hp,_⟩,_⟩:=h;cases hp
 ·obtain⟨p,hp,_⟩:=ht;cases hp
end Go.D


namespace Go.D
structure RQ (q:Xb):Prop where
 w:QW q
 ok:(Xs8 q).2=0
theorem RQ.cz {q:Xb} (h:RQ q):Xpn q=0:=by
 have:=h.ok;unfold Xs8 at this;split at this
 ·rename_i h1;exact absurd this h1
 ·rename_i h1;omega
theorem RQ.facts {q:Xb} (h:RQ q):(1<=q.Agg/\q.Agg<=4/\(q.Late=1\/q.Late=2))/\(q.Agg≠1->nchk q.Arg=0)/\(0<q.Where.length->nchk q.Where=0)/\X6b q.Sources q.Join=0/\okW q.Window/\(q.Join=true->q.Window.Kind=1):=by
 have hc:=h.cz;unfold Xpn at hc;split at hc
 ·cases hc
 ·rename_i h1;split at hc
  ·cases hc
  ·split at hc
   ·rename_i h2;exact absurd hc h2.2
   ·rename_i h2;split at hc
    ·rename_i h3;exact absurd hc h3.2
    ·rename_i h3;split at hc
     ·rename_i h4;exact absurd hc h4
     ·rename_i h4;split at hc
      ·cases hc
      ·rename_i h5;split at hc
       ·rename_i h6;refine⟨by omega,λha=>?_,λhw=>?_,by omega,h6,λhj=>?_⟩
        ·by_cases hz:nchk q.Arg=0
         ·exact hz
         ·exact absurd ⟨ha,hz⟩ h2
        ·by_cases hz:nchk q.Where=0
         ·exact hz
         ·exact absurd ⟨hw,hz⟩ h3
        ·by_cases hk:q.Window.Kind=1
         ·exact hk
         ·exact absurd ⟨hj,hk⟩ h5
       ·cases hc
theorem RQ.src {q:Xb} (h:RQ q):1<=q.Sources.length/\q.Sources.length<=4/\(q.Join=true->q.Sources.length=2):=by
 have hs:=h.facts.2.2.2.1
 grind [X6b,Xua,decide,Bool.or_eq_false_iff]
def valA (agg:Int) (a:X0z):Int:=if agg=1 then a.Count else if agg=2 then a.Sum else if agg=3 then a.Min else a.Max
theorem Xdm {agg:Int} {a:X0z} (h1:1<=agg) (h2:agg<=4) (ha:okA a):X6f agg a=some (if a.Count=0 then (0,6) else (valA agg a,0)):=by
 unfold X6f;rw[Yf (show ¬ agg<1 by omega),Yf (show ¬ agg>4 by omega),X3y ha];simp only[cond_false,Yo,bne_self_eq_false];by_cases hc:a.Count=0
 ·grind
 ·rw[if_neg hc,show(a.Count==0)=false by simp[hc]]
  grind [valA]
def live (q:Xb) (e:X3):Bool:=decide (e.Values.e0.Count≠0)&&(!q.Join||decide (e.Values.e1.Count≠0))
def rowE (q:Xb) (e:X3):X5v:=⟨e.Key,e.Span,⟨valA q.Agg e.Values.e0,if q.Join then valA q.Agg e.Values.e1 else 0⟩⟩
def Xcv (q:Xb) (es:List X3):List X5v:=(es.filter (live q)).map (rowE q)
end Go.D


namespace Go.D
theorem RQ.rts {q:Xb} (h:RQ q):(0<q.Arg.length->(X1n q.Arg false).2=0)/\(0<q.Where.length->(X1n q.Where true).2=0):=by
 have h0:=h.ok;unfold Xs8 at h0;rw[if_neg (by grind)] at h0;unfold rt at h0
 grind
theorem RQ.wher {q:Xb} (h:RQ q) (hw:0<q.Where.length) (r:X9):X4b q.Where r=some (evV q.Where r,0):=Xf5 h.w.wher (Xuz (h.rts.2 hw)) r
theorem RQ.arg {q:Xb} (h:RQ q) (ha:q.Agg≠1) (r:X9):X4b q.Arg r=some (evV q.Arg r,0):=by
 have h1:=(X9w (h.facts.2.1 ha)).2.1;exact Xf5 h.w.arg (Xuz (h.rts.1 om)) r
def X7x (q:Xb) (r:X9):Bool:=if 0<q.Where.length then decide (evV q.Where r≠0) else true
def Xgv (q:Xb) (r:X9):X9:=⟨if q.ByKey then r.Key else 0,r.Time,if q.Agg=1 then 0 else evV q.Arg r⟩
theorem Xh2 {q:Xb} (h:RQ q) (r:X9):X5t q r=some (if X7x q r then (Xgv q r,true) else (⟨0,0,0⟩,false)):=by
 have body:((bif q.ByKey then (some (X9.mk r.Key r.Time 0)) else (some (X9.mk 0 r.Time 0)):Option (X9)).bind λXoc=>(bif (q.Agg != (1:Int)) then ((X4b q.Arg r).bind λv14=>some (X9.mk Xoc.Key Xoc.Time v14.1)) else (some Xoc):Option (X9)).bind λXg4=>some (Xg4,true))=some (Xgv q r,true):=by
  unfold Xgv;by_cases ha:q.Agg=1
  ·grind
  ·rw[Xpe ha,if_neg ha,h.arg ha r];grind
 unfold X5t X7x;rw[body];by_cases hw:0<q.Where.length
 ·rw[Yt (show(q.Where.length:Int)>0 by omega),cond_true,if_pos hw,h.wher hw r]
  grind
 grind
def Xw2 (q:Xb) (side:Int) (rs:List X9):List Pu:=(rs.filter (X7x q)).map λr=>(Xgv q r,side)
theorem Xk9 (q:Xb) (side:Int) (r:X9) (rs:List X9):Xw2 q side (r::rs)=(if X7x q r then [(Xgv q r,side)] else [])++Xw2 q side rs:=by
 grind [Xw2]
theorem X04o (q:Xb) (side:Int) (rs:List X9):(Xw2 q side rs).length<=rs.length:=by grind [Xw2,List.length_map,List.length_filter_le]
def X5o (q:Xb) (k:Int):Int:=if q.Join then k else 0
theorem Xsm {q:Xb} (h:RQ q) (late:List X9) (k0:Int) (Y:List (List Xs)) (a b:Int) (R:List X9) (hside:X5o q k0=0\/X5o q k0=1):∀ (xs:List X9) (k:Nat) (L:List Pu) (es:List X3),X7y q.Window L es->Xyc q.Window (L++Xw2 q (X5o q k0) xs)->es.length+16*xs.length<=3900 ->
  ∃ es',X2d q late k0 Y a b R xs k es=some (.x0 es' late)/\X7y q.Window (L++Xw2 q (X5o q k0) xs) es'/\es'.length<=es.length+16*xs.length
 |[],k,L,es,hc,ho,hn=>⟨es,rfl,by simpa[Xw2] using hc,by simp⟩
 |x::xs,k,L,es,hc,ho,hn=>by
  simp only[List.length_cons] at hn;rw[X2d,Xh2 h,Yo];rw[Xk9] at ho ⊢
  cases hcx:X7x q x with
  |false =>
   rw[hcx] at ho;simp only[Bool.false_eq_true,if_false,List.nil_append] at ho ⊢;obtain⟨es',h1,h2,h3⟩:=Xsm h late k0 Y a b R hside xs (k+1) L es hc ho om
   grind
  |true =>
   rw[hcx] at ho;simp only[if_true] at ho ⊢;rw[<-List.append_assoc] at ho ⊢;have ho1:Xyc q.Window (L++[(Xgv q x,X5o q k0)]):=⟨λp hp=>ho.time p (List.mem_append_left _ hp),λp hp=>ho.side p (List.mem_append_left _ hp),by have:=ho.len;grind⟩;obtain⟨es1,g1,g2,g3⟩:=Xhl h.facts.2.2.2.2.1 ho1 hc om;have hs:(bif q.Join then (some k0) else (some 0):Option Int)=some (X5o q k0):=by unfold X5o;grind
   rw[hs];simp only[Yo,Bool.not_true,cond_false];rw[g1];obtain⟨es',h1,h2,h3⟩:=Xsm h late k0 Y a b R hside xs (k+1) _ es1 g2 ho om
   grind
def Xb8 (q:Xb):Nat->List (List Xs)->List Pu
 |_,[]=>[]
 |k,x::xs=>Xw2 q (X5o q (k:Int)) (Xb6 x)++Xb8 q (k+1) xs
def Xmb (l:List (List Xs)):List X9:=(l.map Xo9).flatten
theorem Xmx (x:List Xs):(Xb6 x).length<=x.length:=by
 grind [Xb6,Xud]
theorem Xqj (x:List Xs):(Xo9 x).length<=x.length:=by
 grind [Xo9,Xud]
theorem X000 {q:Xb} (h:RQ q) (Y:List (List Xs)):∀ (xs:List (List Xs)) (k:Nat) (L:List Pu) (es:List X3) (la:List X9),(∀ x∈xs,chk x=0/\x.length<=60)->X7y q.Window L es->Xyc q.Window (L++Xb8 q k xs)->es.length+960*xs.length<=3900->la.length+60*xs.length<=10000->(∀ j,j<xs.length->X5o q ((k+j:Nat):Int)=0\/X5o q ((k+j:Nat):Int)=1) ->
  ∃ es',X2e q Y xs k es la=some (.x0 es' (la++Xmb xs))/\X7y q.Window (L++Xb8 q k xs) es'/\es'.length<=es.length+960*xs.length
 |[],k,L,es,la,_,hc,_,_,_,_=>⟨es,by simp[X2e,Xmb],by simpa[Xb8] using hc,by simp⟩
 |x::xs,k,L,es,la,hx,hc,ho,hn,hla,hsd=>by
  simp only[List.length_cons] at hn hla hsd;obtain⟨hx1,hx2⟩:=hx x List.mem_cons_self;have hr:=Xmx x;have hl:=Xqj x;rw[Xb8,<-List.append_assoc] at ho ⊢;have ho1:Xyc q.Window (L++Xw2 q (X5o q (k:Int)) (Xb6 x)):=⟨λp hp=>ho.time p (List.mem_append_left _ hp),λp hp=>ho.side p (List.mem_append_left _ hp),by have:=ho.len;grind⟩;have hs0:X5o q (k:Int)=0\/X5o q (k:Int)=1:=by grind
  obtain⟨es1,g1,g2,g3⟩:=Xsm h (la++Xo9 x) (k:Int) Y (Y.length:Int) (k:Int) (Xb6 x) hs0 (Xb6 x) 0 L es hc ho1 om;obtain⟨es',h1,h2,h3⟩:=X000 h Y xs (k+1) _ es1 (la++Xo9 x) (λy hy=>hx y (List.mem_cons_of_mem _ hy)) g2 ho om (by grind) (λj hj=>by grind);refine⟨es',?_,h2,by grind⟩;rw[X2e,Xo8,Yo];simp only[hx1,bne_self_eq_false,cond_false];rw[show la++Xmb (x::xs)=la++Xo9 x++Xmb xs by unfold Xmb;simp,<-h1]
  cases hle:(Xo9 x).isEmpty with
  |true =>
   rw[cond_true,X1w om,Yo,g1];rfl
  |false =>
   rw[cond_false,X3q (by grind),Yo,X1w om,Yo,g1];rfl
theorem Xma {q:Xb} (h1:1<=q.Agg) (h2:q.Agg<=4) {e:X3} (he:okE e):X9x q e=some (if live q e then (rowE q e,true) else (⟨0,⟨0,0⟩,⟨0,0⟩⟩,false)):=by
 obtain⟨_,_,_,a0,a1,_⟩:=he;unfold X9x live rowE;rw[Xdm h1 h2 a0,Xdm h1 h2 a1]
 grind
theorem Xsl {q:Xb} (h1:1<=q.Agg) (h2:q.Agg<=4) (la:List X9) (E:List X3):∀ (xs:List X3) (k:Nat) (rows:List X5v),(∀ e∈xs,okE e)->rows.length+xs.length<=10000->X2x q la E xs k rows=some (.x0 la (rows++Xcv q xs))
 |[],k,rows,_,_=>by simp[X2x,Xcv]
 |x::xs,k,rows,ho,hn=>by
  simp only[List.length_cons] at hn;rw[X2x,Xma h1 h2 (ho x List.mem_cons_self),Yo];unfold Xcv;rw[List.filter_cons]
  cases hl:live q x with
  |false =>
   simp only[Bool.false_eq_true,if_false,cond_false,Yo];exact Xsl h1 h2 la E xs (k+1) rows (λe he=>ho e (List.mem_cons_of_mem _ he)) om
  |true =>
   simp only[if_true,cond_true];rw[X3q (by rw[List.length_append,List.length_singleton];omega)];simp only[Yo];rw[Xsl h1 h2 la E xs (k+1) _ (λe he=>ho e (List.mem_cons_of_mem _ he)) (by rw[List.length_append,List.length_singleton];omega)];simp[Xcv]
structure RI (q:Xb) (l:List (List Xs)):Prop where
 rq:RQ q
 len:l.length=q.Sources.length
 ev:∀ x∈l,chk x=0/\x.length<=60
theorem Xq6 {late:Bool}:∀ (l:List Xs) (m:Int),(∀ x∈l,Xw4 x=true)->∀ r∈Xrh late m l,okT r.Time
 |[],_,_,r,hr=>by trivial
 |x::l,m,h,r,hr=>by
  have ih:=Xq6 (late:=late) l (Xm9 m x) (λy hy=>h y (List.mem_cons_of_mem _ hy)) r;unfold Xrh at hr;split at hr
  ·rename_i hc;rcases List.mem_cons.1 hr with rfl|hr
   ·have hm:x.Mark=false:=by
     cases hm:x.Mark with
     |false=>rfl
     |true=>simp[hm] at hc
    have:=h x List.mem_cons_self;unfold Xw4 Xd4 at this;rw[hm] at this;simp at this;exact⟨this.2.1,this.2.2⟩
   ·exact ih hr
  ·exact ih hr
theorem Xka {q:Xb}:∀ (l:List (List Xs)) (k:Nat) (p:Pu),p∈Xb8 q k l->∃ j x r,l[j]?=some x/\r∈Xb6 x/\X7x q r=true/\p=(Xgv q r,X5o q ((k+j:Nat):Int))
 |[],k,p,h=>by trivial
 |x::l,k,p,h=>by
  rw[Xb8] at h;rcases List.mem_append.1 h with h|h
  ·unfold Xw2 at h;obtain⟨r,hr,rfl⟩:=List.mem_map.1 h;rw[List.mem_filter] at hr;exact⟨0,x,r,rfl,hr.1,hr.2,rfl⟩
  ·obtain⟨j,y,r,h1,h2,h3,h4⟩:=Xka l (k+1) p h;exact⟨j+1,y,r,by simpa using h1,h2,h3,by rw[show k+(j+1)=k+1+j by omega];exact h4⟩
theorem Xqa {q:Xb}:∀ (l:List (List Xs)) (k:Nat),(∀ x∈l,x.length<=60)->(Xb8 q k l).length<=60*l.length
 |[],k,_=>by simp[Xb8]
 |x::l,k,h=>by
  rw[Xb8,List.length_append,List.length_cons];have h1:=X04o q (X5o q (k:Int)) (Xb6 x);have h2:=Xmx x;have h3:=h x List.mem_cons_self;have h4:=Xqa (q:=q) l (k+1) λy hy=>h y (List.mem_cons_of_mem _ hy);omega
theorem RI.ok {q:Xb} {l:List (List Xs)} (h:RI q l):Xyc q.Window (Xb8 q 0 l):=by
 have hs:=h.rq.src;refine⟨λp hp=>?_,λp hp=>?_,?_⟩
 ·obtain⟨j,x,r,h1,h2,h3,rfl⟩:=Xka l 0 p hp;have hx:=h.ev x (Yg h1);unfold Xb6 at h2;rw[if_pos hx.1] at h2;exact Xq6 x Xhs (X087.1 hx.1).2 r h2
 ·obtain⟨j,x,r,h1,h2,h3,rfl⟩:=Xka l 0 p hp;have:=(Ys.1 h1).1;show X5o q _=0\/X5o q _=1;unfold X5o;split
  ·rename_i hj;have:=hs.2.2 hj;have:=h.len;omega
  grind
 ·have:=Xqa (q:=q) l 0 λx hx=>(h.ev x hx).2;have:=h.len;omega
theorem Xas {q:Xb} {l:List (List Xs)} (h:RI q l):∃ es,X7y q.Window (Xb8 q 0 l) es/\es.length<=3900/\X7n q l=some (Xcv q es,if q.Late=2 then Xmb l else [],0):=by
 have hs:=h.rq.src;have hf:=h.rq.facts;have hlen:=h.len;have hok:=h.ok
 obtain⟨es,h1,h2,h3⟩:=X000 h.rq l l 0 [] [] [] h.ev (X02c hf.2.2.2.2.1.1) (by grind) (by simp;omega) (by simp;omega) (λj hj=>by
  grind [X5o])
 simp only[List.nil_append,List.length_nil,Nat.zero_add] at h1 h2 h3;refine⟨es,h2,by omega,?_⟩;unfold X7n;rw[X6v h.rq.w,Yo];rw[h.rq.ok];simp only[bne_self_eq_false,cond_false];rw[show((l.length:Int) != (q.Sources.length:Int))=false by grind,cond_false,Xbe om,Xbs.2 λx hx=>(h.ev x hx).1];simp only[Yo,bne_self_eq_false,cond_false];rw[X1w om,Yo,h1,Yo];simp only;rw[X1w om,Yo,Xsl hf.1.1 hf.1.2.1 _ _ es 0 [] (Xll hf.2.2.2.2.1 hok h2) (by simp;omega)]
 grind
end Go.D


namespace Go.D
theorem Xtr (x y:X5v):Xp8 x y=decide (x=y):=by
 obtain⟨a,⟨b,c⟩,⟨d,e⟩⟩:=x;obtain⟨a',⟨b',c'⟩,⟨d',e'⟩⟩:=y;rw[Bool.eq_iff_iff];simp[Xp8,Xr6,Xr5,and_assoc]
theorem Xz0 (a:List X5v):∀ (xs:List X5v) (k:Nat),a.drop k=xs->X45 a a xs k=some .x0
 |[],k,_=>rfl
 |x::xs,k,h=>by
  have hk:a[k]?=some x:=by
   have:(a.drop k)[0]?=some x:=by rw[h];rfl
   simpa using this
  have hd:a.drop (k+1)=xs:=by
   have:(a.drop k).drop 1=xs:=by rw[h];rfl
   rw[List.drop_drop] at this;exact this
  rw[X45,X2r,hk,Yo,Xtr];simp only[decide_true,Bool.not_true,cond_false];exact Xz0 a xs (k+1) hd
theorem Xyz {a:List X5v} (h:a.length<=10000):X90 a a=some true:=by
 unfold X90;rw[show((a.length:Int) != (a.length:Int))=false by simp,cond_false,X1w om,Yo,Xz0 a a 0 rfl];rfl
def Xko:Int->List (List Xs)->Int
 |m,[]=>m
 |m,x::xs=>Xko (if X002 Xhs x<m then X002 Xhs x else m) xs
theorem Xux (Y:List (List Xs)):∀ (xs:List (List Xs)) (k:Nat) (m:Int),(∀ x∈xs,chk x=0)->X2o Y xs k m=some (.x0 (Xko m xs))
 |[],k,m,_=>rfl
 |x::xs,k,m,h=>by
  rw[X2o,Xqi,if_pos (h x List.mem_cons_self),Yo,Xko];exact Xux Y xs (k+1) _ λy hy=>h y (List.mem_cons_of_mem _ hy)
theorem Xin {l:List (List Xs)} (h1:1<=l.length) (h4:l.length<=4) (h:∀ x∈l,chk x=0):X6o l=some (Xko Xp4 l,0):=by
 unfold X6o;rw[Yf (show ¬ (l.length:Int)<1 by omega),Yf (show ¬ (l.length:Int)>4 by omega),Xbe om,Xbs.2 h];simp only[cond_false,Yo,bne_self_eq_false];rw[X1w om,Yo,show(9223372036854775807:Int)=Xp4 from rfl,Xux l l 0 Xp4 h];rfl
def emit (m:Int) (rows:List X5v):List X5v:=rows.filter λr=>decide (r.Span.End<=m)
theorem Xhe (a:List X9) (m:Int) (Y:List X5v):∀ (xs:List X5v) (k:Nat) (o:List X5v),o.length+xs.length<=10000->X1h a m Y xs k o=some (.x0 (o++emit m xs))
 |[],k,o,_=>by simp[X1h,emit]
 |x::xs,k,o,hn=>by
  simp only[List.length_cons] at hn;rw[X1h];unfold emit;rw[List.filter_cons];by_cases h:x.Span.End<=m
  ·rw[Yt h,cond_true,X3q (by rw[List.length_append,List.length_singleton];omega)];simp only[Yo,if_true];rw[Xhe a m Y xs (k+1) _ (by rw[List.length_append,List.length_singleton];omega)];simp[emit]
  ·rw[Yf h,cond_false];simp only[Yo,Bool.false_eq_true,if_false];exact Xhe a m Y xs (k+1) o om
theorem Xmw (q:Xb) (es:List X3):(Xcv q es).length<=es.length:=by
 unfold Xcv;rw[List.length_map];exact List.length_filter_le _ _
def Xuy (q:Xb) (l:List (List Xs)):List X9:=if q.Late=2 then Xmb l else []
theorem X6p {q:Xb} {l:List (List Xs)} (h:RI q l) {es:List X3} (hc:X7y q.Window (Xb8 q 0 l) es):X7n q l=some (Xcv q es,Xuy q l,0)/\es.length<=3900/\X12 q l=some (emit (Xko Xp4 l) (Xcv q es),Xuy q l,0):=by
 obtain⟨es',h1,h2,h3⟩:=Xas h;have:=hc.unique h1;subst this;have hs:=h.rq.src;have hlen:=h.len;have hr:=Xmw q es;refine⟨h3,h2,?_⟩;unfold X12;rw[h3,Yo];simp only[bne_self_eq_false,cond_false];rw[Xin om om λx hx=>(h.ev x hx).1,Yo];simp only[bne_self_eq_false,cond_false];rw[X1w om,Yo,Xhe _ _ _ _ _ _ (by simp;omega)];rfl
theorem X063 (l:List (List Xs)):∀ (m n i:Nat),m=7 - i->i<=7->m<n->∃ o,X3n l n (i:Int)=some o/\(o=.x1->∀ j x,i<=j->j<7->l[j]?=some x->x.length<=20\/x.length=61):=by
 intro m
 induction m with
 |zero =>
  intro n i hm hi hn
  cases n with
  |zero=>omega
  |succ n =>
   have:i=7:=by omega
   subst this;refine⟨.x1,?_,λ_ j x h1 h2=>by omega⟩;rw[X3n];cases decide (((7:Nat):Int)<(l.length:Int))<;>rfl
 |succ m ih =>
  intro n i hm hi hn
  cases n with
  |zero=>omega
  |succ n =>
   rw[X3n];by_cases hl:i<l.length
   ·rw[Yt (show(i:Int)<(l.length:Int) by omega),cond_true,Yt (show(i:Int)<7 by omega),cond_true];have hg:getI l (i:Int)=some (l[i]'hl):=by rw[X2r];exact Ye _
    rw[hg,Yo,X05 om om];obtain⟨o,h1,h2⟩:=ih n (i+1) om om om;rw[show((i+1:Nat):Int)=(i:Int)+1 by omega] at h1;by_cases hgt:(l[i]'hl).length>20/\(l[i]'hl).length≠61
    ·rw[Yt (show((l[i]'hl).length:Int)>20 by omega),Xpe (show ¬ ((l[i]'hl).length:Int)=61 by omega)];exact⟨.x0,rfl,λh=>by cases h⟩
    ·have e:(bif (decide (((l[i]'hl).length:Int)>(20:Int))) then (some (bif (decide (((l[i]'hl).length:Int)>(20:Int))) then (((l[i]'hl).length:Int) != (61:Int)) else false)) else (some (bif (decide (((l[i]'hl).length:Int)>(20:Int))) then false else false)):Option (Bool))=some false:=by
      by_cases h20:(l[i]'hl).length>20
      ·rw[Yt (show((l[i]'hl).length:Int)>20 by omega),show(l[i]'hl).length=61 by omega];rfl
      ·rw[Yf (show ¬ ((l[i]'hl).length:Int)>20 by omega)];rfl
     rw[e,Yo,cond_false];refine⟨o,h1,λho j x hj1 hj2 hj3=>?_⟩;by_cases hji:j=i
     ·subst hji;rw[Ye hl] at hj3;cases hj3;omega
     ·exact h2 ho j x om hj2 hj3
   ·rw[Yf (show ¬ (i:Int)<(l.length:Int) by omega)];refine⟨.x1,rfl,λ_ j x h1 h2 h3=>?_⟩;have:=(Ys.1 h3).1;omega
theorem Xm1 (l:List (List Xs)):∃ b,X9l l=some b/\(b=false->l.length<=6/\∀ x∈l,x.length<=20\/x.length=61):=by
 unfold X9l;obtain⟨o,h1,h2⟩:=X063 l 7 FU 0 rfl om (by unfold FU;omega);rw[show((0:Nat):Int)=0 from rfl] at h1;rw[h1,Yo]
 cases o with
 |x0=>exact⟨true,rfl,λh=>by cases h⟩
 |x1 =>
  refine⟨_,rfl,λhb=>?_⟩;have hb:=of_decide_eq_false hb;refine⟨by omega,λx hx=>?_⟩;obtain⟨j,hj,e⟩:=List.getElem_of_mem hx;exact h2 rfl j x (Nat.zero_le _) om (by rw[Ye hj,e])
theorem RQ.agg1 {q:Xb} (h:RQ q):q.Agg=1->q.Arg.length=0:=by
 have hc:=h.cz;intro ha;unfold Xpn at hc;split at hc
 ·cases hc
 ·split at hc
  ·cases hc
  ·rename_i h2;by_cases hz:q.Arg.length=0
   ·exact hz
   ·exact absurd ⟨ha,by omega⟩ h2
theorem RQ.lens {q:Xb} (h:RQ q):q.Arg.length<=60/\q.Where.length<=60:=by
 constructor
 ·by_cases ha:q.Agg=1
  ·have:=h.agg1 ha;omega
  ·exact(X9w (h.facts.2.1 ha)).1
 ·by_cases hw:0<q.Where.length
  ·exact(X9w (h.facts.2.2.1 hw)).1
  ·omega
end Go.D


namespace Go.D
theorem X075 {z:Int} (h:wfI .u8 z):0<=z:=by
 have h:=h;simp only[wfI,Lit.wf,IntKind.bits,IntKind.signed] at h;simp at h;have e1:IntKind.u8.min=0:=by decide
 omega
theorem X9a {z:Int} (h:wfI .i64 z):z<=9223372036854775807 /\ -9223372036854775808<=z:=by
 have h:=h;simp only[wfI,Lit.wf,IntKind.bits,IntKind.signed] at h;simp at h;have e1:IntKind.i64.min = -9223372036854775808:=by decide
 grind
theorem X0hh {q:Xb} (w:Xfa q):QW q:=by
 obtain⟨_,⟨_,h1⟩,_,_,⟨_,h2⟩,h3,_⟩:=w;exact⟨λx hx=>X075 (h1 x hx).1,λx hx=>X075 (h2 x hx).1,X9a h3.2.2⟩
end Go.D


namespace Go.D
theorem Xq8 {q:Xb} (hq:QW q) {l:List (List Xs)} (hn:l.length<=1000):X9m q l=some (if (Xs8 q).2≠0 then (Xs8 q).2 else if l.length≠q.Sources.length then 2 else Xci l):=by
 unfold X9m;rw[Xaq hq,Yo];by_cases hz:(Xs8 q).2=0
 ·rw[hz];simp only[bne_self_eq_false,cond_false,ne_eq,not_true,if_false];by_cases hlen:l.length=q.Sources.length
  ·simp_all [cond_false,Xm0,Yo,if_neg]
  grind
 grind
theorem X07c (a:List X9):∀ (xs:List X9) (k:Nat),a.drop k=xs->X46 a a xs k=some .x0
 |[],k,_=>rfl
 |x::xs,k,h=>by
  obtain⟨hlt,hkx,hd⟩:=Go.Av.drop_cons h;rw[X46,X2r,hkx,Yo,Xav,Yt rfl];exact X07c a xs (k+1) hd
theorem X04f {a:List X9} (h:a.length<=10000):X91 a a=some true:=by
 unfold X91;rw[bne_self_eq_false,cond_false,X1w om,Yo,X07c a a 0 rfl];rfl
theorem Xqg:∀ (m:List (List Xs)),(∀ x∈m,x.length<=60)->(Xmb m).length<=60*m.length
 |[],_=>by simp[Xmb]
 |x::m,h=>by
  have ih:=Xqg m λy hy=>h y (List.mem_cons_of_mem _ hy)
  grind [Xqj,List.mem_cons_self,Xmb,List.flatten_cons,List.length_append,List.length_cons]
theorem X07r {q:Xb}:X9q q=some (decide (q.Arg.length>70\/q.Where.length>70\/q.Sources.length>10)):=by
 unfold X9q X9s;have e:∀ {n m:Nat},decide ((n:Int)>(m:Int))=decide (n>m):=λ{n m}=>decide_eq_decide.2 om;have e1:decide ((q.Arg.length:Int)>70)=decide (q.Arg.length>70):=e (m:=70);have e2:decide ((q.Where.length:Int)>70)=decide (q.Where.length>70):=e (m:=70);have e3:decide ((q.Sources.length:Int)>10)=decide (q.Sources.length>10):=e (m:=10);simp only[Yo,e1,e2,e3];by_cases h1:q.Arg.length>70<;>by_cases h2:q.Where.length>70<;>by_cases h3:q.Sources.length>10<;>simp[h1,h2,h3]
theorem wfN {q:Xb} (w:Xfa q):(∀ x∈q.Arg,i64 x.N)/\(∀ x∈q.Where,i64 x.N):=by
 obtain⟨_,⟨_,h1⟩,_,_,⟨_,h2⟩,_⟩:=w;exact⟨λx hx=>⟨(X9a (h1 x hx).2.1).2,(X9a (h1 x hx).2.1).1⟩,λx hx=>⟨(X9a (h2 x hx).2.1).2,(X9a (h2 x hx).2.1).1⟩⟩
theorem rt23 {q:Xb} (hq:QW q):∃ b,X37 q=some b/\(b=true->(Xs8 q).2=0):=by
 unfold X37;rw[X07r,Yo];by_cases hg:q.Arg.length>70\/q.Where.length>70\/q.Sources.length>10
 ·rw[Yt hg];exact⟨false,rfl,λh=>by cases h⟩
 ·rw[Yf hg,cond_false,Xaq hq];exact⟨_,rfl,λh=>by simpa using h⟩
theorem Rr.rt {q:Xb} {a w:Option Ex} {n:Xn} (h:Rr q a w n):X37 (mkQ q a w n)=some true:=by
 unfold X37;have h1:(eL a).length<=60:=Xvg h.ta.fits;have h2:(eL w).length<=60:=Xvg h.tw.fits;have h3:=Xjw h.src;rw[X07r,Yo,Yf (by show ¬ ((eL a).length>70\/(eL w).length>70\/q.Sources.length>10);omega),cond_false,Xaq h.qw,h.chk];rfl
theorem X07y {e:Ex} (h:e.fits) (ht:e.ty=true) (hi:e.ir) {r:X9} (hr:rI r):evV (e.fl 0) r=e.vl r:=by unfold evV;rw[Xnh h ht hi hr]
def cw (w:Option Ex) (r:X9):Bool:=match w with
 |none=>true
 |some y=>decide (y.vl r≠0)
def va (a:Option Ex) (r:X9):Int:=match a with
 |none=>0
 |some y=>y.vl r
theorem X046 {b:Bool} {o:Option Ex} (h:tOk b o) {r:X9} (hr:rI r):cw (o.map Ex.fd) r=cw o r/\va (o.map Ex.fd) r=va o r:=by
 cases o with
 |none=>grind
 |some e =>
  obtain⟨h1,h2,_,h4⟩:=h e rfl;have f:=(X01d e h1.ok h4 h2).vl r hr;exact⟨by show decide (e.fd.vl r≠0)=decide (e.vl r≠0);rw[f],f⟩
theorem X01v {o:Option Ex} (h:tOk true o) (r:X9):cw (X7w o) r=cw o r:=by
 cases o with
 |none=>rfl
 |some e =>
  obtain⟨h1,_⟩:=h e rfl;by_cases hc:e.cs=true/\e.vl zr≠0
  ·rw[Xtv hc.1 hc.2];show true=decide (e.vl r≠0);rw[Xfc r h1.ok hc.1,Yt hc.2]
  simp_all [X7w,if_neg]
theorem Xni {q:Xb} {a w:Option Ex} {n:Xn} (h:tOk true w) {r:X9} (hr:rI r):X7x (mkQ q a w n) r=cw w r:=by
 unfold X7x
 cases w with
 |none=>rfl
 |some y =>
  obtain⟨h1,h2,_,h4⟩:=h y rfl;rw[if_pos (show 0<(mkQ q a (some y) n).Where.length from(Xi3 (some y)).2 (by simp))];show decide (evV (y.fl 0) r≠0)=decide (y.vl r≠0);rw[X07y h1 h2 h4 hr]
theorem Xue {q:Xb} {a w:Option Ex} {n:Xn} (h:Rr q a w n) {r:X9} (hr:rI r):Xgv (mkQ q a w n) r=⟨if q.ByKey then r.Key else 0,r.Time,va a r⟩:=by
 unfold Xgv;show X9.mk (if q.ByKey then r.Key else 0) r.Time (if q.Agg=1 then 0 else evV (eL a) r)=_
 cases a with
 |none=>rw[if_pos (h.none_.2 rfl)];rfl
 |some y =>
  obtain⟨h1,h2,_,h4⟩:=h.ta y rfl;have:(if q.Agg=1 then (0:Int) else evV (eL (some y)) r)=y.vl r:=by
   rw[if_neg (λe=>by have:=h.none_.1 e;cases this)];exact X07y h1 h2 h4 hr
  rw[this];rfl
theorem Xz9 {b:Bool}:∀ (l:List Xs) (m:Int),(∀ e∈l,rI e.Record)->∀ r∈Xrh b m l,rI r
 |[],_,_,r,hr=>by cases hr
 |x::l,m,h,r,hr=>by
  have ih:=Xz9 (b:=b) l (Xm9 m x) λy hy=>h y (List.mem_cons_of_mem _ hy);have hx:=h x List.mem_cons_self;unfold Xrh at hr
  grind
theorem Xze {p q:Xb} (hc:∀ r,rI r->X7x p r=X7x q r/\Xgv p r=Xgv q r) (s:Int):∀ rs:List X9,(∀ r∈rs,rI r)->Xw2 p s rs=Xw2 q s rs
 |[],_=>rfl
 |r::rs,h=>by
  obtain⟨h1,h2⟩:=hc r (h r List.mem_cons_self);rw[Xk9,Xk9,Xze hc s rs λy hy=>h y (List.mem_cons_of_mem _ hy),h1,h2]
theorem Xug {p q:Xb} (hj:p.Join=q.Join) (hc:∀ r,rI r->X7x p r=X7x q r/\Xgv p r=Xgv q r):∀ (l:List (List Xs)) (k:Nat),(∀ x∈l,∀ e∈x,rI e.Record)->Xb8 p k l=Xb8 q k l
 |[],_,_=>rfl
 |x::l,k,h=>by
  have hs:X5o p (k:Int)=X5o q (k:Int):=by unfold X5o;rw[hj]
  rw[Xb8,Xb8,Xug hj hc l (k+1) λy hy=>h y (List.mem_cons_of_mem _ hy),hs,Xze hc _ (Xb6 x) λr hr=>by
   unfold Xb6 at hr;split at hr
   ·exact Xz9 x _ (h x List.mem_cons_self) r hr
   ·cases hr]
theorem X02b {n:Xn} {L:List Pu} {es:List X3} (h:X7y n L es):X7y (tum n) L es:=by
 by_cases hk:n.Kind=2/\n.Size=n.Every
 ·rw[X0d9 hk.1 hk.2];have e:∀ T s,Xcq ⟨1,n.Size,0⟩ T s↔Xcq n T s:=λT s=>by
   grind [Xcq,Xdg]
  exact⟨h.sorted,λx=>(h.mem x).trans (by unfold Xts;rw[e]),λh3=>by cases h3⟩
 ·rw[X08l hk];exact h
theorem Xpa {q:Xb} {a w a' w':Option Ex} {n n':Xn} (h:Rr q a w n) (h':Rr q a' w' n') {l:List (List Xs)} (hlen:l.length=q.Sources.length) (hev:∀ x∈l,chk x=0/\x.length<=60) (hR:∀ x∈l,∀ e∈x,rI e.Record)
  (hc:∀ r,rI r->cw w' r=cw w r/\va a' r=va a r) (hn:n'=n\/n'=tum n) {A:List X5v} {B:List X9} {e:Int} (hE:X12 (mkQ q a w n) l=some (A,B,e)):X12 (mkQ q a' w' n') l=some (A,B,0)/\A.length<=3900/\B.length<=4000/\e=0:=by
 have r1:RI (mkQ q a w n) l:=⟨⟨h.qw,by rw[h.chk]⟩,hlen,hev⟩;have r2:RI (mkQ q a' w' n') l:=⟨⟨h'.qw,by rw[h'.chk]⟩,hlen,hev⟩;obtain⟨es,c1,n1,_⟩:=Xas r1
 have hp:Xb8 (mkQ q a' w' n') 0 l=Xb8 (mkQ q a w n) 0 l:=Xug (p:=mkQ q a' w' n') (q:=mkQ q a w n) rfl (λr hr=>by
  obtain⟨x1,x2⟩:=hc r hr
  rw[Xni (q:=q) (a:=a) (n:=n) h.tw hr,Xni (q:=q) (a:=a') (n:=n') h'.tw hr,Xue h hr,Xue h' hr,x1,x2];exact⟨rfl,rfl⟩) l 0 hR
 have c2:X7y n' (Xb8 (mkQ q a' w' n') 0 l) es:=by
  rw[hp];rcases hn with rfl|rfl
  ·exact c1
  ·exact X02b c1
 obtain⟨_,_,e1⟩:=X6p r1 c1;obtain⟨_,_,e2⟩:=X6p r2 c2;rw[hE] at e1;simp only[Option.some.injEq,Prod.mk.injEq] at e1;obtain⟨rfl,rfl,rfl⟩:=e1;refine⟨e2,?_,?_,rfl⟩
 ·grind [Xmw,emit,Xko,Xp4,Xcv,List.length_filter_le]
 ·unfold Xuy;split
  ·have:=Xqg l λx hx=>(hev x hx).2;have:=Xjw h.src;omega
  grind
theorem X09i {q:Xb} {a w:Option Ex} {n:Xn} (h:Rr q a w n) {l:List (List Xs)} (hlen:l.length=q.Sources.length) (hev:∀ x∈l,chk x=0/\x.length<=60) (hR:∀ x∈l,∀ e∈x,rI e.Record)
  {A:List X5v} {B:List X9} (hE:X12 (mkQ q a w n) l=some (A,B,0)) {r:Int} (hr:r=1\/r=2\/r=3):X12 (Xnw q a w n r) l=some (A,B,0)/\X37 (Xnw q a w n r)=some true:=by
 unfold Xnw;rcases hr with rfl|rfl|rfl
 ·rw[if_pos rfl];exact⟨(Xpa h h.m1 hlen hev hR (λr hr=>⟨(X046 h.tw hr).1,(X046 h.ta hr).2⟩) (.inl rfl) hE).1,h.m1.rt⟩
 ·rw[if_neg (by decide),if_pos rfl];exact⟨(Xpa h h.m2 hlen hev hR (λr _=>⟨X01v h.tw r,rfl⟩) (.inl rfl) hE).1,h.m2.rt⟩
 ·rw[if_neg (by decide),if_neg (by decide)];exact⟨(Xpa h h.m3 hlen hev hR (λ_ _=>⟨rfl,rfl⟩) (.inr rfl) hE).1,h.m3.rt⟩
theorem Xcz (q:Xb) (l:List (List Xs)) (r:Int) (wq:Xfa q) (wl:(List.length l<=maxLen/\∀ y∈l,(List.length y<=maxLen/\∀ yy∈y,Xfb yy))) {P:Prop} (_:P):X4u q l r=some true:=by
 have hq:=X0hh wq;obtain⟨hA,hW⟩:=wfN wq;obtain⟨b,hb,hb2⟩:=rt23 hq;unfold X4u;rw[show Xf1=some true from rfl,Yo,hb,Yo]
 cases b with
 |false=>rfl
 |true =>
  obtain⟨g,hg,hg2⟩:=Xm1 l;rw[hg]
  cases g with
  |true=>rfl
  |false =>
   obtain⟨hl6,_⟩:=hg2 rfl;rw[Xq8 hq om,if_neg (by simp[hb2 rfl])];simp only[Bool.not_true,cond_false,Yo];by_cases hlen:l.length=q.Sources.length
   ·rw[if_neg om];by_cases hw:Xci l=0
    ·have hev:∀ x∈l,chk x=0/\x.length<=60:=λx hx=>⟨Xbs.1 hw x hx,(X087.1 (Xbs.1 hw x hx)).1⟩;have hR:∀ x∈l,∀ e∈x,rI e.Record:=λx hx e he=>by
      have:=(wl.2 x hx).2 e he;obtain⟨_,_,h1,h2,h3⟩:=this;exact⟨⟨(X9a h1).2,(X9a h1).1⟩,⟨(X9a h2).2,(X9a h2).1⟩,⟨(X9a h3).2,(X9a h3).1⟩⟩
     obtain⟨a,w,hr,he⟩:=X04g hA hW (hb2 rfl);have ri:RI q l:=⟨⟨hq,hb2 rfl⟩,hlen,hev⟩;obtain⟨es,c1,_,_⟩:=Xas ri;obtain⟨_,_,e0⟩:=X6p ri c1;have e1:=e0;rw[he] at e1;generalize emit (Xko Xp4 l) (Xcv (mkQ q a w q.Window) es)=A,Xuy (mkQ q a w q.Window) l=B at e1;rw[<-he] at e1;have e2:=e1;rw[he] at e2;obtain⟨e3,hA1,hB1,_⟩:=Xpa hr hr.all hlen hev hR (λr hr'=>⟨(X01v hr.tw.fd r).trans (X046 hr.tw hr').1,(X046 hr.ta hr').2⟩) (.inr rfl) e2;have r0:=X0g6 hr;rw[<-he] at r0;have s1:=Xyz (a:=A) om;have s2:=X04f (a:=B) om;have t1:X37 (allQ q a w q.Window)=some true:=hr.all.rt;have e3:X12 (allQ q a w q.Window) l=some (A,B,0):=e3;rw[hw];simp only[bne_self_eq_false,cond_false,cond_true,Bool.not_true,Yo,e1,r0,e3,t1,s1,s2];by_cases hrr:r=1\/r=2\/r=3
     ·obtain⟨e4,t2⟩:=X09i hr hlen hev hR e2 hrr;have r1:=Xji hr hrr;rw[<-he] at r1;simp only[r1,e4,t2,s1,s2,bne_self_eq_false,beq_self_eq_true,cond_false,cond_true,Bool.not_true,Yo]
     ·have r1:=Xxz hr hrr;rw[<-he] at r1;rw[r1];have e:(bif (decide (r<(1:Int))) then true else (decide (r>(3:Int))))=true:=by
       by_cases h1:r<1
       ·rw[Yt h1];rfl
       ·rw[Yf h1,Yt (show r>3 by omega)];rfl
      simp only[e,Yo,show((2:Int) != 0)=true from rfl,cond_true]
    ·rw[Xpe hw];rfl
   ·rw[if_pos hlen];rfl
end Go.D
