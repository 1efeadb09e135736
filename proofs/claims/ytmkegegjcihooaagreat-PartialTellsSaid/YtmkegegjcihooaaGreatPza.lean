/- Parts of the proof, laid together. -/
import Derived.Test.YtmkegegjcihooaaGreatDFunZ
set_option linter.all false

namespace Go.D
theorem X0z {z:Int} (h1 : -9223372036854775808<=z) (h2:z<=9223372036854775807):IntKind.i64.wrap z=z:=Go.IntWalk.i64_in z ⟨h1,h2⟩
theorem X24 {n:Nat} (h:n<=140737488355328):X4k n=some ():=by unfold X4k;rw[if_pos h]
theorem X4u {n b:Nat} (h:n*b<=140737488355328):X0a n b=some ():=by unfold X0a;rw[if_pos h]
theorem X4y {α:Type} (l:List α) (k:Nat):X14 l (k:Int)=l[k]?:=by simp[X14]
def okW (w:X5v):Prop:=1<=w.Size/\w.Size<=1073741824/\((w.Kind=2/\1<=w.Every/\w.Every<=w.Size/\w.Size<=16*w.Every)\/((w.Kind=1\/w.Kind=3)/\w.Every=0))
theorem Xw7 {a b:Int} (h:¬ a=b):(a != b)=true:=by simp[h]
theorem lz {n:Nat} (h:0<n):((n:Int)==0)=false:=by simp;omega
theorem lz' {n:Nat} (h:¬ 0<n):((n:Int)==0)=true:=by simp;omega
theorem Xe1 {w:X5v} (h:okW w):X1e w=some 0:=by
 obtain⟨h1,h2,h3⟩:=h;have e1:decide (w.Size<1)=false:=by simp;omega
 have e2:decide (w.Size>1073741824)=false:=by simp;omega
 simp only[X1e,e1,e2,cond_false];rcases h3 with ⟨k,a1,a2,a3⟩|⟨k|k,a⟩
 ·have e3:(w.Kind==2)=true:=by simp[k]
  have e4:decide (w.Every >= 1)=true:=by simp;omega
  have e5:decide (w.Every<=w.Size)=true:=by simp;omega
  have e6:decide (w.Size<=IntKind.i64.wrap (16*w.Every))=true:=by rw[X0z om om];simp;omega
  simp only[e3,e4,e5,e6,cond_true]
 ·have e3:(w.Kind==2)=false:=by simp[k]
  have e4:(w.Kind==1)=true:=by simp[k]
  have e5:(w.Every==0)=true:=by simp[a]
  simp only[e3,e4,e5,cond_true,cond_false]
 ·have e3:(w.Kind==2)=false:=by simp[k]
  have e4:(w.Kind==1)=false:=by simp[k]
  have e6:(w.Kind==3)=true:=by simp[k]
  have e5:(w.Every==0)=true:=by simp[a]
  simp only[e3,e4,e5,e6,cond_true,cond_false]
end Go.D


namespace Go.D
theorem Xrc (x y:X02):X94 x y=decide (x=y):=by
 obtain⟨a,b,c,d,e⟩:=x;obtain⟨f,g,h,i,j⟩:=y;rw[Bool.eq_iff_iff];simp[X94,and_assoc]
theorem Xp6 {α:Type} {l:List α} {k:Nat} (h:k<=l.length):X8h l 0 (k:Int)=some (l.take k):=by
 unfold X8h;rw[if_pos ⟨by omega,by omega,by simpa using h⟩];simp
theorem Xij {α:Type} {l:List α} {k:Nat} (h:k<=l.length):X8h l (k:Int) (l.length:Int)=some (l.drop k):=by
 unfold X8h;rw[if_pos ⟨by omega,by omega,by simp⟩];simp only[Int.toNat_natCast];rw[List.take_of_length_le (by rw[List.length_drop];exact Nat.le_refl _)]
def okN (x:X02) (a b:Int):Prop:=1<=x.Kind/\x.Kind<=19/\0<=x.N/\(x.N=0\/x.Kind=1)/\0<=x.At/\x.At<=400/\x.A=a/\x.B=b
instance (x:X02) (a b:Int):Decidable (okN x a b):=by unfold okN;infer_instance
theorem Xp9 (x:X02) (a b:Int):X7o x a b=some (decide (okN x a b)):=by
 unfold X7o okN;congr 1
 rw[Bool.eq_iff_iff];by_cases h1:1<=x.Kind<;>by_cases h2:x.Kind<=19<;>by_cases h3:0<=x.N<;>by_cases h4:x.N=0<;>by_cases h5:0<=x.At<;>by_cases h6:x.At<=400<;>simp[h1,h2,h3,h4,h5,h6,and_assoc]
def nst (sd:List (Nat×Nat)) (x:X02):Option (Nat×Nat) :=
 if x.Kind<=4 then (if okN x 0 0 then some (1,1) else none)
 else match sd.getLast? with
  |none=>none
  |some (s2,d2) =>
   if x.Kind<=6 then (if okN x ((sd.length:Int) - 1) 0 then some (1+s2,1+d2) else none)
   else if sd.length - 1<s2 then none
   else match sd[sd.length - 1 - s2]? with
    |none=>none
    |some (s1,d1)=>if okN x ((sd.length:Int) - 1 - s2) ((sd.length:Int) - 1) then some (1+s2+s1,max (1+d2) (1+d1)) else none
def Xob:List X02->List (Nat×Nat)->Option (List (Nat×Nat))
 |[],sd=>some sd
 |x::xs,sd=>match nst sd x with
  |some q=>Xob xs (sd++[q])
  |none=>none
def Xai (j:Nat) (q:Nat×Nat):Xh:=⟨(j:Int),(q.1:Int),(q.2:Int)⟩
inductive Xd7 (sd:List (Nat×Nat)):Nat->List Xh->Prop
 |nil:Xd7 sd 0 []
 |snoc {j:Nat} {q:Nat×Nat} {st:List Xh} (hq:sd[j]?=some q) (h1:1<=q.1) (h2:q.1<=j+1) (h3:q.2<=q.1) (h:Xd7 sd (j+1 - q.1) st):Xd7 sd (j+1) (st++[Xai j q])
theorem Xd7.more {sd sd':List (Nat×Nat)} {k:Nat} {st:List Xh} (h:Xd7 sd k st) (hs:∀ j,j<k->sd'[j]?=sd[j]?):Xd7 sd' k st:=by
 induction h with
 |nil=>exact .nil
 |@snoc j q st hq h1 h2 h3 _ ih=>exact .snoc (by rw[hs j om];exact hq) h1 h2 h3 (ih λi hi=>hs i om)
theorem Xd7.app {sd e:List (Nat×Nat)} {k:Nat} {st:List Xh} (h:Xd7 sd k st) (hk:k<=sd.length):Xd7 (sd++e) k st:=h.more λj hj=>List.getElem?_append_left om
theorem Xd7.len {sd:List (Nat×Nat)} {k:Nat} {st:List Xh} (h:Xd7 sd k st):st.length<=k:=by
 induction h with
 |nil=>simp
 |snoc hq h1 h2 h3 _ ih=>simp;omega
theorem Xms {k:Nat} (h:1<=k) (hk:k<=1000000):IntKind.i64.wrap ((k:Int) - 1)=((k - 1:Nat):Int):=by rw[X0z om om];omega
theorem X03e {x:X02} (h0:0<=x.Kind):Xcb x.Kind=some (if 1<=x.Kind/\x.Kind<=19 then ((if x.Kind<=4 then 0 else if x.Kind<=6 then 1 else 2),0) else (0,2)):=by
 unfold Xcb;by_cases h1:1<=x.Kind
 ·by_cases h4:x.Kind<=4
  ·simp[h1,h4,show x.Kind<=19 by omega]
  ·by_cases h6:x.Kind<=6
   ·have:(bif x.Kind==5 then true else x.Kind==6)=true:=by
     rcases(by omega:x.Kind=5\/x.Kind=6) with h|h<;>simp[h]
    simp[h1,h4,h6,this,show x.Kind<=19 by omega]
   ·have e5:(bif x.Kind==5 then true else x.Kind==6)=false:=by
     have a:(x.Kind==5)=false:=by simp;omega
     have b:(x.Kind==6)=false:=by simp;omega
     rw[a,b];rfl
    by_cases h19:x.Kind<=19
    ·simp[h1,h4,h6,e5,h19,show(7:Int)<=x.Kind by omega]
    ·simp[h1,h4,h6,e5,h19]
 ·have e:x.Kind=0:=by omega
  simp[e]
theorem Xyc {x : X02} {a b : Int} (h1 : 1 <= x.Kind) (h2 : x.Kind <= 19) :
    ((bif (x.Kind==(1:Int)) then (some (X02.mk x.Kind (if 0>x.N then 0 else x.N) a b (if 400<(if 0>x.At then 0 else x.At) then 400 else (if 0>x.At then 0 else x.At)))) else (some (X02.mk x.Kind 0 a b (if 400<(if 0>x.At then 0 else x.At) then 400 else (if 0>x.At then 0 else x.At)))):Option (X02)).bind λo=>some (X94 o x))=some (decide (okN x a b)):=by
  obtain⟨K,N,A,B,At⟩:=x;have hat:((if 400<(if 0>At then 0 else At) then 400 else (if 0>At then 0 else At))=At)↔(0<=At/\At<=400):=by
    by_cases g1:0>At
    · rw[if_pos g1];constructor
      · intro h;exfalso;split at h<;>omega
      · intro h;omega
    · rw[if_neg g1];split<;>omega
  have hn:((if 0>N then 0 else N)=N)↔0<=N:=by split<;>omega
  have key:∀ n':Int,(n'=N↔(0<=N/\(N=0\/K=1)))->(some (X94 (X02.mk K n' a b (if 400<(if 0>At then 0 else At) then 400 else (if 0>At then 0 else At))) ⟨K,N,A,B,At⟩):Option Bool)=some (decide (okN ⟨K,N,A,B,At⟩ a b)):=by
    intro n' hn';rw[Xrc];congr 1
    apply decide_eq_decide.2;rw[X02.mk.injEq,hat,hn'];unfold okN;constructor
    · rintro⟨_,⟨g1,g2⟩,hA,hB,g3,g4⟩
      exact⟨h1,h2,g1,g2,g3,g4,hA.symm,hB.symm⟩
    · rintro⟨_,_,g1,g2,g3,g4,hA,hB⟩
      exact⟨rfl,⟨g1,g2⟩,hA.symm,hB.symm,g3,g4⟩
  by_cases hk:K=1
  · have:(K==1)=true:=by simp[hk]
    show(Option.bind (bif (K==1) then _ else _) _)=_;rw[this,cond_true,Yo];exact key _ (by rw[hn];simp[hk])
  · have:(K==1)=false:=by simp[hk]
    show(Option.bind (bif (K==1) then _ else _) _)=_;rw[this,cond_false,Yo]
    exact key _ (by constructor
                    · intro h;omega
                    · rintro⟨_,h⟩;rcases h with h|h<;>omega)
theorem Xq0 {β:Type} {o:Option X02} {x:X02} {d:Bool} {f g:Option β} (h:(o.bind λz=>some (X94 z x))=some d):(o.bind λz=>bif (!(X94 z x)) then f else g)=bif d then g else f:=by
 cases o with
 |none=>cases h
 |some z =>
  simp only[Yo,Option.some.injEq] at h;rw[Yo,h];cases d<;>rfl
def X7u (sd:List (Nat×Nat)):List Xh:=sd.mapIdx Xai
theorem Xs0 (sd:List (Nat×Nat)) (q:Nat×Nat):X7u (sd++[q])=X7u sd++[Xai sd.length q]:=by unfold X7u;simp
theorem Xuv (sd:List (Nat×Nat)):(X7u sd).length=sd.length:=by unfold X7u;simp
theorem Xd7.inv {sd:List (Nat×Nat)} {k:Nat} {st:List Xh} (h:Xd7 sd k st) (hk:0<k):∃ q st0,sd[k - 1]?=some q/\1<=q.1/\q.1<=k/\q.2<=q.1/\Xd7 sd (k - q.1) st0/\st=st0++[Xai (k - 1) q]:=by
 cases h with
 |nil=>omega
 |@snoc j q st0 hq h1 h2 h3 h=>exact⟨q,st0,hq,h1,h2,h3,h,rfl⟩
theorem Xd7.zero {sd:List (Nat×Nat)} {st:List Xh} (h:Xd7 sd 0 st):st=[]:=by
 cases h;rfl
theorem X05j (Y : List X02) : ∀ (xs : List X02) (sd : List (Nat × Nat)) (st : List Xh), (∀ x ∈ xs, 0 <= x.Kind) -> sd.length + xs.length <= 1000 -> Xd7 sd sd.length st -> (∀ j q, sd[j]? = some q -> 1 <= q.1 /\ q.1 <= j + 1 /\ q.2 <= q.1) ->
    match Xob xs sd with
    |some sd'=>∃ st',X1z Y xs sd.length (X7u sd) st=some (.x0 (X7u sd') st')/\Xd7 sd' sd'.length st'
    |none=>∃ all,X1z Y xs sd.length (X7u sd) st=some (.x1 all):=by
  intro xs
  induction xs with
  |nil=>intro sd st _ _ hc _;exact⟨st,rfl,hc⟩
  |cons x xs ih =>
    intro sd st h0 hn hc hb;simp only[List.length_cons] at hn;have hx:=h0 x List.mem_cons_self;rw[X1z,X03e hx];have go : ∀ (q : Nat × Nat) (st0 : List Xh), nst sd x = some q -> Xd7 (sd ++ [q]) (sd.length + 1) (st0 ++ [Xai sd.length q]) -> 1 <= q.1 -> q.1 <= sd.length + 1 -> q.2 <= q.1 ->
        (match Xob (x::xs) sd with
          |some sd'=>∃ st',X1z Y xs (sd.length+1) (X7u sd++[Xai sd.length q]) (st0++[Xai sd.length q])=some (.x0 (X7u sd') st')/\Xd7 sd' sd'.length st'
          |none=>∃ all,X1z Y xs (sd.length+1) (X7u sd++[Xai sd.length q]) (st0++[Xai sd.length q])=some (.x1 all)):=by
      intro q st0 hq hc2 g1 g2 g3
      have:=ih (sd++[q]) (st0++[Xai sd.length q]) (λy hy=>h0 y (List.mem_cons_of_mem _ hy)) (by simp;omega) (by simpa using hc2) (λj q' hj=>by
        rw[List.getElem?_append] at hj;split at hj
        · exact hb j q' hj
        · rename_i hlt
          have:j=sd.length:=by
            have:=(Ys.1 hj).1;simp at this;omega
          subst this
          simp at hj;subst hj;exact⟨g1,g2,g3⟩)
      rw[Xs0,List.length_append] at this;unfold Xob;rw[hq];exact this
    have stop:nst sd x=none->∀ {o:Option X69},(∃ all,o=some (.x1 all))->(match Xob (x::xs) sd with
          |some sd'=>∃ st',o=some (.x0 (X7u sd') st')/\Xd7 sd' sd'.length st'
          |none=>∃ all,o=some (.x1 all)):=by
      intro hq o h;unfold Xob;rw[hq];exact h
    have cap:∀ (l:List Xh) (t:Xh),l.length<=2000->X0a (List.length (l++[t])) 24=some ():=λl t hl=>X4u (by simp;omega);have hla:(X7u sd).length<=2000:=by unfold X7u;simp;omega
    have hst:=hc.len;by_cases hr:1<=x.Kind/\x.Kind<=19
    · rw[if_pos hr]
      simp only[Yo,bne_self_eq_false,cond_false];by_cases h4:x.Kind<=4
      · -- no parts
        have e1:decide ((if x.Kind<=4 then (0:Int) else if x.Kind<=6 then 1 else 2)>(st.length:Int))=false:=by rw[if_pos h4];simp
        rw[e1,cond_false,if_pos h4];have e2:IntKind.i64.wrap ((st.length:Int) - 0)=(st.length:Int):=by rw[X0z om om];omega
        rw[e2,Xp6 (Nat.le_refl _),Xij (Nat.le_refl _),List.take_length,List.drop_length];simp only[Yo,List.isEmpty_nil,cond_true];rw[Xq0 (Xyc hr.1 hr.2)];by_cases hok:okN x 0 0
        · rw[Yt hok,cond_true,cap st _ om,cap _ _ hla]
          exact go (1,1) st (by unfold nst;rw[if_pos h4,if_pos hok]) (.snoc (by simp) (Nat.le_refl _) om (Nat.le_refl _) (by simpa using hc.app (Nat.le_refl _))) (Nat.le_refl _) om (Nat.le_refl _)
        · rw[Yf hok,cond_false]
          exact stop (by unfold nst;rw[if_pos h4,if_neg hok]) ⟨_,rfl⟩
      · have hgl:0<sd.length->∃ q,sd.getLast?=some q/\sd[sd.length - 1]?=some q:=by
          intro h;refine⟨sd[sd.length - 1]' om,?_,?_⟩
          · rw[List.getLast?_eq_getElem?];exact Ye _
          · exact Ye _
        by_cases h6:x.Kind<=6
        · -- one part
          rw[if_neg h4,if_pos h6];by_cases hl:sd.length=0
          · rw[hl] at hc
            have:=hc.zero;subst this;simp only[List.length_nil];exact stop (by unfold nst;rw[if_neg h4,List.eq_nil_of_length_eq_zero hl];rfl) ⟨_,rfl⟩
          · obtain⟨q,st0,hq,g1,g2,g3,hc0,rfl⟩:=hc.inv om
            obtain⟨q',hq1,hq2⟩:=hgl om;rw[hq] at hq2;cases hq2;have hs0:=hc0.len;have e1:decide ((1:Int)>((st0++[Xai (sd.length - 1) q]).length:Int))=false:=by simp;omega
            rw[e1,cond_false];have e2:IntKind.i64.wrap (((st0++[Xai (sd.length - 1) q]).length:Int) - 1)=(st0.length:Int):=by
              rw[X0z (by rw[List.length_append,List.length_singleton];omega) (by rw[List.length_append,List.length_singleton];omega),List.length_append,List.length_singleton];omega
            rw[e2,Xp6 (by simp),Xij (by simp),List.take_left,List.drop_left];simp only[Yo,List.isEmpty_cons,cond_false,List.length_singleton];rw[show(((1:Nat):Int)==1)=true from rfl,cond_true];rw[show X14 [Xai (sd.length - 1) q] 0=some (Xai (sd.length - 1) q) from rfl,Yo];rw[Xq0 (Xyc hr.1 hr.2)];have ea:(Xai (sd.length - 1) q).at_=(sd.length:Int) - 1:=by unfold Xai;simp only;omega
            rw[ea];by_cases hok:okN x ((sd.length:Int) - 1) 0
            · have e3:(Xh.mk (sd.length:Int) (IntKind.i64.wrap (1+(Xai (sd.length - 1) q).size)) (if (IntKind.i64.wrap ((Xai (sd.length - 1) q).depth+1))>1 then (IntKind.i64.wrap ((Xai (sd.length - 1) q).depth+1)) else 1))=Xai sd.length (1+q.1,1+q.2):=by
                unfold Xai;simp only;rw[X0z om om,X0z om om];congr 1
                split<;>omega
              rw[Yt hok,cond_true,e3,cap st0 _ om,cap _ _ hla];refine go (1+q.1,1+q.2) st0 (by unfold nst;rw[if_neg h4,hq1];simp only;rw[if_pos h6,if_pos hok]) (.snoc (by simp) (by simp only;omega) (by simp only;omega) (by simp only;omega) ?_) (by simp only;omega) (by simp only;omega) (by simp only;omega);have:=hc0.app (e:=[(1+q.1,1+q.2)]) om;simp only;rw[show sd.length+1 - (1+q.1)=sd.length - q.1 by omega];exact this
            · rw[Yf hok,cond_false]
              exact stop (by unfold nst;rw[if_neg h4,hq1];simp only;rw[if_pos h6,if_neg hok]) ⟨_,rfl⟩
        · -- two parts
          rw[if_neg h4,if_neg h6];by_cases hl:sd.length=0
          · rw[hl] at hc
            have:=hc.zero;subst this;simp only[List.length_nil];exact stop (by unfold nst;rw[if_neg h4,List.eq_nil_of_length_eq_zero hl];rfl) ⟨_,rfl⟩
          · obtain⟨q,st1,hq,g1,g2,g3,hc1,rfl⟩:=hc.inv om
            obtain⟨q',hq1,hq2⟩:=hgl om;rw[hq] at hq2;cases hq2;by_cases hl1:sd.length - q.1=0
            · rw[hl1] at hc1
              have:=hc1.zero;subst this;exact stop (by unfold nst;rw[if_neg h4,hq1];simp only;rw[if_neg h6,if_pos om]) ⟨_,rfl⟩
            · obtain⟨p,st0,hp,f1,f2,f3,hc0,rfl⟩:=hc1.inv om
              have hs0:=hc0.len;rw[List.append_assoc];have e1:decide ((2:Int)>((st0++([Xai (sd.length - q.1 - 1) p]++[Xai (sd.length - 1) q])).length:Int))=false:=by simp;omega
              rw[e1,cond_false];have e2:IntKind.i64.wrap (((st0++([Xai (sd.length - q.1 - 1) p]++[Xai (sd.length - 1) q])).length:Int) - 2)=(st0.length:Int):=by
                rw[X0z (by simp only[List.length_append,List.length_singleton];omega) (by simp only[List.length_append,List.length_singleton];omega)];simp only[List.length_append,List.length_singleton];omega
              rw[e2,Xp6 (by simp),Xij (by simp),List.take_left,List.drop_left];simp only[Yo,List.singleton_append,List.isEmpty_cons,cond_false,List.length_cons,List.length_nil];rw[show((((0:Nat)+1+1:Nat):Int)==1)=false from rfl,show((((0:Nat)+1+1:Nat):Int)==2)=true from rfl,cond_false,cond_true];rw[show X14 [Xai (sd.length - q.1 - 1) p,Xai (sd.length - 1) q] 0=some (Xai (sd.length - q.1 - 1) p) from rfl,show X14 [Xai (sd.length - q.1 - 1) p,Xai (sd.length - 1) q] 1=some (Xai (sd.length - 1) q) from rfl,Yo,Yo];rw[Xq0 (Xyc hr.1 hr.2)];have ea:(Xai (sd.length - 1) q).at_=(sd.length:Int) - 1:=by unfold Xai;simp only;omega
              have eb:(Xai (sd.length - q.1 - 1) p).at_=(sd.length:Int) - 1 - q.1:=by unfold Xai;simp only;omega
              rw[ea,eb];have hp':sd[sd.length - 1 - q.1]?=some p:=by rw[show sd.length - 1 - q.1=sd.length - q.1 - 1 by omega];exact hp
              by_cases hok:okN x ((sd.length:Int) - 1 - q.1) ((sd.length:Int) - 1)
              · have e3:(Xh.mk (sd.length:Int) (IntKind.i64.wrap ((IntKind.i64.wrap (1+(Xai (sd.length - q.1 - 1) p).size))+(Xai (sd.length - 1) q).size)) (if (IntKind.i64.wrap ((Xai (sd.length - 1) q).depth+1))>(if (IntKind.i64.wrap ((Xai (sd.length - q.1 - 1) p).depth+1))>1 then (IntKind.i64.wrap ((Xai (sd.length - q.1 - 1) p).depth+1)) else 1) then (IntKind.i64.wrap ((Xai (sd.length - 1) q).depth+1)) else (if (IntKind.i64.wrap ((Xai (sd.length - q.1 - 1) p).depth+1))>1 then (IntKind.i64.wrap ((Xai (sd.length - q.1 - 1) p).depth+1)) else 1)))=Xai sd.length (1+q.1+p.1,max (1+q.2) (1+p.2)):=by
                  unfold Xai;simp only;rw[X0z (z:=1+(p.1:Int)) om om,X0z om om,X0z om om,X0z om om];congr 1
                  · push_cast;omega
                  · split<;>split<;>omega
                rw[Yt hok,cond_true,e3,cap st0 _ om,cap _ _ hla];refine go (1+q.1+p.1,max (1+q.2) (1+p.2)) st0 (by unfold nst;rw[if_neg h4,hq1];simp only;rw[if_neg h6,if_neg om,hp'];simp only;rw[if_pos hok]) (.snoc (by simp) (by simp only;omega) (by simp only;omega) (by simp only;omega) ?_) (by simp only;omega) (by simp only;omega) (by simp only;omega);have:=hc0.app (e:=[(1+q.1+p.1,max (1+q.2) (1+p.2))]) om;simp only;rw[show sd.length+1 - (1+q.1+p.1)=sd.length - q.1 - p.1 by omega];exact this
              · rw[Yf hok,cond_false]
                exact stop (by unfold nst;rw[if_neg h4,hq1];simp only;rw[if_neg h6,if_neg om,hp'];simp only;rw[if_neg hok]) ⟨_,rfl⟩
    · rw[if_neg hr]
      have hno:nst sd x=none:=by
        have no:∀ a b,¬ okN x a b:=λa b h=>hr ⟨h.1,h.2.1⟩;unfold nst;simp only[no,if_false];split
        · rfl
        · split
          · rfl
          · split
            · rfl
            · split
              · rfl
              · split<;>rfl
      exact stop hno ⟨_,rfl⟩
def Xez (l:List X02):Int :=
 if l.length>60 then 4 else match Xob l [] with
  |none=>8
  |some sd=>match sd.getLast? with
   |none=>8
   |some q=>if q.1=l.length then (if q.2>20 then 34 else 0) else 8
theorem Xl0:∀ (xs:List X02) (sd sd':List (Nat×Nat)),Xob xs sd=some sd'->sd'.length=sd.length+xs.length
 |[],sd,sd',h=>by cases h;simp
 |x::xs,sd,sd',h=>by
  unfold Xob at h;split at h
  ·have:=Xl0 xs _ _ h;simp at this;simp;omega
  ·cases h
theorem Xuw {sd:List (Nat×Nat)} {i:Nat} {q:Nat×Nat} (h:sd[i]?=some q):X14 (X7u sd) (i:Int)=some (Xai i q):=by
 rw[X4y];unfold X7u;rw[List.getElem?_mapIdx,h];rfl
theorem Xne {l:List X02} (h0:∀ x∈l,0<=x.Kind):∃ t,Xca l=some (t,Xez l)/\(Xez l=0->∃ sd,Xob l []=some sd/\t=X7u sd):=by
 unfold Xca Xez;by_cases h60:l.length>60
 ·rw[Yt (show(l.length:Int)>60 by omega),cond_true,if_pos h60];exact⟨_,rfl,by omega⟩
 ·rw[Yf (show ¬ (l.length:Int)>60 by omega),cond_false,if_neg h60];have hL:=X05j l l [] [] h0 (by simp;omega) .nil (by simp);unfold Xg3;rw[X24 om]
  cases hr:Xob l [] with
  |none =>
   rw[hr] at hL;obtain⟨all,hL⟩:=hL;simp only[List.length_nil] at hL;rw[show X7u []=[] from rfl] at hL;rw[hL];exact⟨_,rfl,by simp⟩
  |some sd =>
   rw[hr] at hL;obtain⟨st,hL,hc⟩:=hL;simp only[List.length_nil] at hL;rw[show X7u []=[] from rfl] at hL;rw[hL];have hn:=Xl0 l [] sd hr;simp only[List.length_nil,Nat.zero_add] at hn;simp only[Yo];by_cases hz:sd.length=0
   ·have:sd=[]:=List.eq_nil_of_length_eq_zero hz;subst this;have:=hc.zero;subst this;exact⟨_,rfl,by simp⟩
   ·obtain⟨q,st0,hq,g1,g2,g3,hc0,rfl⟩:=hc.inv om;have hg:sd.getLast?=some q:=by rw[List.getLast?_eq_getElem?];exact hq
    rw[hg];simp only;have hst:(((st0++[Xai (sd.length - 1) q]).length:Int)==1)=decide (q.1=l.length):=by
     rw[Bool.eq_iff_iff];simp only[List.length_append,List.length_singleton,beq_iff_eq,decide_eq_true_eq];constructor
     ·intro h;have h1:st0.length=0:=by omega
      by_cases hk:sd.length - q.1=0
      ·omega
      ·obtain⟨_,s1,_,_,_,_,_,rfl⟩:=hc0.inv om;simp at h1
     ·intro h;rw[show sd.length - q.1=0 by omega] at hc0;rw[hc0.zero];rfl
    rw[hst];by_cases he:q.1=l.length
    ·rw[Yt he,if_pos he];simp only[Bool.not_true,cond_false];rw[show IntKind.i64.wrap (((X7u sd).length:Int) - 1)=((sd.length - 1:Nat):Int) by rw[Xuv,Xms om om]];rw[Xuw hq,Yo];by_cases hd:q.2>20
     ·rw[if_pos hd,show decide ((Xai (sd.length - 1) q).depth>20)=true from Yt (by unfold Xai;simp only;omega)];exact⟨_,rfl,by simp⟩
     ·rw[if_neg hd,show decide ((Xai (sd.length - 1) q).depth>20)=false from Yf (by unfold Xai;simp only;omega)];exact⟨_,rfl,λ_=>⟨sd,rfl,rfl⟩⟩
    ·rw[Yf he,if_neg he];exact⟨_,rfl,by simp⟩
theorem Xd2 {l:List X02} (h0:∀ x∈l,0<=x.Kind):X6a l=some (Xez l):=by
 obtain⟨t,h,_⟩:=Xne h0;unfold X6a;rw[h];rfl
def szs (sd:List (Nat×Nat)):List Int:=sd.map λq=>(q.1:Int)
def dps (sd:List (Nat×Nat)):List Int:=sd.map λq=>(q.2:Int)
theorem Xs1 {sd:List (Nat×Nat)} {i:Nat} {q:Nat×Nat} (h:sd[i]?=some q):X14 (szs sd) (i:Int)=some (q.1:Int):=by
 rw[X4y];unfold szs;rw[List.getElem?_map,h];rfl
theorem Xsz {sd:List (Nat×Nat)} {i:Nat} {q:Nat×Nat} (h:sd[i]?=some q):X14 (dps sd) (i:Int)=some (q.2:Int):=by
 rw[X4y];unfold dps;rw[List.getElem?_map,h];rfl
theorem X02i (Y : List X02) : ∀ (xs : List X02) (sd : List (Nat × Nat)), sd.length + xs.length <= 1000 -> (∀ j q, sd[j]? = some q -> 1 <= q.1 /\ q.1 <= j + 1 /\ q.2 <= q.1) ->
    match Xob xs sd with
    |some sd'=>X1d Y xs sd.length (szs sd) (dps sd)=some (.x0 (szs sd') (dps sd'))
    |none=>X1d Y xs sd.length (szs sd) (dps sd)=some (.x1 [] []):=by
  intro xs
  induction xs with
  |nil=>intro sd _ _;rfl
  |cons x xs ih =>
    intro sd hn hb;simp only[List.length_cons] at hn;rw[X1d];have go : ∀ (q : Nat × Nat), nst sd x = some q -> 1 <= q.1 -> q.1 <= sd.length + 1 -> q.2 <= q.1 ->
        (match Xob (x::xs) sd with
          |some sd'=>X1d Y xs (sd.length+1) (szs sd++[(q.1:Int)]) (dps sd++[(q.2:Int)])=some (.x0 (szs sd') (dps sd'))
          |none=>X1d Y xs (sd.length+1) (szs sd++[(q.1:Int)]) (dps sd++[(q.2:Int)])=some (.x1 [] [])):=by
      intro q hq g1 g2 g3
      have:=ih (sd++[q]) (by simp;omega) (λj q' hj=>by
        rw[List.getElem?_append] at hj;split at hj
        · exact hb j q' hj
        · rename_i hlt
          have:j=sd.length:=by
            have:=(Ys.1 hj).1;simp at this;omega
          subst this
          simp at hj;subst hj;exact⟨g1,g2,g3⟩)
      rw[List.length_append] at this;unfold Xob;rw[hq];unfold szs dps at this ⊢;rw[List.map_append,List.map_append] at this;exact this
    have stop:nst sd x=none->∀ {o:Option X5h},o=some (.x1 [] [])->(match Xob (x::xs) sd with
          |some sd'=>o=some (.x0 (szs sd') (dps sd'))
          |none=>o=some (.x1 [] [])):=by
      intro hq o h;unfold Xob;rw[hq];exact h
    have cap:∀ (l:List Int) (t:Int),l.length<=2000->X0a (List.length (l++[t])) 8=some ():=λl t hl=>X4u (by simp;omega);have hls:(szs sd).length<=2000:=by unfold szs;simp;omega
    have hld:(dps sd).length<=2000:=by unfold dps;simp;omega
    unfold Xec;by_cases h4:x.Kind<=4
    · rw[Yt h4,cond_true]
      simp only[Yo];rw[show decide ((0:Int)>0)=false from rfl,cond_false,Xp9,Yo];by_cases hok:okN x 0 0
      · rw[Yt hok,Bool.not_true,cond_false,cap _ _ hls,cap _ _ hld]
        exact go (1,1) (by unfold nst;rw[if_pos h4,if_pos hok]) (Nat.le_refl _) om (Nat.le_refl _)
      · rw[Yf hok,Bool.not_false,cond_true]
        exact stop (by unfold nst;rw[if_pos h4,if_neg hok]) rfl
    · rw[Yf h4,cond_false]
      have hgl:0<sd.length->∃ q,sd.getLast?=some q/\sd[sd.length - 1]?=some q:=by
        intro h;refine⟨sd[sd.length - 1]' om,?_,?_⟩
        · rw[List.getLast?_eq_getElem?];exact Ye _
        · exact Ye _
      by_cases hl:sd.length=0
      · have hnil:=List.eq_nil_of_length_eq_zero hl
        refine stop (by unfold nst;rw[if_neg h4,hnil];rfl) ?_;rw[hl];by_cases h6:x.Kind<=6
        · rw[Yt h6];rfl
        · rw[Yf h6];rfl
      · obtain⟨q,hq1,hq⟩:=hgl om
        obtain⟨g1,g2,g3⟩:=hb _ _ hq;have hw:IntKind.i64.wrap ((sd.length:Int) - 1)=((sd.length - 1:Nat):Int):=Xms om om;rw[hw];rw[show decide (((sd.length - 1:Nat):Int)<0)=false from Yf om,Xs1 hq,Xsz hq];simp only[cond_false];by_cases h6:x.Kind<=6
        · rw[Yt h6,cond_true]
          simp only[Yo];rw[show decide ((1:Int)>0)=true from rfl,cond_true,show((1:Int)==2)=false from rfl,cond_false,Xp9,Yo];rw[show((sd.length - 1:Nat):Int)=(sd.length:Int) - 1 by omega];by_cases hok:okN x ((sd.length:Int) - 1) 0
          · rw[Yt hok,Bool.not_true,cond_false,cap _ _ hls,cap _ _ hld]
            rw[X0z om om,X0z om om];have:=go (1+q.1,1+q.2) (by unfold nst;rw[if_neg h4,hq1];simp only;rw[if_pos h6,if_pos hok]) (by simp only;omega) (by simp only;omega) (by simp only;omega);simp only at this
            push_cast at this
            exact this
          · rw[Yf hok,Bool.not_false,cond_true]
            exact stop (by unfold nst;rw[if_neg h4,hq1];simp only;rw[if_pos h6,if_neg hok]) rfl
        · rw[Yf h6,cond_false]
          simp only[Yo];rw[show decide ((2:Int)>0)=true from rfl,cond_true,show((2:Int)==2)=true from rfl,cond_true];have hw2:IntKind.i64.wrap (((sd.length - 1:Nat):Int) - q.1)=(sd.length:Int) - 1 - q.1:=by rw[X0z om om];omega
          rw[hw2];by_cases hlt:sd.length - 1<q.1
          · rw[show decide ((sd.length:Int) - 1 - q.1<0)=true from Yt om,cond_true]
            exact stop (by unfold nst;rw[if_neg h4,hq1];simp only;rw[if_neg h6,if_pos hlt]) rfl
          · rw[show decide ((sd.length:Int) - 1 - q.1<0)=false from Yf om,cond_false]
            have hpe:sd[sd.length - 1 - q.1]?=some (sd[sd.length - 1 - q.1]' om):=Ye _;generalize sd[sd.length - 1 - q.1]' om=p at hpe;obtain⟨f1,f2,f3⟩:=hb _ _ hpe;rw[show(sd.length:Int) - 1 - q.1=((sd.length - 1 - q.1:Nat):Int) by omega,Xs1 hpe,Xsz hpe];simp only[Yo];rw[Xp9,Yo];rw[show((sd.length - 1 - q.1:Nat):Int)=(sd.length:Int) - 1 - q.1 by omega,show((sd.length - 1:Nat):Int)=(sd.length:Int) - 1 by omega];by_cases hok:okN x ((sd.length:Int) - 1 - q.1) ((sd.length:Int) - 1)
            · rw[Yt hok,Bool.not_true,cond_false,cap _ _ hls,cap _ _ hld]
              rw[X0z (z:=1+(q.1:Int)) om om,X0z (z:=1+(q.1:Int)+p.1) om om,X0z om om,X0z om om];have:=go (1+q.1+p.1,max (1+q.2) (1+p.2)) (by unfold nst;rw[if_neg h4,hq1];simp only;rw[if_neg h6,if_neg hlt,hpe];simp only;rw[if_pos hok]) (by simp only;omega) (by simp only;omega) (by simp only;omega);simp only at this;rw[show((1+q.1+p.1:Nat):Int)=1+(q.1:Int)+p.1 by omega,show((max (1+q.2) (1+p.2):Nat):Int)=(if 1+(p.2:Int)>1+q.2 then 1+(p.2:Int) else 1+q.2) by split<;>omega] at this;exact this
            · rw[Yf hok,Bool.not_false,cond_true]
              exact stop (by unfold nst;rw[if_neg h4,hq1];simp only;rw[if_neg h6,if_neg hlt,hpe];simp only;rw[if_neg hok]) rfl
theorem Xd0 {l:List X02}:X5a l=some (Xez l):=by
 unfold X5a Xez;by_cases h60:l.length>60
 ·rw[Yt (show(l.length:Int)>60 by omega),cond_true,if_pos h60]
 ·rw[Yf (show ¬ (l.length:Int)>60 by omega),cond_false,if_neg h60];have hL:=X02i l l [] (by simp;omega) (by simp);unfold Xeb;rw[X24 om]
  cases hr:Xob l [] with
  |none =>
   rw[hr] at hL;simp only[List.length_nil] at hL;rw[show szs []=[] from rfl,show dps []=[] from rfl] at hL;rw[Yo,hL];rfl
  |some sd =>
   rw[hr] at hL;simp only[List.length_nil] at hL;rw[show szs []=[] from rfl,show dps []=[] from rfl] at hL;rw[Yo,hL];have hn:=Xl0 l [] sd hr;simp only[List.length_nil,Nat.zero_add] at hn;simp only[Yo];by_cases hz:l.length=0
   ·rw[List.eq_nil_of_length_eq_zero (hn.trans hz),List.eq_nil_of_length_eq_zero hz];rfl
   ·have hq:sd[sd.length - 1]?=some (sd[sd.length - 1]' om):=Ye _;generalize sd[sd.length - 1]' om=q at hq;have hg:sd.getLast?=some q:=by rw[List.getLast?_eq_getElem?];exact hq
    rw[hg];have hw:IntKind.i64.wrap ((l.length:Int) - 1)=((sd.length - 1:Nat):Int):=by rw[<-hn];exact Xms om om
    rw[show decide ((l.length:Int)>0)=true from Yt om,cond_true,hw,Xs1 hq];simp only[Yo,cond_true];rw[Xsz hq];by_cases he:q.1=l.length
    ·rw[if_pos he,show((q.1:Int)==(l.length:Int))=true by rw[he];simp,Bool.not_true,cond_false];by_cases hd:q.2>20
     ·rw[if_pos hd,Yo,Yt (show(q.2:Int)>20 by omega)];rfl
     ·rw[if_neg hd,Yo,Yf (show ¬ (q.2:Int)>20 by omega)];rfl
    ·rw[if_neg he,show((q.1:Int)==(l.length:Int))=false by simp;omega,Bool.not_false,cond_true]
end Go.D


namespace Go.D
theorem X09w {sd:List (Nat×Nat)} {x:X02} {q:Nat×Nat} (h:nst sd x=some q):∃ a b,okN x a b/\(x.Kind<=4->a=0/\b=0)/\(5<=x.Kind->0<sd.length/\(x.Kind<=6->a=(sd.length:Int) - 1/\b=0)/\(7<=x.Kind->0<=a/\a<=(sd.length:Int) - 1/\b=(sd.length:Int) - 1)):=by
 unfold nst at h;split at h
 ·rename_i h4;split at h
  ·rename_i ho;exact⟨0,0,ho,λ_=>⟨rfl,rfl⟩,λh5=>by omega⟩
  ·cases h
 ·rename_i h4;split at h
  ·cases h
  ·rename_i s2 d2 hg;have hl:0<sd.length:=by
    cases sd with
    |nil=>cases hg
    |cons=>simp
   split at h
   ·rename_i h6;split at h
    ·rename_i ho;exact⟨_,_,ho,λh4'=>absurd h4' h4,λ_=>⟨hl,λ_=>⟨rfl,rfl⟩,λh7=>by omega⟩⟩
    ·cases h
   ·rename_i h6;split at h
    ·cases h
    ·rename_i hlt;split at h
     ·cases h
     ·split at h
      ·rename_i ho;exact⟨_,_,ho,λh4'=>absurd h4' h4,λ_=>⟨hl,λh6'=>absurd h6' h6,λ_=>⟨by omega,by omega,rfl⟩⟩⟩
      ·cases h
structure Xrl (x:X02) (k:Nat):Prop where
 lo:1<=x.Kind
 hi:x.Kind<=19
 leaf:x.Kind<=4->x.A=0/\x.B=0
 a0:0<=x.A
 b0:0<=x.B
 ak:5<=x.Kind->x.A<k
 b1:5<=x.Kind->x.Kind<=6->x.B=0
 bk:5<=x.Kind->x.B<k
 n0:0<=x.N
 nk:x.N=0\/x.Kind=1
 at0:0<=x.At
 at1:x.At<=400
theorem Xyj:∀ (xs:List X02) (sd sd':List (Nat×Nat)),Xob xs sd=some sd'->∀ j x,xs[j]?=some x->Xrl x (sd.length+j)
 |[],sd,sd',h,j,x,hj=>by simp at hj
 |y::ys,sd,sd',h,j,x,hj=>by
  unfold Xob at h;split at h
  ·rename_i q hq
   cases j with
   |zero =>
    simp at hj;subst hj;obtain⟨a,b,ho,h4,h5⟩:=X09w hq;obtain⟨o1,o2,o3,o4,o5,o6,rfl,rfl⟩:=ho;refine⟨o1,o2,h4,?_,?_,?_,?_,?_,o3,o4,o5,o6⟩;all_goals
     by_cases h4':y.Kind<=4
     ·have:=h4 h4';omega
     ·have h5':=h5 om;by_cases h6:y.Kind<=6
      ·have:=h5'.2.1 h6;omega
      ·have:=h5'.2.2 om;omega
   |succ j =>
    have:=Xyj ys _ _ h j x (by simpa using hj);rw[List.length_append,List.length_singleton] at this;rw[show sd.length+(j+1)=sd.length+1+j by omega];exact this
  ·cases h
def giv (K:Int):Bool:=(K==6)||decide (12<=K)
theorem Xpt (K:Int):X7n K=some (giv K):=by
 unfold X7n giv;congr 1
def X38 (l:List X02) (i:Int):Int:=match X14 l i with|some e=>e.Kind|none=>0
def Xq8 (l:List X02) (x:X02):Bool :=
 if x.Kind<=4 then true
 else if x.Kind=5 then !(giv (X38 l x.A))
 else if x.Kind=6 then giv (X38 l x.A)
 else if x.Kind<=15 then !(giv (X38 l x.A))&&!(giv (X38 l x.B))
 else if x.Kind<=17 then (giv (X38 l x.A))==(giv (X38 l x.B))
 else giv (X38 l x.A)&&giv (X38 l x.B)
def wrN (l:List X02):List X02->Nat->Option Nat
 |[],_=>none
 |x::xs,k=>if Xq8 l x then wrN l xs (k+1) else some k
theorem Xr1 {α:Type} {l:List α} {i:Int} (h0:0<=i) (h1:i<l.length):∃ e,X14 l i=some e/\l[i.toNat]?=some e:=by
 obtain⟨n,rfl⟩:∃ n:Nat,i=n:=⟨i.toNat,by omega⟩;exact⟨l[n]' om,by rw[X4y];exact Ye _,by simp⟩
theorem Xeg {l:List X02} {i:Int} (h0:0<=i) (h1:i<l.length):∃ e,X14 l i=some e/\X38 l i=e.Kind:=by
 obtain⟨e,h,_⟩:=Xr1 h0 h1;exact⟨e,h,by unfold X38;rw[h]⟩
theorem X088 {l:List X02} {x:X02} {k:Nat} (hk:l[k]?=some x) (ho:Xrl x k):Xds l (k:Int)=some (Xq8 l x):=by
 have hlt:=(Ys.1 hk).1;have hA:x.A<l.length:=by
  by_cases h:x.Kind<=4
  ·have:=(ho.leaf h).1;omega
  ·have:=ho.ak om;omega
 have hB:x.B<l.length:=by
  by_cases h:x.Kind<=4
  ·have:=(ho.leaf h).2;omega
  ·have:=ho.bk om;omega
 obtain⟨a,ha,hka⟩:=Xeg ho.a0 hA;obtain⟨b,hb,hkb⟩:=Xeg ho.b0 hB;unfold Xds Xq8;rw[X4y,hk,Yo,ha,Yo,hb,Xpt,Yo,Yo,Xpt,Yo,hka,hkb];have h1:=ho.lo;have h2:=ho.hi;by_cases h4:x.Kind<=4
 ·rw[if_pos h4,Yt h4];rfl
 ·rw[if_neg h4,Yf h4,cond_false];by_cases h5:x.Kind=5
  ·rw[if_pos h5,show(x.Kind==5)=true by simp[h5]];rfl
  ·rw[if_neg h5,show(x.Kind==5)=false by simp[h5],cond_false];by_cases h6:x.Kind=6
   ·rw[if_pos h6,show(x.Kind==6)=true by simp[h6]];rfl
   ·rw[if_neg h6,show(x.Kind==6)=false by simp[h6],cond_false];by_cases h15:x.Kind<=15
    ·rw[if_pos h15,show(bif (x.Kind==16) then true else (x.Kind==17))=false by rw[show(x.Kind==16)=false by simp;omega,show(x.Kind==17)=false by simp;omega];rfl,Yf (show ¬ x.Kind >= 18 by omega)];cases giv a.Kind<;>cases giv b.Kind<;>rfl
    ·rw[if_neg h15];by_cases h17:x.Kind<=17
     ·rw[if_pos h17,show(bif (x.Kind==16) then true else (x.Kind==17))=true by rcases(by omega:x.Kind=16\/x.Kind=17) with h|h<;>simp[h]];rfl
     ·rw[if_neg h17,show(bif (x.Kind==16) then true else (x.Kind==17))=false by rw[show(x.Kind==16)=false by simp;omega,show(x.Kind==17)=false by simp;omega];rfl,Yt (show x.Kind >= 18 by omega)];cases giv a.Kind<;>cases giv b.Kind<;>rfl
theorem Xta {l:List X02} (ho:∀ j x,l[j]?=some x->Xrl x j):∀ (xs:List X02) (k:Nat),l.drop k=xs->X4h l xs k=some (match wrN l xs k with|none=>.x0|some j=>.x1 (j:Int))
 |[],k,_=>rfl
 |x::xs,k,h=>by
  have hk:l[k]?=some x:=by
   have:(l.drop k)[0]?=some x:=by rw[h];rfl
   simpa using this
  have hd:l.drop (k+1)=xs:=by
   have:(l.drop k).drop 1=xs:=by rw[h];rfl
   rw[List.drop_drop] at this;exact this
  rw[X4h,X088 hk (ho k x hk),Yo,wrN]
  cases Xq8 l x with
  |true=>exact Xta ho xs (k+1) hd
  |false=>rfl
def gvs (l:List X02) (k:Nat):List Bool:=(l.take k).map λe=>giv e.Kind
theorem Xsx {l:List X02} {k:Nat} (hk:k<=l.length) {i:Int} (h0:0<=i) (h1:i<k):X14 (gvs l k) i=some (giv (X38 l i)):=by
 obtain⟨e,he,hke⟩:=Xeg (l:=l) h0 om;have hi:(i.toNat:Int)=i:=by omega
 rw[hke,<-hi,X4y];rw[<-hi,X4y] at he;unfold gvs;rw[List.getElem?_map,List.getElem?_take_of_lt om,he];rfl
theorem Xub {l:List X02} {k:Nat} {x:X02} (hk:l[k]?=some x):gvs l (k+1)=gvs l k++[giv x.Kind]:=by
 unfold gvs;rw[List.take_add_one,hk,List.map_append];rfl
theorem Xx2 {l:List X02} (hn:l.length<=1000) (ho:∀ j x,l[j]?=some x->Xrl x j):∀ (xs:List X02) (k:Nat),l.drop k=xs->X1j l xs k (gvs l k)=some (match wrN l xs k with|none=>.x0 (gvs l l.length)|some j=>.x1 [] (j:Int))
 |[],k,h=>by
  have:l.length<=k:=by
   have:=congrArg List.length h;simp at this;omega
  rw[X1j,wrN];unfold gvs;rw[List.take_of_length_le this,List.take_length]
 |x::xs,k,h=>by
  have hk:l[k]?=some x:=by
   have:(l.drop k)[0]?=some x:=by rw[h];rfl
   simpa using this
  have hd:l.drop (k+1)=xs:=by
   have:(l.drop k).drop 1=xs:=by rw[h];rfl
   rw[List.drop_drop] at this;exact this
  have hlt:=(Ys.1 hk).1;have hox:=ho k x hk;have ih:=Xx2 hn ho xs (k+1) hd;have h1:=hox.lo;have h2:=hox.hi;have cap:∀ b,X0a (List.length (gvs l k++[b])) 1=some ():=λb=>X4u (by unfold gvs;simp;omega);have go:giv x.Kind=false->Xq8 l x=true->X1j l xs (k+1) (gvs l k++[false])=some (match wrN l (x::xs) k with|none=>.x0 (gvs l l.length)|some j=>.x1 [] (j:Int)):=by
   intro g f;rw[wrN,f,if_pos rfl,<-ih,Xub hk,g]
  have go':giv x.Kind=true->Xq8 l x=true->X1j l xs (k+1) (gvs l k++[true])=some (match wrN l (x::xs) k with|none=>.x0 (gvs l l.length)|some j=>.x1 [] (j:Int)):=by
   intro g f;rw[wrN,f,if_pos rfl,<-ih,Xub hk,g]
  have stop:Xq8 l x=false->(some (.x1 [] (k:Int)):Option X6b)=some (match wrN l (x::xs) k with|none=>.x0 (gvs l l.length)|some j=>.x1 [] (j:Int)):=by
   intro f;rw[wrN,f];rfl
  rw[X1j];by_cases h4:x.Kind<=4
  ·rw[Yt h4,cond_true,cap,Yo];exact go (by unfold giv;simp;omega) (by unfold Xq8;rw[if_pos h4])
  ·rw[Yf h4,cond_false];have hA:X14 (gvs l k) x.A=some (giv (X38 l x.A)):=Xsx om hox.a0 (hox.ak om);have hB:X14 (gvs l k) x.B=some (giv (X38 l x.B)):=Xsx om hox.b0 (hox.bk om);by_cases h5:x.Kind=5
   ·have hf:Xq8 l x=!(giv (X38 l x.A)):=by unfold Xq8;rw[if_neg h4,if_pos h5]
    rw[show(x.Kind==5)=true by simp[h5],cond_true,hA]
    cases hg:giv (X38 l x.A) with
    |true=>exact stop (by rw[hf,hg];rfl)
    |false =>
     show(X0a (List.length (gvs l k++[false])) 1).bind _=_;rw[cap,Yo];exact go (by unfold giv;simp[h5]) (by rw[hf,hg];rfl)
   ·rw[show(x.Kind==5)=false by simp[h5],cond_false];by_cases h6:x.Kind=6
    ·have hf:Xq8 l x=giv (X38 l x.A):=by unfold Xq8;rw[if_neg h4,if_neg h5,if_pos h6]
     rw[show(x.Kind==6)=true by simp[h6],cond_true,hA]
     cases hg:giv (X38 l x.A) with
     |false=>exact stop (by rw[hf,hg])
     |true =>
      show(X0a (List.length (gvs l k++[true])) 1).bind _=_;rw[cap,Yo];exact go' (by unfold giv;simp[h6]) (by rw[hf,hg])
    ·rw[show(x.Kind==6)=false by simp[h6],cond_false];have lok:X4k (List.length [x.A,x.B])=some ():=X24 (by simp);by_cases h15:x.Kind<=15
     ·have hf:Xq8 l x=(!(giv (X38 l x.A))&&!(giv (X38 l x.B))):=by unfold Xq8;rw[if_neg h4,if_neg h5,if_neg h6,if_pos h15]
      by_cases h11:x.Kind<=11
      ·have hgx:giv x.Kind=false:=by unfold giv;simp;omega
       rw[Yt h11,cond_true,Yo,lok];simp only[X0b,hA,hB];generalize giv (X38 l x.A)=p at hf;generalize giv (X38 l x.B)=r at hf;cases p<;>cases r
       ·show(X0a (List.length (gvs l k++[false])) 1).bind _=_;rw[cap,Yo];exact go hgx hf
       all_goals exact stop hf
      ·have hgx:giv x.Kind=true:=by unfold giv;simp;omega
       rw[Yf h11,cond_false,Yt h15,cond_true,Yo,lok];simp only[X0b,hA,hB];generalize giv (X38 l x.A)=p at hf;generalize giv (X38 l x.B)=r at hf;cases p<;>cases r
       ·show(X0a (List.length (gvs l k++[true])) 1).bind _=_;rw[cap,Yo];exact go' hgx hf
       all_goals exact stop hf
     ·rw[Yf (show ¬ x.Kind<=11 by omega),cond_false,Yf h15,cond_false];have hgx:giv x.Kind=true:=by unfold giv;simp;omega
      by_cases h17:x.Kind<=17
      ·have hf:Xq8 l x=((giv (X38 l x.A))==(giv (X38 l x.B))):=by unfold Xq8;rw[if_neg h4,if_neg h5,if_neg h6,if_neg h15,if_pos h17]
       rw[Yt h17,cond_true,Yo,lok];simp only[X0b,X0d,hA,hB];generalize giv (X38 l x.A)=p at hf;generalize giv (X38 l x.B)=r at hf;cases p<;>cases r
       ·show(X0a (List.length (gvs l k++[true])) 1).bind _=_;rw[cap,Yo];exact go' hgx hf
       ·exact stop hf
       ·exact stop hf
       ·show(X0a (List.length (gvs l k++[true])) 1).bind _=_;rw[cap,Yo];exact go' hgx hf
      ·have hf:Xq8 l x=((giv (X38 l x.A))&&(giv (X38 l x.B))):=by unfold Xq8;rw[if_neg h4,if_neg h5,if_neg h6,if_neg h15,if_neg h17]
       rw[Yf h17,cond_false,Yo,lok];simp only[X0b,X0d,hA,hB];generalize giv (X38 l x.A)=p at hf;generalize giv (X38 l x.B)=r at hf;cases p<;>cases r
       ·exact stop hf
       ·exact stop hf
       ·exact stop hf
       ·show(X0a (List.length (gvs l k++[true])) 1).bind _=_;rw[cap,Yo];exact go' hgx hf
end Go.D


namespace Go.D
def kOf (l:List X02):Bool×Int×Int :=
 if Xez l≠0 then (false,0,Xez l)
 else match wrN l l 0 with
  |some j=>(false,(j:Int),42)
  |none=>(giv (X38 l ((l.length:Int) - 1)),(l.length:Int) - 1,0)
theorem Xm2 {l:List X02} (h:Xez l=0):l.length<=60/\1<=l.length/\∃ sd,Xob l []=some sd:=by
 unfold Xez at h;split at h
 ·cases h
 ·split at h
  ·cases h
  ·rename_i sd hr;have hn:=Xl0 l [] sd hr;simp only[List.length_nil,Nat.zero_add] at hn;split at h
   ·cases h
   ·rename_i q hq;have:1<=sd.length:=by
     cases sd with
     |nil=>cases hq
     |cons=>simp
    exact⟨by omega,by omega,sd,hr⟩
theorem Xod {l:List X02} (h:Xez l=0):∀ j x,l[j]?=some x->Xrl x j:=by
 obtain⟨_,_,sd,hr⟩:=Xm2 h;intro j x hj;have:=Xyj l [] sd hr j x hj;simpa using this
theorem Xtb (l:List X02):∀ (xs:List X02) (k j:Nat),wrN l xs k=some j->k<=j/\j<k+xs.length
 |[],k,j,h=>by cases h
 |x::xs,k,j,h=>by
  unfold wrN at h;split at h
  ·have:=Xtb l xs (k+1) j h;simp only[List.length_cons];omega
  ·cases h;simp only[List.length_cons];omega
theorem Xsf {l:List X02} (h0:∀ x∈l,0<=x.Kind):Xhv l=some (kOf l):=by
 unfold Xhv kOf;rw[Xd2 h0,Yo];by_cases hz:Xez l=0
 ·obtain⟨h60,h1,_⟩:=Xm2 hz;rw[if_neg om,hz,show((0:Int) != 0)=false from rfl,cond_false];unfold Xg7;rw[X24 om,Yo];have ht:=Xx2 om (Xod hz) l 0 rfl;rw[show gvs l 0=[] from by unfold gvs;simp] at ht;rw[ht]
  cases hw:wrN l l 0 with
  |some j =>
   have:=(Xtb l l 0 j hw).2;simp only[Yo];rw[Yt (show(j:Int)<(l.length:Int) by omega)];rfl
  |none =>
   simp only[Yo];rw[Yf (show ¬ (l.length:Int)<(l.length:Int) by omega),cond_false,X0z om om,Xsx (Nat.le_refl _) om om];rfl
 ·rw[if_pos hz,show(Xez l != 0)=true by simp[hz]];rfl
theorem Xs5 {l:List X02}:Xhl l=some (kOf l):=by
 unfold Xhl kOf;rw[Xd0,Yo];by_cases hz:Xez l=0
 ·obtain⟨h60,h1,_⟩:=Xm2 hz;rw[if_neg om,hz,show((0:Int) != 0)=false from rfl,cond_false];unfold Xea;rw[X24 om,Yo,Xta (Xod hz) l 0 rfl]
  cases hw:wrN l l 0 with
  |some j =>
   have:=(Xtb l l 0 j hw).2;simp only[Yo];rw[Yt (show(j:Int)<(l.length:Int) by omega)];rfl
  |none =>
   simp only[Yo];obtain⟨e,he,hk⟩:=Xeg (l:=l) (i:=(l.length:Int) - 1) om om;rw[Yf (show ¬ (l.length:Int)<(l.length:Int) by omega),cond_false,X0z om om,he,Yo,Xpt,hk];rfl
 ·rw[if_pos hz,show(Xez l != 0)=true by simp[hz]];rfl
def X35 (l:List X02) (b:Bool):Int×Int :=
 if (kOf l).2.2=0/\(kOf l).1≠b then ((kOf l).2.1,42) else ((kOf l).2.1,(kOf l).2.2)
theorem Xhu {l:List X02} {b:Bool} (h0:∀ x∈l,0<=x.Kind):Xbc l b=some (X35 l b):=by
 unfold Xbc X35;rw[Xsf h0,Yo];by_cases hz:(kOf l).2.2=0
 ·rw[hz,show((0:Int)==0)=true from rfl,cond_true];cases hb:(kOf l).1<;>cases b<;>simp
 ·rw[show((kOf l).2.2==0)=false by simp[hz],cond_false,cond_false,if_neg (λh=>hz h.1)];rfl
theorem Xhk {l:List X02} {b:Bool}:X9v l b=some (X35 l b):=by
 unfold X9v X35;rw[Xs5,Yo];by_cases hz:(kOf l).2.2=0
 ·rw[hz,show((0:Int)==0)=true from rfl,cond_true];cases hb:(kOf l).1<;>cases b<;>simp
 ·rw[show((kOf l).2.2==0)=false by simp[hz],cond_false,cond_false,if_neg (λh=>hz h.1)]
def Xtj (s:List Int) (j:Bool):Bool:=s.length==0||(j&&s.length != 2)||s.any λx=>decide (x<0)||decide (x>3)
def X8e (s:List Int) (j:Bool):Int :=
 if s.length>4 then 4 else if Xtj s j then 8 else if s.Nodup then 0 else 43
theorem Xql (Y:List Int):∀ (xs:List Int) (k:Nat),∃ o,X0m Y xs k=some o/\((xs.any λx=>decide (x<0)||decide (x>3))=true->∃ j:Nat,o=.x1 (j:Int))/\((xs.any λx=>decide (x<0)||decide (x>3))=false->o=.x0)
 |[],k=>⟨.x0,rfl,by simp,λ_=>rfl⟩
 |x::xs,k=>by
  obtain⟨o,h1,h2,h3⟩:=Xql Y xs (k+1);rw[X0m];unfold X6o;rw[Yo];by_cases hx:x<0\/x>3
  ·have:(bif decide (x<0) then true else decide (x >= 4))=true:=by
    rcases hx with h|h
    ·rw[Yt h];rfl
    ·rw[Yf om,Yt om];rfl
   rw[this];refine⟨_,rfl,λ_=>⟨k,rfl⟩,λh=>?_⟩;exfalso;simp only[List.any_cons,Bool.or_eq_false_iff,decide_eq_false_iff_not] at h;omega
  ·have:(bif decide (x<0) then true else decide (x >= 4))=false:=by
    rw[Yf om,Yf om];rfl
   rw[this];refine⟨o,h1,λh=>h2 ?_,λh=>h3 ?_⟩
   ·rw[List.any_cons,Yf om,Yf om] at h;exact h
   ·rw[List.any_cons,Yf om,Yf om] at h;exact h
theorem Xt4 {s:List Int} (hn:s.length<=1000):Xx s=some (s.any λx=>decide (x<0)||decide (x>3)):=by
 unfold Xx X0k;rw[X24 om,Yo];obtain⟨o,h1,h2,h3⟩:=Xql s s 0;rw[h1]
 cases hb:(s.any λx=>decide (x<0)||decide (x>3)) with
 |true=>obtain⟨j,rfl⟩:=h2 hb;simp
 |false=>rw[h3 hb];rfl
end Go.D


namespace Go.D
theorem X006:∀ (xs ks:List Int),(Xag ks xs).length<=ks.length+xs.length/\((Xag ks xs).length=ks.length+xs.length↔xs.Nodup/\∀ x∈xs,x ∉ ks):=by
 intro xs
 induction xs with
 |nil=>intro ks;simp[Xag]
 |cons x xs ih =>
  intro ks;rw[Xag];unfold Xmo;by_cases hm:x∈ks
  ·rw[if_pos hm];have:=ih ks;refine⟨by have:=this.1;simp only[List.length_cons];omega,⟨λh=>?_,λh=>?_⟩⟩
   ·have:=this.1;simp only[List.length_cons] at h;omega
   ·exact absurd hm (h.2 x List.mem_cons_self)
  ·rw[if_neg hm];have:=ih (ks++[x]);rw[List.length_append,List.length_singleton] at this;refine⟨by have:=this.1;simp only[List.length_cons];omega,?_⟩;rw[show ks.length+(x::xs).length=ks.length+1+xs.length by simp only[List.length_cons];omega,this.2];constructor
   ·rintro⟨h1,h2⟩;refine⟨List.nodup_cons.2 ⟨λhx=>h2 x hx (by simp),h1⟩,?_⟩;intro y hy;rcases List.mem_cons.1 hy with rfl|hy
    ·exact hm
    ·exact λhk=>h2 y hy (by simp[hk])
   ·rintro⟨h1,h2⟩;refine⟨(List.nodup_cons.1 h1).2,λy hy hk=>?_⟩;rcases List.mem_append.1 hk with hk|hk
    ·exact h2 y (List.mem_cons_of_mem _ hy) hk
    ·simp at hk;subst hk;exact(List.nodup_cons.1 h1).1 hy
theorem Xt0 {s:List Int} (hn:s.length<=1000):∃ v,X30 s=some v/\decide (v<(s.length:Int))=!(decide s.Nodup):=by
 unfold X30;rw[X24 om];refine⟨_,rfl,?_⟩;have h:=X006 s [];simp only[List.length_nil,Nat.zero_add,List.not_mem_nil,not_false_eq_true,implies_true,and_true] at h;by_cases hd:s.Nodup
 ·rw[Yt hd,h.2.2 hd];simp
 ·rw[Yf hd];have:(Xag [] s).length≠s.length:=λe=>hd (h.2.1 e);have:=h.1;simp;omega
theorem Xia (s:List Int) (j:Bool):X28 s j=some (X8e s j):=by
 unfold X28 X8e Xtj;by_cases h4:s.length>4
 ·rw[if_pos h4,Yt (show(s.length:Int)>4 by omega)];rfl
 ·rw[if_neg h4,Yf (show ¬ (s.length:Int)>4 by omega),cond_false];obtain⟨v,hv,hd⟩:=Xt0 (s:=s) om;rw[Xt4 om,hv];simp only[Yo];rw[hd];have e0:((s.length:Int)==0)=(s.length==0):=by rw[Bool.eq_iff_iff];simp
  have e2:((s.length:Int) != 2)=(s.length != 2):=by rw[Bool.eq_iff_iff];simp;omega
  rw[e0,e2];generalize (s.any λx=>decide (x<0)||decide (x>3))=b;generalize (s.length==0)=z;generalize (s.length != 2)=t;by_cases hn:s.Nodup<;>cases z<;>cases t<;>cases j<;>cases b<;>simp[hn]
theorem Xjt (Y:List Int):∀ (xs:List Int) (k:Nat),X2z Y xs k=some (bif (xs.any λx=>decide (x<0)||decide (x>3)) then .x1 else .x0)
 |[],k=>rfl
 |x::xs,k=>by
  rw[X2z,Xjt Y xs (k+1),List.any_cons];cases decide (x<0)<;>cases decide (x>3)<;>rfl
theorem Xqn (s:List Int) (i:Nat) (hi:i<s.length) (hs:s.length<=1000):∀ (m n j:Nat),m=i - j->m<n->∃ o,X2y s (i:Int) n (j:Int)=some o/\(o=.x0↔∃ j',j<=j'/\j'<i/\s[j']?=s[i]?):=by
 intro m
 induction m with
 |zero =>
  intro n j hm hn
  cases n with
  |zero=>omega
  |succ n =>
   rw[X2y,Yf (show ¬ (j:Int)<(i:Int) by omega)];exact⟨.x1,rfl,⟨λh=>(by cases h),λ⟨j',h1,h2,_⟩=>by omega⟩⟩
 |succ m ih =>
  intro n j hm hn
  cases n with
  |zero=>omega
  |succ n =>
   rw[X2y,Yt (show(j:Int)<(i:Int) by omega),cond_true,show X14 s (j:Int)=some (s[j]' om) by rw[X4y];exact Ye _,show X14 s (i:Int)=some (s[i]'hi) by rw[X4y];exact Ye _];simp only[Yo];by_cases he:s[j]=s[i]
   ·refine⟨.x0,?_,⟨λ_=>⟨j,Nat.le_refl _,by omega,by rw[Ye (show j<s.length by omega),Ye hi,he]⟩,λ_=>rfl⟩⟩;rw[show(s[j]==s[i])=true by simp[he]];rfl
   ·rw[show(s[j]==s[i])=false by simp[he],cond_false,X0z om om];obtain⟨o,h1,h2⟩:=ih n (j+1) om om;refine⟨o,by rw[show(j:Int)+1=((j+1:Nat):Int) by omega];exact h1,h2.trans ⟨λ⟨j',a,b,c⟩=>⟨j',by omega,b,c⟩,λ⟨j',a,b,c⟩=>?_⟩⟩;by_cases hj:j'=j
    ·subst hj;rw[Ye (show j'<s.length by omega),Ye hi] at c;exact absurd (Option.some.inj c) he
    ·exact⟨j',by omega,b,c⟩
theorem Xjs (s:List Int) (hs:s.length<=1000):∀ (xs:List Int) (k:Nat),s.drop k=xs->(s.take k).Nodup->X2d s xs k=some (if s.Nodup then .x0 else .x1)
 |[],k,h,hd=>by
  have:s.length<=k:=by
   have:=congrArg List.length h;simp at this;omega
  rw[List.take_of_length_le this] at hd;rw[X2d,if_pos hd]
 |x::xs,k,h,hd=>by
  have hk:s[k]?=some x:=by
   have:(s.drop k)[0]?=some x:=by rw[h];rfl
   simpa using this
  have hdr:s.drop (k+1)=xs:=by
   have:(s.drop k).drop 1=xs:=by rw[h];rfl
   rw[List.drop_drop] at this;exact this
  have hlt:=(Ys.1 hk).1;rw[X2d];obtain⟨o,h1,h2⟩:=Xqn s k hlt hs (k - 0) FU 0 rfl (by unfold FU;omega);rw[show((0:Nat):Int)=0 from rfl] at h1;rw[h1,Yo]
  cases o with
  |x0 =>
   obtain⟨j,_,hj,he⟩:=h2.1 rfl;have:¬ s.Nodup:=λhn=>by
    have:=(List.getElem?_inj (by omega:j<s.length) hn).1 he;omega
   rw[if_neg this]
  |x1 =>
   have hno:¬ ∃ j',0<=j'/\j'<k/\s[j']?=s[k]?:=λh=>by have:=h2.2 h;cases this
   refine Xjs s hs xs (k+1) hdr ?_;rw[List.take_add_one,hk];simp only[Option.toList_some];rw[List.nodup_append];refine⟨hd,by simp,λa ha b hb=>?_⟩;simp at hb;subst hb;intro e;subst e;obtain⟨j,hj,e⟩:=List.getElem_of_mem ha;simp at hj;refine hno ⟨j,Nat.zero_le _,by omega,?_⟩;rw[hk,<-e,List.getElem_take,Ye]
theorem Xkm (s:List Int) (j:Bool):X8y s j=some (X8e s j):=by
 unfold X8y X8e Xtj;by_cases h4:s.length>4
 ·rw[if_pos h4,Yt (show(s.length:Int)>4 by omega)];rfl
 ·rw[if_neg h4,Yf (show ¬ (s.length:Int)>4 by omega),cond_false,X24 om,Xjt,Xjs s om s 0 rfl (by simp)];have e0:((s.length:Int)==0)=(s.length==0):=by rw[Bool.eq_iff_iff];simp
  have e2:((s.length:Int) != 2)=(s.length != 2):=by rw[Bool.eq_iff_iff];simp;omega
  rw[e0,e2];generalize (s.any λx=>decide (x<0)||decide (x>3))=b;generalize (s.length==0)=z;generalize (s.length != 2)=t;by_cases hn:s.Nodup<;>cases z<;>cases t<;>cases j<;>cases b<;>simp[hn]
instance (w:X5v):Decidable (okW w):=by unfold okW;infer_instance
theorem X057 (w:X5v) (hE:w.Every<=9223372036854775807 /\ -9223372036854775808<=w.Every):X9u w=some (decide (okW w))/\X1e w=some (if okW w then 0 else 8):=by
 by_cases hw:okW w
 ·refine⟨?_,by rw[if_pos hw];exact Xe1 hw⟩;rw[Yt hw];obtain⟨h1,h2,h3⟩:=hw;unfold X9u;rw[Yf (show ¬ w.Size<1 by omega),Yf (show ¬ w.Size>1073741824 by omega)];rcases h3 with ⟨k,a1,a2,a3⟩|⟨k|k,a⟩
  ·rw[show(w.Kind==2)=true by simp[k],Yt a1,Yt a2,X0z om om,Yt a3];rfl
  ·rw[show(w.Kind==2)=false by simp[k],show(w.Kind==1)=true by simp[k],show(w.Every==0)=true by simp[a]];rfl
  ·rw[show(w.Kind==2)=false by simp[k],show(w.Kind==3)=true by simp[k],show(w.Every==0)=true by simp[a],show(w.Kind==1)=false by simp[k]];rfl
 ·rw[if_neg hw,Yf hw];by_cases hs:w.Size<1\/w.Size>1073741824
  ·have:(bif decide (w.Size<1) then true else decide (w.Size>1073741824))=true:=by
    rcases hs with h|h
    ·rw[Yt h];rfl
    ·rw[Yf om,Yt h];rfl
   constructor
   ·unfold X9u;rw[this];rfl
   ·unfold X1e;rw[this];rfl
  ·have:(bif decide (w.Size<1) then true else decide (w.Size>1073741824))=false:=by
    rw[Yf om,Yf om];rfl
   unfold X9u X1e;rw[this,cond_false,cond_false];by_cases k2:w.Kind=2
   ·rw[show(w.Kind==2)=true by simp[k2],cond_true,cond_true];have:(bif (bif decide (w.Every >= 1) then decide (w.Every<=w.Size) else false) then decide (w.Size<=IntKind.i64.wrap (16*w.Every)) else false)=false:=by
     by_cases g1:w.Every >= 1
     ·by_cases g2:w.Every<=w.Size
      ·rw[Yt g1,Yt g2,X0z om om,Yf];rfl;intro g3;exact hw ⟨by omega,by omega,.inl ⟨k2,g1,g2,g3⟩⟩
      ·rw[Yt g1,Yf g2];rfl
     ·rw[Yf g1];rfl
    rw[this];exact⟨rfl,rfl⟩
   ·rw[show(w.Kind==2)=false by simp[k2],cond_false,cond_false];by_cases k1:w.Kind=1
    ·have:w.Every≠0:=λh=>hw ⟨by omega,by omega,.inr ⟨.inl k1,h⟩⟩;rw[show(w.Kind==1)=true by simp[k1],show(w.Every==0)=false by simp[this]];exact⟨rfl,rfl⟩
    ·by_cases k3:w.Kind=3
     ·have:w.Every≠0:=λh=>hw ⟨by omega,by omega,.inr ⟨.inr k3,h⟩⟩;rw[show(w.Kind==1)=false by simp[k1],show(w.Kind==3)=true by simp[k3],show(w.Every==0)=false by simp[this]];exact⟨rfl,rfl⟩
     ·rw[show(w.Kind==1)=false by simp[k1],show(w.Kind==3)=false by simp[k3]];exact⟨rfl,rfl⟩
end Go.D


namespace Go.D
def Xwr (q:X1t):Int :=
 if q.Agg<1\/q.Agg>4\/(q.Late≠1/\q.Late≠2) then 8
 else if q.Agg=1/\0<q.Arg.length then 8
 else if q.Agg≠1/\Xez q.Arg≠0 then Xez q.Arg
 else if 0<q.Where.length/\Xez q.Where≠0 then Xez q.Where
 else if X8e q.Sources q.Join≠0 then X8e q.Sources q.Join
 else if q.Join=true/\q.Window.Kind≠1 then 8
 else if okW q.Window then 0 else 8
structure QW (q:X1t):Prop where
 arg:∀ x∈q.Arg,0<=x.Kind
 wher:∀ x∈q.Where,0<=x.Kind
 ev:q.Window.Every<=9223372036854775807 /\ -9223372036854775808<=q.Window.Every
theorem X05l {q:X1t} (hq:QW q):((X28 q.Sources q.Join).bind λv10=>bif (v10 != (0:Int)) then (some v10) else (bif (bif q.Join then (q.Window.Kind != (1:Int)) else false) then (some 8) else ((X1e q.Window).bind λv14=>some v14)))=some (if X8e q.Sources q.Join≠0 then X8e q.Sources q.Join
 else if q.Join=true/\q.Window.Kind≠1 then 8
 else if okW q.Window then 0 else 8):=by
 rw[Xia,Yo,(X057 q.Window hq.ev).2];by_cases h:X8e q.Sources q.Join=0
 ·rw[h];by_cases hj:q.Join=true
  ·by_cases hk:q.Window.Kind=1
   ·simp[hj,hk]
   ·simp[hj,hk,Xw7 hk]
  ·simp[hj]
 ·simp[h,Xw7 h]
theorem Xkr {q:X1t} (hq:QW q):X98 q=some (Xwr q):=by
 unfold X98 Xwr;rw[X05l hq,Xd2 hq.arg,Xd2 hq.wher];generalize (if X8e q.Sources q.Join≠0 then X8e q.Sources q.Join else if q.Join=true/\q.Window.Kind≠1 then 8 else if okW q.Window then 0 else 8)=T;have e1:(bif (bif (decide (q.Agg<(1:Int))) then true else (decide (q.Agg>(4:Int)))) then true else (bif (q.Late != (1:Int)) then (q.Late != (2:Int)) else false))=decide (q.Agg<1\/q.Agg>4\/(q.Late≠1/\q.Late≠2)):=by
  rw[Bool.eq_iff_iff];by_cases h1:q.Agg<1<;>by_cases h2:q.Agg>4<;>by_cases h3:q.Late=1<;>by_cases h4:q.Late=2<;>simp[h1,h2,h3,h4]
 rw[e1];by_cases hA:(q.Agg<1\/q.Agg>4\/(q.Late≠1/\q.Late≠2))
 ·rw[if_pos hA,Yt hA];rfl
 ·rw[if_neg hA,Yf hA,cond_false];by_cases h1:q.Agg=1
  ·rw[show(q.Agg != 1)=false by simp[h1],cond_false];by_cases hl:0<q.Arg.length
   ·rw[Yt (show(q.Arg.length:Int)>0 by omega),if_pos ⟨h1,hl⟩];rfl
   ·rw[Yf (show ¬ (q.Arg.length:Int)>0 by omega),if_neg (λh=>hl h.2),if_neg (λh=>h.1 h1),cond_false];by_cases hw:0<q.Where.length
    ·rw[Yt (show(q.Where.length:Int)>0 by omega),cond_true,Yo];by_cases hz:Xez q.Where=0
     ·rw[hz];simp
     ·rw[if_pos ⟨hw,hz⟩,show(Xez q.Where != 0)=true by simp[hz]];rfl
    ·rw[Yf (show ¬ (q.Where.length:Int)>0 by omega),if_neg (λh=>hw h.1)];rfl
  ·rw[show(q.Agg != 1)=true by simp[h1],cond_true,if_neg (λh=>h1 h.1),Yo];by_cases hn:Xez q.Arg=0
   ·rw[hn,if_neg (λh=>h.2 rfl),show((0:Int) != 0)=false from rfl,cond_false];by_cases hw:0<q.Where.length
    ·rw[Yt (show(q.Where.length:Int)>0 by omega),cond_true,Yo];by_cases hz:Xez q.Where=0
     ·rw[hz];simp
     ·rw[if_pos ⟨hw,hz⟩,show(Xez q.Where != 0)=true by simp[hz]];rfl
    ·rw[Yf (show ¬ (q.Where.length:Int)>0 by omega),if_neg (λh=>hw h.1)];rfl
   ·rw[if_pos ⟨h1,hn⟩,show(Xez q.Arg != 0)=true by simp[hn]];rfl
theorem Xnc {q:X1t} (hq:QW q):Xc8 q=some (Xwr q):=by
 unfold Xc8 Xwr;rw[Xd0,Xd0,Xkm,(X057 q.Window hq.ev).1];have e1:(bif (bif (bif (decide (q.Agg<(1:Int))) then true else (decide (q.Agg>(4:Int)))) then true else (decide (q.Late<(1:Int)))) then true else (decide (q.Late>(2:Int))))=decide (q.Agg<1\/q.Agg>4\/(q.Late≠1/\q.Late≠2)):=by
  rw[Bool.eq_iff_iff];have g:(q.Late≠1/\q.Late≠2)↔(q.Late<1\/q.Late>2):=by omega
  rw[show decide (q.Agg<1\/q.Agg>4\/(q.Late≠1/\q.Late≠2))=decide (q.Agg<1\/q.Agg>4\/(q.Late<1\/q.Late>2)) from decide_eq_decide.2 (by rw[g])];by_cases h1:q.Agg<1<;>by_cases h2:q.Agg>4<;>by_cases h3:q.Late<1<;>by_cases h4:q.Late>2<;>simp[h1,h2,h3,h4]
 rw[e1]
 have tl:((some (X8e q.Sources q.Join)).bind λv29=>bif (v29 != (0:Int)) then (some v29) else ((some (decide (okW q.Window))).bind λv32=>bif (bif (!v32) then true else (bif q.Join then (q.Window.Kind != (1:Int)) else false)) then (some 8) else (some 0)))=some (if X8e q.Sources q.Join≠0 then X8e q.Sources q.Join
 else if q.Join=true/\q.Window.Kind≠1 then 8
 else if okW q.Window then 0 else 8):=by
  simp only[Yo];by_cases h:X8e q.Sources q.Join=0
  ·rw[h];by_cases hk:q.Window.Kind=1
   ·by_cases hj:q.Join=true<;>by_cases ho:okW q.Window<;>simp[hj,hk,ho]
   ·by_cases hj:q.Join=true<;>by_cases ho:okW q.Window<;>simp[hj,hk,ho,Xw7 hk]
  ·simp[h,Xw7 h]
 rw[tl];generalize (if X8e q.Sources q.Join≠0 then X8e q.Sources q.Join else if q.Join=true/\q.Window.Kind≠1 then 8 else if okW q.Window then 0 else 8)=T;by_cases hA:(q.Agg<1\/q.Agg>4\/(q.Late≠1/\q.Late≠2))
 ·rw[if_pos hA,Yt hA];rfl
 ·rw[if_neg hA,Yf hA,cond_false];have wh:((bif (decide ((List.length q.Where:Int)>(0:Int))) then ((some (Xez q.Where)).bind λv23=>some (bif (decide ((List.length q.Where:Int)>(0:Int))) then (v23 != (0:Int)) else false)) else (some (bif (decide ((List.length q.Where:Int)>(0:Int))) then false else false)):Option (Bool)).bind λXqx=>bif Xqx then ((some (Xez q.Where)).bind λv27=>some v27) else some T)=some (if 0<q.Where.length/\Xez q.Where≠0 then Xez q.Where else T):=by
   by_cases hw:0<q.Where.length
   ·rw[Yt (show(q.Where.length:Int)>0 by omega)];by_cases hz:Xez q.Where=0
    ·rw[hz];simp
    ·rw[if_pos ⟨hw,hz⟩];simp[hz,Xw7 hz]
   ·rw[Yf (show ¬ (q.Where.length:Int)>0 by omega),if_neg (λh=>hw h.1)];rfl
  rw[wh];generalize (if 0<q.Where.length/\Xez q.Where≠0 then Xez q.Where else T)=T2;by_cases h1:q.Agg=1
  ·rw[show(q.Agg==1)=true by simp[h1],show(q.Agg != 1)=false by simp[h1]];by_cases hl:0<q.Arg.length
   ·rw[Yt (show(q.Arg.length:Int)>0 by omega),if_pos ⟨h1,hl⟩];rfl
   ·rw[Yf (show ¬ (q.Arg.length:Int)>0 by omega),if_neg (λh=>hl h.2),if_neg (λh=>h.1 h1)];rfl
  ·rw[show(q.Agg==1)=false by simp[h1],show(q.Agg != 1)=true by simp[h1],if_neg (λh=>h1 h.1)];by_cases hn:Xez q.Arg=0
   ·rw[hn,if_neg (λh=>h.2 rfl)];rfl
   ·rw[if_pos ⟨h1,hn⟩];simp[hn,Xw7 hn]
def atOf (l:List X02) (i:Int):Int:=match X14 l i with|some e=>e.At|none=>0
theorem Xph {l:List X02} {b:Bool} (h:0<l.length):∃ e,X14 l (X35 l b).1=some e/\atOf l (X35 l b).1=e.At:=by
 have hr:0<=(X35 l b).1/\(X35 l b).1<l.length:=by
  have:(X35 l b).1=(kOf l).2.1:=by unfold X35;split<;>rfl
  rw[this];unfold kOf;split
  ·simp only;omega
  ·split
   ·rename_i j hj;have:=Xtb l l 0 j hj;simp only;omega
   ·simp only;omega
 obtain⟨e,he,_⟩:=Xr1 hr.1 hr.2;exact⟨e,he,by unfold atOf;rw[he]⟩
def rt (q:X1t):Int×Int :=
 if 0<q.Arg.length/\(X35 q.Arg false).2≠0 then (atOf q.Arg (X35 q.Arg false).1,(X35 q.Arg false).2)
 else if 0<q.Where.length/\(X35 q.Where true).2≠0 then (atOf q.Where (X35 q.Where true).1,(X35 q.Where true).2)
 else (0,0)
theorem Xtc (q:X1t) (hw:0<q.Where.length):(bif ((X35 q.Where true).2 != (0:Int)) then ((X14 q.Where (X35 q.Where true).1).bind λe28=>some (e28.At,(X35 q.Where true).2)) else (some (0,0)))=some (if 0<q.Where.length/\(X35 q.Where true).2≠0 then (atOf q.Where (X35 q.Where true).1,(X35 q.Where true).2) else (0,0)):=by
 obtain⟨e,he,ha⟩:=Xph (b:=true) hw;by_cases hz:(X35 q.Where true).2=0
 ·rw[if_neg (λh=>h.2 hz),show((X35 q.Where true).2 != 0)=false by simp[hz]];rfl
 ·rw[if_pos ⟨hw,hz⟩,show((X35 q.Where true).2 != 0)=true by simp[hz],he,ha];rfl
theorem Xna (q:X1t):Xc6 q=some (rt q):=by
 unfold Xc6 rt;rw[Xhk,Xhk];simp only[Yo];have wh:(bif (decide ((List.length q.Where:Int)>(0:Int))) then (bif ((X35 q.Where true).2 != (0:Int)) then ((X14 q.Where (X35 q.Where true).1).bind λe28=>some (e28.At,(X35 q.Where true).2)) else (some (0,0))) else (some (0,0)))=some (if 0<q.Where.length/\(X35 q.Where true).2≠0 then (atOf q.Where (X35 q.Where true).1,(X35 q.Where true).2) else (0,0)):=by
  by_cases hw:0<q.Where.length
  ·rw[Yt (show(q.Where.length:Int)>0 by omega),cond_true,Xtc q hw]
  ·rw[Yf (show ¬ (q.Where.length:Int)>0 by omega),if_neg (λh=>hw h.1)];rfl
 rw[wh];by_cases ha:0<q.Arg.length
 ·rw[Yt (show(q.Arg.length:Int)>0 by omega),cond_true];obtain⟨e,he,hat⟩:=Xph (b:=false) ha;by_cases hz:(X35 q.Arg false).2=0
  ·rw[if_neg (show ¬ (0<q.Arg.length/\(X35 q.Arg false).2≠0) from λh=>h.2 hz),show((X35 q.Arg false).2 != 0)=false by simp[hz],cond_false]
  ·rw[if_pos (show(0<q.Arg.length/\(X35 q.Arg false).2≠0) from⟨ha,hz⟩),show((X35 q.Arg false).2 != 0)=true by simp[hz],he,hat];rfl
 ·rw[Yf (show ¬ (q.Arg.length:Int)>0 by omega),if_neg (show ¬ (0<q.Arg.length/\(X35 q.Arg false).2≠0) from λh=>ha h.1),cond_false]
def qChk (q:X1t):Int×Int:=if Xwr q≠0 then (0,Xwr q) else rt q
theorem Xnb {q:X1t} (hq:QW q):Xc7 q=some (qChk q):=by
 unfold Xc7 qChk;rw[Xnc hq,Xna,Yo];by_cases h:Xwr q=0
 ·rw[if_neg om,h];rfl
 ·rw[if_pos h,show(Xwr q != 0)=true by simp[h]];rfl
theorem Xmr {q:X1t} (hq:QW q):Xah q=some (qChk q):=by
 unfold Xah qChk;rw[Xkr hq,Yo];by_cases h:Xwr q=0
 ·rw[if_neg om,h,show((0:Int) != 0)=false from rfl,cond_false];unfold Xcc Xcs;rw[Xhu hq.arg,Xhu hq.wher];simp only[Yo];unfold rt;have wh:(bif ((List.length q.Where:Int)==(0:Int)) then (some (0,0)) else (bif ((X35 q.Where true).2 != (0:Int)) then ((X14 q.Where (X35 q.Where true).1).bind λe28=>some (e28.At,(X35 q.Where true).2)) else (some (0,0))))=some (if 0<q.Where.length/\(X35 q.Where true).2≠0 then (atOf q.Where (X35 q.Where true).1,(X35 q.Where true).2) else (0,0)):=by
   by_cases hw:0<q.Where.length
   ·rw[lz hw,cond_false,Xtc q hw]
   ·rw[lz' hw,if_neg (λh=>hw h.1)];rfl
  rw[wh];by_cases ha:0<q.Arg.length
  ·rw[lz ha,cond_false];obtain⟨e,he,hat⟩:=Xph (b:=false) ha;by_cases hz:(X35 q.Arg false).2=0
   ·rw[if_neg (show ¬ (0<q.Arg.length/\(X35 q.Arg false).2≠0) from λh=>h.2 hz),show((X35 q.Arg false).2 != 0)=false by simp[hz],cond_false];rfl
   ·rw[if_pos (show(0<q.Arg.length/\(X35 q.Arg false).2≠0) from⟨ha,hz⟩),show((X35 q.Arg false).2 != 0)=true by simp[hz],he,hat];rfl
  ·rw[lz' ha,if_neg (show ¬ (0<q.Arg.length/\(X35 q.Arg false).2≠0) from λh=>ha h.1)];rfl
 ·rw[if_pos h,show(Xwr q != 0)=true by simp[h]];rfl
end Go.D


namespace Go.D
def ltE (a b:Xg):Prop:=a.Span.End<b.Span.End\/a.Span.End=b.Span.End/\(a.Span.Start<b.Span.Start\/a.Span.Start=b.Span.Start/\a.Key<b.Key)
instance (a b:Xg):Decidable (ltE a b):=by unfold ltE;infer_instance
def X069 (a b:Xg):Prop:=a.Key=b.Key/\a.Span=b.Span
instance (a b:Xg):Decidable (X069 a b):=by unfold X069;infer_instance
theorem Xyq {a b c:Xg} (h:ltE a b) (k:ltE b c):ltE a c:=by unfold ltE at *;omega
theorem Xqv {a b:Xg} (h:ltE a b):¬ ltE b a:=by unfold ltE at *;omega
def cmpI (a b:Int):Int:=if a<b then -1 else if a>b then 1 else 0
theorem X0au (a b:Int):X11 a b=some (cmpI a b):=by
 simp only[X11,X6e,bne_self_eq_false,Yo,cond_false,cmpI];by_cases h1:a<b
 ·simp[h1]
 ·by_cases h2:a>b
  ·simp[h1,h2]
  ·simp[h1,h2]
def Xyf (a b:Xg):Int:=if ltE a b then -1 else if ltE b a then 1 else 0
theorem Xcz (a b:Xg):Xbp a b=some (Xyf a b):=by
 simp only[Xbp,X0au,Yo,Xe0,X6n,List.length_cons,List.length_nil];rw[X24 om];simp only[Yo,Xyf,ltE,cmpI];by_cases h1:a.Span.End<b.Span.End
 ·simp[h1]
 ·by_cases h2:a.Span.End>b.Span.End
  ·have:¬ a.Span.End=b.Span.End:=by omega
   simp[h1,h2,this]
  ·have he:a.Span.End=b.Span.End:=by omega
   by_cases h3:a.Span.Start<b.Span.Start
   ·simp[he,h3]
   ·by_cases h4:a.Span.Start>b.Span.Start
    ·have:¬ a.Span.Start=b.Span.Start:=by omega
     simp[he,h3,h4,this]
    ·have hs:a.Span.Start=b.Span.Start:=by omega
     by_cases h5:a.Key<b.Key
     ·simp[he,hs,h5]
     ·by_cases h6:a.Key>b.Key
      ·simp[he,hs,h5,h6]
      ·simp[he,hs,h5,h6]
theorem X06m {a b:Xg}:Xyf a b<0↔ltE a b:=by
 unfold Xyf;by_cases h:ltE a b
 ·simp[h]
 ·by_cases h2:ltE b a<;>simp[h,h2]
theorem Xs7 {a b:Xg}:0<=Xyf a b↔¬ ltE a b:=by rw[<-X06m];omega
def okA (a:X4z):Prop:=(a.Count=0/\a=⟨0,0,0,0⟩)\/(a.Count=1/\a.Sum=a.Min/\a.Sum=a.Max)\/(1<a.Count/\a.Count<=1073741824/\a.Min<=a.Max)
theorem Xpy (x y:X4z):Xa1 x y=decide (x=y):=by
 obtain⟨a,b,c,d⟩:=x;obtain⟨e,f,g,h⟩:=y;rw[Bool.eq_iff_iff];simp[Xa1]
theorem X9a {a:X4z} (h:okA a):X40 a=some 0:=by
 rcases h with ⟨h1,h2⟩|⟨h1,h2,h3⟩|⟨h1,h2,h3⟩
 ·subst h2;rfl
 ·have h3':a.Min=a.Max:=by omega
  simp[X40,h1,h2,h3']
 ·have e0:(a.Count==0)=false:=by simp;omega
  have e1:(a.Count==1)=false:=by simp;omega
  simp[X40,e0,e1,h1,h2,h3]
theorem X6y {a:X4z} (h:okA a):0<=a.Count/\a.Count<=1073741824:=by
 rcases h with ⟨h1,_⟩|⟨h1,_⟩|⟨h1,h2,_⟩<;>omega
def okE (x:Xg):Prop := -1100585369600<=x.Span.Start/\x.Span.Start<x.Span.End/\x.Span.End<=1100585369600/\okA x.Values.e0/\okA x.Values.e1/\0<x.Values.e0.Count+x.Values.e1.Count
theorem Xcy {x:Xg} (h:okE x):X7k x=some true:=by
 obtain⟨h1,h2,h3,h4,h5,h6⟩:=h;have c1:=X6y h4;have c2:=X6y h5;have e1:¬ x.Span.Start < -1100585369600:=by omega
 have e2:¬ x.Span.End<=x.Span.Start:=by omega
 have e3:¬ x.Span.End>1100585369600:=by omega
 simp only[X7k,X9a h4,X9a h5,Yo];rw[X0z om om];have e3:¬ 1100585369600<x.Span.End:=by omega
 simp[e1,e2,e3,h6]
theorem X9j (l:List Xg) (hs:l.Pairwise ltE) (ho:∀ x∈l,okE x) (hn:l.length<=1000000):∀ (xs:List Xg) (k:Nat),l.drop k=xs->X2l l xs k=some .x0:=by
 intro xs
 induction xs with
 |nil=>intro k _;rfl
 |cons x xs ih =>
  intro k hk;have hlt:k<l.length:=by
   rcases Nat.lt_or_ge k l.length with h|h
   ·exact h
   ·rw[List.drop_eq_nil_of_le h] at hk;cases hk
  have hx:l[k]?=some x:=by have:=congrArg List.head? hk;simpa[List.head?_drop] using this
  have hmem:x∈l:=Yg hx;have hnext:l.drop (k+1)=xs:=by rw[<-List.tail_drop,hk];rfl
  rw[X2l];simp only[Xcy (ho x hmem),Yo,Bool.not_true,cond_false,cond_true];by_cases h0:k=0
  ·subst h0;simp only[Int.ofNat_zero,Int.cast_ofNat_Int,gt_iff_lt,Int.lt_irrefl,decide_false,cond_false,Yo];exact ih 1 hnext
  ·have hpos:decide ((k:Int)>0)=true:=by simp;omega
   rw[hpos,cond_true];have hw:IntKind.i64.wrap ((k:Int) - 1)=((k - 1:Nat):Int):=by rw[X0z om om];omega
   rw[hw,X4y];have hp:l[k - 1]?=some l[k - 1]:=Ye om;rw[hp];have hlt2:ltE l[k - 1] x:=by
    have h3:=List.pairwise_iff_getElem.1 hs (k - 1) k om hlt om;have:l[k]=x:=by rw[Ye hlt] at hx;exact Option.some.inj hx
    rwa [this] at h3
   have hord:¬ (0<=Xyf l[k - 1] x):=by rw[Xs7];exact λh=>h hlt2
   simp only[Yo,Xcz,ge_iff_le,hord,decide_false,cond_false];exact ih (k+1) hnext
theorem Xn4 {l:List Xg} (hs:l.Pairwise ltE) (ho:∀ x∈l,okE x) (hn:l.length<=4000):X7l l=some 0:=by
 unfold X7l;have:¬ ((l.length:Int)>4000):=by omega
 simp only[this,decide_false,cond_false];rw[X24 om,X9j l hs ho om l 0 rfl];rfl
def cnt (l:List Xg) (x:Xg):Nat:=(l.takeWhile λy=>decide (ltE y x)).length
end Go.D


namespace Go.D
structure RQ (q:X1t):Prop where
 w:QW q
 ok:(qChk q).2=0
theorem RQ.cz {q:X1t} (h:RQ q):Xwr q=0:=by
 have:=h.ok;unfold qChk at this;split at this
 ·rename_i h1;exact absurd this h1
 ·rename_i h1;omega
theorem RQ.facts {q:X1t} (h:RQ q):(1<=q.Agg/\q.Agg<=4/\(q.Late=1\/q.Late=2))/\(q.Agg≠1->Xez q.Arg=0)/\(0<q.Where.length->Xez q.Where=0)/\X8e q.Sources q.Join=0/\okW q.Window/\(q.Join=true->q.Window.Kind=1):=by
 have hc:=h.cz;unfold Xwr at hc;split at hc
 ·cases hc
 ·rename_i h1;split at hc
  ·cases hc
  ·split at hc
   ·rename_i h2;exact absurd hc h2.2
   ·rename_i h2;split at hc
    ·rename_i h3;exact absurd hc h3.2
    ·rename_i h3;split at hc
     ·rename_i h4;exact absurd hc h4
     ·rename_i h4;split at hc
      ·cases hc
      ·rename_i h5;split at hc
       ·rename_i h6;refine⟨by omega,λha=>?_,λhw=>?_,by omega,h6,λhj=>?_⟩
        ·by_cases hz:Xez q.Arg=0
         ·exact hz
         ·exact absurd ⟨ha,hz⟩ h2
        ·by_cases hz:Xez q.Where=0
         ·exact hz
         ·exact absurd ⟨hw,hz⟩ h3
        ·by_cases hk:q.Window.Kind=1
         ·exact hk
         ·exact absurd ⟨hj,hk⟩ h5
       ·cases hc
theorem RQ.src {q:X1t} (h:RQ q):1<=q.Sources.length/\q.Sources.length<=4/\(q.Join=true->q.Sources.length=2):=by
 have hs:=h.facts.2.2.2.1;unfold X8e at hs;split at hs
 ·cases hs
 ·split at hs
  ·cases hs
  ·rename_i h1 h2;unfold Xtj at h2;have h2:((q.Sources.length==0||(q.Join&&q.Sources.length != 2))||q.Sources.any λx=>decide (x<0)||decide (x>3))=false:=by simpa using h2
   rw[Bool.or_eq_false_iff,Bool.or_eq_false_iff] at h2;have a1:q.Sources.length≠0:=by simpa using h2.1.1
   refine⟨by omega,by omega,λhj=>?_⟩;have:=h2.1.2;rw[hj] at this;simpa using this
def valA (agg:Int) (a:X4z):Int:=if agg=1 then a.Count else if agg=2 then a.Sum else if agg=3 then a.Min else a.Max
def live (q:X1t) (e:Xg):Bool:=decide (e.Values.e0.Count≠0)&&(!q.Join||decide (e.Values.e1.Count≠0))
def rowE (q:X1t) (e:Xg):X9f:=⟨e.Key,e.Span,⟨valA q.Agg e.Values.e0,if q.Join then valA q.Agg e.Values.e1 else 0⟩⟩
def X0e6 (q:X1t) (es:List Xg):List X9f:=(es.filter (live q)).map (rowE q)
end Go.D


namespace Go.D
def isT (t:Int):Bool:=decide (-1099511627776<=t)&&decide (t<=1099511627776)
def Xu7 (t:Int):Bool:=isT t||(t==9223372036854775807)
def Xpd:X07:=⟨0,0,0⟩
def row0:X9f:=⟨0,⟨0,0⟩,⟨0,0⟩⟩
def Xfd (x:X9f):Bool:=decide (-2199023255552<=x.Span.Start)&&decide (x.Span.Start<x.Span.End)&&decide (x.Span.End<=2199023255552)
def mOK (m:Xo):Bool :=
 if m.Kind=1\/m.Kind=4 then isT m.Record.Time&&decide (m=⟨m.Kind,m.Record,0,row0⟩)
 else if m.Kind=2 then Xu7 m.Time&&decide (m=⟨m.Kind,Xpd,m.Time,row0⟩)
 else if m.Kind=3 then Xfd m.Row&&decide (m=⟨m.Kind,Xpd,0,m.Row⟩)
 else false
theorem X95 (x y:Xo):X3y x y=decide (x=y):=by
 obtain⟨k,⟨a,b,c⟩,t,⟨d,⟨e,f⟩,⟨g,h⟩⟩⟩:=x;obtain⟨k',⟨a',b',c'⟩,t',⟨d',⟨e',f'⟩,⟨g',h'⟩⟩⟩:=y;rw[Bool.eq_iff_iff];simp[X3y,X20,Xi5,Xdy,Xmm,and_assoc]
theorem X9y (t:Int):X4j t=some (isT t):=by
 unfold X4j isT;cases h1:decide (t >= -1099511627776)<;>simp_all
theorem Xdu (t:Int):X5s t=some (Xu7 t):=by
 unfold X5s Xu7;rw[X9y,Yo];cases isT t<;>simp
theorem X5j (m:Xo):X34 m=some (if mOK m then 0 else 8):=by
 have fin:∀ (b:Bool) (w:Xo),(bif (bif (!b) then true else (!(X3y m w))) then some (8:Int) else some 0)=some (if (b&&decide (m=w)) then 0 else 8):=by
  intro b w;rw[X95];cases b<;>cases decide (m=w)<;>rfl
 unfold X34 mOK;rw[X9y,Xdu];by_cases h1:m.Kind=1
 ·rw[if_pos (show m.Kind=1\/m.Kind=4 from .inl h1),show(m.Kind==(1:Int))=true by simp[h1]];simp only[cond_true,Yo];exact fin _ _
 ·rw[show(m.Kind==(1:Int))=false by simp[h1]];by_cases h4:m.Kind=4
  ·rw[if_pos (show m.Kind=1\/m.Kind=4 from .inr h4),show(m.Kind==(4:Int))=true by simp[h4]];simp only[cond_true,cond_false,Yo];exact fin _ _
  ·rw[if_neg (show ¬ (m.Kind=1\/m.Kind=4) by simp[h1,h4]),show(m.Kind==(4:Int))=false by simp[h4]];by_cases h2:m.Kind=2
   ·rw[if_pos h2,show(m.Kind==(2:Int))=true by simp[h2]];simp only[cond_true,cond_false,Yo];exact fin _ _
   ·rw[if_neg h2,show(m.Kind==(2:Int))=false by simp[h2]];by_cases h3:m.Kind=3
    ·rw[if_pos h3,show(m.Kind==(3:Int))=true by simp[h3]];simp only[cond_true,cond_false,Yo];rw[fin];have:Xfd m.Row=(bif (bif (decide ((-2199023255552:Int)<=m.Row.Span.Start)) then (decide (m.Row.Span.Start<m.Row.Span.End)) else false) then (decide (m.Row.Span.End<=(2199023255552:Int))) else false):=by
      unfold Xfd;cases decide ((-2199023255552:Int)<=m.Row.Span.Start)<;>cases decide (m.Row.Span.Start<m.Row.Span.End)<;>rfl
     rw[this];rfl
    ·rw[if_neg h3,show(m.Kind==(3:Int))=false by simp[h3]];simp only[cond_false,Yo];rw[fin];rfl
def sOK (s:X3i):Bool:=decide (0<=s.Out)&&decide (s.Out<3)&&mOK s.Message
theorem Xep (Y:List X3i):∀ (xs:List X3i) (k:Nat),X50 Y xs k=some (if xs.all sOK then .x0 else .x1)
 |[],k=>rfl
 |x::xs,k=>by
  rw[X50,X5j,List.all_cons,Xep Y xs (k+1)];unfold sOK;by_cases h1:x.Out<0
  ·rw[Yt h1,Yf (show ¬ 0<=x.Out by omega)];rfl
  ·rw[Yf h1,Yt (show 0<=x.Out by omega)];by_cases h2:x.Out >= 3
   ·rw[Yt h2,Yf (show ¬ x.Out<3 by omega)];rfl
   ·rw[Yf h2,Yt (show x.Out<3 by omega)];cases mOK x.Message<;>rfl
theorem Xp4 {l:List X3i} (h:l.length<=140737488355328):Xd9 l=some (l.all sOK):=by
 unfold Xd9;rw[X24 h,Yo,Xep];cases l.all sOK<;>rfl
instance (a:X4z):Decidable (okA a):=by unfold okA;infer_instance
instance (x:Xg):Decidable (okE x):=by unfold okE;infer_instance
instance (x y:Xg):Decidable (ltE x y):=by unfold ltE;infer_instance
theorem Xfx (a:X4z):X40 a=some (if okA a then 0 else 8):=by
 by_cases h:okA a
 ·rw[if_pos h];exact X9a h
 ·rw[if_neg h];unfold okA at h;unfold X40;rw[Xpy];by_cases h0:a.Count=0
  ·have:¬ a=⟨0,0,0,0⟩:=λe=>h (.inl ⟨h0,e⟩);simp[h0,this]
  ·by_cases h1:a.Count=1
   ·have:¬ (a.Sum=a.Min/\a.Sum=a.Max):=λe=>h (.inr (.inl ⟨h1,e⟩));rw[show(a.Count==(0:Int))=false by simpa using h0,show(a.Count==(1:Int))=true by simpa using h1];simp only[cond_true,cond_false,Yo];by_cases e1:a.Sum=a.Min
    ·have e2:¬ a.Sum=a.Max:=λe=>this ⟨e1,e⟩;rw[show(a.Sum==a.Min)=true by simpa using e1,show(a.Sum==a.Max)=false by simpa using e2];rfl
    ·rw[show(a.Sum==a.Min)=false by simpa using e1];rfl
   ·rw[show(a.Count==(0:Int))=false by simpa using h0,show(a.Count==(1:Int))=false by simpa using h1];simp only[cond_false];by_cases h2:1<a.Count
    ·by_cases h3:a.Count<=1073741824
     ·have:¬ a.Min<=a.Max:=λe=>h (.inr (.inr ⟨h2,h3,e⟩));rw[Yt (show a.Count>1 from h2),Yt h3,Yf this];rfl
     ·rw[Yt (show a.Count>1 from h2),Yf h3];rfl
    ·rw[Yf (show ¬ a.Count>1 from h2)];rfl
theorem Xn3 (x:Xg):X7k x=some (decide (okE x)):=by
 by_cases h:okE x
 ·rw[Yt h];exact Xcy h
 ·rw[Yf h];unfold okE at h;unfold X7k;rw[Xfx,Xfx];by_cases h1:x.Span.Start < -1100585369600
  ·rw[Yt h1];rfl
  ·rw[Yf h1];by_cases h2:x.Span.End<=x.Span.Start
   ·rw[Yt h2];rfl
   ·rw[Yf h2];by_cases h3:x.Span.End>1100585369600
    ·rw[Yt h3];rfl
    ·rw[Yf h3];simp only[cond_false,Yo];by_cases a0:okA x.Values.e0
     ·by_cases a1:okA x.Values.e1
      ·have c0:=X6y a0;have c1:=X6y a1;have:¬ 0<x.Values.e0.Count+x.Values.e1.Count:=λe=>h ⟨by omega,by omega,by omega,a0,a1,e⟩;rw[if_pos a0,if_pos a1,X0z om om,Yf (show ¬ x.Values.e0.Count+x.Values.e1.Count>0 from this)];rfl
      ·rw[if_pos a0,if_neg a1];rfl
     ·rw[if_neg a0];rfl
def bhd:Option Xg->Xg->Bool
 |none,_=>true
 |some e,x=>decide (ltE e x)
def Xmh:Option Xg->List Xg->Bool
 |_,[]=>true
 |p,x::xs=>decide (okE x)&&bhd p x&&Xmh (some x) xs
def Xx9 (l:List Xg):Bool:=Xmh none l
theorem Xqz:∀ (l:List Xg) (p:Option Xg),Xmh p l=true↔(∀ x∈l,okE x)/\l.Pairwise ltE/\(∀ e,p=some e->∀ x∈l,ltE e x)
 |[],p=>by simp[Xmh]
 |x::xs,p=>by
  rw[Xmh,Bool.and_eq_true,Bool.and_eq_true,Xqz xs (some x),List.pairwise_cons];constructor
  ·rintro⟨⟨h1,h2⟩,h3,h4,h5⟩;have h5':=h5 x rfl;refine⟨λy hy=>?_,⟨h5',h4⟩,λe he y hy=>?_⟩
   ·rcases List.mem_cons.1 hy with rfl|hy
    ·simpa using h1
    ·exact h3 y hy
   ·subst he;have h2':ltE e x:=by simpa[bhd] using h2
    rcases List.mem_cons.1 hy with rfl|hy
    ·exact h2'
    ·exact Xyq h2' (h5' y hy)
  ·rintro⟨h1,⟨h2,h3⟩,h4⟩;refine⟨⟨by simpa using h1 x List.mem_cons_self,?_⟩,λy hy=>h1 y (List.mem_cons_of_mem _ hy),h3,λe he=>by cases he;exact h2⟩
   cases p with
   |none=>rfl
   |some e=>simpa[bhd] using h4 e rfl x List.mem_cons_self
theorem X02f {l:List Xg}:Xx9 l=true↔(∀ x∈l,okE x)/\l.Pairwise ltE:=by
 unfold Xx9;rw[Xqz];constructor
 ·rintro⟨h1,h2,_⟩;exact⟨h1,h2⟩
 ·rintro⟨h1,h2⟩;exact⟨h1,h2,λe he=>by cases he⟩
theorem Xdb (l:List Xg) (hn:l.length<=1000000):∀ (xs:List Xg) (k:Nat),l.drop k=xs->X2l l xs k=some (if Xmh (if k=0 then none else l[k - 1]?) xs then .x0 else .x1)
 |[],k,_=>rfl
 |x::xs,k,h=>by
  have hk:l[k]?=some x:=by
   have:=congrArg (λz=>z[0]?) h;simpa using this
  have hlt:k<l.length:=(Ys.1 hk).1;have hd:l.drop (k+1)=xs:=by
   have:=congrArg List.tail h;simpa using this
  have ih:=Xdb l hn xs (k+1) hd;rw[if_neg (Nat.succ_ne_zero k),show k+1 - 1=k from rfl,hk] at ih;rw[X2l,Xn3,Yo,Xmh];by_cases ho:okE x
  ·rw[Yt ho]
   cases k with
   |zero =>
    rw[Yf om,if_pos rfl];simp only[Bool.not_true,cond_false,Yo,Bool.true_and];exact ih
   |succ k =>
    have hp:(l[k]' om)=(l[k]' om):=rfl;rw[Yt (show((k+1:Nat):Int)>0 by omega),if_neg (Nat.succ_ne_zero k),X0z om om,show(((k+1:Nat):Int) - 1)=(k:Int) by omega,X4y,show k+1 - 1=k from rfl,Ye (show k<l.length by omega)];simp only[Bool.not_true,cond_false,cond_true,Yo,Xcz,Bool.true_and];by_cases hl:ltE (l[k]' om) x
    ·rw[show bhd (some (l[k]' om)) x=true from Yt hl,show decide (Xyf (l[k]' om) x >= 0)=false from Yf λe=>Xs7.1 e hl];simp only[cond_false,Bool.true_and];exact ih
    ·rw[show bhd (some (l[k]' om)) x=false from Yf hl,show decide (Xyf (l[k]' om) x >= 0)=true from Yt (Xs7.2 hl)];rfl
  ·rw[Yf ho];rfl
theorem Xn5 (l:List Xg):X7l l=some (if l.length>4000 then 4 else if Xx9 l then 0 else 8):=by
 unfold X7l;by_cases h:l.length>4000
 ·rw[Yt om,if_pos h];rfl
 ·rw[Yf om,if_neg h,cond_false,X24 om,Yo,Xdb l om l 0 rfl,if_pos rfl];unfold Xx9;cases Xmh none l<;>rfl
def mkL (t:Int):Bool:=(t == -9223372036854775808)||Xu7 t
theorem X082 (t:Int):mOK ⟨2,⟨0,0,0⟩,t,⟨0,⟨0,0⟩,⟨0,0⟩⟩⟩=Xu7 t:=by
 unfold mOK;simp[Xpd,row0]
theorem Xn2 (t:Int):Xbj t=some (mkL t):=by
 unfold Xbj mkL;rw[X5j,X082];cases(t == -9223372036854775808)<;>cases Xu7 t<;>rfl
def minF (l:List Int) (m:Int):Int:=l.foldl (λy e=>if e<y then e else y) m
def Xcl (k:Int):Int×Int×Bool×Bool×Bool×Bool :=
 if k=1 then (0,0,false,true,false,false) else if k=2 then (1,1,false,false,false,false) else if k=3 then (0,0,false,false,false,false)
 else if k=4 then (1,4,true,false,false,false) else if k=5 then (2,2,true,false,false,false) else if k=6 then (0,0,false,false,true,false)
 else if k=7 then (0,0,false,false,false,true) else (1,0,false,false,false,false)
theorem Xn1 (k:Int):Xbi k=some (Xcl k):=by
 unfold Xbi Xcl;by_cases h1:k=1
 ·subst h1;rfl
 by_cases h2:k=2
 ·subst h2;rfl
 by_cases h3:k=3
 ·subst h3;rfl
 by_cases h4:k=4
 ·subst h4;rfl
 by_cases h5:k=5
 ·subst h5;rfl
 by_cases h6:k=6
 ·subst h6;rfl
 by_cases h7:k=7
 ·subst h7;rfl
 have b:∀ z:Int,¬ k=z->(k==z)=false:=λz h=>by simpa using h
 rw[b _ h1,b _ h2,b _ h3,b _ h4,b _ h5,b _ h6,b _ h7,if_neg h1,if_neg h2,if_neg h3,if_neg h4,if_neg h5,if_neg h6,if_neg h7];rfl
def X9d (b:Bool) (n:Int):Int:=if b then n else 0
theorem Xqi (b:Bool) (n:Int):Xbh b n=some (X9d b n):=by cases b<;>rfl
def Xjp (t:Xv):Bool :=
 decide ((t.Pending.length:Int)<=4000)&&decide ((t.Marks.length:Int) >= (Xcl t.Op.Kind).1)&&decide ((t.Marks.length:Int)<=(Xcl t.Op.Kind).2.1)&&decide ((t.Store.length:Int)<=X9d (Xcl t.Op.Kind).2.2.1 4000)
 && decide ((t.Events.length:Int)<=X9d (Xcl t.Op.Kind).2.2.2.1 60)&&decide ((t.Rows.length:Int)<=X9d (Xcl t.Op.Kind).2.2.2.2.1 4000)&&decide ((t.Late.length:Int)<=X9d (Xcl t.Op.Kind).2.2.2.2.2 4000)
def Xuy (t:Xv):Bool:=decide (t.Turn >= 0)&&decide (t.Turn<20)&&decide (t.Op.N >= 0)&&decide (t.Op.N<4)
def Xuf (e:X5m):Bool:=if e.Mark then Xu7 e.Time&&decide (e.Record=Xpd) else decide (e.Time=0)&&isT e.Record.Time
def Xtg (t:Xv):Bool:=t.Marks.all mkL&&t.Events.all Xuf&&t.Rows.all Xfd&&t.Late.all (λr=>isT r.Time)&&t.Store.all (λx=>decide (t.Op.Kind≠4)||(x.Values.e1.Count==0))
def tOK (t:Xv):Bool:=Xuy t&&Xjp t&&t.Pending.all sOK&&Xx9 t.Store&&Xtg t
theorem Xfv (x y:X07):X20 x y=decide (x=y):=by
 obtain⟨a,b,c⟩:=x;obtain⟨a',b',c'⟩:=y;rw[Bool.eq_iff_iff];simp[X20,and_assoc]
theorem Xko (e:X5m):X90 e=some (if Xuf e then 0 else 8):=by
 unfold X90 Xg6 Xuf;rw[Xdu,X9y,Xfv]
 cases e.Mark with
 |true =>
  simp only[cond_true,Yo,if_true];show _=some (if (Xu7 e.Time&&decide (e.Record=⟨0,0,0⟩))=true then 0 else 8);cases Xu7 e.Time<;>cases decide (e.Record=⟨0,0,0⟩)<;>rfl
 |false =>
  simp only[cond_false,Yo,Bool.false_eq_true,if_false];by_cases h:e.Time=0
  ·rw[show(e.Time != 0)=false by simp[h],Yt h];cases isT e.Record.Time<;>rfl
  ·rw[show(e.Time != 0)=true by simp[h],Yf h];rfl
theorem Xam (t:Xv) (Y:List Int):∀ (xs:List Int) (k:Nat) (b:Bool),X3v t Y xs k b=some (.x0 (b&&xs.all mkL))
 |[],k,b=>by simp[X3v]
 |x::xs,k,b=>by
  rw[X3v,Xn2,List.all_cons]
  cases b with
  |false=>simp only[cond_false,Yo];rw[Xam t Y xs (k+1)];rfl
  |true=>simp only[cond_true,Yo];rw[Xam t Y xs (k+1)];rfl
theorem Xal (t:Xv) (Y:List X5m):∀ (xs:List X5m) (k:Nat) (b:Bool),X3u t Y xs k b=some (.x0 (b&&xs.all Xuf))
 |[],k,b=>by simp[X3u]
 |x::xs,k,b=>by
  rw[X3u,Xko,List.all_cons]
  cases b with
  |false=>simp only[cond_false,Yo];rw[Xal t Y xs (k+1)];rfl
  |true=>simp only[cond_true,Yo];rw[Xal t Y xs (k+1)];cases Xuf x<;>rfl
theorem X02p (x:X9f):mOK ⟨3,⟨0,0,0⟩,0,x⟩=Xfd x:=by
 unfold mOK;simp[Xpd]
theorem Xyx (x:X07):mOK ⟨4,x,0,⟨0,⟨0,0⟩,⟨0,0⟩⟩⟩=isT x.Time:=by
 unfold mOK;simp[row0]
theorem Xak (t:Xv) (Y:List X9f):∀ (xs:List X9f) (k:Nat) (b:Bool),X3t t Y xs k b=some (.x0 (b&&xs.all Xfd))
 |[],k,b=>by simp[X3t]
 |x::xs,k,b=>by
  rw[X3t,X5j,X02p,List.all_cons]
  cases b with
  |false=>simp only[cond_false,Yo];rw[Xak t Y xs (k+1)];rfl
  |true=>simp only[cond_true,Yo];rw[Xak t Y xs (k+1)];cases Xfd x<;>rfl
theorem Xaj (t:Xv) (Y:List X07):∀ (xs:List X07) (k:Nat) (b:Bool),X3s t Y xs k b=some (.x0 (b&&xs.all λr=>isT r.Time))
 |[],k,b=>by simp[X3s]
 |x::xs,k,b=>by
  rw[X3s,X5j,Xyx,List.all_cons]
  cases b with
  |false=>simp only[cond_false,Yo];rw[Xaj t Y xs (k+1)];rfl
  |true=>simp only[cond_true,Yo];rw[Xaj t Y xs (k+1)];cases isT x.Time<;>rfl
theorem X70 (t:Xv) (Y:List Xg):∀ (xs:List Xg) (k:Nat) (b:Bool),X3r t Y xs k b=some (.x0 (b&&xs.all λx=>decide (t.Op.Kind≠4)||(x.Values.e1.Count==0)))
 |[],k,b=>by simp[X3r]
 |x::xs,k,b=>by
  rw[X3r,List.all_cons]
  cases b with
  |false=>simp only[cond_false,Yo];rw[X70 t Y xs (k+1)];rfl
  |true =>
   by_cases h:t.Op.Kind=4
   ·rw[show(t.Op.Kind != 4)=false by simp[h],show decide (t.Op.Kind≠4)=false by simp[h]];simp only[cond_true,cond_false,Yo,Bool.false_or];rw[X70 t Y xs (k+1),show decide (t.Op.Kind≠4)=false by simp[h]];simp
   ·rw[show(t.Op.Kind != 4)=true by simp[h],show decide (t.Op.Kind≠4)=true by simp[h]];simp only[cond_true,Yo,Bool.true_or];rw[X70 t Y xs (k+1),show decide (t.Op.Kind≠4)=true by simp[h]];simp
theorem Xux {t:Xv} (h:Xjp t=true):t.Pending.length<=4000/\t.Marks.length<=4/\t.Store.length<=4000/\t.Events.length<=60/\t.Rows.length<=4000/\t.Late.length<=4000:=by
 unfold Xjp at h;simp only[Bool.and_eq_true,decide_eq_true_eq] at h;obtain⟨⟨⟨⟨⟨⟨h1,h2⟩,h3⟩,h4⟩,h5⟩,h6⟩,h7⟩:=h;have hm:(Xcl t.Op.Kind).2.1<=4:=by
  unfold Xcl
  (repeat' split)<;>decide
 have hr:∀ b (n:Int),0<=n->X9d b n<=n:=λb n hn=>by cases b<;>simp[X9d]<;>omega
 have r1:=hr (Xcl t.Op.Kind).2.2.1 4000 om;have r2:=hr (Xcl t.Op.Kind).2.2.2.1 60 om;have r3:=hr (Xcl t.Op.Kind).2.2.2.2.1 4000 om;have r4:=hr (Xcl t.Op.Kind).2.2.2.2.2 4000 om;omega
theorem Xp5 (t:Xv):Xda t=some (if tOK t then 0 else 8):=by
 unfold Xda;rw[Xn1,Yo];simp only[Xqi,Yo];have hs:(bif (decide ((List.length t.Pending:Int)<=(4000:Int))) then (bif (decide ((List.length t.Marks:Int) >= (Xcl t.Op.Kind).1)) then (bif (decide ((List.length t.Marks:Int)<=(Xcl t.Op.Kind).2.1)) then (bif (decide ((List.length t.Store:Int)<=X9d (Xcl t.Op.Kind).2.2.1 4000)) then (bif (decide ((List.length t.Events:Int)<=X9d (Xcl t.Op.Kind).2.2.2.1 60)) then (bif (decide ((List.length t.Rows:Int)<=X9d (Xcl t.Op.Kind).2.2.2.2.1 4000)) then (some (bif (bif (bif (bif (bif (bif (decide ((List.length t.Pending:Int)<=(4000:Int))) then (decide ((List.length t.Marks:Int) >= (Xcl t.Op.Kind).1)) else false) then (decide ((List.length t.Marks:Int)<=(Xcl t.Op.Kind).2.1)) else false) then (decide ((List.length t.Store:Int)<=X9d (Xcl t.Op.Kind).2.2.1 4000)) else false) then (decide ((List.length t.Events:Int)<=X9d (Xcl t.Op.Kind).2.2.2.1 60)) else false) then (decide ((List.length t.Rows:Int)<=X9d (Xcl t.Op.Kind).2.2.2.2.1 4000)) else false) then (decide ((List.length t.Late:Int)<=X9d (Xcl t.Op.Kind).2.2.2.2.2 4000)) else false)) else (some false)) else (some false)) else (some false)) else (some false)) else (some false)) else (some false):Option Bool)=some (Xjp t):=by
  unfold Xjp;cases decide ((List.length t.Pending:Int)<=(4000:Int))<;>cases decide ((List.length t.Marks:Int) >= (Xcl t.Op.Kind).1)<;>cases decide ((List.length t.Marks:Int)<=(Xcl t.Op.Kind).2.1)<;>cases decide ((List.length t.Store:Int)<=X9d (Xcl t.Op.Kind).2.2.1 4000)<;>cases decide ((List.length t.Events:Int)<=X9d (Xcl t.Op.Kind).2.2.2.1 60)<;>cases decide ((List.length t.Rows:Int)<=X9d (Xcl t.Op.Kind).2.2.2.2.1 4000)<;>rfl
 rw[hs,Yo];have hn:(bif (bif (bif (decide (t.Turn >= (0:Int))) then (decide (t.Turn<(20:Int))) else false) then (decide (t.Op.N >= (0:Int))) else false) then (decide (t.Op.N<(4:Int))) else false)=Xuy t:=by
  unfold Xuy;cases decide (t.Turn >= (0:Int))<;>cases decide (t.Turn<(20:Int))<;>cases decide (t.Op.N >= (0:Int))<;>rfl
 rw[hn];unfold tOK
 cases h1:Xuy t with
 |false=>rfl
 |true =>
  cases h2:Xjp t with
  |false=>rfl
  |true =>
   obtain⟨l1,l2,l3,l4,l5,l6⟩:=Xux h2;simp only[Bool.not_true,cond_false];rw[Xp4 om,Yo]
   cases h3:t.Pending.all sOK with
   |false=>rfl
   |true =>
    simp only[Bool.not_true,cond_false];rw[Xn5,if_neg om,Yo]
    cases h4:Xx9 t.Store with
    |false=>rfl
    |true =>
     simp only[if_true,bne_self_eq_false,Yo,cond_false];rw[X24 om,Yo,Xam,Yo];simp only;rw[X24 om,Yo,Xal,Yo];simp only;rw[X24 om,Yo,Xak,Yo];simp only;rw[X24 om,Yo,Xaj,Yo];simp only;rw[X24 om,Yo,X70,Yo];simp only[Bool.true_and,Bool.and_true];unfold Xtg;generalize (t.Marks.all mkL&&t.Events.all Xuf&&t.Rows.all Xfd&&(t.Late.all λr=>isT r.Time)&&t.Store.all λx=>decide (t.Op.Kind≠4)||(x.Values.e1.Count==0))=b;cases b<;>rfl
end Go.D


namespace Go.D
def t0:Xv:=⟨⟨0,0⟩,0,[],[],[],[],[],[]⟩
theorem Xx6 {t:Xv} (h:tOK t=true):Xuy t=true/\Xjp t=true/\t.Pending.all sOK=true/\Xx9 t.Store=true/\Xtg t=true:=by
 unfold tOK at h;simp only[Bool.and_eq_true] at h;exact⟨h.1.1.1.1,h.1.1.1.2,h.1.1.2,h.1.2,h.2⟩
def Xwl (l:List Xg) (x:Xg):Bool :=
 match l[cnt l x]? with
 |some y=>decide (X069 y x/\(y.Values.e0.Count+x.Values.e0.Count>1073741824\/y.Values.e1.Count+x.Values.e1.Count>1073741824))
 |none=>false
end Go.D


namespace Go.D
theorem X04p {z:Int} (h:wfI .u8 z):0<=z:=by
 have h:=h;simp only[wfI,Lit.wf,IntKind.bits,IntKind.signed] at h;simp at h;have e1:IntKind.u8.min=0:=by decide
 omega
theorem X05f {z:Int} (h:wfI .i64 z):z<=9223372036854775807 /\ -9223372036854775808<=z:=by
 have h:=h;simp only[wfI,Lit.wf,IntKind.bits,IntKind.signed] at h;simp at h;have e1:IntKind.i64.min = -9223372036854775808:=by decide
 have e2:IntKind.i64.max=9223372036854775807:=by decide
 omega
theorem X0bg {q:X1t} (w:Xle q):QW q:=by
 obtain⟨_,⟨_,h1⟩,_,_,⟨_,h2⟩,h3,_⟩:=w;exact⟨λx hx=>X04p (h1 x hx).1,λx hx=>X04p (h2 x hx).1,X05f h3.2.2⟩
end Go.D


namespace Go.D
theorem Xno (x:X3i):Xmn x x=true:=by
 simp[Xmn,X95]
theorem X02v {q:X1t} (hq:QW q):X6x q=some (decide ((qChk q).2=0)):=by
 unfold X6x;rw[Xnb hq,Yo];rfl
end Go.D


namespace Go.D
end Go.D


namespace Go.D
theorem ch5 (A B C D E:Bool):((bif A then (bif B then (bif C then (bif D then (some (bif (bif (bif (bif A then B else false) then C else false) then D else false) then E else false)) else (some (bif (bif (bif (bif A then B else false) then C else false) then D else false) then false else false))) else (some (bif (bif (bif (bif A then B else false) then C else false) then false else false) then false else false))) else (some (bif (bif (bif (bif A then B else false) then false else false) then false else false) then false else false))) else (some (bif (bif (bif (bif A then false else false) then false else false) then false else false) then false else false)):Option (Bool)).bind λj=>some j)=some (A&&(B&&(C&&(D&&E)))):=by
 cases A<;>cases B<;>cases C<;>cases D<;>cases E<;>rfl
theorem Xm3 (x:Int):X9r x=some (Xu7 x):=by
 unfold X9r Xu7 isT;simp only[ge_iff_le];cases decide (-1099511627776<=x)<;>cases decide (x<=1099511627776)<;>cases(x==9223372036854775807)<;>rfl
theorem Xvk (x:Int):Xbz x=some (mkL x):=by
 unfold Xbz mkL;rw[Xm3];cases(x == -9223372036854775808)<;>cases Xu7 x<;>rfl
theorem X03i (t:Xv) (hn:t.Marks.length<=1000000):∀ (m n k:Nat),m=t.Marks.length - k->m<n->k<=t.Marks.length->X4b t n (k:Int)=some (if (t.Marks.drop k).all mkL then .x1 else .x0):=by
 intro m
 induction m with
 |zero =>
  intro n k hm hmn hk;obtain⟨n,rfl⟩:∃ q,n=q+1:=⟨n - 1,by omega⟩;rw[X4b,Yf om,List.drop_eq_nil_of_le om];rfl
 |succ m ih =>
  intro n k hm hmn hk;obtain⟨n,rfl⟩:∃ q,n=q+1:=⟨n - 1,by omega⟩;have hlt:k<t.Marks.length:=by omega
  rw[X4b,Yt om,cond_true,X4y,Ye hlt,Yo,Xvk,Yo,List.drop_eq_getElem_cons hlt,List.all_cons,X0z om om,show((k:Int)+1)=((k+1:Nat):Int) by omega,ih n (k+1) om om om];cases mkL t.Marks[k]<;>rfl
theorem Xgk (a:X4z):X68 a=some (if okA a then 0 else 8):=by
 unfold X68;by_cases n0:a.Count<0
 ·rw[Yt n0,if_neg (λh=>by have:=X6y h;omega)];rfl
 ·rw[Yf n0];by_cases n1:a.Count>1073741824
  ·rw[Yt n1,if_neg (λh=>by have:=X6y h;omega)];rfl
  ·rw[Yf n1];simp only[cond_false,Yo];by_cases c0:a.Count=0
   ·rw[show(a.Count==0)=true by simpa using c0,show(a.Count==1)=false by simp[c0]];by_cases hz:a=⟨0,0,0,0⟩
    ·rw[if_pos (show okA a from .inl ⟨c0,hz⟩),hz];rfl
    ·rw[if_neg (λh=>by rcases h with ⟨_,h⟩|⟨h,_⟩|⟨h,_⟩<;>first|exact hz h|omega)];have:¬ (a.Sum=0/\a.Min=0/\a.Max=0):=λ⟨e1,e2,e3⟩=>hz (by cases a;simp_all);by_cases e1:a.Sum=0
     ·by_cases e2:a.Min=0
      ·have e3:¬ a.Max=0:=λe=>this ⟨e1,e2,e⟩;rw[show(a.Sum != 0)=false by simp[e1],show(a.Min != 0)=false by simp[e2],show(a.Max != 0)=true by simpa using e3];rfl
      ·rw[show(a.Sum != 0)=false by simp[e1],show(a.Min != 0)=true by simpa using e2];rfl
     ·rw[show(a.Sum != 0)=true by simpa using e1];rfl
   ·rw[show(a.Count==0)=false by simpa using c0];by_cases c1:a.Count=1
    ·rw[show(a.Count==1)=true by simpa using c1];by_cases e1:a.Sum=a.Min
     ·by_cases e2:a.Min=a.Max
      ·rw[if_pos (show okA a from .inr (.inl ⟨c1,e1,e1.trans e2⟩)),show(a.Sum != a.Min)=false by simp[e1],show(a.Min != a.Max)=false by simp[e2],Yf (show ¬ a.Min>a.Max by omega)];rfl
      ·rw[if_neg (λh=>by rcases h with ⟨h,_⟩|⟨_,h1,h2⟩|⟨h,_⟩<;>omega),show(a.Sum != a.Min)=false by simp[e1],show(a.Min != a.Max)=true by simpa using e2];rfl
     ·rw[if_neg (λh=>by rcases h with ⟨h,_⟩|⟨_,h1,h2⟩|⟨h,_⟩<;>omega),show(a.Sum != a.Min)=true by simpa using e1];rfl
    ·rw[show(a.Count==1)=false by simpa using c1];by_cases e:a.Min>a.Max
     ·rw[Yt e,if_neg (λh=>by rcases h with ⟨h,_⟩|⟨h,_⟩|⟨_,_,h⟩<;>omega)];rfl
     ·rw[Yf e,if_pos (show okA a from .inr (.inr ⟨by omega,by omega,by omega⟩))];rfl
theorem Xhj (x y:Xg):X9t x y=some (decide (ltE x y)):=by
 unfold X9t;by_cases e1:x.Span.End=y.Span.End
 ·rw[show(x.Span.End != y.Span.End)=false by simp[e1]];by_cases e2:x.Span.Start=y.Span.Start
  ·rw[show(x.Span.Start != y.Span.Start)=false by simp[e2]];simp only[cond_false];congr 1
   exact decide_eq_decide.2 (by unfold ltE;omega)
  ·rw[show(x.Span.Start != y.Span.Start)=true by simpa using e2];simp only[cond_false,cond_true];congr 1
   exact decide_eq_decide.2 (by unfold ltE;omega)
 ·rw[show(x.Span.End != y.Span.End)=true by simpa using e1];simp only[cond_true];congr 1
  exact decide_eq_decide.2 (by unfold ltE;omega)
theorem Xdr (l:List Xg) (hn:l.length<=1000000):∀ (xs:List Xg) (k:Nat),l.drop k=xs->X4g l xs k=some (if Xmh (if k=0 then none else l[k - 1]?) xs then .x0 else .x1)
 |[],k,_=>rfl
 |x::xs,k,h=>by
  have hk:l[k]?=some x:=by
   have:=congrArg (λz=>z[0]?) h;simpa using this
  have hlt:k<l.length:=(Ys.1 hk).1;have hd:l.drop (k+1)=xs:=by
   have:=congrArg List.tail h;simpa using this
  have ih:=Xdr l hn xs (k+1) hd;rw[if_neg (Nat.succ_ne_zero k),show k+1 - 1=k from rfl,hk] at ih;have h96:((X68 x.Values.e0).bind λv97=>bif (v97==(0:Int)) then ((X68 x.Values.e1).bind λv100=>some (bif (v97==(0:Int)) then (v100==(0:Int)) else false)) else (some (bif (v97==(0:Int)) then false else false)):Option (Bool))=some (decide (okA x.Values.e0/\okA x.Values.e1)):=by
   rw[Xgk,Xgk];by_cases a0:okA x.Values.e0
   ·by_cases a1:okA x.Values.e1
    ·rw[if_pos a0,if_pos a1,Yt (⟨a0,a1⟩:_/\_)];rfl
    ·rw[if_pos a0,if_neg a1,Yf (λh:_/\_=>a1 h.2)];rfl
   ·rw[if_neg a0,Yf (λh:_/\_=>a0 h.1)];rfl
  rw[X4g,h96,Yo,Xmh];by_cases ho:okE x
  ·obtain⟨q1,q2,q3,a0,a1,q4⟩:=ho;have c0:=X6y a0;have c1:=X6y a1;rw[Yt (show okE x from⟨q1,q2,q3,a0,a1,q4⟩),Yt (⟨a0,a1⟩:_/\_),Yt (show x.Span.Start >= -1100585369600 by omega),Yt (show x.Span.Start<x.Span.End by omega),Yt (show x.Span.End<=1100585369600 by omega)];have hcc:∀ (X:Option Bool) (Y:Option Bool),X=Y->(bif (x.Values.e0.Count==(0:Int)) then (bif (x.Values.e1.Count==(0:Int)) then (some true) else X) else Y)=Y:=by
    intro X Y e;by_cases g0:x.Values.e0.Count=0
    ·have g1:¬ x.Values.e1.Count=0:=by omega
     rw[show(x.Values.e0.Count==0)=true by simpa using g0,show(x.Values.e1.Count==0)=false by simpa using g1,e];rfl
    ·rw[show(x.Values.e0.Count==0)=false by simpa using g0];rfl
   simp only[Bool.not_true,cond_true,cond_false]
   cases k with
   |zero =>
    rw[Yf (show ¬ ((0:Nat):Int)>0 by omega),if_pos rfl];simp only[cond_false]
    rw[hcc _ _ (by
     by_cases g0:x.Values.e0.Count=0
     ·have g1:¬ x.Values.e1.Count=0:=by omega
      rw[show(x.Values.e0.Count==0)=true by simpa using g0,show(x.Values.e1.Count==0)=false by simpa using g1];rfl
     ·rw[show(x.Values.e0.Count==0)=false by simpa using g0];rfl)]
    simp only[cond_false,Yo,Bool.true_and];exact ih
   |succ k =>
    rw[Yt (show((k+1:Nat):Int)>0 by omega),if_neg (Nat.succ_ne_zero k),X0z om om,show(((k+1:Nat):Int) - 1)=(k:Int) by omega,X4y,show k+1 - 1=k from rfl,Ye (show k<l.length by omega)];simp only[cond_true,Yo,Xhj]
    rw[hcc _ _ (by
     by_cases g0:x.Values.e0.Count=0
     ·have g1:¬ x.Values.e1.Count=0:=by omega
      rw[show(x.Values.e0.Count==0)=true by simpa using g0,show(x.Values.e1.Count==0)=false by simpa using g1];rfl
     ·rw[show(x.Values.e0.Count==0)=false by simpa using g0];rfl)]
    simp only[cond_false,Yo,Bool.true_and];by_cases hl:ltE (l[k]' om) x
    ·rw[show bhd (some (l[k]' om)) x=true from Yt hl,Yt hl];simp only[Bool.not_true,cond_false,Bool.true_and];exact ih
    ·rw[show bhd (some (l[k]' om)) x=false from Yf hl,Yf hl];rfl
  ·rw[Yf ho];have hbad:∀ (X:Option Bool),(bif (!(bif (bif (decide (x.Span.Start >= ((-1100585369600):Int))) then (decide (x.Span.Start<x.Span.End)) else false) then (decide (x.Span.End<=(1100585369600:Int))) else false)) then (some true) else (bif (!(decide (okA x.Values.e0/\okA x.Values.e1))) then (some true) else (bif (x.Values.e0.Count==(0:Int)) then (bif (x.Values.e1.Count==(0:Int)) then (some true) else X) else X)):Option Bool)=some true\/True:=λ_=>.inr trivial;by_cases q1:x.Span.Start >= -1100585369600
   ·by_cases q2:x.Span.Start<x.Span.End
    ·by_cases q3:x.Span.End<=1100585369600
     ·by_cases a0:okA x.Values.e0
      ·by_cases a1:okA x.Values.e1
       ·have c0:=X6y a0;have c1:=X6y a1;have g0:x.Values.e0.Count=0:=by
         rcases Int.lt_or_le 0 x.Values.e0.Count with g|g
         ·exact absurd ⟨by omega,by omega,by omega,a0,a1,by omega⟩ ho
         ·omega
        have g1:x.Values.e1.Count=0:=by
         rcases Int.lt_or_le 0 x.Values.e1.Count with g|g
         ·exact absurd ⟨by omega,by omega,by omega,a0,a1,by omega⟩ ho
         ·omega
        rw[Yt q1,Yt q2,Yt q3,Yt (⟨a0,a1⟩:_/\_),show(x.Values.e0.Count==0)=true by simpa using g0,show(x.Values.e1.Count==0)=true by simpa using g1];rfl
       ·rw[Yt q1,Yt q2,Yt q3,Yf (λh:_/\_=>a1 h.2)];rfl
      ·rw[Yt q1,Yt q2,Yt q3,Yf (λh:_/\_=>a0 h.1)];rfl
     ·rw[Yt q1,Yt q2,Yf q3];rfl
    ·rw[Yt q1,Yf q2];rfl
   ·rw[Yf q1];rfl
theorem Xn9 (l:List Xg):Xc5 l=some (if l.length>4000 then 4 else if Xx9 l then 0 else 8):=by
 unfold Xc5;by_cases h:l.length>4000
 ·rw[Yt om,if_pos h];rfl
 ·rw[Yf om,if_neg h,cond_false,X24 om,Yo,Xdr l om l 0 rfl,if_pos rfl];unfold Xx9;cases Xmh none l<;>rfl
theorem Xw5 (t:Xv) (hn:t.Store.length<=1000000):∀ (m n k:Nat),m=t.Store.length - k->m<n->k<=t.Store.length->X4c t n (k:Int)=some (if (t.Store.drop k).all (λx=>decide (t.Op.Kind≠4)||(x.Values.e1.Count==0)) then .x1 else .x0):=by
 intro m
 induction m with
 |zero =>
  intro n k hm hmn hk;obtain⟨n,rfl⟩:∃ q,n=q+1:=⟨n - 1,by omega⟩;rw[X4c,Yf om,List.drop_eq_nil_of_le om];rfl
 |succ m ih =>
  intro n k hm hmn hk;obtain⟨n,rfl⟩:∃ q,n=q+1:=⟨n - 1,by omega⟩;have hlt:k<t.Store.length:=by omega
  rw[X4c,Yt om,cond_true,X4y,Ye hlt,List.drop_eq_getElem_cons hlt,List.all_cons,X0z om om,show((k:Int)+1)=((k+1:Nat):Int) by omega,ih n (k+1) om om om];by_cases h4:t.Op.Kind=4
  ·rw[show(t.Op.Kind==4)=true by simpa using h4,Yf (show ¬ t.Op.Kind≠4 by omega)];by_cases h1:t.Store[k].Values.e1.Count=0
   ·simp[h1]
   ·rw[show(t.Store[k].Values.e1.Count==0)=false by simpa using h1];simp only[cond_true,Yo,show(t.Store[k].Values.e1.Count != 0)=true by simpa using h1];rfl
  ·rw[show(t.Op.Kind==4)=false by simpa using h4,Yt (show t.Op.Kind≠4 from h4)];rfl
theorem Xvs (t:Xv):∃ b,Xc0 t=some b/\(b=false->t.Pending.length<=4010/\t.Rows.length<=4010/\t.Late.length<=4010/\t.Store.length<=100/\t.Events.length<=100/\t.Marks.length<=20):=by
 unfold Xc0;have g:∀ z:Int,∃ b,(bif (decide (z>(100:Int))) then (bif (decide (z<(3990:Int))) then (some (bif (bif (decide (z>(100:Int))) then (decide (z<(3990:Int))) else false) then true else false)) else (some (bif (bif (decide (z>(100:Int))) then (decide (z<(3990:Int))) else false) then true else (decide (z>(4010:Int)))))) else (some (bif (bif (decide (z>(100:Int))) then false else false) then true else (decide (z>(4010:Int))))):Option (Bool))=some b/\(b=false->z<=4010):=by
  intro z;by_cases h1:z>100
  ·rw[Yt h1];by_cases h2:z<3990
   ·rw[Yt h2];exact⟨_,rfl,λ_=>by omega⟩
   ·rw[Yf h2];exact⟨_,rfl,λh=>by have:=of_decide_eq_false h;omega⟩
  ·rw[Yf h1];exact⟨_,rfl,λh=>by omega⟩
 obtain⟨b1,e1,f1⟩:=g (List.length t.Pending:Int);obtain⟨b2,e2,f2⟩:=g (List.length t.Rows:Int);obtain⟨b3,e3,f3⟩:=g (List.length t.Late:Int);rw[e1,Yo,e2,Yo,e3,Yo]
 cases b1 with
 |true=>exact⟨_,rfl,λh=>by cases h⟩
 |false =>
 cases b2 with
 |true=>exact⟨_,rfl,λh=>by cases h⟩
 |false =>
 cases b3 with
 |true=>exact⟨_,rfl,λh=>by cases h⟩
 |false =>
 have f1:=f1 rfl;have f2:=f2 rfl;have f3:=f3 rfl;by_cases h1:(List.length t.Store:Int)>100
 ·rw[Yt h1];exact⟨_,rfl,λh=>by cases h⟩
 ·rw[Yf h1];by_cases h2:(List.length t.Events:Int)>100
  ·rw[Yt h2];exact⟨_,rfl,λh=>by cases h⟩
  ·rw[Yf h2];refine⟨_,rfl,λh=>?_⟩;have h3:¬ (List.length t.Marks:Int)>20:=of_decide_eq_false h;omega
end Go.D


namespace Go.D
theorem Xil (r:X07):X57 r=some (isT r.Time):=by
 unfold X57 isT;simp only[ge_iff_le];cases decide (-1099511627776<=r.Time)<;>rfl
theorem Xtq (r:X9f):Xdp r=some (Xfd r):=by
 unfold Xdp Xfd;simp only[ge_iff_le];cases decide (-2199023255552<=r.Span.Start)<;>cases decide (r.Span.Start<r.Span.End)<;>cases decide (r.Span.End<=2199023255552)<;>rfl
theorem Xo1 (m:Xo):X9q m=some (mOK m):=by
 unfold X9q mOK;rw[Xil,Xm3,Xtq];simp only[X95];by_cases h1:m.Kind=1
 ·rw[if_pos (.inl h1),show(m.Kind==1)=true by simpa using h1];simp only[cond_true,Yo];cases isT m.Record.Time<;>rfl
 ·rw[show(m.Kind==1)=false by simpa using h1];by_cases h4:m.Kind=4
  ·rw[if_pos (.inr h4),show(m.Kind==4)=true by simpa using h4];simp only[cond_true,cond_false,Yo];cases isT m.Record.Time<;>rfl
  ·rw[if_neg om,show(m.Kind==4)=false by simpa using h4];simp only[cond_false,Yo];by_cases h2:m.Kind=2
   ·rw[if_pos h2,show(m.Kind==2)=true by simpa using h2];simp only[cond_true,Yo];cases Xu7 m.Time<;>rfl
   ·rw[if_neg h2,show(m.Kind==2)=false by simpa using h2];by_cases h3:m.Kind=3
    ·rw[if_pos h3,show(m.Kind==3)=true by simpa using h3];simp only[cond_true,cond_false,Yo];cases Xfd m.Row<;>rfl
    ·rw[if_neg h3,show(m.Kind==3)=false by simpa using h3];rfl
theorem Xvz (e:X5m):Xc2 e=some (if Xuf e then 0 else 8):=by
 unfold Xc2 Xuf;rw[Xil,Xm3,Xfv];have hr:(X07.mk 0 0 0)=Xpd:=rfl;rw[hr];have ht:(e.Time==0)=decide (e.Time=0):=by by_cases h:e.Time=0<;>simp[h]
 rw[ht];cases e.Mark<;>cases Xu7 e.Time<;>cases decide (e.Record=Xpd)<;>cases decide (e.Time=0)<;>cases isT e.Record.Time<;>rfl
theorem Xo4 (Y:List X3i):∀ (xs:List X3i) (k:Nat),X47 Y xs k=some (if xs.all sOK then .x0 else .x1)
 |[],k=>rfl
 |x::xs,k=>by
  rw[X47,Xo1,Xo4 Y xs (k+1),List.all_cons];unfold sOK;by_cases h1:x.Out<0
  ·rw[Yt h1,Yf (show ¬ 0<=x.Out by omega)];rfl
  ·rw[Yf h1,Yt (show 0<=x.Out by omega)];by_cases h2:x.Out >= 3
   ·rw[Yt h2,Yf (show ¬ x.Out<3 by omega)];rfl
   ·rw[Yf h2,Yt (show x.Out<3 by omega)];cases mOK x.Message<;>rfl
theorem Xv1 {l:List X3i} (hl:l.length<=140737488355328):Xbx l=some (l.all sOK):=by
 unfold Xbx;rw[X24 hl,Yo,Xo4];cases l.all sOK<;>rfl
theorem Xyv (t:Xv) (hn:t.Events.length<=1000000):∀ (m n k:Nat),m=t.Events.length - k->m<n->k<=t.Events.length->X4a t n (k:Int)=some (if (t.Events.drop k).all Xuf then .x1 else .x0):=by
 intro m
 induction m with
 |zero =>
  intro n k hm hmn hk;obtain⟨n,rfl⟩:∃ q,n=q+1:=⟨n - 1,by omega⟩;rw[X4a,Yf om,List.drop_eq_nil_of_le om];rfl
 |succ m ih =>
  intro n k hm hmn hk;obtain⟨n,rfl⟩:∃ q,n=q+1:=⟨n - 1,by omega⟩;have hlt:k<t.Events.length:=by omega
  rw[X4a,Yt om,cond_true,X4y,Ye hlt,Yo,Xvz,Yo,List.drop_eq_getElem_cons hlt,List.all_cons,X0z om om,show((k:Int)+1)=((k+1:Nat):Int) by omega,ih n (k+1) om om om];cases Xuf t.Events[k]<;>rfl
theorem Xyu (t:Xv) (hn:t.Rows.length<=1000000):∀ (m n k:Nat),m=t.Rows.length - k->m<n->k<=t.Rows.length->X49 t n (k:Int)=some (if (t.Rows.drop k).all Xfd then .x1 else .x0):=by
 intro m
 induction m with
 |zero =>
  intro n k hm hmn hk;obtain⟨n,rfl⟩:∃ q,n=q+1:=⟨n - 1,by omega⟩;rw[X49,Yf om,List.drop_eq_nil_of_le om];rfl
 |succ m ih =>
  intro n k hm hmn hk;obtain⟨n,rfl⟩:∃ q,n=q+1:=⟨n - 1,by omega⟩;have hlt:k<t.Rows.length:=by omega
  rw[X49,Yt om,cond_true,X4y,Ye hlt,Yo,Xtq,Yo,List.drop_eq_getElem_cons hlt,List.all_cons,X0z om om,show((k:Int)+1)=((k+1:Nat):Int) by omega,ih n (k+1) om om om];cases Xfd t.Rows[k]<;>rfl
theorem Xyt (t:Xv) (hn:t.Late.length<=1000000):∀ (m n k:Nat),m=t.Late.length - k->m<n->k<=t.Late.length->X48 t n (k:Int)=some (if (t.Late.drop k).all (λr=>isT r.Time) then .x1 else .x0):=by
 intro m
 induction m with
 |zero =>
  intro n k hm hmn hk;obtain⟨n,rfl⟩:∃ q,n=q+1:=⟨n - 1,by omega⟩;rw[X48,Yf om,List.drop_eq_nil_of_le om];rfl
 |succ m ih =>
  intro n k hm hmn hk;obtain⟨n,rfl⟩:∃ q,n=q+1:=⟨n - 1,by omega⟩;have hlt:k<t.Late.length:=by omega
  rw[X48,Yt om,cond_true,X4y,Ye hlt,Yo,Xil,Yo,List.drop_eq_getElem_cons hlt,List.all_cons,X0z om om,show((k:Int)+1)=((k+1:Nat):Int) by omega,ih n (k+1) om om om];cases isT t.Late[k].Time<;>rfl
theorem X03j {t:Xv} (h1:t.Marks.length<=10000) (h2:t.Events.length<=10000) (h3:t.Rows.length<=10000) (h4:t.Late.length<=10000):Xby t=some (t.Marks.all mkL&&(t.Events.all Xuf&&(t.Rows.all Xfd&&t.Late.all λr=>isT r.Time))):=by
 have e0:=X03i t om (t.Marks.length - 0) FU 0 rfl (by unfold FU;omega) om;have e1:=Xyv t om (t.Events.length - 0) FU 0 rfl (by unfold FU;omega) om;have e2:=Xyu t om (t.Rows.length - 0) FU 0 rfl (by unfold FU;omega) om;have e3:=Xyt t om (t.Late.length - 0) FU 0 rfl (by unfold FU;omega) om;rw[show((0:Nat):Int)=0 from rfl,List.drop_zero] at e0 e1 e2 e3;unfold Xby;rw[e0,e1,e2,e3];cases t.Marks.all mkL<;>cases t.Events.all Xuf<;>cases t.Rows.all Xfd<;>cases t.Late.all (λr=>isT r.Time)<;>rfl
def X03o (t:Xv):Prop:=(t.Marks.length:Int) >= (Xcl t.Op.Kind).1/\(t.Marks.length:Int)<=(Xcl t.Op.Kind).2.1/\(t.Store.length:Int)<=X9d (Xcl t.Op.Kind).2.2.1 4000/\(t.Events.length:Int)<=X9d (Xcl t.Op.Kind).2.2.2.1 60/\(t.Rows.length:Int)<=X9d (Xcl t.Op.Kind).2.2.2.2.1 4000/\(t.Late.length:Int)<=X9d (Xcl t.Op.Kind).2.2.2.2.2 4000
theorem X0a9 {t:Xv} (hs:t.Store.length<=100):∃ b,Xdk t=some b/\(b=true↔X03o t):=by
 unfold Xdk X03o;have i:∀ {A B C D E:Bool} {P:Prop},((A&&(B&&(C&&(D&&E))))=true↔P)->∃ b,some (A&&(B&&(C&&(D&&E))))=some b/\(b=true↔P):=λh=>⟨_,rfl,h⟩;by_cases h1:t.Op.Kind=1
 ·rw[show(t.Op.Kind==1)=true by simp[h1],cond_true];simp only[ch5];apply i;rw[h1,show Xcl 1=(0,0,false,true,false,false) from rfl];simp only[Bool.and_eq_true,decide_eq_true_eq,beq_iff_eq,X9d,if_true,if_false,Bool.false_eq_true]
  first|omega|(repeat' split<;>omega)
 rw[show(t.Op.Kind==1)=false by simp[h1],cond_false];by_cases h2:t.Op.Kind=2
 ·rw[show(t.Op.Kind==2)=true by simp[h2],cond_true];simp only[ch5];apply i;rw[h2,show Xcl 2=(1,1,false,false,false,false) from rfl];simp only[Bool.and_eq_true,decide_eq_true_eq,beq_iff_eq,X9d,if_true,if_false,Bool.false_eq_true]
  first|omega|(repeat' split<;>omega)
 rw[show(t.Op.Kind==2)=false by simp[h2],cond_false];by_cases h3:t.Op.Kind=3
 ·rw[show(t.Op.Kind==3)=true by simp[h3],cond_true];simp only[ch5];apply i;rw[h3,show Xcl 3=(0,0,false,false,false,false) from rfl];simp only[Bool.and_eq_true,decide_eq_true_eq,beq_iff_eq,X9d,if_true,if_false,Bool.false_eq_true]
  first|omega|(repeat' split<;>omega)
 rw[show(t.Op.Kind==3)=false by simp[h3],cond_false];by_cases h4:t.Op.Kind=4
 ·rw[show(t.Op.Kind==4)=true by simp[h4],cond_true];simp only[ch5];apply i;rw[h4,show Xcl 4=(1,4,true,false,false,false) from rfl];simp only[Bool.and_eq_true,decide_eq_true_eq,beq_iff_eq,X9d,if_true,if_false,Bool.false_eq_true]
  first|omega|(repeat' split<;>omega)
 rw[show(t.Op.Kind==4)=false by simp[h4],cond_false];by_cases h5:t.Op.Kind=5
 ·rw[show(t.Op.Kind==5)=true by simp[h5],cond_true];simp only[ch5];apply i;rw[h5,show Xcl 5=(2,2,true,false,false,false) from rfl];simp only[Bool.and_eq_true,decide_eq_true_eq,beq_iff_eq,X9d,if_true,if_false,Bool.false_eq_true]
  first|omega|(repeat' split<;>omega)
 rw[show(t.Op.Kind==5)=false by simp[h5],cond_false];by_cases h6:t.Op.Kind=6
 ·rw[show(t.Op.Kind==6)=true by simp[h6],cond_true];simp only[ch5];apply i;rw[h6,show Xcl 6=(0,0,false,false,true,false) from rfl];simp only[Bool.and_eq_true,decide_eq_true_eq,beq_iff_eq,X9d,if_true,if_false,Bool.false_eq_true]
  first|omega|(repeat' split<;>omega)
 rw[show(t.Op.Kind==6)=false by simp[h6],cond_false];by_cases h7:t.Op.Kind=7
 ·rw[show(t.Op.Kind==7)=true by simp[h7],cond_true];simp only[ch5];apply i;rw[h7,show Xcl 7=(0,0,false,false,false,true) from rfl];simp only[Bool.and_eq_true,decide_eq_true_eq,beq_iff_eq,X9d,if_true,if_false,Bool.false_eq_true]
  first|omega|(repeat' split<;>omega)
 rw[show(t.Op.Kind==7)=false by simp[h7],cond_false];refine⟨false,rfl,?_⟩;rw[show Xcl t.Op.Kind=(1,0,false,false,false,false) by unfold Xcl;rw[if_neg h1,if_neg h2,if_neg h3,if_neg h4,if_neg h5,if_neg h6,if_neg h7]];constructor
 ·intro h;cases h
 ·intro h;have a1:(t.Marks.length:Int) >= 1:=h.1;have a2:(t.Marks.length:Int)<=0:=h.2.1;omega
theorem X05m (t:Xv):tOK t=true↔(0<=t.Turn/\t.Turn<20/\0<=t.Op.N/\t.Op.N<4)/\((t.Pending.length:Int)<=4000/\X03o t)/\t.Pending.all sOK=true/\Xx9 t.Store=true/\(t.Marks.all mkL=true/\t.Events.all Xuf=true/\t.Rows.all Xfd=true/\t.Late.all (λr=>isT r.Time)=true)/\t.Store.all (λx=>decide (t.Op.Kind≠4)||(x.Values.e1.Count==0))=true:=by
 unfold tOK Xuy Xjp Xtg X03o;simp only[Bool.and_eq_true,decide_eq_true_eq,ge_iff_le];constructor
 ·rintro⟨⟨⟨⟨h1,h2⟩,h3⟩,h4⟩,h5⟩;refine⟨⟨h1.1.1.1,h1.1.1.2,h1.1.2,h1.2⟩,⟨h2.1.1.1.1.1.1,h2.1.1.1.1.1.2,h2.1.1.1.1.2,h2.1.1.1.2,h2.1.1.2,h2.1.2,h2.2⟩,h3,h4,⟨h5.1.1.1.1,h5.1.1.1.2,h5.1.1.2,h5.1.2⟩,h5.2⟩
 ·rintro⟨⟨a1,a2,a3,a4⟩,⟨b1,b2,b3,b4,b5,b6,b7⟩,h3,h4,⟨c1,c2,c3,c4⟩,h5⟩;exact⟨⟨⟨⟨⟨⟨⟨a1,a2⟩,a3⟩,a4⟩,⟨⟨⟨⟨⟨⟨b1,b2⟩,b3⟩,b4⟩,b5⟩,b6⟩,b7⟩⟩,h3⟩,h4⟩,⟨⟨⟨⟨c1,c2⟩,c3⟩,c4⟩,h5⟩⟩
theorem X04i {t:Xv} (h1:t.Pending.length<=4010) (h2:t.Rows.length<=4010) (h3:t.Late.length<=4010) (h4:t.Store.length<=100) (h5:t.Events.length<=100) (h6:t.Marks.length<=20) :
  Xc1 t=some (if tOK t then 0 else 8):=by
 obtain⟨k,hk,hk4⟩:=X0a9 h4;have hs:=Xv1 (l:=t.Pending) om;have hb:=X03j (t:=t) om om om om;have hL:=Xw5 t om (t.Store.length - 0) FU 0 rfl (by unfold FU;omega) om;rw[show((0:Nat):Int)=0 from rfl,List.drop_zero] at hL;have hI:=X05m t;unfold Xc1;rw[hk,hs,hb,Xn9,if_neg om,hL];by_cases n1:t.Turn<0
 ·rw[Yt n1,if_neg (c:=tOK t=true) (λh=>by have:=(hI.1 h).1.1;omega)];rfl
 rw[Yf n1];by_cases n2:t.Turn >= 20
 ·rw[Yt n2,if_neg (c:=tOK t=true) (λh=>by have:=(hI.1 h).1.2.1;omega)];rfl
 rw[Yf n2];by_cases n3:(List.length t.Pending:Int)>4000
 ·rw[Yt n3,if_neg (c:=tOK t=true) (λh=>by have:=(hI.1 h).2.1.1;omega)];rfl
 rw[Yf n3];by_cases n4:t.Op.N<0
 ·rw[Yt n4,if_neg (c:=tOK t=true) (λh=>by have:=(hI.1 h).1.2.2.1;omega)];rfl
 rw[Yf n4];by_cases n5:t.Op.N >= 4
 ·rw[Yt n5,if_neg (c:=tOK t=true) (λh=>by have:=(hI.1 h).1.2.2.2;omega)];rfl
 rw[Yf n5]
 cases k with
 |false=>rw[if_neg (c:=tOK t=true) (λh=>by have:=hk4.2 (hI.1 h).2.1.2;cases this)];rfl
 |true =>
 cases hs':t.Pending.all sOK with
 |false=>rw[if_neg (c:=tOK t=true) (λh=>by have:=(hI.1 h).2.2.1;rw[hs'] at this;cases this)];rfl
 |true =>
 cases hb':(t.Marks.all mkL&&(t.Events.all Xuf&&(t.Rows.all Xfd&&t.Late.all λr=>isT r.Time))) with
 |false =>
  rw[if_neg (c:=tOK t=true) (λh=>by
   obtain⟨a,b,c,d⟩:=(hI.1 h).2.2.2.2.1
   rw[a,b,c,d] at hb';cases hb')];rfl
 |true =>
 simp only[Bool.and_eq_true] at hb'
 cases hst:Xx9 t.Store with
 |false=>rw[if_neg (c:=tOK t=true) (λh=>by have:=(hI.1 h).2.2.2.1;rw[hst] at this;cases this)];rfl
 |true =>
 cases he:t.Store.all (λx=>decide (t.Op.Kind≠4)||(x.Values.e1.Count==0)) with
 |false=>rw[if_neg (c:=tOK t=true) (λh=>by have:=(hI.1 h).2.2.2.2.2;rw[he] at this;cases this)];rfl
 |true =>
  rw[if_pos (c:=tOK t=true) (hI.2 ⟨⟨by omega,by omega,by omega,by omega⟩,⟨by omega,hk4.1 rfl⟩,hs',hst,⟨hb'.1,hb'.2.1,hb'.2.2.1,hb'.2.2.2⟩,he⟩)];rfl
end Go.D


namespace Go.D
theorem Xch (x:Xg):Xbe x x=true:=by
 simp[Xbe,Xdy,Xfu,Xa1]
theorem Xjq (l Y:List X3i):∀ (xs:List X3i) (k:Nat),l.drop k=xs->X26 Y l xs k=some .x0
 |[],k,_=>rfl
 |x::xs,k,h=>by
  have hk:l[k]?=some x:=by
   have:=congrArg (λz=>z[0]?) h;simpa using this
  have hd:l.drop (k+1)=xs:=by
   have:=congrArg List.tail h;simpa using this
  rw[X26,X4y,hk,Yo,Xno];exact Xjq l Y xs (k+1) hd
theorem Xxt (t:Xv) (hn:t.Marks.length<=90000):∀ (m n k:Nat),m=t.Marks.length - k->m<n->k<=t.Marks.length->X55 t t n (k:Int)=some .x1:=by
 intro m
 induction m with
 |zero =>
  intro n k hm hmn hk;obtain⟨n,rfl⟩:∃ q,n=q+1:=⟨n - 1,by omega⟩;rw[X55,Yf om];rfl
 |succ m ih =>
  intro n k hm hmn hk;obtain⟨n,rfl⟩:∃ q,n=q+1:=⟨n - 1,by omega⟩;have hlt:k<t.Marks.length:=by omega
  rw[X55,Yt om,cond_true,X4y,Ye hlt,Yo,Yo,show(t.Marks[k] != t.Marks[k])=false by simp,cond_false,X0z om om,show((k:Int)+1)=((k+1:Nat):Int) by omega,ih n (k+1) om om om]
theorem Xxs (t:Xv) (hn:t.Store.length<=90000):∀ (m n k:Nat),m=t.Store.length - k->m<n->k<=t.Store.length->X54 t t n (k:Int)=some .x1:=by
 intro m
 induction m with
 |zero =>
  intro n k hm hmn hk;obtain⟨n,rfl⟩:∃ q,n=q+1:=⟨n - 1,by omega⟩;rw[X54,Yf om];rfl
 |succ m ih =>
  intro n k hm hmn hk;obtain⟨n,rfl⟩:∃ q,n=q+1:=⟨n - 1,by omega⟩;have hlt:k<t.Store.length:=by omega
  rw[X54,Yt om,cond_true,X4y,Ye hlt,Yo,Yo,Xch,Bool.not_true,cond_false,X0z om om,show((k:Int)+1)=((k+1:Nat):Int) by omega,ih n (k+1) om om om]
theorem Xxr (t:Xv) (hn:t.Events.length<=90000):∀ (m n k:Nat),m=t.Events.length - k->m<n->k<=t.Events.length->X53 t t n (k:Int)=some .x1:=by
 intro m
 induction m with
 |zero =>
  intro n k hm hmn hk;obtain⟨n,rfl⟩:∃ q,n=q+1:=⟨n - 1,by omega⟩;rw[X53,Yf om];rfl
 |succ m ih =>
  intro n k hm hmn hk;obtain⟨n,rfl⟩:∃ q,n=q+1:=⟨n - 1,by omega⟩;have hlt:k<t.Events.length:=by omega
  rw[X53,Yt om,cond_true,X4y,Ye hlt,Yo,Yo,show Xjk t.Events[k] t.Events[k]=true by simp[Xjk,X20],Bool.not_true,cond_false,X0z om om,show((k:Int)+1)=((k+1:Nat):Int) by omega,ih n (k+1) om om om]
theorem Xxq (t:Xv) (hn:t.Rows.length<=90000):∀ (m n k:Nat),m=t.Rows.length - k->m<n->k<=t.Rows.length->X52 t t n (k:Int)=some .x1:=by
 intro m
 induction m with
 |zero =>
  intro n k hm hmn hk;obtain⟨n,rfl⟩:∃ q,n=q+1:=⟨n - 1,by omega⟩;rw[X52,Yf om];rfl
 |succ m ih =>
  intro n k hm hmn hk;obtain⟨n,rfl⟩:∃ q,n=q+1:=⟨n - 1,by omega⟩;have hlt:k<t.Rows.length:=by omega
  rw[X52,Yt om,cond_true,X4y,Ye hlt,Yo,Yo,show Xi5 t.Rows[k] t.Rows[k]=true by simp[Xi5,Xdy,Xmm],Bool.not_true,cond_false,X0z om om,show((k:Int)+1)=((k+1:Nat):Int) by omega,ih n (k+1) om om om]
theorem Xxp (t:Xv) (hn:t.Late.length<=90000):∀ (m n k:Nat),m=t.Late.length - k->m<n->k<=t.Late.length->X51 t t n (k:Int)=some .x1:=by
 intro m
 induction m with
 |zero =>
  intro n k hm hmn hk;obtain⟨n,rfl⟩:∃ q,n=q+1:=⟨n - 1,by omega⟩;rw[X51,Yf om];rfl
 |succ m ih =>
  intro n k hm hmn hk;obtain⟨n,rfl⟩:∃ q,n=q+1:=⟨n - 1,by omega⟩;have hlt:k<t.Late.length:=by omega
  rw[X51,Yt om,cond_true,X4y,Ye hlt,Yo,Yo,show X20 t.Late[k] t.Late[k]=true by simp[X20],Bool.not_true,cond_false,X0z om om,show((k:Int)+1)=((k+1:Nat):Int) by omega,ih n (k+1) om om om]
theorem Xs3 {t:Xv} (h1:t.Pending.length<=90000) (h2:t.Marks.length<=90000) (h3:t.Store.length<=90000) (h4:t.Events.length<=90000) (h5:t.Rows.length<=90000) (h6:t.Late.length<=90000):Xdm t t=some true:=by
 have e0:=Xxt t h2 (t.Marks.length - 0) FU 0 rfl (by unfold FU;omega) om;have e1:=Xxs t h3 (t.Store.length - 0) FU 0 rfl (by unfold FU;omega) om;have e2:=Xxr t h4 (t.Events.length - 0) FU 0 rfl (by unfold FU;omega) om;have e3:=Xxq t h5 (t.Rows.length - 0) FU 0 rfl (by unfold FU;omega) om;have e4:=Xxp t h6 (t.Late.length - 0) FU 0 rfl (by unfold FU;omega) om;rw[show((0:Nat):Int)=0 from rfl] at e0 e1 e2 e3 e4;have es:X66 t.Pending t.Pending=some true:=by
  unfold X66;rw[show((List.length t.Pending:Int) != (List.length t.Pending:Int))=false by simp,cond_false,X24 om,Yo,Xjq t.Pending t.Pending t.Pending 0 rfl];rfl
 have ho:X6u t.Op t.Op=true:=by simp[X6u]
 have ne:∀ z:Int,(z != z)=false:=λz=>by simp
 unfold Xdm;rw[ho,es,e0,e1,e2,e3,e4];simp only[ne,Bool.not_true,cond_false,Yo]
end Go.D


namespace Go.D
theorem Xxn (l Y:List Xg):∀ (xs:List Xg) (k:Nat),l.drop k=xs->X59 Y l xs k=some .x0
 |[],k,_=>rfl
 |x::xs,k,h=>by
  have hk:l[k]?=some x:=by
   have:=congrArg (λz=>z[0]?) h;simpa using this
  have hd:l.drop (k+1)=xs:=by
   have:=congrArg List.tail h;simpa using this
  rw[X59,X4y,hk,Yo,Xch];exact Xxn l Y xs (k+1) hd
theorem Xfg {l:List Xg} (h:l.length<=140737488355328):Xdq l l=some true:=by
 unfold Xdq;rw[show((List.length l:Int) != (List.length l:Int))=false by simp,cond_false,X24 h,Yo,Xxn l l l 0 rfl];rfl
end Go.D


namespace Go.D
open Go.Av
inductive TC (cs:List (Int×Int)):Int->Int->Prop where
 |one {f t:Int} (h:(f,t)∈cs):TC cs f t
 |step {f m t:Int} (h:TC cs f m) (h2:(m,t)∈cs):TC cs f t
theorem TC.trans {cs:List (Int×Int)} {a b c:Int} (h:TC cs a b) (k:TC cs b c):TC cs a c:=by
 induction k with
 |one k=>exact .step h k
 |step _ k ih=>exact .step ih k
theorem Xoo {R:Int->Int->Prop} (tr:∀ a b c,R a b->R b c->R a c):∀ (l:List Int),l≠[]->(∀ x∈l,¬ R x x)->∃ m∈l,∀ x∈l,¬ R x m
 |[],h,_=>absurd rfl h
 |a::l,_,ir=>by
  by_cases hl:l=[]
  ·subst hl;exact⟨a,by simp,λx hx=>by simp at hx;subst hx;exact ir _ (by simp)⟩
  ·obtain⟨m,hm,h⟩:=Xoo tr l hl λx hx=>ir x (List.mem_cons_of_mem _ hx);by_cases ha:R a m
   ·refine⟨a,by simp,λx hx=>?_⟩;rcases List.mem_cons.1 hx with rfl|hx
    ·exact ir _ (by simp)
    ·exact λhr=>h x hx (tr _ _ _ hr ha)
   ·refine⟨m,List.mem_cons_of_mem _ hm,λx hx=>?_⟩;rcases List.mem_cons.1 hx with rfl|hx
    ·exact ha
    ·exact h x hx
def X1m (ks:List (Int×Int)):List Int:=ks.map (·.1)
theorem Xl3 {x v:Int}:∀ {ks:List (Int×Int)},x∈X1m ks->X1m (Xhb x v ks)=X1m ks
  |[],h=>by cases h
  |(a,w)::r,h=>by
    rw[Xhb];split
    · next he=>subst he;rfl
    · next he =>
      have : x ∈ X1m r := (List.mem_cons.1 h).elim (fun h => absurd h.symm he) (fun h => h)
      show a::X1m (Xhb x v r)=a::X1m r;rw[Xl3 this]
theorem Xjw {x v:Int}:∀ {ks:List (Int×Int)},x ∉ X1m ks->X1m (Xhb x v ks)=X1m ks++[x]
 |[],_=>rfl
 |(a,w)::r,h=>by
  have ha:¬ a=x:=λe=>h (by subst e;exact List.mem_cons_self ..);rw[Xhb,if_neg ha];show a::X1m (Xhb x v r)=a::X1m r++[x];rw[Xjw λhm=>h (List.mem_cons_of_mem _ hm)];rfl
theorem Xl4 {x:Int}:∀ (ks:List (Int×Int)),X1m (Xmq x ks)=(X1m ks).erase x
 |[]=>rfl
 |(a,w)::r=>by
  rw[Xmq];show _=(a::X1m r).erase x;rw[List.erase_cons];by_cases h:a=x
  ·rw[if_pos h,if_pos (by simp[h])]
  ·rw[if_neg h,if_neg (by simp[h])];show a::X1m (Xmq x r)=_;rw[Xl4 r]
theorem Xh6 {x y:Int} (h:y≠x):∀ ks:List (Int×Int),Xat y (Xmq x ks)=Xat y ks
 |[]=>rfl
 |(a,w)::r=>by
  rw[Xmq];by_cases ha:a=x
  ·rw[if_pos ha,Xat,if_neg (λe=>h (e.symm.trans ha))]
  ·rw[if_neg ha,Xat,Xat,Xh6 h r]
theorem Xu1:∀ {ks:List (Int×Int)} {k v:Int},(X1m ks).Nodup->(k,v)∈ks->Xat k ks=v
 |[],_,_,_,h=>by cases h
 |(a,w)::r,k,v,nd,h=>by
  have nd':=List.nodup_cons.1 (show(a::X1m r).Nodup from nd);rcases List.mem_cons.1 h with h|h
  ·cases h;rw[Xat,if_pos rfl]
  ·have hk:k∈X1m r:=List.mem_map.2 ⟨_,h,rfl⟩;rw[Xat,if_neg (λe=>nd'.1 (by rw[e];exact hk)),Xu1 nd'.2 h]
theorem Xzw:∀ {ks:List (Int×Int)} {k:Int},k∈X1m ks->(k,Xat k ks)∈ks
  |[],_,h=>by cases h
  |(a,w)::r,k,h=>by
    rw[Xat];split
    · next he=>subst he;exact List.mem_cons_self ..
    · next he =>
      have : k ∈ X1m r := (List.mem_cons.1 h).elim (fun h => absurd h.symm he) (fun h => h)
      exact List.mem_cons_of_mem _ (Xzw this)
theorem Xr3:∀ {ks:List (Int×Int)} {k:Int},k ∉ X1m ks->Xat k ks=0
 |[],_,_=>rfl
 |(a,w)::r,k,h=>by
  rw[Xat,if_neg (λe=>h (by subst e;exact List.mem_cons_self ..))];exact Xr3 λhm=>h (List.mem_cons_of_mem _ hm)
theorem Xg8 (ks:List (Int×Int)):(X1m ks).length=ks.length:=List.length_map ..
def cntE (K:List Int) (k:Int) (cs:List (Int×Int)):Nat:=cs.countP λc=>decide (c.2=k)&&decide (c.1∈K)
theorem Xh2 (nx:Int):∀ (cs:List (Int×Int)) (ks:List (Int×Int)),(∀ c∈cs,c.1=nx->c.2∈X1m ks)->X1m (Xaf nx ks cs)=X1m ks
 |[],ks,_=>rfl
 |c::cs,ks,h=>by
  rw[Xaf];by_cases hc:c.1=nx
  ·rw[Yt hc,cond_true];have hm:=h c (by simp) hc;rw[Xh2 nx cs _ (λd hd he=>by rw[Xl3 hm];exact h d (List.mem_cons_of_mem _ hd) he),Xl3 hm]
  ·rw[Yf hc,cond_false];exact Xh2 nx cs ks λd hd=>h d (List.mem_cons_of_mem _ hd)
theorem Xj9 (nx:Int):∀ (cs:List (Int×Int)) (ks:List (Int×Int)),(∀ k,-1000000+(cs.length:Int)<=Xat k ks/\Xat k ks<=1000000)->∀ k,Xat k (Xaf nx ks cs)=Xat k ks - (cs.countP λc=>decide (c.2=k)&&decide (c.1=nx):Nat)
 |[],ks,_,k=>by simp[Xaf]
 |c::cs,ks,h,k=>by
  rw[Xaf];have h2:∀ k,-1000000+(cs.length:Int)<=Xat k ks/\Xat k ks<=1000000:=λk=>by have:=h k;simp only[List.length_cons] at this;omega
  by_cases hc:c.1=nx
  ·rw[Yt hc,cond_true];have h0:=h c.2;simp only[List.length_cons] at h0;have hw:IntKind.i64.wrap (Xat c.2 ks - 1)=Xat c.2 ks - 1:=X32 om om
   rw[hw,Xj9 nx cs _ (λj=>by
    by_cases hj:j=c.2
    ·subst hj;rw[Xhy];omega
    ·rw[Xcf hj];exact h2 j) k,List.countP_cons]
   by_cases hk:k=c.2
   ·subst hk;rw[Xhy];simp[hc];omega
   ·rw[Xcf hk];simp[show ¬ c.2=k from λe=>hk e.symm]
  ·rw[Yf hc,cond_false,Xj9 nx cs ks h2 k,List.countP_cons];simp[hc]
theorem Xt3 {cs:List (Int×Int)} {K:List Int} {nx k:Int} (hn:nx∈K) (nd:K.Nodup):cntE K k cs=cntE (K.erase nx) k cs+cs.countP (λc=>decide (c.2=k)&&decide (c.1=nx)):=by
 unfold cntE
 induction cs with
 |nil=>rfl
 |cons c cs ih =>
  rw[List.countP_cons,List.countP_cons,List.countP_cons,ih];have hm:c.1∈K.erase nx↔c.1≠nx/\c.1∈K:=nd.mem_erase_iff;have hne:nx ∉ K.erase nx:=λh=>((nd.mem_erase_iff).1 h).1 rfl;by_cases h1:c.2=k<;>by_cases h2:c.1=nx<;>by_cases h3:c.1∈K<;>simp[h1,h2,h3,hm,hn,hne]<;>first|omega|(simp[h2] at *;done)|(subst h2;exact absurd hn h3)|skip
structure OInv (cs ks:List (Int×Int)) (s:Nat):Prop where
 nd:(X1m ks).Nodup
 ge:∀ k∈X1m ks,0<=k
 ct:∀ k∈X1m ks,Xat k ks=(cntE (X1m ks) k cs:Nat)
 cl:∀ c∈cs,c.1∈X1m ks->c.2∈X1m ks
 rk:∃ r:Int->Nat,(∀ c∈cs,c.2 ∉ X1m ks->c.1 ∉ X1m ks/\r c.1<r c.2)/\∀ d,d ∉ X1m ks->r d<s
theorem OInv.step {cs ks:List (Int×Int)} {s:Nat} (h:OInv cs ks s) (hl:cs.length<=1000) {nx:Int} (hx:(nx,0)∈ks):OInv cs (Xaf nx (Xmq nx ks) cs) (s+1)/\X1m (Xaf nx (Xmq nx ks) cs)=(X1m ks).erase nx:=by
 have hk:nx∈X1m ks:=List.mem_map.2 ⟨_,hx,rfl⟩;have h0:cntE (X1m ks) nx cs=0:=by
  have:=h.ct nx hk;rw[Xu1 h.nd hx] at this;omega
 have hno:∀ c∈cs,c.2=nx->c.1 ∉ X1m ks:=by
  intro c hc he hm;have:=(List.countP_eq_zero.1 h0) c hc;simp[he,hm] at this
 have hcl:∀ c∈cs,c.1=nx->c.2∈(X1m ks).erase nx:=by
  intro c hc he;refine(h.nd.mem_erase_iff).2 ⟨λe=>hno c hc e (he▸hk),h.cl c hc (he▸hk)⟩
 have hkeys:X1m (Xaf nx (Xmq nx ks) cs)=(X1m ks).erase nx:=by
  rw[Xh2 nx cs _ (λc hc he=>by rw[Xl4];exact hcl c hc he),Xl4]
 have hbd:∀ k,-1000000+(cs.length:Int)<=Xat k (Xmq nx ks)/\Xat k (Xmq nx ks)<=1000000:=by
  intro k;by_cases hm:k∈X1m (Xmq nx ks)
  ·rw[Xl4] at hm;obtain⟨h1,h2⟩:=(h.nd.mem_erase_iff).1 hm;rw[Xh6 h1,h.ct k h2];have:cntE (X1m ks) k cs<=cs.length:=List.countP_le_length;omega
  ·rw[Xr3 hm];omega
 refine⟨⟨?_,?_,?_,?_,?_⟩,hkeys⟩
 ·rw[hkeys];exact h.nd.erase _
 ·rw[hkeys];exact λk hk=>h.ge k (List.mem_of_mem_erase hk)
 ·rw[hkeys];intro k hm;obtain⟨h1,h2⟩:=(h.nd.mem_erase_iff).1 hm;rw[Xj9 nx cs _ hbd k,Xh6 h1,h.ct k h2,Xt3 (k:=k) (cs:=cs) hk h.nd];omega
 ·rw[hkeys];intro c hc hm;obtain⟨h1,h2⟩:=(h.nd.mem_erase_iff).1 hm;exact(h.nd.mem_erase_iff).2 ⟨λe=>hno c hc e h2,h.cl c hc h2⟩
 ·rw[hkeys];obtain⟨r,r1,r2⟩:=h.rk;refine⟨λx=>if x=nx then s else r x,λc hc hm=>?_,λd hd=>?_⟩
  ·by_cases h2:c.2=nx
   ·have h1:=hno c hc h2;refine⟨λe=>h1 (List.mem_of_mem_erase e),?_⟩;simp only[h2,if_true,if_neg (show ¬ c.1=nx from λe=>h1 (e▸hk))];exact r2 _ h1
   ·have hm':c.2 ∉ X1m ks:=λe=>hm ((h.nd.mem_erase_iff).2 ⟨h2,e⟩);obtain⟨g1,g2⟩:=r1 c hc hm';refine⟨λe=>g1 (List.mem_of_mem_erase e),?_⟩;simp only[if_neg h2,if_neg (show ¬ c.1=nx from λe=>g1 (e▸hk))];exact g2
  ·by_cases hd2:d=nx
   ·simp[hd2]
   ·simp only[if_neg hd2];have:=r2 d λe=>hd ((h.nd.mem_erase_iff).2 ⟨hd2,e⟩);omega
theorem Xqt {cs:List (Int×Int)} (hl:cs.length<=1000):∀ (f:Nat) (ks:List (Int×Int)) (out:List Int) (s:Nat),OInv cs ks s->ks.length<f->∃ o,Xvc cs f ks out=some o/\(o.length=out.length+ks.length↔∀ i,¬ TC cs i i)
 |0,ks,out,s,_,h=>by omega
 |f+1,ks,out,s,h,hf=>by
  rw[Xvc];by_cases h0:ks=[]
  ·subst h0;refine⟨out,rfl,λ_ i hi=>?_,λ_=>rfl⟩;obtain⟨r,r1,_⟩:=h.rk;have:∀ {a b},TC cs a b->r a<r b:=by
    intro a b hab
    induction hab with
    |one h=>exact(r1 _ h (by simp[X1m])).2
    |step _ h ih=>exact Nat.lt_trans ih (r1 _ h (by simp[X1m])).2
   exact Nat.lt_irrefl _ (this hi)
  ·have hp:0<ks.length:=List.length_pos_iff.2 h0;rw[Yt (show(0:Int)<(ks.length:Int) by omega),cond_true];have hge:∀ p∈ks,0<=p.1:=λp hp=>h.ge _ (List.mem_map.2 ⟨p,hp,rfl⟩);rcases Xqw ks hge with ⟨h1,h2⟩|⟨h1,h2,_⟩
   ·rw[h1];refine⟨out,rfl,λhe=>by omega,λhno=>?_⟩;exfalso;have hkne:X1m ks≠[]:=λe=>h0 (List.map_eq_nil_iff.1 e);obtain⟨m,hm,hmin⟩:=Xoo (R:=TC cs) (λa b c=>TC.trans) (X1m ks) hkne λx _=>hno x;have hc:=h.ct m hm;have hne:=h2 _ (Xzw hm);have hpos:0<cntE (X1m ks) m cs:=by
     simp only at hne;omega
    obtain⟨c,hc1,hc2⟩:=List.countP_pos_iff.1 hpos;simp only[Bool.and_eq_true,decide_eq_true_eq] at hc2;exact hmin c.1 hc2.2 (.one (by rw[<-hc2.1];exact hc1))
   ·rw[Yf (show ¬ X82 ks<0 by omega),cond_false];obtain⟨g1,g2⟩:=h.step hl h2;have hmem:X82 ks∈X1m ks:=List.mem_map.2 ⟨_,h2,rfl⟩;have hlen:(Xaf (X82 ks) (Xmq (X82 ks) ks) cs).length+1=ks.length:=by
     rw[<-Xg8,g2,List.length_erase_of_mem hmem,Xg8];omega
    obtain⟨o,e1,e2⟩:=Xqt hl f _ (out++[X82 ks]) (s+1) g1 om;refine⟨o,e1,?_⟩;rw[<-e2,List.length_append,List.length_singleton];constructor<;>intro<;>omega
theorem Xo8:∀ (m:Nat) (k:Int) (ks:List (Int×Int)),(X1m ks).Nodup->(∀ x∈X1m ks,0<=x/\x<k)->(∀ x,Xat x ks=0)->0<=k ->
  (X1m (Xfk ks k m)).Nodup/\(∀ x,x∈X1m (Xfk ks k m)↔x∈X1m ks\/k<=x/\x<k+m)/\(∀ x,Xat x (Xfk ks k m)=0)/\(Xfk ks k m).length=ks.length+m
 |0,k,ks,nd,_,hz,_=>⟨nd,λx=>⟨.inl,λh=>h.elim id λh=>by omega⟩,hz,rfl⟩
 |m+1,k,ks,nd,hr,hz,hk=>by
  have hn:k ∉ X1m ks:=λh=>by have:=hr k h;omega
  have hkeys:=Xjw (v:=0) hn
  obtain⟨a,b,c,d⟩:=Xo8 m (k+1) (Xhb k 0 ks) (by rw[hkeys];exact List.nodup_append.2 ⟨nd,by simp,λx hx y hy=>by simp at hy;subst hy;exact λe=>hn (e▸hx)⟩) (λx hx=>by
    rw[hkeys] at hx;rcases List.mem_append.1 hx with hx|hx
    ·have:=hr x hx;omega
    ·simp at hx;omega) (λx=>by
    by_cases hx:x=k
    ·subst hx;exact Xhy ..
    ·rw[Xcf hx];exact hz x) om
  rw[Xfk];refine⟨a,λx=>?_,c,?_⟩
  ·rw[b,hkeys,List.mem_append,List.mem_singleton];constructor
   ·rintro((h|h)|h)
    ·exact .inl h
    ·right;omega
    ·right;omega
   ·rintro(h|h)
    ·exact .inl (.inl h)
    ·by_cases hx:x=k
     ·exact .inl (.inr hx)
     ·right;omega
  ·rw[d,<-Xg8,hkeys,List.length_append,Xg8,List.length_singleton];omega
theorem Xmt:∀ (xs:List Int) (ks:List (Int×Int)),(∀ x∈xs,x∈X1m ks)->X1m (Xew ks xs)=X1m ks
 |[],_,_=>rfl
 |x::xs,ks,h=>by
  have hx:=Xl3 (v:=IntKind.i64.wrap (Xat x ks+1)) (h x (by simp));rw[Xew,Xmt xs _ λy hy=>by rw[hx];exact h y (List.mem_cons_of_mem _ hy),hx]
theorem Xt7:∀ (xs:List Int) (ks:List (Int×Int)),(∀ y,0<=Xat y ks/\Xat y ks+xs.length<=1000000)->∀ y,Xat y (Xew ks xs)=Xat y ks+xs.count y:=by
 intro xs
 induction xs with
 |nil=>intro ks _ y;simp[Xew]
 |cons x xs ih =>
  intro ks h y;have hx:=h x;simp only[List.length_cons] at hx;have hw:IntKind.i64.wrap (Xat x ks+1)=Xat x ks+1:=X32 om om;rw[Xew,hw];rw[ih]
  ·by_cases hy:y=x
   ·subst hy;rw[Xhy,List.count_cons_self];omega
   ·rw[Xcf hy,List.count_cons_of_ne (λe=>hy e.symm)]
  ·intro z;have hz:=h z;simp only[List.length_cons] at hz;by_cases hy:z=x
   ·subst hy;rw[Xhy];omega
   ·rw[Xcf hy];omega
theorem X03f {n:Nat} {cs:List (Int×Int)} (hl:cs.length<=1000) (hn:n<=900) (hr:∀ c∈cs,0<=c.1/\c.1<n/\0<=c.2/\c.2<n):∃ o,ordL n cs=some o/\(o.length=n↔∀ i,¬ TC cs i i):=by
 obtain⟨a,b,c,d⟩:=Xo8 n 0 [] (by simp[X1m]) (by simp[X1m]) (λ_=>rfl) om;have hin:∀ z:Int,z∈X1m (Xfk [] 0 n)↔0<=z/\z<n:=by
  intro z;rw[b];simp only[X1m,List.map_nil,List.not_mem_nil,false_or];constructor<;>intro h<;>omega
 have hk:X1m (Xew (Xfk [] 0 n) (cs.map (·.2)))=X1m (Xfk [] 0 n):=Xmt _ _ λx hx=>by
  obtain⟨e,he,rfl⟩:=List.mem_map.1 hx;have:=hr e he;exact(hin _).2 ⟨this.2.2.1,this.2.2.2⟩
 have hg:=Xt7 (cs.map (·.2)) (Xfk [] 0 n) (λy=>by rw[c y,List.length_map];omega);have hI:OInv cs (Xew (Xfk [] 0 n) (cs.map (·.2))) 1:=by
  refine⟨by rw[hk];exact a,by rw[hk];exact λk h=>((hin k).1 h).1,?_,?_,⟨λ_=>0,?_,λ_ _=>Nat.zero_lt_one⟩⟩
  ·rw[hk];intro k _;rw[hg k,c k];have:(cs.map (·.2)).count k=cntE (X1m (Xfk [] 0 n)) k cs:=by
    unfold cntE;rw[List.count,List.countP_map];refine List.countP_congr λx hx=>?_;have h1:=hr x hx;have h2:x.1∈X1m (Xfk [] 0 n):=(hin _).2 ⟨h1.1,h1.2.1⟩;simp[h2]
   omega
  ·rw[hk];intro x hx _;have h1:=hr x hx;exact(hin _).2 ⟨h1.2.2.1,h1.2.2.2⟩
  ·rw[hk];intro x hx hm;have h1:=hr x hx;exact absurd ((hin _).2 ⟨h1.2.2.1,h1.2.2.2⟩) hm
 have hlen:(Xew (Xfk [] 0 n) (cs.map (·.2))).length=n:=by
  rw[<-Xg8,hk,Xg8,d];simp
 obtain⟨o,e1,e2⟩:=Xqt hl 1000 _ [] 1 hI om;refine⟨o,e1,?_⟩;rw[<-e2,hlen];simp
end Go.D


namespace Go.D
open Go.Av
def atB (o:List Bool) (i:Int):Bool:=o[i.toNat]?.getD false
def Xdg (f:Int) (o:List Bool) (c:Int×Int):List Bool:=bif (c.1==f)||atB o c.1 then o.set c.2.toNat true else o
def Xgc (f:Int) (o:List Bool):List (Int×Int)->List Bool
 |[]=>o
 |c::cs=>Xgc f (Xdg f o c) cs
def Xgj (f:Int) (cs:List (Int×Int)):Nat->List Bool->List Bool
 |0,o=>o
 |n+1,o=>Xgj f cs n (Xgc f o cs)
theorem Xb9 (f:Int) (o:List Bool) (c:Int×Int):(Xdg f o c).length=o.length:=by
 unfold Xdg;cases(c.1==f)||atB o c.1<;>simp
theorem Xbs (f:Int):∀ (cs:List (Int×Int)) (o:List Bool),(Xgc f o cs).length=o.length
 |[],_=>rfl
 |c::cs,o=>by rw[Xgc,Xbs f cs,Xb9]
theorem Xo7 (f:Int) (cs:List (Int×Int)):∀ (n:Nat) (o:List Bool),(Xgj f cs n o).length=o.length
 |0,_=>rfl
 |n+1,o=>by rw[Xgj,Xo7 f cs n,Xbs]
theorem X08x {o:List Bool} {j i:Int} (hj:0<=j/\j.toNat<o.length) (hi:0<=i):atB (o.set j.toNat true) i=(decide (i=j)||atB o i):=by
 unfold atB;by_cases h:i=j
 ·subst h;rw[List.getElem?_set_self hj.2];simp
 ·rw[List.getElem?_set_ne om];simp[h]
theorem Xhf {f:Int} {o:List Bool} {c:Int×Int} (hc:0<=c.2/\c.2.toNat<o.length) {i:Int} (hi:0<=i):atB (Xdg f o c) i=(atB o i||(((c.1==f)||atB o c.1)&&decide (i=c.2))):=by
 unfold Xdg
 cases(c.1==f)||atB o c.1 with
 |true=>rw[cond_true,X08x hc hi,Bool.true_and,Bool.or_comm]
 |false=>simp
theorem Xlq {f:Int} {E:List (Int×Int)}:∀ (cs:List (Int×Int)) (o:List Bool),(∀ c∈cs,c∈E)->(∀ c∈cs,0<=c.2/\c.2.toNat<o.length)->(∀ i,0<=i->atB o i=true->TC E f i)->(∀ c∈cs,0<=c.1)->∀ i,0<=i->atB (Xgc f o cs) i=true->TC E f i
 |[],_,_,_,h,_,i,hi,ht=>h i hi ht
 |c::cs,o,hE,hr,h,h1,i,hi,ht=>by
  refine Xlq cs (Xdg f o c) (λd hd=>hE d (List.mem_cons_of_mem _ hd)) (λd hd=>by rw[Xb9];exact hr d (List.mem_cons_of_mem _ hd)) (λj hj hjt=>?_) (λd hd=>h1 d (List.mem_cons_of_mem _ hd)) i hi ht;rw[Xhf (hr c (by simp)) hj] at hjt;simp only[Bool.or_eq_true,Bool.and_eq_true,beq_iff_eq,decide_eq_true_eq] at hjt;rcases hjt with hjt|⟨hjt|hjt,rfl⟩
  ·exact h j hj hjt
  ·rw[<-hjt];exact .one (hE c (by simp))
  ·exact .step (h c.1 (h1 c (by simp)) hjt) (hE c (by simp))
theorem Xin {f:Int}:∀ (cs:List (Int×Int)) (o:List Bool),(∀ c∈cs,0<=c.2/\c.2.toNat<o.length)->∀ i,0<=i->atB o i=true->atB (Xgc f o cs) i=true
 |[],_,_,_,_,h=>h
 |c::cs,o,hr,i,hi,h=>by
  rw[Xgc];refine Xin cs _ (λd hd=>by rw[Xb9];exact hr d (List.mem_cons_of_mem _ hd)) i hi ?_;rw[Xhf (hr c (by simp)) hi,h];rfl
theorem Xo6 {f:Int}:∀ (cs:List (Int×Int)) (o:List Bool),(∀ c∈cs,0<=c.1/\0<=c.2/\c.2.toNat<o.length)->∀ c∈cs,(c.1=f\/atB o c.1=true)->atB (Xgc f o cs) c.2=true
 |[],_,_,c,h,_=>by cases h
 |d::cs,o,hr,c,hc,h=>by
  have hr2:∀ c∈cs,0<=c.2/\c.2.toNat<(Xdg f o d).length:=λe he=>by rw[Xb9];exact(hr e (List.mem_cons_of_mem _ he)).2
  have hd:=hr d (by simp);rcases List.mem_cons.1 hc with rfl|hc
  ·rw[Xgc];refine Xin cs _ hr2 _ hd.2.1 ?_;rw[Xhf hd.2 hd.2.1];have:((c.1==f)||atB o c.1)=true:=by rcases h with h|h<;>simp[h]
   rw[this];simp
  ·rw[Xgc];refine Xo6 cs _ (λe he=>by rw[Xb9];exact hr e (List.mem_cons_of_mem _ he)) c hc ?_;rcases h with h|h
   ·exact .inl h
   ·right;rw[Xhf hd.2 (hr c (List.mem_cons_of_mem _ hc)).1,h];rfl
theorem Xy4:∀ (o o':List Bool),o.length=o'.length->(∀ i:Nat,o[i]?.getD false=true->o'[i]?.getD false=true)->o.countP id<=o'.countP id
 |[],[],_,_=>Nat.le_refl _
 |[],_::_,h,_=>by simp at h
 |_::_,[],h,_=>by simp at h
 |a::o,b::o',h,hm=>by
  have ih:=Xy4 o o' (by simpa using h) λi hi=>by simpa using hm (i+1) (by simpa using hi)
  have h0:=hm 0;rw[List.countP_cons,List.countP_cons];cases a<;>cases b<;>simp at h0 ⊢<;>omega
theorem X059:∀ (o o':List Bool),o.length=o'.length->(∀ i:Nat,o[i]?.getD false=true->o'[i]?.getD false=true)->∀ i:Nat,o[i]?.getD false=false->o'[i]?.getD false=true->o.countP id<o'.countP id
 |[],[],_,_,i,_,h=>by simp at h
 |[],_::_,h,_,_,_,_=>by simp at h
 |_::_,[],h,_,_,_,_=>by simp at h
 |a::o,b::o',h,hm,i,h1,h2=>by
  have hm':∀ i:Nat,o[i]?.getD false=true->o'[i]?.getD false=true:=λi hi=>by simpa using hm (i+1) (by simpa using hi)
  have hl:o.length=o'.length:=by simpa using h
  rw[List.countP_cons,List.countP_cons]
  cases i with
  |zero =>
   have ih:=Xy4 o o' hl hm';simp at h1 h2;subst h1 h2;simp;omega
  |succ i =>
   have ih:=X059 o o' hl hm' i (by simpa using h1) (by simpa using h2);have h0:=hm 0;cases a<;>cases b<;>simp at h0 ⊢<;>omega
def Shut (f:Int) (cs:List (Int×Int)) (o:List Bool):Prop:=∀ c∈cs,(c.1=f\/atB o c.1=true)->atB o c.2=true
theorem Xim {f:Int}:∀ (cs:List (Int×Int)) (o:List Bool),(∀ c∈cs,0<=c.2/\c.2.toNat<o.length)->Shut f cs o->Xgc f o cs=o
 |[],_,_,_=>rfl
 |c::cs,o,hr,h=>by
  have h1:Xdg f o c=o:=by
   unfold Xdg
   cases hb:(c.1==f)||atB o c.1 with
   |false=>rfl
   |true =>
    rw[cond_true];have:=h c (by simp) (by simp only[Bool.or_eq_true,beq_iff_eq] at hb;exact hb);unfold atB at this;have hlt:=(hr c (by simp)).2;rw[Ye hlt] at this;apply List.ext_getElem?;intro i;by_cases hi:c.2.toNat=i
    ·subst hi;rw[List.getElem?_set_self hlt,Ye hlt];simpa using this.symm
    ·rw[List.getElem?_set_ne hi]
  rw[Xgc,h1];exact Xim cs o (λd hd=>hr d (List.mem_cons_of_mem _ hd)) λd hd=>h d (List.mem_cons_of_mem _ hd)
theorem Xlr {f:Int} {cs:List (Int×Int)}:∀ (n:Nat) (o:List Bool),(∀ c∈cs,0<=c.1/\0<=c.2/\c.2.toNat<o.length)->o.length<o.countP id+n->Shut f cs (Xgj f cs n o)
 |0,o,_,h=>by have:=List.countP_le_length (p:=id) (l:=o);omega
 |n+1,o,hr,h=>by
  have hr2:∀ c∈cs,0<=c.2/\c.2.toNat<o.length:=λc hc=>(hr c hc).2;rw[Xgj];by_cases hs:Shut f cs o
  ·rw[Xim cs o hr2 hs];clear h
   induction n with
   |zero=>exact hs
   |succ n ih=>rw[Xgj,Xim cs o hr2 hs];exact ih
  ·have:∃ c∈cs,(c.1=f\/atB o c.1=true)/\atB o c.2=false:=by
    apply Classical.byContradiction;intro hn;exact hs λc hc h2=>by
     cases hb:atB o c.2 with
     |true=>rfl
     |false=>exact absurd ⟨c,hc,h2,hb⟩ hn
   obtain⟨c,hc,h1,h2⟩:=this;have hx:=Xo6 cs o hr c hc h1
   have hlt:=X059 o (Xgc f o cs) (Xbs f cs o).symm (λi hi=>by
    have:=Xin (f:=f) cs o hr2 (i:Int) om (by unfold atB;simpa using hi)
    unfold atB at this;simpa using this) c.2.toNat h2 hx
   exact Xlr n _ (λc hc=>by rw[Xbs];exact hr c hc) (by rw[Xbs];omega)
theorem X02j {f:Int} {cs:List (Int×Int)} {o:List Bool} (h:Shut f cs o) {i:Int} (t:TC cs f i):atB o i=true:=by
 induction t with
 |one he=>exact h _ he (.inl rfl)
 |step _ he ih=>exact h _ he (.inr ih)
theorem Xjr {f:Int} {cs:List (Int×Int)}:∀ (n:Nat) (o:List Bool),(∀ c∈cs,0<=c.1/\0<=c.2/\c.2.toNat<o.length)->(∀ i,0<=i->atB o i=true->TC cs f i)->∀ i,0<=i->atB (Xgj f cs n o) i=true->TC cs f i
 |0,_,_,h=>h
 |n+1,o,hr,h=>Xjr n _ (λc hc=>by rw[Xbs];exact hr c hc) (Xlq cs o (λ_ h=>h) (λc hc=>(hr c hc).2) h λc hc=>(hr c hc).1)
theorem Xv5 {f:Int} {cs:List (Int×Int)} {n:Nat} (hr:∀ c∈cs,0<=c.1/\0<=c.2/\c.2.toNat<n) {i:Int} (hi:0<=i):atB (Xgj f cs (n+1) (List.replicate n false)) i=true↔TC cs f i:=by
 have hr':∀ c∈cs,0<=c.1/\0<=c.2/\c.2.toNat<(List.replicate n false).length:=by simpa using hr
 constructor
 ·refine Xjr (n+1) _ hr' (λj _ hj=>?_) i hi;unfold atB at hj;rw[List.getElem?_replicate] at hj;split at hj<;>simp at hj
 ·exact X02j (Xlr (n+1) _ hr' (by rw[List.length_replicate];omega))
end Go.D


namespace Go.D
open Go.Av
def Xeu (g:Xt):List (Int×Int):=g.Channels.map λc=>(c.From,c.To)
def GIn (g:Xt):Prop:=∀ c∈g.Channels,0<=c.From/\c.From<g.Ops.length/\0<=c.To/\c.To<g.Ops.length
theorem Xpv {o:List Bool} {i:Int} (h:0<=i) (h2:i.toNat<o.length):X14 o i=some (atB o i):=by
 unfold X14 atB;rw[if_pos h,Ye h2];rfl
theorem Xtt {g:Xt} {f r:Int} (hl:g.Channels.length<=1000):∀ (m:Nat) (l:List Xk) (k:Nat) (o:List Bool),g.Channels.drop k=l->k<=g.Channels.length->l.length<m->(∀ c∈l,0<=c.From/\c.From.toNat<o.length/\0<=c.To/\c.To.toNat<o.length) ->
  X2c f g r m o (k:Int)=some (.x0 (Xgc f o (l.map λc=>(c.From,c.To))))
 |0,_,_,_,_,_,h,_=>by omega
 |m+1,[],k,o,hd,hk,_,_=>by
  have:=X06 hd;rw[X2c,Yf om,cond_false];rfl
 |m+1,c::l,k,o,hd,hk,hm,hr=>by
  obtain⟨h1,h2,h3⟩:=Xy hd;obtain⟨c1,c2,c3,c4⟩:=hr c (by simp);have hg:X14 g.Channels (k:Int)=some c:=by unfold X14;rw[if_pos om];simpa using h2
  have hw:IntKind.i64.wrap ((k:Int)+1)=((k+1:Nat):Int):=by rw[X32 om om];omega
  rw[X2c,Yt om,cond_true,hg,hw];simp only[Yo];have key:∀ o',(Xdg f o (c.From,c.To))=o'->X2c f g r m o' ((k+1:Nat):Int)=some (.x0 (Xgc f o ((c::l).map λc=>(c.From,c.To)))):=by
   intro o' ho;have hlen:o'.length=o.length:=by rw[<-ho,Xb9]
   rw[Xtt hl m l (k+1) o' h3 om (by simp only[List.length_cons] at hm;omega) (λd hd=>by rw[hlen];exact hr d (List.mem_cons_of_mem _ hd))];rw[List.map_cons,Xgc,ho]
  by_cases hf:c.From=f
  ·have hb:(c.From==f)=true:=by simp[hf]
   simp only[hb,cond_true,Yo,Xpv c3 c4];exact key _ (by unfold Xdg;simp[hf])
  ·have hb:(c.From==f)=false:=by simp[hf]
   simp only[hb,cond_false,Yo,Xpv c1 c2]
   cases ha:atB o c.From with
   |true=>simp only[cond_true,Yo,Xpv c3 c4];exact key _ (by unfold Xdg;simp[hb,ha])
   |false=>simp only[cond_false,Yo];exact key _ (by unfold Xdg;simp[hb,ha])
theorem Xtu {g:Xt} {f:Int} (hl:g.Channels.length<=1000) (hn:g.Ops.length<=1000) (hi:GIn g):∀ (m k j:Nat) (o:List Bool),o.length=g.Ops.length->k+j=g.Ops.length+1->j<m ->
  X2w f g m o (k:Int)=some (.x0 (Xgj f (Xeu g) j o))
 |0,_,_,_,_,_,h=>by omega
 |m+1,k,0,o,ho,hk,_=>by
  rw[X2w,Yf om,cond_false];rfl
 |m+1,k,j+1,o,ho,hk,hm=>by
  have hw:IntKind.i64.wrap ((k:Int)+1)=((k+1:Nat):Int):=by rw[X32 om om];omega
  have h1:=Xtt (f:=f) (r:=(k:Int)) hl FU g.Channels 0 o rfl (Nat.zero_le _) (by unfold FU;omega) (λc hc=>by have:=hi c hc;rw[ho];omega);rw[X2w,Yt om,cond_true,show(0:Int)=((0:Nat):Int) from rfl,h1,hw];simp only[Yo];exact Xtu hl hn hi m (k+1) j _ (by rw[Xbs,ho]) om om
theorem Xqp {g:Xt} {f:Int} (hp:0<g.Ops.length) (hl:g.Channels.length<=1000) (hn:g.Ops.length<=1000) (hi:GIn g):∃ o,X8v g f=some o/\o.length=g.Ops.length/\∀ i,0<=i->(atB o i=true↔TC (Xeu g) f i):=by
 have hr:∀ c∈Xeu g,0<=c.1/\0<=c.2/\c.2.toNat<g.Ops.length:=by
  intro c hc;obtain⟨d,hd,rfl⟩:=List.mem_map.1 hc;have:=hi d hd;simp only;omega
 refine⟨Xgj f (Xeu g) (g.Ops.length+1) (List.replicate g.Ops.length false),?_,by rw[Xo7,List.length_replicate],λi h=>Xv5 hr h⟩;unfold X8v;have hm:mkOk (List.length g.Ops:Int) (List.length g.Ops:Int) 1=some ():=by unfold mkOk;rw[if_pos om]
 rw[hm];simp only[Yo,Int.toNat_natCast];rw[show(0:Int)=((0:Nat):Int) from rfl,Xtu hl hn hi FU 0 (g.Ops.length+1) _ (by simp) om (by unfold FU;omega)];rfl
end Go.D


namespace Go.D
open Go.Av
theorem Xh3:∀ (m:Nat) (l:List Int),l.Nodup->(∀ x∈l,0<=x/\x<m)->l.length<=m
 |0,[],_,_=>Nat.le_refl _
 |0,x::l,_,h=>by have:=h x (by simp);omega
 |m+1,l,nd,h=>by
  by_cases hm:(m:Int)∈l
  ·have h1:=Xh3 m (l.erase (m:Int)) (nd.erase _) λx hx=>by
    obtain⟨g1,g2⟩:=(nd.mem_erase_iff).1 hx;have:=h x g2;omega
   rw[List.length_erase_of_mem hm] at h1;omega
  ·have h1:=Xh3 m l nd λx hx=>by
    have:=h x hx;have:x≠m:=λe=>hm (e▸hx);omega
   omega
theorem Xoh:∀ (s:List Int) (k:Nat),s.Pairwise (· < ·)->(∀ x∈s,(k:Int)<=x/\x<k+s.length)->X91 s k=true
 |[],_,_,_=>rfl
 |z::r,k,hs,h=>by
  obtain⟨h1,h2⟩:=List.pairwise_cons.1 hs;have hz:=h z (by simp);have hlen:r.length<=r.length:=Nat.le_refl _;have hzk:z=(k:Int):=by
   apply Classical.byContradiction;intro hne
   have hb:=Xh3 (k+r.length - z.toNat) (r.map λx=>x - z - 1) (by
    have:(r.map λx=>x - z - 1).Pairwise (· < ·):=by
     rw[List.pairwise_map];exact h2.imp λh=>by omega
    exact this.imp λh=>by omega) (λx hx=>by
    obtain⟨y,hy,rfl⟩:=List.mem_map.1 hx;have a:=h y (List.mem_cons_of_mem _ hy);have b:=h1 y hy;simp only[List.length_cons] at a
    omega)
   rw[List.length_map] at hb;simp only[List.length_cons] at hz;omega
  rw[X91];subst hzk;simp only[beq_self_eq_true,Bool.not_true,cond_false];refine Xoh r (k+1) h2 λx hx=>?_;have a:=h x (List.mem_cons_of_mem _ hx);have b:=h1 x hx;simp only[List.length_cons] at a;omega
theorem Xmd:∀ (s:List Int) (k:Nat),X91 s k=true->s.Nodup/\∀ x∈s,(k:Int)<=x/\x<k+s.length
 |[],_,_=>⟨List.nodup_nil,λx hx=>by cases hx⟩
 |z::r,k,h=>by
  rw[X91] at h
  cases hz:z==(k:Int) with
  |false=>rw[hz] at h;simp at h
  |true =>
   rw[hz] at h;simp only[Bool.not_true,cond_false] at h;obtain⟨h1,h2⟩:=Xmd r (k+1) h;have hz':z=k:=by simpa using hz
   refine⟨List.nodup_cons.2 ⟨λhm=>by have:=h2 z hm;omega,h1⟩,λx hx=>?_⟩;simp only[List.length_cons];rcases List.mem_cons.1 hx with rfl|hx
   ·omega
   ·have:=h2 x hx;omega
theorem Xv8 (l:List Int):X91 (X2f l) 0=true↔l.Nodup/\∀ x∈l,0<=x/\x<l.length:=by
 have hp:(X2f l).Perm l:=List.mergeSort_perm _ _;constructor
 ·intro h;obtain⟨h1,h2⟩:=Xmd _ _ h;refine⟨(hp.nodup_iff).1 h1,λx hx=>?_⟩;have:=h2 x (hp.mem_iff.2 hx);rw[X8g] at this;omega
 ·rintro⟨h1,h2⟩;have hs:(X2f l).Pairwise (λa b=>decide (a<=b)=true):=List.pairwise_mergeSort (λa b c h1 h2=>by simp only[decide_eq_true_eq] at *;omega) (λa b=>by simp only[Bool.or_eq_true,decide_eq_true_eq];omega) l;refine Xoh _ 0 ?_ λx hx=>?_
  ·refine(hs.and (show(X2f l).Pairwise (·≠·) from(hp.nodup_iff).2 h1)).imp λ⟨h1,h2⟩=>?_;simp only[decide_eq_true_eq] at h1;omega
  ·have:=h2 x (hp.mem_iff.1 hx);rw[X8g];omega
end Go.D


namespace Go.D
open Go.Av
def Xcm (l:List Xk) (i:Nat):List Int:=(l.filter λc=>decide (c.To=(i:Int))).map (·.In)
def X6q (l:List Xk) (i:Nat):List Int:=(l.filter λc=>decide (c.From=(i:Int))).map (·.Out)
theorem Xy8 {L:List (List Int)} {i x:Int} (hi:0<=i) (hl:i.toNat<L.length) (j:Nat):((push L i x)[j]?.getD [])=(L[j]?.getD [])++(if i=(j:Int) then [x] else []):=by
 unfold push;by_cases h:i=(j:Int)
 ·subst h;rw[if_pos rfl];simp only[Int.toNat_natCast] at *;rw[List.getElem?_set_self hl];rfl
 ·rw[if_neg h,List.getElem?_set_ne om,List.append_nil]
theorem Xoi (c:Xk) (l:List Xk) (i:Nat):Xcm (c::l) i=(if c.To=(i:Int) then [c.In] else [])++Xcm l i:=by
 unfold Xcm;by_cases h:c.To=(i:Int)
 ·rw[List.filter_cons_of_pos (by simp[h]),if_pos h];rfl
 ·rw[List.filter_cons_of_neg (by simp[h]),if_neg h];rfl
theorem Xlt (c:Xk) (l:List Xk) (i:Nat):X6q (c::l) i=(if c.From=(i:Int) then [c.Out] else [])++X6q l i:=by
 unfold X6q;by_cases h:c.From=(i:Int)
 ·rw[List.filter_cons_of_pos (by simp[h]),if_pos h];rfl
 ·rw[List.filter_cons_of_neg (by simp[h]),if_neg h];rfl
theorem Xm9 {N:Nat} {l:List Xk}:∀ (xs:List Xk) (k:Nat) (li lo:List (List Int)),l.drop k=xs->Xar N l xs k li lo=none->(∃ c∈xs,jB1 N c=true)\/∃ j c,k<=j/\l[j]?=some c/\jB2 j (l[j - 1]?.getD default) c=true
 |[],_,_,_,_,h=>by cases h
 |x::xs,k,li,lo,hd,h=>by
  obtain⟨_,h2,h3⟩:=Xy hd;rw[Xar] at h
  cases hb:jB1 N x with
  |true=>exact .inl ⟨x,by simp,hb⟩
  |false =>
   rw[hb,cond_false] at h
   cases hc:jB2 k (l[k - 1]?.getD default) x with
   |true=>exact .inr ⟨k,x,Nat.le_refl _,by simpa using h2,hc⟩
   |false =>
    rw[hc,cond_false] at h;rcases Xm9 xs (k+1) _ _ h3 h with ⟨c,hc,hb⟩|⟨j,c,hj,hr⟩
    ·exact .inl ⟨c,List.mem_cons_of_mem _ hc,hb⟩
    ·exact .inr ⟨j,c,by omega,hr⟩
theorem Xm8 {N:Nat} {l:List Xk}:∀ (xs:List Xk) (k:Nat) (li lo:List (List Int)) (p),l.drop k=xs->li.length=N->lo.length=N->Xar N l xs k li lo=some p ->
  (∀ c∈xs,jB1 N c=false)/\(∀ j c,k<=j->l[j]?=some c->jB2 j (l[j - 1]?.getD default) c=false)/\p.1.length=N/\p.2.length=N/\(∀ i,p.1[i]?.getD []=(li[i]?.getD [])++Xcm xs i)/\∀ i,p.2[i]?.getD []=(lo[i]?.getD [])++X6q xs i
 |[],k,li,lo,p,hd,h1,h2,h=>by
  rw[Xar] at h;cases h
  refine⟨λc hc=>absurd hc List.not_mem_nil,λj c hj hc=>?_,h1,h2,λi=>(by simp[Xcm]),λi=>(by simp[X6q])⟩;obtain⟨hlt,_⟩:=Ys.1 hc;have hlen:=X06 hd;omega
 |x::xs,k,li,lo,p,hd,h1,h2,h=>by
  obtain⟨_,g2,g3⟩:=Xy hd;rw[Xar] at h
  cases hb:jB1 N x with
  |true=>rw[hb] at h;cases h
  |false =>
   rw[hb,cond_false] at h
   cases hc:jB2 k (l[k - 1]?.getD default) x with
   |true=>rw[hc] at h;cases h
   |false =>
    rw[hc,cond_false] at h;obtain⟨b1,b2,b3,b4⟩:=Xz3 hb;obtain⟨a1,a2,a3,a4,a5,a6⟩:=Xm8 xs (k+1) _ _ p g3 (by rw[Xkw,h1]) (by rw[Xkw,h2]) h;refine⟨λc hm=>?_,λj c hj hg=>?_,a3,a4,λi=>?_,λi=>?_⟩
    ·rcases List.mem_cons.1 hm with rfl|hm
     ·exact hb
     ·exact a1 c hm
    ·by_cases hjk:j=k
     ·subst hjk;have:l[j]?=some x:=by simpa using g2
      rw[this] at hg;cases hg;exact hc
     ·exact a2 j c om hg
    ·rw[a5,Xy8 b1 om,Xoi,List.append_assoc]
    ·rw[a6,Xy8 b3 om,Xlt,List.append_assoc]
theorem Xci (k:Int):∃ b,X19 k=some b:=Option.isSome_iff_exists.1 (by
 unfold X19
 cases k==1<;>cases k==2<;>cases k==3<;>cases k==4<;>cases k==5<;>cases k==6<;>rfl)
def Xi6 (o:GOp) (a b:List Int):Option Bool:=(X19 o.Kind).bind λq=>some (X7q a q.1.e0 q.1.e1&&X7q b q.2.e0 q.2.e1)
theorem Xhw:∀ (os:List GOp) (li lo:List (List Int)),X62 os li lo=some true↔∀ (i:Nat) (o:GOp),os[i]?=some o->Xi6 o (li[i]?.getD []) (lo[i]?.getD [])=some true
 |[],_,_=>by simp[X62]
 |o::os,li,lo=>by
  have ih:=Xhw os li.tail lo.tail;have hh:∀ L:List (List Int),L.headD []=L[0]?.getD []:=λL=>by cases L<;>rfl
  have ht:∀ (L:List (List Int)) (i:Nat),L.tail[i]?.getD []=L[i+1]?.getD []:=λL i=>by cases L<;>simp
  obtain⟨b,hb⟩:=Xci o.Kind;have hs:(∀ (i:Nat) (o':GOp),(o::os)[i]?=some o'->Xi6 o' (li[i]?.getD []) (lo[i]?.getD [])=some true)↔Xi6 o (li[0]?.getD []) (lo[0]?.getD [])=some true/\∀ (i:Nat) (o':GOp),os[i]?=some o'->Xi6 o' (li[i+1]?.getD []) (lo[i+1]?.getD [])=some true:=by
   constructor
   ·intro h;exact⟨h 0 o rfl,λi o' hi=>h (i+1) o' (by simpa using hi)⟩
   ·rintro⟨h1,h2⟩ i o' hi
    cases i with
    |zero=>simp at hi;subst hi;exact h1
    |succ i=>exact h2 i o' (by simpa using hi)
  rw[hs,X62,hb];simp only[Yo,hh];have he:Xi6 o (li[0]?.getD []) (lo[0]?.getD [])=some (X7q (li[0]?.getD []) b.1.e0 b.1.e1&&X7q (lo[0]?.getD []) b.2.e0 b.2.e1):=by unfold Xi6;rw[hb];rfl
  rw[he]
  cases X7q (li[0]?.getD []) b.1.e0 b.1.e1 with
  |false=>simp
  |true =>
   cases X7q (lo[0]?.getD []) b.2.e0 b.2.e1 with
   |false=>simp
   |true=>simp only[cond_true,Bool.and_self,true_and];rw[ih];simp only[ht]
theorem Xhx:∀ (os:List GOp) (li lo:List (List Int)),∃ b,X62 os li lo=some b
 |[],_,_=>⟨true,rfl⟩
 |o::os,li,lo=>by
  obtain⟨b,hb⟩:=Xci o.Kind;rw[X62,hb];simp only[Yo]
  cases X7q (li.headD []) b.1.e0 b.1.e1 with
  |false=>exact⟨_,rfl⟩
  |true =>
   cases X7q (lo.headD []) b.2.e0 b.2.e1 with
   |false=>exact⟨_,rfl⟩
   |true=>simp only[cond_true];exact Xhx os _ _
end Go.D


namespace Go.D
open Go.Av
theorem X5l {α:Type} {l:List α} {k:Nat} {c:α} (h:l[k]?=some c):X14 l (k:Int)=some c:=by unfold X14;rw[if_pos om];simpa using h
theorem X5e {k:Nat} (h:k<=1000000):IntKind.i64.wrap ((k:Int)+1)=((k+1:Nat):Int):=by rw[X32 om om];omega
theorem Xje {g:Xt} {i:Nat} (hl:g.Channels.length<=1000):∀ (m:Nat) (l:List Xk) (k a:Nat),g.Channels.drop k=l->k<=g.Channels.length->a<=k->l.length<m ->
  X3h (i:Int) g m (a:Int) (k:Int)=some (.x0 ((a+(Xcm l i).length:Nat):Int))
 |0,_,_,_,_,_,_,h=>by omega
 |m+1,[],k,a,hd,hk,_,_=>by
  have:=X06 hd;rw[X3h,Yf om,cond_false];rfl
 |m+1,c::l,k,a,hd,hk,ha,hm=>by
  obtain⟨h1,h2,h3⟩:=Xy hd;have hg:=X5l (show g.Channels[k]?=some c by simpa using h2);rw[X3h,Yt om,cond_true,hg,X5e om,Xoi];simp only[Yo];simp only[List.length_cons] at hm;by_cases hc:c.To=(i:Int)
  ·rw[show(c.To==(i:Int))=true by simp[hc],cond_true,if_pos hc];simp only[Yo];rw[X5e om,Xje hl m l (k+1) (a+1) h3 om om om];simp only[List.length_append,List.length_singleton];congr 2;omega
  ·rw[show(c.To==(i:Int))=false by simp[hc],cond_false,if_neg hc];simp only[Yo];rw[X5e (k:=k) om,Xje hl m l (k+1) a h3 om om om];simp
theorem Xu9 {g:Xt} {i:Nat} (hl:g.Channels.length<=1000):X67 g (i:Int)=some ((Xcm g.Channels i).length:Int):=by
 unfold X67;have:=Xje (g:=g) (i:=i) hl FU g.Channels 0 0 rfl om om (by unfold FU;omega);rw[show(0:Int)=((0:Nat):Int) from rfl,this];simp
theorem Xh1 {g:Xt} {i:Nat} (hl:g.Channels.length<=1000):∀ (m:Nat) (l:List Xk) (k a:Nat),g.Channels.drop k=l->k<=g.Channels.length->a<=k->l.length<m ->
  X2x (i:Int) g m (a:Int) (k:Int)=some (.x0 ((a+(X6q l i).length:Nat):Int))
 |0,_,_,_,_,_,_,h=>by omega
 |m+1,[],k,a,hd,hk,_,_=>by
  have:=X06 hd;rw[X2x,Yf om,cond_false];rfl
 |m+1,c::l,k,a,hd,hk,ha,hm=>by
  obtain⟨h1,h2,h3⟩:=Xy hd;have hg:=X5l (show g.Channels[k]?=some c by simpa using h2);rw[X2x,Yt om,cond_true,hg,X5e om,Xlt];simp only[Yo];simp only[List.length_cons] at hm;by_cases hc:c.From=(i:Int)
  ·rw[show(c.From==(i:Int))=true by simp[hc],cond_true,if_pos hc];simp only[Yo];rw[X5e om,Xh1 hl m l (k+1) (a+1) h3 om om om];simp only[List.length_append,List.length_singleton];congr 2;omega
  ·rw[show(c.From==(i:Int))=false by simp[hc],cond_false,if_neg hc];simp only[Yo];rw[X5e (k:=k) om,Xh1 hl m l (k+1) a h3 om om om];simp
theorem Xqs {g:Xt} {i:Nat} (hl:g.Channels.length<=1000):X58 g (i:Int)=some ((X6q g.Channels i).length:Int):=by
 unfold X58;have:=Xh1 (g:=g) (i:=i) hl FU g.Channels 0 0 rfl om om (by unfold FU;omega);rw[show(0:Int)=((0:Nat):Int) from rfl,this];simp
def X00x (d c:Xk):Prop:=(d.From<c.From\/d.From=c.From/\d.Out<c.Out)/\¬ (d.To=c.To/\d.In=c.In)
theorem Xrj {g:Xt} {c:Xk} {i:Nat} (hi:i<=g.Channels.length) (hl:g.Channels.length<=1000):∀ (m k:Nat),k<=i->i - k<m ->
  ∃ r,X5r (i:Int) g c m (k:Int)=some r/\(r=.x1↔∀ j d,k<=j->j<i->g.Channels[j]?=some d->X00x d c)
 |0,_,_,h=>by omega
 |m+1,k,hk,hm=>by
  rw[X5r];by_cases hki:k<i
  ·obtain⟨d,hd⟩:∃ d,g.Channels[k]?=some d:=⟨_,Ye om⟩;rw[Yt om,cond_true,X5l hd,X5e om];simp only[Yo];obtain⟨r,h1,h2⟩:=Xrj (c:=c) hi hl m (k+1) om om;have key:(bif (bif decide (d.From>c.From) then true else bif d.From==c.From then decide (d.Out >= c.Out) else false) then true else bif d.To==c.To then d.In==c.In else false)=false↔X00x d c:=by
    unfold X00x;by_cases a1:d.From>c.From<;>by_cases a2:d.From=c.From<;>by_cases a3:d.Out >= c.Out<;>by_cases a4:d.To=c.To<;>by_cases a5:d.In=c.In<;>simp[a1,a2,a3,a4,a5]<;>omega
   cases hb:(bif (bif decide (d.From>c.From) then true else bif d.From==c.From then decide (d.Out >= c.Out) else false) then true else bif d.To==c.To then d.In==c.In else false) with
   |true =>
    refine⟨.x0,by rw[cond_true],λh=>(by cases h),λh=>?_⟩;exact absurd (key.2 (h k d (Nat.le_refl _) hki hd)) (by rw[hb];simp)
   |false =>
    refine⟨r,by rw[cond_false];exact h1,λh j e hj hji he=>?_,λh=>h2.2 λj e hj=>h j e om⟩;by_cases hjk:j=k
    ·subst hjk;rw[hd] at he;cases he;exact key.1 hb
    ·exact h2.1 h j e om hji he
  ·rw[Yf om,cond_false];exact⟨.x1,rfl,λ_ j d h1 h2=>by omega,λ_=>rfl⟩
theorem X08y {g:Xt} {c:Xk} {i:Nat} (hl:g.Channels.length<=1000) (hc:g.Channels[i]?=some c):∃ b,Xc3 g (i:Int)=some b/\(b=true↔∀ j d,j<i->g.Channels[j]?=some d->X00x d c):=by
 obtain⟨hlt,_⟩:=Ys.1 hc;obtain⟨r,h1,h2⟩:=Xrj (g:=g) (c:=c) (i:=i) om hl FU 0 om (by unfold FU;omega);unfold Xc3;rw[X5l hc];simp only[Yo];rw[show(0:Int)=((0:Nat):Int) from rfl,h1]
 cases r with
 |x0=>exact⟨false,rfl,λh=>(by cases h),λh=>absurd (h2.2 λj d _=>h j d) (by simp)⟩
 |x1=>exact⟨true,rfl,λ_ j d hj=>h2.1 rfl j d (Nat.zero_le _) hj,λ_=>rfl⟩
theorem X06y {N:Nat} {c:Xk}:jB1 N c=false↔((((¬ c.From<0/\¬ c.To<0)/\¬ c.From >= (N:Int))/\¬ c.To >= (N:Int))/\¬ c.Room<1)/\¬ c.Room>8:=by
 unfold jB1;by_cases a1:(if c.To<c.From then c.To else c.From)<0<;>by_cases a2:(if c.To>c.From then c.To else c.From) >= (N:Int)<;>by_cases a3:c.Room<1<;>by_cases a4:c.Room>8<;>simp only[a1,a2,a3,a4,decide_true,decide_false,cond_true,cond_false,not_true_eq_false,not_false_eq_true,and_false,and_true,false_iff,true_iff,reduceCtorEq]<;>split at a1<;>split at a2<;>omega
theorem Xqg {g:Xt} (hl:g.Channels.length<=1000):∀ (m:Nat) (l:List Xk) (k:Nat),g.Channels.drop k=l->k<=g.Channels.length->l.length<m ->
  ∃ r,X4f g m (k:Int)=some r/\(r=.x1↔∀ c∈l,jB1 g.Ops.length c=false)
 |0,_,_,_,_,h=>by omega
 |m+1,[],k,hd,hk,_=>by
  have:=X06 hd;rw[X4f,Yf om,cond_false];exact⟨.x1,rfl,λ_ c hc=>absurd hc List.not_mem_nil,λ_=>rfl⟩
 |m+1,c::l,k,hd,hk,hm=>by
  obtain⟨h1,h2,h3⟩:=Xy hd;have hg:=X5l (show g.Channels[k]?=some c by simpa using h2);simp only[List.length_cons] at hm;obtain⟨r,e1,e2⟩:=Xqg hl m l (k+1) h3 om om;rw[X4f,Yt om,cond_true,hg,X5e om,e1];simp only[Yo];have hb:=X06y (N:=g.Ops.length) (c:=c);by_cases a1:c.From<0
  ·exact⟨.x0,by simp[a1],λh=>(by cases h),λh=>absurd (hb.1 (h c (by simp))) (by simp[a1])⟩
  by_cases a2:c.To<0
  ·exact⟨.x0,by simp[a1,a2],λh=>(by cases h),λh=>absurd (hb.1 (h c (by simp))) (by simp[a2])⟩
  by_cases a3:c.From >= (g.Ops.length:Int)
  ·exact⟨.x0,by simp[a1,a2,a3],λh=>(by cases h),λh=>absurd (hb.1 (h c (by simp))) (by simp[a3])⟩
  by_cases a4:c.To >= (g.Ops.length:Int)
  ·exact⟨.x0,by simp[a1,a2,a3,a4],λh=>(by cases h),λh=>absurd (hb.1 (h c (by simp))) (by simp[a4])⟩
  by_cases a5:c.Room<1
  ·exact⟨.x0,by simp[a1,a2,a3,a4,a5],λh=>(by cases h),λh=>absurd (hb.1 (h c (by simp))) (by simp[a5])⟩
  by_cases a6:c.Room>8
  ·exact⟨.x0,by simp[a1,a2,a3,a4,a5,a6],λh=>(by cases h),λh=>absurd (hb.1 (h c (by simp))) (by simp[a6])⟩
  ·have hc:=hb.2 ⟨⟨⟨⟨⟨a1,a2⟩,a3⟩,a4⟩,a5⟩,a6⟩;refine⟨r,by simp[a1,a2,a3,a4,a5,a6],?_⟩;rw[e2];simp[hc]
def ChOk (g:Xt) (i:Nat) (c:Xk):Prop:=(∀ j d,j<i->g.Channels[j]?=some d->X00x d c)/\(0<=c.Out/\c.Out<(X6q g.Channels c.From.toNat).length)/\0<=c.In/\c.In<(Xcm g.Channels c.To.toNat).length
theorem Xqf {g:Xt} (hl:g.Channels.length<=1000) (hi:GIn g):∀ (m:Nat) (l:List Xk) (k:Nat),g.Channels.drop k=l->k<=g.Channels.length->l.length<m ->
  ∃ r,X4e g m (k:Int)=some r/\(r=.x1↔∀ i c,k<=i->g.Channels[i]?=some c->ChOk g i c)
 |0,_,_,_,_,h=>by omega
 |m+1,[],k,hd,hk,_=>by
  have:=X06 hd;rw[X4e,Yf om,cond_false];refine⟨.x1,rfl,λ_ i c hk hc=>?_,λ_=>rfl⟩;obtain⟨hlt,_⟩:=Ys.1 hc;omega
 |m+1,c::l,k,hd,hk,hm=>by
  obtain⟨h1,h2,h3⟩:=Xy hd;have hgc:g.Channels[k]?=some c:=by simpa using h2
  simp only[List.length_cons] at hm;obtain⟨r,e1,e2⟩:=Xqf hl hi m l (k+1) h3 om om;obtain⟨b,f1,f2⟩:=X08y hl hgc;have hin:=hi c (Yg hgc);have ho:X58 g c.From=some ((X6q g.Channels c.From.toNat).length:Int):=by rw[<-Xqs hl,Int.toNat_of_nonneg hin.1]
  have hn:X67 g c.To=some ((Xcm g.Channels c.To.toNat).length:Int):=by rw[<-Xu9 hl,Int.toNat_of_nonneg hin.2.2.1]
  rw[X4e,Yt om,cond_true,X5l hgc,X5e om,e1];simp only[Yo,f1];have hno:¬ ChOk g k c->¬ ∀ i c,k<=i->g.Channels[i]?=some c->ChOk g i c:=λh1 h2=>h1 (h2 k c (Nat.le_refl _) hgc);have hbad:∀ {x},x=some X5g.x0->¬ ChOk g k c->∃ r,x=some r/\(r=.x1↔∀ i c,k<=i->g.Channels[i]?=some c->ChOk g i c):=λe h=>⟨.x0,e,λh=>(by cases h),λh2=>absurd h2 (hno h)⟩
  cases b with
  |false=>exact hbad (by simp) λh=>by have:=f2.2 h.1;simp at this
  |true =>
   have ha:=f2.1 rfl;by_cases a1:c.Out<0
   ·exact hbad (by simp[a1]) λh=>by have:=h.2.1.1;omega
   by_cases a2:c.Out >= ((X6q g.Channels c.From.toNat).length:Int)
   ·exact hbad (by simp[a1,ho,a2]) λh=>by have:=h.2.1.2;omega
   by_cases a3:c.In<0
   ·exact hbad (by simp[a1,ho,a2,a3]) λh=>by have:=h.2.2.1;omega
   by_cases a4:c.In >= ((Xcm g.Channels c.To.toNat).length:Int)
   ·exact hbad (by simp[a1,ho,a2,a3,hn,a4]) λh=>by have:=h.2.2.2;omega
   refine⟨r,by simp[a1,ho,a2,a3,hn,a4],?_⟩;rw[e2];constructor
   ·intro h i d hki hgd;by_cases hik:i=k
    ·subst hik;rw[hgc] at hgd;cases hgd;exact⟨ha,⟨by omega,by omega⟩,by omega,by omega⟩
    ·exact h i d om hgd
   ·intro h i d hki hgd;exact h i d om hgd
def Xuq (kind a o:Int):Prop:=1<=kind/\kind<=7/\∀ q,X19 kind=some q->(q.1.e0<=a/\a<=q.1.e1)/\q.2.e0<=o/\o<=q.2.e1
theorem X0a0 {kind a o:Int} (ha:0<=a) (ho:0<=o):∃ b,X3q kind a o=some b/\(b=true↔Xuq kind a o):=by
 have hk:kind=1\/kind=2\/kind=3\/kind=4\/kind=5\/kind=6\/kind=7\/(kind≠1/\kind≠2/\kind≠3/\kind≠4/\kind≠5/\kind≠6/\kind≠7):=by omega
 unfold Xuq;rcases hk with rfl|rfl|rfl|rfl|rfl|rfl|rfl|⟨h1,h2,h3,h4,h5,h6,h7⟩
 ·refine⟨decide (a=0/\o=1),?_,?_⟩
  ·unfold X3q;by_cases g1:a=0<;>by_cases g2:o=1<;>simp[g1,g2]
  ·simp[X19];omega
 ·refine⟨decide (a=1/\1<=o/\o<=2),?_,?_⟩
  ·unfold X3q X1y;by_cases g1:a=1<;>by_cases g2:1<=o<;>by_cases g3:o<=2<;>simp[g1,g2,g3,beq_eq_false_iff_ne.2,show ∀ z:Int,(a==z)=decide (a=z) from λz=>rfl]
  ·simp[X19];omega
 ·refine⟨decide (a=1/\1<=o/\o<=3),?_,?_⟩
  ·unfold X3q X1y;by_cases g1:a=1<;>by_cases g2:1<=o<;>by_cases g3:o<=3<;>simp[g1,g2,g3,beq_eq_false_iff_ne.2,show ∀ z:Int,(a==z)=decide (a=z) from λz=>rfl]
  ·simp[X19];omega
 ·refine⟨decide (o=1/\1<=a/\a<=4),?_,?_⟩
  ·unfold X3q X1y;by_cases g1:o=1<;>by_cases g2:1<=a<;>by_cases g3:a<=4<;>simp[g1,g2,g3]
  ·simp[X19];omega
 ·refine⟨decide (a=2/\o=1),?_,?_⟩
  ·unfold X3q;by_cases g1:a=2<;>by_cases g2:o=1<;>simp[g1,g2]
  ·simp[X19];omega
 ·refine⟨decide (o=0/\1<=a/\a<=3),?_,?_⟩
  ·unfold X3q X1y;by_cases g1:o=0<;>by_cases g2:1<=a<;>by_cases g3:a<=3<;>simp[g1,g2,g3]
  ·simp[X19];omega
 ·refine⟨decide (o=0/\1<=a/\a<=4),?_,?_⟩
  ·unfold X3q X1y;by_cases g1:o=0<;>by_cases g2:1<=a<;>by_cases g3:a<=4<;>simp[g1,g2,g3]
  ·simp[X19];omega
 ·refine⟨false,?_,?_⟩
  ·unfold X3q;rw[beq_false_of_ne h1,beq_false_of_ne h2,beq_false_of_ne h3,beq_false_of_ne h4,beq_false_of_ne h5,beq_false_of_ne h6,beq_false_of_ne h7];rfl
  ·simp;intro g1 g2;omega
def OpOk (g:Xt) (i:Nat) (o:GOp):Prop:=(0<=o.N/\o.N<=3)/\Xuq o.Kind (Xcm g.Channels i).length (X6q g.Channels i).length/\¬ TC (Xeu g) i i
theorem Xqe {g:Xt} (hl:g.Channels.length<=1000) (hn:g.Ops.length<=1000) (hi:GIn g):∀ (m:Nat) (l:List GOp) (k:Nat),g.Ops.drop k=l->k<=g.Ops.length->l.length<m ->
  ∃ r,X4d g m (k:Int)=some r/\(r=.x1↔∀ i o,k<=i->g.Ops[i]?=some o->OpOk g i o)
 |0,_,_,_,_,h=>by omega
 |m+1,[],k,hd,hk,_=>by
  have:=X06 hd;rw[X4d,Yf om,cond_false];refine⟨.x1,rfl,λ_ i c hk hc=>?_,λ_=>rfl⟩;obtain⟨hlt,_⟩:=Ys.1 hc;omega
 |m+1,o::l,k,hd,hk,hm=>by
  obtain⟨h1,h2,h3⟩:=Xy hd;have hgc:g.Ops[k]?=some o:=by simpa using h2
  simp only[List.length_cons] at hm;obtain⟨r,e1,e2⟩:=Xqe hl hn hi m l (k+1) h3 om om;obtain⟨b,f1,f2⟩:=X0a0 (kind:=o.Kind) (a:=((Xcm g.Channels k).length:Int)) (o:=((X6q g.Channels k).length:Int)) om om;obtain⟨R,r1,r2,r3⟩:=Xqp (g:=g) (f:=(k:Int)) om hl hn hi;have hat:X14 R (k:Int)=some (atB R k):=Xpv om (by rw[r2];simpa using h1);rw[X4d,Yt om,cond_true,X5l hgc,X5e om,e1,Xu9 hl,Xqs hl];simp only[Yo,f1,r1,hat];have hno:¬ OpOk g k o->¬ ∀ i c,k<=i->g.Ops[i]?=some c->OpOk g i c:=λh1 h2=>h1 (h2 k o (Nat.le_refl _) hgc);have hbad:∀ {x},x=some X5f.x0->¬ OpOk g k o->∃ r,x=some r/\(r=.x1↔∀ i c,k<=i->g.Ops[i]?=some c->OpOk g i c):=λe h=>⟨.x0,e,λh=>(by cases h),λh2=>absurd h2 (hno h)⟩;by_cases a1:o.N<0
  ·exact hbad (by simp[a1]) λh=>by have:=h.1.1;omega
  by_cases a2:o.N>3
  ·exact hbad (by simp[a1,a2]) λh=>by have:=h.1.2;omega
  cases b with
  |false=>exact hbad (by simp[a1,a2]) λh=>by have:=f2.2 h.2.1;simp at this
  |true =>
   cases hR:atB R k with
   |true=>exact hbad (by simp[a1,a2]) λh=>h.2.2 ((r3 k om).1 hR)
   |false =>
    refine⟨r,by simp[a1,a2],?_⟩;rw[e2];have hk:OpOk g k o:=⟨⟨by omega,by omega⟩,f2.1 rfl,λh=>by have:=(r3 k om).2 h;rw[hR] at this;cases this⟩;constructor
    ·intro h i d hki hgd;by_cases hik:i=k
     ·subst hik;rw[hgc] at hgd;cases hgd;exact hk
     ·exact h i d om hgd
    ·intro h i d hki hgd;exact h i d om hgd
end Go.D


namespace Go.D
open Go.Av
def GOk (g:Xt):Prop:=(∀ c∈g.Channels,jB1 g.Ops.length c=false)/\(∀ i c,g.Channels[i]?=some c->ChOk g i c)/\∀ i o,g.Ops[i]?=some o->OpOk g i o
theorem Xr0 {g:Xt} (h:∀ c∈g.Channels,jB1 g.Ops.length c=false):GIn g:=λc hc=>by have:=Xz3 (h c hc);omega
theorem Xx0 {g:Xt} (hl:g.Channels.length<=1000) (hn:g.Ops.length<=1000):∃ b,Xc4 g=some b/\(b=true↔GOk g):=by
 unfold Xc4;obtain⟨r0,a1,a2⟩:=Xqg hl FU g.Channels 0 rfl (Nat.zero_le _) (by unfold FU;omega);rw[show(0:Int)=((0:Nat):Int) from rfl,a1]
 cases r0 with
 |x0=>exact⟨false,rfl,λh=>(by cases h),λh=>absurd (a2.2 h.1) (by simp)⟩
 |x1 =>
  have h0:=a2.1 rfl;obtain⟨r1,b1,b2⟩:=Xqf hl (Xr0 h0) FU g.Channels 0 rfl (Nat.zero_le _) (by unfold FU;omega);simp only[Yo];rw[b1]
  cases r1 with
  |x0=>exact⟨false,rfl,λh=>(by cases h),λh=>absurd (b2.2 λi c _=>h.2.1 i c) (by simp)⟩
  |x1 =>
   have h1:=b2.1 rfl;obtain⟨r2,c1,c2⟩:=Xqe hl hn (Xr0 h0) FU g.Ops 0 rfl (Nat.zero_le _) (by unfold FU;omega);simp only[Yo];rw[c1]
   cases r2 with
   |x0=>exact⟨false,rfl,λh=>(by cases h),λh=>absurd (c2.2 λi o _=>h.2.2 i o) (by simp)⟩
   |x1=>exact⟨true,rfl,λ_=>⟨h0,λi c=>h1 i c (Nat.zero_le _),λi o=>c2.1 rfl i o (Nat.zero_le _)⟩,λ_=>rfl⟩
def Lx (d c:Xk):Prop:=d.From<c.From\/d.From=c.From/\d.Out<c.Out
theorem Xz2 {k:Nat} {b x:Xk} (hk:0<k):jB2 k b x=false↔Lx b x:=by
 unfold jB2 Lx;rw[Yt (show(k:Int)>0 by omega),cond_true];by_cases a1:b.From>x.From<;>by_cases a2:b.From=x.From<;>by_cases a3:b.Out >= x.Out<;>simp[a1,a2,a3]<;>omega
theorem X054 {l:List Xk} (h:∀ j c,l[j]?=some c->jB2 j (l[j - 1]?.getD default) c=false):∀ (i j:Nat) (c d:Xk),j<i->l[i]?=some c->l[j]?=some d->Lx d c
 |0,_,_,_,hj,_,_=>by omega
 |i+1,j,c,d,hj,hc,hd=>by
  have hlt:i<l.length:=by obtain⟨h1,_⟩:=Ys.1 hc;omega
  have he:l[i]?=some l[i]:=Ye hlt;have h1:=(Xz2 om).1 (h (i+1) c hc);rw[Nat.add_sub_cancel,he] at h1;simp only[Option.getD_some] at h1;by_cases hji:j=i
  ·subst hji;rw[he] at hd;cases hd;exact h1
  ·have h2:=X054 h i j l[i] d om he hd;unfold Lx at *;omega
def Xp8 (key val:Xk->Int) (l:List Xk) (t:Nat):List Int:=(l.filter λc=>decide (key c=(t:Int))).map val
theorem Xik {key val:Xk->Int} {l:List Xk} {t:Nat} {x:Int}:x∈Xp8 key val l t↔∃ c∈l,key c=(t:Int)/\val c=x:=by
 unfold Xp8;simp only[List.mem_map,List.mem_filter,decide_eq_true_eq];constructor
 ·rintro⟨c,⟨h1,h2⟩,h3⟩;exact⟨c,h1,h2,h3⟩
 ·rintro⟨c,h1,h2,h3⟩;exact⟨c,⟨h1,h2⟩,h3⟩
theorem Xde {key val:Xk->Int} {t:Nat}:∀ {l:List Xk},(Xp8 key val l t).Nodup↔∀ (j i:Nat) (d c:Xk),j<i->l[j]?=some d->l[i]?=some c->key d=(t:Int)->key c=(t:Int)->val d≠val c
 |[]=>by simp[Xp8]
 |x::l=>by
  have ih:=Xde (key:=key) (val:=val) (t:=t) (l:=l);have hsplit:Xp8 key val (x::l) t=(if key x=(t:Int) then [val x] else [])++Xp8 key val l t:=by
   unfold Xp8;by_cases h:key x=(t:Int)
   ·rw[List.filter_cons_of_pos (by simp[h]),if_pos h];rfl
   ·rw[List.filter_cons_of_neg (by simp[h]),if_neg h];rfl
  rw[hsplit];constructor
  ·intro h j i d c hj hd hc kd kc
   cases i with
   |zero=>omega
   |succ i =>
    simp only[List.getElem?_cons_succ] at hc
    cases j with
    |zero =>
     simp only[List.getElem?_cons_zero,Option.some.injEq] at hd;subst hd;rw[if_pos kd] at h;exact λe=>(List.nodup_cons.1 h).1 (Xik.2 ⟨c,Yg hc,kc,e.symm⟩)
    |succ j =>
     simp only[List.getElem?_cons_succ] at hd;have h':(Xp8 key val l t).Nodup:=(List.nodup_append.1 h).2.1;exact ih.1 h' j i d c om hd hc kd kc
  ·intro h;have h':(Xp8 key val l t).Nodup:=ih.2 λj i d c hj hd hc=>h (j+1) (i+1) d c om (by simpa using hd) (by simpa using hc);by_cases hx:key x=(t:Int)
   ·rw[if_pos hx];refine List.nodup_cons.2 ⟨λhm=>?_,h'⟩;obtain⟨c,hc,kc,e⟩:=Xik.1 hm;obtain⟨i,hi⟩:=List.getElem?_of_mem hc;exact h 0 (i+1) x c om rfl (by simpa using hi) hx kc e.symm
   ·rw[if_neg hx];exact h'
theorem Xdz {l:List Int} {lo hi:Int}:X7q l lo hi=true↔(l.Nodup/\∀ x∈l,0<=x/\x<l.length)/\lo<=l.length/\(l.length:Int)<=hi:=by
 rw[<-Xv8];unfold X7q
 cases X91 (X2f l) 0 with
 |false=>simp
 |true=>by_cases h:(l.length:Int) >= lo<;>simp[h]<;>omega
def GJ (g:Xt):Prop:=(∀ c∈g.Channels,jB1 g.Ops.length c=false)/\(∀ (j:Nat) (c:Xk),g.Channels[j]?=some c->jB2 j (g.Channels[j - 1]?.getD default) c=false)/\∀ (i:Nat) (o:GOp),g.Ops[i]?=some o->Xi6 o (Xcm g.Channels i) (X6q g.Channels i)=some true
theorem Xxz (n i:Nat):((List.replicate n ([]:List Int))[i]?).getD []=[]:=by
 rw[List.getElem?_replicate];split<;>rfl
theorem X03p {g:Xt} (hl:g.Channels.length<=1000) (hn:g.Ops.length<=1000):∃ b,X83 g=some b/\(b=true↔GJ g):=by
 unfold X83;rw[Yt hn,Yt hl,Bool.and_self,cond_true]
 cases hj:Xar (List.length g.Ops) g.Channels g.Channels 0 (List.replicate (List.length g.Ops) []) (List.replicate (List.length g.Ops) []) with
 |none =>
  refine⟨false,rfl,λh=>(by cases h),λh=>?_⟩;rcases Xm9 g.Channels 0 _ _ rfl hj with ⟨c,hc,hb⟩|⟨j,c,_,hc,hb⟩
  ·rw[h.1 c hc] at hb;cases hb
  ·rw[h.2.1 j c hc] at hb;cases hb
 |some p =>
  obtain⟨a1,a2,a3,a4,a5,a6⟩:=Xm8 g.Channels 0 _ _ p rfl (by simp) (by simp) hj;obtain⟨b,hb⟩:=Xhx g.Ops p.1 p.2;refine⟨b,hb,?_⟩;have h5:∀ i,p.1[i]?.getD []=Xcm g.Channels i:=λi=>by rw[a5,Xxz];rfl
  have h6:∀ i,p.2[i]?.getD []=X6q g.Channels i:=λi=>by rw[a6,Xxz];rfl
  have ht:=Xhw g.Ops p.1 p.2;rw[hb] at ht;simp only[h5,h6,Option.some.injEq] at ht;rw[ht];exact⟨λh=>⟨a1,λj c hc=>a2 j c (Nat.zero_le _) hc,h⟩,λh=>h.2.2⟩
theorem Xz0 {g:Xt} {L:List GOp}:∀ (l:List GOp) (k:Nat),∃ r,X4m g L l k=some r/\(r=.x0↔∀ o∈l,(1<=o.Kind/\o.Kind<=7)/\0<=o.N/\o.N<=3)
 |[],k=>⟨.x0,rfl,λ_ o ho=>absurd ho List.not_mem_nil,λ_=>rfl⟩
 |x::xs,k=>by
  obtain⟨r,h1,h2⟩:=Xz0 (g:=g) (L:=L) xs (k+1);rw[X4m];by_cases hx:(1<=x.Kind/\x.Kind<=7)/\0<=x.N/\x.N<=3
  ·refine⟨r,?_,?_⟩
   ·rw[Yf om,Yf om,Yf om,Yf om];exact h1
   ·rw[h2];constructor
    ·intro h o ho;rcases List.mem_cons.1 ho with rfl|ho
     ·exact hx
     ·exact h o ho
    ·intro h o ho;exact h o (List.mem_cons_of_mem _ ho)
  ·refine⟨.x1,?_,λh=>(by cases h),λh=>absurd (h x (by simp)) hx⟩;by_cases b1:x.Kind<1
   ·simp[b1]
   by_cases b2:x.Kind>7
   ·simp[b1,b2]
   by_cases b3:x.N<0
   ·simp[b1,b2,b3]
   by_cases b4:x.N>3
   ·simp[b1,b2,b3,b4]
   ·exact absurd ⟨⟨by omega,by omega⟩,by omega,by omega⟩ hx
end Go.D


namespace Go.D
open Go.Av
theorem Xjl {o:GOp} {a b:List Int} {q:V2 Int×V2 Int} (hq:X19 o.Kind=some q):Xi6 o a b=some true↔X7q a q.1.e0 q.1.e1=true/\X7q b q.2.e0 q.2.e1=true:=by
 unfold Xi6;rw[hq];simp
theorem X0bf {g:Xt} (hi:GIn g) {i j:Int} (h:TC (Xeu g) i j):0<=j/\j<g.Ops.length:=by
 have key:∀ {f t:Int},(f,t)∈Xeu g->0<=t/\t<g.Ops.length:=by
  intro f t hm;obtain⟨c,hc,e⟩:=List.mem_map.1 hm;cases e
  exact(hi c hc).2.2
 cases h with
 |one h=>exact key h
 |step _ h=>exact key h
theorem X09u {g:Xt}:(GJ g/\(∀ o∈g.Ops,(1<=o.Kind/\o.Kind<=7)/\0<=o.N/\o.N<=3)/\∀ i,¬ TC (Xeu g) i i)↔GOk g:=by
 constructor
 ·rintro⟨⟨j1,j2,j3⟩,hk,ht⟩;have hin:=Xr0 j1;have hop:∀ t:Int,0<=t->t<g.Ops.length->∃ q:V2 Int×V2 Int,X7q (Xcm g.Channels t.toNat) q.1.e0 q.1.e1=true/\X7q (X6q g.Channels t.toNat) q.2.e0 q.2.e1=true:=by
   intro t h1 h2;have he:g.Ops[t.toNat]?=some g.Ops[t.toNat]:=Ye om;obtain⟨q,hq⟩:=Xci g.Ops[t.toNat].Kind;exact⟨q,(Xjl hq).1 (j3 _ _ he)⟩
  refine⟨j1,λi c hc=>?_,λi o ho=>?_⟩
  ·have hm:=Yg hc;obtain⟨b1,b2,b3,b4⟩:=hin c hm;obtain⟨q,e1,_⟩:=hop c.To b3 b4;obtain⟨q',_,e2⟩:=hop c.From b1 b2;have n1:=(Xdz.1 e1).1;have n2:=(Xdz.1 e2).1;refine⟨λj d hj hd=>⟨X054 j2 i j c d hj hc hd,λ⟨h1,h2⟩=>?_⟩,n2.2 c.Out (Xik.2 ⟨c,hm,by omega,rfl⟩),n1.2 c.In (Xik.2 ⟨c,hm,by omega,rfl⟩)⟩;exact(Xde (key:=(·.To)) (val:=(·.In))).1 n1.1 j i d c hj hd hc (show d.To=_ by omega) (show c.To=_ by omega) h2
  ·obtain⟨q,hq⟩:=Xci o.Kind;obtain⟨e1,e2⟩:=(Xjl hq).1 (j3 i o ho);have k:=hk o (Yg ho);refine⟨k.2,⟨k.1.1,k.1.2,λq' hq'=>?_⟩,ht _⟩;rw[hq] at hq';cases hq';exact⟨(Xdz.1 e1).2,(Xdz.1 e2).2⟩
 ·rintro⟨h1,h2,h3⟩;have hin:=Xr0 h1;refine⟨⟨h1,λj c hc=>?_,λi o ho=>?_⟩,λo ho=>?_,λi hi=>?_⟩
  ·cases j with
   |zero=>rfl
   |succ j =>
    have hlt:j<g.Channels.length:=by obtain⟨h,_⟩:=Ys.1 hc;omega
    have he:g.Channels[j]?=some g.Channels[j]:=Ye hlt;rw[Xz2 om,Nat.add_sub_cancel,he];exact((h2 (j+1) c hc).1 j _ om he).1
  ·obtain⟨q,hq⟩:=Xci o.Kind;obtain⟨_,⟨_,_,m⟩,_⟩:=h3 i o ho;obtain⟨m1,m2⟩:=m q hq;refine(Xjl hq).2 ⟨Xdz.2 ⟨⟨?_,?_⟩,m1⟩,Xdz.2 ⟨⟨?_,?_⟩,m2⟩⟩
   ·refine(Xde (key:=(·.To)) (val:=(·.In))).2 λj k d c hj hd hc kd kc e=>?_;exact((h2 k c hc).1 j d hj hd).2 ⟨kd.trans kc.symm,e⟩
   ·intro x hx;obtain⟨c,hc,kc,rfl⟩:=(Xik (key:=(·.To)) (val:=(·.In))).1 hx;obtain⟨k,hk⟩:=List.getElem?_of_mem hc;have:=(h2 k c hk).2.2;rw[show c.To=(i:Int) from kc,Int.toNat_natCast] at this;exact this
   ·refine(Xde (key:=(·.From)) (val:=(·.Out))).2 λj k d c hj hd hc kd kc e=>?_;have:=((h2 k c hc).1 j d hj hd).1;have kd':d.From=(i:Int):=kd;have kc':c.From=(i:Int):=kc;have e':d.Out=c.Out:=e;unfold Lx at this;omega
   ·intro x hx;obtain⟨c,hc,kc,rfl⟩:=(Xik (key:=(·.From)) (val:=(·.Out))).1 hx;obtain⟨k,hk⟩:=List.getElem?_of_mem hc;have:=(h2 k c hk).2.1;rw[show c.From=(i:Int) from kc,Int.toNat_natCast] at this;exact this
  ·obtain⟨i,hi⟩:=List.getElem?_of_mem ho;obtain⟨n,m,_⟩:=h3 i o hi;exact⟨⟨m.1,m.2.1⟩,n⟩
  ·obtain⟨a,b⟩:=X0bf hin hi;have he:g.Ops[i.toNat]?=some g.Ops[i.toNat]:=Ye om;have:=(h3 _ _ he).2.2;rw[Int.toNat_of_nonneg a] at this;exact this hi
theorem X06k {g:Xt} (hl:g.Channels.length<=1000) (hn:g.Ops.length<=900) (hi:GIn g):∃ o,Xcd g=some o/\(o.length=g.Ops.length↔∀ i,¬ TC (Xeu g) i i):=by
 obtain⟨o,h1,h2⟩:=X03f (n:=g.Ops.length) (cs:=Xeu g) (by unfold Xeu;rw[List.length_map];exact hl) hn (λc hc=>by
  obtain⟨d,hd,rfl⟩:=List.mem_map.1 hc
  exact hi d hd)
 refine⟨o,?_,h2⟩;unfold Xcd X06l;have hg:(g.Channels.all λc=>decide (0<=c.To))=true:=List.all_eq_true.2 λc hc=>Yt (hi c hc).2.2.1;have l1:X4k g.Ops.length=some ():=if_pos om;have l2:X4k g.Channels.length=some ():=if_pos om;rw[l1,l2,hg];exact h1
theorem Xzx (g:Xt):∃ e,Xce g=some e/\X7m g=some e:=by
 unfold Xce X7m;by_cases h1:(List.length g.Ops:Int)>20
 ·exact⟨4,by simp[h1],by simp[h1]⟩
 by_cases h2:(List.length g.Channels:Int)>100
 ·exact⟨4,by simp[h1,h2],by simp[h1,h2]⟩
 have hl:g.Channels.length<=1000:=by omega
 have hn:g.Ops.length<=900:=by omega
 obtain⟨b,v1,v2⟩:=Xx0 hl (by omega:g.Ops.length<=1000);obtain⟨r,k1,k2⟩:=Xz0 (g:=g) (L:=g.Ops) g.Ops 0;obtain⟨j,j1,j2⟩:=X03p hl (by omega:g.Ops.length<=1000);have l1:X4k g.Ops.length=some ():=if_pos om;simp only[Yf h1,Yf h2,cond_false,Yo,l1,k1,j1,v1];have hok:=X09u (g:=g);have hb:b=true->GJ g/\(∀ o∈g.Ops,(1<=o.Kind/\o.Kind<=7)/\0<=o.N/\o.N<=3)/\∀ i,¬ TC (Xeu g) i i:=λh=>hok.2 (v2.1 h)
 cases r with
 |x1 =>
  have:b=false:=by cases b with
   |false=>rfl
   |true=>exact absurd (k2.2 (hb rfl).2.1) (by simp)
  subst this;exact⟨8,rfl,rfl⟩
 |x0 =>
  cases j with
  |false =>
   have:b=false:=by cases b with
    |false=>rfl
    |true=>exact absurd (j2.2 (hb rfl).1) (by simp)
   subst this;exact⟨8,rfl,rfl⟩
  |true =>
   have hj:=j2.1 rfl;obtain⟨o,o1,o2⟩:=X06k hl hn (Xr0 hj.1);simp only[o1,Yo,Bool.not_true,cond_false];by_cases ho:o.length=g.Ops.length
   ·have:b=true:=v2.2 (hok.1 ⟨hj,k2.1 rfl,o2.1 ho⟩);subst this;exact⟨0,by simp[ho],rfl⟩
   ·have:b=false:=by cases b with
     |false=>rfl
     |true=>exact absurd (o2.2 (hb rfl).2.2) ho
    subst this;have hne:((o.length:Int) != (g.Ops.length:Int))=true:=bne_iff_ne.2 om;exact⟨8,by rw[hne];rfl,rfl⟩
end Go.D


namespace Go.D
open Go.Av
def TB (t:Xv):Prop:=t.Pending.length<=4010/\t.Rows.length<=4010/\t.Late.length<=4010/\t.Store.length<=100/\t.Events.length<=100/\t.Marks.length<=20
structure MB (m:Xf):Prop where
 ops:m.Graph.Ops.length<=30
 chs:m.Graph.Channels.length<=60
 tasks:m.Tasks.length<=30
 queues:m.Queues.length<=60
 t:∀ t∈m.Tasks,TB t
 q:∀ q∈m.Queues,q.List.length<=20
theorem X6d {α:Type} {l:List α} {k:Nat} (h:k<l.length):∃ x,l[k]?=some x/\l.drop k=x::l.drop (k+1)/\x∈l:=⟨l[k],Ye h,List.drop_eq_getElem_cons h,List.getElem_mem h⟩
theorem Xsc {k n:Nat}:decide ((k:Int)<(n:Int))=decide (k<n):=by simp
theorem Xvr {m:Xf} (hl:m.Tasks.length<=30):∀ (n k:Nat),m.Tasks.length - k<n->k<=m.Tasks.length->∃ o,X44 m n (k:Int)=some o/\(o=.x1->∀ t∈m.Tasks.drop k,TB t):=by
 intro n
 induction n with
 |zero=>intro k h;omega
 |succ n ih =>
  intro k h hk;rw[X44,Xsc];by_cases hlt:k<m.Tasks.length
  ·obtain⟨t,e1,e2,_⟩:=X6d hlt;obtain⟨b,g1,g2⟩:=Xvs t;rw[Yt hlt,cond_true,X5l e1,Yo,g1,Yo]
   cases b with
   |true=>exact⟨_,rfl,λh=>by cases h⟩
   |false =>
    rw[cond_false,X5e om];obtain⟨o,i1,i2⟩:=ih (k+1) om om;exact⟨o,i1,λho x hx=>by rw[e2] at hx;exact(List.mem_cons.1 hx).elim (λe=>e▸g2 rfl) (i2 ho x)⟩
  ·rw[Yf hlt,cond_false];exact⟨_,rfl,λ_ x hx=>by rw[List.drop_eq_nil_of_le om] at hx;cases hx⟩
theorem Xvq {m:Xf} (hl:m.Queues.length<=60):∀ (n k:Nat),m.Queues.length - k<n->k<=m.Queues.length->∃ o,X43 m n (k:Int)=some o/\(o=.x1->∀ q∈m.Queues.drop k,q.List.length<=20):=by
 intro n
 induction n with
 |zero=>intro k h;omega
 |succ n ih =>
  intro k h hk;rw[X43,Xsc];by_cases hlt:k<m.Queues.length
  ·obtain⟨t,e1,e2,_⟩:=X6d hlt;rw[Yt hlt,cond_true,X5l e1,Yo];unfold Xe9;rw[Yo];by_cases hb:(List.length t.List:Int)>20
   ·rw[Yt hb];exact⟨_,rfl,λh=>by cases h⟩
   ·rw[Yf hb,cond_false,X5e om];obtain⟨o,i1,i2⟩:=ih (k+1) om om;exact⟨o,i1,λho x hx=>by rw[e2] at hx;exact(List.mem_cons.1 hx).elim (λe=>by subst e;omega) (i2 ho x)⟩
  ·rw[Yf hlt,cond_false];exact⟨_,rfl,λ_ x hx=>by rw[List.drop_eq_nil_of_le om] at hx;cases hx⟩
theorem X086 (m:Xf):∃ b,Xbw m=some b/\(b=false->MB m):=by
 unfold Xbw;by_cases a1:(List.length m.Graph.Ops:Int)>30
 ·exact⟨true,by simp only[Yt a1,cond_true,Yo],by simp⟩
 by_cases a2:(List.length m.Graph.Channels:Int)>60
 ·exact⟨true,by simp only[Yf a1,Yt a2,cond_true,cond_false,Yo],by simp⟩
 by_cases a3:(List.length m.Tasks:Int)>30
 ·exact⟨true,by simp only[Yf a1,Yf a2,Yt a3,cond_true,cond_false,Yo],by simp⟩
 by_cases a4:(List.length m.Queues:Int)>60
 ·exact⟨true,by simp only[Yf a1,Yf a2,Yf a3,Yt a4,cond_true,cond_false,Yo],by simp⟩
 simp only[Yf a1,Yf a2,Yf a3,Yf a4,cond_false];obtain⟨o,g1,g2⟩:=Xvr (m:=m) om FU 0 (by unfold FU;omega) (Nat.zero_le _);obtain⟨p,q1,q2⟩:=Xvq (m:=m) om FU 0 (by unfold FU;omega) (Nat.zero_le _);rw[show((0:Nat):Int)=0 from rfl] at g1 q1;have key:∀ c:Bool,∃ b,((some c:Option Bool).bind λj=>bif j then some true else ((X44 m FU 0).bind λo35=>match o35 with|.x0=>(some true)|.x1=>((X43 m FU 0).bind λo56=>match o56 with|.x0=>(some true)|.x1=>(some false))))=some b/\(b=false->MB m):=by
  intro c
  cases c with
  |true=>exact⟨true,rfl,by simp⟩
  |false =>
   simp only[Yo,cond_false];rw[g1,q1]
   cases o with
   |x0=>exact⟨true,rfl,by simp⟩
   |x1 =>
    cases p with
    |x0=>exact⟨true,rfl,by simp⟩
    |x1=>exact⟨false,rfl,λ_=>⟨by omega,by omega,by omega,by omega,λt ht=>g2 rfl t (by simpa using ht),λt ht=>q2 rfl t (by simpa using ht)⟩⟩
 generalize decide ((List.length m.Query.Arg:Int)>100)=x;generalize decide ((List.length m.Query.Where:Int)>100)=y;generalize decide ((List.length m.Query.Sources:Int)>20)=z;cases x<;>cases y<;>exact key _
theorem X09k {t:Xv} (h:TB t):Xdl t=some t:=by
 obtain⟨h1,h2,h3,h4,h5,h6⟩:=h;unfold Xdl;have c1:=λb (hb:b<=1000)=>X4u (n:=t.Pending.length) (b:=b) (Nat.le_trans (Nat.mul_le_mul h1 hb) (by decide));have c2:=λb (hb:b<=1000)=>X4u (n:=t.Rows.length) (b:=b) (Nat.le_trans (Nat.mul_le_mul h2 hb) (by decide));have c3:=λb (hb:b<=1000)=>X4u (n:=t.Late.length) (b:=b) (Nat.le_trans (Nat.mul_le_mul h3 hb) (by decide));have c4:=λb (hb:b<=1000)=>X4u (n:=t.Store.length) (b:=b) (Nat.le_trans (Nat.mul_le_mul h4 hb) (by decide));have c5:=λb (hb:b<=1000)=>X4u (n:=t.Events.length) (b:=b) (Nat.le_trans (Nat.mul_le_mul h5 hb) (by decide));have c6:=λb (hb:b<=1000)=>X4u (n:=t.Marks.length) (b:=b) (Nat.le_trans (Nat.mul_le_mul h6 hb) (by decide));simp(discharger:=decide) only[c1,c2,c3,c4,c5,c6,Yo,Bool.cond_self]
theorem X09l {q:X0e} (h:q.List.length<=20):Xdn q=some q:=by
 unfold Xdn;rw[X4u om,Yo,Bool.cond_self]
theorem Xut (Y:List X0e):∀ (xs:List X0e) (k:Nat) (y:List X0e),(∀ q∈xs,q.List.length<=20)->y.length+xs.length<=1000->X2b Y xs k y=some (.x0 (y++xs)):=by
 intro xs
 induction xs with
 |nil=>intro k y _ _;rw[X2b,List.append_nil]
 |cons x xs ih =>
  intro k y h hl;simp only[List.length_cons] at hl;rw[X2b,X09l (h x List.mem_cons_self),Yo,X4u (by simp;omega),Yo,ih _ _ (λq hq=>h q (List.mem_cons_of_mem _ hq)) (by simp;omega)];simp
theorem Xx1 {m M:Xf} (hm:MB m):∀ (n k:Nat),m.Tasks.length - k<n->k<=m.Tasks.length->X6j m M n (m.Tasks.take k) (k:Int)=some (.x0 m.Tasks):=by
 intro n
 induction n with
 |zero=>intro k h;omega
 |succ n ih =>
  intro k h hk;have hlen:=hm.tasks;rw[X6j,Xsc];by_cases hlt:k<m.Tasks.length
  ·obtain⟨t,e1,e2,hmem⟩:=X6d hlt;have e3:m.Tasks.take k++[t]=m.Tasks.take (k+1):=by rw[List.take_add_one,e1];rfl
   rw[Yt hlt,cond_true,X5l e1,Yo,X09k (hm.t t hmem),Yo,e3,X4u (by simp;omega),Yo,X5e om];exact ih (k+1) om om
  ·rw[Yf hlt,cond_false,List.take_of_length_le om]
theorem X09j {m:Xf} (hm:MB m):Xdh m=some m:=by
 have hlen:=hm.tasks;have hq:=hm.queues;unfold Xdh;have:=Xx1 (M:=(Xf.mk (X1t.mk 0 ([]:List X02) ([]:List Int) false ([]:List X02) (X5v.mk 0 0 0) false 0) (Xt.mk ([]:List GOp) ([]:List Xk)) ([]:List Xv) ([]:List X0e))) hm FU 0 (by unfold FU;omega) (Nat.zero_le _);rw[List.take_zero,show((0:Nat):Int)=0 from rfl] at this;rw[this];simp only[Yo];unfold Xav;rw[X24 om,Yo,Xut _ _ _ _ hm.q (by simp;omega)];rfl
def qOK (q:X0e):Bool:=decide (1<=q.Room)&&decide (q.Room<=8)&&decide ((q.List.length:Int)<=q.Room)&&q.List.all mOK
theorem X08q (Y:List Xo):∀ (xs:List Xo) (k:Nat),∃ o,X2e Y xs k=some o/\(o=.x0/\xs.all mOK=true\/o=.x1 8/\xs.all mOK=false):=by
 intro xs
 induction xs with
 |nil=>intro k;exact⟨.x0,by rw[X2e],.inl ⟨rfl,rfl⟩⟩
 |cons x xs ih =>
  intro k;rw[X2e,X5j,Yo]
  cases hx:mOK x with
  |true =>
   obtain⟨o,h1,h2⟩:=ih (k+1);exact⟨o,h1,by simpa[hx] using h2⟩
  |false=>exact⟨.x1 8,rfl,.inr ⟨rfl,by simp[hx]⟩⟩
theorem X00k {q:X0e} (hl:q.List.length<=1000):∀ (n k:Nat),q.List.length - k<n->k<=q.List.length->X5q q n (k:Int)=some (if (q.List.drop k).all mOK then .x1 else .x0):=by
 intro n
 induction n with
 |zero=>intro k h;omega
 |succ n ih =>
  intro k h hk;rw[X5q,Xsc];by_cases hlt:k<q.List.length
  ·obtain⟨t,e1,e2,_⟩:=X6d hlt;rw[Yt hlt,cond_true,X5l e1,Yo,Xo1,Yo,e2,List.all_cons]
   cases ht:mOK t with
   |false=>rfl
   |true=>rw[Bool.not_true,cond_false,X5e om,ih (k+1) om om,Bool.true_and]
  ·rw[Yf hlt,cond_false,List.drop_eq_nil_of_le om];rfl
theorem X08p {q:X0e} (hl:q.List.length<=1000):X6p q=some (if qOK q then 0 else 8)/\X9p q=some (if qOK q then 0 else 8):=by
 unfold X6p X9p qOK;by_cases h1:q.Room<1
 ·simp only[Yt h1,Yf (show ¬ 1<=q.Room by omega),cond_true,Yo,Bool.false_and];exact⟨rfl,rfl⟩
 by_cases h2:q.Room>8
 ·simp only[Yf h1,Yt h2,Yf (show ¬ q.Room<=8 by omega),cond_true,cond_false,Yo,Bool.and_false,Bool.false_and];exact⟨rfl,rfl⟩
 by_cases h3:(List.length q.List:Int)>q.Room
 ·simp only[Yf h1,Yf h2,Yt h3,Yf (show ¬ (List.length q.List:Int)<=q.Room by omega),cond_true,cond_false,Yo,Bool.and_false,Bool.false_and];exact⟨rfl,rfl⟩
 simp only[Yf h1,Yf h2,Yf h3,Yt (show 1<=q.Room by omega),Yt (show q.Room<=8 by omega),Yt (show(List.length q.List:Int)<=q.Room by omega),cond_false,Yo,Bool.true_and];obtain⟨o,c1,c2⟩:=X08q q.List q.List 0;have r:=X00k (q:=q) hl FU 0 (by unfold FU;omega) (Nat.zero_le _);rw[show((0:Nat):Int)=0 from rfl,List.drop_zero] at r;rw[X24 om,Yo,c1,r];rcases c2 with ⟨rfl,h⟩|⟨rfl,h⟩<;>rw[h]<;>exact⟨rfl,rfl⟩
end Go.D


namespace Go.D
open Go.Av
theorem X0aj {g:Xt} (h:X7m g=some 0):GOk g/\g.Ops.length<=20/\g.Channels.length<=100:=by
 unfold X7m at h;by_cases h1:(List.length g.Ops:Int)>20
 ·simp[h1] at h
 by_cases h2:(List.length g.Channels:Int)>100
 ·simp[h1,h2] at h
 obtain⟨b,v1,v2⟩:=Xx0 (g:=g) om om;simp only[Yf h1,Yf h2,cond_false,Yo,v1] at h
 cases b with
 |false=>simp at h
 |true=>exact⟨v2.1 rfl,by omega,by omega⟩
theorem Xoj {α:Type} [Inhabited α] (p:α->Bool) (key:α->Int) (L:List α):∀ (xs:List α) (k:Nat),L.drop k=xs->(X4l p xs k).map (λi=>key (L[i.toNat]?.getD default))=(xs.filter p).map key:=by
 intro xs
 induction xs with
 |nil=>intro k _;rfl
 |cons x xs ih =>
  intro k h;have hk:k<L.length:=by
   rcases Nat.lt_or_ge k L.length with h1|h1
   ·exact h1
   ·rw[List.drop_eq_nil_of_le h1] at h;cases h
  rw[List.drop_eq_getElem_cons hk] at h;have hx:L[k]?=some x:=by rw[Ye hk];exact congrArg some (List.cons.inj h).1
  rw[X4l,List.filter_cons]
  cases hp:p x with
  |false=>rw[cond_false];exact ih (k+1) (List.cons.inj h).2
  |true=>rw[cond_true,if_pos rfl,List.map_cons,List.map_cons,ih (k+1) (List.cons.inj h).2,Int.toNat_natCast,hx];rfl
theorem Xjx {α:Type} (p:α->Bool):∀ (xs:List α) (k:Nat),(X4l p xs k).length=(xs.filter p).length:=by
 intro xs
 induction xs with
 |nil=>intro k;rfl
 |cons x xs ih =>
  intro k;rw[X4l,List.filter_cons]
  cases hp:p x with
  |false=>rw[cond_false];exact ih (k+1)
  |true=>rw[cond_true,if_pos rfl,List.length_cons,List.length_cons,ih]
theorem Xq1 (f:Xk->Int) (i:Int):(λc=>f c==i)=λc=>decide (f c=i):=by
 funext c
 by_cases h:f c=i
 ·simp[h]
 ·simp[h]
theorem Xzp {g:Xt} (hg:GOk g) (i:Nat):(Xcm g.Channels i).Nodup:=by
 refine(Xde (key:=(·.To)) (val:=(·.In)) (t:=i) (l:=g.Channels)).2 λj k d c hjk hd hc h1 h2 h3=>?_;have:=((hg.2.1 k c hc).1 j d hjk hd).2;exact this ⟨by rw[h1,h2],h3⟩
theorem Xva {g:Xt} (hg:GOk g) (i:Nat):(X6q g.Channels i).Nodup:=by
 refine(Xde (key:=(·.From)) (val:=(·.Out)) (t:=i) (l:=g.Channels)).2 λj k d c hjk hd hc h1 h2 h3=>?_;have:=((hg.2.1 k c hc).1 j d hjk hd).1;have h1:d.From=i:=h1;have h2:c.From=i:=h2;have h3:d.Out=c.Out:=h3;omega
theorem X040 {g:Xt} (hg:GOk g) (hl:g.Channels.length<=100) (i:Nat):∃ l,Xbq g (i:Int)=some l/\l.length=(Xcm g.Channels i).length:=by
 unfold Xbq;have hk:=Xoj (λc:Xk=>decide (c.To=(i:Int))) (·.In) g.Channels g.Channels 0 rfl;have he:Xrq g=λz=>(g.Channels[z.toNat]?.getD default).In:=rfl;rw[Yt om,cond_true,Xq1 (·.To),he,hk];have:((List.filter (λc=>decide (c.To=(i:Int))) g.Channels).map λx=>x.In)=Xcm g.Channels i:=rfl;rw[this,Yt (Xzp hg i),cond_true];exact⟨_,rfl,by rw[X3f,Xjx];unfold Xcm;rw[List.length_map]⟩
theorem Xyd {g:Xt} (hg:GOk g) (hl:g.Channels.length<=100) (i:Nat):∃ l,Xab g (i:Int)=some l/\l.length=(X6q g.Channels i).length:=by
 unfold Xab;have hk:=Xoj (λc:Xk=>decide (c.From=(i:Int))) (·.Out) g.Channels g.Channels 0 rfl;have he:Xge g=λz=>(g.Channels[z.toNat]?.getD default).Out:=rfl;rw[Yt om,cond_true,Xq1 (·.From),he,hk];have:((List.filter (λc=>decide (c.From=(i:Int))) g.Channels).map λx=>x.Out)=X6q g.Channels i:=rfl;rw[this,Yt (Xva hg i),cond_true];exact⟨_,rfl,by rw[X3f,Xjx];unfold X6q;rw[List.length_map]⟩
def Xto (op:Int) (a:Bool) (c:Xk):Bool:=bif a then c.To==op else c.From==op
def Xm5 (a:Bool) (c:Xk):Int:=bif a then c.In else c.Out
theorem pJ (op p:Int) (a:Bool) (c:Xk):(bif (bif (bif a then (c.To==op) else false) then (c.In==p) else false) then true else (bif (bif (!a) then (c.From==op) else false) then (c.Out==p) else false))=(Xto op a c&&Xm5 a c==p):=by
 cases a<;>simp only[Xto,Xm5,cond_true,cond_false,Bool.not_true,Bool.not_false]
 ·cases(c.From==op)<;>rfl
 ·cases(c.To==op)<;>cases(c.In==p)<;>rfl
theorem Xm6 {g:Xt} (hl:g.Channels.length<=100) (op p:Int) (a:Bool):∀ (n k:Nat) (y:List Int),g.Channels.length - k<n->k<=g.Channels.length->y.length+(g.Channels.length - k)<=100000 ->
  ∃ y',X4q op a g p n y (k:Int)=some (.x0 y')/\y'.length=y.length+((g.Channels.drop k).filter λc=>Xto op a c&&Xm5 a c==p).length:=by
 intro n
 induction n with
 |zero=>intro k y h;omega
 |succ n ih =>
  intro k y h hk hy;rw[X4q,Xsc];by_cases hlt:k<g.Channels.length
  ·obtain⟨c,e1,e2,_⟩:=X6d hlt;rw[Yt hlt,cond_true,X5l e1,Yo,pJ,e2,List.filter_cons,X5e om]
   cases hc:(Xto op a c&&Xm5 a c==p) with
   |true =>
    rw[cond_true,X4u (by simp;omega),Yo,Yo];obtain⟨y',h1,h2⟩:=ih (k+1) (y++[(k:Int)]) om om (by simp;omega);exact⟨y',h1,by rw[h2];simp;omega⟩
   |false =>
    rw[cond_false,Yo];obtain⟨y',h1,h2⟩:=ih (k+1) y om om om;exact⟨y',h1,by rw[h2];simp⟩
  ·rw[Yf hlt,cond_false,List.drop_eq_nil_of_le om];exact⟨y,rfl,rfl⟩
theorem Xra (op:Int) (a:Bool) (p:Int):∀ l:List Xk,(l.filter λc=>Xto op a c&&(decide (p<=Xm5 a c)&&decide (Xm5 a c<20))).length=(if p<20 then (l.filter λc=>Xto op a c&&Xm5 a c==p).length else 0)+(l.filter λc=>Xto op a c&&(decide (p+1<=Xm5 a c)&&decide (Xm5 a c<20))).length:=by
 intro l
 induction l with
 |nil=>simp
 |cons c l ih =>
  simp only[List.filter_cons]
  cases hs:Xto op a c with
  |false=>simpa using ih
  |true =>
   simp only[Bool.true_and];by_cases h1:Xm5 a c=p
   ·by_cases h2:p<20
    ·simp only[if_pos h2] at ih ⊢;simp only[h1,beq_self_eq_true,if_pos,Yt (Int.le_refl p),Yt h2,Bool.and_self,Yf (show ¬ p+1<=p by omega),Bool.false_and,List.length_cons];simp only[Bool.false_eq_true,if_false];omega
    ·simp only[if_neg h2] at ih ⊢;simp only[h1,Yf h2,Bool.and_false,Bool.false_eq_true,if_false];exact ih
   ·have e1:(Xm5 a c==p)=false:=by simpa using h1
    have e2:decide (p<=Xm5 a c)=decide (p+1<=Xm5 a c):=by by_cases h:p+1<=Xm5 a c<;>simp<;>omega
    rw[e1,e2];simp only[Bool.false_eq_true,if_false]
    cases hd:(decide (p+1<=Xm5 a c)&&decide (Xm5 a c<20)) with
    |true=>simp only[if_true,List.length_cons];omega
    |false=>simp only[Bool.false_eq_true,if_false];exact ih
theorem Xm7 {g:Xt} (hl:g.Channels.length<=100) (op:Int) (a:Bool):∀ (n p:Nat) (y:List Int),20 - p<n->p<=20->y.length<=p*100 ->
  ∃ y',X4r op a g n y (p:Int)=some (.x0 y')/\y'.length=y.length+(g.Channels.filter λc=>Xto op a c&&(decide ((p:Int)<=Xm5 a c)&&decide (Xm5 a c<20))).length:=by
 intro n
 induction n with
 |zero=>intro p y h;omega
 |succ n ih =>
  intro p y h hp hy;rw[X4r];have hs:=Xra op a p g.Channels;by_cases hlt:p<20
  ·rw[Yt om,cond_true];obtain⟨y1,h1,h2⟩:=Xm6 hl op p a FU 0 y (by unfold FU;omega) (Nat.zero_le _) om;rw[show((0:Nat):Int)=0 from rfl,List.drop_zero] at *;rw[h1];simp only[Yo];rw[X5e om];have hf:(g.Channels.filter λc=>Xto op a c&&Xm5 a c==(p:Int)).length<=g.Channels.length:=List.length_filter_le _ _;obtain⟨y',i1,i2⟩:=ih (p+1) y1 om om om;rw[if_pos om] at hs;exact⟨y',i1,by rw[i2,h2,hs];push_cast;omega⟩
  ·rw[Yf om,cond_false];have h0:(g.Channels.filter λc=>Xto op a c&&(decide ((p:Int)<=Xm5 a c)&&decide (Xm5 a c<20)))=[]:=by
    rw[List.filter_eq_nil_iff];intro c _ hc;simp only[Bool.and_eq_true,decide_eq_true_eq] at hc;omega
   exact⟨y,rfl,by rw[h0];rfl⟩
theorem Xu4 {g:Xt} (hl:g.Channels.length<=100) (op:Int) (a:Bool) (hk:∀ c∈g.Channels,Xto op a c=true->0<=Xm5 a c/\Xm5 a c<20):∃ l,X80 g op a=some l/\l.length=(g.Channels.filter λc=>Xto op a c).length:=by
 unfold X80;obtain⟨y,h1,h2⟩:=Xm7 hl op a FU 0 [] (by unfold FU;omega) om (by simp);rw[show((0:Nat):Int)=0 from rfl] at h1 h2;rw[h1];refine⟨y,rfl,?_⟩;rw[h2,List.length_nil,Nat.zero_add];congr 1
 refine List.filter_congr λc hc=>?_
 cases hs:Xto op a c with
 |false=>rfl
 |true=>have:=hk c hc hs;simp[this]
theorem X0a1 {kind a o:Int} (h:Xuq kind a o):a<=4/\o<=3:=by
 obtain⟨h1,h2,h3⟩:=h;have hk:kind=1\/kind=2\/kind=3\/kind=4\/kind=5\/kind=6\/kind=7:=by omega
 rcases hk with rfl|rfl|rfl|rfl|rfl|rfl|rfl<;>(have:=h3 _ rfl;simp at this;omega)
theorem X09t {g:Xt} (hg:GOk g) {i:Nat} (hi:i<g.Ops.length):(Xcm g.Channels i).length<=4/\(X6q g.Channels i).length<=3:=by
 have:=X0a1 (hg.2.2 i _ (Ye hi)).2.1;omega
theorem X0by {m:Xf} (hg:GOk m.Graph) (hl:m.Graph.Channels.length<=100) {i:Nat} (hi:i<m.Graph.Ops.length):∃ l,Xfe m (i:Int)=some l/\l.length=(Xcm m.Graph.Channels i).length:=by
 unfold Xfe;obtain⟨l,h1,h2⟩:=Xu4 hl (i:Int) true λc hc hs=>by
  have hs:(c.To==(i:Int))=true:=hs;have hs:=eq_of_beq hs;obtain⟨j,hj⟩:=List.getElem?_of_mem hc;have:=(hg.2.1 j c hj).2.2;rw[hs,Int.toNat_natCast] at this;have h4:=(X09t hg hi).1;show 0<=c.In/\c.In<20;omega
 rw[h1];refine⟨l,rfl,?_⟩;rw[h2];unfold Xcm;rw[List.length_map,<-Xq1 (·.To)];rfl
theorem X09s {m:Xf} (hg:GOk m.Graph) (hl:m.Graph.Channels.length<=100) {i:Nat} (hi:i<m.Graph.Ops.length):∃ l,Xdj m (i:Int)=some l/\l.length=(X6q m.Graph.Channels i).length:=by
 unfold Xdj;obtain⟨l,h1,h2⟩:=Xu4 hl (i:Int) false λc hc hs=>by
  have hs:(c.From==(i:Int))=true:=hs;have hs:=eq_of_beq hs;obtain⟨j,hj⟩:=List.getElem?_of_mem hc;have:=(hg.2.1 j c hj).2.1;rw[hs,Int.toNat_natCast] at this;have h4:=(X09t hg hi).2;show 0<=c.Out/\c.Out<20;omega
 rw[h1];refine⟨l,rfl,?_⟩;rw[h2];unfold X6q;rw[List.length_map,<-Xq1 (·.From)];rfl
end Go.D


namespace Go.D
open Go.Av
theorem X089 (m:Xf) (t:Xv) (a b:Int) (Y:List X3i):∀ (xs:List X3i) (k:Nat),X4x m t a b Y xs k=some (if xs.all λs=>decide (s.Out<b) then .x0 else .x1):=by
 intro xs
 induction xs with
 |nil=>intro k;rw[X4x];rfl
 |cons x xs ih =>
  intro k;rw[X4x,List.all_cons];by_cases h:x.Out >= b
  ·rw[Yt h,cond_true,Yf om];rfl
  ·rw[Yf h,cond_false,ih,Yt om,Bool.true_and]
theorem Xx4 {m:Xf} {t:Xv} (hl:t.Pending.length<=10000) (i b:Int):∀ (n k:Nat),t.Pending.length - k<n->k<=t.Pending.length->X4p i m t b n (k:Int)=some (if (t.Pending.drop k).all λs=>decide (s.Out<b) then .x1 else .x0):=by
 intro n
 induction n with
 |zero=>intro k h;omega
 |succ n ih =>
  intro k h hk;rw[X4p,Xsc];by_cases hlt:k<t.Pending.length
  ·obtain⟨s,e1,e2,_⟩:=X6d hlt;rw[Yt hlt,cond_true,X5l e1,Yo,e2,List.all_cons];by_cases hs:s.Out >= b
   ·rw[Yt hs,cond_true,Yf om];rfl
   ·rw[Yf hs,cond_false,X5e om,ih (k+1) om om,Yt om,Bool.true_and]
  ·rw[Yf hlt,cond_false,List.drop_eq_nil_of_le om];rfl
theorem X0an {m:Xf} (hm:MB m) (hg:GOk m.Graph) (hn:m.Graph.Ops.length<=20) (hl:m.Graph.Channels.length<=100) (ht:m.Tasks.length=m.Graph.Ops.length) {k:Nat} {t:Xv} (hk:m.Tasks[k]?=some t) :
  ∃ b,Xfb m (k:Int)=some b/\Xad m (k:Int)=some b/\(b=true->tOK t=true):=by
 have hlt:k<m.Tasks.length:=(Ys.1 hk).1;obtain⟨o,ho,_,_⟩:=X6d (show k<m.Graph.Ops.length by omega);have hb:=hm.t t (Yg hk);obtain⟨b1,b2,b3,b4,b5,b6⟩:=hb;obtain⟨li,i1,i2⟩:=X040 hg hl k;obtain⟨lo,o1,o2⟩:=Xyd hg hl k;obtain⟨ri,r1,r2⟩:=X0by hg hl (show k<m.Graph.Ops.length by omega);obtain⟨ro,q1,q2⟩:=X09s hg hl (show k<m.Graph.Ops.length by omega);have ei:ri.length=li.length:=by omega
 have eo:ro.length=lo.length:=by omega
 unfold Xfb Xad;have hT:=Xx4 (m:=m) (t:=t) om (k:Int) (List.length lo:Int) FU 0 (by unfold FU;omega) (Nat.zero_le _);rw[show((0:Nat):Int)=0 from rfl,List.drop_zero] at hT;rw[X5l hk,X5l ho];simp only[Yo];rw[Xp5,X04i b1 b2 b3 b4 b5 b6];simp only[Yo,i1,o1,r1,q1,X24 (show t.Pending.length<=140737488355328 by omega),X089,hT,eo,ei]
 cases he:X6u t.Op o with
 |false=>exact⟨false,rfl,rfl,λh=>by cases h⟩
 |true =>
  cases hc:tOK t with
  |false=>exact⟨false,rfl,rfl,λh=>by cases h⟩
  |true =>
   simp only[Bool.not_true,cond_false,if_true,Yo,bne_self_eq_false]
   cases ha:(t.Pending.all λs=>decide (s.Out<(List.length lo:Int))) with
   |false=>exact⟨false,rfl,rfl,λh=>by cases h⟩
   |true =>
    simp only[if_true,Yo];generalize (List.length lo:Int)=no;generalize (List.length li:Int)=ni;generalize (List.length t.Marks:Int)=nm;generalize m.Query.Join=J;by_cases k2:t.Op.Kind=2
    ·have e2:(t.Op.Kind==(2:Int))=true:=by simp[k2]
     have e4:(t.Op.Kind != (4:Int))=true:=by simp[k2]
     have e5:(t.Op.Kind != (5:Int))=true:=by simp[k2]
     by_cases hla:m.Query.Late=2
     ·have el:(m.Query.Late==(2:Int))=true:=by simp[hla]
      refine⟨no==2,?_,?_,λ_=>trivial⟩
      ·simp only[e2,el,cond_true,Yo]
      ·simp only[e2,e4,e5,el,cond_true,cond_false,Bool.cond_self,Bool.not_true,Yo];by_cases h2:no=2
       ·simp[h2]
       ·have e:(no==(2:Int))=false:=by simp[h2]
        have e':(no != (2:Int))=true:=by simp[h2]
        simp[e,e',h2]
     ·have el:(m.Query.Late==(2:Int))=false:=by simp[hla]
      refine⟨no==1,?_,?_,λ_=>trivial⟩
      ·simp only[e2,el,cond_true,cond_false,Yo]
      ·simp only[e2,e4,e5,el,cond_true,cond_false,Bool.cond_self,Bool.not_false,Yo];by_cases h2:no=1
       ·simp[h2]
       ·have e:(no==(1:Int))=false:=by simp[h2]
        have e':(no != (1:Int))=true:=by simp[h2]
        simp[e,e',h2]
    ·have e2:(t.Op.Kind==(2:Int))=false:=by simp[k2]
     by_cases k4:t.Op.Kind=4
     ·have e4:(t.Op.Kind==(4:Int))=true:=by simp[k4]
      have e4':(t.Op.Kind != (4:Int))=false:=by simp[k4]
      have e5:(t.Op.Kind != (5:Int))=true:=by simp[k4]
      refine⟨(nm==ni)&&!J,?_,?_,λ_=>trivial⟩
      ·simp only[e2,e4,cond_true,cond_false];cases(nm==ni)<;>rfl
      ·simp only[e2,e4',e5,cond_true,cond_false,Yo];cases(nm==ni)<;>cases J<;>rfl
     ·have e4:(t.Op.Kind==(4:Int))=false:=by simp[k4]
      have e4':(t.Op.Kind != (4:Int))=true:=by simp[k4]
      by_cases k5:t.Op.Kind=5
      ·have e5:(t.Op.Kind==(5:Int))=true:=by simp[k5]
       have e5':(t.Op.Kind != (5:Int))=false:=by simp[k5]
       refine⟨(ni==2)&&J,?_,?_,λ_=>trivial⟩
       ·simp only[e2,e4,e5,cond_true,cond_false];cases(ni==2)<;>rfl
       ·simp only[e2,e4',e5',cond_true,cond_false,Yo];cases(ni==2)<;>rfl
      ·have e5:(t.Op.Kind==(5:Int))=false:=by simp[k5]
       have e5':(t.Op.Kind != (5:Int))=true:=by simp[k5]
       refine⟨true,?_,?_,λ_=>trivial⟩
       ·simp only[e2,e4,e5,cond_false]
       ·simp only[e2,e4',e5',cond_true,cond_false,Yo]
theorem X0bh {q:X0e} {c:Xk} (hl:q.List.length<=20):((bif (q.Room != c.Room) then (some true) else ((X6p q).bind λv54=>some (bif (q.Room != c.Room) then true else (v54 != (0:Int))))):Option Bool)=some (!(decide (q.Room=c.Room)&&qOK q)) /\
  ((bif (q.Room != c.Room) then (some true) else ((X9p q).bind λv69=>some (bif (q.Room != c.Room) then true else (v69 != (0:Int))))):Option Bool)=some (!(decide (q.Room=c.Room)&&qOK q)):=by
 obtain⟨h1,h2⟩:=X08p (q:=q) om;rw[h1,h2];by_cases h:q.Room=c.Room
 ·rw[Yt h,show(q.Room != c.Room)=false by simp[h]];cases qOK q<;>exact⟨rfl,rfl⟩
 ·rw[Yf h,show(q.Room != c.Room)=true by simp[h]];exact⟨rfl,rfl⟩
theorem X04h {m:Xf} (hm:MB m) (hq:m.Queues.length=m.Graph.Channels.length) (Y:List X0e):∀ (xs:List X0e) (k:Nat),m.Queues.drop k=xs->∃ b:Bool,X3x m Y xs k=some (if b then .x0 else .x1) /\
  ∀ n,xs.length<n->X46 m n (k:Int)=some (if b then .x1 else .x0):=by
 intro xs;have hl:=hm.queues
 induction xs with
 |nil =>
  intro k hk;have:m.Queues.length<=k:=List.drop_eq_nil_iff.1 hk;refine⟨true,by rw[X3x];rfl,λn hn=>?_⟩
  cases n with
  |zero=>omega
  |succ n=>rw[X46,Xsc,Yf om,cond_false];rfl
 |cons x xs ih =>
  intro k hk;have hlt:k<m.Queues.length:=by
   rcases Nat.lt_or_ge k m.Queues.length with h1|h1
   ·exact h1
   ·rw[List.drop_eq_nil_of_le h1] at hk;cases hk
  obtain⟨q,e1,e2,hmem⟩:=X6d hlt;obtain⟨rfl,e3⟩:=List.cons.inj (e2.symm.trans hk);obtain⟨c,c1,_,_⟩:=X6d (show k<m.Graph.Channels.length by omega);obtain⟨p1,p2⟩:=X0bh (c:=c) (hm.q q hmem);obtain⟨b,i1,i2⟩:=ih (k+1) e3;have w:=X5e (k:=k) om;refine⟨(decide (q.Room=c.Room)&&qOK q)&&b,?_,λn hn=>?_⟩
  ·rw[X3x,X5l c1,Yo,p1,Yo]
   cases(decide (q.Room=c.Room)&&qOK q) with
   |false=>rfl
   |true=>rw[Bool.not_true,cond_false,i1,Bool.true_and]
  ·cases n with
   |zero=>omega
   |succ n =>
    simp only[List.length_cons] at hn;rw[X46,Xsc,Yt hlt,cond_true,X5l e1,Yo,X5l c1,Yo,p2,Yo,w]
    cases(decide (q.Room=c.Room)&&qOK q) with
    |false=>rfl
    |true=>rw[Bool.not_true,cond_false,i2 n om,Bool.true_and]
theorem X04g {m:Xf} (hm:MB m) (hg:GOk m.Graph) (hn:m.Graph.Ops.length<=20) (hl:m.Graph.Channels.length<=100) (ht:m.Tasks.length=m.Graph.Ops.length) (Y:List Xv):∀ (xs:List Xv) (k:Nat),m.Tasks.drop k=xs ->
  ∃ b:Bool,X3w m Y xs k=some (if b then .x0 else .x1)/\(∀ n,xs.length<n->X45 m n (k:Int)=some (if b then .x1 else .x0))/\(b=true->∀ t∈xs,tOK t=true):=by
 intro xs
 induction xs with
 |nil =>
  intro k hk;have:m.Tasks.length<=k:=List.drop_eq_nil_iff.1 hk;refine⟨true,by rw[X3w];rfl,λn hn=>?_,λ_ t ht=>by cases ht⟩
  cases n with
  |zero=>omega
  |succ n=>rw[X45,Xsc,Yf om,cond_false];rfl
 |cons x xs ih =>
  intro k hk;have hlt:k<m.Tasks.length:=by
   rcases Nat.lt_or_ge k m.Tasks.length with h1|h1
   ·exact h1
   ·rw[List.drop_eq_nil_of_le h1] at hk;cases hk
  obtain⟨q,e1,e2,hmem⟩:=X6d hlt;obtain⟨rfl,e3⟩:=List.cons.inj (e2.symm.trans hk);obtain⟨f,f1,f2,f3⟩:=X0an hm hg hn hl ht e1;obtain⟨b,i1,i2,i3⟩:=ih (k+1) e3;have w:=X5e (k:=k) om;refine⟨f&&b,?_,λn hn=>?_,λh t htt=>?_⟩
  ·rw[X3w,f1,Yo]
   cases f with
   |false=>rfl
   |true=>rw[Bool.not_true,cond_false,i1,Bool.true_and]
  ·cases n with
   |zero=>omega
   |succ n =>
    simp only[List.length_cons] at hn;rw[X45,Xsc,Yt hlt,cond_true,f2,Yo,w]
    cases f with
    |false=>rfl
    |true=>rw[Bool.not_true,cond_false,i2 n om,Bool.true_and]
  ·simp only[Bool.and_eq_true] at h;exact(List.mem_cons.1 htt).elim (λe=>e▸f3 h.1) (i3 h.2 t)
theorem X08o {m:Xf} (hm:MB m) (hq:QW m.Query):∃ e,Xb8 m=some e/\X9o m=some e/\(e=0->∀ t∈m.Tasks,tOK t=true):=by
 obtain⟨g,g1,g2⟩:=Xzx m.Graph;have hl1:=hm.tasks;have hl2:=hm.queues;unfold Xb8 X9o;rw[Xmr hq,X02v hq,g1,g2];simp only[Yo];by_cases h0:(qChk m.Query).2=0
 ·have h0':((qChk m.Query).2 != (0:Int))=false:=by simp[h0]
  simp only[h0',Yt h0,Bool.not_true,cond_false];by_cases hg0:g=0
  ·subst hg0;obtain⟨hg,hn,hl⟩:=X0aj g2;simp only[bne_self_eq_false,cond_false];by_cases ht:m.Tasks.length=m.Graph.Ops.length
   ·have ht':((List.length m.Tasks:Int) != (List.length m.Graph.Ops:Int))=false:=by simp[ht]
    simp only[ht',cond_false,Yo];by_cases hqq:m.Queues.length=m.Graph.Channels.length
    ·have hq':((List.length m.Queues:Int) != (List.length m.Graph.Channels:Int))=false:=by simp[hqq]
     simp only[hq',cond_false];obtain⟨b,a1,a2⟩:=X04h hm hqq m.Queues m.Queues 0 rfl;obtain⟨f,c1,c2,c3⟩:=X04g hm hg hn hl ht m.Tasks m.Tasks 0 rfl;have a3:=a2 FU (by unfold FU;omega);have c4:=c2 FU (by unfold FU;omega);rw[show((0:Nat):Int)=0 from rfl] at a3 c4;rw[X24 om,X24 om,a1,a3,c1,c4]
     cases b with
     |false=>exact⟨8,rfl,rfl,λh=>by cases h⟩
     |true =>
      cases f with
      |false=>exact⟨8,rfl,rfl,λh=>by cases h⟩
      |true=>exact⟨0,rfl,rfl,λ_=>c3 rfl⟩
    ·have hq':((List.length m.Queues:Int) != (List.length m.Graph.Channels:Int))=true:=by simp;omega
     simp only[hq',cond_true];exact⟨8,rfl,rfl,λh=>by cases h⟩
   ·have ht':((List.length m.Tasks:Int) != (List.length m.Graph.Ops:Int))=true:=by simp;omega
    simp only[ht',cond_true,Yo];exact⟨8,rfl,rfl,λh=>by cases h⟩
  ·have hg':(g != (0:Int))=true:=by simp[hg0]
   simp only[hg',cond_true,Yo];exact⟨8,rfl,rfl,λh=>by cases h⟩
 ·have h0':((qChk m.Query).2 != (0:Int))=true:=by simp[h0]
  simp only[h0',Yf h0,Bool.not_false,cond_true,Yo];exact⟨8,rfl,rfl,λh=>by cases h⟩
end Go.D


namespace Go.D
def mrg {α:Type} (lt:α->α->Bool):List α->List α->List α
 |[],b=>b
 |x::a,[]=>x::a
 |x::a,y::b=>if lt y x then y::mrg lt (x::a) b else x::mrg lt a (y::b)
termination_by a b=>a.length+b.length
def insR {α:Type} (lt:α->α->Bool) (x:α) (l:List α):List α:=l.takeWhile (λy=>!lt x y)++x::l.dropWhile (λy=>!lt x y)
theorem Xs9 {α:Type} (lt:α->α->Bool):∀ a:List α,mrg lt a []=a
 |[]=>by rw[mrg]
 |x::a=>by rw[mrg]
theorem Xs8 {α:Type} (lt:α->α->Bool) (s b:List α):∀ p:List α,(∀ x∈p,∀ y∈b,lt y x=false)->mrg lt (p++s) b=p++mrg lt s b:=by
 intro p
 induction p with
 |nil=>intro _;rfl
 |cons x p ih =>
  intro h
  cases b with
  |nil=>rw[Xs9,Xs9]
  |cons y b =>
   rw[List.cons_append,mrg,h x List.mem_cons_self y List.mem_cons_self];simp only[Bool.false_eq_true,↓reduceIte];rw[ih (λz hz=>h z (List.mem_cons_of_mem _ hz)),List.cons_append]
theorem X09x {α:Type} (lt:α->α->Bool) {y:α} {s:List α} (b:List α) (h:∀ z∈s.head?,lt y z=true):mrg lt s (y::b)=y::mrg lt s b:=by
 cases s with
 |nil=>simp[mrg]
 |cons z s=>rw[mrg,h z (by simp)];simp
theorem X09m {α:Type} (p:α->Bool) {x:α}:∀ {l:List α},x∈l.takeWhile p->p x=true:=by
 intro l
 induction l with
 |nil=>intro h;cases h
 |cons a l ih =>
  intro h;rw[List.takeWhile_cons] at h
  cases hp:p a with
  |false=>rw[hp] at h;cases h
  |true =>
   rw[hp] at h;rcases List.mem_cons.1 h with rfl|h
   ·exact hp
   ·exact ih h
theorem X08g {α:Type} (p:α->Bool):∀ {l:List α},∀ z∈(l.dropWhile p).head?,p z=false:=by
 intro l
 induction l with
 |nil=>intro z h;cases h
 |cons a l ih =>
  intro z h;rw[List.dropWhile_cons] at h
  cases hp:p a with
  |false=>rw[hp] at h;simp at h;rw[<-h];exact hp
  |true=>rw[hp] at h;exact ih z h
theorem Xtz {α:Type} {lt:α->α->Bool} (hT:∀ x y z,lt y x=false->lt z y=false->lt z x=false) :
  ∀ (b a:List α),b.Pairwise (λx y=>lt y x=false)->b.foldl (λo x=>insR lt x o) a=mrg lt a b:=by
 intro b
 induction b with
 |nil=>intro a _;rw[Xs9];rfl
 |cons y b ih =>
  intro a hb;have hb':=List.pairwise_cons.1 hb;rw[List.foldl_cons,ih _ hb'.2];unfold insR;have e:a=a.takeWhile (λz=>!lt y z)++a.dropWhile (λz=>!lt y z):=(List.takeWhile_append_dropWhile).symm;have h1:∀ x∈a.takeWhile (λz=>!lt y z),lt y x=false:=by
   intro x hx;have:=X09m _ hx;simpa using this
  have h2:∀ z∈(a.dropWhile (λz=>!lt y z)).head?,lt y z=true:=by
   intro z hz;have:=X08g _ z hz;simpa using this
  generalize a.takeWhile (λz=>!lt y z)=p at e h1 ⊢;generalize a.dropWhile (λz=>!lt y z)=s at e h2 ⊢;subst e
  rw[Xs8 lt (y::s) b p (λx hx z hz=>hT x y z (h1 x hx) (hb'.1 z hz)),
   Xs8 lt s (y::b) p (λx hx z hz=>(List.mem_cons.1 hz).elim (λh=>h▸h1 x hx) (λh=>hT x y z (h1 x hx) (hb'.1 z h))),
   X09x lt b h2]
  have:=Xs8 lt s b [y] (λx hx z hz=>by rw[List.mem_singleton.1 hx];exact hb'.1 z hz);simp only[List.cons_append,List.nil_append] at this;rw[this]
theorem Xoe {α:Type} {lt:α->α->Bool} (hT:∀ x y z,lt y x=false->lt z y=false->lt z x=false) (hA:∀ x y,lt x y=true->lt y x=false) :
  ∀ (a b:List α),a.Pairwise (λx y=>lt y x=false)->b.Pairwise (λx y=>lt y x=false)->(mrg lt a b).Pairwise (λx y=>lt y x=false)/\∀ z,z∈mrg lt a b->z∈a\/z∈b:=by
 intro a
 induction a with
 |nil=>intro b _ hb;rw[mrg];exact⟨hb,λz h=>.inr h⟩
 |cons x a iha =>
  intro b
  induction b with
  |nil=>intro ha _;rw[mrg];exact⟨ha,λz h=>.inl h⟩
  |cons y b ihb =>
   intro ha hb;have ha':=List.pairwise_cons.1 ha;have hb':=List.pairwise_cons.1 hb;rw[mrg]
   cases hl:lt y x with
   |true =>
    have hi:=ihb ha hb'.2;simp only[↓reduceIte];refine⟨List.pairwise_cons.2 ⟨λz hz=>?_,hi.1⟩,λz hz=>?_⟩
    ·rcases hi.2 z hz with h|h
     ·rcases List.mem_cons.1 h with rfl|h
      ·exact hA _ _ hl
      ·exact hT y x z (hA _ _ hl) (ha'.1 z h)
     ·exact hb'.1 z h
    ·rcases List.mem_cons.1 hz with rfl|hz
     ·exact .inr List.mem_cons_self
     ·rcases hi.2 z hz with h|h
      ·exact .inl h
      ·exact .inr (List.mem_cons_of_mem _ h)
   |false =>
    have hi:=iha (y::b) ha'.2 hb;simp only[Bool.false_eq_true,↓reduceIte];refine⟨List.pairwise_cons.2 ⟨λz hz=>?_,hi.1⟩,λz hz=>?_⟩
    ·rcases hi.2 z hz with h|h
     ·exact ha'.1 z h
     ·rcases List.mem_cons.1 h with rfl|h
      ·exact hl
      ·exact hT x y z hl (hb'.1 z h)
    ·rcases List.mem_cons.1 hz with rfl|hz
     ·exact .inl List.mem_cons_self
     ·rcases hi.2 z hz with h|h
      ·exact .inl (List.mem_cons_of_mem _ h)
      ·exact .inr h
theorem Xsa {α:Type} (lt:α->α->Bool):∀ (a b:List α),(mrg lt a b).length=a.length+b.length:=by
 intro a
 induction a with
 |nil=>intro b;rw[mrg];simp
 |cons x a iha =>
  intro b
  induction b with
  |nil=>rw[mrg];simp
  |cons y b ihb =>
   rw[mrg];cases lt y x<;>simp[iha,ihb]<;>omega
end Go.D


namespace Go.D
open Go.Av
def ltB (a b:Xg):Bool:=decide (ltE a b)
theorem Xyr:∀ x y z:Xg,ltB y x=false->ltB z y=false->ltB z x=false:=by
 intro x y z h1 h2;simp only[ltB,decide_eq_false_iff_not] at *;unfold ltE at *;omega
theorem X06r:∀ x y:Xg,ltB x y=true->ltB y x=false:=by
 intro x y h;simp only[ltB,decide_eq_true_eq,decide_eq_false_iff_not] at *;exact Xqv h
theorem Xy9 (a b:Xg):Xax a b=some (Xyf a b):=Xcz a b
theorem X06n {a b:Xg}:decide (Xyf a b<=0)=!ltB b a:=by
 unfold Xyf ltB;by_cases h:ltE a b
 ·have:=Xqv h;simp[h,this]
 ·by_cases h2:ltE b a<;>simp[h,h2]
theorem Xv0 {x:Xg} {l:List Xg}:X8h (x::l) 1 (List.length (x::l):Int)=some l:=by
 unfold X8h;rw[if_pos ⟨by omega,by simp;omega,by simp⟩];simp
theorem Xyn:∀ (n:Nat) (a b out:List Xg),a.length+b.length<n->out.length+a.length+b.length<=100000 ->
  ∃ a' b' o',X0v n a b out=some (.x0 a' b' o')/\o'++a'++b'=out++mrg ltB a b/\o'.length+a'.length+b'.length<=100000:=by
 intro n
 induction n with
 |zero=>intro a b out h;omega
 |succ n ih =>
  intro a b out h hs;rw[X0v]
  cases a with
  |nil=>exact⟨[],b,out,rfl,by rw[mrg];simp,by simpa using hs⟩
  |cons x a =>
   cases b with
   |nil=>exact⟨x::a,[],out,by simp,by rw[mrg];simp,by simpa using hs⟩
   |cons y b =>
    simp only[List.length_cons] at h hs;have e1:decide ((List.length (x::a):Int)>0)=true:=by simp
    have e2:decide ((List.length (y::b):Int)>0)=true:=by simp
    have g1:X14 (x::a) 0=some x:=rfl;have g2:X14 (y::b) 0=some y:=rfl;simp only[e1,e2,cond_true,Yo,g1,g2,Xy9,X06n,Xv0];rw[mrg]
    cases hl:ltB y x with
    |false =>
     simp only[Bool.not_false,cond_true,Bool.false_eq_true,if_false];rw[X4u (by simp;omega),Yo];obtain⟨a',b',o',i1,i2,i3⟩:=ih a (y::b) (out++[x]) (by simp;omega) (by simp;omega);exact⟨a',b',o',i1,by rw[i2];simp,i3⟩
    |true =>
     simp only[Bool.not_true,cond_false,if_true];rw[X4u (by simp;omega),Yo];obtain⟨a',b',o',i1,i2,i3⟩:=ih (x::a) b (out++[y]) (by simp;omega) (by simp;omega);exact⟨a',b',o',i1,by rw[i2];simp,i3⟩
theorem Xym {a b:List Xg} (h:a.length+b.length<=90000):X0o a b=some (mrg ltB a b):=by
 obtain⟨a',b',o',i1,i2,i3⟩:=Xyn FU a b [] (by unfold FU;omega) (by simp;omega);unfold X0o;rw[i1];simp only[Yo];rw[X4u (n:=((o'++a')++b').length) (by simp;omega),X4u (n:=(o'++a').length) (by simp;omega)];simp only[Yo,Bool.cond_self];rw[i2,List.nil_append]
def Xxx (o:List Xg) (l:List Xv):List Xg:=l.foldl (λo t=>mrg ltB o t.Store) o
theorem X03a (Y:List Xv):∀ (xs:List Xv) (k:Nat) (o:List Xg),(∀ t∈xs,t.Store.length<=100)->o.length+100*xs.length<=90000->X2s Y xs k o=some (.x0 (Xxx o xs)):=by
 intro xs
 induction xs with
 |nil=>intro k o _ _;rw[X2s];rfl
 |cons x xs ih =>
  intro k o h hs;simp only[List.length_cons] at hs;have hx:=h x List.mem_cons_self;rw[X2s,Xym om,Yo,ih (k+1) _ (λt ht=>h t (List.mem_cons_of_mem _ ht)) (by rw[Xsa];omega)];rfl
theorem Xv2 {m:Xf} {l:List Xg} {x:Xg} {a b:Int} (hl:l.length<=100000):∀ (n j:Nat),j<n->j<=l.length->(∀ i y,j<=i->l[i]?=some y->ltB x y=true) ->
  ∃ p:Nat,X3o m l a b x n (j:Int)=some (.x0 l (p:Int))/\p<=l.length/\(∀ i y,p<=i->l[i]?=some y->ltB x y=true)/\(∀ y,0<p->l[p - 1]?=some y->ltB x y=false):=by
 intro n
 induction n with
 |zero=>intro j h;omega
 |succ n ih =>
  intro j h hj hi;rw[X3o]
  cases j with
  |zero=>exact⟨0,rfl,by omega,hi,λy h=>by omega⟩
  |succ j =>
   obtain⟨y,e1,_,_⟩:=X6d (show j<l.length by omega);have w:IntKind.i64.wrap (((j+1:Nat):Int) - 1)=(j:Int):=by rw[X32 om om];omega
   have d:decide (((j+1:Nat):Int)>0)=true:=by simp
   simp only[d,cond_true,w,X5l e1,Yo,Xhj]
   cases hlt:decide (ltE x y) with
   |true =>
    simp only[cond_true];refine ih j om om λi z hz hg=>?_;rcases Nat.eq_or_lt_of_le hz with rfl|h2
    ·rw[e1] at hg;cases hg;exact hlt
    ·exact hi i z h2 hg
   |false=>exact⟨j+1,rfl,hj,hi,λz _ hz=>by rw[Nat.add_sub_cancel,e1] at hz;cases hz;exact hlt⟩
theorem X05i {α:Type} (q:α->Bool):∀ (l:List α) (p:Nat),p<=l.length->(∀ i y,i<p->l[i]?=some y->q y=true)->(∀ y,l[p]?=some y->q y=false)->l.takeWhile q=l.take p/\l.dropWhile q=l.drop p:=by
 intro l
 induction l with
 |nil=>intro p hp _ _;simp at hp;subst hp;exact⟨rfl,rfl⟩
 |cons x l ih =>
  intro p hp h1 h2
  cases p with
  |zero =>
   have:=h2 x rfl;simp[this]
  |succ p =>
   have hx:=h1 0 x om rfl;obtain⟨a,b⟩:=ih p (by simpa using hp) (λi y hi hy=>h1 (i+1) y om hy) (λy hy=>h2 y hy);simp[hx,a,b]
theorem X083 {l:List Xg} {x:Xg} {p:Nat} (hs:l.Pairwise λa b=>ltB b a=false) (hp:p<=l.length) (h1:∀ i y,p<=i->l[i]?=some y->ltB x y=true) (h2:∀ y,0<p->l[p - 1]?=some y->ltB x y=false):l.take p++([x]++l.drop p)=insR ltB x l:=by
 unfold insR;have h3:∀ i y,i<p->l[i]?=some y->(λy=>!ltB x y) y=true:=by
  intro i y hi hy;obtain⟨z,hz,_,_⟩:=X6d (show p - 1<l.length by omega);have hz':=h2 z om hz;rcases Nat.eq_or_lt_of_le (show i<=p - 1 by omega) with rfl|hlt
  ·rw[hz] at hy;cases hy;simp[hz']
  ·have:=List.pairwise_iff_getElem.1 hs i (p - 1) om om hlt;rw[Ye om] at hy hz;cases hy;cases hz
   simp[Xyr _ _ _ this hz']
 obtain⟨a,b⟩:=X05i (λy=>!ltB x y) l p hp h3 (λy hy=>by simp[h1 p y (Nat.le_refl _) hy]);rw[a,b];rfl
theorem X03y (x:Xg) (l:List Xg):(insR ltB x l).length=l.length+1:=by
 unfold insR;have:=congrArg List.length (List.takeWhile_append_dropWhile (p:=λy=>!ltB x y) (l:=l));simp only[List.length_append,List.length_cons] at *;omega
theorem Xsv {l:List Xg} (x:Xg) (hs:l.Pairwise λa b=>ltB b a=false):(insR ltB x l).Pairwise λa b=>ltB b a=false:=by
 have h1:=Xtz Xyr [x] l (List.pairwise_singleton _ _);have h2:=(Xoe Xyr X06r l [x] hs (List.pairwise_singleton _ _)).1;rw[<-h1] at h2;exact h2
theorem Xxc {l:List Xg} {p:Nat} (h:p<=l.length):X8h l 0 (p:Int)=some (l.take p)/\X8h l (p:Int) (List.length l:Int)=some (l.drop p):=by
 unfold X8h;rw[if_pos ⟨by omega,by omega,by simpa using h⟩,if_pos ⟨by omega,by omega,by simp⟩];refine⟨by simp,?_⟩;simp only[Int.toNat_natCast,Option.some.injEq];exact List.take_of_length_le (by simp)
theorem Xv3 {m:Xf} {k:Nat} {t:Xv} (hk:m.Tasks[k]?=some t) (ht:t.Store.length<=100):∀ (n i:Nat) (l:List Xg),t.Store.length - i<n->i<=t.Store.length->l.length+100<=90000+i->l.Pairwise (λa b=>ltB b a=false) ->
  X10 m (k:Int) n l (i:Int)=some (.x0 ((t.Store.drop i).foldl (λo x=>insR ltB x o) l)):=by
 intro n
 induction n with
 |zero=>intro i l h;omega
 |succ n ih =>
  intro i l h hi hl hs;rw[X10,X5l hk,Yo,Xsc];by_cases hlt:i<t.Store.length
  ·obtain⟨x,e1,e2,_⟩:=X6d hlt;obtain⟨p,p1,p2,p3,p4⟩:=Xv2 (m:=m) (l:=l) (x:=x) (a:=(k:Int)) (b:=(i:Int)) om FU l.length (by unfold FU;omega) (Nat.le_refl _) (λi y hi hy=>by have:=(Ys.1 hy).1;omega);obtain⟨s1,s2⟩:=Xxc p2;rw[Yt hlt,cond_true,X5l e1,Yo,p1];simp only[Yo,s1,s2,List.isEmpty_nil,cond_true];have hin:=X083 hs p2 p3 p4;have hnext:=ih (i+1) (insR ltB x l) om om (by rw[X03y];omega) (Xsv x hs);rw[e2,List.foldl_cons,X5e om];have c1:X0a ((l.take p)++[x]).length 88=some ():=X4u (by simp;omega);have c2:X0a ([x]++l.drop p).length 88=some ():=X4u (by simp;omega);have c3:X0a ((l.take p)++([x]++l.drop p)).length 88=some ():=X4u (by simp;omega)
   cases hd:(l.drop p).isEmpty with
   |true =>
    have he:=List.isEmpty_iff.1 hd;simp only[cond_true,c1,Yo];rw[he,List.append_nil] at hin;rw[hin];exact hnext
   |false =>
    simp only[cond_false,c2,c3,Yo];rw[show([x]++l.drop p).isEmpty=false from rfl,cond_false,hin];exact hnext
  ·rw[Yf hlt,cond_false,List.drop_eq_nil_of_le om];rfl
theorem Xqk {t:Xv} (h:tOK t=true):t.Store.Pairwise λa b=>ltB b a=false:=by
 have:=((X02f).1 (Xx6 h).2.2.2.1).2;exact this.imp λ{a b} h=>X06r a b (by simpa[ltB] using h)
theorem Xv4 {m:Xf} (hm:MB m) (hok:∀ t∈m.Tasks,tOK t=true):∀ (n k:Nat) (l:List Xg),m.Tasks.length - k<n->k<=m.Tasks.length->l.length<=100*k->l.Pairwise (λa b=>ltB b a=false) ->
  X3p m n l (k:Int)=some (.x0 (Xxx l (m.Tasks.drop k))):=by
 intro n;have hlen:=hm.tasks
 induction n with
 |zero=>intro k l h;omega
 |succ n ih =>
  intro k l h hk hl hs;rw[X3p,Xsc];by_cases hlt:k<m.Tasks.length
  ·obtain⟨t,e1,e2,hmem⟩:=X6d hlt;have hb:=(hm.t t hmem).2.2.2.1;have hst:=Xqk (hok t hmem);have h1:=Xv3 e1 hb FU 0 l (by unfold FU;omega) (Nat.zero_le _) om hs;rw[show((0:Nat):Int)=0 from rfl,List.drop_zero,Xtz Xyr _ _ hst] at h1;rw[Yt hlt,cond_true,h1];simp only[Yo];rw[X5e om,ih (k+1) _ om om (by rw[Xsa];omega) (Xoe Xyr X06r l t.Store hs hst).1,e2];rfl
  ·rw[Yf hlt,cond_false,List.drop_eq_nil_of_le om];rfl
theorem Xxw:∀ (xs:List Xv) (o:List Xg),(∀ t∈xs,t.Store.length<=100)->(Xxx o xs).length<=o.length+100*xs.length:=by
 intro xs
 induction xs with
 |nil=>intro o _;simp[Xxx]
 |cons x xs ih =>
  intro o h;have:=ih (mrg ltB o x.Store) λt ht=>h t (List.mem_cons_of_mem _ ht);have hx:=h x List.mem_cons_self;rw[Xsa] at this;simp only[Xxx,List.foldl_cons,List.length_cons] at *;omega
def Xyp (t:Xv):Bool:=bif (t.Op.Kind != (4:Int)) then (t.Op.Kind != (5:Int)) else false
def Xof (y:Int) (l:List Xv):Int:=l.foldl (λy t=>bif Xyp t then y else minF t.Marks y) y
theorem X03b (m:Xf) (A:List Xv) (a b:Int) (Y:List Int):∀ (xs:List Int) (k:Nat) (y:Int),X1p m A a b Y xs k y=some (.x0 (minF xs y)):=by
 intro xs
 induction xs with
 |nil=>intro k y;rw[X1p];rfl
 |cons x xs ih=>intro k y;rw[X1p,ih];rfl
theorem X03c (m:Xf) (Y:List Xv):∀ (xs:List Xv) (k:Nat) (y:Int),(∀ t∈xs,t.Marks.length<=20)->X13 m Y xs k y=some (.x0 (Xof y xs)):=by
 intro xs
 induction xs with
 |nil=>intro k y _;rw[X13];rfl
 |cons x xs ih =>
  intro k y h;have hx:=h x List.mem_cons_self;have ih:=λk y=>ih k y λt ht=>h t (List.mem_cons_of_mem _ ht);rw[X13];show(bif Xyp x then _ else _)=_
  cases hk:Xyp x with
  |true=>rw[cond_true,ih];simp[Xof,hk]
  |false=>rw[cond_false,X24 om,Yo,X03b];simp only[Yo];rw[ih];simp[Xof,hk]
theorem X03k {m:Xf} {k:Nat} {t:Xv} (hk:m.Tasks[k]?=some t) (ht:t.Marks.length<=20):∀ (n i:Nat) (y:Int),t.Marks.length - i<n->i<=t.Marks.length->X5p m (k:Int) n y (i:Int)=some (.x0 (minF (t.Marks.drop i) y)):=by
 intro n
 induction n with
 |zero=>intro i y h;omega
 |succ n ih =>
  intro i y h hi;rw[X5p,X5l hk,Yo,Xsc];by_cases hlt:i<t.Marks.length
  ·obtain⟨x,e1,e2,_⟩:=X6d hlt;rw[Yt hlt,cond_true,X5l e1,Yo,X5e om,ih (i+1) _ om om,e2];rfl
  ·rw[Yf hlt,cond_false,List.drop_eq_nil_of_le om];rfl
theorem X03l {m:Xf} (hm:MB m):∀ (n k:Nat) (y:Int),m.Tasks.length - k<n->k<=m.Tasks.length->X42 m n y (k:Int)=some (.x0 (Xof y (m.Tasks.drop k))):=by
 intro n;have hlen:=hm.tasks
 induction n with
 |zero=>intro k y h;omega
 |succ n ih =>
  intro k y h hk;rw[X42,Xsc];by_cases hlt:k<m.Tasks.length
  ·obtain⟨t,e1,e2,hmem⟩:=X6d hlt;have hb:=(hm.t t hmem).2.2.2.2.2;rw[Yt hlt,cond_true,X5l e1,Yo,e2];show(bif Xyp t then _ else _)=_
   cases hk2:Xyp t with
   |true=>rw[cond_true,X5e om,ih (k+1) _ om om];simp[Xof,hk2]
   |false =>
    have h1:=X03k e1 hb FU 0 y (by unfold FU;omega) (Nat.zero_le _);rw[show((0:Nat):Int)=0 from rfl,List.drop_zero] at h1;rw[cond_false,h1];simp only[Yo];rw[X5e om,ih (k+1) _ om om];simp[Xof,hk2]
  ·rw[Yf hlt,cond_false,List.drop_eq_nil_of_le om];rfl
theorem Xhe (l Y:List Xo):∀ (xs:List Xo) (k:Nat),l.drop k=xs->X2j Y l xs k=some .x0
 |[],k,_=>rfl
 |x::xs,k,h=>by
  have hk:l[k]?=some x:=by have:=congrArg (λz=>z[0]?) h;simpa using this
  have hd:l.drop (k+1)=xs:=by have:=congrArg List.tail h;simpa using this
  rw[X2j,X4y,hk,Yo,X95,Yt rfl];exact Xhe l Y xs (k+1) hd
theorem Xs4 {q:X0e} (h:q.List.length<=20):Xdo q q=some true:=by
 unfold Xdo Xa4;rw[show(q.Room==q.Room)=true by simp,show((List.length q.List:Int) != (List.length q.List:Int))=false by simp,cond_true,cond_false,X24 om,Yo,Xhe q.List q.List q.List 0 rfl];rfl
theorem Xo5 (l Y:List X0e) (hq:∀ q∈l,q.List.length<=20):∀ (xs:List X0e) (k:Nat),l.drop k=xs->X2v Y l xs k=some .x0
 |[],k,_=>rfl
 |x::xs,k,h=>by
  have hk:l[k]?=some x:=by have:=congrArg (λz=>z[0]?) h;simpa using this
  have hd:l.drop (k+1)=xs:=by have:=congrArg List.tail h;simpa using this
  rw[X2v,X4y,hk,Yo,Xs4 (hq x (Yg hk)),Yo,Bool.not_true,cond_false];exact Xo5 l Y hq xs (k+1) hd
theorem Xxo {m:Xf} (hm:MB m):∀ (n k:Nat),m.Tasks.length - k<n->k<=m.Tasks.length->X6k m m n (k:Int)=some .x1:=by
 intro n;have hlen:=hm.tasks
 induction n with
 |zero=>intro k h;omega
 |succ n ih =>
  intro k h hk;rw[X6k,Xsc];by_cases hlt:k<m.Tasks.length
  ·obtain⟨t,e1,e2,hmem⟩:=X6d hlt;obtain⟨b1,b2,b3,b4,b5,b6⟩:=hm.t t hmem;rw[Yt hlt,cond_true,X5l e1,Yo,Yo,Xs3 om om om om om om,Yo,Bool.not_true,cond_false,X5e om];exact ih (k+1) om om
  ·rw[Yf hlt,cond_false]
theorem Xln {m:Xf} (hm:MB m):Xdi m m=some true:=by
 have hq:=hm.queues;have hlen:=hm.tasks;have h0:=Xxo hm FU 0 (by unfold FU;omega) (Nat.zero_le _);rw[show((0:Nat):Int)=0 from rfl] at h0;unfold Xdi Xaw;rw[show((List.length m.Tasks:Int) != (List.length m.Tasks:Int))=false by simp,show((List.length m.Queues:Int) != (List.length m.Queues:Int))=false by simp,X24 om];simp only[cond_false,Yo];rw[Xo5 m.Queues m.Queues hm.q m.Queues 0 rfl];simp only[Yo,Bool.not_true,cond_false];rw[h0];rfl
theorem Xfm (m:Xf) (w:Xlf m):X61 m=some true:=by
 obtain⟨b,g1,g2⟩:=X086 m;unfold X61;rw[g1,Yo]
 cases b with
 |true=>rfl
 |false =>
  have hm:=g2 rfl;have hlen:=hm.tasks;have hq:QW m.Query:=X0bg w.1;obtain⟨e,c1,c2,c3⟩:=X08o hm hq;rw[cond_false,X09j hm,Yo];unfold Xcq Xg1 Xcr Xg2;rw[c1,c2];simp only[Yo];by_cases he:e=0
  ·subst he;have hok:=c3 rfl;have r1:=X03a m.Tasks m.Tasks 0 [] (λt ht=>(hm.t t ht).2.2.2.1) (by simp;omega);have r2:=Xv4 hm hok FU 0 [] (by unfold FU;omega) (Nat.zero_le _) (by simp) List.Pairwise.nil;have r3:=X03c m m.Tasks m.Tasks 0 9223372036854775807 (λt ht=>(hm.t t ht).2.2.2.2.2);have r4:=X03l hm FU 0 9223372036854775807 (by unfold FU;omega) (Nat.zero_le _);rw[show((0:Nat):Int)=0 from rfl,List.drop_zero] at r2 r4;have hrl:=Xxw m.Tasks [] λt ht=>(hm.t t ht).2.2.2.1;simp only[List.length_nil] at hrl;unfold Xau Xe8;rw[r1,r2,r3,r4,X24 om];simp only[bne_self_eq_false,cond_false,Yo];rw[Xfg om,Xln hm];simp
  ·have he':(e != (0:Int))=true:=by simp[he]
   simp only[he',cond_true,Yo];rw[Xfg (by simp),Xln hm];simp
end Go.D
