/- Parts of the proof, laid together. -/
import Derived.Test.YtfdfgobnpnoomaaGreatPza
import Derived.Test.YtfdfgobnpnoomaaGreatSortZ
set_option linter.all false

namespace Go.D
def leC (a b:List Int):Bool:=!(decide (Xgw b a<0))
theorem Xm4 {w:Nat} {a b c:List Int} (ha:a.length=w) (hb:b.length=w) (hc:c.length=w) (h1:leC a b=true) (h2:leC b c=true):leC a c=true:=by
 unfold leC at *
 simp only[Bool.not_eq_true',decide_eq_false_iff_not] at *
 intro h
 by_cases h3:Xgw a b<0
 ·exact h2 (Xgg c a b (by omega) (by omega) h h3)
 ·have:=Xie a b (by omega) h3 h1
  rw[this] at h;exact h2 h
theorem Xrr {a b:List Int}:(leC a b||leC b a)=true:=by
 unfold leC
 by_cases h:Xgw b a<0
 ·have:=Xrp b a h
  simp[h,this]
 ·simp[h]
theorem X090 {a b:List Int} (h:a.length=b.length) (h1:leC a b=true) (h2:leC b a=true):a=b:=by
 unfold leC at *
 simp only[Bool.not_eq_true',decide_eq_false_iff_not] at *
 exact Xie a b h h2 h1
theorem Xwb (a b:List Int) (hl:a.length=b.length):∀ (xs:List Int) (k:Nat),a.drop k=xs->∃ o,X4v a b xs k=some o/\(match o with|.x0=>false|.x1 v=>v)=decide (Xgw xs (b.drop k)<0)
 |[],k,h=>⟨.x0,rfl,by simp[Xgw]⟩
 |x::xs,k,h=>by
  have hk:k<a.length:=by
   have:=congrArg List.length h
   simp only[List.length_drop,List.length_cons] at this;omega
  have hd:a.drop (k+1)=xs:=by
   have:=congrArg List.tail h
   simpa using this
  have hb:b.drop k=b[k]'(by omega)::b.drop (k+1):=List.drop_eq_getElem_cons (by omega)
  rw[X4v,X3i,Ye (show k<b.length by omega),Yo,hb,Xgw]
  by_cases h1:x=b[k]'(by omega)
  ·obtain⟨o,h2,h3⟩:=Xwb a b hl xs (k+1) hd
   refine⟨o,by rw[show(x != b[k]'(by omega))=false by simpa using h1,cond_false,h2],?_⟩
   rw[h3,if_neg (by omega),if_neg (by omega)]
  ·refine⟨.x1 (decide (x<b[k]'(by omega))),by rw[show(x != b[k]'(by omega))=true by simpa using h1,cond_true],?_⟩
   by_cases h2:x<b[k]'(by omega)
   ·simp[h2]
   ·rw[if_neg h2,if_pos (by omega)];simp[h2]
theorem X05m {a b:List Int} (hl:a.length=b.length) (h:a.length<=100):Xb8 a b=some (decide (Xgw a b<0)):=by
 unfold Xb8
 obtain⟨o,h1,h2⟩:=Xwb a b hl a 0 rfl
 rw[X19 (by omega),Yo,h1,Yo]
 simp only[List.drop_zero] at h2
 rw[<-h2]
 cases o<;>rfl
def leN (N:List (List Int)) (i j:Nat):Bool:=leC (N.getD i []) (N.getD j [])
theorem getD_some {α:Type} {l:List α} {i:Nat} {d:α} (h:i<l.length):l[i]?=some (l.getD i d):=by
 rw[Ye h,List.getD_eq_getElem?_getD,Ye h];rfl
theorem Xpf {α:Type} (f:α->α->Bool) (l:List α):[].merge l f=l:=by simp
theorem X05l {w:Nat} (N:List (List Int)) (hN:∀ x∈N,x.length=w) (hw:w<=100) (a b:List Nat) (ha:∀ x∈a,x<N.length) (hb:∀ x∈b,x<N.length) (hab:a.length+b.length<=10000) :
  ∀ (m n i k:Nat) (out:List Int),m=(a.length - i)+(b.length - k)->m<n->i<=a.length->k<=b.length->out.length+m<=10000 ->
   X34 N (a.map Int.ofNat) (b.map Int.ofNat) n out (i:Int) (k:Int)=some (.x0 (out++((a.drop i).merge (b.drop k) (leN N)).map Int.ofNat)):=by
 have hA:∀ i (h:i<a.length),X1p (a.map Int.ofNat) (i:Int)=some (a[i]:Int):=fun i h=>by rw[X3i];simp[h]
 have hB:∀ i (h:i<b.length),X1p (b.map Int.ofNat) (i:Int)=some (b[i]:Int):=fun i h=>by rw[X3i];simp[h]
 have hK:∀ j,j<N.length->X1p N (j:Int)=some (N.getD j [])/\(N.getD j []).length=w:=fun j h=>by
  rw[X3i]
  refine⟨getD_some h,hN _ ?_⟩
  rw[List.getD_eq_getElem?_getD,Ye h];exact List.getElem_mem h
 have ew:∀ j:Nat,j<=10000->IntKind.i64.wrap ((j:Int)+1)=((j+1:Nat):Int):=fun j h=>by rw[X03 (by omega) (by omega)];omega
 intro m
 induction m with
 |zero =>
  intro n i k out hm hn hi hk ho
  obtain⟨n,rfl⟩:∃ q,n=q+1:=⟨n - 1,by omega⟩
  obtain rfl:i=a.length:=by omega
  obtain rfl:k=b.length:=by omega
  rw[X34]
  simp only[List.length_map,Int.lt_irrefl,decide_false,cond_false,Yo,List.drop_length,List.merge_right,List.map_nil,List.append_nil]
 |succ m ih =>
  intro n i k out hm hn hi hk ho
  obtain⟨n,rfl⟩:∃ q,n=q+1:=⟨n - 1,by omega⟩
  rw[X34]
  simp only[List.length_map]
  have hc:((bif decide ((i:Int)<(a.length:Int)) then some (bif decide ((i:Int)<(a.length:Int)) then true else false) else some (bif decide ((i:Int)<(a.length:Int)) then true else decide ((k:Int)<(b.length:Int)))):Option Bool)=some true:=by
   by_cases h:i<a.length
   ·rw[Yt (by omega)];rfl
   ·rw[Yf (by omega),Yt (show(k:Int)<(b.length:Int) by omega)];rfl
  rw[hc,Yo,cond_true]
  by_cases hkb:k=b.length
  ·subst hkb
   have hia:i<a.length:=by omega
   simp only[beq_self_eq_true,cond_true,Yo]
   rw[hA i hia,Yo,X1y (by simp;omega),Yo,ew i (by omega)]
   rw[ih n (i+1) b.length _ (by omega) (by omega) (by omega) (by omega) (by simp;omega)]
   rw[List.drop_length,List.merge_right,List.merge_right,List.drop_eq_getElem_cons hia,List.map_cons,List.append_assoc];rfl
  ·have hkb':k<b.length:=by omega
   rw[show((k:Int)==(b.length:Int))=false by simp;omega]
   simp only[cond_false]
   have hdb:b.drop k=b[k]::b.drop (k+1):=List.drop_eq_getElem_cons hkb'
   by_cases hia:i<a.length
   ·have hda:a.drop i=a[i]::a.drop (i+1):=List.drop_eq_getElem_cons hia
    rw[Yt (show(i:Int)<(a.length:Int) by omega)]
    obtain⟨k1,k2⟩:=hK b[k] (hb _ (List.getElem_mem hkb'))
    obtain⟨k3,k4⟩:=hK a[i] (ha _ (List.getElem_mem hia))
    simp only[cond_true]
    rw[hB k hkb',Yo,k1,Yo,hA i hia,Yo,k3,Yo,X05m (by rw[k2,k4]) (by omega)]
    simp only[Yo]
    rw[hda,hdb,List.cons_merge_cons]
    have hle:leN N a[i] b[k]=!(decide (Xgw (N.getD b[k] []) (N.getD a[i] [])<0)):=rfl
    rw[<-hle]
    cases hl:leN N a[i] b[k] with
    |true =>
     rw[cond_true,if_pos rfl,X1y (by simp;omega),Yo,ew i (by omega),ih n (i+1) k _ (by omega) (by omega) (by omega) (by omega) (by simp;omega),hdb]
     simp
    |false =>
     rw[cond_false,if_neg (by simp),X1y (by simp;omega),Yo,ew k (by omega),ih n i (k+1) _ (by omega) (by omega) (by omega) (by omega) (by simp;omega),hda]
     simp
   ·rw[Yf (show ¬ (i:Int)<(a.length:Int) by omega)]
    simp only[cond_false,Yo]
    obtain rfl:i=a.length:=by omega
    rw[hB k hkb',Yo,X1y (by simp;omega),Yo,ew k (by omega),ih n a.length (k+1) _ (by omega) (by omega) (by omega) (by omega) (by simp;omega)]
    rw[List.drop_length,Xpf,Xpf,hdb,List.map_cons,List.append_assoc];rfl
theorem Xl3 {w:Nat} (N:List (List Int)) (hN:∀ x∈N,x.length=w) (hw:w<=100) (hlen:N.length<=10000):∀ (n a b:Nat),b - a<n->a<=b->b<=N.length ->
  ∃ P:List Nat,X4u n N (a:Int) (b:Int)=some (P.map Int.ofNat)/\P.Perm (List.range' a (b - a))/\P.Pairwise (fun i j=>leN N i j=true)
 |0,a,b,h,_,_=>absurd h (by omega)
 |n+1,a,b,h,hab,hb=>by
  rw[X4u,X03 (z:=(b:Int) - a) (by omega) (by omega)]
  by_cases h2:b - a<2
  ·rw[Yt (by omega),cond_true]
   by_cases h3:a<b
   ·rw[Yt (by omega),cond_true]
    exact⟨[a],rfl,by rw[show b - a=1 by omega];exact .refl _,List.pairwise_singleton _ _⟩
   ·rw[Yf (by omega),cond_false]
    exact⟨[],rfl,by rw[show b - a=0 by omega];exact .refl _,.nil⟩
  ·rw[Yf (by omega),cond_false]
   have hm:IntKind.i64.wrap (Int.tdiv (IntKind.i64.wrap ((a:Int)+b)) 2)=(((a+b) / 2:Nat):Int):=by
    rw[X03 (z:=(a:Int)+b) (by omega) (by omega),show(a:Int)+b=((a+b:Nat):Int) by omega]
    have:Int.tdiv ((a+b:Nat):Int) 2=(((a+b) / 2:Nat):Int):=rfl
    rw[this,X03 (by omega) (by omega)]
   rw[hm]
   obtain⟨P,p1,p2,p3⟩:=Xl3 N hN hw hlen n a ((a+b) / 2) (by omega) (by omega) (by omega)
   obtain⟨Q,q1,q2,q3⟩:=Xl3 N hN hw hlen n ((a+b) / 2) b (by omega) (by omega) (by omega)
   have pl:P.length=(a+b) / 2 - a:=by rw[p2.length_eq];simp
   have ql:Q.length=b - (a+b) / 2:=by rw[q2.length_eq];simp
   have pm:∀ x∈P,x<N.length:=fun x hx=>by
    have:=(List.mem_range'_1.1 (p2.mem_iff.1 hx));omega
   have qm:∀ x∈Q,x<N.length:=fun x hx=>by
    have:=(List.mem_range'_1.1 (q2.mem_iff.1 hx));omega
   have hml:=X05l N hN hw P Q pm qm (by omega) (P.length+Q.length) FU 0 0 [] (by omega) (by unfold FU;omega) (by omega) (by omega) (by simp;omega)
   rw[p1,Yo,q1,Yo]
   have hml':X34 N (P.map Int.ofNat) (Q.map Int.ofNat) FU [] 0 0=_:=hml
   rw[hml',Yo]
   refine⟨P.merge Q (leN N),by simp,?_,?_⟩
   ·refine(List.merge_perm_append (leN N)).trans ((p2.append q2).trans ?_)
    rw[show b - a=((a+b) / 2 - a)+(b - (a+b) / 2) by omega,<-List.range'_append_1,show a+((a+b) / 2 - a)=(a+b) / 2 by omega]
   ·have hmem:∀ x∈P.merge Q (leN N),x<N.length:=fun x hx=>by
     rcases List.mem_append.1 ((List.merge_perm_append (leN N)).mem_iff.1 hx) with h|h
     ·exact pm x h
     ·exact qm x h
    have key:∀ (xs ys:List Nat),(∀ x∈xs,x<N.length)->(∀ x∈ys,x<N.length)->xs.Pairwise (fun i j=>leN N i j=true)->ys.Pairwise (fun i j=>leN N i j=true)->(xs.merge ys (leN N)).Pairwise (fun i j=>leN N i j=true):=by
     have hKl:∀ j,j<N.length->(N.getD j []).length=w:=fun j h=>by
      apply hN;rw[List.getD_eq_getElem?_getD,Ye h];exact List.getElem_mem h
     intro xs ys
     induction xs generalizing ys with
     |nil=>intro _ _ _ h;rw[Xpf];exact h
     |cons x xs ihx =>
      intro hx hy h1 h2
      induction ys with
      |nil=>rw[List.merge_right];exact h1
      |cons y ys ihy =>
       rw[List.cons_merge_cons]
       have hxx:=hx x List.mem_cons_self
       have hyy:=hy y List.mem_cons_self
       split
       ·rename_i hle
        refine List.pairwise_cons.2 ⟨fun z hz=>?_,ihx (y::ys) (fun q hq=>hx q (List.mem_cons_of_mem _ hq)) hy (List.pairwise_cons.1 h1).2 h2⟩
        rcases List.mem_append.1 ((List.merge_perm_append (leN N)).mem_iff.1 hz) with hz|hz
        ·exact(List.pairwise_cons.1 h1).1 z hz
        ·rcases List.mem_cons.1 hz with rfl|hz
         ·exact hle
         ·exact Xm4 (hKl x hxx) (hKl y hyy) (hKl z (hy z (List.mem_cons_of_mem _ hz))) hle ((List.pairwise_cons.1 h2).1 z hz)
       ·rename_i hle
        have hyx:leN N y x=true:=by
         have:=Xrr (a:=N.getD x []) (b:=N.getD y [])
         rw[show leC (N.getD x []) (N.getD y [])=false by simpa[leN] using hle] at this
         simpa[leN] using this
        refine List.pairwise_cons.2 ⟨fun z hz=>?_,ihy (fun q hq=>hy q (List.mem_cons_of_mem _ hq)) (List.pairwise_cons.1 h2).2⟩
        rcases List.mem_append.1 ((List.merge_perm_append (leN N)).mem_iff.1 hz) with hz|hz
        ·rcases List.mem_cons.1 hz with rfl|hz
         ·exact hyx
         ·exact Xm4 (hKl y hyy) (hKl x hxx) (hKl z (hx z (List.mem_cons_of_mem _ hz))) hyx ((List.pairwise_cons.1 h1).1 z hz)
        ·exact(List.pairwise_cons.1 h2).1 z hz
    exact key P Q pm qm p3 q3
theorem Xli {α:Type} [Inhabited α] {w:Nat} {c:α->α->Option Int} (K:α->List Int) (hK:∀ x,(K x).length=w) (hinj:∀ x y,K x=K y->x=y) (hc:∀ x y,c x y=some (Xgw (K x) (K y))) (l:List α) {P:List Nat}
  (h1:P.Perm (List.range' 0 l.length)) (h2:P.Pairwise (fun i j=>leN (l.map K) i j=true)):P.map (fun i=>l.getD i default)=X70 c l:=by
 have hle:∀ x y,(!(decide ((c y x).getD 0<0)))=leC (K x) (K y):=fun x y=>by rw[hc];rfl
 have hs:X70 c l=l.mergeSort fun x y=>leC (K x) (K y):=by
  unfold X70
  congr 1
  funext x y;exact hle x y
 have hmem:∀ i∈P,i<l.length:=fun i hi=>by
  have:=List.mem_range'_1.1 (h1.mem_iff.1 hi);omega
 have hget:∀ i,i<l.length->(l.map K).getD i []=K (l.getD i default):=fun i hi=>by
  rw[List.getD_eq_getElem?_getD,List.getElem?_map,getD_some (d:=default) hi];rfl
 rw[hs]
 refine List.Perm.eq_of_pairwise (le:=fun x y=>leC (K x) (K y)=true) (fun a b _ _ g1 g2=>hinj a b (X090 (by rw[hK,hK]) g1 g2)) ?_ ?_ ?_
 ·rw[List.pairwise_map]
  refine h2.imp_of_mem fun {i j} hi hj h=>?_
  unfold leN at h
  rw[hget i (hmem i hi),hget j (hmem j hj)] at h
  exact h
 ·exact List.pairwise_mergeSort (fun a b d g1 g2=>Xm4 (hK a) (hK b) (hK d) g1 g2) (fun a b=>Xrr) l
 ·refine(h1.map _).trans (List.Perm.trans ?_ (List.mergeSort_perm _ _).symm)
  have:(List.range' 0 l.length).map (fun i=>l.getD i default)=l:=by
   apply List.ext_getElem?
   intro i
   rw[List.getElem?_map]
   by_cases hi:i<l.length
   ·rw[List.getElem?_range' hi]
    simp only[Nat.zero_add,Nat.one_mul,Option.map_some]
    rw[<-getD_some hi]
   ·rw[List.getElem?_eq_none (by simp;omega),List.getElem?_eq_none (by omega)];rfl
  rw[this]
theorem Xqv (Y:List X0t):∀ (xs:List X0t) (k:Nat) (o:List (List Int)),o.length+xs.length<=10000->X3e Y xs k o=some (.x0 (o++xs.map Xes))
 |[],k,o,_=>by simp[X3e]
 |x::xs,k,o,h=>by
  simp only[List.length_cons] at h
  rw[X3e,show Xi0 x=some (Xes x) from rfl,Yo,X1y (by simp;omega),Yo,Xqv Y xs (k+1) _ (by simp;omega)]
  simp
theorem Xqu (l:List X0t) (Y:List Int):∀ (P:List Nat) (k:Nat) (o:List X0t),(∀ i∈P,i<l.length)->o.length+P.length<=10000->X3d l Y (P.map Int.ofNat) k o=some (.x0 (o++P.map (fun i=>l.getD i default)))
 |[],k,o,_,_=>by simp[X3d]
 |i::P,k,o,h,hn=>by
  simp only[List.length_cons] at hn
  rw[List.map_cons,X3d,show X1p l (Int.ofNat i)=l[i]? from X3i l i,getD_some (d:=default) (h i List.mem_cons_self),Yo,X1y (by simp;omega),Yo,Xqu l Y P (k+1) _ (fun j hj=>h j (List.mem_cons_of_mem _ hj)) (by simp;omega)]
  simp
theorem Xlo {l:List X0t} (hl:l.length<=4500):Xa4 l=some (X70 X07 l):=by
 unfold Xa4
 rw[X19 (by omega),Yo,Xqv l l 0 [] (by simp;omega)]
 simp only[Yo,List.nil_append]
 obtain⟨P,p1,p2,p3⟩:=Xl3 (w:=5) (l.map Xes) (fun x hx=>by obtain⟨y,_,rfl⟩:=List.mem_map.1 hx;rfl) (by omega) (by simp;omega) FU 0 (l.map Xes).length (by simp;unfold FU;omega) (by omega) (by omega)
 have p1':X4u FU (l.map Xes) 0 ((l.map Xes).length:Int)=_:=p1
 rw[p1',Yo]
 rw[Nat.sub_zero,List.length_map] at p2
 have pl:P.length=l.length:=by rw[p2.length_eq];simp
 rw[X19 (by simp;omega),Yo,Xqu l _ P 0 [] (fun i hi=>by have:=List.mem_range'_1.1 (p2.mem_iff.1 hi);omega) (by simp;omega)]
 simp only[Yo,List.nil_append]
 rw[Xli Xes (w:=5) (fun _=>rfl) (fun x y h=>by
  obtain⟨k1,⟨a1,b1⟩,⟨c1,d1⟩⟩:=x
  obtain⟨k2,⟨a2,b2⟩,⟨c2,d2⟩⟩:=y
  simp only[Xes,List.cons.injEq,and_true] at h
  obtain⟨rfl,rfl,rfl,rfl,rfl⟩:=h;rfl) Xr2 l p2 p3]
theorem Xrw (Y:List X7):∀ (xs:List X7) (k:Nat) (o:List (List Int)),o.length+xs.length<=10000->X4j Y xs k o=some (.x0 (o++xs.map Xet))
 |[],k,o,_=>by simp[X4j]
 |x::xs,k,o,h=>by
  simp only[List.length_cons] at h
  rw[X4j,show Xcc x=some (Xet x) from rfl,Yo,X1y (by simp;omega),Yo,Xrw Y xs (k+1) _ (by simp;omega)]
  simp
theorem Xrv (l:List X7) (Y:List Int):∀ (P:List Nat) (k:Nat) (o:List X7),(∀ i∈P,i<l.length)->o.length+P.length<=10000->X4i l Y (P.map Int.ofNat) k o=some (.x0 (o++P.map (fun i=>l.getD i default)))
 |[],k,o,_,_=>by simp[X4i]
 |i::P,k,o,h,hn=>by
  simp only[List.length_cons] at hn
  rw[List.map_cons,X4i,show X1p l (Int.ofNat i)=l[i]? from X3i l i,getD_some (d:=default) (h i List.mem_cons_self),Yo,X1y (by simp;omega),Yo,Xrv l Y P (k+1) _ (fun j hj=>h j (List.mem_cons_of_mem _ hj)) (by simp;omega)]
  simp
theorem Xp6 {l:List X7} (hl:l.length<=4000):Xda l=some (X70 X46 l,0):=by
 unfold Xda
 rw[Yf (by omega),cond_false,X19 (by omega),Yo,Xrw l l 0 [] (by simp;omega)]
 simp only[Yo,List.nil_append]
 obtain⟨P,p1,p2,p3⟩:=Xl3 (w:=3) (l.map Xet) (fun x hx=>by obtain⟨y,_,rfl⟩:=List.mem_map.1 hx;rfl) (by omega) (by simp;omega) FU 0 (l.map Xet).length (by simp;unfold FU;omega) (by omega) (by omega)
 have p1':X4u FU (l.map Xet) 0 ((l.map Xet).length:Int)=_:=p1
 rw[p1',Yo]
 rw[Nat.sub_zero,List.length_map] at p2
 have pl:P.length=l.length:=by rw[p2.length_eq];simp
 rw[X19 (by simp;omega),Yo,Xrv l _ P 0 [] (fun i hi=>by have:=List.mem_range'_1.1 (p2.mem_iff.1 hi);omega) (by simp;omega)]
 simp only[Yo,List.nil_append]
 rw[Xli Xet (w:=3) (fun _=>rfl) (fun x y h=>by
  obtain⟨k1,a1,b1⟩:=x
  obtain⟨k2,a2,b2⟩:=y
  simp only[Xet,List.cons.injEq,and_true] at h
  obtain⟨rfl,rfl,rfl⟩:=h;rfl) Xr5 l p2 p3]
theorem X000 {α:Type} {c:α->α->Option Int} {l:List α} (h:l.length<=10000):Xp1 c l=some (X70 c l):=by unfold Xp1;rw[if_pos (by omega)]
theorem Xqz {l:List X0t} (h:l.length<=4000):Xfd l=some (X70 X07 l,0):=by
 unfold Xfd
 rw[Yf (by omega),cond_false,X1y (by omega)]
 have:(bif l.isEmpty then some l else ((some ()).bind fun _=>some l):Option (List X0t))=some l:=by cases l.isEmpty<;>rfl
 rw[this,Yo,X000 (by omega)];rfl
theorem Xr0 {l:List X7} (h:l.length<=4000):Xfe l=some (X70 X46 l,0):=by
 unfold Xfe X26
 rw[Yf (by omega),cond_false,X1y (by omega)]
 have:(bif l.isEmpty then some l else ((some ()).bind fun _=>some l):Option (List X7))=some l:=by cases l.isEmpty<;>rfl
 rw[this,Yo,X000 (by omega)];rfl
end Go.D


namespace Go.D
theorem X06t {q:Xu} (hq:QW q) (hn:QN q) {l:List (List Xk)} (hl:l.length<=1000) (hr:∀ x∈l,∀ e∈x,Xzh e.Record) :
  ∃ a b e,X4a q l=some (a,b,e)/\X72 q l=some (a,b,e)/\a.length<=4000/\b.length<=4000:=by
 by_cases he:(if (Xt2 q).2≠0 then (Xt2 q).2 else if l.length≠q.Sources.length then 2 else Xd5 l)=0
 ·have hask:=Xh4 hq hl
  rw[he] at hask
  by_cases hz:(Xt2 q).2=0
  ·rw[if_neg (by omega)] at he
   by_cases hlen:l.length=q.Sources.length
   ·rw[if_neg (by omega)] at he
    have hev:=Xh8.1 he
    have hri:RI q l:=⟨⟨hq,hz⟩,hlen,fun x hx=>⟨hev x hx,by have:=Xn4 (hev x hx);omega⟩⟩
    obtain⟨es,hc,hes,hall⟩:=Xh7 hri
    have hrl:=Xj1 q es
    have hrA:X72 q l=some (Xa3 q es,Xm8 q l,0):=by
     unfold X72
     rw[hask,Yo,Xp7 hri hn hr hc hes,Xp9 hri];rfl
    obtain⟨hm,_⟩:=Xic hri hc
    exact⟨_,_,_,hm,hrA,by omega,Xy1 hri⟩
   ·rw[if_pos hlen] at he;cases he
  ·rw[if_pos hz] at he;exact absurd he hz
 ·obtain⟨h1,h2,_,_⟩:=X03g hq hl _ he rfl
  exact⟨[],[],_,h1,h2,by simp,by simp⟩
theorem Xlv (t:Int) (o0:X2c) (o9 o3:List X7) (Y:List X0t):∀ (xs:List X0t) (k:Nat) (o:List X0t),o.length+xs.length<=10000->X2d t o0 o9 o3 Y xs k o=some (.x0 (o++Xso t xs) o3)
 |[],k,o,_=>by simp[X2d,Xso]
 |x::xs,k,o,hn=>by
  simp only[List.length_cons] at hn
  rw[X2d]
  unfold Xso
  rw[List.filter_cons]
  by_cases h:x.Span.End<=t
  ·rw[Yt h,cond_true,X1y (by rw[List.length_append,List.length_singleton];omega)]
   simp only[Yo,if_true]
   rw[Xlv t o0 o9 o3 Y xs (k+1) _ (by rw[List.length_append,List.length_singleton];omega)]
   simp[Xso]
  ·rw[Yf h,cond_false]
   simp only[Yo,Bool.false_eq_true,if_false]
   exact Xlv t o0 o9 o3 Y xs (k+1) o (by omega)
theorem Xll (a:List X0t):∀ (xs:List X0t) (k:Nat),a.drop k=xs->X2t a a xs k=some .x0
 |[],k,_=>rfl
 |x::xs,k,h=>by
  have hkx:a[k]?=some x:=by
   have:=congrArg (fun z=>z[0]?) h
   simpa using this
  have hd:a.drop (k+1)=xs:=by
   have:=congrArg List.tail h
   simpa using this
  rw[X2t,X3i,hkx,Yo,Xve,Yt rfl]
  exact Xll a xs (k+1) hd
theorem Xh1 (a:List X7):∀ (xs:List X7) (k:Nat),a.drop k=xs->X21 a a xs k=some .x0
 |[],k,_=>rfl
 |x::xs,k,h=>by
  have hkx:a[k]?=some x:=by
   have:=congrArg (fun z=>z[0]?) h
   simpa using this
  have hd:a.drop (k+1)=xs:=by
   have:=congrArg List.tail h
   simpa using this
  rw[X21,X3i,hkx,Yo,Xd0,Yt rfl]
  exact Xh1 a xs (k+1) hd
theorem Xop {a:X2c} (h1:a.Rows.length<=10000) (h2:a.Late.length<=10000):Xb7 a a=some true:=by
 unfold Xb7 X9u X6n
 rw[bne_self_eq_false,cond_false,X19 (by omega),Yo,Xll a.Rows a.Rows 0 rfl,bne_self_eq_false,cond_false,X19 (by omega),Yo,Xh1 a.Late a.Late 0 rfl];rfl
theorem Xom (Y:List (List Xk)):∀ (xs:List (List Xk)) (k:Nat),∃ o,X4t Y xs k=some o
 |[],k=>⟨_,rfl⟩
 |x::xs,k=>by
  rw[X4t]
  cases decide ((x.length:Int)>70) with
  |true=>exact⟨_,rfl⟩
  |false=>exact Xom Y xs (k+1)
theorem Xnf (q:Xu) (l:List (List Xk)) (hl:l.length<=140737488355328):∃ b,X9b q l=some b/\(b=false->l.length<=6):=by
 obtain⟨g,hg⟩:=Xh5 q
 unfold X9b
 rw[hg,Yo]
 cases g with
 |true=>exact⟨true,rfl,fun h=>by cases h⟩
 |false =>
  simp only[cond_false,Yo]
  by_cases h6:l.length>6
  ·rw[Yt (by omega)];exact⟨true,rfl,fun h=>by cases h⟩
  ·rw[Yf (by omega),cond_false,X19 (by omega),Yo]
   obtain⟨o,ho⟩:=Xom l l 0
   rw[ho,Yo]
   cases o with
   |x0=>exact⟨false,rfl,fun _=>by omega⟩
   |x1=>exact⟨true,rfl,fun h=>by cases h⟩
theorem X00l {q:Xu} (hq:QW q) (hn:QN q) {l:List (List Xk)} (hl:l.length<=140737488355328) (hr:∀ x∈l,∀ e∈x,Xzh e.Record) (t:Int):X2w q l t=some true:=by
 unfold X2w
 obtain⟨b,hb,hb2⟩:=Xnf q l hl
 rw[hb,Yo]
 cases b with
 |true=>rfl
 |false =>
  have h6:=hb2 rfl
  rw[cond_false]
  obtain⟨A,B,e,h1,h2,n1,n2⟩:=X06t hq hn (l:=l) (by omega) hr
  have hel:(Xso t A).length<=A.length:=List.length_filter_le _ _
  by_cases he:e=0
  ·subst he
   have hp:X50 q l t=some (⟨X70 X07 (Xso t A),X70 X46 B⟩,0):=by
    unfold X50
    rw[h1,Yo]
    simp only[bne_self_eq_false,cond_false]
    rw[X19 (by omega),Yo,Xlv t _ _ _ _ A 0 [] (by simp;omega),Yo]
    simp only[List.nil_append]
    rw[Xqz (by omega),Yo]
    simp only[bne_self_eq_false,cond_false]
    rw[Xr0 (by omega),Yo];rfl
   have hrf:X6g q l t=some (⟨X70 X07 (Xso t A),X70 X46 B⟩,0):=by
    unfold X6g
    rw[h2,Yo]
    simp only[bne_self_eq_false,cond_false]
    rw[Xp6 (by omega),Yo]
    unfold Xbc
    rw[X19 (by omega),Yo,Xow _ _ A 0 [] (by simp;omega)]
    simp only[Yo,List.nil_append]
    rw[Xlo (by omega)];rfl
   rw[hp,hrf]
   simp only[Yo]
   rw[Xop (by show(X70 _ (Xso t A)).length<=10000;unfold X70;rw[List.length_mergeSort];omega) (by show(X70 _ B).length<=10000;unfold X70;rw[List.length_mergeSort];omega)];rfl
  ·have hp:X50 q l t=some (⟨[],[]⟩,e):=by
    unfold X50
    rw[h1,Yo]
    simp only[Xej he,cond_true]
   have hrf:X6g q l t=some (⟨[],[]⟩,e):=by
    unfold X6g
    rw[h2,Yo]
    simp only[Xej he,cond_true]
   rw[hp,hrf]
   simp only[Yo]
   rw[Xop (by simp) (by simp),Yo,cond_true,beq_self_eq_true]
end Go.D


namespace Go.D
theorem X06u {z:Int} (h:wfI .u8 z):0<=z:=by
 have h:=h
 simp only[wfI,Lit.wf,IntKind.bits,IntKind.signed] at h
 simp at h
 have e1:IntKind.u8.min=0:=by decide
 omega
theorem Xtb {z:Int} (h:wfI .i64 z):z<=9223372036854775807 /\ -9223372036854775808<=z:=by
 have h:=h
 simp only[wfI,Lit.wf,IntKind.bits,IntKind.signed] at h
 simp at h
 have e1:IntKind.i64.min = -9223372036854775808:=by decide
 have e2:IntKind.i64.max=9223372036854775807:=by decide
 omega
theorem X0cp {q:Xu} (w:Xhu q):QW q:=by
 obtain⟨_,⟨_,h1⟩,_,_,⟨_,h2⟩,h3,_⟩:=w
 exact⟨fun x hx=>X06u (h1 x hx).1,fun x hx=>X06u (h2 x hx).1,Xtb h3.2.2⟩
end Go.D


namespace Go.D
theorem Xs6 {z:Int} (h:wfI .i64 z):i64 z:=⟨(Xtb h).2,(Xtb h).1⟩
theorem X0cq {q:Xu} (w:Xhu q):QN q:=by
 obtain⟨_,⟨_,h1⟩,_,_,⟨_,h2⟩,_⟩:=w
 exact⟨fun x hx=>Xs6 (h1 x hx).2.1,fun x hx=>Xs6 (h2 x hx).2.1⟩
end Go.D


namespace Go.D
theorem Xez (q:Xu) (l:List (List Xk)) (t:Int) (w0:Xhu q) (w1:(List.length l<=maxLen/\∀ y∈l,(List.length y<=maxLen/\∀ yy∈y,Xhv yy))) {P:Prop} (_:P):X2w q l t=some true:=by
 by_cases h:l.length<=140737488355328
 ·exact X00l (X0cp w0) (X0cq w0) h (fun x hx e he=>by
   obtain⟨_,_,h⟩:=(w1.2 x hx).2 e he
   exact⟨Xs6 h.1,Xs6 h.2.1,Xs6 h.2.2⟩) t
 ·unfold X2w X9b
  obtain⟨g,hg⟩:=Xh5 q
  rw[hg,Yo]
  cases g with
  |true=>rfl
  |false =>
   simp only[cond_false,Yo]
   rw[Yt (by omega)];rfl
end Go.D
