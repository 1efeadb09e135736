/- Parts of the proof, laid together. -/
import Derived.Test.YtfdfgobnpnoomaaGreatPza
set_option linter.all false

namespace Go.D
theorem Xfy {l:List Xk} (hn:l.length<=1000):Xd6 l=some (Xb6 X4l l):=by
 have key:∀ (xs:List Xk) (k:Nat) (m:Int),X70 l xs k m=some (.x0 (Xb6 m xs)):=by
  intro xs
  induction xs with
  |nil=>intro k m;rfl
  |cons x xs ih =>
   intro k m
   rw[X70]
   have hm:Xb6 m (x::xs)=Xb6 (Xgx m x) xs:=rfl
   rw[hm]
   unfold Xgx
   cases hx:x.Mark with
   |false=>simp only[cond_false,Yo];rw[ih];simp
   |true =>
    simp only[cond_true,Yo]
    by_cases h:x.Time>m
    ·rw[Yt h,cond_true,Yo,ih,if_pos trivial,if_pos h]
    ·rw[Yf h,cond_false,Yo,ih,if_pos trivial,if_neg h]
 unfold Xd6
 rw[X1j (by omega),Yo,show(-9223372036854775808:Int)=X4l from rfl,key];rfl
theorem Xu9:∀ (l:List Xk) (m:Int),(∀ x∈l,Xro x=true)->m<=Xgc->Xb6 m l<=Xgc
 |[],m,_,h=>h
 |x::l,m,hx,h=>by
  have hm:Xb6 m (x::l)=Xb6 (Xgx m x) l:=rfl
  rw[hm]
  refine Xu9 l _ (fun y hy=>hx y (List.mem_cons_of_mem _ hy)) ?_
  have ho:=hx x List.mem_cons_self
  unfold Xgx
  unfold Xro Xdx at ho
  cases hk:x.Mark with
  |false=>simpa using h
  |true =>
   rw[hk] at ho
   simp only[cond_true,Bool.and_eq_true,Bool.or_eq_true,decide_eq_true_eq,beq_iff_eq] at ho
   rw[if_pos rfl]
   split
   ·rcases ho.2 with ho|ho
    ·unfold Xgc;omega
    ·omega
   ·exact h
theorem Xyw (l:List (List Xk)) (hx:∀ x∈l,x.length<=1000) (hl:l.length<=10):∀ (m n k:Nat) (y:Int),m=l.length - k->m<n->k<=l.length->X51 l n y (k:Int)=some (.x0 (Xeg y (l.drop k)))
 |0,n,k,y,hm,hn,hk=>by
  obtain⟨n,rfl⟩:∃ z,n=z+1:=⟨n - 1,by omega⟩
  rw[X51,Yf (by omega),List.drop_of_length_le (by omega)];rfl
 |m+1,n,k,y,hm,hn,hk=>by
  obtain⟨n,rfl⟩:∃ z,n=z+1:=⟨n - 1,by omega⟩
  have hk':k<l.length:=by omega
  have e:IntKind.i64.wrap ((k:Int)+1)=((k+1:Nat):Int):=by rw[X04 (by omega) (by omega)];omega
  rw[X51,Yt (show(k:Int)<(l.length:Int) by omega),cond_true,X3y,Ye hk',Yo,Xfy (hx _ (List.getElem_mem hk')),Yo,e,Xyw l hx hl m n (k+1) _ (by omega) (by omega) (by omega),List.drop_eq_getElem_cons hk',Xeg]
theorem Xgq {l:List (List Xk)} (h1:1<=l.length) (h4:l.length<=4) (h:∀ x∈l,chk x=0):X9v l=some (Xeg Xgc l):=by
 have hlen:∀ x∈l,x.length<=1000:=fun x hx=>by have:=Xid (h x hx);omega
 unfold X9v
 match l,h1 with
 |x::xs,_ =>
  have hx:=h x List.mem_cons_self
  have hg:X1q (x::xs) 0=some x:=rfl
  rw[hg,Yo,Xfy (hlen x List.mem_cons_self),Yo,show(1:Int)=((1:Nat):Int) from rfl,Xyw (x::xs) hlen (by omega) ((x::xs).length - 1) FU 1 _ rfl (by unfold FU;omega) (by omega)]
  have hle:=Xu9 x X4l (X053.1 hx).2 (by decide)
  have:(if Xb6 X4l x<Xgc then Xb6 X4l x else Xgc)=Xb6 X4l x:=by split<;>omega
  rw[Xeg,this];rfl
theorem Xfb {l:List Xk} (hl:l.length<=60) (b:Bool):∀ (xs:List Xk) (k:Nat) (out:List Xc),l.drop k=xs->out.length+xs.length<=100->X2f l b xs k out=some (.x0 (out++Xgt b (Xb6 X4l (l.take k)) xs))
 |[],k,out,_,_=>by simp[X2f,Xgt]
 |x::xs,k,out,hd,hn=>by
  obtain⟨hlt,hkx,hd'⟩:=Go.Av.drop_cons hd
  simp only[List.length_cons] at hn
  have hs:X6k l 0 (k:Int)=some (l.take k):=by
   unfold X6k
   rw[if_pos ⟨by omega,by omega,by omega⟩]
   simp
  have ht:l.take (k+1)=l.take k++[x]:=by rw[List.take_add_one,hkx];rfl
  have hm:Xb6 X4l (l.take (k+1))=Xgx (Xb6 X4l (l.take k)) x:=by rw[ht,Xpw];rfl
  have tk:(l.take k).length<=1000:=by rw[List.length_take];omega
  rw[X2f,hs,Yo,Xfy tk,Yo,Xgt]
  cases hx:x.Mark with
  |true =>
   simp only[Bool.not_true,cond_false,Yo,Bool.false_and,Bool.false_eq_true,if_false]
   rw[Xfb hl b xs (k+1) out hd' (by omega),hm]
  |false =>
   simp only[Bool.not_false,cond_true,Yo,Bool.true_and]
   cases hb:(decide (x.Record.Time<Xb6 X4l (l.take k))==b) with
   |true =>
    simp only[cond_true,if_true]
    rw[X3t (by rw[List.length_append,List.length_singleton];omega),Yo,Yo,Xfb hl b xs (k+1) _ hd' (by rw[List.length_append,List.length_singleton];omega),hm]
    simp
   |false =>
    simp only[cond_false,Yo,Bool.false_eq_true,if_false]
    rw[Xfb hl b xs (k+1) out hd' (by omega),hm]
theorem Xdv {l:List Xk} (hl:l.length<=60) (b:Bool):X67 l b=some (Xgt b X4l l):=by
 unfold X67
 rw[X1j (by omega),Yo,Xfb hl b l 0 [] rfl (by simp;omega)];rfl
def Xxh (r:Xc):Prop:=i64 r.Key/\i64 r.Time/\i64 r.Value
structure QN (q:Xw):Prop where
 arg:∀ x∈q.Arg,i64 x.N
 wher:∀ x∈q.Where,i64 x.N
theorem X05d {q:Xw} (h:RQ q) (hn:QN q) (hw:0<q.Where.length) {r:Xc} (hr:Xxh r):X4f q.Where r=some (evV q.Where r):=by
 unfold X4f
 rw[Xd8 h.w.wher hn.wher (Xh3 (h.rts.2 hw)) hr];rfl
theorem X00u {q:Xw} (h:RQ q) (ha:q.Agg≠1):0<q.Arg.length:=by have:=(X95 (h.facts.2.1 ha)).2.1;omega
theorem X05e {q:Xw} (h:RQ q) (hn:QN q) (ha:q.Agg≠1) {r:Xc} (hr:Xxh r):X4f q.Arg r=some (evV q.Arg r):=by
 unfold X4f
 rw[Xd8 h.w.arg hn.arg (Xh3 (h.rts.1 (X00u h ha))) hr];rfl
theorem Xye {q:Xw} (h:RQ q) (hn:QN q) (Y:List (List Xk)) (i:Int) (R:List Xc):∀ (xs:List Xc) (k:Nat) (out:List Pu),(∀ r∈xs,Xxh r)->out.length+xs.length<=10000 ->
  X2s Y q i R xs k (out.map Xbf)=some (.x0 ((out++Xu1 q (X5i q i) xs).map Xbf))
 |[],k,out,_,_=>by simp[X2s,Xu1]
 |x::xs,k,out,hx,hl=>by
  simp only[List.length_cons] at hl
  have hr:=hx x List.mem_cons_self
  have go:=fun out1 (hl1:out1.length+xs.length<=10000)=>Xye h hn Y i R xs (k+1) out1 (fun y hy=>hx y (List.mem_cons_of_mem _ hy)) hl1
  rw[X2s,Xpf]
  have hc:((bif (decide ((q.Where.length:Int)>0)) then ((X4f q.Where x).bind fun v690=>some (bif (decide ((q.Where.length:Int)>0)) then (v690==(0:Int)) else false)) else (some false):Option Bool))=some (!(Xc2 q x)):=by
   unfold Xc2
   by_cases hw:0<q.Where.length
   ·rw[Yt (show(q.Where.length:Int)>0 by omega),cond_true,X05d h hn hw hr,Yo,cond_true,if_pos hw]
    by_cases hz:evV q.Where x=0
    ·simp[hz]
    ·simp[hz]
   ·rw[Yf (show ¬ (q.Where.length:Int)>0 by omega),cond_false,if_neg hw];rfl
  rw[hc,Yo]
  cases hcx:Xc2 q x with
  |false =>
   simp only[Bool.not_false,cond_true,Bool.false_eq_true,if_false,List.nil_append]
   exact go out (by omega)
  |true =>
   simp only[Bool.not_true,cond_false,if_true]
   have hp:((bif q.ByKey then (some (Xy.mk (Xc.mk x.Key x.Time 0) 0)) else (some (Xy.mk (Xc.mk 0 x.Time 0) 0)):Option (Xy)).bind fun Xaz=>(bif (q.Agg != (1:Int)) then ((X4f q.Arg x).bind fun v703=>some (Xy.mk (Xc.mk Xaz.Record.Key Xaz.Record.Time v703) Xaz.Side)) else (some Xaz):Option (Xy)).bind fun Xg9=>(bif q.Join then (some (Xy.mk Xg9.Record i)) else (some Xg9):Option (Xy)))=some (Xbf (Xm6 q x,X5i q i)):=by
    unfold Xbf Xm6 X5i
    by_cases ha:q.Agg=1
    ·rw[show(q.Agg != 1)=false by simp[ha],if_pos ha];cases q.ByKey<;>cases q.Join<;>rfl
    ·rw[Xcw ha,if_neg ha,X05e h hn ha hr];cases q.ByKey<;>cases q.Join<;>rfl
   have bindA:∀ {α β γ:Type} (o:Option α) (f:α->Option β) (g:β->Option γ),(o.bind f).bind g=o.bind fun x=>(f x).bind g:=fun o f g=>by cases o<;>rfl
   have hp2:=congrArg (fun o:Option Xy=>o.bind fun j707=>(X1t (List.length (out.map Xbf++[j707])) 32).bind fun _=>X2s Y q i R xs (k+1) (out.map Xbf++[j707])) hp
   simp only[bindA] at hp2
   refine hp2.trans ?_
   rw[Yo,X3t (by rw[List.length_append,List.length_singleton,List.length_map];omega),Yo]
   have:=go (out++[(Xm6 q x,X5i q i)]) (by rw[List.length_append,List.length_singleton];omega)
   rw[List.map_append] at this
   rw[List.append_assoc] at this
   exact this
theorem Xjo {late:Bool}:∀ (l:List Xk) (m:Int) (r:Xc),r∈Xgt late m l->∃ x∈l,x.Record=r
 |[],_,r,h=>by simp[Xgt] at h
 |x::l,m,r,h=>by
  rw[Xgt] at h
  split at h
  ·rcases List.mem_cons.1 h with rfl|h
   ·exact⟨x,List.mem_cons_self,rfl⟩
   ·obtain⟨y,hy,e⟩:=Xjo l _ r h;exact⟨y,List.mem_cons_of_mem _ hy,e⟩
  ·obtain⟨y,hy,e⟩:=Xjo l _ r h;exact⟨y,List.mem_cons_of_mem _ hy,e⟩
theorem Xyf {q:Xw} (h:RQ q) (hn:QN q) (Y:List (List Xk)):∀ (xs:List (List Xk)) (k:Nat) (out:List Pu),(∀ x∈xs,chk x=0/\∀ e∈x,Xxh e.Record)->out.length+60*xs.length<=10000 ->
  X44 Y q xs k (out.map Xbf)=some (.x0 ((out++Xck q k xs).map Xbf))
 |[],k,out,_,_=>by simp[X44,Xck]
 |x::xs,k,out,hx,hl=>by
  simp only[List.length_cons] at hl
  obtain⟨hc,hr⟩:=hx x List.mem_cons_self
  have h60:=Xid hc
  have hrl:=Xjp false x X4l
  have hrm:∀ r∈Xgt false X4l x,Xxh r:=fun r h=>by obtain⟨y,hy,rfl⟩:=Xjo _ _ _ h;exact hr y hy
  have hrs:Xbe x=Xgt false X4l x:=by unfold Xbe;rw[if_pos hc]
  have hpl:=Xu0 q (X5i q (k:Int)) (Xgt false X4l x)
  rw[X44,Xdv h60,Yo,X1j (by omega),Yo,Xye h hn Y (k:Int) _ _ 0 out hrm (by omega),Yo]
  simp only
  rw[Xyf h hn Y xs (k+1) _ (fun y hy=>hx y (List.mem_cons_of_mem _ hy)) (by rw[List.length_append];omega),Xck,hrs,List.append_assoc]
theorem Xnn {q:Xw} {l:List (List Xk)} (h:RI q l) (hn:QN q) (hr:∀ x∈l,∀ e∈x,Xxh e.Record):Xcf q l=some ((Xck q 0 l).map Xbf):=by
 have hs:=h.rq.src
 have hlen:=h.len
 unfold Xcf
 rw[X1j (by omega),Yo,show([]:List Xy)=([]:List Pu).map Xbf from rfl,Xyf h.rq hn l l 0 [] (fun x hx=>⟨(h.ev x hx).1,hr x hx⟩) (by simp;omega)];rfl
theorem X07k {l:List X03} (h0:∀ x∈l,0<=x.Kind) (hN:∀ x∈l,i64 x.N) (h:(kOf l).2.2=0) {r:Xc} (hr:Xxh r):i64 (evV l r):=by
 have hz:Xby l=0:=by
  by_cases hz:Xby l=0
  ·exact hz
  ·unfold kOf at h;rw[if_pos hz] at h;exact h
 obtain⟨h60,h1,_⟩:=X95 hz
 have h7:=Xd8 h0 hN h hr
 have hv:=Xgl (Xcl hz) hN hr l.length (l.length - 1) (by omega) (by omega) FU (by unfold FU;omega)
 unfold Xf9 at h7
 rw[Xg4,Yo,h] at h7
 simp only[bne_self_eq_false,cond_false] at h7
 rw[X04 (by omega) (by omega),show(l.length:Int) - 1=((l.length - 1:Nat):Int) by omega,hv.1,Yo] at h7
 have:Xee l r (l.length - 1)=evV l r:=congrArg Prod.fst (Option.some.inj h7)
 rw[<-this];exact hv.2
theorem Xyg {q:Xw} {l:List (List Xk)} (h:RI q l) (hn:QN q) (hr:∀ x∈l,∀ e∈x,Xxh e.Record):∀ p∈Xck q 0 l,i64 p.1.Value:=by
 intro p hp
 obtain⟨j,x,r,hj,hrx,_,rfl⟩:=Xgv l 0 p hp
 have hxm:=Yg hj
 have hir:Xxh r:=by
  unfold Xbe at hrx
  rw[if_pos (h.ev x hxm).1] at hrx
  obtain⟨y,hy,rfl⟩:=Xjo _ _ _ hrx
  exact hr x hxm y hy
 show i64 (if q.Agg=1 then 0 else evV q.Arg r)
 split
 ·unfold i64;omega
 ·rename_i ha
  exact X07k h.rq.w.arg hn.arg (Xh3 (h.rq.rts.1 (X00u h.rq ha))) hir
theorem Xnm {q:Xw} {l:List (List Xk)} (h:RI q l) (hn:QN q) (hr:∀ x∈l,∀ e∈x,Xxh e.Record) {es:List X6} (hc:X88 q.Window (Xck q 0 l) es) (hes:es.length<=3900):Xce q l=some (X7l q es):=by
 have hok:=h.ok
 have hf:=h.rq.facts
 have hlen:=hok.len
 unfold Xce
 rw[Xnn h hn hr,Yo,List.length_map,X1j (by omega),Yo,Xkd hf.2.2.2.2.1 hf.1.1 hf.1.2.1 hok (fun p hp=>⟨hok.side p hp,Xyg h hn hr p hp⟩) hc hes];rfl
theorem Xz2 {q:Xw} (hq:q.Late=2) (l:List (List Xk)) (hx:∀ x∈l,chk x=0) (hl:l.length<=10):∀ (m n k:Nat) (out:List Xc),m=l.length - k->m<n->k<=l.length->out.length+60*m<=1000->X2t l q n out (k:Int)=some (.x0 (out++Xg6 (l.drop k)))
 |0,n,k,out,hm,hn,hk,ho=>by
  obtain⟨n,rfl⟩:∃ z,n=z+1:=⟨n - 1,by omega⟩
  rw[X2t,Yf (by omega),List.drop_of_length_le (by omega)]
  simp[Xg6]
 |m+1,n,k,out,hm,hn,hk,ho=>by
  obtain⟨n,rfl⟩:∃ z,n=z+1:=⟨n - 1,by omega⟩
  have hk':k<l.length:=by omega
  have hc:=hx _ (List.getElem_mem hk')
  have h60:=Xid hc
  have hrl:=Xjp true l[k] X4l
  have e:IntKind.i64.wrap ((k:Int)+1)=((k+1:Nat):Int):=by rw[X04 (by omega) (by omega)];omega
  have go:=Xz2 hq l hx hl m n (k+1) (out++Xgt true X4l l[k]) (by omega) (by omega) (by omega) (by rw[List.length_append];omega)
  have hls:Xkq l[k]=Xgt true X4l l[k]:=by unfold Xkq;rw[if_pos hc]
  rw[X2t,Yt (show(k:Int)<(l.length:Int) by omega),cond_true,show(q.Late==2)=true by simp[hq],cond_true,X3y,Ye hk',Yo,Xdv h60,Yo,e,go,X3t (by rw[List.length_append];omega),Yo,List.drop_eq_getElem_cons hk']
  have:out++Xgt true X4l l[k]++Xg6 (l.drop (k+1))=out++Xg6 (l[k]::l.drop (k+1)):=by
   unfold Xg6;rw[List.map_cons,List.flatten_cons,hls,List.append_assoc]
  rw[this]
  cases List.isEmpty (Xgt true X4l l[k])<;>rfl
theorem Xno {q:Xw} {l:List (List Xk)} (h:RI q l):Xch q l=some (Xkr q l):=by
 have hs:=h.rq.src
 have hlen:=h.len
 unfold Xch Xkr
 by_cases hq:q.Late=2
 ·rw[if_pos hq,show(0:Int)=((0:Nat):Int) from rfl,Xz2 hq l (fun x hx=>(h.ev x hx).1) (by omega) l.length FU 0 [] rfl (by unfold FU;omega) (by omega) (by simp;omega)];rfl
 ·rw[if_neg hq]
  have:X2t l q FU [] 0=some (.x0 []):=by
   rw[show FU=99999+1 from rfl,X2t,show(q.Late==2)=false by simpa using hq]
   cases decide ((0:Int)<(l.length:Int))<;>rfl
  rw[this];rfl
theorem Xne (Y:List X1c) (m:Int):∀ (xs:List X1c) (k:Nat) (o:List X1c),o.length+xs.length<=10000->X3g Y m xs k o=some (.x0 (o++emit m xs))
 |[],k,o,_=>by simp[X3g,emit]
 |x::xs,k,o,hn=>by
  simp only[List.length_cons] at hn
  rw[X3g]
  unfold emit
  rw[List.filter_cons]
  by_cases h:x.Span.End<=m
  ·rw[Yt h,cond_true,X3t (by rw[List.length_append,List.length_singleton];omega)]
   simp only[Yo,if_true]
   rw[Xne Y m xs (k+1) _ (by rw[List.length_append,List.length_singleton];omega)]
   simp[emit]
  ·rw[Yf h,cond_false]
   simp only[Yo,Bool.false_eq_true,if_false]
   exact Xne Y m xs (k+1) o (by omega)
theorem Xft {q:Xw} (hq:QW q) {l:List (List Xk)} (hn:l.length<=1000):Xaj q l=some (if (Xr4 q).2≠0 then (Xr4 q).2 else if l.length≠q.Sources.length then 2 else Xa3 l):=by
 unfold Xaj
 rw[Xm2 hq,Yo]
 by_cases hz:(Xr4 q).2=0
 ·rw[hz]
  simp only[bne_self_eq_false,cond_false,ne_eq,not_true,if_false]
  by_cases hlen:l.length=q.Sources.length
  ·rw[show((l.length:Int) != (q.Sources.length:Int))=false by rw[hlen];simp,cond_false,Xbu hn,Yo,if_neg (by omega)]
  ·rw[show((l.length:Int) != (q.Sources.length:Int))=true by simp;omega,cond_true,if_pos hlen]
 ·rw[Xcw hz,cond_true,if_pos hz]
theorem X00w {q:Xw} (hq:QW q) {l:List (List Xk)} (hn:l.length<=1000) (e:Int) (he:e≠0) (h:(if (Xr4 q).2≠0 then (Xr4 q).2 else if l.length≠q.Sources.length then 2 else Xa3 l)=e):X3r q l=some ([],[],e)/\X6l q l=some ([],[],e)/\X2z q l=some ([],[],e)/\X52 q l=some ([],[],e):=by
 have m1:X3r q l=some ([],[],e):=by
  unfold X3r
  rw[Xf1 hq,Yo]
  by_cases hz:(Xr4 q).2=0
  ·rw[hz] at h ⊢
   simp only[bne_self_eq_false,cond_false,ne_eq,not_true,if_false] at h ⊢
   by_cases hlen:l.length=q.Sources.length
   ·rw[if_neg (by omega)] at h
    rw[show((l.length:Int) != (q.Sources.length:Int))=false by rw[hlen];simp,cond_false,X69 hn,Yo,h,Xcw he];rfl
   ·rw[if_pos hlen] at h
    rw[show((l.length:Int) != (q.Sources.length:Int))=true by simp;omega,<-h];rfl
  ·rw[if_pos hz] at h
   rw[Xcw hz,h];rfl
 have r1:X6l q l=some ([],[],e):=by
  unfold X6l
  rw[Xft hq hn,h,Yo,Xcw he];rfl
 refine⟨m1,r1,?_,?_⟩
 ·unfold X2z
  rw[m1,Yo]
  simp only[Xcw he,cond_true]
 ·unfold X52
  rw[r1,Yo]
  simp only[Xcw he,cond_true]
theorem Xvw {l:List (List Xk)} (hn:l.length<=1000):∃ v,X2u l=some v/\X5x l=some v:=by
 by_cases h0:l.length=0
 ·refine⟨(0,2),?_,?_⟩
  ·unfold X2u;rw[Yt (show(l.length:Int)<1 by omega)];rfl
  ·unfold X5x;rw[show((l.length:Int)==0)=true by simp[h0]];rfl
 ·have e0:((l.length:Int)==0)=false:=lz (by omega)
  by_cases h4:l.length>4
  ·refine⟨(0,2),?_,?_⟩
   ·unfold X2u;rw[Yf (show ¬ (l.length:Int)<1 by omega),Yt (show(l.length:Int)>4 by omega)];rfl
   ·unfold X5x;rw[e0,Yt (show(l.length:Int)>4 by omega)];rfl
  ·by_cases hw:Xa3 l=0
   ·have hev:=Xd0.1 hw
    refine⟨(Xeg Xgc l,0),Xdw (by omega) (by omega) hev,?_⟩
    unfold X5x
    rw[e0,Yf (show ¬ (l.length:Int)>4 by omega),Xbu hn,hw,Xgq (by omega) (by omega) hev];rfl
   ·refine⟨(0,Xa3 l),?_,?_⟩
    ·unfold X2u
     rw[Yf (show ¬ (l.length:Int)<1 by omega),Yf (show ¬ (l.length:Int)>4 by omega),X69 hn]
     simp only[cond_false,Yo,Xcw hw,cond_true]
    ·unfold X5x
     rw[e0,Yf (show ¬ (l.length:Int)>4 by omega),Xbu hn]
     simp only[cond_false,Yo,Xcw hw,cond_true]
theorem Xtz (a:List Xc):∀ (xs:List Xc) (k:Nat),a.drop k=xs->X53 a a xs k=some .x0
 |[],k,_=>rfl
 |x::xs,k,h=>by
  obtain⟨hlt,hkx,hd⟩:=Go.Av.drop_cons h
  rw[X53,X3y,hkx,Yo,Xc1,Yt rfl]
  exact Xtz a xs (k+1) hd
theorem Xv5 {a:List Xc} (h:a.length<=10000):X9w a a=some true:=by
 unfold X9w
 rw[bne_self_eq_false,cond_false,X1j (by omega),Yo,Xtz a a 0 rfl];rfl
theorem Xvx {q:Xw} {l:List (List Xk)} (h:RI q l):(Xkr q l).length<=10000:=by
 have hs:=h.rq.src
 have hlen:=h.len
 have key:∀ (m:List (List Xk)),(∀ x∈m,x.length<=30)->(Xg6 m).length<=30*m.length:=by
  intro m
  induction m with
  |nil=>intro _;simp[Xg6]
  |cons x m ih =>
   intro hx
   have h1:=hx x List.mem_cons_self
   have h2:=ih fun y hy=>hx y (List.mem_cons_of_mem _ hy)
   have h3:=Xq0 x
   unfold Xg6 at h2 ⊢
   rw[List.map_cons,List.flatten_cons,List.length_append,List.length_cons]
   omega
 unfold Xkr
 split
 ·have:=key l fun x hx=>(h.ev x hx).2
  omega
 ·simp
theorem X04b {q:Xw} (hq:QW q) (hn:QN q) {l:List (List Xk)} (hl:l.length<=1000) (h20:∀ x∈l,x.length<=30\/x.length=61) (hr:∀ x∈l,∀ e∈x,Xxh e.Record) :
  ∃ a b e a' ,X3r q l=some (a,b,e)/\X6l q l=some (a,b,e)/\X2z q l=some (a',b,e)/\X52 q l=some (a',b,e)/\a.length<=10000/\a'.length<=10000/\b.length<=10000:=by
 by_cases he:(if (Xr4 q).2≠0 then (Xr4 q).2 else if l.length≠q.Sources.length then 2 else Xa3 l)=0
 ·have hask:=Xft hq hl
  rw[he] at hask
  by_cases hz:(Xr4 q).2=0
  ·rw[if_neg (by omega)] at he
   by_cases hlen:l.length=q.Sources.length
   ·rw[if_neg (by omega)] at he
    have hev:=Xd0.1 he
    have hri:RI q l:=⟨⟨hq,hz⟩,hlen,fun x hx=>⟨hev x hx,by have:=Xid (hev x hx);have:=h20 x hx;omega⟩⟩
    obtain⟨es,hc,hes,hall⟩:=Xfu hri
    obtain⟨hm,_,hem⟩:=Xh0 hri hc
    have hrl:=Xhn q es
    have hs:=hri.rq.src
    have hel:(emit (Xeg Xgc l) (X7l q es)).length<=(X7l q es).length:=List.length_filter_le _ _
    have hrA:X6l q l=some (X7l q es,Xkr q l,0):=by
     unfold X6l
     rw[hask,Yo,Xnm hri hn hr hc hes,Xno hri];rfl
    refine⟨_,_,_,_,hm,hrA,hem,?_,by omega,by omega,Xvx hri⟩
    unfold X52
    rw[hrA,Yo]
    simp only[bne_self_eq_false,cond_false]
    rw[Xgq (by omega) (by omega) hev,Yo]
    unfold Xd4
    rw[X1j (by omega),Yo,Xne _ _ _ 0 [] (by simp;omega)];rfl
   ·rw[if_pos hlen] at he;cases he
  ·rw[if_pos hz] at he;exact absurd he hz
 ·obtain⟨h1,h2,h3,h4⟩:=X00w hq hl _ he rfl
  exact⟨[],[],_,[],h1,h2,h3,h4,by simp,by simp,by simp⟩
theorem Xv0 {q:Xw} (hq:QW q) (hn:QN q) {l:List (List Xk)} (hr:∀ x∈l,∀ e∈x,Xxh e.Record):X45 q l=some true:=by
 unfold X45
 obtain⟨g,hg⟩:=Xm3 q
 obtain⟨b,hb,hb2⟩:=Xlw l
 rw[hg,Yo]
 cases g with
 |true=>rfl
 |false =>
  rw[cond_false,hb,Yo]
  cases b with
  |true=>rfl
  |false =>
   obtain⟨hl,hx⟩:=hb2 rfl
   obtain⟨v,hv1,hv2⟩:=Xvw (l:=l) (by omega)
   obtain⟨A,B,e,A',h1,h2,h3,h4,n1,n2,n3⟩:=X04b hq hn (l:=l) (by omega) (fun x hxm=>(hx x hxm).imp (fun h=>by omega) id) hr
   simp only[cond_false,Yo,hv1,hv2,h1,h2,h3,h4,Xp8 n1,Xp8 n2,Xv5 n3,beq_self_eq_true,cond_true]
end Go.D


namespace Go.D
theorem X04c {z:Int} (h:wfI .u8 z):0<=z:=by
 have h:=h
 simp only[wfI,Lit.wf,IntKind.bits,IntKind.signed] at h
 simp at h
 have e1:IntKind.u8.min=0:=by decide
 omega
theorem Xre {z:Int} (h:wfI .i64 z):z<=9223372036854775807 /\ -9223372036854775808<=z:=by
 have h:=h
 simp only[wfI,Lit.wf,IntKind.bits,IntKind.signed] at h
 simp at h
 have e1:IntKind.i64.min = -9223372036854775808:=by decide
 have e2:IntKind.i64.max=9223372036854775807:=by decide
 omega
theorem X0a8 {q:Xw} (w:Xgj q):QW q:=by
 obtain⟨_,⟨_,h1⟩,_,_,⟨_,h2⟩,h3,_⟩:=w
 exact⟨fun x hx=>X04c (h1 x hx).1,fun x hx=>X04c (h2 x hx).1,Xre h3.2.2⟩
end Go.D


namespace Go.D
theorem Xqa {z:Int} (h:wfI .i64 z):i64 z:=⟨(Xre h).2,(Xre h).1⟩
theorem X0a9 {q:Xw} (w:Xgj q):QN q:=by
 obtain⟨_,⟨_,h1⟩,_,_,⟨_,h2⟩,_⟩:=w
 exact⟨fun x hx=>Xqa (h1 x hx).2.1,fun x hx=>Xqa (h2 x hx).2.1⟩
theorem Xei (q:Xw) (l:List (List Xk)) (w0:Xgj q) (w1:(List.length l<=maxLen/\∀ y∈l,(List.length y<=maxLen/\∀ yy∈y,Xgk yy))):X45 q l=some true :=
 Xv0 (X0a8 w0) (X0a9 w0) fun x hx e he=>by
  obtain⟨_,_,h⟩:=(w1.2 x hx).2 e he
  exact⟨Xqa h.1,Xqa h.2.1,Xqa h.2.2⟩
end Go.D
