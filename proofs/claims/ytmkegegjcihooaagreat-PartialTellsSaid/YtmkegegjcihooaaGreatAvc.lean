/- Parts of the proof, laid together. -/
import Derived.Test.YtmkegegjcihooaaGreatAvb
import Derived.MapKept
import Derived.RangeFuncIn
import Derived.WideKeyEntry
import Derived.Maps.RangeRun
import Derived.DeepKeys4
set_option linter.all false

namespace Go.Av
variable [Gls]
open MapKept
noncomputable def Xkv (k v:Value):List (Value×Value)->List (Value×Value)
 |[]=>[(k,v)]
 |(a,b)::r=>open Classical in if a=k then (k,v)::r else (a,b)::Xkv k v r
noncomputable def Xq7 (k:Value):List (Value×Value)->Option Value
 |[]=>none
 |(a,b)::r=>open Classical in if a=k then some b else Xq7 k r
theorem Xxm {k v:Value}:∀ (l:List (Value×Value)) (j:Nat) (p:Value×Value),l[j]?=some p->p.1=k->(∀ i q,i<j->l[i]?=some q->q.1≠k)->Xkv k v l=l.set j (k,v)/\Xq7 k l=some p.2:=by
 intro l
 induction l with
 |nil=>intro j p h;simp at h
 |cons a r ih =>
  obtain⟨a1,a2⟩:=a;intro j p h hk hn
  cases j with
  |zero=>simp at h;subst h;simp only at hk;simp[Xkv,Xq7,hk]
  |succ j =>
   have h0:a1≠k:=hn 0 (a1,a2) (Nat.succ_pos j) rfl;obtain⟨h1,h2⟩:=ih j p (by simpa using h) hk (λi q hi hq=>hn (i+1) q (Nat.succ_lt_succ hi) (by simpa using hq));simp[Xkv,Xq7,h0,h1,h2]
theorem Xtn {k v:Value}:∀ (l:List (Value×Value)),(∀ q∈l,q.1≠k)->Xkv k v l=l++[(k,v)]/\Xq7 k l=none:=by
 intro l
 induction l with
 |nil=>intro _;exact⟨rfl,rfl⟩
 |cons a r ih =>
  obtain⟨a1,a2⟩:=a;intro hn;have h0:a1≠k:=hn (a1,a2) (by simp);obtain⟨h1,h2⟩:=ih (λq hq=>hn q (List.mem_cons_of_mem _ hq));simp[Xkv,Xq7,h0,h1,h2]
theorem Xi3 {d:TypeDesc} {k:Value} (hk:IsKey d k):∀ (l:List MapEntry) (i:Nat),(∀ x∈l,IsKey d x.key) ->
  (Instr.findNow d k l i=some none/\∀ x∈l,x.key≠k)\/∃ j e,Instr.findNow d k l i=some (some (i+j,e.val))/\l[j]?=some e/\e.key=k/\∀ m x,m<j->l[m]?=some x->x.key≠k:=by
 intro l
 induction l with
 |nil=>intro i _;exact .inl ⟨rfl,by simp⟩
 |cons e es ih =>
  intro i h;obtain⟨r,hr,hiff⟩:=sameNow_of_keys hk (h e (by simp))
  cases r with
  |true=>exact .inr ⟨0,e,by simp[Instr.findNow,hr],rfl,(hiff.1 rfl).symm,λm x hm=>absurd hm (Nat.not_lt_zero m)⟩
  |false =>
   have hne:e.key≠k:=λq=>by have:=hiff.2 q.symm;cases this
   rcases ih (i+1) (λx hx=>h x (List.mem_cons_of_mem _ hx)) with ⟨h1,h2⟩|⟨j,e',h1,h2,h3,h4⟩
   ·exact .inl ⟨by simp[Instr.findNow,hr,h1],λx hx=>by
     rcases List.mem_cons.1 hx with rfl|hx
     ·exact hne
     ·exact h2 x hx⟩
   ·refine .inr ⟨j+1,e',by simp[Instr.findNow,hr,h1];omega,by simpa using h2,h3,λm x hm hx=>?_⟩
    cases m with
    |zero=>simp at hx;subst hx;exact hne
    |succ m=>exact h4 m x om (by simpa using hx)
theorem Xqm {d:TypeDesc} {k:Value} (hk:IsKey d k) (n:Nat):Instr.sameBits (n+1) k k=true:=by
 cases d<;>cases k<;>simp_all [IsKey,Instr.sameBits,bytes_beq]
theorem Xkd {P:Program} {w:World} {b:Nat} {l:List (Value×Value)} {t kt et:TypeId} {d:TypeDesc} {k v:Value} (hm:P.underlying t=some (.map kt et)) (hd:P.underlying kt=some d)
  (hM:Xw8 w b l) (hk:IsKey d k) (hks:∀ p∈l,IsKey d p.1) :
  ∃ o',(Instr.mapUpdate t (.map (some b)) k v).run P w=.ok () { w with heap:=w.heap.setIfInBounds b o' }/\Xw8 { w with heap:=w.heap.setIfInBounds b o' } b (Xkv k v l):=by
 obtain⟨es,clock,hb,hl,hp,hc⟩:=hM;have hes:∀ x∈es.toList,IsKey d x.key:=λx hx=>hks (x.key,x.val) (by rw[<-hl];exact List.mem_map.2 ⟨x,hx,rfl⟩);have hset:∀ o',(w.heap.setIfInBounds b o')[b]?=some o':=λo'=>(heap_set (o':=o') hb).1;rcases Xi3 hk es.toList 0 hes with ⟨h1,h2⟩|⟨j,e,h1,h2,h3,h4⟩
 ·refine⟨.map (es.push { key:=k,val:=v,born:=clock }) (clock+1),?_,es.push { key:=k,val:=v,born:=clock },clock+1,hset _,?_,?_,?_⟩
  ·simp[Instr.mapUpdate,run_underlying hm,MapKept.run_getObj_map hb,run_checkKey hd hk,run_findKey hd h1,MapKept.run_setObj_map _ hb]
  ·rw[Array.toList_push,List.map_append,hl];rw[(Xtn (v:=v) l (λq hq=>by
    rw[<-hl] at hq;obtain⟨x,hx,rfl⟩:=List.mem_map.1 hq;exact h2 x hx)).1]
   rfl
  ·rw[Array.toList_push];exact List.pairwise_append.2 ⟨hp,List.pairwise_singleton _ _,λa ha b' hb'=>by rw[List.mem_singleton.1 hb'];exact hc a ha⟩
  ·intro x hx;rw[Array.toList_push,List.mem_append] at hx;rcases hx with hx|hx
   ·exact Nat.lt_succ_of_lt (hc x hx)
   ·rw[List.mem_singleton.1 hx];exact Nat.lt_succ_self _
 ·have he:es[j]?=some e:=by simpa using h2
  have hlj:l[j]?=some (e.key,e.val):=by rw[<-hl,List.getElem?_map,h2];rfl
  have hm2:(es.modify j λe=>{ e with key:=k,val:=v }).toList=es.toList.modify j λe=>{ e with key:=k,val:=v }:=by simp
  refine⟨.map (es.modify j λe=>{ e with key:=k,val:=v }) clock,?_,es.modify j λe=>{ e with key:=k,val:=v },clock,hset _,?_,?_,?_⟩
  ·have hst:(Instr.keyThatStays k k).run P w=.ok k w:=by simp[Instr.keyThatStays,Xqm hk]
   simp only[Nat.zero_add] at h1;simp[Instr.mapUpdate,run_underlying hm,MapKept.run_getObj_map hb,run_checkKey hd hk,run_findKey hd h1,he,h3,hst,MapKept.run_setObj_map _ hb]
  ·rw[hm2,(Xxm (v:=v) l j _ hlj h3 (λi q hi hq=>by
    rw[<-hl,List.getElem?_map] at hq
    cases hx:es.toList[i]? with
    |none=>rw[hx] at hq;cases hq
    |some x=>rw[hx] at hq;cases hq;exact h4 i x hi hx)).1,<-hl]
   apply List.ext_getElem?;intro i;simp only[List.getElem?_map,List.getElem?_modify,List.getElem?_set];by_cases hij:j=i
   ·subst hij;have hlt:j<es.toList.length:=(List.getElem?_eq_some_iff.1 h2).1;simp[he] at *;simpa using hlt
   ·simp[hij]
  ·rw[hm2];refine List.pairwise_iff_getElem.2 λi i' hi hi' hlt=>?_;have:=List.pairwise_iff_getElem.1 hp i i' (by simpa using hi) (by simpa using hi') hlt;simp only[List.getElem_modify];split<;>split<;>exact this
  ·intro x hx;rw[hm2] at hx;obtain⟨i,hi⟩:=List.getElem?_of_mem hx;rw[List.getElem?_modify] at hi
   cases hy:es.toList[i]? with
   |none=>rw[hy] at hi;simp at hi
   |some y =>
    rw[hy] at hi;have:=hc y (List.mem_of_getElem? hy);by_cases hij:j=i
    ·simp[hij] at hi;rw[<-hi];exact this
    ·simp[hij] at hi;rw[<-hi];exact this
theorem Inv.aside {c:Ctx} {H:X0c} {M:Nat->Prop} (hI:Inv c H M) {b:Nat} {w':World} (hsz:w'.heap.size=c.w.heap.size) (hw:∀ q,q≠b->w'.heap[q]?=c.w.heap[q]?) (hsa:¬ c.Sa b/\¬ c.So b) (hob:∀ o x,H o=some x->(c.ρ o).blk≠b) :
  c.Le M { c with w:=w' }/\Inv { c with w:=w' } H M:=by
 have hle:c.Le M { c with w:=w' }:=⟨λ_ _=>rfl,λ_ h=>h,λ_ h=>h,λq hq=>hw q (λe=>by subst e;exact hq.elim hsa.1 hsa.2),rfl⟩;refine⟨hle,⟨?_,hI.sep,hI.stab,λq hq=>by have:=hI.lt q hq;simp only[hsz];exact this,by have:=hI.base;simp only[hsz];exact this,hI.own,hI.low,hI.glob.mono hle⟩⟩;intro p x hx;obtain⟨h1,⟨⟨cur,hb,hs,hc⟩,h3,h4,h5⟩,h6⟩:=hI.obj p x hx;refine⟨h1,⟨⟨cur,?_,hs,?_⟩,h3,h4,h5⟩,h6⟩
 ·show w'.heap[(c.ρ p).blk]?=_;rw[hw _ (hob p x hx)];exact hb
 ·intro i e he;obtain⟨g1,g2⟩:=hc i e he;exact⟨g1,λk a ha=>by obtain⟨v,hv,hr,h7⟩:=g2 k a ha;exact⟨v,hv,hr.mono hle (.inr (h6 e (List.mem_of_getElem? he) a (List.mem_of_getElem? ha))),h7⟩⟩
section
variable {P:Program} {nt n0:Nat} {Q:Xp->St->Mu->Prop} {ops:Array Oper} {l:List Oper} {o:Oper} {K:List Kn} {L:List (Nat×AV)} {G:List (Nat×Obj)} {n:Nat} {μ:Mu}
theorem Xjn {P:Program} (t:TypeId) (w:World):(Instr.makeMap t none).run P w=.ok (.map (some w.heap.size)) (w.alloc (.map #[] 0)):=rfl
theorem X0.mapNew {t:Nat} (ho:o.op=.makeMap t none) (hg:o.guard=none) (hd:Xjm nt o.dst=true)
  (h:∀ b,X0 P nt n0 Q (.ops ops l) K ⟨fr (Xwi o.dst (.sc (.map (some b))) L),hp G,n⟩ ((b,.map [])::μ)):X0 P nt n0 Q (.ops ops (o::l)) K ⟨fr L,hp G,n⟩ μ:=by
 intro c0 H0 c act g hm Qx hQ R hR;refine X2a λK' hK'=>?_;rw[if_pos (by simp[Region.wanted,hg])];have hrun:(execOp act.eval o).run P c.w=.ok (.value (.map (some c.w.heap.size))) (c.w.alloc (.map #[] 0)):=by
  obtain⟨dst,op,type,pos,after,guard⟩:=o;simp only at ho;subst ho;simp only[execOp,Sem.run_bind,Xjn];rfl
 refine Oper.wpR (λd hd=>by rw[hd] at ho;cases ho) ?_;unfold Oper.wp;rw[hrun];obtain⟨h1,h2,h3⟩:=g.inv.waste (w':=c.w.alloc (.map #[] 0)) (.map #[] 0) rfl rfl rfl ⟨rfl,Nat.le_refl _⟩;have g2:=(g.rebase).next (c':={ c with w:=c.w.alloc (.map #[] 0) }) (dst:=o.dst) (a:=.sc (.map (some c.w.heap.size))) (v:=.map (some c.w.heap.size)) (X7i hd) h1 rfl (λb hb=>.inl hb) h3 (λq x hx=>.inr ⟨q,x,hx,rfl⟩) h2 g.solo (Nat.le_refl _) .sc .sc;have hk:=hm.kept g2.reach;have hnew:(c.w.alloc (.map #[] 0)).heap[c.w.heap.size]?=some (.map #[] 0):=(heap_alloc c.w _).1;have hb:=h c.w.heap.size;rw[X5u] at hb;refine hK' _ _ (hb c0 H0 { c with w:=c.w.alloc (.map #[] 0) } _ (.join g.reach g2) ⟨?_,?_,?_,(put_defers _ _ _).trans hm.ds⟩ Qx hQ R hR)
 ·intro p hp;rcases List.mem_cons.1 hp with rfl|hp
  ·exact⟨#[],0,hnew,rfl,List.Pairwise.nil,λe he=>by simp at he⟩
  ·exact hk.is p hp
 ·intro p hp;rcases List.mem_cons.1 hp with rfl|hp
  ·refine⟨λhs=>Nat.lt_irrefl _ (g.inv.lt _ (.inl hs)),λhs=>Nat.lt_irrefl _ (g.inv.lt _ (.inr hs)),λq x hx he=>?_,⟨by rw[<-g.reach.B];exact g.inv.base,.inl g.reach.size⟩⟩;obtain⟨_,⟨⟨cur,hcb,_⟩,_,_,_⟩,_⟩:=g.inv.obj q x hx;have he':(c.ρ q).blk=c.w.heap.size:=he;rw[he'] at hcb;simp at hcb
  ·exact hk.away p hp
 ·refine List.nodup_cons.2 ⟨λhmem=>?_,hk.nodup⟩;obtain⟨p,hp,he⟩:=List.mem_map.1 hmem;have:=(hm.is p hp).lt;simp only at he;omega
theorem X0.mapUpd {T:Ty} {t b kt et:Nat} {m k x:Operand} {qm qk qx:List Prop} {kv xv:Value} {es:List (Value×Value)} {ti:TI} {d:TypeDesc} (hT:Xf0 P T) (ho:o.op=.mapUpdate t m k x) (hg:o.guard=none) (hd:o.dst=none)
  (ht:T t=some ti) (hkd:ti.kind=.map kt et) (hu:P.underlying kt=some d)
  (hm:rd L m=(.sc (.map (some b)),qm)) (hk:rd L k=(.sc kv,qk)) (hx:rd L x=(.sc xv,qx)) (hqm:X4v qm) (hqk:X4v qk) (hqx:X4v qx) (hik:IsKey d kv) (hks:∀ p∈es,IsKey d p.1)
  (h:X0 P nt n0 Q (.ops ops l) K ⟨fr L,hp G,n⟩ ((b,Xkv kv xv es)::μ)):X0 P nt n0 Q (.ops ops (o::l)) K ⟨fr L,hp G,n⟩ ((b,es)::μ):=by
 intro c0 H0 c act g hM Qx hQ R hR;refine X2a λK' hK'=>?_;rw[if_pos (by simp[Region.wanted,hg])];have em:act.eval m=.map (some b):=by have:=g.ev m;rw[show evA (St.A ⟨fr L,hp G,n⟩) m=_ from X0n hm hqm] at this;exact this.sc_inv
 have ek:act.eval k=kv:=by have:=g.ev k;rw[show evA (St.A ⟨fr L,hp G,n⟩) k=_ from X0n hk hqk] at this;exact this.sc_inv
 have ex:act.eval x=xv:=by have:=g.ev x;rw[show evA (St.A ⟨fr L,hp G,n⟩) x=_ from X0n hx hqx] at this;exact this.sc_inv
 have hu1:P.underlying t=some (.map kt et):=by
  obtain⟨i,dd,_,hdd,_,hkk,_⟩:=X12 (hT t ti ht);rw[hkd] at hkk;cases dd<;>simp[Xu] at hkk
  obtain⟨rfl,rfl⟩:=hkk;exact hdd
 obtain⟨o',hrun,hmap⟩:=Xkd (v:=xv) hu1 hu (hM.is (b,es) (by simp)) hik hks;have hex:(execOp act.eval o).run P c.w=.ok .skip { c.w with heap:=c.w.heap.setIfInBounds b o' }:=by
  obtain⟨dst,op,type,pos,after,guard⟩:=o;simp only at ho;subst ho;simp only[execOp,em,ek,ex,Sem.run_bind,hrun];rfl
 refine Oper.wpR (λd hd=>by rw[hd] at ho;cases ho) ?_;unfold Oper.wp;rw[hex];obtain⟨a1,a2,a3,a4⟩:=hM.away (b,es) (by simp);obtain⟨es0,cl,hb0,_⟩:=hM.is (b,es) (by simp);have hoth:∀ q,q≠b->({ c.w with heap:=c.w.heap.setIfInBounds b o' }:World).heap[q]?=c.w.heap[q]?:=(heap_set (o':=o') hb0).2;obtain⟨h1,h2⟩:=g.inv.aside (w':={ c.w with heap:=c.w.heap.setIfInBounds b o' }) (by simp) hoth ⟨a1,a2⟩ a3;have g2:X3l nt c0 H0 n0 { c with w:={ c.w with heap:=c.w.heap.setIfInBounds b o' } } ⟨fr L,hp G,n⟩ act:=by
  refine⟨h2,g.solo,λq=>(g.frame q).mono h1 (.inr (g.ok q)),g.ok,g.size,?_,g.le0⟩;have r:=g.reach;refine⟨r.rho,r.os,r.tape,⟨r.output.1,Nat.le_trans r.output.2 (by first|exact Nat.le_refl _|exact Xh9 (Nat.le_succ _)|(simp;done)|(simp;omega))⟩,by simpa using r.size,λq hq hn=>?_,λq hq=>?_,r.sa,r.so1,r.so2,r.B,r.own⟩
  ·exact(hoth q (λe=>by subst e;exact(a4.no hq hn).elim)).trans (r.block q hq hn)
  ·refine(hoth q (λe=>?_)).trans (r.stable q hq);subst e;rcases hq with hq|hq
   ·exact a1 (by rw[r.sa];exact hq)
   ·exact a2 (r.so1 _ hq)
 have hact:act.put o.dst undef=act:=by rw[hd];rfl
 have hMs:MOk n0 c0 H0 { c with w:={ c.w with heap:=c.w.heap.setIfInBounds b o' } } (hp G) ((b,Xkv kv xv es)::μ) act:=by
  refine⟨λp hp=>?_,λp hp=>?_,?_,hM.ds⟩
  ·rcases List.mem_cons.1 hp with rfl|hp
   ·exact hmap
   ·have hne:p.1≠b:=λe=>(List.nodup_cons.1 hM.nodup).1 (List.mem_map.2 ⟨p,hp,e⟩);exact(hM.is p (List.mem_cons_of_mem _ hp)).le (hoth _ hne) (h1.weaken λq hq=>Nat.lt_of_lt_of_le hq g.le0)
  ·rcases List.mem_cons.1 hp with rfl|hp
   ·exact hM.away (b,es) (by simp)
   ·exact hM.away p (List.mem_cons_of_mem _ hp)
  ·exact hM.nodup
 have:=hK' act { c.w with heap:=c.w.heap.setIfInBounds b o' } (h c0 H0 _ act g2 hMs Qx hQ R hR);show K' (act.put o.dst undef) _;rw[hact];exact this
theorem X0.mapLen {T:Ty} {t b kt et:Nat} {x:Operand} {qx:List Prop} {es:List (Value×Value)} {ti:TI} (hT:Xf0 P T) (ho:o.op=.call { callee:=.builtin .len,args:=#[x],argTypes:=#[t] }) (hg:o.guard=none) (hd:Xjm nt o.dst=true)
  (ht:T t=some ti) (hkd:ti.kind=.map kt et) (hx:rd L x=(.sc (.map (some b)),qx)) (hqx:X4v qx)
  (h:X0 P nt n0 Q (.ops ops l) K ⟨fr (Xwi o.dst (.sc (.int .i64 es.length)) L),hp G,n⟩ ((b,es)::μ)):X0 P nt n0 Q (.ops ops (o::l)) K ⟨fr L,hp G,n⟩ ((b,es)::μ):=by
 intro c0 H0 c act g hM Qx hQ R hR;refine X2a λK' hK'=>?_;rw[if_pos (by simp[Region.wanted,hg])];have ex:act.eval x=.map (some b):=by have:=g.ev x;rw[show evA (St.A ⟨fr L,hp G,n⟩) x=_ from X0n hx hqx] at this;exact this.sc_inv
 have hu1:P.underlying t=some (.map kt et):=by
  obtain⟨i,dd,_,hdd,_,hkk,_⟩:=X12 (hT t ti ht);rw[hkd] at hkk;cases dd<;>simp[Xu] at hkk
  obtain⟨rfl,rfl⟩:=hkk;exact hdd
 obtain⟨es0,cl,hb0,hl,_⟩:=hM.is (b,es) (by simp);have hsz:es0.size=es.length:=by have hl':es0.toList.map (λe=>(e.key,e.val))=es:=hl;rw[<-hl'];simp
 have hex:(execOp act.eval o).run P c.w=.ok (.value (.int .i64 es.length)) c.w:=by
  obtain⟨dst,op,type,pos,after,guard⟩:=o;simp only at ho;subst ho;simp[execOp,resolve,invoke,builtin,Builtin.len_,ex,run_underlying hu1,MapKept.run_getObj_map hb0,goInt,hsz]
 refine Oper.wpR (λd hd=>by rw[hd] at ho;cases ho) ?_;unfold Oper.wp;rw[hex];have g2:=g.next (c':=c) (dst:=o.dst) (a:=.sc (.int .i64 es.length)) (v:=.int .i64 es.length) (X7i hd) (.refl c) rfl (λb hb=>.inl hb) (.refl c (hp G)) (λq x hx=>.inr ⟨q,x,hx,rfl⟩) g.inv g.solo (Nat.le_refl _) .sc .sc;rw[X5u] at h;exact hK' _ _ (h c0 H0 c _ g2 hM.act Qx hQ R hR)
end
end Go.Av
namespace Go.D
def Xmo (ks:List Int) (z:Int):List Int:=if z∈ks then ks else ks++[z]
def Xag (ks:List Int):List Int->List Int
 |[]=>ks
 |z::zs=>Xag (Xmo ks z) zs
end Go.D
namespace Go.Av
def Xng (z:Int):Value×Value:=(.int .i64 z,.bool true)
end Go.Av


namespace Go.Av
variable [Gls]
theorem Oper.wp_mono2 {P:Program} {o:Oper} {a:Act} {w:World} {K K':Act->World->Prop} {Q Q':Exit->Act->World->Prop} (h:∀ a w,K a w->K' a w) (hq:∀ e a w,e≠.normal->Q e a w->Q' e a w)
  (hh:o.wp P a w K Q):o.wp P a w K' Q':=by
 unfold Oper.wp at *;generalize (execOp a.eval o).run P w=r at *
 cases r with
 |ok n w' =>
  cases n with
  |enter f args =>
   simp only[Oper.upon] at hh ⊢;refine Calls.mono hh (λe w'' he=>?_)
   cases e with
   |returned v=>exact h _ _ he
   |panicked ch=>exact hq _ _ _ (by intro h;cases h) he
   |outgrown=>obtain⟨a0,w0,h0⟩:=he;exact⟨a0,w0,hq _ _ _ (by intro h;cases h) h0⟩
  |row row args=>simp only[Oper.upon] at hh ⊢;exact Rows.mono hh (λ_ _ he=>h _ _ he)
  |_=>simp only[Oper.upon] at hh ⊢<;>exact h _ _ hh
 |halt x w'=>cases x<;>simp only[Oper.upon] at hh ⊢<;>first|exact hh|exact hq _ _ _ (by intro h;cases h) hh
section
variable {P:Program} {ops:Array Oper} {Q:Exit->Act->World->Prop}
theorem Xny:∀ (f:Nat) (listed:Array Bool) (a:Act) (w:World),wpAny P .any ops Q f listed a w->wpAny P .any ops Q (f+1) listed a w
 |0,listed,a,w,h=>⟨λ_=>h.2,λi hi=>by rw[h.1] at hi;cases hi⟩
 |f+1,listed,a,w,h=>⟨h.1,λi hi=>wpOp_mono (λa' w' h'=>Xny f _ a' w' h') (h.2 i hi)⟩
theorem Xrw (n:Nat):∀ (f:Nat) (listed:Array Bool) (a:Act) (w:World),wpAny P .any ops Q f listed a w->wpAny P .any ops Q (f+n) listed a w:=by
 induction n with
 |zero=>intro f l a w h;exact h
 |succ n ih=>intro f l a w h;exact Xny (f+n) l a w (ih f l a w h)
def X00r (j:Nat) (l:List Oper):Bool:=(List.range l.length).all λi=>Nat.blt i j||(List.range i).all λq=>((X27 l).getD i 0).testBit q
def Xps (l:List Oper):Bool:=l.all λo=>match o.guard with
 |some (j,_)=>Nat.blt j l.length
 |none=>true
theorem Xoq {j:Nat} {l:List Oper} (h:X00r j l=true) {i q:Nat} (hi:i<l.length) (hj:j<=i) (hq:q<i):((X27 l).getD i 0).testBit q=true:=by
 have:=List.all_eq_true.1 h i (List.mem_range.2 hi);simp only[Bool.or_eq_true,Nat.blt_eq] at this;rcases this with h1|h1
 ·omega
 ·exact List.all_eq_true.1 h1 q (List.mem_range.2 hq)
theorem Xhm {listed:Array Bool} {i:Nat} {o:Oper} (hi:i∈Region.ready .any ops listed) (ho:ops.toList[i]?=some o):∀ j∈Xdt o,listed.getD j false=true:=by
 rw[X5i] at hi;obtain⟨_,_,h3⟩:=hi;have ho':ops[i]?=some o:=by simpa using ho
 rw[ho'] at h3;simp only[Option.map_some,Option.getD_some] at h3;intro j hj;obtain⟨e,he,rfl⟩:=List.mem_map.1 hj;obtain⟨he1,he2⟩:=List.mem_filter.1 he;rw[Array.all_eq_true_iff_forall_mem] at h3;have:=h3 e (by simpa using he1);rw[he2] at this;simpa using this
theorem Xhq {listed:Array Bool} {i:Nat} {o:Oper} (hsz:listed.size=ops.size) (ho:ops.toList[i]?=some o) (hl:listed.getD i false=false) (h:∀ j∈Xdt o,listed.getD j false=true):i∈Region.ready .any ops listed:=by
 have hi:i<ops.size:=by have:=(List.getElem?_eq_some_iff.1 ho).1;simpa using this
 rw[X5i];refine⟨hi,?_,?_⟩
 ·have hil:i<listed.size:=by omega
  simp only[Array.getD_eq_getD_getElem?,Array.getElem?_eq_getElem hil,Option.getD_some] at hl ⊢;exact hl
 ·have ho':ops[i]?=some o:=by simpa using ho
  rw[ho'];simp only[Option.map_some,Option.getD_some];rw[Array.all_eq_true_iff_forall_mem];intro e he
  cases hb:Region.binds .any e with
  |false=>rfl
  |true=>simpa using h e.on (List.mem_map.2 ⟨e,List.mem_filter.2 ⟨by simpa using he,hb⟩,rfl⟩)
def Xq5 (ops:Array Oper) (listed:Array Bool):Prop:=∀ (i:Nat) o,ops.toList[i]?=some o->listed.getD i false=true->∀ j∈Xdt o,listed.getD j false=true
theorem Xqo (hpre:Xd1 0 ops.toList=true) {listed:Array Bool} (hc:Xq5 ops listed) {i:Nat} (hi:i∈Region.ready .any ops listed) {q:Nat} (hq:((X27 ops.toList).getD i 0).testBit q=true):listed.getD q false=true:=by
 have hlt:=(X5i.1 hi).1;have ho:ops.toList[i]?=some ops[i]:=by simp[hlt]
 have hp:∀ (i:Nat) o,ops.toList[i]?=some o->∀ j∈Xdt o,j<i:=λi o ho j hj=>by have:=X81 _ 0 hpre i o ho j hj;omega
 exact(Xk1 (S:=λk=>listed.getD k false) hp hc i _ ho (Xhm hi ho) q hq).1
theorem Xb0 {listed:Array Bool} {i k:Nat} (hi:i<listed.size):(listed.setIfInBounds i true).getD k false=(listed.getD k false||Nat.beq k i):=by
 simp only[Array.getD_eq_getD_getElem?];by_cases h:k=i
 ·subst h;simp[hi]
 ·have:Nat.beq k i=false:=by rw[<-Bool.not_eq_true,Nat.beq_eq];exact h
  rw[Array.getElem?_setIfInBounds_ne (λe=>h e.symm),this,Bool.or_false]
theorem Xww (hpre:Xd1 0 ops.toList=true) {j:Nat} (hbar:X00r j ops.toList=true):∀ (f m:Nat) (listed:Array Bool) (a:Act) (w:World),listed.size=ops.size->j<=m->m+f=ops.size->(∀ k,k<ops.size->(listed.getD k false=true↔k<m)) ->
  wpList P ops Q (ops.toList.drop m) a w->wpAny P .any ops Q f listed a w:=by
 have hlen:ops.toList.length=ops.size:=Array.length_toList;intro f
 induction f with
 |zero =>
  intro m listed a w hsz hj hm hl h;refine⟨?_,?_⟩
  ·rw[List.eq_nil_iff_forall_not_mem];intro i hi;obtain⟨h1,h2,_⟩:=X5i.1 hi;have:=(hl i h1).2 om;have hil:i<listed.size:=by omega
   simp only[Array.getD_eq_getD_getElem?,Array.getElem?_eq_getElem hil,Option.getD_some] at h2 this;rw[h2] at this;cases this
  ·rw[List.drop_of_length_le om] at h;exact h
 |succ f ih =>
  intro m listed a w hsz hj hm hl h;have hmo:ops.toList[m]?=some (ops.toList[m]' om):=List.getElem?_eq_getElem om;have hc:Xq5 ops listed:=λi o ho hi q hq=>by
   have hio:i<ops.size:=by have:=(List.getElem?_eq_some_iff.1 ho).1;omega
   have h1:=X81 _ 0 hpre i o ho q hq;have h2:=(hl i hio).1 hi;exact(hl q om).2 om
  have hrm:m∈Region.ready .any ops listed:=by
   refine Xhq hsz hmo ?_ λq hq=>?_
   ·rw[<-Bool.not_eq_true];exact λe=>by have:=(hl m om).1 e;omega
   ·have h1:=X81 _ 0 hpre m _ hmo q hq;exact(hl q om).2 om
  refine⟨λhr=>(by rw[hr] at hrm;cases hrm),λi hi=>?_⟩;have him:i=m:=by
   obtain⟨h1,h2,_⟩:=X5i.1 hi;have hil:i<listed.size:=by omega
   have hge:m<=i:=by
    rcases Nat.lt_or_ge i m with h3|h3
    ·have:=(hl i h1).2 h3;simp only[Array.getD_eq_getD_getElem?,Array.getElem?_eq_getElem hil,Option.getD_some] at h2 this;rw[h2] at this;cases this
    ·exact h3
   rcases Nat.lt_or_eq_of_le hge with h3|h3
   ·have:=Xqo hpre hc hi (Xoq hbar om om h3);have:=(hl m om).1 this;omega
   ·exact h3.symm
  subst him;rw[List.drop_eq_getElem_cons om] at h;unfold wpList at h;unfold wpOp;have ho':ops[i]?=some (ops.toList[i]' om):=by simpa using hmo
  rw[ho'];simp only;have hnext:∀ a' w',wpList P ops Q (ops.toList.drop (i+1)) a' w'->wpAny P .any ops Q f (listed.setIfInBounds i true) a' w':=λa' w' h' =>
   ih (i+1) _ a' w' (by simpa using hsz) om om (λk hk=>by
    rw[Xb0 om,Bool.or_eq_true,hl k hk,Nat.beq_eq];omega) h'
  by_cases hw:Region.wanted (ops.toList[i]' om) (yielded ops a.tmps)=true
  ·rw[if_pos hw] at h ⊢;exact h.imp (Oper.wp_mono hnext) id
  ·rw[if_neg hw] at h ⊢;exact hnext _ _ h
theorem Xv9 {j i:Nat} {o:Oper} (h:(ops.toList.take j)[i]?=some o):ops.toList[i]?=some o/\i<j:=by
 rw[List.getElem?_take] at h;split at h
 ·exact⟨h,by assumption⟩
 ·cases h
theorem Xwx {R:Exit->Act->World->Prop} {j:Nat} {pre:Array Oper} (hp:pre.toList=ops.toList.take j) (hjl:j<=ops.size) (hpre:Xd1 0 ops.toList=true) (hbar:X00r j ops.toList=true) (hgd:Xps (ops.toList.take j)=true)
  (hRQ:∀ e a w,e≠.normal->R e a w->Q e a w) (r:Nat)
  (hend:∀ listed a w,listed.size=ops.size->(∀ k,k<ops.size->(listed.getD k false=true↔k<j))->R .normal a w->wpAny P .any ops Q r listed a w) :
  ∀ (f:Nat) (lp lo:Array Bool) (a:Act) (w:World),lp.size=pre.size->lo.size=ops.size->(∀ k,lo.getD k false=(lp.getD k false&&Nat.blt k j))->Xq5 pre lp ->
   wpAny P .any pre R f lp a w->wpAny P .any ops Q (f+r) lo a w:=by
 have hlen:ops.toList.length=ops.size:=Array.length_toList;have hps:pre.size=j:=by rw[<-Array.length_toList,hp,List.length_take];omega
 have hpp:Xd1 0 pre.toList=true:=by
  have key:∀ (l:List Oper) (i k:Nat),Xd1 i l=true->Xd1 i (l.take k)=true:=by
   intro l
   induction l with
   |nil=>intro i k _;simp[Xd1]
   |cons a l ih =>
    intro i k h
    cases k with
    |zero=>rfl
    |succ k =>
     simp only[Xd1,Bool.and_eq_true,List.take_succ_cons] at h ⊢;exact⟨h.1,ih _ _ h.2⟩
  rw[hp];exact key _ _ _ hpre
 have same:∀ (k:Nat) o,ops.toList[k]?=some o->k<j->pre.toList[k]?=some o:=λk o ho hk=>by rw[hp,List.getElem?_take,if_pos hk];exact ho
 have full:∀ (lp:Array Bool),lp.size=pre.size->Region.ready .any pre lp=[]->∀ k,k<j->lp.getD k false=true:=by
  intro lp hs hr k
  induction k using Nat.strongRecOn with
  |_ k ih =>
   intro hk
   cases hl:lp.getD k false with
   |true=>rfl
   |false =>
    have hko:pre.toList[k]?=some (pre.toList[k]'(by rw[Array.length_toList];omega)):=List.getElem?_eq_getElem _;have:=Xhq hs hko hl λq hq=>by
     have h1:=X81 _ 0 hpp k _ hko q hq;exact ih q om om
    rw[hr] at this;cases this
 have yl:∀ (tmps:Array Value) (q:Nat),q<j->yielded ops tmps q=yielded pre tmps q:=by
  intro tmps q hq;have:ops[q]?=pre[q]?:=by
   have h1:ops.toList[q]?=pre.toList[q]?:=by rw[hp,List.getElem?_take,if_pos hq]
   simpa using h1
  unfold yielded;rw[this]
 intro f
 induction f with
 |zero =>
  intro lp lo a w hs1 hs2 hrel hcl h;obtain⟨h1,h2⟩:=h;rw[Nat.zero_add];refine hend lo a w hs2 (λk hk=>?_) h2;rw[hrel];constructor
  ·intro h3;simp only[Bool.and_eq_true,Nat.blt_eq] at h3;exact h3.2
  ·intro h3;simp only[Bool.and_eq_true,Nat.blt_eq];exact⟨full lp hs1 h1 k h3,h3⟩
 |succ f ih =>
  intro lp lo a w hs1 hs2 hrel hcl h;obtain⟨h1,h2⟩:=h;by_cases hr:Region.ready .any pre lp=[]
  ·have:wpAny P .any ops Q r lo a w:=hend lo a w hs2 (λk hk=>by
    rw[hrel];constructor
    ·intro h3;simp only[Bool.and_eq_true,Nat.blt_eq] at h3;exact h3.2
    ·intro h3;simp only[Bool.and_eq_true,Nat.blt_eq];exact⟨full lp hs1 hr k h3,h3⟩) (h1 hr)
   have:=Xrw (f+1) r lo a w this
   rwa [Nat.add_comm] at this
  ·have hclo:Xq5 ops lo:=by
    intro i o ho hi q hq;rw[hrel] at hi ⊢;simp only[Bool.and_eq_true,Nat.blt_eq] at hi ⊢;have hq2:=X81 _ 0 hpre i o ho q hq;exact⟨hcl i o (same i o ho hi.2) hi.1 q hq,by omega⟩
   obtain⟨p,hpr⟩:=List.exists_mem_of_ne_nil _ hr;have hpj:p<j:=by have:=(X5i.1 hpr).1;omega
   have hnl:lo.getD p false=false:=by
    rw[hrel];have h3:=(X5i.1 hpr).2.1;have hpl:p<lp.size:=by omega
    simp only[Array.getD_eq_getD_getElem?,Array.getElem?_eq_getElem hpl,Option.getD_some] at h3 ⊢;rw[h3];rfl
   have low:∀ i,i∈Region.ready .any ops lo->i<j:=by
    intro i hi;rcases Nat.lt_or_ge i j with h3|h3
    ·exact h3
    ·have:=Xqo hpre hclo hi (Xoq hbar (by have:=(X5i.1 hi).1;omega) h3 (show p<i by omega));rw[hnl] at this;cases this
   rw[show f+1+r=(f+r)+1 by omega];refine⟨λhro=>?_,λi hi=>?_⟩
   ·exfalso;have hpo:pre.toList[p]?=some (pre.toList[p]'(by rw[Array.length_toList];omega)):=List.getElem?_eq_getElem _;have hpo2:ops.toList[p]?=some (pre.toList[p]'(by rw[Array.length_toList];omega)):=(Xv9 (by rw[<-hp];exact hpo)).1;have:p∈Region.ready .any ops lo:=Xhq hs2 hpo2 hnl λq hq=>by
     have h3:=Xhm hpr hpo q hq;have h4:=X81 _ 0 hpre p _ hpo2 q hq;rw[hrel,h3];simp;omega
    rw[hro] at this;cases this
   ·have hij:=low i hi;have hio:ops.toList[i]?=some (ops.toList[i]' om):=List.getElem?_eq_getElem _;have hip:=same i _ hio hij;have hli:lp.getD i false=false:=by
     have h3:=(X5i.1 hi).2.1;have hil:i<lo.size:=by omega
     have h5:lo.getD i false=false:=by
      simp only[Array.getD_eq_getD_getElem?,Array.getElem?_eq_getElem hil,Option.getD_some] at h3 ⊢;exact h3
     rw[hrel] at h5;have:Nat.blt i j=true:=by simpa using hij
     rw[this,Bool.and_true] at h5;exact h5
    have hir:i∈Region.ready .any pre lp:=Xhq hs1 hip hli λq hq=>by
     have h3:=Xhm hi hio q hq;rw[hrel] at h3;simp only[Bool.and_eq_true] at h3;exact h3.1
    have hk:=h2 i hir;unfold wpOp at hk ⊢;have e1:ops[i]?=some (ops.toList[i]' om):=by simpa using hio
    have e2:pre[i]?=some (ops.toList[i]' om):=by simpa using hip
    rw[e2] at hk;rw[e1];simp only at hk ⊢;have hw:Region.wanted (ops.toList[i]' om) (yielded ops a.tmps)=Region.wanted (ops.toList[i]' om) (yielded pre a.tmps):=by
     unfold Region.wanted
     cases hgu:(ops.toList[i]' om).guard with
     |none=>rfl
     |some g =>
      obtain⟨gj,want⟩:=g;have h5:=List.all_eq_true.1 hgd (ops.toList[i]' om) (List.mem_of_getElem? (i:=i) (by rw[List.getElem?_take,if_pos hij];exact hio));rw[hgu] at h5;simp only[Nat.blt_eq,List.length_take] at h5;simp only[yl a.tmps gj om]
    rw[hw];have hnext:∀ a' w',wpAny P .any pre R f (lp.setIfInBounds i true) a' w'->wpAny P .any ops Q (f+r) (lo.setIfInBounds i true) a' w':=by
     intro a' w' h';refine ih _ _ a' w' (by simpa using hs1) (by simpa using hs2) (λk=>?_) ?_ h'
     ·rw[Xb0 om,Xb0 om,hrel];by_cases hki:k=i
      ·subst hki;have:Nat.blt k j=true:=by simpa using hij
       simp[this]
      ·have:Nat.beq k i=false:=by rw[<-Bool.not_eq_true,Nat.beq_eq];exact hki
       simp[this]
     ·intro k o ho hk q hq;rw[Xb0 om] at hk ⊢;rcases Bool.or_eq_true_iff.1 hk with hk|hk
      ·rw[hcl k o ho hk q hq];rfl
      ·have:k=i:=by simpa using hk
       subst this;rw[Xhm hir ho q hq];rfl
    by_cases hwt:Region.wanted (ops.toList[i]' om) (yielded pre a.tmps)=true
    ·rw[if_pos hwt] at hk ⊢;rcases hk with hk|⟨hk,a0,w0,hl⟩
     ·exact .inl (Oper.wp_mono2 hnext hRQ hk)
     ·exact .inr ⟨hk,a0,w0,hRQ _ _ _ (by intro h;cases h) hl⟩
    ·rw[if_neg hwt] at hk ⊢;exact hnext _ _ hk
end
theorem X41.drawnCut {P:Program} {T:Ty} {nt n0 id j n:Nat} {ops:Array Oper} {L L':List (Nat×AV)} {G G':List (Nat×Obj)} {Q:Xp->St->Mu->Prop} {μ:Mu} (hT:Xf0 P T/\P.follows .mixedOrders=true) (hpre:Xd1 0 ops.toList=true)
  (hjl:Nat.ble j ops.size=true) (hbar:X00r j ops.toList=true) (hgd:Xps (ops.toList.take j)=true) (hs:List X21) {hs':List X21} {ps':List Prop}
  (h:Xnp hz0 P T nt n ⟨ops.toList.take j⟩ (X27 (ops.toList.take j)) ((X27 (ops.toList.take j)).zip ((ops.toList.take j).map hz0)) 0 (ops.toList.take j) L G [] hs []=some (L',G',hs',ps')) (hp':X4v ps')
  (k:X7r P nt n0 ops (ops.toList.drop j) (λs μ=>Q .normal s μ) ⟨fr L',hp G',n+j⟩ μ) (hμ:Xjv μ=true:=by rfl):X41 P nt n0 (.region id ops true) Q ⟨fr L,hp G,n⟩ μ:=by
 have hjl':j<=ops.size:=by simpa using hjl
 obtain⟨_,hrun⟩:=Xuh _ _ _ _ _ _ _ _ _ _ _ h hp';obtain⟨rs,hall,hA,hH⟩:=hrun.all (fr L) (hp G) [] (Nat.zero_le _) rfl rfl rfl rfl rfl (λk o r _ hr=>by simp at hr);have hpl:Xd1 0 (ops.toList.take j)=true:=by
  have key:∀ (l:List Oper) (i k:Nat),Xd1 i l=true->Xd1 i (l.take k)=true:=by
   intro l
   induction l with
   |nil=>intro i k _;simp[Xd1]
   |cons a l ih =>
    intro i k h
    cases k with
    |zero=>rfl
    |succ k =>
     simp only[Xd1,Bool.and_eq_true,List.take_succ_cons] at h ⊢;exact⟨h.1,ih _ _ h.2⟩
  exact key _ _ _ hpre
 have hlenp:(ops.toList.take j).length=j:=by rw[List.length_take,Array.length_toList];omega
 intro c0 HH c act g0 hm R0 hR0;have g:=g0.rebase.drew;refine Xgg hT.2 hR0 (by rintro a w ⟨c,s,ae,μ,_,_,_,h,_⟩;cases ae<;>cases h) ?_;have hz:∀ m k,(Array.replicate m false).getD k false=false:=by
  intro m k;simp only[Array.getD_eq_getD_getElem?,Array.getElem?_replicate];split<;>rfl
 have hfn:∀ m,(λk=>(Array.replicate m false).getD k false)=(λ_=>false):=λm=>funext (hz m);have hM:∀ q,q<n->AtS n (λ_=>false) q:=λq h=>.inl h;have hdg:=Xug (n0:=n0) (Q:=λe s=>e=.normal/\s=⟨fr L',hp G',n+j⟩) hT.1 (ops:=⟨ops.toList.take j⟩) hpl hall ⟨rfl,by rw[hA,hH];congr 1;simp only[hlenp]⟩ (c0:=c) (HH:=hp G) g.le0 j (Array.replicate j false) (List.range j)
  { c with w:={ c.w with drawn:=c.w.drawn+1 } } act (by simp[hlenp]) (by simp) (λk hk _=>List.mem_range.2 (by simpa[hlenp] using hk)) (λi o _ h=>by rw[hz] at h;cases h) (by
   rw[hfn,Xdx,Xdx];exact⟨g.inv.more hM,g.solo,g.frame,λt=>(g.ok t).mono hM,g.size,g.reach,λq hq=>hM q (Nat.lt_of_lt_of_le hq g.le0)⟩) rfl
 have:=Xwx (Q:=MQ nt c0 HH n0 Q) (pre:=⟨ops.toList.take j⟩) (R:=CQ nt c (hp G) n0 act.defers (λe s=>e=.normal/\s=⟨fr L',hp G',n+j⟩)) (j:=j) rfl hjl' hpre hbar hgd
  (by rintro e a w hne ⟨c',s',ae,_,_,_,rfl,rfl,_⟩;exact absurd rfl hne) (ops.size - j) (by
   rintro listed a w hsz hl ⟨c',s',ae,rfl,g',hd',_,rfl,rfl⟩;refine Xww hpre hbar (ops.size - j) j listed a c'.w hsz (Nat.le_refl _) om hl ?_;exact k c0 HH c' a (.join g0.reach g') (hm.kept g'.reach hd') _ (λc2 s2 a2 μ2 g2 hm2 hq=>⟨c2,s2,.normal,μ2,rfl,g2,hm2,rfl,hq⟩) none (λ_=>hμ))
  j (Array.replicate j false) (Array.replicate ops.size false) act { c.w with drawn:=c.w.drawn+1 } (by simp[hlenp]) (by simp) (λk=>by rw[hz,hz];rfl) (λi o _ h=>by rw[hz] at h;cases h) hdg
 rwa [show j+(ops.size - j)=ops.size by omega] at this
theorem X0.drawnCut {P:Program} {T:Ty} {nt n0 id n:Nat} {ops:Array Oper} {L L':List (Nat×AV)} {G G':List (Nat×Obj)} {K:List Kn} {Q:Xp->St->Mu->Prop} {μ:Mu} (j:Nat) (hT:Xf0 P T/\P.follows .mixedOrders=true) (hs:List X21) {hs':List X21} {ps':List Prop} (hpre:Xd1 0 ops.toList=true)
  (hjl:Nat.ble j ops.size=true) (hbar:X00r j ops.toList=true) (hgd:Xps (ops.toList.take j)=true)
  (h:Xnp hz0 P T nt n ⟨ops.toList.take j⟩ (X27 (ops.toList.take j)) ((X27 (ops.toList.take j)).zip ((ops.toList.take j).map hz0)) 0 (ops.toList.take j) L G [] hs []=some (L',G',hs',ps')) (hp':X4v ps')
  (k:X0 P nt n0 Q (.ops ops (ops.toList.drop j)) K ⟨fr L',hp G',n+j⟩ μ) (hμ:Xjv μ=true:=by rfl):X0 P nt n0 Q (.code (.region id ops true)) K ⟨fr L,hp G,n⟩ μ :=
 X41.drawnCut hT hpre hjl hbar hgd hs h hp' k hμ
end Go.Av
namespace Go.Av
theorem X0.nilsList {P:Program} {nt n0 n:Nat} {Q:Xp->St->Mu->Prop} {cf:Cf} {K:List Kn} {μ:Mu} {L:List (Nat×AV)} {H:X0c} (t:Nat) (own:Bool) (h0:fr L t=.nils)
  (h:X0 P nt n0 Q cf K ⟨fr ((t,.list own [])::L),H,n⟩ μ):X0 P nt n0 Q cf K ⟨fr L,H,n⟩ μ:=by
 refine X0.sub (s':=⟨fr ((t,.list own [])::L),H,n⟩) (λc0 H0 c act μ g hm=>⟨?_,hm⟩) h;have hfr:∀ q,fr ((t,.list own [])::L) q=if q=t then .list own [] else fr L q:=by
  intro q;simp only[fr];by_cases hq:q=t
  ·subst hq;simp
  ·have:Nat.beq q t=false:=by rw[<-Bool.not_eq_true,Nat.beq_eq];exact hq
   rw[this,if_neg hq];rfl
 refine⟨g.inv,g.solo,λq=>?_,λq=>?_,g.size,g.reach,g.le0⟩
 ·show X0q c false (fr ((t,.list own [])::L) q) _;rw[hfr];by_cases hq:q=t
  ·subst hq;rw[if_pos rfl];have:=g.frame q;rw[show St.A ⟨fr L,H,n⟩ q=.nils from h0] at this;obtain⟨p,hp⟩:=this.nils_inv;rw[hp];exact .listNil
  ·rw[if_neg hq];exact g.frame q
 ·show(fr ((t,.list own [])::L) q).Ok _;rw[hfr];by_cases hq:q=t
  ·rw[if_pos hq];exact .list
  ·rw[if_neg hq];exact g.ok q
end Go.Av


namespace Go.Av
variable [Gls]
def denC:AV->AV
 |.nils=>.list true []
 |a=>a
def denil:AV->AV
 |.agg cs=>.agg (cs.map denC)
 |a=>denC a
theorem Xmp (e:AV):(denil e).cells=e.cells.map denC:=by
 cases e<;>rfl
theorem X04a {c:Ctx} {d:Bool} {a:AV} {v:Value} (h:X0q c d a v):X0q c d (denC a) v:=by
 cases a with
 |nils=>obtain⟨p,rfl⟩:=h.nils_inv;exact .listNil
 |_=>exact h
theorem X08h {M:Nat->Prop} {a:AV} (h:a.Ok M):(denC a).Ok M:=by
 cases a with
 |nils=>exact .list
 |_=>exact h
theorem X00b {c:Ctx} {p:Pl} {y:Obj} (h:X00t c p y):X00t c p { y with es:=y.es.map denil }:=by
 obtain⟨⟨cur,h1,h2,h3⟩,h4,h5,h6⟩:=h;refine⟨⟨cur,h1,h2,λi e he=>?_⟩,by simpa using h4,h5,h6⟩;simp only[List.getElem?_map,Option.map_eq_some_iff] at he;obtain⟨e0,he0,rfl⟩:=he;obtain⟨g1,g2⟩:=h3 i e0 he0;rw[Xmp];refine⟨by simpa using g1,λk a ha=>?_⟩;simp only[List.getElem?_map,Option.map_eq_some_iff] at ha;obtain⟨a0,ha0,rfl⟩:=ha;obtain⟨v,v1,v2,v3⟩:=g2 k a0 ha0;exact⟨v,v1,X04a v2,v3⟩
theorem X0.denil {P:Program} {nt n0 n:Nat} {Q:Xp->St->Mu->Prop} {cf:Cf} {K:List Kn} {μ:Mu} {L:List (Nat×AV)} {G:List (Nat×Obj)} {y:Obj} (q:Nat) (es':List AV) (hy:hp G q=some y) (he:y.es.map denil=es')
  (h:X0 P nt n0 Q cf K ⟨fr L,hp ((q,{ y with es:=es' })::G),n⟩ μ):X0 P nt n0 Q cf K ⟨fr L,hp G,n⟩ μ:=by
 subst he;have hd:∀ o x',hp ((q,{ y with es:=y.es.map Go.Av.denil })::G) o=some x'->∃ x,hp G o=some x/\x'.esz=x.esz/\x'.solo=x.solo/\x'.spent=x.spent/\x'.es.length=x.es.length/\(x'=x\/(o=q/\x=y/\x'={ y with es:=y.es.map Go.Av.denil })):=by
  intro o x' hx;by_cases ho:o=q
  ·subst ho;rw[show hp ((o,{ y with es:=y.es.map Go.Av.denil })::G) o=some { y with es:=y.es.map Go.Av.denil } by simp[hp,Xh5 hy]] at hx;cases hx
   exact⟨y,hy,rfl,rfl,rfl,by simp,.inr ⟨rfl,rfl,rfl⟩⟩
  ·have:hp ((q,{ y with es:=y.es.map Go.Av.denil })::G) o=hp G o:=by
    have hb:Nat.beq o q=false:=by rw[<-Bool.not_eq_true,Nat.beq_eq];exact ho
    simp[hp,hb]
   rw[this] at hx;exact⟨x',hx,rfl,rfl,rfl,rfl,.inl rfl⟩
 refine X0.sub (s':=⟨fr L,hp ((q,{ y with es:=y.es.map Go.Av.denil })::G),n⟩) (λc0 H0 c act μ g hm=>⟨?_,?_⟩) h
 ·refine⟨⟨λo x' hx=>?_,λo o' x1 x2 h1 h2 hne hb=>?_,λo x' hx=>?_,g.inv.lt,g.inv.base,g.inv.own,λo x' hx=>?_,g.inv.glob⟩,λo x' hx=>?_,g.frame,g.ok,g.size,?_,g.le0⟩
  ·obtain⟨x,hx0,_,_,_,_,hc⟩:=hd o x' hx;obtain⟨i1,i2,i3⟩:=g.inv.obj o x hx0;rcases hc with rfl|⟨rfl,rfl,rfl⟩
   ·exact⟨i1,i2,i3⟩
   ·refine⟨i1,X00b i2,λe he a ha=>?_⟩;obtain⟨e0,he0,rfl⟩:=List.mem_map.1 he;rw[Xmp] at ha;obtain⟨a0,ha0,rfl⟩:=List.mem_map.1 ha;exact X08h (i3 e0 he0 a0 ha0)
  ·obtain⟨y1,hy1,e1,s1,p1,l1,_⟩:=hd o x1 h1;obtain⟨y2,hy2,e2,s2,p2,l2,_⟩:=hd o' x2 h2;have:=g.inv.sep o o' y1 y2 hy1 hy2 hne hb;rw[s1,p1,p2,l1,l2,e1,e2];exact this
  ·obtain⟨x,hx0,_⟩:=hd o x' hx;exact g.inv.stab o x hx0
  ·obtain⟨x,hx0,_⟩:=hd o x' hx;exact g.inv.low o x hx0
  ·obtain⟨x,hx0,_,s1,p1,_⟩:=hd o x' hx;rw[s1,p1];exact g.solo o x hx0
  ·have r:=g.reach;exact⟨r.rho,r.os,r.tape,r.output,r.size,r.block,r.stable,r.sa,r.so1,r.so2,r.B,λo x' hx=>by obtain⟨x,hx0,_⟩:=hd o x' hx;exact r.own o x hx0⟩
 ·exact⟨hm.is,λp hp=>by
   obtain⟨a1,a2,a3,a4⟩:=hm.away p hp;exact⟨a1,a2,λo x' hx=>by obtain⟨x,hx0,_⟩:=hd o x' hx;exact a3 o x hx0,a4⟩,hm.nodup,hm.ds⟩
end Go.Av


namespace Go.Av
variable [Gls]
structure Away (c:Ctx) (H:X0c) (b:Nat):Prop where
 sa:¬ c.Sa b
 so:¬ c.So b
 ob:∀ o x,H o=some x->(c.ρ o).blk≠b
theorem Away.kept {c c':Ctx} {H H':X0c} {n b:Nat} (h:Away c H b) (hb:b<c.w.heap.size) (r:Reach c H n c' H'):Away c' H' b:=by
 refine⟨by rw[r.sa];exact h.sa,λhs=>?_,λo x hx he=>?_⟩
 ·rcases r.so2 _ hs with h1|h1|⟨o,x,h1,h2⟩
  ·exact h.so h1
  ·omega
  ·exact h.ob o x h1 h2
 ·rcases r.own o x hx with h1|⟨o',x',h1,h2⟩
  ·omega
  ·exact h.ob o' x' h1 (h2.trans he)
theorem Reach.weaken {c c':Ctx} {H H':X0c} {n n':Nat} (r:Reach c H n c' H') (h:n'<=n):Reach c H n' c' H' :=
 ⟨λo ho=>r.rho o (Nat.lt_of_lt_of_le ho h),r.os,r.tape,r.output,r.size,r.block,r.stable,r.sa,r.so1,r.so2,r.B,r.own⟩
theorem X3l.turn0 {nt n0:Nat} {c0 c:Ctx} {H0:X0c} {s:St} {act:Act} {b:Nat} (o:Go.Obj) (g:X3l nt c0 H0 n0 c s act) (h:Away c s.H b) :
  X3l nt { c with w:=c.w.putObj b o } s.H n0 { c with w:=c.w.putObj b o } s act/\c.Le (λ_=>True) { c with w:=c.w.putObj b o }:=by
 have hother:∀ k,k≠b->(c.w.putObj b o).heap[k]?=c.w.heap[k]?:=λk hk=>World.putObj_heap_other hk;have hle:c.Le (λ_=>True) { c with w:=c.w.putObj b o } :=
  ⟨λ_ _=>rfl,λ_ h=>h,λ_ h=>h,λk hk=>hother k (λe=>by subst e;exact hk.elim h.sa h.so),rfl⟩
 have all:∀ {a:AV} {M:Nat->Prop},a.Ok M->a.Ok (λ_=>True):=λh=>h.mono λ_ _=>trivial;refine⟨⟨⟨λq x hx=>?_,g.inv.sep,g.inv.stab,λk hk=>?_,?_,g.inv.own,g.inv.low,g.inv.glob.mono hle⟩,g.solo,λt=>(g.frame t).mono hle (.inr (all (g.ok t))),g.ok,g.size,.refl _ _ _,g.le0⟩,hle⟩
 ·obtain⟨i1,⟨⟨cur,hb,hs,hc⟩,i3,i4,i5⟩,i6⟩:=g.inv.obj q x hx;refine⟨i1,⟨⟨cur,(hother _ (h.ob q x hx)).trans hb,hs,λi e he=>?_⟩,i3,i4,i5⟩,i6⟩;obtain⟨g1,g2⟩:=hc i e he;exact⟨g1,λk a ha=>by obtain⟨v,hv,hr,h7⟩:=g2 k a ha;exact⟨v,hv,hr.mono hle (.inr (all (i6 e (List.mem_of_getElem? he) a (List.mem_of_getElem? ha)))),h7⟩⟩
 ·show k<(c.w.putObj b o).heap.size;rw[World.putObj_size];exact g.inv.lt k hk
 ·show c.B<=(c.w.putObj b o).heap.size;rw[World.putObj_size];exact g.inv.base
theorem Reach.turnBack {c c1 c2:Ctx} {H H1 H2:X0c} {n b:Nat} {o0 o1:Go.Obj} (r1:Reach c H n c1 H1) (r2:Reach { c1 with w:=c1.w.putObj b o1 } H1 n c2 H2) (hb:c.w.heap[b]?=some o0) (h:Away c H b) :
  Reach c H n { c2 with w:=c2.w.putObj b o0 } H2:=by
 have hlt:b<c.w.heap.size:=(Array.getElem?_eq_some_iff.1 hb).1;have hs2:c.w.heap.size<=c2.w.heap.size:=by
  have h1:=r1.size;have h2:(c1.w.putObj b o1).heap.size<=c2.w.heap.size:=r2.size;rw[World.putObj_size] at h2;omega
 refine⟨λo ho=>(r2.rho o ho).trans (r1.rho o ho),r2.os.trans r1.os,r2.tape.trans r1.tape,⟨r2.output.1.trans r1.output.1,Nat.le_trans r1.output.2 r2.output.2⟩,?_,λk hk hn=>?_,λk hk=>?_,r2.sa.trans r1.sa,λk hk=>r2.so1 k (r1.so1 k hk),λk hk=>?_,r2.B.trans r1.B,λo x hx=>?_⟩
 ·show c.w.heap.size<=(c2.w.putObj b o0).heap.size;rw[World.putObj_size];exact hs2
 ·show(c2.w.putObj b o0).heap[k]?=_;by_cases e:k=b
  ·subst e;rw[World.putObj_heap_same om];exact hb.symm
  ·rw[World.putObj_heap_other e];have h2:c2.w.heap[k]?=(c1.w.putObj b o1).heap[k]?:=r2.block k (by show k<(c1.w.putObj b o1).heap.size;rw[World.putObj_size];exact Nat.lt_of_lt_of_le hk r1.size) λo x hx he=>by
    rcases r1.own o x hx with h1|⟨o',x',h1,h2⟩
    ·have he':(c1.ρ o).blk=k:=he;omega
    ·exact hn o' x' h1 (h2.trans he)
   rw[h2,World.putObj_heap_other e];exact r1.block k hk hn
 ·show(c2.w.putObj b o0).heap[k]?=_;have e:k≠b:=λe=>by subst e;exact hk.elim h.sa h.so
  rw[World.putObj_heap_other e];have h2:c2.w.heap[k]?=(c1.w.putObj b o1).heap[k]?:=r2.stable k (hk.imp (λx=>by show c1.Sa k;rw[r1.sa];exact x) (r1.so1 k));rw[h2,World.putObj_heap_other e];exact r1.stable k hk
 ·rcases r2.so2 k hk with h1|h1|⟨q,y,h1,h2⟩
  ·exact r1.so2 k h1
  ·right;left
   have h3:(c1.w.putObj b o1).heap.size<=k:=h1;rw[World.putObj_size] at h3;exact Nat.le_trans r1.size h3
  ·have h2':(c1.ρ q).blk=k:=h2;rcases r1.own q y h1 with h3|⟨q',y',h3,h4⟩
   ·exact .inr (.inl om)
   ·exact .inr (.inr ⟨q',y',h3,h4.trans h2'⟩)
 ·rcases r2.own o x hx with h1|⟨q,y,h1,h2⟩
  ·left;have h3:(c1.w.putObj b o1).heap.size<=(c2.ρ o).blk:=h1;rw[World.putObj_size] at h3;exact Nat.le_trans r1.size h3
  ·rcases r1.own q y h1 with h3|⟨q',y',h3,h4⟩
   ·left;have:(c1.ρ q).blk=(c2.ρ o).blk:=h2;show c.w.heap.size<=(c2.ρ o).blk;omega
   ·exact .inr ⟨q',y',h3,h4.trans h2⟩
def zipL:List Nat->List AV->List (Nat×AV)->List (Nat×AV)
 |p::ps,a::as,L=>zipL ps as ((p,a)::L)
 |_,_,L=>L
theorem X022 {c:Ctx} {n:Nat}:∀ (ps:List Nat) (as:List AV) (vs:List Value) (L:List (Nat×AV)) (tmps:Array Value),as.length=vs.length->(∀ (i:Nat) a v,as[i]?=some a->vs[i]?=some v->X0q c false a v/\a.Ok (·<n)) ->
  (∀ p∈ps,p<tmps.size)->(∀ t,X0q c false (fr L t) (tmps.getD t undef)/\(fr L t).Ok (·<n)) ->
  (∀ t,X0q c false (fr (zipL ps as L) t) (((ps.zip vs).foldl (λt (p,v)=>t.setIfInBounds p v) tmps).getD t undef)/\(fr (zipL ps as L) t).Ok (·<n))/\((ps.zip vs).foldl (λt (p,v)=>t.setIfInBounds p v) tmps).size=tmps.size:=by
 intro ps
 induction ps with
 |nil=>intro as vs L tmps _ _ _ h;cases as<;>exact⟨h,rfl⟩
 |cons p ps ih =>
  intro as vs L tmps hl ha hp h
  cases as with
  |nil =>
   have:vs=[]:=List.eq_nil_of_length_eq_zero (by rw[<-hl];rfl);subst this;exact⟨h,rfl⟩
  |cons a as =>
   cases vs with
   |nil=>simp at hl
   |cons v vs =>
    have h0:=ha 0 a v rfl rfl;obtain⟨k1,k2⟩:=ih as vs ((p,a)::L) (tmps.setIfInBounds p v) (by simpa using hl) (λi a v h1 h2=>ha (i+1) a v (by simpa using h1) (by simpa using h2)) (λq hq=>by simpa using hp q (List.mem_cons_of_mem _ hq)) (λt=>by
     rw[Xpw (hp p List.mem_cons_self)];by_cases ht:t=p
     ·subst ht;rw[if_pos rfl];have:fr ((t,a)::L) t=a:=by simp[fr]
      rw[this];exact h0
     ·rw[if_neg ht];have:fr ((p,a)::L) t=fr L t:=by
       have hb:Nat.beq t p=false:=by rw[<-Bool.not_eq_true,Nat.beq_eq];exact ht
       simp[fr,hb]
      rw[this];exact h t)
    exact⟨k1,by simpa using k2⟩
def asgQ (P:Program) (nt n:Nat) (body:Code) (RQ:Xp->St->Mu->Prop):Xp->St->Mu->Prop:=λe s μ=>e=.normal/\μ=[]/\X41 P nt n body RQ s []
theorem X0.asg {P:Program} {nt n:Nat} {body:Code} {RQ:Xp->St->Mu->Prop} {s:St} (h:X0 P nt n RQ (.code body) [] s []):X0 P nt n (asgQ P nt n body RQ) (.exit .normal) [] s [] :=
 Cl.mk ⟨rfl,rfl,X41.ofCl h⟩
theorem Xvd {μ:Mu} {b:Nat} {r:Loop} {nt m:Nat} {A:Nat->AV} (h:(b,.loop r nt m A)∈μ):Xjv μ=false:=by
 induction μ with
 |nil=>cases h
 |cons p μ ih =>
  obtain⟨q,x⟩:=p;rcases List.mem_cons.1 h with h|h2
  ·cases h;rfl
  ·cases x with
   |loop=>rfl
   |mark=>exact ih h2
   |map=>exact ih h2
   |blk=>exact ih h2
def rndQ (P:Program) (nt n0:Nat) (Q:Xp->St->Mu->Prop) (ops:Array Oper) (l:List Oper) (K:List Kn) (L:List (Nat×AV)) (d:Option Nat) (μ:Mu):Xp->St->Mu->Prop :=
 λe s _=>e=.normal/\X0 P nt n0 Q (.ops ops l) K ⟨Xfz (fr L) d (.sc (.bool true)),s.H,s.n⟩ μ
theorem X0.rndEnd {P:Program} {nt n0 nt' n1:Nat} {Q:Xp->St->Mu->Prop} {ops:Array Oper} {l:List Oper} {K:List Kn} {L L1:List (Nat×AV)} {d:Option Nat} {μ μ1:Mu} {G:List (Nat×Obj)} {n:Nat}
  (h:X0 P nt n0 Q (.ops ops l) K ⟨fr (Xwi d (.sc (.bool true)) L),hp G,n⟩ μ):X0 P nt' n1 (rndQ P nt n0 Q ops l K L d μ) (.exit .normal) [] ⟨fr L1,hp G,n⟩ μ1 :=
 Cl.mk ⟨rfl,by show X0 P nt n0 Q (.ops ops l) K ⟨Xfz (fr L) d (.sc (.bool true)),hp G,n⟩ μ;rw[<-X5u];exact h⟩
theorem X0.yield {P:Program} {nt n0 n b ntc m:Nat} {Q:Xp->St->Mu->Prop} {ops:Array Oper} {l:List Oper} {o:Oper} {K:List Kn} {L Lc:List (Nat×AV)} {G:List (Nat×Obj)} {μ:Mu} {x:Operand} {args:Array Operand} {ts:Array Nat} {r:Loop}
  {as:List AV} {qx qa:List Prop} {ps:Array Nat} {assign body:Code} (ho:o.op=.call { callee:=.value x,args:=args,argTypes:=ts }) (hg:o.guard=none) (hd:Xjm nt o.dst=true)
  (hx:rd L x=(.sc (.func (.yield b) #[] #[]),qx)) (ha:rds L args.toList=(as,qa)) (hqx:X4v qx) (hqa:X4v qa)
  (hμ:(b,.loop r ntc m (fr Lc))∈μ) (h1:r.state=.ready) (h2:r.pending=none) (h3:r.params=ps) (h4:r.assign=assign) (h5:r.body=body)
  (hps:(Nat.beq as.length ps.size&&ps.toList.all λp=>Nat.blt p ntc)=true) (ht:(X89 assign||X89 body)=false)
  (h:X0 P ntc n (asgQ P ntc n body (rndQ P nt n0 Q ops l K L o.dst μ)) (.code assign) [] ⟨fr (zipL ps.toList as Lc),hp G,n⟩ []):X0 P nt n0 Q (.ops ops (o::l)) K ⟨fr L,hp G,n⟩ μ:=by
 subst h3 h4 h5;simp only[Bool.and_eq_true,Nat.beq_eq,List.all_eq_true,Nat.blt_eq] at hps;obtain⟨hp1,hp2⟩:=hps;simp only[Bool.or_eq_false_iff] at ht;intro c0 H0 c act g hm Qx hQ R hR
 cases R with
 |none=>rw[Xvd hμ] at hR;exact absurd (hR rfl) (by simp)
 |some R =>
 refine X2a λK' hK'=>?_;rw[if_pos (by simp[Region.wanted,hg])];obtain⟨⟨hrec,hsz⟩,hmn,hAok,hA⟩:=hm.is _ hμ;obtain⟨w1,w2,w3,w4⟩:=hm.away _ hμ;have haw:Away c (hp G) b:=⟨w1,w2,w3⟩;have hlt:b<c.w.heap.size:=(Array.getElem?_eq_some_iff.1 hrec).1;have ex:act.eval x=.func (.yield b) #[] #[]:=by have:=g.ev x;rw[show evA (St.A ⟨fr L,hp G,n⟩) x=_ from X0n hx hqx] at this;exact this.sc_inv
 have hargs:args.toList.map (evA (fr L))=as:=Xgl ha hqa;have hlen:as.length=args.size:=by rw[<-hargs];simp
 have hy:=run_yield (P:=P) (args:=args.map act.eval) hrec (by rw[Array.size_map,<-hlen];exact hp1);have hrun:(execOp act.eval o).run P c.w=.ok (.round b r.fn ((r.params.zip (args.map act.eval)).foldl (λtmps (t,a)=>tmps.setIfInBounds t a) r.tmps) r.assign r.body) c.w:=by
  simp only[execOp,ho,resolve,ex,Deferred.ofValue,Sem.run_bind,Sem.run_pure,Result.andThen_ok,invoke,Array.empty_append,Array.append_empty];exact hy
 show Oper.wpIn (FR R) 0 P o act c.w K' Qx;refine⟨λ_ _=>trivial,?_⟩;rw[Oper.semAt_eq _ _ _ (λd hd=>by rw[hd] at ho;cases ho),hrun,Oper.uponIn_round];refine⟨λh=>Bool.noConfusion h,roundIn_of_wpIn trivial ?_⟩;have hz:(r.params.zip (args.map act.eval)).foldl (λtmps (t,a)=>tmps.setIfInBounds t a) r.tmps=(r.params.toList.zip (args.toList.map act.eval)).foldl (λt (p,v)=>t.setIfInBounds p v) r.tmps:=by
  rw[<-Array.foldl_toList];simp
 have hzip:=X022 (c:=c) (n:=n) r.params.toList as (args.toList.map act.eval) Lc r.tmps (by rw[<-hargs];simp) (λi a v h1 h2=>by
   rw[<-hargs,List.getElem?_map] at h1;rw[List.getElem?_map] at h2
   cases hq:args.toList[i]? with
   |none=>simp[hq] at h1
   |some q =>
    simp only[hq,Option.map_some,Option.some.injEq] at h1 h2;subst h1 h2;exact⟨g.ev q,g.evOk q⟩) (λp hp=>by rw[hsz];exact hp2 p hp) (λt=>⟨hA t,(hAok t).mono λq hq=>Nat.lt_of_lt_of_le hq (Nat.le_trans hmn g.le0)⟩)
 rw[<-hz] at hzip;have gB:X3l ntc c (hp G) n c ⟨fr (zipL r.params.toList as Lc),hp G,n⟩ { tmps:=(r.params.zip (args.map act.eval)).foldl (λtmps (t,a)=>tmps.setIfInBounds t a) r.tmps,defers:=[] } :=
  ⟨g.inv,g.solo,λt=>(hzip.1 t).1,λt=>(hzip.1 t).2,hzip.2.trans hsz,.refl _ _ _,Nat.le_refl _⟩
 refine wpIn_mono (X41.ofCl h c (hp G) c _ gB (.nil rfl) (some b) (λh=>by rw[ht.1] at h;cases h)) ?_;rintro e a1 w' ⟨c1,s1,ae,μ1,rfl,g1,hm1,rfl,rfl,rfl,hbody⟩;have hrec1:c1.w.heap[b]?=some (.loop r):=(g1.reach.block b hlt haw.ob).trans hrec;refine⟨_,run_beginRound hrec1 h1,?_⟩;have aw1:Away c1 s1.H b:=haw.kept hlt g1.reach;obtain⟨g1',_⟩:=g1.turn0 (.loop { r with state:=.busy }) aw1;refine wpIn_mono (hbody _ s1.H _ a1 g1' (.nil hm1.ds) (some b) (λh=>by rw[ht.2] at h;cases h)) ?_;rintro e a2 w' ⟨c2,s2,ae,μ2,rfl,g2,hm2,rfl,rfl,hk⟩;have hlt1:b<c1.w.heap.size:=(Array.getElem?_eq_some_iff.1 hrec1).1;have hrec2:c2.w.heap[b]?=some (.loop { r with state:=.busy }) :=
  (g2.reach.block b (by show b<(c1.w.putObj b _).heap.size;rw[World.putObj_size];exact hlt1) aw1.ob).trans (World.putObj_heap_same hlt1)
 have hr:({ r with state:=.ready,pending:=none }:Loop)=r:=by
  obtain⟨st,pe,fn,tm,pa,asg,bd,de⟩:=r;simp only at h1 h2;subst h1 h2;rfl
 have hend:=run_endRound (P:=P) none hrec2;simp only[Option.isNone_none,if_true] at hend;rw[hr] at hend;refine⟨_,_,hend,?_⟩;have aw2:Away c2 s2.H b:=(Away.mk aw1.sa aw1.so aw1.ob:Away { c1 with w:=c1.w.putObj b (.loop { r with state:=.busy }) } s1.H b).kept (by show b<(c1.w.putObj b _).heap.size;rw[World.putObj_size];exact hlt1) g2.reach;obtain⟨g3,_⟩:=g2.turn0 (.loop r) aw2;have rt:Reach c (hp G) n { c2 with w:=c2.w.putObj b (.loop r) } s2.H:=Reach.turnBack g1.reach g2.reach hrec haw;have gf:=g.next (X7i hd) rt.le rt.sa rt.so2 rt.fr rt.own g3.inv g3.solo g3.le0 (a:=.sc (.bool true)) (v:=.bool true) .sc .sc;exact hK' _ _ (hk c0 H0 _ _ gf (hm.kept (rt.weaken g.le0)) Qx hQ (some R) (λh=>by cases h))
def Xn8:Code->List (Array Nat×Code×Code)
 |.loop b=>Xn8 b
 |.seq a b=>Xn8 a++Xn8 b
 |.block _ c=>Xn8 c
 |.scope c=>Xn8 c
 |.cond _ a b=>Xn8 a++Xn8 b
 |.rangeFunc _ ps a b=>(ps,a,b)::(Xn8 a++Xn8 b)
 |_=>[]
def rfB (i:Nat) (c:Code):Array Nat×Code×Code:=((Xn8 c)[i]?).getD (#[],.skip,.skip)
def Xnd (slots:List Nat) (L:List (Nat×AV)):List (Nat×AV):=slots.map λt=>(t,fr L t)
theorem Xtv (L:List (Nat×AV)):∀ (slots:List Nat) (t:Nat),fr (Xnd slots L) t=fr L t\/fr (Xnd slots L) t=.junk:=by
 intro slots
 induction slots with
 |nil=>intro t;exact .inr rfl
 |cons q r ih =>
  intro t;show fr ((q,fr L q)::Xnd r L) t=_\/fr ((q,fr L q)::Xnd r L) t=_;simp only[fr]
  cases hb:Nat.beq t q with
  |true=>rw[Nat.eq_of_beq_eq_true hb];exact .inl rfl
  |false=>exact ih t
theorem X0.keepL {P:Program} {nt n0 n:Nat} {Q:Xp->St->Mu->Prop} {cf:Cf} {K:List Kn} {L:List (Nat×AV)} {G:List (Nat×Obj)} {μ:Mu} (slots:List Nat) (h:X0 P nt n0 Q cf K ⟨fr (Xnd slots L),hp G,n⟩ μ):X0 P nt n0 Q cf K ⟨fr L,hp G,n⟩ μ:=by
 refine X0.sub (s':=⟨fr (Xnd slots L),hp G,n⟩) (λc0 H0 c act μ g hm=>⟨⟨g.inv,g.solo,λt=>?_,λt=>?_,g.size,g.reach,g.le0⟩,hm⟩) h
 ·rcases Xtv L slots t with h|h
  ·show X0q c false (fr (Xnd slots L) t) _;rw[h];exact g.frame t
  ·show X0q c false (fr (Xnd slots L) t) _;rw[h];exact .junk
 ·rcases Xtv L slots t with h|h
  ·show(fr (Xnd slots L) t).Ok _;rw[h];exact g.ok t
  ·show(fr (Xnd slots L) t).Ok _;rw[h];exact .junk
def rfQ (P:Program) (nt n0:Nat) (Q:Xp->St->Mu->Prop) (K:List Kn) (L:List (Nat×AV)) (μ:Mu) (D:Nat) (μi:Mu):Xp->St->Mu->Prop :=
 λe s μ'=>(∀ id,e≠.exit id)/\μ'=μi/\X0 P nt n0 Q (.exit .normal) K ⟨fr L,s.H,s.n⟩ ((D,.mark)::μ)
theorem X0.rfEnd {P:Program} {nt n0 nt' n1:Nat} {Q:Xp->St->Mu->Prop} {K:List Kn} {L L1:List (Nat×AV)} {μ μi:Mu} {D:Nat} {G:List (Nat×Obj)} {n:Nat} {e:Xp} (he:∀ id,e≠.exit id)
  (h:X0 P nt n0 Q (.exit .normal) K ⟨fr L,hp G,n⟩ ((D,.mark)::μ)):X0 P nt' n1 (rfQ P nt n0 Q K L μ D μi) (.exit e) [] ⟨fr L1,hp G,n⟩ μi :=
 Cl.mk ⟨he,rfl,h⟩
theorem X3l.alloc {nt n0:Nat} {c0 c:Ctx} {H0:X0c} {s:St} {act:Act} (o:Go.Obj) (g:X3l nt c0 H0 n0 c s act):X3l nt c0 H0 n0 { c with w:=c.w.alloc o } s act:=by
 obtain⟨h1,h2,h3⟩:=g.inv.waste (w':=c.w.alloc o) o rfl rfl rfl ⟨rfl,Nat.le_refl _⟩;have:=g.next (c':={ c with w:=c.w.alloc o }) (dst:=none) (a:=.sc undef) (v:=undef) (λd h=>by cases h) h1 rfl (λb hb=>.inl hb) h3 (λq x hx=>.inr ⟨q,x,hx,rfl⟩) h2 g.solo (Nat.le_refl _) .sc .sc;exact this
theorem X0.rangeFunc {P:Program} {nt n0 n gf nti:Nat} {Q:Xp->St->Mu->Prop} {K:List Kn} {L:List (Nat×AV)} {G:List (Nat×Obj)} {μ:Mu} {g:Operand} {ps:Array Nat} {assign body codeI:Code} {fnI:Func} {caps:List AV} {q:List Prop}
  (hg:rd L g=(.fn gf caps,q)) (hq:X4v q) (hfn:X1g P gf fnI codeI) (hnt:fnI.ntmps=nti) (hle:Nat.ble (caps.length+1) nti=true) (hres:fnI.results=#[])
  (h:∀ (b D:Nat) (r:Loop),r.state=.ready->r.pending=none->r.params=ps->r.assign=assign->r.body=body ->
   X0 P nti n (rfQ P nt n0 Q K L μ D [(b,.loop r nt n (fr L)),(D,.blk (.deferred (some [])))]) (.code codeI) [] ⟨fr (argL 0 (.sc (.func (.yield b) #[] #[])::caps)),hp G,n⟩ [(b,.loop r nt n (fr L)),(D,.blk (.deferred (some [])))]) :
  X0 P nt n0 Q (.code (.rangeFunc g ps assign body)) K ⟨fr L,hp G,n⟩ μ:=by
 intro c0 H0 c act gd hm R hR;obtain rfl:=hR rfl;have hv:=gd.ev g;rw[show evA (St.A ⟨fr L,hp G,n⟩) g=_ from X0n hg hq] at hv;have hvo:=gd.evOk g;rw[show evA (St.A ⟨fr L,hp G,n⟩) g=_ from X0n hg hq] at hvo;obtain⟨cv,hcv,hcl,hcr⟩:=hv.fn_inv;refine wpIn_rangeFunc ?_;intro fn _;let D:=c.w.heap.size
 let b:=c.w.heap.size+1
 let Xpd:Loop:={ state:=.ready,pending:=none,fn,tmps:=act.tmps,params:=ps,assign,body,defers:=c.w.heap.size }
 let W1:World:=(c.w.alloc (.deferred (some []))).alloc (.loop Xpd)
 let c1:Ctx:={ c with w:=W1 }
 have hL1:W1.heap[b]?=some (.loop Xpd):=by
  have:=World.alloc_heap_new (c.w.alloc (.deferred (some []))) (.loop Xpd);rwa [World.size_alloc] at this
 have hK1:W1.heap[D]?=some (.deferred (some [])):=(RowKit.Below.heap_alloc _ _ _ (by simp[D])).trans (World.alloc_heap_new c.w _);have hs1:W1.heap.size=c.w.heap.size+2:=by simp[W1]
 have g1:X3l nt c (hp G) n0 c1 ⟨fr L,hp G,n⟩ act:=(gd.rebase.alloc (.deferred (some []))).alloc (.loop Xpd);have hold:∀ k,k<c.w.heap.size->W1.heap[k]?=c.w.heap[k]?:=λk hk=>(RowKit.Below.heap_alloc _ _ _ (by simp;omega)).trans (RowKit.Below.heap_alloc _ _ _ hk);have r1:Reach c (hp G) n c1 (hp G):=⟨λ_ _=>rfl,rfl,rfl,⟨rfl,Nat.le_refl _⟩,by show c.w.heap.size<=W1.heap.size;omega,λk hk _=>hold k hk,λk hk=>hold k (gd.inv.lt k hk),rfl,λ_ h=>h,λ_ h=>.inl h,rfl,λo x hx=>.inr ⟨o,x,hx,rfl⟩⟩;have hob:∀ o x,hp G o=some x->(c.ρ o).blk<c.w.heap.size:=λo x hx=>by
  obtain⟨_,⟨⟨cur,hcb,_⟩,_⟩,_⟩:=gd.inv.obj o x hx;exact(Array.getElem?_eq_some_iff.1 hcb).1
 let vs:Array Value:=#[.func (.yield b) #[] #[]]++cv
 have hvs:vs.size=caps.length+1:=by simp[vs,<-hcl];omega
 have gI:X3l nti c (hp G) n c1 ⟨fr (argL 0 (.sc (.func (.yield b) #[] #[])::caps)),hp G,n⟩ { tmps:=vs++Array.replicate (fnI.ntmps - vs.size) undef,defers:=[] }:=by
  have hrel:Xgf c1 false (.sc (.func (.yield b) #[] #[])::caps) vs:=by
   refine⟨by rw[hvs];simp,λi a v ha hv=>?_⟩
   cases i with
   |zero =>
    have hv':vs[0]?=some (.func (.yield b) #[] #[]):=by simp only[vs];rw[Array.getElem?_append_left (by simp)];rfl
    rw[hv'] at hv;simp only[List.getElem?_cons_zero,Option.some.injEq] at ha hv;subst ha hv;exact .sc
   |succ i =>
    have hv':cv[i]?=some v:=by
     simp only[vs] at hv;rw[Array.getElem?_append_right (by simp)] at hv;simpa using hv
    simp only[List.getElem?_cons_succ] at ha;refine(hcr i a v ha hv').mono r1.le (.inr ?_)
    cases hvo with|fn hvo=>exact hvo a (List.mem_of_getElem? ha)
  have hok:∀ a∈(.sc (.func (.yield b) #[] #[])::caps:List AV),a.Ok (·<n):=by
   intro a ha;rcases List.mem_cons.1 ha with rfl|ha
   ·exact .sc
   ·cases hvo with|fn hvo=>exact hvo a ha
  have:X3l nti c (hp G) n c1 ⟨argA (.sc (.func (.yield b) #[] #[])::caps),hp G,n⟩ { tmps:=vs++Array.replicate (fnI.ntmps - vs.size) undef,defers:=[] } :=
   ⟨g1.inv,g1.solo,λt=>Xji hrel _ t,λt=>Xt6 hok t,by have:=Nat.le_of_ble_eq_true hle;simp only[Array.size_append,Array.size_replicate];omega,r1,Nat.le_refl _⟩
  exact this.argL
 have mI:MOk n c (hp G) c1 (hp G) [(b,.loop Xpd nt n (fr L)),(D,.blk (.deferred (some [])))] { tmps:=vs++Array.replicate (fnI.ntmps - vs.size) undef,defers:=[] }:=by
  refine⟨λp hp=>?_,λp hp=>?_,by simp[b,D],rfl⟩
  ·simp only[List.mem_cons,List.not_mem_nil,or_false] at hp;rcases hp with rfl|rfl
   ·exact⟨⟨hL1,gd.size⟩,Nat.le_refl _,λt=>gd.ok t,λt=>g1.frame t⟩
   ·exact hK1
  ·simp only[List.mem_cons,List.not_mem_nil,or_false] at hp;have key:∀ k,c.w.heap.size<=k->¬ c1.Sa k/\¬ c1.So k/\(∀ o x,Av.hp G o=some x->(c1.ρ o).blk≠k)/\NewB c (Av.hp G) k:=λk hk =>
    ⟨λhs=>by have:=gd.inv.lt k (.inl hs);omega,λhs=>by have:=gd.inv.lt k (.inr hs);omega,λo x hx e=>by have h1:=hob o x hx;have h2:(c.ρ o).blk=k:=e;omega,⟨Nat.le_trans gd.inv.base hk,.inl hk⟩⟩
   rcases hp with rfl|rfl
   ·exact key b (by simp[b])
   ·exact key D (Nat.le_refl _)
 refine⟨b,[{ target:=.collected D,args:=#[] }],W1,{ target:=.fn (.func gf) cv,args:=#[.func (.yield b) #[] #[]] },W1,gf,vs,W1,run_enterLoop_outer _ _ _ _ _,?_,λ_ _=>trivial,?_,λh=>Bool.noConfusion h,?_⟩
 ·simp only[resolve,hcv];simp[go_sem]
 ·simp only[invoke,callFunc,Sem.run_bind,run_program,Result.andThen_ok,hfn.here,hfn.name,hfn.body,Option.isNone_some,Bool.false_eq_true,if_false];rfl
 refine callsIn_of_wp hfn.here hfn.body trivial ?_ rfl;refine wpIn_mono (X41.ofCl (h b D Xpd rfl rfl rfl rfl rfl) c (hp G) c1 _ gI mI none .none) ?_;rintro e a w' ⟨c2,s2,ae,μ2,rfl,g2,hm2,rfl,hne,rfl,hk⟩;have hds:a.defers=[]:=hm2.ds;have fin:a.defers=[]/\∃ v,(results fnI a.tmps).run P c2.w=.ok v c2.w/\rangePost (FR none) 0 P b (MQ nt c0 H0 n0 (Xf1 P nt n0 Q K)) { act with defers:=[{ target:=.collected D,args:=#[] }]++act.defers } (.returned v) c2.w:=by
  obtain⟨⟨hrec,_⟩,_⟩:=hm2.is (b,.loop Xpd nt n (fr L)) (by simp);have hDk:c2.w.heap[D]?=some (.deferred (some [])):=hm2.is (D,.blk (.deferred (some []))) (by simp);obtain⟨x1,x2,x3,x4⟩:=hm2.away (b,.loop Xpd nt n (fr L)) (by simp);obtain⟨y1,y2,y3,y4⟩:=hm2.away (D,.blk (.deferred (some []))) (by simp);obtain⟨g3,hle3⟩:=g2.turn (.loop { Xpd with state:=.exhausted }) x1 x2 x3 x4;refine⟨hds,.tuple #[],by simp[results,hres,go_sem],?_⟩;refine⟨none,_,run_endLoop hrec (by simp[Xpd]),?_⟩;have rt:=g3.reach;have gc:=gd.next (dst:=none) (a:=.sc undef) (v:=undef) (λd h=>by cases h) rt.le rt.sa rt.so2 rt.fr rt.own g3.inv g3.solo g3.le0 .sc .sc;have gc2:X3l nt c0 H0 n0 { c2 with w:=c2.w.putObj b (.loop { Xpd with state:=.exhausted }) } ⟨fr L,s2.H,s2.n⟩ { act with defers:=[{ target:=.collected D,args:=#[] }]++act.defers } :=
   ⟨gc.inv,gc.solo,gc.frame,gc.ok,gc.size,gc.reach,gc.le0⟩
  have hmk:=hm.kept (rt.weaken gd.le0) (act':=act) rfl;refine⟨_,⟨fr L,s2.H,s2.n⟩,.normal,(D,.mark)::μ,rfl,gc2,⟨λp hp=>?_,λp hp=>?_,?_,?_⟩,rfl,hk⟩
  ·rcases List.mem_cons.1 hp with rfl|hp
   ·exact(World.putObj_heap_other (by simp[b,D])).trans hDk
   ·exact hmk.is p hp
  ·rcases List.mem_cons.1 hp with rfl|hp
   ·exact⟨y1,y2,y3,⟨by rw[<-gd.reach.B];exact gd.inv.base,.inl gd.reach.size⟩⟩
   ·exact hmk.away p hp
  ·refine List.nodup_cons.2 ⟨λhmem=>?_,hm.nodup⟩;obtain⟨p,hp,he⟩:=List.mem_map.1 hmem;have:=(hm.is p hp).lt;simp only[D] at he;omega
  ·show[_]++act.defers=_::Xi7 μ;rw[hm.ds];rfl
 cases ae with
 |exit id=>exact(hne id rfl).elim
 |normal=>exact fin
 |ret=>exact fin
end Go.Av


namespace Go.Av
variable [Gls]
def StTo (nt n0:Nat) (s s':St):Prop:=∀ (c0:Ctx) (H0:X0c) (c:Ctx) (act:Act) (μ:Mu),X3l nt c0 H0 n0 c s act->MOk n0 c0 H0 c s.H μ act->∃ c',c'.w=c.w/\X3l nt c0 H0 n0 c' s' act/\MOk n0 c0 H0 c' s'.H μ act
section
variable {P:Program} {nt n0:Nat} {s s':St} {Q:Xp->St->Mu->Prop} {μ:Mu}
theorem StTo.loop (hw:StTo nt n0 s s') {b:Code} (h:Xaq P nt n0 b Q s' μ):Xaq P nt n0 b Q s μ:=by
 intro c0 H0 c act g hm R hR;obtain⟨c',hc,g',hm'⟩:=hw c0 H0 c act μ g hm;have:=h c0 H0 c' act g' hm' R hR
 rwa [hc] at this
theorem StTo.semM (hw:StTo nt n0 s s') {c:Code} (h:X41 P nt n0 c Q s' μ):X41 P nt n0 c Q s μ:=by
 intro c0 H0 c act g hm R hR;obtain⟨c',hc,g',hm'⟩:=hw c0 H0 c act μ g hm;have:=h c0 H0 c' act g' hm' R hR
 rwa [hc] at this
theorem Xf1.to (hw:StTo nt n0 s s'):∀ (K:List Kn) (e:Xp),Xf1 P nt n0 Q K e s' μ->Xf1 P nt n0 Q K e s μ:=by
 intro K
 induction K with
 |nil =>
  intro e h c0 H0 c act g hm;obtain⟨c',hc,g',hm'⟩:=hw c0 H0 c act μ g hm;obtain⟨c2,s2,h1,h2⟩:=h c0 H0 c' act g' hm';exact⟨c2,s2,h1.trans hc,h2⟩
 |cons k K ih =>
  intro e h
  cases k with
  |seq c =>
   cases e with
   |normal=>exact hw.semM h
   |exit i=>exact ih _ h
   |ret=>exact ih _ h
  |block id =>
   cases e with
   |normal=>exact ih _ h
   |ret=>exact ih _ h
   |exit i =>
    have h':X99 id (Xf1 P nt n0 Q K) (.exit i) s' μ:=h;show X99 id (Xf1 P nt n0 Q K) (.exit i) s μ;simp only[X99] at h' ⊢
    cases hb:Nat.beq i id with
    |true=>rw[hb,cond_true] at h';exact ih _ h'
    |false=>rw[hb,cond_false] at h';exact ih _ h'
  |loop b =>
   cases e with
   |normal=>exact hw.loop h
   |exit i=>exact ih _ h
   |ret=>exact ih _ h
theorem X0.to {cf:Cf} {K:List Kn} (hw:StTo nt n0 s s') (h:X0 P nt n0 Q cf K s' μ):X0 P nt n0 Q cf K s μ:=by
 cases cf with
 |code c=>exact hw.semM h
 |exit e=>exact Xf1.to hw K e h
 |ops ops l =>
  intro c0 H0 c act g hm Qx hQ R hR;obtain⟨c',hc,g',hm'⟩:=hw c0 H0 c act μ g hm;have:=h c0 H0 c' act g' hm' Qx hQ R hR
  rwa [hc] at this
 |loop b=>exact hw.loop h
end
end Go.Av


namespace Go.D
end Go.D
namespace Go.Av
variable [Gls]
open Go.D
class Xfy {α:Type} (f:α->AV):Prop where
 flat:∀ x,Xd6 (f x)
 whole:∀ x,(f x).whole=true
 still:∀ x,X6f (f x)
instance iInt {k:IntKind}:Xfy (aI k):=⟨λ_=>Xgo,λ_=>rfl,λ_=>Xgr⟩
instance X0ew:Xfy aB:=⟨λ_=>Xgo,λ_=>rfl,λ_=>Xgr⟩
class Xq3 {α:Type} (g:Bool->α->AV):Prop where
 cva:∀ {H:X0c} {o:Bool} {x:α},Cv false H (g o x) (g false x)
 cvt:∀ {H:X0c} {o:Bool} {x:α},Cv true H (g o x) (g o x)
 len:∀ (o o':Bool) (x:α),(g o x).cells.length=(g o' x).cells.length
 free:∀ (o:Bool) (x:α),Xe4 (g o x)
 still:∀ (o:Bool) (x:α),X6f (g o x)
class X091 {α:Type} (g:Bool->α->AV):Prop where
 cvw:∀ {H:X0c} {x:α},Cv true H (g true x) (g false x)
theorem cvG {α:Type} {g:Bool->α->AV} [i:Xq3 g] {H:X0c} {o:Bool} {x:α}:Cv false H (g o x) (g false x):=i.cva
theorem cvLf {α:Type} {f:α->AV} [i:Xfy f] {H:X0c} {o:Bool} {l:List α}:Cv false H (.list o (l.map f)) (.list false (l.map f)):=X1c (X0p i.flat l)
theorem cvLg {α:Type} {g:Bool->α->AV} [i:Xq3 g] {H:X0c} {o p:Bool} {l:List α}:Cv false H (.list o (l.map (g p))) (.list false (l.map (g false))) :=
 Xt2 (λx=>i.len _ _ x) (λ_=>Xi9 i.cva) l
theorem cvR {α:Type} {f:α->AV} [i:Xfy f] {m:Bool} {H:X0c} {o n:Nat} {x:Obj} {l:List α} (hH:H o=some x) (he:x.es=l.map f) (hn:n=(l.map f).length):Cv m H (.ref o 0 n) (.list m (l.map f)) :=
 X0at hH he hn (X0p i.flat l)
theorem cvRw {α:Type} {g:Bool->α->AV} [i:Xq3 g] [w:X091 g] {H:X0c} {o n:Nat} {x:Obj} {l:List α} (hH:H o=some x) (he:x.es=l.map (g true)) (hn:n=l.length):Cv true H (.ref o 0 n) (.list true (l.map (g false))) :=
 X08j hH he hn (λx=>i.len _ _ x) (λ_=>X00g w.cvw)
theorem X0dw {α:Type} {f:α->AV} {m:Bool} {H:X0c} {l:List α} (h:l=[]):Cv m H .nils (.list m (l.map f)):=X08k (by rw[h];rfl)
def CvE (m:Bool) (H:X0c) (e e':AV):Prop:=e.cells.length=e'.cells.length/\∀ (k:Nat) a b,e.cells[k]?=some a->e'.cells[k]?=some b->Cv m H a b
def CvL (m:Bool) (H:X0c) (l l':List AV):Prop:=l.length=l'.length/\∀ (i:Nat) e e',l[i]?=some e->l'[i]?=some e'->CvE m H e e'
theorem CvL.nil {m:Bool} {H:X0c}:CvL m H [] []:=⟨rfl,λi e e' h=>by simp at h⟩
theorem CvL.cons {m:Bool} {H:X0c} {e e':AV} {l l':List AV} (h:CvE m H e e') (t:CvL m H l l'):CvL m H (e::l) (e'::l'):=by
 refine⟨by simp[t.1],λi a b ha hb=>?_⟩
 cases i with
 |zero=>simp at ha hb;subst ha;subst hb;exact h
 |succ i=>simp at ha hb;exact t.2 i a b ha hb
theorem cvM {P:Prop} (h:P:=by
 repeat' first
  |exact Cvs.nil
  |refine Cvs.cons ?_ ?_
  |exact Cv.sc
  |exact Cv.fn0
  |exact Cv.listS rfl
  |exact cvLf
  |exact cvW
  |exact cvGt
  |exact cvG
  |exact cvLg
  |exact cvLe
  |refine X0as ?_
  |exact Cv.nils
  |exact X0dw (by first|rfl|assumption|(simp;done)|(simp[*];done)|fail)
  |exact cvR rfl (by first|rfl|(simp;done)|(simp;rfl)|(simp[*];done)|(simp[*];rfl)|fail) (by first|rfl|(simp;done)|(simp;omega)|(simp[*];done)|(simp[*];omega)|fail)
  |exact cvRt rfl (by first|rfl|(simp;done)|(simp;rfl)|(simp[*];done)|fail) (by first|rfl|(simp;done)|(simp;omega)|(simp[*];done)|fail)
  |exact cvRw rfl (by first|rfl|(simp;done)|(simp;rfl)|(simp[*];done)|fail) (by first|rfl|(simp;done)|(simp;omega)|(simp[*];done)|fail)
  |exact cvRg true rfl (by first|rfl|(simp;done)|(simp;rfl)|(simp[*];done)|fail) (by first|rfl|(simp;done)|(simp;omega)|(simp[*];done)|fail)
  |exact cvRg false rfl (by first|rfl|(simp;done)|(simp;rfl)|(simp[*];done)|fail) (by first|rfl|(simp;done)|(simp;omega)|(simp[*];done)|fail)
  |exact cvRe true rfl (by first|rfl|(simp;done)|(simp;rfl)|(simp[*];done)|fail) (by first|rfl|(simp;done)|(simp;omega)|(simp[*];done)|fail)
  |exact cvRe false rfl (by first|rfl|(simp;done)|(simp;rfl)|(simp[*];done)|fail) (by first|rfl|(simp;done)|(simp;omega)|(simp[*];done)|fail)
  |exact cvRf rfl (by first|rfl|(simp;done)|(simp;rfl)|(simp[*];done)|fail) (by first|rfl|(simp;done)|(simp;omega)|(simp[*];done)|fail)
  |exact cvLq (by first|rfl|(simp;done)|(simp[*];done)|fail)
  |exact cv_leqS (by first|rfl|(simp;done)|(simp[*];done)|fail)
  |exact cv_scE (by first|rfl|(simp;done)|(simp[*];done)|fail)
  |refine X9g ?_
  |exact Cv.nils0
  |refine cv_refs rfl ?_ rfl
  |exact CvL.nil
  |refine CvL.cons ?_ ?_
  |refine cvE_agg ?_
  |refine cvE_one ?_ rfl rfl
  |refine Cv.ptrL rfl rfl rfl rfl (Xi9 ?_)
  |refine Cv.elemD rfl rfl (Xi9 ?_)
  |refine Cv.weak ?_
 first|done|fail):P:=h
theorem ownM {P:Prop} (h:P:=by
 repeat' first
  |exact .sc
  |exact ownL
  |exact ownW
  |refine ownTup ?_
  |refine Xs ?_ ?_
  |exact X3k
  |refine Xq9.agg ?_
 first|done|fail):P:=h
class PCs (P:Program) (f:Nat) (S:outParam Prop):Prop where
 ok:S
theorem pcN {P:Program} {f:Nat} {H:X0c} {as bs:List AV} {r:AV} {S:Prop} [i:PCs P f S] (k:S->X05 P f bs r) (hc:Cvs false (λ_=>none) as bs):Xa7 P f H as bs r:=.none (k i.ok) hc
theorem pcL {P:Program} {f:Nat} {H:X0c} {as bs:List AV} {r:AV} {S:Prop} [i:PCs P f S] (k:S->X05 P f bs r) (hc:Cvs false H as bs) (ho:Xq9 r):Xa7 P f H as bs r:=.lent (k i.ok) hc ho
theorem pcM {P:Prop} (h:P:=by
 first
  |exact pcN (by intro K;apply K;assumption) cvM
  |exact pcL (by intro K;apply K;assumption) cvM ownM):P:=h
theorem fq {p:Prop} (h:p) {P:Prop} (k:p->P:=by first|exact id|exact X08t|exact absT|exact absN):P:=k h
theorem X04 {P:Prop} (h:P:=by
 repeat' first
  |refine And.intro ?_ ?_
  |exact trivial
  |exact pcM
  |exact oblA
 first|done|fail):P:=h
theorem X0e1 {M:Nat->Prop} {cs:List AV} (h:∀ a∈cs,a.Ok M):(AV.agg cs).Ok M:=.agg h
class TmD (P:Program) (T:outParam Ty):Prop where
 ok:Xf0 P T/\P.follows .mixedOrders=true
abbrev nbS {α:Type} {l:List α} (h:l=[]:=by first|rfl|simp[*]):Nb l:=nbT h
theorem okF {α:Type} {f:α->AV} [i:Xfy f] {x:α} {M:Nat->Prop}:(f x).Ok M:=(X6z (i.flat x) (i.whole x) M).1
theorem okG {α:Type} {g:Bool->α->AV} [i:Xq3 g] {o:Bool} {x:α} {M:Nat->Prop}:(g o x).Ok M:=(i.free o x M).1
theorem okM {P:Prop} (h:P:=by
 repeat' first
  |exact X3k
  |refine Xs ?_ ?_
  |exact .sc
  |exact .list
  |exact Xyg
  |exact .elem
  |exact okF
  |exact okG
 first|done|fail):P:=h
theorem bI {α β:Type} {x:Option α} {f:α->Option β} {r:β} {G:Prop} (k:∀ v,x=some v->f v=some r->G):x.bind f=some r->G:=λh=>X0av h k
theorem brI {α:Type} {c:Bool} {a b:Option α} {r:α} {G:Prop} (h1:c=true->a=some r->G) (h2:c=false->b=some r->G):(bif c then a else b)=some r->G:=λh=>brE h h1 h2
theorem oj {α:Type} {a b:α} (h:some a=some b):a=b:=Option.some.inj h
theorem X1f {P:Program} {T:Ty} {nt n0:Nat} {μ:Mu} {Q:Xp->St->Mu->Prop} {cf cf':Cf} {K K':List Kn} {L L':List (Nat×AV)} {G G':List (Nat×Obj)} {n n':Nat} {hs':List X21} {ps':List Prop} [hT:TmD P T] (hs:List X21)
  (k:X0 P nt n0 Q cf' K' ⟨fr L',hp G',n'⟩ μ) (h:Xdf P T nt 4000 cf K L G n hs []=some (cf',K',L',G',n',hs',ps'):=by exact rfl) (o:X4v ps':=by exact X04):X0 P nt n0 Q cf K ⟨fr L,hp G,n⟩ μ:=Xtp hT.ok 4000 hs h o k
theorem rnI {A:Prop} {P:Program} {T:Ty} {nt n0:Nat} {μ:Mu} {Q:Xp->St->Mu->Prop} {cf cf':Cf} {K K':List Kn} {L L':List (Nat×AV)} {G G':List (Nat×Obj)} {n n':Nat} {hs':List X21} {ps':List Prop} [hT:TmD P T] (hs:List X21)
  (k:A->X0 P nt n0 Q cf' K' ⟨fr L',hp G',n'⟩ μ) (h:Xdf P T nt 4000 cf K L G n hs []=some (cf',K',L',G',n',hs',ps'):=by exact rfl) (o:X4v ps':=by exact X04):A->X0 P nt n0 Q cf K ⟨fr L,hp G,n⟩ μ:=λa=>Xtp hT.ok 4000 hs h o (k a)
theorem X3 {P:Program} {T:Ty} {nt n0:Nat} {μ:Mu} {Q:Xp->St->Mu->Prop} {cf cf':Cf} {K K':List Kn} {L L':List (Nat×AV)} {G G':List (Nat×Obj)} {n n':Nat} {hs':List X21} {ps':List Prop} [hT:TmD P T] (hs:List X21)
  (h:Xdf P T nt 4000 cf K L G n hs []=some (cf',K',L',G',n',hs',ps'):=by exact rfl) (o:X4v ps':=by exact X04) (k:X0 P nt n0 Q cf' K' ⟨fr L',hp G',n'⟩ μ):X0 P nt n0 Q cf K ⟨fr L,hp G,n⟩ μ:=Xtp hT.ok 4000 hs h o k
theorem fi {P:Program} {T:Ty} {nt n0:Nat} {fn:Func} {r:AV} {L:List (Nat×AV)} {G:List (Nat×Obj)} {n:Nat} {μ:Mu} {rs:List AV} (hr:Xxy T L G fn.results.toList=some rs:=by exact rfl) (hc:Cv true (hp G) (Xho rs) r:=by exact cvM):X0 P nt n0 (X039 T fn r) (.exit .ret) [] ⟨fr L,hp G,n⟩ μ:=X001 hr hc
end Go.Av


namespace Go.Av
variable [Gls]
end Go.Av


namespace Go.Av
variable [Gls]
open Go
section
variable {P:Program} {ops:Array Oper} {Q:Exit->Act->World->Prop}
end
end Go.Av


namespace Go.Av
variable [Gls]
end Go.Av


namespace Go.Av
variable [Gls]
open Go.D
def WkC (a a':AV):Prop:=a'=a\/(∃ l,a=.list true l/\a'=.list false l)\/(a=.nils/\∃ b,a'=.list b [])
theorem WkC.rel {c:Ctx} {a a':AV} {v:Value} (h:WkC a a') (r:X0q c false a v):X0q c false a' v:=by
 rcases h with rfl|⟨l,rfl,rfl⟩|⟨rfl,b,rfl⟩
 ·exact r
 ·cases r with
  |listNil=>exact .listNil
  |list vf hne hS hn hcap hsz hcell h1 h=>exact .list vf hne (hS.elim (λq=>.inl ⟨rfl,q.2⟩) .inr) hn hcap hsz hcell h1 h
 ·obtain⟨p,rfl⟩:=r.nils_inv;exact .listNil
theorem WkC.ok {M:Nat->Prop} {a a':AV} (h:WkC a a') (r:a.Ok M):a'.Ok M:=by
 rcases h with rfl|⟨l,rfl,rfl⟩|⟨rfl,b,rfl⟩
 ·exact r
 ·exact .list
 ·exact .list
end Go.Av


namespace Go.Av
variable [Gls]
def scs:List AV->Bool
 |[]=>true
 |.sc _::r=>scs r
 |_=>false
theorem X09v {M:Nat->Prop}:∀ {es:List AV},scs es=true->∀ e∈es,∀ a∈e.cells,AV.Ok M a
 |[],_=>λe he=>by cases he
 |.sc v::r,h=>λe he a ha=>by
  rcases List.mem_cons.1 he with rfl|he
  ·rw[List.mem_singleton.1 ha];exact .sc
  ·exact X09v (es:=r) h e he a ha
 |.list _ _::_,h=>by cases h
end Go.Av


namespace Go.Av
variable [Gls]
theorem X0.trunc {P:Program} {nt n0 n:Nat} {Q:Xp->St->Mu->Prop} {cf:Cf} {K:List Kn} {μ:Mu} {L:List (Nat×AV)} {G:List (Nat×Obj)} {y:Obj} (q:Nat) (es':List AV) (hy:hp G q=some y) (he:∃ m,es'=y.es.take m)
  (h:X0 P nt n0 Q cf K ⟨fr L,hp ((q,{ y with es:=es' })::G),n⟩ μ):X0 P nt n0 Q cf K ⟨fr L,hp G,n⟩ μ:=by
 obtain⟨m,rfl⟩:=he;refine X0.sub (Xnr.trunc hy m) ?_;rw[<-Xfn q { y with es:=y.es.take m } G (show y.gone=false from Xh5 hy)];exact h
end Go.Av


namespace Go.Av
variable [Gls]
open MapKept Go.WideMaps
def Keyd (P:Program) (kt:Nat) (es:List (Value×Value)):Prop:=(∀ p∈es,∃ l,keyOf P kt p.1=some l)/\(es.map (·.1)).Nodup
theorem Keyd.nil {P:Program} {kt:Nat}:Keyd P kt []:=⟨(λ_ h=>by cases h),List.nodup_nil⟩
open Classical in
theorem Xxl {k v:Value}:∀ (l:List (Value×Value)),(Xkv k v l).map (·.1)=if k∈l.map (·.1) then l.map (·.1) else l.map (·.1)++[k]:=by
 intro l
 induction l with
 |nil=>simp[Xkv]
 |cons a r ih =>
  obtain⟨a1,a2⟩:=a;simp only[Xkv];split
  ·rename_i h;subst h;simp
  ·rename_i h;have h':¬ k=a1:=λe=>h e.symm;simp only[List.map_cons];by_cases hm:k∈r.map (·.1)
   ·rw[if_pos hm] at ih;rw[if_pos (List.mem_cons_of_mem _ hm)];simp only[ih]
   ·rw[if_neg hm] at ih;rw[if_neg (λhc=>(List.mem_cons.1 hc).elim h' hm)];simp only[ih,List.cons_append]
theorem Keyd.set {P:Program} {kt:Nat} {es:List (Value×Value)} {k v:Value} {l:Lit} (h:Keyd P kt es) (hk:keyOf P kt k=some l):Keyd P kt (Xkv k v es):=by
 have hks:=Xxl (k:=k) (v:=v) es;refine⟨λp hp=>?_,?_⟩
 ·have:p.1∈(Xkv k v es).map (·.1):=List.mem_map.2 ⟨p,hp,rfl⟩;rw[hks] at this;split at this
  ·obtain⟨q,hq,e⟩:=List.mem_map.1 this;rw[<-e];exact h.1 q hq
  ·rcases List.mem_append.1 this with h1|h1
   ·obtain⟨q,hq,e⟩:=List.mem_map.1 h1;rw[<-e];exact h.1 q hq
   ·rw[List.mem_singleton.1 h1];exact⟨l,hk⟩
 ·rw[hks];split
  ·exact h.2
  ·rename_i hn;exact List.nodup_append.2 ⟨h.2,by simp,λa ha b hb=>by rw[List.mem_singleton.1 hb];exact λe=>hn (e▸ha)⟩
def unSc:List AV->Option (List Value)
 |[]=>some []
 |.sc v::r=>(unSc r).map (v::·)
 |_::_=>none
def keyV:AV->Option Value
 |.sc v=>some v
 |.agg cs=>(unSc cs).map λl=>.agg l.toArray
 |_=>none
theorem X029 {c:Ctx} {d:Bool}:∀ {cs:List AV} {l:List Value} {vs:List Value},unSc cs=some l->cs.length=vs.length->(∀ (i:Nat) a v,cs[i]?=some a->vs[i]?=some v->X0q c d a v)->vs=l:=by
 intro cs
 induction cs with
 |nil=>intro l vs h hl _;simp[unSc] at h;subst h;exact List.eq_nil_of_length_eq_zero hl.symm
 |cons a r ih =>
  intro l vs h hl hr
  cases vs with
  |nil=>simp at hl
  |cons v vs =>
   have h0:=hr 0 a v rfl rfl;cases a<;>simp[unSc] at h
   obtain⟨l',hl',rfl⟩:=h;rw[h0.sc_inv,ih hl' (by simpa using hl) (λi a v ha hv=>hr (i+1) a v ha hv)]
theorem Xu3 {c:Ctx} {d:Bool} {a:AV} {v k:Value} (h:keyV a=some k) (hr:X0q c d a v):v=k:=by
 cases a<;>simp[keyV] at h
 ·subst h;exact hr.sc_inv
 ·obtain⟨l,hl,rfl⟩:=h
  cases hr with
  |agg h1 h2 h3 =>
   rename_i vs;have:=X029 (c:=c) (d:=d) (vs:=vs.toList) hl (by simpa using h1) (λi a v ha hv=>h3 i a v ha (by simpa using hv));rw[<-this]
section
variable {P:Program} {nt n0:Nat} {Q:Xp->St->Mu->Prop} {ops:Array Oper} {l:List Oper} {o:Oper} {K:List Kn} {L:List (Nat×AV)} {G:List (Nat×Obj)} {n:Nat} {μ:Mu}
end
section
variable {P:Program} {nt n0:Nat} {Q:Xp->St->Mu->Prop} {ops:Array Oper} {l:List Oper} {o1 o2 o3:Oper} {K:List Kn} {L:List (Nat×AV)} {G:List (Nat×Obj)} {n:Nat} {μ:Mu}
theorem MOk.perm {n0:Nat} {c0 c:Ctx} {H0 H:X0c} {μ μ':Mu} {act:Act} (hp:μ.Perm μ') (hd:Xi7 μ=Xi7 μ') (h:MOk n0 c0 H0 c H μ act):MOk n0 c0 H0 c H μ' act :=
 ⟨λp hm=>h.is p (hp.mem_iff.2 hm),λp hm=>h.away p (hp.mem_iff.2 hm),(hp.map _).nodup_iff.1 h.nodup,h.ds.trans hd⟩
end
end Go.Av


namespace Go.Av
variable [Gls]
theorem X41.toE {P:Program} {nt n0:Nat} {c:Code} {Q:Xp->St->Mu->Prop} {s:St} {μ:Mu} (R:St->Mu->Prop)
  (hw:∀ (c0:Ctx) (H0:X0c) (x:Ctx) (act:Act),X3l nt c0 H0 n0 x s act->MOk n0 c0 H0 x s.H μ act->∃ x' s' μ',x'.w=x.w/\X3l nt c0 H0 n0 x' s' act/\MOk n0 c0 H0 x' s'.H μ' act/\R s' μ')
  (h:∀ s' μ',R s' μ'->X41 P nt n0 c Q s' μ'):X41 P nt n0 c Q s μ:=by
 intro c0 H0 x act g hm Rm hR;obtain⟨x',s',μ',hx,g',hm',hr⟩:=hw c0 H0 x act g hm;have:=h s' μ' hr c0 H0 x' act g' hm' Rm hR
 rwa [hx] at this
section
variable {nt n0 n:Nat} {c0 c:Ctx} {H0 H H':X0c} {A:Nat->AV} {act:Act} {μ:Mu}
theorem X3l.reObj {q:Nat} {y:Obj} {es':List AV} (g:X3l nt c0 H0 n0 c ⟨A,H,n⟩ act) (hy:H q=some y) (hlen:y.es.length=es'.length)
  (he:∀ (i:Nat) e e',y.es[i]?=some e->es'[i]?=some e'->e.cells.length=e'.cells.length/\∀ (k:Nat) a a',e.cells[k]?=some a->e'.cells[k]?=some a'->(∀ v,X0q c false a v->X0q c false a' v)/\a'.Ok (·<n))
  (h1:H' q=some { y with es:=es' }) (h2:∀ o,o≠q->H' o=H o):X3l nt c0 H0 n0 c ⟨A,H',n⟩ act:=by
 have hd:∀ o x',H' o=some x'->∃ x,H o=some x/\x'.esz=x.esz/\x'.solo=x.solo/\x'.spent=x.spent/\x'.es.length=x.es.length/\(x'=x\/(o=q/\x=y/\x'={ y with es:=es' })):=by
  intro o x' hx;by_cases ho:o=q
  ·subst ho;rw[h1] at hx;cases hx
   exact⟨y,hy,rfl,rfl,rfl,hlen.symm,.inr ⟨rfl,rfl,rfl⟩⟩
  ·rw[h2 o ho] at hx;exact⟨x',hx,rfl,rfl,rfl,rfl,.inl rfl⟩
 refine⟨⟨λo x' hx=>?_,λo o' x1 x2 k1 k2 hne hb=>?_,λo x' hx=>?_,g.inv.lt,g.inv.base,g.inv.own,λo x' hx=>?_,g.inv.glob⟩,λo x' hx=>?_,g.frame,g.ok,g.size,?_,g.le0⟩
 ·obtain⟨x,hx0,_,_,_,_,hc⟩:=hd o x' hx;obtain⟨i1,i2,i3⟩:=g.inv.obj o x hx0;rcases hc with rfl|⟨rfl,rfl,rfl⟩
  ·exact⟨i1,i2,i3⟩
  ·have hback:∀ (i:Nat) e',es'[i]?=some e'->∃ e,x.es[i]?=some e:=λi e' h'=>by
    have hl:=(List.getElem?_eq_some_iff.1 h').1;rw[<-hlen] at hl;exact⟨_,List.getElem?_eq_getElem hl⟩
   refine⟨i1,?_,λe' he' a' ha'=>?_⟩
   ·obtain⟨⟨cur,k1,k2,k3⟩,k4,k5,k6⟩:=i2;refine⟨⟨cur,k1,k2,λi e' h'=>?_⟩,by rw[show({ x with es:=es' }:Obj).es.length=x.es.length from hlen.symm];exact k4,k5,k6⟩;obtain⟨e,h0⟩:=hback i e' h';obtain⟨g1,g2⟩:=k3 i e h0;obtain⟨w1,w2⟩:=he i e e' h0 h';refine⟨by rw[<-w1];exact g1,λk a' ha'=>?_⟩;have hl:=(List.getElem?_eq_some_iff.1 ha').1;rw[<-w1] at hl;obtain⟨v,v1,v2,v3⟩:=g2 k _ (List.getElem?_eq_getElem hl);exact⟨v,v1,(w2 k _ a' (List.getElem?_eq_getElem hl) ha').1 v v2,v3⟩
   ·obtain⟨i,hi⟩:=List.getElem?_of_mem he';obtain⟨k,hk⟩:=List.getElem?_of_mem ha';obtain⟨e,h0⟩:=hback i e' hi;obtain⟨w1,w2⟩:=he i e e' h0 hi;have hl:=(List.getElem?_eq_some_iff.1 hk).1;rw[<-w1] at hl;exact(w2 k _ a' (List.getElem?_eq_getElem hl) hk).2
 ·obtain⟨y1,hy1,e1,s1,p1,l1,_⟩:=hd o x1 k1;obtain⟨y2,hy2,e2,s2,p2,l2,_⟩:=hd o' x2 k2;have:=g.inv.sep o o' y1 y2 hy1 hy2 hne hb;rw[s1,p1,p2,l1,l2,e1,e2];exact this
 ·obtain⟨x,hx0,_⟩:=hd o x' hx;exact g.inv.stab o x hx0
 ·obtain⟨x,hx0,_⟩:=hd o x' hx;exact g.inv.low o x hx0
 ·obtain⟨x,hx0,_,s1,p1,_⟩:=hd o x' hx;rw[s1,p1];exact g.solo o x hx0
 ·have r:=g.reach;exact⟨r.rho,r.os,r.tape,r.output,r.size,r.block,r.stable,r.sa,r.so1,r.so2,r.B,λo x' hx=>by obtain⟨x,hx0,_⟩:=hd o x' hx;exact r.own o x hx0⟩
theorem MOk.reObj (hm:MOk n0 c0 H0 c H μ act) (hs:∀ o x,H' o=some x->∃ x',H o=some x'):MOk n0 c0 H0 c H' μ act :=
 ⟨hm.is,λp hp=>by
  obtain⟨a1,a2,a3,a4⟩:=hm.away p hp;exact⟨a1,a2,λo x hx=>by obtain⟨x',hx'⟩:=hs o x hx;exact a3 o x' hx',a4⟩,hm.nodup,hm.ds⟩
theorem X3l.less (g:X3l nt c0 H0 n0 c ⟨A,H,n⟩ act) (hs:∀ o x,H' o=some x->H o=some x):X3l nt c0 H0 n0 c ⟨A,H',n⟩ act :=
 ⟨g.inv.view hs,λo x hx=>g.solo o x (hs o x hx),g.frame,g.ok,g.size,
  have r:=g.reach
  ⟨r.rho,r.os,r.tape,r.output,r.size,r.block,r.stable,r.sa,r.so1,r.so2,r.B,λo x hx=>r.own o x (hs o x hx)⟩,g.le0⟩
theorem X3l.adopt {b ety:Nat} {arr:Array Value} {es:List AV} (g:X3l nt c0 H0 n0 c ⟨A,H,n⟩ act) (hm:MOk n0 c0 H0 c H ((b,.blk (.cells arr ety (0,0)))::μ) act)
  (hes:es.length<=arr.size) (hl:∀ (k:Nat) e,es[k]?=some e->∃ v,e=.sc v/\v.oneCell'=true/\arr[k]?=some v)
  (h1:H' n=some { es:=es,esz:=1 }) (h2:∀ o,o≠n->H' o=H o) :
  ∃ c',c'.w=c.w/\X3l nt c0 H0 n0 c' ⟨A,H',n+1⟩ act/\MOk n0 c0 H0 c' H' μ act/\c.Le (·<n) c'/\c'.ρ n=⟨b,arr.size,1,ety⟩:=by
 obtain⟨a1,a2,a3,a4⟩:=hm.away _ List.mem_cons_self;have hblk:c.w.heap[b]?=some (.cells arr ety (0,0)):=hm.is _ List.mem_cons_self;have hbl:b<c.w.heap.size:=(Array.getElem?_eq_some_iff.1 hblk).1;have hnd:=(List.nodup_cons.1 hm.nodup).1;let c':Ctx:={ c with ρ:=upd c.ρ n ⟨b,arr.size,1,ety⟩ }
 have hρ:∀ o,o≠n->c'.ρ o=c.ρ o:=λo ho=>Xl _ _ ho;have hρn:c'.ρ n=⟨b,arr.size,1,ety⟩:=Xm _ _ _;have hle:c.Le (·<n) c':=⟨λo ho=>hρ o om,λ_ h=>h,λ_ h=>h,λ_ _=>rfl,rfl⟩;have hcase:∀ o x,H' o=some x->(o=n/\x={ es:=es,esz:=1 })\/(o≠n/\H o=some x):=by
  intro o x hx;by_cases ho:o=n
  ·subst ho;rw[h1] at hx;cases hx;exact .inl ⟨rfl,rfl⟩
  ·rw[h2 o ho] at hx;exact .inr ⟨ho,hx⟩
 have lt1:∀ {q},q<n->q<n+1:=λh=>by omega
 refine⟨c',rfl,⟨⟨λo x hx=>?_,λo o' x x' hx hx' hne hb=>?_,λo x hx=>?_,g.inv.lt,g.inv.base,g.inv.own,λo x hx=>?_,g.inv.glob.of (λ_ h=>h) λ_ _=>rfl⟩,λo x hx=>?_,λt=>(g.frame t).mono hle (.inr (g.ok t)),λt=>(g.ok t).mono λq hq=>lt1 hq,g.size,?_,Nat.le_succ_of_le g.le0⟩,?_,hle,hρn⟩
 ·rcases hcase o x hx with ⟨rfl,rfl⟩|⟨ho,hx⟩
  ·refine⟨Nat.lt_succ_self _,?_,λe he a ha=>?_⟩
   ·rw[hρn];refine⟨⟨arr,hblk,(Nat.mul_one _).symm,λi e he=>?_⟩,hes,Nat.one_pos,rfl⟩;obtain⟨v,rfl,hv,hav⟩:=hl i e he;refine⟨rfl,λk a ha=>?_⟩
    cases k with
    |zero =>
     have ha:some (AV.sc v)=some a:=ha;cases ha
     exact⟨v,by simpa using hav,.sc,hv⟩
    |succ k=>have ha:([AV.sc v]:List AV)[k+1]?=some a:=ha;simp at ha
   ·obtain⟨k,hk⟩:=List.getElem?_of_mem he;obtain⟨v,rfl,_⟩:=hl k e hk;have ha:a∈[AV.sc v]:=ha;rw[List.mem_singleton.1 ha];exact .sc
  ·obtain⟨i1,⟨⟨cur,hb,hss,hcl⟩,h3,h4,h5⟩,h6⟩:=g.inv.obj o x hx;refine⟨lt1 i1,?_,λe he a ha=>(h6 e he a ha).mono λq hq=>lt1 hq⟩;rw[hρ o ho];refine⟨⟨cur,hb,hss,λi e he=>?_⟩,h3,h4,h5⟩;obtain⟨k1,k2⟩:=hcl i e he;exact⟨k1,λk a ha=>by obtain⟨v,hv,hr,h7⟩:=k2 k a ha;exact⟨v,hv,hr.mono hle (.inr (h6 e (List.mem_of_getElem? he) a (List.mem_of_getElem? ha))),h7⟩⟩
 ·exfalso;rcases hcase o x hx with ⟨rfl,rfl⟩|⟨hn1,hx⟩<;>rcases hcase o' x' hx' with ⟨rfl,rfl⟩|⟨hn2,hx'⟩
  ·exact hne rfl
  ·rw[hρn,hρ o' hn2] at hb;exact a3 o' x' ‹H o'=some x'› hb.symm
  ·rw[hρn,hρ o hn1] at hb;exact a3 o x ‹H o=some x› hb
  ·rw[hρ o hn1,hρ o' hn2] at hb;have:=(g.inv.sep o o' x x' ‹H o=some x› ‹H o'=some x'› hne hb).1;rw[(g.solo o x ‹H o=some x›).1] at this;cases this
 ·rcases hcase o x hx with ⟨rfl,rfl⟩|⟨ho,hx⟩
  ·rw[hρn];exact⟨a1,a2⟩
  ·rw[hρ o ho];exact g.inv.stab o x hx
 ·rcases hcase o x hx with ⟨rfl,rfl⟩|⟨ho,hx⟩
  ·rw[hρn];show c.B<=b;rw[g.reach.B];exact a4.1
  ·rw[hρ o ho];exact g.inv.low o x hx
 ·rcases hcase o x hx with ⟨rfl,rfl⟩|⟨ho,hx⟩
  ·exact⟨rfl,rfl⟩
  ·exact g.solo o x hx
 ·have r:=g.reach;refine⟨λo ho=>(hρ o (by have:=g.le0;have:n0<=n:=this;omega)).trans (r.rho o ho),r.os,r.tape,r.output,r.size,r.block,r.stable,r.sa,r.so1,r.so2,r.B,λo x hx=>?_⟩;rcases hcase o x hx with ⟨rfl,rfl⟩|⟨ho,hx⟩
  ·rw[hρn];exact a4.2
  ·rw[hρ o ho];exact r.own o x hx
 ·have hlt0:∀ o,o<n0->o<n:=λo ho=>Nat.lt_of_lt_of_le ho g.le0;refine⟨λp hp=>(hm.is p (List.mem_cons_of_mem _ hp)).le rfl (hle.weaken hlt0),λp hp=>?_,(List.nodup_cons.1 hm.nodup).2,hm.ds⟩;obtain⟨b1,b2,b3,b4⟩:=hm.away p (List.mem_cons_of_mem _ hp);refine⟨b1,b2,λo x hx=>?_,b4⟩;rcases hcase o x hx with ⟨rfl,rfl⟩|⟨ho,hx⟩
  ·rw[hρn];intro e;exact hnd (List.mem_map.2 ⟨p,hp,(show b=p.1 from e).symm⟩)
  ·rw[hρ o ho];exact b3 o x hx
theorem X3l.disown {q:Nat} {y:Obj} (g:X3l nt c0 H0 n0 c ⟨A,H,n⟩ act) (hm:MOk n0 c0 H0 c H μ act) (hy:H q=some y) (hz:y.esz=1) (hs:∀ e∈y.es,∃ v,e=.sc v)
  (h1:H' q=none) (h2:∀ o,o≠q->H' o=H o) :
  ∃ b ety arr,X3l nt c0 H0 n0 c ⟨A,H',n⟩ act/\MOk n0 c0 H0 c H' ((b,.blk (.cells arr ety (0,0)))::μ) act/\y.es.length<=arr.size/\(∀ (k:Nat) v,y.es[k]?=some (.sc v)->arr[k]?=some v/\v.oneCell'=true)/\c.ρ q=⟨b,arr.size,1,ety⟩:=by
 obtain⟨i1,⟨⟨cur,hb,hss,hcl⟩,h3,h4,h5⟩,h6⟩:=g.inv.obj q y hy;have hq:(c.ρ q).esz=1:=by rw[<-h5];exact hz
 have hcap:(c.ρ q).cap=cur.size:=by rw[hss,hq,Nat.mul_one]
 have hsub:∀ o x,H' o=some x->H o=some x/\o≠q:=by
  intro o x hx;by_cases ho:o=q
  ·subst ho;rw[h1] at hx;cases hx
  ·rw[h2 o ho] at hx;exact⟨hx,ho⟩
 refine⟨(c.ρ q).blk,(c.ρ q).ety,cur,g.less λo x hx=>(hsub o x hx).1,⟨λp hp=>?_,λp hp=>?_,?_,hm.ds⟩,by rw[<-hcap];exact h3,λk v hk=>?_,?_⟩
 ·rcases List.mem_cons.1 hp with rfl|hp
  ·exact hb
  ·exact hm.is p hp
 ·rcases List.mem_cons.1 hp with rfl|hp
  ·refine⟨(g.inv.stab q y hy).1,(g.inv.stab q y hy).2,λo x hx he=>?_,by rw[<-g.reach.B];exact g.inv.low q y hy,g.reach.own q y hy⟩;have:=(g.inv.sep o q x y (hsub o x hx).1 hy (hsub o x hx).2 he).1;rw[(g.solo o x (hsub o x hx).1).1] at this;cases this
  ·obtain⟨b1,b2,b3,b4⟩:=hm.away p hp;exact⟨b1,b2,λo x hx=>b3 o x (hsub o x hx).1,b4⟩
 ·refine List.nodup_cons.2 ⟨λh=>?_,hm.nodup⟩;obtain⟨p,hp,he⟩:=List.mem_map.1 h;exact(hm.away p hp).2.2.1 q y hy he.symm
 ·obtain⟨k1,k2⟩:=hcl k _ hk;obtain⟨v',hv,hr,hone⟩:=k2 0 (.sc v) rfl;have:=hr.sc_inv;subst this;rw[hq] at hv;exact⟨by simpa using hv,hone⟩
 ·have e1:=hcap
  cases hp:c.ρ q with
  |mk blk cap esz ety=>rw[hp] at e1 hq;simp only at e1 hq;subst e1 hq;rfl
end
abbrev Xet (b len cap:Nat):AV:=.sc (.slice (some ⟨b,0,none⟩) len cap)
def Xq4 (l:List Int) (arr:Array Value):Prop:=l.length<=arr.size/\∀ (k:Nat) z,l[k]?=some z->arr[k]?=some (.int .i64 z)
abbrev Xmv (b ety:Nat) (arr:Array Value):Nat×MuE:=(b,.blk (.cells arr ety (0,0)))
section
variable {P:Program} {nt n0 n:Nat} {c:Code} {Q:Xp->St->Mu->Prop} {L:List (Nat×AV)} {G:List (Nat×Obj)} {μ μ1:Mu} {y y':Obj} {q q' i b ety len:Nat} {arr:Array Value} {l:List Int}
theorem Xzs {G:List (Nat×Obj)} {n:Nat} {x:Obj} (hg:x.gone=false):hp ((n,x)::G) n=some x:=by simp[hp,hg]
theorem Xpq {G:List (Nat×Obj)} {n o:Nat} {x:Obj} (ho:o≠n):hp ((n,x)::G) o=hp G o:=by
 have hb:Nat.beq o n=false:=by rw[<-Bool.not_eq_true,Nat.beq_eq];exact ho
 simp[hp,hb]
theorem X085 {G:List (Nat×Obj)} {n:Nat} {x:Obj} (hg:x.gone=true):hp ((n,x)::G) n=none:=by simp[hp,hg]
theorem X41.adoptAt (q i:Nat) (hy:hp G q=some y) (hes:y.es[i]?=some (Xet b l.length arr.size)) (hf:Xq4 l arr) (hp1:μ.Perm (Xmv b ety arr::μ1)) (hds:Xi7 μ=Xi7 μ1)
  (h:X41 P nt n0 c Q ⟨fr L,hp ((n,{ es:=l.map (aI .i64),esz:=1 })::(q,{ y with es:=y.es.set i (.ref n 0 l.length) })::G),n+1⟩ μ1):X41 P nt n0 c Q ⟨fr L,hp G,n⟩ μ:=by
 refine X41.toE (λs' μ'=>s'=⟨fr L,hp ((n,{ es:=l.map (aI .i64),esz:=1 })::(q,{ y with es:=y.es.set i (.ref n 0 l.length) })::G),n+1⟩/\μ'=μ1) ?_ (by rintro _ _ ⟨rfl,rfl⟩;exact h);intro c0 H0 x act g hm;have hm2:=hm.perm hp1 (hds.trans rfl);have hg0:y.gone=false:=Xh5 hy;have hqn:q<n:=(g.inv.obj q y hy).1;let H1:X0c:=upd (hp G) n (some { es:=l.map (aI .i64),esz:=1 })
 obtain⟨x',hx,g',hm',hle,hρ⟩:=g.adopt (H':=H1) hm2 (es:=l.map (aI .i64)) (by simpa using hf.1) (λk e he=>by
  rw[List.getElem?_map] at he
  cases hz:l[k]? with
  |none=>rw[hz] at he;cases he
  |some z=>rw[hz] at he;cases he;exact⟨_,rfl,rfl,hf.2 k z hz⟩) (Xm _ _ _) (λo ho=>Xl _ _ ho)
 have hy1:H1 q=some y:=(Xl _ _ om).trans hy;have hi:=(List.getElem?_eq_some_iff.1 hes).1;have hcase:∀ o,hp ((n,{ es:=l.map (aI .i64),esz:=1 })::(q,{ y with es:=y.es.set i (.ref n 0 l.length) })::G) o=if o=q then some { y with es:=y.es.set i (.ref n 0 l.length) } else H1 o:=by
  intro o;by_cases h1:o=n
  ·subst h1;rw[Xzs rfl,if_neg om];exact(Xm _ _ _).symm
  ·rw[Xpq h1];by_cases h2:o=q
   ·subst h2;rw[if_pos rfl];exact Xzs hg0
   ·rw[Xpq h2,if_neg h2];exact(Xl _ _ h1).symm
 refine⟨x',_,_,hx,g'.reObj (es':=y.es.set i (.ref n 0 l.length)) hy1 (by simp) (λj e e' he he'=>?_) (by rw[hcase,if_pos rfl]) (λo ho=>by rw[hcase,if_neg ho]),hm'.reObj (λo z hz=>?_),rfl,rfl⟩
 ·by_cases hj:i=j
  ·subst hj;rw[hes] at he;cases he;rw[List.getElem?_set_self hi] at he';cases he';refine⟨rfl,λk a a' ha ha'=>?_⟩
   cases k with
   |succ k=>have ha:([Xet b l.length arr.size]:List AV)[k+1]?=some a:=ha;simp at ha
   |zero =>
    have ha:some (Xet b l.length arr.size)=some a:=ha;have ha':some (AV.ref n 0 l.length)=some a':=ha';cases ha;cases ha'
    refine⟨λv hv=>?_,.ref (Nat.lt_succ_self _)⟩;have:=hv.sc_inv;subst this;have:=X0q.ref (c:=x') (o:=n) (off:=0) (len:=l.length) (by rw[hρ];simpa using hf.1);rw[hρ] at this;simpa using this
  ·rw[List.getElem?_set_ne hj] at he';rw[he] at he';cases he';refine⟨rfl,λk a a' ha ha'=>?_⟩;rw[ha] at ha';cases ha';exact⟨λv h=>h,(g'.inv.obj q y hy1).2.2 e (List.mem_of_getElem? he) a (List.mem_of_getElem? ha)⟩
 ·replace hz:=(hcase o).symm.trans hz;by_cases h2:o=q
  ·subst h2;exact⟨y,hy1⟩
  ·rw[if_neg h2] at hz;exact⟨z,hz⟩
theorem X41.disownAt (q i q':Nat) (l:List Int) (hy:hp G q=some y) (hy':hp G q'=some y') (hq:q≠q') (hes:y.es[i]?=some (.ref q' 0 len)) (hl:y'.es=l.map (aI .i64)) (hlen:len=l.length) (hz:y'.esz=1)
  (h:∀ b ety arr,Xq4 l arr->X41 P nt n0 c Q ⟨fr L,hp ((q,{ y with es:=y.es.set i (Xet b l.length arr.size) })::(q',{ es:=[],esz:=1,gone:=true })::G),n⟩ (Xmv b ety arr::μ)):X41 P nt n0 c Q ⟨fr L,hp G,n⟩ μ:=by
 subst hlen;refine X41.toE (λs' μ'=>∃ b ety arr,Xq4 l arr/\s'=⟨fr L,hp ((q,{ y with es:=y.es.set i (Xet b l.length arr.size) })::(q',{ es:=[],esz:=1,gone:=true })::G),n⟩/\μ'=Xmv b ety arr::μ) ?_ (by rintro _ _ ⟨b,ety,arr,hf,rfl,rfl⟩;exact h b ety arr hf);intro c0 H0 x act g hm;have hg0:y.gone=false:=Xh5 hy;let H1:X0c:=upd (hp G) q' none
 obtain⟨b,ety,arr,g',hm',f1,f2,hρ⟩:=g.disown (H':=H1) hm hy' hz (λe he=>by rw[hl] at he;obtain⟨z,_,rfl⟩:=List.mem_map.1 he;exact⟨_,rfl⟩) (Xm _ _ _) (λo ho=>Xl _ _ ho);have hf:Xq4 l arr:=⟨by rw[hl] at f1;simpa using f1,λk z hk=>(f2 k _ (by rw[hl,List.getElem?_map,hk];rfl)).1⟩;have hy1:H1 q=some y:=(Xl _ _ hq).trans hy;have hi:=(List.getElem?_eq_some_iff.1 hes).1;have hcase:∀ o,hp ((q,{ y with es:=y.es.set i (Xet b l.length arr.size) })::(q',{ es:=[],esz:=1,gone:=true })::G) o=if o=q then some { y with es:=y.es.set i (Xet b l.length arr.size) } else H1 o:=by
  intro o;by_cases h2:o=q
  ·subst h2;rw[if_pos rfl];exact Xzs hg0
  ·rw[Xpq h2,if_neg h2];by_cases h1:o=q'
   ·subst h1;rw[X085 rfl];exact(Xm _ _ _).symm
   ·rw[Xpq h1];exact(Xl _ _ h1).symm
 refine⟨x,_,_,rfl,g'.reObj (es':=y.es.set i (Xet b l.length arr.size)) hy1 (by simp) (λj e e' he he'=>?_) (by rw[hcase,if_pos rfl]) (λo ho=>by rw[hcase,if_neg ho]),hm'.reObj (λo z hz=>?_),b,ety,arr,hf,rfl,rfl⟩
 ·by_cases hj:i=j
  ·subst hj;rw[hes] at he;cases he;rw[List.getElem?_set_self hi] at he';cases he';refine⟨rfl,λk a a' ha ha'=>?_⟩
   cases k with
   |succ k=>have ha:([AV.ref q' 0 l.length]:List AV)[k+1]?=some a:=ha;simp at ha
   |zero =>
    have ha:some (AV.ref q' 0 l.length)=some a:=ha;have ha':some (Xet b l.length arr.size)=some a':=ha';cases ha;cases ha'
    refine⟨λv hv=>?_,.sc⟩
    cases hv with
    |ref hle =>
     rw[hρ];simp only[Nat.zero_mul,Nat.sub_zero];exact .sc
  ·rw[List.getElem?_set_ne hj] at he';rw[he] at he';cases he';refine⟨rfl,λk a a' ha ha'=>?_⟩;rw[ha] at ha';cases ha';exact⟨λv h=>h,(g'.inv.obj q y hy1).2.2 e (List.mem_of_getElem? he) a (List.mem_of_getElem? ha)⟩
 ·replace hz:=(hcase o).symm.trans hz;by_cases h2:o=q
  ·subst h2;exact⟨y,hy1⟩
  ·rw[if_neg h2] at hz;exact⟨z,hz⟩
theorem X0.adoptAt {Q:Xp->St->Mu->Prop} {K:List Kn} (q i ety:Nat) (hy:hp G q=some y) (hes:y.es[i]?=some (Xet b l.length arr.size)) (hf:Xq4 l arr) (hp1:μ.Perm (Xmv b ety arr::μ1)) (hds:Xi7 μ=Xi7 μ1)
  (h:X0 P nt n0 Q (.code c) K ⟨fr L,hp ((n,{ es:=l.map (aI .i64),esz:=1 })::(q,{ y with es:=y.es.set i (.ref n 0 l.length) })::G),n+1⟩ μ1):X0 P nt n0 Q (.code c) K ⟨fr L,hp G,n⟩ μ :=
 X41.adoptAt q i hy hes hf hp1 hds h
theorem X0.disownAt {Q:Xp->St->Mu->Prop} {K:List Kn} (q i q':Nat) (l:List Int) (hy:hp G q=some y) (hy':hp G q'=some y') (hq:q≠q') (hes:y.es[i]?=some (.ref q' 0 len)) (hl:y'.es=l.map (aI .i64)) (hlen:len=l.length) (hz:y'.esz=1)
  (h:∀ b ety arr,Xq4 l arr->X0 P nt n0 Q (.code c) K ⟨fr L,hp ((q,{ y with es:=y.es.set i (Xet b l.length arr.size) })::(q',{ es:=[],esz:=1,gone:=true })::G),n⟩ (Xmv b ety arr::μ)):X0 P nt n0 Q (.code c) K ⟨fr L,hp G,n⟩ μ :=
 X41.disownAt q i q' l hy hy' hq hes hl hlen hz h
theorem X0.dropMu {Q:Xp->St->Mu->Prop} {K:List Kn} (h:X0 P nt n0 Q (.code c) K ⟨fr L,hp G,n⟩ μ):X0 P nt n0 Q (.code c) K ⟨fr L,hp G,n⟩ (Xmv b ety arr::μ) :=
 X41.toE (λs' μ'=>s'=⟨fr L,hp G,n⟩/\μ'=μ) (λ_ _ x _ g hm=>⟨x,_,_,rfl,g,⟨λp hp=>hm.is p (List.mem_cons_of_mem _ hp),λp hp=>hm.away p (List.mem_cons_of_mem _ hp),(List.nodup_cons.1 hm.nodup).2,hm.ds⟩,rfl,rfl⟩) (by rintro _ _ ⟨rfl,rfl⟩;exact h)
theorem X0.permMu {Q:Xp->St->Mu->Prop} {K:List Kn} (hp1:μ.Perm μ1) (hds:Xi7 μ=Xi7 μ1) (h:X0 P nt n0 Q (.code c) K ⟨fr L,hp G,n⟩ μ1):X0 P nt n0 Q (.code c) K ⟨fr L,hp G,n⟩ μ :=
 X41.toE (λs' μ'=>s'=⟨fr L,hp G,n⟩/\μ'=μ1) (λ_ _ x _ g hm=>⟨x,_,_,rfl,g,hm.perm hp1 hds,rfl,rfl⟩) (by rintro _ _ ⟨rfl,rfl⟩;exact h)
end
inductive Fam:List AV->List (List Int)->Mu->Prop
 |e0:Fam [] [] []
 |eN {es Ls μ} (h:Fam es Ls μ):Fam (.nils::es) ([]::Ls) μ
 |eS {es Ls μ b ety arr l} (h:Fam es Ls μ) (hf:Xq4 l arr):Fam (Xet b l.length arr.size::es) (l::Ls) (Xmv b ety arr::μ)
theorem Fam.len {es:List AV} {Ls:List (List Int)} {μ:Mu} (h:Fam es Ls μ):es.length=Ls.length:=by
 induction h with
 |e0=>rfl
 |eN _ ih=>simp[ih]
 |eS _ _ ih=>simp[ih]
theorem Fam.ds {es:List AV} {Ls:List (List Int)} {μ:Mu} (h:Fam es Ls μ) (ν:Mu):Xi7 (μ++ν)=Xi7 ν:=by
 induction h with
 |e0=>rfl
 |eN _ ih=>exact ih
 |eS _ _ ih=>exact ih
theorem Fam.ok {es:List AV} {Ls:List (List Int)} {μ:Mu} (h:Fam es Ls μ):∀ e∈es,∀ a∈e.cells,∀ M,a.Ok M:=by
 induction h with
 |e0=>intro e he;simp at he
 |eN _ ih =>
  intro e he a ha M;rcases List.mem_cons.1 he with rfl|he
  ·have ha:a∈[AV.nils]:=ha;rw[List.mem_singleton.1 ha];exact .nils
  ·exact ih e he a ha M
 |eS _ _ ih =>
  intro e he a ha M;rcases List.mem_cons.1 he with rfl|he
  ·rw[List.mem_singleton.1 ha];exact .sc
  ·exact ih e he a ha M
theorem X00 (l:List AV):l=l.map (AV.ren (thL [])):=by
 rw[X05k]
 induction l with
 |nil=>rfl
 |cons a l ih=>rw[List.map_cons,Xtr,<-ih]
theorem Xgm {x:Obj} (hg:x.gone=false):hp [(0,x)]=λp=>bif Nat.beq p 0 then some x else none:=by
 funext p
 simp only[hp,hg,cond_false]
theorem Xl8:∀ n,Fam (List.replicate n .nils) (List.replicate n []) []
 |0=>.e0
 |n+1=>.eN (Xl8 n)
theorem Fam.at {es:List AV} {Ls:List (List Int)} {μ:Mu} (h:Fam es Ls μ):∀ (i:Nat) (l:List Int),Ls[i]?=some l ->
  ∃ μ1,(∀ ν,Xi7 (μ1++ν)=Xi7 ν)/\((es[i]?=some .nils/\l=[]/\μ=μ1)\/∃ b ety arr,es[i]?=some (Xet b l.length arr.size)/\Xq4 l arr/\μ.Perm (Xmv b ety arr::μ1)) /\
   ∀ b ety arr l',Xq4 l' arr->∃ μ2,Fam (es.set i (Xet b l'.length arr.size)) (Ls.set i l') μ2/\(Xmv b ety arr::μ1).Perm μ2:=by
 induction h with
 |e0=>intro i l h;simp at h
 |@eN es Ls μ h ih =>
  intro i l hl
  cases i with
  |zero =>
   simp at hl;subst hl;exact⟨μ,h.ds,.inl ⟨rfl,rfl,rfl⟩,λb ety arr l' hf=>⟨_,.eS h hf,.refl _⟩⟩
  |succ i =>
   obtain⟨μ1,h1,h2,h3⟩:=ih i l (by simpa using hl);refine⟨μ1,h1,h2.imp (λx=>⟨by simpa using x.1,x.2⟩) (λ⟨b,ety,arr,x,y⟩=>⟨b,ety,arr,by simpa using x,y⟩),λb ety arr l' hf=>?_⟩;obtain⟨μ2,f,p⟩:=h3 b ety arr l' hf;exact⟨μ2,.eN f,p⟩
 |@eS es Ls μ b0 ety0 arr0 l0 h hf0 ih =>
  intro i l hl
  cases i with
  |zero =>
   simp at hl;subst hl;exact⟨μ,h.ds,.inr ⟨b0,ety0,arr0,rfl,hf0,.refl _⟩,λb ety arr l' hf=>⟨_,.eS h hf,.refl _⟩⟩
  |succ i =>
   obtain⟨μ1,h1,h2,h3⟩:=ih i l (by simpa using hl);refine⟨Xmv b0 ety0 arr0::μ1,h1,?_,λb ety arr l' hf=>?_⟩
   ·rcases h2 with ⟨x,y,rfl⟩|⟨b,ety,arr,x,y,z⟩
    ·exact .inl ⟨by simpa using x,y,rfl⟩
    ·exact .inr ⟨b,ety,arr,by simpa using x,y,(z.cons _).trans (.swap _ _ _)⟩
   ·obtain⟨μ2,f,p⟩:=h3 b ety arr l' hf;exact⟨_,.eS f hf0,(List.Perm.swap _ _ _).trans (p.cons _)⟩
end Go.Av


namespace Go.Av
variable [Gls]
open MapKept Go.WideMaps
noncomputable def Xrd (k:Value):List (Value×Value)->List (Value×Value)
 |[]=>[]
 |(a,b)::r=>open Classical in if a=k then r else (a,b)::Xrd k r
theorem X08i {k:Value}:∀ (l:List (Value×Value)) (j:Nat) (p:Value×Value),l[j]?=some p->p.1=k->(∀ i q,i<j->l[i]?=some q->q.1≠k)->Xrd k l=l.eraseIdx j:=by
 intro l
 induction l with
 |nil=>intro j p h;simp at h
 |cons a r ih =>
  obtain⟨a1,a2⟩:=a;intro j p h hp hn
  cases j with
  |zero =>
   simp only[List.getElem?_cons_zero,Option.some.injEq] at h;subst h;simp only at hp;simp[Xrd,hp]
  |succ j =>
   have h0:a1≠k:=hn 0 (a1,a2) (Nat.succ_pos _) rfl;simp only[Xrd,if_neg h0,List.eraseIdx_cons_succ];rw[ih j p (by simpa using h) hp (λi q hi hq=>hn (i+1) q om (by simpa using hq))]
theorem X00c {k:Value}:∀ (l:List (Value×Value)),(∀ q∈l,q.1≠k)->Xrd k l=l:=by
 intro l
 induction l with
 |nil=>intro _;rfl
 |cons a r ih =>
  obtain⟨a1,a2⟩:=a;intro h;have h0:a1≠k:=h (a1,a2) (by simp);simp only[Xrd,if_neg h0];rw[ih λq hq=>h q (List.mem_cons_of_mem _ hq)]
theorem Xhs {α β:Type} (f:α->β):∀ (l:List α) (j:Nat),(l.eraseIdx j).map f=(l.map f).eraseIdx j
 |[],_=>by simp
 |a::r,0=>rfl
 |a::r,j+1=>by simp[Xhs f r j]
theorem X000 {d:TypeDesc} {P:Program} {w:World} {kt:TypeId} {k:Value} (hd:P.underlying kt=some d) (hk:IsKey d k) {es:List MapEntry} {ks:List (Value×Value)} (he:es.map (λe=>(e.key,e.val))=ks) (h:∀ p∈ks,IsKey d p.1) :
  ((Instr.findKey kt k es).run P w=.ok none w/\Xrd k ks=ks/\Xq7 k ks=none) \/
   ∃ j e,(Instr.findKey kt k es).run P w=.ok (some (j,e.val)) w/\es[j]?=some e/\e.key=k/\Xrd k ks=ks.eraseIdx j/\Xq7 k ks=some e.val:=by
 have hes:∀ x∈es,IsKey d x.key:=λx hx=>h (x.key,x.val) (by rw[<-he];exact List.mem_map.2 ⟨x,hx,rfl⟩);rcases Xi3 hk es 0 hes with ⟨h1,h2⟩|⟨j,e,h1,h2,h3,h4⟩
 ·have hn:∀ q∈ks,q.1≠k:=λq hq=>by
   rw[<-he] at hq;obtain⟨x,hx,rfl⟩:=List.mem_map.1 hq;exact h2 x hx
  exact .inl ⟨run_findKey hd h1,X00c _ hn,(Xtn (v:=k) ks hn).2⟩
 ·have hj:ks[j]?=some (e.key,e.val):=by rw[<-he,List.getElem?_map,h2];rfl
  have hf:∀ i q,i<j->ks[i]?=some q->q.1≠k:=λi q hi hq=>by
   rw[<-he,List.getElem?_map] at hq
   cases hx:es[i]? with
   |none=>rw[hx] at hq;cases hq
   |some x=>rw[hx] at hq;cases hq;exact h4 i x hi hx
  rw[Nat.zero_add] at h1;exact .inr ⟨j,e,run_findKey hd h1,h2,h3,X08i ks j _ hj h3 hf,(Xxm (v:=k) ks j _ hj h3 hf).2⟩
section
variable {P:Program} {nt n0:Nat} {Q:Xp->St->Mu->Prop} {ops:Array Oper} {l:List Oper} {o:Oper} {K:List Kn} {L:List (Nat×AV)} {G:List (Nat×Obj)} {n:Nat} {μ:Mu}
theorem Xun {c0 c:Ctx} {H0:X0c} {act:Act} {b:Nat} {x x':MuE} {o' ob:Go.Obj} {w':World} (g:X3l nt c0 H0 n0 c ⟨fr L,hp G,n⟩ act) (hM:MOk n0 c0 H0 c (hp G) ((b,x)::μ) act)
  (hb:c.w.heap[b]?=some ob) (hw:w'.heap=c.w.heap.setIfInBounds b o') (hos:w'.os=c.w.os) (htp:w'.tape=c.w.tape) (hou:w'.output=c.w.output) (hdr:c.w.drawn<=w'.drawn) (hx:MuIs n0 { c with w:=w' } b x') (hds:Xi7 ((b,x)::μ)=Xi7 ((b,x')::μ)) :
  X3l nt c0 H0 n0 { c with w:=w' } ⟨fr L,hp G,n⟩ act/\MOk n0 c0 H0 { c with w:=w' } (hp G) ((b,x')::μ) act:=by
 obtain⟨a1,a2,a3,a4⟩:=hM.away (b,x) (by simp);have hsz:w'.heap.size=c.w.heap.size:=by rw[hw];simp
 have hoth:∀ q,q≠b->w'.heap[q]?=c.w.heap[q]?:=by
  intro q hq;rw[hw];exact(heap_set (o':=o') hb).2 q hq
 obtain⟨h1,h2⟩:=g.inv.aside (w':=w') hsz hoth ⟨a1,a2⟩ a3;refine⟨⟨h2,g.solo,λq=>(g.frame q).mono h1 (.inr (g.ok q)),g.ok,g.size,?_,g.le0⟩,λp hp=>?_,λp hp=>?_,?_,hM.ds.trans hds⟩
 ·have r:=g.reach;refine⟨r.rho,hos.trans r.os,htp.trans r.tape,⟨hou.trans r.output.1,Nat.le_trans r.output.2 (Xh9 hdr)⟩,by show _<=w'.heap.size;rw[hsz];exact r.size,λq hq hn=>?_,λq hq=>?_,r.sa,r.so1,r.so2,r.B,r.own⟩
  ·exact(hoth q (λe=>by subst e;exact(a4.no hq hn).elim)).trans (r.block q hq hn)
  ·refine(hoth q (λe=>?_)).trans (r.stable q hq);subst e;rcases hq with hq|hq
   ·exact a1 (by rw[r.sa];exact hq)
   ·exact a2 (r.so1 _ hq)
 ·rcases List.mem_cons.1 hp with rfl|hp
  ·exact hx
  ·have hne:p.1≠b:=λe=>(List.nodup_cons.1 hM.nodup).1 (List.mem_map.2 ⟨p,hp,e⟩);exact(hM.is p (List.mem_cons_of_mem _ hp)).le (hoth _ hne) (h1.weaken λq hq=>Nat.lt_of_lt_of_le hq g.le0)
 ·rcases List.mem_cons.1 hp with rfl|hp
  ·exact hM.away (b,x) (by simp)
  ·exact hM.away p (List.mem_cons_of_mem _ hp)
 ·exact hM.nodup
theorem X0.mapDel {T:Ty} {t b kt et t2:Nat} {m k:Operand} {qm qk:List Prop} {ka:AV} {kv:Value} {es:List (Value×Value)} {ti:TI} {d:TypeDesc} (hT:Xf0 P T) (ho:o.op=.call { callee:=.builtin .delete,args:=#[m,k],argTypes:=#[t,t2] }) (hg:o.guard=none) (hd:o.dst=none)
  (ht:T t=some ti) (hkd:ti.kind=.map kt et) (hu:P.underlying kt=some d)
  (hm:rd L m=(.sc (.map (some b)),qm)) (hk:rd L k=(ka,qk)) (hka:keyV ka=some kv) (hqm:X4v qm) (hqk:X4v qk) (hik:IsKey d kv) (hks:∀ p∈es,IsKey d p.1)
  (h:X0 P nt n0 Q (.ops ops l) K ⟨fr L,hp G,n⟩ ((b,Xrd kv es)::μ)):X0 P nt n0 Q (.ops ops (o::l)) K ⟨fr L,hp G,n⟩ ((b,es)::μ):=by
 intro c0 H0 c act g hM Qx hQ R hR;refine X2a λK' hK'=>?_;rw[if_pos (by simp[Region.wanted,hg])];have em:act.eval m=.map (some b):=by have:=g.ev m;rw[show evA (St.A ⟨fr L,hp G,n⟩) m=_ from X0n hm hqm] at this;exact this.sc_inv
 have ek:act.eval k=kv:=by have:=g.ev k;rw[show evA (St.A ⟨fr L,hp G,n⟩) k=_ from X0n hk hqk] at this;exact Xu3 hka this
 have hu1:P.underlying t=some (.map kt et):=by
  obtain⟨i,dd,_,hdd,_,hkk,_⟩:=X12 (hT t ti ht);rw[hkd] at hkk;cases dd<;>simp[Xu] at hkk
  obtain⟨rfl,rfl⟩:=hkk;exact hdd
 obtain⟨es0,cl,hb0,hl,hpw,hcl⟩:=hM.is (b,es) (by simp);have hdel:∃ es',(Builtin.delete_ #[t,t2] o.type #[.map (some b),kv]).run P c.w=.ok (.tuple #[]) { c.w with heap:=c.w.heap.setIfInBounds b (.map es' cl) } /\
   es'.toList.map (λe=>(e.key,e.val))=Xrd kv es/\es'.toList.Pairwise (λx y=>x.born<y.born)/\∀ e∈es'.toList,e.born<cl:=by
  rcases X000 (w:=c.w) hu hik hl hks with ⟨h1,h2,_⟩|⟨j,e,h1,h2,_,h4,_⟩
  ·refine⟨es0,?_,by rw[h2];exact hl,hpw,hcl⟩;simp[Builtin.delete_,run_underlying hu1,MapKept.run_getObj_map hb0,run_checkKey hu hik,h1,MapKept.run_setObj_map _ hb0,Result.andThen]
  ·refine⟨es0.eraseIdxIfInBounds j,?_,?_,?_,?_⟩
   ·simp[Builtin.delete_,run_underlying hu1,MapKept.run_getObj_map hb0,run_checkKey hu hik,h1,MapKept.run_setObj_map _ hb0,Result.andThen]
   ·rw[Array.toList_eraseIdxIfInBounds,h4,<-hl];exact Xhs _ _ _
   ·rw[Array.toList_eraseIdxIfInBounds];exact hpw.sublist (List.eraseIdx_sublist _ _)
   ·rw[Array.toList_eraseIdxIfInBounds];exact λx hx=>hcl x (List.mem_of_mem_eraseIdx hx)
 obtain⟨es',hrun,hl',hpw',hcl'⟩:=hdel;have hex:(execOp act.eval o).run P c.w=.ok (.value (.tuple #[])) { c.w with heap:=c.w.heap.setIfInBounds b (.map es' cl) }:=by
  obtain⟨dst,op,type,pos,after,guard⟩:=o;simp only at ho;subst ho;simp[execOp,resolve,invoke,builtin,em,ek,hrun,Result.andThen]
 refine Oper.wpR (λd hd=>by rw[hd] at ho;cases ho) ?_;unfold Oper.wp;rw[hex];obtain⟨g2,hM2⟩:=Xun (x':=.map (Xrd kv es)) g hM hb0 (w':={ c.w with heap:=c.w.heap.setIfInBounds b (.map es' cl) }) rfl rfl rfl rfl (Nat.le_refl _) ⟨es',cl,(heap_set (o':=.map es' cl) hb0).1,hl',hpw',hcl'⟩ rfl;have hact:act.put o.dst (.tuple #[])=act:=by rw[hd];rfl
 have:=hK' act _ (h c0 H0 _ act g2 hM2 Qx hQ R hR);show K' (act.put o.dst (.tuple #[])) _;rw[hact];exact this
theorem X0.mapLookI {T:Ty} {t b kt et:Nat} {m k:Operand} {qm qk:List Prop} {ka:AV} {kv z:Value} {es:List (Value×Value)} {ti:TI} {d:TypeDesc} (hT:Xf0 P T) (ho:o.op=.lookup t m k false) (hg:o.guard=none) (hd:Xjm nt o.dst=true)
  (ht:T t=some ti) (hkd:ti.kind=.map kt et) (hu:P.underlying kt=some d) (hz:∀ w,(zeroValue et).run P w=.ok z w)
  (hm:rd L m=(.sc (.map (some b)),qm)) (hk:rd L k=(ka,qk)) (hka:keyV ka=some kv) (hqm:X4v qm) (hqk:X4v qk) (hik:IsKey d kv) (hks:∀ p∈es,IsKey d p.1)
  (h:X0 P nt n0 Q (.ops ops l) K ⟨fr (Xwi o.dst (.sc ((Xq7 kv es).getD z)) L),hp G,n⟩ ((b,es)::μ)):X0 P nt n0 Q (.ops ops (o::l)) K ⟨fr L,hp G,n⟩ ((b,es)::μ):=by
 intro c0 H0 c act g hM Qx hQ R hR;refine X2a λK' hK'=>?_;rw[if_pos (by simp[Region.wanted,hg])];have em:act.eval m=.map (some b):=by have:=g.ev m;rw[show evA (St.A ⟨fr L,hp G,n⟩) m=_ from X0n hm hqm] at this;exact this.sc_inv
 have ek:act.eval k=kv:=by have:=g.ev k;rw[show evA (St.A ⟨fr L,hp G,n⟩) k=_ from X0n hk hqk] at this;exact Xu3 hka this
 have hu1:P.underlying t=some (.map kt et):=by
  obtain⟨i,dd,_,hdd,_,hkk,_⟩:=X12 (hT t ti ht);rw[hkd] at hkk;cases dd<;>simp[Xu] at hkk
  obtain⟨rfl,rfl⟩:=hkk;exact hdd
 have hrun:(Instr.lookup t (.map (some b)) kv false).run P c.w=.ok ((Xq7 kv es).getD z) c.w:=by
  obtain⟨es0,clock,hb,hl,_⟩:=hM.is (b,es) (by simp);rcases X000 (w:=c.w) hu hik hl hks with ⟨h1,_,h3⟩|⟨j,e,h1,_,_,_,h4⟩
  ·simp[Instr.lookup,run_underlying hu1,MapKept.run_getObj_map hb,run_checkKey hu hik,h1,h3,hz,Result.andThen]
  ·simp[Instr.lookup,run_underlying hu1,MapKept.run_getObj_map hb,run_checkKey hu hik,h1,h4,Result.andThen]
 have hex:(execOp act.eval o).run P c.w=.ok (.value ((Xq7 kv es).getD z)) c.w:=by
  obtain⟨dst,op,type,pos,after,guard⟩:=o;simp only at ho;subst ho;simp only[execOp,em,ek,Sem.run_bind,hrun];rfl
 refine Oper.wpR (λd hd=>by rw[hd] at ho;cases ho) ?_;unfold Oper.wp;rw[hex];have g2:=g.next (c':=c) (dst:=o.dst) (a:=.sc ((Xq7 kv es).getD z)) (v:=(Xq7 kv es).getD z) (X7i hd) (.refl c) rfl (λb hb=>.inl hb) (.refl c (hp G)) (λq x hx=>.inr ⟨q,x,hx,rfl⟩) g.inv g.solo (Nat.le_refl _) .sc .sc;rw[X5u] at h;exact hK' _ _ (h c0 H0 c _ g2 hM.act Qx hQ R hR)
theorem X0.mapEntryI {b r:Nat} {since clock:Nat} {seen:Array Nat} {ents:Array MapEntry} {e:MapEntry} {m:Operand} {qm:List Prop} (ho:o.op=.entry m) (hg:o.guard=none) (hd:Xjm nt o.dst=true)
  (hm:rd L m=(.sc (.pointer (some ⟨r,0,none⟩)),qm)) (hqm:X4v qm) (he:e∈ents.toList) (hpw:ents.toList.Pairwise (λx y=>x.born<y.born))
  (h:X0 P nt n0 Q (.ops ops l) K ⟨fr (Xwi o.dst (.tup [.sc e.key,.sc e.val]) L),hp G,n⟩ ((r,.blk (.mapIter (some b) since (seen.push e.born) clock))::(b,.blk (.map ents clock))::μ)) :
  X0 P nt n0 Q (.ops ops (o::l)) K ⟨fr L,hp G,n⟩ ((r,.blk (.mapIter (some b) since (seen.push e.born) clock))::(b,.blk (.map ents clock))::μ):=by
 intro c0 H0 c act g hM Qx hQ R hR;refine X2a λK' hK'=>?_;rw[if_pos (by simp[Region.wanted,hg])];have em:act.eval m=.pointer (some ⟨r,0,none⟩):=by have:=g.ev m;rw[show evA (St.A ⟨fr L,hp G,n⟩) m=_ from X0n hm hqm] at this;exact this.sc_inv
 have hr:c.w.heap[r]?=some (.mapIter (some b) since (seen.push e.born) clock):=hM.is (r,.blk (.mapIter (some b) since (seen.push e.born) clock)) (by simp);have hb:c.w.heap[b]?=some (.map ents clock):=hM.is (b,.blk (.map ents clock)) (by simp);have hrun:=run_entry_at (P:=P) c.w r b since seen ents clock e hr hb he (List.pairwise_map.2 (hpw.imp λh=>Nat.ne_of_lt h));refine Oper.wpR (λd hd=>by rw[hd] at ho;cases ho) ?_;unfold Oper.wp;have hex:(execOp act.eval o).run P c.w=.ok (.value (.tuple #[e.key,e.val])) c.w:=by
  obtain⟨dst,op,type,pos,after,guard⟩:=o;simp only at ho;subst ho;simp only[execOp,em,Sem.run_bind,hrun];rfl
 rw[hex];have g2:=g.next (c':=c) (dst:=o.dst) (a:=.tup [.sc e.key,.sc e.val]) (v:=.tuple #[e.key,e.val]) (X7i hd) (.refl c) rfl (λb hb=>.inl hb) (.refl c (hp G)) (λq x hx=>.inr ⟨q,x,hx,rfl⟩) g.inv g.solo (Nat.le_refl _) (.tup rfl (by
  intro i a v ha hv
  match i with
  |0=>simp at ha hv;subst ha;subst hv;exact .sc
  |1=>simp at ha hv;subst ha;subst hv;exact .sc
  |i+2=>simp at ha)) (by
  refine .tup λx hx=>?_;simp at hx;rcases hx with rfl|rfl<;>exact .sc)
 rw[X5u] at h;exact hK' _ _ (h c0 H0 c _ g2 hM.act Qx hQ R hR)
theorem X0.mapRange {b:Nat} {t:Nat} {m:Operand} {qm:List Prop} {es:List (Value×Value)} {T:Ty} {kt et:Nat} {ti:TI} (hT:Xf0 P T) (ho:o.op=.range t m) (hg:o.guard=none) (hd:Xjm nt o.dst=true)
  (ht:T t=some ti) (hkd:ti.kind=.map kt et) (hm:rd L m=(.sc (.map (some b)),qm)) (hqm:X4v qm)
  (h:∀ (r:Nat) (ents:Array MapEntry) (clock:Nat),ents.toList.map (λe=>(e.key,e.val))=es->ents.toList.Pairwise (λx y=>x.born<y.born)->(∀ e∈ents.toList,e.born<clock) ->
   X0 P nt n0 Q (.ops ops l) K ⟨fr (Xwi o.dst (.sc (.pointer (some ⟨r,0,none⟩))) L),hp G,n⟩ ((r,.blk (.mapIter (some b) clock #[] clock))::(b,.blk (.map ents clock))::μ)) :
  X0 P nt n0 Q (.ops ops (o::l)) K ⟨fr L,hp G,n⟩ ((b,es)::μ):=by
 intro c0 H0 c act g hM Qx hQ R hR;refine X2a λK' hK'=>?_;rw[if_pos (by simp[Region.wanted,hg])];have em:act.eval m=.map (some b):=by have:=g.ev m;rw[show evA (St.A ⟨fr L,hp G,n⟩) m=_ from X0n hm hqm] at this;exact this.sc_inv
 have hu1:P.underlying t=some (.map kt et):=by
  obtain⟨i,dd,_,hdd,_,hkk,_⟩:=X12 (hT t ti ht);rw[hkd] at hkk;cases dd<;>simp[Xu] at hkk
  obtain⟨rfl,rfl⟩:=hkk;exact hdd
 obtain⟨ents,clock,hb0,hl,hpw,hcl⟩:=hM.is (b,es) (by simp);have hM':MOk n0 c0 H0 c (hp G) ((b,.blk (.map ents clock))::μ) act:=⟨λp hp=>by
   rcases List.mem_cons.1 hp with rfl|hp
   ·exact hb0
   ·exact hM.is p (List.mem_cons_of_mem _ hp),λp hp=>by
   rcases List.mem_cons.1 hp with rfl|hp
   ·exact hM.away (b,es) (by simp)
   ·exact hM.away p (List.mem_cons_of_mem _ hp),hM.nodup,hM.ds⟩
 have hrun:(execOp act.eval o).run P c.w=.ok (.value (.pointer (some ⟨c.w.heap.size,0,none⟩))) (c.w.alloc (.mapIter (some b) clock #[] clock)):=by
  obtain⟨dst,op,type,pos,after,guard⟩:=o;simp only at ho;subst ho;simp only[execOp,em,Sem.run_bind,run_range_map c.w _ _ _ _ _ _ hu1 hb0];rfl
 refine Oper.wpR (λd hd=>by rw[hd] at ho;cases ho) ?_;unfold Oper.wp;rw[hrun];obtain⟨h1,h2,h3⟩:=g.inv.waste (w':=c.w.alloc (.mapIter (some b) clock #[] clock)) (.mapIter (some b) clock #[] clock) rfl rfl rfl ⟨rfl,Nat.le_refl _⟩;have g2:=(g.rebase).next (c':={ c with w:=c.w.alloc (.mapIter (some b) clock #[] clock) }) (dst:=o.dst) (a:=.sc (.pointer (some ⟨c.w.heap.size,0,none⟩))) (v:=.pointer (some ⟨c.w.heap.size,0,none⟩)) (X7i hd) h1 rfl (λb hb=>.inl hb) h3 (λq x hx=>.inr ⟨q,x,hx,rfl⟩) h2 g.solo (Nat.le_refl _) .sc .sc;have hk:=hM'.kept g2.reach;have hnew:(c.w.alloc (.mapIter (some b) clock #[] clock)).heap[c.w.heap.size]?=some (.mapIter (some b) clock #[] clock):=(heap_alloc c.w _).1;have hb:=h c.w.heap.size ents clock hl hpw hcl;rw[X5u] at hb;refine hK' _ _ (hb c0 H0 { c with w:=c.w.alloc (.mapIter (some b) clock #[] clock) } _ (.join g.reach g2) ⟨?_,?_,?_,(put_defers _ _ _).trans hM'.ds⟩ Qx hQ R (λe=>hR e))
 ·intro p hp;rcases List.mem_cons.1 hp with rfl|hp
  ·exact hnew
  ·exact hk.is p hp
 ·intro p hp;rcases List.mem_cons.1 hp with rfl|hp
  ·refine⟨λhs=>Nat.lt_irrefl _ (g.inv.lt _ (.inl hs)),λhs=>Nat.lt_irrefl _ (g.inv.lt _ (.inr hs)),λq x hx he=>?_,⟨by rw[<-g.reach.B];exact g.inv.base,.inl g.reach.size⟩⟩;obtain⟨_,⟨⟨cur,hcb,_⟩,_,_,_⟩,_⟩:=g.inv.obj q x hx;have he':(c.ρ q).blk=c.w.heap.size:=he;rw[he'] at hcb;simp at hcb
  ·exact hk.away p hp
 ·refine List.nodup_cons.2 ⟨λhmem=>?_,hk.nodup⟩;obtain⟨p,hp,he⟩:=List.mem_map.1 hmem;have:=(hM'.is p hp).lt;simp only at he;omega
theorem X0.mapNext {b r:Nat} {since c1 clock:Nat} {seen:Array Nat} {ents:Array MapEntry} {m:Operand} {qm:List Prop} (ho:o.op=.next m false) (hg:o.guard=none) (hd:Xjm nt o.dst=true)
  (hm:rd L m=(.sc (.pointer (some ⟨r,0,none⟩)),qm)) (hqm:X4v qm) (hold:∀ x∈ents.toList,x.born<since) (hsc:since<=c1)
  (h0:(leftOf ents seen).size=0->X0 P nt n0 Q (.ops ops l) K ⟨fr (Xwi o.dst (.tup [.sc (.bool false)]) L),hp G,n⟩ ((r,.blk (.mapIter (some b) since seen c1))::(b,.blk (.map ents clock))::μ))
  (h1:∀ e∈(leftOf ents seen).toList,X0 P nt n0 Q (.ops ops l) K ⟨fr (Xwi o.dst (.tup [.sc (.bool true),.sc e.key,.sc e.val]) L),hp G,n⟩ ((r,.blk (.mapIter (some b) since (seen.push e.born) clock))::(b,.blk (.map ents clock))::μ)) :
  X0 P nt n0 Q (.ops ops (o::l)) K ⟨fr L,hp G,n⟩ ((r,.blk (.mapIter (some b) since seen c1))::(b,.blk (.map ents clock))::μ):=by
 intro c0 H0 c act g hM Qx hQ R hR;refine X2a λK' hK'=>?_;rw[if_pos (by simp[Region.wanted,hg])];have em:act.eval m=.pointer (some ⟨r,0,none⟩):=by have:=g.ev m;rw[show evA (St.A ⟨fr L,hp G,n⟩) m=_ from X0n hm hqm] at this;exact this.sc_inv
 have hr:c.w.heap[r]?=some (.mapIter (some b) since seen c1):=hM.is (r,.blk _) (by simp);have hb:c.w.heap[b]?=some (.map ents clock):=hM.is (b,.blk _) (by simp);refine Oper.wpR (λd hd=>by rw[hd] at ho;cases ho) ?_;unfold Oper.wp;rcases run_next_at (P:=P) c.w o.type r b since c1 seen ents clock hr hb hold hsc with ⟨e0,hrun⟩|⟨e,he,w1,hw1,hrun⟩
 ·have hex:(execOp act.eval o).run P c.w=.ok (.value (.tuple #[.bool false])) c.w:=by
   obtain⟨dst,op,type,pos,after,guard⟩:=o;simp only at ho;subst ho;simp only[execOp,em,Sem.run_bind,hrun];rfl
  rw[hex];have g2:=g.next (c':=c) (dst:=o.dst) (a:=.tup [.sc (.bool false)]) (v:=.tuple #[.bool false]) (X7i hd) (.refl c) rfl (λb hb=>.inl hb) (.refl c (hp G)) (λq x hx=>.inr ⟨q,x,hx,rfl⟩) g.inv g.solo (Nat.le_refl _) (.tup rfl (by
   intro i a v ha hv
   match i with
   |0=>simp at ha hv;subst ha;subst hv;exact .sc
   |i+1=>simp at ha)) (by
   refine .tup λx hx=>?_;simp at hx;subst hx;exact .sc)
  have hk:=h0 e0;rw[X5u] at hk;exact hK' _ _ (hk c0 H0 c _ g2 hM.act Qx hQ R hR)
 ·have hex:(execOp act.eval o).run P c.w=.ok (.value (.tuple #[.bool true,e.key,e.val])) (Go.ChangeMaps.setBlock w1 r (.mapIter (some b) since (seen.push e.born) clock)):=by
   obtain⟨dst,op,type,pos,after,guard⟩:=o;simp only at ho;subst ho;simp only[execOp,em,Sem.run_bind,hrun];rfl
  rw[hex];have hs:(Go.ChangeMaps.setBlock w1 r (.mapIter (some b) since (seen.push e.born) clock)).heap=c.w.heap.setIfInBounds r (.mapIter (some b) since (seen.push e.born) clock):=by rcases hw1 with rfl|rfl<;>rfl
  obtain⟨g1,hM1⟩:=Xun (x':=.blk (.mapIter (some b) since (seen.push e.born) clock)) g hM hr (w':=Go.ChangeMaps.setBlock w1 r (.mapIter (some b) since (seen.push e.born) clock)) hs (by rcases hw1 with rfl|rfl<;>rfl) (by rcases hw1 with rfl|rfl<;>rfl) (by rcases hw1 with rfl|rfl<;>rfl)
   (by rcases hw1 with rfl|rfl;exact Nat.le_refl _;exact Nat.le_succ _) (by show _=_;rw[show({ c with w:=_ }:Ctx).w=_ from rfl,hs];exact(heap_set (o':=_) hr).1) rfl
  have g2:=g1.next (c':={ c with w:=_ }) (dst:=o.dst) (a:=.tup [.sc (.bool true),.sc e.key,.sc e.val]) (v:=.tuple #[.bool true,e.key,e.val]) (X7i hd) (.refl _) rfl (λb hb=>.inl hb) (.refl _ (hp G)) (λq x hx=>.inr ⟨q,x,hx,rfl⟩) g1.inv g1.solo (Nat.le_refl _) (.tup rfl (by
   intro i a v ha hv
   match i with
   |0=>simp at ha hv;subst ha;subst hv;exact .sc
   |1=>simp at ha hv;subst ha;subst hv;exact .sc
   |2=>simp at ha hv;subst ha;subst hv;exact .sc
   |i+3=>simp at ha)) (by
   refine .tup λx hx=>?_;simp at hx;rcases hx with rfl|rfl|rfl<;>exact .sc)
  have hk:=h1 e he;rw[X5u] at hk;exact hK' _ _ (hk c0 H0 _ _ g2 hM1.act Qx hQ R hR)
theorem X0.mapShutC {b r:Nat} {it:Go.Obj} {s:St} {clock:Nat} {ents:Array MapEntry} {es:List (Value×Value)} {code:Code} (hl:ents.toList.map (λe=>(e.key,e.val))=es) (hpw:ents.toList.Pairwise (λx y=>x.born<y.born)) (hcl:∀ e∈ents.toList,e.born<clock)
  (h:X0 P nt n0 Q (.code code) K s ((b,es)::μ)):X0 P nt n0 Q (.code code) K s ((r,.blk it)::(b,.blk (.map ents clock))::μ):=by
 intro c0 H0 c act g hM R hR;refine h c0 H0 c act g ⟨λp hp=>?_,λp hp=>?_,(List.nodup_cons.1 hM.nodup).2,hM.ds⟩ R hR
 ·rcases List.mem_cons.1 hp with rfl|hp
  ·exact⟨ents,clock,hM.is (b,.blk (.map ents clock)) (by simp),hl,hpw,hcl⟩
  ·exact hM.is p (by simp[hp])
 ·rcases List.mem_cons.1 hp with rfl|hp
  ·exact hM.away (b,.blk (.map ents clock)) (by simp)
  ·exact hM.away p (by simp[hp])
end
end Go.Av


namespace Go.Av
variable [Gls]
open Go.WideMaps
theorem X0a7 {P:Program} {t:TypeId} {q:IntKind} {n:Int} (d:Nat) (h:P.underlying t=some (.int q)) (hw:(Lit.int q n).wf=true):P.keyLits (d+1) t [.int q n]=some [.int q n]:=by
 unfold Program.keyLits;rw[h];simp[hw]
theorem Xyz {P : Program} {t : TypeId} {fs : Array Field} {cs : List Value} {ls : List (List Lit)} {d : Nat} (h : P.underlying t = some (.struct fs)) (hl : cs.length = P.cellsOf t) (hn : fs.all (λf => f.name != "_") = true)
  (hm:fs.toList.mapM (λf=>P.keyLits d f.type ((cs.drop f.offset).take (P.cellsOf f.type)))=some ls):P.keyLits (d+1) t cs=some ls.flatten:=by
 unfold Program.keyLits;rw[h];simp only[];rw[if_pos ⟨hl,hn⟩,hm];rfl
theorem X0a8 {P:Program} {t:TypeId} {n:Nat} {e:TypeId} {cs:List Value} {ls:List (List Lit)} {d:Nat} (h:P.underlying t=some (.array n e)) (hl:cs.length=P.cellsOf t)
  (hm:(List.range n).mapM (λi=>P.keyLits d e ((cs.drop (i*P.cellsOf e)).take (P.cellsOf e)))=some ls):P.keyLits (d+1) t cs=some ls.flatten:=by
 unfold Program.keyLits;rw[h];simp only[];rw[if_pos hl,hm];rfl
def KL (P:Program) (d:Nat) (t:TypeId) (cs:List Value):Prop:=∃ ls,P.keyLits d t cs=some ls
theorem KL.int {P:Program} {t:TypeId} {q:IntKind} {n:Int} {d:Nat} (h:P.underlying t=some (.int q)) (hw:(Lit.int q n).wf=true):KL P (d+1) t [.int q n]:=⟨_,X0a7 d h hw⟩
theorem KL.struct {P : Program} {t : TypeId} {fs : Array Field} {cs : List Value} {d : Nat} (h : P.underlying t = some (.struct fs)) (hl : cs.length = P.cellsOf t) (hn : fs.all (λf => f.name != "_") = true)
  (hm:∃ ls,fs.toList.mapM (λf=>P.keyLits d f.type ((cs.drop f.offset).take (P.cellsOf f.type)))=some ls):KL P (d+1) t cs:=by
 obtain⟨ls,hm⟩:=hm;exact⟨_,Xyz h hl hn hm⟩
theorem KL.arr {P:Program} {t:TypeId} {n:Nat} {e:TypeId} {cs:List Value} {d:Nat} (h:P.underlying t=some (.array n e)) (hl:cs.length=P.cellsOf t)
  (hm:∃ ls,(List.range n).mapM (λi=>P.keyLits d e ((cs.drop (i*P.cellsOf e)).take (P.cellsOf e)))=some ls):KL P (d+1) t cs:=by
 obtain⟨ls,hm⟩:=hm;exact⟨_,X0a8 h hl hm⟩
end Go.Av
namespace Go.D
section
variable {α:Type} [DecidableEq α]
def Xat (x:α):List (α×Int)->Int
 |[]=>0
 |(a,v)::r=>if a=x then v else Xat x r
def Xhb (x:α) (v:Int):List (α×Int)->List (α×Int)
 |[]=>[(x,v)]
 |(a,w)::r=>if a=x then (x,v)::r else (a,w)::Xhb x v r
def Xew (ks:List (α×Int)):List α->List (α×Int)
 |[]=>ks
 |x::xs=>Xew (Xhb x (IntKind.i64.wrap (Xat x ks+1)) ks) xs
theorem Xhy (x:α) (v:Int):∀ ks:List (α×Int),Xat x (Xhb x v ks)=v:=by
 intro ks
 induction ks with
 |nil=>simp[Xhb,Xat]
 |cons p r ih=>obtain⟨a,w⟩:=p;by_cases h:a=x<;>simp[Xhb,Xat,h,ih]
theorem Xcf {x y:α} (hne:y≠x) (v:Int):∀ ks:List (α×Int),Xat y (Xhb x v ks)=Xat y ks:=by
 intro ks
 induction ks with
 |nil=>simp[Xhb,Xat,Ne.symm hne]
 |cons p r ih =>
  obtain⟨a,w⟩:=p;by_cases h:a=x
  ·subst h;simp[Xhb,Xat,Ne.symm hne]
  ·by_cases h2:a=y
   ·subst h2;simp[Xhb,Xat,h]
   ·simp[Xhb,Xat,h,h2,ih]
end
end Go.D
namespace Go.Av
open Go.D
section
variable {α:Type} [DecidableEq α] {e:α->Value}
def kvE (e:α->Value) (p:α×Int):Value×Value:=(e p.1,.int .i64 p.2)
theorem X06u (he:∀ a b,e a=e b->a=b) (x:α) (v:Int):∀ ks:List (α×Int),Xkv (e x) (.int .i64 v) (ks.map (kvE e))=(Xhb x v ks).map (kvE e):=by
 intro ks
 induction ks with
 |nil=>simp[Xkv,Xhb,kvE]
 |cons p r ih =>
  obtain⟨a,w⟩:=p;by_cases h:a=x
  ·subst h;simp[Xkv,Xhb,kvE]
  ·have h2:¬ e a=e x:=λq=>h (he _ _ q);have ih':Xkv (e x) (.int .i64 v) (r.map (kvE e))=(Xhb x v r).map (kvE e):=ih;simp[Xkv,Xhb,kvE,h,h2];exact ih'
theorem X06v (he:∀ a b,e a=e b->a=b) (x:α):∀ ks:List (α×Int),(Xq7 (e x) (ks.map (kvE e))).getD (.int .i64 0)=.int .i64 (Xat x ks):=by
 intro ks
 induction ks with
 |nil=>simp[Xq7,Xat]
 |cons p r ih =>
  obtain⟨a,w⟩:=p;by_cases h:a=x
  ·subst h;simp[Xq7,Xat,kvE]
  ·have h2:¬ e a=e x:=λq=>h (he _ _ q);simp[Xq7,Xat,kvE,h,h2];exact ih
end
theorem MOk.drop {n0:Nat} {c0 c:Ctx} {H0 H:X0c} {b:Nat} {l:List (Value×Value)} {μ:Mu} {act:Act} (h:MOk n0 c0 H0 c H ((b,.map l)::μ) act):MOk n0 c0 H0 c H μ act :=
 ⟨λq hq=>h.is q (List.mem_cons_of_mem _ hq),λq hq=>h.away q (List.mem_cons_of_mem _ hq),(List.nodup_cons.1 h.nodup).2,h.ds⟩
end Go.Av


namespace Go.D
section
variable {α:Type} [DecidableEq α]
def Xmq (x:α):List (α×Int)->List (α×Int)
 |[]=>[]
 |(a,w)::r=>if a=x then r else (a,w)::Xmq x r
end
def X82:List (Int×Int)->Int
 |[] => -1
 |(i,n)::r=>bif decide (n=0)&&(decide (X82 r<0)||decide (i<X82 r)) then i else X82 r
def Xfk (ks:List (Int×Int)) (k:Int):Nat->List (Int×Int)
 |0=>ks
 |n+1=>Xfk (Xhb k 0 ks) (k+1) n
def Xaf (nx:Int) (ks:List (Int×Int)):List (Int×Int)->List (Int×Int)
 |[]=>ks
 |c::cs=>Xaf nx (bif decide (c.1=nx) then Xhb c.2 (IntKind.i64.wrap (Xat c.2 ks - 1)) ks else ks) cs
def Xvc (cs:List (Int×Int)):Nat->List (Int×Int)->List Int->Option (List Int)
 |0,_,_=>none
 |f+1,ks,out=>bif decide ((0:Int)<(ks.length:Int)) then bif decide (X82 ks<0) then some out else Xvc cs f (Xaf (X82 ks) (Xmq (X82 ks) ks) cs) (out++[X82 ks]) else some out
def ordL (n:Nat) (cs:List (Int×Int)):Option (List Int):=Xvc cs 1000 (Xew (Xfk [] 0 n) (cs.map (·.2))) []
def Xd5 (nx:Int) (S:Int×Int->Prop):Prop:=(nx = -1/\∀ p,S p->p.2≠0)\/(0<=nx/\S (nx,0)/\∀ p,S p->p.2=0->nx<=p.1)
theorem Xd5.uniq {a b:Int} {S:Int×Int->Prop} (h:Xd5 a S) (k:Xd5 b S):a=b:=by
 rcases h with ⟨h1,h2⟩|⟨h1,h2,h3⟩<;>rcases k with ⟨k1,k2⟩|⟨k1,k2,k3⟩
 ·rw[h1,k1]
 ·exact absurd rfl (h2 _ k2)
 ·exact absurd rfl (k2 _ h2)
 ·have:=h3 _ k2 rfl;have:=k3 _ h2 rfl;simp only at *;omega
theorem Xd5.step {nx:Int} {S S':Int×Int->Prop} (h:Xd5 nx S) (i n:Int) (hi:0<=i) (hS:∀ p,S' p↔p=(i,n)\/S p):Xd5 (bif decide (n=0)&&(decide (nx<0)||decide (i<nx)) then i else nx) S':=by
 cases hb:(decide (n=0)&&(decide (nx<0)||decide (i<nx))) with
 |true =>
  rw[cond_true];simp only[Bool.and_eq_true,Bool.or_eq_true,decide_eq_true_eq] at hb;obtain⟨rfl,hb⟩:=hb;refine .inr ⟨hi,(hS _).2 (.inl rfl),λp hp h0=>?_⟩;rcases(hS p).1 hp with rfl|hp
  ·exact Int.le_refl _
  ·rcases h with ⟨h1,h2⟩|⟨h1,h2,h3⟩
   ·exact absurd h0 (h2 p hp)
   ·have:=h3 p hp h0;omega
 |false =>
  rw[cond_false];have hb':¬ (n=0/\(nx<0\/i<nx)):=by
   intro hh;have:(decide (n=0)&&(decide (nx<0)||decide (i<nx)))=true:=by simp[hh]
   rw[hb] at this;cases this
  rcases h with ⟨h1,h2⟩|⟨h1,h2,h3⟩
  ·refine .inl ⟨h1,λp hp h0=>?_⟩;rcases(hS p).1 hp with rfl|hp
   ·exact hb' ⟨h0,.inl om⟩
   ·exact h2 p hp h0
  ·refine .inr ⟨h1,(hS _).2 (.inr h2),λp hp h0=>?_⟩;rcases(hS p).1 hp with rfl|hp
   ·by_cases hc:i<nx
    ·exact absurd ⟨h0,.inr hc⟩ hb'
    ·show nx<=i;omega
   ·exact h3 p hp h0
theorem Xqw:∀ (l:List (Int×Int)),(∀ p∈l,0<=p.1)->Xd5 (X82 l) (·∈l):=by
 intro l
 induction l with
 |nil=>intro _;exact .inl ⟨rfl,λp hp=>by simp at hp⟩
 |cons a r ih =>
  obtain⟨i,n⟩:=a;intro h;exact(ih λp hp=>h p (List.mem_cons_of_mem _ hp)).step i n (h (i,n) (by simp)) λp=>List.mem_cons
theorem Xs2 {x v:Int} (hx:0<=x):∀ {l:List (Int×Int)},(∀ p∈l,0<=p.1)->∀ p∈Xhb x v l,0<=p.1:=by
 intro l
 induction l with
 |nil=>intro _ p hp;simp[Xhb] at hp;subst hp;exact hx
 |cons a r ih =>
  obtain⟨a,w⟩:=a;intro h p hp;simp only[Xhb] at hp;split at hp
  ·rcases List.mem_cons.1 hp with rfl|hp
   ·exact hx
   ·exact h p (List.mem_cons_of_mem _ hp)
  ·rcases List.mem_cons.1 hp with rfl|hp
   ·exact h (a,w) (by simp)
   ·exact ih (λq hq=>h q (List.mem_cons_of_mem _ hq)) p hp
theorem X00e {x:Int}:∀ {l:List (Int×Int)},(∀ p∈l,0<=p.1)->∀ p∈Xmq x l,0<=p.1:=by
 intro l
 induction l with
 |nil=>intro _ p hp;simp[Xmq] at hp
 |cons a r ih =>
  obtain⟨a,w⟩:=a;intro h p hp;simp only[Xmq] at hp;split at hp
  ·exact h p (List.mem_cons_of_mem _ hp)
  ·rcases List.mem_cons.1 hp with rfl|hp
   ·exact h (a,w) (by simp)
   ·exact ih (λq hq=>h q (List.mem_cons_of_mem _ hq)) p hp
theorem Xtx:∀ (n:Nat) {k:Int} {l:List (Int×Int)},0<=k->(∀ p∈l,0<=p.1)->∀ p∈Xfk l k n,0<=p.1
 |0,_,_,_,h=>h
 |n+1,_,_,hk,h=>Xtx n om (Xs2 hk h)
theorem Xrk:∀ (cs:List Int) {l:List (Int×Int)},(∀ c∈cs,0<=c)->(∀ p∈l,0<=p.1)->∀ p∈Xew l cs,0<=p.1
 |[],_,_,h=>h
 |c::cs,_,hc,h=>Xrk cs (λx hx=>hc x (List.mem_cons_of_mem _ hx)) (Xs2 (hc c (by simp)) h)
theorem Xlv (nx:Int):∀ (cs:List (Int×Int)) {l:List (Int×Int)},(∀ c∈cs,0<=c.2)->(∀ p∈l,0<=p.1)->∀ p∈Xaf nx l cs,0<=p.1
 |[],_,_,h=>h
 |c::cs,l,hc,h=>Xlv nx cs (λx hx=>hc x (List.mem_cons_of_mem _ hx)) (by
  cases decide (c.1=nx) with
  |true=>exact Xs2 (hc c (by simp)) h
  |false=>exact h)
end Go.D
namespace Go.Av
open Go.D
def iV (z:Int):Value:=.int .i64 z
theorem Xzr (a b:Int) (h:iV a=iV b):a=b:=by simpa[iV] using h
section
variable {α:Type} [DecidableEq α] {e:α->Value}
theorem X06w (he:∀ a b,e a=e b->a=b) (x:α):∀ ks:List (α×Int),Xrd (e x) (ks.map (kvE e))=(Xmq x ks).map (kvE e):=by
 intro ks
 induction ks with
 |nil=>simp[Xrd,Xmq]
 |cons p r ih =>
  obtain⟨a,w⟩:=p;by_cases h:a=x
  ·subst h;simp[Xrd,Xmq,kvE]
  ·have h2:¬ e a=e x:=λq=>h (he _ _ q);have ih':Xrd (e x) (r.map (kvE e))=(Xmq x r).map (kvE e):=ih;simp[Xrd,Xmq,kvE,h,h2];exact ih'
end
theorem X051 (x:Int) (ks:List (Int×Int)):(Xq7 (.int .i64 x) (ks.map (kvE iV))).getD (.int .i64 0)=.int .i64 (Xat x ks):=X06v Xzr x ks
theorem Xye (x v:Int) (ks:List (Int×Int)):Xkv (.int .i64 x) (.int .i64 v) (ks.map (kvE iV))=(Xhb x v ks).map (kvE iV):=X06u Xzr x v ks
theorem X052 (x:Int) (ks:List (Int×Int)):Xrd (.int .i64 x) (ks.map (kvE iV))=(Xmq x ks).map (kvE iV):=X06w Xzr x ks
def Xup (ents:Array MapEntry) (seen:Array Nat) (p:Int×Int):Prop:=∃ e∈ents.toList,seen.contains e.born=true/\(e.key,e.val)=kvE iV p
theorem X08s {l:List MapEntry} (h:l.Pairwise (λx y=>x.born<y.born)) {x y:MapEntry} (hx:x∈l) (hy:y∈l) (he:x.born=y.born):x=y:=by
 induction l with
 |nil=>cases hx
 |cons a r ih =>
  obtain⟨h1,h2⟩:=List.pairwise_cons.1 h;rcases List.mem_cons.1 hx with ex|hx'<;>rcases List.mem_cons.1 hy with ey|hy'
  ·rw[ex,ey]
  ·exact absurd he (Nat.ne_of_lt (ex▸h1 y hy'))
  ·exact absurd he.symm (Nat.ne_of_lt (ey▸h1 x hx'))
  ·exact ih h2 hx' hy'
theorem Xl1 {ents:Array MapEntry} {seen:Array Nat} {e:MapEntry}:e∈(leftOf ents seen).toList↔e∈ents.toList/\seen.contains e.born=false:=by
 simp[leftOf]
theorem X06t {ents:Array MapEntry} {seen:Array Nat} {e:MapEntry} (h:e∈(leftOf ents seen).toList):(leftOf ents (seen.push e.born)).size<(leftOf ents seen).size:=by
 have h1:(leftOf ents (seen.push e.born)).toList=(leftOf ents seen).toList.filter (λx=>x.born != e.born):=by
  unfold leftOf;rw[Array.toList_filter,Array.toList_filter,List.filter_filter];congr 1
  funext x
  rw[Array.contains_push];cases seen.contains x.born<;>simp[bne]
 rw[<-Array.length_toList,<-Array.length_toList,h1];refine Nat.lt_of_le_of_ne (List.length_filter_le _ _) λhl=>?_;have:=List.filter_eq_self.1 (List.Sublist.eq_of_length List.filter_sublist hl) e h;simp at this
theorem Xup.step {ents:Array MapEntry} {seen:Array Nat} (hpw:ents.toList.Pairwise (λx y=>x.born<y.born)) {e:MapEntry} {i n:Int} (he:e∈(leftOf ents seen).toList) (hv:(e.key,e.val)=kvE iV (i,n)) (p:Int×Int):Xup ents (seen.push e.born) p↔p=(i,n)\/Xup ents seen p:=by
 have he':=(Xl1.1 he).1;constructor
 ·rintro⟨x,hx,hs,hp⟩;rw[Array.contains_push] at hs;by_cases hb:x.born=e.born
  ·have:=X08s hpw hx he' hb;subst this;rw[hv] at hp;refine .inl ?_;obtain⟨a,b⟩:=p;simp[kvE,iV] at hp;rw[hp.1,hp.2]
  ·refine .inr ⟨x,hx,?_,hp⟩;simpa[hb] using hs
 ·rintro(rfl|⟨x,hx,hs,hp⟩)
  ·exact⟨e,he',by rw[Array.contains_push];simp,hv⟩
  ·exact⟨x,hx,by rw[Array.contains_push,hs];rfl,hp⟩
theorem Xup.all {ents:Array MapEntry} {seen:Array Nat} {ks:List (Int×Int)} (hl:ents.toList.map (λe=>(e.key,e.val))=ks.map (kvE iV)) (h0:(leftOf ents seen).size=0) (p:Int×Int):Xup ents seen p↔p∈ks:=by
 have hinj:∀ a b:Int×Int,kvE iV a=kvE iV b->a=b:=by
  rintro⟨a,b⟩ ⟨c,d⟩ h;simp[kvE,iV] at h;rw[h.1,h.2]
 constructor
 ·rintro⟨x,hx,_,hp⟩;have:(x.key,x.val)∈ks.map (kvE iV):=by rw[<-hl];exact List.mem_map.2 ⟨x,hx,rfl⟩
  obtain⟨q,hq,e⟩:=List.mem_map.1 this;rw[hp] at e;rw[<-hinj _ _ e];exact hq
 ·intro hp;have:kvE iV p∈ents.toList.map (λe=>(e.key,e.val)):=by rw[hl];exact List.mem_map.2 ⟨p,hp,rfl⟩
  obtain⟨x,hx,e⟩:=List.mem_map.1 this;refine⟨x,hx,?_,e⟩
  cases hs:seen.contains x.born with
  |true=>rfl
  |false =>
   have:x∈(leftOf ents seen).toList:=Xl1.2 ⟨hx,hs⟩;rw[<-Array.length_toList] at h0;rw[List.eq_nil_of_length_eq_zero h0] at this;cases this
theorem Xup.none {ents:Array MapEntry} (p:Int×Int):¬ Xup ents #[] p:=by rintro⟨x,_,h,_⟩;simp at h
theorem Xvj {ents:Array MapEntry} {seen:Array Nat} {ks:List (Int×Int)} {nx:Int} (hl:ents.toList.map (λe=>(e.key,e.val))=ks.map (kvE iV)) (h0:(leftOf ents seen).size=0) (hge:∀ p∈ks,0<=p.1) (h:Xd5 nx (Xup ents seen)):X82 ks=nx:=by
 have e:Xup ents seen=(·∈ks):=funext λp=>propext (Xup.all hl h0 p);rw[e] at h;exact(Xqw ks hge).uniq h
theorem X08d {ents:Array MapEntry} {ks:List (Int×Int)} (hl:ents.toList.map (λe=>(e.key,e.val))=ks.map (kvE iV)) {e:MapEntry} (he:e∈ents.toList):∃ p∈ks,e.key=.int .i64 p.1/\e.val=.int .i64 p.2:=by
 have:(e.key,e.val)∈ks.map (kvE iV):=by rw[<-hl];exact List.mem_map.2 ⟨e,he,rfl⟩
 obtain⟨q,hq,e'⟩:=List.mem_map.1 this;simp[kvE,iV] at e';exact⟨q,hq,e'.1.symm,e'.2.symm⟩
theorem Xht {ents:Array MapEntry}:Xd5 (-1) (Xup ents #[]):=.inl ⟨rfl,λp hp=>absurd hp (Xup.none p)⟩
end Go.Av


namespace Go.Av
variable [Gls]
inductive Tab (V:Type) where
 |leaf
 |node (k:Nat) (v:V) (l r:Tab V)
noncomputable def Tab.find {V:Type} (t:Tab V):Nat->Option V :=
 Tab.rec (motive:=λ_=>Nat->Option V) (λ_=>none) (λk v _ _ ihl ihr n=>bif Nat.beq n k then some v else bif Nat.blt n k then ihl n else ihr n) t
theorem Tab.find_node {V:Type} (k:Nat) (v:V) (l r:Tab V) (t:Nat):(Tab.node k v l r).find t=bif Nat.beq t k then some v else bif Nat.blt t k then l.find t else r.find t:=rfl
def Tab.All {V:Type} (p:Nat->V->Prop):Tab V->Prop
 |.leaf=>True
 |.node k v l r=>p k v/\l.All p/\r.All p
theorem Tab.find_all {V:Type} {p:Nat->V->Prop}:∀ (t:Tab V),t.All p->∀ k v,t.find k=some v->p k v:=by
 intro t
 induction t with
 |leaf=>intro _ k v h;cases h
 |node k' v' l r ihl ihr =>
  intro h k v hf;obtain⟨h1,h2,h3⟩:=h;rw[Tab.find_node] at hf
  cases hb:Nat.beq k k' with
  |true =>
   rw[hb,cond_true] at hf;cases hf
   have:k=k':=Nat.eq_of_beq_eq_true hb;subst this;exact h1
  |false =>
   rw[hb,cond_false] at hf
   cases hlt:Nat.blt k k' with
   |true=>rw[hlt,cond_true] at hf;exact ihl h2 k v hf
   |false=>rw[hlt,cond_false] at hf;exact ihr h3 k v hf
theorem X02a {P:Program} {t:Tab TI} (h:t.All (X2h P)):Xf0 P t.find:=λk v hf=>t.find_all h k v hf
theorem X6w {P:Program} {t:Nat} {i:TypeInfo} {d:TypeDesc} {z:Value} (hi:P.info? t=some i) (hd:P.underlying t=some d) (hz:i.zero=some z)
  (hw:((X33 z).whole&&Nat.beq (X33 z).cells.length i.size)=true):X2h P t ⟨Xu d,i.size,i.bytes,z,false⟩:=by
 simp only[Bool.and_eq_true] at hw;exact⟨⟨i,d,hi,hd,hz,rfl,rfl,rfl⟩,⟨hw.1,Nat.eq_of_beq_eq_true hw.2⟩,λh=>by cases h⟩
theorem Xey {P:Program} {t:Nat} {i:TypeInfo} {d:TypeDesc} {z:Value} (hi:P.info? t=some i) (hd:P.underlying t=some d) (hz:i.zero=some z)
  (hw:((X33 z).whole&&Nat.beq (X33 z).cells.length i.size)=true) (h1:P.stoodInHeld t=false) (h2:P.eqGuardType P.depth t=false)
  (h3 : (match d with | .struct fs => fs.toList.all (λf => !(f.name == "_")) | _ => true) = true) : X2h P t ⟨Xu d, i.size, i.bytes, z, true⟩ := by
 simp only[Bool.and_eq_true] at hw;refine⟨⟨i,d,hi,hd,hz,rfl,rfl,rfl⟩,⟨hw.1,Nat.eq_of_beq_eq_true hw.2⟩,λ_=>⟨h1,h2,λfs hfs f hf=>?_⟩⟩;rw[hd] at hfs;cases hfs
 have:=List.all_eq_true.1 h3 f (by simpa using hf);simpa using this
def Xd (fn:Func):Code:=fn.body.getD .skip
end Go.Av
